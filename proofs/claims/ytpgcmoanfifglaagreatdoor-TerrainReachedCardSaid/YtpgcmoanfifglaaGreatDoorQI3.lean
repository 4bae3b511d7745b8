/- A part of the proof of a row and its tied card: QI3. -/
import Derived.Test.YtpgcmoanfifglaaGreatDoorQI2
set_option linter.all false
section
namespace Go.Proofs.YtpgcmoanfifglaaGreatDoor
open Go Go.Sep Go.Proofs
set_option maxRecDepth 100000
set_option maxHeartbeats 4000000
def fF (u0:Int)(a:Int)(b:Int):Option Bool:=
 cond (decide (a<=u0)) (some (decide (u0<=b))) (some false)
theorem gD {ro:Addr->Option Value}(u0:Int)(a:Int)(b:Int){r:Bool}(h:fF u0 a b=some r):aE Tryz.prog 114 #[.int .i64 u0,.int .i64 a,.int .i64 b] ⟨ro,[]⟩ (fun v _=>v= .bool r):=by
 unfold fF at h;refine aE.go Tryz.func114 rfl Tryz.ntmps114 Tryz.results114 (by simp) fun main J hJ A d hd hs=>?_;have e:=hs 0;have k1:=hs 1;have f:=hs 2;clear hs;refine ah hJ ?_;simp only[*,go_sem];refine ah hJ ?_;revert h;refine cS (fun c h=>?_) fun c h=>?_
 ·obtain rfl:=sI h;try simp only[*,go_sem]
  refine az ?_;simp only[*,go_sem]
 obtain rfl:=sI h;try simp only[*,go_sem]
 refine az ?_;simp only[*,go_sem]
def gd (u0:Int):Option an:=
 some (⟨u0,1⟩:an)
theorem jy {ro:Addr->Option Value}(u0:Int){r:an}(h:gd u0=some r):aE Tryz.prog 83 #[.int .i64 u0] ⟨ro,[]⟩ (fun v _=>v=r.v):=by
 unfold gd at h;obtain rfl:=sI h;refine aE.go Tryz.func83 rfl Tryz.ntmps83 Tryz.results83 (by simp) fun main J hJ A a hd hs=>?_;have b:=hs 0;clear hs;refine ah hJ ?_;simp only[*,go_sem];refine aA fun c r1 n1=>?_;try simp only[au] at n1
 try simp only[*,go_sem]
 refine ah hJ ?_;simp only[*,go_sem];refine az ?_;simp only[*,go_sem]
def ep (u0:an)(a:an):Option Bool:=
 some (decide ((IntKind.i64.wrap (u0.num*a.den))<(IntKind.i64.wrap (a.num*u0.den))))
theorem iW {ro:Addr->Option Value}(u0:an)(a:an){r:Bool}(h:ep u0 a=some r):aE Tryz.prog 76 #[.agg #[.int .i64 u0.num,.int .i64 u0.den],.agg #[.int .i64 a.num,.int .i64 a.den]] ⟨ro,[]⟩ (fun v _=>v= .bool r):=by
 unfold ep at h;obtain rfl:=sI h;refine aE.go Tryz.func76 rfl Tryz.ntmps76 Tryz.results76 (by simp) fun main J hJ A b hd hs=>?_;have c:=hs 0;have k1:=hs 1;clear hs;refine ah hJ ?_;simp only[*,go_sem];refine aA fun d r1 n1=>?_;try simp only[au] at n1
 refine aA fun b2 r2 n2=>?_;try simp only[au] at n2
 try simp only[*,go_sem]
 refine ah hJ ?_;simp only[*,go_sem];refine az ?_;simp only[*,go_sem]
def pU (u0:cC)(a:Int)(b:Int):Option Bool:=
 cond (decide (a<=u0.low)) (cond (decide (u0.low<=u0.high)) (some (decide (u0.high<=b))) (some false)) (some false)
theorem AR {ro:Addr->Option Value}(u0:cC)(a:Int)(b:Int){r:Bool}(h:pU u0 a b=some r):aE Tryz.prog 70 #[.agg #[.int .i64 u0.low,.int .i64 u0.high],.int .i64 a,.int .i64 b] ⟨ro,[]⟩ (fun v _=>v= .bool r):=by
 unfold pU at h;refine aE.go Tryz.func70 rfl Tryz.ntmps70 Tryz.results70 (by simp) fun main J hJ A e hd hs=>?_;have f:=hs 0;have k1:=hs 1;have g:=hs 2;clear hs;refine ah hJ ?_;simp only[*,go_sem];refine aA fun i r1 n1=>?_;try simp only[au] at n1
 try simp only[*,go_sem]
 refine ah hJ ?_;revert h;refine cS (fun c h=>?_) fun c h=>?_
 ·revert h;refine cS (fun d h=>?_) fun d h=>?_
  ·obtain rfl:=sI h;(try simp only[*,go_sem]);refine az ?_;simp only[*,go_sem]
  obtain rfl:=sI h;try simp only[*,go_sem]
  refine az ?_;simp only[*,go_sem]
 obtain rfl:=sI h;try simp only[*,go_sem]
 refine az ?_;simp only[*,go_sem]
def iX (u0:bB)(a:bB):Option Bool:=
 ag (ep u0.high a.high) fun b=>some b
theorem r9 {ro:Addr->Option Value}(u0:bB)(a:bB){r:Bool}(h:iX u0 a=some r):aE Tryz.prog 88 #[.agg #[.int .i64 u0.spot.aL,.int .i64 u0.spot.high.num,.int .i64 u0.spot.high.den,.int .i64 u0.at_,.int .i64 u0.high.num,.int .i64 u0.high.den],.agg #[.int .i64 a.spot.aL,.int .i64 a.spot.high.num,.int .i64 a.spot.high.den,.int .i64 a.at_,.int .i64 a.high.num,.int .i64 a.high.den]] ⟨ro,[]⟩ (fun v _=>v= .bool r):=by
 unfold iX at h;refine aE.go Tryz.func88 rfl Tryz.ntmps88 Tryz.results88 (by simp) fun main J hJ A c hd hs=>?_;have d:=hs 0;have k1:=hs 1;clear hs;refine ah hJ ?_;simp only[*,go_sem];refine aA fun e r1 n1=>?_;try simp only[au] at n1
 refine aA fun b2 r2 n2=>?_;try simp only[au] at n2
 try simp only[*,go_sem]
 refine ah hJ ?_;revert h;refine bS fun f b h=>?_;obtain rfl:=sI h;simp only[*,go_sem];refine bn hJ _ (iW u0.high a.high b) (aJ ?_);try simp only[*,go_sem]
 refine az ?_;simp only[*,go_sem]
def gW (u0:Int)(b:aj):Option Int:=
 ag (fF u0 1 20) fun a=>cond (!a) (some 1) (some 0)
theorem vQ {ro:Addr->Option Value}(u0:Int)(b:aj){s1 c d f:Value}(a:bL ro b s1 c d f){r:Int}(h:gW u0 b=some r):aE Tryz.prog 96 #[.int .i64 u0,bv b s1 c d f] ⟨ro,[]⟩ (fun v _=>v= .int .i64 r):=by
 obtain ⟨d3,c4,rfl,k,l,-⟩:=id a.e;obtain ⟨d10,m,rfl,n,o,-⟩:=id a.p;obtain ⟨d17,q,rfl,s,u,-⟩:=id a.y;obtain ⟨d24,w,rfl,x,z,-⟩:=id a.t;unfold gW at h;refine aE.go Tryz.func96 rfl Tryz.ntmps96 Tryz.results96 (by simp) fun main J hJ A B hd hs=>?_;have C:=hs 0;have k1:=hs 1;clear hs;refine ah hJ ?_;simp only[*,go_sem];refine aA fun D E g=>?_;try simp only[au] at g
 try simp only[*,go_sem]
 refine af hJ (ah hJ ?_);revert h;refine bS fun F i h=>?_;simp only[*,go_sem];refine bn hJ _ (gD u0 1 20 i) (aJ ?_);try simp only[*,go_sem]
 revert h;refine jC hJ (by simp only[*,go_sem]) (fun j h=>?_) fun j h=>?_
 ·obtain rfl:=sI h;refine ah hJ ?_;simp only[*,go_sem];refine az ?_;simp only[*,go_sem]
 obtain rfl:=sI h;refine aH hJ (af hJ ?_);refine ak hJ ?_;simp only[*,go_sem];refine az ?_;simp only[*,go_sem]
def eM (u0:bf)(c:aj):Option Int:=
 ag (fF u0.back 1 20) fun a=>cond (!a) (some 1) (ag (fF u0.high 0 60) fun b=>cond (!b) (some 1) (some 0))
theorem sd {ro:Addr->Option Value}(u0:bf)(b:aj){s1 c d f:Value}(a:bL ro b s1 c d f){r:Int}(h:eM u0 b=some r):aE Tryz.prog 78 #[.agg #[.int .i64 u0.back,.int .i64 u0.high],bv b s1 c d f] ⟨ro,[]⟩ (fun v _=>v= .int .i64 r):=by
 obtain ⟨d3,c4,rfl,n,o,-⟩:=id a.e;obtain ⟨d10,q,rfl,s,u,-⟩:=id a.p;obtain ⟨d17,w,rfl,x,z,-⟩:=id a.y;obtain ⟨d24,B,rfl,C,D,-⟩:=id a.t;unfold eM at h;refine aE.go Tryz.func78 rfl Tryz.ntmps78 Tryz.results78 (by simp) fun main J hJ A E hd hs=>?_;have F:=hs 0;have k1:=hs 1;clear hs;refine ah hJ ?_;simp only[*,go_sem];refine aA fun G H g=>?_;try simp only[au] at g
 refine aA fun I K i=>?_;try simp only[au] at i
 try simp only[*,go_sem]
 refine af hJ (ah hJ ?_);revert h;refine bS fun L j h=>?_;simp only[*,go_sem];refine bn hJ _ (gD u0.back 1 20 j) (aJ ?_);revert h;refine cS (fun k h=>?_) fun k h=>?_
 ·obtain rfl:=sI h;try simp only[*,go_sem]
  refine bE hJ (by simp only[*,go_sem]) ?_;refine ah hJ ?_;simp only[*,go_sem];refine az ?_;simp only[*,go_sem]
 revert h;refine bS fun M l h=>?_;try simp only[*,go_sem]
 refine bn hJ _ (gD u0.high 0 60 l) (aJ ?_);try simp only[*,go_sem]
 revert h;refine jC hJ (by simp only[*,go_sem]) (fun m h=>?_) fun m h=>?_
 ·obtain rfl:=sI h;refine ah hJ ?_;simp only[*,go_sem];refine az ?_;simp only[*,go_sem]
 obtain rfl:=sI h;refine aH hJ (af hJ ?_);refine ak hJ ?_;simp only[*,go_sem];refine az ?_;simp only[*,go_sem]
def nJ (u0:aj)(a:Int):Option Bool:=
 ag (fF a 0 (IntKind.i64.wrap ((u0.av.length:Int) - 1))) fun b=>some b
theorem AS {ro:Addr->Option Value}(u0:aj){s1 c d f:Value}(a:bL ro u0 s1 c d f)(b:Int){r:Bool}(h:nJ u0 b=some r):aE Tryz.prog 120 #[bv u0 s1 c d f,.int .i64 b] ⟨ro,[]⟩ (fun v _=>v= .bool r):=by
 obtain ⟨d3,c4,rfl,j,k,-⟩:=id a.e;obtain ⟨d10,l,rfl,m,n,-⟩:=id a.p;obtain ⟨d17,o,rfl,q,s,-⟩:=id a.y;obtain ⟨d24,u,rfl,w,x,-⟩:=id a.t;unfold nJ at h;refine aE.go Tryz.func120 rfl Tryz.ntmps120 Tryz.results120 (by simp) fun main J hJ A z hd hs=>?_;have B:=hs 0;have k1:=hs 1;clear hs;refine ah hJ ?_;simp only[*,go_sem];refine aA fun C D g=>?_;try simp only[au] at g
 try simp only[*,go_sem]
 refine ah hJ ?_;revert h;refine bS fun E i h=>?_;obtain rfl:=sI h;simp only[*,go_sem];refine bn hJ _ (gD b 0 (IntKind.i64.wrap ((u0.av.length:Int) - 1)) i) (aJ ?_);try simp only[*,go_sem]
 refine az ?_;simp only[*,go_sem]
def gf (u0:aj)(a:Int):Option Bool:=
 ag (aY u0.ax 0) fun b=>ag (aY u0.ax (IntKind.i64.wrap ((u0.ax.length:Int) - 1))) fun c=>ag (fF a b.aL c.aL) fun d=>some d
theorem se {ro:Addr->Option Value}(u0:aj){s1 f g i:Value}(a:bL ro u0 s1 f g i)(b:Int){r:Bool}(h:gf u0 b=some r):aE Tryz.prog 140 #[bv u0 s1 f g i,.int .i64 b] ⟨ro,[]⟩ (fun v _=>v= .bool r):=by
 obtain ⟨d3,c4,rfl,E,G,-⟩:=id a.e;unfold gf at h;refine aE.go Tryz.func140 rfl Tryz.ntmps140 Tryz.results140 (by simp) fun main J hJ A H hd hs=>?_;have I:=hs 0;have k1:=hs 1;clear hs;refine ah hJ ?_;simp only[*,go_sem];refine aA fun K L n=>?_;try simp only[au] at n
 try simp only[*,go_sem]
 refine af hJ ?_;refine cP hJ mixed 20 1 (by simp only[*,go_sem]) (by kernel_rfl) ?_;revert h;refine bS fun j o h=>?_;obtain ⟨M,N,k⟩:=cE o;obtain ⟨O,p,q,s,c⟩:=a.e.el _ _ k;obtain rfl:p=j.cells:=s;cases q;have t:=c 0 _ rfl;simp only[go_sem] at t;have u:=c 1 _ rfl;simp only[go_sem] at u;clear c k;revert h;refine bS fun l w h=>?_;obtain ⟨P,Q,m⟩:=cE w;obtain ⟨R,x,y,z,d⟩:=a.e.el _ _ m;obtain rfl:x=l.cells:=z;cases y;have B:=d 0 _ rfl;simp only[go_sem] at B;have C:=d 1 _ rfl;simp only[go_sem] at C;clear d m;revert h;refine bS fun S D h=>?_;obtain rfl:=sI h;try simp only[*,go_sem]
 refine ⟨_,bC hJ fun F T=>gD b j.aL l.aL D,b7 ?_⟩;try simp only[*,go_sem]
 refine az ?_;simp only[*,go_sem]
def eN (u0:Int)(a:aj):Option Int:=
 ag (nJ a u0) fun b=>cond (!b) (some 6) (some 0)
theorem si {ro:Addr->Option Value}(u0:Int)(b:aj){s1 c d f:Value}(a:bL ro b s1 c d f){r:Int}(h:eN u0 b=some r):aE Tryz.prog 68 #[.int .i64 u0,bv b s1 c d f] ⟨ro,[]⟩ (fun v _=>v= .int .i64 r):=by
 obtain ⟨d3,c4,rfl,k,l,-⟩:=id a.e;obtain ⟨d10,m,rfl,n,o,-⟩:=id a.p;obtain ⟨d17,q,rfl,s,u,-⟩:=id a.y;obtain ⟨d24,w,rfl,x,z,-⟩:=id a.t;unfold eN at h;refine aE.go Tryz.func68 rfl Tryz.ntmps68 Tryz.results68 (by simp) fun main J hJ A B hd hs=>?_;have C:=hs 0;have k1:=hs 1;clear hs;refine ah hJ ?_;simp only[*,go_sem];refine aA fun D E g=>?_;try simp only[au] at g
 try simp only[*,go_sem]
 refine af hJ (ah hJ ?_);revert h;refine bS fun F i h=>?_;simp only[*,go_sem];refine bn hJ _ (AS b (a.mono aR) u0 i) (aJ ?_);try simp only[*,go_sem]
 revert h;refine jC hJ (by simp only[*,go_sem]) (fun j h=>?_) fun j h=>?_
 ·obtain rfl:=sI h;refine ah hJ ?_;simp only[*,go_sem];refine az ?_;simp only[*,go_sem]
 obtain rfl:=sI h;refine aH hJ (af hJ ?_);refine ak hJ ?_;simp only[*,go_sem];refine az ?_;simp only[*,go_sem]
def nL (u0:Int)(a:aj):Option Int:=
 ag (gf a u0) fun b=>cond (!b) (some 6) (some 0)
theorem Gl {ro:Addr->Option Value}(u0:Int)(b:aj){s1 c d f:Value}(a:bL ro b s1 c d f){r:Int}(h:nL u0 b=some r):aE Tryz.prog 115 #[.int .i64 u0,bv b s1 c d f] ⟨ro,[]⟩ (fun v _=>v= .int .i64 r):=by
 obtain ⟨d3,c4,rfl,k,l,-⟩:=id a.e;obtain ⟨d10,m,rfl,n,o,-⟩:=id a.p;obtain ⟨d17,q,rfl,s,u,-⟩:=id a.y;obtain ⟨d24,w,rfl,x,z,-⟩:=id a.t;unfold nL at h;refine aE.go Tryz.func115 rfl Tryz.ntmps115 Tryz.results115 (by simp) fun main J hJ A B hd hs=>?_;have C:=hs 0;have k1:=hs 1;clear hs;refine ah hJ ?_;simp only[*,go_sem];refine aA fun D E g=>?_;try simp only[au] at g
 try simp only[*,go_sem]
 refine af hJ (ah hJ ?_);revert h;refine bS fun F i h=>?_;simp only[*,go_sem];refine bn hJ _ (se b (a.mono aR) u0 i) (aJ ?_);try simp only[*,go_sem]
 revert h;refine jC hJ (by simp only[*,go_sem]) (fun j h=>?_) fun j h=>?_
 ·obtain rfl:=sI h;refine ah hJ ?_;simp only[*,go_sem];refine az ?_;simp only[*,go_sem]
 obtain rfl:=sI h;refine aH hJ (af hJ ?_);refine ak hJ ?_;simp only[*,go_sem];refine az ?_;simp only[*,go_sem]
def pV (st:(Int×Int)):Option (Fl (Int×Int) an):=
 cond ((st.2 != 0)) (ag (gP st.1 st.2) fun a=>some (.nx (st.2,a))) (some (.bk (st.1,st.2)))
def ki (u0:Int)(a:Int):Option an:=
 ag (aU (pV) fu ((if u0<IntKind.i64.wrap (0 - u0) then IntKind.i64.wrap (0 - u0) else u0),a)) fun o=>aD o (fun b=>ag (fC u0 b.1) fun c=>ag (fC a b.1) fun d=>some (⟨c,d⟩:an)) (fun _ _=>none) (fun r=>some r)
theorem pW {ro:Addr->Option Value}(u0:Int)(c:Int){r:an}(h:ki u0 c=some r):aE Tryz.prog 127 #[.int .i64 u0,.int .i64 c] ⟨ro,[]⟩ (fun v _=>v=r.v):=by
 unfold ki at h;refine aE.go Tryz.func127 rfl Tryz.ntmps127 Tryz.results127 (by simp) fun main J hJ A l hd hs=>?_;have n:=hs 0;have k1:=hs 1;clear hs;refine ah hJ ?_;simp only[*,go_sem];refine aA fun o r1 n1=>?_;try simp only[au] at n1
 try simp only[*,go_sem]
 refine ah hJ ?_;simp only[*,go_sem];refine af hJ (aN hJ ?_);revert h;refine bS fun o4 a p=>?_;refine bT hJ [5,6,12,13,14,15,16,17] (fun m f F'=>∃(v2:Int) (b:Int),aU (pV) m (v2,b)=some o4/\F'=⟨ro,(o,rt 0 0)::[]⟩/\slot f 5= .int .i64 v2/\slot f 6= .int .i64 b) fu ?_ ?_
 ·refine ⟨(if u0<IntKind.i64.wrap (0 - u0) then IntKind.i64.wrap (0 - u0) else u0),c,a,rfl,?_⟩;simp only[*,go_sem]
 rintro d x F' g ⟨v2,b,a,rfl,y,z⟩;obtain ⟨q,s,t⟩:=g.pick [0,1,4] (by decide);simp only[*,go_sem] at q s t;clear g l hd n k1;obtain _|d:=d
 ·exact absurd a (by simp only[aU,reduceCtorEq,not_false_eq_true])
 revert a;refine bS fun B h e=>?_;unfold pV at h;try dsimp only at h
 refine af hJ (ah hJ ?_);simp only[*,go_sem];revert h;refine jC hJ (by simp only[*,go_sem]) (fun u h=>?_) fun u h=>?_
 ·refine aH hJ (aN hJ ?_);refine cP hJ mixed 6 1 (by simp only[*,go_sem]) (by kernel_rfl) ?_;revert h;refine bS fun w i h=>?_;obtain rfl:=sI h;obtain ⟨C,D⟩:=pz i;clear i;try simp only[*,go_sem]
  refine ⟨d,Nat.lt_succ_self _,_,Le.sub (List.Sublist.refl _),b,w,e,rfl,?_⟩;simp only[*,go_sem]
 obtain rfl:=sI h;refine bN ?_;simp only[go_sem];obtain rfl:=sI e;clear e;have h:=p;dsimp only[aD] at h;refine af hJ ?_;refine cP hJ mixed 7 0 (by simp only[*,go_sem]) (by kernel_rfl) ?_;revert h;refine bS fun E j h=>?_;obtain ⟨F,G⟩:=j3 j;clear j;revert h;refine bS fun H k h=>?_;obtain rfl:=sI h;obtain ⟨I,K⟩:=j3 k;clear k;try simp only[*,go_sem]
 refine az ?_;simp only[*,go_sem]
def jz (u0:an)(a:an):Option an:=
 ag (ki (IntKind.i64.wrap ((IntKind.i64.wrap (u0.num*a.den))+(IntKind.i64.wrap (a.num*u0.den)))) (IntKind.i64.wrap (u0.den*a.den))) fun b=>some b
theorem pX {ro:Addr->Option Value}(u0:an)(a:an){r:an}(h:jz u0 a=some r):aE Tryz.prog 91 #[.agg #[.int .i64 u0.num,.int .i64 u0.den],.agg #[.int .i64 a.num,.int .i64 a.den]] ⟨ro,[]⟩ (fun v _=>v=r.v):=by
 unfold jz at h;refine aE.go Tryz.func91 rfl Tryz.ntmps91 Tryz.results91 (by simp) fun main J hJ A c hd hs=>?_;have d:=hs 0;have k1:=hs 1;clear hs;refine ah hJ ?_;simp only[*,go_sem];refine aA fun e r1 n1=>?_;try simp only[au] at n1
 refine aA fun b2 r2 n2=>?_;try simp only[au] at n2
 refine aA fun b3 r3 n3=>?_;try simp only[au] at n3
 try simp only[*,go_sem]
 refine ah hJ ?_;revert h;refine bS fun f b h=>?_;obtain rfl:=sI h;simp only[*,go_sem];refine bn hJ _ (pW (IntKind.i64.wrap ((IntKind.i64.wrap (u0.num*a.den))+(IntKind.i64.wrap (a.num*u0.den)))) (IntKind.i64.wrap (u0.den*a.den)) b) (aJ ?_);try simp only[*,go_sem]
 refine az ?_;simp only[*,go_sem]
def jA (u0:an)(a:an):Option an:=
 ag (jz u0 (⟨IntKind.i64.wrap (0 - a.num),a.den⟩:an)) fun b=>some b
theorem pY {ro:Addr->Option Value}(u0:an)(a:an){r:an}(h:jA u0 a=some r):aE Tryz.prog 90 #[.agg #[.int .i64 u0.num,.int .i64 u0.den],.agg #[.int .i64 a.num,.int .i64 a.den]] ⟨ro,[]⟩ (fun v _=>v=r.v):=by
 unfold jA at h;refine aE.go Tryz.func90 rfl Tryz.ntmps90 Tryz.results90 (by simp) fun main J hJ A c hd hs=>?_;have d:=hs 0;have k1:=hs 1;clear hs;refine ah hJ ?_;simp only[*,go_sem];refine aA fun e r1 n1=>?_;try simp only[au] at n1
 refine aA fun b2 r2 n2=>?_;try simp only[au] at n2
 refine aA fun b3 r3 n3=>?_;try simp only[au] at n3
 try simp only[*,go_sem]
 refine ah hJ ?_;revert h;refine bS fun f b h=>?_;obtain rfl:=sI h;simp only[*,go_sem];refine bn hJ _ (pX u0 (⟨IntKind.i64.wrap (0 - a.num),a.den⟩:an) b) (aJ ?_);try simp only[*,go_sem]
 refine az ?_;simp only[*,go_sem]
def ko (u0:aj)(a:bf)(e:Int)(b:gU):Option bB:=
 ag (gd a.high) fun f=>ag (jA b.high f) fun c=>ag (ki (IntKind.i64.wrap (u0.bH+a.back)) (IntKind.i64.wrap (b.aL+a.back))) fun d=>ag (gd a.high) fun g=>ag (ki (IntKind.i64.wrap (c.num*d.num)) (IntKind.i64.wrap (c.den*d.den))) fun h=>ag (jz g h) fun i=>some (⟨b,e,i⟩:bB)
theorem AT {ro:Addr->Option Value}(u0:aj){s1 c d e:Value}(K:bL ro u0 s1 c d e)(b:bf)(j:Int)(a:gU){r:bB}(h:ko u0 b j a=some r):aE Tryz.prog 126 #[bv u0 s1 c d e,.agg #[.int .i64 b.back,.int .i64 b.high],.int .i64 j,.agg #[.int .i64 a.aL,.int .i64 a.high.num,.int .i64 a.high.den]] ⟨ro,[]⟩ (fun v _=>v=r.v):=by
 unfold ko at h;refine aE.go Tryz.func126 rfl Tryz.ntmps126 Tryz.results126 (by simp) fun main J hJ A L hd hs=>?_;have M:=hs 0;have k1:=hs 1;have N:=hs 2;have O:=hs 3;clear hs;refine ah hJ ?_;simp only[*,go_sem];refine aA fun k P n=>?_;try simp only[au] at n
 refine aA fun l Q o=>?_;try simp only[au] at o
 refine aA fun m R p=>?_;try simp only[au] at p
 refine aA fun q S s=>?_;try simp only[au] at s
 try simp only[*,go_sem]
 refine af hJ ?_;refine fc hJ mixed 6 ⟨ro,[(q,.cells #[.int .i64 0,.int .i64 0,.int .i64 0,.int .i64 0,.int .i64 0,.int .i64 0] 147),(m,.cells #[.int .i64 a.aL,.int .i64 a.high.num,.int .i64 a.high.den] 145),(l,.cells #[.int .i64 b.back,.int .i64 b.high] 134),(k,bl u0 s1 c d e)]⟩ (by simp only[*,go_sem]) (by kernel_rfl) ?_;revert h;refine bS fun t u h=>?_;simp only[*,go_sem];refine ⟨_,bC hJ fun F f=>jy b.high u,b7 ?_⟩;revert h;refine bS fun g w h=>?_;try simp only[*,go_sem]
 refine ⟨_,bC hJ fun F f=>pY a.high t w,?_⟩;try simp only[*,go_sem]
 refine aA fun x T y=>?_;try simp only[au] at y
 try simp only[*,go_sem]
 refine ah hJ ?_;revert h;refine bS fun i z h=>?_;simp only[*,go_sem];refine bn hJ _ (pW (IntKind.i64.wrap (u0.bH+b.back)) (IntKind.i64.wrap (a.aL+b.back)) z) (aJ ?_);try simp only[*,go_sem]
 refine aA fun B U C=>?_;try simp only[au] at C
 try simp only[*,go_sem]
 refine af hJ ?_;refine fc hJ mixed 18 ⟨ro,[(B,rt i.num i.den),(x,rt g.num g.den),(m,.cells #[.int .i64 a.aL,.int .i64 a.high.num,.int .i64 a.high.den] 145),(l,.cells #[.int .i64 b.back,.int .i64 b.high] 134),(k,bl u0 s1 c d e)]⟩ (by simp only[*,go_sem]) (by kernel_rfl) ?_;revert h;refine bS fun D E h=>?_;simp only[*,go_sem];refine ⟨_,bC hJ fun F f=>jy b.high E,b7 ?_⟩;revert h;refine bS fun G H h=>?_;try simp only[*,go_sem]
 refine ⟨_,bC hJ fun F f=>pW (IntKind.i64.wrap (g.num*i.num)) (IntKind.i64.wrap (g.den*i.den)) H,b7 ?_⟩;revert h;refine bS fun V I h=>?_;obtain rfl:=sI h;try simp only[*,go_sem]
 refine ⟨_,bC hJ fun F f=>pX D G I,b7 ?_⟩;try simp only[*,go_sem]
 refine az ?_;simp only[*,go_sem]
def gX (u0:aj)(a:Int)(b:Int):Option bf:=
 ag (aY u0.av a) fun c=>some (⟨c.back,b⟩:bf)
theorem mB {ro:Addr->Option Value}(u0:aj){s1 c d f:Value}(a:bL ro u0 s1 c d f)(g:Int)(i:Int){r:bf}(h:gX u0 g i=some r):aE Tryz.prog 74 #[bv u0 s1 c d f,.int .i64 g,.int .i64 i] ⟨ro,[]⟩ (fun v _=>v=r.v):=by
 obtain ⟨d3,c4,rfl,z,B,-⟩:=id a.e;obtain ⟨d10,C,rfl,D,E,-⟩:=id a.p;obtain ⟨d17,F,rfl,G,H,-⟩:=id a.y;obtain ⟨d24,I,rfl,K,L,-⟩:=id a.t;unfold gX at h;refine aE.go Tryz.func74 rfl Tryz.ntmps74 Tryz.results74 (by simp) fun main J hJ A M hd hs=>?_;have N:=hs 0;have k1:=hs 1;have O:=hs 2;clear hs;refine ah hJ ?_;simp only[*,go_sem];refine aA fun P Q k=>?_;try simp only[au] at k
 refine aA fun R S l=>?_;try simp only[au] at l
 try simp only[*,go_sem]
 refine ah hJ ?_;revert h;refine bS fun m n h=>?_;obtain rfl:=sI h;obtain ⟨T,U,j⟩:=cE n;obtain ⟨V,o,q,s,b⟩:=a.y.el _ _ j;obtain rfl:o=m.cells:=s;cases q;have u:=b 0 _ rfl;simp only[go_sem] at u;have w:=b 1 _ rfl;simp only[go_sem] at w;have x:=b 2 _ rfl;simp only[go_sem] at x;clear b j;try simp only[*,go_sem]
 refine az ?_;simp only[*,go_sem]
def pZ (u0:(bB->bB->Option Bool))(i11:Nat)(a:bB)(st:bB):Option (Fl bB bB):=
 ag (u0 st a) fun b=>cond (b) (some (.nx a)) (some (.nx st))
def mC (u0:(bB->bB->Option Bool))(a:bB)(b:(List bB)):Option bB:=
 ag (bJ (pZ u0) 0 b a) fun o=>aD o (fun c=>some c) (fun _ _=>none) (fun r=>some r)
theorem sj {ro:Addr->Option Value}(u0:(bB->bB->Option Bool)){dK:FuncId}{ee ef:Array Value}(s:aI Tryz.prog dK=true/\∀(aM:Addr->Option Value),Ext ro aM->∀(i:bB) (j:bB) (z:Bool),u0 i j=some z->aE Tryz.prog dK (ee++#[i.v,j.v]++ef) ⟨aM,[]⟩ (fun v _=>v= .bool z))(c:bB)(b:(List bB)){s1:Value}(k:aC kg ro s1 b){r:bB}(h:mC u0 c b=some r):aE Tryz.prog 87 #[.func (.func dK) ee ef,.agg #[.int .i64 c.spot.aL,.int .i64 c.spot.high.num,.int .i64 c.spot.high.den,.int .i64 c.at_,.int .i64 c.high.num,.int .i64 c.high.den],s1] ⟨ro,[]⟩ (fun v _=>v=r.v):=by
 obtain ⟨d3,c4,rfl,Z,l,-⟩:=id k;unfold mC at h;refine aE.go Tryz.func87 rfl Tryz.ntmps87 Tryz.results87 (by simp) fun main J hJ A t hd hs=>?_;have u:=hs 0;have k1:=hs 1;have w:=hs 2;clear hs;refine ah hJ ?_;simp only[*,go_sem];refine aA fun y ab B=>?_;try simp only[au] at B
 refine aA fun C ad D=>?_;try simp only[au] at D
 try simp only[*,go_sem]
 refine af hJ (ah hJ ?_);simp only[*,go_sem];refine aN hJ ?_;revert h;refine bS fun E d F=>?_;refine bT hJ [8,11,12,13,14,15,16,17,18,19,20] (fun m G F'=>∃(i11:Nat) (v10:bB),m=b.length - i11/\i11<=b.length/\bJ (pZ u0) i11 (b.drop i11) v10=some E/\F'=⟨ro,(C,.cells #[.int .i64 0,.int .i64 0,.int .i64 0,.int .i64 0,.int .i64 0,.int .i64 0] 147)::(y,.cells #[.int .i64 v10.spot.aL,.int .i64 v10.spot.high.num,.int .i64 v10.spot.high.den,.int .i64 v10.at_,.int .i64 v10.high.num,.int .i64 v10.high.den] 147)::[]⟩/\slot G 11= .int .i64 (i11:Int)) b.length ?_ ?_
 ·refine ⟨0,c,(Nat.sub_zero _).symm,Nat.zero_le _,d,rfl,?_⟩;simp only[*,go_sem]
 rintro ae al F' o ⟨i11,v10,rfl,ao,d,rfl,ar⟩;obtain ⟨H,I,K⟩:=o.pick [0,4,6,9,10] (by decide);simp only[*,go_sem] at H I K;clear o t hd u k1 w;refine ah hJ ?_;simp only[*,go_sem];refine af hJ ?_;rcases Nat.lt_or_ge i11 b.length with L|p
 ·refine bE hJ (by simp only[*,go_sem]) ?_;refine aH hJ ?_;obtain ⟨f,g⟩:∃x,b[i11]?=some x:=⟨_,List.getElem?_eq_getElem L⟩
  rw[dc g] at d;revert d;refine bS fun a0 h q=>?_;unfold pZ at h;try dsimp only at h
  obtain ⟨a2,M,N,O,e⟩:=k.el _ _ g;obtain rfl:M=f.cells:=O;cases N;have P:=e 0 _ rfl;simp only[go_sem] at P;have Q:=e 1 _ rfl;simp only[go_sem] at Q;have R:=e 2 _ rfl;simp only[go_sem] at R;have S:=e 3 _ rfl;simp only[go_sem] at S;have T:=e 4 _ rfl;simp only[go_sem] at T;have U:=e 5 _ rfl;simp only[go_sem] at U;clear e g;refine af hJ (aN hJ (af hJ ?_));refine ak hJ ?_;simp only[*,go_sem];refine aA fun a3 a4 V=>?_;try simp only[au] at V
  try simp only[*,go_sem]
  refine ah hJ ?_;revert h;refine bS fun a5 W h=>?_;simp only[*,go_sem];refine bn hJ _ (s.2 _ (fun a v h=>aR a v h) v10 f _ W) ?_;try simp only[*,go_sem]
  revert h;refine jC hJ (by simp only[*,go_sem]) (fun X h=>?_) fun X h=>?_
  ·obtain rfl:=sI h;refine ak hJ ?_;simp only[*,go_sem];have Y:=cq (n:=i11) (by have:=l;omega);refine ak hJ ?_;simp only[*,go_sem];refine ⟨b.length - (i11+1),by omega,_,Le.sub (List.Sublist.cons _ (List.Sublist.refl _)),i11+1,f,rfl,by omega,q,rfl,?_⟩;simp only[*,go_sem]
  obtain rfl:=sI h;refine aH hJ ?_;have Y:=cq (n:=i11) (by have:=l;omega);refine ak hJ ?_;simp only[*,go_sem];refine ⟨b.length - (i11+1),by omega,_,Le.sub (List.Sublist.cons _ (List.Sublist.refl _)),i11+1,v10,rfl,by omega,q,rfl,?_⟩;simp only[*,go_sem]
 have a6:=Nat.not_lt.2 p;refine bD hJ (by simp only[*,go_sem]) ?_;rw[List.drop_eq_nil_of_le p] at d;obtain rfl:=sI d;clear d;have h:=F;dsimp only[aD] at h;obtain rfl:=sI h;refine bN ?_;simp only[go_sem];refine ah hJ ?_;simp only[*,go_sem];refine az ?_;simp only[*,go_sem]
def kq (u0:(an->an->Option Bool))(i11:Nat)(a:an)(st:an):Option (Fl an an):=
 ag (u0 st a) fun b=>cond (b) (some (.nx a)) (some (.nx st))
def fO (u0:(an->an->Option Bool))(a:an)(b:(List an)):Option an:=
 ag (bJ (kq u0) 0 b a) fun o=>aD o (fun c=>some c) (fun _ _=>none) (fun r=>some r)
theorem nM {ro:Addr->Option Value}(u0:(an->an->Option Bool)){dK:FuncId}{ee ef:Array Value}(s:aI Tryz.prog dK=true/\∀(aM:Addr->Option Value),Ext ro aM->∀(i:an) (j:an) (z:Bool),u0 i j=some z->aE Tryz.prog dK (ee++#[i.v,j.v]++ef) ⟨aM,[]⟩ (fun v _=>v= .bool z))(d:an)(b:(List an)){s1:Value}(k:aC k8 ro s1 b){r:an}(h:fO u0 d b=some r):aE Tryz.prog 77 #[.func (.func dK) ee ef,.agg #[.int .i64 d.num,.int .i64 d.den],s1] ⟨ro,[]⟩ (fun v _=>v=r.v):=by
 obtain ⟨d3,c4,rfl,V,l,-⟩:=id k;unfold fO at h;refine aE.go Tryz.func77 rfl Tryz.ntmps77 Tryz.results77 (by simp) fun main J hJ A t hd hs=>?_;have u:=hs 0;have k1:=hs 1;have w:=hs 2;clear hs;refine ah hJ ?_;simp only[*,go_sem];refine aA fun y W B=>?_;try simp only[au] at B
 refine aA fun C X D=>?_;try simp only[au] at D
 try simp only[*,go_sem]
 refine af hJ (ah hJ ?_);simp only[*,go_sem];refine aN hJ ?_;revert h;refine bS fun E c F=>?_;refine bT hJ [8,11,12,13,14,15,16,17,18,19,20] (fun m G F'=>∃(i11:Nat) (v10:an),m=b.length - i11/\i11<=b.length/\bJ (kq u0) i11 (b.drop i11) v10=some E/\F'=⟨ro,(C,rt 0 0)::(y,rt v10.num v10.den)::[]⟩/\slot G 11= .int .i64 (i11:Int)) b.length ?_ ?_
 ·refine ⟨0,d,(Nat.sub_zero _).symm,Nat.zero_le _,c,rfl,?_⟩;simp only[*,go_sem]
 rintro Y Z F' o ⟨i11,v10,rfl,ab,c,rfl,ad⟩;obtain ⟨H,I,K⟩:=o.pick [0,4,6,9,10] (by decide);simp only[*,go_sem] at H I K;clear o t hd u k1 w;refine ah hJ ?_;simp only[*,go_sem];refine af hJ ?_;rcases Nat.lt_or_ge i11 b.length with L|p
 ·refine bE hJ (by simp only[*,go_sem]) ?_;refine aH hJ ?_;obtain ⟨e,f⟩:∃x,b[i11]?=some x:=⟨_,List.getElem?_eq_getElem L⟩
  rw[dc f] at c;revert c;refine bS fun ae h q=>?_;unfold kq at h;try dsimp only at h
  obtain ⟨al,M,N,O,g⟩:=k.el _ _ f;obtain rfl:M=e.cells:=O;cases N;have P:=g 0 _ rfl;simp only[go_sem] at P;have Q:=g 1 _ rfl;simp only[go_sem] at Q;clear g f;refine af hJ (aN hJ (af hJ ?_));refine ak hJ ?_;simp only[*,go_sem];refine aA fun ao ar R=>?_;try simp only[au] at R
  try simp only[*,go_sem]
  refine ah hJ ?_;revert h;refine bS fun a0 S h=>?_;simp only[*,go_sem];refine bn hJ _ (s.2 _ (fun a v h=>aR a v h) v10 e _ S) ?_;try simp only[*,go_sem]
  revert h;refine jC hJ (by simp only[*,go_sem]) (fun T h=>?_) fun T h=>?_
  ·obtain rfl:=sI h;refine ak hJ ?_;simp only[*,go_sem];have U:=cq (n:=i11) (by have:=l;omega);refine ak hJ ?_;simp only[*,go_sem];refine ⟨b.length - (i11+1),by omega,_,Le.sub (List.Sublist.cons _ (List.Sublist.refl _)),i11+1,e,rfl,by omega,q,rfl,?_⟩;simp only[*,go_sem]
  obtain rfl:=sI h;refine aH hJ ?_;have U:=cq (n:=i11) (by have:=l;omega);refine ak hJ ?_;simp only[*,go_sem];refine ⟨b.length - (i11+1),by omega,_,Le.sub (List.Sublist.cons _ (List.Sublist.refl _)),i11+1,v10,rfl,by omega,q,rfl,?_⟩;simp only[*,go_sem]
 have a2:=Nat.not_lt.2 p;refine bD hJ (by simp only[*,go_sem]) ?_;rw[List.drop_eq_nil_of_le p] at c;obtain rfl:=sI c;clear c;have h:=F;dsimp only[aD] at h;obtain rfl:=sI h;refine bN ?_;simp only[go_sem];refine ah hJ ?_;simp only[*,go_sem];refine az ?_;simp only[*,go_sem]
def sk (u0:bB)(a:bB):Option Bool:=
 ag (iX a u0) fun b=>some b
theorem Gm {ro:Addr->Option Value}(u0:bB)(a:bB){r:Bool}(h:sk u0 a=some r):aE Tryz.prog 89 #[.agg #[.int .i64 u0.spot.aL,.int .i64 u0.spot.high.num,.int .i64 u0.spot.high.den,.int .i64 u0.at_,.int .i64 u0.high.num,.int .i64 u0.high.den],.agg #[.int .i64 a.spot.aL,.int .i64 a.spot.high.num,.int .i64 a.spot.high.den,.int .i64 a.at_,.int .i64 a.high.num,.int .i64 a.high.den]] ⟨ro,[]⟩ (fun v _=>v= .bool r):=by
 unfold sk at h;refine aE.go Tryz.func89 rfl Tryz.ntmps89 Tryz.results89 (by simp) fun main J hJ A c hd hs=>?_;have d:=hs 0;have k1:=hs 1;clear hs;refine ah hJ ?_;simp only[*,go_sem];refine aA fun e r1 n1=>?_;try simp only[au] at n1
 refine aA fun b2 r2 n2=>?_;try simp only[au] at n2
 try simp only[*,go_sem]
 refine ah hJ ?_;revert h;refine bS fun f b h=>?_;obtain rfl:=sI h;simp only[*,go_sem];refine bn hJ _ (r9 a u0 b) (aJ ?_);try simp only[*,go_sem]
 refine az ?_;simp only[*,go_sem]
def mD (u0:an)(a:an):Option Bool:=
 ag (ep a u0) fun b=>some b
theorem Gn {ro:Addr->Option Value}(u0:an)(a:an){r:Bool}(h:mD u0 a=some r):aE Tryz.prog 75 #[.agg #[.int .i64 u0.num,.int .i64 u0.den],.agg #[.int .i64 a.num,.int .i64 a.den]] ⟨ro,[]⟩ (fun v _=>v= .bool r):=by
 unfold mD at h;refine aE.go Tryz.func75 rfl Tryz.ntmps75 Tryz.results75 (by simp) fun main J hJ A c hd hs=>?_;have d:=hs 0;have k1:=hs 1;clear hs;refine ah hJ ?_;simp only[*,go_sem];refine aA fun e r1 n1=>?_;try simp only[au] at n1
 refine aA fun b2 r2 n2=>?_;try simp only[au] at n2
 try simp only[*,go_sem]
 refine ah hJ ?_;revert h;refine bS fun f b h=>?_;obtain rfl:=sI h;simp only[*,go_sem];refine bn hJ _ (iW a u0 b) (aJ ?_);try simp only[*,go_sem]
 refine az ?_;simp only[*,go_sem]
def sn (u0:aj)(i32:Nat)(a:bR)(st:Int):Option (Fl Int Int):=
 ag (nJ u0 a.aQ) fun b=>cond (!b) (some (.rt 6)) (some (.nx st))
def mE (u0:aj):Option Int:=
 cond (decide (3<(u0.told.length:Int))) (some 2) (ag (bJ (sn u0) 0 u0.told 0) fun o=>aD o (fun a=>some 0) (fun _ _=>none) (fun r=>some r))
theorem Gq {ro:Addr->Option Value}(u0:aj){s1 c d j:Value}(e:bL ro u0 s1 c d j){r:Int}(h:mE u0=some r):aE Tryz.prog 233 #[bv u0 s1 c d j] ⟨ro,[]⟩ (fun v _=>v= .int .i64 r):=by
 obtain ⟨d24,s,rfl,R,u,-⟩:=id e.t;unfold mE at h;refine aE.go Tryz.func233 rfl Tryz.ntmps233 Tryz.results233 (by simp) fun main J hJ A w hd hs=>?_;have y:=hs 0;clear hs;refine ah hJ ?_;simp only[*,go_sem];refine aA fun z S B=>?_;try simp only[au] at B
 try simp only[*,go_sem]
 refine af hJ (ah hJ ?_);simp only[*,go_sem];revert h;refine jC hJ (by simp only[*,go_sem]) (fun C h=>?_) fun C h=>?_
 ·obtain rfl:=sI h;refine ah hJ ?_;simp only[*,go_sem];refine az ?_;simp only[*,go_sem]
 refine aH hJ (af hJ ?_);refine ah hJ ?_;simp only[*,go_sem];refine aN hJ ?_;revert h;refine bS fun D a k=>?_;refine bT hJ [2,4,14,15,16,17,18,19,20,21,22,23] (fun m l F'=>∃(i32:Nat) (b:Int),m=u0.told.length - i32/\i32<=u0.told.length/\bJ (sn u0) i32 (u0.told.drop i32) b=some D/\F'=⟨ro,(z,bl u0 s1 c d (sl d24 u0.told s))::[]⟩/\slot l 14= .int .i64 (i32:Int)/\slot l 2= .int .i64 b) u0.told.length ?_ ?_
 ·refine ⟨0,0,(Nat.sub_zero _).symm,Nat.zero_le _,a,rfl,?_⟩;simp only[*,go_sem]
 rintro T U F' o ⟨i32,b,rfl,V,a,rfl,W,X⟩;obtain ⟨E,F,G⟩:=o.pick [1,12,13] (by decide);simp only[*,go_sem] at E F G;clear o w hd y;refine ah hJ ?_;simp only[*,go_sem];refine af hJ ?_;rcases Nat.lt_or_ge i32 u0.told.length with H|p
 ·refine bE hJ (by simp only[*,go_sem]) ?_;refine aH hJ ?_;obtain ⟨q,f⟩:∃x,u0.told[i32]?=some x:=⟨_,List.getElem?_eq_getElem H⟩
  rw[dc f] at a;revert a;refine bS fun Y h g=>?_;unfold sn at h;try dsimp only at h
  obtain ⟨Z,I,K,L,i⟩:=e.t.el _ _ f;obtain rfl:I=q.cells:=L;cases K;have M:=i 0 _ rfl;simp only[go_sem] at M;have N:=i 1 _ rfl;simp only[go_sem] at N;clear i f;refine af hJ (aN hJ (af hJ ?_));refine ak hJ ?_;simp only[*,go_sem];refine aA fun ab ad O=>?_;try simp only[au] at O
  try simp only[*,go_sem]
  refine ah hJ ?_;revert h;refine bS fun ae P h=>?_;simp only[*,go_sem];refine bn hJ _ (AS u0 (e.mono aR) q.aQ P) (aJ ?_);try simp only[*,go_sem]
  revert h;refine jC hJ (by simp only[*,go_sem]) (fun Q h=>?_) fun Q h=>?_
  ·obtain rfl:=sI h;refine ah hJ ?_;simp only[*,go_sem];obtain rfl:=sI g;clear g;have h:=k;dsimp only[aD] at h;obtain rfl:=sI h;refine az ?_;simp only[*,go_sem]
  obtain rfl:=sI h;refine aH hJ ?_;have al:=cq (n:=i32) (by have:=u;omega);refine ak hJ ?_;simp only[*,go_sem];refine ⟨u0.told.length - (i32+1),by omega,_,Le.sub (List.Sublist.cons _ (List.Sublist.refl _)),i32+1,b,rfl,by omega,g,rfl,?_⟩;simp only[*,go_sem]
 have ao:=Nat.not_lt.2 p;refine bD hJ (by simp only[*,go_sem]) ?_;rw[List.drop_eq_nil_of_le p] at a;obtain rfl:=sI a;clear a;have h:=k;dsimp only[aD] at h;obtain rfl:=sI h;refine bN ?_;simp only[go_sem];refine ah hJ ?_;simp only[*,go_sem];refine az ?_;simp only[*,go_sem]
def so (i34:Nat)(a:bO)(st:Int):Option (Fl Int Int):=
 ag (fF a.back 1 20) fun b=>cond (!b) (some (.rt 1)) (ag (pU a.high 0 60) fun c=>cond (!c) (some (.rt 1)) (cond (decide (3<=(IntKind.i64.wrap (a.high.high - a.high.low)))) (some (.rt 1)) (some (.nx st))))
def mF (u0:aj):Option Int:=
 ag (fF (u0.av.length:Int) 1 3) fun a=>cond (!a) (some 2) (ag (bJ (so) 0 u0.av 0) fun o=>aD o (fun b=>some 0) (fun _ _=>none) (fun r=>some r))
theorem Gs {ro:Addr->Option Value}(u0:aj){s1 f k g:Value}(l:bL ro u0 s1 f k g){r:Int}(h:mF u0=some r):aE Tryz.prog 232 #[bv u0 s1 f k g] ⟨ro,[]⟩ (fun v _=>v= .int .i64 r):=by
 obtain ⟨d17,s,rfl,W,t,-⟩:=id l.y;unfold mF at h;refine aE.go Tryz.func232 rfl Tryz.ntmps232 Tryz.results232 (by simp) fun main J hJ A u hd hs=>?_;have w:=hs 0;clear hs;refine ah hJ ?_;simp only[*,go_sem];refine aA fun z X B=>?_;try simp only[au] at B
 try simp only[*,go_sem]
 refine af hJ (ah hJ ?_);revert h;refine bS fun Y C h=>?_;simp only[*,go_sem];refine bn hJ _ (gD (u0.av.length:Int) 1 3 C) (aJ ?_);try simp only[*,go_sem]
 revert h;refine jC hJ (by simp only[*,go_sem]) (fun D h=>?_) fun D h=>?_
 ·obtain rfl:=sI h;refine ah hJ ?_;simp only[*,go_sem];refine az ?_;simp only[*,go_sem]
 refine aH hJ (af hJ ?_);refine ah hJ ?_;simp only[*,go_sem];refine aN hJ ?_;revert h;refine bS fun E a c=>?_;refine bT hJ [2,4,15,16,17,18,19,20,21,22,23,24,25,26,27,28,29,30,31,32,33,34,35,36,37,38,39] (fun m o F'=>∃(i34:Nat) (d:Int),m=u0.av.length - i34/\i34<=u0.av.length/\bJ (so) i34 (u0.av.drop i34) d=some E/\F'=⟨ro,(z,bl u0 s1 f (sl d17 u0.av s) g)::[]⟩/\slot o 15= .int .i64 (i34:Int)/\slot o 2= .int .i64 d) u0.av.length ?_ ?_
 ·refine ⟨0,0,(Nat.sub_zero _).symm,Nat.zero_le _,a,rfl,?_⟩;simp only[*,go_sem]
 rintro Z ab F' p ⟨i34,d,rfl,ad,a,rfl,ae,al⟩;obtain ⟨F,G,H⟩:=p.pick [13,14] (by decide);simp only[*,go_sem] at F G H;clear p u hd w;refine ah hJ ?_;simp only[*,go_sem];refine af hJ ?_;rcases Nat.lt_or_ge i34 u0.av.length with I|q
 ·refine bE hJ (by simp only[*,go_sem]) ?_;refine aH hJ ?_;obtain ⟨i,j⟩:∃x,u0.av[i34]?=some x:=⟨_,List.getElem?_eq_getElem I⟩
  rw[dc j] at a;revert a;refine bS fun ao h b=>?_;unfold so at h;try dsimp only at h
  obtain ⟨ar,K,L,M,e⟩:=l.y.el _ _ j;obtain rfl:K=i.cells:=M;cases L;have N:=e 0 _ rfl;simp only[go_sem] at N;have O:=e 1 _ rfl;simp only[go_sem] at O;have P:=e 2 _ rfl;simp only[go_sem] at P;clear e j;refine af hJ (aN hJ (af hJ ?_));refine ak hJ ?_;simp only[*,go_sem];refine aA fun a0 a2 Q=>?_;try simp only[au] at Q
  try simp only[*,go_sem]
  refine ah hJ ?_;revert h;refine bS fun a3 R h=>?_;simp only[*,go_sem];refine bn hJ _ (gD i.back 1 20 R) (aJ ?_);revert h;refine cS (fun S h=>?_) fun S h=>?_
  ·obtain rfl:=sI h;(try simp only[*,go_sem]);refine bE hJ (by simp only[*,go_sem]) ?_;refine ah hJ ?_;simp only[*,go_sem];obtain rfl:=sI b;clear b;have h:=c;dsimp only[aD] at h;obtain rfl:=sI h;refine az ?_;simp only[*,go_sem]
  revert h;refine bS fun a4 T h=>?_;try simp only[*,go_sem]
  refine bn hJ _ (AR i.high 0 60 T) (aJ ?_);revert h;refine cS (fun U h=>?_) fun U h=>?_
  ·obtain rfl:=sI h;(try simp only[*,go_sem]);refine bE hJ (by simp only[*,go_sem]) ?_;refine ah hJ ?_;simp only[*,go_sem];obtain rfl:=sI b;clear b;have h:=c;dsimp only[aD] at h;obtain rfl:=sI h;refine az ?_;simp only[*,go_sem]
  try simp only[*,go_sem]
  revert h;refine jC hJ (by simp only[*,go_sem]) (fun V h=>?_) fun V h=>?_
  ·obtain rfl:=sI h;refine ah hJ ?_;simp only[*,go_sem];obtain rfl:=sI b;clear b;have h:=c;dsimp only[aD] at h;obtain rfl:=sI h;refine az ?_;simp only[*,go_sem]
  obtain rfl:=sI h;refine aH hJ ?_;have a5:=cq (n:=i34) (by have:=t;omega);refine ak hJ ?_;simp only[*,go_sem];refine ⟨u0.av.length - (i34+1),by omega,_,Le.sub (List.Sublist.cons _ (List.Sublist.refl _)),i34+1,d,rfl,by omega,b,rfl,?_⟩;simp only[*,go_sem]
 have a6:=Nat.not_lt.2 q;refine bD hJ (by simp only[*,go_sem]) ?_;rw[List.drop_eq_nil_of_le q] at a;obtain rfl:=sI a;clear a;have h:=c;dsimp only[aD] at h;obtain rfl:=sI h;refine bN ?_;simp only[go_sem];refine ah hJ ?_;simp only[*,go_sem];refine az ?_;simp only[*,go_sem]
def sr (u0:aj)(i32:Nat)(a:cc)(st:Int):Option (Fl Int Int):=
 ag (gf u0 a.place) fun c=>cond (!c) (some (.rt 6)) (ag (gW a.de u0) fun b=>cond ((b != 0)) (some (.rt b)) (some (.nx st)))
def mG (u0:aj):Option Int:=
 cond (decide (3<(u0.props.length:Int))) (some 2) (ag (bJ (sr u0) 0 u0.props 0) fun o=>aD o (fun a=>some 0) (fun _ _=>none) (fun r=>some r))
theorem Gt {ro:Addr->Option Value}(u0:aj){s1 l e f:Value}(c:bL ro u0 s1 l e f){r:Int}(h:mG u0=some r):aE Tryz.prog 231 #[bv u0 s1 l e f] ⟨ro,[]⟩ (fun v _=>v= .int .i64 r):=by
 obtain ⟨d10,t,rfl,T,u,-⟩:=id c.p;unfold mG at h;refine aE.go Tryz.func231 rfl Tryz.ntmps231 Tryz.results231 (by simp) fun main J hJ A w hd hs=>?_;have y:=hs 0;clear hs;refine ah hJ ?_;simp only[*,go_sem];refine aA fun z U B=>?_;try simp only[au] at B
 try simp only[*,go_sem]
 refine af hJ (ah hJ ?_);simp only[*,go_sem];revert h;refine jC hJ (by simp only[*,go_sem]) (fun C h=>?_) fun C h=>?_
 ·obtain rfl:=sI h;refine ah hJ ?_;simp only[*,go_sem];refine az ?_;simp only[*,go_sem]
 refine aH hJ (af hJ ?_);refine ah hJ ?_;simp only[*,go_sem];refine aN hJ ?_;revert h;refine bS fun D a g=>?_;refine bT hJ [2,4,5,15,16,17,18,19,20,21,22,23,24,25,26,27,28,29,30,31] (fun m o F'=>∃(i32:Nat) (d:Int),m=u0.props.length - i32/\i32<=u0.props.length/\bJ (sr u0) i32 (u0.props.drop i32) d=some D/\F'=⟨ro,(z,bl u0 s1 (sl d10 u0.props t) e f)::[]⟩/\slot o 15= .int .i64 (i32:Int)/\slot o 2= .int .i64 d) u0.props.length ?_ ?_
 ·refine ⟨0,0,(Nat.sub_zero _).symm,Nat.zero_le _,a,rfl,?_⟩;simp only[*,go_sem]
 rintro V W F' q ⟨i32,d,rfl,X,a,rfl,Y,Z⟩;obtain ⟨E,F,G⟩:=q.pick [1,13,14] (by decide);simp only[*,go_sem] at E F G;clear q w hd y;refine ah hJ ?_;simp only[*,go_sem];refine af hJ ?_;rcases Nat.lt_or_ge i32 u0.props.length with H|s
 ·refine bE hJ (by simp only[*,go_sem]) ?_;refine aH hJ ?_;obtain ⟨i,j⟩:∃x,u0.props[i32]?=some x:=⟨_,List.getElem?_eq_getElem H⟩
  rw[dc j] at a;revert a;refine bS fun ab h b=>?_;unfold sr at h;try dsimp only at h
  obtain ⟨ad,I,K,L,k⟩:=c.p.el _ _ j;obtain rfl:I=i.cells:=L;cases K;have M:=k 0 _ rfl;simp only[go_sem] at M;have N:=k 1 _ rfl;simp only[go_sem] at N;clear k j;refine af hJ (aN hJ (af hJ ?_));refine ak hJ ?_;simp only[*,go_sem];refine aA fun ae al O=>?_;try simp only[au] at O
  try simp only[*,go_sem]
  refine af hJ (ah hJ ?_);revert h;refine bS fun ao P h=>?_;simp only[*,go_sem];refine bn hJ _ (se u0 (c.mono aR) i.place P) (aJ ?_);try simp only[*,go_sem]
  revert h;refine jC hJ (by simp only[*,go_sem]) (fun Q h=>?_) fun Q h=>?_
  ·obtain rfl:=sI h;refine ah hJ ?_;simp only[*,go_sem];obtain rfl:=sI b;clear b;have h:=g;dsimp only[aD] at h;obtain rfl:=sI h;refine az ?_;simp only[*,go_sem]
  refine aH hJ (af hJ ?_);refine ak hJ ?_;revert h;refine bS fun ar R h=>?_;simp only[*,go_sem];refine bn hJ _ (vQ i.de u0 (c.mono aR) R) (aJ ?_);try simp only[*,go_sem]
  refine ah hJ ?_;simp only[*,go_sem];revert h;refine jC hJ (by simp only[*,go_sem]) (fun S h=>?_) fun S h=>?_
  ·obtain rfl:=sI h;refine ah hJ ?_;simp only[*,go_sem];obtain rfl:=sI b;clear b;have h:=g;dsimp only[aD] at h;obtain rfl:=sI h;refine az ?_;simp only[*,go_sem]
  obtain rfl:=sI h;refine aH hJ ?_;have a0:=cq (n:=i32) (by have:=u;omega);refine ak hJ ?_;simp only[*,go_sem];refine ⟨u0.props.length - (i32+1),by omega,_,Le.sub (List.Sublist.cons _ (List.Sublist.refl _)),i32+1,d,rfl,by omega,b,rfl,?_⟩;simp only[*,go_sem]
 have a2:=Nat.not_lt.2 s;refine bD hJ (by simp only[*,go_sem]) ?_;rw[List.drop_eq_nil_of_le s] at a;obtain rfl:=sI a;clear a;have h:=g;dsimp only[aD] at h;obtain rfl:=sI h;refine bN ?_;simp only[go_sem];refine ah hJ ?_;simp only[*,go_sem];refine az ?_;simp only[*,go_sem]
def su (u0:aj)(i34:Nat)(a:bX)(st:Int):Option (Fl Int Int):=
 ag (fF a.aL 0 (IntKind.i64.wrap (u0.bH - 1))) fun b=>cond (!b) (some (.rt 1)) (ag (fF a.high 0 60) fun c=>cond (!c) (some (.rt 1)) (cond (decide (0<(i34:Int))) (ag (aY u0.ax (IntKind.i64.wrap ((i34:Int) - 1))) fun d=>cond (decide (a.aL<=d.aL)) (some (.rt 7)) (some (.nx st))) (some (.nx st))))
def k9 (u0:aj):Option Int:=
 ag (fF (u0.ax.length:Int) 2 5) fun a=>cond (!a) (some 2) (ag (bJ (su u0) 0 u0.ax 0) fun o=>aD o (fun b=>some 0) (fun _ _=>none) (fun r=>some r))
theorem Gu {ro:Addr->Option Value}(u0:aj){s1 f g i:Value}(j:bL ro u0 s1 f g i){r:Int}(h:k9 u0=some r):aE Tryz.prog 230 #[bv u0 s1 f g i] ⟨ro,[]⟩ (fun v _=>v= .int .i64 r):=by
 obtain ⟨d3,c4,rfl,ar,q,-⟩:=id j.e;unfold k9 at h;refine aE.go Tryz.func230 rfl Tryz.ntmps230 Tryz.results230 (by simp) fun main J hJ A y hd hs=>?_;have z:=hs 0;clear hs;refine ah hJ ?_;simp only[*,go_sem];refine aA fun B a0 C=>?_;try simp only[au] at C
 try simp only[*,go_sem]
 refine af hJ (ah hJ ?_);revert h;refine bS fun a2 D h=>?_;simp only[*,go_sem];refine bn hJ _ (gD (u0.ax.length:Int) 2 5 D) (aJ ?_);try simp only[*,go_sem]
 revert h;refine jC hJ (by simp only[*,go_sem]) (fun E h=>?_) fun E h=>?_
 ·obtain rfl:=sI h;refine ah hJ ?_;simp only[*,go_sem];refine az ?_;simp only[*,go_sem]
 refine aH hJ (af hJ ?_);refine ah hJ ?_;simp only[*,go_sem];refine aN hJ ?_;revert h;refine bS fun F b d=>?_;refine bT hJ [2,3,4,15,16,17,18,19,20,21,22,23,24,25,26,27,28,29,30,31,32,33,34,35,36,37,38,39,40,41,42,43,44,45,46,47,48,49] (fun m s F'=>∃(i34:Nat) (c:Int),m=u0.ax.length - i34/\i34<=u0.ax.length/\bJ (su u0) i34 (u0.ax.drop i34) c=some F/\F'=⟨ro,(B,bl u0 (sl d3 u0.ax c4) f g i)::[]⟩/\slot s 15= .int .i64 (i34:Int)/\slot s 2= .int .i64 c) u0.ax.length ?_ ?_
 ·refine ⟨0,0,(Nat.sub_zero _).symm,Nat.zero_le _,b,rfl,?_⟩;simp only[*,go_sem]
 rintro a3 a4 F' t ⟨i34,c,rfl,a5,b,rfl,a6,a7⟩;obtain ⟨G,H,I⟩:=t.pick [1,13,14] (by decide);simp only[*,go_sem] at G H I;clear t y hd z;refine ah hJ ?_;simp only[*,go_sem];refine af hJ ?_;rcases Nat.lt_or_ge i34 u0.ax.length with K|u
 ·refine bE hJ (by simp only[*,go_sem]) ?_;refine aH hJ ?_;obtain ⟨k,l⟩:∃x,u0.ax[i34]?=some x:=⟨_,List.getElem?_eq_getElem K⟩
  rw[dc l] at b;revert b;refine bS fun a8 h a=>?_;unfold su at h;try dsimp only at h
  obtain ⟨a9,L,M,N,o⟩:=j.e.el _ _ l;obtain rfl:L=k.cells:=N;cases M;have O:=o 0 _ rfl;simp only[go_sem] at O;have P:=o 1 _ rfl;simp only[go_sem] at P;clear o l;refine af hJ (aN hJ (af hJ ?_));refine ak hJ ?_;simp only[*,go_sem];refine aA fun ba bb Q=>?_;try simp only[au] at Q
  try simp only[*,go_sem]
  refine aN hJ (af hJ ?_);refine ah hJ ?_;revert h;refine bS fun bc R h=>?_;simp only[*,go_sem];refine bn hJ _ (gD k.aL 0 (IntKind.i64.wrap (u0.bH - 1)) R) (aJ ?_);try simp only[*,go_sem]
  revert h;refine jC hJ (by simp only[*,go_sem]) (fun S h=>?_) fun S h=>?_
  ·obtain rfl:=sI h;refine aH hJ ?_;refine bE hJ (by simp only[*,go_sem]) ?_;refine ah hJ ?_;simp only[*,go_sem];obtain rfl:=sI a;clear a;have h:=d;dsimp only[aD] at h;obtain rfl:=sI h;refine az ?_;simp only[*,go_sem]
  refine ak hJ ?_;revert h;refine bS fun bd T h=>?_;simp only[*,go_sem];refine bn hJ _ (gD k.high 0 60 T) (aJ ?_);try simp only[*,go_sem]
  revert h;refine jC hJ (by simp only[*,go_sem]) (fun U h=>?_) fun U h=>?_
  ·obtain rfl:=sI h;refine ah hJ ?_;simp only[*,go_sem];obtain rfl:=sI a;clear a;have h:=d;dsimp only[aD] at h;obtain rfl:=sI h;refine az ?_;simp only[*,go_sem]
  refine af hJ ?_;refine cP hJ mixed 16 2 (by simp only[*,go_sem]) (by kernel_rfl) ?_;revert h;refine cS (fun V h=>?_) fun V h=>?_
  ·revert h;refine bS fun W X h=>?_;obtain ⟨bj,bk,w⟩:=cE X;obtain ⟨bm,Y,Z,ab,p⟩:=j.e.el _ _ w;obtain rfl:Y=W.cells:=ab;cases Z;have ad:=p 0 _ rfl;simp only[go_sem] at ad;have ae:=p 1 _ rfl;simp only[go_sem] at ae;clear p w;(try simp only[*,go_sem]);revert h;refine jC hJ (by simp only[*,go_sem]) (fun al h=>?_) fun al h=>?_
   ·obtain rfl:=sI h;refine ah hJ ?_;simp only[*,go_sem];obtain rfl:=sI a;clear a;have h:=d;dsimp only[aD] at h;obtain rfl:=sI h;refine az ?_;simp only[*,go_sem]
   obtain rfl:=sI h;refine aH hJ ?_;have ao:=cq (n:=i34) (by have:=q;omega);refine ak hJ ?_;simp only[*,go_sem];refine ⟨u0.ax.length - (i34+1),by omega,_,Le.sub (List.Sublist.cons _ (List.Sublist.refl _)),i34+1,c,rfl,by omega,a,rfl,?_⟩;simp only[*,go_sem]
  obtain rfl:=sI h;try simp only[*,go_sem]
  refine bD hJ (by simp only[*,go_sem]) ?_;refine aH hJ ?_;have ao:=cq (n:=i34) (by have:=q;omega);refine ak hJ ?_;simp only[*,go_sem];refine ⟨u0.ax.length - (i34+1),by omega,_,Le.sub (List.Sublist.cons _ (List.Sublist.refl _)),i34+1,c,rfl,by omega,a,rfl,?_⟩;simp only[*,go_sem]
 have bo:=Nat.not_lt.2 u;refine bD hJ (by simp only[*,go_sem]) ?_;rw[List.drop_eq_nil_of_le u] at b;obtain rfl:=sI b;clear b;have h:=d;dsimp only[aD] at h;obtain rfl:=sI h;refine bN ?_;simp only[go_sem];refine ah hJ ?_;simp only[*,go_sem];refine az ?_;simp only[*,go_sem]
def nN (u0:aj):Option Int:=
 ag (fF u0.bH 2 60) fun b=>cond (!b) (some 1) (ag (fF u0.bK 0 60) fun c=>cond (!c) (some 1) (ag (fF u0.aS.den 1 20) fun d=>cond (!d) (some 1) (ag (fF u0.aS.num 0 20) fun e=>cond (!e) (some 1) (ag (ki u0.aS.num u0.aS.den) fun a=>cond (!((a.num==u0.aS.num)&&(a.den==u0.aS.den))) (some 3) (some 0)))))
theorem Gv {ro:Addr->Option Value}(u0:aj){s1 a b c:Value}(z:bL ro u0 s1 a b c){r:Int}(h:nN u0=some r):aE Tryz.prog 229 #[bv u0 s1 a b c] ⟨ro,[]⟩ (fun v _=>v= .int .i64 r):=by
 unfold nN at h;refine aE.go Tryz.func229 rfl Tryz.ntmps229 Tryz.results229 (by simp) fun main J hJ A d hd hs=>?_;have e:=hs 0;clear hs;refine ah hJ ?_;simp only[*,go_sem];refine aA fun B C f=>?_;try simp only[au] at f
 try simp only[*,go_sem]
 refine af hJ (aN hJ (af hJ ?_));refine ah hJ ?_;revert h;refine bS fun D g h=>?_;simp only[*,go_sem];refine bn hJ _ (gD u0.bH 2 60 g) (aJ ?_);try simp only[*,go_sem]
 revert h;refine jC hJ (by simp only[*,go_sem]) (fun i h=>?_) fun i h=>?_
 ·obtain rfl:=sI h;refine aH hJ ?_;refine bE hJ (by simp only[*,go_sem]) ?_;refine ah hJ ?_;simp only[*,go_sem];refine az ?_;simp only[*,go_sem]
 refine ah hJ ?_;revert h;refine bS fun E j h=>?_;simp only[*,go_sem];refine bn hJ _ (gD u0.bK 0 60 j) (aJ ?_);try simp only[*,go_sem]
 revert h;refine jC hJ (by simp only[*,go_sem]) (fun k h=>?_) fun k h=>?_
 ·obtain rfl:=sI h;refine aH hJ ?_;refine bE hJ (by simp only[*,go_sem]) ?_;refine ah hJ ?_;simp only[*,go_sem];refine az ?_;simp only[*,go_sem]
 refine ah hJ ?_;revert h;refine bS fun G l h=>?_;simp only[*,go_sem];refine bn hJ _ (gD u0.aS.den 1 20 l) (aJ ?_);try simp only[*,go_sem]
 revert h;refine jC hJ (by simp only[*,go_sem]) (fun m h=>?_) fun m h=>?_
 ·obtain rfl:=sI h;refine aH hJ ?_;refine bE hJ (by simp only[*,go_sem]) ?_;refine ah hJ ?_;simp only[*,go_sem];refine az ?_;simp only[*,go_sem]
 refine ak hJ ?_;revert h;refine bS fun H n h=>?_;simp only[*,go_sem];refine bn hJ _ (gD u0.aS.num 0 20 n) (aJ ?_);try simp only[*,go_sem]
 revert h;refine jC hJ (by simp only[*,go_sem]) (fun o h=>?_) fun o h=>?_
 ·obtain rfl:=sI h;refine ah hJ ?_;simp only[*,go_sem];refine az ?_;simp only[*,go_sem]
 refine af hJ ?_;refine cP hJ mixed 14 1 (by simp only[*,go_sem]) (by kernel_rfl) ?_;revert h;refine bS fun I p h=>?_;simp only[*,go_sem];refine ⟨_,bC hJ fun F K=>pW u0.aS.num u0.aS.den p,b7 ?_⟩;try simp only[*,go_sem]
 revert h;refine jC hJ (by simp only[*,go_sem]) (fun q h=>?_) fun q h=>?_
 ·obtain rfl:=sI h;refine af hJ ?_;refine fN [2] fun L s t u=>?_;simp only[*,go_sem] at s t u;clear d hd e;refine ak hJ ?_;simp only[*,go_sem];refine az ?_;simp only[*,go_sem]
 obtain rfl:=sI h;refine aH hJ (af hJ ?_);refine fN [2] fun M w x y=>?_;simp only[*,go_sem] at w x y;clear d hd e;refine ak hJ ?_;simp only[*,go_sem];refine az ?_;simp only[*,go_sem]
def c9 (ro:Addr->Option Value):Prop:=
 ro ⟨0,0,none⟩=some (.func (.func 229) #[] #[])/\ro ⟨0,1,none⟩=some (.func (.func 230) #[] #[])/\ro ⟨0,2,none⟩=some (.func (.func 231) #[] #[])/\ro ⟨0,3,none⟩=some (.func (.func 232) #[] #[])/\ro ⟨0,4,none⟩=some (.func (.func 233) #[] #[])
theorem c9.mono {ro aM:Addr->Option Value}(h:c9 ro)(a:Ext ro aM):c9 aM:=
 ⟨a _ _ h.1,a _ _ h.2.1,a _ _ h.2.2.1,a _ _ h.2.2.2.1,a _ _ h.2.2.2.2⟩
def nO (_:aj):Option Int:=some 0
def lf (b:aj):Option Int:=ag (mE b) fun x=>cond (x != 0) (some x) (nO b)
def lg (b:aj):Option Int:=ag (mF b) fun x=>cond (x != 0) (some x) (lf b)
def lp (b:aj):Option Int:=ag (mG b) fun x=>cond (x != 0) (some x) (lg b)
def lq (b:aj):Option Int:=ag (k9 b) fun x=>cond (x != 0) (some x) (lp b)
def iY (b:aj):Option Int:=ag (nN b) fun x=>cond (x != 0) (some x) (lq b)
def er (b:aj):Option Int:=iY b
def sw:Nat->aj->Option Int
 |0=>iY|1=>lq|2=>lp|3=>lg|4=>lf|_=>nO
theorem AU {ro:Addr->Option Value}(o:c9 ro)(u0:aj){s1:Value}(e:aC e5 ro s1 u0.ax){s2:Value}(f:aC eA ro s2 u0.props){g:Value}(j:aC eV ro g u0.av){k:Value}(l:aC dg ro k u0.told){r:Int}(h:er u0=some r):
  aE Tryz.prog 92 #[.agg #[.int .i64 u0.bH,.int .i64 u0.bK,.int .i64 u0.aS.num,.int .i64 u0.aS.den,s1,s2,g,k]] ⟨ro,[]⟩ (fun v _=>v= .int .i64 r):=by
 obtain ⟨s,t,u,w,y⟩:=o
 replace h:sw 0 u0=some r:=h
 refine aE.go Tryz.func92 rfl Tryz.ntmps92 Tryz.results92 (by simp) fun main J hJ A p hd hs=>?_
 have z:=hs 0
 clear hs
 first|refine ak hJ ?_|refine ah hJ ?_|refine af hJ (ah hJ ?_)|refine af hJ (af hJ (ah hJ ?_))
 simp only[*,go_sem]
 intro d f1;have r1:=eE f1;have n1:=fB f1;simp only[au] at n1
 first|refine ak hJ ?_|refine ah hJ ?_|refine af hJ (ah hJ ?_)|refine af hJ (af hJ (ah hJ ?_))
 simp only[*,go_sem]
 first|refine aN hJ (vm hJ (fun m a F=>∃i:Nat,F=⟨ro,[(d,.cells #[.int .i64 u0.bH,.int .i64 u0.bK,.int .i64 u0.aS.num,.int .i64 u0.aS.den,s1,s2,g,k] 29)]⟩/\m=5 - i/\sz a=18/\a.defers=[]/\slot a 1= .pointer (some ⟨d,0,none⟩)/\slot a 6= .agg #[.func (.func 229) #[] #[],.func (.func 230) #[] #[],.func (.func 231) #[] #[],.func (.func 232) #[] #[],.func (.func 233) #[] #[]]/\slot a 7= .int .i64 i/\i<=5/\sw i u0=some r) (5) ?_ ?_)|refine af hJ (aN hJ (vm hJ (fun m a F=>∃i:Nat,F=⟨ro,[(d,.cells #[.int .i64 u0.bH,.int .i64 u0.bK,.int .i64 u0.aS.num,.int .i64 u0.aS.den,s1,s2,g,k] 29)]⟩/\m=5 - i/\sz a=18/\a.defers=[]/\slot a 1= .pointer (some ⟨d,0,none⟩)/\slot a 6= .agg #[.func (.func 229) #[] #[],.func (.func 230) #[] #[],.func (.func 231) #[] #[],.func (.func 232) #[] #[],.func (.func 233) #[] #[]]/\slot a 7= .int .i64 i/\i<=5/\sw i u0=some r) (5) ?_ ?_))|refine af hJ (af hJ (aN hJ (vm hJ (fun m a F=>∃i:Nat,F=⟨ro,[(d,.cells #[.int .i64 u0.bH,.int .i64 u0.bK,.int .i64 u0.aS.num,.int .i64 u0.aS.den,s1,s2,g,k] 29)]⟩/\m=5 - i/\sz a=18/\a.defers=[]/\slot a 1= .pointer (some ⟨d,0,none⟩)/\slot a 6= .agg #[.func (.func 229) #[] #[],.func (.func 230) #[] #[],.func (.func 231) #[] #[],.func (.func 232) #[] #[],.func (.func 233) #[] #[]]/\slot a 7= .int .i64 i/\i<=5/\sw i u0=some r) (5) ?_ ?_)))
 ·refine ⟨0,rfl,rfl,?_⟩
  simp only[*,go_sem,-h]
  exact ⟨Nat.zero_le _,h⟩
 ·clear h
  rintro m a F ⟨i,rfl,rfl,p,hd,B,C,D,hi,h⟩
  rcases i with _|_|_|_|_|i
  ·replace h:ag (nN u0) (fun x=>cond (x != 0) (some x) (lq u0))=some r:=h
   have b:=fJ h;clear h;obtain ⟨x,q,h⟩:=b
   have n:((0:Nat):Int)=0:=rfl
   first|refine ak hJ ?_|refine ah hJ ?_|refine af hJ (ah hJ ?_)|refine af hJ (af hJ (ah hJ ?_))
   simp only[*,go_sem,-h]
   refine af hJ ?_
   refine bE hJ (by simp only[*,go_sem,-h]) ?_
   refine aH hJ ?_
   refine af hJ (aN hJ ?_)
   first|refine ak hJ ?_|refine ah hJ ?_|refine af hJ (ah hJ ?_)|refine af hJ (af hJ (ah hJ ?_))
   simp only[*,go_sem,-h]
   first|refine ak hJ ?_|refine ah hJ ?_|refine af hJ (ah hJ ?_)|refine af hJ (af hJ (ah hJ ?_))
   simp only[*,go_sem,-h]
   refine bn hJ _ (Gv u0 ⟨(e.mono aR),(f.mono aR),(j.mono aR),(l.mono aR)⟩ q) (aJ ?_)
   simp only[*,go_sem,-h]
   first|refine ak hJ ?_|refine ah hJ ?_|refine af hJ (ah hJ ?_)|refine af hJ (af hJ (ah hJ ?_))
   simp only[*,go_sem,-h]
   have b:=iS h;clear h;rcases b with ⟨c,h⟩|⟨c,h⟩
   ·refine bE hJ (by simp only[*,go_sem,-h]) ?_
    first|refine ak hJ ?_|refine ah hJ ?_|refine af hJ (ah hJ ?_)|refine af hJ (af hJ (ah hJ ?_))
    simp only[*,go_sem,-h]
    have b:=Option.some.inj h;clear h;subst b
    refine az ?_
    simp only[*,go_sem]
   ·refine bD hJ (by simp only[*,go_sem,-h]) ?_
    refine aH hJ ?_
    refine ak hJ ?_
    simp only[*,go_sem,-h]
    refine ⟨5 - 1,by omega,_,Le.refl _,1,rfl,rfl,?_⟩
    have hw:IntKind.i64.wrap (0+1)=((1:Nat):Int):=by decide
    simp only[*,go_sem,-h]
    exact ⟨by omega,h⟩
  ·replace h:ag (k9 u0) (fun x=>cond (x != 0) (some x) (lp u0))=some r:=h
   have b:=fJ h;clear h;obtain ⟨x,q,h⟩:=b
   have n:((0+1:Nat):Int)=1:=rfl
   first|refine ak hJ ?_|refine ah hJ ?_|refine af hJ (ah hJ ?_)|refine af hJ (af hJ (ah hJ ?_))
   simp only[*,go_sem,-h]
   refine af hJ ?_
   refine bE hJ (by simp only[*,go_sem,-h]) ?_
   refine aH hJ ?_
   refine af hJ (aN hJ ?_)
   first|refine ak hJ ?_|refine ah hJ ?_|refine af hJ (ah hJ ?_)|refine af hJ (af hJ (ah hJ ?_))
   simp only[*,go_sem,-h]
   first|refine ak hJ ?_|refine ah hJ ?_|refine af hJ (ah hJ ?_)|refine af hJ (af hJ (ah hJ ?_))
   simp only[*,go_sem,-h]
   refine bn hJ _ (Gu u0 ⟨(e.mono aR),(f.mono aR),(j.mono aR),(l.mono aR)⟩ q) (aJ ?_)
   simp only[*,go_sem,-h]
   first|refine ak hJ ?_|refine ah hJ ?_|refine af hJ (ah hJ ?_)|refine af hJ (af hJ (ah hJ ?_))
   simp only[*,go_sem,-h]
   have b:=iS h;clear h;rcases b with ⟨c,h⟩|⟨c,h⟩
   ·refine bE hJ (by simp only[*,go_sem,-h]) ?_
    first|refine ak hJ ?_|refine ah hJ ?_|refine af hJ (ah hJ ?_)|refine af hJ (af hJ (ah hJ ?_))
    simp only[*,go_sem,-h]
    have b:=Option.some.inj h;clear h;subst b
    refine az ?_
    simp only[*,go_sem]
   ·refine bD hJ (by simp only[*,go_sem,-h]) ?_
    refine aH hJ ?_
    refine ak hJ ?_
    simp only[*,go_sem,-h]
    refine ⟨5 - 2,by omega,_,Le.refl _,2,rfl,rfl,?_⟩
    have hw:IntKind.i64.wrap (1+1)=((2:Nat):Int):=by decide
    simp only[*,go_sem,-h]
    exact ⟨by omega,h⟩
  ·replace h:ag (mG u0) (fun x=>cond (x != 0) (some x) (lg u0))=some r:=h
   have b:=fJ h;clear h;obtain ⟨x,q,h⟩:=b
   have n:((0+1+1:Nat):Int)=2:=rfl
   first|refine ak hJ ?_|refine ah hJ ?_|refine af hJ (ah hJ ?_)|refine af hJ (af hJ (ah hJ ?_))
   simp only[*,go_sem,-h]
   refine af hJ ?_
   refine bE hJ (by simp only[*,go_sem,-h]) ?_
   refine aH hJ ?_
   refine af hJ (aN hJ ?_)
   first|refine ak hJ ?_|refine ah hJ ?_|refine af hJ (ah hJ ?_)|refine af hJ (af hJ (ah hJ ?_))
   simp only[*,go_sem,-h]
   first|refine ak hJ ?_|refine ah hJ ?_|refine af hJ (ah hJ ?_)|refine af hJ (af hJ (ah hJ ?_))
   simp only[*,go_sem,-h]
   refine bn hJ _ (Gt u0 ⟨(e.mono aR),(f.mono aR),(j.mono aR),(l.mono aR)⟩ q) (aJ ?_)
   simp only[*,go_sem,-h]
   first|refine ak hJ ?_|refine ah hJ ?_|refine af hJ (ah hJ ?_)|refine af hJ (af hJ (ah hJ ?_))
   simp only[*,go_sem,-h]
   have b:=iS h;clear h;rcases b with ⟨c,h⟩|⟨c,h⟩
   ·refine bE hJ (by simp only[*,go_sem,-h]) ?_
    first|refine ak hJ ?_|refine ah hJ ?_|refine af hJ (ah hJ ?_)|refine af hJ (af hJ (ah hJ ?_))
    simp only[*,go_sem,-h]
    have b:=Option.some.inj h;clear h;subst b
    refine az ?_
    simp only[*,go_sem]
   ·refine bD hJ (by simp only[*,go_sem,-h]) ?_
    refine aH hJ ?_
    refine ak hJ ?_
    simp only[*,go_sem,-h]
    refine ⟨5 - 3,by omega,_,Le.refl _,3,rfl,rfl,?_⟩
    have hw:IntKind.i64.wrap (2+1)=((3:Nat):Int):=by decide
    simp only[*,go_sem,-h]
    exact ⟨by omega,h⟩
  ·replace h:ag (mF u0) (fun x=>cond (x != 0) (some x) (lf u0))=some r:=h
   have b:=fJ h;clear h;obtain ⟨x,q,h⟩:=b
   have n:((0+1+1+1:Nat):Int)=3:=rfl
   first|refine ak hJ ?_|refine ah hJ ?_|refine af hJ (ah hJ ?_)|refine af hJ (af hJ (ah hJ ?_))
   simp only[*,go_sem,-h]
   refine af hJ ?_
   refine bE hJ (by simp only[*,go_sem,-h]) ?_
   refine aH hJ ?_
   refine af hJ (aN hJ ?_)
   first|refine ak hJ ?_|refine ah hJ ?_|refine af hJ (ah hJ ?_)|refine af hJ (af hJ (ah hJ ?_))
   simp only[*,go_sem,-h]
   first|refine ak hJ ?_|refine ah hJ ?_|refine af hJ (ah hJ ?_)|refine af hJ (af hJ (ah hJ ?_))
   simp only[*,go_sem,-h]
   refine bn hJ _ (Gs u0 ⟨(e.mono aR),(f.mono aR),(j.mono aR),(l.mono aR)⟩ q) (aJ ?_)
   simp only[*,go_sem,-h]
   first|refine ak hJ ?_|refine ah hJ ?_|refine af hJ (ah hJ ?_)|refine af hJ (af hJ (ah hJ ?_))
   simp only[*,go_sem,-h]
   have b:=iS h;clear h;rcases b with ⟨c,h⟩|⟨c,h⟩
   ·refine bE hJ (by simp only[*,go_sem,-h]) ?_
    first|refine ak hJ ?_|refine ah hJ ?_|refine af hJ (ah hJ ?_)|refine af hJ (af hJ (ah hJ ?_))
    simp only[*,go_sem,-h]
    have b:=Option.some.inj h;clear h;subst b
    refine az ?_
    simp only[*,go_sem]
   ·refine bD hJ (by simp only[*,go_sem,-h]) ?_
    refine aH hJ ?_
    refine ak hJ ?_
    simp only[*,go_sem,-h]
    refine ⟨5 - 4,by omega,_,Le.refl _,4,rfl,rfl,?_⟩
    have hw:IntKind.i64.wrap (3+1)=((4:Nat):Int):=by decide
    simp only[*,go_sem,-h]
    exact ⟨by omega,h⟩
  ·replace h:ag (mE u0) (fun x=>cond (x != 0) (some x) (nO u0))=some r:=h
   have b:=fJ h;clear h;obtain ⟨x,q,h⟩:=b
   have n:((0+1+1+1+1:Nat):Int)=4:=rfl
   first|refine ak hJ ?_|refine ah hJ ?_|refine af hJ (ah hJ ?_)|refine af hJ (af hJ (ah hJ ?_))
   simp only[*,go_sem,-h]
   refine af hJ ?_
   refine bE hJ (by simp only[*,go_sem,-h]) ?_
   refine aH hJ ?_
   refine af hJ (aN hJ ?_)
   first|refine ak hJ ?_|refine ah hJ ?_|refine af hJ (ah hJ ?_)|refine af hJ (af hJ (ah hJ ?_))
   simp only[*,go_sem,-h]
   first|refine ak hJ ?_|refine ah hJ ?_|refine af hJ (ah hJ ?_)|refine af hJ (af hJ (ah hJ ?_))
   simp only[*,go_sem,-h]
   refine bn hJ _ (Gq u0 ⟨(e.mono aR),(f.mono aR),(j.mono aR),(l.mono aR)⟩ q) (aJ ?_)
   simp only[*,go_sem,-h]
   first|refine ak hJ ?_|refine ah hJ ?_|refine af hJ (ah hJ ?_)|refine af hJ (af hJ (ah hJ ?_))
   simp only[*,go_sem,-h]
   have b:=iS h;clear h;rcases b with ⟨c,h⟩|⟨c,h⟩
   ·refine bE hJ (by simp only[*,go_sem,-h]) ?_
    first|refine ak hJ ?_|refine ah hJ ?_|refine af hJ (ah hJ ?_)|refine af hJ (af hJ (ah hJ ?_))
    simp only[*,go_sem,-h]
    have b:=Option.some.inj h;clear h;subst b
    refine az ?_
    simp only[*,go_sem]
   ·refine bD hJ (by simp only[*,go_sem,-h]) ?_
    refine aH hJ ?_
    refine ak hJ ?_
    simp only[*,go_sem,-h]
    refine ⟨5 - 5,by omega,_,Le.refl _,5,rfl,rfl,?_⟩
    have hw:IntKind.i64.wrap (4+1)=((5:Nat):Int):=by decide
    simp only[*,go_sem,-h]
    exact ⟨by omega,h⟩
  ·have:i=0:=by omega
   subst this
   replace h:some 0=some r:=h
   have n:((0+1+1+1+1+1:Nat):Int)=5:=rfl
   first|refine ak hJ ?_|refine ah hJ ?_|refine af hJ (ah hJ ?_)|refine af hJ (af hJ (ah hJ ?_))
   simp only[*,go_sem,-h]
   refine af hJ ?_
   refine bD hJ (by simp only[*,go_sem,-h]) ?_
   refine bN ?_
   simp only[go_sem]
   first|refine ak hJ ?_|refine ah hJ ?_|refine af hJ (ah hJ ?_)|refine af hJ (af hJ (ah hJ ?_))
   simp only[*,go_sem,-h]
   have b:=Option.some.inj h;clear h;subst b
   refine az ?_
   simp only[*,go_sem]
def nP (u0:aj)(b:bf)(i39:Nat)(a:bX)(st:(List bB)):Option (Fl (List bB) bB):=
 ag (gd a.high) fun c=>ag (ko u0 b (i39:Int) (⟨a.aL,c⟩:gU)) fun d=>ag (c8 st ([d])) fun e=>some (.nx e)
def lu (u0:aj)(b:bf):Option bB:=
 ag (bJ (nP u0 b) 0 u0.ax ([]:List bB)) fun o=>aD o (fun a=>ag (aY a 0) fun c=>ag (iT a 1 (a.length:Int)) fun d=>ag (mC iX c d) fun e=>some e) (fun _ _=>none) (fun r=>some r)
theorem sx {ro:Addr->Option Value}(u0:aj){s1 f g i:Value}(u:bL ro u0 s1 f g i)(b:bf){r:bB}(h:lu u0 b=some r):aE Tryz.prog 86 #[bv u0 s1 f g i,.agg #[.int .i64 b.back,.int .i64 b.high]] ⟨ro,[]⟩ (fun v _=>v=r.v):=by
 obtain ⟨d3,c4,rfl,dE,W,-⟩:=id u.e;unfold lu at h;refine aE.go Tryz.func86 rfl Tryz.ntmps86 Tryz.results86 (by simp) fun main J hJ A X hd hs=>?_;have Y:=hs 0;have k1:=hs 1;clear hs;refine ah hJ ?_;simp only[*,go_sem];refine aA fun o Z ab=>?_;try simp only[au] at ab
 refine aA fun p ad ae=>?_;try simp only[au] at ae
 refine aA fun q al ao=>?_;try simp only[au] at ao
 try simp only[*,go_sem]
 refine ah hJ ?_;simp only[*,go_sem];refine af hJ (ah hJ ?_);simp only[*,go_sem];refine aN hJ ?_;revert h;refine bS fun ar j a0=>?_;refine bT hJ [5,6,7,12,13,14,15,16,17,18,19,20,21,22,23,24,25,26,27,28,29,30] (fun m G F'=>∃(i39:Nat) (d33:Option Addr) (s:Nat) (w:List (Nat×Obj)) (c:(List bB)),m=u0.ax.length - i39/\i39<=u0.ax.length/\bJ (nP u0 b) i39 (u0.ax.drop i39) c=some ar/\F'=⟨ro,(q,.cells #[.int .i64 0,.int .i64 0,.int .i64 0,.int .i64 0,.int .i64 0,.int .i64 0] 147)::(p,.cells #[.int .i64 b.back,.int .i64 b.high] 134)::(o,bl u0 (sl d3 u0.ax c4) f g i)::w⟩/\aO kg ro 147 (.slice d33 c.length s) c w/\c.length<=s/\slot G 12= .int .i64 (i39:Int)/\slot G 5= .slice d33 c.length s) u0.ax.length ?_ ?_
 ·refine ⟨0,none,0,[],([]:List bB),(Nat.sub_zero _).symm,Nat.zero_le _,j,rfl,aO.nil _ _ _,Nat.le_refl _,?_⟩;simp only[*,go_sem]
 rintro dT ea F' H ⟨i39,d33,s,w,c,rfl,eb,j,rfl,I,ec,ed,eh⟩;obtain ⟨a2,a3,a4⟩:=H.pick [2,3,4,10,11] (by decide);simp only[*,go_sem] at a2 a3 a4;clear H X hd Y k1;refine ah hJ ?_;simp only[*,go_sem];refine af hJ ?_;rcases Nat.lt_or_ge i39 u0.ax.length with a5|K
 ·refine bE hJ (by simp only[*,go_sem]) ?_;refine aH hJ ?_;obtain ⟨d,y⟩:∃x,u0.ax[i39]?=some x:=⟨_,List.getElem?_eq_getElem a5⟩
  rw[dc y] at j;revert j;refine bS fun et h a6=>?_;unfold nP at h;try dsimp only at h
  obtain ⟨z,a7,a8,a9,B⟩:=u.e.el _ _ y;obtain rfl:a7=d.cells:=a9;cases a8;have ba:=B 0 _ rfl;simp only[go_sem] at ba;have bb:=B 1 _ rfl;simp only[go_sem] at bb;clear B y;refine af hJ (aN hJ (af hJ ?_));refine aB hJ fun bc=>?_;refine ak hJ ?_;simp only[*,go_sem];refine aA fun C eu L=>?_;have ev:=aP.cons L bc;try simp only[au] at L
  try simp only[*,go_sem]
  refine aB hJ fun bd=>?_;refine fc hJ mixed 11 ⟨ro,[(C,.cells #[.int .i64 d.aL,.int .i64 d.high] 85),(q,.cells #[.int .i64 0,.int .i64 0,.int .i64 0,.int .i64 0,.int .i64 0,.int .i64 0] 147),(p,.cells #[.int .i64 b.back,.int .i64 b.high] 134),(o,bl u0 (sl (some z) u0.ax c4) f g i)]⟩ (by simp only[*,go_sem]) (by kernel_rfl) ?_;revert h;refine bS fun bj bk h=>?_;simp only[*,go_sem];refine ⟨_,bC hJ fun F t=>jy d.high bk,b7 ?_⟩;revert h;refine bS fun a bm h=>?_;try simp only[*,go_sem]
  refine ⟨_,bC hJ fun F t=>AT u0 (u.mono (b9 t)) b (i39:Int) (⟨d.aL,bj⟩:gU) bm,?_⟩;revert h;refine bS fun bo br h=>?_;obtain rfl:=sI h;obtain ⟨bs,M⟩:=dr br;try simp only[*,go_sem]
  refine aA fun N bz O=>?_;have b0:=aP.cons O bd;try simp only[au] at O
  try simp only[*,go_sem]
  refine dZ (r:=kg) (l:=c) (x:=a) (cs:=#[.int .i64 a.spot.aL,.int .i64 a.spot.high.num,.int .i64 a.spot.high.den,.int .i64 a.at_,.int .i64 a.high.num,.int .i64 a.high.den]) (e2:=147) [(N,.cells #[.int .i64 a.spot.aL,.int .i64 a.spot.high.num,.int .i64 a.spot.high.den,.int .i64 a.at_,.int .i64 a.high.num,.int .i64 a.high.den] 147),(C,.cells #[.int .i64 d.aL,.int .i64 d.high] 85),(q,.cells #[.int .i64 0,.int .i64 0,.int .i64 0,.int .i64 0,.int .i64 0,.int .i64 0] 147),(p,.cells #[.int .i64 b.back,.int .i64 b.high] 134),(o,bl u0 (sl (some z) u0.ax c4) f g i)] [] I b0 bs rfl (by simp only[*,go_sem]) bz rfl rfl nD nD vu vw rfl vv (by decide) (by decide) (fun eQ P D b1 b2 eS=>?_);simp only[aX] at b2;subst b1;rw[<-M] at D;clear M;obtain ⟨d63,b3,rfl,b4⟩:=D.len;refine ⟨⟨ro,(N,.cells #[.int .i64 a.spot.aL,.int .i64 a.spot.high.num,.int .i64 a.spot.high.den,.int .i64 a.at_,.int .i64 a.high.num,.int .i64 a.high.den] 147)::(C,.cells #[.int .i64 d.aL,.int .i64 d.high] 85)::(q,.cells #[.int .i64 0,.int .i64 0,.int .i64 0,.int .i64 0,.int .i64 0,.int .i64 0] 147)::(p,.cells #[.int .i64 b.back,.int .i64 b.high] 134)::(o,bl u0 (sl (some z) u0.ax c4) f g i)::P⟩,Le.refl _,?_⟩;refine ⟨by simp only[*,go_sem],mg ?_⟩;try simp only[*,go_sem]
  have e0:=cq (n:=i39) (by have:=W;omega);refine ak hJ ?_;simp only[*,go_sem];refine ⟨u0.ax.length - (i39+1),by omega,_,Le.sub (List.Sublist.cons _ (List.Sublist.cons _ (List.Sublist.refl _))),i39+1,d63,b3,P,bo,rfl,by omega,a6,rfl,D,b4,?_⟩;simp only[*,go_sem]
 have e1:=Nat.not_lt.2 K;refine bD hJ (by simp only[*,go_sem]) ?_;rw[List.drop_eq_nil_of_le K] at j;obtain rfl:=sI j;clear j;have h:=a0;dsimp only[aD] at h;refine bN ?_;simp only[go_sem];refine af hJ ?_;refine aB hJ fun Q=>?_;obtain ⟨b5,e3,ca,E,cb⟩:=I.e4 [(q,.cells #[.int .i64 0,.int .i64 0,.int .i64 0,.int .i64 0,.int .i64 0,.int .i64 0] 147),(p,.cells #[.int .i64 b.back,.int .i64 b.high] 134),(o,bl u0 (sl d3 u0.ax c4) f g i)] [] Q (aG.cons al (aG.cons ad (aG.cons Z (aG.nil _))));clear Q;refine cp hJ cb ?_;obtain ⟨fa,fb,-⟩:=E.op;simp only[bq] at ca;refine fc hJ mixed 6 ⟨b5,[(p,.cells #[.int .i64 b.back,.int .i64 b.high] 134),(o,bl u0 (sl d3 u0.ax c4) f g i)]⟩ (by simp only[*,go_sem]) (by kernel_rfl) ?_;revert h;refine bS fun R cd h=>?_;obtain ⟨fg,fi,S⟩:=cE cd;obtain ⟨fo,cf,cl,cu,k⟩:=E.el _ _ S;obtain rfl:cf=R.cells:=cu;cases cl;have cy:=k 0 _ rfl;simp only[go_sem] at cy;have cS:=k 1 _ rfl;simp only[go_sem] at cS;have c0:=k 2 _ rfl;simp only[go_sem] at c0;have da:=k 3 _ rfl;simp only[go_sem] at da;have db:=k 4 _ rfl;simp only[go_sem] at db;have dd:=k 5 _ rfl;simp only[go_sem] at dd;clear k S;revert h;refine bS fun df dk h=>?_;obtain ⟨fp,fr,fs,T⟩:=pq dk;have U:(1:Int).toNat<=((c.length:Int)).toNat:=by omega
 have dp:((c.length:Int)).toNat<=s:=by omega
 have ft:0<=((c.length:Int)):=by omega
 obtain ⟨d80,dq,ds,V⟩:=aC.pG E (1:Int).toNat ((c.length:Int)).toNat U (by omega) T;simp only[go_sem] at dq ds U dp;obtain ⟨_,_,dt,fu,fv,fw⟩:=id V;cases dt;clear T;revert h;refine bS fun fx du h=>?_;obtain rfl:=sI h;try simp only[*,go_sem]
 refine ⟨_,bC hJ fun F t=>sj (dK:=88) (ee:=#[]) (ef:=#[]) iX ⟨by simp only[go_sem],fun gg gl dv dC _ h=>by simp only[go_sem];exact r9 dv dC h⟩ R df (V.mono (b9 t)) du,?_⟩;try simp only[*,go_sem]
 refine az ?_;simp only[*,go_sem]
def mH (u0:aj)(a:bf):Option an:=
 ag (gd u0.bK) fun b=>ag (lu u0 a) fun c=>ag (jA b c.high) fun d=>some d
theorem AV {ro:Addr->Option Value}(u0:aj){s1 b c d:Value}(f:bL ro u0 s1 b c d)(a:bf){r:an}(h:mH u0 a=some r):aE Tryz.prog 73 #[bv u0 s1 b c d,.agg #[.int .i64 a.back,.int .i64 a.high]] ⟨ro,[]⟩ (fun v _=>v=r.v):=by
 unfold mH at h;refine aE.go Tryz.func73 rfl Tryz.ntmps73 Tryz.results73 (by simp) fun main J hJ A s hd hs=>?_;have t:=hs 0;have k1:=hs 1;clear hs;refine ah hJ ?_;simp only[*,go_sem];refine aA fun g u i=>?_;try simp only[au] at i
 refine aA fun j w k=>?_;try simp only[au] at k
 refine aA fun x y l=>?_;try simp only[au] at l
 try simp only[*,go_sem]
 refine af hJ ?_;refine fc hJ mixed 9 ⟨ro,[(j,.cells #[.int .i64 a.back,.int .i64 a.high] 134),(g,bl u0 s1 b c d)]⟩ (by simp only[*,go_sem]) (by kernel_rfl) ?_;revert h;refine bS fun m n h=>?_;simp only[*,go_sem];refine ⟨_,bC hJ fun F e=>jy u0.bK n,b7 ?_⟩;revert h;refine bS fun o p h=>?_;try simp only[*,go_sem]
 refine ⟨_,bC hJ fun F e=>sx u0 (f.mono (b9 e)) a p,b7 ?_⟩;revert h;refine bS fun z q h=>?_;obtain rfl:=sI h;try simp only[*,go_sem]
 refine ⟨_,bC hJ fun F e=>pY m o.high q,?_⟩;try simp only[*,go_sem]
 refine az ?_;simp only[*,go_sem]
def nS (u0:aj)(a:Int)(st:Int):Option (Fl Int an):=
 ag (aY u0.ax st) fun b=>cond (decide (b.aL<a)) (some (.nx (IntKind.i64.wrap (st+1)))) (some (.bk st))
def iZ (u0:aj)(b:Int):Option an:=
 ag (aU (nS u0 b) fu 1) fun o=>aD o (fun c=>ag (aY u0.ax (IntKind.i64.wrap (c - 1))) fun a=>ag (aY u0.ax c) fun d=>ag (gd a.high) fun e=>ag (ki (IntKind.i64.wrap ((IntKind.i64.wrap (d.high - a.high))*(IntKind.i64.wrap (b - a.aL)))) (IntKind.i64.wrap (d.aL - a.aL))) fun f=>ag (jz e f) fun g=>some g) (fun _ _=>none) (fun r=>some r)
theorem AW {ro:Addr->Option Value}(u0:aj){s1 b c d:Value}(g:bL ro u0 s1 b c d)(i:Int){r:an}(h:iZ u0 i=some r):aE Tryz.prog 116 #[bv u0 s1 b c d,.int .i64 i] ⟨ro,[]⟩ (fun v _=>v=r.v):=by
 obtain ⟨d3,c4,rfl,bc,bd,-⟩:=id g.e;unfold iZ at h;refine aE.go Tryz.func116 rfl Tryz.ntmps116 Tryz.results116 (by simp) fun main J hJ A E hd hs=>?_;have G:=hs 0;have k1:=hs 1;clear hs;refine ah hJ ?_;simp only[*,go_sem];refine aA fun l bj H=>?_;try simp only[au] at H
 refine aA fun t bk I=>?_;try simp only[au] at I
 try simp only[*,go_sem]
 refine ah hJ ?_;simp only[*,go_sem];refine af hJ (aN hJ ?_);revert h;refine bS fun K j L=>?_;refine bT hJ [5,8,9,10,11,12,13,14,15,16,17,18] (fun m M F'=>∃(k:Int),aU (nS u0 i) m k=some K/\F'=⟨ro,(t,rt 0 0)::(l,bl u0 (sl d3 u0.ax c4) b c d)::[]⟩/\slot M 5= .int .i64 k) fu ?_ ?_
 ·refine ⟨1,j,rfl,?_⟩;simp only[*,go_sem]
 rintro n bm F' u ⟨k,j,rfl,bo⟩;obtain ⟨N,O,P⟩:=u.pick [1,2,4] (by decide);simp only[*,go_sem] at N O P;clear u E hd G k1;obtain _|n:=n
 ·exact absurd j (by simp only[aU,reduceCtorEq,not_false_eq_true])
 revert j;refine bS fun br h o=>?_;unfold nS at h;try dsimp only at h
 refine af hJ (ah hJ ?_);revert h;refine bS fun Q R h=>?_;obtain ⟨bs,bz,w⟩:=cE R;obtain ⟨x,S,T,U,p⟩:=g.e.el _ _ w;obtain rfl:S=Q.cells:=U;cases T;have y:=p 0 _ rfl;simp only[go_sem] at y;have z:=p 1 _ rfl;simp only[go_sem] at z;clear p w;try simp only[*,go_sem]
 revert h;refine jC hJ (by simp only[*,go_sem]) (fun V h=>?_) fun V h=>?_
 ·obtain rfl:=sI h;refine aH hJ (aN hJ ?_);refine ak hJ ?_;simp only[*,go_sem];refine ⟨n,Nat.lt_succ_self _,_,Le.sub (List.Sublist.refl _),(IntKind.i64.wrap (k+1)),o,rfl,?_⟩;simp only[*,go_sem]
 obtain rfl:=sI h;refine bN ?_;simp only[go_sem];obtain rfl:=sI o;clear o;have h:=L;dsimp only[aD] at h;clear y z;refine af hJ ?_;refine Al hJ mixed 13 ⟨ro,[(t,rt 0 0),(l,bl u0 (sl (some x) u0.ax c4) b c d)]⟩ (by simp only[*,go_sem]) (by kernel_rfl) 85 rfl Ac ?_;revert h;refine bS fun a W h=>?_;obtain ⟨b0,b1,B⟩:=cE W;obtain ⟨b2,X,Y,Z,q⟩:=g.e.el _ _ B;obtain rfl:X=a.cells:=Z;cases Y;have ab:=q 0 _ rfl;simp only[go_sem] at ab;have ad:=q 1 _ rfl;simp only[go_sem] at ad;clear q B;revert h;refine bS fun f ae h=>?_;obtain ⟨b3,b4,C⟩:=cE ae;obtain ⟨b5,al,ao,ar,s⟩:=g.e.el _ _ C;obtain rfl:al=f.cells:=ar;cases ao;have a0:=s 0 _ rfl;simp only[go_sem] at a0;have a2:=s 1 _ rfl;simp only[go_sem] at a2;clear s C;try simp only[*,go_sem]
 refine aA fun a3 ca a4=>?_;try simp only[au] at a4
 try simp only[*,go_sem]
 refine aA fun a5 cb a6=>?_;try simp only[au] at a6
 try simp only[*,go_sem]
 refine af hJ ?_;refine fc hJ mixed 20 ⟨ro,[(a5,.cells #[.int .i64 f.aL,.int .i64 f.high] 85),(a3,.cells #[.int .i64 a.aL,.int .i64 a.high] 85),(l,bl u0 (sl (some x) u0.ax c4) b c d)]⟩ (by simp only[*,go_sem]) (by kernel_rfl) ?_;revert h;refine bS fun a7 a8 h=>?_;simp only[*,go_sem];refine ⟨_,bC hJ fun F D=>jy a.high a8,b7 ?_⟩;revert h;refine bS fun a9 ba h=>?_;try simp only[*,go_sem]
 refine ⟨_,bC hJ fun F D=>pW (IntKind.i64.wrap ((IntKind.i64.wrap (f.high - a.high))*(IntKind.i64.wrap (i - a.aL)))) (IntKind.i64.wrap (f.aL - a.aL)) ba,b7 ?_⟩;revert h;refine bS fun cd bb h=>?_;obtain rfl:=sI h;try simp only[*,go_sem]
 refine ⟨_,bC hJ fun F D=>pX a7 a9 bb,?_⟩;try simp only[*,go_sem]
 refine az ?_;simp only[*,go_sem]
def p5 (c:cc)(b:an)(i59:Nat)(a:bB)(st:Unit):Option (Fl Unit (List bB)):=
 cond (((a.spot.aL==c.place)&&((a.spot.high.num==b.num)&&(a.spot.high.den==b.den)))) (some (.br 1 ())) (some (.nx ()))
def p6 (u0:aj)(c:bf)(i38:Nat)(a:cc)(st:(List bB)):Option (Fl (List bB) (List bB)):=
 ag (iZ u0 a.place) fun d=>ag (gd a.de) fun e=>ag (jz d e) fun b=>ag (bJ (p5 a b) 0 st ()) fun o=>aD o (fun h=>ag (ko u0 c (i38:Int) (⟨a.place,b⟩:gU)) fun f=>ag (c8 st ([f])) fun g=>some (.nx g)) (fun _ i=>some (.nx st)) (fun r=>some (.rt r))
def jB (u0:aj)(a:bf):Option (List bB):=
 ag (bJ (p6 u0 a) 0 u0.props ([]:List bB)) fun o=>aD o (fun b=>some b) (fun _ _=>none) (fun r=>some r)
theorem vR {ro:Addr->Option Value}(u0:aj){s1 O f g:Value}(w:bL ro u0 s1 O f g)(b:bf){r:(List bB)}(h:jB u0 b=some r):eL Tryz.prog 102 #[bv u0 s1 O f g,.agg #[.int .i64 b.back,.int .i64 b.high]] ro (fun v aM=>∃P,v=P/\aC kg aM P r):=by
 obtain ⟨d10,o,rfl,fb,Q,-⟩:=id w.p;unfold jB at h;refine aE.go Tryz.func102 rfl Tryz.ntmps102 Tryz.results102 (by simp) fun main J hJ A ba hd hs=>?_;have bb:=hs 0;have k1:=hs 1;clear hs;refine ah hJ ?_;simp only[*,go_sem];refine aA fun q bc bj=>?_;try simp only[au] at bj
 refine aA fun s bk bm=>?_;try simp only[au] at bm
 try simp only[*,go_sem]
 refine Ed hJ (af hJ ?_);refine ak hJ ?_;simp only[*,go_sem];refine af hJ ?_;refine Ec hJ ?_;refine af hJ (ah hJ ?_);simp only[*,go_sem];refine aN hJ ?_;revert h;refine bS fun bo i br=>?_;refine bT hJ [5,6,7,8,10,15,16,17,18,19,20,21,22,23,24,25,26,27,28,29,30,31,32,33,34,35,36,37,38,39,40,41,42,43,44,45,46,47,48,49,50] (fun m y F'=>∃(i38:Nat) (d32:Option Addr) (t:Nat) (z:List (Nat×Obj)) (c:(List bB)),m=u0.props.length - i38/\i38<=u0.props.length/\bJ (p6 u0 b) i38 (u0.props.drop i38) c=some bo/\F'=⟨ro,(s,.cells #[.int .i64 b.back,.int .i64 b.high] 134)::(q,bl u0 s1 (sl d10 u0.props o) f g)::z⟩/\aO kg ro 147 (.slice d32 c.length t) c z/\c.length<=t/\slot y 15= .int .i64 (i38:Int)/\slot y 5= .slice d32 c.length t) u0.props.length ?_ ?_
 ·refine ⟨0,none,0,[],([]:List bB),(Nat.sub_zero _).symm,Nat.zero_le _,i,rfl,aO.nil _ _ _,Nat.le_refl _,?_⟩;simp only[*,go_sem]
 rintro fg bs F' R ⟨i38,d32,t,z,c,rfl,fi,i,rfl,u,bz,b0,b1⟩;obtain ⟨S,T,U⟩:=R.pick [2,3,4,13,14] (by decide);simp only[*,go_sem] at S T U;clear R ba hd bb k1;refine ah hJ ?_;simp only[*,go_sem];refine af hJ ?_;rcases Nat.lt_or_ge i38 u0.props.length with b2|V
 ·refine bE hJ (by simp only[*,go_sem]) ?_;refine aH hJ ?_;obtain ⟨d,B⟩:∃x,u0.props[i38]?=some x:=⟨_,List.getElem?_eq_getElem b2⟩
  rw[dc B] at i;revert i;refine bS fun fo h W=>?_;unfold p6 at h;try dsimp only at h
  obtain ⟨C,b3,b4,b5,D⟩:=w.p.el _ _ B;obtain rfl:b3=d.cells:=b5;cases b4;have ca:=D 0 _ rfl;simp only[go_sem] at ca;have cb:=D 1 _ rfl;simp only[go_sem] at cb;clear D B;refine af hJ (aN hJ (af hJ ?_));refine aB hJ fun cd=>?_;refine ak hJ ?_;simp only[*,go_sem];refine aA fun E fp X=>?_;have fr:=aP.cons X cd;try simp only[au] at X
  try simp only[*,go_sem]
  refine af hJ ?_;refine aB hJ fun cf=>?_;refine cP hJ mixed 11 3 (by simp only[*,go_sem]) (by kernel_rfl) ?_;revert h;refine bS fun cl cu h=>?_;simp only[*,go_sem];refine ⟨_,bC hJ fun F G=>AW u0 (w.mono (b9 G)) d.place cu,b7 ?_⟩;revert h;refine bS fun cy cS h=>?_;try simp only[*,go_sem]
  refine ⟨_,bC hJ fun F G=>jy d.de cS,b7 ?_⟩;revert h;refine bS fun e c0 h=>?_;try simp only[*,go_sem]
  refine ⟨_,bC hJ fun F G=>pX cl cy c0,b7 ?_⟩;try simp only[*,go_sem]
  refine aA fun H fs Y=>?_;have ft:=aP.cons Y cf;try simp only[au] at Y
  try simp only[*,go_sem]
  refine af hJ (af hJ ?_);refine aB hJ fun fu=>?_;refine ak hJ ?_;simp only[*,go_sem];refine aN hJ ?_;revert h;refine bS fun da j Z=>?_;refine bT hJ [10,33,34,35,36,37,38,39,40,41] (fun m y F'=>∃(i59:Nat),m=c.length - i59/\i59<=c.length/\bJ (p5 d e) i59 (c.drop i59) ()=some da/\F'=⟨ro,(H,.cells #[.int .i64 d.place,.int .i64 e.num,.int .i64 e.den] 145)::(E,.cells #[.int .i64 d.place,.int .i64 d.de] 96)::(s,.cells #[.int .i64 b.back,.int .i64 b.high] 134)::(q,bl u0 s1 (sl (some C) u0.props o) f g)::z⟩/\slot y 33= .int .i64 (i59:Int)) c.length ?_ ?_
  ·refine ⟨0,(Nat.sub_zero _).symm,Nat.zero_le _,j,rfl,?_⟩;simp only[*,go_sem]
  rintro fv db F' I ⟨i59,rfl,fw,j,rfl,fx⟩;obtain ⟨dd,df,dk⟩:=I.pick [2,3,4,5,6,7,8,13,14,15,16,17,19,20,21,22,23,24,25,26,27,28,29,30,31,32] (by decide);simp only[*,go_sem] at dd df dk;have gg:cL [5,6,7,8,10,15,16,17,18,19,20,21,22,23,24,25,26,27,28,29,30,31,32,33,34,35,36,37,38,39,40,41,42,43,44,45,46,47,48,49,50] db bs:=(I.fZ (by decide)).trans (by simp only[*,go_sem]);clear I S T U b1 b0;refine ah hJ ?_;simp only[*,go_sem];refine af hJ ?_;rcases Nat.lt_or_ge i59 c.length with dp|ab
  ·refine bE hJ (by simp only[*,go_sem]) ?_;refine aH hJ ?_;obtain ⟨dq,K⟩:∃x,c[i59]?=some x:=⟨_,List.getElem?_eq_getElem dp⟩
   rw[dc K] at j;revert j;refine bS fun gl h L=>?_;unfold p5 at h;(try dsimp only at h);refine aB hJ fun M=>?_;obtain ⟨ad,ds,gn,dt,du,rfl,gp,dv,k⟩:=u.elem K;obtain rfl:dt=dq.cells:=dv;cases du;replace M:=M.nd;simp only[keys,List.map_cons,List.map_nil,List.map_append,List.cons_append,List.nil_append,List.nodup_cons,List.mem_cons,List.mem_append,List.not_mem_nil,or_false,not_or] at M;have ae:=k 0 _ rfl;simp only[go_sem] at ae;have al:=k 1 _ rfl;simp only[go_sem] at al;have ao:=k 2 _ rfl;simp only[go_sem] at ao;have ar:=k 3 _ rfl;simp only[go_sem] at ar;have a0:=k 4 _ rfl;simp only[go_sem] at a0;have a2:=k 5 _ rfl;simp only[go_sem] at a2;clear k K;refine af hJ (aN hJ (af hJ ?_));refine aB hJ fun dC=>?_;refine ak hJ ?_;simp only[*,go_sem];refine aA fun gB gC a3=>?_;have gM:=aP.cons a3 dC;try simp only[au] at a3
   (try simp only[*,go_sem]);refine af hJ ?_;refine aB hJ fun gT=>?_;refine ak hJ ?_;simp only[*,go_sem];revert h;refine jC hJ (by simp only[*,go_sem]) (fun dE h=>?_) fun dE h=>?_
   ·obtain rfl:=sI h;refine bN ?_;simp only[go_sem];obtain rfl:=sI L;clear L;have h:=Z;dsimp only[aD] at h;obtain rfl:=sI h;clear ae al ao ar a0 a2;have dT:=cq (n:=i38) (by have:=Q;omega);refine ak hJ ?_;simp only[*,go_sem];refine ⟨u0.props.length - (i38+1),by omega,_,Le.sub (List.Sublist.cons _ (List.Sublist.cons _ (List.Sublist.cons _ (List.Sublist.refl _)))),i38+1,(some ⟨ad,0,none⟩),t,[(ad,Obj.cells ds 147)],c,rfl,by omega,W,rfl,u,bz,?_⟩;simp only[*,go_sem]
   obtain rfl:=sI h;refine aH hJ ?_;have gV:=cq (n:=i59) (by have:=u.bd;omega);refine ak hJ ?_;simp only[*,go_sem];refine ⟨c.length - (i59+1),by omega,_,Le.sub (List.Sublist.cons _ (List.Sublist.refl _)),i59+1,rfl,by omega,L,rfl,?_⟩;simp only[*,go_sem]
  have g0:=Nat.not_lt.2 ab;refine bD hJ (by simp only[*,go_sem]) ?_;rw[List.drop_eq_nil_of_le ab] at j;obtain rfl:=sI j;clear j;have h:=Z;dsimp only[aD] at h;refine bN ?_;simp only[go_sem];refine aB hJ fun ea=>?_;refine ak hJ ?_;revert h;refine bS fun a eb h=>?_;simp only[*,go_sem];refine bn hJ _ (AT u0 (w.mono aR) b (i38:Int) (⟨d.place,e⟩:gU) eb) (aJ ?_);revert h;refine bS fun ec ed h=>?_;obtain rfl:=sI h;obtain ⟨eh,a4⟩:=dr ed;try simp only[*,go_sem]
  refine aA fun a5 et a6=>?_;have eu:=aP.cons a6 ea;try simp only[au] at a6
  try simp only[*,go_sem]
  refine dZ (r:=kg) (l:=c) (x:=a) (cs:=#[.int .i64 a.spot.aL,.int .i64 a.spot.high.num,.int .i64 a.spot.high.den,.int .i64 a.at_,.int .i64 a.high.num,.int .i64 a.high.den]) (e2:=147) [(a5,.cells #[.int .i64 a.spot.aL,.int .i64 a.spot.high.num,.int .i64 a.spot.high.den,.int .i64 a.at_,.int .i64 a.high.num,.int .i64 a.high.den] 147),(H,.cells #[.int .i64 d.place,.int .i64 e.num,.int .i64 e.den] 145),(E,.cells #[.int .i64 d.place,.int .i64 d.de] 96),(s,.cells #[.int .i64 b.back,.int .i64 b.high] 134),(q,bl u0 s1 (sl (some C) u0.props o) f g)] [] u eu eh rfl (by simp only[*,go_sem]) et rfl rfl nD nD vu vw rfl vv (by decide) (by decide) (fun g1 a7 N ev eQ g2=>?_);simp only[aX] at eQ;subst ev;rw[<-a4] at N;clear a4;obtain ⟨d83,eS,rfl,e0⟩:=N.len;refine ⟨⟨ro,(a5,.cells #[.int .i64 a.spot.aL,.int .i64 a.spot.high.num,.int .i64 a.spot.high.den,.int .i64 a.at_,.int .i64 a.high.num,.int .i64 a.high.den] 147)::(H,.cells #[.int .i64 d.place,.int .i64 e.num,.int .i64 e.den] 145)::(E,.cells #[.int .i64 d.place,.int .i64 d.de] 96)::(s,.cells #[.int .i64 b.back,.int .i64 b.high] 134)::(q,bl u0 s1 (sl (some C) u0.props o) f g)::a7⟩,Le.refl _,?_⟩;refine aJ ?_;try simp only[*,go_sem]
  have dT:=cq (n:=i38) (by have:=Q;omega);refine ak hJ ?_;simp only[*,go_sem];refine ⟨u0.props.length - (i38+1),by omega,_,Le.sub (List.Sublist.cons _ (List.Sublist.cons _ (List.Sublist.cons _ (List.Sublist.refl _)))),i38+1,d83,eS,a7,ec,rfl,by omega,W,rfl,N,e0,?_⟩;simp only[*,go_sem]
 have g3:=Nat.not_lt.2 V;refine bD hJ (by simp only[*,go_sem]) ?_;rw[List.drop_eq_nil_of_le V] at i;obtain rfl:=sI i;clear i;have h:=br;dsimp only[aD] at h;obtain rfl:=sI h;refine bN ?_;simp only[go_sem];refine af hJ ?_;refine aB hJ fun g4=>?_;refine ak hJ ?_;simp only[*,go_sem];refine aB hJ fun a8=>?_;obtain ⟨ha,e1,e3,a9,fa⟩:=u.e4 [(s,.cells #[.int .i64 b.back,.int .i64 b.high] 134),(q,bl u0 s1 (sl d10 u0.props o) f g)] [] a8 (aG.cons bk (aG.cons bc (aG.nil _)));clear a8;refine cp hJ fa ?_;obtain ⟨hc,hf,-⟩:=a9.op;simp only[bq] at e3;refine az ?_;simp only[*,go_sem];exact ⟨_,e1,Le.sub (List.nil_sublist _),_,rfl,a9⟩
def mI (i54:Nat)(a:bB)(st:an):Option (Fl an an):=
 ag (fO ep st ([a.high])) fun b=>some (.nx b)
def mJ (i100:Nat)(a:bB)(st:an):Option (Fl an an):=
 ag (fO ep st ([a.high])) fun b=>some (.nx b)
def kr (u0:aj)(a:bf):Option an:=
 ag (gd u0.bK) fun b=>ag (lu u0 a) fun c=>ag (ep c.high b) fun d=>cond (d) (ag (jB u0 a) fun e=>ag (bJ (mI) 0 e c.high) fun o=>aD o (fun f=>ag (jA b f) fun g=>ag (gd 0) fun h=>ag (fO ep g ([h])) fun i=>some i) (fun _ _=>none) (fun r=>some r)) (ag (jB u0 a) fun j=>ag (bJ (mJ) 0 j b) fun o=>aD o (fun k=>ag (jA c.high k) fun l=>ag (gd 0) fun m=>ag (fO ep l ([m])) fun n=>some n) (fun _ _=>none) (fun r=>some r))
theorem sA {ro:Addr->Option Value}(u0:aj){s1 p q s:Value}(t:bL ro u0 s1 p q s)(a:bf){r:an}(h:kr u0 a=some r):aE Tryz.prog 82 #[bv u0 s1 p q s,.agg #[.int .i64 a.back,.int .i64 a.high]] ⟨ro,[]⟩ (fun v _=>v=r.v):=by
 unfold kr at h;refine aE.go Tryz.func82 rfl Tryz.ntmps82 Tryz.results82 (by simp) fun main J hJ A O hd hs=>?_;have P:=hs 0;have k1:=hs 1;clear hs;refine ah hJ ?_;simp only[*,go_sem];refine aA fun D fr al=>?_;try simp only[au] at al
 refine aA fun E fs ao=>?_;try simp only[au] at ao
 refine aA fun G ft ar=>?_;try simp only[au] at ar
 try simp only[*,go_sem]
 refine af hJ ?_;refine Al hJ mixed 8 ⟨ro,[(G,rt 0 0),(E,.cells #[.int .i64 a.back,.int .i64 a.high] 134),(D,bl u0 s1 p q s)]⟩ (by simp only[*,go_sem]) (by kernel_rfl) 23 rfl z8 ?_;revert h;refine bS fun u a0 h=>?_;simp only[*,go_sem];refine ⟨_,bC hJ fun F Q=>jy u0.bK a0,b7 ?_⟩;revert h;refine bS fun w a2 h=>?_;try simp only[*,go_sem]
 refine ⟨_,bC hJ fun F Q=>sx u0 (t.mono (b9 Q)) a a2,b7 ?_⟩;try simp only[*,go_sem]
 refine aA fun R fu a3=>?_;try simp only[au] at a3
 try simp only[*,go_sem]
 refine aA fun S fv a4=>?_;try simp only[au] at a4
 try simp only[*,go_sem]
 refine af hJ (ah hJ ?_);revert h;refine bS fun fw a5 h=>?_;simp only[*,go_sem];refine bn hJ _ (iW w.high u a5) ?_;try simp only[*,go_sem]
 revert h;refine jC hJ (by simp only[*,go_sem]) (fun a6 h=>?_) fun a6 h=>?_
 ·refine ak hJ ?_;simp only[*,go_sem];refine af hJ (ah hJ ?_);revert h;refine bS fun b a7 h=>?_;simp only[*,go_sem];refine b6 hJ _ (vR u0 t a a7) fun v a8 a9 ba H=>?_;obtain ⟨fx,rfl,T⟩:=H;replace t:=t.mono a9;simp only[bq] at ba;obtain ⟨d48,gg,rfl,gl,bb,-⟩:=id T;refine aJ ?_;try simp only[*,go_sem]
  refine aN hJ ?_;revert h;refine bS fun bc c bd=>?_;refine bT hJ [8,26,27,28,29,30,31,32,33,34,35] (fun m I F'=>∃(i54:Nat) (l:an),m=b.length - i54/\i54<=b.length/\bJ (mI) i54 (b.drop i54) l=some bc/\F'=⟨a8,(S,rt u.num u.den)::(R,rt l.num l.den)::(G,rt 0 0)::(E,.cells #[.int .i64 a.back,.int .i64 a.high] 134)::(D,bl u0 s1 p q s)::[]⟩/\slot I 26= .int .i64 (i54:Int)) b.length ?_ ?_
  ·refine ⟨0,w.high,(Nat.sub_zero _).symm,Nat.zero_le _,c,rfl,?_⟩;simp only[*,go_sem]
  rintro gn gp F' U ⟨i54,l,rfl,gB,c,rfl,gC⟩;obtain ⟨bj,bk,bm⟩:=U.pick [4,5,6,24,25] (by decide);simp only[*,go_sem] at bj bk bm;clear U O hd P k1;refine ah hJ ?_;simp only[*,go_sem];refine af hJ ?_;rcases Nat.lt_or_ge i54 b.length with bo|V
  ·refine bE hJ (by simp only[*,go_sem]) ?_;refine aH hJ ?_;obtain ⟨y,K⟩:∃x,b[i54]?=some x:=⟨_,List.getElem?_eq_getElem bo⟩
   rw[dc K] at c;revert c;refine bS fun gM h br=>?_;unfold mI at h;(try dsimp only at h);obtain ⟨gT,bs,bz,b0,d⟩:=T.el _ _ K;obtain rfl:bs=y.cells:=b0;cases bz;have b1:=d 0 _ rfl;simp only[go_sem] at b1;have b2:=d 1 _ rfl;simp only[go_sem] at b2;have b3:=d 2 _ rfl;simp only[go_sem] at b3;have b4:=d 3 _ rfl;simp only[go_sem] at b4;have b5:=d 4 _ rfl;simp only[go_sem] at b5;have ca:=d 5 _ rfl;simp only[go_sem] at ca;clear d K;refine af hJ (aN hJ (af hJ ?_));refine ak hJ ?_;simp only[*,go_sem];refine aA fun gV g0 cb=>?_;try simp only[au] at cb
   (try simp only[*,go_sem]);refine aB hJ fun cd=>?_;refine ak hJ ?_;revert h;refine bS fun cf cl h=>?_;obtain rfl:=sI h;simp only[*,go_sem];refine aA fun g1 cu W=>?_;have g2:=aP.cons W cd;try simp only[au] at W
   (try simp only[*,go_sem]);refine bn hJ _ (nM (dK:=76) (ee:=#[]) (ef:=#[]) ep ⟨by simp only[go_sem],fun L M f g _ h=>by simp only[go_sem];exact iW f g h⟩ l ([y.high]) ((aC.flat (r:=k8) (e:=23) (cs:=#[.int .i64 y.high.num,.int .i64 y.high.den]) an.cells ([y.high]) (fun _=>rfl) cu rfl (by simp)).mono (j4 (by simp only[*,go_sem]))) cl) (aJ ?_);(try simp only[*,go_sem]);have g3:=cq (n:=i54) (by have:=bb;omega);refine ak hJ ?_;simp only[*,go_sem];refine ⟨b.length - (i54+1),by omega,_,Le.sub (List.Sublist.cons _ (List.Sublist.cons _ (List.Sublist.refl _))),i54+1,cf,rfl,by omega,br,rfl,?_⟩;simp only[*,go_sem]
  have g4:=Nat.not_lt.2 V;refine bD hJ (by simp only[*,go_sem]) ?_;rw[List.drop_eq_nil_of_le V] at c;obtain rfl:=sI c;clear c;have h:=bd;dsimp only[aD] at h;refine bN ?_;simp only[go_sem];refine af hJ ?_;refine aB hJ fun cy=>?_;refine ak hJ ?_;revert h;refine bS fun cS c0 h=>?_;simp only[*,go_sem];refine bn hJ _ (pY u l c0) (aJ ?_);revert h;refine bS fun B da h=>?_;try simp only[*,go_sem]
  refine bn hJ _ (jy 0 da) (aJ ?_);revert h;refine bS fun ha db h=>?_;obtain rfl:=sI h;try simp only[*,go_sem]
  refine aA fun hc dd X=>?_;have hf:=aP.cons X cy;try simp only[au] at X
  try simp only[*,go_sem]
  refine bn hJ _ (nM (dK:=76) (ee:=#[]) (ef:=#[]) ep ⟨by simp only[go_sem],fun L M f g _ h=>by simp only[go_sem];exact iW f g h⟩ cS ([B]) ((aC.flat (r:=k8) (e:=23) (cs:=#[.int .i64 B.num,.int .i64 B.den]) an.cells ([B]) (fun _=>rfl) dd rfl (by simp)).mono (j4 (by simp only[*,go_sem]))) db) (aJ ?_);try simp only[*,go_sem]
  refine az ?_;simp only[*,go_sem]
 refine aH hJ (af hJ ?_);refine ah hJ ?_;revert h;refine bS fun i df h=>?_;simp only[*,go_sem];refine b6 hJ _ (vR u0 t a df) fun v dk hg dp H=>?_;obtain ⟨hh,rfl,Y⟩:=H;simp only[bq] at dp;obtain ⟨d94,hi,rfl,hj,dq,-⟩:=id Y;refine aJ ?_;try simp only[*,go_sem]
 refine aN hJ ?_;revert h;refine bS fun ds j dt=>?_;refine bT hJ [8,26,27,28,29,30,31,32,33,34,35] (fun m I F'=>∃(i100:Nat) (o:an),m=i.length - i100/\i100<=i.length/\bJ (mJ) i100 (i.drop i100) o=some ds/\F'=⟨dk,(S,rt w.high.num w.high.den)::(R,rt o.num o.den)::(G,rt 0 0)::(E,.cells #[.int .i64 a.back,.int .i64 a.high] 134)::(D,bl u0 s1 p q s)::[]⟩/\slot I 26= .int .i64 (i100:Int)) i.length ?_ ?_
 ·refine ⟨0,u,(Nat.sub_zero _).symm,Nat.zero_le _,j,rfl,?_⟩;simp only[*,go_sem]
 rintro hk hl F' Z ⟨i100,o,rfl,hn,j,rfl,ho⟩;obtain ⟨du,dv,dC⟩:=Z.pick [4,5,6,24,25] (by decide);simp only[*,go_sem] at du dv dC;clear Z O hd P k1;refine ah hJ ?_;simp only[*,go_sem];refine af hJ ?_;rcases Nat.lt_or_ge i100 i.length with dE|ab
 ·refine bE hJ (by simp only[*,go_sem]) ?_;refine aH hJ ?_;obtain ⟨z,N⟩:∃x,i[i100]?=some x:=⟨_,List.getElem?_eq_getElem dE⟩
  rw[dc N] at j;revert j;refine bS fun hp h dT=>?_;unfold mJ at h;try dsimp only at h
  obtain ⟨hq,ea,eb,ec,k⟩:=Y.el _ _ N;obtain rfl:ea=z.cells:=ec;cases eb;have ed:=k 0 _ rfl;simp only[go_sem] at ed;have eh:=k 1 _ rfl;simp only[go_sem] at eh;have et:=k 2 _ rfl;simp only[go_sem] at et;have eu:=k 3 _ rfl;simp only[go_sem] at eu;have ev:=k 4 _ rfl;simp only[go_sem] at ev;have eQ:=k 5 _ rfl;simp only[go_sem] at eQ;clear k N;refine af hJ (aN hJ (af hJ ?_));refine ak hJ ?_;simp only[*,go_sem];refine aA fun hr ht eS=>?_;try simp only[au] at eS
  try simp only[*,go_sem]
  refine aB hJ fun e0=>?_;refine ak hJ ?_;revert h;refine bS fun e1 e2 h=>?_;obtain rfl:=sI h;simp only[*,go_sem];refine aA fun hv e3 ad=>?_;have hx:=aP.cons ad e0;try simp only[au] at ad
  try simp only[*,go_sem]
  refine bn hJ _ (nM (dK:=76) (ee:=#[]) (ef:=#[]) ep ⟨by simp only[go_sem],fun L M f g _ h=>by simp only[go_sem];exact iW f g h⟩ o ([z.high]) ((aC.flat (r:=k8) (e:=23) (cs:=#[.int .i64 z.high.num,.int .i64 z.high.den]) an.cells ([z.high]) (fun _=>rfl) e3 rfl (by simp)).mono (j4 (by simp only[*,go_sem]))) e2) (aJ ?_);try simp only[*,go_sem]
  have hy:=cq (n:=i100) (by have:=dq;omega);refine ak hJ ?_;simp only[*,go_sem];refine ⟨i.length - (i100+1),by omega,_,Le.sub (List.Sublist.cons _ (List.Sublist.cons _ (List.Sublist.refl _))),i100+1,e1,rfl,by omega,dT,rfl,?_⟩;simp only[*,go_sem]
 have hz:=Nat.not_lt.2 ab;refine bD hJ (by simp only[*,go_sem]) ?_;rw[List.drop_eq_nil_of_le ab] at j;obtain rfl:=sI j;clear j;have h:=dt;dsimp only[aD] at h;refine bN ?_;simp only[go_sem];refine af hJ ?_;refine aB hJ fun fa=>?_;refine ak hJ ?_;revert h;refine bS fun fb fg h=>?_;simp only[*,go_sem];refine bn hJ _ (pY w.high o fg) (aJ ?_);revert h;refine bS fun C fi h=>?_;try simp only[*,go_sem]
 refine bn hJ _ (jy 0 fi) (aJ ?_);revert h;refine bS fun hA fo h=>?_;obtain rfl:=sI h;try simp only[*,go_sem]
 refine aA fun hB fp ae=>?_;have hD:=aP.cons ae fa;try simp only[au] at ae
 try simp only[*,go_sem]
 refine bn hJ _ (nM (dK:=76) (ee:=#[]) (ef:=#[]) ep ⟨by simp only[go_sem],fun L M f g _ h=>by simp only[go_sem];exact iW f g h⟩ fb ([C]) ((aC.flat (r:=k8) (e:=23) (cs:=#[.int .i64 C.num,.int .i64 C.den]) an.cells ([C]) (fun _=>rfl) fp rfl (by simp)).mono (j4 (by simp only[*,go_sem]))) fo) (aJ ?_);try simp only[*,go_sem]
 refine az ?_;simp only[*,go_sem]
def gh (u0:aj)(a:bf):Option Bool:=
 ag (kr u0 a) fun b=>ag (ep u0.aS b) fun c=>some c
theorem mK {ro:Addr->Option Value}(u0:aj){s1 b c d:Value}(f:bL ro u0 s1 b c d)(a:bf){r:Bool}(h:gh u0 a=some r):aE Tryz.prog 81 #[bv u0 s1 b c d,.agg #[.int .i64 a.back,.int .i64 a.high]] ⟨ro,[]⟩ (fun v _=>v= .bool r):=by
 unfold gh at h;refine aE.go Tryz.func81 rfl Tryz.ntmps81 Tryz.results81 (by simp) fun main J hJ A m hd hs=>?_;have n:=hs 0;have k1:=hs 1;clear hs;refine ah hJ ?_;simp only[*,go_sem];refine aA fun o p g=>?_;try simp only[au] at g
 refine aA fun q s i=>?_;try simp only[au] at i
 try simp only[*,go_sem]
 refine af hJ ?_;refine cP hJ mixed 8 2 (by simp only[*,go_sem]) (by kernel_rfl) ?_;revert h;refine bS fun j k h=>?_;simp only[*,go_sem];refine ⟨_,bC hJ fun F e=>sA u0 (f.mono (b9 e)) a k,b7 ?_⟩;revert h;refine bS fun t l h=>?_;obtain rfl:=sI h;try simp only[*,go_sem]
 refine ⟨_,bC hJ fun F e=>iW u0.aS j l,b7 ?_⟩;try simp only[*,go_sem]
 refine az ?_;simp only[*,go_sem]
def vS (u0:((List Int)->(List Int)->Option Bool))(i22:Nat)(a:(List Int))(st:(List Int)):Option (Fl (List Int) (List Int)):=
 ag (u0 st a) fun b=>cond (b) (some (.nx a)) (some (.nx st))
def vT (u0:((List Int)->(List Int)->Option Bool))(a:(List Int))(b:(List (List Int))):Option (List Int):=
 ag (bJ (vS u0) 0 b a) fun o=>aD o (fun c=>some c) (fun _ _=>none) (fun r=>some r)
theorem Gw {ro:Addr->Option Value}(u0:((List Int)->(List Int)->Option Bool)){dK:FuncId}{ee ef:Array Value}(G:aI Tryz.prog dK=true/\∀(aM:Addr->Option Value),Ext ro aM->∀(k:(List Int)) (l:Value) (o:(List Int)) (p:Value) (z:Bool),aC rI aM l k->aC rI aM p o->u0 k o=some z->aE Tryz.prog dK (ee++#[l,p]++ef) ⟨aM,[]⟩ (fun v _=>v= .bool z))(g:(List Int)){s1:Value}(q:aC rI ro s1 g)(b:(List (List Int))){s:Value}(t:aC (rL rI) ro s b){r:(List Int)}(h:vT u0 g b=some r):eL Tryz.prog 104 #[.func (.func dK) ee ef,s1,s] ro (fun v aM=>∃u,v=u/\aC rI aM u r):=by
 obtain ⟨d3,c4,rfl,Y,Z,-⟩:=id q;obtain ⟨d10,ab,rfl,ad,w,-⟩:=id t;unfold vT at h;refine aE.go Tryz.func104 rfl Tryz.ntmps104 Tryz.results104 (by simp) fun main J hJ A H hd hs=>?_;have I:=hs 0;have k1:=hs 1;have K:=hs 2;clear hs;refine ah hJ ?_;simp only[*,go_sem];refine af hJ (ah hJ ?_);simp only[*,go_sem];refine aN hJ ?_;revert h;refine bS fun L c M=>?_;refine bT hJ [1,8,11,12,13,14,15,16,17,18,19,20] (fun m y F'=>∃(i22:Nat) (d16:Option Addr) (e:Nat) (d:(List Int)),m=b.length - i22/\i22<=b.length/\bJ (vS u0) i22 (b.drop i22) d=some L/\F'=⟨ro,[]⟩/\aC rI ro (.slice d16 d.length e) d/\slot y 11= .int .i64 (i22:Int)/\slot y 1= .slice d16 d.length e) b.length ?_ ?_
 ·refine ⟨0,d3,c4,g,(Nat.sub_zero _).symm,Nat.zero_le _,c,rfl,q,?_⟩;simp only[*,go_sem]
 rintro ae al F' B ⟨i22,d16,e,d,rfl,ao,c,rfl,f,ar,a0⟩;obtain ⟨a2,a3,-⟩:=f.op;obtain ⟨N,O,P⟩:=B.pick [0,6,9,10] (by decide);simp only[*,go_sem] at N O P;clear B H hd I k1 K;refine ah hJ ?_;simp only[*,go_sem];refine af hJ ?_;rcases Nat.lt_or_ge i22 b.length with Q|C
 ·refine bE hJ (by simp only[*,go_sem]) ?_;refine aH hJ ?_;obtain ⟨D,i⟩:∃x,b[i22]?=some x:=⟨_,List.getElem?_eq_getElem Q⟩
  rw[dc i] at c;revert c;refine bS fun a4 h E=>?_;unfold vS at h;try dsimp only at h
  obtain ⟨a5,a6,R,S,F⟩:=t.el _ _ i;obtain ⟨a7,rfl,j⟩:=S;obtain ⟨d31,T,rfl,a8,a9,ba⟩:=id j;cases R;have U:=F 0 _ rfl;simp only[go_sem] at U;clear F i;refine af hJ (aN hJ (af hJ ?_));refine ak hJ ?_;simp only[*,go_sem];refine ah hJ ?_;revert h;refine bS fun bb V h=>?_;simp only[*,go_sem];refine bn hJ _ (G.2 _ (fun a v h=>aR a v h) d _ D _ _ (f.mono aR) (j.mono aR) V) ?_;try simp only[*,go_sem]
  revert h;refine jC hJ (by simp only[*,go_sem]) (fun W h=>?_) fun W h=>?_
  ·obtain rfl:=sI h;refine ak hJ ?_;simp only[*,go_sem];have X:=cq (n:=i22) (by have:=w;omega);refine ak hJ ?_;simp only[*,go_sem];refine ⟨b.length - (i22+1),by omega,_,Le.sub (List.Sublist.refl _),i22+1,d31,T,D,rfl,by omega,E,rfl,j,?_⟩;simp only[*,go_sem]
  obtain rfl:=sI h;refine aH hJ ?_;have X:=cq (n:=i22) (by have:=w;omega);refine ak hJ ?_;simp only[*,go_sem];refine ⟨b.length - (i22+1),by omega,_,Le.sub (List.Sublist.refl _),i22+1,d16,e,d,rfl,by omega,E,rfl,f,?_⟩;simp only[*,go_sem]
 have bc:=Nat.not_lt.2 C;refine bD hJ (by simp only[*,go_sem]) ?_;rw[List.drop_eq_nil_of_le C] at c;obtain rfl:=sI c;clear c;have h:=M;dsimp only[aD] at h;obtain rfl:=sI h;refine bN ?_;simp only[go_sem];refine ah hJ ?_;simp only[*,go_sem];refine az ?_;simp only[*,go_sem];exact ⟨_,Ext.refl _,Le.sub (List.nil_sublist _),_,rfl,f⟩
def vU (u0:(List Int))(a:(List Int))(st:(Bool×Int)):Option (Fl (Bool×Int) Bool):=
 cond (decide (st.2<(u0.length:Int))) (ag (aY u0 st.2) fun b=>ag (aY a st.2) fun c=>cond ((b != c)) (some (.rt false)) (some (.nx (st.1,(IntKind.i64.wrap (st.2+1)))))) (some (.bk (st.1,st.2)))
def vV (u0:(List Int))(a:(List Int)):Option Bool:=
 cond (((u0.length:Int) != (a.length:Int))) (some false) (ag (aU (vU u0 a) fu (false,0)) fun o=>aD o (fun b=>some true) (fun _ _=>none) (fun r=>some r))
theorem Gx {ro:Addr->Option Value}(u0:(List Int)){s1:Value}(g:aC rI ro s1 u0)(e:(List Int)){i:Value}(j:aC rI ro i e){r:Bool}(h:vV u0 e=some r):aE Tryz.prog 53 #[s1,i] ⟨ro,[]⟩ (fun v _=>v= .bool r):=by
 obtain ⟨d3,c4,rfl,R,S,-⟩:=id g;obtain ⟨d10,T,rfl,U,V,-⟩:=id j;unfold vV at h;refine aE.go Tryz.func53 rfl Tryz.ntmps53 Tryz.results53 (by simp) fun main J hJ A t hd hs=>?_;have u:=hs 0;have k1:=hs 1;clear hs;refine ah hJ ?_;simp only[*,go_sem];refine af hJ (ah hJ ?_);simp only[*,go_sem];revert h;refine jC hJ (by simp only[*,go_sem]) (fun w h=>?_) fun w h=>?_
 ·obtain rfl:=sI h;refine ah hJ ?_;simp only[*,go_sem];refine az ?_;simp only[*,go_sem]
 refine aH hJ (af hJ ?_);refine ah hJ ?_;simp only[*,go_sem];refine aN hJ ?_;revert h;refine bS fun x b k=>?_;refine bT hJ [4,5,11,12,13,14,15,16,17,18,19,20,21,22,23,24,25] (fun m l F'=>∃(c:Bool) (d:Int),aU (vU u0 e) m (c,d)=some x/\F'=⟨ro,[]⟩/\slot l 4= .bool c/\slot l 5= .int .i64 d) fu ?_ ?_
 ·refine ⟨false,0,b,rfl,?_⟩;simp only[*,go_sem]
 rintro f W F' n ⟨c,d,b,rfl,X,Y⟩;obtain ⟨y,z,B⟩:=n.pick [0,1] (by decide);simp only[*,go_sem] at y z B;clear n t hd u k1;obtain _|f:=f
 ·exact absurd b (by simp only[aU,reduceCtorEq,not_false_eq_true])
 revert b;refine bS fun Z h a=>?_;unfold vU at h;try dsimp only at h
 refine af hJ (ah hJ ?_);simp only[*,go_sem];revert h;refine jC hJ (by simp only[*,go_sem]) (fun C h=>?_) fun C h=>?_
 ·refine aH hJ (af hJ ?_);refine aN hJ (af hJ ?_);refine cP hJ mixed 9 0 (by simp only[*,go_sem]) (by kernel_rfl) ?_;revert h;refine bS fun D E h=>?_;obtain ⟨ab,ad,o⟩:=cE E;obtain ⟨ae,F,G,H,p⟩:=g.el _ _ o;obtain rfl:F=[.int .i64 D]:=H;cases G;have I:=p 0 _ rfl;simp only[go_sem] at I;clear p o;revert h;refine bS fun K L h=>?_;obtain ⟨al,ao,q⟩:=cE L;obtain ⟨ar,M,N,O,s⟩:=j.el _ _ q;obtain rfl:M=[.int .i64 K]:=O;cases N;have P:=s 0 _ rfl;simp only[go_sem] at P;clear s q;try simp only[*,go_sem]
  revert h;refine jC hJ (by simp only[*,go_sem]) (fun Q h=>?_) fun Q h=>?_
  ·obtain rfl:=sI h;refine ah hJ ?_;simp only[*,go_sem];obtain rfl:=sI a;clear a;have h:=k;dsimp only[aD] at h;obtain rfl:=sI h;refine az ?_;simp only[*,go_sem]
  obtain rfl:=sI h;refine aH hJ (ak hJ ?_);simp only[*,go_sem];refine ⟨f,Nat.lt_succ_self _,_,Le.sub (List.Sublist.refl _),c,(IntKind.i64.wrap (d+1)),a,rfl,?_⟩;simp only[*,go_sem]
 obtain rfl:=sI h;refine bN ?_;simp only[go_sem];obtain rfl:=sI a;clear a;have h:=k;dsimp only[aD] at h;obtain rfl:=sI h;refine ah hJ ?_;simp only[*,go_sem];refine az ?_;simp only[*,go_sem]
def mL (u0:(List Int))(a:(List Int)):Option Bool:=
 ag (vV u0 a) fun b=>some b
theorem p7 {ro:Addr->Option Value}(u0:(List Int)){s1:Value}(b:aC rI ro s1 u0)(a:(List Int)){c:Value}(d:aC rI ro c a){r:Bool}(h:mL u0 a=some r):aE Tryz.prog 63 #[s1,c] ⟨ro,[]⟩ (fun v _=>v= .bool r):=by
 obtain ⟨d3,c4,rfl,f,g,-⟩:=id b;obtain ⟨d10,i,rfl,j,k,-⟩:=id d;unfold mL at h;refine aE.go Tryz.func63 rfl Tryz.ntmps63 Tryz.results63 (by simp) fun main J hJ A l hd hs=>?_;have m:=hs 0;have k1:=hs 1;clear hs;refine ah hJ ?_;simp only[*,go_sem];refine ah hJ ?_;revert h;refine bS fun n e h=>?_;obtain rfl:=sI h;simp only[*,go_sem];refine bn hJ _ (Gx u0 (b.mono aR) a (d.mono aR) e) (aJ ?_);try simp only[*,go_sem]
 refine az ?_;simp only[*,go_sem]
def vW (a:bf)(i10:Nat)(b:bf)(st:Int):Option (Fl Int Int):=
 cond (((a.back==b.back)&&(a.high==b.high))) (some (.rt (i10:Int))) (some (.nx st))
def vX (u0:(List bf))(a:bf):Option Int:=
 ag (bJ (vW a) 0 u0 0) fun o=>aD o (fun b=>some (-1)) (fun _ _=>none) (fun r=>some r)
theorem Gy {ro:Addr->Option Value}(u0:(List bf)){s1:Value}(g:aC iV ro s1 u0)(b:bf){r:Int}(h:vX u0 b=some r):aE Tryz.prog 150 #[s1,.agg #[.int .i64 b.back,.int .i64 b.high]] ⟨ro,[]⟩ (fun v _=>v= .int .i64 r):=by
 obtain ⟨d3,c4,rfl,K,o,-⟩:=id g;unfold vX at h;refine aE.go Tryz.func150 rfl Tryz.ntmps150 Tryz.results150 (by simp) fun main J hJ A p hd hs=>?_;have q:=hs 0;have k1:=hs 1;clear hs;refine ah hJ ?_;simp only[*,go_sem];refine aA fun s L t=>?_;try simp only[au] at t
 try simp only[*,go_sem]
 refine af hJ (ah hJ ?_);simp only[*,go_sem];refine aN hJ ?_;revert h;refine bS fun u a i=>?_;refine bT hJ [4,5,8,9,10,11,12,13,14,15,16,17,18] (fun m j F'=>∃(i10:Nat) (c:Int),m=u0.length - i10/\i10<=u0.length/\bJ (vW b) i10 (u0.drop i10) c=some u/\F'=⟨ro,(s,.cells #[.int .i64 b.back,.int .i64 b.high] 134)::[]⟩/\slot j 8= .int .i64 (i10:Int)/\slot j 4= .int .i64 c) u0.length ?_ ?_
 ·refine ⟨0,0,(Nat.sub_zero _).symm,Nat.zero_le _,a,rfl,?_⟩;simp only[*,go_sem]
 rintro M N F' k ⟨i10,c,rfl,O,a,rfl,P,Q⟩;obtain ⟨w,y,z⟩:=k.pick [0,3,7] (by decide);simp only[*,go_sem] at w y z;clear k p hd q k1;refine ah hJ ?_;simp only[*,go_sem];refine af hJ ?_;rcases Nat.lt_or_ge i10 u0.length with B|l
 ·refine bE hJ (by simp only[*,go_sem]) ?_;refine aH hJ ?_;obtain ⟨C,d⟩:∃x,u0[i10]?=some x:=⟨_,List.getElem?_eq_getElem B⟩
  rw[dc d] at a;revert a;refine bS fun R h e=>?_;unfold vW at h;try dsimp only at h
  obtain ⟨S,D,E,F,f⟩:=g.el _ _ d;obtain rfl:D=C.cells:=F;cases E;have G:=f 0 _ rfl;simp only[go_sem] at G;have H:=f 1 _ rfl;simp only[go_sem] at H;clear f d;refine af hJ (aN hJ (af hJ ?_));refine ak hJ ?_;simp only[*,go_sem];refine af hJ ?_;refine cP hJ mixed 6 1 (by simp only[*,go_sem]) (by kernel_rfl) ?_;simp only[*,go_sem];revert h;refine jC hJ (by simp only[*,go_sem]) (fun I h=>?_) fun I h=>?_
  ·obtain rfl:=sI h;refine ah hJ ?_;simp only[*,go_sem];obtain rfl:=sI e;clear e;have h:=i;dsimp only[aD] at h;obtain rfl:=sI h;refine az ?_;simp only[*,go_sem]
  obtain rfl:=sI h;refine aH hJ ?_;have T:=cq (n:=i10) (by have:=o;omega);refine ak hJ ?_;simp only[*,go_sem];refine ⟨u0.length - (i10+1),by omega,_,Le.sub (List.Sublist.refl _),i10+1,c,rfl,by omega,e,rfl,?_⟩;simp only[*,go_sem]
 have U:=Nat.not_lt.2 l;refine bD hJ (by simp only[*,go_sem]) ?_;rw[List.drop_eq_nil_of_le l] at a;obtain rfl:=sI a;clear a;have h:=i;dsimp only[aD] at h;obtain rfl:=sI h;refine bN ?_;simp only[go_sem];refine ah hJ ?_;simp only[*,go_sem];refine az ?_;simp only[*,go_sem]
def vY (u0:(List bf))(a:bf):Option Bool:=
 ag (vX u0 a) fun b=>some (decide (0<=b))
theorem Gz {ro:Addr->Option Value}(u0:(List bf)){s1:Value}(b:aC iV ro s1 u0)(a:bf){r:Bool}(h:vY u0 a=some r):aE Tryz.prog 125 #[s1,.agg #[.int .i64 a.back,.int .i64 a.high]] ⟨ro,[]⟩ (fun v _=>v= .bool r):=by
 obtain ⟨d3,c4,rfl,e,f,-⟩:=id b;unfold vY at h;refine aE.go Tryz.func125 rfl Tryz.ntmps125 Tryz.results125 (by simp) fun main J hJ A g hd hs=>?_;have i:=hs 0;have k1:=hs 1;clear hs;refine ah hJ ?_;simp only[*,go_sem];refine aA fun j k c=>?_;try simp only[au] at c
 try simp only[*,go_sem]
 refine ah hJ ?_;revert h;refine bS fun l d h=>?_;obtain rfl:=sI h;simp only[*,go_sem];refine bn hJ _ (Gy u0 (b.mono aR) a d) (aJ ?_);try simp only[*,go_sem]
 refine az ?_;simp only[*,go_sem]
def sB (a:(bR->Option Bool))(i9:Nat)(b:bR)(st:Int):Option (Fl Int Int):=
 ag (a b) fun c=>cond (c) (some (.rt (i9:Int))) (some (.nx st))
def sC (u0:(List bR))(a:(bR->Option Bool)):Option Int:=
 ag (bJ (sB a) 0 u0 0) fun o=>aD o (fun b=>some (-1)) (fun _ _=>none) (fun r=>some r)
theorem GA {ro:Addr->Option Value}(u0:(List bR)){s1:Value}(i:aC dg ro s1 u0)(d:(bR->Option Bool)){dw:FuncId}{dV dW:Array Value}(s:aI Tryz.prog dw=true/\∀(aM:Addr->Option Value),Ext ro aM->∀(j:bR) (z:Bool),d j=some z->aE Tryz.prog dw (dV++#[j.v]++dW) ⟨aM,[]⟩ (fun v _=>v= .bool z)){r:Int}(h:sC u0 d=some r):aE Tryz.prog 176 #[s1,.func (.func dw) dV dW] ⟨ro,[]⟩ (fun v _=>v= .int .i64 r):=by
 obtain ⟨d3,c4,rfl,N,t,-⟩:=id i;unfold sC at h;refine aE.go Tryz.func176 rfl Tryz.ntmps176 Tryz.results176 (by simp) fun main J hJ A u hd hs=>?_;have w:=hs 0;have k1:=hs 1;clear hs;refine ah hJ ?_;simp only[*,go_sem];refine af hJ (ah hJ ?_);simp only[*,go_sem];refine aN hJ ?_;revert h;refine bS fun y b k=>?_;refine bT hJ [4,5,8,9,10,11,12,13,14,15,16,17,18] (fun m l F'=>∃(i9:Nat) (c:Int),m=u0.length - i9/\i9<=u0.length/\bJ (sB d) i9 (u0.drop i9) c=some y/\F'=⟨ro,[]⟩/\slot l 8= .int .i64 (i9:Int)/\slot l 4= .int .i64 c) u0.length ?_ ?_
 ·refine ⟨0,0,(Nat.sub_zero _).symm,Nat.zero_le _,b,rfl,?_⟩;simp only[*,go_sem]
 rintro O P F' o ⟨i9,c,rfl,Q,b,rfl,R,S⟩;obtain ⟨B,C,D⟩:=o.pick [0,1,7] (by decide);simp only[*,go_sem] at B C D;clear o u hd w k1;refine ah hJ ?_;simp only[*,go_sem];refine af hJ ?_;rcases Nat.lt_or_ge i9 u0.length with E|p
 ·refine bE hJ (by simp only[*,go_sem]) ?_;refine aH hJ ?_;obtain ⟨q,e⟩:∃x,u0[i9]?=some x:=⟨_,List.getElem?_eq_getElem E⟩
  rw[dc e] at b;revert b;refine bS fun T h f=>?_;unfold sB at h;try dsimp only at h
  obtain ⟨U,F,G,H,g⟩:=i.el _ _ e;obtain rfl:F=q.cells:=H;cases G;have I:=g 0 _ rfl;simp only[go_sem] at I;have K:=g 1 _ rfl;simp only[go_sem] at K;clear g e;refine af hJ (aN hJ (af hJ ?_));refine ak hJ ?_;simp only[*,go_sem];refine ah hJ ?_;revert h;refine bS fun V L h=>?_;simp only[*,go_sem];refine bn hJ _ (s.2 _ (fun a v h=>aR a v h) q _ L) ?_;try simp only[*,go_sem]
  revert h;refine jC hJ (by simp only[*,go_sem]) (fun M h=>?_) fun M h=>?_
  ·obtain rfl:=sI h;refine ah hJ ?_;simp only[*,go_sem];obtain rfl:=sI f;clear f;have h:=k;dsimp only[aD] at h;obtain rfl:=sI h;refine az ?_;simp only[*,go_sem]
  obtain rfl:=sI h;refine aH hJ ?_;have W:=cq (n:=i9) (by have:=t;omega);refine ak hJ ?_;simp only[*,go_sem];refine ⟨u0.length - (i9+1),by omega,_,Le.sub (List.Sublist.refl _),i9+1,c,rfl,by omega,f,rfl,?_⟩;simp only[*,go_sem]
 have X:=Nat.not_lt.2 p;refine bD hJ (by simp only[*,go_sem]) ?_;rw[List.drop_eq_nil_of_le p] at b;obtain rfl:=sI b;clear b;have h:=k;dsimp only[aD] at h;obtain rfl:=sI h;refine bN ?_;simp only[go_sem];refine ah hJ ?_;simp only[*,go_sem];refine az ?_;simp only[*,go_sem]
def p8 (u0:(List bR))(a:(bR->Option Bool)):Option Bool:=
 ag (sC u0 a) fun b=>some (decide (0<=b))
theorem GB {ro:Addr->Option Value}(u0:(List bR)){s1:Value}(b:aC dg ro s1 u0)(a:(bR->Option Bool)){dw:FuncId}{dV dW:Array Value}(c:aI Tryz.prog dw=true/\∀(aM:Addr->Option Value),Ext ro aM->∀(d:bR) (z:Bool),a d=some z->aE Tryz.prog dw (dV++#[d.v]++dW) ⟨aM,[]⟩ (fun v _=>v= .bool z)){r:Bool}(h:p8 u0 a=some r):aE Tryz.prog 145 #[s1,.func (.func dw) dV dW] ⟨ro,[]⟩ (fun v _=>v= .bool r):=by
 obtain ⟨d3,c4,rfl,g,i,-⟩:=id b;unfold p8 at h;refine aE.go Tryz.func145 rfl Tryz.ntmps145 Tryz.results145 (by simp) fun main J hJ A j hd hs=>?_;have k:=hs 0;have k1:=hs 1;clear hs;refine ah hJ ?_;simp only[*,go_sem];refine ah hJ ?_;revert h;refine bS fun l e h=>?_;obtain rfl:=sI h;simp only[*,go_sem];refine bn hJ _ (GA (dw:=dw) (dV:=dV) (dW:=dW) u0 (b.mono aR) a ⟨c.1,fun _ f=>c.2 _ (Ext.trans aR f)⟩ e) (aJ ?_);try simp only[*,go_sem]
 refine az ?_;simp only[*,go_sem]
def vZ (a:(bf->Option Bool))(i9:Nat)(b:bf)(st:Int):Option (Fl Int Int):=
 ag (a b) fun c=>cond (c) (some (.rt (i9:Int))) (some (.nx st))
def v5 (u0:(List bf))(a:(bf->Option Bool)):Option Int:=
 ag (bJ (vZ a) 0 u0 0) fun o=>aD o (fun b=>some (-1)) (fun _ _=>none) (fun r=>some r)
theorem GC {ro:Addr->Option Value}(u0:(List bf)){s1:Value}(i:aC iV ro s1 u0)(d:(bf->Option Bool)){dw:FuncId}{dV dW:Array Value}(s:aI Tryz.prog dw=true/\∀(aM:Addr->Option Value),Ext ro aM->∀(j:bf) (z:Bool),d j=some z->aE Tryz.prog dw (dV++#[j.v]++dW) ⟨aM,[]⟩ (fun v _=>v= .bool z)){r:Int}(h:v5 u0 d=some r):aE Tryz.prog 192 #[s1,.func (.func dw) dV dW] ⟨ro,[]⟩ (fun v _=>v= .int .i64 r):=by
 obtain ⟨d3,c4,rfl,N,t,-⟩:=id i;unfold v5 at h;refine aE.go Tryz.func192 rfl Tryz.ntmps192 Tryz.results192 (by simp) fun main J hJ A u hd hs=>?_;have w:=hs 0;have k1:=hs 1;clear hs;refine ah hJ ?_;simp only[*,go_sem];refine af hJ (ah hJ ?_);simp only[*,go_sem];refine aN hJ ?_;revert h;refine bS fun y b k=>?_;refine bT hJ [4,5,8,9,10,11,12,13,14,15,16,17,18] (fun m l F'=>∃(i9:Nat) (c:Int),m=u0.length - i9/\i9<=u0.length/\bJ (vZ d) i9 (u0.drop i9) c=some y/\F'=⟨ro,[]⟩/\slot l 8= .int .i64 (i9:Int)/\slot l 4= .int .i64 c) u0.length ?_ ?_
 ·refine ⟨0,0,(Nat.sub_zero _).symm,Nat.zero_le _,b,rfl,?_⟩;simp only[*,go_sem]
 rintro O P F' o ⟨i9,c,rfl,Q,b,rfl,R,S⟩;obtain ⟨B,C,D⟩:=o.pick [0,1,7] (by decide);simp only[*,go_sem] at B C D;clear o u hd w k1;refine ah hJ ?_;simp only[*,go_sem];refine af hJ ?_;rcases Nat.lt_or_ge i9 u0.length with E|p
 ·refine bE hJ (by simp only[*,go_sem]) ?_;refine aH hJ ?_;obtain ⟨q,e⟩:∃x,u0[i9]?=some x:=⟨_,List.getElem?_eq_getElem E⟩
  rw[dc e] at b;revert b;refine bS fun T h f=>?_;unfold vZ at h;try dsimp only at h
  obtain ⟨U,F,G,H,g⟩:=i.el _ _ e;obtain rfl:F=q.cells:=H;cases G;have I:=g 0 _ rfl;simp only[go_sem] at I;have K:=g 1 _ rfl;simp only[go_sem] at K;clear g e;refine af hJ (aN hJ (af hJ ?_));refine ak hJ ?_;simp only[*,go_sem];refine ah hJ ?_;revert h;refine bS fun V L h=>?_;simp only[*,go_sem];refine bn hJ _ (s.2 _ (fun a v h=>aR a v h) q _ L) ?_;try simp only[*,go_sem]
  revert h;refine jC hJ (by simp only[*,go_sem]) (fun M h=>?_) fun M h=>?_
  ·obtain rfl:=sI h;refine ah hJ ?_;simp only[*,go_sem];obtain rfl:=sI f;clear f;have h:=k;dsimp only[aD] at h;obtain rfl:=sI h;refine az ?_;simp only[*,go_sem]
  obtain rfl:=sI h;refine aH hJ ?_;have W:=cq (n:=i9) (by have:=t;omega);refine ak hJ ?_;simp only[*,go_sem];refine ⟨u0.length - (i9+1),by omega,_,Le.sub (List.Sublist.refl _),i9+1,c,rfl,by omega,f,rfl,?_⟩;simp only[*,go_sem]
 have X:=Nat.not_lt.2 p;refine bD hJ (by simp only[*,go_sem]) ?_;rw[List.drop_eq_nil_of_le p] at b;obtain rfl:=sI b;clear b;have h:=k;dsimp only[aD] at h;obtain rfl:=sI h;refine bN ?_;simp only[go_sem];refine ah hJ ?_;simp only[*,go_sem];refine az ?_;simp only[*,go_sem]
def v7 (u0:(List bf))(a:(bf->Option Bool)):Option Bool:=
 ag (v5 u0 a) fun b=>some (decide (0<=b))
theorem GD {ro:Addr->Option Value}(u0:(List bf)){s1:Value}(b:aC iV ro s1 u0)(a:(bf->Option Bool)){dw:FuncId}{dV dW:Array Value}(c:aI Tryz.prog dw=true/\∀(aM:Addr->Option Value),Ext ro aM->∀(d:bf) (z:Bool),a d=some z->aE Tryz.prog dw (dV++#[d.v]++dW) ⟨aM,[]⟩ (fun v _=>v= .bool z)){r:Bool}(h:v7 u0 a=some r):aE Tryz.prog 164 #[s1,.func (.func dw) dV dW] ⟨ro,[]⟩ (fun v _=>v= .bool r):=by
 obtain ⟨d3,c4,rfl,g,i,-⟩:=id b;unfold v7 at h;refine aE.go Tryz.func164 rfl Tryz.ntmps164 Tryz.results164 (by simp) fun main J hJ A j hd hs=>?_;have k:=hs 0;have k1:=hs 1;clear hs;refine ah hJ ?_;simp only[*,go_sem];refine ah hJ ?_;revert h;refine bS fun l e h=>?_;obtain rfl:=sI h;simp only[*,go_sem];refine bn hJ _ (GC (dw:=dw) (dV:=dV) (dW:=dW) u0 (b.mono aR) a ⟨c.1,fun _ f=>c.2 _ (Ext.trans aR f)⟩ e) (aJ ?_);try simp only[*,go_sem]
 refine az ?_;simp only[*,go_sem]
def p9 (a:(aT->Option Bool))(i38:Nat)(b:aT)(st:Int):Option (Fl Int Int):=
 ag (a b) fun c=>cond (c) (some (.nx (IntKind.i64.wrap (st+1)))) (some (.nx st))
def nU (u0:cR)(b:(aT->Option Bool)):Option Int:=
 ag (bJ (p9 b) 0 u0.all 0) fun o=>aD o (fun a=>cond ((a==(u0.all.length:Int))) (some 1) (cond ((a==0)) (some 2) (some 0))) (fun _ _=>none) (fun r=>some r)
theorem AX {ro:Addr->Option Value}(u0:cR){s1 e f g:Value}(Z:bL ro u0.book s1 e f g){k:Value}(l:aC gS ro k u0.all)(i:(aT->Option Bool)){dw:FuncId}{dV dW:Array Value}(y:aI Tryz.prog dw=true/\∀(aM:Addr->Option Value),Ext ro aM->∀(o:aT) (z:Bool),i o=some z->aE Tryz.prog dw (dV++#[o.v]++dW) ⟨aM,[]⟩ (fun v _=>v= .bool z)){r:Int}(h:nU u0 i=some r):aE Tryz.prog 79 #[.agg #[.int .i64 u0.book.bH,.int .i64 u0.book.bK,.int .i64 u0.book.aS.num,.int .i64 u0.book.aS.den,s1,e,f,g,k],.func (.func dw) dV dW] ⟨ro,[]⟩ (fun v _=>v= .int .i64 r):=by
 obtain ⟨d31,B,rfl,ab,p,-⟩:=id l;unfold nU at h;refine aE.go Tryz.func79 rfl Tryz.ntmps79 Tryz.results79 (by simp) fun main J hJ A C hd hs=>?_;have D:=hs 0;have k1:=hs 1;clear hs;refine ah hJ ?_;simp only[*,go_sem];refine aA fun E ad F=>?_;try simp only[au] at F
 try simp only[*,go_sem]
 refine ah hJ ?_;simp only[*,go_sem];refine af hJ (ah hJ ?_);simp only[*,go_sem];refine aN hJ ?_;revert h;refine bS fun G b H=>?_;refine bT hJ [5,7,11,12,13,14,15,16,17,18,19,20] (fun m q F'=>∃(i38:Nat) (c:Int),m=u0.all.length - i38/\i38<=u0.all.length/\bJ (p9 i) i38 (u0.all.drop i38) c=some G/\F'=⟨ro,(E,kn u0 s1 e f g (sl d31 u0.all B))::[]⟩/\slot q 11= .int .i64 (i38:Int)/\slot q 5= .int .i64 c) u0.all.length ?_ ?_
 ·refine ⟨0,0,(Nat.sub_zero _).symm,Nat.zero_le _,b,rfl,?_⟩;simp only[*,go_sem]
 rintro ae al F' s ⟨i38,c,rfl,ao,b,rfl,ar,a0⟩;obtain ⟨I,K,L⟩:=s.pick [1,2,4,9,10] (by decide);simp only[*,go_sem] at I K L;clear s C hd D k1;refine ah hJ ?_;simp only[*,go_sem];refine af hJ ?_;rcases Nat.lt_or_ge i38 u0.all.length with M|t
 ·refine bE hJ (by simp only[*,go_sem]) ?_;refine aH hJ ?_;obtain ⟨u,j⟩:∃x,u0.all[i38]?=some x:=⟨_,List.getElem?_eq_getElem M⟩
  rw[dc j] at b;revert b;refine bS fun a2 h w=>?_;unfold p9 at h;try dsimp only at h
  obtain ⟨a3,N,O,P,d⟩:=l.el _ _ j;obtain rfl:N=u.cells:=P;cases O;have Q:=d 0 _ rfl;simp only[go_sem] at Q;have R:=d 1 _ rfl;simp only[go_sem] at R;have S:=d 2 _ rfl;simp only[go_sem] at S;clear d j;refine af hJ (aN hJ (af hJ ?_));refine ak hJ ?_;simp only[*,go_sem];refine aA fun a4 a5 T=>?_;try simp only[au] at T
  try simp only[*,go_sem]
  refine ah hJ ?_;revert h;refine bS fun a6 U h=>?_;simp only[*,go_sem];refine bn hJ _ (y.2 _ (fun a v h=>aR a v h) u _ U) ?_;try simp only[*,go_sem]
  revert h;refine jC hJ (by simp only[*,go_sem]) (fun V h=>?_) fun V h=>?_
  ·obtain rfl:=sI h;refine ak hJ ?_;simp only[*,go_sem];have W:=cq (n:=i38) (by have:=p;omega);refine ak hJ ?_;simp only[*,go_sem];refine ⟨u0.all.length - (i38+1),by omega,_,Le.sub (List.Sublist.cons _ (List.Sublist.refl _)),i38+1,(IntKind.i64.wrap (c+1)),rfl,by omega,w,rfl,?_⟩;simp only[*,go_sem]
  obtain rfl:=sI h;refine aH hJ ?_;have W:=cq (n:=i38) (by have:=p;omega);refine ak hJ ?_;simp only[*,go_sem];refine ⟨u0.all.length - (i38+1),by omega,_,Le.sub (List.Sublist.cons _ (List.Sublist.refl _)),i38+1,c,rfl,by omega,w,rfl,?_⟩;simp only[*,go_sem]
 have a7:=Nat.not_lt.2 t;refine bD hJ (by simp only[*,go_sem]) ?_;rw[List.drop_eq_nil_of_le t] at b;obtain rfl:=sI b;clear b;have h:=H;dsimp only[aD] at h;refine bN ?_;simp only[go_sem];refine af hJ (ah hJ ?_);simp only[*,go_sem];refine aN hJ (af hJ ?_);refine ak hJ ?_;simp only[*,go_sem];revert h;refine jC hJ (by simp only[*,go_sem]) (fun X h=>?_) fun X h=>?_
 ·obtain rfl:=sI h;refine ah hJ ?_;simp only[*,go_sem];refine az ?_;simp only[*,go_sem]
 refine ah hJ ?_;simp only[*,go_sem];revert h;refine jC hJ (by simp only[*,go_sem]) (fun Y h=>?_) fun Y h=>?_
 ·obtain rfl:=sI h;refine ah hJ ?_;simp only[*,go_sem];refine az ?_;simp only[*,go_sem]
 obtain rfl:=sI h;refine aH hJ (af hJ ?_);refine ak hJ ?_;simp only[*,go_sem];refine az ?_;simp only[*,go_sem]
def qa (u0:bR)(a:aj)(w1:aT):Option Bool:=
 ag (aT.get w1 u0.aQ) fun b=>ag (gX a u0.aQ b) fun c=>ag (gh a c) fun d=>some (!(d==u0.bt))
theorem GF {ro:Addr->Option Value}(u0:bR)(a:aj){b:Nat}(y:ro ⟨b,0,none⟩=some (.int .i64 a.bH))(z:ro ⟨b,1,none⟩=some (.int .i64 a.bK))(B:ro ⟨b,2,none⟩=some (.int .i64 a.aS.num))(C:ro ⟨b,3,none⟩=some (.int .i64 a.aS.den)){s1:Value}(e:aC e5 ro s1 a.ax)(D:ro ⟨b,4,none⟩=some (s1)){j:Value}(f:aC eA ro j a.props)(E:ro ⟨b,5,none⟩=some (j)){k:Value}(g:aC eV ro k a.av)(G:ro ⟨b,6,none⟩=some (k)){l:Value}(i:aC dg ro l a.told)(H:ro ⟨b,7,none⟩=some (l))(w1:aT){d:Nat}(o:ro ⟨d,0,none⟩=some (.int .i64 w1.e0))(p:ro ⟨d,1,none⟩=some (.int .i64 w1.e1))(q:ro ⟨d,2,none⟩=some (.int .i64 w1.e2)){r:Bool}(h:qa u0 a w1=some r):aE Tryz.prog 146 #[.agg #[.int .i64 u0.aQ,.bool u0.bt],.pointer (some ⟨b,0,none⟩),.pointer (some ⟨d,0,none⟩)] ⟨ro,[]⟩ (fun v _=>v= .bool r):=by
 obtain ⟨d3,c4,rfl,I,K,-⟩:=id e;obtain ⟨d10,L,rfl,M,N,-⟩:=id f;obtain ⟨d17,O,rfl,P,Q,-⟩:=id g;obtain ⟨d24,R,rfl,S,T,-⟩:=id i;unfold qa at h;refine aE.go Tryz.func146 rfl Tryz.ntmps146 Tryz.results146 (by simp) fun main J hJ A U hd hs=>?_;have V:=hs 0;have k1:=hs 1;have W:=hs 2;clear hs;refine ah hJ ?_;simp only[*,go_sem];refine aA fun X Y s=>?_;try simp only[au] at s
 try simp only[*,go_sem]
 refine af hJ ?_;refine cP hJ mixed 14 1 (by simp only[*,go_sem]) (by kernel_rfl) ?_;revert h;refine bS fun t m h=>?_;obtain ⟨Z,ab,n⟩:=aT.get_some m;clear n;have n:=aT.Gc m o p q;revert h;refine bS fun u w h=>?_;try simp only[*,go_sem]
 refine ⟨_,bC hJ fun F c=>mB a ⟨(e.mono (b9 c)),(f.mono (b9 c)),(g.mono (b9 c)),(i.mono (b9 c))⟩ u0.aQ t w,b7 ?_⟩;revert h;refine bS fun ad x h=>?_;obtain rfl:=sI h;try simp only[*,go_sem]
 refine ⟨_,bC hJ fun F c=>mK a ⟨(e.mono (b9 c)),(f.mono (b9 c)),(g.mono (b9 c)),(i.mono (b9 c))⟩ u x,b7 ?_⟩;try simp only[*,go_sem]
 refine az ?_;simp only[*,go_sem]
def nW (u0:aj)(a:aT):Option Bool:=
 ag (p8 u0.told (fun b=>qa b u0 a)) fun c=>some (!c)
theorem GG {ro:Addr->Option Value}(u0:aj){s1 f g i:Value}(b:bL ro u0 s1 f g i)(c:aT){r:Bool}(h:nW u0 c=some r):aE Tryz.prog 118 #[bv u0 s1 f g i,.agg #[.int .i64 c.e0,.int .i64 c.e1,.int .i64 c.e2]] ⟨ro,[]⟩ (fun v _=>v= .bool r):=by
 obtain ⟨d3,c4,rfl,q,s,-⟩:=id b.e;obtain ⟨d10,u,rfl,w,x,-⟩:=id b.p;obtain ⟨d17,z,rfl,B,C,-⟩:=id b.y;obtain ⟨d24,D,rfl,E,F,-⟩:=id b.t;unfold nW at h;refine aE.go Tryz.func118 rfl Tryz.ntmps118 Tryz.results118 (by simp) fun main J hJ A G hd hs=>?_;have H:=hs 0;have k1:=hs 1;clear hs;refine ah hJ ?_;simp only[*,go_sem];refine aA fun j I k=>?_;try simp only[au] at k
 refine aA fun l K m=>?_;try simp only[au] at m
 try simp only[*,go_sem]
 refine ah hJ ?_;revert h;refine bS fun L n h=>?_;obtain rfl:=sI h;simp only[*,go_sem];refine bn hJ _ (GB (dw:=146) (dV:=#[]) (dW:=#[.pointer (some ⟨j,0,none⟩),.pointer (some ⟨l,0,none⟩)]) u0.told (b.t.mono aR) (fun d=>qa d u0 c) ⟨by simp only[go_sem],fun M a d N o=>by simp only[go_sem];exact GF d u0 (a _ _ (by simp only[aa.cr,go_sem, *])) (a _ _ (by simp only[aa.cr,go_sem, *])) (a _ _ (by simp only[aa.cr,go_sem, *])) (a _ _ (by simp only[aa.cr,go_sem, *])) ((b.e.mono aR).mono a) (a _ _ (by simp only[aa.cr,go_sem, *])) ((b.p.mono aR).mono a) (a _ _ (by simp only[aa.cr,go_sem, *])) ((b.y.mono aR).mono a) (a _ _ (by simp only[aa.cr,go_sem, *])) ((b.t.mono aR).mono a) (a _ _ (by simp only[aa.cr,go_sem, *])) c (a _ _ (by simp only[aa.cr,go_sem, *])) (a _ _ (by simp only[aa.cr,go_sem, *])) (a _ _ (by simp only[aa.cr,go_sem, *])) o⟩ n) (aJ ?_);try simp only[*,go_sem]
 refine az ?_;simp only[*,go_sem]
def sD (u0:aj)(a:(List bf)):Option Bool:=
 ag (v7 a (gh u0)) fun b=>some (!b)
theorem GH {ro:Addr->Option Value}(u0:aj){s1 c d f:Value}(a:bL ro u0 s1 c d f)(g:(List bf)){i:Value}(j:aC iV ro i g){r:Bool}(h:sD u0 g=some r):aE Tryz.prog 136 #[bv u0 s1 c d f,i] ⟨ro,[]⟩ (fun v _=>v= .bool r):=by
 obtain ⟨d31,n,rfl,o,q,-⟩:=id j;unfold sD at h;refine aE.go Tryz.func136 rfl Tryz.ntmps136 Tryz.results136 (by simp) fun main J hJ A s hd hs=>?_;have u:=hs 0;have k1:=hs 1;clear hs;refine ah hJ ?_;simp only[*,go_sem];refine aA fun w x k=>?_;try simp only[au] at k
 try simp only[*,go_sem]
 refine ah hJ ?_;revert h;refine bS fun z l h=>?_;obtain rfl:=sI h;simp only[*,go_sem];refine bn hJ _ (GD (dw:=81) (dV:=#[bv u0 s1 c d f]) (dW:=#[]) g (j.mono aR) (gh u0) ⟨by simp only[go_sem],fun B b m _ h=>by simp only[go_sem];exact mK u0 ⟨((a.e.mono aR).mono b),((a.p.mono aR).mono b),((a.y.mono aR).mono b),((a.t.mono aR).mono b)⟩ m h⟩ l) (aJ ?_);try simp only[*,go_sem]
 refine az ?_;simp only[*,go_sem]
def jD (u0:aT)(a:cR)(w1:Int):Option Bool:=
 ag (aT.get u0 w1) fun b=>ag (gX a.book w1 b) fun c=>ag (gh a.book c) fun d=>some d
theorem GI {ro:Addr->Option Value}(u0:aT)(a:cR){b:Nat}(x:ro ⟨b,0,none⟩=some (.int .i64 a.book.bH))(y:ro ⟨b,1,none⟩=some (.int .i64 a.book.bK))(z:ro ⟨b,2,none⟩=some (.int .i64 a.book.aS.num))(B:ro ⟨b,3,none⟩=some (.int .i64 a.book.aS.den)){s1:Value}(d:aC e5 ro s1 a.book.ax)(C:ro ⟨b,4,none⟩=some (s1)){i:Value}(e:aC eA ro i a.book.props)(D:ro ⟨b,5,none⟩=some (i)){j:Value}(f:aC eV ro j a.book.av)(E:ro ⟨b,6,none⟩=some (j)){k:Value}(g:aC dg ro k a.book.told)(G:ro ⟨b,7,none⟩=some (k)){l:Value}(n:aC gS ro l a.all)(H:ro ⟨b,8,none⟩=some (l))(w1:Int){m:Nat}(I:ro ⟨m,0,none⟩=some (.int .i64 w1)){r:Bool}(h:jD u0 a w1=some r):aE Tryz.prog 80 #[.agg #[.int .i64 u0.e0,.int .i64 u0.e1,.int .i64 u0.e2],.pointer (some ⟨b,0,none⟩),.pointer (some ⟨m,0,none⟩)] ⟨ro,[]⟩ (fun v _=>v= .bool r):=by
 obtain ⟨d3,c4,rfl,K,L,-⟩:=id d;obtain ⟨d10,M,rfl,N,O,-⟩:=id e;obtain ⟨d17,P,rfl,Q,R,-⟩:=id f;obtain ⟨d24,S,rfl,T,U,-⟩:=id g;obtain ⟨d31,V,rfl,W,X,-⟩:=id n;unfold jD at h;refine aE.go Tryz.func80 rfl Tryz.ntmps80 Tryz.results80 (by simp) fun main J hJ A Y hd hs=>?_;have Z:=hs 0;have k1:=hs 1;have ab:=hs 2;clear hs;refine ah hJ ?_;simp only[*,go_sem];refine aA fun ad ae o=>?_;try simp only[au] at o
 try simp only[*,go_sem]
 refine af hJ ?_;refine cP hJ mixed 11 1 (by simp only[*,go_sem]) (by kernel_rfl) ?_;revert h;refine bS fun p q h=>?_;obtain ⟨al,ao,s⟩:=aT.get_some q;try simp only[go_sem] at s
 revert h;refine bS fun t u h=>?_;try simp only[*,go_sem]
 refine ⟨_,bC hJ fun F c=>mB a.book ⟨(d.mono (b9 c)),(e.mono (b9 c)),(f.mono (b9 c)),(g.mono (b9 c))⟩ w1 p u,b7 ?_⟩;revert h;refine bS fun ar w h=>?_;obtain rfl:=sI h;try simp only[*,go_sem]
 refine ⟨_,bC hJ fun F c=>mK a.book ⟨(d.mono (b9 c)),(e.mono (b9 c)),(f.mono (b9 c)),(g.mono (b9 c))⟩ t w,b7 ?_⟩;try simp only[*,go_sem]
 refine az ?_;simp only[*,go_sem]
def sE (u0:aT)(a:cR)(i38:Nat)(e:bO)(st:Bool):Option (Fl Bool Bool):=
 ag (aT.get u0 (i38:Int)) fun b=>ag (gX a.book (i38:Int) b) fun c=>ag (gh a.book c) fun d=>cond (d) (some (.rt false)) (some (.nx st))
def jE (u0:aT)(a:cR):Option Bool:=
 ag (bJ (sE u0 a) 0 a.book.av false) fun o=>aD o (fun b=>some true) (fun _ _=>none) (fun r=>some r)
theorem GJ {ro:Addr->Option Value}(u0:aT)(a:cR){b:Nat}(ae:ro ⟨b,0,none⟩=some (.int .i64 a.book.bH))(al:ro ⟨b,1,none⟩=some (.int .i64 a.book.bK))(ao:ro ⟨b,2,none⟩=some (.int .i64 a.book.aS.num))(ar:ro ⟨b,3,none⟩=some (.int .i64 a.book.aS.den)){s1:Value}(i:aC e5 ro s1 a.book.ax)(a0:ro ⟨b,4,none⟩=some (s1)){p:Value}(j:aC eA ro p a.book.props)(a2:ro ⟨b,5,none⟩=some (p)){q:Value}(e:aC eV ro q a.book.av)(a3:ro ⟨b,6,none⟩=some (q)){s:Value}(k:aC dg ro s a.book.told)(a4:ro ⟨b,7,none⟩=some (s)){t:Value}(B:aC gS ro t a.all)(a5:ro ⟨b,8,none⟩=some (t)){r:Bool}(h:jE u0 a=some r):aE Tryz.prog 84 #[.agg #[.int .i64 u0.e0,.int .i64 u0.e1,.int .i64 u0.e2],.pointer (some ⟨b,0,none⟩)] ⟨ro,[]⟩ (fun v _=>v= .bool r):=by
 obtain ⟨d3,c4,rfl,a6,a7,-⟩:=id i;obtain ⟨d10,a8,rfl,a9,ba,-⟩:=id j;obtain ⟨d17,bb,rfl,bc,C,-⟩:=id e;obtain ⟨d24,bd,rfl,bj,bk,-⟩:=id k;obtain ⟨d31,bl,rfl,bm,bo,-⟩:=id B;unfold jE at h;refine aE.go Tryz.func84 rfl Tryz.ntmps84 Tryz.results84 (by simp) fun main J hJ A D hd hs=>?_;have E:=hs 0;have k1:=hs 1;clear hs;refine ah hJ ?_;simp only[*,go_sem];refine aA fun G br H=>?_;try simp only[au] at H
 try simp only[*,go_sem]
 refine af hJ (ah hJ ?_);simp only[*,go_sem];refine aN hJ ?_;revert h;refine bS fun I d u=>?_;refine bT hJ [3,4,10,11,12,13,14,15,16,17,18,19,20,21,22,23] (fun m w F'=>∃(i38:Nat) (f:Bool),m=a.book.av.length - i38/\i38<=a.book.av.length/\bJ (sE u0 a) i38 (a.book.av.drop i38) f=some I/\F'=⟨ro,(G,.cells #[.int .i64 u0.e0,.int .i64 u0.e1,.int .i64 u0.e2] 121)::[]⟩/\slot w 10= .int .i64 (i38:Int)/\slot w 3= .bool f) a.book.av.length ?_ ?_
 ·refine ⟨0,false,(Nat.sub_zero _).symm,Nat.zero_le _,d,rfl,?_⟩;simp only[*,go_sem]
 rintro bs bz F' y ⟨i38,f,rfl,b0,d,rfl,b1,b2⟩;obtain ⟨K,L,M⟩:=y.pick [1,2,9] (by decide);simp only[*,go_sem] at K L M;clear y D hd E k1;refine ah hJ ?_;simp only[*,go_sem];refine af hJ ?_;rcases Nat.lt_or_ge i38 a.book.av.length with N|z
 ·refine bE hJ (by simp only[*,go_sem]) ?_;refine aH hJ ?_;obtain ⟨O,l⟩:∃x,a.book.av[i38]?=some x:=⟨_,List.getElem?_eq_getElem N⟩
  rw[dc l] at d;revert d;refine bS fun b3 h o=>?_;unfold sE at h;try dsimp only at h
  obtain ⟨b4,P,Q,R,g⟩:=e.el _ _ l;obtain rfl:P=O.cells:=R;cases Q;have S:=g 0 _ rfl;simp only[go_sem] at S;have T:=g 1 _ rfl;simp only[go_sem] at T;have U:=g 2 _ rfl;simp only[go_sem] at U;clear g l;refine af hJ (aN hJ (af hJ ?_));refine ak hJ ?_;simp only[*,go_sem];refine af hJ ?_;refine cP hJ mixed 10 1 (by simp only[*,go_sem]) (by kernel_rfl) ?_;revert h;refine bS fun V W h=>?_;obtain ⟨b5,ca,X⟩:=aT.get_some W;try simp only[go_sem] at X
  revert h;refine bS fun Y Z h=>?_;try simp only[*,go_sem]
  refine ⟨_,bC hJ fun F c=>mB a.book ⟨(i.mono (b9 c)),(j.mono (b9 c)),(e.mono (b9 c)),(k.mono (b9 c))⟩ (i38:Int) V Z,b7 ?_⟩;revert h;refine bS fun cb ab h=>?_;try simp only[*,go_sem]
  refine ⟨_,bC hJ fun F c=>mK a.book ⟨(i.mono (b9 c)),(j.mono (b9 c)),(e.mono (b9 c)),(k.mono (b9 c))⟩ Y ab,?_⟩;try simp only[*,go_sem]
  revert h;refine jC hJ (by simp only[*,go_sem]) (fun ad h=>?_) fun ad h=>?_
  ·obtain rfl:=sI h;refine ah hJ ?_;simp only[*,go_sem];obtain rfl:=sI o;clear o;have h:=u;dsimp only[aD] at h;obtain rfl:=sI h;refine az ?_;simp only[*,go_sem]
  obtain rfl:=sI h;refine aH hJ ?_;have cd:=cq (n:=i38) (by have:=C;omega);refine ak hJ ?_;simp only[*,go_sem];refine ⟨a.book.av.length - (i38+1),by omega,_,Le.sub (List.Sublist.refl _),i38+1,f,rfl,by omega,o,rfl,?_⟩;simp only[*,go_sem]
 have cf:=Nat.not_lt.2 z;refine bD hJ (by simp only[*,go_sem]) ?_;rw[List.drop_eq_nil_of_le z] at d;obtain rfl:=sI d;clear d;have h:=u;dsimp only[aD] at h;obtain rfl:=sI h;refine bN ?_;simp only[go_sem];refine ah hJ ?_;simp only[*,go_sem];refine az ?_;simp only[*,go_sem]
def aT.setAt (h:aT)(i n:Int):Option aT:=if i=0 then some {h with e0:=n} else if i=1 then some {h with e1:=n} else if i=2 then some {h with e2:=n} else none
theorem aT.GK {h a:aT}{i n:Int}(e:h.setAt i n=some a):(i=0/\a={h with e0:=n})\/(i=1/\a={h with e1:=n})\/(i=2/\a={h with e2:=n}):=by
 unfold aT.setAt at e;split at e
 ·exact .inl ⟨‹_›,(Option.some.inj e).symm⟩
 ·split at e
  ·exact .inr (.inl ⟨‹_›,(Option.some.inj e).symm⟩)
  ·split at e
   ·exact .inr (.inr ⟨‹_›,(Option.some.inj e).symm⟩)
   ·cases e
def ja (f:aT->List (Option aT)×aT)(i hi:Int):Nat->Int->aT->List (Option aT)×aT
 |0,_,h=>([none],h)
 |k+1,n,h=>if n<=hi then match h.setAt i n with
   |none=>([none],h)
   |some a=>((f a).1++(ja f i hi k (IntKind.i64.wrap (n+1)) (f a).2).1,(ja f i hi k (IntKind.i64.wrap (n+1)) (f a).2).2)
  else ([],h)
def eO (b:aj):Nat->Int->aT->List (Option aT)×aT
 |0,_,h=>([none],h)
 |fuel+1,i,h=>if i=b.av.length then ((match nW b h with
   |some true=>[some h]
   |some false=>[]
   |none=>[none]),h)
  else match aY b.av i with
   |none=>([none],h)
   |some e=>ja (eO b fuel (IntKind.i64.wrap (i+1))) i e.high.high 100 e.high.low h
def mM (b:aj):List (Option aT):=(eO b 5 0 ⟨0,0,0⟩).1
theorem GL {H σ:Type}{step:σ->H->Option (Bool×σ)}{l l':List (Option H)}{s s':σ}{c:Bool}(h:eZ step (l++l') s=some (c,s')):
  (∃s1,eZ step l s=some (true,s1)/\eZ step l' s1=some (c,s'))\/(eZ step l s=some (false,s')/\c=false):=by
 rw[AI] at h
 split at h
 ·rename_i s1 a;exact .inl ⟨s1,a,h⟩
 ·rename_i s1 a;simp only[Option.some.injEq,Prod.mk.injEq] at h;obtain ⟨rfl,rfl⟩:=h;exact .inr ⟨a,rfl⟩
 ·cases h
theorem qb {H σ:Type}{step:σ->H->Option (Bool×σ)}{s:σ}{r:Bool×σ}(h:eZ step [none] s=some r):False:=by cases h
section
variable {ro : Addr → Option Value} {σ : Type} {step : σ → aT → Option (Bool × σ)} {I : σ → List (Nat × Obj) → Prop} {y : Value}
def nZ (b:aj)(s1 s2 a c y:Value)(b2 b3 b4 b5:Nat)(h:aT):List (Nat×Obj):=
 [(b5,.cells #[.func (.func 117) #[] #[.pointer (some ⟨b2,0,none⟩),.pointer (some ⟨b4,0,none⟩),.pointer (some ⟨b3,0,none⟩),.pointer (some ⟨b5,0,none⟩)]] 165),
  (b4,.cells #[.int .i64 h.e0,.int .i64 h.e1,.int .i64 h.e2] 121),(b3,.cells #[y] 139),
  (b2,.cells #[.int .i64 b.bH,.int .i64 b.bK,.int .i64 b.aS.num,.int .i64 b.aS.den,s1,s2,a,c] 115)]
theorem GM (u0:aj){s1 s2 x z:Value}(F:aC e5 ro s1 u0.ax)(G:aC eA ro s2 u0.props)(H:aC eV ro x u0.av)(K:aC dg ro z u0.told)(W:vJ Tryz.prog y aT.v step ro I)
  {b2 b3 b4 b5:Nat} (n1:¬b5=b4) (n2:¬b5=b3) (n3:¬b5=b2) (bc:¬b4=b3) (bd:¬b4=b2) (bj:¬b3=b2) (bk:∀off sp,ro ⟨b5,off,sp⟩=none) (bl:∀off sp,ro ⟨b4,off,sp⟩=none) (bm:∀off sp,ro ⟨b3,off,sp⟩=none) (bo:∀off sp,ro ⟨b2,off,sp⟩=none):
  ∀(fuel:Nat) (i:Int) (b:aT) (s:σ) (c:Bool) (s':σ),eZ step (eO u0 fuel i b).1 s=some (c,s')->∀(main:Bool) (J:Goroutine->aa->Prop),Closed Tryz.prog main J->∀own,I s own->
   cV Tryz.prog J 117 #[.int .i64 i,.pointer (some ⟨b2,0,none⟩),.pointer (some ⟨b4,0,none⟩),.pointer (some ⟨b3,0,none⟩),.pointer (some ⟨b5,0,none⟩)] ⟨ro,nZ u0 s1 s2 x z y b2 b3 b4 b5 b++own⟩
    (fun v F'=>∃o q,Le ⟨ro,nZ u0 s1 s2 x z y b2 b3 b4 b5 o++q⟩ F'/\v= .bool c/\I s' q/\(c=true->o=(eO u0 fuel i b).2)):=by
 intro fuel
 induction fuel with
 |zero=>intro i b s c s' h;exact (qb h).elim
 |succ fuel ih=>
  intro i b s c s' h main J hJ own j
  obtain ⟨L,M,rfl,br,bs,e1⟩:=id F
  obtain ⟨N,O,rfl,bz,bS,e2⟩:=id G
  obtain ⟨X,P,rfl,b0,b1,Y⟩:=id H
  obtain ⟨Q,R,rfl,ca,cb,cd⟩:=id K
  refine cV.go hJ Tryz.func117 rfl Tryz.ntmps117 Tryz.results117 (by simp) fun A Z hd hs=>?_
  have ab:=hs 0
  have k1:=hs 1
  have ad:=hs 2
  have ae:=hs 3
  have al:=hs 4
  clear hs
  unfold eO at h
  have cf:(0:Int)<((3:Nat):Int):=by decide
  have cl:(1:Int)<((3:Nat):Int):=by decide
  have cu:(2:Int)<((3:Nat):Int):=by decide
  repeat refine af hJ ?_
  refine ak hJ ?_
  simp only[*,go_sem,-h]
  repeat refine af hJ ?_
  refine ak hJ ?_
  simp only[nZ,go_sem, *,-h]
  repeat refine af hJ ?_
  by_cases hi:i=(u0.av.length:Int)
  ·rw[if_pos hi] at h
   repeat refine af hJ ?_
   refine bE hJ (by simp only[*,go_sem,-h]) ?_
   repeat refine af hJ ?_
   refine aB hJ fun nd=>?_
   repeat refine af hJ ?_
   refine ak hJ ?_
   simp only[*,go_sem,-h]
   cases f:nW u0 b with
   |none=>rw[f] at h;exact (qb h).elim
   |some r=>
    rw[f] at h
    refine bn hJ _ (GG u0 ⟨(F.mono aR),(G.mono aR),(H.mono aR),(K.mono aR)⟩ b f) (aJ ?_)
    cases r with
    |false=>
     cases h
     simp only[*,go_sem]
     repeat refine af hJ ?_
     refine az ?_
     simp only[*,go_sem]
     refine ⟨b,own,Le.refl _,?_⟩
     first|exact ⟨rfl,j,fun _=>by unfold eO;rw[if_pos rfl]⟩|exact ⟨j,fun _=>by unfold eO;rw[if_pos rfl]⟩|exact ⟨j,by unfold eO;rw[if_pos rfl]⟩|exact j
    |true=>
     have ao:step s b=some (c,s'):=by
      simp only[eZ] at h
      split at h<;>first|(cases h;assumption)|cases h
     simp only[*,go_sem,-h]
     refine FP hJ (nZ u0 (.slice L u0.ax.length M) (.slice N u0.props.length O) (.slice X u0.av.length P) (.slice Q u0.told.length R) y b2 b3 b4 b5 b) (fun m ar a0=>W s b c s' ao m ar a0 own j) nd ?_
     rintro v q ⟨rfl,S⟩ cy
     refine aJ ?_
     simp only[*,go_sem,-h]
     repeat refine af hJ ?_
     refine az ?_
     simp only[*,go_sem,-h]
     refine ⟨b,q,Le.refl _,?_⟩
     first|exact ⟨rfl,S,fun _=>by unfold eO;rw[if_pos rfl]⟩|exact ⟨S,fun _=>by unfold eO;rw[if_pos rfl]⟩
  ·rw[if_neg hi] at h
   have cS:(i==(u0.av.length:Int))=false:=by simpa using hi
   repeat refine af hJ ?_
   refine bD hJ (by simp only[*,go_sem,-h]) ?_
   refine aH hJ ?_
   cases f:aY u0.av i with
   |none=>rw[f] at h;exact (qb h).elim
   |some e=>
    rw[f] at h
    simp only at h
    have a2:=f
    obtain ⟨c0,da,T⟩:=cE f
    obtain ⟨a3,cse,a4,a5,t⟩:=Y _ _ T
    obtain rfl:cse=e.cells:=a5
    cases a4
    have a6:=t 0 _ rfl;simp only[go_sem] at a6
    have a7:=t 1 _ rfl;simp only[go_sem] at a7
    have a8:=t 2 _ rfl;simp only[go_sem] at a8
    clear t T
    repeat refine af hJ ?_
    refine ak hJ ?_
    simp only[*,go_sem,-h]
    repeat refine af hJ ?_
    refine aN hJ ?_
    refine bT hJ [6,7,31,32,33,34,35,36,37,38,39,40,41,42,43,44,45,46,47,48,49,50] (fun m a9 F'=>∃(n:Int) (h:aT) (s:σ) (own:List (Nat×Obj)),eZ step (ja (eO u0 fuel (IntKind.i64.wrap (i+1))) i e.high.high m n h).1 s=some (c,s')/\
     (c=true->(ja (eO u0 fuel (IntKind.i64.wrap (i+1))) i e.high.high m n h).2=(eO u0 (fuel+1) i b).2)/\F'=⟨ro,nZ u0 (.slice L u0.ax.length M) (.slice N u0.props.length O) (.slice (some a3) u0.av.length P) (.slice Q u0.told.length R) y b2 b3 b4 b5 h++own⟩/\I s own/\slot a9 7= .int .i64 n) 100 ?_ ?_
    ·have ba:(eO u0 (fuel+1) i b).2=(ja (eO u0 fuel (IntKind.i64.wrap (i+1))) i e.high.high 100 e.high.low b).2:=by
      rw[eO,if_neg hi,a2]
     exact ⟨e.high.low,b,s,own,h,fun _=>ba.symm,rfl,j,by simp only[*,go_sem,-h]⟩
    ·rintro m k F' g ⟨n,o,s1,B,a,d,rfl,p,db⟩
     clear h j
     have dd:sz k=51:=by rw[g.size];simp only[*,go_sem]
     have kd:k.defers=[]:=by rw[g.defers];simp only[*,go_sem]
     have df:slot k 0= .int .i64 i:=by rw[g.dS 0 (by decide)];simp only[*,go_sem]
     have dk:slot k 1= .pointer (some ⟨b2,0,none⟩):=by rw[g.dS 1 (by decide)];simp only[*,go_sem]
     have dp:slot k 2= .pointer (some ⟨b4,0,none⟩):=by rw[g.dS 2 (by decide)];simp only[*,go_sem]
     have dq:slot k 3= .pointer (some ⟨b3,0,none⟩):=by rw[g.dS 3 (by decide)];simp only[*,go_sem]
     have ds:slot k 4= .pointer (some ⟨b5,0,none⟩):=by rw[g.dS 4 (by decide)];simp only[*,go_sem]
     clear g ab k1 ad ae al Z hd
     obtain _|m:=m
     ·exact (qb a).elim
     unfold ja at a d
     repeat refine af hJ ?_
     refine ak hJ ?_
     simp only[nZ,go_sem, *,-a]
     repeat refine af hJ ?_
     by_cases u:n<=e.high.high
     ·rw[if_pos u] at a
      rw[if_pos u] at d
      repeat refine af hJ ?_
      refine bE hJ (by simp only[*,go_sem,-a]) ?_
      refine aH hJ ?_
      cases C:o.setAt i n with
      |none=>rw[C] at a;exact (qb a).elim
      |some dt=>
       rw[C] at a d
       simp only at a d
       repeat refine af hJ ?_
       refine aN hJ ?_
       repeat refine af hJ ?_
       refine aB hJ fun nd=>?_
       repeat refine af hJ ?_
       refine ak hJ ?_
       rcases aT.GK C with ⟨D,rfl⟩|⟨D,rfl⟩|⟨D,rfl⟩<;>subst D<;>
       (simp only[*,go_sem,-a]
        repeat refine af hJ ?_
        refine ak hJ ?_
        simp only[*,go_sem,-a]
        have bb:=GL a
        clear a
        rcases bb with ⟨s2,E,a⟩|⟨E,rfl⟩
        ·refine cV.less hJ ((ih _ _ _ _ _ E _ J hJ B p).mono ?_)
         rintro v F' ⟨U,V,hle,rfl,l,w⟩
         have w:=w rfl
         subst w
         refine ⟨_,hle,aJ ?_⟩
         simp only[*,go_sem,-a]
         repeat refine af hJ ?_
         refine bD hJ (by simp only[*,go_sem,-a]) ?_
         refine aH hJ ?_
         repeat refine af hJ ?_
         refine ak hJ ?_
         simp only[*,go_sem,-a]
         exact ⟨m,Nat.lt_succ_self m,_,Le.refl _,_,_,_,_,a,d,rfl,l,by simp only[*,go_sem,-a]⟩
        ·refine cV.less hJ ((ih _ _ _ _ _ E _ J hJ B p).mono ?_)
         rintro v F' ⟨U,V,hle,rfl,l,w⟩
         refine ⟨_,hle,aJ ?_⟩
         simp only[*,go_sem]
         repeat refine af hJ ?_
         refine bE hJ (by simp only[*,go_sem]) ?_
         repeat refine af hJ ?_
         refine ak hJ ?_
         simp only[*,go_sem]
         repeat refine af hJ ?_
         refine az ?_
         simp only[*,go_sem]
         refine ⟨U,V,Le.refl _,?_⟩
         first|exact ⟨rfl,l,fun h=>by cases h⟩|exact ⟨l,fun h=>by cases h⟩|exact l|exact ⟨l,trivial⟩)
     ·rw[if_neg u] at a
      rw[if_neg u] at d
      simp only[eZ,Option.some.injEq,Prod.mk.injEq] at a
      obtain ⟨rfl,rfl⟩:=a
      repeat refine af hJ ?_
      refine bD hJ (by simp only[*,go_sem]) ?_
      refine bN ?_
      simp only[go_sem]
      repeat refine af hJ ?_
      refine ak hJ ?_
      simp only[*,go_sem]
      repeat refine af hJ ?_
      refine az ?_
      simp only[*,go_sem]
      refine ⟨o,B,Le.refl _,?_⟩
      first|exact ⟨rfl,p,fun h=>d h⟩|exact ⟨p,fun h=>d h⟩|exact ⟨p,d rfl⟩
theorem sF (u0:aj){s1 s2 j k:Value}(e:aC e5 ro s1 u0.ax)(f:aC eA ro s2 u0.props)(g:aC eV ro j u0.av)(h:aC dg ro k u0.told):
  mw Tryz.prog 66 #[.agg #[.int .i64 u0.bH,.int .i64 u0.bK,.int .i64 u0.aS.num,.int .i64 u0.aS.den,s1,s2,j,k]] #[] aT.v (mM u0) ro:=by
 refine ⟨by simp only[go_sem],fun aM b σ step I r t u l s c s' a main J hJ own m=>?_⟩
 replace e:=e.mono b
 replace f:=f.mono b
 replace g:=g.mono b
 replace h:=h.mono b
 refine cV.go hJ Tryz.func66 rfl Tryz.ntmps66 Tryz.results66 (by simp) fun A w hd hs=>?_
 have x:=hs 0
 have k1:=hs 1
 clear hs
 repeat refine af hJ ?_
 refine ak hJ ?_
 try simp only[*,go_sem,-a]
 intro b2 f2;have r2:=eE f2;have n2:=fB f2
 intro b3 f3;have r3:=eE f3;have n3:=fB f3
 simp only[au] at n3
 try simp only[*,go_sem,-a]
 repeat refine af hJ ?_
 refine ak hJ ?_
 try simp only[*,go_sem,-a]
 intro b4 f4;have n:=eE f4;have i:=fB f4
 simp only[au] at i
 try simp only[*,go_sem,-a]
 repeat refine af hJ ?_
 refine ak hJ ?_
 try simp only[*,go_sem,-a]
 intro b5 f5;have o:=eE f5;have d:=fB f5
 simp only[au] at d
 try simp only[*,go_sem,-a]
 repeat refine af hJ ?_
 refine ak hJ ?_
 try simp only[*,go_sem,-a]
 repeat refine af hJ ?_
 refine ak hJ ?_
 try simp only[*,go_sem,-a]
 refine cV.less hJ ((GM u0 e f g h l (b2:=b2) (b3:=b3) (b4:=b4) (b5:=b5) d.1 d.2.1 d.2.2.1 i.1 i.2.1 n3.1 o n r3 r2 5 0 ⟨0,0,0⟩ s c s' a main J hJ own m).mono ?_)
 rintro v F' ⟨y,p,hle,rfl,q,_⟩
 exact ⟨_,hle,p,Le.sub (List.sublist_append_right _ _),q⟩
end
def qc (u0:List bR):Option (List bR):=if u0.length<=1000000 then some u0 else none
theorem v8 {ro:Addr->Option Value}(u0:List bR){s1:Value}(b:aC dg ro s1 u0){x:List bR}(h:qc u0=some x):aE Tryz.prog 93 #[s1] ⟨ro,[]⟩ (fun v G=>∃a,aO dg ro 76 v x a/\Le ⟨ro,a⟩ G):=by
 obtain ⟨ad,cap,rfl,le,d,e⟩:=id b;unfold qc at h;split at h
 case isFalse=>cases h
 rename_i hlen;obtain rfl:=Option.some.inj h;clear h;refine aE.go Tryz.func93 rfl Tryz.ntmps93 Tryz.results93 (by simp) fun main J hJ A f hd hs=>?_;have g:=hs 0;clear hs;refine ah hJ ?_;simp only[*,go_sem];cases ad with
 |none=>
  have hu:u0=[]:=by
   cases u0 with
   |nil=>rfl
   |cons x l=>obtain ⟨p,cs,c,_⟩:=e 0 x rfl;cases c
  subst hu;first|refine ah hJ ?_|refine af hJ (ah hJ ?_)
  simp only[*,go_sem];refine bE hJ (by simp only[*,go_sem]) ?_;refine ah hJ ?_;simp only[*,go_sem];refine az ?_;simp only[*,go_sem];exact ⟨[],aO.nil _ _ _,Le.refl _⟩
 |some p=>
  first|refine ah hJ ?_|refine af hJ (ah hJ ?_)
  simp only[*,go_sem];refine bD hJ (by simp only[*,go_sem]) ?_;refine aH hJ ?_;refine ah hJ ?_;simp only[*,go_sem];intro i f1;have r1:=eE f1;try simp only[*,go_sem]
  refine pM r1 trivial rfl hlen b rfl rfl en en iq iu rfl ir (by decide) (by decide) (fun v a hg j=>aJ ?_);simp only[*,go_sem];refine az ?_;simp only[*,go_sem];exact ⟨a,hg,Le.refl _⟩
def n4 (u0:List bO):Option (List bO):=if u0.length<=1000000 then some u0 else none
theorem AY {ro:Addr->Option Value}(u0:List bO){s1:Value}(b:aC eV ro s1 u0){x:List bO}(h:n4 u0=some x):aE Tryz.prog 71 #[s1] ⟨ro,[]⟩ (fun v G=>∃a,aO eV ro 41 v x a/\Le ⟨ro,a⟩ G):=by
 obtain ⟨ad,cap,rfl,le,d,e⟩:=id b;unfold n4 at h;split at h
 case isFalse=>cases h
 rename_i hlen;obtain rfl:=Option.some.inj h;clear h;refine aE.go Tryz.func71 rfl Tryz.ntmps71 Tryz.results71 (by simp) fun main J hJ A f hd hs=>?_;have g:=hs 0;clear hs;refine ah hJ ?_;simp only[*,go_sem];cases ad with
 |none=>
  have hu:u0=[]:=by
   cases u0 with
   |nil=>rfl
   |cons x l=>obtain ⟨p,cs,c,_⟩:=e 0 x rfl;cases c
  subst hu;first|refine ah hJ ?_|refine af hJ (ah hJ ?_)
  simp only[*,go_sem];refine bE hJ (by simp only[*,go_sem]) ?_;refine ah hJ ?_;simp only[*,go_sem];refine az ?_;simp only[*,go_sem];exact ⟨[],aO.nil _ _ _,Le.refl _⟩
 |some p=>
  first|refine ah hJ ?_|refine af hJ (ah hJ ?_)
  simp only[*,go_sem];refine bD hJ (by simp only[*,go_sem]) ?_;refine aH hJ ?_;refine ah hJ ?_;simp only[*,go_sem];intro i f1;have r1:=eE f1;try simp only[*,go_sem]
  refine pM r1 trivial rfl hlen b rfl rfl Aa Aa E4 E6 rfl E5 (by decide) (by decide) (fun v a hg j=>aJ ?_);simp only[*,go_sem];refine az ?_;simp only[*,go_sem];exact ⟨a,hg,Le.refl _⟩
def sG (u0:List bX):Option (List bX):=if u0.length<=1000000 then some u0 else none
theorem GN {ro:Addr->Option Value}(u0:List bX){s1:Value}(b:aC e5 ro s1 u0){x:List bX}(h:sG u0=some x):aE Tryz.prog 123 #[s1] ⟨ro,[]⟩ (fun v G=>∃a,aO e5 ro 85 v x a/\Le ⟨ro,a⟩ G):=by
 obtain ⟨ad,cap,rfl,le,d,e⟩:=id b;unfold sG at h;split at h
 case isFalse=>cases h
 rename_i hlen;obtain rfl:=Option.some.inj h;clear h;refine aE.go Tryz.func123 rfl Tryz.ntmps123 Tryz.results123 (by simp) fun main J hJ A f hd hs=>?_;have g:=hs 0;clear hs;refine ah hJ ?_;simp only[*,go_sem];cases ad with
 |none=>
  have hu:u0=[]:=by
   cases u0 with
   |nil=>rfl
   |cons x l=>obtain ⟨p,cs,c,_⟩:=e 0 x rfl;cases c
  subst hu;first|refine ah hJ ?_|refine af hJ (ah hJ ?_)
  simp only[*,go_sem];refine bE hJ (by simp only[*,go_sem]) ?_;refine ah hJ ?_;simp only[*,go_sem];refine az ?_;simp only[*,go_sem];exact ⟨[],aO.nil _ _ _,Le.refl _⟩
 |some p=>
  first|refine ah hJ ?_|refine af hJ (ah hJ ?_)
  simp only[*,go_sem];refine bD hJ (by simp only[*,go_sem]) ?_;refine aH hJ ?_;refine ah hJ ?_;simp only[*,go_sem];intro i f1;have r1:=eE f1;try simp only[*,go_sem]
  refine pM r1 trivial rfl hlen b rfl rfl z9 z9 E7 Ac rfl E8 (by decide) (by decide) (fun v a hg j=>aJ ?_);simp only[*,go_sem];refine az ?_;simp only[*,go_sem];exact ⟨a,hg,Le.refl _⟩
def qd (u0:List cc):Option (List cc):=if u0.length<=1000000 then some u0 else none
theorem AZ {ro:Addr->Option Value}(u0:List cc){s1:Value}(b:aC eA ro s1 u0){x:List cc}(h:qd u0=some x):aE Tryz.prog 124 #[s1] ⟨ro,[]⟩ (fun v G=>∃a,aO eA ro 96 v x a/\Le ⟨ro,a⟩ G):=by
 obtain ⟨ad,cap,rfl,le,d,e⟩:=id b;unfold qd at h;split at h
 case isFalse=>cases h
 rename_i hlen;obtain rfl:=Option.some.inj h;clear h;refine aE.go Tryz.func124 rfl Tryz.ntmps124 Tryz.results124 (by simp) fun main J hJ A f hd hs=>?_;have g:=hs 0;clear hs;refine ah hJ ?_;simp only[*,go_sem];cases ad with
 |none=>
  have hu:u0=[]:=by
   cases u0 with
   |nil=>rfl
   |cons x l=>obtain ⟨p,cs,c,_⟩:=e 0 x rfl;cases c
  subst hu;first|refine ah hJ ?_|refine af hJ (ah hJ ?_)
  simp only[*,go_sem];refine bE hJ (by simp only[*,go_sem]) ?_;refine ah hJ ?_;simp only[*,go_sem];refine az ?_;simp only[*,go_sem];exact ⟨[],aO.nil _ _ _,Le.refl _⟩
 |some p=>
  first|refine ah hJ ?_|refine af hJ (ah hJ ?_)
  simp only[*,go_sem];refine bD hJ (by simp only[*,go_sem]) ?_;refine aH hJ ?_;refine ah hJ ?_;simp only[*,go_sem];intro i f1;have r1:=eE f1;try simp only[*,go_sem]
  refine pM r1 trivial rfl hlen b rfl rfl k4 k4 rT rV rfl rU (by decide) (by decide) (fun v a hg j=>aJ ?_);simp only[*,go_sem];refine az ?_;simp only[*,go_sem];exact ⟨a,hg,Le.refl _⟩
def sH (u0:List Int):Option (List Int):=if u0.length<=1000000 then some u0 else none
theorem A0 {ro:Addr->Option Value}(u0:List Int){s1:Value}(b:aC rI ro s1 u0){x:List Int}(h:sH u0=some x):aE Tryz.prog 141 #[s1] ⟨ro,[]⟩ (fun v G=>∃a,aO rI ro 3 v x a/\Le ⟨ro,a⟩ G):=by
 obtain ⟨ad,cap,rfl,le,d,e⟩:=id b;unfold sH at h;split at h
 case isFalse=>cases h
 rename_i hlen;obtain rfl:=Option.some.inj h;clear h;refine aE.go Tryz.func141 rfl Tryz.ntmps141 Tryz.results141 (by simp) fun main J hJ A f hd hs=>?_;have g:=hs 0;clear hs;refine ah hJ ?_;simp only[*,go_sem];cases ad with
 |none=>
  have hu:u0=[]:=by
   cases u0 with
   |nil=>rfl
   |cons x l=>obtain ⟨p,cs,c,_⟩:=e 0 x rfl;cases c
  subst hu;first|refine ah hJ ?_|refine af hJ (ah hJ ?_)
  simp only[*,go_sem];refine bE hJ (by simp only[*,go_sem]) ?_;refine ah hJ ?_;simp only[*,go_sem];refine az ?_;simp only[*,go_sem];exact ⟨[],aO.nil _ _ _,Le.refl _⟩
 |some p=>
  first|refine ah hJ ?_|refine af hJ (ah hJ ?_)
  simp only[*,go_sem];refine bD hJ (by simp only[*,go_sem]) ?_;refine aH hJ ?_;refine ah hJ ?_;simp only[*,go_sem];intro i f1;have r1:=eE f1;try simp only[*,go_sem]
  refine pM r1 trivial rfl hlen b rfl rfl fK fK kY k3 rfl kZ (by decide) (by decide) (fun v a hg j=>aJ ?_);simp only[*,go_sem];refine az ?_;simp only[*,go_sem];exact ⟨a,hg,Le.refl _⟩
def sJ (u0:aj)(i43:Nat)(b:(aj->Option Int))(st:Int):Option (Fl Int (aj×Int)):=
 ag (b u0) fun a=>cond ((a != 0)) (some (.rt ((⟨0,0,(⟨0,0⟩:an),([]:(List bX)),([]:(List cc)),([]:(List bO)),([]:(List bR))⟩:aj),a))) (some (.nx st))
def eP (u0:aj)(b:(List (aj->Option Int))):Option (aj×Int):=
 ag (er u0) fun a=>cond ((a != 0)) (some ((⟨0,0,(⟨0,0⟩:an),([]:(List bX)),([]:(List cc)),([]:(List bO)),([]:(List bR))⟩:aj),a)) (ag (bJ (sJ u0) 0 b 0) fun o=>aD o (fun c=>some (u0,0)) (fun _ _=>none) (fun r=>some r))
theorem ku {ro:Addr->Option Value}(D:c9 ro)(u0:aj){s1 f g i:Value}(b:bL ro u0 s1 f g i)(c:(List (aj->Option Int))){o:Value}(q:aC (c6) ro o c){r:(aj×Int)}(h:eP u0 c=some r):eL Tryz.prog 65 #[bv u0 s1 f g i,o] ro (fun v aM=>∃s w1 w2 w3,v= .tuple #[bv r.1 s w1 w2 w3,.int .i64 r.2]/\bL aM r.1 s w1 w2 w3):=by
 obtain ⟨d31,ae,rfl,al,E,-⟩:=id q;unfold eP at h;have F:=b.oc;simp only[bG] at F;refine aE.go Tryz.func65 rfl Tryz.ntmps65 Tryz.results65 (by simp) fun main J hJ A G hd hs=>?_;have H:=hs 0;have k1:=hs 1;clear hs;refine ah hJ ?_;simp only[*,go_sem];refine aA fun I ao K=>?_;try simp only[au] at K
 refine aA fun L ar M=>?_;try simp only[au] at M
 try simp only[*,go_sem]
 refine af hJ (ah hJ ?_);revert h;refine bS fun a0 N h=>?_;simp only[*,go_sem];refine bn hJ _ (AU (D.mono aR) u0 (b.e.mono aR) (b.p.mono aR) (b.y.mono aR) (b.t.mono aR) N) (aJ ?_);try simp only[*,go_sem]
 refine ah hJ ?_;simp only[*,go_sem];revert h;refine jC hJ (by simp only[*,go_sem]) (fun O h=>?_) fun O h=>?_
 ·obtain rfl:=sI h;refine ah hJ ?_;simp only[*,go_sem];refine az ?_;simp only[*,go_sem];exact ⟨_,Ext.refl _,Le.sub (List.nil_sublist _),_,_,_,_,rfl,⟨aC.nil _ _,aC.nil _ _,aC.nil _ _,aC.nil _ _⟩⟩
 refine aH hJ (af hJ ?_);refine ak hJ ?_;simp only[*,go_sem];refine aA fun P a2 Q=>?_;try simp only[au] at Q
 try simp only[*,go_sem]
 refine af hJ (ah hJ ?_);simp only[*,go_sem];refine aN hJ ?_;revert h;refine bS fun R d u=>?_;refine bT hJ [5,9,10,21,22,23,24,25,26,27,28,29,30,31,32] (fun m w F'=>∃(i43:Nat) (j:Int),m=c.length - i43/\i43<=c.length/\bJ (sJ u0) i43 (c.drop i43) j=some R/\F'=⟨ro,(P,bl u0 s1 f g i)::(L,bz 115)::(I,bk u0 s1 f g i)::[]⟩/\slot w 21= .int .i64 (i43:Int)/\slot w 5= .int .i64 j) c.length ?_ ?_
 ·refine ⟨0,0,(Nat.sub_zero _).symm,Nat.zero_le _,d,rfl,?_⟩;simp only[*,go_sem]
 rintro a3 a4 F' z ⟨i43,j,rfl,a5,d,rfl,a6,a7⟩;obtain ⟨S,T,U⟩:=z.pick [4,7,19,20] (by decide);simp only[*,go_sem] at S T U;clear z G hd H k1;refine ah hJ ?_;simp only[*,go_sem];refine af hJ ?_;rcases Nat.lt_or_ge i43 c.length with V|B
 ·refine bE hJ (by simp only[*,go_sem]) ?_;refine aH hJ ?_;obtain ⟨a8,k⟩:∃x,c[i43]?=some x:=⟨_,List.getElem?_eq_getElem V⟩
  rw[dc k] at d;revert d;refine bS fun a9 h l=>?_;unfold sJ at h;try dsimp only at h
  obtain ⟨ba,bb,W,X,C⟩:=q.el _ _ k;obtain ⟨bc,bd,bj,rfl,Y⟩:=X;cases W;have Z:=C 0 _ rfl;simp only[go_sem] at Z;clear C k;refine af hJ (aN hJ (af hJ ?_));refine ak hJ ?_;simp only[*,go_sem];refine ah hJ ?_;revert h;refine bS fun bm ab h=>?_;simp only[*,go_sem];refine bn hJ _ (Y.2 _ (fun a v h=>aR a v h) u0 _ _ _ _ _ (b.e.mono aR) (b.p.mono aR) (b.y.mono aR) (b.t.mono aR) ab) (aJ ?_);try simp only[*,go_sem]
  refine ah hJ ?_;simp only[*,go_sem];revert h;refine jC hJ (by simp only[*,go_sem]) (fun ad h=>?_) fun ad h=>?_
  ·obtain rfl:=sI h;refine ah hJ ?_;simp only[*,go_sem];obtain rfl:=sI l;clear l;have h:=u;dsimp only[aD] at h;obtain rfl:=sI h;refine az ?_;simp only[*,go_sem];exact ⟨_,Ext.refl _,Le.sub (List.nil_sublist _),_,_,_,_,rfl,⟨aC.nil _ _,aC.nil _ _,aC.nil _ _,aC.nil _ _⟩⟩
  obtain rfl:=sI h;refine aH hJ ?_;have bo:=cq (n:=i43) (by have:=E;omega);refine ak hJ ?_;simp only[*,go_sem];refine ⟨c.length - (i43+1),by omega,_,Le.sub (List.Sublist.refl _),i43+1,j,rfl,by omega,l,rfl,?_⟩;simp only[*,go_sem]
 have br:=Nat.not_lt.2 B;refine bD hJ (by simp only[*,go_sem]) ?_;rw[List.drop_eq_nil_of_le B] at d;obtain rfl:=sI d;clear d;have h:=u;dsimp only[aD] at h;obtain rfl:=sI h;refine bN ?_;simp only[go_sem];refine ah hJ ?_;simp only[*,go_sem];refine az ?_;simp only[*,go_sem];exact ⟨_,Ext.refl _,Le.sub (List.nil_sublist _),_,_,_,_,rfl,b⟩
def v9 (u0:aj)(b:Int):Option (an×Int):=
 ag (eP u0 ([(nL b)])) fun a=>cond ((a.2 != 0)) (some ((⟨0,0⟩:an),a.2)) (ag (iZ a.1 b) fun c=>some (c,0))
theorem GO {ro:Addr->Option Value}(f:c9 ro)(u0:aj){s1 g i j:Value}(k:bL ro u0 s1 g i j)(a:Int){r:(an×Int)}(h:v9 u0 a=some r):aE Tryz.prog 62 #[bv u0 s1 g i j,.int .i64 a] ⟨ro,[]⟩ (fun v _=>v= .tuple #[r.1.v,.int .i64 r.2]):=by
 unfold v9 at h;refine aE.go Tryz.func62 rfl Tryz.ntmps62 Tryz.results62 (by simp) fun main J hJ A V hd hs=>?_;have W:=hs 0;have k1:=hs 1;clear hs;refine ah hJ ?_;simp only[*,go_sem];refine aA fun B C D=>?_;try simp only[au] at D
 refine aA fun E F G=>?_;try simp only[au] at G
 try simp only[*,go_sem]
 refine af hJ ?_;refine aB hJ fun H=>?_;refine ak hJ ?_;revert h;refine bS fun I K h=>?_;simp only[*,go_sem];refine aA fun c m n=>?_;have q:=aP.cons n H;try simp only[au] at n
 try simp only[*,go_sem]
 obtain ⟨l,s,u⟩:=fM (b:=c) (o:=(.cells #[.func (.func 115) #[.int .i64 a] #[]] 127)) [] ((E,rt 0 0)::(B,bk u0 s1 g i j)::[]) q m (aG.cons F (aG.cons C (aG.nil _)));have w:aC (c6) (bU ro c (.cells #[.func (.func 115) #[.int .i64 a] #[]] 127)) (.slice (some ⟨c,0,none⟩) 1 1) [(nL a)]:=(aC.one (r:=(c6)) (e:=127) (cs:=#[.func (.func 115) #[.int .i64 a] #[]]) (x:=(nL a)) (own:=[(c,.cells #[.func (.func 115) #[.int .i64 a] #[]] 127)]) m (by simp[lk]) ⟨115,#[.int .i64 a],#[],rfl,⟨by simp only[go_sem],fun X Y L _ _ _ _ _ M N O P h=>by simp only[go_sem];exact Gl a L ⟨M,N,O,P⟩ h⟩⟩)
 generalize bU ro c (.cells #[.func (.func 115) #[.int .i64 a] #[]] 127)=Z at w s l u;refine gR hJ u ?_;replace k:=k.mono l;replace f:=f.mono l;simp only[bq] at s;have Q:=aP.tl q;refine b6 hJ _ (ku f u0 k ([(nL a)]) w K) fun v ab ad R S=>?_;obtain ⟨ae,al,ao,ar,rfl,d⟩:=S;simp only[bq] at R;obtain ⟨d41,a0,rfl,a2,a3,-⟩:=id d.e;obtain ⟨d48,a4,rfl,a5,a6,-⟩:=id d.p;obtain ⟨d55,a7,rfl,a8,a9,-⟩:=id d.y;obtain ⟨d62,ba,rfl,bb,bc,-⟩:=id d.t;refine aJ ?_;try simp only[*,go_sem]
 refine aA fun bd bj z=>?_;have bl:=aP.cons z Q;try simp only[au] at z
 try simp only[*,go_sem]
 refine af hJ (ah hJ ?_);simp only[*,go_sem];revert h;refine jC hJ (by simp only[*,go_sem]) (fun T h=>?_) fun T h=>?_
 ·obtain rfl:=sI h;refine ah hJ ?_;simp only[*,go_sem];refine az ?_;simp only[*,go_sem]
 refine aH hJ (af hJ ?_);refine ak hJ ?_;revert h;refine bS fun bm U h=>?_;obtain rfl:=sI h;simp only[*,go_sem];refine bn hJ _ (AW I.1 (d.mono aR) a U) (aJ ?_);try simp only[*,go_sem]
 refine az ?_;simp only[*,go_sem]
def we (u0:aj)(b:bf):Option (Int×an×Int):=
 ag (eP u0 ([(eM b)])) fun a=>cond ((a.2 != 0)) (some (0,(⟨0,0⟩:an),a.2)) (ag (lu a.1 b) fun c=>some (c.at_,c.high,0))
theorem GP {ro:Addr->Option Value}(k:c9 ro)(u0:aj){s1 f g i:Value}(j:bL ro u0 s1 f g i)(a:bf){r:(Int×an×Int)}(h:we u0 a=some r):aE Tryz.prog 34 #[bv u0 s1 f g i,.agg #[.int .i64 a.back,.int .i64 a.high]] ⟨ro,[]⟩ (fun v _=>v= .tuple #[.int .i64 r.1,r.2.1.v,.int .i64 r.2.2]):=by
 unfold we at h;have D:=j.oc;simp only[bG] at D;refine aE.go Tryz.func34 rfl Tryz.ntmps34 Tryz.results34 (by simp) fun main J hJ A a2 hd hs=>?_;have a3:=hs 0;have k1:=hs 1;clear hs;refine ah hJ ?_;simp only[*,go_sem];refine aA fun m E F=>?_;try simp only[au] at F
 refine aA fun n G H=>?_;try simp only[au] at H
 refine aA fun I K L=>?_;try simp only[au] at L
 try simp only[*,go_sem]
 refine af hJ ?_;refine aB hJ fun M=>?_;refine ak hJ ?_;revert h;refine bS fun p N h=>?_;simp only[*,go_sem];refine aA fun d q s=>?_;have t:=aP.cons s M;try simp only[au] at s
 try simp only[*,go_sem]
 obtain ⟨l,u,w⟩:=fM (b:=d) (o:=(.cells #[.func (.func 78) #[.agg #[.int .i64 a.back,.int .i64 a.high]] #[]] 127)) [] ((I,rt 0 0)::(n,.cells #[.int .i64 a.back,.int .i64 a.high] 53)::(m,bk u0 s1 f g i)::[]) t q (aG.cons K (aG.cons G (aG.cons E (aG.nil _))));have y:aC (c6) (bU ro d (.cells #[.func (.func 78) #[.agg #[.int .i64 a.back,.int .i64 a.high]] #[]] 127)) (.slice (some ⟨d,0,none⟩) 1 1) [(eM a)]:=(aC.one (r:=(c6)) (e:=127) (cs:=#[.func (.func 78) #[.agg #[.int .i64 a.back,.int .i64 a.high]] #[]]) (x:=(eM a)) (own:=[(d,.cells #[.func (.func 78) #[.agg #[.int .i64 a.back,.int .i64 a.high]] #[]] 127)]) q (by simp[lk]) ⟨78,#[.agg #[.int .i64 a.back,.int .i64 a.high]],#[],rfl,⟨by simp only[go_sem],fun a4 a5 O _ _ _ _ _ P Q R S h=>by simp only[go_sem];exact sd a O ⟨P,Q,R,S⟩ h⟩⟩)
 generalize bU ro d (.cells #[.func (.func 78) #[.agg #[.int .i64 a.back,.int .i64 a.high]] #[]] 127)=a6 at y u l w;refine gR hJ w ?_;replace j:=j.mono l;replace k:=k.mono l;simp only[bq] at u;have T:=aP.tl t;refine b6 hJ _ (ku k u0 j ([(eM a)]) y N) fun v U a7 V W=>?_;obtain ⟨X,Y,Z,ab,rfl,z⟩:=W;have ad:=z.oc;simp only[bG] at ad;simp only[bq] at V;refine aJ ?_;try simp only[*,go_sem]
 refine aA fun ae a8 B=>?_;have al:=aP.cons B T;try simp only[au] at B
 try simp only[*,go_sem]
 refine af hJ (ah hJ ?_);simp only[*,go_sem];revert h;refine jC hJ (by simp only[*,go_sem]) (fun ao h=>?_) fun ao h=>?_
 ·obtain rfl:=sI h;refine ah hJ ?_;simp only[*,go_sem];refine az ?_;simp only[*,go_sem]
 refine aH hJ (af hJ ?_);refine ak hJ ?_;revert h;refine bS fun c ar h=>?_;obtain rfl:=sI h;simp only[*,go_sem];refine bn hJ _ (sx p.1 (z.mono aR) a ar) (aJ ?_);try simp only[*,go_sem]
 refine aA fun a0 a9 C=>?_;have ba:=aP.cons C al;try simp only[au] at C
 try simp only[*,go_sem]
 refine af hJ ?_;refine fc hJ mixed 5 ⟨U,[(a0,.cells #[.int .i64 c.spot.aL,.int .i64 c.spot.high.num,.int .i64 c.spot.high.den,.int .i64 c.at_,.int .i64 c.high.num,.int .i64 c.high.den] 147),(ae,bl p.1 X Y Z ab),(n,.cells #[.int .i64 a.back,.int .i64 a.high] 53),(m,bk u0 s1 f g i)]⟩ (by simp only[*,go_sem]) (by kernel_rfl) ?_;simp only[*,go_sem];refine az ?_;simp only[*,go_sem]
def n5 (u0:aj)(b:bf):Option (an×Int):=
 ag (eP u0 ([(eM b)])) fun a=>cond ((a.2 != 0)) (some ((⟨0,0⟩:an),a.2)) (ag (mH a.1 b) fun c=>some (c,0))
theorem A1 {ro:Addr->Option Value}(f:c9 ro)(u0:aj){s1 g i j:Value}(k:bL ro u0 s1 g i j)(a:bf){r:(an×Int)}(h:n5 u0 a=some r):aE Tryz.prog 22 #[bv u0 s1 g i j,.agg #[.int .i64 a.back,.int .i64 a.high]] ⟨ro,[]⟩ (fun v _=>v= .tuple #[r.1.v,.int .i64 r.2]):=by
 unfold n5 at h;refine aE.go Tryz.func22 rfl Tryz.ntmps22 Tryz.results22 (by simp) fun main J hJ A Y hd hs=>?_;have Z:=hs 0;have k1:=hs 1;clear hs;refine ah hJ ?_;simp only[*,go_sem];refine aA fun B C D=>?_;try simp only[au] at D
 refine aA fun E F G=>?_;try simp only[au] at G
 refine aA fun H I K=>?_;try simp only[au] at K
 try simp only[*,go_sem]
 refine af hJ ?_;refine aB hJ fun L=>?_;refine ak hJ ?_;revert h;refine bS fun M N h=>?_;simp only[*,go_sem];refine aA fun c m n=>?_;have q:=aP.cons n L;try simp only[au] at n
 try simp only[*,go_sem]
 obtain ⟨l,s,u⟩:=fM (b:=c) (o:=(.cells #[.func (.func 78) #[.agg #[.int .i64 a.back,.int .i64 a.high]] #[]] 127)) [] ((H,rt 0 0)::(E,.cells #[.int .i64 a.back,.int .i64 a.high] 53)::(B,bk u0 s1 g i j)::[]) q m (aG.cons I (aG.cons F (aG.cons C (aG.nil _))));have w:aC (c6) (bU ro c (.cells #[.func (.func 78) #[.agg #[.int .i64 a.back,.int .i64 a.high]] #[]] 127)) (.slice (some ⟨c,0,none⟩) 1 1) [(eM a)]:=(aC.one (r:=(c6)) (e:=127) (cs:=#[.func (.func 78) #[.agg #[.int .i64 a.back,.int .i64 a.high]] #[]]) (x:=(eM a)) (own:=[(c,.cells #[.func (.func 78) #[.agg #[.int .i64 a.back,.int .i64 a.high]] #[]] 127)]) m (by simp[lk]) ⟨78,#[.agg #[.int .i64 a.back,.int .i64 a.high]],#[],rfl,⟨by simp only[go_sem],fun ab ad O _ _ _ _ _ P Q R S h=>by simp only[go_sem];exact sd a O ⟨P,Q,R,S⟩ h⟩⟩)
 generalize bU ro c (.cells #[.func (.func 78) #[.agg #[.int .i64 a.back,.int .i64 a.high]] #[]] 127)=ae at w s l u;refine gR hJ u ?_;replace k:=k.mono l;replace f:=f.mono l;simp only[bq] at s;have T:=aP.tl q;refine b6 hJ _ (ku f u0 k ([(eM a)]) w N) fun v al ao U V=>?_;obtain ⟨ar,a0,a2,a3,rfl,d⟩:=V;simp only[bq] at U;obtain ⟨d42,a4,rfl,a5,a6,-⟩:=id d.e;obtain ⟨d49,a7,rfl,a8,a9,-⟩:=id d.p;obtain ⟨d56,ba,rfl,bb,bc,-⟩:=id d.y;obtain ⟨d63,bd,rfl,bj,bl,-⟩:=id d.t;refine aJ ?_;try simp only[*,go_sem]
 refine aA fun bm bo z=>?_;have br:=aP.cons z T;try simp only[au] at z
 try simp only[*,go_sem]
 refine af hJ (ah hJ ?_);simp only[*,go_sem];revert h;refine jC hJ (by simp only[*,go_sem]) (fun W h=>?_) fun W h=>?_
 ·obtain rfl:=sI h;refine ah hJ ?_;simp only[*,go_sem];refine az ?_;simp only[*,go_sem]
 refine aH hJ (af hJ ?_);refine ak hJ ?_;revert h;refine bS fun bs X h=>?_;obtain rfl:=sI h;simp only[*,go_sem];refine bn hJ _ (AV M.1 (d.mono aR) a X) (aJ ?_);try simp only[*,go_sem]
 refine az ?_;simp only[*,go_sem]
def wh (u0:aj)(c:bf):Option (an×Bool×Int):=
 ag (eP u0 ([(eM c)])) fun b=>cond ((b.2 != 0)) (some ((⟨0,0⟩:an),false,b.2)) (ag (jB b.1 c) fun a=>cond (((a.length:Int)==0)) (some ((⟨0,0⟩:an),false,0)) (ag (aY a 0) fun d=>ag (iT a 1 (a.length:Int)) fun e=>ag (mC iX d e) fun f=>some (f.high,true,0)))
theorem GQ {ro:Addr->Option Value}(l:c9 ro)(u0:aj){s1 f g i:Value}(j:bL ro u0 s1 f g i)(a:bf){r:(an×Bool×Int)}(h:wh u0 a=some r):aE Tryz.prog 52 #[bv u0 s1 f g i,.agg #[.int .i64 a.back,.int .i64 a.high]] ⟨ro,[]⟩ (fun v _=>v= .tuple #[r.1.v,.bool r.2.1,.int .i64 r.2.2]):=by
 unfold wh at h;have N:=j.oc;simp only[bG] at N;refine aE.go Tryz.func52 rfl Tryz.ntmps52 Tryz.results52 (by simp) fun main J hJ A cu hd hs=>?_;have cy:=hs 0;have k1:=hs 1;clear hs;refine ah hJ ?_;simp only[*,go_sem];refine aA fun s O P=>?_;try simp only[au] at P
 refine aA fun t Q R=>?_;try simp only[au] at R
 refine aA fun S T U=>?_;try simp only[au] at U
 try simp only[*,go_sem]
 refine af hJ ?_;refine aB hJ fun V=>?_;refine ak hJ ?_;revert h;refine bS fun u W h=>?_;simp only[*,go_sem];refine aA fun d w y=>?_;have z:=aP.cons y V;try simp only[au] at y
 try simp only[*,go_sem]
 obtain ⟨m,B,C⟩:=fM (b:=d) (o:=(.cells #[.func (.func 78) #[.agg #[.int .i64 a.back,.int .i64 a.high]] #[]] 127)) [] ((S,rt 0 0)::(t,.cells #[.int .i64 a.back,.int .i64 a.high] 53)::(s,bk u0 s1 f g i)::[]) z w (aG.cons T (aG.cons Q (aG.cons O (aG.nil _))));have D:aC (c6) (bU ro d (.cells #[.func (.func 78) #[.agg #[.int .i64 a.back,.int .i64 a.high]] #[]] 127)) (.slice (some ⟨d,0,none⟩) 1 1) [(eM a)]:=(aC.one (r:=(c6)) (e:=127) (cs:=#[.func (.func 78) #[.agg #[.int .i64 a.back,.int .i64 a.high]] #[]]) (x:=(eM a)) (own:=[(d,.cells #[.func (.func 78) #[.agg #[.int .i64 a.back,.int .i64 a.high]] #[]] 127)]) w (by simp[lk]) ⟨78,#[.agg #[.int .i64 a.back,.int .i64 a.high]],#[],rfl,⟨by simp only[go_sem],fun X Y n _ _ _ _ _ Z ab ad ae h=>by simp only[go_sem];exact sd a n ⟨Z,ab,ad,ae⟩ h⟩⟩)
 generalize bU ro d (.cells #[.func (.func 78) #[.agg #[.int .i64 a.back,.int .i64 a.high]] #[]] 127)=cS at D B m C;refine gR hJ C ?_;replace j:=j.mono m;replace l:=l.mono m;simp only[bq] at B;have al:=aP.tl z;refine b6 hJ _ (ku l u0 j ([(eM a)]) D W) fun v c0 da ao p=>?_;obtain ⟨ar,a0,a2,a3,rfl,E⟩:=p;have a4:=E.oc;simp only[bG] at a4;simp only[bq] at ao;refine aJ ?_;try simp only[*,go_sem]
 refine aA fun a5 db G=>?_;have dd:=aP.cons G al;try simp only[au] at G
 try simp only[*,go_sem]
 refine af hJ (ah hJ ?_);simp only[*,go_sem];revert h;refine jC hJ (by simp only[*,go_sem]) (fun a6 h=>?_) fun a6 h=>?_
 ·obtain rfl:=sI h;refine ah hJ ?_;simp only[*,go_sem];refine az ?_;simp only[*,go_sem]
 refine aH hJ (af hJ ?_);refine ak hJ ?_;revert h;refine bS fun k a7 h=>?_;simp only[*,go_sem];refine b6 hJ _ (vR u.1 E a a7) fun v a8 df a9 p=>?_;obtain ⟨dk,rfl,q⟩:=p;simp only[bq] at a9;obtain ⟨d84,ba,rfl,dp,dq,-⟩:=id q;refine aJ ?_;try simp only[*,go_sem]
 refine af hJ (ah hJ ?_);simp only[*,go_sem];revert h;refine jC hJ (by simp only[*,go_sem]) (fun bb h=>?_) fun bb h=>?_
 ·obtain rfl:=sI h;refine ah hJ ?_;simp only[*,go_sem];refine az ?_;simp only[*,go_sem]
 refine aH hJ (af hJ ?_);refine fc hJ mixed 7 ⟨a8,[(a5,bl u.1 ar a0 a2 a3),(t,.cells #[.int .i64 a.back,.int .i64 a.high] 53),(s,bk u0 s1 f g i)]⟩ (by simp only[*,go_sem]) (by kernel_rfl) ?_;revert h;refine bS fun H bc h=>?_;obtain ⟨ds,dt,I⟩:=cE bc;obtain ⟨du,bd,bj,bm,c⟩:=q.el _ _ I;obtain rfl:bd=H.cells:=bm;cases bj;have bo:=c 0 _ rfl;simp only[go_sem] at bo;have br:=c 1 _ rfl;simp only[go_sem] at br;have bs:=c 2 _ rfl;simp only[go_sem] at bs;have bz:=c 3 _ rfl;simp only[go_sem] at bz;have b0:=c 4 _ rfl;simp only[go_sem] at b0;have b1:=c 5 _ rfl;simp only[go_sem] at b1;clear c I;revert h;refine bS fun b2 b3 h=>?_;obtain ⟨dv,dC,dE,K⟩:=pq b3;have L:(1:Int).toNat<=((k.length:Int)).toNat:=by omega
 have b4:((k.length:Int)).toNat<=ba:=by omega
 have dT:0<=((k.length:Int)):=by omega
 obtain ⟨d94,b5,ca,M⟩:=aC.pG q (1:Int).toNat ((k.length:Int)).toNat L (by omega) K;simp only[go_sem] at b5 ca L b4;obtain ⟨_,_,cb,ea,eb,ec⟩:=id M;cases cb;clear K;revert h;refine bS fun ed cd h=>?_;obtain rfl:=sI h;try simp only[*,go_sem]
 refine ⟨_,bC hJ fun F cf=>sj (dK:=88) (ee:=#[]) (ef:=#[]) iX ⟨by simp only[go_sem],fun X Y n cl _ h=>by simp only[go_sem];exact r9 n cl h⟩ H b2 (M.mono (b9 cf)) cd,b7 ?_⟩;try simp only[*,go_sem]
 refine az ?_;simp only[*,go_sem]
def mN (u0:aj)(b:bf):Option (an×Bool×Int):=
 ag (eP u0 ([(eM b)])) fun a=>cond ((a.2 != 0)) (some ((⟨0,0⟩:an),false,a.2)) (ag (kr a.1 b) fun c=>ag (gh a.1 b) fun d=>some (c,d,0))
theorem wj {ro:Addr->Option Value}(j:c9 ro)(u0:aj){s1 d f g:Value}(i:bL ro u0 s1 d f g)(a:bf){r:(an×Bool×Int)}(h:mN u0 a=some r):aE Tryz.prog 25 #[bv u0 s1 d f g,.agg #[.int .i64 a.back,.int .i64 a.high]] ⟨ro,[]⟩ (fun v _=>v= .tuple #[r.1.v,.bool r.2.1,.int .i64 r.2.2]):=by
 unfold mN at h;have C:=i.oc;simp only[bG] at C;refine aE.go Tryz.func25 rfl Tryz.ntmps25 Tryz.results25 (by simp) fun main J hJ A a0 hd hs=>?_;have a2:=hs 0;have k1:=hs 1;clear hs;refine ah hJ ?_;simp only[*,go_sem];refine aA fun p D E=>?_;try simp only[au] at E
 refine aA fun q G H=>?_;try simp only[au] at H
 refine aA fun I K L=>?_;try simp only[au] at L
 try simp only[*,go_sem]
 refine af hJ ?_;refine aB hJ fun M=>?_;refine ak hJ ?_;revert h;refine bS fun k N h=>?_;simp only[*,go_sem];refine aA fun c s t=>?_;have u:=aP.cons t M;try simp only[au] at t
 try simp only[*,go_sem]
 obtain ⟨l,w,y⟩:=fM (b:=c) (o:=(.cells #[.func (.func 78) #[.agg #[.int .i64 a.back,.int .i64 a.high]] #[]] 127)) [] ((I,rt 0 0)::(q,.cells #[.int .i64 a.back,.int .i64 a.high] 53)::(p,bk u0 s1 d f g)::[]) u s (aG.cons K (aG.cons G (aG.cons D (aG.nil _))));have z:aC (c6) (bU ro c (.cells #[.func (.func 78) #[.agg #[.int .i64 a.back,.int .i64 a.high]] #[]] 127)) (.slice (some ⟨c,0,none⟩) 1 1) [(eM a)]:=(aC.one (r:=(c6)) (e:=127) (cs:=#[.func (.func 78) #[.agg #[.int .i64 a.back,.int .i64 a.high]] #[]]) (x:=(eM a)) (own:=[(c,.cells #[.func (.func 78) #[.agg #[.int .i64 a.back,.int .i64 a.high]] #[]] 127)]) s (by simp[lk]) ⟨78,#[.agg #[.int .i64 a.back,.int .i64 a.high]],#[],rfl,⟨by simp only[go_sem],fun a3 a4 O _ _ _ _ _ P Q R S h=>by simp only[go_sem];exact sd a O ⟨P,Q,R,S⟩ h⟩⟩)
 generalize bU ro c (.cells #[.func (.func 78) #[.agg #[.int .i64 a.back,.int .i64 a.high]] #[]] 127)=a5 at z w l y;refine gR hJ y ?_;replace i:=i.mono l;replace j:=j.mono l;simp only[bq] at w;have T:=aP.tl u;refine b6 hJ _ (ku j u0 i ([(eM a)]) z N) fun v U a6 V W=>?_;obtain ⟨X,Y,Z,ab,rfl,m⟩:=W;have ad:=m.oc;simp only[bG] at ad;simp only[bq] at V;refine aJ ?_;try simp only[*,go_sem]
 refine aA fun ae a7 B=>?_;have a8:=aP.cons B T;try simp only[au] at B
 try simp only[*,go_sem]
 refine af hJ (ah hJ ?_);simp only[*,go_sem];revert h;refine jC hJ (by simp only[*,go_sem]) (fun al h=>?_) fun al h=>?_
 ·obtain rfl:=sI h;refine ah hJ ?_;simp only[*,go_sem];refine az ?_;simp only[*,go_sem]
 refine aH hJ (af hJ ?_);refine fc hJ mixed 6 ⟨U,[(ae,bl k.1 X Y Z ab),(q,.cells #[.int .i64 a.back,.int .i64 a.high] 53),(p,bk u0 s1 d f g)]⟩ (by simp only[*,go_sem]) (by kernel_rfl) ?_;revert h;refine bS fun a9 ao h=>?_;simp only[*,go_sem];refine ⟨_,bC hJ fun F n=>sA k.1 (m.mono (b9 n)) a ao,b7 ?_⟩;revert h;refine bS fun ba ar h=>?_;obtain rfl:=sI h;try simp only[*,go_sem]
 refine ⟨_,bC hJ fun F n=>mK k.1 (m.mono (b9 n)) a ar,?_⟩;try simp only[*,go_sem]
 refine az ?_;simp only[*,go_sem]
def wm (a:aT)(st:Bool):Option (Fl Bool Unit):=
 some (.br 1000000000 true)
def sK (u0:aj):Option Bool:=
 ag (gb (wm) (mM u0) false) fun o=>aD o (fun b=>some false) (fun k a=>cond (k==1000000000) (some a) (none)) (fun _=>none)
theorem A2 {ro:Addr->Option Value}(u0:aj){s1 c d g:Value}(k:bL ro u0 s1 c d g){r:Bool}(h:sK u0=some r):aE Tryz.prog 103 #[bv u0 s1 c d g] ⟨ro,[]⟩ (fun v _=>v= .bool r):=by
 unfold sK at h;refine aE.vN Tryz.func103 rfl Tryz.ntmps103 Tryz.results103 (by simp) fun main J hJ A D hd hs=>?_;have E:=hs 0;clear hs;refine ah hJ ?_;simp only[*,go_sem];refine aA fun n x F=>?_;try simp only[au] at F
 refine aA fun l z G=>?_;try simp only[au] at G
 try simp only[*,go_sem]
 refine af hJ (ah hJ ?_);simp only[*,go_sem];revert h;refine bS fun Q H o=>?_;refine vM hJ aT.v (by simp only[*,go_sem]) (sF u0 k.e k.p k.y k.t) (by kernel_rfl) (by kernel_rfl) (ρ:=Unit) (fun (I:Bool) K=>K=(l,.cells #[.bool I] 4)::(n,bl u0 s1 c d g)::[]) (f:=wm) H ?_ ?_ (by decide) ?_ ?_
 ·exact rfl
 ·rintro d33 L q M s u R h main J hJ _ rfl;unfold wm at h;try dsimp only at h
  obtain rfl:=sI h;generalize i:mA _ _ _=m;have S:sz m=6:=by rw[<-i,vL];simp only[*,go_sem]
  have T:m.defers=[]:=by rw[<-i];rfl
  have U:slot m 2= .pointer (some ⟨l,0,none⟩):=by rw[<-i,nG];simp only[*,go_sem]
  have V:slot m 5= .agg #[.int .i64 u.e0,.int .i64 u.e1,.int .i64 u.e2]:=by rw[<-i,nG];simp only[*,go_sem]
  clear i D hd E;refine fe hJ fun b a=>?_;replace a:aG ro ((L,.loop q)::(d33,.deferred (some []))::(l,.cells #[.bool s] 4)::(n,bl u0 s1 c d g)::[]):=a;have W:=a.hd;have X:=a.tl.hd;have z:=a.tl.tl.hd;have x:=a.tl.tl.tl.hd;clear a;replace b:=b.nd;simp only[keys,List.map_cons,List.map_nil,List.map_append,List.cons_append,List.nil_append,List.nodup_cons,List.mem_cons,List.mem_append,List.not_mem_nil,or_false,not_or] at b;refine aH hJ ?_;simp only[pO,go_sem];refine ⟨q,by simp only[*,go_sem],M,?_⟩;try simp only[*,go_sem]
  refine aN hJ (af hJ ?_);refine ak hJ ?_;simp only[*,go_sem];refine az ?_;simp only[r4,mq,go_sem];refine ⟨{q with state:=.busy},by simp only[*,go_sem],?_⟩;simp only[*,go_sem];refine ⟨_,Le.sub (List.Sublist.refl _),rfl,rfl⟩
 ·rintro N O P _ s rfl b a;replace a:aG ro ((O,.loop P)::(N,.deferred (some []))::(l,.cells #[.bool s] 4)::(n,bl u0 s1 c d g)::[]):=a;have Y:=a.hd;have Z:=a.tl.hd;have z:=a.tl.tl.hd;have x:=a.tl.tl.tl.hd;clear a;replace b:=b.nd;simp only[keys,List.map_cons,List.map_nil,List.map_append,List.cons_append,List.nil_append,List.nodup_cons,List.mem_cons,List.mem_append,List.not_mem_nil,or_false,not_or] at b;refine ⟨fun j=>?_,fun k1 j=>?_⟩
  ·subst j;have h:=o;dsimp only[aD] at h;obtain rfl:=sI h;refine ah hJ ?_;simp only[*,go_sem];refine aB hJ fun w=>?_;replace w:=w.nd;(try simp only[keys,List.map_cons,List.map_nil,List.map_append,List.cons_append,List.nil_append,List.nodup_cons,List.mem_cons,List.mem_append,List.not_mem_nil,or_false,not_or] at w);refine az ?_;simp only[*,go_sem]
  subst j;have h:=o;dsimp only[aD] at h;revert h;refine cS (fun B h=>?_) fun B h=>?_
  ·obtain rfl:=sI h;obtain rfl:k1=1000000000:=by simpa using B
   unfold vK;rw[if_pos (show (1000000000:Nat)=r6 from rfl)];simp only[*,go_sem]
  cases h
 intro k1 ab j;subst j;have h:=o;dsimp only[aD] at h;revert h;refine cS (fun C h=>?_) fun C h=>?_
 ·obtain rfl:k1=1000000000:=by simpa using C
  decide
 cases h
def n6 (a:aT)(st:(List aT)):Option (Fl (List aT) Unit):=
 ag (c8 st ([a])) fun b=>some (.nx b)
def sL (a:(List (Option aT))):Option (List aT):=
 ag (gb (n6) a ([]:List aT)) fun o=>aD o (fun b=>some b) (fun k c=>none) (fun _=>none)
theorem GR {ro:Addr->Option Value}(u:(List (Option aT))){dw:FuncId}{dV dW:Array Value}(K:mw Tryz.prog dw dV dW aT.v u ro){r:(List aT)}(h:sL u=some r):eL Tryz.prog 147 #[.slice none 0 0,.func (.func dw) dV dW] ro (fun v aM=>∃w,v=w/\aC gS aM w r):=by
 unfold sL at h;refine aE.vN Tryz.func147 rfl Tryz.ntmps147 Tryz.results147 (by simp) fun main J hJ A L hd hs=>?_;have M:=hs 0;have k1:=hs 1;clear hs;refine ah hJ ?_;simp only[*,go_sem,-h];refine aA fun e r1 n1=>?_;try simp only[au] at n1
 try simp only[*,go_sem,-h]
 refine af hJ (ah hJ ?_);simp only[*,go_sem,-h];revert h;refine bS fun ar N o=>?_;have h:=trivial;refine vM hJ aT.v (by simp only[*,go_sem]) K (by kernel_rfl) (by kernel_rfl) (ρ:=Unit) (fun (m:(List aT)) O=>∃(d7:Option Addr) (c:Nat) (d:List (Nat×Obj)),O=(e,.cells #[.slice d7 m.length c] 122)::d/\aO gS ro 121 (.slice d7 m.length c) m d/\m.length<=c) (f:=n6) N ?_ ?_ (by decide) ?_ ?_
 ·exact ⟨none,0,[],rfl,aO.nil _ _ _,Nat.le_refl _⟩
 ·rintro d4 p i P v6 a a0 h main J hJ _ ⟨d7,c,d,rfl,q,Q⟩;unfold n6 at h;try dsimp only at h
  generalize j:mA _ _ _=n;have a2:sz n=13:=by rw[<-j,vL];simp only[*,go_sem]
  have a3:n.defers=[]:=by rw[<-j];rfl
  have a4:slot n 2= .pointer (some ⟨e,0,none⟩):=by rw[<-j,nG];simp only[*,go_sem]
  have a5:slot n 7= .agg #[.int .i64 a.e0,.int .i64 a.e1,.int .i64 a.e2]:=by rw[<-j,nG];simp only[*,go_sem]
  clear j L hd M k1;refine fe hJ fun g b=>?_;replace b:aG ro ((p,.loop i)::(d4,.deferred (some []))::(e,.cells #[.slice d7 v6.length c] 122)::d):=b;have r3:=b.hd;have a6:=b.tl.hd;have r1:=b.tl.tl.hd;clear b;replace g:=g.nd;simp only[keys,List.map_cons,List.map_nil,List.map_append,List.cons_append,List.nil_append,List.nodup_cons,List.mem_cons,List.mem_append,List.not_mem_nil,or_false,not_or] at g;refine aB hJ fun R=>?_;refine ak hJ ?_;simp only[*,go_sem,-h];refine aA fun y a7 z=>?_;have a8:=aP.cons z R;try simp only[au] at z
  try simp only[*,go_sem,-h]
  simp only[pO,go_sem];refine ⟨i,by simp only[*,go_sem],P,?_⟩;try simp only[*,go_sem,-h]
  refine aN hJ ?_;refine aB hJ fun S=>?_;refine ak hJ ?_;revert h;refine bS fun a9 T h=>?_;obtain ⟨U,B⟩:=dr T;simp only[*,go_sem,-h];refine aA fun C V D=>?_;have W:=aP.cons D S;try simp only[au] at D
  try simp only[*,go_sem,-h]
  refine dZ (r:=gS) (l:=v6) (x:=a) (cs:=#[.int .i64 a.e0,.int .i64 a.e1,.int .i64 a.e2]) (e2:=121) [(C,.cells #[.int .i64 a.e0,.int .i64 a.e1,.int .i64 a.e2] 121),(y,.cells #[.int .i64 a.e0,.int .i64 a.e1,.int .i64 a.e2] 121),(p,.loop {i with state:=.busy}),(d4,.deferred (some [])),(e,.cells #[.slice d7 v6.length c] 122)] [] q W U rfl (by simp only[*,go_sem,-h]) V rfl rfl Ad Ad E9 Fb rfl Fa (by decide) (by decide) (fun ba E s d X bb=>?_);simp only[aX] at X;subst d;rw[<-B] at s;clear B;obtain ⟨d28,Y,rfl,Z⟩:=s.len;refine ⟨⟨ro,(C,.cells #[.int .i64 a.e0,.int .i64 a.e1,.int .i64 a.e2] 121)::(y,.cells #[.int .i64 a.e0,.int .i64 a.e1,.int .i64 a.e2] 121)::(p,.loop {i with state:=.busy})::(d4,.deferred (some []))::(e,.cells #[.slice d7 v6.length c] 122)::E⟩,Le.refl _,?_⟩;refine aJ ?_;try simp only[*,go_sem,-h]
  obtain rfl:=sI h;simp only[r4,mq,go_sem];refine ⟨{i with state:=.busy},by simp only[*,go_sem],?_⟩;simp only[*,go_sem];refine ⟨_,Le.sub (List.Sublist.cons _ (List.Sublist.cons _ (List.Sublist.refl _))),rfl,d28,Y,E,rfl,s,Z⟩
 ·rintro d49 F G _ v6 ⟨d7,c,d,rfl,q,Q⟩ g b;replace b:aG ro ((F,.loop G)::(d49,.deferred (some []))::(e,.cells #[.slice d7 v6.length c] 122)::d):=b;have ab:=b.hd;have ad:=b.tl.hd;have r1:=b.tl.tl.hd;clear b;replace g:=g.nd;simp only[keys,List.map_cons,List.map_nil,List.map_append,List.cons_append,List.nil_append,List.nodup_cons,List.mem_cons,List.mem_append,List.not_mem_nil,or_false,not_or] at g;refine ⟨fun k=>?_,fun k1 k=>?_⟩
  ·subst k;have h:=o;dsimp only[aD] at h;refine af hJ ?_;refine aB hJ fun bc=>?_;refine ak hJ ?_;simp only[*,go_sem,-h];obtain rfl:=sI h;refine aB hJ fun H=>?_;obtain ⟨bd,ae,al,I,ao⟩:=q.e4 [(F,.loop G),(d49,.deferred (some [])),(e,.cells #[.slice d7 v6.length c] 122)] [] H (aG.cons ab (aG.cons ad (aG.cons r1 (aG.nil _))));clear H;refine cp hJ ao ?_;obtain ⟨bj,bk,-⟩:=I.op;simp only[bq] at al;refine aB hJ fun t=>?_;replace t:=t.nd;(try simp only[keys,List.map_cons,List.map_nil,List.map_append,List.cons_append,List.nil_append,List.nodup_cons,List.mem_cons,List.mem_append,List.not_mem_nil,or_false,not_or] at t);refine az ?_;simp only[*,go_sem];exact ⟨_,ae,Le.sub (List.nil_sublist _),_,rfl,I⟩
  subst k;have h:=o;dsimp only[aD] at h;cases h
 intro k1 bl k;subst k;have h:=o;dsimp only[aD] at h;cases h
def qe (u0:(List (Option aT))):Option (List aT):=
 ag (sL u0) fun a=>some a
theorem A3 {ro:Addr->Option Value}(u0:(List (Option aT))){dK:FuncId}{ee ef:Array Value}(c:mw Tryz.prog dK ee ef aT.v u0 ro){r:(List aT)}(h:qe u0=some r):eL Tryz.prog 119 #[.func (.func dK) ee ef] ro (fun v aM=>∃a,v=a/\aC gS aM a r):=by
 unfold qe at h;refine aE.go Tryz.func119 rfl Tryz.ntmps119 Tryz.results119 (by simp) fun main J hJ A g hd hs=>?_;have i:=hs 0;clear hs;refine ah hJ ?_;simp only[*,go_sem];refine ah hJ ?_;revert h;refine bS fun j d h=>?_;obtain rfl:=sI h;simp only[*,go_sem];refine b6 hJ _ (GR (dw:=dK) (dV:=ee) (dW:=ef) u0 c d) fun v k e l f=>?_;obtain ⟨m,rfl,b⟩:=f;obtain ⟨d8,n,rfl,o,p,-⟩:=id b;refine aJ ?_;try simp only[*,go_sem]
 refine az ?_;simp only[*,go_sem];exact ⟨_,e,Le.sub (List.nil_sublist _),_,rfl,b⟩
def fP (u0:aj)(c:(List (aj->Option Int))):Option (cR×Int):=
 ag (eP u0 c) fun a=>cond ((a.2 != 0)) (some ((⟨(⟨0,0,(⟨0,0⟩:an),([]:(List bX)),([]:(List cc)),([]:(List bO)),([]:(List bR))⟩:aj),([]:(List aT))⟩:cR),a.2)) (ag (qe (mM a.1)) fun b=>cond (((b.length:Int)==0)) (some ((⟨(⟨0,0,(⟨0,0⟩:an),([]:(List bX)),([]:(List cc)),([]:(List bO)),([]:(List bR))⟩:aj),([]:(List aT))⟩:cR),9)) (some ((⟨a.1,b⟩:cR),0)))
theorem jF {ro:Addr->Option Value}(N:c9 ro)(u0:aj){s1 c d f:Value}(G:bL ro u0 s1 c d f)(B:(List (aj->Option Int))){H:Value}(I:aC (c6) ro H B){r:(cR×Int)}(h:fP u0 B=some r):eL Tryz.prog 67 #[bv u0 s1 c d f,H] ro (fun v aM=>∃K w1 w2 w3 w4,v= .tuple #[.agg #[.int .i64 r.1.book.bH,.int .i64 r.1.book.bK,.int .i64 r.1.book.aS.num,.int .i64 r.1.book.aS.den,K,w1,w2,w3,w4],.int .i64 r.2]/\bL aM r.1.book K w1 w2 w3/\aC gS aM w4 r.1.all):=by
 obtain ⟨d31,ae,rfl,al,ao,-⟩:=id I;unfold fP at h;have O:=G.oc;simp only[bG] at O;refine aE.go Tryz.func67 rfl Tryz.ntmps67 Tryz.results67 (by simp) fun main J hJ A ar hd hs=>?_;have a0:=hs 0;have k1:=hs 1;clear hs;refine ah hJ ?_;simp only[*,go_sem];refine aA fun C g P=>?_;try simp only[au] at P
 refine aA fun D i Q=>?_;try simp only[au] at Q
 try simp only[*,go_sem]
 refine ah hJ ?_;revert h;refine bS fun b R h=>?_;simp only[*,go_sem];refine b6 hJ _ (ku N u0 G B I R) fun v S j E k=>?_;obtain ⟨m,n,o,q,rfl,a⟩:=k;have T:=a.oc;simp only[bG] at T;replace i:=E.hd;replace g:=E.tl.hd;simp only[bq] at E;refine aJ ?_;try simp only[*,go_sem]
 refine aA fun F s U=>?_;try simp only[au] at U
 try simp only[*,go_sem]
 refine af hJ (ah hJ ?_);simp only[*,go_sem];revert h;refine jC hJ (by simp only[*,go_sem]) (fun V h=>?_) fun V h=>?_
 ·obtain rfl:=sI h;refine ah hJ ?_;simp only[*,go_sem];refine az ?_;simp only[*,go_sem];exact ⟨_,j,Le.sub (List.nil_sublist _),_,_,_,_,_,rfl,⟨aC.nil _ _,aC.nil _ _,aC.nil _ _,aC.nil _ _⟩,aC.nil _ _⟩
 refine aH hJ (af hJ ?_);refine eG hJ mixed [] (.rd 0 (.rd 1 (.pure 2 (.two 3 (.pure 4 (.one 5 (.one 6 .done))) 5 (.one 3 (.pure 4 (.one 6 .done))))))) ⟨S,[(F,bl b.1 m n o q),(D,.cells #[.int .i64 0,.int .i64 0,.int .i64 0,.int .i64 0,.slice none 0 0,.slice none 0 0,.slice none 0 0,.slice none 0 0,.slice none 0 0] 124),(C,bk u0 s1 c d f)]⟩ (by simp only[*,go_sem]) (by kernel_rfl) ?_;simp only[*,go_sem];refine jx ?_ ?_
 ·revert h;refine bS fun a2 W h=>?_;simp only[*,go_sem];refine b6 hJ _ (A3 (dK:=66) (ee:=#[bv b.1 m n o q]) (ef:=#[]) (mM b.1) (sF b.1 a.e a.p a.y a.t) W) fun v a3 u w k=>?_;obtain ⟨a4,rfl,L⟩:=k;replace a:=a.mono u;replace s:=w.hd;replace i:=w.tl.hd;replace g:=w.tl.tl.hd;simp only[bq] at w;obtain ⟨d80,a5,rfl,a6,a7,-⟩:=id L;have a8:=eH (l:=[(F,bl b.1 m n o q),(D,.cells #[.int .i64 0,.int .i64 0,.int .i64 0,.int .i64 0,.slice none 0 0,.slice none 0 0,.slice none 0 0,.slice none 0 0,.slice none 0 0] 124),(C,bk u0 s1 c d f)]) u (aG.cons s (aG.cons i (aG.cons g (aG.nil _))));refine ⟨by simp only[*,go_sem],?_⟩;refine bW ?_;try simp only[*,go_sem]
  refine aA fun a9 ba X=>?_;try simp only[au] at X
  try simp only[*,go_sem]
  refine af hJ (ah hJ ?_);simp only[*,go_sem];revert h;refine jC hJ (by simp only[*,go_sem]) (fun Y h=>?_) fun Y h=>?_
  ·obtain rfl:=sI h;refine ah hJ ?_;simp only[*,go_sem];refine az ?_;simp only[*,go_sem];exact ⟨_,(j).trans u,Le.sub (List.nil_sublist _),_,_,_,_,_,rfl,⟨aC.nil _ _,aC.nil _ _,aC.nil _ _,aC.nil _ _⟩,aC.nil _ _⟩
  obtain rfl:=sI h;refine aH hJ (af hJ ?_);refine ak hJ ?_;simp only[*,go_sem];refine az ?_;simp only[*,go_sem];exact ⟨_,(j).trans u,Le.sub (List.nil_sublist _),_,_,_,_,_,rfl,a,L⟩
 revert h;refine bS fun bb Z h=>?_;simp only[*,go_sem];refine aA fun bc bd ab=>?_;try simp only[au] at ab
 try simp only[*,go_sem]
 refine b6 hJ _ (A3 (dK:=66) (ee:=#[bv b.1 m n o q]) (ef:=#[]) (mM b.1) (sF b.1 a.e a.p a.y a.t) Z) fun v bj x z k=>?_;obtain ⟨bm,rfl,M⟩:=k;replace a:=a.mono x;replace s:=z.tl.hd;replace i:=z.tl.tl.hd;replace g:=z.tl.tl.tl.hd;simp only[bq] at z;obtain ⟨d96,bo,rfl,br,bs,-⟩:=id M;have bz:=eH (l:=[(F,bl b.1 m n o q),(D,.cells #[.int .i64 0,.int .i64 0,.int .i64 0,.int .i64 0,.slice none 0 0,.slice none 0 0,.slice none 0 0,.slice none 0 0,.slice none 0 0] 124),(C,bk u0 s1 c d f)]) x (aG.cons s (aG.cons i (aG.cons g (aG.nil _))));refine ⟨by simp only[*,go_sem],?_⟩;refine bW ?_;try simp only[*,go_sem]
 refine af hJ (ah hJ ?_);simp only[*,go_sem];revert h;refine jC hJ (by simp only[*,go_sem]) (fun ad h=>?_) fun ad h=>?_
 ·obtain rfl:=sI h;refine ah hJ ?_;simp only[*,go_sem];refine az ?_;simp only[*,go_sem];exact ⟨_,(j).trans x,Le.sub (List.nil_sublist _),_,_,_,_,_,rfl,⟨aC.nil _ _,aC.nil _ _,aC.nil _ _,aC.nil _ _⟩,aC.nil _ _⟩
 obtain rfl:=sI h;refine aH hJ (af hJ ?_);refine ak hJ ?_;simp only[*,go_sem];refine az ?_;simp only[*,go_sem];exact ⟨_,(j).trans x,Le.sub (List.nil_sublist _),_,_,_,_,_,rfl,a,M⟩
def wo (a:Int)(i56:Nat)(b:Int)(st:(List cc)):Option (Fl (List cc) aj):=
 ag (c8 st ([(⟨b,a⟩:cc)])) fun c=>some (.nx c)
def sM (u0:aj)(a:Int)(b:(List Int)):Option aj:=
 ag (qd u0.props) fun c=>ag (bJ (wo a) 0 b c) fun o=>aD o (fun d=>some (⟨u0.bH,u0.bK,u0.aS,u0.ax,d,u0.av,u0.told⟩:aj)) (fun _ _=>none) (fun r=>some r)
theorem GU {ro:Addr->Option Value}(u0:aj){s1 s b c:Value}(g:bL ro u0 s1 s b c)(i:Int)(d:(List Int)){D:Value}(E:aC rI ro D d){r:aj}(h:sM u0 i d=some r):eL Tryz.prog 135 #[bv u0 s1 s b c,.int .i64 i,D] ro (fun v aM=>∃F w1 w2 w3,v=bv r F w1 w2 w3/\bL aM r F w1 w2 w3):=by
 obtain ⟨d31,b4,rfl,b5,U,-⟩:=id E;unfold sM at h;have V:=g.oc;simp only[bG] at V;refine aE.go Tryz.func135 rfl Tryz.ntmps135 Tryz.results135 (by simp) fun main J hJ A W hd hs=>?_;have X:=hs 0;have k1:=hs 1;have Y:=hs 2;clear hs;refine ah hJ ?_;simp only[*,go_sem];refine aA fun k Z ab=>?_;try simp only[au] at ab
 refine aA fun o ad ae=>?_;try simp only[au] at ae
 try simp only[*,go_sem]
 refine af hJ ?_;refine aB hJ fun ca=>?_;refine ak hJ ?_;revert h;refine bS fun al ao h=>?_;simp only[*,go_sem];refine dJ hJ (aV:=[]) [(o,bz 115),(k,bl u0 s1 s b c)] [] _ (AZ u0.props g.p ao) (fun cb G H u w cd=>?_);simp only[aX] at w;subst u;obtain ⟨d45,ar,rfl,a0⟩:=H.len;refine ⟨⟨ro,(o,bz 115)::(k,bl u0 s1 s b c)::G⟩,Le.refl _,?_⟩;refine aJ ?_;try simp only[*,go_sem]
 refine af hJ (af hJ ?_);refine aB hJ fun cf=>?_;refine ak hJ ?_;simp only[*,go_sem];refine aN hJ ?_;revert h;refine bS fun a2 j a3=>?_;refine bT hJ [8,17,18,19,20,21,22,23,24,25,26,27,28,29,30,31] (fun m a4 F'=>∃(i56:Nat) (d51:Option Addr) (f:Nat) (z:List (Nat×Obj)) (a:(List cc)),m=d.length - i56/\i56<=d.length/\bJ (wo i) i56 (d.drop i56) a=some a2/\F'=⟨ro,(o,bz 115)::(k,bl u0 s1 (sl d51 a f) b c)::z⟩/\aO eA ro 96 (.slice d51 a.length f) a z/\a.length<=f/\slot a4 17= .int .i64 (i56:Int)) d.length ?_ ?_
 ·refine ⟨0,d45,ar,G,al,(Nat.sub_zero _).symm,Nat.zero_le _,j,rfl,H,a0,?_⟩;simp only[*,go_sem]
 rintro cl cu F' I ⟨i56,d51,f,z,a,rfl,cy,j,rfl,K,cS,c0⟩;obtain ⟨a5,a6,a7⟩:=I.pick [1,3,6,15,16] (by decide);simp only[*,go_sem] at a5 a6 a7;clear I W hd X k1 Y;refine ah hJ ?_;simp only[*,go_sem];refine af hJ ?_;rcases Nat.lt_or_ge i56 d.length with a8|L
 ·refine bE hJ (by simp only[*,go_sem]) ?_;refine aH hJ ?_;obtain ⟨q,B⟩:∃x,d[i56]?=some x:=⟨_,List.getElem?_eq_getElem a8⟩
  rw[dc B] at j;revert j;refine bS fun da h a9=>?_;unfold wo at h;try dsimp only at h
  obtain ⟨db,ba,bb,bc,M⟩:=E.el _ _ B;obtain rfl:ba=[.int .i64 q]:=bc;cases bb;have bd:=M 0 _ rfl;simp only[go_sem] at bd;clear M B;refine af hJ (aN hJ (af hJ ?_));refine aB hJ fun dd=>?_;refine ak hJ ?_;simp only[*,go_sem];refine aB hJ fun bj=>?_;refine ak hJ ?_;revert h;refine bS fun bk bm h=>?_;obtain rfl:=sI h;obtain ⟨bo,N⟩:=dr bm;simp only[*,go_sem];refine aA fun O br P=>?_;have bs:=aP.cons P bj;try simp only[au] at P
  try simp only[*,go_sem]
  refine dZ (r:=eA) (l:=a) (x:=(⟨q,i⟩:cc)) (cs:=#[.int .i64 q,.int .i64 i]) (e2:=96) [(O,.cells #[.int .i64 q,.int .i64 i] 96),(o,bz 115),(k,bl u0 s1 (sl d51 a f) b c)] [] K bs bo rfl (by simp only[*,go_sem]) br rfl rfl k4 k4 rT rV rfl rU (by decide) (by decide) (fun df Q C u w dk=>?_);simp only[aX] at w;subst u;rw[<-N] at C;clear N;obtain ⟨d74,b0,rfl,b1⟩:=C.len;refine ⟨⟨ro,(O,.cells #[.int .i64 q,.int .i64 i] 96)::(o,bz 115)::(k,bl u0 s1 (sl d51 a f) b c)::Q⟩,Le.refl _,?_⟩;refine aJ ?_;try simp only[*,go_sem]
  have dp:=cq (n:=i56) (by have:=U;omega);refine ak hJ ?_;simp only[*,go_sem];refine ⟨d.length - (i56+1),by omega,_,Le.sub (List.Sublist.cons _ (List.Sublist.refl _)),i56+1,d74,b0,Q,bk,rfl,by omega,a9,rfl,C,b1,?_⟩;simp only[*,go_sem]
 have dq:=Nat.not_lt.2 L;refine bD hJ (by simp only[*,go_sem]) ?_;rw[List.drop_eq_nil_of_le L] at j;obtain rfl:=sI j;clear j;have h:=a3;dsimp only[aD] at h;obtain rfl:=sI h;refine bN ?_;simp only[go_sem];refine af hJ ?_;refine aB hJ fun ds=>?_;refine ak hJ ?_;simp only[*,go_sem];refine aB hJ fun R=>?_;obtain ⟨dt,S,b2,T,b3⟩:=K.e4 [(o,bl u0 s1 (sl d51 a f) b c),(k,bl u0 s1 (sl d51 a f) b c)] [] R (aG.cons ad (aG.cons Z (aG.nil _)));clear R;refine cp hJ b3 ?_;obtain ⟨du,dv,-⟩:=T.op;replace g:=g.mono S;simp only[bq] at b2;refine az ?_;simp only[*,go_sem];exact ⟨_,S,Le.sub (List.nil_sublist _),_,_,_,_,rfl,⟨g.e,T,g.y,g.t⟩⟩
def wq (u0:aj)(a:(List Int))(st:((List (List Int))×Int)):Option (Fl ((List (List Int))×Int) (List (List Int))):=
 ag (gf u0 st.2) fun b=>cond (b) (ag (sH a) fun c=>ag (c8 c ([st.2])) fun d=>ag (c8 st.1 ([d])) fun e=>some (.nx (e,(IntKind.i64.wrap (st.2+1))))) (some (.bk (st.1,st.2)))
def wu (u0:aj)(a:(List Int))(st:((List (List Int))×Int)):Option (Fl ((List (List Int))×Int) (List (List Int))):=
 ag (gf u0 st.2) fun b=>cond (b) (ag (sH a) fun c=>ag (c8 c ([st.2])) fun d=>ag (c8 st.1 ([d])) fun e=>some (.nx (e,(IntKind.i64.wrap (st.2+1))))) (some (.bk (st.1,st.2)))
def wv (u0:aj)(i47:Nat)(a:(List Int))(st:(List (List Int))):Option (Fl (List (List Int)) (List (List Int))):=
 ag (aY u0.ax 0) fun b=>cond (decide (0<(a.length:Int))) (ag (aY a (IntKind.i64.wrap ((a.length:Int) - 1))) fun c=>ag (aU (wq u0 a) fu (st,(IntKind.i64.wrap (c+1)))) fun o=>aD o (fun d=>some (.nx d.1)) (fun _ _=>none) (fun r=>some (.rt r))) (ag (aU (wu u0 a) fu (st,b.aL)) fun o=>aD o (fun e=>some (.nx e.1)) (fun _ _=>none) (fun r=>some (.rt r)))
def sN (u0:aj)(a:(List (List Int))):Option (List (List Int)):=
 ag (bJ (wv u0) 0 a ([]:List (List Int))) fun o=>aD o (fun b=>some b) (fun _ _=>none) (fun r=>some r)
theorem A4 {ro:Addr->Option Value}(u0:aj){s1 a b c:Value}(j:bL ro u0 s1 a b c)(s:(List (List Int))){bo:Value}(Q:aC (rL rI) ro bo s){r:(List (List Int))}(h:sN u0 s=some r):eL Tryz.prog 100 #[bv u0 s1 a b c,bo] ro (fun v aM=>∃br,v=br/\aC (rL rI) aM br r):=by
 obtain ⟨d3,c4,rfl,h9,ib,-⟩:=id j.e;obtain ⟨d31,ih,rfl,ik,bs,-⟩:=id Q;unfold sN at h;refine aE.go Tryz.func100 rfl Tryz.ntmps100 Tryz.results100 (by simp) fun main J hJ A e1 hd hs=>?_;have e3:=hs 0;have k1:=hs 1;clear hs;refine ah hJ ?_;simp only[*,go_sem];refine aA fun d u fa=>?_;try simp only[au] at fa
 try simp only[*,go_sem]
 refine ah hJ ?_;simp only[*,go_sem];refine af hJ (ah hJ ?_);simp only[*,go_sem];refine aN hJ ?_;revert h;refine bS fun fb F fg=>?_;refine bT hJ [5,7,8,9,12,13,14,15,16,17,18,19,20,21,22,23,24,25,26,27,28,29,30,31,32,33,34,35,36,37,38,39,40,41,42,43,44,45,46] (fun m w F'=>∃(i47:Nat) (y:Addr->Option Value) (d38:Option Addr) (G:Nat) (K:List (Nat×Obj)) (z:(List (List Int))),m=s.length - i47/\i47<=s.length/\bJ (wv u0) i47 (s.drop i47) z=some fb/\F'=⟨y,(d,bl u0 (sl d3 u0.ax c4) a b c)::K⟩/\Ext ro y/\aO (rL rI) y 35 (.slice d38 z.length G) z K/\z.length<=G/\slot w 12= .int .i64 (i47:Int)/\slot w 5= .slice d38 z.length G) s.length ?_ ?_
 ·refine ⟨0,ro,none,0,[],([]:List (List Int)),(Nat.sub_zero _).symm,Nat.zero_le _,F,rfl,Ext.refl _,aO.nil _ _ _,Nat.le_refl _,?_⟩;simp only[*,go_sem]
 rintro il bz F' b0 ⟨i47,y,d38,G,K,z,rfl,im,F,rfl,L,Z,b1,b2,b3⟩;refine fe hJ fun _ b4=>?_;replace Q:=Q.mono L;replace j:=j.mono L;replace u:=b4.hd;simp only[bq] at b4;obtain ⟨ab,ad,ae⟩:=b0.pick [2,4,10,11] (by decide);simp only[*,go_sem] at ab ad ae;clear b0 e1 hd e3 k1;refine ah hJ ?_;simp only[*,go_sem];refine af hJ ?_;rcases Nat.lt_or_ge i47 s.length with fi|b5
 ·refine bE hJ (by simp only[*,go_sem]) ?_;refine aH hJ ?_;obtain ⟨R,al⟩:∃x,s[i47]?=some x:=⟨_,List.getElem?_eq_getElem fi⟩
  rw[dc al] at F;revert F;refine bS fun iv h ca=>?_;unfold wv at h;try dsimp only at h
  obtain ⟨ix,j1,fo,fp,cb⟩:=Q.el _ _ al;obtain ⟨j2,rfl,t⟩:=fp;obtain ⟨d56,kh,rfl,kj,kk,kl⟩:=id t;cases fo;have fr:=cb 0 _ rfl;simp only[go_sem] at fr;clear cb al;refine af hJ (aN hJ (af hJ ?_));refine aB hJ fun km=>?_;refine ak hJ ?_;simp only[*,go_sem];refine af hJ ?_;refine aB hJ fun kn=>?_;refine ak hJ ?_;revert h;refine bS fun cd fs h=>?_;obtain ⟨kp,ks,cf⟩:=cE fs;obtain ⟨f,ft,fv,fw,ao⟩:=j.e.el _ _ cf;obtain rfl:ft=cd.cells:=fw;cases fv;have fx:=ao 0 _ rfl;simp only[go_sem] at fx;have gg:=ao 1 _ rfl;simp only[go_sem] at gg;clear ao cf;try simp only[*,go_sem]
  refine af hJ (af hJ ?_);refine aB hJ fun kt=>?_;refine ak hJ ?_;simp only[*,go_sem];revert h;refine jC hJ (by simp only[*,go_sem]) (fun gl h=>?_) fun gl h=>?_
  ·refine aB hJ fun kv=>?_;refine ak hJ ?_;revert h;refine bS fun cl gn h=>?_;obtain ⟨kx,ky,cu⟩:=cE gn;obtain ⟨k0,gp,gB,gC,cy⟩:=t.el _ _ cu;obtain rfl:gp=[.int .i64 cl]:=gC;cases gB;have gM:=cy 0 _ rfl;simp only[go_sem] at gM;clear cy cu;(try simp only[*,go_sem]);refine af hJ ?_;refine aB hJ fun k2=>?_;refine ak hJ ?_;simp only[*,go_sem];refine aN hJ ?_;revert h;refine bS fun gT S gV=>?_;refine bT hJ [5,9,33,34,35,36,37,38,39,40,41,42,43,44,45] (fun m w F'=>∃(H:Addr->Option Value) (d75:Option Addr) (M:Nat) (k:List (Nat×Obj)) (B:(List (List Int))) (g:Int),aU (wq u0 R) m (B,g)=some gT/\F'=⟨H,(d,bl u0 (sl (some f) u0.ax c4) a b c)::k⟩/\Ext y H/\aO (rL rI) H 35 (.slice d75 B.length M) B k/\B.length<=M/\slot w 5= .slice d75 B.length M/\slot w 9= .int .i64 g) fu ?_ ?_
   ·refine ⟨y,d38,G,K,z,(IntKind.i64.wrap (cl+1)),S,rfl,Ext.refl _,Z,b1,?_⟩;simp only[*,go_sem]
   rintro ar g0 F' a0 ⟨H,d75,M,k,B,g,S,rfl,T,N,g1,lb,lh⟩;refine fe hJ fun _ cS=>?_;replace t:=t.mono T;replace j:=j.mono T;replace u:=cS.hd;simp only[bq] at cS;obtain ⟨g2,g3,g4⟩:=a0.pick [2,4,7,8,10,11,12,13,15,16,17,18,21,22,23,24,25,26,27,28,30,31,32] (by decide);simp only[*,go_sem] at g2 g3 g4;have lj:cL [5,7,8,9,12,13,14,15,16,17,18,19,20,21,22,23,24,25,26,27,28,29,30,31,32,33,34,35,36,37,38,39,40,41,42,43,44,45,46] g0 bz:=(a0.fZ (by decide)).trans (by simp only[*,go_sem]);clear a0 ab ad ae b3 b2;obtain _|ar:=ar
   ·exact absurd S (by simp only[aU,reduceCtorEq,not_false_eq_true])
   revert S;refine bS fun lk h a2=>?_;unfold wq at h;(try dsimp only at h);refine af hJ (af hJ ?_);refine aB hJ fun ll=>?_;refine ak hJ ?_;revert h;refine bS fun ln ha h=>?_;simp only[*,go_sem];refine bn hJ _ (se u0 (j.mono aR) g ha) ?_;(try simp only[*,go_sem]);revert h;refine jC hJ (by simp only[*,go_sem]) (fun hc h=>?_) fun hc h=>?_
   ·refine aH hJ (af hJ ?_);refine aN hJ ?_;refine aB hJ fun lo=>?_;refine ak hJ ?_;revert h;refine bS fun hf hg h=>?_;simp only[*,go_sem];refine dJ hJ (aV:=[]) [(d,bl u0 (sl (some f) u0.ax c4) a b c)] k _ (A0 R t hg) (fun lr hh c0 p q hi=>?_);simp only[aX] at q;subst p;obtain ⟨d133,lv,rfl,lx⟩:=c0.len;refine ⟨⟨H,(d,bl u0 (sl (some f) u0.ax c4) a b c)::(hh++k)⟩,Le.refl _,?_⟩;refine aJ ?_;revert h;refine bS fun U hj h=>?_;obtain ⟨hk,da⟩:=dr hj;(try simp only[*,go_sem]);refine aA fun C db dd=>?_;have hl:=aP.cons dd hi;try simp only[au] at dd
    (try simp only[*,go_sem]);refine dZ (r:=rI) (l:=hf) (x:=g) (cs:=#[.int .i64 g]) (e2:=3) [(C,ic g),(d,bl u0 (sl (some f) u0.ax c4) a b c)] k c0 hl hk rfl (by simp only[*,go_sem]) db rfl rfl fK fK kY k3 rfl kZ (by decide) (by decide) (fun ly df a3 p q dk=>?_);simp only[aX] at q;subst p;rw[<-da] at a3;clear da;obtain ⟨d145,a4,rfl,lL⟩:=a3.len;obtain ⟨a5,V,a6,dp,hn⟩:=a3.e4 [(C,ic g),(d,bl u0 (sl (some f) u0.ax c4) a b c)] k dk (aG.cons db (aG.cons u (N.jv)));have ho:=aP.sub (l:=(C,ic g)::(d,bl u0 (sl (some f) u0.ax c4) a b c)::k) (l':=(C,ic g)::(d,bl u0 (sl (some f) u0.ax c4) a b c)::(df++k)) [(C,ic g),(d,bl u0 (sl (some f) u0.ax c4) a b c)] df k (by first|rfl|simp only[aX]|(simp only[aX];rfl)) (by first|rfl|simp only[aX]|(simp only[aX];rfl)) dk;refine ⟨⟨a5,(C,ic g)::(d,bl u0 (sl (some f) u0.ax c4) a b c)::k⟩,hn,?_⟩;obtain ⟨l1,l2,-⟩:=dp.op;replace t:=t.mono V;replace j:=j.mono V;replace u:=a6.tl.hd;replace N:=N.mono V a6.tl.tl;simp only[bq] at a6;refine aJ ?_;revert h;refine bS fun hp hq h=>?_;obtain rfl:=sI h;obtain ⟨hr,dq⟩:=dr hq;(try simp only[*,go_sem]);refine aA fun ds ht dt=>?_;have hv:=aP.cons dt ho;try simp only[au] at dt
    (try simp only[*,go_sem]);refine dZ (r:=(rL rI)) (l:=B) (x:=U) (cs:=#[.slice d145 U.length a4]) (e2:=35) [(ds,.cells #[.slice d145 U.length a4] 35),(C,ic g),(d,bl u0 (sl (some f) u0.ax c4) a b c)] [] N hv hr ⟨_,rfl,dp⟩ (by simp only[*,go_sem]) ht rfl rfl k5 k5 rQ rS rfl rR (by decide) (by decide) (fun l3 du a7 p q l4=>?_);simp only[aX] at q;subst p;rw[<-dq] at a7;clear dq;obtain ⟨d165,hx,rfl,hy⟩:=a7.len;refine ⟨⟨a5,(ds,.cells #[.slice d145 U.length a4] 35)::(C,ic g)::(d,bl u0 (sl (some f) u0.ax c4) a b c)::du⟩,Le.refl _,?_⟩;refine aJ ?_;(try simp only[*,go_sem]);refine aB hJ fun ma=>?_;refine ak hJ ?_;simp only[*,go_sem];refine ⟨ar,Nat.lt_succ_self _,_,Le.sub (List.Sublist.cons _ (List.Sublist.cons _ (List.Sublist.refl _))),a5,d165,hx,du,hp,(IntKind.i64.wrap (g+1)),a2,rfl,(T.trans V),a7,hy,?_⟩;simp only[*,go_sem]
   obtain rfl:=sI h;refine bN ?_;simp only[go_sem];obtain rfl:=sI a2;clear a2;have h:=gV;dsimp only[aD] at h;obtain rfl:=sI h;have hz:=cq (n:=i47) (by have:=bs;omega);refine ak hJ ?_;simp only[*,go_sem];refine ⟨s.length - (i47+1),by omega,_,Le.sub (List.Sublist.refl _),i47+1,H,d75,M,k,B,rfl,by omega,ca,rfl,(L.trans T),N,g1,?_⟩;simp only[*,go_sem]
  refine aH hJ (af hJ ?_);refine aB hJ fun mb=>?_;refine ak hJ ?_;simp only[*,go_sem];refine aN hJ ?_;revert h;refine bS fun hA W hB=>?_;refine bT hJ [5,9,33,34,35,36,37,38,39,40,41,42,43,44,45] (fun m w F'=>∃(I:Addr->Option Value) (d172:Option Addr) (O:Nat) (o:List (Nat×Obj)) (D:(List (List Int))) (i:Int),aU (wu u0 R) m (D,i)=some hA/\F'=⟨I,(d,bl u0 (sl (some f) u0.ax c4) a b c)::o⟩/\Ext y I/\aO (rL rI) I 35 (.slice d172 D.length O) D o/\D.length<=O/\slot w 5= .slice d172 D.length O/\slot w 9= .int .i64 i) fu ?_ ?_
  ·refine ⟨y,d38,G,K,z,cd.aL,W,rfl,Ext.refl _,Z,b1,?_⟩;simp only[*,go_sem]
  rintro a8 hD F' a9 ⟨I,d172,O,o,D,i,W,rfl,X,P,hE,mf,mi⟩;refine fe hJ fun _ dv=>?_;replace t:=t.mono X;replace j:=j.mono X;replace u:=dv.hd;simp only[bq] at dv;obtain ⟨hF,hG,hI⟩:=a9.pick [2,4,7,8,10,11,12,13,15,16,17,18,21,22,23,24,32] (by decide);simp only[*,go_sem] at hF hG hI;have ml:cL [5,7,8,9,12,13,14,15,16,17,18,19,20,21,22,23,24,25,26,27,28,29,30,31,32,33,34,35,36,37,38,39,40,41,42,43,44,45,46] hD bz:=(a9.fZ (by decide)).trans (by simp only[*,go_sem]);clear a9 ab ad ae b3 b2;obtain _|a8:=a8
  ·exact absurd W (by simp only[aU,reduceCtorEq,not_false_eq_true])
  revert W;refine bS fun mn h ba=>?_;unfold wu at h;try dsimp only at h
  refine af hJ (af hJ ?_);refine aB hJ fun mr=>?_;refine ak hJ ?_;revert h;refine bS fun mx hK h=>?_;simp only[*,go_sem];refine bn hJ _ (se u0 (j.mono aR) i hK) ?_;try simp only[*,go_sem]
  revert h;refine jC hJ (by simp only[*,go_sem]) (fun hL h=>?_) fun hL h=>?_
  ·refine aH hJ (af hJ ?_);refine aN hJ ?_;refine aB hJ fun my=>?_;refine ak hJ ?_;revert h;refine bS fun hM hN h=>?_;simp only[*,go_sem];refine dJ hJ (aV:=[]) [(d,bl u0 (sl (some f) u0.ax c4) a b c)] o _ (A0 R t hN) (fun m1 hP dC p q hQ=>?_);simp only[aX] at q;subst p;obtain ⟨d230,m2,rfl,na⟩:=dC.len;refine ⟨⟨I,(d,bl u0 (sl (some f) u0.ax c4) a b c)::(hP++o)⟩,Le.refl _,?_⟩;refine aJ ?_;revert h;refine bS fun Y hR h=>?_;obtain ⟨hS,dE⟩:=dr hR;(try simp only[*,go_sem]);refine aA fun E dT ea=>?_;have hT:=aP.cons ea hQ;try simp only[au] at ea
   (try simp only[*,go_sem]);refine dZ (r:=rI) (l:=hM) (x:=i) (cs:=#[.int .i64 i]) (e2:=3) [(E,ic i),(d,bl u0 (sl (some f) u0.ax c4) a b c)] o dC hT hS rfl (by simp only[*,go_sem]) dT rfl rfl fK fK kY k3 rfl kZ (by decide) (by decide) (fun nb eb bb p q ec=>?_);simp only[aX] at q;subst p;rw[<-dE] at bb;clear dE;obtain ⟨bc,bd,rfl,nd⟩:=bb.len;obtain ⟨bj,ed,bk,eh,hV⟩:=bb.e4 [(E,ic i),(d,bl u0 (sl (some f) u0.ax c4) a b c)] o ec (aG.cons dT (aG.cons u (P.jv)));have hX:=aP.sub (l:=(E,ic i)::(d,bl u0 (sl (some f) u0.ax c4) a b c)::o) (l':=(E,ic i)::(d,bl u0 (sl (some f) u0.ax c4) a b c)::(eb++o)) [(E,ic i),(d,bl u0 (sl (some f) u0.ax c4) a b c)] eb o (by first|rfl|simp only[aX]|(simp only[aX];rfl)) (by first|rfl|simp only[aX]|(simp only[aX];rfl)) ec;refine ⟨⟨bj,(E,ic i)::(d,bl u0 (sl (some f) u0.ax c4) a b c)::o⟩,hV,?_⟩;obtain ⟨nf,nm,-⟩:=eh.op;replace u:=bk.tl.hd;replace P:=P.mono ed bk.tl.tl;simp only[bq] at bk;refine aJ ?_;revert h;refine bS fun hY hZ h=>?_;obtain rfl:=sI h;obtain ⟨h0,et⟩:=dr hZ;(try simp only[*,go_sem]);refine aA fun eu h1 ev=>?_;have h2:=aP.cons ev hX;try simp only[au] at ev
   (try simp only[*,go_sem]);refine dZ (r:=(rL rI)) (l:=D) (x:=Y) (cs:=#[.slice bc Y.length bd]) (e2:=35) [(eu,.cells #[.slice bc Y.length bd] 35),(E,ic i),(d,bl u0 (sl (some f) u0.ax c4) a b c)] [] P h2 h0 ⟨_,rfl,eh⟩ (by simp only[*,go_sem]) h1 rfl rfl k5 k5 rQ rS rfl rR (by decide) (by decide) (fun nn eQ bm p q np=>?_);simp only[aX] at q;subst p;rw[<-et] at bm;clear et;obtain ⟨h3,h4,rfl,h5⟩:=bm.len;refine ⟨⟨bj,(eu,.cells #[.slice bc Y.length bd] 35)::(E,ic i)::(d,bl u0 (sl (some f) u0.ax c4) a b c)::eQ⟩,Le.refl _,?_⟩;refine aJ ?_;(try simp only[*,go_sem]);refine aB hJ fun ns=>?_;refine ak hJ ?_;simp only[*,go_sem];refine ⟨a8,Nat.lt_succ_self _,_,Le.sub (List.Sublist.cons _ (List.Sublist.cons _ (List.Sublist.refl _))),bj,h3,h4,eQ,hY,(IntKind.i64.wrap (i+1)),ba,rfl,(X.trans ed),bm,h5,?_⟩;simp only[*,go_sem]
  obtain rfl:=sI h;refine bN ?_;simp only[go_sem];obtain rfl:=sI ba;clear ba;have h:=hB;dsimp only[aD] at h;obtain rfl:=sI h;have hz:=cq (n:=i47) (by have:=bs;omega);refine ak hJ ?_;simp only[*,go_sem];refine ⟨s.length - (i47+1),by omega,_,Le.sub (List.Sublist.refl _),i47+1,I,d172,O,o,D,rfl,by omega,ca,rfl,(L.trans X),P,hE,?_⟩;simp only[*,go_sem]
 have nx:=Nat.not_lt.2 b5;refine bD hJ (by simp only[*,go_sem]) ?_;rw[List.drop_eq_nil_of_le b5] at F;obtain rfl:=sI F;clear F;have h:=fg;dsimp only[aD] at h;obtain rfl:=sI h;refine bN ?_;simp only[go_sem];refine af hJ ?_;refine aB hJ fun nz=>?_;refine ak hJ ?_;simp only[*,go_sem];refine aB hJ fun eS=>?_;obtain ⟨nA,h6,h7,e0,h8⟩:=Z.e4 [(d,bl u0 (sl d3 u0.ax c4) a b c)] [] eS (aG.cons u (aG.nil _));clear eS;refine cp hJ h8 ?_;obtain ⟨nH,nI,-⟩:=e0.op;simp only[bq] at h7;refine az ?_;simp only[*,go_sem];exact ⟨_,(L).trans h6,Le.sub (List.nil_sublist _),_,rfl,e0⟩
def n7 (u0:Int):Option Bool:=
 some (u0 != u0)
theorem sO {ro:Addr->Option Value}(u0:Int){r:Bool}(h:n7 u0=some r):aE Tryz.prog 172 #[.int .i64 u0] ⟨ro,[]⟩ (fun v _=>v= .bool r):=by
 unfold n7 at h;obtain rfl:=sI h;refine aE.go Tryz.func172 rfl Tryz.ntmps172 Tryz.results172 (by simp) fun main J hJ A a hd hs=>?_;have b:=hs 0;clear hs;refine ah hJ ?_;simp only[*,go_sem];refine ah hJ ?_;simp only[*,go_sem];refine az ?_;simp only[*,go_sem]
def iy (u0:Int)(a:Int):Option Bool:=
 ag (n7 u0) fun b=>cond (b) (ag (n7 a) fun c=>cond (!c) (some true) (some (decide (u0<a)))) (some (decide (u0<a)))
theorem jG {ro:Addr->Option Value}(u0:Int)(a:Int){r:Bool}(h:iy u0 a=some r):aE Tryz.prog 183 #[.int .i64 u0,.int .i64 a] ⟨ro,[]⟩ (fun v _=>v= .bool r):=by
 unfold iy at h;refine aE.go Tryz.func183 rfl Tryz.ntmps183 Tryz.results183 (by simp) fun main J hJ A f hd hs=>?_;have g:=hs 0;have k1:=hs 1;clear hs;refine ah hJ ?_;simp only[*,go_sem];refine ah hJ ?_;revert h;refine bS fun i b h=>?_;simp only[*,go_sem];refine bn hJ _ (sO u0 b) (aJ ?_);revert h;refine cS (fun c h=>?_) fun c h=>?_
 ·revert h;refine bS fun j d h=>?_;try simp only[*,go_sem]
  refine bn hJ _ (sO a d) (aJ ?_);revert h;refine cS (fun e h=>?_) fun e h=>?_
  ·obtain rfl:=sI h;(try simp only[*,go_sem]);refine az ?_;simp only[*,go_sem]
  obtain rfl:=sI h;try simp only[*,go_sem]
  refine az ?_;simp only[*,go_sem]
 obtain rfl:=sI h;try simp only[*,go_sem]
 refine az ?_;simp only[*,go_sem]
def wz (c:Int)(st:(Int×(List Int))):Option (Fl (Int×(List Int)) (Unit×(List Int))):=
 cond (decide (c<st.1)) (ag (aY st.2 st.1) fun b=>ag (aY st.2 (IntKind.i64.wrap (st.1 - 1))) fun a=>ag (iy b a) fun d=>cond (d) (ag (aY (st.2.set (st.1).toNat a) (IntKind.i64.wrap (st.1 - 1))) fun e=>some (.nx ((IntKind.i64.wrap (st.1 - 1)),((st.2.set (st.1).toNat a).set (IntKind.i64.wrap (st.1 - 1)).toNat b)))) (some (.bk (st.1,st.2)))) (some (.bk (st.1,st.2)))
def wA (a:Int)(b:Int)(st:(Int×(List Int))):Option (Fl (Int×(List Int)) (Unit×(List Int))):=
 cond (decide (st.1<b)) (ag (aU (wz a) fu (st.1,st.2)) fun o=>aD o (fun c=>some (.nx ((IntKind.i64.wrap (st.1+1)),c.2))) (fun _ _=>none) (fun r=>some (.rt r))) (some (.bk (st.1,st.2)))
def sP (u0:(List Int))(a:Int)(b:Int):Option (Unit×(List Int)):=
 cond (List.isEmpty u0) none (ag (aU (wA a b) fu ((IntKind.i64.wrap (a+1)),u0)) fun o=>aD o (fun c=>some ((),c.2)) (fun _ _=>none) (fun r=>some r))
theorem A5 {ro:Addr->Option Value}(u0:(List Int)){w:Value}{K:List (Nat×Obj)}(x:aO rI ro 3 w u0 K)(k:Int)(z:Int){r:(Unit×(List Int))}(h:sP u0 k z=some r):aE Tryz.prog 177 #[w,.int .i64 k,.int .i64 z] ⟨ro,K⟩ (fun v G=>∃L,(v= .tuple #[]/\aO rI ro 3 w r.2 L)/\Le ⟨ro,L⟩ G):=by
 obtain ⟨d1,c2,rfl,b4⟩:=x.len;unfold sP at h;revert h;refine cS (fun M h=>?_) fun M h=>?_
 ·cases h
 obtain ⟨b,ab,rfl,rfl,b5⟩:=x.iw M;refine aE.go Tryz.func177 rfl Tryz.ntmps177 Tryz.results177 (by simp) fun main J hJ A ad hd hs=>?_;have ae:=hs 0;have k1:=hs 1;have al:=hs 2;clear hs;refine af hJ ?_;refine aB hJ fun ca=>?_;refine ak hJ ?_;simp only[*,go_sem];refine aN hJ ?_;revert h;refine bS fun ao n ar=>?_;refine bT hJ [6,7,10,11,12,13,14,15,16,17,18,19,20,21,22,23,24,25,26,27,28,29,30,31,32,33,34,35,36,37,38,39,40,41,42,43,44,45,46,47,48] (fun m B F'=>∃(p:Array Value) (j:Int) (q:(List Int)),aU (wA k z) m (j,q)=some ao/\F'=⟨ro,[(b,Obj.cells p 3)]⟩/\aO rI ro 3 (.slice (some ⟨b,0,none⟩) u0.length c2) q [(b,Obj.cells p 3)]/\slot B 6= .int .i64 j) fu ?_ ?_
 ·refine ⟨ab,(IntKind.i64.wrap (k+1)),u0,n,rfl,x,?_⟩;simp only[*,go_sem]
 rintro s a0 F' N ⟨p,j,q,n,rfl,O,a2⟩;obtain ⟨P,Q,R⟩:=N.pick [0,1,2] (by decide);simp only[*,go_sem] at P Q R;clear N ad hd ae k1 al;obtain _|s:=s
 ·exact absurd n (by simp only[aU,reduceCtorEq,not_false_eq_true])
 revert n;refine bS fun cb h t=>?_;unfold wA at h;try dsimp only at h
 refine af hJ (af hJ ?_);refine aB hJ fun cd=>?_;refine ak hJ ?_;simp only[*,go_sem];revert h;refine jC hJ (by simp only[*,go_sem]) (fun a3 h=>?_) fun a3 h=>?_
 ·refine aH hJ (af hJ ?_);refine aN hJ (af hJ ?_);refine aB hJ fun cf=>?_;refine ak hJ ?_;simp only[*,go_sem];refine aN hJ ?_;revert h;refine bS fun a4 u S=>?_;refine bT hJ [7,16,17,18,19,20,21,22,23,24,25,26,27,28,29,30,31,32,33,34,35,36,37,38,39,40,41,42,43,44,45,46,47,48] (fun m B F'=>∃(d:Array Value) (a:Int) (e:(List Int)),aU (wz k) m (a,e)=some a4/\F'=⟨ro,[(b,Obj.cells d 3)]⟩/\aO rI ro 3 (.slice (some ⟨b,0,none⟩) u0.length c2) e [(b,Obj.cells d 3)]/\slot B 7= .int .i64 a) fu ?_ ?_
  ·refine ⟨p,j,q,u,rfl,O,?_⟩;simp only[*,go_sem]
  rintro C a5 F' D ⟨d,a,e,u,rfl,g,cl⟩;obtain ⟨a6,a7,a8⟩:=D.pick [0,1,2,6,10,11,12,15] (by decide);simp only[*,go_sem] at a6 a7 a8;have cu:cL [6,7,10,11,12,13,14,15,16,17,18,19,20,21,22,23,24,25,26,27,28,29,30,31,32,33,34,35,36,37,38,39,40,41,42,43,44,45,46,47,48] a5 a0:=(D.fZ (by decide)).trans (by simp only[*,go_sem]);clear D P Q R a2;obtain _|C:=C
  ·exact absurd u (by simp only[aU,reduceCtorEq,not_false_eq_true])
  revert u;refine bS fun cy h l=>?_;unfold wz at h;try dsimp only at h
  refine af hJ (af hJ ?_);refine aB hJ fun c0=>?_;refine cP hJ mixed 15 1 (by simp only[*,go_sem]) (by kernel_rfl) ?_;revert h;refine cS (fun a9 h=>?_) fun a9 h=>?_
  ·revert h;refine bS fun f ba h=>?_;obtain ⟨da,db,T⟩:=cE ba;have dd:a<((u0.length:Nat):Int):=by have:=g.count;omega
   obtain ⟨bb,bc,bd⟩:=g.iU T;obtain rfl:bb=[.int .i64 f]:=bc;have U:=bd 0 _ rfl;simp only[go_sem] at U;have df:=(Array.getElem?_eq_some_iff.1 U).1;revert h;refine bS fun c bj h=>?_;obtain ⟨dk,dp,bk⟩:=cE bj;have dq:IntKind.i64.wrap (a - 1)<((u0.length:Nat):Int):=by have:=g.count;omega
   obtain ⟨bl,bm,bo⟩:=g.iU bk;obtain rfl:bl=[.int .i64 c]:=bm;have V:=bo 0 _ rfl;simp only[go_sem] at V;have ds:=(Array.getElem?_eq_some_iff.1 V).1;revert h;refine bS fun dt br h=>?_;(try simp only[*,go_sem]);refine ⟨_,bC hJ fun F du=>jG f c br,b7 ?_⟩;(try simp only[*,go_sem]);revert h;refine jC hJ (by simp only[*,go_sem]) (fun bs h=>?_) fun bs h=>?_
   ·refine aH hJ (af hJ ?_);refine aN hJ ?_;refine aB hJ fun dv=>?_;refine eG hJ mixed [15,16,17] (.pure 0 (.pure 1 (.pure 2 (.pure 3 (.pure 4 (.pure 5 (.pure 6 (.pure 7 (.pure 8 (.rd 9 (.pure 10 (.pure 11 (.pure 12 (.rd 13 (.pure 14 (.last 15 (.pure 16 (.last 17 .done)))))))))))))))))) ⟨ro,[(b,Obj.cells d 3)]⟩ (by simp only[*,go_sem]) (by kernel_rfl) ?_;have E:aO rI ro 3 (.slice (some ⟨b,0,none⟩) u0.length c2) (e.set (a).toNat c) [(b,Obj.cells (cM d (a).toNat [.int .i64 c]) 3)]:=by have H:=g.rZ (i:=(a).toNat) (y:=c) (by have:=T;have:=(List.getElem?_eq_some_iff.1 this).1;simpa only[List.length_set] using this) (cs:=[.int .i64 c]) rfl;simpa only[r8,vP,Nat.mul_one,Nat.add_zero] using H
    revert h;refine bS fun bz b0 h=>?_;obtain rfl:=sI h;obtain ⟨dC,dE,W⟩:=cE b0;have dT:IntKind.i64.wrap (a - 1)<((u0.length:Nat):Int):=by have:=E.count;omega
    obtain ⟨b1,b2,b3⟩:=E.iU W;obtain rfl:b1=[.int .i64 bz]:=b2;have X:=b3 0 _ rfl;simp only[go_sem] at X;have ea:=(Array.getElem?_eq_some_iff.1 X).1;have Y:aO rI ro 3 (.slice (some ⟨b,0,none⟩) u0.length c2) ((e.set (a).toNat c).set (IntKind.i64.wrap (a - 1)).toNat f) [(b,Obj.cells (cM (cM d (a).toNat [.int .i64 c]) (IntKind.i64.wrap (a - 1)).toNat [.int .i64 f]) 3)]:=by have H:=E.rZ (i:=(IntKind.i64.wrap (a - 1)).toNat) (y:=f) (by have:=W;have:=(List.getElem?_eq_some_iff.1 this).1;simpa only[List.length_set] using this) (cs:=[.int .i64 f]) rfl;simpa only[r8,vP,Nat.mul_one,Nat.add_zero] using H
    (try simp only[*,go_sem]);obtain ⟨Z,I⟩:∃o,o=(cM (cM d (a).toNat [.int .i64 c]) (IntKind.i64.wrap (a - 1)).toNat [.int .i64 f]):=⟨_,rfl⟩
    refine cp (F:=⟨ro,[(b,Obj.cells Z 3)]⟩) hJ (by rw[I];exact Le.refl _) ?_;rw[<-I] at Y;clear I;refine aB hJ fun eb=>?_;refine ak hJ ?_;simp only[*,go_sem];refine ⟨C,Nat.lt_succ_self _,_,Le.sub (List.Sublist.refl _),Z,(IntKind.i64.wrap (a - 1)),((e.set (a).toNat c).set (IntKind.i64.wrap (a - 1)).toNat f),l,rfl,Y,?_⟩;simp only[*,go_sem]
   obtain rfl:=sI h;refine bN ?_;simp only[go_sem];obtain rfl:=sI l;clear l;have h:=S;dsimp only[aD] at h;obtain rfl:=sI h;refine aB hJ fun ec=>?_;refine ak hJ ?_;simp only[*,go_sem];refine ⟨s,Nat.lt_succ_self _,_,Le.sub (List.Sublist.refl _),d,(IntKind.i64.wrap (j+1)),e,t,rfl,g,?_⟩;simp only[*,go_sem]
  obtain rfl:=sI h;try simp only[*,go_sem]
  refine bD hJ (by simp only[*,go_sem]) ?_;refine bN ?_;simp only[go_sem];obtain rfl:=sI l;clear l;have h:=S;dsimp only[aD] at h;obtain rfl:=sI h;refine aB hJ fun ed=>?_;refine ak hJ ?_;simp only[*,go_sem];refine ⟨s,Nat.lt_succ_self _,_,Le.sub (List.Sublist.refl _),d,(IntKind.i64.wrap (j+1)),e,t,rfl,g,?_⟩;simp only[*,go_sem]
 obtain rfl:=sI h;refine bN ?_;simp only[go_sem];obtain rfl:=sI t;clear t;have h:=ar;dsimp only[aD] at h;obtain rfl:=sI h;simp only[*,go_sem];exact ⟨_,O,Le.sub (List.Sublist.refl _)⟩
def wB (u0:(List Int))(st:(Int×Int×Int×Bool×Bool)):Option (Fl (Int×Int×Int×Bool×Bool) (Unit×(List Int))):=
 cond (decide ((IntKind.i64.wrap (st.2.1 - st.1))<=12)) (ag (sP u0 st.1 st.2.1) fun a=>some (.rt ((),a.2))) (none)
def sQ (u0:(List Int))(a:Int)(b:Int)(c:Int):Option (Unit×(List Int)):=
 cond (List.isEmpty u0) none (ag (aU (wB u0) fu (a,b,c,true,true)) fun o=>aD o (fun d=>some ((),u0)) (fun _ _=>none) (fun r=>some r))
theorem A6 {ro:Addr->Option Value}(u0:(List Int)){f:Value}{p:List (Nat×Obj)}(g:aO rI ro 3 f u0 p)(i:Int)(j:Int)(k:Int){r:(Unit×(List Int))}(h:sQ u0 i j k=some r):aE Tryz.prog 148 #[f,.int .i64 i,.int .i64 j,.int .i64 k] ⟨ro,p⟩ (fun v G=>∃b,(v= .tuple #[]/\aO rI ro 3 f r.2 b)/\Le ⟨ro,b⟩ G):=by
 obtain ⟨d1,c2,rfl,Q⟩:=g.len;unfold sQ at h;revert h;refine cS (fun q h=>?_) fun q h=>?_
 ·cases h
 obtain ⟨s,y,rfl,rfl,R⟩:=g.iw q;refine aE.go Tryz.func148 rfl Tryz.ntmps148 Tryz.results148 (by simp) fun main J hJ A z hd hs=>?_;have B:=hs 0;have k1:=hs 1;have C:=hs 2;have D:=hs 3;clear hs;refine af hJ ?_;refine aB hJ fun S=>?_;refine ak hJ ?_;simp only[*,go_sem];refine af hJ ?_;refine aB hJ fun T=>?_;refine ak hJ ?_;simp only[*,go_sem];refine aN hJ ?_;revert h;refine bS fun E c F=>?_;refine bT hJ [1,2,3,8,9,10,11,12,13,14,15,16,17,18,19,20,21,22,23,24,25,26,27,28,29,30,31,32,33,34,35,36,37,38,39,40,41,42,43,44,45,46,47,48,49,50,51,52,53,54,55,56,57,58,59,60,61,62,63,64,65,66,67,68,69,70,71,72,73,74,75,76,77,78,79,80,81,82,83,84,85,86,87,88,89,90,91,92,93,94,95,96,97,98,99,100,101,102,103,104,105,106,107,108,109,110,111,112,113,114,115,116,117,118,119,120,121,122,123,124,125,126,127,128,129,130,131,132,133] (fun m a F'=>∃(d:Int) (e:Int) (l:Int) (n:Bool) (o:Bool),aU (wB u0) m (d,e,l,n,o)=some E/\F'=⟨ro,[(s,Obj.cells y 3)]⟩/\slot a 1= .int .i64 d/\slot a 2= .int .i64 e/\slot a 3= .int .i64 l/\slot a 8= .bool n/\slot a 9= .bool o) fu ?_ ?_
 ·refine ⟨i,j,k,true,true,c,rfl,?_⟩;simp only[*,go_sem]
 rintro t U F' u ⟨d,e,l,n,o,c,rfl,V,W,X,Y,Z⟩;obtain ⟨H,I,K⟩:=u.pick [0] (by decide);simp only[*,go_sem] at H I K;clear u z hd B k1 C D;obtain _|t:=t
 ·exact absurd c (by simp only[aU,reduceCtorEq,not_false_eq_true])
 revert c;refine bS fun ab h w=>?_;unfold wB at h;try dsimp only at h
 refine aN hJ (af hJ ?_);refine aB hJ fun ad=>?_;refine ak hJ ?_;simp only[*,go_sem];refine af hJ (af hJ ?_);refine aB hJ fun ae=>?_;refine ak hJ ?_;simp only[*,go_sem];revert h;refine jC hJ (by simp only[*,go_sem]) (fun L h=>?_) fun L h=>?_
 ·refine af hJ ?_;refine aB hJ fun al=>?_;refine ak hJ ?_;revert h;refine bS fun ao M h=>?_;obtain rfl:=sI h;simp only[*,go_sem];refine dJ hJ [] [] _ (A5 u0 g d e M) (fun ar a0 N b O a2=>?_);obtain ⟨rfl,x⟩:=N;obtain ⟨P,rfl⟩:=x.gA;simp only[aX] at O;subst b;refine ⟨⟨ro,[(s,Obj.cells P 3)]⟩,Le.refl _,?_⟩;try simp only[*,go_sem]
  obtain rfl:=sI w;clear w;have h:=F;dsimp only[aD] at h;obtain rfl:=sI h;refine az ?_;simp only[*,go_sem];exact ⟨_,x,Le.sub (List.Sublist.refl _)⟩
 cases h
def qf (u0:(List Int))(a:Int)(b:Int)(c:Int):Option (((Int×Int)×(List Int))×Int):=
 cond (List.isEmpty u0) none (ag (aY u0 b) fun d=>ag (aY u0 a) fun e=>ag (iy d e) fun f=>cond (f) (some (((b,a),u0),IntKind.i64.wrap (c+1))) (some (((a,b),u0),c)))
theorem wC {ro:Addr->Option Value}(u0:(List Int)){c:Value}{f:List (Nat×Obj)}(a:aO rI ro 3 c u0 f)(d:Int)(e:Int)(g:Int){b:Nat}(I:∀off sp,ro ⟨b,off,sp⟩=none){r:(((Int×Int)×(List Int))×Int)}(h:qf u0 d e g=some r):aE Tryz.prog 212 #[c,.int .i64 d,.int .i64 e,.pointer (some ⟨b,0,none⟩)] ⟨ro,(b,ic g)::f⟩ (fun v G=>∃i,(∃j,i=(b,ic r.2)::j/\v= .tuple #[.int .i64 r.1.1.1,.int .i64 r.1.1.2]/\aO rI ro 3 c r.1.2 j)/\Le ⟨ro,i⟩ G):=by
 obtain ⟨d1,c2,rfl,K⟩:=a.len;unfold qf at h;revert h;refine cS (fun k h=>?_) fun k h=>?_
 ·cases h
 obtain ⟨L,M,rfl,rfl,N⟩:=a.iw k;refine aE.go Tryz.func212 rfl Tryz.ntmps212 Tryz.results212 (by simp) fun main J hJ A O hd hs=>?_;have P:=hs 0;have k1:=hs 1;have Q:=hs 2;have R:=hs 3;clear hs;refine aB hJ fun p=>?_;have q:=p.nd;simp only[keys,List.map_cons,List.map_nil,List.map_append,List.cons_append,List.nil_append,List.nodup_cons,List.mem_cons,List.mem_append,List.not_mem_nil,or_false,not_or] at q;refine af hJ ?_;refine aB hJ fun S=>?_;refine ak hJ ?_;simp only[*,go_sem];refine af hJ (af hJ ?_);refine aB hJ fun T=>?_;refine cP hJ mixed 9 2 (by simp only[*,go_sem]) (by kernel_rfl) ?_;revert h;refine bS fun l s h=>?_;obtain ⟨U,V,t⟩:=cE s;have W:e<((u0.length:Nat):Int):=by have:=a.count;omega
 obtain ⟨u,w,x⟩:=a.iU t;obtain rfl:u=[.int .i64 l]:=w;have m:=x 0 _ rfl;simp only[go_sem] at m;have X:=(Array.getElem?_eq_some_iff.1 m).1;revert h;refine bS fun n y h=>?_;obtain ⟨Y,Z,z⟩:=cE y;have ab:d<((u0.length:Nat):Int):=by have:=a.count;omega
 obtain ⟨B,C,D⟩:=a.iU z;obtain rfl:B=[.int .i64 n]:=C;have o:=D 0 _ rfl;simp only[go_sem] at o;have ad:=(Array.getElem?_eq_some_iff.1 o).1;revert h;refine bS fun ae E h=>?_;try simp only[*,go_sem]
 refine ⟨_,bC hJ fun F al=>jG l n E,?_⟩;try simp only[*,go_sem]
 revert h;refine jC hJ (by simp only[*,go_sem]) (fun H h=>?_) fun H h=>?_
 ·obtain rfl:=sI h;refine af hJ ?_;refine aB hJ fun ao=>?_;refine ak hJ ?_;simp only[*,go_sem];refine af hJ ?_;refine aB hJ fun ar=>?_;refine ak hJ ?_;simp only[*,go_sem];refine az ?_;simp only[*,go_sem];exact ⟨_,⟨_,rfl,a⟩,Le.sub (List.Sublist.refl _)⟩
 obtain rfl:=sI h;refine aH hJ (af hJ ?_);refine aB hJ fun a0=>?_;refine ak hJ ?_;simp only[*,go_sem];refine az ?_;simp only[*,go_sem];exact ⟨_,⟨_,rfl,a⟩,Le.sub (List.Sublist.refl _)⟩
def wD (u0:(List Int))(d:Int)(e:Int)(f:Int)(g:Int):Option ((Int×(List Int))×Int):=
 cond (List.isEmpty u0) none (ag (qf u0 d e g) fun a=>ag (qf a.1.2 a.1.1.2 f a.2) fun b=>ag (qf b.1.2 a.1.1.1 b.1.1.1 b.2) fun c=>some ((c.1.1.2,c.1.2),c.2))
theorem GV {ro:Addr->Option Value}(u0:(List Int)){g:Value}{p:List (Nat×Obj)}(i:aO rI ro 3 g u0 p)(j:Int)(k:Int)(l:Int)(m:Int){b:Nat}(n:∀off sp,ro ⟨b,off,sp⟩=none){r:((Int×(List Int))×Int)}(h:wD u0 j k l m=some r):aE Tryz.prog 204 #[g,.int .i64 j,.int .i64 k,.int .i64 l,.pointer (some ⟨b,0,none⟩)] ⟨ro,(b,ic m)::p⟩ (fun v G=>∃a,(∃q,a=(b,ic r.2)::q/\v= .int .i64 r.1.1/\aO rI ro 3 g r.1.2 q)/\Le ⟨ro,a⟩ G):=by
 obtain ⟨d1,c2,rfl,S⟩:=i.len;unfold wD at h;revert h;refine cS (fun s h=>?_) fun s h=>?_
 ·cases h
 obtain ⟨o,T,rfl,rfl,U⟩:=i.iw s;refine aE.go Tryz.func204 rfl Tryz.ntmps204 Tryz.results204 (by simp) fun main J hJ A y hd hs=>?_;have z:=hs 0;have k1:=hs 1;have B:=hs 2;have C:=hs 3;have D:=hs 4;clear hs;refine aB hJ fun E=>?_;have F:=E.nd;simp only[keys,List.map_cons,List.map_nil,List.map_append,List.cons_append,List.nil_append,List.nodup_cons,List.mem_cons,List.mem_append,List.not_mem_nil,or_false,not_or] at F;refine af hJ ?_;refine aB hJ fun V=>?_;refine ak hJ ?_;simp only[*,go_sem];refine af hJ ?_;refine aB hJ fun W=>?_;refine ak hJ ?_;revert h;refine bS fun c H h=>?_;simp only[*,go_sem];refine dJ hJ [] [] _ (wC u0 i j k m n H) (fun X t d a e Y=>?_);obtain ⟨Z,rfl,rfl,u⟩:=d;obtain ⟨I,rfl⟩:=u.gA;simp only[aX] at e;subst a;refine ⟨⟨ro,(b,ic c.2)::[(o,Obj.cells I 3)]⟩,Le.refl _,?_⟩;refine aJ ?_;try simp only[*,go_sem]
 refine af hJ ?_;refine aB hJ fun ab=>?_;refine ak hJ ?_;revert h;refine bS fun f K h=>?_;simp only[*,go_sem];refine dJ hJ [] [] _ (wC c.1.2 u c.1.1.2 l c.2 n K) (fun ad t d a e ae=>?_);obtain ⟨al,rfl,rfl,w⟩:=d;obtain ⟨L,rfl⟩:=w.gA;simp only[aX] at e;subst a;refine ⟨⟨ro,(b,ic f.2)::[(o,Obj.cells L 3)]⟩,Le.refl _,?_⟩;refine aJ ?_;try simp only[*,go_sem]
 refine af hJ ?_;refine aB hJ fun ao=>?_;refine ak hJ ?_;revert h;refine bS fun M N h=>?_;obtain rfl:=sI h;simp only[*,go_sem];refine dJ hJ [] [] _ (wC f.1.2 w c.1.1.1 f.1.1.1 f.2 n N) (fun ar t d a e a0=>?_);obtain ⟨a2,rfl,rfl,x⟩:=d;obtain ⟨O,rfl⟩:=x.gA;simp only[aX] at e;subst a;refine ⟨⟨ro,(b,ic M.2)::[(o,Obj.cells O 3)]⟩,Le.refl _,?_⟩;refine aJ ?_;try simp only[*,go_sem]
 refine af hJ ?_;refine fN [0,2,10,12,20,28] fun a3 P Q R=>?_;simp only[*,go_sem] at P Q R;clear y hd z k1 B C D;refine aB hJ fun a4=>?_;refine ak hJ ?_;simp only[*,go_sem];refine az ?_;simp only[*,go_sem];exact ⟨_,⟨_,rfl,x⟩,Le.sub (List.Sublist.refl _)⟩
def wE (u0:(List Int))(b:Int)(d:Int):Option ((Int×Int)×(List Int)):=
 cond (List.isEmpty u0) none (ag (fC (IntKind.i64.wrap (d - b)) 4) fun c=>cond (decide (8<=(IntKind.i64.wrap (d - b)))) (cond (decide (50<=(IntKind.i64.wrap (d - b)))) (none) (ag (wD u0 (IntKind.i64.wrap (b+(IntKind.i64.wrap (c*1)))) (IntKind.i64.wrap (b+(IntKind.i64.wrap (c*2)))) (IntKind.i64.wrap (b+(IntKind.i64.wrap (c*3)))) 0) fun a=>cond ((a.2==0)) (some ((a.1.1,1),a.1.2)) (cond ((a.2==12)) (some ((a.1.1,2),a.1.2)) (some ((a.1.1,0),a.1.2))))) (some ((IntKind.i64.wrap (b+(IntKind.i64.wrap (c*2))),1),u0)))
theorem GW {ro:Addr->Option Value}(u0:(List Int)){e:Value}{g:List (Nat×Obj)}(b:aO rI ro 3 e u0 g)(a:Int)(i:Int){r:((Int×Int)×(List Int))}(h:wE u0 a i=some r):aE Tryz.prog 180 #[e,.int .i64 a,.int .i64 i] ⟨ro,g⟩ (fun v G=>∃c,(v= .tuple #[.int .i64 r.1.1,.int .i64 r.1.2]/\aO rI ro 3 e r.2 c)/\Le ⟨ro,c⟩ G):=by
 obtain ⟨d1,c2,rfl,N⟩:=b.len;unfold wE at h;revert h;refine cS (fun j h=>?_) fun j h=>?_
 ·cases h
 obtain ⟨p,O,rfl,rfl,P⟩:=b.iw j;refine aE.go Tryz.func180 rfl Tryz.ntmps180 Tryz.results180 (by simp) fun main J hJ A k hd hs=>?_;have l:=hs 0;have k1:=hs 1;have m:=hs 2;clear hs;refine af hJ ?_;refine aB hJ fun Q=>?_;refine ak hJ ?_;simp only[*,go_sem];refine af hJ ?_;refine aB hJ fun R=>?_;refine ak hJ ?_;simp only[*,go_sem];refine af hJ ?_;refine aB hJ fun q=>?_;refine ak hJ ?_;simp only[*,go_sem];refine aA fun s t n=>?_;have S:=aP.cons n q;try simp only[au] at n
 try simp only[*,go_sem]
 refine af hJ ?_;refine aB hJ fun T=>?_;refine ak hJ ?_;revert h;refine bS fun f o h=>?_;obtain ⟨U,V⟩:=j3 o;clear o;try simp only[*,go_sem]
 refine af hJ ?_;refine aB hJ fun W=>?_;refine ak hJ ?_;simp only[*,go_sem];refine af hJ ?_;refine aB hJ fun X=>?_;refine ak hJ ?_;simp only[*,go_sem];refine af hJ (af hJ ?_);refine aB hJ fun Y=>?_;refine ak hJ ?_;simp only[*,go_sem];revert h;refine jC hJ (by simp only[*,go_sem]) (fun u h=>?_) fun u h=>?_
 ·refine af hJ (af hJ ?_);refine aB hJ fun Z=>?_;refine ak hJ ?_;simp only[*,go_sem];revert h;refine jC hJ (by simp only[*,go_sem]) (fun w h=>?_) fun w h=>?_
  ·cases h
  refine aH hJ ?_;refine aB hJ fun ab=>?_;refine ak hJ ?_;revert h;refine bS fun x y h=>?_;simp only[*,go_sem];refine dJ hJ [] [] _ (GV u0 b (IntKind.i64.wrap (a+(IntKind.i64.wrap (f*1)))) (IntKind.i64.wrap (a+(IntKind.i64.wrap (f*2)))) (IntKind.i64.wrap (a+(IntKind.i64.wrap (f*3)))) 0 t y) (fun ad ae z c B al=>?_);obtain ⟨ao,rfl,rfl,d⟩:=z;obtain ⟨C,rfl⟩:=d.gA;simp only[aX] at B;subst c;refine ⟨⟨ro,(s,ic x.2)::[(p,Obj.cells C 3)]⟩,Le.refl _,?_⟩;refine aJ ?_;try simp only[*,go_sem]
  refine af hJ ?_;refine fN [0,6,7,9,11,44] fun ar D E F=>?_;simp only[*,go_sem] at D E F;clear k hd l k1 m;refine aB hJ fun a0=>?_;refine ak hJ ?_;simp only[*,go_sem];refine aN hJ (af hJ ?_);refine aB hJ fun a2=>?_;refine ak hJ ?_;simp only[*,go_sem];revert h;refine jC hJ (by simp only[*,go_sem]) (fun H h=>?_) fun H h=>?_
  ·obtain rfl:=sI h;refine af hJ ?_;refine aB hJ fun a3=>?_;refine ak hJ ?_;simp only[*,go_sem];refine az ?_;simp only[*,go_sem];exact ⟨_,d,Le.sub (.cons _ (List.Sublist.refl _))⟩
  refine af hJ ?_;refine aB hJ fun a4=>?_;refine ak hJ ?_;simp only[*,go_sem];revert h;refine jC hJ (by simp only[*,go_sem]) (fun I h=>?_) fun I h=>?_
  ·obtain rfl:=sI h;refine af hJ ?_;refine aB hJ fun a5=>?_;refine ak hJ ?_;simp only[*,go_sem];refine az ?_;simp only[*,go_sem];exact ⟨_,d,Le.sub (.cons _ (List.Sublist.refl _))⟩
  obtain rfl:=sI h;refine af hJ ?_;refine aB hJ fun a6=>?_;refine ak hJ ?_;simp only[*,go_sem];refine az ?_;simp only[*,go_sem];exact ⟨_,d,Le.sub (.cons _ (List.Sublist.refl _))⟩
 obtain rfl:=sI h;refine aH hJ (af hJ ?_);refine aB hJ fun a7=>?_;refine ak hJ ?_;simp only[*,go_sem];refine aN hJ (af hJ ?_);refine aB hJ fun a8=>?_;refine ak hJ ?_;simp only[*,go_sem];refine bE hJ (by simp only[*,go_sem]) ?_;refine af hJ ?_;refine fN [0,6,7,11] fun a9 K L M=>?_;simp only[*,go_sem] at K L M;clear k hd l k1 m;refine aB hJ fun ba=>?_;refine ak hJ ?_;simp only[*,go_sem];refine az ?_;simp only[*,go_sem];exact ⟨_,b,Le.sub (.cons _ (List.Sublist.refl _))⟩
end Go.Proofs.YtpgcmoanfifglaaGreatDoor
end
section
namespace Go.Sep
open Go Go.Conc
variable {P : Program} {main : Bool} {J : Goroutine → aa → Prop} {Q : Ex → Act → aa → Prop} {a : Act} {F : aa}
def Qn (E:Act->aa->Prop)(Q:Ex->Act->aa->Prop):Ex->Act->aa->Prop
 | .normal,a,F=>∃F0,Le F0 F/\E a F0
 | .exit i,a,F=>Q (.exit i) a F
 | .ret,a,F=>Q .ret a F
theorem GX (E:Act->aa->Prop)(Q:Ex->Act->aa->Prop)(i:Nat)(a:Act)(F:aa):Qn E Q (.exit i) a F=Q (.exit i) a F:=Eq.trans rfl rfl
theorem GY (E:Act->aa->Prop)(Q:Ex->Act->aa->Prop)(a:Act)(F:aa):Qn E Q .ret a F=Q .ret a F:=Eq.trans rfl rfl
attribute [go_sem] GX GY
theorem Qn.intro {E:Act->aa->Prop}(h:∃F0,Le F0 F/\E a F0):Qn E Q .normal a F:=h
theorem gi (hJ:Closed P main J){x y:Code}(E:Act->aa->Prop)(c:Wp J x (Qn E Q) a F)(d:∀a F,E a F->Wp J y Q a F):Wp J (.seq x y) Q a F:=
 af hJ (c.mono fun e a F b=>by
  cases e with
  |normal=>obtain ⟨F0,hle,f⟩:=b;exact cp hJ hle (d a F0 f)
  |exit i=>exact b
  |ret=>exact b)
theorem aO.cT {ro:Addr->Option Value}{e:TypeId}{b n cap:Nat}{l:List Int}{arr:Array Value}(h:aO rI ro e (.slice (some ⟨b,0,none⟩) n cap) l [(b,.cells arr e)]){i x:Int}(q:aY l i=some x):
  0<=i/\i<((n:Nat):Int)/\arr[i.toNat]?=some (.int .i64 x)/\i.toNat<arr.size:=by
 obtain ⟨a,f,c⟩:=cE q
 have g:=h.count
 obtain ⟨cs,d,hm⟩:=h.iU c
 obtain rfl:cs=[.int .i64 x]:=d
 have m:=hm 0 _ rfl
 have m:arr[i.toNat*1+0]?=some (.int .i64 x):=m
 rw[Nat.mul_one,Nat.add_zero] at m
 exact ⟨a,by omega,m,(Array.getElem?_eq_some_iff.1 m).1⟩
theorem aO.fQ {ro:Addr->Option Value}{e:TypeId}{b n cap:Nat}{l:List Int}{arr:Array Value}(h:aO rI ro e (.slice (some ⟨b,0,none⟩) n cap) l [(b,.cells arr e)]){i:Int}(a:0<=i)(c:i<((n:Nat):Int))(y:Int):
  aO rI ro e (.slice (some ⟨b,0,none⟩) n cap) (l.set i.toNat y) [(b,.cells (cM arr i.toNat [.int .i64 y]) e)]:=by
 have d:=h.count
 have:=h.rZ (i:=i.toNat) (y:=y) (by omega) (cs:=[.int .i64 y]) rfl
 rwa [show i.toNat*rI.n=i.toNat from Nat.mul_one _] at this
end Go.Sep
end
section
namespace Go.Proofs.YtpgcmoanfifglaaGreatDoor
open Go Go.Sep Go.Proofs
set_option maxRecDepth 100000
set_option maxHeartbeats 4000000
def lz (m:Nat):Nat:=if m=0 then 0 else m.log2+1
def sR (n:Int):Option Int:=if 0<=n/\n<256 then some ((lz n.toNat:Nat):Int) else none
theorem GZ:∀m:Fin 256,lz m.val<=8:=by decide+kernel
theorem G0 {ro:Addr->Option Value}(n:Int)(c:0<=n)(d:n<256):aE Tryz.prog 187 #[.int .u64 n] ⟨ro,[]⟩ (fun v _=>v= .int .i64 ((lz n.toNat:Nat):Int)):=by
 refine aE.go Tryz.func187 rfl Tryz.ntmps187 Tryz.results187 (by simp) fun main J hJ A e hd hs=>?_;have f:=hs 0;clear hs;have a1:¬(4294967296:Int)<=n:=by omega
 have a2:¬(65536:Int)<=n:=by omega
 have a3:¬(256:Int)<=n:=by omega
 have g:Tryz.prog.underlying 187=some (.int .u64):=by kernel_rfl
 have h:Tryz.prog.underlying 5=some (.int .u8):=by kernel_rfl
 have i:Tryz.prog.underlying 3=some (.int .i64):=by kernel_rfl
 have j:Tryz.prog.underlying 9=some .string:=by kernel_rfl
 have a4:IntKind.u8.wrap n=n:=IntWalk.u8_in n ⟨c,by omega⟩;repeat refine af hJ ?_
 refine ak hJ ?_;simp only[*,go_sem];repeat refine af hJ ?_
 refine ak hJ ?_;simp only[*,go_sem];repeat refine af hJ ?_
 refine bD hJ (by simp only[*,go_sem,ge_iff_le]) ?_;refine aH hJ ?_;repeat refine af hJ ?_
 refine ak hJ ?_;simp only[*,go_sem];repeat refine af hJ ?_
 refine bD hJ (by simp only[*,go_sem,ge_iff_le]) ?_;refine aH hJ ?_;repeat refine af hJ ?_
 refine ak hJ ?_;simp only[*,go_sem];repeat refine af hJ ?_
 refine bD hJ (by simp only[*,go_sem,ge_iff_le]) ?_;refine aH hJ ?_;repeat refine af hJ ?_
 refine ak hJ ?_;simp only[*,go_sem];generalize a:ByteArray.mk _=S;have key:∀m:Fin 256,S[m.val]?=some (UInt8.ofNat (lz m.val)):=by rw[<-a];decide+kernel
 clear a;have b:n.toNat<256:=by omega
 have hb:=key ⟨n.toNat,b⟩;have hle:=GZ ⟨n.toNat,b⟩;simp only at hb hle;simp only[hb,Option.map_some];refine az ?_;simp only[*,go_sem];have e1:(UInt8.ofNat (lz n.toNat)).toNat=lz n.toNat:=by rw[UInt8.toNat_ofNat'];omega
 rw[e1,IntWalk.i64_in (lz n.toNat:Int) ⟨by omega,by omega⟩,Int.zero_add,IntWalk.i64_in (lz n.toNat:Int) ⟨by omega,by omega⟩]
theorem A7 {ro:Addr->Option Value}(n:Int){r:Int}(h:sR n=some r):aE Tryz.prog 149 #[.int .u64 n] ⟨ro,[]⟩ (fun v _=>v= .int .i64 r):=by
 unfold sR at h;split at h
 case isFalse=>cases h
 rename_i a;obtain ⟨b,c⟩:=a;cases h;refine aE.go Tryz.func149 rfl Tryz.ntmps149 Tryz.results149 (by simp) fun main J hJ A d hd hs=>?_;have e:=hs 0;clear hs;repeat refine af hJ ?_
 refine ak hJ ?_;simp only[*,go_sem];repeat refine af hJ ?_
 refine bD hJ (by simp only[*,go_sem]) ?_;refine aH hJ ?_;repeat refine af hJ ?_
 refine ak hJ ?_;simp only[*,go_sem];refine bn hJ _ (G0 n b c) (aJ ?_);simp only[*,go_sem];refine az ?_;simp only[*,go_sem]
end Go.Proofs.YtpgcmoanfifglaaGreatDoor
end

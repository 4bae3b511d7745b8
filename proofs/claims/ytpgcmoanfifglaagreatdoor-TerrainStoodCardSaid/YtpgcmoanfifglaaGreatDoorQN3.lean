/- A part of the proof of a row and its tied card: QN3. -/
import Derived.Test.YtpgcmoanfifglaaGreatDoorQN2
set_option linter.all false
section
namespace Go.Proofs.YtpgcmoanfifglaaGreatDoor
open Go Go.Sep Go.Proofs
set_option maxRecDepth 100000
set_option maxHeartbeats 4000000
def fG (u0:Int)(a:Int)(b:Int):Option Bool:=
 cond (decide (a<=u0)) (some (decide (u0<=b))) (some false)
theorem gA {ro:Addr->Option Value}(u0:Int)(a:Int)(b:Int){r:Bool}(h:fG u0 a b=some r):aD Tryz.prog 114 #[.int .i64 u0,.int .i64 a,.int .i64 b] ⟨ro,[]⟩ (fun v _=>v= .bool r):=by
 unfold fG at h;refine aD.go Tryz.func114 rfl Tryz.ntmps114 Tryz.results114 (by simp) fun main J hJ A d hd hs=>?_;have e:=hs 0;have k1:=hs 1;have f:=hs 2;clear hs;refine ah hJ ?_;simp only[*,go_sem];refine ah hJ ?_;revert h;refine cS (fun c h=>?_) fun c h=>?_
 ·obtain rfl:=sI h;try simp only[*,go_sem]
  refine ay ?_;simp only[*,go_sem]
 obtain rfl:=sI h;try simp only[*,go_sem]
 refine ay ?_;simp only[*,go_sem]
def gd (u0:Int):Option an:=
 some (⟨u0,1⟩:an)
theorem ju {ro:Addr->Option Value}(u0:Int){r:an}(h:gd u0=some r):aD Tryz.prog 83 #[.int .i64 u0] ⟨ro,[]⟩ (fun v _=>v=r.v):=by
 unfold gd at h;obtain rfl:=sI h;refine aD.go Tryz.func83 rfl Tryz.ntmps83 Tryz.results83 (by simp) fun main J hJ A a hd hs=>?_;have b:=hs 0;clear hs;refine ah hJ ?_;simp only[*,go_sem];refine aA fun c r1 n1=>?_;try simp only[au] at n1
 try simp only[*,go_sem]
 refine ah hJ ?_;simp only[*,go_sem];refine ay ?_;simp only[*,go_sem]
def eF (u0:an)(a:an):Option Bool:=
 some (decide ((IntKind.i64.wrap (u0.num*a.den))<(IntKind.i64.wrap (a.num*u0.den))))
theorem iS {ro:Addr->Option Value}(u0:an)(a:an){r:Bool}(h:eF u0 a=some r):aD Tryz.prog 76 #[.agg #[.int .i64 u0.num,.int .i64 u0.den],.agg #[.int .i64 a.num,.int .i64 a.den]] ⟨ro,[]⟩ (fun v _=>v= .bool r):=by
 unfold eF at h;obtain rfl:=sI h;refine aD.go Tryz.func76 rfl Tryz.ntmps76 Tryz.results76 (by simp) fun main J hJ A b hd hs=>?_;have c:=hs 0;have k1:=hs 1;clear hs;refine ah hJ ?_;simp only[*,go_sem];refine aA fun d r1 n1=>?_;try simp only[au] at n1
 refine aA fun b2 r2 n2=>?_;try simp only[au] at n2
 try simp only[*,go_sem]
 refine ah hJ ?_;simp only[*,go_sem];refine ay ?_;simp only[*,go_sem]
def pS (u0:c6)(a:Int)(b:Int):Option Bool:=
 cond (decide (a<=u0.low)) (cond (decide (u0.low<=u0.high)) (some (decide (u0.high<=b))) (some false)) (some false)
theorem AJ {ro:Addr->Option Value}(u0:c6)(a:Int)(b:Int){r:Bool}(h:pS u0 a b=some r):aD Tryz.prog 70 #[.agg #[.int .i64 u0.low,.int .i64 u0.high],.int .i64 a,.int .i64 b] ⟨ro,[]⟩ (fun v _=>v= .bool r):=by
 unfold pS at h;refine aD.go Tryz.func70 rfl Tryz.ntmps70 Tryz.results70 (by simp) fun main J hJ A e hd hs=>?_;have f:=hs 0;have k1:=hs 1;have g:=hs 2;clear hs;refine ah hJ ?_;simp only[*,go_sem];refine aA fun i r1 n1=>?_;try simp only[au] at n1
 try simp only[*,go_sem]
 refine ah hJ ?_;revert h;refine cS (fun c h=>?_) fun c h=>?_
 ·revert h;refine cS (fun d h=>?_) fun d h=>?_
  ·obtain rfl:=sI h;(try simp only[*,go_sem]);refine ay ?_;simp only[*,go_sem]
  obtain rfl:=sI h;try simp only[*,go_sem]
  refine ay ?_;simp only[*,go_sem]
 obtain rfl:=sI h;try simp only[*,go_sem]
 refine ay ?_;simp only[*,go_sem]
def iT (u0:bC)(a:bC):Option Bool:=
 ag (eF u0.high a.high) fun b=>some b
theorem rY {ro:Addr->Option Value}(u0:bC)(a:bC){r:Bool}(h:iT u0 a=some r):aD Tryz.prog 88 #[.agg #[.int .i64 u0.spot.aH,.int .i64 u0.spot.high.num,.int .i64 u0.spot.high.den,.int .i64 u0.at_,.int .i64 u0.high.num,.int .i64 u0.high.den],.agg #[.int .i64 a.spot.aH,.int .i64 a.spot.high.num,.int .i64 a.spot.high.den,.int .i64 a.at_,.int .i64 a.high.num,.int .i64 a.high.den]] ⟨ro,[]⟩ (fun v _=>v= .bool r):=by
 unfold iT at h;refine aD.go Tryz.func88 rfl Tryz.ntmps88 Tryz.results88 (by simp) fun main J hJ A c hd hs=>?_;have d:=hs 0;have k1:=hs 1;clear hs;refine ah hJ ?_;simp only[*,go_sem];refine aA fun e r1 n1=>?_;try simp only[au] at n1
 refine aA fun b2 r2 n2=>?_;try simp only[au] at n2
 try simp only[*,go_sem]
 refine ah hJ ?_;revert h;refine bS fun f b h=>?_;obtain rfl:=sI h;simp only[*,go_sem];refine bn hJ _ (iS u0.high a.high b) (aK ?_);try simp only[*,go_sem]
 refine ay ?_;simp only[*,go_sem]
def gf (u0:Int)(b:ak):Option Int:=
 ag (fG u0 1 20) fun a=>cond (!a) (some 1) (some 0)
theorem vK {ro:Addr->Option Value}(u0:Int)(b:ak){s1 c d f:Value}(a:bK ro b s1 c d f){r:Int}(h:gf u0 b=some r):aD Tryz.prog 96 #[.int .i64 u0,bv b s1 c d f] ⟨ro,[]⟩ (fun v _=>v= .int .i64 r):=by
 obtain ⟨d3,c4,rfl,k,l,-⟩:=id a.e;obtain ⟨d10,m,rfl,n,o,-⟩:=id a.p;obtain ⟨d17,q,rfl,s,u,-⟩:=id a.y;obtain ⟨d24,w,rfl,x,z,-⟩:=id a.t;unfold gf at h;refine aD.go Tryz.func96 rfl Tryz.ntmps96 Tryz.results96 (by simp) fun main J hJ A B hd hs=>?_;have C:=hs 0;have k1:=hs 1;clear hs;refine ah hJ ?_;simp only[*,go_sem];refine aA fun D E g=>?_;try simp only[au] at g
 try simp only[*,go_sem]
 refine af hJ (ah hJ ?_);revert h;refine bS fun F i h=>?_;simp only[*,go_sem];refine bn hJ _ (gA u0 1 20 i) (aK ?_);try simp only[*,go_sem]
 revert h;refine jC hJ (by simp only[*,go_sem]) (fun j h=>?_) fun j h=>?_
 ·obtain rfl:=sI h;refine ah hJ ?_;simp only[*,go_sem];refine ay ?_;simp only[*,go_sem]
 obtain rfl:=sI h;refine aI hJ (af hJ ?_);refine aj hJ ?_;simp only[*,go_sem];refine ay ?_;simp only[*,go_sem]
def eJ (u0:aQ)(c:ak):Option Int:=
 ag (fG u0.back 1 20) fun a=>cond (!a) (some 1) (ag (fG u0.high 0 60) fun b=>cond (!b) (some 1) (some 0))
theorem rZ {ro:Addr->Option Value}(u0:aQ)(b:ak){s1 c d f:Value}(a:bK ro b s1 c d f){r:Int}(h:eJ u0 b=some r):aD Tryz.prog 78 #[.agg #[.int .i64 u0.back,.int .i64 u0.high],bv b s1 c d f] ⟨ro,[]⟩ (fun v _=>v= .int .i64 r):=by
 obtain ⟨d3,c4,rfl,n,o,-⟩:=id a.e;obtain ⟨d10,q,rfl,s,u,-⟩:=id a.p;obtain ⟨d17,w,rfl,x,z,-⟩:=id a.y;obtain ⟨d24,B,rfl,C,D,-⟩:=id a.t;unfold eJ at h;refine aD.go Tryz.func78 rfl Tryz.ntmps78 Tryz.results78 (by simp) fun main J hJ A E hd hs=>?_;have F:=hs 0;have k1:=hs 1;clear hs;refine ah hJ ?_;simp only[*,go_sem];refine aA fun G H g=>?_;try simp only[au] at g
 refine aA fun I K i=>?_;try simp only[au] at i
 try simp only[*,go_sem]
 refine af hJ (ah hJ ?_);revert h;refine bS fun L j h=>?_;simp only[*,go_sem];refine bn hJ _ (gA u0.back 1 20 j) (aK ?_);revert h;refine cS (fun k h=>?_) fun k h=>?_
 ·obtain rfl:=sI h;try simp only[*,go_sem]
  refine bP hJ (by simp only[*,go_sem]) ?_;refine ah hJ ?_;simp only[*,go_sem];refine ay ?_;simp only[*,go_sem]
 revert h;refine bS fun M l h=>?_;try simp only[*,go_sem]
 refine bn hJ _ (gA u0.high 0 60 l) (aK ?_);try simp only[*,go_sem]
 revert h;refine jC hJ (by simp only[*,go_sem]) (fun m h=>?_) fun m h=>?_
 ·obtain rfl:=sI h;refine ah hJ ?_;simp only[*,go_sem];refine ay ?_;simp only[*,go_sem]
 obtain rfl:=sI h;refine aI hJ (af hJ ?_);refine aj hJ ?_;simp only[*,go_sem];refine ay ?_;simp only[*,go_sem]
def nh (u0:ak)(a:Int):Option Bool:=
 ag (fG a 0 (IntKind.i64.wrap ((u0.aG.length:Int) - 1))) fun b=>some b
theorem AK {ro:Addr->Option Value}(u0:ak){s1 c d f:Value}(a:bK ro u0 s1 c d f)(b:Int){r:Bool}(h:nh u0 b=some r):aD Tryz.prog 120 #[bv u0 s1 c d f,.int .i64 b] ⟨ro,[]⟩ (fun v _=>v= .bool r):=by
 obtain ⟨d3,c4,rfl,j,k,-⟩:=id a.e;obtain ⟨d10,l,rfl,m,n,-⟩:=id a.p;obtain ⟨d17,o,rfl,q,s,-⟩:=id a.y;obtain ⟨d24,u,rfl,w,x,-⟩:=id a.t;unfold nh at h;refine aD.go Tryz.func120 rfl Tryz.ntmps120 Tryz.results120 (by simp) fun main J hJ A z hd hs=>?_;have B:=hs 0;have k1:=hs 1;clear hs;refine ah hJ ?_;simp only[*,go_sem];refine aA fun C D g=>?_;try simp only[au] at g
 try simp only[*,go_sem]
 refine ah hJ ?_;revert h;refine bS fun E i h=>?_;obtain rfl:=sI h;simp only[*,go_sem];refine bn hJ _ (gA b 0 (IntKind.i64.wrap ((u0.aG.length:Int) - 1)) i) (aK ?_);try simp only[*,go_sem]
 refine ay ?_;simp only[*,go_sem]
def ef (u0:ak)(a:Int):Option Bool:=
 ag (bf u0.av 0) fun b=>ag (bf u0.av (IntKind.i64.wrap ((u0.av.length:Int) - 1))) fun c=>ag (fG a b.aH c.aH) fun d=>some d
theorem r4 {ro:Addr->Option Value}(u0:ak){s1 f g i:Value}(a:bK ro u0 s1 f g i)(b:Int){r:Bool}(h:ef u0 b=some r):aD Tryz.prog 140 #[bv u0 s1 f g i,.int .i64 b] ⟨ro,[]⟩ (fun v _=>v= .bool r):=by
 obtain ⟨d3,c4,rfl,E,G,-⟩:=id a.e;unfold ef at h;refine aD.go Tryz.func140 rfl Tryz.ntmps140 Tryz.results140 (by simp) fun main J hJ A H hd hs=>?_;have I:=hs 0;have k1:=hs 1;clear hs;refine ah hJ ?_;simp only[*,go_sem];refine aA fun K L n=>?_;try simp only[au] at n
 try simp only[*,go_sem]
 refine af hJ ?_;refine cQ hJ mixed 20 1 (by simp only[*,go_sem]) (by kernel_rfl) ?_;revert h;refine bS fun j o h=>?_;obtain ⟨M,N,k⟩:=cH o;obtain ⟨O,p,q,s,c⟩:=a.e.el _ _ k;obtain rfl:p=j.cells:=s;cases q;have t:=c 0 _ rfl;simp only[go_sem] at t;have u:=c 1 _ rfl;simp only[go_sem] at u;clear c k;revert h;refine bS fun l w h=>?_;obtain ⟨P,Q,m⟩:=cH w;obtain ⟨R,x,y,z,d⟩:=a.e.el _ _ m;obtain rfl:x=l.cells:=z;cases y;have B:=d 0 _ rfl;simp only[go_sem] at B;have C:=d 1 _ rfl;simp only[go_sem] at C;clear d m;revert h;refine bS fun S D h=>?_;obtain rfl:=sI h;try simp only[*,go_sem]
 refine ⟨_,bD hJ fun F T=>gA b j.aH l.aH D,b9 ?_⟩;try simp only[*,go_sem]
 refine ay ?_;simp only[*,go_sem]
def eK (u0:Int)(a:ak):Option Int:=
 ag (nh a u0) fun b=>cond (!b) (some 6) (some 0)
theorem r5 {ro:Addr->Option Value}(u0:Int)(b:ak){s1 c d f:Value}(a:bK ro b s1 c d f){r:Int}(h:eK u0 b=some r):aD Tryz.prog 68 #[.int .i64 u0,bv b s1 c d f] ⟨ro,[]⟩ (fun v _=>v= .int .i64 r):=by
 obtain ⟨d3,c4,rfl,k,l,-⟩:=id a.e;obtain ⟨d10,m,rfl,n,o,-⟩:=id a.p;obtain ⟨d17,q,rfl,s,u,-⟩:=id a.y;obtain ⟨d24,w,rfl,x,z,-⟩:=id a.t;unfold eK at h;refine aD.go Tryz.func68 rfl Tryz.ntmps68 Tryz.results68 (by simp) fun main J hJ A B hd hs=>?_;have C:=hs 0;have k1:=hs 1;clear hs;refine ah hJ ?_;simp only[*,go_sem];refine aA fun D E g=>?_;try simp only[au] at g
 try simp only[*,go_sem]
 refine af hJ (ah hJ ?_);revert h;refine bS fun F i h=>?_;simp only[*,go_sem];refine bn hJ _ (AK b (a.mono aT) u0 i) (aK ?_);try simp only[*,go_sem]
 revert h;refine jC hJ (by simp only[*,go_sem]) (fun j h=>?_) fun j h=>?_
 ·obtain rfl:=sI h;refine ah hJ ?_;simp only[*,go_sem];refine ay ?_;simp only[*,go_sem]
 obtain rfl:=sI h;refine aI hJ (af hJ ?_);refine aj hJ ?_;simp only[*,go_sem];refine ay ?_;simp only[*,go_sem]
def ni (u0:Int)(a:ak):Option Int:=
 ag (ef a u0) fun b=>cond (!b) (some 6) (some 0)
theorem F9 {ro:Addr->Option Value}(u0:Int)(b:ak){s1 c d f:Value}(a:bK ro b s1 c d f){r:Int}(h:ni u0 b=some r):aD Tryz.prog 115 #[.int .i64 u0,bv b s1 c d f] ⟨ro,[]⟩ (fun v _=>v= .int .i64 r):=by
 obtain ⟨d3,c4,rfl,k,l,-⟩:=id a.e;obtain ⟨d10,m,rfl,n,o,-⟩:=id a.p;obtain ⟨d17,q,rfl,s,u,-⟩:=id a.y;obtain ⟨d24,w,rfl,x,z,-⟩:=id a.t;unfold ni at h;refine aD.go Tryz.func115 rfl Tryz.ntmps115 Tryz.results115 (by simp) fun main J hJ A B hd hs=>?_;have C:=hs 0;have k1:=hs 1;clear hs;refine ah hJ ?_;simp only[*,go_sem];refine aA fun D E g=>?_;try simp only[au] at g
 try simp only[*,go_sem]
 refine af hJ (ah hJ ?_);revert h;refine bS fun F i h=>?_;simp only[*,go_sem];refine bn hJ _ (r4 b (a.mono aT) u0 i) (aK ?_);try simp only[*,go_sem]
 revert h;refine jC hJ (by simp only[*,go_sem]) (fun j h=>?_) fun j h=>?_
 ·obtain rfl:=sI h;refine ah hJ ?_;simp only[*,go_sem];refine ay ?_;simp only[*,go_sem]
 obtain rfl:=sI h;refine aI hJ (af hJ ?_);refine aj hJ ?_;simp only[*,go_sem];refine ay ?_;simp only[*,go_sem]
def pU (st:(Int×Int)):Option (Fl (Int×Int) an):=
 cond ((st.2 != 0)) (ag (ga st.1 st.2) fun a=>some (.nx (st.2,a))) (some (.bk (st.1,st.2)))
def j3 (u0:Int)(a:Int):Option an:=
 ag (aR (pU) fu ((if u0<IntKind.i64.wrap (0 - u0) then IntKind.i64.wrap (0 - u0) else u0),a)) fun o=>aB o (fun b=>ag (fD u0 b.1) fun c=>ag (fD a b.1) fun d=>some (⟨c,d⟩:an)) (fun _ _=>none) (fun r=>some r)
theorem pV {ro:Addr->Option Value}(u0:Int)(c:Int){r:an}(h:j3 u0 c=some r):aD Tryz.prog 127 #[.int .i64 u0,.int .i64 c] ⟨ro,[]⟩ (fun v _=>v=r.v):=by
 unfold j3 at h;refine aD.go Tryz.func127 rfl Tryz.ntmps127 Tryz.results127 (by simp) fun main J hJ A l hd hs=>?_;have n:=hs 0;have k1:=hs 1;clear hs;refine ah hJ ?_;simp only[*,go_sem];refine aA fun o r1 n1=>?_;try simp only[au] at n1
 try simp only[*,go_sem]
 refine ah hJ ?_;simp only[*,go_sem];refine af hJ (aN hJ ?_);revert h;refine bS fun o4 a p=>?_;refine bQ hJ [5,6,12,13,14,15,16,17] (fun m f F'=>∃(v2:Int) (b:Int),aR (pU) m (v2,b)=some o4/\F'=⟨ro,(o,rt 0 0)::[]⟩/\slot f 5= .int .i64 v2/\slot f 6= .int .i64 b) fu ?_ ?_
 ·refine ⟨(if u0<IntKind.i64.wrap (0 - u0) then IntKind.i64.wrap (0 - u0) else u0),c,a,rfl,?_⟩;simp only[*,go_sem]
 rintro d x F' g ⟨v2,b,a,rfl,y,z⟩;obtain ⟨q,s,t⟩:=g.pick [0,1,4] (by decide);simp only[*,go_sem] at q s t;clear g l hd n k1;obtain _|d:=d
 ·exact absurd a (by simp only[aR,reduceCtorEq,not_false_eq_true])
 revert a;refine bS fun B h e=>?_;unfold pU at h;try dsimp only at h
 refine af hJ (ah hJ ?_);simp only[*,go_sem];revert h;refine jC hJ (by simp only[*,go_sem]) (fun u h=>?_) fun u h=>?_
 ·refine aI hJ (aN hJ ?_);refine cQ hJ mixed 6 1 (by simp only[*,go_sem]) (by kernel_rfl) ?_;revert h;refine bS fun w i h=>?_;obtain rfl:=sI h;obtain ⟨C,D⟩:=m6 i;clear i;try simp only[*,go_sem]
  refine ⟨d,Nat.lt_succ_self _,_,Le.sub (List.Sublist.refl _),b,w,e,rfl,?_⟩;simp only[*,go_sem]
 obtain rfl:=sI h;refine bJ ?_;simp only[go_sem];obtain rfl:=sI e;clear e;have h:=p;dsimp only[aB] at h;refine af hJ ?_;refine cQ hJ mixed 7 0 (by simp only[*,go_sem]) (by kernel_rfl) ?_;revert h;refine bS fun E j h=>?_;obtain ⟨F,G⟩:=jT j;clear j;revert h;refine bS fun H k h=>?_;obtain rfl:=sI h;obtain ⟨I,K⟩:=jT k;clear k;try simp only[*,go_sem]
 refine ay ?_;simp only[*,go_sem]
def jv (u0:an)(a:an):Option an:=
 ag (j3 (IntKind.i64.wrap ((IntKind.i64.wrap (u0.num*a.den))+(IntKind.i64.wrap (a.num*u0.den)))) (IntKind.i64.wrap (u0.den*a.den))) fun b=>some b
theorem pW {ro:Addr->Option Value}(u0:an)(a:an){r:an}(h:jv u0 a=some r):aD Tryz.prog 91 #[.agg #[.int .i64 u0.num,.int .i64 u0.den],.agg #[.int .i64 a.num,.int .i64 a.den]] ⟨ro,[]⟩ (fun v _=>v=r.v):=by
 unfold jv at h;refine aD.go Tryz.func91 rfl Tryz.ntmps91 Tryz.results91 (by simp) fun main J hJ A c hd hs=>?_;have d:=hs 0;have k1:=hs 1;clear hs;refine ah hJ ?_;simp only[*,go_sem];refine aA fun e r1 n1=>?_;try simp only[au] at n1
 refine aA fun b2 r2 n2=>?_;try simp only[au] at n2
 refine aA fun b3 r3 n3=>?_;try simp only[au] at n3
 try simp only[*,go_sem]
 refine ah hJ ?_;revert h;refine bS fun f b h=>?_;obtain rfl:=sI h;simp only[*,go_sem];refine bn hJ _ (pV (IntKind.i64.wrap ((IntKind.i64.wrap (u0.num*a.den))+(IntKind.i64.wrap (a.num*u0.den)))) (IntKind.i64.wrap (u0.den*a.den)) b) (aK ?_);try simp only[*,go_sem]
 refine ay ?_;simp only[*,go_sem]
def jw (u0:an)(a:an):Option an:=
 ag (jv u0 (⟨IntKind.i64.wrap (0 - a.num),a.den⟩:an)) fun b=>some b
theorem pX {ro:Addr->Option Value}(u0:an)(a:an){r:an}(h:jw u0 a=some r):aD Tryz.prog 90 #[.agg #[.int .i64 u0.num,.int .i64 u0.den],.agg #[.int .i64 a.num,.int .i64 a.den]] ⟨ro,[]⟩ (fun v _=>v=r.v):=by
 unfold jw at h;refine aD.go Tryz.func90 rfl Tryz.ntmps90 Tryz.results90 (by simp) fun main J hJ A c hd hs=>?_;have d:=hs 0;have k1:=hs 1;clear hs;refine ah hJ ?_;simp only[*,go_sem];refine aA fun e r1 n1=>?_;try simp only[au] at n1
 refine aA fun b2 r2 n2=>?_;try simp only[au] at n2
 refine aA fun b3 r3 n3=>?_;try simp only[au] at n3
 try simp only[*,go_sem]
 refine ah hJ ?_;revert h;refine bS fun f b h=>?_;obtain rfl:=sI h;simp only[*,go_sem];refine bn hJ _ (pW u0 (⟨IntKind.i64.wrap (0 - a.num),a.den⟩:an) b) (aK ?_);try simp only[*,go_sem]
 refine ay ?_;simp only[*,go_sem]
def j4 (u0:ak)(a:aQ)(e:Int)(b:gQ):Option bC:=
 ag (gd a.high) fun f=>ag (jw b.high f) fun c=>ag (j3 (IntKind.i64.wrap (u0.bG+a.back)) (IntKind.i64.wrap (b.aH+a.back))) fun d=>ag (gd a.high) fun g=>ag (j3 (IntKind.i64.wrap (c.num*d.num)) (IntKind.i64.wrap (c.den*d.den))) fun h=>ag (jv g h) fun i=>some (⟨b,e,i⟩:bC)
theorem AL {ro:Addr->Option Value}(u0:ak){s1 c d e:Value}(K:bK ro u0 s1 c d e)(b:aQ)(j:Int)(a:gQ){r:bC}(h:j4 u0 b j a=some r):aD Tryz.prog 126 #[bv u0 s1 c d e,.agg #[.int .i64 b.back,.int .i64 b.high],.int .i64 j,.agg #[.int .i64 a.aH,.int .i64 a.high.num,.int .i64 a.high.den]] ⟨ro,[]⟩ (fun v _=>v=r.v):=by
 unfold j4 at h;refine aD.go Tryz.func126 rfl Tryz.ntmps126 Tryz.results126 (by simp) fun main J hJ A L hd hs=>?_;have M:=hs 0;have k1:=hs 1;have N:=hs 2;have O:=hs 3;clear hs;refine ah hJ ?_;simp only[*,go_sem];refine aA fun k P n=>?_;try simp only[au] at n
 refine aA fun l Q o=>?_;try simp only[au] at o
 refine aA fun m R p=>?_;try simp only[au] at p
 refine aA fun q S s=>?_;try simp only[au] at s
 try simp only[*,go_sem]
 refine af hJ ?_;refine fc hJ mixed 6 ⟨ro,[(q,.cells #[.int .i64 0,.int .i64 0,.int .i64 0,.int .i64 0,.int .i64 0,.int .i64 0] 147),(m,.cells #[.int .i64 a.aH,.int .i64 a.high.num,.int .i64 a.high.den] 145),(l,.cells #[.int .i64 b.back,.int .i64 b.high] 134),(k,bl u0 s1 c d e)]⟩ (by simp only[*,go_sem]) (by kernel_rfl) ?_;revert h;refine bS fun t u h=>?_;simp only[*,go_sem];refine ⟨_,bD hJ fun F f=>ju b.high u,b9 ?_⟩;revert h;refine bS fun g w h=>?_;try simp only[*,go_sem]
 refine ⟨_,bD hJ fun F f=>pX a.high t w,?_⟩;try simp only[*,go_sem]
 refine aA fun x T y=>?_;try simp only[au] at y
 try simp only[*,go_sem]
 refine ah hJ ?_;revert h;refine bS fun i z h=>?_;simp only[*,go_sem];refine bn hJ _ (pV (IntKind.i64.wrap (u0.bG+b.back)) (IntKind.i64.wrap (a.aH+b.back)) z) (aK ?_);try simp only[*,go_sem]
 refine aA fun B U C=>?_;try simp only[au] at C
 try simp only[*,go_sem]
 refine af hJ ?_;refine fc hJ mixed 18 ⟨ro,[(B,rt i.num i.den),(x,rt g.num g.den),(m,.cells #[.int .i64 a.aH,.int .i64 a.high.num,.int .i64 a.high.den] 145),(l,.cells #[.int .i64 b.back,.int .i64 b.high] 134),(k,bl u0 s1 c d e)]⟩ (by simp only[*,go_sem]) (by kernel_rfl) ?_;revert h;refine bS fun D E h=>?_;simp only[*,go_sem];refine ⟨_,bD hJ fun F f=>ju b.high E,b9 ?_⟩;revert h;refine bS fun G H h=>?_;try simp only[*,go_sem]
 refine ⟨_,bD hJ fun F f=>pV (IntKind.i64.wrap (g.num*i.num)) (IntKind.i64.wrap (g.den*i.den)) H,b9 ?_⟩;revert h;refine bS fun V I h=>?_;obtain rfl:=sI h;try simp only[*,go_sem]
 refine ⟨_,bD hJ fun F f=>pW D G I,b9 ?_⟩;try simp only[*,go_sem]
 refine ay ?_;simp only[*,go_sem]
def iU (u0:ak)(a:Int)(b:Int):Option aQ:=
 ag (bf u0.aG a) fun c=>some (⟨c.back,b⟩:aQ)
theorem l8 {ro:Addr->Option Value}(u0:ak){s1 c d f:Value}(a:bK ro u0 s1 c d f)(g:Int)(i:Int){r:aQ}(h:iU u0 g i=some r):aD Tryz.prog 74 #[bv u0 s1 c d f,.int .i64 g,.int .i64 i] ⟨ro,[]⟩ (fun v _=>v=r.v):=by
 obtain ⟨d3,c4,rfl,z,B,-⟩:=id a.e;obtain ⟨d10,C,rfl,D,E,-⟩:=id a.p;obtain ⟨d17,F,rfl,G,H,-⟩:=id a.y;obtain ⟨d24,I,rfl,K,L,-⟩:=id a.t;unfold iU at h;refine aD.go Tryz.func74 rfl Tryz.ntmps74 Tryz.results74 (by simp) fun main J hJ A M hd hs=>?_;have N:=hs 0;have k1:=hs 1;have O:=hs 2;clear hs;refine ah hJ ?_;simp only[*,go_sem];refine aA fun P Q k=>?_;try simp only[au] at k
 refine aA fun R S l=>?_;try simp only[au] at l
 try simp only[*,go_sem]
 refine ah hJ ?_;revert h;refine bS fun m n h=>?_;obtain rfl:=sI h;obtain ⟨T,U,j⟩:=cH n;obtain ⟨V,o,q,s,b⟩:=a.y.el _ _ j;obtain rfl:o=m.cells:=s;cases q;have u:=b 0 _ rfl;simp only[go_sem] at u;have w:=b 1 _ rfl;simp only[go_sem] at w;have x:=b 2 _ rfl;simp only[go_sem] at x;clear b j;try simp only[*,go_sem]
 refine ay ?_;simp only[*,go_sem]
def pY (u0:(bC->bC->Option Bool))(i11:Nat)(a:bC)(st:bC):Option (Fl bC bC):=
 ag (u0 st a) fun b=>cond (b) (some (.nx a)) (some (.nx st))
def l9 (u0:(bC->bC->Option Bool))(a:bC)(b:(List bC)):Option bC:=
 ag (bB (pY u0) 0 b a) fun o=>aB o (fun c=>some c) (fun _ _=>none) (fun r=>some r)
theorem r6 {ro:Addr->Option Value}(u0:(bC->bC->Option Bool)){dK:FuncId}{eg ei:Array Value}(s:aJ Tryz.prog dK=true/\∀(aM:Addr->Option Value),Ext ro aM->∀(i:bC) (j:bC) (z:Bool),u0 i j=some z->aD Tryz.prog dK (eg++#[i.v,j.v]++ei) ⟨aM,[]⟩ (fun v _=>v= .bool z))(c:bC)(b:(List bC)){s1:Value}(k:aC j0 ro s1 b){r:bC}(h:l9 u0 c b=some r):aD Tryz.prog 87 #[.func (.func dK) eg ei,.agg #[.int .i64 c.spot.aH,.int .i64 c.spot.high.num,.int .i64 c.spot.high.den,.int .i64 c.at_,.int .i64 c.high.num,.int .i64 c.high.den],s1] ⟨ro,[]⟩ (fun v _=>v=r.v):=by
 obtain ⟨d3,c4,rfl,Z,l,-⟩:=id k;unfold l9 at h;refine aD.go Tryz.func87 rfl Tryz.ntmps87 Tryz.results87 (by simp) fun main J hJ A t hd hs=>?_;have u:=hs 0;have k1:=hs 1;have w:=hs 2;clear hs;refine ah hJ ?_;simp only[*,go_sem];refine aA fun y ab B=>?_;try simp only[au] at B
 refine aA fun C ad D=>?_;try simp only[au] at D
 try simp only[*,go_sem]
 refine af hJ (ah hJ ?_);simp only[*,go_sem];refine aN hJ ?_;revert h;refine bS fun E d F=>?_;refine bQ hJ [8,11,12,13,14,15,16,17,18,19,20] (fun m G F'=>∃(i11:Nat) (v10:bC),m=b.length - i11/\i11<=b.length/\bB (pY u0) i11 (b.drop i11) v10=some E/\F'=⟨ro,(C,.cells #[.int .i64 0,.int .i64 0,.int .i64 0,.int .i64 0,.int .i64 0,.int .i64 0] 147)::(y,.cells #[.int .i64 v10.spot.aH,.int .i64 v10.spot.high.num,.int .i64 v10.spot.high.den,.int .i64 v10.at_,.int .i64 v10.high.num,.int .i64 v10.high.den] 147)::[]⟩/\slot G 11= .int .i64 (i11:Int)) b.length ?_ ?_
 ·refine ⟨0,c,(Nat.sub_zero _).symm,Nat.zero_le _,d,rfl,?_⟩;simp only[*,go_sem]
 rintro ae al F' o ⟨i11,v10,rfl,ao,d,rfl,ar⟩;obtain ⟨H,I,K⟩:=o.pick [0,4,6,9,10] (by decide);simp only[*,go_sem] at H I K;clear o t hd u k1 w;refine ah hJ ?_;simp only[*,go_sem];refine af hJ ?_;rcases Nat.lt_or_ge i11 b.length with L|p
 ·refine bP hJ (by simp only[*,go_sem]) ?_;refine aI hJ ?_;obtain ⟨f,g⟩:∃x,b[i11]?=some x:=⟨_,List.getElem?_eq_getElem L⟩
  rw[c8 g] at d;revert d;refine bS fun a0 h q=>?_;unfold pY at h;try dsimp only at h
  obtain ⟨a2,M,N,O,e⟩:=k.el _ _ g;obtain rfl:M=f.cells:=O;cases N;have P:=e 0 _ rfl;simp only[go_sem] at P;have Q:=e 1 _ rfl;simp only[go_sem] at Q;have R:=e 2 _ rfl;simp only[go_sem] at R;have S:=e 3 _ rfl;simp only[go_sem] at S;have T:=e 4 _ rfl;simp only[go_sem] at T;have U:=e 5 _ rfl;simp only[go_sem] at U;clear e g;refine af hJ (aN hJ (af hJ ?_));refine aj hJ ?_;simp only[*,go_sem];refine aA fun a3 a4 V=>?_;try simp only[au] at V
  try simp only[*,go_sem]
  refine ah hJ ?_;revert h;refine bS fun a5 W h=>?_;simp only[*,go_sem];refine bn hJ _ (s.2 _ (fun a v h=>aT a v h) v10 f _ W) ?_;try simp only[*,go_sem]
  revert h;refine jC hJ (by simp only[*,go_sem]) (fun X h=>?_) fun X h=>?_
  ·obtain rfl:=sI h;refine aj hJ ?_;simp only[*,go_sem];have Y:=cq (n:=i11) (by have:=l;omega);refine aj hJ ?_;simp only[*,go_sem];refine ⟨b.length - (i11+1),by omega,_,Le.sub (List.Sublist.cons _ (List.Sublist.refl _)),i11+1,f,rfl,by omega,q,rfl,?_⟩;simp only[*,go_sem]
  obtain rfl:=sI h;refine aI hJ ?_;have Y:=cq (n:=i11) (by have:=l;omega);refine aj hJ ?_;simp only[*,go_sem];refine ⟨b.length - (i11+1),by omega,_,Le.sub (List.Sublist.cons _ (List.Sublist.refl _)),i11+1,v10,rfl,by omega,q,rfl,?_⟩;simp only[*,go_sem]
 have a6:=Nat.not_lt.2 p;refine bM hJ (by simp only[*,go_sem]) ?_;rw[List.drop_eq_nil_of_le p] at d;obtain rfl:=sI d;clear d;have h:=F;dsimp only[aB] at h;obtain rfl:=sI h;refine bJ ?_;simp only[go_sem];refine ah hJ ?_;simp only[*,go_sem];refine ay ?_;simp only[*,go_sem]
def pZ (u0:(an->an->Option Bool))(i11:Nat)(a:an)(st:an):Option (Fl an an):=
 ag (u0 st a) fun b=>cond (b) (some (.nx a)) (some (.nx st))
def ij (u0:(an->an->Option Bool))(a:an)(b:(List an)):Option an:=
 ag (bB (pZ u0) 0 b a) fun o=>aB o (fun c=>some c) (fun _ _=>none) (fun r=>some r)
theorem nj {ro:Addr->Option Value}(u0:(an->an->Option Bool)){dK:FuncId}{eg ei:Array Value}(s:aJ Tryz.prog dK=true/\∀(aM:Addr->Option Value),Ext ro aM->∀(i:an) (j:an) (z:Bool),u0 i j=some z->aD Tryz.prog dK (eg++#[i.v,j.v]++ei) ⟨aM,[]⟩ (fun v _=>v= .bool z))(d:an)(b:(List an)){s1:Value}(k:aC kS ro s1 b){r:an}(h:ij u0 d b=some r):aD Tryz.prog 77 #[.func (.func dK) eg ei,.agg #[.int .i64 d.num,.int .i64 d.den],s1] ⟨ro,[]⟩ (fun v _=>v=r.v):=by
 obtain ⟨d3,c4,rfl,V,l,-⟩:=id k;unfold ij at h;refine aD.go Tryz.func77 rfl Tryz.ntmps77 Tryz.results77 (by simp) fun main J hJ A t hd hs=>?_;have u:=hs 0;have k1:=hs 1;have w:=hs 2;clear hs;refine ah hJ ?_;simp only[*,go_sem];refine aA fun y W B=>?_;try simp only[au] at B
 refine aA fun C X D=>?_;try simp only[au] at D
 try simp only[*,go_sem]
 refine af hJ (ah hJ ?_);simp only[*,go_sem];refine aN hJ ?_;revert h;refine bS fun E c F=>?_;refine bQ hJ [8,11,12,13,14,15,16,17,18,19,20] (fun m G F'=>∃(i11:Nat) (v10:an),m=b.length - i11/\i11<=b.length/\bB (pZ u0) i11 (b.drop i11) v10=some E/\F'=⟨ro,(C,rt 0 0)::(y,rt v10.num v10.den)::[]⟩/\slot G 11= .int .i64 (i11:Int)) b.length ?_ ?_
 ·refine ⟨0,d,(Nat.sub_zero _).symm,Nat.zero_le _,c,rfl,?_⟩;simp only[*,go_sem]
 rintro Y Z F' o ⟨i11,v10,rfl,ab,c,rfl,ad⟩;obtain ⟨H,I,K⟩:=o.pick [0,4,6,9,10] (by decide);simp only[*,go_sem] at H I K;clear o t hd u k1 w;refine ah hJ ?_;simp only[*,go_sem];refine af hJ ?_;rcases Nat.lt_or_ge i11 b.length with L|p
 ·refine bP hJ (by simp only[*,go_sem]) ?_;refine aI hJ ?_;obtain ⟨e,f⟩:∃x,b[i11]?=some x:=⟨_,List.getElem?_eq_getElem L⟩
  rw[c8 f] at c;revert c;refine bS fun ae h q=>?_;unfold pZ at h;try dsimp only at h
  obtain ⟨al,M,N,O,g⟩:=k.el _ _ f;obtain rfl:M=e.cells:=O;cases N;have P:=g 0 _ rfl;simp only[go_sem] at P;have Q:=g 1 _ rfl;simp only[go_sem] at Q;clear g f;refine af hJ (aN hJ (af hJ ?_));refine aj hJ ?_;simp only[*,go_sem];refine aA fun ao ar R=>?_;try simp only[au] at R
  try simp only[*,go_sem]
  refine ah hJ ?_;revert h;refine bS fun a0 S h=>?_;simp only[*,go_sem];refine bn hJ _ (s.2 _ (fun a v h=>aT a v h) v10 e _ S) ?_;try simp only[*,go_sem]
  revert h;refine jC hJ (by simp only[*,go_sem]) (fun T h=>?_) fun T h=>?_
  ·obtain rfl:=sI h;refine aj hJ ?_;simp only[*,go_sem];have U:=cq (n:=i11) (by have:=l;omega);refine aj hJ ?_;simp only[*,go_sem];refine ⟨b.length - (i11+1),by omega,_,Le.sub (List.Sublist.cons _ (List.Sublist.refl _)),i11+1,e,rfl,by omega,q,rfl,?_⟩;simp only[*,go_sem]
  obtain rfl:=sI h;refine aI hJ ?_;have U:=cq (n:=i11) (by have:=l;omega);refine aj hJ ?_;simp only[*,go_sem];refine ⟨b.length - (i11+1),by omega,_,Le.sub (List.Sublist.cons _ (List.Sublist.refl _)),i11+1,v10,rfl,by omega,q,rfl,?_⟩;simp only[*,go_sem]
 have a2:=Nat.not_lt.2 p;refine bM hJ (by simp only[*,go_sem]) ?_;rw[List.drop_eq_nil_of_le p] at c;obtain rfl:=sI c;clear c;have h:=F;dsimp only[aB] at h;obtain rfl:=sI h;refine bJ ?_;simp only[go_sem];refine ah hJ ?_;simp only[*,go_sem];refine ay ?_;simp only[*,go_sem]
def r7 (u0:bC)(a:bC):Option Bool:=
 ag (iT a u0) fun b=>some b
theorem Ga {ro:Addr->Option Value}(u0:bC)(a:bC){r:Bool}(h:r7 u0 a=some r):aD Tryz.prog 89 #[.agg #[.int .i64 u0.spot.aH,.int .i64 u0.spot.high.num,.int .i64 u0.spot.high.den,.int .i64 u0.at_,.int .i64 u0.high.num,.int .i64 u0.high.den],.agg #[.int .i64 a.spot.aH,.int .i64 a.spot.high.num,.int .i64 a.spot.high.den,.int .i64 a.at_,.int .i64 a.high.num,.int .i64 a.high.den]] ⟨ro,[]⟩ (fun v _=>v= .bool r):=by
 unfold r7 at h;refine aD.go Tryz.func89 rfl Tryz.ntmps89 Tryz.results89 (by simp) fun main J hJ A c hd hs=>?_;have d:=hs 0;have k1:=hs 1;clear hs;refine ah hJ ?_;simp only[*,go_sem];refine aA fun e r1 n1=>?_;try simp only[au] at n1
 refine aA fun b2 r2 n2=>?_;try simp only[au] at n2
 try simp only[*,go_sem]
 refine ah hJ ?_;revert h;refine bS fun f b h=>?_;obtain rfl:=sI h;simp only[*,go_sem];refine bn hJ _ (rY a u0 b) (aK ?_);try simp only[*,go_sem]
 refine ay ?_;simp only[*,go_sem]
def r8 (u0:an)(a:an):Option Bool:=
 ag (eF a u0) fun b=>some b
theorem Gb {ro:Addr->Option Value}(u0:an)(a:an){r:Bool}(h:r8 u0 a=some r):aD Tryz.prog 75 #[.agg #[.int .i64 u0.num,.int .i64 u0.den],.agg #[.int .i64 a.num,.int .i64 a.den]] ⟨ro,[]⟩ (fun v _=>v= .bool r):=by
 unfold r8 at h;refine aD.go Tryz.func75 rfl Tryz.ntmps75 Tryz.results75 (by simp) fun main J hJ A c hd hs=>?_;have d:=hs 0;have k1:=hs 1;clear hs;refine ah hJ ?_;simp only[*,go_sem];refine aA fun e r1 n1=>?_;try simp only[au] at n1
 refine aA fun b2 r2 n2=>?_;try simp only[au] at n2
 try simp only[*,go_sem]
 refine ah hJ ?_;revert h;refine bS fun f b h=>?_;obtain rfl:=sI h;simp only[*,go_sem];refine bn hJ _ (iS a u0 b) (aK ?_);try simp only[*,go_sem]
 refine ay ?_;simp only[*,go_sem]
def r9 (u0:ak)(i32:Nat)(a:bU)(st:Int):Option (Fl Int Int):=
 ag (nh u0 a.aW) fun b=>cond (!b) (some (.rt 6)) (some (.nx st))
def mb (u0:ak):Option Int:=
 cond (decide (3<(u0.told.length:Int))) (some 2) (ag (bB (r9 u0) 0 u0.told 0) fun o=>aB o (fun a=>some 0) (fun _ _=>none) (fun r=>some r))
theorem Gc {ro:Addr->Option Value}(u0:ak){s1 c d j:Value}(e:bK ro u0 s1 c d j){r:Int}(h:mb u0=some r):aD Tryz.prog 233 #[bv u0 s1 c d j] ⟨ro,[]⟩ (fun v _=>v= .int .i64 r):=by
 obtain ⟨d24,s,rfl,R,u,-⟩:=id e.t;unfold mb at h;refine aD.go Tryz.func233 rfl Tryz.ntmps233 Tryz.results233 (by simp) fun main J hJ A w hd hs=>?_;have y:=hs 0;clear hs;refine ah hJ ?_;simp only[*,go_sem];refine aA fun z S B=>?_;try simp only[au] at B
 try simp only[*,go_sem]
 refine af hJ (ah hJ ?_);simp only[*,go_sem];revert h;refine jC hJ (by simp only[*,go_sem]) (fun C h=>?_) fun C h=>?_
 ·obtain rfl:=sI h;refine ah hJ ?_;simp only[*,go_sem];refine ay ?_;simp only[*,go_sem]
 refine aI hJ (af hJ ?_);refine ah hJ ?_;simp only[*,go_sem];refine aN hJ ?_;revert h;refine bS fun D a k=>?_;refine bQ hJ [2,4,14,15,16,17,18,19,20,21,22,23] (fun m l F'=>∃(i32:Nat) (b:Int),m=u0.told.length - i32/\i32<=u0.told.length/\bB (r9 u0) i32 (u0.told.drop i32) b=some D/\F'=⟨ro,(z,bl u0 s1 c d (sl d24 u0.told s))::[]⟩/\slot l 14= .int .i64 (i32:Int)/\slot l 2= .int .i64 b) u0.told.length ?_ ?_
 ·refine ⟨0,0,(Nat.sub_zero _).symm,Nat.zero_le _,a,rfl,?_⟩;simp only[*,go_sem]
 rintro T U F' o ⟨i32,b,rfl,V,a,rfl,W,X⟩;obtain ⟨E,F,G⟩:=o.pick [1,12,13] (by decide);simp only[*,go_sem] at E F G;clear o w hd y;refine ah hJ ?_;simp only[*,go_sem];refine af hJ ?_;rcases Nat.lt_or_ge i32 u0.told.length with H|p
 ·refine bP hJ (by simp only[*,go_sem]) ?_;refine aI hJ ?_;obtain ⟨q,f⟩:∃x,u0.told[i32]?=some x:=⟨_,List.getElem?_eq_getElem H⟩
  rw[c8 f] at a;revert a;refine bS fun Y h g=>?_;unfold r9 at h;try dsimp only at h
  obtain ⟨Z,I,K,L,i⟩:=e.t.el _ _ f;obtain rfl:I=q.cells:=L;cases K;have M:=i 0 _ rfl;simp only[go_sem] at M;have N:=i 1 _ rfl;simp only[go_sem] at N;clear i f;refine af hJ (aN hJ (af hJ ?_));refine aj hJ ?_;simp only[*,go_sem];refine aA fun ab ad O=>?_;try simp only[au] at O
  try simp only[*,go_sem]
  refine ah hJ ?_;revert h;refine bS fun ae P h=>?_;simp only[*,go_sem];refine bn hJ _ (AK u0 (e.mono aT) q.aW P) (aK ?_);try simp only[*,go_sem]
  revert h;refine jC hJ (by simp only[*,go_sem]) (fun Q h=>?_) fun Q h=>?_
  ·obtain rfl:=sI h;refine ah hJ ?_;simp only[*,go_sem];obtain rfl:=sI g;clear g;have h:=k;dsimp only[aB] at h;obtain rfl:=sI h;refine ay ?_;simp only[*,go_sem]
  obtain rfl:=sI h;refine aI hJ ?_;have al:=cq (n:=i32) (by have:=u;omega);refine aj hJ ?_;simp only[*,go_sem];refine ⟨u0.told.length - (i32+1),by omega,_,Le.sub (List.Sublist.cons _ (List.Sublist.refl _)),i32+1,b,rfl,by omega,g,rfl,?_⟩;simp only[*,go_sem]
 have ao:=Nat.not_lt.2 p;refine bM hJ (by simp only[*,go_sem]) ?_;rw[List.drop_eq_nil_of_le p] at a;obtain rfl:=sI a;clear a;have h:=k;dsimp only[aB] at h;obtain rfl:=sI h;refine bJ ?_;simp only[go_sem];refine ah hJ ?_;simp only[*,go_sem];refine ay ?_;simp only[*,go_sem]
def sd (i34:Nat)(a:b6)(st:Int):Option (Fl Int Int):=
 ag (fG a.back 1 20) fun b=>cond (!b) (some (.rt 1)) (ag (pS a.high 0 60) fun c=>cond (!c) (some (.rt 1)) (cond (decide (3<=(IntKind.i64.wrap (a.high.high - a.high.low)))) (some (.rt 1)) (some (.nx st))))
def mc (u0:ak):Option Int:=
 ag (fG (u0.aG.length:Int) 1 3) fun a=>cond (!a) (some 2) (ag (bB (sd) 0 u0.aG 0) fun o=>aB o (fun b=>some 0) (fun _ _=>none) (fun r=>some r))
theorem Gd {ro:Addr->Option Value}(u0:ak){s1 f k g:Value}(l:bK ro u0 s1 f k g){r:Int}(h:mc u0=some r):aD Tryz.prog 232 #[bv u0 s1 f k g] ⟨ro,[]⟩ (fun v _=>v= .int .i64 r):=by
 obtain ⟨d17,s,rfl,W,t,-⟩:=id l.y;unfold mc at h;refine aD.go Tryz.func232 rfl Tryz.ntmps232 Tryz.results232 (by simp) fun main J hJ A u hd hs=>?_;have w:=hs 0;clear hs;refine ah hJ ?_;simp only[*,go_sem];refine aA fun z X B=>?_;try simp only[au] at B
 try simp only[*,go_sem]
 refine af hJ (ah hJ ?_);revert h;refine bS fun Y C h=>?_;simp only[*,go_sem];refine bn hJ _ (gA (u0.aG.length:Int) 1 3 C) (aK ?_);try simp only[*,go_sem]
 revert h;refine jC hJ (by simp only[*,go_sem]) (fun D h=>?_) fun D h=>?_
 ·obtain rfl:=sI h;refine ah hJ ?_;simp only[*,go_sem];refine ay ?_;simp only[*,go_sem]
 refine aI hJ (af hJ ?_);refine ah hJ ?_;simp only[*,go_sem];refine aN hJ ?_;revert h;refine bS fun E a c=>?_;refine bQ hJ [2,4,15,16,17,18,19,20,21,22,23,24,25,26,27,28,29,30,31,32,33,34,35,36,37,38,39] (fun m o F'=>∃(i34:Nat) (d:Int),m=u0.aG.length - i34/\i34<=u0.aG.length/\bB (sd) i34 (u0.aG.drop i34) d=some E/\F'=⟨ro,(z,bl u0 s1 f (sl d17 u0.aG s) g)::[]⟩/\slot o 15= .int .i64 (i34:Int)/\slot o 2= .int .i64 d) u0.aG.length ?_ ?_
 ·refine ⟨0,0,(Nat.sub_zero _).symm,Nat.zero_le _,a,rfl,?_⟩;simp only[*,go_sem]
 rintro Z ab F' p ⟨i34,d,rfl,ad,a,rfl,ae,al⟩;obtain ⟨F,G,H⟩:=p.pick [13,14] (by decide);simp only[*,go_sem] at F G H;clear p u hd w;refine ah hJ ?_;simp only[*,go_sem];refine af hJ ?_;rcases Nat.lt_or_ge i34 u0.aG.length with I|q
 ·refine bP hJ (by simp only[*,go_sem]) ?_;refine aI hJ ?_;obtain ⟨i,j⟩:∃x,u0.aG[i34]?=some x:=⟨_,List.getElem?_eq_getElem I⟩
  rw[c8 j] at a;revert a;refine bS fun ao h b=>?_;unfold sd at h;try dsimp only at h
  obtain ⟨ar,K,L,M,e⟩:=l.y.el _ _ j;obtain rfl:K=i.cells:=M;cases L;have N:=e 0 _ rfl;simp only[go_sem] at N;have O:=e 1 _ rfl;simp only[go_sem] at O;have P:=e 2 _ rfl;simp only[go_sem] at P;clear e j;refine af hJ (aN hJ (af hJ ?_));refine aj hJ ?_;simp only[*,go_sem];refine aA fun a0 a2 Q=>?_;try simp only[au] at Q
  try simp only[*,go_sem]
  refine ah hJ ?_;revert h;refine bS fun a3 R h=>?_;simp only[*,go_sem];refine bn hJ _ (gA i.back 1 20 R) (aK ?_);revert h;refine cS (fun S h=>?_) fun S h=>?_
  ·obtain rfl:=sI h;(try simp only[*,go_sem]);refine bP hJ (by simp only[*,go_sem]) ?_;refine ah hJ ?_;simp only[*,go_sem];obtain rfl:=sI b;clear b;have h:=c;dsimp only[aB] at h;obtain rfl:=sI h;refine ay ?_;simp only[*,go_sem]
  revert h;refine bS fun a4 T h=>?_;try simp only[*,go_sem]
  refine bn hJ _ (AJ i.high 0 60 T) (aK ?_);revert h;refine cS (fun U h=>?_) fun U h=>?_
  ·obtain rfl:=sI h;(try simp only[*,go_sem]);refine bP hJ (by simp only[*,go_sem]) ?_;refine ah hJ ?_;simp only[*,go_sem];obtain rfl:=sI b;clear b;have h:=c;dsimp only[aB] at h;obtain rfl:=sI h;refine ay ?_;simp only[*,go_sem]
  try simp only[*,go_sem]
  revert h;refine jC hJ (by simp only[*,go_sem]) (fun V h=>?_) fun V h=>?_
  ·obtain rfl:=sI h;refine ah hJ ?_;simp only[*,go_sem];obtain rfl:=sI b;clear b;have h:=c;dsimp only[aB] at h;obtain rfl:=sI h;refine ay ?_;simp only[*,go_sem]
  obtain rfl:=sI h;refine aI hJ ?_;have a5:=cq (n:=i34) (by have:=t;omega);refine aj hJ ?_;simp only[*,go_sem];refine ⟨u0.aG.length - (i34+1),by omega,_,Le.sub (List.Sublist.cons _ (List.Sublist.refl _)),i34+1,d,rfl,by omega,b,rfl,?_⟩;simp only[*,go_sem]
 have a6:=Nat.not_lt.2 q;refine bM hJ (by simp only[*,go_sem]) ?_;rw[List.drop_eq_nil_of_le q] at a;obtain rfl:=sI a;clear a;have h:=c;dsimp only[aB] at h;obtain rfl:=sI h;refine bJ ?_;simp only[go_sem];refine ah hJ ?_;simp only[*,go_sem];refine ay ?_;simp only[*,go_sem]
def se (u0:ak)(i32:Nat)(a:bN)(st:Int):Option (Fl Int Int):=
 ag (ef u0 a.place) fun c=>cond (!c) (some (.rt 6)) (ag (gf a.di u0) fun b=>cond ((b != 0)) (some (.rt b)) (some (.nx st)))
def me (u0:ak):Option Int:=
 cond (decide (3<(u0.props.length:Int))) (some 2) (ag (bB (se u0) 0 u0.props 0) fun o=>aB o (fun a=>some 0) (fun _ _=>none) (fun r=>some r))
theorem Ge {ro:Addr->Option Value}(u0:ak){s1 l e f:Value}(c:bK ro u0 s1 l e f){r:Int}(h:me u0=some r):aD Tryz.prog 231 #[bv u0 s1 l e f] ⟨ro,[]⟩ (fun v _=>v= .int .i64 r):=by
 obtain ⟨d10,t,rfl,T,u,-⟩:=id c.p;unfold me at h;refine aD.go Tryz.func231 rfl Tryz.ntmps231 Tryz.results231 (by simp) fun main J hJ A w hd hs=>?_;have y:=hs 0;clear hs;refine ah hJ ?_;simp only[*,go_sem];refine aA fun z U B=>?_;try simp only[au] at B
 try simp only[*,go_sem]
 refine af hJ (ah hJ ?_);simp only[*,go_sem];revert h;refine jC hJ (by simp only[*,go_sem]) (fun C h=>?_) fun C h=>?_
 ·obtain rfl:=sI h;refine ah hJ ?_;simp only[*,go_sem];refine ay ?_;simp only[*,go_sem]
 refine aI hJ (af hJ ?_);refine ah hJ ?_;simp only[*,go_sem];refine aN hJ ?_;revert h;refine bS fun D a g=>?_;refine bQ hJ [2,4,5,15,16,17,18,19,20,21,22,23,24,25,26,27,28,29,30,31] (fun m o F'=>∃(i32:Nat) (d:Int),m=u0.props.length - i32/\i32<=u0.props.length/\bB (se u0) i32 (u0.props.drop i32) d=some D/\F'=⟨ro,(z,bl u0 s1 (sl d10 u0.props t) e f)::[]⟩/\slot o 15= .int .i64 (i32:Int)/\slot o 2= .int .i64 d) u0.props.length ?_ ?_
 ·refine ⟨0,0,(Nat.sub_zero _).symm,Nat.zero_le _,a,rfl,?_⟩;simp only[*,go_sem]
 rintro V W F' q ⟨i32,d,rfl,X,a,rfl,Y,Z⟩;obtain ⟨E,F,G⟩:=q.pick [1,13,14] (by decide);simp only[*,go_sem] at E F G;clear q w hd y;refine ah hJ ?_;simp only[*,go_sem];refine af hJ ?_;rcases Nat.lt_or_ge i32 u0.props.length with H|s
 ·refine bP hJ (by simp only[*,go_sem]) ?_;refine aI hJ ?_;obtain ⟨i,j⟩:∃x,u0.props[i32]?=some x:=⟨_,List.getElem?_eq_getElem H⟩
  rw[c8 j] at a;revert a;refine bS fun ab h b=>?_;unfold se at h;try dsimp only at h
  obtain ⟨ad,I,K,L,k⟩:=c.p.el _ _ j;obtain rfl:I=i.cells:=L;cases K;have M:=k 0 _ rfl;simp only[go_sem] at M;have N:=k 1 _ rfl;simp only[go_sem] at N;clear k j;refine af hJ (aN hJ (af hJ ?_));refine aj hJ ?_;simp only[*,go_sem];refine aA fun ae al O=>?_;try simp only[au] at O
  try simp only[*,go_sem]
  refine af hJ (ah hJ ?_);revert h;refine bS fun ao P h=>?_;simp only[*,go_sem];refine bn hJ _ (r4 u0 (c.mono aT) i.place P) (aK ?_);try simp only[*,go_sem]
  revert h;refine jC hJ (by simp only[*,go_sem]) (fun Q h=>?_) fun Q h=>?_
  ·obtain rfl:=sI h;refine ah hJ ?_;simp only[*,go_sem];obtain rfl:=sI b;clear b;have h:=g;dsimp only[aB] at h;obtain rfl:=sI h;refine ay ?_;simp only[*,go_sem]
  refine aI hJ (af hJ ?_);refine aj hJ ?_;revert h;refine bS fun ar R h=>?_;simp only[*,go_sem];refine bn hJ _ (vK i.di u0 (c.mono aT) R) (aK ?_);try simp only[*,go_sem]
  refine ah hJ ?_;simp only[*,go_sem];revert h;refine jC hJ (by simp only[*,go_sem]) (fun S h=>?_) fun S h=>?_
  ·obtain rfl:=sI h;refine ah hJ ?_;simp only[*,go_sem];obtain rfl:=sI b;clear b;have h:=g;dsimp only[aB] at h;obtain rfl:=sI h;refine ay ?_;simp only[*,go_sem]
  obtain rfl:=sI h;refine aI hJ ?_;have a0:=cq (n:=i32) (by have:=u;omega);refine aj hJ ?_;simp only[*,go_sem];refine ⟨u0.props.length - (i32+1),by omega,_,Le.sub (List.Sublist.cons _ (List.Sublist.refl _)),i32+1,d,rfl,by omega,b,rfl,?_⟩;simp only[*,go_sem]
 have a2:=Nat.not_lt.2 s;refine bM hJ (by simp only[*,go_sem]) ?_;rw[List.drop_eq_nil_of_le s] at a;obtain rfl:=sI a;clear a;have h:=g;dsimp only[aB] at h;obtain rfl:=sI h;refine bJ ?_;simp only[go_sem];refine ah hJ ?_;simp only[*,go_sem];refine ay ?_;simp only[*,go_sem]
def si (u0:ak)(i34:Nat)(a:bY)(st:Int):Option (Fl Int Int):=
 ag (fG a.aH 0 (IntKind.i64.wrap (u0.bG - 1))) fun b=>cond (!b) (some (.rt 1)) (ag (fG a.high 0 60) fun c=>cond (!c) (some (.rt 1)) (cond (decide (0<(i34:Int))) (ag (bf u0.av (IntKind.i64.wrap ((i34:Int) - 1))) fun d=>cond (decide (a.aH<=d.aH)) (some (.rt 7)) (some (.nx st))) (some (.nx st))))
def kT (u0:ak):Option Int:=
 ag (fG (u0.av.length:Int) 2 5) fun a=>cond (!a) (some 2) (ag (bB (si u0) 0 u0.av 0) fun o=>aB o (fun b=>some 0) (fun _ _=>none) (fun r=>some r))
theorem Gf {ro:Addr->Option Value}(u0:ak){s1 f g i:Value}(j:bK ro u0 s1 f g i){r:Int}(h:kT u0=some r):aD Tryz.prog 230 #[bv u0 s1 f g i] ⟨ro,[]⟩ (fun v _=>v= .int .i64 r):=by
 obtain ⟨d3,c4,rfl,ar,q,-⟩:=id j.e;unfold kT at h;refine aD.go Tryz.func230 rfl Tryz.ntmps230 Tryz.results230 (by simp) fun main J hJ A y hd hs=>?_;have z:=hs 0;clear hs;refine ah hJ ?_;simp only[*,go_sem];refine aA fun B a0 C=>?_;try simp only[au] at C
 try simp only[*,go_sem]
 refine af hJ (ah hJ ?_);revert h;refine bS fun a2 D h=>?_;simp only[*,go_sem];refine bn hJ _ (gA (u0.av.length:Int) 2 5 D) (aK ?_);try simp only[*,go_sem]
 revert h;refine jC hJ (by simp only[*,go_sem]) (fun E h=>?_) fun E h=>?_
 ·obtain rfl:=sI h;refine ah hJ ?_;simp only[*,go_sem];refine ay ?_;simp only[*,go_sem]
 refine aI hJ (af hJ ?_);refine ah hJ ?_;simp only[*,go_sem];refine aN hJ ?_;revert h;refine bS fun F b d=>?_;refine bQ hJ [2,3,4,15,16,17,18,19,20,21,22,23,24,25,26,27,28,29,30,31,32,33,34,35,36,37,38,39,40,41,42,43,44,45,46,47,48,49] (fun m s F'=>∃(i34:Nat) (c:Int),m=u0.av.length - i34/\i34<=u0.av.length/\bB (si u0) i34 (u0.av.drop i34) c=some F/\F'=⟨ro,(B,bl u0 (sl d3 u0.av c4) f g i)::[]⟩/\slot s 15= .int .i64 (i34:Int)/\slot s 2= .int .i64 c) u0.av.length ?_ ?_
 ·refine ⟨0,0,(Nat.sub_zero _).symm,Nat.zero_le _,b,rfl,?_⟩;simp only[*,go_sem]
 rintro a3 a4 F' t ⟨i34,c,rfl,a5,b,rfl,a6,a7⟩;obtain ⟨G,H,I⟩:=t.pick [1,13,14] (by decide);simp only[*,go_sem] at G H I;clear t y hd z;refine ah hJ ?_;simp only[*,go_sem];refine af hJ ?_;rcases Nat.lt_or_ge i34 u0.av.length with K|u
 ·refine bP hJ (by simp only[*,go_sem]) ?_;refine aI hJ ?_;obtain ⟨k,l⟩:∃x,u0.av[i34]?=some x:=⟨_,List.getElem?_eq_getElem K⟩
  rw[c8 l] at b;revert b;refine bS fun a8 h a=>?_;unfold si at h;try dsimp only at h
  obtain ⟨a9,L,M,N,o⟩:=j.e.el _ _ l;obtain rfl:L=k.cells:=N;cases M;have O:=o 0 _ rfl;simp only[go_sem] at O;have P:=o 1 _ rfl;simp only[go_sem] at P;clear o l;refine af hJ (aN hJ (af hJ ?_));refine aj hJ ?_;simp only[*,go_sem];refine aA fun ba bb Q=>?_;try simp only[au] at Q
  try simp only[*,go_sem]
  refine aN hJ (af hJ ?_);refine ah hJ ?_;revert h;refine bS fun bc R h=>?_;simp only[*,go_sem];refine bn hJ _ (gA k.aH 0 (IntKind.i64.wrap (u0.bG - 1)) R) (aK ?_);try simp only[*,go_sem]
  revert h;refine jC hJ (by simp only[*,go_sem]) (fun S h=>?_) fun S h=>?_
  ·obtain rfl:=sI h;refine aI hJ ?_;refine bP hJ (by simp only[*,go_sem]) ?_;refine ah hJ ?_;simp only[*,go_sem];obtain rfl:=sI a;clear a;have h:=d;dsimp only[aB] at h;obtain rfl:=sI h;refine ay ?_;simp only[*,go_sem]
  refine aj hJ ?_;revert h;refine bS fun bd T h=>?_;simp only[*,go_sem];refine bn hJ _ (gA k.high 0 60 T) (aK ?_);try simp only[*,go_sem]
  revert h;refine jC hJ (by simp only[*,go_sem]) (fun U h=>?_) fun U h=>?_
  ·obtain rfl:=sI h;refine ah hJ ?_;simp only[*,go_sem];obtain rfl:=sI a;clear a;have h:=d;dsimp only[aB] at h;obtain rfl:=sI h;refine ay ?_;simp only[*,go_sem]
  refine af hJ ?_;refine cQ hJ mixed 16 2 (by simp only[*,go_sem]) (by kernel_rfl) ?_;revert h;refine cS (fun V h=>?_) fun V h=>?_
  ·revert h;refine bS fun W X h=>?_;obtain ⟨bj,bk,w⟩:=cH X;obtain ⟨bm,Y,Z,ab,p⟩:=j.e.el _ _ w;obtain rfl:Y=W.cells:=ab;cases Z;have ad:=p 0 _ rfl;simp only[go_sem] at ad;have ae:=p 1 _ rfl;simp only[go_sem] at ae;clear p w;(try simp only[*,go_sem]);revert h;refine jC hJ (by simp only[*,go_sem]) (fun al h=>?_) fun al h=>?_
   ·obtain rfl:=sI h;refine ah hJ ?_;simp only[*,go_sem];obtain rfl:=sI a;clear a;have h:=d;dsimp only[aB] at h;obtain rfl:=sI h;refine ay ?_;simp only[*,go_sem]
   obtain rfl:=sI h;refine aI hJ ?_;have ao:=cq (n:=i34) (by have:=q;omega);refine aj hJ ?_;simp only[*,go_sem];refine ⟨u0.av.length - (i34+1),by omega,_,Le.sub (List.Sublist.cons _ (List.Sublist.refl _)),i34+1,c,rfl,by omega,a,rfl,?_⟩;simp only[*,go_sem]
  obtain rfl:=sI h;try simp only[*,go_sem]
  refine bM hJ (by simp only[*,go_sem]) ?_;refine aI hJ ?_;have ao:=cq (n:=i34) (by have:=q;omega);refine aj hJ ?_;simp only[*,go_sem];refine ⟨u0.av.length - (i34+1),by omega,_,Le.sub (List.Sublist.cons _ (List.Sublist.refl _)),i34+1,c,rfl,by omega,a,rfl,?_⟩;simp only[*,go_sem]
 have bo:=Nat.not_lt.2 u;refine bM hJ (by simp only[*,go_sem]) ?_;rw[List.drop_eq_nil_of_le u] at b;obtain rfl:=sI b;clear b;have h:=d;dsimp only[aB] at h;obtain rfl:=sI h;refine bJ ?_;simp only[go_sem];refine ah hJ ?_;simp only[*,go_sem];refine ay ?_;simp only[*,go_sem]
def nk (u0:ak):Option Int:=
 ag (fG u0.bG 2 60) fun b=>cond (!b) (some 1) (ag (fG u0.bO 0 60) fun c=>cond (!c) (some 1) (ag (fG u0.aY.den 1 20) fun d=>cond (!d) (some 1) (ag (fG u0.aY.num 0 20) fun e=>cond (!e) (some 1) (ag (j3 u0.aY.num u0.aY.den) fun a=>cond (!((a.num==u0.aY.num)&&(a.den==u0.aY.den))) (some 3) (some 0)))))
theorem Gg {ro:Addr->Option Value}(u0:ak){s1 a b c:Value}(z:bK ro u0 s1 a b c){r:Int}(h:nk u0=some r):aD Tryz.prog 229 #[bv u0 s1 a b c] ⟨ro,[]⟩ (fun v _=>v= .int .i64 r):=by
 unfold nk at h;refine aD.go Tryz.func229 rfl Tryz.ntmps229 Tryz.results229 (by simp) fun main J hJ A d hd hs=>?_;have e:=hs 0;clear hs;refine ah hJ ?_;simp only[*,go_sem];refine aA fun B C f=>?_;try simp only[au] at f
 try simp only[*,go_sem]
 refine af hJ (aN hJ (af hJ ?_));refine ah hJ ?_;revert h;refine bS fun D g h=>?_;simp only[*,go_sem];refine bn hJ _ (gA u0.bG 2 60 g) (aK ?_);try simp only[*,go_sem]
 revert h;refine jC hJ (by simp only[*,go_sem]) (fun i h=>?_) fun i h=>?_
 ·obtain rfl:=sI h;refine aI hJ ?_;refine bP hJ (by simp only[*,go_sem]) ?_;refine ah hJ ?_;simp only[*,go_sem];refine ay ?_;simp only[*,go_sem]
 refine ah hJ ?_;revert h;refine bS fun E j h=>?_;simp only[*,go_sem];refine bn hJ _ (gA u0.bO 0 60 j) (aK ?_);try simp only[*,go_sem]
 revert h;refine jC hJ (by simp only[*,go_sem]) (fun k h=>?_) fun k h=>?_
 ·obtain rfl:=sI h;refine aI hJ ?_;refine bP hJ (by simp only[*,go_sem]) ?_;refine ah hJ ?_;simp only[*,go_sem];refine ay ?_;simp only[*,go_sem]
 refine ah hJ ?_;revert h;refine bS fun G l h=>?_;simp only[*,go_sem];refine bn hJ _ (gA u0.aY.den 1 20 l) (aK ?_);try simp only[*,go_sem]
 revert h;refine jC hJ (by simp only[*,go_sem]) (fun m h=>?_) fun m h=>?_
 ·obtain rfl:=sI h;refine aI hJ ?_;refine bP hJ (by simp only[*,go_sem]) ?_;refine ah hJ ?_;simp only[*,go_sem];refine ay ?_;simp only[*,go_sem]
 refine aj hJ ?_;revert h;refine bS fun H n h=>?_;simp only[*,go_sem];refine bn hJ _ (gA u0.aY.num 0 20 n) (aK ?_);try simp only[*,go_sem]
 revert h;refine jC hJ (by simp only[*,go_sem]) (fun o h=>?_) fun o h=>?_
 ·obtain rfl:=sI h;refine ah hJ ?_;simp only[*,go_sem];refine ay ?_;simp only[*,go_sem]
 refine af hJ ?_;refine cQ hJ mixed 14 1 (by simp only[*,go_sem]) (by kernel_rfl) ?_;revert h;refine bS fun I p h=>?_;simp only[*,go_sem];refine ⟨_,bD hJ fun F K=>pV u0.aY.num u0.aY.den p,b9 ?_⟩;try simp only[*,go_sem]
 revert h;refine jC hJ (by simp only[*,go_sem]) (fun q h=>?_) fun q h=>?_
 ·obtain rfl:=sI h;refine af hJ ?_;refine ff [2] fun L s t u=>?_;simp only[*,go_sem] at s t u;clear d hd e;refine aj hJ ?_;simp only[*,go_sem];refine ay ?_;simp only[*,go_sem]
 obtain rfl:=sI h;refine aI hJ (af hJ ?_);refine ff [2] fun M w x y=>?_;simp only[*,go_sem] at w x y;clear d hd e;refine aj hJ ?_;simp only[*,go_sem];refine ay ?_;simp only[*,go_sem]
def c7 (ro:Addr->Option Value):Prop:=
 ro ⟨0,0,none⟩=some (.func (.func 229) #[] #[])/\ro ⟨0,1,none⟩=some (.func (.func 230) #[] #[])/\ro ⟨0,2,none⟩=some (.func (.func 231) #[] #[])/\ro ⟨0,3,none⟩=some (.func (.func 232) #[] #[])/\ro ⟨0,4,none⟩=some (.func (.func 233) #[] #[])
theorem c7.mono {ro aM:Addr->Option Value}(h:c7 ro)(a:Ext ro aM):c7 aM:=
 ⟨a _ _ h.1,a _ _ h.2.1,a _ _ h.2.2.1,a _ _ h.2.2.2.1,a _ _ h.2.2.2.2⟩
def nq (_:ak):Option Int:=some 0
def kU (b:ak):Option Int:=ag (mb b) fun x=>cond (x != 0) (some x) (nq b)
def kV (b:ak):Option Int:=ag (mc b) fun x=>cond (x != 0) (some x) (kU b)
def kW (b:ak):Option Int:=ag (me b) fun x=>cond (x != 0) (some x) (kV b)
def kX (b:ak):Option Int:=ag (kT b) fun x=>cond (x != 0) (some x) (kW b)
def iV (b:ak):Option Int:=ag (nk b) fun x=>cond (x != 0) (some x) (kX b)
def e4 (b:ak):Option Int:=iV b
def sj:Nat->ak->Option Int
 |0=>iV|1=>kX|2=>kW|3=>kV|4=>kU|_=>nq
theorem AM {ro:Addr->Option Value}(n:c7 ro)(u0:ak){s1:Value}(d:aC eZ ro s1 u0.av){s2:Value}(e:aC ez ro s2 u0.props){f:Value}(g:aC eT ro f u0.aG){j:Value}(k:aC c9 ro j u0.told){r:Int}(h:e4 u0=some r):
  aD Tryz.prog 92 #[.agg #[.int .i64 u0.bG,.int .i64 u0.bO,.int .i64 u0.aY.num,.int .i64 u0.aY.den,s1,s2,f,j]] ⟨ro,[]⟩ (fun v _=>v= .int .i64 r):=by
 obtain ⟨p,s,t,u,w⟩:=n
 replace h:sj 0 u0=some r:=h
 refine aD.go Tryz.func92 rfl Tryz.ntmps92 Tryz.results92 (by simp) fun main J hJ A o hd hs=>?_
 have y:=hs 0
 clear hs
 first|refine aj hJ ?_|refine ah hJ ?_|refine af hJ (ah hJ ?_)|refine af hJ (af hJ (ah hJ ?_))
 simp only[*,go_sem]
 intro c f1;have r1:=eC f1;have n1:=fC f1;simp only[au] at n1
 first|refine aj hJ ?_|refine ah hJ ?_|refine af hJ (ah hJ ?_)|refine af hJ (af hJ (ah hJ ?_))
 simp only[*,go_sem]
 first|refine aN hJ (vg hJ (fun m a F=>∃i:Nat,F=⟨ro,[(c,.cells #[.int .i64 u0.bG,.int .i64 u0.bO,.int .i64 u0.aY.num,.int .i64 u0.aY.den,s1,s2,f,j] 29)]⟩/\m=5 - i/\sz a=18/\a.defers=[]/\slot a 1= .pointer (some ⟨c,0,none⟩)/\slot a 6= .agg #[.func (.func 229) #[] #[],.func (.func 230) #[] #[],.func (.func 231) #[] #[],.func (.func 232) #[] #[],.func (.func 233) #[] #[]]/\slot a 7= .int .i64 i/\i<=5/\sj i u0=some r) (5) ?_ ?_)|refine af hJ (aN hJ (vg hJ (fun m a F=>∃i:Nat,F=⟨ro,[(c,.cells #[.int .i64 u0.bG,.int .i64 u0.bO,.int .i64 u0.aY.num,.int .i64 u0.aY.den,s1,s2,f,j] 29)]⟩/\m=5 - i/\sz a=18/\a.defers=[]/\slot a 1= .pointer (some ⟨c,0,none⟩)/\slot a 6= .agg #[.func (.func 229) #[] #[],.func (.func 230) #[] #[],.func (.func 231) #[] #[],.func (.func 232) #[] #[],.func (.func 233) #[] #[]]/\slot a 7= .int .i64 i/\i<=5/\sj i u0=some r) (5) ?_ ?_))|refine af hJ (af hJ (aN hJ (vg hJ (fun m a F=>∃i:Nat,F=⟨ro,[(c,.cells #[.int .i64 u0.bG,.int .i64 u0.bO,.int .i64 u0.aY.num,.int .i64 u0.aY.den,s1,s2,f,j] 29)]⟩/\m=5 - i/\sz a=18/\a.defers=[]/\slot a 1= .pointer (some ⟨c,0,none⟩)/\slot a 6= .agg #[.func (.func 229) #[] #[],.func (.func 230) #[] #[],.func (.func 231) #[] #[],.func (.func 232) #[] #[],.func (.func 233) #[] #[]]/\slot a 7= .int .i64 i/\i<=5/\sj i u0=some r) (5) ?_ ?_)))
 ·refine ⟨0,rfl,rfl,?_⟩
  simp only[*,go_sem,-h]
  exact ⟨Nat.zero_le _,h⟩
 ·clear h
  rintro m a F ⟨i,rfl,rfl,o,hd,z,B,C,hi,h⟩
  rcases i with _|_|_|_|_|i
  ·replace h:ag (nk u0) (fun x=>cond (x != 0) (some x) (kX u0))=some r:=h
   have h':=fL h;clear h;obtain ⟨x,q,h⟩:=h'
   have l:((0:Nat):Int)=0:=rfl
   first|refine aj hJ ?_|refine ah hJ ?_|refine af hJ (ah hJ ?_)|refine af hJ (af hJ (ah hJ ?_))
   simp only[*,go_sem,-h]
   refine af hJ ?_
   refine bP hJ (by simp only[*,go_sem,-h]) ?_
   refine aI hJ ?_
   refine af hJ (aN hJ ?_)
   first|refine aj hJ ?_|refine ah hJ ?_|refine af hJ (ah hJ ?_)|refine af hJ (af hJ (ah hJ ?_))
   simp only[*,go_sem,-h]
   first|refine aj hJ ?_|refine ah hJ ?_|refine af hJ (ah hJ ?_)|refine af hJ (af hJ (ah hJ ?_))
   simp only[*,go_sem,-h]
   refine bn hJ _ (Gg u0 ⟨(d.mono aT),(e.mono aT),(g.mono aT),(k.mono aT)⟩ q) (aK ?_)
   simp only[*,go_sem,-h]
   first|refine aj hJ ?_|refine ah hJ ?_|refine af hJ (ah hJ ?_)|refine af hJ (af hJ (ah hJ ?_))
   simp only[*,go_sem,-h]
   have h':=iP h;clear h;rcases h' with ⟨b,h⟩|⟨b,h⟩
   ·refine bP hJ (by simp only[*,go_sem,-h]) ?_
    first|refine aj hJ ?_|refine ah hJ ?_|refine af hJ (ah hJ ?_)|refine af hJ (af hJ (ah hJ ?_))
    simp only[*,go_sem,-h]
    have h':=Option.some.inj h;clear h;subst h'
    refine ay ?_
    simp only[*,go_sem]
   ·refine bM hJ (by simp only[*,go_sem,-h]) ?_
    refine aI hJ ?_
    refine aj hJ ?_
    simp only[*,go_sem,-h]
    refine ⟨5 - 1,by omega,_,Le.refl _,1,rfl,rfl,?_⟩
    have hw:IntKind.i64.wrap (0+1)=((1:Nat):Int):=by decide
    simp only[*,go_sem,-h]
    exact ⟨by omega,h⟩
  ·replace h:ag (kT u0) (fun x=>cond (x != 0) (some x) (kW u0))=some r:=h
   have h':=fL h;clear h;obtain ⟨x,q,h⟩:=h'
   have l:((0+1:Nat):Int)=1:=rfl
   first|refine aj hJ ?_|refine ah hJ ?_|refine af hJ (ah hJ ?_)|refine af hJ (af hJ (ah hJ ?_))
   simp only[*,go_sem,-h]
   refine af hJ ?_
   refine bP hJ (by simp only[*,go_sem,-h]) ?_
   refine aI hJ ?_
   refine af hJ (aN hJ ?_)
   first|refine aj hJ ?_|refine ah hJ ?_|refine af hJ (ah hJ ?_)|refine af hJ (af hJ (ah hJ ?_))
   simp only[*,go_sem,-h]
   first|refine aj hJ ?_|refine ah hJ ?_|refine af hJ (ah hJ ?_)|refine af hJ (af hJ (ah hJ ?_))
   simp only[*,go_sem,-h]
   refine bn hJ _ (Gf u0 ⟨(d.mono aT),(e.mono aT),(g.mono aT),(k.mono aT)⟩ q) (aK ?_)
   simp only[*,go_sem,-h]
   first|refine aj hJ ?_|refine ah hJ ?_|refine af hJ (ah hJ ?_)|refine af hJ (af hJ (ah hJ ?_))
   simp only[*,go_sem,-h]
   have h':=iP h;clear h;rcases h' with ⟨b,h⟩|⟨b,h⟩
   ·refine bP hJ (by simp only[*,go_sem,-h]) ?_
    first|refine aj hJ ?_|refine ah hJ ?_|refine af hJ (ah hJ ?_)|refine af hJ (af hJ (ah hJ ?_))
    simp only[*,go_sem,-h]
    have h':=Option.some.inj h;clear h;subst h'
    refine ay ?_
    simp only[*,go_sem]
   ·refine bM hJ (by simp only[*,go_sem,-h]) ?_
    refine aI hJ ?_
    refine aj hJ ?_
    simp only[*,go_sem,-h]
    refine ⟨5 - 2,by omega,_,Le.refl _,2,rfl,rfl,?_⟩
    have hw:IntKind.i64.wrap (1+1)=((2:Nat):Int):=by decide
    simp only[*,go_sem,-h]
    exact ⟨by omega,h⟩
  ·replace h:ag (me u0) (fun x=>cond (x != 0) (some x) (kV u0))=some r:=h
   have h':=fL h;clear h;obtain ⟨x,q,h⟩:=h'
   have l:((0+1+1:Nat):Int)=2:=rfl
   first|refine aj hJ ?_|refine ah hJ ?_|refine af hJ (ah hJ ?_)|refine af hJ (af hJ (ah hJ ?_))
   simp only[*,go_sem,-h]
   refine af hJ ?_
   refine bP hJ (by simp only[*,go_sem,-h]) ?_
   refine aI hJ ?_
   refine af hJ (aN hJ ?_)
   first|refine aj hJ ?_|refine ah hJ ?_|refine af hJ (ah hJ ?_)|refine af hJ (af hJ (ah hJ ?_))
   simp only[*,go_sem,-h]
   first|refine aj hJ ?_|refine ah hJ ?_|refine af hJ (ah hJ ?_)|refine af hJ (af hJ (ah hJ ?_))
   simp only[*,go_sem,-h]
   refine bn hJ _ (Ge u0 ⟨(d.mono aT),(e.mono aT),(g.mono aT),(k.mono aT)⟩ q) (aK ?_)
   simp only[*,go_sem,-h]
   first|refine aj hJ ?_|refine ah hJ ?_|refine af hJ (ah hJ ?_)|refine af hJ (af hJ (ah hJ ?_))
   simp only[*,go_sem,-h]
   have h':=iP h;clear h;rcases h' with ⟨b,h⟩|⟨b,h⟩
   ·refine bP hJ (by simp only[*,go_sem,-h]) ?_
    first|refine aj hJ ?_|refine ah hJ ?_|refine af hJ (ah hJ ?_)|refine af hJ (af hJ (ah hJ ?_))
    simp only[*,go_sem,-h]
    have h':=Option.some.inj h;clear h;subst h'
    refine ay ?_
    simp only[*,go_sem]
   ·refine bM hJ (by simp only[*,go_sem,-h]) ?_
    refine aI hJ ?_
    refine aj hJ ?_
    simp only[*,go_sem,-h]
    refine ⟨5 - 3,by omega,_,Le.refl _,3,rfl,rfl,?_⟩
    have hw:IntKind.i64.wrap (2+1)=((3:Nat):Int):=by decide
    simp only[*,go_sem,-h]
    exact ⟨by omega,h⟩
  ·replace h:ag (mc u0) (fun x=>cond (x != 0) (some x) (kU u0))=some r:=h
   have h':=fL h;clear h;obtain ⟨x,q,h⟩:=h'
   have l:((0+1+1+1:Nat):Int)=3:=rfl
   first|refine aj hJ ?_|refine ah hJ ?_|refine af hJ (ah hJ ?_)|refine af hJ (af hJ (ah hJ ?_))
   simp only[*,go_sem,-h]
   refine af hJ ?_
   refine bP hJ (by simp only[*,go_sem,-h]) ?_
   refine aI hJ ?_
   refine af hJ (aN hJ ?_)
   first|refine aj hJ ?_|refine ah hJ ?_|refine af hJ (ah hJ ?_)|refine af hJ (af hJ (ah hJ ?_))
   simp only[*,go_sem,-h]
   first|refine aj hJ ?_|refine ah hJ ?_|refine af hJ (ah hJ ?_)|refine af hJ (af hJ (ah hJ ?_))
   simp only[*,go_sem,-h]
   refine bn hJ _ (Gd u0 ⟨(d.mono aT),(e.mono aT),(g.mono aT),(k.mono aT)⟩ q) (aK ?_)
   simp only[*,go_sem,-h]
   first|refine aj hJ ?_|refine ah hJ ?_|refine af hJ (ah hJ ?_)|refine af hJ (af hJ (ah hJ ?_))
   simp only[*,go_sem,-h]
   have h':=iP h;clear h;rcases h' with ⟨b,h⟩|⟨b,h⟩
   ·refine bP hJ (by simp only[*,go_sem,-h]) ?_
    first|refine aj hJ ?_|refine ah hJ ?_|refine af hJ (ah hJ ?_)|refine af hJ (af hJ (ah hJ ?_))
    simp only[*,go_sem,-h]
    have h':=Option.some.inj h;clear h;subst h'
    refine ay ?_
    simp only[*,go_sem]
   ·refine bM hJ (by simp only[*,go_sem,-h]) ?_
    refine aI hJ ?_
    refine aj hJ ?_
    simp only[*,go_sem,-h]
    refine ⟨5 - 4,by omega,_,Le.refl _,4,rfl,rfl,?_⟩
    have hw:IntKind.i64.wrap (3+1)=((4:Nat):Int):=by decide
    simp only[*,go_sem,-h]
    exact ⟨by omega,h⟩
  ·replace h:ag (mb u0) (fun x=>cond (x != 0) (some x) (nq u0))=some r:=h
   have h':=fL h;clear h;obtain ⟨x,q,h⟩:=h'
   have l:((0+1+1+1+1:Nat):Int)=4:=rfl
   first|refine aj hJ ?_|refine ah hJ ?_|refine af hJ (ah hJ ?_)|refine af hJ (af hJ (ah hJ ?_))
   simp only[*,go_sem,-h]
   refine af hJ ?_
   refine bP hJ (by simp only[*,go_sem,-h]) ?_
   refine aI hJ ?_
   refine af hJ (aN hJ ?_)
   first|refine aj hJ ?_|refine ah hJ ?_|refine af hJ (ah hJ ?_)|refine af hJ (af hJ (ah hJ ?_))
   simp only[*,go_sem,-h]
   first|refine aj hJ ?_|refine ah hJ ?_|refine af hJ (ah hJ ?_)|refine af hJ (af hJ (ah hJ ?_))
   simp only[*,go_sem,-h]
   refine bn hJ _ (Gc u0 ⟨(d.mono aT),(e.mono aT),(g.mono aT),(k.mono aT)⟩ q) (aK ?_)
   simp only[*,go_sem,-h]
   first|refine aj hJ ?_|refine ah hJ ?_|refine af hJ (ah hJ ?_)|refine af hJ (af hJ (ah hJ ?_))
   simp only[*,go_sem,-h]
   have h':=iP h;clear h;rcases h' with ⟨b,h⟩|⟨b,h⟩
   ·refine bP hJ (by simp only[*,go_sem,-h]) ?_
    first|refine aj hJ ?_|refine ah hJ ?_|refine af hJ (ah hJ ?_)|refine af hJ (af hJ (ah hJ ?_))
    simp only[*,go_sem,-h]
    have h':=Option.some.inj h;clear h;subst h'
    refine ay ?_
    simp only[*,go_sem]
   ·refine bM hJ (by simp only[*,go_sem,-h]) ?_
    refine aI hJ ?_
    refine aj hJ ?_
    simp only[*,go_sem,-h]
    refine ⟨5 - 5,by omega,_,Le.refl _,5,rfl,rfl,?_⟩
    have hw:IntKind.i64.wrap (4+1)=((5:Nat):Int):=by decide
    simp only[*,go_sem,-h]
    exact ⟨by omega,h⟩
  ·have:i=0:=by omega
   subst this
   replace h:some 0=some r:=h
   have l:((0+1+1+1+1+1:Nat):Int)=5:=rfl
   first|refine aj hJ ?_|refine ah hJ ?_|refine af hJ (ah hJ ?_)|refine af hJ (af hJ (ah hJ ?_))
   simp only[*,go_sem,-h]
   refine af hJ ?_
   refine bM hJ (by simp only[*,go_sem,-h]) ?_
   refine bJ ?_
   simp only[go_sem]
   first|refine aj hJ ?_|refine ah hJ ?_|refine af hJ (ah hJ ?_)|refine af hJ (af hJ (ah hJ ?_))
   simp only[*,go_sem,-h]
   have h':=Option.some.inj h;clear h;subst h'
   refine ay ?_
   simp only[*,go_sem]
def nt (u0:ak)(b:aQ)(i39:Nat)(a:bY)(st:(List bC)):Option (Fl (List bC) bC):=
 ag (gd a.high) fun c=>ag (j4 u0 b (i39:Int) (⟨a.aH,c⟩:gQ)) fun d=>ag (cY st ([d])) fun e=>some (.nx e)
def kY (u0:ak)(b:aQ):Option bC:=
 ag (bB (nt u0 b) 0 u0.av ([]:List bC)) fun o=>aB o (fun a=>ag (bf a 0) fun c=>ag (jS a 1 (a.length:Int)) fun d=>ag (l9 iT c d) fun e=>some e) (fun _ _=>none) (fun r=>some r)
theorem sk {ro:Addr->Option Value}(u0:ak){s1 f g i:Value}(u:bK ro u0 s1 f g i)(b:aQ){r:bC}(h:kY u0 b=some r):aD Tryz.prog 86 #[bv u0 s1 f g i,.agg #[.int .i64 b.back,.int .i64 b.high]] ⟨ro,[]⟩ (fun v _=>v=r.v):=by
 obtain ⟨d3,c4,rfl,dT,W,-⟩:=id u.e;unfold kY at h;refine aD.go Tryz.func86 rfl Tryz.ntmps86 Tryz.results86 (by simp) fun main J hJ A X hd hs=>?_;have Y:=hs 0;have k1:=hs 1;clear hs;refine ah hJ ?_;simp only[*,go_sem];refine aA fun o Z ab=>?_;try simp only[au] at ab
 refine aA fun p ad ae=>?_;try simp only[au] at ae
 refine aA fun q al ao=>?_;try simp only[au] at ao
 try simp only[*,go_sem]
 refine ah hJ ?_;simp only[*,go_sem];refine af hJ (ah hJ ?_);simp only[*,go_sem];refine aN hJ ?_;revert h;refine bS fun ar j a0=>?_;refine bQ hJ [5,6,7,12,13,14,15,16,17,18,19,20,21,22,23,24,25,26,27,28,29,30] (fun m G F'=>∃(i39:Nat) (d33:Option Addr) (s:Nat) (w:List (Nat×Obj)) (c:(List bC)),m=u0.av.length - i39/\i39<=u0.av.length/\bB (nt u0 b) i39 (u0.av.drop i39) c=some ar/\F'=⟨ro,(q,.cells #[.int .i64 0,.int .i64 0,.int .i64 0,.int .i64 0,.int .i64 0,.int .i64 0] 147)::(p,.cells #[.int .i64 b.back,.int .i64 b.high] 134)::(o,bl u0 (sl d3 u0.av c4) f g i)::w⟩/\aO j0 ro 147 (.slice d33 c.length s) c w/\c.length<=s/\slot G 12= .int .i64 (i39:Int)/\slot G 5= .slice d33 c.length s) u0.av.length ?_ ?_
 ·refine ⟨0,none,0,[],([]:List bC),(Nat.sub_zero _).symm,Nat.zero_le _,j,rfl,aO.nil _ _ _,Nat.le_refl _,?_⟩;simp only[*,go_sem]
 rintro ea eb F' H ⟨i39,d33,s,w,c,rfl,ec,j,rfl,I,ed,eh,et⟩;obtain ⟨a2,a3,a4⟩:=H.pick [2,3,4,10,11] (by decide);simp only[*,go_sem] at a2 a3 a4;clear H X hd Y k1;refine ah hJ ?_;simp only[*,go_sem];refine af hJ ?_;rcases Nat.lt_or_ge i39 u0.av.length with a5|K
 ·refine bP hJ (by simp only[*,go_sem]) ?_;refine aI hJ ?_;obtain ⟨d,y⟩:∃x,u0.av[i39]?=some x:=⟨_,List.getElem?_eq_getElem a5⟩
  rw[c8 y] at j;revert j;refine bS fun ev h a6=>?_;unfold nt at h;try dsimp only at h
  obtain ⟨z,a7,a8,a9,B⟩:=u.e.el _ _ y;obtain rfl:a7=d.cells:=a9;cases a8;have ba:=B 0 _ rfl;simp only[go_sem] at ba;have bb:=B 1 _ rfl;simp only[go_sem] at bb;clear B y;refine af hJ (aN hJ (af hJ ?_));refine az hJ fun bc=>?_;refine aj hJ ?_;simp only[*,go_sem];refine aA fun C eQ L=>?_;have eS:=aP.cons L bc;try simp only[au] at L
  try simp only[*,go_sem]
  refine az hJ fun bd=>?_;refine fc hJ mixed 11 ⟨ro,[(C,.cells #[.int .i64 d.aH,.int .i64 d.high] 85),(q,.cells #[.int .i64 0,.int .i64 0,.int .i64 0,.int .i64 0,.int .i64 0,.int .i64 0] 147),(p,.cells #[.int .i64 b.back,.int .i64 b.high] 134),(o,bl u0 (sl (some z) u0.av c4) f g i)]⟩ (by simp only[*,go_sem]) (by kernel_rfl) ?_;revert h;refine bS fun bj bk h=>?_;simp only[*,go_sem];refine ⟨_,bD hJ fun F t=>ju d.high bk,b9 ?_⟩;revert h;refine bS fun a bm h=>?_;try simp only[*,go_sem]
  refine ⟨_,bD hJ fun F t=>AL u0 (u.mono (bZ t)) b (i39:Int) (⟨d.aH,bj⟩:gQ) bm,?_⟩;revert h;refine bS fun bo br h=>?_;obtain rfl:=sI h;obtain ⟨bs,M⟩:=dr br;try simp only[*,go_sem]
  refine aA fun N bz O=>?_;have b0:=aP.cons O bd;try simp only[au] at O
  try simp only[*,go_sem]
  refine ee (r:=j0) (l:=c) (x:=a) (cs:=#[.int .i64 a.spot.aH,.int .i64 a.spot.high.num,.int .i64 a.spot.high.den,.int .i64 a.at_,.int .i64 a.high.num,.int .i64 a.high.den]) (e2:=147) [(N,.cells #[.int .i64 a.spot.aH,.int .i64 a.spot.high.num,.int .i64 a.spot.high.den,.int .i64 a.at_,.int .i64 a.high.num,.int .i64 a.high.den] 147),(C,.cells #[.int .i64 d.aH,.int .i64 d.high] 85),(q,.cells #[.int .i64 0,.int .i64 0,.int .i64 0,.int .i64 0,.int .i64 0,.int .i64 0] 147),(p,.cells #[.int .i64 b.back,.int .i64 b.high] 134),(o,bl u0 (sl (some z) u0.av c4) f g i)] [] I b0 bs rfl (by simp only[*,go_sem]) bz rfl rfl m7 m7 vn vp rfl vo (by decide) (by decide) (fun e0 P D b1 b2 e1=>?_);simp only[aV] at b2;subst b1;rw[<-M] at D;clear M;obtain ⟨d63,b3,rfl,b4⟩:=D.len;refine ⟨⟨ro,(N,.cells #[.int .i64 a.spot.aH,.int .i64 a.spot.high.num,.int .i64 a.spot.high.den,.int .i64 a.at_,.int .i64 a.high.num,.int .i64 a.high.den] 147)::(C,.cells #[.int .i64 d.aH,.int .i64 d.high] 85)::(q,.cells #[.int .i64 0,.int .i64 0,.int .i64 0,.int .i64 0,.int .i64 0,.int .i64 0] 147)::(p,.cells #[.int .i64 b.back,.int .i64 b.high] 134)::(o,bl u0 (sl (some z) u0.av c4) f g i)::P⟩,Le.refl _,?_⟩;refine ⟨by simp only[*,go_sem],lU ?_⟩;try simp only[*,go_sem]
  have e3:=cq (n:=i39) (by have:=W;omega);refine aj hJ ?_;simp only[*,go_sem];refine ⟨u0.av.length - (i39+1),by omega,_,Le.sub (List.Sublist.cons _ (List.Sublist.cons _ (List.Sublist.refl _))),i39+1,d63,b3,P,bo,rfl,by omega,a6,rfl,D,b4,?_⟩;simp only[*,go_sem]
 have fa:=Nat.not_lt.2 K;refine bM hJ (by simp only[*,go_sem]) ?_;rw[List.drop_eq_nil_of_le K] at j;obtain rfl:=sI j;clear j;have h:=a0;dsimp only[aB] at h;refine bJ ?_;simp only[go_sem];refine af hJ ?_;refine az hJ fun Q=>?_;obtain ⟨b5,fb,ca,E,cb⟩:=I.eY [(q,.cells #[.int .i64 0,.int .i64 0,.int .i64 0,.int .i64 0,.int .i64 0,.int .i64 0] 147),(p,.cells #[.int .i64 b.back,.int .i64 b.high] 134),(o,bl u0 (sl d3 u0.av c4) f g i)] [] Q (aE.cons al (aE.cons ad (aE.cons Z (aE.nil _))));clear Q;refine cG hJ cb ?_;obtain ⟨fg,fi,-⟩:=E.op;simp only[bp] at ca;refine fc hJ mixed 6 ⟨b5,[(p,.cells #[.int .i64 b.back,.int .i64 b.high] 134),(o,bl u0 (sl d3 u0.av c4) f g i)]⟩ (by simp only[*,go_sem]) (by kernel_rfl) ?_;revert h;refine bS fun R cd h=>?_;obtain ⟨fp,fr,S⟩:=cH cd;obtain ⟨fs,cf,cl,cy,k⟩:=E.el _ _ S;obtain rfl:cf=R.cells:=cy;cases cl;have cS:=k 0 _ rfl;simp only[go_sem] at cS;have c0:=k 1 _ rfl;simp only[go_sem] at c0;have da:=k 2 _ rfl;simp only[go_sem] at da;have db:=k 3 _ rfl;simp only[go_sem] at db;have dd:=k 4 _ rfl;simp only[go_sem] at dd;have df:=k 5 _ rfl;simp only[go_sem] at df;clear k S;revert h;refine bS fun dk dp h=>?_;obtain ⟨ft,fu,fv,T⟩:=pq dp;have U:(1:Int).toNat<=((c.length:Int)).toNat:=by omega
 have dq:((c.length:Int)).toNat<=s:=by omega
 have fw:0<=((c.length:Int)):=by omega
 obtain ⟨d80,ds,dt,V⟩:=aC.pF E (1:Int).toNat ((c.length:Int)).toNat U (by omega) T;simp only[go_sem] at ds dt U dq;obtain ⟨_,_,du,fx,gg,gl⟩:=id V;cases du;clear T;revert h;refine bS fun gn dv h=>?_;obtain rfl:=sI h;try simp only[*,go_sem]
 refine ⟨_,bD hJ fun F t=>r6 (dK:=88) (eg:=#[]) (ei:=#[]) iT ⟨by simp only[go_sem],fun gp gB dC dE _ h=>by simp only[go_sem];exact rY dC dE h⟩ R dk (V.mono (bZ t)) dv,?_⟩;try simp only[*,go_sem]
 refine ay ?_;simp only[*,go_sem]
def sn (u0:ak)(a:aQ):Option an:=
 ag (gd u0.bO) fun b=>ag (kY u0 a) fun c=>ag (jw b c.high) fun d=>some d
theorem AN {ro:Addr->Option Value}(u0:ak){s1 b c d:Value}(f:bK ro u0 s1 b c d)(a:aQ){r:an}(h:sn u0 a=some r):aD Tryz.prog 73 #[bv u0 s1 b c d,.agg #[.int .i64 a.back,.int .i64 a.high]] ⟨ro,[]⟩ (fun v _=>v=r.v):=by
 unfold sn at h;refine aD.go Tryz.func73 rfl Tryz.ntmps73 Tryz.results73 (by simp) fun main J hJ A s hd hs=>?_;have t:=hs 0;have k1:=hs 1;clear hs;refine ah hJ ?_;simp only[*,go_sem];refine aA fun g u i=>?_;try simp only[au] at i
 refine aA fun j w k=>?_;try simp only[au] at k
 refine aA fun x y l=>?_;try simp only[au] at l
 try simp only[*,go_sem]
 refine af hJ ?_;refine fc hJ mixed 9 ⟨ro,[(j,.cells #[.int .i64 a.back,.int .i64 a.high] 134),(g,bl u0 s1 b c d)]⟩ (by simp only[*,go_sem]) (by kernel_rfl) ?_;revert h;refine bS fun m n h=>?_;simp only[*,go_sem];refine ⟨_,bD hJ fun F e=>ju u0.bO n,b9 ?_⟩;revert h;refine bS fun o p h=>?_;try simp only[*,go_sem]
 refine ⟨_,bD hJ fun F e=>sk u0 (f.mono (bZ e)) a p,b9 ?_⟩;revert h;refine bS fun z q h=>?_;obtain rfl:=sI h;try simp only[*,go_sem]
 refine ⟨_,bD hJ fun F e=>pX m o.high q,?_⟩;try simp only[*,go_sem]
 refine ay ?_;simp only[*,go_sem]
def nu (u0:ak)(a:Int)(st:Int):Option (Fl Int an):=
 ag (bf u0.av st) fun b=>cond (decide (b.aH<a)) (some (.nx (IntKind.i64.wrap (st+1)))) (some (.bk st))
def iW (u0:ak)(b:Int):Option an:=
 ag (aR (nu u0 b) fu 1) fun o=>aB o (fun c=>ag (bf u0.av (IntKind.i64.wrap (c - 1))) fun a=>ag (bf u0.av c) fun d=>ag (gd a.high) fun e=>ag (j3 (IntKind.i64.wrap ((IntKind.i64.wrap (d.high - a.high))*(IntKind.i64.wrap (b - a.aH)))) (IntKind.i64.wrap (d.aH - a.aH))) fun f=>ag (jv e f) fun g=>some g) (fun _ _=>none) (fun r=>some r)
theorem AO {ro:Addr->Option Value}(u0:ak){s1 b c d:Value}(g:bK ro u0 s1 b c d)(i:Int){r:an}(h:iW u0 i=some r):aD Tryz.prog 116 #[bv u0 s1 b c d,.int .i64 i] ⟨ro,[]⟩ (fun v _=>v=r.v):=by
 obtain ⟨d3,c4,rfl,bc,bd,-⟩:=id g.e;unfold iW at h;refine aD.go Tryz.func116 rfl Tryz.ntmps116 Tryz.results116 (by simp) fun main J hJ A E hd hs=>?_;have G:=hs 0;have k1:=hs 1;clear hs;refine ah hJ ?_;simp only[*,go_sem];refine aA fun l bj H=>?_;try simp only[au] at H
 refine aA fun t bk I=>?_;try simp only[au] at I
 try simp only[*,go_sem]
 refine ah hJ ?_;simp only[*,go_sem];refine af hJ (aN hJ ?_);revert h;refine bS fun K j L=>?_;refine bQ hJ [5,8,9,10,11,12,13,14,15,16,17,18] (fun m M F'=>∃(k:Int),aR (nu u0 i) m k=some K/\F'=⟨ro,(t,rt 0 0)::(l,bl u0 (sl d3 u0.av c4) b c d)::[]⟩/\slot M 5= .int .i64 k) fu ?_ ?_
 ·refine ⟨1,j,rfl,?_⟩;simp only[*,go_sem]
 rintro n bm F' u ⟨k,j,rfl,bo⟩;obtain ⟨N,O,P⟩:=u.pick [1,2,4] (by decide);simp only[*,go_sem] at N O P;clear u E hd G k1;obtain _|n:=n
 ·exact absurd j (by simp only[aR,reduceCtorEq,not_false_eq_true])
 revert j;refine bS fun br h o=>?_;unfold nu at h;try dsimp only at h
 refine af hJ (ah hJ ?_);revert h;refine bS fun Q R h=>?_;obtain ⟨bs,bz,w⟩:=cH R;obtain ⟨x,S,T,U,p⟩:=g.e.el _ _ w;obtain rfl:S=Q.cells:=U;cases T;have y:=p 0 _ rfl;simp only[go_sem] at y;have z:=p 1 _ rfl;simp only[go_sem] at z;clear p w;try simp only[*,go_sem]
 revert h;refine jC hJ (by simp only[*,go_sem]) (fun V h=>?_) fun V h=>?_
 ·obtain rfl:=sI h;refine aI hJ (aN hJ ?_);refine aj hJ ?_;simp only[*,go_sem];refine ⟨n,Nat.lt_succ_self _,_,Le.sub (List.Sublist.refl _),(IntKind.i64.wrap (k+1)),o,rfl,?_⟩;simp only[*,go_sem]
 obtain rfl:=sI h;refine bJ ?_;simp only[go_sem];obtain rfl:=sI o;clear o;have h:=L;dsimp only[aB] at h;clear y z;refine af hJ ?_;refine Ac hJ mixed 13 ⟨ro,[(t,rt 0 0),(l,bl u0 (sl (some x) u0.av c4) b c d)]⟩ (by simp only[*,go_sem]) (by kernel_rfl) 85 rfl z4 ?_;revert h;refine bS fun a W h=>?_;obtain ⟨b0,b1,B⟩:=cH W;obtain ⟨b2,X,Y,Z,q⟩:=g.e.el _ _ B;obtain rfl:X=a.cells:=Z;cases Y;have ab:=q 0 _ rfl;simp only[go_sem] at ab;have ad:=q 1 _ rfl;simp only[go_sem] at ad;clear q B;revert h;refine bS fun f ae h=>?_;obtain ⟨b3,b4,C⟩:=cH ae;obtain ⟨b5,al,ao,ar,s⟩:=g.e.el _ _ C;obtain rfl:al=f.cells:=ar;cases ao;have a0:=s 0 _ rfl;simp only[go_sem] at a0;have a2:=s 1 _ rfl;simp only[go_sem] at a2;clear s C;try simp only[*,go_sem]
 refine aA fun a3 ca a4=>?_;try simp only[au] at a4
 try simp only[*,go_sem]
 refine aA fun a5 cb a6=>?_;try simp only[au] at a6
 try simp only[*,go_sem]
 refine af hJ ?_;refine fc hJ mixed 20 ⟨ro,[(a5,.cells #[.int .i64 f.aH,.int .i64 f.high] 85),(a3,.cells #[.int .i64 a.aH,.int .i64 a.high] 85),(l,bl u0 (sl (some x) u0.av c4) b c d)]⟩ (by simp only[*,go_sem]) (by kernel_rfl) ?_;revert h;refine bS fun a7 a8 h=>?_;simp only[*,go_sem];refine ⟨_,bD hJ fun F D=>ju a.high a8,b9 ?_⟩;revert h;refine bS fun a9 ba h=>?_;try simp only[*,go_sem]
 refine ⟨_,bD hJ fun F D=>pV (IntKind.i64.wrap ((IntKind.i64.wrap (f.high - a.high))*(IntKind.i64.wrap (i - a.aH)))) (IntKind.i64.wrap (f.aH - a.aH)) ba,b9 ?_⟩;revert h;refine bS fun cd bb h=>?_;obtain rfl:=sI h;try simp only[*,go_sem]
 refine ⟨_,bD hJ fun F D=>pW a7 a9 bb,?_⟩;try simp only[*,go_sem]
 refine ay ?_;simp only[*,go_sem]
def p5 (c:bN)(b:an)(i59:Nat)(a:bC)(st:Unit):Option (Fl Unit (List bC)):=
 cond (((a.spot.aH==c.place)&&((a.spot.high.num==b.num)&&(a.spot.high.den==b.den)))) (some (.br 1 ())) (some (.nx ()))
def p6 (u0:ak)(c:aQ)(i38:Nat)(a:bN)(st:(List bC)):Option (Fl (List bC) (List bC)):=
 ag (iW u0 a.place) fun d=>ag (gd a.di) fun e=>ag (jv d e) fun b=>ag (bB (p5 a b) 0 st ()) fun o=>aB o (fun h=>ag (j4 u0 c (i38:Int) (⟨a.place,b⟩:gQ)) fun f=>ag (cY st ([f])) fun g=>some (.nx g)) (fun _ i=>some (.nx st)) (fun r=>some (.rt r))
def jx (u0:ak)(a:aQ):Option (List bC):=
 ag (bB (p6 u0 a) 0 u0.props ([]:List bC)) fun o=>aB o (fun b=>some b) (fun _ _=>none) (fun r=>some r)
theorem vL {ro:Addr->Option Value}(u0:ak){s1 O f g:Value}(w:bK ro u0 s1 O f g)(b:aQ){r:(List bC)}(h:jx u0 b=some r):eI Tryz.prog 102 #[bv u0 s1 O f g,.agg #[.int .i64 b.back,.int .i64 b.high]] ro (fun v aM=>∃P,v=P/\aC j0 aM P r):=by
 obtain ⟨d10,o,rfl,fi,Q,-⟩:=id w.p;unfold jx at h;refine aD.go Tryz.func102 rfl Tryz.ntmps102 Tryz.results102 (by simp) fun main J hJ A ba hd hs=>?_;have bb:=hs 0;have k1:=hs 1;clear hs;refine ah hJ ?_;simp only[*,go_sem];refine aA fun q bc bj=>?_;try simp only[au] at bj
 refine aA fun s bk bm=>?_;try simp only[au] at bm
 try simp only[*,go_sem]
 refine D1 hJ (af hJ ?_);refine aj hJ ?_;simp only[*,go_sem];refine af hJ ?_;refine DZ hJ ?_;refine af hJ (ah hJ ?_);simp only[*,go_sem];refine aN hJ ?_;revert h;refine bS fun bo i br=>?_;refine bQ hJ [5,6,7,8,10,15,16,17,18,19,20,21,22,23,24,25,26,27,28,29,30,31,32,33,34,35,36,37,38,39,40,41,42,43,44,45,46,47,48,49,50] (fun m y F'=>∃(i38:Nat) (d32:Option Addr) (t:Nat) (z:List (Nat×Obj)) (c:(List bC)),m=u0.props.length - i38/\i38<=u0.props.length/\bB (p6 u0 b) i38 (u0.props.drop i38) c=some bo/\F'=⟨ro,(s,.cells #[.int .i64 b.back,.int .i64 b.high] 134)::(q,bl u0 s1 (sl d10 u0.props o) f g)::z⟩/\aO j0 ro 147 (.slice d32 c.length t) c z/\c.length<=t/\slot y 15= .int .i64 (i38:Int)/\slot y 5= .slice d32 c.length t) u0.props.length ?_ ?_
 ·refine ⟨0,none,0,[],([]:List bC),(Nat.sub_zero _).symm,Nat.zero_le _,i,rfl,aO.nil _ _ _,Nat.le_refl _,?_⟩;simp only[*,go_sem]
 rintro fp bs F' R ⟨i38,d32,t,z,c,rfl,fr,i,rfl,u,bz,b0,b1⟩;obtain ⟨S,T,U⟩:=R.pick [2,3,4,13,14] (by decide);simp only[*,go_sem] at S T U;clear R ba hd bb k1;refine ah hJ ?_;simp only[*,go_sem];refine af hJ ?_;rcases Nat.lt_or_ge i38 u0.props.length with b2|V
 ·refine bP hJ (by simp only[*,go_sem]) ?_;refine aI hJ ?_;obtain ⟨d,B⟩:∃x,u0.props[i38]?=some x:=⟨_,List.getElem?_eq_getElem b2⟩
  rw[c8 B] at i;revert i;refine bS fun fs h W=>?_;unfold p6 at h;try dsimp only at h
  obtain ⟨C,b3,b4,b5,D⟩:=w.p.el _ _ B;obtain rfl:b3=d.cells:=b5;cases b4;have ca:=D 0 _ rfl;simp only[go_sem] at ca;have cb:=D 1 _ rfl;simp only[go_sem] at cb;clear D B;refine af hJ (aN hJ (af hJ ?_));refine az hJ fun cd=>?_;refine aj hJ ?_;simp only[*,go_sem];refine aA fun E ft X=>?_;have fu:=aP.cons X cd;try simp only[au] at X
  try simp only[*,go_sem]
  refine af hJ ?_;refine az hJ fun cf=>?_;refine cQ hJ mixed 11 3 (by simp only[*,go_sem]) (by kernel_rfl) ?_;revert h;refine bS fun cl cy h=>?_;simp only[*,go_sem];refine ⟨_,bD hJ fun F G=>AO u0 (w.mono (bZ G)) d.place cy,b9 ?_⟩;revert h;refine bS fun cS c0 h=>?_;try simp only[*,go_sem]
  refine ⟨_,bD hJ fun F G=>ju d.di c0,b9 ?_⟩;revert h;refine bS fun e da h=>?_;try simp only[*,go_sem]
  refine ⟨_,bD hJ fun F G=>pW cl cS da,b9 ?_⟩;try simp only[*,go_sem]
  refine aA fun H fv Y=>?_;have fw:=aP.cons Y cf;try simp only[au] at Y
  try simp only[*,go_sem]
  refine af hJ (af hJ ?_);refine az hJ fun fx=>?_;refine aj hJ ?_;simp only[*,go_sem];refine aN hJ ?_;revert h;refine bS fun db j Z=>?_;refine bQ hJ [10,33,34,35,36,37,38,39,40,41] (fun m y F'=>∃(i59:Nat),m=c.length - i59/\i59<=c.length/\bB (p5 d e) i59 (c.drop i59) ()=some db/\F'=⟨ro,(H,.cells #[.int .i64 d.place,.int .i64 e.num,.int .i64 e.den] 145)::(E,.cells #[.int .i64 d.place,.int .i64 d.di] 96)::(s,.cells #[.int .i64 b.back,.int .i64 b.high] 134)::(q,bl u0 s1 (sl (some C) u0.props o) f g)::z⟩/\slot y 33= .int .i64 (i59:Int)) c.length ?_ ?_
  ·refine ⟨0,(Nat.sub_zero _).symm,Nat.zero_le _,j,rfl,?_⟩;simp only[*,go_sem]
  rintro gg dd F' I ⟨i59,rfl,gl,j,rfl,gn⟩;obtain ⟨df,dk,dp⟩:=I.pick [2,3,4,5,6,7,8,13,14,15,16,17,19,20,21,22,23,24,25,26,27,28,29,30,31,32] (by decide);simp only[*,go_sem] at df dk dp;have gp:cE [5,6,7,8,10,15,16,17,18,19,20,21,22,23,24,25,26,27,28,29,30,31,32,33,34,35,36,37,38,39,40,41,42,43,44,45,46,47,48,49,50] dd bs:=(I.fK (by decide)).trans (by simp only[*,go_sem]);clear I S T U b1 b0;refine ah hJ ?_;simp only[*,go_sem];refine af hJ ?_;rcases Nat.lt_or_ge i59 c.length with dq|ab
  ·refine bP hJ (by simp only[*,go_sem]) ?_;refine aI hJ ?_;obtain ⟨ds,K⟩:∃x,c[i59]?=some x:=⟨_,List.getElem?_eq_getElem dq⟩
   rw[c8 K] at j;revert j;refine bS fun gB h L=>?_;unfold p5 at h;(try dsimp only at h);refine az hJ fun M=>?_;obtain ⟨ad,dt,gC,du,dv,rfl,gM,dC,k⟩:=u.elem K;obtain rfl:du=ds.cells:=dC;cases dv;replace M:=M.nd;simp only[keys,List.map_cons,List.map_nil,List.map_append,List.cons_append,List.nil_append,List.nodup_cons,List.mem_cons,List.mem_append,List.not_mem_nil,or_false,not_or] at M;have ae:=k 0 _ rfl;simp only[go_sem] at ae;have al:=k 1 _ rfl;simp only[go_sem] at al;have ao:=k 2 _ rfl;simp only[go_sem] at ao;have ar:=k 3 _ rfl;simp only[go_sem] at ar;have a0:=k 4 _ rfl;simp only[go_sem] at a0;have a2:=k 5 _ rfl;simp only[go_sem] at a2;clear k K;refine af hJ (aN hJ (af hJ ?_));refine az hJ fun dE=>?_;refine aj hJ ?_;simp only[*,go_sem];refine aA fun gT gV a3=>?_;have g0:=aP.cons a3 dE;try simp only[au] at a3
   (try simp only[*,go_sem]);refine af hJ ?_;refine az hJ fun g1=>?_;refine aj hJ ?_;simp only[*,go_sem];revert h;refine jC hJ (by simp only[*,go_sem]) (fun dT h=>?_) fun dT h=>?_
   ·obtain rfl:=sI h;refine bJ ?_;simp only[go_sem];obtain rfl:=sI L;clear L;have h:=Z;dsimp only[aB] at h;obtain rfl:=sI h;clear ae al ao ar a0 a2;have ea:=cq (n:=i38) (by have:=Q;omega);refine aj hJ ?_;simp only[*,go_sem];refine ⟨u0.props.length - (i38+1),by omega,_,Le.sub (List.Sublist.cons _ (List.Sublist.cons _ (List.Sublist.cons _ (List.Sublist.refl _)))),i38+1,(some ⟨ad,0,none⟩),t,[(ad,Obj.cells dt 147)],c,rfl,by omega,W,rfl,u,bz,?_⟩;simp only[*,go_sem]
   obtain rfl:=sI h;refine aI hJ ?_;have g2:=cq (n:=i59) (by have:=u.bd;omega);refine aj hJ ?_;simp only[*,go_sem];refine ⟨c.length - (i59+1),by omega,_,Le.sub (List.Sublist.cons _ (List.Sublist.refl _)),i59+1,rfl,by omega,L,rfl,?_⟩;simp only[*,go_sem]
  have g3:=Nat.not_lt.2 ab;refine bM hJ (by simp only[*,go_sem]) ?_;rw[List.drop_eq_nil_of_le ab] at j;obtain rfl:=sI j;clear j;have h:=Z;dsimp only[aB] at h;refine bJ ?_;simp only[go_sem];refine az hJ fun eb=>?_;refine aj hJ ?_;revert h;refine bS fun a ec h=>?_;simp only[*,go_sem];refine bn hJ _ (AL u0 (w.mono aT) b (i38:Int) (⟨d.place,e⟩:gQ) ec) (aK ?_);revert h;refine bS fun ed eh h=>?_;obtain rfl:=sI h;obtain ⟨et,a4⟩:=dr eh;try simp only[*,go_sem]
  refine aA fun a5 ev a6=>?_;have eQ:=aP.cons a6 eb;try simp only[au] at a6
  try simp only[*,go_sem]
  refine ee (r:=j0) (l:=c) (x:=a) (cs:=#[.int .i64 a.spot.aH,.int .i64 a.spot.high.num,.int .i64 a.spot.high.den,.int .i64 a.at_,.int .i64 a.high.num,.int .i64 a.high.den]) (e2:=147) [(a5,.cells #[.int .i64 a.spot.aH,.int .i64 a.spot.high.num,.int .i64 a.spot.high.den,.int .i64 a.at_,.int .i64 a.high.num,.int .i64 a.high.den] 147),(H,.cells #[.int .i64 d.place,.int .i64 e.num,.int .i64 e.den] 145),(E,.cells #[.int .i64 d.place,.int .i64 d.di] 96),(s,.cells #[.int .i64 b.back,.int .i64 b.high] 134),(q,bl u0 s1 (sl (some C) u0.props o) f g)] [] u eQ et rfl (by simp only[*,go_sem]) ev rfl rfl m7 m7 vn vp rfl vo (by decide) (by decide) (fun g4 a7 N eS e0 ha=>?_);simp only[aV] at e0;subst eS;rw[<-a4] at N;clear a4;obtain ⟨d83,e1,rfl,e3⟩:=N.len;refine ⟨⟨ro,(a5,.cells #[.int .i64 a.spot.aH,.int .i64 a.spot.high.num,.int .i64 a.spot.high.den,.int .i64 a.at_,.int .i64 a.high.num,.int .i64 a.high.den] 147)::(H,.cells #[.int .i64 d.place,.int .i64 e.num,.int .i64 e.den] 145)::(E,.cells #[.int .i64 d.place,.int .i64 d.di] 96)::(s,.cells #[.int .i64 b.back,.int .i64 b.high] 134)::(q,bl u0 s1 (sl (some C) u0.props o) f g)::a7⟩,Le.refl _,?_⟩;refine aK ?_;try simp only[*,go_sem]
  have ea:=cq (n:=i38) (by have:=Q;omega);refine aj hJ ?_;simp only[*,go_sem];refine ⟨u0.props.length - (i38+1),by omega,_,Le.sub (List.Sublist.cons _ (List.Sublist.cons _ (List.Sublist.cons _ (List.Sublist.refl _)))),i38+1,d83,e1,a7,ed,rfl,by omega,W,rfl,N,e3,?_⟩;simp only[*,go_sem]
 have hc:=Nat.not_lt.2 V;refine bM hJ (by simp only[*,go_sem]) ?_;rw[List.drop_eq_nil_of_le V] at i;obtain rfl:=sI i;clear i;have h:=br;dsimp only[aB] at h;obtain rfl:=sI h;refine bJ ?_;simp only[go_sem];refine af hJ ?_;refine az hJ fun hf=>?_;refine aj hJ ?_;simp only[*,go_sem];refine az hJ fun a8=>?_;obtain ⟨hg,fa,fb,a9,fg⟩:=u.eY [(s,.cells #[.int .i64 b.back,.int .i64 b.high] 134),(q,bl u0 s1 (sl d10 u0.props o) f g)] [] a8 (aE.cons bk (aE.cons bc (aE.nil _)));clear a8;refine cG hJ fg ?_;obtain ⟨hh,hi,-⟩:=a9.op;simp only[bp] at fb;refine ay ?_;simp only[*,go_sem];exact ⟨_,fa,Le.sub (List.nil_sublist _),_,rfl,a9⟩
def mg (i54:Nat)(a:bC)(st:an):Option (Fl an an):=
 ag (ij eF st ([a.high])) fun b=>some (.nx b)
def mh (i100:Nat)(a:bC)(st:an):Option (Fl an an):=
 ag (ij eF st ([a.high])) fun b=>some (.nx b)
def j5 (u0:ak)(a:aQ):Option an:=
 ag (gd u0.bO) fun b=>ag (kY u0 a) fun c=>ag (eF c.high b) fun d=>cond (d) (ag (jx u0 a) fun e=>ag (bB (mg) 0 e c.high) fun o=>aB o (fun f=>ag (jw b f) fun g=>ag (gd 0) fun h=>ag (ij eF g ([h])) fun i=>some i) (fun _ _=>none) (fun r=>some r)) (ag (jx u0 a) fun j=>ag (bB (mh) 0 j b) fun o=>aB o (fun k=>ag (jw c.high k) fun l=>ag (gd 0) fun m=>ag (ij eF l ([m])) fun n=>some n) (fun _ _=>none) (fun r=>some r))
theorem so {ro:Addr->Option Value}(u0:ak){s1 p q s:Value}(t:bK ro u0 s1 p q s)(a:aQ){r:an}(h:j5 u0 a=some r):aD Tryz.prog 82 #[bv u0 s1 p q s,.agg #[.int .i64 a.back,.int .i64 a.high]] ⟨ro,[]⟩ (fun v _=>v=r.v):=by
 unfold j5 at h;refine aD.go Tryz.func82 rfl Tryz.ntmps82 Tryz.results82 (by simp) fun main J hJ A O hd hs=>?_;have P:=hs 0;have k1:=hs 1;clear hs;refine ah hJ ?_;simp only[*,go_sem];refine aA fun D fu al=>?_;try simp only[au] at al
 refine aA fun E fv ao=>?_;try simp only[au] at ao
 refine aA fun G fw ar=>?_;try simp only[au] at ar
 try simp only[*,go_sem]
 refine af hJ ?_;refine Ac hJ mixed 8 ⟨ro,[(G,rt 0 0),(E,.cells #[.int .i64 a.back,.int .i64 a.high] 134),(D,bl u0 s1 p q s)]⟩ (by simp only[*,go_sem]) (by kernel_rfl) 23 rfl z0 ?_;revert h;refine bS fun u a0 h=>?_;simp only[*,go_sem];refine ⟨_,bD hJ fun F Q=>ju u0.bO a0,b9 ?_⟩;revert h;refine bS fun w a2 h=>?_;try simp only[*,go_sem]
 refine ⟨_,bD hJ fun F Q=>sk u0 (t.mono (bZ Q)) a a2,b9 ?_⟩;try simp only[*,go_sem]
 refine aA fun R fx a3=>?_;try simp only[au] at a3
 try simp only[*,go_sem]
 refine aA fun S gg a4=>?_;try simp only[au] at a4
 try simp only[*,go_sem]
 refine af hJ (ah hJ ?_);revert h;refine bS fun gl a5 h=>?_;simp only[*,go_sem];refine bn hJ _ (iS w.high u a5) ?_;try simp only[*,go_sem]
 revert h;refine jC hJ (by simp only[*,go_sem]) (fun a6 h=>?_) fun a6 h=>?_
 ·refine aj hJ ?_;simp only[*,go_sem];refine af hJ (ah hJ ?_);revert h;refine bS fun b a7 h=>?_;simp only[*,go_sem];refine b8 hJ _ (vL u0 t a a7) fun v a8 a9 ba H=>?_;obtain ⟨gn,rfl,T⟩:=H;replace t:=t.mono a9;simp only[bp] at ba;obtain ⟨d48,gp,rfl,gB,bb,-⟩:=id T;refine aK ?_;try simp only[*,go_sem]
  refine aN hJ ?_;revert h;refine bS fun bc c bd=>?_;refine bQ hJ [8,26,27,28,29,30,31,32,33,34,35] (fun m I F'=>∃(i54:Nat) (l:an),m=b.length - i54/\i54<=b.length/\bB (mg) i54 (b.drop i54) l=some bc/\F'=⟨a8,(S,rt u.num u.den)::(R,rt l.num l.den)::(G,rt 0 0)::(E,.cells #[.int .i64 a.back,.int .i64 a.high] 134)::(D,bl u0 s1 p q s)::[]⟩/\slot I 26= .int .i64 (i54:Int)) b.length ?_ ?_
  ·refine ⟨0,w.high,(Nat.sub_zero _).symm,Nat.zero_le _,c,rfl,?_⟩;simp only[*,go_sem]
  rintro gC gM F' U ⟨i54,l,rfl,gT,c,rfl,gV⟩;obtain ⟨bj,bk,bm⟩:=U.pick [4,5,6,24,25] (by decide);simp only[*,go_sem] at bj bk bm;clear U O hd P k1;refine ah hJ ?_;simp only[*,go_sem];refine af hJ ?_;rcases Nat.lt_or_ge i54 b.length with bo|V
  ·refine bP hJ (by simp only[*,go_sem]) ?_;refine aI hJ ?_;obtain ⟨y,K⟩:∃x,b[i54]?=some x:=⟨_,List.getElem?_eq_getElem bo⟩
   rw[c8 K] at c;revert c;refine bS fun g0 h br=>?_;unfold mg at h;(try dsimp only at h);obtain ⟨g1,bs,bz,b0,d⟩:=T.el _ _ K;obtain rfl:bs=y.cells:=b0;cases bz;have b1:=d 0 _ rfl;simp only[go_sem] at b1;have b2:=d 1 _ rfl;simp only[go_sem] at b2;have b3:=d 2 _ rfl;simp only[go_sem] at b3;have b4:=d 3 _ rfl;simp only[go_sem] at b4;have b5:=d 4 _ rfl;simp only[go_sem] at b5;have ca:=d 5 _ rfl;simp only[go_sem] at ca;clear d K;refine af hJ (aN hJ (af hJ ?_));refine aj hJ ?_;simp only[*,go_sem];refine aA fun g2 g3 cb=>?_;try simp only[au] at cb
   (try simp only[*,go_sem]);refine az hJ fun cd=>?_;refine aj hJ ?_;revert h;refine bS fun cf cl h=>?_;obtain rfl:=sI h;simp only[*,go_sem];refine aA fun g4 cy W=>?_;have ha:=aP.cons W cd;try simp only[au] at W
   (try simp only[*,go_sem]);refine bn hJ _ (nj (dK:=76) (eg:=#[]) (ei:=#[]) eF ⟨by simp only[go_sem],fun L M f g _ h=>by simp only[go_sem];exact iS f g h⟩ l ([y.high]) ((aC.flat (r:=kS) (e:=23) (cs:=#[.int .i64 y.high.num,.int .i64 y.high.den]) an.cells ([y.high]) (fun _=>rfl) cy rfl (by simp)).mono (jq (by simp only[*,go_sem]))) cl) (aK ?_);(try simp only[*,go_sem]);have hc:=cq (n:=i54) (by have:=bb;omega);refine aj hJ ?_;simp only[*,go_sem];refine ⟨b.length - (i54+1),by omega,_,Le.sub (List.Sublist.cons _ (List.Sublist.cons _ (List.Sublist.refl _))),i54+1,cf,rfl,by omega,br,rfl,?_⟩;simp only[*,go_sem]
  have hf:=Nat.not_lt.2 V;refine bM hJ (by simp only[*,go_sem]) ?_;rw[List.drop_eq_nil_of_le V] at c;obtain rfl:=sI c;clear c;have h:=bd;dsimp only[aB] at h;refine bJ ?_;simp only[go_sem];refine af hJ ?_;refine az hJ fun cS=>?_;refine aj hJ ?_;revert h;refine bS fun c0 da h=>?_;simp only[*,go_sem];refine bn hJ _ (pX u l da) (aK ?_);revert h;refine bS fun B db h=>?_;try simp only[*,go_sem]
  refine bn hJ _ (ju 0 db) (aK ?_);revert h;refine bS fun hg dd h=>?_;obtain rfl:=sI h;try simp only[*,go_sem]
  refine aA fun hh df X=>?_;have hi:=aP.cons X cS;try simp only[au] at X
  try simp only[*,go_sem]
  refine bn hJ _ (nj (dK:=76) (eg:=#[]) (ei:=#[]) eF ⟨by simp only[go_sem],fun L M f g _ h=>by simp only[go_sem];exact iS f g h⟩ c0 ([B]) ((aC.flat (r:=kS) (e:=23) (cs:=#[.int .i64 B.num,.int .i64 B.den]) an.cells ([B]) (fun _=>rfl) df rfl (by simp)).mono (jq (by simp only[*,go_sem]))) dd) (aK ?_);try simp only[*,go_sem]
  refine ay ?_;simp only[*,go_sem]
 refine aI hJ (af hJ ?_);refine ah hJ ?_;revert h;refine bS fun i dk h=>?_;simp only[*,go_sem];refine b8 hJ _ (vL u0 t a dk) fun v dp hj dq H=>?_;obtain ⟨hk,rfl,Y⟩:=H;simp only[bp] at dq;obtain ⟨d94,hl,rfl,hn,ds,-⟩:=id Y;refine aK ?_;try simp only[*,go_sem]
 refine aN hJ ?_;revert h;refine bS fun dt j du=>?_;refine bQ hJ [8,26,27,28,29,30,31,32,33,34,35] (fun m I F'=>∃(i100:Nat) (o:an),m=i.length - i100/\i100<=i.length/\bB (mh) i100 (i.drop i100) o=some dt/\F'=⟨dp,(S,rt w.high.num w.high.den)::(R,rt o.num o.den)::(G,rt 0 0)::(E,.cells #[.int .i64 a.back,.int .i64 a.high] 134)::(D,bl u0 s1 p q s)::[]⟩/\slot I 26= .int .i64 (i100:Int)) i.length ?_ ?_
 ·refine ⟨0,u,(Nat.sub_zero _).symm,Nat.zero_le _,j,rfl,?_⟩;simp only[*,go_sem]
 rintro ho hp F' Z ⟨i100,o,rfl,hq,j,rfl,hr⟩;obtain ⟨dv,dC,dE⟩:=Z.pick [4,5,6,24,25] (by decide);simp only[*,go_sem] at dv dC dE;clear Z O hd P k1;refine ah hJ ?_;simp only[*,go_sem];refine af hJ ?_;rcases Nat.lt_or_ge i100 i.length with dT|ab
 ·refine bP hJ (by simp only[*,go_sem]) ?_;refine aI hJ ?_;obtain ⟨z,N⟩:∃x,i[i100]?=some x:=⟨_,List.getElem?_eq_getElem dT⟩
  rw[c8 N] at j;revert j;refine bS fun ht h ea=>?_;unfold mh at h;try dsimp only at h
  obtain ⟨hv,eb,ec,ed,k⟩:=Y.el _ _ N;obtain rfl:eb=z.cells:=ed;cases ec;have eh:=k 0 _ rfl;simp only[go_sem] at eh;have et:=k 1 _ rfl;simp only[go_sem] at et;have ev:=k 2 _ rfl;simp only[go_sem] at ev;have eQ:=k 3 _ rfl;simp only[go_sem] at eQ;have eS:=k 4 _ rfl;simp only[go_sem] at eS;have e0:=k 5 _ rfl;simp only[go_sem] at e0;clear k N;refine af hJ (aN hJ (af hJ ?_));refine aj hJ ?_;simp only[*,go_sem];refine aA fun hx hy e1=>?_;try simp only[au] at e1
  try simp only[*,go_sem]
  refine az hJ fun e2=>?_;refine aj hJ ?_;revert h;refine bS fun e3 fa h=>?_;obtain rfl:=sI h;simp only[*,go_sem];refine aA fun hz fb ad=>?_;have hA:=aP.cons ad e2;try simp only[au] at ad
  try simp only[*,go_sem]
  refine bn hJ _ (nj (dK:=76) (eg:=#[]) (ei:=#[]) eF ⟨by simp only[go_sem],fun L M f g _ h=>by simp only[go_sem];exact iS f g h⟩ o ([z.high]) ((aC.flat (r:=kS) (e:=23) (cs:=#[.int .i64 z.high.num,.int .i64 z.high.den]) an.cells ([z.high]) (fun _=>rfl) fb rfl (by simp)).mono (jq (by simp only[*,go_sem]))) fa) (aK ?_);try simp only[*,go_sem]
  have hB:=cq (n:=i100) (by have:=ds;omega);refine aj hJ ?_;simp only[*,go_sem];refine ⟨i.length - (i100+1),by omega,_,Le.sub (List.Sublist.cons _ (List.Sublist.cons _ (List.Sublist.refl _))),i100+1,e3,rfl,by omega,ea,rfl,?_⟩;simp only[*,go_sem]
 have hD:=Nat.not_lt.2 ab;refine bM hJ (by simp only[*,go_sem]) ?_;rw[List.drop_eq_nil_of_le ab] at j;obtain rfl:=sI j;clear j;have h:=du;dsimp only[aB] at h;refine bJ ?_;simp only[go_sem];refine af hJ ?_;refine az hJ fun fg=>?_;refine aj hJ ?_;revert h;refine bS fun fi fp h=>?_;simp only[*,go_sem];refine bn hJ _ (pX w.high o fp) (aK ?_);revert h;refine bS fun C fr h=>?_;try simp only[*,go_sem]
 refine bn hJ _ (ju 0 fr) (aK ?_);revert h;refine bS fun hE fs h=>?_;obtain rfl:=sI h;try simp only[*,go_sem]
 refine aA fun hF ft ae=>?_;have hG:=aP.cons ae fg;try simp only[au] at ae
 try simp only[*,go_sem]
 refine bn hJ _ (nj (dK:=76) (eg:=#[]) (ei:=#[]) eF ⟨by simp only[go_sem],fun L M f g _ h=>by simp only[go_sem];exact iS f g h⟩ fi ([C]) ((aC.flat (r:=kS) (e:=23) (cs:=#[.int .i64 C.num,.int .i64 C.den]) an.cells ([C]) (fun _=>rfl) ft rfl (by simp)).mono (jq (by simp only[*,go_sem]))) fs) (aK ?_);try simp only[*,go_sem]
 refine ay ?_;simp only[*,go_sem]
def fQ (u0:ak)(a:aQ):Option Bool:=
 ag (j5 u0 a) fun b=>ag (eF u0.aY b) fun c=>some c
theorem mj {ro:Addr->Option Value}(u0:ak){s1 b c d:Value}(f:bK ro u0 s1 b c d)(a:aQ){r:Bool}(h:fQ u0 a=some r):aD Tryz.prog 81 #[bv u0 s1 b c d,.agg #[.int .i64 a.back,.int .i64 a.high]] ⟨ro,[]⟩ (fun v _=>v= .bool r):=by
 unfold fQ at h;refine aD.go Tryz.func81 rfl Tryz.ntmps81 Tryz.results81 (by simp) fun main J hJ A m hd hs=>?_;have n:=hs 0;have k1:=hs 1;clear hs;refine ah hJ ?_;simp only[*,go_sem];refine aA fun o p g=>?_;try simp only[au] at g
 refine aA fun q s i=>?_;try simp only[au] at i
 try simp only[*,go_sem]
 refine af hJ ?_;refine cQ hJ mixed 8 2 (by simp only[*,go_sem]) (by kernel_rfl) ?_;revert h;refine bS fun j k h=>?_;simp only[*,go_sem];refine ⟨_,bD hJ fun F e=>so u0 (f.mono (bZ e)) a k,b9 ?_⟩;revert h;refine bS fun t l h=>?_;obtain rfl:=sI h;try simp only[*,go_sem]
 refine ⟨_,bD hJ fun F e=>iS u0.aY j l,b9 ?_⟩;try simp only[*,go_sem]
 refine ay ?_;simp only[*,go_sem]
def vM (u0:((List Int)->(List Int)->Option Bool))(i22:Nat)(a:(List Int))(st:(List Int)):Option (Fl (List Int) (List Int)):=
 ag (u0 st a) fun b=>cond (b) (some (.nx a)) (some (.nx st))
def vN (u0:((List Int)->(List Int)->Option Bool))(a:(List Int))(b:(List (List Int))):Option (List Int):=
 ag (bB (vM u0) 0 b a) fun o=>aB o (fun c=>some c) (fun _ _=>none) (fun r=>some r)
theorem Gh {ro:Addr->Option Value}(u0:((List Int)->(List Int)->Option Bool)){dK:FuncId}{eg ei:Array Value}(G:aJ Tryz.prog dK=true/\∀(aM:Addr->Option Value),Ext ro aM->∀(k:(List Int)) (l:Value) (o:(List Int)) (p:Value) (z:Bool),aC rI aM l k->aC rI aM p o->u0 k o=some z->aD Tryz.prog dK (eg++#[l,p]++ei) ⟨aM,[]⟩ (fun v _=>v= .bool z))(g:(List Int)){s1:Value}(q:aC rI ro s1 g)(b:(List (List Int))){s:Value}(t:aC (rL rI) ro s b){r:(List Int)}(h:vN u0 g b=some r):eI Tryz.prog 104 #[.func (.func dK) eg ei,s1,s] ro (fun v aM=>∃u,v=u/\aC rI aM u r):=by
 obtain ⟨d3,c4,rfl,Y,Z,-⟩:=id q;obtain ⟨d10,ab,rfl,ad,w,-⟩:=id t;unfold vN at h;refine aD.go Tryz.func104 rfl Tryz.ntmps104 Tryz.results104 (by simp) fun main J hJ A H hd hs=>?_;have I:=hs 0;have k1:=hs 1;have K:=hs 2;clear hs;refine ah hJ ?_;simp only[*,go_sem];refine af hJ (ah hJ ?_);simp only[*,go_sem];refine aN hJ ?_;revert h;refine bS fun L c M=>?_;refine bQ hJ [1,8,11,12,13,14,15,16,17,18,19,20] (fun m y F'=>∃(i22:Nat) (d16:Option Addr) (e:Nat) (d:(List Int)),m=b.length - i22/\i22<=b.length/\bB (vM u0) i22 (b.drop i22) d=some L/\F'=⟨ro,[]⟩/\aC rI ro (.slice d16 d.length e) d/\slot y 11= .int .i64 (i22:Int)/\slot y 1= .slice d16 d.length e) b.length ?_ ?_
 ·refine ⟨0,d3,c4,g,(Nat.sub_zero _).symm,Nat.zero_le _,c,rfl,q,?_⟩;simp only[*,go_sem]
 rintro ae al F' B ⟨i22,d16,e,d,rfl,ao,c,rfl,f,ar,a0⟩;obtain ⟨a2,a3,-⟩:=f.op;obtain ⟨N,O,P⟩:=B.pick [0,6,9,10] (by decide);simp only[*,go_sem] at N O P;clear B H hd I k1 K;refine ah hJ ?_;simp only[*,go_sem];refine af hJ ?_;rcases Nat.lt_or_ge i22 b.length with Q|C
 ·refine bP hJ (by simp only[*,go_sem]) ?_;refine aI hJ ?_;obtain ⟨D,i⟩:∃x,b[i22]?=some x:=⟨_,List.getElem?_eq_getElem Q⟩
  rw[c8 i] at c;revert c;refine bS fun a4 h E=>?_;unfold vM at h;try dsimp only at h
  obtain ⟨a5,a6,R,S,F⟩:=t.el _ _ i;obtain ⟨a7,rfl,j⟩:=S;obtain ⟨d31,T,rfl,a8,a9,ba⟩:=id j;cases R;have U:=F 0 _ rfl;simp only[go_sem] at U;clear F i;refine af hJ (aN hJ (af hJ ?_));refine aj hJ ?_;simp only[*,go_sem];refine ah hJ ?_;revert h;refine bS fun bb V h=>?_;simp only[*,go_sem];refine bn hJ _ (G.2 _ (fun a v h=>aT a v h) d _ D _ _ (f.mono aT) (j.mono aT) V) ?_;try simp only[*,go_sem]
  revert h;refine jC hJ (by simp only[*,go_sem]) (fun W h=>?_) fun W h=>?_
  ·obtain rfl:=sI h;refine aj hJ ?_;simp only[*,go_sem];have X:=cq (n:=i22) (by have:=w;omega);refine aj hJ ?_;simp only[*,go_sem];refine ⟨b.length - (i22+1),by omega,_,Le.sub (List.Sublist.refl _),i22+1,d31,T,D,rfl,by omega,E,rfl,j,?_⟩;simp only[*,go_sem]
  obtain rfl:=sI h;refine aI hJ ?_;have X:=cq (n:=i22) (by have:=w;omega);refine aj hJ ?_;simp only[*,go_sem];refine ⟨b.length - (i22+1),by omega,_,Le.sub (List.Sublist.refl _),i22+1,d16,e,d,rfl,by omega,E,rfl,f,?_⟩;simp only[*,go_sem]
 have bc:=Nat.not_lt.2 C;refine bM hJ (by simp only[*,go_sem]) ?_;rw[List.drop_eq_nil_of_le C] at c;obtain rfl:=sI c;clear c;have h:=M;dsimp only[aB] at h;obtain rfl:=sI h;refine bJ ?_;simp only[go_sem];refine ah hJ ?_;simp only[*,go_sem];refine ay ?_;simp only[*,go_sem];exact ⟨_,Ext.refl _,Le.sub (List.nil_sublist _),_,rfl,f⟩
def vO (u0:(List Int))(a:(List Int))(st:(Bool×Int)):Option (Fl (Bool×Int) Bool):=
 cond (decide (st.2<(u0.length:Int))) (ag (bf u0 st.2) fun b=>ag (bf a st.2) fun c=>cond ((b != c)) (some (.rt false)) (some (.nx (st.1,(IntKind.i64.wrap (st.2+1)))))) (some (.bk (st.1,st.2)))
def vP (u0:(List Int))(a:(List Int)):Option Bool:=
 cond (((u0.length:Int) != (a.length:Int))) (some false) (ag (aR (vO u0 a) fu (false,0)) fun o=>aB o (fun b=>some true) (fun _ _=>none) (fun r=>some r))
theorem Gi {ro:Addr->Option Value}(u0:(List Int)){s1:Value}(g:aC rI ro s1 u0)(e:(List Int)){i:Value}(j:aC rI ro i e){r:Bool}(h:vP u0 e=some r):aD Tryz.prog 53 #[s1,i] ⟨ro,[]⟩ (fun v _=>v= .bool r):=by
 obtain ⟨d3,c4,rfl,R,S,-⟩:=id g;obtain ⟨d10,T,rfl,U,V,-⟩:=id j;unfold vP at h;refine aD.go Tryz.func53 rfl Tryz.ntmps53 Tryz.results53 (by simp) fun main J hJ A t hd hs=>?_;have u:=hs 0;have k1:=hs 1;clear hs;refine ah hJ ?_;simp only[*,go_sem];refine af hJ (ah hJ ?_);simp only[*,go_sem];revert h;refine jC hJ (by simp only[*,go_sem]) (fun w h=>?_) fun w h=>?_
 ·obtain rfl:=sI h;refine ah hJ ?_;simp only[*,go_sem];refine ay ?_;simp only[*,go_sem]
 refine aI hJ (af hJ ?_);refine ah hJ ?_;simp only[*,go_sem];refine aN hJ ?_;revert h;refine bS fun x b k=>?_;refine bQ hJ [4,5,11,12,13,14,15,16,17,18,19,20,21,22,23,24,25] (fun m l F'=>∃(c:Bool) (d:Int),aR (vO u0 e) m (c,d)=some x/\F'=⟨ro,[]⟩/\slot l 4= .bool c/\slot l 5= .int .i64 d) fu ?_ ?_
 ·refine ⟨false,0,b,rfl,?_⟩;simp only[*,go_sem]
 rintro f W F' n ⟨c,d,b,rfl,X,Y⟩;obtain ⟨y,z,B⟩:=n.pick [0,1] (by decide);simp only[*,go_sem] at y z B;clear n t hd u k1;obtain _|f:=f
 ·exact absurd b (by simp only[aR,reduceCtorEq,not_false_eq_true])
 revert b;refine bS fun Z h a=>?_;unfold vO at h;try dsimp only at h
 refine af hJ (ah hJ ?_);simp only[*,go_sem];revert h;refine jC hJ (by simp only[*,go_sem]) (fun C h=>?_) fun C h=>?_
 ·refine aI hJ (af hJ ?_);refine aN hJ (af hJ ?_);refine cQ hJ mixed 9 0 (by simp only[*,go_sem]) (by kernel_rfl) ?_;revert h;refine bS fun D E h=>?_;obtain ⟨ab,ad,o⟩:=cH E;obtain ⟨ae,F,G,H,p⟩:=g.el _ _ o;obtain rfl:F=[.int .i64 D]:=H;cases G;have I:=p 0 _ rfl;simp only[go_sem] at I;clear p o;revert h;refine bS fun K L h=>?_;obtain ⟨al,ao,q⟩:=cH L;obtain ⟨ar,M,N,O,s⟩:=j.el _ _ q;obtain rfl:M=[.int .i64 K]:=O;cases N;have P:=s 0 _ rfl;simp only[go_sem] at P;clear s q;try simp only[*,go_sem]
  revert h;refine jC hJ (by simp only[*,go_sem]) (fun Q h=>?_) fun Q h=>?_
  ·obtain rfl:=sI h;refine ah hJ ?_;simp only[*,go_sem];obtain rfl:=sI a;clear a;have h:=k;dsimp only[aB] at h;obtain rfl:=sI h;refine ay ?_;simp only[*,go_sem]
  obtain rfl:=sI h;refine aI hJ (aj hJ ?_);simp only[*,go_sem];refine ⟨f,Nat.lt_succ_self _,_,Le.sub (List.Sublist.refl _),c,(IntKind.i64.wrap (d+1)),a,rfl,?_⟩;simp only[*,go_sem]
 obtain rfl:=sI h;refine bJ ?_;simp only[go_sem];obtain rfl:=sI a;clear a;have h:=k;dsimp only[aB] at h;obtain rfl:=sI h;refine ah hJ ?_;simp only[*,go_sem];refine ay ?_;simp only[*,go_sem]
def mm (u0:(List Int))(a:(List Int)):Option Bool:=
 ag (vP u0 a) fun b=>some b
theorem p7 {ro:Addr->Option Value}(u0:(List Int)){s1:Value}(b:aC rI ro s1 u0)(a:(List Int)){c:Value}(d:aC rI ro c a){r:Bool}(h:mm u0 a=some r):aD Tryz.prog 63 #[s1,c] ⟨ro,[]⟩ (fun v _=>v= .bool r):=by
 obtain ⟨d3,c4,rfl,f,g,-⟩:=id b;obtain ⟨d10,i,rfl,j,k,-⟩:=id d;unfold mm at h;refine aD.go Tryz.func63 rfl Tryz.ntmps63 Tryz.results63 (by simp) fun main J hJ A l hd hs=>?_;have m:=hs 0;have k1:=hs 1;clear hs;refine ah hJ ?_;simp only[*,go_sem];refine ah hJ ?_;revert h;refine bS fun n e h=>?_;obtain rfl:=sI h;simp only[*,go_sem];refine bn hJ _ (Gi u0 (b.mono aT) a (d.mono aT) e) (aK ?_);try simp only[*,go_sem]
 refine ay ?_;simp only[*,go_sem]
def sr (a:aQ)(i10:Nat)(b:aQ)(st:Int):Option (Fl Int Int):=
 cond (((a.back==b.back)&&(a.high==b.high))) (some (.rt (i10:Int))) (some (.nx st))
def su (u0:(List aQ))(a:aQ):Option Int:=
 ag (bB (sr a) 0 u0 0) fun o=>aB o (fun b=>some (-1)) (fun _ _=>none) (fun r=>some r)
theorem Gj {ro:Addr->Option Value}(u0:(List aQ)){s1:Value}(g:aC iR ro s1 u0)(b:aQ){r:Int}(h:su u0 b=some r):aD Tryz.prog 150 #[s1,.agg #[.int .i64 b.back,.int .i64 b.high]] ⟨ro,[]⟩ (fun v _=>v= .int .i64 r):=by
 obtain ⟨d3,c4,rfl,K,o,-⟩:=id g;unfold su at h;refine aD.go Tryz.func150 rfl Tryz.ntmps150 Tryz.results150 (by simp) fun main J hJ A p hd hs=>?_;have q:=hs 0;have k1:=hs 1;clear hs;refine ah hJ ?_;simp only[*,go_sem];refine aA fun s L t=>?_;try simp only[au] at t
 try simp only[*,go_sem]
 refine af hJ (ah hJ ?_);simp only[*,go_sem];refine aN hJ ?_;revert h;refine bS fun u a i=>?_;refine bQ hJ [4,5,8,9,10,11,12,13,14,15,16,17,18] (fun m j F'=>∃(i10:Nat) (c:Int),m=u0.length - i10/\i10<=u0.length/\bB (sr b) i10 (u0.drop i10) c=some u/\F'=⟨ro,(s,.cells #[.int .i64 b.back,.int .i64 b.high] 134)::[]⟩/\slot j 8= .int .i64 (i10:Int)/\slot j 4= .int .i64 c) u0.length ?_ ?_
 ·refine ⟨0,0,(Nat.sub_zero _).symm,Nat.zero_le _,a,rfl,?_⟩;simp only[*,go_sem]
 rintro M N F' k ⟨i10,c,rfl,O,a,rfl,P,Q⟩;obtain ⟨w,y,z⟩:=k.pick [0,3,7] (by decide);simp only[*,go_sem] at w y z;clear k p hd q k1;refine ah hJ ?_;simp only[*,go_sem];refine af hJ ?_;rcases Nat.lt_or_ge i10 u0.length with B|l
 ·refine bP hJ (by simp only[*,go_sem]) ?_;refine aI hJ ?_;obtain ⟨C,d⟩:∃x,u0[i10]?=some x:=⟨_,List.getElem?_eq_getElem B⟩
  rw[c8 d] at a;revert a;refine bS fun R h e=>?_;unfold sr at h;try dsimp only at h
  obtain ⟨S,D,E,F,f⟩:=g.el _ _ d;obtain rfl:D=C.cells:=F;cases E;have G:=f 0 _ rfl;simp only[go_sem] at G;have H:=f 1 _ rfl;simp only[go_sem] at H;clear f d;refine af hJ (aN hJ (af hJ ?_));refine aj hJ ?_;simp only[*,go_sem];refine af hJ ?_;refine cQ hJ mixed 6 1 (by simp only[*,go_sem]) (by kernel_rfl) ?_;simp only[*,go_sem];revert h;refine jC hJ (by simp only[*,go_sem]) (fun I h=>?_) fun I h=>?_
  ·obtain rfl:=sI h;refine ah hJ ?_;simp only[*,go_sem];obtain rfl:=sI e;clear e;have h:=i;dsimp only[aB] at h;obtain rfl:=sI h;refine ay ?_;simp only[*,go_sem]
  obtain rfl:=sI h;refine aI hJ ?_;have T:=cq (n:=i10) (by have:=o;omega);refine aj hJ ?_;simp only[*,go_sem];refine ⟨u0.length - (i10+1),by omega,_,Le.sub (List.Sublist.refl _),i10+1,c,rfl,by omega,e,rfl,?_⟩;simp only[*,go_sem]
 have U:=Nat.not_lt.2 l;refine bM hJ (by simp only[*,go_sem]) ?_;rw[List.drop_eq_nil_of_le l] at a;obtain rfl:=sI a;clear a;have h:=i;dsimp only[aB] at h;obtain rfl:=sI h;refine bJ ?_;simp only[go_sem];refine ah hJ ?_;simp only[*,go_sem];refine ay ?_;simp only[*,go_sem]
def p8 (u0:(List aQ))(a:aQ):Option Bool:=
 ag (su u0 a) fun b=>some (decide (0<=b))
theorem Gk {ro:Addr->Option Value}(u0:(List aQ)){s1:Value}(b:aC iR ro s1 u0)(a:aQ){r:Bool}(h:p8 u0 a=some r):aD Tryz.prog 125 #[s1,.agg #[.int .i64 a.back,.int .i64 a.high]] ⟨ro,[]⟩ (fun v _=>v= .bool r):=by
 obtain ⟨d3,c4,rfl,e,f,-⟩:=id b;unfold p8 at h;refine aD.go Tryz.func125 rfl Tryz.ntmps125 Tryz.results125 (by simp) fun main J hJ A g hd hs=>?_;have i:=hs 0;have k1:=hs 1;clear hs;refine ah hJ ?_;simp only[*,go_sem];refine aA fun j k c=>?_;try simp only[au] at c
 try simp only[*,go_sem]
 refine ah hJ ?_;revert h;refine bS fun l d h=>?_;obtain rfl:=sI h;simp only[*,go_sem];refine bn hJ _ (Gj u0 (b.mono aT) a d) (aK ?_);try simp only[*,go_sem]
 refine ay ?_;simp only[*,go_sem]
def sw (a:(bU->Option Bool))(i9:Nat)(b:bU)(st:Int):Option (Fl Int Int):=
 ag (a b) fun c=>cond (c) (some (.rt (i9:Int))) (some (.nx st))
def sx (u0:(List bU))(a:(bU->Option Bool)):Option Int:=
 ag (bB (sw a) 0 u0 0) fun o=>aB o (fun b=>some (-1)) (fun _ _=>none) (fun r=>some r)
theorem Gl {ro:Addr->Option Value}(u0:(List bU)){s1:Value}(i:aC c9 ro s1 u0)(d:(bU->Option Bool)){dw:FuncId}{dV dW:Array Value}(s:aJ Tryz.prog dw=true/\∀(aM:Addr->Option Value),Ext ro aM->∀(j:bU) (z:Bool),d j=some z->aD Tryz.prog dw (dV++#[j.v]++dW) ⟨aM,[]⟩ (fun v _=>v= .bool z)){r:Int}(h:sx u0 d=some r):aD Tryz.prog 176 #[s1,.func (.func dw) dV dW] ⟨ro,[]⟩ (fun v _=>v= .int .i64 r):=by
 obtain ⟨d3,c4,rfl,N,t,-⟩:=id i;unfold sx at h;refine aD.go Tryz.func176 rfl Tryz.ntmps176 Tryz.results176 (by simp) fun main J hJ A u hd hs=>?_;have w:=hs 0;have k1:=hs 1;clear hs;refine ah hJ ?_;simp only[*,go_sem];refine af hJ (ah hJ ?_);simp only[*,go_sem];refine aN hJ ?_;revert h;refine bS fun y b k=>?_;refine bQ hJ [4,5,8,9,10,11,12,13,14,15,16,17,18] (fun m l F'=>∃(i9:Nat) (c:Int),m=u0.length - i9/\i9<=u0.length/\bB (sw d) i9 (u0.drop i9) c=some y/\F'=⟨ro,[]⟩/\slot l 8= .int .i64 (i9:Int)/\slot l 4= .int .i64 c) u0.length ?_ ?_
 ·refine ⟨0,0,(Nat.sub_zero _).symm,Nat.zero_le _,b,rfl,?_⟩;simp only[*,go_sem]
 rintro O P F' o ⟨i9,c,rfl,Q,b,rfl,R,S⟩;obtain ⟨B,C,D⟩:=o.pick [0,1,7] (by decide);simp only[*,go_sem] at B C D;clear o u hd w k1;refine ah hJ ?_;simp only[*,go_sem];refine af hJ ?_;rcases Nat.lt_or_ge i9 u0.length with E|p
 ·refine bP hJ (by simp only[*,go_sem]) ?_;refine aI hJ ?_;obtain ⟨q,e⟩:∃x,u0[i9]?=some x:=⟨_,List.getElem?_eq_getElem E⟩
  rw[c8 e] at b;revert b;refine bS fun T h f=>?_;unfold sw at h;try dsimp only at h
  obtain ⟨U,F,G,H,g⟩:=i.el _ _ e;obtain rfl:F=q.cells:=H;cases G;have I:=g 0 _ rfl;simp only[go_sem] at I;have K:=g 1 _ rfl;simp only[go_sem] at K;clear g e;refine af hJ (aN hJ (af hJ ?_));refine aj hJ ?_;simp only[*,go_sem];refine ah hJ ?_;revert h;refine bS fun V L h=>?_;simp only[*,go_sem];refine bn hJ _ (s.2 _ (fun a v h=>aT a v h) q _ L) ?_;try simp only[*,go_sem]
  revert h;refine jC hJ (by simp only[*,go_sem]) (fun M h=>?_) fun M h=>?_
  ·obtain rfl:=sI h;refine ah hJ ?_;simp only[*,go_sem];obtain rfl:=sI f;clear f;have h:=k;dsimp only[aB] at h;obtain rfl:=sI h;refine ay ?_;simp only[*,go_sem]
  obtain rfl:=sI h;refine aI hJ ?_;have W:=cq (n:=i9) (by have:=t;omega);refine aj hJ ?_;simp only[*,go_sem];refine ⟨u0.length - (i9+1),by omega,_,Le.sub (List.Sublist.refl _),i9+1,c,rfl,by omega,f,rfl,?_⟩;simp only[*,go_sem]
 have X:=Nat.not_lt.2 p;refine bM hJ (by simp only[*,go_sem]) ?_;rw[List.drop_eq_nil_of_le p] at b;obtain rfl:=sI b;clear b;have h:=k;dsimp only[aB] at h;obtain rfl:=sI h;refine bJ ?_;simp only[go_sem];refine ah hJ ?_;simp only[*,go_sem];refine ay ?_;simp only[*,go_sem]
def p9 (u0:(List bU))(a:(bU->Option Bool)):Option Bool:=
 ag (sx u0 a) fun b=>some (decide (0<=b))
theorem Gm {ro:Addr->Option Value}(u0:(List bU)){s1:Value}(b:aC c9 ro s1 u0)(a:(bU->Option Bool)){dw:FuncId}{dV dW:Array Value}(c:aJ Tryz.prog dw=true/\∀(aM:Addr->Option Value),Ext ro aM->∀(d:bU) (z:Bool),a d=some z->aD Tryz.prog dw (dV++#[d.v]++dW) ⟨aM,[]⟩ (fun v _=>v= .bool z)){r:Bool}(h:p9 u0 a=some r):aD Tryz.prog 145 #[s1,.func (.func dw) dV dW] ⟨ro,[]⟩ (fun v _=>v= .bool r):=by
 obtain ⟨d3,c4,rfl,g,i,-⟩:=id b;unfold p9 at h;refine aD.go Tryz.func145 rfl Tryz.ntmps145 Tryz.results145 (by simp) fun main J hJ A j hd hs=>?_;have k:=hs 0;have k1:=hs 1;clear hs;refine ah hJ ?_;simp only[*,go_sem];refine ah hJ ?_;revert h;refine bS fun l e h=>?_;obtain rfl:=sI h;simp only[*,go_sem];refine bn hJ _ (Gl (dw:=dw) (dV:=dV) (dW:=dW) u0 (b.mono aT) a ⟨c.1,fun _ f=>c.2 _ (Ext.trans aT f)⟩ e) (aK ?_);try simp only[*,go_sem]
 refine ay ?_;simp only[*,go_sem]
def sA (a:(aQ->Option Bool))(i9:Nat)(b:aQ)(st:Int):Option (Fl Int Int):=
 ag (a b) fun c=>cond (c) (some (.rt (i9:Int))) (some (.nx st))
def sB (u0:(List aQ))(a:(aQ->Option Bool)):Option Int:=
 ag (bB (sA a) 0 u0 0) fun o=>aB o (fun b=>some (-1)) (fun _ _=>none) (fun r=>some r)
theorem Gn {ro:Addr->Option Value}(u0:(List aQ)){s1:Value}(i:aC iR ro s1 u0)(d:(aQ->Option Bool)){dw:FuncId}{dV dW:Array Value}(s:aJ Tryz.prog dw=true/\∀(aM:Addr->Option Value),Ext ro aM->∀(j:aQ) (z:Bool),d j=some z->aD Tryz.prog dw (dV++#[j.v]++dW) ⟨aM,[]⟩ (fun v _=>v= .bool z)){r:Int}(h:sB u0 d=some r):aD Tryz.prog 192 #[s1,.func (.func dw) dV dW] ⟨ro,[]⟩ (fun v _=>v= .int .i64 r):=by
 obtain ⟨d3,c4,rfl,N,t,-⟩:=id i;unfold sB at h;refine aD.go Tryz.func192 rfl Tryz.ntmps192 Tryz.results192 (by simp) fun main J hJ A u hd hs=>?_;have w:=hs 0;have k1:=hs 1;clear hs;refine ah hJ ?_;simp only[*,go_sem];refine af hJ (ah hJ ?_);simp only[*,go_sem];refine aN hJ ?_;revert h;refine bS fun y b k=>?_;refine bQ hJ [4,5,8,9,10,11,12,13,14,15,16,17,18] (fun m l F'=>∃(i9:Nat) (c:Int),m=u0.length - i9/\i9<=u0.length/\bB (sA d) i9 (u0.drop i9) c=some y/\F'=⟨ro,[]⟩/\slot l 8= .int .i64 (i9:Int)/\slot l 4= .int .i64 c) u0.length ?_ ?_
 ·refine ⟨0,0,(Nat.sub_zero _).symm,Nat.zero_le _,b,rfl,?_⟩;simp only[*,go_sem]
 rintro O P F' o ⟨i9,c,rfl,Q,b,rfl,R,S⟩;obtain ⟨B,C,D⟩:=o.pick [0,1,7] (by decide);simp only[*,go_sem] at B C D;clear o u hd w k1;refine ah hJ ?_;simp only[*,go_sem];refine af hJ ?_;rcases Nat.lt_or_ge i9 u0.length with E|p
 ·refine bP hJ (by simp only[*,go_sem]) ?_;refine aI hJ ?_;obtain ⟨q,e⟩:∃x,u0[i9]?=some x:=⟨_,List.getElem?_eq_getElem E⟩
  rw[c8 e] at b;revert b;refine bS fun T h f=>?_;unfold sA at h;try dsimp only at h
  obtain ⟨U,F,G,H,g⟩:=i.el _ _ e;obtain rfl:F=q.cells:=H;cases G;have I:=g 0 _ rfl;simp only[go_sem] at I;have K:=g 1 _ rfl;simp only[go_sem] at K;clear g e;refine af hJ (aN hJ (af hJ ?_));refine aj hJ ?_;simp only[*,go_sem];refine ah hJ ?_;revert h;refine bS fun V L h=>?_;simp only[*,go_sem];refine bn hJ _ (s.2 _ (fun a v h=>aT a v h) q _ L) ?_;try simp only[*,go_sem]
  revert h;refine jC hJ (by simp only[*,go_sem]) (fun M h=>?_) fun M h=>?_
  ·obtain rfl:=sI h;refine ah hJ ?_;simp only[*,go_sem];obtain rfl:=sI f;clear f;have h:=k;dsimp only[aB] at h;obtain rfl:=sI h;refine ay ?_;simp only[*,go_sem]
  obtain rfl:=sI h;refine aI hJ ?_;have W:=cq (n:=i9) (by have:=t;omega);refine aj hJ ?_;simp only[*,go_sem];refine ⟨u0.length - (i9+1),by omega,_,Le.sub (List.Sublist.refl _),i9+1,c,rfl,by omega,f,rfl,?_⟩;simp only[*,go_sem]
 have X:=Nat.not_lt.2 p;refine bM hJ (by simp only[*,go_sem]) ?_;rw[List.drop_eq_nil_of_le p] at b;obtain rfl:=sI b;clear b;have h:=k;dsimp only[aB] at h;obtain rfl:=sI h;refine bJ ?_;simp only[go_sem];refine ah hJ ?_;simp only[*,go_sem];refine ay ?_;simp only[*,go_sem]
def sC (u0:(List aQ))(a:(aQ->Option Bool)):Option Bool:=
 ag (sB u0 a) fun b=>some (decide (0<=b))
theorem Gq {ro:Addr->Option Value}(u0:(List aQ)){s1:Value}(b:aC iR ro s1 u0)(a:(aQ->Option Bool)){dw:FuncId}{dV dW:Array Value}(c:aJ Tryz.prog dw=true/\∀(aM:Addr->Option Value),Ext ro aM->∀(d:aQ) (z:Bool),a d=some z->aD Tryz.prog dw (dV++#[d.v]++dW) ⟨aM,[]⟩ (fun v _=>v= .bool z)){r:Bool}(h:sC u0 a=some r):aD Tryz.prog 164 #[s1,.func (.func dw) dV dW] ⟨ro,[]⟩ (fun v _=>v= .bool r):=by
 obtain ⟨d3,c4,rfl,g,i,-⟩:=id b;unfold sC at h;refine aD.go Tryz.func164 rfl Tryz.ntmps164 Tryz.results164 (by simp) fun main J hJ A j hd hs=>?_;have k:=hs 0;have k1:=hs 1;clear hs;refine ah hJ ?_;simp only[*,go_sem];refine ah hJ ?_;revert h;refine bS fun l e h=>?_;obtain rfl:=sI h;simp only[*,go_sem];refine bn hJ _ (Gn (dw:=dw) (dV:=dV) (dW:=dW) u0 (b.mono aT) a ⟨c.1,fun _ f=>c.2 _ (Ext.trans aT f)⟩ e) (aK ?_);try simp only[*,go_sem]
 refine ay ?_;simp only[*,go_sem]
def vQ (a:(aX->Option Bool))(i38:Nat)(b:aX)(st:Int):Option (Fl Int Int):=
 ag (a b) fun c=>cond (c) (some (.nx (IntKind.i64.wrap (st+1)))) (some (.nx st))
def sD (u0:cR)(b:(aX->Option Bool)):Option Int:=
 ag (bB (vQ b) 0 u0.all 0) fun o=>aB o (fun a=>cond ((a==(u0.all.length:Int))) (some 1) (cond ((a==0)) (some 2) (some 0))) (fun _ _=>none) (fun r=>some r)
theorem AP {ro:Addr->Option Value}(u0:cR){s1 e f g:Value}(Z:bK ro u0.book s1 e f g){k:Value}(l:aC gP ro k u0.all)(i:(aX->Option Bool)){dw:FuncId}{dV dW:Array Value}(y:aJ Tryz.prog dw=true/\∀(aM:Addr->Option Value),Ext ro aM->∀(o:aX) (z:Bool),i o=some z->aD Tryz.prog dw (dV++#[o.v]++dW) ⟨aM,[]⟩ (fun v _=>v= .bool z)){r:Int}(h:sD u0 i=some r):aD Tryz.prog 79 #[.agg #[.int .i64 u0.book.bG,.int .i64 u0.book.bO,.int .i64 u0.book.aY.num,.int .i64 u0.book.aY.den,s1,e,f,g,k],.func (.func dw) dV dW] ⟨ro,[]⟩ (fun v _=>v= .int .i64 r):=by
 obtain ⟨d31,B,rfl,ab,p,-⟩:=id l;unfold sD at h;refine aD.go Tryz.func79 rfl Tryz.ntmps79 Tryz.results79 (by simp) fun main J hJ A C hd hs=>?_;have D:=hs 0;have k1:=hs 1;clear hs;refine ah hJ ?_;simp only[*,go_sem];refine aA fun E ad F=>?_;try simp only[au] at F
 try simp only[*,go_sem]
 refine ah hJ ?_;simp only[*,go_sem];refine af hJ (ah hJ ?_);simp only[*,go_sem];refine aN hJ ?_;revert h;refine bS fun G b H=>?_;refine bQ hJ [5,7,11,12,13,14,15,16,17,18,19,20] (fun m q F'=>∃(i38:Nat) (c:Int),m=u0.all.length - i38/\i38<=u0.all.length/\bB (vQ i) i38 (u0.all.drop i38) c=some G/\F'=⟨ro,(E,kn u0 s1 e f g (sl d31 u0.all B))::[]⟩/\slot q 11= .int .i64 (i38:Int)/\slot q 5= .int .i64 c) u0.all.length ?_ ?_
 ·refine ⟨0,0,(Nat.sub_zero _).symm,Nat.zero_le _,b,rfl,?_⟩;simp only[*,go_sem]
 rintro ae al F' s ⟨i38,c,rfl,ao,b,rfl,ar,a0⟩;obtain ⟨I,K,L⟩:=s.pick [1,2,4,9,10] (by decide);simp only[*,go_sem] at I K L;clear s C hd D k1;refine ah hJ ?_;simp only[*,go_sem];refine af hJ ?_;rcases Nat.lt_or_ge i38 u0.all.length with M|t
 ·refine bP hJ (by simp only[*,go_sem]) ?_;refine aI hJ ?_;obtain ⟨u,j⟩:∃x,u0.all[i38]?=some x:=⟨_,List.getElem?_eq_getElem M⟩
  rw[c8 j] at b;revert b;refine bS fun a2 h w=>?_;unfold vQ at h;try dsimp only at h
  obtain ⟨a3,N,O,P,d⟩:=l.el _ _ j;obtain rfl:N=u.cells:=P;cases O;have Q:=d 0 _ rfl;simp only[go_sem] at Q;have R:=d 1 _ rfl;simp only[go_sem] at R;have S:=d 2 _ rfl;simp only[go_sem] at S;clear d j;refine af hJ (aN hJ (af hJ ?_));refine aj hJ ?_;simp only[*,go_sem];refine aA fun a4 a5 T=>?_;try simp only[au] at T
  try simp only[*,go_sem]
  refine ah hJ ?_;revert h;refine bS fun a6 U h=>?_;simp only[*,go_sem];refine bn hJ _ (y.2 _ (fun a v h=>aT a v h) u _ U) ?_;try simp only[*,go_sem]
  revert h;refine jC hJ (by simp only[*,go_sem]) (fun V h=>?_) fun V h=>?_
  ·obtain rfl:=sI h;refine aj hJ ?_;simp only[*,go_sem];have W:=cq (n:=i38) (by have:=p;omega);refine aj hJ ?_;simp only[*,go_sem];refine ⟨u0.all.length - (i38+1),by omega,_,Le.sub (List.Sublist.cons _ (List.Sublist.refl _)),i38+1,(IntKind.i64.wrap (c+1)),rfl,by omega,w,rfl,?_⟩;simp only[*,go_sem]
  obtain rfl:=sI h;refine aI hJ ?_;have W:=cq (n:=i38) (by have:=p;omega);refine aj hJ ?_;simp only[*,go_sem];refine ⟨u0.all.length - (i38+1),by omega,_,Le.sub (List.Sublist.cons _ (List.Sublist.refl _)),i38+1,c,rfl,by omega,w,rfl,?_⟩;simp only[*,go_sem]
 have a7:=Nat.not_lt.2 t;refine bM hJ (by simp only[*,go_sem]) ?_;rw[List.drop_eq_nil_of_le t] at b;obtain rfl:=sI b;clear b;have h:=H;dsimp only[aB] at h;refine bJ ?_;simp only[go_sem];refine af hJ (ah hJ ?_);simp only[*,go_sem];refine aN hJ (af hJ ?_);refine aj hJ ?_;simp only[*,go_sem];revert h;refine jC hJ (by simp only[*,go_sem]) (fun X h=>?_) fun X h=>?_
 ·obtain rfl:=sI h;refine ah hJ ?_;simp only[*,go_sem];refine ay ?_;simp only[*,go_sem]
 refine ah hJ ?_;simp only[*,go_sem];revert h;refine jC hJ (by simp only[*,go_sem]) (fun Y h=>?_) fun Y h=>?_
 ·obtain rfl:=sI h;refine ah hJ ?_;simp only[*,go_sem];refine ay ?_;simp only[*,go_sem]
 obtain rfl:=sI h;refine aI hJ (af hJ ?_);refine aj hJ ?_;simp only[*,go_sem];refine ay ?_;simp only[*,go_sem]
def qa (u0:bU)(a:ak)(w1:aX):Option Bool:=
 ag (aX.get w1 u0.aW) fun b=>ag (iU a u0.aW b) fun c=>ag (fQ a c) fun d=>some (!(d==u0.bt))
theorem Gs {ro:Addr->Option Value}(u0:bU)(a:ak){b:Nat}(y:ro ⟨b,0,none⟩=some (.int .i64 a.bG))(z:ro ⟨b,1,none⟩=some (.int .i64 a.bO))(B:ro ⟨b,2,none⟩=some (.int .i64 a.aY.num))(C:ro ⟨b,3,none⟩=some (.int .i64 a.aY.den)){s1:Value}(e:aC eZ ro s1 a.av)(D:ro ⟨b,4,none⟩=some (s1)){j:Value}(f:aC ez ro j a.props)(E:ro ⟨b,5,none⟩=some (j)){k:Value}(g:aC eT ro k a.aG)(G:ro ⟨b,6,none⟩=some (k)){l:Value}(i:aC c9 ro l a.told)(H:ro ⟨b,7,none⟩=some (l))(w1:aX){d:Nat}(o:ro ⟨d,0,none⟩=some (.int .i64 w1.e0))(p:ro ⟨d,1,none⟩=some (.int .i64 w1.e1))(q:ro ⟨d,2,none⟩=some (.int .i64 w1.e2)){r:Bool}(h:qa u0 a w1=some r):aD Tryz.prog 146 #[.agg #[.int .i64 u0.aW,.bool u0.bt],.pointer (some ⟨b,0,none⟩),.pointer (some ⟨d,0,none⟩)] ⟨ro,[]⟩ (fun v _=>v= .bool r):=by
 obtain ⟨d3,c4,rfl,I,K,-⟩:=id e;obtain ⟨d10,L,rfl,M,N,-⟩:=id f;obtain ⟨d17,O,rfl,P,Q,-⟩:=id g;obtain ⟨d24,R,rfl,S,T,-⟩:=id i;unfold qa at h;refine aD.go Tryz.func146 rfl Tryz.ntmps146 Tryz.results146 (by simp) fun main J hJ A U hd hs=>?_;have V:=hs 0;have k1:=hs 1;have W:=hs 2;clear hs;refine ah hJ ?_;simp only[*,go_sem];refine aA fun X Y s=>?_;try simp only[au] at s
 try simp only[*,go_sem]
 refine af hJ ?_;refine cQ hJ mixed 14 1 (by simp only[*,go_sem]) (by kernel_rfl) ?_;revert h;refine bS fun t m h=>?_;obtain ⟨Z,ab,n⟩:=aX.get_some m;clear n;have n:=aX.FZ m o p q;revert h;refine bS fun u w h=>?_;try simp only[*,go_sem]
 refine ⟨_,bD hJ fun F c=>l8 a ⟨(e.mono (bZ c)),(f.mono (bZ c)),(g.mono (bZ c)),(i.mono (bZ c))⟩ u0.aW t w,b9 ?_⟩;revert h;refine bS fun ad x h=>?_;obtain rfl:=sI h;try simp only[*,go_sem]
 refine ⟨_,bD hJ fun F c=>mj a ⟨(e.mono (bZ c)),(f.mono (bZ c)),(g.mono (bZ c)),(i.mono (bZ c))⟩ u x,b9 ?_⟩;try simp only[*,go_sem]
 refine ay ?_;simp only[*,go_sem]
def nv (u0:ak)(a:aX):Option Bool:=
 ag (p9 u0.told (fun b=>qa b u0 a)) fun c=>some (!c)
theorem Gt {ro:Addr->Option Value}(u0:ak){s1 f g i:Value}(b:bK ro u0 s1 f g i)(c:aX){r:Bool}(h:nv u0 c=some r):aD Tryz.prog 118 #[bv u0 s1 f g i,.agg #[.int .i64 c.e0,.int .i64 c.e1,.int .i64 c.e2]] ⟨ro,[]⟩ (fun v _=>v= .bool r):=by
 obtain ⟨d3,c4,rfl,q,s,-⟩:=id b.e;obtain ⟨d10,u,rfl,w,x,-⟩:=id b.p;obtain ⟨d17,z,rfl,B,C,-⟩:=id b.y;obtain ⟨d24,D,rfl,E,F,-⟩:=id b.t;unfold nv at h;refine aD.go Tryz.func118 rfl Tryz.ntmps118 Tryz.results118 (by simp) fun main J hJ A G hd hs=>?_;have H:=hs 0;have k1:=hs 1;clear hs;refine ah hJ ?_;simp only[*,go_sem];refine aA fun j I k=>?_;try simp only[au] at k
 refine aA fun l K m=>?_;try simp only[au] at m
 try simp only[*,go_sem]
 refine ah hJ ?_;revert h;refine bS fun L n h=>?_;obtain rfl:=sI h;simp only[*,go_sem];refine bn hJ _ (Gm (dw:=146) (dV:=#[]) (dW:=#[.pointer (some ⟨j,0,none⟩),.pointer (some ⟨l,0,none⟩)]) u0.told (b.t.mono aT) (fun d=>qa d u0 c) ⟨by simp only[go_sem],fun M a d N o=>by simp only[go_sem];exact Gs d u0 (a _ _ (by simp only[aa.cr,go_sem, *])) (a _ _ (by simp only[aa.cr,go_sem, *])) (a _ _ (by simp only[aa.cr,go_sem, *])) (a _ _ (by simp only[aa.cr,go_sem, *])) ((b.e.mono aT).mono a) (a _ _ (by simp only[aa.cr,go_sem, *])) ((b.p.mono aT).mono a) (a _ _ (by simp only[aa.cr,go_sem, *])) ((b.y.mono aT).mono a) (a _ _ (by simp only[aa.cr,go_sem, *])) ((b.t.mono aT).mono a) (a _ _ (by simp only[aa.cr,go_sem, *])) c (a _ _ (by simp only[aa.cr,go_sem, *])) (a _ _ (by simp only[aa.cr,go_sem, *])) (a _ _ (by simp only[aa.cr,go_sem, *])) o⟩ n) (aK ?_);try simp only[*,go_sem]
 refine ay ?_;simp only[*,go_sem]
def ny (u0:ak)(a:(List aQ)):Option Bool:=
 ag (sC a (fQ u0)) fun b=>some (!b)
theorem Gu {ro:Addr->Option Value}(u0:ak){s1 c d f:Value}(a:bK ro u0 s1 c d f)(g:(List aQ)){i:Value}(j:aC iR ro i g){r:Bool}(h:ny u0 g=some r):aD Tryz.prog 136 #[bv u0 s1 c d f,i] ⟨ro,[]⟩ (fun v _=>v= .bool r):=by
 obtain ⟨d31,n,rfl,o,q,-⟩:=id j;unfold ny at h;refine aD.go Tryz.func136 rfl Tryz.ntmps136 Tryz.results136 (by simp) fun main J hJ A s hd hs=>?_;have u:=hs 0;have k1:=hs 1;clear hs;refine ah hJ ?_;simp only[*,go_sem];refine aA fun w x k=>?_;try simp only[au] at k
 try simp only[*,go_sem]
 refine ah hJ ?_;revert h;refine bS fun z l h=>?_;obtain rfl:=sI h;simp only[*,go_sem];refine bn hJ _ (Gq (dw:=81) (dV:=#[bv u0 s1 c d f]) (dW:=#[]) g (j.mono aT) (fQ u0) ⟨by simp only[go_sem],fun B b m _ h=>by simp only[go_sem];exact mj u0 ⟨((a.e.mono aT).mono b),((a.p.mono aT).mono b),((a.y.mono aT).mono b),((a.t.mono aT).mono b)⟩ m h⟩ l) (aK ?_);try simp only[*,go_sem]
 refine ay ?_;simp only[*,go_sem]
def sE (u0:aX)(a:cR)(w1:Int):Option Bool:=
 ag (aX.get u0 w1) fun b=>ag (iU a.book w1 b) fun c=>ag (fQ a.book c) fun d=>some d
theorem Gv {ro:Addr->Option Value}(u0:aX)(a:cR){b:Nat}(x:ro ⟨b,0,none⟩=some (.int .i64 a.book.bG))(y:ro ⟨b,1,none⟩=some (.int .i64 a.book.bO))(z:ro ⟨b,2,none⟩=some (.int .i64 a.book.aY.num))(B:ro ⟨b,3,none⟩=some (.int .i64 a.book.aY.den)){s1:Value}(d:aC eZ ro s1 a.book.av)(C:ro ⟨b,4,none⟩=some (s1)){i:Value}(e:aC ez ro i a.book.props)(D:ro ⟨b,5,none⟩=some (i)){j:Value}(f:aC eT ro j a.book.aG)(E:ro ⟨b,6,none⟩=some (j)){k:Value}(g:aC c9 ro k a.book.told)(G:ro ⟨b,7,none⟩=some (k)){l:Value}(n:aC gP ro l a.all)(H:ro ⟨b,8,none⟩=some (l))(w1:Int){m:Nat}(I:ro ⟨m,0,none⟩=some (.int .i64 w1)){r:Bool}(h:sE u0 a w1=some r):aD Tryz.prog 80 #[.agg #[.int .i64 u0.e0,.int .i64 u0.e1,.int .i64 u0.e2],.pointer (some ⟨b,0,none⟩),.pointer (some ⟨m,0,none⟩)] ⟨ro,[]⟩ (fun v _=>v= .bool r):=by
 obtain ⟨d3,c4,rfl,K,L,-⟩:=id d;obtain ⟨d10,M,rfl,N,O,-⟩:=id e;obtain ⟨d17,P,rfl,Q,R,-⟩:=id f;obtain ⟨d24,S,rfl,T,U,-⟩:=id g;obtain ⟨d31,V,rfl,W,X,-⟩:=id n;unfold sE at h;refine aD.go Tryz.func80 rfl Tryz.ntmps80 Tryz.results80 (by simp) fun main J hJ A Y hd hs=>?_;have Z:=hs 0;have k1:=hs 1;have ab:=hs 2;clear hs;refine ah hJ ?_;simp only[*,go_sem];refine aA fun ad ae o=>?_;try simp only[au] at o
 try simp only[*,go_sem]
 refine af hJ ?_;refine cQ hJ mixed 11 1 (by simp only[*,go_sem]) (by kernel_rfl) ?_;revert h;refine bS fun p q h=>?_;obtain ⟨al,ao,s⟩:=aX.get_some q;try simp only[go_sem] at s
 revert h;refine bS fun t u h=>?_;try simp only[*,go_sem]
 refine ⟨_,bD hJ fun F c=>l8 a.book ⟨(d.mono (bZ c)),(e.mono (bZ c)),(f.mono (bZ c)),(g.mono (bZ c))⟩ w1 p u,b9 ?_⟩;revert h;refine bS fun ar w h=>?_;obtain rfl:=sI h;try simp only[*,go_sem]
 refine ⟨_,bD hJ fun F c=>mj a.book ⟨(d.mono (bZ c)),(e.mono (bZ c)),(f.mono (bZ c)),(g.mono (bZ c))⟩ t w,b9 ?_⟩;try simp only[*,go_sem]
 refine ay ?_;simp only[*,go_sem]
def vR (u0:aX)(a:cR)(i38:Nat)(e:b6)(st:Bool):Option (Fl Bool Bool):=
 ag (aX.get u0 (i38:Int)) fun b=>ag (iU a.book (i38:Int) b) fun c=>ag (fQ a.book c) fun d=>cond (d) (some (.rt false)) (some (.nx st))
def sF (u0:aX)(a:cR):Option Bool:=
 ag (bB (vR u0 a) 0 a.book.aG false) fun o=>aB o (fun b=>some true) (fun _ _=>none) (fun r=>some r)
theorem Gw {ro:Addr->Option Value}(u0:aX)(a:cR){b:Nat}(ae:ro ⟨b,0,none⟩=some (.int .i64 a.book.bG))(al:ro ⟨b,1,none⟩=some (.int .i64 a.book.bO))(ao:ro ⟨b,2,none⟩=some (.int .i64 a.book.aY.num))(ar:ro ⟨b,3,none⟩=some (.int .i64 a.book.aY.den)){s1:Value}(i:aC eZ ro s1 a.book.av)(a0:ro ⟨b,4,none⟩=some (s1)){p:Value}(j:aC ez ro p a.book.props)(a2:ro ⟨b,5,none⟩=some (p)){q:Value}(e:aC eT ro q a.book.aG)(a3:ro ⟨b,6,none⟩=some (q)){s:Value}(k:aC c9 ro s a.book.told)(a4:ro ⟨b,7,none⟩=some (s)){t:Value}(B:aC gP ro t a.all)(a5:ro ⟨b,8,none⟩=some (t)){r:Bool}(h:sF u0 a=some r):aD Tryz.prog 84 #[.agg #[.int .i64 u0.e0,.int .i64 u0.e1,.int .i64 u0.e2],.pointer (some ⟨b,0,none⟩)] ⟨ro,[]⟩ (fun v _=>v= .bool r):=by
 obtain ⟨d3,c4,rfl,a6,a7,-⟩:=id i;obtain ⟨d10,a8,rfl,a9,ba,-⟩:=id j;obtain ⟨d17,bb,rfl,bc,C,-⟩:=id e;obtain ⟨d24,bd,rfl,bj,bk,-⟩:=id k;obtain ⟨d31,bl,rfl,bm,bo,-⟩:=id B;unfold sF at h;refine aD.go Tryz.func84 rfl Tryz.ntmps84 Tryz.results84 (by simp) fun main J hJ A D hd hs=>?_;have E:=hs 0;have k1:=hs 1;clear hs;refine ah hJ ?_;simp only[*,go_sem];refine aA fun G br H=>?_;try simp only[au] at H
 try simp only[*,go_sem]
 refine af hJ (ah hJ ?_);simp only[*,go_sem];refine aN hJ ?_;revert h;refine bS fun I d u=>?_;refine bQ hJ [3,4,10,11,12,13,14,15,16,17,18,19,20,21,22,23] (fun m w F'=>∃(i38:Nat) (f:Bool),m=a.book.aG.length - i38/\i38<=a.book.aG.length/\bB (vR u0 a) i38 (a.book.aG.drop i38) f=some I/\F'=⟨ro,(G,.cells #[.int .i64 u0.e0,.int .i64 u0.e1,.int .i64 u0.e2] 121)::[]⟩/\slot w 10= .int .i64 (i38:Int)/\slot w 3= .bool f) a.book.aG.length ?_ ?_
 ·refine ⟨0,false,(Nat.sub_zero _).symm,Nat.zero_le _,d,rfl,?_⟩;simp only[*,go_sem]
 rintro bs bz F' y ⟨i38,f,rfl,b0,d,rfl,b1,b2⟩;obtain ⟨K,L,M⟩:=y.pick [1,2,9] (by decide);simp only[*,go_sem] at K L M;clear y D hd E k1;refine ah hJ ?_;simp only[*,go_sem];refine af hJ ?_;rcases Nat.lt_or_ge i38 a.book.aG.length with N|z
 ·refine bP hJ (by simp only[*,go_sem]) ?_;refine aI hJ ?_;obtain ⟨O,l⟩:∃x,a.book.aG[i38]?=some x:=⟨_,List.getElem?_eq_getElem N⟩
  rw[c8 l] at d;revert d;refine bS fun b3 h o=>?_;unfold vR at h;try dsimp only at h
  obtain ⟨b4,P,Q,R,g⟩:=e.el _ _ l;obtain rfl:P=O.cells:=R;cases Q;have S:=g 0 _ rfl;simp only[go_sem] at S;have T:=g 1 _ rfl;simp only[go_sem] at T;have U:=g 2 _ rfl;simp only[go_sem] at U;clear g l;refine af hJ (aN hJ (af hJ ?_));refine aj hJ ?_;simp only[*,go_sem];refine af hJ ?_;refine cQ hJ mixed 10 1 (by simp only[*,go_sem]) (by kernel_rfl) ?_;revert h;refine bS fun V W h=>?_;obtain ⟨b5,ca,X⟩:=aX.get_some W;try simp only[go_sem] at X
  revert h;refine bS fun Y Z h=>?_;try simp only[*,go_sem]
  refine ⟨_,bD hJ fun F c=>l8 a.book ⟨(i.mono (bZ c)),(j.mono (bZ c)),(e.mono (bZ c)),(k.mono (bZ c))⟩ (i38:Int) V Z,b9 ?_⟩;revert h;refine bS fun cb ab h=>?_;try simp only[*,go_sem]
  refine ⟨_,bD hJ fun F c=>mj a.book ⟨(i.mono (bZ c)),(j.mono (bZ c)),(e.mono (bZ c)),(k.mono (bZ c))⟩ Y ab,?_⟩;try simp only[*,go_sem]
  revert h;refine jC hJ (by simp only[*,go_sem]) (fun ad h=>?_) fun ad h=>?_
  ·obtain rfl:=sI h;refine ah hJ ?_;simp only[*,go_sem];obtain rfl:=sI o;clear o;have h:=u;dsimp only[aB] at h;obtain rfl:=sI h;refine ay ?_;simp only[*,go_sem]
  obtain rfl:=sI h;refine aI hJ ?_;have cd:=cq (n:=i38) (by have:=C;omega);refine aj hJ ?_;simp only[*,go_sem];refine ⟨a.book.aG.length - (i38+1),by omega,_,Le.sub (List.Sublist.refl _),i38+1,f,rfl,by omega,o,rfl,?_⟩;simp only[*,go_sem]
 have cf:=Nat.not_lt.2 z;refine bM hJ (by simp only[*,go_sem]) ?_;rw[List.drop_eq_nil_of_le z] at d;obtain rfl:=sI d;clear d;have h:=u;dsimp only[aB] at h;obtain rfl:=sI h;refine bJ ?_;simp only[go_sem];refine ah hJ ?_;simp only[*,go_sem];refine ay ?_;simp only[*,go_sem]
def aX.setAt (h:aX)(i n:Int):Option aX:=if i=0 then some {h with e0:=n} else if i=1 then some {h with e1:=n} else if i=2 then some {h with e2:=n} else none
theorem aX.Gx {h a:aX}{i n:Int}(e:h.setAt i n=some a):(i=0/\a={h with e0:=n})\/(i=1/\a={h with e1:=n})\/(i=2/\a={h with e2:=n}):=by
 unfold aX.setAt at e;split at e
 ·exact .inl ⟨‹_›,(Option.some.inj e).symm⟩
 ·split at e
  ·exact .inr (.inl ⟨‹_›,(Option.some.inj e).symm⟩)
  ·split at e
   ·exact .inr (.inr ⟨‹_›,(Option.some.inj e).symm⟩)
   ·cases e
def iX (f:aX->List (Option aX)×aX)(i hi:Int):Nat->Int->aX->List (Option aX)×aX
 |0,_,h=>([none],h)
 |k+1,n,h=>if n<=hi then match h.setAt i n with
   |none=>([none],h)
   |some a=>((f a).1++(iX f i hi k (IntKind.i64.wrap (n+1)) (f a).2).1,(iX f i hi k (IntKind.i64.wrap (n+1)) (f a).2).2)
  else ([],h)
def eL (b:ak):Nat->Int->aX->List (Option aX)×aX
 |0,_,h=>([none],h)
 |fuel+1,i,h=>if i=b.aG.length then ((match nv b h with
   |some true=>[some h]
   |some false=>[]
   |none=>[none]),h)
  else match bf b.aG i with
   |none=>([none],h)
   |some e=>iX (eL b fuel (IntKind.i64.wrap (i+1))) i e.high.high 100 e.high.low h
def mo (b:ak):List (Option aX):=(eL b 5 0 ⟨0,0,0⟩).1
theorem Gy {H σ:Type}{step:σ->H->Option (Bool×σ)}{l l':List (Option H)}{s s':σ}{c:Bool}(h:eX step (l++l') s=some (c,s')):
  (∃s1,eX step l s=some (true,s1)/\eX step l' s1=some (c,s'))\/(eX step l s=some (false,s')/\c=false):=by
 rw[Az] at h
 split at h
 ·rename_i s1 a;exact .inl ⟨s1,a,h⟩
 ·rename_i s1 a;simp only[Option.some.injEq,Prod.mk.injEq] at h;obtain ⟨rfl,rfl⟩:=h;exact .inr ⟨a,rfl⟩
 ·cases h
theorem qb {H σ:Type}{step:σ->H->Option (Bool×σ)}{s:σ}{r:Bool×σ}(h:eX step [none] s=some r):False:=by cases h
section
variable {ro : Addr → Option Value} {σ : Type} {step : σ → aX → Option (Bool × σ)} {I : σ → List (Nat × Obj) → Prop} {y : Value}
def nB (b:ak)(s1 s2 a c y:Value)(b2 b3 b4 b5:Nat)(h:aX):List (Nat×Obj):=
 [(b5,.cells #[.func (.func 117) #[] #[.pointer (some ⟨b2,0,none⟩),.pointer (some ⟨b4,0,none⟩),.pointer (some ⟨b3,0,none⟩),.pointer (some ⟨b5,0,none⟩)]] 165),
  (b4,.cells #[.int .i64 h.e0,.int .i64 h.e1,.int .i64 h.e2] 121),(b3,.cells #[y] 139),
  (b2,.cells #[.int .i64 b.bG,.int .i64 b.bO,.int .i64 b.aY.num,.int .i64 b.aY.den,s1,s2,a,c] 115)]
theorem Gz (u0:ak){s1 s2 w x:Value}(E:aC eZ ro s1 u0.av)(F:aC ez ro s2 u0.props)(G:aC eT ro w u0.aG)(H:aC c9 ro x u0.told)(V:vD Tryz.prog y aX.v step ro I)
  {b2 b3 b4 b5:Nat} (n1:¬b5=b4) (n2:¬b5=b3) (n3:¬b5=b2) (bb:¬b4=b3) (bc:¬b4=b2) (bd:¬b3=b2) (bj:∀off sp,ro ⟨b5,off,sp⟩=none) (bk:∀off sp,ro ⟨b4,off,sp⟩=none) (bl:∀off sp,ro ⟨b3,off,sp⟩=none) (bm:∀off sp,ro ⟨b2,off,sp⟩=none):
  ∀(fuel:Nat) (i:Int) (b:aX) (s:σ) (c:Bool) (s':σ),eX step (eL u0 fuel i b).1 s=some (c,s')->∀(main:Bool) (J:Goroutine->aa->Prop),Closed Tryz.prog main J->∀own,I s own->
   cO Tryz.prog J 117 #[.int .i64 i,.pointer (some ⟨b2,0,none⟩),.pointer (some ⟨b4,0,none⟩),.pointer (some ⟨b3,0,none⟩),.pointer (some ⟨b5,0,none⟩)] ⟨ro,nB u0 s1 s2 w x y b2 b3 b4 b5 b++own⟩
    (fun v F'=>∃o q,Le ⟨ro,nB u0 s1 s2 w x y b2 b3 b4 b5 o++q⟩ F'/\v= .bool c/\I s' q/\(c=true->o=(eL u0 fuel i b).2)):=by
 intro fuel
 induction fuel with
 |zero=>intro i b s c s' h;exact (qb h).elim
 |succ fuel ih=>
  intro i b s c s' h main J hJ own j
  obtain ⟨K,L,rfl,bo,br,e1⟩:=id E
  obtain ⟨M,N,rfl,bs,bz,e2⟩:=id F
  obtain ⟨W,O,rfl,bS,b0,X⟩:=id G
  obtain ⟨P,Q,rfl,b1,ca,cb⟩:=id H
  refine cO.go hJ Tryz.func117 rfl Tryz.ntmps117 Tryz.results117 (by simp) fun A Y hd hs=>?_
  have Z:=hs 0
  have k1:=hs 1
  have ab:=hs 2
  have ad:=hs 3
  have ae:=hs 4
  clear hs
  unfold eL at h
  have cd:(0:Int)<((3:Nat):Int):=by decide
  have cf:(1:Int)<((3:Nat):Int):=by decide
  have cl:(2:Int)<((3:Nat):Int):=by decide
  repeat refine af hJ ?_
  refine aj hJ ?_
  simp only[*,go_sem,-h]
  repeat refine af hJ ?_
  refine aj hJ ?_
  simp only[nB,go_sem, *,-h]
  repeat refine af hJ ?_
  by_cases hi:i=(u0.aG.length:Int)
  ·rw[if_pos hi] at h
   repeat refine af hJ ?_
   refine bP hJ (by simp only[*,go_sem,-h]) ?_
   repeat refine af hJ ?_
   refine az hJ fun nd=>?_
   repeat refine af hJ ?_
   refine aj hJ ?_
   simp only[*,go_sem,-h]
   cases f:nv u0 b with
   |none=>rw[f] at h;exact (qb h).elim
   |some r=>
    rw[f] at h
    refine bn hJ _ (Gt u0 ⟨(E.mono aT),(F.mono aT),(G.mono aT),(H.mono aT)⟩ b f) (aK ?_)
    cases r with
    |false=>
     cases h
     simp only[*,go_sem]
     repeat refine af hJ ?_
     refine ay ?_
     simp only[*,go_sem]
     refine ⟨b,own,Le.refl _,?_⟩
     first|exact ⟨rfl,j,fun _=>by unfold eL;rw[if_pos rfl]⟩|exact ⟨j,fun _=>by unfold eL;rw[if_pos rfl]⟩|exact ⟨j,by unfold eL;rw[if_pos rfl]⟩|exact j
    |true=>
     have al:step s b=some (c,s'):=by
      simp only[eX] at h
      split at h<;>first|(cases h;assumption)|cases h
     simp only[*,go_sem,-h]
     refine FD hJ (nB u0 (.slice K u0.av.length L) (.slice M u0.props.length N) (.slice W u0.aG.length O) (.slice P u0.told.length Q) y b2 b3 b4 b5 b) (fun m ao ar=>V s b c s' al m ao ar own j) nd ?_
     rintro v q ⟨rfl,R⟩ cy
     refine aK ?_
     simp only[*,go_sem,-h]
     repeat refine af hJ ?_
     refine ay ?_
     simp only[*,go_sem,-h]
     refine ⟨b,q,Le.refl _,?_⟩
     first|exact ⟨rfl,R,fun _=>by unfold eL;rw[if_pos rfl]⟩|exact ⟨R,fun _=>by unfold eL;rw[if_pos rfl]⟩
  ·rw[if_neg hi] at h
   have cS:(i==(u0.aG.length:Int))=false:=by simpa using hi
   repeat refine af hJ ?_
   refine bM hJ (by simp only[*,go_sem,-h]) ?_
   refine aI hJ ?_
   cases f:bf u0.aG i with
   |none=>rw[f] at h;exact (qb h).elim
   |some e=>
    rw[f] at h
    simp only at h
    have a0:=f
    obtain ⟨c0,da,S⟩:=cH f
    obtain ⟨a2,cse,a3,a4,t⟩:=X _ _ S
    obtain rfl:cse=e.cells:=a4
    cases a3
    have a5:=t 0 _ rfl;simp only[go_sem] at a5
    have a6:=t 1 _ rfl;simp only[go_sem] at a6
    have a7:=t 2 _ rfl;simp only[go_sem] at a7
    clear t S
    repeat refine af hJ ?_
    refine aj hJ ?_
    simp only[*,go_sem,-h]
    repeat refine af hJ ?_
    refine aN hJ ?_
    refine bQ hJ [6,7,31,32,33,34,35,36,37,38,39,40,41,42,43,44,45,46,47,48,49,50] (fun m a8 F'=>∃(n:Int) (h:aX) (s:σ) (own:List (Nat×Obj)),eX step (iX (eL u0 fuel (IntKind.i64.wrap (i+1))) i e.high.high m n h).1 s=some (c,s')/\
     (c=true->(iX (eL u0 fuel (IntKind.i64.wrap (i+1))) i e.high.high m n h).2=(eL u0 (fuel+1) i b).2)/\F'=⟨ro,nB u0 (.slice K u0.av.length L) (.slice M u0.props.length N) (.slice (some a2) u0.aG.length O) (.slice P u0.told.length Q) y b2 b3 b4 b5 h++own⟩/\I s own/\slot a8 7= .int .i64 n) 100 ?_ ?_
    ·have a9:(eL u0 (fuel+1) i b).2=(iX (eL u0 fuel (IntKind.i64.wrap (i+1))) i e.high.high 100 e.high.low b).2:=by
      rw[eL,if_neg hi,a0]
     exact ⟨e.high.low,b,s,own,h,fun _=>a9.symm,rfl,j,by simp only[*,go_sem,-h]⟩
    ·rintro m k F' g ⟨n,o,s1,z,a,d,rfl,p,db⟩
     clear h j
     have dd:sz k=51:=by rw[g.size];simp only[*,go_sem]
     have kd:k.defers=[]:=by rw[g.defers];simp only[*,go_sem]
     have df:slot k 0= .int .i64 i:=by rw[g.fe 0 (by decide)];simp only[*,go_sem]
     have dk:slot k 1= .pointer (some ⟨b2,0,none⟩):=by rw[g.fe 1 (by decide)];simp only[*,go_sem]
     have dp:slot k 2= .pointer (some ⟨b4,0,none⟩):=by rw[g.fe 2 (by decide)];simp only[*,go_sem]
     have dq:slot k 3= .pointer (some ⟨b3,0,none⟩):=by rw[g.fe 3 (by decide)];simp only[*,go_sem]
     have ds:slot k 4= .pointer (some ⟨b5,0,none⟩):=by rw[g.fe 4 (by decide)];simp only[*,go_sem]
     clear g Z k1 ab ad ae Y hd
     obtain _|m:=m
     ·exact (qb a).elim
     unfold iX at a d
     repeat refine af hJ ?_
     refine aj hJ ?_
     simp only[nB,go_sem, *,-a]
     repeat refine af hJ ?_
     by_cases u:n<=e.high.high
     ·rw[if_pos u] at a
      rw[if_pos u] at d
      repeat refine af hJ ?_
      refine bP hJ (by simp only[*,go_sem,-a]) ?_
      refine aI hJ ?_
      cases B:o.setAt i n with
      |none=>rw[B] at a;exact (qb a).elim
      |some dt=>
       rw[B] at a d
       simp only at a d
       repeat refine af hJ ?_
       refine aN hJ ?_
       repeat refine af hJ ?_
       refine az hJ fun nd=>?_
       repeat refine af hJ ?_
       refine aj hJ ?_
       rcases aX.Gx B with ⟨C,rfl⟩|⟨C,rfl⟩|⟨C,rfl⟩<;>subst C<;>
       (simp only[*,go_sem,-a]
        repeat refine af hJ ?_
        refine aj hJ ?_
        simp only[*,go_sem,-a]
        have ba:=Gy a
        clear a
        rcases ba with ⟨s2,D,a⟩|⟨D,rfl⟩
        ·refine cO.less hJ ((ih _ _ _ _ _ D _ J hJ z p).mono ?_)
         rintro v F' ⟨T,U,hle,rfl,l,hh⟩
         have hh:=hh rfl
         subst hh
         refine ⟨_,hle,aK ?_⟩
         simp only[*,go_sem,-a]
         repeat refine af hJ ?_
         refine bM hJ (by simp only[*,go_sem,-a]) ?_
         refine aI hJ ?_
         repeat refine af hJ ?_
         refine aj hJ ?_
         simp only[*,go_sem,-a]
         exact ⟨m,Nat.lt_succ_self m,_,Le.refl _,_,_,_,_,a,d,rfl,l,by simp only[*,go_sem,-a]⟩
        ·refine cO.less hJ ((ih _ _ _ _ _ D _ J hJ z p).mono ?_)
         rintro v F' ⟨T,U,hle,rfl,l,hh⟩
         refine ⟨_,hle,aK ?_⟩
         simp only[*,go_sem]
         repeat refine af hJ ?_
         refine bP hJ (by simp only[*,go_sem]) ?_
         repeat refine af hJ ?_
         refine aj hJ ?_
         simp only[*,go_sem]
         repeat refine af hJ ?_
         refine ay ?_
         simp only[*,go_sem]
         refine ⟨T,U,Le.refl _,?_⟩
         first|exact ⟨rfl,l,fun h=>by cases h⟩|exact ⟨l,fun h=>by cases h⟩|exact l|exact ⟨l,trivial⟩)
     ·rw[if_neg u] at a
      rw[if_neg u] at d
      simp only[eX,Option.some.injEq,Prod.mk.injEq] at a
      obtain ⟨rfl,rfl⟩:=a
      repeat refine af hJ ?_
      refine bM hJ (by simp only[*,go_sem]) ?_
      refine bJ ?_
      simp only[go_sem]
      repeat refine af hJ ?_
      refine aj hJ ?_
      simp only[*,go_sem]
      repeat refine af hJ ?_
      refine ay ?_
      simp only[*,go_sem]
      refine ⟨o,z,Le.refl _,?_⟩
      first|exact ⟨rfl,p,fun h=>d h⟩|exact ⟨p,fun h=>d h⟩|exact ⟨p,d rfl⟩
theorem sG (u0:ak){s1 s2 j k:Value}(e:aC eZ ro s1 u0.av)(f:aC ez ro s2 u0.props)(g:aC eT ro j u0.aG)(h:aC c9 ro k u0.told):
  l5 Tryz.prog 66 #[.agg #[.int .i64 u0.bG,.int .i64 u0.bO,.int .i64 u0.aY.num,.int .i64 u0.aY.den,s1,s2,j,k]] #[] aX.v (mo u0) ro:=by
 refine ⟨by simp only[go_sem],fun aM b σ step I r t u l s c s' a main J hJ own m=>?_⟩
 replace e:=e.mono b
 replace f:=f.mono b
 replace g:=g.mono b
 replace h:=h.mono b
 refine cO.go hJ Tryz.func66 rfl Tryz.ntmps66 Tryz.results66 (by simp) fun A w hd hs=>?_
 have x:=hs 0
 have k1:=hs 1
 clear hs
 repeat refine af hJ ?_
 refine aj hJ ?_
 try simp only[*,go_sem,-a]
 intro b2 f2;have r2:=eC f2;have n2:=fC f2
 intro b3 f3;have r3:=eC f3;have n3:=fC f3
 simp only[au] at n3
 try simp only[*,go_sem,-a]
 repeat refine af hJ ?_
 refine aj hJ ?_
 try simp only[*,go_sem,-a]
 intro b4 f4;have n:=eC f4;have i:=fC f4
 simp only[au] at i
 try simp only[*,go_sem,-a]
 repeat refine af hJ ?_
 refine aj hJ ?_
 try simp only[*,go_sem,-a]
 intro b5 f5;have o:=eC f5;have d:=fC f5
 simp only[au] at d
 try simp only[*,go_sem,-a]
 repeat refine af hJ ?_
 refine aj hJ ?_
 try simp only[*,go_sem,-a]
 repeat refine af hJ ?_
 refine aj hJ ?_
 try simp only[*,go_sem,-a]
 refine cO.less hJ ((Gz u0 e f g h l (b2:=b2) (b3:=b3) (b4:=b4) (b5:=b5) d.1 d.2.1 d.2.2.1 i.1 i.2.1 n3.1 o n r3 r2 5 0 ⟨0,0,0⟩ s c s' a main J hJ own m).mono ?_)
 rintro v F' ⟨y,p,hle,rfl,q,_⟩
 exact ⟨_,hle,p,Le.sub (List.sublist_append_right _ _),q⟩
end
def sH (u0:List bU):Option (List bU):=if u0.length<=1000000 then some u0 else none
theorem vS {ro:Addr->Option Value}(u0:List bU){s1:Value}(b:aC c9 ro s1 u0){x:List bU}(h:sH u0=some x):aD Tryz.prog 93 #[s1] ⟨ro,[]⟩ (fun v G=>∃a,aO c9 ro 76 v x a/\Le ⟨ro,a⟩ G):=by
 obtain ⟨ad,cap,rfl,le,d,e⟩:=id b;unfold sH at h;split at h
 case isFalse=>cases h
 rename_i hlen;obtain rfl:=Option.some.inj h;clear h;refine aD.go Tryz.func93 rfl Tryz.ntmps93 Tryz.results93 (by simp) fun main J hJ A f hd hs=>?_;have g:=hs 0;clear hs;refine ah hJ ?_;simp only[*,go_sem];cases ad with
 |none=>
  have hu:u0=[]:=by
   cases u0 with
   |nil=>rfl
   |cons x l=>obtain ⟨p,cs,c,_⟩:=e 0 x rfl;cases c
  subst hu;first|refine ah hJ ?_|refine af hJ (ah hJ ?_)
  simp only[*,go_sem];refine bP hJ (by simp only[*,go_sem]) ?_;refine ah hJ ?_;simp only[*,go_sem];refine ay ?_;simp only[*,go_sem];exact ⟨[],aO.nil _ _ _,Le.refl _⟩
 |some p=>
  first|refine ah hJ ?_|refine af hJ (ah hJ ?_)
  simp only[*,go_sem];refine bM hJ (by simp only[*,go_sem]) ?_;refine aI hJ ?_;refine ah hJ ?_;simp only[*,go_sem];intro i f1;have r1:=eC f1;try simp only[*,go_sem]
  refine pK r1 trivial rfl hlen b rfl rfl er er hU ie rfl ia (by decide) (by decide) (fun v a hg j=>aK ?_);simp only[*,go_sem];refine ay ?_;simp only[*,go_sem];exact ⟨a,hg,Le.refl _⟩
def sJ (u0:List b6):Option (List b6):=if u0.length<=1000000 then some u0 else none
theorem AQ {ro:Addr->Option Value}(u0:List b6){s1:Value}(b:aC eT ro s1 u0){x:List b6}(h:sJ u0=some x):aD Tryz.prog 71 #[s1] ⟨ro,[]⟩ (fun v G=>∃a,aO eT ro 41 v x a/\Le ⟨ro,a⟩ G):=by
 obtain ⟨ad,cap,rfl,le,d,e⟩:=id b;unfold sJ at h;split at h
 case isFalse=>cases h
 rename_i hlen;obtain rfl:=Option.some.inj h;clear h;refine aD.go Tryz.func71 rfl Tryz.ntmps71 Tryz.results71 (by simp) fun main J hJ A f hd hs=>?_;have g:=hs 0;clear hs;refine ah hJ ?_;simp only[*,go_sem];cases ad with
 |none=>
  have hu:u0=[]:=by
   cases u0 with
   |nil=>rfl
   |cons x l=>obtain ⟨p,cs,c,_⟩:=e 0 x rfl;cases c
  subst hu;first|refine ah hJ ?_|refine af hJ (ah hJ ?_)
  simp only[*,go_sem];refine bP hJ (by simp only[*,go_sem]) ?_;refine ah hJ ?_;simp only[*,go_sem];refine ay ?_;simp only[*,go_sem];exact ⟨[],aO.nil _ _ _,Le.refl _⟩
 |some p=>
  first|refine ah hJ ?_|refine af hJ (ah hJ ?_)
  simp only[*,go_sem];refine bM hJ (by simp only[*,go_sem]) ?_;refine aI hJ ?_;refine ah hJ ?_;simp only[*,go_sem];intro i f1;have r1:=eC f1;try simp only[*,go_sem]
  refine pK r1 trivial rfl hlen b rfl rfl z2 z2 ES EU rfl ET (by decide) (by decide) (fun v a hg j=>aK ?_);simp only[*,go_sem];refine ay ?_;simp only[*,go_sem];exact ⟨a,hg,Le.refl _⟩
def vT (u0:List bY):Option (List bY):=if u0.length<=1000000 then some u0 else none
theorem GA {ro:Addr->Option Value}(u0:List bY){s1:Value}(b:aC eZ ro s1 u0){x:List bY}(h:vT u0=some x):aD Tryz.prog 123 #[s1] ⟨ro,[]⟩ (fun v G=>∃a,aO eZ ro 85 v x a/\Le ⟨ro,a⟩ G):=by
 obtain ⟨ad,cap,rfl,le,d,e⟩:=id b;unfold vT at h;split at h
 case isFalse=>cases h
 rename_i hlen;obtain rfl:=Option.some.inj h;clear h;refine aD.go Tryz.func123 rfl Tryz.ntmps123 Tryz.results123 (by simp) fun main J hJ A f hd hs=>?_;have g:=hs 0;clear hs;refine ah hJ ?_;simp only[*,go_sem];cases ad with
 |none=>
  have hu:u0=[]:=by
   cases u0 with
   |nil=>rfl
   |cons x l=>obtain ⟨p,cs,c,_⟩:=e 0 x rfl;cases c
  subst hu;first|refine ah hJ ?_|refine af hJ (ah hJ ?_)
  simp only[*,go_sem];refine bP hJ (by simp only[*,go_sem]) ?_;refine ah hJ ?_;simp only[*,go_sem];refine ay ?_;simp only[*,go_sem];exact ⟨[],aO.nil _ _ _,Le.refl _⟩
 |some p=>
  first|refine ah hJ ?_|refine af hJ (ah hJ ?_)
  simp only[*,go_sem];refine bM hJ (by simp only[*,go_sem]) ?_;refine aI hJ ?_;refine ah hJ ?_;simp only[*,go_sem];intro i f1;have r1:=eC f1;try simp only[*,go_sem]
  refine pK r1 trivial rfl hlen b rfl rfl z1 z1 EV z4 rfl EW (by decide) (by decide) (fun v a hg j=>aK ?_);simp only[*,go_sem];refine ay ?_;simp only[*,go_sem];exact ⟨a,hg,Le.refl _⟩
def qc (u0:List bN):Option (List bN):=if u0.length<=1000000 then some u0 else none
theorem AR {ro:Addr->Option Value}(u0:List bN){s1:Value}(b:aC ez ro s1 u0){x:List bN}(h:qc u0=some x):aD Tryz.prog 124 #[s1] ⟨ro,[]⟩ (fun v G=>∃a,aO ez ro 96 v x a/\Le ⟨ro,a⟩ G):=by
 obtain ⟨ad,cap,rfl,le,d,e⟩:=id b;unfold qc at h;split at h
 case isFalse=>cases h
 rename_i hlen;obtain rfl:=Option.some.inj h;clear h;refine aD.go Tryz.func124 rfl Tryz.ntmps124 Tryz.results124 (by simp) fun main J hJ A f hd hs=>?_;have g:=hs 0;clear hs;refine ah hJ ?_;simp only[*,go_sem];cases ad with
 |none=>
  have hu:u0=[]:=by
   cases u0 with
   |nil=>rfl
   |cons x l=>obtain ⟨p,cs,c,_⟩:=e 0 x rfl;cases c
  subst hu;first|refine ah hJ ?_|refine af hJ (ah hJ ?_)
  simp only[*,go_sem];refine bP hJ (by simp only[*,go_sem]) ?_;refine ah hJ ?_;simp only[*,go_sem];refine ay ?_;simp only[*,go_sem];exact ⟨[],aO.nil _ _ _,Le.refl _⟩
 |some p=>
  first|refine ah hJ ?_|refine af hJ (ah hJ ?_)
  simp only[*,go_sem];refine bM hJ (by simp only[*,go_sem]) ?_;refine aI hJ ?_;refine ah hJ ?_;simp only[*,go_sem];intro i f1;have r1:=eC f1;try simp only[*,go_sem]
  refine pK r1 trivial rfl hlen b rfl rfl kO kO rN rP rfl rO (by decide) (by decide) (fun v a hg j=>aK ?_);simp only[*,go_sem];refine ay ?_;simp only[*,go_sem];exact ⟨a,hg,Le.refl _⟩
def nC (u0:List Int):Option (List Int):=if u0.length<=1000000 then some u0 else none
theorem AS {ro:Addr->Option Value}(u0:List Int){s1:Value}(b:aC rI ro s1 u0){x:List Int}(h:nC u0=some x):aD Tryz.prog 141 #[s1] ⟨ro,[]⟩ (fun v G=>∃a,aO rI ro 3 v x a/\Le ⟨ro,a⟩ G):=by
 obtain ⟨ad,cap,rfl,le,d,e⟩:=id b;unfold nC at h;split at h
 case isFalse=>cases h
 rename_i hlen;obtain rfl:=Option.some.inj h;clear h;refine aD.go Tryz.func141 rfl Tryz.ntmps141 Tryz.results141 (by simp) fun main J hJ A f hd hs=>?_;have g:=hs 0;clear hs;refine ah hJ ?_;simp only[*,go_sem];cases ad with
 |none=>
  have hu:u0=[]:=by
   cases u0 with
   |nil=>rfl
   |cons x l=>obtain ⟨p,cs,c,_⟩:=e 0 x rfl;cases c
  subst hu;first|refine ah hJ ?_|refine af hJ (ah hJ ?_)
  simp only[*,go_sem];refine bP hJ (by simp only[*,go_sem]) ?_;refine ah hJ ?_;simp only[*,go_sem];refine ay ?_;simp only[*,go_sem];exact ⟨[],aO.nil _ _ _,Le.refl _⟩
 |some p=>
  first|refine ah hJ ?_|refine af hJ (ah hJ ?_)
  simp only[*,go_sem];refine bM hJ (by simp only[*,go_sem]) ?_;refine aI hJ ?_;refine ah hJ ?_;simp only[*,go_sem];intro i f1;have r1:=eC f1;try simp only[*,go_sem]
  refine pK r1 trivial rfl hlen b rfl rfl fM fM kL kN rfl kM (by decide) (by decide) (fun v a hg j=>aK ?_);simp only[*,go_sem];refine ay ?_;simp only[*,go_sem];exact ⟨a,hg,Le.refl _⟩
def qd (u0:ak)(i43:Nat)(b:(ak->Option Int))(st:Int):Option (Fl Int (ak×Int)):=
 ag (b u0) fun a=>cond ((a != 0)) (some (.rt ((⟨0,0,(⟨0,0⟩:an),([]:(List bY)),([]:(List bN)),([]:(List b6)),([]:(List bU))⟩:ak),a))) (some (.nx st))
def eU (u0:ak)(b:(List (ak->Option Int))):Option (ak×Int):=
 ag (e4 u0) fun a=>cond ((a != 0)) (some ((⟨0,0,(⟨0,0⟩:an),([]:(List bY)),([]:(List bN)),([]:(List b6)),([]:(List bU))⟩:ak),a)) (ag (bB (qd u0) 0 b 0) fun o=>aB o (fun c=>some (u0,0)) (fun _ _=>none) (fun r=>some r))
theorem j6 {ro:Addr->Option Value}(D:c7 ro)(u0:ak){s1 f g i:Value}(b:bK ro u0 s1 f g i)(c:(List (ak->Option Int))){o:Value}(q:aC (cZ) ro o c){r:(ak×Int)}(h:eU u0 c=some r):eI Tryz.prog 65 #[bv u0 s1 f g i,o] ro (fun v aM=>∃s w1 w2 w3,v= .tuple #[bv r.1 s w1 w2 w3,.int .i64 r.2]/\bK aM r.1 s w1 w2 w3):=by
 obtain ⟨d31,ae,rfl,al,E,-⟩:=id q;unfold eU at h;have F:=b.oc;simp only[bE] at F;refine aD.go Tryz.func65 rfl Tryz.ntmps65 Tryz.results65 (by simp) fun main J hJ A G hd hs=>?_;have H:=hs 0;have k1:=hs 1;clear hs;refine ah hJ ?_;simp only[*,go_sem];refine aA fun I ao K=>?_;try simp only[au] at K
 refine aA fun L ar M=>?_;try simp only[au] at M
 try simp only[*,go_sem]
 refine af hJ (ah hJ ?_);revert h;refine bS fun a0 N h=>?_;simp only[*,go_sem];refine bn hJ _ (AM (D.mono aT) u0 (b.e.mono aT) (b.p.mono aT) (b.y.mono aT) (b.t.mono aT) N) (aK ?_);try simp only[*,go_sem]
 refine ah hJ ?_;simp only[*,go_sem];revert h;refine jC hJ (by simp only[*,go_sem]) (fun O h=>?_) fun O h=>?_
 ·obtain rfl:=sI h;refine ah hJ ?_;simp only[*,go_sem];refine ay ?_;simp only[*,go_sem];exact ⟨_,Ext.refl _,Le.sub (List.nil_sublist _),_,_,_,_,rfl,⟨aC.nil _ _,aC.nil _ _,aC.nil _ _,aC.nil _ _⟩⟩
 refine aI hJ (af hJ ?_);refine aj hJ ?_;simp only[*,go_sem];refine aA fun P a2 Q=>?_;try simp only[au] at Q
 try simp only[*,go_sem]
 refine af hJ (ah hJ ?_);simp only[*,go_sem];refine aN hJ ?_;revert h;refine bS fun R d u=>?_;refine bQ hJ [5,9,10,21,22,23,24,25,26,27,28,29,30,31,32] (fun m w F'=>∃(i43:Nat) (j:Int),m=c.length - i43/\i43<=c.length/\bB (qd u0) i43 (c.drop i43) j=some R/\F'=⟨ro,(P,bl u0 s1 f g i)::(L,bz 115)::(I,bk u0 s1 f g i)::[]⟩/\slot w 21= .int .i64 (i43:Int)/\slot w 5= .int .i64 j) c.length ?_ ?_
 ·refine ⟨0,0,(Nat.sub_zero _).symm,Nat.zero_le _,d,rfl,?_⟩;simp only[*,go_sem]
 rintro a3 a4 F' z ⟨i43,j,rfl,a5,d,rfl,a6,a7⟩;obtain ⟨S,T,U⟩:=z.pick [4,7,19,20] (by decide);simp only[*,go_sem] at S T U;clear z G hd H k1;refine ah hJ ?_;simp only[*,go_sem];refine af hJ ?_;rcases Nat.lt_or_ge i43 c.length with V|B
 ·refine bP hJ (by simp only[*,go_sem]) ?_;refine aI hJ ?_;obtain ⟨a8,k⟩:∃x,c[i43]?=some x:=⟨_,List.getElem?_eq_getElem V⟩
  rw[c8 k] at d;revert d;refine bS fun a9 h l=>?_;unfold qd at h;try dsimp only at h
  obtain ⟨ba,bb,W,X,C⟩:=q.el _ _ k;obtain ⟨bc,bd,bj,rfl,Y⟩:=X;cases W;have Z:=C 0 _ rfl;simp only[go_sem] at Z;clear C k;refine af hJ (aN hJ (af hJ ?_));refine aj hJ ?_;simp only[*,go_sem];refine ah hJ ?_;revert h;refine bS fun bm ab h=>?_;simp only[*,go_sem];refine bn hJ _ (Y.2 _ (fun a v h=>aT a v h) u0 _ _ _ _ _ (b.e.mono aT) (b.p.mono aT) (b.y.mono aT) (b.t.mono aT) ab) (aK ?_);try simp only[*,go_sem]
  refine ah hJ ?_;simp only[*,go_sem];revert h;refine jC hJ (by simp only[*,go_sem]) (fun ad h=>?_) fun ad h=>?_
  ·obtain rfl:=sI h;refine ah hJ ?_;simp only[*,go_sem];obtain rfl:=sI l;clear l;have h:=u;dsimp only[aB] at h;obtain rfl:=sI h;refine ay ?_;simp only[*,go_sem];exact ⟨_,Ext.refl _,Le.sub (List.nil_sublist _),_,_,_,_,rfl,⟨aC.nil _ _,aC.nil _ _,aC.nil _ _,aC.nil _ _⟩⟩
  obtain rfl:=sI h;refine aI hJ ?_;have bo:=cq (n:=i43) (by have:=E;omega);refine aj hJ ?_;simp only[*,go_sem];refine ⟨c.length - (i43+1),by omega,_,Le.sub (List.Sublist.refl _),i43+1,j,rfl,by omega,l,rfl,?_⟩;simp only[*,go_sem]
 have br:=Nat.not_lt.2 B;refine bM hJ (by simp only[*,go_sem]) ?_;rw[List.drop_eq_nil_of_le B] at d;obtain rfl:=sI d;clear d;have h:=u;dsimp only[aB] at h;obtain rfl:=sI h;refine bJ ?_;simp only[go_sem];refine ah hJ ?_;simp only[*,go_sem];refine ay ?_;simp only[*,go_sem];exact ⟨_,Ext.refl _,Le.sub (List.nil_sublist _),_,_,_,_,rfl,b⟩
def vU (u0:ak)(b:Int):Option (an×Int):=
 ag (eU u0 ([(ni b)])) fun a=>cond ((a.2 != 0)) (some ((⟨0,0⟩:an),a.2)) (ag (iW a.1 b) fun c=>some (c,0))
theorem GB {ro:Addr->Option Value}(f:c7 ro)(u0:ak){s1 g i j:Value}(k:bK ro u0 s1 g i j)(a:Int){r:(an×Int)}(h:vU u0 a=some r):aD Tryz.prog 62 #[bv u0 s1 g i j,.int .i64 a] ⟨ro,[]⟩ (fun v _=>v= .tuple #[r.1.v,.int .i64 r.2]):=by
 unfold vU at h;refine aD.go Tryz.func62 rfl Tryz.ntmps62 Tryz.results62 (by simp) fun main J hJ A V hd hs=>?_;have W:=hs 0;have k1:=hs 1;clear hs;refine ah hJ ?_;simp only[*,go_sem];refine aA fun B C D=>?_;try simp only[au] at D
 refine aA fun E F G=>?_;try simp only[au] at G
 try simp only[*,go_sem]
 refine af hJ ?_;refine az hJ fun H=>?_;refine aj hJ ?_;revert h;refine bS fun I K h=>?_;simp only[*,go_sem];refine aA fun c m n=>?_;have q:=aP.cons n H;try simp only[au] at n
 try simp only[*,go_sem]
 obtain ⟨l,s,u⟩:=fO (b:=c) (o:=(.cells #[.func (.func 115) #[.int .i64 a] #[]] 127)) [] ((E,rt 0 0)::(B,bk u0 s1 g i j)::[]) q m (aE.cons F (aE.cons C (aE.nil _)));have w:aC (cZ) (bR ro c (.cells #[.func (.func 115) #[.int .i64 a] #[]] 127)) (.slice (some ⟨c,0,none⟩) 1 1) [(ni a)]:=(aC.one (r:=(cZ)) (e:=127) (cs:=#[.func (.func 115) #[.int .i64 a] #[]]) (x:=(ni a)) (own:=[(c,.cells #[.func (.func 115) #[.int .i64 a] #[]] 127)]) m (by simp[lk]) ⟨115,#[.int .i64 a],#[],rfl,⟨by simp only[go_sem],fun X Y L _ _ _ _ _ M N O P h=>by simp only[go_sem];exact F9 a L ⟨M,N,O,P⟩ h⟩⟩)
 generalize bR ro c (.cells #[.func (.func 115) #[.int .i64 a] #[]] 127)=Z at w s l u;refine gO hJ u ?_;replace k:=k.mono l;replace f:=f.mono l;simp only[bp] at s;have Q:=aP.tl q;refine b8 hJ _ (j6 f u0 k ([(ni a)]) w K) fun v ab ad R S=>?_;obtain ⟨ae,al,ao,ar,rfl,d⟩:=S;simp only[bp] at R;obtain ⟨d41,a0,rfl,a2,a3,-⟩:=id d.e;obtain ⟨d48,a4,rfl,a5,a6,-⟩:=id d.p;obtain ⟨d55,a7,rfl,a8,a9,-⟩:=id d.y;obtain ⟨d62,ba,rfl,bb,bc,-⟩:=id d.t;refine aK ?_;try simp only[*,go_sem]
 refine aA fun bd bj z=>?_;have bl:=aP.cons z Q;try simp only[au] at z
 try simp only[*,go_sem]
 refine af hJ (ah hJ ?_);simp only[*,go_sem];revert h;refine jC hJ (by simp only[*,go_sem]) (fun T h=>?_) fun T h=>?_
 ·obtain rfl:=sI h;refine ah hJ ?_;simp only[*,go_sem];refine ay ?_;simp only[*,go_sem]
 refine aI hJ (af hJ ?_);refine aj hJ ?_;revert h;refine bS fun bm U h=>?_;obtain rfl:=sI h;simp only[*,go_sem];refine bn hJ _ (AO I.1 (d.mono aT) a U) (aK ?_);try simp only[*,go_sem]
 refine ay ?_;simp only[*,go_sem]
def vV (u0:ak)(b:aQ):Option (Int×an×Int):=
 ag (eU u0 ([(eJ b)])) fun a=>cond ((a.2 != 0)) (some (0,(⟨0,0⟩:an),a.2)) (ag (kY a.1 b) fun c=>some (c.at_,c.high,0))
theorem GC {ro:Addr->Option Value}(k:c7 ro)(u0:ak){s1 f g i:Value}(j:bK ro u0 s1 f g i)(a:aQ){r:(Int×an×Int)}(h:vV u0 a=some r):aD Tryz.prog 34 #[bv u0 s1 f g i,.agg #[.int .i64 a.back,.int .i64 a.high]] ⟨ro,[]⟩ (fun v _=>v= .tuple #[.int .i64 r.1,r.2.1.v,.int .i64 r.2.2]):=by
 unfold vV at h;have D:=j.oc;simp only[bE] at D;refine aD.go Tryz.func34 rfl Tryz.ntmps34 Tryz.results34 (by simp) fun main J hJ A a2 hd hs=>?_;have a3:=hs 0;have k1:=hs 1;clear hs;refine ah hJ ?_;simp only[*,go_sem];refine aA fun m E F=>?_;try simp only[au] at F
 refine aA fun n G H=>?_;try simp only[au] at H
 refine aA fun I K L=>?_;try simp only[au] at L
 try simp only[*,go_sem]
 refine af hJ ?_;refine az hJ fun M=>?_;refine aj hJ ?_;revert h;refine bS fun p N h=>?_;simp only[*,go_sem];refine aA fun d q s=>?_;have t:=aP.cons s M;try simp only[au] at s
 try simp only[*,go_sem]
 obtain ⟨l,u,w⟩:=fO (b:=d) (o:=(.cells #[.func (.func 78) #[.agg #[.int .i64 a.back,.int .i64 a.high]] #[]] 127)) [] ((I,rt 0 0)::(n,.cells #[.int .i64 a.back,.int .i64 a.high] 53)::(m,bk u0 s1 f g i)::[]) t q (aE.cons K (aE.cons G (aE.cons E (aE.nil _))));have y:aC (cZ) (bR ro d (.cells #[.func (.func 78) #[.agg #[.int .i64 a.back,.int .i64 a.high]] #[]] 127)) (.slice (some ⟨d,0,none⟩) 1 1) [(eJ a)]:=(aC.one (r:=(cZ)) (e:=127) (cs:=#[.func (.func 78) #[.agg #[.int .i64 a.back,.int .i64 a.high]] #[]]) (x:=(eJ a)) (own:=[(d,.cells #[.func (.func 78) #[.agg #[.int .i64 a.back,.int .i64 a.high]] #[]] 127)]) q (by simp[lk]) ⟨78,#[.agg #[.int .i64 a.back,.int .i64 a.high]],#[],rfl,⟨by simp only[go_sem],fun a4 a5 O _ _ _ _ _ P Q R S h=>by simp only[go_sem];exact rZ a O ⟨P,Q,R,S⟩ h⟩⟩)
 generalize bR ro d (.cells #[.func (.func 78) #[.agg #[.int .i64 a.back,.int .i64 a.high]] #[]] 127)=a6 at y u l w;refine gO hJ w ?_;replace j:=j.mono l;replace k:=k.mono l;simp only[bp] at u;have T:=aP.tl t;refine b8 hJ _ (j6 k u0 j ([(eJ a)]) y N) fun v U a7 V W=>?_;obtain ⟨X,Y,Z,ab,rfl,z⟩:=W;have ad:=z.oc;simp only[bE] at ad;simp only[bp] at V;refine aK ?_;try simp only[*,go_sem]
 refine aA fun ae a8 B=>?_;have al:=aP.cons B T;try simp only[au] at B
 try simp only[*,go_sem]
 refine af hJ (ah hJ ?_);simp only[*,go_sem];revert h;refine jC hJ (by simp only[*,go_sem]) (fun ao h=>?_) fun ao h=>?_
 ·obtain rfl:=sI h;refine ah hJ ?_;simp only[*,go_sem];refine ay ?_;simp only[*,go_sem]
 refine aI hJ (af hJ ?_);refine aj hJ ?_;revert h;refine bS fun c ar h=>?_;obtain rfl:=sI h;simp only[*,go_sem];refine bn hJ _ (sk p.1 (z.mono aT) a ar) (aK ?_);try simp only[*,go_sem]
 refine aA fun a0 a9 C=>?_;have ba:=aP.cons C al;try simp only[au] at C
 try simp only[*,go_sem]
 refine af hJ ?_;refine fc hJ mixed 5 ⟨U,[(a0,.cells #[.int .i64 c.spot.aH,.int .i64 c.spot.high.num,.int .i64 c.spot.high.den,.int .i64 c.at_,.int .i64 c.high.num,.int .i64 c.high.den] 147),(ae,bl p.1 X Y Z ab),(n,.cells #[.int .i64 a.back,.int .i64 a.high] 53),(m,bk u0 s1 f g i)]⟩ (by simp only[*,go_sem]) (by kernel_rfl) ?_;simp only[*,go_sem];refine ay ?_;simp only[*,go_sem]
def vW (u0:ak)(b:aQ):Option (an×Int):=
 ag (eU u0 ([(eJ b)])) fun a=>cond ((a.2 != 0)) (some ((⟨0,0⟩:an),a.2)) (ag (sn a.1 b) fun c=>some (c,0))
theorem GD {ro:Addr->Option Value}(f:c7 ro)(u0:ak){s1 g i j:Value}(k:bK ro u0 s1 g i j)(a:aQ){r:(an×Int)}(h:vW u0 a=some r):aD Tryz.prog 22 #[bv u0 s1 g i j,.agg #[.int .i64 a.back,.int .i64 a.high]] ⟨ro,[]⟩ (fun v _=>v= .tuple #[r.1.v,.int .i64 r.2]):=by
 unfold vW at h;refine aD.go Tryz.func22 rfl Tryz.ntmps22 Tryz.results22 (by simp) fun main J hJ A Y hd hs=>?_;have Z:=hs 0;have k1:=hs 1;clear hs;refine ah hJ ?_;simp only[*,go_sem];refine aA fun B C D=>?_;try simp only[au] at D
 refine aA fun E F G=>?_;try simp only[au] at G
 refine aA fun H I K=>?_;try simp only[au] at K
 try simp only[*,go_sem]
 refine af hJ ?_;refine az hJ fun L=>?_;refine aj hJ ?_;revert h;refine bS fun M N h=>?_;simp only[*,go_sem];refine aA fun c m n=>?_;have q:=aP.cons n L;try simp only[au] at n
 try simp only[*,go_sem]
 obtain ⟨l,s,u⟩:=fO (b:=c) (o:=(.cells #[.func (.func 78) #[.agg #[.int .i64 a.back,.int .i64 a.high]] #[]] 127)) [] ((H,rt 0 0)::(E,.cells #[.int .i64 a.back,.int .i64 a.high] 53)::(B,bk u0 s1 g i j)::[]) q m (aE.cons I (aE.cons F (aE.cons C (aE.nil _))));have w:aC (cZ) (bR ro c (.cells #[.func (.func 78) #[.agg #[.int .i64 a.back,.int .i64 a.high]] #[]] 127)) (.slice (some ⟨c,0,none⟩) 1 1) [(eJ a)]:=(aC.one (r:=(cZ)) (e:=127) (cs:=#[.func (.func 78) #[.agg #[.int .i64 a.back,.int .i64 a.high]] #[]]) (x:=(eJ a)) (own:=[(c,.cells #[.func (.func 78) #[.agg #[.int .i64 a.back,.int .i64 a.high]] #[]] 127)]) m (by simp[lk]) ⟨78,#[.agg #[.int .i64 a.back,.int .i64 a.high]],#[],rfl,⟨by simp only[go_sem],fun ab ad O _ _ _ _ _ P Q R S h=>by simp only[go_sem];exact rZ a O ⟨P,Q,R,S⟩ h⟩⟩)
 generalize bR ro c (.cells #[.func (.func 78) #[.agg #[.int .i64 a.back,.int .i64 a.high]] #[]] 127)=ae at w s l u;refine gO hJ u ?_;replace k:=k.mono l;replace f:=f.mono l;simp only[bp] at s;have T:=aP.tl q;refine b8 hJ _ (j6 f u0 k ([(eJ a)]) w N) fun v al ao U V=>?_;obtain ⟨ar,a0,a2,a3,rfl,d⟩:=V;simp only[bp] at U;obtain ⟨d42,a4,rfl,a5,a6,-⟩:=id d.e;obtain ⟨d49,a7,rfl,a8,a9,-⟩:=id d.p;obtain ⟨d56,ba,rfl,bb,bc,-⟩:=id d.y;obtain ⟨d63,bd,rfl,bj,bl,-⟩:=id d.t;refine aK ?_;try simp only[*,go_sem]
 refine aA fun bm bo z=>?_;have br:=aP.cons z T;try simp only[au] at z
 try simp only[*,go_sem]
 refine af hJ (ah hJ ?_);simp only[*,go_sem];revert h;refine jC hJ (by simp only[*,go_sem]) (fun W h=>?_) fun W h=>?_
 ·obtain rfl:=sI h;refine ah hJ ?_;simp only[*,go_sem];refine ay ?_;simp only[*,go_sem]
 refine aI hJ (af hJ ?_);refine aj hJ ?_;revert h;refine bS fun bs X h=>?_;obtain rfl:=sI h;simp only[*,go_sem];refine bn hJ _ (AN M.1 (d.mono aT) a X) (aK ?_);try simp only[*,go_sem]
 refine ay ?_;simp only[*,go_sem]
def vX (u0:ak)(c:aQ):Option (an×Bool×Int):=
 ag (eU u0 ([(eJ c)])) fun b=>cond ((b.2 != 0)) (some ((⟨0,0⟩:an),false,b.2)) (ag (jx b.1 c) fun a=>cond (((a.length:Int)==0)) (some ((⟨0,0⟩:an),false,0)) (ag (bf a 0) fun d=>ag (jS a 1 (a.length:Int)) fun e=>ag (l9 iT d e) fun f=>some (f.high,true,0)))
theorem GF {ro:Addr->Option Value}(l:c7 ro)(u0:ak){s1 f g i:Value}(j:bK ro u0 s1 f g i)(a:aQ){r:(an×Bool×Int)}(h:vX u0 a=some r):aD Tryz.prog 52 #[bv u0 s1 f g i,.agg #[.int .i64 a.back,.int .i64 a.high]] ⟨ro,[]⟩ (fun v _=>v= .tuple #[r.1.v,.bool r.2.1,.int .i64 r.2.2]):=by
 unfold vX at h;have N:=j.oc;simp only[bE] at N;refine aD.go Tryz.func52 rfl Tryz.ntmps52 Tryz.results52 (by simp) fun main J hJ A cy hd hs=>?_;have cS:=hs 0;have k1:=hs 1;clear hs;refine ah hJ ?_;simp only[*,go_sem];refine aA fun s O P=>?_;try simp only[au] at P
 refine aA fun t Q R=>?_;try simp only[au] at R
 refine aA fun S T U=>?_;try simp only[au] at U
 try simp only[*,go_sem]
 refine af hJ ?_;refine az hJ fun V=>?_;refine aj hJ ?_;revert h;refine bS fun u W h=>?_;simp only[*,go_sem];refine aA fun d w y=>?_;have z:=aP.cons y V;try simp only[au] at y
 try simp only[*,go_sem]
 obtain ⟨m,B,C⟩:=fO (b:=d) (o:=(.cells #[.func (.func 78) #[.agg #[.int .i64 a.back,.int .i64 a.high]] #[]] 127)) [] ((S,rt 0 0)::(t,.cells #[.int .i64 a.back,.int .i64 a.high] 53)::(s,bk u0 s1 f g i)::[]) z w (aE.cons T (aE.cons Q (aE.cons O (aE.nil _))));have D:aC (cZ) (bR ro d (.cells #[.func (.func 78) #[.agg #[.int .i64 a.back,.int .i64 a.high]] #[]] 127)) (.slice (some ⟨d,0,none⟩) 1 1) [(eJ a)]:=(aC.one (r:=(cZ)) (e:=127) (cs:=#[.func (.func 78) #[.agg #[.int .i64 a.back,.int .i64 a.high]] #[]]) (x:=(eJ a)) (own:=[(d,.cells #[.func (.func 78) #[.agg #[.int .i64 a.back,.int .i64 a.high]] #[]] 127)]) w (by simp[lk]) ⟨78,#[.agg #[.int .i64 a.back,.int .i64 a.high]],#[],rfl,⟨by simp only[go_sem],fun X Y n _ _ _ _ _ Z ab ad ae h=>by simp only[go_sem];exact rZ a n ⟨Z,ab,ad,ae⟩ h⟩⟩)
 generalize bR ro d (.cells #[.func (.func 78) #[.agg #[.int .i64 a.back,.int .i64 a.high]] #[]] 127)=c0 at D B m C;refine gO hJ C ?_;replace j:=j.mono m;replace l:=l.mono m;simp only[bp] at B;have al:=aP.tl z;refine b8 hJ _ (j6 l u0 j ([(eJ a)]) D W) fun v da db ao p=>?_;obtain ⟨ar,a0,a2,a3,rfl,E⟩:=p;have a4:=E.oc;simp only[bE] at a4;simp only[bp] at ao;refine aK ?_;try simp only[*,go_sem]
 refine aA fun a5 dd G=>?_;have df:=aP.cons G al;try simp only[au] at G
 try simp only[*,go_sem]
 refine af hJ (ah hJ ?_);simp only[*,go_sem];revert h;refine jC hJ (by simp only[*,go_sem]) (fun a6 h=>?_) fun a6 h=>?_
 ·obtain rfl:=sI h;refine ah hJ ?_;simp only[*,go_sem];refine ay ?_;simp only[*,go_sem]
 refine aI hJ (af hJ ?_);refine aj hJ ?_;revert h;refine bS fun k a7 h=>?_;simp only[*,go_sem];refine b8 hJ _ (vL u.1 E a a7) fun v a8 dk a9 p=>?_;obtain ⟨dp,rfl,q⟩:=p;simp only[bp] at a9;obtain ⟨d84,ba,rfl,dq,ds,-⟩:=id q;refine aK ?_;try simp only[*,go_sem]
 refine af hJ (ah hJ ?_);simp only[*,go_sem];revert h;refine jC hJ (by simp only[*,go_sem]) (fun bb h=>?_) fun bb h=>?_
 ·obtain rfl:=sI h;refine ah hJ ?_;simp only[*,go_sem];refine ay ?_;simp only[*,go_sem]
 refine aI hJ (af hJ ?_);refine fc hJ mixed 7 ⟨a8,[(a5,bl u.1 ar a0 a2 a3),(t,.cells #[.int .i64 a.back,.int .i64 a.high] 53),(s,bk u0 s1 f g i)]⟩ (by simp only[*,go_sem]) (by kernel_rfl) ?_;revert h;refine bS fun H bc h=>?_;obtain ⟨dt,du,I⟩:=cH bc;obtain ⟨dv,bd,bj,bm,c⟩:=q.el _ _ I;obtain rfl:bd=H.cells:=bm;cases bj;have bo:=c 0 _ rfl;simp only[go_sem] at bo;have br:=c 1 _ rfl;simp only[go_sem] at br;have bs:=c 2 _ rfl;simp only[go_sem] at bs;have bz:=c 3 _ rfl;simp only[go_sem] at bz;have b0:=c 4 _ rfl;simp only[go_sem] at b0;have b1:=c 5 _ rfl;simp only[go_sem] at b1;clear c I;revert h;refine bS fun b2 b3 h=>?_;obtain ⟨dC,dE,dT,K⟩:=pq b3;have L:(1:Int).toNat<=((k.length:Int)).toNat:=by omega
 have b4:((k.length:Int)).toNat<=ba:=by omega
 have ea:0<=((k.length:Int)):=by omega
 obtain ⟨d94,b5,ca,M⟩:=aC.pF q (1:Int).toNat ((k.length:Int)).toNat L (by omega) K;simp only[go_sem] at b5 ca L b4;obtain ⟨_,_,cb,eb,ec,ed⟩:=id M;cases cb;clear K;revert h;refine bS fun eh cd h=>?_;obtain rfl:=sI h;try simp only[*,go_sem]
 refine ⟨_,bD hJ fun F cf=>r6 (dK:=88) (eg:=#[]) (ei:=#[]) iT ⟨by simp only[go_sem],fun X Y n cl _ h=>by simp only[go_sem];exact rY n cl h⟩ H b2 (M.mono (bZ cf)) cd,b9 ?_⟩;try simp only[*,go_sem]
 refine ay ?_;simp only[*,go_sem]
def mq (u0:ak)(b:aQ):Option (an×Bool×Int):=
 ag (eU u0 ([(eJ b)])) fun a=>cond ((a.2 != 0)) (some ((⟨0,0⟩:an),false,a.2)) (ag (j5 a.1 b) fun c=>ag (fQ a.1 b) fun d=>some (c,d,0))
theorem vY {ro:Addr->Option Value}(j:c7 ro)(u0:ak){s1 d f g:Value}(i:bK ro u0 s1 d f g)(a:aQ){r:(an×Bool×Int)}(h:mq u0 a=some r):aD Tryz.prog 25 #[bv u0 s1 d f g,.agg #[.int .i64 a.back,.int .i64 a.high]] ⟨ro,[]⟩ (fun v _=>v= .tuple #[r.1.v,.bool r.2.1,.int .i64 r.2.2]):=by
 unfold mq at h;have C:=i.oc;simp only[bE] at C;refine aD.go Tryz.func25 rfl Tryz.ntmps25 Tryz.results25 (by simp) fun main J hJ A a0 hd hs=>?_;have a2:=hs 0;have k1:=hs 1;clear hs;refine ah hJ ?_;simp only[*,go_sem];refine aA fun p D E=>?_;try simp only[au] at E
 refine aA fun q G H=>?_;try simp only[au] at H
 refine aA fun I K L=>?_;try simp only[au] at L
 try simp only[*,go_sem]
 refine af hJ ?_;refine az hJ fun M=>?_;refine aj hJ ?_;revert h;refine bS fun k N h=>?_;simp only[*,go_sem];refine aA fun c s t=>?_;have u:=aP.cons t M;try simp only[au] at t
 try simp only[*,go_sem]
 obtain ⟨l,w,y⟩:=fO (b:=c) (o:=(.cells #[.func (.func 78) #[.agg #[.int .i64 a.back,.int .i64 a.high]] #[]] 127)) [] ((I,rt 0 0)::(q,.cells #[.int .i64 a.back,.int .i64 a.high] 53)::(p,bk u0 s1 d f g)::[]) u s (aE.cons K (aE.cons G (aE.cons D (aE.nil _))));have z:aC (cZ) (bR ro c (.cells #[.func (.func 78) #[.agg #[.int .i64 a.back,.int .i64 a.high]] #[]] 127)) (.slice (some ⟨c,0,none⟩) 1 1) [(eJ a)]:=(aC.one (r:=(cZ)) (e:=127) (cs:=#[.func (.func 78) #[.agg #[.int .i64 a.back,.int .i64 a.high]] #[]]) (x:=(eJ a)) (own:=[(c,.cells #[.func (.func 78) #[.agg #[.int .i64 a.back,.int .i64 a.high]] #[]] 127)]) s (by simp[lk]) ⟨78,#[.agg #[.int .i64 a.back,.int .i64 a.high]],#[],rfl,⟨by simp only[go_sem],fun a3 a4 O _ _ _ _ _ P Q R S h=>by simp only[go_sem];exact rZ a O ⟨P,Q,R,S⟩ h⟩⟩)
 generalize bR ro c (.cells #[.func (.func 78) #[.agg #[.int .i64 a.back,.int .i64 a.high]] #[]] 127)=a5 at z w l y;refine gO hJ y ?_;replace i:=i.mono l;replace j:=j.mono l;simp only[bp] at w;have T:=aP.tl u;refine b8 hJ _ (j6 j u0 i ([(eJ a)]) z N) fun v U a6 V W=>?_;obtain ⟨X,Y,Z,ab,rfl,m⟩:=W;have ad:=m.oc;simp only[bE] at ad;simp only[bp] at V;refine aK ?_;try simp only[*,go_sem]
 refine aA fun ae a7 B=>?_;have a8:=aP.cons B T;try simp only[au] at B
 try simp only[*,go_sem]
 refine af hJ (ah hJ ?_);simp only[*,go_sem];revert h;refine jC hJ (by simp only[*,go_sem]) (fun al h=>?_) fun al h=>?_
 ·obtain rfl:=sI h;refine ah hJ ?_;simp only[*,go_sem];refine ay ?_;simp only[*,go_sem]
 refine aI hJ (af hJ ?_);refine fc hJ mixed 6 ⟨U,[(ae,bl k.1 X Y Z ab),(q,.cells #[.int .i64 a.back,.int .i64 a.high] 53),(p,bk u0 s1 d f g)]⟩ (by simp only[*,go_sem]) (by kernel_rfl) ?_;revert h;refine bS fun a9 ao h=>?_;simp only[*,go_sem];refine ⟨_,bD hJ fun F n=>so k.1 (m.mono (bZ n)) a ao,b9 ?_⟩;revert h;refine bS fun ba ar h=>?_;obtain rfl:=sI h;try simp only[*,go_sem]
 refine ⟨_,bD hJ fun F n=>mj k.1 (m.mono (bZ n)) a ar,?_⟩;try simp only[*,go_sem]
 refine ay ?_;simp only[*,go_sem]
def vZ (a:aX)(st:Bool):Option (Fl Bool Unit):=
 some (.br 1000000000 true)
def sK (u0:ak):Option Bool:=
 ag (gb (vZ) (mo u0) false) fun o=>aB o (fun b=>some false) (fun k a=>cond (k==1000000000) (some a) (none)) (fun _=>none)
theorem AT {ro:Addr->Option Value}(u0:ak){s1 c d g:Value}(k:bK ro u0 s1 c d g){r:Bool}(h:sK u0=some r):aD Tryz.prog 103 #[bv u0 s1 c d g] ⟨ro,[]⟩ (fun v _=>v= .bool r):=by
 unfold sK at h;refine aD.vH Tryz.func103 rfl Tryz.ntmps103 Tryz.results103 (by simp) fun main J hJ A D hd hs=>?_;have E:=hs 0;clear hs;refine ah hJ ?_;simp only[*,go_sem];refine aA fun n x F=>?_;try simp only[au] at F
 refine aA fun l z G=>?_;try simp only[au] at G
 try simp only[*,go_sem]
 refine af hJ (ah hJ ?_);simp only[*,go_sem];revert h;refine bS fun Q H o=>?_;refine vG hJ aX.v (by simp only[*,go_sem]) (sG u0 k.e k.p k.y k.t) (by kernel_rfl) (by kernel_rfl) (ρ:=Unit) (fun (I:Bool) K=>K=(l,.cells #[.bool I] 4)::(n,bl u0 s1 c d g)::[]) (f:=vZ) H ?_ ?_ (by decide) ?_ ?_
 ·exact rfl
 ·rintro d33 L q M s u R h main J hJ _ rfl;unfold vZ at h;try dsimp only at h
  obtain rfl:=sI h;generalize i:l7 _ _ _=m;have S:sz m=6:=by rw[<-i,vF];simp only[*,go_sem]
  have T:m.defers=[]:=by rw[<-i];rfl
  have U:slot m 2= .pointer (some ⟨l,0,none⟩):=by rw[<-i,nc];simp only[*,go_sem]
  have V:slot m 5= .agg #[.int .i64 u.e0,.int .i64 u.e1,.int .i64 u.e2]:=by rw[<-i,nc];simp only[*,go_sem]
  clear i D hd E;refine fP hJ fun b a=>?_;replace a:aE ro ((L,.loop q)::(d33,.deferred (some []))::(l,.cells #[.bool s] 4)::(n,bl u0 s1 c d g)::[]):=a;have W:=a.hd;have X:=a.tl.hd;have z:=a.tl.tl.hd;have x:=a.tl.tl.tl.hd;clear a;replace b:=b.nd;simp only[keys,List.map_cons,List.map_nil,List.map_append,List.cons_append,List.nil_append,List.nodup_cons,List.mem_cons,List.mem_append,List.not_mem_nil,or_false,not_or] at b;refine aI hJ ?_;simp only[pN,go_sem];refine ⟨q,by simp only[*,go_sem],M,?_⟩;try simp only[*,go_sem]
  refine aN hJ (af hJ ?_);refine aj hJ ?_;simp only[*,go_sem];refine ay ?_;simp only[rU,lZ,go_sem];refine ⟨{q with state:=.busy},by simp only[*,go_sem],?_⟩;simp only[*,go_sem];refine ⟨_,Le.sub (List.Sublist.refl _),rfl,rfl⟩
 ·rintro N O P _ s rfl b a;replace a:aE ro ((O,.loop P)::(N,.deferred (some []))::(l,.cells #[.bool s] 4)::(n,bl u0 s1 c d g)::[]):=a;have Y:=a.hd;have Z:=a.tl.hd;have z:=a.tl.tl.hd;have x:=a.tl.tl.tl.hd;clear a;replace b:=b.nd;simp only[keys,List.map_cons,List.map_nil,List.map_append,List.cons_append,List.nil_append,List.nodup_cons,List.mem_cons,List.mem_append,List.not_mem_nil,or_false,not_or] at b;refine ⟨fun j=>?_,fun k1 j=>?_⟩
  ·subst j;have h:=o;dsimp only[aB] at h;obtain rfl:=sI h;refine ah hJ ?_;simp only[*,go_sem];refine az hJ fun w=>?_;replace w:=w.nd;(try simp only[keys,List.map_cons,List.map_nil,List.map_append,List.cons_append,List.nil_append,List.nodup_cons,List.mem_cons,List.mem_append,List.not_mem_nil,or_false,not_or] at w);refine ay ?_;simp only[*,go_sem]
  subst j;have h:=o;dsimp only[aB] at h;revert h;refine cS (fun B h=>?_) fun B h=>?_
  ·obtain rfl:=sI h;obtain rfl:k1=1000000000:=by simpa using B
   unfold vE;rw[if_pos (show (1000000000:Nat)=rW from rfl)];simp only[*,go_sem]
  cases h
 intro k1 ab j;subst j;have h:=o;dsimp only[aB] at h;revert h;refine cS (fun C h=>?_) fun C h=>?_
 ·obtain rfl:k1=1000000000:=by simpa using C
  decide
 cases h
def nD (a:aX)(st:(List aX)):Option (Fl (List aX) Unit):=
 ag (cY st ([a])) fun b=>some (.nx b)
def sL (a:(List (Option aX))):Option (List aX):=
 ag (gb (nD) a ([]:List aX)) fun o=>aB o (fun b=>some b) (fun k c=>none) (fun _=>none)
theorem GG {ro:Addr->Option Value}(u:(List (Option aX))){dw:FuncId}{dV dW:Array Value}(K:l5 Tryz.prog dw dV dW aX.v u ro){r:(List aX)}(h:sL u=some r):eI Tryz.prog 147 #[.slice none 0 0,.func (.func dw) dV dW] ro (fun v aM=>∃w,v=w/\aC gP aM w r):=by
 unfold sL at h;refine aD.vH Tryz.func147 rfl Tryz.ntmps147 Tryz.results147 (by simp) fun main J hJ A L hd hs=>?_;have M:=hs 0;have k1:=hs 1;clear hs;refine ah hJ ?_;simp only[*,go_sem,-h];refine aA fun e r1 n1=>?_;try simp only[au] at n1
 try simp only[*,go_sem,-h]
 refine af hJ (ah hJ ?_);simp only[*,go_sem,-h];revert h;refine bS fun ar N o=>?_;have h:=trivial;refine vG hJ aX.v (by simp only[*,go_sem]) K (by kernel_rfl) (by kernel_rfl) (ρ:=Unit) (fun (m:(List aX)) O=>∃(d7:Option Addr) (c:Nat) (d:List (Nat×Obj)),O=(e,.cells #[.slice d7 m.length c] 122)::d/\aO gP ro 121 (.slice d7 m.length c) m d/\m.length<=c) (f:=nD) N ?_ ?_ (by decide) ?_ ?_
 ·exact ⟨none,0,[],rfl,aO.nil _ _ _,Nat.le_refl _⟩
 ·rintro d4 p i P v6 a a0 h main J hJ _ ⟨d7,c,d,rfl,q,Q⟩;unfold nD at h;try dsimp only at h
  generalize j:l7 _ _ _=n;have a2:sz n=13:=by rw[<-j,vF];simp only[*,go_sem]
  have a3:n.defers=[]:=by rw[<-j];rfl
  have a4:slot n 2= .pointer (some ⟨e,0,none⟩):=by rw[<-j,nc];simp only[*,go_sem]
  have a5:slot n 7= .agg #[.int .i64 a.e0,.int .i64 a.e1,.int .i64 a.e2]:=by rw[<-j,nc];simp only[*,go_sem]
  clear j L hd M k1;refine fP hJ fun g b=>?_;replace b:aE ro ((p,.loop i)::(d4,.deferred (some []))::(e,.cells #[.slice d7 v6.length c] 122)::d):=b;have r3:=b.hd;have a6:=b.tl.hd;have r1:=b.tl.tl.hd;clear b;replace g:=g.nd;simp only[keys,List.map_cons,List.map_nil,List.map_append,List.cons_append,List.nil_append,List.nodup_cons,List.mem_cons,List.mem_append,List.not_mem_nil,or_false,not_or] at g;refine az hJ fun R=>?_;refine aj hJ ?_;simp only[*,go_sem,-h];refine aA fun y a7 z=>?_;have a8:=aP.cons z R;try simp only[au] at z
  try simp only[*,go_sem,-h]
  simp only[pN,go_sem];refine ⟨i,by simp only[*,go_sem],P,?_⟩;try simp only[*,go_sem,-h]
  refine aN hJ ?_;refine az hJ fun S=>?_;refine aj hJ ?_;revert h;refine bS fun a9 T h=>?_;obtain ⟨U,B⟩:=dr T;simp only[*,go_sem,-h];refine aA fun C V D=>?_;have W:=aP.cons D S;try simp only[au] at D
  try simp only[*,go_sem,-h]
  refine ee (r:=gP) (l:=v6) (x:=a) (cs:=#[.int .i64 a.e0,.int .i64 a.e1,.int .i64 a.e2]) (e2:=121) [(C,.cells #[.int .i64 a.e0,.int .i64 a.e1,.int .i64 a.e2] 121),(y,.cells #[.int .i64 a.e0,.int .i64 a.e1,.int .i64 a.e2] 121),(p,.loop {i with state:=.busy}),(d4,.deferred (some [])),(e,.cells #[.slice d7 v6.length c] 122)] [] q W U rfl (by simp only[*,go_sem,-h]) V rfl rfl z5 z5 EX EZ rfl EY (by decide) (by decide) (fun ba E s d X bb=>?_);simp only[aV] at X;subst d;rw[<-B] at s;clear B;obtain ⟨d28,Y,rfl,Z⟩:=s.len;refine ⟨⟨ro,(C,.cells #[.int .i64 a.e0,.int .i64 a.e1,.int .i64 a.e2] 121)::(y,.cells #[.int .i64 a.e0,.int .i64 a.e1,.int .i64 a.e2] 121)::(p,.loop {i with state:=.busy})::(d4,.deferred (some []))::(e,.cells #[.slice d7 v6.length c] 122)::E⟩,Le.refl _,?_⟩;refine aK ?_;try simp only[*,go_sem,-h]
  obtain rfl:=sI h;simp only[rU,lZ,go_sem];refine ⟨{i with state:=.busy},by simp only[*,go_sem],?_⟩;simp only[*,go_sem];refine ⟨_,Le.sub (List.Sublist.cons _ (List.Sublist.cons _ (List.Sublist.refl _))),rfl,d28,Y,E,rfl,s,Z⟩
 ·rintro d49 F G _ v6 ⟨d7,c,d,rfl,q,Q⟩ g b;replace b:aE ro ((F,.loop G)::(d49,.deferred (some []))::(e,.cells #[.slice d7 v6.length c] 122)::d):=b;have ab:=b.hd;have ad:=b.tl.hd;have r1:=b.tl.tl.hd;clear b;replace g:=g.nd;simp only[keys,List.map_cons,List.map_nil,List.map_append,List.cons_append,List.nil_append,List.nodup_cons,List.mem_cons,List.mem_append,List.not_mem_nil,or_false,not_or] at g;refine ⟨fun k=>?_,fun k1 k=>?_⟩
  ·subst k;have h:=o;dsimp only[aB] at h;refine af hJ ?_;refine az hJ fun bc=>?_;refine aj hJ ?_;simp only[*,go_sem,-h];obtain rfl:=sI h;refine az hJ fun H=>?_;obtain ⟨bd,ae,al,I,ao⟩:=q.eY [(F,.loop G),(d49,.deferred (some [])),(e,.cells #[.slice d7 v6.length c] 122)] [] H (aE.cons ab (aE.cons ad (aE.cons r1 (aE.nil _))));clear H;refine cG hJ ao ?_;obtain ⟨bj,bk,-⟩:=I.op;simp only[bp] at al;refine az hJ fun t=>?_;replace t:=t.nd;(try simp only[keys,List.map_cons,List.map_nil,List.map_append,List.cons_append,List.nil_append,List.nodup_cons,List.mem_cons,List.mem_append,List.not_mem_nil,or_false,not_or] at t);refine ay ?_;simp only[*,go_sem];exact ⟨_,ae,Le.sub (List.nil_sublist _),_,rfl,I⟩
  subst k;have h:=o;dsimp only[aB] at h;cases h
 intro k1 bl k;subst k;have h:=o;dsimp only[aB] at h;cases h
def qe (u0:(List (Option aX))):Option (List aX):=
 ag (sL u0) fun a=>some a
theorem AU {ro:Addr->Option Value}(u0:(List (Option aX))){dK:FuncId}{eg ei:Array Value}(c:l5 Tryz.prog dK eg ei aX.v u0 ro){r:(List aX)}(h:qe u0=some r):eI Tryz.prog 119 #[.func (.func dK) eg ei] ro (fun v aM=>∃a,v=a/\aC gP aM a r):=by
 unfold qe at h;refine aD.go Tryz.func119 rfl Tryz.ntmps119 Tryz.results119 (by simp) fun main J hJ A g hd hs=>?_;have i:=hs 0;clear hs;refine ah hJ ?_;simp only[*,go_sem];refine ah hJ ?_;revert h;refine bS fun j d h=>?_;obtain rfl:=sI h;simp only[*,go_sem];refine b8 hJ _ (GG (dw:=dK) (dV:=eg) (dW:=ei) u0 c d) fun v k e l f=>?_;obtain ⟨m,rfl,b⟩:=f;obtain ⟨d8,n,rfl,o,p,-⟩:=id b;refine aK ?_;try simp only[*,go_sem]
 refine ay ?_;simp only[*,go_sem];exact ⟨_,e,Le.sub (List.nil_sublist _),_,rfl,b⟩
def gD (u0:ak)(c:(List (ak->Option Int))):Option (cR×Int):=
 ag (eU u0 c) fun a=>cond ((a.2 != 0)) (some ((⟨(⟨0,0,(⟨0,0⟩:an),([]:(List bY)),([]:(List bN)),([]:(List b6)),([]:(List bU))⟩:ak),([]:(List aX))⟩:cR),a.2)) (ag (qe (mo a.1)) fun b=>cond (((b.length:Int)==0)) (some ((⟨(⟨0,0,(⟨0,0⟩:an),([]:(List bY)),([]:(List bN)),([]:(List b6)),([]:(List bU))⟩:ak),([]:(List aX))⟩:cR),9)) (some ((⟨a.1,b⟩:cR),0)))
theorem jy {ro:Addr->Option Value}(N:c7 ro)(u0:ak){s1 c d f:Value}(G:bK ro u0 s1 c d f)(B:(List (ak->Option Int))){H:Value}(I:aC (cZ) ro H B){r:(cR×Int)}(h:gD u0 B=some r):eI Tryz.prog 67 #[bv u0 s1 c d f,H] ro (fun v aM=>∃K w1 w2 w3 w4,v= .tuple #[.agg #[.int .i64 r.1.book.bG,.int .i64 r.1.book.bO,.int .i64 r.1.book.aY.num,.int .i64 r.1.book.aY.den,K,w1,w2,w3,w4],.int .i64 r.2]/\bK aM r.1.book K w1 w2 w3/\aC gP aM w4 r.1.all):=by
 obtain ⟨d31,ae,rfl,al,ao,-⟩:=id I;unfold gD at h;have O:=G.oc;simp only[bE] at O;refine aD.go Tryz.func67 rfl Tryz.ntmps67 Tryz.results67 (by simp) fun main J hJ A ar hd hs=>?_;have a0:=hs 0;have k1:=hs 1;clear hs;refine ah hJ ?_;simp only[*,go_sem];refine aA fun C g P=>?_;try simp only[au] at P
 refine aA fun D i Q=>?_;try simp only[au] at Q
 try simp only[*,go_sem]
 refine ah hJ ?_;revert h;refine bS fun b R h=>?_;simp only[*,go_sem];refine b8 hJ _ (j6 N u0 G B I R) fun v S j E k=>?_;obtain ⟨m,n,o,q,rfl,a⟩:=k;have T:=a.oc;simp only[bE] at T;replace i:=E.hd;replace g:=E.tl.hd;simp only[bp] at E;refine aK ?_;try simp only[*,go_sem]
 refine aA fun F s U=>?_;try simp only[au] at U
 try simp only[*,go_sem]
 refine af hJ (ah hJ ?_);simp only[*,go_sem];revert h;refine jC hJ (by simp only[*,go_sem]) (fun V h=>?_) fun V h=>?_
 ·obtain rfl:=sI h;refine ah hJ ?_;simp only[*,go_sem];refine ay ?_;simp only[*,go_sem];exact ⟨_,j,Le.sub (List.nil_sublist _),_,_,_,_,_,rfl,⟨aC.nil _ _,aC.nil _ _,aC.nil _ _,aC.nil _ _⟩,aC.nil _ _⟩
 refine aI hJ (af hJ ?_);refine eE hJ mixed [] (.rd 0 (.rd 1 (.pure 2 (.two 3 (.pure 4 (.one 5 (.one 6 .done))) 5 (.one 3 (.pure 4 (.one 6 .done))))))) ⟨S,[(F,bl b.1 m n o q),(D,.cells #[.int .i64 0,.int .i64 0,.int .i64 0,.int .i64 0,.slice none 0 0,.slice none 0 0,.slice none 0 0,.slice none 0 0,.slice none 0 0] 124),(C,bk u0 s1 c d f)]⟩ (by simp only[*,go_sem]) (by kernel_rfl) ?_;simp only[*,go_sem];refine jY ?_ ?_
 ·revert h;refine bS fun a2 W h=>?_;simp only[*,go_sem];refine b8 hJ _ (AU (dK:=66) (eg:=#[bv b.1 m n o q]) (ei:=#[]) (mo b.1) (sG b.1 a.e a.p a.y a.t) W) fun v a3 u w k=>?_;obtain ⟨a4,rfl,L⟩:=k;replace a:=a.mono u;replace s:=w.hd;replace i:=w.tl.hd;replace g:=w.tl.tl.hd;simp only[bp] at w;obtain ⟨d80,a5,rfl,a6,a7,-⟩:=id L;have a8:=eR (l:=[(F,bl b.1 m n o q),(D,.cells #[.int .i64 0,.int .i64 0,.int .i64 0,.int .i64 0,.slice none 0 0,.slice none 0 0,.slice none 0 0,.slice none 0 0,.slice none 0 0] 124),(C,bk u0 s1 c d f)]) u (aE.cons s (aE.cons i (aE.cons g (aE.nil _))));refine ⟨by simp only[*,go_sem],?_⟩;refine bT ?_;try simp only[*,go_sem]
  refine aA fun a9 ba X=>?_;try simp only[au] at X
  try simp only[*,go_sem]
  refine af hJ (ah hJ ?_);simp only[*,go_sem];revert h;refine jC hJ (by simp only[*,go_sem]) (fun Y h=>?_) fun Y h=>?_
  ·obtain rfl:=sI h;refine ah hJ ?_;simp only[*,go_sem];refine ay ?_;simp only[*,go_sem];exact ⟨_,(j).trans u,Le.sub (List.nil_sublist _),_,_,_,_,_,rfl,⟨aC.nil _ _,aC.nil _ _,aC.nil _ _,aC.nil _ _⟩,aC.nil _ _⟩
  obtain rfl:=sI h;refine aI hJ (af hJ ?_);refine aj hJ ?_;simp only[*,go_sem];refine ay ?_;simp only[*,go_sem];exact ⟨_,(j).trans u,Le.sub (List.nil_sublist _),_,_,_,_,_,rfl,a,L⟩
 revert h;refine bS fun bb Z h=>?_;simp only[*,go_sem];refine aA fun bc bd ab=>?_;try simp only[au] at ab
 try simp only[*,go_sem]
 refine b8 hJ _ (AU (dK:=66) (eg:=#[bv b.1 m n o q]) (ei:=#[]) (mo b.1) (sG b.1 a.e a.p a.y a.t) Z) fun v bj x z k=>?_;obtain ⟨bm,rfl,M⟩:=k;replace a:=a.mono x;replace s:=z.tl.hd;replace i:=z.tl.tl.hd;replace g:=z.tl.tl.tl.hd;simp only[bp] at z;obtain ⟨d96,bo,rfl,br,bs,-⟩:=id M;have bz:=eR (l:=[(F,bl b.1 m n o q),(D,.cells #[.int .i64 0,.int .i64 0,.int .i64 0,.int .i64 0,.slice none 0 0,.slice none 0 0,.slice none 0 0,.slice none 0 0,.slice none 0 0] 124),(C,bk u0 s1 c d f)]) x (aE.cons s (aE.cons i (aE.cons g (aE.nil _))));refine ⟨by simp only[*,go_sem],?_⟩;refine bT ?_;try simp only[*,go_sem]
 refine af hJ (ah hJ ?_);simp only[*,go_sem];revert h;refine jC hJ (by simp only[*,go_sem]) (fun ad h=>?_) fun ad h=>?_
 ·obtain rfl:=sI h;refine ah hJ ?_;simp only[*,go_sem];refine ay ?_;simp only[*,go_sem];exact ⟨_,(j).trans x,Le.sub (List.nil_sublist _),_,_,_,_,_,rfl,⟨aC.nil _ _,aC.nil _ _,aC.nil _ _,aC.nil _ _⟩,aC.nil _ _⟩
 obtain rfl:=sI h;refine aI hJ (af hJ ?_);refine aj hJ ?_;simp only[*,go_sem];refine ay ?_;simp only[*,go_sem];exact ⟨_,(j).trans x,Le.sub (List.nil_sublist _),_,_,_,_,_,rfl,a,M⟩
def qf (a:Int)(i56:Nat)(b:Int)(st:(List bN)):Option (Fl (List bN) ak):=
 ag (cY st ([(⟨b,a⟩:bN)])) fun c=>some (.nx c)
def nE (u0:ak)(a:Int)(b:(List Int)):Option ak:=
 ag (qc u0.props) fun c=>ag (bB (qf a) 0 b c) fun o=>aB o (fun d=>some (⟨u0.bG,u0.bO,u0.aY,u0.av,d,u0.aG,u0.told⟩:ak)) (fun _ _=>none) (fun r=>some r)
theorem GH {ro:Addr->Option Value}(u0:ak){s1 s b c:Value}(g:bK ro u0 s1 s b c)(i:Int)(d:(List Int)){D:Value}(E:aC rI ro D d){r:ak}(h:nE u0 i d=some r):eI Tryz.prog 135 #[bv u0 s1 s b c,.int .i64 i,D] ro (fun v aM=>∃F w1 w2 w3,v=bv r F w1 w2 w3/\bK aM r F w1 w2 w3):=by
 obtain ⟨d31,b4,rfl,b5,U,-⟩:=id E;unfold nE at h;have V:=g.oc;simp only[bE] at V;refine aD.go Tryz.func135 rfl Tryz.ntmps135 Tryz.results135 (by simp) fun main J hJ A W hd hs=>?_;have X:=hs 0;have k1:=hs 1;have Y:=hs 2;clear hs;refine ah hJ ?_;simp only[*,go_sem];refine aA fun k Z ab=>?_;try simp only[au] at ab
 refine aA fun o ad ae=>?_;try simp only[au] at ae
 try simp only[*,go_sem]
 refine af hJ ?_;refine az hJ fun ca=>?_;refine aj hJ ?_;revert h;refine bS fun al ao h=>?_;simp only[*,go_sem];refine dJ hJ (aS:=[]) [(o,bz 115),(k,bl u0 s1 s b c)] [] _ (AR u0.props g.p ao) (fun cb G H u w cd=>?_);simp only[aV] at w;subst u;obtain ⟨d45,ar,rfl,a0⟩:=H.len;refine ⟨⟨ro,(o,bz 115)::(k,bl u0 s1 s b c)::G⟩,Le.refl _,?_⟩;refine aK ?_;try simp only[*,go_sem]
 refine af hJ (af hJ ?_);refine az hJ fun cf=>?_;refine aj hJ ?_;simp only[*,go_sem];refine aN hJ ?_;revert h;refine bS fun a2 j a3=>?_;refine bQ hJ [8,17,18,19,20,21,22,23,24,25,26,27,28,29,30,31] (fun m a4 F'=>∃(i56:Nat) (d51:Option Addr) (f:Nat) (z:List (Nat×Obj)) (a:(List bN)),m=d.length - i56/\i56<=d.length/\bB (qf i) i56 (d.drop i56) a=some a2/\F'=⟨ro,(o,bz 115)::(k,bl u0 s1 (sl d51 a f) b c)::z⟩/\aO ez ro 96 (.slice d51 a.length f) a z/\a.length<=f/\slot a4 17= .int .i64 (i56:Int)) d.length ?_ ?_
 ·refine ⟨0,d45,ar,G,al,(Nat.sub_zero _).symm,Nat.zero_le _,j,rfl,H,a0,?_⟩;simp only[*,go_sem]
 rintro cl cy F' I ⟨i56,d51,f,z,a,rfl,cS,j,rfl,K,c0,da⟩;obtain ⟨a5,a6,a7⟩:=I.pick [1,3,6,15,16] (by decide);simp only[*,go_sem] at a5 a6 a7;clear I W hd X k1 Y;refine ah hJ ?_;simp only[*,go_sem];refine af hJ ?_;rcases Nat.lt_or_ge i56 d.length with a8|L
 ·refine bP hJ (by simp only[*,go_sem]) ?_;refine aI hJ ?_;obtain ⟨q,B⟩:∃x,d[i56]?=some x:=⟨_,List.getElem?_eq_getElem a8⟩
  rw[c8 B] at j;revert j;refine bS fun db h a9=>?_;unfold qf at h;try dsimp only at h
  obtain ⟨dd,ba,bb,bc,M⟩:=E.el _ _ B;obtain rfl:ba=[.int .i64 q]:=bc;cases bb;have bd:=M 0 _ rfl;simp only[go_sem] at bd;clear M B;refine af hJ (aN hJ (af hJ ?_));refine az hJ fun df=>?_;refine aj hJ ?_;simp only[*,go_sem];refine az hJ fun bj=>?_;refine aj hJ ?_;revert h;refine bS fun bk bm h=>?_;obtain rfl:=sI h;obtain ⟨bo,N⟩:=dr bm;simp only[*,go_sem];refine aA fun O br P=>?_;have bs:=aP.cons P bj;try simp only[au] at P
  try simp only[*,go_sem]
  refine ee (r:=ez) (l:=a) (x:=(⟨q,i⟩:bN)) (cs:=#[.int .i64 q,.int .i64 i]) (e2:=96) [(O,.cells #[.int .i64 q,.int .i64 i] 96),(o,bz 115),(k,bl u0 s1 (sl d51 a f) b c)] [] K bs bo rfl (by simp only[*,go_sem]) br rfl rfl kO kO rN rP rfl rO (by decide) (by decide) (fun dk Q C u w dp=>?_);simp only[aV] at w;subst u;rw[<-N] at C;clear N;obtain ⟨d74,b0,rfl,b1⟩:=C.len;refine ⟨⟨ro,(O,.cells #[.int .i64 q,.int .i64 i] 96)::(o,bz 115)::(k,bl u0 s1 (sl d51 a f) b c)::Q⟩,Le.refl _,?_⟩;refine aK ?_;try simp only[*,go_sem]
  have dq:=cq (n:=i56) (by have:=U;omega);refine aj hJ ?_;simp only[*,go_sem];refine ⟨d.length - (i56+1),by omega,_,Le.sub (List.Sublist.cons _ (List.Sublist.refl _)),i56+1,d74,b0,Q,bk,rfl,by omega,a9,rfl,C,b1,?_⟩;simp only[*,go_sem]
 have ds:=Nat.not_lt.2 L;refine bM hJ (by simp only[*,go_sem]) ?_;rw[List.drop_eq_nil_of_le L] at j;obtain rfl:=sI j;clear j;have h:=a3;dsimp only[aB] at h;obtain rfl:=sI h;refine bJ ?_;simp only[go_sem];refine af hJ ?_;refine az hJ fun dt=>?_;refine aj hJ ?_;simp only[*,go_sem];refine az hJ fun R=>?_;obtain ⟨du,S,b2,T,b3⟩:=K.eY [(o,bl u0 s1 (sl d51 a f) b c),(k,bl u0 s1 (sl d51 a f) b c)] [] R (aE.cons ad (aE.cons Z (aE.nil _)));clear R;refine cG hJ b3 ?_;obtain ⟨dv,dC,-⟩:=T.op;replace g:=g.mono S;simp only[bp] at b2;refine ay ?_;simp only[*,go_sem];exact ⟨_,S,Le.sub (List.nil_sublist _),_,_,_,_,rfl,⟨g.e,T,g.y,g.t⟩⟩
def sM (u0:ak)(a:(List Int))(st:((List (List Int))×Int)):Option (Fl ((List (List Int))×Int) (List (List Int))):=
 ag (ef u0 st.2) fun b=>cond (b) (ag (nC a) fun c=>ag (cY c ([st.2])) fun d=>ag (cY st.1 ([d])) fun e=>some (.nx (e,(IntKind.i64.wrap (st.2+1))))) (some (.bk (st.1,st.2)))
def sN (u0:ak)(a:(List Int))(st:((List (List Int))×Int)):Option (Fl ((List (List Int))×Int) (List (List Int))):=
 ag (ef u0 st.2) fun b=>cond (b) (ag (nC a) fun c=>ag (cY c ([st.2])) fun d=>ag (cY st.1 ([d])) fun e=>some (.nx (e,(IntKind.i64.wrap (st.2+1))))) (some (.bk (st.1,st.2)))
def nF (u0:ak)(i47:Nat)(a:(List Int))(st:(List (List Int))):Option (Fl (List (List Int)) (List (List Int))):=
 ag (bf u0.av 0) fun b=>cond (decide (0<(a.length:Int))) (ag (bf a (IntKind.i64.wrap ((a.length:Int) - 1))) fun c=>ag (aR (sM u0 a) fu (st,(IntKind.i64.wrap (c+1)))) fun o=>aB o (fun d=>some (.nx d.1)) (fun _ _=>none) (fun r=>some (.rt r))) (ag (aR (sN u0 a) fu (st,b.aH)) fun o=>aB o (fun e=>some (.nx e.1)) (fun _ _=>none) (fun r=>some (.rt r)))
def nG (u0:ak)(a:(List (List Int))):Option (List (List Int)):=
 ag (bB (nF u0) 0 a ([]:List (List Int))) fun o=>aB o (fun b=>some b) (fun _ _=>none) (fun r=>some r)
theorem AV {ro:Addr->Option Value}(u0:ak){s1 a b c:Value}(j:bK ro u0 s1 a b c)(s:(List (List Int))){bo:Value}(Q:aC (rL rI) ro bo s){r:(List (List Int))}(h:nG u0 s=some r):eI Tryz.prog 100 #[bv u0 s1 a b c,bo] ro (fun v aM=>∃br,v=br/\aC (rL rI) aM br r):=by
 obtain ⟨d3,c4,rfl,ik,il,-⟩:=id j.e;obtain ⟨d31,im,rfl,iv,bs,-⟩:=id Q;unfold nG at h;refine aD.go Tryz.func100 rfl Tryz.ntmps100 Tryz.results100 (by simp) fun main J hJ A fa hd hs=>?_;have fb:=hs 0;have k1:=hs 1;clear hs;refine ah hJ ?_;simp only[*,go_sem];refine aA fun d u fg=>?_;try simp only[au] at fg
 try simp only[*,go_sem]
 refine ah hJ ?_;simp only[*,go_sem];refine af hJ (ah hJ ?_);simp only[*,go_sem];refine aN hJ ?_;revert h;refine bS fun fi F fp=>?_;refine bQ hJ [5,7,8,9,12,13,14,15,16,17,18,19,20,21,22,23,24,25,26,27,28,29,30,31,32,33,34,35,36,37,38,39,40,41,42,43,44,45,46] (fun m w F'=>∃(i47:Nat) (y:Addr->Option Value) (d38:Option Addr) (G:Nat) (K:List (Nat×Obj)) (z:(List (List Int))),m=s.length - i47/\i47<=s.length/\bB (nF u0) i47 (s.drop i47) z=some fi/\F'=⟨y,(d,bl u0 (sl d3 u0.av c4) a b c)::K⟩/\Ext ro y/\aO (rL rI) y 35 (.slice d38 z.length G) z K/\z.length<=G/\slot w 12= .int .i64 (i47:Int)/\slot w 5= .slice d38 z.length G) s.length ?_ ?_
 ·refine ⟨0,ro,none,0,[],([]:List (List Int)),(Nat.sub_zero _).symm,Nat.zero_le _,F,rfl,Ext.refl _,aO.nil _ _ _,Nat.le_refl _,?_⟩;simp only[*,go_sem]
 rintro ix bz F' b0 ⟨i47,y,d38,G,K,z,rfl,j1,F,rfl,L,Z,b1,b2,b3⟩;refine fP hJ fun _ b4=>?_;replace Q:=Q.mono L;replace j:=j.mono L;replace u:=b4.hd;simp only[bp] at b4;obtain ⟨ab,ad,ae⟩:=b0.pick [2,4,10,11] (by decide);simp only[*,go_sem] at ab ad ae;clear b0 fa hd fb k1;refine ah hJ ?_;simp only[*,go_sem];refine af hJ ?_;rcases Nat.lt_or_ge i47 s.length with fr|b5
 ·refine bP hJ (by simp only[*,go_sem]) ?_;refine aI hJ ?_;obtain ⟨R,al⟩:∃x,s[i47]?=some x:=⟨_,List.getElem?_eq_getElem fr⟩
  rw[c8 al] at F;revert F;refine bS fun j2 h ca=>?_;unfold nF at h;try dsimp only at h
  obtain ⟨kh,kj,fs,ft,cb⟩:=Q.el _ _ al;obtain ⟨kk,rfl,t⟩:=ft;obtain ⟨d56,kl,rfl,km,kn,kp⟩:=id t;cases fs;have fv:=cb 0 _ rfl;simp only[go_sem] at fv;clear cb al;refine af hJ (aN hJ (af hJ ?_));refine az hJ fun ks=>?_;refine aj hJ ?_;simp only[*,go_sem];refine af hJ ?_;refine az hJ fun kt=>?_;refine aj hJ ?_;revert h;refine bS fun cd fw h=>?_;obtain ⟨kv,kx,cf⟩:=cH fw;obtain ⟨f,fx,gg,gl,ao⟩:=j.e.el _ _ cf;obtain rfl:fx=cd.cells:=gl;cases gg;have gn:=ao 0 _ rfl;simp only[go_sem] at gn;have gp:=ao 1 _ rfl;simp only[go_sem] at gp;clear ao cf;try simp only[*,go_sem]
  refine af hJ (af hJ ?_);refine az hJ fun ky=>?_;refine aj hJ ?_;simp only[*,go_sem];revert h;refine jC hJ (by simp only[*,go_sem]) (fun gB h=>?_) fun gB h=>?_
  ·refine az hJ fun k0=>?_;refine aj hJ ?_;revert h;refine bS fun cl gC h=>?_;obtain ⟨k2,lb,cy⟩:=cH gC;obtain ⟨lh,gM,gT,gV,cS⟩:=t.el _ _ cy;obtain rfl:gM=[.int .i64 cl]:=gV;cases gT;have g0:=cS 0 _ rfl;simp only[go_sem] at g0;clear cS cy;(try simp only[*,go_sem]);refine af hJ ?_;refine az hJ fun lj=>?_;refine aj hJ ?_;simp only[*,go_sem];refine aN hJ ?_;revert h;refine bS fun g1 S g2=>?_;refine bQ hJ [5,9,33,34,35,36,37,38,39,40,41,42,43,44,45] (fun m w F'=>∃(H:Addr->Option Value) (d75:Option Addr) (M:Nat) (k:List (Nat×Obj)) (B:(List (List Int))) (g:Int),aR (sM u0 R) m (B,g)=some g1/\F'=⟨H,(d,bl u0 (sl (some f) u0.av c4) a b c)::k⟩/\Ext y H/\aO (rL rI) H 35 (.slice d75 B.length M) B k/\B.length<=M/\slot w 5= .slice d75 B.length M/\slot w 9= .int .i64 g) fu ?_ ?_
   ·refine ⟨y,d38,G,K,z,(IntKind.i64.wrap (cl+1)),S,rfl,Ext.refl _,Z,b1,?_⟩;simp only[*,go_sem]
   rintro ar g3 F' a0 ⟨H,d75,M,k,B,g,S,rfl,T,N,g4,lk,ll⟩;refine fP hJ fun _ c0=>?_;replace t:=t.mono T;replace j:=j.mono T;replace u:=c0.hd;simp only[bp] at c0;obtain ⟨ha,hc,hf⟩:=a0.pick [2,4,7,8,10,11,12,13,15,16,17,18,21,22,23,24,25,26,27,28,30,31,32] (by decide);simp only[*,go_sem] at ha hc hf;have ln:cE [5,7,8,9,12,13,14,15,16,17,18,19,20,21,22,23,24,25,26,27,28,29,30,31,32,33,34,35,36,37,38,39,40,41,42,43,44,45,46] g3 bz:=(a0.fK (by decide)).trans (by simp only[*,go_sem]);clear a0 ab ad ae b3 b2;obtain _|ar:=ar
   ·exact absurd S (by simp only[aR,reduceCtorEq,not_false_eq_true])
   revert S;refine bS fun lo h a2=>?_;unfold sM at h;(try dsimp only at h);refine af hJ (af hJ ?_);refine az hJ fun lr=>?_;refine aj hJ ?_;revert h;refine bS fun lv hg h=>?_;simp only[*,go_sem];refine bn hJ _ (r4 u0 (j.mono aT) g hg) ?_;(try simp only[*,go_sem]);revert h;refine jC hJ (by simp only[*,go_sem]) (fun hh h=>?_) fun hh h=>?_
   ·refine aI hJ (af hJ ?_);refine aN hJ ?_;refine az hJ fun lx=>?_;refine aj hJ ?_;revert h;refine bS fun hi hj h=>?_;simp only[*,go_sem];refine dJ hJ (aS:=[]) [(d,bl u0 (sl (some f) u0.av c4) a b c)] k _ (AS R t hj) (fun ly hk da p q hl=>?_);simp only[aV] at q;subst p;obtain ⟨d133,lL,rfl,l1⟩:=da.len;refine ⟨⟨H,(d,bl u0 (sl (some f) u0.av c4) a b c)::(hk++k)⟩,Le.refl _,?_⟩;refine aK ?_;revert h;refine bS fun U hn h=>?_;obtain ⟨ho,db⟩:=dr hn;(try simp only[*,go_sem]);refine aA fun C dd df=>?_;have hp:=aP.cons df hl;try simp only[au] at df
    (try simp only[*,go_sem]);refine ee (r:=rI) (l:=hi) (x:=g) (cs:=#[.int .i64 g]) (e2:=3) [(C,ic g),(d,bl u0 (sl (some f) u0.av c4) a b c)] k da hp ho rfl (by simp only[*,go_sem]) dd rfl rfl fM fM kL kN rfl kM (by decide) (by decide) (fun l2 dk a3 p q dp=>?_);simp only[aV] at q;subst p;rw[<-db] at a3;clear db;obtain ⟨d145,a4,rfl,l3⟩:=a3.len;obtain ⟨a5,V,a6,dq,hq⟩:=a3.eY [(C,ic g),(d,bl u0 (sl (some f) u0.av c4) a b c)] k dp (aE.cons dd (aE.cons u (N.jr)));have hr:=aP.sub (l:=(C,ic g)::(d,bl u0 (sl (some f) u0.av c4) a b c)::k) (l':=(C,ic g)::(d,bl u0 (sl (some f) u0.av c4) a b c)::(dk++k)) [(C,ic g),(d,bl u0 (sl (some f) u0.av c4) a b c)] dk k (by first|rfl|simp only[aV]|(simp only[aV];rfl)) (by first|rfl|simp only[aV]|(simp only[aV];rfl)) dp;refine ⟨⟨a5,(C,ic g)::(d,bl u0 (sl (some f) u0.av c4) a b c)::k⟩,hq,?_⟩;obtain ⟨l4,ma,-⟩:=dq.op;replace t:=t.mono V;replace j:=j.mono V;replace u:=a6.tl.hd;replace N:=N.mono V a6.tl.tl;simp only[bp] at a6;refine aK ?_;revert h;refine bS fun ht hv h=>?_;obtain rfl:=sI h;obtain ⟨hx,ds⟩:=dr hv;(try simp only[*,go_sem]);refine aA fun dt hy du=>?_;have hz:=aP.cons du hr;try simp only[au] at du
    (try simp only[*,go_sem]);refine ee (r:=(rL rI)) (l:=B) (x:=U) (cs:=#[.slice d145 U.length a4]) (e2:=35) [(dt,.cells #[.slice d145 U.length a4] 35),(C,ic g),(d,bl u0 (sl (some f) u0.av c4) a b c)] [] N hz hx ⟨_,rfl,dq⟩ (by simp only[*,go_sem]) hy rfl rfl kP kP rJ rM rfl rK (by decide) (by decide) (fun mf dv a7 p q mi=>?_);simp only[aV] at q;subst p;rw[<-ds] at a7;clear ds;obtain ⟨d165,hA,rfl,hB⟩:=a7.len;refine ⟨⟨a5,(dt,.cells #[.slice d145 U.length a4] 35)::(C,ic g)::(d,bl u0 (sl (some f) u0.av c4) a b c)::dv⟩,Le.refl _,?_⟩;refine aK ?_;(try simp only[*,go_sem]);refine az hJ fun ml=>?_;refine aj hJ ?_;simp only[*,go_sem];refine ⟨ar,Nat.lt_succ_self _,_,Le.sub (List.Sublist.cons _ (List.Sublist.cons _ (List.Sublist.refl _))),a5,d165,hA,dv,ht,(IntKind.i64.wrap (g+1)),a2,rfl,(T.trans V),a7,hB,?_⟩;simp only[*,go_sem]
   obtain rfl:=sI h;refine bJ ?_;simp only[go_sem];obtain rfl:=sI a2;clear a2;have h:=g2;dsimp only[aB] at h;obtain rfl:=sI h;have hD:=cq (n:=i47) (by have:=bs;omega);refine aj hJ ?_;simp only[*,go_sem];refine ⟨s.length - (i47+1),by omega,_,Le.sub (List.Sublist.refl _),i47+1,H,d75,M,k,B,rfl,by omega,ca,rfl,(L.trans T),N,g4,?_⟩;simp only[*,go_sem]
  refine aI hJ (af hJ ?_);refine az hJ fun mn=>?_;refine aj hJ ?_;simp only[*,go_sem];refine aN hJ ?_;revert h;refine bS fun hE W hF=>?_;refine bQ hJ [5,9,33,34,35,36,37,38,39,40,41,42,43,44,45] (fun m w F'=>∃(I:Addr->Option Value) (d172:Option Addr) (O:Nat) (o:List (Nat×Obj)) (D:(List (List Int))) (i:Int),aR (sN u0 R) m (D,i)=some hE/\F'=⟨I,(d,bl u0 (sl (some f) u0.av c4) a b c)::o⟩/\Ext y I/\aO (rL rI) I 35 (.slice d172 D.length O) D o/\D.length<=O/\slot w 5= .slice d172 D.length O/\slot w 9= .int .i64 i) fu ?_ ?_
  ·refine ⟨y,d38,G,K,z,cd.aH,W,rfl,Ext.refl _,Z,b1,?_⟩;simp only[*,go_sem]
  rintro a8 hG F' a9 ⟨I,d172,O,o,D,i,W,rfl,X,P,hI,mr,mx⟩;refine fP hJ fun _ dC=>?_;replace t:=t.mono X;replace j:=j.mono X;replace u:=dC.hd;simp only[bp] at dC;obtain ⟨hK,hL,hM⟩:=a9.pick [2,4,7,8,10,11,12,13,15,16,17,18,21,22,23,24,32] (by decide);simp only[*,go_sem] at hK hL hM;have my:cE [5,7,8,9,12,13,14,15,16,17,18,19,20,21,22,23,24,25,26,27,28,29,30,31,32,33,34,35,36,37,38,39,40,41,42,43,44,45,46] hG bz:=(a9.fK (by decide)).trans (by simp only[*,go_sem]);clear a9 ab ad ae b3 b2;obtain _|a8:=a8
  ·exact absurd W (by simp only[aR,reduceCtorEq,not_false_eq_true])
  revert W;refine bS fun m1 h ba=>?_;unfold sN at h;try dsimp only at h
  refine af hJ (af hJ ?_);refine az hJ fun m2=>?_;refine aj hJ ?_;revert h;refine bS fun na hN h=>?_;simp only[*,go_sem];refine bn hJ _ (r4 u0 (j.mono aT) i hN) ?_;try simp only[*,go_sem]
  revert h;refine jC hJ (by simp only[*,go_sem]) (fun hP h=>?_) fun hP h=>?_
  ·refine aI hJ (af hJ ?_);refine aN hJ ?_;refine az hJ fun nb=>?_;refine aj hJ ?_;revert h;refine bS fun hQ hR h=>?_;simp only[*,go_sem];refine dJ hJ (aS:=[]) [(d,bl u0 (sl (some f) u0.av c4) a b c)] o _ (AS R t hR) (fun nd hS dE p q hT=>?_);simp only[aV] at q;subst p;obtain ⟨d230,nf,rfl,nm⟩:=dE.len;refine ⟨⟨I,(d,bl u0 (sl (some f) u0.av c4) a b c)::(hS++o)⟩,Le.refl _,?_⟩;refine aK ?_;revert h;refine bS fun Y hV h=>?_;obtain ⟨hX,dT⟩:=dr hV;(try simp only[*,go_sem]);refine aA fun E ea eb=>?_;have hY:=aP.cons eb hT;try simp only[au] at eb
   (try simp only[*,go_sem]);refine ee (r:=rI) (l:=hQ) (x:=i) (cs:=#[.int .i64 i]) (e2:=3) [(E,ic i),(d,bl u0 (sl (some f) u0.av c4) a b c)] o dE hY hX rfl (by simp only[*,go_sem]) ea rfl rfl fM fM kL kN rfl kM (by decide) (by decide) (fun nn ec bb p q ed=>?_);simp only[aV] at q;subst p;rw[<-dT] at bb;clear dT;obtain ⟨bc,bd,rfl,np⟩:=bb.len;obtain ⟨bj,eh,bk,et,hZ⟩:=bb.eY [(E,ic i),(d,bl u0 (sl (some f) u0.av c4) a b c)] o ed (aE.cons ea (aE.cons u (P.jr)));have h0:=aP.sub (l:=(E,ic i)::(d,bl u0 (sl (some f) u0.av c4) a b c)::o) (l':=(E,ic i)::(d,bl u0 (sl (some f) u0.av c4) a b c)::(ec++o)) [(E,ic i),(d,bl u0 (sl (some f) u0.av c4) a b c)] ec o (by first|rfl|simp only[aV]|(simp only[aV];rfl)) (by first|rfl|simp only[aV]|(simp only[aV];rfl)) ed;refine ⟨⟨bj,(E,ic i)::(d,bl u0 (sl (some f) u0.av c4) a b c)::o⟩,hZ,?_⟩;obtain ⟨ns,nx,-⟩:=et.op;replace u:=bk.tl.hd;replace P:=P.mono eh bk.tl.tl;simp only[bp] at bk;refine aK ?_;revert h;refine bS fun h1 h2 h=>?_;obtain rfl:=sI h;obtain ⟨h3,ev⟩:=dr h2;(try simp only[*,go_sem]);refine aA fun eQ h4 eS=>?_;have h5:=aP.cons eS h0;try simp only[au] at eS
   (try simp only[*,go_sem]);refine ee (r:=(rL rI)) (l:=D) (x:=Y) (cs:=#[.slice bc Y.length bd]) (e2:=35) [(eQ,.cells #[.slice bc Y.length bd] 35),(E,ic i),(d,bl u0 (sl (some f) u0.av c4) a b c)] [] P h5 h3 ⟨_,rfl,et⟩ (by simp only[*,go_sem]) h4 rfl rfl kP kP rJ rM rfl rK (by decide) (by decide) (fun nz e0 bm p q nA=>?_);simp only[aV] at q;subst p;rw[<-ev] at bm;clear ev;obtain ⟨h6,h7,rfl,h8⟩:=bm.len;refine ⟨⟨bj,(eQ,.cells #[.slice bc Y.length bd] 35)::(E,ic i)::(d,bl u0 (sl (some f) u0.av c4) a b c)::e0⟩,Le.refl _,?_⟩;refine aK ?_;(try simp only[*,go_sem]);refine az hJ fun nH=>?_;refine aj hJ ?_;simp only[*,go_sem];refine ⟨a8,Nat.lt_succ_self _,_,Le.sub (List.Sublist.cons _ (List.Sublist.cons _ (List.Sublist.refl _))),bj,h6,h7,e0,h1,(IntKind.i64.wrap (i+1)),ba,rfl,(X.trans eh),bm,h8,?_⟩;simp only[*,go_sem]
  obtain rfl:=sI h;refine bJ ?_;simp only[go_sem];obtain rfl:=sI ba;clear ba;have h:=hF;dsimp only[aB] at h;obtain rfl:=sI h;have hD:=cq (n:=i47) (by have:=bs;omega);refine aj hJ ?_;simp only[*,go_sem];refine ⟨s.length - (i47+1),by omega,_,Le.sub (List.Sublist.refl _),i47+1,I,d172,O,o,D,rfl,by omega,ca,rfl,(L.trans X),P,hI,?_⟩;simp only[*,go_sem]
 have nI:=Nat.not_lt.2 b5;refine bM hJ (by simp only[*,go_sem]) ?_;rw[List.drop_eq_nil_of_le b5] at F;obtain rfl:=sI F;clear F;have h:=fp;dsimp only[aB] at h;obtain rfl:=sI h;refine bJ ?_;simp only[go_sem];refine af hJ ?_;refine az hJ fun nK=>?_;refine aj hJ ?_;simp only[*,go_sem];refine az hJ fun e1=>?_;obtain ⟨nQ,h9,ib,e3,ih⟩:=Z.eY [(d,bl u0 (sl d3 u0.av c4) a b c)] [] e1 (aE.cons u (aE.nil _));clear e1;refine cG hJ ih ?_;obtain ⟨nR,nT,-⟩:=e3.op;simp only[bp] at ib;refine ay ?_;simp only[*,go_sem];exact ⟨_,(L).trans h9,Le.sub (List.nil_sublist _),_,rfl,e3⟩
def nJ (u0:Int):Option Bool:=
 some (u0 != u0)
theorem sO {ro:Addr->Option Value}(u0:Int){r:Bool}(h:nJ u0=some r):aD Tryz.prog 172 #[.int .i64 u0] ⟨ro,[]⟩ (fun v _=>v= .bool r):=by
 unfold nJ at h;obtain rfl:=sI h;refine aD.go Tryz.func172 rfl Tryz.ntmps172 Tryz.results172 (by simp) fun main J hJ A a hd hs=>?_;have b:=hs 0;clear hs;refine ah hJ ?_;simp only[*,go_sem];refine ah hJ ?_;simp only[*,go_sem];refine ay ?_;simp only[*,go_sem]
def iq (u0:Int)(a:Int):Option Bool:=
 ag (nJ u0) fun b=>cond (b) (ag (nJ a) fun c=>cond (!c) (some true) (some (decide (u0<a)))) (some (decide (u0<a)))
theorem jz {ro:Addr->Option Value}(u0:Int)(a:Int){r:Bool}(h:iq u0 a=some r):aD Tryz.prog 183 #[.int .i64 u0,.int .i64 a] ⟨ro,[]⟩ (fun v _=>v= .bool r):=by
 unfold iq at h;refine aD.go Tryz.func183 rfl Tryz.ntmps183 Tryz.results183 (by simp) fun main J hJ A f hd hs=>?_;have g:=hs 0;have k1:=hs 1;clear hs;refine ah hJ ?_;simp only[*,go_sem];refine ah hJ ?_;revert h;refine bS fun i b h=>?_;simp only[*,go_sem];refine bn hJ _ (sO u0 b) (aK ?_);revert h;refine cS (fun c h=>?_) fun c h=>?_
 ·revert h;refine bS fun j d h=>?_;try simp only[*,go_sem]
  refine bn hJ _ (sO a d) (aK ?_);revert h;refine cS (fun e h=>?_) fun e h=>?_
  ·obtain rfl:=sI h;(try simp only[*,go_sem]);refine ay ?_;simp only[*,go_sem]
  obtain rfl:=sI h;try simp only[*,go_sem]
  refine ay ?_;simp only[*,go_sem]
 obtain rfl:=sI h;try simp only[*,go_sem]
 refine ay ?_;simp only[*,go_sem]
def v5 (c:Int)(st:(Int×(List Int))):Option (Fl (Int×(List Int)) (Unit×(List Int))):=
 cond (decide (c<st.1)) (ag (bf st.2 st.1) fun b=>ag (bf st.2 (IntKind.i64.wrap (st.1 - 1))) fun a=>ag (iq b a) fun d=>cond (d) (ag (bf (st.2.set (st.1).toNat a) (IntKind.i64.wrap (st.1 - 1))) fun e=>some (.nx ((IntKind.i64.wrap (st.1 - 1)),((st.2.set (st.1).toNat a).set (IntKind.i64.wrap (st.1 - 1)).toNat b)))) (some (.bk (st.1,st.2)))) (some (.bk (st.1,st.2)))
def v7 (a:Int)(b:Int)(st:(Int×(List Int))):Option (Fl (Int×(List Int)) (Unit×(List Int))):=
 cond (decide (st.1<b)) (ag (aR (v5 a) fu (st.1,st.2)) fun o=>aB o (fun c=>some (.nx ((IntKind.i64.wrap (st.1+1)),c.2))) (fun _ _=>none) (fun r=>some (.rt r))) (some (.bk (st.1,st.2)))
def sP (u0:(List Int))(a:Int)(b:Int):Option (Unit×(List Int)):=
 cond (List.isEmpty u0) none (ag (aR (v7 a b) fu ((IntKind.i64.wrap (a+1)),u0)) fun o=>aB o (fun c=>some ((),c.2)) (fun _ _=>none) (fun r=>some r))
theorem AW {ro:Addr->Option Value}(u0:(List Int)){w:Value}{I:List (Nat×Obj)}(x:aO rI ro 3 w u0 I)(k:Int)(z:Int){r:(Unit×(List Int))}(h:sP u0 k z=some r):aD Tryz.prog 177 #[w,.int .i64 k,.int .i64 z] ⟨ro,I⟩ (fun v G=>∃K,(v= .tuple #[]/\aO rI ro 3 w r.2 K)/\Le ⟨ro,K⟩ G):=by
 obtain ⟨d1,c2,rfl,b3⟩:=x.len;unfold sP at h;revert h;refine cS (fun L h=>?_) fun L h=>?_
 ·cases h
 obtain ⟨b,Z,rfl,rfl,b4⟩:=x.ig L;refine aD.go Tryz.func177 rfl Tryz.ntmps177 Tryz.results177 (by simp) fun main J hJ A ab hd hs=>?_;have ad:=hs 0;have k1:=hs 1;have ae:=hs 2;clear hs;refine af hJ ?_;refine az hJ fun b5=>?_;refine aj hJ ?_;simp only[*,go_sem];refine aN hJ ?_;revert h;refine bS fun al n ao=>?_;refine bQ hJ [6,7,10,11,12,13,14,15,16,17,18,19,20,21,22,23,24,25,26,27,28,29,30,31,32,33,34,35,36,37,38,39,40,41,42,43,44,45,46,47,48] (fun m B F'=>∃(p:Array Value) (j:Int) (q:(List Int)),aR (v7 k z) m (j,q)=some al/\F'=⟨ro,[(b,Obj.cells p 3)]⟩/\aO rI ro 3 (.slice (some ⟨b,0,none⟩) u0.length c2) q [(b,Obj.cells p 3)]/\slot B 6= .int .i64 j) fu ?_ ?_
 ·refine ⟨Z,(IntKind.i64.wrap (k+1)),u0,n,rfl,x,?_⟩;simp only[*,go_sem]
 rintro s ar F' M ⟨p,j,q,n,rfl,N,a0⟩;obtain ⟨O,P,Q⟩:=M.pick [0,1,2] (by decide);simp only[*,go_sem] at O P Q;clear M ab hd ad k1 ae;obtain _|s:=s
 ·exact absurd n (by simp only[aR,reduceCtorEq,not_false_eq_true])
 revert n;refine bS fun ca h t=>?_;unfold v7 at h;try dsimp only at h
 refine af hJ (af hJ ?_);refine az hJ fun cb=>?_;refine aj hJ ?_;simp only[*,go_sem];revert h;refine jC hJ (by simp only[*,go_sem]) (fun a2 h=>?_) fun a2 h=>?_
 ·refine aI hJ (af hJ ?_);refine aN hJ (af hJ ?_);refine az hJ fun cd=>?_;refine aj hJ ?_;simp only[*,go_sem];refine aN hJ ?_;revert h;refine bS fun a3 u R=>?_;refine bQ hJ [7,16,17,18,19,20,21,22,23,24,25,26,27,28,29,30,31,32,33,34,35,36,37,38,39,40,41,42,43,44,45,46,47,48] (fun m B F'=>∃(d:Array Value) (a:Int) (e:(List Int)),aR (v5 k) m (a,e)=some a3/\F'=⟨ro,[(b,Obj.cells d 3)]⟩/\aO rI ro 3 (.slice (some ⟨b,0,none⟩) u0.length c2) e [(b,Obj.cells d 3)]/\slot B 7= .int .i64 a) fu ?_ ?_
  ·refine ⟨p,j,q,u,rfl,N,?_⟩;simp only[*,go_sem]
  rintro C a4 F' D ⟨d,a,e,u,rfl,g,cf⟩;obtain ⟨a5,a6,a7⟩:=D.pick [0,1,2,6,10,11,12,15] (by decide);simp only[*,go_sem] at a5 a6 a7;have cl:cE [6,7,10,11,12,13,14,15,16,17,18,19,20,21,22,23,24,25,26,27,28,29,30,31,32,33,34,35,36,37,38,39,40,41,42,43,44,45,46,47,48] a4 ar:=(D.fK (by decide)).trans (by simp only[*,go_sem]);clear D O P Q a0;obtain _|C:=C
  ·exact absurd u (by simp only[aR,reduceCtorEq,not_false_eq_true])
  revert u;refine bS fun cy h l=>?_;unfold v5 at h;try dsimp only at h
  refine af hJ (af hJ ?_);refine az hJ fun c0=>?_;refine cQ hJ mixed 15 1 (by simp only[*,go_sem]) (by kernel_rfl) ?_;revert h;refine cS (fun a8 h=>?_) fun a8 h=>?_
  ·revert h;refine bS fun f a9 h=>?_;obtain ⟨da,db,S⟩:=cH a9;have dd:a<((u0.length:Nat):Int):=by have:=g.count;omega
   obtain ⟨ba,bb,bc⟩:=g.iQ S;obtain rfl:ba=[.int .i64 f]:=bb;have T:=bc 0 _ rfl;simp only[go_sem] at T;have df:=(Array.getElem?_eq_some_iff.1 T).1;revert h;refine bS fun c bd h=>?_;obtain ⟨dk,dp,bj⟩:=cH bd;have dq:IntKind.i64.wrap (a - 1)<((u0.length:Nat):Int):=by have:=g.count;omega
   obtain ⟨bk,bl,bm⟩:=g.iQ bj;obtain rfl:bk=[.int .i64 c]:=bl;have U:=bm 0 _ rfl;simp only[go_sem] at U;have ds:=(Array.getElem?_eq_some_iff.1 U).1;revert h;refine bS fun dt bo h=>?_;(try simp only[*,go_sem]);refine ⟨_,bD hJ fun F du=>jz f c bo,b9 ?_⟩;(try simp only[*,go_sem]);revert h;refine jC hJ (by simp only[*,go_sem]) (fun br h=>?_) fun br h=>?_
   ·refine aI hJ (af hJ ?_);refine aN hJ ?_;refine az hJ fun dv=>?_;refine eE hJ mixed [15,16,17] (.pure 0 (.pure 1 (.pure 2 (.pure 3 (.pure 4 (.pure 5 (.pure 6 (.pure 7 (.pure 8 (.rd 9 (.pure 10 (.pure 11 (.pure 12 (.rd 13 (.pure 14 (.last 15 (.pure 16 (.last 17 .done)))))))))))))))))) ⟨ro,[(b,Obj.cells d 3)]⟩ (by simp only[*,go_sem]) (by kernel_rfl) ?_;have E:aO rI ro 3 (.slice (some ⟨b,0,none⟩) u0.length c2) (e.set (a).toNat c) [(b,Obj.cells (cI d (a).toNat [.int .i64 c]) 3)]:=by have hh:=g.rT (i:=(a).toNat) (y:=c) (by have:=S;have:=(List.getElem?_eq_some_iff.1 this).1;simpa only[List.length_set] using this) (cs:=[.int .i64 c]) rfl;simpa only[rX,vJ,Nat.mul_one,Nat.add_zero] using hh
    revert h;refine bS fun bs bz h=>?_;obtain rfl:=sI h;obtain ⟨dC,dE,V⟩:=cH bz;have dT:IntKind.i64.wrap (a - 1)<((u0.length:Nat):Int):=by have:=E.count;omega
    obtain ⟨b0,b1,b2⟩:=E.iQ V;obtain rfl:b0=[.int .i64 bs]:=b1;have W:=b2 0 _ rfl;simp only[go_sem] at W;have ea:=(Array.getElem?_eq_some_iff.1 W).1;have X:aO rI ro 3 (.slice (some ⟨b,0,none⟩) u0.length c2) ((e.set (a).toNat c).set (IntKind.i64.wrap (a - 1)).toNat f) [(b,Obj.cells (cI (cI d (a).toNat [.int .i64 c]) (IntKind.i64.wrap (a - 1)).toNat [.int .i64 f]) 3)]:=by have hh:=E.rT (i:=(IntKind.i64.wrap (a - 1)).toNat) (y:=f) (by have:=V;have:=(List.getElem?_eq_some_iff.1 this).1;simpa only[List.length_set] using this) (cs:=[.int .i64 f]) rfl;simpa only[rX,vJ,Nat.mul_one,Nat.add_zero] using hh
    (try simp only[*,go_sem]);obtain ⟨Y,H⟩:∃o,o=(cI (cI d (a).toNat [.int .i64 c]) (IntKind.i64.wrap (a - 1)).toNat [.int .i64 f]):=⟨_,rfl⟩
    refine cG (F:=⟨ro,[(b,Obj.cells Y 3)]⟩) hJ (by rw[H];exact Le.refl _) ?_;rw[<-H] at X;clear H;refine az hJ fun eb=>?_;refine aj hJ ?_;simp only[*,go_sem];refine ⟨C,Nat.lt_succ_self _,_,Le.sub (List.Sublist.refl _),Y,(IntKind.i64.wrap (a - 1)),((e.set (a).toNat c).set (IntKind.i64.wrap (a - 1)).toNat f),l,rfl,X,?_⟩;simp only[*,go_sem]
   obtain rfl:=sI h;refine bJ ?_;simp only[go_sem];obtain rfl:=sI l;clear l;have h:=R;dsimp only[aB] at h;obtain rfl:=sI h;refine az hJ fun ec=>?_;refine aj hJ ?_;simp only[*,go_sem];refine ⟨s,Nat.lt_succ_self _,_,Le.sub (List.Sublist.refl _),d,(IntKind.i64.wrap (j+1)),e,t,rfl,g,?_⟩;simp only[*,go_sem]
  obtain rfl:=sI h;try simp only[*,go_sem]
  refine bM hJ (by simp only[*,go_sem]) ?_;refine bJ ?_;simp only[go_sem];obtain rfl:=sI l;clear l;have h:=R;dsimp only[aB] at h;obtain rfl:=sI h;refine az hJ fun ed=>?_;refine aj hJ ?_;simp only[*,go_sem];refine ⟨s,Nat.lt_succ_self _,_,Le.sub (List.Sublist.refl _),d,(IntKind.i64.wrap (j+1)),e,t,rfl,g,?_⟩;simp only[*,go_sem]
 obtain rfl:=sI h;refine bJ ?_;simp only[go_sem];obtain rfl:=sI t;clear t;have h:=ao;dsimp only[aB] at h;obtain rfl:=sI h;simp only[*,go_sem];exact ⟨_,N,Le.sub (List.Sublist.refl _)⟩
def v8 (u0:(List Int))(st:(Int×Int×Int×Bool×Bool)):Option (Fl (Int×Int×Int×Bool×Bool) (Unit×(List Int))):=
 cond (decide ((IntKind.i64.wrap (st.2.1 - st.1))<=12)) (ag (sP u0 st.1 st.2.1) fun a=>some (.rt ((),a.2))) (none)
def sQ (u0:(List Int))(a:Int)(b:Int)(c:Int):Option (Unit×(List Int)):=
 cond (List.isEmpty u0) none (ag (aR (v8 u0) fu (a,b,c,true,true)) fun o=>aB o (fun d=>some ((),u0)) (fun _ _=>none) (fun r=>some r))
theorem AX {ro:Addr->Option Value}(u0:(List Int)){f:Value}{p:List (Nat×Obj)}(g:aO rI ro 3 f u0 p)(i:Int)(j:Int)(k:Int){r:(Unit×(List Int))}(h:sQ u0 i j k=some r):aD Tryz.prog 148 #[f,.int .i64 i,.int .i64 j,.int .i64 k] ⟨ro,p⟩ (fun v G=>∃b,(v= .tuple #[]/\aO rI ro 3 f r.2 b)/\Le ⟨ro,b⟩ G):=by
 obtain ⟨d1,c2,rfl,Q⟩:=g.len;unfold sQ at h;revert h;refine cS (fun q h=>?_) fun q h=>?_
 ·cases h
 obtain ⟨s,y,rfl,rfl,R⟩:=g.ig q;refine aD.go Tryz.func148 rfl Tryz.ntmps148 Tryz.results148 (by simp) fun main J hJ A z hd hs=>?_;have B:=hs 0;have k1:=hs 1;have C:=hs 2;have D:=hs 3;clear hs;refine af hJ ?_;refine az hJ fun S=>?_;refine aj hJ ?_;simp only[*,go_sem];refine af hJ ?_;refine az hJ fun T=>?_;refine aj hJ ?_;simp only[*,go_sem];refine aN hJ ?_;revert h;refine bS fun E c F=>?_;refine bQ hJ [1,2,3,8,9,10,11,12,13,14,15,16,17,18,19,20,21,22,23,24,25,26,27,28,29,30,31,32,33,34,35,36,37,38,39,40,41,42,43,44,45,46,47,48,49,50,51,52,53,54,55,56,57,58,59,60,61,62,63,64,65,66,67,68,69,70,71,72,73,74,75,76,77,78,79,80,81,82,83,84,85,86,87,88,89,90,91,92,93,94,95,96,97,98,99,100,101,102,103,104,105,106,107,108,109,110,111,112,113,114,115,116,117,118,119,120,121,122,123,124,125,126,127,128,129,130,131,132,133] (fun m a F'=>∃(d:Int) (e:Int) (l:Int) (n:Bool) (o:Bool),aR (v8 u0) m (d,e,l,n,o)=some E/\F'=⟨ro,[(s,Obj.cells y 3)]⟩/\slot a 1= .int .i64 d/\slot a 2= .int .i64 e/\slot a 3= .int .i64 l/\slot a 8= .bool n/\slot a 9= .bool o) fu ?_ ?_
 ·refine ⟨i,j,k,true,true,c,rfl,?_⟩;simp only[*,go_sem]
 rintro t U F' u ⟨d,e,l,n,o,c,rfl,V,W,X,Y,Z⟩;obtain ⟨H,I,K⟩:=u.pick [0] (by decide);simp only[*,go_sem] at H I K;clear u z hd B k1 C D;obtain _|t:=t
 ·exact absurd c (by simp only[aR,reduceCtorEq,not_false_eq_true])
 revert c;refine bS fun ab h w=>?_;unfold v8 at h;try dsimp only at h
 refine aN hJ (af hJ ?_);refine az hJ fun ad=>?_;refine aj hJ ?_;simp only[*,go_sem];refine af hJ (af hJ ?_);refine az hJ fun ae=>?_;refine aj hJ ?_;simp only[*,go_sem];revert h;refine jC hJ (by simp only[*,go_sem]) (fun L h=>?_) fun L h=>?_
 ·refine af hJ ?_;refine az hJ fun al=>?_;refine aj hJ ?_;revert h;refine bS fun ao M h=>?_;obtain rfl:=sI h;simp only[*,go_sem];refine dJ hJ [] [] _ (AW u0 g d e M) (fun ar a0 N b O a2=>?_);obtain ⟨rfl,x⟩:=N;obtain ⟨P,rfl⟩:=x.gz;simp only[aV] at O;subst b;refine ⟨⟨ro,[(s,Obj.cells P 3)]⟩,Le.refl _,?_⟩;try simp only[*,go_sem]
  obtain rfl:=sI w;clear w;have h:=F;dsimp only[aB] at h;obtain rfl:=sI h;refine ay ?_;simp only[*,go_sem];exact ⟨_,x,Le.sub (List.Sublist.refl _)⟩
 cases h
def qg (u0:(List Int))(a:Int)(b:Int)(c:Int):Option (((Int×Int)×(List Int))×Int):=
 cond (List.isEmpty u0) none (ag (bf u0 b) fun d=>ag (bf u0 a) fun e=>ag (iq d e) fun f=>cond (f) (some (((b,a),u0),IntKind.i64.wrap (c+1))) (some (((a,b),u0),c)))
theorem v9 {ro:Addr->Option Value}(u0:(List Int)){c:Value}{f:List (Nat×Obj)}(a:aO rI ro 3 c u0 f)(d:Int)(e:Int)(g:Int){b:Nat}(I:∀off sp,ro ⟨b,off,sp⟩=none){r:(((Int×Int)×(List Int))×Int)}(h:qg u0 d e g=some r):aD Tryz.prog 212 #[c,.int .i64 d,.int .i64 e,.pointer (some ⟨b,0,none⟩)] ⟨ro,(b,ic g)::f⟩ (fun v G=>∃i,(∃j,i=(b,ic r.2)::j/\v= .tuple #[.int .i64 r.1.1.1,.int .i64 r.1.1.2]/\aO rI ro 3 c r.1.2 j)/\Le ⟨ro,i⟩ G):=by
 obtain ⟨d1,c2,rfl,K⟩:=a.len;unfold qg at h;revert h;refine cS (fun k h=>?_) fun k h=>?_
 ·cases h
 obtain ⟨L,M,rfl,rfl,N⟩:=a.ig k;refine aD.go Tryz.func212 rfl Tryz.ntmps212 Tryz.results212 (by simp) fun main J hJ A O hd hs=>?_;have P:=hs 0;have k1:=hs 1;have Q:=hs 2;have R:=hs 3;clear hs;refine az hJ fun p=>?_;have q:=p.nd;simp only[keys,List.map_cons,List.map_nil,List.map_append,List.cons_append,List.nil_append,List.nodup_cons,List.mem_cons,List.mem_append,List.not_mem_nil,or_false,not_or] at q;refine af hJ ?_;refine az hJ fun S=>?_;refine aj hJ ?_;simp only[*,go_sem];refine af hJ (af hJ ?_);refine az hJ fun T=>?_;refine cQ hJ mixed 9 2 (by simp only[*,go_sem]) (by kernel_rfl) ?_;revert h;refine bS fun l s h=>?_;obtain ⟨U,V,t⟩:=cH s;have W:e<((u0.length:Nat):Int):=by have:=a.count;omega
 obtain ⟨u,w,x⟩:=a.iQ t;obtain rfl:u=[.int .i64 l]:=w;have m:=x 0 _ rfl;simp only[go_sem] at m;have X:=(Array.getElem?_eq_some_iff.1 m).1;revert h;refine bS fun n y h=>?_;obtain ⟨Y,Z,z⟩:=cH y;have ab:d<((u0.length:Nat):Int):=by have:=a.count;omega
 obtain ⟨B,C,D⟩:=a.iQ z;obtain rfl:B=[.int .i64 n]:=C;have o:=D 0 _ rfl;simp only[go_sem] at o;have ad:=(Array.getElem?_eq_some_iff.1 o).1;revert h;refine bS fun ae E h=>?_;try simp only[*,go_sem]
 refine ⟨_,bD hJ fun F al=>jz l n E,?_⟩;try simp only[*,go_sem]
 revert h;refine jC hJ (by simp only[*,go_sem]) (fun H h=>?_) fun H h=>?_
 ·obtain rfl:=sI h;refine af hJ ?_;refine az hJ fun ao=>?_;refine aj hJ ?_;simp only[*,go_sem];refine af hJ ?_;refine az hJ fun ar=>?_;refine aj hJ ?_;simp only[*,go_sem];refine ay ?_;simp only[*,go_sem];exact ⟨_,⟨_,rfl,a⟩,Le.sub (List.Sublist.refl _)⟩
 obtain rfl:=sI h;refine aI hJ (af hJ ?_);refine az hJ fun a0=>?_;refine aj hJ ?_;simp only[*,go_sem];refine ay ?_;simp only[*,go_sem];exact ⟨_,⟨_,rfl,a⟩,Le.sub (List.Sublist.refl _)⟩
def we (u0:(List Int))(d:Int)(e:Int)(f:Int)(g:Int):Option ((Int×(List Int))×Int):=
 cond (List.isEmpty u0) none (ag (qg u0 d e g) fun a=>ag (qg a.1.2 a.1.1.2 f a.2) fun b=>ag (qg b.1.2 a.1.1.1 b.1.1.1 b.2) fun c=>some ((c.1.1.2,c.1.2),c.2))
theorem GI {ro:Addr->Option Value}(u0:(List Int)){g:Value}{p:List (Nat×Obj)}(i:aO rI ro 3 g u0 p)(j:Int)(k:Int)(l:Int)(m:Int){b:Nat}(n:∀off sp,ro ⟨b,off,sp⟩=none){r:((Int×(List Int))×Int)}(h:we u0 j k l m=some r):aD Tryz.prog 204 #[g,.int .i64 j,.int .i64 k,.int .i64 l,.pointer (some ⟨b,0,none⟩)] ⟨ro,(b,ic m)::p⟩ (fun v G=>∃a,(∃q,a=(b,ic r.2)::q/\v= .int .i64 r.1.1/\aO rI ro 3 g r.1.2 q)/\Le ⟨ro,a⟩ G):=by
 obtain ⟨d1,c2,rfl,S⟩:=i.len;unfold we at h;revert h;refine cS (fun s h=>?_) fun s h=>?_
 ·cases h
 obtain ⟨o,T,rfl,rfl,U⟩:=i.ig s;refine aD.go Tryz.func204 rfl Tryz.ntmps204 Tryz.results204 (by simp) fun main J hJ A y hd hs=>?_;have z:=hs 0;have k1:=hs 1;have B:=hs 2;have C:=hs 3;have D:=hs 4;clear hs;refine az hJ fun E=>?_;have F:=E.nd;simp only[keys,List.map_cons,List.map_nil,List.map_append,List.cons_append,List.nil_append,List.nodup_cons,List.mem_cons,List.mem_append,List.not_mem_nil,or_false,not_or] at F;refine af hJ ?_;refine az hJ fun V=>?_;refine aj hJ ?_;simp only[*,go_sem];refine af hJ ?_;refine az hJ fun W=>?_;refine aj hJ ?_;revert h;refine bS fun c H h=>?_;simp only[*,go_sem];refine dJ hJ [] [] _ (v9 u0 i j k m n H) (fun X t d a e Y=>?_);obtain ⟨Z,rfl,rfl,u⟩:=d;obtain ⟨I,rfl⟩:=u.gz;simp only[aV] at e;subst a;refine ⟨⟨ro,(b,ic c.2)::[(o,Obj.cells I 3)]⟩,Le.refl _,?_⟩;refine aK ?_;try simp only[*,go_sem]
 refine af hJ ?_;refine az hJ fun ab=>?_;refine aj hJ ?_;revert h;refine bS fun f K h=>?_;simp only[*,go_sem];refine dJ hJ [] [] _ (v9 c.1.2 u c.1.1.2 l c.2 n K) (fun ad t d a e ae=>?_);obtain ⟨al,rfl,rfl,w⟩:=d;obtain ⟨L,rfl⟩:=w.gz;simp only[aV] at e;subst a;refine ⟨⟨ro,(b,ic f.2)::[(o,Obj.cells L 3)]⟩,Le.refl _,?_⟩;refine aK ?_;try simp only[*,go_sem]
 refine af hJ ?_;refine az hJ fun ao=>?_;refine aj hJ ?_;revert h;refine bS fun M N h=>?_;obtain rfl:=sI h;simp only[*,go_sem];refine dJ hJ [] [] _ (v9 f.1.2 w c.1.1.1 f.1.1.1 f.2 n N) (fun ar t d a e a0=>?_);obtain ⟨a2,rfl,rfl,x⟩:=d;obtain ⟨O,rfl⟩:=x.gz;simp only[aV] at e;subst a;refine ⟨⟨ro,(b,ic M.2)::[(o,Obj.cells O 3)]⟩,Le.refl _,?_⟩;refine aK ?_;try simp only[*,go_sem]
 refine af hJ ?_;refine ff [0,2,10,12,20,28] fun a3 P Q R=>?_;simp only[*,go_sem] at P Q R;clear y hd z k1 B C D;refine az hJ fun a4=>?_;refine aj hJ ?_;simp only[*,go_sem];refine ay ?_;simp only[*,go_sem];exact ⟨_,⟨_,rfl,x⟩,Le.sub (List.Sublist.refl _)⟩
def wh (u0:(List Int))(b:Int)(d:Int):Option ((Int×Int)×(List Int)):=
 cond (List.isEmpty u0) none (ag (fD (IntKind.i64.wrap (d - b)) 4) fun c=>cond (decide (8<=(IntKind.i64.wrap (d - b)))) (cond (decide (50<=(IntKind.i64.wrap (d - b)))) (none) (ag (we u0 (IntKind.i64.wrap (b+(IntKind.i64.wrap (c*1)))) (IntKind.i64.wrap (b+(IntKind.i64.wrap (c*2)))) (IntKind.i64.wrap (b+(IntKind.i64.wrap (c*3)))) 0) fun a=>cond ((a.2==0)) (some ((a.1.1,1),a.1.2)) (cond ((a.2==12)) (some ((a.1.1,2),a.1.2)) (some ((a.1.1,0),a.1.2))))) (some ((IntKind.i64.wrap (b+(IntKind.i64.wrap (c*2))),1),u0)))
theorem GJ {ro:Addr->Option Value}(u0:(List Int)){e:Value}{g:List (Nat×Obj)}(b:aO rI ro 3 e u0 g)(a:Int)(i:Int){r:((Int×Int)×(List Int))}(h:wh u0 a i=some r):aD Tryz.prog 180 #[e,.int .i64 a,.int .i64 i] ⟨ro,g⟩ (fun v G=>∃c,(v= .tuple #[.int .i64 r.1.1,.int .i64 r.1.2]/\aO rI ro 3 e r.2 c)/\Le ⟨ro,c⟩ G):=by
 obtain ⟨d1,c2,rfl,N⟩:=b.len;unfold wh at h;revert h;refine cS (fun j h=>?_) fun j h=>?_
 ·cases h
 obtain ⟨p,O,rfl,rfl,P⟩:=b.ig j;refine aD.go Tryz.func180 rfl Tryz.ntmps180 Tryz.results180 (by simp) fun main J hJ A k hd hs=>?_;have l:=hs 0;have k1:=hs 1;have m:=hs 2;clear hs;refine af hJ ?_;refine az hJ fun Q=>?_;refine aj hJ ?_;simp only[*,go_sem];refine af hJ ?_;refine az hJ fun R=>?_;refine aj hJ ?_;simp only[*,go_sem];refine af hJ ?_;refine az hJ fun q=>?_;refine aj hJ ?_;simp only[*,go_sem];refine aA fun s t n=>?_;have S:=aP.cons n q;try simp only[au] at n
 try simp only[*,go_sem]
 refine af hJ ?_;refine az hJ fun T=>?_;refine aj hJ ?_;revert h;refine bS fun f o h=>?_;obtain ⟨U,V⟩:=jT o;clear o;try simp only[*,go_sem]
 refine af hJ ?_;refine az hJ fun W=>?_;refine aj hJ ?_;simp only[*,go_sem];refine af hJ ?_;refine az hJ fun X=>?_;refine aj hJ ?_;simp only[*,go_sem];refine af hJ (af hJ ?_);refine az hJ fun Y=>?_;refine aj hJ ?_;simp only[*,go_sem];revert h;refine jC hJ (by simp only[*,go_sem]) (fun u h=>?_) fun u h=>?_
 ·refine af hJ (af hJ ?_);refine az hJ fun Z=>?_;refine aj hJ ?_;simp only[*,go_sem];revert h;refine jC hJ (by simp only[*,go_sem]) (fun w h=>?_) fun w h=>?_
  ·cases h
  refine aI hJ ?_;refine az hJ fun ab=>?_;refine aj hJ ?_;revert h;refine bS fun x y h=>?_;simp only[*,go_sem];refine dJ hJ [] [] _ (GI u0 b (IntKind.i64.wrap (a+(IntKind.i64.wrap (f*1)))) (IntKind.i64.wrap (a+(IntKind.i64.wrap (f*2)))) (IntKind.i64.wrap (a+(IntKind.i64.wrap (f*3)))) 0 t y) (fun ad ae z c B al=>?_);obtain ⟨ao,rfl,rfl,d⟩:=z;obtain ⟨C,rfl⟩:=d.gz;simp only[aV] at B;subst c;refine ⟨⟨ro,(s,ic x.2)::[(p,Obj.cells C 3)]⟩,Le.refl _,?_⟩;refine aK ?_;try simp only[*,go_sem]
  refine af hJ ?_;refine ff [0,6,7,9,11,44] fun ar D E F=>?_;simp only[*,go_sem] at D E F;clear k hd l k1 m;refine az hJ fun a0=>?_;refine aj hJ ?_;simp only[*,go_sem];refine aN hJ (af hJ ?_);refine az hJ fun a2=>?_;refine aj hJ ?_;simp only[*,go_sem];revert h;refine jC hJ (by simp only[*,go_sem]) (fun H h=>?_) fun H h=>?_
  ·obtain rfl:=sI h;refine af hJ ?_;refine az hJ fun a3=>?_;refine aj hJ ?_;simp only[*,go_sem];refine ay ?_;simp only[*,go_sem];exact ⟨_,d,Le.sub (.cons _ (List.Sublist.refl _))⟩
  refine af hJ ?_;refine az hJ fun a4=>?_;refine aj hJ ?_;simp only[*,go_sem];revert h;refine jC hJ (by simp only[*,go_sem]) (fun I h=>?_) fun I h=>?_
  ·obtain rfl:=sI h;refine af hJ ?_;refine az hJ fun a5=>?_;refine aj hJ ?_;simp only[*,go_sem];refine ay ?_;simp only[*,go_sem];exact ⟨_,d,Le.sub (.cons _ (List.Sublist.refl _))⟩
  obtain rfl:=sI h;refine af hJ ?_;refine az hJ fun a6=>?_;refine aj hJ ?_;simp only[*,go_sem];refine ay ?_;simp only[*,go_sem];exact ⟨_,d,Le.sub (.cons _ (List.Sublist.refl _))⟩
 obtain rfl:=sI h;refine aI hJ (af hJ ?_);refine az hJ fun a7=>?_;refine aj hJ ?_;simp only[*,go_sem];refine aN hJ (af hJ ?_);refine az hJ fun a8=>?_;refine aj hJ ?_;simp only[*,go_sem];refine bP hJ (by simp only[*,go_sem]) ?_;refine af hJ ?_;refine ff [0,6,7,11] fun a9 K L M=>?_;simp only[*,go_sem] at K L M;clear k hd l k1 m;refine az hJ fun ba=>?_;refine aj hJ ?_;simp only[*,go_sem];refine ay ?_;simp only[*,go_sem];exact ⟨_,b,Le.sub (.cons _ (List.Sublist.refl _))⟩
end Go.Proofs.YtpgcmoanfifglaaGreatDoor
end
section
namespace Go.Sep
open Go Go.Conc
variable {P : Program} {main : Bool} {J : Goroutine → aa → Prop} {Q : Ex → Act → aa → Prop} {a : Act} {F : aa}
def Qn (E:Act->aa->Prop)(Q:Ex->Act->aa->Prop):Ex->Act->aa->Prop
 | .normal,a,F=>∃F0,Le F0 F/\E a F0
 | .exit i,a,F=>Q (.exit i) a F
 | .ret,a,F=>Q .ret a F
theorem GK (E:Act->aa->Prop)(Q:Ex->Act->aa->Prop)(i:Nat)(a:Act)(F:aa):Qn E Q (.exit i) a F=Q (.exit i) a F:=Eq.trans rfl rfl
theorem GL (E:Act->aa->Prop)(Q:Ex->Act->aa->Prop)(a:Act)(F:aa):Qn E Q .ret a F=Q .ret a F:=Eq.trans rfl rfl
attribute [go_sem] GK GL
theorem Qn.intro {E:Act->aa->Prop}(h:∃F0,Le F0 F/\E a F0):Qn E Q .normal a F:=h
theorem gh (hJ:Closed P main J){x y:Code}(E:Act->aa->Prop)(c:Wp J x (Qn E Q) a F)(d:∀a F,E a F->Wp J y Q a F):Wp J (.seq x y) Q a F:=
 af hJ (c.mono fun e a F b=>by
  cases e with
  |normal=>obtain ⟨F0,hle,f⟩:=b;exact cG hJ hle (d a F0 f)
  |exit i=>exact b
  |ret=>exact b)
theorem aO.cM {ro:Addr->Option Value}{e:TypeId}{b n cap:Nat}{l:List Int}{arr:Array Value}(h:aO rI ro e (.slice (some ⟨b,0,none⟩) n cap) l [(b,.cells arr e)]){i x:Int}(q:bf l i=some x):
  0<=i/\i<((n:Nat):Int)/\arr[i.toNat]?=some (.int .i64 x)/\i.toNat<arr.size:=by
 obtain ⟨a,f,c⟩:=cH q
 have g:=h.count
 obtain ⟨cs,d,hm⟩:=h.iQ c
 obtain rfl:cs=[.int .i64 x]:=d
 have m:=hm 0 _ rfl
 have m:arr[i.toNat*1+0]?=some (.int .i64 x):=m
 rw[Nat.mul_one,Nat.add_zero] at m
 exact ⟨a,by omega,m,(Array.getElem?_eq_some_iff.1 m).1⟩
theorem aO.fR {ro:Addr->Option Value}{e:TypeId}{b n cap:Nat}{l:List Int}{arr:Array Value}(h:aO rI ro e (.slice (some ⟨b,0,none⟩) n cap) l [(b,.cells arr e)]){i:Int}(a:0<=i)(c:i<((n:Nat):Int))(y:Int):
  aO rI ro e (.slice (some ⟨b,0,none⟩) n cap) (l.set i.toNat y) [(b,.cells (cI arr i.toNat [.int .i64 y]) e)]:=by
 have d:=h.count
 have:=h.rT (i:=i.toNat) (y:=y) (by omega) (cs:=[.int .i64 y]) rfl
 rwa [show i.toNat*rI.n=i.toNat from Nat.mul_one _] at this
end Go.Sep
end
section
namespace Go.Proofs.YtpgcmoanfifglaaGreatDoor
open Go Go.Sep Go.Proofs
set_option maxRecDepth 100000
set_option maxHeartbeats 4000000
def kZ (m:Nat):Nat:=if m=0 then 0 else m.log2+1
def sR (n:Int):Option Int:=if 0<=n/\n<256 then some ((kZ n.toNat:Nat):Int) else none
theorem GM:∀m:Fin 256,kZ m.val<=8:=by decide+kernel
theorem GN {ro:Addr->Option Value}(n:Int)(c:0<=n)(d:n<256):aD Tryz.prog 187 #[.int .u64 n] ⟨ro,[]⟩ (fun v _=>v= .int .i64 ((kZ n.toNat:Nat):Int)):=by
 refine aD.go Tryz.func187 rfl Tryz.ntmps187 Tryz.results187 (by simp) fun main J hJ A e hd hs=>?_;have f:=hs 0;clear hs;have a1:¬(4294967296:Int)<=n:=by omega
 have a2:¬(65536:Int)<=n:=by omega
 have a3:¬(256:Int)<=n:=by omega
 have g:Tryz.prog.underlying 187=some (.int .u64):=by kernel_rfl
 have h:Tryz.prog.underlying 5=some (.int .u8):=by kernel_rfl
 have i:Tryz.prog.underlying 3=some (.int .i64):=by kernel_rfl
 have j:Tryz.prog.underlying 9=some .string:=by kernel_rfl
 have a4:IntKind.u8.wrap n=n:=IntWalk.u8_in n ⟨c,by omega⟩;repeat refine af hJ ?_
 refine aj hJ ?_;simp only[*,go_sem];repeat refine af hJ ?_
 refine aj hJ ?_;simp only[*,go_sem];repeat refine af hJ ?_
 refine bM hJ (by simp only[*,go_sem,ge_iff_le]) ?_;refine aI hJ ?_;repeat refine af hJ ?_
 refine aj hJ ?_;simp only[*,go_sem];repeat refine af hJ ?_
 refine bM hJ (by simp only[*,go_sem,ge_iff_le]) ?_;refine aI hJ ?_;repeat refine af hJ ?_
 refine aj hJ ?_;simp only[*,go_sem];repeat refine af hJ ?_
 refine bM hJ (by simp only[*,go_sem,ge_iff_le]) ?_;refine aI hJ ?_;repeat refine af hJ ?_
 refine aj hJ ?_;simp only[*,go_sem];generalize a:ByteArray.mk _=S;have key:∀m:Fin 256,S[m.val]?=some (UInt8.ofNat (kZ m.val)):=by rw[<-a];decide+kernel
 clear a;have b:n.toNat<256:=by omega
 have hb:=key ⟨n.toNat,b⟩;have hle:=GM ⟨n.toNat,b⟩;simp only at hb hle;simp only[hb,Option.map_some];refine ay ?_;simp only[*,go_sem];have e1:(UInt8.ofNat (kZ n.toNat)).toNat=kZ n.toNat:=by rw[UInt8.toNat_ofNat'];omega
 rw[e1,IntWalk.i64_in (kZ n.toNat:Int) ⟨by omega,by omega⟩,Int.zero_add,IntWalk.i64_in (kZ n.toNat:Int) ⟨by omega,by omega⟩]
theorem AY {ro:Addr->Option Value}(n:Int){r:Int}(h:sR n=some r):aD Tryz.prog 149 #[.int .u64 n] ⟨ro,[]⟩ (fun v _=>v= .int .i64 r):=by
 unfold sR at h;split at h
 case isFalse=>cases h
 rename_i a;obtain ⟨b,c⟩:=a;cases h;refine aD.go Tryz.func149 rfl Tryz.ntmps149 Tryz.results149 (by simp) fun main J hJ A d hd hs=>?_;have e:=hs 0;clear hs;repeat refine af hJ ?_
 refine aj hJ ?_;simp only[*,go_sem];repeat refine af hJ ?_
 refine bM hJ (by simp only[*,go_sem]) ?_;refine aI hJ ?_;repeat refine af hJ ?_
 refine aj hJ ?_;simp only[*,go_sem];refine bn hJ _ (GN n b c) (aK ?_);simp only[*,go_sem];refine ay ?_;simp only[*,go_sem]
end Go.Proofs.YtpgcmoanfifglaaGreatDoor
end

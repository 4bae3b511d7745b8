/- A part of the proof of a row and its tied card: QJ3. -/
import Derived.Test.YtpgcmoanfifglaaGreatDoorQJ2
set_option linter.all false
section
namespace Go.Proofs.YtpgcmoanfifglaaGreatDoor
open Go Go.Sep Go.Proofs
set_option maxRecDepth 100000
set_option maxHeartbeats 4000000
def fI (u0:Int)(a:Int)(b:Int):Option Bool:=
 cond (decide (a<=u0)) (some (decide (u0<=b))) (some false)
theorem gy {ro:Addr->Option Value}(u0:Int)(a:Int)(b:Int){r:Bool}(h:fI u0 a b=some r):aC Tryz.prog 114 #[.int .i64 u0,.int .i64 a,.int .i64 b] ⟨ro,[]⟩ (fun v _=>v= .bool r):=by
 unfold fI at h;refine aC.go Tryz.func114 rfl Tryz.ntmps114 Tryz.results114 (by simp) fun main J hJ A d hd hs=>?_;have e:=hs 0;have k1:=hs 1;have f:=hs 2;clear hs;refine ah hJ ?_;simp only[*,go_sem];refine ah hJ ?_;revert h;refine cS (fun c h=>?_) fun c h=>?_
 ·obtain rfl:=sI h;try simp only[*,go_sem]
  refine az ?_;simp only[*,go_sem]
 obtain rfl:=sI h;try simp only[*,go_sem]
 refine az ?_;simp only[*,go_sem]
def ga (u0:Int):Option an:=
 some (⟨u0,1⟩:an)
theorem jy {ro:Addr->Option Value}(u0:Int){r:an}(h:ga u0=some r):aC Tryz.prog 83 #[.int .i64 u0] ⟨ro,[]⟩ (fun v _=>v=r.v):=by
 unfold ga at h;obtain rfl:=sI h;refine aC.go Tryz.func83 rfl Tryz.ntmps83 Tryz.results83 (by simp) fun main J hJ A a hd hs=>?_;have b:=hs 0;clear hs;refine ah hJ ?_;simp only[*,go_sem];refine ax fun c r1 n1=>?_;try simp only[au] at n1
 try simp only[*,go_sem]
 refine ah hJ ?_;simp only[*,go_sem];refine az ?_;simp only[*,go_sem]
def ew (u0:an)(a:an):Option Bool:=
 some (decide ((IntKind.i64.wrap (u0.num*a.den))<(IntKind.i64.wrap (a.num*u0.den))))
theorem iW {ro:Addr->Option Value}(u0:an)(a:an){r:Bool}(h:ew u0 a=some r):aC Tryz.prog 76 #[.agg #[.int .i64 u0.num,.int .i64 u0.den],.agg #[.int .i64 a.num,.int .i64 a.den]] ⟨ro,[]⟩ (fun v _=>v= .bool r):=by
 unfold ew at h;obtain rfl:=sI h;refine aC.go Tryz.func76 rfl Tryz.ntmps76 Tryz.results76 (by simp) fun main J hJ A b hd hs=>?_;have c:=hs 0;have k1:=hs 1;clear hs;refine ah hJ ?_;simp only[*,go_sem];refine ax fun d r1 n1=>?_;try simp only[au] at n1
 refine ax fun b2 r2 n2=>?_;try simp only[au] at n2
 try simp only[*,go_sem]
 refine ah hJ ?_;simp only[*,go_sem];refine az ?_;simp only[*,go_sem]
def pG (u0:c9)(a:Int)(b:Int):Option Bool:=
 cond (decide (a<=u0.low)) (cond (decide (u0.low<=u0.high)) (some (decide (u0.high<=b))) (some false)) (some false)
theorem Ap {ro:Addr->Option Value}(u0:c9)(a:Int)(b:Int){r:Bool}(h:pG u0 a b=some r):aC Tryz.prog 70 #[.agg #[.int .i64 u0.low,.int .i64 u0.high],.int .i64 a,.int .i64 b] ⟨ro,[]⟩ (fun v _=>v= .bool r):=by
 unfold pG at h;refine aC.go Tryz.func70 rfl Tryz.ntmps70 Tryz.results70 (by simp) fun main J hJ A e hd hs=>?_;have f:=hs 0;have k1:=hs 1;have g:=hs 2;clear hs;refine ah hJ ?_;simp only[*,go_sem];refine ax fun i r1 n1=>?_;try simp only[au] at n1
 try simp only[*,go_sem]
 refine ah hJ ?_;revert h;refine cS (fun c h=>?_) fun c h=>?_
 ·revert h;refine cS (fun d h=>?_) fun d h=>?_
  ·obtain rfl:=sI h;(try simp only[*,go_sem]);refine az ?_;simp only[*,go_sem]
  obtain rfl:=sI h;try simp only[*,go_sem]
  refine az ?_;simp only[*,go_sem]
 obtain rfl:=sI h;try simp only[*,go_sem]
 refine az ?_;simp only[*,go_sem]
def gb (u0:bt)(a:bt):Option Bool:=
 ag (ew u0.high a.high) fun b=>some b
theorem rD {ro:Addr->Option Value}(u0:bt)(a:bt){r:Bool}(h:gb u0 a=some r):aC Tryz.prog 88 #[.agg #[.int .i64 u0.spot.aL,.int .i64 u0.spot.high.num,.int .i64 u0.spot.high.den,.int .i64 u0.at_,.int .i64 u0.high.num,.int .i64 u0.high.den],.agg #[.int .i64 a.spot.aL,.int .i64 a.spot.high.num,.int .i64 a.spot.high.den,.int .i64 a.at_,.int .i64 a.high.num,.int .i64 a.high.den]] ⟨ro,[]⟩ (fun v _=>v= .bool r):=by
 unfold gb at h;refine aC.go Tryz.func88 rfl Tryz.ntmps88 Tryz.results88 (by simp) fun main J hJ A c hd hs=>?_;have d:=hs 0;have k1:=hs 1;clear hs;refine ah hJ ?_;simp only[*,go_sem];refine ax fun e r1 n1=>?_;try simp only[au] at n1
 refine ax fun b2 r2 n2=>?_;try simp only[au] at n2
 try simp only[*,go_sem]
 refine ah hJ ?_;revert h;refine bS fun f b h=>?_;obtain rfl:=sI h;simp only[*,go_sem];refine bg hJ _ (iW u0.high a.high b) (aJ ?_);try simp only[*,go_sem]
 refine az ?_;simp only[*,go_sem]
def gR (u0:Int)(b:ak):Option Int:=
 ag (fI u0 1 20) fun a=>cond (!a) (some 1) (some 0)
theorem vp {ro:Addr->Option Value}(u0:Int)(b:ak){s1 c d f:Value}(a:bJ ro b s1 c d f){r:Int}(h:gR u0 b=some r):aC Tryz.prog 96 #[.int .i64 u0,bv b s1 c d f] ⟨ro,[]⟩ (fun v _=>v= .int .i64 r):=by
 obtain ⟨d3,c4,rfl,k,l,-⟩:=id a.e;obtain ⟨d10,m,rfl,n,o,-⟩:=id a.p;obtain ⟨d17,q,rfl,s,u,-⟩:=id a.y;obtain ⟨d24,w,rfl,x,z,-⟩:=id a.t;unfold gR at h;refine aC.go Tryz.func96 rfl Tryz.ntmps96 Tryz.results96 (by simp) fun main J hJ A B hd hs=>?_;have C:=hs 0;have k1:=hs 1;clear hs;refine ah hJ ?_;simp only[*,go_sem];refine ax fun D E g=>?_;try simp only[au] at g
 try simp only[*,go_sem]
 refine af hJ (ah hJ ?_);revert h;refine bS fun F i h=>?_;simp only[*,go_sem];refine bg hJ _ (gy u0 1 20 i) (aJ ?_);try simp only[*,go_sem]
 revert h;refine jC hJ (by simp only[*,go_sem]) (fun j h=>?_) fun j h=>?_
 ·obtain rfl:=sI h;refine ah hJ ?_;simp only[*,go_sem];refine az ?_;simp only[*,go_sem]
 obtain rfl:=sI h;refine aI hJ (af hJ ?_);refine aj hJ ?_;simp only[*,go_sem];refine az ?_;simp only[*,go_sem]
def fe (u0:aU)(c:ak):Option Int:=
 ag (fI u0.back 1 20) fun a=>cond (!a) (some 1) (ag (fI u0.high 0 60) fun b=>cond (!b) (some 1) (some 0))
theorem rE {ro:Addr->Option Value}(u0:aU)(b:ak){s1 c d f:Value}(a:bJ ro b s1 c d f){r:Int}(h:fe u0 b=some r):aC Tryz.prog 78 #[.agg #[.int .i64 u0.back,.int .i64 u0.high],bv b s1 c d f] ⟨ro,[]⟩ (fun v _=>v= .int .i64 r):=by
 obtain ⟨d3,c4,rfl,n,o,-⟩:=id a.e;obtain ⟨d10,q,rfl,s,u,-⟩:=id a.p;obtain ⟨d17,w,rfl,x,z,-⟩:=id a.y;obtain ⟨d24,B,rfl,C,D,-⟩:=id a.t;unfold fe at h;refine aC.go Tryz.func78 rfl Tryz.ntmps78 Tryz.results78 (by simp) fun main J hJ A E hd hs=>?_;have F:=hs 0;have k1:=hs 1;clear hs;refine ah hJ ?_;simp only[*,go_sem];refine ax fun G H g=>?_;try simp only[au] at g
 refine ax fun I K i=>?_;try simp only[au] at i
 try simp only[*,go_sem]
 refine af hJ (ah hJ ?_);revert h;refine bS fun L j h=>?_;simp only[*,go_sem];refine bg hJ _ (gy u0.back 1 20 j) (aJ ?_);revert h;refine cS (fun k h=>?_) fun k h=>?_
 ·obtain rfl:=sI h;try simp only[*,go_sem]
  refine bP hJ (by simp only[*,go_sem]) ?_;refine ah hJ ?_;simp only[*,go_sem];refine az ?_;simp only[*,go_sem]
 revert h;refine bS fun M l h=>?_;try simp only[*,go_sem]
 refine bg hJ _ (gy u0.high 0 60 l) (aJ ?_);try simp only[*,go_sem]
 revert h;refine jC hJ (by simp only[*,go_sem]) (fun m h=>?_) fun m h=>?_
 ·obtain rfl:=sI h;refine ah hJ ?_;simp only[*,go_sem];refine az ?_;simp only[*,go_sem]
 obtain rfl:=sI h;refine aI hJ (af hJ ?_);refine aj hJ ?_;simp only[*,go_sem];refine az ?_;simp only[*,go_sem]
def nk (u0:ak)(a:Int):Option Bool:=
 ag (fI a 0 (IntKind.i64.wrap ((u0.aE.length:Int) - 1))) fun b=>some b
theorem Aq {ro:Addr->Option Value}(u0:ak){s1 c d f:Value}(a:bJ ro u0 s1 c d f)(b:Int){r:Bool}(h:nk u0 b=some r):aC Tryz.prog 120 #[bv u0 s1 c d f,.int .i64 b] ⟨ro,[]⟩ (fun v _=>v= .bool r):=by
 obtain ⟨d3,c4,rfl,j,k,-⟩:=id a.e;obtain ⟨d10,l,rfl,m,n,-⟩:=id a.p;obtain ⟨d17,o,rfl,q,s,-⟩:=id a.y;obtain ⟨d24,u,rfl,w,x,-⟩:=id a.t;unfold nk at h;refine aC.go Tryz.func120 rfl Tryz.ntmps120 Tryz.results120 (by simp) fun main J hJ A z hd hs=>?_;have B:=hs 0;have k1:=hs 1;clear hs;refine ah hJ ?_;simp only[*,go_sem];refine ax fun C D g=>?_;try simp only[au] at g
 try simp only[*,go_sem]
 refine ah hJ ?_;revert h;refine bS fun E i h=>?_;obtain rfl:=sI h;simp only[*,go_sem];refine bg hJ _ (gy b 0 (IntKind.i64.wrap ((u0.aE.length:Int) - 1)) i) (aJ ?_);try simp only[*,go_sem]
 refine az ?_;simp only[*,go_sem]
def gd (u0:ak)(a:Int):Option Bool:=
 ag (bp u0.ay 0) fun b=>ag (bp u0.ay (IntKind.i64.wrap ((u0.ay.length:Int) - 1))) fun c=>ag (fI a b.aL c.aL) fun d=>some d
theorem rF {ro:Addr->Option Value}(u0:ak){s1 f g i:Value}(a:bJ ro u0 s1 f g i)(b:Int){r:Bool}(h:gd u0 b=some r):aC Tryz.prog 140 #[bv u0 s1 f g i,.int .i64 b] ⟨ro,[]⟩ (fun v _=>v= .bool r):=by
 obtain ⟨d3,c4,rfl,E,G,-⟩:=id a.e;unfold gd at h;refine aC.go Tryz.func140 rfl Tryz.ntmps140 Tryz.results140 (by simp) fun main J hJ A H hd hs=>?_;have I:=hs 0;have k1:=hs 1;clear hs;refine ah hJ ?_;simp only[*,go_sem];refine ax fun K L n=>?_;try simp only[au] at n
 try simp only[*,go_sem]
 refine af hJ ?_;refine cR hJ mixed 20 1 (by simp only[*,go_sem]) (by kernel_rfl) ?_;revert h;refine bS fun j o h=>?_;obtain ⟨M,N,k⟩:=c5 o;obtain ⟨O,p,q,s,c⟩:=a.e.el _ _ k;obtain rfl:p=j.cells:=s;cases q;have t:=c 0 _ rfl;simp only[go_sem] at t;have u:=c 1 _ rfl;simp only[go_sem] at u;clear c k;revert h;refine bS fun l w h=>?_;obtain ⟨P,Q,m⟩:=c5 w;obtain ⟨R,x,y,z,d⟩:=a.e.el _ _ m;obtain rfl:x=l.cells:=z;cases y;have B:=d 0 _ rfl;simp only[go_sem] at B;have C:=d 1 _ rfl;simp only[go_sem] at C;clear d m;revert h;refine bS fun S D h=>?_;obtain rfl:=sI h;try simp only[*,go_sem]
 refine ⟨_,bD hJ fun F T=>gy b j.aL l.aL D,bZ ?_⟩;try simp only[*,go_sem]
 refine az ?_;simp only[*,go_sem]
def eG (u0:Int)(a:ak):Option Int:=
 ag (nk a u0) fun b=>cond (!b) (some 6) (some 0)
theorem rG {ro:Addr->Option Value}(u0:Int)(b:ak){s1 c d f:Value}(a:bJ ro b s1 c d f){r:Int}(h:eG u0 b=some r):aC Tryz.prog 68 #[.int .i64 u0,bv b s1 c d f] ⟨ro,[]⟩ (fun v _=>v= .int .i64 r):=by
 obtain ⟨d3,c4,rfl,k,l,-⟩:=id a.e;obtain ⟨d10,m,rfl,n,o,-⟩:=id a.p;obtain ⟨d17,q,rfl,s,u,-⟩:=id a.y;obtain ⟨d24,w,rfl,x,z,-⟩:=id a.t;unfold eG at h;refine aC.go Tryz.func68 rfl Tryz.ntmps68 Tryz.results68 (by simp) fun main J hJ A B hd hs=>?_;have C:=hs 0;have k1:=hs 1;clear hs;refine ah hJ ?_;simp only[*,go_sem];refine ax fun D E g=>?_;try simp only[au] at g
 try simp only[*,go_sem]
 refine af hJ (ah hJ ?_);revert h;refine bS fun F i h=>?_;simp only[*,go_sem];refine bg hJ _ (Aq b (a.mono aR) u0 i) (aJ ?_);try simp only[*,go_sem]
 revert h;refine jC hJ (by simp only[*,go_sem]) (fun j h=>?_) fun j h=>?_
 ·obtain rfl:=sI h;refine ah hJ ?_;simp only[*,go_sem];refine az ?_;simp only[*,go_sem]
 obtain rfl:=sI h;refine aI hJ (af hJ ?_);refine aj hJ ?_;simp only[*,go_sem];refine az ?_;simp only[*,go_sem]
def nq (u0:Int)(a:ak):Option Int:=
 ag (gd a u0) fun b=>cond (!b) (some 6) (some 0)
theorem FM {ro:Addr->Option Value}(u0:Int)(b:ak){s1 c d f:Value}(a:bJ ro b s1 c d f){r:Int}(h:nq u0 b=some r):aC Tryz.prog 115 #[.int .i64 u0,bv b s1 c d f] ⟨ro,[]⟩ (fun v _=>v= .int .i64 r):=by
 obtain ⟨d3,c4,rfl,k,l,-⟩:=id a.e;obtain ⟨d10,m,rfl,n,o,-⟩:=id a.p;obtain ⟨d17,q,rfl,s,u,-⟩:=id a.y;obtain ⟨d24,w,rfl,x,z,-⟩:=id a.t;unfold nq at h;refine aC.go Tryz.func115 rfl Tryz.ntmps115 Tryz.results115 (by simp) fun main J hJ A B hd hs=>?_;have C:=hs 0;have k1:=hs 1;clear hs;refine ah hJ ?_;simp only[*,go_sem];refine ax fun D E g=>?_;try simp only[au] at g
 try simp only[*,go_sem]
 refine af hJ (ah hJ ?_);revert h;refine bS fun F i h=>?_;simp only[*,go_sem];refine bg hJ _ (rF b (a.mono aR) u0 i) (aJ ?_);try simp only[*,go_sem]
 revert h;refine jC hJ (by simp only[*,go_sem]) (fun j h=>?_) fun j h=>?_
 ·obtain rfl:=sI h;refine ah hJ ?_;simp only[*,go_sem];refine az ?_;simp only[*,go_sem]
 obtain rfl:=sI h;refine aI hJ (af hJ ?_);refine aj hJ ?_;simp only[*,go_sem];refine az ?_;simp only[*,go_sem]
def pH (st:(Int×Int)):Option (Fl (Int×Int) an):=
 cond ((st.2 != 0)) (ag (iS st.1 st.2) fun a=>some (.nx (st.2,a))) (some (.bk (st.1,st.2)))
def j7 (u0:Int)(a:Int):Option an:=
 ag (bn (pH) fu ((if u0<IntKind.i64.wrap (0 - u0) then IntKind.i64.wrap (0 - u0) else u0),a)) fun o=>aG o (fun b=>ag (fF u0 b.1) fun c=>ag (fF a b.1) fun d=>some (⟨c,d⟩:an)) (fun _ _=>none) (fun r=>some r)
theorem pI {ro:Addr->Option Value}(u0:Int)(c:Int){r:an}(h:j7 u0 c=some r):aC Tryz.prog 127 #[.int .i64 u0,.int .i64 c] ⟨ro,[]⟩ (fun v _=>v=r.v):=by
 unfold j7 at h;refine aC.go Tryz.func127 rfl Tryz.ntmps127 Tryz.results127 (by simp) fun main J hJ A l hd hs=>?_;have n:=hs 0;have k1:=hs 1;clear hs;refine ah hJ ?_;simp only[*,go_sem];refine ax fun o r1 n1=>?_;try simp only[au] at n1
 try simp only[*,go_sem]
 refine ah hJ ?_;simp only[*,go_sem];refine af hJ (aQ hJ ?_);revert h;refine bS fun o4 a p=>?_;refine bU hJ [5,6,12,13,14,15,16,17] (fun m f F'=>∃(v2:Int) (b:Int),bn (pH) m (v2,b)=some o4/\F'=⟨ro,(o,rt 0 0)::[]⟩/\slot f 5= .int .i64 v2/\slot f 6= .int .i64 b) fu ?_ ?_
 ·refine ⟨(if u0<IntKind.i64.wrap (0 - u0) then IntKind.i64.wrap (0 - u0) else u0),c,a,rfl,?_⟩;simp only[*,go_sem]
 rintro d x F' g ⟨v2,b,a,rfl,y,z⟩;obtain ⟨q,s,t⟩:=g.pick [0,1,4] (by decide);simp only[*,go_sem] at q s t;clear g l hd n k1;obtain _|d:=d
 ·exact absurd a (by simp only[bn,reduceCtorEq,not_false_eq_true])
 revert a;refine bS fun B h e=>?_;unfold pH at h;try dsimp only at h
 refine af hJ (ah hJ ?_);simp only[*,go_sem];revert h;refine jC hJ (by simp only[*,go_sem]) (fun u h=>?_) fun u h=>?_
 ·refine aI hJ (aQ hJ ?_);refine cR hJ mixed 6 1 (by simp only[*,go_sem]) (by kernel_rfl) ?_;revert h;refine bS fun w i h=>?_;obtain rfl:=sI h;obtain ⟨C,D⟩:=q4 i;clear i;try simp only[*,go_sem]
  refine ⟨d,Nat.lt_succ_self _,_,Le.sub (List.Sublist.refl _),b,w,e,rfl,?_⟩;simp only[*,go_sem]
 obtain rfl:=sI h;refine bN ?_;simp only[go_sem];obtain rfl:=sI e;clear e;have h:=p;dsimp only[aG] at h;refine af hJ ?_;refine cR hJ mixed 7 0 (by simp only[*,go_sem]) (by kernel_rfl) ?_;revert h;refine bS fun E j h=>?_;obtain ⟨F,G⟩:=jW j;clear j;revert h;refine bS fun H k h=>?_;obtain rfl:=sI h;obtain ⟨I,K⟩:=jW k;clear k;try simp only[*,go_sem]
 refine az ?_;simp only[*,go_sem]
def iX (u0:an)(a:an):Option an:=
 ag (j7 (IntKind.i64.wrap ((IntKind.i64.wrap (u0.num*a.den))+(IntKind.i64.wrap (a.num*u0.den)))) (IntKind.i64.wrap (u0.den*a.den))) fun b=>some b
theorem pJ {ro:Addr->Option Value}(u0:an)(a:an){r:an}(h:iX u0 a=some r):aC Tryz.prog 91 #[.agg #[.int .i64 u0.num,.int .i64 u0.den],.agg #[.int .i64 a.num,.int .i64 a.den]] ⟨ro,[]⟩ (fun v _=>v=r.v):=by
 unfold iX at h;refine aC.go Tryz.func91 rfl Tryz.ntmps91 Tryz.results91 (by simp) fun main J hJ A c hd hs=>?_;have d:=hs 0;have k1:=hs 1;clear hs;refine ah hJ ?_;simp only[*,go_sem];refine ax fun e r1 n1=>?_;try simp only[au] at n1
 refine ax fun b2 r2 n2=>?_;try simp only[au] at n2
 refine ax fun b3 r3 n3=>?_;try simp only[au] at n3
 try simp only[*,go_sem]
 refine ah hJ ?_;revert h;refine bS fun f b h=>?_;obtain rfl:=sI h;simp only[*,go_sem];refine bg hJ _ (pI (IntKind.i64.wrap ((IntKind.i64.wrap (u0.num*a.den))+(IntKind.i64.wrap (a.num*u0.den)))) (IntKind.i64.wrap (u0.den*a.den)) b) (aJ ?_);try simp only[*,go_sem]
 refine az ?_;simp only[*,go_sem]
def iY (u0:an)(a:an):Option an:=
 ag (iX u0 (⟨IntKind.i64.wrap (0 - a.num),a.den⟩:an)) fun b=>some b
theorem pK {ro:Addr->Option Value}(u0:an)(a:an){r:an}(h:iY u0 a=some r):aC Tryz.prog 90 #[.agg #[.int .i64 u0.num,.int .i64 u0.den],.agg #[.int .i64 a.num,.int .i64 a.den]] ⟨ro,[]⟩ (fun v _=>v=r.v):=by
 unfold iY at h;refine aC.go Tryz.func90 rfl Tryz.ntmps90 Tryz.results90 (by simp) fun main J hJ A c hd hs=>?_;have d:=hs 0;have k1:=hs 1;clear hs;refine ah hJ ?_;simp only[*,go_sem];refine ax fun e r1 n1=>?_;try simp only[au] at n1
 refine ax fun b2 r2 n2=>?_;try simp only[au] at n2
 refine ax fun b3 r3 n3=>?_;try simp only[au] at n3
 try simp only[*,go_sem]
 refine ah hJ ?_;revert h;refine bS fun f b h=>?_;obtain rfl:=sI h;simp only[*,go_sem];refine bg hJ _ (pJ u0 (⟨IntKind.i64.wrap (0 - a.num),a.den⟩:an) b) (aJ ?_);try simp only[*,go_sem]
 refine az ?_;simp only[*,go_sem]
def j8 (u0:ak)(a:aU)(e:Int)(b:gQ):Option bt:=
 ag (ga a.high) fun f=>ag (iY b.high f) fun c=>ag (j7 (IntKind.i64.wrap (u0.bE+a.back)) (IntKind.i64.wrap (b.aL+a.back))) fun d=>ag (ga a.high) fun g=>ag (j7 (IntKind.i64.wrap (c.num*d.num)) (IntKind.i64.wrap (c.den*d.den))) fun h=>ag (iX g h) fun i=>some (⟨b,e,i⟩:bt)
theorem Ar {ro:Addr->Option Value}(u0:ak){s1 c d e:Value}(K:bJ ro u0 s1 c d e)(b:aU)(j:Int)(a:gQ){r:bt}(h:j8 u0 b j a=some r):aC Tryz.prog 126 #[bv u0 s1 c d e,.agg #[.int .i64 b.back,.int .i64 b.high],.int .i64 j,.agg #[.int .i64 a.aL,.int .i64 a.high.num,.int .i64 a.high.den]] ⟨ro,[]⟩ (fun v _=>v=r.v):=by
 unfold j8 at h;refine aC.go Tryz.func126 rfl Tryz.ntmps126 Tryz.results126 (by simp) fun main J hJ A L hd hs=>?_;have M:=hs 0;have k1:=hs 1;have N:=hs 2;have O:=hs 3;clear hs;refine ah hJ ?_;simp only[*,go_sem];refine ax fun k P n=>?_;try simp only[au] at n
 refine ax fun l Q o=>?_;try simp only[au] at o
 refine ax fun m R p=>?_;try simp only[au] at p
 refine ax fun q S s=>?_;try simp only[au] at s
 try simp only[*,go_sem]
 refine af hJ ?_;refine e9 hJ mixed 6 ⟨ro,[(q,.cells #[.int .i64 0,.int .i64 0,.int .i64 0,.int .i64 0,.int .i64 0,.int .i64 0] 147),(m,.cells #[.int .i64 a.aL,.int .i64 a.high.num,.int .i64 a.high.den] 145),(l,.cells #[.int .i64 b.back,.int .i64 b.high] 134),(k,bl u0 s1 c d e)]⟩ (by simp only[*,go_sem]) (by kernel_rfl) ?_;revert h;refine bS fun t u h=>?_;simp only[*,go_sem];refine ⟨_,bD hJ fun F f=>jy b.high u,bZ ?_⟩;revert h;refine bS fun g w h=>?_;try simp only[*,go_sem]
 refine ⟨_,bD hJ fun F f=>pK a.high t w,?_⟩;try simp only[*,go_sem]
 refine ax fun x T y=>?_;try simp only[au] at y
 try simp only[*,go_sem]
 refine ah hJ ?_;revert h;refine bS fun i z h=>?_;simp only[*,go_sem];refine bg hJ _ (pI (IntKind.i64.wrap (u0.bE+b.back)) (IntKind.i64.wrap (a.aL+b.back)) z) (aJ ?_);try simp only[*,go_sem]
 refine ax fun B U C=>?_;try simp only[au] at C
 try simp only[*,go_sem]
 refine af hJ ?_;refine e9 hJ mixed 18 ⟨ro,[(B,rt i.num i.den),(x,rt g.num g.den),(m,.cells #[.int .i64 a.aL,.int .i64 a.high.num,.int .i64 a.high.den] 145),(l,.cells #[.int .i64 b.back,.int .i64 b.high] 134),(k,bl u0 s1 c d e)]⟩ (by simp only[*,go_sem]) (by kernel_rfl) ?_;revert h;refine bS fun D E h=>?_;simp only[*,go_sem];refine ⟨_,bD hJ fun F f=>jy b.high E,bZ ?_⟩;revert h;refine bS fun G H h=>?_;try simp only[*,go_sem]
 refine ⟨_,bD hJ fun F f=>pI (IntKind.i64.wrap (g.num*i.num)) (IntKind.i64.wrap (g.den*i.den)) H,bZ ?_⟩;revert h;refine bS fun V I h=>?_;obtain rfl:=sI h;try simp only[*,go_sem]
 refine ⟨_,bD hJ fun F f=>pJ D G I,bZ ?_⟩;try simp only[*,go_sem]
 refine az ?_;simp only[*,go_sem]
def ij (u0:ak)(a:Int)(b:Int):Option aU:=
 ag (bp u0.aE a) fun c=>some (⟨c.back,b⟩:aU)
theorem me {ro:Addr->Option Value}(u0:ak){s1 c d f:Value}(a:bJ ro u0 s1 c d f)(g:Int)(i:Int){r:aU}(h:ij u0 g i=some r):aC Tryz.prog 74 #[bv u0 s1 c d f,.int .i64 g,.int .i64 i] ⟨ro,[]⟩ (fun v _=>v=r.v):=by
 obtain ⟨d3,c4,rfl,z,B,-⟩:=id a.e;obtain ⟨d10,C,rfl,D,E,-⟩:=id a.p;obtain ⟨d17,F,rfl,G,H,-⟩:=id a.y;obtain ⟨d24,I,rfl,K,L,-⟩:=id a.t;unfold ij at h;refine aC.go Tryz.func74 rfl Tryz.ntmps74 Tryz.results74 (by simp) fun main J hJ A M hd hs=>?_;have N:=hs 0;have k1:=hs 1;have O:=hs 2;clear hs;refine ah hJ ?_;simp only[*,go_sem];refine ax fun P Q k=>?_;try simp only[au] at k
 refine ax fun R S l=>?_;try simp only[au] at l
 try simp only[*,go_sem]
 refine ah hJ ?_;revert h;refine bS fun m n h=>?_;obtain rfl:=sI h;obtain ⟨T,U,j⟩:=c5 n;obtain ⟨V,o,q,s,b⟩:=a.y.el _ _ j;obtain rfl:o=m.cells:=s;cases q;have u:=b 0 _ rfl;simp only[go_sem] at u;have w:=b 1 _ rfl;simp only[go_sem] at w;have x:=b 2 _ rfl;simp only[go_sem] at x;clear b j;try simp only[*,go_sem]
 refine az ?_;simp only[*,go_sem]
def j9 (u0:(bt->bt->Option Bool))(i11:Nat)(a:bt)(st:bt):Option (Fl bt bt):=
 ag (u0 st a) fun b=>cond (b) (some (.nx a)) (some (.nx st))
def iZ (u0:(bt->bt->Option Bool))(a:bt)(b:(List bt)):Option bt:=
 ag (bF (j9 u0) 0 b a) fun o=>aG o (fun c=>some c) (fun _ _=>none) (fun r=>some r)
theorem rH {ro:Addr->Option Value}(u0:(bt->bt->Option Bool)){dK:FuncId}{dZ ee:Array Value}(s:aH Tryz.prog dK=true/\∀(aM:Addr->Option Value),Ext ro aM->∀(i:bt) (j:bt) (z:Bool),u0 i j=some z->aC Tryz.prog dK (dZ++#[i.v,j.v]++ee) ⟨aM,[]⟩ (fun v _=>v= .bool z))(c:bt)(b:(List bt)){s1:Value}(k:aB j6 ro s1 b){r:bt}(h:iZ u0 c b=some r):aC Tryz.prog 87 #[.func (.func dK) dZ ee,.agg #[.int .i64 c.spot.aL,.int .i64 c.spot.high.num,.int .i64 c.spot.high.den,.int .i64 c.at_,.int .i64 c.high.num,.int .i64 c.high.den],s1] ⟨ro,[]⟩ (fun v _=>v=r.v):=by
 obtain ⟨d3,c4,rfl,Z,l,-⟩:=id k;unfold iZ at h;refine aC.go Tryz.func87 rfl Tryz.ntmps87 Tryz.results87 (by simp) fun main J hJ A t hd hs=>?_;have u:=hs 0;have k1:=hs 1;have w:=hs 2;clear hs;refine ah hJ ?_;simp only[*,go_sem];refine ax fun y ab B=>?_;try simp only[au] at B
 refine ax fun C ad D=>?_;try simp only[au] at D
 try simp only[*,go_sem]
 refine af hJ (ah hJ ?_);simp only[*,go_sem];refine aQ hJ ?_;revert h;refine bS fun E d F=>?_;refine bU hJ [8,11,12,13,14,15,16,17,18,19,20] (fun m G F'=>∃(i11:Nat) (v10:bt),m=b.length - i11/\i11<=b.length/\bF (j9 u0) i11 (b.drop i11) v10=some E/\F'=⟨ro,(C,.cells #[.int .i64 0,.int .i64 0,.int .i64 0,.int .i64 0,.int .i64 0,.int .i64 0] 147)::(y,.cells #[.int .i64 v10.spot.aL,.int .i64 v10.spot.high.num,.int .i64 v10.spot.high.den,.int .i64 v10.at_,.int .i64 v10.high.num,.int .i64 v10.high.den] 147)::[]⟩/\slot G 11= .int .i64 (i11:Int)) b.length ?_ ?_
 ·refine ⟨0,c,(Nat.sub_zero _).symm,Nat.zero_le _,d,rfl,?_⟩;simp only[*,go_sem]
 rintro ae al F' o ⟨i11,v10,rfl,ao,d,rfl,ar⟩;obtain ⟨H,I,K⟩:=o.pick [0,4,6,9,10] (by decide);simp only[*,go_sem] at H I K;clear o t hd u k1 w;refine ah hJ ?_;simp only[*,go_sem];refine af hJ ?_;rcases Nat.lt_or_ge i11 b.length with L|p
 ·refine bP hJ (by simp only[*,go_sem]) ?_;refine aI hJ ?_;obtain ⟨f,g⟩:∃x,b[i11]?=some x:=⟨_,List.getElem?_eq_getElem L⟩
  rw[c8 g] at d;revert d;refine bS fun a0 h q=>?_;unfold j9 at h;try dsimp only at h
  obtain ⟨a2,M,N,O,e⟩:=k.el _ _ g;obtain rfl:M=f.cells:=O;cases N;have P:=e 0 _ rfl;simp only[go_sem] at P;have Q:=e 1 _ rfl;simp only[go_sem] at Q;have R:=e 2 _ rfl;simp only[go_sem] at R;have S:=e 3 _ rfl;simp only[go_sem] at S;have T:=e 4 _ rfl;simp only[go_sem] at T;have U:=e 5 _ rfl;simp only[go_sem] at U;clear e g;refine af hJ (aQ hJ (af hJ ?_));refine aj hJ ?_;simp only[*,go_sem];refine ax fun a3 a4 V=>?_;try simp only[au] at V
  try simp only[*,go_sem]
  refine ah hJ ?_;revert h;refine bS fun a5 W h=>?_;simp only[*,go_sem];refine bg hJ _ (s.2 _ (fun a v h=>aR a v h) v10 f _ W) ?_;try simp only[*,go_sem]
  revert h;refine jC hJ (by simp only[*,go_sem]) (fun X h=>?_) fun X h=>?_
  ·obtain rfl:=sI h;refine aj hJ ?_;simp only[*,go_sem];have Y:=cn (n:=i11) (by have:=l;omega);refine aj hJ ?_;simp only[*,go_sem];refine ⟨b.length - (i11+1),by omega,_,Le.sub (List.Sublist.cons _ (List.Sublist.refl _)),i11+1,f,rfl,by omega,q,rfl,?_⟩;simp only[*,go_sem]
  obtain rfl:=sI h;refine aI hJ ?_;have Y:=cn (n:=i11) (by have:=l;omega);refine aj hJ ?_;simp only[*,go_sem];refine ⟨b.length - (i11+1),by omega,_,Le.sub (List.Sublist.cons _ (List.Sublist.refl _)),i11+1,v10,rfl,by omega,q,rfl,?_⟩;simp only[*,go_sem]
 have a6:=Nat.not_lt.2 p;refine bL hJ (by simp only[*,go_sem]) ?_;rw[List.drop_eq_nil_of_le p] at d;obtain rfl:=sI d;clear d;have h:=F;dsimp only[aG] at h;obtain rfl:=sI h;refine bN ?_;simp only[go_sem];refine ah hJ ?_;simp only[*,go_sem];refine az ?_;simp only[*,go_sem]
def pM (u0:(an->an->Option Bool))(i11:Nat)(a:an)(st:an):Option (Fl an an):=
 ag (u0 st a) fun b=>cond (b) (some (.nx a)) (some (.nx st))
def iq (u0:(an->an->Option Bool))(a:an)(b:(List an)):Option an:=
 ag (bF (pM u0) 0 b a) fun o=>aG o (fun c=>some c) (fun _ _=>none) (fun r=>some r)
theorem nt {ro:Addr->Option Value}(u0:(an->an->Option Bool)){dK:FuncId}{dZ ee:Array Value}(s:aH Tryz.prog dK=true/\∀(aM:Addr->Option Value),Ext ro aM->∀(i:an) (j:an) (z:Bool),u0 i j=some z->aC Tryz.prog dK (dZ++#[i.v,j.v]++ee) ⟨aM,[]⟩ (fun v _=>v= .bool z))(d:an)(b:(List an)){s1:Value}(k:aB k4 ro s1 b){r:an}(h:iq u0 d b=some r):aC Tryz.prog 77 #[.func (.func dK) dZ ee,.agg #[.int .i64 d.num,.int .i64 d.den],s1] ⟨ro,[]⟩ (fun v _=>v=r.v):=by
 obtain ⟨d3,c4,rfl,V,l,-⟩:=id k;unfold iq at h;refine aC.go Tryz.func77 rfl Tryz.ntmps77 Tryz.results77 (by simp) fun main J hJ A t hd hs=>?_;have u:=hs 0;have k1:=hs 1;have w:=hs 2;clear hs;refine ah hJ ?_;simp only[*,go_sem];refine ax fun y W B=>?_;try simp only[au] at B
 refine ax fun C X D=>?_;try simp only[au] at D
 try simp only[*,go_sem]
 refine af hJ (ah hJ ?_);simp only[*,go_sem];refine aQ hJ ?_;revert h;refine bS fun E c F=>?_;refine bU hJ [8,11,12,13,14,15,16,17,18,19,20] (fun m G F'=>∃(i11:Nat) (v10:an),m=b.length - i11/\i11<=b.length/\bF (pM u0) i11 (b.drop i11) v10=some E/\F'=⟨ro,(C,rt 0 0)::(y,rt v10.num v10.den)::[]⟩/\slot G 11= .int .i64 (i11:Int)) b.length ?_ ?_
 ·refine ⟨0,d,(Nat.sub_zero _).symm,Nat.zero_le _,c,rfl,?_⟩;simp only[*,go_sem]
 rintro Y Z F' o ⟨i11,v10,rfl,ab,c,rfl,ad⟩;obtain ⟨H,I,K⟩:=o.pick [0,4,6,9,10] (by decide);simp only[*,go_sem] at H I K;clear o t hd u k1 w;refine ah hJ ?_;simp only[*,go_sem];refine af hJ ?_;rcases Nat.lt_or_ge i11 b.length with L|p
 ·refine bP hJ (by simp only[*,go_sem]) ?_;refine aI hJ ?_;obtain ⟨e,f⟩:∃x,b[i11]?=some x:=⟨_,List.getElem?_eq_getElem L⟩
  rw[c8 f] at c;revert c;refine bS fun ae h q=>?_;unfold pM at h;try dsimp only at h
  obtain ⟨al,M,N,O,g⟩:=k.el _ _ f;obtain rfl:M=e.cells:=O;cases N;have P:=g 0 _ rfl;simp only[go_sem] at P;have Q:=g 1 _ rfl;simp only[go_sem] at Q;clear g f;refine af hJ (aQ hJ (af hJ ?_));refine aj hJ ?_;simp only[*,go_sem];refine ax fun ao ar R=>?_;try simp only[au] at R
  try simp only[*,go_sem]
  refine ah hJ ?_;revert h;refine bS fun a0 S h=>?_;simp only[*,go_sem];refine bg hJ _ (s.2 _ (fun a v h=>aR a v h) v10 e _ S) ?_;try simp only[*,go_sem]
  revert h;refine jC hJ (by simp only[*,go_sem]) (fun T h=>?_) fun T h=>?_
  ·obtain rfl:=sI h;refine aj hJ ?_;simp only[*,go_sem];have U:=cn (n:=i11) (by have:=l;omega);refine aj hJ ?_;simp only[*,go_sem];refine ⟨b.length - (i11+1),by omega,_,Le.sub (List.Sublist.cons _ (List.Sublist.refl _)),i11+1,e,rfl,by omega,q,rfl,?_⟩;simp only[*,go_sem]
  obtain rfl:=sI h;refine aI hJ ?_;have U:=cn (n:=i11) (by have:=l;omega);refine aj hJ ?_;simp only[*,go_sem];refine ⟨b.length - (i11+1),by omega,_,Le.sub (List.Sublist.cons _ (List.Sublist.refl _)),i11+1,v10,rfl,by omega,q,rfl,?_⟩;simp only[*,go_sem]
 have a2:=Nat.not_lt.2 p;refine bL hJ (by simp only[*,go_sem]) ?_;rw[List.drop_eq_nil_of_le p] at c;obtain rfl:=sI c;clear c;have h:=F;dsimp only[aG] at h;obtain rfl:=sI h;refine bN ?_;simp only[go_sem];refine ah hJ ?_;simp only[*,go_sem];refine az ?_;simp only[*,go_sem]
def mg (u0:bt)(a:bt):Option Bool:=
 ag (gb a u0) fun b=>some b
theorem FN {ro:Addr->Option Value}(u0:bt)(a:bt){r:Bool}(h:mg u0 a=some r):aC Tryz.prog 89 #[.agg #[.int .i64 u0.spot.aL,.int .i64 u0.spot.high.num,.int .i64 u0.spot.high.den,.int .i64 u0.at_,.int .i64 u0.high.num,.int .i64 u0.high.den],.agg #[.int .i64 a.spot.aL,.int .i64 a.spot.high.num,.int .i64 a.spot.high.den,.int .i64 a.at_,.int .i64 a.high.num,.int .i64 a.high.den]] ⟨ro,[]⟩ (fun v _=>v= .bool r):=by
 unfold mg at h;refine aC.go Tryz.func89 rfl Tryz.ntmps89 Tryz.results89 (by simp) fun main J hJ A c hd hs=>?_;have d:=hs 0;have k1:=hs 1;clear hs;refine ah hJ ?_;simp only[*,go_sem];refine ax fun e r1 n1=>?_;try simp only[au] at n1
 refine ax fun b2 r2 n2=>?_;try simp only[au] at n2
 try simp only[*,go_sem]
 refine ah hJ ?_;revert h;refine bS fun f b h=>?_;obtain rfl:=sI h;simp only[*,go_sem];refine bg hJ _ (rD a u0 b) (aJ ?_);try simp only[*,go_sem]
 refine az ?_;simp only[*,go_sem]
def rJ (u0:an)(a:an):Option Bool:=
 ag (ew a u0) fun b=>some b
theorem FO {ro:Addr->Option Value}(u0:an)(a:an){r:Bool}(h:rJ u0 a=some r):aC Tryz.prog 75 #[.agg #[.int .i64 u0.num,.int .i64 u0.den],.agg #[.int .i64 a.num,.int .i64 a.den]] ⟨ro,[]⟩ (fun v _=>v= .bool r):=by
 unfold rJ at h;refine aC.go Tryz.func75 rfl Tryz.ntmps75 Tryz.results75 (by simp) fun main J hJ A c hd hs=>?_;have d:=hs 0;have k1:=hs 1;clear hs;refine ah hJ ?_;simp only[*,go_sem];refine ax fun e r1 n1=>?_;try simp only[au] at n1
 refine ax fun b2 r2 n2=>?_;try simp only[au] at n2
 try simp only[*,go_sem]
 refine ah hJ ?_;revert h;refine bS fun f b h=>?_;obtain rfl:=sI h;simp only[*,go_sem];refine bg hJ _ (iW a u0 b) (aJ ?_);try simp only[*,go_sem]
 refine az ?_;simp only[*,go_sem]
def rK (u0:ak)(i32:Nat)(a:bO)(st:Int):Option (Fl Int Int):=
 ag (nk u0 a.aW) fun b=>cond (!b) (some (.rt 6)) (some (.nx st))
def mh (u0:ak):Option Int:=
 cond (decide (3<(u0.told.length:Int))) (some 2) (ag (bF (rK u0) 0 u0.told 0) fun o=>aG o (fun a=>some 0) (fun _ _=>none) (fun r=>some r))
theorem FP {ro:Addr->Option Value}(u0:ak){s1 c d j:Value}(e:bJ ro u0 s1 c d j){r:Int}(h:mh u0=some r):aC Tryz.prog 233 #[bv u0 s1 c d j] ⟨ro,[]⟩ (fun v _=>v= .int .i64 r):=by
 obtain ⟨d24,s,rfl,R,u,-⟩:=id e.t;unfold mh at h;refine aC.go Tryz.func233 rfl Tryz.ntmps233 Tryz.results233 (by simp) fun main J hJ A w hd hs=>?_;have y:=hs 0;clear hs;refine ah hJ ?_;simp only[*,go_sem];refine ax fun z S B=>?_;try simp only[au] at B
 try simp only[*,go_sem]
 refine af hJ (ah hJ ?_);simp only[*,go_sem];revert h;refine jC hJ (by simp only[*,go_sem]) (fun C h=>?_) fun C h=>?_
 ·obtain rfl:=sI h;refine ah hJ ?_;simp only[*,go_sem];refine az ?_;simp only[*,go_sem]
 refine aI hJ (af hJ ?_);refine ah hJ ?_;simp only[*,go_sem];refine aQ hJ ?_;revert h;refine bS fun D a k=>?_;refine bU hJ [2,4,14,15,16,17,18,19,20,21,22,23] (fun m l F'=>∃(i32:Nat) (b:Int),m=u0.told.length - i32/\i32<=u0.told.length/\bF (rK u0) i32 (u0.told.drop i32) b=some D/\F'=⟨ro,(z,bl u0 s1 c d (sl d24 u0.told s))::[]⟩/\slot l 14= .int .i64 (i32:Int)/\slot l 2= .int .i64 b) u0.told.length ?_ ?_
 ·refine ⟨0,0,(Nat.sub_zero _).symm,Nat.zero_le _,a,rfl,?_⟩;simp only[*,go_sem]
 rintro T U F' o ⟨i32,b,rfl,V,a,rfl,W,X⟩;obtain ⟨E,F,G⟩:=o.pick [1,12,13] (by decide);simp only[*,go_sem] at E F G;clear o w hd y;refine ah hJ ?_;simp only[*,go_sem];refine af hJ ?_;rcases Nat.lt_or_ge i32 u0.told.length with H|p
 ·refine bP hJ (by simp only[*,go_sem]) ?_;refine aI hJ ?_;obtain ⟨q,f⟩:∃x,u0.told[i32]?=some x:=⟨_,List.getElem?_eq_getElem H⟩
  rw[c8 f] at a;revert a;refine bS fun Y h g=>?_;unfold rK at h;try dsimp only at h
  obtain ⟨Z,I,K,L,i⟩:=e.t.el _ _ f;obtain rfl:I=q.cells:=L;cases K;have M:=i 0 _ rfl;simp only[go_sem] at M;have N:=i 1 _ rfl;simp only[go_sem] at N;clear i f;refine af hJ (aQ hJ (af hJ ?_));refine aj hJ ?_;simp only[*,go_sem];refine ax fun ab ad O=>?_;try simp only[au] at O
  try simp only[*,go_sem]
  refine ah hJ ?_;revert h;refine bS fun ae P h=>?_;simp only[*,go_sem];refine bg hJ _ (Aq u0 (e.mono aR) q.aW P) (aJ ?_);try simp only[*,go_sem]
  revert h;refine jC hJ (by simp only[*,go_sem]) (fun Q h=>?_) fun Q h=>?_
  ·obtain rfl:=sI h;refine ah hJ ?_;simp only[*,go_sem];obtain rfl:=sI g;clear g;have h:=k;dsimp only[aG] at h;obtain rfl:=sI h;refine az ?_;simp only[*,go_sem]
  obtain rfl:=sI h;refine aI hJ ?_;have al:=cn (n:=i32) (by have:=u;omega);refine aj hJ ?_;simp only[*,go_sem];refine ⟨u0.told.length - (i32+1),by omega,_,Le.sub (List.Sublist.cons _ (List.Sublist.refl _)),i32+1,b,rfl,by omega,g,rfl,?_⟩;simp only[*,go_sem]
 have ao:=Nat.not_lt.2 p;refine bL hJ (by simp only[*,go_sem]) ?_;rw[List.drop_eq_nil_of_le p] at a;obtain rfl:=sI a;clear a;have h:=k;dsimp only[aG] at h;obtain rfl:=sI h;refine bN ?_;simp only[go_sem];refine ah hJ ?_;simp only[*,go_sem];refine az ?_;simp only[*,go_sem]
def rM (i34:Nat)(a:bY)(st:Int):Option (Fl Int Int):=
 ag (fI a.back 1 20) fun b=>cond (!b) (some (.rt 1)) (ag (pG a.high 0 60) fun c=>cond (!c) (some (.rt 1)) (cond (decide (3<=(IntKind.i64.wrap (a.high.high - a.high.low)))) (some (.rt 1)) (some (.nx st))))
def mj (u0:ak):Option Int:=
 ag (fI (u0.aE.length:Int) 1 3) fun a=>cond (!a) (some 2) (ag (bF (rM) 0 u0.aE 0) fun o=>aG o (fun b=>some 0) (fun _ _=>none) (fun r=>some r))
theorem FQ {ro:Addr->Option Value}(u0:ak){s1 f k g:Value}(l:bJ ro u0 s1 f k g){r:Int}(h:mj u0=some r):aC Tryz.prog 232 #[bv u0 s1 f k g] ⟨ro,[]⟩ (fun v _=>v= .int .i64 r):=by
 obtain ⟨d17,s,rfl,W,t,-⟩:=id l.y;unfold mj at h;refine aC.go Tryz.func232 rfl Tryz.ntmps232 Tryz.results232 (by simp) fun main J hJ A u hd hs=>?_;have w:=hs 0;clear hs;refine ah hJ ?_;simp only[*,go_sem];refine ax fun z X B=>?_;try simp only[au] at B
 try simp only[*,go_sem]
 refine af hJ (ah hJ ?_);revert h;refine bS fun Y C h=>?_;simp only[*,go_sem];refine bg hJ _ (gy (u0.aE.length:Int) 1 3 C) (aJ ?_);try simp only[*,go_sem]
 revert h;refine jC hJ (by simp only[*,go_sem]) (fun D h=>?_) fun D h=>?_
 ·obtain rfl:=sI h;refine ah hJ ?_;simp only[*,go_sem];refine az ?_;simp only[*,go_sem]
 refine aI hJ (af hJ ?_);refine ah hJ ?_;simp only[*,go_sem];refine aQ hJ ?_;revert h;refine bS fun E a c=>?_;refine bU hJ [2,4,15,16,17,18,19,20,21,22,23,24,25,26,27,28,29,30,31,32,33,34,35,36,37,38,39] (fun m o F'=>∃(i34:Nat) (d:Int),m=u0.aE.length - i34/\i34<=u0.aE.length/\bF (rM) i34 (u0.aE.drop i34) d=some E/\F'=⟨ro,(z,bl u0 s1 f (sl d17 u0.aE s) g)::[]⟩/\slot o 15= .int .i64 (i34:Int)/\slot o 2= .int .i64 d) u0.aE.length ?_ ?_
 ·refine ⟨0,0,(Nat.sub_zero _).symm,Nat.zero_le _,a,rfl,?_⟩;simp only[*,go_sem]
 rintro Z ab F' p ⟨i34,d,rfl,ad,a,rfl,ae,al⟩;obtain ⟨F,G,H⟩:=p.pick [13,14] (by decide);simp only[*,go_sem] at F G H;clear p u hd w;refine ah hJ ?_;simp only[*,go_sem];refine af hJ ?_;rcases Nat.lt_or_ge i34 u0.aE.length with I|q
 ·refine bP hJ (by simp only[*,go_sem]) ?_;refine aI hJ ?_;obtain ⟨i,j⟩:∃x,u0.aE[i34]?=some x:=⟨_,List.getElem?_eq_getElem I⟩
  rw[c8 j] at a;revert a;refine bS fun ao h b=>?_;unfold rM at h;try dsimp only at h
  obtain ⟨ar,K,L,M,e⟩:=l.y.el _ _ j;obtain rfl:K=i.cells:=M;cases L;have N:=e 0 _ rfl;simp only[go_sem] at N;have O:=e 1 _ rfl;simp only[go_sem] at O;have P:=e 2 _ rfl;simp only[go_sem] at P;clear e j;refine af hJ (aQ hJ (af hJ ?_));refine aj hJ ?_;simp only[*,go_sem];refine ax fun a0 a2 Q=>?_;try simp only[au] at Q
  try simp only[*,go_sem]
  refine ah hJ ?_;revert h;refine bS fun a3 R h=>?_;simp only[*,go_sem];refine bg hJ _ (gy i.back 1 20 R) (aJ ?_);revert h;refine cS (fun S h=>?_) fun S h=>?_
  ·obtain rfl:=sI h;(try simp only[*,go_sem]);refine bP hJ (by simp only[*,go_sem]) ?_;refine ah hJ ?_;simp only[*,go_sem];obtain rfl:=sI b;clear b;have h:=c;dsimp only[aG] at h;obtain rfl:=sI h;refine az ?_;simp only[*,go_sem]
  revert h;refine bS fun a4 T h=>?_;try simp only[*,go_sem]
  refine bg hJ _ (Ap i.high 0 60 T) (aJ ?_);revert h;refine cS (fun U h=>?_) fun U h=>?_
  ·obtain rfl:=sI h;(try simp only[*,go_sem]);refine bP hJ (by simp only[*,go_sem]) ?_;refine ah hJ ?_;simp only[*,go_sem];obtain rfl:=sI b;clear b;have h:=c;dsimp only[aG] at h;obtain rfl:=sI h;refine az ?_;simp only[*,go_sem]
  try simp only[*,go_sem]
  revert h;refine jC hJ (by simp only[*,go_sem]) (fun V h=>?_) fun V h=>?_
  ·obtain rfl:=sI h;refine ah hJ ?_;simp only[*,go_sem];obtain rfl:=sI b;clear b;have h:=c;dsimp only[aG] at h;obtain rfl:=sI h;refine az ?_;simp only[*,go_sem]
  obtain rfl:=sI h;refine aI hJ ?_;have a5:=cn (n:=i34) (by have:=t;omega);refine aj hJ ?_;simp only[*,go_sem];refine ⟨u0.aE.length - (i34+1),by omega,_,Le.sub (List.Sublist.cons _ (List.Sublist.refl _)),i34+1,d,rfl,by omega,b,rfl,?_⟩;simp only[*,go_sem]
 have a6:=Nat.not_lt.2 q;refine bL hJ (by simp only[*,go_sem]) ?_;rw[List.drop_eq_nil_of_le q] at a;obtain rfl:=sI a;clear a;have h:=c;dsimp only[aG] at h;obtain rfl:=sI h;refine bN ?_;simp only[go_sem];refine ah hJ ?_;simp only[*,go_sem];refine az ?_;simp only[*,go_sem]
def rN (u0:ak)(i32:Nat)(a:ck)(st:Int):Option (Fl Int Int):=
 ag (gd u0 a.place) fun c=>cond (!c) (some (.rt 6)) (ag (gR a.dD u0) fun b=>cond ((b != 0)) (some (.rt b)) (some (.nx st)))
def mm (u0:ak):Option Int:=
 cond (decide (3<(u0.props.length:Int))) (some 2) (ag (bF (rN u0) 0 u0.props 0) fun o=>aG o (fun a=>some 0) (fun _ _=>none) (fun r=>some r))
theorem FR {ro:Addr->Option Value}(u0:ak){s1 l e f:Value}(c:bJ ro u0 s1 l e f){r:Int}(h:mm u0=some r):aC Tryz.prog 231 #[bv u0 s1 l e f] ⟨ro,[]⟩ (fun v _=>v= .int .i64 r):=by
 obtain ⟨d10,t,rfl,T,u,-⟩:=id c.p;unfold mm at h;refine aC.go Tryz.func231 rfl Tryz.ntmps231 Tryz.results231 (by simp) fun main J hJ A w hd hs=>?_;have y:=hs 0;clear hs;refine ah hJ ?_;simp only[*,go_sem];refine ax fun z U B=>?_;try simp only[au] at B
 try simp only[*,go_sem]
 refine af hJ (ah hJ ?_);simp only[*,go_sem];revert h;refine jC hJ (by simp only[*,go_sem]) (fun C h=>?_) fun C h=>?_
 ·obtain rfl:=sI h;refine ah hJ ?_;simp only[*,go_sem];refine az ?_;simp only[*,go_sem]
 refine aI hJ (af hJ ?_);refine ah hJ ?_;simp only[*,go_sem];refine aQ hJ ?_;revert h;refine bS fun D a g=>?_;refine bU hJ [2,4,5,15,16,17,18,19,20,21,22,23,24,25,26,27,28,29,30,31] (fun m o F'=>∃(i32:Nat) (d:Int),m=u0.props.length - i32/\i32<=u0.props.length/\bF (rN u0) i32 (u0.props.drop i32) d=some D/\F'=⟨ro,(z,bl u0 s1 (sl d10 u0.props t) e f)::[]⟩/\slot o 15= .int .i64 (i32:Int)/\slot o 2= .int .i64 d) u0.props.length ?_ ?_
 ·refine ⟨0,0,(Nat.sub_zero _).symm,Nat.zero_le _,a,rfl,?_⟩;simp only[*,go_sem]
 rintro V W F' q ⟨i32,d,rfl,X,a,rfl,Y,Z⟩;obtain ⟨E,F,G⟩:=q.pick [1,13,14] (by decide);simp only[*,go_sem] at E F G;clear q w hd y;refine ah hJ ?_;simp only[*,go_sem];refine af hJ ?_;rcases Nat.lt_or_ge i32 u0.props.length with H|s
 ·refine bP hJ (by simp only[*,go_sem]) ?_;refine aI hJ ?_;obtain ⟨i,j⟩:∃x,u0.props[i32]?=some x:=⟨_,List.getElem?_eq_getElem H⟩
  rw[c8 j] at a;revert a;refine bS fun ab h b=>?_;unfold rN at h;try dsimp only at h
  obtain ⟨ad,I,K,L,k⟩:=c.p.el _ _ j;obtain rfl:I=i.cells:=L;cases K;have M:=k 0 _ rfl;simp only[go_sem] at M;have N:=k 1 _ rfl;simp only[go_sem] at N;clear k j;refine af hJ (aQ hJ (af hJ ?_));refine aj hJ ?_;simp only[*,go_sem];refine ax fun ae al O=>?_;try simp only[au] at O
  try simp only[*,go_sem]
  refine af hJ (ah hJ ?_);revert h;refine bS fun ao P h=>?_;simp only[*,go_sem];refine bg hJ _ (rF u0 (c.mono aR) i.place P) (aJ ?_);try simp only[*,go_sem]
  revert h;refine jC hJ (by simp only[*,go_sem]) (fun Q h=>?_) fun Q h=>?_
  ·obtain rfl:=sI h;refine ah hJ ?_;simp only[*,go_sem];obtain rfl:=sI b;clear b;have h:=g;dsimp only[aG] at h;obtain rfl:=sI h;refine az ?_;simp only[*,go_sem]
  refine aI hJ (af hJ ?_);refine aj hJ ?_;revert h;refine bS fun ar R h=>?_;simp only[*,go_sem];refine bg hJ _ (vp i.dD u0 (c.mono aR) R) (aJ ?_);try simp only[*,go_sem]
  refine ah hJ ?_;simp only[*,go_sem];revert h;refine jC hJ (by simp only[*,go_sem]) (fun S h=>?_) fun S h=>?_
  ·obtain rfl:=sI h;refine ah hJ ?_;simp only[*,go_sem];obtain rfl:=sI b;clear b;have h:=g;dsimp only[aG] at h;obtain rfl:=sI h;refine az ?_;simp only[*,go_sem]
  obtain rfl:=sI h;refine aI hJ ?_;have a0:=cn (n:=i32) (by have:=u;omega);refine aj hJ ?_;simp only[*,go_sem];refine ⟨u0.props.length - (i32+1),by omega,_,Le.sub (List.Sublist.cons _ (List.Sublist.refl _)),i32+1,d,rfl,by omega,b,rfl,?_⟩;simp only[*,go_sem]
 have a2:=Nat.not_lt.2 s;refine bL hJ (by simp only[*,go_sem]) ?_;rw[List.drop_eq_nil_of_le s] at a;obtain rfl:=sI a;clear a;have h:=g;dsimp only[aG] at h;obtain rfl:=sI h;refine bN ?_;simp only[go_sem];refine ah hJ ?_;simp only[*,go_sem];refine az ?_;simp only[*,go_sem]
def rO (u0:ak)(i34:Nat)(a:b7)(st:Int):Option (Fl Int Int):=
 ag (fI a.aL 0 (IntKind.i64.wrap (u0.bE - 1))) fun b=>cond (!b) (some (.rt 1)) (ag (fI a.high 0 60) fun c=>cond (!c) (some (.rt 1)) (cond (decide (0<(i34:Int))) (ag (bp u0.ay (IntKind.i64.wrap ((i34:Int) - 1))) fun d=>cond (decide (a.aL<=d.aL)) (some (.rt 7)) (some (.nx st))) (some (.nx st))))
def k5 (u0:ak):Option Int:=
 ag (fI (u0.ay.length:Int) 2 5) fun a=>cond (!a) (some 2) (ag (bF (rO u0) 0 u0.ay 0) fun o=>aG o (fun b=>some 0) (fun _ _=>none) (fun r=>some r))
theorem FT {ro:Addr->Option Value}(u0:ak){s1 f g i:Value}(j:bJ ro u0 s1 f g i){r:Int}(h:k5 u0=some r):aC Tryz.prog 230 #[bv u0 s1 f g i] ⟨ro,[]⟩ (fun v _=>v= .int .i64 r):=by
 obtain ⟨d3,c4,rfl,ar,q,-⟩:=id j.e;unfold k5 at h;refine aC.go Tryz.func230 rfl Tryz.ntmps230 Tryz.results230 (by simp) fun main J hJ A y hd hs=>?_;have z:=hs 0;clear hs;refine ah hJ ?_;simp only[*,go_sem];refine ax fun B a0 C=>?_;try simp only[au] at C
 try simp only[*,go_sem]
 refine af hJ (ah hJ ?_);revert h;refine bS fun a2 D h=>?_;simp only[*,go_sem];refine bg hJ _ (gy (u0.ay.length:Int) 2 5 D) (aJ ?_);try simp only[*,go_sem]
 revert h;refine jC hJ (by simp only[*,go_sem]) (fun E h=>?_) fun E h=>?_
 ·obtain rfl:=sI h;refine ah hJ ?_;simp only[*,go_sem];refine az ?_;simp only[*,go_sem]
 refine aI hJ (af hJ ?_);refine ah hJ ?_;simp only[*,go_sem];refine aQ hJ ?_;revert h;refine bS fun F b d=>?_;refine bU hJ [2,3,4,15,16,17,18,19,20,21,22,23,24,25,26,27,28,29,30,31,32,33,34,35,36,37,38,39,40,41,42,43,44,45,46,47,48,49] (fun m s F'=>∃(i34:Nat) (c:Int),m=u0.ay.length - i34/\i34<=u0.ay.length/\bF (rO u0) i34 (u0.ay.drop i34) c=some F/\F'=⟨ro,(B,bl u0 (sl d3 u0.ay c4) f g i)::[]⟩/\slot s 15= .int .i64 (i34:Int)/\slot s 2= .int .i64 c) u0.ay.length ?_ ?_
 ·refine ⟨0,0,(Nat.sub_zero _).symm,Nat.zero_le _,b,rfl,?_⟩;simp only[*,go_sem]
 rintro a3 a4 F' t ⟨i34,c,rfl,a5,b,rfl,a6,a7⟩;obtain ⟨G,H,I⟩:=t.pick [1,13,14] (by decide);simp only[*,go_sem] at G H I;clear t y hd z;refine ah hJ ?_;simp only[*,go_sem];refine af hJ ?_;rcases Nat.lt_or_ge i34 u0.ay.length with K|u
 ·refine bP hJ (by simp only[*,go_sem]) ?_;refine aI hJ ?_;obtain ⟨k,l⟩:∃x,u0.ay[i34]?=some x:=⟨_,List.getElem?_eq_getElem K⟩
  rw[c8 l] at b;revert b;refine bS fun a8 h a=>?_;unfold rO at h;try dsimp only at h
  obtain ⟨a9,L,M,N,o⟩:=j.e.el _ _ l;obtain rfl:L=k.cells:=N;cases M;have O:=o 0 _ rfl;simp only[go_sem] at O;have P:=o 1 _ rfl;simp only[go_sem] at P;clear o l;refine af hJ (aQ hJ (af hJ ?_));refine aj hJ ?_;simp only[*,go_sem];refine ax fun ba bb Q=>?_;try simp only[au] at Q
  try simp only[*,go_sem]
  refine aQ hJ (af hJ ?_);refine ah hJ ?_;revert h;refine bS fun bc R h=>?_;simp only[*,go_sem];refine bg hJ _ (gy k.aL 0 (IntKind.i64.wrap (u0.bE - 1)) R) (aJ ?_);try simp only[*,go_sem]
  revert h;refine jC hJ (by simp only[*,go_sem]) (fun S h=>?_) fun S h=>?_
  ·obtain rfl:=sI h;refine aI hJ ?_;refine bP hJ (by simp only[*,go_sem]) ?_;refine ah hJ ?_;simp only[*,go_sem];obtain rfl:=sI a;clear a;have h:=d;dsimp only[aG] at h;obtain rfl:=sI h;refine az ?_;simp only[*,go_sem]
  refine aj hJ ?_;revert h;refine bS fun bd T h=>?_;simp only[*,go_sem];refine bg hJ _ (gy k.high 0 60 T) (aJ ?_);try simp only[*,go_sem]
  revert h;refine jC hJ (by simp only[*,go_sem]) (fun U h=>?_) fun U h=>?_
  ·obtain rfl:=sI h;refine ah hJ ?_;simp only[*,go_sem];obtain rfl:=sI a;clear a;have h:=d;dsimp only[aG] at h;obtain rfl:=sI h;refine az ?_;simp only[*,go_sem]
  refine af hJ ?_;refine cR hJ mixed 16 2 (by simp only[*,go_sem]) (by kernel_rfl) ?_;revert h;refine cS (fun V h=>?_) fun V h=>?_
  ·revert h;refine bS fun W X h=>?_;obtain ⟨bj,bk,w⟩:=c5 X;obtain ⟨bm,Y,Z,ab,p⟩:=j.e.el _ _ w;obtain rfl:Y=W.cells:=ab;cases Z;have ad:=p 0 _ rfl;simp only[go_sem] at ad;have ae:=p 1 _ rfl;simp only[go_sem] at ae;clear p w;(try simp only[*,go_sem]);revert h;refine jC hJ (by simp only[*,go_sem]) (fun al h=>?_) fun al h=>?_
   ·obtain rfl:=sI h;refine ah hJ ?_;simp only[*,go_sem];obtain rfl:=sI a;clear a;have h:=d;dsimp only[aG] at h;obtain rfl:=sI h;refine az ?_;simp only[*,go_sem]
   obtain rfl:=sI h;refine aI hJ ?_;have ao:=cn (n:=i34) (by have:=q;omega);refine aj hJ ?_;simp only[*,go_sem];refine ⟨u0.ay.length - (i34+1),by omega,_,Le.sub (List.Sublist.cons _ (List.Sublist.refl _)),i34+1,c,rfl,by omega,a,rfl,?_⟩;simp only[*,go_sem]
  obtain rfl:=sI h;try simp only[*,go_sem]
  refine bL hJ (by simp only[*,go_sem]) ?_;refine aI hJ ?_;have ao:=cn (n:=i34) (by have:=q;omega);refine aj hJ ?_;simp only[*,go_sem];refine ⟨u0.ay.length - (i34+1),by omega,_,Le.sub (List.Sublist.cons _ (List.Sublist.refl _)),i34+1,c,rfl,by omega,a,rfl,?_⟩;simp only[*,go_sem]
 have bo:=Nat.not_lt.2 u;refine bL hJ (by simp only[*,go_sem]) ?_;rw[List.drop_eq_nil_of_le u] at b;obtain rfl:=sI b;clear b;have h:=d;dsimp only[aG] at h;obtain rfl:=sI h;refine bN ?_;simp only[go_sem];refine ah hJ ?_;simp only[*,go_sem];refine az ?_;simp only[*,go_sem]
def nu (u0:ak):Option Int:=
 ag (fI u0.bE 2 60) fun b=>cond (!b) (some 1) (ag (fI u0.bI 0 60) fun c=>cond (!c) (some 1) (ag (fI u0.aN.den 1 20) fun d=>cond (!d) (some 1) (ag (fI u0.aN.num 0 20) fun e=>cond (!e) (some 1) (ag (j7 u0.aN.num u0.aN.den) fun a=>cond (!((a.num==u0.aN.num)&&(a.den==u0.aN.den))) (some 3) (some 0)))))
theorem FU {ro:Addr->Option Value}(u0:ak){s1 a b c:Value}(z:bJ ro u0 s1 a b c){r:Int}(h:nu u0=some r):aC Tryz.prog 229 #[bv u0 s1 a b c] ⟨ro,[]⟩ (fun v _=>v= .int .i64 r):=by
 unfold nu at h;refine aC.go Tryz.func229 rfl Tryz.ntmps229 Tryz.results229 (by simp) fun main J hJ A d hd hs=>?_;have e:=hs 0;clear hs;refine ah hJ ?_;simp only[*,go_sem];refine ax fun B C f=>?_;try simp only[au] at f
 try simp only[*,go_sem]
 refine af hJ (aQ hJ (af hJ ?_));refine ah hJ ?_;revert h;refine bS fun D g h=>?_;simp only[*,go_sem];refine bg hJ _ (gy u0.bE 2 60 g) (aJ ?_);try simp only[*,go_sem]
 revert h;refine jC hJ (by simp only[*,go_sem]) (fun i h=>?_) fun i h=>?_
 ·obtain rfl:=sI h;refine aI hJ ?_;refine bP hJ (by simp only[*,go_sem]) ?_;refine ah hJ ?_;simp only[*,go_sem];refine az ?_;simp only[*,go_sem]
 refine ah hJ ?_;revert h;refine bS fun E j h=>?_;simp only[*,go_sem];refine bg hJ _ (gy u0.bI 0 60 j) (aJ ?_);try simp only[*,go_sem]
 revert h;refine jC hJ (by simp only[*,go_sem]) (fun k h=>?_) fun k h=>?_
 ·obtain rfl:=sI h;refine aI hJ ?_;refine bP hJ (by simp only[*,go_sem]) ?_;refine ah hJ ?_;simp only[*,go_sem];refine az ?_;simp only[*,go_sem]
 refine ah hJ ?_;revert h;refine bS fun G l h=>?_;simp only[*,go_sem];refine bg hJ _ (gy u0.aN.den 1 20 l) (aJ ?_);try simp only[*,go_sem]
 revert h;refine jC hJ (by simp only[*,go_sem]) (fun m h=>?_) fun m h=>?_
 ·obtain rfl:=sI h;refine aI hJ ?_;refine bP hJ (by simp only[*,go_sem]) ?_;refine ah hJ ?_;simp only[*,go_sem];refine az ?_;simp only[*,go_sem]
 refine aj hJ ?_;revert h;refine bS fun H n h=>?_;simp only[*,go_sem];refine bg hJ _ (gy u0.aN.num 0 20 n) (aJ ?_);try simp only[*,go_sem]
 revert h;refine jC hJ (by simp only[*,go_sem]) (fun o h=>?_) fun o h=>?_
 ·obtain rfl:=sI h;refine ah hJ ?_;simp only[*,go_sem];refine az ?_;simp only[*,go_sem]
 refine af hJ ?_;refine cR hJ mixed 14 1 (by simp only[*,go_sem]) (by kernel_rfl) ?_;revert h;refine bS fun I p h=>?_;simp only[*,go_sem];refine ⟨_,bD hJ fun F K=>pI u0.aN.num u0.aN.den p,bZ ?_⟩;try simp only[*,go_sem]
 revert h;refine jC hJ (by simp only[*,go_sem]) (fun q h=>?_) fun q h=>?_
 ·obtain rfl:=sI h;refine af hJ ?_;refine eV [2] fun L s t u=>?_;simp only[*,go_sem] at s t u;clear d hd e;refine aj hJ ?_;simp only[*,go_sem];refine az ?_;simp only[*,go_sem]
 obtain rfl:=sI h;refine aI hJ (af hJ ?_);refine eV [2] fun M w x y=>?_;simp only[*,go_sem] at w x y;clear d hd e;refine aj hJ ?_;simp only[*,go_sem];refine az ?_;simp only[*,go_sem]
def de (ro:Addr->Option Value):Prop:=
 ro ⟨0,0,none⟩=some (.func (.func 229) #[] #[])/\ro ⟨0,1,none⟩=some (.func (.func 230) #[] #[])/\ro ⟨0,2,none⟩=some (.func (.func 231) #[] #[])/\ro ⟨0,3,none⟩=some (.func (.func 232) #[] #[])/\ro ⟨0,4,none⟩=some (.func (.func 233) #[] #[])
theorem de.mono {ro aM:Addr->Option Value}(h:de ro)(a:Ext ro aM):de aM:=
 ⟨a _ _ h.1,a _ _ h.2.1,a _ _ h.2.2.1,a _ _ h.2.2.2.1,a _ _ h.2.2.2.2⟩
def nv (_:ak):Option Int:=some 0
def k6 (b:ak):Option Int:=ag (mh b) fun x=>cond (x != 0) (some x) (nv b)
def k7 (b:ak):Option Int:=ag (mj b) fun x=>cond (x != 0) (some x) (k6 b)
def k8 (b:ak):Option Int:=ag (mm b) fun x=>cond (x != 0) (some x) (k7 b)
def k9 (b:ak):Option Int:=ag (k5 b) fun x=>cond (x != 0) (some x) (k8 b)
def ja (b:ak):Option Int:=ag (nu b) fun x=>cond (x != 0) (some x) (k9 b)
def eX (b:ak):Option Int:=ja b
def rP:Nat->ak->Option Int
 |0=>ja|1=>k9|2=>k8|3=>k7|4=>k6|_=>nv
theorem As {ro:Addr->Option Value}(o:de ro)(u0:ak){s1:Value}(e:aB eW ro s1 u0.ay){s2:Value}(f:aB er ro s2 u0.props){g:Value}(j:aB eN ro g u0.aE){k:Value}(l:aB dc ro k u0.told){r:Int}(h:eX u0=some r):
  aC Tryz.prog 92 #[.agg #[.int .i64 u0.bE,.int .i64 u0.bI,.int .i64 u0.aN.num,.int .i64 u0.aN.den,s1,s2,g,k]] ⟨ro,[]⟩ (fun v _=>v= .int .i64 r):=by
 obtain ⟨s,t,u,w,y⟩:=o
 replace h:rP 0 u0=some r:=h
 refine aC.go Tryz.func92 rfl Tryz.ntmps92 Tryz.results92 (by simp) fun main J hJ A p hd hs=>?_
 have h0:=hs 0
 clear hs
 first|refine aj hJ ?_|refine ah hJ ?_|refine af hJ (ah hJ ?_)|refine af hJ (af hJ (ah hJ ?_))
 simp only[*,go_sem]
 intro d f1;have r1:=eB f1;have n1:=fE f1;simp only[au] at n1
 first|refine aj hJ ?_|refine ah hJ ?_|refine af hJ (ah hJ ?_)|refine af hJ (af hJ (ah hJ ?_))
 simp only[*,go_sem]
 first|refine aQ hJ (uP hJ (fun m a F=>∃i:Nat,F=⟨ro,[(d,.cells #[.int .i64 u0.bE,.int .i64 u0.bI,.int .i64 u0.aN.num,.int .i64 u0.aN.den,s1,s2,g,k] 29)]⟩/\m=5 - i/\sz a=18/\a.defers=[]/\slot a 1= .pointer (some ⟨d,0,none⟩)/\slot a 6= .agg #[.func (.func 229) #[] #[],.func (.func 230) #[] #[],.func (.func 231) #[] #[],.func (.func 232) #[] #[],.func (.func 233) #[] #[]]/\slot a 7= .int .i64 i/\i<=5/\rP i u0=some r) (5) ?_ ?_)|refine af hJ (aQ hJ (uP hJ (fun m a F=>∃i:Nat,F=⟨ro,[(d,.cells #[.int .i64 u0.bE,.int .i64 u0.bI,.int .i64 u0.aN.num,.int .i64 u0.aN.den,s1,s2,g,k] 29)]⟩/\m=5 - i/\sz a=18/\a.defers=[]/\slot a 1= .pointer (some ⟨d,0,none⟩)/\slot a 6= .agg #[.func (.func 229) #[] #[],.func (.func 230) #[] #[],.func (.func 231) #[] #[],.func (.func 232) #[] #[],.func (.func 233) #[] #[]]/\slot a 7= .int .i64 i/\i<=5/\rP i u0=some r) (5) ?_ ?_))|refine af hJ (af hJ (aQ hJ (uP hJ (fun m a F=>∃i:Nat,F=⟨ro,[(d,.cells #[.int .i64 u0.bE,.int .i64 u0.bI,.int .i64 u0.aN.num,.int .i64 u0.aN.den,s1,s2,g,k] 29)]⟩/\m=5 - i/\sz a=18/\a.defers=[]/\slot a 1= .pointer (some ⟨d,0,none⟩)/\slot a 6= .agg #[.func (.func 229) #[] #[],.func (.func 230) #[] #[],.func (.func 231) #[] #[],.func (.func 232) #[] #[],.func (.func 233) #[] #[]]/\slot a 7= .int .i64 i/\i<=5/\rP i u0=some r) (5) ?_ ?_)))
 ·refine ⟨0,rfl,rfl,?_⟩
  simp only[*,go_sem,-h]
  exact ⟨Nat.zero_le _,h⟩
 ·clear h
  rintro m a F ⟨i,rfl,rfl,p,hd,h1,z,B,hi,h⟩
  rcases i with _|_|_|_|_|i
  ·replace h:ag (nu u0) (fun x=>cond (x != 0) (some x) (k9 u0))=some r:=h
   have b:=fM h;clear h;obtain ⟨x,q,h⟩:=b
   have n:((0:Nat):Int)=0:=rfl
   first|refine aj hJ ?_|refine ah hJ ?_|refine af hJ (ah hJ ?_)|refine af hJ (af hJ (ah hJ ?_))
   simp only[*,go_sem,-h]
   refine af hJ ?_
   refine bP hJ (by simp only[*,go_sem,-h]) ?_
   refine aI hJ ?_
   refine af hJ (aQ hJ ?_)
   first|refine aj hJ ?_|refine ah hJ ?_|refine af hJ (ah hJ ?_)|refine af hJ (af hJ (ah hJ ?_))
   simp only[*,go_sem,-h]
   first|refine aj hJ ?_|refine ah hJ ?_|refine af hJ (ah hJ ?_)|refine af hJ (af hJ (ah hJ ?_))
   simp only[*,go_sem,-h]
   refine bg hJ _ (FU u0 ⟨(e.mono aR),(f.mono aR),(j.mono aR),(l.mono aR)⟩ q) (aJ ?_)
   simp only[*,go_sem,-h]
   first|refine aj hJ ?_|refine ah hJ ?_|refine af hJ (ah hJ ?_)|refine af hJ (af hJ (ah hJ ?_))
   simp only[*,go_sem,-h]
   have b:=iR h;clear h;rcases b with ⟨c,h⟩|⟨c,h⟩
   ·refine bP hJ (by simp only[*,go_sem,-h]) ?_
    first|refine aj hJ ?_|refine ah hJ ?_|refine af hJ (ah hJ ?_)|refine af hJ (af hJ (ah hJ ?_))
    simp only[*,go_sem,-h]
    have b:=Option.some.inj h;clear h;subst b
    refine az ?_
    simp only[*,go_sem]
   ·refine bL hJ (by simp only[*,go_sem,-h]) ?_
    refine aI hJ ?_
    refine aj hJ ?_
    simp only[*,go_sem,-h]
    refine ⟨5 - 1,by omega,_,Le.refl _,1,rfl,rfl,?_⟩
    have hw:IntKind.i64.wrap (0+1)=((1:Nat):Int):=by decide
    simp only[*,go_sem,-h]
    exact ⟨by omega,h⟩
  ·replace h:ag (k5 u0) (fun x=>cond (x != 0) (some x) (k8 u0))=some r:=h
   have b:=fM h;clear h;obtain ⟨x,q,h⟩:=b
   have n:((0+1:Nat):Int)=1:=rfl
   first|refine aj hJ ?_|refine ah hJ ?_|refine af hJ (ah hJ ?_)|refine af hJ (af hJ (ah hJ ?_))
   simp only[*,go_sem,-h]
   refine af hJ ?_
   refine bP hJ (by simp only[*,go_sem,-h]) ?_
   refine aI hJ ?_
   refine af hJ (aQ hJ ?_)
   first|refine aj hJ ?_|refine ah hJ ?_|refine af hJ (ah hJ ?_)|refine af hJ (af hJ (ah hJ ?_))
   simp only[*,go_sem,-h]
   first|refine aj hJ ?_|refine ah hJ ?_|refine af hJ (ah hJ ?_)|refine af hJ (af hJ (ah hJ ?_))
   simp only[*,go_sem,-h]
   refine bg hJ _ (FT u0 ⟨(e.mono aR),(f.mono aR),(j.mono aR),(l.mono aR)⟩ q) (aJ ?_)
   simp only[*,go_sem,-h]
   first|refine aj hJ ?_|refine ah hJ ?_|refine af hJ (ah hJ ?_)|refine af hJ (af hJ (ah hJ ?_))
   simp only[*,go_sem,-h]
   have b:=iR h;clear h;rcases b with ⟨c,h⟩|⟨c,h⟩
   ·refine bP hJ (by simp only[*,go_sem,-h]) ?_
    first|refine aj hJ ?_|refine ah hJ ?_|refine af hJ (ah hJ ?_)|refine af hJ (af hJ (ah hJ ?_))
    simp only[*,go_sem,-h]
    have b:=Option.some.inj h;clear h;subst b
    refine az ?_
    simp only[*,go_sem]
   ·refine bL hJ (by simp only[*,go_sem,-h]) ?_
    refine aI hJ ?_
    refine aj hJ ?_
    simp only[*,go_sem,-h]
    refine ⟨5 - 2,by omega,_,Le.refl _,2,rfl,rfl,?_⟩
    have hw:IntKind.i64.wrap (1+1)=((2:Nat):Int):=by decide
    simp only[*,go_sem,-h]
    exact ⟨by omega,h⟩
  ·replace h:ag (mm u0) (fun x=>cond (x != 0) (some x) (k7 u0))=some r:=h
   have b:=fM h;clear h;obtain ⟨x,q,h⟩:=b
   have n:((0+1+1:Nat):Int)=2:=rfl
   first|refine aj hJ ?_|refine ah hJ ?_|refine af hJ (ah hJ ?_)|refine af hJ (af hJ (ah hJ ?_))
   simp only[*,go_sem,-h]
   refine af hJ ?_
   refine bP hJ (by simp only[*,go_sem,-h]) ?_
   refine aI hJ ?_
   refine af hJ (aQ hJ ?_)
   first|refine aj hJ ?_|refine ah hJ ?_|refine af hJ (ah hJ ?_)|refine af hJ (af hJ (ah hJ ?_))
   simp only[*,go_sem,-h]
   first|refine aj hJ ?_|refine ah hJ ?_|refine af hJ (ah hJ ?_)|refine af hJ (af hJ (ah hJ ?_))
   simp only[*,go_sem,-h]
   refine bg hJ _ (FR u0 ⟨(e.mono aR),(f.mono aR),(j.mono aR),(l.mono aR)⟩ q) (aJ ?_)
   simp only[*,go_sem,-h]
   first|refine aj hJ ?_|refine ah hJ ?_|refine af hJ (ah hJ ?_)|refine af hJ (af hJ (ah hJ ?_))
   simp only[*,go_sem,-h]
   have b:=iR h;clear h;rcases b with ⟨c,h⟩|⟨c,h⟩
   ·refine bP hJ (by simp only[*,go_sem,-h]) ?_
    first|refine aj hJ ?_|refine ah hJ ?_|refine af hJ (ah hJ ?_)|refine af hJ (af hJ (ah hJ ?_))
    simp only[*,go_sem,-h]
    have b:=Option.some.inj h;clear h;subst b
    refine az ?_
    simp only[*,go_sem]
   ·refine bL hJ (by simp only[*,go_sem,-h]) ?_
    refine aI hJ ?_
    refine aj hJ ?_
    simp only[*,go_sem,-h]
    refine ⟨5 - 3,by omega,_,Le.refl _,3,rfl,rfl,?_⟩
    have hw:IntKind.i64.wrap (2+1)=((3:Nat):Int):=by decide
    simp only[*,go_sem,-h]
    exact ⟨by omega,h⟩
  ·replace h:ag (mj u0) (fun x=>cond (x != 0) (some x) (k6 u0))=some r:=h
   have b:=fM h;clear h;obtain ⟨x,q,h⟩:=b
   have n:((0+1+1+1:Nat):Int)=3:=rfl
   first|refine aj hJ ?_|refine ah hJ ?_|refine af hJ (ah hJ ?_)|refine af hJ (af hJ (ah hJ ?_))
   simp only[*,go_sem,-h]
   refine af hJ ?_
   refine bP hJ (by simp only[*,go_sem,-h]) ?_
   refine aI hJ ?_
   refine af hJ (aQ hJ ?_)
   first|refine aj hJ ?_|refine ah hJ ?_|refine af hJ (ah hJ ?_)|refine af hJ (af hJ (ah hJ ?_))
   simp only[*,go_sem,-h]
   first|refine aj hJ ?_|refine ah hJ ?_|refine af hJ (ah hJ ?_)|refine af hJ (af hJ (ah hJ ?_))
   simp only[*,go_sem,-h]
   refine bg hJ _ (FQ u0 ⟨(e.mono aR),(f.mono aR),(j.mono aR),(l.mono aR)⟩ q) (aJ ?_)
   simp only[*,go_sem,-h]
   first|refine aj hJ ?_|refine ah hJ ?_|refine af hJ (ah hJ ?_)|refine af hJ (af hJ (ah hJ ?_))
   simp only[*,go_sem,-h]
   have b:=iR h;clear h;rcases b with ⟨c,h⟩|⟨c,h⟩
   ·refine bP hJ (by simp only[*,go_sem,-h]) ?_
    first|refine aj hJ ?_|refine ah hJ ?_|refine af hJ (ah hJ ?_)|refine af hJ (af hJ (ah hJ ?_))
    simp only[*,go_sem,-h]
    have b:=Option.some.inj h;clear h;subst b
    refine az ?_
    simp only[*,go_sem]
   ·refine bL hJ (by simp only[*,go_sem,-h]) ?_
    refine aI hJ ?_
    refine aj hJ ?_
    simp only[*,go_sem,-h]
    refine ⟨5 - 4,by omega,_,Le.refl _,4,rfl,rfl,?_⟩
    have hw:IntKind.i64.wrap (3+1)=((4:Nat):Int):=by decide
    simp only[*,go_sem,-h]
    exact ⟨by omega,h⟩
  ·replace h:ag (mh u0) (fun x=>cond (x != 0) (some x) (nv u0))=some r:=h
   have b:=fM h;clear h;obtain ⟨x,q,h⟩:=b
   have n:((0+1+1+1+1:Nat):Int)=4:=rfl
   first|refine aj hJ ?_|refine ah hJ ?_|refine af hJ (ah hJ ?_)|refine af hJ (af hJ (ah hJ ?_))
   simp only[*,go_sem,-h]
   refine af hJ ?_
   refine bP hJ (by simp only[*,go_sem,-h]) ?_
   refine aI hJ ?_
   refine af hJ (aQ hJ ?_)
   first|refine aj hJ ?_|refine ah hJ ?_|refine af hJ (ah hJ ?_)|refine af hJ (af hJ (ah hJ ?_))
   simp only[*,go_sem,-h]
   first|refine aj hJ ?_|refine ah hJ ?_|refine af hJ (ah hJ ?_)|refine af hJ (af hJ (ah hJ ?_))
   simp only[*,go_sem,-h]
   refine bg hJ _ (FP u0 ⟨(e.mono aR),(f.mono aR),(j.mono aR),(l.mono aR)⟩ q) (aJ ?_)
   simp only[*,go_sem,-h]
   first|refine aj hJ ?_|refine ah hJ ?_|refine af hJ (ah hJ ?_)|refine af hJ (af hJ (ah hJ ?_))
   simp only[*,go_sem,-h]
   have b:=iR h;clear h;rcases b with ⟨c,h⟩|⟨c,h⟩
   ·refine bP hJ (by simp only[*,go_sem,-h]) ?_
    first|refine aj hJ ?_|refine ah hJ ?_|refine af hJ (ah hJ ?_)|refine af hJ (af hJ (ah hJ ?_))
    simp only[*,go_sem,-h]
    have b:=Option.some.inj h;clear h;subst b
    refine az ?_
    simp only[*,go_sem]
   ·refine bL hJ (by simp only[*,go_sem,-h]) ?_
    refine aI hJ ?_
    refine aj hJ ?_
    simp only[*,go_sem,-h]
    refine ⟨5 - 5,by omega,_,Le.refl _,5,rfl,rfl,?_⟩
    have hw:IntKind.i64.wrap (4+1)=((5:Nat):Int):=by decide
    simp only[*,go_sem,-h]
    exact ⟨by omega,h⟩
  ·have:i=0:=by omega
   subst this
   replace h:some 0=some r:=h
   have n:((0+1+1+1+1+1:Nat):Int)=5:=rfl
   first|refine aj hJ ?_|refine ah hJ ?_|refine af hJ (ah hJ ?_)|refine af hJ (af hJ (ah hJ ?_))
   simp only[*,go_sem,-h]
   refine af hJ ?_
   refine bL hJ (by simp only[*,go_sem,-h]) ?_
   refine bN ?_
   simp only[go_sem]
   first|refine aj hJ ?_|refine ah hJ ?_|refine af hJ (ah hJ ?_)|refine af hJ (af hJ (ah hJ ?_))
   simp only[*,go_sem,-h]
   have b:=Option.some.inj h;clear h;subst b
   refine az ?_
   simp only[*,go_sem]
def ny (u0:ak)(b:aU)(i39:Nat)(a:b7)(st:(List bt)):Option (Fl (List bt) bt):=
 ag (ga a.high) fun c=>ag (j8 u0 b (i39:Int) (⟨a.aL,c⟩:gQ)) fun d=>ag (c6 st ([d])) fun e=>some (.nx e)
def jz (u0:ak)(b:aU):Option bt:=
 ag (bF (ny u0 b) 0 u0.ay ([]:List bt)) fun o=>aG o (fun a=>ag (bp a 0) fun c=>ag (g9 a 1 (a.length:Int)) fun d=>ag (iZ gb c d) fun e=>some e) (fun _ _=>none) (fun r=>some r)
theorem rQ {ro:Addr->Option Value}(u0:ak){s1 f g i:Value}(u:bJ ro u0 s1 f g i)(b:aU){r:bt}(h:jz u0 b=some r):aC Tryz.prog 86 #[bv u0 s1 f g i,.agg #[.int .i64 b.back,.int .i64 b.high]] ⟨ro,[]⟩ (fun v _=>v=r.v):=by
 obtain ⟨d3,c4,rfl,dE,W,-⟩:=id u.e;unfold jz at h;refine aC.go Tryz.func86 rfl Tryz.ntmps86 Tryz.results86 (by simp) fun main J hJ A X hd hs=>?_;have Y:=hs 0;have k1:=hs 1;clear hs;refine ah hJ ?_;simp only[*,go_sem];refine ax fun o Z ab=>?_;try simp only[au] at ab
 refine ax fun p ad ae=>?_;try simp only[au] at ae
 refine ax fun q al ao=>?_;try simp only[au] at ao
 try simp only[*,go_sem]
 refine ah hJ ?_;simp only[*,go_sem];refine af hJ (ah hJ ?_);simp only[*,go_sem];refine aQ hJ ?_;revert h;refine bS fun ar j a0=>?_;refine bU hJ [5,6,7,12,13,14,15,16,17,18,19,20,21,22,23,24,25,26,27,28,29,30] (fun m G F'=>∃(i39:Nat) (d33:Option Addr) (s:Nat) (w:List (Nat×Obj)) (c:(List bt)),m=u0.ay.length - i39/\i39<=u0.ay.length/\bF (ny u0 b) i39 (u0.ay.drop i39) c=some ar/\F'=⟨ro,(q,.cells #[.int .i64 0,.int .i64 0,.int .i64 0,.int .i64 0,.int .i64 0,.int .i64 0] 147)::(p,.cells #[.int .i64 b.back,.int .i64 b.high] 134)::(o,bl u0 (sl d3 u0.ay c4) f g i)::w⟩/\aO j6 ro 147 (.slice d33 c.length s) c w/\c.length<=s/\slot G 12= .int .i64 (i39:Int)/\slot G 5= .slice d33 c.length s) u0.ay.length ?_ ?_
 ·refine ⟨0,none,0,[],([]:List bt),(Nat.sub_zero _).symm,Nat.zero_le _,j,rfl,aO.nil _ _ _,Nat.le_refl _,?_⟩;simp only[*,go_sem]
 rintro dT ea F' H ⟨i39,d33,s,w,c,rfl,eb,j,rfl,I,ec,ed,eh⟩;obtain ⟨a2,a3,a4⟩:=H.pick [2,3,4,10,11] (by decide);simp only[*,go_sem] at a2 a3 a4;clear H X hd Y k1;refine ah hJ ?_;simp only[*,go_sem];refine af hJ ?_;rcases Nat.lt_or_ge i39 u0.ay.length with a5|K
 ·refine bP hJ (by simp only[*,go_sem]) ?_;refine aI hJ ?_;obtain ⟨d,y⟩:∃x,u0.ay[i39]?=some x:=⟨_,List.getElem?_eq_getElem a5⟩
  rw[c8 y] at j;revert j;refine bS fun et h a6=>?_;unfold ny at h;try dsimp only at h
  obtain ⟨z,a7,a8,a9,B⟩:=u.e.el _ _ y;obtain rfl:a7=d.cells:=a9;cases a8;have ba:=B 0 _ rfl;simp only[go_sem] at ba;have bb:=B 1 _ rfl;simp only[go_sem] at bb;clear B y;refine af hJ (aQ hJ (af hJ ?_));refine aA hJ fun bc=>?_;refine aj hJ ?_;simp only[*,go_sem];refine ax fun C eu L=>?_;have ev:=aP.cons L bc;try simp only[au] at L
  try simp only[*,go_sem]
  refine aA hJ fun bd=>?_;refine e9 hJ mixed 11 ⟨ro,[(C,.cells #[.int .i64 d.aL,.int .i64 d.high] 85),(q,.cells #[.int .i64 0,.int .i64 0,.int .i64 0,.int .i64 0,.int .i64 0,.int .i64 0] 147),(p,.cells #[.int .i64 b.back,.int .i64 b.high] 134),(o,bl u0 (sl (some z) u0.ay c4) f g i)]⟩ (by simp only[*,go_sem]) (by kernel_rfl) ?_;revert h;refine bS fun bj bk h=>?_;simp only[*,go_sem];refine ⟨_,bD hJ fun F t=>jy d.high bk,bZ ?_⟩;revert h;refine bS fun a bm h=>?_;try simp only[*,go_sem]
  refine ⟨_,bD hJ fun F t=>Ar u0 (u.mono (cg t)) b (i39:Int) (⟨d.aL,bj⟩:gQ) bm,?_⟩;revert h;refine bS fun bo br h=>?_;obtain rfl:=sI h;obtain ⟨bs,M⟩:=dr br;try simp only[*,go_sem]
  refine ax fun N bz O=>?_;have b0:=aP.cons O bd;try simp only[au] at O
  try simp only[*,go_sem]
  refine dY (r:=j6) (l:=c) (x:=a) (cs:=#[.int .i64 a.spot.aL,.int .i64 a.spot.high.num,.int .i64 a.spot.high.den,.int .i64 a.at_,.int .i64 a.high.num,.int .i64 a.high.den]) (e2:=147) [(N,.cells #[.int .i64 a.spot.aL,.int .i64 a.spot.high.num,.int .i64 a.spot.high.den,.int .i64 a.at_,.int .i64 a.high.num,.int .i64 a.high.den] 147),(C,.cells #[.int .i64 d.aL,.int .i64 d.high] 85),(q,.cells #[.int .i64 0,.int .i64 0,.int .i64 0,.int .i64 0,.int .i64 0,.int .i64 0] 147),(p,.cells #[.int .i64 b.back,.int .i64 b.high] 134),(o,bl u0 (sl (some z) u0.ay c4) f g i)] [] I b0 bs rfl (by simp only[*,go_sem]) bz rfl rfl ng ng uX uZ rfl uY (by decide) (by decide) (fun eQ P D b1 b2 eS=>?_);simp only[aV] at b2;subst b1;rw[<-M] at D;clear M;obtain ⟨d63,b3,rfl,b4⟩:=D.len;refine ⟨⟨ro,(N,.cells #[.int .i64 a.spot.aL,.int .i64 a.spot.high.num,.int .i64 a.spot.high.den,.int .i64 a.at_,.int .i64 a.high.num,.int .i64 a.high.den] 147)::(C,.cells #[.int .i64 d.aL,.int .i64 d.high] 85)::(q,.cells #[.int .i64 0,.int .i64 0,.int .i64 0,.int .i64 0,.int .i64 0,.int .i64 0] 147)::(p,.cells #[.int .i64 b.back,.int .i64 b.high] 134)::(o,bl u0 (sl (some z) u0.ay c4) f g i)::P⟩,Le.refl _,?_⟩;refine ⟨by simp only[*,go_sem],jT ?_⟩;try simp only[*,go_sem]
  have e0:=cn (n:=i39) (by have:=W;omega);refine aj hJ ?_;simp only[*,go_sem];refine ⟨u0.ay.length - (i39+1),by omega,_,Le.sub (List.Sublist.cons _ (List.Sublist.cons _ (List.Sublist.refl _))),i39+1,d63,b3,P,bo,rfl,by omega,a6,rfl,D,b4,?_⟩;simp only[*,go_sem]
 have e1:=Nat.not_lt.2 K;refine bL hJ (by simp only[*,go_sem]) ?_;rw[List.drop_eq_nil_of_le K] at j;obtain rfl:=sI j;clear j;have h:=a0;dsimp only[aG] at h;refine bN ?_;simp only[go_sem];refine af hJ ?_;refine aA hJ fun Q=>?_;obtain ⟨b5,e3,ca,E,cb⟩:=I.eU [(q,.cells #[.int .i64 0,.int .i64 0,.int .i64 0,.int .i64 0,.int .i64 0,.int .i64 0] 147),(p,.cells #[.int .i64 b.back,.int .i64 b.high] 134),(o,bl u0 (sl d3 u0.ay c4) f g i)] [] Q (aD.cons al (aD.cons ad (aD.cons Z (aD.nil _))));clear Q;refine cF hJ cb ?_;obtain ⟨fa,fb,-⟩:=E.op;simp only[bu] at ca;refine e9 hJ mixed 6 ⟨b5,[(p,.cells #[.int .i64 b.back,.int .i64 b.high] 134),(o,bl u0 (sl d3 u0.ay c4) f g i)]⟩ (by simp only[*,go_sem]) (by kernel_rfl) ?_;revert h;refine bS fun R cd h=>?_;obtain ⟨fg,fi,S⟩:=c5 cd;obtain ⟨fo,cf,cl,cu,k⟩:=E.el _ _ S;obtain rfl:cf=R.cells:=cu;cases cl;have cy:=k 0 _ rfl;simp only[go_sem] at cy;have cS:=k 1 _ rfl;simp only[go_sem] at cS;have c0:=k 2 _ rfl;simp only[go_sem] at c0;have da:=k 3 _ rfl;simp only[go_sem] at da;have db:=k 4 _ rfl;simp only[go_sem] at db;have dd:=k 5 _ rfl;simp only[go_sem] at dd;clear k S;revert h;refine bS fun df dk h=>?_;obtain ⟨fp,fr,fs,T⟩:=oY dk;have U:(1:Int).toNat<=((c.length:Int)).toNat:=by omega
 have dp:((c.length:Int)).toNat<=s:=by omega
 have ft:0<=((c.length:Int)):=by omega
 obtain ⟨d80,dq,ds,V⟩:=aB.o5 E (1:Int).toNat ((c.length:Int)).toNat U (by omega) T;simp only[go_sem] at dq ds U dp;obtain ⟨_,_,dt,fu,fv,fw⟩:=id V;cases dt;clear T;revert h;refine bS fun fx du h=>?_;obtain rfl:=sI h;try simp only[*,go_sem]
 refine ⟨_,bD hJ fun F t=>rH (dK:=88) (dZ:=#[]) (ee:=#[]) gb ⟨by simp only[go_sem],fun gg gl dv dC _ h=>by simp only[go_sem];exact rD dv dC h⟩ R df (V.mono (cg t)) du,?_⟩;try simp only[*,go_sem]
 refine az ?_;simp only[*,go_sem]
def rR (u0:ak)(a:aU):Option an:=
 ag (ga u0.bI) fun b=>ag (jz u0 a) fun c=>ag (iY b c.high) fun d=>some d
theorem Au {ro:Addr->Option Value}(u0:ak){s1 b c d:Value}(f:bJ ro u0 s1 b c d)(a:aU){r:an}(h:rR u0 a=some r):aC Tryz.prog 73 #[bv u0 s1 b c d,.agg #[.int .i64 a.back,.int .i64 a.high]] ⟨ro,[]⟩ (fun v _=>v=r.v):=by
 unfold rR at h;refine aC.go Tryz.func73 rfl Tryz.ntmps73 Tryz.results73 (by simp) fun main J hJ A s hd hs=>?_;have t:=hs 0;have k1:=hs 1;clear hs;refine ah hJ ?_;simp only[*,go_sem];refine ax fun g u i=>?_;try simp only[au] at i
 refine ax fun j w k=>?_;try simp only[au] at k
 refine ax fun x y l=>?_;try simp only[au] at l
 try simp only[*,go_sem]
 refine af hJ ?_;refine e9 hJ mixed 9 ⟨ro,[(j,.cells #[.int .i64 a.back,.int .i64 a.high] 134),(g,bl u0 s1 b c d)]⟩ (by simp only[*,go_sem]) (by kernel_rfl) ?_;revert h;refine bS fun m n h=>?_;simp only[*,go_sem];refine ⟨_,bD hJ fun F e=>jy u0.bI n,bZ ?_⟩;revert h;refine bS fun o p h=>?_;try simp only[*,go_sem]
 refine ⟨_,bD hJ fun F e=>rQ u0 (f.mono (cg e)) a p,bZ ?_⟩;revert h;refine bS fun z q h=>?_;obtain rfl:=sI h;try simp only[*,go_sem]
 refine ⟨_,bD hJ fun F e=>pK m o.high q,?_⟩;try simp only[*,go_sem]
 refine az ?_;simp only[*,go_sem]
def nB (u0:ak)(a:Int)(st:Int):Option (Fl Int an):=
 ag (bp u0.ay st) fun b=>cond (decide (b.aL<a)) (some (.nx (IntKind.i64.wrap (st+1)))) (some (.bk st))
def jb (u0:ak)(b:Int):Option an:=
 ag (bn (nB u0 b) fu 1) fun o=>aG o (fun c=>ag (bp u0.ay (IntKind.i64.wrap (c - 1))) fun a=>ag (bp u0.ay c) fun d=>ag (ga a.high) fun e=>ag (j7 (IntKind.i64.wrap ((IntKind.i64.wrap (d.high - a.high))*(IntKind.i64.wrap (b - a.aL)))) (IntKind.i64.wrap (d.aL - a.aL))) fun f=>ag (iX e f) fun g=>some g) (fun _ _=>none) (fun r=>some r)
theorem Av {ro:Addr->Option Value}(u0:ak){s1 b c d:Value}(g:bJ ro u0 s1 b c d)(i:Int){r:an}(h:jb u0 i=some r):aC Tryz.prog 116 #[bv u0 s1 b c d,.int .i64 i] ⟨ro,[]⟩ (fun v _=>v=r.v):=by
 obtain ⟨d3,c4,rfl,bc,bd,-⟩:=id g.e;unfold jb at h;refine aC.go Tryz.func116 rfl Tryz.ntmps116 Tryz.results116 (by simp) fun main J hJ A E hd hs=>?_;have G:=hs 0;have k1:=hs 1;clear hs;refine ah hJ ?_;simp only[*,go_sem];refine ax fun l bj H=>?_;try simp only[au] at H
 refine ax fun t bk I=>?_;try simp only[au] at I
 try simp only[*,go_sem]
 refine ah hJ ?_;simp only[*,go_sem];refine af hJ (aQ hJ ?_);revert h;refine bS fun K j L=>?_;refine bU hJ [5,8,9,10,11,12,13,14,15,16,17,18] (fun m M F'=>∃(k:Int),bn (nB u0 i) m k=some K/\F'=⟨ro,(t,rt 0 0)::(l,bl u0 (sl d3 u0.ay c4) b c d)::[]⟩/\slot M 5= .int .i64 k) fu ?_ ?_
 ·refine ⟨1,j,rfl,?_⟩;simp only[*,go_sem]
 rintro n bm F' u ⟨k,j,rfl,bo⟩;obtain ⟨N,O,P⟩:=u.pick [1,2,4] (by decide);simp only[*,go_sem] at N O P;clear u E hd G k1;obtain _|n:=n
 ·exact absurd j (by simp only[bn,reduceCtorEq,not_false_eq_true])
 revert j;refine bS fun br h o=>?_;unfold nB at h;try dsimp only at h
 refine af hJ (ah hJ ?_);revert h;refine bS fun Q R h=>?_;obtain ⟨bs,bz,w⟩:=c5 R;obtain ⟨x,S,T,U,p⟩:=g.e.el _ _ w;obtain rfl:S=Q.cells:=U;cases T;have y:=p 0 _ rfl;simp only[go_sem] at y;have z:=p 1 _ rfl;simp only[go_sem] at z;clear p w;try simp only[*,go_sem]
 revert h;refine jC hJ (by simp only[*,go_sem]) (fun V h=>?_) fun V h=>?_
 ·obtain rfl:=sI h;refine aI hJ (aQ hJ ?_);refine aj hJ ?_;simp only[*,go_sem];refine ⟨n,Nat.lt_succ_self _,_,Le.sub (List.Sublist.refl _),(IntKind.i64.wrap (k+1)),o,rfl,?_⟩;simp only[*,go_sem]
 obtain rfl:=sI h;refine bN ?_;simp only[go_sem];obtain rfl:=sI o;clear o;have h:=L;dsimp only[aG] at h;clear y z;refine af hJ ?_;refine zU hJ mixed 13 ⟨ro,[(t,rt 0 0),(l,bl u0 (sl (some x) u0.ay c4) b c d)]⟩ (by simp only[*,go_sem]) (by kernel_rfl) 85 rfl zM ?_;revert h;refine bS fun a W h=>?_;obtain ⟨b0,b1,B⟩:=c5 W;obtain ⟨b2,X,Y,Z,q⟩:=g.e.el _ _ B;obtain rfl:X=a.cells:=Z;cases Y;have ab:=q 0 _ rfl;simp only[go_sem] at ab;have ad:=q 1 _ rfl;simp only[go_sem] at ad;clear q B;revert h;refine bS fun f ae h=>?_;obtain ⟨b3,b4,C⟩:=c5 ae;obtain ⟨b5,al,ao,ar,s⟩:=g.e.el _ _ C;obtain rfl:al=f.cells:=ar;cases ao;have a0:=s 0 _ rfl;simp only[go_sem] at a0;have a2:=s 1 _ rfl;simp only[go_sem] at a2;clear s C;try simp only[*,go_sem]
 refine ax fun a3 ca a4=>?_;try simp only[au] at a4
 try simp only[*,go_sem]
 refine ax fun a5 cb a6=>?_;try simp only[au] at a6
 try simp only[*,go_sem]
 refine af hJ ?_;refine e9 hJ mixed 20 ⟨ro,[(a5,.cells #[.int .i64 f.aL,.int .i64 f.high] 85),(a3,.cells #[.int .i64 a.aL,.int .i64 a.high] 85),(l,bl u0 (sl (some x) u0.ay c4) b c d)]⟩ (by simp only[*,go_sem]) (by kernel_rfl) ?_;revert h;refine bS fun a7 a8 h=>?_;simp only[*,go_sem];refine ⟨_,bD hJ fun F D=>jy a.high a8,bZ ?_⟩;revert h;refine bS fun a9 ba h=>?_;try simp only[*,go_sem]
 refine ⟨_,bD hJ fun F D=>pI (IntKind.i64.wrap ((IntKind.i64.wrap (f.high - a.high))*(IntKind.i64.wrap (i - a.aL)))) (IntKind.i64.wrap (f.aL - a.aL)) ba,bZ ?_⟩;revert h;refine bS fun cd bb h=>?_;obtain rfl:=sI h;try simp only[*,go_sem]
 refine ⟨_,bD hJ fun F D=>pJ a7 a9 bb,?_⟩;try simp only[*,go_sem]
 refine az ?_;simp only[*,go_sem]
def pN (c:ck)(b:an)(i59:Nat)(a:bt)(st:Unit):Option (Fl Unit (List bt)):=
 cond (((a.spot.aL==c.place)&&((a.spot.high.num==b.num)&&(a.spot.high.den==b.den)))) (some (.br 1 ())) (some (.nx ()))
def pO (u0:ak)(c:aU)(i38:Nat)(a:ck)(st:(List bt)):Option (Fl (List bt) (List bt)):=
 ag (jb u0 a.place) fun d=>ag (ga a.dD) fun e=>ag (iX d e) fun b=>ag (bF (pN a b) 0 st ()) fun o=>aG o (fun h=>ag (j8 u0 c (i38:Int) (⟨a.place,b⟩:gQ)) fun f=>ag (c6 st ([f])) fun g=>some (.nx g)) (fun _ i=>some (.nx st)) (fun r=>some (.rt r))
def jA (u0:ak)(a:aU):Option (List bt):=
 ag (bF (pO u0 a) 0 u0.props ([]:List bt)) fun o=>aG o (fun b=>some b) (fun _ _=>none) (fun r=>some r)
theorem vq {ro:Addr->Option Value}(u0:ak){s1 O f g:Value}(w:bJ ro u0 s1 O f g)(b:aU){r:(List bt)}(h:jA u0 b=some r):eD Tryz.prog 102 #[bv u0 s1 O f g,.agg #[.int .i64 b.back,.int .i64 b.high]] ro (fun v aM=>∃P,v=P/\aB j6 aM P r):=by
 obtain ⟨d10,o,rfl,fb,Q,-⟩:=id w.p;unfold jA at h;refine aC.go Tryz.func102 rfl Tryz.ntmps102 Tryz.results102 (by simp) fun main J hJ A ba hd hs=>?_;have bb:=hs 0;have k1:=hs 1;clear hs;refine ah hJ ?_;simp only[*,go_sem];refine ax fun q bc bj=>?_;try simp only[au] at bj
 refine ax fun s bk bm=>?_;try simp only[au] at bm
 try simp only[*,go_sem]
 refine DC hJ (af hJ ?_);refine aj hJ ?_;simp only[*,go_sem];refine af hJ ?_;refine Dz hJ ?_;refine af hJ (ah hJ ?_);simp only[*,go_sem];refine aQ hJ ?_;revert h;refine bS fun bo i br=>?_;refine bU hJ [5,6,7,8,10,15,16,17,18,19,20,21,22,23,24,25,26,27,28,29,30,31,32,33,34,35,36,37,38,39,40,41,42,43,44,45,46,47,48,49,50] (fun m y F'=>∃(i38:Nat) (d32:Option Addr) (t:Nat) (z:List (Nat×Obj)) (c:(List bt)),m=u0.props.length - i38/\i38<=u0.props.length/\bF (pO u0 b) i38 (u0.props.drop i38) c=some bo/\F'=⟨ro,(s,.cells #[.int .i64 b.back,.int .i64 b.high] 134)::(q,bl u0 s1 (sl d10 u0.props o) f g)::z⟩/\aO j6 ro 147 (.slice d32 c.length t) c z/\c.length<=t/\slot y 15= .int .i64 (i38:Int)/\slot y 5= .slice d32 c.length t) u0.props.length ?_ ?_
 ·refine ⟨0,none,0,[],([]:List bt),(Nat.sub_zero _).symm,Nat.zero_le _,i,rfl,aO.nil _ _ _,Nat.le_refl _,?_⟩;simp only[*,go_sem]
 rintro fg bs F' R ⟨i38,d32,t,z,c,rfl,fi,i,rfl,u,bz,b0,b1⟩;obtain ⟨S,T,U⟩:=R.pick [2,3,4,13,14] (by decide);simp only[*,go_sem] at S T U;clear R ba hd bb k1;refine ah hJ ?_;simp only[*,go_sem];refine af hJ ?_;rcases Nat.lt_or_ge i38 u0.props.length with b2|V
 ·refine bP hJ (by simp only[*,go_sem]) ?_;refine aI hJ ?_;obtain ⟨d,B⟩:∃x,u0.props[i38]?=some x:=⟨_,List.getElem?_eq_getElem b2⟩
  rw[c8 B] at i;revert i;refine bS fun fo h W=>?_;unfold pO at h;try dsimp only at h
  obtain ⟨C,b3,b4,b5,D⟩:=w.p.el _ _ B;obtain rfl:b3=d.cells:=b5;cases b4;have ca:=D 0 _ rfl;simp only[go_sem] at ca;have cb:=D 1 _ rfl;simp only[go_sem] at cb;clear D B;refine af hJ (aQ hJ (af hJ ?_));refine aA hJ fun cd=>?_;refine aj hJ ?_;simp only[*,go_sem];refine ax fun E fp X=>?_;have fr:=aP.cons X cd;try simp only[au] at X
  try simp only[*,go_sem]
  refine af hJ ?_;refine aA hJ fun cf=>?_;refine cR hJ mixed 11 3 (by simp only[*,go_sem]) (by kernel_rfl) ?_;revert h;refine bS fun cl cu h=>?_;simp only[*,go_sem];refine ⟨_,bD hJ fun F G=>Av u0 (w.mono (cg G)) d.place cu,bZ ?_⟩;revert h;refine bS fun cy cS h=>?_;try simp only[*,go_sem]
  refine ⟨_,bD hJ fun F G=>jy d.dD cS,bZ ?_⟩;revert h;refine bS fun e c0 h=>?_;try simp only[*,go_sem]
  refine ⟨_,bD hJ fun F G=>pJ cl cy c0,bZ ?_⟩;try simp only[*,go_sem]
  refine ax fun H fs Y=>?_;have ft:=aP.cons Y cf;try simp only[au] at Y
  try simp only[*,go_sem]
  refine af hJ (af hJ ?_);refine aA hJ fun fu=>?_;refine aj hJ ?_;simp only[*,go_sem];refine aQ hJ ?_;revert h;refine bS fun da j Z=>?_;refine bU hJ [10,33,34,35,36,37,38,39,40,41] (fun m y F'=>∃(i59:Nat),m=c.length - i59/\i59<=c.length/\bF (pN d e) i59 (c.drop i59) ()=some da/\F'=⟨ro,(H,.cells #[.int .i64 d.place,.int .i64 e.num,.int .i64 e.den] 145)::(E,.cells #[.int .i64 d.place,.int .i64 d.dD] 96)::(s,.cells #[.int .i64 b.back,.int .i64 b.high] 134)::(q,bl u0 s1 (sl (some C) u0.props o) f g)::z⟩/\slot y 33= .int .i64 (i59:Int)) c.length ?_ ?_
  ·refine ⟨0,(Nat.sub_zero _).symm,Nat.zero_le _,j,rfl,?_⟩;simp only[*,go_sem]
  rintro fv db F' I ⟨i59,rfl,fw,j,rfl,fx⟩;obtain ⟨dd,df,dk⟩:=I.pick [2,3,4,5,6,7,8,13,14,15,16,17,19,20,21,22,23,24,25,26,27,28,29,30,31,32] (by decide);simp only[*,go_sem] at dd df dk;have gg:cG [5,6,7,8,10,15,16,17,18,19,20,21,22,23,24,25,26,27,28,29,30,31,32,33,34,35,36,37,38,39,40,41,42,43,44,45,46,47,48,49,50] db bs:=(I.fX (by decide)).trans (by simp only[*,go_sem]);clear I S T U b1 b0;refine ah hJ ?_;simp only[*,go_sem];refine af hJ ?_;rcases Nat.lt_or_ge i59 c.length with dp|ab
  ·refine bP hJ (by simp only[*,go_sem]) ?_;refine aI hJ ?_;obtain ⟨dq,K⟩:∃x,c[i59]?=some x:=⟨_,List.getElem?_eq_getElem dp⟩
   rw[c8 K] at j;revert j;refine bS fun gl h L=>?_;unfold pN at h;(try dsimp only at h);refine aA hJ fun M=>?_;obtain ⟨ad,ds,gn,dt,du,rfl,gp,dv,k⟩:=u.elem K;obtain rfl:dt=dq.cells:=dv;cases du;replace M:=M.nd;simp only[keys,List.map_cons,List.map_nil,List.map_append,List.cons_append,List.nil_append,List.nodup_cons,List.mem_cons,List.mem_append,List.not_mem_nil,or_false,not_or] at M;have ae:=k 0 _ rfl;simp only[go_sem] at ae;have al:=k 1 _ rfl;simp only[go_sem] at al;have ao:=k 2 _ rfl;simp only[go_sem] at ao;have ar:=k 3 _ rfl;simp only[go_sem] at ar;have a0:=k 4 _ rfl;simp only[go_sem] at a0;have a2:=k 5 _ rfl;simp only[go_sem] at a2;clear k K;refine af hJ (aQ hJ (af hJ ?_));refine aA hJ fun dC=>?_;refine aj hJ ?_;simp only[*,go_sem];refine ax fun gB gC a3=>?_;have gM:=aP.cons a3 dC;try simp only[au] at a3
   (try simp only[*,go_sem]);refine af hJ ?_;refine aA hJ fun gT=>?_;refine aj hJ ?_;simp only[*,go_sem];revert h;refine jC hJ (by simp only[*,go_sem]) (fun dE h=>?_) fun dE h=>?_
   ·obtain rfl:=sI h;refine bN ?_;simp only[go_sem];obtain rfl:=sI L;clear L;have h:=Z;dsimp only[aG] at h;obtain rfl:=sI h;clear ae al ao ar a0 a2;have dT:=cn (n:=i38) (by have:=Q;omega);refine aj hJ ?_;simp only[*,go_sem];refine ⟨u0.props.length - (i38+1),by omega,_,Le.sub (List.Sublist.cons _ (List.Sublist.cons _ (List.Sublist.cons _ (List.Sublist.refl _)))),i38+1,(some ⟨ad,0,none⟩),t,[(ad,Obj.cells ds 147)],c,rfl,by omega,W,rfl,u,bz,?_⟩;simp only[*,go_sem]
   obtain rfl:=sI h;refine aI hJ ?_;have gV:=cn (n:=i59) (by have:=u.bd;omega);refine aj hJ ?_;simp only[*,go_sem];refine ⟨c.length - (i59+1),by omega,_,Le.sub (List.Sublist.cons _ (List.Sublist.refl _)),i59+1,rfl,by omega,L,rfl,?_⟩;simp only[*,go_sem]
  have g0:=Nat.not_lt.2 ab;refine bL hJ (by simp only[*,go_sem]) ?_;rw[List.drop_eq_nil_of_le ab] at j;obtain rfl:=sI j;clear j;have h:=Z;dsimp only[aG] at h;refine bN ?_;simp only[go_sem];refine aA hJ fun ea=>?_;refine aj hJ ?_;revert h;refine bS fun a eb h=>?_;simp only[*,go_sem];refine bg hJ _ (Ar u0 (w.mono aR) b (i38:Int) (⟨d.place,e⟩:gQ) eb) (aJ ?_);revert h;refine bS fun ec ed h=>?_;obtain rfl:=sI h;obtain ⟨eh,a4⟩:=dr ed;try simp only[*,go_sem]
  refine ax fun a5 et a6=>?_;have eu:=aP.cons a6 ea;try simp only[au] at a6
  try simp only[*,go_sem]
  refine dY (r:=j6) (l:=c) (x:=a) (cs:=#[.int .i64 a.spot.aL,.int .i64 a.spot.high.num,.int .i64 a.spot.high.den,.int .i64 a.at_,.int .i64 a.high.num,.int .i64 a.high.den]) (e2:=147) [(a5,.cells #[.int .i64 a.spot.aL,.int .i64 a.spot.high.num,.int .i64 a.spot.high.den,.int .i64 a.at_,.int .i64 a.high.num,.int .i64 a.high.den] 147),(H,.cells #[.int .i64 d.place,.int .i64 e.num,.int .i64 e.den] 145),(E,.cells #[.int .i64 d.place,.int .i64 d.dD] 96),(s,.cells #[.int .i64 b.back,.int .i64 b.high] 134),(q,bl u0 s1 (sl (some C) u0.props o) f g)] [] u eu eh rfl (by simp only[*,go_sem]) et rfl rfl ng ng uX uZ rfl uY (by decide) (by decide) (fun g1 a7 N ev eQ g2=>?_);simp only[aV] at eQ;subst ev;rw[<-a4] at N;clear a4;obtain ⟨d83,eS,rfl,e0⟩:=N.len;refine ⟨⟨ro,(a5,.cells #[.int .i64 a.spot.aL,.int .i64 a.spot.high.num,.int .i64 a.spot.high.den,.int .i64 a.at_,.int .i64 a.high.num,.int .i64 a.high.den] 147)::(H,.cells #[.int .i64 d.place,.int .i64 e.num,.int .i64 e.den] 145)::(E,.cells #[.int .i64 d.place,.int .i64 d.dD] 96)::(s,.cells #[.int .i64 b.back,.int .i64 b.high] 134)::(q,bl u0 s1 (sl (some C) u0.props o) f g)::a7⟩,Le.refl _,?_⟩;refine aJ ?_;try simp only[*,go_sem]
  have dT:=cn (n:=i38) (by have:=Q;omega);refine aj hJ ?_;simp only[*,go_sem];refine ⟨u0.props.length - (i38+1),by omega,_,Le.sub (List.Sublist.cons _ (List.Sublist.cons _ (List.Sublist.cons _ (List.Sublist.refl _)))),i38+1,d83,eS,a7,ec,rfl,by omega,W,rfl,N,e0,?_⟩;simp only[*,go_sem]
 have g3:=Nat.not_lt.2 V;refine bL hJ (by simp only[*,go_sem]) ?_;rw[List.drop_eq_nil_of_le V] at i;obtain rfl:=sI i;clear i;have h:=br;dsimp only[aG] at h;obtain rfl:=sI h;refine bN ?_;simp only[go_sem];refine af hJ ?_;refine aA hJ fun g4=>?_;refine aj hJ ?_;simp only[*,go_sem];refine aA hJ fun a8=>?_;obtain ⟨ha,e1,e3,a9,fa⟩:=u.eU [(s,.cells #[.int .i64 b.back,.int .i64 b.high] 134),(q,bl u0 s1 (sl d10 u0.props o) f g)] [] a8 (aD.cons bk (aD.cons bc (aD.nil _)));clear a8;refine cF hJ fa ?_;obtain ⟨hc,hf,-⟩:=a9.op;simp only[bu] at e3;refine az ?_;simp only[*,go_sem];exact ⟨_,e1,Le.sub (List.nil_sublist _),_,rfl,a9⟩
def mo (i54:Nat)(a:bt)(st:an):Option (Fl an an):=
 ag (iq ew st ([a.high])) fun b=>some (.nx b)
def mq (i100:Nat)(a:bt)(st:an):Option (Fl an an):=
 ag (iq ew st ([a.high])) fun b=>some (.nx b)
def kg (u0:ak)(a:aU):Option an:=
 ag (ga u0.bI) fun b=>ag (jz u0 a) fun c=>ag (ew c.high b) fun d=>cond (d) (ag (jA u0 a) fun e=>ag (bF (mo) 0 e c.high) fun o=>aG o (fun f=>ag (iY b f) fun g=>ag (ga 0) fun h=>ag (iq ew g ([h])) fun i=>some i) (fun _ _=>none) (fun r=>some r)) (ag (jA u0 a) fun j=>ag (bF (mq) 0 j b) fun o=>aG o (fun k=>ag (iY c.high k) fun l=>ag (ga 0) fun m=>ag (iq ew l ([m])) fun n=>some n) (fun _ _=>none) (fun r=>some r))
theorem rS {ro:Addr->Option Value}(u0:ak){s1 p q s:Value}(t:bJ ro u0 s1 p q s)(a:aU){r:an}(h:kg u0 a=some r):aC Tryz.prog 82 #[bv u0 s1 p q s,.agg #[.int .i64 a.back,.int .i64 a.high]] ⟨ro,[]⟩ (fun v _=>v=r.v):=by
 unfold kg at h;refine aC.go Tryz.func82 rfl Tryz.ntmps82 Tryz.results82 (by simp) fun main J hJ A O hd hs=>?_;have P:=hs 0;have k1:=hs 1;clear hs;refine ah hJ ?_;simp only[*,go_sem];refine ax fun D fr al=>?_;try simp only[au] at al
 refine ax fun E fs ao=>?_;try simp only[au] at ao
 refine ax fun G ft ar=>?_;try simp only[au] at ar
 try simp only[*,go_sem]
 refine af hJ ?_;refine zU hJ mixed 8 ⟨ro,[(G,rt 0 0),(E,.cells #[.int .i64 a.back,.int .i64 a.high] 134),(D,bl u0 s1 p q s)]⟩ (by simp only[*,go_sem]) (by kernel_rfl) 23 rfl zI ?_;revert h;refine bS fun u a0 h=>?_;simp only[*,go_sem];refine ⟨_,bD hJ fun F Q=>jy u0.bI a0,bZ ?_⟩;revert h;refine bS fun w a2 h=>?_;try simp only[*,go_sem]
 refine ⟨_,bD hJ fun F Q=>rQ u0 (t.mono (cg Q)) a a2,bZ ?_⟩;try simp only[*,go_sem]
 refine ax fun R fu a3=>?_;try simp only[au] at a3
 try simp only[*,go_sem]
 refine ax fun S fv a4=>?_;try simp only[au] at a4
 try simp only[*,go_sem]
 refine af hJ (ah hJ ?_);revert h;refine bS fun fw a5 h=>?_;simp only[*,go_sem];refine bg hJ _ (iW w.high u a5) ?_;try simp only[*,go_sem]
 revert h;refine jC hJ (by simp only[*,go_sem]) (fun a6 h=>?_) fun a6 h=>?_
 ·refine aj hJ ?_;simp only[*,go_sem];refine af hJ (ah hJ ?_);revert h;refine bS fun b a7 h=>?_;simp only[*,go_sem];refine b8 hJ _ (vq u0 t a a7) fun v a8 a9 ba H=>?_;obtain ⟨fx,rfl,T⟩:=H;replace t:=t.mono a9;simp only[bu] at ba;obtain ⟨d48,gg,rfl,gl,bb,-⟩:=id T;refine aJ ?_;try simp only[*,go_sem]
  refine aQ hJ ?_;revert h;refine bS fun bc c bd=>?_;refine bU hJ [8,26,27,28,29,30,31,32,33,34,35] (fun m I F'=>∃(i54:Nat) (l:an),m=b.length - i54/\i54<=b.length/\bF (mo) i54 (b.drop i54) l=some bc/\F'=⟨a8,(S,rt u.num u.den)::(R,rt l.num l.den)::(G,rt 0 0)::(E,.cells #[.int .i64 a.back,.int .i64 a.high] 134)::(D,bl u0 s1 p q s)::[]⟩/\slot I 26= .int .i64 (i54:Int)) b.length ?_ ?_
  ·refine ⟨0,w.high,(Nat.sub_zero _).symm,Nat.zero_le _,c,rfl,?_⟩;simp only[*,go_sem]
  rintro gn gp F' U ⟨i54,l,rfl,gB,c,rfl,gC⟩;obtain ⟨bj,bk,bm⟩:=U.pick [4,5,6,24,25] (by decide);simp only[*,go_sem] at bj bk bm;clear U O hd P k1;refine ah hJ ?_;simp only[*,go_sem];refine af hJ ?_;rcases Nat.lt_or_ge i54 b.length with bo|V
  ·refine bP hJ (by simp only[*,go_sem]) ?_;refine aI hJ ?_;obtain ⟨y,K⟩:∃x,b[i54]?=some x:=⟨_,List.getElem?_eq_getElem bo⟩
   rw[c8 K] at c;revert c;refine bS fun gM h br=>?_;unfold mo at h;(try dsimp only at h);obtain ⟨gT,bs,bz,b0,d⟩:=T.el _ _ K;obtain rfl:bs=y.cells:=b0;cases bz;have b1:=d 0 _ rfl;simp only[go_sem] at b1;have b2:=d 1 _ rfl;simp only[go_sem] at b2;have b3:=d 2 _ rfl;simp only[go_sem] at b3;have b4:=d 3 _ rfl;simp only[go_sem] at b4;have b5:=d 4 _ rfl;simp only[go_sem] at b5;have ca:=d 5 _ rfl;simp only[go_sem] at ca;clear d K;refine af hJ (aQ hJ (af hJ ?_));refine aj hJ ?_;simp only[*,go_sem];refine ax fun gV g0 cb=>?_;try simp only[au] at cb
   (try simp only[*,go_sem]);refine aA hJ fun cd=>?_;refine aj hJ ?_;revert h;refine bS fun cf cl h=>?_;obtain rfl:=sI h;simp only[*,go_sem];refine ax fun g1 cu W=>?_;have g2:=aP.cons W cd;try simp only[au] at W
   (try simp only[*,go_sem]);refine bg hJ _ (nt (dK:=76) (dZ:=#[]) (ee:=#[]) ew ⟨by simp only[go_sem],fun L M f g _ h=>by simp only[go_sem];exact iW f g h⟩ l ([y.high]) ((aB.flat (r:=k4) (e:=23) (cs:=#[.int .i64 y.high.num,.int .i64 y.high.den]) an.cells ([y.high]) (fun _=>rfl) cu rfl (by simp)).mono (jX (by simp only[*,go_sem]))) cl) (aJ ?_);(try simp only[*,go_sem]);have g3:=cn (n:=i54) (by have:=bb;omega);refine aj hJ ?_;simp only[*,go_sem];refine ⟨b.length - (i54+1),by omega,_,Le.sub (List.Sublist.cons _ (List.Sublist.cons _ (List.Sublist.refl _))),i54+1,cf,rfl,by omega,br,rfl,?_⟩;simp only[*,go_sem]
  have g4:=Nat.not_lt.2 V;refine bL hJ (by simp only[*,go_sem]) ?_;rw[List.drop_eq_nil_of_le V] at c;obtain rfl:=sI c;clear c;have h:=bd;dsimp only[aG] at h;refine bN ?_;simp only[go_sem];refine af hJ ?_;refine aA hJ fun cy=>?_;refine aj hJ ?_;revert h;refine bS fun cS c0 h=>?_;simp only[*,go_sem];refine bg hJ _ (pK u l c0) (aJ ?_);revert h;refine bS fun B da h=>?_;try simp only[*,go_sem]
  refine bg hJ _ (jy 0 da) (aJ ?_);revert h;refine bS fun ha db h=>?_;obtain rfl:=sI h;try simp only[*,go_sem]
  refine ax fun hc dd X=>?_;have hf:=aP.cons X cy;try simp only[au] at X
  try simp only[*,go_sem]
  refine bg hJ _ (nt (dK:=76) (dZ:=#[]) (ee:=#[]) ew ⟨by simp only[go_sem],fun L M f g _ h=>by simp only[go_sem];exact iW f g h⟩ cS ([B]) ((aB.flat (r:=k4) (e:=23) (cs:=#[.int .i64 B.num,.int .i64 B.den]) an.cells ([B]) (fun _=>rfl) dd rfl (by simp)).mono (jX (by simp only[*,go_sem]))) db) (aJ ?_);try simp only[*,go_sem]
  refine az ?_;simp only[*,go_sem]
 refine aI hJ (af hJ ?_);refine ah hJ ?_;revert h;refine bS fun i df h=>?_;simp only[*,go_sem];refine b8 hJ _ (vq u0 t a df) fun v dk hg dp H=>?_;obtain ⟨hh,rfl,Y⟩:=H;simp only[bu] at dp;obtain ⟨d94,hi,rfl,hj,dq,-⟩:=id Y;refine aJ ?_;try simp only[*,go_sem]
 refine aQ hJ ?_;revert h;refine bS fun ds j dt=>?_;refine bU hJ [8,26,27,28,29,30,31,32,33,34,35] (fun m I F'=>∃(i100:Nat) (o:an),m=i.length - i100/\i100<=i.length/\bF (mq) i100 (i.drop i100) o=some ds/\F'=⟨dk,(S,rt w.high.num w.high.den)::(R,rt o.num o.den)::(G,rt 0 0)::(E,.cells #[.int .i64 a.back,.int .i64 a.high] 134)::(D,bl u0 s1 p q s)::[]⟩/\slot I 26= .int .i64 (i100:Int)) i.length ?_ ?_
 ·refine ⟨0,u,(Nat.sub_zero _).symm,Nat.zero_le _,j,rfl,?_⟩;simp only[*,go_sem]
 rintro hk hl F' Z ⟨i100,o,rfl,hn,j,rfl,ho⟩;obtain ⟨du,dv,dC⟩:=Z.pick [4,5,6,24,25] (by decide);simp only[*,go_sem] at du dv dC;clear Z O hd P k1;refine ah hJ ?_;simp only[*,go_sem];refine af hJ ?_;rcases Nat.lt_or_ge i100 i.length with dE|ab
 ·refine bP hJ (by simp only[*,go_sem]) ?_;refine aI hJ ?_;obtain ⟨z,N⟩:∃x,i[i100]?=some x:=⟨_,List.getElem?_eq_getElem dE⟩
  rw[c8 N] at j;revert j;refine bS fun hp h dT=>?_;unfold mq at h;try dsimp only at h
  obtain ⟨hq,ea,eb,ec,k⟩:=Y.el _ _ N;obtain rfl:ea=z.cells:=ec;cases eb;have ed:=k 0 _ rfl;simp only[go_sem] at ed;have eh:=k 1 _ rfl;simp only[go_sem] at eh;have et:=k 2 _ rfl;simp only[go_sem] at et;have eu:=k 3 _ rfl;simp only[go_sem] at eu;have ev:=k 4 _ rfl;simp only[go_sem] at ev;have eQ:=k 5 _ rfl;simp only[go_sem] at eQ;clear k N;refine af hJ (aQ hJ (af hJ ?_));refine aj hJ ?_;simp only[*,go_sem];refine ax fun hr ht eS=>?_;try simp only[au] at eS
  try simp only[*,go_sem]
  refine aA hJ fun e0=>?_;refine aj hJ ?_;revert h;refine bS fun e1 e2 h=>?_;obtain rfl:=sI h;simp only[*,go_sem];refine ax fun hv e3 ad=>?_;have hx:=aP.cons ad e0;try simp only[au] at ad
  try simp only[*,go_sem]
  refine bg hJ _ (nt (dK:=76) (dZ:=#[]) (ee:=#[]) ew ⟨by simp only[go_sem],fun L M f g _ h=>by simp only[go_sem];exact iW f g h⟩ o ([z.high]) ((aB.flat (r:=k4) (e:=23) (cs:=#[.int .i64 z.high.num,.int .i64 z.high.den]) an.cells ([z.high]) (fun _=>rfl) e3 rfl (by simp)).mono (jX (by simp only[*,go_sem]))) e2) (aJ ?_);try simp only[*,go_sem]
  have hy:=cn (n:=i100) (by have:=dq;omega);refine aj hJ ?_;simp only[*,go_sem];refine ⟨i.length - (i100+1),by omega,_,Le.sub (List.Sublist.cons _ (List.Sublist.cons _ (List.Sublist.refl _))),i100+1,e1,rfl,by omega,dT,rfl,?_⟩;simp only[*,go_sem]
 have hz:=Nat.not_lt.2 ab;refine bL hJ (by simp only[*,go_sem]) ?_;rw[List.drop_eq_nil_of_le ab] at j;obtain rfl:=sI j;clear j;have h:=dt;dsimp only[aG] at h;refine bN ?_;simp only[go_sem];refine af hJ ?_;refine aA hJ fun fa=>?_;refine aj hJ ?_;revert h;refine bS fun fb fg h=>?_;simp only[*,go_sem];refine bg hJ _ (pK w.high o fg) (aJ ?_);revert h;refine bS fun C fi h=>?_;try simp only[*,go_sem]
 refine bg hJ _ (jy 0 fi) (aJ ?_);revert h;refine bS fun hA fo h=>?_;obtain rfl:=sI h;try simp only[*,go_sem]
 refine ax fun hB fp ae=>?_;have hD:=aP.cons ae fa;try simp only[au] at ae
 try simp only[*,go_sem]
 refine bg hJ _ (nt (dK:=76) (dZ:=#[]) (ee:=#[]) ew ⟨by simp only[go_sem],fun L M f g _ h=>by simp only[go_sem];exact iW f g h⟩ fb ([C]) ((aB.flat (r:=k4) (e:=23) (cs:=#[.int .i64 C.num,.int .i64 C.den]) an.cells ([C]) (fun _=>rfl) fp rfl (by simp)).mono (jX (by simp only[*,go_sem]))) fo) (aJ ?_);try simp only[*,go_sem]
 refine az ?_;simp only[*,go_sem]
def gf (u0:ak)(a:aU):Option Bool:=
 ag (kg u0 a) fun b=>ag (ew u0.aN b) fun c=>some c
theorem mw {ro:Addr->Option Value}(u0:ak){s1 b c d:Value}(f:bJ ro u0 s1 b c d)(a:aU){r:Bool}(h:gf u0 a=some r):aC Tryz.prog 81 #[bv u0 s1 b c d,.agg #[.int .i64 a.back,.int .i64 a.high]] ⟨ro,[]⟩ (fun v _=>v= .bool r):=by
 unfold gf at h;refine aC.go Tryz.func81 rfl Tryz.ntmps81 Tryz.results81 (by simp) fun main J hJ A m hd hs=>?_;have n:=hs 0;have k1:=hs 1;clear hs;refine ah hJ ?_;simp only[*,go_sem];refine ax fun o p g=>?_;try simp only[au] at g
 refine ax fun q s i=>?_;try simp only[au] at i
 try simp only[*,go_sem]
 refine af hJ ?_;refine cR hJ mixed 8 2 (by simp only[*,go_sem]) (by kernel_rfl) ?_;revert h;refine bS fun j k h=>?_;simp only[*,go_sem];refine ⟨_,bD hJ fun F e=>rS u0 (f.mono (cg e)) a k,bZ ?_⟩;revert h;refine bS fun t l h=>?_;obtain rfl:=sI h;try simp only[*,go_sem]
 refine ⟨_,bD hJ fun F e=>iW u0.aN j l,bZ ?_⟩;try simp only[*,go_sem]
 refine az ?_;simp only[*,go_sem]
def vr (u0:((List Int)->(List Int)->Option Bool))(i22:Nat)(a:(List Int))(st:(List Int)):Option (Fl (List Int) (List Int)):=
 ag (u0 st a) fun b=>cond (b) (some (.nx a)) (some (.nx st))
def vt (u0:((List Int)->(List Int)->Option Bool))(a:(List Int))(b:(List (List Int))):Option (List Int):=
 ag (bF (vr u0) 0 b a) fun o=>aG o (fun c=>some c) (fun _ _=>none) (fun r=>some r)
theorem FV {ro:Addr->Option Value}(u0:((List Int)->(List Int)->Option Bool)){dK:FuncId}{dZ ee:Array Value}(G:aH Tryz.prog dK=true/\∀(aM:Addr->Option Value),Ext ro aM->∀(k:(List Int)) (l:Value) (o:(List Int)) (p:Value) (z:Bool),aB rI aM l k->aB rI aM p o->u0 k o=some z->aC Tryz.prog dK (dZ++#[l,p]++ee) ⟨aM,[]⟩ (fun v _=>v= .bool z))(g:(List Int)){s1:Value}(q:aB rI ro s1 g)(b:(List (List Int))){s:Value}(t:aB (rL rI) ro s b){r:(List Int)}(h:vt u0 g b=some r):eD Tryz.prog 104 #[.func (.func dK) dZ ee,s1,s] ro (fun v aM=>∃u,v=u/\aB rI aM u r):=by
 obtain ⟨d3,c4,rfl,Y,Z,-⟩:=id q;obtain ⟨d10,ab,rfl,ad,w,-⟩:=id t;unfold vt at h;refine aC.go Tryz.func104 rfl Tryz.ntmps104 Tryz.results104 (by simp) fun main J hJ A H hd hs=>?_;have I:=hs 0;have k1:=hs 1;have K:=hs 2;clear hs;refine ah hJ ?_;simp only[*,go_sem];refine af hJ (ah hJ ?_);simp only[*,go_sem];refine aQ hJ ?_;revert h;refine bS fun L c M=>?_;refine bU hJ [1,8,11,12,13,14,15,16,17,18,19,20] (fun m y F'=>∃(i22:Nat) (d16:Option Addr) (e:Nat) (d:(List Int)),m=b.length - i22/\i22<=b.length/\bF (vr u0) i22 (b.drop i22) d=some L/\F'=⟨ro,[]⟩/\aB rI ro (.slice d16 d.length e) d/\slot y 11= .int .i64 (i22:Int)/\slot y 1= .slice d16 d.length e) b.length ?_ ?_
 ·refine ⟨0,d3,c4,g,(Nat.sub_zero _).symm,Nat.zero_le _,c,rfl,q,?_⟩;simp only[*,go_sem]
 rintro ae al F' B ⟨i22,d16,e,d,rfl,ao,c,rfl,f,ar,a0⟩;obtain ⟨a2,a3,-⟩:=f.op;obtain ⟨N,O,P⟩:=B.pick [0,6,9,10] (by decide);simp only[*,go_sem] at N O P;clear B H hd I k1 K;refine ah hJ ?_;simp only[*,go_sem];refine af hJ ?_;rcases Nat.lt_or_ge i22 b.length with Q|C
 ·refine bP hJ (by simp only[*,go_sem]) ?_;refine aI hJ ?_;obtain ⟨D,i⟩:∃x,b[i22]?=some x:=⟨_,List.getElem?_eq_getElem Q⟩
  rw[c8 i] at c;revert c;refine bS fun a4 h E=>?_;unfold vr at h;try dsimp only at h
  obtain ⟨a5,a6,R,S,F⟩:=t.el _ _ i;obtain ⟨a7,rfl,j⟩:=S;obtain ⟨d31,T,rfl,a8,a9,ba⟩:=id j;cases R;have U:=F 0 _ rfl;simp only[go_sem] at U;clear F i;refine af hJ (aQ hJ (af hJ ?_));refine aj hJ ?_;simp only[*,go_sem];refine ah hJ ?_;revert h;refine bS fun bb V h=>?_;simp only[*,go_sem];refine bg hJ _ (G.2 _ (fun a v h=>aR a v h) d _ D _ _ (f.mono aR) (j.mono aR) V) ?_;try simp only[*,go_sem]
  revert h;refine jC hJ (by simp only[*,go_sem]) (fun W h=>?_) fun W h=>?_
  ·obtain rfl:=sI h;refine aj hJ ?_;simp only[*,go_sem];have X:=cn (n:=i22) (by have:=w;omega);refine aj hJ ?_;simp only[*,go_sem];refine ⟨b.length - (i22+1),by omega,_,Le.sub (List.Sublist.refl _),i22+1,d31,T,D,rfl,by omega,E,rfl,j,?_⟩;simp only[*,go_sem]
  obtain rfl:=sI h;refine aI hJ ?_;have X:=cn (n:=i22) (by have:=w;omega);refine aj hJ ?_;simp only[*,go_sem];refine ⟨b.length - (i22+1),by omega,_,Le.sub (List.Sublist.refl _),i22+1,d16,e,d,rfl,by omega,E,rfl,f,?_⟩;simp only[*,go_sem]
 have bc:=Nat.not_lt.2 C;refine bL hJ (by simp only[*,go_sem]) ?_;rw[List.drop_eq_nil_of_le C] at c;obtain rfl:=sI c;clear c;have h:=M;dsimp only[aG] at h;obtain rfl:=sI h;refine bN ?_;simp only[go_sem];refine ah hJ ?_;simp only[*,go_sem];refine az ?_;simp only[*,go_sem];exact ⟨_,Ext.refl _,Le.sub (List.nil_sublist _),_,rfl,f⟩
def vu (u0:(List Int))(a:(List Int))(st:(Bool×Int)):Option (Fl (Bool×Int) Bool):=
 cond (decide (st.2<(u0.length:Int))) (ag (bp u0 st.2) fun b=>ag (bp a st.2) fun c=>cond ((b != c)) (some (.rt false)) (some (.nx (st.1,(IntKind.i64.wrap (st.2+1)))))) (some (.bk (st.1,st.2)))
def vv (u0:(List Int))(a:(List Int)):Option Bool:=
 cond (((u0.length:Int) != (a.length:Int))) (some false) (ag (bn (vu u0 a) fu (false,0)) fun o=>aG o (fun b=>some true) (fun _ _=>none) (fun r=>some r))
theorem FW {ro:Addr->Option Value}(u0:(List Int)){s1:Value}(g:aB rI ro s1 u0)(e:(List Int)){i:Value}(j:aB rI ro i e){r:Bool}(h:vv u0 e=some r):aC Tryz.prog 53 #[s1,i] ⟨ro,[]⟩ (fun v _=>v= .bool r):=by
 obtain ⟨d3,c4,rfl,R,S,-⟩:=id g;obtain ⟨d10,T,rfl,U,V,-⟩:=id j;unfold vv at h;refine aC.go Tryz.func53 rfl Tryz.ntmps53 Tryz.results53 (by simp) fun main J hJ A t hd hs=>?_;have u:=hs 0;have k1:=hs 1;clear hs;refine ah hJ ?_;simp only[*,go_sem];refine af hJ (ah hJ ?_);simp only[*,go_sem];revert h;refine jC hJ (by simp only[*,go_sem]) (fun w h=>?_) fun w h=>?_
 ·obtain rfl:=sI h;refine ah hJ ?_;simp only[*,go_sem];refine az ?_;simp only[*,go_sem]
 refine aI hJ (af hJ ?_);refine ah hJ ?_;simp only[*,go_sem];refine aQ hJ ?_;revert h;refine bS fun x b k=>?_;refine bU hJ [4,5,11,12,13,14,15,16,17,18,19,20,21,22,23,24,25] (fun m l F'=>∃(c:Bool) (d:Int),bn (vu u0 e) m (c,d)=some x/\F'=⟨ro,[]⟩/\slot l 4= .bool c/\slot l 5= .int .i64 d) fu ?_ ?_
 ·refine ⟨false,0,b,rfl,?_⟩;simp only[*,go_sem]
 rintro f W F' n ⟨c,d,b,rfl,X,Y⟩;obtain ⟨y,z,B⟩:=n.pick [0,1] (by decide);simp only[*,go_sem] at y z B;clear n t hd u k1;obtain _|f:=f
 ·exact absurd b (by simp only[bn,reduceCtorEq,not_false_eq_true])
 revert b;refine bS fun Z h a=>?_;unfold vu at h;try dsimp only at h
 refine af hJ (ah hJ ?_);simp only[*,go_sem];revert h;refine jC hJ (by simp only[*,go_sem]) (fun C h=>?_) fun C h=>?_
 ·refine aI hJ (af hJ ?_);refine aQ hJ (af hJ ?_);refine cR hJ mixed 9 0 (by simp only[*,go_sem]) (by kernel_rfl) ?_;revert h;refine bS fun D E h=>?_;obtain ⟨ab,ad,o⟩:=c5 E;obtain ⟨ae,F,G,H,p⟩:=g.el _ _ o;obtain rfl:F=[.int .i64 D]:=H;cases G;have I:=p 0 _ rfl;simp only[go_sem] at I;clear p o;revert h;refine bS fun K L h=>?_;obtain ⟨al,ao,q⟩:=c5 L;obtain ⟨ar,M,N,O,s⟩:=j.el _ _ q;obtain rfl:M=[.int .i64 K]:=O;cases N;have P:=s 0 _ rfl;simp only[go_sem] at P;clear s q;try simp only[*,go_sem]
  revert h;refine jC hJ (by simp only[*,go_sem]) (fun Q h=>?_) fun Q h=>?_
  ·obtain rfl:=sI h;refine ah hJ ?_;simp only[*,go_sem];obtain rfl:=sI a;clear a;have h:=k;dsimp only[aG] at h;obtain rfl:=sI h;refine az ?_;simp only[*,go_sem]
  obtain rfl:=sI h;refine aI hJ (aj hJ ?_);simp only[*,go_sem];refine ⟨f,Nat.lt_succ_self _,_,Le.sub (List.Sublist.refl _),c,(IntKind.i64.wrap (d+1)),a,rfl,?_⟩;simp only[*,go_sem]
 obtain rfl:=sI h;refine bN ?_;simp only[go_sem];obtain rfl:=sI a;clear a;have h:=k;dsimp only[aG] at h;obtain rfl:=sI h;refine ah hJ ?_;simp only[*,go_sem];refine az ?_;simp only[*,go_sem]
def mz (u0:(List Int))(a:(List Int)):Option Bool:=
 ag (vv u0 a) fun b=>some b
theorem pP {ro:Addr->Option Value}(u0:(List Int)){s1:Value}(b:aB rI ro s1 u0)(a:(List Int)){c:Value}(d:aB rI ro c a){r:Bool}(h:mz u0 a=some r):aC Tryz.prog 63 #[s1,c] ⟨ro,[]⟩ (fun v _=>v= .bool r):=by
 obtain ⟨d3,c4,rfl,f,g,-⟩:=id b;obtain ⟨d10,i,rfl,j,k,-⟩:=id d;unfold mz at h;refine aC.go Tryz.func63 rfl Tryz.ntmps63 Tryz.results63 (by simp) fun main J hJ A l hd hs=>?_;have m:=hs 0;have k1:=hs 1;clear hs;refine ah hJ ?_;simp only[*,go_sem];refine ah hJ ?_;revert h;refine bS fun n e h=>?_;obtain rfl:=sI h;simp only[*,go_sem];refine bg hJ _ (FW u0 (b.mono aR) a (d.mono aR) e) (aJ ?_);try simp only[*,go_sem]
 refine az ?_;simp only[*,go_sem]
def rT (a:aU)(i10:Nat)(b:aU)(st:Int):Option (Fl Int Int):=
 cond (((a.back==b.back)&&(a.high==b.high))) (some (.rt (i10:Int))) (some (.nx st))
def rU (u0:(List aU))(a:aU):Option Int:=
 ag (bF (rT a) 0 u0 0) fun o=>aG o (fun b=>some (-1)) (fun _ _=>none) (fun r=>some r)
theorem FX {ro:Addr->Option Value}(u0:(List aU)){s1:Value}(g:aB iV ro s1 u0)(b:aU){r:Int}(h:rU u0 b=some r):aC Tryz.prog 150 #[s1,.agg #[.int .i64 b.back,.int .i64 b.high]] ⟨ro,[]⟩ (fun v _=>v= .int .i64 r):=by
 obtain ⟨d3,c4,rfl,K,o,-⟩:=id g;unfold rU at h;refine aC.go Tryz.func150 rfl Tryz.ntmps150 Tryz.results150 (by simp) fun main J hJ A p hd hs=>?_;have q:=hs 0;have k1:=hs 1;clear hs;refine ah hJ ?_;simp only[*,go_sem];refine ax fun s L t=>?_;try simp only[au] at t
 try simp only[*,go_sem]
 refine af hJ (ah hJ ?_);simp only[*,go_sem];refine aQ hJ ?_;revert h;refine bS fun u a i=>?_;refine bU hJ [4,5,8,9,10,11,12,13,14,15,16,17,18] (fun m j F'=>∃(i10:Nat) (c:Int),m=u0.length - i10/\i10<=u0.length/\bF (rT b) i10 (u0.drop i10) c=some u/\F'=⟨ro,(s,.cells #[.int .i64 b.back,.int .i64 b.high] 134)::[]⟩/\slot j 8= .int .i64 (i10:Int)/\slot j 4= .int .i64 c) u0.length ?_ ?_
 ·refine ⟨0,0,(Nat.sub_zero _).symm,Nat.zero_le _,a,rfl,?_⟩;simp only[*,go_sem]
 rintro M N F' k ⟨i10,c,rfl,O,a,rfl,P,Q⟩;obtain ⟨w,y,z⟩:=k.pick [0,3,7] (by decide);simp only[*,go_sem] at w y z;clear k p hd q k1;refine ah hJ ?_;simp only[*,go_sem];refine af hJ ?_;rcases Nat.lt_or_ge i10 u0.length with B|l
 ·refine bP hJ (by simp only[*,go_sem]) ?_;refine aI hJ ?_;obtain ⟨C,d⟩:∃x,u0[i10]?=some x:=⟨_,List.getElem?_eq_getElem B⟩
  rw[c8 d] at a;revert a;refine bS fun R h e=>?_;unfold rT at h;try dsimp only at h
  obtain ⟨S,D,E,F,f⟩:=g.el _ _ d;obtain rfl:D=C.cells:=F;cases E;have G:=f 0 _ rfl;simp only[go_sem] at G;have H:=f 1 _ rfl;simp only[go_sem] at H;clear f d;refine af hJ (aQ hJ (af hJ ?_));refine aj hJ ?_;simp only[*,go_sem];refine af hJ ?_;refine cR hJ mixed 6 1 (by simp only[*,go_sem]) (by kernel_rfl) ?_;simp only[*,go_sem];revert h;refine jC hJ (by simp only[*,go_sem]) (fun I h=>?_) fun I h=>?_
  ·obtain rfl:=sI h;refine ah hJ ?_;simp only[*,go_sem];obtain rfl:=sI e;clear e;have h:=i;dsimp only[aG] at h;obtain rfl:=sI h;refine az ?_;simp only[*,go_sem]
  obtain rfl:=sI h;refine aI hJ ?_;have T:=cn (n:=i10) (by have:=o;omega);refine aj hJ ?_;simp only[*,go_sem];refine ⟨u0.length - (i10+1),by omega,_,Le.sub (List.Sublist.refl _),i10+1,c,rfl,by omega,e,rfl,?_⟩;simp only[*,go_sem]
 have U:=Nat.not_lt.2 l;refine bL hJ (by simp only[*,go_sem]) ?_;rw[List.drop_eq_nil_of_le l] at a;obtain rfl:=sI a;clear a;have h:=i;dsimp only[aG] at h;obtain rfl:=sI h;refine bN ?_;simp only[go_sem];refine ah hJ ?_;simp only[*,go_sem];refine az ?_;simp only[*,go_sem]
def pQ (u0:(List aU))(a:aU):Option Bool:=
 ag (rU u0 a) fun b=>some (decide (0<=b))
theorem FY {ro:Addr->Option Value}(u0:(List aU)){s1:Value}(b:aB iV ro s1 u0)(a:aU){r:Bool}(h:pQ u0 a=some r):aC Tryz.prog 125 #[s1,.agg #[.int .i64 a.back,.int .i64 a.high]] ⟨ro,[]⟩ (fun v _=>v= .bool r):=by
 obtain ⟨d3,c4,rfl,e,f,-⟩:=id b;unfold pQ at h;refine aC.go Tryz.func125 rfl Tryz.ntmps125 Tryz.results125 (by simp) fun main J hJ A g hd hs=>?_;have i:=hs 0;have k1:=hs 1;clear hs;refine ah hJ ?_;simp only[*,go_sem];refine ax fun j k c=>?_;try simp only[au] at c
 try simp only[*,go_sem]
 refine ah hJ ?_;revert h;refine bS fun l d h=>?_;obtain rfl:=sI h;simp only[*,go_sem];refine bg hJ _ (FX u0 (b.mono aR) a d) (aJ ?_);try simp only[*,go_sem]
 refine az ?_;simp only[*,go_sem]
def rV (a:(bO->Option Bool))(i9:Nat)(b:bO)(st:Int):Option (Fl Int Int):=
 ag (a b) fun c=>cond (c) (some (.rt (i9:Int))) (some (.nx st))
def rW (u0:(List bO))(a:(bO->Option Bool)):Option Int:=
 ag (bF (rV a) 0 u0 0) fun o=>aG o (fun b=>some (-1)) (fun _ _=>none) (fun r=>some r)
theorem FZ {ro:Addr->Option Value}(u0:(List bO)){s1:Value}(i:aB dc ro s1 u0)(d:(bO->Option Bool)){dw:FuncId}{dU dV:Array Value}(s:aH Tryz.prog dw=true/\∀(aM:Addr->Option Value),Ext ro aM->∀(j:bO) (z:Bool),d j=some z->aC Tryz.prog dw (dU++#[j.v]++dV) ⟨aM,[]⟩ (fun v _=>v= .bool z)){r:Int}(h:rW u0 d=some r):aC Tryz.prog 176 #[s1,.func (.func dw) dU dV] ⟨ro,[]⟩ (fun v _=>v= .int .i64 r):=by
 obtain ⟨d3,c4,rfl,N,t,-⟩:=id i;unfold rW at h;refine aC.go Tryz.func176 rfl Tryz.ntmps176 Tryz.results176 (by simp) fun main J hJ A u hd hs=>?_;have w:=hs 0;have k1:=hs 1;clear hs;refine ah hJ ?_;simp only[*,go_sem];refine af hJ (ah hJ ?_);simp only[*,go_sem];refine aQ hJ ?_;revert h;refine bS fun y b k=>?_;refine bU hJ [4,5,8,9,10,11,12,13,14,15,16,17,18] (fun m l F'=>∃(i9:Nat) (c:Int),m=u0.length - i9/\i9<=u0.length/\bF (rV d) i9 (u0.drop i9) c=some y/\F'=⟨ro,[]⟩/\slot l 8= .int .i64 (i9:Int)/\slot l 4= .int .i64 c) u0.length ?_ ?_
 ·refine ⟨0,0,(Nat.sub_zero _).symm,Nat.zero_le _,b,rfl,?_⟩;simp only[*,go_sem]
 rintro O P F' o ⟨i9,c,rfl,Q,b,rfl,R,S⟩;obtain ⟨B,C,D⟩:=o.pick [0,1,7] (by decide);simp only[*,go_sem] at B C D;clear o u hd w k1;refine ah hJ ?_;simp only[*,go_sem];refine af hJ ?_;rcases Nat.lt_or_ge i9 u0.length with E|p
 ·refine bP hJ (by simp only[*,go_sem]) ?_;refine aI hJ ?_;obtain ⟨q,e⟩:∃x,u0[i9]?=some x:=⟨_,List.getElem?_eq_getElem E⟩
  rw[c8 e] at b;revert b;refine bS fun T h f=>?_;unfold rV at h;try dsimp only at h
  obtain ⟨U,F,G,H,g⟩:=i.el _ _ e;obtain rfl:F=q.cells:=H;cases G;have I:=g 0 _ rfl;simp only[go_sem] at I;have K:=g 1 _ rfl;simp only[go_sem] at K;clear g e;refine af hJ (aQ hJ (af hJ ?_));refine aj hJ ?_;simp only[*,go_sem];refine ah hJ ?_;revert h;refine bS fun V L h=>?_;simp only[*,go_sem];refine bg hJ _ (s.2 _ (fun a v h=>aR a v h) q _ L) ?_;try simp only[*,go_sem]
  revert h;refine jC hJ (by simp only[*,go_sem]) (fun M h=>?_) fun M h=>?_
  ·obtain rfl:=sI h;refine ah hJ ?_;simp only[*,go_sem];obtain rfl:=sI f;clear f;have h:=k;dsimp only[aG] at h;obtain rfl:=sI h;refine az ?_;simp only[*,go_sem]
  obtain rfl:=sI h;refine aI hJ ?_;have W:=cn (n:=i9) (by have:=t;omega);refine aj hJ ?_;simp only[*,go_sem];refine ⟨u0.length - (i9+1),by omega,_,Le.sub (List.Sublist.refl _),i9+1,c,rfl,by omega,f,rfl,?_⟩;simp only[*,go_sem]
 have X:=Nat.not_lt.2 p;refine bL hJ (by simp only[*,go_sem]) ?_;rw[List.drop_eq_nil_of_le p] at b;obtain rfl:=sI b;clear b;have h:=k;dsimp only[aG] at h;obtain rfl:=sI h;refine bN ?_;simp only[go_sem];refine ah hJ ?_;simp only[*,go_sem];refine az ?_;simp only[*,go_sem]
def pR (u0:(List bO))(a:(bO->Option Bool)):Option Bool:=
 ag (rW u0 a) fun b=>some (decide (0<=b))
theorem F1 {ro:Addr->Option Value}(u0:(List bO)){s1:Value}(b:aB dc ro s1 u0)(a:(bO->Option Bool)){dw:FuncId}{dU dV:Array Value}(c:aH Tryz.prog dw=true/\∀(aM:Addr->Option Value),Ext ro aM->∀(d:bO) (z:Bool),a d=some z->aC Tryz.prog dw (dU++#[d.v]++dV) ⟨aM,[]⟩ (fun v _=>v= .bool z)){r:Bool}(h:pR u0 a=some r):aC Tryz.prog 145 #[s1,.func (.func dw) dU dV] ⟨ro,[]⟩ (fun v _=>v= .bool r):=by
 obtain ⟨d3,c4,rfl,g,i,-⟩:=id b;unfold pR at h;refine aC.go Tryz.func145 rfl Tryz.ntmps145 Tryz.results145 (by simp) fun main J hJ A j hd hs=>?_;have k:=hs 0;have k1:=hs 1;clear hs;refine ah hJ ?_;simp only[*,go_sem];refine ah hJ ?_;revert h;refine bS fun l e h=>?_;obtain rfl:=sI h;simp only[*,go_sem];refine bg hJ _ (FZ (dw:=dw) (dU:=dU) (dV:=dV) u0 (b.mono aR) a ⟨c.1,fun _ f=>c.2 _ (Ext.trans aR f)⟩ e) (aJ ?_);try simp only[*,go_sem]
 refine az ?_;simp only[*,go_sem]
def vw (a:(aU->Option Bool))(i9:Nat)(b:aU)(st:Int):Option (Fl Int Int):=
 ag (a b) fun c=>cond (c) (some (.rt (i9:Int))) (some (.nx st))
def vz (u0:(List aU))(a:(aU->Option Bool)):Option Int:=
 ag (bF (vw a) 0 u0 0) fun o=>aG o (fun b=>some (-1)) (fun _ _=>none) (fun r=>some r)
theorem F2 {ro:Addr->Option Value}(u0:(List aU)){s1:Value}(i:aB iV ro s1 u0)(d:(aU->Option Bool)){dw:FuncId}{dU dV:Array Value}(s:aH Tryz.prog dw=true/\∀(aM:Addr->Option Value),Ext ro aM->∀(j:aU) (z:Bool),d j=some z->aC Tryz.prog dw (dU++#[j.v]++dV) ⟨aM,[]⟩ (fun v _=>v= .bool z)){r:Int}(h:vz u0 d=some r):aC Tryz.prog 192 #[s1,.func (.func dw) dU dV] ⟨ro,[]⟩ (fun v _=>v= .int .i64 r):=by
 obtain ⟨d3,c4,rfl,N,t,-⟩:=id i;unfold vz at h;refine aC.go Tryz.func192 rfl Tryz.ntmps192 Tryz.results192 (by simp) fun main J hJ A u hd hs=>?_;have w:=hs 0;have k1:=hs 1;clear hs;refine ah hJ ?_;simp only[*,go_sem];refine af hJ (ah hJ ?_);simp only[*,go_sem];refine aQ hJ ?_;revert h;refine bS fun y b k=>?_;refine bU hJ [4,5,8,9,10,11,12,13,14,15,16,17,18] (fun m l F'=>∃(i9:Nat) (c:Int),m=u0.length - i9/\i9<=u0.length/\bF (vw d) i9 (u0.drop i9) c=some y/\F'=⟨ro,[]⟩/\slot l 8= .int .i64 (i9:Int)/\slot l 4= .int .i64 c) u0.length ?_ ?_
 ·refine ⟨0,0,(Nat.sub_zero _).symm,Nat.zero_le _,b,rfl,?_⟩;simp only[*,go_sem]
 rintro O P F' o ⟨i9,c,rfl,Q,b,rfl,R,S⟩;obtain ⟨B,C,D⟩:=o.pick [0,1,7] (by decide);simp only[*,go_sem] at B C D;clear o u hd w k1;refine ah hJ ?_;simp only[*,go_sem];refine af hJ ?_;rcases Nat.lt_or_ge i9 u0.length with E|p
 ·refine bP hJ (by simp only[*,go_sem]) ?_;refine aI hJ ?_;obtain ⟨q,e⟩:∃x,u0[i9]?=some x:=⟨_,List.getElem?_eq_getElem E⟩
  rw[c8 e] at b;revert b;refine bS fun T h f=>?_;unfold vw at h;try dsimp only at h
  obtain ⟨U,F,G,H,g⟩:=i.el _ _ e;obtain rfl:F=q.cells:=H;cases G;have I:=g 0 _ rfl;simp only[go_sem] at I;have K:=g 1 _ rfl;simp only[go_sem] at K;clear g e;refine af hJ (aQ hJ (af hJ ?_));refine aj hJ ?_;simp only[*,go_sem];refine ah hJ ?_;revert h;refine bS fun V L h=>?_;simp only[*,go_sem];refine bg hJ _ (s.2 _ (fun a v h=>aR a v h) q _ L) ?_;try simp only[*,go_sem]
  revert h;refine jC hJ (by simp only[*,go_sem]) (fun M h=>?_) fun M h=>?_
  ·obtain rfl:=sI h;refine ah hJ ?_;simp only[*,go_sem];obtain rfl:=sI f;clear f;have h:=k;dsimp only[aG] at h;obtain rfl:=sI h;refine az ?_;simp only[*,go_sem]
  obtain rfl:=sI h;refine aI hJ ?_;have W:=cn (n:=i9) (by have:=t;omega);refine aj hJ ?_;simp only[*,go_sem];refine ⟨u0.length - (i9+1),by omega,_,Le.sub (List.Sublist.refl _),i9+1,c,rfl,by omega,f,rfl,?_⟩;simp only[*,go_sem]
 have X:=Nat.not_lt.2 p;refine bL hJ (by simp only[*,go_sem]) ?_;rw[List.drop_eq_nil_of_le p] at b;obtain rfl:=sI b;clear b;have h:=k;dsimp only[aG] at h;obtain rfl:=sI h;refine bN ?_;simp only[go_sem];refine ah hJ ?_;simp only[*,go_sem];refine az ?_;simp only[*,go_sem]
def vA (u0:(List aU))(a:(aU->Option Bool)):Option Bool:=
 ag (vz u0 a) fun b=>some (decide (0<=b))
theorem F3 {ro:Addr->Option Value}(u0:(List aU)){s1:Value}(b:aB iV ro s1 u0)(a:(aU->Option Bool)){dw:FuncId}{dU dV:Array Value}(c:aH Tryz.prog dw=true/\∀(aM:Addr->Option Value),Ext ro aM->∀(d:aU) (z:Bool),a d=some z->aC Tryz.prog dw (dU++#[d.v]++dV) ⟨aM,[]⟩ (fun v _=>v= .bool z)){r:Bool}(h:vA u0 a=some r):aC Tryz.prog 164 #[s1,.func (.func dw) dU dV] ⟨ro,[]⟩ (fun v _=>v= .bool r):=by
 obtain ⟨d3,c4,rfl,g,i,-⟩:=id b;unfold vA at h;refine aC.go Tryz.func164 rfl Tryz.ntmps164 Tryz.results164 (by simp) fun main J hJ A j hd hs=>?_;have k:=hs 0;have k1:=hs 1;clear hs;refine ah hJ ?_;simp only[*,go_sem];refine ah hJ ?_;revert h;refine bS fun l e h=>?_;obtain rfl:=sI h;simp only[*,go_sem];refine bg hJ _ (F2 (dw:=dw) (dU:=dU) (dV:=dV) u0 (b.mono aR) a ⟨c.1,fun _ f=>c.2 _ (Ext.trans aR f)⟩ e) (aJ ?_);try simp only[*,go_sem]
 refine az ?_;simp only[*,go_sem]
def pS (a:(aX->Option Bool))(i38:Nat)(b:aX)(st:Int):Option (Fl Int Int):=
 ag (a b) fun c=>cond (c) (some (.nx (IntKind.i64.wrap (st+1)))) (some (.nx st))
def nC (u0:cL)(b:(aX->Option Bool)):Option Int:=
 ag (bF (pS b) 0 u0.all 0) fun o=>aG o (fun a=>cond ((a==(u0.all.length:Int))) (some 1) (cond ((a==0)) (some 2) (some 0))) (fun _ _=>none) (fun r=>some r)
theorem Aw {ro:Addr->Option Value}(u0:cL){s1 e f g:Value}(Z:bJ ro u0.book s1 e f g){k:Value}(l:aB gP ro k u0.all)(i:(aX->Option Bool)){dw:FuncId}{dU dV:Array Value}(y:aH Tryz.prog dw=true/\∀(aM:Addr->Option Value),Ext ro aM->∀(o:aX) (z:Bool),i o=some z->aC Tryz.prog dw (dU++#[o.v]++dV) ⟨aM,[]⟩ (fun v _=>v= .bool z)){r:Int}(h:nC u0 i=some r):aC Tryz.prog 79 #[.agg #[.int .i64 u0.book.bE,.int .i64 u0.book.bI,.int .i64 u0.book.aN.num,.int .i64 u0.book.aN.den,s1,e,f,g,k],.func (.func dw) dU dV] ⟨ro,[]⟩ (fun v _=>v= .int .i64 r):=by
 obtain ⟨d31,B,rfl,ab,p,-⟩:=id l;unfold nC at h;refine aC.go Tryz.func79 rfl Tryz.ntmps79 Tryz.results79 (by simp) fun main J hJ A C hd hs=>?_;have D:=hs 0;have k1:=hs 1;clear hs;refine ah hJ ?_;simp only[*,go_sem];refine ax fun E ad F=>?_;try simp only[au] at F
 try simp only[*,go_sem]
 refine ah hJ ?_;simp only[*,go_sem];refine af hJ (ah hJ ?_);simp only[*,go_sem];refine aQ hJ ?_;revert h;refine bS fun G b H=>?_;refine bU hJ [5,7,11,12,13,14,15,16,17,18,19,20] (fun m q F'=>∃(i38:Nat) (c:Int),m=u0.all.length - i38/\i38<=u0.all.length/\bF (pS i) i38 (u0.all.drop i38) c=some G/\F'=⟨ro,(E,kn u0 s1 e f g (sl d31 u0.all B))::[]⟩/\slot q 11= .int .i64 (i38:Int)/\slot q 5= .int .i64 c) u0.all.length ?_ ?_
 ·refine ⟨0,0,(Nat.sub_zero _).symm,Nat.zero_le _,b,rfl,?_⟩;simp only[*,go_sem]
 rintro ae al F' s ⟨i38,c,rfl,ao,b,rfl,ar,a0⟩;obtain ⟨I,K,L⟩:=s.pick [1,2,4,9,10] (by decide);simp only[*,go_sem] at I K L;clear s C hd D k1;refine ah hJ ?_;simp only[*,go_sem];refine af hJ ?_;rcases Nat.lt_or_ge i38 u0.all.length with M|t
 ·refine bP hJ (by simp only[*,go_sem]) ?_;refine aI hJ ?_;obtain ⟨u,j⟩:∃x,u0.all[i38]?=some x:=⟨_,List.getElem?_eq_getElem M⟩
  rw[c8 j] at b;revert b;refine bS fun a2 h w=>?_;unfold pS at h;try dsimp only at h
  obtain ⟨a3,N,O,P,d⟩:=l.el _ _ j;obtain rfl:N=u.cells:=P;cases O;have Q:=d 0 _ rfl;simp only[go_sem] at Q;have R:=d 1 _ rfl;simp only[go_sem] at R;have S:=d 2 _ rfl;simp only[go_sem] at S;clear d j;refine af hJ (aQ hJ (af hJ ?_));refine aj hJ ?_;simp only[*,go_sem];refine ax fun a4 a5 T=>?_;try simp only[au] at T
  try simp only[*,go_sem]
  refine ah hJ ?_;revert h;refine bS fun a6 U h=>?_;simp only[*,go_sem];refine bg hJ _ (y.2 _ (fun a v h=>aR a v h) u _ U) ?_;try simp only[*,go_sem]
  revert h;refine jC hJ (by simp only[*,go_sem]) (fun V h=>?_) fun V h=>?_
  ·obtain rfl:=sI h;refine aj hJ ?_;simp only[*,go_sem];have W:=cn (n:=i38) (by have:=p;omega);refine aj hJ ?_;simp only[*,go_sem];refine ⟨u0.all.length - (i38+1),by omega,_,Le.sub (List.Sublist.cons _ (List.Sublist.refl _)),i38+1,(IntKind.i64.wrap (c+1)),rfl,by omega,w,rfl,?_⟩;simp only[*,go_sem]
  obtain rfl:=sI h;refine aI hJ ?_;have W:=cn (n:=i38) (by have:=p;omega);refine aj hJ ?_;simp only[*,go_sem];refine ⟨u0.all.length - (i38+1),by omega,_,Le.sub (List.Sublist.cons _ (List.Sublist.refl _)),i38+1,c,rfl,by omega,w,rfl,?_⟩;simp only[*,go_sem]
 have a7:=Nat.not_lt.2 t;refine bL hJ (by simp only[*,go_sem]) ?_;rw[List.drop_eq_nil_of_le t] at b;obtain rfl:=sI b;clear b;have h:=H;dsimp only[aG] at h;refine bN ?_;simp only[go_sem];refine af hJ (ah hJ ?_);simp only[*,go_sem];refine aQ hJ (af hJ ?_);refine aj hJ ?_;simp only[*,go_sem];revert h;refine jC hJ (by simp only[*,go_sem]) (fun X h=>?_) fun X h=>?_
 ·obtain rfl:=sI h;refine ah hJ ?_;simp only[*,go_sem];refine az ?_;simp only[*,go_sem]
 refine ah hJ ?_;simp only[*,go_sem];revert h;refine jC hJ (by simp only[*,go_sem]) (fun Y h=>?_) fun Y h=>?_
 ·obtain rfl:=sI h;refine ah hJ ?_;simp only[*,go_sem];refine az ?_;simp only[*,go_sem]
 obtain rfl:=sI h;refine aI hJ (af hJ ?_);refine aj hJ ?_;simp only[*,go_sem];refine az ?_;simp only[*,go_sem]
def pU (u0:bO)(a:ak)(w1:aX):Option Bool:=
 ag (aX.get w1 u0.aW) fun b=>ag (ij a u0.aW b) fun c=>ag (gf a c) fun d=>some (!(d==u0.bw))
theorem F4 {ro:Addr->Option Value}(u0:bO)(a:ak){b:Nat}(y:ro ⟨b,0,none⟩=some (.int .i64 a.bE))(z:ro ⟨b,1,none⟩=some (.int .i64 a.bI))(B:ro ⟨b,2,none⟩=some (.int .i64 a.aN.num))(C:ro ⟨b,3,none⟩=some (.int .i64 a.aN.den)){s1:Value}(e:aB eW ro s1 a.ay)(D:ro ⟨b,4,none⟩=some (s1)){j:Value}(f:aB er ro j a.props)(E:ro ⟨b,5,none⟩=some (j)){k:Value}(g:aB eN ro k a.aE)(G:ro ⟨b,6,none⟩=some (k)){l:Value}(i:aB dc ro l a.told)(H:ro ⟨b,7,none⟩=some (l))(w1:aX){d:Nat}(o:ro ⟨d,0,none⟩=some (.int .i64 w1.e0))(p:ro ⟨d,1,none⟩=some (.int .i64 w1.e1))(q:ro ⟨d,2,none⟩=some (.int .i64 w1.e2)){r:Bool}(h:pU u0 a w1=some r):aC Tryz.prog 146 #[.agg #[.int .i64 u0.aW,.bool u0.bw],.pointer (some ⟨b,0,none⟩),.pointer (some ⟨d,0,none⟩)] ⟨ro,[]⟩ (fun v _=>v= .bool r):=by
 obtain ⟨d3,c4,rfl,I,K,-⟩:=id e;obtain ⟨d10,L,rfl,M,N,-⟩:=id f;obtain ⟨d17,O,rfl,P,Q,-⟩:=id g;obtain ⟨d24,R,rfl,S,T,-⟩:=id i;unfold pU at h;refine aC.go Tryz.func146 rfl Tryz.ntmps146 Tryz.results146 (by simp) fun main J hJ A U hd hs=>?_;have V:=hs 0;have k1:=hs 1;have W:=hs 2;clear hs;refine ah hJ ?_;simp only[*,go_sem];refine ax fun X Y s=>?_;try simp only[au] at s
 try simp only[*,go_sem]
 refine af hJ ?_;refine cR hJ mixed 14 1 (by simp only[*,go_sem]) (by kernel_rfl) ?_;revert h;refine bS fun t m h=>?_;obtain ⟨Z,ab,n⟩:=aX.get_some m;clear n;have n:=aX.FD m o p q;revert h;refine bS fun u w h=>?_;try simp only[*,go_sem]
 refine ⟨_,bD hJ fun F c=>me a ⟨(e.mono (cg c)),(f.mono (cg c)),(g.mono (cg c)),(i.mono (cg c))⟩ u0.aW t w,bZ ?_⟩;revert h;refine bS fun ad x h=>?_;obtain rfl:=sI h;try simp only[*,go_sem]
 refine ⟨_,bD hJ fun F c=>mw a ⟨(e.mono (cg c)),(f.mono (cg c)),(g.mono (cg c)),(i.mono (cg c))⟩ u x,bZ ?_⟩;try simp only[*,go_sem]
 refine az ?_;simp only[*,go_sem]
def nD (u0:ak)(a:aX):Option Bool:=
 ag (pR u0.told (fun b=>pU b u0 a)) fun c=>some (!c)
theorem F5 {ro:Addr->Option Value}(u0:ak){s1 f g i:Value}(b:bJ ro u0 s1 f g i)(c:aX){r:Bool}(h:nD u0 c=some r):aC Tryz.prog 118 #[bv u0 s1 f g i,.agg #[.int .i64 c.e0,.int .i64 c.e1,.int .i64 c.e2]] ⟨ro,[]⟩ (fun v _=>v= .bool r):=by
 obtain ⟨d3,c4,rfl,q,s,-⟩:=id b.e;obtain ⟨d10,u,rfl,w,x,-⟩:=id b.p;obtain ⟨d17,z,rfl,B,C,-⟩:=id b.y;obtain ⟨d24,D,rfl,E,F,-⟩:=id b.t;unfold nD at h;refine aC.go Tryz.func118 rfl Tryz.ntmps118 Tryz.results118 (by simp) fun main J hJ A G hd hs=>?_;have H:=hs 0;have k1:=hs 1;clear hs;refine ah hJ ?_;simp only[*,go_sem];refine ax fun j I k=>?_;try simp only[au] at k
 refine ax fun l K m=>?_;try simp only[au] at m
 try simp only[*,go_sem]
 refine ah hJ ?_;revert h;refine bS fun L n h=>?_;obtain rfl:=sI h;simp only[*,go_sem];refine bg hJ _ (F1 (dw:=146) (dU:=#[]) (dV:=#[.pointer (some ⟨j,0,none⟩),.pointer (some ⟨l,0,none⟩)]) u0.told (b.t.mono aR) (fun d=>pU d u0 c) ⟨by simp only[go_sem],fun M a d N o=>by simp only[go_sem];exact F4 d u0 (a _ _ (by simp only[aa.cq,go_sem, *])) (a _ _ (by simp only[aa.cq,go_sem, *])) (a _ _ (by simp only[aa.cq,go_sem, *])) (a _ _ (by simp only[aa.cq,go_sem, *])) ((b.e.mono aR).mono a) (a _ _ (by simp only[aa.cq,go_sem, *])) ((b.p.mono aR).mono a) (a _ _ (by simp only[aa.cq,go_sem, *])) ((b.y.mono aR).mono a) (a _ _ (by simp only[aa.cq,go_sem, *])) ((b.t.mono aR).mono a) (a _ _ (by simp only[aa.cq,go_sem, *])) c (a _ _ (by simp only[aa.cq,go_sem, *])) (a _ _ (by simp only[aa.cq,go_sem, *])) (a _ _ (by simp only[aa.cq,go_sem, *])) o⟩ n) (aJ ?_);try simp only[*,go_sem]
 refine az ?_;simp only[*,go_sem]
def rX (u0:ak)(a:(List aU)):Option Bool:=
 ag (vA a (gf u0)) fun b=>some (!b)
theorem F6 {ro:Addr->Option Value}(u0:ak){s1 c d f:Value}(a:bJ ro u0 s1 c d f)(g:(List aU)){i:Value}(j:aB iV ro i g){r:Bool}(h:rX u0 g=some r):aC Tryz.prog 136 #[bv u0 s1 c d f,i] ⟨ro,[]⟩ (fun v _=>v= .bool r):=by
 obtain ⟨d31,n,rfl,o,q,-⟩:=id j;unfold rX at h;refine aC.go Tryz.func136 rfl Tryz.ntmps136 Tryz.results136 (by simp) fun main J hJ A s hd hs=>?_;have u:=hs 0;have k1:=hs 1;clear hs;refine ah hJ ?_;simp only[*,go_sem];refine ax fun w x k=>?_;try simp only[au] at k
 try simp only[*,go_sem]
 refine ah hJ ?_;revert h;refine bS fun z l h=>?_;obtain rfl:=sI h;simp only[*,go_sem];refine bg hJ _ (F3 (dw:=81) (dU:=#[bv u0 s1 c d f]) (dV:=#[]) g (j.mono aR) (gf u0) ⟨by simp only[go_sem],fun B b m _ h=>by simp only[go_sem];exact mw u0 ⟨((a.e.mono aR).mono b),((a.p.mono aR).mono b),((a.y.mono aR).mono b),((a.t.mono aR).mono b)⟩ m h⟩ l) (aJ ?_);try simp only[*,go_sem]
 refine az ?_;simp only[*,go_sem]
def rY (u0:aX)(a:cL)(w1:Int):Option Bool:=
 ag (aX.get u0 w1) fun b=>ag (ij a.book w1 b) fun c=>ag (gf a.book c) fun d=>some d
theorem F7 {ro:Addr->Option Value}(u0:aX)(a:cL){b:Nat}(x:ro ⟨b,0,none⟩=some (.int .i64 a.book.bE))(y:ro ⟨b,1,none⟩=some (.int .i64 a.book.bI))(z:ro ⟨b,2,none⟩=some (.int .i64 a.book.aN.num))(B:ro ⟨b,3,none⟩=some (.int .i64 a.book.aN.den)){s1:Value}(d:aB eW ro s1 a.book.ay)(C:ro ⟨b,4,none⟩=some (s1)){i:Value}(e:aB er ro i a.book.props)(D:ro ⟨b,5,none⟩=some (i)){j:Value}(f:aB eN ro j a.book.aE)(E:ro ⟨b,6,none⟩=some (j)){k:Value}(g:aB dc ro k a.book.told)(G:ro ⟨b,7,none⟩=some (k)){l:Value}(n:aB gP ro l a.all)(H:ro ⟨b,8,none⟩=some (l))(w1:Int){m:Nat}(I:ro ⟨m,0,none⟩=some (.int .i64 w1)){r:Bool}(h:rY u0 a w1=some r):aC Tryz.prog 80 #[.agg #[.int .i64 u0.e0,.int .i64 u0.e1,.int .i64 u0.e2],.pointer (some ⟨b,0,none⟩),.pointer (some ⟨m,0,none⟩)] ⟨ro,[]⟩ (fun v _=>v= .bool r):=by
 obtain ⟨d3,c4,rfl,K,L,-⟩:=id d;obtain ⟨d10,M,rfl,N,O,-⟩:=id e;obtain ⟨d17,P,rfl,Q,R,-⟩:=id f;obtain ⟨d24,S,rfl,T,U,-⟩:=id g;obtain ⟨d31,V,rfl,W,X,-⟩:=id n;unfold rY at h;refine aC.go Tryz.func80 rfl Tryz.ntmps80 Tryz.results80 (by simp) fun main J hJ A Y hd hs=>?_;have Z:=hs 0;have k1:=hs 1;have ab:=hs 2;clear hs;refine ah hJ ?_;simp only[*,go_sem];refine ax fun ad ae o=>?_;try simp only[au] at o
 try simp only[*,go_sem]
 refine af hJ ?_;refine cR hJ mixed 11 1 (by simp only[*,go_sem]) (by kernel_rfl) ?_;revert h;refine bS fun p q h=>?_;obtain ⟨al,ao,s⟩:=aX.get_some q;try simp only[go_sem] at s
 revert h;refine bS fun t u h=>?_;try simp only[*,go_sem]
 refine ⟨_,bD hJ fun F c=>me a.book ⟨(d.mono (cg c)),(e.mono (cg c)),(f.mono (cg c)),(g.mono (cg c))⟩ w1 p u,bZ ?_⟩;revert h;refine bS fun ar w h=>?_;obtain rfl:=sI h;try simp only[*,go_sem]
 refine ⟨_,bD hJ fun F c=>mw a.book ⟨(d.mono (cg c)),(e.mono (cg c)),(f.mono (cg c)),(g.mono (cg c))⟩ t w,bZ ?_⟩;try simp only[*,go_sem]
 refine az ?_;simp only[*,go_sem]
def rZ (u0:aX)(a:cL)(i38:Nat)(e:bY)(st:Bool):Option (Fl Bool Bool):=
 ag (aX.get u0 (i38:Int)) fun b=>ag (ij a.book (i38:Int) b) fun c=>ag (gf a.book c) fun d=>cond (d) (some (.rt false)) (some (.nx st))
def jB (u0:aX)(a:cL):Option Bool:=
 ag (bF (rZ u0 a) 0 a.book.aE false) fun o=>aG o (fun b=>some true) (fun _ _=>none) (fun r=>some r)
theorem F8 {ro:Addr->Option Value}(u0:aX)(a:cL){b:Nat}(ae:ro ⟨b,0,none⟩=some (.int .i64 a.book.bE))(al:ro ⟨b,1,none⟩=some (.int .i64 a.book.bI))(ao:ro ⟨b,2,none⟩=some (.int .i64 a.book.aN.num))(ar:ro ⟨b,3,none⟩=some (.int .i64 a.book.aN.den)){s1:Value}(i:aB eW ro s1 a.book.ay)(a0:ro ⟨b,4,none⟩=some (s1)){p:Value}(j:aB er ro p a.book.props)(a2:ro ⟨b,5,none⟩=some (p)){q:Value}(e:aB eN ro q a.book.aE)(a3:ro ⟨b,6,none⟩=some (q)){s:Value}(k:aB dc ro s a.book.told)(a4:ro ⟨b,7,none⟩=some (s)){t:Value}(B:aB gP ro t a.all)(a5:ro ⟨b,8,none⟩=some (t)){r:Bool}(h:jB u0 a=some r):aC Tryz.prog 84 #[.agg #[.int .i64 u0.e0,.int .i64 u0.e1,.int .i64 u0.e2],.pointer (some ⟨b,0,none⟩)] ⟨ro,[]⟩ (fun v _=>v= .bool r):=by
 obtain ⟨d3,c4,rfl,a6,a7,-⟩:=id i;obtain ⟨d10,a8,rfl,a9,ba,-⟩:=id j;obtain ⟨d17,bb,rfl,bc,C,-⟩:=id e;obtain ⟨d24,bd,rfl,bj,bk,-⟩:=id k;obtain ⟨d31,bl,rfl,bm,bo,-⟩:=id B;unfold jB at h;refine aC.go Tryz.func84 rfl Tryz.ntmps84 Tryz.results84 (by simp) fun main J hJ A D hd hs=>?_;have E:=hs 0;have k1:=hs 1;clear hs;refine ah hJ ?_;simp only[*,go_sem];refine ax fun G br H=>?_;try simp only[au] at H
 try simp only[*,go_sem]
 refine af hJ (ah hJ ?_);simp only[*,go_sem];refine aQ hJ ?_;revert h;refine bS fun I d u=>?_;refine bU hJ [3,4,10,11,12,13,14,15,16,17,18,19,20,21,22,23] (fun m w F'=>∃(i38:Nat) (f:Bool),m=a.book.aE.length - i38/\i38<=a.book.aE.length/\bF (rZ u0 a) i38 (a.book.aE.drop i38) f=some I/\F'=⟨ro,(G,.cells #[.int .i64 u0.e0,.int .i64 u0.e1,.int .i64 u0.e2] 121)::[]⟩/\slot w 10= .int .i64 (i38:Int)/\slot w 3= .bool f) a.book.aE.length ?_ ?_
 ·refine ⟨0,false,(Nat.sub_zero _).symm,Nat.zero_le _,d,rfl,?_⟩;simp only[*,go_sem]
 rintro bs bz F' y ⟨i38,f,rfl,b0,d,rfl,b1,b2⟩;obtain ⟨K,L,M⟩:=y.pick [1,2,9] (by decide);simp only[*,go_sem] at K L M;clear y D hd E k1;refine ah hJ ?_;simp only[*,go_sem];refine af hJ ?_;rcases Nat.lt_or_ge i38 a.book.aE.length with N|z
 ·refine bP hJ (by simp only[*,go_sem]) ?_;refine aI hJ ?_;obtain ⟨O,l⟩:∃x,a.book.aE[i38]?=some x:=⟨_,List.getElem?_eq_getElem N⟩
  rw[c8 l] at d;revert d;refine bS fun b3 h o=>?_;unfold rZ at h;try dsimp only at h
  obtain ⟨b4,P,Q,R,g⟩:=e.el _ _ l;obtain rfl:P=O.cells:=R;cases Q;have S:=g 0 _ rfl;simp only[go_sem] at S;have T:=g 1 _ rfl;simp only[go_sem] at T;have U:=g 2 _ rfl;simp only[go_sem] at U;clear g l;refine af hJ (aQ hJ (af hJ ?_));refine aj hJ ?_;simp only[*,go_sem];refine af hJ ?_;refine cR hJ mixed 10 1 (by simp only[*,go_sem]) (by kernel_rfl) ?_;revert h;refine bS fun V W h=>?_;obtain ⟨b5,ca,X⟩:=aX.get_some W;try simp only[go_sem] at X
  revert h;refine bS fun Y Z h=>?_;try simp only[*,go_sem]
  refine ⟨_,bD hJ fun F c=>me a.book ⟨(i.mono (cg c)),(j.mono (cg c)),(e.mono (cg c)),(k.mono (cg c))⟩ (i38:Int) V Z,bZ ?_⟩;revert h;refine bS fun cb ab h=>?_;try simp only[*,go_sem]
  refine ⟨_,bD hJ fun F c=>mw a.book ⟨(i.mono (cg c)),(j.mono (cg c)),(e.mono (cg c)),(k.mono (cg c))⟩ Y ab,?_⟩;try simp only[*,go_sem]
  revert h;refine jC hJ (by simp only[*,go_sem]) (fun ad h=>?_) fun ad h=>?_
  ·obtain rfl:=sI h;refine ah hJ ?_;simp only[*,go_sem];obtain rfl:=sI o;clear o;have h:=u;dsimp only[aG] at h;obtain rfl:=sI h;refine az ?_;simp only[*,go_sem]
  obtain rfl:=sI h;refine aI hJ ?_;have cd:=cn (n:=i38) (by have:=C;omega);refine aj hJ ?_;simp only[*,go_sem];refine ⟨a.book.aE.length - (i38+1),by omega,_,Le.sub (List.Sublist.refl _),i38+1,f,rfl,by omega,o,rfl,?_⟩;simp only[*,go_sem]
 have cf:=Nat.not_lt.2 z;refine bL hJ (by simp only[*,go_sem]) ?_;rw[List.drop_eq_nil_of_le z] at d;obtain rfl:=sI d;clear d;have h:=u;dsimp only[aG] at h;obtain rfl:=sI h;refine bN ?_;simp only[go_sem];refine ah hJ ?_;simp only[*,go_sem];refine az ?_;simp only[*,go_sem]
def aX.setAt (h:aX)(i n:Int):Option aX:=if i=0 then some {h with e0:=n} else if i=1 then some {h with e1:=n} else if i=2 then some {h with e2:=n} else none
theorem aX.F9 {h h1:aX}{i n:Int}(e:h.setAt i n=some h1):(i=0/\h1={h with e0:=n})\/(i=1/\h1={h with e1:=n})\/(i=2/\h1={h with e2:=n}):=by
 unfold aX.setAt at e;split at e
 ·exact .inl ⟨‹_›,(Option.some.inj e).symm⟩
 ·split at e
  ·exact .inr (.inl ⟨‹_›,(Option.some.inj e).symm⟩)
  ·split at e
   ·exact .inr (.inr ⟨‹_›,(Option.some.inj e).symm⟩)
   ·cases e
def jc (f:aX->List (Option aX)×aX)(i hi:Int):Nat->Int->aX->List (Option aX)×aX
 |0,_,h=>([none],h)
 |k+1,n,h=>if n<=hi then match h.setAt i n with
   |none=>([none],h)
   |some h1=>((f h1).1++(jc f i hi k (IntKind.i64.wrap (n+1)) (f h1).2).1,(jc f i hi k (IntKind.i64.wrap (n+1)) (f h1).2).2)
  else ([],h)
def eH (b:ak):Nat->Int->aX->List (Option aX)×aX
 |0,_,h=>([none],h)
 |fuel+1,i,h=>if i=b.aE.length then ((match nD b h with
   |some true=>[some h]
   |some false=>[]
   |none=>[none]),h)
  else match bp b.aE i with
   |none=>([none],h)
   |some e=>jc (eH b fuel (IntKind.i64.wrap (i+1))) i e.high.high 100 e.high.low h
def mA (b:ak):List (Option aX):=(eH b 5 0 ⟨0,0,0⟩).1
theorem Ga {H σ:Type}{step:σ->H->Option (Bool×σ)}{l l':List (Option H)}{s s':σ}{c:Bool}(h:eT step (l++l') s=some (c,s')):
  (∃s1,eT step l s=some (true,s1)/\eT step l' s1=some (c,s'))\/(eT step l s=some (false,s')/\c=false):=by
 rw[Af] at h
 split at h
 ·rename_i s1 h1;exact .inl ⟨s1,h1,h⟩
 ·rename_i s1 h1;simp only[Option.some.injEq,Prod.mk.injEq] at h;obtain ⟨rfl,rfl⟩:=h;exact .inr ⟨h1,rfl⟩
 ·cases h
theorem pV {H σ:Type}{step:σ->H->Option (Bool×σ)}{s:σ}{r:Bool×σ}(h:eT step [none] s=some r):False:=by cases h
section
variable {ro : Addr → Option Value} {σ : Type} {step : σ → aX → Option (Bool × σ)} {I : σ → List (Nat × Obj) → Prop} {y : Value}
def nE (b:ak)(s1 s2 a c y:Value)(b2 b3 b4 b5:Nat)(h:aX):List (Nat×Obj):=
 [(b5,.cells #[.func (.func 117) #[] #[.pointer (some ⟨b2,0,none⟩),.pointer (some ⟨b4,0,none⟩),.pointer (some ⟨b3,0,none⟩),.pointer (some ⟨b5,0,none⟩)]] 165),
  (b4,.cells #[.int .i64 h.e0,.int .i64 h.e1,.int .i64 h.e2] 121),(b3,.cells #[y] 139),
  (b2,.cells #[.int .i64 b.bE,.int .i64 b.bI,.int .i64 b.aN.num,.int .i64 b.aN.den,s1,s2,a,c] 115)]
theorem Gb (u0:ak){s1 s2 u w:Value}(D:aB eW ro s1 u0.ay)(E:aB er ro s2 u0.props)(F:aB eN ro u u0.aE)(G:aB dc ro w u0.told)(U:vi Tryz.prog y aX.v step ro I)
  {b2 b3 b4 b5:Nat} (n1:¬b5=b4) (n2:¬b5=b3) (n3:¬b5=b2) (ba:¬b4=b3) (bb:¬b4=b2) (bc:¬b3=b2) (bd:∀off sp,ro ⟨b5,off,sp⟩=none) (bj:∀off sp,ro ⟨b4,off,sp⟩=none) (bk:∀off sp,ro ⟨b3,off,sp⟩=none) (bl:∀off sp,ro ⟨b2,off,sp⟩=none):
  ∀(fuel:Nat) (i:Int) (h0:aX) (s:σ) (c:Bool) (s':σ),eT step (eH u0 fuel i h0).1 s=some (c,s')->∀(main:Bool) (J:Goroutine->aa->Prop),Closed Tryz.prog main J->∀own,I s own->
   cP Tryz.prog J 117 #[.int .i64 i,.pointer (some ⟨b2,0,none⟩),.pointer (some ⟨b4,0,none⟩),.pointer (some ⟨b3,0,none⟩),.pointer (some ⟨b5,0,none⟩)] ⟨ro,nE u0 s1 s2 u w y b2 b3 b4 b5 h0++own⟩
    (fun v F'=>∃h1 o,Le ⟨ro,nE u0 s1 s2 u w y b2 b3 b4 b5 h1++o⟩ F'/\v= .bool c/\I s' o/\(c=true->h1=(eH u0 fuel i h0).2)):=by
 intro fuel
 induction fuel with
 |zero=>intro i h0 s c s' h;exact (pV h).elim
 |succ fuel ih=>
  intro i h0 s c s' h main J hJ own g
  obtain ⟨H,K,rfl,bm,bo,e1⟩:=id D
  obtain ⟨L,M,rfl,br,bs,e2⟩:=id E
  obtain ⟨V,N,rfl,bz,bS,W⟩:=id F
  obtain ⟨O,P,rfl,b0,b1,ca⟩:=id G
  refine cP.go hJ Tryz.func117 rfl Tryz.ntmps117 Tryz.results117 (by simp) fun A X hd hs=>?_
  have Y:=hs 0
  have k1:=hs 1
  have Z:=hs 2
  have ab:=hs 3
  have ad:=hs 4
  clear hs
  unfold eH at h
  have cb:(0:Int)<((3:Nat):Int):=by decide
  have cd:(1:Int)<((3:Nat):Int):=by decide
  have cf:(2:Int)<((3:Nat):Int):=by decide
  repeat refine af hJ ?_
  refine aj hJ ?_
  simp only[*,go_sem,-h]
  repeat refine af hJ ?_
  refine aj hJ ?_
  simp only[nE,go_sem, *,-h]
  repeat refine af hJ ?_
  by_cases hi:i=(u0.aE.length:Int)
  ·rw[if_pos hi] at h
   repeat refine af hJ ?_
   refine bP hJ (by simp only[*,go_sem,-h]) ?_
   repeat refine af hJ ?_
   refine aA hJ fun nd=>?_
   repeat refine af hJ ?_
   refine aj hJ ?_
   simp only[*,go_sem,-h]
   cases d:nD u0 h0 with
   |none=>rw[d] at h;exact (pV h).elim
   |some r=>
    rw[d] at h
    refine bg hJ _ (F5 u0 ⟨(D.mono aR),(E.mono aR),(F.mono aR),(G.mono aR)⟩ h0 d) (aJ ?_)
    cases r with
    |false=>
     cases h
     simp only[*,go_sem]
     repeat refine af hJ ?_
     refine az ?_
     simp only[*,go_sem]
     refine ⟨h0,own,Le.refl _,?_⟩
     first|exact ⟨rfl,g,fun _=>by unfold eH;rw[if_pos rfl]⟩|exact ⟨g,fun _=>by unfold eH;rw[if_pos rfl]⟩|exact ⟨g,by unfold eH;rw[if_pos rfl]⟩|exact g
    |true=>
     have ae:step s h0=some (c,s'):=by
      simp only[eT] at h
      split at h<;>first|(cases h;assumption)|cases h
     simp only[*,go_sem,-h]
     refine Fc hJ (nE u0 (.slice H u0.ay.length K) (.slice L u0.props.length M) (.slice V u0.aE.length N) (.slice O u0.told.length P) y b2 b3 b4 b5 h0) (fun m al ao=>U s h0 c s' ae m al ao own g) nd ?_
     rintro v o ⟨rfl,Q⟩ cl
     refine aJ ?_
     simp only[*,go_sem,-h]
     repeat refine af hJ ?_
     refine az ?_
     simp only[*,go_sem,-h]
     refine ⟨h0,o,Le.refl _,?_⟩
     first|exact ⟨rfl,Q,fun _=>by unfold eH;rw[if_pos rfl]⟩|exact ⟨Q,fun _=>by unfold eH;rw[if_pos rfl]⟩
  ·rw[if_neg hi] at h
   have cu:(i==(u0.aE.length:Int))=false:=by simpa using hi
   repeat refine af hJ ?_
   refine bL hJ (by simp only[*,go_sem,-h]) ?_
   refine aI hJ ?_
   cases d:bp u0.aE i with
   |none=>rw[d] at h;exact (pV h).elim
   |some e=>
    rw[d] at h
    simp only at h
    have ar:=d
    obtain ⟨cy,cS,R⟩:=c5 d
    obtain ⟨a0,cse,a2,a3,p⟩:=W _ _ R
    obtain rfl:cse=e.cells:=a3
    cases a2
    have a4:=p 0 _ rfl;simp only[go_sem] at a4
    have a5:=p 1 _ rfl;simp only[go_sem] at a5
    have a6:=p 2 _ rfl;simp only[go_sem] at a6
    clear p R
    repeat refine af hJ ?_
    refine aj hJ ?_
    simp only[*,go_sem,-h]
    repeat refine af hJ ?_
    refine aQ hJ ?_
    refine bU hJ [6,7,31,32,33,34,35,36,37,38,39,40,41,42,43,44,45,46,47,48,49,50] (fun m a7 F'=>∃(n:Int) (h:aX) (s:σ) (own:List (Nat×Obj)),eT step (jc (eH u0 fuel (IntKind.i64.wrap (i+1))) i e.high.high m n h).1 s=some (c,s')/\
     (c=true->(jc (eH u0 fuel (IntKind.i64.wrap (i+1))) i e.high.high m n h).2=(eH u0 (fuel+1) i h0).2)/\F'=⟨ro,nE u0 (.slice H u0.ay.length K) (.slice L u0.props.length M) (.slice (some a0) u0.aE.length N) (.slice O u0.told.length P) y b2 b3 b4 b5 h++own⟩/\I s own/\slot a7 7= .int .i64 n) 100 ?_ ?_
    ·have a8:(eH u0 (fuel+1) i h0).2=(jc (eH u0 fuel (IntKind.i64.wrap (i+1))) i e.high.high 100 e.high.low h0).2:=by
      rw[eH,if_neg hi,ar]
     exact ⟨e.high.low,h0,s,own,h,fun _=>a8.symm,rfl,g,by simp only[*,go_sem,-h]⟩
    ·rintro m j F' f ⟨n,h1,s1,x,a,b,rfl,l,c0⟩
     clear h g
     have da:sz j=51:=by rw[f.size];simp only[*,go_sem]
     have kd:j.defers=[]:=by rw[f.defers];simp only[*,go_sem]
     have db:slot j 0= .int .i64 i:=by rw[f.fc 0 (by decide)];simp only[*,go_sem]
     have dd:slot j 1= .pointer (some ⟨b2,0,none⟩):=by rw[f.fc 1 (by decide)];simp only[*,go_sem]
     have df:slot j 2= .pointer (some ⟨b4,0,none⟩):=by rw[f.fc 2 (by decide)];simp only[*,go_sem]
     have dk:slot j 3= .pointer (some ⟨b3,0,none⟩):=by rw[f.fc 3 (by decide)];simp only[*,go_sem]
     have dp:slot j 4= .pointer (some ⟨b5,0,none⟩):=by rw[f.fc 4 (by decide)];simp only[*,go_sem]
     clear f Y k1 Z ab ad X hd
     obtain _|m:=m
     ·exact (pV a).elim
     unfold jc at a b
     repeat refine af hJ ?_
     refine aj hJ ?_
     simp only[nE,go_sem, *,-a]
     repeat refine af hJ ?_
     by_cases q:n<=e.high.high
     ·rw[if_pos q] at a
      rw[if_pos q] at b
      repeat refine af hJ ?_
      refine bP hJ (by simp only[*,go_sem,-a]) ?_
      refine aI hJ ?_
      cases z:h1.setAt i n with
      |none=>rw[z] at a;exact (pV a).elim
      |some dq=>
       rw[z] at a b
       simp only at a b
       repeat refine af hJ ?_
       refine aQ hJ ?_
       repeat refine af hJ ?_
       refine aA hJ fun nd=>?_
       repeat refine af hJ ?_
       refine aj hJ ?_
       rcases aX.F9 z with ⟨B,rfl⟩|⟨B,rfl⟩|⟨B,rfl⟩<;>subst B<;>
       (simp only[*,go_sem,-a]
        repeat refine af hJ ?_
        refine aj hJ ?_
        simp only[*,go_sem,-a]
        have a9:=Ga a
        clear a
        rcases a9 with ⟨s2,C,a⟩|⟨C,rfl⟩
        ·refine cP.less hJ ((ih _ _ _ _ _ C _ J hJ x l).mono ?_)
         rintro v F' ⟨S,T,hle,rfl,k,t⟩
         have t:=t rfl
         subst t
         refine ⟨_,hle,aJ ?_⟩
         simp only[*,go_sem,-a]
         repeat refine af hJ ?_
         refine bL hJ (by simp only[*,go_sem,-a]) ?_
         refine aI hJ ?_
         repeat refine af hJ ?_
         refine aj hJ ?_
         simp only[*,go_sem,-a]
         exact ⟨m,Nat.lt_succ_self m,_,Le.refl _,_,_,_,_,a,b,rfl,k,by simp only[*,go_sem,-a]⟩
        ·refine cP.less hJ ((ih _ _ _ _ _ C _ J hJ x l).mono ?_)
         rintro v F' ⟨S,T,hle,rfl,k,t⟩
         refine ⟨_,hle,aJ ?_⟩
         simp only[*,go_sem]
         repeat refine af hJ ?_
         refine bP hJ (by simp only[*,go_sem]) ?_
         repeat refine af hJ ?_
         refine aj hJ ?_
         simp only[*,go_sem]
         repeat refine af hJ ?_
         refine az ?_
         simp only[*,go_sem]
         refine ⟨S,T,Le.refl _,?_⟩
         first|exact ⟨rfl,k,fun h=>by cases h⟩|exact ⟨k,fun h=>by cases h⟩|exact k|exact ⟨k,trivial⟩)
     ·rw[if_neg q] at a
      rw[if_neg q] at b
      simp only[eT,Option.some.injEq,Prod.mk.injEq] at a
      obtain ⟨rfl,rfl⟩:=a
      repeat refine af hJ ?_
      refine bL hJ (by simp only[*,go_sem]) ?_
      refine bN ?_
      simp only[go_sem]
      repeat refine af hJ ?_
      refine aj hJ ?_
      simp only[*,go_sem]
      repeat refine af hJ ?_
      refine az ?_
      simp only[*,go_sem]
      refine ⟨h1,x,Le.refl _,?_⟩
      first|exact ⟨rfl,l,fun h=>b h⟩|exact ⟨l,fun h=>b h⟩|exact ⟨l,b rfl⟩
theorem r4 (u0:ak){s1 s2 j k:Value}(e:aB eW ro s1 u0.ay)(f:aB er ro s2 u0.props)(g:aB eN ro j u0.aE)(h:aB dc ro k u0.told):
  l9 Tryz.prog 66 #[.agg #[.int .i64 u0.bE,.int .i64 u0.bI,.int .i64 u0.aN.num,.int .i64 u0.aN.den,s1,s2,j,k]] #[] aX.v (mA u0) ro:=by
 refine ⟨by simp only[go_sem],fun aM b σ step I r t u l s c s' a main J hJ own m=>?_⟩
 replace e:=e.mono b
 replace f:=f.mono b
 replace g:=g.mono b
 replace h:=h.mono b
 refine cP.go hJ Tryz.func66 rfl Tryz.ntmps66 Tryz.results66 (by simp) fun A w hd hs=>?_
 have x:=hs 0
 have k1:=hs 1
 clear hs
 repeat refine af hJ ?_
 refine aj hJ ?_
 try simp only[*,go_sem,-a]
 intro b2 f2;have r2:=eB f2;have n2:=fE f2
 intro b3 f3;have r3:=eB f3;have n3:=fE f3
 simp only[au] at n3
 try simp only[*,go_sem,-a]
 repeat refine af hJ ?_
 refine aj hJ ?_
 try simp only[*,go_sem,-a]
 intro b4 f4;have n:=eB f4;have i:=fE f4
 simp only[au] at i
 try simp only[*,go_sem,-a]
 repeat refine af hJ ?_
 refine aj hJ ?_
 try simp only[*,go_sem,-a]
 intro b5 f5;have o:=eB f5;have d:=fE f5
 simp only[au] at d
 try simp only[*,go_sem,-a]
 repeat refine af hJ ?_
 refine aj hJ ?_
 try simp only[*,go_sem,-a]
 repeat refine af hJ ?_
 refine aj hJ ?_
 try simp only[*,go_sem,-a]
 refine cP.less hJ ((Gb u0 e f g h l (b2:=b2) (b3:=b3) (b4:=b4) (b5:=b5) d.1 d.2.1 d.2.2.1 i.1 i.2.1 n3.1 o n r3 r2 5 0 ⟨0,0,0⟩ s c s' a main J hJ own m).mono ?_)
 rintro v F' ⟨h1,p,hle,rfl,q,_⟩
 exact ⟨_,hle,p,Le.sub (List.sublist_append_right _ _),q⟩
end
def r5 (u0:List bO):Option (List bO):=if u0.length<=1000000 then some u0 else none
theorem vB {ro:Addr->Option Value}(u0:List bO){s1:Value}(b:aB dc ro s1 u0){x:List bO}(h:r5 u0=some x):aC Tryz.prog 93 #[s1] ⟨ro,[]⟩ (fun v G=>∃a,aO dc ro 76 v x a/\Le ⟨ro,a⟩ G):=by
 obtain ⟨ad,cap,rfl,le,d,e⟩:=id b;unfold r5 at h;split at h
 case isFalse=>cases h
 rename_i hlen;obtain rfl:=Option.some.inj h;clear h;refine aC.go Tryz.func93 rfl Tryz.ntmps93 Tryz.results93 (by simp) fun main J hJ A f hd hs=>?_;have g:=hs 0;clear hs;refine ah hJ ?_;simp only[*,go_sem];cases ad with
 |none=>
  have hu:u0=[]:=by
   cases u0 with
   |nil=>rfl
   |cons x l=>obtain ⟨p,cs,c,_⟩:=e 0 x rfl;cases c
  subst hu;first|refine ah hJ ?_|refine af hJ (ah hJ ?_)
  simp only[*,go_sem];refine bP hJ (by simp only[*,go_sem]) ?_;refine ah hJ ?_;simp only[*,go_sem];refine az ?_;simp only[*,go_sem];exact ⟨[],aO.nil _ _ _,Le.refl _⟩
 |some p=>
  first|refine ah hJ ?_|refine af hJ (ah hJ ?_)
  simp only[*,go_sem];refine bL hJ (by simp only[*,go_sem]) ?_;refine aI hJ ?_;refine ah hJ ?_;simp only[*,go_sem];intro i f1;have r1:=eB f1;try simp only[*,go_sem]
  refine pe r1 trivial rfl hlen b rfl rfl ek ek hU ie rfl ia (by decide) (by decide) (fun v a hg j=>aJ ?_);simp only[*,go_sem];refine az ?_;simp only[*,go_sem];exact ⟨a,hg,Le.refl _⟩
def r6 (u0:List bY):Option (List bY):=if u0.length<=1000000 then some u0 else none
theorem Ax {ro:Addr->Option Value}(u0:List bY){s1:Value}(b:aB eN ro s1 u0){x:List bY}(h:r6 u0=some x):aC Tryz.prog 71 #[s1] ⟨ro,[]⟩ (fun v G=>∃a,aO eN ro 41 v x a/\Le ⟨ro,a⟩ G):=by
 obtain ⟨ad,cap,rfl,le,d,e⟩:=id b;unfold r6 at h;split at h
 case isFalse=>cases h
 rename_i hlen;obtain rfl:=Option.some.inj h;clear h;refine aC.go Tryz.func71 rfl Tryz.ntmps71 Tryz.results71 (by simp) fun main J hJ A f hd hs=>?_;have g:=hs 0;clear hs;refine ah hJ ?_;simp only[*,go_sem];cases ad with
 |none=>
  have hu:u0=[]:=by
   cases u0 with
   |nil=>rfl
   |cons x l=>obtain ⟨p,cs,c,_⟩:=e 0 x rfl;cases c
  subst hu;first|refine ah hJ ?_|refine af hJ (ah hJ ?_)
  simp only[*,go_sem];refine bP hJ (by simp only[*,go_sem]) ?_;refine ah hJ ?_;simp only[*,go_sem];refine az ?_;simp only[*,go_sem];exact ⟨[],aO.nil _ _ _,Le.refl _⟩
 |some p=>
  first|refine ah hJ ?_|refine af hJ (ah hJ ?_)
  simp only[*,go_sem];refine bL hJ (by simp only[*,go_sem]) ?_;refine aI hJ ?_;refine ah hJ ?_;simp only[*,go_sem];intro i f1;have r1:=eB f1;try simp only[*,go_sem]
  refine pe r1 trivial rfl hlen b rfl rfl zK zK Ev Ey rfl Ew (by decide) (by decide) (fun v a hg j=>aJ ?_);simp only[*,go_sem];refine az ?_;simp only[*,go_sem];exact ⟨a,hg,Le.refl _⟩
def vC (u0:List b7):Option (List b7):=if u0.length<=1000000 then some u0 else none
theorem Gc {ro:Addr->Option Value}(u0:List b7){s1:Value}(b:aB eW ro s1 u0){x:List b7}(h:vC u0=some x):aC Tryz.prog 123 #[s1] ⟨ro,[]⟩ (fun v G=>∃a,aO eW ro 85 v x a/\Le ⟨ro,a⟩ G):=by
 obtain ⟨ad,cap,rfl,le,d,e⟩:=id b;unfold vC at h;split at h
 case isFalse=>cases h
 rename_i hlen;obtain rfl:=Option.some.inj h;clear h;refine aC.go Tryz.func123 rfl Tryz.ntmps123 Tryz.results123 (by simp) fun main J hJ A f hd hs=>?_;have g:=hs 0;clear hs;refine ah hJ ?_;simp only[*,go_sem];cases ad with
 |none=>
  have hu:u0=[]:=by
   cases u0 with
   |nil=>rfl
   |cons x l=>obtain ⟨p,cs,c,_⟩:=e 0 x rfl;cases c
  subst hu;first|refine ah hJ ?_|refine af hJ (ah hJ ?_)
  simp only[*,go_sem];refine bP hJ (by simp only[*,go_sem]) ?_;refine ah hJ ?_;simp only[*,go_sem];refine az ?_;simp only[*,go_sem];exact ⟨[],aO.nil _ _ _,Le.refl _⟩
 |some p=>
  first|refine ah hJ ?_|refine af hJ (ah hJ ?_)
  simp only[*,go_sem];refine bL hJ (by simp only[*,go_sem]) ?_;refine aI hJ ?_;refine ah hJ ?_;simp only[*,go_sem];intro i f1;have r1:=eB f1;try simp only[*,go_sem]
  refine pe r1 trivial rfl hlen b rfl rfl zJ zJ Ez zM rfl EA (by decide) (by decide) (fun v a hg j=>aJ ?_);simp only[*,go_sem];refine az ?_;simp only[*,go_sem];exact ⟨a,hg,Le.refl _⟩
def r7 (u0:List ck):Option (List ck):=if u0.length<=1000000 then some u0 else none
theorem Ay {ro:Addr->Option Value}(u0:List ck){s1:Value}(b:aB er ro s1 u0){x:List ck}(h:r7 u0=some x):aC Tryz.prog 124 #[s1] ⟨ro,[]⟩ (fun v G=>∃a,aO er ro 96 v x a/\Le ⟨ro,a⟩ G):=by
 obtain ⟨ad,cap,rfl,le,d,e⟩:=id b;unfold r7 at h;split at h
 case isFalse=>cases h
 rename_i hlen;obtain rfl:=Option.some.inj h;clear h;refine aC.go Tryz.func124 rfl Tryz.ntmps124 Tryz.results124 (by simp) fun main J hJ A f hd hs=>?_;have g:=hs 0;clear hs;refine ah hJ ?_;simp only[*,go_sem];cases ad with
 |none=>
  have hu:u0=[]:=by
   cases u0 with
   |nil=>rfl
   |cons x l=>obtain ⟨p,cs,c,_⟩:=e 0 x rfl;cases c
  subst hu;first|refine ah hJ ?_|refine af hJ (ah hJ ?_)
  simp only[*,go_sem];refine bP hJ (by simp only[*,go_sem]) ?_;refine ah hJ ?_;simp only[*,go_sem];refine az ?_;simp only[*,go_sem];exact ⟨[],aO.nil _ _ _,Le.refl _⟩
 |some p=>
  first|refine ah hJ ?_|refine af hJ (ah hJ ?_)
  simp only[*,go_sem];refine bL hJ (by simp only[*,go_sem]) ?_;refine aI hJ ?_;refine ah hJ ?_;simp only[*,go_sem];intro i f1;have r1:=eB f1;try simp only[*,go_sem]
  refine pe r1 trivial rfl hlen b rfl rfl kX kX q8 rf rfl q9 (by decide) (by decide) (fun v a hg j=>aJ ?_);simp only[*,go_sem];refine az ?_;simp only[*,go_sem];exact ⟨a,hg,Le.refl _⟩
def r8 (u0:List Int):Option (List Int):=if u0.length<=1000000 then some u0 else none
theorem Az {ro:Addr->Option Value}(u0:List Int){s1:Value}(b:aB rI ro s1 u0){x:List Int}(h:r8 u0=some x):aC Tryz.prog 141 #[s1] ⟨ro,[]⟩ (fun v G=>∃a,aO rI ro 3 v x a/\Le ⟨ro,a⟩ G):=by
 obtain ⟨ad,cap,rfl,le,d,e⟩:=id b;unfold r8 at h;split at h
 case isFalse=>cases h
 rename_i hlen;obtain rfl:=Option.some.inj h;clear h;refine aC.go Tryz.func141 rfl Tryz.ntmps141 Tryz.results141 (by simp) fun main J hJ A f hd hs=>?_;have g:=hs 0;clear hs;refine ah hJ ?_;simp only[*,go_sem];cases ad with
 |none=>
  have hu:u0=[]:=by
   cases u0 with
   |nil=>rfl
   |cons x l=>obtain ⟨p,cs,c,_⟩:=e 0 x rfl;cases c
  subst hu;first|refine ah hJ ?_|refine af hJ (ah hJ ?_)
  simp only[*,go_sem];refine bP hJ (by simp only[*,go_sem]) ?_;refine ah hJ ?_;simp only[*,go_sem];refine az ?_;simp only[*,go_sem];exact ⟨[],aO.nil _ _ _,Le.refl _⟩
 |some p=>
  first|refine ah hJ ?_|refine af hJ (ah hJ ?_)
  simp only[*,go_sem];refine bL hJ (by simp only[*,go_sem]) ?_;refine aI hJ ?_;refine ah hJ ?_;simp only[*,go_sem];intro i f1;have r1:=eB f1;try simp only[*,go_sem]
  refine pe r1 trivial rfl hlen b rfl rfl fN fN kU kW rfl kV (by decide) (by decide) (fun v a hg j=>aJ ?_);simp only[*,go_sem];refine az ?_;simp only[*,go_sem];exact ⟨a,hg,Le.refl _⟩
def r9 (u0:ak)(i43:Nat)(b:(ak->Option Int))(st:Int):Option (Fl Int (ak×Int)):=
 ag (b u0) fun a=>cond ((a != 0)) (some (.rt ((⟨0,0,(⟨0,0⟩:an),([]:(List b7)),([]:(List ck)),([]:(List bY)),([]:(List bO))⟩:ak),a))) (some (.nx st))
def fJ (u0:ak)(b:(List (ak->Option Int))):Option (ak×Int):=
 ag (eX u0) fun a=>cond ((a != 0)) (some ((⟨0,0,(⟨0,0⟩:an),([]:(List b7)),([]:(List ck)),([]:(List bY)),([]:(List bO))⟩:ak),a)) (ag (bF (r9 u0) 0 b 0) fun o=>aG o (fun c=>some (u0,0)) (fun _ _=>none) (fun r=>some r))
theorem ki {ro:Addr->Option Value}(D:de ro)(u0:ak){s1 f g i:Value}(b:bJ ro u0 s1 f g i)(c:(List (ak->Option Int))){o:Value}(q:aB (cY) ro o c){r:(ak×Int)}(h:fJ u0 c=some r):eD Tryz.prog 65 #[bv u0 s1 f g i,o] ro (fun v aM=>∃s w1 w2 w3,v= .tuple #[bv r.1 s w1 w2 w3,.int .i64 r.2]/\bJ aM r.1 s w1 w2 w3):=by
 obtain ⟨d31,ae,rfl,al,E,-⟩:=id q;unfold fJ at h;have F:=b.oc;simp only[bH] at F;refine aC.go Tryz.func65 rfl Tryz.ntmps65 Tryz.results65 (by simp) fun main J hJ A G hd hs=>?_;have H:=hs 0;have k1:=hs 1;clear hs;refine ah hJ ?_;simp only[*,go_sem];refine ax fun I ao K=>?_;try simp only[au] at K
 refine ax fun L ar M=>?_;try simp only[au] at M
 try simp only[*,go_sem]
 refine af hJ (ah hJ ?_);revert h;refine bS fun a0 N h=>?_;simp only[*,go_sem];refine bg hJ _ (As (D.mono aR) u0 (b.e.mono aR) (b.p.mono aR) (b.y.mono aR) (b.t.mono aR) N) (aJ ?_);try simp only[*,go_sem]
 refine ah hJ ?_;simp only[*,go_sem];revert h;refine jC hJ (by simp only[*,go_sem]) (fun O h=>?_) fun O h=>?_
 ·obtain rfl:=sI h;refine ah hJ ?_;simp only[*,go_sem];refine az ?_;simp only[*,go_sem];exact ⟨_,Ext.refl _,Le.sub (List.nil_sublist _),_,_,_,_,rfl,⟨aB.nil _ _,aB.nil _ _,aB.nil _ _,aB.nil _ _⟩⟩
 refine aI hJ (af hJ ?_);refine aj hJ ?_;simp only[*,go_sem];refine ax fun P a2 Q=>?_;try simp only[au] at Q
 try simp only[*,go_sem]
 refine af hJ (ah hJ ?_);simp only[*,go_sem];refine aQ hJ ?_;revert h;refine bS fun R d u=>?_;refine bU hJ [5,9,10,21,22,23,24,25,26,27,28,29,30,31,32] (fun m w F'=>∃(i43:Nat) (j:Int),m=c.length - i43/\i43<=c.length/\bF (r9 u0) i43 (c.drop i43) j=some R/\F'=⟨ro,(P,bl u0 s1 f g i)::(L,bz 115)::(I,bk u0 s1 f g i)::[]⟩/\slot w 21= .int .i64 (i43:Int)/\slot w 5= .int .i64 j) c.length ?_ ?_
 ·refine ⟨0,0,(Nat.sub_zero _).symm,Nat.zero_le _,d,rfl,?_⟩;simp only[*,go_sem]
 rintro a3 a4 F' z ⟨i43,j,rfl,a5,d,rfl,a6,a7⟩;obtain ⟨S,T,U⟩:=z.pick [4,7,19,20] (by decide);simp only[*,go_sem] at S T U;clear z G hd H k1;refine ah hJ ?_;simp only[*,go_sem];refine af hJ ?_;rcases Nat.lt_or_ge i43 c.length with V|B
 ·refine bP hJ (by simp only[*,go_sem]) ?_;refine aI hJ ?_;obtain ⟨a8,k⟩:∃x,c[i43]?=some x:=⟨_,List.getElem?_eq_getElem V⟩
  rw[c8 k] at d;revert d;refine bS fun a9 h l=>?_;unfold r9 at h;try dsimp only at h
  obtain ⟨ba,bb,W,X,C⟩:=q.el _ _ k;obtain ⟨bc,bd,bj,rfl,Y⟩:=X;cases W;have Z:=C 0 _ rfl;simp only[go_sem] at Z;clear C k;refine af hJ (aQ hJ (af hJ ?_));refine aj hJ ?_;simp only[*,go_sem];refine ah hJ ?_;revert h;refine bS fun bm ab h=>?_;simp only[*,go_sem];refine bg hJ _ (Y.2 _ (fun a v h=>aR a v h) u0 _ _ _ _ _ (b.e.mono aR) (b.p.mono aR) (b.y.mono aR) (b.t.mono aR) ab) (aJ ?_);try simp only[*,go_sem]
  refine ah hJ ?_;simp only[*,go_sem];revert h;refine jC hJ (by simp only[*,go_sem]) (fun ad h=>?_) fun ad h=>?_
  ·obtain rfl:=sI h;refine ah hJ ?_;simp only[*,go_sem];obtain rfl:=sI l;clear l;have h:=u;dsimp only[aG] at h;obtain rfl:=sI h;refine az ?_;simp only[*,go_sem];exact ⟨_,Ext.refl _,Le.sub (List.nil_sublist _),_,_,_,_,rfl,⟨aB.nil _ _,aB.nil _ _,aB.nil _ _,aB.nil _ _⟩⟩
  obtain rfl:=sI h;refine aI hJ ?_;have bo:=cn (n:=i43) (by have:=E;omega);refine aj hJ ?_;simp only[*,go_sem];refine ⟨c.length - (i43+1),by omega,_,Le.sub (List.Sublist.refl _),i43+1,j,rfl,by omega,l,rfl,?_⟩;simp only[*,go_sem]
 have br:=Nat.not_lt.2 B;refine bL hJ (by simp only[*,go_sem]) ?_;rw[List.drop_eq_nil_of_le B] at d;obtain rfl:=sI d;clear d;have h:=u;dsimp only[aG] at h;obtain rfl:=sI h;refine bN ?_;simp only[go_sem];refine ah hJ ?_;simp only[*,go_sem];refine az ?_;simp only[*,go_sem];exact ⟨_,Ext.refl _,Le.sub (List.nil_sublist _),_,_,_,_,rfl,b⟩
def vD (u0:ak)(b:Int):Option (an×Int):=
 ag (fJ u0 ([(nq b)])) fun a=>cond ((a.2 != 0)) (some ((⟨0,0⟩:an),a.2)) (ag (jb a.1 b) fun c=>some (c,0))
theorem Gd {ro:Addr->Option Value}(f:de ro)(u0:ak){s1 g i j:Value}(k:bJ ro u0 s1 g i j)(a:Int){r:(an×Int)}(h:vD u0 a=some r):aC Tryz.prog 62 #[bv u0 s1 g i j,.int .i64 a] ⟨ro,[]⟩ (fun v _=>v= .tuple #[r.1.v,.int .i64 r.2]):=by
 unfold vD at h;refine aC.go Tryz.func62 rfl Tryz.ntmps62 Tryz.results62 (by simp) fun main J hJ A V hd hs=>?_;have W:=hs 0;have k1:=hs 1;clear hs;refine ah hJ ?_;simp only[*,go_sem];refine ax fun B C D=>?_;try simp only[au] at D
 refine ax fun E F G=>?_;try simp only[au] at G
 try simp only[*,go_sem]
 refine af hJ ?_;refine aA hJ fun H=>?_;refine aj hJ ?_;revert h;refine bS fun I K h=>?_;simp only[*,go_sem];refine ax fun c m n=>?_;have q:=aP.cons n H;try simp only[au] at n
 try simp only[*,go_sem]
 obtain ⟨l,s,u⟩:=fP (b:=c) (o:=(.cells #[.func (.func 115) #[.int .i64 a] #[]] 127)) [] ((E,rt 0 0)::(B,bk u0 s1 g i j)::[]) q m (aD.cons F (aD.cons C (aD.nil _)));have w:aB (cY) (bR ro c (.cells #[.func (.func 115) #[.int .i64 a] #[]] 127)) (.slice (some ⟨c,0,none⟩) 1 1) [(nq a)]:=(aB.one (r:=(cY)) (e:=127) (cs:=#[.func (.func 115) #[.int .i64 a] #[]]) (x:=(nq a)) (own:=[(c,.cells #[.func (.func 115) #[.int .i64 a] #[]] 127)]) m (by simp[lk]) ⟨115,#[.int .i64 a],#[],rfl,⟨by simp only[go_sem],fun X Y L _ _ _ _ _ M N O P h=>by simp only[go_sem];exact FM a L ⟨M,N,O,P⟩ h⟩⟩)
 generalize bR ro c (.cells #[.func (.func 115) #[.int .i64 a] #[]] 127)=Z at w s l u;refine gO hJ u ?_;replace k:=k.mono l;replace f:=f.mono l;simp only[bu] at s;have Q:=aP.tl q;refine b8 hJ _ (ki f u0 k ([(nq a)]) w K) fun v ab ad R S=>?_;obtain ⟨ae,al,ao,ar,rfl,d⟩:=S;simp only[bu] at R;obtain ⟨d41,a0,rfl,a2,a3,-⟩:=id d.e;obtain ⟨d48,a4,rfl,a5,a6,-⟩:=id d.p;obtain ⟨d55,a7,rfl,a8,a9,-⟩:=id d.y;obtain ⟨d62,ba,rfl,bb,bc,-⟩:=id d.t;refine aJ ?_;try simp only[*,go_sem]
 refine ax fun bd bj z=>?_;have bl:=aP.cons z Q;try simp only[au] at z
 try simp only[*,go_sem]
 refine af hJ (ah hJ ?_);simp only[*,go_sem];revert h;refine jC hJ (by simp only[*,go_sem]) (fun T h=>?_) fun T h=>?_
 ·obtain rfl:=sI h;refine ah hJ ?_;simp only[*,go_sem];refine az ?_;simp only[*,go_sem]
 refine aI hJ (af hJ ?_);refine aj hJ ?_;revert h;refine bS fun bm U h=>?_;obtain rfl:=sI h;simp only[*,go_sem];refine bg hJ _ (Av I.1 (d.mono aR) a U) (aJ ?_);try simp only[*,go_sem]
 refine az ?_;simp only[*,go_sem]
def vE (u0:ak)(b:aU):Option (Int×an×Int):=
 ag (fJ u0 ([(fe b)])) fun a=>cond ((a.2 != 0)) (some (0,(⟨0,0⟩:an),a.2)) (ag (jz a.1 b) fun c=>some (c.at_,c.high,0))
theorem Ge {ro:Addr->Option Value}(k:de ro)(u0:ak){s1 f g i:Value}(j:bJ ro u0 s1 f g i)(a:aU){r:(Int×an×Int)}(h:vE u0 a=some r):aC Tryz.prog 34 #[bv u0 s1 f g i,.agg #[.int .i64 a.back,.int .i64 a.high]] ⟨ro,[]⟩ (fun v _=>v= .tuple #[.int .i64 r.1,r.2.1.v,.int .i64 r.2.2]):=by
 unfold vE at h;have D:=j.oc;simp only[bH] at D;refine aC.go Tryz.func34 rfl Tryz.ntmps34 Tryz.results34 (by simp) fun main J hJ A a2 hd hs=>?_;have a3:=hs 0;have k1:=hs 1;clear hs;refine ah hJ ?_;simp only[*,go_sem];refine ax fun m E F=>?_;try simp only[au] at F
 refine ax fun n G H=>?_;try simp only[au] at H
 refine ax fun I K L=>?_;try simp only[au] at L
 try simp only[*,go_sem]
 refine af hJ ?_;refine aA hJ fun M=>?_;refine aj hJ ?_;revert h;refine bS fun p N h=>?_;simp only[*,go_sem];refine ax fun d q s=>?_;have t:=aP.cons s M;try simp only[au] at s
 try simp only[*,go_sem]
 obtain ⟨l,u,w⟩:=fP (b:=d) (o:=(.cells #[.func (.func 78) #[.agg #[.int .i64 a.back,.int .i64 a.high]] #[]] 127)) [] ((I,rt 0 0)::(n,.cells #[.int .i64 a.back,.int .i64 a.high] 53)::(m,bk u0 s1 f g i)::[]) t q (aD.cons K (aD.cons G (aD.cons E (aD.nil _))));have y:aB (cY) (bR ro d (.cells #[.func (.func 78) #[.agg #[.int .i64 a.back,.int .i64 a.high]] #[]] 127)) (.slice (some ⟨d,0,none⟩) 1 1) [(fe a)]:=(aB.one (r:=(cY)) (e:=127) (cs:=#[.func (.func 78) #[.agg #[.int .i64 a.back,.int .i64 a.high]] #[]]) (x:=(fe a)) (own:=[(d,.cells #[.func (.func 78) #[.agg #[.int .i64 a.back,.int .i64 a.high]] #[]] 127)]) q (by simp[lk]) ⟨78,#[.agg #[.int .i64 a.back,.int .i64 a.high]],#[],rfl,⟨by simp only[go_sem],fun a4 a5 O _ _ _ _ _ P Q R S h=>by simp only[go_sem];exact rE a O ⟨P,Q,R,S⟩ h⟩⟩)
 generalize bR ro d (.cells #[.func (.func 78) #[.agg #[.int .i64 a.back,.int .i64 a.high]] #[]] 127)=a6 at y u l w;refine gO hJ w ?_;replace j:=j.mono l;replace k:=k.mono l;simp only[bu] at u;have T:=aP.tl t;refine b8 hJ _ (ki k u0 j ([(fe a)]) y N) fun v U a7 V W=>?_;obtain ⟨X,Y,Z,ab,rfl,z⟩:=W;have ad:=z.oc;simp only[bH] at ad;simp only[bu] at V;refine aJ ?_;try simp only[*,go_sem]
 refine ax fun ae a8 B=>?_;have al:=aP.cons B T;try simp only[au] at B
 try simp only[*,go_sem]
 refine af hJ (ah hJ ?_);simp only[*,go_sem];revert h;refine jC hJ (by simp only[*,go_sem]) (fun ao h=>?_) fun ao h=>?_
 ·obtain rfl:=sI h;refine ah hJ ?_;simp only[*,go_sem];refine az ?_;simp only[*,go_sem]
 refine aI hJ (af hJ ?_);refine aj hJ ?_;revert h;refine bS fun c ar h=>?_;obtain rfl:=sI h;simp only[*,go_sem];refine bg hJ _ (rQ p.1 (z.mono aR) a ar) (aJ ?_);try simp only[*,go_sem]
 refine ax fun a0 a9 C=>?_;have ba:=aP.cons C al;try simp only[au] at C
 try simp only[*,go_sem]
 refine af hJ ?_;refine e9 hJ mixed 5 ⟨U,[(a0,.cells #[.int .i64 c.spot.aL,.int .i64 c.spot.high.num,.int .i64 c.spot.high.den,.int .i64 c.at_,.int .i64 c.high.num,.int .i64 c.high.den] 147),(ae,bl p.1 X Y Z ab),(n,.cells #[.int .i64 a.back,.int .i64 a.high] 53),(m,bk u0 s1 f g i)]⟩ (by simp only[*,go_sem]) (by kernel_rfl) ?_;simp only[*,go_sem];refine az ?_;simp only[*,go_sem]
def vF (u0:ak)(b:aU):Option (an×Int):=
 ag (fJ u0 ([(fe b)])) fun a=>cond ((a.2 != 0)) (some ((⟨0,0⟩:an),a.2)) (ag (rR a.1 b) fun c=>some (c,0))
theorem Gf {ro:Addr->Option Value}(f:de ro)(u0:ak){s1 g i j:Value}(k:bJ ro u0 s1 g i j)(a:aU){r:(an×Int)}(h:vF u0 a=some r):aC Tryz.prog 22 #[bv u0 s1 g i j,.agg #[.int .i64 a.back,.int .i64 a.high]] ⟨ro,[]⟩ (fun v _=>v= .tuple #[r.1.v,.int .i64 r.2]):=by
 unfold vF at h;refine aC.go Tryz.func22 rfl Tryz.ntmps22 Tryz.results22 (by simp) fun main J hJ A Y hd hs=>?_;have Z:=hs 0;have k1:=hs 1;clear hs;refine ah hJ ?_;simp only[*,go_sem];refine ax fun B C D=>?_;try simp only[au] at D
 refine ax fun E F G=>?_;try simp only[au] at G
 refine ax fun H I K=>?_;try simp only[au] at K
 try simp only[*,go_sem]
 refine af hJ ?_;refine aA hJ fun L=>?_;refine aj hJ ?_;revert h;refine bS fun M N h=>?_;simp only[*,go_sem];refine ax fun c m n=>?_;have q:=aP.cons n L;try simp only[au] at n
 try simp only[*,go_sem]
 obtain ⟨l,s,u⟩:=fP (b:=c) (o:=(.cells #[.func (.func 78) #[.agg #[.int .i64 a.back,.int .i64 a.high]] #[]] 127)) [] ((H,rt 0 0)::(E,.cells #[.int .i64 a.back,.int .i64 a.high] 53)::(B,bk u0 s1 g i j)::[]) q m (aD.cons I (aD.cons F (aD.cons C (aD.nil _))));have w:aB (cY) (bR ro c (.cells #[.func (.func 78) #[.agg #[.int .i64 a.back,.int .i64 a.high]] #[]] 127)) (.slice (some ⟨c,0,none⟩) 1 1) [(fe a)]:=(aB.one (r:=(cY)) (e:=127) (cs:=#[.func (.func 78) #[.agg #[.int .i64 a.back,.int .i64 a.high]] #[]]) (x:=(fe a)) (own:=[(c,.cells #[.func (.func 78) #[.agg #[.int .i64 a.back,.int .i64 a.high]] #[]] 127)]) m (by simp[lk]) ⟨78,#[.agg #[.int .i64 a.back,.int .i64 a.high]],#[],rfl,⟨by simp only[go_sem],fun ab ad O _ _ _ _ _ P Q R S h=>by simp only[go_sem];exact rE a O ⟨P,Q,R,S⟩ h⟩⟩)
 generalize bR ro c (.cells #[.func (.func 78) #[.agg #[.int .i64 a.back,.int .i64 a.high]] #[]] 127)=ae at w s l u;refine gO hJ u ?_;replace k:=k.mono l;replace f:=f.mono l;simp only[bu] at s;have T:=aP.tl q;refine b8 hJ _ (ki f u0 k ([(fe a)]) w N) fun v al ao U V=>?_;obtain ⟨ar,a0,a2,a3,rfl,d⟩:=V;simp only[bu] at U;obtain ⟨d42,a4,rfl,a5,a6,-⟩:=id d.e;obtain ⟨d49,a7,rfl,a8,a9,-⟩:=id d.p;obtain ⟨d56,ba,rfl,bb,bc,-⟩:=id d.y;obtain ⟨d63,bd,rfl,bj,bl,-⟩:=id d.t;refine aJ ?_;try simp only[*,go_sem]
 refine ax fun bm bo z=>?_;have br:=aP.cons z T;try simp only[au] at z
 try simp only[*,go_sem]
 refine af hJ (ah hJ ?_);simp only[*,go_sem];revert h;refine jC hJ (by simp only[*,go_sem]) (fun W h=>?_) fun W h=>?_
 ·obtain rfl:=sI h;refine ah hJ ?_;simp only[*,go_sem];refine az ?_;simp only[*,go_sem]
 refine aI hJ (af hJ ?_);refine aj hJ ?_;revert h;refine bS fun bs X h=>?_;obtain rfl:=sI h;simp only[*,go_sem];refine bg hJ _ (Au M.1 (d.mono aR) a X) (aJ ?_);try simp only[*,go_sem]
 refine az ?_;simp only[*,go_sem]
def vG (u0:ak)(c:aU):Option (an×Bool×Int):=
 ag (fJ u0 ([(fe c)])) fun b=>cond ((b.2 != 0)) (some ((⟨0,0⟩:an),false,b.2)) (ag (jA b.1 c) fun a=>cond (((a.length:Int)==0)) (some ((⟨0,0⟩:an),false,0)) (ag (bp a 0) fun d=>ag (g9 a 1 (a.length:Int)) fun e=>ag (iZ gb d e) fun f=>some (f.high,true,0)))
theorem Gg {ro:Addr->Option Value}(l:de ro)(u0:ak){s1 f g i:Value}(j:bJ ro u0 s1 f g i)(a:aU){r:(an×Bool×Int)}(h:vG u0 a=some r):aC Tryz.prog 52 #[bv u0 s1 f g i,.agg #[.int .i64 a.back,.int .i64 a.high]] ⟨ro,[]⟩ (fun v _=>v= .tuple #[r.1.v,.bool r.2.1,.int .i64 r.2.2]):=by
 unfold vG at h;have N:=j.oc;simp only[bH] at N;refine aC.go Tryz.func52 rfl Tryz.ntmps52 Tryz.results52 (by simp) fun main J hJ A cu hd hs=>?_;have cy:=hs 0;have k1:=hs 1;clear hs;refine ah hJ ?_;simp only[*,go_sem];refine ax fun s O P=>?_;try simp only[au] at P
 refine ax fun t Q R=>?_;try simp only[au] at R
 refine ax fun S T U=>?_;try simp only[au] at U
 try simp only[*,go_sem]
 refine af hJ ?_;refine aA hJ fun V=>?_;refine aj hJ ?_;revert h;refine bS fun u W h=>?_;simp only[*,go_sem];refine ax fun d w y=>?_;have z:=aP.cons y V;try simp only[au] at y
 try simp only[*,go_sem]
 obtain ⟨m,B,C⟩:=fP (b:=d) (o:=(.cells #[.func (.func 78) #[.agg #[.int .i64 a.back,.int .i64 a.high]] #[]] 127)) [] ((S,rt 0 0)::(t,.cells #[.int .i64 a.back,.int .i64 a.high] 53)::(s,bk u0 s1 f g i)::[]) z w (aD.cons T (aD.cons Q (aD.cons O (aD.nil _))));have D:aB (cY) (bR ro d (.cells #[.func (.func 78) #[.agg #[.int .i64 a.back,.int .i64 a.high]] #[]] 127)) (.slice (some ⟨d,0,none⟩) 1 1) [(fe a)]:=(aB.one (r:=(cY)) (e:=127) (cs:=#[.func (.func 78) #[.agg #[.int .i64 a.back,.int .i64 a.high]] #[]]) (x:=(fe a)) (own:=[(d,.cells #[.func (.func 78) #[.agg #[.int .i64 a.back,.int .i64 a.high]] #[]] 127)]) w (by simp[lk]) ⟨78,#[.agg #[.int .i64 a.back,.int .i64 a.high]],#[],rfl,⟨by simp only[go_sem],fun X Y n _ _ _ _ _ Z ab ad ae h=>by simp only[go_sem];exact rE a n ⟨Z,ab,ad,ae⟩ h⟩⟩)
 generalize bR ro d (.cells #[.func (.func 78) #[.agg #[.int .i64 a.back,.int .i64 a.high]] #[]] 127)=cS at D B m C;refine gO hJ C ?_;replace j:=j.mono m;replace l:=l.mono m;simp only[bu] at B;have al:=aP.tl z;refine b8 hJ _ (ki l u0 j ([(fe a)]) D W) fun v c0 da ao p=>?_;obtain ⟨ar,a0,a2,a3,rfl,E⟩:=p;have a4:=E.oc;simp only[bH] at a4;simp only[bu] at ao;refine aJ ?_;try simp only[*,go_sem]
 refine ax fun a5 db G=>?_;have dd:=aP.cons G al;try simp only[au] at G
 try simp only[*,go_sem]
 refine af hJ (ah hJ ?_);simp only[*,go_sem];revert h;refine jC hJ (by simp only[*,go_sem]) (fun a6 h=>?_) fun a6 h=>?_
 ·obtain rfl:=sI h;refine ah hJ ?_;simp only[*,go_sem];refine az ?_;simp only[*,go_sem]
 refine aI hJ (af hJ ?_);refine aj hJ ?_;revert h;refine bS fun k a7 h=>?_;simp only[*,go_sem];refine b8 hJ _ (vq u.1 E a a7) fun v a8 df a9 p=>?_;obtain ⟨dk,rfl,q⟩:=p;simp only[bu] at a9;obtain ⟨d84,ba,rfl,dp,dq,-⟩:=id q;refine aJ ?_;try simp only[*,go_sem]
 refine af hJ (ah hJ ?_);simp only[*,go_sem];revert h;refine jC hJ (by simp only[*,go_sem]) (fun bb h=>?_) fun bb h=>?_
 ·obtain rfl:=sI h;refine ah hJ ?_;simp only[*,go_sem];refine az ?_;simp only[*,go_sem]
 refine aI hJ (af hJ ?_);refine e9 hJ mixed 7 ⟨a8,[(a5,bl u.1 ar a0 a2 a3),(t,.cells #[.int .i64 a.back,.int .i64 a.high] 53),(s,bk u0 s1 f g i)]⟩ (by simp only[*,go_sem]) (by kernel_rfl) ?_;revert h;refine bS fun H bc h=>?_;obtain ⟨ds,dt,I⟩:=c5 bc;obtain ⟨du,bd,bj,bm,c⟩:=q.el _ _ I;obtain rfl:bd=H.cells:=bm;cases bj;have bo:=c 0 _ rfl;simp only[go_sem] at bo;have br:=c 1 _ rfl;simp only[go_sem] at br;have bs:=c 2 _ rfl;simp only[go_sem] at bs;have bz:=c 3 _ rfl;simp only[go_sem] at bz;have b0:=c 4 _ rfl;simp only[go_sem] at b0;have b1:=c 5 _ rfl;simp only[go_sem] at b1;clear c I;revert h;refine bS fun b2 b3 h=>?_;obtain ⟨dv,dC,dE,K⟩:=oY b3;have L:(1:Int).toNat<=((k.length:Int)).toNat:=by omega
 have b4:((k.length:Int)).toNat<=ba:=by omega
 have dT:0<=((k.length:Int)):=by omega
 obtain ⟨d94,b5,ca,M⟩:=aB.o5 q (1:Int).toNat ((k.length:Int)).toNat L (by omega) K;simp only[go_sem] at b5 ca L b4;obtain ⟨_,_,cb,ea,eb,ec⟩:=id M;cases cb;clear K;revert h;refine bS fun ed cd h=>?_;obtain rfl:=sI h;try simp only[*,go_sem]
 refine ⟨_,bD hJ fun F cf=>rH (dK:=88) (dZ:=#[]) (ee:=#[]) gb ⟨by simp only[go_sem],fun X Y n cl _ h=>by simp only[go_sem];exact rD n cl h⟩ H b2 (M.mono (cg cf)) cd,bZ ?_⟩;try simp only[*,go_sem]
 refine az ?_;simp only[*,go_sem]
def sd (u0:ak)(b:aU):Option (an×Bool×Int):=
 ag (fJ u0 ([(fe b)])) fun a=>cond ((a.2 != 0)) (some ((⟨0,0⟩:an),false,a.2)) (ag (kg a.1 b) fun c=>ag (gf a.1 b) fun d=>some (c,d,0))
theorem AA {ro:Addr->Option Value}(j:de ro)(u0:ak){s1 d f g:Value}(i:bJ ro u0 s1 d f g)(a:aU){r:(an×Bool×Int)}(h:sd u0 a=some r):aC Tryz.prog 25 #[bv u0 s1 d f g,.agg #[.int .i64 a.back,.int .i64 a.high]] ⟨ro,[]⟩ (fun v _=>v= .tuple #[r.1.v,.bool r.2.1,.int .i64 r.2.2]):=by
 unfold sd at h;have C:=i.oc;simp only[bH] at C;refine aC.go Tryz.func25 rfl Tryz.ntmps25 Tryz.results25 (by simp) fun main J hJ A a0 hd hs=>?_;have a2:=hs 0;have k1:=hs 1;clear hs;refine ah hJ ?_;simp only[*,go_sem];refine ax fun p D E=>?_;try simp only[au] at E
 refine ax fun q G H=>?_;try simp only[au] at H
 refine ax fun I K L=>?_;try simp only[au] at L
 try simp only[*,go_sem]
 refine af hJ ?_;refine aA hJ fun M=>?_;refine aj hJ ?_;revert h;refine bS fun k N h=>?_;simp only[*,go_sem];refine ax fun c s t=>?_;have u:=aP.cons t M;try simp only[au] at t
 try simp only[*,go_sem]
 obtain ⟨l,w,y⟩:=fP (b:=c) (o:=(.cells #[.func (.func 78) #[.agg #[.int .i64 a.back,.int .i64 a.high]] #[]] 127)) [] ((I,rt 0 0)::(q,.cells #[.int .i64 a.back,.int .i64 a.high] 53)::(p,bk u0 s1 d f g)::[]) u s (aD.cons K (aD.cons G (aD.cons D (aD.nil _))));have z:aB (cY) (bR ro c (.cells #[.func (.func 78) #[.agg #[.int .i64 a.back,.int .i64 a.high]] #[]] 127)) (.slice (some ⟨c,0,none⟩) 1 1) [(fe a)]:=(aB.one (r:=(cY)) (e:=127) (cs:=#[.func (.func 78) #[.agg #[.int .i64 a.back,.int .i64 a.high]] #[]]) (x:=(fe a)) (own:=[(c,.cells #[.func (.func 78) #[.agg #[.int .i64 a.back,.int .i64 a.high]] #[]] 127)]) s (by simp[lk]) ⟨78,#[.agg #[.int .i64 a.back,.int .i64 a.high]],#[],rfl,⟨by simp only[go_sem],fun a3 a4 O _ _ _ _ _ P Q R S h=>by simp only[go_sem];exact rE a O ⟨P,Q,R,S⟩ h⟩⟩)
 generalize bR ro c (.cells #[.func (.func 78) #[.agg #[.int .i64 a.back,.int .i64 a.high]] #[]] 127)=a5 at z w l y;refine gO hJ y ?_;replace i:=i.mono l;replace j:=j.mono l;simp only[bu] at w;have T:=aP.tl u;refine b8 hJ _ (ki j u0 i ([(fe a)]) z N) fun v U a6 V W=>?_;obtain ⟨X,Y,Z,ab,rfl,m⟩:=W;have ad:=m.oc;simp only[bH] at ad;simp only[bu] at V;refine aJ ?_;try simp only[*,go_sem]
 refine ax fun ae a7 B=>?_;have a8:=aP.cons B T;try simp only[au] at B
 try simp only[*,go_sem]
 refine af hJ (ah hJ ?_);simp only[*,go_sem];revert h;refine jC hJ (by simp only[*,go_sem]) (fun al h=>?_) fun al h=>?_
 ·obtain rfl:=sI h;refine ah hJ ?_;simp only[*,go_sem];refine az ?_;simp only[*,go_sem]
 refine aI hJ (af hJ ?_);refine e9 hJ mixed 6 ⟨U,[(ae,bl k.1 X Y Z ab),(q,.cells #[.int .i64 a.back,.int .i64 a.high] 53),(p,bk u0 s1 d f g)]⟩ (by simp only[*,go_sem]) (by kernel_rfl) ?_;revert h;refine bS fun a9 ao h=>?_;simp only[*,go_sem];refine ⟨_,bD hJ fun F n=>rS k.1 (m.mono (cg n)) a ao,bZ ?_⟩;revert h;refine bS fun ba ar h=>?_;obtain rfl:=sI h;try simp only[*,go_sem]
 refine ⟨_,bD hJ fun F n=>mw k.1 (m.mono (cg n)) a ar,?_⟩;try simp only[*,go_sem]
 refine az ?_;simp only[*,go_sem]
def vH (a:aX)(st:Bool):Option (Fl Bool Unit):=
 some (.br 1000000000 true)
def se (u0:ak):Option Bool:=
 ag (iU (vH) (mA u0) false) fun o=>aG o (fun b=>some false) (fun k a=>cond (k==1000000000) (some a) (none)) (fun _=>none)
theorem AB {ro:Addr->Option Value}(u0:ak){s1 c d g:Value}(k:bJ ro u0 s1 c d g){r:Bool}(h:se u0=some r):aC Tryz.prog 103 #[bv u0 s1 c d g] ⟨ro,[]⟩ (fun v _=>v= .bool r):=by
 unfold se at h;refine aC.vm Tryz.func103 rfl Tryz.ntmps103 Tryz.results103 (by simp) fun main J hJ A D hd hs=>?_;have E:=hs 0;clear hs;refine ah hJ ?_;simp only[*,go_sem];refine ax fun n x F=>?_;try simp only[au] at F
 refine ax fun l z G=>?_;try simp only[au] at G
 try simp only[*,go_sem]
 refine af hJ (ah hJ ?_);simp only[*,go_sem];revert h;refine bS fun Q H o=>?_;refine vl hJ aX.v (by simp only[*,go_sem]) (r4 u0 k.e k.p k.y k.t) (by kernel_rfl) (by kernel_rfl) (ρ:=Unit) (fun (I:Bool) K=>K=(l,.cells #[.bool I] 4)::(n,bl u0 s1 c d g)::[]) (f:=vH) H ?_ ?_ (by decide) ?_ ?_
 ·exact rfl
 ·rintro d33 L q M s u R h main J hJ _ rfl;unfold vH at h;try dsimp only at h
  obtain rfl:=sI h;generalize i:mc _ _ _=m;have S:sz m=6:=by rw[<-i,vk];simp only[*,go_sem]
  have T:m.defers=[]:=by rw[<-i];rfl
  have U:slot m 2= .pointer (some ⟨l,0,none⟩):=by rw[<-i,nj];simp only[*,go_sem]
  have V:slot m 5= .agg #[.int .i64 u.e0,.int .i64 u.e1,.int .i64 u.e2]:=by rw[<-i,nj];simp only[*,go_sem]
  clear i D hd E;refine fZ hJ fun b a=>?_;replace a:aD ro ((L,.loop q)::(d33,.deferred (some []))::(l,.cells #[.bool s] 4)::(n,bl u0 s1 c d g)::[]):=a;have W:=a.hd;have X:=a.tl.hd;have z:=a.tl.tl.hd;have x:=a.tl.tl.tl.hd;clear a;replace b:=b.nd;simp only[keys,List.map_cons,List.map_nil,List.map_append,List.cons_append,List.nil_append,List.nodup_cons,List.mem_cons,List.mem_append,List.not_mem_nil,or_false,not_or] at b;refine aI hJ ?_;simp only[pn,go_sem];refine ⟨q,by simp only[*,go_sem],M,?_⟩;try simp only[*,go_sem]
  refine aQ hJ (af hJ ?_);refine aj hJ ?_;simp only[*,go_sem];refine az ?_;simp only[ru,l8,go_sem];refine ⟨{q with state:=.busy},by simp only[*,go_sem],?_⟩;simp only[*,go_sem];refine ⟨_,Le.sub (List.Sublist.refl _),rfl,rfl⟩
 ·rintro N O P _ s rfl b a;replace a:aD ro ((O,.loop P)::(N,.deferred (some []))::(l,.cells #[.bool s] 4)::(n,bl u0 s1 c d g)::[]):=a;have Y:=a.hd;have Z:=a.tl.hd;have z:=a.tl.tl.hd;have x:=a.tl.tl.tl.hd;clear a;replace b:=b.nd;simp only[keys,List.map_cons,List.map_nil,List.map_append,List.cons_append,List.nil_append,List.nodup_cons,List.mem_cons,List.mem_append,List.not_mem_nil,or_false,not_or] at b;refine ⟨fun j=>?_,fun k1 j=>?_⟩
  ·subst j;have h:=o;dsimp only[aG] at h;obtain rfl:=sI h;refine ah hJ ?_;simp only[*,go_sem];refine aA hJ fun w=>?_;replace w:=w.nd;(try simp only[keys,List.map_cons,List.map_nil,List.map_append,List.cons_append,List.nil_append,List.nodup_cons,List.mem_cons,List.mem_append,List.not_mem_nil,or_false,not_or] at w);refine az ?_;simp only[*,go_sem]
  subst j;have h:=o;dsimp only[aG] at h;revert h;refine cS (fun B h=>?_) fun B h=>?_
  ·obtain rfl:=sI h;obtain rfl:k1=1000000000:=by simpa using B
   unfold vj;rw[if_pos (show (1000000000:Nat)=rz from rfl)];simp only[*,go_sem]
  cases h
 intro k1 ab j;subst j;have h:=o;dsimp only[aG] at h;revert h;refine cS (fun C h=>?_) fun C h=>?_
 ·obtain rfl:k1=1000000000:=by simpa using C
  decide
 cases h
def nF (a:aX)(st:(List aX)):Option (Fl (List aX) Unit):=
 ag (c6 st ([a])) fun b=>some (.nx b)
def si (a:(List (Option aX))):Option (List aX):=
 ag (iU (nF) a ([]:List aX)) fun o=>aG o (fun b=>some b) (fun k c=>none) (fun _=>none)
theorem Gh {ro:Addr->Option Value}(u:(List (Option aX))){dw:FuncId}{dU dV:Array Value}(K:l9 Tryz.prog dw dU dV aX.v u ro){r:(List aX)}(h:si u=some r):eD Tryz.prog 147 #[.slice none 0 0,.func (.func dw) dU dV] ro (fun v aM=>∃w,v=w/\aB gP aM w r):=by
 unfold si at h;refine aC.vm Tryz.func147 rfl Tryz.ntmps147 Tryz.results147 (by simp) fun main J hJ A L hd hs=>?_;have M:=hs 0;have k1:=hs 1;clear hs;refine ah hJ ?_;simp only[*,go_sem,-h];refine ax fun e r1 n1=>?_;try simp only[au] at n1
 try simp only[*,go_sem,-h]
 refine af hJ (ah hJ ?_);simp only[*,go_sem,-h];revert h;refine bS fun ar N o=>?_;have h:=trivial;refine vl hJ aX.v (by simp only[*,go_sem]) K (by kernel_rfl) (by kernel_rfl) (ρ:=Unit) (fun (m:(List aX)) O=>∃(d7:Option Addr) (c:Nat) (d:List (Nat×Obj)),O=(e,.cells #[.slice d7 m.length c] 122)::d/\aO gP ro 121 (.slice d7 m.length c) m d/\m.length<=c) (f:=nF) N ?_ ?_ (by decide) ?_ ?_
 ·exact ⟨none,0,[],rfl,aO.nil _ _ _,Nat.le_refl _⟩
 ·rintro d4 p i P v6 a a0 h main J hJ _ ⟨d7,c,d,rfl,q,Q⟩;unfold nF at h;try dsimp only at h
  generalize j:mc _ _ _=n;have a2:sz n=13:=by rw[<-j,vk];simp only[*,go_sem]
  have a3:n.defers=[]:=by rw[<-j];rfl
  have a4:slot n 2= .pointer (some ⟨e,0,none⟩):=by rw[<-j,nj];simp only[*,go_sem]
  have a5:slot n 7= .agg #[.int .i64 a.e0,.int .i64 a.e1,.int .i64 a.e2]:=by rw[<-j,nj];simp only[*,go_sem]
  clear j L hd M k1;refine fZ hJ fun g b=>?_;replace b:aD ro ((p,.loop i)::(d4,.deferred (some []))::(e,.cells #[.slice d7 v6.length c] 122)::d):=b;have r3:=b.hd;have a6:=b.tl.hd;have r1:=b.tl.tl.hd;clear b;replace g:=g.nd;simp only[keys,List.map_cons,List.map_nil,List.map_append,List.cons_append,List.nil_append,List.nodup_cons,List.mem_cons,List.mem_append,List.not_mem_nil,or_false,not_or] at g;refine aA hJ fun R=>?_;refine aj hJ ?_;simp only[*,go_sem,-h];refine ax fun y a7 z=>?_;have a8:=aP.cons z R;try simp only[au] at z
  try simp only[*,go_sem,-h]
  simp only[pn,go_sem];refine ⟨i,by simp only[*,go_sem],P,?_⟩;try simp only[*,go_sem,-h]
  refine aQ hJ ?_;refine aA hJ fun S=>?_;refine aj hJ ?_;revert h;refine bS fun a9 T h=>?_;obtain ⟨U,B⟩:=dr T;simp only[*,go_sem,-h];refine ax fun C V D=>?_;have W:=aP.cons D S;try simp only[au] at D
  try simp only[*,go_sem,-h]
  refine dY (r:=gP) (l:=v6) (x:=a) (cs:=#[.int .i64 a.e0,.int .i64 a.e1,.int .i64 a.e2]) (e2:=121) [(C,.cells #[.int .i64 a.e0,.int .i64 a.e1,.int .i64 a.e2] 121),(y,.cells #[.int .i64 a.e0,.int .i64 a.e1,.int .i64 a.e2] 121),(p,.loop {i with state:=.busy}),(d4,.deferred (some [])),(e,.cells #[.slice d7 v6.length c] 122)] [] q W U rfl (by simp only[*,go_sem,-h]) V rfl rfl zN zN EB ED rfl EC (by decide) (by decide) (fun ba E s d X bb=>?_);simp only[aV] at X;subst d;rw[<-B] at s;clear B;obtain ⟨d28,Y,rfl,Z⟩:=s.len;refine ⟨⟨ro,(C,.cells #[.int .i64 a.e0,.int .i64 a.e1,.int .i64 a.e2] 121)::(y,.cells #[.int .i64 a.e0,.int .i64 a.e1,.int .i64 a.e2] 121)::(p,.loop {i with state:=.busy})::(d4,.deferred (some []))::(e,.cells #[.slice d7 v6.length c] 122)::E⟩,Le.refl _,?_⟩;refine aJ ?_;try simp only[*,go_sem,-h]
  obtain rfl:=sI h;simp only[ru,l8,go_sem];refine ⟨{i with state:=.busy},by simp only[*,go_sem],?_⟩;simp only[*,go_sem];refine ⟨_,Le.sub (List.Sublist.cons _ (List.Sublist.cons _ (List.Sublist.refl _))),rfl,d28,Y,E,rfl,s,Z⟩
 ·rintro d49 F G _ v6 ⟨d7,c,d,rfl,q,Q⟩ g b;replace b:aD ro ((F,.loop G)::(d49,.deferred (some []))::(e,.cells #[.slice d7 v6.length c] 122)::d):=b;have ab:=b.hd;have ad:=b.tl.hd;have r1:=b.tl.tl.hd;clear b;replace g:=g.nd;simp only[keys,List.map_cons,List.map_nil,List.map_append,List.cons_append,List.nil_append,List.nodup_cons,List.mem_cons,List.mem_append,List.not_mem_nil,or_false,not_or] at g;refine ⟨fun k=>?_,fun k1 k=>?_⟩
  ·subst k;have h:=o;dsimp only[aG] at h;refine af hJ ?_;refine aA hJ fun bc=>?_;refine aj hJ ?_;simp only[*,go_sem,-h];obtain rfl:=sI h;refine aA hJ fun H=>?_;obtain ⟨bd,ae,al,I,ao⟩:=q.eU [(F,.loop G),(d49,.deferred (some [])),(e,.cells #[.slice d7 v6.length c] 122)] [] H (aD.cons ab (aD.cons ad (aD.cons r1 (aD.nil _))));clear H;refine cF hJ ao ?_;obtain ⟨bj,bk,-⟩:=I.op;simp only[bu] at al;refine aA hJ fun t=>?_;replace t:=t.nd;(try simp only[keys,List.map_cons,List.map_nil,List.map_append,List.cons_append,List.nil_append,List.nodup_cons,List.mem_cons,List.mem_append,List.not_mem_nil,or_false,not_or] at t);refine az ?_;simp only[*,go_sem];exact ⟨_,ae,Le.sub (List.nil_sublist _),_,rfl,I⟩
  subst k;have h:=o;dsimp only[aG] at h;cases h
 intro k1 bl k;subst k;have h:=o;dsimp only[aG] at h;cases h
def pW (u0:(List (Option aX))):Option (List aX):=
 ag (si u0) fun a=>some a
theorem AD {ro:Addr->Option Value}(u0:(List (Option aX))){dK:FuncId}{dZ ee:Array Value}(c:l9 Tryz.prog dK dZ ee aX.v u0 ro){r:(List aX)}(h:pW u0=some r):eD Tryz.prog 119 #[.func (.func dK) dZ ee] ro (fun v aM=>∃a,v=a/\aB gP aM a r):=by
 unfold pW at h;refine aC.go Tryz.func119 rfl Tryz.ntmps119 Tryz.results119 (by simp) fun main J hJ A g hd hs=>?_;have i:=hs 0;clear hs;refine ah hJ ?_;simp only[*,go_sem];refine ah hJ ?_;revert h;refine bS fun j d h=>?_;obtain rfl:=sI h;simp only[*,go_sem];refine b8 hJ _ (Gh (dw:=dK) (dU:=dZ) (dV:=ee) u0 c d) fun v k e l f=>?_;obtain ⟨m,rfl,b⟩:=f;obtain ⟨d8,n,rfl,o,p,-⟩:=id b;refine aJ ?_;try simp only[*,go_sem]
 refine az ?_;simp only[*,go_sem];exact ⟨_,e,Le.sub (List.nil_sublist _),_,rfl,b⟩
def gz (u0:ak)(c:(List (ak->Option Int))):Option (cL×Int):=
 ag (fJ u0 c) fun a=>cond ((a.2 != 0)) (some ((⟨(⟨0,0,(⟨0,0⟩:an),([]:(List b7)),([]:(List ck)),([]:(List bY)),([]:(List bO))⟩:ak),([]:(List aX))⟩:cL),a.2)) (ag (pW (mA a.1)) fun b=>cond (((b.length:Int)==0)) (some ((⟨(⟨0,0,(⟨0,0⟩:an),([]:(List b7)),([]:(List ck)),([]:(List bY)),([]:(List bO))⟩:ak),([]:(List aX))⟩:cL),9)) (some ((⟨a.1,b⟩:cL),0)))
theorem jD {ro:Addr->Option Value}(N:de ro)(u0:ak){s1 c d f:Value}(G:bJ ro u0 s1 c d f)(B:(List (ak->Option Int))){H:Value}(I:aB (cY) ro H B){r:(cL×Int)}(h:gz u0 B=some r):eD Tryz.prog 67 #[bv u0 s1 c d f,H] ro (fun v aM=>∃K w1 w2 w3 w4,v= .tuple #[.agg #[.int .i64 r.1.book.bE,.int .i64 r.1.book.bI,.int .i64 r.1.book.aN.num,.int .i64 r.1.book.aN.den,K,w1,w2,w3,w4],.int .i64 r.2]/\bJ aM r.1.book K w1 w2 w3/\aB gP aM w4 r.1.all):=by
 obtain ⟨d31,ae,rfl,al,ao,-⟩:=id I;unfold gz at h;have O:=G.oc;simp only[bH] at O;refine aC.go Tryz.func67 rfl Tryz.ntmps67 Tryz.results67 (by simp) fun main J hJ A ar hd hs=>?_;have a0:=hs 0;have k1:=hs 1;clear hs;refine ah hJ ?_;simp only[*,go_sem];refine ax fun C g P=>?_;try simp only[au] at P
 refine ax fun D i Q=>?_;try simp only[au] at Q
 try simp only[*,go_sem]
 refine ah hJ ?_;revert h;refine bS fun b R h=>?_;simp only[*,go_sem];refine b8 hJ _ (ki N u0 G B I R) fun v S j E k=>?_;obtain ⟨m,n,o,q,rfl,a⟩:=k;have T:=a.oc;simp only[bH] at T;replace i:=E.hd;replace g:=E.tl.hd;simp only[bu] at E;refine aJ ?_;try simp only[*,go_sem]
 refine ax fun F s U=>?_;try simp only[au] at U
 try simp only[*,go_sem]
 refine af hJ (ah hJ ?_);simp only[*,go_sem];revert h;refine jC hJ (by simp only[*,go_sem]) (fun V h=>?_) fun V h=>?_
 ·obtain rfl:=sI h;refine ah hJ ?_;simp only[*,go_sem];refine az ?_;simp only[*,go_sem];exact ⟨_,j,Le.sub (List.nil_sublist _),_,_,_,_,_,rfl,⟨aB.nil _ _,aB.nil _ _,aB.nil _ _,aB.nil _ _⟩,aB.nil _ _⟩
 refine aI hJ (af hJ ?_);refine eF hJ mixed [] (.rd 0 (.rd 1 (.pure 2 (.two 3 (.pure 4 (.one 5 (.one 6 .done))) 5 (.one 3 (.pure 4 (.one 6 .done))))))) ⟨S,[(F,bl b.1 m n o q),(D,.cells #[.int .i64 0,.int .i64 0,.int .i64 0,.int .i64 0,.slice none 0 0,.slice none 0 0,.slice none 0 0,.slice none 0 0,.slice none 0 0] 124),(C,bk u0 s1 c d f)]⟩ (by simp only[*,go_sem]) (by kernel_rfl) ?_;simp only[*,go_sem];refine j4 ?_ ?_
 ·revert h;refine bS fun a2 W h=>?_;simp only[*,go_sem];refine b8 hJ _ (AD (dK:=66) (dZ:=#[bv b.1 m n o q]) (ee:=#[]) (mA b.1) (r4 b.1 a.e a.p a.y a.t) W) fun v a3 u w k=>?_;obtain ⟨a4,rfl,L⟩:=k;replace a:=a.mono u;replace s:=w.hd;replace i:=w.tl.hd;replace g:=w.tl.tl.hd;simp only[bu] at w;obtain ⟨d80,a5,rfl,a6,a7,-⟩:=id L;have a8:=eM (l:=[(F,bl b.1 m n o q),(D,.cells #[.int .i64 0,.int .i64 0,.int .i64 0,.int .i64 0,.slice none 0 0,.slice none 0 0,.slice none 0 0,.slice none 0 0,.slice none 0 0] 124),(C,bk u0 s1 c d f)]) u (aD.cons s (aD.cons i (aD.cons g (aD.nil _))));refine ⟨by simp only[*,go_sem],?_⟩;refine bX ?_;try simp only[*,go_sem]
  refine ax fun a9 ba X=>?_;try simp only[au] at X
  try simp only[*,go_sem]
  refine af hJ (ah hJ ?_);simp only[*,go_sem];revert h;refine jC hJ (by simp only[*,go_sem]) (fun Y h=>?_) fun Y h=>?_
  ·obtain rfl:=sI h;refine ah hJ ?_;simp only[*,go_sem];refine az ?_;simp only[*,go_sem];exact ⟨_,(j).trans u,Le.sub (List.nil_sublist _),_,_,_,_,_,rfl,⟨aB.nil _ _,aB.nil _ _,aB.nil _ _,aB.nil _ _⟩,aB.nil _ _⟩
  obtain rfl:=sI h;refine aI hJ (af hJ ?_);refine aj hJ ?_;simp only[*,go_sem];refine az ?_;simp only[*,go_sem];exact ⟨_,(j).trans u,Le.sub (List.nil_sublist _),_,_,_,_,_,rfl,a,L⟩
 revert h;refine bS fun bb Z h=>?_;simp only[*,go_sem];refine ax fun bc bd ab=>?_;try simp only[au] at ab
 try simp only[*,go_sem]
 refine b8 hJ _ (AD (dK:=66) (dZ:=#[bv b.1 m n o q]) (ee:=#[]) (mA b.1) (r4 b.1 a.e a.p a.y a.t) Z) fun v bj x z k=>?_;obtain ⟨bm,rfl,M⟩:=k;replace a:=a.mono x;replace s:=z.tl.hd;replace i:=z.tl.tl.hd;replace g:=z.tl.tl.tl.hd;simp only[bu] at z;obtain ⟨d96,bo,rfl,br,bs,-⟩:=id M;have bz:=eM (l:=[(F,bl b.1 m n o q),(D,.cells #[.int .i64 0,.int .i64 0,.int .i64 0,.int .i64 0,.slice none 0 0,.slice none 0 0,.slice none 0 0,.slice none 0 0,.slice none 0 0] 124),(C,bk u0 s1 c d f)]) x (aD.cons s (aD.cons i (aD.cons g (aD.nil _))));refine ⟨by simp only[*,go_sem],?_⟩;refine bX ?_;try simp only[*,go_sem]
 refine af hJ (ah hJ ?_);simp only[*,go_sem];revert h;refine jC hJ (by simp only[*,go_sem]) (fun ad h=>?_) fun ad h=>?_
 ·obtain rfl:=sI h;refine ah hJ ?_;simp only[*,go_sem];refine az ?_;simp only[*,go_sem];exact ⟨_,(j).trans x,Le.sub (List.nil_sublist _),_,_,_,_,_,rfl,⟨aB.nil _ _,aB.nil _ _,aB.nil _ _,aB.nil _ _⟩,aB.nil _ _⟩
 obtain rfl:=sI h;refine aI hJ (af hJ ?_);refine aj hJ ?_;simp only[*,go_sem];refine az ?_;simp only[*,go_sem];exact ⟨_,(j).trans x,Le.sub (List.nil_sublist _),_,_,_,_,_,rfl,a,M⟩
def vI (a:Int)(i56:Nat)(b:Int)(st:(List ck)):Option (Fl (List ck) ak):=
 ag (c6 st ([(⟨b,a⟩:ck)])) fun c=>some (.nx c)
def sj (u0:ak)(a:Int)(b:(List Int)):Option ak:=
 ag (r7 u0.props) fun c=>ag (bF (vI a) 0 b c) fun o=>aG o (fun d=>some (⟨u0.bE,u0.bI,u0.aN,u0.ay,d,u0.aE,u0.told⟩:ak)) (fun _ _=>none) (fun r=>some r)
theorem Gi {ro:Addr->Option Value}(u0:ak){s1 s b c:Value}(g:bJ ro u0 s1 s b c)(i:Int)(d:(List Int)){D:Value}(E:aB rI ro D d){r:ak}(h:sj u0 i d=some r):eD Tryz.prog 135 #[bv u0 s1 s b c,.int .i64 i,D] ro (fun v aM=>∃F w1 w2 w3,v=bv r F w1 w2 w3/\bJ aM r F w1 w2 w3):=by
 obtain ⟨d31,b4,rfl,b5,U,-⟩:=id E;unfold sj at h;have V:=g.oc;simp only[bH] at V;refine aC.go Tryz.func135 rfl Tryz.ntmps135 Tryz.results135 (by simp) fun main J hJ A W hd hs=>?_;have X:=hs 0;have k1:=hs 1;have Y:=hs 2;clear hs;refine ah hJ ?_;simp only[*,go_sem];refine ax fun k Z ab=>?_;try simp only[au] at ab
 refine ax fun o ad ae=>?_;try simp only[au] at ae
 try simp only[*,go_sem]
 refine af hJ ?_;refine aA hJ fun ca=>?_;refine aj hJ ?_;revert h;refine bS fun al ao h=>?_;simp only[*,go_sem];refine dJ hJ (aS:=[]) [(o,bz 115),(k,bl u0 s1 s b c)] [] _ (Ay u0.props g.p ao) (fun cb G H u w cd=>?_);simp only[aV] at w;subst u;obtain ⟨d45,ar,rfl,a0⟩:=H.len;refine ⟨⟨ro,(o,bz 115)::(k,bl u0 s1 s b c)::G⟩,Le.refl _,?_⟩;refine aJ ?_;try simp only[*,go_sem]
 refine af hJ (af hJ ?_);refine aA hJ fun cf=>?_;refine aj hJ ?_;simp only[*,go_sem];refine aQ hJ ?_;revert h;refine bS fun a2 j a3=>?_;refine bU hJ [8,17,18,19,20,21,22,23,24,25,26,27,28,29,30,31] (fun m a4 F'=>∃(i56:Nat) (d51:Option Addr) (f:Nat) (z:List (Nat×Obj)) (a:(List ck)),m=d.length - i56/\i56<=d.length/\bF (vI i) i56 (d.drop i56) a=some a2/\F'=⟨ro,(o,bz 115)::(k,bl u0 s1 (sl d51 a f) b c)::z⟩/\aO er ro 96 (.slice d51 a.length f) a z/\a.length<=f/\slot a4 17= .int .i64 (i56:Int)) d.length ?_ ?_
 ·refine ⟨0,d45,ar,G,al,(Nat.sub_zero _).symm,Nat.zero_le _,j,rfl,H,a0,?_⟩;simp only[*,go_sem]
 rintro cl cu F' I ⟨i56,d51,f,z,a,rfl,cy,j,rfl,K,cS,c0⟩;obtain ⟨a5,a6,a7⟩:=I.pick [1,3,6,15,16] (by decide);simp only[*,go_sem] at a5 a6 a7;clear I W hd X k1 Y;refine ah hJ ?_;simp only[*,go_sem];refine af hJ ?_;rcases Nat.lt_or_ge i56 d.length with a8|L
 ·refine bP hJ (by simp only[*,go_sem]) ?_;refine aI hJ ?_;obtain ⟨q,B⟩:∃x,d[i56]?=some x:=⟨_,List.getElem?_eq_getElem a8⟩
  rw[c8 B] at j;revert j;refine bS fun da h a9=>?_;unfold vI at h;try dsimp only at h
  obtain ⟨db,ba,bb,bc,M⟩:=E.el _ _ B;obtain rfl:ba=[.int .i64 q]:=bc;cases bb;have bd:=M 0 _ rfl;simp only[go_sem] at bd;clear M B;refine af hJ (aQ hJ (af hJ ?_));refine aA hJ fun dd=>?_;refine aj hJ ?_;simp only[*,go_sem];refine aA hJ fun bj=>?_;refine aj hJ ?_;revert h;refine bS fun bk bm h=>?_;obtain rfl:=sI h;obtain ⟨bo,N⟩:=dr bm;simp only[*,go_sem];refine ax fun O br P=>?_;have bs:=aP.cons P bj;try simp only[au] at P
  try simp only[*,go_sem]
  refine dY (r:=er) (l:=a) (x:=(⟨q,i⟩:ck)) (cs:=#[.int .i64 q,.int .i64 i]) (e2:=96) [(O,.cells #[.int .i64 q,.int .i64 i] 96),(o,bz 115),(k,bl u0 s1 (sl d51 a f) b c)] [] K bs bo rfl (by simp only[*,go_sem]) br rfl rfl kX kX q8 rf rfl q9 (by decide) (by decide) (fun df Q C u w dk=>?_);simp only[aV] at w;subst u;rw[<-N] at C;clear N;obtain ⟨d74,b0,rfl,b1⟩:=C.len;refine ⟨⟨ro,(O,.cells #[.int .i64 q,.int .i64 i] 96)::(o,bz 115)::(k,bl u0 s1 (sl d51 a f) b c)::Q⟩,Le.refl _,?_⟩;refine aJ ?_;try simp only[*,go_sem]
  have dp:=cn (n:=i56) (by have:=U;omega);refine aj hJ ?_;simp only[*,go_sem];refine ⟨d.length - (i56+1),by omega,_,Le.sub (List.Sublist.cons _ (List.Sublist.refl _)),i56+1,d74,b0,Q,bk,rfl,by omega,a9,rfl,C,b1,?_⟩;simp only[*,go_sem]
 have dq:=Nat.not_lt.2 L;refine bL hJ (by simp only[*,go_sem]) ?_;rw[List.drop_eq_nil_of_le L] at j;obtain rfl:=sI j;clear j;have h:=a3;dsimp only[aG] at h;obtain rfl:=sI h;refine bN ?_;simp only[go_sem];refine af hJ ?_;refine aA hJ fun ds=>?_;refine aj hJ ?_;simp only[*,go_sem];refine aA hJ fun R=>?_;obtain ⟨dt,S,b2,T,b3⟩:=K.eU [(o,bl u0 s1 (sl d51 a f) b c),(k,bl u0 s1 (sl d51 a f) b c)] [] R (aD.cons ad (aD.cons Z (aD.nil _)));clear R;refine cF hJ b3 ?_;obtain ⟨du,dv,-⟩:=T.op;replace g:=g.mono S;simp only[bu] at b2;refine az ?_;simp only[*,go_sem];exact ⟨_,S,Le.sub (List.nil_sublist _),_,_,_,_,rfl,⟨g.e,T,g.y,g.t⟩⟩
def vJ (u0:ak)(a:(List Int))(st:((List (List Int))×Int)):Option (Fl ((List (List Int))×Int) (List (List Int))):=
 ag (gd u0 st.2) fun b=>cond (b) (ag (r8 a) fun c=>ag (c6 c ([st.2])) fun d=>ag (c6 st.1 ([d])) fun e=>some (.nx (e,(IntKind.i64.wrap (st.2+1))))) (some (.bk (st.1,st.2)))
def vK (u0:ak)(a:(List Int))(st:((List (List Int))×Int)):Option (Fl ((List (List Int))×Int) (List (List Int))):=
 ag (gd u0 st.2) fun b=>cond (b) (ag (r8 a) fun c=>ag (c6 c ([st.2])) fun d=>ag (c6 st.1 ([d])) fun e=>some (.nx (e,(IntKind.i64.wrap (st.2+1))))) (some (.bk (st.1,st.2)))
def vL (u0:ak)(i47:Nat)(a:(List Int))(st:(List (List Int))):Option (Fl (List (List Int)) (List (List Int))):=
 ag (bp u0.ay 0) fun b=>cond (decide (0<(a.length:Int))) (ag (bp a (IntKind.i64.wrap ((a.length:Int) - 1))) fun c=>ag (bn (vJ u0 a) fu (st,(IntKind.i64.wrap (c+1)))) fun o=>aG o (fun d=>some (.nx d.1)) (fun _ _=>none) (fun r=>some (.rt r))) (ag (bn (vK u0 a) fu (st,b.aL)) fun o=>aG o (fun e=>some (.nx e.1)) (fun _ _=>none) (fun r=>some (.rt r)))
def sk (u0:ak)(a:(List (List Int))):Option (List (List Int)):=
 ag (bF (vL u0) 0 a ([]:List (List Int))) fun o=>aG o (fun b=>some b) (fun _ _=>none) (fun r=>some r)
theorem AE {ro:Addr->Option Value}(u0:ak){s1 a b c:Value}(j:bJ ro u0 s1 a b c)(s:(List (List Int))){bo:Value}(Q:aB (rL rI) ro bo s){r:(List (List Int))}(h:sk u0 s=some r):eD Tryz.prog 100 #[bv u0 s1 a b c,bo] ro (fun v aM=>∃br,v=br/\aB (rL rI) aM br r):=by
 obtain ⟨d3,c4,rfl,h9,ib,-⟩:=id j.e;obtain ⟨d31,ih,rfl,ik,bs,-⟩:=id Q;unfold sk at h;refine aC.go Tryz.func100 rfl Tryz.ntmps100 Tryz.results100 (by simp) fun main J hJ A e1 hd hs=>?_;have e3:=hs 0;have k1:=hs 1;clear hs;refine ah hJ ?_;simp only[*,go_sem];refine ax fun d u fa=>?_;try simp only[au] at fa
 try simp only[*,go_sem]
 refine ah hJ ?_;simp only[*,go_sem];refine af hJ (ah hJ ?_);simp only[*,go_sem];refine aQ hJ ?_;revert h;refine bS fun fb F fg=>?_;refine bU hJ [5,7,8,9,12,13,14,15,16,17,18,19,20,21,22,23,24,25,26,27,28,29,30,31,32,33,34,35,36,37,38,39,40,41,42,43,44,45,46] (fun m w F'=>∃(i47:Nat) (y:Addr->Option Value) (d38:Option Addr) (G:Nat) (K:List (Nat×Obj)) (z:(List (List Int))),m=s.length - i47/\i47<=s.length/\bF (vL u0) i47 (s.drop i47) z=some fb/\F'=⟨y,(d,bl u0 (sl d3 u0.ay c4) a b c)::K⟩/\Ext ro y/\aO (rL rI) y 35 (.slice d38 z.length G) z K/\z.length<=G/\slot w 12= .int .i64 (i47:Int)/\slot w 5= .slice d38 z.length G) s.length ?_ ?_
 ·refine ⟨0,ro,none,0,[],([]:List (List Int)),(Nat.sub_zero _).symm,Nat.zero_le _,F,rfl,Ext.refl _,aO.nil _ _ _,Nat.le_refl _,?_⟩;simp only[*,go_sem]
 rintro il bz F' b0 ⟨i47,y,d38,G,K,z,rfl,im,F,rfl,L,Z,b1,b2,b3⟩;refine fZ hJ fun _ b4=>?_;replace Q:=Q.mono L;replace j:=j.mono L;replace u:=b4.hd;simp only[bu] at b4;obtain ⟨ab,ad,ae⟩:=b0.pick [2,4,10,11] (by decide);simp only[*,go_sem] at ab ad ae;clear b0 e1 hd e3 k1;refine ah hJ ?_;simp only[*,go_sem];refine af hJ ?_;rcases Nat.lt_or_ge i47 s.length with fi|b5
 ·refine bP hJ (by simp only[*,go_sem]) ?_;refine aI hJ ?_;obtain ⟨R,al⟩:∃x,s[i47]?=some x:=⟨_,List.getElem?_eq_getElem fi⟩
  rw[c8 al] at F;revert F;refine bS fun iv h ca=>?_;unfold vL at h;try dsimp only at h
  obtain ⟨ix,j1,fo,fp,cb⟩:=Q.el _ _ al;obtain ⟨j2,rfl,t⟩:=fp;obtain ⟨d56,kh,rfl,kj,kk,kl⟩:=id t;cases fo;have fr:=cb 0 _ rfl;simp only[go_sem] at fr;clear cb al;refine af hJ (aQ hJ (af hJ ?_));refine aA hJ fun km=>?_;refine aj hJ ?_;simp only[*,go_sem];refine af hJ ?_;refine aA hJ fun kn=>?_;refine aj hJ ?_;revert h;refine bS fun cd fs h=>?_;obtain ⟨kp,ks,cf⟩:=c5 fs;obtain ⟨f,ft,fv,fw,ao⟩:=j.e.el _ _ cf;obtain rfl:ft=cd.cells:=fw;cases fv;have fx:=ao 0 _ rfl;simp only[go_sem] at fx;have gg:=ao 1 _ rfl;simp only[go_sem] at gg;clear ao cf;try simp only[*,go_sem]
  refine af hJ (af hJ ?_);refine aA hJ fun kt=>?_;refine aj hJ ?_;simp only[*,go_sem];revert h;refine jC hJ (by simp only[*,go_sem]) (fun gl h=>?_) fun gl h=>?_
  ·refine aA hJ fun kv=>?_;refine aj hJ ?_;revert h;refine bS fun cl gn h=>?_;obtain ⟨kx,ky,cu⟩:=c5 gn;obtain ⟨k0,gp,gB,gC,cy⟩:=t.el _ _ cu;obtain rfl:gp=[.int .i64 cl]:=gC;cases gB;have gM:=cy 0 _ rfl;simp only[go_sem] at gM;clear cy cu;(try simp only[*,go_sem]);refine af hJ ?_;refine aA hJ fun k2=>?_;refine aj hJ ?_;simp only[*,go_sem];refine aQ hJ ?_;revert h;refine bS fun gT S gV=>?_;refine bU hJ [5,9,33,34,35,36,37,38,39,40,41,42,43,44,45] (fun m w F'=>∃(H:Addr->Option Value) (d75:Option Addr) (M:Nat) (k:List (Nat×Obj)) (B:(List (List Int))) (g:Int),bn (vJ u0 R) m (B,g)=some gT/\F'=⟨H,(d,bl u0 (sl (some f) u0.ay c4) a b c)::k⟩/\Ext y H/\aO (rL rI) H 35 (.slice d75 B.length M) B k/\B.length<=M/\slot w 5= .slice d75 B.length M/\slot w 9= .int .i64 g) fu ?_ ?_
   ·refine ⟨y,d38,G,K,z,(IntKind.i64.wrap (cl+1)),S,rfl,Ext.refl _,Z,b1,?_⟩;simp only[*,go_sem]
   rintro ar g0 F' a0 ⟨H,d75,M,k,B,g,S,rfl,T,N,g1,lb,lh⟩;refine fZ hJ fun _ cS=>?_;replace t:=t.mono T;replace j:=j.mono T;replace u:=cS.hd;simp only[bu] at cS;obtain ⟨g2,g3,g4⟩:=a0.pick [2,4,7,8,10,11,12,13,15,16,17,18,21,22,23,24,25,26,27,28,30,31,32] (by decide);simp only[*,go_sem] at g2 g3 g4;have lj:cG [5,7,8,9,12,13,14,15,16,17,18,19,20,21,22,23,24,25,26,27,28,29,30,31,32,33,34,35,36,37,38,39,40,41,42,43,44,45,46] g0 bz:=(a0.fX (by decide)).trans (by simp only[*,go_sem]);clear a0 ab ad ae b3 b2;obtain _|ar:=ar
   ·exact absurd S (by simp only[bn,reduceCtorEq,not_false_eq_true])
   revert S;refine bS fun lk h a2=>?_;unfold vJ at h;(try dsimp only at h);refine af hJ (af hJ ?_);refine aA hJ fun ll=>?_;refine aj hJ ?_;revert h;refine bS fun ln ha h=>?_;simp only[*,go_sem];refine bg hJ _ (rF u0 (j.mono aR) g ha) ?_;(try simp only[*,go_sem]);revert h;refine jC hJ (by simp only[*,go_sem]) (fun hc h=>?_) fun hc h=>?_
   ·refine aI hJ (af hJ ?_);refine aQ hJ ?_;refine aA hJ fun lo=>?_;refine aj hJ ?_;revert h;refine bS fun hf hg h=>?_;simp only[*,go_sem];refine dJ hJ (aS:=[]) [(d,bl u0 (sl (some f) u0.ay c4) a b c)] k _ (Az R t hg) (fun lr hh c0 p q hi=>?_);simp only[aV] at q;subst p;obtain ⟨d133,lv,rfl,lx⟩:=c0.len;refine ⟨⟨H,(d,bl u0 (sl (some f) u0.ay c4) a b c)::(hh++k)⟩,Le.refl _,?_⟩;refine aJ ?_;revert h;refine bS fun U hj h=>?_;obtain ⟨hk,da⟩:=dr hj;(try simp only[*,go_sem]);refine ax fun C db dd=>?_;have hl:=aP.cons dd hi;try simp only[au] at dd
    (try simp only[*,go_sem]);refine dY (r:=rI) (l:=hf) (x:=g) (cs:=#[.int .i64 g]) (e2:=3) [(C,ic g),(d,bl u0 (sl (some f) u0.ay c4) a b c)] k c0 hl hk rfl (by simp only[*,go_sem]) db rfl rfl fN fN kU kW rfl kV (by decide) (by decide) (fun ly df a3 p q dk=>?_);simp only[aV] at q;subst p;rw[<-da] at a3;clear da;obtain ⟨d145,a4,rfl,lL⟩:=a3.len;obtain ⟨a5,V,a6,dp,hn⟩:=a3.eU [(C,ic g),(d,bl u0 (sl (some f) u0.ay c4) a b c)] k dk (aD.cons db (aD.cons u (N.jw)));have ho:=aP.sub (l:=(C,ic g)::(d,bl u0 (sl (some f) u0.ay c4) a b c)::k) (l':=(C,ic g)::(d,bl u0 (sl (some f) u0.ay c4) a b c)::(df++k)) [(C,ic g),(d,bl u0 (sl (some f) u0.ay c4) a b c)] df k (by first|rfl|simp only[aV]|(simp only[aV];rfl)) (by first|rfl|simp only[aV]|(simp only[aV];rfl)) dk;refine ⟨⟨a5,(C,ic g)::(d,bl u0 (sl (some f) u0.ay c4) a b c)::k⟩,hn,?_⟩;obtain ⟨l1,l2,-⟩:=dp.op;replace t:=t.mono V;replace j:=j.mono V;replace u:=a6.tl.hd;replace N:=N.mono V a6.tl.tl;simp only[bu] at a6;refine aJ ?_;revert h;refine bS fun hp hq h=>?_;obtain rfl:=sI h;obtain ⟨hr,dq⟩:=dr hq;(try simp only[*,go_sem]);refine ax fun ds ht dt=>?_;have hv:=aP.cons dt ho;try simp only[au] at dt
    (try simp only[*,go_sem]);refine dY (r:=(rL rI)) (l:=B) (x:=U) (cs:=#[.slice d145 U.length a4]) (e2:=35) [(ds,.cells #[.slice d145 U.length a4] 35),(C,ic g),(d,bl u0 (sl (some f) u0.ay c4) a b c)] [] N hv hr ⟨_,rfl,dp⟩ (by simp only[*,go_sem]) ht rfl rfl kY kY q5 q7 rfl q6 (by decide) (by decide) (fun l3 du a7 p q l4=>?_);simp only[aV] at q;subst p;rw[<-dq] at a7;clear dq;obtain ⟨d165,hx,rfl,hy⟩:=a7.len;refine ⟨⟨a5,(ds,.cells #[.slice d145 U.length a4] 35)::(C,ic g)::(d,bl u0 (sl (some f) u0.ay c4) a b c)::du⟩,Le.refl _,?_⟩;refine aJ ?_;(try simp only[*,go_sem]);refine aA hJ fun ma=>?_;refine aj hJ ?_;simp only[*,go_sem];refine ⟨ar,Nat.lt_succ_self _,_,Le.sub (List.Sublist.cons _ (List.Sublist.cons _ (List.Sublist.refl _))),a5,d165,hx,du,hp,(IntKind.i64.wrap (g+1)),a2,rfl,(T.trans V),a7,hy,?_⟩;simp only[*,go_sem]
   obtain rfl:=sI h;refine bN ?_;simp only[go_sem];obtain rfl:=sI a2;clear a2;have h:=gV;dsimp only[aG] at h;obtain rfl:=sI h;have hz:=cn (n:=i47) (by have:=bs;omega);refine aj hJ ?_;simp only[*,go_sem];refine ⟨s.length - (i47+1),by omega,_,Le.sub (List.Sublist.refl _),i47+1,H,d75,M,k,B,rfl,by omega,ca,rfl,(L.trans T),N,g1,?_⟩;simp only[*,go_sem]
  refine aI hJ (af hJ ?_);refine aA hJ fun mf=>?_;refine aj hJ ?_;simp only[*,go_sem];refine aQ hJ ?_;revert h;refine bS fun hA W hB=>?_;refine bU hJ [5,9,33,34,35,36,37,38,39,40,41,42,43,44,45] (fun m w F'=>∃(I:Addr->Option Value) (d172:Option Addr) (O:Nat) (o:List (Nat×Obj)) (D:(List (List Int))) (i:Int),bn (vK u0 R) m (D,i)=some hA/\F'=⟨I,(d,bl u0 (sl (some f) u0.ay c4) a b c)::o⟩/\Ext y I/\aO (rL rI) I 35 (.slice d172 D.length O) D o/\D.length<=O/\slot w 5= .slice d172 D.length O/\slot w 9= .int .i64 i) fu ?_ ?_
  ·refine ⟨y,d38,G,K,z,cd.aL,W,rfl,Ext.refl _,Z,b1,?_⟩;simp only[*,go_sem]
  rintro a8 hD F' a9 ⟨I,d172,O,o,D,i,W,rfl,X,P,hE,mi,ml⟩;refine fZ hJ fun _ dv=>?_;replace t:=t.mono X;replace j:=j.mono X;replace u:=dv.hd;simp only[bu] at dv;obtain ⟨hF,hG,hI⟩:=a9.pick [2,4,7,8,10,11,12,13,15,16,17,18,21,22,23,24,32] (by decide);simp only[*,go_sem] at hF hG hI;have mn:cG [5,7,8,9,12,13,14,15,16,17,18,19,20,21,22,23,24,25,26,27,28,29,30,31,32,33,34,35,36,37,38,39,40,41,42,43,44,45,46] hD bz:=(a9.fX (by decide)).trans (by simp only[*,go_sem]);clear a9 ab ad ae b3 b2;obtain _|a8:=a8
  ·exact absurd W (by simp only[bn,reduceCtorEq,not_false_eq_true])
  revert W;refine bS fun mr h ba=>?_;unfold vK at h;try dsimp only at h
  refine af hJ (af hJ ?_);refine aA hJ fun mx=>?_;refine aj hJ ?_;revert h;refine bS fun my hK h=>?_;simp only[*,go_sem];refine bg hJ _ (rF u0 (j.mono aR) i hK) ?_;try simp only[*,go_sem]
  revert h;refine jC hJ (by simp only[*,go_sem]) (fun hL h=>?_) fun hL h=>?_
  ·refine aI hJ (af hJ ?_);refine aQ hJ ?_;refine aA hJ fun m1=>?_;refine aj hJ ?_;revert h;refine bS fun hM hN h=>?_;simp only[*,go_sem];refine dJ hJ (aS:=[]) [(d,bl u0 (sl (some f) u0.ay c4) a b c)] o _ (Az R t hN) (fun m2 hP dC p q hQ=>?_);simp only[aV] at q;subst p;obtain ⟨d230,na,rfl,nb⟩:=dC.len;refine ⟨⟨I,(d,bl u0 (sl (some f) u0.ay c4) a b c)::(hP++o)⟩,Le.refl _,?_⟩;refine aJ ?_;revert h;refine bS fun Y hR h=>?_;obtain ⟨hS,dE⟩:=dr hR;(try simp only[*,go_sem]);refine ax fun E dT ea=>?_;have hT:=aP.cons ea hQ;try simp only[au] at ea
   (try simp only[*,go_sem]);refine dY (r:=rI) (l:=hM) (x:=i) (cs:=#[.int .i64 i]) (e2:=3) [(E,ic i),(d,bl u0 (sl (some f) u0.ay c4) a b c)] o dC hT hS rfl (by simp only[*,go_sem]) dT rfl rfl fN fN kU kW rfl kV (by decide) (by decide) (fun nd eb bb p q ec=>?_);simp only[aV] at q;subst p;rw[<-dE] at bb;clear dE;obtain ⟨bc,bd,rfl,nf⟩:=bb.len;obtain ⟨bj,ed,bk,eh,hV⟩:=bb.eU [(E,ic i),(d,bl u0 (sl (some f) u0.ay c4) a b c)] o ec (aD.cons dT (aD.cons u (P.jw)));have hX:=aP.sub (l:=(E,ic i)::(d,bl u0 (sl (some f) u0.ay c4) a b c)::o) (l':=(E,ic i)::(d,bl u0 (sl (some f) u0.ay c4) a b c)::(eb++o)) [(E,ic i),(d,bl u0 (sl (some f) u0.ay c4) a b c)] eb o (by first|rfl|simp only[aV]|(simp only[aV];rfl)) (by first|rfl|simp only[aV]|(simp only[aV];rfl)) ec;refine ⟨⟨bj,(E,ic i)::(d,bl u0 (sl (some f) u0.ay c4) a b c)::o⟩,hV,?_⟩;obtain ⟨nm,nn,-⟩:=eh.op;replace u:=bk.tl.hd;replace P:=P.mono ed bk.tl.tl;simp only[bu] at bk;refine aJ ?_;revert h;refine bS fun hY hZ h=>?_;obtain rfl:=sI h;obtain ⟨h0,et⟩:=dr hZ;(try simp only[*,go_sem]);refine ax fun eu h1 ev=>?_;have h2:=aP.cons ev hX;try simp only[au] at ev
   (try simp only[*,go_sem]);refine dY (r:=(rL rI)) (l:=D) (x:=Y) (cs:=#[.slice bc Y.length bd]) (e2:=35) [(eu,.cells #[.slice bc Y.length bd] 35),(E,ic i),(d,bl u0 (sl (some f) u0.ay c4) a b c)] [] P h2 h0 ⟨_,rfl,eh⟩ (by simp only[*,go_sem]) h1 rfl rfl kY kY q5 q7 rfl q6 (by decide) (by decide) (fun np eQ bm p q ns=>?_);simp only[aV] at q;subst p;rw[<-et] at bm;clear et;obtain ⟨h3,h4,rfl,h5⟩:=bm.len;refine ⟨⟨bj,(eu,.cells #[.slice bc Y.length bd] 35)::(E,ic i)::(d,bl u0 (sl (some f) u0.ay c4) a b c)::eQ⟩,Le.refl _,?_⟩;refine aJ ?_;(try simp only[*,go_sem]);refine aA hJ fun nx=>?_;refine aj hJ ?_;simp only[*,go_sem];refine ⟨a8,Nat.lt_succ_self _,_,Le.sub (List.Sublist.cons _ (List.Sublist.cons _ (List.Sublist.refl _))),bj,h3,h4,eQ,hY,(IntKind.i64.wrap (i+1)),ba,rfl,(X.trans ed),bm,h5,?_⟩;simp only[*,go_sem]
  obtain rfl:=sI h;refine bN ?_;simp only[go_sem];obtain rfl:=sI ba;clear ba;have h:=hB;dsimp only[aG] at h;obtain rfl:=sI h;have hz:=cn (n:=i47) (by have:=bs;omega);refine aj hJ ?_;simp only[*,go_sem];refine ⟨s.length - (i47+1),by omega,_,Le.sub (List.Sublist.refl _),i47+1,I,d172,O,o,D,rfl,by omega,ca,rfl,(L.trans X),P,hE,?_⟩;simp only[*,go_sem]
 have nz:=Nat.not_lt.2 b5;refine bL hJ (by simp only[*,go_sem]) ?_;rw[List.drop_eq_nil_of_le b5] at F;obtain rfl:=sI F;clear F;have h:=fg;dsimp only[aG] at h;obtain rfl:=sI h;refine bN ?_;simp only[go_sem];refine af hJ ?_;refine aA hJ fun nA=>?_;refine aj hJ ?_;simp only[*,go_sem];refine aA hJ fun eS=>?_;obtain ⟨nH,h6,h7,e0,h8⟩:=Z.eU [(d,bl u0 (sl d3 u0.ay c4) a b c)] [] eS (aD.cons u (aD.nil _));clear eS;refine cF hJ h8 ?_;obtain ⟨nI,nK,-⟩:=e0.op;simp only[bu] at h7;refine az ?_;simp only[*,go_sem];exact ⟨_,(L).trans h6,Le.sub (List.nil_sublist _),_,rfl,e0⟩
def nG (u0:Int):Option Bool:=
 some (u0 != u0)
theorem sn {ro:Addr->Option Value}(u0:Int){r:Bool}(h:nG u0=some r):aC Tryz.prog 172 #[.int .i64 u0] ⟨ro,[]⟩ (fun v _=>v= .bool r):=by
 unfold nG at h;obtain rfl:=sI h;refine aC.go Tryz.func172 rfl Tryz.ntmps172 Tryz.results172 (by simp) fun main J hJ A a hd hs=>?_;have b:=hs 0;clear hs;refine ah hJ ?_;simp only[*,go_sem];refine ah hJ ?_;simp only[*,go_sem];refine az ?_;simp only[*,go_sem]
def ir (u0:Int)(a:Int):Option Bool:=
 ag (nG u0) fun b=>cond (b) (ag (nG a) fun c=>cond (!c) (some true) (some (decide (u0<a)))) (some (decide (u0<a)))
theorem jE {ro:Addr->Option Value}(u0:Int)(a:Int){r:Bool}(h:ir u0 a=some r):aC Tryz.prog 183 #[.int .i64 u0,.int .i64 a] ⟨ro,[]⟩ (fun v _=>v= .bool r):=by
 unfold ir at h;refine aC.go Tryz.func183 rfl Tryz.ntmps183 Tryz.results183 (by simp) fun main J hJ A f hd hs=>?_;have g:=hs 0;have k1:=hs 1;clear hs;refine ah hJ ?_;simp only[*,go_sem];refine ah hJ ?_;revert h;refine bS fun i b h=>?_;simp only[*,go_sem];refine bg hJ _ (sn u0 b) (aJ ?_);revert h;refine cS (fun c h=>?_) fun c h=>?_
 ·revert h;refine bS fun j d h=>?_;try simp only[*,go_sem]
  refine bg hJ _ (sn a d) (aJ ?_);revert h;refine cS (fun e h=>?_) fun e h=>?_
  ·obtain rfl:=sI h;(try simp only[*,go_sem]);refine az ?_;simp only[*,go_sem]
  obtain rfl:=sI h;try simp only[*,go_sem]
  refine az ?_;simp only[*,go_sem]
 obtain rfl:=sI h;try simp only[*,go_sem]
 refine az ?_;simp only[*,go_sem]
def vM (c:Int)(st:(Int×(List Int))):Option (Fl (Int×(List Int)) (Unit×(List Int))):=
 cond (decide (c<st.1)) (ag (bp st.2 st.1) fun b=>ag (bp st.2 (IntKind.i64.wrap (st.1 - 1))) fun a=>ag (ir b a) fun d=>cond (d) (ag (bp (st.2.set (st.1).toNat a) (IntKind.i64.wrap (st.1 - 1))) fun e=>some (.nx ((IntKind.i64.wrap (st.1 - 1)),((st.2.set (st.1).toNat a).set (IntKind.i64.wrap (st.1 - 1)).toNat b)))) (some (.bk (st.1,st.2)))) (some (.bk (st.1,st.2)))
def vN (a:Int)(b:Int)(st:(Int×(List Int))):Option (Fl (Int×(List Int)) (Unit×(List Int))):=
 cond (decide (st.1<b)) (ag (bn (vM a) fu (st.1,st.2)) fun o=>aG o (fun c=>some (.nx ((IntKind.i64.wrap (st.1+1)),c.2))) (fun _ _=>none) (fun r=>some (.rt r))) (some (.bk (st.1,st.2)))
def so (u0:(List Int))(a:Int)(b:Int):Option (Unit×(List Int)):=
 cond (List.isEmpty u0) none (ag (bn (vN a b) fu ((IntKind.i64.wrap (a+1)),u0)) fun o=>aG o (fun c=>some ((),c.2)) (fun _ _=>none) (fun r=>some r))
theorem AF {ro:Addr->Option Value}(u0:(List Int)){w:Value}{K:List (Nat×Obj)}(x:aO rI ro 3 w u0 K)(k:Int)(z:Int){r:(Unit×(List Int))}(h:so u0 k z=some r):aC Tryz.prog 177 #[w,.int .i64 k,.int .i64 z] ⟨ro,K⟩ (fun v G=>∃L,(v= .tuple #[]/\aO rI ro 3 w r.2 L)/\Le ⟨ro,L⟩ G):=by
 obtain ⟨d1,c2,rfl,b4⟩:=x.len;unfold so at h;revert h;refine cS (fun M h=>?_) fun M h=>?_
 ·cases h
 obtain ⟨b,ab,rfl,rfl,b5⟩:=x.ig M;refine aC.go Tryz.func177 rfl Tryz.ntmps177 Tryz.results177 (by simp) fun main J hJ A ad hd hs=>?_;have ae:=hs 0;have k1:=hs 1;have al:=hs 2;clear hs;refine af hJ ?_;refine aA hJ fun ca=>?_;refine aj hJ ?_;simp only[*,go_sem];refine aQ hJ ?_;revert h;refine bS fun ao n ar=>?_;refine bU hJ [6,7,10,11,12,13,14,15,16,17,18,19,20,21,22,23,24,25,26,27,28,29,30,31,32,33,34,35,36,37,38,39,40,41,42,43,44,45,46,47,48] (fun m B F'=>∃(p:Array Value) (j:Int) (q:(List Int)),bn (vN k z) m (j,q)=some ao/\F'=⟨ro,[(b,Obj.cells p 3)]⟩/\aO rI ro 3 (.slice (some ⟨b,0,none⟩) u0.length c2) q [(b,Obj.cells p 3)]/\slot B 6= .int .i64 j) fu ?_ ?_
 ·refine ⟨ab,(IntKind.i64.wrap (k+1)),u0,n,rfl,x,?_⟩;simp only[*,go_sem]
 rintro s a0 F' N ⟨p,j,q,n,rfl,O,a2⟩;obtain ⟨P,Q,R⟩:=N.pick [0,1,2] (by decide);simp only[*,go_sem] at P Q R;clear N ad hd ae k1 al;obtain _|s:=s
 ·exact absurd n (by simp only[bn,reduceCtorEq,not_false_eq_true])
 revert n;refine bS fun cb h t=>?_;unfold vN at h;try dsimp only at h
 refine af hJ (af hJ ?_);refine aA hJ fun cd=>?_;refine aj hJ ?_;simp only[*,go_sem];revert h;refine jC hJ (by simp only[*,go_sem]) (fun a3 h=>?_) fun a3 h=>?_
 ·refine aI hJ (af hJ ?_);refine aQ hJ (af hJ ?_);refine aA hJ fun cf=>?_;refine aj hJ ?_;simp only[*,go_sem];refine aQ hJ ?_;revert h;refine bS fun a4 u S=>?_;refine bU hJ [7,16,17,18,19,20,21,22,23,24,25,26,27,28,29,30,31,32,33,34,35,36,37,38,39,40,41,42,43,44,45,46,47,48] (fun m B F'=>∃(d:Array Value) (a:Int) (e:(List Int)),bn (vM k) m (a,e)=some a4/\F'=⟨ro,[(b,Obj.cells d 3)]⟩/\aO rI ro 3 (.slice (some ⟨b,0,none⟩) u0.length c2) e [(b,Obj.cells d 3)]/\slot B 7= .int .i64 a) fu ?_ ?_
  ·refine ⟨p,j,q,u,rfl,O,?_⟩;simp only[*,go_sem]
  rintro C a5 F' D ⟨d,a,e,u,rfl,g,cl⟩;obtain ⟨a6,a7,a8⟩:=D.pick [0,1,2,6,10,11,12,15] (by decide);simp only[*,go_sem] at a6 a7 a8;have cu:cG [6,7,10,11,12,13,14,15,16,17,18,19,20,21,22,23,24,25,26,27,28,29,30,31,32,33,34,35,36,37,38,39,40,41,42,43,44,45,46,47,48] a5 a0:=(D.fX (by decide)).trans (by simp only[*,go_sem]);clear D P Q R a2;obtain _|C:=C
  ·exact absurd u (by simp only[bn,reduceCtorEq,not_false_eq_true])
  revert u;refine bS fun cy h l=>?_;unfold vM at h;try dsimp only at h
  refine af hJ (af hJ ?_);refine aA hJ fun c0=>?_;refine cR hJ mixed 15 1 (by simp only[*,go_sem]) (by kernel_rfl) ?_;revert h;refine cS (fun a9 h=>?_) fun a9 h=>?_
  ·revert h;refine bS fun f ba h=>?_;obtain ⟨da,db,T⟩:=c5 ba;have dd:a<((u0.length:Nat):Int):=by have:=g.count;omega
   obtain ⟨bb,bc,bd⟩:=g.iT T;obtain rfl:bb=[.int .i64 f]:=bc;have U:=bd 0 _ rfl;simp only[go_sem] at U;have df:=(Array.getElem?_eq_some_iff.1 U).1;revert h;refine bS fun c bj h=>?_;obtain ⟨dk,dp,bk⟩:=c5 bj;have dq:IntKind.i64.wrap (a - 1)<((u0.length:Nat):Int):=by have:=g.count;omega
   obtain ⟨bl,bm,bo⟩:=g.iT bk;obtain rfl:bl=[.int .i64 c]:=bm;have V:=bo 0 _ rfl;simp only[go_sem] at V;have ds:=(Array.getElem?_eq_some_iff.1 V).1;revert h;refine bS fun dt br h=>?_;(try simp only[*,go_sem]);refine ⟨_,bD hJ fun F du=>jE f c br,bZ ?_⟩;(try simp only[*,go_sem]);revert h;refine jC hJ (by simp only[*,go_sem]) (fun bs h=>?_) fun bs h=>?_
   ·refine aI hJ (af hJ ?_);refine aQ hJ ?_;refine aA hJ fun dv=>?_;refine eF hJ mixed [15,16,17] (.pure 0 (.pure 1 (.pure 2 (.pure 3 (.pure 4 (.pure 5 (.pure 6 (.pure 7 (.pure 8 (.rd 9 (.pure 10 (.pure 11 (.pure 12 (.rd 13 (.pure 14 (.last 15 (.pure 16 (.last 17 .done)))))))))))))))))) ⟨ro,[(b,Obj.cells d 3)]⟩ (by simp only[*,go_sem]) (by kernel_rfl) ?_;have E:aO rI ro 3 (.slice (some ⟨b,0,none⟩) u0.length c2) (e.set (a).toNat c) [(b,Obj.cells (cI d (a).toNat [.int .i64 c]) 3)]:=by have H:=g.rq (i:=(a).toNat) (y:=c) (by have:=T;have:=(List.getElem?_eq_some_iff.1 this).1;simpa only[List.length_set] using this) (cs:=[.int .i64 c]) rfl;simpa only[rC,vo,Nat.mul_one,Nat.add_zero] using H
    revert h;refine bS fun bz b0 h=>?_;obtain rfl:=sI h;obtain ⟨dC,dE,W⟩:=c5 b0;have dT:IntKind.i64.wrap (a - 1)<((u0.length:Nat):Int):=by have:=E.count;omega
    obtain ⟨b1,b2,b3⟩:=E.iT W;obtain rfl:b1=[.int .i64 bz]:=b2;have X:=b3 0 _ rfl;simp only[go_sem] at X;have ea:=(Array.getElem?_eq_some_iff.1 X).1;have Y:aO rI ro 3 (.slice (some ⟨b,0,none⟩) u0.length c2) ((e.set (a).toNat c).set (IntKind.i64.wrap (a - 1)).toNat f) [(b,Obj.cells (cI (cI d (a).toNat [.int .i64 c]) (IntKind.i64.wrap (a - 1)).toNat [.int .i64 f]) 3)]:=by have H:=E.rq (i:=(IntKind.i64.wrap (a - 1)).toNat) (y:=f) (by have:=W;have:=(List.getElem?_eq_some_iff.1 this).1;simpa only[List.length_set] using this) (cs:=[.int .i64 f]) rfl;simpa only[rC,vo,Nat.mul_one,Nat.add_zero] using H
    (try simp only[*,go_sem]);obtain ⟨Z,I⟩:∃o,o=(cI (cI d (a).toNat [.int .i64 c]) (IntKind.i64.wrap (a - 1)).toNat [.int .i64 f]):=⟨_,rfl⟩
    refine cF (F:=⟨ro,[(b,Obj.cells Z 3)]⟩) hJ (by rw[I];exact Le.refl _) ?_;rw[<-I] at Y;clear I;refine aA hJ fun eb=>?_;refine aj hJ ?_;simp only[*,go_sem];refine ⟨C,Nat.lt_succ_self _,_,Le.sub (List.Sublist.refl _),Z,(IntKind.i64.wrap (a - 1)),((e.set (a).toNat c).set (IntKind.i64.wrap (a - 1)).toNat f),l,rfl,Y,?_⟩;simp only[*,go_sem]
   obtain rfl:=sI h;refine bN ?_;simp only[go_sem];obtain rfl:=sI l;clear l;have h:=S;dsimp only[aG] at h;obtain rfl:=sI h;refine aA hJ fun ec=>?_;refine aj hJ ?_;simp only[*,go_sem];refine ⟨s,Nat.lt_succ_self _,_,Le.sub (List.Sublist.refl _),d,(IntKind.i64.wrap (j+1)),e,t,rfl,g,?_⟩;simp only[*,go_sem]
  obtain rfl:=sI h;try simp only[*,go_sem]
  refine bL hJ (by simp only[*,go_sem]) ?_;refine bN ?_;simp only[go_sem];obtain rfl:=sI l;clear l;have h:=S;dsimp only[aG] at h;obtain rfl:=sI h;refine aA hJ fun ed=>?_;refine aj hJ ?_;simp only[*,go_sem];refine ⟨s,Nat.lt_succ_self _,_,Le.sub (List.Sublist.refl _),d,(IntKind.i64.wrap (j+1)),e,t,rfl,g,?_⟩;simp only[*,go_sem]
 obtain rfl:=sI h;refine bN ?_;simp only[go_sem];obtain rfl:=sI t;clear t;have h:=ar;dsimp only[aG] at h;obtain rfl:=sI h;simp only[*,go_sem];exact ⟨_,O,Le.sub (List.Sublist.refl _)⟩
def vO (u0:(List Int))(st:(Int×Int×Int×Bool×Bool)):Option (Fl (Int×Int×Int×Bool×Bool) (Unit×(List Int))):=
 cond (decide ((IntKind.i64.wrap (st.2.1 - st.1))<=12)) (ag (so u0 st.1 st.2.1) fun a=>some (.rt ((),a.2))) (none)
def sr (u0:(List Int))(a:Int)(b:Int)(c:Int):Option (Unit×(List Int)):=
 cond (List.isEmpty u0) none (ag (bn (vO u0) fu (a,b,c,true,true)) fun o=>aG o (fun d=>some ((),u0)) (fun _ _=>none) (fun r=>some r))
theorem AG {ro:Addr->Option Value}(u0:(List Int)){f:Value}{p:List (Nat×Obj)}(g:aO rI ro 3 f u0 p)(i:Int)(j:Int)(k:Int){r:(Unit×(List Int))}(h:sr u0 i j k=some r):aC Tryz.prog 148 #[f,.int .i64 i,.int .i64 j,.int .i64 k] ⟨ro,p⟩ (fun v G=>∃b,(v= .tuple #[]/\aO rI ro 3 f r.2 b)/\Le ⟨ro,b⟩ G):=by
 obtain ⟨d1,c2,rfl,Q⟩:=g.len;unfold sr at h;revert h;refine cS (fun q h=>?_) fun q h=>?_
 ·cases h
 obtain ⟨s,y,rfl,rfl,R⟩:=g.ig q;refine aC.go Tryz.func148 rfl Tryz.ntmps148 Tryz.results148 (by simp) fun main J hJ A z hd hs=>?_;have B:=hs 0;have k1:=hs 1;have C:=hs 2;have D:=hs 3;clear hs;refine af hJ ?_;refine aA hJ fun S=>?_;refine aj hJ ?_;simp only[*,go_sem];refine af hJ ?_;refine aA hJ fun T=>?_;refine aj hJ ?_;simp only[*,go_sem];refine aQ hJ ?_;revert h;refine bS fun E c F=>?_;refine bU hJ [1,2,3,8,9,10,11,12,13,14,15,16,17,18,19,20,21,22,23,24,25,26,27,28,29,30,31,32,33,34,35,36,37,38,39,40,41,42,43,44,45,46,47,48,49,50,51,52,53,54,55,56,57,58,59,60,61,62,63,64,65,66,67,68,69,70,71,72,73,74,75,76,77,78,79,80,81,82,83,84,85,86,87,88,89,90,91,92,93,94,95,96,97,98,99,100,101,102,103,104,105,106,107,108,109,110,111,112,113,114,115,116,117,118,119,120,121,122,123,124,125,126,127,128,129,130,131,132,133] (fun m a F'=>∃(d:Int) (e:Int) (l:Int) (n:Bool) (o:Bool),bn (vO u0) m (d,e,l,n,o)=some E/\F'=⟨ro,[(s,Obj.cells y 3)]⟩/\slot a 1= .int .i64 d/\slot a 2= .int .i64 e/\slot a 3= .int .i64 l/\slot a 8= .bool n/\slot a 9= .bool o) fu ?_ ?_
 ·refine ⟨i,j,k,true,true,c,rfl,?_⟩;simp only[*,go_sem]
 rintro t U F' u ⟨d,e,l,n,o,c,rfl,V,W,X,Y,Z⟩;obtain ⟨H,I,K⟩:=u.pick [0] (by decide);simp only[*,go_sem] at H I K;clear u z hd B k1 C D;obtain _|t:=t
 ·exact absurd c (by simp only[bn,reduceCtorEq,not_false_eq_true])
 revert c;refine bS fun ab h w=>?_;unfold vO at h;try dsimp only at h
 refine aQ hJ (af hJ ?_);refine aA hJ fun ad=>?_;refine aj hJ ?_;simp only[*,go_sem];refine af hJ (af hJ ?_);refine aA hJ fun ae=>?_;refine aj hJ ?_;simp only[*,go_sem];revert h;refine jC hJ (by simp only[*,go_sem]) (fun L h=>?_) fun L h=>?_
 ·refine af hJ ?_;refine aA hJ fun al=>?_;refine aj hJ ?_;revert h;refine bS fun ao M h=>?_;obtain rfl:=sI h;simp only[*,go_sem];refine dJ hJ [] [] _ (AF u0 g d e M) (fun ar a0 N b O a2=>?_);obtain ⟨rfl,x⟩:=N;obtain ⟨P,rfl⟩:=x.gx;simp only[aV] at O;subst b;refine ⟨⟨ro,[(s,Obj.cells P 3)]⟩,Le.refl _,?_⟩;try simp only[*,go_sem]
  obtain rfl:=sI w;clear w;have h:=F;dsimp only[aG] at h;obtain rfl:=sI h;refine az ?_;simp only[*,go_sem];exact ⟨_,x,Le.sub (List.Sublist.refl _)⟩
 cases h
def pX (u0:(List Int))(a:Int)(b:Int)(c:Int):Option (((Int×Int)×(List Int))×Int):=
 cond (List.isEmpty u0) none (ag (bp u0 b) fun d=>ag (bp u0 a) fun e=>ag (ir d e) fun f=>cond (f) (some (((b,a),u0),IntKind.i64.wrap (c+1))) (some (((a,b),u0),c)))
theorem vP {ro:Addr->Option Value}(u0:(List Int)){c:Value}{f:List (Nat×Obj)}(a:aO rI ro 3 c u0 f)(d:Int)(e:Int)(g:Int){b:Nat}(I:∀off sp,ro ⟨b,off,sp⟩=none){r:(((Int×Int)×(List Int))×Int)}(h:pX u0 d e g=some r):aC Tryz.prog 212 #[c,.int .i64 d,.int .i64 e,.pointer (some ⟨b,0,none⟩)] ⟨ro,(b,ic g)::f⟩ (fun v G=>∃i,(∃j,i=(b,ic r.2)::j/\v= .tuple #[.int .i64 r.1.1.1,.int .i64 r.1.1.2]/\aO rI ro 3 c r.1.2 j)/\Le ⟨ro,i⟩ G):=by
 obtain ⟨d1,c2,rfl,K⟩:=a.len;unfold pX at h;revert h;refine cS (fun k h=>?_) fun k h=>?_
 ·cases h
 obtain ⟨L,M,rfl,rfl,N⟩:=a.ig k;refine aC.go Tryz.func212 rfl Tryz.ntmps212 Tryz.results212 (by simp) fun main J hJ A O hd hs=>?_;have P:=hs 0;have k1:=hs 1;have Q:=hs 2;have R:=hs 3;clear hs;refine aA hJ fun p=>?_;have q:=p.nd;simp only[keys,List.map_cons,List.map_nil,List.map_append,List.cons_append,List.nil_append,List.nodup_cons,List.mem_cons,List.mem_append,List.not_mem_nil,or_false,not_or] at q;refine af hJ ?_;refine aA hJ fun S=>?_;refine aj hJ ?_;simp only[*,go_sem];refine af hJ (af hJ ?_);refine aA hJ fun T=>?_;refine cR hJ mixed 9 2 (by simp only[*,go_sem]) (by kernel_rfl) ?_;revert h;refine bS fun l s h=>?_;obtain ⟨U,V,t⟩:=c5 s;have W:e<((u0.length:Nat):Int):=by have:=a.count;omega
 obtain ⟨u,w,x⟩:=a.iT t;obtain rfl:u=[.int .i64 l]:=w;have m:=x 0 _ rfl;simp only[go_sem] at m;have X:=(Array.getElem?_eq_some_iff.1 m).1;revert h;refine bS fun n y h=>?_;obtain ⟨Y,Z,z⟩:=c5 y;have ab:d<((u0.length:Nat):Int):=by have:=a.count;omega
 obtain ⟨B,C,D⟩:=a.iT z;obtain rfl:B=[.int .i64 n]:=C;have o:=D 0 _ rfl;simp only[go_sem] at o;have ad:=(Array.getElem?_eq_some_iff.1 o).1;revert h;refine bS fun ae E h=>?_;try simp only[*,go_sem]
 refine ⟨_,bD hJ fun F al=>jE l n E,?_⟩;try simp only[*,go_sem]
 revert h;refine jC hJ (by simp only[*,go_sem]) (fun H h=>?_) fun H h=>?_
 ·obtain rfl:=sI h;refine af hJ ?_;refine aA hJ fun ao=>?_;refine aj hJ ?_;simp only[*,go_sem];refine af hJ ?_;refine aA hJ fun ar=>?_;refine aj hJ ?_;simp only[*,go_sem];refine az ?_;simp only[*,go_sem];exact ⟨_,⟨_,rfl,a⟩,Le.sub (List.Sublist.refl _)⟩
 obtain rfl:=sI h;refine aI hJ (af hJ ?_);refine aA hJ fun a0=>?_;refine aj hJ ?_;simp only[*,go_sem];refine az ?_;simp only[*,go_sem];exact ⟨_,⟨_,rfl,a⟩,Le.sub (List.Sublist.refl _)⟩
def vQ (u0:(List Int))(d:Int)(e:Int)(f:Int)(g:Int):Option ((Int×(List Int))×Int):=
 cond (List.isEmpty u0) none (ag (pX u0 d e g) fun a=>ag (pX a.1.2 a.1.1.2 f a.2) fun b=>ag (pX b.1.2 a.1.1.1 b.1.1.1 b.2) fun c=>some ((c.1.1.2,c.1.2),c.2))
theorem Gj {ro:Addr->Option Value}(u0:(List Int)){g:Value}{p:List (Nat×Obj)}(i:aO rI ro 3 g u0 p)(j:Int)(k:Int)(l:Int)(m:Int){b:Nat}(n:∀off sp,ro ⟨b,off,sp⟩=none){r:((Int×(List Int))×Int)}(h:vQ u0 j k l m=some r):aC Tryz.prog 204 #[g,.int .i64 j,.int .i64 k,.int .i64 l,.pointer (some ⟨b,0,none⟩)] ⟨ro,(b,ic m)::p⟩ (fun v G=>∃a,(∃q,a=(b,ic r.2)::q/\v= .int .i64 r.1.1/\aO rI ro 3 g r.1.2 q)/\Le ⟨ro,a⟩ G):=by
 obtain ⟨d1,c2,rfl,S⟩:=i.len;unfold vQ at h;revert h;refine cS (fun s h=>?_) fun s h=>?_
 ·cases h
 obtain ⟨o,T,rfl,rfl,U⟩:=i.ig s;refine aC.go Tryz.func204 rfl Tryz.ntmps204 Tryz.results204 (by simp) fun main J hJ A y hd hs=>?_;have z:=hs 0;have k1:=hs 1;have B:=hs 2;have C:=hs 3;have D:=hs 4;clear hs;refine aA hJ fun E=>?_;have F:=E.nd;simp only[keys,List.map_cons,List.map_nil,List.map_append,List.cons_append,List.nil_append,List.nodup_cons,List.mem_cons,List.mem_append,List.not_mem_nil,or_false,not_or] at F;refine af hJ ?_;refine aA hJ fun V=>?_;refine aj hJ ?_;simp only[*,go_sem];refine af hJ ?_;refine aA hJ fun W=>?_;refine aj hJ ?_;revert h;refine bS fun c H h=>?_;simp only[*,go_sem];refine dJ hJ [] [] _ (vP u0 i j k m n H) (fun X t d a e Y=>?_);obtain ⟨Z,rfl,rfl,u⟩:=d;obtain ⟨I,rfl⟩:=u.gx;simp only[aV] at e;subst a;refine ⟨⟨ro,(b,ic c.2)::[(o,Obj.cells I 3)]⟩,Le.refl _,?_⟩;refine aJ ?_;try simp only[*,go_sem]
 refine af hJ ?_;refine aA hJ fun ab=>?_;refine aj hJ ?_;revert h;refine bS fun f K h=>?_;simp only[*,go_sem];refine dJ hJ [] [] _ (vP c.1.2 u c.1.1.2 l c.2 n K) (fun ad t d a e ae=>?_);obtain ⟨al,rfl,rfl,w⟩:=d;obtain ⟨L,rfl⟩:=w.gx;simp only[aV] at e;subst a;refine ⟨⟨ro,(b,ic f.2)::[(o,Obj.cells L 3)]⟩,Le.refl _,?_⟩;refine aJ ?_;try simp only[*,go_sem]
 refine af hJ ?_;refine aA hJ fun ao=>?_;refine aj hJ ?_;revert h;refine bS fun M N h=>?_;obtain rfl:=sI h;simp only[*,go_sem];refine dJ hJ [] [] _ (vP f.1.2 w c.1.1.1 f.1.1.1 f.2 n N) (fun ar t d a e a0=>?_);obtain ⟨a2,rfl,rfl,x⟩:=d;obtain ⟨O,rfl⟩:=x.gx;simp only[aV] at e;subst a;refine ⟨⟨ro,(b,ic M.2)::[(o,Obj.cells O 3)]⟩,Le.refl _,?_⟩;refine aJ ?_;try simp only[*,go_sem]
 refine af hJ ?_;refine eV [0,2,10,12,20,28] fun a3 P Q R=>?_;simp only[*,go_sem] at P Q R;clear y hd z k1 B C D;refine aA hJ fun a4=>?_;refine aj hJ ?_;simp only[*,go_sem];refine az ?_;simp only[*,go_sem];exact ⟨_,⟨_,rfl,x⟩,Le.sub (List.Sublist.refl _)⟩
def vR (u0:(List Int))(b:Int)(d:Int):Option ((Int×Int)×(List Int)):=
 cond (List.isEmpty u0) none (ag (fF (IntKind.i64.wrap (d - b)) 4) fun c=>cond (decide (8<=(IntKind.i64.wrap (d - b)))) (cond (decide (50<=(IntKind.i64.wrap (d - b)))) (none) (ag (vQ u0 (IntKind.i64.wrap (b+(IntKind.i64.wrap (c*1)))) (IntKind.i64.wrap (b+(IntKind.i64.wrap (c*2)))) (IntKind.i64.wrap (b+(IntKind.i64.wrap (c*3)))) 0) fun a=>cond ((a.2==0)) (some ((a.1.1,1),a.1.2)) (cond ((a.2==12)) (some ((a.1.1,2),a.1.2)) (some ((a.1.1,0),a.1.2))))) (some ((IntKind.i64.wrap (b+(IntKind.i64.wrap (c*2))),1),u0)))
theorem Gk {ro:Addr->Option Value}(u0:(List Int)){e:Value}{g:List (Nat×Obj)}(b:aO rI ro 3 e u0 g)(a:Int)(i:Int){r:((Int×Int)×(List Int))}(h:vR u0 a i=some r):aC Tryz.prog 180 #[e,.int .i64 a,.int .i64 i] ⟨ro,g⟩ (fun v G=>∃c,(v= .tuple #[.int .i64 r.1.1,.int .i64 r.1.2]/\aO rI ro 3 e r.2 c)/\Le ⟨ro,c⟩ G):=by
 obtain ⟨d1,c2,rfl,N⟩:=b.len;unfold vR at h;revert h;refine cS (fun j h=>?_) fun j h=>?_
 ·cases h
 obtain ⟨p,O,rfl,rfl,P⟩:=b.ig j;refine aC.go Tryz.func180 rfl Tryz.ntmps180 Tryz.results180 (by simp) fun main J hJ A k hd hs=>?_;have l:=hs 0;have k1:=hs 1;have m:=hs 2;clear hs;refine af hJ ?_;refine aA hJ fun Q=>?_;refine aj hJ ?_;simp only[*,go_sem];refine af hJ ?_;refine aA hJ fun R=>?_;refine aj hJ ?_;simp only[*,go_sem];refine af hJ ?_;refine aA hJ fun q=>?_;refine aj hJ ?_;simp only[*,go_sem];refine ax fun s t n=>?_;have S:=aP.cons n q;try simp only[au] at n
 try simp only[*,go_sem]
 refine af hJ ?_;refine aA hJ fun T=>?_;refine aj hJ ?_;revert h;refine bS fun f o h=>?_;obtain ⟨U,V⟩:=jW o;clear o;try simp only[*,go_sem]
 refine af hJ ?_;refine aA hJ fun W=>?_;refine aj hJ ?_;simp only[*,go_sem];refine af hJ ?_;refine aA hJ fun X=>?_;refine aj hJ ?_;simp only[*,go_sem];refine af hJ (af hJ ?_);refine aA hJ fun Y=>?_;refine aj hJ ?_;simp only[*,go_sem];revert h;refine jC hJ (by simp only[*,go_sem]) (fun u h=>?_) fun u h=>?_
 ·refine af hJ (af hJ ?_);refine aA hJ fun Z=>?_;refine aj hJ ?_;simp only[*,go_sem];revert h;refine jC hJ (by simp only[*,go_sem]) (fun w h=>?_) fun w h=>?_
  ·cases h
  refine aI hJ ?_;refine aA hJ fun ab=>?_;refine aj hJ ?_;revert h;refine bS fun x y h=>?_;simp only[*,go_sem];refine dJ hJ [] [] _ (Gj u0 b (IntKind.i64.wrap (a+(IntKind.i64.wrap (f*1)))) (IntKind.i64.wrap (a+(IntKind.i64.wrap (f*2)))) (IntKind.i64.wrap (a+(IntKind.i64.wrap (f*3)))) 0 t y) (fun ad ae z c B al=>?_);obtain ⟨ao,rfl,rfl,d⟩:=z;obtain ⟨C,rfl⟩:=d.gx;simp only[aV] at B;subst c;refine ⟨⟨ro,(s,ic x.2)::[(p,Obj.cells C 3)]⟩,Le.refl _,?_⟩;refine aJ ?_;try simp only[*,go_sem]
  refine af hJ ?_;refine eV [0,6,7,9,11,44] fun ar D E F=>?_;simp only[*,go_sem] at D E F;clear k hd l k1 m;refine aA hJ fun a0=>?_;refine aj hJ ?_;simp only[*,go_sem];refine aQ hJ (af hJ ?_);refine aA hJ fun a2=>?_;refine aj hJ ?_;simp only[*,go_sem];revert h;refine jC hJ (by simp only[*,go_sem]) (fun H h=>?_) fun H h=>?_
  ·obtain rfl:=sI h;refine af hJ ?_;refine aA hJ fun a3=>?_;refine aj hJ ?_;simp only[*,go_sem];refine az ?_;simp only[*,go_sem];exact ⟨_,d,Le.sub (.cons _ (List.Sublist.refl _))⟩
  refine af hJ ?_;refine aA hJ fun a4=>?_;refine aj hJ ?_;simp only[*,go_sem];revert h;refine jC hJ (by simp only[*,go_sem]) (fun I h=>?_) fun I h=>?_
  ·obtain rfl:=sI h;refine af hJ ?_;refine aA hJ fun a5=>?_;refine aj hJ ?_;simp only[*,go_sem];refine az ?_;simp only[*,go_sem];exact ⟨_,d,Le.sub (.cons _ (List.Sublist.refl _))⟩
  obtain rfl:=sI h;refine af hJ ?_;refine aA hJ fun a6=>?_;refine aj hJ ?_;simp only[*,go_sem];refine az ?_;simp only[*,go_sem];exact ⟨_,d,Le.sub (.cons _ (List.Sublist.refl _))⟩
 obtain rfl:=sI h;refine aI hJ (af hJ ?_);refine aA hJ fun a7=>?_;refine aj hJ ?_;simp only[*,go_sem];refine aQ hJ (af hJ ?_);refine aA hJ fun a8=>?_;refine aj hJ ?_;simp only[*,go_sem];refine bP hJ (by simp only[*,go_sem]) ?_;refine af hJ ?_;refine eV [0,6,7,11] fun a9 K L M=>?_;simp only[*,go_sem] at K L M;clear k hd l k1 m;refine aA hJ fun ba=>?_;refine aj hJ ?_;simp only[*,go_sem];refine az ?_;simp only[*,go_sem];exact ⟨_,b,Le.sub (.cons _ (List.Sublist.refl _))⟩
end Go.Proofs.YtpgcmoanfifglaaGreatDoor
end
section
namespace Go.Sep
open Go Go.Conc
variable {P : Program} {main : Bool} {J : Goroutine → aa → Prop} {Q : Ex → Act → aa → Prop} {a : Act} {F : aa}
def Qn (E:Act->aa->Prop)(Q:Ex->Act->aa->Prop):Ex->Act->aa->Prop
 | .normal,a,F=>∃F0,Le F0 F/\E a F0
 | .exit i,a,F=>Q (.exit i) a F
 | .ret,a,F=>Q .ret a F
theorem Gl (E:Act->aa->Prop)(Q:Ex->Act->aa->Prop)(i:Nat)(a:Act)(F:aa):Qn E Q (.exit i) a F=Q (.exit i) a F:=Eq.trans rfl rfl
theorem Gm (E:Act->aa->Prop)(Q:Ex->Act->aa->Prop)(a:Act)(F:aa):Qn E Q .ret a F=Q .ret a F:=Eq.trans rfl rfl
attribute [go_sem] Gl Gm
theorem Qn.intro {E:Act->aa->Prop}(h:∃F0,Le F0 F/\E a F0):Qn E Q .normal a F:=h
theorem gh (hJ:Closed P main J){x y:Code}(E:Act->aa->Prop)(h1:Wp J x (Qn E Q) a F)(c:∀a F,E a F->Wp J y Q a F):Wp J (.seq x y) Q a F:=
 af hJ (h1.mono fun e a F b=>by
  cases e with
  |normal=>obtain ⟨F0,hle,d⟩:=b;exact cF hJ hle (c a F0 d)
  |exit i=>exact b
  |ret=>exact b)
theorem aO.cN {ro:Addr->Option Value}{e:TypeId}{b n cap:Nat}{l:List Int}{arr:Array Value}(h:aO rI ro e (.slice (some ⟨b,0,none⟩) n cap) l [(b,.cells arr e)]){i x:Int}(q:bp l i=some x):
  0<=i/\i<((n:Nat):Int)/\arr[i.toNat]?=some (.int .i64 x)/\i.toNat<arr.size:=by
 obtain ⟨h0,h1,a⟩:=c5 q
 have d:=h.count
 obtain ⟨cs,c,hm⟩:=h.iT a
 obtain rfl:cs=[.int .i64 x]:=c
 have m:=hm 0 _ rfl
 have m:arr[i.toNat*1+0]?=some (.int .i64 x):=m
 rw[Nat.mul_one,Nat.add_zero] at m
 exact ⟨h0,by omega,m,(Array.getElem?_eq_some_iff.1 m).1⟩
theorem aO.fQ {ro:Addr->Option Value}{e:TypeId}{b n cap:Nat}{l:List Int}{arr:Array Value}(h:aO rI ro e (.slice (some ⟨b,0,none⟩) n cap) l [(b,.cells arr e)]){i:Int}(h0:0<=i)(h1:i<((n:Nat):Int))(y:Int):
  aO rI ro e (.slice (some ⟨b,0,none⟩) n cap) (l.set i.toNat y) [(b,.cells (cI arr i.toNat [.int .i64 y]) e)]:=by
 have a:=h.count
 have:=h.rq (i:=i.toNat) (y:=y) (by omega) (cs:=[.int .i64 y]) rfl
 rwa [show i.toNat*rI.n=i.toNat from Nat.mul_one _] at this
end Go.Sep
end
section
namespace Go.Proofs.YtpgcmoanfifglaaGreatDoor
open Go Go.Sep Go.Proofs
set_option maxRecDepth 100000
set_option maxHeartbeats 4000000
def lf (m:Nat):Nat:=if m=0 then 0 else m.log2+1
def su (n:Int):Option Int:=if 0<=n/\n<256 then some ((lf n.toNat:Nat):Int) else none
theorem Gn:∀m:Fin 256,lf m.val<=8:=by decide+kernel
theorem Gq {ro:Addr->Option Value}(n:Int)(h0:0<=n)(h1:n<256):aC Tryz.prog 187 #[.int .u64 n] ⟨ro,[]⟩ (fun v _=>v= .int .i64 ((lf n.toNat:Nat):Int)):=by
 refine aC.go Tryz.func187 rfl Tryz.ntmps187 Tryz.results187 (by simp) fun main J hJ A c hd hs=>?_;have d:=hs 0;clear hs;have a1:¬(4294967296:Int)<=n:=by omega
 have a2:¬(65536:Int)<=n:=by omega
 have a3:¬(256:Int)<=n:=by omega
 have e:Tryz.prog.underlying 187=some (.int .u64):=by kernel_rfl
 have f:Tryz.prog.underlying 5=some (.int .u8):=by kernel_rfl
 have g:Tryz.prog.underlying 3=some (.int .i64):=by kernel_rfl
 have h:Tryz.prog.underlying 9=some .string:=by kernel_rfl
 have a4:IntKind.u8.wrap n=n:=IntWalk.u8_in n ⟨h0,by omega⟩;repeat refine af hJ ?_
 refine aj hJ ?_;simp only[*,go_sem];repeat refine af hJ ?_
 refine aj hJ ?_;simp only[*,go_sem];repeat refine af hJ ?_
 refine bL hJ (by simp only[*,go_sem,ge_iff_le]) ?_;refine aI hJ ?_;repeat refine af hJ ?_
 refine aj hJ ?_;simp only[*,go_sem];repeat refine af hJ ?_
 refine bL hJ (by simp only[*,go_sem,ge_iff_le]) ?_;refine aI hJ ?_;repeat refine af hJ ?_
 refine aj hJ ?_;simp only[*,go_sem];repeat refine af hJ ?_
 refine bL hJ (by simp only[*,go_sem,ge_iff_le]) ?_;refine aI hJ ?_;repeat refine af hJ ?_
 refine aj hJ ?_;simp only[*,go_sem];generalize a:ByteArray.mk _=S;have key:∀m:Fin 256,S[m.val]?=some (UInt8.ofNat (lf m.val)):=by rw[<-a];decide+kernel
 clear a;have b:n.toNat<256:=by omega
 have hb:=key ⟨n.toNat,b⟩;have hle:=Gn ⟨n.toNat,b⟩;simp only at hb hle;simp only[hb,Option.map_some];refine az ?_;simp only[*,go_sem];have e1:(UInt8.ofNat (lf n.toNat)).toNat=lf n.toNat:=by rw[UInt8.toNat_ofNat'];omega
 rw[e1,IntWalk.i64_in (lf n.toNat:Int) ⟨by omega,by omega⟩,Int.zero_add,IntWalk.i64_in (lf n.toNat:Int) ⟨by omega,by omega⟩]
theorem AH {ro:Addr->Option Value}(n:Int){r:Int}(h:su n=some r):aC Tryz.prog 149 #[.int .u64 n] ⟨ro,[]⟩ (fun v _=>v= .int .i64 r):=by
 unfold su at h;split at h
 case isFalse=>cases h
 rename_i a;obtain ⟨h0,h1⟩:=a;cases h;refine aC.go Tryz.func149 rfl Tryz.ntmps149 Tryz.results149 (by simp) fun main J hJ A b hd hs=>?_;have c:=hs 0;clear hs;repeat refine af hJ ?_
 refine aj hJ ?_;simp only[*,go_sem];repeat refine af hJ ?_
 refine bL hJ (by simp only[*,go_sem]) ?_;refine aI hJ ?_;repeat refine af hJ ?_
 refine aj hJ ?_;simp only[*,go_sem];refine bg hJ _ (Gq n h0 h1) (aJ ?_);simp only[*,go_sem];refine az ?_;simp only[*,go_sem]
end Go.Proofs.YtpgcmoanfifglaaGreatDoor
end

/- A part of the proof of a row and its tied card: QK3. -/
import Derived.Test.YtpgcmoanfifglaaGreatDoorQK2
set_option linter.all false
section
namespace Go.Proofs.YtpgcmoanfifglaaGreatDoor
open Go Go.Sep Go.Proofs
set_option maxRecDepth 100000
set_option maxHeartbeats 4000000
def fI (u0:Int)(a:Int)(b:Int):Option Bool:=
 cond (decide (a<=u0)) (some (decide (u0<=b))) (some false)
theorem gx {ro:Addr->Option Value}(u0:Int)(a:Int)(b:Int){r:Bool}(h:fI u0 a b=some r):aC Tryz.prog 114 #[.int .i64 u0,.int .i64 a,.int .i64 b] ⟨ro,[]⟩ (fun v _=>v= .bool r):=by
 unfold fI at h;refine aC.go Tryz.func114 rfl Tryz.ntmps114 Tryz.results114 (by simp) fun main J hJ A d hd hs=>?_;have e:=hs 0;have k1:=hs 1;have f:=hs 2;clear hs;refine ah hJ ?_;simp only[*,go_sem];refine ah hJ ?_;revert h;refine cS (fun c h=>?_) fun c h=>?_
 ·obtain rfl:=sI h;try simp only[*,go_sem]
  refine az ?_;simp only[*,go_sem]
 obtain rfl:=sI h;try simp only[*,go_sem]
 refine az ?_;simp only[*,go_sem]
def fZ (u0:Int):Option an:=
 some (⟨u0,1⟩:an)
theorem jz {ro:Addr->Option Value}(u0:Int){r:an}(h:fZ u0=some r):aC Tryz.prog 83 #[.int .i64 u0] ⟨ro,[]⟩ (fun v _=>v=r.v):=by
 unfold fZ at h;obtain rfl:=sI h;refine aC.go Tryz.func83 rfl Tryz.ntmps83 Tryz.results83 (by simp) fun main J hJ A a hd hs=>?_;have b:=hs 0;clear hs;refine ah hJ ?_;simp only[*,go_sem];refine ay fun c r1 n1=>?_;try simp only[au] at n1
 try simp only[*,go_sem]
 refine ah hJ ?_;simp only[*,go_sem];refine az ?_;simp only[*,go_sem]
def eA (u0:an)(a:an):Option Bool:=
 some (decide ((IntKind.i64.wrap (u0.num*a.den))<(IntKind.i64.wrap (a.num*u0.den))))
theorem iZ {ro:Addr->Option Value}(u0:an)(a:an){r:Bool}(h:eA u0 a=some r):aC Tryz.prog 76 #[.agg #[.int .i64 u0.num,.int .i64 u0.den],.agg #[.int .i64 a.num,.int .i64 a.den]] ⟨ro,[]⟩ (fun v _=>v= .bool r):=by
 unfold eA at h;obtain rfl:=sI h;refine aC.go Tryz.func76 rfl Tryz.ntmps76 Tryz.results76 (by simp) fun main J hJ A b hd hs=>?_;have c:=hs 0;have k1:=hs 1;clear hs;refine ah hJ ?_;simp only[*,go_sem];refine ay fun d r1 n1=>?_;try simp only[au] at n1
 refine ay fun b2 r2 n2=>?_;try simp only[au] at n2
 try simp only[*,go_sem]
 refine ah hJ ?_;simp only[*,go_sem];refine az ?_;simp only[*,go_sem]
def pM (u0:dh)(a:Int)(b:Int):Option Bool:=
 cond (decide (a<=u0.low)) (cond (decide (u0.low<=u0.high)) (some (decide (u0.high<=b))) (some false)) (some false)
theorem Ap {ro:Addr->Option Value}(u0:dh)(a:Int)(b:Int){r:Bool}(h:pM u0 a b=some r):aC Tryz.prog 70 #[.agg #[.int .i64 u0.low,.int .i64 u0.high],.int .i64 a,.int .i64 b] ⟨ro,[]⟩ (fun v _=>v= .bool r):=by
 unfold pM at h;refine aC.go Tryz.func70 rfl Tryz.ntmps70 Tryz.results70 (by simp) fun main J hJ A e hd hs=>?_;have f:=hs 0;have k1:=hs 1;have g:=hs 2;clear hs;refine ah hJ ?_;simp only[*,go_sem];refine ay fun i r1 n1=>?_;try simp only[au] at n1
 try simp only[*,go_sem]
 refine ah hJ ?_;revert h;refine cS (fun c h=>?_) fun c h=>?_
 ·revert h;refine cS (fun d h=>?_) fun d h=>?_
  ·obtain rfl:=sI h;(try simp only[*,go_sem]);refine az ?_;simp only[*,go_sem]
  obtain rfl:=sI h;try simp only[*,go_sem]
  refine az ?_;simp only[*,go_sem]
 obtain rfl:=sI h;try simp only[*,go_sem]
 refine az ?_;simp only[*,go_sem]
def ga (u0:bt)(a:bt):Option Bool:=
 ag (eA u0.high a.high) fun b=>some b
theorem rC {ro:Addr->Option Value}(u0:bt)(a:bt){r:Bool}(h:ga u0 a=some r):aC Tryz.prog 88 #[.agg #[.int .i64 u0.spot.aM,.int .i64 u0.spot.high.num,.int .i64 u0.spot.high.den,.int .i64 u0.at_,.int .i64 u0.high.num,.int .i64 u0.high.den],.agg #[.int .i64 a.spot.aM,.int .i64 a.spot.high.num,.int .i64 a.spot.high.den,.int .i64 a.at_,.int .i64 a.high.num,.int .i64 a.high.den]] ⟨ro,[]⟩ (fun v _=>v= .bool r):=by
 unfold ga at h;refine aC.go Tryz.func88 rfl Tryz.ntmps88 Tryz.results88 (by simp) fun main J hJ A c hd hs=>?_;have d:=hs 0;have k1:=hs 1;clear hs;refine ah hJ ?_;simp only[*,go_sem];refine ay fun e r1 n1=>?_;try simp only[au] at n1
 refine ay fun b2 r2 n2=>?_;try simp only[au] at n2
 try simp only[*,go_sem]
 refine ah hJ ?_;revert h;refine bS fun f b h=>?_;obtain rfl:=sI h;simp only[*,go_sem];refine bn hJ _ (iZ u0.high a.high b) (aK ?_);try simp only[*,go_sem]
 refine az ?_;simp only[*,go_sem]
def gR (u0:Int)(b:ak):Option Int:=
 ag (fI u0 1 20) fun a=>cond (!a) (some 1) (some 0)
theorem vn {ro:Addr->Option Value}(u0:Int)(b:ak){s1 c d f:Value}(a:bL ro b s1 c d f){r:Int}(h:gR u0 b=some r):aC Tryz.prog 96 #[.int .i64 u0,bv b s1 c d f] ⟨ro,[]⟩ (fun v _=>v= .int .i64 r):=by
 obtain ⟨d3,c4,rfl,k,l,-⟩:=id a.e;obtain ⟨d10,m,rfl,n,o,-⟩:=id a.p;obtain ⟨d17,q,rfl,s,u,-⟩:=id a.y;obtain ⟨d24,w,rfl,x,z,-⟩:=id a.t;unfold gR at h;refine aC.go Tryz.func96 rfl Tryz.ntmps96 Tryz.results96 (by simp) fun main J hJ A B hd hs=>?_;have C:=hs 0;have k1:=hs 1;clear hs;refine ah hJ ?_;simp only[*,go_sem];refine ay fun D E g=>?_;try simp only[au] at g
 try simp only[*,go_sem]
 refine af hJ (ah hJ ?_);revert h;refine bS fun F i h=>?_;simp only[*,go_sem];refine bn hJ _ (gx u0 1 20 i) (aK ?_);try simp only[*,go_sem]
 revert h;refine jC hJ (by simp only[*,go_sem]) (fun j h=>?_) fun j h=>?_
 ·obtain rfl:=sI h;refine ah hJ ?_;simp only[*,go_sem];refine az ?_;simp only[*,go_sem]
 obtain rfl:=sI h;refine aI hJ (af hJ ?_);refine aj hJ ?_;simp only[*,go_sem];refine az ?_;simp only[*,go_sem]
def eJ (u0:aY)(c:ak):Option Int:=
 ag (fI u0.back 1 20) fun a=>cond (!a) (some 1) (ag (fI u0.high 0 60) fun b=>cond (!b) (some 1) (some 0))
theorem rD {ro:Addr->Option Value}(u0:aY)(b:ak){s1 c d f:Value}(a:bL ro b s1 c d f){r:Int}(h:eJ u0 b=some r):aC Tryz.prog 78 #[.agg #[.int .i64 u0.back,.int .i64 u0.high],bv b s1 c d f] ⟨ro,[]⟩ (fun v _=>v= .int .i64 r):=by
 obtain ⟨d3,c4,rfl,n,o,-⟩:=id a.e;obtain ⟨d10,q,rfl,s,u,-⟩:=id a.p;obtain ⟨d17,w,rfl,x,z,-⟩:=id a.y;obtain ⟨d24,B,rfl,C,D,-⟩:=id a.t;unfold eJ at h;refine aC.go Tryz.func78 rfl Tryz.ntmps78 Tryz.results78 (by simp) fun main J hJ A E hd hs=>?_;have F:=hs 0;have k1:=hs 1;clear hs;refine ah hJ ?_;simp only[*,go_sem];refine ay fun G H g=>?_;try simp only[au] at g
 refine ay fun I K i=>?_;try simp only[au] at i
 try simp only[*,go_sem]
 refine af hJ (ah hJ ?_);revert h;refine bS fun L j h=>?_;simp only[*,go_sem];refine bn hJ _ (gx u0.back 1 20 j) (aK ?_);revert h;refine cS (fun k h=>?_) fun k h=>?_
 ·obtain rfl:=sI h;try simp only[*,go_sem]
  refine bJ hJ (by simp only[*,go_sem]) ?_;refine ah hJ ?_;simp only[*,go_sem];refine az ?_;simp only[*,go_sem]
 revert h;refine bS fun M l h=>?_;try simp only[*,go_sem]
 refine bn hJ _ (gx u0.high 0 60 l) (aK ?_);try simp only[*,go_sem]
 revert h;refine jC hJ (by simp only[*,go_sem]) (fun m h=>?_) fun m h=>?_
 ·obtain rfl:=sI h;refine ah hJ ?_;simp only[*,go_sem];refine az ?_;simp only[*,go_sem]
 obtain rfl:=sI h;refine aI hJ (af hJ ?_);refine aj hJ ?_;simp only[*,go_sem];refine az ?_;simp only[*,go_sem]
def nt (u0:ak)(a:Int):Option Bool:=
 ag (fI a 0 (IntKind.i64.wrap ((u0.aH.length:Int) - 1))) fun b=>some b
theorem Aq {ro:Addr->Option Value}(u0:ak){s1 c d f:Value}(a:bL ro u0 s1 c d f)(b:Int){r:Bool}(h:nt u0 b=some r):aC Tryz.prog 120 #[bv u0 s1 c d f,.int .i64 b] ⟨ro,[]⟩ (fun v _=>v= .bool r):=by
 obtain ⟨d3,c4,rfl,j,k,-⟩:=id a.e;obtain ⟨d10,l,rfl,m,n,-⟩:=id a.p;obtain ⟨d17,o,rfl,q,s,-⟩:=id a.y;obtain ⟨d24,u,rfl,w,x,-⟩:=id a.t;unfold nt at h;refine aC.go Tryz.func120 rfl Tryz.ntmps120 Tryz.results120 (by simp) fun main J hJ A z hd hs=>?_;have B:=hs 0;have k1:=hs 1;clear hs;refine ah hJ ?_;simp only[*,go_sem];refine ay fun C D g=>?_;try simp only[au] at g
 try simp only[*,go_sem]
 refine ah hJ ?_;revert h;refine bS fun E i h=>?_;obtain rfl:=sI h;simp only[*,go_sem];refine bn hJ _ (gx b 0 (IntKind.i64.wrap ((u0.aH.length:Int) - 1)) i) (aK ?_);try simp only[*,go_sem]
 refine az ?_;simp only[*,go_sem]
def gb (u0:ak)(a:Int):Option Bool:=
 ag (bh u0.aD 0) fun b=>ag (bh u0.aD (IntKind.i64.wrap ((u0.aD.length:Int) - 1))) fun c=>ag (fI a b.aM c.aM) fun d=>some d
theorem rE {ro:Addr->Option Value}(u0:ak){s1 f g i:Value}(a:bL ro u0 s1 f g i)(b:Int){r:Bool}(h:gb u0 b=some r):aC Tryz.prog 140 #[bv u0 s1 f g i,.int .i64 b] ⟨ro,[]⟩ (fun v _=>v= .bool r):=by
 obtain ⟨d3,c4,rfl,E,G,-⟩:=id a.e;unfold gb at h;refine aC.go Tryz.func140 rfl Tryz.ntmps140 Tryz.results140 (by simp) fun main J hJ A H hd hs=>?_;have I:=hs 0;have k1:=hs 1;clear hs;refine ah hJ ?_;simp only[*,go_sem];refine ay fun K L n=>?_;try simp only[au] at n
 try simp only[*,go_sem]
 refine af hJ ?_;refine cL hJ mixed 20 1 (by simp only[*,go_sem]) (by kernel_rfl) ?_;revert h;refine bS fun j o h=>?_;obtain ⟨M,N,k⟩:=cK o;obtain ⟨O,p,q,s,c⟩:=a.e.el _ _ k;obtain rfl:p=j.cells:=s;cases q;have t:=c 0 _ rfl;simp only[go_sem] at t;have u:=c 1 _ rfl;simp only[go_sem] at u;clear c k;revert h;refine bS fun l w h=>?_;obtain ⟨P,Q,m⟩:=cK w;obtain ⟨R,x,y,z,d⟩:=a.e.el _ _ m;obtain rfl:x=l.cells:=z;cases y;have B:=d 0 _ rfl;simp only[go_sem] at B;have C:=d 1 _ rfl;simp only[go_sem] at C;clear d m;revert h;refine bS fun S D h=>?_;obtain rfl:=sI h;try simp only[*,go_sem]
 refine ⟨_,bx hJ fun F T=>gx b j.aM l.aM D,bP ?_⟩;try simp only[*,go_sem]
 refine az ?_;simp only[*,go_sem]
def eK (u0:Int)(a:ak):Option Int:=
 ag (nt a u0) fun b=>cond (!b) (some 6) (some 0)
theorem rF {ro:Addr->Option Value}(u0:Int)(b:ak){s1 c d f:Value}(a:bL ro b s1 c d f){r:Int}(h:eK u0 b=some r):aC Tryz.prog 68 #[.int .i64 u0,bv b s1 c d f] ⟨ro,[]⟩ (fun v _=>v= .int .i64 r):=by
 obtain ⟨d3,c4,rfl,k,l,-⟩:=id a.e;obtain ⟨d10,m,rfl,n,o,-⟩:=id a.p;obtain ⟨d17,q,rfl,s,u,-⟩:=id a.y;obtain ⟨d24,w,rfl,x,z,-⟩:=id a.t;unfold eK at h;refine aC.go Tryz.func68 rfl Tryz.ntmps68 Tryz.results68 (by simp) fun main J hJ A B hd hs=>?_;have C:=hs 0;have k1:=hs 1;clear hs;refine ah hJ ?_;simp only[*,go_sem];refine ay fun D E g=>?_;try simp only[au] at g
 try simp only[*,go_sem]
 refine af hJ (ah hJ ?_);revert h;refine bS fun F i h=>?_;simp only[*,go_sem];refine bn hJ _ (Aq b (a.mono aW) u0 i) (aK ?_);try simp only[*,go_sem]
 revert h;refine jC hJ (by simp only[*,go_sem]) (fun j h=>?_) fun j h=>?_
 ·obtain rfl:=sI h;refine ah hJ ?_;simp only[*,go_sem];refine az ?_;simp only[*,go_sem]
 obtain rfl:=sI h;refine aI hJ (af hJ ?_);refine aj hJ ?_;simp only[*,go_sem];refine az ?_;simp only[*,go_sem]
def nu (u0:Int)(a:ak):Option Int:=
 ag (gb a u0) fun b=>cond (!b) (some 6) (some 0)
theorem FF {ro:Addr->Option Value}(u0:Int)(b:ak){s1 c d f:Value}(a:bL ro b s1 c d f){r:Int}(h:nu u0 b=some r):aC Tryz.prog 115 #[.int .i64 u0,bv b s1 c d f] ⟨ro,[]⟩ (fun v _=>v= .int .i64 r):=by
 obtain ⟨d3,c4,rfl,k,l,-⟩:=id a.e;obtain ⟨d10,m,rfl,n,o,-⟩:=id a.p;obtain ⟨d17,q,rfl,s,u,-⟩:=id a.y;obtain ⟨d24,w,rfl,x,z,-⟩:=id a.t;unfold nu at h;refine aC.go Tryz.func115 rfl Tryz.ntmps115 Tryz.results115 (by simp) fun main J hJ A B hd hs=>?_;have C:=hs 0;have k1:=hs 1;clear hs;refine ah hJ ?_;simp only[*,go_sem];refine ay fun D E g=>?_;try simp only[au] at g
 try simp only[*,go_sem]
 refine af hJ (ah hJ ?_);revert h;refine bS fun F i h=>?_;simp only[*,go_sem];refine bn hJ _ (rE b (a.mono aW) u0 i) (aK ?_);try simp only[*,go_sem]
 revert h;refine jC hJ (by simp only[*,go_sem]) (fun j h=>?_) fun j h=>?_
 ·obtain rfl:=sI h;refine ah hJ ?_;simp only[*,go_sem];refine az ?_;simp only[*,go_sem]
 obtain rfl:=sI h;refine aI hJ (af hJ ?_);refine aj hJ ?_;simp only[*,go_sem];refine az ?_;simp only[*,go_sem]
def pN (st:(Int×Int)):Option (Fl (Int×Int) an):=
 cond ((st.2 != 0)) (ag (lZ st.1 st.2) fun a=>some (.nx (st.2,a))) (some (.bk (st.1,st.2)))
def j7 (u0:Int)(a:Int):Option an:=
 ag (aS (pN) fu ((if u0<IntKind.i64.wrap (0 - u0) then IntKind.i64.wrap (0 - u0) else u0),a)) fun o=>aA o (fun b=>ag (fE u0 b.1) fun c=>ag (fE a b.1) fun d=>some (⟨c,d⟩:an)) (fun _ _=>none) (fun r=>some r)
theorem pO {ro:Addr->Option Value}(u0:Int)(c:Int){r:an}(h:j7 u0 c=some r):aC Tryz.prog 127 #[.int .i64 u0,.int .i64 c] ⟨ro,[]⟩ (fun v _=>v=r.v):=by
 unfold j7 at h;refine aC.go Tryz.func127 rfl Tryz.ntmps127 Tryz.results127 (by simp) fun main J hJ A l hd hs=>?_;have n:=hs 0;have k1:=hs 1;clear hs;refine ah hJ ?_;simp only[*,go_sem];refine ay fun o r1 n1=>?_;try simp only[au] at n1
 try simp only[*,go_sem]
 refine ah hJ ?_;simp only[*,go_sem];refine af hJ (aP hJ ?_);revert h;refine bS fun o4 a p=>?_;refine bR hJ [5,6,12,13,14,15,16,17] (fun m f F'=>∃(v2:Int) (b:Int),aS (pN) m (v2,b)=some o4/\F'=⟨ro,(o,rt 0 0)::[]⟩/\slot f 5= .int .i64 v2/\slot f 6= .int .i64 b) fu ?_ ?_
 ·refine ⟨(if u0<IntKind.i64.wrap (0 - u0) then IntKind.i64.wrap (0 - u0) else u0),c,a,rfl,?_⟩;simp only[*,go_sem]
 rintro d x F' g ⟨v2,b,a,rfl,y,z⟩;obtain ⟨q,s,t⟩:=g.pick [0,1,4] (by decide);simp only[*,go_sem] at q s t;clear g l hd n k1;obtain _|d:=d
 ·exact absurd a (by simp only[aS,reduceCtorEq,not_false_eq_true])
 revert a;refine bS fun B h e=>?_;unfold pN at h;try dsimp only at h
 refine af hJ (ah hJ ?_);simp only[*,go_sem];revert h;refine jC hJ (by simp only[*,go_sem]) (fun u h=>?_) fun u h=>?_
 ·refine aI hJ (aP hJ ?_);refine cL hJ mixed 6 1 (by simp only[*,go_sem]) (by kernel_rfl) ?_;revert h;refine bS fun w i h=>?_;obtain rfl:=sI h;obtain ⟨C,D⟩:=uP i;clear i;try simp only[*,go_sem]
  refine ⟨d,Nat.lt_succ_self _,_,Le.sub (List.Sublist.refl _),b,w,e,rfl,?_⟩;simp only[*,go_sem]
 obtain rfl:=sI h;refine bN ?_;simp only[go_sem];obtain rfl:=sI e;clear e;have h:=p;dsimp only[aA] at h;refine af hJ ?_;refine cL hJ mixed 7 0 (by simp only[*,go_sem]) (by kernel_rfl) ?_;revert h;refine bS fun E j h=>?_;obtain ⟨F,G⟩:=jW j;clear j;revert h;refine bS fun H k h=>?_;obtain rfl:=sI h;obtain ⟨I,K⟩:=jW k;clear k;try simp only[*,go_sem]
 refine az ?_;simp only[*,go_sem]
def ja (u0:an)(a:an):Option an:=
 ag (j7 (IntKind.i64.wrap ((IntKind.i64.wrap (u0.num*a.den))+(IntKind.i64.wrap (a.num*u0.den)))) (IntKind.i64.wrap (u0.den*a.den))) fun b=>some b
theorem pP {ro:Addr->Option Value}(u0:an)(a:an){r:an}(h:ja u0 a=some r):aC Tryz.prog 91 #[.agg #[.int .i64 u0.num,.int .i64 u0.den],.agg #[.int .i64 a.num,.int .i64 a.den]] ⟨ro,[]⟩ (fun v _=>v=r.v):=by
 unfold ja at h;refine aC.go Tryz.func91 rfl Tryz.ntmps91 Tryz.results91 (by simp) fun main J hJ A c hd hs=>?_;have d:=hs 0;have k1:=hs 1;clear hs;refine ah hJ ?_;simp only[*,go_sem];refine ay fun e r1 n1=>?_;try simp only[au] at n1
 refine ay fun b2 r2 n2=>?_;try simp only[au] at n2
 refine ay fun b3 r3 n3=>?_;try simp only[au] at n3
 try simp only[*,go_sem]
 refine ah hJ ?_;revert h;refine bS fun f b h=>?_;obtain rfl:=sI h;simp only[*,go_sem];refine bn hJ _ (pO (IntKind.i64.wrap ((IntKind.i64.wrap (u0.num*a.den))+(IntKind.i64.wrap (a.num*u0.den)))) (IntKind.i64.wrap (u0.den*a.den)) b) (aK ?_);try simp only[*,go_sem]
 refine az ?_;simp only[*,go_sem]
def jb (u0:an)(a:an):Option an:=
 ag (ja u0 (⟨IntKind.i64.wrap (0 - a.num),a.den⟩:an)) fun b=>some b
theorem pQ {ro:Addr->Option Value}(u0:an)(a:an){r:an}(h:jb u0 a=some r):aC Tryz.prog 90 #[.agg #[.int .i64 u0.num,.int .i64 u0.den],.agg #[.int .i64 a.num,.int .i64 a.den]] ⟨ro,[]⟩ (fun v _=>v=r.v):=by
 unfold jb at h;refine aC.go Tryz.func90 rfl Tryz.ntmps90 Tryz.results90 (by simp) fun main J hJ A c hd hs=>?_;have d:=hs 0;have k1:=hs 1;clear hs;refine ah hJ ?_;simp only[*,go_sem];refine ay fun e r1 n1=>?_;try simp only[au] at n1
 refine ay fun b2 r2 n2=>?_;try simp only[au] at n2
 refine ay fun b3 r3 n3=>?_;try simp only[au] at n3
 try simp only[*,go_sem]
 refine ah hJ ?_;revert h;refine bS fun f b h=>?_;obtain rfl:=sI h;simp only[*,go_sem];refine bn hJ _ (pP u0 (⟨IntKind.i64.wrap (0 - a.num),a.den⟩:an) b) (aK ?_);try simp only[*,go_sem]
 refine az ?_;simp only[*,go_sem]
def j8 (u0:ak)(a:aY)(e:Int)(b:gQ):Option bt:=
 ag (fZ a.high) fun f=>ag (jb b.high f) fun c=>ag (j7 (IntKind.i64.wrap (u0.bH+a.back)) (IntKind.i64.wrap (b.aM+a.back))) fun d=>ag (fZ a.high) fun g=>ag (j7 (IntKind.i64.wrap (c.num*d.num)) (IntKind.i64.wrap (c.den*d.den))) fun h=>ag (ja g h) fun i=>some (⟨b,e,i⟩:bt)
theorem Ar {ro:Addr->Option Value}(u0:ak){s1 c d e:Value}(K:bL ro u0 s1 c d e)(b:aY)(j:Int)(a:gQ){r:bt}(h:j8 u0 b j a=some r):aC Tryz.prog 126 #[bv u0 s1 c d e,.agg #[.int .i64 b.back,.int .i64 b.high],.int .i64 j,.agg #[.int .i64 a.aM,.int .i64 a.high.num,.int .i64 a.high.den]] ⟨ro,[]⟩ (fun v _=>v=r.v):=by
 unfold j8 at h;refine aC.go Tryz.func126 rfl Tryz.ntmps126 Tryz.results126 (by simp) fun main J hJ A L hd hs=>?_;have M:=hs 0;have k1:=hs 1;have N:=hs 2;have O:=hs 3;clear hs;refine ah hJ ?_;simp only[*,go_sem];refine ay fun k P n=>?_;try simp only[au] at n
 refine ay fun l Q o=>?_;try simp only[au] at o
 refine ay fun m R p=>?_;try simp only[au] at p
 refine ay fun q S s=>?_;try simp only[au] at s
 try simp only[*,go_sem]
 refine af hJ ?_;refine e7 hJ mixed 6 ⟨ro,[(q,.cells #[.int .i64 0,.int .i64 0,.int .i64 0,.int .i64 0,.int .i64 0,.int .i64 0] 147),(m,.cells #[.int .i64 a.aM,.int .i64 a.high.num,.int .i64 a.high.den] 145),(l,.cells #[.int .i64 b.back,.int .i64 b.high] 134),(k,bl u0 s1 c d e)]⟩ (by simp only[*,go_sem]) (by kernel_rfl) ?_;revert h;refine bS fun t u h=>?_;simp only[*,go_sem];refine ⟨_,bx hJ fun F f=>jz b.high u,bP ?_⟩;revert h;refine bS fun g w h=>?_;try simp only[*,go_sem]
 refine ⟨_,bx hJ fun F f=>pQ a.high t w,?_⟩;try simp only[*,go_sem]
 refine ay fun x T y=>?_;try simp only[au] at y
 try simp only[*,go_sem]
 refine ah hJ ?_;revert h;refine bS fun i z h=>?_;simp only[*,go_sem];refine bn hJ _ (pO (IntKind.i64.wrap (u0.bH+b.back)) (IntKind.i64.wrap (a.aM+b.back)) z) (aK ?_);try simp only[*,go_sem]
 refine ay fun B U C=>?_;try simp only[au] at C
 try simp only[*,go_sem]
 refine af hJ ?_;refine e7 hJ mixed 18 ⟨ro,[(B,rt i.num i.den),(x,rt g.num g.den),(m,.cells #[.int .i64 a.aM,.int .i64 a.high.num,.int .i64 a.high.den] 145),(l,.cells #[.int .i64 b.back,.int .i64 b.high] 134),(k,bl u0 s1 c d e)]⟩ (by simp only[*,go_sem]) (by kernel_rfl) ?_;revert h;refine bS fun D E h=>?_;simp only[*,go_sem];refine ⟨_,bx hJ fun F f=>jz b.high E,bP ?_⟩;revert h;refine bS fun G H h=>?_;try simp only[*,go_sem]
 refine ⟨_,bx hJ fun F f=>pO (IntKind.i64.wrap (g.num*i.num)) (IntKind.i64.wrap (g.den*i.den)) H,bP ?_⟩;revert h;refine bS fun V I h=>?_;obtain rfl:=sI h;try simp only[*,go_sem]
 refine ⟨_,bx hJ fun F f=>pP D G I,bP ?_⟩;try simp only[*,go_sem]
 refine az ?_;simp only[*,go_sem]
def ir (u0:ak)(a:Int)(b:Int):Option aY:=
 ag (bh u0.aH a) fun c=>some (⟨c.back,b⟩:aY)
theorem mc {ro:Addr->Option Value}(u0:ak){s1 c d f:Value}(a:bL ro u0 s1 c d f)(g:Int)(i:Int){r:aY}(h:ir u0 g i=some r):aC Tryz.prog 74 #[bv u0 s1 c d f,.int .i64 g,.int .i64 i] ⟨ro,[]⟩ (fun v _=>v=r.v):=by
 obtain ⟨d3,c4,rfl,z,B,-⟩:=id a.e;obtain ⟨d10,C,rfl,D,E,-⟩:=id a.p;obtain ⟨d17,F,rfl,G,H,-⟩:=id a.y;obtain ⟨d24,I,rfl,K,L,-⟩:=id a.t;unfold ir at h;refine aC.go Tryz.func74 rfl Tryz.ntmps74 Tryz.results74 (by simp) fun main J hJ A M hd hs=>?_;have N:=hs 0;have k1:=hs 1;have O:=hs 2;clear hs;refine ah hJ ?_;simp only[*,go_sem];refine ay fun P Q k=>?_;try simp only[au] at k
 refine ay fun R S l=>?_;try simp only[au] at l
 try simp only[*,go_sem]
 refine ah hJ ?_;revert h;refine bS fun m n h=>?_;obtain rfl:=sI h;obtain ⟨T,U,j⟩:=cK n;obtain ⟨V,o,q,s,b⟩:=a.y.el _ _ j;obtain rfl:o=m.cells:=s;cases q;have u:=b 0 _ rfl;simp only[go_sem] at u;have w:=b 1 _ rfl;simp only[go_sem] at w;have x:=b 2 _ rfl;simp only[go_sem] at x;clear b j;try simp only[*,go_sem]
 refine az ?_;simp only[*,go_sem]
def j9 (u0:(bt->bt->Option Bool))(i11:Nat)(a:bt)(st:bt):Option (Fl bt bt):=
 ag (u0 st a) fun b=>cond (b) (some (.nx a)) (some (.nx st))
def jc (u0:(bt->bt->Option Bool))(a:bt)(b:(List bt)):Option bt:=
 ag (bE (j9 u0) 0 b a) fun o=>aA o (fun c=>some c) (fun _ _=>none) (fun r=>some r)
theorem rG {ro:Addr->Option Value}(u0:(bt->bt->Option Bool)){dM:FuncId}{ee ef:Array Value}(s:aJ Tryz.prog dM=true/\∀(aN:Addr->Option Value),Ext ro aN->∀(i:bt) (j:bt) (z:Bool),u0 i j=some z->aC Tryz.prog dM (ee++#[i.v,j.v]++ef) ⟨aN,[]⟩ (fun v _=>v= .bool z))(c:bt)(b:(List bt)){s1:Value}(k:aB j6 ro s1 b){r:bt}(h:jc u0 c b=some r):aC Tryz.prog 87 #[.func (.func dM) ee ef,.agg #[.int .i64 c.spot.aM,.int .i64 c.spot.high.num,.int .i64 c.spot.high.den,.int .i64 c.at_,.int .i64 c.high.num,.int .i64 c.high.den],s1] ⟨ro,[]⟩ (fun v _=>v=r.v):=by
 obtain ⟨d3,c4,rfl,Z,l,-⟩:=id k;unfold jc at h;refine aC.go Tryz.func87 rfl Tryz.ntmps87 Tryz.results87 (by simp) fun main J hJ A t hd hs=>?_;have u:=hs 0;have k1:=hs 1;have w:=hs 2;clear hs;refine ah hJ ?_;simp only[*,go_sem];refine ay fun y ab B=>?_;try simp only[au] at B
 refine ay fun C ad D=>?_;try simp only[au] at D
 try simp only[*,go_sem]
 refine af hJ (ah hJ ?_);simp only[*,go_sem];refine aP hJ ?_;revert h;refine bS fun E d F=>?_;refine bR hJ [8,11,12,13,14,15,16,17,18,19,20] (fun m G F'=>∃(i11:Nat) (v10:bt),m=b.length - i11/\i11<=b.length/\bE (j9 u0) i11 (b.drop i11) v10=some E/\F'=⟨ro,(C,.cells #[.int .i64 0,.int .i64 0,.int .i64 0,.int .i64 0,.int .i64 0,.int .i64 0] 147)::(y,.cells #[.int .i64 v10.spot.aM,.int .i64 v10.spot.high.num,.int .i64 v10.spot.high.den,.int .i64 v10.at_,.int .i64 v10.high.num,.int .i64 v10.high.den] 147)::[]⟩/\slot G 11= .int .i64 (i11:Int)) b.length ?_ ?_
 ·refine ⟨0,c,(Nat.sub_zero _).symm,Nat.zero_le _,d,rfl,?_⟩;simp only[*,go_sem]
 rintro ae al F' o ⟨i11,v10,rfl,ao,d,rfl,ar⟩;obtain ⟨H,I,K⟩:=o.pick [0,4,6,9,10] (by decide);simp only[*,go_sem] at H I K;clear o t hd u k1 w;refine ah hJ ?_;simp only[*,go_sem];refine af hJ ?_;rcases Nat.lt_or_ge i11 b.length with L|p
 ·refine bJ hJ (by simp only[*,go_sem]) ?_;refine aI hJ ?_;obtain ⟨f,g⟩:∃x,b[i11]?=some x:=⟨_,List.getElem?_eq_getElem L⟩
  rw[dg g] at d;revert d;refine bS fun a0 h q=>?_;unfold j9 at h;try dsimp only at h
  obtain ⟨a2,M,N,O,e⟩:=k.el _ _ g;obtain rfl:M=f.cells:=O;cases N;have P:=e 0 _ rfl;simp only[go_sem] at P;have Q:=e 1 _ rfl;simp only[go_sem] at Q;have R:=e 2 _ rfl;simp only[go_sem] at R;have S:=e 3 _ rfl;simp only[go_sem] at S;have T:=e 4 _ rfl;simp only[go_sem] at T;have U:=e 5 _ rfl;simp only[go_sem] at U;clear e g;refine af hJ (aP hJ (af hJ ?_));refine aj hJ ?_;simp only[*,go_sem];refine ay fun a3 a4 V=>?_;try simp only[au] at V
  try simp only[*,go_sem]
  refine ah hJ ?_;revert h;refine bS fun a5 W h=>?_;simp only[*,go_sem];refine bn hJ _ (s.2 _ (fun a v h=>aW a v h) v10 f _ W) ?_;try simp only[*,go_sem]
  revert h;refine jC hJ (by simp only[*,go_sem]) (fun X h=>?_) fun X h=>?_
  ·obtain rfl:=sI h;refine aj hJ ?_;simp only[*,go_sem];have Y:=cp (n:=i11) (by have:=l;omega);refine aj hJ ?_;simp only[*,go_sem];refine ⟨b.length - (i11+1),by omega,_,Le.sub (List.Sublist.cons _ (List.Sublist.refl _)),i11+1,f,rfl,by omega,q,rfl,?_⟩;simp only[*,go_sem]
  obtain rfl:=sI h;refine aI hJ ?_;have Y:=cp (n:=i11) (by have:=l;omega);refine aj hJ ?_;simp only[*,go_sem];refine ⟨b.length - (i11+1),by omega,_,Le.sub (List.Sublist.cons _ (List.Sublist.refl _)),i11+1,v10,rfl,by omega,q,rfl,?_⟩;simp only[*,go_sem]
 have a6:=Nat.not_lt.2 p;refine bI hJ (by simp only[*,go_sem]) ?_;rw[List.drop_eq_nil_of_le p] at d;obtain rfl:=sI d;clear d;have h:=F;dsimp only[aA] at h;obtain rfl:=sI h;refine bN ?_;simp only[go_sem];refine ah hJ ?_;simp only[*,go_sem];refine az ?_;simp only[*,go_sem]
def pR (u0:(an->an->Option Bool))(i11:Nat)(a:an)(st:an):Option (Fl an an):=
 ag (u0 st a) fun b=>cond (b) (some (.nx a)) (some (.nx st))
def iu (u0:(an->an->Option Bool))(a:an)(b:(List an)):Option an:=
 ag (bE (pR u0) 0 b a) fun o=>aA o (fun c=>some c) (fun _ _=>none) (fun r=>some r)
theorem nv {ro:Addr->Option Value}(u0:(an->an->Option Bool)){dM:FuncId}{ee ef:Array Value}(s:aJ Tryz.prog dM=true/\∀(aN:Addr->Option Value),Ext ro aN->∀(i:an) (j:an) (z:Bool),u0 i j=some z->aC Tryz.prog dM (ee++#[i.v,j.v]++ef) ⟨aN,[]⟩ (fun v _=>v= .bool z))(d:an)(b:(List an)){s1:Value}(k:aB iq ro s1 b){r:an}(h:iu u0 d b=some r):aC Tryz.prog 77 #[.func (.func dM) ee ef,.agg #[.int .i64 d.num,.int .i64 d.den],s1] ⟨ro,[]⟩ (fun v _=>v=r.v):=by
 obtain ⟨d3,c4,rfl,V,l,-⟩:=id k;unfold iu at h;refine aC.go Tryz.func77 rfl Tryz.ntmps77 Tryz.results77 (by simp) fun main J hJ A t hd hs=>?_;have u:=hs 0;have k1:=hs 1;have w:=hs 2;clear hs;refine ah hJ ?_;simp only[*,go_sem];refine ay fun y W B=>?_;try simp only[au] at B
 refine ay fun C X D=>?_;try simp only[au] at D
 try simp only[*,go_sem]
 refine af hJ (ah hJ ?_);simp only[*,go_sem];refine aP hJ ?_;revert h;refine bS fun E c F=>?_;refine bR hJ [8,11,12,13,14,15,16,17,18,19,20] (fun m G F'=>∃(i11:Nat) (v10:an),m=b.length - i11/\i11<=b.length/\bE (pR u0) i11 (b.drop i11) v10=some E/\F'=⟨ro,(C,rt 0 0)::(y,rt v10.num v10.den)::[]⟩/\slot G 11= .int .i64 (i11:Int)) b.length ?_ ?_
 ·refine ⟨0,d,(Nat.sub_zero _).symm,Nat.zero_le _,c,rfl,?_⟩;simp only[*,go_sem]
 rintro Y Z F' o ⟨i11,v10,rfl,ab,c,rfl,ad⟩;obtain ⟨H,I,K⟩:=o.pick [0,4,6,9,10] (by decide);simp only[*,go_sem] at H I K;clear o t hd u k1 w;refine ah hJ ?_;simp only[*,go_sem];refine af hJ ?_;rcases Nat.lt_or_ge i11 b.length with L|p
 ·refine bJ hJ (by simp only[*,go_sem]) ?_;refine aI hJ ?_;obtain ⟨e,f⟩:∃x,b[i11]?=some x:=⟨_,List.getElem?_eq_getElem L⟩
  rw[dg f] at c;revert c;refine bS fun ae h q=>?_;unfold pR at h;try dsimp only at h
  obtain ⟨al,M,N,O,g⟩:=k.el _ _ f;obtain rfl:M=e.cells:=O;cases N;have P:=g 0 _ rfl;simp only[go_sem] at P;have Q:=g 1 _ rfl;simp only[go_sem] at Q;clear g f;refine af hJ (aP hJ (af hJ ?_));refine aj hJ ?_;simp only[*,go_sem];refine ay fun ao ar R=>?_;try simp only[au] at R
  try simp only[*,go_sem]
  refine ah hJ ?_;revert h;refine bS fun a0 S h=>?_;simp only[*,go_sem];refine bn hJ _ (s.2 _ (fun a v h=>aW a v h) v10 e _ S) ?_;try simp only[*,go_sem]
  revert h;refine jC hJ (by simp only[*,go_sem]) (fun T h=>?_) fun T h=>?_
  ·obtain rfl:=sI h;refine aj hJ ?_;simp only[*,go_sem];have U:=cp (n:=i11) (by have:=l;omega);refine aj hJ ?_;simp only[*,go_sem];refine ⟨b.length - (i11+1),by omega,_,Le.sub (List.Sublist.cons _ (List.Sublist.refl _)),i11+1,e,rfl,by omega,q,rfl,?_⟩;simp only[*,go_sem]
  obtain rfl:=sI h;refine aI hJ ?_;have U:=cp (n:=i11) (by have:=l;omega);refine aj hJ ?_;simp only[*,go_sem];refine ⟨b.length - (i11+1),by omega,_,Le.sub (List.Sublist.cons _ (List.Sublist.refl _)),i11+1,v10,rfl,by omega,q,rfl,?_⟩;simp only[*,go_sem]
 have a2:=Nat.not_lt.2 p;refine bI hJ (by simp only[*,go_sem]) ?_;rw[List.drop_eq_nil_of_le p] at c;obtain rfl:=sI c;clear c;have h:=F;dsimp only[aA] at h;obtain rfl:=sI h;refine bN ?_;simp only[go_sem];refine ah hJ ?_;simp only[*,go_sem];refine az ?_;simp only[*,go_sem]
def me (u0:bt)(a:bt):Option Bool:=
 ag (ga a u0) fun b=>some b
theorem FG {ro:Addr->Option Value}(u0:bt)(a:bt){r:Bool}(h:me u0 a=some r):aC Tryz.prog 89 #[.agg #[.int .i64 u0.spot.aM,.int .i64 u0.spot.high.num,.int .i64 u0.spot.high.den,.int .i64 u0.at_,.int .i64 u0.high.num,.int .i64 u0.high.den],.agg #[.int .i64 a.spot.aM,.int .i64 a.spot.high.num,.int .i64 a.spot.high.den,.int .i64 a.at_,.int .i64 a.high.num,.int .i64 a.high.den]] ⟨ro,[]⟩ (fun v _=>v= .bool r):=by
 unfold me at h;refine aC.go Tryz.func89 rfl Tryz.ntmps89 Tryz.results89 (by simp) fun main J hJ A c hd hs=>?_;have d:=hs 0;have k1:=hs 1;clear hs;refine ah hJ ?_;simp only[*,go_sem];refine ay fun e r1 n1=>?_;try simp only[au] at n1
 refine ay fun b2 r2 n2=>?_;try simp only[au] at n2
 try simp only[*,go_sem]
 refine ah hJ ?_;revert h;refine bS fun f b h=>?_;obtain rfl:=sI h;simp only[*,go_sem];refine bn hJ _ (rC a u0 b) (aK ?_);try simp only[*,go_sem]
 refine az ?_;simp only[*,go_sem]
def rH (u0:an)(a:an):Option Bool:=
 ag (eA a u0) fun b=>some b
theorem FH {ro:Addr->Option Value}(u0:an)(a:an){r:Bool}(h:rH u0 a=some r):aC Tryz.prog 75 #[.agg #[.int .i64 u0.num,.int .i64 u0.den],.agg #[.int .i64 a.num,.int .i64 a.den]] ⟨ro,[]⟩ (fun v _=>v= .bool r):=by
 unfold rH at h;refine aC.go Tryz.func75 rfl Tryz.ntmps75 Tryz.results75 (by simp) fun main J hJ A c hd hs=>?_;have d:=hs 0;have k1:=hs 1;clear hs;refine ah hJ ?_;simp only[*,go_sem];refine ay fun e r1 n1=>?_;try simp only[au] at n1
 refine ay fun b2 r2 n2=>?_;try simp only[au] at n2
 try simp only[*,go_sem]
 refine ah hJ ?_;revert h;refine bS fun f b h=>?_;obtain rfl:=sI h;simp only[*,go_sem];refine bn hJ _ (iZ a u0 b) (aK ?_);try simp only[*,go_sem]
 refine az ?_;simp only[*,go_sem]
def rJ (u0:ak)(i32:Nat)(a:bU)(st:Int):Option (Fl Int Int):=
 ag (nt u0 a.aX) fun b=>cond (!b) (some (.rt 6)) (some (.nx st))
def mg (u0:ak):Option Int:=
 cond (decide (3<(u0.told.length:Int))) (some 2) (ag (bE (rJ u0) 0 u0.told 0) fun o=>aA o (fun a=>some 0) (fun _ _=>none) (fun r=>some r))
theorem FI {ro:Addr->Option Value}(u0:ak){s1 c d j:Value}(e:bL ro u0 s1 c d j){r:Int}(h:mg u0=some r):aC Tryz.prog 233 #[bv u0 s1 c d j] ⟨ro,[]⟩ (fun v _=>v= .int .i64 r):=by
 obtain ⟨d24,s,rfl,R,u,-⟩:=id e.t;unfold mg at h;refine aC.go Tryz.func233 rfl Tryz.ntmps233 Tryz.results233 (by simp) fun main J hJ A w hd hs=>?_;have y:=hs 0;clear hs;refine ah hJ ?_;simp only[*,go_sem];refine ay fun z S B=>?_;try simp only[au] at B
 try simp only[*,go_sem]
 refine af hJ (ah hJ ?_);simp only[*,go_sem];revert h;refine jC hJ (by simp only[*,go_sem]) (fun C h=>?_) fun C h=>?_
 ·obtain rfl:=sI h;refine ah hJ ?_;simp only[*,go_sem];refine az ?_;simp only[*,go_sem]
 refine aI hJ (af hJ ?_);refine ah hJ ?_;simp only[*,go_sem];refine aP hJ ?_;revert h;refine bS fun D a k=>?_;refine bR hJ [2,4,14,15,16,17,18,19,20,21,22,23] (fun m l F'=>∃(i32:Nat) (b:Int),m=u0.told.length - i32/\i32<=u0.told.length/\bE (rJ u0) i32 (u0.told.drop i32) b=some D/\F'=⟨ro,(z,bl u0 s1 c d (sl d24 u0.told s))::[]⟩/\slot l 14= .int .i64 (i32:Int)/\slot l 2= .int .i64 b) u0.told.length ?_ ?_
 ·refine ⟨0,0,(Nat.sub_zero _).symm,Nat.zero_le _,a,rfl,?_⟩;simp only[*,go_sem]
 rintro T U F' o ⟨i32,b,rfl,V,a,rfl,W,X⟩;obtain ⟨E,F,G⟩:=o.pick [1,12,13] (by decide);simp only[*,go_sem] at E F G;clear o w hd y;refine ah hJ ?_;simp only[*,go_sem];refine af hJ ?_;rcases Nat.lt_or_ge i32 u0.told.length with H|p
 ·refine bJ hJ (by simp only[*,go_sem]) ?_;refine aI hJ ?_;obtain ⟨q,f⟩:∃x,u0.told[i32]?=some x:=⟨_,List.getElem?_eq_getElem H⟩
  rw[dg f] at a;revert a;refine bS fun Y h g=>?_;unfold rJ at h;try dsimp only at h
  obtain ⟨Z,I,K,L,i⟩:=e.t.el _ _ f;obtain rfl:I=q.cells:=L;cases K;have M:=i 0 _ rfl;simp only[go_sem] at M;have N:=i 1 _ rfl;simp only[go_sem] at N;clear i f;refine af hJ (aP hJ (af hJ ?_));refine aj hJ ?_;simp only[*,go_sem];refine ay fun ab ad O=>?_;try simp only[au] at O
  try simp only[*,go_sem]
  refine ah hJ ?_;revert h;refine bS fun ae P h=>?_;simp only[*,go_sem];refine bn hJ _ (Aq u0 (e.mono aW) q.aX P) (aK ?_);try simp only[*,go_sem]
  revert h;refine jC hJ (by simp only[*,go_sem]) (fun Q h=>?_) fun Q h=>?_
  ·obtain rfl:=sI h;refine ah hJ ?_;simp only[*,go_sem];obtain rfl:=sI g;clear g;have h:=k;dsimp only[aA] at h;obtain rfl:=sI h;refine az ?_;simp only[*,go_sem]
  obtain rfl:=sI h;refine aI hJ ?_;have al:=cp (n:=i32) (by have:=u;omega);refine aj hJ ?_;simp only[*,go_sem];refine ⟨u0.told.length - (i32+1),by omega,_,Le.sub (List.Sublist.cons _ (List.Sublist.refl _)),i32+1,b,rfl,by omega,g,rfl,?_⟩;simp only[*,go_sem]
 have ao:=Nat.not_lt.2 p;refine bI hJ (by simp only[*,go_sem]) ?_;rw[List.drop_eq_nil_of_le p] at a;obtain rfl:=sI a;clear a;have h:=k;dsimp only[aA] at h;obtain rfl:=sI h;refine bN ?_;simp only[go_sem];refine ah hJ ?_;simp only[*,go_sem];refine az ?_;simp only[*,go_sem]
def rK (i34:Nat)(a:b6)(st:Int):Option (Fl Int Int):=
 ag (fI a.back 1 20) fun b=>cond (!b) (some (.rt 1)) (ag (pM a.high 0 60) fun c=>cond (!c) (some (.rt 1)) (cond (decide (3<=(IntKind.i64.wrap (a.high.high - a.high.low)))) (some (.rt 1)) (some (.nx st))))
def mh (u0:ak):Option Int:=
 ag (fI (u0.aH.length:Int) 1 3) fun a=>cond (!a) (some 2) (ag (bE (rK) 0 u0.aH 0) fun o=>aA o (fun b=>some 0) (fun _ _=>none) (fun r=>some r))
theorem FJ {ro:Addr->Option Value}(u0:ak){s1 f k g:Value}(l:bL ro u0 s1 f k g){r:Int}(h:mh u0=some r):aC Tryz.prog 232 #[bv u0 s1 f k g] ⟨ro,[]⟩ (fun v _=>v= .int .i64 r):=by
 obtain ⟨d17,s,rfl,W,t,-⟩:=id l.y;unfold mh at h;refine aC.go Tryz.func232 rfl Tryz.ntmps232 Tryz.results232 (by simp) fun main J hJ A u hd hs=>?_;have w:=hs 0;clear hs;refine ah hJ ?_;simp only[*,go_sem];refine ay fun z X B=>?_;try simp only[au] at B
 try simp only[*,go_sem]
 refine af hJ (ah hJ ?_);revert h;refine bS fun Y C h=>?_;simp only[*,go_sem];refine bn hJ _ (gx (u0.aH.length:Int) 1 3 C) (aK ?_);try simp only[*,go_sem]
 revert h;refine jC hJ (by simp only[*,go_sem]) (fun D h=>?_) fun D h=>?_
 ·obtain rfl:=sI h;refine ah hJ ?_;simp only[*,go_sem];refine az ?_;simp only[*,go_sem]
 refine aI hJ (af hJ ?_);refine ah hJ ?_;simp only[*,go_sem];refine aP hJ ?_;revert h;refine bS fun E a c=>?_;refine bR hJ [2,4,15,16,17,18,19,20,21,22,23,24,25,26,27,28,29,30,31,32,33,34,35,36,37,38,39] (fun m o F'=>∃(i34:Nat) (d:Int),m=u0.aH.length - i34/\i34<=u0.aH.length/\bE (rK) i34 (u0.aH.drop i34) d=some E/\F'=⟨ro,(z,bl u0 s1 f (sl d17 u0.aH s) g)::[]⟩/\slot o 15= .int .i64 (i34:Int)/\slot o 2= .int .i64 d) u0.aH.length ?_ ?_
 ·refine ⟨0,0,(Nat.sub_zero _).symm,Nat.zero_le _,a,rfl,?_⟩;simp only[*,go_sem]
 rintro Z ab F' p ⟨i34,d,rfl,ad,a,rfl,ae,al⟩;obtain ⟨F,G,H⟩:=p.pick [13,14] (by decide);simp only[*,go_sem] at F G H;clear p u hd w;refine ah hJ ?_;simp only[*,go_sem];refine af hJ ?_;rcases Nat.lt_or_ge i34 u0.aH.length with I|q
 ·refine bJ hJ (by simp only[*,go_sem]) ?_;refine aI hJ ?_;obtain ⟨i,j⟩:∃x,u0.aH[i34]?=some x:=⟨_,List.getElem?_eq_getElem I⟩
  rw[dg j] at a;revert a;refine bS fun ao h b=>?_;unfold rK at h;try dsimp only at h
  obtain ⟨ar,K,L,M,e⟩:=l.y.el _ _ j;obtain rfl:K=i.cells:=M;cases L;have N:=e 0 _ rfl;simp only[go_sem] at N;have O:=e 1 _ rfl;simp only[go_sem] at O;have P:=e 2 _ rfl;simp only[go_sem] at P;clear e j;refine af hJ (aP hJ (af hJ ?_));refine aj hJ ?_;simp only[*,go_sem];refine ay fun a0 a2 Q=>?_;try simp only[au] at Q
  try simp only[*,go_sem]
  refine ah hJ ?_;revert h;refine bS fun a3 R h=>?_;simp only[*,go_sem];refine bn hJ _ (gx i.back 1 20 R) (aK ?_);revert h;refine cS (fun S h=>?_) fun S h=>?_
  ·obtain rfl:=sI h;(try simp only[*,go_sem]);refine bJ hJ (by simp only[*,go_sem]) ?_;refine ah hJ ?_;simp only[*,go_sem];obtain rfl:=sI b;clear b;have h:=c;dsimp only[aA] at h;obtain rfl:=sI h;refine az ?_;simp only[*,go_sem]
  revert h;refine bS fun a4 T h=>?_;try simp only[*,go_sem]
  refine bn hJ _ (Ap i.high 0 60 T) (aK ?_);revert h;refine cS (fun U h=>?_) fun U h=>?_
  ·obtain rfl:=sI h;(try simp only[*,go_sem]);refine bJ hJ (by simp only[*,go_sem]) ?_;refine ah hJ ?_;simp only[*,go_sem];obtain rfl:=sI b;clear b;have h:=c;dsimp only[aA] at h;obtain rfl:=sI h;refine az ?_;simp only[*,go_sem]
  try simp only[*,go_sem]
  revert h;refine jC hJ (by simp only[*,go_sem]) (fun V h=>?_) fun V h=>?_
  ·obtain rfl:=sI h;refine ah hJ ?_;simp only[*,go_sem];obtain rfl:=sI b;clear b;have h:=c;dsimp only[aA] at h;obtain rfl:=sI h;refine az ?_;simp only[*,go_sem]
  obtain rfl:=sI h;refine aI hJ ?_;have a5:=cp (n:=i34) (by have:=t;omega);refine aj hJ ?_;simp only[*,go_sem];refine ⟨u0.aH.length - (i34+1),by omega,_,Le.sub (List.Sublist.cons _ (List.Sublist.refl _)),i34+1,d,rfl,by omega,b,rfl,?_⟩;simp only[*,go_sem]
 have a6:=Nat.not_lt.2 q;refine bI hJ (by simp only[*,go_sem]) ?_;rw[List.drop_eq_nil_of_le q] at a;obtain rfl:=sI a;clear a;have h:=c;dsimp only[aA] at h;obtain rfl:=sI h;refine bN ?_;simp only[go_sem];refine ah hJ ?_;simp only[*,go_sem];refine az ?_;simp only[*,go_sem]
def rM (u0:ak)(i32:Nat)(a:cm)(st:Int):Option (Fl Int Int):=
 ag (gb u0 a.place) fun c=>cond (!c) (some (.rt 6)) (ag (gR a.dF u0) fun b=>cond ((b != 0)) (some (.rt b)) (some (.nx st)))
def mj (u0:ak):Option Int:=
 cond (decide (3<(u0.props.length:Int))) (some 2) (ag (bE (rM u0) 0 u0.props 0) fun o=>aA o (fun a=>some 0) (fun _ _=>none) (fun r=>some r))
theorem FK {ro:Addr->Option Value}(u0:ak){s1 l e f:Value}(c:bL ro u0 s1 l e f){r:Int}(h:mj u0=some r):aC Tryz.prog 231 #[bv u0 s1 l e f] ⟨ro,[]⟩ (fun v _=>v= .int .i64 r):=by
 obtain ⟨d10,t,rfl,T,u,-⟩:=id c.p;unfold mj at h;refine aC.go Tryz.func231 rfl Tryz.ntmps231 Tryz.results231 (by simp) fun main J hJ A w hd hs=>?_;have y:=hs 0;clear hs;refine ah hJ ?_;simp only[*,go_sem];refine ay fun z U B=>?_;try simp only[au] at B
 try simp only[*,go_sem]
 refine af hJ (ah hJ ?_);simp only[*,go_sem];revert h;refine jC hJ (by simp only[*,go_sem]) (fun C h=>?_) fun C h=>?_
 ·obtain rfl:=sI h;refine ah hJ ?_;simp only[*,go_sem];refine az ?_;simp only[*,go_sem]
 refine aI hJ (af hJ ?_);refine ah hJ ?_;simp only[*,go_sem];refine aP hJ ?_;revert h;refine bS fun D a g=>?_;refine bR hJ [2,4,5,15,16,17,18,19,20,21,22,23,24,25,26,27,28,29,30,31] (fun m o F'=>∃(i32:Nat) (d:Int),m=u0.props.length - i32/\i32<=u0.props.length/\bE (rM u0) i32 (u0.props.drop i32) d=some D/\F'=⟨ro,(z,bl u0 s1 (sl d10 u0.props t) e f)::[]⟩/\slot o 15= .int .i64 (i32:Int)/\slot o 2= .int .i64 d) u0.props.length ?_ ?_
 ·refine ⟨0,0,(Nat.sub_zero _).symm,Nat.zero_le _,a,rfl,?_⟩;simp only[*,go_sem]
 rintro V W F' q ⟨i32,d,rfl,X,a,rfl,Y,Z⟩;obtain ⟨E,F,G⟩:=q.pick [1,13,14] (by decide);simp only[*,go_sem] at E F G;clear q w hd y;refine ah hJ ?_;simp only[*,go_sem];refine af hJ ?_;rcases Nat.lt_or_ge i32 u0.props.length with H|s
 ·refine bJ hJ (by simp only[*,go_sem]) ?_;refine aI hJ ?_;obtain ⟨i,j⟩:∃x,u0.props[i32]?=some x:=⟨_,List.getElem?_eq_getElem H⟩
  rw[dg j] at a;revert a;refine bS fun ab h b=>?_;unfold rM at h;try dsimp only at h
  obtain ⟨ad,I,K,L,k⟩:=c.p.el _ _ j;obtain rfl:I=i.cells:=L;cases K;have M:=k 0 _ rfl;simp only[go_sem] at M;have N:=k 1 _ rfl;simp only[go_sem] at N;clear k j;refine af hJ (aP hJ (af hJ ?_));refine aj hJ ?_;simp only[*,go_sem];refine ay fun ae al O=>?_;try simp only[au] at O
  try simp only[*,go_sem]
  refine af hJ (ah hJ ?_);revert h;refine bS fun ao P h=>?_;simp only[*,go_sem];refine bn hJ _ (rE u0 (c.mono aW) i.place P) (aK ?_);try simp only[*,go_sem]
  revert h;refine jC hJ (by simp only[*,go_sem]) (fun Q h=>?_) fun Q h=>?_
  ·obtain rfl:=sI h;refine ah hJ ?_;simp only[*,go_sem];obtain rfl:=sI b;clear b;have h:=g;dsimp only[aA] at h;obtain rfl:=sI h;refine az ?_;simp only[*,go_sem]
  refine aI hJ (af hJ ?_);refine aj hJ ?_;revert h;refine bS fun ar R h=>?_;simp only[*,go_sem];refine bn hJ _ (vn i.dF u0 (c.mono aW) R) (aK ?_);try simp only[*,go_sem]
  refine ah hJ ?_;simp only[*,go_sem];revert h;refine jC hJ (by simp only[*,go_sem]) (fun S h=>?_) fun S h=>?_
  ·obtain rfl:=sI h;refine ah hJ ?_;simp only[*,go_sem];obtain rfl:=sI b;clear b;have h:=g;dsimp only[aA] at h;obtain rfl:=sI h;refine az ?_;simp only[*,go_sem]
  obtain rfl:=sI h;refine aI hJ ?_;have a0:=cp (n:=i32) (by have:=u;omega);refine aj hJ ?_;simp only[*,go_sem];refine ⟨u0.props.length - (i32+1),by omega,_,Le.sub (List.Sublist.cons _ (List.Sublist.refl _)),i32+1,d,rfl,by omega,b,rfl,?_⟩;simp only[*,go_sem]
 have a2:=Nat.not_lt.2 s;refine bI hJ (by simp only[*,go_sem]) ?_;rw[List.drop_eq_nil_of_le s] at a;obtain rfl:=sI a;clear a;have h:=g;dsimp only[aA] at h;obtain rfl:=sI h;refine bN ?_;simp only[go_sem];refine ah hJ ?_;simp only[*,go_sem];refine az ?_;simp only[*,go_sem]
def rN (u0:ak)(i34:Nat)(a:b8)(st:Int):Option (Fl Int Int):=
 ag (fI a.aM 0 (IntKind.i64.wrap (u0.bH - 1))) fun b=>cond (!b) (some (.rt 1)) (ag (fI a.high 0 60) fun c=>cond (!c) (some (.rt 1)) (cond (decide (0<(i34:Int))) (ag (bh u0.aD (IntKind.i64.wrap ((i34:Int) - 1))) fun d=>cond (decide (a.aM<=d.aM)) (some (.rt 7)) (some (.nx st))) (some (.nx st))))
def kY (u0:ak):Option Int:=
 ag (fI (u0.aD.length:Int) 2 5) fun a=>cond (!a) (some 2) (ag (bE (rN u0) 0 u0.aD 0) fun o=>aA o (fun b=>some 0) (fun _ _=>none) (fun r=>some r))
theorem FL {ro:Addr->Option Value}(u0:ak){s1 f g i:Value}(j:bL ro u0 s1 f g i){r:Int}(h:kY u0=some r):aC Tryz.prog 230 #[bv u0 s1 f g i] ⟨ro,[]⟩ (fun v _=>v= .int .i64 r):=by
 obtain ⟨d3,c4,rfl,ar,q,-⟩:=id j.e;unfold kY at h;refine aC.go Tryz.func230 rfl Tryz.ntmps230 Tryz.results230 (by simp) fun main J hJ A y hd hs=>?_;have z:=hs 0;clear hs;refine ah hJ ?_;simp only[*,go_sem];refine ay fun B a0 C=>?_;try simp only[au] at C
 try simp only[*,go_sem]
 refine af hJ (ah hJ ?_);revert h;refine bS fun a2 D h=>?_;simp only[*,go_sem];refine bn hJ _ (gx (u0.aD.length:Int) 2 5 D) (aK ?_);try simp only[*,go_sem]
 revert h;refine jC hJ (by simp only[*,go_sem]) (fun E h=>?_) fun E h=>?_
 ·obtain rfl:=sI h;refine ah hJ ?_;simp only[*,go_sem];refine az ?_;simp only[*,go_sem]
 refine aI hJ (af hJ ?_);refine ah hJ ?_;simp only[*,go_sem];refine aP hJ ?_;revert h;refine bS fun F b d=>?_;refine bR hJ [2,3,4,15,16,17,18,19,20,21,22,23,24,25,26,27,28,29,30,31,32,33,34,35,36,37,38,39,40,41,42,43,44,45,46,47,48,49] (fun m s F'=>∃(i34:Nat) (c:Int),m=u0.aD.length - i34/\i34<=u0.aD.length/\bE (rN u0) i34 (u0.aD.drop i34) c=some F/\F'=⟨ro,(B,bl u0 (sl d3 u0.aD c4) f g i)::[]⟩/\slot s 15= .int .i64 (i34:Int)/\slot s 2= .int .i64 c) u0.aD.length ?_ ?_
 ·refine ⟨0,0,(Nat.sub_zero _).symm,Nat.zero_le _,b,rfl,?_⟩;simp only[*,go_sem]
 rintro a3 a4 F' t ⟨i34,c,rfl,a5,b,rfl,a6,a7⟩;obtain ⟨G,H,I⟩:=t.pick [1,13,14] (by decide);simp only[*,go_sem] at G H I;clear t y hd z;refine ah hJ ?_;simp only[*,go_sem];refine af hJ ?_;rcases Nat.lt_or_ge i34 u0.aD.length with K|u
 ·refine bJ hJ (by simp only[*,go_sem]) ?_;refine aI hJ ?_;obtain ⟨k,l⟩:∃x,u0.aD[i34]?=some x:=⟨_,List.getElem?_eq_getElem K⟩
  rw[dg l] at b;revert b;refine bS fun a8 h a=>?_;unfold rN at h;try dsimp only at h
  obtain ⟨a9,L,M,N,o⟩:=j.e.el _ _ l;obtain rfl:L=k.cells:=N;cases M;have O:=o 0 _ rfl;simp only[go_sem] at O;have P:=o 1 _ rfl;simp only[go_sem] at P;clear o l;refine af hJ (aP hJ (af hJ ?_));refine aj hJ ?_;simp only[*,go_sem];refine ay fun ba bb Q=>?_;try simp only[au] at Q
  try simp only[*,go_sem]
  refine aP hJ (af hJ ?_);refine ah hJ ?_;revert h;refine bS fun bc R h=>?_;simp only[*,go_sem];refine bn hJ _ (gx k.aM 0 (IntKind.i64.wrap (u0.bH - 1)) R) (aK ?_);try simp only[*,go_sem]
  revert h;refine jC hJ (by simp only[*,go_sem]) (fun S h=>?_) fun S h=>?_
  ·obtain rfl:=sI h;refine aI hJ ?_;refine bJ hJ (by simp only[*,go_sem]) ?_;refine ah hJ ?_;simp only[*,go_sem];obtain rfl:=sI a;clear a;have h:=d;dsimp only[aA] at h;obtain rfl:=sI h;refine az ?_;simp only[*,go_sem]
  refine aj hJ ?_;revert h;refine bS fun bd T h=>?_;simp only[*,go_sem];refine bn hJ _ (gx k.high 0 60 T) (aK ?_);try simp only[*,go_sem]
  revert h;refine jC hJ (by simp only[*,go_sem]) (fun U h=>?_) fun U h=>?_
  ·obtain rfl:=sI h;refine ah hJ ?_;simp only[*,go_sem];obtain rfl:=sI a;clear a;have h:=d;dsimp only[aA] at h;obtain rfl:=sI h;refine az ?_;simp only[*,go_sem]
  refine af hJ ?_;refine cL hJ mixed 16 2 (by simp only[*,go_sem]) (by kernel_rfl) ?_;revert h;refine cS (fun V h=>?_) fun V h=>?_
  ·revert h;refine bS fun W X h=>?_;obtain ⟨bj,bk,w⟩:=cK X;obtain ⟨bm,Y,Z,ab,p⟩:=j.e.el _ _ w;obtain rfl:Y=W.cells:=ab;cases Z;have ad:=p 0 _ rfl;simp only[go_sem] at ad;have ae:=p 1 _ rfl;simp only[go_sem] at ae;clear p w;(try simp only[*,go_sem]);revert h;refine jC hJ (by simp only[*,go_sem]) (fun al h=>?_) fun al h=>?_
   ·obtain rfl:=sI h;refine ah hJ ?_;simp only[*,go_sem];obtain rfl:=sI a;clear a;have h:=d;dsimp only[aA] at h;obtain rfl:=sI h;refine az ?_;simp only[*,go_sem]
   obtain rfl:=sI h;refine aI hJ ?_;have ao:=cp (n:=i34) (by have:=q;omega);refine aj hJ ?_;simp only[*,go_sem];refine ⟨u0.aD.length - (i34+1),by omega,_,Le.sub (List.Sublist.cons _ (List.Sublist.refl _)),i34+1,c,rfl,by omega,a,rfl,?_⟩;simp only[*,go_sem]
  obtain rfl:=sI h;try simp only[*,go_sem]
  refine bI hJ (by simp only[*,go_sem]) ?_;refine aI hJ ?_;have ao:=cp (n:=i34) (by have:=q;omega);refine aj hJ ?_;simp only[*,go_sem];refine ⟨u0.aD.length - (i34+1),by omega,_,Le.sub (List.Sublist.cons _ (List.Sublist.refl _)),i34+1,c,rfl,by omega,a,rfl,?_⟩;simp only[*,go_sem]
 have bo:=Nat.not_lt.2 u;refine bI hJ (by simp only[*,go_sem]) ?_;rw[List.drop_eq_nil_of_le u] at b;obtain rfl:=sI b;clear b;have h:=d;dsimp only[aA] at h;obtain rfl:=sI h;refine bN ?_;simp only[go_sem];refine ah hJ ?_;simp only[*,go_sem];refine az ?_;simp only[*,go_sem]
def ny (u0:ak):Option Int:=
 ag (fI u0.bH 2 60) fun b=>cond (!b) (some 1) (ag (fI u0.bV 0 60) fun c=>cond (!c) (some 1) (ag (fI u0.aF.den 1 20) fun d=>cond (!d) (some 1) (ag (fI u0.aF.num 0 20) fun e=>cond (!e) (some 1) (ag (j7 u0.aF.num u0.aF.den) fun a=>cond (!((a.num==u0.aF.num)&&(a.den==u0.aF.den))) (some 3) (some 0)))))
theorem FM {ro:Addr->Option Value}(u0:ak){s1 a b c:Value}(z:bL ro u0 s1 a b c){r:Int}(h:ny u0=some r):aC Tryz.prog 229 #[bv u0 s1 a b c] ⟨ro,[]⟩ (fun v _=>v= .int .i64 r):=by
 unfold ny at h;refine aC.go Tryz.func229 rfl Tryz.ntmps229 Tryz.results229 (by simp) fun main J hJ A d hd hs=>?_;have e:=hs 0;clear hs;refine ah hJ ?_;simp only[*,go_sem];refine ay fun B C f=>?_;try simp only[au] at f
 try simp only[*,go_sem]
 refine af hJ (aP hJ (af hJ ?_));refine ah hJ ?_;revert h;refine bS fun D g h=>?_;simp only[*,go_sem];refine bn hJ _ (gx u0.bH 2 60 g) (aK ?_);try simp only[*,go_sem]
 revert h;refine jC hJ (by simp only[*,go_sem]) (fun i h=>?_) fun i h=>?_
 ·obtain rfl:=sI h;refine aI hJ ?_;refine bJ hJ (by simp only[*,go_sem]) ?_;refine ah hJ ?_;simp only[*,go_sem];refine az ?_;simp only[*,go_sem]
 refine ah hJ ?_;revert h;refine bS fun E j h=>?_;simp only[*,go_sem];refine bn hJ _ (gx u0.bV 0 60 j) (aK ?_);try simp only[*,go_sem]
 revert h;refine jC hJ (by simp only[*,go_sem]) (fun k h=>?_) fun k h=>?_
 ·obtain rfl:=sI h;refine aI hJ ?_;refine bJ hJ (by simp only[*,go_sem]) ?_;refine ah hJ ?_;simp only[*,go_sem];refine az ?_;simp only[*,go_sem]
 refine ah hJ ?_;revert h;refine bS fun G l h=>?_;simp only[*,go_sem];refine bn hJ _ (gx u0.aF.den 1 20 l) (aK ?_);try simp only[*,go_sem]
 revert h;refine jC hJ (by simp only[*,go_sem]) (fun m h=>?_) fun m h=>?_
 ·obtain rfl:=sI h;refine aI hJ ?_;refine bJ hJ (by simp only[*,go_sem]) ?_;refine ah hJ ?_;simp only[*,go_sem];refine az ?_;simp only[*,go_sem]
 refine aj hJ ?_;revert h;refine bS fun H n h=>?_;simp only[*,go_sem];refine bn hJ _ (gx u0.aF.num 0 20 n) (aK ?_);try simp only[*,go_sem]
 revert h;refine jC hJ (by simp only[*,go_sem]) (fun o h=>?_) fun o h=>?_
 ·obtain rfl:=sI h;refine ah hJ ?_;simp only[*,go_sem];refine az ?_;simp only[*,go_sem]
 refine af hJ ?_;refine cL hJ mixed 14 1 (by simp only[*,go_sem]) (by kernel_rfl) ?_;revert h;refine bS fun I p h=>?_;simp only[*,go_sem];refine ⟨_,bx hJ fun F K=>pO u0.aF.num u0.aF.den p,bP ?_⟩;try simp only[*,go_sem]
 revert h;refine jC hJ (by simp only[*,go_sem]) (fun q h=>?_) fun q h=>?_
 ·obtain rfl:=sI h;refine af hJ ?_;refine fP [2] fun L s t u=>?_;simp only[*,go_sem] at s t u;clear d hd e;refine aj hJ ?_;simp only[*,go_sem];refine az ?_;simp only[*,go_sem]
 obtain rfl:=sI h;refine aI hJ (af hJ ?_);refine fP [2] fun M w x y=>?_;simp only[*,go_sem] at w x y;clear d hd e;refine aj hJ ?_;simp only[*,go_sem];refine az ?_;simp only[*,go_sem]
def dc (ro:Addr->Option Value):Prop:=
 ro ⟨0,0,none⟩=some (.func (.func 229) #[] #[])/\ro ⟨0,1,none⟩=some (.func (.func 230) #[] #[])/\ro ⟨0,2,none⟩=some (.func (.func 231) #[] #[])/\ro ⟨0,3,none⟩=some (.func (.func 232) #[] #[])/\ro ⟨0,4,none⟩=some (.func (.func 233) #[] #[])
theorem dc.mono {ro aN:Addr->Option Value}(h:dc ro)(a:Ext ro aN):dc aN:=
 ⟨a _ _ h.1,a _ _ h.2.1,a _ _ h.2.2.1,a _ _ h.2.2.2.1,a _ _ h.2.2.2.2⟩
def pS (_:ak):Option Int:=some 0
def nB (b:ak):Option Int:=ag (mg b) fun x=>cond (x != 0) (some x) (pS b)
def nC (b:ak):Option Int:=ag (mh b) fun x=>cond (x != 0) (some x) (nB b)
def nD (b:ak):Option Int:=ag (mj b) fun x=>cond (x != 0) (some x) (nC b)
def nE (b:ak):Option Int:=ag (kY b) fun x=>cond (x != 0) (some x) (nD b)
def kg (b:ak):Option Int:=ag (ny b) fun x=>cond (x != 0) (some x) (nE b)
def e8 (b:ak):Option Int:=kg b
def rO:Nat->ak->Option Int
 |0=>kg|1=>nE|2=>nD|3=>nC|4=>nB|_=>pS
theorem As {ro:Addr->Option Value}(o:dc ro)(u0:ak){s1:Value}(e:aB eY ro s1 u0.aD){s2:Value}(f:aB ez ro s2 u0.props){g:Value}(j:aB eT ro g u0.aH){k:Value}(l:aB di ro k u0.told){r:Int}(h:e8 u0=some r):
  aC Tryz.prog 92 #[.agg #[.int .i64 u0.bH,.int .i64 u0.bV,.int .i64 u0.aF.num,.int .i64 u0.aF.den,s1,s2,g,k]] ⟨ro,[]⟩ (fun v _=>v= .int .i64 r):=by
 obtain ⟨s,t,u,w,y⟩:=o
 replace h:rO 0 u0=some r:=h
 refine aC.go Tryz.func92 rfl Tryz.ntmps92 Tryz.results92 (by simp) fun main J hJ A p hd hs=>?_
 have z:=hs 0
 clear hs
 first|refine aj hJ ?_|refine ah hJ ?_|refine af hJ (ah hJ ?_)|refine af hJ (af hJ (ah hJ ?_))
 simp only[*,go_sem]
 intro d f1;have r1:=eE f1;have n1:=fC f1;simp only[au] at n1
 first|refine aj hJ ?_|refine ah hJ ?_|refine af hJ (ah hJ ?_)|refine af hJ (af hJ (ah hJ ?_))
 simp only[*,go_sem]
 first|refine aP hJ (uM hJ (fun m a F=>∃i:Nat,F=⟨ro,[(d,.cells #[.int .i64 u0.bH,.int .i64 u0.bV,.int .i64 u0.aF.num,.int .i64 u0.aF.den,s1,s2,g,k] 29)]⟩/\m=5 - i/\sz a=18/\a.defers=[]/\slot a 1= .pointer (some ⟨d,0,none⟩)/\slot a 6= .agg #[.func (.func 229) #[] #[],.func (.func 230) #[] #[],.func (.func 231) #[] #[],.func (.func 232) #[] #[],.func (.func 233) #[] #[]]/\slot a 7= .int .i64 i/\i<=5/\rO i u0=some r) (5) ?_ ?_)|refine af hJ (aP hJ (uM hJ (fun m a F=>∃i:Nat,F=⟨ro,[(d,.cells #[.int .i64 u0.bH,.int .i64 u0.bV,.int .i64 u0.aF.num,.int .i64 u0.aF.den,s1,s2,g,k] 29)]⟩/\m=5 - i/\sz a=18/\a.defers=[]/\slot a 1= .pointer (some ⟨d,0,none⟩)/\slot a 6= .agg #[.func (.func 229) #[] #[],.func (.func 230) #[] #[],.func (.func 231) #[] #[],.func (.func 232) #[] #[],.func (.func 233) #[] #[]]/\slot a 7= .int .i64 i/\i<=5/\rO i u0=some r) (5) ?_ ?_))|refine af hJ (af hJ (aP hJ (uM hJ (fun m a F=>∃i:Nat,F=⟨ro,[(d,.cells #[.int .i64 u0.bH,.int .i64 u0.bV,.int .i64 u0.aF.num,.int .i64 u0.aF.den,s1,s2,g,k] 29)]⟩/\m=5 - i/\sz a=18/\a.defers=[]/\slot a 1= .pointer (some ⟨d,0,none⟩)/\slot a 6= .agg #[.func (.func 229) #[] #[],.func (.func 230) #[] #[],.func (.func 231) #[] #[],.func (.func 232) #[] #[],.func (.func 233) #[] #[]]/\slot a 7= .int .i64 i/\i<=5/\rO i u0=some r) (5) ?_ ?_)))
 ·refine ⟨0,rfl,rfl,?_⟩
  simp only[*,go_sem,-h]
  exact ⟨Nat.zero_le _,h⟩
 ·clear h
  rintro m a F ⟨i,rfl,rfl,p,hd,B,C,D,hi,h⟩
  rcases i with _|_|_|_|_|i
  ·replace h:ag (ny u0) (fun x=>cond (x != 0) (some x) (nE u0))=some r:=h
   have b:=fL h;clear h;obtain ⟨x,q,h⟩:=b
   have n:((0:Nat):Int)=0:=rfl
   first|refine aj hJ ?_|refine ah hJ ?_|refine af hJ (ah hJ ?_)|refine af hJ (af hJ (ah hJ ?_))
   simp only[*,go_sem,-h]
   refine af hJ ?_
   refine bJ hJ (by simp only[*,go_sem,-h]) ?_
   refine aI hJ ?_
   refine af hJ (aP hJ ?_)
   first|refine aj hJ ?_|refine ah hJ ?_|refine af hJ (ah hJ ?_)|refine af hJ (af hJ (ah hJ ?_))
   simp only[*,go_sem,-h]
   first|refine aj hJ ?_|refine ah hJ ?_|refine af hJ (ah hJ ?_)|refine af hJ (af hJ (ah hJ ?_))
   simp only[*,go_sem,-h]
   refine bn hJ _ (FM u0 ⟨(e.mono aW),(f.mono aW),(j.mono aW),(l.mono aW)⟩ q) (aK ?_)
   simp only[*,go_sem,-h]
   first|refine aj hJ ?_|refine ah hJ ?_|refine af hJ (ah hJ ?_)|refine af hJ (af hJ (ah hJ ?_))
   simp only[*,go_sem,-h]
   have b:=iV h;clear h;rcases b with ⟨c,h⟩|⟨c,h⟩
   ·refine bJ hJ (by simp only[*,go_sem,-h]) ?_
    first|refine aj hJ ?_|refine ah hJ ?_|refine af hJ (ah hJ ?_)|refine af hJ (af hJ (ah hJ ?_))
    simp only[*,go_sem,-h]
    have b:=Option.some.inj h;clear h;subst b
    refine az ?_
    simp only[*,go_sem]
   ·refine bI hJ (by simp only[*,go_sem,-h]) ?_
    refine aI hJ ?_
    refine aj hJ ?_
    simp only[*,go_sem,-h]
    refine ⟨5 - 1,by omega,_,Le.refl _,1,rfl,rfl,?_⟩
    have hw:IntKind.i64.wrap (0+1)=((1:Nat):Int):=by decide
    simp only[*,go_sem,-h]
    exact ⟨by omega,h⟩
  ·replace h:ag (kY u0) (fun x=>cond (x != 0) (some x) (nD u0))=some r:=h
   have b:=fL h;clear h;obtain ⟨x,q,h⟩:=b
   have n:((0+1:Nat):Int)=1:=rfl
   first|refine aj hJ ?_|refine ah hJ ?_|refine af hJ (ah hJ ?_)|refine af hJ (af hJ (ah hJ ?_))
   simp only[*,go_sem,-h]
   refine af hJ ?_
   refine bJ hJ (by simp only[*,go_sem,-h]) ?_
   refine aI hJ ?_
   refine af hJ (aP hJ ?_)
   first|refine aj hJ ?_|refine ah hJ ?_|refine af hJ (ah hJ ?_)|refine af hJ (af hJ (ah hJ ?_))
   simp only[*,go_sem,-h]
   first|refine aj hJ ?_|refine ah hJ ?_|refine af hJ (ah hJ ?_)|refine af hJ (af hJ (ah hJ ?_))
   simp only[*,go_sem,-h]
   refine bn hJ _ (FL u0 ⟨(e.mono aW),(f.mono aW),(j.mono aW),(l.mono aW)⟩ q) (aK ?_)
   simp only[*,go_sem,-h]
   first|refine aj hJ ?_|refine ah hJ ?_|refine af hJ (ah hJ ?_)|refine af hJ (af hJ (ah hJ ?_))
   simp only[*,go_sem,-h]
   have b:=iV h;clear h;rcases b with ⟨c,h⟩|⟨c,h⟩
   ·refine bJ hJ (by simp only[*,go_sem,-h]) ?_
    first|refine aj hJ ?_|refine ah hJ ?_|refine af hJ (ah hJ ?_)|refine af hJ (af hJ (ah hJ ?_))
    simp only[*,go_sem,-h]
    have b:=Option.some.inj h;clear h;subst b
    refine az ?_
    simp only[*,go_sem]
   ·refine bI hJ (by simp only[*,go_sem,-h]) ?_
    refine aI hJ ?_
    refine aj hJ ?_
    simp only[*,go_sem,-h]
    refine ⟨5 - 2,by omega,_,Le.refl _,2,rfl,rfl,?_⟩
    have hw:IntKind.i64.wrap (1+1)=((2:Nat):Int):=by decide
    simp only[*,go_sem,-h]
    exact ⟨by omega,h⟩
  ·replace h:ag (mj u0) (fun x=>cond (x != 0) (some x) (nC u0))=some r:=h
   have b:=fL h;clear h;obtain ⟨x,q,h⟩:=b
   have n:((0+1+1:Nat):Int)=2:=rfl
   first|refine aj hJ ?_|refine ah hJ ?_|refine af hJ (ah hJ ?_)|refine af hJ (af hJ (ah hJ ?_))
   simp only[*,go_sem,-h]
   refine af hJ ?_
   refine bJ hJ (by simp only[*,go_sem,-h]) ?_
   refine aI hJ ?_
   refine af hJ (aP hJ ?_)
   first|refine aj hJ ?_|refine ah hJ ?_|refine af hJ (ah hJ ?_)|refine af hJ (af hJ (ah hJ ?_))
   simp only[*,go_sem,-h]
   first|refine aj hJ ?_|refine ah hJ ?_|refine af hJ (ah hJ ?_)|refine af hJ (af hJ (ah hJ ?_))
   simp only[*,go_sem,-h]
   refine bn hJ _ (FK u0 ⟨(e.mono aW),(f.mono aW),(j.mono aW),(l.mono aW)⟩ q) (aK ?_)
   simp only[*,go_sem,-h]
   first|refine aj hJ ?_|refine ah hJ ?_|refine af hJ (ah hJ ?_)|refine af hJ (af hJ (ah hJ ?_))
   simp only[*,go_sem,-h]
   have b:=iV h;clear h;rcases b with ⟨c,h⟩|⟨c,h⟩
   ·refine bJ hJ (by simp only[*,go_sem,-h]) ?_
    first|refine aj hJ ?_|refine ah hJ ?_|refine af hJ (ah hJ ?_)|refine af hJ (af hJ (ah hJ ?_))
    simp only[*,go_sem,-h]
    have b:=Option.some.inj h;clear h;subst b
    refine az ?_
    simp only[*,go_sem]
   ·refine bI hJ (by simp only[*,go_sem,-h]) ?_
    refine aI hJ ?_
    refine aj hJ ?_
    simp only[*,go_sem,-h]
    refine ⟨5 - 3,by omega,_,Le.refl _,3,rfl,rfl,?_⟩
    have hw:IntKind.i64.wrap (2+1)=((3:Nat):Int):=by decide
    simp only[*,go_sem,-h]
    exact ⟨by omega,h⟩
  ·replace h:ag (mh u0) (fun x=>cond (x != 0) (some x) (nB u0))=some r:=h
   have b:=fL h;clear h;obtain ⟨x,q,h⟩:=b
   have n:((0+1+1+1:Nat):Int)=3:=rfl
   first|refine aj hJ ?_|refine ah hJ ?_|refine af hJ (ah hJ ?_)|refine af hJ (af hJ (ah hJ ?_))
   simp only[*,go_sem,-h]
   refine af hJ ?_
   refine bJ hJ (by simp only[*,go_sem,-h]) ?_
   refine aI hJ ?_
   refine af hJ (aP hJ ?_)
   first|refine aj hJ ?_|refine ah hJ ?_|refine af hJ (ah hJ ?_)|refine af hJ (af hJ (ah hJ ?_))
   simp only[*,go_sem,-h]
   first|refine aj hJ ?_|refine ah hJ ?_|refine af hJ (ah hJ ?_)|refine af hJ (af hJ (ah hJ ?_))
   simp only[*,go_sem,-h]
   refine bn hJ _ (FJ u0 ⟨(e.mono aW),(f.mono aW),(j.mono aW),(l.mono aW)⟩ q) (aK ?_)
   simp only[*,go_sem,-h]
   first|refine aj hJ ?_|refine ah hJ ?_|refine af hJ (ah hJ ?_)|refine af hJ (af hJ (ah hJ ?_))
   simp only[*,go_sem,-h]
   have b:=iV h;clear h;rcases b with ⟨c,h⟩|⟨c,h⟩
   ·refine bJ hJ (by simp only[*,go_sem,-h]) ?_
    first|refine aj hJ ?_|refine ah hJ ?_|refine af hJ (ah hJ ?_)|refine af hJ (af hJ (ah hJ ?_))
    simp only[*,go_sem,-h]
    have b:=Option.some.inj h;clear h;subst b
    refine az ?_
    simp only[*,go_sem]
   ·refine bI hJ (by simp only[*,go_sem,-h]) ?_
    refine aI hJ ?_
    refine aj hJ ?_
    simp only[*,go_sem,-h]
    refine ⟨5 - 4,by omega,_,Le.refl _,4,rfl,rfl,?_⟩
    have hw:IntKind.i64.wrap (3+1)=((4:Nat):Int):=by decide
    simp only[*,go_sem,-h]
    exact ⟨by omega,h⟩
  ·replace h:ag (mg u0) (fun x=>cond (x != 0) (some x) (pS u0))=some r:=h
   have b:=fL h;clear h;obtain ⟨x,q,h⟩:=b
   have n:((0+1+1+1+1:Nat):Int)=4:=rfl
   first|refine aj hJ ?_|refine ah hJ ?_|refine af hJ (ah hJ ?_)|refine af hJ (af hJ (ah hJ ?_))
   simp only[*,go_sem,-h]
   refine af hJ ?_
   refine bJ hJ (by simp only[*,go_sem,-h]) ?_
   refine aI hJ ?_
   refine af hJ (aP hJ ?_)
   first|refine aj hJ ?_|refine ah hJ ?_|refine af hJ (ah hJ ?_)|refine af hJ (af hJ (ah hJ ?_))
   simp only[*,go_sem,-h]
   first|refine aj hJ ?_|refine ah hJ ?_|refine af hJ (ah hJ ?_)|refine af hJ (af hJ (ah hJ ?_))
   simp only[*,go_sem,-h]
   refine bn hJ _ (FI u0 ⟨(e.mono aW),(f.mono aW),(j.mono aW),(l.mono aW)⟩ q) (aK ?_)
   simp only[*,go_sem,-h]
   first|refine aj hJ ?_|refine ah hJ ?_|refine af hJ (ah hJ ?_)|refine af hJ (af hJ (ah hJ ?_))
   simp only[*,go_sem,-h]
   have b:=iV h;clear h;rcases b with ⟨c,h⟩|⟨c,h⟩
   ·refine bJ hJ (by simp only[*,go_sem,-h]) ?_
    first|refine aj hJ ?_|refine ah hJ ?_|refine af hJ (ah hJ ?_)|refine af hJ (af hJ (ah hJ ?_))
    simp only[*,go_sem,-h]
    have b:=Option.some.inj h;clear h;subst b
    refine az ?_
    simp only[*,go_sem]
   ·refine bI hJ (by simp only[*,go_sem,-h]) ?_
    refine aI hJ ?_
    refine aj hJ ?_
    simp only[*,go_sem,-h]
    refine ⟨5 - 5,by omega,_,Le.refl _,5,rfl,rfl,?_⟩
    have hw:IntKind.i64.wrap (4+1)=((5:Nat):Int):=by decide
    simp only[*,go_sem,-h]
    exact ⟨by omega,h⟩
  ·have:i=0:=by omega
   subst this
   replace h:some 0=some r:=h
   have n:((0+1+1+1+1+1:Nat):Int)=5:=rfl
   first|refine aj hJ ?_|refine ah hJ ?_|refine af hJ (ah hJ ?_)|refine af hJ (af hJ (ah hJ ?_))
   simp only[*,go_sem,-h]
   refine af hJ ?_
   refine bI hJ (by simp only[*,go_sem,-h]) ?_
   refine bN ?_
   simp only[go_sem]
   first|refine aj hJ ?_|refine ah hJ ?_|refine af hJ (ah hJ ?_)|refine af hJ (af hJ (ah hJ ?_))
   simp only[*,go_sem,-h]
   have b:=Option.some.inj h;clear h;subst b
   refine az ?_
   simp only[*,go_sem]
def nF (u0:ak)(b:aY)(i39:Nat)(a:b8)(st:(List bt)):Option (Fl (List bt) bt):=
 ag (fZ a.high) fun c=>ag (j8 u0 b (i39:Int) (⟨a.aM,c⟩:gQ)) fun d=>ag (cZ st ([d])) fun e=>some (.nx e)
def jA (u0:ak)(b:aY):Option bt:=
 ag (bE (nF u0 b) 0 u0.aD ([]:List bt)) fun o=>aA o (fun a=>ag (bh a 0) fun c=>ag (hH a 1 (a.length:Int)) fun d=>ag (jc ga c d) fun e=>some e) (fun _ _=>none) (fun r=>some r)
theorem rP {ro:Addr->Option Value}(u0:ak){s1 f g i:Value}(u:bL ro u0 s1 f g i)(b:aY){r:bt}(h:jA u0 b=some r):aC Tryz.prog 86 #[bv u0 s1 f g i,.agg #[.int .i64 b.back,.int .i64 b.high]] ⟨ro,[]⟩ (fun v _=>v=r.v):=by
 obtain ⟨d3,c4,rfl,dE,W,-⟩:=id u.e;unfold jA at h;refine aC.go Tryz.func86 rfl Tryz.ntmps86 Tryz.results86 (by simp) fun main J hJ A X hd hs=>?_;have Y:=hs 0;have k1:=hs 1;clear hs;refine ah hJ ?_;simp only[*,go_sem];refine ay fun o Z ab=>?_;try simp only[au] at ab
 refine ay fun p ad ae=>?_;try simp only[au] at ae
 refine ay fun q al ao=>?_;try simp only[au] at ao
 try simp only[*,go_sem]
 refine ah hJ ?_;simp only[*,go_sem];refine af hJ (ah hJ ?_);simp only[*,go_sem];refine aP hJ ?_;revert h;refine bS fun ar j a0=>?_;refine bR hJ [5,6,7,12,13,14,15,16,17,18,19,20,21,22,23,24,25,26,27,28,29,30] (fun m G F'=>∃(i39:Nat) (d33:Option Addr) (s:Nat) (w:List (Nat×Obj)) (c:(List bt)),m=u0.aD.length - i39/\i39<=u0.aD.length/\bE (nF u0 b) i39 (u0.aD.drop i39) c=some ar/\F'=⟨ro,(q,.cells #[.int .i64 0,.int .i64 0,.int .i64 0,.int .i64 0,.int .i64 0,.int .i64 0] 147)::(p,.cells #[.int .i64 b.back,.int .i64 b.high] 134)::(o,bl u0 (sl d3 u0.aD c4) f g i)::w⟩/\aO j6 ro 147 (.slice d33 c.length s) c w/\c.length<=s/\slot G 12= .int .i64 (i39:Int)/\slot G 5= .slice d33 c.length s) u0.aD.length ?_ ?_
 ·refine ⟨0,none,0,[],([]:List bt),(Nat.sub_zero _).symm,Nat.zero_le _,j,rfl,aO.nil _ _ _,Nat.le_refl _,?_⟩;simp only[*,go_sem]
 rintro dT ea F' H ⟨i39,d33,s,w,c,rfl,eb,j,rfl,I,ec,ed,eh⟩;obtain ⟨a2,a3,a4⟩:=H.pick [2,3,4,10,11] (by decide);simp only[*,go_sem] at a2 a3 a4;clear H X hd Y k1;refine ah hJ ?_;simp only[*,go_sem];refine af hJ ?_;rcases Nat.lt_or_ge i39 u0.aD.length with a5|K
 ·refine bJ hJ (by simp only[*,go_sem]) ?_;refine aI hJ ?_;obtain ⟨d,y⟩:∃x,u0.aD[i39]?=some x:=⟨_,List.getElem?_eq_getElem a5⟩
  rw[dg y] at j;revert j;refine bS fun et h a6=>?_;unfold nF at h;try dsimp only at h
  obtain ⟨z,a7,a8,a9,B⟩:=u.e.el _ _ y;obtain rfl:a7=d.cells:=a9;cases a8;have ba:=B 0 _ rfl;simp only[go_sem] at ba;have bb:=B 1 _ rfl;simp only[go_sem] at bb;clear B y;refine af hJ (aP hJ (af hJ ?_));refine av hJ fun bc=>?_;refine aj hJ ?_;simp only[*,go_sem];refine ay fun C eu L=>?_;have ev:=aQ.cons L bc;try simp only[au] at L
  try simp only[*,go_sem]
  refine av hJ fun bd=>?_;refine e7 hJ mixed 11 ⟨ro,[(C,.cells #[.int .i64 d.aM,.int .i64 d.high] 85),(q,.cells #[.int .i64 0,.int .i64 0,.int .i64 0,.int .i64 0,.int .i64 0,.int .i64 0] 147),(p,.cells #[.int .i64 b.back,.int .i64 b.high] 134),(o,bl u0 (sl (some z) u0.aD c4) f g i)]⟩ (by simp only[*,go_sem]) (by kernel_rfl) ?_;revert h;refine bS fun bj bk h=>?_;simp only[*,go_sem];refine ⟨_,bx hJ fun F t=>jz d.high bk,bP ?_⟩;revert h;refine bS fun a bm h=>?_;try simp only[*,go_sem]
  refine ⟨_,bx hJ fun F t=>Ar u0 (u.mono (b9 t)) b (i39:Int) (⟨d.aM,bj⟩:gQ) bm,?_⟩;revert h;refine bS fun bo br h=>?_;obtain rfl:=sI h;obtain ⟨bs,M⟩:=dw br;try simp only[*,go_sem]
  refine ay fun N bz O=>?_;have b0:=aQ.cons O bd;try simp only[au] at O
  try simp only[*,go_sem]
  refine dW (r:=j6) (l:=c) (x:=a) (cs:=#[.int .i64 a.spot.aM,.int .i64 a.spot.high.num,.int .i64 a.spot.high.den,.int .i64 a.at_,.int .i64 a.high.num,.int .i64 a.high.den]) (e2:=147) [(N,.cells #[.int .i64 a.spot.aM,.int .i64 a.spot.high.num,.int .i64 a.spot.high.den,.int .i64 a.at_,.int .i64 a.high.num,.int .i64 a.high.den] 147),(C,.cells #[.int .i64 d.aM,.int .i64 d.high] 85),(q,.cells #[.int .i64 0,.int .i64 0,.int .i64 0,.int .i64 0,.int .i64 0,.int .i64 0] 147),(p,.cells #[.int .i64 b.back,.int .i64 b.high] 134),(o,bl u0 (sl (some z) u0.aD c4) f g i)] [] I b0 bs rfl (by simp only[*,go_sem]) bz rfl rfl ni ni uV uX rfl uW (by decide) (by decide) (fun eQ P D b1 b2 eS=>?_);simp only[aT] at b2;subst b1;rw[<-M] at D;clear M;obtain ⟨d63,b3,rfl,b4⟩:=D.len;refine ⟨⟨ro,(N,.cells #[.int .i64 a.spot.aM,.int .i64 a.spot.high.num,.int .i64 a.spot.high.den,.int .i64 a.at_,.int .i64 a.high.num,.int .i64 a.high.den] 147)::(C,.cells #[.int .i64 d.aM,.int .i64 d.high] 85)::(q,.cells #[.int .i64 0,.int .i64 0,.int .i64 0,.int .i64 0,.int .i64 0,.int .i64 0] 147)::(p,.cells #[.int .i64 b.back,.int .i64 b.high] 134)::(o,bl u0 (sl (some z) u0.aD c4) f g i)::P⟩,Le.refl _,?_⟩;refine ⟨by simp only[*,go_sem],lW ?_⟩;try simp only[*,go_sem]
  have e0:=cp (n:=i39) (by have:=W;omega);refine aj hJ ?_;simp only[*,go_sem];refine ⟨u0.aD.length - (i39+1),by omega,_,Le.sub (List.Sublist.cons _ (List.Sublist.cons _ (List.Sublist.refl _))),i39+1,d63,b3,P,bo,rfl,by omega,a6,rfl,D,b4,?_⟩;simp only[*,go_sem]
 have e1:=Nat.not_lt.2 K;refine bI hJ (by simp only[*,go_sem]) ?_;rw[List.drop_eq_nil_of_le K] at j;obtain rfl:=sI j;clear j;have h:=a0;dsimp only[aA] at h;refine bN ?_;simp only[go_sem];refine af hJ ?_;refine av hJ fun Q=>?_;obtain ⟨b5,e3,ca,E,cb⟩:=I.eR [(q,.cells #[.int .i64 0,.int .i64 0,.int .i64 0,.int .i64 0,.int .i64 0,.int .i64 0] 147),(p,.cells #[.int .i64 b.back,.int .i64 b.high] 134),(o,bl u0 (sl d3 u0.aD c4) f g i)] [] Q (aE.cons al (aE.cons ad (aE.cons Z (aE.nil _))));clear Q;refine cB hJ cb ?_;obtain ⟨fa,fb,-⟩:=E.op;simp only[bp] at ca;refine e7 hJ mixed 6 ⟨b5,[(p,.cells #[.int .i64 b.back,.int .i64 b.high] 134),(o,bl u0 (sl d3 u0.aD c4) f g i)]⟩ (by simp only[*,go_sem]) (by kernel_rfl) ?_;revert h;refine bS fun R cd h=>?_;obtain ⟨fg,fi,S⟩:=cK cd;obtain ⟨fo,cf,cl,cu,k⟩:=E.el _ _ S;obtain rfl:cf=R.cells:=cu;cases cl;have cy:=k 0 _ rfl;simp only[go_sem] at cy;have cS:=k 1 _ rfl;simp only[go_sem] at cS;have c0:=k 2 _ rfl;simp only[go_sem] at c0;have da:=k 3 _ rfl;simp only[go_sem] at da;have db:=k 4 _ rfl;simp only[go_sem] at db;have dd:=k 5 _ rfl;simp only[go_sem] at dd;clear k S;revert h;refine bS fun df dk h=>?_;obtain ⟨fp,fr,fs,T⟩:=o7 dk;have U:(1:Int).toNat<=((c.length:Int)).toNat:=by omega
 have dp:((c.length:Int)).toNat<=s:=by omega
 have ft:0<=((c.length:Int)):=by omega
 obtain ⟨d80,dq,ds,V⟩:=aB.pe E (1:Int).toNat ((c.length:Int)).toNat U (by omega) T;simp only[go_sem] at dq ds U dp;obtain ⟨_,_,dt,fu,fv,fw⟩:=id V;cases dt;clear T;revert h;refine bS fun fx du h=>?_;obtain rfl:=sI h;try simp only[*,go_sem]
 refine ⟨_,bx hJ fun F t=>rG (dM:=88) (ee:=#[]) (ef:=#[]) ga ⟨by simp only[go_sem],fun gg gl dv dC _ h=>by simp only[go_sem];exact rC dv dC h⟩ R df (V.mono (b9 t)) du,?_⟩;try simp only[*,go_sem]
 refine az ?_;simp only[*,go_sem]
def rQ (u0:ak)(a:aY):Option an:=
 ag (fZ u0.bV) fun b=>ag (jA u0 a) fun c=>ag (jb b c.high) fun d=>some d
theorem Au {ro:Addr->Option Value}(u0:ak){s1 b c d:Value}(f:bL ro u0 s1 b c d)(a:aY){r:an}(h:rQ u0 a=some r):aC Tryz.prog 73 #[bv u0 s1 b c d,.agg #[.int .i64 a.back,.int .i64 a.high]] ⟨ro,[]⟩ (fun v _=>v=r.v):=by
 unfold rQ at h;refine aC.go Tryz.func73 rfl Tryz.ntmps73 Tryz.results73 (by simp) fun main J hJ A s hd hs=>?_;have t:=hs 0;have k1:=hs 1;clear hs;refine ah hJ ?_;simp only[*,go_sem];refine ay fun g u i=>?_;try simp only[au] at i
 refine ay fun j w k=>?_;try simp only[au] at k
 refine ay fun x y l=>?_;try simp only[au] at l
 try simp only[*,go_sem]
 refine af hJ ?_;refine e7 hJ mixed 9 ⟨ro,[(j,.cells #[.int .i64 a.back,.int .i64 a.high] 134),(g,bl u0 s1 b c d)]⟩ (by simp only[*,go_sem]) (by kernel_rfl) ?_;revert h;refine bS fun m n h=>?_;simp only[*,go_sem];refine ⟨_,bx hJ fun F e=>jz u0.bV n,bP ?_⟩;revert h;refine bS fun o p h=>?_;try simp only[*,go_sem]
 refine ⟨_,bx hJ fun F e=>rP u0 (f.mono (b9 e)) a p,bP ?_⟩;revert h;refine bS fun z q h=>?_;obtain rfl:=sI h;try simp only[*,go_sem]
 refine ⟨_,bx hJ fun F e=>pQ m o.high q,?_⟩;try simp only[*,go_sem]
 refine az ?_;simp only[*,go_sem]
def nG (u0:ak)(a:Int)(st:Int):Option (Fl Int an):=
 ag (bh u0.aD st) fun b=>cond (decide (b.aM<a)) (some (.nx (IntKind.i64.wrap (st+1)))) (some (.bk st))
def jd (u0:ak)(b:Int):Option an:=
 ag (aS (nG u0 b) fu 1) fun o=>aA o (fun c=>ag (bh u0.aD (IntKind.i64.wrap (c - 1))) fun a=>ag (bh u0.aD c) fun d=>ag (fZ a.high) fun e=>ag (j7 (IntKind.i64.wrap ((IntKind.i64.wrap (d.high - a.high))*(IntKind.i64.wrap (b - a.aM)))) (IntKind.i64.wrap (d.aM - a.aM))) fun f=>ag (ja e f) fun g=>some g) (fun _ _=>none) (fun r=>some r)
theorem Av {ro:Addr->Option Value}(u0:ak){s1 b c d:Value}(g:bL ro u0 s1 b c d)(i:Int){r:an}(h:jd u0 i=some r):aC Tryz.prog 116 #[bv u0 s1 b c d,.int .i64 i] ⟨ro,[]⟩ (fun v _=>v=r.v):=by
 obtain ⟨d3,c4,rfl,bc,bd,-⟩:=id g.e;unfold jd at h;refine aC.go Tryz.func116 rfl Tryz.ntmps116 Tryz.results116 (by simp) fun main J hJ A E hd hs=>?_;have G:=hs 0;have k1:=hs 1;clear hs;refine ah hJ ?_;simp only[*,go_sem];refine ay fun l bj H=>?_;try simp only[au] at H
 refine ay fun t bk I=>?_;try simp only[au] at I
 try simp only[*,go_sem]
 refine ah hJ ?_;simp only[*,go_sem];refine af hJ (aP hJ ?_);revert h;refine bS fun K j L=>?_;refine bR hJ [5,8,9,10,11,12,13,14,15,16,17,18] (fun m M F'=>∃(k:Int),aS (nG u0 i) m k=some K/\F'=⟨ro,(t,rt 0 0)::(l,bl u0 (sl d3 u0.aD c4) b c d)::[]⟩/\slot M 5= .int .i64 k) fu ?_ ?_
 ·refine ⟨1,j,rfl,?_⟩;simp only[*,go_sem]
 rintro n bm F' u ⟨k,j,rfl,bo⟩;obtain ⟨N,O,P⟩:=u.pick [1,2,4] (by decide);simp only[*,go_sem] at N O P;clear u E hd G k1;obtain _|n:=n
 ·exact absurd j (by simp only[aS,reduceCtorEq,not_false_eq_true])
 revert j;refine bS fun br h o=>?_;unfold nG at h;try dsimp only at h
 refine af hJ (ah hJ ?_);revert h;refine bS fun Q R h=>?_;obtain ⟨bs,bz,w⟩:=cK R;obtain ⟨x,S,T,U,p⟩:=g.e.el _ _ w;obtain rfl:S=Q.cells:=U;cases T;have y:=p 0 _ rfl;simp only[go_sem] at y;have z:=p 1 _ rfl;simp only[go_sem] at z;clear p w;try simp only[*,go_sem]
 revert h;refine jC hJ (by simp only[*,go_sem]) (fun V h=>?_) fun V h=>?_
 ·obtain rfl:=sI h;refine aI hJ (aP hJ ?_);refine aj hJ ?_;simp only[*,go_sem];refine ⟨n,Nat.lt_succ_self _,_,Le.sub (List.Sublist.refl _),(IntKind.i64.wrap (k+1)),o,rfl,?_⟩;simp only[*,go_sem]
 obtain rfl:=sI h;refine bN ?_;simp only[go_sem];obtain rfl:=sI o;clear o;have h:=L;dsimp only[aA] at h;clear y z;refine af hJ ?_;refine zU hJ mixed 13 ⟨ro,[(t,rt 0 0),(l,bl u0 (sl (some x) u0.aD c4) b c d)]⟩ (by simp only[*,go_sem]) (by kernel_rfl) 85 rfl zM ?_;revert h;refine bS fun a W h=>?_;obtain ⟨b0,b1,B⟩:=cK W;obtain ⟨b2,X,Y,Z,q⟩:=g.e.el _ _ B;obtain rfl:X=a.cells:=Z;cases Y;have ab:=q 0 _ rfl;simp only[go_sem] at ab;have ad:=q 1 _ rfl;simp only[go_sem] at ad;clear q B;revert h;refine bS fun f ae h=>?_;obtain ⟨b3,b4,C⟩:=cK ae;obtain ⟨b5,al,ao,ar,s⟩:=g.e.el _ _ C;obtain rfl:al=f.cells:=ar;cases ao;have a0:=s 0 _ rfl;simp only[go_sem] at a0;have a2:=s 1 _ rfl;simp only[go_sem] at a2;clear s C;try simp only[*,go_sem]
 refine ay fun a3 ca a4=>?_;try simp only[au] at a4
 try simp only[*,go_sem]
 refine ay fun a5 cb a6=>?_;try simp only[au] at a6
 try simp only[*,go_sem]
 refine af hJ ?_;refine e7 hJ mixed 20 ⟨ro,[(a5,.cells #[.int .i64 f.aM,.int .i64 f.high] 85),(a3,.cells #[.int .i64 a.aM,.int .i64 a.high] 85),(l,bl u0 (sl (some x) u0.aD c4) b c d)]⟩ (by simp only[*,go_sem]) (by kernel_rfl) ?_;revert h;refine bS fun a7 a8 h=>?_;simp only[*,go_sem];refine ⟨_,bx hJ fun F D=>jz a.high a8,bP ?_⟩;revert h;refine bS fun a9 ba h=>?_;try simp only[*,go_sem]
 refine ⟨_,bx hJ fun F D=>pO (IntKind.i64.wrap ((IntKind.i64.wrap (f.high - a.high))*(IntKind.i64.wrap (i - a.aM)))) (IntKind.i64.wrap (f.aM - a.aM)) ba,bP ?_⟩;revert h;refine bS fun cd bb h=>?_;obtain rfl:=sI h;try simp only[*,go_sem]
 refine ⟨_,bx hJ fun F D=>pP a7 a9 bb,?_⟩;try simp only[*,go_sem]
 refine az ?_;simp only[*,go_sem]
def pU (c:cm)(b:an)(i59:Nat)(a:bt)(st:Unit):Option (Fl Unit (List bt)):=
 cond (((a.spot.aM==c.place)&&((a.spot.high.num==b.num)&&(a.spot.high.den==b.den)))) (some (.br 1 ())) (some (.nx ()))
def pV (u0:ak)(c:aY)(i38:Nat)(a:cm)(st:(List bt)):Option (Fl (List bt) (List bt)):=
 ag (jd u0 a.place) fun d=>ag (fZ a.dF) fun e=>ag (ja d e) fun b=>ag (bE (pU a b) 0 st ()) fun o=>aA o (fun h=>ag (j8 u0 c (i38:Int) (⟨a.place,b⟩:gQ)) fun f=>ag (cZ st ([f])) fun g=>some (.nx g)) (fun _ i=>some (.nx st)) (fun r=>some (.rt r))
def jB (u0:ak)(a:aY):Option (List bt):=
 ag (bE (pV u0 a) 0 u0.props ([]:List bt)) fun o=>aA o (fun b=>some b) (fun _ _=>none) (fun r=>some r)
theorem vo {ro:Addr->Option Value}(u0:ak){s1 O f g:Value}(w:bL ro u0 s1 O f g)(b:aY){r:(List bt)}(h:jB u0 b=some r):eH Tryz.prog 102 #[bv u0 s1 O f g,.agg #[.int .i64 b.back,.int .i64 b.high]] ro (fun v aN=>∃P,v=P/\aB j6 aN P r):=by
 obtain ⟨d10,o,rfl,fb,Q,-⟩:=id w.p;unfold jB at h;refine aC.go Tryz.func102 rfl Tryz.ntmps102 Tryz.results102 (by simp) fun main J hJ A ba hd hs=>?_;have bb:=hs 0;have k1:=hs 1;clear hs;refine ah hJ ?_;simp only[*,go_sem];refine ay fun q bc bj=>?_;try simp only[au] at bj
 refine ay fun s bk bm=>?_;try simp only[au] at bm
 try simp only[*,go_sem]
 refine Dv hJ (af hJ ?_);refine aj hJ ?_;simp only[*,go_sem];refine af hJ ?_;refine Du hJ ?_;refine af hJ (ah hJ ?_);simp only[*,go_sem];refine aP hJ ?_;revert h;refine bS fun bo i br=>?_;refine bR hJ [5,6,7,8,10,15,16,17,18,19,20,21,22,23,24,25,26,27,28,29,30,31,32,33,34,35,36,37,38,39,40,41,42,43,44,45,46,47,48,49,50] (fun m y F'=>∃(i38:Nat) (d32:Option Addr) (t:Nat) (z:List (Nat×Obj)) (c:(List bt)),m=u0.props.length - i38/\i38<=u0.props.length/\bE (pV u0 b) i38 (u0.props.drop i38) c=some bo/\F'=⟨ro,(s,.cells #[.int .i64 b.back,.int .i64 b.high] 134)::(q,bl u0 s1 (sl d10 u0.props o) f g)::z⟩/\aO j6 ro 147 (.slice d32 c.length t) c z/\c.length<=t/\slot y 15= .int .i64 (i38:Int)/\slot y 5= .slice d32 c.length t) u0.props.length ?_ ?_
 ·refine ⟨0,none,0,[],([]:List bt),(Nat.sub_zero _).symm,Nat.zero_le _,i,rfl,aO.nil _ _ _,Nat.le_refl _,?_⟩;simp only[*,go_sem]
 rintro fg bs F' R ⟨i38,d32,t,z,c,rfl,fi,i,rfl,u,bz,b0,b1⟩;obtain ⟨S,T,U⟩:=R.pick [2,3,4,13,14] (by decide);simp only[*,go_sem] at S T U;clear R ba hd bb k1;refine ah hJ ?_;simp only[*,go_sem];refine af hJ ?_;rcases Nat.lt_or_ge i38 u0.props.length with b2|V
 ·refine bJ hJ (by simp only[*,go_sem]) ?_;refine aI hJ ?_;obtain ⟨d,B⟩:∃x,u0.props[i38]?=some x:=⟨_,List.getElem?_eq_getElem b2⟩
  rw[dg B] at i;revert i;refine bS fun fo h W=>?_;unfold pV at h;try dsimp only at h
  obtain ⟨C,b3,b4,b5,D⟩:=w.p.el _ _ B;obtain rfl:b3=d.cells:=b5;cases b4;have ca:=D 0 _ rfl;simp only[go_sem] at ca;have cb:=D 1 _ rfl;simp only[go_sem] at cb;clear D B;refine af hJ (aP hJ (af hJ ?_));refine av hJ fun cd=>?_;refine aj hJ ?_;simp only[*,go_sem];refine ay fun E fp X=>?_;have fr:=aQ.cons X cd;try simp only[au] at X
  try simp only[*,go_sem]
  refine af hJ ?_;refine av hJ fun cf=>?_;refine cL hJ mixed 11 3 (by simp only[*,go_sem]) (by kernel_rfl) ?_;revert h;refine bS fun cl cu h=>?_;simp only[*,go_sem];refine ⟨_,bx hJ fun F G=>Av u0 (w.mono (b9 G)) d.place cu,bP ?_⟩;revert h;refine bS fun cy cS h=>?_;try simp only[*,go_sem]
  refine ⟨_,bx hJ fun F G=>jz d.dF cS,bP ?_⟩;revert h;refine bS fun e c0 h=>?_;try simp only[*,go_sem]
  refine ⟨_,bx hJ fun F G=>pP cl cy c0,bP ?_⟩;try simp only[*,go_sem]
  refine ay fun H fs Y=>?_;have ft:=aQ.cons Y cf;try simp only[au] at Y
  try simp only[*,go_sem]
  refine af hJ (af hJ ?_);refine av hJ fun fu=>?_;refine aj hJ ?_;simp only[*,go_sem];refine aP hJ ?_;revert h;refine bS fun da j Z=>?_;refine bR hJ [10,33,34,35,36,37,38,39,40,41] (fun m y F'=>∃(i59:Nat),m=c.length - i59/\i59<=c.length/\bE (pU d e) i59 (c.drop i59) ()=some da/\F'=⟨ro,(H,.cells #[.int .i64 d.place,.int .i64 e.num,.int .i64 e.den] 145)::(E,.cells #[.int .i64 d.place,.int .i64 d.dF] 96)::(s,.cells #[.int .i64 b.back,.int .i64 b.high] 134)::(q,bl u0 s1 (sl (some C) u0.props o) f g)::z⟩/\slot y 33= .int .i64 (i59:Int)) c.length ?_ ?_
  ·refine ⟨0,(Nat.sub_zero _).symm,Nat.zero_le _,j,rfl,?_⟩;simp only[*,go_sem]
  rintro fv db F' I ⟨i59,rfl,fw,j,rfl,fx⟩;obtain ⟨dd,df,dk⟩:=I.pick [2,3,4,5,6,7,8,13,14,15,16,17,19,20,21,22,23,24,25,26,27,28,29,30,31,32] (by decide);simp only[*,go_sem] at dd df dk;have gg:cC [5,6,7,8,10,15,16,17,18,19,20,21,22,23,24,25,26,27,28,29,30,31,32,33,34,35,36,37,38,39,40,41,42,43,44,45,46,47,48,49,50] db bs:=(I.fD (by decide)).trans (by simp only[*,go_sem]);clear I S T U b1 b0;refine ah hJ ?_;simp only[*,go_sem];refine af hJ ?_;rcases Nat.lt_or_ge i59 c.length with dp|ab
  ·refine bJ hJ (by simp only[*,go_sem]) ?_;refine aI hJ ?_;obtain ⟨dq,K⟩:∃x,c[i59]?=some x:=⟨_,List.getElem?_eq_getElem dp⟩
   rw[dg K] at j;revert j;refine bS fun gl h L=>?_;unfold pU at h;(try dsimp only at h);refine av hJ fun M=>?_;obtain ⟨ad,ds,gn,dt,du,rfl,gp,dv,k⟩:=u.elem K;obtain rfl:dt=dq.cells:=dv;cases du;replace M:=M.nd;simp only[keys,List.map_cons,List.map_nil,List.map_append,List.cons_append,List.nil_append,List.nodup_cons,List.mem_cons,List.mem_append,List.not_mem_nil,or_false,not_or] at M;have ae:=k 0 _ rfl;simp only[go_sem] at ae;have al:=k 1 _ rfl;simp only[go_sem] at al;have ao:=k 2 _ rfl;simp only[go_sem] at ao;have ar:=k 3 _ rfl;simp only[go_sem] at ar;have a0:=k 4 _ rfl;simp only[go_sem] at a0;have a2:=k 5 _ rfl;simp only[go_sem] at a2;clear k K;refine af hJ (aP hJ (af hJ ?_));refine av hJ fun dC=>?_;refine aj hJ ?_;simp only[*,go_sem];refine ay fun gB gC a3=>?_;have gM:=aQ.cons a3 dC;try simp only[au] at a3
   (try simp only[*,go_sem]);refine af hJ ?_;refine av hJ fun gT=>?_;refine aj hJ ?_;simp only[*,go_sem];revert h;refine jC hJ (by simp only[*,go_sem]) (fun dE h=>?_) fun dE h=>?_
   ·obtain rfl:=sI h;refine bN ?_;simp only[go_sem];obtain rfl:=sI L;clear L;have h:=Z;dsimp only[aA] at h;obtain rfl:=sI h;clear ae al ao ar a0 a2;have dT:=cp (n:=i38) (by have:=Q;omega);refine aj hJ ?_;simp only[*,go_sem];refine ⟨u0.props.length - (i38+1),by omega,_,Le.sub (List.Sublist.cons _ (List.Sublist.cons _ (List.Sublist.cons _ (List.Sublist.refl _)))),i38+1,(some ⟨ad,0,none⟩),t,[(ad,Obj.cells ds 147)],c,rfl,by omega,W,rfl,u,bz,?_⟩;simp only[*,go_sem]
   obtain rfl:=sI h;refine aI hJ ?_;have gV:=cp (n:=i59) (by have:=u.bd;omega);refine aj hJ ?_;simp only[*,go_sem];refine ⟨c.length - (i59+1),by omega,_,Le.sub (List.Sublist.cons _ (List.Sublist.refl _)),i59+1,rfl,by omega,L,rfl,?_⟩;simp only[*,go_sem]
  have g0:=Nat.not_lt.2 ab;refine bI hJ (by simp only[*,go_sem]) ?_;rw[List.drop_eq_nil_of_le ab] at j;obtain rfl:=sI j;clear j;have h:=Z;dsimp only[aA] at h;refine bN ?_;simp only[go_sem];refine av hJ fun ea=>?_;refine aj hJ ?_;revert h;refine bS fun a eb h=>?_;simp only[*,go_sem];refine bn hJ _ (Ar u0 (w.mono aW) b (i38:Int) (⟨d.place,e⟩:gQ) eb) (aK ?_);revert h;refine bS fun ec ed h=>?_;obtain rfl:=sI h;obtain ⟨eh,a4⟩:=dw ed;try simp only[*,go_sem]
  refine ay fun a5 et a6=>?_;have eu:=aQ.cons a6 ea;try simp only[au] at a6
  try simp only[*,go_sem]
  refine dW (r:=j6) (l:=c) (x:=a) (cs:=#[.int .i64 a.spot.aM,.int .i64 a.spot.high.num,.int .i64 a.spot.high.den,.int .i64 a.at_,.int .i64 a.high.num,.int .i64 a.high.den]) (e2:=147) [(a5,.cells #[.int .i64 a.spot.aM,.int .i64 a.spot.high.num,.int .i64 a.spot.high.den,.int .i64 a.at_,.int .i64 a.high.num,.int .i64 a.high.den] 147),(H,.cells #[.int .i64 d.place,.int .i64 e.num,.int .i64 e.den] 145),(E,.cells #[.int .i64 d.place,.int .i64 d.dF] 96),(s,.cells #[.int .i64 b.back,.int .i64 b.high] 134),(q,bl u0 s1 (sl (some C) u0.props o) f g)] [] u eu eh rfl (by simp only[*,go_sem]) et rfl rfl ni ni uV uX rfl uW (by decide) (by decide) (fun g1 a7 N ev eQ g2=>?_);simp only[aT] at eQ;subst ev;rw[<-a4] at N;clear a4;obtain ⟨d83,eS,rfl,e0⟩:=N.len;refine ⟨⟨ro,(a5,.cells #[.int .i64 a.spot.aM,.int .i64 a.spot.high.num,.int .i64 a.spot.high.den,.int .i64 a.at_,.int .i64 a.high.num,.int .i64 a.high.den] 147)::(H,.cells #[.int .i64 d.place,.int .i64 e.num,.int .i64 e.den] 145)::(E,.cells #[.int .i64 d.place,.int .i64 d.dF] 96)::(s,.cells #[.int .i64 b.back,.int .i64 b.high] 134)::(q,bl u0 s1 (sl (some C) u0.props o) f g)::a7⟩,Le.refl _,?_⟩;refine aK ?_;try simp only[*,go_sem]
  have dT:=cp (n:=i38) (by have:=Q;omega);refine aj hJ ?_;simp only[*,go_sem];refine ⟨u0.props.length - (i38+1),by omega,_,Le.sub (List.Sublist.cons _ (List.Sublist.cons _ (List.Sublist.cons _ (List.Sublist.refl _)))),i38+1,d83,eS,a7,ec,rfl,by omega,W,rfl,N,e0,?_⟩;simp only[*,go_sem]
 have g3:=Nat.not_lt.2 V;refine bI hJ (by simp only[*,go_sem]) ?_;rw[List.drop_eq_nil_of_le V] at i;obtain rfl:=sI i;clear i;have h:=br;dsimp only[aA] at h;obtain rfl:=sI h;refine bN ?_;simp only[go_sem];refine af hJ ?_;refine av hJ fun g4=>?_;refine aj hJ ?_;simp only[*,go_sem];refine av hJ fun a8=>?_;obtain ⟨ha,e1,e3,a9,fa⟩:=u.eR [(s,.cells #[.int .i64 b.back,.int .i64 b.high] 134),(q,bl u0 s1 (sl d10 u0.props o) f g)] [] a8 (aE.cons bk (aE.cons bc (aE.nil _)));clear a8;refine cB hJ fa ?_;obtain ⟨hc,hf,-⟩:=a9.op;simp only[bp] at e3;refine az ?_;simp only[*,go_sem];exact ⟨_,e1,Le.sub (List.nil_sublist _),_,rfl,a9⟩
def mm (i54:Nat)(a:bt)(st:an):Option (Fl an an):=
 ag (iu eA st ([a.high])) fun b=>some (.nx b)
def mo (i100:Nat)(a:bt)(st:an):Option (Fl an an):=
 ag (iu eA st ([a.high])) fun b=>some (.nx b)
def kZ (u0:ak)(a:aY):Option an:=
 ag (fZ u0.bV) fun b=>ag (jA u0 a) fun c=>ag (eA c.high b) fun d=>cond (d) (ag (jB u0 a) fun e=>ag (bE (mm) 0 e c.high) fun o=>aA o (fun f=>ag (jb b f) fun g=>ag (fZ 0) fun h=>ag (iu eA g ([h])) fun i=>some i) (fun _ _=>none) (fun r=>some r)) (ag (jB u0 a) fun j=>ag (bE (mo) 0 j b) fun o=>aA o (fun k=>ag (jb c.high k) fun l=>ag (fZ 0) fun m=>ag (iu eA l ([m])) fun n=>some n) (fun _ _=>none) (fun r=>some r))
theorem rR {ro:Addr->Option Value}(u0:ak){s1 p q s:Value}(t:bL ro u0 s1 p q s)(a:aY){r:an}(h:kZ u0 a=some r):aC Tryz.prog 82 #[bv u0 s1 p q s,.agg #[.int .i64 a.back,.int .i64 a.high]] ⟨ro,[]⟩ (fun v _=>v=r.v):=by
 unfold kZ at h;refine aC.go Tryz.func82 rfl Tryz.ntmps82 Tryz.results82 (by simp) fun main J hJ A O hd hs=>?_;have P:=hs 0;have k1:=hs 1;clear hs;refine ah hJ ?_;simp only[*,go_sem];refine ay fun D fr al=>?_;try simp only[au] at al
 refine ay fun E fs ao=>?_;try simp only[au] at ao
 refine ay fun G ft ar=>?_;try simp only[au] at ar
 try simp only[*,go_sem]
 refine af hJ ?_;refine zU hJ mixed 8 ⟨ro,[(G,rt 0 0),(E,.cells #[.int .i64 a.back,.int .i64 a.high] 134),(D,bl u0 s1 p q s)]⟩ (by simp only[*,go_sem]) (by kernel_rfl) 23 rfl uU ?_;revert h;refine bS fun u a0 h=>?_;simp only[*,go_sem];refine ⟨_,bx hJ fun F Q=>jz u0.bV a0,bP ?_⟩;revert h;refine bS fun w a2 h=>?_;try simp only[*,go_sem]
 refine ⟨_,bx hJ fun F Q=>rP u0 (t.mono (b9 Q)) a a2,bP ?_⟩;try simp only[*,go_sem]
 refine ay fun R fu a3=>?_;try simp only[au] at a3
 try simp only[*,go_sem]
 refine ay fun S fv a4=>?_;try simp only[au] at a4
 try simp only[*,go_sem]
 refine af hJ (ah hJ ?_);revert h;refine bS fun fw a5 h=>?_;simp only[*,go_sem];refine bn hJ _ (iZ w.high u a5) ?_;try simp only[*,go_sem]
 revert h;refine jC hJ (by simp only[*,go_sem]) (fun a6 h=>?_) fun a6 h=>?_
 ·refine aj hJ ?_;simp only[*,go_sem];refine af hJ (ah hJ ?_);revert h;refine bS fun b a7 h=>?_;simp only[*,go_sem];refine cc hJ _ (vo u0 t a a7) fun v a8 a9 ba H=>?_;obtain ⟨fx,rfl,T⟩:=H;replace t:=t.mono a9;simp only[bp] at ba;obtain ⟨d48,gg,rfl,gl,bb,-⟩:=id T;refine aK ?_;try simp only[*,go_sem]
  refine aP hJ ?_;revert h;refine bS fun bc c bd=>?_;refine bR hJ [8,26,27,28,29,30,31,32,33,34,35] (fun m I F'=>∃(i54:Nat) (l:an),m=b.length - i54/\i54<=b.length/\bE (mm) i54 (b.drop i54) l=some bc/\F'=⟨a8,(S,rt u.num u.den)::(R,rt l.num l.den)::(G,rt 0 0)::(E,.cells #[.int .i64 a.back,.int .i64 a.high] 134)::(D,bl u0 s1 p q s)::[]⟩/\slot I 26= .int .i64 (i54:Int)) b.length ?_ ?_
  ·refine ⟨0,w.high,(Nat.sub_zero _).symm,Nat.zero_le _,c,rfl,?_⟩;simp only[*,go_sem]
  rintro gn gp F' U ⟨i54,l,rfl,gB,c,rfl,gC⟩;obtain ⟨bj,bk,bm⟩:=U.pick [4,5,6,24,25] (by decide);simp only[*,go_sem] at bj bk bm;clear U O hd P k1;refine ah hJ ?_;simp only[*,go_sem];refine af hJ ?_;rcases Nat.lt_or_ge i54 b.length with bo|V
  ·refine bJ hJ (by simp only[*,go_sem]) ?_;refine aI hJ ?_;obtain ⟨y,K⟩:∃x,b[i54]?=some x:=⟨_,List.getElem?_eq_getElem bo⟩
   rw[dg K] at c;revert c;refine bS fun gM h br=>?_;unfold mm at h;(try dsimp only at h);obtain ⟨gT,bs,bz,b0,d⟩:=T.el _ _ K;obtain rfl:bs=y.cells:=b0;cases bz;have b1:=d 0 _ rfl;simp only[go_sem] at b1;have b2:=d 1 _ rfl;simp only[go_sem] at b2;have b3:=d 2 _ rfl;simp only[go_sem] at b3;have b4:=d 3 _ rfl;simp only[go_sem] at b4;have b5:=d 4 _ rfl;simp only[go_sem] at b5;have ca:=d 5 _ rfl;simp only[go_sem] at ca;clear d K;refine af hJ (aP hJ (af hJ ?_));refine aj hJ ?_;simp only[*,go_sem];refine ay fun gV g0 cb=>?_;try simp only[au] at cb
   (try simp only[*,go_sem]);refine av hJ fun cd=>?_;refine aj hJ ?_;revert h;refine bS fun cf cl h=>?_;obtain rfl:=sI h;simp only[*,go_sem];refine ay fun g1 cu W=>?_;have g2:=aQ.cons W cd;try simp only[au] at W
   (try simp only[*,go_sem]);refine bn hJ _ (nv (dM:=76) (ee:=#[]) (ef:=#[]) eA ⟨by simp only[go_sem],fun L M f g _ h=>by simp only[go_sem];exact iZ f g h⟩ l ([y.high]) ((aB.flat (r:=iq) (e:=23) (cs:=#[.int .i64 y.high.num,.int .i64 y.high.den]) an.cells ([y.high]) (fun _=>rfl) cu rfl (by simp)).mono (jX (by simp only[*,go_sem]))) cl) (aK ?_);(try simp only[*,go_sem]);have g3:=cp (n:=i54) (by have:=bb;omega);refine aj hJ ?_;simp only[*,go_sem];refine ⟨b.length - (i54+1),by omega,_,Le.sub (List.Sublist.cons _ (List.Sublist.cons _ (List.Sublist.refl _))),i54+1,cf,rfl,by omega,br,rfl,?_⟩;simp only[*,go_sem]
  have g4:=Nat.not_lt.2 V;refine bI hJ (by simp only[*,go_sem]) ?_;rw[List.drop_eq_nil_of_le V] at c;obtain rfl:=sI c;clear c;have h:=bd;dsimp only[aA] at h;refine bN ?_;simp only[go_sem];refine af hJ ?_;refine av hJ fun cy=>?_;refine aj hJ ?_;revert h;refine bS fun cS c0 h=>?_;simp only[*,go_sem];refine bn hJ _ (pQ u l c0) (aK ?_);revert h;refine bS fun B da h=>?_;try simp only[*,go_sem]
  refine bn hJ _ (jz 0 da) (aK ?_);revert h;refine bS fun ha db h=>?_;obtain rfl:=sI h;try simp only[*,go_sem]
  refine ay fun hc dd X=>?_;have hf:=aQ.cons X cy;try simp only[au] at X
  try simp only[*,go_sem]
  refine bn hJ _ (nv (dM:=76) (ee:=#[]) (ef:=#[]) eA ⟨by simp only[go_sem],fun L M f g _ h=>by simp only[go_sem];exact iZ f g h⟩ cS ([B]) ((aB.flat (r:=iq) (e:=23) (cs:=#[.int .i64 B.num,.int .i64 B.den]) an.cells ([B]) (fun _=>rfl) dd rfl (by simp)).mono (jX (by simp only[*,go_sem]))) db) (aK ?_);try simp only[*,go_sem]
  refine az ?_;simp only[*,go_sem]
 refine aI hJ (af hJ ?_);refine ah hJ ?_;revert h;refine bS fun i df h=>?_;simp only[*,go_sem];refine cc hJ _ (vo u0 t a df) fun v dk hg dp H=>?_;obtain ⟨hh,rfl,Y⟩:=H;simp only[bp] at dp;obtain ⟨d94,hi,rfl,hj,dq,-⟩:=id Y;refine aK ?_;try simp only[*,go_sem]
 refine aP hJ ?_;revert h;refine bS fun ds j dt=>?_;refine bR hJ [8,26,27,28,29,30,31,32,33,34,35] (fun m I F'=>∃(i100:Nat) (o:an),m=i.length - i100/\i100<=i.length/\bE (mo) i100 (i.drop i100) o=some ds/\F'=⟨dk,(S,rt w.high.num w.high.den)::(R,rt o.num o.den)::(G,rt 0 0)::(E,.cells #[.int .i64 a.back,.int .i64 a.high] 134)::(D,bl u0 s1 p q s)::[]⟩/\slot I 26= .int .i64 (i100:Int)) i.length ?_ ?_
 ·refine ⟨0,u,(Nat.sub_zero _).symm,Nat.zero_le _,j,rfl,?_⟩;simp only[*,go_sem]
 rintro hk hl F' Z ⟨i100,o,rfl,hn,j,rfl,ho⟩;obtain ⟨du,dv,dC⟩:=Z.pick [4,5,6,24,25] (by decide);simp only[*,go_sem] at du dv dC;clear Z O hd P k1;refine ah hJ ?_;simp only[*,go_sem];refine af hJ ?_;rcases Nat.lt_or_ge i100 i.length with dE|ab
 ·refine bJ hJ (by simp only[*,go_sem]) ?_;refine aI hJ ?_;obtain ⟨z,N⟩:∃x,i[i100]?=some x:=⟨_,List.getElem?_eq_getElem dE⟩
  rw[dg N] at j;revert j;refine bS fun hp h dT=>?_;unfold mo at h;try dsimp only at h
  obtain ⟨hq,ea,eb,ec,k⟩:=Y.el _ _ N;obtain rfl:ea=z.cells:=ec;cases eb;have ed:=k 0 _ rfl;simp only[go_sem] at ed;have eh:=k 1 _ rfl;simp only[go_sem] at eh;have et:=k 2 _ rfl;simp only[go_sem] at et;have eu:=k 3 _ rfl;simp only[go_sem] at eu;have ev:=k 4 _ rfl;simp only[go_sem] at ev;have eQ:=k 5 _ rfl;simp only[go_sem] at eQ;clear k N;refine af hJ (aP hJ (af hJ ?_));refine aj hJ ?_;simp only[*,go_sem];refine ay fun hr ht eS=>?_;try simp only[au] at eS
  try simp only[*,go_sem]
  refine av hJ fun e0=>?_;refine aj hJ ?_;revert h;refine bS fun e1 e2 h=>?_;obtain rfl:=sI h;simp only[*,go_sem];refine ay fun hv e3 ad=>?_;have hx:=aQ.cons ad e0;try simp only[au] at ad
  try simp only[*,go_sem]
  refine bn hJ _ (nv (dM:=76) (ee:=#[]) (ef:=#[]) eA ⟨by simp only[go_sem],fun L M f g _ h=>by simp only[go_sem];exact iZ f g h⟩ o ([z.high]) ((aB.flat (r:=iq) (e:=23) (cs:=#[.int .i64 z.high.num,.int .i64 z.high.den]) an.cells ([z.high]) (fun _=>rfl) e3 rfl (by simp)).mono (jX (by simp only[*,go_sem]))) e2) (aK ?_);try simp only[*,go_sem]
  have hy:=cp (n:=i100) (by have:=dq;omega);refine aj hJ ?_;simp only[*,go_sem];refine ⟨i.length - (i100+1),by omega,_,Le.sub (List.Sublist.cons _ (List.Sublist.cons _ (List.Sublist.refl _))),i100+1,e1,rfl,by omega,dT,rfl,?_⟩;simp only[*,go_sem]
 have hz:=Nat.not_lt.2 ab;refine bI hJ (by simp only[*,go_sem]) ?_;rw[List.drop_eq_nil_of_le ab] at j;obtain rfl:=sI j;clear j;have h:=dt;dsimp only[aA] at h;refine bN ?_;simp only[go_sem];refine af hJ ?_;refine av hJ fun fa=>?_;refine aj hJ ?_;revert h;refine bS fun fb fg h=>?_;simp only[*,go_sem];refine bn hJ _ (pQ w.high o fg) (aK ?_);revert h;refine bS fun C fi h=>?_;try simp only[*,go_sem]
 refine bn hJ _ (jz 0 fi) (aK ?_);revert h;refine bS fun hA fo h=>?_;obtain rfl:=sI h;try simp only[*,go_sem]
 refine ay fun hB fp ae=>?_;have hD:=aQ.cons ae fa;try simp only[au] at ae
 try simp only[*,go_sem]
 refine bn hJ _ (nv (dM:=76) (ee:=#[]) (ef:=#[]) eA ⟨by simp only[go_sem],fun L M f g _ h=>by simp only[go_sem];exact iZ f g h⟩ fb ([C]) ((aB.flat (r:=iq) (e:=23) (cs:=#[.int .i64 C.num,.int .i64 C.den]) an.cells ([C]) (fun _=>rfl) fp rfl (by simp)).mono (jX (by simp only[*,go_sem]))) fo) (aK ?_);try simp only[*,go_sem]
 refine az ?_;simp only[*,go_sem]
def gy (u0:ak)(a:aY):Option Bool:=
 ag (kZ u0 a) fun b=>ag (eA u0.aF b) fun c=>some c
theorem mq {ro:Addr->Option Value}(u0:ak){s1 b c d:Value}(f:bL ro u0 s1 b c d)(a:aY){r:Bool}(h:gy u0 a=some r):aC Tryz.prog 81 #[bv u0 s1 b c d,.agg #[.int .i64 a.back,.int .i64 a.high]] ⟨ro,[]⟩ (fun v _=>v= .bool r):=by
 unfold gy at h;refine aC.go Tryz.func81 rfl Tryz.ntmps81 Tryz.results81 (by simp) fun main J hJ A m hd hs=>?_;have n:=hs 0;have k1:=hs 1;clear hs;refine ah hJ ?_;simp only[*,go_sem];refine ay fun o p g=>?_;try simp only[au] at g
 refine ay fun q s i=>?_;try simp only[au] at i
 try simp only[*,go_sem]
 refine af hJ ?_;refine cL hJ mixed 8 2 (by simp only[*,go_sem]) (by kernel_rfl) ?_;revert h;refine bS fun j k h=>?_;simp only[*,go_sem];refine ⟨_,bx hJ fun F e=>rR u0 (f.mono (b9 e)) a k,bP ?_⟩;revert h;refine bS fun t l h=>?_;obtain rfl:=sI h;try simp only[*,go_sem]
 refine ⟨_,bx hJ fun F e=>iZ u0.aF j l,bP ?_⟩;try simp only[*,go_sem]
 refine az ?_;simp only[*,go_sem]
def vp (u0:((List Int)->(List Int)->Option Bool))(i22:Nat)(a:(List Int))(st:(List Int)):Option (Fl (List Int) (List Int)):=
 ag (u0 st a) fun b=>cond (b) (some (.nx a)) (some (.nx st))
def vq (u0:((List Int)->(List Int)->Option Bool))(a:(List Int))(b:(List (List Int))):Option (List Int):=
 ag (bE (vp u0) 0 b a) fun o=>aA o (fun c=>some c) (fun _ _=>none) (fun r=>some r)
theorem FN {ro:Addr->Option Value}(u0:((List Int)->(List Int)->Option Bool)){dM:FuncId}{ee ef:Array Value}(G:aJ Tryz.prog dM=true/\∀(aN:Addr->Option Value),Ext ro aN->∀(k:(List Int)) (l:Value) (o:(List Int)) (p:Value) (z:Bool),aB rI aN l k->aB rI aN p o->u0 k o=some z->aC Tryz.prog dM (ee++#[l,p]++ef) ⟨aN,[]⟩ (fun v _=>v= .bool z))(g:(List Int)){s1:Value}(q:aB rI ro s1 g)(b:(List (List Int))){s:Value}(t:aB (rL rI) ro s b){r:(List Int)}(h:vq u0 g b=some r):eH Tryz.prog 104 #[.func (.func dM) ee ef,s1,s] ro (fun v aN=>∃u,v=u/\aB rI aN u r):=by
 obtain ⟨d3,c4,rfl,Y,Z,-⟩:=id q;obtain ⟨d10,ab,rfl,ad,w,-⟩:=id t;unfold vq at h;refine aC.go Tryz.func104 rfl Tryz.ntmps104 Tryz.results104 (by simp) fun main J hJ A H hd hs=>?_;have I:=hs 0;have k1:=hs 1;have K:=hs 2;clear hs;refine ah hJ ?_;simp only[*,go_sem];refine af hJ (ah hJ ?_);simp only[*,go_sem];refine aP hJ ?_;revert h;refine bS fun L c M=>?_;refine bR hJ [1,8,11,12,13,14,15,16,17,18,19,20] (fun m y F'=>∃(i22:Nat) (d16:Option Addr) (e:Nat) (d:(List Int)),m=b.length - i22/\i22<=b.length/\bE (vp u0) i22 (b.drop i22) d=some L/\F'=⟨ro,[]⟩/\aB rI ro (.slice d16 d.length e) d/\slot y 11= .int .i64 (i22:Int)/\slot y 1= .slice d16 d.length e) b.length ?_ ?_
 ·refine ⟨0,d3,c4,g,(Nat.sub_zero _).symm,Nat.zero_le _,c,rfl,q,?_⟩;simp only[*,go_sem]
 rintro ae al F' B ⟨i22,d16,e,d,rfl,ao,c,rfl,f,ar,a0⟩;obtain ⟨a2,a3,-⟩:=f.op;obtain ⟨N,O,P⟩:=B.pick [0,6,9,10] (by decide);simp only[*,go_sem] at N O P;clear B H hd I k1 K;refine ah hJ ?_;simp only[*,go_sem];refine af hJ ?_;rcases Nat.lt_or_ge i22 b.length with Q|C
 ·refine bJ hJ (by simp only[*,go_sem]) ?_;refine aI hJ ?_;obtain ⟨D,i⟩:∃x,b[i22]?=some x:=⟨_,List.getElem?_eq_getElem Q⟩
  rw[dg i] at c;revert c;refine bS fun a4 h E=>?_;unfold vp at h;try dsimp only at h
  obtain ⟨a5,a6,R,S,F⟩:=t.el _ _ i;obtain ⟨a7,rfl,j⟩:=S;obtain ⟨d31,T,rfl,a8,a9,ba⟩:=id j;cases R;have U:=F 0 _ rfl;simp only[go_sem] at U;clear F i;refine af hJ (aP hJ (af hJ ?_));refine aj hJ ?_;simp only[*,go_sem];refine ah hJ ?_;revert h;refine bS fun bb V h=>?_;simp only[*,go_sem];refine bn hJ _ (G.2 _ (fun a v h=>aW a v h) d _ D _ _ (f.mono aW) (j.mono aW) V) ?_;try simp only[*,go_sem]
  revert h;refine jC hJ (by simp only[*,go_sem]) (fun W h=>?_) fun W h=>?_
  ·obtain rfl:=sI h;refine aj hJ ?_;simp only[*,go_sem];have X:=cp (n:=i22) (by have:=w;omega);refine aj hJ ?_;simp only[*,go_sem];refine ⟨b.length - (i22+1),by omega,_,Le.sub (List.Sublist.refl _),i22+1,d31,T,D,rfl,by omega,E,rfl,j,?_⟩;simp only[*,go_sem]
  obtain rfl:=sI h;refine aI hJ ?_;have X:=cp (n:=i22) (by have:=w;omega);refine aj hJ ?_;simp only[*,go_sem];refine ⟨b.length - (i22+1),by omega,_,Le.sub (List.Sublist.refl _),i22+1,d16,e,d,rfl,by omega,E,rfl,f,?_⟩;simp only[*,go_sem]
 have bc:=Nat.not_lt.2 C;refine bI hJ (by simp only[*,go_sem]) ?_;rw[List.drop_eq_nil_of_le C] at c;obtain rfl:=sI c;clear c;have h:=M;dsimp only[aA] at h;obtain rfl:=sI h;refine bN ?_;simp only[go_sem];refine ah hJ ?_;simp only[*,go_sem];refine az ?_;simp only[*,go_sem];exact ⟨_,Ext.refl _,Le.sub (List.nil_sublist _),_,rfl,f⟩
def vr (u0:(List Int))(a:(List Int))(st:(Bool×Int)):Option (Fl (Bool×Int) Bool):=
 cond (decide (st.2<(u0.length:Int))) (ag (bh u0 st.2) fun b=>ag (bh a st.2) fun c=>cond ((b != c)) (some (.rt false)) (some (.nx (st.1,(IntKind.i64.wrap (st.2+1)))))) (some (.bk (st.1,st.2)))
def vt (u0:(List Int))(a:(List Int)):Option Bool:=
 cond (((u0.length:Int) != (a.length:Int))) (some false) (ag (aS (vr u0 a) fu (false,0)) fun o=>aA o (fun b=>some true) (fun _ _=>none) (fun r=>some r))
theorem FO {ro:Addr->Option Value}(u0:(List Int)){s1:Value}(g:aB rI ro s1 u0)(e:(List Int)){i:Value}(j:aB rI ro i e){r:Bool}(h:vt u0 e=some r):aC Tryz.prog 53 #[s1,i] ⟨ro,[]⟩ (fun v _=>v= .bool r):=by
 obtain ⟨d3,c4,rfl,R,S,-⟩:=id g;obtain ⟨d10,T,rfl,U,V,-⟩:=id j;unfold vt at h;refine aC.go Tryz.func53 rfl Tryz.ntmps53 Tryz.results53 (by simp) fun main J hJ A t hd hs=>?_;have u:=hs 0;have k1:=hs 1;clear hs;refine ah hJ ?_;simp only[*,go_sem];refine af hJ (ah hJ ?_);simp only[*,go_sem];revert h;refine jC hJ (by simp only[*,go_sem]) (fun w h=>?_) fun w h=>?_
 ·obtain rfl:=sI h;refine ah hJ ?_;simp only[*,go_sem];refine az ?_;simp only[*,go_sem]
 refine aI hJ (af hJ ?_);refine ah hJ ?_;simp only[*,go_sem];refine aP hJ ?_;revert h;refine bS fun x b k=>?_;refine bR hJ [4,5,11,12,13,14,15,16,17,18,19,20,21,22,23,24,25] (fun m l F'=>∃(c:Bool) (d:Int),aS (vr u0 e) m (c,d)=some x/\F'=⟨ro,[]⟩/\slot l 4= .bool c/\slot l 5= .int .i64 d) fu ?_ ?_
 ·refine ⟨false,0,b,rfl,?_⟩;simp only[*,go_sem]
 rintro f W F' n ⟨c,d,b,rfl,X,Y⟩;obtain ⟨y,z,B⟩:=n.pick [0,1] (by decide);simp only[*,go_sem] at y z B;clear n t hd u k1;obtain _|f:=f
 ·exact absurd b (by simp only[aS,reduceCtorEq,not_false_eq_true])
 revert b;refine bS fun Z h a=>?_;unfold vr at h;try dsimp only at h
 refine af hJ (ah hJ ?_);simp only[*,go_sem];revert h;refine jC hJ (by simp only[*,go_sem]) (fun C h=>?_) fun C h=>?_
 ·refine aI hJ (af hJ ?_);refine aP hJ (af hJ ?_);refine cL hJ mixed 9 0 (by simp only[*,go_sem]) (by kernel_rfl) ?_;revert h;refine bS fun D E h=>?_;obtain ⟨ab,ad,o⟩:=cK E;obtain ⟨ae,F,G,H,p⟩:=g.el _ _ o;obtain rfl:F=[.int .i64 D]:=H;cases G;have I:=p 0 _ rfl;simp only[go_sem] at I;clear p o;revert h;refine bS fun K L h=>?_;obtain ⟨al,ao,q⟩:=cK L;obtain ⟨ar,M,N,O,s⟩:=j.el _ _ q;obtain rfl:M=[.int .i64 K]:=O;cases N;have P:=s 0 _ rfl;simp only[go_sem] at P;clear s q;try simp only[*,go_sem]
  revert h;refine jC hJ (by simp only[*,go_sem]) (fun Q h=>?_) fun Q h=>?_
  ·obtain rfl:=sI h;refine ah hJ ?_;simp only[*,go_sem];obtain rfl:=sI a;clear a;have h:=k;dsimp only[aA] at h;obtain rfl:=sI h;refine az ?_;simp only[*,go_sem]
  obtain rfl:=sI h;refine aI hJ (aj hJ ?_);simp only[*,go_sem];refine ⟨f,Nat.lt_succ_self _,_,Le.sub (List.Sublist.refl _),c,(IntKind.i64.wrap (d+1)),a,rfl,?_⟩;simp only[*,go_sem]
 obtain rfl:=sI h;refine bN ?_;simp only[go_sem];obtain rfl:=sI a;clear a;have h:=k;dsimp only[aA] at h;obtain rfl:=sI h;refine ah hJ ?_;simp only[*,go_sem];refine az ?_;simp only[*,go_sem]
def mw (u0:(List Int))(a:(List Int)):Option Bool:=
 ag (vt u0 a) fun b=>some b
theorem pW {ro:Addr->Option Value}(u0:(List Int)){s1:Value}(b:aB rI ro s1 u0)(a:(List Int)){c:Value}(d:aB rI ro c a){r:Bool}(h:mw u0 a=some r):aC Tryz.prog 63 #[s1,c] ⟨ro,[]⟩ (fun v _=>v= .bool r):=by
 obtain ⟨d3,c4,rfl,f,g,-⟩:=id b;obtain ⟨d10,i,rfl,j,k,-⟩:=id d;unfold mw at h;refine aC.go Tryz.func63 rfl Tryz.ntmps63 Tryz.results63 (by simp) fun main J hJ A l hd hs=>?_;have m:=hs 0;have k1:=hs 1;clear hs;refine ah hJ ?_;simp only[*,go_sem];refine ah hJ ?_;revert h;refine bS fun n e h=>?_;obtain rfl:=sI h;simp only[*,go_sem];refine bn hJ _ (FO u0 (b.mono aW) a (d.mono aW) e) (aK ?_);try simp only[*,go_sem]
 refine az ?_;simp only[*,go_sem]
def rS (a:aY)(i10:Nat)(b:aY)(st:Int):Option (Fl Int Int):=
 cond (((a.back==b.back)&&(a.high==b.high))) (some (.rt (i10:Int))) (some (.nx st))
def rT (u0:(List aY))(a:aY):Option Int:=
 ag (bE (rS a) 0 u0 0) fun o=>aA o (fun b=>some (-1)) (fun _ _=>none) (fun r=>some r)
theorem FP {ro:Addr->Option Value}(u0:(List aY)){s1:Value}(g:aB iY ro s1 u0)(b:aY){r:Int}(h:rT u0 b=some r):aC Tryz.prog 150 #[s1,.agg #[.int .i64 b.back,.int .i64 b.high]] ⟨ro,[]⟩ (fun v _=>v= .int .i64 r):=by
 obtain ⟨d3,c4,rfl,K,o,-⟩:=id g;unfold rT at h;refine aC.go Tryz.func150 rfl Tryz.ntmps150 Tryz.results150 (by simp) fun main J hJ A p hd hs=>?_;have q:=hs 0;have k1:=hs 1;clear hs;refine ah hJ ?_;simp only[*,go_sem];refine ay fun s L t=>?_;try simp only[au] at t
 try simp only[*,go_sem]
 refine af hJ (ah hJ ?_);simp only[*,go_sem];refine aP hJ ?_;revert h;refine bS fun u a i=>?_;refine bR hJ [4,5,8,9,10,11,12,13,14,15,16,17,18] (fun m j F'=>∃(i10:Nat) (c:Int),m=u0.length - i10/\i10<=u0.length/\bE (rS b) i10 (u0.drop i10) c=some u/\F'=⟨ro,(s,.cells #[.int .i64 b.back,.int .i64 b.high] 134)::[]⟩/\slot j 8= .int .i64 (i10:Int)/\slot j 4= .int .i64 c) u0.length ?_ ?_
 ·refine ⟨0,0,(Nat.sub_zero _).symm,Nat.zero_le _,a,rfl,?_⟩;simp only[*,go_sem]
 rintro M N F' k ⟨i10,c,rfl,O,a,rfl,P,Q⟩;obtain ⟨w,y,z⟩:=k.pick [0,3,7] (by decide);simp only[*,go_sem] at w y z;clear k p hd q k1;refine ah hJ ?_;simp only[*,go_sem];refine af hJ ?_;rcases Nat.lt_or_ge i10 u0.length with B|l
 ·refine bJ hJ (by simp only[*,go_sem]) ?_;refine aI hJ ?_;obtain ⟨C,d⟩:∃x,u0[i10]?=some x:=⟨_,List.getElem?_eq_getElem B⟩
  rw[dg d] at a;revert a;refine bS fun R h e=>?_;unfold rS at h;try dsimp only at h
  obtain ⟨S,D,E,F,f⟩:=g.el _ _ d;obtain rfl:D=C.cells:=F;cases E;have G:=f 0 _ rfl;simp only[go_sem] at G;have H:=f 1 _ rfl;simp only[go_sem] at H;clear f d;refine af hJ (aP hJ (af hJ ?_));refine aj hJ ?_;simp only[*,go_sem];refine af hJ ?_;refine cL hJ mixed 6 1 (by simp only[*,go_sem]) (by kernel_rfl) ?_;simp only[*,go_sem];revert h;refine jC hJ (by simp only[*,go_sem]) (fun I h=>?_) fun I h=>?_
  ·obtain rfl:=sI h;refine ah hJ ?_;simp only[*,go_sem];obtain rfl:=sI e;clear e;have h:=i;dsimp only[aA] at h;obtain rfl:=sI h;refine az ?_;simp only[*,go_sem]
  obtain rfl:=sI h;refine aI hJ ?_;have T:=cp (n:=i10) (by have:=o;omega);refine aj hJ ?_;simp only[*,go_sem];refine ⟨u0.length - (i10+1),by omega,_,Le.sub (List.Sublist.refl _),i10+1,c,rfl,by omega,e,rfl,?_⟩;simp only[*,go_sem]
 have U:=Nat.not_lt.2 l;refine bI hJ (by simp only[*,go_sem]) ?_;rw[List.drop_eq_nil_of_le l] at a;obtain rfl:=sI a;clear a;have h:=i;dsimp only[aA] at h;obtain rfl:=sI h;refine bN ?_;simp only[go_sem];refine ah hJ ?_;simp only[*,go_sem];refine az ?_;simp only[*,go_sem]
def pX (u0:(List aY))(a:aY):Option Bool:=
 ag (rT u0 a) fun b=>some (decide (0<=b))
theorem FQ {ro:Addr->Option Value}(u0:(List aY)){s1:Value}(b:aB iY ro s1 u0)(a:aY){r:Bool}(h:pX u0 a=some r):aC Tryz.prog 125 #[s1,.agg #[.int .i64 a.back,.int .i64 a.high]] ⟨ro,[]⟩ (fun v _=>v= .bool r):=by
 obtain ⟨d3,c4,rfl,e,f,-⟩:=id b;unfold pX at h;refine aC.go Tryz.func125 rfl Tryz.ntmps125 Tryz.results125 (by simp) fun main J hJ A g hd hs=>?_;have i:=hs 0;have k1:=hs 1;clear hs;refine ah hJ ?_;simp only[*,go_sem];refine ay fun j k c=>?_;try simp only[au] at c
 try simp only[*,go_sem]
 refine ah hJ ?_;revert h;refine bS fun l d h=>?_;obtain rfl:=sI h;simp only[*,go_sem];refine bn hJ _ (FP u0 (b.mono aW) a d) (aK ?_);try simp only[*,go_sem]
 refine az ?_;simp only[*,go_sem]
def rU (a:(bU->Option Bool))(i9:Nat)(b:bU)(st:Int):Option (Fl Int Int):=
 ag (a b) fun c=>cond (c) (some (.rt (i9:Int))) (some (.nx st))
def rV (u0:(List bU))(a:(bU->Option Bool)):Option Int:=
 ag (bE (rU a) 0 u0 0) fun o=>aA o (fun b=>some (-1)) (fun _ _=>none) (fun r=>some r)
theorem FR {ro:Addr->Option Value}(u0:(List bU)){s1:Value}(i:aB di ro s1 u0)(d:(bU->Option Bool)){dz:FuncId}{dX dY:Array Value}(s:aJ Tryz.prog dz=true/\∀(aN:Addr->Option Value),Ext ro aN->∀(j:bU) (z:Bool),d j=some z->aC Tryz.prog dz (dX++#[j.v]++dY) ⟨aN,[]⟩ (fun v _=>v= .bool z)){r:Int}(h:rV u0 d=some r):aC Tryz.prog 176 #[s1,.func (.func dz) dX dY] ⟨ro,[]⟩ (fun v _=>v= .int .i64 r):=by
 obtain ⟨d3,c4,rfl,N,t,-⟩:=id i;unfold rV at h;refine aC.go Tryz.func176 rfl Tryz.ntmps176 Tryz.results176 (by simp) fun main J hJ A u hd hs=>?_;have w:=hs 0;have k1:=hs 1;clear hs;refine ah hJ ?_;simp only[*,go_sem];refine af hJ (ah hJ ?_);simp only[*,go_sem];refine aP hJ ?_;revert h;refine bS fun y b k=>?_;refine bR hJ [4,5,8,9,10,11,12,13,14,15,16,17,18] (fun m l F'=>∃(i9:Nat) (c:Int),m=u0.length - i9/\i9<=u0.length/\bE (rU d) i9 (u0.drop i9) c=some y/\F'=⟨ro,[]⟩/\slot l 8= .int .i64 (i9:Int)/\slot l 4= .int .i64 c) u0.length ?_ ?_
 ·refine ⟨0,0,(Nat.sub_zero _).symm,Nat.zero_le _,b,rfl,?_⟩;simp only[*,go_sem]
 rintro O P F' o ⟨i9,c,rfl,Q,b,rfl,R,S⟩;obtain ⟨B,C,D⟩:=o.pick [0,1,7] (by decide);simp only[*,go_sem] at B C D;clear o u hd w k1;refine ah hJ ?_;simp only[*,go_sem];refine af hJ ?_;rcases Nat.lt_or_ge i9 u0.length with E|p
 ·refine bJ hJ (by simp only[*,go_sem]) ?_;refine aI hJ ?_;obtain ⟨q,e⟩:∃x,u0[i9]?=some x:=⟨_,List.getElem?_eq_getElem E⟩
  rw[dg e] at b;revert b;refine bS fun T h f=>?_;unfold rU at h;try dsimp only at h
  obtain ⟨U,F,G,H,g⟩:=i.el _ _ e;obtain rfl:F=q.cells:=H;cases G;have I:=g 0 _ rfl;simp only[go_sem] at I;have K:=g 1 _ rfl;simp only[go_sem] at K;clear g e;refine af hJ (aP hJ (af hJ ?_));refine aj hJ ?_;simp only[*,go_sem];refine ah hJ ?_;revert h;refine bS fun V L h=>?_;simp only[*,go_sem];refine bn hJ _ (s.2 _ (fun a v h=>aW a v h) q _ L) ?_;try simp only[*,go_sem]
  revert h;refine jC hJ (by simp only[*,go_sem]) (fun M h=>?_) fun M h=>?_
  ·obtain rfl:=sI h;refine ah hJ ?_;simp only[*,go_sem];obtain rfl:=sI f;clear f;have h:=k;dsimp only[aA] at h;obtain rfl:=sI h;refine az ?_;simp only[*,go_sem]
  obtain rfl:=sI h;refine aI hJ ?_;have W:=cp (n:=i9) (by have:=t;omega);refine aj hJ ?_;simp only[*,go_sem];refine ⟨u0.length - (i9+1),by omega,_,Le.sub (List.Sublist.refl _),i9+1,c,rfl,by omega,f,rfl,?_⟩;simp only[*,go_sem]
 have X:=Nat.not_lt.2 p;refine bI hJ (by simp only[*,go_sem]) ?_;rw[List.drop_eq_nil_of_le p] at b;obtain rfl:=sI b;clear b;have h:=k;dsimp only[aA] at h;obtain rfl:=sI h;refine bN ?_;simp only[go_sem];refine ah hJ ?_;simp only[*,go_sem];refine az ?_;simp only[*,go_sem]
def pY (u0:(List bU))(a:(bU->Option Bool)):Option Bool:=
 ag (rV u0 a) fun b=>some (decide (0<=b))
theorem FT {ro:Addr->Option Value}(u0:(List bU)){s1:Value}(b:aB di ro s1 u0)(a:(bU->Option Bool)){dz:FuncId}{dX dY:Array Value}(c:aJ Tryz.prog dz=true/\∀(aN:Addr->Option Value),Ext ro aN->∀(d:bU) (z:Bool),a d=some z->aC Tryz.prog dz (dX++#[d.v]++dY) ⟨aN,[]⟩ (fun v _=>v= .bool z)){r:Bool}(h:pY u0 a=some r):aC Tryz.prog 145 #[s1,.func (.func dz) dX dY] ⟨ro,[]⟩ (fun v _=>v= .bool r):=by
 obtain ⟨d3,c4,rfl,f,g,-⟩:=id b;unfold pY at h;refine aC.go Tryz.func145 rfl Tryz.ntmps145 Tryz.results145 (by simp) fun main J hJ A i hd hs=>?_;have j:=hs 0;have k1:=hs 1;clear hs;refine ah hJ ?_;simp only[*,go_sem];refine ah hJ ?_;revert h;refine bS fun k e h=>?_;obtain rfl:=sI h;simp only[*,go_sem];refine bn hJ _ (FR (dz:=dz) (dX:=dX) (dY:=dY) u0 (b.mono aW) a ⟨c.1,fun _ hx=>c.2 _ (Ext.trans aW hx)⟩ e) (aK ?_);try simp only[*,go_sem]
 refine az ?_;simp only[*,go_sem]
def vu (a:(aY->Option Bool))(i9:Nat)(b:aY)(st:Int):Option (Fl Int Int):=
 ag (a b) fun c=>cond (c) (some (.rt (i9:Int))) (some (.nx st))
def vv (u0:(List aY))(a:(aY->Option Bool)):Option Int:=
 ag (bE (vu a) 0 u0 0) fun o=>aA o (fun b=>some (-1)) (fun _ _=>none) (fun r=>some r)
theorem FU {ro:Addr->Option Value}(u0:(List aY)){s1:Value}(i:aB iY ro s1 u0)(d:(aY->Option Bool)){dz:FuncId}{dX dY:Array Value}(s:aJ Tryz.prog dz=true/\∀(aN:Addr->Option Value),Ext ro aN->∀(j:aY) (z:Bool),d j=some z->aC Tryz.prog dz (dX++#[j.v]++dY) ⟨aN,[]⟩ (fun v _=>v= .bool z)){r:Int}(h:vv u0 d=some r):aC Tryz.prog 192 #[s1,.func (.func dz) dX dY] ⟨ro,[]⟩ (fun v _=>v= .int .i64 r):=by
 obtain ⟨d3,c4,rfl,N,t,-⟩:=id i;unfold vv at h;refine aC.go Tryz.func192 rfl Tryz.ntmps192 Tryz.results192 (by simp) fun main J hJ A u hd hs=>?_;have w:=hs 0;have k1:=hs 1;clear hs;refine ah hJ ?_;simp only[*,go_sem];refine af hJ (ah hJ ?_);simp only[*,go_sem];refine aP hJ ?_;revert h;refine bS fun y b k=>?_;refine bR hJ [4,5,8,9,10,11,12,13,14,15,16,17,18] (fun m l F'=>∃(i9:Nat) (c:Int),m=u0.length - i9/\i9<=u0.length/\bE (vu d) i9 (u0.drop i9) c=some y/\F'=⟨ro,[]⟩/\slot l 8= .int .i64 (i9:Int)/\slot l 4= .int .i64 c) u0.length ?_ ?_
 ·refine ⟨0,0,(Nat.sub_zero _).symm,Nat.zero_le _,b,rfl,?_⟩;simp only[*,go_sem]
 rintro O P F' o ⟨i9,c,rfl,Q,b,rfl,R,S⟩;obtain ⟨B,C,D⟩:=o.pick [0,1,7] (by decide);simp only[*,go_sem] at B C D;clear o u hd w k1;refine ah hJ ?_;simp only[*,go_sem];refine af hJ ?_;rcases Nat.lt_or_ge i9 u0.length with E|p
 ·refine bJ hJ (by simp only[*,go_sem]) ?_;refine aI hJ ?_;obtain ⟨q,e⟩:∃x,u0[i9]?=some x:=⟨_,List.getElem?_eq_getElem E⟩
  rw[dg e] at b;revert b;refine bS fun T h f=>?_;unfold vu at h;try dsimp only at h
  obtain ⟨U,F,G,H,g⟩:=i.el _ _ e;obtain rfl:F=q.cells:=H;cases G;have I:=g 0 _ rfl;simp only[go_sem] at I;have K:=g 1 _ rfl;simp only[go_sem] at K;clear g e;refine af hJ (aP hJ (af hJ ?_));refine aj hJ ?_;simp only[*,go_sem];refine ah hJ ?_;revert h;refine bS fun V L h=>?_;simp only[*,go_sem];refine bn hJ _ (s.2 _ (fun a v h=>aW a v h) q _ L) ?_;try simp only[*,go_sem]
  revert h;refine jC hJ (by simp only[*,go_sem]) (fun M h=>?_) fun M h=>?_
  ·obtain rfl:=sI h;refine ah hJ ?_;simp only[*,go_sem];obtain rfl:=sI f;clear f;have h:=k;dsimp only[aA] at h;obtain rfl:=sI h;refine az ?_;simp only[*,go_sem]
  obtain rfl:=sI h;refine aI hJ ?_;have W:=cp (n:=i9) (by have:=t;omega);refine aj hJ ?_;simp only[*,go_sem];refine ⟨u0.length - (i9+1),by omega,_,Le.sub (List.Sublist.refl _),i9+1,c,rfl,by omega,f,rfl,?_⟩;simp only[*,go_sem]
 have X:=Nat.not_lt.2 p;refine bI hJ (by simp only[*,go_sem]) ?_;rw[List.drop_eq_nil_of_le p] at b;obtain rfl:=sI b;clear b;have h:=k;dsimp only[aA] at h;obtain rfl:=sI h;refine bN ?_;simp only[go_sem];refine ah hJ ?_;simp only[*,go_sem];refine az ?_;simp only[*,go_sem]
def vw (u0:(List aY))(a:(aY->Option Bool)):Option Bool:=
 ag (vv u0 a) fun b=>some (decide (0<=b))
theorem FV {ro:Addr->Option Value}(u0:(List aY)){s1:Value}(b:aB iY ro s1 u0)(a:(aY->Option Bool)){dz:FuncId}{dX dY:Array Value}(c:aJ Tryz.prog dz=true/\∀(aN:Addr->Option Value),Ext ro aN->∀(d:aY) (z:Bool),a d=some z->aC Tryz.prog dz (dX++#[d.v]++dY) ⟨aN,[]⟩ (fun v _=>v= .bool z)){r:Bool}(h:vw u0 a=some r):aC Tryz.prog 164 #[s1,.func (.func dz) dX dY] ⟨ro,[]⟩ (fun v _=>v= .bool r):=by
 obtain ⟨d3,c4,rfl,f,g,-⟩:=id b;unfold vw at h;refine aC.go Tryz.func164 rfl Tryz.ntmps164 Tryz.results164 (by simp) fun main J hJ A i hd hs=>?_;have j:=hs 0;have k1:=hs 1;clear hs;refine ah hJ ?_;simp only[*,go_sem];refine ah hJ ?_;revert h;refine bS fun k e h=>?_;obtain rfl:=sI h;simp only[*,go_sem];refine bn hJ _ (FU (dz:=dz) (dX:=dX) (dY:=dY) u0 (b.mono aW) a ⟨c.1,fun _ hx=>c.2 _ (Ext.trans aW hx)⟩ e) (aK ?_);try simp only[*,go_sem]
 refine az ?_;simp only[*,go_sem]
def pZ (a:(aV->Option Bool))(i38:Nat)(b:aV)(st:Int):Option (Fl Int Int):=
 ag (a b) fun c=>cond (c) (some (.nx (IntKind.i64.wrap (st+1)))) (some (.nx st))
def nJ (u0:cM)(b:(aV->Option Bool)):Option Int:=
 ag (bE (pZ b) 0 u0.all 0) fun o=>aA o (fun a=>cond ((a==(u0.all.length:Int))) (some 1) (cond ((a==0)) (some 2) (some 0))) (fun _ _=>none) (fun r=>some r)
theorem Aw {ro:Addr->Option Value}(u0:cM){s1 e f g:Value}(Z:bL ro u0.book s1 e f g){k:Value}(l:aB gP ro k u0.all)(i:(aV->Option Bool)){dz:FuncId}{dX dY:Array Value}(y:aJ Tryz.prog dz=true/\∀(aN:Addr->Option Value),Ext ro aN->∀(o:aV) (z:Bool),i o=some z->aC Tryz.prog dz (dX++#[o.v]++dY) ⟨aN,[]⟩ (fun v _=>v= .bool z)){r:Int}(h:nJ u0 i=some r):aC Tryz.prog 79 #[.agg #[.int .i64 u0.book.bH,.int .i64 u0.book.bV,.int .i64 u0.book.aF.num,.int .i64 u0.book.aF.den,s1,e,f,g,k],.func (.func dz) dX dY] ⟨ro,[]⟩ (fun v _=>v= .int .i64 r):=by
 obtain ⟨d31,B,rfl,ab,p,-⟩:=id l;unfold nJ at h;refine aC.go Tryz.func79 rfl Tryz.ntmps79 Tryz.results79 (by simp) fun main J hJ A C hd hs=>?_;have D:=hs 0;have k1:=hs 1;clear hs;refine ah hJ ?_;simp only[*,go_sem];refine ay fun E ad F=>?_;try simp only[au] at F
 try simp only[*,go_sem]
 refine ah hJ ?_;simp only[*,go_sem];refine af hJ (ah hJ ?_);simp only[*,go_sem];refine aP hJ ?_;revert h;refine bS fun G b H=>?_;refine bR hJ [5,7,11,12,13,14,15,16,17,18,19,20] (fun m q F'=>∃(i38:Nat) (c:Int),m=u0.all.length - i38/\i38<=u0.all.length/\bE (pZ i) i38 (u0.all.drop i38) c=some G/\F'=⟨ro,(E,kn u0 s1 e f g (sl d31 u0.all B))::[]⟩/\slot q 11= .int .i64 (i38:Int)/\slot q 5= .int .i64 c) u0.all.length ?_ ?_
 ·refine ⟨0,0,(Nat.sub_zero _).symm,Nat.zero_le _,b,rfl,?_⟩;simp only[*,go_sem]
 rintro ae al F' s ⟨i38,c,rfl,ao,b,rfl,ar,a0⟩;obtain ⟨I,K,L⟩:=s.pick [1,2,4,9,10] (by decide);simp only[*,go_sem] at I K L;clear s C hd D k1;refine ah hJ ?_;simp only[*,go_sem];refine af hJ ?_;rcases Nat.lt_or_ge i38 u0.all.length with M|t
 ·refine bJ hJ (by simp only[*,go_sem]) ?_;refine aI hJ ?_;obtain ⟨u,j⟩:∃x,u0.all[i38]?=some x:=⟨_,List.getElem?_eq_getElem M⟩
  rw[dg j] at b;revert b;refine bS fun a2 h w=>?_;unfold pZ at h;try dsimp only at h
  obtain ⟨a3,N,O,P,d⟩:=l.el _ _ j;obtain rfl:N=u.cells:=P;cases O;have Q:=d 0 _ rfl;simp only[go_sem] at Q;have R:=d 1 _ rfl;simp only[go_sem] at R;have S:=d 2 _ rfl;simp only[go_sem] at S;clear d j;refine af hJ (aP hJ (af hJ ?_));refine aj hJ ?_;simp only[*,go_sem];refine ay fun a4 a5 T=>?_;try simp only[au] at T
  try simp only[*,go_sem]
  refine ah hJ ?_;revert h;refine bS fun a6 U h=>?_;simp only[*,go_sem];refine bn hJ _ (y.2 _ (fun a v h=>aW a v h) u _ U) ?_;try simp only[*,go_sem]
  revert h;refine jC hJ (by simp only[*,go_sem]) (fun V h=>?_) fun V h=>?_
  ·obtain rfl:=sI h;refine aj hJ ?_;simp only[*,go_sem];have W:=cp (n:=i38) (by have:=p;omega);refine aj hJ ?_;simp only[*,go_sem];refine ⟨u0.all.length - (i38+1),by omega,_,Le.sub (List.Sublist.cons _ (List.Sublist.refl _)),i38+1,(IntKind.i64.wrap (c+1)),rfl,by omega,w,rfl,?_⟩;simp only[*,go_sem]
  obtain rfl:=sI h;refine aI hJ ?_;have W:=cp (n:=i38) (by have:=p;omega);refine aj hJ ?_;simp only[*,go_sem];refine ⟨u0.all.length - (i38+1),by omega,_,Le.sub (List.Sublist.cons _ (List.Sublist.refl _)),i38+1,c,rfl,by omega,w,rfl,?_⟩;simp only[*,go_sem]
 have a7:=Nat.not_lt.2 t;refine bI hJ (by simp only[*,go_sem]) ?_;rw[List.drop_eq_nil_of_le t] at b;obtain rfl:=sI b;clear b;have h:=H;dsimp only[aA] at h;refine bN ?_;simp only[go_sem];refine af hJ (ah hJ ?_);simp only[*,go_sem];refine aP hJ (af hJ ?_);refine aj hJ ?_;simp only[*,go_sem];revert h;refine jC hJ (by simp only[*,go_sem]) (fun X h=>?_) fun X h=>?_
 ·obtain rfl:=sI h;refine ah hJ ?_;simp only[*,go_sem];refine az ?_;simp only[*,go_sem]
 refine ah hJ ?_;simp only[*,go_sem];revert h;refine jC hJ (by simp only[*,go_sem]) (fun Y h=>?_) fun Y h=>?_
 ·obtain rfl:=sI h;refine ah hJ ?_;simp only[*,go_sem];refine az ?_;simp only[*,go_sem]
 obtain rfl:=sI h;refine aI hJ (af hJ ?_);refine aj hJ ?_;simp only[*,go_sem];refine az ?_;simp only[*,go_sem]
def p5 (u0:bU)(a:ak)(w1:aV):Option Bool:=
 ag (aV.get w1 u0.aX) fun b=>ag (ir a u0.aX b) fun c=>ag (gy a c) fun d=>some (!(d==u0.bu))
theorem FW {ro:Addr->Option Value}(u0:bU)(a:ak){b:Nat}(y:ro ⟨b,0,none⟩=some (.int .i64 a.bH))(z:ro ⟨b,1,none⟩=some (.int .i64 a.bV))(B:ro ⟨b,2,none⟩=some (.int .i64 a.aF.num))(C:ro ⟨b,3,none⟩=some (.int .i64 a.aF.den)){s1:Value}(e:aB eY ro s1 a.aD)(D:ro ⟨b,4,none⟩=some (s1)){j:Value}(f:aB ez ro j a.props)(E:ro ⟨b,5,none⟩=some (j)){k:Value}(g:aB eT ro k a.aH)(G:ro ⟨b,6,none⟩=some (k)){l:Value}(i:aB di ro l a.told)(H:ro ⟨b,7,none⟩=some (l))(w1:aV){d:Nat}(o:ro ⟨d,0,none⟩=some (.int .i64 w1.e0))(p:ro ⟨d,1,none⟩=some (.int .i64 w1.e1))(q:ro ⟨d,2,none⟩=some (.int .i64 w1.e2)){r:Bool}(h:p5 u0 a w1=some r):aC Tryz.prog 146 #[.agg #[.int .i64 u0.aX,.bool u0.bu],.pointer (some ⟨b,0,none⟩),.pointer (some ⟨d,0,none⟩)] ⟨ro,[]⟩ (fun v _=>v= .bool r):=by
 obtain ⟨d3,c4,rfl,I,K,-⟩:=id e;obtain ⟨d10,L,rfl,M,N,-⟩:=id f;obtain ⟨d17,O,rfl,P,Q,-⟩:=id g;obtain ⟨d24,R,rfl,S,T,-⟩:=id i;unfold p5 at h;refine aC.go Tryz.func146 rfl Tryz.ntmps146 Tryz.results146 (by simp) fun main J hJ A U hd hs=>?_;have V:=hs 0;have k1:=hs 1;have W:=hs 2;clear hs;refine ah hJ ?_;simp only[*,go_sem];refine ay fun X Y s=>?_;try simp only[au] at s
 try simp only[*,go_sem]
 refine af hJ ?_;refine cL hJ mixed 14 1 (by simp only[*,go_sem]) (by kernel_rfl) ?_;revert h;refine bS fun t m h=>?_;obtain ⟨Z,ab,n⟩:=aV.get_some m;clear n;have n:=aV.Fw m o p q;revert h;refine bS fun u w h=>?_;try simp only[*,go_sem]
 refine ⟨_,bx hJ fun F c=>mc a ⟨(e.mono (b9 c)),(f.mono (b9 c)),(g.mono (b9 c)),(i.mono (b9 c))⟩ u0.aX t w,bP ?_⟩;revert h;refine bS fun ad x h=>?_;obtain rfl:=sI h;try simp only[*,go_sem]
 refine ⟨_,bx hJ fun F c=>mq a ⟨(e.mono (b9 c)),(f.mono (b9 c)),(g.mono (b9 c)),(i.mono (b9 c))⟩ u x,bP ?_⟩;try simp only[*,go_sem]
 refine az ?_;simp only[*,go_sem]
def nL (u0:ak)(a:aV):Option Bool:=
 ag (pY u0.told (fun b=>p5 b u0 a)) fun c=>some (!c)
theorem FX {ro:Addr->Option Value}(u0:ak){s1 f g i:Value}(b:bL ro u0 s1 f g i)(c:aV){r:Bool}(h:nL u0 c=some r):aC Tryz.prog 118 #[bv u0 s1 f g i,.agg #[.int .i64 c.e0,.int .i64 c.e1,.int .i64 c.e2]] ⟨ro,[]⟩ (fun v _=>v= .bool r):=by
 obtain ⟨d3,c4,rfl,q,s,-⟩:=id b.e;obtain ⟨d10,u,rfl,w,x,-⟩:=id b.p;obtain ⟨d17,z,rfl,B,C,-⟩:=id b.y;obtain ⟨d24,D,rfl,E,F,-⟩:=id b.t;unfold nL at h;refine aC.go Tryz.func118 rfl Tryz.ntmps118 Tryz.results118 (by simp) fun main J hJ A G hd hs=>?_;have H:=hs 0;have k1:=hs 1;clear hs;refine ah hJ ?_;simp only[*,go_sem];refine ay fun j I k=>?_;try simp only[au] at k
 refine ay fun l K m=>?_;try simp only[au] at m
 try simp only[*,go_sem]
 refine ah hJ ?_;revert h;refine bS fun L n h=>?_;obtain rfl:=sI h;simp only[*,go_sem];refine bn hJ _ (FT (dz:=146) (dX:=#[]) (dY:=#[.pointer (some ⟨j,0,none⟩),.pointer (some ⟨l,0,none⟩)]) u0.told (b.t.mono aW) (fun d=>p5 d u0 c) ⟨by simp only[go_sem],fun M a d N o=>by simp only[go_sem];exact FW d u0 (a _ _ (by simp only[aa.cq,go_sem, *])) (a _ _ (by simp only[aa.cq,go_sem, *])) (a _ _ (by simp only[aa.cq,go_sem, *])) (a _ _ (by simp only[aa.cq,go_sem, *])) ((b.e.mono aW).mono a) (a _ _ (by simp only[aa.cq,go_sem, *])) ((b.p.mono aW).mono a) (a _ _ (by simp only[aa.cq,go_sem, *])) ((b.y.mono aW).mono a) (a _ _ (by simp only[aa.cq,go_sem, *])) ((b.t.mono aW).mono a) (a _ _ (by simp only[aa.cq,go_sem, *])) c (a _ _ (by simp only[aa.cq,go_sem, *])) (a _ _ (by simp only[aa.cq,go_sem, *])) (a _ _ (by simp only[aa.cq,go_sem, *])) o⟩ n) (aK ?_);try simp only[*,go_sem]
 refine az ?_;simp only[*,go_sem]
def rW (u0:ak)(a:(List aY)):Option Bool:=
 ag (vw a (gy u0)) fun b=>some (!b)
theorem FY {ro:Addr->Option Value}(u0:ak){s1 c d f:Value}(a:bL ro u0 s1 c d f)(g:(List aY)){i:Value}(j:aB iY ro i g){r:Bool}(h:rW u0 g=some r):aC Tryz.prog 136 #[bv u0 s1 c d f,i] ⟨ro,[]⟩ (fun v _=>v= .bool r):=by
 obtain ⟨d31,n,rfl,o,q,-⟩:=id j;unfold rW at h;refine aC.go Tryz.func136 rfl Tryz.ntmps136 Tryz.results136 (by simp) fun main J hJ A s hd hs=>?_;have u:=hs 0;have k1:=hs 1;clear hs;refine ah hJ ?_;simp only[*,go_sem];refine ay fun w x k=>?_;try simp only[au] at k
 try simp only[*,go_sem]
 refine ah hJ ?_;revert h;refine bS fun z l h=>?_;obtain rfl:=sI h;simp only[*,go_sem];refine bn hJ _ (FV (dz:=81) (dX:=#[bv u0 s1 c d f]) (dY:=#[]) g (j.mono aW) (gy u0) ⟨by simp only[go_sem],fun B b m _ h=>by simp only[go_sem];exact mq u0 ⟨((a.e.mono aW).mono b),((a.p.mono aW).mono b),((a.y.mono aW).mono b),((a.t.mono aW).mono b)⟩ m h⟩ l) (aK ?_);try simp only[*,go_sem]
 refine az ?_;simp only[*,go_sem]
def rX (u0:aV)(a:cM)(w1:Int):Option Bool:=
 ag (aV.get u0 w1) fun b=>ag (ir a.book w1 b) fun c=>ag (gy a.book c) fun d=>some d
theorem FZ {ro:Addr->Option Value}(u0:aV)(a:cM){b:Nat}(x:ro ⟨b,0,none⟩=some (.int .i64 a.book.bH))(y:ro ⟨b,1,none⟩=some (.int .i64 a.book.bV))(z:ro ⟨b,2,none⟩=some (.int .i64 a.book.aF.num))(B:ro ⟨b,3,none⟩=some (.int .i64 a.book.aF.den)){s1:Value}(d:aB eY ro s1 a.book.aD)(C:ro ⟨b,4,none⟩=some (s1)){i:Value}(e:aB ez ro i a.book.props)(D:ro ⟨b,5,none⟩=some (i)){j:Value}(f:aB eT ro j a.book.aH)(E:ro ⟨b,6,none⟩=some (j)){k:Value}(g:aB di ro k a.book.told)(G:ro ⟨b,7,none⟩=some (k)){l:Value}(n:aB gP ro l a.all)(H:ro ⟨b,8,none⟩=some (l))(w1:Int){m:Nat}(I:ro ⟨m,0,none⟩=some (.int .i64 w1)){r:Bool}(h:rX u0 a w1=some r):aC Tryz.prog 80 #[.agg #[.int .i64 u0.e0,.int .i64 u0.e1,.int .i64 u0.e2],.pointer (some ⟨b,0,none⟩),.pointer (some ⟨m,0,none⟩)] ⟨ro,[]⟩ (fun v _=>v= .bool r):=by
 obtain ⟨d3,c4,rfl,K,L,-⟩:=id d;obtain ⟨d10,M,rfl,N,O,-⟩:=id e;obtain ⟨d17,P,rfl,Q,R,-⟩:=id f;obtain ⟨d24,S,rfl,T,U,-⟩:=id g;obtain ⟨d31,V,rfl,W,X,-⟩:=id n;unfold rX at h;refine aC.go Tryz.func80 rfl Tryz.ntmps80 Tryz.results80 (by simp) fun main J hJ A Y hd hs=>?_;have Z:=hs 0;have k1:=hs 1;have ab:=hs 2;clear hs;refine ah hJ ?_;simp only[*,go_sem];refine ay fun ad ae o=>?_;try simp only[au] at o
 try simp only[*,go_sem]
 refine af hJ ?_;refine cL hJ mixed 11 1 (by simp only[*,go_sem]) (by kernel_rfl) ?_;revert h;refine bS fun p q h=>?_;obtain ⟨al,ao,s⟩:=aV.get_some q;try simp only[go_sem] at s
 revert h;refine bS fun t u h=>?_;try simp only[*,go_sem]
 refine ⟨_,bx hJ fun F c=>mc a.book ⟨(d.mono (b9 c)),(e.mono (b9 c)),(f.mono (b9 c)),(g.mono (b9 c))⟩ w1 p u,bP ?_⟩;revert h;refine bS fun ar w h=>?_;obtain rfl:=sI h;try simp only[*,go_sem]
 refine ⟨_,bx hJ fun F c=>mq a.book ⟨(d.mono (b9 c)),(e.mono (b9 c)),(f.mono (b9 c)),(g.mono (b9 c))⟩ t w,bP ?_⟩;try simp only[*,go_sem]
 refine az ?_;simp only[*,go_sem]
def rY (u0:aV)(a:cM)(i38:Nat)(e:b6)(st:Bool):Option (Fl Bool Bool):=
 ag (aV.get u0 (i38:Int)) fun b=>ag (ir a.book (i38:Int) b) fun c=>ag (gy a.book c) fun d=>cond (d) (some (.rt false)) (some (.nx st))
def jD (u0:aV)(a:cM):Option Bool:=
 ag (bE (rY u0 a) 0 a.book.aH false) fun o=>aA o (fun b=>some true) (fun _ _=>none) (fun r=>some r)
theorem F1 {ro:Addr->Option Value}(u0:aV)(a:cM){b:Nat}(ae:ro ⟨b,0,none⟩=some (.int .i64 a.book.bH))(al:ro ⟨b,1,none⟩=some (.int .i64 a.book.bV))(ao:ro ⟨b,2,none⟩=some (.int .i64 a.book.aF.num))(ar:ro ⟨b,3,none⟩=some (.int .i64 a.book.aF.den)){s1:Value}(i:aB eY ro s1 a.book.aD)(a0:ro ⟨b,4,none⟩=some (s1)){p:Value}(j:aB ez ro p a.book.props)(a2:ro ⟨b,5,none⟩=some (p)){q:Value}(e:aB eT ro q a.book.aH)(a3:ro ⟨b,6,none⟩=some (q)){s:Value}(k:aB di ro s a.book.told)(a4:ro ⟨b,7,none⟩=some (s)){t:Value}(B:aB gP ro t a.all)(a5:ro ⟨b,8,none⟩=some (t)){r:Bool}(h:jD u0 a=some r):aC Tryz.prog 84 #[.agg #[.int .i64 u0.e0,.int .i64 u0.e1,.int .i64 u0.e2],.pointer (some ⟨b,0,none⟩)] ⟨ro,[]⟩ (fun v _=>v= .bool r):=by
 obtain ⟨d3,c4,rfl,a6,a7,-⟩:=id i;obtain ⟨d10,a8,rfl,a9,ba,-⟩:=id j;obtain ⟨d17,bb,rfl,bc,C,-⟩:=id e;obtain ⟨d24,bd,rfl,bj,bk,-⟩:=id k;obtain ⟨d31,bl,rfl,bm,bo,-⟩:=id B;unfold jD at h;refine aC.go Tryz.func84 rfl Tryz.ntmps84 Tryz.results84 (by simp) fun main J hJ A D hd hs=>?_;have E:=hs 0;have k1:=hs 1;clear hs;refine ah hJ ?_;simp only[*,go_sem];refine ay fun G br H=>?_;try simp only[au] at H
 try simp only[*,go_sem]
 refine af hJ (ah hJ ?_);simp only[*,go_sem];refine aP hJ ?_;revert h;refine bS fun I d u=>?_;refine bR hJ [3,4,10,11,12,13,14,15,16,17,18,19,20,21,22,23] (fun m w F'=>∃(i38:Nat) (f:Bool),m=a.book.aH.length - i38/\i38<=a.book.aH.length/\bE (rY u0 a) i38 (a.book.aH.drop i38) f=some I/\F'=⟨ro,(G,.cells #[.int .i64 u0.e0,.int .i64 u0.e1,.int .i64 u0.e2] 121)::[]⟩/\slot w 10= .int .i64 (i38:Int)/\slot w 3= .bool f) a.book.aH.length ?_ ?_
 ·refine ⟨0,false,(Nat.sub_zero _).symm,Nat.zero_le _,d,rfl,?_⟩;simp only[*,go_sem]
 rintro bs bz F' y ⟨i38,f,rfl,b0,d,rfl,b1,b2⟩;obtain ⟨K,L,M⟩:=y.pick [1,2,9] (by decide);simp only[*,go_sem] at K L M;clear y D hd E k1;refine ah hJ ?_;simp only[*,go_sem];refine af hJ ?_;rcases Nat.lt_or_ge i38 a.book.aH.length with N|z
 ·refine bJ hJ (by simp only[*,go_sem]) ?_;refine aI hJ ?_;obtain ⟨O,l⟩:∃x,a.book.aH[i38]?=some x:=⟨_,List.getElem?_eq_getElem N⟩
  rw[dg l] at d;revert d;refine bS fun b3 h o=>?_;unfold rY at h;try dsimp only at h
  obtain ⟨b4,P,Q,R,g⟩:=e.el _ _ l;obtain rfl:P=O.cells:=R;cases Q;have S:=g 0 _ rfl;simp only[go_sem] at S;have T:=g 1 _ rfl;simp only[go_sem] at T;have U:=g 2 _ rfl;simp only[go_sem] at U;clear g l;refine af hJ (aP hJ (af hJ ?_));refine aj hJ ?_;simp only[*,go_sem];refine af hJ ?_;refine cL hJ mixed 10 1 (by simp only[*,go_sem]) (by kernel_rfl) ?_;revert h;refine bS fun V W h=>?_;obtain ⟨b5,ca,X⟩:=aV.get_some W;try simp only[go_sem] at X
  revert h;refine bS fun Y Z h=>?_;try simp only[*,go_sem]
  refine ⟨_,bx hJ fun F c=>mc a.book ⟨(i.mono (b9 c)),(j.mono (b9 c)),(e.mono (b9 c)),(k.mono (b9 c))⟩ (i38:Int) V Z,bP ?_⟩;revert h;refine bS fun cb ab h=>?_;try simp only[*,go_sem]
  refine ⟨_,bx hJ fun F c=>mq a.book ⟨(i.mono (b9 c)),(j.mono (b9 c)),(e.mono (b9 c)),(k.mono (b9 c))⟩ Y ab,?_⟩;try simp only[*,go_sem]
  revert h;refine jC hJ (by simp only[*,go_sem]) (fun ad h=>?_) fun ad h=>?_
  ·obtain rfl:=sI h;refine ah hJ ?_;simp only[*,go_sem];obtain rfl:=sI o;clear o;have h:=u;dsimp only[aA] at h;obtain rfl:=sI h;refine az ?_;simp only[*,go_sem]
  obtain rfl:=sI h;refine aI hJ ?_;have cd:=cp (n:=i38) (by have:=C;omega);refine aj hJ ?_;simp only[*,go_sem];refine ⟨a.book.aH.length - (i38+1),by omega,_,Le.sub (List.Sublist.refl _),i38+1,f,rfl,by omega,o,rfl,?_⟩;simp only[*,go_sem]
 have cf:=Nat.not_lt.2 z;refine bI hJ (by simp only[*,go_sem]) ?_;rw[List.drop_eq_nil_of_le z] at d;obtain rfl:=sI d;clear d;have h:=u;dsimp only[aA] at h;obtain rfl:=sI h;refine bN ?_;simp only[go_sem];refine ah hJ ?_;simp only[*,go_sem];refine az ?_;simp only[*,go_sem]
def aV.setAt (h:aV)(i n:Int):Option aV:=if i=0 then some {h with e0:=n} else if i=1 then some {h with e1:=n} else if i=2 then some {h with e2:=n} else none
theorem aV.F2 {h a:aV}{i n:Int}(e:h.setAt i n=some a):(i=0/\a={h with e0:=n})\/(i=1/\a={h with e1:=n})\/(i=2/\a={h with e2:=n}):=by
 unfold aV.setAt at e;split at e
 ·exact .inl ⟨‹_›,(Option.some.inj e).symm⟩
 ·split at e
  ·exact .inr (.inl ⟨‹_›,(Option.some.inj e).symm⟩)
  ·split at e
   ·exact .inr (.inr ⟨‹_›,(Option.some.inj e).symm⟩)
   ·cases e
def je (f:aV->List (Option aV)×aV)(i hi:Int):Nat->Int->aV->List (Option aV)×aV
 |0,_,h=>([none],h)
 |k+1,n,h=>if n<=hi then match h.setAt i n with
   |none=>([none],h)
   |some a=>((f a).1++(je f i hi k (IntKind.i64.wrap (n+1)) (f a).2).1,(je f i hi k (IntKind.i64.wrap (n+1)) (f a).2).2)
  else ([],h)
def eL (b:ak):Nat->Int->aV->List (Option aV)×aV
 |0,_,h=>([none],h)
 |fuel+1,i,h=>if i=b.aH.length then ((match nL b h with
   |some true=>[some h]
   |some false=>[]
   |none=>[none]),h)
  else match bh b.aH i with
   |none=>([none],h)
   |some e=>je (eL b fuel (IntKind.i64.wrap (i+1))) i e.high.high 100 e.high.low h
def mz (b:ak):List (Option aV):=(eL b 5 0 ⟨0,0,0⟩).1
theorem F3 {H σ:Type}{step:σ->H->Option (Bool×σ)}{l l':List (Option H)}{s s':σ}{c:Bool}(h:eX step (l++l') s=some (c,s')):
  (∃s1,eX step l s=some (true,s1)/\eX step l' s1=some (c,s'))\/(eX step l s=some (false,s')/\c=false):=by
 rw[Af] at h
 split at h
 ·rename_i s1 a;exact .inl ⟨s1,a,h⟩
 ·rename_i s1 a;simp only[Option.some.injEq,Prod.mk.injEq] at h;obtain ⟨rfl,rfl⟩:=h;exact .inr ⟨a,rfl⟩
 ·cases h
theorem p6 {H σ:Type}{step:σ->H->Option (Bool×σ)}{s:σ}{r:Bool×σ}(h:eX step [none] s=some r):False:=by cases h
section
variable {ro : Addr → Option Value} {σ : Type} {step : σ → aV → Option (Bool × σ)} {I : σ → List (Nat × Obj) → Prop} {y : Value}
def nM (b:ak)(s1 s2 a c y:Value)(b2 b3 b4 b5:Nat)(h:aV):List (Nat×Obj):=
 [(b5,.cells #[.func (.func 117) #[] #[.pointer (some ⟨b2,0,none⟩),.pointer (some ⟨b4,0,none⟩),.pointer (some ⟨b3,0,none⟩),.pointer (some ⟨b5,0,none⟩)]] 165),
  (b4,.cells #[.int .i64 h.e0,.int .i64 h.e1,.int .i64 h.e2] 121),(b3,.cells #[y] 139),
  (b2,.cells #[.int .i64 b.bH,.int .i64 b.bV,.int .i64 b.aF.num,.int .i64 b.aF.den,s1,s2,a,c] 115)]
theorem F4 (u0:ak){s1 s2 x z:Value}(E:aB eY ro s1 u0.aD)(F:aB ez ro s2 u0.props)(G:aB eT ro x u0.aH)(H:aB di ro z u0.told)(V:vg Tryz.prog y aV.v step ro I)
  {b2 b3 b4 b5:Nat} (n1:¬b5=b4) (n2:¬b5=b3) (n3:¬b5=b2) (bb:¬b4=b3) (bc:¬b4=b2) (bd:¬b3=b2) (bj:∀off sp,ro ⟨b5,off,sp⟩=none) (bk:∀off sp,ro ⟨b4,off,sp⟩=none) (bl:∀off sp,ro ⟨b3,off,sp⟩=none) (bm:∀off sp,ro ⟨b2,off,sp⟩=none):
  ∀(fuel:Nat) (i:Int) (b:aV) (s:σ) (c:Bool) (s':σ),eX step (eL u0 fuel i b).1 s=some (c,s')->∀(main:Bool) (J:Goroutine->aa->Prop),Closed Tryz.prog main J->∀own,I s own->
   cR Tryz.prog J 117 #[.int .i64 i,.pointer (some ⟨b2,0,none⟩),.pointer (some ⟨b4,0,none⟩),.pointer (some ⟨b3,0,none⟩),.pointer (some ⟨b5,0,none⟩)] ⟨ro,nM u0 s1 s2 x z y b2 b3 b4 b5 b++own⟩
    (fun v F'=>∃o q,Le ⟨ro,nM u0 s1 s2 x z y b2 b3 b4 b5 o++q⟩ F'/\v= .bool c/\I s' q/\(c=true->o=(eL u0 fuel i b).2)):=by
 intro fuel
 induction fuel with
 |zero=>intro i b s c s' h;exact (p6 h).elim
 |succ fuel ih=>
  intro i b s c s' h main J hJ own j
  obtain ⟨K,L,rfl,bo,br,e1⟩:=id E
  obtain ⟨M,N,rfl,bs,bz,e2⟩:=id F
  obtain ⟨W,O,rfl,bS,b0,X⟩:=id G
  obtain ⟨P,Q,rfl,b1,ca,cb⟩:=id H
  refine cR.go hJ Tryz.func117 rfl Tryz.ntmps117 Tryz.results117 (by simp) fun A Y hd hs=>?_
  have Z:=hs 0
  have k1:=hs 1
  have ab:=hs 2
  have ad:=hs 3
  have ae:=hs 4
  clear hs
  unfold eL at h
  have cd:(0:Int)<((3:Nat):Int):=by decide
  have cf:(1:Int)<((3:Nat):Int):=by decide
  have cl:(2:Int)<((3:Nat):Int):=by decide
  repeat refine af hJ ?_
  refine aj hJ ?_
  simp only[*,go_sem,-h]
  repeat refine af hJ ?_
  refine aj hJ ?_
  simp only[nM,go_sem, *,-h]
  repeat refine af hJ ?_
  by_cases hi:i=(u0.aH.length:Int)
  ·rw[if_pos hi] at h
   repeat refine af hJ ?_
   refine bJ hJ (by simp only[*,go_sem,-h]) ?_
   repeat refine af hJ ?_
   refine av hJ fun nd=>?_
   repeat refine af hJ ?_
   refine aj hJ ?_
   simp only[*,go_sem,-h]
   cases f:nL u0 b with
   |none=>rw[f] at h;exact (p6 h).elim
   |some r=>
    rw[f] at h
    refine bn hJ _ (FX u0 ⟨(E.mono aW),(F.mono aW),(G.mono aW),(H.mono aW)⟩ b f) (aK ?_)
    cases r with
    |false=>
     cases h
     simp only[*,go_sem]
     repeat refine af hJ ?_
     refine az ?_
     simp only[*,go_sem]
     refine ⟨b,own,Le.refl _,?_⟩
     first|exact ⟨rfl,j,fun _=>by unfold eL;rw[if_pos rfl]⟩|exact ⟨j,fun _=>by unfold eL;rw[if_pos rfl]⟩|exact ⟨j,by unfold eL;rw[if_pos rfl]⟩|exact j
    |true=>
     have al:step s b=some (c,s'):=by
      simp only[eX] at h
      split at h<;>first|(cases h;assumption)|cases h
     simp only[*,go_sem,-h]
     refine E5 hJ (nM u0 (.slice K u0.aD.length L) (.slice M u0.props.length N) (.slice W u0.aH.length O) (.slice P u0.told.length Q) y b2 b3 b4 b5 b) (fun m ao ar=>V s b c s' al m ao ar own j) nd ?_
     rintro v q ⟨rfl,R⟩ cu
     refine aK ?_
     simp only[*,go_sem,-h]
     repeat refine af hJ ?_
     refine az ?_
     simp only[*,go_sem,-h]
     refine ⟨b,q,Le.refl _,?_⟩
     first|exact ⟨rfl,R,fun _=>by unfold eL;rw[if_pos rfl]⟩|exact ⟨R,fun _=>by unfold eL;rw[if_pos rfl]⟩
  ·rw[if_neg hi] at h
   have cy:(i==(u0.aH.length:Int))=false:=by simpa using hi
   repeat refine af hJ ?_
   refine bI hJ (by simp only[*,go_sem,-h]) ?_
   refine aI hJ ?_
   cases f:bh u0.aH i with
   |none=>rw[f] at h;exact (p6 h).elim
   |some e=>
    rw[f] at h
    simp only at h
    have a0:=f
    obtain ⟨cS,c0,S⟩:=cK f
    obtain ⟨a2,cse,a3,a4,t⟩:=X _ _ S
    obtain rfl:cse=e.cells:=a4
    cases a3
    have a5:=t 0 _ rfl;simp only[go_sem] at a5
    have a6:=t 1 _ rfl;simp only[go_sem] at a6
    have a7:=t 2 _ rfl;simp only[go_sem] at a7
    clear t S
    repeat refine af hJ ?_
    refine aj hJ ?_
    simp only[*,go_sem,-h]
    repeat refine af hJ ?_
    refine aP hJ ?_
    refine bR hJ [6,7,31,32,33,34,35,36,37,38,39,40,41,42,43,44,45,46,47,48,49,50] (fun m a8 F'=>∃(n:Int) (h:aV) (s:σ) (own:List (Nat×Obj)),eX step (je (eL u0 fuel (IntKind.i64.wrap (i+1))) i e.high.high m n h).1 s=some (c,s')/\
     (c=true->(je (eL u0 fuel (IntKind.i64.wrap (i+1))) i e.high.high m n h).2=(eL u0 (fuel+1) i b).2)/\F'=⟨ro,nM u0 (.slice K u0.aD.length L) (.slice M u0.props.length N) (.slice (some a2) u0.aH.length O) (.slice P u0.told.length Q) y b2 b3 b4 b5 h++own⟩/\I s own/\slot a8 7= .int .i64 n) 100 ?_ ?_
    ·have a9:(eL u0 (fuel+1) i b).2=(je (eL u0 fuel (IntKind.i64.wrap (i+1))) i e.high.high 100 e.high.low b).2:=by
      rw[eL,if_neg hi,a0]
     exact ⟨e.high.low,b,s,own,h,fun _=>a9.symm,rfl,j,by simp only[*,go_sem,-h]⟩
    ·rintro m k F' g ⟨n,o,s1,B,a,d,rfl,p,da⟩
     clear h j
     have db:sz k=51:=by rw[g.size];simp only[*,go_sem]
     have kd:k.defers=[]:=by rw[g.defers];simp only[*,go_sem]
     have dd:slot k 0= .int .i64 i:=by rw[g.c8 0 (by decide)];simp only[*,go_sem]
     have df:slot k 1= .pointer (some ⟨b2,0,none⟩):=by rw[g.c8 1 (by decide)];simp only[*,go_sem]
     have dk:slot k 2= .pointer (some ⟨b4,0,none⟩):=by rw[g.c8 2 (by decide)];simp only[*,go_sem]
     have dp:slot k 3= .pointer (some ⟨b3,0,none⟩):=by rw[g.c8 3 (by decide)];simp only[*,go_sem]
     have dq:slot k 4= .pointer (some ⟨b5,0,none⟩):=by rw[g.c8 4 (by decide)];simp only[*,go_sem]
     clear g Z k1 ab ad ae Y hd
     obtain _|m:=m
     ·exact (p6 a).elim
     unfold je at a d
     repeat refine af hJ ?_
     refine aj hJ ?_
     simp only[nM,go_sem, *,-a]
     repeat refine af hJ ?_
     by_cases u:n<=e.high.high
     ·rw[if_pos u] at a
      rw[if_pos u] at d
      repeat refine af hJ ?_
      refine bJ hJ (by simp only[*,go_sem,-a]) ?_
      refine aI hJ ?_
      cases C:o.setAt i n with
      |none=>rw[C] at a;exact (p6 a).elim
      |some ds=>
       rw[C] at a d
       simp only at a d
       repeat refine af hJ ?_
       refine aP hJ ?_
       repeat refine af hJ ?_
       refine av hJ fun nd=>?_
       repeat refine af hJ ?_
       refine aj hJ ?_
       rcases aV.F2 C with ⟨D,rfl⟩|⟨D,rfl⟩|⟨D,rfl⟩<;>subst D<;>
       (simp only[*,go_sem,-a]
        repeat refine af hJ ?_
        refine aj hJ ?_
        simp only[*,go_sem,-a]
        have ba:=F3 a
        clear a
        rcases ba with ⟨s2,hA,a⟩|⟨hA,rfl⟩
        ·refine cR.less hJ ((ih _ _ _ _ _ hA _ J hJ B p).mono ?_)
         rintro v F' ⟨T,U,hle,rfl,l,w⟩
         have w:=w rfl
         subst w
         refine ⟨_,hle,aK ?_⟩
         simp only[*,go_sem,-a]
         repeat refine af hJ ?_
         refine bI hJ (by simp only[*,go_sem,-a]) ?_
         refine aI hJ ?_
         repeat refine af hJ ?_
         refine aj hJ ?_
         simp only[*,go_sem,-a]
         exact ⟨m,Nat.lt_succ_self m,_,Le.refl _,_,_,_,_,a,d,rfl,l,by simp only[*,go_sem,-a]⟩
        ·refine cR.less hJ ((ih _ _ _ _ _ hA _ J hJ B p).mono ?_)
         rintro v F' ⟨T,U,hle,rfl,l,w⟩
         refine ⟨_,hle,aK ?_⟩
         simp only[*,go_sem]
         repeat refine af hJ ?_
         refine bJ hJ (by simp only[*,go_sem]) ?_
         repeat refine af hJ ?_
         refine aj hJ ?_
         simp only[*,go_sem]
         repeat refine af hJ ?_
         refine az ?_
         simp only[*,go_sem]
         refine ⟨T,U,Le.refl _,?_⟩
         first|exact ⟨rfl,l,fun h=>by cases h⟩|exact ⟨l,fun h=>by cases h⟩|exact l|exact ⟨l,trivial⟩)
     ·rw[if_neg u] at a
      rw[if_neg u] at d
      simp only[eX,Option.some.injEq,Prod.mk.injEq] at a
      obtain ⟨rfl,rfl⟩:=a
      repeat refine af hJ ?_
      refine bI hJ (by simp only[*,go_sem]) ?_
      refine bN ?_
      simp only[go_sem]
      repeat refine af hJ ?_
      refine aj hJ ?_
      simp only[*,go_sem]
      repeat refine af hJ ?_
      refine az ?_
      simp only[*,go_sem]
      refine ⟨o,B,Le.refl _,?_⟩
      first|exact ⟨rfl,p,fun h=>d h⟩|exact ⟨p,fun h=>d h⟩|exact ⟨p,d rfl⟩
theorem rZ (u0:ak){s1 s2 h i:Value}(b:aB eY ro s1 u0.aD)(d:aB ez ro s2 u0.props)(e:aB eT ro h u0.aH)(f:aB di ro i u0.told):
  l8 Tryz.prog 66 #[.agg #[.int .i64 u0.bH,.int .i64 u0.bV,.int .i64 u0.aF.num,.int .i64 u0.aF.den,s1,s2,h,i]] #[] aV.v (mz u0) ro:=by
 refine ⟨by simp only[go_sem],fun aN hx σ step I p q r j s c s' hf main J hJ own k=>?_⟩
 replace b:=b.mono hx
 replace d:=d.mono hx
 replace e:=e.mono hx
 replace f:=f.mono hx
 refine cR.go hJ Tryz.func66 rfl Tryz.ntmps66 Tryz.results66 (by simp) fun A t hd hs=>?_
 have u:=hs 0
 have k1:=hs 1
 clear hs
 repeat refine af hJ ?_
 refine aj hJ ?_
 try simp only[*,go_sem,-hf]
 intro b2 f2;have r2:=eE f2;have n2:=fC f2
 intro b3 f3;have r3:=eE f3;have n3:=fC f3
 simp only[au] at n3
 try simp only[*,go_sem,-hf]
 repeat refine af hJ ?_
 refine aj hJ ?_
 try simp only[*,go_sem,-hf]
 intro b4 f4;have l:=eE f4;have g:=fC f4
 simp only[au] at g
 try simp only[*,go_sem,-hf]
 repeat refine af hJ ?_
 refine aj hJ ?_
 try simp only[*,go_sem,-hf]
 intro b5 f5;have m:=eE f5;have a:=fC f5
 simp only[au] at a
 try simp only[*,go_sem,-hf]
 repeat refine af hJ ?_
 refine aj hJ ?_
 try simp only[*,go_sem,-hf]
 repeat refine af hJ ?_
 refine aj hJ ?_
 try simp only[*,go_sem,-hf]
 refine cR.less hJ ((F4 u0 b d e f j (b2:=b2) (b3:=b3) (b4:=b4) (b5:=b5) a.1 a.2.1 a.2.2.1 g.1 g.2.1 n3.1 m l r3 r2 5 0 ⟨0,0,0⟩ s c s' hf main J hJ own k).mono ?_)
 rintro v F' ⟨w,n,hle,rfl,o,_⟩
 exact ⟨_,hle,n,Le.sub (List.sublist_append_right _ _),o⟩
end
def r4 (u0:List bU):Option (List bU):=if u0.length<=1000000 then some u0 else none
theorem vz {ro:Addr->Option Value}(u0:List bU){s1:Value}(b:aB di ro s1 u0){x:List bU}(h:r4 u0=some x):aC Tryz.prog 93 #[s1] ⟨ro,[]⟩ (fun v G=>∃a,aO di ro 76 v x a/\Le ⟨ro,a⟩ G):=by
 obtain ⟨ad,cap,rfl,le,d,e⟩:=id b;unfold r4 at h;split at h
 case isFalse=>cases h
 rename_i hlen;obtain rfl:=Option.some.inj h;clear h;refine aC.go Tryz.func93 rfl Tryz.ntmps93 Tryz.results93 (by simp) fun main J hJ A f hd hs=>?_;have g:=hs 0;clear hs;refine ah hJ ?_;simp only[*,go_sem];cases ad with
 |none=>
  have hu:u0=[]:=by
   cases u0 with
   |nil=>rfl
   |cons x l=>obtain ⟨p,cs,c,_⟩:=e 0 x rfl;cases c
  subst hu;first|refine ah hJ ?_|refine af hJ (ah hJ ?_)
  simp only[*,go_sem];refine bJ hJ (by simp only[*,go_sem]) ?_;refine ah hJ ?_;simp only[*,go_sem];refine az ?_;simp only[*,go_sem];exact ⟨[],aO.nil _ _ _,Le.refl _⟩
 |some p=>
  first|refine ah hJ ?_|refine af hJ (ah hJ ?_)
  simp only[*,go_sem];refine bI hJ (by simp only[*,go_sem]) ?_;refine aI hJ ?_;refine ah hJ ?_;simp only[*,go_sem];intro i f1;have r1:=eE f1;try simp only[*,go_sem]
  refine pE r1 trivial rfl hlen b rfl rfl eo eo ia ig rfl ie (by decide) (by decide) (fun v a hg j=>aK ?_);simp only[*,go_sem];refine az ?_;simp only[*,go_sem];exact ⟨a,hg,Le.refl _⟩
def r5 (u0:List b6):Option (List b6):=if u0.length<=1000000 then some u0 else none
theorem Ax {ro:Addr->Option Value}(u0:List b6){s1:Value}(b:aB eT ro s1 u0){x:List b6}(h:r5 u0=some x):aC Tryz.prog 71 #[s1] ⟨ro,[]⟩ (fun v G=>∃a,aO eT ro 41 v x a/\Le ⟨ro,a⟩ G):=by
 obtain ⟨ad,cap,rfl,le,d,e⟩:=id b;unfold r5 at h;split at h
 case isFalse=>cases h
 rename_i hlen;obtain rfl:=Option.some.inj h;clear h;refine aC.go Tryz.func71 rfl Tryz.ntmps71 Tryz.results71 (by simp) fun main J hJ A f hd hs=>?_;have g:=hs 0;clear hs;refine ah hJ ?_;simp only[*,go_sem];cases ad with
 |none=>
  have hu:u0=[]:=by
   cases u0 with
   |nil=>rfl
   |cons x l=>obtain ⟨p,cs,c,_⟩:=e 0 x rfl;cases c
  subst hu;first|refine ah hJ ?_|refine af hJ (ah hJ ?_)
  simp only[*,go_sem];refine bJ hJ (by simp only[*,go_sem]) ?_;refine ah hJ ?_;simp only[*,go_sem];refine az ?_;simp only[*,go_sem];exact ⟨[],aO.nil _ _ _,Le.refl _⟩
 |some p=>
  first|refine ah hJ ?_|refine af hJ (ah hJ ?_)
  simp only[*,go_sem];refine bI hJ (by simp only[*,go_sem]) ?_;refine aI hJ ?_;refine ah hJ ?_;simp only[*,go_sem];intro i f1;have r1:=eE f1;try simp only[*,go_sem]
  refine pE r1 trivial rfl hlen b rfl rfl zL zL En Ep rfl Eo (by decide) (by decide) (fun v a hg j=>aK ?_);simp only[*,go_sem];refine az ?_;simp only[*,go_sem];exact ⟨a,hg,Le.refl _⟩
def vA (u0:List b8):Option (List b8):=if u0.length<=1000000 then some u0 else none
theorem F5 {ro:Addr->Option Value}(u0:List b8){s1:Value}(b:aB eY ro s1 u0){x:List b8}(h:vA u0=some x):aC Tryz.prog 123 #[s1] ⟨ro,[]⟩ (fun v G=>∃a,aO eY ro 85 v x a/\Le ⟨ro,a⟩ G):=by
 obtain ⟨ad,cap,rfl,le,d,e⟩:=id b;unfold vA at h;split at h
 case isFalse=>cases h
 rename_i hlen;obtain rfl:=Option.some.inj h;clear h;refine aC.go Tryz.func123 rfl Tryz.ntmps123 Tryz.results123 (by simp) fun main J hJ A f hd hs=>?_;have g:=hs 0;clear hs;refine ah hJ ?_;simp only[*,go_sem];cases ad with
 |none=>
  have hu:u0=[]:=by
   cases u0 with
   |nil=>rfl
   |cons x l=>obtain ⟨p,cs,c,_⟩:=e 0 x rfl;cases c
  subst hu;first|refine ah hJ ?_|refine af hJ (ah hJ ?_)
  simp only[*,go_sem];refine bJ hJ (by simp only[*,go_sem]) ?_;refine ah hJ ?_;simp only[*,go_sem];refine az ?_;simp only[*,go_sem];exact ⟨[],aO.nil _ _ _,Le.refl _⟩
 |some p=>
  first|refine ah hJ ?_|refine af hJ (ah hJ ?_)
  simp only[*,go_sem];refine bI hJ (by simp only[*,go_sem]) ?_;refine aI hJ ?_;refine ah hJ ?_;simp only[*,go_sem];intro i f1;have r1:=eE f1;try simp only[*,go_sem]
  refine pE r1 trivial rfl hlen b rfl rfl zK zK Er zM rfl Es (by decide) (by decide) (fun v a hg j=>aK ?_);simp only[*,go_sem];refine az ?_;simp only[*,go_sem];exact ⟨a,hg,Le.refl _⟩
def r6 (u0:List cm):Option (List cm):=if u0.length<=1000000 then some u0 else none
theorem Ay {ro:Addr->Option Value}(u0:List cm){s1:Value}(b:aB ez ro s1 u0){x:List cm}(h:r6 u0=some x):aC Tryz.prog 124 #[s1] ⟨ro,[]⟩ (fun v G=>∃a,aO ez ro 96 v x a/\Le ⟨ro,a⟩ G):=by
 obtain ⟨ad,cap,rfl,le,d,e⟩:=id b;unfold r6 at h;split at h
 case isFalse=>cases h
 rename_i hlen;obtain rfl:=Option.some.inj h;clear h;refine aC.go Tryz.func124 rfl Tryz.ntmps124 Tryz.results124 (by simp) fun main J hJ A f hd hs=>?_;have g:=hs 0;clear hs;refine ah hJ ?_;simp only[*,go_sem];cases ad with
 |none=>
  have hu:u0=[]:=by
   cases u0 with
   |nil=>rfl
   |cons x l=>obtain ⟨p,cs,c,_⟩:=e 0 x rfl;cases c
  subst hu;first|refine ah hJ ?_|refine af hJ (ah hJ ?_)
  simp only[*,go_sem];refine bJ hJ (by simp only[*,go_sem]) ?_;refine ah hJ ?_;simp only[*,go_sem];refine az ?_;simp only[*,go_sem];exact ⟨[],aO.nil _ _ _,Le.refl _⟩
 |some p=>
  first|refine ah hJ ?_|refine af hJ (ah hJ ?_)
  simp only[*,go_sem];refine bI hJ (by simp only[*,go_sem]) ?_;refine aI hJ ?_;refine ah hJ ?_;simp only[*,go_sem];intro i f1;have r1:=eE f1;try simp only[*,go_sem]
  refine pE r1 trivial rfl hlen b rfl rfl kU kU q7 q9 rfl q8 (by decide) (by decide) (fun v a hg j=>aK ?_);simp only[*,go_sem];refine az ?_;simp only[*,go_sem];exact ⟨a,hg,Le.refl _⟩
def r7 (u0:List Int):Option (List Int):=if u0.length<=1000000 then some u0 else none
theorem Az {ro:Addr->Option Value}(u0:List Int){s1:Value}(b:aB rI ro s1 u0){x:List Int}(h:r7 u0=some x):aC Tryz.prog 141 #[s1] ⟨ro,[]⟩ (fun v G=>∃a,aO rI ro 3 v x a/\Le ⟨ro,a⟩ G):=by
 obtain ⟨ad,cap,rfl,le,d,e⟩:=id b;unfold r7 at h;split at h
 case isFalse=>cases h
 rename_i hlen;obtain rfl:=Option.some.inj h;clear h;refine aC.go Tryz.func141 rfl Tryz.ntmps141 Tryz.results141 (by simp) fun main J hJ A f hd hs=>?_;have g:=hs 0;clear hs;refine ah hJ ?_;simp only[*,go_sem];cases ad with
 |none=>
  have hu:u0=[]:=by
   cases u0 with
   |nil=>rfl
   |cons x l=>obtain ⟨p,cs,c,_⟩:=e 0 x rfl;cases c
  subst hu;first|refine ah hJ ?_|refine af hJ (ah hJ ?_)
  simp only[*,go_sem];refine bJ hJ (by simp only[*,go_sem]) ?_;refine ah hJ ?_;simp only[*,go_sem];refine az ?_;simp only[*,go_sem];exact ⟨[],aO.nil _ _ _,Le.refl _⟩
 |some p=>
  first|refine ah hJ ?_|refine af hJ (ah hJ ?_)
  simp only[*,go_sem];refine bI hJ (by simp only[*,go_sem]) ?_;refine aI hJ ?_;refine ah hJ ?_;simp only[*,go_sem];intro i f1;have r1:=eE f1;try simp only[*,go_sem]
  refine pE r1 trivial rfl hlen b rfl rfl fM fM kR kT rfl kS (by decide) (by decide) (fun v a hg j=>aK ?_);simp only[*,go_sem];refine az ?_;simp only[*,go_sem];exact ⟨a,hg,Le.refl _⟩
def r8 (u0:ak)(i43:Nat)(b:(ak->Option Int))(st:Int):Option (Fl Int (ak×Int)):=
 ag (b u0) fun a=>cond ((a != 0)) (some (.rt ((⟨0,0,(⟨0,0⟩:an),([]:(List b8)),([]:(List cm)),([]:(List b6)),([]:(List bU))⟩:ak),a))) (some (.nx st))
def e9 (u0:ak)(b:(List (ak->Option Int))):Option (ak×Int):=
 ag (e8 u0) fun a=>cond ((a != 0)) (some ((⟨0,0,(⟨0,0⟩:an),([]:(List b8)),([]:(List cm)),([]:(List b6)),([]:(List bU))⟩:ak),a)) (ag (bE (r8 u0) 0 b 0) fun o=>aA o (fun c=>some (u0,0)) (fun _ _=>none) (fun r=>some r))
theorem ki {ro:Addr->Option Value}(D:dc ro)(u0:ak){s1 f g i:Value}(b:bL ro u0 s1 f g i)(c:(List (ak->Option Int))){o:Value}(q:aB (c5) ro o c){r:(ak×Int)}(h:e9 u0 c=some r):eH Tryz.prog 65 #[bv u0 s1 f g i,o] ro (fun v aN=>∃s w1 w2 w3,v= .tuple #[bv r.1 s w1 w2 w3,.int .i64 r.2]/\bL aN r.1 s w1 w2 w3):=by
 obtain ⟨d31,ae,rfl,al,E,-⟩:=id q;unfold e9 at h;have F:=b.oc;simp only[bG] at F;refine aC.go Tryz.func65 rfl Tryz.ntmps65 Tryz.results65 (by simp) fun main J hJ A G hd hs=>?_;have H:=hs 0;have k1:=hs 1;clear hs;refine ah hJ ?_;simp only[*,go_sem];refine ay fun I ao K=>?_;try simp only[au] at K
 refine ay fun L ar M=>?_;try simp only[au] at M
 try simp only[*,go_sem]
 refine af hJ (ah hJ ?_);revert h;refine bS fun a0 N h=>?_;simp only[*,go_sem];refine bn hJ _ (As (D.mono aW) u0 (b.e.mono aW) (b.p.mono aW) (b.y.mono aW) (b.t.mono aW) N) (aK ?_);try simp only[*,go_sem]
 refine ah hJ ?_;simp only[*,go_sem];revert h;refine jC hJ (by simp only[*,go_sem]) (fun O h=>?_) fun O h=>?_
 ·obtain rfl:=sI h;refine ah hJ ?_;simp only[*,go_sem];refine az ?_;simp only[*,go_sem];exact ⟨_,Ext.refl _,Le.sub (List.nil_sublist _),_,_,_,_,rfl,⟨aB.nil _ _,aB.nil _ _,aB.nil _ _,aB.nil _ _⟩⟩
 refine aI hJ (af hJ ?_);refine aj hJ ?_;simp only[*,go_sem];refine ay fun P a2 Q=>?_;try simp only[au] at Q
 try simp only[*,go_sem]
 refine af hJ (ah hJ ?_);simp only[*,go_sem];refine aP hJ ?_;revert h;refine bS fun R d u=>?_;refine bR hJ [5,9,10,21,22,23,24,25,26,27,28,29,30,31,32] (fun m w F'=>∃(i43:Nat) (j:Int),m=c.length - i43/\i43<=c.length/\bE (r8 u0) i43 (c.drop i43) j=some R/\F'=⟨ro,(P,bl u0 s1 f g i)::(L,bz 115)::(I,bk u0 s1 f g i)::[]⟩/\slot w 21= .int .i64 (i43:Int)/\slot w 5= .int .i64 j) c.length ?_ ?_
 ·refine ⟨0,0,(Nat.sub_zero _).symm,Nat.zero_le _,d,rfl,?_⟩;simp only[*,go_sem]
 rintro a3 a4 F' z ⟨i43,j,rfl,a5,d,rfl,a6,a7⟩;obtain ⟨S,T,U⟩:=z.pick [4,7,19,20] (by decide);simp only[*,go_sem] at S T U;clear z G hd H k1;refine ah hJ ?_;simp only[*,go_sem];refine af hJ ?_;rcases Nat.lt_or_ge i43 c.length with V|B
 ·refine bJ hJ (by simp only[*,go_sem]) ?_;refine aI hJ ?_;obtain ⟨a8,k⟩:∃x,c[i43]?=some x:=⟨_,List.getElem?_eq_getElem V⟩
  rw[dg k] at d;revert d;refine bS fun a9 h l=>?_;unfold r8 at h;try dsimp only at h
  obtain ⟨ba,bb,W,X,C⟩:=q.el _ _ k;obtain ⟨bc,bd,bj,rfl,Y⟩:=X;cases W;have Z:=C 0 _ rfl;simp only[go_sem] at Z;clear C k;refine af hJ (aP hJ (af hJ ?_));refine aj hJ ?_;simp only[*,go_sem];refine ah hJ ?_;revert h;refine bS fun bm ab h=>?_;simp only[*,go_sem];refine bn hJ _ (Y.2 _ (fun a v h=>aW a v h) u0 _ _ _ _ _ (b.e.mono aW) (b.p.mono aW) (b.y.mono aW) (b.t.mono aW) ab) (aK ?_);try simp only[*,go_sem]
  refine ah hJ ?_;simp only[*,go_sem];revert h;refine jC hJ (by simp only[*,go_sem]) (fun ad h=>?_) fun ad h=>?_
  ·obtain rfl:=sI h;refine ah hJ ?_;simp only[*,go_sem];obtain rfl:=sI l;clear l;have h:=u;dsimp only[aA] at h;obtain rfl:=sI h;refine az ?_;simp only[*,go_sem];exact ⟨_,Ext.refl _,Le.sub (List.nil_sublist _),_,_,_,_,rfl,⟨aB.nil _ _,aB.nil _ _,aB.nil _ _,aB.nil _ _⟩⟩
  obtain rfl:=sI h;refine aI hJ ?_;have bo:=cp (n:=i43) (by have:=E;omega);refine aj hJ ?_;simp only[*,go_sem];refine ⟨c.length - (i43+1),by omega,_,Le.sub (List.Sublist.refl _),i43+1,j,rfl,by omega,l,rfl,?_⟩;simp only[*,go_sem]
 have br:=Nat.not_lt.2 B;refine bI hJ (by simp only[*,go_sem]) ?_;rw[List.drop_eq_nil_of_le B] at d;obtain rfl:=sI d;clear d;have h:=u;dsimp only[aA] at h;obtain rfl:=sI h;refine bN ?_;simp only[go_sem];refine ah hJ ?_;simp only[*,go_sem];refine az ?_;simp only[*,go_sem];exact ⟨_,Ext.refl _,Le.sub (List.nil_sublist _),_,_,_,_,rfl,b⟩
def vB (u0:ak)(b:Int):Option (an×Int):=
 ag (e9 u0 ([(nu b)])) fun a=>cond ((a.2 != 0)) (some ((⟨0,0⟩:an),a.2)) (ag (jd a.1 b) fun c=>some (c,0))
theorem F6 {ro:Addr->Option Value}(f:dc ro)(u0:ak){s1 g i j:Value}(k:bL ro u0 s1 g i j)(a:Int){r:(an×Int)}(h:vB u0 a=some r):aC Tryz.prog 62 #[bv u0 s1 g i j,.int .i64 a] ⟨ro,[]⟩ (fun v _=>v= .tuple #[r.1.v,.int .i64 r.2]):=by
 unfold vB at h;refine aC.go Tryz.func62 rfl Tryz.ntmps62 Tryz.results62 (by simp) fun main J hJ A V hd hs=>?_;have W:=hs 0;have k1:=hs 1;clear hs;refine ah hJ ?_;simp only[*,go_sem];refine ay fun B C D=>?_;try simp only[au] at D
 refine ay fun E F G=>?_;try simp only[au] at G
 try simp only[*,go_sem]
 refine af hJ ?_;refine av hJ fun H=>?_;refine aj hJ ?_;revert h;refine bS fun I K h=>?_;simp only[*,go_sem];refine ay fun c m n=>?_;have q:=aQ.cons n H;try simp only[au] at n
 try simp only[*,go_sem]
 obtain ⟨l,s,u⟩:=fO (b:=c) (o:=(.cells #[.func (.func 115) #[.int .i64 a] #[]] 127)) [] ((E,rt 0 0)::(B,bk u0 s1 g i j)::[]) q m (aE.cons F (aE.cons C (aE.nil _)));have w:aB (c5) (bT ro c (.cells #[.func (.func 115) #[.int .i64 a] #[]] 127)) (.slice (some ⟨c,0,none⟩) 1 1) [(nu a)]:=(aB.one (r:=(c5)) (e:=127) (cs:=#[.func (.func 115) #[.int .i64 a] #[]]) (x:=(nu a)) (own:=[(c,.cells #[.func (.func 115) #[.int .i64 a] #[]] 127)]) m (by simp[lk]) ⟨115,#[.int .i64 a],#[],rfl,⟨by simp only[go_sem],fun X Y L _ _ _ _ _ M N O P h=>by simp only[go_sem];exact FF a L ⟨M,N,O,P⟩ h⟩⟩)
 generalize bT ro c (.cells #[.func (.func 115) #[.int .i64 a] #[]] 127)=Z at w s l u;refine gO hJ u ?_;replace k:=k.mono l;replace f:=f.mono l;simp only[bp] at s;have Q:=aQ.tl q;refine cc hJ _ (ki f u0 k ([(nu a)]) w K) fun v ab ad R S=>?_;obtain ⟨ae,al,ao,ar,rfl,d⟩:=S;simp only[bp] at R;obtain ⟨d41,a0,rfl,a2,a3,-⟩:=id d.e;obtain ⟨d48,a4,rfl,a5,a6,-⟩:=id d.p;obtain ⟨d55,a7,rfl,a8,a9,-⟩:=id d.y;obtain ⟨d62,ba,rfl,bb,bc,-⟩:=id d.t;refine aK ?_;try simp only[*,go_sem]
 refine ay fun bd bj z=>?_;have bl:=aQ.cons z Q;try simp only[au] at z
 try simp only[*,go_sem]
 refine af hJ (ah hJ ?_);simp only[*,go_sem];revert h;refine jC hJ (by simp only[*,go_sem]) (fun T h=>?_) fun T h=>?_
 ·obtain rfl:=sI h;refine ah hJ ?_;simp only[*,go_sem];refine az ?_;simp only[*,go_sem]
 refine aI hJ (af hJ ?_);refine aj hJ ?_;revert h;refine bS fun bm U h=>?_;obtain rfl:=sI h;simp only[*,go_sem];refine bn hJ _ (Av I.1 (d.mono aW) a U) (aK ?_);try simp only[*,go_sem]
 refine az ?_;simp only[*,go_sem]
def nN (u0:ak)(b:aY):Option (Int×an×Int):=
 ag (e9 u0 ([(eJ b)])) fun a=>cond ((a.2 != 0)) (some (0,(⟨0,0⟩:an),a.2)) (ag (jA a.1 b) fun c=>some (c.at_,c.high,0))
theorem AA {ro:Addr->Option Value}(k:dc ro)(u0:ak){s1 f g i:Value}(j:bL ro u0 s1 f g i)(a:aY){r:(Int×an×Int)}(h:nN u0 a=some r):aC Tryz.prog 34 #[bv u0 s1 f g i,.agg #[.int .i64 a.back,.int .i64 a.high]] ⟨ro,[]⟩ (fun v _=>v= .tuple #[.int .i64 r.1,r.2.1.v,.int .i64 r.2.2]):=by
 unfold nN at h;have D:=j.oc;simp only[bG] at D;refine aC.go Tryz.func34 rfl Tryz.ntmps34 Tryz.results34 (by simp) fun main J hJ A a2 hd hs=>?_;have a3:=hs 0;have k1:=hs 1;clear hs;refine ah hJ ?_;simp only[*,go_sem];refine ay fun m E F=>?_;try simp only[au] at F
 refine ay fun n G H=>?_;try simp only[au] at H
 refine ay fun I K L=>?_;try simp only[au] at L
 try simp only[*,go_sem]
 refine af hJ ?_;refine av hJ fun M=>?_;refine aj hJ ?_;revert h;refine bS fun p N h=>?_;simp only[*,go_sem];refine ay fun d q s=>?_;have t:=aQ.cons s M;try simp only[au] at s
 try simp only[*,go_sem]
 obtain ⟨l,u,w⟩:=fO (b:=d) (o:=(.cells #[.func (.func 78) #[.agg #[.int .i64 a.back,.int .i64 a.high]] #[]] 127)) [] ((I,rt 0 0)::(n,.cells #[.int .i64 a.back,.int .i64 a.high] 53)::(m,bk u0 s1 f g i)::[]) t q (aE.cons K (aE.cons G (aE.cons E (aE.nil _))));have y:aB (c5) (bT ro d (.cells #[.func (.func 78) #[.agg #[.int .i64 a.back,.int .i64 a.high]] #[]] 127)) (.slice (some ⟨d,0,none⟩) 1 1) [(eJ a)]:=(aB.one (r:=(c5)) (e:=127) (cs:=#[.func (.func 78) #[.agg #[.int .i64 a.back,.int .i64 a.high]] #[]]) (x:=(eJ a)) (own:=[(d,.cells #[.func (.func 78) #[.agg #[.int .i64 a.back,.int .i64 a.high]] #[]] 127)]) q (by simp[lk]) ⟨78,#[.agg #[.int .i64 a.back,.int .i64 a.high]],#[],rfl,⟨by simp only[go_sem],fun a4 a5 O _ _ _ _ _ P Q R S h=>by simp only[go_sem];exact rD a O ⟨P,Q,R,S⟩ h⟩⟩)
 generalize bT ro d (.cells #[.func (.func 78) #[.agg #[.int .i64 a.back,.int .i64 a.high]] #[]] 127)=a6 at y u l w;refine gO hJ w ?_;replace j:=j.mono l;replace k:=k.mono l;simp only[bp] at u;have T:=aQ.tl t;refine cc hJ _ (ki k u0 j ([(eJ a)]) y N) fun v U a7 V W=>?_;obtain ⟨X,Y,Z,ab,rfl,z⟩:=W;have ad:=z.oc;simp only[bG] at ad;simp only[bp] at V;refine aK ?_;try simp only[*,go_sem]
 refine ay fun ae a8 B=>?_;have al:=aQ.cons B T;try simp only[au] at B
 try simp only[*,go_sem]
 refine af hJ (ah hJ ?_);simp only[*,go_sem];revert h;refine jC hJ (by simp only[*,go_sem]) (fun ao h=>?_) fun ao h=>?_
 ·obtain rfl:=sI h;refine ah hJ ?_;simp only[*,go_sem];refine az ?_;simp only[*,go_sem]
 refine aI hJ (af hJ ?_);refine aj hJ ?_;revert h;refine bS fun c ar h=>?_;obtain rfl:=sI h;simp only[*,go_sem];refine bn hJ _ (rP p.1 (z.mono aW) a ar) (aK ?_);try simp only[*,go_sem]
 refine ay fun a0 a9 C=>?_;have ba:=aQ.cons C al;try simp only[au] at C
 try simp only[*,go_sem]
 refine af hJ ?_;refine e7 hJ mixed 5 ⟨U,[(a0,.cells #[.int .i64 c.spot.aM,.int .i64 c.spot.high.num,.int .i64 c.spot.high.den,.int .i64 c.at_,.int .i64 c.high.num,.int .i64 c.high.den] 147),(ae,bl p.1 X Y Z ab),(n,.cells #[.int .i64 a.back,.int .i64 a.high] 53),(m,bk u0 s1 f g i)]⟩ (by simp only[*,go_sem]) (by kernel_rfl) ?_;simp only[*,go_sem];refine az ?_;simp only[*,go_sem]
def vC (u0:ak)(b:aY):Option (an×Int):=
 ag (e9 u0 ([(eJ b)])) fun a=>cond ((a.2 != 0)) (some ((⟨0,0⟩:an),a.2)) (ag (rQ a.1 b) fun c=>some (c,0))
theorem F7 {ro:Addr->Option Value}(f:dc ro)(u0:ak){s1 g i j:Value}(k:bL ro u0 s1 g i j)(a:aY){r:(an×Int)}(h:vC u0 a=some r):aC Tryz.prog 22 #[bv u0 s1 g i j,.agg #[.int .i64 a.back,.int .i64 a.high]] ⟨ro,[]⟩ (fun v _=>v= .tuple #[r.1.v,.int .i64 r.2]):=by
 unfold vC at h;refine aC.go Tryz.func22 rfl Tryz.ntmps22 Tryz.results22 (by simp) fun main J hJ A Y hd hs=>?_;have Z:=hs 0;have k1:=hs 1;clear hs;refine ah hJ ?_;simp only[*,go_sem];refine ay fun B C D=>?_;try simp only[au] at D
 refine ay fun E F G=>?_;try simp only[au] at G
 refine ay fun H I K=>?_;try simp only[au] at K
 try simp only[*,go_sem]
 refine af hJ ?_;refine av hJ fun L=>?_;refine aj hJ ?_;revert h;refine bS fun M N h=>?_;simp only[*,go_sem];refine ay fun c m n=>?_;have q:=aQ.cons n L;try simp only[au] at n
 try simp only[*,go_sem]
 obtain ⟨l,s,u⟩:=fO (b:=c) (o:=(.cells #[.func (.func 78) #[.agg #[.int .i64 a.back,.int .i64 a.high]] #[]] 127)) [] ((H,rt 0 0)::(E,.cells #[.int .i64 a.back,.int .i64 a.high] 53)::(B,bk u0 s1 g i j)::[]) q m (aE.cons I (aE.cons F (aE.cons C (aE.nil _))));have w:aB (c5) (bT ro c (.cells #[.func (.func 78) #[.agg #[.int .i64 a.back,.int .i64 a.high]] #[]] 127)) (.slice (some ⟨c,0,none⟩) 1 1) [(eJ a)]:=(aB.one (r:=(c5)) (e:=127) (cs:=#[.func (.func 78) #[.agg #[.int .i64 a.back,.int .i64 a.high]] #[]]) (x:=(eJ a)) (own:=[(c,.cells #[.func (.func 78) #[.agg #[.int .i64 a.back,.int .i64 a.high]] #[]] 127)]) m (by simp[lk]) ⟨78,#[.agg #[.int .i64 a.back,.int .i64 a.high]],#[],rfl,⟨by simp only[go_sem],fun ab ad O _ _ _ _ _ P Q R S h=>by simp only[go_sem];exact rD a O ⟨P,Q,R,S⟩ h⟩⟩)
 generalize bT ro c (.cells #[.func (.func 78) #[.agg #[.int .i64 a.back,.int .i64 a.high]] #[]] 127)=ae at w s l u;refine gO hJ u ?_;replace k:=k.mono l;replace f:=f.mono l;simp only[bp] at s;have T:=aQ.tl q;refine cc hJ _ (ki f u0 k ([(eJ a)]) w N) fun v al ao U V=>?_;obtain ⟨ar,a0,a2,a3,rfl,d⟩:=V;simp only[bp] at U;obtain ⟨d42,a4,rfl,a5,a6,-⟩:=id d.e;obtain ⟨d49,a7,rfl,a8,a9,-⟩:=id d.p;obtain ⟨d56,ba,rfl,bb,bc,-⟩:=id d.y;obtain ⟨d63,bd,rfl,bj,bl,-⟩:=id d.t;refine aK ?_;try simp only[*,go_sem]
 refine ay fun bm bo z=>?_;have br:=aQ.cons z T;try simp only[au] at z
 try simp only[*,go_sem]
 refine af hJ (ah hJ ?_);simp only[*,go_sem];revert h;refine jC hJ (by simp only[*,go_sem]) (fun W h=>?_) fun W h=>?_
 ·obtain rfl:=sI h;refine ah hJ ?_;simp only[*,go_sem];refine az ?_;simp only[*,go_sem]
 refine aI hJ (af hJ ?_);refine aj hJ ?_;revert h;refine bS fun bs X h=>?_;obtain rfl:=sI h;simp only[*,go_sem];refine bn hJ _ (Au M.1 (d.mono aW) a X) (aK ?_);try simp only[*,go_sem]
 refine az ?_;simp only[*,go_sem]
def vD (u0:ak)(c:aY):Option (an×Bool×Int):=
 ag (e9 u0 ([(eJ c)])) fun b=>cond ((b.2 != 0)) (some ((⟨0,0⟩:an),false,b.2)) (ag (jB b.1 c) fun a=>cond (((a.length:Int)==0)) (some ((⟨0,0⟩:an),false,0)) (ag (bh a 0) fun d=>ag (hH a 1 (a.length:Int)) fun e=>ag (jc ga d e) fun f=>some (f.high,true,0)))
theorem F8 {ro:Addr->Option Value}(l:dc ro)(u0:ak){s1 f g i:Value}(j:bL ro u0 s1 f g i)(a:aY){r:(an×Bool×Int)}(h:vD u0 a=some r):aC Tryz.prog 52 #[bv u0 s1 f g i,.agg #[.int .i64 a.back,.int .i64 a.high]] ⟨ro,[]⟩ (fun v _=>v= .tuple #[r.1.v,.bool r.2.1,.int .i64 r.2.2]):=by
 unfold vD at h;have N:=j.oc;simp only[bG] at N;refine aC.go Tryz.func52 rfl Tryz.ntmps52 Tryz.results52 (by simp) fun main J hJ A cu hd hs=>?_;have cy:=hs 0;have k1:=hs 1;clear hs;refine ah hJ ?_;simp only[*,go_sem];refine ay fun s O P=>?_;try simp only[au] at P
 refine ay fun t Q R=>?_;try simp only[au] at R
 refine ay fun S T U=>?_;try simp only[au] at U
 try simp only[*,go_sem]
 refine af hJ ?_;refine av hJ fun V=>?_;refine aj hJ ?_;revert h;refine bS fun u W h=>?_;simp only[*,go_sem];refine ay fun d w y=>?_;have z:=aQ.cons y V;try simp only[au] at y
 try simp only[*,go_sem]
 obtain ⟨m,B,C⟩:=fO (b:=d) (o:=(.cells #[.func (.func 78) #[.agg #[.int .i64 a.back,.int .i64 a.high]] #[]] 127)) [] ((S,rt 0 0)::(t,.cells #[.int .i64 a.back,.int .i64 a.high] 53)::(s,bk u0 s1 f g i)::[]) z w (aE.cons T (aE.cons Q (aE.cons O (aE.nil _))));have D:aB (c5) (bT ro d (.cells #[.func (.func 78) #[.agg #[.int .i64 a.back,.int .i64 a.high]] #[]] 127)) (.slice (some ⟨d,0,none⟩) 1 1) [(eJ a)]:=(aB.one (r:=(c5)) (e:=127) (cs:=#[.func (.func 78) #[.agg #[.int .i64 a.back,.int .i64 a.high]] #[]]) (x:=(eJ a)) (own:=[(d,.cells #[.func (.func 78) #[.agg #[.int .i64 a.back,.int .i64 a.high]] #[]] 127)]) w (by simp[lk]) ⟨78,#[.agg #[.int .i64 a.back,.int .i64 a.high]],#[],rfl,⟨by simp only[go_sem],fun X Y n _ _ _ _ _ Z ab ad ae h=>by simp only[go_sem];exact rD a n ⟨Z,ab,ad,ae⟩ h⟩⟩)
 generalize bT ro d (.cells #[.func (.func 78) #[.agg #[.int .i64 a.back,.int .i64 a.high]] #[]] 127)=cS at D B m C;refine gO hJ C ?_;replace j:=j.mono m;replace l:=l.mono m;simp only[bp] at B;have al:=aQ.tl z;refine cc hJ _ (ki l u0 j ([(eJ a)]) D W) fun v c0 da ao p=>?_;obtain ⟨ar,a0,a2,a3,rfl,E⟩:=p;have a4:=E.oc;simp only[bG] at a4;simp only[bp] at ao;refine aK ?_;try simp only[*,go_sem]
 refine ay fun a5 db G=>?_;have dd:=aQ.cons G al;try simp only[au] at G
 try simp only[*,go_sem]
 refine af hJ (ah hJ ?_);simp only[*,go_sem];revert h;refine jC hJ (by simp only[*,go_sem]) (fun a6 h=>?_) fun a6 h=>?_
 ·obtain rfl:=sI h;refine ah hJ ?_;simp only[*,go_sem];refine az ?_;simp only[*,go_sem]
 refine aI hJ (af hJ ?_);refine aj hJ ?_;revert h;refine bS fun k a7 h=>?_;simp only[*,go_sem];refine cc hJ _ (vo u.1 E a a7) fun v a8 df a9 p=>?_;obtain ⟨dk,rfl,q⟩:=p;simp only[bp] at a9;obtain ⟨d84,ba,rfl,dp,dq,-⟩:=id q;refine aK ?_;try simp only[*,go_sem]
 refine af hJ (ah hJ ?_);simp only[*,go_sem];revert h;refine jC hJ (by simp only[*,go_sem]) (fun bb h=>?_) fun bb h=>?_
 ·obtain rfl:=sI h;refine ah hJ ?_;simp only[*,go_sem];refine az ?_;simp only[*,go_sem]
 refine aI hJ (af hJ ?_);refine e7 hJ mixed 7 ⟨a8,[(a5,bl u.1 ar a0 a2 a3),(t,.cells #[.int .i64 a.back,.int .i64 a.high] 53),(s,bk u0 s1 f g i)]⟩ (by simp only[*,go_sem]) (by kernel_rfl) ?_;revert h;refine bS fun H bc h=>?_;obtain ⟨ds,dt,I⟩:=cK bc;obtain ⟨du,bd,bj,bm,c⟩:=q.el _ _ I;obtain rfl:bd=H.cells:=bm;cases bj;have bo:=c 0 _ rfl;simp only[go_sem] at bo;have br:=c 1 _ rfl;simp only[go_sem] at br;have bs:=c 2 _ rfl;simp only[go_sem] at bs;have bz:=c 3 _ rfl;simp only[go_sem] at bz;have b0:=c 4 _ rfl;simp only[go_sem] at b0;have b1:=c 5 _ rfl;simp only[go_sem] at b1;clear c I;revert h;refine bS fun b2 b3 h=>?_;obtain ⟨dv,dC,dE,K⟩:=o7 b3;have L:(1:Int).toNat<=((k.length:Int)).toNat:=by omega
 have b4:((k.length:Int)).toNat<=ba:=by omega
 have dT:0<=((k.length:Int)):=by omega
 obtain ⟨d94,b5,ca,M⟩:=aB.pe q (1:Int).toNat ((k.length:Int)).toNat L (by omega) K;simp only[go_sem] at b5 ca L b4;obtain ⟨_,_,cb,ea,eb,ec⟩:=id M;cases cb;clear K;revert h;refine bS fun ed cd h=>?_;obtain rfl:=sI h;try simp only[*,go_sem]
 refine ⟨_,bx hJ fun F cf=>rG (dM:=88) (ee:=#[]) (ef:=#[]) ga ⟨by simp only[go_sem],fun X Y n cl _ h=>by simp only[go_sem];exact rC n cl h⟩ H b2 (M.mono (b9 cf)) cd,bP ?_⟩;try simp only[*,go_sem]
 refine az ?_;simp only[*,go_sem]
def r9 (u0:ak)(b:aY):Option (an×Bool×Int):=
 ag (e9 u0 ([(eJ b)])) fun a=>cond ((a.2 != 0)) (some ((⟨0,0⟩:an),false,a.2)) (ag (kZ a.1 b) fun c=>ag (gy a.1 b) fun d=>some (c,d,0))
theorem AB {ro:Addr->Option Value}(j:dc ro)(u0:ak){s1 d f g:Value}(i:bL ro u0 s1 d f g)(a:aY){r:(an×Bool×Int)}(h:r9 u0 a=some r):aC Tryz.prog 25 #[bv u0 s1 d f g,.agg #[.int .i64 a.back,.int .i64 a.high]] ⟨ro,[]⟩ (fun v _=>v= .tuple #[r.1.v,.bool r.2.1,.int .i64 r.2.2]):=by
 unfold r9 at h;have C:=i.oc;simp only[bG] at C;refine aC.go Tryz.func25 rfl Tryz.ntmps25 Tryz.results25 (by simp) fun main J hJ A a0 hd hs=>?_;have a2:=hs 0;have k1:=hs 1;clear hs;refine ah hJ ?_;simp only[*,go_sem];refine ay fun p D E=>?_;try simp only[au] at E
 refine ay fun q G H=>?_;try simp only[au] at H
 refine ay fun I K L=>?_;try simp only[au] at L
 try simp only[*,go_sem]
 refine af hJ ?_;refine av hJ fun M=>?_;refine aj hJ ?_;revert h;refine bS fun k N h=>?_;simp only[*,go_sem];refine ay fun c s t=>?_;have u:=aQ.cons t M;try simp only[au] at t
 try simp only[*,go_sem]
 obtain ⟨l,w,y⟩:=fO (b:=c) (o:=(.cells #[.func (.func 78) #[.agg #[.int .i64 a.back,.int .i64 a.high]] #[]] 127)) [] ((I,rt 0 0)::(q,.cells #[.int .i64 a.back,.int .i64 a.high] 53)::(p,bk u0 s1 d f g)::[]) u s (aE.cons K (aE.cons G (aE.cons D (aE.nil _))));have z:aB (c5) (bT ro c (.cells #[.func (.func 78) #[.agg #[.int .i64 a.back,.int .i64 a.high]] #[]] 127)) (.slice (some ⟨c,0,none⟩) 1 1) [(eJ a)]:=(aB.one (r:=(c5)) (e:=127) (cs:=#[.func (.func 78) #[.agg #[.int .i64 a.back,.int .i64 a.high]] #[]]) (x:=(eJ a)) (own:=[(c,.cells #[.func (.func 78) #[.agg #[.int .i64 a.back,.int .i64 a.high]] #[]] 127)]) s (by simp[lk]) ⟨78,#[.agg #[.int .i64 a.back,.int .i64 a.high]],#[],rfl,⟨by simp only[go_sem],fun a3 a4 O _ _ _ _ _ P Q R S h=>by simp only[go_sem];exact rD a O ⟨P,Q,R,S⟩ h⟩⟩)
 generalize bT ro c (.cells #[.func (.func 78) #[.agg #[.int .i64 a.back,.int .i64 a.high]] #[]] 127)=a5 at z w l y;refine gO hJ y ?_;replace i:=i.mono l;replace j:=j.mono l;simp only[bp] at w;have T:=aQ.tl u;refine cc hJ _ (ki j u0 i ([(eJ a)]) z N) fun v U a6 V W=>?_;obtain ⟨X,Y,Z,ab,rfl,m⟩:=W;have ad:=m.oc;simp only[bG] at ad;simp only[bp] at V;refine aK ?_;try simp only[*,go_sem]
 refine ay fun ae a7 B=>?_;have a8:=aQ.cons B T;try simp only[au] at B
 try simp only[*,go_sem]
 refine af hJ (ah hJ ?_);simp only[*,go_sem];revert h;refine jC hJ (by simp only[*,go_sem]) (fun al h=>?_) fun al h=>?_
 ·obtain rfl:=sI h;refine ah hJ ?_;simp only[*,go_sem];refine az ?_;simp only[*,go_sem]
 refine aI hJ (af hJ ?_);refine e7 hJ mixed 6 ⟨U,[(ae,bl k.1 X Y Z ab),(q,.cells #[.int .i64 a.back,.int .i64 a.high] 53),(p,bk u0 s1 d f g)]⟩ (by simp only[*,go_sem]) (by kernel_rfl) ?_;revert h;refine bS fun a9 ao h=>?_;simp only[*,go_sem];refine ⟨_,bx hJ fun F n=>rR k.1 (m.mono (b9 n)) a ao,bP ?_⟩;revert h;refine bS fun ba ar h=>?_;obtain rfl:=sI h;try simp only[*,go_sem]
 refine ⟨_,bx hJ fun F n=>mq k.1 (m.mono (b9 n)) a ar,?_⟩;try simp only[*,go_sem]
 refine az ?_;simp only[*,go_sem]
def vE (a:aV)(st:Bool):Option (Fl Bool Unit):=
 some (.br 1000000000 true)
def sd (u0:ak):Option Bool:=
 ag (iX (vE) (mz u0) false) fun o=>aA o (fun b=>some false) (fun k a=>cond (k==1000000000) (some a) (none)) (fun _=>none)
theorem AD {ro:Addr->Option Value}(u0:ak){s1 c d g:Value}(k:bL ro u0 s1 c d g){r:Bool}(h:sd u0=some r):aC Tryz.prog 103 #[bv u0 s1 c d g] ⟨ro,[]⟩ (fun v _=>v= .bool r):=by
 unfold sd at h;refine aC.vk Tryz.func103 rfl Tryz.ntmps103 Tryz.results103 (by simp) fun main J hJ A D hd hs=>?_;have E:=hs 0;clear hs;refine ah hJ ?_;simp only[*,go_sem];refine ay fun n x F=>?_;try simp only[au] at F
 refine ay fun l z G=>?_;try simp only[au] at G
 try simp only[*,go_sem]
 refine af hJ (ah hJ ?_);simp only[*,go_sem];revert h;refine bS fun Q H o=>?_;refine vj hJ aV.v (by simp only[*,go_sem]) (rZ u0 k.e k.p k.y k.t) (by kernel_rfl) (by kernel_rfl) (ρ:=Unit) (fun (I:Bool) K=>K=(l,.cells #[.bool I] 4)::(n,bl u0 s1 c d g)::[]) (f:=vE) H ?_ ?_ (by decide) ?_ ?_
 ·exact rfl
 ·rintro d33 L q M s u R h main J hJ _ rfl;unfold vE at h;try dsimp only at h
  obtain rfl:=sI h;generalize i:mb _ _ _=m;have S:sz m=6:=by rw[<-i,vi];simp only[*,go_sem]
  have T:m.defers=[]:=by rw[<-i];rfl
  have U:slot m 2= .pointer (some ⟨l,0,none⟩):=by rw[<-i,nq];simp only[*,go_sem]
  have V:slot m 5= .agg #[.int .i64 u.e0,.int .i64 u.e1,.int .i64 u.e2]:=by rw[<-i,nq];simp only[*,go_sem]
  clear i D hd E;refine fG hJ fun b a=>?_;replace a:aE ro ((L,.loop q)::(d33,.deferred (some []))::(l,.cells #[.bool s] 4)::(n,bl u0 s1 c d g)::[]):=a;have W:=a.hd;have X:=a.tl.hd;have z:=a.tl.tl.hd;have x:=a.tl.tl.tl.hd;clear a;replace b:=b.nd;simp only[keys,List.map_cons,List.map_nil,List.map_append,List.cons_append,List.nil_append,List.nodup_cons,List.mem_cons,List.mem_append,List.not_mem_nil,or_false,not_or] at b;refine aI hJ ?_;simp only[pG,go_sem];refine ⟨q,by simp only[*,go_sem],M,?_⟩;try simp only[*,go_sem]
  refine aP hJ (af hJ ?_);refine aj hJ ?_;simp only[*,go_sem];refine az ?_;simp only[rq,l7,go_sem];refine ⟨{q with state:=.busy},by simp only[*,go_sem],?_⟩;simp only[*,go_sem];refine ⟨_,Le.sub (List.Sublist.refl _),rfl,rfl⟩
 ·rintro N O P _ s rfl b a;replace a:aE ro ((O,.loop P)::(N,.deferred (some []))::(l,.cells #[.bool s] 4)::(n,bl u0 s1 c d g)::[]):=a;have Y:=a.hd;have Z:=a.tl.hd;have z:=a.tl.tl.hd;have x:=a.tl.tl.tl.hd;clear a;replace b:=b.nd;simp only[keys,List.map_cons,List.map_nil,List.map_append,List.cons_append,List.nil_append,List.nodup_cons,List.mem_cons,List.mem_append,List.not_mem_nil,or_false,not_or] at b;refine ⟨fun j=>?_,fun k1 j=>?_⟩
  ·subst j;have h:=o;dsimp only[aA] at h;obtain rfl:=sI h;refine ah hJ ?_;simp only[*,go_sem];refine av hJ fun w=>?_;replace w:=w.nd;(try simp only[keys,List.map_cons,List.map_nil,List.map_append,List.cons_append,List.nil_append,List.nodup_cons,List.mem_cons,List.mem_append,List.not_mem_nil,or_false,not_or] at w);refine az ?_;simp only[*,go_sem]
  subst j;have h:=o;dsimp only[aA] at h;revert h;refine cS (fun B h=>?_) fun B h=>?_
  ·obtain rfl:=sI h;obtain rfl:k1=1000000000:=by simpa using B
   unfold vh;rw[if_pos (show (1000000000:Nat)=ry from rfl)];simp only[*,go_sem]
  cases h
 intro k1 ab j;subst j;have h:=o;dsimp only[aA] at h;revert h;refine cS (fun C h=>?_) fun C h=>?_
 ·obtain rfl:k1=1000000000:=by simpa using C
  decide
 cases h
def nO (a:aV)(st:(List aV)):Option (Fl (List aV) Unit):=
 ag (cZ st ([a])) fun b=>some (.nx b)
def se (a:(List (Option aV))):Option (List aV):=
 ag (iX (nO) a ([]:List aV)) fun o=>aA o (fun b=>some b) (fun k c=>none) (fun _=>none)
theorem F9 {ro:Addr->Option Value}(u:(List (Option aV))){dz:FuncId}{dX dY:Array Value}(K:l8 Tryz.prog dz dX dY aV.v u ro){r:(List aV)}(h:se u=some r):eH Tryz.prog 147 #[.slice none 0 0,.func (.func dz) dX dY] ro (fun v aN=>∃w,v=w/\aB gP aN w r):=by
 unfold se at h;refine aC.vk Tryz.func147 rfl Tryz.ntmps147 Tryz.results147 (by simp) fun main J hJ A L hd hs=>?_;have M:=hs 0;have k1:=hs 1;clear hs;refine ah hJ ?_;simp only[*,go_sem,-h];refine ay fun e r1 n1=>?_;try simp only[au] at n1
 try simp only[*,go_sem,-h]
 refine af hJ (ah hJ ?_);simp only[*,go_sem,-h];revert h;refine bS fun ar N o=>?_;have h:=trivial;refine vj hJ aV.v (by simp only[*,go_sem]) K (by kernel_rfl) (by kernel_rfl) (ρ:=Unit) (fun (m:(List aV)) O=>∃(d7:Option Addr) (c:Nat) (d:List (Nat×Obj)),O=(e,.cells #[.slice d7 m.length c] 122)::d/\aO gP ro 121 (.slice d7 m.length c) m d/\m.length<=c) (f:=nO) N ?_ ?_ (by decide) ?_ ?_
 ·exact ⟨none,0,[],rfl,aO.nil _ _ _,Nat.le_refl _⟩
 ·rintro d4 p i P v6 a a0 h main J hJ _ ⟨d7,c,d,rfl,q,Q⟩;unfold nO at h;try dsimp only at h
  generalize j:mb _ _ _=n;have a2:sz n=13:=by rw[<-j,vi];simp only[*,go_sem]
  have a3:n.defers=[]:=by rw[<-j];rfl
  have a4:slot n 2= .pointer (some ⟨e,0,none⟩):=by rw[<-j,nq];simp only[*,go_sem]
  have a5:slot n 7= .agg #[.int .i64 a.e0,.int .i64 a.e1,.int .i64 a.e2]:=by rw[<-j,nq];simp only[*,go_sem]
  clear j L hd M k1;refine fG hJ fun g b=>?_;replace b:aE ro ((p,.loop i)::(d4,.deferred (some []))::(e,.cells #[.slice d7 v6.length c] 122)::d):=b;have r3:=b.hd;have a6:=b.tl.hd;have r1:=b.tl.tl.hd;clear b;replace g:=g.nd;simp only[keys,List.map_cons,List.map_nil,List.map_append,List.cons_append,List.nil_append,List.nodup_cons,List.mem_cons,List.mem_append,List.not_mem_nil,or_false,not_or] at g;refine av hJ fun R=>?_;refine aj hJ ?_;simp only[*,go_sem,-h];refine ay fun y a7 z=>?_;have a8:=aQ.cons z R;try simp only[au] at z
  try simp only[*,go_sem,-h]
  simp only[pG,go_sem];refine ⟨i,by simp only[*,go_sem],P,?_⟩;try simp only[*,go_sem,-h]
  refine aP hJ ?_;refine av hJ fun S=>?_;refine aj hJ ?_;revert h;refine bS fun a9 T h=>?_;obtain ⟨U,B⟩:=dw T;simp only[*,go_sem,-h];refine ay fun C V D=>?_;have W:=aQ.cons D S;try simp only[au] at D
  try simp only[*,go_sem,-h]
  refine dW (r:=gP) (l:=v6) (x:=a) (cs:=#[.int .i64 a.e0,.int .i64 a.e1,.int .i64 a.e2]) (e2:=121) [(C,.cells #[.int .i64 a.e0,.int .i64 a.e1,.int .i64 a.e2] 121),(y,.cells #[.int .i64 a.e0,.int .i64 a.e1,.int .i64 a.e2] 121),(p,.loop {i with state:=.busy}),(d4,.deferred (some [])),(e,.cells #[.slice d7 v6.length c] 122)] [] q W U rfl (by simp only[*,go_sem,-h]) V rfl rfl zN zN Et Ev rfl Eu (by decide) (by decide) (fun ba E s d X bb=>?_);simp only[aT] at X;subst d;rw[<-B] at s;clear B;obtain ⟨d28,Y,rfl,Z⟩:=s.len;refine ⟨⟨ro,(C,.cells #[.int .i64 a.e0,.int .i64 a.e1,.int .i64 a.e2] 121)::(y,.cells #[.int .i64 a.e0,.int .i64 a.e1,.int .i64 a.e2] 121)::(p,.loop {i with state:=.busy})::(d4,.deferred (some []))::(e,.cells #[.slice d7 v6.length c] 122)::E⟩,Le.refl _,?_⟩;refine aK ?_;try simp only[*,go_sem,-h]
  obtain rfl:=sI h;simp only[rq,l7,go_sem];refine ⟨{i with state:=.busy},by simp only[*,go_sem],?_⟩;simp only[*,go_sem];refine ⟨_,Le.sub (List.Sublist.cons _ (List.Sublist.cons _ (List.Sublist.refl _))),rfl,d28,Y,E,rfl,s,Z⟩
 ·rintro d49 F G _ v6 ⟨d7,c,d,rfl,q,Q⟩ g b;replace b:aE ro ((F,.loop G)::(d49,.deferred (some []))::(e,.cells #[.slice d7 v6.length c] 122)::d):=b;have ab:=b.hd;have ad:=b.tl.hd;have r1:=b.tl.tl.hd;clear b;replace g:=g.nd;simp only[keys,List.map_cons,List.map_nil,List.map_append,List.cons_append,List.nil_append,List.nodup_cons,List.mem_cons,List.mem_append,List.not_mem_nil,or_false,not_or] at g;refine ⟨fun k=>?_,fun k1 k=>?_⟩
  ·subst k;have h:=o;dsimp only[aA] at h;refine af hJ ?_;refine av hJ fun bc=>?_;refine aj hJ ?_;simp only[*,go_sem,-h];obtain rfl:=sI h;refine av hJ fun H=>?_;obtain ⟨bd,ae,al,I,ao⟩:=q.eR [(F,.loop G),(d49,.deferred (some [])),(e,.cells #[.slice d7 v6.length c] 122)] [] H (aE.cons ab (aE.cons ad (aE.cons r1 (aE.nil _))));clear H;refine cB hJ ao ?_;obtain ⟨bj,bk,-⟩:=I.op;simp only[bp] at al;refine av hJ fun t=>?_;replace t:=t.nd;(try simp only[keys,List.map_cons,List.map_nil,List.map_append,List.cons_append,List.nil_append,List.nodup_cons,List.mem_cons,List.mem_append,List.not_mem_nil,or_false,not_or] at t);refine az ?_;simp only[*,go_sem];exact ⟨_,ae,Le.sub (List.nil_sublist _),_,rfl,I⟩
  subst k;have h:=o;dsimp only[aA] at h;cases h
 intro k1 bl k;subst k;have h:=o;dsimp only[aA] at h;cases h
def p7 (u0:(List (Option aV))):Option (List aV):=
 ag (se u0) fun a=>some a
theorem AE {ro:Addr->Option Value}(u0:(List (Option aV))){dM:FuncId}{ee ef:Array Value}(c:l8 Tryz.prog dM ee ef aV.v u0 ro){r:(List aV)}(h:p7 u0=some r):eH Tryz.prog 119 #[.func (.func dM) ee ef] ro (fun v aN=>∃a,v=a/\aB gP aN a r):=by
 unfold p7 at h;refine aC.go Tryz.func119 rfl Tryz.ntmps119 Tryz.results119 (by simp) fun main J hJ A g hd hs=>?_;have i:=hs 0;clear hs;refine ah hJ ?_;simp only[*,go_sem];refine ah hJ ?_;revert h;refine bS fun j d h=>?_;obtain rfl:=sI h;simp only[*,go_sem];refine cc hJ _ (F9 (dz:=dM) (dX:=ee) (dY:=ef) u0 c d) fun v k e l f=>?_;obtain ⟨m,rfl,b⟩:=f;obtain ⟨d8,n,rfl,o,p,-⟩:=id b;refine aK ?_;try simp only[*,go_sem]
 refine az ?_;simp only[*,go_sem];exact ⟨_,e,Le.sub (List.nil_sublist _),_,rfl,b⟩
def gz (u0:ak)(c:(List (ak->Option Int))):Option (cM×Int):=
 ag (e9 u0 c) fun a=>cond ((a.2 != 0)) (some ((⟨(⟨0,0,(⟨0,0⟩:an),([]:(List b8)),([]:(List cm)),([]:(List b6)),([]:(List bU))⟩:ak),([]:(List aV))⟩:cM),a.2)) (ag (p7 (mz a.1)) fun b=>cond (((b.length:Int)==0)) (some ((⟨(⟨0,0,(⟨0,0⟩:an),([]:(List b8)),([]:(List cm)),([]:(List b6)),([]:(List bU))⟩:ak),([]:(List aV))⟩:cM),9)) (some ((⟨a.1,b⟩:cM),0)))
theorem jE {ro:Addr->Option Value}(N:dc ro)(u0:ak){s1 c d f:Value}(G:bL ro u0 s1 c d f)(B:(List (ak->Option Int))){H:Value}(I:aB (c5) ro H B){r:(cM×Int)}(h:gz u0 B=some r):eH Tryz.prog 67 #[bv u0 s1 c d f,H] ro (fun v aN=>∃K w1 w2 w3 w4,v= .tuple #[.agg #[.int .i64 r.1.book.bH,.int .i64 r.1.book.bV,.int .i64 r.1.book.aF.num,.int .i64 r.1.book.aF.den,K,w1,w2,w3,w4],.int .i64 r.2]/\bL aN r.1.book K w1 w2 w3/\aB gP aN w4 r.1.all):=by
 obtain ⟨d31,ae,rfl,al,ao,-⟩:=id I;unfold gz at h;have O:=G.oc;simp only[bG] at O;refine aC.go Tryz.func67 rfl Tryz.ntmps67 Tryz.results67 (by simp) fun main J hJ A ar hd hs=>?_;have a0:=hs 0;have k1:=hs 1;clear hs;refine ah hJ ?_;simp only[*,go_sem];refine ay fun C g P=>?_;try simp only[au] at P
 refine ay fun D i Q=>?_;try simp only[au] at Q
 try simp only[*,go_sem]
 refine ah hJ ?_;revert h;refine bS fun b R h=>?_;simp only[*,go_sem];refine cc hJ _ (ki N u0 G B I R) fun v S j E k=>?_;obtain ⟨m,n,o,q,rfl,a⟩:=k;have T:=a.oc;simp only[bG] at T;replace i:=E.hd;replace g:=E.tl.hd;simp only[bp] at E;refine aK ?_;try simp only[*,go_sem]
 refine ay fun F s U=>?_;try simp only[au] at U
 try simp only[*,go_sem]
 refine af hJ (ah hJ ?_);simp only[*,go_sem];revert h;refine jC hJ (by simp only[*,go_sem]) (fun V h=>?_) fun V h=>?_
 ·obtain rfl:=sI h;refine ah hJ ?_;simp only[*,go_sem];refine az ?_;simp only[*,go_sem];exact ⟨_,j,Le.sub (List.nil_sublist _),_,_,_,_,_,rfl,⟨aB.nil _ _,aB.nil _ _,aB.nil _ _,aB.nil _ _⟩,aB.nil _ _⟩
 refine aI hJ (af hJ ?_);refine eI hJ mixed [] (.rd 0 (.rd 1 (.pure 2 (.two 3 (.pure 4 (.one 5 (.one 6 .done))) 5 (.one 3 (.pure 4 (.one 6 .done))))))) ⟨S,[(F,bl b.1 m n o q),(D,.cells #[.int .i64 0,.int .i64 0,.int .i64 0,.int .i64 0,.slice none 0 0,.slice none 0 0,.slice none 0 0,.slice none 0 0,.slice none 0 0] 124),(C,bk u0 s1 c d f)]⟩ (by simp only[*,go_sem]) (by kernel_rfl) ?_;simp only[*,go_sem];refine j4 ?_ ?_
 ·revert h;refine bS fun a2 W h=>?_;simp only[*,go_sem];refine cc hJ _ (AE (dM:=66) (ee:=#[bv b.1 m n o q]) (ef:=#[]) (mz b.1) (rZ b.1 a.e a.p a.y a.t) W) fun v a3 u w k=>?_;obtain ⟨a4,rfl,L⟩:=k;replace a:=a.mono u;replace s:=w.hd;replace i:=w.tl.hd;replace g:=w.tl.tl.hd;simp only[bp] at w;obtain ⟨d80,a5,rfl,a6,a7,-⟩:=id L;have a8:=eP (l:=[(F,bl b.1 m n o q),(D,.cells #[.int .i64 0,.int .i64 0,.int .i64 0,.int .i64 0,.slice none 0 0,.slice none 0 0,.slice none 0 0,.slice none 0 0,.slice none 0 0] 124),(C,bk u0 s1 c d f)]) u (aE.cons s (aE.cons i (aE.cons g (aE.nil _))));refine ⟨by simp only[*,go_sem],?_⟩;refine bZ ?_;try simp only[*,go_sem]
  refine ay fun a9 ba X=>?_;try simp only[au] at X
  try simp only[*,go_sem]
  refine af hJ (ah hJ ?_);simp only[*,go_sem];revert h;refine jC hJ (by simp only[*,go_sem]) (fun Y h=>?_) fun Y h=>?_
  ·obtain rfl:=sI h;refine ah hJ ?_;simp only[*,go_sem];refine az ?_;simp only[*,go_sem];exact ⟨_,(j).trans u,Le.sub (List.nil_sublist _),_,_,_,_,_,rfl,⟨aB.nil _ _,aB.nil _ _,aB.nil _ _,aB.nil _ _⟩,aB.nil _ _⟩
  obtain rfl:=sI h;refine aI hJ (af hJ ?_);refine aj hJ ?_;simp only[*,go_sem];refine az ?_;simp only[*,go_sem];exact ⟨_,(j).trans u,Le.sub (List.nil_sublist _),_,_,_,_,_,rfl,a,L⟩
 revert h;refine bS fun bb Z h=>?_;simp only[*,go_sem];refine ay fun bc bd ab=>?_;try simp only[au] at ab
 try simp only[*,go_sem]
 refine cc hJ _ (AE (dM:=66) (ee:=#[bv b.1 m n o q]) (ef:=#[]) (mz b.1) (rZ b.1 a.e a.p a.y a.t) Z) fun v bj x z k=>?_;obtain ⟨bm,rfl,M⟩:=k;replace a:=a.mono x;replace s:=z.tl.hd;replace i:=z.tl.tl.hd;replace g:=z.tl.tl.tl.hd;simp only[bp] at z;obtain ⟨d96,bo,rfl,br,bs,-⟩:=id M;have bz:=eP (l:=[(F,bl b.1 m n o q),(D,.cells #[.int .i64 0,.int .i64 0,.int .i64 0,.int .i64 0,.slice none 0 0,.slice none 0 0,.slice none 0 0,.slice none 0 0,.slice none 0 0] 124),(C,bk u0 s1 c d f)]) x (aE.cons s (aE.cons i (aE.cons g (aE.nil _))));refine ⟨by simp only[*,go_sem],?_⟩;refine bZ ?_;try simp only[*,go_sem]
 refine af hJ (ah hJ ?_);simp only[*,go_sem];revert h;refine jC hJ (by simp only[*,go_sem]) (fun ad h=>?_) fun ad h=>?_
 ·obtain rfl:=sI h;refine ah hJ ?_;simp only[*,go_sem];refine az ?_;simp only[*,go_sem];exact ⟨_,(j).trans x,Le.sub (List.nil_sublist _),_,_,_,_,_,rfl,⟨aB.nil _ _,aB.nil _ _,aB.nil _ _,aB.nil _ _⟩,aB.nil _ _⟩
 obtain rfl:=sI h;refine aI hJ (af hJ ?_);refine aj hJ ?_;simp only[*,go_sem];refine az ?_;simp only[*,go_sem];exact ⟨_,(j).trans x,Le.sub (List.nil_sublist _),_,_,_,_,_,rfl,a,M⟩
def vF (a:Int)(i56:Nat)(b:Int)(st:(List cm)):Option (Fl (List cm) ak):=
 ag (cZ st ([(⟨b,a⟩:cm)])) fun c=>some (.nx c)
def si (u0:ak)(a:Int)(b:(List Int)):Option ak:=
 ag (r6 u0.props) fun c=>ag (bE (vF a) 0 b c) fun o=>aA o (fun d=>some (⟨u0.bH,u0.bV,u0.aF,u0.aD,d,u0.aH,u0.told⟩:ak)) (fun _ _=>none) (fun r=>some r)
theorem Ga {ro:Addr->Option Value}(u0:ak){s1 s b c:Value}(g:bL ro u0 s1 s b c)(i:Int)(d:(List Int)){D:Value}(E:aB rI ro D d){r:ak}(h:si u0 i d=some r):eH Tryz.prog 135 #[bv u0 s1 s b c,.int .i64 i,D] ro (fun v aN=>∃F w1 w2 w3,v=bv r F w1 w2 w3/\bL aN r F w1 w2 w3):=by
 obtain ⟨d31,b4,rfl,b5,U,-⟩:=id E;unfold si at h;have V:=g.oc;simp only[bG] at V;refine aC.go Tryz.func135 rfl Tryz.ntmps135 Tryz.results135 (by simp) fun main J hJ A W hd hs=>?_;have X:=hs 0;have k1:=hs 1;have Y:=hs 2;clear hs;refine ah hJ ?_;simp only[*,go_sem];refine ay fun k Z ab=>?_;try simp only[au] at ab
 refine ay fun o ad ae=>?_;try simp only[au] at ae
 try simp only[*,go_sem]
 refine af hJ ?_;refine av hJ fun ca=>?_;refine aj hJ ?_;revert h;refine bS fun al ao h=>?_;simp only[*,go_sem];refine dL hJ (aR:=[]) [(o,bz 115),(k,bl u0 s1 s b c)] [] _ (Ay u0.props g.p ao) (fun cb G H u w cd=>?_);simp only[aT] at w;subst u;obtain ⟨d45,ar,rfl,a0⟩:=H.len;refine ⟨⟨ro,(o,bz 115)::(k,bl u0 s1 s b c)::G⟩,Le.refl _,?_⟩;refine aK ?_;try simp only[*,go_sem]
 refine af hJ (af hJ ?_);refine av hJ fun cf=>?_;refine aj hJ ?_;simp only[*,go_sem];refine aP hJ ?_;revert h;refine bS fun a2 j a3=>?_;refine bR hJ [8,17,18,19,20,21,22,23,24,25,26,27,28,29,30,31] (fun m a4 F'=>∃(i56:Nat) (d51:Option Addr) (f:Nat) (z:List (Nat×Obj)) (a:(List cm)),m=d.length - i56/\i56<=d.length/\bE (vF i) i56 (d.drop i56) a=some a2/\F'=⟨ro,(o,bz 115)::(k,bl u0 s1 (sl d51 a f) b c)::z⟩/\aO ez ro 96 (.slice d51 a.length f) a z/\a.length<=f/\slot a4 17= .int .i64 (i56:Int)) d.length ?_ ?_
 ·refine ⟨0,d45,ar,G,al,(Nat.sub_zero _).symm,Nat.zero_le _,j,rfl,H,a0,?_⟩;simp only[*,go_sem]
 rintro cl cu F' I ⟨i56,d51,f,z,a,rfl,cy,j,rfl,K,cS,c0⟩;obtain ⟨a5,a6,a7⟩:=I.pick [1,3,6,15,16] (by decide);simp only[*,go_sem] at a5 a6 a7;clear I W hd X k1 Y;refine ah hJ ?_;simp only[*,go_sem];refine af hJ ?_;rcases Nat.lt_or_ge i56 d.length with a8|L
 ·refine bJ hJ (by simp only[*,go_sem]) ?_;refine aI hJ ?_;obtain ⟨q,B⟩:∃x,d[i56]?=some x:=⟨_,List.getElem?_eq_getElem a8⟩
  rw[dg B] at j;revert j;refine bS fun da h a9=>?_;unfold vF at h;try dsimp only at h
  obtain ⟨db,ba,bb,bc,M⟩:=E.el _ _ B;obtain rfl:ba=[.int .i64 q]:=bc;cases bb;have bd:=M 0 _ rfl;simp only[go_sem] at bd;clear M B;refine af hJ (aP hJ (af hJ ?_));refine av hJ fun dd=>?_;refine aj hJ ?_;simp only[*,go_sem];refine av hJ fun bj=>?_;refine aj hJ ?_;revert h;refine bS fun bk bm h=>?_;obtain rfl:=sI h;obtain ⟨bo,N⟩:=dw bm;simp only[*,go_sem];refine ay fun O br P=>?_;have bs:=aQ.cons P bj;try simp only[au] at P
  try simp only[*,go_sem]
  refine dW (r:=ez) (l:=a) (x:=(⟨q,i⟩:cm)) (cs:=#[.int .i64 q,.int .i64 i]) (e2:=96) [(O,.cells #[.int .i64 q,.int .i64 i] 96),(o,bz 115),(k,bl u0 s1 (sl d51 a f) b c)] [] K bs bo rfl (by simp only[*,go_sem]) br rfl rfl kU kU q7 q9 rfl q8 (by decide) (by decide) (fun df Q C u w dk=>?_);simp only[aT] at w;subst u;rw[<-N] at C;clear N;obtain ⟨d74,b0,rfl,b1⟩:=C.len;refine ⟨⟨ro,(O,.cells #[.int .i64 q,.int .i64 i] 96)::(o,bz 115)::(k,bl u0 s1 (sl d51 a f) b c)::Q⟩,Le.refl _,?_⟩;refine aK ?_;try simp only[*,go_sem]
  have dp:=cp (n:=i56) (by have:=U;omega);refine aj hJ ?_;simp only[*,go_sem];refine ⟨d.length - (i56+1),by omega,_,Le.sub (List.Sublist.cons _ (List.Sublist.refl _)),i56+1,d74,b0,Q,bk,rfl,by omega,a9,rfl,C,b1,?_⟩;simp only[*,go_sem]
 have dq:=Nat.not_lt.2 L;refine bI hJ (by simp only[*,go_sem]) ?_;rw[List.drop_eq_nil_of_le L] at j;obtain rfl:=sI j;clear j;have h:=a3;dsimp only[aA] at h;obtain rfl:=sI h;refine bN ?_;simp only[go_sem];refine af hJ ?_;refine av hJ fun ds=>?_;refine aj hJ ?_;simp only[*,go_sem];refine av hJ fun R=>?_;obtain ⟨dt,S,b2,T,b3⟩:=K.eR [(o,bl u0 s1 (sl d51 a f) b c),(k,bl u0 s1 (sl d51 a f) b c)] [] R (aE.cons ad (aE.cons Z (aE.nil _)));clear R;refine cB hJ b3 ?_;obtain ⟨du,dv,-⟩:=T.op;replace g:=g.mono S;simp only[bp] at b2;refine az ?_;simp only[*,go_sem];exact ⟨_,S,Le.sub (List.nil_sublist _),_,_,_,_,rfl,⟨g.e,T,g.y,g.t⟩⟩
def vG (u0:ak)(a:(List Int))(st:((List (List Int))×Int)):Option (Fl ((List (List Int))×Int) (List (List Int))):=
 ag (gb u0 st.2) fun b=>cond (b) (ag (r7 a) fun c=>ag (cZ c ([st.2])) fun d=>ag (cZ st.1 ([d])) fun e=>some (.nx (e,(IntKind.i64.wrap (st.2+1))))) (some (.bk (st.1,st.2)))
def vH (u0:ak)(a:(List Int))(st:((List (List Int))×Int)):Option (Fl ((List (List Int))×Int) (List (List Int))):=
 ag (gb u0 st.2) fun b=>cond (b) (ag (r7 a) fun c=>ag (cZ c ([st.2])) fun d=>ag (cZ st.1 ([d])) fun e=>some (.nx (e,(IntKind.i64.wrap (st.2+1))))) (some (.bk (st.1,st.2)))
def vI (u0:ak)(i47:Nat)(a:(List Int))(st:(List (List Int))):Option (Fl (List (List Int)) (List (List Int))):=
 ag (bh u0.aD 0) fun b=>cond (decide (0<(a.length:Int))) (ag (bh a (IntKind.i64.wrap ((a.length:Int) - 1))) fun c=>ag (aS (vG u0 a) fu (st,(IntKind.i64.wrap (c+1)))) fun o=>aA o (fun d=>some (.nx d.1)) (fun _ _=>none) (fun r=>some (.rt r))) (ag (aS (vH u0 a) fu (st,b.aM)) fun o=>aA o (fun e=>some (.nx e.1)) (fun _ _=>none) (fun r=>some (.rt r)))
def sj (u0:ak)(a:(List (List Int))):Option (List (List Int)):=
 ag (bE (vI u0) 0 a ([]:List (List Int))) fun o=>aA o (fun b=>some b) (fun _ _=>none) (fun r=>some r)
theorem AF {ro:Addr->Option Value}(u0:ak){s1 a b c:Value}(j:bL ro u0 s1 a b c)(s:(List (List Int))){bo:Value}(Q:aB (rL rI) ro bo s){r:(List (List Int))}(h:sj u0 s=some r):eH Tryz.prog 100 #[bv u0 s1 a b c,bo] ro (fun v aN=>∃br,v=br/\aB (rL rI) aN br r):=by
 obtain ⟨d3,c4,rfl,h9,ib,-⟩:=id j.e;obtain ⟨d31,ih,rfl,ik,bs,-⟩:=id Q;unfold sj at h;refine aC.go Tryz.func100 rfl Tryz.ntmps100 Tryz.results100 (by simp) fun main J hJ A e1 hd hs=>?_;have e3:=hs 0;have k1:=hs 1;clear hs;refine ah hJ ?_;simp only[*,go_sem];refine ay fun d u fa=>?_;try simp only[au] at fa
 try simp only[*,go_sem]
 refine ah hJ ?_;simp only[*,go_sem];refine af hJ (ah hJ ?_);simp only[*,go_sem];refine aP hJ ?_;revert h;refine bS fun fb F fg=>?_;refine bR hJ [5,7,8,9,12,13,14,15,16,17,18,19,20,21,22,23,24,25,26,27,28,29,30,31,32,33,34,35,36,37,38,39,40,41,42,43,44,45,46] (fun m w F'=>∃(i47:Nat) (y:Addr->Option Value) (d38:Option Addr) (G:Nat) (K:List (Nat×Obj)) (z:(List (List Int))),m=s.length - i47/\i47<=s.length/\bE (vI u0) i47 (s.drop i47) z=some fb/\F'=⟨y,(d,bl u0 (sl d3 u0.aD c4) a b c)::K⟩/\Ext ro y/\aO (rL rI) y 35 (.slice d38 z.length G) z K/\z.length<=G/\slot w 12= .int .i64 (i47:Int)/\slot w 5= .slice d38 z.length G) s.length ?_ ?_
 ·refine ⟨0,ro,none,0,[],([]:List (List Int)),(Nat.sub_zero _).symm,Nat.zero_le _,F,rfl,Ext.refl _,aO.nil _ _ _,Nat.le_refl _,?_⟩;simp only[*,go_sem]
 rintro il bz F' b0 ⟨i47,y,d38,G,K,z,rfl,im,F,rfl,L,Z,b1,b2,b3⟩;refine fG hJ fun _ b4=>?_;replace Q:=Q.mono L;replace j:=j.mono L;replace u:=b4.hd;simp only[bp] at b4;obtain ⟨ab,ad,ae⟩:=b0.pick [2,4,10,11] (by decide);simp only[*,go_sem] at ab ad ae;clear b0 e1 hd e3 k1;refine ah hJ ?_;simp only[*,go_sem];refine af hJ ?_;rcases Nat.lt_or_ge i47 s.length with fi|b5
 ·refine bJ hJ (by simp only[*,go_sem]) ?_;refine aI hJ ?_;obtain ⟨R,al⟩:∃x,s[i47]?=some x:=⟨_,List.getElem?_eq_getElem fi⟩
  rw[dg al] at F;revert F;refine bS fun iv h ca=>?_;unfold vI at h;try dsimp only at h
  obtain ⟨ix,j1,fo,fp,cb⟩:=Q.el _ _ al;obtain ⟨j2,rfl,t⟩:=fp;obtain ⟨d56,kh,rfl,kj,kk,kl⟩:=id t;cases fo;have fr:=cb 0 _ rfl;simp only[go_sem] at fr;clear cb al;refine af hJ (aP hJ (af hJ ?_));refine av hJ fun km=>?_;refine aj hJ ?_;simp only[*,go_sem];refine af hJ ?_;refine av hJ fun kn=>?_;refine aj hJ ?_;revert h;refine bS fun cd fs h=>?_;obtain ⟨kp,ks,cf⟩:=cK fs;obtain ⟨f,ft,fv,fw,ao⟩:=j.e.el _ _ cf;obtain rfl:ft=cd.cells:=fw;cases fv;have fx:=ao 0 _ rfl;simp only[go_sem] at fx;have gg:=ao 1 _ rfl;simp only[go_sem] at gg;clear ao cf;try simp only[*,go_sem]
  refine af hJ (af hJ ?_);refine av hJ fun kt=>?_;refine aj hJ ?_;simp only[*,go_sem];revert h;refine jC hJ (by simp only[*,go_sem]) (fun gl h=>?_) fun gl h=>?_
  ·refine av hJ fun kv=>?_;refine aj hJ ?_;revert h;refine bS fun cl gn h=>?_;obtain ⟨kx,ky,cu⟩:=cK gn;obtain ⟨k0,gp,gB,gC,cy⟩:=t.el _ _ cu;obtain rfl:gp=[.int .i64 cl]:=gC;cases gB;have gM:=cy 0 _ rfl;simp only[go_sem] at gM;clear cy cu;(try simp only[*,go_sem]);refine af hJ ?_;refine av hJ fun k2=>?_;refine aj hJ ?_;simp only[*,go_sem];refine aP hJ ?_;revert h;refine bS fun gT S gV=>?_;refine bR hJ [5,9,33,34,35,36,37,38,39,40,41,42,43,44,45] (fun m w F'=>∃(H:Addr->Option Value) (d75:Option Addr) (M:Nat) (k:List (Nat×Obj)) (B:(List (List Int))) (g:Int),aS (vG u0 R) m (B,g)=some gT/\F'=⟨H,(d,bl u0 (sl (some f) u0.aD c4) a b c)::k⟩/\Ext y H/\aO (rL rI) H 35 (.slice d75 B.length M) B k/\B.length<=M/\slot w 5= .slice d75 B.length M/\slot w 9= .int .i64 g) fu ?_ ?_
   ·refine ⟨y,d38,G,K,z,(IntKind.i64.wrap (cl+1)),S,rfl,Ext.refl _,Z,b1,?_⟩;simp only[*,go_sem]
   rintro ar g0 F' a0 ⟨H,d75,M,k,B,g,S,rfl,T,N,g1,lb,lh⟩;refine fG hJ fun _ cS=>?_;replace t:=t.mono T;replace j:=j.mono T;replace u:=cS.hd;simp only[bp] at cS;obtain ⟨g2,g3,g4⟩:=a0.pick [2,4,7,8,10,11,12,13,15,16,17,18,21,22,23,24,25,26,27,28,30,31,32] (by decide);simp only[*,go_sem] at g2 g3 g4;have lj:cC [5,7,8,9,12,13,14,15,16,17,18,19,20,21,22,23,24,25,26,27,28,29,30,31,32,33,34,35,36,37,38,39,40,41,42,43,44,45,46] g0 bz:=(a0.fD (by decide)).trans (by simp only[*,go_sem]);clear a0 ab ad ae b3 b2;obtain _|ar:=ar
   ·exact absurd S (by simp only[aS,reduceCtorEq,not_false_eq_true])
   revert S;refine bS fun lk h a2=>?_;unfold vG at h;(try dsimp only at h);refine af hJ (af hJ ?_);refine av hJ fun ll=>?_;refine aj hJ ?_;revert h;refine bS fun ln ha h=>?_;simp only[*,go_sem];refine bn hJ _ (rE u0 (j.mono aW) g ha) ?_;(try simp only[*,go_sem]);revert h;refine jC hJ (by simp only[*,go_sem]) (fun hc h=>?_) fun hc h=>?_
   ·refine aI hJ (af hJ ?_);refine aP hJ ?_;refine av hJ fun lo=>?_;refine aj hJ ?_;revert h;refine bS fun hf hg h=>?_;simp only[*,go_sem];refine dL hJ (aR:=[]) [(d,bl u0 (sl (some f) u0.aD c4) a b c)] k _ (Az R t hg) (fun lr hh c0 p q hi=>?_);simp only[aT] at q;subst p;obtain ⟨d133,lv,rfl,lx⟩:=c0.len;refine ⟨⟨H,(d,bl u0 (sl (some f) u0.aD c4) a b c)::(hh++k)⟩,Le.refl _,?_⟩;refine aK ?_;revert h;refine bS fun U hj h=>?_;obtain ⟨hk,da⟩:=dw hj;(try simp only[*,go_sem]);refine ay fun C db dd=>?_;have hl:=aQ.cons dd hi;try simp only[au] at dd
    (try simp only[*,go_sem]);refine dW (r:=rI) (l:=hf) (x:=g) (cs:=#[.int .i64 g]) (e2:=3) [(C,ic g),(d,bl u0 (sl (some f) u0.aD c4) a b c)] k c0 hl hk rfl (by simp only[*,go_sem]) db rfl rfl fM fM kR kT rfl kS (by decide) (by decide) (fun ly df a3 p q dk=>?_);simp only[aT] at q;subst p;rw[<-da] at a3;clear da;obtain ⟨d145,a4,rfl,lL⟩:=a3.len;obtain ⟨a5,V,a6,dp,hn⟩:=a3.eR [(C,ic g),(d,bl u0 (sl (some f) u0.aD c4) a b c)] k dk (aE.cons db (aE.cons u (N.jx)));have ho:=aQ.sub (l:=(C,ic g)::(d,bl u0 (sl (some f) u0.aD c4) a b c)::k) (l':=(C,ic g)::(d,bl u0 (sl (some f) u0.aD c4) a b c)::(df++k)) [(C,ic g),(d,bl u0 (sl (some f) u0.aD c4) a b c)] df k (by first|rfl|simp only[aT]|(simp only[aT];rfl)) (by first|rfl|simp only[aT]|(simp only[aT];rfl)) dk;refine ⟨⟨a5,(C,ic g)::(d,bl u0 (sl (some f) u0.aD c4) a b c)::k⟩,hn,?_⟩;obtain ⟨l1,l2,-⟩:=dp.op;replace t:=t.mono V;replace j:=j.mono V;replace u:=a6.tl.hd;replace N:=N.mono V a6.tl.tl;simp only[bp] at a6;refine aK ?_;revert h;refine bS fun hp hq h=>?_;obtain rfl:=sI h;obtain ⟨hr,dq⟩:=dw hq;(try simp only[*,go_sem]);refine ay fun ds ht dt=>?_;have hv:=aQ.cons dt ho;try simp only[au] at dt
    (try simp only[*,go_sem]);refine dW (r:=(rL rI)) (l:=B) (x:=U) (cs:=#[.slice d145 U.length a4]) (e2:=35) [(ds,.cells #[.slice d145 U.length a4] 35),(C,ic g),(d,bl u0 (sl (some f) u0.aD c4) a b c)] [] N hv hr ⟨_,rfl,dp⟩ (by simp only[*,go_sem]) ht rfl rfl kV kV q3 q5 rfl q4 (by decide) (by decide) (fun l3 du a7 p q l4=>?_);simp only[aT] at q;subst p;rw[<-dq] at a7;clear dq;obtain ⟨d165,hx,rfl,hy⟩:=a7.len;refine ⟨⟨a5,(ds,.cells #[.slice d145 U.length a4] 35)::(C,ic g)::(d,bl u0 (sl (some f) u0.aD c4) a b c)::du⟩,Le.refl _,?_⟩;refine aK ?_;(try simp only[*,go_sem]);refine av hJ fun ma=>?_;refine aj hJ ?_;simp only[*,go_sem];refine ⟨ar,Nat.lt_succ_self _,_,Le.sub (List.Sublist.cons _ (List.Sublist.cons _ (List.Sublist.refl _))),a5,d165,hx,du,hp,(IntKind.i64.wrap (g+1)),a2,rfl,(T.trans V),a7,hy,?_⟩;simp only[*,go_sem]
   obtain rfl:=sI h;refine bN ?_;simp only[go_sem];obtain rfl:=sI a2;clear a2;have h:=gV;dsimp only[aA] at h;obtain rfl:=sI h;have hz:=cp (n:=i47) (by have:=bs;omega);refine aj hJ ?_;simp only[*,go_sem];refine ⟨s.length - (i47+1),by omega,_,Le.sub (List.Sublist.refl _),i47+1,H,d75,M,k,B,rfl,by omega,ca,rfl,(L.trans T),N,g1,?_⟩;simp only[*,go_sem]
  refine aI hJ (af hJ ?_);refine av hJ fun mf=>?_;refine aj hJ ?_;simp only[*,go_sem];refine aP hJ ?_;revert h;refine bS fun hA W hB=>?_;refine bR hJ [5,9,33,34,35,36,37,38,39,40,41,42,43,44,45] (fun m w F'=>∃(I:Addr->Option Value) (d172:Option Addr) (O:Nat) (o:List (Nat×Obj)) (D:(List (List Int))) (i:Int),aS (vH u0 R) m (D,i)=some hA/\F'=⟨I,(d,bl u0 (sl (some f) u0.aD c4) a b c)::o⟩/\Ext y I/\aO (rL rI) I 35 (.slice d172 D.length O) D o/\D.length<=O/\slot w 5= .slice d172 D.length O/\slot w 9= .int .i64 i) fu ?_ ?_
  ·refine ⟨y,d38,G,K,z,cd.aM,W,rfl,Ext.refl _,Z,b1,?_⟩;simp only[*,go_sem]
  rintro a8 hD F' a9 ⟨I,d172,O,o,D,i,W,rfl,X,P,hE,mi,ml⟩;refine fG hJ fun _ dv=>?_;replace t:=t.mono X;replace j:=j.mono X;replace u:=dv.hd;simp only[bp] at dv;obtain ⟨hF,hG,hI⟩:=a9.pick [2,4,7,8,10,11,12,13,15,16,17,18,21,22,23,24,32] (by decide);simp only[*,go_sem] at hF hG hI;have mn:cC [5,7,8,9,12,13,14,15,16,17,18,19,20,21,22,23,24,25,26,27,28,29,30,31,32,33,34,35,36,37,38,39,40,41,42,43,44,45,46] hD bz:=(a9.fD (by decide)).trans (by simp only[*,go_sem]);clear a9 ab ad ae b3 b2;obtain _|a8:=a8
  ·exact absurd W (by simp only[aS,reduceCtorEq,not_false_eq_true])
  revert W;refine bS fun mr h ba=>?_;unfold vH at h;try dsimp only at h
  refine af hJ (af hJ ?_);refine av hJ fun mx=>?_;refine aj hJ ?_;revert h;refine bS fun my hK h=>?_;simp only[*,go_sem];refine bn hJ _ (rE u0 (j.mono aW) i hK) ?_;try simp only[*,go_sem]
  revert h;refine jC hJ (by simp only[*,go_sem]) (fun hL h=>?_) fun hL h=>?_
  ·refine aI hJ (af hJ ?_);refine aP hJ ?_;refine av hJ fun m1=>?_;refine aj hJ ?_;revert h;refine bS fun hM hN h=>?_;simp only[*,go_sem];refine dL hJ (aR:=[]) [(d,bl u0 (sl (some f) u0.aD c4) a b c)] o _ (Az R t hN) (fun m2 hP dC p q hQ=>?_);simp only[aT] at q;subst p;obtain ⟨d230,na,rfl,nb⟩:=dC.len;refine ⟨⟨I,(d,bl u0 (sl (some f) u0.aD c4) a b c)::(hP++o)⟩,Le.refl _,?_⟩;refine aK ?_;revert h;refine bS fun Y hR h=>?_;obtain ⟨hS,dE⟩:=dw hR;(try simp only[*,go_sem]);refine ay fun E dT ea=>?_;have hT:=aQ.cons ea hQ;try simp only[au] at ea
   (try simp only[*,go_sem]);refine dW (r:=rI) (l:=hM) (x:=i) (cs:=#[.int .i64 i]) (e2:=3) [(E,ic i),(d,bl u0 (sl (some f) u0.aD c4) a b c)] o dC hT hS rfl (by simp only[*,go_sem]) dT rfl rfl fM fM kR kT rfl kS (by decide) (by decide) (fun nd eb bb p q ec=>?_);simp only[aT] at q;subst p;rw[<-dE] at bb;clear dE;obtain ⟨bc,bd,rfl,nf⟩:=bb.len;obtain ⟨bj,ed,bk,eh,hV⟩:=bb.eR [(E,ic i),(d,bl u0 (sl (some f) u0.aD c4) a b c)] o ec (aE.cons dT (aE.cons u (P.jx)));have hX:=aQ.sub (l:=(E,ic i)::(d,bl u0 (sl (some f) u0.aD c4) a b c)::o) (l':=(E,ic i)::(d,bl u0 (sl (some f) u0.aD c4) a b c)::(eb++o)) [(E,ic i),(d,bl u0 (sl (some f) u0.aD c4) a b c)] eb o (by first|rfl|simp only[aT]|(simp only[aT];rfl)) (by first|rfl|simp only[aT]|(simp only[aT];rfl)) ec;refine ⟨⟨bj,(E,ic i)::(d,bl u0 (sl (some f) u0.aD c4) a b c)::o⟩,hV,?_⟩;obtain ⟨nm,nn,-⟩:=eh.op;replace u:=bk.tl.hd;replace P:=P.mono ed bk.tl.tl;simp only[bp] at bk;refine aK ?_;revert h;refine bS fun hY hZ h=>?_;obtain rfl:=sI h;obtain ⟨h0,et⟩:=dw hZ;(try simp only[*,go_sem]);refine ay fun eu h1 ev=>?_;have h2:=aQ.cons ev hX;try simp only[au] at ev
   (try simp only[*,go_sem]);refine dW (r:=(rL rI)) (l:=D) (x:=Y) (cs:=#[.slice bc Y.length bd]) (e2:=35) [(eu,.cells #[.slice bc Y.length bd] 35),(E,ic i),(d,bl u0 (sl (some f) u0.aD c4) a b c)] [] P h2 h0 ⟨_,rfl,eh⟩ (by simp only[*,go_sem]) h1 rfl rfl kV kV q3 q5 rfl q4 (by decide) (by decide) (fun np eQ bm p q ns=>?_);simp only[aT] at q;subst p;rw[<-et] at bm;clear et;obtain ⟨h3,h4,rfl,h5⟩:=bm.len;refine ⟨⟨bj,(eu,.cells #[.slice bc Y.length bd] 35)::(E,ic i)::(d,bl u0 (sl (some f) u0.aD c4) a b c)::eQ⟩,Le.refl _,?_⟩;refine aK ?_;(try simp only[*,go_sem]);refine av hJ fun nx=>?_;refine aj hJ ?_;simp only[*,go_sem];refine ⟨a8,Nat.lt_succ_self _,_,Le.sub (List.Sublist.cons _ (List.Sublist.cons _ (List.Sublist.refl _))),bj,h3,h4,eQ,hY,(IntKind.i64.wrap (i+1)),ba,rfl,(X.trans ed),bm,h5,?_⟩;simp only[*,go_sem]
  obtain rfl:=sI h;refine bN ?_;simp only[go_sem];obtain rfl:=sI ba;clear ba;have h:=hB;dsimp only[aA] at h;obtain rfl:=sI h;have hz:=cp (n:=i47) (by have:=bs;omega);refine aj hJ ?_;simp only[*,go_sem];refine ⟨s.length - (i47+1),by omega,_,Le.sub (List.Sublist.refl _),i47+1,I,d172,O,o,D,rfl,by omega,ca,rfl,(L.trans X),P,hE,?_⟩;simp only[*,go_sem]
 have nz:=Nat.not_lt.2 b5;refine bI hJ (by simp only[*,go_sem]) ?_;rw[List.drop_eq_nil_of_le b5] at F;obtain rfl:=sI F;clear F;have h:=fg;dsimp only[aA] at h;obtain rfl:=sI h;refine bN ?_;simp only[go_sem];refine af hJ ?_;refine av hJ fun nA=>?_;refine aj hJ ?_;simp only[*,go_sem];refine av hJ fun eS=>?_;obtain ⟨nH,h6,h7,e0,h8⟩:=Z.eR [(d,bl u0 (sl d3 u0.aD c4) a b c)] [] eS (aE.cons u (aE.nil _));clear eS;refine cB hJ h8 ?_;obtain ⟨nI,nK,-⟩:=e0.op;simp only[bp] at h7;refine az ?_;simp only[*,go_sem];exact ⟨_,(L).trans h6,Le.sub (List.nil_sublist _),_,rfl,e0⟩
def nP (u0:Int):Option Bool:=
 some (u0 != u0)
theorem sk {ro:Addr->Option Value}(u0:Int){r:Bool}(h:nP u0=some r):aC Tryz.prog 172 #[.int .i64 u0] ⟨ro,[]⟩ (fun v _=>v= .bool r):=by
 unfold nP at h;obtain rfl:=sI h;refine aC.go Tryz.func172 rfl Tryz.ntmps172 Tryz.results172 (by simp) fun main J hJ A a hd hs=>?_;have b:=hs 0;clear hs;refine ah hJ ?_;simp only[*,go_sem];refine ah hJ ?_;simp only[*,go_sem];refine az ?_;simp only[*,go_sem]
def iw (u0:Int)(a:Int):Option Bool:=
 ag (nP u0) fun b=>cond (b) (ag (nP a) fun c=>cond (!c) (some true) (some (decide (u0<a)))) (some (decide (u0<a)))
theorem jF {ro:Addr->Option Value}(u0:Int)(a:Int){r:Bool}(h:iw u0 a=some r):aC Tryz.prog 183 #[.int .i64 u0,.int .i64 a] ⟨ro,[]⟩ (fun v _=>v= .bool r):=by
 unfold iw at h;refine aC.go Tryz.func183 rfl Tryz.ntmps183 Tryz.results183 (by simp) fun main J hJ A f hd hs=>?_;have g:=hs 0;have k1:=hs 1;clear hs;refine ah hJ ?_;simp only[*,go_sem];refine ah hJ ?_;revert h;refine bS fun i b h=>?_;simp only[*,go_sem];refine bn hJ _ (sk u0 b) (aK ?_);revert h;refine cS (fun c h=>?_) fun c h=>?_
 ·revert h;refine bS fun j d h=>?_;try simp only[*,go_sem]
  refine bn hJ _ (sk a d) (aK ?_);revert h;refine cS (fun e h=>?_) fun e h=>?_
  ·obtain rfl:=sI h;(try simp only[*,go_sem]);refine az ?_;simp only[*,go_sem]
  obtain rfl:=sI h;try simp only[*,go_sem]
  refine az ?_;simp only[*,go_sem]
 obtain rfl:=sI h;try simp only[*,go_sem]
 refine az ?_;simp only[*,go_sem]
def vJ (c:Int)(st:(Int×(List Int))):Option (Fl (Int×(List Int)) (Unit×(List Int))):=
 cond (decide (c<st.1)) (ag (bh st.2 st.1) fun b=>ag (bh st.2 (IntKind.i64.wrap (st.1 - 1))) fun a=>ag (iw b a) fun d=>cond (d) (ag (bh (st.2.set (st.1).toNat a) (IntKind.i64.wrap (st.1 - 1))) fun e=>some (.nx ((IntKind.i64.wrap (st.1 - 1)),((st.2.set (st.1).toNat a).set (IntKind.i64.wrap (st.1 - 1)).toNat b)))) (some (.bk (st.1,st.2)))) (some (.bk (st.1,st.2)))
def vK (a:Int)(b:Int)(st:(Int×(List Int))):Option (Fl (Int×(List Int)) (Unit×(List Int))):=
 cond (decide (st.1<b)) (ag (aS (vJ a) fu (st.1,st.2)) fun o=>aA o (fun c=>some (.nx ((IntKind.i64.wrap (st.1+1)),c.2))) (fun _ _=>none) (fun r=>some (.rt r))) (some (.bk (st.1,st.2)))
def sn (u0:(List Int))(a:Int)(b:Int):Option (Unit×(List Int)):=
 cond (List.isEmpty u0) none (ag (aS (vK a b) fu ((IntKind.i64.wrap (a+1)),u0)) fun o=>aA o (fun c=>some ((),c.2)) (fun _ _=>none) (fun r=>some r))
theorem AG {ro:Addr->Option Value}(u0:(List Int)){w:Value}{K:List (Nat×Obj)}(x:aO rI ro 3 w u0 K)(k:Int)(z:Int){r:(Unit×(List Int))}(h:sn u0 k z=some r):aC Tryz.prog 177 #[w,.int .i64 k,.int .i64 z] ⟨ro,K⟩ (fun v G=>∃L,(v= .tuple #[]/\aO rI ro 3 w r.2 L)/\Le ⟨ro,L⟩ G):=by
 obtain ⟨d1,c2,rfl,b4⟩:=x.len;unfold sn at h;revert h;refine cS (fun M h=>?_) fun M h=>?_
 ·cases h
 obtain ⟨b,ab,rfl,rfl,b5⟩:=x.ij M;refine aC.go Tryz.func177 rfl Tryz.ntmps177 Tryz.results177 (by simp) fun main J hJ A ad hd hs=>?_;have ae:=hs 0;have k1:=hs 1;have al:=hs 2;clear hs;refine af hJ ?_;refine av hJ fun ca=>?_;refine aj hJ ?_;simp only[*,go_sem];refine aP hJ ?_;revert h;refine bS fun ao n ar=>?_;refine bR hJ [6,7,10,11,12,13,14,15,16,17,18,19,20,21,22,23,24,25,26,27,28,29,30,31,32,33,34,35,36,37,38,39,40,41,42,43,44,45,46,47,48] (fun m B F'=>∃(p:Array Value) (j:Int) (q:(List Int)),aS (vK k z) m (j,q)=some ao/\F'=⟨ro,[(b,Obj.cells p 3)]⟩/\aO rI ro 3 (.slice (some ⟨b,0,none⟩) u0.length c2) q [(b,Obj.cells p 3)]/\slot B 6= .int .i64 j) fu ?_ ?_
 ·refine ⟨ab,(IntKind.i64.wrap (k+1)),u0,n,rfl,x,?_⟩;simp only[*,go_sem]
 rintro s a0 F' N ⟨p,j,q,n,rfl,O,a2⟩;obtain ⟨P,Q,R⟩:=N.pick [0,1,2] (by decide);simp only[*,go_sem] at P Q R;clear N ad hd ae k1 al;obtain _|s:=s
 ·exact absurd n (by simp only[aS,reduceCtorEq,not_false_eq_true])
 revert n;refine bS fun cb h t=>?_;unfold vK at h;try dsimp only at h
 refine af hJ (af hJ ?_);refine av hJ fun cd=>?_;refine aj hJ ?_;simp only[*,go_sem];revert h;refine jC hJ (by simp only[*,go_sem]) (fun a3 h=>?_) fun a3 h=>?_
 ·refine aI hJ (af hJ ?_);refine aP hJ (af hJ ?_);refine av hJ fun cf=>?_;refine aj hJ ?_;simp only[*,go_sem];refine aP hJ ?_;revert h;refine bS fun a4 u S=>?_;refine bR hJ [7,16,17,18,19,20,21,22,23,24,25,26,27,28,29,30,31,32,33,34,35,36,37,38,39,40,41,42,43,44,45,46,47,48] (fun m B F'=>∃(d:Array Value) (a:Int) (e:(List Int)),aS (vJ k) m (a,e)=some a4/\F'=⟨ro,[(b,Obj.cells d 3)]⟩/\aO rI ro 3 (.slice (some ⟨b,0,none⟩) u0.length c2) e [(b,Obj.cells d 3)]/\slot B 7= .int .i64 a) fu ?_ ?_
  ·refine ⟨p,j,q,u,rfl,O,?_⟩;simp only[*,go_sem]
  rintro C a5 F' D ⟨d,a,e,u,rfl,g,cl⟩;obtain ⟨a6,a7,a8⟩:=D.pick [0,1,2,6,10,11,12,15] (by decide);simp only[*,go_sem] at a6 a7 a8;have cu:cC [6,7,10,11,12,13,14,15,16,17,18,19,20,21,22,23,24,25,26,27,28,29,30,31,32,33,34,35,36,37,38,39,40,41,42,43,44,45,46,47,48] a5 a0:=(D.fD (by decide)).trans (by simp only[*,go_sem]);clear D P Q R a2;obtain _|C:=C
  ·exact absurd u (by simp only[aS,reduceCtorEq,not_false_eq_true])
  revert u;refine bS fun cy h l=>?_;unfold vJ at h;try dsimp only at h
  refine af hJ (af hJ ?_);refine av hJ fun c0=>?_;refine cL hJ mixed 15 1 (by simp only[*,go_sem]) (by kernel_rfl) ?_;revert h;refine cS (fun a9 h=>?_) fun a9 h=>?_
  ·revert h;refine bS fun f ba h=>?_;obtain ⟨da,db,T⟩:=cK ba;have dd:a<((u0.length:Nat):Int):=by have:=g.count;omega
   obtain ⟨bb,bc,bd⟩:=g.iW T;obtain rfl:bb=[.int .i64 f]:=bc;have U:=bd 0 _ rfl;simp only[go_sem] at U;have df:=(Array.getElem?_eq_some_iff.1 U).1;revert h;refine bS fun c bj h=>?_;obtain ⟨dk,dp,bk⟩:=cK bj;have dq:IntKind.i64.wrap (a - 1)<((u0.length:Nat):Int):=by have:=g.count;omega
   obtain ⟨bl,bm,bo⟩:=g.iW bk;obtain rfl:bl=[.int .i64 c]:=bm;have V:=bo 0 _ rfl;simp only[go_sem] at V;have ds:=(Array.getElem?_eq_some_iff.1 V).1;revert h;refine bS fun dt br h=>?_;(try simp only[*,go_sem]);refine ⟨_,bx hJ fun F du=>jF f c br,bP ?_⟩;(try simp only[*,go_sem]);revert h;refine jC hJ (by simp only[*,go_sem]) (fun bs h=>?_) fun bs h=>?_
   ·refine aI hJ (af hJ ?_);refine aP hJ ?_;refine av hJ fun dv=>?_;refine eI hJ mixed [15,16,17] (.pure 0 (.pure 1 (.pure 2 (.pure 3 (.pure 4 (.pure 5 (.pure 6 (.pure 7 (.pure 8 (.rd 9 (.pure 10 (.pure 11 (.pure 12 (.rd 13 (.pure 14 (.last 15 (.pure 16 (.last 17 .done)))))))))))))))))) ⟨ro,[(b,Obj.cells d 3)]⟩ (by simp only[*,go_sem]) (by kernel_rfl) ?_;have E:aO rI ro 3 (.slice (some ⟨b,0,none⟩) u0.length c2) (e.set (a).toNat c) [(b,Obj.cells (cH d (a).toNat [.int .i64 c]) 3)]:=by have H:=g.rm (i:=(a).toNat) (y:=c) (by have:=T;have:=(List.getElem?_eq_some_iff.1 this).1;simpa only[List.length_set] using this) (cs:=[.int .i64 c]) rfl;simpa only[rA,vm,Nat.mul_one,Nat.add_zero] using H
    revert h;refine bS fun bz b0 h=>?_;obtain rfl:=sI h;obtain ⟨dC,dE,W⟩:=cK b0;have dT:IntKind.i64.wrap (a - 1)<((u0.length:Nat):Int):=by have:=E.count;omega
    obtain ⟨b1,b2,b3⟩:=E.iW W;obtain rfl:b1=[.int .i64 bz]:=b2;have X:=b3 0 _ rfl;simp only[go_sem] at X;have ea:=(Array.getElem?_eq_some_iff.1 X).1;have Y:aO rI ro 3 (.slice (some ⟨b,0,none⟩) u0.length c2) ((e.set (a).toNat c).set (IntKind.i64.wrap (a - 1)).toNat f) [(b,Obj.cells (cH (cH d (a).toNat [.int .i64 c]) (IntKind.i64.wrap (a - 1)).toNat [.int .i64 f]) 3)]:=by have H:=E.rm (i:=(IntKind.i64.wrap (a - 1)).toNat) (y:=f) (by have:=W;have:=(List.getElem?_eq_some_iff.1 this).1;simpa only[List.length_set] using this) (cs:=[.int .i64 f]) rfl;simpa only[rA,vm,Nat.mul_one,Nat.add_zero] using H
    (try simp only[*,go_sem]);obtain ⟨Z,I⟩:∃o,o=(cH (cH d (a).toNat [.int .i64 c]) (IntKind.i64.wrap (a - 1)).toNat [.int .i64 f]):=⟨_,rfl⟩
    refine cB (F:=⟨ro,[(b,Obj.cells Z 3)]⟩) hJ (by rw[I];exact Le.refl _) ?_;rw[<-I] at Y;clear I;refine av hJ fun eb=>?_;refine aj hJ ?_;simp only[*,go_sem];refine ⟨C,Nat.lt_succ_self _,_,Le.sub (List.Sublist.refl _),Z,(IntKind.i64.wrap (a - 1)),((e.set (a).toNat c).set (IntKind.i64.wrap (a - 1)).toNat f),l,rfl,Y,?_⟩;simp only[*,go_sem]
   obtain rfl:=sI h;refine bN ?_;simp only[go_sem];obtain rfl:=sI l;clear l;have h:=S;dsimp only[aA] at h;obtain rfl:=sI h;refine av hJ fun ec=>?_;refine aj hJ ?_;simp only[*,go_sem];refine ⟨s,Nat.lt_succ_self _,_,Le.sub (List.Sublist.refl _),d,(IntKind.i64.wrap (j+1)),e,t,rfl,g,?_⟩;simp only[*,go_sem]
  obtain rfl:=sI h;try simp only[*,go_sem]
  refine bI hJ (by simp only[*,go_sem]) ?_;refine bN ?_;simp only[go_sem];obtain rfl:=sI l;clear l;have h:=S;dsimp only[aA] at h;obtain rfl:=sI h;refine av hJ fun ed=>?_;refine aj hJ ?_;simp only[*,go_sem];refine ⟨s,Nat.lt_succ_self _,_,Le.sub (List.Sublist.refl _),d,(IntKind.i64.wrap (j+1)),e,t,rfl,g,?_⟩;simp only[*,go_sem]
 obtain rfl:=sI h;refine bN ?_;simp only[go_sem];obtain rfl:=sI t;clear t;have h:=ar;dsimp only[aA] at h;obtain rfl:=sI h;simp only[*,go_sem];exact ⟨_,O,Le.sub (List.Sublist.refl _)⟩
def vL (u0:(List Int))(st:(Int×Int×Int×Bool×Bool)):Option (Fl (Int×Int×Int×Bool×Bool) (Unit×(List Int))):=
 cond (decide ((IntKind.i64.wrap (st.2.1 - st.1))<=12)) (ag (sn u0 st.1 st.2.1) fun a=>some (.rt ((),a.2))) (none)
def so (u0:(List Int))(a:Int)(b:Int)(c:Int):Option (Unit×(List Int)):=
 cond (List.isEmpty u0) none (ag (aS (vL u0) fu (a,b,c,true,true)) fun o=>aA o (fun d=>some ((),u0)) (fun _ _=>none) (fun r=>some r))
theorem AH {ro:Addr->Option Value}(u0:(List Int)){f:Value}{p:List (Nat×Obj)}(g:aO rI ro 3 f u0 p)(i:Int)(j:Int)(k:Int){r:(Unit×(List Int))}(h:so u0 i j k=some r):aC Tryz.prog 148 #[f,.int .i64 i,.int .i64 j,.int .i64 k] ⟨ro,p⟩ (fun v G=>∃b,(v= .tuple #[]/\aO rI ro 3 f r.2 b)/\Le ⟨ro,b⟩ G):=by
 obtain ⟨d1,c2,rfl,Q⟩:=g.len;unfold so at h;revert h;refine cS (fun q h=>?_) fun q h=>?_
 ·cases h
 obtain ⟨s,y,rfl,rfl,R⟩:=g.ij q;refine aC.go Tryz.func148 rfl Tryz.ntmps148 Tryz.results148 (by simp) fun main J hJ A z hd hs=>?_;have B:=hs 0;have k1:=hs 1;have C:=hs 2;have D:=hs 3;clear hs;refine af hJ ?_;refine av hJ fun S=>?_;refine aj hJ ?_;simp only[*,go_sem];refine af hJ ?_;refine av hJ fun T=>?_;refine aj hJ ?_;simp only[*,go_sem];refine aP hJ ?_;revert h;refine bS fun E c F=>?_;refine bR hJ [1,2,3,8,9,10,11,12,13,14,15,16,17,18,19,20,21,22,23,24,25,26,27,28,29,30,31,32,33,34,35,36,37,38,39,40,41,42,43,44,45,46,47,48,49,50,51,52,53,54,55,56,57,58,59,60,61,62,63,64,65,66,67,68,69,70,71,72,73,74,75,76,77,78,79,80,81,82,83,84,85,86,87,88,89,90,91,92,93,94,95,96,97,98,99,100,101,102,103,104,105,106,107,108,109,110,111,112,113,114,115,116,117,118,119,120,121,122,123,124,125,126,127,128,129,130,131,132,133] (fun m a F'=>∃(d:Int) (e:Int) (l:Int) (n:Bool) (o:Bool),aS (vL u0) m (d,e,l,n,o)=some E/\F'=⟨ro,[(s,Obj.cells y 3)]⟩/\slot a 1= .int .i64 d/\slot a 2= .int .i64 e/\slot a 3= .int .i64 l/\slot a 8= .bool n/\slot a 9= .bool o) fu ?_ ?_
 ·refine ⟨i,j,k,true,true,c,rfl,?_⟩;simp only[*,go_sem]
 rintro t U F' u ⟨d,e,l,n,o,c,rfl,V,W,X,Y,Z⟩;obtain ⟨H,I,K⟩:=u.pick [0] (by decide);simp only[*,go_sem] at H I K;clear u z hd B k1 C D;obtain _|t:=t
 ·exact absurd c (by simp only[aS,reduceCtorEq,not_false_eq_true])
 revert c;refine bS fun ab h w=>?_;unfold vL at h;try dsimp only at h
 refine aP hJ (af hJ ?_);refine av hJ fun ad=>?_;refine aj hJ ?_;simp only[*,go_sem];refine af hJ (af hJ ?_);refine av hJ fun ae=>?_;refine aj hJ ?_;simp only[*,go_sem];revert h;refine jC hJ (by simp only[*,go_sem]) (fun L h=>?_) fun L h=>?_
 ·refine af hJ ?_;refine av hJ fun al=>?_;refine aj hJ ?_;revert h;refine bS fun ao M h=>?_;obtain rfl:=sI h;simp only[*,go_sem];refine dL hJ [] [] _ (AG u0 g d e M) (fun ar a0 N b O a2=>?_);obtain ⟨rfl,x⟩:=N;obtain ⟨P,rfl⟩:=x.gw;simp only[aT] at O;subst b;refine ⟨⟨ro,[(s,Obj.cells P 3)]⟩,Le.refl _,?_⟩;try simp only[*,go_sem]
  obtain rfl:=sI w;clear w;have h:=F;dsimp only[aA] at h;obtain rfl:=sI h;refine az ?_;simp only[*,go_sem];exact ⟨_,x,Le.sub (List.Sublist.refl _)⟩
 cases h
def p8 (u0:(List Int))(a:Int)(b:Int)(c:Int):Option (((Int×Int)×(List Int))×Int):=
 cond (List.isEmpty u0) none (ag (bh u0 b) fun d=>ag (bh u0 a) fun e=>ag (iw d e) fun f=>cond (f) (some (((b,a),u0),IntKind.i64.wrap (c+1))) (some (((a,b),u0),c)))
theorem vM {ro:Addr->Option Value}(u0:(List Int)){c:Value}{f:List (Nat×Obj)}(a:aO rI ro 3 c u0 f)(d:Int)(e:Int)(g:Int){b:Nat}(I:∀off sp,ro ⟨b,off,sp⟩=none){r:(((Int×Int)×(List Int))×Int)}(h:p8 u0 d e g=some r):aC Tryz.prog 212 #[c,.int .i64 d,.int .i64 e,.pointer (some ⟨b,0,none⟩)] ⟨ro,(b,ic g)::f⟩ (fun v G=>∃i,(∃j,i=(b,ic r.2)::j/\v= .tuple #[.int .i64 r.1.1.1,.int .i64 r.1.1.2]/\aO rI ro 3 c r.1.2 j)/\Le ⟨ro,i⟩ G):=by
 obtain ⟨d1,c2,rfl,K⟩:=a.len;unfold p8 at h;revert h;refine cS (fun k h=>?_) fun k h=>?_
 ·cases h
 obtain ⟨L,M,rfl,rfl,N⟩:=a.ij k;refine aC.go Tryz.func212 rfl Tryz.ntmps212 Tryz.results212 (by simp) fun main J hJ A O hd hs=>?_;have P:=hs 0;have k1:=hs 1;have Q:=hs 2;have R:=hs 3;clear hs;refine av hJ fun p=>?_;have q:=p.nd;simp only[keys,List.map_cons,List.map_nil,List.map_append,List.cons_append,List.nil_append,List.nodup_cons,List.mem_cons,List.mem_append,List.not_mem_nil,or_false,not_or] at q;refine af hJ ?_;refine av hJ fun S=>?_;refine aj hJ ?_;simp only[*,go_sem];refine af hJ (af hJ ?_);refine av hJ fun T=>?_;refine cL hJ mixed 9 2 (by simp only[*,go_sem]) (by kernel_rfl) ?_;revert h;refine bS fun l s h=>?_;obtain ⟨U,V,t⟩:=cK s;have W:e<((u0.length:Nat):Int):=by have:=a.count;omega
 obtain ⟨u,w,x⟩:=a.iW t;obtain rfl:u=[.int .i64 l]:=w;have m:=x 0 _ rfl;simp only[go_sem] at m;have X:=(Array.getElem?_eq_some_iff.1 m).1;revert h;refine bS fun n y h=>?_;obtain ⟨Y,Z,z⟩:=cK y;have ab:d<((u0.length:Nat):Int):=by have:=a.count;omega
 obtain ⟨B,C,D⟩:=a.iW z;obtain rfl:B=[.int .i64 n]:=C;have o:=D 0 _ rfl;simp only[go_sem] at o;have ad:=(Array.getElem?_eq_some_iff.1 o).1;revert h;refine bS fun ae E h=>?_;try simp only[*,go_sem]
 refine ⟨_,bx hJ fun F al=>jF l n E,?_⟩;try simp only[*,go_sem]
 revert h;refine jC hJ (by simp only[*,go_sem]) (fun H h=>?_) fun H h=>?_
 ·obtain rfl:=sI h;refine af hJ ?_;refine av hJ fun ao=>?_;refine aj hJ ?_;simp only[*,go_sem];refine af hJ ?_;refine av hJ fun ar=>?_;refine aj hJ ?_;simp only[*,go_sem];refine az ?_;simp only[*,go_sem];exact ⟨_,⟨_,rfl,a⟩,Le.sub (List.Sublist.refl _)⟩
 obtain rfl:=sI h;refine aI hJ (af hJ ?_);refine av hJ fun a0=>?_;refine aj hJ ?_;simp only[*,go_sem];refine az ?_;simp only[*,go_sem];exact ⟨_,⟨_,rfl,a⟩,Le.sub (List.Sublist.refl _)⟩
def vN (u0:(List Int))(d:Int)(e:Int)(f:Int)(g:Int):Option ((Int×(List Int))×Int):=
 cond (List.isEmpty u0) none (ag (p8 u0 d e g) fun a=>ag (p8 a.1.2 a.1.1.2 f a.2) fun b=>ag (p8 b.1.2 a.1.1.1 b.1.1.1 b.2) fun c=>some ((c.1.1.2,c.1.2),c.2))
theorem Gb {ro:Addr->Option Value}(u0:(List Int)){g:Value}{p:List (Nat×Obj)}(i:aO rI ro 3 g u0 p)(j:Int)(k:Int)(l:Int)(m:Int){b:Nat}(n:∀off sp,ro ⟨b,off,sp⟩=none){r:((Int×(List Int))×Int)}(h:vN u0 j k l m=some r):aC Tryz.prog 204 #[g,.int .i64 j,.int .i64 k,.int .i64 l,.pointer (some ⟨b,0,none⟩)] ⟨ro,(b,ic m)::p⟩ (fun v G=>∃a,(∃q,a=(b,ic r.2)::q/\v= .int .i64 r.1.1/\aO rI ro 3 g r.1.2 q)/\Le ⟨ro,a⟩ G):=by
 obtain ⟨d1,c2,rfl,S⟩:=i.len;unfold vN at h;revert h;refine cS (fun s h=>?_) fun s h=>?_
 ·cases h
 obtain ⟨o,T,rfl,rfl,U⟩:=i.ij s;refine aC.go Tryz.func204 rfl Tryz.ntmps204 Tryz.results204 (by simp) fun main J hJ A y hd hs=>?_;have z:=hs 0;have k1:=hs 1;have B:=hs 2;have C:=hs 3;have D:=hs 4;clear hs;refine av hJ fun E=>?_;have F:=E.nd;simp only[keys,List.map_cons,List.map_nil,List.map_append,List.cons_append,List.nil_append,List.nodup_cons,List.mem_cons,List.mem_append,List.not_mem_nil,or_false,not_or] at F;refine af hJ ?_;refine av hJ fun V=>?_;refine aj hJ ?_;simp only[*,go_sem];refine af hJ ?_;refine av hJ fun W=>?_;refine aj hJ ?_;revert h;refine bS fun c H h=>?_;simp only[*,go_sem];refine dL hJ [] [] _ (vM u0 i j k m n H) (fun X t d a e Y=>?_);obtain ⟨Z,rfl,rfl,u⟩:=d;obtain ⟨I,rfl⟩:=u.gw;simp only[aT] at e;subst a;refine ⟨⟨ro,(b,ic c.2)::[(o,Obj.cells I 3)]⟩,Le.refl _,?_⟩;refine aK ?_;try simp only[*,go_sem]
 refine af hJ ?_;refine av hJ fun ab=>?_;refine aj hJ ?_;revert h;refine bS fun f K h=>?_;simp only[*,go_sem];refine dL hJ [] [] _ (vM c.1.2 u c.1.1.2 l c.2 n K) (fun ad t d a e ae=>?_);obtain ⟨al,rfl,rfl,w⟩:=d;obtain ⟨L,rfl⟩:=w.gw;simp only[aT] at e;subst a;refine ⟨⟨ro,(b,ic f.2)::[(o,Obj.cells L 3)]⟩,Le.refl _,?_⟩;refine aK ?_;try simp only[*,go_sem]
 refine af hJ ?_;refine av hJ fun ao=>?_;refine aj hJ ?_;revert h;refine bS fun M N h=>?_;obtain rfl:=sI h;simp only[*,go_sem];refine dL hJ [] [] _ (vM f.1.2 w c.1.1.1 f.1.1.1 f.2 n N) (fun ar t d a e a0=>?_);obtain ⟨a2,rfl,rfl,x⟩:=d;obtain ⟨O,rfl⟩:=x.gw;simp only[aT] at e;subst a;refine ⟨⟨ro,(b,ic M.2)::[(o,Obj.cells O 3)]⟩,Le.refl _,?_⟩;refine aK ?_;try simp only[*,go_sem]
 refine af hJ ?_;refine fP [0,2,10,12,20,28] fun a3 P Q R=>?_;simp only[*,go_sem] at P Q R;clear y hd z k1 B C D;refine av hJ fun a4=>?_;refine aj hJ ?_;simp only[*,go_sem];refine az ?_;simp only[*,go_sem];exact ⟨_,⟨_,rfl,x⟩,Le.sub (List.Sublist.refl _)⟩
def vO (u0:(List Int))(b:Int)(d:Int):Option ((Int×Int)×(List Int)):=
 cond (List.isEmpty u0) none (ag (fE (IntKind.i64.wrap (d - b)) 4) fun c=>cond (decide (8<=(IntKind.i64.wrap (d - b)))) (cond (decide (50<=(IntKind.i64.wrap (d - b)))) (none) (ag (vN u0 (IntKind.i64.wrap (b+(IntKind.i64.wrap (c*1)))) (IntKind.i64.wrap (b+(IntKind.i64.wrap (c*2)))) (IntKind.i64.wrap (b+(IntKind.i64.wrap (c*3)))) 0) fun a=>cond ((a.2==0)) (some ((a.1.1,1),a.1.2)) (cond ((a.2==12)) (some ((a.1.1,2),a.1.2)) (some ((a.1.1,0),a.1.2))))) (some ((IntKind.i64.wrap (b+(IntKind.i64.wrap (c*2))),1),u0)))
theorem Gc {ro:Addr->Option Value}(u0:(List Int)){e:Value}{g:List (Nat×Obj)}(b:aO rI ro 3 e u0 g)(a:Int)(i:Int){r:((Int×Int)×(List Int))}(h:vO u0 a i=some r):aC Tryz.prog 180 #[e,.int .i64 a,.int .i64 i] ⟨ro,g⟩ (fun v G=>∃c,(v= .tuple #[.int .i64 r.1.1,.int .i64 r.1.2]/\aO rI ro 3 e r.2 c)/\Le ⟨ro,c⟩ G):=by
 obtain ⟨d1,c2,rfl,N⟩:=b.len;unfold vO at h;revert h;refine cS (fun j h=>?_) fun j h=>?_
 ·cases h
 obtain ⟨p,O,rfl,rfl,P⟩:=b.ij j;refine aC.go Tryz.func180 rfl Tryz.ntmps180 Tryz.results180 (by simp) fun main J hJ A k hd hs=>?_;have l:=hs 0;have k1:=hs 1;have m:=hs 2;clear hs;refine af hJ ?_;refine av hJ fun Q=>?_;refine aj hJ ?_;simp only[*,go_sem];refine af hJ ?_;refine av hJ fun R=>?_;refine aj hJ ?_;simp only[*,go_sem];refine af hJ ?_;refine av hJ fun q=>?_;refine aj hJ ?_;simp only[*,go_sem];refine ay fun s t n=>?_;have S:=aQ.cons n q;try simp only[au] at n
 try simp only[*,go_sem]
 refine af hJ ?_;refine av hJ fun T=>?_;refine aj hJ ?_;revert h;refine bS fun f o h=>?_;obtain ⟨U,V⟩:=jW o;clear o;try simp only[*,go_sem]
 refine af hJ ?_;refine av hJ fun W=>?_;refine aj hJ ?_;simp only[*,go_sem];refine af hJ ?_;refine av hJ fun X=>?_;refine aj hJ ?_;simp only[*,go_sem];refine af hJ (af hJ ?_);refine av hJ fun Y=>?_;refine aj hJ ?_;simp only[*,go_sem];revert h;refine jC hJ (by simp only[*,go_sem]) (fun u h=>?_) fun u h=>?_
 ·refine af hJ (af hJ ?_);refine av hJ fun Z=>?_;refine aj hJ ?_;simp only[*,go_sem];revert h;refine jC hJ (by simp only[*,go_sem]) (fun w h=>?_) fun w h=>?_
  ·cases h
  refine aI hJ ?_;refine av hJ fun ab=>?_;refine aj hJ ?_;revert h;refine bS fun x y h=>?_;simp only[*,go_sem];refine dL hJ [] [] _ (Gb u0 b (IntKind.i64.wrap (a+(IntKind.i64.wrap (f*1)))) (IntKind.i64.wrap (a+(IntKind.i64.wrap (f*2)))) (IntKind.i64.wrap (a+(IntKind.i64.wrap (f*3)))) 0 t y) (fun ad ae z c B al=>?_);obtain ⟨ao,rfl,rfl,d⟩:=z;obtain ⟨C,rfl⟩:=d.gw;simp only[aT] at B;subst c;refine ⟨⟨ro,(s,ic x.2)::[(p,Obj.cells C 3)]⟩,Le.refl _,?_⟩;refine aK ?_;try simp only[*,go_sem]
  refine af hJ ?_;refine fP [0,6,7,9,11,44] fun ar D E F=>?_;simp only[*,go_sem] at D E F;clear k hd l k1 m;refine av hJ fun a0=>?_;refine aj hJ ?_;simp only[*,go_sem];refine aP hJ (af hJ ?_);refine av hJ fun a2=>?_;refine aj hJ ?_;simp only[*,go_sem];revert h;refine jC hJ (by simp only[*,go_sem]) (fun H h=>?_) fun H h=>?_
  ·obtain rfl:=sI h;refine af hJ ?_;refine av hJ fun a3=>?_;refine aj hJ ?_;simp only[*,go_sem];refine az ?_;simp only[*,go_sem];exact ⟨_,d,Le.sub (.cons _ (List.Sublist.refl _))⟩
  refine af hJ ?_;refine av hJ fun a4=>?_;refine aj hJ ?_;simp only[*,go_sem];revert h;refine jC hJ (by simp only[*,go_sem]) (fun I h=>?_) fun I h=>?_
  ·obtain rfl:=sI h;refine af hJ ?_;refine av hJ fun a5=>?_;refine aj hJ ?_;simp only[*,go_sem];refine az ?_;simp only[*,go_sem];exact ⟨_,d,Le.sub (.cons _ (List.Sublist.refl _))⟩
  obtain rfl:=sI h;refine af hJ ?_;refine av hJ fun a6=>?_;refine aj hJ ?_;simp only[*,go_sem];refine az ?_;simp only[*,go_sem];exact ⟨_,d,Le.sub (.cons _ (List.Sublist.refl _))⟩
 obtain rfl:=sI h;refine aI hJ (af hJ ?_);refine av hJ fun a7=>?_;refine aj hJ ?_;simp only[*,go_sem];refine aP hJ (af hJ ?_);refine av hJ fun a8=>?_;refine aj hJ ?_;simp only[*,go_sem];refine bJ hJ (by simp only[*,go_sem]) ?_;refine af hJ ?_;refine fP [0,6,7,11] fun a9 K L M=>?_;simp only[*,go_sem] at K L M;clear k hd l k1 m;refine av hJ fun ba=>?_;refine aj hJ ?_;simp only[*,go_sem];refine az ?_;simp only[*,go_sem];exact ⟨_,b,Le.sub (.cons _ (List.Sublist.refl _))⟩
end Go.Proofs.YtpgcmoanfifglaaGreatDoor
end
section
namespace Go.Sep
open Go Go.Conc
variable {P : Program} {main : Bool} {J : Goroutine → aa → Prop} {Q : Ex → Act → aa → Prop} {a : Act} {F : aa}
def Qn (E:Act->aa->Prop)(Q:Ex->Act->aa->Prop):Ex->Act->aa->Prop
 | .normal,a,F=>∃F0,Le F0 F/\E a F0
 | .exit i,a,F=>Q (.exit i) a F
 | .ret,a,F=>Q .ret a F
theorem Gd (E:Act->aa->Prop)(Q:Ex->Act->aa->Prop)(i:Nat)(a:Act)(F:aa):Qn E Q (.exit i) a F=Q (.exit i) a F:=Eq.trans rfl rfl
theorem Ge (E:Act->aa->Prop)(Q:Ex->Act->aa->Prop)(a:Act)(F:aa):Qn E Q .ret a F=Q .ret a F:=Eq.trans rfl rfl
attribute [go_sem] Gd Ge
theorem Qn.intro {E:Act->aa->Prop}(h:∃F0,Le F0 F/\E a F0):Qn E Q .normal a F:=h
theorem gd (hJ:Closed P main J){x y:Code}(E:Act->aa->Prop)(c:Wp J x (Qn E Q) a F)(d:∀a F,E a F->Wp J y Q a F):Wp J (.seq x y) Q a F:=
 af hJ (c.mono fun e a F b=>by
  cases e with
  |normal=>obtain ⟨F0,hle,f⟩:=b;exact cB hJ hle (d a F0 f)
  |exit i=>exact b
  |ret=>exact b)
theorem aO.cO {ro:Addr->Option Value}{e:TypeId}{b n cap:Nat}{l:List Int}{arr:Array Value}(h:aO rI ro e (.slice (some ⟨b,0,none⟩) n cap) l [(b,.cells arr e)]){i x:Int}(q:bh l i=some x):
  0<=i/\i<((n:Nat):Int)/\arr[i.toNat]?=some (.int .i64 x)/\i.toNat<arr.size:=by
 obtain ⟨a,d,hx⟩:=cK q
 have f:=h.count
 obtain ⟨cs,c,hm⟩:=h.iW hx
 obtain rfl:cs=[.int .i64 x]:=c
 have m:=hm 0 _ rfl
 have m:arr[i.toNat*1+0]?=some (.int .i64 x):=m
 rw[Nat.mul_one,Nat.add_zero] at m
 exact ⟨a,by omega,m,(Array.getElem?_eq_some_iff.1 m).1⟩
theorem aO.fQ {ro:Addr->Option Value}{e:TypeId}{b n cap:Nat}{l:List Int}{arr:Array Value}(h:aO rI ro e (.slice (some ⟨b,0,none⟩) n cap) l [(b,.cells arr e)]){i:Int}(a:0<=i)(c:i<((n:Nat):Int))(y:Int):
  aO rI ro e (.slice (some ⟨b,0,none⟩) n cap) (l.set i.toNat y) [(b,.cells (cH arr i.toNat [.int .i64 y]) e)]:=by
 have d:=h.count
 have:=h.rm (i:=i.toNat) (y:=y) (by omega) (cs:=[.int .i64 y]) rfl
 rwa [show i.toNat*rI.n=i.toNat from Nat.mul_one _] at this
end Go.Sep
end
section
namespace Go.Proofs.YtpgcmoanfifglaaGreatDoor
open Go Go.Sep Go.Proofs
set_option maxRecDepth 100000
set_option maxHeartbeats 4000000
def k3 (m:Nat):Nat:=if m=0 then 0 else m.log2+1
def sr (n:Int):Option Int:=if 0<=n/\n<256 then some ((k3 n.toNat:Nat):Int) else none
theorem Gf:∀m:Fin 256,k3 m.val<=8:=by decide+kernel
theorem Gg {ro:Addr->Option Value}(n:Int)(c:0<=n)(d:n<256):aC Tryz.prog 187 #[.int .u64 n] ⟨ro,[]⟩ (fun v _=>v= .int .i64 ((k3 n.toNat:Nat):Int)):=by
 refine aC.go Tryz.func187 rfl Tryz.ntmps187 Tryz.results187 (by simp) fun main J hJ A e hd hs=>?_;have f:=hs 0;clear hs;have a1:¬(4294967296:Int)<=n:=by omega
 have a2:¬(65536:Int)<=n:=by omega
 have a3:¬(256:Int)<=n:=by omega
 have g:Tryz.prog.underlying 187=some (.int .u64):=by kernel_rfl
 have h:Tryz.prog.underlying 5=some (.int .u8):=by kernel_rfl
 have i:Tryz.prog.underlying 3=some (.int .i64):=by kernel_rfl
 have j:Tryz.prog.underlying 9=some .string:=by kernel_rfl
 have a4:IntKind.u8.wrap n=n:=IntWalk.u8_in n ⟨c,by omega⟩;repeat refine af hJ ?_
 refine aj hJ ?_;simp only[*,go_sem];repeat refine af hJ ?_
 refine aj hJ ?_;simp only[*,go_sem];repeat refine af hJ ?_
 refine bI hJ (by simp only[*,go_sem,ge_iff_le]) ?_;refine aI hJ ?_;repeat refine af hJ ?_
 refine aj hJ ?_;simp only[*,go_sem];repeat refine af hJ ?_
 refine bI hJ (by simp only[*,go_sem,ge_iff_le]) ?_;refine aI hJ ?_;repeat refine af hJ ?_
 refine aj hJ ?_;simp only[*,go_sem];repeat refine af hJ ?_
 refine bI hJ (by simp only[*,go_sem,ge_iff_le]) ?_;refine aI hJ ?_;repeat refine af hJ ?_
 refine aj hJ ?_;simp only[*,go_sem];generalize a:ByteArray.mk _=S;have key:∀m:Fin 256,S[m.val]?=some (UInt8.ofNat (k3 m.val)):=by rw[<-a];decide+kernel
 clear a;have b:n.toNat<256:=by omega
 have hb:=key ⟨n.toNat,b⟩;have hle:=Gf ⟨n.toNat,b⟩;simp only at hb hle;simp only[hb,Option.map_some];refine az ?_;simp only[*,go_sem];have e1:(UInt8.ofNat (k3 n.toNat)).toNat=k3 n.toNat:=by rw[UInt8.toNat_ofNat'];omega
 rw[e1,IntWalk.i64_in (k3 n.toNat:Int) ⟨by omega,by omega⟩,Int.zero_add,IntWalk.i64_in (k3 n.toNat:Int) ⟨by omega,by omega⟩]
theorem AI {ro:Addr->Option Value}(n:Int){r:Int}(h:sr n=some r):aC Tryz.prog 149 #[.int .u64 n] ⟨ro,[]⟩ (fun v _=>v= .int .i64 r):=by
 unfold sr at h;split at h
 case isFalse=>cases h
 rename_i a;obtain ⟨b,c⟩:=a;cases h;refine aC.go Tryz.func149 rfl Tryz.ntmps149 Tryz.results149 (by simp) fun main J hJ A d hd hs=>?_;have e:=hs 0;clear hs;repeat refine af hJ ?_
 refine aj hJ ?_;simp only[*,go_sem];repeat refine af hJ ?_
 refine bI hJ (by simp only[*,go_sem]) ?_;refine aI hJ ?_;repeat refine af hJ ?_
 refine aj hJ ?_;simp only[*,go_sem];refine bn hJ _ (Gg n b c) (aK ?_);simp only[*,go_sem];refine az ?_;simp only[*,go_sem]
end Go.Proofs.YtpgcmoanfifglaaGreatDoor
end

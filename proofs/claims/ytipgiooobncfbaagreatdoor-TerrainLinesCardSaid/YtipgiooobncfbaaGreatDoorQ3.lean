/- A part of the proof of a row and its tied card: part 3. -/
import Derived.Test.YtipgiooobncfbaaGreatDoorQ2
set_option linter.all false
section
namespace Go.Proofs.YtipgiooobncfbaaGreatDoor
open Go Go.Sep Go.Proofs
set_option maxRecDepth 100000
set_option maxHeartbeats 4000000
def eX (u0:Int)(a:Int)(b:Int):Option Bool:=
 cond (decide (a<=u0)) (some (decide (u0<=b))) (some false)
theorem fL {ro:Addr->Option Value}(u0:Int)(a:Int)(b:Int){r:Bool}(h:eX u0 a b=some r):ay Tryz.prog 122 #[.int .i64 u0,.int .i64 a,.int .i64 b] ⟨ro,[]⟩ (fun v _=>v= .bool r):=by
 unfold eX at h
 refine ay.go Tryz.func122 rfl Tryz.ntmps122 Tryz.results122 (by simp) fun main J hJ A d hd hs=>?_
 have e:=hs 0
 have k1:=hs 1
 have f:=hs 2
 clear hs
 refine aa hJ (ag hJ ?_)
 simp only[*,go_sem]
 refine aa hJ (ag hJ ?_)
 revert h;refine cS (fun c h=>?_) fun c h=>?_
 ·obtain rfl:=sI h
  try simp only[*,go_sem]
  refine av ?_
  simp only[*,go_sem]
 obtain rfl:=sI h
 try simp only[*,go_sem]
 refine av ?_
 simp only[*,go_sem]
def fq (u0:Int):Option ak:=
 some (⟨u0,1⟩:ak)
theorem iz {ro:Addr->Option Value}(u0:Int){r:ak}(h:fq u0=some r):ay Tryz.prog 119 #[.int .i64 u0] ⟨ro,[]⟩ (fun v _=>v=r.v):=by
 unfold fq at h
 obtain rfl:=sI h
 refine ay.go Tryz.func119 rfl Tryz.ntmps119 Tryz.results119 (by simp) fun main J hJ A a hd hs=>?_
 have b:=hs 0
 clear hs
 refine aa hJ (ag hJ ?_)
 simp only[*,go_sem]
 refine au fun c r1 n1=>?_;try simp only[aj] at n1
 try simp only[*,go_sem]
 refine aa hJ (ag hJ ?_)
 simp only[*,go_sem]
 refine av ?_
 simp only[*,go_sem]
def eg (u0:ak)(a:ak):Option Bool:=
 some (decide ((IntKind.i64.wrap (u0.num*a.den))<(IntKind.i64.wrap (a.num*u0.den))))
theorem g5 {ro:Addr->Option Value}(u0:ak)(a:ak){r:Bool}(h:eg u0 a=some r):ay Tryz.prog 78 #[.agg #[.int .i64 u0.num,.int .i64 u0.den],.agg #[.int .i64 a.num,.int .i64 a.den]] ⟨ro,[]⟩ (fun v _=>v= .bool r):=by
 unfold eg at h
 obtain rfl:=sI h
 refine ay.go Tryz.func78 rfl Tryz.ntmps78 Tryz.results78 (by simp) fun main J hJ A b hd hs=>?_
 have c:=hs 0
 have k1:=hs 1
 clear hs
 refine aa hJ (ag hJ ?_)
 simp only[*,go_sem]
 refine au fun d r1 n1=>?_;try simp only[aj] at n1
 refine au fun b2 r2 n2=>?_;try simp only[aj] at n2
 try simp only[*,go_sem]
 refine aa hJ (ag hJ ?_)
 simp only[*,go_sem]
 refine av ?_
 simp only[*,go_sem]
def nU (u0:dw)(a:Int)(b:Int):Option Bool:=
 cond (decide (a<=u0.low)) (cond (decide (u0.low<=u0.high)) (some (decide (u0.high<=b))) (some false)) (some false)
theorem ye {ro:Addr->Option Value}(u0:dw)(a:Int)(b:Int){r:Bool}(h:nU u0 a b=some r):ay Tryz.prog 106 #[.agg #[.int .i64 u0.low,.int .i64 u0.high],.int .i64 a,.int .i64 b] ⟨ro,[]⟩ (fun v _=>v= .bool r):=by
 unfold nU at h
 refine ay.go Tryz.func106 rfl Tryz.ntmps106 Tryz.results106 (by simp) fun main J hJ A e hd hs=>?_
 have f:=hs 0
 have k1:=hs 1
 have g:=hs 2
 clear hs
 refine aa hJ (ag hJ ?_)
 simp only[*,go_sem]
 refine au fun i r1 n1=>?_;try simp only[aj] at n1
 try simp only[*,go_sem]
 refine aa hJ (ag hJ ?_)
 revert h;refine cS (fun c h=>?_) fun c h=>?_
 ·revert h;refine cS (fun d h=>?_) fun d h=>?_
  ·obtain rfl:=sI h
   try simp only[*,go_sem]
   refine av ?_
   simp only[*,go_sem]
  obtain rfl:=sI h
  try simp only[*,go_sem]
  refine av ?_
  simp only[*,go_sem]
 obtain rfl:=sI h
 try simp only[*,go_sem]
 refine av ?_
 simp only[*,go_sem]
def fM (u0:bq)(a:bq):Option Bool:=
 ah (eg u0.high a.high) fun b=>some b
theorem pY {ro:Addr->Option Value}(u0:bq)(a:bq){r:Bool}(h:fM u0 a=some r):ay Tryz.prog 67 #[.agg #[.int .i64 u0.spot.aG,.int .i64 u0.spot.high.num,.int .i64 u0.spot.high.den,.int .i64 u0.at_,.int .i64 u0.high.num,.int .i64 u0.high.den],.agg #[.int .i64 a.spot.aG,.int .i64 a.spot.high.num,.int .i64 a.spot.high.den,.int .i64 a.at_,.int .i64 a.high.num,.int .i64 a.high.den]] ⟨ro,[]⟩ (fun v _=>v= .bool r):=by
 unfold fM at h
 refine ay.go Tryz.func67 rfl Tryz.ntmps67 Tryz.results67 (by simp) fun main J hJ A c hd hs=>?_
 have d:=hs 0
 have k1:=hs 1
 clear hs
 refine aa hJ (ag hJ ?_)
 simp only[*,go_sem]
 refine au fun e r1 n1=>?_;try simp only[aj] at n1
 refine au fun b2 r2 n2=>?_;try simp only[aj] at n2
 try simp only[*,go_sem]
 refine aa hJ (ag hJ ?_)
 revert h;refine bS fun f b h=>?_
 obtain rfl:=sI h
 simp only[*,go_sem]
 refine aJ hJ _ (g5 u0.high a.high b) (aC ?_)
 try simp only[*,go_sem]
 refine av ?_
 simp only[*,go_sem]
def gb (u0:Int)(b:an):Option Int:=
 ah (eX u0 1 20) fun a=>cond (!a) (some 1) (some 0)
theorem s4 {ro:Addr->Option Value}(u0:Int)(b:an){s1 c d f:Value}(a:bx ro b s1 c d f){r:Int}(h:gb u0 b=some r):ay Tryz.prog 84 #[.int .i64 u0,bv b s1 c d f] ⟨ro,[]⟩ (fun v _=>v= .int .i64 r):=by
 obtain ⟨d3,c4,rfl,k,l,-⟩:=id a.e
 obtain ⟨d10,m,rfl,n,o,-⟩:=id a.p
 obtain ⟨d17,q,rfl,s,u,-⟩:=id a.y
 obtain ⟨d24,w,rfl,x,z,-⟩:=id a.t
 unfold gb at h
 refine ay.go Tryz.func84 rfl Tryz.ntmps84 Tryz.results84 (by simp) fun main J hJ A B hd hs=>?_
 have C:=hs 0
 have k1:=hs 1
 clear hs
 refine aa hJ (ag hJ ?_)
 simp only[*,go_sem]
 refine au fun D E g=>?_;try simp only[aj] at g
 try simp only[*,go_sem]
 refine aa hJ (aa hJ (ag hJ ?_))
 revert h;refine bS fun F i h=>?_
 simp only[*,go_sem]
 refine aJ hJ _ (fL u0 1 20 i) (aC ?_)
 try simp only[*,go_sem]
 revert h;refine jC hJ (by simp only[*,go_sem]) (fun j h=>?_) fun j h=>?_
 ·obtain rfl:=sI h
  refine aa hJ (ag hJ ?_)
  simp only[*,go_sem]
  refine av ?_
  simp only[*,go_sem]
 obtain rfl:=sI h
 refine aE hJ (aa hJ ?_)
 refine ag hJ ?_
 simp only[*,go_sem]
 refine av ?_
 simp only[*,go_sem]
def ei (u0:aP)(c:an):Option Int:=
 ah (eX u0.back 1 20) fun a=>cond (!a) (some 1) (ah (eX u0.high 0 60) fun b=>cond (!b) (some 1) (some 0))
theorem pZ {ro:Addr->Option Value}(u0:aP)(b:an){s1 c d f:Value}(a:bx ro b s1 c d f){r:Int}(h:ei u0 b=some r):ay Tryz.prog 55 #[.agg #[.int .i64 u0.back,.int .i64 u0.high],bv b s1 c d f] ⟨ro,[]⟩ (fun v _=>v= .int .i64 r):=by
 obtain ⟨d3,c4,rfl,n,o,-⟩:=id a.e
 obtain ⟨d10,q,rfl,s,u,-⟩:=id a.p
 obtain ⟨d17,w,rfl,x,z,-⟩:=id a.y
 obtain ⟨d24,B,rfl,C,D,-⟩:=id a.t
 unfold ei at h
 refine ay.go Tryz.func55 rfl Tryz.ntmps55 Tryz.results55 (by simp) fun main J hJ A E hd hs=>?_
 have F:=hs 0
 have k1:=hs 1
 clear hs
 refine aa hJ (ag hJ ?_)
 simp only[*,go_sem]
 refine au fun G H g=>?_;try simp only[aj] at g
 refine au fun I K i=>?_;try simp only[aj] at i
 try simp only[*,go_sem]
 refine aa hJ (aa hJ (ag hJ ?_))
 revert h;refine bS fun L j h=>?_
 simp only[*,go_sem]
 refine aJ hJ _ (fL u0.back 1 20 j) (aC ?_)
 revert h;refine cS (fun k h=>?_) fun k h=>?_
 ·obtain rfl:=sI h
  try simp only[*,go_sem]
  refine bD hJ (by simp only[*,go_sem]) ?_
  refine aa hJ (ag hJ ?_)
  simp only[*,go_sem]
  refine av ?_
  simp only[*,go_sem]
 revert h;refine bS fun M l h=>?_
 try simp only[*,go_sem]
 refine aJ hJ _ (fL u0.high 0 60 l) (aC ?_)
 try simp only[*,go_sem]
 revert h;refine jC hJ (by simp only[*,go_sem]) (fun m h=>?_) fun m h=>?_
 ·obtain rfl:=sI h
  refine aa hJ (ag hJ ?_)
  simp only[*,go_sem]
  refine av ?_
  simp only[*,go_sem]
 obtain rfl:=sI h
 refine aE hJ (aa hJ ?_)
 refine ag hJ ?_
 simp only[*,go_sem]
 refine av ?_
 simp only[*,go_sem]
def lV (u0:an)(a:Int):Option Bool:=
 ah (eX a 0 (IntKind.i64.wrap ((u0.aR.length:Int) - 1))) fun b=>some b
theorem yf {ro:Addr->Option Value}(u0:an){s1 c d f:Value}(a:bx ro u0 s1 c d f)(b:Int){r:Bool}(h:lV u0 b=some r):ay Tryz.prog 144 #[bv u0 s1 c d f,.int .i64 b] ⟨ro,[]⟩ (fun v _=>v= .bool r):=by
 obtain ⟨d3,c4,rfl,j,k,-⟩:=id a.e
 obtain ⟨d10,l,rfl,m,n,-⟩:=id a.p
 obtain ⟨d17,o,rfl,q,s,-⟩:=id a.y
 obtain ⟨d24,u,rfl,w,x,-⟩:=id a.t
 unfold lV at h
 refine ay.go Tryz.func144 rfl Tryz.ntmps144 Tryz.results144 (by simp) fun main J hJ A z hd hs=>?_
 have B:=hs 0
 have k1:=hs 1
 clear hs
 refine aa hJ (ag hJ ?_)
 simp only[*,go_sem]
 refine au fun C D g=>?_;try simp only[aj] at g
 try simp only[*,go_sem]
 refine aa hJ (ag hJ ?_)
 revert h;refine bS fun E i h=>?_
 obtain rfl:=sI h
 simp only[*,go_sem]
 refine aJ hJ _ (fL b 0 (IntKind.i64.wrap ((u0.aR.length:Int) - 1)) i) (aC ?_)
 try simp only[*,go_sem]
 refine av ?_
 simp only[*,go_sem]
def fy (u0:an)(a:Int):Option Bool:=
 ah (bL u0.aB 0) fun b=>ah (bL u0.aB (IntKind.i64.wrap ((u0.aB.length:Int) - 1))) fun c=>ah (eX a b.aG c.aG) fun d=>some d
theorem p5 {ro:Addr->Option Value}(u0:an){s1 f g i:Value}(a:bx ro u0 s1 f g i)(b:Int){r:Bool}(h:fy u0 b=some r):ay Tryz.prog 120 #[bv u0 s1 f g i,.int .i64 b] ⟨ro,[]⟩ (fun v _=>v= .bool r):=by
 obtain ⟨d3,c4,rfl,E,G,-⟩:=id a.e
 unfold fy at h
 refine ay.go Tryz.func120 rfl Tryz.ntmps120 Tryz.results120 (by simp) fun main J hJ A H hd hs=>?_
 have I:=hs 0
 have k1:=hs 1
 clear hs
 refine aa hJ (ag hJ ?_)
 simp only[*,go_sem]
 refine au fun K L n=>?_;try simp only[aj] at n
 try simp only[*,go_sem]
 refine aa hJ ?_
 refine dc hJ mixed 20 1 (by simp only[*,go_sem]) (by kernel_rfl) ?_
 revert h;refine bS fun j o h=>?_
 obtain ⟨M,N,k⟩:=cJ o
 obtain ⟨O,p,q,s,c⟩:=a.e.el _ _ k
 obtain rfl:p=j.cells:=s
 cases q
 have t:=c 0 _ rfl;simp only[go_sem] at t
 have u:=c 1 _ rfl;simp only[go_sem] at u
 clear c k
 revert h;refine bS fun l w h=>?_
 obtain ⟨P,Q,m⟩:=cJ w
 obtain ⟨R,x,y,z,d⟩:=a.e.el _ _ m
 obtain rfl:x=l.cells:=z
 cases y
 have B:=d 0 _ rfl;simp only[go_sem] at B
 have C:=d 1 _ rfl;simp only[go_sem] at C
 clear d m
 revert h;refine bS fun S D h=>?_
 obtain rfl:=sI h
 try simp only[*,go_sem]
 refine ⟨_,bu hJ fun F T=>fL b j.aG l.aG D,b6 ?_⟩
 try simp only[*,go_sem]
 refine av ?_
 simp only[*,go_sem]
def eI (u0:Int)(a:an):Option Int:=
 ah (lV a u0) fun b=>cond (!b) (some 6) (some 0)
theorem p6 {ro:Addr->Option Value}(u0:Int)(b:an){s1 c d f:Value}(a:bx ro b s1 c d f){r:Int}(h:eI u0 b=some r):ay Tryz.prog 105 #[.int .i64 u0,bv b s1 c d f] ⟨ro,[]⟩ (fun v _=>v= .int .i64 r):=by
 obtain ⟨d3,c4,rfl,k,l,-⟩:=id a.e
 obtain ⟨d10,m,rfl,n,o,-⟩:=id a.p
 obtain ⟨d17,q,rfl,s,u,-⟩:=id a.y
 obtain ⟨d24,w,rfl,x,z,-⟩:=id a.t
 unfold eI at h
 refine ay.go Tryz.func105 rfl Tryz.ntmps105 Tryz.results105 (by simp) fun main J hJ A B hd hs=>?_
 have C:=hs 0
 have k1:=hs 1
 clear hs
 refine aa hJ (ag hJ ?_)
 simp only[*,go_sem]
 refine au fun D E g=>?_;try simp only[aj] at g
 try simp only[*,go_sem]
 refine aa hJ (aa hJ (ag hJ ?_))
 revert h;refine bS fun F i h=>?_
 simp only[*,go_sem]
 refine aJ hJ _ (yf b (a.mono aI) u0 i) (aC ?_)
 try simp only[*,go_sem]
 revert h;refine jC hJ (by simp only[*,go_sem]) (fun j h=>?_) fun j h=>?_
 ·obtain rfl:=sI h
  refine aa hJ (ag hJ ?_)
  simp only[*,go_sem]
  refine av ?_
  simp only[*,go_sem]
 obtain rfl:=sI h
 refine aE hJ (aa hJ ?_)
 refine ag hJ ?_
 simp only[*,go_sem]
 refine av ?_
 simp only[*,go_sem]
def jP (u0:Int)(a:an):Option Int:=
 ah (fy a u0) fun b=>cond (!b) (some 6) (some 0)
theorem CK {ro:Addr->Option Value}(u0:Int)(b:an){s1 c d f:Value}(a:bx ro b s1 c d f){r:Int}(h:jP u0 b=some r):ay Tryz.prog 51 #[.int .i64 u0,bv b s1 c d f] ⟨ro,[]⟩ (fun v _=>v= .int .i64 r):=by
 obtain ⟨d3,c4,rfl,k,l,-⟩:=id a.e
 obtain ⟨d10,m,rfl,n,o,-⟩:=id a.p
 obtain ⟨d17,q,rfl,s,u,-⟩:=id a.y
 obtain ⟨d24,w,rfl,x,z,-⟩:=id a.t
 unfold jP at h
 refine ay.go Tryz.func51 rfl Tryz.ntmps51 Tryz.results51 (by simp) fun main J hJ A B hd hs=>?_
 have C:=hs 0
 have k1:=hs 1
 clear hs
 refine aa hJ (ag hJ ?_)
 simp only[*,go_sem]
 refine au fun D E g=>?_;try simp only[aj] at g
 try simp only[*,go_sem]
 refine aa hJ (aa hJ (ag hJ ?_))
 revert h;refine bS fun F i h=>?_
 simp only[*,go_sem]
 refine aJ hJ _ (p5 b (a.mono aI) u0 i) (aC ?_)
 try simp only[*,go_sem]
 revert h;refine jC hJ (by simp only[*,go_sem]) (fun j h=>?_) fun j h=>?_
 ·obtain rfl:=sI h
  refine aa hJ (ag hJ ?_)
  simp only[*,go_sem]
  refine av ?_
  simp only[*,go_sem]
 obtain rfl:=sI h
 refine aE hJ (aa hJ ?_)
 refine ag hJ ?_
 simp only[*,go_sem]
 refine av ?_
 simp only[*,go_sem]
def nW (st:(Int×Int)):Option (Fl (Int×Int) ak):=
 cond ((st.2 != 0)) (ah (kJ st.1 st.2) fun a=>some (.nx (st.2,a))) (some (.bk (st.1,st.2)))
def jd (u0:Int)(a:Int):Option ak:=
 ah (bE (nW) fu ((if u0<IntKind.i64.wrap (0 - u0) then IntKind.i64.wrap (0 - u0) else u0),a)) fun o=>aK o (fun b=>ah (fJ u0 b.1) fun c=>ah (fJ a b.1) fun d=>some (⟨c,d⟩:ak)) (fun _ _=>none) (fun r=>some r)
theorem nZ {ro:Addr->Option Value}(u0:Int)(c:Int){r:ak}(h:jd u0 c=some r):ay Tryz.prog 121 #[.int .i64 u0,.int .i64 c] ⟨ro,[]⟩ (fun v _=>v=r.v):=by
 unfold jd at h
 refine ay.go Tryz.func121 rfl Tryz.ntmps121 Tryz.results121 (by simp) fun main J hJ A l hd hs=>?_
 have n:=hs 0
 have k1:=hs 1
 clear hs
 refine aa hJ (ag hJ ?_)
 simp only[*,go_sem]
 refine au fun o r1 n1=>?_;try simp only[aj] at n1
 try simp only[*,go_sem]
 refine aa hJ (ag hJ ?_)
 simp only[*,go_sem]
 refine aa hJ (aU hJ ?_)
 revert h;refine bS fun o4 a p=>?_
 refine bU hJ [5,6,12,13,14,15,16,17] (fun m f F'=>∃(v2:Int) (b:Int),bE (nW) m (v2,b)=some o4/\F'=⟨ro,(o,rt 0 0)::[]⟩/\slot f 5= .int .i64 v2/\slot f 6= .int .i64 b) fu ?_ ?_
 ·refine ⟨(if u0<IntKind.i64.wrap (0 - u0) then IntKind.i64.wrap (0 - u0) else u0),c,a,rfl,?_⟩
  simp only[*,go_sem]
 rintro d x F' g ⟨v2,b,a,rfl,y,z⟩
 obtain ⟨q,s,t⟩:=g.pick [0,1,4] (by decide)
 simp only[*,go_sem] at q s t
 clear g l hd n k1
 obtain _|d:=d
 ·exact absurd a (by simp only[bE,reduceCtorEq,not_false_eq_true])
 revert a;refine bS fun B h e=>?_
 unfold nW at h
 try dsimp only at h
 refine aa hJ (aa hJ (ag hJ ?_))
 simp only[*,go_sem]
 revert h;refine jC hJ (by simp only[*,go_sem]) (fun u h=>?_) fun u h=>?_
 ·refine aE hJ (aU hJ ?_)
  refine dc hJ mixed 6 1 (by simp only[*,go_sem]) (by kernel_rfl) ?_
  revert h;refine bS fun w i h=>?_
  obtain rfl:=sI h
  obtain ⟨C,D⟩:=sx i
  clear i
  try simp only[*,go_sem]
  refine ⟨d,Nat.lt_succ_self _,_,Le.sub (List.Sublist.refl _),b,w,e,rfl,?_⟩
  simp only[*,go_sem]
 obtain rfl:=sI h
 refine bR ?_
 simp only[go_sem]
 obtain rfl:=sI e;clear e
 have h:=p
 dsimp only[aK] at h
 refine aa hJ ?_
 refine dc hJ mixed 7 0 (by simp only[*,go_sem]) (by kernel_rfl) ?_
 revert h;refine bS fun E j h=>?_
 obtain ⟨F,G⟩:=lQ j
 clear j
 revert h;refine bS fun H k h=>?_
 obtain rfl:=sI h
 obtain ⟨I,K⟩:=lQ k
 clear k
 try simp only[*,go_sem]
 refine av ?_
 simp only[*,go_sem]
def iA (u0:ak)(a:ak):Option ak:=
 ah (jd (IntKind.i64.wrap ((IntKind.i64.wrap (u0.num*a.den))+(IntKind.i64.wrap (a.num*u0.den)))) (IntKind.i64.wrap (u0.den*a.den))) fun b=>some b
theorem n4 {ro:Addr->Option Value}(u0:ak)(a:ak){r:ak}(h:iA u0 a=some r):ay Tryz.prog 77 #[.agg #[.int .i64 u0.num,.int .i64 u0.den],.agg #[.int .i64 a.num,.int .i64 a.den]] ⟨ro,[]⟩ (fun v _=>v=r.v):=by
 unfold iA at h
 refine ay.go Tryz.func77 rfl Tryz.ntmps77 Tryz.results77 (by simp) fun main J hJ A c hd hs=>?_
 have d:=hs 0
 have k1:=hs 1
 clear hs
 refine aa hJ (ag hJ ?_)
 simp only[*,go_sem]
 refine au fun e r1 n1=>?_;try simp only[aj] at n1
 refine au fun b2 r2 n2=>?_;try simp only[aj] at n2
 refine au fun b3 r3 n3=>?_;try simp only[aj] at n3
 try simp only[*,go_sem]
 refine aa hJ (ag hJ ?_)
 revert h;refine bS fun f b h=>?_
 obtain rfl:=sI h
 simp only[*,go_sem]
 refine aJ hJ _ (nZ (IntKind.i64.wrap ((IntKind.i64.wrap (u0.num*a.den))+(IntKind.i64.wrap (a.num*u0.den)))) (IntKind.i64.wrap (u0.den*a.den)) b) (aC ?_)
 try simp only[*,go_sem]
 refine av ?_
 simp only[*,go_sem]
def iB (u0:ak)(a:ak):Option ak:=
 ah (iA u0 (⟨IntKind.i64.wrap (0 - a.num),a.den⟩:ak)) fun b=>some b
theorem n5 {ro:Addr->Option Value}(u0:ak)(a:ak){r:ak}(h:iB u0 a=some r):ay Tryz.prog 76 #[.agg #[.int .i64 u0.num,.int .i64 u0.den],.agg #[.int .i64 a.num,.int .i64 a.den]] ⟨ro,[]⟩ (fun v _=>v=r.v):=by
 unfold iB at h
 refine ay.go Tryz.func76 rfl Tryz.ntmps76 Tryz.results76 (by simp) fun main J hJ A c hd hs=>?_
 have d:=hs 0
 have k1:=hs 1
 clear hs
 refine aa hJ (ag hJ ?_)
 simp only[*,go_sem]
 refine au fun e r1 n1=>?_;try simp only[aj] at n1
 refine au fun b2 r2 n2=>?_;try simp only[aj] at n2
 refine au fun b3 r3 n3=>?_;try simp only[aj] at n3
 try simp only[*,go_sem]
 refine aa hJ (ag hJ ?_)
 revert h;refine bS fun f b h=>?_
 obtain rfl:=sI h
 simp only[*,go_sem]
 refine aJ hJ _ (n4 u0 (⟨IntKind.i64.wrap (0 - a.num),a.den⟩:ak) b) (aC ?_)
 try simp only[*,go_sem]
 refine av ?_
 simp only[*,go_sem]
def je (u0:an)(a:aP)(e:Int)(b:fZ):Option bq:=
 ah (fq a.high) fun f=>ah (iB b.high f) fun c=>ah (jd (IntKind.i64.wrap (u0.bF+a.back)) (IntKind.i64.wrap (b.aG+a.back))) fun d=>ah (fq a.high) fun g=>ah (jd (IntKind.i64.wrap (c.num*d.num)) (IntKind.i64.wrap (c.den*d.den))) fun h=>ah (iA g h) fun i=>some (⟨b,e,i⟩:bq)
theorem yg {ro:Addr->Option Value}(u0:an){s1 c d e:Value}(K:bx ro u0 s1 c d e)(b:aP)(j:Int)(a:fZ){r:bq}(h:je u0 b j a=some r):ay Tryz.prog 123 #[bv u0 s1 c d e,.agg #[.int .i64 b.back,.int .i64 b.high],.int .i64 j,.agg #[.int .i64 a.aG,.int .i64 a.high.num,.int .i64 a.high.den]] ⟨ro,[]⟩ (fun v _=>v=r.v):=by
 unfold je at h
 refine ay.go Tryz.func123 rfl Tryz.ntmps123 Tryz.results123 (by simp) fun main J hJ A L hd hs=>?_
 have M:=hs 0
 have k1:=hs 1
 have N:=hs 2
 have O:=hs 3
 clear hs
 refine aa hJ (ag hJ ?_)
 simp only[*,go_sem]
 refine au fun k P n=>?_;try simp only[aj] at n
 refine au fun l Q o=>?_;try simp only[aj] at o
 refine au fun m R p=>?_;try simp only[aj] at p
 refine au fun q S s=>?_;try simp only[aj] at s
 try simp only[*,go_sem]
 refine aa hJ ?_
 refine dA hJ mixed 6 ⟨ro,[(q,.cells #[.int .i64 0,.int .i64 0,.int .i64 0,.int .i64 0,.int .i64 0,.int .i64 0] 94),(m,.cells #[.int .i64 a.aG,.int .i64 a.high.num,.int .i64 a.high.den] 92),(l,.cells #[.int .i64 b.back,.int .i64 b.high] 90),(k,bl u0 s1 c d e)]⟩ (by simp only[*,go_sem]) (by kernel_rfl) ?_
 revert h;refine bS fun t u h=>?_
 simp only[*,go_sem]
 refine ⟨_,bu hJ fun F f=>iz b.high u,b6 ?_⟩
 revert h;refine bS fun g w h=>?_
 try simp only[*,go_sem]
 refine ⟨_,bu hJ fun F f=>n5 a.high t w,?_⟩
 try simp only[*,go_sem]
 refine au fun x T y=>?_;try simp only[aj] at y
 try simp only[*,go_sem]
 refine aa hJ (ag hJ ?_)
 revert h;refine bS fun i z h=>?_
 simp only[*,go_sem]
 refine aJ hJ _ (nZ (IntKind.i64.wrap (u0.bF+b.back)) (IntKind.i64.wrap (a.aG+b.back)) z) (aC ?_)
 try simp only[*,go_sem]
 refine au fun B U C=>?_;try simp only[aj] at C
 try simp only[*,go_sem]
 refine aa hJ ?_
 refine dA hJ mixed 18 ⟨ro,[(B,rt i.num i.den),(x,rt g.num g.den),(m,.cells #[.int .i64 a.aG,.int .i64 a.high.num,.int .i64 a.high.den] 92),(l,.cells #[.int .i64 b.back,.int .i64 b.high] 90),(k,bl u0 s1 c d e)]⟩ (by simp only[*,go_sem]) (by kernel_rfl) ?_
 revert h;refine bS fun D E h=>?_
 simp only[*,go_sem]
 refine ⟨_,bu hJ fun F f=>iz b.high E,b6 ?_⟩
 revert h;refine bS fun G H h=>?_
 try simp only[*,go_sem]
 refine ⟨_,bu hJ fun F f=>nZ (IntKind.i64.wrap (g.num*i.num)) (IntKind.i64.wrap (g.den*i.den)) H,b6 ?_⟩
 revert h;refine bS fun V I h=>?_
 obtain rfl:=sI h
 try simp only[*,go_sem]
 refine ⟨_,bu hJ fun F f=>n4 D G I,b6 ?_⟩
 try simp only[*,go_sem]
 refine av ?_
 simp only[*,go_sem]
def jf (u0:an)(a:Int)(b:Int):Option aP:=
 ah (bL u0.aR a) fun c=>some (⟨c.back,b⟩:aP)
theorem kR {ro:Addr->Option Value}(u0:an){s1 c d f:Value}(a:bx ro u0 s1 c d f)(g:Int)(i:Int){r:aP}(h:jf u0 g i=some r):ay Tryz.prog 101 #[bv u0 s1 c d f,.int .i64 g,.int .i64 i] ⟨ro,[]⟩ (fun v _=>v=r.v):=by
 obtain ⟨d3,c4,rfl,z,B,-⟩:=id a.e
 obtain ⟨d10,C,rfl,D,E,-⟩:=id a.p
 obtain ⟨d17,F,rfl,G,H,-⟩:=id a.y
 obtain ⟨d24,I,rfl,K,L,-⟩:=id a.t
 unfold jf at h
 refine ay.go Tryz.func101 rfl Tryz.ntmps101 Tryz.results101 (by simp) fun main J hJ A M hd hs=>?_
 have N:=hs 0
 have k1:=hs 1
 have O:=hs 2
 clear hs
 refine aa hJ (ag hJ ?_)
 simp only[*,go_sem]
 refine au fun P Q k=>?_;try simp only[aj] at k
 refine au fun R S l=>?_;try simp only[aj] at l
 try simp only[*,go_sem]
 refine aa hJ (ag hJ ?_)
 revert h;refine bS fun m n h=>?_
 obtain rfl:=sI h
 obtain ⟨T,U,j⟩:=cJ n
 obtain ⟨V,o,q,s,b⟩:=a.y.el _ _ j
 obtain rfl:o=m.cells:=s
 cases q
 have u:=b 0 _ rfl;simp only[go_sem] at u
 have w:=b 1 _ rfl;simp only[go_sem] at w
 have x:=b 2 _ rfl;simp only[go_sem] at x
 clear b j
 try simp only[*,go_sem]
 refine av ?_
 simp only[*,go_sem]
def kS (u0:(bq->bq->Option Bool))(i11:Nat)(a:bq)(st:bq):Option (Fl bq bq):=
 ah (u0 st a) fun b=>cond (b) (some (.nx a)) (some (.nx st))
def jg (u0:(bq->bq->Option Bool))(a:bq)(b:(List bq)):Option bq:=
 ah (bB (kS u0) 0 b a) fun o=>aK o (fun c=>some c) (fun _ _=>none) (fun r=>some r)
theorem p7 {ro:Addr->Option Value}(u0:(bq->bq->Option Bool)){dj:FuncId}{dJ dK:Array Value}(s:aD Tryz.prog dj=true/\∀(aH:Addr->Option Value),Ext ro aH->∀(i:bq) (j:bq) (z:Bool),u0 i j=some z->ay Tryz.prog dj (dJ++#[i.v,j.v]++dK) ⟨aH,[]⟩ (fun v _=>v= .bool z))(c:bq)(b:(List bq)){s1:Value}(k:az jc ro s1 b){r:bq}(h:jg u0 c b=some r):ay Tryz.prog 66 #[.func (.func dj) dJ dK,.agg #[.int .i64 c.spot.aG,.int .i64 c.spot.high.num,.int .i64 c.spot.high.den,.int .i64 c.at_,.int .i64 c.high.num,.int .i64 c.high.den],s1] ⟨ro,[]⟩ (fun v _=>v=r.v):=by
 obtain ⟨d3,c4,rfl,Z,l,-⟩:=id k
 unfold jg at h
 refine ay.go Tryz.func66 rfl Tryz.ntmps66 Tryz.results66 (by simp) fun main J hJ A t hd hs=>?_
 have u:=hs 0
 have k1:=hs 1
 have w:=hs 2
 clear hs
 refine aa hJ (ag hJ ?_)
 simp only[*,go_sem]
 refine au fun y ab B=>?_;try simp only[aj] at B
 refine au fun C ad D=>?_;try simp only[aj] at D
 try simp only[*,go_sem]
 refine aa hJ (aa hJ (ag hJ ?_))
 simp only[*,go_sem]
 refine aU hJ ?_
 revert h;refine bS fun E d F=>?_
 refine bU hJ [8,11,12,13,14,15,16,17,18,19,20] (fun m G F'=>∃(i11:Nat) (v10:bq),m=b.length - i11/\i11<=b.length/\bB (kS u0) i11 (b.drop i11) v10=some E/\F'=⟨ro,(C,.cells #[.int .i64 0,.int .i64 0,.int .i64 0,.int .i64 0,.int .i64 0,.int .i64 0] 94)::(y,.cells #[.int .i64 v10.spot.aG,.int .i64 v10.spot.high.num,.int .i64 v10.spot.high.den,.int .i64 v10.at_,.int .i64 v10.high.num,.int .i64 v10.high.den] 94)::[]⟩/\slot G 11= .int .i64 (i11:Int)) b.length ?_ ?_
 ·refine ⟨0,c,(Nat.sub_zero _).symm,Nat.zero_le _,d,rfl,?_⟩
  simp only[*,go_sem]
 rintro ae al F' o ⟨i11,v10,rfl,ao,d,rfl,ar⟩
 obtain ⟨H,I,K⟩:=o.pick [0,4,6,9,10] (by decide)
 simp only[*,go_sem] at H I K
 clear o t hd u k1 w
 refine aa hJ (ag hJ ?_)
 simp only[*,go_sem]
 refine aa hJ ?_
 rcases Nat.lt_or_ge i11 b.length with L|p
 ·refine bD hJ (by simp only[*,go_sem]) ?_
  refine aE hJ ?_
  obtain ⟨f,g⟩:∃x,b[i11]?=some x:=⟨_,List.getElem?_eq_getElem L⟩
  rw[cN g] at d
  revert d;refine bS fun a0 h q=>?_
  unfold kS at h
  try dsimp only at h
  obtain ⟨a2,M,N,O,e⟩:=k.el _ _ g
  obtain rfl:M=f.cells:=O
  cases N
  have P:=e 0 _ rfl;simp only[go_sem] at P
  have Q:=e 1 _ rfl;simp only[go_sem] at Q
  have R:=e 2 _ rfl;simp only[go_sem] at R
  have S:=e 3 _ rfl;simp only[go_sem] at S
  have T:=e 4 _ rfl;simp only[go_sem] at T
  have U:=e 5 _ rfl;simp only[go_sem] at U
  clear e g
  refine aa hJ (aU hJ (aa hJ ?_))
  refine ag hJ ?_
  simp only[*,go_sem]
  refine au fun a3 a4 V=>?_;try simp only[aj] at V
  try simp only[*,go_sem]
  refine aa hJ (ag hJ ?_)
  revert h;refine bS fun a5 W h=>?_
  simp only[*,go_sem]
  refine aJ hJ _ (s.2 _ (fun a v h=>aI a v h) v10 f _ W) ?_
  try simp only[*,go_sem]
  revert h;refine jC hJ (by simp only[*,go_sem]) (fun X h=>?_) fun X h=>?_
  ·obtain rfl:=sI h
   refine ag hJ ?_
   simp only[*,go_sem]
   have Y:=b9 (n:=i11) (by have:=l;omega)
   refine ag hJ ?_
   simp only[*,go_sem]
   refine ⟨b.length - (i11+1),by omega,_,Le.sub (List.Sublist.cons _ (List.Sublist.refl _)),i11+1,f,rfl,by omega,q,rfl,?_⟩
   simp only[*,go_sem]
  obtain rfl:=sI h
  refine aE hJ ?_
  have Y:=b9 (n:=i11) (by have:=l;omega)
  refine ag hJ ?_
  simp only[*,go_sem]
  refine ⟨b.length - (i11+1),by omega,_,Le.sub (List.Sublist.cons _ (List.Sublist.refl _)),i11+1,v10,rfl,by omega,q,rfl,?_⟩
  simp only[*,go_sem]
 have a6:=Nat.not_lt.2 p
 refine bK hJ (by simp only[*,go_sem]) ?_
 rw[List.drop_eq_nil_of_le p] at d
 obtain rfl:=sI d;clear d
 have h:=F
 dsimp only[aK] at h
 obtain rfl:=sI h
 refine bR ?_
 simp only[go_sem]
 refine aa hJ (ag hJ ?_)
 simp only[*,go_sem]
 refine av ?_
 simp only[*,go_sem]
def n6 (u0:(ak->ak->Option Bool))(i11:Nat)(a:ak)(st:ak):Option (Fl ak ak):=
 ah (u0 st a) fun b=>cond (b) (some (.nx a)) (some (.nx st))
def gw (u0:(ak->ak->Option Bool))(a:ak)(b:(List ak)):Option ak:=
 ah (bB (n6 u0) 0 b a) fun o=>aK o (fun c=>some c) (fun _ _=>none) (fun r=>some r)
theorem lW {ro:Addr->Option Value}(u0:(ak->ak->Option Bool)){dj:FuncId}{dJ dK:Array Value}(s:aD Tryz.prog dj=true/\∀(aH:Addr->Option Value),Ext ro aH->∀(i:ak) (j:ak) (z:Bool),u0 i j=some z->ay Tryz.prog dj (dJ++#[i.v,j.v]++dK) ⟨aH,[]⟩ (fun v _=>v= .bool z))(d:ak)(b:(List ak)){s1:Value}(k:az jO ro s1 b){r:ak}(h:gw u0 d b=some r):ay Tryz.prog 115 #[.func (.func dj) dJ dK,.agg #[.int .i64 d.num,.int .i64 d.den],s1] ⟨ro,[]⟩ (fun v _=>v=r.v):=by
 obtain ⟨d3,c4,rfl,V,l,-⟩:=id k
 unfold gw at h
 refine ay.go Tryz.func115 rfl Tryz.ntmps115 Tryz.results115 (by simp) fun main J hJ A t hd hs=>?_
 have u:=hs 0
 have k1:=hs 1
 have w:=hs 2
 clear hs
 refine aa hJ (ag hJ ?_)
 simp only[*,go_sem]
 refine au fun y W B=>?_;try simp only[aj] at B
 refine au fun C X D=>?_;try simp only[aj] at D
 try simp only[*,go_sem]
 refine aa hJ (aa hJ (ag hJ ?_))
 simp only[*,go_sem]
 refine aU hJ ?_
 revert h;refine bS fun E c F=>?_
 refine bU hJ [8,11,12,13,14,15,16,17,18,19,20] (fun m G F'=>∃(i11:Nat) (v10:ak),m=b.length - i11/\i11<=b.length/\bB (n6 u0) i11 (b.drop i11) v10=some E/\F'=⟨ro,(C,rt 0 0)::(y,rt v10.num v10.den)::[]⟩/\slot G 11= .int .i64 (i11:Int)) b.length ?_ ?_
 ·refine ⟨0,d,(Nat.sub_zero _).symm,Nat.zero_le _,c,rfl,?_⟩
  simp only[*,go_sem]
 rintro Y Z F' o ⟨i11,v10,rfl,ab,c,rfl,ad⟩
 obtain ⟨H,I,K⟩:=o.pick [0,4,6,9,10] (by decide)
 simp only[*,go_sem] at H I K
 clear o t hd u k1 w
 refine aa hJ (ag hJ ?_)
 simp only[*,go_sem]
 refine aa hJ ?_
 rcases Nat.lt_or_ge i11 b.length with L|p
 ·refine bD hJ (by simp only[*,go_sem]) ?_
  refine aE hJ ?_
  obtain ⟨e,f⟩:∃x,b[i11]?=some x:=⟨_,List.getElem?_eq_getElem L⟩
  rw[cN f] at c
  revert c;refine bS fun ae h q=>?_
  unfold n6 at h
  try dsimp only at h
  obtain ⟨al,M,N,O,g⟩:=k.el _ _ f
  obtain rfl:M=e.cells:=O
  cases N
  have P:=g 0 _ rfl;simp only[go_sem] at P
  have Q:=g 1 _ rfl;simp only[go_sem] at Q
  clear g f
  refine aa hJ (aU hJ (aa hJ ?_))
  refine ag hJ ?_
  simp only[*,go_sem]
  refine au fun ao ar R=>?_;try simp only[aj] at R
  try simp only[*,go_sem]
  refine aa hJ (ag hJ ?_)
  revert h;refine bS fun a0 S h=>?_
  simp only[*,go_sem]
  refine aJ hJ _ (s.2 _ (fun a v h=>aI a v h) v10 e _ S) ?_
  try simp only[*,go_sem]
  revert h;refine jC hJ (by simp only[*,go_sem]) (fun T h=>?_) fun T h=>?_
  ·obtain rfl:=sI h
   refine ag hJ ?_
   simp only[*,go_sem]
   have U:=b9 (n:=i11) (by have:=l;omega)
   refine ag hJ ?_
   simp only[*,go_sem]
   refine ⟨b.length - (i11+1),by omega,_,Le.sub (List.Sublist.cons _ (List.Sublist.refl _)),i11+1,e,rfl,by omega,q,rfl,?_⟩
   simp only[*,go_sem]
  obtain rfl:=sI h
  refine aE hJ ?_
  have U:=b9 (n:=i11) (by have:=l;omega)
  refine ag hJ ?_
  simp only[*,go_sem]
  refine ⟨b.length - (i11+1),by omega,_,Le.sub (List.Sublist.cons _ (List.Sublist.refl _)),i11+1,v10,rfl,by omega,q,rfl,?_⟩
  simp only[*,go_sem]
 have a2:=Nat.not_lt.2 p
 refine bK hJ (by simp only[*,go_sem]) ?_
 rw[List.drop_eq_nil_of_le p] at c
 obtain rfl:=sI c;clear c
 have h:=F
 dsimp only[aK] at h
 obtain rfl:=sI h
 refine bR ?_
 simp only[go_sem]
 refine aa hJ (ag hJ ?_)
 simp only[*,go_sem]
 refine av ?_
 simp only[*,go_sem]
def p8 (u0:bq)(a:bq):Option Bool:=
 ah (fM a u0) fun b=>some b
theorem CL {ro:Addr->Option Value}(u0:bq)(a:bq){r:Bool}(h:p8 u0 a=some r):ay Tryz.prog 75 #[.agg #[.int .i64 u0.spot.aG,.int .i64 u0.spot.high.num,.int .i64 u0.spot.high.den,.int .i64 u0.at_,.int .i64 u0.high.num,.int .i64 u0.high.den],.agg #[.int .i64 a.spot.aG,.int .i64 a.spot.high.num,.int .i64 a.spot.high.den,.int .i64 a.at_,.int .i64 a.high.num,.int .i64 a.high.den]] ⟨ro,[]⟩ (fun v _=>v= .bool r):=by
 unfold p8 at h
 refine ay.go Tryz.func75 rfl Tryz.ntmps75 Tryz.results75 (by simp) fun main J hJ A c hd hs=>?_
 have d:=hs 0
 have k1:=hs 1
 clear hs
 refine aa hJ (ag hJ ?_)
 simp only[*,go_sem]
 refine au fun e r1 n1=>?_;try simp only[aj] at n1
 refine au fun b2 r2 n2=>?_;try simp only[aj] at n2
 try simp only[*,go_sem]
 refine aa hJ (ag hJ ?_)
 revert h;refine bS fun f b h=>?_
 obtain rfl:=sI h
 simp only[*,go_sem]
 refine aJ hJ _ (pY a u0 b) (aC ?_)
 try simp only[*,go_sem]
 refine av ?_
 simp only[*,go_sem]
def p9 (u0:ak)(a:ak):Option Bool:=
 ah (eg a u0) fun b=>some b
theorem CM {ro:Addr->Option Value}(u0:ak)(a:ak){r:Bool}(h:p9 u0 a=some r):ay Tryz.prog 114 #[.agg #[.int .i64 u0.num,.int .i64 u0.den],.agg #[.int .i64 a.num,.int .i64 a.den]] ⟨ro,[]⟩ (fun v _=>v= .bool r):=by
 unfold p9 at h
 refine ay.go Tryz.func114 rfl Tryz.ntmps114 Tryz.results114 (by simp) fun main J hJ A c hd hs=>?_
 have d:=hs 0
 have k1:=hs 1
 clear hs
 refine aa hJ (ag hJ ?_)
 simp only[*,go_sem]
 refine au fun e r1 n1=>?_;try simp only[aj] at n1
 refine au fun b2 r2 n2=>?_;try simp only[aj] at n2
 try simp only[*,go_sem]
 refine aa hJ (ag hJ ?_)
 revert h;refine bS fun f b h=>?_
 obtain rfl:=sI h
 simp only[*,go_sem]
 refine aJ hJ _ (g5 a u0 b) (aC ?_)
 try simp only[*,go_sem]
 refine av ?_
 simp only[*,go_sem]
def qa (u0:an)(i32:Nat)(a:bP)(st:Int):Option (Fl Int Int):=
 ah (lV u0 a.aX) fun b=>cond (!b) (some (.rt 6)) (some (.nx st))
def kT (u0:an):Option Int:=
 cond (decide (3<(u0.told.length:Int))) (some 2) (ah (bB (qa u0) 0 u0.told 0) fun o=>aK o (fun a=>some 0) (fun _ _=>none) (fun r=>some r))
theorem CN {ro:Addr->Option Value}(u0:an){s1 c d j:Value}(e:bx ro u0 s1 c d j){r:Int}(h:kT u0=some r):ay Tryz.prog 232 #[bv u0 s1 c d j] ⟨ro,[]⟩ (fun v _=>v= .int .i64 r):=by
 obtain ⟨d24,s,rfl,R,u,-⟩:=id e.t
 unfold kT at h
 refine ay.go Tryz.func232 rfl Tryz.ntmps232 Tryz.results232 (by simp) fun main J hJ A w hd hs=>?_
 have y:=hs 0
 clear hs
 refine aa hJ (ag hJ ?_)
 simp only[*,go_sem]
 refine au fun z S B=>?_;try simp only[aj] at B
 try simp only[*,go_sem]
 refine aa hJ (aa hJ (ag hJ ?_))
 simp only[*,go_sem]
 revert h;refine jC hJ (by simp only[*,go_sem]) (fun C h=>?_) fun C h=>?_
 ·obtain rfl:=sI h
  refine aa hJ (ag hJ ?_)
  simp only[*,go_sem]
  refine av ?_
  simp only[*,go_sem]
 refine aE hJ (aa hJ ?_)
 refine aa hJ (ag hJ ?_)
 simp only[*,go_sem]
 refine aU hJ ?_
 revert h;refine bS fun D a k=>?_
 refine bU hJ [2,4,14,15,16,17,18,19,20,21,22,23] (fun m l F'=>∃(i32:Nat) (b:Int),m=u0.told.length - i32/\i32<=u0.told.length/\bB (qa u0) i32 (u0.told.drop i32) b=some D/\F'=⟨ro,(z,bl u0 s1 c d (sl d24 u0.told s))::[]⟩/\slot l 14= .int .i64 (i32:Int)/\slot l 2= .int .i64 b) u0.told.length ?_ ?_
 ·refine ⟨0,0,(Nat.sub_zero _).symm,Nat.zero_le _,a,rfl,?_⟩
  simp only[*,go_sem]
 rintro T U F' o ⟨i32,b,rfl,V,a,rfl,W,X⟩
 obtain ⟨E,F,G⟩:=o.pick [1,12,13] (by decide)
 simp only[*,go_sem] at E F G
 clear o w hd y
 refine aa hJ (ag hJ ?_)
 simp only[*,go_sem]
 refine aa hJ ?_
 rcases Nat.lt_or_ge i32 u0.told.length with H|p
 ·refine bD hJ (by simp only[*,go_sem]) ?_
  refine aE hJ ?_
  obtain ⟨q,f⟩:∃x,u0.told[i32]?=some x:=⟨_,List.getElem?_eq_getElem H⟩
  rw[cN f] at a
  revert a;refine bS fun Y h g=>?_
  unfold qa at h
  try dsimp only at h
  obtain ⟨Z,I,K,L,i⟩:=e.t.el _ _ f
  obtain rfl:I=q.cells:=L
  cases K
  have M:=i 0 _ rfl;simp only[go_sem] at M
  have N:=i 1 _ rfl;simp only[go_sem] at N
  clear i f
  refine aa hJ (aU hJ (aa hJ ?_))
  refine ag hJ ?_
  simp only[*,go_sem]
  refine au fun ab ad O=>?_;try simp only[aj] at O
  try simp only[*,go_sem]
  refine aa hJ (ag hJ ?_)
  revert h;refine bS fun ae P h=>?_
  simp only[*,go_sem]
  refine aJ hJ _ (yf u0 (e.mono aI) q.aX P) (aC ?_)
  try simp only[*,go_sem]
  revert h;refine jC hJ (by simp only[*,go_sem]) (fun Q h=>?_) fun Q h=>?_
  ·obtain rfl:=sI h
   refine aa hJ (ag hJ ?_)
   simp only[*,go_sem]
   obtain rfl:=sI g;clear g
   have h:=k
   dsimp only[aK] at h
   obtain rfl:=sI h
   refine av ?_
   simp only[*,go_sem]
  obtain rfl:=sI h
  refine aE hJ ?_
  have al:=b9 (n:=i32) (by have:=u;omega)
  refine ag hJ ?_
  simp only[*,go_sem]
  refine ⟨u0.told.length - (i32+1),by omega,_,Le.sub (List.Sublist.cons _ (List.Sublist.refl _)),i32+1,b,rfl,by omega,g,rfl,?_⟩
  simp only[*,go_sem]
 have ao:=Nat.not_lt.2 p
 refine bK hJ (by simp only[*,go_sem]) ?_
 rw[List.drop_eq_nil_of_le p] at a
 obtain rfl:=sI a;clear a
 have h:=k
 dsimp only[aK] at h
 obtain rfl:=sI h
 refine bR ?_
 simp only[go_sem]
 refine aa hJ (ag hJ ?_)
 simp only[*,go_sem]
 refine av ?_
 simp only[*,go_sem]
def qb (i34:Nat)(a:cA)(st:Int):Option (Fl Int Int):=
 ah (eX a.back 1 20) fun b=>cond (!b) (some (.rt 1)) (ah (nU a.high 0 60) fun c=>cond (!c) (some (.rt 1)) (cond (decide (3<=(IntKind.i64.wrap (a.high.high - a.high.low)))) (some (.rt 1)) (some (.nx st))))
def kU (u0:an):Option Int:=
 ah (eX (u0.aR.length:Int) 1 3) fun a=>cond (!a) (some 2) (ah (bB (qb) 0 u0.aR 0) fun o=>aK o (fun b=>some 0) (fun _ _=>none) (fun r=>some r))
theorem CO {ro:Addr->Option Value}(u0:an){s1 f k g:Value}(l:bx ro u0 s1 f k g){r:Int}(h:kU u0=some r):ay Tryz.prog 231 #[bv u0 s1 f k g] ⟨ro,[]⟩ (fun v _=>v= .int .i64 r):=by
 obtain ⟨d17,s,rfl,W,t,-⟩:=id l.y
 unfold kU at h
 refine ay.go Tryz.func231 rfl Tryz.ntmps231 Tryz.results231 (by simp) fun main J hJ A u hd hs=>?_
 have w:=hs 0
 clear hs
 refine aa hJ (ag hJ ?_)
 simp only[*,go_sem]
 refine au fun z X B=>?_;try simp only[aj] at B
 try simp only[*,go_sem]
 refine aa hJ (aa hJ (ag hJ ?_))
 revert h;refine bS fun Y C h=>?_
 simp only[*,go_sem]
 refine aJ hJ _ (fL (u0.aR.length:Int) 1 3 C) (aC ?_)
 try simp only[*,go_sem]
 revert h;refine jC hJ (by simp only[*,go_sem]) (fun D h=>?_) fun D h=>?_
 ·obtain rfl:=sI h
  refine aa hJ (ag hJ ?_)
  simp only[*,go_sem]
  refine av ?_
  simp only[*,go_sem]
 refine aE hJ (aa hJ ?_)
 refine aa hJ (ag hJ ?_)
 simp only[*,go_sem]
 refine aU hJ ?_
 revert h;refine bS fun E a c=>?_
 refine bU hJ [2,4,15,16,17,18,19,20,21,22,23,24,25,26,27,28,29,30,31,32,33,34,35,36,37,38,39] (fun m o F'=>∃(i34:Nat) (d:Int),m=u0.aR.length - i34/\i34<=u0.aR.length/\bB (qb) i34 (u0.aR.drop i34) d=some E/\F'=⟨ro,(z,bl u0 s1 f (sl d17 u0.aR s) g)::[]⟩/\slot o 15= .int .i64 (i34:Int)/\slot o 2= .int .i64 d) u0.aR.length ?_ ?_
 ·refine ⟨0,0,(Nat.sub_zero _).symm,Nat.zero_le _,a,rfl,?_⟩
  simp only[*,go_sem]
 rintro Z ab F' p ⟨i34,d,rfl,ad,a,rfl,ae,al⟩
 obtain ⟨F,G,H⟩:=p.pick [13,14] (by decide)
 simp only[*,go_sem] at F G H
 clear p u hd w
 refine aa hJ (ag hJ ?_)
 simp only[*,go_sem]
 refine aa hJ ?_
 rcases Nat.lt_or_ge i34 u0.aR.length with I|q
 ·refine bD hJ (by simp only[*,go_sem]) ?_
  refine aE hJ ?_
  obtain ⟨i,j⟩:∃x,u0.aR[i34]?=some x:=⟨_,List.getElem?_eq_getElem I⟩
  rw[cN j] at a
  revert a;refine bS fun ao h b=>?_
  unfold qb at h
  try dsimp only at h
  obtain ⟨ar,K,L,M,e⟩:=l.y.el _ _ j
  obtain rfl:K=i.cells:=M
  cases L
  have N:=e 0 _ rfl;simp only[go_sem] at N
  have O:=e 1 _ rfl;simp only[go_sem] at O
  have P:=e 2 _ rfl;simp only[go_sem] at P
  clear e j
  refine aa hJ (aU hJ (aa hJ ?_))
  refine ag hJ ?_
  simp only[*,go_sem]
  refine au fun a0 a2 Q=>?_;try simp only[aj] at Q
  try simp only[*,go_sem]
  refine aa hJ (ag hJ ?_)
  revert h;refine bS fun a3 R h=>?_
  simp only[*,go_sem]
  refine aJ hJ _ (fL i.back 1 20 R) (aC ?_)
  revert h;refine cS (fun S h=>?_) fun S h=>?_
  ·obtain rfl:=sI h
   try simp only[*,go_sem]
   refine bD hJ (by simp only[*,go_sem]) ?_
   refine aa hJ (ag hJ ?_)
   simp only[*,go_sem]
   obtain rfl:=sI b;clear b
   have h:=c
   dsimp only[aK] at h
   obtain rfl:=sI h
   refine av ?_
   simp only[*,go_sem]
  revert h;refine bS fun a4 T h=>?_
  try simp only[*,go_sem]
  refine aJ hJ _ (ye i.high 0 60 T) (aC ?_)
  revert h;refine cS (fun U h=>?_) fun U h=>?_
  ·obtain rfl:=sI h
   try simp only[*,go_sem]
   refine bD hJ (by simp only[*,go_sem]) ?_
   refine aa hJ (ag hJ ?_)
   simp only[*,go_sem]
   obtain rfl:=sI b;clear b
   have h:=c
   dsimp only[aK] at h
   obtain rfl:=sI h
   refine av ?_
   simp only[*,go_sem]
  try simp only[*,go_sem]
  revert h;refine jC hJ (by simp only[*,go_sem]) (fun V h=>?_) fun V h=>?_
  ·obtain rfl:=sI h
   refine aa hJ (ag hJ ?_)
   simp only[*,go_sem]
   obtain rfl:=sI b;clear b
   have h:=c
   dsimp only[aK] at h
   obtain rfl:=sI h
   refine av ?_
   simp only[*,go_sem]
  obtain rfl:=sI h
  refine aE hJ ?_
  have a5:=b9 (n:=i34) (by have:=t;omega)
  refine ag hJ ?_
  simp only[*,go_sem]
  refine ⟨u0.aR.length - (i34+1),by omega,_,Le.sub (List.Sublist.cons _ (List.Sublist.refl _)),i34+1,d,rfl,by omega,b,rfl,?_⟩
  simp only[*,go_sem]
 have a6:=Nat.not_lt.2 q
 refine bK hJ (by simp only[*,go_sem]) ?_
 rw[List.drop_eq_nil_of_le q] at a
 obtain rfl:=sI a;clear a
 have h:=c
 dsimp only[aK] at h
 obtain rfl:=sI h
 refine bR ?_
 simp only[go_sem]
 refine aa hJ (ag hJ ?_)
 simp only[*,go_sem]
 refine av ?_
 simp only[*,go_sem]
def qc (u0:an)(i32:Nat)(a:b7)(st:Int):Option (Fl Int Int):=
 ah (fy u0 a.place) fun c=>cond (!c) (some (.rt 6)) (ah (gb a.cX u0) fun b=>cond ((b != 0)) (some (.rt b)) (some (.nx st)))
def kV (u0:an):Option Int:=
 cond (decide (3<(u0.props.length:Int))) (some 2) (ah (bB (qc u0) 0 u0.props 0) fun o=>aK o (fun a=>some 0) (fun _ _=>none) (fun r=>some r))
theorem CP {ro:Addr->Option Value}(u0:an){s1 l e f:Value}(c:bx ro u0 s1 l e f){r:Int}(h:kV u0=some r):ay Tryz.prog 230 #[bv u0 s1 l e f] ⟨ro,[]⟩ (fun v _=>v= .int .i64 r):=by
 obtain ⟨d10,t,rfl,T,u,-⟩:=id c.p
 unfold kV at h
 refine ay.go Tryz.func230 rfl Tryz.ntmps230 Tryz.results230 (by simp) fun main J hJ A w hd hs=>?_
 have y:=hs 0
 clear hs
 refine aa hJ (ag hJ ?_)
 simp only[*,go_sem]
 refine au fun z U B=>?_;try simp only[aj] at B
 try simp only[*,go_sem]
 refine aa hJ (aa hJ (ag hJ ?_))
 simp only[*,go_sem]
 revert h;refine jC hJ (by simp only[*,go_sem]) (fun C h=>?_) fun C h=>?_
 ·obtain rfl:=sI h
  refine aa hJ (ag hJ ?_)
  simp only[*,go_sem]
  refine av ?_
  simp only[*,go_sem]
 refine aE hJ (aa hJ ?_)
 refine aa hJ (ag hJ ?_)
 simp only[*,go_sem]
 refine aU hJ ?_
 revert h;refine bS fun D a g=>?_
 refine bU hJ [2,4,5,15,16,17,18,19,20,21,22,23,24,25,26,27,28,29,30,31] (fun m o F'=>∃(i32:Nat) (d:Int),m=u0.props.length - i32/\i32<=u0.props.length/\bB (qc u0) i32 (u0.props.drop i32) d=some D/\F'=⟨ro,(z,bl u0 s1 (sl d10 u0.props t) e f)::[]⟩/\slot o 15= .int .i64 (i32:Int)/\slot o 2= .int .i64 d) u0.props.length ?_ ?_
 ·refine ⟨0,0,(Nat.sub_zero _).symm,Nat.zero_le _,a,rfl,?_⟩
  simp only[*,go_sem]
 rintro V W F' q ⟨i32,d,rfl,X,a,rfl,Y,Z⟩
 obtain ⟨E,F,G⟩:=q.pick [1,13,14] (by decide)
 simp only[*,go_sem] at E F G
 clear q w hd y
 refine aa hJ (ag hJ ?_)
 simp only[*,go_sem]
 refine aa hJ ?_
 rcases Nat.lt_or_ge i32 u0.props.length with H|s
 ·refine bD hJ (by simp only[*,go_sem]) ?_
  refine aE hJ ?_
  obtain ⟨i,j⟩:∃x,u0.props[i32]?=some x:=⟨_,List.getElem?_eq_getElem H⟩
  rw[cN j] at a
  revert a;refine bS fun ab h b=>?_
  unfold qc at h
  try dsimp only at h
  obtain ⟨ad,I,K,L,k⟩:=c.p.el _ _ j
  obtain rfl:I=i.cells:=L
  cases K
  have M:=k 0 _ rfl;simp only[go_sem] at M
  have N:=k 1 _ rfl;simp only[go_sem] at N
  clear k j
  refine aa hJ (aU hJ (aa hJ ?_))
  refine ag hJ ?_
  simp only[*,go_sem]
  refine au fun ae al O=>?_;try simp only[aj] at O
  try simp only[*,go_sem]
  refine aa hJ (aa hJ (ag hJ ?_))
  revert h;refine bS fun ao P h=>?_
  simp only[*,go_sem]
  refine aJ hJ _ (p5 u0 (c.mono aI) i.place P) (aC ?_)
  try simp only[*,go_sem]
  revert h;refine jC hJ (by simp only[*,go_sem]) (fun Q h=>?_) fun Q h=>?_
  ·obtain rfl:=sI h
   refine aa hJ (ag hJ ?_)
   simp only[*,go_sem]
   obtain rfl:=sI b;clear b
   have h:=g
   dsimp only[aK] at h
   obtain rfl:=sI h
   refine av ?_
   simp only[*,go_sem]
  refine aE hJ (aa hJ ?_)
  refine ag hJ ?_
  revert h;refine bS fun ar R h=>?_
  simp only[*,go_sem]
  refine aJ hJ _ (s4 i.cX u0 (c.mono aI) R) (aC ?_)
  try simp only[*,go_sem]
  refine aa hJ (ag hJ ?_)
  simp only[*,go_sem]
  revert h;refine jC hJ (by simp only[*,go_sem]) (fun S h=>?_) fun S h=>?_
  ·obtain rfl:=sI h
   refine aa hJ (ag hJ ?_)
   simp only[*,go_sem]
   obtain rfl:=sI b;clear b
   have h:=g
   dsimp only[aK] at h
   obtain rfl:=sI h
   refine av ?_
   simp only[*,go_sem]
  obtain rfl:=sI h
  refine aE hJ ?_
  have a0:=b9 (n:=i32) (by have:=u;omega)
  refine ag hJ ?_
  simp only[*,go_sem]
  refine ⟨u0.props.length - (i32+1),by omega,_,Le.sub (List.Sublist.cons _ (List.Sublist.refl _)),i32+1,d,rfl,by omega,b,rfl,?_⟩
  simp only[*,go_sem]
 have a2:=Nat.not_lt.2 s
 refine bK hJ (by simp only[*,go_sem]) ?_
 rw[List.drop_eq_nil_of_le s] at a
 obtain rfl:=sI a;clear a
 have h:=g
 dsimp only[aK] at h
 obtain rfl:=sI h
 refine bR ?_
 simp only[go_sem]
 refine aa hJ (ag hJ ?_)
 simp only[*,go_sem]
 refine av ?_
 simp only[*,go_sem]
def qd (u0:an)(i34:Nat)(a:bZ)(st:Int):Option (Fl Int Int):=
 ah (eX a.aG 0 (IntKind.i64.wrap (u0.bF - 1))) fun b=>cond (!b) (some (.rt 1)) (ah (eX a.high 0 60) fun c=>cond (!c) (some (.rt 1)) (cond (decide (0<(i34:Int))) (ah (bL u0.aB (IntKind.i64.wrap ((i34:Int) - 1))) fun d=>cond (decide (a.aG<=d.aG)) (some (.rt 7)) (some (.nx st))) (some (.nx st))))
def jQ (u0:an):Option Int:=
 ah (eX (u0.aB.length:Int) 2 5) fun a=>cond (!a) (some 2) (ah (bB (qd u0) 0 u0.aB 0) fun o=>aK o (fun b=>some 0) (fun _ _=>none) (fun r=>some r))
theorem CQ {ro:Addr->Option Value}(u0:an){s1 f g i:Value}(j:bx ro u0 s1 f g i){r:Int}(h:jQ u0=some r):ay Tryz.prog 229 #[bv u0 s1 f g i] ⟨ro,[]⟩ (fun v _=>v= .int .i64 r):=by
 obtain ⟨d3,c4,rfl,ar,q,-⟩:=id j.e
 unfold jQ at h
 refine ay.go Tryz.func229 rfl Tryz.ntmps229 Tryz.results229 (by simp) fun main J hJ A y hd hs=>?_
 have z:=hs 0
 clear hs
 refine aa hJ (ag hJ ?_)
 simp only[*,go_sem]
 refine au fun B a0 C=>?_;try simp only[aj] at C
 try simp only[*,go_sem]
 refine aa hJ (aa hJ (ag hJ ?_))
 revert h;refine bS fun a2 D h=>?_
 simp only[*,go_sem]
 refine aJ hJ _ (fL (u0.aB.length:Int) 2 5 D) (aC ?_)
 try simp only[*,go_sem]
 revert h;refine jC hJ (by simp only[*,go_sem]) (fun E h=>?_) fun E h=>?_
 ·obtain rfl:=sI h
  refine aa hJ (ag hJ ?_)
  simp only[*,go_sem]
  refine av ?_
  simp only[*,go_sem]
 refine aE hJ (aa hJ ?_)
 refine aa hJ (ag hJ ?_)
 simp only[*,go_sem]
 refine aU hJ ?_
 revert h;refine bS fun F b d=>?_
 refine bU hJ [2,3,4,15,16,17,18,19,20,21,22,23,24,25,26,27,28,29,30,31,32,33,34,35,36,37,38,39,40,41,42,43,44,45,46,47,48,49] (fun m s F'=>∃(i34:Nat) (c:Int),m=u0.aB.length - i34/\i34<=u0.aB.length/\bB (qd u0) i34 (u0.aB.drop i34) c=some F/\F'=⟨ro,(B,bl u0 (sl d3 u0.aB c4) f g i)::[]⟩/\slot s 15= .int .i64 (i34:Int)/\slot s 2= .int .i64 c) u0.aB.length ?_ ?_
 ·refine ⟨0,0,(Nat.sub_zero _).symm,Nat.zero_le _,b,rfl,?_⟩
  simp only[*,go_sem]
 rintro a3 a4 F' t ⟨i34,c,rfl,a5,b,rfl,a6,a7⟩
 obtain ⟨G,H,I⟩:=t.pick [1,13,14] (by decide)
 simp only[*,go_sem] at G H I
 clear t y hd z
 refine aa hJ (ag hJ ?_)
 simp only[*,go_sem]
 refine aa hJ ?_
 rcases Nat.lt_or_ge i34 u0.aB.length with K|u
 ·refine bD hJ (by simp only[*,go_sem]) ?_
  refine aE hJ ?_
  obtain ⟨k,l⟩:∃x,u0.aB[i34]?=some x:=⟨_,List.getElem?_eq_getElem K⟩
  rw[cN l] at b
  revert b;refine bS fun a8 h a=>?_
  unfold qd at h
  try dsimp only at h
  obtain ⟨a9,L,M,N,o⟩:=j.e.el _ _ l
  obtain rfl:L=k.cells:=N
  cases M
  have O:=o 0 _ rfl;simp only[go_sem] at O
  have P:=o 1 _ rfl;simp only[go_sem] at P
  clear o l
  refine aa hJ (aU hJ (aa hJ ?_))
  refine ag hJ ?_
  simp only[*,go_sem]
  refine au fun ba bb Q=>?_;try simp only[aj] at Q
  try simp only[*,go_sem]
  refine aU hJ (aa hJ ?_)
  refine aa hJ (ag hJ ?_)
  revert h;refine bS fun bc R h=>?_
  simp only[*,go_sem]
  refine aJ hJ _ (fL k.aG 0 (IntKind.i64.wrap (u0.bF - 1)) R) (aC ?_)
  try simp only[*,go_sem]
  revert h;refine jC hJ (by simp only[*,go_sem]) (fun S h=>?_) fun S h=>?_
  ·obtain rfl:=sI h
   refine aE hJ ?_
   refine bD hJ (by simp only[*,go_sem]) ?_
   refine aa hJ (ag hJ ?_)
   simp only[*,go_sem]
   obtain rfl:=sI a;clear a
   have h:=d
   dsimp only[aK] at h
   obtain rfl:=sI h
   refine av ?_
   simp only[*,go_sem]
  refine ag hJ ?_
  revert h;refine bS fun bd T h=>?_
  simp only[*,go_sem]
  refine aJ hJ _ (fL k.high 0 60 T) (aC ?_)
  try simp only[*,go_sem]
  revert h;refine jC hJ (by simp only[*,go_sem]) (fun U h=>?_) fun U h=>?_
  ·obtain rfl:=sI h
   refine aa hJ (ag hJ ?_)
   simp only[*,go_sem]
   obtain rfl:=sI a;clear a
   have h:=d
   dsimp only[aK] at h
   obtain rfl:=sI h
   refine av ?_
   simp only[*,go_sem]
  refine aa hJ ?_
  refine dc hJ mixed 16 2 (by simp only[*,go_sem]) (by kernel_rfl) ?_
  revert h;refine cS (fun V h=>?_) fun V h=>?_
  ·revert h;refine bS fun W X h=>?_
   obtain ⟨bj,bk,w⟩:=cJ X
   obtain ⟨bm,Y,Z,ab,p⟩:=j.e.el _ _ w
   obtain rfl:Y=W.cells:=ab
   cases Z
   have ad:=p 0 _ rfl;simp only[go_sem] at ad
   have ae:=p 1 _ rfl;simp only[go_sem] at ae
   clear p w
   try simp only[*,go_sem]
   revert h;refine jC hJ (by simp only[*,go_sem]) (fun al h=>?_) fun al h=>?_
   ·obtain rfl:=sI h
    refine aa hJ (ag hJ ?_)
    simp only[*,go_sem]
    obtain rfl:=sI a;clear a
    have h:=d
    dsimp only[aK] at h
    obtain rfl:=sI h
    refine av ?_
    simp only[*,go_sem]
   obtain rfl:=sI h
   refine aE hJ ?_
   have ao:=b9 (n:=i34) (by have:=q;omega)
   refine ag hJ ?_
   simp only[*,go_sem]
   refine ⟨u0.aB.length - (i34+1),by omega,_,Le.sub (List.Sublist.cons _ (List.Sublist.refl _)),i34+1,c,rfl,by omega,a,rfl,?_⟩
   simp only[*,go_sem]
  obtain rfl:=sI h
  try simp only[*,go_sem]
  refine bK hJ (by simp only[*,go_sem]) ?_
  refine aE hJ ?_
  have ao:=b9 (n:=i34) (by have:=q;omega)
  refine ag hJ ?_
  simp only[*,go_sem]
  refine ⟨u0.aB.length - (i34+1),by omega,_,Le.sub (List.Sublist.cons _ (List.Sublist.refl _)),i34+1,c,rfl,by omega,a,rfl,?_⟩
  simp only[*,go_sem]
 have bo:=Nat.not_lt.2 u
 refine bK hJ (by simp only[*,go_sem]) ?_
 rw[List.drop_eq_nil_of_le u] at b
 obtain rfl:=sI b;clear b
 have h:=d
 dsimp only[aK] at h
 obtain rfl:=sI h
 refine bR ?_
 simp only[go_sem]
 refine aa hJ (ag hJ ?_)
 simp only[*,go_sem]
 refine av ?_
 simp only[*,go_sem]
def lX (u0:an):Option Int:=
 ah (eX u0.bF 2 60) fun b=>cond (!b) (some 1) (ah (eX u0.bJ 0 60) fun c=>cond (!c) (some 1) (ah (eX u0.aT.den 1 20) fun d=>cond (!d) (some 1) (ah (eX u0.aT.num 0 20) fun e=>cond (!e) (some 1) (ah (jd u0.aT.num u0.aT.den) fun a=>cond (!((a.num==u0.aT.num)&&(a.den==u0.aT.den))) (some 3) (some 0)))))
theorem CR {ro:Addr->Option Value}(u0:an){s1 a b c:Value}(z:bx ro u0 s1 a b c){r:Int}(h:lX u0=some r):ay Tryz.prog 228 #[bv u0 s1 a b c] ⟨ro,[]⟩ (fun v _=>v= .int .i64 r):=by
 unfold lX at h
 refine ay.go Tryz.func228 rfl Tryz.ntmps228 Tryz.results228 (by simp) fun main J hJ A d hd hs=>?_
 have e:=hs 0
 clear hs
 refine aa hJ (ag hJ ?_)
 simp only[*,go_sem]
 refine au fun B C f=>?_;try simp only[aj] at f
 try simp only[*,go_sem]
 refine aa hJ (aU hJ (aa hJ ?_))
 refine aa hJ (ag hJ ?_)
 revert h;refine bS fun D g h=>?_
 simp only[*,go_sem]
 refine aJ hJ _ (fL u0.bF 2 60 g) (aC ?_)
 try simp only[*,go_sem]
 revert h;refine jC hJ (by simp only[*,go_sem]) (fun i h=>?_) fun i h=>?_
 ·obtain rfl:=sI h
  refine aE hJ ?_
  refine bD hJ (by simp only[*,go_sem]) ?_
  refine aa hJ (ag hJ ?_)
  simp only[*,go_sem]
  refine av ?_
  simp only[*,go_sem]
 refine aa hJ (ag hJ ?_)
 revert h;refine bS fun E j h=>?_
 simp only[*,go_sem]
 refine aJ hJ _ (fL u0.bJ 0 60 j) (aC ?_)
 try simp only[*,go_sem]
 revert h;refine jC hJ (by simp only[*,go_sem]) (fun k h=>?_) fun k h=>?_
 ·obtain rfl:=sI h
  refine aE hJ ?_
  refine bD hJ (by simp only[*,go_sem]) ?_
  refine aa hJ (ag hJ ?_)
  simp only[*,go_sem]
  refine av ?_
  simp only[*,go_sem]
 refine aa hJ (ag hJ ?_)
 revert h;refine bS fun G l h=>?_
 simp only[*,go_sem]
 refine aJ hJ _ (fL u0.aT.den 1 20 l) (aC ?_)
 try simp only[*,go_sem]
 revert h;refine jC hJ (by simp only[*,go_sem]) (fun m h=>?_) fun m h=>?_
 ·obtain rfl:=sI h
  refine aE hJ ?_
  refine bD hJ (by simp only[*,go_sem]) ?_
  refine aa hJ (ag hJ ?_)
  simp only[*,go_sem]
  refine av ?_
  simp only[*,go_sem]
 refine ag hJ ?_
 revert h;refine bS fun H n h=>?_
 simp only[*,go_sem]
 refine aJ hJ _ (fL u0.aT.num 0 20 n) (aC ?_)
 try simp only[*,go_sem]
 revert h;refine jC hJ (by simp only[*,go_sem]) (fun o h=>?_) fun o h=>?_
 ·obtain rfl:=sI h
  refine aa hJ (ag hJ ?_)
  simp only[*,go_sem]
  refine av ?_
  simp only[*,go_sem]
 refine aa hJ ?_
 refine dc hJ mixed 14 1 (by simp only[*,go_sem]) (by kernel_rfl) ?_
 revert h;refine bS fun I p h=>?_
 simp only[*,go_sem]
 refine ⟨_,bu hJ fun F K=>nZ u0.aT.num u0.aT.den p,b6 ?_⟩
 try simp only[*,go_sem]
 revert h;refine jC hJ (by simp only[*,go_sem]) (fun q h=>?_) fun q h=>?_
 ·obtain rfl:=sI h
  refine aa hJ ?_
  refine dU [2] fun L s t u=>?_
  simp only[*,go_sem] at s t u
  clear d hd e
  refine ag hJ ?_
  simp only[*,go_sem]
  refine av ?_
  simp only[*,go_sem]
 obtain rfl:=sI h
 refine aE hJ (aa hJ ?_)
 refine dU [2] fun M w x y=>?_
 simp only[*,go_sem] at w x y
 clear d hd e
 refine ag hJ ?_
 simp only[*,go_sem]
 refine av ?_
 simp only[*,go_sem]
def cP (ro:Addr->Option Value):Prop:=
 ro ⟨0,0,none⟩=some (.func (.func 228) #[] #[])/\ro ⟨0,1,none⟩=some (.func (.func 229) #[] #[])/\ro ⟨0,2,none⟩=some (.func (.func 230) #[] #[])/\ro ⟨0,3,none⟩=some (.func (.func 231) #[] #[])/\ro ⟨0,4,none⟩=some (.func (.func 232) #[] #[])
theorem cP.mono {ro aH:Addr->Option Value}(h:cP ro)(a:Ext ro aH):cP aH:=
 ⟨a _ _ h.1,a _ _ h.2.1,a _ _ h.2.2.1,a _ _ h.2.2.2.1,a _ _ h.2.2.2.2⟩
def n7 (_:an):Option Int:=some 0
def lY (b:an):Option Int:=ah (kT b) fun x=>cond (x != 0) (some x) (n7 b)
def lZ (b:an):Option Int:=ah (kU b) fun x=>cond (x != 0) (some x) (lY b)
def l5 (b:an):Option Int:=ah (kV b) fun x=>cond (x != 0) (some x) (lZ b)
def l6 (b:an):Option Int:=ah (jQ b) fun x=>cond (x != 0) (some x) (l5 b)
def kW (b:an):Option Int:=ah (lX b) fun x=>cond (x != 0) (some x) (l6 b)
def jh (b:an):Option Int:=kW b
def qe:Nat->an->Option Int
 |0=>kW|1=>l6|2=>l5|3=>lZ|4=>lY|_=>n7
theorem s5 {ro:Addr->Option Value}(o:cP ro)(u0:an){s1:Value}(e:az eD ro s1 u0.aB){s2:Value}(f:az dX ro s2 u0.props){g:Value}(j:az ew ro g u0.aR){k:Value}(l:az cO ro k u0.told){r:Int}(h:jh u0=some r):
  ay Tryz.prog 12 #[.agg #[.int .i64 u0.bF,.int .i64 u0.bJ,.int .i64 u0.aT.num,.int .i64 u0.aT.den,s1,s2,g,k]] ⟨ro,[]⟩ (fun v _=>v= .int .i64 r):=by
 obtain ⟨s,t,u,w,y⟩:=o
 replace h:qe 0 u0=some r:=h
 refine ay.go Tryz.func12 rfl Tryz.ntmps12 Tryz.results12 (by simp) fun main J hJ A p hd hs=>?_
 have h0:=hs 0
 clear hs
 first|refine ag hJ ?_|refine aa hJ (ag hJ ?_)|refine aa hJ (aa hJ (ag hJ ?_))|refine aa hJ (aa hJ (aa hJ (ag hJ ?_)))
 simp only[*,go_sem]
 intro d f1;have r1:=ee f1;have n1:=eU f1;simp only[aj] at n1
 first|refine ag hJ ?_|refine aa hJ (ag hJ ?_)|refine aa hJ (aa hJ (ag hJ ?_))|refine aa hJ (aa hJ (aa hJ (ag hJ ?_)))
 simp only[*,go_sem]
 first|refine aU hJ (sr hJ (fun m a F=>∃i:Nat,F=⟨ro,[(d,.cells #[.int .i64 u0.bF,.int .i64 u0.bJ,.int .i64 u0.aT.num,.int .i64 u0.aT.den,s1,s2,g,k] 29)]⟩/\m=5 - i/\sz a=18/\a.defers=[]/\slot a 1= .pointer (some ⟨d,0,none⟩)/\slot a 6= .agg #[.func (.func 228) #[] #[],.func (.func 229) #[] #[],.func (.func 230) #[] #[],.func (.func 231) #[] #[],.func (.func 232) #[] #[]]/\slot a 7= .int .i64 i/\i<=5/\qe i u0=some r) (5) ?_ ?_)|refine aa hJ (aU hJ (sr hJ (fun m a F=>∃i:Nat,F=⟨ro,[(d,.cells #[.int .i64 u0.bF,.int .i64 u0.bJ,.int .i64 u0.aT.num,.int .i64 u0.aT.den,s1,s2,g,k] 29)]⟩/\m=5 - i/\sz a=18/\a.defers=[]/\slot a 1= .pointer (some ⟨d,0,none⟩)/\slot a 6= .agg #[.func (.func 228) #[] #[],.func (.func 229) #[] #[],.func (.func 230) #[] #[],.func (.func 231) #[] #[],.func (.func 232) #[] #[]]/\slot a 7= .int .i64 i/\i<=5/\qe i u0=some r) (5) ?_ ?_))|refine aa hJ (aa hJ (aU hJ (sr hJ (fun m a F=>∃i:Nat,F=⟨ro,[(d,.cells #[.int .i64 u0.bF,.int .i64 u0.bJ,.int .i64 u0.aT.num,.int .i64 u0.aT.den,s1,s2,g,k] 29)]⟩/\m=5 - i/\sz a=18/\a.defers=[]/\slot a 1= .pointer (some ⟨d,0,none⟩)/\slot a 6= .agg #[.func (.func 228) #[] #[],.func (.func 229) #[] #[],.func (.func 230) #[] #[],.func (.func 231) #[] #[],.func (.func 232) #[] #[]]/\slot a 7= .int .i64 i/\i<=5/\qe i u0=some r) (5) ?_ ?_)))
 ·refine ⟨0,rfl,rfl,?_⟩
  simp only[*,go_sem,-h]
  exact ⟨Nat.zero_le _,h⟩
 ·clear h
  rintro m a F ⟨i,rfl,rfl,p,hd,h1,z,B,C,h⟩
  rcases i with _|_|_|_|_|i
  ·replace h:ah (lX u0) (fun x=>cond (x != 0) (some x) (l6 u0))=some r:=h
   have b:=e5 h;clear h;obtain ⟨x,q,h⟩:=b
   have n:((0:Nat):Int)=0:=rfl
   first|refine ag hJ ?_|refine aa hJ (ag hJ ?_)|refine aa hJ (aa hJ (ag hJ ?_))|refine aa hJ (aa hJ (aa hJ (ag hJ ?_)))
   simp only[*,go_sem,-h]
   refine aa hJ ?_
   refine bD hJ (by simp only[*,go_sem,-h]) ?_
   refine aE hJ ?_
   refine aa hJ (aU hJ ?_)
   first|refine ag hJ ?_|refine aa hJ (ag hJ ?_)|refine aa hJ (aa hJ (ag hJ ?_))|refine aa hJ (aa hJ (aa hJ (ag hJ ?_)))
   simp only[*,go_sem,-h]
   first|refine ag hJ ?_|refine aa hJ (ag hJ ?_)|refine aa hJ (aa hJ (ag hJ ?_))|refine aa hJ (aa hJ (aa hJ (ag hJ ?_)))
   simp only[*,go_sem,-h]
   refine aJ hJ _ (CR u0 ⟨(e.mono aI),(f.mono aI),(j.mono aI),(l.mono aI)⟩ q) (aC ?_)
   simp only[*,go_sem,-h]
   first|refine ag hJ ?_|refine aa hJ (ag hJ ?_)|refine aa hJ (aa hJ (ag hJ ?_))|refine aa hJ (aa hJ (aa hJ (ag hJ ?_)))
   simp only[*,go_sem,-h]
   have b:=gX h;clear h;rcases b with ⟨c,h⟩|⟨c,h⟩
   ·refine bD hJ (by simp only[*,go_sem,-h]) ?_
    first|refine ag hJ ?_|refine aa hJ (ag hJ ?_)|refine aa hJ (aa hJ (ag hJ ?_))|refine aa hJ (aa hJ (aa hJ (ag hJ ?_)))
    simp only[*,go_sem,-h]
    have b:=Option.some.inj h;clear h;subst b
    refine av ?_
    simp only[*,go_sem]
   ·refine bK hJ (by simp only[*,go_sem,-h]) ?_
    refine aE hJ ?_
    refine ag hJ ?_
    simp only[*,go_sem,-h]
    refine ⟨5 - 1,by omega,_,Le.refl _,1,rfl,rfl,?_⟩
    have hw:IntKind.i64.wrap (0+1)=((1:Nat):Int):=by decide
    simp only[*,go_sem,-h]
    exact ⟨by omega,h⟩
  ·replace h:ah (jQ u0) (fun x=>cond (x != 0) (some x) (l5 u0))=some r:=h
   have b:=e5 h;clear h;obtain ⟨x,q,h⟩:=b
   have n:((0+1:Nat):Int)=1:=rfl
   first|refine ag hJ ?_|refine aa hJ (ag hJ ?_)|refine aa hJ (aa hJ (ag hJ ?_))|refine aa hJ (aa hJ (aa hJ (ag hJ ?_)))
   simp only[*,go_sem,-h]
   refine aa hJ ?_
   refine bD hJ (by simp only[*,go_sem,-h]) ?_
   refine aE hJ ?_
   refine aa hJ (aU hJ ?_)
   first|refine ag hJ ?_|refine aa hJ (ag hJ ?_)|refine aa hJ (aa hJ (ag hJ ?_))|refine aa hJ (aa hJ (aa hJ (ag hJ ?_)))
   simp only[*,go_sem,-h]
   first|refine ag hJ ?_|refine aa hJ (ag hJ ?_)|refine aa hJ (aa hJ (ag hJ ?_))|refine aa hJ (aa hJ (aa hJ (ag hJ ?_)))
   simp only[*,go_sem,-h]
   refine aJ hJ _ (CQ u0 ⟨(e.mono aI),(f.mono aI),(j.mono aI),(l.mono aI)⟩ q) (aC ?_)
   simp only[*,go_sem,-h]
   first|refine ag hJ ?_|refine aa hJ (ag hJ ?_)|refine aa hJ (aa hJ (ag hJ ?_))|refine aa hJ (aa hJ (aa hJ (ag hJ ?_)))
   simp only[*,go_sem,-h]
   have b:=gX h;clear h;rcases b with ⟨c,h⟩|⟨c,h⟩
   ·refine bD hJ (by simp only[*,go_sem,-h]) ?_
    first|refine ag hJ ?_|refine aa hJ (ag hJ ?_)|refine aa hJ (aa hJ (ag hJ ?_))|refine aa hJ (aa hJ (aa hJ (ag hJ ?_)))
    simp only[*,go_sem,-h]
    have b:=Option.some.inj h;clear h;subst b
    refine av ?_
    simp only[*,go_sem]
   ·refine bK hJ (by simp only[*,go_sem,-h]) ?_
    refine aE hJ ?_
    refine ag hJ ?_
    simp only[*,go_sem,-h]
    refine ⟨5 - 2,by omega,_,Le.refl _,2,rfl,rfl,?_⟩
    have hw:IntKind.i64.wrap (1+1)=((2:Nat):Int):=by decide
    simp only[*,go_sem,-h]
    exact ⟨by omega,h⟩
  ·replace h:ah (kV u0) (fun x=>cond (x != 0) (some x) (lZ u0))=some r:=h
   have b:=e5 h;clear h;obtain ⟨x,q,h⟩:=b
   have n:((0+1+1:Nat):Int)=2:=rfl
   first|refine ag hJ ?_|refine aa hJ (ag hJ ?_)|refine aa hJ (aa hJ (ag hJ ?_))|refine aa hJ (aa hJ (aa hJ (ag hJ ?_)))
   simp only[*,go_sem,-h]
   refine aa hJ ?_
   refine bD hJ (by simp only[*,go_sem,-h]) ?_
   refine aE hJ ?_
   refine aa hJ (aU hJ ?_)
   first|refine ag hJ ?_|refine aa hJ (ag hJ ?_)|refine aa hJ (aa hJ (ag hJ ?_))|refine aa hJ (aa hJ (aa hJ (ag hJ ?_)))
   simp only[*,go_sem,-h]
   first|refine ag hJ ?_|refine aa hJ (ag hJ ?_)|refine aa hJ (aa hJ (ag hJ ?_))|refine aa hJ (aa hJ (aa hJ (ag hJ ?_)))
   simp only[*,go_sem,-h]
   refine aJ hJ _ (CP u0 ⟨(e.mono aI),(f.mono aI),(j.mono aI),(l.mono aI)⟩ q) (aC ?_)
   simp only[*,go_sem,-h]
   first|refine ag hJ ?_|refine aa hJ (ag hJ ?_)|refine aa hJ (aa hJ (ag hJ ?_))|refine aa hJ (aa hJ (aa hJ (ag hJ ?_)))
   simp only[*,go_sem,-h]
   have b:=gX h;clear h;rcases b with ⟨c,h⟩|⟨c,h⟩
   ·refine bD hJ (by simp only[*,go_sem,-h]) ?_
    first|refine ag hJ ?_|refine aa hJ (ag hJ ?_)|refine aa hJ (aa hJ (ag hJ ?_))|refine aa hJ (aa hJ (aa hJ (ag hJ ?_)))
    simp only[*,go_sem,-h]
    have b:=Option.some.inj h;clear h;subst b
    refine av ?_
    simp only[*,go_sem]
   ·refine bK hJ (by simp only[*,go_sem,-h]) ?_
    refine aE hJ ?_
    refine ag hJ ?_
    simp only[*,go_sem,-h]
    refine ⟨5 - 3,by omega,_,Le.refl _,3,rfl,rfl,?_⟩
    have hw:IntKind.i64.wrap (2+1)=((3:Nat):Int):=by decide
    simp only[*,go_sem,-h]
    exact ⟨by omega,h⟩
  ·replace h:ah (kU u0) (fun x=>cond (x != 0) (some x) (lY u0))=some r:=h
   have b:=e5 h;clear h;obtain ⟨x,q,h⟩:=b
   have n:((0+1+1+1:Nat):Int)=3:=rfl
   first|refine ag hJ ?_|refine aa hJ (ag hJ ?_)|refine aa hJ (aa hJ (ag hJ ?_))|refine aa hJ (aa hJ (aa hJ (ag hJ ?_)))
   simp only[*,go_sem,-h]
   refine aa hJ ?_
   refine bD hJ (by simp only[*,go_sem,-h]) ?_
   refine aE hJ ?_
   refine aa hJ (aU hJ ?_)
   first|refine ag hJ ?_|refine aa hJ (ag hJ ?_)|refine aa hJ (aa hJ (ag hJ ?_))|refine aa hJ (aa hJ (aa hJ (ag hJ ?_)))
   simp only[*,go_sem,-h]
   first|refine ag hJ ?_|refine aa hJ (ag hJ ?_)|refine aa hJ (aa hJ (ag hJ ?_))|refine aa hJ (aa hJ (aa hJ (ag hJ ?_)))
   simp only[*,go_sem,-h]
   refine aJ hJ _ (CO u0 ⟨(e.mono aI),(f.mono aI),(j.mono aI),(l.mono aI)⟩ q) (aC ?_)
   simp only[*,go_sem,-h]
   first|refine ag hJ ?_|refine aa hJ (ag hJ ?_)|refine aa hJ (aa hJ (ag hJ ?_))|refine aa hJ (aa hJ (aa hJ (ag hJ ?_)))
   simp only[*,go_sem,-h]
   have b:=gX h;clear h;rcases b with ⟨c,h⟩|⟨c,h⟩
   ·refine bD hJ (by simp only[*,go_sem,-h]) ?_
    first|refine ag hJ ?_|refine aa hJ (ag hJ ?_)|refine aa hJ (aa hJ (ag hJ ?_))|refine aa hJ (aa hJ (aa hJ (ag hJ ?_)))
    simp only[*,go_sem,-h]
    have b:=Option.some.inj h;clear h;subst b
    refine av ?_
    simp only[*,go_sem]
   ·refine bK hJ (by simp only[*,go_sem,-h]) ?_
    refine aE hJ ?_
    refine ag hJ ?_
    simp only[*,go_sem,-h]
    refine ⟨5 - 4,by omega,_,Le.refl _,4,rfl,rfl,?_⟩
    have hw:IntKind.i64.wrap (3+1)=((4:Nat):Int):=by decide
    simp only[*,go_sem,-h]
    exact ⟨by omega,h⟩
  ·replace h:ah (kT u0) (fun x=>cond (x != 0) (some x) (n7 u0))=some r:=h
   have b:=e5 h;clear h;obtain ⟨x,q,h⟩:=b
   have n:((0+1+1+1+1:Nat):Int)=4:=rfl
   first|refine ag hJ ?_|refine aa hJ (ag hJ ?_)|refine aa hJ (aa hJ (ag hJ ?_))|refine aa hJ (aa hJ (aa hJ (ag hJ ?_)))
   simp only[*,go_sem,-h]
   refine aa hJ ?_
   refine bD hJ (by simp only[*,go_sem,-h]) ?_
   refine aE hJ ?_
   refine aa hJ (aU hJ ?_)
   first|refine ag hJ ?_|refine aa hJ (ag hJ ?_)|refine aa hJ (aa hJ (ag hJ ?_))|refine aa hJ (aa hJ (aa hJ (ag hJ ?_)))
   simp only[*,go_sem,-h]
   first|refine ag hJ ?_|refine aa hJ (ag hJ ?_)|refine aa hJ (aa hJ (ag hJ ?_))|refine aa hJ (aa hJ (aa hJ (ag hJ ?_)))
   simp only[*,go_sem,-h]
   refine aJ hJ _ (CN u0 ⟨(e.mono aI),(f.mono aI),(j.mono aI),(l.mono aI)⟩ q) (aC ?_)
   simp only[*,go_sem,-h]
   first|refine ag hJ ?_|refine aa hJ (ag hJ ?_)|refine aa hJ (aa hJ (ag hJ ?_))|refine aa hJ (aa hJ (aa hJ (ag hJ ?_)))
   simp only[*,go_sem,-h]
   have b:=gX h;clear h;rcases b with ⟨c,h⟩|⟨c,h⟩
   ·refine bD hJ (by simp only[*,go_sem,-h]) ?_
    first|refine ag hJ ?_|refine aa hJ (ag hJ ?_)|refine aa hJ (aa hJ (ag hJ ?_))|refine aa hJ (aa hJ (aa hJ (ag hJ ?_)))
    simp only[*,go_sem,-h]
    have b:=Option.some.inj h;clear h;subst b
    refine av ?_
    simp only[*,go_sem]
   ·refine bK hJ (by simp only[*,go_sem,-h]) ?_
    refine aE hJ ?_
    refine ag hJ ?_
    simp only[*,go_sem,-h]
    refine ⟨5 - 5,by omega,_,Le.refl _,5,rfl,rfl,?_⟩
    have hw:IntKind.i64.wrap (4+1)=((5:Nat):Int):=by decide
    simp only[*,go_sem,-h]
    exact ⟨by omega,h⟩
  ·have:i=0:=by omega
   subst this
   replace h:some 0=some r:=h
   have n:((0+1+1+1+1+1:Nat):Int)=5:=rfl
   first|refine ag hJ ?_|refine aa hJ (ag hJ ?_)|refine aa hJ (aa hJ (ag hJ ?_))|refine aa hJ (aa hJ (aa hJ (ag hJ ?_)))
   simp only[*,go_sem,-h]
   refine aa hJ ?_
   refine bK hJ (by simp only[*,go_sem,-h]) ?_
   refine bR ?_
   simp only[go_sem]
   first|refine ag hJ ?_|refine aa hJ (ag hJ ?_)|refine aa hJ (aa hJ (ag hJ ?_))|refine aa hJ (aa hJ (aa hJ (ag hJ ?_)))
   simp only[*,go_sem,-h]
   have b:=Option.some.inj h;clear h;subst b
   refine av ?_
   simp only[*,go_sem]
def l7 (u0:an)(b:aP)(i39:Nat)(a:bZ)(st:(List bq)):Option (Fl (List bq) bq):=
 ah (fq a.high) fun c=>ah (je u0 b (i39:Int) (⟨a.aG,c⟩:fZ)) fun d=>ah (dr st ([d])) fun e=>some (.nx e)
def jR (u0:an)(b:aP):Option bq:=
 ah (bB (l7 u0 b) 0 u0.aB ([]:List bq)) fun o=>aK o (fun a=>ah (bL a 0) fun c=>ah (gY a 1 (a.length:Int)) fun d=>ah (jg fM c d) fun e=>some e) (fun _ _=>none) (fun r=>some r)
theorem qf {ro:Addr->Option Value}(u0:an){s1 f g i:Value}(u:bx ro u0 s1 f g i)(b:aP){r:bq}(h:jR u0 b=some r):ay Tryz.prog 56 #[bv u0 s1 f g i,.agg #[.int .i64 b.back,.int .i64 b.high]] ⟨ro,[]⟩ (fun v _=>v=r.v):=by
 obtain ⟨d3,c4,rfl,dT,W,-⟩:=id u.e
 unfold jR at h
 refine ay.go Tryz.func56 rfl Tryz.ntmps56 Tryz.results56 (by simp) fun main J hJ A X hd hs=>?_
 have Y:=hs 0
 have k1:=hs 1
 clear hs
 refine aa hJ (ag hJ ?_)
 simp only[*,go_sem]
 refine au fun o Z ab=>?_;try simp only[aj] at ab
 refine au fun p ad ae=>?_;try simp only[aj] at ae
 refine au fun q al ao=>?_;try simp only[aj] at ao
 try simp only[*,go_sem]
 refine aa hJ (ag hJ ?_)
 simp only[*,go_sem]
 refine aa hJ (aa hJ (ag hJ ?_))
 simp only[*,go_sem]
 refine aU hJ ?_
 revert h;refine bS fun ar j a0=>?_
 refine bU hJ [5,6,7,12,13,14,15,16,17,18,19,20,21,22,23,24,25,26,27,28,29,30] (fun m G F'=>∃(i39:Nat) (d33:Option Addr) (s:Nat) (w:List (Nat×Obj)) (c:(List bq)),m=u0.aB.length - i39/\i39<=u0.aB.length/\bB (l7 u0 b) i39 (u0.aB.drop i39) c=some ar/\F'=⟨ro,(q,.cells #[.int .i64 0,.int .i64 0,.int .i64 0,.int .i64 0,.int .i64 0,.int .i64 0] 94)::(p,.cells #[.int .i64 b.back,.int .i64 b.high] 90)::(o,bl u0 (sl d3 u0.aB c4) f g i)::w⟩/\aW jc ro 94 (.slice d33 c.length s) c w/\c.length<=s/\slot G 12= .int .i64 (i39:Int)/\slot G 5= .slice d33 c.length s) u0.aB.length ?_ ?_
 ·refine ⟨0,none,0,[],([]:List bq),(Nat.sub_zero _).symm,Nat.zero_le _,j,rfl,aW.nil _ _ _,Nat.le_refl _,?_⟩
  simp only[*,go_sem]
 rintro ea eb F' H ⟨i39,d33,s,w,c,rfl,ec,j,rfl,I,ed,eh,et⟩
 obtain ⟨a2,a3,a4⟩:=H.pick [2,3,4,10,11] (by decide)
 simp only[*,go_sem] at a2 a3 a4
 clear H X hd Y k1
 refine aa hJ (ag hJ ?_)
 simp only[*,go_sem]
 refine aa hJ ?_
 rcases Nat.lt_or_ge i39 u0.aB.length with a5|K
 ·refine bD hJ (by simp only[*,go_sem]) ?_
  refine aE hJ ?_
  obtain ⟨d,y⟩:∃x,u0.aB[i39]?=some x:=⟨_,List.getElem?_eq_getElem a5⟩
  rw[cN y] at j
  revert j;refine bS fun ev h a6=>?_
  unfold l7 at h
  try dsimp only at h
  obtain ⟨z,a7,a8,a9,B⟩:=u.e.el _ _ y
  obtain rfl:a7=d.cells:=a9
  cases a8
  have ba:=B 0 _ rfl;simp only[go_sem] at ba
  have bb:=B 1 _ rfl;simp only[go_sem] at bb
  clear B y
  refine aa hJ (aU hJ (aa hJ ?_))
  refine aL hJ fun bc=>?_
  refine ag hJ ?_
  simp only[*,go_sem]
  refine au fun C eQ L=>?_;have eS:=aM.cons L bc;try simp only[aj] at L
  try simp only[*,go_sem]
  refine aL hJ fun bd=>?_
  refine dA hJ mixed 11 ⟨ro,[(C,.cells #[.int .i64 d.aG,.int .i64 d.high] 132),(q,.cells #[.int .i64 0,.int .i64 0,.int .i64 0,.int .i64 0,.int .i64 0,.int .i64 0] 94),(p,.cells #[.int .i64 b.back,.int .i64 b.high] 90),(o,bl u0 (sl (some z) u0.aB c4) f g i)]⟩ (by simp only[*,go_sem]) (by kernel_rfl) ?_
  revert h;refine bS fun bj bk h=>?_
  simp only[*,go_sem]
  refine ⟨_,bu hJ fun F t=>iz d.high bk,b6 ?_⟩
  revert h;refine bS fun a bm h=>?_
  try simp only[*,go_sem]
  refine ⟨_,bu hJ fun F t=>yg u0 (u.mono (bM t)) b (i39:Int) (⟨d.aG,bj⟩:fZ) bm,?_⟩
  revert h;refine bS fun bo br h=>?_
  obtain rfl:=sI h
  obtain ⟨bs,M⟩:=cW br
  try simp only[*,go_sem]
  refine au fun N bz O=>?_;have b0:=aM.cons O bd;try simp only[aj] at O
  try simp only[*,go_sem]
  refine dI (r:=jc) (l:=c) (x:=a) (cs:=#[.int .i64 a.spot.aG,.int .i64 a.spot.high.num,.int .i64 a.spot.high.den,.int .i64 a.at_,.int .i64 a.high.num,.int .i64 a.high.den]) (e2:=94) [(N,.cells #[.int .i64 a.spot.aG,.int .i64 a.spot.high.num,.int .i64 a.spot.high.den,.int .i64 a.at_,.int .i64 a.high.num,.int .i64 a.high.den] 94),(C,.cells #[.int .i64 d.aG,.int .i64 d.high] 132),(q,.cells #[.int .i64 0,.int .i64 0,.int .i64 0,.int .i64 0,.int .i64 0,.int .i64 0] 94),(p,.cells #[.int .i64 b.back,.int .i64 b.high] 90),(o,bl u0 (sl (some z) u0.aB c4) f g i)] [] I b0 bs rfl (by simp only[*,go_sem]) bz rfl rfl lR lR sD sF rfl sE (by decide) (by decide) (fun e0 P D b1 b2 e1=>?_)
  simp only[List.append_nil,List.cons_append,List.nil_append,List.append_assoc] at b2
  subst b1
  rw[<-M] at D;clear M
  obtain ⟨d63,b3,rfl,b4⟩:=D.len
  refine ⟨⟨ro,(N,.cells #[.int .i64 a.spot.aG,.int .i64 a.spot.high.num,.int .i64 a.spot.high.den,.int .i64 a.at_,.int .i64 a.high.num,.int .i64 a.high.den] 94)::(C,.cells #[.int .i64 d.aG,.int .i64 d.high] 132)::(q,.cells #[.int .i64 0,.int .i64 0,.int .i64 0,.int .i64 0,.int .i64 0,.int .i64 0] 94)::(p,.cells #[.int .i64 b.back,.int .i64 b.high] 90)::(o,bl u0 (sl (some z) u0.aB c4) f g i)::P⟩,Le.refl _,?_⟩
  refine ⟨by simp only[*,go_sem],kG ?_⟩
  try simp only[*,go_sem]
  have e3:=b9 (n:=i39) (by have:=W;omega)
  refine ag hJ ?_
  simp only[*,go_sem]
  refine ⟨u0.aB.length - (i39+1),by omega,_,Le.sub (List.Sublist.cons _ (List.Sublist.cons _ (List.Sublist.refl _))),i39+1,d63,b3,P,bo,rfl,by omega,a6,rfl,D,b4,?_⟩
  simp only[*,go_sem]
 have fa:=Nat.not_lt.2 K
 refine bK hJ (by simp only[*,go_sem]) ?_
 rw[List.drop_eq_nil_of_le K] at j
 obtain rfl:=sI j;clear j
 have h:=a0
 dsimp only[aK] at h
 refine bR ?_
 simp only[go_sem]
 refine aa hJ ?_
 refine aL hJ fun Q=>?_
 obtain ⟨b5,fb,ca,E,cb⟩:=I.eC [(q,.cells #[.int .i64 0,.int .i64 0,.int .i64 0,.int .i64 0,.int .i64 0,.int .i64 0] 94),(p,.cells #[.int .i64 b.back,.int .i64 b.high] 90),(o,bl u0 (sl d3 u0.aB c4) f g i)] [] Q (aA.cons al (aA.cons ad (aA.cons Z (aA.nil _))))
 clear Q
 refine cM hJ cb ?_
 obtain ⟨fg,fi,-⟩:=E.op
 simp only[bg] at ca
 refine dA hJ mixed 6 ⟨b5,[(p,.cells #[.int .i64 b.back,.int .i64 b.high] 90),(o,bl u0 (sl d3 u0.aB c4) f g i)]⟩ (by simp only[*,go_sem]) (by kernel_rfl) ?_
 revert h;refine bS fun R cd h=>?_
 obtain ⟨fp,fr,S⟩:=cJ cd
 obtain ⟨fs,cf,cl,cy,k⟩:=E.el _ _ S
 obtain rfl:cf=R.cells:=cy
 cases cl
 have cS:=k 0 _ rfl;simp only[go_sem] at cS
 have c0:=k 1 _ rfl;simp only[go_sem] at c0
 have da:=k 2 _ rfl;simp only[go_sem] at da
 have db:=k 3 _ rfl;simp only[go_sem] at db
 have dd:=k 4 _ rfl;simp only[go_sem] at dd
 have df:=k 5 _ rfl;simp only[go_sem] at df
 clear k S
 revert h;refine bS fun dk dp h=>?_
 obtain ⟨ft,fu,fv,T⟩:=nv dp
 have U:(1:Int).toNat<=((c.length:Int)).toNat:=by omega
 have dq:((c.length:Int)).toNat<=s:=by omega
 have fw:0<=((c.length:Int)):=by omega
 obtain ⟨d80,ds,dt,V⟩:=az.nC E (1:Int).toNat ((c.length:Int)).toNat U (by omega) T
 simp only[go_sem] at ds dt U dq
 obtain ⟨_,_,du,fx,gg,gl⟩:=id V;cases du
 clear T
 revert h;refine bS fun gn dv h=>?_
 obtain rfl:=sI h
 try simp only[*,go_sem]
 refine ⟨_,bu hJ fun F t=>p7 (dj:=67) (dJ:=#[]) (dK:=#[]) fM ⟨by simp only[go_sem],fun gp gB dC dE _ h=>by simp only[go_sem];exact pY dC dE h⟩ R dk (V.mono (bM t)) dv,?_⟩
 try simp only[*,go_sem]
 refine av ?_
 simp only[*,go_sem]
def l8 (u0:an)(a:aP):Option ak:=
 ah (fq u0.bJ) fun b=>ah (jR u0 a) fun c=>ah (iB b c.high) fun d=>some d
theorem yh {ro:Addr->Option Value}(u0:an){s1 b c d:Value}(f:bx ro u0 s1 b c d)(a:aP){r:ak}(h:l8 u0 a=some r):ay Tryz.prog 63 #[bv u0 s1 b c d,.agg #[.int .i64 a.back,.int .i64 a.high]] ⟨ro,[]⟩ (fun v _=>v=r.v):=by
 unfold l8 at h
 refine ay.go Tryz.func63 rfl Tryz.ntmps63 Tryz.results63 (by simp) fun main J hJ A s hd hs=>?_
 have t:=hs 0
 have k1:=hs 1
 clear hs
 refine aa hJ (ag hJ ?_)
 simp only[*,go_sem]
 refine au fun g u i=>?_;try simp only[aj] at i
 refine au fun j w k=>?_;try simp only[aj] at k
 refine au fun x y l=>?_;try simp only[aj] at l
 try simp only[*,go_sem]
 refine aa hJ ?_
 refine dA hJ mixed 9 ⟨ro,[(j,.cells #[.int .i64 a.back,.int .i64 a.high] 90),(g,bl u0 s1 b c d)]⟩ (by simp only[*,go_sem]) (by kernel_rfl) ?_
 revert h;refine bS fun m n h=>?_
 simp only[*,go_sem]
 refine ⟨_,bu hJ fun F e=>iz u0.bJ n,b6 ?_⟩
 revert h;refine bS fun o p h=>?_
 try simp only[*,go_sem]
 refine ⟨_,bu hJ fun F e=>qf u0 (f.mono (bM e)) a p,b6 ?_⟩
 revert h;refine bS fun z q h=>?_
 obtain rfl:=sI h
 try simp only[*,go_sem]
 refine ⟨_,bu hJ fun F e=>n5 m o.high q,?_⟩
 try simp only[*,go_sem]
 refine av ?_
 simp only[*,go_sem]
def l9 (u0:an)(a:Int)(st:Int):Option (Fl Int ak):=
 ah (bL u0.aB st) fun b=>cond (decide (b.aG<a)) (some (.nx (IntKind.i64.wrap (st+1)))) (some (.bk st))
def jS (u0:an)(b:Int):Option ak:=
 ah (bE (l9 u0 b) fu 1) fun o=>aK o (fun c=>ah (bL u0.aB (IntKind.i64.wrap (c - 1))) fun a=>ah (bL u0.aB c) fun d=>ah (fq a.high) fun e=>ah (jd (IntKind.i64.wrap ((IntKind.i64.wrap (d.high - a.high))*(IntKind.i64.wrap (b - a.aG)))) (IntKind.i64.wrap (d.aG - a.aG))) fun f=>ah (iA e f) fun g=>some g) (fun _ _=>none) (fun r=>some r)
theorem yj {ro:Addr->Option Value}(u0:an){s1 b c d:Value}(g:bx ro u0 s1 b c d)(i:Int){r:ak}(h:jS u0 i=some r):ay Tryz.prog 52 #[bv u0 s1 b c d,.int .i64 i] ⟨ro,[]⟩ (fun v _=>v=r.v):=by
 obtain ⟨d3,c4,rfl,bc,bd,-⟩:=id g.e
 unfold jS at h
 refine ay.go Tryz.func52 rfl Tryz.ntmps52 Tryz.results52 (by simp) fun main J hJ A E hd hs=>?_
 have G:=hs 0
 have k1:=hs 1
 clear hs
 refine aa hJ (ag hJ ?_)
 simp only[*,go_sem]
 refine au fun l bj H=>?_;try simp only[aj] at H
 refine au fun t bk I=>?_;try simp only[aj] at I
 try simp only[*,go_sem]
 refine aa hJ (ag hJ ?_)
 simp only[*,go_sem]
 refine aa hJ (aU hJ ?_)
 revert h;refine bS fun K j L=>?_
 refine bU hJ [5,8,9,10,11,12,13,14,15,16,17,18] (fun m M F'=>∃(k:Int),bE (l9 u0 i) m k=some K/\F'=⟨ro,(t,rt 0 0)::(l,bl u0 (sl d3 u0.aB c4) b c d)::[]⟩/\slot M 5= .int .i64 k) fu ?_ ?_
 ·refine ⟨1,j,rfl,?_⟩
  simp only[*,go_sem]
 rintro n bm F' u ⟨k,j,rfl,bo⟩
 obtain ⟨N,O,P⟩:=u.pick [1,2,4] (by decide)
 simp only[*,go_sem] at N O P
 clear u E hd G k1
 obtain _|n:=n
 ·exact absurd j (by simp only[bE,reduceCtorEq,not_false_eq_true])
 revert j;refine bS fun br h o=>?_
 unfold l9 at h
 try dsimp only at h
 refine aa hJ (aa hJ (ag hJ ?_))
 revert h;refine bS fun Q R h=>?_
 obtain ⟨bs,bz,w⟩:=cJ R
 obtain ⟨x,S,T,U,p⟩:=g.e.el _ _ w
 obtain rfl:S=Q.cells:=U
 cases T
 have y:=p 0 _ rfl;simp only[go_sem] at y
 have z:=p 1 _ rfl;simp only[go_sem] at z
 clear p w
 try simp only[*,go_sem]
 revert h;refine jC hJ (by simp only[*,go_sem]) (fun V h=>?_) fun V h=>?_
 ·obtain rfl:=sI h
  refine aE hJ (aU hJ ?_)
  refine ag hJ ?_
  simp only[*,go_sem]
  refine ⟨n,Nat.lt_succ_self _,_,Le.sub (List.Sublist.refl _),(IntKind.i64.wrap (k+1)),o,rfl,?_⟩
  simp only[*,go_sem]
 obtain rfl:=sI h
 refine bR ?_
 simp only[go_sem]
 obtain rfl:=sI o;clear o
 have h:=L
 dsimp only[aK] at h
 clear y z
 refine aa hJ ?_
 refine pO hJ mixed 13 ⟨ro,[(t,rt 0 0),(l,bl u0 (sl (some x) u0.aB c4) b c d)]⟩ (by simp only[*,go_sem]) (by kernel_rfl) 132 rfl sG ?_
 revert h;refine bS fun a W h=>?_
 obtain ⟨b0,b1,B⟩:=cJ W
 obtain ⟨b2,X,Y,Z,q⟩:=g.e.el _ _ B
 obtain rfl:X=a.cells:=Z
 cases Y
 have ab:=q 0 _ rfl;simp only[go_sem] at ab
 have ad:=q 1 _ rfl;simp only[go_sem] at ad
 clear q B
 revert h;refine bS fun f ae h=>?_
 obtain ⟨b3,b4,C⟩:=cJ ae
 obtain ⟨b5,al,ao,ar,s⟩:=g.e.el _ _ C
 obtain rfl:al=f.cells:=ar
 cases ao
 have a0:=s 0 _ rfl;simp only[go_sem] at a0
 have a2:=s 1 _ rfl;simp only[go_sem] at a2
 clear s C
 try simp only[*,go_sem]
 refine au fun a3 ca a4=>?_;try simp only[aj] at a4
 try simp only[*,go_sem]
 refine au fun a5 cb a6=>?_;try simp only[aj] at a6
 try simp only[*,go_sem]
 refine aa hJ ?_
 refine dA hJ mixed 20 ⟨ro,[(a5,.cells #[.int .i64 f.aG,.int .i64 f.high] 132),(a3,.cells #[.int .i64 a.aG,.int .i64 a.high] 132),(l,bl u0 (sl (some x) u0.aB c4) b c d)]⟩ (by simp only[*,go_sem]) (by kernel_rfl) ?_
 revert h;refine bS fun a7 a8 h=>?_
 simp only[*,go_sem]
 refine ⟨_,bu hJ fun F D=>iz a.high a8,b6 ?_⟩
 revert h;refine bS fun a9 ba h=>?_
 try simp only[*,go_sem]
 refine ⟨_,bu hJ fun F D=>nZ (IntKind.i64.wrap ((IntKind.i64.wrap (f.high - a.high))*(IntKind.i64.wrap (i - a.aG)))) (IntKind.i64.wrap (f.aG - a.aG)) ba,b6 ?_⟩
 revert h;refine bS fun cd bb h=>?_
 obtain rfl:=sI h
 try simp only[*,go_sem]
 refine ⟨_,bu hJ fun F D=>n4 a7 a9 bb,?_⟩
 try simp only[*,go_sem]
 refine av ?_
 simp only[*,go_sem]
def n8 (c:b7)(b:ak)(i59:Nat)(a:bq)(st:Unit):Option (Fl Unit (List bq)):=
 cond (((a.spot.aG==c.place)&&((a.spot.high.num==b.num)&&(a.spot.high.den==b.den)))) (some (.br 1 ())) (some (.nx ()))
def n9 (u0:an)(c:aP)(i38:Nat)(a:b7)(st:(List bq)):Option (Fl (List bq) (List bq)):=
 ah (jS u0 a.place) fun d=>ah (fq a.cX) fun e=>ah (iA d e) fun b=>ah (bB (n8 a b) 0 st ()) fun o=>aK o (fun h=>ah (je u0 c (i38:Int) (⟨a.place,b⟩:fZ)) fun f=>ah (dr st ([f])) fun g=>some (.nx g)) (fun _ i=>some (.nx st)) (fun r=>some (.rt r))
def iC (u0:an)(a:aP):Option (List bq):=
 ah (bB (n9 u0 a) 0 u0.props ([]:List bq)) fun o=>aK o (fun b=>some b) (fun _ _=>none) (fun r=>some r)
theorem s6 {ro:Addr->Option Value}(u0:an){s1 O f g:Value}(w:bx ro u0 s1 O f g)(b:aP){r:(List bq)}(h:iC u0 b=some r):en Tryz.prog 65 #[bv u0 s1 O f g,.agg #[.int .i64 b.back,.int .i64 b.high]] ro (fun v aH=>∃P,v=P/\az jc aH P r):=by
 obtain ⟨d10,o,rfl,fi,Q,-⟩:=id w.p
 unfold iC at h
 refine ay.go Tryz.func65 rfl Tryz.ntmps65 Tryz.results65 (by simp) fun main J hJ A ba hd hs=>?_
 have bb:=hs 0
 have k1:=hs 1
 clear hs
 refine aa hJ (ag hJ ?_)
 simp only[*,go_sem]
 refine au fun q bc bj=>?_;try simp only[aj] at bj
 refine au fun s bk bm=>?_;try simp only[aj] at bm
 try simp only[*,go_sem]
 refine AN hJ (aa hJ ?_)
 refine ag hJ ?_
 simp only[*,go_sem]
 refine aa hJ ?_
 refine AM hJ ?_
 refine aa hJ (aa hJ (ag hJ ?_))
 simp only[*,go_sem]
 refine aU hJ ?_
 revert h;refine bS fun bo i br=>?_
 refine bU hJ [5,6,7,8,10,15,16,17,18,19,20,21,22,23,24,25,26,27,28,29,30,31,32,33,34,35,36,37,38,39,40,41,42,43,44,45,46,47,48,49,50] (fun m y F'=>∃(i38:Nat) (d32:Option Addr) (t:Nat) (z:List (Nat×Obj)) (c:(List bq)),m=u0.props.length - i38/\i38<=u0.props.length/\bB (n9 u0 b) i38 (u0.props.drop i38) c=some bo/\F'=⟨ro,(s,.cells #[.int .i64 b.back,.int .i64 b.high] 90)::(q,bl u0 s1 (sl d10 u0.props o) f g)::z⟩/\aW jc ro 94 (.slice d32 c.length t) c z/\c.length<=t/\slot y 15= .int .i64 (i38:Int)/\slot y 5= .slice d32 c.length t) u0.props.length ?_ ?_
 ·refine ⟨0,none,0,[],([]:List bq),(Nat.sub_zero _).symm,Nat.zero_le _,i,rfl,aW.nil _ _ _,Nat.le_refl _,?_⟩
  simp only[*,go_sem]
 rintro fp bs F' R ⟨i38,d32,t,z,c,rfl,fr,i,rfl,u,bz,b0,b1⟩
 obtain ⟨S,T,U⟩:=R.pick [2,3,4,13,14] (by decide)
 simp only[*,go_sem] at S T U
 clear R ba hd bb k1
 refine aa hJ (ag hJ ?_)
 simp only[*,go_sem]
 refine aa hJ ?_
 rcases Nat.lt_or_ge i38 u0.props.length with b2|V
 ·refine bD hJ (by simp only[*,go_sem]) ?_
  refine aE hJ ?_
  obtain ⟨d,B⟩:∃x,u0.props[i38]?=some x:=⟨_,List.getElem?_eq_getElem b2⟩
  rw[cN B] at i
  revert i;refine bS fun fs h W=>?_
  unfold n9 at h
  try dsimp only at h
  obtain ⟨C,b3,b4,b5,D⟩:=w.p.el _ _ B
  obtain rfl:b3=d.cells:=b5
  cases b4
  have ca:=D 0 _ rfl;simp only[go_sem] at ca
  have cb:=D 1 _ rfl;simp only[go_sem] at cb
  clear D B
  refine aa hJ (aU hJ (aa hJ ?_))
  refine aL hJ fun cd=>?_
  refine ag hJ ?_
  simp only[*,go_sem]
  refine au fun E ft X=>?_;have fu:=aM.cons X cd;try simp only[aj] at X
  try simp only[*,go_sem]
  refine aa hJ ?_
  refine aL hJ fun cf=>?_
  refine dc hJ mixed 11 3 (by simp only[*,go_sem]) (by kernel_rfl) ?_
  revert h;refine bS fun cl cy h=>?_
  simp only[*,go_sem]
  refine ⟨_,bu hJ fun F G=>yj u0 (w.mono (bM G)) d.place cy,b6 ?_⟩
  revert h;refine bS fun cS c0 h=>?_
  try simp only[*,go_sem]
  refine ⟨_,bu hJ fun F G=>iz d.cX c0,b6 ?_⟩
  revert h;refine bS fun e da h=>?_
  try simp only[*,go_sem]
  refine ⟨_,bu hJ fun F G=>n4 cl cS da,b6 ?_⟩
  try simp only[*,go_sem]
  refine au fun H fv Y=>?_;have fw:=aM.cons Y cf;try simp only[aj] at Y
  try simp only[*,go_sem]
  refine aa hJ (aa hJ ?_)
  refine aL hJ fun fx=>?_
  refine ag hJ ?_
  simp only[*,go_sem]
  refine aU hJ ?_
  revert h;refine bS fun db j Z=>?_
  refine bU hJ [10,33,34,35,36,37,38,39,40,41] (fun m y F'=>∃(i59:Nat),m=c.length - i59/\i59<=c.length/\bB (n8 d e) i59 (c.drop i59) ()=some db/\F'=⟨ro,(H,.cells #[.int .i64 d.place,.int .i64 e.num,.int .i64 e.den] 92)::(E,.cells #[.int .i64 d.place,.int .i64 d.cX] 146)::(s,.cells #[.int .i64 b.back,.int .i64 b.high] 90)::(q,bl u0 s1 (sl (some C) u0.props o) f g)::z⟩/\slot y 33= .int .i64 (i59:Int)) c.length ?_ ?_
  ·refine ⟨0,(Nat.sub_zero _).symm,Nat.zero_le _,j,rfl,?_⟩
   simp only[*,go_sem]
  rintro gg dd F' I ⟨i59,rfl,gl,j,rfl,gn⟩
  obtain ⟨df,dk,dp⟩:=I.pick [2,3,4,5,6,7,8,13,14,15,16,17,19,20,21,22,23,24,25,26,27,28,29,30,31,32] (by decide)
  simp only[*,go_sem] at df dk dp
  have gp:c9 [5,6,7,8,10,15,16,17,18,19,20,21,22,23,24,25,26,27,28,29,30,31,32,33,34,35,36,37,38,39,40,41,42,43,44,45,46,47,48,49,50] dd bs:=(I.ir (by decide)).trans (by simp only[*,go_sem])
  clear I S T U b1 b0
  refine aa hJ (ag hJ ?_)
  simp only[*,go_sem]
  refine aa hJ ?_
  rcases Nat.lt_or_ge i59 c.length with dq|ab
  ·refine bD hJ (by simp only[*,go_sem]) ?_
   refine aE hJ ?_
   obtain ⟨ds,K⟩:∃x,c[i59]?=some x:=⟨_,List.getElem?_eq_getElem dq⟩
   rw[cN K] at j
   revert j;refine bS fun gB h L=>?_
   unfold n8 at h
   try dsimp only at h
   refine aL hJ fun M=>?_
   obtain ⟨ad,dt,gC,du,dv,rfl,gM,dC,k⟩:=u.elem K
   obtain rfl:du=ds.cells:=dC
   cases dv
   replace M:=M.nd
   simp only[keys,List.map_cons,List.map_nil,List.map_append,List.cons_append,List.nil_append,List.nodup_cons,List.mem_cons,List.mem_append,List.not_mem_nil,or_false,not_or] at M
   have ae:=k 0 _ rfl;simp only[go_sem] at ae
   have al:=k 1 _ rfl;simp only[go_sem] at al
   have ao:=k 2 _ rfl;simp only[go_sem] at ao
   have ar:=k 3 _ rfl;simp only[go_sem] at ar
   have a0:=k 4 _ rfl;simp only[go_sem] at a0
   have a2:=k 5 _ rfl;simp only[go_sem] at a2
   clear k K
   refine aa hJ (aU hJ (aa hJ ?_))
   refine aL hJ fun dE=>?_
   refine ag hJ ?_
   simp only[*,go_sem]
   refine au fun gT gV a3=>?_;have g0:=aM.cons a3 dE;try simp only[aj] at a3
   try simp only[*,go_sem]
   refine aa hJ ?_
   refine aL hJ fun g1=>?_
   refine ag hJ ?_
   simp only[*,go_sem]
   revert h;refine jC hJ (by simp only[*,go_sem]) (fun dT h=>?_) fun dT h=>?_
   ·obtain rfl:=sI h
    refine bR ?_
    simp only[go_sem]
    obtain rfl:=sI L;clear L
    have h:=Z
    dsimp only[aK] at h
    obtain rfl:=sI h
    clear ae al ao ar a0 a2
    have ea:=b9 (n:=i38) (by have:=Q;omega)
    refine ag hJ ?_
    simp only[*,go_sem]
    refine ⟨u0.props.length - (i38+1),by omega,_,Le.sub (List.Sublist.cons _ (List.Sublist.cons _ (List.Sublist.cons _ (List.Sublist.refl _)))),i38+1,(some ⟨ad,0,none⟩),t,[(ad,Obj.cells dt 94)],c,rfl,by omega,W,rfl,u,bz,?_⟩
    simp only[*,go_sem]
   obtain rfl:=sI h
   refine aE hJ ?_
   have g2:=b9 (n:=i59) (by have:=u.bd;omega)
   refine ag hJ ?_
   simp only[*,go_sem]
   refine ⟨c.length - (i59+1),by omega,_,Le.sub (List.Sublist.cons _ (List.Sublist.refl _)),i59+1,rfl,by omega,L,rfl,?_⟩
   simp only[*,go_sem]
  have g3:=Nat.not_lt.2 ab
  refine bK hJ (by simp only[*,go_sem]) ?_
  rw[List.drop_eq_nil_of_le ab] at j
  obtain rfl:=sI j;clear j
  have h:=Z
  dsimp only[aK] at h
  refine bR ?_
  simp only[go_sem]
  refine aL hJ fun eb=>?_
  refine ag hJ ?_
  revert h;refine bS fun a ec h=>?_
  simp only[*,go_sem]
  refine aJ hJ _ (yg u0 (w.mono aI) b (i38:Int) (⟨d.place,e⟩:fZ) ec) (aC ?_)
  revert h;refine bS fun ed eh h=>?_
  obtain rfl:=sI h
  obtain ⟨et,a4⟩:=cW eh
  try simp only[*,go_sem]
  refine au fun a5 ev a6=>?_;have eQ:=aM.cons a6 eb;try simp only[aj] at a6
  try simp only[*,go_sem]
  refine dI (r:=jc) (l:=c) (x:=a) (cs:=#[.int .i64 a.spot.aG,.int .i64 a.spot.high.num,.int .i64 a.spot.high.den,.int .i64 a.at_,.int .i64 a.high.num,.int .i64 a.high.den]) (e2:=94) [(a5,.cells #[.int .i64 a.spot.aG,.int .i64 a.spot.high.num,.int .i64 a.spot.high.den,.int .i64 a.at_,.int .i64 a.high.num,.int .i64 a.high.den] 94),(H,.cells #[.int .i64 d.place,.int .i64 e.num,.int .i64 e.den] 92),(E,.cells #[.int .i64 d.place,.int .i64 d.cX] 146),(s,.cells #[.int .i64 b.back,.int .i64 b.high] 90),(q,bl u0 s1 (sl (some C) u0.props o) f g)] [] u eQ et rfl (by simp only[*,go_sem]) ev rfl rfl lR lR sD sF rfl sE (by decide) (by decide) (fun g4 a7 N eS e0 ha=>?_)
  simp only[List.append_nil,List.cons_append,List.nil_append,List.append_assoc] at e0
  subst eS
  rw[<-a4] at N;clear a4
  obtain ⟨d83,e1,rfl,e3⟩:=N.len
  refine ⟨⟨ro,(a5,.cells #[.int .i64 a.spot.aG,.int .i64 a.spot.high.num,.int .i64 a.spot.high.den,.int .i64 a.at_,.int .i64 a.high.num,.int .i64 a.high.den] 94)::(H,.cells #[.int .i64 d.place,.int .i64 e.num,.int .i64 e.den] 92)::(E,.cells #[.int .i64 d.place,.int .i64 d.cX] 146)::(s,.cells #[.int .i64 b.back,.int .i64 b.high] 90)::(q,bl u0 s1 (sl (some C) u0.props o) f g)::a7⟩,Le.refl _,?_⟩
  refine aC ?_
  try simp only[*,go_sem]
  have ea:=b9 (n:=i38) (by have:=Q;omega)
  refine ag hJ ?_
  simp only[*,go_sem]
  refine ⟨u0.props.length - (i38+1),by omega,_,Le.sub (List.Sublist.cons _ (List.Sublist.cons _ (List.Sublist.cons _ (List.Sublist.refl _)))),i38+1,d83,e1,a7,ed,rfl,by omega,W,rfl,N,e3,?_⟩
  simp only[*,go_sem]
 have hc:=Nat.not_lt.2 V
 refine bK hJ (by simp only[*,go_sem]) ?_
 rw[List.drop_eq_nil_of_le V] at i
 obtain rfl:=sI i;clear i
 have h:=br
 dsimp only[aK] at h
 obtain rfl:=sI h
 refine bR ?_
 simp only[go_sem]
 refine aa hJ ?_
 refine aL hJ fun hf=>?_
 refine ag hJ ?_
 simp only[*,go_sem]
 refine aL hJ fun a8=>?_
 obtain ⟨hg,fa,fb,a9,fg⟩:=u.eC [(s,.cells #[.int .i64 b.back,.int .i64 b.high] 90),(q,bl u0 s1 (sl d10 u0.props o) f g)] [] a8 (aA.cons bk (aA.cons bc (aA.nil _)))
 clear a8
 refine cM hJ fg ?_
 obtain ⟨hh,hi,-⟩:=a9.op
 simp only[bg] at fb
 refine av ?_
 simp only[*,go_sem]
 exact ⟨_,fa,Le.sub (List.nil_sublist _),_,rfl,a9⟩
def kX (i54:Nat)(a:bq)(st:ak):Option (Fl ak ak):=
 ah (gw eg st ([a.high])) fun b=>some (.nx b)
def kY (i100:Nat)(a:bq)(st:ak):Option (Fl ak ak):=
 ah (gw eg st ([a.high])) fun b=>some (.nx b)
def jT (u0:an)(a:aP):Option ak:=
 ah (fq u0.bJ) fun b=>ah (jR u0 a) fun c=>ah (eg c.high b) fun d=>cond (d) (ah (iC u0 a) fun e=>ah (bB (kX) 0 e c.high) fun o=>aK o (fun f=>ah (iB b f) fun g=>ah (fq 0) fun h=>ah (gw eg g ([h])) fun i=>some i) (fun _ _=>none) (fun r=>some r)) (ah (iC u0 a) fun j=>ah (bB (kY) 0 j b) fun o=>aK o (fun k=>ah (iB c.high k) fun l=>ah (fq 0) fun m=>ah (gw eg l ([m])) fun n=>some n) (fun _ _=>none) (fun r=>some r))
theorem qg {ro:Addr->Option Value}(u0:an){s1 p q s:Value}(t:bx ro u0 s1 p q s)(a:aP){r:ak}(h:jT u0 a=some r):ay Tryz.prog 69 #[bv u0 s1 p q s,.agg #[.int .i64 a.back,.int .i64 a.high]] ⟨ro,[]⟩ (fun v _=>v=r.v):=by
 unfold jT at h
 refine ay.go Tryz.func69 rfl Tryz.ntmps69 Tryz.results69 (by simp) fun main J hJ A O hd hs=>?_
 have P:=hs 0
 have k1:=hs 1
 clear hs
 refine aa hJ (ag hJ ?_)
 simp only[*,go_sem]
 refine au fun D fu al=>?_;try simp only[aj] at al
 refine au fun E fv ao=>?_;try simp only[aj] at ao
 refine au fun G fw ar=>?_;try simp only[aj] at ar
 try simp only[*,go_sem]
 refine aa hJ ?_
 refine pO hJ mixed 8 ⟨ro,[(G,rt 0 0),(E,.cells #[.int .i64 a.back,.int .i64 a.high] 90),(D,bl u0 s1 p q s)]⟩ (by simp only[*,go_sem]) (by kernel_rfl) 23 rfl sC ?_
 revert h;refine bS fun u a0 h=>?_
 simp only[*,go_sem]
 refine ⟨_,bu hJ fun F Q=>iz u0.bJ a0,b6 ?_⟩
 revert h;refine bS fun w a2 h=>?_
 try simp only[*,go_sem]
 refine ⟨_,bu hJ fun F Q=>qf u0 (t.mono (bM Q)) a a2,b6 ?_⟩
 try simp only[*,go_sem]
 refine au fun R fx a3=>?_;try simp only[aj] at a3
 try simp only[*,go_sem]
 refine au fun S gg a4=>?_;try simp only[aj] at a4
 try simp only[*,go_sem]
 refine aa hJ (aa hJ (ag hJ ?_))
 revert h;refine bS fun gl a5 h=>?_
 simp only[*,go_sem]
 refine aJ hJ _ (g5 w.high u a5) ?_
 try simp only[*,go_sem]
 revert h;refine jC hJ (by simp only[*,go_sem]) (fun a6 h=>?_) fun a6 h=>?_
 ·refine ag hJ ?_
  simp only[*,go_sem]
  refine aa hJ (aa hJ (ag hJ ?_))
  revert h;refine bS fun b a7 h=>?_
  simp only[*,go_sem]
  refine bX hJ _ (s6 u0 t a a7) fun v a8 a9 ba H=>?_
  obtain ⟨gn,rfl,T⟩:=H
  replace t:=t.mono a9
  simp only[bg] at ba
  obtain ⟨d48,gp,rfl,gB,bb,-⟩:=id T
  refine aC ?_
  try simp only[*,go_sem]
  refine aU hJ ?_
  revert h;refine bS fun bc c bd=>?_
  refine bU hJ [8,26,27,28,29,30,31,32,33,34,35] (fun m I F'=>∃(i54:Nat) (l:ak),m=b.length - i54/\i54<=b.length/\bB (kX) i54 (b.drop i54) l=some bc/\F'=⟨a8,(S,rt u.num u.den)::(R,rt l.num l.den)::(G,rt 0 0)::(E,.cells #[.int .i64 a.back,.int .i64 a.high] 90)::(D,bl u0 s1 p q s)::[]⟩/\slot I 26= .int .i64 (i54:Int)) b.length ?_ ?_
  ·refine ⟨0,w.high,(Nat.sub_zero _).symm,Nat.zero_le _,c,rfl,?_⟩
   simp only[*,go_sem]
  rintro gC gM F' U ⟨i54,l,rfl,gT,c,rfl,gV⟩
  obtain ⟨bj,bk,bm⟩:=U.pick [4,5,6,24,25] (by decide)
  simp only[*,go_sem] at bj bk bm
  clear U O hd P k1
  refine aa hJ (ag hJ ?_)
  simp only[*,go_sem]
  refine aa hJ ?_
  rcases Nat.lt_or_ge i54 b.length with bo|V
  ·refine bD hJ (by simp only[*,go_sem]) ?_
   refine aE hJ ?_
   obtain ⟨y,K⟩:∃x,b[i54]?=some x:=⟨_,List.getElem?_eq_getElem bo⟩
   rw[cN K] at c
   revert c;refine bS fun g0 h br=>?_
   unfold kX at h
   try dsimp only at h
   obtain ⟨g1,bs,bz,b0,d⟩:=T.el _ _ K
   obtain rfl:bs=y.cells:=b0
   cases bz
   have b1:=d 0 _ rfl;simp only[go_sem] at b1
   have b2:=d 1 _ rfl;simp only[go_sem] at b2
   have b3:=d 2 _ rfl;simp only[go_sem] at b3
   have b4:=d 3 _ rfl;simp only[go_sem] at b4
   have b5:=d 4 _ rfl;simp only[go_sem] at b5
   have ca:=d 5 _ rfl;simp only[go_sem] at ca
   clear d K
   refine aa hJ (aU hJ (aa hJ ?_))
   refine ag hJ ?_
   simp only[*,go_sem]
   refine au fun g2 g3 cb=>?_;try simp only[aj] at cb
   try simp only[*,go_sem]
   refine aL hJ fun cd=>?_
   refine ag hJ ?_
   revert h;refine bS fun cf cl h=>?_
   obtain rfl:=sI h
   simp only[*,go_sem]
   refine au fun g4 cy W=>?_;have ha:=aM.cons W cd;try simp only[aj] at W
   try simp only[*,go_sem]
   refine aJ hJ _ (lW (dj:=78) (dJ:=#[]) (dK:=#[]) eg ⟨by simp only[go_sem],fun L M f g _ h=>by simp only[go_sem];exact g5 f g h⟩ l ([y.high]) ((az.flat (r:=jO) (e:=23) (cs:=#[.int .i64 y.high.num,.int .i64 y.high.den]) ak.cells ([y.high]) (fun _=>rfl) cy rfl (by simp)).mono (iV (by simp only[*,go_sem]))) cl) (aC ?_)
   try simp only[*,go_sem]
   have hc:=b9 (n:=i54) (by have:=bb;omega)
   refine ag hJ ?_
   simp only[*,go_sem]
   refine ⟨b.length - (i54+1),by omega,_,Le.sub (List.Sublist.cons _ (List.Sublist.cons _ (List.Sublist.refl _))),i54+1,cf,rfl,by omega,br,rfl,?_⟩
   simp only[*,go_sem]
  have hf:=Nat.not_lt.2 V
  refine bK hJ (by simp only[*,go_sem]) ?_
  rw[List.drop_eq_nil_of_le V] at c
  obtain rfl:=sI c;clear c
  have h:=bd
  dsimp only[aK] at h
  refine bR ?_
  simp only[go_sem]
  refine aa hJ ?_
  refine aL hJ fun cS=>?_
  refine ag hJ ?_
  revert h;refine bS fun c0 da h=>?_
  simp only[*,go_sem]
  refine aJ hJ _ (n5 u l da) (aC ?_)
  revert h;refine bS fun B db h=>?_
  try simp only[*,go_sem]
  refine aJ hJ _ (iz 0 db) (aC ?_)
  revert h;refine bS fun hg dd h=>?_
  obtain rfl:=sI h
  try simp only[*,go_sem]
  refine au fun hh df X=>?_;have hi:=aM.cons X cS;try simp only[aj] at X
  try simp only[*,go_sem]
  refine aJ hJ _ (lW (dj:=78) (dJ:=#[]) (dK:=#[]) eg ⟨by simp only[go_sem],fun L M f g _ h=>by simp only[go_sem];exact g5 f g h⟩ c0 ([B]) ((az.flat (r:=jO) (e:=23) (cs:=#[.int .i64 B.num,.int .i64 B.den]) ak.cells ([B]) (fun _=>rfl) df rfl (by simp)).mono (iV (by simp only[*,go_sem]))) dd) (aC ?_)
  try simp only[*,go_sem]
  refine av ?_
  simp only[*,go_sem]
 refine aE hJ (aa hJ ?_)
 refine aa hJ (ag hJ ?_)
 revert h;refine bS fun i dk h=>?_
 simp only[*,go_sem]
 refine bX hJ _ (s6 u0 t a dk) fun v dp hj dq H=>?_
 obtain ⟨hk,rfl,Y⟩:=H
 simp only[bg] at dq
 obtain ⟨d94,hl,rfl,hn,ds,-⟩:=id Y
 refine aC ?_
 try simp only[*,go_sem]
 refine aU hJ ?_
 revert h;refine bS fun dt j du=>?_
 refine bU hJ [8,26,27,28,29,30,31,32,33,34,35] (fun m I F'=>∃(i100:Nat) (o:ak),m=i.length - i100/\i100<=i.length/\bB (kY) i100 (i.drop i100) o=some dt/\F'=⟨dp,(S,rt w.high.num w.high.den)::(R,rt o.num o.den)::(G,rt 0 0)::(E,.cells #[.int .i64 a.back,.int .i64 a.high] 90)::(D,bl u0 s1 p q s)::[]⟩/\slot I 26= .int .i64 (i100:Int)) i.length ?_ ?_
 ·refine ⟨0,u,(Nat.sub_zero _).symm,Nat.zero_le _,j,rfl,?_⟩
  simp only[*,go_sem]
 rintro ho hp F' Z ⟨i100,o,rfl,hq,j,rfl,hr⟩
 obtain ⟨dv,dC,dE⟩:=Z.pick [4,5,6,24,25] (by decide)
 simp only[*,go_sem] at dv dC dE
 clear Z O hd P k1
 refine aa hJ (ag hJ ?_)
 simp only[*,go_sem]
 refine aa hJ ?_
 rcases Nat.lt_or_ge i100 i.length with dT|ab
 ·refine bD hJ (by simp only[*,go_sem]) ?_
  refine aE hJ ?_
  obtain ⟨z,N⟩:∃x,i[i100]?=some x:=⟨_,List.getElem?_eq_getElem dT⟩
  rw[cN N] at j
  revert j;refine bS fun ht h ea=>?_
  unfold kY at h
  try dsimp only at h
  obtain ⟨hv,eb,ec,ed,k⟩:=Y.el _ _ N
  obtain rfl:eb=z.cells:=ed
  cases ec
  have eh:=k 0 _ rfl;simp only[go_sem] at eh
  have et:=k 1 _ rfl;simp only[go_sem] at et
  have ev:=k 2 _ rfl;simp only[go_sem] at ev
  have eQ:=k 3 _ rfl;simp only[go_sem] at eQ
  have eS:=k 4 _ rfl;simp only[go_sem] at eS
  have e0:=k 5 _ rfl;simp only[go_sem] at e0
  clear k N
  refine aa hJ (aU hJ (aa hJ ?_))
  refine ag hJ ?_
  simp only[*,go_sem]
  refine au fun hx hy e1=>?_;try simp only[aj] at e1
  try simp only[*,go_sem]
  refine aL hJ fun e2=>?_
  refine ag hJ ?_
  revert h;refine bS fun e3 fa h=>?_
  obtain rfl:=sI h
  simp only[*,go_sem]
  refine au fun hz fb ad=>?_;have hA:=aM.cons ad e2;try simp only[aj] at ad
  try simp only[*,go_sem]
  refine aJ hJ _ (lW (dj:=78) (dJ:=#[]) (dK:=#[]) eg ⟨by simp only[go_sem],fun L M f g _ h=>by simp only[go_sem];exact g5 f g h⟩ o ([z.high]) ((az.flat (r:=jO) (e:=23) (cs:=#[.int .i64 z.high.num,.int .i64 z.high.den]) ak.cells ([z.high]) (fun _=>rfl) fb rfl (by simp)).mono (iV (by simp only[*,go_sem]))) fa) (aC ?_)
  try simp only[*,go_sem]
  have hB:=b9 (n:=i100) (by have:=ds;omega)
  refine ag hJ ?_
  simp only[*,go_sem]
  refine ⟨i.length - (i100+1),by omega,_,Le.sub (List.Sublist.cons _ (List.Sublist.cons _ (List.Sublist.refl _))),i100+1,e3,rfl,by omega,ea,rfl,?_⟩
  simp only[*,go_sem]
 have hD:=Nat.not_lt.2 ab
 refine bK hJ (by simp only[*,go_sem]) ?_
 rw[List.drop_eq_nil_of_le ab] at j
 obtain rfl:=sI j;clear j
 have h:=du
 dsimp only[aK] at h
 refine bR ?_
 simp only[go_sem]
 refine aa hJ ?_
 refine aL hJ fun fg=>?_
 refine ag hJ ?_
 revert h;refine bS fun fi fp h=>?_
 simp only[*,go_sem]
 refine aJ hJ _ (n5 w.high o fp) (aC ?_)
 revert h;refine bS fun C fr h=>?_
 try simp only[*,go_sem]
 refine aJ hJ _ (iz 0 fr) (aC ?_)
 revert h;refine bS fun hE fs h=>?_
 obtain rfl:=sI h
 try simp only[*,go_sem]
 refine au fun hF ft ae=>?_;have hG:=aM.cons ae fg;try simp only[aj] at ae
 try simp only[*,go_sem]
 refine aJ hJ _ (lW (dj:=78) (dJ:=#[]) (dK:=#[]) eg ⟨by simp only[go_sem],fun L M f g _ h=>by simp only[go_sem];exact g5 f g h⟩ fi ([C]) ((az.flat (r:=jO) (e:=23) (cs:=#[.int .i64 C.num,.int .i64 C.den]) ak.cells ([C]) (fun _=>rfl) ft rfl (by simp)).mono (iV (by simp only[*,go_sem]))) fs) (aC ?_)
 try simp only[*,go_sem]
 refine av ?_
 simp only[*,go_sem]
def gx (u0:an)(a:aP):Option Bool:=
 ah (jT u0 a) fun b=>ah (eg u0.aT b) fun c=>some c
theorem kZ {ro:Addr->Option Value}(u0:an){s1 b c d:Value}(f:bx ro u0 s1 b c d)(a:aP){r:Bool}(h:gx u0 a=some r):ay Tryz.prog 70 #[bv u0 s1 b c d,.agg #[.int .i64 a.back,.int .i64 a.high]] ⟨ro,[]⟩ (fun v _=>v= .bool r):=by
 unfold gx at h
 refine ay.go Tryz.func70 rfl Tryz.ntmps70 Tryz.results70 (by simp) fun main J hJ A m hd hs=>?_
 have n:=hs 0
 have k1:=hs 1
 clear hs
 refine aa hJ (ag hJ ?_)
 simp only[*,go_sem]
 refine au fun o p g=>?_;try simp only[aj] at g
 refine au fun q s i=>?_;try simp only[aj] at i
 try simp only[*,go_sem]
 refine aa hJ ?_
 refine dc hJ mixed 8 2 (by simp only[*,go_sem]) (by kernel_rfl) ?_
 revert h;refine bS fun j k h=>?_
 simp only[*,go_sem]
 refine ⟨_,bu hJ fun F e=>qg u0 (f.mono (bM e)) a k,b6 ?_⟩
 revert h;refine bS fun t l h=>?_
 obtain rfl:=sI h
 try simp only[*,go_sem]
 refine ⟨_,bu hJ fun F e=>g5 u0.aT j l,b6 ?_⟩
 try simp only[*,go_sem]
 refine av ?_
 simp only[*,go_sem]
def s7 (u0:((List Int)->(List Int)->Option Bool))(i22:Nat)(a:(List Int))(st:(List Int)):Option (Fl (List Int) (List Int)):=
 ah (u0 st a) fun b=>cond (b) (some (.nx a)) (some (.nx st))
def s8 (u0:((List Int)->(List Int)->Option Bool))(a:(List Int))(b:(List (List Int))):Option (List Int):=
 ah (bB (s7 u0) 0 b a) fun o=>aK o (fun c=>some c) (fun _ _=>none) (fun r=>some r)
theorem CS {ro:Addr->Option Value}(u0:((List Int)->(List Int)->Option Bool)){dj:FuncId}{dJ dK:Array Value}(G:aD Tryz.prog dj=true/\∀(aH:Addr->Option Value),Ext ro aH->∀(k:(List Int)) (l:Value) (o:(List Int)) (p:Value) (z:Bool),az rI aH l k->az rI aH p o->u0 k o=some z->ay Tryz.prog dj (dJ++#[l,p]++dK) ⟨aH,[]⟩ (fun v _=>v= .bool z))(g:(List Int)){s1:Value}(q:az rI ro s1 g)(b:(List (List Int))){s:Value}(t:az (rL rI) ro s b){r:(List Int)}(h:s8 u0 g b=some r):en Tryz.prog 93 #[.func (.func dj) dJ dK,s1,s] ro (fun v aH=>∃u,v=u/\az rI aH u r):=by
 obtain ⟨d3,c4,rfl,Y,Z,-⟩:=id q
 obtain ⟨d10,ab,rfl,ad,w,-⟩:=id t
 unfold s8 at h
 refine ay.go Tryz.func93 rfl Tryz.ntmps93 Tryz.results93 (by simp) fun main J hJ A H hd hs=>?_
 have I:=hs 0
 have k1:=hs 1
 have K:=hs 2
 clear hs
 refine aa hJ (ag hJ ?_)
 simp only[*,go_sem]
 refine aa hJ (aa hJ (ag hJ ?_))
 simp only[*,go_sem]
 refine aU hJ ?_
 revert h;refine bS fun L c M=>?_
 refine bU hJ [1,8,11,12,13,14,15,16,17,18,19,20] (fun m y F'=>∃(i22:Nat) (d16:Option Addr) (e:Nat) (d:(List Int)),m=b.length - i22/\i22<=b.length/\bB (s7 u0) i22 (b.drop i22) d=some L/\F'=⟨ro,[]⟩/\az rI ro (.slice d16 d.length e) d/\slot y 11= .int .i64 (i22:Int)/\slot y 1= .slice d16 d.length e) b.length ?_ ?_
 ·refine ⟨0,d3,c4,g,(Nat.sub_zero _).symm,Nat.zero_le _,c,rfl,q,?_⟩
  simp only[*,go_sem]
 rintro ae al F' B ⟨i22,d16,e,d,rfl,ao,c,rfl,f,ar,a0⟩
 obtain ⟨a2,a3,-⟩:=f.op
 obtain ⟨N,O,P⟩:=B.pick [0,6,9,10] (by decide)
 simp only[*,go_sem] at N O P
 clear B H hd I k1 K
 refine aa hJ (ag hJ ?_)
 simp only[*,go_sem]
 refine aa hJ ?_
 rcases Nat.lt_or_ge i22 b.length with Q|C
 ·refine bD hJ (by simp only[*,go_sem]) ?_
  refine aE hJ ?_
  obtain ⟨D,i⟩:∃x,b[i22]?=some x:=⟨_,List.getElem?_eq_getElem Q⟩
  rw[cN i] at c
  revert c;refine bS fun a4 h E=>?_
  unfold s7 at h
  try dsimp only at h
  obtain ⟨a5,a6,R,S,F⟩:=t.el _ _ i
  obtain ⟨a7,rfl,j⟩:=S;obtain ⟨d31,T,rfl,a8,a9,ba⟩:=id j
  cases R
  have U:=F 0 _ rfl;simp only[go_sem] at U
  clear F i
  refine aa hJ (aU hJ (aa hJ ?_))
  refine ag hJ ?_
  simp only[*,go_sem]
  refine aa hJ (ag hJ ?_)
  revert h;refine bS fun bb V h=>?_
  simp only[*,go_sem]
  refine aJ hJ _ (G.2 _ (fun a v h=>aI a v h) d _ D _ _ (f.mono aI) (j.mono aI) V) ?_
  try simp only[*,go_sem]
  revert h;refine jC hJ (by simp only[*,go_sem]) (fun W h=>?_) fun W h=>?_
  ·obtain rfl:=sI h
   refine ag hJ ?_
   simp only[*,go_sem]
   have X:=b9 (n:=i22) (by have:=w;omega)
   refine ag hJ ?_
   simp only[*,go_sem]
   refine ⟨b.length - (i22+1),by omega,_,Le.sub (List.Sublist.refl _),i22+1,d31,T,D,rfl,by omega,E,rfl,j,?_⟩
   simp only[*,go_sem]
  obtain rfl:=sI h
  refine aE hJ ?_
  have X:=b9 (n:=i22) (by have:=w;omega)
  refine ag hJ ?_
  simp only[*,go_sem]
  refine ⟨b.length - (i22+1),by omega,_,Le.sub (List.Sublist.refl _),i22+1,d16,e,d,rfl,by omega,E,rfl,f,?_⟩
  simp only[*,go_sem]
 have bc:=Nat.not_lt.2 C
 refine bK hJ (by simp only[*,go_sem]) ?_
 rw[List.drop_eq_nil_of_le C] at c
 obtain rfl:=sI c;clear c
 have h:=M
 dsimp only[aK] at h
 obtain rfl:=sI h
 refine bR ?_
 simp only[go_sem]
 refine aa hJ (ag hJ ?_)
 simp only[*,go_sem]
 refine av ?_
 simp only[*,go_sem]
 exact ⟨_,Ext.refl _,Le.sub (List.nil_sublist _),_,rfl,f⟩
def s9 (u0:(List Int))(a:(List Int))(st:(Bool×Int)):Option (Fl (Bool×Int) Bool):=
 cond (decide (st.2<(u0.length:Int))) (ah (bL u0 st.2) fun b=>ah (bL a st.2) fun c=>cond ((b != c)) (some (.rt false)) (some (.nx (st.1,(IntKind.i64.wrap (st.2+1)))))) (some (.bk (st.1,st.2)))
def ta (u0:(List Int))(a:(List Int)):Option Bool:=
 cond (((u0.length:Int) != (a.length:Int))) (some false) (ah (bE (s9 u0 a) fu (false,0)) fun o=>aK o (fun b=>some true) (fun _ _=>none) (fun r=>some r))
theorem CU {ro:Addr->Option Value}(u0:(List Int)){s1:Value}(g:az rI ro s1 u0)(e:(List Int)){i:Value}(j:az rI ro i e){r:Bool}(h:ta u0 e=some r):ay Tryz.prog 24 #[s1,i] ⟨ro,[]⟩ (fun v _=>v= .bool r):=by
 obtain ⟨d3,c4,rfl,R,S,-⟩:=id g
 obtain ⟨d10,T,rfl,U,V,-⟩:=id j
 unfold ta at h
 refine ay.go Tryz.func24 rfl Tryz.ntmps24 Tryz.results24 (by simp) fun main J hJ A t hd hs=>?_
 have u:=hs 0
 have k1:=hs 1
 clear hs
 refine aa hJ (ag hJ ?_)
 simp only[*,go_sem]
 refine aa hJ (aa hJ (ag hJ ?_))
 simp only[*,go_sem]
 revert h;refine jC hJ (by simp only[*,go_sem]) (fun w h=>?_) fun w h=>?_
 ·obtain rfl:=sI h
  refine aa hJ (ag hJ ?_)
  simp only[*,go_sem]
  refine av ?_
  simp only[*,go_sem]
 refine aE hJ (aa hJ ?_)
 refine aa hJ (ag hJ ?_)
 simp only[*,go_sem]
 refine aU hJ ?_
 revert h;refine bS fun x b k=>?_
 refine bU hJ [4,5,11,12,13,14,15,16,17,18,19,20,21,22,23,24,25] (fun m l F'=>∃(c:Bool) (d:Int),bE (s9 u0 e) m (c,d)=some x/\F'=⟨ro,[]⟩/\slot l 4= .bool c/\slot l 5= .int .i64 d) fu ?_ ?_
 ·refine ⟨false,0,b,rfl,?_⟩
  simp only[*,go_sem]
 rintro f W F' n ⟨c,d,b,rfl,X,Y⟩
 obtain ⟨y,z,B⟩:=n.pick [0,1] (by decide)
 simp only[*,go_sem] at y z B
 clear n t hd u k1
 obtain _|f:=f
 ·exact absurd b (by simp only[bE,reduceCtorEq,not_false_eq_true])
 revert b;refine bS fun Z h a=>?_
 unfold s9 at h
 try dsimp only at h
 refine aa hJ (aa hJ (ag hJ ?_))
 simp only[*,go_sem]
 revert h;refine jC hJ (by simp only[*,go_sem]) (fun C h=>?_) fun C h=>?_
 ·refine aE hJ (aa hJ ?_)
  refine aU hJ (aa hJ ?_)
  refine dc hJ mixed 9 0 (by simp only[*,go_sem]) (by kernel_rfl) ?_
  revert h;refine bS fun D E h=>?_
  obtain ⟨ab,ad,o⟩:=cJ E
  obtain ⟨ae,F,G,H,p⟩:=g.el _ _ o
  obtain rfl:F=[.int .i64 D]:=H
  cases G
  have I:=p 0 _ rfl;simp only[go_sem] at I
  clear p o
  revert h;refine bS fun K L h=>?_
  obtain ⟨al,ao,q⟩:=cJ L
  obtain ⟨ar,M,N,O,s⟩:=j.el _ _ q
  obtain rfl:M=[.int .i64 K]:=O
  cases N
  have P:=s 0 _ rfl;simp only[go_sem] at P
  clear s q
  try simp only[*,go_sem]
  revert h;refine jC hJ (by simp only[*,go_sem]) (fun Q h=>?_) fun Q h=>?_
  ·obtain rfl:=sI h
   refine aa hJ (ag hJ ?_)
   simp only[*,go_sem]
   obtain rfl:=sI a;clear a
   have h:=k
   dsimp only[aK] at h
   obtain rfl:=sI h
   refine av ?_
   simp only[*,go_sem]
  obtain rfl:=sI h
  refine aE hJ (ag hJ ?_)
  simp only[*,go_sem]
  refine ⟨f,Nat.lt_succ_self _,_,Le.sub (List.Sublist.refl _),c,(IntKind.i64.wrap (d+1)),a,rfl,?_⟩
  simp only[*,go_sem]
 obtain rfl:=sI h
 refine bR ?_
 simp only[go_sem]
 obtain rfl:=sI a;clear a
 have h:=k
 dsimp only[aK] at h
 obtain rfl:=sI h
 refine aa hJ (ag hJ ?_)
 simp only[*,go_sem]
 refine av ?_
 simp only[*,go_sem]
def k3 (u0:(List Int))(a:(List Int)):Option Bool:=
 ah (ta u0 a) fun b=>some b
theorem oa {ro:Addr->Option Value}(u0:(List Int)){s1:Value}(b:az rI ro s1 u0)(a:(List Int)){c:Value}(d:az rI ro c a){r:Bool}(h:k3 u0 a=some r):ay Tryz.prog 43 #[s1,c] ⟨ro,[]⟩ (fun v _=>v= .bool r):=by
 obtain ⟨d3,c4,rfl,f,g,-⟩:=id b
 obtain ⟨d10,i,rfl,j,k,-⟩:=id d
 unfold k3 at h
 refine ay.go Tryz.func43 rfl Tryz.ntmps43 Tryz.results43 (by simp) fun main J hJ A l hd hs=>?_
 have m:=hs 0
 have k1:=hs 1
 clear hs
 refine aa hJ (ag hJ ?_)
 simp only[*,go_sem]
 refine aa hJ (ag hJ ?_)
 revert h;refine bS fun n e h=>?_
 obtain rfl:=sI h
 simp only[*,go_sem]
 refine aJ hJ _ (CU u0 (b.mono aI) a (d.mono aI) e) (aC ?_)
 try simp only[*,go_sem]
 refine av ?_
 simp only[*,go_sem]
def tc (a:aP)(i10:Nat)(b:aP)(st:Int):Option (Fl Int Int):=
 cond (((a.back==b.back)&&(a.high==b.high))) (some (.rt (i10:Int))) (some (.nx st))
def td (u0:(List aP))(a:aP):Option Int:=
 ah (bB (tc a) 0 u0 0) fun o=>aK o (fun b=>some (-1)) (fun _ _=>none) (fun r=>some r)
theorem CV {ro:Addr->Option Value}(u0:(List aP)){s1:Value}(g:az gZ ro s1 u0)(b:aP){r:Int}(h:td u0 b=some r):ay Tryz.prog 150 #[s1,.agg #[.int .i64 b.back,.int .i64 b.high]] ⟨ro,[]⟩ (fun v _=>v= .int .i64 r):=by
 obtain ⟨d3,c4,rfl,K,o,-⟩:=id g
 unfold td at h
 refine ay.go Tryz.func150 rfl Tryz.ntmps150 Tryz.results150 (by simp) fun main J hJ A p hd hs=>?_
 have q:=hs 0
 have k1:=hs 1
 clear hs
 refine aa hJ (ag hJ ?_)
 simp only[*,go_sem]
 refine au fun s L t=>?_;try simp only[aj] at t
 try simp only[*,go_sem]
 refine aa hJ (aa hJ (ag hJ ?_))
 simp only[*,go_sem]
 refine aU hJ ?_
 revert h;refine bS fun u a i=>?_
 refine bU hJ [4,5,8,9,10,11,12,13,14,15,16,17,18] (fun m j F'=>∃(i10:Nat) (c:Int),m=u0.length - i10/\i10<=u0.length/\bB (tc b) i10 (u0.drop i10) c=some u/\F'=⟨ro,(s,.cells #[.int .i64 b.back,.int .i64 b.high] 90)::[]⟩/\slot j 8= .int .i64 (i10:Int)/\slot j 4= .int .i64 c) u0.length ?_ ?_
 ·refine ⟨0,0,(Nat.sub_zero _).symm,Nat.zero_le _,a,rfl,?_⟩
  simp only[*,go_sem]
 rintro M N F' k ⟨i10,c,rfl,O,a,rfl,P,Q⟩
 obtain ⟨w,y,z⟩:=k.pick [0,3,7] (by decide)
 simp only[*,go_sem] at w y z
 clear k p hd q k1
 refine aa hJ (ag hJ ?_)
 simp only[*,go_sem]
 refine aa hJ ?_
 rcases Nat.lt_or_ge i10 u0.length with B|l
 ·refine bD hJ (by simp only[*,go_sem]) ?_
  refine aE hJ ?_
  obtain ⟨C,d⟩:∃x,u0[i10]?=some x:=⟨_,List.getElem?_eq_getElem B⟩
  rw[cN d] at a
  revert a;refine bS fun R h e=>?_
  unfold tc at h
  try dsimp only at h
  obtain ⟨S,D,E,F,f⟩:=g.el _ _ d
  obtain rfl:D=C.cells:=F
  cases E
  have G:=f 0 _ rfl;simp only[go_sem] at G
  have H:=f 1 _ rfl;simp only[go_sem] at H
  clear f d
  refine aa hJ (aU hJ (aa hJ ?_))
  refine ag hJ ?_
  simp only[*,go_sem]
  refine aa hJ ?_
  refine dc hJ mixed 6 1 (by simp only[*,go_sem]) (by kernel_rfl) ?_
  simp only[*,go_sem]
  revert h;refine jC hJ (by simp only[*,go_sem]) (fun I h=>?_) fun I h=>?_
  ·obtain rfl:=sI h
   refine aa hJ (ag hJ ?_)
   simp only[*,go_sem]
   obtain rfl:=sI e;clear e
   have h:=i
   dsimp only[aK] at h
   obtain rfl:=sI h
   refine av ?_
   simp only[*,go_sem]
  obtain rfl:=sI h
  refine aE hJ ?_
  have T:=b9 (n:=i10) (by have:=o;omega)
  refine ag hJ ?_
  simp only[*,go_sem]
  refine ⟨u0.length - (i10+1),by omega,_,Le.sub (List.Sublist.refl _),i10+1,c,rfl,by omega,e,rfl,?_⟩
  simp only[*,go_sem]
 have U:=Nat.not_lt.2 l
 refine bK hJ (by simp only[*,go_sem]) ?_
 rw[List.drop_eq_nil_of_le l] at a
 obtain rfl:=sI a;clear a
 have h:=i
 dsimp only[aK] at h
 obtain rfl:=sI h
 refine bR ?_
 simp only[go_sem]
 refine aa hJ (ag hJ ?_)
 simp only[*,go_sem]
 refine av ?_
 simp only[*,go_sem]
def tf (u0:(List aP))(a:aP):Option Bool:=
 ah (td u0 a) fun b=>some (decide (0<=b))
theorem CW {ro:Addr->Option Value}(u0:(List aP)){s1:Value}(b:az gZ ro s1 u0)(a:aP){r:Bool}(h:tf u0 a=some r):ay Tryz.prog 127 #[s1,.agg #[.int .i64 a.back,.int .i64 a.high]] ⟨ro,[]⟩ (fun v _=>v= .bool r):=by
 obtain ⟨d3,c4,rfl,e,f,-⟩:=id b
 unfold tf at h
 refine ay.go Tryz.func127 rfl Tryz.ntmps127 Tryz.results127 (by simp) fun main J hJ A g hd hs=>?_
 have i:=hs 0
 have k1:=hs 1
 clear hs
 refine aa hJ (ag hJ ?_)
 simp only[*,go_sem]
 refine au fun j k c=>?_;try simp only[aj] at c
 try simp only[*,go_sem]
 refine aa hJ (ag hJ ?_)
 revert h;refine bS fun l d h=>?_
 obtain rfl:=sI h
 simp only[*,go_sem]
 refine aJ hJ _ (CV u0 (b.mono aI) a d) (aC ?_)
 try simp only[*,go_sem]
 refine av ?_
 simp only[*,go_sem]
def tg (a:(bP->Option Bool))(i9:Nat)(b:bP)(st:Int):Option (Fl Int Int):=
 ah (a b) fun c=>cond (c) (some (.rt (i9:Int))) (some (.nx st))
def th (u0:(List bP))(a:(bP->Option Bool)):Option Int:=
 ah (bB (tg a) 0 u0 0) fun o=>aK o (fun b=>some (-1)) (fun _ _=>none) (fun r=>some r)
theorem CX {ro:Addr->Option Value}(u0:(List bP)){s1:Value}(i:az cO ro s1 u0)(d:(bP->Option Bool)){cY:FuncId}{dD dF:Array Value}(s:aD Tryz.prog cY=true/\∀(aH:Addr->Option Value),Ext ro aH->∀(j:bP) (z:Bool),d j=some z->ay Tryz.prog cY (dD++#[j.v]++dF) ⟨aH,[]⟩ (fun v _=>v= .bool z)){r:Int}(h:th u0 d=some r):ay Tryz.prog 187 #[s1,.func (.func cY) dD dF] ⟨ro,[]⟩ (fun v _=>v= .int .i64 r):=by
 obtain ⟨d3,c4,rfl,N,t,-⟩:=id i
 unfold th at h
 refine ay.go Tryz.func187 rfl Tryz.ntmps187 Tryz.results187 (by simp) fun main J hJ A u hd hs=>?_
 have w:=hs 0
 have k1:=hs 1
 clear hs
 refine aa hJ (ag hJ ?_)
 simp only[*,go_sem]
 refine aa hJ (aa hJ (ag hJ ?_))
 simp only[*,go_sem]
 refine aU hJ ?_
 revert h;refine bS fun y b k=>?_
 refine bU hJ [4,5,8,9,10,11,12,13,14,15,16,17,18] (fun m l F'=>∃(i9:Nat) (c:Int),m=u0.length - i9/\i9<=u0.length/\bB (tg d) i9 (u0.drop i9) c=some y/\F'=⟨ro,[]⟩/\slot l 8= .int .i64 (i9:Int)/\slot l 4= .int .i64 c) u0.length ?_ ?_
 ·refine ⟨0,0,(Nat.sub_zero _).symm,Nat.zero_le _,b,rfl,?_⟩
  simp only[*,go_sem]
 rintro O P F' o ⟨i9,c,rfl,Q,b,rfl,R,S⟩
 obtain ⟨B,C,D⟩:=o.pick [0,1,7] (by decide)
 simp only[*,go_sem] at B C D
 clear o u hd w k1
 refine aa hJ (ag hJ ?_)
 simp only[*,go_sem]
 refine aa hJ ?_
 rcases Nat.lt_or_ge i9 u0.length with E|p
 ·refine bD hJ (by simp only[*,go_sem]) ?_
  refine aE hJ ?_
  obtain ⟨q,e⟩:∃x,u0[i9]?=some x:=⟨_,List.getElem?_eq_getElem E⟩
  rw[cN e] at b
  revert b;refine bS fun T h f=>?_
  unfold tg at h
  try dsimp only at h
  obtain ⟨U,F,G,H,g⟩:=i.el _ _ e
  obtain rfl:F=q.cells:=H
  cases G
  have I:=g 0 _ rfl;simp only[go_sem] at I
  have K:=g 1 _ rfl;simp only[go_sem] at K
  clear g e
  refine aa hJ (aU hJ (aa hJ ?_))
  refine ag hJ ?_
  simp only[*,go_sem]
  refine aa hJ (ag hJ ?_)
  revert h;refine bS fun V L h=>?_
  simp only[*,go_sem]
  refine aJ hJ _ (s.2 _ (fun a v h=>aI a v h) q _ L) ?_
  try simp only[*,go_sem]
  revert h;refine jC hJ (by simp only[*,go_sem]) (fun M h=>?_) fun M h=>?_
  ·obtain rfl:=sI h
   refine aa hJ (ag hJ ?_)
   simp only[*,go_sem]
   obtain rfl:=sI f;clear f
   have h:=k
   dsimp only[aK] at h
   obtain rfl:=sI h
   refine av ?_
   simp only[*,go_sem]
  obtain rfl:=sI h
  refine aE hJ ?_
  have W:=b9 (n:=i9) (by have:=t;omega)
  refine ag hJ ?_
  simp only[*,go_sem]
  refine ⟨u0.length - (i9+1),by omega,_,Le.sub (List.Sublist.refl _),i9+1,c,rfl,by omega,f,rfl,?_⟩
  simp only[*,go_sem]
 have X:=Nat.not_lt.2 p
 refine bK hJ (by simp only[*,go_sem]) ?_
 rw[List.drop_eq_nil_of_le p] at b
 obtain rfl:=sI b;clear b
 have h:=k
 dsimp only[aK] at h
 obtain rfl:=sI h
 refine bR ?_
 simp only[go_sem]
 refine aa hJ (ag hJ ?_)
 simp only[*,go_sem]
 refine av ?_
 simp only[*,go_sem]
def tj (u0:(List bP))(a:(bP->Option Bool)):Option Bool:=
 ah (th u0 a) fun b=>some (decide (0<=b))
theorem CZ {ro:Addr->Option Value}(u0:(List bP)){s1:Value}(b:az cO ro s1 u0)(a:(bP->Option Bool)){cY:FuncId}{dD dF:Array Value}(c:aD Tryz.prog cY=true/\∀(aH:Addr->Option Value),Ext ro aH->∀(d:bP) (z:Bool),a d=some z->ay Tryz.prog cY (dD++#[d.v]++dF) ⟨aH,[]⟩ (fun v _=>v= .bool z)){r:Bool}(h:tj u0 a=some r):ay Tryz.prog 173 #[s1,.func (.func cY) dD dF] ⟨ro,[]⟩ (fun v _=>v= .bool r):=by
 obtain ⟨d3,c4,rfl,g,i,-⟩:=id b
 unfold tj at h
 refine ay.go Tryz.func173 rfl Tryz.ntmps173 Tryz.results173 (by simp) fun main J hJ A j hd hs=>?_
 have k:=hs 0
 have k1:=hs 1
 clear hs
 refine aa hJ (ag hJ ?_)
 simp only[*,go_sem]
 refine aa hJ (ag hJ ?_)
 revert h;refine bS fun l e h=>?_
 obtain rfl:=sI h
 simp only[*,go_sem]
 refine aJ hJ _ (CX (cY:=cY) (dD:=dD) (dF:=dF) u0 (b.mono aI) a ⟨c.1,fun _ f=>c.2 _ (Ext.trans aI f)⟩ e) (aC ?_)
 try simp only[*,go_sem]
 refine av ?_
 simp only[*,go_sem]
def tn (a:(aP->Option Bool))(i9:Nat)(b:aP)(st:Int):Option (Fl Int Int):=
 ah (a b) fun c=>cond (c) (some (.rt (i9:Int))) (some (.nx st))
def tq (u0:(List aP))(a:(aP->Option Bool)):Option Int:=
 ah (bB (tn a) 0 u0 0) fun o=>aK o (fun b=>some (-1)) (fun _ _=>none) (fun r=>some r)
theorem C0 {ro:Addr->Option Value}(u0:(List aP)){s1:Value}(i:az gZ ro s1 u0)(d:(aP->Option Bool)){cY:FuncId}{dD dF:Array Value}(s:aD Tryz.prog cY=true/\∀(aH:Addr->Option Value),Ext ro aH->∀(j:aP) (z:Bool),d j=some z->ay Tryz.prog cY (dD++#[j.v]++dF) ⟨aH,[]⟩ (fun v _=>v= .bool z)){r:Int}(h:tq u0 d=some r):ay Tryz.prog 181 #[s1,.func (.func cY) dD dF] ⟨ro,[]⟩ (fun v _=>v= .int .i64 r):=by
 obtain ⟨d3,c4,rfl,N,t,-⟩:=id i
 unfold tq at h
 refine ay.go Tryz.func181 rfl Tryz.ntmps181 Tryz.results181 (by simp) fun main J hJ A u hd hs=>?_
 have w:=hs 0
 have k1:=hs 1
 clear hs
 refine aa hJ (ag hJ ?_)
 simp only[*,go_sem]
 refine aa hJ (aa hJ (ag hJ ?_))
 simp only[*,go_sem]
 refine aU hJ ?_
 revert h;refine bS fun y b k=>?_
 refine bU hJ [4,5,8,9,10,11,12,13,14,15,16,17,18] (fun m l F'=>∃(i9:Nat) (c:Int),m=u0.length - i9/\i9<=u0.length/\bB (tn d) i9 (u0.drop i9) c=some y/\F'=⟨ro,[]⟩/\slot l 8= .int .i64 (i9:Int)/\slot l 4= .int .i64 c) u0.length ?_ ?_
 ·refine ⟨0,0,(Nat.sub_zero _).symm,Nat.zero_le _,b,rfl,?_⟩
  simp only[*,go_sem]
 rintro O P F' o ⟨i9,c,rfl,Q,b,rfl,R,S⟩
 obtain ⟨B,C,D⟩:=o.pick [0,1,7] (by decide)
 simp only[*,go_sem] at B C D
 clear o u hd w k1
 refine aa hJ (ag hJ ?_)
 simp only[*,go_sem]
 refine aa hJ ?_
 rcases Nat.lt_or_ge i9 u0.length with E|p
 ·refine bD hJ (by simp only[*,go_sem]) ?_
  refine aE hJ ?_
  obtain ⟨q,e⟩:∃x,u0[i9]?=some x:=⟨_,List.getElem?_eq_getElem E⟩
  rw[cN e] at b
  revert b;refine bS fun T h f=>?_
  unfold tn at h
  try dsimp only at h
  obtain ⟨U,F,G,H,g⟩:=i.el _ _ e
  obtain rfl:F=q.cells:=H
  cases G
  have I:=g 0 _ rfl;simp only[go_sem] at I
  have K:=g 1 _ rfl;simp only[go_sem] at K
  clear g e
  refine aa hJ (aU hJ (aa hJ ?_))
  refine ag hJ ?_
  simp only[*,go_sem]
  refine aa hJ (ag hJ ?_)
  revert h;refine bS fun V L h=>?_
  simp only[*,go_sem]
  refine aJ hJ _ (s.2 _ (fun a v h=>aI a v h) q _ L) ?_
  try simp only[*,go_sem]
  revert h;refine jC hJ (by simp only[*,go_sem]) (fun M h=>?_) fun M h=>?_
  ·obtain rfl:=sI h
   refine aa hJ (ag hJ ?_)
   simp only[*,go_sem]
   obtain rfl:=sI f;clear f
   have h:=k
   dsimp only[aK] at h
   obtain rfl:=sI h
   refine av ?_
   simp only[*,go_sem]
  obtain rfl:=sI h
  refine aE hJ ?_
  have W:=b9 (n:=i9) (by have:=t;omega)
  refine ag hJ ?_
  simp only[*,go_sem]
  refine ⟨u0.length - (i9+1),by omega,_,Le.sub (List.Sublist.refl _),i9+1,c,rfl,by omega,f,rfl,?_⟩
  simp only[*,go_sem]
 have X:=Nat.not_lt.2 p
 refine bK hJ (by simp only[*,go_sem]) ?_
 rw[List.drop_eq_nil_of_le p] at b
 obtain rfl:=sI b;clear b
 have h:=k
 dsimp only[aK] at h
 obtain rfl:=sI h
 refine bR ?_
 simp only[go_sem]
 refine aa hJ (ag hJ ?_)
 simp only[*,go_sem]
 refine av ?_
 simp only[*,go_sem]
def tr (u0:(List aP))(a:(aP->Option Bool)):Option Bool:=
 ah (tq u0 a) fun b=>some (decide (0<=b))
theorem C1 {ro:Addr->Option Value}(u0:(List aP)){s1:Value}(b:az gZ ro s1 u0)(a:(aP->Option Bool)){cY:FuncId}{dD dF:Array Value}(c:aD Tryz.prog cY=true/\∀(aH:Addr->Option Value),Ext ro aH->∀(d:aP) (z:Bool),a d=some z->ay Tryz.prog cY (dD++#[d.v]++dF) ⟨aH,[]⟩ (fun v _=>v= .bool z)){r:Bool}(h:tr u0 a=some r):ay Tryz.prog 164 #[s1,.func (.func cY) dD dF] ⟨ro,[]⟩ (fun v _=>v= .bool r):=by
 obtain ⟨d3,c4,rfl,g,i,-⟩:=id b
 unfold tr at h
 refine ay.go Tryz.func164 rfl Tryz.ntmps164 Tryz.results164 (by simp) fun main J hJ A j hd hs=>?_
 have k:=hs 0
 have k1:=hs 1
 clear hs
 refine aa hJ (ag hJ ?_)
 simp only[*,go_sem]
 refine aa hJ (ag hJ ?_)
 revert h;refine bS fun l e h=>?_
 obtain rfl:=sI h
 simp only[*,go_sem]
 refine aJ hJ _ (C0 (cY:=cY) (dD:=dD) (dF:=dF) u0 (b.mono aI) a ⟨c.1,fun _ f=>c.2 _ (Ext.trans aI f)⟩ e) (aC ?_)
 try simp only[*,go_sem]
 refine av ?_
 simp only[*,go_sem]
def tu (a:(aY->Option Bool))(i38:Nat)(b:aY)(st:Int):Option (Fl Int Int):=
 ah (a b) fun c=>cond (c) (some (.nx (IntKind.i64.wrap (st+1)))) (some (.nx st))
def qh (u0:cI)(b:(aY->Option Bool)):Option Int:=
 ah (bB (tu b) 0 u0.all 0) fun o=>aK o (fun a=>cond ((a==(u0.all.length:Int))) (some 1) (cond ((a==0)) (some 2) (some 0))) (fun _ _=>none) (fun r=>some r)
theorem yl {ro:Addr->Option Value}(u0:cI){s1 e f g:Value}(Z:bx ro u0.book s1 e f g){k:Value}(l:az ga ro k u0.all)(i:(aY->Option Bool)){cY:FuncId}{dD dF:Array Value}(y:aD Tryz.prog cY=true/\∀(aH:Addr->Option Value),Ext ro aH->∀(o:aY) (z:Bool),i o=some z->ay Tryz.prog cY (dD++#[o.v]++dF) ⟨aH,[]⟩ (fun v _=>v= .bool z)){r:Int}(h:qh u0 i=some r):ay Tryz.prog 116 #[.agg #[.int .i64 u0.book.bF,.int .i64 u0.book.bJ,.int .i64 u0.book.aT.num,.int .i64 u0.book.aT.den,s1,e,f,g,k],.func (.func cY) dD dF] ⟨ro,[]⟩ (fun v _=>v= .int .i64 r):=by
 obtain ⟨d31,B,rfl,ab,p,-⟩:=id l
 unfold qh at h
 refine ay.go Tryz.func116 rfl Tryz.ntmps116 Tryz.results116 (by simp) fun main J hJ A C hd hs=>?_
 have D:=hs 0
 have k1:=hs 1
 clear hs
 refine aa hJ (ag hJ ?_)
 simp only[*,go_sem]
 refine au fun E ad F=>?_;try simp only[aj] at F
 try simp only[*,go_sem]
 refine aa hJ (ag hJ ?_)
 simp only[*,go_sem]
 refine aa hJ (aa hJ (ag hJ ?_))
 simp only[*,go_sem]
 refine aU hJ ?_
 revert h;refine bS fun G b H=>?_
 refine bU hJ [5,7,11,12,13,14,15,16,17,18,19,20] (fun m q F'=>∃(i38:Nat) (c:Int),m=u0.all.length - i38/\i38<=u0.all.length/\bB (tu i) i38 (u0.all.drop i38) c=some G/\F'=⟨ro,(E,kn u0 s1 e f g (sl d31 u0.all B))::[]⟩/\slot q 11= .int .i64 (i38:Int)/\slot q 5= .int .i64 c) u0.all.length ?_ ?_
 ·refine ⟨0,0,(Nat.sub_zero _).symm,Nat.zero_le _,b,rfl,?_⟩
  simp only[*,go_sem]
 rintro ae al F' s ⟨i38,c,rfl,ao,b,rfl,ar,a0⟩
 obtain ⟨I,K,L⟩:=s.pick [1,2,4,9,10] (by decide)
 simp only[*,go_sem] at I K L
 clear s C hd D k1
 refine aa hJ (ag hJ ?_)
 simp only[*,go_sem]
 refine aa hJ ?_
 rcases Nat.lt_or_ge i38 u0.all.length with M|t
 ·refine bD hJ (by simp only[*,go_sem]) ?_
  refine aE hJ ?_
  obtain ⟨u,j⟩:∃x,u0.all[i38]?=some x:=⟨_,List.getElem?_eq_getElem M⟩
  rw[cN j] at b
  revert b;refine bS fun a2 h w=>?_
  unfold tu at h
  try dsimp only at h
  obtain ⟨a3,N,O,P,d⟩:=l.el _ _ j
  obtain rfl:N=u.cells:=P
  cases O
  have Q:=d 0 _ rfl;simp only[go_sem] at Q
  have R:=d 1 _ rfl;simp only[go_sem] at R
  have S:=d 2 _ rfl;simp only[go_sem] at S
  clear d j
  refine aa hJ (aU hJ (aa hJ ?_))
  refine ag hJ ?_
  simp only[*,go_sem]
  refine au fun a4 a5 T=>?_;try simp only[aj] at T
  try simp only[*,go_sem]
  refine aa hJ (ag hJ ?_)
  revert h;refine bS fun a6 U h=>?_
  simp only[*,go_sem]
  refine aJ hJ _ (y.2 _ (fun a v h=>aI a v h) u _ U) ?_
  try simp only[*,go_sem]
  revert h;refine jC hJ (by simp only[*,go_sem]) (fun V h=>?_) fun V h=>?_
  ·obtain rfl:=sI h
   refine ag hJ ?_
   simp only[*,go_sem]
   have W:=b9 (n:=i38) (by have:=p;omega)
   refine ag hJ ?_
   simp only[*,go_sem]
   refine ⟨u0.all.length - (i38+1),by omega,_,Le.sub (List.Sublist.cons _ (List.Sublist.refl _)),i38+1,(IntKind.i64.wrap (c+1)),rfl,by omega,w,rfl,?_⟩
   simp only[*,go_sem]
  obtain rfl:=sI h
  refine aE hJ ?_
  have W:=b9 (n:=i38) (by have:=p;omega)
  refine ag hJ ?_
  simp only[*,go_sem]
  refine ⟨u0.all.length - (i38+1),by omega,_,Le.sub (List.Sublist.cons _ (List.Sublist.refl _)),i38+1,c,rfl,by omega,w,rfl,?_⟩
  simp only[*,go_sem]
 have a7:=Nat.not_lt.2 t
 refine bK hJ (by simp only[*,go_sem]) ?_
 rw[List.drop_eq_nil_of_le t] at b
 obtain rfl:=sI b;clear b
 have h:=H
 dsimp only[aK] at h
 refine bR ?_
 simp only[go_sem]
 refine aa hJ (aa hJ (ag hJ ?_))
 simp only[*,go_sem]
 refine aU hJ (aa hJ ?_)
 refine ag hJ ?_
 simp only[*,go_sem]
 revert h;refine jC hJ (by simp only[*,go_sem]) (fun X h=>?_) fun X h=>?_
 ·obtain rfl:=sI h
  refine aa hJ (ag hJ ?_)
  simp only[*,go_sem]
  refine av ?_
  simp only[*,go_sem]
 refine aa hJ (ag hJ ?_)
 simp only[*,go_sem]
 revert h;refine jC hJ (by simp only[*,go_sem]) (fun Y h=>?_) fun Y h=>?_
 ·obtain rfl:=sI h
  refine aa hJ (ag hJ ?_)
  simp only[*,go_sem]
  refine av ?_
  simp only[*,go_sem]
 obtain rfl:=sI h
 refine aE hJ (aa hJ ?_)
 refine ag hJ ?_
 simp only[*,go_sem]
 refine av ?_
 simp only[*,go_sem]
def qi (u0:bP)(a:an)(w1:aY):Option Bool:=
 ah (aY.get w1 u0.aX) fun b=>ah (jf a u0.aX b) fun c=>ah (gx a c) fun d=>some (!(d==u0.bn))
theorem C2 {ro:Addr->Option Value}(u0:bP)(a:an){b:Nat}(y:ro ⟨b,0,none⟩=some (.int .i64 a.bF))(z:ro ⟨b,1,none⟩=some (.int .i64 a.bJ))(B:ro ⟨b,2,none⟩=some (.int .i64 a.aT.num))(C:ro ⟨b,3,none⟩=some (.int .i64 a.aT.den)){s1:Value}(e:az eD ro s1 a.aB)(D:ro ⟨b,4,none⟩=some (s1)){j:Value}(f:az dX ro j a.props)(E:ro ⟨b,5,none⟩=some (j)){k:Value}(g:az ew ro k a.aR)(G:ro ⟨b,6,none⟩=some (k)){l:Value}(i:az cO ro l a.told)(H:ro ⟨b,7,none⟩=some (l))(w1:aY){d:Nat}(o:ro ⟨d,0,none⟩=some (.int .i64 w1.e0))(p:ro ⟨d,1,none⟩=some (.int .i64 w1.e1))(q:ro ⟨d,2,none⟩=some (.int .i64 w1.e2)){r:Bool}(h:qi u0 a w1=some r):ay Tryz.prog 174 #[.agg #[.int .i64 u0.aX,.bool u0.bn],.pointer (some ⟨b,0,none⟩),.pointer (some ⟨d,0,none⟩)] ⟨ro,[]⟩ (fun v _=>v= .bool r):=by
 obtain ⟨d3,c4,rfl,I,K,-⟩:=id e
 obtain ⟨d10,L,rfl,M,N,-⟩:=id f
 obtain ⟨d17,O,rfl,P,Q,-⟩:=id g
 obtain ⟨d24,R,rfl,S,T,-⟩:=id i
 unfold qi at h
 refine ay.go Tryz.func174 rfl Tryz.ntmps174 Tryz.results174 (by simp) fun main J hJ A U hd hs=>?_
 have V:=hs 0
 have k1:=hs 1
 have W:=hs 2
 clear hs
 refine aa hJ (ag hJ ?_)
 simp only[*,go_sem]
 refine au fun X Y s=>?_;try simp only[aj] at s
 try simp only[*,go_sem]
 refine aa hJ ?_
 refine dc hJ mixed 14 1 (by simp only[*,go_sem]) (by kernel_rfl) ?_
 revert h;refine bS fun t m h=>?_
 obtain ⟨Z,ab,n⟩:=aY.get_some m;clear n
 have n:=aY.CE m o p q
 revert h;refine bS fun u w h=>?_
 try simp only[*,go_sem]
 refine ⟨_,bu hJ fun F c=>kR a ⟨(e.mono (bM c)),(f.mono (bM c)),(g.mono (bM c)),(i.mono (bM c))⟩ u0.aX t w,b6 ?_⟩
 revert h;refine bS fun ad x h=>?_
 obtain rfl:=sI h
 try simp only[*,go_sem]
 refine ⟨_,bu hJ fun F c=>kZ a ⟨(e.mono (bM c)),(f.mono (bM c)),(g.mono (bM c)),(i.mono (bM c))⟩ u x,b6 ?_⟩
 try simp only[*,go_sem]
 refine av ?_
 simp only[*,go_sem]
def qj (u0:an)(a:aY):Option Bool:=
 ah (tj u0.told (fun b=>qi b u0 a)) fun c=>some (!c)
theorem C3 {ro:Addr->Option Value}(u0:an){s1 f g i:Value}(b:bx ro u0 s1 f g i)(c:aY){r:Bool}(h:qj u0 c=some r):ay Tryz.prog 146 #[bv u0 s1 f g i,.agg #[.int .i64 c.e0,.int .i64 c.e1,.int .i64 c.e2]] ⟨ro,[]⟩ (fun v _=>v= .bool r):=by
 obtain ⟨d3,c4,rfl,q,s,-⟩:=id b.e
 obtain ⟨d10,u,rfl,w,x,-⟩:=id b.p
 obtain ⟨d17,z,rfl,B,C,-⟩:=id b.y
 obtain ⟨d24,D,rfl,E,F,-⟩:=id b.t
 unfold qj at h
 refine ay.go Tryz.func146 rfl Tryz.ntmps146 Tryz.results146 (by simp) fun main J hJ A G hd hs=>?_
 have H:=hs 0
 have k1:=hs 1
 clear hs
 refine aa hJ (ag hJ ?_)
 simp only[*,go_sem]
 refine au fun j I k=>?_;try simp only[aj] at k
 refine au fun l K m=>?_;try simp only[aj] at m
 try simp only[*,go_sem]
 refine aa hJ (ag hJ ?_)
 revert h;refine bS fun L n h=>?_
 obtain rfl:=sI h
 simp only[*,go_sem]
 refine aJ hJ _ (CZ (cY:=174) (dD:=#[]) (dF:=#[.pointer (some ⟨j,0,none⟩),.pointer (some ⟨l,0,none⟩)]) u0.told (b.t.mono aI) (fun d=>qi d u0 c) ⟨by simp only[go_sem],fun M a d N o=>by simp only[go_sem];exact C2 d u0 (a _ _ (by simp only[af.cc,go_sem, *])) (a _ _ (by simp only[af.cc,go_sem, *])) (a _ _ (by simp only[af.cc,go_sem, *])) (a _ _ (by simp only[af.cc,go_sem, *])) ((b.e.mono aI).mono a) (a _ _ (by simp only[af.cc,go_sem, *])) ((b.p.mono aI).mono a) (a _ _ (by simp only[af.cc,go_sem, *])) ((b.y.mono aI).mono a) (a _ _ (by simp only[af.cc,go_sem, *])) ((b.t.mono aI).mono a) (a _ _ (by simp only[af.cc,go_sem, *])) c (a _ _ (by simp only[af.cc,go_sem, *])) (a _ _ (by simp only[af.cc,go_sem, *])) (a _ _ (by simp only[af.cc,go_sem, *])) o⟩ n) (aC ?_)
 try simp only[*,go_sem]
 refine av ?_
 simp only[*,go_sem]
def qk (u0:an)(a:(List aP)):Option Bool:=
 ah (tr a (gx u0)) fun b=>some (!b)
theorem C4 {ro:Addr->Option Value}(u0:an){s1 c d f:Value}(a:bx ro u0 s1 c d f)(g:(List aP)){i:Value}(j:az gZ ro i g){r:Bool}(h:qk u0 g=some r):ay Tryz.prog 133 #[bv u0 s1 c d f,i] ⟨ro,[]⟩ (fun v _=>v= .bool r):=by
 obtain ⟨d31,n,rfl,o,q,-⟩:=id j
 unfold qk at h
 refine ay.go Tryz.func133 rfl Tryz.ntmps133 Tryz.results133 (by simp) fun main J hJ A s hd hs=>?_
 have u:=hs 0
 have k1:=hs 1
 clear hs
 refine aa hJ (ag hJ ?_)
 simp only[*,go_sem]
 refine au fun w x k=>?_;try simp only[aj] at k
 try simp only[*,go_sem]
 refine aa hJ (ag hJ ?_)
 revert h;refine bS fun z l h=>?_
 obtain rfl:=sI h
 simp only[*,go_sem]
 refine aJ hJ _ (C1 (cY:=70) (dD:=#[bv u0 s1 c d f]) (dF:=#[]) g (j.mono aI) (gx u0) ⟨by simp only[go_sem],fun B b m _ h=>by simp only[go_sem];exact kZ u0 ⟨((a.e.mono aI).mono b),((a.p.mono aI).mono b),((a.y.mono aI).mono b),((a.t.mono aI).mono b)⟩ m h⟩ l) (aC ?_)
 try simp only[*,go_sem]
 refine av ?_
 simp only[*,go_sem]
def ql (u0:aY)(a:cI)(w1:Int):Option Bool:=
 ah (aY.get u0 w1) fun b=>ah (jf a.book w1 b) fun c=>ah (gx a.book c) fun d=>some d
theorem C5 {ro:Addr->Option Value}(u0:aY)(a:cI){b:Nat}(x:ro ⟨b,0,none⟩=some (.int .i64 a.book.bF))(y:ro ⟨b,1,none⟩=some (.int .i64 a.book.bJ))(z:ro ⟨b,2,none⟩=some (.int .i64 a.book.aT.num))(B:ro ⟨b,3,none⟩=some (.int .i64 a.book.aT.den)){s1:Value}(d:az eD ro s1 a.book.aB)(C:ro ⟨b,4,none⟩=some (s1)){i:Value}(e:az dX ro i a.book.props)(D:ro ⟨b,5,none⟩=some (i)){j:Value}(f:az ew ro j a.book.aR)(E:ro ⟨b,6,none⟩=some (j)){k:Value}(g:az cO ro k a.book.told)(G:ro ⟨b,7,none⟩=some (k)){l:Value}(n:az ga ro l a.all)(H:ro ⟨b,8,none⟩=some (l))(w1:Int){m:Nat}(I:ro ⟨m,0,none⟩=some (.int .i64 w1)){r:Bool}(h:ql u0 a w1=some r):ay Tryz.prog 117 #[.agg #[.int .i64 u0.e0,.int .i64 u0.e1,.int .i64 u0.e2],.pointer (some ⟨b,0,none⟩),.pointer (some ⟨m,0,none⟩)] ⟨ro,[]⟩ (fun v _=>v= .bool r):=by
 obtain ⟨d3,c4,rfl,K,L,-⟩:=id d
 obtain ⟨d10,M,rfl,N,O,-⟩:=id e
 obtain ⟨d17,P,rfl,Q,R,-⟩:=id f
 obtain ⟨d24,S,rfl,T,U,-⟩:=id g
 obtain ⟨d31,V,rfl,W,X,-⟩:=id n
 unfold ql at h
 refine ay.go Tryz.func117 rfl Tryz.ntmps117 Tryz.results117 (by simp) fun main J hJ A Y hd hs=>?_
 have Z:=hs 0
 have k1:=hs 1
 have ab:=hs 2
 clear hs
 refine aa hJ (ag hJ ?_)
 simp only[*,go_sem]
 refine au fun ad ae o=>?_;try simp only[aj] at o
 try simp only[*,go_sem]
 refine aa hJ ?_
 refine dc hJ mixed 11 1 (by simp only[*,go_sem]) (by kernel_rfl) ?_
 revert h;refine bS fun p q h=>?_
 obtain ⟨al,ao,s⟩:=aY.get_some q
 try simp only[go_sem] at s
 revert h;refine bS fun t u h=>?_
 try simp only[*,go_sem]
 refine ⟨_,bu hJ fun F c=>kR a.book ⟨(d.mono (bM c)),(e.mono (bM c)),(f.mono (bM c)),(g.mono (bM c))⟩ w1 p u,b6 ?_⟩
 revert h;refine bS fun ar w h=>?_
 obtain rfl:=sI h
 try simp only[*,go_sem]
 refine ⟨_,bu hJ fun F c=>kZ a.book ⟨(d.mono (bM c)),(e.mono (bM c)),(f.mono (bM c)),(g.mono (bM c))⟩ t w,b6 ?_⟩
 try simp only[*,go_sem]
 refine av ?_
 simp only[*,go_sem]
def tv (u0:aY)(a:cI)(i38:Nat)(e:cA)(st:Bool):Option (Fl Bool Bool):=
 ah (aY.get u0 (i38:Int)) fun b=>ah (jf a.book (i38:Int) b) fun c=>ah (gx a.book c) fun d=>cond (d) (some (.rt false)) (some (.nx st))
def qm (u0:aY)(a:cI):Option Bool:=
 ah (bB (tv u0 a) 0 a.book.aR false) fun o=>aK o (fun b=>some true) (fun _ _=>none) (fun r=>some r)
theorem C6 {ro:Addr->Option Value}(u0:aY)(a:cI){b:Nat}(ae:ro ⟨b,0,none⟩=some (.int .i64 a.book.bF))(al:ro ⟨b,1,none⟩=some (.int .i64 a.book.bJ))(ao:ro ⟨b,2,none⟩=some (.int .i64 a.book.aT.num))(ar:ro ⟨b,3,none⟩=some (.int .i64 a.book.aT.den)){s1:Value}(i:az eD ro s1 a.book.aB)(a0:ro ⟨b,4,none⟩=some (s1)){p:Value}(j:az dX ro p a.book.props)(a2:ro ⟨b,5,none⟩=some (p)){q:Value}(e:az ew ro q a.book.aR)(a3:ro ⟨b,6,none⟩=some (q)){s:Value}(k:az cO ro s a.book.told)(a4:ro ⟨b,7,none⟩=some (s)){t:Value}(B:az ga ro t a.all)(a5:ro ⟨b,8,none⟩=some (t)){r:Bool}(h:qm u0 a=some r):ay Tryz.prog 118 #[.agg #[.int .i64 u0.e0,.int .i64 u0.e1,.int .i64 u0.e2],.pointer (some ⟨b,0,none⟩)] ⟨ro,[]⟩ (fun v _=>v= .bool r):=by
 obtain ⟨d3,c4,rfl,a6,a7,-⟩:=id i
 obtain ⟨d10,a8,rfl,a9,ba,-⟩:=id j
 obtain ⟨d17,bb,rfl,bc,C,-⟩:=id e
 obtain ⟨d24,bd,rfl,bj,bk,-⟩:=id k
 obtain ⟨d31,bl,rfl,bm,bo,-⟩:=id B
 unfold qm at h
 refine ay.go Tryz.func118 rfl Tryz.ntmps118 Tryz.results118 (by simp) fun main J hJ A D hd hs=>?_
 have E:=hs 0
 have k1:=hs 1
 clear hs
 refine aa hJ (ag hJ ?_)
 simp only[*,go_sem]
 refine au fun G br H=>?_;try simp only[aj] at H
 try simp only[*,go_sem]
 refine aa hJ (aa hJ (ag hJ ?_))
 simp only[*,go_sem]
 refine aU hJ ?_
 revert h;refine bS fun I d u=>?_
 refine bU hJ [3,4,10,11,12,13,14,15,16,17,18,19,20,21,22,23] (fun m w F'=>∃(i38:Nat) (f:Bool),m=a.book.aR.length - i38/\i38<=a.book.aR.length/\bB (tv u0 a) i38 (a.book.aR.drop i38) f=some I/\F'=⟨ro,(G,.cells #[.int .i64 u0.e0,.int .i64 u0.e1,.int .i64 u0.e2] 141)::[]⟩/\slot w 10= .int .i64 (i38:Int)/\slot w 3= .bool f) a.book.aR.length ?_ ?_
 ·refine ⟨0,false,(Nat.sub_zero _).symm,Nat.zero_le _,d,rfl,?_⟩
  simp only[*,go_sem]
 rintro bs bz F' y ⟨i38,f,rfl,b0,d,rfl,b1,b2⟩
 obtain ⟨K,L,M⟩:=y.pick [1,2,9] (by decide)
 simp only[*,go_sem] at K L M
 clear y D hd E k1
 refine aa hJ (ag hJ ?_)
 simp only[*,go_sem]
 refine aa hJ ?_
 rcases Nat.lt_or_ge i38 a.book.aR.length with N|z
 ·refine bD hJ (by simp only[*,go_sem]) ?_
  refine aE hJ ?_
  obtain ⟨O,l⟩:∃x,a.book.aR[i38]?=some x:=⟨_,List.getElem?_eq_getElem N⟩
  rw[cN l] at d
  revert d;refine bS fun b3 h o=>?_
  unfold tv at h
  try dsimp only at h
  obtain ⟨b4,P,Q,R,g⟩:=e.el _ _ l
  obtain rfl:P=O.cells:=R
  cases Q
  have S:=g 0 _ rfl;simp only[go_sem] at S
  have T:=g 1 _ rfl;simp only[go_sem] at T
  have U:=g 2 _ rfl;simp only[go_sem] at U
  clear g l
  refine aa hJ (aU hJ (aa hJ ?_))
  refine ag hJ ?_
  simp only[*,go_sem]
  refine aa hJ ?_
  refine dc hJ mixed 10 1 (by simp only[*,go_sem]) (by kernel_rfl) ?_
  revert h;refine bS fun V W h=>?_
  obtain ⟨b5,ca,X⟩:=aY.get_some W
  try simp only[go_sem] at X
  revert h;refine bS fun Y Z h=>?_
  try simp only[*,go_sem]
  refine ⟨_,bu hJ fun F c=>kR a.book ⟨(i.mono (bM c)),(j.mono (bM c)),(e.mono (bM c)),(k.mono (bM c))⟩ (i38:Int) V Z,b6 ?_⟩
  revert h;refine bS fun cb ab h=>?_
  try simp only[*,go_sem]
  refine ⟨_,bu hJ fun F c=>kZ a.book ⟨(i.mono (bM c)),(j.mono (bM c)),(e.mono (bM c)),(k.mono (bM c))⟩ Y ab,?_⟩
  try simp only[*,go_sem]
  revert h;refine jC hJ (by simp only[*,go_sem]) (fun ad h=>?_) fun ad h=>?_
  ·obtain rfl:=sI h
   refine aa hJ (ag hJ ?_)
   simp only[*,go_sem]
   obtain rfl:=sI o;clear o
   have h:=u
   dsimp only[aK] at h
   obtain rfl:=sI h
   refine av ?_
   simp only[*,go_sem]
  obtain rfl:=sI h
  refine aE hJ ?_
  have cd:=b9 (n:=i38) (by have:=C;omega)
  refine ag hJ ?_
  simp only[*,go_sem]
  refine ⟨a.book.aR.length - (i38+1),by omega,_,Le.sub (List.Sublist.refl _),i38+1,f,rfl,by omega,o,rfl,?_⟩
  simp only[*,go_sem]
 have cf:=Nat.not_lt.2 z
 refine bK hJ (by simp only[*,go_sem]) ?_
 rw[List.drop_eq_nil_of_le z] at d
 obtain rfl:=sI d;clear d
 have h:=u
 dsimp only[aK] at h
 obtain rfl:=sI h
 refine bR ?_
 simp only[go_sem]
 refine aa hJ (ag hJ ?_)
 simp only[*,go_sem]
 refine av ?_
 simp only[*,go_sem]
def aY.setAt (h:aY)(i n:Int):Option aY:=if i=0 then some {h with e0:=n} else if i=1 then some {h with e1:=n} else if i=2 then some {h with e2:=n} else none
theorem aY.C7 {h h1:aY}{i n:Int}(e:h.setAt i n=some h1):(i=0/\h1={h with e0:=n})\/(i=1/\h1={h with e1:=n})\/(i=2/\h1={h with e2:=n}):=by
 unfold aY.setAt at e
 split at e
 ·exact .inl ⟨‹_›,(Option.some.inj e).symm⟩
 ·split at e
  ·exact .inr (.inl ⟨‹_›,(Option.some.inj e).symm⟩)
  ·split at e
   ·exact .inr (.inr ⟨‹_›,(Option.some.inj e).symm⟩)
   ·cases e
def jU (f:aY->List (Option aY)×aY)(i a:Int):Nat->Int->aY->List (Option aY)×aY
 |0,_,h=>([none],h)
 |k+1,n,h=>if n<=a then match h.setAt i n with
   |none=>([none],h)
   |some h1=>((f h1).1++(jU f i a k (IntKind.i64.wrap (n+1)) (f h1).2).1,(jU f i a k (IntKind.i64.wrap (n+1)) (f h1).2).2)
  else ([],h)
def e9 (b:an):Nat->Int->aY->List (Option aY)×aY
 |0,_,h=>([none],h)
 |fuel+1,i,h=>if i=b.aR.length then ((match qj b h with
   |some true=>[some h]
   |some false=>[]
   |none=>[none]),h)
  else match bL b.aR i with
   |none=>([none],h)
   |some e=>jU (e9 b fuel (IntKind.i64.wrap (i+1))) i e.high.high 100 e.high.low h
def mb (b:an):List (Option aY):=(e9 b 5 0 ⟨0,0,0⟩).1
theorem C8 {H σ:Type}{step:σ->H->Option (Bool×σ)}{l l':List (Option H)}{s s':σ}{c:Bool}(h:eB step (l++l') s=some (c,s')):
  (∃s1,eB step l s=some (true,s1)/\eB step l' s1=some (c,s'))\/(eB step l s=some (false,s')/\c=false):=by
 rw[x5] at h
 split at h
 ·rename_i s1 h1;exact .inl ⟨s1,h1,h⟩
 ·rename_i s1 h1;simp only[Option.some.injEq,Prod.mk.injEq] at h;obtain ⟨rfl,rfl⟩:=h;exact .inr ⟨h1,rfl⟩
 ·cases h
theorem ob {H σ:Type}{step:σ->H->Option (Bool×σ)}{s:σ}{r:Bool×σ}(h:eB step [none] s=some r):False:=by cases h
section
variable {ro : Addr → Option Value} {σ : Type} {step : σ → aY → Option (Bool × σ)} {I : σ → List (Nat × Obj) → Prop} {y : Value}
def mc (b:an)(s1 s2 a c y:Value)(b2 b3 b4 b5:Nat)(h:aY):List (Nat×Obj):=
 [(b5,.cells #[.func (.func 145) #[] #[.pointer (some ⟨b2,0,none⟩),.pointer (some ⟨b4,0,none⟩),.pointer (some ⟨b3,0,none⟩),.pointer (some ⟨b5,0,none⟩)]] 161),
  (b4,.cells #[.int .i64 h.e0,.int .i64 h.e1,.int .i64 h.e2] 141),(b3,.cells #[y] 159),
  (b2,.cells #[.int .i64 b.bF,.int .i64 b.bJ,.int .i64 b.aT.num,.int .i64 b.aT.den,s1,s2,a,c] 83)]
theorem C9 (u0:an){s1 s2 w x:Value}(E:az eD ro s1 u0.aB)(F:az dX ro s2 u0.props)(G:az ew ro w u0.aR)(H:az cO ro x u0.told)(U:sV Tryz.prog y aY.v step ro I)
  {b2 b3 b4 b5:Nat} (n1:¬b5=b4) (n2:¬b5=b3) (n3:¬b5=b2) (ba:¬b4=b3) (bb:¬b4=b2) (bc:¬b3=b2) (bd:∀off sp,ro ⟨b5,off,sp⟩=none) (bj:∀off sp,ro ⟨b4,off,sp⟩=none) (bk:∀off sp,ro ⟨b3,off,sp⟩=none) (bl:∀off sp,ro ⟨b2,off,sp⟩=none):
  ∀(fuel:Nat) (i:Int) (h0:aY) (s:σ) (c:Bool) (s':σ),eB step (e9 u0 fuel i h0).1 s=some (c,s')->∀(main:Bool) (J:Goroutine->af->Prop),Closed Tryz.prog main J->∀own,I s own->
   cC Tryz.prog J 145 #[.int .i64 i,.pointer (some ⟨b2,0,none⟩),.pointer (some ⟨b4,0,none⟩),.pointer (some ⟨b3,0,none⟩),.pointer (some ⟨b5,0,none⟩)] ⟨ro,mc u0 s1 s2 w x y b2 b3 b4 b5 h0++own⟩
    (fun v F'=>∃h1 o,Le ⟨ro,mc u0 s1 s2 w x y b2 b3 b4 b5 h1++o⟩ F'/\v= .bool c/\I s' o/\(c=true->h1=(e9 u0 fuel i h0).2)):=by
 intro fuel
 induction fuel with
 |zero=>intro i h0 s c s' h;exact (ob h).elim
 |succ fuel ih=>
  intro i h0 s c s' h main J hJ own g
  obtain ⟨K,L,rfl,bm,bo,e1⟩:=id E
  obtain ⟨M,N,rfl,br,bs,e2⟩:=id F
  obtain ⟨V,O,rfl,bz,bS,W⟩:=id G
  obtain ⟨P,Q,rfl,b0,b1,ca⟩:=id H
  refine cC.go hJ Tryz.func145 rfl Tryz.ntmps145 Tryz.results145 (by simp) fun A X hd hs=>?_
  have Y:=hs 0
  have k1:=hs 1
  have Z:=hs 2
  have ab:=hs 3
  have ad:=hs 4
  clear hs
  unfold e9 at h
  have cb:(0:Int)<((3:Nat):Int):=by decide
  have cd:(1:Int)<((3:Nat):Int):=by decide
  have cf:(2:Int)<((3:Nat):Int):=by decide
  repeat refine aa hJ ?_
  refine ag hJ ?_
  simp only[*,go_sem,-h]
  repeat refine aa hJ ?_
  refine ag hJ ?_
  simp only[mc,go_sem, *,-h]
  repeat refine aa hJ ?_
  by_cases p:i=(u0.aR.length:Int)
  ·rw[if_pos p] at h
   repeat refine aa hJ ?_
   refine bD hJ (by simp only[*,go_sem,-h]) ?_
   repeat refine aa hJ ?_
   refine aL hJ fun nd=>?_
   repeat refine aa hJ ?_
   refine ag hJ ?_
   simp only[*,go_sem,-h]
   cases d:qj u0 h0 with
   |none=>rw[d] at h;exact (ob h).elim
   |some r=>
    rw[d] at h
    refine aJ hJ _ (C3 u0 ⟨(E.mono aI),(F.mono aI),(G.mono aI),(H.mono aI)⟩ h0 d) (aC ?_)
    cases r with
    |false=>
     cases h
     simp only[*,go_sem]
     repeat refine aa hJ ?_
     refine av ?_
     simp only[*,go_sem]
     refine ⟨h0,own,Le.refl _,?_⟩
     first|exact ⟨rfl,g,fun _=>by unfold e9;rw[if_pos rfl]⟩|exact ⟨g,fun _=>by unfold e9;rw[if_pos rfl]⟩|exact ⟨g,by unfold e9;rw[if_pos rfl]⟩|exact g
    |true=>
     have ae:step s h0=some (c,s'):=by
      simp only[eB] at h
      split at h<;>first|(cases h;assumption)|cases h
     simp only[*,go_sem,-h]
     refine Cf hJ (mc u0 (.slice K u0.aB.length L) (.slice M u0.props.length N) (.slice V u0.aR.length O) (.slice P u0.told.length Q) y b2 b3 b4 b5 h0) (fun m al ao=>U s h0 c s' ae m al ao own g) nd ?_
     rintro v o ⟨rfl,R⟩ cl
     refine aC ?_
     simp only[*,go_sem,-h]
     repeat refine aa hJ ?_
     refine av ?_
     simp only[*,go_sem,-h]
     refine ⟨h0,o,Le.refl _,?_⟩
     first|exact ⟨rfl,R,fun _=>by unfold e9;rw[if_pos rfl]⟩|exact ⟨R,fun _=>by unfold e9;rw[if_pos rfl]⟩
  ·rw[if_neg p] at h
   have cy:(i==(u0.aR.length:Int))=false:=by simpa using p
   repeat refine aa hJ ?_
   refine bK hJ (by simp only[*,go_sem,-h]) ?_
   refine aE hJ ?_
   cases d:bL u0.aR i with
   |none=>rw[d] at h;exact (ob h).elim
   |some e=>
    rw[d] at h
    simp only at h
    have ar:=d
    obtain ⟨cS,c0,S⟩:=cJ d
    obtain ⟨a0,cse,a2,a3,q⟩:=W _ _ S
    obtain rfl:cse=e.cells:=a3
    cases a2
    have a4:=q 0 _ rfl;simp only[go_sem] at a4
    have a5:=q 1 _ rfl;simp only[go_sem] at a5
    have a6:=q 2 _ rfl;simp only[go_sem] at a6
    clear q S
    repeat refine aa hJ ?_
    refine ag hJ ?_
    simp only[*,go_sem,-h]
    repeat refine aa hJ ?_
    refine aU hJ ?_
    refine bU hJ [6,7,31,32,33,34,35,36,37,38,39,40,41,42,43,44,45,46,47,48,49,50] (fun m a7 F'=>∃(n:Int) (h:aY) (s:σ) (own:List (Nat×Obj)),eB step (jU (e9 u0 fuel (IntKind.i64.wrap (i+1))) i e.high.high m n h).1 s=some (c,s')/\
     (c=true->(jU (e9 u0 fuel (IntKind.i64.wrap (i+1))) i e.high.high m n h).2=(e9 u0 (fuel+1) i h0).2)/\F'=⟨ro,mc u0 (.slice K u0.aB.length L) (.slice M u0.props.length N) (.slice (some a0) u0.aR.length O) (.slice P u0.told.length Q) y b2 b3 b4 b5 h++own⟩/\I s own/\slot a7 7= .int .i64 n) 100 ?_ ?_
    ·have a8:(e9 u0 (fuel+1) i h0).2=(jU (e9 u0 fuel (IntKind.i64.wrap (i+1))) i e.high.high 100 e.high.low h0).2:=by
      rw[e9,if_neg p,ar]
     exact ⟨e.high.low,h0,s,own,h,fun _=>a8.symm,rfl,g,by simp only[*,go_sem,-h]⟩
    ·rintro m j F' f ⟨n,h1,s1,z,a,b,rfl,l,da⟩
     clear h g
     have db:sz j=51:=by rw[f.size];simp only[*,go_sem]
     have kd:j.defers=[]:=by rw[f.defers];simp only[*,go_sem]
     have dd:slot j 0= .int .i64 i:=by rw[f.eH 0 (by decide)];simp only[*,go_sem]
     have df:slot j 1= .pointer (some ⟨b2,0,none⟩):=by rw[f.eH 1 (by decide)];simp only[*,go_sem]
     have dk:slot j 2= .pointer (some ⟨b4,0,none⟩):=by rw[f.eH 2 (by decide)];simp only[*,go_sem]
     have dp:slot j 3= .pointer (some ⟨b3,0,none⟩):=by rw[f.eH 3 (by decide)];simp only[*,go_sem]
     have dq:slot j 4= .pointer (some ⟨b5,0,none⟩):=by rw[f.eH 4 (by decide)];simp only[*,go_sem]
     clear f Y k1 Z ab ad X hd
     obtain _|m:=m
     ·exact (ob a).elim
     unfold jU at a b
     repeat refine aa hJ ?_
     refine ag hJ ?_
     simp only[mc,go_sem, *,-a]
     repeat refine aa hJ ?_
     by_cases t:n<=e.high.high
     ·rw[if_pos t] at a
      rw[if_pos t] at b
      repeat refine aa hJ ?_
      refine bD hJ (by simp only[*,go_sem,-a]) ?_
      refine aE hJ ?_
      cases B:h1.setAt i n with
      |none=>rw[B] at a;exact (ob a).elim
      |some h2=>
       rw[B] at a b
       simp only at a b
       repeat refine aa hJ ?_
       refine aU hJ ?_
       repeat refine aa hJ ?_
       refine aL hJ fun nd=>?_
       repeat refine aa hJ ?_
       refine ag hJ ?_
       rcases aY.C7 B with ⟨C,rfl⟩|⟨C,rfl⟩|⟨C,rfl⟩<;>subst C<;>
       (simp only[*,go_sem,-a]
        repeat refine aa hJ ?_
        refine ag hJ ?_
        simp only[*,go_sem,-a]
        have a9:=C8 a
        clear a
        rcases a9 with ⟨s2,D,a⟩|⟨D,rfl⟩
        ·refine cC.less hJ ((ih _ _ _ _ _ D _ J hJ z l).mono ?_)
         rintro v F' ⟨h3,T,hle,rfl,k,u⟩
         have u:=u rfl
         subst u
         refine ⟨_,hle,aC ?_⟩
         simp only[*,go_sem,-a]
         repeat refine aa hJ ?_
         refine bK hJ (by simp only[*,go_sem,-a]) ?_
         refine aE hJ ?_
         repeat refine aa hJ ?_
         refine ag hJ ?_
         simp only[*,go_sem,-a]
         exact ⟨m,Nat.lt_succ_self m,_,Le.refl _,_,_,_,_,a,b,rfl,k,by simp only[*,go_sem,-a]⟩
        ·refine cC.less hJ ((ih _ _ _ _ _ D _ J hJ z l).mono ?_)
         rintro v F' ⟨h3,T,hle,rfl,k,u⟩
         refine ⟨_,hle,aC ?_⟩
         simp only[*,go_sem]
         repeat refine aa hJ ?_
         refine bD hJ (by simp only[*,go_sem]) ?_
         repeat refine aa hJ ?_
         refine ag hJ ?_
         simp only[*,go_sem]
         repeat refine aa hJ ?_
         refine av ?_
         simp only[*,go_sem]
         refine ⟨h3,T,Le.refl _,?_⟩
         first|exact ⟨rfl,k,fun h=>by cases h⟩|exact ⟨k,fun h=>by cases h⟩|exact k|exact ⟨k,trivial⟩)
     ·rw[if_neg t] at a
      rw[if_neg t] at b
      simp only[eB,Option.some.injEq,Prod.mk.injEq] at a
      obtain ⟨rfl,rfl⟩:=a
      repeat refine aa hJ ?_
      refine bK hJ (by simp only[*,go_sem]) ?_
      refine bR ?_
      simp only[go_sem]
      repeat refine aa hJ ?_
      refine ag hJ ?_
      simp only[*,go_sem]
      repeat refine aa hJ ?_
      refine av ?_
      simp only[*,go_sem]
      refine ⟨h1,z,Le.refl _,?_⟩
      first|exact ⟨rfl,l,fun h=>b h⟩|exact ⟨l,fun h=>b h⟩|exact ⟨l,b rfl⟩
theorem qn (u0:an){s1 s2 j k:Value}(e:az eD ro s1 u0.aB)(f:az dX ro s2 u0.props)(g:az ew ro j u0.aR)(h:az cO ro k u0.told):
  kO Tryz.prog 112 #[.agg #[.int .i64 u0.bF,.int .i64 u0.bJ,.int .i64 u0.aT.num,.int .i64 u0.aT.den,s1,s2,j,k]] #[] aY.v (mb u0) ro:=by
 refine ⟨by simp only[go_sem],fun aH b σ step I r t u l s c s' a main J hJ own m=>?_⟩
 replace e:=e.mono b
 replace f:=f.mono b
 replace g:=g.mono b
 replace h:=h.mono b
 refine cC.go hJ Tryz.func112 rfl Tryz.ntmps112 Tryz.results112 (by simp) fun A w hd hs=>?_
 have x:=hs 0
 have k1:=hs 1
 clear hs
 repeat refine aa hJ ?_
 refine ag hJ ?_
 try simp only[*,go_sem,-a]
 intro b2 f2;have r2:=ee f2;have n2:=eU f2
 intro b3 f3;have r3:=ee f3;have n3:=eU f3
 simp only[aj] at n3
 try simp only[*,go_sem,-a]
 repeat refine aa hJ ?_
 refine ag hJ ?_
 try simp only[*,go_sem,-a]
 intro b4 f4;have n:=ee f4;have i:=eU f4
 simp only[aj] at i
 try simp only[*,go_sem,-a]
 repeat refine aa hJ ?_
 refine ag hJ ?_
 try simp only[*,go_sem,-a]
 intro b5 f5;have o:=ee f5;have d:=eU f5
 simp only[aj] at d
 try simp only[*,go_sem,-a]
 repeat refine aa hJ ?_
 refine ag hJ ?_
 try simp only[*,go_sem,-a]
 repeat refine aa hJ ?_
 refine ag hJ ?_
 try simp only[*,go_sem,-a]
 refine cC.less hJ ((C9 u0 e f g h l (b2:=b2) (b3:=b3) (b4:=b4) (b5:=b5) d.1 d.2.1 d.2.2.1 i.1 i.2.1 n3.1 o n r3 r2 5 0 ⟨0,0,0⟩ s c s' a main J hJ own m).mono ?_)
 rintro v F' ⟨h1,p,hle,rfl,q,_⟩
 exact ⟨_,hle,p,Le.sub (List.sublist_append_right _ _),q⟩
end
def qo (u0:List bP):Option (List bP):=if u0.length<=1000000 then some u0 else none
theorem tw {ro:Addr->Option Value}(u0:List bP){s1:Value}(b:az cO ro s1 u0){x:List bP}(h:qo u0=some x):ay Tryz.prog 102 #[s1] ⟨ro,[]⟩ (fun v G=>∃a,aW cO ro 54 v x a/\Le ⟨ro,a⟩ G):=by
 obtain ⟨ad,cap,rfl,le,d,e⟩:=id b
 unfold qo at h
 split at h
 case isFalse=>cases h
 rename_i hlen
 obtain rfl:=Option.some.inj h
 clear h
 refine ay.go Tryz.func102 rfl Tryz.ntmps102 Tryz.results102 (by simp) fun main J hJ A f hd hs=>?_
 have g:=hs 0
 clear hs
 refine aa hJ (ag hJ ?_)
 simp only[*,go_sem]
 cases ad with
 |none=>
  have hu:u0=[]:=by
   cases u0 with
   |nil=>rfl
   |cons x l=>obtain ⟨p,cs,c,_⟩:=e 0 x rfl;cases c
  subst hu
  first|refine aa hJ (ag hJ ?_)|refine aa hJ (aa hJ (ag hJ ?_))
  simp only[*,go_sem]
  refine bD hJ (by simp only[*,go_sem]) ?_
  refine aa hJ (ag hJ ?_)
  simp only[*,go_sem]
  refine av ?_
  simp only[*,go_sem]
  exact ⟨[],aW.nil _ _ _,Le.refl _⟩
 |some p=>
  first|refine aa hJ (ag hJ ?_)|refine aa hJ (aa hJ (ag hJ ?_))
  simp only[*,go_sem]
  refine bK hJ (by simp only[*,go_sem]) ?_
  refine aE hJ ?_
  refine aa hJ (ag hJ ?_)
  simp only[*,go_sem]
  intro i f1;have r1:=ee f1
  try simp only[*,go_sem]
  refine nJ r1 trivial rfl hlen b rfl rfl dR dR gr gv rfl gu (by decide) (by decide) (fun v a hg j=>aC ?_)
  simp only[*,go_sem]
  refine av ?_
  simp only[*,go_sem]
  exact ⟨a,hg,Le.refl _⟩
def qp (u0:List cA):Option (List cA):=if u0.length<=1000000 then some u0 else none
theorem ym {ro:Addr->Option Value}(u0:List cA){s1:Value}(b:az ew ro s1 u0){x:List cA}(h:qp u0=some x):ay Tryz.prog 107 #[s1] ⟨ro,[]⟩ (fun v G=>∃a,aW ew ro 148 v x a/\Le ⟨ro,a⟩ G):=by
 obtain ⟨ad,cap,rfl,le,d,e⟩:=id b
 unfold qp at h
 split at h
 case isFalse=>cases h
 rename_i hlen
 obtain rfl:=Option.some.inj h
 clear h
 refine ay.go Tryz.func107 rfl Tryz.ntmps107 Tryz.results107 (by simp) fun main J hJ A f hd hs=>?_
 have g:=hs 0
 clear hs
 refine aa hJ (ag hJ ?_)
 simp only[*,go_sem]
 cases ad with
 |none=>
  have hu:u0=[]:=by
   cases u0 with
   |nil=>rfl
   |cons x l=>obtain ⟨p,cs,c,_⟩:=e 0 x rfl;cases c
  subst hu
  first|refine aa hJ (ag hJ ?_)|refine aa hJ (aa hJ (ag hJ ?_))
  simp only[*,go_sem]
  refine bD hJ (by simp only[*,go_sem]) ?_
  refine aa hJ (ag hJ ?_)
  simp only[*,go_sem]
  refine av ?_
  simp only[*,go_sem]
  exact ⟨[],aW.nil _ _ _,Le.refl _⟩
 |some p=>
  first|refine aa hJ (ag hJ ?_)|refine aa hJ (aa hJ (ag hJ ?_))
  simp only[*,go_sem]
  refine bK hJ (by simp only[*,go_sem]) ?_
  refine aE hJ ?_
  refine aa hJ (ag hJ ?_)
  simp only[*,go_sem]
  intro i f1;have r1:=ee f1
  try simp only[*,go_sem]
  refine nJ r1 trivial rfl hlen b rfl rfl xz xz BH BJ rfl BI (by decide) (by decide) (fun v a hg j=>aC ?_)
  simp only[*,go_sem]
  refine av ?_
  simp only[*,go_sem]
  exact ⟨a,hg,Le.refl _⟩
def tA (u0:List bZ):Option (List bZ):=if u0.length<=1000000 then some u0 else none
theorem Da {ro:Addr->Option Value}(u0:List bZ){s1:Value}(b:az eD ro s1 u0){x:List bZ}(h:tA u0=some x):ay Tryz.prog 142 #[s1] ⟨ro,[]⟩ (fun v G=>∃a,aW eD ro 132 v x a/\Le ⟨ro,a⟩ G):=by
 obtain ⟨ad,cap,rfl,le,d,e⟩:=id b
 unfold tA at h
 split at h
 case isFalse=>cases h
 rename_i hlen
 obtain rfl:=Option.some.inj h
 clear h
 refine ay.go Tryz.func142 rfl Tryz.ntmps142 Tryz.results142 (by simp) fun main J hJ A f hd hs=>?_
 have g:=hs 0
 clear hs
 refine aa hJ (ag hJ ?_)
 simp only[*,go_sem]
 cases ad with
 |none=>
  have hu:u0=[]:=by
   cases u0 with
   |nil=>rfl
   |cons x l=>obtain ⟨p,cs,c,_⟩:=e 0 x rfl;cases c
  subst hu
  first|refine aa hJ (ag hJ ?_)|refine aa hJ (aa hJ (ag hJ ?_))
  simp only[*,go_sem]
  refine bD hJ (by simp only[*,go_sem]) ?_
  refine aa hJ (ag hJ ?_)
  simp only[*,go_sem]
  refine av ?_
  simp only[*,go_sem]
  exact ⟨[],aW.nil _ _ _,Le.refl _⟩
 |some p=>
  first|refine aa hJ (ag hJ ?_)|refine aa hJ (aa hJ (ag hJ ?_))
  simp only[*,go_sem]
  refine bK hJ (by simp only[*,go_sem]) ?_
  refine aE hJ ?_
  refine aa hJ (ag hJ ?_)
  simp only[*,go_sem]
  intro i f1;have r1:=ee f1
  try simp only[*,go_sem]
  refine nJ r1 trivial rfl hlen b rfl rfl xy xy BB sG rfl BC (by decide) (by decide) (fun v a hg j=>aC ?_)
  simp only[*,go_sem]
  refine av ?_
  simp only[*,go_sem]
  exact ⟨a,hg,Le.refl _⟩
def qq (u0:List b7):Option (List b7):=if u0.length<=1000000 then some u0 else none
theorem yo {ro:Addr->Option Value}(u0:List b7){s1:Value}(b:az dX ro s1 u0){x:List b7}(h:qq u0=some x):ay Tryz.prog 143 #[s1] ⟨ro,[]⟩ (fun v G=>∃a,aW dX ro 146 v x a/\Le ⟨ro,a⟩ G):=by
 obtain ⟨ad,cap,rfl,le,d,e⟩:=id b
 unfold qq at h
 split at h
 case isFalse=>cases h
 rename_i hlen
 obtain rfl:=Option.some.inj h
 clear h
 refine ay.go Tryz.func143 rfl Tryz.ntmps143 Tryz.results143 (by simp) fun main J hJ A f hd hs=>?_
 have g:=hs 0
 clear hs
 refine aa hJ (ag hJ ?_)
 simp only[*,go_sem]
 cases ad with
 |none=>
  have hu:u0=[]:=by
   cases u0 with
   |nil=>rfl
   |cons x l=>obtain ⟨p,cs,c,_⟩:=e 0 x rfl;cases c
  subst hu
  first|refine aa hJ (ag hJ ?_)|refine aa hJ (aa hJ (ag hJ ?_))
  simp only[*,go_sem]
  refine bD hJ (by simp only[*,go_sem]) ?_
  refine aa hJ (ag hJ ?_)
  simp only[*,go_sem]
  refine av ?_
  simp only[*,go_sem]
  exact ⟨[],aW.nil _ _ _,Le.refl _⟩
 |some p=>
  first|refine aa hJ (ag hJ ?_)|refine aa hJ (aa hJ (ag hJ ?_))
  simp only[*,go_sem]
  refine bK hJ (by simp only[*,go_sem]) ?_
  refine aE hJ ?_
  refine aa hJ (ag hJ ?_)
  simp only[*,go_sem]
  intro i f1;have r1:=ee f1
  try simp only[*,go_sem]
  refine nJ r1 trivial rfl hlen b rfl rfl jJ jJ pL pN rfl pM (by decide) (by decide) (fun v a hg j=>aC ?_)
  simp only[*,go_sem]
  refine av ?_
  simp only[*,go_sem]
  exact ⟨a,hg,Le.refl _⟩
def qs (u0:List Int):Option (List Int):=if u0.length<=1000000 then some u0 else none
theorem yp {ro:Addr->Option Value}(u0:List Int){s1:Value}(b:az rI ro s1 u0){x:List Int}(h:qs u0=some x):ay Tryz.prog 137 #[s1] ⟨ro,[]⟩ (fun v G=>∃a,aW rI ro 3 v x a/\Le ⟨ro,a⟩ G):=by
 obtain ⟨ad,cap,rfl,le,d,e⟩:=id b
 unfold qs at h
 split at h
 case isFalse=>cases h
 rename_i hlen
 obtain rfl:=Option.some.inj h
 clear h
 refine ay.go Tryz.func137 rfl Tryz.ntmps137 Tryz.results137 (by simp) fun main J hJ A f hd hs=>?_
 have g:=hs 0
 clear hs
 refine aa hJ (ag hJ ?_)
 simp only[*,go_sem]
 cases ad with
 |none=>
  have hu:u0=[]:=by
   cases u0 with
   |nil=>rfl
   |cons x l=>obtain ⟨p,cs,c,_⟩:=e 0 x rfl;cases c
  subst hu
  first|refine aa hJ (ag hJ ?_)|refine aa hJ (aa hJ (ag hJ ?_))
  simp only[*,go_sem]
  refine bD hJ (by simp only[*,go_sem]) ?_
  refine aa hJ (ag hJ ?_)
  simp only[*,go_sem]
  refine av ?_
  simp only[*,go_sem]
  exact ⟨[],aW.nil _ _ _,Le.refl _⟩
 |some p=>
  first|refine aa hJ (ag hJ ?_)|refine aa hJ (aa hJ (ag hJ ?_))
  simp only[*,go_sem]
  refine bK hJ (by simp only[*,go_sem]) ?_
  refine aE hJ ?_
  refine aa hJ (ag hJ ?_)
  simp only[*,go_sem]
  intro i f1;have r1:=ee f1
  try simp only[*,go_sem]
  refine nJ r1 trivial rfl hlen b rfl rfl e6 e6 jG jI rfl jH (by decide) (by decide) (fun v a hg j=>aC ?_)
  simp only[*,go_sem]
  refine av ?_
  simp only[*,go_sem]
  exact ⟨a,hg,Le.refl _⟩
def qt (u0:an)(i43:Nat)(b:(an->Option Int))(st:Int):Option (Fl Int (an×Int)):=
 ah (b u0) fun a=>cond ((a != 0)) (some (.rt ((⟨0,0,(⟨0,0⟩:ak),([]:(List bZ)),([]:(List b7)),([]:(List cA)),([]:(List bP))⟩:an),a))) (some (.nx st))
def eY (u0:an)(b:(List (an->Option Int))):Option (an×Int):=
 ah (jh u0) fun a=>cond ((a != 0)) (some ((⟨0,0,(⟨0,0⟩:ak),([]:(List bZ)),([]:(List b7)),([]:(List cA)),([]:(List bP))⟩:an),a)) (ah (bB (qt u0) 0 b 0) fun o=>aK o (fun c=>some (u0,0)) (fun _ _=>none) (fun r=>some r))
theorem ji {ro:Addr->Option Value}(D:cP ro)(u0:an){s1 f g i:Value}(b:bx ro u0 s1 f g i)(c:(List (an->Option Int))){o:Value}(q:az (cK) ro o c){r:(an×Int)}(h:eY u0 c=some r):en Tryz.prog 50 #[bv u0 s1 f g i,o] ro (fun v aH=>∃s w1 w2 w3,v= .tuple #[bv r.1 s w1 w2 w3,.int .i64 r.2]/\bx aH r.1 s w1 w2 w3):=by
 obtain ⟨d31,ae,rfl,al,E,-⟩:=id q
 unfold eY at h
 have F:=b.oc;simp only[bw] at F
 refine ay.go Tryz.func50 rfl Tryz.ntmps50 Tryz.results50 (by simp) fun main J hJ A G hd hs=>?_
 have H:=hs 0
 have k1:=hs 1
 clear hs
 refine aa hJ (ag hJ ?_)
 simp only[*,go_sem]
 refine au fun I ao K=>?_;try simp only[aj] at K
 refine au fun L ar M=>?_;try simp only[aj] at M
 try simp only[*,go_sem]
 refine aa hJ (aa hJ (ag hJ ?_))
 revert h;refine bS fun a0 N h=>?_
 simp only[*,go_sem]
 refine aJ hJ _ (s5 (D.mono aI) u0 (b.e.mono aI) (b.p.mono aI) (b.y.mono aI) (b.t.mono aI) N) (aC ?_)
 try simp only[*,go_sem]
 refine aa hJ (ag hJ ?_)
 simp only[*,go_sem]
 revert h;refine jC hJ (by simp only[*,go_sem]) (fun O h=>?_) fun O h=>?_
 ·obtain rfl:=sI h
  refine aa hJ (ag hJ ?_)
  simp only[*,go_sem]
  refine av ?_
  simp only[*,go_sem]
  exact ⟨_,Ext.refl _,Le.sub (List.nil_sublist _),_,_,_,_,rfl,⟨az.nil _ _,az.nil _ _,az.nil _ _,az.nil _ _⟩⟩
 refine aE hJ (aa hJ ?_)
 refine ag hJ ?_
 simp only[*,go_sem]
 refine au fun P a2 Q=>?_;try simp only[aj] at Q
 try simp only[*,go_sem]
 refine aa hJ (aa hJ (ag hJ ?_))
 simp only[*,go_sem]
 refine aU hJ ?_
 revert h;refine bS fun R d u=>?_
 refine bU hJ [5,9,10,21,22,23,24,25,26,27,28,29,30,31,32] (fun m w F'=>∃(i43:Nat) (j:Int),m=c.length - i43/\i43<=c.length/\bB (qt u0) i43 (c.drop i43) j=some R/\F'=⟨ro,(P,bl u0 s1 f g i)::(L,bz 83)::(I,bk u0 s1 f g i)::[]⟩/\slot w 21= .int .i64 (i43:Int)/\slot w 5= .int .i64 j) c.length ?_ ?_
 ·refine ⟨0,0,(Nat.sub_zero _).symm,Nat.zero_le _,d,rfl,?_⟩
  simp only[*,go_sem]
 rintro a3 a4 F' z ⟨i43,j,rfl,a5,d,rfl,a6,a7⟩
 obtain ⟨S,T,U⟩:=z.pick [4,7,19,20] (by decide)
 simp only[*,go_sem] at S T U
 clear z G hd H k1
 refine aa hJ (ag hJ ?_)
 simp only[*,go_sem]
 refine aa hJ ?_
 rcases Nat.lt_or_ge i43 c.length with V|B
 ·refine bD hJ (by simp only[*,go_sem]) ?_
  refine aE hJ ?_
  obtain ⟨a8,k⟩:∃x,c[i43]?=some x:=⟨_,List.getElem?_eq_getElem V⟩
  rw[cN k] at d
  revert d;refine bS fun a9 h l=>?_
  unfold qt at h
  try dsimp only at h
  obtain ⟨ba,bb,W,X,C⟩:=q.el _ _ k
  obtain ⟨bc,bd,bj,rfl,Y⟩:=X
  cases W
  have Z:=C 0 _ rfl;simp only[go_sem] at Z
  clear C k
  refine aa hJ (aU hJ (aa hJ ?_))
  refine ag hJ ?_
  simp only[*,go_sem]
  refine aa hJ (ag hJ ?_)
  revert h;refine bS fun bm ab h=>?_
  simp only[*,go_sem]
  refine aJ hJ _ (Y.2 _ (fun a v h=>aI a v h) u0 _ _ _ _ _ (b.e.mono aI) (b.p.mono aI) (b.y.mono aI) (b.t.mono aI) ab) (aC ?_)
  try simp only[*,go_sem]
  refine aa hJ (ag hJ ?_)
  simp only[*,go_sem]
  revert h;refine jC hJ (by simp only[*,go_sem]) (fun ad h=>?_) fun ad h=>?_
  ·obtain rfl:=sI h
   refine aa hJ (ag hJ ?_)
   simp only[*,go_sem]
   obtain rfl:=sI l;clear l
   have h:=u
   dsimp only[aK] at h
   obtain rfl:=sI h
   refine av ?_
   simp only[*,go_sem]
   exact ⟨_,Ext.refl _,Le.sub (List.nil_sublist _),_,_,_,_,rfl,⟨az.nil _ _,az.nil _ _,az.nil _ _,az.nil _ _⟩⟩
  obtain rfl:=sI h
  refine aE hJ ?_
  have bo:=b9 (n:=i43) (by have:=E;omega)
  refine ag hJ ?_
  simp only[*,go_sem]
  refine ⟨c.length - (i43+1),by omega,_,Le.sub (List.Sublist.refl _),i43+1,j,rfl,by omega,l,rfl,?_⟩
  simp only[*,go_sem]
 have br:=Nat.not_lt.2 B
 refine bK hJ (by simp only[*,go_sem]) ?_
 rw[List.drop_eq_nil_of_le B] at d
 obtain rfl:=sI d;clear d
 have h:=u
 dsimp only[aK] at h
 obtain rfl:=sI h
 refine bR ?_
 simp only[go_sem]
 refine aa hJ (ag hJ ?_)
 simp only[*,go_sem]
 refine av ?_
 simp only[*,go_sem]
 exact ⟨_,Ext.refl _,Le.sub (List.nil_sublist _),_,_,_,_,rfl,b⟩
def me (u0:an)(b:Int):Option (ak×Int):=
 ah (eY u0 ([(jP b)])) fun a=>cond ((a.2 != 0)) (some ((⟨0,0⟩:ak),a.2)) (ah (jS a.1 b) fun c=>some (c,0))
theorem yq {ro:Addr->Option Value}(f:cP ro)(u0:an){s1 g i j:Value}(k:bx ro u0 s1 g i j)(a:Int){r:(ak×Int)}(h:me u0 a=some r):ay Tryz.prog 8 #[bv u0 s1 g i j,.int .i64 a] ⟨ro,[]⟩ (fun v _=>v= .tuple #[r.1.v,.int .i64 r.2]):=by
 unfold me at h
 refine ay.go Tryz.func8 rfl Tryz.ntmps8 Tryz.results8 (by simp) fun main J hJ A V hd hs=>?_
 have W:=hs 0
 have k1:=hs 1
 clear hs
 refine aa hJ (ag hJ ?_)
 simp only[*,go_sem]
 refine au fun B C D=>?_;try simp only[aj] at D
 refine au fun E F G=>?_;try simp only[aj] at G
 try simp only[*,go_sem]
 refine aa hJ ?_
 refine aL hJ fun H=>?_
 refine ag hJ ?_
 revert h;refine bS fun I K h=>?_
 simp only[*,go_sem]
 refine au fun c m n=>?_;have q:=aM.cons n H;try simp only[aj] at n
 try simp only[*,go_sem]
 obtain ⟨l,s,u⟩:=e8 (b:=c) (o:=(.cells #[.func (.func 51) #[.int .i64 a] #[]] 86)) [] ((E,rt 0 0)::(B,bk u0 s1 g i j)::[]) q m (aA.cons F (aA.cons C (aA.nil _)))
 have w:az (cK) (bI ro c (.cells #[.func (.func 51) #[.int .i64 a] #[]] 86)) (.slice (some ⟨c,0,none⟩) 1 1) [(jP a)]:=(az.one (r:=(cK)) (e:=86) (cs:=#[.func (.func 51) #[.int .i64 a] #[]]) (x:=(jP a)) (own:=[(c,.cells #[.func (.func 51) #[.int .i64 a] #[]] 86)]) m (by simp[lk]) ⟨51,#[.int .i64 a],#[],rfl,⟨by simp only[go_sem],fun X Y L _ _ _ _ _ M N O P h=>by simp only[go_sem];exact CK a L ⟨M,N,O,P⟩ h⟩⟩)
 generalize bI ro c (.cells #[.func (.func 51) #[.int .i64 a] #[]] 86)=Z at w s l u
 refine fY hJ u ?_
 replace k:=k.mono l
 replace f:=f.mono l
 simp only[bg] at s
 have Q:=aM.tl q
 refine bX hJ _ (ji f u0 k ([(jP a)]) w K) fun v ab ad R S=>?_
 obtain ⟨ae,al,ao,ar,rfl,d⟩:=S
 simp only[bg] at R
 obtain ⟨d41,a0,rfl,a2,a3,-⟩:=id d.e
 obtain ⟨d48,a4,rfl,a5,a6,-⟩:=id d.p
 obtain ⟨d55,a7,rfl,a8,a9,-⟩:=id d.y
 obtain ⟨d62,ba,rfl,bb,bc,-⟩:=id d.t
 refine aC ?_
 try simp only[*,go_sem]
 refine au fun bd bj z=>?_;have bl:=aM.cons z Q;try simp only[aj] at z
 try simp only[*,go_sem]
 refine aa hJ (aa hJ (ag hJ ?_))
 simp only[*,go_sem]
 revert h;refine jC hJ (by simp only[*,go_sem]) (fun T h=>?_) fun T h=>?_
 ·obtain rfl:=sI h
  refine aa hJ (ag hJ ?_)
  simp only[*,go_sem]
  refine av ?_
  simp only[*,go_sem]
 refine aE hJ (aa hJ ?_)
 refine ag hJ ?_
 revert h;refine bS fun bm U h=>?_
 obtain rfl:=sI h
 simp only[*,go_sem]
 refine aJ hJ _ (yj I.1 (d.mono aI) a U) (aC ?_)
 try simp only[*,go_sem]
 refine av ?_
 simp only[*,go_sem]
def mg (u0:an)(b:aP):Option (Int×ak×Int):=
 ah (eY u0 ([(ei b)])) fun a=>cond ((a.2 != 0)) (some (0,(⟨0,0⟩:ak),a.2)) (ah (jR a.1 b) fun c=>some (c.at_,c.high,0))
theorem yt {ro:Addr->Option Value}(k:cP ro)(u0:an){s1 f g i:Value}(j:bx ro u0 s1 f g i)(a:aP){r:(Int×ak×Int)}(h:mg u0 a=some r):ay Tryz.prog 10 #[bv u0 s1 f g i,.agg #[.int .i64 a.back,.int .i64 a.high]] ⟨ro,[]⟩ (fun v _=>v= .tuple #[.int .i64 r.1,r.2.1.v,.int .i64 r.2.2]):=by
 unfold mg at h
 have D:=j.oc;simp only[bw] at D
 refine ay.go Tryz.func10 rfl Tryz.ntmps10 Tryz.results10 (by simp) fun main J hJ A a2 hd hs=>?_
 have a3:=hs 0
 have k1:=hs 1
 clear hs
 refine aa hJ (ag hJ ?_)
 simp only[*,go_sem]
 refine au fun m E F=>?_;try simp only[aj] at F
 refine au fun n G H=>?_;try simp only[aj] at H
 refine au fun I K L=>?_;try simp only[aj] at L
 try simp only[*,go_sem]
 refine aa hJ ?_
 refine aL hJ fun M=>?_
 refine ag hJ ?_
 revert h;refine bS fun p N h=>?_
 simp only[*,go_sem]
 refine au fun d q s=>?_;have t:=aM.cons s M;try simp only[aj] at s
 try simp only[*,go_sem]
 obtain ⟨l,u,w⟩:=e8 (b:=d) (o:=(.cells #[.func (.func 55) #[.agg #[.int .i64 a.back,.int .i64 a.high]] #[]] 86)) [] ((I,rt 0 0)::(n,.cells #[.int .i64 a.back,.int .i64 a.high] 31)::(m,bk u0 s1 f g i)::[]) t q (aA.cons K (aA.cons G (aA.cons E (aA.nil _))))
 have y:az (cK) (bI ro d (.cells #[.func (.func 55) #[.agg #[.int .i64 a.back,.int .i64 a.high]] #[]] 86)) (.slice (some ⟨d,0,none⟩) 1 1) [(ei a)]:=(az.one (r:=(cK)) (e:=86) (cs:=#[.func (.func 55) #[.agg #[.int .i64 a.back,.int .i64 a.high]] #[]]) (x:=(ei a)) (own:=[(d,.cells #[.func (.func 55) #[.agg #[.int .i64 a.back,.int .i64 a.high]] #[]] 86)]) q (by simp[lk]) ⟨55,#[.agg #[.int .i64 a.back,.int .i64 a.high]],#[],rfl,⟨by simp only[go_sem],fun a4 a5 O _ _ _ _ _ P Q R S h=>by simp only[go_sem];exact pZ a O ⟨P,Q,R,S⟩ h⟩⟩)
 generalize bI ro d (.cells #[.func (.func 55) #[.agg #[.int .i64 a.back,.int .i64 a.high]] #[]] 86)=a6 at y u l w
 refine fY hJ w ?_
 replace j:=j.mono l
 replace k:=k.mono l
 simp only[bg] at u
 have T:=aM.tl t
 refine bX hJ _ (ji k u0 j ([(ei a)]) y N) fun v U a7 V W=>?_
 obtain ⟨X,Y,Z,ab,rfl,z⟩:=W
 have ad:=z.oc;simp only[bw] at ad
 simp only[bg] at V
 refine aC ?_
 try simp only[*,go_sem]
 refine au fun ae a8 B=>?_;have al:=aM.cons B T;try simp only[aj] at B
 try simp only[*,go_sem]
 refine aa hJ (aa hJ (ag hJ ?_))
 simp only[*,go_sem]
 revert h;refine jC hJ (by simp only[*,go_sem]) (fun ao h=>?_) fun ao h=>?_
 ·obtain rfl:=sI h
  refine aa hJ (ag hJ ?_)
  simp only[*,go_sem]
  refine av ?_
  simp only[*,go_sem]
 refine aE hJ (aa hJ ?_)
 refine ag hJ ?_
 revert h;refine bS fun c ar h=>?_
 obtain rfl:=sI h
 simp only[*,go_sem]
 refine aJ hJ _ (qf p.1 (z.mono aI) a ar) (aC ?_)
 try simp only[*,go_sem]
 refine au fun a0 a9 C=>?_;have ba:=aM.cons C al;try simp only[aj] at C
 try simp only[*,go_sem]
 refine aa hJ ?_
 refine dA hJ mixed 5 ⟨U,[(a0,.cells #[.int .i64 c.spot.aG,.int .i64 c.spot.high.num,.int .i64 c.spot.high.den,.int .i64 c.at_,.int .i64 c.high.num,.int .i64 c.high.den] 94),(ae,bl p.1 X Y Z ab),(n,.cells #[.int .i64 a.back,.int .i64 a.high] 31),(m,bk u0 s1 f g i)]⟩ (by simp only[*,go_sem]) (by kernel_rfl) ?_
 simp only[*,go_sem]
 refine av ?_
 simp only[*,go_sem]
def mh (u0:an)(b:aP):Option (ak×Int):=
 ah (eY u0 ([(ei b)])) fun a=>cond ((a.2 != 0)) (some ((⟨0,0⟩:ak),a.2)) (ah (l8 a.1 b) fun c=>some (c,0))
theorem yu {ro:Addr->Option Value}(f:cP ro)(u0:an){s1 g i j:Value}(k:bx ro u0 s1 g i j)(a:aP){r:(ak×Int)}(h:mh u0 a=some r):ay Tryz.prog 14 #[bv u0 s1 g i j,.agg #[.int .i64 a.back,.int .i64 a.high]] ⟨ro,[]⟩ (fun v _=>v= .tuple #[r.1.v,.int .i64 r.2]):=by
 unfold mh at h
 refine ay.go Tryz.func14 rfl Tryz.ntmps14 Tryz.results14 (by simp) fun main J hJ A Y hd hs=>?_
 have Z:=hs 0
 have k1:=hs 1
 clear hs
 refine aa hJ (ag hJ ?_)
 simp only[*,go_sem]
 refine au fun B C D=>?_;try simp only[aj] at D
 refine au fun E F G=>?_;try simp only[aj] at G
 refine au fun H I K=>?_;try simp only[aj] at K
 try simp only[*,go_sem]
 refine aa hJ ?_
 refine aL hJ fun L=>?_
 refine ag hJ ?_
 revert h;refine bS fun M N h=>?_
 simp only[*,go_sem]
 refine au fun c m n=>?_;have q:=aM.cons n L;try simp only[aj] at n
 try simp only[*,go_sem]
 obtain ⟨l,s,u⟩:=e8 (b:=c) (o:=(.cells #[.func (.func 55) #[.agg #[.int .i64 a.back,.int .i64 a.high]] #[]] 86)) [] ((H,rt 0 0)::(E,.cells #[.int .i64 a.back,.int .i64 a.high] 31)::(B,bk u0 s1 g i j)::[]) q m (aA.cons I (aA.cons F (aA.cons C (aA.nil _))))
 have w:az (cK) (bI ro c (.cells #[.func (.func 55) #[.agg #[.int .i64 a.back,.int .i64 a.high]] #[]] 86)) (.slice (some ⟨c,0,none⟩) 1 1) [(ei a)]:=(az.one (r:=(cK)) (e:=86) (cs:=#[.func (.func 55) #[.agg #[.int .i64 a.back,.int .i64 a.high]] #[]]) (x:=(ei a)) (own:=[(c,.cells #[.func (.func 55) #[.agg #[.int .i64 a.back,.int .i64 a.high]] #[]] 86)]) m (by simp[lk]) ⟨55,#[.agg #[.int .i64 a.back,.int .i64 a.high]],#[],rfl,⟨by simp only[go_sem],fun ab ad O _ _ _ _ _ P Q R S h=>by simp only[go_sem];exact pZ a O ⟨P,Q,R,S⟩ h⟩⟩)
 generalize bI ro c (.cells #[.func (.func 55) #[.agg #[.int .i64 a.back,.int .i64 a.high]] #[]] 86)=ae at w s l u
 refine fY hJ u ?_
 replace k:=k.mono l
 replace f:=f.mono l
 simp only[bg] at s
 have T:=aM.tl q
 refine bX hJ _ (ji f u0 k ([(ei a)]) w N) fun v al ao U V=>?_
 obtain ⟨ar,a0,a2,a3,rfl,d⟩:=V
 simp only[bg] at U
 obtain ⟨d42,a4,rfl,a5,a6,-⟩:=id d.e
 obtain ⟨d49,a7,rfl,a8,a9,-⟩:=id d.p
 obtain ⟨d56,ba,rfl,bb,bc,-⟩:=id d.y
 obtain ⟨d63,bd,rfl,bj,bl,-⟩:=id d.t
 refine aC ?_
 try simp only[*,go_sem]
 refine au fun bm bo z=>?_;have br:=aM.cons z T;try simp only[aj] at z
 try simp only[*,go_sem]
 refine aa hJ (aa hJ (ag hJ ?_))
 simp only[*,go_sem]
 revert h;refine jC hJ (by simp only[*,go_sem]) (fun W h=>?_) fun W h=>?_
 ·obtain rfl:=sI h
  refine aa hJ (ag hJ ?_)
  simp only[*,go_sem]
  refine av ?_
  simp only[*,go_sem]
 refine aE hJ (aa hJ ?_)
 refine ag hJ ?_
 revert h;refine bS fun bs X h=>?_
 obtain rfl:=sI h
 simp only[*,go_sem]
 refine aJ hJ _ (yh M.1 (d.mono aI) a X) (aC ?_)
 try simp only[*,go_sem]
 refine av ?_
 simp only[*,go_sem]
def mj (u0:an)(c:aP):Option (ak×Bool×Int):=
 ah (eY u0 ([(ei c)])) fun b=>cond ((b.2 != 0)) (some ((⟨0,0⟩:ak),false,b.2)) (ah (iC b.1 c) fun a=>cond (((a.length:Int)==0)) (some ((⟨0,0⟩:ak),false,0)) (ah (bL a 0) fun d=>ah (gY a 1 (a.length:Int)) fun e=>ah (jg fM d e) fun f=>some (f.high,true,0)))
theorem yw {ro:Addr->Option Value}(l:cP ro)(u0:an){s1 f g i:Value}(j:bx ro u0 s1 f g i)(a:aP){r:(ak×Bool×Int)}(h:mj u0 a=some r):ay Tryz.prog 16 #[bv u0 s1 f g i,.agg #[.int .i64 a.back,.int .i64 a.high]] ⟨ro,[]⟩ (fun v _=>v= .tuple #[r.1.v,.bool r.2.1,.int .i64 r.2.2]):=by
 unfold mj at h
 have N:=j.oc;simp only[bw] at N
 refine ay.go Tryz.func16 rfl Tryz.ntmps16 Tryz.results16 (by simp) fun main J hJ A cy hd hs=>?_
 have cS:=hs 0
 have k1:=hs 1
 clear hs
 refine aa hJ (ag hJ ?_)
 simp only[*,go_sem]
 refine au fun s O P=>?_;try simp only[aj] at P
 refine au fun t Q R=>?_;try simp only[aj] at R
 refine au fun S T U=>?_;try simp only[aj] at U
 try simp only[*,go_sem]
 refine aa hJ ?_
 refine aL hJ fun V=>?_
 refine ag hJ ?_
 revert h;refine bS fun u W h=>?_
 simp only[*,go_sem]
 refine au fun d w y=>?_;have z:=aM.cons y V;try simp only[aj] at y
 try simp only[*,go_sem]
 obtain ⟨m,B,C⟩:=e8 (b:=d) (o:=(.cells #[.func (.func 55) #[.agg #[.int .i64 a.back,.int .i64 a.high]] #[]] 86)) [] ((S,rt 0 0)::(t,.cells #[.int .i64 a.back,.int .i64 a.high] 31)::(s,bk u0 s1 f g i)::[]) z w (aA.cons T (aA.cons Q (aA.cons O (aA.nil _))))
 have D:az (cK) (bI ro d (.cells #[.func (.func 55) #[.agg #[.int .i64 a.back,.int .i64 a.high]] #[]] 86)) (.slice (some ⟨d,0,none⟩) 1 1) [(ei a)]:=(az.one (r:=(cK)) (e:=86) (cs:=#[.func (.func 55) #[.agg #[.int .i64 a.back,.int .i64 a.high]] #[]]) (x:=(ei a)) (own:=[(d,.cells #[.func (.func 55) #[.agg #[.int .i64 a.back,.int .i64 a.high]] #[]] 86)]) w (by simp[lk]) ⟨55,#[.agg #[.int .i64 a.back,.int .i64 a.high]],#[],rfl,⟨by simp only[go_sem],fun X Y n _ _ _ _ _ Z ab ad ae h=>by simp only[go_sem];exact pZ a n ⟨Z,ab,ad,ae⟩ h⟩⟩)
 generalize bI ro d (.cells #[.func (.func 55) #[.agg #[.int .i64 a.back,.int .i64 a.high]] #[]] 86)=c0 at D B m C
 refine fY hJ C ?_
 replace j:=j.mono m
 replace l:=l.mono m
 simp only[bg] at B
 have al:=aM.tl z
 refine bX hJ _ (ji l u0 j ([(ei a)]) D W) fun v da db ao p=>?_
 obtain ⟨ar,a0,a2,a3,rfl,E⟩:=p
 have a4:=E.oc;simp only[bw] at a4
 simp only[bg] at ao
 refine aC ?_
 try simp only[*,go_sem]
 refine au fun a5 dd G=>?_;have df:=aM.cons G al;try simp only[aj] at G
 try simp only[*,go_sem]
 refine aa hJ (aa hJ (ag hJ ?_))
 simp only[*,go_sem]
 revert h;refine jC hJ (by simp only[*,go_sem]) (fun a6 h=>?_) fun a6 h=>?_
 ·obtain rfl:=sI h
  refine aa hJ (ag hJ ?_)
  simp only[*,go_sem]
  refine av ?_
  simp only[*,go_sem]
 refine aE hJ (aa hJ ?_)
 refine ag hJ ?_
 revert h;refine bS fun k a7 h=>?_
 simp only[*,go_sem]
 refine bX hJ _ (s6 u.1 E a a7) fun v a8 dk a9 p=>?_
 obtain ⟨dp,rfl,q⟩:=p
 simp only[bg] at a9
 obtain ⟨d84,ba,rfl,dq,ds,-⟩:=id q
 refine aC ?_
 try simp only[*,go_sem]
 refine aa hJ (aa hJ (ag hJ ?_))
 simp only[*,go_sem]
 revert h;refine jC hJ (by simp only[*,go_sem]) (fun bb h=>?_) fun bb h=>?_
 ·obtain rfl:=sI h
  refine aa hJ (ag hJ ?_)
  simp only[*,go_sem]
  refine av ?_
  simp only[*,go_sem]
 refine aE hJ (aa hJ ?_)
 refine dA hJ mixed 7 ⟨a8,[(a5,bl u.1 ar a0 a2 a3),(t,.cells #[.int .i64 a.back,.int .i64 a.high] 31),(s,bk u0 s1 f g i)]⟩ (by simp only[*,go_sem]) (by kernel_rfl) ?_
 revert h;refine bS fun H bc h=>?_
 obtain ⟨dt,du,I⟩:=cJ bc
 obtain ⟨dv,bd,bj,bm,c⟩:=q.el _ _ I
 obtain rfl:bd=H.cells:=bm
 cases bj
 have bo:=c 0 _ rfl;simp only[go_sem] at bo
 have br:=c 1 _ rfl;simp only[go_sem] at br
 have bs:=c 2 _ rfl;simp only[go_sem] at bs
 have bz:=c 3 _ rfl;simp only[go_sem] at bz
 have b0:=c 4 _ rfl;simp only[go_sem] at b0
 have b1:=c 5 _ rfl;simp only[go_sem] at b1
 clear c I
 revert h;refine bS fun b2 b3 h=>?_
 obtain ⟨dC,dE,dT,K⟩:=nv b3
 have L:(1:Int).toNat<=((k.length:Int)).toNat:=by omega
 have b4:((k.length:Int)).toNat<=ba:=by omega
 have ea:0<=((k.length:Int)):=by omega
 obtain ⟨d94,b5,ca,M⟩:=az.nC q (1:Int).toNat ((k.length:Int)).toNat L (by omega) K
 simp only[go_sem] at b5 ca L b4
 obtain ⟨_,_,cb,eb,ec,ed⟩:=id M;cases cb
 clear K
 revert h;refine bS fun eh cd h=>?_
 obtain rfl:=sI h
 try simp only[*,go_sem]
 refine ⟨_,bu hJ fun F cf=>p7 (dj:=67) (dJ:=#[]) (dK:=#[]) fM ⟨by simp only[go_sem],fun X Y n cl _ h=>by simp only[go_sem];exact pY n cl h⟩ H b2 (M.mono (bM cf)) cd,b6 ?_⟩
 try simp only[*,go_sem]
 refine av ?_
 simp only[*,go_sem]
def k4 (u0:an)(b:aP):Option (ak×Bool×Int):=
 ah (eY u0 ([(ei b)])) fun a=>cond ((a.2 != 0)) (some ((⟨0,0⟩:ak),false,a.2)) (ah (jT a.1 b) fun c=>ah (gx a.1 b) fun d=>some (c,d,0))
theorem tB {ro:Addr->Option Value}(j:cP ro)(u0:an){s1 d f g:Value}(i:bx ro u0 s1 d f g)(a:aP){r:(ak×Bool×Int)}(h:k4 u0 a=some r):ay Tryz.prog 18 #[bv u0 s1 d f g,.agg #[.int .i64 a.back,.int .i64 a.high]] ⟨ro,[]⟩ (fun v _=>v= .tuple #[r.1.v,.bool r.2.1,.int .i64 r.2.2]):=by
 unfold k4 at h
 have C:=i.oc;simp only[bw] at C
 refine ay.go Tryz.func18 rfl Tryz.ntmps18 Tryz.results18 (by simp) fun main J hJ A a0 hd hs=>?_
 have a2:=hs 0
 have k1:=hs 1
 clear hs
 refine aa hJ (ag hJ ?_)
 simp only[*,go_sem]
 refine au fun p D E=>?_;try simp only[aj] at E
 refine au fun q G H=>?_;try simp only[aj] at H
 refine au fun I K L=>?_;try simp only[aj] at L
 try simp only[*,go_sem]
 refine aa hJ ?_
 refine aL hJ fun M=>?_
 refine ag hJ ?_
 revert h;refine bS fun k N h=>?_
 simp only[*,go_sem]
 refine au fun c s t=>?_;have u:=aM.cons t M;try simp only[aj] at t
 try simp only[*,go_sem]
 obtain ⟨l,w,y⟩:=e8 (b:=c) (o:=(.cells #[.func (.func 55) #[.agg #[.int .i64 a.back,.int .i64 a.high]] #[]] 86)) [] ((I,rt 0 0)::(q,.cells #[.int .i64 a.back,.int .i64 a.high] 31)::(p,bk u0 s1 d f g)::[]) u s (aA.cons K (aA.cons G (aA.cons D (aA.nil _))))
 have z:az (cK) (bI ro c (.cells #[.func (.func 55) #[.agg #[.int .i64 a.back,.int .i64 a.high]] #[]] 86)) (.slice (some ⟨c,0,none⟩) 1 1) [(ei a)]:=(az.one (r:=(cK)) (e:=86) (cs:=#[.func (.func 55) #[.agg #[.int .i64 a.back,.int .i64 a.high]] #[]]) (x:=(ei a)) (own:=[(c,.cells #[.func (.func 55) #[.agg #[.int .i64 a.back,.int .i64 a.high]] #[]] 86)]) s (by simp[lk]) ⟨55,#[.agg #[.int .i64 a.back,.int .i64 a.high]],#[],rfl,⟨by simp only[go_sem],fun a3 a4 O _ _ _ _ _ P Q R S h=>by simp only[go_sem];exact pZ a O ⟨P,Q,R,S⟩ h⟩⟩)
 generalize bI ro c (.cells #[.func (.func 55) #[.agg #[.int .i64 a.back,.int .i64 a.high]] #[]] 86)=a5 at z w l y
 refine fY hJ y ?_
 replace i:=i.mono l
 replace j:=j.mono l
 simp only[bg] at w
 have T:=aM.tl u
 refine bX hJ _ (ji j u0 i ([(ei a)]) z N) fun v U a6 V W=>?_
 obtain ⟨X,Y,Z,ab,rfl,m⟩:=W
 have ad:=m.oc;simp only[bw] at ad
 simp only[bg] at V
 refine aC ?_
 try simp only[*,go_sem]
 refine au fun ae a7 B=>?_;have a8:=aM.cons B T;try simp only[aj] at B
 try simp only[*,go_sem]
 refine aa hJ (aa hJ (ag hJ ?_))
 simp only[*,go_sem]
 revert h;refine jC hJ (by simp only[*,go_sem]) (fun al h=>?_) fun al h=>?_
 ·obtain rfl:=sI h
  refine aa hJ (ag hJ ?_)
  simp only[*,go_sem]
  refine av ?_
  simp only[*,go_sem]
 refine aE hJ (aa hJ ?_)
 refine dA hJ mixed 6 ⟨U,[(ae,bl k.1 X Y Z ab),(q,.cells #[.int .i64 a.back,.int .i64 a.high] 31),(p,bk u0 s1 d f g)]⟩ (by simp only[*,go_sem]) (by kernel_rfl) ?_
 revert h;refine bS fun a9 ao h=>?_
 simp only[*,go_sem]
 refine ⟨_,bu hJ fun F n=>qg k.1 (m.mono (bM n)) a ao,b6 ?_⟩
 revert h;refine bS fun ba ar h=>?_
 obtain rfl:=sI h
 try simp only[*,go_sem]
 refine ⟨_,bu hJ fun F n=>kZ k.1 (m.mono (bM n)) a ar,?_⟩
 try simp only[*,go_sem]
 refine av ?_
 simp only[*,go_sem]
def tC (a:aY)(st:Bool):Option (Fl Bool Unit):=
 some (.br 1000000000 true)
def qu (u0:an):Option Bool:=
 ah (kN (tC) (mb u0) false) fun o=>aK o (fun b=>some false) (fun k a=>cond (k==1000000000) (some a) (none)) (fun _=>none)
theorem yx {ro:Addr->Option Value}(u0:an){s1 c d g:Value}(k:bx ro u0 s1 c d g){r:Bool}(h:qu u0=some r):ay Tryz.prog 92 #[bv u0 s1 c d g] ⟨ro,[]⟩ (fun v _=>v= .bool r):=by
 unfold qu at h
 refine ay.sZ Tryz.func92 rfl Tryz.ntmps92 Tryz.results92 (by simp) fun main J hJ A D hd hs=>?_
 have E:=hs 0
 clear hs
 refine aa hJ (ag hJ ?_)
 simp only[*,go_sem]
 refine au fun n x F=>?_;try simp only[aj] at F
 refine au fun l z G=>?_;try simp only[aj] at G
 try simp only[*,go_sem]
 refine aa hJ (aa hJ (ag hJ ?_))
 simp only[*,go_sem]
 revert h;refine bS fun Q H o=>?_
 refine sY hJ aY.v (by simp only[*,go_sem]) (qn u0 k.e k.p k.y k.t) (by kernel_rfl) (by kernel_rfl) (ρ:=Unit) (fun (I:Bool) K=>K=(l,.cells #[.bool I] 4)::(n,bl u0 s1 c d g)::[]) (f:=tC) H ?_ ?_ (by decide) ?_ ?_
 ·exact rfl
 ·rintro d33 L q M s u R h main J hJ _ rfl
  unfold tC at h
  try dsimp only at h
  obtain rfl:=sI h
  generalize i:kQ _ _ _=m
  have S:sz m=6:=by rw[<-i,sX];simp only[*,go_sem]
  have T:m.defers=[]:=by rw[<-i];rfl
  have U:slot m 2= .pointer (some ⟨l,0,none⟩):=by rw[<-i,lU];simp only[*,go_sem]
  have V:slot m 5= .agg #[.int .i64 u.e0,.int .i64 u.e1,.int .i64 u.e2]:=by rw[<-i,lU];simp only[*,go_sem]
  clear i D hd E
  refine fo hJ fun b a=>?_
  replace a:aA ro ((L,.loop q)::(d33,.deferred (some []))::(l,.cells #[.bool s] 4)::(n,bl u0 s1 c d g)::[]):=a
  have W:=a.hd
  have X:=a.tl.hd
  have z:=a.tl.tl.hd
  have x:=a.tl.tl.tl.hd
  clear a
  replace b:=b.nd
  simp only[keys,List.map_cons,List.map_nil,List.map_append,List.cons_append,List.nil_append,List.nodup_cons,List.mem_cons,List.mem_append,List.not_mem_nil,or_false,not_or] at b
  refine aE hJ ?_
  simp only[nM,go_sem]
  refine ⟨q,by simp only[*,go_sem],M,?_⟩
  try simp only[*,go_sem]
  refine aU hJ (aa hJ ?_)
  refine ag hJ ?_
  simp only[*,go_sem]
  refine av ?_
  simp only[pS,kM,go_sem]
  refine ⟨{q with state:=.busy},by simp only[*,go_sem],?_⟩
  simp only[*,go_sem]
  refine ⟨_,Le.sub (List.Sublist.refl _),rfl,rfl⟩
 ·rintro N O P _ s rfl b a
  replace a:aA ro ((O,.loop P)::(N,.deferred (some []))::(l,.cells #[.bool s] 4)::(n,bl u0 s1 c d g)::[]):=a
  have Y:=a.hd
  have Z:=a.tl.hd
  have z:=a.tl.tl.hd
  have x:=a.tl.tl.tl.hd
  clear a
  replace b:=b.nd
  simp only[keys,List.map_cons,List.map_nil,List.map_append,List.cons_append,List.nil_append,List.nodup_cons,List.mem_cons,List.mem_append,List.not_mem_nil,or_false,not_or] at b
  refine ⟨fun j=>?_,fun k1 j=>?_⟩
  ·subst j;have h:=o;dsimp only[aK] at h
   obtain rfl:=sI h
   refine aa hJ (ag hJ ?_)
   simp only[*,go_sem]
   refine aL hJ fun w=>?_
   replace w:=w.nd
   try simp only[keys,List.map_cons,List.map_nil,List.map_append,List.cons_append,List.nil_append,List.nodup_cons,List.mem_cons,List.mem_append,List.not_mem_nil,or_false,not_or] at w
   refine av ?_
   simp only[*,go_sem]
  subst j;have h:=o;dsimp only[aK] at h
  revert h;refine cS (fun B h=>?_) fun B h=>?_
  ·obtain rfl:=sI h
   obtain rfl:k1=1000000000:=by simpa using B
   unfold sW;rw[if_pos (show (1000000000:Nat)=pV from rfl)]
   simp only[*,go_sem]
  cases h
 intro k1 ab j;subst j;have h:=o;dsimp only[aK] at h
 revert h;refine cS (fun C h=>?_) fun C h=>?_
 ·obtain rfl:k1=1000000000:=by simpa using C
  decide
 cases h
def tD (a:aY)(st:(List aY)):Option (Fl (List aY) Unit):=
 ah (dr st ([a])) fun b=>some (.nx b)
def tE (a:(List (Option aY))):Option (List aY):=
 ah (kN (tD) a ([]:List aY)) fun o=>aK o (fun b=>some b) (fun k c=>none) (fun _=>none)
theorem Db {ro:Addr->Option Value}(u:(List (Option aY))){cY:FuncId}{dD dF:Array Value}(K:kO Tryz.prog cY dD dF aY.v u ro){r:(List aY)}(h:tE u=some r):en Tryz.prog 149 #[.slice none 0 0,.func (.func cY) dD dF] ro (fun v aH=>∃w,v=w/\az ga aH w r):=by
 unfold tE at h
 refine ay.sZ Tryz.func149 rfl Tryz.ntmps149 Tryz.results149 (by simp) fun main J hJ A L hd hs=>?_
 have M:=hs 0
 have k1:=hs 1
 clear hs
 refine aa hJ (ag hJ ?_)
 simp only[*,go_sem,-h]
 refine au fun e r1 n1=>?_;try simp only[aj] at n1
 try simp only[*,go_sem,-h]
 refine aa hJ (aa hJ (ag hJ ?_))
 simp only[*,go_sem,-h]
 revert h;refine bS fun ar N o=>?_;have h:=trivial
 refine sY hJ aY.v (by simp only[*,go_sem]) K (by kernel_rfl) (by kernel_rfl) (ρ:=Unit) (fun (m:(List aY)) O=>∃(d7:Option Addr) (c:Nat) (d:List (Nat×Obj)),O=(e,.cells #[.slice d7 m.length c] 111)::d/\aW ga ro 141 (.slice d7 m.length c) m d/\m.length<=c) (f:=tD) N ?_ ?_ (by decide) ?_ ?_
 ·exact ⟨none,0,[],rfl,aW.nil _ _ _,Nat.le_refl _⟩
 ·rintro d4 p i P v6 a a0 h main J hJ _ ⟨d7,c,d,rfl,q,Q⟩
  unfold tD at h
  try dsimp only at h
  generalize j:kQ _ _ _=n
  have a2:sz n=13:=by rw[<-j,sX];simp only[*,go_sem]
  have a3:n.defers=[]:=by rw[<-j];rfl
  have a4:slot n 2= .pointer (some ⟨e,0,none⟩):=by rw[<-j,lU];simp only[*,go_sem]
  have a5:slot n 7= .agg #[.int .i64 a.e0,.int .i64 a.e1,.int .i64 a.e2]:=by rw[<-j,lU];simp only[*,go_sem]
  clear j L hd M k1
  refine fo hJ fun g b=>?_
  replace b:aA ro ((p,.loop i)::(d4,.deferred (some []))::(e,.cells #[.slice d7 v6.length c] 111)::d):=b
  have r3:=b.hd
  have a6:=b.tl.hd
  have r1:=b.tl.tl.hd
  clear b
  replace g:=g.nd
  simp only[keys,List.map_cons,List.map_nil,List.map_append,List.cons_append,List.nil_append,List.nodup_cons,List.mem_cons,List.mem_append,List.not_mem_nil,or_false,not_or] at g
  refine aL hJ fun R=>?_
  refine ag hJ ?_
  simp only[*,go_sem,-h]
  refine au fun y a7 z=>?_;have a8:=aM.cons z R;try simp only[aj] at z
  try simp only[*,go_sem,-h]
  simp only[nM,go_sem]
  refine ⟨i,by simp only[*,go_sem],P,?_⟩
  try simp only[*,go_sem,-h]
  refine aU hJ ?_
  refine aL hJ fun S=>?_
  refine ag hJ ?_
  revert h;refine bS fun a9 T h=>?_
  obtain ⟨U,B⟩:=cW T
  simp only[*,go_sem,-h]
  refine au fun C V D=>?_;have W:=aM.cons D S;try simp only[aj] at D
  try simp only[*,go_sem,-h]
  refine dI (r:=ga) (l:=v6) (x:=a) (cs:=#[.int .i64 a.e0,.int .i64 a.e1,.int .i64 a.e2]) (e2:=141) [(C,.cells #[.int .i64 a.e0,.int .i64 a.e1,.int .i64 a.e2] 141),(y,.cells #[.int .i64 a.e0,.int .i64 a.e1,.int .i64 a.e2] 141),(p,.loop {i with state:=.busy}),(d4,.deferred (some [])),(e,.cells #[.slice d7 v6.length c] 111)] [] q W U rfl (by simp only[*,go_sem,-h]) V rfl rfl xA xA BD BG rfl BE (by decide) (by decide) (fun ba E s d X bb=>?_)
  simp only[List.append_nil,List.cons_append,List.nil_append,List.append_assoc] at X
  subst d
  rw[<-B] at s;clear B
  obtain ⟨d28,Y,rfl,Z⟩:=s.len
  refine ⟨⟨ro,(C,.cells #[.int .i64 a.e0,.int .i64 a.e1,.int .i64 a.e2] 141)::(y,.cells #[.int .i64 a.e0,.int .i64 a.e1,.int .i64 a.e2] 141)::(p,.loop {i with state:=.busy})::(d4,.deferred (some []))::(e,.cells #[.slice d7 v6.length c] 111)::E⟩,Le.refl _,?_⟩
  refine aC ?_
  try simp only[*,go_sem,-h]
  obtain rfl:=sI h
  simp only[pS,kM,go_sem]
  refine ⟨{i with state:=.busy},by simp only[*,go_sem],?_⟩
  simp only[*,go_sem]
  refine ⟨_,Le.sub (List.Sublist.cons _ (List.Sublist.cons _ (List.Sublist.refl _))),rfl,d28,Y,E,rfl,s,Z⟩
 ·rintro d49 F G _ v6 ⟨d7,c,d,rfl,q,Q⟩ g b
  replace b:aA ro ((F,.loop G)::(d49,.deferred (some []))::(e,.cells #[.slice d7 v6.length c] 111)::d):=b
  have ab:=b.hd
  have ad:=b.tl.hd
  have r1:=b.tl.tl.hd
  clear b
  replace g:=g.nd
  simp only[keys,List.map_cons,List.map_nil,List.map_append,List.cons_append,List.nil_append,List.nodup_cons,List.mem_cons,List.mem_append,List.not_mem_nil,or_false,not_or] at g
  refine ⟨fun k=>?_,fun k1 k=>?_⟩
  ·subst k;have h:=o;dsimp only[aK] at h
   refine aa hJ ?_
   refine aL hJ fun bc=>?_
   refine ag hJ ?_
   simp only[*,go_sem,-h]
   obtain rfl:=sI h
   refine aL hJ fun H=>?_
   obtain ⟨bd,ae,al,I,ao⟩:=q.eC [(F,.loop G),(d49,.deferred (some [])),(e,.cells #[.slice d7 v6.length c] 111)] [] H (aA.cons ab (aA.cons ad (aA.cons r1 (aA.nil _))))
   clear H
   refine cM hJ ao ?_
   obtain ⟨bj,bk,-⟩:=I.op
   simp only[bg] at al
   refine aL hJ fun t=>?_
   replace t:=t.nd
   try simp only[keys,List.map_cons,List.map_nil,List.map_append,List.cons_append,List.nil_append,List.nodup_cons,List.mem_cons,List.mem_append,List.not_mem_nil,or_false,not_or] at t
   refine av ?_
   simp only[*,go_sem]
   exact ⟨_,ae,Le.sub (List.nil_sublist _),_,rfl,I⟩
  subst k;have h:=o;dsimp only[aK] at h
  cases h
 intro k1 bl k;subst k;have h:=o;dsimp only[aK] at h
 cases h
def tF (u0:(List (Option aY))):Option (List aY):=
 ah (tE u0) fun a=>some a
theorem yy {ro:Addr->Option Value}(u0:(List (Option aY))){dj:FuncId}{dJ dK:Array Value}(c:kO Tryz.prog dj dJ dK aY.v u0 ro){r:(List aY)}(h:tF u0=some r):en Tryz.prog 126 #[.func (.func dj) dJ dK] ro (fun v aH=>∃a,v=a/\az ga aH a r):=by
 unfold tF at h
 refine ay.go Tryz.func126 rfl Tryz.ntmps126 Tryz.results126 (by simp) fun main J hJ A g hd hs=>?_
 have i:=hs 0
 clear hs
 refine aa hJ (ag hJ ?_)
 simp only[*,go_sem]
 refine aa hJ (ag hJ ?_)
 revert h;refine bS fun j d h=>?_
 obtain rfl:=sI h
 simp only[*,go_sem]
 refine bX hJ _ (Db (cY:=dj) (dD:=dJ) (dF:=dK) u0 c d) fun v k e l f=>?_
 obtain ⟨m,rfl,b⟩:=f
 obtain ⟨d8,n,rfl,o,p,-⟩:=id b
 refine aC ?_
 try simp only[*,go_sem]
 refine av ?_
 simp only[*,go_sem]
 exact ⟨_,e,Le.sub (List.nil_sublist _),_,rfl,b⟩
def gy (u0:an)(c:(List (an->Option Int))):Option (cI×Int):=
 ah (eY u0 c) fun a=>cond ((a.2 != 0)) (some ((⟨(⟨0,0,(⟨0,0⟩:ak),([]:(List bZ)),([]:(List b7)),([]:(List cA)),([]:(List bP))⟩:an),([]:(List aY))⟩:cI),a.2)) (ah (tF (mb a.1)) fun b=>cond (((b.length:Int)==0)) (some ((⟨(⟨0,0,(⟨0,0⟩:ak),([]:(List bZ)),([]:(List b7)),([]:(List cA)),([]:(List bP))⟩:an),([]:(List aY))⟩:cI),9)) (some ((⟨a.1,b⟩:cI),0)))
theorem iD {ro:Addr->Option Value}(N:cP ro)(u0:an){s1 c d f:Value}(G:bx ro u0 s1 c d f)(B:(List (an->Option Int))){H:Value}(I:az (cK) ro H B){r:(cI×Int)}(h:gy u0 B=some r):en Tryz.prog 73 #[bv u0 s1 c d f,H] ro (fun v aH=>∃K w1 w2 w3 w4,v= .tuple #[.agg #[.int .i64 r.1.book.bF,.int .i64 r.1.book.bJ,.int .i64 r.1.book.aT.num,.int .i64 r.1.book.aT.den,K,w1,w2,w3,w4],.int .i64 r.2]/\bx aH r.1.book K w1 w2 w3/\az ga aH w4 r.1.all):=by
 obtain ⟨d31,ae,rfl,al,ao,-⟩:=id I
 unfold gy at h
 have O:=G.oc;simp only[bw] at O
 refine ay.go Tryz.func73 rfl Tryz.ntmps73 Tryz.results73 (by simp) fun main J hJ A ar hd hs=>?_
 have a0:=hs 0
 have k1:=hs 1
 clear hs
 refine aa hJ (ag hJ ?_)
 simp only[*,go_sem]
 refine au fun C g P=>?_;try simp only[aj] at P
 refine au fun D i Q=>?_;try simp only[aj] at Q
 try simp only[*,go_sem]
 refine aa hJ (ag hJ ?_)
 revert h;refine bS fun b R h=>?_
 simp only[*,go_sem]
 refine bX hJ _ (ji N u0 G B I R) fun v S j E k=>?_
 obtain ⟨m,n,o,q,rfl,a⟩:=k
 have T:=a.oc;simp only[bw] at T
 replace i:=E.hd
 replace g:=E.tl.hd
 simp only[bg] at E
 refine aC ?_
 try simp only[*,go_sem]
 refine au fun F s U=>?_;try simp only[aj] at U
 try simp only[*,go_sem]
 refine aa hJ (aa hJ (ag hJ ?_))
 simp only[*,go_sem]
 revert h;refine jC hJ (by simp only[*,go_sem]) (fun V h=>?_) fun V h=>?_
 ·obtain rfl:=sI h
  refine aa hJ (ag hJ ?_)
  simp only[*,go_sem]
  refine av ?_
  simp only[*,go_sem]
  exact ⟨_,j,Le.sub (List.nil_sublist _),_,_,_,_,_,rfl,⟨az.nil _ _,az.nil _ _,az.nil _ _,az.nil _ _⟩,az.nil _ _⟩
 refine aE hJ (aa hJ ?_)
 refine iy hJ mixed [] (.rd 0 (.rd 1 (.pure 2 (.two 3 (.pure 4 (.one 5 (.one 6 .done))) 5 (.one 3 (.pure 4 (.one 6 .done))))))) ⟨S,[(F,bl b.1 m n o q),(D,.cells #[.int .i64 0,.int .i64 0,.int .i64 0,.int .i64 0,.slice none 0 0,.slice none 0 0,.slice none 0 0,.slice none 0 0,.slice none 0 0] 113),(C,bk u0 s1 c d f)]⟩ (by simp only[*,go_sem]) (by kernel_rfl) ?_
 simp only[*,go_sem]
 refine ja ?_ ?_
 ·revert h;refine bS fun a2 W h=>?_
  simp only[*,go_sem]
  refine bX hJ _ (yy (dj:=112) (dJ:=#[bv b.1 m n o q]) (dK:=#[]) (mb b.1) (qn b.1 a.e a.p a.y a.t) W) fun v a3 u w k=>?_
  obtain ⟨a4,rfl,L⟩:=k
  replace a:=a.mono u
  replace s:=w.hd
  replace i:=w.tl.hd
  replace g:=w.tl.tl.hd
  simp only[bg] at w
  obtain ⟨d80,a5,rfl,a6,a7,-⟩:=id L
  have a8:=eu (l:=[(F,bl b.1 m n o q),(D,.cells #[.int .i64 0,.int .i64 0,.int .i64 0,.int .i64 0,.slice none 0 0,.slice none 0 0,.slice none 0 0,.slice none 0 0,.slice none 0 0] 113),(C,bk u0 s1 c d f)]) u (aA.cons s (aA.cons i (aA.cons g (aA.nil _))))
  refine ⟨by simp only[*,go_sem],?_⟩
  refine bO ?_
  try simp only[*,go_sem]
  refine au fun a9 ba X=>?_;try simp only[aj] at X
  try simp only[*,go_sem]
  refine aa hJ (aa hJ (ag hJ ?_))
  simp only[*,go_sem]
  revert h;refine jC hJ (by simp only[*,go_sem]) (fun Y h=>?_) fun Y h=>?_
  ·obtain rfl:=sI h
   refine aa hJ (ag hJ ?_)
   simp only[*,go_sem]
   refine av ?_
   simp only[*,go_sem]
   exact ⟨_,(j).trans u,Le.sub (List.nil_sublist _),_,_,_,_,_,rfl,⟨az.nil _ _,az.nil _ _,az.nil _ _,az.nil _ _⟩,az.nil _ _⟩
  obtain rfl:=sI h
  refine aE hJ (aa hJ ?_)
  refine ag hJ ?_
  simp only[*,go_sem]
  refine av ?_
  simp only[*,go_sem]
  exact ⟨_,(j).trans u,Le.sub (List.nil_sublist _),_,_,_,_,_,rfl,a,L⟩
 revert h;refine bS fun bb Z h=>?_
 simp only[*,go_sem]
 refine au fun bc bd ab=>?_;try simp only[aj] at ab
 try simp only[*,go_sem]
 refine bX hJ _ (yy (dj:=112) (dJ:=#[bv b.1 m n o q]) (dK:=#[]) (mb b.1) (qn b.1 a.e a.p a.y a.t) Z) fun v bj x z k=>?_
 obtain ⟨bm,rfl,M⟩:=k
 replace a:=a.mono x
 replace s:=z.tl.hd
 replace i:=z.tl.tl.hd
 replace g:=z.tl.tl.tl.hd
 simp only[bg] at z
 obtain ⟨d96,bo,rfl,br,bs,-⟩:=id M
 have bz:=eu (l:=[(F,bl b.1 m n o q),(D,.cells #[.int .i64 0,.int .i64 0,.int .i64 0,.int .i64 0,.slice none 0 0,.slice none 0 0,.slice none 0 0,.slice none 0 0,.slice none 0 0] 113),(C,bk u0 s1 c d f)]) x (aA.cons s (aA.cons i (aA.cons g (aA.nil _))))
 refine ⟨by simp only[*,go_sem],?_⟩
 refine bO ?_
 try simp only[*,go_sem]
 refine aa hJ (aa hJ (ag hJ ?_))
 simp only[*,go_sem]
 revert h;refine jC hJ (by simp only[*,go_sem]) (fun ad h=>?_) fun ad h=>?_
 ·obtain rfl:=sI h
  refine aa hJ (ag hJ ?_)
  simp only[*,go_sem]
  refine av ?_
  simp only[*,go_sem]
  exact ⟨_,(j).trans x,Le.sub (List.nil_sublist _),_,_,_,_,_,rfl,⟨az.nil _ _,az.nil _ _,az.nil _ _,az.nil _ _⟩,az.nil _ _⟩
 obtain rfl:=sI h
 refine aE hJ (aa hJ ?_)
 refine ag hJ ?_
 simp only[*,go_sem]
 refine av ?_
 simp only[*,go_sem]
 exact ⟨_,(j).trans x,Le.sub (List.nil_sublist _),_,_,_,_,_,rfl,a,M⟩
def tG (a:Int)(i56:Nat)(b:Int)(st:(List b7)):Option (Fl (List b7) an):=
 ah (dr st ([(⟨b,a⟩:b7)])) fun c=>some (.nx c)
def qv (u0:an)(a:Int)(b:(List Int)):Option an:=
 ah (qq u0.props) fun c=>ah (bB (tG a) 0 b c) fun o=>aK o (fun d=>some (⟨u0.bF,u0.bJ,u0.aT,u0.aB,d,u0.aR,u0.told⟩:an)) (fun _ _=>none) (fun r=>some r)
theorem Dc {ro:Addr->Option Value}(u0:an){s1 s b c:Value}(g:bx ro u0 s1 s b c)(i:Int)(d:(List Int)){D:Value}(E:az rI ro D d){r:an}(h:qv u0 i d=some r):en Tryz.prog 132 #[bv u0 s1 s b c,.int .i64 i,D] ro (fun v aH=>∃F w1 w2 w3,v=bv r F w1 w2 w3/\bx aH r F w1 w2 w3):=by
 obtain ⟨d31,b4,rfl,b5,U,-⟩:=id E
 unfold qv at h
 have V:=g.oc;simp only[bw] at V
 refine ay.go Tryz.func132 rfl Tryz.ntmps132 Tryz.results132 (by simp) fun main J hJ A W hd hs=>?_
 have X:=hs 0
 have k1:=hs 1
 have Y:=hs 2
 clear hs
 refine aa hJ (ag hJ ?_)
 simp only[*,go_sem]
 refine au fun k Z ab=>?_;try simp only[aj] at ab
 refine au fun o ad ae=>?_;try simp only[aj] at ae
 try simp only[*,go_sem]
 refine aa hJ ?_
 refine aL hJ fun ca=>?_
 refine ag hJ ?_
 revert h;refine bS fun al ao h=>?_
 simp only[*,go_sem]
 refine fK hJ (aN:=[]) [(o,bz 83),(k,bl u0 s1 s b c)] [] _ (yo u0.props g.p ao) (fun cb G H u w cd=>?_)
 simp only[List.append_nil,List.cons_append,List.nil_append,List.append_assoc] at w
 subst u
 obtain ⟨d45,ar,rfl,a0⟩:=H.len
 refine ⟨⟨ro,(o,bz 83)::(k,bl u0 s1 s b c)::G⟩,Le.refl _,?_⟩
 refine aC ?_
 try simp only[*,go_sem]
 refine aa hJ (aa hJ ?_)
 refine aL hJ fun cf=>?_
 refine ag hJ ?_
 simp only[*,go_sem]
 refine aU hJ ?_
 revert h;refine bS fun a2 j a3=>?_
 refine bU hJ [8,17,18,19,20,21,22,23,24,25,26,27,28,29,30,31] (fun m a4 F'=>∃(i56:Nat) (d51:Option Addr) (f:Nat) (z:List (Nat×Obj)) (a:(List b7)),m=d.length - i56/\i56<=d.length/\bB (tG i) i56 (d.drop i56) a=some a2/\F'=⟨ro,(o,bz 83)::(k,bl u0 s1 (sl d51 a f) b c)::z⟩/\aW dX ro 146 (.slice d51 a.length f) a z/\a.length<=f/\slot a4 17= .int .i64 (i56:Int)) d.length ?_ ?_
 ·refine ⟨0,d45,ar,G,al,(Nat.sub_zero _).symm,Nat.zero_le _,j,rfl,H,a0,?_⟩
  simp only[*,go_sem]
 rintro cl cy F' I ⟨i56,d51,f,z,a,rfl,cS,j,rfl,K,c0,da⟩
 obtain ⟨a5,a6,a7⟩:=I.pick [1,3,6,15,16] (by decide)
 simp only[*,go_sem] at a5 a6 a7
 clear I W hd X k1 Y
 refine aa hJ (ag hJ ?_)
 simp only[*,go_sem]
 refine aa hJ ?_
 rcases Nat.lt_or_ge i56 d.length with a8|L
 ·refine bD hJ (by simp only[*,go_sem]) ?_
  refine aE hJ ?_
  obtain ⟨q,B⟩:∃x,d[i56]?=some x:=⟨_,List.getElem?_eq_getElem a8⟩
  rw[cN B] at j
  revert j;refine bS fun db h a9=>?_
  unfold tG at h
  try dsimp only at h
  obtain ⟨dd,ba,bb,bc,M⟩:=E.el _ _ B
  obtain rfl:ba=[.int .i64 q]:=bc
  cases bb
  have bd:=M 0 _ rfl;simp only[go_sem] at bd
  clear M B
  refine aa hJ (aU hJ (aa hJ ?_))
  refine aL hJ fun df=>?_
  refine ag hJ ?_
  simp only[*,go_sem]
  refine aL hJ fun bj=>?_
  refine ag hJ ?_
  revert h;refine bS fun bk bm h=>?_
  obtain rfl:=sI h
  obtain ⟨bo,N⟩:=cW bm
  simp only[*,go_sem]
  refine au fun O br P=>?_;have bs:=aM.cons P bj;try simp only[aj] at P
  try simp only[*,go_sem]
  refine dI (r:=dX) (l:=a) (x:=(⟨q,i⟩:b7)) (cs:=#[.int .i64 q,.int .i64 i]) (e2:=146) [(O,.cells #[.int .i64 q,.int .i64 i] 146),(o,bz 83),(k,bl u0 s1 (sl d51 a f) b c)] [] K bs bo rfl (by simp only[*,go_sem]) br rfl rfl jJ jJ pL pN rfl pM (by decide) (by decide) (fun dk Q C u w dp=>?_)
  simp only[List.append_nil,List.cons_append,List.nil_append,List.append_assoc] at w
  subst u
  rw[<-N] at C;clear N
  obtain ⟨d74,b0,rfl,b1⟩:=C.len
  refine ⟨⟨ro,(O,.cells #[.int .i64 q,.int .i64 i] 146)::(o,bz 83)::(k,bl u0 s1 (sl d51 a f) b c)::Q⟩,Le.refl _,?_⟩
  refine aC ?_
  try simp only[*,go_sem]
  have dq:=b9 (n:=i56) (by have:=U;omega)
  refine ag hJ ?_
  simp only[*,go_sem]
  refine ⟨d.length - (i56+1),by omega,_,Le.sub (List.Sublist.cons _ (List.Sublist.refl _)),i56+1,d74,b0,Q,bk,rfl,by omega,a9,rfl,C,b1,?_⟩
  simp only[*,go_sem]
 have ds:=Nat.not_lt.2 L
 refine bK hJ (by simp only[*,go_sem]) ?_
 rw[List.drop_eq_nil_of_le L] at j
 obtain rfl:=sI j;clear j
 have h:=a3
 dsimp only[aK] at h
 obtain rfl:=sI h
 refine bR ?_
 simp only[go_sem]
 refine aa hJ ?_
 refine aL hJ fun dt=>?_
 refine ag hJ ?_
 simp only[*,go_sem]
 refine aL hJ fun R=>?_
 obtain ⟨du,S,b2,T,b3⟩:=K.eC [(o,bl u0 s1 (sl d51 a f) b c),(k,bl u0 s1 (sl d51 a f) b c)] [] R (aA.cons ad (aA.cons Z (aA.nil _)))
 clear R
 refine cM hJ b3 ?_
 obtain ⟨dv,dC,-⟩:=T.op
 replace g:=g.mono S
 simp only[bg] at b2
 refine av ?_
 simp only[*,go_sem]
 exact ⟨_,S,Le.sub (List.nil_sublist _),_,_,_,_,rfl,⟨g.e,T,g.y,g.t⟩⟩
def tH (u0:an)(a:(List Int))(st:((List (List Int))×Int)):Option (Fl ((List (List Int))×Int) (List (List Int))):=
 ah (fy u0 st.2) fun b=>cond (b) (ah (qs a) fun c=>ah (dr c ([st.2])) fun d=>ah (dr st.1 ([d])) fun e=>some (.nx (e,(IntKind.i64.wrap (st.2+1))))) (some (.bk (st.1,st.2)))
def tJ (u0:an)(a:(List Int))(st:((List (List Int))×Int)):Option (Fl ((List (List Int))×Int) (List (List Int))):=
 ah (fy u0 st.2) fun b=>cond (b) (ah (qs a) fun c=>ah (dr c ([st.2])) fun d=>ah (dr st.1 ([d])) fun e=>some (.nx (e,(IntKind.i64.wrap (st.2+1))))) (some (.bk (st.1,st.2)))
def tK (u0:an)(i47:Nat)(a:(List Int))(st:(List (List Int))):Option (Fl (List (List Int)) (List (List Int))):=
 ah (bL u0.aB 0) fun b=>cond (decide (0<(a.length:Int))) (ah (bL a (IntKind.i64.wrap ((a.length:Int) - 1))) fun c=>ah (bE (tH u0 a) fu (st,(IntKind.i64.wrap (c+1)))) fun o=>aK o (fun d=>some (.nx d.1)) (fun _ _=>none) (fun r=>some (.rt r))) (ah (bE (tJ u0 a) fu (st,b.aG)) fun o=>aK o (fun e=>some (.nx e.1)) (fun _ _=>none) (fun r=>some (.rt r)))
def qw (u0:an)(a:(List (List Int))):Option (List (List Int)):=
 ah (bB (tK u0) 0 a ([]:List (List Int))) fun o=>aK o (fun b=>some b) (fun _ _=>none) (fun r=>some r)
theorem yz {ro:Addr->Option Value}(u0:an){s1 a b c:Value}(j:bx ro u0 s1 a b c)(s:(List (List Int))){bo:Value}(Q:az (rL rI) ro bo s){r:(List (List Int))}(h:qw u0 s=some r):en Tryz.prog 88 #[bv u0 s1 a b c,bo] ro (fun v aH=>∃br,v=br/\az (rL rI) aH br r):=by
 obtain ⟨d3,c4,rfl,ik,il,-⟩:=id j.e
 obtain ⟨d31,im,rfl,iv,bs,-⟩:=id Q
 unfold qw at h
 refine ay.go Tryz.func88 rfl Tryz.ntmps88 Tryz.results88 (by simp) fun main J hJ A fa hd hs=>?_
 have fb:=hs 0
 have k1:=hs 1
 clear hs
 refine aa hJ (ag hJ ?_)
 simp only[*,go_sem]
 refine au fun d u fg=>?_;try simp only[aj] at fg
 try simp only[*,go_sem]
 refine aa hJ (ag hJ ?_)
 simp only[*,go_sem]
 refine aa hJ (aa hJ (ag hJ ?_))
 simp only[*,go_sem]
 refine aU hJ ?_
 revert h;refine bS fun fi F fp=>?_
 refine bU hJ [5,7,8,9,12,13,14,15,16,17,18,19,20,21,22,23,24,25,26,27,28,29,30,31,32,33,34,35,36,37,38,39,40,41,42,43,44,45,46] (fun m w F'=>∃(i47:Nat) (y:Addr->Option Value) (d38:Option Addr) (G:Nat) (K:List (Nat×Obj)) (z:(List (List Int))),m=s.length - i47/\i47<=s.length/\bB (tK u0) i47 (s.drop i47) z=some fi/\F'=⟨y,(d,bl u0 (sl d3 u0.aB c4) a b c)::K⟩/\Ext ro y/\aW (rL rI) y 46 (.slice d38 z.length G) z K/\z.length<=G/\slot w 12= .int .i64 (i47:Int)/\slot w 5= .slice d38 z.length G) s.length ?_ ?_
 ·refine ⟨0,ro,none,0,[],([]:List (List Int)),(Nat.sub_zero _).symm,Nat.zero_le _,F,rfl,Ext.refl _,aW.nil _ _ _,Nat.le_refl _,?_⟩
  simp only[*,go_sem]
 rintro ix bz F' b0 ⟨i47,y,d38,G,K,z,rfl,j1,F,rfl,L,Z,b1,b2,b3⟩
 refine fo hJ fun _ b4=>?_
 replace Q:=Q.mono L
 replace j:=j.mono L
 replace u:=b4.hd
 simp only[bg] at b4
 obtain ⟨ab,ad,ae⟩:=b0.pick [2,4,10,11] (by decide)
 simp only[*,go_sem] at ab ad ae
 clear b0 fa hd fb k1
 refine aa hJ (ag hJ ?_)
 simp only[*,go_sem]
 refine aa hJ ?_
 rcases Nat.lt_or_ge i47 s.length with fr|b5
 ·refine bD hJ (by simp only[*,go_sem]) ?_
  refine aE hJ ?_
  obtain ⟨R,al⟩:∃x,s[i47]?=some x:=⟨_,List.getElem?_eq_getElem fr⟩
  rw[cN al] at F
  revert F;refine bS fun j2 h ca=>?_
  unfold tK at h
  try dsimp only at h
  obtain ⟨kh,kj,fs,ft,cb⟩:=Q.el _ _ al
  obtain ⟨kk,rfl,t⟩:=ft;obtain ⟨d56,kl,rfl,km,kn,kp⟩:=id t
  cases fs
  have fv:=cb 0 _ rfl;simp only[go_sem] at fv
  clear cb al
  refine aa hJ (aU hJ (aa hJ ?_))
  refine aL hJ fun ks=>?_
  refine ag hJ ?_
  simp only[*,go_sem]
  refine aa hJ ?_
  refine aL hJ fun kt=>?_
  refine ag hJ ?_
  revert h;refine bS fun cd fw h=>?_
  obtain ⟨kv,kx,cf⟩:=cJ fw
  obtain ⟨f,fx,gg,gl,ao⟩:=j.e.el _ _ cf
  obtain rfl:fx=cd.cells:=gl
  cases gg
  have gn:=ao 0 _ rfl;simp only[go_sem] at gn
  have gp:=ao 1 _ rfl;simp only[go_sem] at gp
  clear ao cf
  try simp only[*,go_sem]
  refine aa hJ (aa hJ ?_)
  refine aL hJ fun ky=>?_
  refine ag hJ ?_
  simp only[*,go_sem]
  revert h;refine jC hJ (by simp only[*,go_sem]) (fun gB h=>?_) fun gB h=>?_
  ·refine aL hJ fun k0=>?_
   refine ag hJ ?_
   revert h;refine bS fun cl gC h=>?_
   obtain ⟨k2,lb,cy⟩:=cJ gC
   obtain ⟨lh,gM,gT,gV,cS⟩:=t.el _ _ cy
   obtain rfl:gM=[.int .i64 cl]:=gV
   cases gT
   have g0:=cS 0 _ rfl;simp only[go_sem] at g0
   clear cS cy
   try simp only[*,go_sem]
   refine aa hJ ?_
   refine aL hJ fun lj=>?_
   refine ag hJ ?_
   simp only[*,go_sem]
   refine aU hJ ?_
   revert h;refine bS fun g1 S g2=>?_
   refine bU hJ [5,9,33,34,35,36,37,38,39,40,41,42,43,44,45] (fun m w F'=>∃(H:Addr->Option Value) (d75:Option Addr) (M:Nat) (k:List (Nat×Obj)) (B:(List (List Int))) (g:Int),bE (tH u0 R) m (B,g)=some g1/\F'=⟨H,(d,bl u0 (sl (some f) u0.aB c4) a b c)::k⟩/\Ext y H/\aW (rL rI) H 46 (.slice d75 B.length M) B k/\B.length<=M/\slot w 5= .slice d75 B.length M/\slot w 9= .int .i64 g) fu ?_ ?_
   ·refine ⟨y,d38,G,K,z,(IntKind.i64.wrap (cl+1)),S,rfl,Ext.refl _,Z,b1,?_⟩
    simp only[*,go_sem]
   rintro ar g3 F' a0 ⟨H,d75,M,k,B,g,S,rfl,T,N,g4,lk,ll⟩
   refine fo hJ fun _ c0=>?_
   replace t:=t.mono T
   replace j:=j.mono T
   replace u:=c0.hd
   simp only[bg] at c0
   obtain ⟨ha,hc,hf⟩:=a0.pick [2,4,7,8,10,11,12,13,15,16,17,18,21,22,23,24,25,26,27,28,30,31,32] (by decide)
   simp only[*,go_sem] at ha hc hf
   have ln:c9 [5,7,8,9,12,13,14,15,16,17,18,19,20,21,22,23,24,25,26,27,28,29,30,31,32,33,34,35,36,37,38,39,40,41,42,43,44,45,46] g3 bz:=(a0.ir (by decide)).trans (by simp only[*,go_sem])
   clear a0 ab ad ae b3 b2
   obtain _|ar:=ar
   ·exact absurd S (by simp only[bE,reduceCtorEq,not_false_eq_true])
   revert S;refine bS fun lo h a2=>?_
   unfold tH at h
   try dsimp only at h
   refine aa hJ (aa hJ ?_)
   refine aL hJ fun lr=>?_
   refine ag hJ ?_
   revert h;refine bS fun lv hg h=>?_
   simp only[*,go_sem]
   refine aJ hJ _ (p5 u0 (j.mono aI) g hg) ?_
   try simp only[*,go_sem]
   revert h;refine jC hJ (by simp only[*,go_sem]) (fun hh h=>?_) fun hh h=>?_
   ·refine aE hJ (aa hJ ?_)
    refine aU hJ ?_
    refine aL hJ fun lx=>?_
    refine ag hJ ?_
    revert h;refine bS fun hi hj h=>?_
    simp only[*,go_sem]
    refine fK hJ (aN:=[]) [(d,bl u0 (sl (some f) u0.aB c4) a b c)] k _ (yp R t hj) (fun ly hk da p q hl=>?_)
    simp only[List.append_nil,List.cons_append,List.nil_append,List.append_assoc] at q
    subst p
    obtain ⟨d133,lL,rfl,l1⟩:=da.len
    refine ⟨⟨H,(d,bl u0 (sl (some f) u0.aB c4) a b c)::(hk++k)⟩,Le.refl _,?_⟩
    refine aC ?_
    revert h;refine bS fun U hn h=>?_
    obtain ⟨ho,db⟩:=cW hn
    try simp only[*,go_sem]
    refine au fun C dd df=>?_;have hp:=aM.cons df hl;try simp only[aj] at df
    try simp only[*,go_sem]
    refine dI (r:=rI) (l:=hi) (x:=g) (cs:=#[.int .i64 g]) (e2:=3) [(C,ic g),(d,bl u0 (sl (some f) u0.aB c4) a b c)] k da hp ho rfl (by simp only[*,go_sem]) dd rfl rfl e6 e6 jG jI rfl jH (by decide) (by decide) (fun l2 dk a3 p q dp=>?_)
    simp only[List.append_nil,List.cons_append,List.nil_append,List.append_assoc] at q
    subst p
    rw[<-db] at a3;clear db
    obtain ⟨d145,a4,rfl,l3⟩:=a3.len
    obtain ⟨a5,V,a6,dq,hq⟩:=a3.eC [(C,ic g),(d,bl u0 (sl (some f) u0.aB c4) a b c)] k dp (aA.cons dd (aA.cons u (N.iu)))
    have hr:=aM.sub (l:=(C,ic g)::(d,bl u0 (sl (some f) u0.aB c4) a b c)::k) (l':=(C,ic g)::(d,bl u0 (sl (some f) u0.aB c4) a b c)::(dk++k)) [(C,ic g),(d,bl u0 (sl (some f) u0.aB c4) a b c)] dk k (by first|rfl|simp only[List.append_nil,List.cons_append,List.nil_append,List.append_assoc]|(simp only[List.append_nil,List.cons_append,List.nil_append,List.append_assoc];rfl)) (by first|rfl|simp only[List.append_nil,List.cons_append,List.nil_append,List.append_assoc]|(simp only[List.append_nil,List.cons_append,List.nil_append,List.append_assoc];rfl)) dp
    refine ⟨⟨a5,(C,ic g)::(d,bl u0 (sl (some f) u0.aB c4) a b c)::k⟩,hq,?_⟩
    obtain ⟨l4,ma,-⟩:=dq.op
    replace t:=t.mono V
    replace j:=j.mono V
    replace u:=a6.tl.hd
    replace N:=N.mono V a6.tl.tl
    simp only[bg] at a6
    refine aC ?_
    revert h;refine bS fun ht hv h=>?_
    obtain rfl:=sI h
    obtain ⟨hx,ds⟩:=cW hv
    try simp only[*,go_sem]
    refine au fun dt hy du=>?_;have hz:=aM.cons du hr;try simp only[aj] at du
    try simp only[*,go_sem]
    refine dI (r:=(rL rI)) (l:=B) (x:=U) (cs:=#[.slice d145 U.length a4]) (e2:=46) [(dt,.cells #[.slice d145 U.length a4] 46),(C,ic g),(d,bl u0 (sl (some f) u0.aB c4) a b c)] [] N hz hx ⟨_,rfl,dq⟩ (by simp only[*,go_sem]) hy rfl rfl jK jK pI pK rfl pJ (by decide) (by decide) (fun mf dv a7 p q mi=>?_)
    simp only[List.append_nil,List.cons_append,List.nil_append,List.append_assoc] at q
    subst p
    rw[<-ds] at a7;clear ds
    obtain ⟨d165,hA,rfl,hB⟩:=a7.len
    refine ⟨⟨a5,(dt,.cells #[.slice d145 U.length a4] 46)::(C,ic g)::(d,bl u0 (sl (some f) u0.aB c4) a b c)::dv⟩,Le.refl _,?_⟩
    refine aC ?_
    try simp only[*,go_sem]
    refine aL hJ fun ml=>?_
    refine ag hJ ?_
    simp only[*,go_sem]
    refine ⟨ar,Nat.lt_succ_self _,_,Le.sub (List.Sublist.cons _ (List.Sublist.cons _ (List.Sublist.refl _))),a5,d165,hA,dv,ht,(IntKind.i64.wrap (g+1)),a2,rfl,(T.trans V),a7,hB,?_⟩
    simp only[*,go_sem]
   obtain rfl:=sI h
   refine bR ?_
   simp only[go_sem]
   obtain rfl:=sI a2;clear a2
   have h:=g2
   dsimp only[aK] at h
   obtain rfl:=sI h
   have hD:=b9 (n:=i47) (by have:=bs;omega)
   refine ag hJ ?_
   simp only[*,go_sem]
   refine ⟨s.length - (i47+1),by omega,_,Le.sub (List.Sublist.refl _),i47+1,H,d75,M,k,B,rfl,by omega,ca,rfl,(L.trans T),N,g4,?_⟩
   simp only[*,go_sem]
  refine aE hJ (aa hJ ?_)
  refine aL hJ fun mn=>?_
  refine ag hJ ?_
  simp only[*,go_sem]
  refine aU hJ ?_
  revert h;refine bS fun hE W hF=>?_
  refine bU hJ [5,9,33,34,35,36,37,38,39,40,41,42,43,44,45] (fun m w F'=>∃(I:Addr->Option Value) (d172:Option Addr) (O:Nat) (o:List (Nat×Obj)) (D:(List (List Int))) (i:Int),bE (tJ u0 R) m (D,i)=some hE/\F'=⟨I,(d,bl u0 (sl (some f) u0.aB c4) a b c)::o⟩/\Ext y I/\aW (rL rI) I 46 (.slice d172 D.length O) D o/\D.length<=O/\slot w 5= .slice d172 D.length O/\slot w 9= .int .i64 i) fu ?_ ?_
  ·refine ⟨y,d38,G,K,z,cd.aG,W,rfl,Ext.refl _,Z,b1,?_⟩
   simp only[*,go_sem]
  rintro a8 hG F' a9 ⟨I,d172,O,o,D,i,W,rfl,X,P,hI,mr,mx⟩
  refine fo hJ fun _ dC=>?_
  replace t:=t.mono X
  replace j:=j.mono X
  replace u:=dC.hd
  simp only[bg] at dC
  obtain ⟨hK,hL,hM⟩:=a9.pick [2,4,7,8,10,11,12,13,15,16,17,18,21,22,23,24,32] (by decide)
  simp only[*,go_sem] at hK hL hM
  have my:c9 [5,7,8,9,12,13,14,15,16,17,18,19,20,21,22,23,24,25,26,27,28,29,30,31,32,33,34,35,36,37,38,39,40,41,42,43,44,45,46] hG bz:=(a9.ir (by decide)).trans (by simp only[*,go_sem])
  clear a9 ab ad ae b3 b2
  obtain _|a8:=a8
  ·exact absurd W (by simp only[bE,reduceCtorEq,not_false_eq_true])
  revert W;refine bS fun m1 h ba=>?_
  unfold tJ at h
  try dsimp only at h
  refine aa hJ (aa hJ ?_)
  refine aL hJ fun m2=>?_
  refine ag hJ ?_
  revert h;refine bS fun na hN h=>?_
  simp only[*,go_sem]
  refine aJ hJ _ (p5 u0 (j.mono aI) i hN) ?_
  try simp only[*,go_sem]
  revert h;refine jC hJ (by simp only[*,go_sem]) (fun hP h=>?_) fun hP h=>?_
  ·refine aE hJ (aa hJ ?_)
   refine aU hJ ?_
   refine aL hJ fun nb=>?_
   refine ag hJ ?_
   revert h;refine bS fun hQ hR h=>?_
   simp only[*,go_sem]
   refine fK hJ (aN:=[]) [(d,bl u0 (sl (some f) u0.aB c4) a b c)] o _ (yp R t hR) (fun nd hS dE p q hT=>?_)
   simp only[List.append_nil,List.cons_append,List.nil_append,List.append_assoc] at q
   subst p
   obtain ⟨d230,nf,rfl,nm⟩:=dE.len
   refine ⟨⟨I,(d,bl u0 (sl (some f) u0.aB c4) a b c)::(hS++o)⟩,Le.refl _,?_⟩
   refine aC ?_
   revert h;refine bS fun Y hV h=>?_
   obtain ⟨hX,dT⟩:=cW hV
   try simp only[*,go_sem]
   refine au fun E ea eb=>?_;have hY:=aM.cons eb hT;try simp only[aj] at eb
   try simp only[*,go_sem]
   refine dI (r:=rI) (l:=hQ) (x:=i) (cs:=#[.int .i64 i]) (e2:=3) [(E,ic i),(d,bl u0 (sl (some f) u0.aB c4) a b c)] o dE hY hX rfl (by simp only[*,go_sem]) ea rfl rfl e6 e6 jG jI rfl jH (by decide) (by decide) (fun nn ec bb p q ed=>?_)
   simp only[List.append_nil,List.cons_append,List.nil_append,List.append_assoc] at q
   subst p
   rw[<-dT] at bb;clear dT
   obtain ⟨bc,bd,rfl,np⟩:=bb.len
   obtain ⟨bj,eh,bk,et,hZ⟩:=bb.eC [(E,ic i),(d,bl u0 (sl (some f) u0.aB c4) a b c)] o ed (aA.cons ea (aA.cons u (P.iu)))
   have h0:=aM.sub (l:=(E,ic i)::(d,bl u0 (sl (some f) u0.aB c4) a b c)::o) (l':=(E,ic i)::(d,bl u0 (sl (some f) u0.aB c4) a b c)::(ec++o)) [(E,ic i),(d,bl u0 (sl (some f) u0.aB c4) a b c)] ec o (by first|rfl|simp only[List.append_nil,List.cons_append,List.nil_append,List.append_assoc]|(simp only[List.append_nil,List.cons_append,List.nil_append,List.append_assoc];rfl)) (by first|rfl|simp only[List.append_nil,List.cons_append,List.nil_append,List.append_assoc]|(simp only[List.append_nil,List.cons_append,List.nil_append,List.append_assoc];rfl)) ed
   refine ⟨⟨bj,(E,ic i)::(d,bl u0 (sl (some f) u0.aB c4) a b c)::o⟩,hZ,?_⟩
   obtain ⟨ns,nx,-⟩:=et.op
   replace u:=bk.tl.hd
   replace P:=P.mono eh bk.tl.tl
   simp only[bg] at bk
   refine aC ?_
   revert h;refine bS fun h1 h2 h=>?_
   obtain rfl:=sI h
   obtain ⟨h3,ev⟩:=cW h2
   try simp only[*,go_sem]
   refine au fun eQ h4 eS=>?_;have h5:=aM.cons eS h0;try simp only[aj] at eS
   try simp only[*,go_sem]
   refine dI (r:=(rL rI)) (l:=D) (x:=Y) (cs:=#[.slice bc Y.length bd]) (e2:=46) [(eQ,.cells #[.slice bc Y.length bd] 46),(E,ic i),(d,bl u0 (sl (some f) u0.aB c4) a b c)] [] P h5 h3 ⟨_,rfl,et⟩ (by simp only[*,go_sem]) h4 rfl rfl jK jK pI pK rfl pJ (by decide) (by decide) (fun nz e0 bm p q nA=>?_)
   simp only[List.append_nil,List.cons_append,List.nil_append,List.append_assoc] at q
   subst p
   rw[<-ev] at bm;clear ev
   obtain ⟨h6,h7,rfl,h8⟩:=bm.len
   refine ⟨⟨bj,(eQ,.cells #[.slice bc Y.length bd] 46)::(E,ic i)::(d,bl u0 (sl (some f) u0.aB c4) a b c)::e0⟩,Le.refl _,?_⟩
   refine aC ?_
   try simp only[*,go_sem]
   refine aL hJ fun nH=>?_
   refine ag hJ ?_
   simp only[*,go_sem]
   refine ⟨a8,Nat.lt_succ_self _,_,Le.sub (List.Sublist.cons _ (List.Sublist.cons _ (List.Sublist.refl _))),bj,h6,h7,e0,h1,(IntKind.i64.wrap (i+1)),ba,rfl,(X.trans eh),bm,h8,?_⟩
   simp only[*,go_sem]
  obtain rfl:=sI h
  refine bR ?_
  simp only[go_sem]
  obtain rfl:=sI ba;clear ba
  have h:=hF
  dsimp only[aK] at h
  obtain rfl:=sI h
  have hD:=b9 (n:=i47) (by have:=bs;omega)
  refine ag hJ ?_
  simp only[*,go_sem]
  refine ⟨s.length - (i47+1),by omega,_,Le.sub (List.Sublist.refl _),i47+1,I,d172,O,o,D,rfl,by omega,ca,rfl,(L.trans X),P,hI,?_⟩
  simp only[*,go_sem]
 have nI:=Nat.not_lt.2 b5
 refine bK hJ (by simp only[*,go_sem]) ?_
 rw[List.drop_eq_nil_of_le b5] at F
 obtain rfl:=sI F;clear F
 have h:=fp
 dsimp only[aK] at h
 obtain rfl:=sI h
 refine bR ?_
 simp only[go_sem]
 refine aa hJ ?_
 refine aL hJ fun nK=>?_
 refine ag hJ ?_
 simp only[*,go_sem]
 refine aL hJ fun e1=>?_
 obtain ⟨nQ,h9,ib,e3,ih⟩:=Z.eC [(d,bl u0 (sl d3 u0.aB c4) a b c)] [] e1 (aA.cons u (aA.nil _))
 clear e1
 refine cM hJ ih ?_
 obtain ⟨nR,nT,-⟩:=e3.op
 simp only[bg] at ib
 refine av ?_
 simp only[*,go_sem]
 exact ⟨_,(L).trans h9,Le.sub (List.nil_sublist _),_,rfl,e3⟩
def mm (u0:Int):Option Bool:=
 some (u0 != u0)
theorem qx {ro:Addr->Option Value}(u0:Int){r:Bool}(h:mm u0=some r):ay Tryz.prog 172 #[.int .i64 u0] ⟨ro,[]⟩ (fun v _=>v= .bool r):=by
 unfold mm at h
 obtain rfl:=sI h
 refine ay.go Tryz.func172 rfl Tryz.ntmps172 Tryz.results172 (by simp) fun main J hJ A a hd hs=>?_
 have b:=hs 0
 clear hs
 refine aa hJ (ag hJ ?_)
 simp only[*,go_sem]
 refine aa hJ (ag hJ ?_)
 simp only[*,go_sem]
 refine av ?_
 simp only[*,go_sem]
def tL (u0:Int)(a:Int):Option Bool:=
 ah (mm u0) fun b=>cond (b) (ah (mm a) fun c=>cond (!c) (some true) (some (decide (u0<a)))) (some (decide (u0<a)))
theorem Dd {ro:Addr->Option Value}(u0:Int)(a:Int){r:Bool}(h:tL u0 a=some r):ay Tryz.prog 194 #[.int .i64 u0,.int .i64 a] ⟨ro,[]⟩ (fun v _=>v= .bool r):=by
 unfold tL at h
 refine ay.go Tryz.func194 rfl Tryz.ntmps194 Tryz.results194 (by simp) fun main J hJ A f hd hs=>?_
 have g:=hs 0
 have k1:=hs 1
 clear hs
 refine aa hJ (ag hJ ?_)
 simp only[*,go_sem]
 refine aa hJ (ag hJ ?_)
 revert h;refine bS fun i b h=>?_
 simp only[*,go_sem]
 refine aJ hJ _ (qx u0 b) (aC ?_)
 revert h;refine cS (fun c h=>?_) fun c h=>?_
 ·revert h;refine bS fun j d h=>?_
  try simp only[*,go_sem]
  refine aJ hJ _ (qx a d) (aC ?_)
  revert h;refine cS (fun e h=>?_) fun e h=>?_
  ·obtain rfl:=sI h
   try simp only[*,go_sem]
   refine av ?_
   simp only[*,go_sem]
  obtain rfl:=sI h
  try simp only[*,go_sem]
  refine av ?_
  simp only[*,go_sem]
 obtain rfl:=sI h
 try simp only[*,go_sem]
 refine av ?_
 simp only[*,go_sem]
def tN (c:Int)(st:(Int×(List Int))):Option (Fl (Int×(List Int)) (Unit×(List Int))):=
 cond (decide (c<st.1)) (ah (bL st.2 st.1) fun b=>ah (bL st.2 (IntKind.i64.wrap (st.1 - 1))) fun a=>ah (tL b a) fun d=>cond (d) (ah (bL (st.2.set (st.1).toNat a) (IntKind.i64.wrap (st.1 - 1))) fun e=>some (.nx ((IntKind.i64.wrap (st.1 - 1)),((st.2.set (st.1).toNat a).set (IntKind.i64.wrap (st.1 - 1)).toNat b)))) (some (.bk (st.1,st.2)))) (some (.bk (st.1,st.2)))
def tO (a:Int)(b:Int)(st:(Int×(List Int))):Option (Fl (Int×(List Int)) (Unit×(List Int))):=
 cond (decide (st.1<b)) (ah (bE (tN a) fu (st.1,st.2)) fun o=>aK o (fun c=>some (.nx ((IntKind.i64.wrap (st.1+1)),c.2))) (fun _ _=>none) (fun r=>some (.rt r))) (some (.bk (st.1,st.2)))
def tP (u0:(List Int))(a:Int)(b:Int):Option (Unit×(List Int)):=
 cond (List.isEmpty u0) none (ah (bE (tO a b) fu ((IntKind.i64.wrap (a+1)),u0)) fun o=>aK o (fun c=>some ((),c.2)) (fun _ _=>none) (fun r=>some r))
theorem De {ro:Addr->Option Value}(u0:(List Int)){w:Value}{K:List (Nat×Obj)}(x:aW rI ro 3 w u0 K)(k:Int)(z:Int){r:(Unit×(List Int))}(h:tP u0 k z=some r):ay Tryz.prog 188 #[w,.int .i64 k,.int .i64 z] ⟨ro,K⟩ (fun v G=>∃L,(v= .tuple #[]/\aW rI ro 3 w r.2 L)/\Le ⟨ro,L⟩ G):=by
 obtain ⟨d1,c2,rfl,b4⟩:=x.len
 unfold tP at h
 revert h;refine cS (fun M h=>?_) fun M h=>?_
 ·cases h
 obtain ⟨b,ab,rfl,rfl,b5⟩:=x.sO M
 refine ay.go Tryz.func188 rfl Tryz.ntmps188 Tryz.results188 (by simp) fun main J hJ A ad hd hs=>?_
 have ae:=hs 0
 have k1:=hs 1
 have al:=hs 2
 clear hs
 refine aa hJ ?_
 refine aL hJ fun ca=>?_
 refine ag hJ ?_
 simp only[*,go_sem]
 refine aU hJ ?_
 revert h;refine bS fun ao n ar=>?_
 refine bU hJ [6,7,10,11,12,13,14,15,16,17,18,19,20,21,22,23,24,25,26,27,28,29,30,31,32,33,34,35,36,37,38,39,40,41,42,43,44,45,46,47,48] (fun m B F'=>∃(p:Array Value) (j:Int) (q:(List Int)),bE (tO k z) m (j,q)=some ao/\F'=⟨ro,[(b,Obj.cells p 3)]⟩/\aW rI ro 3 (.slice (some ⟨b,0,none⟩) u0.length c2) q [(b,Obj.cells p 3)]/\slot B 6= .int .i64 j) fu ?_ ?_
 ·refine ⟨ab,(IntKind.i64.wrap (k+1)),u0,n,rfl,x,?_⟩
  simp only[*,go_sem]
 rintro s a0 F' N ⟨p,j,q,n,rfl,O,a2⟩
 obtain ⟨P,Q,R⟩:=N.pick [0,1,2] (by decide)
 simp only[*,go_sem] at P Q R
 clear N ad hd ae k1 al
 obtain _|s:=s
 ·exact absurd n (by simp only[bE,reduceCtorEq,not_false_eq_true])
 revert n;refine bS fun cb h t=>?_
 unfold tO at h
 try dsimp only at h
 refine aa hJ (aa hJ ?_)
 refine aL hJ fun cd=>?_
 refine ag hJ ?_
 simp only[*,go_sem]
 revert h;refine jC hJ (by simp only[*,go_sem]) (fun a3 h=>?_) fun a3 h=>?_
 ·refine aE hJ (aa hJ ?_)
  refine aU hJ (aa hJ ?_)
  refine aL hJ fun cf=>?_
  refine ag hJ ?_
  simp only[*,go_sem]
  refine aU hJ ?_
  revert h;refine bS fun a4 u S=>?_
  refine bU hJ [7,16,17,18,19,20,21,22,23,24,25,26,27,28,29,30,31,32,33,34,35,36,37,38,39,40,41,42,43,44,45,46,47,48] (fun m B F'=>∃(d:Array Value) (a:Int) (e:(List Int)),bE (tN k) m (a,e)=some a4/\F'=⟨ro,[(b,Obj.cells d 3)]⟩/\aW rI ro 3 (.slice (some ⟨b,0,none⟩) u0.length c2) e [(b,Obj.cells d 3)]/\slot B 7= .int .i64 a) fu ?_ ?_
  ·refine ⟨p,j,q,u,rfl,O,?_⟩
   simp only[*,go_sem]
  rintro C a5 F' D ⟨d,a,e,u,rfl,g,cl⟩
  obtain ⟨a6,a7,a8⟩:=D.pick [0,1,2,6,10,11,12,15] (by decide)
  simp only[*,go_sem] at a6 a7 a8
  have cy:c9 [6,7,10,11,12,13,14,15,16,17,18,19,20,21,22,23,24,25,26,27,28,29,30,31,32,33,34,35,36,37,38,39,40,41,42,43,44,45,46,47,48] a5 a0:=(D.ir (by decide)).trans (by simp only[*,go_sem])
  clear D P Q R a2
  obtain _|C:=C
  ·exact absurd u (by simp only[bE,reduceCtorEq,not_false_eq_true])
  revert u;refine bS fun c0 h l=>?_
  unfold tN at h
  try dsimp only at h
  refine aa hJ (aa hJ ?_)
  refine aL hJ fun da=>?_
  refine dc hJ mixed 15 1 (by simp only[*,go_sem]) (by kernel_rfl) ?_
  revert h;refine cS (fun a9 h=>?_) fun a9 h=>?_
  ·revert h;refine bS fun f ba h=>?_
   obtain ⟨db,dd,T⟩:=cJ ba
   have df:a<((u0.length:Nat):Int):=by have:=g.count;omega
   obtain ⟨bb,bc,bd⟩:=g.jN T
   obtain rfl:bb=[.int .i64 f]:=bc
   have U:=bd 0 _ rfl;simp only[go_sem] at U;have dk:=(Array.getElem?_eq_some_iff.1 U).1
   revert h;refine bS fun c bj h=>?_
   obtain ⟨dp,dq,bk⟩:=cJ bj
   have ds:IntKind.i64.wrap (a - 1)<((u0.length:Nat):Int):=by have:=g.count;omega
   obtain ⟨bl,bm,bo⟩:=g.jN bk
   obtain rfl:bl=[.int .i64 c]:=bm
   have V:=bo 0 _ rfl;simp only[go_sem] at V;have dt:=(Array.getElem?_eq_some_iff.1 V).1
   revert h;refine bS fun du br h=>?_
   try simp only[*,go_sem]
   refine ⟨_,bu hJ fun F dv=>Dd f c br,b6 ?_⟩
   try simp only[*,go_sem]
   revert h;refine jC hJ (by simp only[*,go_sem]) (fun bs h=>?_) fun bs h=>?_
   ·refine aE hJ (aa hJ ?_)
    refine aU hJ ?_
    refine aL hJ fun dC=>?_
    refine iy hJ mixed [15,16,17] (.pure 0 (.pure 1 (.pure 2 (.pure 3 (.pure 4 (.pure 5 (.pure 6 (.pure 7 (.pure 8 (.rd 9 (.pure 10 (.pure 11 (.pure 12 (.rd 13 (.pure 14 (.last 15 (.pure 16 (.last 17 .done)))))))))))))))))) ⟨ro,[(b,Obj.cells d 3)]⟩ (by simp only[*,go_sem]) (by kernel_rfl) ?_
    have E:aW rI ro 3 (.slice (some ⟨b,0,none⟩) u0.length c2) (e.set (a).toNat c) [(b,Obj.cells (dz d (a).toNat [.int .i64 c]) 3)]:=by have H:=g.sN (i:=(a).toNat) (y:=c) (by have:=T;have:=(List.getElem?_eq_some_iff.1 this).1;simpa only[List.length_set] using this) (cs:=[.int .i64 c]) rfl;simpa only[pX,s3,Nat.mul_one,Nat.add_zero] using H
    revert h;refine bS fun bz b0 h=>?_
    obtain rfl:=sI h
    obtain ⟨dE,dT,W⟩:=cJ b0
    have ea:IntKind.i64.wrap (a - 1)<((u0.length:Nat):Int):=by have:=E.count;omega
    obtain ⟨b1,b2,b3⟩:=E.jN W
    obtain rfl:b1=[.int .i64 bz]:=b2
    have X:=b3 0 _ rfl;simp only[go_sem] at X;have eb:=(Array.getElem?_eq_some_iff.1 X).1
    have Y:aW rI ro 3 (.slice (some ⟨b,0,none⟩) u0.length c2) ((e.set (a).toNat c).set (IntKind.i64.wrap (a - 1)).toNat f) [(b,Obj.cells (dz (dz d (a).toNat [.int .i64 c]) (IntKind.i64.wrap (a - 1)).toNat [.int .i64 f]) 3)]:=by have H:=E.sN (i:=(IntKind.i64.wrap (a - 1)).toNat) (y:=f) (by have:=W;have:=(List.getElem?_eq_some_iff.1 this).1;simpa only[List.length_set] using this) (cs:=[.int .i64 f]) rfl;simpa only[pX,s3,Nat.mul_one,Nat.add_zero] using H
    try simp only[*,go_sem]
    obtain ⟨Z,I⟩:∃o,o=(dz (dz d (a).toNat [.int .i64 c]) (IntKind.i64.wrap (a - 1)).toNat [.int .i64 f]):=⟨_,rfl⟩
    refine cM (F:=⟨ro,[(b,Obj.cells Z 3)]⟩) hJ (by rw[I];exact Le.refl _) ?_
    rw[<-I] at Y
    clear I
    refine aL hJ fun ec=>?_
    refine ag hJ ?_
    simp only[*,go_sem]
    refine ⟨C,Nat.lt_succ_self _,_,Le.sub (List.Sublist.refl _),Z,(IntKind.i64.wrap (a - 1)),((e.set (a).toNat c).set (IntKind.i64.wrap (a - 1)).toNat f),l,rfl,Y,?_⟩
    simp only[*,go_sem]
   obtain rfl:=sI h
   refine bR ?_
   simp only[go_sem]
   obtain rfl:=sI l;clear l
   have h:=S
   dsimp only[aK] at h
   obtain rfl:=sI h
   refine aL hJ fun ed=>?_
   refine ag hJ ?_
   simp only[*,go_sem]
   refine ⟨s,Nat.lt_succ_self _,_,Le.sub (List.Sublist.refl _),d,(IntKind.i64.wrap (j+1)),e,t,rfl,g,?_⟩
   simp only[*,go_sem]
  obtain rfl:=sI h
  try simp only[*,go_sem]
  refine bK hJ (by simp only[*,go_sem]) ?_
  refine bR ?_
  simp only[go_sem]
  obtain rfl:=sI l;clear l
  have h:=S
  dsimp only[aK] at h
  obtain rfl:=sI h
  refine aL hJ fun eh=>?_
  refine ag hJ ?_
  simp only[*,go_sem]
  refine ⟨s,Nat.lt_succ_self _,_,Le.sub (List.Sublist.refl _),d,(IntKind.i64.wrap (j+1)),e,t,rfl,g,?_⟩
  simp only[*,go_sem]
 obtain rfl:=sI h
 refine bR ?_
 simp only[go_sem]
 obtain rfl:=sI t;clear t
 have h:=ar
 dsimp only[aK] at h
 obtain rfl:=sI h
 simp only[*,go_sem]
 exact ⟨_,O,Le.sub (List.Sublist.refl _)⟩
def tQ (u0:(List Int))(st:(Int×Int×Int×Bool×Bool)):Option (Fl (Int×Int×Int×Bool×Bool) (Unit×(List Int))):=
 cond (decide ((IntKind.i64.wrap (st.2.1 - st.1))<=12)) (ah (tP u0 st.1 st.2.1) fun a=>some (.rt ((),a.2))) (none)
def tR (u0:(List Int))(a:Int)(b:Int)(c:Int):Option (Unit×(List Int)):=
 cond (List.isEmpty u0) none (ah (bE (tQ u0) fu (a,b,c,true,true)) fun o=>aK o (fun d=>some ((),u0)) (fun _ _=>none) (fun r=>some r))
theorem Df {ro:Addr->Option Value}(u0:(List Int)){f:Value}{p:List (Nat×Obj)}(g:aW rI ro 3 f u0 p)(i:Int)(j:Int)(k:Int){r:(Unit×(List Int))}(h:tR u0 i j k=some r):ay Tryz.prog 175 #[f,.int .i64 i,.int .i64 j,.int .i64 k] ⟨ro,p⟩ (fun v G=>∃b,(v= .tuple #[]/\aW rI ro 3 f r.2 b)/\Le ⟨ro,b⟩ G):=by
 obtain ⟨d1,c2,rfl,Q⟩:=g.len
 unfold tR at h
 revert h;refine cS (fun q h=>?_) fun q h=>?_
 ·cases h
 obtain ⟨s,y,rfl,rfl,R⟩:=g.sO q
 refine ay.go Tryz.func175 rfl Tryz.ntmps175 Tryz.results175 (by simp) fun main J hJ A z hd hs=>?_
 have B:=hs 0
 have k1:=hs 1
 have C:=hs 2
 have D:=hs 3
 clear hs
 refine aa hJ ?_
 refine aL hJ fun S=>?_
 refine ag hJ ?_
 simp only[*,go_sem]
 refine aa hJ ?_
 refine aL hJ fun T=>?_
 refine ag hJ ?_
 simp only[*,go_sem]
 refine aU hJ ?_
 revert h;refine bS fun E c F=>?_
 refine bU hJ [1,2,3,8,9,10,11,12,13,14,15,16,17,18,19,20,21,22,23,24,25,26,27,28,29,30,31,32,33,34,35,36,37,38,39,40,41,42,43,44,45,46,47,48,49,50,51,52,53,54,55,56,57,58,59,60,61,62,63,64,65,66,67,68,69,70,71,72,73,74,75,76,77,78,79,80,81,82,83,84,85,86,87,88,89,90,91,92,93,94,95,96,97,98,99,100,101,102,103,104,105,106,107,108,109,110,111,112,113,114,115,116,117,118,119,120,121,122,123,124,125,126,127,128,129,130,131,132,133] (fun m a F'=>∃(d:Int) (e:Int) (l:Int) (n:Bool) (o:Bool),bE (tQ u0) m (d,e,l,n,o)=some E/\F'=⟨ro,[(s,Obj.cells y 3)]⟩/\slot a 1= .int .i64 d/\slot a 2= .int .i64 e/\slot a 3= .int .i64 l/\slot a 8= .bool n/\slot a 9= .bool o) fu ?_ ?_
 ·refine ⟨i,j,k,true,true,c,rfl,?_⟩
  simp only[*,go_sem]
 rintro t U F' u ⟨d,e,l,n,o,c,rfl,V,W,X,Y,Z⟩
 obtain ⟨H,I,K⟩:=u.pick [0] (by decide)
 simp only[*,go_sem] at H I K
 clear u z hd B k1 C D
 obtain _|t:=t
 ·exact absurd c (by simp only[bE,reduceCtorEq,not_false_eq_true])
 revert c;refine bS fun ab h w=>?_
 unfold tQ at h
 try dsimp only at h
 refine aU hJ (aa hJ ?_)
 refine aL hJ fun ad=>?_
 refine ag hJ ?_
 simp only[*,go_sem]
 refine aa hJ (aa hJ ?_)
 refine aL hJ fun ae=>?_
 refine ag hJ ?_
 simp only[*,go_sem]
 revert h;refine jC hJ (by simp only[*,go_sem]) (fun L h=>?_) fun L h=>?_
 ·refine aa hJ ?_
  refine aL hJ fun al=>?_
  refine ag hJ ?_
  revert h;refine bS fun ao M h=>?_
  obtain rfl:=sI h
  simp only[*,go_sem]
  refine fK hJ [] [] _ (De u0 g d e M) (fun ar a0 N b O a2=>?_)
  obtain ⟨rfl,x⟩:=N
  obtain ⟨P,rfl⟩:=x.B1
  simp only[List.append_nil,List.cons_append,List.nil_append,List.append_assoc] at O
  subst b
  refine ⟨⟨ro,[(s,Obj.cells P 3)]⟩,Le.refl _,?_⟩
  try simp only[*,go_sem]
  obtain rfl:=sI w;clear w
  have h:=F
  dsimp only[aK] at h
  obtain rfl:=sI h
  refine av ?_
  simp only[*,go_sem]
  exact ⟨_,x,Le.sub (List.Sublist.refl _)⟩
 cases h
theorem Dg {ro:Addr->Option Value}(n:Int)(h0:0<=n)(h1:n<256):ay Tryz.prog 198 #[.int .u64 n] ⟨ro,[]⟩ (fun v _=>∃k:Int,v= .int .i64 k):=by
 refine ay.go Tryz.func198 rfl Tryz.ntmps198 Tryz.results198 (by simp) fun main J hJ A c hd hs=>?_
 have d:=hs 0
 clear hs
 have a1:¬(4294967296:Int)<=n:=by omega
 have a2:¬(65536:Int)<=n:=by omega
 have a3:¬(256:Int)<=n:=by omega
 have e:Tryz.prog.underlying 178=some (.int .u64):=by kernel_rfl
 have f:Tryz.prog.underlying 5=some (.int .u8):=by kernel_rfl
 have g:Tryz.prog.underlying 3=some (.int .i64):=by kernel_rfl
 have h:Tryz.prog.underlying 9=some .string:=by kernel_rfl
 have a4:IntKind.u8.wrap n=n:=IntWalk.u8_in n ⟨h0,by omega⟩
 repeat refine aa hJ ?_
 refine ag hJ ?_
 simp only[*,go_sem]
 repeat refine aa hJ ?_
 refine ag hJ ?_
 simp only[*,go_sem]
 repeat refine aa hJ ?_
 refine bK hJ (by simp only[*,go_sem,ge_iff_le]) ?_
 refine aE hJ ?_
 repeat refine aa hJ ?_
 refine ag hJ ?_
 simp only[*,go_sem]
 repeat refine aa hJ ?_
 refine bK hJ (by simp only[*,go_sem,ge_iff_le]) ?_
 refine aE hJ ?_
 repeat refine aa hJ ?_
 refine ag hJ ?_
 simp only[*,go_sem]
 repeat refine aa hJ ?_
 refine bK hJ (by simp only[*,go_sem,ge_iff_le]) ?_
 refine aE hJ ?_
 repeat refine aa hJ ?_
 refine ag hJ ?_
 simp only[*,go_sem]
 generalize a:ByteArray.mk _=S
 have i:S.size=256:=by rw[<-a];rfl
 have b:n.toNat<S.size:=by omega
 have hb:S[n.toNat]?=some S[n.toNat]:=by simp[b]
 simp only[hb,Option.map_some]
 refine av ?_
 simp only[*,go_sem]
 exact ⟨_,rfl⟩
theorem Dh {ro:Addr->Option Value}(n:Int)(h0:0<=n)(h1:n<256):ay Tryz.prog 176 #[.int .u64 n] ⟨ro,[]⟩ (fun v _=>∃k:Int,v= .int .i64 k):=by
 refine ay.go Tryz.func176 rfl Tryz.ntmps176 Tryz.results176 (by simp) fun main J hJ A a hd hs=>?_
 have b:=hs 0
 clear hs
 repeat refine aa hJ ?_
 refine ag hJ ?_
 simp only[*,go_sem]
 repeat refine aa hJ ?_
 refine bK hJ (by simp only[*,go_sem]) ?_
 refine aE hJ ?_
 repeat refine aa hJ ?_
 refine ag hJ ?_
 simp only[*,go_sem]
 refine (m5 (R:=fun v=>∃k:Int,v= .int .i64 k) (Dg n h0 h1) main J hJ).mono ?_
 rintro v F' ⟨⟨k,rfl⟩,rfl⟩
 refine aC ?_
 simp only[*,go_sem]
 refine av ?_
 simp only[*,go_sem]
 exact ⟨_,rfl⟩
def tS (u0:List Int):Option (Unit×List Int):=if u0.length<256 then tR u0 0 (u0.length:Int) 1 else none
theorem Di {ro:Addr->Option Value}(u0:List Int){a:Value}{aN:List (Nat×Obj)}(hg:aW rI ro 3 a u0 aN){r:Unit×List Int}(h:tS u0=some r):
  ay Tryz.prog 147 #[a] ⟨ro,aN⟩ (fun v G=>∃b,(v= .tuple #[]/\aW rI ro 3 a r.2 b)/\Le ⟨ro,b⟩ G):=by
 obtain ⟨ad,cap,rfl,le⟩:=hg.len
 unfold tS at h
 split at h
 case isFalse=>cases h
 rename_i hlen
 have f:Tryz.prog.underlying 202=some (.int .u64):=by kernel_rfl
 have g:Tryz.prog.underlying 3=some (.int .i64):=by kernel_rfl
 have a1:IntKind.u64.wrap (u0.length:Int)=(u0.length:Int):=IntWalk.u64_in _ ⟨by omega,by omega⟩
 refine ay.go Tryz.func147 rfl Tryz.ntmps147 Tryz.results147 (by simp) fun main J hJ A i hd hs=>?_
 have j:=hs 0
 clear hs
 repeat refine aa hJ ?_
 refine ag hJ ?_
 simp only[*,go_sem,-h]
 repeat refine aa hJ ?_
 refine aL hJ fun nd=>?_
 refine ag hJ ?_
 simp only[*,go_sem,-h]
 refine (m5 (R:=fun v=>∃k:Int,v= .int .i64 k) (Dh (u0.length:Int) (by omega) (by omega)) main J hJ).mono ?_
 rintro v F' ⟨⟨k,rfl⟩,rfl⟩
 refine aC ?_
 simp only[*,go_sem,-h]
 refine xV hJ [] [] (by simp) _ (Df u0 hg 0 (u0.length:Int) k (r:=r) h) (fun v l d b c m=>?_)
 obtain ⟨rfl,e⟩:=d
 simp only[List.append_nil,List.nil_append] at c
 subst c
 refine ⟨_,Le.refl _,?_⟩
 exact ⟨_,e,Le.refl _⟩
def iE (x:List Int)(j:Nat):Bool:=j==0||x.getD j 0 != x.getD (j - 1) 0
def fz (x:List Int):Nat->List Int
 |0=>[]
 |n+1=>fz x n++cond (iE x n) [x.getD n 0] []
theorem qy (x:List Int):∀n,n<=x.length->(∀j,j<n->iE x j=true)->fz x n=x.take n
 |0,_,_=>by simp[fz]
 |n+1,b,h=>by
  unfold fz
  rw[qy x n (by omega) (fun j c=>h j (by omega)),h n (by omega),List.take_succ]
  congr 1
  have a:n<x.length:=by omega
  simp[a]
theorem yA (x:List Int){j:Nat}(h:j<1):iE x j=true:=by
 obtain rfl:j=0:=by omega
 rfl
def tT (u0:List Int):Option (List Int):=cond (List.isEmpty u0) none (some (fz u0 u0.length))
theorem Dj {ro:Addr->Option Value}(u0:List Int){Q:Value}{aN:List (Nat×Obj)}(hg:aW rI ro 3 Q u0 aN){r:List Int}(h:tT u0=some r):
  ay Tryz.prog 148 #[Q] ⟨ro,aN⟩ (fun v G=>∃R,aW rI ro 3 v r R/\Le ⟨ro,R⟩ G):=by
 obtain ⟨ad,cap,rfl,le⟩:=hg.len
 unfold tT at h
 have a8:=gX h;clear h;rcases a8 with ⟨S,h⟩|⟨S,h⟩
 ·cases h
 obtain ⟨b,F,rfl,rfl,cy⟩:=hg.sO S
 cases h
 have cS:u0.length<=1000000:=by obtain ⟨_,_,_,h,_⟩:=hg;exact h
 have c0:Tryz.prog.underlying 3=some (.int .i64):=by kernel_rfl
 refine ay.go Tryz.func148 rfl Tryz.ntmps148 Tryz.results148 (by simp) fun main J hJ A a9 hd hs=>?_
 have ba:=hs 0
 clear hs
 repeat refine aa hJ ?_
 refine ag hJ ?_
 simp only[*,go_sem]
 repeat refine aa hJ ?_
 refine ag hJ ?_
 simp only[*,go_sem]
 repeat refine aa hJ ?_
 by_cases h2:u0.length<2
 ·refine bD hJ (by simp only[*,go_sem];simp;omega) ?_
  repeat refine aa hJ ?_
  refine ag hJ ?_
  simp only[*,go_sem]
  refine av ?_
  simp only[*,go_sem]
  have e:fz u0 u0.length=u0:=by
   rw[qy u0 _ (Nat.le_refl _) (fun j c=>yA u0 (by omega)),List.take_length]
  rw[e]
  exact ⟨_,hg,Le.refl _⟩
 refine bK hJ (by simp only[*,go_sem];simp;omega) ?_
 refine aE hJ ?_
 repeat refine aa hJ ?_
 refine ag hJ ?_
 simp only[*,go_sem]
 repeat refine aa hJ ?_
 refine aU hJ ?_
 refine bU hJ [3,4,5,10,11,12,13,14,15,16,17,18,19,20,21,22,23,24,25,26,27,28,29,30,31,32,33,34,35,36,37,38,39,40,41,42,43,44,45,46,47,48,49,50,51,52,53,54,55,56,57,58,59] (fun m u F'=>∃k:Nat,1<=k/\k<=u0.length/\u0.length - k<=m/\F'=⟨ro,[(b,Obj.cells F 3)]⟩/\slot u 3= .int .i64 (k:Int)/\∀j,j<k->iE u0 j=true) u0.length ?_ ?_
 ·refine ⟨1,Nat.le_refl _,by omega,by omega,rfl,?_,fun j c=>yA u0 c⟩
  simp only[*,go_sem]
  rfl
 ·rintro bb g F' B ⟨k,da,T,db,rfl,bc,H⟩
  have bd:sz g=61:=by rw[B.size];simp only[*,go_sem]
  have bj:g.defers=[]:=by rw[B.defers];simp only[*,go_sem]
  have bk:slot g 0= .slice (some ⟨b,0,none⟩) u0.length cap:=by rw[B.eH 0 (by decide)];simp only[*,go_sem]
  clear B a9 hd ba
  repeat refine aa hJ ?_
  repeat refine aa hJ ?_
  refine ag hJ ?_
  simp only[*,go_sem]
  by_cases U:k<u0.length
  ·have hb:decide (((k:Nat):Int)<(u0.length:Int))=true:=decide_eq_true (by omega)
   refine bD hJ (by simp only[*,go_sem]) ?_
   refine aE hJ ?_
   repeat refine aa hJ ?_
   refine aU hJ ?_
   repeat refine aa hJ ?_
   obtain ⟨p,rfl⟩:∃p,k=p+1:=⟨k - 1,by omega⟩
   have hw:IntKind.i64.wrap (((p+1:Nat):Int) - 1)=(p:Int):=by rw[IntWalk.i64_in _ ⟨by omega,by omega⟩];omega
   refine dA hJ mixed 9 ⟨ro,[(b,Obj.cells F 3)]⟩ (by simp only[*,go_sem]) (by kernel_rfl) ?_
   obtain ⟨l,V⟩:∃x,u0[p+1]?=some x:=⟨u0[p+1],by simp[U]⟩
   obtain ⟨I,K,L⟩:=hg.jN V
   obtain rfl:I=[.int .i64 l]:=K
   have W:=L 0 _ rfl
   simp only[go_sem] at W
   have dd:=(Array.getElem?_eq_some_iff.1 W).1
   obtain ⟨o,X⟩:∃x,u0[p]?=some x:=⟨u0[p],by simp[Nat.lt_of_succ_lt U]⟩
   obtain ⟨M,N,O⟩:=hg.jN X
   obtain rfl:M=[.int .i64 o]:=N
   have Y:=O 0 _ rfl
   simp only[go_sem] at Y
   have df:=(Array.getElem?_eq_some_iff.1 Y).1
   have dk:¬((p+1:Nat):Int)<0:=by omega
   have b2:((p+1:Nat):Int)<(u0.length:Int):=by omega
   have b3:¬(p:Int)<0:=by omega
   have b4:(p:Int)<(u0.length:Int):=by omega
   have b5:(0:Int)<=((p+1:Nat):Int):=by omega
   have dp:(0:Int)<=(p:Int):=by omega
   simp only[*,go_sem]
   have bl:u0.getD (p+1) 0=l:=by rw[List.getD_eq_getElem?_getD,V];rfl
   have bm:u0.getD p 0=o:=by rw[List.getD_eq_getElem?_getD,X];rfl
   have Z:iE u0 (p+1)=(l != o):=by unfold iE;rw[bl,Nat.add_sub_cancel,bm];simp
   clear L O
   by_cases P:l=o
   ·subst P
    refine bD hJ (by simp only[*,go_sem,beq_self_eq_true]) ?_
    repeat refine aa hJ ?_
    refine ag hJ ?_
    have dq:p+1<=u0.length:=T
    have ds:p+1<=cap:=by omega
    have dt:((p+1:Nat):Int)<=(u0.length:Int):=by omega
    have du:u0.length<=cap:=le
    have dv:¬cap=p+1:=by omega
    simp only[*,go_sem]
    have bo:slot g 4=slot g 4:=rfl
    repeat refine aa hJ ?_
    refine ag hJ ?_
    simp only[*,go_sem]
    repeat refine aa hJ ?_
    refine aU hJ ?_
    have e0:fz u0 (p+2)=u0.take (p+1):=by
     show fz u0 (p+1)++cond (iE u0 (p+1)) _ _=_
     rw[Z,qy u0 _ T H];simp
    refine bU hJ [3,5,29,30,31,32,33,34,35,36,37,38,39,40,41,42,43,44,45,46,47,48,49,50,51,52,53] (fun br u F'=>∃(m w:Nat) (arr:Array Value) (x:List Int),1<=m/\m<=u0.length - (p+1)/\u0.length - (p+1) - m<=br/\F'=⟨ro,[(b,Obj.cells arr 3)]⟩/\slot u 5= .int .i64 (m:Int)/\slot u 3= .int .i64 (w:Int)/\
     aW rI ro 3 (.slice (some ⟨b,0,none⟩) u0.length cap) x [(b,.cells arr 3)]/\x.length=u0.length/\(fz u0 (p+(1+m))).length=w/\w<=p+m/\x.take w=fz u0 (p+(1+m))/\∀j,p+m<=j->x[j]?=u0[j]?) u0.length ?_ ?_
    ·refine ⟨1,p+1,F,u0,Nat.le_refl _,by omega,by omega,rfl,?_,?_,hg,rfl,?_,Nat.le_refl _,e0.symm,fun _ _=>rfl⟩
     ·simp only[*,go_sem];rfl
     ·simp only[*,go_sem]
     ·show (fz u0 (p+2)).length=p+1
      rw[e0,List.length_take];omega
    ·rintro ab C F' s ⟨m,w,arr,x,L,O,dC,rfl,dE,dT,d,ae,t,ea,D,E⟩
     have eb:sz C=61:=by rw[s.size];simp only[*,go_sem]
     have ec:C.defers=[]:=by rw[s.defers];simp only[*,go_sem]
     have ed:slot C 0= .slice (some ⟨b,0,none⟩) u0.length cap:=by rw[s.eH 0 (by decide)];simp only[*,go_sem]
     have eh:slot C 4= .slice (some ⟨b,p+1,none⟩) (u0.length - (p+1)) (cap - (p+1)):=by rw[s.eH 4 (by decide)];simp only[*,go_sem]
     clear s bd bj bk bc bo
     repeat refine aa hJ ?_
     refine ag hJ ?_
     simp only[*,go_sem]
     by_cases et:m<u0.length - (p+1)
     ·have bs:decide (((m:Nat):Int)<((u0.length - (p+1):Nat):Int))=true:=decide_eq_true (by omega)
      refine bD hJ (by simp only[*,go_sem]) ?_
      refine aE hJ ?_
      repeat refine aa hJ ?_
      refine aU hJ ?_
      repeat refine aa hJ ?_
      obtain ⟨q,rfl⟩:∃q,m=q+1:=⟨m - 1,by omega⟩
      have ev:IntKind.i64.wrap (((q+1:Nat):Int) - 1)=(q:Int):=by rw[IntWalk.i64_in _ ⟨by omega,by omega⟩];omega
      refine dA hJ mixed 9 ⟨ro,[(b,Obj.cells arr 3)]⟩ (by simp only[*,go_sem]) (by kernel_rfl) ?_
      obtain ⟨a,al⟩:∃y,u0[p+(1+(q+1))]?=some y:=⟨u0[p+(1+(q+1))]'(by omega),List.getElem?_eq_getElem _⟩
      obtain ⟨I,K,ao⟩:=d.jN ((E _ (by omega)).trans al)
      obtain rfl:I=[.int .i64 a]:=K
      have ar:=ao 0 _ rfl
      simp only[go_sem] at ar
      have eQ:=(Array.getElem?_eq_some_iff.1 ar).1
      obtain ⟨f,a0⟩:∃y,u0[p+(1+q)]?=some y:=⟨u0[p+(1+q)]'(by omega),List.getElem?_eq_getElem _⟩
      obtain ⟨M,N,a2⟩:=d.jN ((E _ (by omega)).trans a0)
      obtain rfl:M=[.int .i64 f]:=N
      have a3:=a2 0 _ rfl
      simp only[go_sem] at a3
      have eS:=(Array.getElem?_eq_some_iff.1 a3).1
      have c1:¬((q+1:Nat):Int)<0:=by omega
      have c2:((q+1:Nat):Int)<((u0.length - (p+1):Nat):Int):=by omega
      have c3:¬(q:Int)<0:=by omega
      have c4:(q:Int)<((u0.length - (p+1):Nat):Int):=by omega
      have e2:(0:Int)<=((q+1:Nat):Int):=by omega
      have e3:(0:Int)<=(q:Int):=by omega
      simp only[*,go_sem]
      have a4:u0.getD (p+(1+(q+1))) 0=a:=by rw[List.getD_eq_getElem?_getD,al];rfl
      have bz:u0.getD (p+(1+q)) 0=f:=by rw[List.getD_eq_getElem?_getD,a0];rfl
      have bS:iE u0 (p+(1+(q+1)))=(a != f):=by
       unfold iE
       have b0:p+(1+(q+1)) - 1=p+(1+q):=by omega
       rw[b0,a4,bz]
       have:(p+(1+(q+1))==0)=false:=by simp
       rw[this,Bool.false_or]
      have e1:fz u0 (p+(1+(q+1+1)))=fz u0 (p+(1+(q+1)))++cond (a != f) [a] []:=by
       show fz u0 (p+(1+(q+1)))++cond (iE u0 (p+(1+(q+1)))) [u0.getD (p+(1+(q+1))) 0] []=_
       rw[bS,a4]
      have fa:IntKind.i64.wrap (((q+1:Nat):Int)+1)=((q+1+1:Nat):Int):=by rw[IntWalk.i64_in _ ⟨by omega,by omega⟩];omega
      clear ao a2 t
      have t:(fz u0 (p+(1+(q+1)))).length=w:=by rw[<-D,List.length_take];omega
      by_cases a5:a=f
      ·subst a5
       simp only[bne_self_eq_false,cond_false,List.append_nil] at e1
       refine bK hJ (by simp only[*,go_sem,bne_self_eq_false]) ?_
       refine aE hJ ?_
       refine ag hJ ?_
       simp only[*,go_sem]
       refine ⟨ab - 1,by omega,_,Le.refl _,q+1+1,w,arr,x,by omega,by omega,by omega,rfl,?_,?_,d,ae,by rw[e1];exact t,by omega,by rw[e1];exact D,fun j c=>E j (by omega)⟩
       ·simp only[*,go_sem]
       ·simp only[*,go_sem]
      ·have b1:(a != f)=true:=by simpa using a5
       rw[b1] at e1
       simp only[cond_true] at e1
       refine bD hJ (by simp only[*,go_sem]) ?_
       repeat refine aa hJ ?_
       refine ag hJ ?_
       have d1:(w:Int)<(u0.length:Int):=by omega
       have d2:¬(w:Int)<0:=by omega
       have d3:(0:Int)<=(w:Int):=by omega
       have fb:w<arr.size:=by omega
       simp only[*,go_sem]
       have ca:aW rI ro 3 (.slice (some ⟨b,0,none⟩) u0.length cap) (x.set w a) [(b,Obj.cells (dz arr w [.int .i64 a]) 3)]:=by
        have cb:=d.sN (i:=w) (y:=a) (by omega) (cs:=[.int .i64 a]) rfl
        simpa only[pX,Nat.mul_one,Nat.add_zero] using cb
       have fg:IntKind.i64.wrap ((w:Int)+1)=((w+1:Nat):Int):=by rw[IntWalk.i64_in _ ⟨by omega,by omega⟩];omega
       refine ag hJ ?_
       simp only[*,go_sem]
       refine ag hJ ?_
       simp only[*,go_sem]
       refine ⟨ab - 1,by omega,_,Le.refl _,q+1+1,w+1,_,x.set w a,by omega,by omega,by omega,rfl,?_,?_,ca,by rw[List.length_set];exact ae,?_,by omega,?_,fun j c=>?_⟩
       ·simp only[*,go_sem]
       ·simp only[*,go_sem]
       ·rw[e1,List.length_append,t];rfl
       ·rw[e1,<-D,List.take_succ,List.take_set_of_le (Nat.le_refl _),List.getElem?_set_self (by omega)];rfl
       ·rw[List.getElem?_set_ne (by omega)];exact E j (by omega)
     ·have bs:decide (((m:Nat):Int)<((u0.length - (p+1):Nat):Int))=false:=decide_eq_false (by omega)
      refine bK hJ (by simp only[*,go_sem]) ?_
      refine bR ?_
      simp only[go_sem]
      have a6:p+(1+m)=u0.length:=by omega
      rw[a6] at t
      have d1:(w:Int)<=(u0.length:Int):=by omega
      have d2:¬(w:Int)<0:=by omega
      have d3:(0:Int)<=(w:Int):=by omega
      have d4:w<=u0.length:=by omega
      have d5:w<=cap:=by omega
      have d6:¬cap=w:=by omega
      have d7:(0:Int)<=(w:Int):=by omega
      have d8:(w:Int)<=(cap:Int):=by omega
      have cd:w+(u0.length - w)<=arr.size:=by
       obtain ⟨ls,cf,fi,-⟩:=id d
       rcases cf with ⟨a7,_,_⟩|⟨fp,fr,fs,a7,cl,hs,hle,_⟩
       ·cases a7
       ·cases cl
        have:rI.n=1:=rfl
        rw[this,Nat.mul_one] at hs
        omega
      repeat refine aa hJ ?_
      refine ag hJ ?_
      simp only[*,go_sem,ite_false,if_false]
      refine Ci (pre:=[]) (aS:=[]) (z:=.int .i64 0) (zc:=.int .i64 0) rfl (by kernel_rfl:Tryz.prog.underlying 46=some (.slice 3)) (by kernel_rfl) rfl rfl (by omega) (by simp[aj]) cd ?_
      dsimp only[List.nil_append]
      repeat refine aa hJ ?_
      refine ag hJ ?_
      simp only[*,go_sem]
      refine av ?_
      simp only[*,go_sem]
      refine ⟨_,?_,Le.refl _⟩
      have:=d.clear (k:=w) (by omega)
      rw[D,a6] at this
      simpa only[ite_self,Nat.sub_zero] using this
   ·have ft:(l==o)=false:=by simpa using P
    refine bK hJ (by simp only[*,go_sem]) ?_
    refine aE hJ ?_
    refine ag hJ ?_
    have fu:IntKind.i64.wrap (((p+1:Nat):Int)+1)=((p+2:Nat):Int):=by rw[IntWalk.i64_in _ ⟨by omega,by omega⟩];omega
    simp only[*,go_sem]
    refine ⟨bb - 1,by omega,_,Le.refl _,p+2,by omega,by omega,by omega,rfl,by simp only[*,go_sem],fun j c=>?_⟩
    rcases Nat.lt_succ_iff_lt_or_eq.1 c with c|rfl
    ·exact H j c
    ·rw[Z];simpa using P
  ·have hb:decide (((k:Nat):Int)<(u0.length:Int))=false:=decide_eq_false (by omega)
   refine bK hJ (by simp only[*,go_sem]) ?_
   refine bR ?_
   simp only[go_sem]
   repeat refine aa hJ ?_
   refine ag hJ ?_
   simp only[*,go_sem]
   refine av ?_
   simp only[*,go_sem]
   obtain rfl:k=u0.length:=by omega
   rw[qy u0 _ (Nat.le_refl _) H,List.take_length]
   exact ⟨_,hg,Le.refl _⟩
def tU (n:Int):Option (List Int):=if 0<=n/\n<=1000 then some [] else none
theorem Dk {ro:Addr->Option Value}{R:Value->af->Prop}{n:Nat}(h0:0<n)(h1:n<=1000){own:List (Nat×Obj)}
  (h:∀(k b:Nat) (arr:Array Value),n<=k->arr.size=k->dn ⟨ro,own⟩ b->R (.slice (some ⟨b,0,none⟩) n k) ⟨ro,(b,.cells arr 3)::own⟩):
  kD Tryz.prog #[46,3] (.slice none 0 0) (.int .i64 (n:Int)) R ⟨ro,own⟩:=by
 intro ty
 have c:Tryz.prog.underlying 46=some (.slice 3):=by kernel_rfl
 have d:Tryz.prog.underlying 3=some (.int .i64):=by kernel_rfl
 have e:bQ Tryz.prog 3=some 1:=by kernel_rfl
 have f:zeroOf Tryz.prog 3=some (.int .i64 0):=by kernel_rfl
 obtain ⟨info,g,i⟩:∃info,Tryz.prog.info? 3=some info/\info.bytes=8:=⟨_,rfl,by kernel_rfl⟩
 have w1:IntKind.i64.wrap (n:Int)=(n:Int):=IntWalk.i64_in _ ⟨by omega,by omega⟩
 have c1:¬(n:Int)<0:=by omega
 have c2:¬(n:Int)*(8:Nat)>2 ^ 48:=by omega
 have c3:¬0+n<=0:=by omega
 simp only[Builtin.append_,List.getElem?_toArray,List.getElem?_cons_zero,List.getElem?_cons_succ,bf,cV,c,d,ek,e,bt,wR,if_true,cU,w1,if_neg c1,m7,g,i]
 rw[if_neg c2]
 simp only[Int.toNat_natCast,Nat.zero_add,Bool.not_true,Bool.false_eq_true,if_false]
 have c4:¬n<=0:=by omega
 have j:¬((n:Int)>IntKind.i64.max/\(True\/8=0)):=by
  have:IntKind.i64.max=9223372036854775807:=by decide
  rw[this];omega
 have l:¬Builtin.nextslicecap n 0*8>2 ^ 48:=by
  unfold Builtin.nextslicecap
  rw[if_pos (by omega)]
  omega
 have m:¬n*1=0:=by omega
 rw[if_neg c4,if_neg j,if_neg l]
 rw[rS]
 rw[if_neg (by simp[Question.forced])]
 intro t
 have a:n<=(Question.appendCap n 0 3).cut t:=Nat.le_add_right _ _
 generalize (Question.appendCap n 0 3).cut t=k at a ⊢
 refine r8 _ ?_
 simp only[Builtin.firstCells,bt,if_neg m,kr,f,oY,bf]
 intro b hb
 refine ⟨_,Le.refl _,h k b _ a ?_ hb⟩
 simp only[Array.size_append,Builtin.zeroCells,Array.size_map,Array.size_range,Value.cells]
 simp
 omega
theorem Dl {ro:Addr->Option Value}(n:Int){x:List Int}(h:tU n=some x):ay Tryz.prog 128 #[.slice none 0 0,.int .i64 n] ⟨ro,[]⟩ (fun v G=>∃c,aW rI ro 3 v x c/\Le ⟨ro,c⟩ G):=by
 unfold tU at h
 split at h
 case isFalse=>cases h
 rename_i g
 obtain rfl:=Option.some.inj h
 obtain ⟨n,rfl⟩:∃m:Nat,n=m:=⟨n.toNat,by omega⟩
 refine ay.go Tryz.func128 rfl Tryz.ntmps128 Tryz.results128 (by simp) fun main J hJ A j hd hs=>?_
 have l:=hs 0
 have k1:=hs 1
 clear hs
 repeat refine aa hJ ?_
 refine ag hJ ?_
 simp only[*,go_sem]
 repeat refine aa hJ ?_
 refine ag hJ ?_
 simp only[*,go_sem]
 repeat refine aa hJ ?_
 have o:¬(n:Int)<0:=by omega
 refine bK hJ (by simp only[*,go_sem,decide_false]) ?_
 refine aE hJ ?_
 repeat refine aa hJ ?_
 refine ag hJ ?_
 simp only[*,go_sem]
 refine yb rfl (by kernel_rfl:Tryz.prog.underlying 46=some (.slice 3)) (aC ?_)
 have e1:IntKind.i64.wrap (((0:Nat):Int) - ((0:Nat):Int))=0:=by decide
 have p:IntKind.i64.wrap ((0:Int) - (0:Int))=0:=by decide
 have e2:IntKind.i64.wrap ((n:Int) - 0)=(n:Int):=by rw[IntWalk.i64_in _ ⟨by omega,by omega⟩];omega
 simp only[*,go_sem]
 repeat refine aa hJ ?_
 refine ag hJ ?_
 simp only[*,go_sem]
 repeat refine aa hJ ?_
 by_cases d:0<n
 ·have b2:(n:Int)>0:=by omega
  refine bD hJ (by simp only[*,go_sem,decide_true]) ?_
  repeat refine aa hJ ?_
  refine ag hJ ?_
  simp only[*,go_sem]
  refine yb rfl (by kernel_rfl:Tryz.prog.underlying 46=some (.slice 3)) (aC ?_)
  simp only[*,go_sem]
  simp only[Nat.le_refl,Int.le_refl,and_self,if_true,true_and]
  refine Dk d (by omega) fun k b arr q e hb=>aC ?_
  have f:∀off sp,ro ⟨b,off,sp⟩=none:=hb.ro
  have b3:(0:Int)<=(k:Int):=by omega
  simp only[*,go_sem,Int.le_refl,and_self,if_true,ite_self,Nat.sub_zero]
  repeat refine aa hJ ?_
  refine ag hJ ?_
  simp only[*,go_sem]
  refine av ?_
  simp only[*,go_sem]
  refine ⟨[(b,.cells arr 3)],⟨[],.inr ⟨b,arr,k,rfl,rfl,?_,Nat.zero_le _,?_,fun x a=>(by cases a),f⟩,rfl,Nat.zero_le _,fun i x a=>by simp at a⟩,Le.refl _⟩
  ·show arr.size=k*1
   rw[e,Nat.mul_one]
  ·simp
 ·have b2:¬(0:Int)<(n:Int):=by omega
  refine bK hJ (by simp only[*,go_sem,decide_false]) ?_
  refine aE hJ ?_
  repeat refine aa hJ ?_
  refine ag hJ ?_
  simp only[*,go_sem]
  refine av ?_
  simp only[*,go_sem]
  exact ⟨[],aW.nil _ _ _,Le.refl _⟩
end Go.Proofs.YtipgiooobncfbaaGreatDoor
end

/- A part of the proof of a row and its tied card: Q3. -/
import Derived.Test.YtjepffnffjdloaaGreatDoorQ2
set_option linter.all false
section
namespace Go.Proofs.YtjepffnffjdloaaGreatDoor
open Go Go.Sep Go.Proofs
set_option maxRecDepth 100000
set_option maxHeartbeats 4000000
def fO (u0:Int)(a:Int)(b:Int):Option Bool:=
 cond (decide (a<=u0)) (some (decide (u0<=b))) (some false)
theorem gL {ro:Addr->Option Value}(u0:Int)(a:Int)(b:Int){r:Bool}(h:fO u0 a b=some r):aC Tryz.prog 99 #[.int .i64 u0,.int .i64 a,.int .i64 b] ⟨ro,[]⟩ (fun v _=>v= .bool r):=by
 unfold fO at h
 refine aC.go Tryz.func99 rfl Tryz.ntmps99 Tryz.results99 (by simp) fun main J hJ A d hd hs=>?_
 have e:=hs 0
 have k1:=hs 1
 have f:=hs 2
 clear hs
 refine aa hJ (ag hJ ?_)
 simp only[*,go_sem]
 refine aa hJ (ag hJ ?_)
 revert h;refine cS (fun c h=>?_) fun c h=>?_
 ·obtain rfl:=sI h
  try simp only[*,go_sem]
  refine ay ?_
  simp only[*,go_sem]
 obtain rfl:=sI h
 try simp only[*,go_sem]
 refine ay ?_
 simp only[*,go_sem]
def gr (u0:Int):Option av:=
 some (⟨u0,1⟩:av)
theorem jG {ro:Addr->Option Value}(u0:Int){r:av}(h:gr u0=some r):aC Tryz.prog 84 #[.int .i64 u0] ⟨ro,[]⟩ (fun v _=>v=r.v):=by
 unfold gr at h
 obtain rfl:=sI h
 refine aC.go Tryz.func84 rfl Tryz.ntmps84 Tryz.results84 (by simp) fun main J hJ A a hd hs=>?_
 have b:=hs 0
 clear hs
 refine aa hJ (ag hJ ?_)
 simp only[*,go_sem]
 refine ax fun c r1 n1=>?_;try simp only[au] at n1
 try simp only[*,go_sem]
 refine aa hJ (ag hJ ?_)
 simp only[*,go_sem]
 refine ay ?_
 simp only[*,go_sem]
def eL (u0:av)(a:av):Option Bool:=
 some (decide ((IntKind.i64.wrap (u0.num*a.den))<(IntKind.i64.wrap (a.num*u0.den))))
theorem jd {ro:Addr->Option Value}(u0:av)(a:av){r:Bool}(h:eL u0 a=some r):aC Tryz.prog 80 #[.agg #[.int .i64 u0.num,.int .i64 u0.den],.agg #[.int .i64 a.num,.int .i64 a.den]] ⟨ro,[]⟩ (fun v _=>v= .bool r):=by
 unfold eL at h
 obtain rfl:=sI h
 refine aC.go Tryz.func80 rfl Tryz.ntmps80 Tryz.results80 (by simp) fun main J hJ A b hd hs=>?_
 have c:=hs 0
 have k1:=hs 1
 clear hs
 refine aa hJ (ag hJ ?_)
 simp only[*,go_sem]
 refine ax fun d r1 n1=>?_;try simp only[au] at n1
 refine ax fun b2 r2 n2=>?_;try simp only[au] at n2
 try simp only[*,go_sem]
 refine aa hJ (ag hJ ?_)
 simp only[*,go_sem]
 refine ay ?_
 simp only[*,go_sem]
def qb (u0:c6)(a:Int)(b:Int):Option Bool:=
 cond (decide (a<=u0.low)) (cond (decide (u0.low<=u0.high)) (some (decide (u0.high<=b))) (some false)) (some false)
theorem AW {ro:Addr->Option Value}(u0:c6)(a:Int)(b:Int){r:Bool}(h:qb u0 a b=some r):aC Tryz.prog 97 #[.agg #[.int .i64 u0.low,.int .i64 u0.high],.int .i64 a,.int .i64 b] ⟨ro,[]⟩ (fun v _=>v= .bool r):=by
 unfold qb at h
 refine aC.go Tryz.func97 rfl Tryz.ntmps97 Tryz.results97 (by simp) fun main J hJ A e hd hs=>?_
 have f:=hs 0
 have k1:=hs 1
 have g:=hs 2
 clear hs
 refine aa hJ (ag hJ ?_)
 simp only[*,go_sem]
 refine ax fun i r1 n1=>?_;try simp only[au] at n1
 try simp only[*,go_sem]
 refine aa hJ (ag hJ ?_)
 revert h;refine cS (fun c h=>?_) fun c h=>?_
 ·revert h;refine cS (fun d h=>?_) fun d h=>?_
  ·obtain rfl:=sI h
   try simp only[*,go_sem]
   refine ay ?_
   simp only[*,go_sem]
  obtain rfl:=sI h
  try simp only[*,go_sem]
  refine ay ?_
  simp only[*,go_sem]
 obtain rfl:=sI h
 try simp only[*,go_sem]
 refine ay ?_
 simp only[*,go_sem]
def gN (u0:bA)(a:bA):Option Bool:=
 ah (eL u0.high a.high) fun b=>some b
theorem r8 {ro:Addr->Option Value}(u0:bA)(a:bA){r:Bool}(h:gN u0 a=some r):aC Tryz.prog 62 #[.agg #[.int .i64 u0.spot.an,.int .i64 u0.spot.high.num,.int .i64 u0.spot.high.den,.int .i64 u0.at_,.int .i64 u0.high.num,.int .i64 u0.high.den],.agg #[.int .i64 a.spot.an,.int .i64 a.spot.high.num,.int .i64 a.spot.high.den,.int .i64 a.at_,.int .i64 a.high.num,.int .i64 a.high.den]] ⟨ro,[]⟩ (fun v _=>v= .bool r):=by
 unfold gN at h
 refine aC.go Tryz.func62 rfl Tryz.ntmps62 Tryz.results62 (by simp) fun main J hJ A c hd hs=>?_
 have d:=hs 0
 have k1:=hs 1
 clear hs
 refine aa hJ (ag hJ ?_)
 simp only[*,go_sem]
 refine ax fun e r1 n1=>?_;try simp only[au] at n1
 refine ax fun b2 r2 n2=>?_;try simp only[au] at n2
 try simp only[*,go_sem]
 refine aa hJ (ag hJ ?_)
 revert h;refine bS fun f b h=>?_
 obtain rfl:=sI h
 simp only[*,go_sem]
 refine aM hJ _ (jd u0.high a.high b) (aD ?_)
 try simp only[*,go_sem]
 refine ay ?_
 simp only[*,go_sem]
def hO (u0:Int)(b:ak):Option Int:=
 ah (fO u0 1 20) fun a=>cond (!a) (some 1) (some 0)
theorem v5 {ro:Addr->Option Value}(u0:Int)(b:ak){s1 c d f:Value}(a:bI ro b s1 c d f){r:Int}(h:hO u0 b=some r):aC Tryz.prog 89 #[.int .i64 u0,bv b s1 c d f] ⟨ro,[]⟩ (fun v _=>v= .int .i64 r):=by
 obtain ⟨d3,c4,rfl,k,l,-⟩:=id a.e
 obtain ⟨d10,m,rfl,n,o,-⟩:=id a.p
 obtain ⟨d17,q,rfl,s,u,-⟩:=id a.y
 obtain ⟨d24,w,rfl,x,z,-⟩:=id a.t
 unfold hO at h
 refine aC.go Tryz.func89 rfl Tryz.ntmps89 Tryz.results89 (by simp) fun main J hJ A B hd hs=>?_
 have C:=hs 0
 have k1:=hs 1
 clear hs
 refine aa hJ (ag hJ ?_)
 simp only[*,go_sem]
 refine ax fun D E g=>?_;try simp only[au] at g
 try simp only[*,go_sem]
 refine aa hJ (aa hJ (ag hJ ?_))
 revert h;refine bS fun F i h=>?_
 simp only[*,go_sem]
 refine aM hJ _ (gL u0 1 20 i) (aD ?_)
 try simp only[*,go_sem]
 revert h;refine jC hJ (by simp only[*,go_sem]) (fun j h=>?_) fun j h=>?_
 ·obtain rfl:=sI h
  refine aa hJ (ag hJ ?_)
  simp only[*,go_sem]
  refine ay ?_
  simp only[*,go_sem]
 obtain rfl:=sI h
 refine aF hJ (aa hJ ?_)
 refine ag hJ ?_
 simp only[*,go_sem]
 refine ay ?_
 simp only[*,go_sem]
def er (u0:aO)(c:ak):Option Int:=
 ah (fO u0.back 1 20) fun a=>cond (!a) (some 1) (ah (fO u0.high 0 60) fun b=>cond (!b) (some 1) (some 0))
theorem r9 {ro:Addr->Option Value}(u0:aO)(b:ak){s1 c d f:Value}(a:bI ro b s1 c d f){r:Int}(h:er u0 b=some r):aC Tryz.prog 55 #[.agg #[.int .i64 u0.back,.int .i64 u0.high],bv b s1 c d f] ⟨ro,[]⟩ (fun v _=>v= .int .i64 r):=by
 obtain ⟨d3,c4,rfl,n,o,-⟩:=id a.e
 obtain ⟨d10,q,rfl,s,u,-⟩:=id a.p
 obtain ⟨d17,w,rfl,x,z,-⟩:=id a.y
 obtain ⟨d24,B,rfl,C,D,-⟩:=id a.t
 unfold er at h
 refine aC.go Tryz.func55 rfl Tryz.ntmps55 Tryz.results55 (by simp) fun main J hJ A E hd hs=>?_
 have F:=hs 0
 have k1:=hs 1
 clear hs
 refine aa hJ (ag hJ ?_)
 simp only[*,go_sem]
 refine ax fun G H g=>?_;try simp only[au] at g
 refine ax fun I K i=>?_;try simp only[au] at i
 try simp only[*,go_sem]
 refine aa hJ (aa hJ (ag hJ ?_))
 revert h;refine bS fun L j h=>?_
 simp only[*,go_sem]
 refine aM hJ _ (gL u0.back 1 20 j) (aD ?_)
 revert h;refine cS (fun k h=>?_) fun k h=>?_
 ·obtain rfl:=sI h
  try simp only[*,go_sem]
  refine bK hJ (by simp only[*,go_sem]) ?_
  refine aa hJ (ag hJ ?_)
  simp only[*,go_sem]
  refine ay ?_
  simp only[*,go_sem]
 revert h;refine bS fun M l h=>?_
 try simp only[*,go_sem]
 refine aM hJ _ (gL u0.high 0 60 l) (aD ?_)
 try simp only[*,go_sem]
 revert h;refine jC hJ (by simp only[*,go_sem]) (fun m h=>?_) fun m h=>?_
 ·obtain rfl:=sI h
  refine aa hJ (ag hJ ?_)
  simp only[*,go_sem]
  refine ay ?_
  simp only[*,go_sem]
 obtain rfl:=sI h
 refine aF hJ (aa hJ ?_)
 refine ag hJ ?_
 simp only[*,go_sem]
 refine ay ?_
 simp only[*,go_sem]
def n5 (u0:ak)(a:Int):Option Bool:=
 ah (fO a 0 (IntKind.i64.wrap ((u0.aE.length:Int) - 1))) fun b=>some b
theorem AX {ro:Addr->Option Value}(u0:ak){s1 c d f:Value}(a:bI ro u0 s1 c d f)(b:Int){r:Bool}(h:n5 u0 b=some r):aC Tryz.prog 110 #[bv u0 s1 c d f,.int .i64 b] ⟨ro,[]⟩ (fun v _=>v= .bool r):=by
 obtain ⟨d3,c4,rfl,j,k,-⟩:=id a.e
 obtain ⟨d10,l,rfl,m,n,-⟩:=id a.p
 obtain ⟨d17,o,rfl,q,s,-⟩:=id a.y
 obtain ⟨d24,u,rfl,w,x,-⟩:=id a.t
 unfold n5 at h
 refine aC.go Tryz.func110 rfl Tryz.ntmps110 Tryz.results110 (by simp) fun main J hJ A z hd hs=>?_
 have B:=hs 0
 have k1:=hs 1
 clear hs
 refine aa hJ (ag hJ ?_)
 simp only[*,go_sem]
 refine ax fun C D g=>?_;try simp only[au] at g
 try simp only[*,go_sem]
 refine aa hJ (ag hJ ?_)
 revert h;refine bS fun E i h=>?_
 obtain rfl:=sI h
 simp only[*,go_sem]
 refine aM hJ _ (gL b 0 (IntKind.i64.wrap ((u0.aE.length:Int) - 1)) i) (aD ?_)
 try simp only[*,go_sem]
 refine ay ?_
 simp only[*,go_sem]
def eP (u0:ak)(a:Int):Option Bool:=
 ah (bw u0.aj 0) fun b=>ah (bw u0.aj (IntKind.i64.wrap ((u0.aj.length:Int) - 1))) fun c=>ah (fO a b.an c.an) fun d=>some d
theorem sd {ro:Addr->Option Value}(u0:ak){s1 f g i:Value}(a:bI ro u0 s1 f g i)(b:Int){r:Bool}(h:eP u0 b=some r):aC Tryz.prog 101 #[bv u0 s1 f g i,.int .i64 b] ⟨ro,[]⟩ (fun v _=>v= .bool r):=by
 obtain ⟨d3,c4,rfl,E,G,-⟩:=id a.e
 unfold eP at h
 refine aC.go Tryz.func101 rfl Tryz.ntmps101 Tryz.results101 (by simp) fun main J hJ A H hd hs=>?_
 have I:=hs 0
 have k1:=hs 1
 clear hs
 refine aa hJ (ag hJ ?_)
 simp only[*,go_sem]
 refine ax fun K L n=>?_;try simp only[au] at n
 try simp only[*,go_sem]
 refine aa hJ ?_
 refine cY hJ mixed 20 1 (by simp only[*,go_sem]) (by kernel_rfl) ?_
 revert h;refine bS fun j o h=>?_
 obtain ⟨M,N,k⟩:=cw o
 obtain ⟨O,p,q,s,c⟩:=a.e.el _ _ k
 obtain rfl:p=j.cells:=s
 cases q
 have t:=c 0 _ rfl;simp only[go_sem] at t
 have u:=c 1 _ rfl;simp only[go_sem] at u
 clear c k
 revert h;refine bS fun l w h=>?_
 obtain ⟨P,Q,m⟩:=cw w
 obtain ⟨R,x,y,z,d⟩:=a.e.el _ _ m
 obtain rfl:x=l.cells:=z
 cases y
 have B:=d 0 _ rfl;simp only[go_sem] at B
 have C:=d 1 _ rfl;simp only[go_sem] at C
 clear d m
 revert h;refine bS fun S D h=>?_
 obtain rfl:=sI h
 try simp only[*,go_sem]
 refine ⟨_,bE hJ fun F T=>gL b j.an l.an D,b9 ?_⟩
 try simp only[*,go_sem]
 refine ay ?_
 simp only[*,go_sem]
def fo (u0:Int)(a:ak):Option Int:=
 ah (n5 a u0) fun b=>cond (!b) (some 6) (some 0)
theorem se {ro:Addr->Option Value}(u0:Int)(b:ak){s1 c d f:Value}(a:bI ro b s1 c d f){r:Int}(h:fo u0 b=some r):aC Tryz.prog 77 #[.int .i64 u0,bv b s1 c d f] ⟨ro,[]⟩ (fun v _=>v= .int .i64 r):=by
 obtain ⟨d3,c4,rfl,k,l,-⟩:=id a.e
 obtain ⟨d10,m,rfl,n,o,-⟩:=id a.p
 obtain ⟨d17,q,rfl,s,u,-⟩:=id a.y
 obtain ⟨d24,w,rfl,x,z,-⟩:=id a.t
 unfold fo at h
 refine aC.go Tryz.func77 rfl Tryz.ntmps77 Tryz.results77 (by simp) fun main J hJ A B hd hs=>?_
 have C:=hs 0
 have k1:=hs 1
 clear hs
 refine aa hJ (ag hJ ?_)
 simp only[*,go_sem]
 refine ax fun D E g=>?_;try simp only[au] at g
 try simp only[*,go_sem]
 refine aa hJ (aa hJ (ag hJ ?_))
 revert h;refine bS fun F i h=>?_
 simp only[*,go_sem]
 refine aM hJ _ (AX b (a.mono aH) u0 i) (aD ?_)
 try simp only[*,go_sem]
 revert h;refine jC hJ (by simp only[*,go_sem]) (fun j h=>?_) fun j h=>?_
 ·obtain rfl:=sI h
  refine aa hJ (ag hJ ?_)
  simp only[*,go_sem]
  refine ay ?_
  simp only[*,go_sem]
 obtain rfl:=sI h
 refine aF hJ (aa hJ ?_)
 refine ag hJ ?_
 simp only[*,go_sem]
 refine ay ?_
 simp only[*,go_sem]
def mM (u0:Int)(a:ak):Option Int:=
 ah (eP a u0) fun b=>cond (!b) (some 6) (some 0)
theorem F6 {ro:Addr->Option Value}(u0:Int)(b:ak){s1 c d f:Value}(a:bI ro b s1 c d f){r:Int}(h:mM u0 b=some r):aC Tryz.prog 58 #[.int .i64 u0,bv b s1 c d f] ⟨ro,[]⟩ (fun v _=>v= .int .i64 r):=by
 obtain ⟨d3,c4,rfl,k,l,-⟩:=id a.e
 obtain ⟨d10,m,rfl,n,o,-⟩:=id a.p
 obtain ⟨d17,q,rfl,s,u,-⟩:=id a.y
 obtain ⟨d24,w,rfl,x,z,-⟩:=id a.t
 unfold mM at h
 refine aC.go Tryz.func58 rfl Tryz.ntmps58 Tryz.results58 (by simp) fun main J hJ A B hd hs=>?_
 have C:=hs 0
 have k1:=hs 1
 clear hs
 refine aa hJ (ag hJ ?_)
 simp only[*,go_sem]
 refine ax fun D E g=>?_;try simp only[au] at g
 try simp only[*,go_sem]
 refine aa hJ (aa hJ (ag hJ ?_))
 revert h;refine bS fun F i h=>?_
 simp only[*,go_sem]
 refine aM hJ _ (sd b (a.mono aH) u0 i) (aD ?_)
 try simp only[*,go_sem]
 revert h;refine jC hJ (by simp only[*,go_sem]) (fun j h=>?_) fun j h=>?_
 ·obtain rfl:=sI h
  refine aa hJ (ag hJ ?_)
  simp only[*,go_sem]
  refine ay ?_
  simp only[*,go_sem]
 obtain rfl:=sI h
 refine aF hJ (aa hJ ?_)
 refine ag hJ ?_
 simp only[*,go_sem]
 refine ay ?_
 simp only[*,go_sem]
def qc (st:(Int×Int)):Option (Fl (Int×Int) av):=
 cond ((st.2 != 0)) (ah (eO st.1 st.2) fun a=>some (.nx (st.2,a))) (some (.bk (st.1,st.2)))
def kD (u0:Int)(a:Int):Option av:=
 ah (bg (qc) fu ((if u0<IntKind.i64.wrap (0 - u0) then IntKind.i64.wrap (0 - u0) else u0),a)) fun o=>aG o (fun b=>ah (fK u0 b.1) fun c=>ah (fK a b.1) fun d=>some (⟨c,d⟩:av)) (fun _ _=>none) (fun r=>some r)
theorem qd {ro:Addr->Option Value}(u0:Int)(c:Int){r:av}(h:kD u0 c=some r):aC Tryz.prog 102 #[.int .i64 u0,.int .i64 c] ⟨ro,[]⟩ (fun v _=>v=r.v):=by
 unfold kD at h
 refine aC.go Tryz.func102 rfl Tryz.ntmps102 Tryz.results102 (by simp) fun main J hJ A l hd hs=>?_
 have n:=hs 0
 have k1:=hs 1
 clear hs
 refine aa hJ (ag hJ ?_)
 simp only[*,go_sem]
 refine ax fun o r1 n1=>?_;try simp only[au] at n1
 try simp only[*,go_sem]
 refine aa hJ (ag hJ ?_)
 simp only[*,go_sem]
 refine aa hJ (aU hJ ?_)
 revert h;refine bS fun o4 a p=>?_
 refine bX hJ [5,6,12,13,14,15,16,17] (fun m f F'=>∃(v2:Int) (b:Int),bg (qc) m (v2,b)=some o4/\F'=⟨ro,(o,rt 0 0)::[]⟩/\slot f 5= .int .i64 v2/\slot f 6= .int .i64 b) fu ?_ ?_
 ·refine ⟨(if u0<IntKind.i64.wrap (0 - u0) then IntKind.i64.wrap (0 - u0) else u0),c,a,rfl,?_⟩
  simp only[*,go_sem]
 rintro d x F' g ⟨v2,b,a,rfl,y,z⟩
 obtain ⟨q,s,t⟩:=g.pick [0,1,4] (by decide)
 simp only[*,go_sem] at q s t
 clear g l hd n k1
 obtain _|d:=d
 ·exact absurd a (by simp only[bg,reduceCtorEq,not_false_eq_true])
 revert a;refine bS fun B h e=>?_
 unfold qc at h
 try dsimp only at h
 refine aa hJ (aa hJ (ag hJ ?_))
 simp only[*,go_sem]
 revert h;refine jC hJ (by simp only[*,go_sem]) (fun u h=>?_) fun u h=>?_
 ·refine aF hJ (aU hJ ?_)
  refine cY hJ mixed 6 1 (by simp only[*,go_sem]) (by kernel_rfl) ?_
  revert h;refine bS fun w i h=>?_
  obtain rfl:=sI h
  obtain ⟨C,D⟩:=iY i
  clear i
  try simp only[*,go_sem]
  refine ⟨d,Nat.lt_succ_self _,_,Le.sub (List.Sublist.refl _),b,w,e,rfl,?_⟩
  simp only[*,go_sem]
 obtain rfl:=sI h
 refine bU ?_
 simp only[go_sem]
 obtain rfl:=sI e;clear e
 have h:=p
 dsimp only[aG] at h
 refine aa hJ ?_
 refine cY hJ mixed 7 0 (by simp only[*,go_sem]) (by kernel_rfl) ?_
 revert h;refine bS fun E j h=>?_
 obtain ⟨F,G⟩:=mF j
 clear j
 revert h;refine bS fun H k h=>?_
 obtain rfl:=sI h
 obtain ⟨I,K⟩:=mF k
 clear k
 try simp only[*,go_sem]
 refine ay ?_
 simp only[*,go_sem]
def jH (u0:av)(a:av):Option av:=
 ah (kD (IntKind.i64.wrap ((IntKind.i64.wrap (u0.num*a.den))+(IntKind.i64.wrap (a.num*u0.den)))) (IntKind.i64.wrap (u0.den*a.den))) fun b=>some b
theorem qe {ro:Addr->Option Value}(u0:av)(a:av){r:av}(h:jH u0 a=some r):aC Tryz.prog 88 #[.agg #[.int .i64 u0.num,.int .i64 u0.den],.agg #[.int .i64 a.num,.int .i64 a.den]] ⟨ro,[]⟩ (fun v _=>v=r.v):=by
 unfold jH at h
 refine aC.go Tryz.func88 rfl Tryz.ntmps88 Tryz.results88 (by simp) fun main J hJ A c hd hs=>?_
 have d:=hs 0
 have k1:=hs 1
 clear hs
 refine aa hJ (ag hJ ?_)
 simp only[*,go_sem]
 refine ax fun e r1 n1=>?_;try simp only[au] at n1
 refine ax fun b2 r2 n2=>?_;try simp only[au] at n2
 refine ax fun b3 r3 n3=>?_;try simp only[au] at n3
 try simp only[*,go_sem]
 refine aa hJ (ag hJ ?_)
 revert h;refine bS fun f b h=>?_
 obtain rfl:=sI h
 simp only[*,go_sem]
 refine aM hJ _ (qd (IntKind.i64.wrap ((IntKind.i64.wrap (u0.num*a.den))+(IntKind.i64.wrap (a.num*u0.den)))) (IntKind.i64.wrap (u0.den*a.den)) b) (aD ?_)
 try simp only[*,go_sem]
 refine ay ?_
 simp only[*,go_sem]
def jI (u0:av)(a:av):Option av:=
 ah (jH u0 (⟨IntKind.i64.wrap (0 - a.num),a.den⟩:av)) fun b=>some b
theorem qf {ro:Addr->Option Value}(u0:av)(a:av){r:av}(h:jI u0 a=some r):aC Tryz.prog 87 #[.agg #[.int .i64 u0.num,.int .i64 u0.den],.agg #[.int .i64 a.num,.int .i64 a.den]] ⟨ro,[]⟩ (fun v _=>v=r.v):=by
 unfold jI at h
 refine aC.go Tryz.func87 rfl Tryz.ntmps87 Tryz.results87 (by simp) fun main J hJ A c hd hs=>?_
 have d:=hs 0
 have k1:=hs 1
 clear hs
 refine aa hJ (ag hJ ?_)
 simp only[*,go_sem]
 refine ax fun e r1 n1=>?_;try simp only[au] at n1
 refine ax fun b2 r2 n2=>?_;try simp only[au] at n2
 refine ax fun b3 r3 n3=>?_;try simp only[au] at n3
 try simp only[*,go_sem]
 refine aa hJ (ag hJ ?_)
 revert h;refine bS fun f b h=>?_
 obtain rfl:=sI h
 simp only[*,go_sem]
 refine aM hJ _ (qe u0 (⟨IntKind.i64.wrap (0 - a.num),a.den⟩:av) b) (aD ?_)
 try simp only[*,go_sem]
 refine ay ?_
 simp only[*,go_sem]
def kE (u0:ak)(a:aO)(e:Int)(b:g9):Option bA:=
 ah (gr a.high) fun f=>ah (jI b.high f) fun c=>ah (kD (IntKind.i64.wrap (u0.aZ+a.back)) (IntKind.i64.wrap (b.an+a.back))) fun d=>ah (gr a.high) fun g=>ah (kD (IntKind.i64.wrap (c.num*d.num)) (IntKind.i64.wrap (c.den*d.den))) fun h=>ah (jH g h) fun i=>some (⟨b,e,i⟩:bA)
theorem AY {ro:Addr->Option Value}(u0:ak){s1 c d e:Value}(K:bI ro u0 s1 c d e)(b:aO)(j:Int)(a:g9){r:bA}(h:kE u0 b j a=some r):aC Tryz.prog 100 #[bv u0 s1 c d e,.agg #[.int .i64 b.back,.int .i64 b.high],.int .i64 j,.agg #[.int .i64 a.an,.int .i64 a.high.num,.int .i64 a.high.den]] ⟨ro,[]⟩ (fun v _=>v=r.v):=by
 unfold kE at h
 refine aC.go Tryz.func100 rfl Tryz.ntmps100 Tryz.results100 (by simp) fun main J hJ A L hd hs=>?_
 have M:=hs 0
 have k1:=hs 1
 have N:=hs 2
 have O:=hs 3
 clear hs
 refine aa hJ (ag hJ ?_)
 simp only[*,go_sem]
 refine ax fun k P n=>?_;try simp only[au] at n
 refine ax fun l Q o=>?_;try simp only[au] at o
 refine ax fun m R p=>?_;try simp only[au] at p
 refine ax fun q S s=>?_;try simp only[au] at s
 try simp only[*,go_sem]
 refine aa hJ ?_
 refine e5 hJ mixed 6 ⟨ro,[(q,.cells #[.int .i64 0,.int .i64 0,.int .i64 0,.int .i64 0,.int .i64 0,.int .i64 0] 107),(m,.cells #[.int .i64 a.an,.int .i64 a.high.num,.int .i64 a.high.den] 105),(l,.cells #[.int .i64 b.back,.int .i64 b.high] 103),(k,bl u0 s1 c d e)]⟩ (by simp only[*,go_sem]) (by kernel_rfl) ?_
 revert h;refine bS fun t u h=>?_
 simp only[*,go_sem]
 refine ⟨_,bE hJ fun F f=>jG b.high u,b9 ?_⟩
 revert h;refine bS fun g w h=>?_
 try simp only[*,go_sem]
 refine ⟨_,bE hJ fun F f=>qf a.high t w,?_⟩
 try simp only[*,go_sem]
 refine ax fun x T y=>?_;try simp only[au] at y
 try simp only[*,go_sem]
 refine aa hJ (ag hJ ?_)
 revert h;refine bS fun i z h=>?_
 simp only[*,go_sem]
 refine aM hJ _ (qd (IntKind.i64.wrap (u0.aZ+b.back)) (IntKind.i64.wrap (a.an+b.back)) z) (aD ?_)
 try simp only[*,go_sem]
 refine ax fun B U C=>?_;try simp only[au] at C
 try simp only[*,go_sem]
 refine aa hJ ?_
 refine e5 hJ mixed 18 ⟨ro,[(B,rt i.num i.den),(x,rt g.num g.den),(m,.cells #[.int .i64 a.an,.int .i64 a.high.num,.int .i64 a.high.den] 105),(l,.cells #[.int .i64 b.back,.int .i64 b.high] 103),(k,bl u0 s1 c d e)]⟩ (by simp only[*,go_sem]) (by kernel_rfl) ?_
 revert h;refine bS fun D E h=>?_
 simp only[*,go_sem]
 refine ⟨_,bE hJ fun F f=>jG b.high E,b9 ?_⟩
 revert h;refine bS fun G H h=>?_
 try simp only[*,go_sem]
 refine ⟨_,bE hJ fun F f=>qd (IntKind.i64.wrap (g.num*i.num)) (IntKind.i64.wrap (g.den*i.den)) H,b9 ?_⟩
 revert h;refine bS fun V I h=>?_
 obtain rfl:=sI h
 try simp only[*,go_sem]
 refine ⟨_,bE hJ fun F f=>qe D G I,b9 ?_⟩
 try simp only[*,go_sem]
 refine ay ?_
 simp only[*,go_sem]
def iA (u0:ak)(a:Int)(b:Int):Option aO:=
 ah (bw u0.aE a) fun c=>some (⟨c.back,b⟩:aO)
theorem mN {ro:Addr->Option Value}(u0:ak){s1 c d f:Value}(a:bI ro u0 s1 c d f)(g:Int)(i:Int){r:aO}(h:iA u0 g i=some r):aC Tryz.prog 69 #[bv u0 s1 c d f,.int .i64 g,.int .i64 i] ⟨ro,[]⟩ (fun v _=>v=r.v):=by
 obtain ⟨d3,c4,rfl,z,B,-⟩:=id a.e
 obtain ⟨d10,C,rfl,D,E,-⟩:=id a.p
 obtain ⟨d17,F,rfl,G,H,-⟩:=id a.y
 obtain ⟨d24,I,rfl,K,L,-⟩:=id a.t
 unfold iA at h
 refine aC.go Tryz.func69 rfl Tryz.ntmps69 Tryz.results69 (by simp) fun main J hJ A M hd hs=>?_
 have N:=hs 0
 have k1:=hs 1
 have O:=hs 2
 clear hs
 refine aa hJ (ag hJ ?_)
 simp only[*,go_sem]
 refine ax fun P Q k=>?_;try simp only[au] at k
 refine ax fun R S l=>?_;try simp only[au] at l
 try simp only[*,go_sem]
 refine aa hJ (ag hJ ?_)
 revert h;refine bS fun m n h=>?_
 obtain rfl:=sI h
 obtain ⟨T,U,j⟩:=cw n
 obtain ⟨V,o,q,s,b⟩:=a.y.el _ _ j
 obtain rfl:o=m.cells:=s
 cases q
 have u:=b 0 _ rfl;simp only[go_sem] at u
 have w:=b 1 _ rfl;simp only[go_sem] at w
 have x:=b 2 _ rfl;simp only[go_sem] at x
 clear b j
 try simp only[*,go_sem]
 refine ay ?_
 simp only[*,go_sem]
def mO (u0:(bA->bA->Option Bool))(i11:Nat)(a:bA)(st:bA):Option (Fl bA bA):=
 ah (u0 st a) fun b=>cond (b) (some (.nx a)) (some (.nx st))
def kF (u0:(bA->bA->Option Bool))(a:bA)(b:(List bA)):Option bA:=
 ah (bG (mO u0) 0 b a) fun o=>aG o (fun c=>some c) (fun _ _=>none) (fun r=>some r)
theorem si {ro:Addr->Option Value}(u0:(bA->bA->Option Bool)){dH:FuncId}{dZ ee:Array Value}(s:aJ Tryz.prog dH=true/\∀(aK:Addr->Option Value),Ext ro aK->∀(i:bA) (j:bA) (z:Bool),u0 i j=some z->aC Tryz.prog dH (dZ++#[i.v,j.v]++ee) ⟨aK,[]⟩ (fun v _=>v= .bool z))(c:bA)(b:(List bA)){s1:Value}(k:aB kC ro s1 b){r:bA}(h:kF u0 c b=some r):aC Tryz.prog 61 #[.func (.func dH) dZ ee,.agg #[.int .i64 c.spot.an,.int .i64 c.spot.high.num,.int .i64 c.spot.high.den,.int .i64 c.at_,.int .i64 c.high.num,.int .i64 c.high.den],s1] ⟨ro,[]⟩ (fun v _=>v=r.v):=by
 obtain ⟨d3,c4,rfl,Z,l,-⟩:=id k
 unfold kF at h
 refine aC.go Tryz.func61 rfl Tryz.ntmps61 Tryz.results61 (by simp) fun main J hJ A t hd hs=>?_
 have u:=hs 0
 have k1:=hs 1
 have w:=hs 2
 clear hs
 refine aa hJ (ag hJ ?_)
 simp only[*,go_sem]
 refine ax fun y ab B=>?_;try simp only[au] at B
 refine ax fun C ad D=>?_;try simp only[au] at D
 try simp only[*,go_sem]
 refine aa hJ (aa hJ (ag hJ ?_))
 simp only[*,go_sem]
 refine aU hJ ?_
 revert h;refine bS fun E d F=>?_
 refine bX hJ [8,11,12,13,14,15,16,17,18,19,20] (fun m G F'=>∃(i11:Nat) (v10:bA),m=b.length - i11/\i11<=b.length/\bG (mO u0) i11 (b.drop i11) v10=some E/\F'=⟨ro,(C,.cells #[.int .i64 0,.int .i64 0,.int .i64 0,.int .i64 0,.int .i64 0,.int .i64 0] 107)::(y,.cells #[.int .i64 v10.spot.an,.int .i64 v10.spot.high.num,.int .i64 v10.spot.high.den,.int .i64 v10.at_,.int .i64 v10.high.num,.int .i64 v10.high.den] 107)::[]⟩/\slot G 11= .int .i64 (i11:Int)) b.length ?_ ?_
 ·refine ⟨0,c,(Nat.sub_zero _).symm,Nat.zero_le _,d,rfl,?_⟩
  simp only[*,go_sem]
 rintro ae al F' o ⟨i11,v10,rfl,ao,d,rfl,ar⟩
 obtain ⟨H,I,K⟩:=o.pick [0,4,6,9,10] (by decide)
 simp only[*,go_sem] at H I K
 clear o t hd u k1 w
 refine aa hJ (ag hJ ?_)
 simp only[*,go_sem]
 refine aa hJ ?_
 rcases Nat.lt_or_ge i11 b.length with L|p
 ·refine bK hJ (by simp only[*,go_sem]) ?_
  refine aF hJ ?_
  obtain ⟨f,g⟩:∃x,b[i11]?=some x:=⟨_,List.getElem?_eq_getElem L⟩
  rw[c5 g] at d
  revert d;refine bS fun a0 h q=>?_
  unfold mO at h
  try dsimp only at h
  obtain ⟨a2,M,N,O,e⟩:=k.el _ _ g
  obtain rfl:M=f.cells:=O
  cases N
  have P:=e 0 _ rfl;simp only[go_sem] at P
  have Q:=e 1 _ rfl;simp only[go_sem] at Q
  have R:=e 2 _ rfl;simp only[go_sem] at R
  have S:=e 3 _ rfl;simp only[go_sem] at S
  have T:=e 4 _ rfl;simp only[go_sem] at T
  have U:=e 5 _ rfl;simp only[go_sem] at U
  clear e g
  refine aa hJ (aU hJ (aa hJ ?_))
  refine ag hJ ?_
  simp only[*,go_sem]
  refine ax fun a3 a4 V=>?_;try simp only[au] at V
  try simp only[*,go_sem]
  refine aa hJ (ag hJ ?_)
  revert h;refine bS fun a5 W h=>?_
  simp only[*,go_sem]
  refine aM hJ _ (s.2 _ (fun a v h=>aH a v h) v10 f _ W) ?_
  try simp only[*,go_sem]
  revert h;refine jC hJ (by simp only[*,go_sem]) (fun X h=>?_) fun X h=>?_
  ·obtain rfl:=sI h
   refine ag hJ ?_
   simp only[*,go_sem]
   have Y:=cm (n:=i11) (by have:=l;omega)
   refine ag hJ ?_
   simp only[*,go_sem]
   refine ⟨b.length - (i11+1),by omega,_,Le.sub (List.Sublist.cons _ (List.Sublist.refl _)),i11+1,f,rfl,by omega,q,rfl,?_⟩
   simp only[*,go_sem]
  obtain rfl:=sI h
  refine aF hJ ?_
  have Y:=cm (n:=i11) (by have:=l;omega)
  refine ag hJ ?_
  simp only[*,go_sem]
  refine ⟨b.length - (i11+1),by omega,_,Le.sub (List.Sublist.cons _ (List.Sublist.refl _)),i11+1,v10,rfl,by omega,q,rfl,?_⟩
  simp only[*,go_sem]
 have a6:=Nat.not_lt.2 p
 refine bL hJ (by simp only[*,go_sem]) ?_
 rw[List.drop_eq_nil_of_le p] at d
 obtain rfl:=sI d;clear d
 have h:=F
 dsimp only[aG] at h
 obtain rfl:=sI h
 refine bU ?_
 simp only[go_sem]
 refine aa hJ (ag hJ ?_)
 simp only[*,go_sem]
 refine ay ?_
 simp only[*,go_sem]
def qg (u0:(av->av->Option Bool))(i11:Nat)(a:av)(st:av):Option (Fl av av):=
 ah (u0 st a) fun b=>cond (b) (some (.nx a)) (some (.nx st))
def iB (u0:(av->av->Option Bool))(a:av)(b:(List av)):Option av:=
 ah (bG (qg u0) 0 b a) fun o=>aG o (fun c=>some c) (fun _ _=>none) (fun r=>some r)
theorem n6 {ro:Addr->Option Value}(u0:(av->av->Option Bool)){dH:FuncId}{dZ ee:Array Value}(s:aJ Tryz.prog dH=true/\∀(aK:Addr->Option Value),Ext ro aK->∀(i:av) (j:av) (z:Bool),u0 i j=some z->aC Tryz.prog dH (dZ++#[i.v,j.v]++ee) ⟨aK,[]⟩ (fun v _=>v= .bool z))(d:av)(b:(List av)){s1:Value}(k:aB lD ro s1 b){r:av}(h:iB u0 d b=some r):aC Tryz.prog 81 #[.func (.func dH) dZ ee,.agg #[.int .i64 d.num,.int .i64 d.den],s1] ⟨ro,[]⟩ (fun v _=>v=r.v):=by
 obtain ⟨d3,c4,rfl,V,l,-⟩:=id k
 unfold iB at h
 refine aC.go Tryz.func81 rfl Tryz.ntmps81 Tryz.results81 (by simp) fun main J hJ A t hd hs=>?_
 have u:=hs 0
 have k1:=hs 1
 have w:=hs 2
 clear hs
 refine aa hJ (ag hJ ?_)
 simp only[*,go_sem]
 refine ax fun y W B=>?_;try simp only[au] at B
 refine ax fun C X D=>?_;try simp only[au] at D
 try simp only[*,go_sem]
 refine aa hJ (aa hJ (ag hJ ?_))
 simp only[*,go_sem]
 refine aU hJ ?_
 revert h;refine bS fun E c F=>?_
 refine bX hJ [8,11,12,13,14,15,16,17,18,19,20] (fun m G F'=>∃(i11:Nat) (v10:av),m=b.length - i11/\i11<=b.length/\bG (qg u0) i11 (b.drop i11) v10=some E/\F'=⟨ro,(C,rt 0 0)::(y,rt v10.num v10.den)::[]⟩/\slot G 11= .int .i64 (i11:Int)) b.length ?_ ?_
 ·refine ⟨0,d,(Nat.sub_zero _).symm,Nat.zero_le _,c,rfl,?_⟩
  simp only[*,go_sem]
 rintro Y Z F' o ⟨i11,v10,rfl,ab,c,rfl,ad⟩
 obtain ⟨H,I,K⟩:=o.pick [0,4,6,9,10] (by decide)
 simp only[*,go_sem] at H I K
 clear o t hd u k1 w
 refine aa hJ (ag hJ ?_)
 simp only[*,go_sem]
 refine aa hJ ?_
 rcases Nat.lt_or_ge i11 b.length with L|p
 ·refine bK hJ (by simp only[*,go_sem]) ?_
  refine aF hJ ?_
  obtain ⟨e,f⟩:∃x,b[i11]?=some x:=⟨_,List.getElem?_eq_getElem L⟩
  rw[c5 f] at c
  revert c;refine bS fun ae h q=>?_
  unfold qg at h
  try dsimp only at h
  obtain ⟨al,M,N,O,g⟩:=k.el _ _ f
  obtain rfl:M=e.cells:=O
  cases N
  have P:=g 0 _ rfl;simp only[go_sem] at P
  have Q:=g 1 _ rfl;simp only[go_sem] at Q
  clear g f
  refine aa hJ (aU hJ (aa hJ ?_))
  refine ag hJ ?_
  simp only[*,go_sem]
  refine ax fun ao ar R=>?_;try simp only[au] at R
  try simp only[*,go_sem]
  refine aa hJ (ag hJ ?_)
  revert h;refine bS fun a0 S h=>?_
  simp only[*,go_sem]
  refine aM hJ _ (s.2 _ (fun a v h=>aH a v h) v10 e _ S) ?_
  try simp only[*,go_sem]
  revert h;refine jC hJ (by simp only[*,go_sem]) (fun T h=>?_) fun T h=>?_
  ·obtain rfl:=sI h
   refine ag hJ ?_
   simp only[*,go_sem]
   have U:=cm (n:=i11) (by have:=l;omega)
   refine ag hJ ?_
   simp only[*,go_sem]
   refine ⟨b.length - (i11+1),by omega,_,Le.sub (List.Sublist.cons _ (List.Sublist.refl _)),i11+1,e,rfl,by omega,q,rfl,?_⟩
   simp only[*,go_sem]
  obtain rfl:=sI h
  refine aF hJ ?_
  have U:=cm (n:=i11) (by have:=l;omega)
  refine ag hJ ?_
  simp only[*,go_sem]
  refine ⟨b.length - (i11+1),by omega,_,Le.sub (List.Sublist.cons _ (List.Sublist.refl _)),i11+1,v10,rfl,by omega,q,rfl,?_⟩
  simp only[*,go_sem]
 have a2:=Nat.not_lt.2 p
 refine bL hJ (by simp only[*,go_sem]) ?_
 rw[List.drop_eq_nil_of_le p] at c
 obtain rfl:=sI c;clear c
 have h:=F
 dsimp only[aG] at h
 obtain rfl:=sI h
 refine bU ?_
 simp only[go_sem]
 refine aa hJ (ag hJ ?_)
 simp only[*,go_sem]
 refine ay ?_
 simp only[*,go_sem]
def sj (u0:bA)(a:bA):Option Bool:=
 ah (gN a u0) fun b=>some b
theorem F7 {ro:Addr->Option Value}(u0:bA)(a:bA){r:Bool}(h:sj u0 a=some r):aC Tryz.prog 86 #[.agg #[.int .i64 u0.spot.an,.int .i64 u0.spot.high.num,.int .i64 u0.spot.high.den,.int .i64 u0.at_,.int .i64 u0.high.num,.int .i64 u0.high.den],.agg #[.int .i64 a.spot.an,.int .i64 a.spot.high.num,.int .i64 a.spot.high.den,.int .i64 a.at_,.int .i64 a.high.num,.int .i64 a.high.den]] ⟨ro,[]⟩ (fun v _=>v= .bool r):=by
 unfold sj at h
 refine aC.go Tryz.func86 rfl Tryz.ntmps86 Tryz.results86 (by simp) fun main J hJ A c hd hs=>?_
 have d:=hs 0
 have k1:=hs 1
 clear hs
 refine aa hJ (ag hJ ?_)
 simp only[*,go_sem]
 refine ax fun e r1 n1=>?_;try simp only[au] at n1
 refine ax fun b2 r2 n2=>?_;try simp only[au] at n2
 try simp only[*,go_sem]
 refine aa hJ (ag hJ ?_)
 revert h;refine bS fun f b h=>?_
 obtain rfl:=sI h
 simp only[*,go_sem]
 refine aM hJ _ (r8 a u0 b) (aD ?_)
 try simp only[*,go_sem]
 refine ay ?_
 simp only[*,go_sem]
def sk (u0:av)(a:av):Option Bool:=
 ah (eL a u0) fun b=>some b
theorem F8 {ro:Addr->Option Value}(u0:av)(a:av){r:Bool}(h:sk u0 a=some r):aC Tryz.prog 79 #[.agg #[.int .i64 u0.num,.int .i64 u0.den],.agg #[.int .i64 a.num,.int .i64 a.den]] ⟨ro,[]⟩ (fun v _=>v= .bool r):=by
 unfold sk at h
 refine aC.go Tryz.func79 rfl Tryz.ntmps79 Tryz.results79 (by simp) fun main J hJ A c hd hs=>?_
 have d:=hs 0
 have k1:=hs 1
 clear hs
 refine aa hJ (ag hJ ?_)
 simp only[*,go_sem]
 refine ax fun e r1 n1=>?_;try simp only[au] at n1
 refine ax fun b2 r2 n2=>?_;try simp only[au] at n2
 try simp only[*,go_sem]
 refine aa hJ (ag hJ ?_)
 revert h;refine bS fun f b h=>?_
 obtain rfl:=sI h
 simp only[*,go_sem]
 refine aM hJ _ (jd a u0 b) (aD ?_)
 try simp only[*,go_sem]
 refine ay ?_
 simp only[*,go_sem]
def sn (u0:ak)(i32:Nat)(a:bB)(st:Int):Option (Fl Int Int):=
 ah (n5 u0 a.aQ) fun b=>cond (!b) (some (.rt 6)) (some (.nx st))
def mP (u0:ak):Option Int:=
 cond (decide (3<(u0.told.length:Int))) (some 2) (ah (bG (sn u0) 0 u0.told 0) fun o=>aG o (fun a=>some 0) (fun _ _=>none) (fun r=>some r))
theorem F9 {ro:Addr->Option Value}(u0:ak){s1 c d j:Value}(e:bI ro u0 s1 c d j){r:Int}(h:mP u0=some r):aC Tryz.prog 209 #[bv u0 s1 c d j] ⟨ro,[]⟩ (fun v _=>v= .int .i64 r):=by
 obtain ⟨d24,s,rfl,R,u,-⟩:=id e.t
 unfold mP at h
 refine aC.go Tryz.func209 rfl Tryz.ntmps209 Tryz.results209 (by simp) fun main J hJ A w hd hs=>?_
 have y:=hs 0
 clear hs
 refine aa hJ (ag hJ ?_)
 simp only[*,go_sem]
 refine ax fun z S B=>?_;try simp only[au] at B
 try simp only[*,go_sem]
 refine aa hJ (aa hJ (ag hJ ?_))
 simp only[*,go_sem]
 revert h;refine jC hJ (by simp only[*,go_sem]) (fun C h=>?_) fun C h=>?_
 ·obtain rfl:=sI h
  refine aa hJ (ag hJ ?_)
  simp only[*,go_sem]
  refine ay ?_
  simp only[*,go_sem]
 refine aF hJ (aa hJ ?_)
 refine aa hJ (ag hJ ?_)
 simp only[*,go_sem]
 refine aU hJ ?_
 revert h;refine bS fun D a k=>?_
 refine bX hJ [2,4,14,15,16,17,18,19,20,21,22,23] (fun m l F'=>∃(i32:Nat) (b:Int),m=u0.told.length - i32/\i32<=u0.told.length/\bG (sn u0) i32 (u0.told.drop i32) b=some D/\F'=⟨ro,(z,bl u0 s1 c d (sl d24 u0.told s))::[]⟩/\slot l 14= .int .i64 (i32:Int)/\slot l 2= .int .i64 b) u0.told.length ?_ ?_
 ·refine ⟨0,0,(Nat.sub_zero _).symm,Nat.zero_le _,a,rfl,?_⟩
  simp only[*,go_sem]
 rintro T U F' o ⟨i32,b,rfl,V,a,rfl,W,X⟩
 obtain ⟨E,F,G⟩:=o.pick [1,12,13] (by decide)
 simp only[*,go_sem] at E F G
 clear o w hd y
 refine aa hJ (ag hJ ?_)
 simp only[*,go_sem]
 refine aa hJ ?_
 rcases Nat.lt_or_ge i32 u0.told.length with H|p
 ·refine bK hJ (by simp only[*,go_sem]) ?_
  refine aF hJ ?_
  obtain ⟨q,f⟩:∃x,u0.told[i32]?=some x:=⟨_,List.getElem?_eq_getElem H⟩
  rw[c5 f] at a
  revert a;refine bS fun Y h g=>?_
  unfold sn at h
  try dsimp only at h
  obtain ⟨Z,I,K,L,i⟩:=e.t.el _ _ f
  obtain rfl:I=q.cells:=L
  cases K
  have M:=i 0 _ rfl;simp only[go_sem] at M
  have N:=i 1 _ rfl;simp only[go_sem] at N
  clear i f
  refine aa hJ (aU hJ (aa hJ ?_))
  refine ag hJ ?_
  simp only[*,go_sem]
  refine ax fun ab ad O=>?_;try simp only[au] at O
  try simp only[*,go_sem]
  refine aa hJ (ag hJ ?_)
  revert h;refine bS fun ae P h=>?_
  simp only[*,go_sem]
  refine aM hJ _ (AX u0 (e.mono aH) q.aQ P) (aD ?_)
  try simp only[*,go_sem]
  revert h;refine jC hJ (by simp only[*,go_sem]) (fun Q h=>?_) fun Q h=>?_
  ·obtain rfl:=sI h
   refine aa hJ (ag hJ ?_)
   simp only[*,go_sem]
   obtain rfl:=sI g;clear g
   have h:=k
   dsimp only[aG] at h
   obtain rfl:=sI h
   refine ay ?_
   simp only[*,go_sem]
  obtain rfl:=sI h
  refine aF hJ ?_
  have al:=cm (n:=i32) (by have:=u;omega)
  refine ag hJ ?_
  simp only[*,go_sem]
  refine ⟨u0.told.length - (i32+1),by omega,_,Le.sub (List.Sublist.cons _ (List.Sublist.refl _)),i32+1,b,rfl,by omega,g,rfl,?_⟩
  simp only[*,go_sem]
 have ao:=Nat.not_lt.2 p
 refine bL hJ (by simp only[*,go_sem]) ?_
 rw[List.drop_eq_nil_of_le p] at a
 obtain rfl:=sI a;clear a
 have h:=k
 dsimp only[aG] at h
 obtain rfl:=sI h
 refine bU ?_
 simp only[go_sem]
 refine aa hJ (ag hJ ?_)
 simp only[*,go_sem]
 refine ay ?_
 simp only[*,go_sem]
def so (i34:Nat)(a:b6)(st:Int):Option (Fl Int Int):=
 ah (fO a.back 1 20) fun b=>cond (!b) (some (.rt 1)) (ah (qb a.high 0 60) fun c=>cond (!c) (some (.rt 1)) (cond (decide (3<=(IntKind.i64.wrap (a.high.high - a.high.low)))) (some (.rt 1)) (some (.nx st))))
def mQ (u0:ak):Option Int:=
 ah (fO (u0.aE.length:Int) 1 3) fun a=>cond (!a) (some 2) (ah (bG (so) 0 u0.aE 0) fun o=>aG o (fun b=>some 0) (fun _ _=>none) (fun r=>some r))
theorem Ga {ro:Addr->Option Value}(u0:ak){s1 f k g:Value}(l:bI ro u0 s1 f k g){r:Int}(h:mQ u0=some r):aC Tryz.prog 208 #[bv u0 s1 f k g] ⟨ro,[]⟩ (fun v _=>v= .int .i64 r):=by
 obtain ⟨d17,s,rfl,W,t,-⟩:=id l.y
 unfold mQ at h
 refine aC.go Tryz.func208 rfl Tryz.ntmps208 Tryz.results208 (by simp) fun main J hJ A u hd hs=>?_
 have w:=hs 0
 clear hs
 refine aa hJ (ag hJ ?_)
 simp only[*,go_sem]
 refine ax fun z X B=>?_;try simp only[au] at B
 try simp only[*,go_sem]
 refine aa hJ (aa hJ (ag hJ ?_))
 revert h;refine bS fun Y C h=>?_
 simp only[*,go_sem]
 refine aM hJ _ (gL (u0.aE.length:Int) 1 3 C) (aD ?_)
 try simp only[*,go_sem]
 revert h;refine jC hJ (by simp only[*,go_sem]) (fun D h=>?_) fun D h=>?_
 ·obtain rfl:=sI h
  refine aa hJ (ag hJ ?_)
  simp only[*,go_sem]
  refine ay ?_
  simp only[*,go_sem]
 refine aF hJ (aa hJ ?_)
 refine aa hJ (ag hJ ?_)
 simp only[*,go_sem]
 refine aU hJ ?_
 revert h;refine bS fun E a c=>?_
 refine bX hJ [2,4,15,16,17,18,19,20,21,22,23,24,25,26,27,28,29,30,31,32,33,34,35,36,37,38,39] (fun m o F'=>∃(i34:Nat) (d:Int),m=u0.aE.length - i34/\i34<=u0.aE.length/\bG (so) i34 (u0.aE.drop i34) d=some E/\F'=⟨ro,(z,bl u0 s1 f (sl d17 u0.aE s) g)::[]⟩/\slot o 15= .int .i64 (i34:Int)/\slot o 2= .int .i64 d) u0.aE.length ?_ ?_
 ·refine ⟨0,0,(Nat.sub_zero _).symm,Nat.zero_le _,a,rfl,?_⟩
  simp only[*,go_sem]
 rintro Z ab F' p ⟨i34,d,rfl,ad,a,rfl,ae,al⟩
 obtain ⟨F,G,H⟩:=p.pick [13,14] (by decide)
 simp only[*,go_sem] at F G H
 clear p u hd w
 refine aa hJ (ag hJ ?_)
 simp only[*,go_sem]
 refine aa hJ ?_
 rcases Nat.lt_or_ge i34 u0.aE.length with I|q
 ·refine bK hJ (by simp only[*,go_sem]) ?_
  refine aF hJ ?_
  obtain ⟨i,j⟩:∃x,u0.aE[i34]?=some x:=⟨_,List.getElem?_eq_getElem I⟩
  rw[c5 j] at a
  revert a;refine bS fun ao h b=>?_
  unfold so at h
  try dsimp only at h
  obtain ⟨ar,K,L,M,e⟩:=l.y.el _ _ j
  obtain rfl:K=i.cells:=M
  cases L
  have N:=e 0 _ rfl;simp only[go_sem] at N
  have O:=e 1 _ rfl;simp only[go_sem] at O
  have P:=e 2 _ rfl;simp only[go_sem] at P
  clear e j
  refine aa hJ (aU hJ (aa hJ ?_))
  refine ag hJ ?_
  simp only[*,go_sem]
  refine ax fun a0 a2 Q=>?_;try simp only[au] at Q
  try simp only[*,go_sem]
  refine aa hJ (ag hJ ?_)
  revert h;refine bS fun a3 R h=>?_
  simp only[*,go_sem]
  refine aM hJ _ (gL i.back 1 20 R) (aD ?_)
  revert h;refine cS (fun S h=>?_) fun S h=>?_
  ·obtain rfl:=sI h
   try simp only[*,go_sem]
   refine bK hJ (by simp only[*,go_sem]) ?_
   refine aa hJ (ag hJ ?_)
   simp only[*,go_sem]
   obtain rfl:=sI b;clear b
   have h:=c
   dsimp only[aG] at h
   obtain rfl:=sI h
   refine ay ?_
   simp only[*,go_sem]
  revert h;refine bS fun a4 T h=>?_
  try simp only[*,go_sem]
  refine aM hJ _ (AW i.high 0 60 T) (aD ?_)
  revert h;refine cS (fun U h=>?_) fun U h=>?_
  ·obtain rfl:=sI h
   try simp only[*,go_sem]
   refine bK hJ (by simp only[*,go_sem]) ?_
   refine aa hJ (ag hJ ?_)
   simp only[*,go_sem]
   obtain rfl:=sI b;clear b
   have h:=c
   dsimp only[aG] at h
   obtain rfl:=sI h
   refine ay ?_
   simp only[*,go_sem]
  try simp only[*,go_sem]
  revert h;refine jC hJ (by simp only[*,go_sem]) (fun V h=>?_) fun V h=>?_
  ·obtain rfl:=sI h
   refine aa hJ (ag hJ ?_)
   simp only[*,go_sem]
   obtain rfl:=sI b;clear b
   have h:=c
   dsimp only[aG] at h
   obtain rfl:=sI h
   refine ay ?_
   simp only[*,go_sem]
  obtain rfl:=sI h
  refine aF hJ ?_
  have a5:=cm (n:=i34) (by have:=t;omega)
  refine ag hJ ?_
  simp only[*,go_sem]
  refine ⟨u0.aE.length - (i34+1),by omega,_,Le.sub (List.Sublist.cons _ (List.Sublist.refl _)),i34+1,d,rfl,by omega,b,rfl,?_⟩
  simp only[*,go_sem]
 have a6:=Nat.not_lt.2 q
 refine bL hJ (by simp only[*,go_sem]) ?_
 rw[List.drop_eq_nil_of_le q] at a
 obtain rfl:=sI a;clear a
 have h:=c
 dsimp only[aG] at h
 obtain rfl:=sI h
 refine bU ?_
 simp only[go_sem]
 refine aa hJ (ag hJ ?_)
 simp only[*,go_sem]
 refine ay ?_
 simp only[*,go_sem]
def sr (u0:ak)(i32:Nat)(a:cg)(st:Int):Option (Fl Int Int):=
 ah (eP u0 a.place) fun c=>cond (!c) (some (.rt 6)) (ah (hO a.di u0) fun b=>cond ((b != 0)) (some (.rt b)) (some (.nx st)))
def mR (u0:ak):Option Int:=
 cond (decide (3<(u0.props.length:Int))) (some 2) (ah (bG (sr u0) 0 u0.props 0) fun o=>aG o (fun a=>some 0) (fun _ _=>none) (fun r=>some r))
theorem Gb {ro:Addr->Option Value}(u0:ak){s1 l e f:Value}(c:bI ro u0 s1 l e f){r:Int}(h:mR u0=some r):aC Tryz.prog 207 #[bv u0 s1 l e f] ⟨ro,[]⟩ (fun v _=>v= .int .i64 r):=by
 obtain ⟨d10,t,rfl,T,u,-⟩:=id c.p
 unfold mR at h
 refine aC.go Tryz.func207 rfl Tryz.ntmps207 Tryz.results207 (by simp) fun main J hJ A w hd hs=>?_
 have y:=hs 0
 clear hs
 refine aa hJ (ag hJ ?_)
 simp only[*,go_sem]
 refine ax fun z U B=>?_;try simp only[au] at B
 try simp only[*,go_sem]
 refine aa hJ (aa hJ (ag hJ ?_))
 simp only[*,go_sem]
 revert h;refine jC hJ (by simp only[*,go_sem]) (fun C h=>?_) fun C h=>?_
 ·obtain rfl:=sI h
  refine aa hJ (ag hJ ?_)
  simp only[*,go_sem]
  refine ay ?_
  simp only[*,go_sem]
 refine aF hJ (aa hJ ?_)
 refine aa hJ (ag hJ ?_)
 simp only[*,go_sem]
 refine aU hJ ?_
 revert h;refine bS fun D a g=>?_
 refine bX hJ [2,4,5,15,16,17,18,19,20,21,22,23,24,25,26,27,28,29,30,31] (fun m o F'=>∃(i32:Nat) (d:Int),m=u0.props.length - i32/\i32<=u0.props.length/\bG (sr u0) i32 (u0.props.drop i32) d=some D/\F'=⟨ro,(z,bl u0 s1 (sl d10 u0.props t) e f)::[]⟩/\slot o 15= .int .i64 (i32:Int)/\slot o 2= .int .i64 d) u0.props.length ?_ ?_
 ·refine ⟨0,0,(Nat.sub_zero _).symm,Nat.zero_le _,a,rfl,?_⟩
  simp only[*,go_sem]
 rintro V W F' q ⟨i32,d,rfl,X,a,rfl,Y,Z⟩
 obtain ⟨E,F,G⟩:=q.pick [1,13,14] (by decide)
 simp only[*,go_sem] at E F G
 clear q w hd y
 refine aa hJ (ag hJ ?_)
 simp only[*,go_sem]
 refine aa hJ ?_
 rcases Nat.lt_or_ge i32 u0.props.length with H|s
 ·refine bK hJ (by simp only[*,go_sem]) ?_
  refine aF hJ ?_
  obtain ⟨i,j⟩:∃x,u0.props[i32]?=some x:=⟨_,List.getElem?_eq_getElem H⟩
  rw[c5 j] at a
  revert a;refine bS fun ab h b=>?_
  unfold sr at h
  try dsimp only at h
  obtain ⟨ad,I,K,L,k⟩:=c.p.el _ _ j
  obtain rfl:I=i.cells:=L
  cases K
  have M:=k 0 _ rfl;simp only[go_sem] at M
  have N:=k 1 _ rfl;simp only[go_sem] at N
  clear k j
  refine aa hJ (aU hJ (aa hJ ?_))
  refine ag hJ ?_
  simp only[*,go_sem]
  refine ax fun ae al O=>?_;try simp only[au] at O
  try simp only[*,go_sem]
  refine aa hJ (aa hJ (ag hJ ?_))
  revert h;refine bS fun ao P h=>?_
  simp only[*,go_sem]
  refine aM hJ _ (sd u0 (c.mono aH) i.place P) (aD ?_)
  try simp only[*,go_sem]
  revert h;refine jC hJ (by simp only[*,go_sem]) (fun Q h=>?_) fun Q h=>?_
  ·obtain rfl:=sI h
   refine aa hJ (ag hJ ?_)
   simp only[*,go_sem]
   obtain rfl:=sI b;clear b
   have h:=g
   dsimp only[aG] at h
   obtain rfl:=sI h
   refine ay ?_
   simp only[*,go_sem]
  refine aF hJ (aa hJ ?_)
  refine ag hJ ?_
  revert h;refine bS fun ar R h=>?_
  simp only[*,go_sem]
  refine aM hJ _ (v5 i.di u0 (c.mono aH) R) (aD ?_)
  try simp only[*,go_sem]
  refine aa hJ (ag hJ ?_)
  simp only[*,go_sem]
  revert h;refine jC hJ (by simp only[*,go_sem]) (fun S h=>?_) fun S h=>?_
  ·obtain rfl:=sI h
   refine aa hJ (ag hJ ?_)
   simp only[*,go_sem]
   obtain rfl:=sI b;clear b
   have h:=g
   dsimp only[aG] at h
   obtain rfl:=sI h
   refine ay ?_
   simp only[*,go_sem]
  obtain rfl:=sI h
  refine aF hJ ?_
  have a0:=cm (n:=i32) (by have:=u;omega)
  refine ag hJ ?_
  simp only[*,go_sem]
  refine ⟨u0.props.length - (i32+1),by omega,_,Le.sub (List.Sublist.cons _ (List.Sublist.refl _)),i32+1,d,rfl,by omega,b,rfl,?_⟩
  simp only[*,go_sem]
 have a2:=Nat.not_lt.2 s
 refine bL hJ (by simp only[*,go_sem]) ?_
 rw[List.drop_eq_nil_of_le s] at a
 obtain rfl:=sI a;clear a
 have h:=g
 dsimp only[aG] at h
 obtain rfl:=sI h
 refine bU ?_
 simp only[go_sem]
 refine aa hJ (ag hJ ?_)
 simp only[*,go_sem]
 refine ay ?_
 simp only[*,go_sem]
def su (u0:ak)(i34:Nat)(a:bH)(st:Int):Option (Fl Int Int):=
 ah (fO a.an 0 (IntKind.i64.wrap (u0.aZ - 1))) fun b=>cond (!b) (some (.rt 1)) (ah (fO a.high 0 60) fun c=>cond (!c) (some (.rt 1)) (cond (decide (0<(i34:Int))) (ah (bw u0.aj (IntKind.i64.wrap ((i34:Int) - 1))) fun d=>cond (decide (a.an<=d.an)) (some (.rt 7)) (some (.nx st))) (some (.nx st))))
def lE (u0:ak):Option Int:=
 ah (fO (u0.aj.length:Int) 2 5) fun a=>cond (!a) (some 2) (ah (bG (su u0) 0 u0.aj 0) fun o=>aG o (fun b=>some 0) (fun _ _=>none) (fun r=>some r))
theorem Gc {ro:Addr->Option Value}(u0:ak){s1 f g i:Value}(j:bI ro u0 s1 f g i){r:Int}(h:lE u0=some r):aC Tryz.prog 206 #[bv u0 s1 f g i] ⟨ro,[]⟩ (fun v _=>v= .int .i64 r):=by
 obtain ⟨d3,c4,rfl,ar,q,-⟩:=id j.e
 unfold lE at h
 refine aC.go Tryz.func206 rfl Tryz.ntmps206 Tryz.results206 (by simp) fun main J hJ A y hd hs=>?_
 have z:=hs 0
 clear hs
 refine aa hJ (ag hJ ?_)
 simp only[*,go_sem]
 refine ax fun B a0 C=>?_;try simp only[au] at C
 try simp only[*,go_sem]
 refine aa hJ (aa hJ (ag hJ ?_))
 revert h;refine bS fun a2 D h=>?_
 simp only[*,go_sem]
 refine aM hJ _ (gL (u0.aj.length:Int) 2 5 D) (aD ?_)
 try simp only[*,go_sem]
 revert h;refine jC hJ (by simp only[*,go_sem]) (fun E h=>?_) fun E h=>?_
 ·obtain rfl:=sI h
  refine aa hJ (ag hJ ?_)
  simp only[*,go_sem]
  refine ay ?_
  simp only[*,go_sem]
 refine aF hJ (aa hJ ?_)
 refine aa hJ (ag hJ ?_)
 simp only[*,go_sem]
 refine aU hJ ?_
 revert h;refine bS fun F b d=>?_
 refine bX hJ [2,3,4,15,16,17,18,19,20,21,22,23,24,25,26,27,28,29,30,31,32,33,34,35,36,37,38,39,40,41,42,43,44,45,46,47,48,49] (fun m s F'=>∃(i34:Nat) (c:Int),m=u0.aj.length - i34/\i34<=u0.aj.length/\bG (su u0) i34 (u0.aj.drop i34) c=some F/\F'=⟨ro,(B,bl u0 (sl d3 u0.aj c4) f g i)::[]⟩/\slot s 15= .int .i64 (i34:Int)/\slot s 2= .int .i64 c) u0.aj.length ?_ ?_
 ·refine ⟨0,0,(Nat.sub_zero _).symm,Nat.zero_le _,b,rfl,?_⟩
  simp only[*,go_sem]
 rintro a3 a4 F' t ⟨i34,c,rfl,a5,b,rfl,a6,a7⟩
 obtain ⟨G,H,I⟩:=t.pick [1,13,14] (by decide)
 simp only[*,go_sem] at G H I
 clear t y hd z
 refine aa hJ (ag hJ ?_)
 simp only[*,go_sem]
 refine aa hJ ?_
 rcases Nat.lt_or_ge i34 u0.aj.length with K|u
 ·refine bK hJ (by simp only[*,go_sem]) ?_
  refine aF hJ ?_
  obtain ⟨k,l⟩:∃x,u0.aj[i34]?=some x:=⟨_,List.getElem?_eq_getElem K⟩
  rw[c5 l] at b
  revert b;refine bS fun a8 h a=>?_
  unfold su at h
  try dsimp only at h
  obtain ⟨a9,L,M,N,o⟩:=j.e.el _ _ l
  obtain rfl:L=k.cells:=N
  cases M
  have O:=o 0 _ rfl;simp only[go_sem] at O
  have P:=o 1 _ rfl;simp only[go_sem] at P
  clear o l
  refine aa hJ (aU hJ (aa hJ ?_))
  refine ag hJ ?_
  simp only[*,go_sem]
  refine ax fun ba bb Q=>?_;try simp only[au] at Q
  try simp only[*,go_sem]
  refine aU hJ (aa hJ ?_)
  refine aa hJ (ag hJ ?_)
  revert h;refine bS fun bc R h=>?_
  simp only[*,go_sem]
  refine aM hJ _ (gL k.an 0 (IntKind.i64.wrap (u0.aZ - 1)) R) (aD ?_)
  try simp only[*,go_sem]
  revert h;refine jC hJ (by simp only[*,go_sem]) (fun S h=>?_) fun S h=>?_
  ·obtain rfl:=sI h
   refine aF hJ ?_
   refine bK hJ (by simp only[*,go_sem]) ?_
   refine aa hJ (ag hJ ?_)
   simp only[*,go_sem]
   obtain rfl:=sI a;clear a
   have h:=d
   dsimp only[aG] at h
   obtain rfl:=sI h
   refine ay ?_
   simp only[*,go_sem]
  refine ag hJ ?_
  revert h;refine bS fun bd T h=>?_
  simp only[*,go_sem]
  refine aM hJ _ (gL k.high 0 60 T) (aD ?_)
  try simp only[*,go_sem]
  revert h;refine jC hJ (by simp only[*,go_sem]) (fun U h=>?_) fun U h=>?_
  ·obtain rfl:=sI h
   refine aa hJ (ag hJ ?_)
   simp only[*,go_sem]
   obtain rfl:=sI a;clear a
   have h:=d
   dsimp only[aG] at h
   obtain rfl:=sI h
   refine ay ?_
   simp only[*,go_sem]
  refine aa hJ ?_
  refine cY hJ mixed 16 2 (by simp only[*,go_sem]) (by kernel_rfl) ?_
  revert h;refine cS (fun V h=>?_) fun V h=>?_
  ·revert h;refine bS fun W X h=>?_
   obtain ⟨bj,bk,w⟩:=cw X
   obtain ⟨bm,Y,Z,ab,p⟩:=j.e.el _ _ w
   obtain rfl:Y=W.cells:=ab
   cases Z
   have ad:=p 0 _ rfl;simp only[go_sem] at ad
   have ae:=p 1 _ rfl;simp only[go_sem] at ae
   clear p w
   try simp only[*,go_sem]
   revert h;refine jC hJ (by simp only[*,go_sem]) (fun al h=>?_) fun al h=>?_
   ·obtain rfl:=sI h
    refine aa hJ (ag hJ ?_)
    simp only[*,go_sem]
    obtain rfl:=sI a;clear a
    have h:=d
    dsimp only[aG] at h
    obtain rfl:=sI h
    refine ay ?_
    simp only[*,go_sem]
   obtain rfl:=sI h
   refine aF hJ ?_
   have ao:=cm (n:=i34) (by have:=q;omega)
   refine ag hJ ?_
   simp only[*,go_sem]
   refine ⟨u0.aj.length - (i34+1),by omega,_,Le.sub (List.Sublist.cons _ (List.Sublist.refl _)),i34+1,c,rfl,by omega,a,rfl,?_⟩
   simp only[*,go_sem]
  obtain rfl:=sI h
  try simp only[*,go_sem]
  refine bL hJ (by simp only[*,go_sem]) ?_
  refine aF hJ ?_
  have ao:=cm (n:=i34) (by have:=q;omega)
  refine ag hJ ?_
  simp only[*,go_sem]
  refine ⟨u0.aj.length - (i34+1),by omega,_,Le.sub (List.Sublist.cons _ (List.Sublist.refl _)),i34+1,c,rfl,by omega,a,rfl,?_⟩
  simp only[*,go_sem]
 have bo:=Nat.not_lt.2 u
 refine bL hJ (by simp only[*,go_sem]) ?_
 rw[List.drop_eq_nil_of_le u] at b
 obtain rfl:=sI b;clear b
 have h:=d
 dsimp only[aG] at h
 obtain rfl:=sI h
 refine bU ?_
 simp only[go_sem]
 refine aa hJ (ag hJ ?_)
 simp only[*,go_sem]
 refine ay ?_
 simp only[*,go_sem]
def n7 (u0:ak):Option Int:=
 ah (fO u0.aZ 2 60) fun b=>cond (!b) (some 1) (ah (fO u0.bD 0 60) fun c=>cond (!c) (some 1) (ah (fO u0.aR.den 1 20) fun d=>cond (!d) (some 1) (ah (fO u0.aR.num 0 20) fun e=>cond (!e) (some 1) (ah (kD u0.aR.num u0.aR.den) fun a=>cond (!((a.num==u0.aR.num)&&(a.den==u0.aR.den))) (some 3) (some 0)))))
theorem Gd {ro:Addr->Option Value}(u0:ak){s1 a b c:Value}(z:bI ro u0 s1 a b c){r:Int}(h:n7 u0=some r):aC Tryz.prog 205 #[bv u0 s1 a b c] ⟨ro,[]⟩ (fun v _=>v= .int .i64 r):=by
 unfold n7 at h
 refine aC.go Tryz.func205 rfl Tryz.ntmps205 Tryz.results205 (by simp) fun main J hJ A d hd hs=>?_
 have e:=hs 0
 clear hs
 refine aa hJ (ag hJ ?_)
 simp only[*,go_sem]
 refine ax fun B C f=>?_;try simp only[au] at f
 try simp only[*,go_sem]
 refine aa hJ (aU hJ (aa hJ ?_))
 refine aa hJ (ag hJ ?_)
 revert h;refine bS fun D g h=>?_
 simp only[*,go_sem]
 refine aM hJ _ (gL u0.aZ 2 60 g) (aD ?_)
 try simp only[*,go_sem]
 revert h;refine jC hJ (by simp only[*,go_sem]) (fun i h=>?_) fun i h=>?_
 ·obtain rfl:=sI h
  refine aF hJ ?_
  refine bK hJ (by simp only[*,go_sem]) ?_
  refine aa hJ (ag hJ ?_)
  simp only[*,go_sem]
  refine ay ?_
  simp only[*,go_sem]
 refine aa hJ (ag hJ ?_)
 revert h;refine bS fun E j h=>?_
 simp only[*,go_sem]
 refine aM hJ _ (gL u0.bD 0 60 j) (aD ?_)
 try simp only[*,go_sem]
 revert h;refine jC hJ (by simp only[*,go_sem]) (fun k h=>?_) fun k h=>?_
 ·obtain rfl:=sI h
  refine aF hJ ?_
  refine bK hJ (by simp only[*,go_sem]) ?_
  refine aa hJ (ag hJ ?_)
  simp only[*,go_sem]
  refine ay ?_
  simp only[*,go_sem]
 refine aa hJ (ag hJ ?_)
 revert h;refine bS fun G l h=>?_
 simp only[*,go_sem]
 refine aM hJ _ (gL u0.aR.den 1 20 l) (aD ?_)
 try simp only[*,go_sem]
 revert h;refine jC hJ (by simp only[*,go_sem]) (fun m h=>?_) fun m h=>?_
 ·obtain rfl:=sI h
  refine aF hJ ?_
  refine bK hJ (by simp only[*,go_sem]) ?_
  refine aa hJ (ag hJ ?_)
  simp only[*,go_sem]
  refine ay ?_
  simp only[*,go_sem]
 refine ag hJ ?_
 revert h;refine bS fun H n h=>?_
 simp only[*,go_sem]
 refine aM hJ _ (gL u0.aR.num 0 20 n) (aD ?_)
 try simp only[*,go_sem]
 revert h;refine jC hJ (by simp only[*,go_sem]) (fun o h=>?_) fun o h=>?_
 ·obtain rfl:=sI h
  refine aa hJ (ag hJ ?_)
  simp only[*,go_sem]
  refine ay ?_
  simp only[*,go_sem]
 refine aa hJ ?_
 refine cY hJ mixed 14 1 (by simp only[*,go_sem]) (by kernel_rfl) ?_
 revert h;refine bS fun I p h=>?_
 simp only[*,go_sem]
 refine ⟨_,bE hJ fun F K=>qd u0.aR.num u0.aR.den p,b9 ?_⟩
 try simp only[*,go_sem]
 revert h;refine jC hJ (by simp only[*,go_sem]) (fun q h=>?_) fun q h=>?_
 ·obtain rfl:=sI h
  refine aa hJ ?_
  refine eC [2] fun L s t u=>?_
  simp only[*,go_sem] at s t u
  clear d hd e
  refine ag hJ ?_
  simp only[*,go_sem]
  refine ay ?_
  simp only[*,go_sem]
 obtain rfl:=sI h
 refine aF hJ (aa hJ ?_)
 refine eC [2] fun M w x y=>?_
 simp only[*,go_sem] at w x y
 clear d hd e
 refine ag hJ ?_
 simp only[*,go_sem]
 refine ay ?_
 simp only[*,go_sem]
def cU (ro:Addr->Option Value):Prop:=
 ro ⟨0,0,none⟩=some (.func (.func 205) #[] #[])/\ro ⟨0,1,none⟩=some (.func (.func 206) #[] #[])/\ro ⟨0,2,none⟩=some (.func (.func 207) #[] #[])/\ro ⟨0,3,none⟩=some (.func (.func 208) #[] #[])/\ro ⟨0,4,none⟩=some (.func (.func 209) #[] #[])
theorem cU.mono {ro aK:Addr->Option Value}(h:cU ro)(a:Ext ro aK):cU aK:=
 ⟨a _ _ h.1,a _ _ h.2.1,a _ _ h.2.2.1,a _ _ h.2.2.2.1,a _ _ h.2.2.2.2⟩
def n8 (_:ak):Option Int:=some 0
def lF (b:ak):Option Int:=ah (mP b) fun x=>cond (x != 0) (some x) (n8 b)
def lG (b:ak):Option Int:=ah (mQ b) fun x=>cond (x != 0) (some x) (lF b)
def lH (b:ak):Option Int:=ah (mR b) fun x=>cond (x != 0) (some x) (lG b)
def lI (b:ak):Option Int:=ah (lE b) fun x=>cond (x != 0) (some x) (lH b)
def je (b:ak):Option Int:=ah (n7 b) fun x=>cond (x != 0) (some x) (lI b)
def dM (b:ak):Option Int:=je b
def sw:Nat->ak->Option Int
 |0=>je|1=>lI|2=>lH|3=>lG|4=>lF|_=>n8
theorem AZ {ro:Addr->Option Value}(o:cU ro)(u0:ak){s1:Value}(e:aB eD ro s1 u0.aj){s2:Value}(f:aB eE ro s2 u0.props){g:Value}(j:aB eY ro g u0.aE){k:Value}(l:aB cX ro k u0.told){r:Int}(h:dM u0=some r):
  aC Tryz.prog 94 #[.agg #[.int .i64 u0.aZ,.int .i64 u0.bD,.int .i64 u0.aR.num,.int .i64 u0.aR.den,s1,s2,g,k]] ⟨ro,[]⟩ (fun v _=>v= .int .i64 r):=by
 obtain ⟨s,t,u,w,y⟩:=o
 replace h:sw 0 u0=some r:=h
 refine aC.go Tryz.func94 rfl Tryz.ntmps94 Tryz.results94 (by simp) fun main J hJ A p hd hs=>?_
 have h0:=hs 0
 clear hs
 first|refine ag hJ ?_|refine aa hJ (ag hJ ?_)|refine aa hJ (aa hJ (ag hJ ?_))|refine aa hJ (aa hJ (aa hJ (ag hJ ?_)))
 simp only[*,go_sem]
 intro d f1;have r1:=eI f1;have n1:=fJ f1;simp only[au] at n1
 first|refine ag hJ ?_|refine aa hJ (ag hJ ?_)|refine aa hJ (aa hJ (ag hJ ?_))|refine aa hJ (aa hJ (aa hJ (ag hJ ?_)))
 simp only[*,go_sem]
 first|refine aU hJ (vA hJ (fun m a F=>∃i:Nat,F=⟨ro,[(d,.cells #[.int .i64 u0.aZ,.int .i64 u0.bD,.int .i64 u0.aR.num,.int .i64 u0.aR.den,s1,s2,g,k] 29)]⟩/\m=5 - i/\sz a=18/\a.defers=[]/\slot a 1= .pointer (some ⟨d,0,none⟩)/\slot a 6= .agg #[.func (.func 205) #[] #[],.func (.func 206) #[] #[],.func (.func 207) #[] #[],.func (.func 208) #[] #[],.func (.func 209) #[] #[]]/\slot a 7= .int .i64 i/\i<=5/\sw i u0=some r) (5) ?_ ?_)|refine aa hJ (aU hJ (vA hJ (fun m a F=>∃i:Nat,F=⟨ro,[(d,.cells #[.int .i64 u0.aZ,.int .i64 u0.bD,.int .i64 u0.aR.num,.int .i64 u0.aR.den,s1,s2,g,k] 29)]⟩/\m=5 - i/\sz a=18/\a.defers=[]/\slot a 1= .pointer (some ⟨d,0,none⟩)/\slot a 6= .agg #[.func (.func 205) #[] #[],.func (.func 206) #[] #[],.func (.func 207) #[] #[],.func (.func 208) #[] #[],.func (.func 209) #[] #[]]/\slot a 7= .int .i64 i/\i<=5/\sw i u0=some r) (5) ?_ ?_))|refine aa hJ (aa hJ (aU hJ (vA hJ (fun m a F=>∃i:Nat,F=⟨ro,[(d,.cells #[.int .i64 u0.aZ,.int .i64 u0.bD,.int .i64 u0.aR.num,.int .i64 u0.aR.den,s1,s2,g,k] 29)]⟩/\m=5 - i/\sz a=18/\a.defers=[]/\slot a 1= .pointer (some ⟨d,0,none⟩)/\slot a 6= .agg #[.func (.func 205) #[] #[],.func (.func 206) #[] #[],.func (.func 207) #[] #[],.func (.func 208) #[] #[],.func (.func 209) #[] #[]]/\slot a 7= .int .i64 i/\i<=5/\sw i u0=some r) (5) ?_ ?_)))
 ·refine ⟨0,rfl,rfl,?_⟩
  simp only[*,go_sem,-h]
  exact ⟨Nat.zero_le _,h⟩
 ·clear h
  rintro m a F ⟨i,rfl,rfl,p,hd,h1,z,B,hi,h⟩
  rcases i with _|_|_|_|_|i
  ·replace h:ah (n7 u0) (fun x=>cond (x != 0) (some x) (lI u0))=some r:=h
   have b:=fX h;clear h;obtain ⟨x,q,h⟩:=b
   have n:((0:Nat):Int)=0:=rfl
   first|refine ag hJ ?_|refine aa hJ (ag hJ ?_)|refine aa hJ (aa hJ (ag hJ ?_))|refine aa hJ (aa hJ (aa hJ (ag hJ ?_)))
   simp only[*,go_sem,-h]
   refine aa hJ ?_
   refine bK hJ (by simp only[*,go_sem,-h]) ?_
   refine aF hJ ?_
   refine aa hJ (aU hJ ?_)
   first|refine ag hJ ?_|refine aa hJ (ag hJ ?_)|refine aa hJ (aa hJ (ag hJ ?_))|refine aa hJ (aa hJ (aa hJ (ag hJ ?_)))
   simp only[*,go_sem,-h]
   first|refine ag hJ ?_|refine aa hJ (ag hJ ?_)|refine aa hJ (aa hJ (ag hJ ?_))|refine aa hJ (aa hJ (aa hJ (ag hJ ?_)))
   simp only[*,go_sem,-h]
   refine aM hJ _ (Gd u0 ⟨(e.mono aH),(f.mono aH),(j.mono aH),(l.mono aH)⟩ q) (aD ?_)
   simp only[*,go_sem,-h]
   first|refine ag hJ ?_|refine aa hJ (ag hJ ?_)|refine aa hJ (aa hJ (ag hJ ?_))|refine aa hJ (aa hJ (aa hJ (ag hJ ?_)))
   simp only[*,go_sem,-h]
   have b:=iX h;clear h;rcases b with ⟨c,h⟩|⟨c,h⟩
   ·refine bK hJ (by simp only[*,go_sem,-h]) ?_
    first|refine ag hJ ?_|refine aa hJ (ag hJ ?_)|refine aa hJ (aa hJ (ag hJ ?_))|refine aa hJ (aa hJ (aa hJ (ag hJ ?_)))
    simp only[*,go_sem,-h]
    have b:=Option.some.inj h;clear h;subst b
    refine ay ?_
    simp only[*,go_sem]
   ·refine bL hJ (by simp only[*,go_sem,-h]) ?_
    refine aF hJ ?_
    refine ag hJ ?_
    simp only[*,go_sem,-h]
    refine ⟨5 - 1,by omega,_,Le.refl _,1,rfl,rfl,?_⟩
    have hw:IntKind.i64.wrap (0+1)=((1:Nat):Int):=by decide
    simp only[*,go_sem,-h]
    exact ⟨by omega,h⟩
  ·replace h:ah (lE u0) (fun x=>cond (x != 0) (some x) (lH u0))=some r:=h
   have b:=fX h;clear h;obtain ⟨x,q,h⟩:=b
   have n:((0+1:Nat):Int)=1:=rfl
   first|refine ag hJ ?_|refine aa hJ (ag hJ ?_)|refine aa hJ (aa hJ (ag hJ ?_))|refine aa hJ (aa hJ (aa hJ (ag hJ ?_)))
   simp only[*,go_sem,-h]
   refine aa hJ ?_
   refine bK hJ (by simp only[*,go_sem,-h]) ?_
   refine aF hJ ?_
   refine aa hJ (aU hJ ?_)
   first|refine ag hJ ?_|refine aa hJ (ag hJ ?_)|refine aa hJ (aa hJ (ag hJ ?_))|refine aa hJ (aa hJ (aa hJ (ag hJ ?_)))
   simp only[*,go_sem,-h]
   first|refine ag hJ ?_|refine aa hJ (ag hJ ?_)|refine aa hJ (aa hJ (ag hJ ?_))|refine aa hJ (aa hJ (aa hJ (ag hJ ?_)))
   simp only[*,go_sem,-h]
   refine aM hJ _ (Gc u0 ⟨(e.mono aH),(f.mono aH),(j.mono aH),(l.mono aH)⟩ q) (aD ?_)
   simp only[*,go_sem,-h]
   first|refine ag hJ ?_|refine aa hJ (ag hJ ?_)|refine aa hJ (aa hJ (ag hJ ?_))|refine aa hJ (aa hJ (aa hJ (ag hJ ?_)))
   simp only[*,go_sem,-h]
   have b:=iX h;clear h;rcases b with ⟨c,h⟩|⟨c,h⟩
   ·refine bK hJ (by simp only[*,go_sem,-h]) ?_
    first|refine ag hJ ?_|refine aa hJ (ag hJ ?_)|refine aa hJ (aa hJ (ag hJ ?_))|refine aa hJ (aa hJ (aa hJ (ag hJ ?_)))
    simp only[*,go_sem,-h]
    have b:=Option.some.inj h;clear h;subst b
    refine ay ?_
    simp only[*,go_sem]
   ·refine bL hJ (by simp only[*,go_sem,-h]) ?_
    refine aF hJ ?_
    refine ag hJ ?_
    simp only[*,go_sem,-h]
    refine ⟨5 - 2,by omega,_,Le.refl _,2,rfl,rfl,?_⟩
    have hw:IntKind.i64.wrap (1+1)=((2:Nat):Int):=by decide
    simp only[*,go_sem,-h]
    exact ⟨by omega,h⟩
  ·replace h:ah (mR u0) (fun x=>cond (x != 0) (some x) (lG u0))=some r:=h
   have b:=fX h;clear h;obtain ⟨x,q,h⟩:=b
   have n:((0+1+1:Nat):Int)=2:=rfl
   first|refine ag hJ ?_|refine aa hJ (ag hJ ?_)|refine aa hJ (aa hJ (ag hJ ?_))|refine aa hJ (aa hJ (aa hJ (ag hJ ?_)))
   simp only[*,go_sem,-h]
   refine aa hJ ?_
   refine bK hJ (by simp only[*,go_sem,-h]) ?_
   refine aF hJ ?_
   refine aa hJ (aU hJ ?_)
   first|refine ag hJ ?_|refine aa hJ (ag hJ ?_)|refine aa hJ (aa hJ (ag hJ ?_))|refine aa hJ (aa hJ (aa hJ (ag hJ ?_)))
   simp only[*,go_sem,-h]
   first|refine ag hJ ?_|refine aa hJ (ag hJ ?_)|refine aa hJ (aa hJ (ag hJ ?_))|refine aa hJ (aa hJ (aa hJ (ag hJ ?_)))
   simp only[*,go_sem,-h]
   refine aM hJ _ (Gb u0 ⟨(e.mono aH),(f.mono aH),(j.mono aH),(l.mono aH)⟩ q) (aD ?_)
   simp only[*,go_sem,-h]
   first|refine ag hJ ?_|refine aa hJ (ag hJ ?_)|refine aa hJ (aa hJ (ag hJ ?_))|refine aa hJ (aa hJ (aa hJ (ag hJ ?_)))
   simp only[*,go_sem,-h]
   have b:=iX h;clear h;rcases b with ⟨c,h⟩|⟨c,h⟩
   ·refine bK hJ (by simp only[*,go_sem,-h]) ?_
    first|refine ag hJ ?_|refine aa hJ (ag hJ ?_)|refine aa hJ (aa hJ (ag hJ ?_))|refine aa hJ (aa hJ (aa hJ (ag hJ ?_)))
    simp only[*,go_sem,-h]
    have b:=Option.some.inj h;clear h;subst b
    refine ay ?_
    simp only[*,go_sem]
   ·refine bL hJ (by simp only[*,go_sem,-h]) ?_
    refine aF hJ ?_
    refine ag hJ ?_
    simp only[*,go_sem,-h]
    refine ⟨5 - 3,by omega,_,Le.refl _,3,rfl,rfl,?_⟩
    have hw:IntKind.i64.wrap (2+1)=((3:Nat):Int):=by decide
    simp only[*,go_sem,-h]
    exact ⟨by omega,h⟩
  ·replace h:ah (mQ u0) (fun x=>cond (x != 0) (some x) (lF u0))=some r:=h
   have b:=fX h;clear h;obtain ⟨x,q,h⟩:=b
   have n:((0+1+1+1:Nat):Int)=3:=rfl
   first|refine ag hJ ?_|refine aa hJ (ag hJ ?_)|refine aa hJ (aa hJ (ag hJ ?_))|refine aa hJ (aa hJ (aa hJ (ag hJ ?_)))
   simp only[*,go_sem,-h]
   refine aa hJ ?_
   refine bK hJ (by simp only[*,go_sem,-h]) ?_
   refine aF hJ ?_
   refine aa hJ (aU hJ ?_)
   first|refine ag hJ ?_|refine aa hJ (ag hJ ?_)|refine aa hJ (aa hJ (ag hJ ?_))|refine aa hJ (aa hJ (aa hJ (ag hJ ?_)))
   simp only[*,go_sem,-h]
   first|refine ag hJ ?_|refine aa hJ (ag hJ ?_)|refine aa hJ (aa hJ (ag hJ ?_))|refine aa hJ (aa hJ (aa hJ (ag hJ ?_)))
   simp only[*,go_sem,-h]
   refine aM hJ _ (Ga u0 ⟨(e.mono aH),(f.mono aH),(j.mono aH),(l.mono aH)⟩ q) (aD ?_)
   simp only[*,go_sem,-h]
   first|refine ag hJ ?_|refine aa hJ (ag hJ ?_)|refine aa hJ (aa hJ (ag hJ ?_))|refine aa hJ (aa hJ (aa hJ (ag hJ ?_)))
   simp only[*,go_sem,-h]
   have b:=iX h;clear h;rcases b with ⟨c,h⟩|⟨c,h⟩
   ·refine bK hJ (by simp only[*,go_sem,-h]) ?_
    first|refine ag hJ ?_|refine aa hJ (ag hJ ?_)|refine aa hJ (aa hJ (ag hJ ?_))|refine aa hJ (aa hJ (aa hJ (ag hJ ?_)))
    simp only[*,go_sem,-h]
    have b:=Option.some.inj h;clear h;subst b
    refine ay ?_
    simp only[*,go_sem]
   ·refine bL hJ (by simp only[*,go_sem,-h]) ?_
    refine aF hJ ?_
    refine ag hJ ?_
    simp only[*,go_sem,-h]
    refine ⟨5 - 4,by omega,_,Le.refl _,4,rfl,rfl,?_⟩
    have hw:IntKind.i64.wrap (3+1)=((4:Nat):Int):=by decide
    simp only[*,go_sem,-h]
    exact ⟨by omega,h⟩
  ·replace h:ah (mP u0) (fun x=>cond (x != 0) (some x) (n8 u0))=some r:=h
   have b:=fX h;clear h;obtain ⟨x,q,h⟩:=b
   have n:((0+1+1+1+1:Nat):Int)=4:=rfl
   first|refine ag hJ ?_|refine aa hJ (ag hJ ?_)|refine aa hJ (aa hJ (ag hJ ?_))|refine aa hJ (aa hJ (aa hJ (ag hJ ?_)))
   simp only[*,go_sem,-h]
   refine aa hJ ?_
   refine bK hJ (by simp only[*,go_sem,-h]) ?_
   refine aF hJ ?_
   refine aa hJ (aU hJ ?_)
   first|refine ag hJ ?_|refine aa hJ (ag hJ ?_)|refine aa hJ (aa hJ (ag hJ ?_))|refine aa hJ (aa hJ (aa hJ (ag hJ ?_)))
   simp only[*,go_sem,-h]
   first|refine ag hJ ?_|refine aa hJ (ag hJ ?_)|refine aa hJ (aa hJ (ag hJ ?_))|refine aa hJ (aa hJ (aa hJ (ag hJ ?_)))
   simp only[*,go_sem,-h]
   refine aM hJ _ (F9 u0 ⟨(e.mono aH),(f.mono aH),(j.mono aH),(l.mono aH)⟩ q) (aD ?_)
   simp only[*,go_sem,-h]
   first|refine ag hJ ?_|refine aa hJ (ag hJ ?_)|refine aa hJ (aa hJ (ag hJ ?_))|refine aa hJ (aa hJ (aa hJ (ag hJ ?_)))
   simp only[*,go_sem,-h]
   have b:=iX h;clear h;rcases b with ⟨c,h⟩|⟨c,h⟩
   ·refine bK hJ (by simp only[*,go_sem,-h]) ?_
    first|refine ag hJ ?_|refine aa hJ (ag hJ ?_)|refine aa hJ (aa hJ (ag hJ ?_))|refine aa hJ (aa hJ (aa hJ (ag hJ ?_)))
    simp only[*,go_sem,-h]
    have b:=Option.some.inj h;clear h;subst b
    refine ay ?_
    simp only[*,go_sem]
   ·refine bL hJ (by simp only[*,go_sem,-h]) ?_
    refine aF hJ ?_
    refine ag hJ ?_
    simp only[*,go_sem,-h]
    refine ⟨5 - 5,by omega,_,Le.refl _,5,rfl,rfl,?_⟩
    have hw:IntKind.i64.wrap (4+1)=((5:Nat):Int):=by decide
    simp only[*,go_sem,-h]
    exact ⟨by omega,h⟩
  ·have:i=0:=by omega
   subst this
   replace h:some 0=some r:=h
   have n:((0+1+1+1+1+1:Nat):Int)=5:=rfl
   first|refine ag hJ ?_|refine aa hJ (ag hJ ?_)|refine aa hJ (aa hJ (ag hJ ?_))|refine aa hJ (aa hJ (aa hJ (ag hJ ?_)))
   simp only[*,go_sem,-h]
   refine aa hJ ?_
   refine bL hJ (by simp only[*,go_sem,-h]) ?_
   refine bU ?_
   simp only[go_sem]
   first|refine ag hJ ?_|refine aa hJ (ag hJ ?_)|refine aa hJ (aa hJ (ag hJ ?_))|refine aa hJ (aa hJ (aa hJ (ag hJ ?_)))
   simp only[*,go_sem,-h]
   have b:=Option.some.inj h;clear h;subst b
   refine ay ?_
   simp only[*,go_sem]
def n9 (u0:ak)(b:aO)(i39:Nat)(a:bH)(st:(List bA)):Option (Fl (List bA) bA):=
 ah (gr a.high) fun c=>ah (kE u0 b (i39:Int) (⟨a.an,c⟩:g9)) fun d=>ah (cB st ([d])) fun e=>some (.nx e)
def lJ (u0:ak)(b:aO):Option bA:=
 ah (bG (n9 u0 b) 0 u0.aj ([]:List bA)) fun o=>aG o (fun a=>ah (bw a 0) fun c=>ah (eA a 1 (a.length:Int)) fun d=>ah (kF gN c d) fun e=>some e) (fun _ _=>none) (fun r=>some r)
theorem sx {ro:Addr->Option Value}(u0:ak){s1 f g i:Value}(u:bI ro u0 s1 f g i)(b:aO){r:bA}(h:lJ u0 b=some r):aC Tryz.prog 56 #[bv u0 s1 f g i,.agg #[.int .i64 b.back,.int .i64 b.high]] ⟨ro,[]⟩ (fun v _=>v=r.v):=by
 obtain ⟨d3,c4,rfl,dE,W,-⟩:=id u.e
 unfold lJ at h
 refine aC.go Tryz.func56 rfl Tryz.ntmps56 Tryz.results56 (by simp) fun main J hJ A X hd hs=>?_
 have Y:=hs 0
 have k1:=hs 1
 clear hs
 refine aa hJ (ag hJ ?_)
 simp only[*,go_sem]
 refine ax fun o Z ab=>?_;try simp only[au] at ab
 refine ax fun p ad ae=>?_;try simp only[au] at ae
 refine ax fun q al ao=>?_;try simp only[au] at ao
 try simp only[*,go_sem]
 refine aa hJ (ag hJ ?_)
 simp only[*,go_sem]
 refine aa hJ (aa hJ (ag hJ ?_))
 simp only[*,go_sem]
 refine aU hJ ?_
 revert h;refine bS fun ar j a0=>?_
 refine bX hJ [5,6,7,12,13,14,15,16,17,18,19,20,21,22,23,24,25,26,27,28,29,30] (fun m G F'=>∃(i39:Nat) (d33:Option Addr) (s:Nat) (w:List (Nat×Obj)) (c:(List bA)),m=u0.aj.length - i39/\i39<=u0.aj.length/\bG (n9 u0 b) i39 (u0.aj.drop i39) c=some ar/\F'=⟨ro,(q,.cells #[.int .i64 0,.int .i64 0,.int .i64 0,.int .i64 0,.int .i64 0,.int .i64 0] 107)::(p,.cells #[.int .i64 b.back,.int .i64 b.high] 103)::(o,bl u0 (sl d3 u0.aj c4) f g i)::w⟩/\aW kC ro 107 (.slice d33 c.length s) c w/\c.length<=s/\slot G 12= .int .i64 (i39:Int)/\slot G 5= .slice d33 c.length s) u0.aj.length ?_ ?_
 ·refine ⟨0,none,0,[],([]:List bA),(Nat.sub_zero _).symm,Nat.zero_le _,j,rfl,aW.nil _ _ _,Nat.le_refl _,?_⟩
  simp only[*,go_sem]
 rintro dT ea F' H ⟨i39,d33,s,w,c,rfl,eb,j,rfl,I,ec,ed,eh⟩
 obtain ⟨a2,a3,a4⟩:=H.pick [2,3,4,10,11] (by decide)
 simp only[*,go_sem] at a2 a3 a4
 clear H X hd Y k1
 refine aa hJ (ag hJ ?_)
 simp only[*,go_sem]
 refine aa hJ ?_
 rcases Nat.lt_or_ge i39 u0.aj.length with a5|K
 ·refine bK hJ (by simp only[*,go_sem]) ?_
  refine aF hJ ?_
  obtain ⟨d,y⟩:∃x,u0.aj[i39]?=some x:=⟨_,List.getElem?_eq_getElem a5⟩
  rw[c5 y] at j
  revert j;refine bS fun et h a6=>?_
  unfold n9 at h
  try dsimp only at h
  obtain ⟨z,a7,a8,a9,B⟩:=u.e.el _ _ y
  obtain rfl:a7=d.cells:=a9
  cases a8
  have ba:=B 0 _ rfl;simp only[go_sem] at ba
  have bb:=B 1 _ rfl;simp only[go_sem] at bb
  clear B y
  refine aa hJ (aU hJ (aa hJ ?_))
  refine aL hJ fun bc=>?_
  refine ag hJ ?_
  simp only[*,go_sem]
  refine ax fun C ev L=>?_;have eQ:=aN.cons L bc;try simp only[au] at L
  try simp only[*,go_sem]
  refine aL hJ fun bd=>?_
  refine e5 hJ mixed 11 ⟨ro,[(C,.cells #[.int .i64 d.an,.int .i64 d.high] 45),(q,.cells #[.int .i64 0,.int .i64 0,.int .i64 0,.int .i64 0,.int .i64 0,.int .i64 0] 107),(p,.cells #[.int .i64 b.back,.int .i64 b.high] 103),(o,bl u0 (sl (some z) u0.aj c4) f g i)]⟩ (by simp only[*,go_sem]) (by kernel_rfl) ?_
  revert h;refine bS fun bj bk h=>?_
  simp only[*,go_sem]
  refine ⟨_,bE hJ fun F t=>jG d.high bk,b9 ?_⟩
  revert h;refine bS fun a bm h=>?_
  try simp only[*,go_sem]
  refine ⟨_,bE hJ fun F t=>AY u0 (u.mono (cc t)) b (i39:Int) (⟨d.an,bj⟩:g9) bm,?_⟩
  revert h;refine bS fun bo br h=>?_
  obtain rfl:=sI h
  obtain ⟨bs,M⟩:=cT br
  try simp only[*,go_sem]
  refine ax fun N bz O=>?_;have b0:=aN.cons O bd;try simp only[au] at O
  try simp only[*,go_sem]
  refine dG (r:=kC) (l:=c) (x:=a) (cs:=#[.int .i64 a.spot.an,.int .i64 a.spot.high.num,.int .i64 a.spot.high.den,.int .i64 a.at_,.int .i64 a.high.num,.int .i64 a.high.den]) (e2:=107) [(N,.cells #[.int .i64 a.spot.an,.int .i64 a.spot.high.num,.int .i64 a.spot.high.den,.int .i64 a.at_,.int .i64 a.high.num,.int .i64 a.high.den] 107),(C,.cells #[.int .i64 d.an,.int .i64 d.high] 45),(q,.cells #[.int .i64 0,.int .i64 0,.int .i64 0,.int .i64 0,.int .i64 0,.int .i64 0] 107),(p,.cells #[.int .i64 b.back,.int .i64 b.high] 103),(o,bl u0 (sl (some z) u0.aj c4) f g i)] [] I b0 bs rfl (by simp only[*,go_sem]) bz rfl rfl nU nU vE vG rfl vF (by decide) (by decide) (fun eS P D b1 b2 e0=>?_)
  simp only[List.append_nil,List.cons_append,List.nil_append,List.append_assoc] at b2
  subst b1
  rw[<-M] at D;clear M
  obtain ⟨d63,b3,rfl,b4⟩:=D.len
  refine ⟨⟨ro,(N,.cells #[.int .i64 a.spot.an,.int .i64 a.spot.high.num,.int .i64 a.spot.high.den,.int .i64 a.at_,.int .i64 a.high.num,.int .i64 a.high.den] 107)::(C,.cells #[.int .i64 d.an,.int .i64 d.high] 45)::(q,.cells #[.int .i64 0,.int .i64 0,.int .i64 0,.int .i64 0,.int .i64 0,.int .i64 0] 107)::(p,.cells #[.int .i64 b.back,.int .i64 b.high] 103)::(o,bl u0 (sl (some z) u0.aj c4) f g i)::P⟩,Le.refl _,?_⟩
  refine ⟨by simp only[*,go_sem],mC ?_⟩
  try simp only[*,go_sem]
  have e1:=cm (n:=i39) (by have:=W;omega)
  refine ag hJ ?_
  simp only[*,go_sem]
  refine ⟨u0.aj.length - (i39+1),by omega,_,Le.sub (List.Sublist.cons _ (List.Sublist.cons _ (List.Sublist.refl _))),i39+1,d63,b3,P,bo,rfl,by omega,a6,rfl,D,b4,?_⟩
  simp only[*,go_sem]
 have e3:=Nat.not_lt.2 K
 refine bL hJ (by simp only[*,go_sem]) ?_
 rw[List.drop_eq_nil_of_le K] at j
 obtain rfl:=sI j;clear j
 have h:=a0
 dsimp only[aG] at h
 refine bU ?_
 simp only[go_sem]
 refine aa hJ ?_
 refine aL hJ fun Q=>?_
 obtain ⟨b5,fa,ca,E,cb⟩:=I.eB [(q,.cells #[.int .i64 0,.int .i64 0,.int .i64 0,.int .i64 0,.int .i64 0,.int .i64 0] 107),(p,.cells #[.int .i64 b.back,.int .i64 b.high] 103),(o,bl u0 (sl d3 u0.aj c4) f g i)] [] Q (aA.cons al (aA.cons ad (aA.cons Z (aA.nil _))))
 clear Q
 refine cH hJ cb ?_
 obtain ⟨fb,ff,-⟩:=E.op
 simp only[bf] at ca
 refine e5 hJ mixed 6 ⟨b5,[(p,.cells #[.int .i64 b.back,.int .i64 b.high] 103),(o,bl u0 (sl d3 u0.aj c4) f g i)]⟩ (by simp only[*,go_sem]) (by kernel_rfl) ?_
 revert h;refine bS fun R cd h=>?_
 obtain ⟨fg,fi,S⟩:=cw cd
 obtain ⟨fl,cf,cl,cy,k⟩:=E.el _ _ S
 obtain rfl:cf=R.cells:=cy
 cases cl
 have cS:=k 0 _ rfl;simp only[go_sem] at cS
 have c0:=k 1 _ rfl;simp only[go_sem] at c0
 have da:=k 2 _ rfl;simp only[go_sem] at da
 have db:=k 3 _ rfl;simp only[go_sem] at db
 have dd:=k 4 _ rfl;simp only[go_sem] at dd
 have df:=k 5 _ rfl;simp only[go_sem] at df
 clear k S
 revert h;refine bS fun dk dp h=>?_
 obtain ⟨fp,fq,fr,T⟩:=j9 dp
 have U:(1:Int).toNat<=((c.length:Int)).toNat:=by omega
 have dq:((c.length:Int)).toNat<=s:=by omega
 have fs:0<=((c.length:Int)):=by omega
 obtain ⟨d80,ds,dt,V⟩:=aB.kg E (1:Int).toNat ((c.length:Int)).toNat U (by omega) T
 simp only[go_sem] at ds dt U dq
 obtain ⟨_,_,hq,ft,fu,fv⟩:=id V;cases hq
 clear T
 revert h;refine bS fun fw du h=>?_
 obtain rfl:=sI h
 try simp only[*,go_sem]
 refine ⟨_,bE hJ fun F t=>si (dH:=62) (dZ:=#[]) (ee:=#[]) gN ⟨by simp only[go_sem],fun fx fP dv dC _ h=>by simp only[go_sem];exact r8 dv dC h⟩ R dk (V.mono (cc t)) du,?_⟩
 try simp only[*,go_sem]
 refine ay ?_
 simp only[*,go_sem]
def oa (u0:ak)(a:aO):Option av:=
 ah (gr u0.bD) fun b=>ah (lJ u0 a) fun c=>ah (jI b c.high) fun d=>some d
theorem A0 {ro:Addr->Option Value}(u0:ak){s1 b c d:Value}(f:bI ro u0 s1 b c d)(a:aO){r:av}(h:oa u0 a=some r):aC Tryz.prog 57 #[bv u0 s1 b c d,.agg #[.int .i64 a.back,.int .i64 a.high]] ⟨ro,[]⟩ (fun v _=>v=r.v):=by
 unfold oa at h
 refine aC.go Tryz.func57 rfl Tryz.ntmps57 Tryz.results57 (by simp) fun main J hJ A s hd hs=>?_
 have t:=hs 0
 have k1:=hs 1
 clear hs
 refine aa hJ (ag hJ ?_)
 simp only[*,go_sem]
 refine ax fun g u i=>?_;try simp only[au] at i
 refine ax fun j w k=>?_;try simp only[au] at k
 refine ax fun x y l=>?_;try simp only[au] at l
 try simp only[*,go_sem]
 refine aa hJ ?_
 refine e5 hJ mixed 9 ⟨ro,[(j,.cells #[.int .i64 a.back,.int .i64 a.high] 103),(g,bl u0 s1 b c d)]⟩ (by simp only[*,go_sem]) (by kernel_rfl) ?_
 revert h;refine bS fun m n h=>?_
 simp only[*,go_sem]
 refine ⟨_,bE hJ fun F e=>jG u0.bD n,b9 ?_⟩
 revert h;refine bS fun o p h=>?_
 try simp only[*,go_sem]
 refine ⟨_,bE hJ fun F e=>sx u0 (f.mono (cc e)) a p,b9 ?_⟩
 revert h;refine bS fun z q h=>?_
 obtain rfl:=sI h
 try simp only[*,go_sem]
 refine ⟨_,bE hJ fun F e=>qf m o.high q,?_⟩
 try simp only[*,go_sem]
 refine ay ?_
 simp only[*,go_sem]
def ob (u0:ak)(a:Int)(st:Int):Option (Fl Int av):=
 ah (bw u0.aj st) fun b=>cond (decide (b.an<a)) (some (.nx (IntKind.i64.wrap (st+1)))) (some (.bk st))
def gu (u0:ak)(b:Int):Option av:=
 ah (bg (ob u0 b) fu 1) fun o=>aG o (fun c=>ah (bw u0.aj (IntKind.i64.wrap (c - 1))) fun a=>ah (bw u0.aj c) fun d=>ah (gr a.high) fun e=>ah (kD (IntKind.i64.wrap ((IntKind.i64.wrap (d.high - a.high))*(IntKind.i64.wrap (b - a.an)))) (IntKind.i64.wrap (d.an - a.an))) fun f=>ah (jH e f) fun g=>some g) (fun _ _=>none) (fun r=>some r)
theorem A1 {ro:Addr->Option Value}(u0:ak){s1 b c d:Value}(g:bI ro u0 s1 b c d)(i:Int){r:av}(h:gu u0 i=some r):aC Tryz.prog 59 #[bv u0 s1 b c d,.int .i64 i] ⟨ro,[]⟩ (fun v _=>v=r.v):=by
 obtain ⟨d3,c4,rfl,bc,bd,-⟩:=id g.e
 unfold gu at h
 refine aC.go Tryz.func59 rfl Tryz.ntmps59 Tryz.results59 (by simp) fun main J hJ A E hd hs=>?_
 have G:=hs 0
 have k1:=hs 1
 clear hs
 refine aa hJ (ag hJ ?_)
 simp only[*,go_sem]
 refine ax fun l bj H=>?_;try simp only[au] at H
 refine ax fun t bk I=>?_;try simp only[au] at I
 try simp only[*,go_sem]
 refine aa hJ (ag hJ ?_)
 simp only[*,go_sem]
 refine aa hJ (aU hJ ?_)
 revert h;refine bS fun K j L=>?_
 refine bX hJ [5,8,9,10,11,12,13,14,15,16,17,18] (fun m M F'=>∃(k:Int),bg (ob u0 i) m k=some K/\F'=⟨ro,(t,rt 0 0)::(l,bl u0 (sl d3 u0.aj c4) b c d)::[]⟩/\slot M 5= .int .i64 k) fu ?_ ?_
 ·refine ⟨1,j,rfl,?_⟩
  simp only[*,go_sem]
 rintro n bm F' u ⟨k,j,rfl,bo⟩
 obtain ⟨N,O,P⟩:=u.pick [1,2,4] (by decide)
 simp only[*,go_sem] at N O P
 clear u E hd G k1
 obtain _|n:=n
 ·exact absurd j (by simp only[bg,reduceCtorEq,not_false_eq_true])
 revert j;refine bS fun br h o=>?_
 unfold ob at h
 try dsimp only at h
 refine aa hJ (aa hJ (ag hJ ?_))
 revert h;refine bS fun Q R h=>?_
 obtain ⟨bs,bz,w⟩:=cw R
 obtain ⟨x,S,T,U,p⟩:=g.e.el _ _ w
 obtain rfl:S=Q.cells:=U
 cases T
 have y:=p 0 _ rfl;simp only[go_sem] at y
 have z:=p 1 _ rfl;simp only[go_sem] at z
 clear p w
 try simp only[*,go_sem]
 revert h;refine jC hJ (by simp only[*,go_sem]) (fun V h=>?_) fun V h=>?_
 ·obtain rfl:=sI h
  refine aF hJ (aU hJ ?_)
  refine ag hJ ?_
  simp only[*,go_sem]
  refine ⟨n,Nat.lt_succ_self _,_,Le.sub (List.Sublist.refl _),(IntKind.i64.wrap (k+1)),o,rfl,?_⟩
  simp only[*,go_sem]
 obtain rfl:=sI h
 refine bU ?_
 simp only[go_sem]
 obtain rfl:=sI o;clear o
 have h:=L
 dsimp only[aG] at h
 clear y z
 refine aa hJ ?_
 refine rV hJ mixed 13 ⟨ro,[(t,rt 0 0),(l,bl u0 (sl (some x) u0.aj c4) b c d)]⟩ (by simp only[*,go_sem]) (by kernel_rfl) 45 rfl mH ?_
 revert h;refine bS fun a W h=>?_
 obtain ⟨b0,b1,B⟩:=cw W
 obtain ⟨b2,X,Y,Z,q⟩:=g.e.el _ _ B
 obtain rfl:X=a.cells:=Z
 cases Y
 have ab:=q 0 _ rfl;simp only[go_sem] at ab
 have ad:=q 1 _ rfl;simp only[go_sem] at ad
 clear q B
 revert h;refine bS fun f ae h=>?_
 obtain ⟨b3,b4,C⟩:=cw ae
 obtain ⟨b5,al,ao,ar,s⟩:=g.e.el _ _ C
 obtain rfl:al=f.cells:=ar
 cases ao
 have a0:=s 0 _ rfl;simp only[go_sem] at a0
 have a2:=s 1 _ rfl;simp only[go_sem] at a2
 clear s C
 try simp only[*,go_sem]
 refine ax fun a3 ca a4=>?_;try simp only[au] at a4
 try simp only[*,go_sem]
 refine ax fun a5 cb a6=>?_;try simp only[au] at a6
 try simp only[*,go_sem]
 refine aa hJ ?_
 refine e5 hJ mixed 20 ⟨ro,[(a5,.cells #[.int .i64 f.an,.int .i64 f.high] 45),(a3,.cells #[.int .i64 a.an,.int .i64 a.high] 45),(l,bl u0 (sl (some x) u0.aj c4) b c d)]⟩ (by simp only[*,go_sem]) (by kernel_rfl) ?_
 revert h;refine bS fun a7 a8 h=>?_
 simp only[*,go_sem]
 refine ⟨_,bE hJ fun F D=>jG a.high a8,b9 ?_⟩
 revert h;refine bS fun a9 ba h=>?_
 try simp only[*,go_sem]
 refine ⟨_,bE hJ fun F D=>qd (IntKind.i64.wrap ((IntKind.i64.wrap (f.high - a.high))*(IntKind.i64.wrap (i - a.an)))) (IntKind.i64.wrap (f.an - a.an)) ba,b9 ?_⟩
 revert h;refine bS fun cd bb h=>?_
 obtain rfl:=sI h
 try simp only[*,go_sem]
 refine ⟨_,bE hJ fun F D=>qe a7 a9 bb,?_⟩
 try simp only[*,go_sem]
 refine ay ?_
 simp only[*,go_sem]
def qh (c:cg)(b:av)(i59:Nat)(a:bA)(st:Unit):Option (Fl Unit (List bA)):=
 cond (((a.spot.an==c.place)&&((a.spot.high.num==b.num)&&(a.spot.high.den==b.den)))) (some (.br 1 ())) (some (.nx ()))
def qi (u0:ak)(c:aO)(i38:Nat)(a:cg)(st:(List bA)):Option (Fl (List bA) (List bA)):=
 ah (gu u0 a.place) fun d=>ah (gr a.di) fun e=>ah (jH d e) fun b=>ah (bG (qh a b) 0 st ()) fun o=>aG o (fun h=>ah (kE u0 c (i38:Int) (⟨a.place,b⟩:g9)) fun f=>ah (cB st ([f])) fun g=>some (.nx g)) (fun _ i=>some (.nx st)) (fun r=>some (.rt r))
def jJ (u0:ak)(a:aO):Option (List bA):=
 ah (bG (qi u0 a) 0 u0.props ([]:List bA)) fun o=>aG o (fun b=>some b) (fun _ _=>none) (fun r=>some r)
theorem v7 {ro:Addr->Option Value}(u0:ak){s1 O f g:Value}(w:bI ro u0 s1 O f g)(b:aO){r:(List bA)}(h:jJ u0 b=some r):en Tryz.prog 60 #[bv u0 s1 O f g,.agg #[.int .i64 b.back,.int .i64 b.high]] ro (fun v aK=>∃P,v=P/\aB kC aK P r):=by
 obtain ⟨d10,o,rfl,fg,Q,-⟩:=id w.p
 unfold jJ at h
 refine aC.go Tryz.func60 rfl Tryz.ntmps60 Tryz.results60 (by simp) fun main J hJ A ba hd hs=>?_
 have bb:=hs 0
 have k1:=hs 1
 clear hs
 refine aa hJ (ag hJ ?_)
 simp only[*,go_sem]
 refine ax fun q bc bj=>?_;try simp only[au] at bj
 refine ax fun s bk bm=>?_;try simp only[au] at bm
 try simp only[*,go_sem]
 refine D3 hJ (aa hJ ?_)
 refine ag hJ ?_
 simp only[*,go_sem]
 refine aa hJ ?_
 refine D2 hJ ?_
 refine aa hJ (aa hJ (ag hJ ?_))
 simp only[*,go_sem]
 refine aU hJ ?_
 revert h;refine bS fun bo i br=>?_
 refine bX hJ [5,6,7,8,10,15,16,17,18,19,20,21,22,23,24,25,26,27,28,29,30,31,32,33,34,35,36,37,38,39,40,41,42,43,44,45,46,47,48,49,50] (fun m y F'=>∃(i38:Nat) (d32:Option Addr) (t:Nat) (z:List (Nat×Obj)) (c:(List bA)),m=u0.props.length - i38/\i38<=u0.props.length/\bG (qi u0 b) i38 (u0.props.drop i38) c=some bo/\F'=⟨ro,(s,.cells #[.int .i64 b.back,.int .i64 b.high] 103)::(q,bl u0 s1 (sl d10 u0.props o) f g)::z⟩/\aW kC ro 107 (.slice d32 c.length t) c z/\c.length<=t/\slot y 15= .int .i64 (i38:Int)/\slot y 5= .slice d32 c.length t) u0.props.length ?_ ?_
 ·refine ⟨0,none,0,[],([]:List bA),(Nat.sub_zero _).symm,Nat.zero_le _,i,rfl,aW.nil _ _ _,Nat.le_refl _,?_⟩
  simp only[*,go_sem]
 rintro fi bs F' R ⟨i38,d32,t,z,c,rfl,fl,i,rfl,u,bz,b0,b1⟩
 obtain ⟨S,T,U⟩:=R.pick [2,3,4,13,14] (by decide)
 simp only[*,go_sem] at S T U
 clear R ba hd bb k1
 refine aa hJ (ag hJ ?_)
 simp only[*,go_sem]
 refine aa hJ ?_
 rcases Nat.lt_or_ge i38 u0.props.length with b2|V
 ·refine bK hJ (by simp only[*,go_sem]) ?_
  refine aF hJ ?_
  obtain ⟨d,B⟩:∃x,u0.props[i38]?=some x:=⟨_,List.getElem?_eq_getElem b2⟩
  rw[c5 B] at i
  revert i;refine bS fun fp h W=>?_
  unfold qi at h
  try dsimp only at h
  obtain ⟨C,b3,b4,b5,D⟩:=w.p.el _ _ B
  obtain rfl:b3=d.cells:=b5
  cases b4
  have ca:=D 0 _ rfl;simp only[go_sem] at ca
  have cb:=D 1 _ rfl;simp only[go_sem] at cb
  clear D B
  refine aa hJ (aU hJ (aa hJ ?_))
  refine aL hJ fun cd=>?_
  refine ag hJ ?_
  simp only[*,go_sem]
  refine ax fun E fq X=>?_;have fr:=aN.cons X cd;try simp only[au] at X
  try simp only[*,go_sem]
  refine aa hJ ?_
  refine aL hJ fun cf=>?_
  refine cY hJ mixed 11 3 (by simp only[*,go_sem]) (by kernel_rfl) ?_
  revert h;refine bS fun cl cy h=>?_
  simp only[*,go_sem]
  refine ⟨_,bE hJ fun F G=>A1 u0 (w.mono (cc G)) d.place cy,b9 ?_⟩
  revert h;refine bS fun cS c0 h=>?_
  try simp only[*,go_sem]
  refine ⟨_,bE hJ fun F G=>jG d.di c0,b9 ?_⟩
  revert h;refine bS fun e da h=>?_
  try simp only[*,go_sem]
  refine ⟨_,bE hJ fun F G=>qe cl cS da,b9 ?_⟩
  try simp only[*,go_sem]
  refine ax fun H fs Y=>?_;have ft:=aN.cons Y cf;try simp only[au] at Y
  try simp only[*,go_sem]
  refine aa hJ (aa hJ ?_)
  refine aL hJ fun fu=>?_
  refine ag hJ ?_
  simp only[*,go_sem]
  refine aU hJ ?_
  revert h;refine bS fun db j Z=>?_
  refine bX hJ [10,33,34,35,36,37,38,39,40,41] (fun m y F'=>∃(i59:Nat),m=c.length - i59/\i59<=c.length/\bG (qh d e) i59 (c.drop i59) ()=some db/\F'=⟨ro,(H,.cells #[.int .i64 d.place,.int .i64 e.num,.int .i64 e.den] 105)::(E,.cells #[.int .i64 d.place,.int .i64 d.di] 132)::(s,.cells #[.int .i64 b.back,.int .i64 b.high] 103)::(q,bl u0 s1 (sl (some C) u0.props o) f g)::z⟩/\slot y 33= .int .i64 (i59:Int)) c.length ?_ ?_
  ·refine ⟨0,(Nat.sub_zero _).symm,Nat.zero_le _,j,rfl,?_⟩
   simp only[*,go_sem]
  rintro fv dd F' I ⟨i59,rfl,fw,j,rfl,fx⟩
  obtain ⟨df,dk,dp⟩:=I.pick [2,3,4,5,6,7,8,13,14,15,16,17,19,20,21,22,23,24,25,26,27,28,29,30,31,32] (by decide)
  simp only[*,go_sem] at df dk dp
  have fP:dB [5,6,7,8,10,15,16,17,18,19,20,21,22,23,24,25,26,27,28,29,30,31,32,33,34,35,36,37,38,39,40,41,42,43,44,45,46,47,48,49,50] dd bs:=(I.jD (by decide)).trans (by simp only[*,go_sem])
  clear I S T U b1 b0
  refine aa hJ (ag hJ ?_)
  simp only[*,go_sem]
  refine aa hJ ?_
  rcases Nat.lt_or_ge i59 c.length with dq|ab
  ·refine bK hJ (by simp only[*,go_sem]) ?_
   refine aF hJ ?_
   obtain ⟨ds,K⟩:∃x,c[i59]?=some x:=⟨_,List.getElem?_eq_getElem dq⟩
   rw[c5 K] at j
   revert j;refine bS fun fQ h L=>?_
   unfold qh at h
   try dsimp only at h
   refine aL hJ fun M=>?_
   obtain ⟨ad,dt,fS,du,dv,rfl,fU,dC,k⟩:=u.elem K
   obtain rfl:du=ds.cells:=dC
   cases dv
   replace M:=M.nd
   simp only[keys,List.map_cons,List.map_nil,List.map_append,List.cons_append,List.nil_append,List.nodup_cons,List.mem_cons,List.mem_append,List.not_mem_nil,or_false,not_or] at M
   have ae:=k 0 _ rfl;simp only[go_sem] at ae
   have al:=k 1 _ rfl;simp only[go_sem] at al
   have ao:=k 2 _ rfl;simp only[go_sem] at ao
   have ar:=k 3 _ rfl;simp only[go_sem] at ar
   have a0:=k 4 _ rfl;simp only[go_sem] at a0
   have a2:=k 5 _ rfl;simp only[go_sem] at a2
   clear k K
   refine aa hJ (aU hJ (aa hJ ?_))
   refine aL hJ fun dE=>?_
   refine ag hJ ?_
   simp only[*,go_sem]
   refine ax fun gg gl a3=>?_;have gn:=aN.cons a3 dE;try simp only[au] at a3
   try simp only[*,go_sem]
   refine aa hJ ?_
   refine aL hJ fun gp=>?_
   refine ag hJ ?_
   simp only[*,go_sem]
   revert h;refine jC hJ (by simp only[*,go_sem]) (fun dT h=>?_) fun dT h=>?_
   ·obtain rfl:=sI h
    refine bU ?_
    simp only[go_sem]
    obtain rfl:=sI L;clear L
    have h:=Z
    dsimp only[aG] at h
    obtain rfl:=sI h
    clear ae al ao ar a0 a2
    have ea:=cm (n:=i38) (by have:=Q;omega)
    refine ag hJ ?_
    simp only[*,go_sem]
    refine ⟨u0.props.length - (i38+1),by omega,_,Le.sub (List.Sublist.cons _ (List.Sublist.cons _ (List.Sublist.cons _ (List.Sublist.refl _)))),i38+1,(some ⟨ad,0,none⟩),t,[(ad,Obj.cells dt 107)],c,rfl,by omega,W,rfl,u,bz,?_⟩
    simp only[*,go_sem]
   obtain rfl:=sI h
   refine aF hJ ?_
   have gB:=cm (n:=i59) (by have:=u.bd;omega)
   refine ag hJ ?_
   simp only[*,go_sem]
   refine ⟨c.length - (i59+1),by omega,_,Le.sub (List.Sublist.cons _ (List.Sublist.refl _)),i59+1,rfl,by omega,L,rfl,?_⟩
   simp only[*,go_sem]
  have gC:=Nat.not_lt.2 ab
  refine bL hJ (by simp only[*,go_sem]) ?_
  rw[List.drop_eq_nil_of_le ab] at j
  obtain rfl:=sI j;clear j
  have h:=Z
  dsimp only[aG] at h
  refine bU ?_
  simp only[go_sem]
  refine aL hJ fun eb=>?_
  refine ag hJ ?_
  revert h;refine bS fun a ec h=>?_
  simp only[*,go_sem]
  refine aM hJ _ (AY u0 (w.mono aH) b (i38:Int) (⟨d.place,e⟩:g9) ec) (aD ?_)
  revert h;refine bS fun ed eh h=>?_
  obtain rfl:=sI h
  obtain ⟨et,a4⟩:=cT eh
  try simp only[*,go_sem]
  refine ax fun a5 ev a6=>?_;have eQ:=aN.cons a6 eb;try simp only[au] at a6
  try simp only[*,go_sem]
  refine dG (r:=kC) (l:=c) (x:=a) (cs:=#[.int .i64 a.spot.an,.int .i64 a.spot.high.num,.int .i64 a.spot.high.den,.int .i64 a.at_,.int .i64 a.high.num,.int .i64 a.high.den]) (e2:=107) [(a5,.cells #[.int .i64 a.spot.an,.int .i64 a.spot.high.num,.int .i64 a.spot.high.den,.int .i64 a.at_,.int .i64 a.high.num,.int .i64 a.high.den] 107),(H,.cells #[.int .i64 d.place,.int .i64 e.num,.int .i64 e.den] 105),(E,.cells #[.int .i64 d.place,.int .i64 d.di] 132),(s,.cells #[.int .i64 b.back,.int .i64 b.high] 103),(q,bl u0 s1 (sl (some C) u0.props o) f g)] [] u eQ et rfl (by simp only[*,go_sem]) ev rfl rfl nU nU vE vG rfl vF (by decide) (by decide) (fun gM a7 N eS e0 gT=>?_)
  simp only[List.append_nil,List.cons_append,List.nil_append,List.append_assoc] at e0
  subst eS
  rw[<-a4] at N;clear a4
  obtain ⟨d83,e1,rfl,e3⟩:=N.len
  refine ⟨⟨ro,(a5,.cells #[.int .i64 a.spot.an,.int .i64 a.spot.high.num,.int .i64 a.spot.high.den,.int .i64 a.at_,.int .i64 a.high.num,.int .i64 a.high.den] 107)::(H,.cells #[.int .i64 d.place,.int .i64 e.num,.int .i64 e.den] 105)::(E,.cells #[.int .i64 d.place,.int .i64 d.di] 132)::(s,.cells #[.int .i64 b.back,.int .i64 b.high] 103)::(q,bl u0 s1 (sl (some C) u0.props o) f g)::a7⟩,Le.refl _,?_⟩
  refine aD ?_
  try simp only[*,go_sem]
  have ea:=cm (n:=i38) (by have:=Q;omega)
  refine ag hJ ?_
  simp only[*,go_sem]
  refine ⟨u0.props.length - (i38+1),by omega,_,Le.sub (List.Sublist.cons _ (List.Sublist.cons _ (List.Sublist.cons _ (List.Sublist.refl _)))),i38+1,d83,e1,a7,ed,rfl,by omega,W,rfl,N,e3,?_⟩
  simp only[*,go_sem]
 have gV:=Nat.not_lt.2 V
 refine bL hJ (by simp only[*,go_sem]) ?_
 rw[List.drop_eq_nil_of_le V] at i
 obtain rfl:=sI i;clear i
 have h:=br
 dsimp only[aG] at h
 obtain rfl:=sI h
 refine bU ?_
 simp only[go_sem]
 refine aa hJ ?_
 refine aL hJ fun g0=>?_
 refine ag hJ ?_
 simp only[*,go_sem]
 refine aL hJ fun a8=>?_
 obtain ⟨g1,fa,fb,a9,ff⟩:=u.eB [(s,.cells #[.int .i64 b.back,.int .i64 b.high] 103),(q,bl u0 s1 (sl d10 u0.props o) f g)] [] a8 (aA.cons bk (aA.cons bc (aA.nil _)))
 clear a8
 refine cH hJ ff ?_
 obtain ⟨g2,g3,-⟩:=a9.op
 simp only[bf] at fb
 refine ay ?_
 simp only[*,go_sem]
 exact ⟨_,fa,Le.sub (List.nil_sublist _),_,rfl,a9⟩
def mS (i54:Nat)(a:bA)(st:av):Option (Fl av av):=
 ah (iB eL st ([a.high])) fun b=>some (.nx b)
def mT (i100:Nat)(a:bA)(st:av):Option (Fl av av):=
 ah (iB eL st ([a.high])) fun b=>some (.nx b)
def kG (u0:ak)(a:aO):Option av:=
 ah (gr u0.bD) fun b=>ah (lJ u0 a) fun c=>ah (eL c.high b) fun d=>cond (d) (ah (jJ u0 a) fun e=>ah (bG (mS) 0 e c.high) fun o=>aG o (fun f=>ah (jI b f) fun g=>ah (gr 0) fun h=>ah (iB eL g ([h])) fun i=>some i) (fun _ _=>none) (fun r=>some r)) (ah (jJ u0 a) fun j=>ah (bG (mT) 0 j b) fun o=>aG o (fun k=>ah (jI c.high k) fun l=>ah (gr 0) fun m=>ah (iB eL l ([m])) fun n=>some n) (fun _ _=>none) (fun r=>some r))
theorem sA {ro:Addr->Option Value}(u0:ak){s1 p q s:Value}(t:bI ro u0 s1 p q s)(a:aO){r:av}(h:kG u0 a=some r):aC Tryz.prog 63 #[bv u0 s1 p q s,.agg #[.int .i64 a.back,.int .i64 a.high]] ⟨ro,[]⟩ (fun v _=>v=r.v):=by
 unfold kG at h
 refine aC.go Tryz.func63 rfl Tryz.ntmps63 Tryz.results63 (by simp) fun main J hJ A O hd hs=>?_
 have P:=hs 0
 have k1:=hs 1
 clear hs
 refine aa hJ (ag hJ ?_)
 simp only[*,go_sem]
 refine ax fun D fr al=>?_;try simp only[au] at al
 refine ax fun E fs ao=>?_;try simp only[au] at ao
 refine ax fun G ft ar=>?_;try simp only[au] at ar
 try simp only[*,go_sem]
 refine aa hJ ?_
 refine rV hJ mixed 8 ⟨ro,[(G,rt 0 0),(E,.cells #[.int .i64 a.back,.int .i64 a.high] 103),(D,bl u0 s1 p q s)]⟩ (by simp only[*,go_sem]) (by kernel_rfl) 23 rfl Af ?_
 revert h;refine bS fun u a0 h=>?_
 simp only[*,go_sem]
 refine ⟨_,bE hJ fun F Q=>jG u0.bD a0,b9 ?_⟩
 revert h;refine bS fun w a2 h=>?_
 try simp only[*,go_sem]
 refine ⟨_,bE hJ fun F Q=>sx u0 (t.mono (cc Q)) a a2,b9 ?_⟩
 try simp only[*,go_sem]
 refine ax fun R fu a3=>?_;try simp only[au] at a3
 try simp only[*,go_sem]
 refine ax fun S fv a4=>?_;try simp only[au] at a4
 try simp only[*,go_sem]
 refine aa hJ (aa hJ (ag hJ ?_))
 revert h;refine bS fun fw a5 h=>?_
 simp only[*,go_sem]
 refine aM hJ _ (jd w.high u a5) ?_
 try simp only[*,go_sem]
 revert h;refine jC hJ (by simp only[*,go_sem]) (fun a6 h=>?_) fun a6 h=>?_
 ·refine ag hJ ?_
  simp only[*,go_sem]
  refine aa hJ (aa hJ (ag hJ ?_))
  revert h;refine bS fun b a7 h=>?_
  simp only[*,go_sem]
  refine bV hJ _ (v7 u0 t a a7) fun v a8 a9 ba H=>?_
  obtain ⟨fx,rfl,T⟩:=H
  replace t:=t.mono a9
  simp only[bf] at ba
  obtain ⟨d48,fP,rfl,fQ,bb,-⟩:=id T
  refine aD ?_
  try simp only[*,go_sem]
  refine aU hJ ?_
  revert h;refine bS fun bc c bd=>?_
  refine bX hJ [8,26,27,28,29,30,31,32,33,34,35] (fun m I F'=>∃(i54:Nat) (l:av),m=b.length - i54/\i54<=b.length/\bG (mS) i54 (b.drop i54) l=some bc/\F'=⟨a8,(S,rt u.num u.den)::(R,rt l.num l.den)::(G,rt 0 0)::(E,.cells #[.int .i64 a.back,.int .i64 a.high] 103)::(D,bl u0 s1 p q s)::[]⟩/\slot I 26= .int .i64 (i54:Int)) b.length ?_ ?_
  ·refine ⟨0,w.high,(Nat.sub_zero _).symm,Nat.zero_le _,c,rfl,?_⟩
   simp only[*,go_sem]
  rintro fS fU F' U ⟨i54,l,rfl,gg,c,rfl,gl⟩
  obtain ⟨bj,bk,bm⟩:=U.pick [4,5,6,24,25] (by decide)
  simp only[*,go_sem] at bj bk bm
  clear U O hd P k1
  refine aa hJ (ag hJ ?_)
  simp only[*,go_sem]
  refine aa hJ ?_
  rcases Nat.lt_or_ge i54 b.length with bo|V
  ·refine bK hJ (by simp only[*,go_sem]) ?_
   refine aF hJ ?_
   obtain ⟨y,K⟩:∃x,b[i54]?=some x:=⟨_,List.getElem?_eq_getElem bo⟩
   rw[c5 K] at c
   revert c;refine bS fun gn h br=>?_
   unfold mS at h
   try dsimp only at h
   obtain ⟨gp,bs,bz,b0,d⟩:=T.el _ _ K
   obtain rfl:bs=y.cells:=b0
   cases bz
   have b1:=d 0 _ rfl;simp only[go_sem] at b1
   have b2:=d 1 _ rfl;simp only[go_sem] at b2
   have b3:=d 2 _ rfl;simp only[go_sem] at b3
   have b4:=d 3 _ rfl;simp only[go_sem] at b4
   have b5:=d 4 _ rfl;simp only[go_sem] at b5
   have ca:=d 5 _ rfl;simp only[go_sem] at ca
   clear d K
   refine aa hJ (aU hJ (aa hJ ?_))
   refine ag hJ ?_
   simp only[*,go_sem]
   refine ax fun gB gC cb=>?_;try simp only[au] at cb
   try simp only[*,go_sem]
   refine aL hJ fun cd=>?_
   refine ag hJ ?_
   revert h;refine bS fun cf cl h=>?_
   obtain rfl:=sI h
   simp only[*,go_sem]
   refine ax fun gM cy W=>?_;have gT:=aN.cons W cd;try simp only[au] at W
   try simp only[*,go_sem]
   refine aM hJ _ (n6 (dH:=80) (dZ:=#[]) (ee:=#[]) eL ⟨by simp only[go_sem],fun L M f g _ h=>by simp only[go_sem];exact jd f g h⟩ l ([y.high]) ((aB.flat (r:=lD) (e:=23) (cs:=#[.int .i64 y.high.num,.int .i64 y.high.den]) av.cells ([y.high]) (fun _=>rfl) cy rfl (by simp)).mono (ki (by simp only[*,go_sem]))) cl) (aD ?_)
   try simp only[*,go_sem]
   have gV:=cm (n:=i54) (by have:=bb;omega)
   refine ag hJ ?_
   simp only[*,go_sem]
   refine ⟨b.length - (i54+1),by omega,_,Le.sub (List.Sublist.cons _ (List.Sublist.cons _ (List.Sublist.refl _))),i54+1,cf,rfl,by omega,br,rfl,?_⟩
   simp only[*,go_sem]
  have g0:=Nat.not_lt.2 V
  refine bL hJ (by simp only[*,go_sem]) ?_
  rw[List.drop_eq_nil_of_le V] at c
  obtain rfl:=sI c;clear c
  have h:=bd
  dsimp only[aG] at h
  refine bU ?_
  simp only[go_sem]
  refine aa hJ ?_
  refine aL hJ fun cS=>?_
  refine ag hJ ?_
  revert h;refine bS fun c0 da h=>?_
  simp only[*,go_sem]
  refine aM hJ _ (qf u l da) (aD ?_)
  revert h;refine bS fun B db h=>?_
  try simp only[*,go_sem]
  refine aM hJ _ (jG 0 db) (aD ?_)
  revert h;refine bS fun g1 dd h=>?_
  obtain rfl:=sI h
  try simp only[*,go_sem]
  refine ax fun g2 df X=>?_;have g3:=aN.cons X cS;try simp only[au] at X
  try simp only[*,go_sem]
  refine aM hJ _ (n6 (dH:=80) (dZ:=#[]) (ee:=#[]) eL ⟨by simp only[go_sem],fun L M f g _ h=>by simp only[go_sem];exact jd f g h⟩ c0 ([B]) ((aB.flat (r:=lD) (e:=23) (cs:=#[.int .i64 B.num,.int .i64 B.den]) av.cells ([B]) (fun _=>rfl) df rfl (by simp)).mono (ki (by simp only[*,go_sem]))) dd) (aD ?_)
  try simp only[*,go_sem]
  refine ay ?_
  simp only[*,go_sem]
 refine aF hJ (aa hJ ?_)
 refine aa hJ (ag hJ ?_)
 revert h;refine bS fun i dk h=>?_
 simp only[*,go_sem]
 refine bV hJ _ (v7 u0 t a dk) fun v dp g4 dq H=>?_
 obtain ⟨ha,rfl,Y⟩:=H
 simp only[bf] at dq
 obtain ⟨d94,hc,rfl,hf,ds,-⟩:=id Y
 refine aD ?_
 try simp only[*,go_sem]
 refine aU hJ ?_
 revert h;refine bS fun dt j du=>?_
 refine bX hJ [8,26,27,28,29,30,31,32,33,34,35] (fun m I F'=>∃(i100:Nat) (o:av),m=i.length - i100/\i100<=i.length/\bG (mT) i100 (i.drop i100) o=some dt/\F'=⟨dp,(S,rt w.high.num w.high.den)::(R,rt o.num o.den)::(G,rt 0 0)::(E,.cells #[.int .i64 a.back,.int .i64 a.high] 103)::(D,bl u0 s1 p q s)::[]⟩/\slot I 26= .int .i64 (i100:Int)) i.length ?_ ?_
 ·refine ⟨0,u,(Nat.sub_zero _).symm,Nat.zero_le _,j,rfl,?_⟩
  simp only[*,go_sem]
 rintro hg hh F' Z ⟨i100,o,rfl,hi,j,rfl,hj⟩
 obtain ⟨dv,dC,dE⟩:=Z.pick [4,5,6,24,25] (by decide)
 simp only[*,go_sem] at dv dC dE
 clear Z O hd P k1
 refine aa hJ (ag hJ ?_)
 simp only[*,go_sem]
 refine aa hJ ?_
 rcases Nat.lt_or_ge i100 i.length with dT|ab
 ·refine bK hJ (by simp only[*,go_sem]) ?_
  refine aF hJ ?_
  obtain ⟨z,N⟩:∃x,i[i100]?=some x:=⟨_,List.getElem?_eq_getElem dT⟩
  rw[c5 N] at j
  revert j;refine bS fun hk h ea=>?_
  unfold mT at h
  try dsimp only at h
  obtain ⟨hl,eb,ec,ed,k⟩:=Y.el _ _ N
  obtain rfl:eb=z.cells:=ed
  cases ec
  have eh:=k 0 _ rfl;simp only[go_sem] at eh
  have et:=k 1 _ rfl;simp only[go_sem] at et
  have ev:=k 2 _ rfl;simp only[go_sem] at ev
  have eQ:=k 3 _ rfl;simp only[go_sem] at eQ
  have eS:=k 4 _ rfl;simp only[go_sem] at eS
  have e0:=k 5 _ rfl;simp only[go_sem] at e0
  clear k N
  refine aa hJ (aU hJ (aa hJ ?_))
  refine ag hJ ?_
  simp only[*,go_sem]
  refine ax fun hn ho e1=>?_;try simp only[au] at e1
  try simp only[*,go_sem]
  refine aL hJ fun e2=>?_
  refine ag hJ ?_
  revert h;refine bS fun e3 fa h=>?_
  obtain rfl:=sI h
  simp only[*,go_sem]
  refine ax fun hp fb ad=>?_;have hq:=aN.cons ad e2;try simp only[au] at ad
  try simp only[*,go_sem]
  refine aM hJ _ (n6 (dH:=80) (dZ:=#[]) (ee:=#[]) eL ⟨by simp only[go_sem],fun L M f g _ h=>by simp only[go_sem];exact jd f g h⟩ o ([z.high]) ((aB.flat (r:=lD) (e:=23) (cs:=#[.int .i64 z.high.num,.int .i64 z.high.den]) av.cells ([z.high]) (fun _=>rfl) fb rfl (by simp)).mono (ki (by simp only[*,go_sem]))) fa) (aD ?_)
  try simp only[*,go_sem]
  have hr:=cm (n:=i100) (by have:=ds;omega)
  refine ag hJ ?_
  simp only[*,go_sem]
  refine ⟨i.length - (i100+1),by omega,_,Le.sub (List.Sublist.cons _ (List.Sublist.cons _ (List.Sublist.refl _))),i100+1,e3,rfl,by omega,ea,rfl,?_⟩
  simp only[*,go_sem]
 have ht:=Nat.not_lt.2 ab
 refine bL hJ (by simp only[*,go_sem]) ?_
 rw[List.drop_eq_nil_of_le ab] at j
 obtain rfl:=sI j;clear j
 have h:=du
 dsimp only[aG] at h
 refine bU ?_
 simp only[go_sem]
 refine aa hJ ?_
 refine aL hJ fun ff=>?_
 refine ag hJ ?_
 revert h;refine bS fun fg fi h=>?_
 simp only[*,go_sem]
 refine aM hJ _ (qf w.high o fi) (aD ?_)
 revert h;refine bS fun C fl h=>?_
 try simp only[*,go_sem]
 refine aM hJ _ (jG 0 fl) (aD ?_)
 revert h;refine bS fun hv fp h=>?_
 obtain rfl:=sI h
 try simp only[*,go_sem]
 refine ax fun hx fq ae=>?_;have hy:=aN.cons ae ff;try simp only[au] at ae
 try simp only[*,go_sem]
 refine aM hJ _ (n6 (dH:=80) (dZ:=#[]) (ee:=#[]) eL ⟨by simp only[go_sem],fun L M f g _ h=>by simp only[go_sem];exact jd f g h⟩ fg ([C]) ((aB.flat (r:=lD) (e:=23) (cs:=#[.int .i64 C.num,.int .i64 C.den]) av.cells ([C]) (fun _=>rfl) fq rfl (by simp)).mono (ki (by simp only[*,go_sem]))) fp) (aD ?_)
 try simp only[*,go_sem]
 refine ay ?_
 simp only[*,go_sem]
def gv (u0:ak)(a:aO):Option Bool:=
 ah (kG u0 a) fun b=>ah (eL u0.aR b) fun c=>some c
theorem mU {ro:Addr->Option Value}(u0:ak){s1 b c d:Value}(f:bI ro u0 s1 b c d)(a:aO){r:Bool}(h:gv u0 a=some r):aC Tryz.prog 64 #[bv u0 s1 b c d,.agg #[.int .i64 a.back,.int .i64 a.high]] ⟨ro,[]⟩ (fun v _=>v= .bool r):=by
 unfold gv at h
 refine aC.go Tryz.func64 rfl Tryz.ntmps64 Tryz.results64 (by simp) fun main J hJ A m hd hs=>?_
 have n:=hs 0
 have k1:=hs 1
 clear hs
 refine aa hJ (ag hJ ?_)
 simp only[*,go_sem]
 refine ax fun o p g=>?_;try simp only[au] at g
 refine ax fun q s i=>?_;try simp only[au] at i
 try simp only[*,go_sem]
 refine aa hJ ?_
 refine cY hJ mixed 8 2 (by simp only[*,go_sem]) (by kernel_rfl) ?_
 revert h;refine bS fun j k h=>?_
 simp only[*,go_sem]
 refine ⟨_,bE hJ fun F e=>sA u0 (f.mono (cc e)) a k,b9 ?_⟩
 revert h;refine bS fun t l h=>?_
 obtain rfl:=sI h
 try simp only[*,go_sem]
 refine ⟨_,bE hJ fun F e=>jd u0.aR j l,b9 ?_⟩
 try simp only[*,go_sem]
 refine ay ?_
 simp only[*,go_sem]
def qj (u0:((List Int)->(List Int)->Option Bool))(i22:Nat)(a:(List Int))(st:(List Int)):Option (Fl (List Int) (List Int)):=
 ah (u0 st a) fun b=>cond (b) (some (.nx a)) (some (.nx st))
def od (u0:((List Int)->(List Int)->Option Bool))(a:(List Int))(b:(List (List Int))):Option (List Int):=
 ah (bG (qj u0) 0 b a) fun o=>aG o (fun c=>some c) (fun _ _=>none) (fun r=>some r)
theorem Ge {ro:Addr->Option Value}(u0:((List Int)->(List Int)->Option Bool)){dH:FuncId}{dZ ee:Array Value}(G:aJ Tryz.prog dH=true/\∀(aK:Addr->Option Value),Ext ro aK->∀(k:(List Int)) (l:Value) (o:(List Int)) (p:Value) (z:Bool),aB rI aK l k->aB rI aK p o->u0 k o=some z->aC Tryz.prog dH (dZ++#[l,p]++ee) ⟨aK,[]⟩ (fun v _=>v= .bool z))(g:(List Int)){s1:Value}(q:aB rI ro s1 g)(b:(List (List Int))){s:Value}(t:aB (rL rI) ro s b){r:(List Int)}(h:od u0 g b=some r):en Tryz.prog 71 #[.func (.func dH) dZ ee,s1,s] ro (fun v aK=>∃u,v=u/\aB rI aK u r):=by
 obtain ⟨d3,c4,rfl,Y,Z,-⟩:=id q
 obtain ⟨d10,ab,rfl,ad,w,-⟩:=id t
 unfold od at h
 refine aC.go Tryz.func71 rfl Tryz.ntmps71 Tryz.results71 (by simp) fun main J hJ A H hd hs=>?_
 have I:=hs 0
 have k1:=hs 1
 have K:=hs 2
 clear hs
 refine aa hJ (ag hJ ?_)
 simp only[*,go_sem]
 refine aa hJ (aa hJ (ag hJ ?_))
 simp only[*,go_sem]
 refine aU hJ ?_
 revert h;refine bS fun L c M=>?_
 refine bX hJ [1,8,11,12,13,14,15,16,17,18,19,20] (fun m y F'=>∃(i22:Nat) (d16:Option Addr) (e:Nat) (d:(List Int)),m=b.length - i22/\i22<=b.length/\bG (qj u0) i22 (b.drop i22) d=some L/\F'=⟨ro,[]⟩/\aB rI ro (.slice d16 d.length e) d/\slot y 11= .int .i64 (i22:Int)/\slot y 1= .slice d16 d.length e) b.length ?_ ?_
 ·refine ⟨0,d3,c4,g,(Nat.sub_zero _).symm,Nat.zero_le _,c,rfl,q,?_⟩
  simp only[*,go_sem]
 rintro ae al F' B ⟨i22,d16,e,d,rfl,ao,c,rfl,f,ar,a0⟩
 obtain ⟨a2,a3,-⟩:=f.op
 obtain ⟨N,O,P⟩:=B.pick [0,6,9,10] (by decide)
 simp only[*,go_sem] at N O P
 clear B H hd I k1 K
 refine aa hJ (ag hJ ?_)
 simp only[*,go_sem]
 refine aa hJ ?_
 rcases Nat.lt_or_ge i22 b.length with Q|C
 ·refine bK hJ (by simp only[*,go_sem]) ?_
  refine aF hJ ?_
  obtain ⟨D,i⟩:∃x,b[i22]?=some x:=⟨_,List.getElem?_eq_getElem Q⟩
  rw[c5 i] at c
  revert c;refine bS fun a4 h E=>?_
  unfold qj at h
  try dsimp only at h
  obtain ⟨a5,a6,R,S,F⟩:=t.el _ _ i
  obtain ⟨a7,rfl,j⟩:=S;obtain ⟨d31,T,rfl,a8,a9,ba⟩:=id j
  cases R
  have U:=F 0 _ rfl;simp only[go_sem] at U
  clear F i
  refine aa hJ (aU hJ (aa hJ ?_))
  refine ag hJ ?_
  simp only[*,go_sem]
  refine aa hJ (ag hJ ?_)
  revert h;refine bS fun bb V h=>?_
  simp only[*,go_sem]
  refine aM hJ _ (G.2 _ (fun a v h=>aH a v h) d _ D _ _ (f.mono aH) (j.mono aH) V) ?_
  try simp only[*,go_sem]
  revert h;refine jC hJ (by simp only[*,go_sem]) (fun W h=>?_) fun W h=>?_
  ·obtain rfl:=sI h
   refine ag hJ ?_
   simp only[*,go_sem]
   have X:=cm (n:=i22) (by have:=w;omega)
   refine ag hJ ?_
   simp only[*,go_sem]
   refine ⟨b.length - (i22+1),by omega,_,Le.sub (List.Sublist.refl _),i22+1,d31,T,D,rfl,by omega,E,rfl,j,?_⟩
   simp only[*,go_sem]
  obtain rfl:=sI h
  refine aF hJ ?_
  have X:=cm (n:=i22) (by have:=w;omega)
  refine ag hJ ?_
  simp only[*,go_sem]
  refine ⟨b.length - (i22+1),by omega,_,Le.sub (List.Sublist.refl _),i22+1,d16,e,d,rfl,by omega,E,rfl,f,?_⟩
  simp only[*,go_sem]
 have bc:=Nat.not_lt.2 C
 refine bL hJ (by simp only[*,go_sem]) ?_
 rw[List.drop_eq_nil_of_le C] at c
 obtain rfl:=sI c;clear c
 have h:=M
 dsimp only[aG] at h
 obtain rfl:=sI h
 refine bU ?_
 simp only[go_sem]
 refine aa hJ (ag hJ ?_)
 simp only[*,go_sem]
 refine ay ?_
 simp only[*,go_sem]
 exact ⟨_,Ext.refl _,Le.sub (List.nil_sublist _),_,rfl,f⟩
def v8 (u0:(List Int))(a:(List Int))(st:(Bool×Int)):Option (Fl (Bool×Int) Bool):=
 cond (decide (st.2<(u0.length:Int))) (ah (bw u0 st.2) fun b=>ah (bw a st.2) fun c=>cond ((b != c)) (some (.rt false)) (some (.nx (st.1,(IntKind.i64.wrap (st.2+1)))))) (some (.bk (st.1,st.2)))
def v9 (u0:(List Int))(a:(List Int)):Option Bool:=
 cond (((u0.length:Int) != (a.length:Int))) (some false) (ah (bg (v8 u0 a) fu (false,0)) fun o=>aG o (fun b=>some true) (fun _ _=>none) (fun r=>some r))
theorem Gf {ro:Addr->Option Value}(u0:(List Int)){s1:Value}(g:aB rI ro s1 u0)(e:(List Int)){i:Value}(j:aB rI ro i e){r:Bool}(h:v9 u0 e=some r):aC Tryz.prog 82 #[s1,i] ⟨ro,[]⟩ (fun v _=>v= .bool r):=by
 obtain ⟨d3,c4,rfl,R,S,-⟩:=id g
 obtain ⟨d10,T,rfl,U,V,-⟩:=id j
 unfold v9 at h
 refine aC.go Tryz.func82 rfl Tryz.ntmps82 Tryz.results82 (by simp) fun main J hJ A t hd hs=>?_
 have u:=hs 0
 have k1:=hs 1
 clear hs
 refine aa hJ (ag hJ ?_)
 simp only[*,go_sem]
 refine aa hJ (aa hJ (ag hJ ?_))
 simp only[*,go_sem]
 revert h;refine jC hJ (by simp only[*,go_sem]) (fun w h=>?_) fun w h=>?_
 ·obtain rfl:=sI h
  refine aa hJ (ag hJ ?_)
  simp only[*,go_sem]
  refine ay ?_
  simp only[*,go_sem]
 refine aF hJ (aa hJ ?_)
 refine aa hJ (ag hJ ?_)
 simp only[*,go_sem]
 refine aU hJ ?_
 revert h;refine bS fun x b k=>?_
 refine bX hJ [4,5,11,12,13,14,15,16,17,18,19,20,21,22,23,24,25] (fun m l F'=>∃(c:Bool) (d:Int),bg (v8 u0 e) m (c,d)=some x/\F'=⟨ro,[]⟩/\slot l 4= .bool c/\slot l 5= .int .i64 d) fu ?_ ?_
 ·refine ⟨false,0,b,rfl,?_⟩
  simp only[*,go_sem]
 rintro f W F' n ⟨c,d,b,rfl,X,Y⟩
 obtain ⟨y,z,B⟩:=n.pick [0,1] (by decide)
 simp only[*,go_sem] at y z B
 clear n t hd u k1
 obtain _|f:=f
 ·exact absurd b (by simp only[bg,reduceCtorEq,not_false_eq_true])
 revert b;refine bS fun Z h a=>?_
 unfold v8 at h
 try dsimp only at h
 refine aa hJ (aa hJ (ag hJ ?_))
 simp only[*,go_sem]
 revert h;refine jC hJ (by simp only[*,go_sem]) (fun C h=>?_) fun C h=>?_
 ·refine aF hJ (aa hJ ?_)
  refine aU hJ (aa hJ ?_)
  refine cY hJ mixed 9 0 (by simp only[*,go_sem]) (by kernel_rfl) ?_
  revert h;refine bS fun D E h=>?_
  obtain ⟨ab,ad,o⟩:=cw E
  obtain ⟨ae,F,G,H,p⟩:=g.el _ _ o
  obtain rfl:F=[.int .i64 D]:=H
  cases G
  have I:=p 0 _ rfl;simp only[go_sem] at I
  clear p o
  revert h;refine bS fun K L h=>?_
  obtain ⟨al,ao,q⟩:=cw L
  obtain ⟨ar,M,N,O,s⟩:=j.el _ _ q
  obtain rfl:M=[.int .i64 K]:=O
  cases N
  have P:=s 0 _ rfl;simp only[go_sem] at P
  clear s q
  try simp only[*,go_sem]
  revert h;refine jC hJ (by simp only[*,go_sem]) (fun Q h=>?_) fun Q h=>?_
  ·obtain rfl:=sI h
   refine aa hJ (ag hJ ?_)
   simp only[*,go_sem]
   obtain rfl:=sI a;clear a
   have h:=k
   dsimp only[aG] at h
   obtain rfl:=sI h
   refine ay ?_
   simp only[*,go_sem]
  obtain rfl:=sI h
  refine aF hJ (ag hJ ?_)
  simp only[*,go_sem]
  refine ⟨f,Nat.lt_succ_self _,_,Le.sub (List.Sublist.refl _),c,(IntKind.i64.wrap (d+1)),a,rfl,?_⟩
  simp only[*,go_sem]
 obtain rfl:=sI h
 refine bU ?_
 simp only[go_sem]
 obtain rfl:=sI a;clear a
 have h:=k
 dsimp only[aG] at h
 obtain rfl:=sI h
 refine aa hJ (ag hJ ?_)
 simp only[*,go_sem]
 refine ay ?_
 simp only[*,go_sem]
def mV (u0:(List Int))(a:(List Int)):Option Bool:=
 ah (v9 u0 a) fun b=>some b
theorem qk {ro:Addr->Option Value}(u0:(List Int)){s1:Value}(b:aB rI ro s1 u0)(a:(List Int)){c:Value}(d:aB rI ro c a){r:Bool}(h:mV u0 a=some r):aC Tryz.prog 43 #[s1,c] ⟨ro,[]⟩ (fun v _=>v= .bool r):=by
 obtain ⟨d3,c4,rfl,f,g,-⟩:=id b
 obtain ⟨d10,i,rfl,j,k,-⟩:=id d
 unfold mV at h
 refine aC.go Tryz.func43 rfl Tryz.ntmps43 Tryz.results43 (by simp) fun main J hJ A l hd hs=>?_
 have m:=hs 0
 have k1:=hs 1
 clear hs
 refine aa hJ (ag hJ ?_)
 simp only[*,go_sem]
 refine aa hJ (ag hJ ?_)
 revert h;refine bS fun n e h=>?_
 obtain rfl:=sI h
 simp only[*,go_sem]
 refine aM hJ _ (Gf u0 (b.mono aH) a (d.mono aH) e) (aD ?_)
 try simp only[*,go_sem]
 refine ay ?_
 simp only[*,go_sem]
def we (a:aO)(i10:Nat)(b:aO)(st:Int):Option (Fl Int Int):=
 cond (((a.back==b.back)&&(a.high==b.high))) (some (.rt (i10:Int))) (some (.nx st))
def wh (u0:(List aO))(a:aO):Option Int:=
 ah (bG (we a) 0 u0 0) fun o=>aG o (fun b=>some (-1)) (fun _ _=>none) (fun r=>some r)
theorem Gg {ro:Addr->Option Value}(u0:(List aO)){s1:Value}(g:aB jc ro s1 u0)(b:aO){r:Int}(h:wh u0 b=some r):aC Tryz.prog 132 #[s1,.agg #[.int .i64 b.back,.int .i64 b.high]] ⟨ro,[]⟩ (fun v _=>v= .int .i64 r):=by
 obtain ⟨d3,c4,rfl,K,o,-⟩:=id g
 unfold wh at h
 refine aC.go Tryz.func132 rfl Tryz.ntmps132 Tryz.results132 (by simp) fun main J hJ A p hd hs=>?_
 have q:=hs 0
 have k1:=hs 1
 clear hs
 refine aa hJ (ag hJ ?_)
 simp only[*,go_sem]
 refine ax fun s L t=>?_;try simp only[au] at t
 try simp only[*,go_sem]
 refine aa hJ (aa hJ (ag hJ ?_))
 simp only[*,go_sem]
 refine aU hJ ?_
 revert h;refine bS fun u a i=>?_
 refine bX hJ [4,5,8,9,10,11,12,13,14,15,16,17,18] (fun m j F'=>∃(i10:Nat) (c:Int),m=u0.length - i10/\i10<=u0.length/\bG (we b) i10 (u0.drop i10) c=some u/\F'=⟨ro,(s,.cells #[.int .i64 b.back,.int .i64 b.high] 103)::[]⟩/\slot j 8= .int .i64 (i10:Int)/\slot j 4= .int .i64 c) u0.length ?_ ?_
 ·refine ⟨0,0,(Nat.sub_zero _).symm,Nat.zero_le _,a,rfl,?_⟩
  simp only[*,go_sem]
 rintro M N F' k ⟨i10,c,rfl,O,a,rfl,P,Q⟩
 obtain ⟨w,y,z⟩:=k.pick [0,3,7] (by decide)
 simp only[*,go_sem] at w y z
 clear k p hd q k1
 refine aa hJ (ag hJ ?_)
 simp only[*,go_sem]
 refine aa hJ ?_
 rcases Nat.lt_or_ge i10 u0.length with B|l
 ·refine bK hJ (by simp only[*,go_sem]) ?_
  refine aF hJ ?_
  obtain ⟨C,d⟩:∃x,u0[i10]?=some x:=⟨_,List.getElem?_eq_getElem B⟩
  rw[c5 d] at a
  revert a;refine bS fun R h e=>?_
  unfold we at h
  try dsimp only at h
  obtain ⟨S,D,E,F,f⟩:=g.el _ _ d
  obtain rfl:D=C.cells:=F
  cases E
  have G:=f 0 _ rfl;simp only[go_sem] at G
  have H:=f 1 _ rfl;simp only[go_sem] at H
  clear f d
  refine aa hJ (aU hJ (aa hJ ?_))
  refine ag hJ ?_
  simp only[*,go_sem]
  refine aa hJ ?_
  refine cY hJ mixed 6 1 (by simp only[*,go_sem]) (by kernel_rfl) ?_
  simp only[*,go_sem]
  revert h;refine jC hJ (by simp only[*,go_sem]) (fun I h=>?_) fun I h=>?_
  ·obtain rfl:=sI h
   refine aa hJ (ag hJ ?_)
   simp only[*,go_sem]
   obtain rfl:=sI e;clear e
   have h:=i
   dsimp only[aG] at h
   obtain rfl:=sI h
   refine ay ?_
   simp only[*,go_sem]
  obtain rfl:=sI h
  refine aF hJ ?_
  have T:=cm (n:=i10) (by have:=o;omega)
  refine ag hJ ?_
  simp only[*,go_sem]
  refine ⟨u0.length - (i10+1),by omega,_,Le.sub (List.Sublist.refl _),i10+1,c,rfl,by omega,e,rfl,?_⟩
  simp only[*,go_sem]
 have U:=Nat.not_lt.2 l
 refine bL hJ (by simp only[*,go_sem]) ?_
 rw[List.drop_eq_nil_of_le l] at a
 obtain rfl:=sI a;clear a
 have h:=i
 dsimp only[aG] at h
 obtain rfl:=sI h
 refine bU ?_
 simp only[go_sem]
 refine aa hJ (ag hJ ?_)
 simp only[*,go_sem]
 refine ay ?_
 simp only[*,go_sem]
def wj (u0:(List aO))(a:aO):Option Bool:=
 ah (wh u0 a) fun b=>some (decide (0<=b))
theorem Gh {ro:Addr->Option Value}(u0:(List aO)){s1:Value}(b:aB jc ro s1 u0)(a:aO){r:Bool}(h:wj u0 a=some r):aC Tryz.prog 113 #[s1,.agg #[.int .i64 a.back,.int .i64 a.high]] ⟨ro,[]⟩ (fun v _=>v= .bool r):=by
 obtain ⟨d3,c4,rfl,e,f,-⟩:=id b
 unfold wj at h
 refine aC.go Tryz.func113 rfl Tryz.ntmps113 Tryz.results113 (by simp) fun main J hJ A g hd hs=>?_
 have i:=hs 0
 have k1:=hs 1
 clear hs
 refine aa hJ (ag hJ ?_)
 simp only[*,go_sem]
 refine ax fun j k c=>?_;try simp only[au] at c
 try simp only[*,go_sem]
 refine aa hJ (ag hJ ?_)
 revert h;refine bS fun l d h=>?_
 obtain rfl:=sI h
 simp only[*,go_sem]
 refine aM hJ _ (Gg u0 (b.mono aH) a d) (aD ?_)
 try simp only[*,go_sem]
 refine ay ?_
 simp only[*,go_sem]
def sB (a:(bB->Option Bool))(i9:Nat)(b:bB)(st:Int):Option (Fl Int Int):=
 ah (a b) fun c=>cond (c) (some (.rt (i9:Int))) (some (.nx st))
def sC (u0:(List bB))(a:(bB->Option Bool)):Option Int:=
 ah (bG (sB a) 0 u0 0) fun o=>aG o (fun b=>some (-1)) (fun _ _=>none) (fun r=>some r)
theorem Gi {ro:Addr->Option Value}(u0:(List bB)){s1:Value}(i:aB cX ro s1 u0)(d:(bB->Option Bool)){dj:FuncId}{dS dU:Array Value}(s:aJ Tryz.prog dj=true/\∀(aK:Addr->Option Value),Ext ro aK->∀(j:bB) (z:Bool),d j=some z->aC Tryz.prog dj (dS++#[j.v]++dU) ⟨aK,[]⟩ (fun v _=>v= .bool z)){r:Int}(h:sC u0 d=some r):aC Tryz.prog 154 #[s1,.func (.func dj) dS dU] ⟨ro,[]⟩ (fun v _=>v= .int .i64 r):=by
 obtain ⟨d3,c4,rfl,N,t,-⟩:=id i
 unfold sC at h
 refine aC.go Tryz.func154 rfl Tryz.ntmps154 Tryz.results154 (by simp) fun main J hJ A u hd hs=>?_
 have w:=hs 0
 have k1:=hs 1
 clear hs
 refine aa hJ (ag hJ ?_)
 simp only[*,go_sem]
 refine aa hJ (aa hJ (ag hJ ?_))
 simp only[*,go_sem]
 refine aU hJ ?_
 revert h;refine bS fun y b k=>?_
 refine bX hJ [4,5,8,9,10,11,12,13,14,15,16,17,18] (fun m l F'=>∃(i9:Nat) (c:Int),m=u0.length - i9/\i9<=u0.length/\bG (sB d) i9 (u0.drop i9) c=some y/\F'=⟨ro,[]⟩/\slot l 8= .int .i64 (i9:Int)/\slot l 4= .int .i64 c) u0.length ?_ ?_
 ·refine ⟨0,0,(Nat.sub_zero _).symm,Nat.zero_le _,b,rfl,?_⟩
  simp only[*,go_sem]
 rintro O P F' o ⟨i9,c,rfl,Q,b,rfl,R,S⟩
 obtain ⟨B,C,D⟩:=o.pick [0,1,7] (by decide)
 simp only[*,go_sem] at B C D
 clear o u hd w k1
 refine aa hJ (ag hJ ?_)
 simp only[*,go_sem]
 refine aa hJ ?_
 rcases Nat.lt_or_ge i9 u0.length with E|p
 ·refine bK hJ (by simp only[*,go_sem]) ?_
  refine aF hJ ?_
  obtain ⟨q,e⟩:∃x,u0[i9]?=some x:=⟨_,List.getElem?_eq_getElem E⟩
  rw[c5 e] at b
  revert b;refine bS fun T h f=>?_
  unfold sB at h
  try dsimp only at h
  obtain ⟨U,F,G,H,g⟩:=i.el _ _ e
  obtain rfl:F=q.cells:=H
  cases G
  have I:=g 0 _ rfl;simp only[go_sem] at I
  have K:=g 1 _ rfl;simp only[go_sem] at K
  clear g e
  refine aa hJ (aU hJ (aa hJ ?_))
  refine ag hJ ?_
  simp only[*,go_sem]
  refine aa hJ (ag hJ ?_)
  revert h;refine bS fun V L h=>?_
  simp only[*,go_sem]
  refine aM hJ _ (s.2 _ (fun a v h=>aH a v h) q _ L) ?_
  try simp only[*,go_sem]
  revert h;refine jC hJ (by simp only[*,go_sem]) (fun M h=>?_) fun M h=>?_
  ·obtain rfl:=sI h
   refine aa hJ (ag hJ ?_)
   simp only[*,go_sem]
   obtain rfl:=sI f;clear f
   have h:=k
   dsimp only[aG] at h
   obtain rfl:=sI h
   refine ay ?_
   simp only[*,go_sem]
  obtain rfl:=sI h
  refine aF hJ ?_
  have W:=cm (n:=i9) (by have:=t;omega)
  refine ag hJ ?_
  simp only[*,go_sem]
  refine ⟨u0.length - (i9+1),by omega,_,Le.sub (List.Sublist.refl _),i9+1,c,rfl,by omega,f,rfl,?_⟩
  simp only[*,go_sem]
 have X:=Nat.not_lt.2 p
 refine bL hJ (by simp only[*,go_sem]) ?_
 rw[List.drop_eq_nil_of_le p] at b
 obtain rfl:=sI b;clear b
 have h:=k
 dsimp only[aG] at h
 obtain rfl:=sI h
 refine bU ?_
 simp only[go_sem]
 refine aa hJ (ag hJ ?_)
 simp only[*,go_sem]
 refine ay ?_
 simp only[*,go_sem]
def ql (u0:(List bB))(a:(bB->Option Bool)):Option Bool:=
 ah (sC u0 a) fun b=>some (decide (0<=b))
theorem Gj {ro:Addr->Option Value}(u0:(List bB)){s1:Value}(b:aB cX ro s1 u0)(a:(bB->Option Bool)){dj:FuncId}{dS dU:Array Value}(c:aJ Tryz.prog dj=true/\∀(aK:Addr->Option Value),Ext ro aK->∀(d:bB) (z:Bool),a d=some z->aC Tryz.prog dj (dS++#[d.v]++dU) ⟨aK,[]⟩ (fun v _=>v= .bool z)){r:Bool}(h:ql u0 a=some r):aC Tryz.prog 126 #[s1,.func (.func dj) dS dU] ⟨ro,[]⟩ (fun v _=>v= .bool r):=by
 obtain ⟨d3,c4,rfl,g,i,-⟩:=id b
 unfold ql at h
 refine aC.go Tryz.func126 rfl Tryz.ntmps126 Tryz.results126 (by simp) fun main J hJ A j hd hs=>?_
 have k:=hs 0
 have k1:=hs 1
 clear hs
 refine aa hJ (ag hJ ?_)
 simp only[*,go_sem]
 refine aa hJ (ag hJ ?_)
 revert h;refine bS fun l e h=>?_
 obtain rfl:=sI h
 simp only[*,go_sem]
 refine aM hJ _ (Gi (dj:=dj) (dS:=dS) (dU:=dU) u0 (b.mono aH) a ⟨c.1,fun _ f=>c.2 _ (Ext.trans aH f)⟩ e) (aD ?_)
 try simp only[*,go_sem]
 refine ay ?_
 simp only[*,go_sem]
def wm (a:(aO->Option Bool))(i9:Nat)(b:aO)(st:Int):Option (Fl Int Int):=
 ah (a b) fun c=>cond (c) (some (.rt (i9:Int))) (some (.nx st))
def wo (u0:(List aO))(a:(aO->Option Bool)):Option Int:=
 ah (bG (wm a) 0 u0 0) fun o=>aG o (fun b=>some (-1)) (fun _ _=>none) (fun r=>some r)
theorem Gk {ro:Addr->Option Value}(u0:(List aO)){s1:Value}(i:aB jc ro s1 u0)(d:(aO->Option Bool)){dj:FuncId}{dS dU:Array Value}(s:aJ Tryz.prog dj=true/\∀(aK:Addr->Option Value),Ext ro aK->∀(j:aO) (z:Bool),d j=some z->aC Tryz.prog dj (dS++#[j.v]++dU) ⟨aK,[]⟩ (fun v _=>v= .bool z)){r:Int}(h:wo u0 d=some r):aC Tryz.prog 170 #[s1,.func (.func dj) dS dU] ⟨ro,[]⟩ (fun v _=>v= .int .i64 r):=by
 obtain ⟨d3,c4,rfl,N,t,-⟩:=id i
 unfold wo at h
 refine aC.go Tryz.func170 rfl Tryz.ntmps170 Tryz.results170 (by simp) fun main J hJ A u hd hs=>?_
 have w:=hs 0
 have k1:=hs 1
 clear hs
 refine aa hJ (ag hJ ?_)
 simp only[*,go_sem]
 refine aa hJ (aa hJ (ag hJ ?_))
 simp only[*,go_sem]
 refine aU hJ ?_
 revert h;refine bS fun y b k=>?_
 refine bX hJ [4,5,8,9,10,11,12,13,14,15,16,17,18] (fun m l F'=>∃(i9:Nat) (c:Int),m=u0.length - i9/\i9<=u0.length/\bG (wm d) i9 (u0.drop i9) c=some y/\F'=⟨ro,[]⟩/\slot l 8= .int .i64 (i9:Int)/\slot l 4= .int .i64 c) u0.length ?_ ?_
 ·refine ⟨0,0,(Nat.sub_zero _).symm,Nat.zero_le _,b,rfl,?_⟩
  simp only[*,go_sem]
 rintro O P F' o ⟨i9,c,rfl,Q,b,rfl,R,S⟩
 obtain ⟨B,C,D⟩:=o.pick [0,1,7] (by decide)
 simp only[*,go_sem] at B C D
 clear o u hd w k1
 refine aa hJ (ag hJ ?_)
 simp only[*,go_sem]
 refine aa hJ ?_
 rcases Nat.lt_or_ge i9 u0.length with E|p
 ·refine bK hJ (by simp only[*,go_sem]) ?_
  refine aF hJ ?_
  obtain ⟨q,e⟩:∃x,u0[i9]?=some x:=⟨_,List.getElem?_eq_getElem E⟩
  rw[c5 e] at b
  revert b;refine bS fun T h f=>?_
  unfold wm at h
  try dsimp only at h
  obtain ⟨U,F,G,H,g⟩:=i.el _ _ e
  obtain rfl:F=q.cells:=H
  cases G
  have I:=g 0 _ rfl;simp only[go_sem] at I
  have K:=g 1 _ rfl;simp only[go_sem] at K
  clear g e
  refine aa hJ (aU hJ (aa hJ ?_))
  refine ag hJ ?_
  simp only[*,go_sem]
  refine aa hJ (ag hJ ?_)
  revert h;refine bS fun V L h=>?_
  simp only[*,go_sem]
  refine aM hJ _ (s.2 _ (fun a v h=>aH a v h) q _ L) ?_
  try simp only[*,go_sem]
  revert h;refine jC hJ (by simp only[*,go_sem]) (fun M h=>?_) fun M h=>?_
  ·obtain rfl:=sI h
   refine aa hJ (ag hJ ?_)
   simp only[*,go_sem]
   obtain rfl:=sI f;clear f
   have h:=k
   dsimp only[aG] at h
   obtain rfl:=sI h
   refine ay ?_
   simp only[*,go_sem]
  obtain rfl:=sI h
  refine aF hJ ?_
  have W:=cm (n:=i9) (by have:=t;omega)
  refine ag hJ ?_
  simp only[*,go_sem]
  refine ⟨u0.length - (i9+1),by omega,_,Le.sub (List.Sublist.refl _),i9+1,c,rfl,by omega,f,rfl,?_⟩
  simp only[*,go_sem]
 have X:=Nat.not_lt.2 p
 refine bL hJ (by simp only[*,go_sem]) ?_
 rw[List.drop_eq_nil_of_le p] at b
 obtain rfl:=sI b;clear b
 have h:=k
 dsimp only[aG] at h
 obtain rfl:=sI h
 refine bU ?_
 simp only[go_sem]
 refine aa hJ (ag hJ ?_)
 simp only[*,go_sem]
 refine ay ?_
 simp only[*,go_sem]
def wq (u0:(List aO))(a:(aO->Option Bool)):Option Bool:=
 ah (wo u0 a) fun b=>some (decide (0<=b))
theorem Gl {ro:Addr->Option Value}(u0:(List aO)){s1:Value}(b:aB jc ro s1 u0)(a:(aO->Option Bool)){dj:FuncId}{dS dU:Array Value}(c:aJ Tryz.prog dj=true/\∀(aK:Addr->Option Value),Ext ro aK->∀(d:aO) (z:Bool),a d=some z->aC Tryz.prog dj (dS++#[d.v]++dU) ⟨aK,[]⟩ (fun v _=>v= .bool z)){r:Bool}(h:wq u0 a=some r):aC Tryz.prog 146 #[s1,.func (.func dj) dS dU] ⟨ro,[]⟩ (fun v _=>v= .bool r):=by
 obtain ⟨d3,c4,rfl,g,i,-⟩:=id b
 unfold wq at h
 refine aC.go Tryz.func146 rfl Tryz.ntmps146 Tryz.results146 (by simp) fun main J hJ A j hd hs=>?_
 have k:=hs 0
 have k1:=hs 1
 clear hs
 refine aa hJ (ag hJ ?_)
 simp only[*,go_sem]
 refine aa hJ (ag hJ ?_)
 revert h;refine bS fun l e h=>?_
 obtain rfl:=sI h
 simp only[*,go_sem]
 refine aM hJ _ (Gk (dj:=dj) (dS:=dS) (dU:=dU) u0 (b.mono aH) a ⟨c.1,fun _ f=>c.2 _ (Ext.trans aH f)⟩ e) (aD ?_)
 try simp only[*,go_sem]
 refine ay ?_
 simp only[*,go_sem]
def qm (a:(aS->Option Bool))(i38:Nat)(b:aS)(st:Int):Option (Fl Int Int):=
 ah (a b) fun c=>cond (c) (some (.nx (IntKind.i64.wrap (st+1)))) (some (.nx st))
def oe (u0:cI)(b:(aS->Option Bool)):Option Int:=
 ah (bG (qm b) 0 u0.all 0) fun o=>aG o (fun a=>cond ((a==(u0.all.length:Int))) (some 1) (cond ((a==0)) (some 2) (some 0))) (fun _ _=>none) (fun r=>some r)
theorem A2 {ro:Addr->Option Value}(u0:cI){s1 e f g:Value}(Z:bI ro u0.book s1 e f g){k:Value}(l:aB hH ro k u0.all)(i:(aS->Option Bool)){dj:FuncId}{dS dU:Array Value}(y:aJ Tryz.prog dj=true/\∀(aK:Addr->Option Value),Ext ro aK->∀(o:aS) (z:Bool),i o=some z->aC Tryz.prog dj (dS++#[o.v]++dU) ⟨aK,[]⟩ (fun v _=>v= .bool z)){r:Int}(h:oe u0 i=some r):aC Tryz.prog 67 #[.agg #[.int .i64 u0.book.aZ,.int .i64 u0.book.bD,.int .i64 u0.book.aR.num,.int .i64 u0.book.aR.den,s1,e,f,g,k],.func (.func dj) dS dU] ⟨ro,[]⟩ (fun v _=>v= .int .i64 r):=by
 obtain ⟨d31,B,rfl,ab,p,-⟩:=id l
 unfold oe at h
 refine aC.go Tryz.func67 rfl Tryz.ntmps67 Tryz.results67 (by simp) fun main J hJ A C hd hs=>?_
 have D:=hs 0
 have k1:=hs 1
 clear hs
 refine aa hJ (ag hJ ?_)
 simp only[*,go_sem]
 refine ax fun E ad F=>?_;try simp only[au] at F
 try simp only[*,go_sem]
 refine aa hJ (ag hJ ?_)
 simp only[*,go_sem]
 refine aa hJ (aa hJ (ag hJ ?_))
 simp only[*,go_sem]
 refine aU hJ ?_
 revert h;refine bS fun G b H=>?_
 refine bX hJ [5,7,11,12,13,14,15,16,17,18,19,20] (fun m q F'=>∃(i38:Nat) (c:Int),m=u0.all.length - i38/\i38<=u0.all.length/\bG (qm i) i38 (u0.all.drop i38) c=some G/\F'=⟨ro,(E,kn u0 s1 e f g (sl d31 u0.all B))::[]⟩/\slot q 11= .int .i64 (i38:Int)/\slot q 5= .int .i64 c) u0.all.length ?_ ?_
 ·refine ⟨0,0,(Nat.sub_zero _).symm,Nat.zero_le _,b,rfl,?_⟩
  simp only[*,go_sem]
 rintro ae al F' s ⟨i38,c,rfl,ao,b,rfl,ar,a0⟩
 obtain ⟨I,K,L⟩:=s.pick [1,2,4,9,10] (by decide)
 simp only[*,go_sem] at I K L
 clear s C hd D k1
 refine aa hJ (ag hJ ?_)
 simp only[*,go_sem]
 refine aa hJ ?_
 rcases Nat.lt_or_ge i38 u0.all.length with M|t
 ·refine bK hJ (by simp only[*,go_sem]) ?_
  refine aF hJ ?_
  obtain ⟨u,j⟩:∃x,u0.all[i38]?=some x:=⟨_,List.getElem?_eq_getElem M⟩
  rw[c5 j] at b
  revert b;refine bS fun a2 h w=>?_
  unfold qm at h
  try dsimp only at h
  obtain ⟨a3,N,O,P,d⟩:=l.el _ _ j
  obtain rfl:N=u.cells:=P
  cases O
  have Q:=d 0 _ rfl;simp only[go_sem] at Q
  have R:=d 1 _ rfl;simp only[go_sem] at R
  have S:=d 2 _ rfl;simp only[go_sem] at S
  clear d j
  refine aa hJ (aU hJ (aa hJ ?_))
  refine ag hJ ?_
  simp only[*,go_sem]
  refine ax fun a4 a5 T=>?_;try simp only[au] at T
  try simp only[*,go_sem]
  refine aa hJ (ag hJ ?_)
  revert h;refine bS fun a6 U h=>?_
  simp only[*,go_sem]
  refine aM hJ _ (y.2 _ (fun a v h=>aH a v h) u _ U) ?_
  try simp only[*,go_sem]
  revert h;refine jC hJ (by simp only[*,go_sem]) (fun V h=>?_) fun V h=>?_
  ·obtain rfl:=sI h
   refine ag hJ ?_
   simp only[*,go_sem]
   have W:=cm (n:=i38) (by have:=p;omega)
   refine ag hJ ?_
   simp only[*,go_sem]
   refine ⟨u0.all.length - (i38+1),by omega,_,Le.sub (List.Sublist.cons _ (List.Sublist.refl _)),i38+1,(IntKind.i64.wrap (c+1)),rfl,by omega,w,rfl,?_⟩
   simp only[*,go_sem]
  obtain rfl:=sI h
  refine aF hJ ?_
  have W:=cm (n:=i38) (by have:=p;omega)
  refine ag hJ ?_
  simp only[*,go_sem]
  refine ⟨u0.all.length - (i38+1),by omega,_,Le.sub (List.Sublist.cons _ (List.Sublist.refl _)),i38+1,c,rfl,by omega,w,rfl,?_⟩
  simp only[*,go_sem]
 have a7:=Nat.not_lt.2 t
 refine bL hJ (by simp only[*,go_sem]) ?_
 rw[List.drop_eq_nil_of_le t] at b
 obtain rfl:=sI b;clear b
 have h:=H
 dsimp only[aG] at h
 refine bU ?_
 simp only[go_sem]
 refine aa hJ (aa hJ (ag hJ ?_))
 simp only[*,go_sem]
 refine aU hJ (aa hJ ?_)
 refine ag hJ ?_
 simp only[*,go_sem]
 revert h;refine jC hJ (by simp only[*,go_sem]) (fun X h=>?_) fun X h=>?_
 ·obtain rfl:=sI h
  refine aa hJ (ag hJ ?_)
  simp only[*,go_sem]
  refine ay ?_
  simp only[*,go_sem]
 refine aa hJ (ag hJ ?_)
 simp only[*,go_sem]
 revert h;refine jC hJ (by simp only[*,go_sem]) (fun Y h=>?_) fun Y h=>?_
 ·obtain rfl:=sI h
  refine aa hJ (ag hJ ?_)
  simp only[*,go_sem]
  refine ay ?_
  simp only[*,go_sem]
 obtain rfl:=sI h
 refine aF hJ (aa hJ ?_)
 refine ag hJ ?_
 simp only[*,go_sem]
 refine ay ?_
 simp only[*,go_sem]
def qn (u0:bB)(a:ak)(w1:aS):Option Bool:=
 ah (aS.get w1 u0.aQ) fun b=>ah (iA a u0.aQ b) fun c=>ah (gv a c) fun d=>some (!(d==u0.bh))
theorem Gm {ro:Addr->Option Value}(u0:bB)(a:ak){b:Nat}(y:ro ⟨b,0,none⟩=some (.int .i64 a.aZ))(z:ro ⟨b,1,none⟩=some (.int .i64 a.bD))(B:ro ⟨b,2,none⟩=some (.int .i64 a.aR.num))(C:ro ⟨b,3,none⟩=some (.int .i64 a.aR.den)){s1:Value}(e:aB eD ro s1 a.aj)(D:ro ⟨b,4,none⟩=some (s1)){j:Value}(f:aB eE ro j a.props)(E:ro ⟨b,5,none⟩=some (j)){k:Value}(g:aB eY ro k a.aE)(G:ro ⟨b,6,none⟩=some (k)){l:Value}(i:aB cX ro l a.told)(H:ro ⟨b,7,none⟩=some (l))(w1:aS){d:Nat}(o:ro ⟨d,0,none⟩=some (.int .i64 w1.e0))(p:ro ⟨d,1,none⟩=some (.int .i64 w1.e1))(q:ro ⟨d,2,none⟩=some (.int .i64 w1.e2)){r:Bool}(h:qn u0 a w1=some r):aC Tryz.prog 127 #[.agg #[.int .i64 u0.aQ,.bool u0.bh],.pointer (some ⟨b,0,none⟩),.pointer (some ⟨d,0,none⟩)] ⟨ro,[]⟩ (fun v _=>v= .bool r):=by
 obtain ⟨d3,c4,rfl,I,K,-⟩:=id e
 obtain ⟨d10,L,rfl,M,N,-⟩:=id f
 obtain ⟨d17,O,rfl,P,Q,-⟩:=id g
 obtain ⟨d24,R,rfl,S,T,-⟩:=id i
 unfold qn at h
 refine aC.go Tryz.func127 rfl Tryz.ntmps127 Tryz.results127 (by simp) fun main J hJ A U hd hs=>?_
 have V:=hs 0
 have k1:=hs 1
 have W:=hs 2
 clear hs
 refine aa hJ (ag hJ ?_)
 simp only[*,go_sem]
 refine ax fun X Y s=>?_;try simp only[au] at s
 try simp only[*,go_sem]
 refine aa hJ ?_
 refine cY hJ mixed 14 1 (by simp only[*,go_sem]) (by kernel_rfl) ?_
 revert h;refine bS fun t m h=>?_
 obtain ⟨Z,ab,n⟩:=aS.get_some m;clear n
 have n:=aS.FZ m o p q
 revert h;refine bS fun u w h=>?_
 try simp only[*,go_sem]
 refine ⟨_,bE hJ fun F c=>mN a ⟨(e.mono (cc c)),(f.mono (cc c)),(g.mono (cc c)),(i.mono (cc c))⟩ u0.aQ t w,b9 ?_⟩
 revert h;refine bS fun ad x h=>?_
 obtain rfl:=sI h
 try simp only[*,go_sem]
 refine ⟨_,bE hJ fun F c=>mU a ⟨(e.mono (cc c)),(f.mono (cc c)),(g.mono (cc c)),(i.mono (cc c))⟩ u x,b9 ?_⟩
 try simp only[*,go_sem]
 refine ay ?_
 simp only[*,go_sem]
def og (u0:ak)(a:aS):Option Bool:=
 ah (ql u0.told (fun b=>qn b u0 a)) fun c=>some (!c)
theorem Gn {ro:Addr->Option Value}(u0:ak){s1 f g i:Value}(b:bI ro u0 s1 f g i)(c:aS){r:Bool}(h:og u0 c=some r):aC Tryz.prog 104 #[bv u0 s1 f g i,.agg #[.int .i64 c.e0,.int .i64 c.e1,.int .i64 c.e2]] ⟨ro,[]⟩ (fun v _=>v= .bool r):=by
 obtain ⟨d3,c4,rfl,q,s,-⟩:=id b.e
 obtain ⟨d10,u,rfl,w,x,-⟩:=id b.p
 obtain ⟨d17,z,rfl,B,C,-⟩:=id b.y
 obtain ⟨d24,D,rfl,E,F,-⟩:=id b.t
 unfold og at h
 refine aC.go Tryz.func104 rfl Tryz.ntmps104 Tryz.results104 (by simp) fun main J hJ A G hd hs=>?_
 have H:=hs 0
 have k1:=hs 1
 clear hs
 refine aa hJ (ag hJ ?_)
 simp only[*,go_sem]
 refine ax fun j I k=>?_;try simp only[au] at k
 refine ax fun l K m=>?_;try simp only[au] at m
 try simp only[*,go_sem]
 refine aa hJ (ag hJ ?_)
 revert h;refine bS fun L n h=>?_
 obtain rfl:=sI h
 simp only[*,go_sem]
 refine aM hJ _ (Gj (dj:=127) (dS:=#[]) (dU:=#[.pointer (some ⟨j,0,none⟩),.pointer (some ⟨l,0,none⟩)]) u0.told (b.t.mono aH) (fun d=>qn d u0 c) ⟨by simp only[go_sem],fun M a d N o=>by simp only[go_sem];exact Gm d u0 (a _ _ (by simp only[af.cn,go_sem, *])) (a _ _ (by simp only[af.cn,go_sem, *])) (a _ _ (by simp only[af.cn,go_sem, *])) (a _ _ (by simp only[af.cn,go_sem, *])) ((b.e.mono aH).mono a) (a _ _ (by simp only[af.cn,go_sem, *])) ((b.p.mono aH).mono a) (a _ _ (by simp only[af.cn,go_sem, *])) ((b.y.mono aH).mono a) (a _ _ (by simp only[af.cn,go_sem, *])) ((b.t.mono aH).mono a) (a _ _ (by simp only[af.cn,go_sem, *])) c (a _ _ (by simp only[af.cn,go_sem, *])) (a _ _ (by simp only[af.cn,go_sem, *])) (a _ _ (by simp only[af.cn,go_sem, *])) o⟩ n) (aD ?_)
 try simp only[*,go_sem]
 refine ay ?_
 simp only[*,go_sem]
def sD (u0:ak)(a:(List aO)):Option Bool:=
 ah (wq a (gv u0)) fun b=>some (!b)
theorem Gq {ro:Addr->Option Value}(u0:ak){s1 c d f:Value}(a:bI ro u0 s1 c d f)(g:(List aO)){i:Value}(j:aB jc ro i g){r:Bool}(h:sD u0 g=some r):aC Tryz.prog 119 #[bv u0 s1 c d f,i] ⟨ro,[]⟩ (fun v _=>v= .bool r):=by
 obtain ⟨d31,n,rfl,o,q,-⟩:=id j
 unfold sD at h
 refine aC.go Tryz.func119 rfl Tryz.ntmps119 Tryz.results119 (by simp) fun main J hJ A s hd hs=>?_
 have u:=hs 0
 have k1:=hs 1
 clear hs
 refine aa hJ (ag hJ ?_)
 simp only[*,go_sem]
 refine ax fun w x k=>?_;try simp only[au] at k
 try simp only[*,go_sem]
 refine aa hJ (ag hJ ?_)
 revert h;refine bS fun z l h=>?_
 obtain rfl:=sI h
 simp only[*,go_sem]
 refine aM hJ _ (Gl (dj:=64) (dS:=#[bv u0 s1 c d f]) (dU:=#[]) g (j.mono aH) (gv u0) ⟨by simp only[go_sem],fun B b m _ h=>by simp only[go_sem];exact mU u0 ⟨((a.e.mono aH).mono b),((a.p.mono aH).mono b),((a.y.mono aH).mono b),((a.t.mono aH).mono b)⟩ m h⟩ l) (aD ?_)
 try simp only[*,go_sem]
 refine ay ?_
 simp only[*,go_sem]
def sE (u0:aS)(a:cI)(w1:Int):Option Bool:=
 ah (aS.get u0 w1) fun b=>ah (iA a.book w1 b) fun c=>ah (gv a.book c) fun d=>some d
theorem Gs {ro:Addr->Option Value}(u0:aS)(a:cI){b:Nat}(x:ro ⟨b,0,none⟩=some (.int .i64 a.book.aZ))(y:ro ⟨b,1,none⟩=some (.int .i64 a.book.bD))(z:ro ⟨b,2,none⟩=some (.int .i64 a.book.aR.num))(B:ro ⟨b,3,none⟩=some (.int .i64 a.book.aR.den)){s1:Value}(d:aB eD ro s1 a.book.aj)(C:ro ⟨b,4,none⟩=some (s1)){i:Value}(e:aB eE ro i a.book.props)(D:ro ⟨b,5,none⟩=some (i)){j:Value}(f:aB eY ro j a.book.aE)(E:ro ⟨b,6,none⟩=some (j)){k:Value}(g:aB cX ro k a.book.told)(G:ro ⟨b,7,none⟩=some (k)){l:Value}(n:aB hH ro l a.all)(H:ro ⟨b,8,none⟩=some (l))(w1:Int){m:Nat}(I:ro ⟨m,0,none⟩=some (.int .i64 w1)){r:Bool}(h:sE u0 a w1=some r):aC Tryz.prog 83 #[.agg #[.int .i64 u0.e0,.int .i64 u0.e1,.int .i64 u0.e2],.pointer (some ⟨b,0,none⟩),.pointer (some ⟨m,0,none⟩)] ⟨ro,[]⟩ (fun v _=>v= .bool r):=by
 obtain ⟨d3,c4,rfl,K,L,-⟩:=id d
 obtain ⟨d10,M,rfl,N,O,-⟩:=id e
 obtain ⟨d17,P,rfl,Q,R,-⟩:=id f
 obtain ⟨d24,S,rfl,T,U,-⟩:=id g
 obtain ⟨d31,V,rfl,W,X,-⟩:=id n
 unfold sE at h
 refine aC.go Tryz.func83 rfl Tryz.ntmps83 Tryz.results83 (by simp) fun main J hJ A Y hd hs=>?_
 have Z:=hs 0
 have k1:=hs 1
 have ab:=hs 2
 clear hs
 refine aa hJ (ag hJ ?_)
 simp only[*,go_sem]
 refine ax fun ad ae o=>?_;try simp only[au] at o
 try simp only[*,go_sem]
 refine aa hJ ?_
 refine cY hJ mixed 11 1 (by simp only[*,go_sem]) (by kernel_rfl) ?_
 revert h;refine bS fun p q h=>?_
 obtain ⟨al,ao,s⟩:=aS.get_some q
 try simp only[go_sem] at s
 revert h;refine bS fun t u h=>?_
 try simp only[*,go_sem]
 refine ⟨_,bE hJ fun F c=>mN a.book ⟨(d.mono (cc c)),(e.mono (cc c)),(f.mono (cc c)),(g.mono (cc c))⟩ w1 p u,b9 ?_⟩
 revert h;refine bS fun ar w h=>?_
 obtain rfl:=sI h
 try simp only[*,go_sem]
 refine ⟨_,bE hJ fun F c=>mU a.book ⟨(d.mono (cc c)),(e.mono (cc c)),(f.mono (cc c)),(g.mono (cc c))⟩ t w,b9 ?_⟩
 try simp only[*,go_sem]
 refine ay ?_
 simp only[*,go_sem]
def sF (u0:aS)(a:cI)(i38:Nat)(e:b6)(st:Bool):Option (Fl Bool Bool):=
 ah (aS.get u0 (i38:Int)) fun b=>ah (iA a.book (i38:Int) b) fun c=>ah (gv a.book c) fun d=>cond (d) (some (.rt false)) (some (.nx st))
def jK (u0:aS)(a:cI):Option Bool:=
 ah (bG (sF u0 a) 0 a.book.aE false) fun o=>aG o (fun b=>some true) (fun _ _=>none) (fun r=>some r)
theorem Gt {ro:Addr->Option Value}(u0:aS)(a:cI){b:Nat}(ae:ro ⟨b,0,none⟩=some (.int .i64 a.book.aZ))(al:ro ⟨b,1,none⟩=some (.int .i64 a.book.bD))(ao:ro ⟨b,2,none⟩=some (.int .i64 a.book.aR.num))(ar:ro ⟨b,3,none⟩=some (.int .i64 a.book.aR.den)){s1:Value}(i:aB eD ro s1 a.book.aj)(a0:ro ⟨b,4,none⟩=some (s1)){p:Value}(j:aB eE ro p a.book.props)(a2:ro ⟨b,5,none⟩=some (p)){q:Value}(e:aB eY ro q a.book.aE)(a3:ro ⟨b,6,none⟩=some (q)){s:Value}(k:aB cX ro s a.book.told)(a4:ro ⟨b,7,none⟩=some (s)){t:Value}(B:aB hH ro t a.all)(a5:ro ⟨b,8,none⟩=some (t)){r:Bool}(h:jK u0 a=some r):aC Tryz.prog 68 #[.agg #[.int .i64 u0.e0,.int .i64 u0.e1,.int .i64 u0.e2],.pointer (some ⟨b,0,none⟩)] ⟨ro,[]⟩ (fun v _=>v= .bool r):=by
 obtain ⟨d3,c4,rfl,a6,a7,-⟩:=id i
 obtain ⟨d10,a8,rfl,a9,ba,-⟩:=id j
 obtain ⟨d17,bb,rfl,bc,C,-⟩:=id e
 obtain ⟨d24,bd,rfl,bj,bk,-⟩:=id k
 obtain ⟨d31,bl,rfl,bm,bo,-⟩:=id B
 unfold jK at h
 refine aC.go Tryz.func68 rfl Tryz.ntmps68 Tryz.results68 (by simp) fun main J hJ A D hd hs=>?_
 have E:=hs 0
 have k1:=hs 1
 clear hs
 refine aa hJ (ag hJ ?_)
 simp only[*,go_sem]
 refine ax fun G br H=>?_;try simp only[au] at H
 try simp only[*,go_sem]
 refine aa hJ (aa hJ (ag hJ ?_))
 simp only[*,go_sem]
 refine aU hJ ?_
 revert h;refine bS fun I d u=>?_
 refine bX hJ [3,4,10,11,12,13,14,15,16,17,18,19,20,21,22,23] (fun m w F'=>∃(i38:Nat) (f:Bool),m=a.book.aE.length - i38/\i38<=a.book.aE.length/\bG (sF u0 a) i38 (a.book.aE.drop i38) f=some I/\F'=⟨ro,(G,.cells #[.int .i64 u0.e0,.int .i64 u0.e1,.int .i64 u0.e2] 120)::[]⟩/\slot w 10= .int .i64 (i38:Int)/\slot w 3= .bool f) a.book.aE.length ?_ ?_
 ·refine ⟨0,false,(Nat.sub_zero _).symm,Nat.zero_le _,d,rfl,?_⟩
  simp only[*,go_sem]
 rintro bs bz F' y ⟨i38,f,rfl,b0,d,rfl,b1,b2⟩
 obtain ⟨K,L,M⟩:=y.pick [1,2,9] (by decide)
 simp only[*,go_sem] at K L M
 clear y D hd E k1
 refine aa hJ (ag hJ ?_)
 simp only[*,go_sem]
 refine aa hJ ?_
 rcases Nat.lt_or_ge i38 a.book.aE.length with N|z
 ·refine bK hJ (by simp only[*,go_sem]) ?_
  refine aF hJ ?_
  obtain ⟨O,l⟩:∃x,a.book.aE[i38]?=some x:=⟨_,List.getElem?_eq_getElem N⟩
  rw[c5 l] at d
  revert d;refine bS fun b3 h o=>?_
  unfold sF at h
  try dsimp only at h
  obtain ⟨b4,P,Q,R,g⟩:=e.el _ _ l
  obtain rfl:P=O.cells:=R
  cases Q
  have S:=g 0 _ rfl;simp only[go_sem] at S
  have T:=g 1 _ rfl;simp only[go_sem] at T
  have U:=g 2 _ rfl;simp only[go_sem] at U
  clear g l
  refine aa hJ (aU hJ (aa hJ ?_))
  refine ag hJ ?_
  simp only[*,go_sem]
  refine aa hJ ?_
  refine cY hJ mixed 10 1 (by simp only[*,go_sem]) (by kernel_rfl) ?_
  revert h;refine bS fun V W h=>?_
  obtain ⟨b5,ca,X⟩:=aS.get_some W
  try simp only[go_sem] at X
  revert h;refine bS fun Y Z h=>?_
  try simp only[*,go_sem]
  refine ⟨_,bE hJ fun F c=>mN a.book ⟨(i.mono (cc c)),(j.mono (cc c)),(e.mono (cc c)),(k.mono (cc c))⟩ (i38:Int) V Z,b9 ?_⟩
  revert h;refine bS fun cb ab h=>?_
  try simp only[*,go_sem]
  refine ⟨_,bE hJ fun F c=>mU a.book ⟨(i.mono (cc c)),(j.mono (cc c)),(e.mono (cc c)),(k.mono (cc c))⟩ Y ab,?_⟩
  try simp only[*,go_sem]
  revert h;refine jC hJ (by simp only[*,go_sem]) (fun ad h=>?_) fun ad h=>?_
  ·obtain rfl:=sI h
   refine aa hJ (ag hJ ?_)
   simp only[*,go_sem]
   obtain rfl:=sI o;clear o
   have h:=u
   dsimp only[aG] at h
   obtain rfl:=sI h
   refine ay ?_
   simp only[*,go_sem]
  obtain rfl:=sI h
  refine aF hJ ?_
  have cd:=cm (n:=i38) (by have:=C;omega)
  refine ag hJ ?_
  simp only[*,go_sem]
  refine ⟨a.book.aE.length - (i38+1),by omega,_,Le.sub (List.Sublist.refl _),i38+1,f,rfl,by omega,o,rfl,?_⟩
  simp only[*,go_sem]
 have cf:=Nat.not_lt.2 z
 refine bL hJ (by simp only[*,go_sem]) ?_
 rw[List.drop_eq_nil_of_le z] at d
 obtain rfl:=sI d;clear d
 have h:=u
 dsimp only[aG] at h
 obtain rfl:=sI h
 refine bU ?_
 simp only[go_sem]
 refine aa hJ (ag hJ ?_)
 simp only[*,go_sem]
 refine ay ?_
 simp only[*,go_sem]
def aS.setAt (h:aS)(i n:Int):Option aS:=if i=0 then some {h with e0:=n} else if i=1 then some {h with e1:=n} else if i=2 then some {h with e2:=n} else none
theorem aS.Gu {h h1:aS}{i n:Int}(e:h.setAt i n=some h1):(i=0/\h1={h with e0:=n})\/(i=1/\h1={h with e1:=n})\/(i=2/\h1={h with e2:=n}):=by
 unfold aS.setAt at e
 split at e
 ·exact .inl ⟨‹_›,(Option.some.inj e).symm⟩
 ·split at e
  ·exact .inr (.inl ⟨‹_›,(Option.some.inj e).symm⟩)
  ·split at e
   ·exact .inr (.inr ⟨‹_›,(Option.some.inj e).symm⟩)
   ·cases e
def jf (f:aS->List (Option aS)×aS)(i hi:Int):Nat->Int->aS->List (Option aS)×aS
 |0,_,h=>([none],h)
 |k+1,n,h=>if n<=hi then match h.setAt i n with
   |none=>([none],h)
   |some h1=>((f h1).1++(jf f i hi k (IntKind.i64.wrap (n+1)) (f h1).2).1,(jf f i hi k (IntKind.i64.wrap (n+1)) (f h1).2).2)
  else ([],h)
def eR (b:ak):Nat->Int->aS->List (Option aS)×aS
 |0,_,h=>([none],h)
 |fuel+1,i,h=>if i=b.aE.length then ((match og b h with
   |some true=>[some h]
   |some false=>[]
   |none=>[none]),h)
  else match bw b.aE i with
   |none=>([none],h)
   |some e=>jf (eR b fuel (IntKind.i64.wrap (i+1))) i e.high.high 100 e.high.low h
def mW (b:ak):List (Option aS):=(eR b 5 0 ⟨0,0,0⟩).1
theorem Gv {H σ:Type}{step:σ->H->Option (Bool×σ)}{l l':List (Option H)}{s s':σ}{c:Bool}(h:e7 step (l++l') s=some (c,s')):
  (∃s1,e7 step l s=some (true,s1)/\e7 step l' s1=some (c,s'))\/(e7 step l s=some (false,s')/\c=false):=by
 rw[AN] at h
 split at h
 ·rename_i s1 h1;exact .inl ⟨s1,h1,h⟩
 ·rename_i s1 h1;simp only[Option.some.injEq,Prod.mk.injEq] at h;obtain ⟨rfl,rfl⟩:=h;exact .inr ⟨h1,rfl⟩
 ·cases h
theorem qo {H σ:Type}{step:σ->H->Option (Bool×σ)}{s:σ}{r:Bool×σ}(h:e7 step [none] s=some r):False:=by cases h
section
variable {ro : Addr → Option Value} {σ : Type} {step : σ → aS → Option (Bool × σ)} {I : σ → List (Nat × Obj) → Prop} {y : Value}
def oh (b:ak)(s1 s2 a c y:Value)(b2 b3 b4 b5:Nat)(h:aS):List (Nat×Obj):=
 [(b5,.cells #[.func (.func 103) #[] #[.pointer (some ⟨b2,0,none⟩),.pointer (some ⟨b4,0,none⟩),.pointer (some ⟨b3,0,none⟩),.pointer (some ⟨b5,0,none⟩)]] 152),
  (b4,.cells #[.int .i64 h.e0,.int .i64 h.e1,.int .i64 h.e2] 120),(b3,.cells #[y] 128),
  (b2,.cells #[.int .i64 b.aZ,.int .i64 b.bD,.int .i64 b.aR.num,.int .i64 b.aR.den,s1,s2,a,c] 99)]
theorem Gw (u0:ak){s1 s2 q t:Value}(B:aB eD ro s1 u0.aj)(C:aB eE ro s2 u0.props)(D:aB eY ro q u0.aE)(E:aB cX ro t u0.told)(R:vT Tryz.prog y aS.v step ro I)
  {b2 b3 b4 b5:Nat} (n1:¬b5=b4) (n2:¬b5=b3) (n3:¬b5=b2) (a7:¬b4=b3) (a8:¬b4=b2) (a9:¬b3=b2) (ba:∀off sp,ro ⟨b5,off,sp⟩=none) (bb:∀off sp,ro ⟨b4,off,sp⟩=none) (bc:∀off sp,ro ⟨b3,off,sp⟩=none) (bd:∀off sp,ro ⟨b2,off,sp⟩=none):
  ∀(fuel:Nat) (i:Int) (h0:aS) (s:σ) (c:Bool) (s':σ),e7 step (eR u0 fuel i h0).1 s=some (c,s')->∀(main:Bool) (J:Goroutine->af->Prop),Closed Tryz.prog main J->∀own,I s own->
   cL Tryz.prog J 103 #[.int .i64 i,.pointer (some ⟨b2,0,none⟩),.pointer (some ⟨b4,0,none⟩),.pointer (some ⟨b3,0,none⟩),.pointer (some ⟨b5,0,none⟩)] ⟨ro,oh u0 s1 s2 q t y b2 b3 b4 b5 h0++own⟩
    (fun v F'=>∃h1 l,Le ⟨ro,oh u0 s1 s2 q t y b2 b3 b4 b5 h1++l⟩ F'/\v= .bool c/\I s' l/\(c=true->h1=(eR u0 fuel i h0).2)):=by
 intro fuel
 induction fuel with
 |zero=>intro i h0 s c s' h;exact (qo h).elim
 |succ fuel ih=>
  intro i h0 s c s' h main J hJ own f
  obtain ⟨F,G,rfl,bj,bk,e1⟩:=id B
  obtain ⟨H,K,rfl,bl,bm,e2⟩:=id C
  obtain ⟨S,L,rfl,bo,br,T⟩:=id D
  obtain ⟨M,N,rfl,bs,bz,bS⟩:=id E
  refine cL.go hJ Tryz.func103 rfl Tryz.ntmps103 Tryz.results103 (by simp) fun A U hd hs=>?_
  have V:=hs 0
  have k1:=hs 1
  have W:=hs 2
  have X:=hs 3
  have Y:=hs 4
  clear hs
  unfold eR at h
  have b0:(0:Int)<((3:Nat):Int):=by decide
  have b1:(1:Int)<((3:Nat):Int):=by decide
  have ca:(2:Int)<((3:Nat):Int):=by decide
  repeat refine aa hJ ?_
  refine ag hJ ?_
  simp only[*,go_sem,-h]
  repeat refine aa hJ ?_
  refine ag hJ ?_
  simp only[oh,go_sem, *,-h]
  repeat refine aa hJ ?_
  by_cases hi:i=(u0.aE.length:Int)
  ·rw[if_pos hi] at h
   repeat refine aa hJ ?_
   refine bK hJ (by simp only[*,go_sem,-h]) ?_
   repeat refine aa hJ ?_
   refine aL hJ fun nd=>?_
   repeat refine aa hJ ?_
   refine ag hJ ?_
   simp only[*,go_sem,-h]
   cases hq:og u0 h0 with
   |none=>rw[hq] at h;exact (qo h).elim
   |some r=>
    rw[hq] at h
    refine aM hJ _ (Gn u0 ⟨(B.mono aH),(C.mono aH),(D.mono aH),(E.mono aH)⟩ h0 hq) (aD ?_)
    cases r with
    |false=>
     cases h
     simp only[*,go_sem]
     repeat refine aa hJ ?_
     refine ay ?_
     simp only[*,go_sem]
     refine ⟨h0,own,Le.refl _,?_⟩
     first|exact ⟨rfl,f,fun _=>by unfold eR;rw[if_pos rfl]⟩|exact ⟨f,fun _=>by unfold eR;rw[if_pos rfl]⟩|exact ⟨f,by unfold eR;rw[if_pos rfl]⟩|exact f
    |true=>
     have Z:step s h0=some (c,s'):=by
      simp only[e7] at h
      split at h<;>first|(cases h;assumption)|cases h
     simp only[*,go_sem,-h]
     refine FA hJ (oh u0 (.slice F u0.aj.length G) (.slice H u0.props.length K) (.slice S u0.aE.length L) (.slice M u0.told.length N) y b2 b3 b4 b5 h0) (fun m ab ad=>R s h0 c s' Z m ab ad own f) nd ?_
     rintro v l ⟨rfl,O⟩ cb
     refine aD ?_
     simp only[*,go_sem,-h]
     repeat refine aa hJ ?_
     refine ay ?_
     simp only[*,go_sem,-h]
     refine ⟨h0,l,Le.refl _,?_⟩
     first|exact ⟨rfl,O,fun _=>by unfold eR;rw[if_pos rfl]⟩|exact ⟨O,fun _=>by unfold eR;rw[if_pos rfl]⟩
  ·rw[if_neg hi] at h
   have cd:(i==(u0.aE.length:Int))=false:=by simpa using hi
   repeat refine aa hJ ?_
   refine bL hJ (by simp only[*,go_sem,-h]) ?_
   refine aF hJ ?_
   cases hq:bw u0.aE i with
   |none=>rw[hq] at h;exact (qo h).elim
   |some e=>
    rw[hq] at h
    simp only at h
    have ae:=hq
    obtain ⟨cf,cl,P⟩:=cw hq
    obtain ⟨al,cse,ao,ar,o⟩:=T _ _ P
    obtain rfl:cse=e.cells:=ar
    cases ao
    have a0:=o 0 _ rfl;simp only[go_sem] at a0
    have a2:=o 1 _ rfl;simp only[go_sem] at a2
    have a3:=o 2 _ rfl;simp only[go_sem] at a3
    clear o P
    repeat refine aa hJ ?_
    refine ag hJ ?_
    simp only[*,go_sem,-h]
    repeat refine aa hJ ?_
    refine aU hJ ?_
    refine bX hJ [6,7,31,32,33,34,35,36,37,38,39,40,41,42,43,44,45,46,47,48,49,50] (fun m a4 F'=>∃(n:Int) (h:aS) (s:σ) (own:List (Nat×Obj)),e7 step (jf (eR u0 fuel (IntKind.i64.wrap (i+1))) i e.high.high m n h).1 s=some (c,s')/\
     (c=true->(jf (eR u0 fuel (IntKind.i64.wrap (i+1))) i e.high.high m n h).2=(eR u0 (fuel+1) i h0).2)/\F'=⟨ro,oh u0 (.slice F u0.aj.length G) (.slice H u0.props.length K) (.slice (some al) u0.aE.length L) (.slice M u0.told.length N) y b2 b3 b4 b5 h++own⟩/\I s own/\slot a4 7= .int .i64 n) 100 ?_ ?_
    ·have a5:(eR u0 (fuel+1) i h0).2=(jf (eR u0 fuel (IntKind.i64.wrap (i+1))) i e.high.high 100 e.high.low h0).2:=by
      rw[eR,if_neg hi,ae]
     exact ⟨e.high.low,h0,s,own,h,fun _=>a5.symm,rfl,f,by simp only[*,go_sem,-h]⟩
    ·rintro m g F' d ⟨n,h1,s1,u,a,b,rfl,k,cy⟩
     clear h f
     have cS:sz g=51:=by rw[d.size];simp only[*,go_sem]
     have kd:g.defers=[]:=by rw[d.defers];simp only[*,go_sem]
     have c0:slot g 0= .int .i64 i:=by rw[d.fj 0 (by decide)];simp only[*,go_sem]
     have da:slot g 1= .pointer (some ⟨b2,0,none⟩):=by rw[d.fj 1 (by decide)];simp only[*,go_sem]
     have db:slot g 2= .pointer (some ⟨b4,0,none⟩):=by rw[d.fj 2 (by decide)];simp only[*,go_sem]
     have dd:slot g 3= .pointer (some ⟨b3,0,none⟩):=by rw[d.fj 3 (by decide)];simp only[*,go_sem]
     have df:slot g 4= .pointer (some ⟨b5,0,none⟩):=by rw[d.fj 4 (by decide)];simp only[*,go_sem]
     clear d V k1 W X Y U hd
     obtain _|m:=m
     ·exact (qo a).elim
     unfold jf at a b
     repeat refine aa hJ ?_
     refine ag hJ ?_
     simp only[oh,go_sem, *,-a]
     repeat refine aa hJ ?_
     by_cases hn:n<=e.high.high
     ·rw[if_pos hn] at a
      rw[if_pos hn] at b
      repeat refine aa hJ ?_
      refine bK hJ (by simp only[*,go_sem,-a]) ?_
      refine aF hJ ?_
      cases w:h1.setAt i n with
      |none=>rw[w] at a;exact (qo a).elim
      |some h2=>
       rw[w] at a b
       simp only at a b
       repeat refine aa hJ ?_
       refine aU hJ ?_
       repeat refine aa hJ ?_
       refine aL hJ fun nd=>?_
       repeat refine aa hJ ?_
       refine ag hJ ?_
       rcases aS.Gu w with ⟨x,rfl⟩|⟨x,rfl⟩|⟨x,rfl⟩<;>subst x<;>
       (simp only[*,go_sem,-a]
        repeat refine aa hJ ?_
        refine ag hJ ?_
        simp only[*,go_sem,-a]
        have a6:=Gv a
        clear a
        rcases a6 with ⟨s2,z,a⟩|⟨z,rfl⟩
        ·refine cL.less hJ ((ih _ _ _ _ _ z _ J hJ u k).mono ?_)
         rintro v F' ⟨h3,Q,hle,rfl,j,p⟩
         have p:=p rfl
         subst p
         refine ⟨_,hle,aD ?_⟩
         simp only[*,go_sem,-a]
         repeat refine aa hJ ?_
         refine bL hJ (by simp only[*,go_sem,-a]) ?_
         refine aF hJ ?_
         repeat refine aa hJ ?_
         refine ag hJ ?_
         simp only[*,go_sem,-a]
         exact ⟨m,Nat.lt_succ_self m,_,Le.refl _,_,_,_,_,a,b,rfl,j,by simp only[*,go_sem,-a]⟩
        ·refine cL.less hJ ((ih _ _ _ _ _ z _ J hJ u k).mono ?_)
         rintro v F' ⟨h3,Q,hle,rfl,j,p⟩
         refine ⟨_,hle,aD ?_⟩
         simp only[*,go_sem]
         repeat refine aa hJ ?_
         refine bK hJ (by simp only[*,go_sem]) ?_
         repeat refine aa hJ ?_
         refine ag hJ ?_
         simp only[*,go_sem]
         repeat refine aa hJ ?_
         refine ay ?_
         simp only[*,go_sem]
         refine ⟨h3,Q,Le.refl _,?_⟩
         first|exact ⟨rfl,j,fun h=>by cases h⟩|exact ⟨j,fun h=>by cases h⟩|exact j|exact ⟨j,trivial⟩)
     ·rw[if_neg hn] at a
      rw[if_neg hn] at b
      simp only[e7,Option.some.injEq,Prod.mk.injEq] at a
      obtain ⟨rfl,rfl⟩:=a
      repeat refine aa hJ ?_
      refine bL hJ (by simp only[*,go_sem]) ?_
      refine bU ?_
      simp only[go_sem]
      repeat refine aa hJ ?_
      refine ag hJ ?_
      simp only[*,go_sem]
      repeat refine aa hJ ?_
      refine ay ?_
      simp only[*,go_sem]
      refine ⟨h1,u,Le.refl _,?_⟩
      first|exact ⟨rfl,k,fun h=>b h⟩|exact ⟨k,fun h=>b h⟩|exact ⟨k,b rfl⟩
theorem sG (u0:ak){s1 s2 j k:Value}(e:aB eD ro s1 u0.aj)(f:aB eE ro s2 u0.props)(g:aB eY ro j u0.aE)(h:aB cX ro k u0.told):
  mJ Tryz.prog 65 #[.agg #[.int .i64 u0.aZ,.int .i64 u0.bD,.int .i64 u0.aR.num,.int .i64 u0.aR.den,s1,s2,j,k]] #[] aS.v (mW u0) ro:=by
 refine ⟨by simp only[go_sem],fun aK b σ step I r t u l s c s' a main J hJ own m=>?_⟩
 replace e:=e.mono b
 replace f:=f.mono b
 replace g:=g.mono b
 replace h:=h.mono b
 refine cL.go hJ Tryz.func65 rfl Tryz.ntmps65 Tryz.results65 (by simp) fun A w hd hs=>?_
 have x:=hs 0
 have k1:=hs 1
 clear hs
 repeat refine aa hJ ?_
 refine ag hJ ?_
 try simp only[*,go_sem,-a]
 intro b2 f2;have r2:=eI f2;have n2:=fJ f2
 intro b3 f3;have r3:=eI f3;have n3:=fJ f3
 simp only[au] at n3
 try simp only[*,go_sem,-a]
 repeat refine aa hJ ?_
 refine ag hJ ?_
 try simp only[*,go_sem,-a]
 intro b4 f4;have n:=eI f4;have i:=fJ f4
 simp only[au] at i
 try simp only[*,go_sem,-a]
 repeat refine aa hJ ?_
 refine ag hJ ?_
 try simp only[*,go_sem,-a]
 intro b5 f5;have o:=eI f5;have d:=fJ f5
 simp only[au] at d
 try simp only[*,go_sem,-a]
 repeat refine aa hJ ?_
 refine ag hJ ?_
 try simp only[*,go_sem,-a]
 repeat refine aa hJ ?_
 refine ag hJ ?_
 try simp only[*,go_sem,-a]
 refine cL.less hJ ((Gw u0 e f g h l (b2:=b2) (b3:=b3) (b4:=b4) (b5:=b5) d.1 d.2.1 d.2.2.1 i.1 i.2.1 n3.1 o n r3 r2 5 0 ⟨0,0,0⟩ s c s' a main J hJ own m).mono ?_)
 rintro v F' ⟨h1,p,hle,rfl,q,_⟩
 exact ⟨_,hle,p,Le.sub (List.sublist_append_right _ _),q⟩
end
def sH (u0:List bB):Option (List bB):=if u0.length<=1000000 then some u0 else none
theorem wu {ro:Addr->Option Value}(u0:List bB){s1:Value}(b:aB cX ro s1 u0){x:List bB}(h:sH u0=some x):aC Tryz.prog 95 #[s1] ⟨ro,[]⟩ (fun v G=>∃a,aW cX ro 91 v x a/\Le ⟨ro,a⟩ G):=by
 obtain ⟨ad,cap,rfl,le,c,e⟩:=id b
 unfold sH at h
 split at h
 case isFalse=>cases h
 rename_i hlen
 obtain rfl:=Option.some.inj h
 clear h
 refine aC.go Tryz.func95 rfl Tryz.ntmps95 Tryz.results95 (by simp) fun main J hJ A d hd hs=>?_
 have f:=hs 0
 clear hs
 refine aa hJ (ag hJ ?_)
 simp only[*,go_sem]
 cases ad with
 |none=>
  have hu:u0=[]:=by
   cases u0 with
   |nil=>rfl
   |cons x l=>obtain ⟨p,cs,hp,_⟩:=e 0 x rfl;cases hp
  subst hu
  first|refine aa hJ (ag hJ ?_)|refine aa hJ (aa hJ (ag hJ ?_))
  simp only[*,go_sem]
  refine bK hJ (by simp only[*,go_sem]) ?_
  refine aa hJ (ag hJ ?_)
  simp only[*,go_sem]
  refine ay ?_
  simp only[*,go_sem]
  exact ⟨[],aW.nil _ _ _,Le.refl _⟩
 |some p=>
  first|refine aa hJ (ag hJ ?_)|refine aa hJ (aa hJ (ag hJ ?_))
  simp only[*,go_sem]
  refine bL hJ (by simp only[*,go_sem]) ?_
  refine aF hJ ?_
  refine aa hJ (ag hJ ?_)
  simp only[*,go_sem]
  intro g f1;have r1:=eI f1
  try simp only[*,go_sem]
  refine p5 r1 trivial rfl hlen b rfl rfl dQ dQ g6 g8 rfl g7 (by decide) (by decide) (fun v a hg i=>aD ?_)
  simp only[*,go_sem]
  refine ay ?_
  simp only[*,go_sem]
  exact ⟨a,hg,Le.refl _⟩
def sJ (u0:List b6):Option (List b6):=if u0.length<=1000000 then some u0 else none
theorem A3 {ro:Addr->Option Value}(u0:List b6){s1:Value}(b:aB eY ro s1 u0){x:List b6}(h:sJ u0=some x):aC Tryz.prog 98 #[s1] ⟨ro,[]⟩ (fun v G=>∃a,aW eY ro 130 v x a/\Le ⟨ro,a⟩ G):=by
 obtain ⟨ad,cap,rfl,le,c,e⟩:=id b
 unfold sJ at h
 split at h
 case isFalse=>cases h
 rename_i hlen
 obtain rfl:=Option.some.inj h
 clear h
 refine aC.go Tryz.func98 rfl Tryz.ntmps98 Tryz.results98 (by simp) fun main J hJ A d hd hs=>?_
 have f:=hs 0
 clear hs
 refine aa hJ (ag hJ ?_)
 simp only[*,go_sem]
 cases ad with
 |none=>
  have hu:u0=[]:=by
   cases u0 with
   |nil=>rfl
   |cons x l=>obtain ⟨p,cs,hp,_⟩:=e 0 x rfl;cases hp
  subst hu
  first|refine aa hJ (ag hJ ?_)|refine aa hJ (aa hJ (ag hJ ?_))
  simp only[*,go_sem]
  refine bK hJ (by simp only[*,go_sem]) ?_
  refine aa hJ (ag hJ ?_)
  simp only[*,go_sem]
  refine ay ?_
  simp only[*,go_sem]
  exact ⟨[],aW.nil _ _ _,Le.refl _⟩
 |some p=>
  first|refine aa hJ (ag hJ ?_)|refine aa hJ (aa hJ (ag hJ ?_))
  simp only[*,go_sem]
  refine bL hJ (by simp only[*,go_sem]) ?_
  refine aF hJ ?_
  refine aa hJ (ag hJ ?_)
  simp only[*,go_sem]
  intro g f1;have r1:=eI f1
  try simp only[*,go_sem]
  refine p5 r1 trivial rfl hlen b rfl rfl Ah Ah EX EZ rfl EY (by decide) (by decide) (fun v a hg i=>aD ?_)
  simp only[*,go_sem]
  refine ay ?_
  simp only[*,go_sem]
  exact ⟨a,hg,Le.refl _⟩
def wv (u0:List bH):Option (List bH):=if u0.length<=1000000 then some u0 else none
theorem Gx {ro:Addr->Option Value}(u0:List bH){s1:Value}(b:aB eD ro s1 u0){x:List bH}(h:wv u0=some x):aC Tryz.prog 124 #[s1] ⟨ro,[]⟩ (fun v G=>∃a,aW eD ro 45 v x a/\Le ⟨ro,a⟩ G):=by
 obtain ⟨ad,cap,rfl,le,c,e⟩:=id b
 unfold wv at h
 split at h
 case isFalse=>cases h
 rename_i hlen
 obtain rfl:=Option.some.inj h
 clear h
 refine aC.go Tryz.func124 rfl Tryz.ntmps124 Tryz.results124 (by simp) fun main J hJ A d hd hs=>?_
 have f:=hs 0
 clear hs
 refine aa hJ (ag hJ ?_)
 simp only[*,go_sem]
 cases ad with
 |none=>
  have hu:u0=[]:=by
   cases u0 with
   |nil=>rfl
   |cons x l=>obtain ⟨p,cs,hp,_⟩:=e 0 x rfl;cases hp
  subst hu
  first|refine aa hJ (ag hJ ?_)|refine aa hJ (aa hJ (ag hJ ?_))
  simp only[*,go_sem]
  refine bK hJ (by simp only[*,go_sem]) ?_
  refine aa hJ (ag hJ ?_)
  simp only[*,go_sem]
  refine ay ?_
  simp only[*,go_sem]
  exact ⟨[],aW.nil _ _ _,Le.refl _⟩
 |some p=>
  first|refine aa hJ (ag hJ ?_)|refine aa hJ (aa hJ (ag hJ ?_))
  simp only[*,go_sem]
  refine bL hJ (by simp only[*,go_sem]) ?_
  refine aF hJ ?_
  refine aa hJ (ag hJ ?_)
  simp only[*,go_sem]
  intro g f1;have r1:=eI f1
  try simp only[*,go_sem]
  refine p5 r1 trivial rfl hlen b rfl rfl lq lq rN mH rfl rO (by decide) (by decide) (fun v a hg i=>aD ?_)
  simp only[*,go_sem]
  refine ay ?_
  simp only[*,go_sem]
  exact ⟨a,hg,Le.refl _⟩
def sK (u0:List cg):Option (List cg):=if u0.length<=1000000 then some u0 else none
theorem A4 {ro:Addr->Option Value}(u0:List cg){s1:Value}(b:aB eE ro s1 u0){x:List cg}(h:sK u0=some x):aC Tryz.prog 125 #[s1] ⟨ro,[]⟩ (fun v G=>∃a,aW eE ro 132 v x a/\Le ⟨ro,a⟩ G):=by
 obtain ⟨ad,cap,rfl,le,c,e⟩:=id b
 unfold sK at h
 split at h
 case isFalse=>cases h
 rename_i hlen
 obtain rfl:=Option.some.inj h
 clear h
 refine aC.go Tryz.func125 rfl Tryz.ntmps125 Tryz.results125 (by simp) fun main J hJ A d hd hs=>?_
 have f:=hs 0
 clear hs
 refine aa hJ (ag hJ ?_)
 simp only[*,go_sem]
 cases ad with
 |none=>
  have hu:u0=[]:=by
   cases u0 with
   |nil=>rfl
   |cons x l=>obtain ⟨p,cs,hp,_⟩:=e 0 x rfl;cases hp
  subst hu
  first|refine aa hJ (ag hJ ?_)|refine aa hJ (aa hJ (ag hJ ?_))
  simp only[*,go_sem]
  refine bK hJ (by simp only[*,go_sem]) ?_
  refine aa hJ (ag hJ ?_)
  simp only[*,go_sem]
  refine ay ?_
  simp only[*,go_sem]
  exact ⟨[],aW.nil _ _ _,Le.refl _⟩
 |some p=>
  first|refine aa hJ (ag hJ ?_)|refine aa hJ (aa hJ (ag hJ ?_))
  simp only[*,go_sem]
  refine bL hJ (by simp only[*,go_sem]) ?_
  refine aF hJ ?_
  refine aa hJ (ag hJ ?_)
  simp only[*,go_sem]
  intro g f1;have r1:=eI f1
  try simp only[*,go_sem]
  refine p5 r1 trivial rfl hlen b rfl rfl lu lu rS rU rfl rT (by decide) (by decide) (fun v a hg i=>aD ?_)
  simp only[*,go_sem]
  refine ay ?_
  simp only[*,go_sem]
  exact ⟨a,hg,Le.refl _⟩
def sL (u0:List Int):Option (List Int):=if u0.length<=1000000 then some u0 else none
theorem A5 {ro:Addr->Option Value}(u0:List Int){s1:Value}(b:aB rI ro s1 u0){x:List Int}(h:sL u0=some x):aC Tryz.prog 123 #[s1] ⟨ro,[]⟩ (fun v G=>∃a,aW rI ro 3 v x a/\Le ⟨ro,a⟩ G):=by
 obtain ⟨ad,cap,rfl,le,c,e⟩:=id b
 unfold sL at h
 split at h
 case isFalse=>cases h
 rename_i hlen
 obtain rfl:=Option.some.inj h
 clear h
 refine aC.go Tryz.func123 rfl Tryz.ntmps123 Tryz.results123 (by simp) fun main J hJ A d hd hs=>?_
 have f:=hs 0
 clear hs
 refine aa hJ (ag hJ ?_)
 simp only[*,go_sem]
 cases ad with
 |none=>
  have hu:u0=[]:=by
   cases u0 with
   |nil=>rfl
   |cons x l=>obtain ⟨p,cs,hp,_⟩:=e 0 x rfl;cases hp
  subst hu
  first|refine aa hJ (ag hJ ?_)|refine aa hJ (aa hJ (ag hJ ?_))
  simp only[*,go_sem]
  refine bK hJ (by simp only[*,go_sem]) ?_
  refine aa hJ (ag hJ ?_)
  simp only[*,go_sem]
  refine ay ?_
  simp only[*,go_sem]
  exact ⟨[],aW.nil _ _ _,Le.refl _⟩
 |some p=>
  first|refine aa hJ (ag hJ ?_)|refine aa hJ (aa hJ (ag hJ ?_))
  simp only[*,go_sem]
  refine bL hJ (by simp only[*,go_sem]) ?_
  refine aF hJ ?_
  refine aa hJ (ag hJ ?_)
  simp only[*,go_sem]
  intro g f1;have r1:=eI f1
  try simp only[*,go_sem]
  refine p5 r1 trivial rfl hlen b rfl rfl eK eK iZ jb rfl ja (by decide) (by decide) (fun v a hg i=>aD ?_)
  simp only[*,go_sem]
  refine ay ?_
  simp only[*,go_sem]
  exact ⟨a,hg,Le.refl _⟩
def sM (u0:ak)(i43:Nat)(b:(ak->Option Int))(st:Int):Option (Fl Int (ak×Int)):=
 ah (b u0) fun a=>cond ((a != 0)) (some (.rt ((⟨0,0,(⟨0,0⟩:av),([]:(List bH)),([]:(List cg)),([]:(List b6)),([]:(List bB))⟩:ak),a))) (some (.nx st))
def eT (u0:ak)(b:(List (ak->Option Int))):Option (ak×Int):=
 ah (dM u0) fun a=>cond ((a != 0)) (some ((⟨0,0,(⟨0,0⟩:av),([]:(List bH)),([]:(List cg)),([]:(List b6)),([]:(List bB))⟩:ak),a)) (ah (bG (sM u0) 0 b 0) fun o=>aG o (fun c=>some (u0,0)) (fun _ _=>none) (fun r=>some r))
theorem kH {ro:Addr->Option Value}(D:cU ro)(u0:ak){s1 f g i:Value}(b:bI ro u0 s1 f g i)(c:(List (ak->Option Int))){o:Value}(q:aB (cV) ro o c){r:(ak×Int)}(h:eT u0 c=some r):en Tryz.prog 54 #[bv u0 s1 f g i,o] ro (fun v aK=>∃s w1 w2 w3,v= .tuple #[bv r.1 s w1 w2 w3,.int .i64 r.2]/\bI aK r.1 s w1 w2 w3):=by
 obtain ⟨d31,ae,rfl,al,E,-⟩:=id q
 unfold eT at h
 have F:=b.oc;simp only[bC] at F
 refine aC.go Tryz.func54 rfl Tryz.ntmps54 Tryz.results54 (by simp) fun main J hJ A G hd hs=>?_
 have H:=hs 0
 have k1:=hs 1
 clear hs
 refine aa hJ (ag hJ ?_)
 simp only[*,go_sem]
 refine ax fun I ao K=>?_;try simp only[au] at K
 refine ax fun L ar M=>?_;try simp only[au] at M
 try simp only[*,go_sem]
 refine aa hJ (aa hJ (ag hJ ?_))
 revert h;refine bS fun a0 N h=>?_
 simp only[*,go_sem]
 refine aM hJ _ (AZ (D.mono aH) u0 (b.e.mono aH) (b.p.mono aH) (b.y.mono aH) (b.t.mono aH) N) (aD ?_)
 try simp only[*,go_sem]
 refine aa hJ (ag hJ ?_)
 simp only[*,go_sem]
 revert h;refine jC hJ (by simp only[*,go_sem]) (fun O h=>?_) fun O h=>?_
 ·obtain rfl:=sI h
  refine aa hJ (ag hJ ?_)
  simp only[*,go_sem]
  refine ay ?_
  simp only[*,go_sem]
  exact ⟨_,Ext.refl _,Le.sub (List.nil_sublist _),_,_,_,_,rfl,⟨aB.nil _ _,aB.nil _ _,aB.nil _ _,aB.nil _ _⟩⟩
 refine aF hJ (aa hJ ?_)
 refine ag hJ ?_
 simp only[*,go_sem]
 refine ax fun P a2 Q=>?_;try simp only[au] at Q
 try simp only[*,go_sem]
 refine aa hJ (aa hJ (ag hJ ?_))
 simp only[*,go_sem]
 refine aU hJ ?_
 revert h;refine bS fun R d u=>?_
 refine bX hJ [5,9,10,21,22,23,24,25,26,27,28,29,30,31,32] (fun m w F'=>∃(i43:Nat) (j:Int),m=c.length - i43/\i43<=c.length/\bG (sM u0) i43 (c.drop i43) j=some R/\F'=⟨ro,(P,bl u0 s1 f g i)::(L,bz 99)::(I,bk u0 s1 f g i)::[]⟩/\slot w 21= .int .i64 (i43:Int)/\slot w 5= .int .i64 j) c.length ?_ ?_
 ·refine ⟨0,0,(Nat.sub_zero _).symm,Nat.zero_le _,d,rfl,?_⟩
  simp only[*,go_sem]
 rintro a3 a4 F' z ⟨i43,j,rfl,a5,d,rfl,a6,a7⟩
 obtain ⟨S,T,U⟩:=z.pick [4,7,19,20] (by decide)
 simp only[*,go_sem] at S T U
 clear z G hd H k1
 refine aa hJ (ag hJ ?_)
 simp only[*,go_sem]
 refine aa hJ ?_
 rcases Nat.lt_or_ge i43 c.length with V|B
 ·refine bK hJ (by simp only[*,go_sem]) ?_
  refine aF hJ ?_
  obtain ⟨a8,k⟩:∃x,c[i43]?=some x:=⟨_,List.getElem?_eq_getElem V⟩
  rw[c5 k] at d
  revert d;refine bS fun a9 h l=>?_
  unfold sM at h
  try dsimp only at h
  obtain ⟨ba,bb,W,X,C⟩:=q.el _ _ k
  obtain ⟨bc,bd,bj,rfl,Y⟩:=X
  cases W
  have Z:=C 0 _ rfl;simp only[go_sem] at Z
  clear C k
  refine aa hJ (aU hJ (aa hJ ?_))
  refine ag hJ ?_
  simp only[*,go_sem]
  refine aa hJ (ag hJ ?_)
  revert h;refine bS fun bm ab h=>?_
  simp only[*,go_sem]
  refine aM hJ _ (Y.2 _ (fun a v h=>aH a v h) u0 _ _ _ _ _ (b.e.mono aH) (b.p.mono aH) (b.y.mono aH) (b.t.mono aH) ab) (aD ?_)
  try simp only[*,go_sem]
  refine aa hJ (ag hJ ?_)
  simp only[*,go_sem]
  revert h;refine jC hJ (by simp only[*,go_sem]) (fun ad h=>?_) fun ad h=>?_
  ·obtain rfl:=sI h
   refine aa hJ (ag hJ ?_)
   simp only[*,go_sem]
   obtain rfl:=sI l;clear l
   have h:=u
   dsimp only[aG] at h
   obtain rfl:=sI h
   refine ay ?_
   simp only[*,go_sem]
   exact ⟨_,Ext.refl _,Le.sub (List.nil_sublist _),_,_,_,_,rfl,⟨aB.nil _ _,aB.nil _ _,aB.nil _ _,aB.nil _ _⟩⟩
  obtain rfl:=sI h
  refine aF hJ ?_
  have bo:=cm (n:=i43) (by have:=E;omega)
  refine ag hJ ?_
  simp only[*,go_sem]
  refine ⟨c.length - (i43+1),by omega,_,Le.sub (List.Sublist.refl _),i43+1,j,rfl,by omega,l,rfl,?_⟩
  simp only[*,go_sem]
 have br:=Nat.not_lt.2 B
 refine bL hJ (by simp only[*,go_sem]) ?_
 rw[List.drop_eq_nil_of_le B] at d
 obtain rfl:=sI d;clear d
 have h:=u
 dsimp only[aG] at h
 obtain rfl:=sI h
 refine bU ?_
 simp only[go_sem]
 refine aa hJ (ag hJ ?_)
 simp only[*,go_sem]
 refine ay ?_
 simp only[*,go_sem]
 exact ⟨_,Ext.refl _,Le.sub (List.nil_sublist _),_,_,_,_,rfl,b⟩
def lK (u0:ak)(b:Int):Option (av×Int):=
 ah (eT u0 ([(mM b)])) fun a=>cond ((a.2 != 0)) (some ((⟨0,0⟩:av),a.2)) (ah (gu a.1 b) fun c=>some (c,0))
theorem sN {ro:Addr->Option Value}(f:cU ro)(u0:ak){s1 g i j:Value}(k:bI ro u0 s1 g i j)(a:Int){r:(av×Int)}(h:lK u0 a=some r):aC Tryz.prog 18 #[bv u0 s1 g i j,.int .i64 a] ⟨ro,[]⟩ (fun v _=>v= .tuple #[r.1.v,.int .i64 r.2]):=by
 unfold lK at h
 refine aC.go Tryz.func18 rfl Tryz.ntmps18 Tryz.results18 (by simp) fun main J hJ A V hd hs=>?_
 have W:=hs 0
 have k1:=hs 1
 clear hs
 refine aa hJ (ag hJ ?_)
 simp only[*,go_sem]
 refine ax fun B C D=>?_;try simp only[au] at D
 refine ax fun E F G=>?_;try simp only[au] at G
 try simp only[*,go_sem]
 refine aa hJ ?_
 refine aL hJ fun H=>?_
 refine ag hJ ?_
 revert h;refine bS fun I K h=>?_
 simp only[*,go_sem]
 refine ax fun c m n=>?_;have q:=aN.cons n H;try simp only[au] at n
 try simp only[*,go_sem]
 obtain ⟨l,s,u⟩:=ga (b:=c) (o:=(.cells #[.func (.func 58) #[.int .i64 a] #[]] 102)) [] ((E,rt 0 0)::(B,bk u0 s1 g i j)::[]) q m (aA.cons F (aA.cons C (aA.nil _)))
 have w:aB (cV) (bO ro c (.cells #[.func (.func 58) #[.int .i64 a] #[]] 102)) (.slice (some ⟨c,0,none⟩) 1 1) [(mM a)]:=(aB.one (r:=(cV)) (e:=102) (cs:=#[.func (.func 58) #[.int .i64 a] #[]]) (x:=(mM a)) (own:=[(c,.cells #[.func (.func 58) #[.int .i64 a] #[]] 102)]) m (by simp[lk]) ⟨58,#[.int .i64 a],#[],rfl,⟨by simp only[go_sem],fun X Y L _ _ _ _ _ M N O P h=>by simp only[go_sem];exact F6 a L ⟨M,N,O,P⟩ h⟩⟩)
 generalize bO ro c (.cells #[.func (.func 58) #[.int .i64 a] #[]] 102)=Z at w s l u
 refine g5 hJ u ?_
 replace k:=k.mono l
 replace f:=f.mono l
 simp only[bf] at s
 have Q:=aN.tl q
 refine bV hJ _ (kH f u0 k ([(mM a)]) w K) fun v ab ad R S=>?_
 obtain ⟨ae,al,ao,ar,rfl,d⟩:=S
 simp only[bf] at R
 obtain ⟨d41,a0,rfl,a2,a3,-⟩:=id d.e
 obtain ⟨d48,a4,rfl,a5,a6,-⟩:=id d.p
 obtain ⟨d55,a7,rfl,a8,a9,-⟩:=id d.y
 obtain ⟨d62,ba,rfl,bb,bc,-⟩:=id d.t
 refine aD ?_
 try simp only[*,go_sem]
 refine ax fun bd bj z=>?_;have bl:=aN.cons z Q;try simp only[au] at z
 try simp only[*,go_sem]
 refine aa hJ (aa hJ (ag hJ ?_))
 simp only[*,go_sem]
 revert h;refine jC hJ (by simp only[*,go_sem]) (fun T h=>?_) fun T h=>?_
 ·obtain rfl:=sI h
  refine aa hJ (ag hJ ?_)
  simp only[*,go_sem]
  refine ay ?_
  simp only[*,go_sem]
 refine aF hJ (aa hJ ?_)
 refine ag hJ ?_
 revert h;refine bS fun bm U h=>?_
 obtain rfl:=sI h
 simp only[*,go_sem]
 refine aM hJ _ (A1 I.1 (d.mono aH) a U) (aD ?_)
 try simp only[*,go_sem]
 refine ay ?_
 simp only[*,go_sem]
def om (u0:ak)(b:aO):Option (Int×av×Int):=
 ah (eT u0 ([(er b)])) fun a=>cond ((a.2 != 0)) (some (0,(⟨0,0⟩:av),a.2)) (ah (lJ a.1 b) fun c=>some (c.at_,c.high,0))
theorem A6 {ro:Addr->Option Value}(k:cU ro)(u0:ak){s1 f g i:Value}(j:bI ro u0 s1 f g i)(a:aO){r:(Int×av×Int)}(h:om u0 a=some r):aC Tryz.prog 12 #[bv u0 s1 f g i,.agg #[.int .i64 a.back,.int .i64 a.high]] ⟨ro,[]⟩ (fun v _=>v= .tuple #[.int .i64 r.1,r.2.1.v,.int .i64 r.2.2]):=by
 unfold om at h
 have D:=j.oc;simp only[bC] at D
 refine aC.go Tryz.func12 rfl Tryz.ntmps12 Tryz.results12 (by simp) fun main J hJ A a2 hd hs=>?_
 have a3:=hs 0
 have k1:=hs 1
 clear hs
 refine aa hJ (ag hJ ?_)
 simp only[*,go_sem]
 refine ax fun m E F=>?_;try simp only[au] at F
 refine ax fun n G H=>?_;try simp only[au] at H
 refine ax fun I K L=>?_;try simp only[au] at L
 try simp only[*,go_sem]
 refine aa hJ ?_
 refine aL hJ fun M=>?_
 refine ag hJ ?_
 revert h;refine bS fun p N h=>?_
 simp only[*,go_sem]
 refine ax fun d q s=>?_;have t:=aN.cons s M;try simp only[au] at s
 try simp only[*,go_sem]
 obtain ⟨l,u,w⟩:=ga (b:=d) (o:=(.cells #[.func (.func 55) #[.agg #[.int .i64 a.back,.int .i64 a.high]] #[]] 102)) [] ((I,rt 0 0)::(n,.cells #[.int .i64 a.back,.int .i64 a.high] 33)::(m,bk u0 s1 f g i)::[]) t q (aA.cons K (aA.cons G (aA.cons E (aA.nil _))))
 have y:aB (cV) (bO ro d (.cells #[.func (.func 55) #[.agg #[.int .i64 a.back,.int .i64 a.high]] #[]] 102)) (.slice (some ⟨d,0,none⟩) 1 1) [(er a)]:=(aB.one (r:=(cV)) (e:=102) (cs:=#[.func (.func 55) #[.agg #[.int .i64 a.back,.int .i64 a.high]] #[]]) (x:=(er a)) (own:=[(d,.cells #[.func (.func 55) #[.agg #[.int .i64 a.back,.int .i64 a.high]] #[]] 102)]) q (by simp[lk]) ⟨55,#[.agg #[.int .i64 a.back,.int .i64 a.high]],#[],rfl,⟨by simp only[go_sem],fun a4 a5 O _ _ _ _ _ P Q R S h=>by simp only[go_sem];exact r9 a O ⟨P,Q,R,S⟩ h⟩⟩)
 generalize bO ro d (.cells #[.func (.func 55) #[.agg #[.int .i64 a.back,.int .i64 a.high]] #[]] 102)=a6 at y u l w
 refine g5 hJ w ?_
 replace j:=j.mono l
 replace k:=k.mono l
 simp only[bf] at u
 have T:=aN.tl t
 refine bV hJ _ (kH k u0 j ([(er a)]) y N) fun v U a7 V W=>?_
 obtain ⟨X,Y,Z,ab,rfl,z⟩:=W
 have ad:=z.oc;simp only[bC] at ad
 simp only[bf] at V
 refine aD ?_
 try simp only[*,go_sem]
 refine ax fun ae a8 B=>?_;have al:=aN.cons B T;try simp only[au] at B
 try simp only[*,go_sem]
 refine aa hJ (aa hJ (ag hJ ?_))
 simp only[*,go_sem]
 revert h;refine jC hJ (by simp only[*,go_sem]) (fun ao h=>?_) fun ao h=>?_
 ·obtain rfl:=sI h
  refine aa hJ (ag hJ ?_)
  simp only[*,go_sem]
  refine ay ?_
  simp only[*,go_sem]
 refine aF hJ (aa hJ ?_)
 refine ag hJ ?_
 revert h;refine bS fun c ar h=>?_
 obtain rfl:=sI h
 simp only[*,go_sem]
 refine aM hJ _ (sx p.1 (z.mono aH) a ar) (aD ?_)
 try simp only[*,go_sem]
 refine ax fun a0 a9 C=>?_;have ba:=aN.cons C al;try simp only[au] at C
 try simp only[*,go_sem]
 refine aa hJ ?_
 refine e5 hJ mixed 5 ⟨U,[(a0,.cells #[.int .i64 c.spot.an,.int .i64 c.spot.high.num,.int .i64 c.spot.high.den,.int .i64 c.at_,.int .i64 c.high.num,.int .i64 c.high.den] 107),(ae,bl p.1 X Y Z ab),(n,.cells #[.int .i64 a.back,.int .i64 a.high] 33),(m,bk u0 s1 f g i)]⟩ (by simp only[*,go_sem]) (by kernel_rfl) ?_
 simp only[*,go_sem]
 refine ay ?_
 simp only[*,go_sem]
def lM (u0:ak)(b:aO):Option (av×Int):=
 ah (eT u0 ([(er b)])) fun a=>cond ((a.2 != 0)) (some ((⟨0,0⟩:av),a.2)) (ah (oa a.1 b) fun c=>some (c,0))
theorem sO {ro:Addr->Option Value}(f:cU ro)(u0:ak){s1 g i j:Value}(k:bI ro u0 s1 g i j)(a:aO){r:(av×Int)}(h:lM u0 a=some r):aC Tryz.prog 13 #[bv u0 s1 g i j,.agg #[.int .i64 a.back,.int .i64 a.high]] ⟨ro,[]⟩ (fun v _=>v= .tuple #[r.1.v,.int .i64 r.2]):=by
 unfold lM at h
 refine aC.go Tryz.func13 rfl Tryz.ntmps13 Tryz.results13 (by simp) fun main J hJ A Y hd hs=>?_
 have Z:=hs 0
 have k1:=hs 1
 clear hs
 refine aa hJ (ag hJ ?_)
 simp only[*,go_sem]
 refine ax fun B C D=>?_;try simp only[au] at D
 refine ax fun E F G=>?_;try simp only[au] at G
 refine ax fun H I K=>?_;try simp only[au] at K
 try simp only[*,go_sem]
 refine aa hJ ?_
 refine aL hJ fun L=>?_
 refine ag hJ ?_
 revert h;refine bS fun M N h=>?_
 simp only[*,go_sem]
 refine ax fun c m n=>?_;have q:=aN.cons n L;try simp only[au] at n
 try simp only[*,go_sem]
 obtain ⟨l,s,u⟩:=ga (b:=c) (o:=(.cells #[.func (.func 55) #[.agg #[.int .i64 a.back,.int .i64 a.high]] #[]] 102)) [] ((H,rt 0 0)::(E,.cells #[.int .i64 a.back,.int .i64 a.high] 33)::(B,bk u0 s1 g i j)::[]) q m (aA.cons I (aA.cons F (aA.cons C (aA.nil _))))
 have w:aB (cV) (bO ro c (.cells #[.func (.func 55) #[.agg #[.int .i64 a.back,.int .i64 a.high]] #[]] 102)) (.slice (some ⟨c,0,none⟩) 1 1) [(er a)]:=(aB.one (r:=(cV)) (e:=102) (cs:=#[.func (.func 55) #[.agg #[.int .i64 a.back,.int .i64 a.high]] #[]]) (x:=(er a)) (own:=[(c,.cells #[.func (.func 55) #[.agg #[.int .i64 a.back,.int .i64 a.high]] #[]] 102)]) m (by simp[lk]) ⟨55,#[.agg #[.int .i64 a.back,.int .i64 a.high]],#[],rfl,⟨by simp only[go_sem],fun ab ad O _ _ _ _ _ P Q R S h=>by simp only[go_sem];exact r9 a O ⟨P,Q,R,S⟩ h⟩⟩)
 generalize bO ro c (.cells #[.func (.func 55) #[.agg #[.int .i64 a.back,.int .i64 a.high]] #[]] 102)=ae at w s l u
 refine g5 hJ u ?_
 replace k:=k.mono l
 replace f:=f.mono l
 simp only[bf] at s
 have T:=aN.tl q
 refine bV hJ _ (kH f u0 k ([(er a)]) w N) fun v al ao U V=>?_
 obtain ⟨ar,a0,a2,a3,rfl,d⟩:=V
 simp only[bf] at U
 obtain ⟨d42,a4,rfl,a5,a6,-⟩:=id d.e
 obtain ⟨d49,a7,rfl,a8,a9,-⟩:=id d.p
 obtain ⟨d56,ba,rfl,bb,bc,-⟩:=id d.y
 obtain ⟨d63,bd,rfl,bj,bl,-⟩:=id d.t
 refine aD ?_
 try simp only[*,go_sem]
 refine ax fun bm bo z=>?_;have br:=aN.cons z T;try simp only[au] at z
 try simp only[*,go_sem]
 refine aa hJ (aa hJ (ag hJ ?_))
 simp only[*,go_sem]
 revert h;refine jC hJ (by simp only[*,go_sem]) (fun W h=>?_) fun W h=>?_
 ·obtain rfl:=sI h
  refine aa hJ (ag hJ ?_)
  simp only[*,go_sem]
  refine ay ?_
  simp only[*,go_sem]
 refine aF hJ (aa hJ ?_)
 refine ag hJ ?_
 revert h;refine bS fun bs X h=>?_
 obtain rfl:=sI h
 simp only[*,go_sem]
 refine aM hJ _ (A0 M.1 (d.mono aH) a X) (aD ?_)
 try simp only[*,go_sem]
 refine ay ?_
 simp only[*,go_sem]
def kI (u0:ak)(c:aO):Option (av×Bool×Int):=
 ah (eT u0 ([(er c)])) fun b=>cond ((b.2 != 0)) (some ((⟨0,0⟩:av),false,b.2)) (ah (jJ b.1 c) fun a=>cond (((a.length:Int)==0)) (some ((⟨0,0⟩:av),false,0)) (ah (bw a 0) fun d=>ah (eA a 1 (a.length:Int)) fun e=>ah (kF gN d e) fun f=>some (f.high,true,0)))
theorem wz {ro:Addr->Option Value}(l:cU ro)(u0:ak){s1 f g i:Value}(j:bI ro u0 s1 f g i)(a:aO){r:(av×Bool×Int)}(h:kI u0 a=some r):aC Tryz.prog 20 #[bv u0 s1 f g i,.agg #[.int .i64 a.back,.int .i64 a.high]] ⟨ro,[]⟩ (fun v _=>v= .tuple #[r.1.v,.bool r.2.1,.int .i64 r.2.2]):=by
 unfold kI at h
 have N:=j.oc;simp only[bC] at N
 refine aC.go Tryz.func20 rfl Tryz.ntmps20 Tryz.results20 (by simp) fun main J hJ A cl hd hs=>?_
 have cy:=hs 0
 have k1:=hs 1
 clear hs
 refine aa hJ (ag hJ ?_)
 simp only[*,go_sem]
 refine ax fun s O P=>?_;try simp only[au] at P
 refine ax fun t Q R=>?_;try simp only[au] at R
 refine ax fun S T U=>?_;try simp only[au] at U
 try simp only[*,go_sem]
 refine aa hJ ?_
 refine aL hJ fun V=>?_
 refine ag hJ ?_
 revert h;refine bS fun u W h=>?_
 simp only[*,go_sem]
 refine ax fun d w y=>?_;have z:=aN.cons y V;try simp only[au] at y
 try simp only[*,go_sem]
 obtain ⟨m,B,C⟩:=ga (b:=d) (o:=(.cells #[.func (.func 55) #[.agg #[.int .i64 a.back,.int .i64 a.high]] #[]] 102)) [] ((S,rt 0 0)::(t,.cells #[.int .i64 a.back,.int .i64 a.high] 33)::(s,bk u0 s1 f g i)::[]) z w (aA.cons T (aA.cons Q (aA.cons O (aA.nil _))))
 have D:aB (cV) (bO ro d (.cells #[.func (.func 55) #[.agg #[.int .i64 a.back,.int .i64 a.high]] #[]] 102)) (.slice (some ⟨d,0,none⟩) 1 1) [(er a)]:=(aB.one (r:=(cV)) (e:=102) (cs:=#[.func (.func 55) #[.agg #[.int .i64 a.back,.int .i64 a.high]] #[]]) (x:=(er a)) (own:=[(d,.cells #[.func (.func 55) #[.agg #[.int .i64 a.back,.int .i64 a.high]] #[]] 102)]) w (by simp[lk]) ⟨55,#[.agg #[.int .i64 a.back,.int .i64 a.high]],#[],rfl,⟨by simp only[go_sem],fun X Y n _ _ _ _ _ Z ab ad ae h=>by simp only[go_sem];exact r9 a n ⟨Z,ab,ad,ae⟩ h⟩⟩)
 generalize bO ro d (.cells #[.func (.func 55) #[.agg #[.int .i64 a.back,.int .i64 a.high]] #[]] 102)=cS at D B m C
 refine g5 hJ C ?_
 replace j:=j.mono m
 replace l:=l.mono m
 simp only[bf] at B
 have al:=aN.tl z
 refine bV hJ _ (kH l u0 j ([(er a)]) D W) fun v c0 da ao p=>?_
 obtain ⟨ar,a0,a2,a3,rfl,E⟩:=p
 have a4:=E.oc;simp only[bC] at a4
 simp only[bf] at ao
 refine aD ?_
 try simp only[*,go_sem]
 refine ax fun a5 db G=>?_;have dd:=aN.cons G al;try simp only[au] at G
 try simp only[*,go_sem]
 refine aa hJ (aa hJ (ag hJ ?_))
 simp only[*,go_sem]
 revert h;refine jC hJ (by simp only[*,go_sem]) (fun a6 h=>?_) fun a6 h=>?_
 ·obtain rfl:=sI h
  refine aa hJ (ag hJ ?_)
  simp only[*,go_sem]
  refine ay ?_
  simp only[*,go_sem]
 refine aF hJ (aa hJ ?_)
 refine ag hJ ?_
 revert h;refine bS fun k a7 h=>?_
 simp only[*,go_sem]
 refine bV hJ _ (v7 u.1 E a a7) fun v a8 df a9 p=>?_
 obtain ⟨dk,rfl,q⟩:=p
 simp only[bf] at a9
 obtain ⟨d84,ba,rfl,dp,dq,-⟩:=id q
 refine aD ?_
 try simp only[*,go_sem]
 refine aa hJ (aa hJ (ag hJ ?_))
 simp only[*,go_sem]
 revert h;refine jC hJ (by simp only[*,go_sem]) (fun bb h=>?_) fun bb h=>?_
 ·obtain rfl:=sI h
  refine aa hJ (ag hJ ?_)
  simp only[*,go_sem]
  refine ay ?_
  simp only[*,go_sem]
 refine aF hJ (aa hJ ?_)
 refine e5 hJ mixed 7 ⟨a8,[(a5,bl u.1 ar a0 a2 a3),(t,.cells #[.int .i64 a.back,.int .i64 a.high] 33),(s,bk u0 s1 f g i)]⟩ (by simp only[*,go_sem]) (by kernel_rfl) ?_
 revert h;refine bS fun H bc h=>?_
 obtain ⟨ds,dt,I⟩:=cw bc
 obtain ⟨du,bd,bj,bm,c⟩:=q.el _ _ I
 obtain rfl:bd=H.cells:=bm
 cases bj
 have bo:=c 0 _ rfl;simp only[go_sem] at bo
 have br:=c 1 _ rfl;simp only[go_sem] at br
 have bs:=c 2 _ rfl;simp only[go_sem] at bs
 have bz:=c 3 _ rfl;simp only[go_sem] at bz
 have b0:=c 4 _ rfl;simp only[go_sem] at b0
 have b1:=c 5 _ rfl;simp only[go_sem] at b1
 clear c I
 revert h;refine bS fun b2 b3 h=>?_
 obtain ⟨dv,dC,dE,K⟩:=j9 b3
 have L:(1:Int).toNat<=((k.length:Int)).toNat:=by omega
 have b4:((k.length:Int)).toNat<=ba:=by omega
 have dT:0<=((k.length:Int)):=by omega
 obtain ⟨d94,b5,ca,M⟩:=aB.kg q (1:Int).toNat ((k.length:Int)).toNat L (by omega) K
 simp only[go_sem] at b5 ca L b4
 obtain ⟨_,_,hq,ea,eb,ec⟩:=id M;cases hq
 clear K
 revert h;refine bS fun ed cb h=>?_
 obtain rfl:=sI h
 try simp only[*,go_sem]
 refine ⟨_,bE hJ fun F cd=>si (dH:=62) (dZ:=#[]) (ee:=#[]) gN ⟨by simp only[go_sem],fun X Y n cf _ h=>by simp only[go_sem];exact r8 n cf h⟩ H b2 (M.mono (cc cd)) cb,b9 ?_⟩
 try simp only[*,go_sem]
 refine ay ?_
 simp only[*,go_sem]
def lN (u0:ak)(b:aO):Option (av×Bool×Int):=
 ah (eT u0 ([(er b)])) fun a=>cond ((a.2 != 0)) (some ((⟨0,0⟩:av),false,a.2)) (ah (kG a.1 b) fun c=>ah (gv a.1 b) fun d=>some (c,d,0))
theorem sP {ro:Addr->Option Value}(j:cU ro)(u0:ak){s1 d f g:Value}(i:bI ro u0 s1 d f g)(a:aO){r:(av×Bool×Int)}(h:lN u0 a=some r):aC Tryz.prog 21 #[bv u0 s1 d f g,.agg #[.int .i64 a.back,.int .i64 a.high]] ⟨ro,[]⟩ (fun v _=>v= .tuple #[r.1.v,.bool r.2.1,.int .i64 r.2.2]):=by
 unfold lN at h
 have C:=i.oc;simp only[bC] at C
 refine aC.go Tryz.func21 rfl Tryz.ntmps21 Tryz.results21 (by simp) fun main J hJ A a0 hd hs=>?_
 have a2:=hs 0
 have k1:=hs 1
 clear hs
 refine aa hJ (ag hJ ?_)
 simp only[*,go_sem]
 refine ax fun p D E=>?_;try simp only[au] at E
 refine ax fun q G H=>?_;try simp only[au] at H
 refine ax fun I K L=>?_;try simp only[au] at L
 try simp only[*,go_sem]
 refine aa hJ ?_
 refine aL hJ fun M=>?_
 refine ag hJ ?_
 revert h;refine bS fun k N h=>?_
 simp only[*,go_sem]
 refine ax fun c s t=>?_;have u:=aN.cons t M;try simp only[au] at t
 try simp only[*,go_sem]
 obtain ⟨l,w,y⟩:=ga (b:=c) (o:=(.cells #[.func (.func 55) #[.agg #[.int .i64 a.back,.int .i64 a.high]] #[]] 102)) [] ((I,rt 0 0)::(q,.cells #[.int .i64 a.back,.int .i64 a.high] 33)::(p,bk u0 s1 d f g)::[]) u s (aA.cons K (aA.cons G (aA.cons D (aA.nil _))))
 have z:aB (cV) (bO ro c (.cells #[.func (.func 55) #[.agg #[.int .i64 a.back,.int .i64 a.high]] #[]] 102)) (.slice (some ⟨c,0,none⟩) 1 1) [(er a)]:=(aB.one (r:=(cV)) (e:=102) (cs:=#[.func (.func 55) #[.agg #[.int .i64 a.back,.int .i64 a.high]] #[]]) (x:=(er a)) (own:=[(c,.cells #[.func (.func 55) #[.agg #[.int .i64 a.back,.int .i64 a.high]] #[]] 102)]) s (by simp[lk]) ⟨55,#[.agg #[.int .i64 a.back,.int .i64 a.high]],#[],rfl,⟨by simp only[go_sem],fun a3 a4 O _ _ _ _ _ P Q R S h=>by simp only[go_sem];exact r9 a O ⟨P,Q,R,S⟩ h⟩⟩)
 generalize bO ro c (.cells #[.func (.func 55) #[.agg #[.int .i64 a.back,.int .i64 a.high]] #[]] 102)=a5 at z w l y
 refine g5 hJ y ?_
 replace i:=i.mono l
 replace j:=j.mono l
 simp only[bf] at w
 have T:=aN.tl u
 refine bV hJ _ (kH j u0 i ([(er a)]) z N) fun v U a6 V W=>?_
 obtain ⟨X,Y,Z,ab,rfl,m⟩:=W
 have ad:=m.oc;simp only[bC] at ad
 simp only[bf] at V
 refine aD ?_
 try simp only[*,go_sem]
 refine ax fun ae a7 B=>?_;have a8:=aN.cons B T;try simp only[au] at B
 try simp only[*,go_sem]
 refine aa hJ (aa hJ (ag hJ ?_))
 simp only[*,go_sem]
 revert h;refine jC hJ (by simp only[*,go_sem]) (fun al h=>?_) fun al h=>?_
 ·obtain rfl:=sI h
  refine aa hJ (ag hJ ?_)
  simp only[*,go_sem]
  refine ay ?_
  simp only[*,go_sem]
 refine aF hJ (aa hJ ?_)
 refine e5 hJ mixed 6 ⟨U,[(ae,bl k.1 X Y Z ab),(q,.cells #[.int .i64 a.back,.int .i64 a.high] 33),(p,bk u0 s1 d f g)]⟩ (by simp only[*,go_sem]) (by kernel_rfl) ?_
 revert h;refine bS fun a9 ao h=>?_
 simp only[*,go_sem]
 refine ⟨_,bE hJ fun F n=>sA k.1 (m.mono (cc n)) a ao,b9 ?_⟩
 revert h;refine bS fun ba ar h=>?_
 obtain rfl:=sI h
 try simp only[*,go_sem]
 refine ⟨_,bE hJ fun F n=>mU k.1 (m.mono (cc n)) a ar,?_⟩
 try simp only[*,go_sem]
 refine ay ?_
 simp only[*,go_sem]
def wA (a:aS)(st:Bool):Option (Fl Bool Unit):=
 some (.br 1000000000 true)
def oo (u0:ak):Option Bool:=
 ah (gq (wA) (mW u0) false) fun o=>aG o (fun b=>some false) (fun k a=>cond (k==1000000000) (some a) (none)) (fun _=>none)
theorem A7 {ro:Addr->Option Value}(u0:ak){s1 c d g:Value}(k:bI ro u0 s1 c d g){r:Bool}(h:oo u0=some r):aC Tryz.prog 70 #[bv u0 s1 c d g] ⟨ro,[]⟩ (fun v _=>v= .bool r):=by
 unfold oo at h
 refine aC.vX Tryz.func70 rfl Tryz.ntmps70 Tryz.results70 (by simp) fun main J hJ A D hd hs=>?_
 have E:=hs 0
 clear hs
 refine aa hJ (ag hJ ?_)
 simp only[*,go_sem]
 refine ax fun n x F=>?_;try simp only[au] at F
 refine ax fun l z G=>?_;try simp only[au] at G
 try simp only[*,go_sem]
 refine aa hJ (aa hJ (ag hJ ?_))
 simp only[*,go_sem]
 revert h;refine bS fun Q H o=>?_
 refine vW hJ aS.v (by simp only[*,go_sem]) (sG u0 k.e k.p k.y k.t) (by kernel_rfl) (by kernel_rfl) (ρ:=Unit) (fun (I:Bool) K=>K=(l,.cells #[.bool I] 4)::(n,bl u0 s1 c d g)::[]) (f:=wA) H ?_ ?_ (by decide) ?_ ?_
 ·exact rfl
 ·rintro d33 L q M s u R h main J hJ _ rfl
  unfold wA at h
  try dsimp only at h
  obtain rfl:=sI h
  generalize i:mL _ _ _=m
  have S:sz m=6:=by rw[<-i,vV];simp only[*,go_sem]
  have T:m.defers=[]:=by rw[<-i];rfl
  have U:slot m 2= .pointer (some ⟨l,0,none⟩):=by rw[<-i,n4];simp only[*,go_sem]
  have V:slot m 5= .agg #[.int .i64 u.e0,.int .i64 u.e1,.int .i64 u.e2]:=by rw[<-i,n4];simp only[*,go_sem]
  clear i D hd E
  refine gb hJ fun b a=>?_
  replace a:aA ro ((L,.loop q)::(d33,.deferred (some []))::(l,.cells #[.bool s] 4)::(n,bl u0 s1 c d g)::[]):=a
  have W:=a.hd
  have X:=a.tl.hd
  have z:=a.tl.tl.hd
  have x:=a.tl.tl.tl.hd
  clear a
  replace b:=b.nd
  simp only[keys,List.map_cons,List.map_nil,List.map_append,List.cons_append,List.nil_append,List.nodup_cons,List.mem_cons,List.mem_append,List.not_mem_nil,or_false,not_or] at b
  refine aF hJ ?_
  simp only[p7,go_sem]
  refine ⟨q,by simp only[*,go_sem],M,?_⟩
  try simp only[*,go_sem]
  refine aU hJ (aa hJ ?_)
  refine ag hJ ?_
  simp only[*,go_sem]
  refine ay ?_
  simp only[rZ,mI,go_sem]
  refine ⟨{q with state:=.busy},by simp only[*,go_sem],?_⟩
  simp only[*,go_sem]
  refine ⟨_,Le.sub (List.Sublist.refl _),rfl,rfl⟩
 ·rintro N O P _ s rfl b a
  replace a:aA ro ((O,.loop P)::(N,.deferred (some []))::(l,.cells #[.bool s] 4)::(n,bl u0 s1 c d g)::[]):=a
  have Y:=a.hd
  have Z:=a.tl.hd
  have z:=a.tl.tl.hd
  have x:=a.tl.tl.tl.hd
  clear a
  replace b:=b.nd
  simp only[keys,List.map_cons,List.map_nil,List.map_append,List.cons_append,List.nil_append,List.nodup_cons,List.mem_cons,List.mem_append,List.not_mem_nil,or_false,not_or] at b
  refine ⟨fun j=>?_,fun k1 j=>?_⟩
  ·subst j;have h:=o;dsimp only[aG] at h
   obtain rfl:=sI h
   refine aa hJ (ag hJ ?_)
   simp only[*,go_sem]
   refine aL hJ fun w=>?_
   replace w:=w.nd
   try simp only[keys,List.map_cons,List.map_nil,List.map_append,List.cons_append,List.nil_append,List.nodup_cons,List.mem_cons,List.mem_append,List.not_mem_nil,or_false,not_or] at w
   refine ay ?_
   simp only[*,go_sem]
  subst j;have h:=o;dsimp only[aG] at h
  revert h;refine cS (fun B h=>?_) fun B h=>?_
  ·obtain rfl:=sI h
   obtain rfl:k1=1000000000:=by simpa using B
   unfold vU;rw[if_pos (show (1000000000:Nat)=r5 from rfl)]
   simp only[*,go_sem]
  cases h
 intro k1 ab j;subst j;have h:=o;dsimp only[aG] at h
 revert h;refine cS (fun C h=>?_) fun C h=>?_
 ·obtain rfl:k1=1000000000:=by simpa using C
  decide
 cases h
def oq (a:aS)(st:(List aS)):Option (Fl (List aS) Unit):=
 ah (cB st ([a])) fun b=>some (.nx b)
def sQ (a:(List (Option aS))):Option (List aS):=
 ah (gq (oq) a ([]:List aS)) fun o=>aG o (fun b=>some b) (fun k c=>none) (fun _=>none)
theorem Gy {ro:Addr->Option Value}(u:(List (Option aS))){dj:FuncId}{dS dU:Array Value}(K:mJ Tryz.prog dj dS dU aS.v u ro){r:(List aS)}(h:sQ u=some r):en Tryz.prog 128 #[.slice none 0 0,.func (.func dj) dS dU] ro (fun v aK=>∃w,v=w/\aB hH aK w r):=by
 unfold sQ at h
 refine aC.vX Tryz.func128 rfl Tryz.ntmps128 Tryz.results128 (by simp) fun main J hJ A L hd hs=>?_
 have M:=hs 0
 have k1:=hs 1
 clear hs
 refine aa hJ (ag hJ ?_)
 simp only[*,go_sem,-h]
 refine ax fun e r1 n1=>?_;try simp only[au] at n1
 try simp only[*,go_sem,-h]
 refine aa hJ (aa hJ (ag hJ ?_))
 simp only[*,go_sem,-h]
 revert h;refine bS fun ar N o=>?_;have h:=trivial
 refine vW hJ aS.v (by simp only[*,go_sem]) K (by kernel_rfl) (by kernel_rfl) (ρ:=Unit) (fun (m:(List aS)) O=>∃(d7:Option Addr) (c:Nat) (d:List (Nat×Obj)),O=(e,.cells #[.slice d7 m.length c] 121)::d/\aW hH ro 120 (.slice d7 m.length c) m d/\m.length<=c) (f:=oq) N ?_ ?_ (by decide) ?_ ?_
 ·exact ⟨none,0,[],rfl,aW.nil _ _ _,Nat.le_refl _⟩
 ·rintro d4 p i P v6 a a0 h main J hJ _ ⟨d7,c,d,rfl,q,Q⟩
  unfold oq at h
  try dsimp only at h
  generalize j:mL _ _ _=n
  have a2:sz n=13:=by rw[<-j,vV];simp only[*,go_sem]
  have a3:n.defers=[]:=by rw[<-j];rfl
  have a4:slot n 2= .pointer (some ⟨e,0,none⟩):=by rw[<-j,n4];simp only[*,go_sem]
  have a5:slot n 7= .agg #[.int .i64 a.e0,.int .i64 a.e1,.int .i64 a.e2]:=by rw[<-j,n4];simp only[*,go_sem]
  clear j L hd M k1
  refine gb hJ fun g b=>?_
  replace b:aA ro ((p,.loop i)::(d4,.deferred (some []))::(e,.cells #[.slice d7 v6.length c] 121)::d):=b
  have r3:=b.hd
  have a6:=b.tl.hd
  have r1:=b.tl.tl.hd
  clear b
  replace g:=g.nd
  simp only[keys,List.map_cons,List.map_nil,List.map_append,List.cons_append,List.nil_append,List.nodup_cons,List.mem_cons,List.mem_append,List.not_mem_nil,or_false,not_or] at g
  refine aL hJ fun R=>?_
  refine ag hJ ?_
  simp only[*,go_sem,-h]
  refine ax fun y a7 z=>?_;have a8:=aN.cons z R;try simp only[au] at z
  try simp only[*,go_sem,-h]
  simp only[p7,go_sem]
  refine ⟨i,by simp only[*,go_sem],P,?_⟩
  try simp only[*,go_sem,-h]
  refine aU hJ ?_
  refine aL hJ fun S=>?_
  refine ag hJ ?_
  revert h;refine bS fun a9 T h=>?_
  obtain ⟨U,B⟩:=cT T
  simp only[*,go_sem,-h]
  refine ax fun C V D=>?_;have W:=aN.cons D S;try simp only[au] at D
  try simp only[*,go_sem,-h]
  refine dG (r:=hH) (l:=v6) (x:=a) (cs:=#[.int .i64 a.e0,.int .i64 a.e1,.int .i64 a.e2]) (e2:=120) [(C,.cells #[.int .i64 a.e0,.int .i64 a.e1,.int .i64 a.e2] 120),(y,.cells #[.int .i64 a.e0,.int .i64 a.e1,.int .i64 a.e2] 120),(p,.loop {i with state:=.busy}),(d4,.deferred (some [])),(e,.cells #[.slice d7 v6.length c] 121)] [] q W U rfl (by simp only[*,go_sem,-h]) V rfl rfl Ai Ai EU EW rfl EV (by decide) (by decide) (fun ba E s d X bb=>?_)
  simp only[List.append_nil,List.cons_append,List.nil_append,List.append_assoc] at X
  subst d
  rw[<-B] at s;clear B
  obtain ⟨d28,Y,rfl,Z⟩:=s.len
  refine ⟨⟨ro,(C,.cells #[.int .i64 a.e0,.int .i64 a.e1,.int .i64 a.e2] 120)::(y,.cells #[.int .i64 a.e0,.int .i64 a.e1,.int .i64 a.e2] 120)::(p,.loop {i with state:=.busy})::(d4,.deferred (some []))::(e,.cells #[.slice d7 v6.length c] 121)::E⟩,Le.refl _,?_⟩
  refine aD ?_
  try simp only[*,go_sem,-h]
  obtain rfl:=sI h
  simp only[rZ,mI,go_sem]
  refine ⟨{i with state:=.busy},by simp only[*,go_sem],?_⟩
  simp only[*,go_sem]
  refine ⟨_,Le.sub (List.Sublist.cons _ (List.Sublist.cons _ (List.Sublist.refl _))),rfl,d28,Y,E,rfl,s,Z⟩
 ·rintro d49 F G _ v6 ⟨d7,c,d,rfl,q,Q⟩ g b
  replace b:aA ro ((F,.loop G)::(d49,.deferred (some []))::(e,.cells #[.slice d7 v6.length c] 121)::d):=b
  have ab:=b.hd
  have ad:=b.tl.hd
  have r1:=b.tl.tl.hd
  clear b
  replace g:=g.nd
  simp only[keys,List.map_cons,List.map_nil,List.map_append,List.cons_append,List.nil_append,List.nodup_cons,List.mem_cons,List.mem_append,List.not_mem_nil,or_false,not_or] at g
  refine ⟨fun k=>?_,fun k1 k=>?_⟩
  ·subst k;have h:=o;dsimp only[aG] at h
   refine aa hJ ?_
   refine aL hJ fun bc=>?_
   refine ag hJ ?_
   simp only[*,go_sem,-h]
   obtain rfl:=sI h
   refine aL hJ fun H=>?_
   obtain ⟨bd,ae,al,I,ao⟩:=q.eB [(F,.loop G),(d49,.deferred (some [])),(e,.cells #[.slice d7 v6.length c] 121)] [] H (aA.cons ab (aA.cons ad (aA.cons r1 (aA.nil _))))
   clear H
   refine cH hJ ao ?_
   obtain ⟨bj,bk,-⟩:=I.op
   simp only[bf] at al
   refine aL hJ fun t=>?_
   replace t:=t.nd
   try simp only[keys,List.map_cons,List.map_nil,List.map_append,List.cons_append,List.nil_append,List.nodup_cons,List.mem_cons,List.mem_append,List.not_mem_nil,or_false,not_or] at t
   refine ay ?_
   simp only[*,go_sem]
   exact ⟨_,ae,Le.sub (List.nil_sublist _),_,rfl,I⟩
  subst k;have h:=o;dsimp only[aG] at h
  cases h
 intro k1 bl k;subst k;have h:=o;dsimp only[aG] at h
 cases h
def qp (u0:(List (Option aS))):Option (List aS):=
 ah (sQ u0) fun a=>some a
theorem A8 {ro:Addr->Option Value}(u0:(List (Option aS))){dH:FuncId}{dZ ee:Array Value}(c:mJ Tryz.prog dH dZ ee aS.v u0 ro){r:(List aS)}(h:qp u0=some r):en Tryz.prog 105 #[.func (.func dH) dZ ee] ro (fun v aK=>∃a,v=a/\aB hH aK a r):=by
 unfold qp at h
 refine aC.go Tryz.func105 rfl Tryz.ntmps105 Tryz.results105 (by simp) fun main J hJ A g hd hs=>?_
 have i:=hs 0
 clear hs
 refine aa hJ (ag hJ ?_)
 simp only[*,go_sem]
 refine aa hJ (ag hJ ?_)
 revert h;refine bS fun j d h=>?_
 obtain rfl:=sI h
 simp only[*,go_sem]
 refine bV hJ _ (Gy (dj:=dH) (dS:=dZ) (dU:=ee) u0 c d) fun v k e l f=>?_
 obtain ⟨m,rfl,b⟩:=f
 obtain ⟨d8,n,rfl,o,p,-⟩:=id b
 refine aD ?_
 try simp only[*,go_sem]
 refine ay ?_
 simp only[*,go_sem]
 exact ⟨_,e,Le.sub (List.nil_sublist _),_,rfl,b⟩
def gO (u0:ak)(c:(List (ak->Option Int))):Option (cI×Int):=
 ah (eT u0 c) fun a=>cond ((a.2 != 0)) (some ((⟨(⟨0,0,(⟨0,0⟩:av),([]:(List bH)),([]:(List cg)),([]:(List b6)),([]:(List bB))⟩:ak),([]:(List aS))⟩:cI),a.2)) (ah (qp (mW a.1)) fun b=>cond (((b.length:Int)==0)) (some ((⟨(⟨0,0,(⟨0,0⟩:av),([]:(List bH)),([]:(List cg)),([]:(List b6)),([]:(List bB))⟩:ak),([]:(List aS))⟩:cI),9)) (some ((⟨a.1,b⟩:cI),0)))
theorem jL {ro:Addr->Option Value}(N:cU ro)(u0:ak){s1 c d f:Value}(G:bI ro u0 s1 c d f)(B:(List (ak->Option Int))){H:Value}(I:aB (cV) ro H B){r:(cI×Int)}(h:gO u0 B=some r):en Tryz.prog 66 #[bv u0 s1 c d f,H] ro (fun v aK=>∃K w1 w2 w3 w4,v= .tuple #[.agg #[.int .i64 r.1.book.aZ,.int .i64 r.1.book.bD,.int .i64 r.1.book.aR.num,.int .i64 r.1.book.aR.den,K,w1,w2,w3,w4],.int .i64 r.2]/\bI aK r.1.book K w1 w2 w3/\aB hH aK w4 r.1.all):=by
 obtain ⟨d31,ae,rfl,al,ao,-⟩:=id I
 unfold gO at h
 have O:=G.oc;simp only[bC] at O
 refine aC.go Tryz.func66 rfl Tryz.ntmps66 Tryz.results66 (by simp) fun main J hJ A ar hd hs=>?_
 have a0:=hs 0
 have k1:=hs 1
 clear hs
 refine aa hJ (ag hJ ?_)
 simp only[*,go_sem]
 refine ax fun C g P=>?_;try simp only[au] at P
 refine ax fun D i Q=>?_;try simp only[au] at Q
 try simp only[*,go_sem]
 refine aa hJ (ag hJ ?_)
 revert h;refine bS fun b R h=>?_
 simp only[*,go_sem]
 refine bV hJ _ (kH N u0 G B I R) fun v S j E k=>?_
 obtain ⟨m,n,o,q,rfl,a⟩:=k
 have T:=a.oc;simp only[bC] at T
 replace i:=E.hd
 replace g:=E.tl.hd
 simp only[bf] at E
 refine aD ?_
 try simp only[*,go_sem]
 refine ax fun F s U=>?_;try simp only[au] at U
 try simp only[*,go_sem]
 refine aa hJ (aa hJ (ag hJ ?_))
 simp only[*,go_sem]
 revert h;refine jC hJ (by simp only[*,go_sem]) (fun V h=>?_) fun V h=>?_
 ·obtain rfl:=sI h
  refine aa hJ (ag hJ ?_)
  simp only[*,go_sem]
  refine ay ?_
  simp only[*,go_sem]
  exact ⟨_,j,Le.sub (List.nil_sublist _),_,_,_,_,_,rfl,⟨aB.nil _ _,aB.nil _ _,aB.nil _ _,aB.nil _ _⟩,aB.nil _ _⟩
 refine aF hJ (aa hJ ?_)
 refine fN hJ mixed [] (.rd 0 (.rd 1 (.pure 2 (.two 3 (.pure 4 (.one 5 (.one 6 .done))) 5 (.one 3 (.pure 4 (.one 6 .done))))))) ⟨S,[(F,bl b.1 m n o q),(D,.cells #[.int .i64 0,.int .i64 0,.int .i64 0,.int .i64 0,.slice none 0 0,.slice none 0 0,.slice none 0 0,.slice none 0 0,.slice none 0 0] 123),(C,bk u0 s1 c d f)]⟩ (by simp only[*,go_sem]) (by kernel_rfl) ?_
 simp only[*,go_sem]
 refine kz ?_ ?_
 ·revert h;refine bS fun a2 W h=>?_
  simp only[*,go_sem]
  refine bV hJ _ (A8 (dH:=65) (dZ:=#[bv b.1 m n o q]) (ee:=#[]) (mW b.1) (sG b.1 a.e a.p a.y a.t) W) fun v a3 u w k=>?_
  obtain ⟨a4,rfl,L⟩:=k
  replace a:=a.mono u
  replace s:=w.hd
  replace i:=w.tl.hd
  replace g:=w.tl.tl.hd
  simp only[bf] at w
  obtain ⟨d80,a5,rfl,a6,a7,-⟩:=id L
  have a8:=eo (l:=[(F,bl b.1 m n o q),(D,.cells #[.int .i64 0,.int .i64 0,.int .i64 0,.int .i64 0,.slice none 0 0,.slice none 0 0,.slice none 0 0,.slice none 0 0,.slice none 0 0] 123),(C,bk u0 s1 c d f)]) u (aA.cons s (aA.cons i (aA.cons g (aA.nil _))))
  refine ⟨by simp only[*,go_sem],?_⟩
  refine bN ?_
  try simp only[*,go_sem]
  refine ax fun a9 ba X=>?_;try simp only[au] at X
  try simp only[*,go_sem]
  refine aa hJ (aa hJ (ag hJ ?_))
  simp only[*,go_sem]
  revert h;refine jC hJ (by simp only[*,go_sem]) (fun Y h=>?_) fun Y h=>?_
  ·obtain rfl:=sI h
   refine aa hJ (ag hJ ?_)
   simp only[*,go_sem]
   refine ay ?_
   simp only[*,go_sem]
   exact ⟨_,(j).trans u,Le.sub (List.nil_sublist _),_,_,_,_,_,rfl,⟨aB.nil _ _,aB.nil _ _,aB.nil _ _,aB.nil _ _⟩,aB.nil _ _⟩
  obtain rfl:=sI h
  refine aF hJ (aa hJ ?_)
  refine ag hJ ?_
  simp only[*,go_sem]
  refine ay ?_
  simp only[*,go_sem]
  exact ⟨_,(j).trans u,Le.sub (List.nil_sublist _),_,_,_,_,_,rfl,a,L⟩
 revert h;refine bS fun bb Z h=>?_
 simp only[*,go_sem]
 refine ax fun bc bd ab=>?_;try simp only[au] at ab
 try simp only[*,go_sem]
 refine bV hJ _ (A8 (dH:=65) (dZ:=#[bv b.1 m n o q]) (ee:=#[]) (mW b.1) (sG b.1 a.e a.p a.y a.t) Z) fun v bj x z k=>?_
 obtain ⟨bm,rfl,M⟩:=k
 replace a:=a.mono x
 replace s:=z.tl.hd
 replace i:=z.tl.tl.hd
 replace g:=z.tl.tl.tl.hd
 simp only[bf] at z
 obtain ⟨d96,bo,rfl,br,bs,-⟩:=id M
 have bz:=eo (l:=[(F,bl b.1 m n o q),(D,.cells #[.int .i64 0,.int .i64 0,.int .i64 0,.int .i64 0,.slice none 0 0,.slice none 0 0,.slice none 0 0,.slice none 0 0,.slice none 0 0] 123),(C,bk u0 s1 c d f)]) x (aA.cons s (aA.cons i (aA.cons g (aA.nil _))))
 refine ⟨by simp only[*,go_sem],?_⟩
 refine bN ?_
 try simp only[*,go_sem]
 refine aa hJ (aa hJ (ag hJ ?_))
 simp only[*,go_sem]
 revert h;refine jC hJ (by simp only[*,go_sem]) (fun ad h=>?_) fun ad h=>?_
 ·obtain rfl:=sI h
  refine aa hJ (ag hJ ?_)
  simp only[*,go_sem]
  refine ay ?_
  simp only[*,go_sem]
  exact ⟨_,(j).trans x,Le.sub (List.nil_sublist _),_,_,_,_,_,rfl,⟨aB.nil _ _,aB.nil _ _,aB.nil _ _,aB.nil _ _⟩,aB.nil _ _⟩
 obtain rfl:=sI h
 refine aF hJ (aa hJ ?_)
 refine ag hJ ?_
 simp only[*,go_sem]
 refine ay ?_
 simp only[*,go_sem]
 exact ⟨_,(j).trans x,Le.sub (List.nil_sublist _),_,_,_,_,_,rfl,a,M⟩
def wB (a:Int)(i56:Nat)(b:Int)(st:(List cg)):Option (Fl (List cg) ak):=
 ah (cB st ([(⟨b,a⟩:cg)])) fun c=>some (.nx c)
def sR (u0:ak)(a:Int)(b:(List Int)):Option ak:=
 ah (sK u0.props) fun c=>ah (bG (wB a) 0 b c) fun o=>aG o (fun d=>some (⟨u0.aZ,u0.bD,u0.aR,u0.aj,d,u0.aE,u0.told⟩:ak)) (fun _ _=>none) (fun r=>some r)
theorem Gz {ro:Addr->Option Value}(u0:ak){s1 s b c:Value}(g:bI ro u0 s1 s b c)(i:Int)(d:(List Int)){D:Value}(E:aB rI ro D d){r:ak}(h:sR u0 i d=some r):en Tryz.prog 118 #[bv u0 s1 s b c,.int .i64 i,D] ro (fun v aK=>∃F w1 w2 w3,v=bv r F w1 w2 w3/\bI aK r F w1 w2 w3):=by
 obtain ⟨d31,b4,rfl,b5,U,-⟩:=id E
 unfold sR at h
 have V:=g.oc;simp only[bC] at V
 refine aC.go Tryz.func118 rfl Tryz.ntmps118 Tryz.results118 (by simp) fun main J hJ A W hd hs=>?_
 have X:=hs 0
 have k1:=hs 1
 have Y:=hs 2
 clear hs
 refine aa hJ (ag hJ ?_)
 simp only[*,go_sem]
 refine ax fun k Z ab=>?_;try simp only[au] at ab
 refine ax fun o ad ae=>?_;try simp only[au] at ae
 try simp only[*,go_sem]
 refine aa hJ ?_
 refine aL hJ fun ca=>?_
 refine ag hJ ?_
 revert h;refine bS fun al ao h=>?_
 simp only[*,go_sem]
 refine gK hJ (aP:=[]) [(o,bz 99),(k,bl u0 s1 s b c)] [] _ (A4 u0.props g.p ao) (fun cb G H u w cd=>?_)
 simp only[List.append_nil,List.cons_append,List.nil_append,List.append_assoc] at w
 subst u
 obtain ⟨d45,ar,rfl,a0⟩:=H.len
 refine ⟨⟨ro,(o,bz 99)::(k,bl u0 s1 s b c)::G⟩,Le.refl _,?_⟩
 refine aD ?_
 try simp only[*,go_sem]
 refine aa hJ (aa hJ ?_)
 refine aL hJ fun cf=>?_
 refine ag hJ ?_
 simp only[*,go_sem]
 refine aU hJ ?_
 revert h;refine bS fun a2 j a3=>?_
 refine bX hJ [8,17,18,19,20,21,22,23,24,25,26,27,28,29,30,31] (fun m a4 F'=>∃(i56:Nat) (d51:Option Addr) (f:Nat) (z:List (Nat×Obj)) (a:(List cg)),m=d.length - i56/\i56<=d.length/\bG (wB i) i56 (d.drop i56) a=some a2/\F'=⟨ro,(o,bz 99)::(k,bl u0 s1 (sl d51 a f) b c)::z⟩/\aW eE ro 132 (.slice d51 a.length f) a z/\a.length<=f/\slot a4 17= .int .i64 (i56:Int)) d.length ?_ ?_
 ·refine ⟨0,d45,ar,G,al,(Nat.sub_zero _).symm,Nat.zero_le _,j,rfl,H,a0,?_⟩
  simp only[*,go_sem]
 rintro cl cy F' I ⟨i56,d51,f,z,a,rfl,cS,j,rfl,K,c0,da⟩
 obtain ⟨a5,a6,a7⟩:=I.pick [1,3,6,15,16] (by decide)
 simp only[*,go_sem] at a5 a6 a7
 clear I W hd X k1 Y
 refine aa hJ (ag hJ ?_)
 simp only[*,go_sem]
 refine aa hJ ?_
 rcases Nat.lt_or_ge i56 d.length with a8|L
 ·refine bK hJ (by simp only[*,go_sem]) ?_
  refine aF hJ ?_
  obtain ⟨q,B⟩:∃x,d[i56]?=some x:=⟨_,List.getElem?_eq_getElem a8⟩
  rw[c5 B] at j
  revert j;refine bS fun db h a9=>?_
  unfold wB at h
  try dsimp only at h
  obtain ⟨dd,ba,bb,bc,M⟩:=E.el _ _ B
  obtain rfl:ba=[.int .i64 q]:=bc
  cases bb
  have bd:=M 0 _ rfl;simp only[go_sem] at bd
  clear M B
  refine aa hJ (aU hJ (aa hJ ?_))
  refine aL hJ fun df=>?_
  refine ag hJ ?_
  simp only[*,go_sem]
  refine aL hJ fun bj=>?_
  refine ag hJ ?_
  revert h;refine bS fun bk bm h=>?_
  obtain rfl:=sI h
  obtain ⟨bo,N⟩:=cT bm
  simp only[*,go_sem]
  refine ax fun O br P=>?_;have bs:=aN.cons P bj;try simp only[au] at P
  try simp only[*,go_sem]
  refine dG (r:=eE) (l:=a) (x:=(⟨q,i⟩:cg)) (cs:=#[.int .i64 q,.int .i64 i]) (e2:=132) [(O,.cells #[.int .i64 q,.int .i64 i] 132),(o,bz 99),(k,bl u0 s1 (sl d51 a f) b c)] [] K bs bo rfl (by simp only[*,go_sem]) br rfl rfl lu lu rS rU rfl rT (by decide) (by decide) (fun dk Q C u w dp=>?_)
  simp only[List.append_nil,List.cons_append,List.nil_append,List.append_assoc] at w
  subst u
  rw[<-N] at C;clear N
  obtain ⟨d74,b0,rfl,b1⟩:=C.len
  refine ⟨⟨ro,(O,.cells #[.int .i64 q,.int .i64 i] 132)::(o,bz 99)::(k,bl u0 s1 (sl d51 a f) b c)::Q⟩,Le.refl _,?_⟩
  refine aD ?_
  try simp only[*,go_sem]
  have dq:=cm (n:=i56) (by have:=U;omega)
  refine ag hJ ?_
  simp only[*,go_sem]
  refine ⟨d.length - (i56+1),by omega,_,Le.sub (List.Sublist.cons _ (List.Sublist.refl _)),i56+1,d74,b0,Q,bk,rfl,by omega,a9,rfl,C,b1,?_⟩
  simp only[*,go_sem]
 have ds:=Nat.not_lt.2 L
 refine bL hJ (by simp only[*,go_sem]) ?_
 rw[List.drop_eq_nil_of_le L] at j
 obtain rfl:=sI j;clear j
 have h:=a3
 dsimp only[aG] at h
 obtain rfl:=sI h
 refine bU ?_
 simp only[go_sem]
 refine aa hJ ?_
 refine aL hJ fun dt=>?_
 refine ag hJ ?_
 simp only[*,go_sem]
 refine aL hJ fun R=>?_
 obtain ⟨du,S,b2,T,b3⟩:=K.eB [(o,bl u0 s1 (sl d51 a f) b c),(k,bl u0 s1 (sl d51 a f) b c)] [] R (aA.cons ad (aA.cons Z (aA.nil _)))
 clear R
 refine cH hJ b3 ?_
 obtain ⟨dv,dC,-⟩:=T.op
 replace g:=g.mono S
 simp only[bf] at b2
 refine ay ?_
 simp only[*,go_sem]
 exact ⟨_,S,Le.sub (List.nil_sublist _),_,_,_,_,rfl,⟨g.e,T,g.y,g.t⟩⟩
def wC (u0:ak)(a:(List Int))(st:((List (List Int))×Int)):Option (Fl ((List (List Int))×Int) (List (List Int))):=
 ah (eP u0 st.2) fun b=>cond (b) (ah (sL a) fun c=>ah (cB c ([st.2])) fun d=>ah (cB st.1 ([d])) fun e=>some (.nx (e,(IntKind.i64.wrap (st.2+1))))) (some (.bk (st.1,st.2)))
def wD (u0:ak)(a:(List Int))(st:((List (List Int))×Int)):Option (Fl ((List (List Int))×Int) (List (List Int))):=
 ah (eP u0 st.2) fun b=>cond (b) (ah (sL a) fun c=>ah (cB c ([st.2])) fun d=>ah (cB st.1 ([d])) fun e=>some (.nx (e,(IntKind.i64.wrap (st.2+1))))) (some (.bk (st.1,st.2)))
def wE (u0:ak)(i47:Nat)(a:(List Int))(st:(List (List Int))):Option (Fl (List (List Int)) (List (List Int))):=
 ah (bw u0.aj 0) fun b=>cond (decide (0<(a.length:Int))) (ah (bw a (IntKind.i64.wrap ((a.length:Int) - 1))) fun c=>ah (bg (wC u0 a) fu (st,(IntKind.i64.wrap (c+1)))) fun o=>aG o (fun d=>some (.nx d.1)) (fun _ _=>none) (fun r=>some (.rt r))) (ah (bg (wD u0 a) fu (st,b.an)) fun o=>aG o (fun e=>some (.nx e.1)) (fun _ _=>none) (fun r=>some (.rt r)))
def sS (u0:ak)(a:(List (List Int))):Option (List (List Int)):=
 ah (bG (wE u0) 0 a ([]:List (List Int))) fun o=>aG o (fun b=>some b) (fun _ _=>none) (fun r=>some r)
theorem A9 {ro:Addr->Option Value}(u0:ak){s1 a b c:Value}(j:bI ro u0 s1 a b c)(s:(List (List Int))){bo:Value}(Q:aB (rL rI) ro bo s){r:(List (List Int))}(h:sS u0 s=some r):en Tryz.prog 93 #[bv u0 s1 a b c,bo] ro (fun v aK=>∃br,v=br/\aB (rL rI) aK br r):=by
 obtain ⟨d3,c4,rfl,h5,h6,-⟩:=id j.e
 obtain ⟨d31,h7,rfl,h8,bs,-⟩:=id Q
 unfold sS at h
 refine aC.go Tryz.func93 rfl Tryz.ntmps93 Tryz.results93 (by simp) fun main J hJ A fa hd hs=>?_
 have fb:=hs 0
 have k1:=hs 1
 clear hs
 refine aa hJ (ag hJ ?_)
 simp only[*,go_sem]
 refine ax fun d u ff=>?_;try simp only[au] at ff
 try simp only[*,go_sem]
 refine aa hJ (ag hJ ?_)
 simp only[*,go_sem]
 refine aa hJ (aa hJ (ag hJ ?_))
 simp only[*,go_sem]
 refine aU hJ ?_
 revert h;refine bS fun fg F fi=>?_
 refine bX hJ [5,7,8,9,12,13,14,15,16,17,18,19,20,21,22,23,24,25,26,27,28,29,30,31,32,33,34,35,36,37,38,39,40,41,42,43,44,45,46] (fun m w F'=>∃(i47:Nat) (y:Addr->Option Value) (d38:Option Addr) (G:Nat) (K:List (Nat×Obj)) (z:(List (List Int))),m=s.length - i47/\i47<=s.length/\bG (wE u0) i47 (s.drop i47) z=some fg/\F'=⟨y,(d,bl u0 (sl d3 u0.aj c4) a b c)::K⟩/\Ext ro y/\aW (rL rI) y 64 (.slice d38 z.length G) z K/\z.length<=G/\slot w 12= .int .i64 (i47:Int)/\slot w 5= .slice d38 z.length G) s.length ?_ ?_
 ·refine ⟨0,ro,none,0,[],([]:List (List Int)),(Nat.sub_zero _).symm,Nat.zero_le _,F,rfl,Ext.refl _,aW.nil _ _ _,Nat.le_refl _,?_⟩
  simp only[*,go_sem]
 rintro h9 bz F' b0 ⟨i47,y,d38,G,K,z,rfl,ib,F,rfl,L,Z,b1,b2,b3⟩
 refine gb hJ fun _ b4=>?_
 replace Q:=Q.mono L
 replace j:=j.mono L
 replace u:=b4.hd
 simp only[bf] at b4
 obtain ⟨ab,ad,ae⟩:=b0.pick [2,4,10,11] (by decide)
 simp only[*,go_sem] at ab ad ae
 clear b0 fa hd fb k1
 refine aa hJ (ag hJ ?_)
 simp only[*,go_sem]
 refine aa hJ ?_
 rcases Nat.lt_or_ge i47 s.length with fl|b5
 ·refine bK hJ (by simp only[*,go_sem]) ?_
  refine aF hJ ?_
  obtain ⟨R,al⟩:∃x,s[i47]?=some x:=⟨_,List.getElem?_eq_getElem fl⟩
  rw[c5 al] at F
  revert F;refine bS fun ih h ca=>?_
  unfold wE at h
  try dsimp only at h
  obtain ⟨ik,il,fp,fq,cb⟩:=Q.el _ _ al
  obtain ⟨im,rfl,t⟩:=fq;obtain ⟨d56,iv,rfl,ix,j1,j2⟩:=id t
  cases fp
  have fr:=cb 0 _ rfl;simp only[go_sem] at fr
  clear cb al
  refine aa hJ (aU hJ (aa hJ ?_))
  refine aL hJ fun kh=>?_
  refine ag hJ ?_
  simp only[*,go_sem]
  refine aa hJ ?_
  refine aL hJ fun kj=>?_
  refine ag hJ ?_
  revert h;refine bS fun cd fs h=>?_
  obtain ⟨kk,kl,cf⟩:=cw fs
  obtain ⟨f,ft,fv,fw,ao⟩:=j.e.el _ _ cf
  obtain rfl:ft=cd.cells:=fw
  cases fv
  have fx:=ao 0 _ rfl;simp only[go_sem] at fx
  have fP:=ao 1 _ rfl;simp only[go_sem] at fP
  clear ao cf
  try simp only[*,go_sem]
  refine aa hJ (aa hJ ?_)
  refine aL hJ fun km=>?_
  refine ag hJ ?_
  simp only[*,go_sem]
  revert h;refine jC hJ (by simp only[*,go_sem]) (fun fQ h=>?_) fun fQ h=>?_
  ·refine aL hJ fun kn=>?_
   refine ag hJ ?_
   revert h;refine bS fun cl fS h=>?_
   obtain ⟨kp,ks,cy⟩:=cw fS
   obtain ⟨kt,fU,gg,gl,cS⟩:=t.el _ _ cy
   obtain rfl:fU=[.int .i64 cl]:=gl
   cases gg
   have gn:=cS 0 _ rfl;simp only[go_sem] at gn
   clear cS cy
   try simp only[*,go_sem]
   refine aa hJ ?_
   refine aL hJ fun kv=>?_
   refine ag hJ ?_
   simp only[*,go_sem]
   refine aU hJ ?_
   revert h;refine bS fun gp S gB=>?_
   refine bX hJ [5,9,33,34,35,36,37,38,39,40,41,42,43,44,45] (fun m w F'=>∃(H:Addr->Option Value) (d75:Option Addr) (M:Nat) (k:List (Nat×Obj)) (B:(List (List Int))) (g:Int),bg (wC u0 R) m (B,g)=some gp/\F'=⟨H,(d,bl u0 (sl (some f) u0.aj c4) a b c)::k⟩/\Ext y H/\aW (rL rI) H 64 (.slice d75 B.length M) B k/\B.length<=M/\slot w 5= .slice d75 B.length M/\slot w 9= .int .i64 g) fu ?_ ?_
   ·refine ⟨y,d38,G,K,z,(IntKind.i64.wrap (cl+1)),S,rfl,Ext.refl _,Z,b1,?_⟩
    simp only[*,go_sem]
   rintro ar gC F' a0 ⟨H,d75,M,k,B,g,S,rfl,T,N,gM,kx,ky⟩
   refine gb hJ fun _ c0=>?_
   replace t:=t.mono T
   replace j:=j.mono T
   replace u:=c0.hd
   simp only[bf] at c0
   obtain ⟨gT,gV,g0⟩:=a0.pick [2,4,7,8,10,11,12,13,15,16,17,18,21,22,23,24,25,26,27,28,30,31,32] (by decide)
   simp only[*,go_sem] at gT gV g0
   have k0:dB [5,7,8,9,12,13,14,15,16,17,18,19,20,21,22,23,24,25,26,27,28,29,30,31,32,33,34,35,36,37,38,39,40,41,42,43,44,45,46] gC bz:=(a0.jD (by decide)).trans (by simp only[*,go_sem])
   clear a0 ab ad ae b3 b2
   obtain _|ar:=ar
   ·exact absurd S (by simp only[bg,reduceCtorEq,not_false_eq_true])
   revert S;refine bS fun k2 h a2=>?_
   unfold wC at h
   try dsimp only at h
   refine aa hJ (aa hJ ?_)
   refine aL hJ fun lb=>?_
   refine ag hJ ?_
   revert h;refine bS fun lh g1 h=>?_
   simp only[*,go_sem]
   refine aM hJ _ (sd u0 (j.mono aH) g g1) ?_
   try simp only[*,go_sem]
   revert h;refine jC hJ (by simp only[*,go_sem]) (fun g2 h=>?_) fun g2 h=>?_
   ·refine aF hJ (aa hJ ?_)
    refine aU hJ ?_
    refine aL hJ fun lj=>?_
    refine ag hJ ?_
    revert h;refine bS fun g3 g4 h=>?_
    simp only[*,go_sem]
    refine gK hJ (aP:=[]) [(d,bl u0 (sl (some f) u0.aj c4) a b c)] k _ (A5 R t g4) (fun lk ha da p q hc=>?_)
    simp only[List.append_nil,List.cons_append,List.nil_append,List.append_assoc] at q
    subst p
    obtain ⟨d133,ll,rfl,ln⟩:=da.len
    refine ⟨⟨H,(d,bl u0 (sl (some f) u0.aj c4) a b c)::(ha++k)⟩,Le.refl _,?_⟩
    refine aD ?_
    revert h;refine bS fun U hf h=>?_
    obtain ⟨hg,db⟩:=cT hf
    try simp only[*,go_sem]
    refine ax fun C dd df=>?_;have hh:=aN.cons df hc;try simp only[au] at df
    try simp only[*,go_sem]
    refine dG (r:=rI) (l:=g3) (x:=g) (cs:=#[.int .i64 g]) (e2:=3) [(C,ic g),(d,bl u0 (sl (some f) u0.aj c4) a b c)] k da hh hg rfl (by simp only[*,go_sem]) dd rfl rfl eK eK iZ jb rfl ja (by decide) (by decide) (fun lo dk a3 p q dp=>?_)
    simp only[List.append_nil,List.cons_append,List.nil_append,List.append_assoc] at q
    subst p
    rw[<-db] at a3;clear db
    obtain ⟨d145,a4,rfl,lr⟩:=a3.len
    obtain ⟨a5,V,a6,dq,hi⟩:=a3.eB [(C,ic g),(d,bl u0 (sl (some f) u0.aj c4) a b c)] k dp (aA.cons dd (aA.cons u (N.jE)))
    have hj:=aN.sub (l:=(C,ic g)::(d,bl u0 (sl (some f) u0.aj c4) a b c)::k) (l':=(C,ic g)::(d,bl u0 (sl (some f) u0.aj c4) a b c)::(dk++k)) [(C,ic g),(d,bl u0 (sl (some f) u0.aj c4) a b c)] dk k (by first|rfl|simp only[List.append_nil,List.cons_append,List.nil_append,List.append_assoc]|(simp only[List.append_nil,List.cons_append,List.nil_append,List.append_assoc];rfl)) (by first|rfl|simp only[List.append_nil,List.cons_append,List.nil_append,List.append_assoc]|(simp only[List.append_nil,List.cons_append,List.nil_append,List.append_assoc];rfl)) dp
    refine ⟨⟨a5,(C,ic g)::(d,bl u0 (sl (some f) u0.aj c4) a b c)::k⟩,hi,?_⟩
    obtain ⟨lv,lx,-⟩:=dq.op
    replace t:=t.mono V
    replace j:=j.mono V
    replace u:=a6.tl.hd
    replace N:=N.mono V a6.tl.tl
    simp only[bf] at a6
    refine aD ?_
    revert h;refine bS fun hk hl h=>?_
    obtain rfl:=sI h
    obtain ⟨hn,ds⟩:=cT hl
    try simp only[*,go_sem]
    refine ax fun dt ho du=>?_;have hp:=aN.cons du hj;try simp only[au] at du
    try simp only[*,go_sem]
    refine dG (r:=(rL rI)) (l:=B) (x:=U) (cs:=#[.slice d145 U.length a4]) (e2:=64) [(dt,.cells #[.slice d145 U.length a4] 64),(C,ic g),(d,bl u0 (sl (some f) u0.aj c4) a b c)] [] N hp hn ⟨_,rfl,dq⟩ (by simp only[*,go_sem]) ho rfl rfl lz lz rP rR rfl rQ (by decide) (by decide) (fun ly dv a7 p q lL=>?_)
    simp only[List.append_nil,List.cons_append,List.nil_append,List.append_assoc] at q
    subst p
    rw[<-ds] at a7;clear ds
    obtain ⟨d165,hq,rfl,hr⟩:=a7.len
    refine ⟨⟨a5,(dt,.cells #[.slice d145 U.length a4] 64)::(C,ic g)::(d,bl u0 (sl (some f) u0.aj c4) a b c)::dv⟩,Le.refl _,?_⟩
    refine aD ?_
    try simp only[*,go_sem]
    refine aL hJ fun l1=>?_
    refine ag hJ ?_
    simp only[*,go_sem]
    refine ⟨ar,Nat.lt_succ_self _,_,Le.sub (List.Sublist.cons _ (List.Sublist.cons _ (List.Sublist.refl _))),a5,d165,hq,dv,hk,(IntKind.i64.wrap (g+1)),a2,rfl,(T.trans V),a7,hr,?_⟩
    simp only[*,go_sem]
   obtain rfl:=sI h
   refine bU ?_
   simp only[go_sem]
   obtain rfl:=sI a2;clear a2
   have h:=gB
   dsimp only[aG] at h
   obtain rfl:=sI h
   have ht:=cm (n:=i47) (by have:=bs;omega)
   refine ag hJ ?_
   simp only[*,go_sem]
   refine ⟨s.length - (i47+1),by omega,_,Le.sub (List.Sublist.refl _),i47+1,H,d75,M,k,B,rfl,by omega,ca,rfl,(L.trans T),N,gM,?_⟩
   simp only[*,go_sem]
  refine aF hJ (aa hJ ?_)
  refine aL hJ fun l2=>?_
  refine ag hJ ?_
  simp only[*,go_sem]
  refine aU hJ ?_
  revert h;refine bS fun hv W hx=>?_
  refine bX hJ [5,9,33,34,35,36,37,38,39,40,41,42,43,44,45] (fun m w F'=>∃(I:Addr->Option Value) (d172:Option Addr) (O:Nat) (o:List (Nat×Obj)) (D:(List (List Int))) (i:Int),bg (wD u0 R) m (D,i)=some hv/\F'=⟨I,(d,bl u0 (sl (some f) u0.aj c4) a b c)::o⟩/\Ext y I/\aW (rL rI) I 64 (.slice d172 D.length O) D o/\D.length<=O/\slot w 5= .slice d172 D.length O/\slot w 9= .int .i64 i) fu ?_ ?_
  ·refine ⟨y,d38,G,K,z,cd.an,W,rfl,Ext.refl _,Z,b1,?_⟩
   simp only[*,go_sem]
  rintro a8 hy F' a9 ⟨I,d172,O,o,D,i,W,rfl,X,P,hz,l3,l4⟩
  refine gb hJ fun _ dC=>?_
  replace t:=t.mono X
  replace j:=j.mono X
  replace u:=dC.hd
  simp only[bf] at dC
  obtain ⟨hA,hB,hD⟩:=a9.pick [2,4,7,8,10,11,12,13,15,16,17,18,21,22,23,24,32] (by decide)
  simp only[*,go_sem] at hA hB hD
  have ma:dB [5,7,8,9,12,13,14,15,16,17,18,19,20,21,22,23,24,25,26,27,28,29,30,31,32,33,34,35,36,37,38,39,40,41,42,43,44,45,46] hy bz:=(a9.jD (by decide)).trans (by simp only[*,go_sem])
  clear a9 ab ad ae b3 b2
  obtain _|a8:=a8
  ·exact absurd W (by simp only[bg,reduceCtorEq,not_false_eq_true])
  revert W;refine bS fun mf h ba=>?_
  unfold wD at h
  try dsimp only at h
  refine aa hJ (aa hJ ?_)
  refine aL hJ fun mi=>?_
  refine ag hJ ?_
  revert h;refine bS fun ml hE h=>?_
  simp only[*,go_sem]
  refine aM hJ _ (sd u0 (j.mono aH) i hE) ?_
  try simp only[*,go_sem]
  revert h;refine jC hJ (by simp only[*,go_sem]) (fun hF h=>?_) fun hF h=>?_
  ·refine aF hJ (aa hJ ?_)
   refine aU hJ ?_
   refine aL hJ fun mn=>?_
   refine ag hJ ?_
   revert h;refine bS fun hG hI h=>?_
   simp only[*,go_sem]
   refine gK hJ (aP:=[]) [(d,bl u0 (sl (some f) u0.aj c4) a b c)] o _ (A5 R t hI) (fun mr hK dE p q hL=>?_)
   simp only[List.append_nil,List.cons_append,List.nil_append,List.append_assoc] at q
   subst p
   obtain ⟨mx,my,rfl,m1⟩:=dE.len
   refine ⟨⟨I,(d,bl u0 (sl (some f) u0.aj c4) a b c)::(hK++o)⟩,Le.refl _,?_⟩
   refine aD ?_
   revert h;refine bS fun Y hM h=>?_
   obtain ⟨hN,dT⟩:=cT hM
   try simp only[*,go_sem]
   refine ax fun E ea eb=>?_;have hP:=aN.cons eb hL;try simp only[au] at eb
   try simp only[*,go_sem]
   refine dG (r:=rI) (l:=hG) (x:=i) (cs:=#[.int .i64 i]) (e2:=3) [(E,ic i),(d,bl u0 (sl (some f) u0.aj c4) a b c)] o dE hP hN rfl (by simp only[*,go_sem]) ea rfl rfl eK eK iZ jb rfl ja (by decide) (by decide) (fun m2 ec bb p q ed=>?_)
   simp only[List.append_nil,List.cons_append,List.nil_append,List.append_assoc] at q
   subst p
   rw[<-dT] at bb;clear dT
   obtain ⟨bc,bd,rfl,na⟩:=bb.len
   obtain ⟨bj,eh,bk,et,hQ⟩:=bb.eB [(E,ic i),(d,bl u0 (sl (some f) u0.aj c4) a b c)] o ed (aA.cons ea (aA.cons u (P.jE)))
   have hR:=aN.sub (l:=(E,ic i)::(d,bl u0 (sl (some f) u0.aj c4) a b c)::o) (l':=(E,ic i)::(d,bl u0 (sl (some f) u0.aj c4) a b c)::(ec++o)) [(E,ic i),(d,bl u0 (sl (some f) u0.aj c4) a b c)] ec o (by first|rfl|simp only[List.append_nil,List.cons_append,List.nil_append,List.append_assoc]|(simp only[List.append_nil,List.cons_append,List.nil_append,List.append_assoc];rfl)) (by first|rfl|simp only[List.append_nil,List.cons_append,List.nil_append,List.append_assoc]|(simp only[List.append_nil,List.cons_append,List.nil_append,List.append_assoc];rfl)) ed
   refine ⟨⟨bj,(E,ic i)::(d,bl u0 (sl (some f) u0.aj c4) a b c)::o⟩,hQ,?_⟩
   obtain ⟨nb,nd,-⟩:=et.op
   replace u:=bk.tl.hd
   replace P:=P.mono eh bk.tl.tl
   simp only[bf] at bk
   refine aD ?_
   revert h;refine bS fun hS hT h=>?_
   obtain rfl:=sI h
   obtain ⟨hV,ev⟩:=cT hT
   try simp only[*,go_sem]
   refine ax fun eQ hX eS=>?_;have hY:=aN.cons eS hR;try simp only[au] at eS
   try simp only[*,go_sem]
   refine dG (r:=(rL rI)) (l:=D) (x:=Y) (cs:=#[.slice bc Y.length bd]) (e2:=64) [(eQ,.cells #[.slice bc Y.length bd] 64),(E,ic i),(d,bl u0 (sl (some f) u0.aj c4) a b c)] [] P hY hV ⟨_,rfl,et⟩ (by simp only[*,go_sem]) hX rfl rfl lz lz rP rR rfl rQ (by decide) (by decide) (fun nf e0 bm p q nm=>?_)
   simp only[List.append_nil,List.cons_append,List.nil_append,List.append_assoc] at q
   subst p
   rw[<-ev] at bm;clear ev
   obtain ⟨hZ,h0,rfl,h1⟩:=bm.len
   refine ⟨⟨bj,(eQ,.cells #[.slice bc Y.length bd] 64)::(E,ic i)::(d,bl u0 (sl (some f) u0.aj c4) a b c)::e0⟩,Le.refl _,?_⟩
   refine aD ?_
   try simp only[*,go_sem]
   refine aL hJ fun nn=>?_
   refine ag hJ ?_
   simp only[*,go_sem]
   refine ⟨a8,Nat.lt_succ_self _,_,Le.sub (List.Sublist.cons _ (List.Sublist.cons _ (List.Sublist.refl _))),bj,hZ,h0,e0,hS,(IntKind.i64.wrap (i+1)),ba,rfl,(X.trans eh),bm,h1,?_⟩
   simp only[*,go_sem]
  obtain rfl:=sI h
  refine bU ?_
  simp only[go_sem]
  obtain rfl:=sI ba;clear ba
  have h:=hx
  dsimp only[aG] at h
  obtain rfl:=sI h
  have ht:=cm (n:=i47) (by have:=bs;omega)
  refine ag hJ ?_
  simp only[*,go_sem]
  refine ⟨s.length - (i47+1),by omega,_,Le.sub (List.Sublist.refl _),i47+1,I,d172,O,o,D,rfl,by omega,ca,rfl,(L.trans X),P,hz,?_⟩
  simp only[*,go_sem]
 have np:=Nat.not_lt.2 b5
 refine bL hJ (by simp only[*,go_sem]) ?_
 rw[List.drop_eq_nil_of_le b5] at F
 obtain rfl:=sI F;clear F
 have h:=fi
 dsimp only[aG] at h
 obtain rfl:=sI h
 refine bU ?_
 simp only[go_sem]
 refine aa hJ ?_
 refine aL hJ fun ns=>?_
 refine ag hJ ?_
 simp only[*,go_sem]
 refine aL hJ fun e1=>?_
 obtain ⟨nx,h2,h3,e3,h4⟩:=Z.eB [(d,bl u0 (sl d3 u0.aj c4) a b c)] [] e1 (aA.cons u (aA.nil _))
 clear e1
 refine cH hJ h4 ?_
 obtain ⟨nz,nA,-⟩:=e3.op
 simp only[bf] at h3
 refine ay ?_
 simp only[*,go_sem]
 exact ⟨_,(L).trans h2,Le.sub (List.nil_sublist _),_,rfl,e3⟩
def ot (u0:Int):Option Bool:=
 some (u0 != u0)
theorem sU {ro:Addr->Option Value}(u0:Int){r:Bool}(h:ot u0=some r):aC Tryz.prog 129 #[.int .i64 u0] ⟨ro,[]⟩ (fun v _=>v= .bool r):=by
 unfold ot at h
 obtain rfl:=sI h
 refine aC.go Tryz.func129 rfl Tryz.ntmps129 Tryz.results129 (by simp) fun main J hJ A a hd hs=>?_
 have b:=hs 0
 clear hs
 refine aa hJ (ag hJ ?_)
 simp only[*,go_sem]
 refine aa hJ (ag hJ ?_)
 simp only[*,go_sem]
 refine ay ?_
 simp only[*,go_sem]
def wF (u0:Int)(a:Int):Option Bool:=
 ah (ot u0) fun b=>cond (b) (ah (ot a) fun c=>cond (!c) (some true) (some (decide (u0<a)))) (some (decide (u0<a)))
theorem GA {ro:Addr->Option Value}(u0:Int)(a:Int){r:Bool}(h:wF u0 a=some r):aC Tryz.prog 161 #[.int .i64 u0,.int .i64 a] ⟨ro,[]⟩ (fun v _=>v= .bool r):=by
 unfold wF at h
 refine aC.go Tryz.func161 rfl Tryz.ntmps161 Tryz.results161 (by simp) fun main J hJ A f hd hs=>?_
 have g:=hs 0
 have k1:=hs 1
 clear hs
 refine aa hJ (ag hJ ?_)
 simp only[*,go_sem]
 refine aa hJ (ag hJ ?_)
 revert h;refine bS fun i b h=>?_
 simp only[*,go_sem]
 refine aM hJ _ (sU u0 b) (aD ?_)
 revert h;refine cS (fun c h=>?_) fun c h=>?_
 ·revert h;refine bS fun j d h=>?_
  try simp only[*,go_sem]
  refine aM hJ _ (sU a d) (aD ?_)
  revert h;refine cS (fun e h=>?_) fun e h=>?_
  ·obtain rfl:=sI h
   try simp only[*,go_sem]
   refine ay ?_
   simp only[*,go_sem]
  obtain rfl:=sI h
  try simp only[*,go_sem]
  refine ay ?_
  simp only[*,go_sem]
 obtain rfl:=sI h
 try simp only[*,go_sem]
 refine ay ?_
 simp only[*,go_sem]
def wG (c:Int)(st:(Int×(List Int))):Option (Fl (Int×(List Int)) (Unit×(List Int))):=
 cond (decide (c<st.1)) (ah (bw st.2 st.1) fun b=>ah (bw st.2 (IntKind.i64.wrap (st.1 - 1))) fun a=>ah (wF b a) fun d=>cond (d) (ah (bw (st.2.set (st.1).toNat a) (IntKind.i64.wrap (st.1 - 1))) fun e=>some (.nx ((IntKind.i64.wrap (st.1 - 1)),((st.2.set (st.1).toNat a).set (IntKind.i64.wrap (st.1 - 1)).toNat b)))) (some (.bk (st.1,st.2)))) (some (.bk (st.1,st.2)))
def wH (a:Int)(b:Int)(st:(Int×(List Int))):Option (Fl (Int×(List Int)) (Unit×(List Int))):=
 cond (decide (st.1<b)) (ah (bg (wG a) fu (st.1,st.2)) fun o=>aG o (fun c=>some (.nx ((IntKind.i64.wrap (st.1+1)),c.2))) (fun _ _=>none) (fun r=>some (.rt r))) (some (.bk (st.1,st.2)))
def wI (u0:(List Int))(a:Int)(b:Int):Option (Unit×(List Int)):=
 cond (List.isEmpty u0) none (ah (bg (wH a b) fu ((IntKind.i64.wrap (a+1)),u0)) fun o=>aG o (fun c=>some ((),c.2)) (fun _ _=>none) (fun r=>some r))
theorem GB {ro:Addr->Option Value}(u0:(List Int)){w:Value}{K:List (Nat×Obj)}(x:aW rI ro 3 w u0 K)(k:Int)(z:Int){r:(Unit×(List Int))}(h:wI u0 k z=some r):aC Tryz.prog 155 #[w,.int .i64 k,.int .i64 z] ⟨ro,K⟩ (fun v G=>∃L,(v= .tuple #[]/\aW rI ro 3 w r.2 L)/\Le ⟨ro,L⟩ G):=by
 obtain ⟨d1,c2,rfl,b4⟩:=x.len
 unfold wI at h
 revert h;refine cS (fun M h=>?_) fun M h=>?_
 ·cases h
 obtain ⟨b,ab,rfl,rfl,b5⟩:=x.vN M
 refine aC.go Tryz.func155 rfl Tryz.ntmps155 Tryz.results155 (by simp) fun main J hJ A ad hd hs=>?_
 have ae:=hs 0
 have k1:=hs 1
 have al:=hs 2
 clear hs
 refine aa hJ ?_
 refine aL hJ fun ca=>?_
 refine ag hJ ?_
 simp only[*,go_sem]
 refine aU hJ ?_
 revert h;refine bS fun ao n ar=>?_
 refine bX hJ [6,7,10,11,12,13,14,15,16,17,18,19,20,21,22,23,24,25,26,27,28,29,30,31,32,33,34,35,36,37,38,39,40,41,42,43,44,45,46,47,48] (fun m B F'=>∃(p:Array Value) (j:Int) (q:(List Int)),bg (wH k z) m (j,q)=some ao/\F'=⟨ro,[(b,Obj.cells p 3)]⟩/\aW rI ro 3 (.slice (some ⟨b,0,none⟩) u0.length c2) q [(b,Obj.cells p 3)]/\slot B 6= .int .i64 j) fu ?_ ?_
 ·refine ⟨ab,(IntKind.i64.wrap (k+1)),u0,n,rfl,x,?_⟩
  simp only[*,go_sem]
 rintro s a0 F' N ⟨p,j,q,n,rfl,O,a2⟩
 obtain ⟨P,Q,R⟩:=N.pick [0,1,2] (by decide)
 simp only[*,go_sem] at P Q R
 clear N ad hd ae k1 al
 obtain _|s:=s
 ·exact absurd n (by simp only[bg,reduceCtorEq,not_false_eq_true])
 revert n;refine bS fun cb h t=>?_
 unfold wH at h
 try dsimp only at h
 refine aa hJ (aa hJ ?_)
 refine aL hJ fun cd=>?_
 refine ag hJ ?_
 simp only[*,go_sem]
 revert h;refine jC hJ (by simp only[*,go_sem]) (fun a3 h=>?_) fun a3 h=>?_
 ·refine aF hJ (aa hJ ?_)
  refine aU hJ (aa hJ ?_)
  refine aL hJ fun cf=>?_
  refine ag hJ ?_
  simp only[*,go_sem]
  refine aU hJ ?_
  revert h;refine bS fun a4 u S=>?_
  refine bX hJ [7,16,17,18,19,20,21,22,23,24,25,26,27,28,29,30,31,32,33,34,35,36,37,38,39,40,41,42,43,44,45,46,47,48] (fun m B F'=>∃(d:Array Value) (a:Int) (e:(List Int)),bg (wG k) m (a,e)=some a4/\F'=⟨ro,[(b,Obj.cells d 3)]⟩/\aW rI ro 3 (.slice (some ⟨b,0,none⟩) u0.length c2) e [(b,Obj.cells d 3)]/\slot B 7= .int .i64 a) fu ?_ ?_
  ·refine ⟨p,j,q,u,rfl,O,?_⟩
   simp only[*,go_sem]
  rintro C a5 F' D ⟨d,a,e,u,rfl,g,cl⟩
  obtain ⟨a6,a7,a8⟩:=D.pick [0,1,2,6,10,11,12,15] (by decide)
  simp only[*,go_sem] at a6 a7 a8
  have cy:dB [6,7,10,11,12,13,14,15,16,17,18,19,20,21,22,23,24,25,26,27,28,29,30,31,32,33,34,35,36,37,38,39,40,41,42,43,44,45,46,47,48] a5 a0:=(D.jD (by decide)).trans (by simp only[*,go_sem])
  clear D P Q R a2
  obtain _|C:=C
  ·exact absurd u (by simp only[bg,reduceCtorEq,not_false_eq_true])
  revert u;refine bS fun c0 h l=>?_
  unfold wG at h
  try dsimp only at h
  refine aa hJ (aa hJ ?_)
  refine aL hJ fun da=>?_
  refine cY hJ mixed 15 1 (by simp only[*,go_sem]) (by kernel_rfl) ?_
  revert h;refine cS (fun a9 h=>?_) fun a9 h=>?_
  ·revert h;refine bS fun f ba h=>?_
   obtain ⟨db,dd,T⟩:=cw ba
   have df:a<((u0.length:Nat):Int):=by have:=g.count;omega
   obtain ⟨bb,bc,bd⟩:=g.lC T
   obtain rfl:bb=[.int .i64 f]:=bc
   have U:=bd 0 _ rfl;simp only[go_sem] at U;have dk:=(Array.getElem?_eq_some_iff.1 U).1
   revert h;refine bS fun c bj h=>?_
   obtain ⟨dp,dq,bk⟩:=cw bj
   have ds:IntKind.i64.wrap (a - 1)<((u0.length:Nat):Int):=by have:=g.count;omega
   obtain ⟨bl,bm,bo⟩:=g.lC bk
   obtain rfl:bl=[.int .i64 c]:=bm
   have V:=bo 0 _ rfl;simp only[go_sem] at V;have dt:=(Array.getElem?_eq_some_iff.1 V).1
   revert h;refine bS fun du br h=>?_
   try simp only[*,go_sem]
   refine ⟨_,bE hJ fun F dv=>GA f c br,b9 ?_⟩
   try simp only[*,go_sem]
   revert h;refine jC hJ (by simp only[*,go_sem]) (fun bs h=>?_) fun bs h=>?_
   ·refine aF hJ (aa hJ ?_)
    refine aU hJ ?_
    refine aL hJ fun dC=>?_
    refine fN hJ mixed [15,16,17] (.pure 0 (.pure 1 (.pure 2 (.pure 3 (.pure 4 (.pure 5 (.pure 6 (.pure 7 (.pure 8 (.rd 9 (.pure 10 (.pure 11 (.pure 12 (.rd 13 (.pure 14 (.last 15 (.pure 16 (.last 17 .done)))))))))))))))))) ⟨ro,[(b,Obj.cells d 3)]⟩ (by simp only[*,go_sem]) (by kernel_rfl) ?_
    have E:aW rI ro 3 (.slice (some ⟨b,0,none⟩) u0.length c2) (e.set (a).toNat c) [(b,Obj.cells (dP d (a).toNat [.int .i64 c]) 3)]:=by have H:=g.vM (i:=(a).toNat) (y:=c) (by have:=T;have:=(List.getElem?_eq_some_iff.1 this).1;simpa only[List.length_set] using this) (cs:=[.int .i64 c]) rfl;simpa only[r7,vZ,Nat.mul_one,Nat.add_zero] using H
    revert h;refine bS fun bz b0 h=>?_
    obtain rfl:=sI h
    obtain ⟨dE,dT,W⟩:=cw b0
    have ea:IntKind.i64.wrap (a - 1)<((u0.length:Nat):Int):=by have:=E.count;omega
    obtain ⟨b1,b2,b3⟩:=E.lC W
    obtain rfl:b1=[.int .i64 bz]:=b2
    have X:=b3 0 _ rfl;simp only[go_sem] at X;have eb:=(Array.getElem?_eq_some_iff.1 X).1
    have Y:aW rI ro 3 (.slice (some ⟨b,0,none⟩) u0.length c2) ((e.set (a).toNat c).set (IntKind.i64.wrap (a - 1)).toNat f) [(b,Obj.cells (dP (dP d (a).toNat [.int .i64 c]) (IntKind.i64.wrap (a - 1)).toNat [.int .i64 f]) 3)]:=by have H:=E.vM (i:=(IntKind.i64.wrap (a - 1)).toNat) (y:=f) (by have:=W;have:=(List.getElem?_eq_some_iff.1 this).1;simpa only[List.length_set] using this) (cs:=[.int .i64 f]) rfl;simpa only[r7,vZ,Nat.mul_one,Nat.add_zero] using H
    try simp only[*,go_sem]
    obtain ⟨Z,I⟩:∃o,o=(dP (dP d (a).toNat [.int .i64 c]) (IntKind.i64.wrap (a - 1)).toNat [.int .i64 f]):=⟨_,rfl⟩
    refine cH (F:=⟨ro,[(b,Obj.cells Z 3)]⟩) hJ (by rw[I];exact Le.refl _) ?_
    rw[<-I] at Y
    clear I
    refine aL hJ fun ec=>?_
    refine ag hJ ?_
    simp only[*,go_sem]
    refine ⟨C,Nat.lt_succ_self _,_,Le.sub (List.Sublist.refl _),Z,(IntKind.i64.wrap (a - 1)),((e.set (a).toNat c).set (IntKind.i64.wrap (a - 1)).toNat f),l,rfl,Y,?_⟩
    simp only[*,go_sem]
   obtain rfl:=sI h
   refine bU ?_
   simp only[go_sem]
   obtain rfl:=sI l;clear l
   have h:=S
   dsimp only[aG] at h
   obtain rfl:=sI h
   refine aL hJ fun ed=>?_
   refine ag hJ ?_
   simp only[*,go_sem]
   refine ⟨s,Nat.lt_succ_self _,_,Le.sub (List.Sublist.refl _),d,(IntKind.i64.wrap (j+1)),e,t,rfl,g,?_⟩
   simp only[*,go_sem]
  obtain rfl:=sI h
  try simp only[*,go_sem]
  refine bL hJ (by simp only[*,go_sem]) ?_
  refine bU ?_
  simp only[go_sem]
  obtain rfl:=sI l;clear l
  have h:=S
  dsimp only[aG] at h
  obtain rfl:=sI h
  refine aL hJ fun eh=>?_
  refine ag hJ ?_
  simp only[*,go_sem]
  refine ⟨s,Nat.lt_succ_self _,_,Le.sub (List.Sublist.refl _),d,(IntKind.i64.wrap (j+1)),e,t,rfl,g,?_⟩
  simp only[*,go_sem]
 obtain rfl:=sI h
 refine bU ?_
 simp only[go_sem]
 obtain rfl:=sI t;clear t
 have h:=ar
 dsimp only[aG] at h
 obtain rfl:=sI h
 simp only[*,go_sem]
 exact ⟨_,O,Le.sub (List.Sublist.refl _)⟩
def wJ (u0:(List Int))(st:(Int×Int×Int×Bool×Bool)):Option (Fl (Int×Int×Int×Bool×Bool) (Unit×(List Int))):=
 cond (decide ((IntKind.i64.wrap (st.2.1 - st.1))<=12)) (ah (wI u0 st.1 st.2.1) fun a=>some (.rt ((),a.2))) (none)
def wK (u0:(List Int))(a:Int)(b:Int)(c:Int):Option (Unit×(List Int)):=
 cond (List.isEmpty u0) none (ah (bg (wJ u0) fu (a,b,c,true,true)) fun o=>aG o (fun d=>some ((),u0)) (fun _ _=>none) (fun r=>some r))
theorem GC {ro:Addr->Option Value}(u0:(List Int)){f:Value}{p:List (Nat×Obj)}(g:aW rI ro 3 f u0 p)(i:Int)(j:Int)(k:Int){r:(Unit×(List Int))}(h:wK u0 i j k=some r):aC Tryz.prog 130 #[f,.int .i64 i,.int .i64 j,.int .i64 k] ⟨ro,p⟩ (fun v G=>∃b,(v= .tuple #[]/\aW rI ro 3 f r.2 b)/\Le ⟨ro,b⟩ G):=by
 obtain ⟨d1,c2,rfl,Q⟩:=g.len
 unfold wK at h
 revert h;refine cS (fun q h=>?_) fun q h=>?_
 ·cases h
 obtain ⟨s,y,rfl,rfl,R⟩:=g.vN q
 refine aC.go Tryz.func130 rfl Tryz.ntmps130 Tryz.results130 (by simp) fun main J hJ A z hd hs=>?_
 have B:=hs 0
 have k1:=hs 1
 have C:=hs 2
 have D:=hs 3
 clear hs
 refine aa hJ ?_
 refine aL hJ fun S=>?_
 refine ag hJ ?_
 simp only[*,go_sem]
 refine aa hJ ?_
 refine aL hJ fun T=>?_
 refine ag hJ ?_
 simp only[*,go_sem]
 refine aU hJ ?_
 revert h;refine bS fun E c F=>?_
 refine bX hJ [1,2,3,8,9,10,11,12,13,14,15,16,17,18,19,20,21,22,23,24,25,26,27,28,29,30,31,32,33,34,35,36,37,38,39,40,41,42,43,44,45,46,47,48,49,50,51,52,53,54,55,56,57,58,59,60,61,62,63,64,65,66,67,68,69,70,71,72,73,74,75,76,77,78,79,80,81,82,83,84,85,86,87,88,89,90,91,92,93,94,95,96,97,98,99,100,101,102,103,104,105,106,107,108,109,110,111,112,113,114,115,116,117,118,119,120,121,122,123,124,125,126,127,128,129,130,131,132,133] (fun m a F'=>∃(d:Int) (e:Int) (l:Int) (n:Bool) (o:Bool),bg (wJ u0) m (d,e,l,n,o)=some E/\F'=⟨ro,[(s,Obj.cells y 3)]⟩/\slot a 1= .int .i64 d/\slot a 2= .int .i64 e/\slot a 3= .int .i64 l/\slot a 8= .bool n/\slot a 9= .bool o) fu ?_ ?_
 ·refine ⟨i,j,k,true,true,c,rfl,?_⟩
  simp only[*,go_sem]
 rintro t U F' u ⟨d,e,l,n,o,c,rfl,V,W,X,Y,Z⟩
 obtain ⟨H,I,K⟩:=u.pick [0] (by decide)
 simp only[*,go_sem] at H I K
 clear u z hd B k1 C D
 obtain _|t:=t
 ·exact absurd c (by simp only[bg,reduceCtorEq,not_false_eq_true])
 revert c;refine bS fun ab h w=>?_
 unfold wJ at h
 try dsimp only at h
 refine aU hJ (aa hJ ?_)
 refine aL hJ fun ad=>?_
 refine ag hJ ?_
 simp only[*,go_sem]
 refine aa hJ (aa hJ ?_)
 refine aL hJ fun ae=>?_
 refine ag hJ ?_
 simp only[*,go_sem]
 revert h;refine jC hJ (by simp only[*,go_sem]) (fun L h=>?_) fun L h=>?_
 ·refine aa hJ ?_
  refine aL hJ fun al=>?_
  refine ag hJ ?_
  revert h;refine bS fun ao M h=>?_
  obtain rfl:=sI h
  simp only[*,go_sem]
  refine gK hJ [] [] _ (GB u0 g d e M) (fun ar a0 N b O a2=>?_)
  obtain ⟨rfl,x⟩:=N
  obtain ⟨P,rfl⟩:=x.Fh
  simp only[List.append_nil,List.cons_append,List.nil_append,List.append_assoc] at O
  subst b
  refine ⟨⟨ro,[(s,Obj.cells P 3)]⟩,Le.refl _,?_⟩
  try simp only[*,go_sem]
  obtain rfl:=sI w;clear w
  have h:=F
  dsimp only[aG] at h
  obtain rfl:=sI h
  refine ay ?_
  simp only[*,go_sem]
  exact ⟨_,x,Le.sub (List.Sublist.refl _)⟩
 cases h
theorem GD {ro:Addr->Option Value}(n:Int)(h0:0<=n)(h1:n<256):aC Tryz.prog 165 #[.int .u64 n] ⟨ro,[]⟩ (fun v _=>∃k:Int,v= .int .i64 k):=by
 refine aC.go Tryz.func165 rfl Tryz.ntmps165 Tryz.results165 (by simp) fun main J hJ A c hd hs=>?_
 have d:=hs 0
 clear hs
 have a1:¬(4294967296:Int)<=n:=by omega
 have a2:¬(65536:Int)<=n:=by omega
 have a3:¬(256:Int)<=n:=by omega
 have e:Tryz.prog.underlying 169=some (.int .u64):=by kernel_rfl
 have f:Tryz.prog.underlying 5=some (.int .u8):=by kernel_rfl
 have g:Tryz.prog.underlying 3=some (.int .i64):=by kernel_rfl
 have h:Tryz.prog.underlying 9=some .string:=by kernel_rfl
 have a4:IntKind.u8.wrap n=n:=IntWalk.u8_in n ⟨h0,by omega⟩
 repeat refine aa hJ ?_
 refine ag hJ ?_
 simp only[*,go_sem]
 repeat refine aa hJ ?_
 refine ag hJ ?_
 simp only[*,go_sem]
 repeat refine aa hJ ?_
 refine bL hJ (by simp only[*,go_sem,ge_iff_le]) ?_
 refine aF hJ ?_
 repeat refine aa hJ ?_
 refine ag hJ ?_
 simp only[*,go_sem]
 repeat refine aa hJ ?_
 refine bL hJ (by simp only[*,go_sem,ge_iff_le]) ?_
 refine aF hJ ?_
 repeat refine aa hJ ?_
 refine ag hJ ?_
 simp only[*,go_sem]
 repeat refine aa hJ ?_
 refine bL hJ (by simp only[*,go_sem,ge_iff_le]) ?_
 refine aF hJ ?_
 repeat refine aa hJ ?_
 refine ag hJ ?_
 simp only[*,go_sem]
 generalize a:ByteArray.mk _=S
 have i:S.size=256:=by rw[<-a];rfl
 have b:n.toNat<S.size:=by omega
 have hb:S[n.toNat]?=some S[n.toNat]:=by simp[b]
 simp only[hb,Option.map_some]
 refine ay ?_
 simp only[*,go_sem]
 exact ⟨_,rfl⟩
theorem GF {ro:Addr->Option Value}(n:Int)(h0:0<=n)(h1:n<256):aC Tryz.prog 131 #[.int .u64 n] ⟨ro,[]⟩ (fun v _=>∃k:Int,v= .int .i64 k):=by
 refine aC.go Tryz.func131 rfl Tryz.ntmps131 Tryz.results131 (by simp) fun main J hJ A a hd hs=>?_
 have b:=hs 0
 clear hs
 repeat refine aa hJ ?_
 refine ag hJ ?_
 simp only[*,go_sem]
 repeat refine aa hJ ?_
 refine bL hJ (by simp only[*,go_sem]) ?_
 refine aF hJ ?_
 repeat refine aa hJ ?_
 refine ag hJ ?_
 simp only[*,go_sem]
 refine (pG (R:=fun v=>∃k:Int,v= .int .i64 k) (GD n h0 h1) main J hJ).mono ?_
 rintro v F' ⟨⟨k,rfl⟩,rfl⟩
 refine aD ?_
 simp only[*,go_sem]
 refine ay ?_
 simp only[*,go_sem]
 exact ⟨_,rfl⟩
def wL (u0:List Int):Option (Unit×List Int):=if u0.length<256 then wK u0 0 (u0.length:Int) 1 else none
theorem GG {ro:Addr->Option Value}(u0:List Int){a:Value}{aP:List (Nat×Obj)}(hg:aW rI ro 3 a u0 aP){r:Unit×List Int}(h:wL u0=some r):
  aC Tryz.prog 111 #[a] ⟨ro,aP⟩ (fun v G=>∃b,(v= .tuple #[]/\aW rI ro 3 a r.2 b)/\Le ⟨ro,b⟩ G):=by
 obtain ⟨ad,cap,rfl,le⟩:=hg.len
 unfold wL at h
 split at h
 case isFalse=>cases h
 rename_i hlen
 have f:Tryz.prog.underlying 186=some (.int .u64):=by kernel_rfl
 have g:Tryz.prog.underlying 3=some (.int .i64):=by kernel_rfl
 have a1:IntKind.u64.wrap (u0.length:Int)=(u0.length:Int):=IntWalk.u64_in _ ⟨by omega,by omega⟩
 refine aC.go Tryz.func111 rfl Tryz.ntmps111 Tryz.results111 (by simp) fun main J hJ A i hd hs=>?_
 have j:=hs 0
 clear hs
 repeat refine aa hJ ?_
 refine ag hJ ?_
 simp only[*,go_sem,-h]
 repeat refine aa hJ ?_
 refine aL hJ fun nd=>?_
 refine ag hJ ?_
 simp only[*,go_sem,-h]
 refine (pG (R:=fun v=>∃k:Int,v= .int .i64 k) (GF (u0.length:Int) (by omega) (by omega)) main J hJ).mono ?_
 rintro v F' ⟨⟨k,rfl⟩,rfl⟩
 refine aD ?_
 simp only[*,go_sem,-h]
 refine AF hJ [] [] (by simp) _ (GC u0 hg 0 (u0.length:Int) k (r:=r) h) (fun v l d b c m=>?_)
 obtain ⟨rfl,e⟩:=d
 simp only[List.append_nil,List.nil_append] at c
 subst c
 refine ⟨_,Le.refl _,?_⟩
 exact ⟨_,e,Le.refl _⟩
def jM (x:List Int)(j:Nat):Bool:=j==0||x.getD j 0 != x.getD (j - 1) 0
def gw (x:List Int):Nat->List Int
 |0=>[]
 |n+1=>gw x n++cond (jM x n) [x.getD n 0] []
theorem sV (x:List Int):∀n,n<=x.length->(∀j,j<n->jM x j=true)->gw x n=x.take n
 |0,_,_=>by simp[gw]
 |n+1,hn,h=>by
  unfold gw
  rw[sV x n (by omega) (fun j b=>h j (by omega)),h n (by omega),List.take_succ]
  congr 1
  have a:n<x.length:=by omega
  simp[a]
theorem Ba (x:List Int){j:Nat}(h:j<1):jM x j=true:=by
 obtain rfl:j=0:=by omega
 rfl
def wM (u0:List Int):Option (List Int):=cond (List.isEmpty u0) none (some (gw u0 u0.length))
theorem GH {ro:Addr->Option Value}(u0:List Int){Q:Value}{aP:List (Nat×Obj)}(hg:aW rI ro 3 Q u0 aP){r:List Int}(h:wM u0=some r):
  aC Tryz.prog 112 #[Q] ⟨ro,aP⟩ (fun v G=>∃R,aW rI ro 3 v r R/\Le ⟨ro,R⟩ G):=by
 obtain ⟨ad,cap,rfl,le⟩:=hg.len
 unfold wM at h
 have a8:=iX h;clear h;rcases a8 with ⟨S,h⟩|⟨S,h⟩
 ·cases h
 obtain ⟨b,F,rfl,rfl,cy⟩:=hg.vN S
 cases h
 have cS:u0.length<=1000000:=by obtain ⟨_,_,_,h,_⟩:=hg;exact h
 have c0:Tryz.prog.underlying 3=some (.int .i64):=by kernel_rfl
 refine aC.go Tryz.func112 rfl Tryz.ntmps112 Tryz.results112 (by simp) fun main J hJ A a9 hd hs=>?_
 have ba:=hs 0
 clear hs
 repeat refine aa hJ ?_
 refine ag hJ ?_
 simp only[*,go_sem]
 repeat refine aa hJ ?_
 refine ag hJ ?_
 simp only[*,go_sem]
 repeat refine aa hJ ?_
 by_cases h2:u0.length<2
 ·refine bK hJ (by simp only[*,go_sem];simp;omega) ?_
  repeat refine aa hJ ?_
  refine ag hJ ?_
  simp only[*,go_sem]
  refine ay ?_
  simp only[*,go_sem]
  have e:gw u0 u0.length=u0:=by
   rw[sV u0 _ (Nat.le_refl _) (fun j c=>Ba u0 (by omega)),List.take_length]
  rw[e]
  exact ⟨_,hg,Le.refl _⟩
 refine bL hJ (by simp only[*,go_sem];simp;omega) ?_
 refine aF hJ ?_
 repeat refine aa hJ ?_
 refine ag hJ ?_
 simp only[*,go_sem]
 repeat refine aa hJ ?_
 refine aU hJ ?_
 refine bX hJ [3,4,5,10,11,12,13,14,15,16,17,18,19,20,21,22,23,24,25,26,27,28,29,30,31,32,33,34,35,36,37,38,39,40,41,42,43,44,45,46,47,48,49,50,51,52,53,54,55,56,57,58,59] (fun m u F'=>∃k:Nat,1<=k/\k<=u0.length/\u0.length - k<=m/\F'=⟨ro,[(b,Obj.cells F 3)]⟩/\slot u 3= .int .i64 (k:Int)/\∀j,j<k->jM u0 j=true) u0.length ?_ ?_
 ·refine ⟨1,Nat.le_refl _,by omega,by omega,rfl,?_,fun j c=>Ba u0 c⟩
  simp only[*,go_sem]
  rfl
 ·rintro bb g F' B ⟨k,da,T,db,rfl,bc,H⟩
  have bd:sz g=61:=by rw[B.size];simp only[*,go_sem]
  have bj:g.defers=[]:=by rw[B.defers];simp only[*,go_sem]
  have bk:slot g 0= .slice (some ⟨b,0,none⟩) u0.length cap:=by rw[B.fj 0 (by decide)];simp only[*,go_sem]
  clear B a9 hd ba
  repeat refine aa hJ ?_
  repeat refine aa hJ ?_
  refine ag hJ ?_
  simp only[*,go_sem]
  by_cases U:k<u0.length
  ·have hb:decide (((k:Nat):Int)<(u0.length:Int))=true:=decide_eq_true (by omega)
   refine bK hJ (by simp only[*,go_sem]) ?_
   refine aF hJ ?_
   repeat refine aa hJ ?_
   refine aU hJ ?_
   repeat refine aa hJ ?_
   obtain ⟨p,rfl⟩:∃p,k=p+1:=⟨k - 1,by omega⟩
   have hw:IntKind.i64.wrap (((p+1:Nat):Int) - 1)=(p:Int):=by rw[IntWalk.i64_in _ ⟨by omega,by omega⟩];omega
   refine e5 hJ mixed 9 ⟨ro,[(b,Obj.cells F 3)]⟩ (by simp only[*,go_sem]) (by kernel_rfl) ?_
   obtain ⟨l,V⟩:∃x,u0[p+1]?=some x:=⟨u0[p+1],by simp[U]⟩
   obtain ⟨I,K,L⟩:=hg.lC V
   obtain rfl:I=[.int .i64 l]:=K
   have W:=L 0 _ rfl
   simp only[go_sem] at W
   have dd:=(Array.getElem?_eq_some_iff.1 W).1
   obtain ⟨o,X⟩:∃x,u0[p]?=some x:=⟨u0[p],by simp[Nat.lt_of_succ_lt U]⟩
   obtain ⟨M,N,O⟩:=hg.lC X
   obtain rfl:M=[.int .i64 o]:=N
   have Y:=O 0 _ rfl
   simp only[go_sem] at Y
   have df:=(Array.getElem?_eq_some_iff.1 Y).1
   have dk:¬((p+1:Nat):Int)<0:=by omega
   have b2:((p+1:Nat):Int)<(u0.length:Int):=by omega
   have b3:¬(p:Int)<0:=by omega
   have b4:(p:Int)<(u0.length:Int):=by omega
   have b5:(0:Int)<=((p+1:Nat):Int):=by omega
   have dp:(0:Int)<=(p:Int):=by omega
   simp only[*,go_sem]
   have bl:u0.getD (p+1) 0=l:=by rw[List.getD_eq_getElem?_getD,V];rfl
   have bm:u0.getD p 0=o:=by rw[List.getD_eq_getElem?_getD,X];rfl
   have Z:jM u0 (p+1)=(l != o):=by unfold jM;rw[bl,Nat.add_sub_cancel,bm];simp
   clear L O
   by_cases P:l=o
   ·subst P
    refine bK hJ (by simp only[*,go_sem,beq_self_eq_true]) ?_
    repeat refine aa hJ ?_
    refine ag hJ ?_
    have dq:p+1<=u0.length:=T
    have ds:p+1<=cap:=by omega
    have dt:((p+1:Nat):Int)<=(u0.length:Int):=by omega
    have du:u0.length<=cap:=le
    have dv:¬cap=p+1:=by omega
    simp only[*,go_sem]
    have bo:slot g 4=slot g 4:=rfl
    repeat refine aa hJ ?_
    refine ag hJ ?_
    simp only[*,go_sem]
    repeat refine aa hJ ?_
    refine aU hJ ?_
    have e0:gw u0 (p+2)=u0.take (p+1):=by
     show gw u0 (p+1)++cond (jM u0 (p+1)) _ _=_
     rw[Z,sV u0 _ T H];simp
    refine bX hJ [3,5,29,30,31,32,33,34,35,36,37,38,39,40,41,42,43,44,45,46,47,48,49,50,51,52,53] (fun br u F'=>∃(m w:Nat) (arr:Array Value) (x:List Int),1<=m/\m<=u0.length - (p+1)/\u0.length - (p+1) - m<=br/\F'=⟨ro,[(b,Obj.cells arr 3)]⟩/\slot u 5= .int .i64 (m:Int)/\slot u 3= .int .i64 (w:Int)/\
     aW rI ro 3 (.slice (some ⟨b,0,none⟩) u0.length cap) x [(b,.cells arr 3)]/\x.length=u0.length/\(gw u0 (p+(1+m))).length=w/\w<=p+m/\x.take w=gw u0 (p+(1+m))/\∀j,p+m<=j->x[j]?=u0[j]?) u0.length ?_ ?_
    ·refine ⟨1,p+1,F,u0,Nat.le_refl _,by omega,by omega,rfl,?_,?_,hg,rfl,?_,Nat.le_refl _,e0.symm,fun _ _=>rfl⟩
     ·simp only[*,go_sem];rfl
     ·simp only[*,go_sem]
     ·show (gw u0 (p+2)).length=p+1
      rw[e0,List.length_take];omega
    ·rintro ab C F' s ⟨m,w,arr,x,L,O,dC,rfl,dE,dT,d,ae,t,ea,D,E⟩
     have eb:sz C=61:=by rw[s.size];simp only[*,go_sem]
     have ec:C.defers=[]:=by rw[s.defers];simp only[*,go_sem]
     have ed:slot C 0= .slice (some ⟨b,0,none⟩) u0.length cap:=by rw[s.fj 0 (by decide)];simp only[*,go_sem]
     have eh:slot C 4= .slice (some ⟨b,p+1,none⟩) (u0.length - (p+1)) (cap - (p+1)):=by rw[s.fj 4 (by decide)];simp only[*,go_sem]
     clear s bd bj bk bc bo
     repeat refine aa hJ ?_
     refine ag hJ ?_
     simp only[*,go_sem]
     by_cases et:m<u0.length - (p+1)
     ·have bs:decide (((m:Nat):Int)<((u0.length - (p+1):Nat):Int))=true:=decide_eq_true (by omega)
      refine bK hJ (by simp only[*,go_sem]) ?_
      refine aF hJ ?_
      repeat refine aa hJ ?_
      refine aU hJ ?_
      repeat refine aa hJ ?_
      obtain ⟨q,rfl⟩:∃q,m=q+1:=⟨m - 1,by omega⟩
      have ev:IntKind.i64.wrap (((q+1:Nat):Int) - 1)=(q:Int):=by rw[IntWalk.i64_in _ ⟨by omega,by omega⟩];omega
      refine e5 hJ mixed 9 ⟨ro,[(b,Obj.cells arr 3)]⟩ (by simp only[*,go_sem]) (by kernel_rfl) ?_
      obtain ⟨a,al⟩:∃y,u0[p+(1+(q+1))]?=some y:=⟨u0[p+(1+(q+1))]'(by omega),List.getElem?_eq_getElem _⟩
      obtain ⟨I,K,ao⟩:=d.lC ((E _ (by omega)).trans al)
      obtain rfl:I=[.int .i64 a]:=K
      have ar:=ao 0 _ rfl
      simp only[go_sem] at ar
      have eQ:=(Array.getElem?_eq_some_iff.1 ar).1
      obtain ⟨f,a0⟩:∃y,u0[p+(1+q)]?=some y:=⟨u0[p+(1+q)]'(by omega),List.getElem?_eq_getElem _⟩
      obtain ⟨M,N,a2⟩:=d.lC ((E _ (by omega)).trans a0)
      obtain rfl:M=[.int .i64 f]:=N
      have a3:=a2 0 _ rfl
      simp only[go_sem] at a3
      have eS:=(Array.getElem?_eq_some_iff.1 a3).1
      have c1:¬((q+1:Nat):Int)<0:=by omega
      have c2:((q+1:Nat):Int)<((u0.length - (p+1):Nat):Int):=by omega
      have c3:¬(q:Int)<0:=by omega
      have c4:(q:Int)<((u0.length - (p+1):Nat):Int):=by omega
      have e2:(0:Int)<=((q+1:Nat):Int):=by omega
      have e3:(0:Int)<=(q:Int):=by omega
      simp only[*,go_sem]
      have a4:u0.getD (p+(1+(q+1))) 0=a:=by rw[List.getD_eq_getElem?_getD,al];rfl
      have bz:u0.getD (p+(1+q)) 0=f:=by rw[List.getD_eq_getElem?_getD,a0];rfl
      have bS:jM u0 (p+(1+(q+1)))=(a != f):=by
       unfold jM
       have b0:p+(1+(q+1)) - 1=p+(1+q):=by omega
       rw[b0,a4,bz]
       have:(p+(1+(q+1))==0)=false:=by simp
       rw[this,Bool.false_or]
      have e1:gw u0 (p+(1+(q+1+1)))=gw u0 (p+(1+(q+1)))++cond (a != f) [a] []:=by
       show gw u0 (p+(1+(q+1)))++cond (jM u0 (p+(1+(q+1)))) [u0.getD (p+(1+(q+1))) 0] []=_
       rw[bS,a4]
      have fa:IntKind.i64.wrap (((q+1:Nat):Int)+1)=((q+1+1:Nat):Int):=by rw[IntWalk.i64_in _ ⟨by omega,by omega⟩];omega
      clear ao a2 t
      have t:(gw u0 (p+(1+(q+1)))).length=w:=by rw[<-D,List.length_take];omega
      by_cases a5:a=f
      ·subst a5
       simp only[bne_self_eq_false,cond_false,List.append_nil] at e1
       refine bL hJ (by simp only[*,go_sem,bne_self_eq_false]) ?_
       refine aF hJ ?_
       refine ag hJ ?_
       simp only[*,go_sem]
       refine ⟨ab - 1,by omega,_,Le.refl _,q+1+1,w,arr,x,by omega,by omega,by omega,rfl,?_,?_,d,ae,by rw[e1];exact t,by omega,by rw[e1];exact D,fun j c=>E j (by omega)⟩
       ·simp only[*,go_sem]
       ·simp only[*,go_sem]
      ·have b1:(a != f)=true:=by simpa using a5
       rw[b1] at e1
       simp only[cond_true] at e1
       refine bK hJ (by simp only[*,go_sem]) ?_
       repeat refine aa hJ ?_
       refine ag hJ ?_
       have d1:(w:Int)<(u0.length:Int):=by omega
       have d2:¬(w:Int)<0:=by omega
       have d3:(0:Int)<=(w:Int):=by omega
       have fb:w<arr.size:=by omega
       simp only[*,go_sem]
       have ca:aW rI ro 3 (.slice (some ⟨b,0,none⟩) u0.length cap) (x.set w a) [(b,Obj.cells (dP arr w [.int .i64 a]) 3)]:=by
        have cb:=d.vM (i:=w) (y:=a) (by omega) (cs:=[.int .i64 a]) rfl
        simpa only[r7,Nat.mul_one,Nat.add_zero] using cb
       have ff:IntKind.i64.wrap ((w:Int)+1)=((w+1:Nat):Int):=by rw[IntWalk.i64_in _ ⟨by omega,by omega⟩];omega
       refine ag hJ ?_
       simp only[*,go_sem]
       refine ag hJ ?_
       simp only[*,go_sem]
       refine ⟨ab - 1,by omega,_,Le.refl _,q+1+1,w+1,_,x.set w a,by omega,by omega,by omega,rfl,?_,?_,ca,by rw[List.length_set];exact ae,?_,by omega,?_,fun j c=>?_⟩
       ·simp only[*,go_sem]
       ·simp only[*,go_sem]
       ·rw[e1,List.length_append,t];rfl
       ·rw[e1,<-D,List.take_succ,List.take_set_of_le (Nat.le_refl _),List.getElem?_set_self (by omega)];rfl
       ·rw[List.getElem?_set_ne (by omega)];exact E j (by omega)
     ·have bs:decide (((m:Nat):Int)<((u0.length - (p+1):Nat):Int))=false:=decide_eq_false (by omega)
      refine bL hJ (by simp only[*,go_sem]) ?_
      refine bU ?_
      simp only[go_sem]
      have a6:p+(1+m)=u0.length:=by omega
      rw[a6] at t
      have d1:(w:Int)<=(u0.length:Int):=by omega
      have d2:¬(w:Int)<0:=by omega
      have d3:(0:Int)<=(w:Int):=by omega
      have d4:w<=u0.length:=by omega
      have d5:w<=cap:=by omega
      have d6:¬cap=w:=by omega
      have d7:(0:Int)<=(w:Int):=by omega
      have d8:(w:Int)<=(cap:Int):=by omega
      have cd:w+(u0.length - w)<=arr.size:=by
       obtain ⟨ls,cf,fg,-⟩:=id d
       rcases cf with ⟨a7,_,_⟩|⟨fi,fl,fp,a7,cl,hs,hle,_⟩
       ·cases a7
       ·cases cl
        have:rI.n=1:=rfl
        rw[this,Nat.mul_one] at hs
        omega
      repeat refine aa hJ ?_
      refine ag hJ ?_
      simp only[*,go_sem,ite_false,if_false]
      refine FD (pre:=[]) (aY:=[]) (z:=.int .i64 0) (zc:=.int .i64 0) rfl (by kernel_rfl:Tryz.prog.underlying 64=some (.slice 3)) (by kernel_rfl) rfl rfl (by omega) (by simp[au]) cd ?_
      dsimp only[List.nil_append]
      repeat refine aa hJ ?_
      refine ag hJ ?_
      simp only[*,go_sem]
      refine ay ?_
      simp only[*,go_sem]
      refine ⟨_,?_,Le.refl _⟩
      have:=d.clear (k:=w) (by omega)
      rw[D,a6] at this
      simpa only[ite_self,Nat.sub_zero] using this
   ·have fq:(l==o)=false:=by simpa using P
    refine bL hJ (by simp only[*,go_sem]) ?_
    refine aF hJ ?_
    refine ag hJ ?_
    have fr:IntKind.i64.wrap (((p+1:Nat):Int)+1)=((p+2:Nat):Int):=by rw[IntWalk.i64_in _ ⟨by omega,by omega⟩];omega
    simp only[*,go_sem]
    refine ⟨bb - 1,by omega,_,Le.refl _,p+2,by omega,by omega,by omega,rfl,by simp only[*,go_sem],fun j c=>?_⟩
    rcases Nat.lt_succ_iff_lt_or_eq.1 c with c|rfl
    ·exact H j c
    ·rw[Z];simpa using P
  ·have hb:decide (((k:Nat):Int)<(u0.length:Int))=false:=decide_eq_false (by omega)
   refine bL hJ (by simp only[*,go_sem]) ?_
   refine bU ?_
   simp only[go_sem]
   repeat refine aa hJ ?_
   refine ag hJ ?_
   simp only[*,go_sem]
   refine ay ?_
   simp only[*,go_sem]
   obtain rfl:k=u0.length:=by omega
   rw[sV u0 _ (Nat.le_refl _) H,List.take_length]
   exact ⟨_,hg,Le.refl _⟩
def wN (n:Int):Option (List Int):=if 0<=n/\n<=1000 then some [] else none
theorem GI {ro:Addr->Option Value}{R:Value->af->Prop}{n:Nat}(h0:0<n)(h1:n<=1000){own:List (Nat×Obj)}
  (h:∀(k b:Nat) (arr:Array Value),n<=k->arr.size=k->dL ⟨ro,own⟩ b->R (.slice (some ⟨b,0,none⟩) n k) ⟨ro,(b,.cells arr 3)::own⟩):
  mz Tryz.prog #[64,3] (.slice none 0 0) (.int .i64 (n:Int)) R ⟨ro,own⟩:=by
 intro ty
 have c:Tryz.prog.underlying 64=some (.slice 3):=by kernel_rfl
 have d:Tryz.prog.underlying 3=some (.int .i64):=by kernel_rfl
 have e:bW Tryz.prog 3=some 1:=by kernel_rfl
 have f:zeroOf Tryz.prog 3=some (.int .i64 0):=by kernel_rfl
 obtain ⟨info,g,i⟩:∃info,Tryz.prog.info? 3=some info/\info.bytes=8:=⟨_,rfl,by kernel_rfl⟩
 have w1:IntKind.i64.wrap (n:Int)=(n:Int):=IntWalk.i64_in _ ⟨by omega,by omega⟩
 have c1:¬(n:Int)<0:=by omega
 have c2:¬(n:Int)*(8:Nat)>2 ^ 48:=by omega
 have c3:¬0+n<=0:=by omega
 simp only[Builtin.append_,List.getElem?_toArray,List.getElem?_cons_zero,List.getElem?_cons_succ,bn,dh,c,d,eN,e,bF,zM,if_true,c9,w1,if_neg c1,pI,g,i]
 rw[if_neg c2]
 simp only[Int.toNat_natCast,Nat.zero_add,Bool.not_true,Bool.false_eq_true,if_false]
 have c4:¬n<=0:=by omega
 have j:¬((n:Int)>IntKind.i64.max/\(True\/8=0)):=by
  have:IntKind.i64.max=9223372036854775807:=by decide
  rw[this];omega
 have l:¬Builtin.nextslicecap n 0*8>2 ^ 48:=by
  unfold Builtin.nextslicecap
  rw[if_pos (by omega)]
  omega
 have m:¬n*1=0:=by omega
 rw[if_neg c4,if_neg j,if_neg l]
 rw[vb]
 rw[if_neg (by simp[Question.forced])]
 intro t
 have a:n<=(Question.appendCap n 0 3).cut t:=Nat.le_add_right _ _
 generalize (Question.appendCap n 0 3).cut t=k at a ⊢
 refine vo _ ?_
 simp only[Builtin.firstCells,bF,if_neg m,mh,f,q9,bn]
 intro b hb
 refine ⟨_,Le.refl _,h k b _ a ?_ hb⟩
 simp only[Array.size_append,Builtin.zeroCells,Array.size_map,Array.size_range,Value.cells]
 simp
 omega
theorem GJ {ro:Addr->Option Value}(n:Int){x:List Int}(h:wN n=some x):aC Tryz.prog 114 #[.slice none 0 0,.int .i64 n] ⟨ro,[]⟩ (fun v G=>∃c,aW rI ro 3 v x c/\Le ⟨ro,c⟩ G):=by
 unfold wN at h
 split at h
 case isFalse=>cases h
 rename_i hn
 obtain rfl:=Option.some.inj h
 obtain ⟨n,rfl⟩:∃m:Nat,n=m:=⟨n.toNat,by omega⟩
 refine aC.go Tryz.func114 rfl Tryz.ntmps114 Tryz.results114 (by simp) fun main J hJ A f hd hs=>?_
 have g:=hs 0
 have k1:=hs 1
 clear hs
 repeat refine aa hJ ?_
 refine ag hJ ?_
 simp only[*,go_sem]
 repeat refine aa hJ ?_
 refine ag hJ ?_
 simp only[*,go_sem]
 repeat refine aa hJ ?_
 have j:¬(n:Int)<0:=by omega
 refine bL hJ (by simp only[*,go_sem,decide_false]) ?_
 refine aF hJ ?_
 repeat refine aa hJ ?_
 refine ag hJ ?_
 simp only[*,go_sem]
 refine AT rfl (by kernel_rfl:Tryz.prog.underlying 64=some (.slice 3)) (aD ?_)
 have e1:IntKind.i64.wrap (((0:Nat):Int) - ((0:Nat):Int))=0:=by decide
 have l:IntKind.i64.wrap ((0:Int) - (0:Int))=0:=by decide
 have e2:IntKind.i64.wrap ((n:Int) - 0)=(n:Int):=by rw[IntWalk.i64_in _ ⟨by omega,by omega⟩];omega
 simp only[*,go_sem]
 repeat refine aa hJ ?_
 refine ag hJ ?_
 simp only[*,go_sem]
 repeat refine aa hJ ?_
 by_cases hp:0<n
 ·have b2:(n:Int)>0:=by omega
  refine bK hJ (by simp only[*,go_sem,decide_true]) ?_
  repeat refine aa hJ ?_
  refine ag hJ ?_
  simp only[*,go_sem]
  refine AT rfl (by kernel_rfl:Tryz.prog.underlying 64=some (.slice 3)) (aD ?_)
  simp only[*,go_sem]
  simp only[Nat.le_refl,Int.le_refl,and_self,if_true,true_and]
  refine GI hp (by omega) fun k b arr o d hb=>aD ?_
  have e:∀off sp,ro ⟨b,off,sp⟩=none:=hb.ro
  have b3:(0:Int)<=(k:Int):=by omega
  simp only[*,go_sem,Int.le_refl,and_self,if_true,ite_self,Nat.sub_zero]
  repeat refine aa hJ ?_
  refine ag hJ ?_
  simp only[*,go_sem]
  refine ay ?_
  simp only[*,go_sem]
  refine ⟨[(b,.cells arr 3)],⟨[],.inr ⟨b,arr,k,rfl,rfl,?_,Nat.zero_le _,?_,fun x a=>(by cases a),e⟩,rfl,Nat.zero_le _,fun i x a=>by simp at a⟩,Le.refl _⟩
  ·show arr.size=k*1
   rw[d,Nat.mul_one]
  ·simp
 ·have b2:¬(0:Int)<(n:Int):=by omega
  refine bL hJ (by simp only[*,go_sem,decide_false]) ?_
  refine aF hJ ?_
  repeat refine aa hJ ?_
  refine ag hJ ?_
  simp only[*,go_sem]
  refine ay ?_
  simp only[*,go_sem]
  exact ⟨[],aW.nil _ _ _,Le.refl _⟩
end Go.Proofs.YtjepffnffjdloaaGreatDoor
end

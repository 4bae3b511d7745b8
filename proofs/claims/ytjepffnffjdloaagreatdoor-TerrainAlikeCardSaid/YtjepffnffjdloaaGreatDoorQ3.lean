/- A part of the proof of a row and its tied card: Q3. -/
import Derived.Test.YtjepffnffjdloaaGreatDoorQ2
set_option linter.all false
section
namespace Go.Proofs.YtjepffnffjdloaaGreatDoor
open Go Go.Sep Go.Proofs
set_option maxRecDepth 100000
set_option maxHeartbeats 4000000
def fC (u0:Int)(a:Int)(b:Int):Option Bool:=
 cond (decide (a<=u0)) (some (decide (u0<=b))) (some false)
theorem gu {ro:Addr->Option Value}(u0:Int)(a:Int)(b:Int){r:Bool}(h:fC u0 a b=some r):aC Tryz.prog 99 #[.int .i64 u0,.int .i64 a,.int .i64 b] ⟨ro,[]⟩ (fun v _=>v= .bool r):=by
 unfold fC at h
 refine aC.go Tryz.func99 rfl Tryz.ntmps99 Tryz.results99 (by simp) fun main J hJ A d hd hs=>?_
 have e:=hs 0
 have k1:=hs 1
 have f:=hs 2
 clear hs
 refine aa hJ (ag hJ ?_)
 simp only[*,go_sem]
 refine aa hJ (ag hJ ?_)
 revert h;refine cS (fun c h=>?_) fun c h=>?_
 ·obtain rfl:=sI h
  try simp only[*,go_sem]
  refine aB ?_
  simp only[*,go_sem]
 obtain rfl:=sI h
 try simp only[*,go_sem]
 refine aB ?_
 simp only[*,go_sem]
def fT (u0:Int):Option ak:=
 some (⟨u0,1⟩:ak)
theorem jl {ro:Addr->Option Value}(u0:Int){r:ak}(h:fT u0=some r):aC Tryz.prog 84 #[.int .i64 u0] ⟨ro,[]⟩ (fun v _=>v=r.v):=by
 unfold fT at h
 obtain rfl:=sI h
 refine aC.go Tryz.func84 rfl Tryz.ntmps84 Tryz.results84 (by simp) fun main J hJ A a hd hs=>?_
 have b:=hs 0
 clear hs
 refine aa hJ (ag hJ ?_)
 simp only[*,go_sem]
 refine av fun c r1 n1=>?_;try simp only[au] at n1
 try simp only[*,go_sem]
 refine aa hJ (ag hJ ?_)
 simp only[*,go_sem]
 refine aB ?_
 simp only[*,go_sem]
def eD (u0:ak)(a:ak):Option Bool:=
 some (decide ((IntKind.i64.wrap (u0.num*a.den))<(IntKind.i64.wrap (a.num*u0.den))))
theorem iJ {ro:Addr->Option Value}(u0:ak)(a:ak){r:Bool}(h:eD u0 a=some r):aC Tryz.prog 80 #[.agg #[.int .i64 u0.num,.int .i64 u0.den],.agg #[.int .i64 a.num,.int .i64 a.den]] ⟨ro,[]⟩ (fun v _=>v= .bool r):=by
 unfold eD at h
 obtain rfl:=sI h
 refine aC.go Tryz.func80 rfl Tryz.ntmps80 Tryz.results80 (by simp) fun main J hJ A b hd hs=>?_
 have c:=hs 0
 have k1:=hs 1
 clear hs
 refine aa hJ (ag hJ ?_)
 simp only[*,go_sem]
 refine av fun d r1 n1=>?_;try simp only[au] at n1
 refine av fun b2 r2 n2=>?_;try simp only[au] at n2
 try simp only[*,go_sem]
 refine aa hJ (ag hJ ?_)
 simp only[*,go_sem]
 refine aB ?_
 simp only[*,go_sem]
def pF (u0:cV)(a:Int)(b:Int):Option Bool:=
 cond (decide (a<=u0.low)) (cond (decide (u0.low<=u0.high)) (some (decide (u0.high<=b))) (some false)) (some false)
theorem Ab {ro:Addr->Option Value}(u0:cV)(a:Int)(b:Int){r:Bool}(h:pF u0 a b=some r):aC Tryz.prog 97 #[.agg #[.int .i64 u0.low,.int .i64 u0.high],.int .i64 a,.int .i64 b] ⟨ro,[]⟩ (fun v _=>v= .bool r):=by
 unfold pF at h
 refine aC.go Tryz.func97 rfl Tryz.ntmps97 Tryz.results97 (by simp) fun main J hJ A e hd hs=>?_
 have f:=hs 0
 have k1:=hs 1
 have g:=hs 2
 clear hs
 refine aa hJ (ag hJ ?_)
 simp only[*,go_sem]
 refine av fun i r1 n1=>?_;try simp only[au] at n1
 try simp only[*,go_sem]
 refine aa hJ (ag hJ ?_)
 revert h;refine cS (fun c h=>?_) fun c h=>?_
 ·revert h;refine cS (fun d h=>?_) fun d h=>?_
  ·obtain rfl:=sI h
   try simp only[*,go_sem]
   refine aB ?_
   simp only[*,go_sem]
  obtain rfl:=sI h
  try simp only[*,go_sem]
  refine aB ?_
  simp only[*,go_sem]
 obtain rfl:=sI h
 try simp only[*,go_sem]
 refine aB ?_
 simp only[*,go_sem]
def gv (u0:bB)(a:bB):Option Bool:=
 ah (eD u0.high a.high) fun b=>some b
theorem ri {ro:Addr->Option Value}(u0:bB)(a:bB){r:Bool}(h:gv u0 a=some r):aC Tryz.prog 62 #[.agg #[.int .i64 u0.spot.ax,.int .i64 u0.spot.high.num,.int .i64 u0.spot.high.den,.int .i64 u0.at_,.int .i64 u0.high.num,.int .i64 u0.high.den],.agg #[.int .i64 a.spot.ax,.int .i64 a.spot.high.num,.int .i64 a.spot.high.den,.int .i64 a.at_,.int .i64 a.high.num,.int .i64 a.high.den]] ⟨ro,[]⟩ (fun v _=>v= .bool r):=by
 unfold gv at h
 refine aC.go Tryz.func62 rfl Tryz.ntmps62 Tryz.results62 (by simp) fun main J hJ A c hd hs=>?_
 have d:=hs 0
 have k1:=hs 1
 clear hs
 refine aa hJ (ag hJ ?_)
 simp only[*,go_sem]
 refine av fun e r1 n1=>?_;try simp only[au] at n1
 refine av fun b2 r2 n2=>?_;try simp only[au] at n2
 try simp only[*,go_sem]
 refine aa hJ (ag hJ ?_)
 revert h;refine bS fun f b h=>?_
 obtain rfl:=sI h
 simp only[*,go_sem]
 refine aR hJ _ (iJ u0.high a.high b) (aD ?_)
 try simp only[*,go_sem]
 refine aB ?_
 simp only[*,go_sem]
def gL (u0:Int)(b:aj):Option Int:=
 ah (fC u0 1 20) fun a=>cond (!a) (some 1) (some 0)
theorem vi {ro:Addr->Option Value}(u0:Int)(b:aj){s1 c d f:Value}(a:bG ro b s1 c d f){r:Int}(h:gL u0 b=some r):aC Tryz.prog 89 #[.int .i64 u0,bv b s1 c d f] ⟨ro,[]⟩ (fun v _=>v= .int .i64 r):=by
 obtain ⟨d3,c4,rfl,k,l,-⟩:=id a.e
 obtain ⟨d10,m,rfl,n,o,-⟩:=id a.p
 obtain ⟨d17,q,rfl,s,u,-⟩:=id a.y
 obtain ⟨d24,w,rfl,x,z,-⟩:=id a.t
 unfold gL at h
 refine aC.go Tryz.func89 rfl Tryz.ntmps89 Tryz.results89 (by simp) fun main J hJ A B hd hs=>?_
 have C:=hs 0
 have k1:=hs 1
 clear hs
 refine aa hJ (ag hJ ?_)
 simp only[*,go_sem]
 refine av fun D E g=>?_;try simp only[au] at g
 try simp only[*,go_sem]
 refine aa hJ (aa hJ (ag hJ ?_))
 revert h;refine bS fun F i h=>?_
 simp only[*,go_sem]
 refine aR hJ _ (gu u0 1 20 i) (aD ?_)
 try simp only[*,go_sem]
 revert h;refine jC hJ (by simp only[*,go_sem]) (fun j h=>?_) fun j h=>?_
 ·obtain rfl:=sI h
  refine aa hJ (ag hJ ?_)
  simp only[*,go_sem]
  refine aB ?_
  simp only[*,go_sem]
 obtain rfl:=sI h
 refine aG hJ (aa hJ ?_)
 refine ag hJ ?_
 simp only[*,go_sem]
 refine aB ?_
 simp only[*,go_sem]
def en (u0:aP)(c:aj):Option Int:=
 ah (fC u0.back 1 20) fun a=>cond (!a) (some 1) (ah (fC u0.high 0 60) fun b=>cond (!b) (some 1) (some 0))
theorem rj {ro:Addr->Option Value}(u0:aP)(b:aj){s1 c d f:Value}(a:bG ro b s1 c d f){r:Int}(h:en u0 b=some r):aC Tryz.prog 55 #[.agg #[.int .i64 u0.back,.int .i64 u0.high],bv b s1 c d f] ⟨ro,[]⟩ (fun v _=>v= .int .i64 r):=by
 obtain ⟨d3,c4,rfl,n,o,-⟩:=id a.e
 obtain ⟨d10,q,rfl,s,u,-⟩:=id a.p
 obtain ⟨d17,w,rfl,x,z,-⟩:=id a.y
 obtain ⟨d24,B,rfl,C,D,-⟩:=id a.t
 unfold en at h
 refine aC.go Tryz.func55 rfl Tryz.ntmps55 Tryz.results55 (by simp) fun main J hJ A E hd hs=>?_
 have F:=hs 0
 have k1:=hs 1
 clear hs
 refine aa hJ (ag hJ ?_)
 simp only[*,go_sem]
 refine av fun G H g=>?_;try simp only[au] at g
 refine av fun I K i=>?_;try simp only[au] at i
 try simp only[*,go_sem]
 refine aa hJ (aa hJ (ag hJ ?_))
 revert h;refine bS fun L j h=>?_
 simp only[*,go_sem]
 refine aR hJ _ (gu u0.back 1 20 j) (aD ?_)
 revert h;refine cS (fun k h=>?_) fun k h=>?_
 ·obtain rfl:=sI h
  try simp only[*,go_sem]
  refine bM hJ (by simp only[*,go_sem]) ?_
  refine aa hJ (ag hJ ?_)
  simp only[*,go_sem]
  refine aB ?_
  simp only[*,go_sem]
 revert h;refine bS fun M l h=>?_
 try simp only[*,go_sem]
 refine aR hJ _ (gu u0.high 0 60 l) (aD ?_)
 try simp only[*,go_sem]
 revert h;refine jC hJ (by simp only[*,go_sem]) (fun m h=>?_) fun m h=>?_
 ·obtain rfl:=sI h
  refine aa hJ (ag hJ ?_)
  simp only[*,go_sem]
  refine aB ?_
  simp only[*,go_sem]
 obtain rfl:=sI h
 refine aG hJ (aa hJ ?_)
 refine ag hJ ?_
 simp only[*,go_sem]
 refine aB ?_
 simp only[*,go_sem]
def m9 (u0:aj)(a:Int):Option Bool:=
 ah (fC a 0 (IntKind.i64.wrap ((u0.aF.length:Int) - 1))) fun b=>some b
theorem Ac {ro:Addr->Option Value}(u0:aj){s1 c d f:Value}(a:bG ro u0 s1 c d f)(b:Int){r:Bool}(h:m9 u0 b=some r):aC Tryz.prog 110 #[bv u0 s1 c d f,.int .i64 b] ⟨ro,[]⟩ (fun v _=>v= .bool r):=by
 obtain ⟨d3,c4,rfl,j,k,-⟩:=id a.e
 obtain ⟨d10,l,rfl,m,n,-⟩:=id a.p
 obtain ⟨d17,o,rfl,q,s,-⟩:=id a.y
 obtain ⟨d24,u,rfl,w,x,-⟩:=id a.t
 unfold m9 at h
 refine aC.go Tryz.func110 rfl Tryz.ntmps110 Tryz.results110 (by simp) fun main J hJ A z hd hs=>?_
 have B:=hs 0
 have k1:=hs 1
 clear hs
 refine aa hJ (ag hJ ?_)
 simp only[*,go_sem]
 refine av fun C D g=>?_;try simp only[au] at g
 try simp only[*,go_sem]
 refine aa hJ (ag hJ ?_)
 revert h;refine bS fun E i h=>?_
 obtain rfl:=sI h
 simp only[*,go_sem]
 refine aR hJ _ (gu b 0 (IntKind.i64.wrap ((u0.aF.length:Int) - 1)) i) (aD ?_)
 try simp only[*,go_sem]
 refine aB ?_
 simp only[*,go_sem]
def eo (u0:aj)(a:Int):Option Bool:=
 ah (bK u0.an 0) fun b=>ah (bK u0.an (IntKind.i64.wrap ((u0.an.length:Int) - 1))) fun c=>ah (fC a b.ax c.ax) fun d=>some d
theorem rm {ro:Addr->Option Value}(u0:aj){s1 f g i:Value}(a:bG ro u0 s1 f g i)(b:Int){r:Bool}(h:eo u0 b=some r):aC Tryz.prog 101 #[bv u0 s1 f g i,.int .i64 b] ⟨ro,[]⟩ (fun v _=>v= .bool r):=by
 obtain ⟨d3,c4,rfl,E,G,-⟩:=id a.e
 unfold eo at h
 refine aC.go Tryz.func101 rfl Tryz.ntmps101 Tryz.results101 (by simp) fun main J hJ A H hd hs=>?_
 have I:=hs 0
 have k1:=hs 1
 clear hs
 refine aa hJ (ag hJ ?_)
 simp only[*,go_sem]
 refine av fun K L n=>?_;try simp only[au] at n
 try simp only[*,go_sem]
 refine aa hJ ?_
 refine dh hJ mixed 20 1 (by simp only[*,go_sem]) (by kernel_rfl) ?_
 revert h;refine bS fun j o h=>?_
 obtain ⟨M,N,k⟩:=cM o
 obtain ⟨O,p,q,s,c⟩:=a.e.el _ _ k
 obtain rfl:p=j.cells:=s
 cases q
 have t:=c 0 _ rfl;simp only[go_sem] at t
 have u:=c 1 _ rfl;simp only[go_sem] at u
 clear c k
 revert h;refine bS fun l w h=>?_
 obtain ⟨P,Q,m⟩:=cM w
 obtain ⟨R,x,y,z,d⟩:=a.e.el _ _ m
 obtain rfl:x=l.cells:=z
 cases y
 have B:=d 0 _ rfl;simp only[go_sem] at B
 have C:=d 1 _ rfl;simp only[go_sem] at C
 clear d m
 revert h;refine bS fun S D h=>?_
 obtain rfl:=sI h
 try simp only[*,go_sem]
 refine ⟨_,bA hJ fun F T=>gu b j.ax l.ax D,bV ?_⟩
 try simp only[*,go_sem]
 refine aB ?_
 simp only[*,go_sem]
def e7 (u0:Int)(a:aj):Option Int:=
 ah (m9 a u0) fun b=>cond (!b) (some 6) (some 0)
theorem rq {ro:Addr->Option Value}(u0:Int)(b:aj){s1 c d f:Value}(a:bG ro b s1 c d f){r:Int}(h:e7 u0 b=some r):aC Tryz.prog 77 #[.int .i64 u0,bv b s1 c d f] ⟨ro,[]⟩ (fun v _=>v= .int .i64 r):=by
 obtain ⟨d3,c4,rfl,k,l,-⟩:=id a.e
 obtain ⟨d10,m,rfl,n,o,-⟩:=id a.p
 obtain ⟨d17,q,rfl,s,u,-⟩:=id a.y
 obtain ⟨d24,w,rfl,x,z,-⟩:=id a.t
 unfold e7 at h
 refine aC.go Tryz.func77 rfl Tryz.ntmps77 Tryz.results77 (by simp) fun main J hJ A B hd hs=>?_
 have C:=hs 0
 have k1:=hs 1
 clear hs
 refine aa hJ (ag hJ ?_)
 simp only[*,go_sem]
 refine av fun D E g=>?_;try simp only[au] at g
 try simp only[*,go_sem]
 refine aa hJ (aa hJ (ag hJ ?_))
 revert h;refine bS fun F i h=>?_
 simp only[*,go_sem]
 refine aR hJ _ (Ac b (a.mono aJ) u0 i) (aD ?_)
 try simp only[*,go_sem]
 revert h;refine jC hJ (by simp only[*,go_sem]) (fun j h=>?_) fun j h=>?_
 ·obtain rfl:=sI h
  refine aa hJ (ag hJ ?_)
  simp only[*,go_sem]
  refine aB ?_
  simp only[*,go_sem]
 obtain rfl:=sI h
 refine aG hJ (aa hJ ?_)
 refine ag hJ ?_
 simp only[*,go_sem]
 refine aB ?_
 simp only[*,go_sem]
def nc (u0:Int)(a:aj):Option Int:=
 ah (eo a u0) fun b=>cond (!b) (some 6) (some 0)
theorem E9 {ro:Addr->Option Value}(u0:Int)(b:aj){s1 c d f:Value}(a:bG ro b s1 c d f){r:Int}(h:nc u0 b=some r):aC Tryz.prog 58 #[.int .i64 u0,bv b s1 c d f] ⟨ro,[]⟩ (fun v _=>v= .int .i64 r):=by
 obtain ⟨d3,c4,rfl,k,l,-⟩:=id a.e
 obtain ⟨d10,m,rfl,n,o,-⟩:=id a.p
 obtain ⟨d17,q,rfl,s,u,-⟩:=id a.y
 obtain ⟨d24,w,rfl,x,z,-⟩:=id a.t
 unfold nc at h
 refine aC.go Tryz.func58 rfl Tryz.ntmps58 Tryz.results58 (by simp) fun main J hJ A B hd hs=>?_
 have C:=hs 0
 have k1:=hs 1
 clear hs
 refine aa hJ (ag hJ ?_)
 simp only[*,go_sem]
 refine av fun D E g=>?_;try simp only[au] at g
 try simp only[*,go_sem]
 refine aa hJ (aa hJ (ag hJ ?_))
 revert h;refine bS fun F i h=>?_
 simp only[*,go_sem]
 refine aR hJ _ (rm b (a.mono aJ) u0 i) (aD ?_)
 try simp only[*,go_sem]
 revert h;refine jC hJ (by simp only[*,go_sem]) (fun j h=>?_) fun j h=>?_
 ·obtain rfl:=sI h
  refine aa hJ (ag hJ ?_)
  simp only[*,go_sem]
  refine aB ?_
  simp only[*,go_sem]
 obtain rfl:=sI h
 refine aG hJ (aa hJ ?_)
 refine ag hJ ?_
 simp only[*,go_sem]
 refine aB ?_
 simp only[*,go_sem]
def pG (st:(Int×Int)):Option (Fl (Int×Int) ak):=
 cond ((st.2 != 0)) (ah (eU st.1 st.2) fun a=>some (.nx (st.2,a))) (some (.bk (st.1,st.2)))
def j3 (u0:Int)(a:Int):Option ak:=
 ah (bD (pG) fu ((if u0<IntKind.i64.wrap (0 - u0) then IntKind.i64.wrap (0 - u0) else u0),a)) fun o=>aO o (fun b=>ah (gm u0 b.1) fun c=>ah (gm a b.1) fun d=>some (⟨c,d⟩:ak)) (fun _ _=>none) (fun r=>some r)
theorem pH {ro:Addr->Option Value}(u0:Int)(c:Int){r:ak}(h:j3 u0 c=some r):aC Tryz.prog 102 #[.int .i64 u0,.int .i64 c] ⟨ro,[]⟩ (fun v _=>v=r.v):=by
 unfold j3 at h
 refine aC.go Tryz.func102 rfl Tryz.ntmps102 Tryz.results102 (by simp) fun main J hJ A k hd hs=>?_
 have l:=hs 0
 have k1:=hs 1
 clear hs
 refine aa hJ (ag hJ ?_)
 simp only[*,go_sem]
 refine av fun n r1 n1=>?_;try simp only[au] at n1
 try simp only[*,go_sem]
 refine aa hJ (ag hJ ?_)
 simp only[*,go_sem]
 refine aa hJ (aY hJ ?_)
 revert h;refine bS fun o4 a o=>?_
 refine cc hJ [5,6,12,13,14,15,16,17] (fun m a' F'=>∃(v2:Int) (b:Int),bD (pG) m (v2,b)=some o4/\F'=⟨ro,(n,rt 0 0)::[]⟩/\slot a' 5= .int .i64 v2/\slot a' 6= .int .i64 b) fu ?_ ?_
 ·refine ⟨(if u0<IntKind.i64.wrap (0 - u0) then IntKind.i64.wrap (0 - u0) else u0),c,a,rfl,?_⟩
  simp only[*,go_sem]
 rintro d w F' f ⟨v2,b,a,rfl,x,y⟩
 obtain ⟨p,q,s⟩:=f.pick [0,1,4] (by decide)
 simp only[*,go_sem] at p q s
 clear f k hd l k1
 obtain _|d:=d
 ·exact absurd a (by simp only[bD,reduceCtorEq,not_false_eq_true])
 revert a;refine bS fun z h e=>?_
 unfold pG at h
 try dsimp only at h
 refine aa hJ (aa hJ (ag hJ ?_))
 simp only[*,go_sem]
 revert h;refine jC hJ (by simp only[*,go_sem]) (fun t h=>?_) fun t h=>?_
 ·refine aG hJ (aY hJ ?_)
  refine dh hJ mixed 6 1 (by simp only[*,go_sem]) (by kernel_rfl) ?_
  revert h;refine bS fun u g h=>?_
  obtain rfl:=sI h
  obtain ⟨B,C⟩:=jS g
  clear g
  try simp only[*,go_sem]
  refine ⟨d,Nat.lt_succ_self _,_,Le.sub (List.Sublist.refl _),b,u,e,rfl,?_⟩
  simp only[*,go_sem]
 obtain rfl:=sI h
 refine b7 ?_
 simp only[go_sem]
 obtain rfl:=sI e;clear e
 have h:=o
 dsimp only[aO] at h
 refine aa hJ ?_
 refine dh hJ mixed 7 0 (by simp only[*,go_sem]) (by kernel_rfl) ?_
 revert h;refine bS fun D i h=>?_
 obtain ⟨E,F⟩:=m3 i
 clear i
 revert h;refine bS fun G j h=>?_
 obtain rfl:=sI h
 obtain ⟨H,I⟩:=m3 j
 clear j
 try simp only[*,go_sem]
 refine aB ?_
 simp only[*,go_sem]
def jm (u0:ak)(a:ak):Option ak:=
 ah (j3 (IntKind.i64.wrap ((IntKind.i64.wrap (u0.num*a.den))+(IntKind.i64.wrap (a.num*u0.den)))) (IntKind.i64.wrap (u0.den*a.den))) fun b=>some b
theorem pI {ro:Addr->Option Value}(u0:ak)(a:ak){r:ak}(h:jm u0 a=some r):aC Tryz.prog 88 #[.agg #[.int .i64 u0.num,.int .i64 u0.den],.agg #[.int .i64 a.num,.int .i64 a.den]] ⟨ro,[]⟩ (fun v _=>v=r.v):=by
 unfold jm at h
 refine aC.go Tryz.func88 rfl Tryz.ntmps88 Tryz.results88 (by simp) fun main J hJ A c hd hs=>?_
 have d:=hs 0
 have k1:=hs 1
 clear hs
 refine aa hJ (ag hJ ?_)
 simp only[*,go_sem]
 refine av fun e r1 n1=>?_;try simp only[au] at n1
 refine av fun b2 r2 n2=>?_;try simp only[au] at n2
 refine av fun b3 r3 n3=>?_;try simp only[au] at n3
 try simp only[*,go_sem]
 refine aa hJ (ag hJ ?_)
 revert h;refine bS fun f b h=>?_
 obtain rfl:=sI h
 simp only[*,go_sem]
 refine aR hJ _ (pH (IntKind.i64.wrap ((IntKind.i64.wrap (u0.num*a.den))+(IntKind.i64.wrap (a.num*u0.den)))) (IntKind.i64.wrap (u0.den*a.den)) b) (aD ?_)
 try simp only[*,go_sem]
 refine aB ?_
 simp only[*,go_sem]
def jo (u0:ak)(a:ak):Option ak:=
 ah (jm u0 (⟨IntKind.i64.wrap (0 - a.num),a.den⟩:ak)) fun b=>some b
theorem pJ {ro:Addr->Option Value}(u0:ak)(a:ak){r:ak}(h:jo u0 a=some r):aC Tryz.prog 87 #[.agg #[.int .i64 u0.num,.int .i64 u0.den],.agg #[.int .i64 a.num,.int .i64 a.den]] ⟨ro,[]⟩ (fun v _=>v=r.v):=by
 unfold jo at h
 refine aC.go Tryz.func87 rfl Tryz.ntmps87 Tryz.results87 (by simp) fun main J hJ A c hd hs=>?_
 have d:=hs 0
 have k1:=hs 1
 clear hs
 refine aa hJ (ag hJ ?_)
 simp only[*,go_sem]
 refine av fun e r1 n1=>?_;try simp only[au] at n1
 refine av fun b2 r2 n2=>?_;try simp only[au] at n2
 refine av fun b3 r3 n3=>?_;try simp only[au] at n3
 try simp only[*,go_sem]
 refine aa hJ (ag hJ ?_)
 revert h;refine bS fun f b h=>?_
 obtain rfl:=sI h
 simp only[*,go_sem]
 refine aR hJ _ (pI u0 (⟨IntKind.i64.wrap (0 - a.num),a.den⟩:ak) b) (aD ?_)
 try simp only[*,go_sem]
 refine aB ?_
 simp only[*,go_sem]
def j4 (u0:aj)(a:aP)(e:Int)(b:gJ):Option bB:=
 ah (fT a.high) fun f=>ah (jo b.high f) fun c=>ah (j3 (IntKind.i64.wrap (u0.aQ+a.back)) (IntKind.i64.wrap (b.ax+a.back))) fun d=>ah (fT a.high) fun g=>ah (j3 (IntKind.i64.wrap (c.num*d.num)) (IntKind.i64.wrap (c.den*d.den))) fun h=>ah (jm g h) fun i=>some (⟨b,e,i⟩:bB)
theorem Ad {ro:Addr->Option Value}(u0:aj){s1 c d e:Value}(K:bG ro u0 s1 c d e)(b:aP)(j:Int)(a:gJ){r:bB}(h:j4 u0 b j a=some r):aC Tryz.prog 100 #[bv u0 s1 c d e,.agg #[.int .i64 b.back,.int .i64 b.high],.int .i64 j,.agg #[.int .i64 a.ax,.int .i64 a.high.num,.int .i64 a.high.den]] ⟨ro,[]⟩ (fun v _=>v=r.v):=by
 unfold j4 at h
 refine aC.go Tryz.func100 rfl Tryz.ntmps100 Tryz.results100 (by simp) fun main J hJ A L hd hs=>?_
 have M:=hs 0
 have k1:=hs 1
 have N:=hs 2
 have O:=hs 3
 clear hs
 refine aa hJ (ag hJ ?_)
 simp only[*,go_sem]
 refine av fun k P n=>?_;try simp only[au] at n
 refine av fun l Q o=>?_;try simp only[au] at o
 refine av fun m R p=>?_;try simp only[au] at p
 refine av fun q S s=>?_;try simp only[au] at s
 try simp only[*,go_sem]
 refine aa hJ ?_
 refine eM hJ mixed 6 ⟨ro,[(q,.cells #[.int .i64 0,.int .i64 0,.int .i64 0,.int .i64 0,.int .i64 0,.int .i64 0] 107),(m,.cells #[.int .i64 a.ax,.int .i64 a.high.num,.int .i64 a.high.den] 105),(l,.cells #[.int .i64 b.back,.int .i64 b.high] 103),(k,bl u0 s1 c d e)]⟩ (by simp only[*,go_sem]) (by kernel_rfl) ?_
 revert h;refine bS fun t u h=>?_
 simp only[*,go_sem]
 refine ⟨_,bA hJ fun F f=>jl b.high u,bV ?_⟩
 revert h;refine bS fun g w h=>?_
 try simp only[*,go_sem]
 refine ⟨_,bA hJ fun F f=>pJ a.high t w,?_⟩
 try simp only[*,go_sem]
 refine av fun x T y=>?_;try simp only[au] at y
 try simp only[*,go_sem]
 refine aa hJ (ag hJ ?_)
 revert h;refine bS fun i z h=>?_
 simp only[*,go_sem]
 refine aR hJ _ (pH (IntKind.i64.wrap (u0.aQ+b.back)) (IntKind.i64.wrap (a.ax+b.back)) z) (aD ?_)
 try simp only[*,go_sem]
 refine av fun B U C=>?_;try simp only[au] at C
 try simp only[*,go_sem]
 refine aa hJ ?_
 refine eM hJ mixed 18 ⟨ro,[(B,rt i.num i.den),(x,rt g.num g.den),(m,.cells #[.int .i64 a.ax,.int .i64 a.high.num,.int .i64 a.high.den] 105),(l,.cells #[.int .i64 b.back,.int .i64 b.high] 103),(k,bl u0 s1 c d e)]⟩ (by simp only[*,go_sem]) (by kernel_rfl) ?_
 revert h;refine bS fun D E h=>?_
 simp only[*,go_sem]
 refine ⟨_,bA hJ fun F f=>jl b.high E,bV ?_⟩
 revert h;refine bS fun G H h=>?_
 try simp only[*,go_sem]
 refine ⟨_,bA hJ fun F f=>pH (IntKind.i64.wrap (g.num*i.num)) (IntKind.i64.wrap (g.den*i.den)) H,bV ?_⟩
 revert h;refine bS fun V I h=>?_
 obtain rfl:=sI h
 try simp only[*,go_sem]
 refine ⟨_,bA hJ fun F f=>pI D G I,bV ?_⟩
 try simp only[*,go_sem]
 refine aB ?_
 simp only[*,go_sem]
def jq (u0:aj)(a:Int)(b:Int):Option aP:=
 ah (bK u0.aF a) fun c=>some (⟨c.back,b⟩:aP)
theorem lZ {ro:Addr->Option Value}(u0:aj){s1 c d f:Value}(a:bG ro u0 s1 c d f)(g:Int)(i:Int){r:aP}(h:jq u0 g i=some r):aC Tryz.prog 69 #[bv u0 s1 c d f,.int .i64 g,.int .i64 i] ⟨ro,[]⟩ (fun v _=>v=r.v):=by
 obtain ⟨d3,c4,rfl,z,B,-⟩:=id a.e
 obtain ⟨d10,C,rfl,D,E,-⟩:=id a.p
 obtain ⟨d17,F,rfl,G,H,-⟩:=id a.y
 obtain ⟨d24,I,rfl,K,L,-⟩:=id a.t
 unfold jq at h
 refine aC.go Tryz.func69 rfl Tryz.ntmps69 Tryz.results69 (by simp) fun main J hJ A M hd hs=>?_
 have N:=hs 0
 have k1:=hs 1
 have O:=hs 2
 clear hs
 refine aa hJ (ag hJ ?_)
 simp only[*,go_sem]
 refine av fun P Q k=>?_;try simp only[au] at k
 refine av fun R S l=>?_;try simp only[au] at l
 try simp only[*,go_sem]
 refine aa hJ (ag hJ ?_)
 revert h;refine bS fun m n h=>?_
 obtain rfl:=sI h
 obtain ⟨T,U,j⟩:=cM n
 obtain ⟨V,o,q,s,b⟩:=a.y.el _ _ j
 obtain rfl:o=m.cells:=s
 cases q
 have u:=b 0 _ rfl;simp only[go_sem] at u
 have w:=b 1 _ rfl;simp only[go_sem] at w
 have x:=b 2 _ rfl;simp only[go_sem] at x
 clear b j
 try simp only[*,go_sem]
 refine aB ?_
 simp only[*,go_sem]
def l5 (u0:(bB->bB->Option Bool))(i11:Nat)(a:bB)(st:bB):Option (Fl bB bB):=
 ah (u0 st a) fun b=>cond (b) (some (.nx a)) (some (.nx st))
def j5 (u0:(bB->bB->Option Bool))(a:bB)(b:(List bB)):Option bB:=
 ah (bE (l5 u0) 0 b a) fun o=>aO o (fun c=>some c) (fun _ _=>none) (fun r=>some r)
theorem ru {ro:Addr->Option Value}(u0:(bB->bB->Option Bool)){dI:FuncId}{dX dY:Array Value}(s:aI Tryz.prog dI=true/\∀(aL:Addr->Option Value),Ext ro aL->∀(i:bB) (j:bB) (z:Bool),u0 i j=some z->aC Tryz.prog dI (dX++#[i.v,j.v]++dY) ⟨aL,[]⟩ (fun v _=>v= .bool z))(c:bB)(b:(List bB)){s1:Value}(k:aA j0 ro s1 b){r:bB}(h:j5 u0 c b=some r):aC Tryz.prog 61 #[.func (.func dI) dX dY,.agg #[.int .i64 c.spot.ax,.int .i64 c.spot.high.num,.int .i64 c.spot.high.den,.int .i64 c.at_,.int .i64 c.high.num,.int .i64 c.high.den],s1] ⟨ro,[]⟩ (fun v _=>v=r.v):=by
 obtain ⟨d3,c4,rfl,Y,l,-⟩:=id k
 unfold j5 at h
 refine aC.go Tryz.func61 rfl Tryz.ntmps61 Tryz.results61 (by simp) fun main J hJ A t hd hs=>?_
 have u:=hs 0
 have k1:=hs 1
 have w:=hs 2
 clear hs
 refine aa hJ (ag hJ ?_)
 simp only[*,go_sem]
 refine av fun y Z B=>?_;try simp only[au] at B
 refine av fun C ab D=>?_;try simp only[au] at D
 try simp only[*,go_sem]
 refine aa hJ (aa hJ (ag hJ ?_))
 simp only[*,go_sem]
 refine aY hJ ?_
 revert h;refine bS fun E d F=>?_
 refine cc hJ [8,11,12,13,14,15,16,17,18,19,20] (fun m a' F'=>∃(i11:Nat) (v10:bB),m=b.length - i11/\i11<=b.length/\bE (l5 u0) i11 (b.drop i11) v10=some E/\F'=⟨ro,(C,.cells #[.int .i64 0,.int .i64 0,.int .i64 0,.int .i64 0,.int .i64 0,.int .i64 0] 107)::(y,.cells #[.int .i64 v10.spot.ax,.int .i64 v10.spot.high.num,.int .i64 v10.spot.high.den,.int .i64 v10.at_,.int .i64 v10.high.num,.int .i64 v10.high.den] 107)::[]⟩/\slot a' 11= .int .i64 (i11:Int)) b.length ?_ ?_
 ·refine ⟨0,c,(Nat.sub_zero _).symm,Nat.zero_le _,d,rfl,?_⟩
  simp only[*,go_sem]
 rintro ad ae F' o ⟨i11,v10,rfl,al,d,rfl,ao⟩
 obtain ⟨G,H,I⟩:=o.pick [0,4,6,9,10] (by decide)
 simp only[*,go_sem] at G H I
 clear o t hd u k1 w
 refine aa hJ (ag hJ ?_)
 simp only[*,go_sem]
 refine aa hJ ?_
 rcases Nat.lt_or_ge i11 b.length with K|p
 ·refine bM hJ (by simp only[*,go_sem]) ?_
  refine aG hJ ?_
  obtain ⟨f,g⟩:∃x,b[i11]?=some x:=⟨_,List.getElem?_eq_getElem K⟩
  rw[c7 g] at d
  revert d;refine bS fun ar h q=>?_
  unfold l5 at h
  try dsimp only at h
  obtain ⟨a0,L,M,N,e⟩:=k.el _ _ g
  obtain rfl:L=f.cells:=N
  cases M
  have O:=e 0 _ rfl;simp only[go_sem] at O
  have P:=e 1 _ rfl;simp only[go_sem] at P
  have Q:=e 2 _ rfl;simp only[go_sem] at Q
  have R:=e 3 _ rfl;simp only[go_sem] at R
  have S:=e 4 _ rfl;simp only[go_sem] at S
  have T:=e 5 _ rfl;simp only[go_sem] at T
  clear e g
  refine aa hJ (aY hJ (aa hJ ?_))
  refine ag hJ ?_
  simp only[*,go_sem]
  refine av fun a2 a3 U=>?_;try simp only[au] at U
  try simp only[*,go_sem]
  refine aa hJ (ag hJ ?_)
  revert h;refine bS fun a4 V h=>?_
  simp only[*,go_sem]
  refine aR hJ _ (s.2 _ (fun a v h=>aJ a v h) v10 f _ V) ?_
  try simp only[*,go_sem]
  revert h;refine jC hJ (by simp only[*,go_sem]) (fun W h=>?_) fun W h=>?_
  ·obtain rfl:=sI h
   refine ag hJ ?_
   simp only[*,go_sem]
   have X:=cq (n:=i11) (by have:=l;omega)
   refine ag hJ ?_
   simp only[*,go_sem]
   refine ⟨b.length - (i11+1),by omega,_,Le.sub (List.Sublist.cons _ (List.Sublist.refl _)),i11+1,f,rfl,by omega,q,rfl,?_⟩
   simp only[*,go_sem]
  obtain rfl:=sI h
  refine aG hJ ?_
  have X:=cq (n:=i11) (by have:=l;omega)
  refine ag hJ ?_
  simp only[*,go_sem]
  refine ⟨b.length - (i11+1),by omega,_,Le.sub (List.Sublist.cons _ (List.Sublist.refl _)),i11+1,v10,rfl,by omega,q,rfl,?_⟩
  simp only[*,go_sem]
 have a5:=Nat.not_lt.2 p
 refine bJ hJ (by simp only[*,go_sem]) ?_
 rw[List.drop_eq_nil_of_le p] at d
 obtain rfl:=sI d;clear d
 have h:=F
 dsimp only[aO] at h
 obtain rfl:=sI h
 refine b7 ?_
 simp only[go_sem]
 refine aa hJ (ag hJ ?_)
 simp only[*,go_sem]
 refine aB ?_
 simp only[*,go_sem]
def pK (u0:(ak->ak->Option Bool))(i11:Nat)(a:ak)(st:ak):Option (Fl ak ak):=
 ah (u0 st a) fun b=>cond (b) (some (.nx a)) (some (.nx st))
def g9 (u0:(ak->ak->Option Bool))(a:ak)(b:(List ak)):Option ak:=
 ah (bE (pK u0) 0 b a) fun o=>aO o (fun c=>some c) (fun _ _=>none) (fun r=>some r)
theorem ng {ro:Addr->Option Value}(u0:(ak->ak->Option Bool)){dI:FuncId}{dX dY:Array Value}(s:aI Tryz.prog dI=true/\∀(aL:Addr->Option Value),Ext ro aL->∀(i:ak) (j:ak) (z:Bool),u0 i j=some z->aC Tryz.prog dI (dX++#[i.v,j.v]++dY) ⟨aL,[]⟩ (fun v _=>v= .bool z))(d:ak)(b:(List ak)){s1:Value}(k:aA kU ro s1 b){r:ak}(h:g9 u0 d b=some r):aC Tryz.prog 81 #[.func (.func dI) dX dY,.agg #[.int .i64 d.num,.int .i64 d.den],s1] ⟨ro,[]⟩ (fun v _=>v=r.v):=by
 obtain ⟨d3,c4,rfl,U,l,-⟩:=id k
 unfold g9 at h
 refine aC.go Tryz.func81 rfl Tryz.ntmps81 Tryz.results81 (by simp) fun main J hJ A t hd hs=>?_
 have u:=hs 0
 have k1:=hs 1
 have w:=hs 2
 clear hs
 refine aa hJ (ag hJ ?_)
 simp only[*,go_sem]
 refine av fun y V B=>?_;try simp only[au] at B
 refine av fun C W D=>?_;try simp only[au] at D
 try simp only[*,go_sem]
 refine aa hJ (aa hJ (ag hJ ?_))
 simp only[*,go_sem]
 refine aY hJ ?_
 revert h;refine bS fun E c F=>?_
 refine cc hJ [8,11,12,13,14,15,16,17,18,19,20] (fun m a' F'=>∃(i11:Nat) (v10:ak),m=b.length - i11/\i11<=b.length/\bE (pK u0) i11 (b.drop i11) v10=some E/\F'=⟨ro,(C,rt 0 0)::(y,rt v10.num v10.den)::[]⟩/\slot a' 11= .int .i64 (i11:Int)) b.length ?_ ?_
 ·refine ⟨0,d,(Nat.sub_zero _).symm,Nat.zero_le _,c,rfl,?_⟩
  simp only[*,go_sem]
 rintro X Y F' o ⟨i11,v10,rfl,Z,c,rfl,ab⟩
 obtain ⟨G,H,I⟩:=o.pick [0,4,6,9,10] (by decide)
 simp only[*,go_sem] at G H I
 clear o t hd u k1 w
 refine aa hJ (ag hJ ?_)
 simp only[*,go_sem]
 refine aa hJ ?_
 rcases Nat.lt_or_ge i11 b.length with K|p
 ·refine bM hJ (by simp only[*,go_sem]) ?_
  refine aG hJ ?_
  obtain ⟨e,f⟩:∃x,b[i11]?=some x:=⟨_,List.getElem?_eq_getElem K⟩
  rw[c7 f] at c
  revert c;refine bS fun ad h q=>?_
  unfold pK at h
  try dsimp only at h
  obtain ⟨ae,L,M,N,g⟩:=k.el _ _ f
  obtain rfl:L=e.cells:=N
  cases M
  have O:=g 0 _ rfl;simp only[go_sem] at O
  have P:=g 1 _ rfl;simp only[go_sem] at P
  clear g f
  refine aa hJ (aY hJ (aa hJ ?_))
  refine ag hJ ?_
  simp only[*,go_sem]
  refine av fun al ao Q=>?_;try simp only[au] at Q
  try simp only[*,go_sem]
  refine aa hJ (ag hJ ?_)
  revert h;refine bS fun ar R h=>?_
  simp only[*,go_sem]
  refine aR hJ _ (s.2 _ (fun a v h=>aJ a v h) v10 e _ R) ?_
  try simp only[*,go_sem]
  revert h;refine jC hJ (by simp only[*,go_sem]) (fun S h=>?_) fun S h=>?_
  ·obtain rfl:=sI h
   refine ag hJ ?_
   simp only[*,go_sem]
   have T:=cq (n:=i11) (by have:=l;omega)
   refine ag hJ ?_
   simp only[*,go_sem]
   refine ⟨b.length - (i11+1),by omega,_,Le.sub (List.Sublist.cons _ (List.Sublist.refl _)),i11+1,e,rfl,by omega,q,rfl,?_⟩
   simp only[*,go_sem]
  obtain rfl:=sI h
  refine aG hJ ?_
  have T:=cq (n:=i11) (by have:=l;omega)
  refine ag hJ ?_
  simp only[*,go_sem]
  refine ⟨b.length - (i11+1),by omega,_,Le.sub (List.Sublist.cons _ (List.Sublist.refl _)),i11+1,v10,rfl,by omega,q,rfl,?_⟩
  simp only[*,go_sem]
 have a0:=Nat.not_lt.2 p
 refine bJ hJ (by simp only[*,go_sem]) ?_
 rw[List.drop_eq_nil_of_le p] at c
 obtain rfl:=sI c;clear c
 have h:=F
 dsimp only[aO] at h
 obtain rfl:=sI h
 refine b7 ?_
 simp only[go_sem]
 refine aa hJ (ag hJ ?_)
 simp only[*,go_sem]
 refine aB ?_
 simp only[*,go_sem]
def ry (u0:bB)(a:bB):Option Bool:=
 ah (gv a u0) fun b=>some b
theorem Fa {ro:Addr->Option Value}(u0:bB)(a:bB){r:Bool}(h:ry u0 a=some r):aC Tryz.prog 86 #[.agg #[.int .i64 u0.spot.ax,.int .i64 u0.spot.high.num,.int .i64 u0.spot.high.den,.int .i64 u0.at_,.int .i64 u0.high.num,.int .i64 u0.high.den],.agg #[.int .i64 a.spot.ax,.int .i64 a.spot.high.num,.int .i64 a.spot.high.den,.int .i64 a.at_,.int .i64 a.high.num,.int .i64 a.high.den]] ⟨ro,[]⟩ (fun v _=>v= .bool r):=by
 unfold ry at h
 refine aC.go Tryz.func86 rfl Tryz.ntmps86 Tryz.results86 (by simp) fun main J hJ A c hd hs=>?_
 have d:=hs 0
 have k1:=hs 1
 clear hs
 refine aa hJ (ag hJ ?_)
 simp only[*,go_sem]
 refine av fun e r1 n1=>?_;try simp only[au] at n1
 refine av fun b2 r2 n2=>?_;try simp only[au] at n2
 try simp only[*,go_sem]
 refine aa hJ (ag hJ ?_)
 revert h;refine bS fun f b h=>?_
 obtain rfl:=sI h
 simp only[*,go_sem]
 refine aR hJ _ (ri a u0 b) (aD ?_)
 try simp only[*,go_sem]
 refine aB ?_
 simp only[*,go_sem]
def rz (u0:ak)(a:ak):Option Bool:=
 ah (eD a u0) fun b=>some b
theorem Fb {ro:Addr->Option Value}(u0:ak)(a:ak){r:Bool}(h:rz u0 a=some r):aC Tryz.prog 79 #[.agg #[.int .i64 u0.num,.int .i64 u0.den],.agg #[.int .i64 a.num,.int .i64 a.den]] ⟨ro,[]⟩ (fun v _=>v= .bool r):=by
 unfold rz at h
 refine aC.go Tryz.func79 rfl Tryz.ntmps79 Tryz.results79 (by simp) fun main J hJ A c hd hs=>?_
 have d:=hs 0
 have k1:=hs 1
 clear hs
 refine aa hJ (ag hJ ?_)
 simp only[*,go_sem]
 refine av fun e r1 n1=>?_;try simp only[au] at n1
 refine av fun b2 r2 n2=>?_;try simp only[au] at n2
 try simp only[*,go_sem]
 refine aa hJ (ag hJ ?_)
 revert h;refine bS fun f b h=>?_
 obtain rfl:=sI h
 simp only[*,go_sem]
 refine aR hJ _ (iJ a u0 b) (aD ?_)
 try simp only[*,go_sem]
 refine aB ?_
 simp only[*,go_sem]
def rA (u0:aj)(i32:Nat)(a:bP)(st:Int):Option (Fl Int Int):=
 ah (m9 u0 a.aW) fun b=>cond (!b) (some (.rt 6)) (some (.nx st))
def l6 (u0:aj):Option Int:=
 cond (decide (3<(u0.told.length:Int))) (some 2) (ah (bE (rA u0) 0 u0.told 0) fun o=>aO o (fun a=>some 0) (fun _ _=>none) (fun r=>some r))
theorem Fc {ro:Addr->Option Value}(u0:aj){s1 c d j:Value}(e:bG ro u0 s1 c d j){r:Int}(h:l6 u0=some r):aC Tryz.prog 209 #[bv u0 s1 c d j] ⟨ro,[]⟩ (fun v _=>v= .int .i64 r):=by
 obtain ⟨d24,q,rfl,Q,s,-⟩:=id e.t
 unfold l6 at h
 refine aC.go Tryz.func209 rfl Tryz.ntmps209 Tryz.results209 (by simp) fun main J hJ A u hd hs=>?_
 have w:=hs 0
 clear hs
 refine aa hJ (ag hJ ?_)
 simp only[*,go_sem]
 refine av fun y R z=>?_;try simp only[au] at z
 try simp only[*,go_sem]
 refine aa hJ (aa hJ (ag hJ ?_))
 simp only[*,go_sem]
 revert h;refine jC hJ (by simp only[*,go_sem]) (fun B h=>?_) fun B h=>?_
 ·obtain rfl:=sI h
  refine aa hJ (ag hJ ?_)
  simp only[*,go_sem]
  refine aB ?_
  simp only[*,go_sem]
 refine aG hJ (aa hJ ?_)
 refine aa hJ (ag hJ ?_)
 simp only[*,go_sem]
 refine aY hJ ?_
 revert h;refine bS fun C a k=>?_
 refine cc hJ [2,4,14,15,16,17,18,19,20,21,22,23] (fun m a' F'=>∃(i32:Nat) (b:Int),m=u0.told.length - i32/\i32<=u0.told.length/\bE (rA u0) i32 (u0.told.drop i32) b=some C/\F'=⟨ro,(y,bl u0 s1 c d (sl d24 u0.told q))::[]⟩/\slot a' 14= .int .i64 (i32:Int)/\slot a' 2= .int .i64 b) u0.told.length ?_ ?_
 ·refine ⟨0,0,(Nat.sub_zero _).symm,Nat.zero_le _,a,rfl,?_⟩
  simp only[*,go_sem]
 rintro S T F' l ⟨i32,b,rfl,U,a,rfl,V,W⟩
 obtain ⟨D,E,F⟩:=l.pick [1,12,13] (by decide)
 simp only[*,go_sem] at D E F
 clear l u hd w
 refine aa hJ (ag hJ ?_)
 simp only[*,go_sem]
 refine aa hJ ?_
 rcases Nat.lt_or_ge i32 u0.told.length with G|o
 ·refine bM hJ (by simp only[*,go_sem]) ?_
  refine aG hJ ?_
  obtain ⟨p,f⟩:∃x,u0.told[i32]?=some x:=⟨_,List.getElem?_eq_getElem G⟩
  rw[c7 f] at a
  revert a;refine bS fun X h g=>?_
  unfold rA at h
  try dsimp only at h
  obtain ⟨Y,H,I,K,i⟩:=e.t.el _ _ f
  obtain rfl:H=p.cells:=K
  cases I
  have L:=i 0 _ rfl;simp only[go_sem] at L
  have M:=i 1 _ rfl;simp only[go_sem] at M
  clear i f
  refine aa hJ (aY hJ (aa hJ ?_))
  refine ag hJ ?_
  simp only[*,go_sem]
  refine av fun Z ab N=>?_;try simp only[au] at N
  try simp only[*,go_sem]
  refine aa hJ (ag hJ ?_)
  revert h;refine bS fun ad O h=>?_
  simp only[*,go_sem]
  refine aR hJ _ (Ac u0 (e.mono aJ) p.aW O) (aD ?_)
  try simp only[*,go_sem]
  revert h;refine jC hJ (by simp only[*,go_sem]) (fun P h=>?_) fun P h=>?_
  ·obtain rfl:=sI h
   refine aa hJ (ag hJ ?_)
   simp only[*,go_sem]
   obtain rfl:=sI g;clear g
   have h:=k
   dsimp only[aO] at h
   obtain rfl:=sI h
   refine aB ?_
   simp only[*,go_sem]
  obtain rfl:=sI h
  refine aG hJ ?_
  have ae:=cq (n:=i32) (by have:=s;omega)
  refine ag hJ ?_
  simp only[*,go_sem]
  refine ⟨u0.told.length - (i32+1),by omega,_,Le.sub (List.Sublist.cons _ (List.Sublist.refl _)),i32+1,b,rfl,by omega,g,rfl,?_⟩
  simp only[*,go_sem]
 have al:=Nat.not_lt.2 o
 refine bJ hJ (by simp only[*,go_sem]) ?_
 rw[List.drop_eq_nil_of_le o] at a
 obtain rfl:=sI a;clear a
 have h:=k
 dsimp only[aO] at h
 obtain rfl:=sI h
 refine b7 ?_
 simp only[go_sem]
 refine aa hJ (ag hJ ?_)
 simp only[*,go_sem]
 refine aB ?_
 simp only[*,go_sem]
def rC (i34:Nat)(a:bR)(st:Int):Option (Fl Int Int):=
 ah (fC a.back 1 20) fun b=>cond (!b) (some (.rt 1)) (ah (pF a.high 0 60) fun c=>cond (!c) (some (.rt 1)) (cond (decide (3<=(IntKind.i64.wrap (a.high.high - a.high.low)))) (some (.rt 1)) (some (.nx st))))
def l7 (u0:aj):Option Int:=
 ah (fC (u0.aF.length:Int) 1 3) fun a=>cond (!a) (some 2) (ah (bE (rC) 0 u0.aF 0) fun o=>aO o (fun b=>some 0) (fun _ _=>none) (fun r=>some r))
theorem Fe {ro:Addr->Option Value}(u0:aj){s1 f k g:Value}(l:bG ro u0 s1 f k g){r:Int}(h:l7 u0=some r):aC Tryz.prog 208 #[bv u0 s1 f k g] ⟨ro,[]⟩ (fun v _=>v= .int .i64 r):=by
 obtain ⟨d17,q,rfl,V,s,-⟩:=id l.y
 unfold l7 at h
 refine aC.go Tryz.func208 rfl Tryz.ntmps208 Tryz.results208 (by simp) fun main J hJ A t hd hs=>?_
 have u:=hs 0
 clear hs
 refine aa hJ (ag hJ ?_)
 simp only[*,go_sem]
 refine av fun w W z=>?_;try simp only[au] at z
 try simp only[*,go_sem]
 refine aa hJ (aa hJ (ag hJ ?_))
 revert h;refine bS fun X B h=>?_
 simp only[*,go_sem]
 refine aR hJ _ (gu (u0.aF.length:Int) 1 3 B) (aD ?_)
 try simp only[*,go_sem]
 revert h;refine jC hJ (by simp only[*,go_sem]) (fun C h=>?_) fun C h=>?_
 ·obtain rfl:=sI h
  refine aa hJ (ag hJ ?_)
  simp only[*,go_sem]
  refine aB ?_
  simp only[*,go_sem]
 refine aG hJ (aa hJ ?_)
 refine aa hJ (ag hJ ?_)
 simp only[*,go_sem]
 refine aY hJ ?_
 revert h;refine bS fun D a c=>?_
 refine cc hJ [2,4,15,16,17,18,19,20,21,22,23,24,25,26,27,28,29,30,31,32,33,34,35,36,37,38,39] (fun m a' F'=>∃(i34:Nat) (d:Int),m=u0.aF.length - i34/\i34<=u0.aF.length/\bE (rC) i34 (u0.aF.drop i34) d=some D/\F'=⟨ro,(w,bl u0 s1 f (sl d17 u0.aF q) g)::[]⟩/\slot a' 15= .int .i64 (i34:Int)/\slot a' 2= .int .i64 d) u0.aF.length ?_ ?_
 ·refine ⟨0,0,(Nat.sub_zero _).symm,Nat.zero_le _,a,rfl,?_⟩
  simp only[*,go_sem]
 rintro Y Z F' o ⟨i34,d,rfl,ab,a,rfl,ad,ae⟩
 obtain ⟨E,F,G⟩:=o.pick [13,14] (by decide)
 simp only[*,go_sem] at E F G
 clear o t hd u
 refine aa hJ (ag hJ ?_)
 simp only[*,go_sem]
 refine aa hJ ?_
 rcases Nat.lt_or_ge i34 u0.aF.length with H|p
 ·refine bM hJ (by simp only[*,go_sem]) ?_
  refine aG hJ ?_
  obtain ⟨i,j⟩:∃x,u0.aF[i34]?=some x:=⟨_,List.getElem?_eq_getElem H⟩
  rw[c7 j] at a
  revert a;refine bS fun al h b=>?_
  unfold rC at h
  try dsimp only at h
  obtain ⟨ao,I,K,L,e⟩:=l.y.el _ _ j
  obtain rfl:I=i.cells:=L
  cases K
  have M:=e 0 _ rfl;simp only[go_sem] at M
  have N:=e 1 _ rfl;simp only[go_sem] at N
  have O:=e 2 _ rfl;simp only[go_sem] at O
  clear e j
  refine aa hJ (aY hJ (aa hJ ?_))
  refine ag hJ ?_
  simp only[*,go_sem]
  refine av fun ar a0 P=>?_;try simp only[au] at P
  try simp only[*,go_sem]
  refine aa hJ (ag hJ ?_)
  revert h;refine bS fun a2 Q h=>?_
  simp only[*,go_sem]
  refine aR hJ _ (gu i.back 1 20 Q) (aD ?_)
  revert h;refine cS (fun R h=>?_) fun R h=>?_
  ·obtain rfl:=sI h
   try simp only[*,go_sem]
   refine bM hJ (by simp only[*,go_sem]) ?_
   refine aa hJ (ag hJ ?_)
   simp only[*,go_sem]
   obtain rfl:=sI b;clear b
   have h:=c
   dsimp only[aO] at h
   obtain rfl:=sI h
   refine aB ?_
   simp only[*,go_sem]
  revert h;refine bS fun a3 S h=>?_
  try simp only[*,go_sem]
  refine aR hJ _ (Ab i.high 0 60 S) (aD ?_)
  revert h;refine cS (fun T h=>?_) fun T h=>?_
  ·obtain rfl:=sI h
   try simp only[*,go_sem]
   refine bM hJ (by simp only[*,go_sem]) ?_
   refine aa hJ (ag hJ ?_)
   simp only[*,go_sem]
   obtain rfl:=sI b;clear b
   have h:=c
   dsimp only[aO] at h
   obtain rfl:=sI h
   refine aB ?_
   simp only[*,go_sem]
  try simp only[*,go_sem]
  revert h;refine jC hJ (by simp only[*,go_sem]) (fun U h=>?_) fun U h=>?_
  ·obtain rfl:=sI h
   refine aa hJ (ag hJ ?_)
   simp only[*,go_sem]
   obtain rfl:=sI b;clear b
   have h:=c
   dsimp only[aO] at h
   obtain rfl:=sI h
   refine aB ?_
   simp only[*,go_sem]
  obtain rfl:=sI h
  refine aG hJ ?_
  have a4:=cq (n:=i34) (by have:=s;omega)
  refine ag hJ ?_
  simp only[*,go_sem]
  refine ⟨u0.aF.length - (i34+1),by omega,_,Le.sub (List.Sublist.cons _ (List.Sublist.refl _)),i34+1,d,rfl,by omega,b,rfl,?_⟩
  simp only[*,go_sem]
 have a5:=Nat.not_lt.2 p
 refine bJ hJ (by simp only[*,go_sem]) ?_
 rw[List.drop_eq_nil_of_le p] at a
 obtain rfl:=sI a;clear a
 have h:=c
 dsimp only[aO] at h
 obtain rfl:=sI h
 refine b7 ?_
 simp only[go_sem]
 refine aa hJ (ag hJ ?_)
 simp only[*,go_sem]
 refine aB ?_
 simp only[*,go_sem]
def rD (u0:aj)(i32:Nat)(a:bH)(st:Int):Option (Fl Int Int):=
 ah (eo u0 a.place) fun c=>cond (!c) (some (.rt 6)) (ah (gL a.cn u0) fun b=>cond ((b != 0)) (some (.rt b)) (some (.nx st)))
def l8 (u0:aj):Option Int:=
 cond (decide (3<(u0.props.length:Int))) (some 2) (ah (bE (rD u0) 0 u0.props 0) fun o=>aO o (fun a=>some 0) (fun _ _=>none) (fun r=>some r))
theorem Ff {ro:Addr->Option Value}(u0:aj){s1 l e f:Value}(c:bG ro u0 s1 l e f){r:Int}(h:l8 u0=some r):aC Tryz.prog 207 #[bv u0 s1 l e f] ⟨ro,[]⟩ (fun v _=>v= .int .i64 r):=by
 obtain ⟨d10,s,rfl,S,t,-⟩:=id c.p
 unfold l8 at h
 refine aC.go Tryz.func207 rfl Tryz.ntmps207 Tryz.results207 (by simp) fun main J hJ A u hd hs=>?_
 have w:=hs 0
 clear hs
 refine aa hJ (ag hJ ?_)
 simp only[*,go_sem]
 refine av fun y T z=>?_;try simp only[au] at z
 try simp only[*,go_sem]
 refine aa hJ (aa hJ (ag hJ ?_))
 simp only[*,go_sem]
 revert h;refine jC hJ (by simp only[*,go_sem]) (fun B h=>?_) fun B h=>?_
 ·obtain rfl:=sI h
  refine aa hJ (ag hJ ?_)
  simp only[*,go_sem]
  refine aB ?_
  simp only[*,go_sem]
 refine aG hJ (aa hJ ?_)
 refine aa hJ (ag hJ ?_)
 simp only[*,go_sem]
 refine aY hJ ?_
 revert h;refine bS fun C a g=>?_
 refine cc hJ [2,4,5,15,16,17,18,19,20,21,22,23,24,25,26,27,28,29,30,31] (fun m a' F'=>∃(i32:Nat) (d:Int),m=u0.props.length - i32/\i32<=u0.props.length/\bE (rD u0) i32 (u0.props.drop i32) d=some C/\F'=⟨ro,(y,bl u0 s1 (sl d10 u0.props s) e f)::[]⟩/\slot a' 15= .int .i64 (i32:Int)/\slot a' 2= .int .i64 d) u0.props.length ?_ ?_
 ·refine ⟨0,0,(Nat.sub_zero _).symm,Nat.zero_le _,a,rfl,?_⟩
  simp only[*,go_sem]
 rintro U V F' o ⟨i32,d,rfl,W,a,rfl,X,Y⟩
 obtain ⟨D,E,F⟩:=o.pick [1,13,14] (by decide)
 simp only[*,go_sem] at D E F
 clear o u hd w
 refine aa hJ (ag hJ ?_)
 simp only[*,go_sem]
 refine aa hJ ?_
 rcases Nat.lt_or_ge i32 u0.props.length with G|q
 ·refine bM hJ (by simp only[*,go_sem]) ?_
  refine aG hJ ?_
  obtain ⟨i,j⟩:∃x,u0.props[i32]?=some x:=⟨_,List.getElem?_eq_getElem G⟩
  rw[c7 j] at a
  revert a;refine bS fun Z h b=>?_
  unfold rD at h
  try dsimp only at h
  obtain ⟨ab,H,I,K,k⟩:=c.p.el _ _ j
  obtain rfl:H=i.cells:=K
  cases I
  have L:=k 0 _ rfl;simp only[go_sem] at L
  have M:=k 1 _ rfl;simp only[go_sem] at M
  clear k j
  refine aa hJ (aY hJ (aa hJ ?_))
  refine ag hJ ?_
  simp only[*,go_sem]
  refine av fun ad ae N=>?_;try simp only[au] at N
  try simp only[*,go_sem]
  refine aa hJ (aa hJ (ag hJ ?_))
  revert h;refine bS fun al O h=>?_
  simp only[*,go_sem]
  refine aR hJ _ (rm u0 (c.mono aJ) i.place O) (aD ?_)
  try simp only[*,go_sem]
  revert h;refine jC hJ (by simp only[*,go_sem]) (fun P h=>?_) fun P h=>?_
  ·obtain rfl:=sI h
   refine aa hJ (ag hJ ?_)
   simp only[*,go_sem]
   obtain rfl:=sI b;clear b
   have h:=g
   dsimp only[aO] at h
   obtain rfl:=sI h
   refine aB ?_
   simp only[*,go_sem]
  refine aG hJ (aa hJ ?_)
  refine ag hJ ?_
  revert h;refine bS fun ao Q h=>?_
  simp only[*,go_sem]
  refine aR hJ _ (vi i.cn u0 (c.mono aJ) Q) (aD ?_)
  try simp only[*,go_sem]
  refine aa hJ (ag hJ ?_)
  simp only[*,go_sem]
  revert h;refine jC hJ (by simp only[*,go_sem]) (fun R h=>?_) fun R h=>?_
  ·obtain rfl:=sI h
   refine aa hJ (ag hJ ?_)
   simp only[*,go_sem]
   obtain rfl:=sI b;clear b
   have h:=g
   dsimp only[aO] at h
   obtain rfl:=sI h
   refine aB ?_
   simp only[*,go_sem]
  obtain rfl:=sI h
  refine aG hJ ?_
  have ar:=cq (n:=i32) (by have:=t;omega)
  refine ag hJ ?_
  simp only[*,go_sem]
  refine ⟨u0.props.length - (i32+1),by omega,_,Le.sub (List.Sublist.cons _ (List.Sublist.refl _)),i32+1,d,rfl,by omega,b,rfl,?_⟩
  simp only[*,go_sem]
 have a0:=Nat.not_lt.2 q
 refine bJ hJ (by simp only[*,go_sem]) ?_
 rw[List.drop_eq_nil_of_le q] at a
 obtain rfl:=sI a;clear a
 have h:=g
 dsimp only[aO] at h
 obtain rfl:=sI h
 refine b7 ?_
 simp only[go_sem]
 refine aa hJ (ag hJ ?_)
 simp only[*,go_sem]
 refine aB ?_
 simp only[*,go_sem]
def rE (u0:aj)(i34:Nat)(a:bF)(st:Int):Option (Fl Int Int):=
 ah (fC a.ax 0 (IntKind.i64.wrap (u0.aQ - 1))) fun b=>cond (!b) (some (.rt 1)) (ah (fC a.high 0 60) fun c=>cond (!c) (some (.rt 1)) (cond (decide (0<(i34:Int))) (ah (bK u0.an (IntKind.i64.wrap ((i34:Int) - 1))) fun d=>cond (decide (a.ax<=d.ax)) (some (.rt 7)) (some (.nx st))) (some (.nx st))))
def kV (u0:aj):Option Int:=
 ah (fC (u0.an.length:Int) 2 5) fun a=>cond (!a) (some 2) (ah (bE (rE u0) 0 u0.an 0) fun o=>aO o (fun b=>some 0) (fun _ _=>none) (fun r=>some r))
theorem Fg {ro:Addr->Option Value}(u0:aj){s1 f g i:Value}(j:bG ro u0 s1 f g i){r:Int}(h:kV u0=some r):aC Tryz.prog 206 #[bv u0 s1 f g i] ⟨ro,[]⟩ (fun v _=>v= .int .i64 r):=by
 obtain ⟨d3,c4,rfl,ao,q,-⟩:=id j.e
 unfold kV at h
 refine aC.go Tryz.func206 rfl Tryz.ntmps206 Tryz.results206 (by simp) fun main J hJ A w hd hs=>?_
 have y:=hs 0
 clear hs
 refine aa hJ (ag hJ ?_)
 simp only[*,go_sem]
 refine av fun z ar B=>?_;try simp only[au] at B
 try simp only[*,go_sem]
 refine aa hJ (aa hJ (ag hJ ?_))
 revert h;refine bS fun a0 C h=>?_
 simp only[*,go_sem]
 refine aR hJ _ (gu (u0.an.length:Int) 2 5 C) (aD ?_)
 try simp only[*,go_sem]
 revert h;refine jC hJ (by simp only[*,go_sem]) (fun D h=>?_) fun D h=>?_
 ·obtain rfl:=sI h
  refine aa hJ (ag hJ ?_)
  simp only[*,go_sem]
  refine aB ?_
  simp only[*,go_sem]
 refine aG hJ (aa hJ ?_)
 refine aa hJ (ag hJ ?_)
 simp only[*,go_sem]
 refine aY hJ ?_
 revert h;refine bS fun E b d=>?_
 refine cc hJ [2,3,4,15,16,17,18,19,20,21,22,23,24,25,26,27,28,29,30,31,32,33,34,35,36,37,38,39,40,41,42,43,44,45,46,47,48,49] (fun m a' F'=>∃(i34:Nat) (c:Int),m=u0.an.length - i34/\i34<=u0.an.length/\bE (rE u0) i34 (u0.an.drop i34) c=some E/\F'=⟨ro,(z,bl u0 (sl d3 u0.an c4) f g i)::[]⟩/\slot a' 15= .int .i64 (i34:Int)/\slot a' 2= .int .i64 c) u0.an.length ?_ ?_
 ·refine ⟨0,0,(Nat.sub_zero _).symm,Nat.zero_le _,b,rfl,?_⟩
  simp only[*,go_sem]
 rintro a2 a3 F' s ⟨i34,c,rfl,a4,b,rfl,a5,a6⟩
 obtain ⟨F,G,H⟩:=s.pick [1,13,14] (by decide)
 simp only[*,go_sem] at F G H
 clear s w hd y
 refine aa hJ (ag hJ ?_)
 simp only[*,go_sem]
 refine aa hJ ?_
 rcases Nat.lt_or_ge i34 u0.an.length with I|t
 ·refine bM hJ (by simp only[*,go_sem]) ?_
  refine aG hJ ?_
  obtain ⟨k,l⟩:∃x,u0.an[i34]?=some x:=⟨_,List.getElem?_eq_getElem I⟩
  rw[c7 l] at b
  revert b;refine bS fun a7 h a=>?_
  unfold rE at h
  try dsimp only at h
  obtain ⟨a8,K,L,M,o⟩:=j.e.el _ _ l
  obtain rfl:K=k.cells:=M
  cases L
  have N:=o 0 _ rfl;simp only[go_sem] at N
  have O:=o 1 _ rfl;simp only[go_sem] at O
  clear o l
  refine aa hJ (aY hJ (aa hJ ?_))
  refine ag hJ ?_
  simp only[*,go_sem]
  refine av fun a9 ba P=>?_;try simp only[au] at P
  try simp only[*,go_sem]
  refine aY hJ (aa hJ ?_)
  refine aa hJ (ag hJ ?_)
  revert h;refine bS fun bb Q h=>?_
  simp only[*,go_sem]
  refine aR hJ _ (gu k.ax 0 (IntKind.i64.wrap (u0.aQ - 1)) Q) (aD ?_)
  try simp only[*,go_sem]
  revert h;refine jC hJ (by simp only[*,go_sem]) (fun R h=>?_) fun R h=>?_
  ·obtain rfl:=sI h
   refine aG hJ ?_
   refine bM hJ (by simp only[*,go_sem]) ?_
   refine aa hJ (ag hJ ?_)
   simp only[*,go_sem]
   obtain rfl:=sI a;clear a
   have h:=d
   dsimp only[aO] at h
   obtain rfl:=sI h
   refine aB ?_
   simp only[*,go_sem]
  refine ag hJ ?_
  revert h;refine bS fun bc S h=>?_
  simp only[*,go_sem]
  refine aR hJ _ (gu k.high 0 60 S) (aD ?_)
  try simp only[*,go_sem]
  revert h;refine jC hJ (by simp only[*,go_sem]) (fun T h=>?_) fun T h=>?_
  ·obtain rfl:=sI h
   refine aa hJ (ag hJ ?_)
   simp only[*,go_sem]
   obtain rfl:=sI a;clear a
   have h:=d
   dsimp only[aO] at h
   obtain rfl:=sI h
   refine aB ?_
   simp only[*,go_sem]
  refine aa hJ ?_
  refine dh hJ mixed 16 2 (by simp only[*,go_sem]) (by kernel_rfl) ?_
  revert h;refine cS (fun U h=>?_) fun U h=>?_
  ·revert h;refine bS fun V W h=>?_
   obtain ⟨bd,bj,u⟩:=cM W
   obtain ⟨bk,X,Y,Z,p⟩:=j.e.el _ _ u
   obtain rfl:X=V.cells:=Z
   cases Y
   have ab:=p 0 _ rfl;simp only[go_sem] at ab
   have ad:=p 1 _ rfl;simp only[go_sem] at ad
   clear p u
   try simp only[*,go_sem]
   revert h;refine jC hJ (by simp only[*,go_sem]) (fun ae h=>?_) fun ae h=>?_
   ·obtain rfl:=sI h
    refine aa hJ (ag hJ ?_)
    simp only[*,go_sem]
    obtain rfl:=sI a;clear a
    have h:=d
    dsimp only[aO] at h
    obtain rfl:=sI h
    refine aB ?_
    simp only[*,go_sem]
   obtain rfl:=sI h
   refine aG hJ ?_
   have al:=cq (n:=i34) (by have:=q;omega)
   refine ag hJ ?_
   simp only[*,go_sem]
   refine ⟨u0.an.length - (i34+1),by omega,_,Le.sub (List.Sublist.cons _ (List.Sublist.refl _)),i34+1,c,rfl,by omega,a,rfl,?_⟩
   simp only[*,go_sem]
  obtain rfl:=sI h
  try simp only[*,go_sem]
  refine bJ hJ (by simp only[*,go_sem]) ?_
  refine aG hJ ?_
  have al:=cq (n:=i34) (by have:=q;omega)
  refine ag hJ ?_
  simp only[*,go_sem]
  refine ⟨u0.an.length - (i34+1),by omega,_,Le.sub (List.Sublist.cons _ (List.Sublist.refl _)),i34+1,c,rfl,by omega,a,rfl,?_⟩
  simp only[*,go_sem]
 have bm:=Nat.not_lt.2 t
 refine bJ hJ (by simp only[*,go_sem]) ?_
 rw[List.drop_eq_nil_of_le t] at b
 obtain rfl:=sI b;clear b
 have h:=d
 dsimp only[aO] at h
 obtain rfl:=sI h
 refine b7 ?_
 simp only[go_sem]
 refine aa hJ (ag hJ ?_)
 simp only[*,go_sem]
 refine aB ?_
 simp only[*,go_sem]
def nh (u0:aj):Option Int:=
 ah (fC u0.aQ 2 60) fun b=>cond (!b) (some 1) (ah (fC u0.aN 0 60) fun c=>cond (!c) (some 1) (ah (fC u0.aE.den 1 20) fun d=>cond (!d) (some 1) (ah (fC u0.aE.num 0 20) fun e=>cond (!e) (some 1) (ah (j3 u0.aE.num u0.aE.den) fun a=>cond (!((a.num==u0.aE.num)&&(a.den==u0.aE.den))) (some 3) (some 0)))))
theorem Fh {ro:Addr->Option Value}(u0:aj){s1 a b c:Value}(z:bG ro u0 s1 a b c){r:Int}(h:nh u0=some r):aC Tryz.prog 205 #[bv u0 s1 a b c] ⟨ro,[]⟩ (fun v _=>v= .int .i64 r):=by
 unfold nh at h
 refine aC.go Tryz.func205 rfl Tryz.ntmps205 Tryz.results205 (by simp) fun main J hJ A d hd hs=>?_
 have e:=hs 0
 clear hs
 refine aa hJ (ag hJ ?_)
 simp only[*,go_sem]
 refine av fun B C f=>?_;try simp only[au] at f
 try simp only[*,go_sem]
 refine aa hJ (aY hJ (aa hJ ?_))
 refine aa hJ (ag hJ ?_)
 revert h;refine bS fun D g h=>?_
 simp only[*,go_sem]
 refine aR hJ _ (gu u0.aQ 2 60 g) (aD ?_)
 try simp only[*,go_sem]
 revert h;refine jC hJ (by simp only[*,go_sem]) (fun i h=>?_) fun i h=>?_
 ·obtain rfl:=sI h
  refine aG hJ ?_
  refine bM hJ (by simp only[*,go_sem]) ?_
  refine aa hJ (ag hJ ?_)
  simp only[*,go_sem]
  refine aB ?_
  simp only[*,go_sem]
 refine aa hJ (ag hJ ?_)
 revert h;refine bS fun E j h=>?_
 simp only[*,go_sem]
 refine aR hJ _ (gu u0.aN 0 60 j) (aD ?_)
 try simp only[*,go_sem]
 revert h;refine jC hJ (by simp only[*,go_sem]) (fun k h=>?_) fun k h=>?_
 ·obtain rfl:=sI h
  refine aG hJ ?_
  refine bM hJ (by simp only[*,go_sem]) ?_
  refine aa hJ (ag hJ ?_)
  simp only[*,go_sem]
  refine aB ?_
  simp only[*,go_sem]
 refine aa hJ (ag hJ ?_)
 revert h;refine bS fun G l h=>?_
 simp only[*,go_sem]
 refine aR hJ _ (gu u0.aE.den 1 20 l) (aD ?_)
 try simp only[*,go_sem]
 revert h;refine jC hJ (by simp only[*,go_sem]) (fun m h=>?_) fun m h=>?_
 ·obtain rfl:=sI h
  refine aG hJ ?_
  refine bM hJ (by simp only[*,go_sem]) ?_
  refine aa hJ (ag hJ ?_)
  simp only[*,go_sem]
  refine aB ?_
  simp only[*,go_sem]
 refine ag hJ ?_
 revert h;refine bS fun H n h=>?_
 simp only[*,go_sem]
 refine aR hJ _ (gu u0.aE.num 0 20 n) (aD ?_)
 try simp only[*,go_sem]
 revert h;refine jC hJ (by simp only[*,go_sem]) (fun o h=>?_) fun o h=>?_
 ·obtain rfl:=sI h
  refine aa hJ (ag hJ ?_)
  simp only[*,go_sem]
  refine aB ?_
  simp only[*,go_sem]
 refine aa hJ ?_
 refine dh hJ mixed 14 1 (by simp only[*,go_sem]) (by kernel_rfl) ?_
 revert h;refine bS fun I p h=>?_
 simp only[*,go_sem]
 refine ⟨_,bA hJ fun F K=>pH u0.aE.num u0.aE.den p,bV ?_⟩
 try simp only[*,go_sem]
 revert h;refine jC hJ (by simp only[*,go_sem]) (fun q h=>?_) fun q h=>?_
 ·obtain rfl:=sI h
  refine aa hJ ?_
  refine ew [2] fun L s t u=>?_
  simp only[*,go_sem] at s t u
  clear d hd e
  refine ag hJ ?_
  simp only[*,go_sem]
  refine aB ?_
  simp only[*,go_sem]
 obtain rfl:=sI h
 refine aG hJ (aa hJ ?_)
 refine ew [2] fun M w x y=>?_
 simp only[*,go_sem] at w x y
 clear d hd e
 refine ag hJ ?_
 simp only[*,go_sem]
 refine aB ?_
 simp only[*,go_sem]
def cT (ro:Addr->Option Value):Prop:=
 ro ⟨0,0,none⟩=some (.func (.func 205) #[] #[])/\ro ⟨0,1,none⟩=some (.func (.func 206) #[] #[])/\ro ⟨0,2,none⟩=some (.func (.func 207) #[] #[])/\ro ⟨0,3,none⟩=some (.func (.func 208) #[] #[])/\ro ⟨0,4,none⟩=some (.func (.func 209) #[] #[])
theorem cT.mono {ro aL:Addr->Option Value}(h:cT ro)(a:Ext ro aL):cT aL:=
 ⟨a _ _ h.1,a _ _ h.2.1,a _ _ h.2.2.1,a _ _ h.2.2.2.1,a _ _ h.2.2.2.2⟩
def ni (_:aj):Option Int:=some 0
def kW (b:aj):Option Int:=ah (l6 b) fun x=>cond (x != 0) (some x) (ni b)
def kX (b:aj):Option Int:=ah (l7 b) fun x=>cond (x != 0) (some x) (kW b)
def kY (b:aj):Option Int:=ah (l8 b) fun x=>cond (x != 0) (some x) (kX b)
def kZ (b:aj):Option Int:=ah (kV b) fun x=>cond (x != 0) (some x) (kY b)
def iK (b:aj):Option Int:=ah (nh b) fun x=>cond (x != 0) (some x) (kZ b)
def eF (b:aj):Option Int:=iK b
def rF:Nat->aj->Option Int
 |0=>iK|1=>kZ|2=>kY|3=>kX|4=>kW|_=>ni
theorem Ae {ro:Addr->Option Value}(o:cT ro)(u0:aj){s1:Value}(e:aA ey ro s1 u0.an){s2:Value}(f:aA dW ro s2 u0.props){g:Value}(j:aA ek ro g u0.aF){k:Value}(l:aA c8 ro k u0.told){r:Int}(h:eF u0=some r):
  aC Tryz.prog 94 #[.agg #[.int .i64 u0.aQ,.int .i64 u0.aN,.int .i64 u0.aE.num,.int .i64 u0.aE.den,s1,s2,g,k]] ⟨ro,[]⟩ (fun v _=>v= .int .i64 r):=by
 obtain ⟨s,t,u,w,y⟩:=o
 replace h:rF 0 u0=some r:=h
 refine aC.go Tryz.func94 rfl Tryz.ntmps94 Tryz.results94 (by simp) fun main J hJ A p hd hs=>?_
 have h0:=hs 0
 clear hs
 first|refine ag hJ ?_|refine aa hJ (ag hJ ?_)|refine aa hJ (aa hJ (ag hJ ?_))|refine aa hJ (aa hJ (aa hJ (ag hJ ?_)))
 simp only[*,go_sem]
 intro d f1;have r1:=eB f1;have n1:=fz f1;simp only[au] at n1
 first|refine ag hJ ?_|refine aa hJ (ag hJ ?_)|refine aa hJ (aa hJ (ag hJ ?_))|refine aa hJ (aa hJ (aa hJ (ag hJ ?_)))
 simp only[*,go_sem]
 first|refine aY hJ (uH hJ (fun m a F=>∃i:Nat,F=⟨ro,[(d,.cells #[.int .i64 u0.aQ,.int .i64 u0.aN,.int .i64 u0.aE.num,.int .i64 u0.aE.den,s1,s2,g,k] 29)]⟩/\m=5 - i/\sz a=18/\a.defers=[]/\slot a 1= .pointer (some ⟨d,0,none⟩)/\slot a 6= .agg #[.func (.func 205) #[] #[],.func (.func 206) #[] #[],.func (.func 207) #[] #[],.func (.func 208) #[] #[],.func (.func 209) #[] #[]]/\slot a 7= .int .i64 i/\i<=5/\rF i u0=some r) (5) ?_ ?_)|refine aa hJ (aY hJ (uH hJ (fun m a F=>∃i:Nat,F=⟨ro,[(d,.cells #[.int .i64 u0.aQ,.int .i64 u0.aN,.int .i64 u0.aE.num,.int .i64 u0.aE.den,s1,s2,g,k] 29)]⟩/\m=5 - i/\sz a=18/\a.defers=[]/\slot a 1= .pointer (some ⟨d,0,none⟩)/\slot a 6= .agg #[.func (.func 205) #[] #[],.func (.func 206) #[] #[],.func (.func 207) #[] #[],.func (.func 208) #[] #[],.func (.func 209) #[] #[]]/\slot a 7= .int .i64 i/\i<=5/\rF i u0=some r) (5) ?_ ?_))|refine aa hJ (aa hJ (aY hJ (uH hJ (fun m a F=>∃i:Nat,F=⟨ro,[(d,.cells #[.int .i64 u0.aQ,.int .i64 u0.aN,.int .i64 u0.aE.num,.int .i64 u0.aE.den,s1,s2,g,k] 29)]⟩/\m=5 - i/\sz a=18/\a.defers=[]/\slot a 1= .pointer (some ⟨d,0,none⟩)/\slot a 6= .agg #[.func (.func 205) #[] #[],.func (.func 206) #[] #[],.func (.func 207) #[] #[],.func (.func 208) #[] #[],.func (.func 209) #[] #[]]/\slot a 7= .int .i64 i/\i<=5/\rF i u0=some r) (5) ?_ ?_)))
 ·refine ⟨0,rfl,rfl,?_⟩
  simp only[*,go_sem,-h]
  exact ⟨Nat.zero_le _,h⟩
 ·clear h
  rintro m a F ⟨i,rfl,rfl,p,hd,h1,z,B,hi,h⟩
  rcases i with _|_|_|_|_|i
  ·replace h:ah (nh u0) (fun x=>cond (x != 0) (some x) (kZ u0))=some r:=h
   have b:=fG h;clear h;obtain ⟨x,q,h⟩:=b
   have n:((0:Nat):Int)=0:=rfl
   first|refine ag hJ ?_|refine aa hJ (ag hJ ?_)|refine aa hJ (aa hJ (ag hJ ?_))|refine aa hJ (aa hJ (aa hJ (ag hJ ?_)))
   simp only[*,go_sem,-h]
   refine aa hJ ?_
   refine bM hJ (by simp only[*,go_sem,-h]) ?_
   refine aG hJ ?_
   refine aa hJ (aY hJ ?_)
   first|refine ag hJ ?_|refine aa hJ (ag hJ ?_)|refine aa hJ (aa hJ (ag hJ ?_))|refine aa hJ (aa hJ (aa hJ (ag hJ ?_)))
   simp only[*,go_sem,-h]
   first|refine ag hJ ?_|refine aa hJ (ag hJ ?_)|refine aa hJ (aa hJ (ag hJ ?_))|refine aa hJ (aa hJ (aa hJ (ag hJ ?_)))
   simp only[*,go_sem,-h]
   refine aR hJ _ (Fh u0 ⟨(e.mono aJ),(f.mono aJ),(j.mono aJ),(l.mono aJ)⟩ q) (aD ?_)
   simp only[*,go_sem,-h]
   first|refine ag hJ ?_|refine aa hJ (ag hJ ?_)|refine aa hJ (aa hJ (ag hJ ?_))|refine aa hJ (aa hJ (aa hJ (ag hJ ?_)))
   simp only[*,go_sem,-h]
   have b:=iG h;clear h;rcases b with ⟨c,h⟩|⟨c,h⟩
   ·refine bM hJ (by simp only[*,go_sem,-h]) ?_
    first|refine ag hJ ?_|refine aa hJ (ag hJ ?_)|refine aa hJ (aa hJ (ag hJ ?_))|refine aa hJ (aa hJ (aa hJ (ag hJ ?_)))
    simp only[*,go_sem,-h]
    have b:=Option.some.inj h;clear h;subst b
    refine aB ?_
    simp only[*,go_sem]
   ·refine bJ hJ (by simp only[*,go_sem,-h]) ?_
    refine aG hJ ?_
    refine ag hJ ?_
    simp only[*,go_sem,-h]
    refine ⟨5 - 1,by omega,_,Le.refl _,1,rfl,rfl,?_⟩
    have hw:IntKind.i64.wrap (0+1)=((1:Nat):Int):=by decide
    simp only[*,go_sem,-h]
    exact ⟨by omega,h⟩
  ·replace h:ah (kV u0) (fun x=>cond (x != 0) (some x) (kY u0))=some r:=h
   have b:=fG h;clear h;obtain ⟨x,q,h⟩:=b
   have n:((0+1:Nat):Int)=1:=rfl
   first|refine ag hJ ?_|refine aa hJ (ag hJ ?_)|refine aa hJ (aa hJ (ag hJ ?_))|refine aa hJ (aa hJ (aa hJ (ag hJ ?_)))
   simp only[*,go_sem,-h]
   refine aa hJ ?_
   refine bM hJ (by simp only[*,go_sem,-h]) ?_
   refine aG hJ ?_
   refine aa hJ (aY hJ ?_)
   first|refine ag hJ ?_|refine aa hJ (ag hJ ?_)|refine aa hJ (aa hJ (ag hJ ?_))|refine aa hJ (aa hJ (aa hJ (ag hJ ?_)))
   simp only[*,go_sem,-h]
   first|refine ag hJ ?_|refine aa hJ (ag hJ ?_)|refine aa hJ (aa hJ (ag hJ ?_))|refine aa hJ (aa hJ (aa hJ (ag hJ ?_)))
   simp only[*,go_sem,-h]
   refine aR hJ _ (Fg u0 ⟨(e.mono aJ),(f.mono aJ),(j.mono aJ),(l.mono aJ)⟩ q) (aD ?_)
   simp only[*,go_sem,-h]
   first|refine ag hJ ?_|refine aa hJ (ag hJ ?_)|refine aa hJ (aa hJ (ag hJ ?_))|refine aa hJ (aa hJ (aa hJ (ag hJ ?_)))
   simp only[*,go_sem,-h]
   have b:=iG h;clear h;rcases b with ⟨c,h⟩|⟨c,h⟩
   ·refine bM hJ (by simp only[*,go_sem,-h]) ?_
    first|refine ag hJ ?_|refine aa hJ (ag hJ ?_)|refine aa hJ (aa hJ (ag hJ ?_))|refine aa hJ (aa hJ (aa hJ (ag hJ ?_)))
    simp only[*,go_sem,-h]
    have b:=Option.some.inj h;clear h;subst b
    refine aB ?_
    simp only[*,go_sem]
   ·refine bJ hJ (by simp only[*,go_sem,-h]) ?_
    refine aG hJ ?_
    refine ag hJ ?_
    simp only[*,go_sem,-h]
    refine ⟨5 - 2,by omega,_,Le.refl _,2,rfl,rfl,?_⟩
    have hw:IntKind.i64.wrap (1+1)=((2:Nat):Int):=by decide
    simp only[*,go_sem,-h]
    exact ⟨by omega,h⟩
  ·replace h:ah (l8 u0) (fun x=>cond (x != 0) (some x) (kX u0))=some r:=h
   have b:=fG h;clear h;obtain ⟨x,q,h⟩:=b
   have n:((0+1+1:Nat):Int)=2:=rfl
   first|refine ag hJ ?_|refine aa hJ (ag hJ ?_)|refine aa hJ (aa hJ (ag hJ ?_))|refine aa hJ (aa hJ (aa hJ (ag hJ ?_)))
   simp only[*,go_sem,-h]
   refine aa hJ ?_
   refine bM hJ (by simp only[*,go_sem,-h]) ?_
   refine aG hJ ?_
   refine aa hJ (aY hJ ?_)
   first|refine ag hJ ?_|refine aa hJ (ag hJ ?_)|refine aa hJ (aa hJ (ag hJ ?_))|refine aa hJ (aa hJ (aa hJ (ag hJ ?_)))
   simp only[*,go_sem,-h]
   first|refine ag hJ ?_|refine aa hJ (ag hJ ?_)|refine aa hJ (aa hJ (ag hJ ?_))|refine aa hJ (aa hJ (aa hJ (ag hJ ?_)))
   simp only[*,go_sem,-h]
   refine aR hJ _ (Ff u0 ⟨(e.mono aJ),(f.mono aJ),(j.mono aJ),(l.mono aJ)⟩ q) (aD ?_)
   simp only[*,go_sem,-h]
   first|refine ag hJ ?_|refine aa hJ (ag hJ ?_)|refine aa hJ (aa hJ (ag hJ ?_))|refine aa hJ (aa hJ (aa hJ (ag hJ ?_)))
   simp only[*,go_sem,-h]
   have b:=iG h;clear h;rcases b with ⟨c,h⟩|⟨c,h⟩
   ·refine bM hJ (by simp only[*,go_sem,-h]) ?_
    first|refine ag hJ ?_|refine aa hJ (ag hJ ?_)|refine aa hJ (aa hJ (ag hJ ?_))|refine aa hJ (aa hJ (aa hJ (ag hJ ?_)))
    simp only[*,go_sem,-h]
    have b:=Option.some.inj h;clear h;subst b
    refine aB ?_
    simp only[*,go_sem]
   ·refine bJ hJ (by simp only[*,go_sem,-h]) ?_
    refine aG hJ ?_
    refine ag hJ ?_
    simp only[*,go_sem,-h]
    refine ⟨5 - 3,by omega,_,Le.refl _,3,rfl,rfl,?_⟩
    have hw:IntKind.i64.wrap (2+1)=((3:Nat):Int):=by decide
    simp only[*,go_sem,-h]
    exact ⟨by omega,h⟩
  ·replace h:ah (l7 u0) (fun x=>cond (x != 0) (some x) (kW u0))=some r:=h
   have b:=fG h;clear h;obtain ⟨x,q,h⟩:=b
   have n:((0+1+1+1:Nat):Int)=3:=rfl
   first|refine ag hJ ?_|refine aa hJ (ag hJ ?_)|refine aa hJ (aa hJ (ag hJ ?_))|refine aa hJ (aa hJ (aa hJ (ag hJ ?_)))
   simp only[*,go_sem,-h]
   refine aa hJ ?_
   refine bM hJ (by simp only[*,go_sem,-h]) ?_
   refine aG hJ ?_
   refine aa hJ (aY hJ ?_)
   first|refine ag hJ ?_|refine aa hJ (ag hJ ?_)|refine aa hJ (aa hJ (ag hJ ?_))|refine aa hJ (aa hJ (aa hJ (ag hJ ?_)))
   simp only[*,go_sem,-h]
   first|refine ag hJ ?_|refine aa hJ (ag hJ ?_)|refine aa hJ (aa hJ (ag hJ ?_))|refine aa hJ (aa hJ (aa hJ (ag hJ ?_)))
   simp only[*,go_sem,-h]
   refine aR hJ _ (Fe u0 ⟨(e.mono aJ),(f.mono aJ),(j.mono aJ),(l.mono aJ)⟩ q) (aD ?_)
   simp only[*,go_sem,-h]
   first|refine ag hJ ?_|refine aa hJ (ag hJ ?_)|refine aa hJ (aa hJ (ag hJ ?_))|refine aa hJ (aa hJ (aa hJ (ag hJ ?_)))
   simp only[*,go_sem,-h]
   have b:=iG h;clear h;rcases b with ⟨c,h⟩|⟨c,h⟩
   ·refine bM hJ (by simp only[*,go_sem,-h]) ?_
    first|refine ag hJ ?_|refine aa hJ (ag hJ ?_)|refine aa hJ (aa hJ (ag hJ ?_))|refine aa hJ (aa hJ (aa hJ (ag hJ ?_)))
    simp only[*,go_sem,-h]
    have b:=Option.some.inj h;clear h;subst b
    refine aB ?_
    simp only[*,go_sem]
   ·refine bJ hJ (by simp only[*,go_sem,-h]) ?_
    refine aG hJ ?_
    refine ag hJ ?_
    simp only[*,go_sem,-h]
    refine ⟨5 - 4,by omega,_,Le.refl _,4,rfl,rfl,?_⟩
    have hw:IntKind.i64.wrap (3+1)=((4:Nat):Int):=by decide
    simp only[*,go_sem,-h]
    exact ⟨by omega,h⟩
  ·replace h:ah (l6 u0) (fun x=>cond (x != 0) (some x) (ni u0))=some r:=h
   have b:=fG h;clear h;obtain ⟨x,q,h⟩:=b
   have n:((0+1+1+1+1:Nat):Int)=4:=rfl
   first|refine ag hJ ?_|refine aa hJ (ag hJ ?_)|refine aa hJ (aa hJ (ag hJ ?_))|refine aa hJ (aa hJ (aa hJ (ag hJ ?_)))
   simp only[*,go_sem,-h]
   refine aa hJ ?_
   refine bM hJ (by simp only[*,go_sem,-h]) ?_
   refine aG hJ ?_
   refine aa hJ (aY hJ ?_)
   first|refine ag hJ ?_|refine aa hJ (ag hJ ?_)|refine aa hJ (aa hJ (ag hJ ?_))|refine aa hJ (aa hJ (aa hJ (ag hJ ?_)))
   simp only[*,go_sem,-h]
   first|refine ag hJ ?_|refine aa hJ (ag hJ ?_)|refine aa hJ (aa hJ (ag hJ ?_))|refine aa hJ (aa hJ (aa hJ (ag hJ ?_)))
   simp only[*,go_sem,-h]
   refine aR hJ _ (Fc u0 ⟨(e.mono aJ),(f.mono aJ),(j.mono aJ),(l.mono aJ)⟩ q) (aD ?_)
   simp only[*,go_sem,-h]
   first|refine ag hJ ?_|refine aa hJ (ag hJ ?_)|refine aa hJ (aa hJ (ag hJ ?_))|refine aa hJ (aa hJ (aa hJ (ag hJ ?_)))
   simp only[*,go_sem,-h]
   have b:=iG h;clear h;rcases b with ⟨c,h⟩|⟨c,h⟩
   ·refine bM hJ (by simp only[*,go_sem,-h]) ?_
    first|refine ag hJ ?_|refine aa hJ (ag hJ ?_)|refine aa hJ (aa hJ (ag hJ ?_))|refine aa hJ (aa hJ (aa hJ (ag hJ ?_)))
    simp only[*,go_sem,-h]
    have b:=Option.some.inj h;clear h;subst b
    refine aB ?_
    simp only[*,go_sem]
   ·refine bJ hJ (by simp only[*,go_sem,-h]) ?_
    refine aG hJ ?_
    refine ag hJ ?_
    simp only[*,go_sem,-h]
    refine ⟨5 - 5,by omega,_,Le.refl _,5,rfl,rfl,?_⟩
    have hw:IntKind.i64.wrap (4+1)=((5:Nat):Int):=by decide
    simp only[*,go_sem,-h]
    exact ⟨by omega,h⟩
  ·have:i=0:=by omega
   subst this
   replace h:some 0=some r:=h
   have n:((0+1+1+1+1+1:Nat):Int)=5:=rfl
   first|refine ag hJ ?_|refine aa hJ (ag hJ ?_)|refine aa hJ (aa hJ (ag hJ ?_))|refine aa hJ (aa hJ (aa hJ (ag hJ ?_)))
   simp only[*,go_sem,-h]
   refine aa hJ ?_
   refine bJ hJ (by simp only[*,go_sem,-h]) ?_
   refine b7 ?_
   simp only[go_sem]
   first|refine ag hJ ?_|refine aa hJ (ag hJ ?_)|refine aa hJ (aa hJ (ag hJ ?_))|refine aa hJ (aa hJ (aa hJ (ag hJ ?_)))
   simp only[*,go_sem,-h]
   have b:=Option.some.inj h;clear h;subst b
   refine aB ?_
   simp only[*,go_sem]
def nj (u0:aj)(b:aP)(i39:Nat)(a:bF)(st:(List bB)):Option (Fl (List bB) bB):=
 ah (fT a.high) fun c=>ah (j4 u0 b (i39:Int) (⟨a.ax,c⟩:gJ)) fun d=>ah (cZ st ([d])) fun e=>some (.nx e)
def k3 (u0:aj)(b:aP):Option bB:=
 ah (bE (nj u0 b) 0 u0.an ([]:List bB)) fun o=>aO o (fun a=>ah (bK a 0) fun c=>ah (gI a 1 (a.length:Int)) fun d=>ah (j5 gv c d) fun e=>some e) (fun _ _=>none) (fun r=>some r)
theorem rG {ro:Addr->Option Value}(u0:aj){s1 f g i:Value}(u:bG ro u0 s1 f g i)(b:aP){r:bB}(h:k3 u0 b=some r):aC Tryz.prog 56 #[bv u0 s1 f g i,.agg #[.int .i64 b.back,.int .i64 b.high]] ⟨ro,[]⟩ (fun v _=>v=r.v):=by
 obtain ⟨d3,c4,rfl,dE,V,-⟩:=id u.e
 unfold k3 at h
 refine aC.go Tryz.func56 rfl Tryz.ntmps56 Tryz.results56 (by simp) fun main J hJ A W hd hs=>?_
 have X:=hs 0
 have k1:=hs 1
 clear hs
 refine aa hJ (ag hJ ?_)
 simp only[*,go_sem]
 refine av fun o Y Z=>?_;try simp only[au] at Z
 refine av fun p ab ad=>?_;try simp only[au] at ad
 refine av fun q ae al=>?_;try simp only[au] at al
 try simp only[*,go_sem]
 refine aa hJ (ag hJ ?_)
 simp only[*,go_sem]
 refine aa hJ (aa hJ (ag hJ ?_))
 simp only[*,go_sem]
 refine aY hJ ?_
 revert h;refine bS fun ao j ar=>?_
 refine cc hJ [5,6,7,12,13,14,15,16,17,18,19,20,21,22,23,24,25,26,27,28,29,30] (fun m a' F'=>∃(i39:Nat) (d33:Option Addr) (s:Nat) (w:List (Nat×Obj)) (c:(List bB)),m=u0.an.length - i39/\i39<=u0.an.length/\bE (nj u0 b) i39 (u0.an.drop i39) c=some ao/\F'=⟨ro,(q,.cells #[.int .i64 0,.int .i64 0,.int .i64 0,.int .i64 0,.int .i64 0,.int .i64 0] 107)::(p,.cells #[.int .i64 b.back,.int .i64 b.high] 103)::(o,bl u0 (sl d3 u0.an c4) f g i)::w⟩/\aV j0 ro 107 (.slice d33 c.length s) c w/\c.length<=s/\slot a' 12= .int .i64 (i39:Int)/\slot a' 5= .slice d33 c.length s) u0.an.length ?_ ?_
 ·refine ⟨0,none,0,[],([]:List bB),(Nat.sub_zero _).symm,Nat.zero_le _,j,rfl,aV.nil _ _ _,Nat.le_refl _,?_⟩
  simp only[*,go_sem]
 rintro dT ea F' G ⟨i39,d33,s,w,c,rfl,eb,j,rfl,H,ec,ed,eh⟩
 obtain ⟨a0,a2,a3⟩:=G.pick [2,3,4,10,11] (by decide)
 simp only[*,go_sem] at a0 a2 a3
 clear G W hd X k1
 refine aa hJ (ag hJ ?_)
 simp only[*,go_sem]
 refine aa hJ ?_
 rcases Nat.lt_or_ge i39 u0.an.length with a4|I
 ·refine bM hJ (by simp only[*,go_sem]) ?_
  refine aG hJ ?_
  obtain ⟨d,y⟩:∃x,u0.an[i39]?=some x:=⟨_,List.getElem?_eq_getElem a4⟩
  rw[c7 y] at j
  revert j;refine bS fun et h a5=>?_
  unfold nj at h
  try dsimp only at h
  obtain ⟨z,a6,a7,a8,B⟩:=u.e.el _ _ y
  obtain rfl:a6=d.cells:=a8
  cases a7
  have a9:=B 0 _ rfl;simp only[go_sem] at a9
  have ba:=B 1 _ rfl;simp only[go_sem] at ba
  clear B y
  refine aa hJ (aY hJ (aa hJ ?_))
  refine aK hJ fun bb=>?_
  refine ag hJ ?_
  simp only[*,go_sem]
  refine av fun C ev K=>?_;have eQ:=aM.cons K bb;try simp only[au] at K
  try simp only[*,go_sem]
  refine aK hJ fun bc=>?_
  refine eM hJ mixed 11 ⟨ro,[(C,.cells #[.int .i64 d.ax,.int .i64 d.high] 45),(q,.cells #[.int .i64 0,.int .i64 0,.int .i64 0,.int .i64 0,.int .i64 0,.int .i64 0] 107),(p,.cells #[.int .i64 b.back,.int .i64 b.high] 103),(o,bl u0 (sl (some z) u0.an c4) f g i)]⟩ (by simp only[*,go_sem]) (by kernel_rfl) ?_
  revert h;refine bS fun bd bj h=>?_
  simp only[*,go_sem]
  refine ⟨_,bA hJ fun F t=>jl d.high bj,bV ?_⟩
  revert h;refine bS fun a bk h=>?_
  try simp only[*,go_sem]
  refine ⟨_,bA hJ fun F t=>Ad u0 (u.mono (bX t)) b (i39:Int) (⟨d.ax,bd⟩:gJ) bk,?_⟩
  revert h;refine bS fun bm bo h=>?_
  obtain rfl:=sI h
  obtain ⟨br,L⟩:=c5 bo
  try simp only[*,go_sem]
  refine av fun M bs N=>?_;have bz:=aM.cons N bc;try simp only[au] at N
  try simp only[*,go_sem]
  refine dF (r:=j0) (l:=c) (x:=a) (cs:=#[.int .i64 a.spot.ax,.int .i64 a.spot.high.num,.int .i64 a.spot.high.den,.int .i64 a.at_,.int .i64 a.high.num,.int .i64 a.high.den]) (e2:=107) [(M,.cells #[.int .i64 a.spot.ax,.int .i64 a.spot.high.num,.int .i64 a.spot.high.den,.int .i64 a.at_,.int .i64 a.high.num,.int .i64 a.high.den] 107),(C,.cells #[.int .i64 d.ax,.int .i64 d.high] 45),(q,.cells #[.int .i64 0,.int .i64 0,.int .i64 0,.int .i64 0,.int .i64 0,.int .i64 0] 107),(p,.cells #[.int .i64 b.back,.int .i64 b.high] 103),(o,bl u0 (sl (some z) u0.an c4) f g i)] [] H bz br rfl (by simp only[*,go_sem]) bs rfl rfl m5 m5 uO uQ rfl uP (by decide) (by decide) (fun eS O D b0 b1 e0=>?_)
  simp only[List.append_nil,List.cons_append,List.nil_append,List.append_assoc] at b1
  subst b0
  rw[<-L] at D;clear L
  obtain ⟨d63,b2,rfl,b3⟩:=D.len
  refine ⟨⟨ro,(M,.cells #[.int .i64 a.spot.ax,.int .i64 a.spot.high.num,.int .i64 a.spot.high.den,.int .i64 a.at_,.int .i64 a.high.num,.int .i64 a.high.den] 107)::(C,.cells #[.int .i64 d.ax,.int .i64 d.high] 45)::(q,.cells #[.int .i64 0,.int .i64 0,.int .i64 0,.int .i64 0,.int .i64 0,.int .i64 0] 107)::(p,.cells #[.int .i64 b.back,.int .i64 b.high] 103)::(o,bl u0 (sl (some z) u0.an c4) f g i)::O⟩,Le.refl _,?_⟩
  refine ⟨by simp only[*,go_sem],kM ?_⟩
  try simp only[*,go_sem]
  have e1:=cq (n:=i39) (by have:=V;omega)
  refine ag hJ ?_
  simp only[*,go_sem]
  refine ⟨u0.an.length - (i39+1),by omega,_,Le.sub (List.Sublist.cons _ (List.Sublist.cons _ (List.Sublist.refl _))),i39+1,d63,b2,O,bm,rfl,by omega,a5,rfl,D,b3,?_⟩
  simp only[*,go_sem]
 have e3:=Nat.not_lt.2 I
 refine bJ hJ (by simp only[*,go_sem]) ?_
 rw[List.drop_eq_nil_of_le I] at j
 obtain rfl:=sI j;clear j
 have h:=ar
 dsimp only[aO] at h
 refine b7 ?_
 simp only[go_sem]
 refine aa hJ ?_
 refine aK hJ fun P=>?_
 obtain ⟨b4,fa,b5,E,ca⟩:=H.eX [(q,.cells #[.int .i64 0,.int .i64 0,.int .i64 0,.int .i64 0,.int .i64 0,.int .i64 0] 107),(p,.cells #[.int .i64 b.back,.int .i64 b.high] 103),(o,bl u0 (sl d3 u0.an c4) f g i)] [] P (ay.cons ae (ay.cons ab (ay.cons Y (ay.nil _))))
 clear P
 refine cu hJ ca ?_
 obtain ⟨fb,fg,-⟩:=E.op
 simp only[bn] at b5
 refine eM hJ mixed 6 ⟨b4,[(p,.cells #[.int .i64 b.back,.int .i64 b.high] 103),(o,bl u0 (sl d3 u0.an c4) f g i)]⟩ (by simp only[*,go_sem]) (by kernel_rfl) ?_
 revert h;refine bS fun Q cb h=>?_
 obtain ⟨fi,fp,R⟩:=cM cb
 obtain ⟨fr,cd,cf,cl,k⟩:=E.el _ _ R
 obtain rfl:cd=Q.cells:=cl
 cases cf
 have cy:=k 0 _ rfl;simp only[go_sem] at cy
 have cS:=k 1 _ rfl;simp only[go_sem] at cS
 have c0:=k 2 _ rfl;simp only[go_sem] at c0
 have da:=k 3 _ rfl;simp only[go_sem] at da
 have db:=k 4 _ rfl;simp only[go_sem] at db
 have dd:=k 5 _ rfl;simp only[go_sem] at dd
 clear k R
 revert h;refine bS fun df dk h=>?_
 obtain ⟨fs,ft,fu,S⟩:=oV dk
 have T:(1:Int).toNat<=((c.length:Int)).toNat:=by omega
 have dp:((c.length:Int)).toNat<=s:=by omega
 have fv:0<=((c.length:Int)):=by omega
 obtain ⟨d80,dq,ds,U⟩:=aA.oX E (1:Int).toNat ((c.length:Int)).toNat T (by omega) S
 simp only[go_sem] at dq ds T dp
 obtain ⟨_,_,dt,fw,fx,gg⟩:=id U;cases dt
 clear S
 revert h;refine bS fun gl du h=>?_
 obtain rfl:=sI h
 try simp only[*,go_sem]
 refine ⟨_,bA hJ fun F t=>ru (dI:=62) (dX:=#[]) (dY:=#[]) gv ⟨by simp only[go_sem],fun gn gp dv dC _ h=>by simp only[go_sem];exact ri dv dC h⟩ Q df (U.mono (bX t)) du,?_⟩
 try simp only[*,go_sem]
 refine aB ?_
 simp only[*,go_sem]
def nk (u0:aj)(a:aP):Option ak:=
 ah (fT u0.aN) fun b=>ah (k3 u0 a) fun c=>ah (jo b c.high) fun d=>some d
theorem Ah {ro:Addr->Option Value}(u0:aj){s1 b c d:Value}(f:bG ro u0 s1 b c d)(a:aP){r:ak}(h:nk u0 a=some r):aC Tryz.prog 57 #[bv u0 s1 b c d,.agg #[.int .i64 a.back,.int .i64 a.high]] ⟨ro,[]⟩ (fun v _=>v=r.v):=by
 unfold nk at h
 refine aC.go Tryz.func57 rfl Tryz.ntmps57 Tryz.results57 (by simp) fun main J hJ A s hd hs=>?_
 have t:=hs 0
 have k1:=hs 1
 clear hs
 refine aa hJ (ag hJ ?_)
 simp only[*,go_sem]
 refine av fun g u i=>?_;try simp only[au] at i
 refine av fun j w k=>?_;try simp only[au] at k
 refine av fun x y l=>?_;try simp only[au] at l
 try simp only[*,go_sem]
 refine aa hJ ?_
 refine eM hJ mixed 9 ⟨ro,[(j,.cells #[.int .i64 a.back,.int .i64 a.high] 103),(g,bl u0 s1 b c d)]⟩ (by simp only[*,go_sem]) (by kernel_rfl) ?_
 revert h;refine bS fun m n h=>?_
 simp only[*,go_sem]
 refine ⟨_,bA hJ fun F e=>jl u0.aN n,bV ?_⟩
 revert h;refine bS fun o p h=>?_
 try simp only[*,go_sem]
 refine ⟨_,bA hJ fun F e=>rG u0 (f.mono (bX e)) a p,bV ?_⟩
 revert h;refine bS fun z q h=>?_
 obtain rfl:=sI h
 try simp only[*,go_sem]
 refine ⟨_,bA hJ fun F e=>pJ m o.high q,?_⟩
 try simp only[*,go_sem]
 refine aB ?_
 simp only[*,go_sem]
def nq (u0:aj)(a:Int)(st:Int):Option (Fl Int ak):=
 ah (bK u0.an st) fun b=>cond (decide (b.ax<a)) (some (.nx (IntKind.i64.wrap (st+1)))) (some (.bk st))
def gw (u0:aj)(b:Int):Option ak:=
 ah (bD (nq u0 b) fu 1) fun o=>aO o (fun c=>ah (bK u0.an (IntKind.i64.wrap (c - 1))) fun a=>ah (bK u0.an c) fun d=>ah (fT a.high) fun e=>ah (j3 (IntKind.i64.wrap ((IntKind.i64.wrap (d.high - a.high))*(IntKind.i64.wrap (b - a.ax)))) (IntKind.i64.wrap (d.ax - a.ax))) fun f=>ah (jm e f) fun g=>some g) (fun _ _=>none) (fun r=>some r)
theorem Ai {ro:Addr->Option Value}(u0:aj){s1 b c d:Value}(g:bG ro u0 s1 b c d)(i:Int){r:ak}(h:gw u0 i=some r):aC Tryz.prog 59 #[bv u0 s1 b c d,.int .i64 i] ⟨ro,[]⟩ (fun v _=>v=r.v):=by
 obtain ⟨d3,c4,rfl,bb,bc,-⟩:=id g.e
 unfold gw at h
 refine aC.go Tryz.func59 rfl Tryz.ntmps59 Tryz.results59 (by simp) fun main J hJ A E hd hs=>?_
 have G:=hs 0
 have k1:=hs 1
 clear hs
 refine aa hJ (ag hJ ?_)
 simp only[*,go_sem]
 refine av fun l bd H=>?_;try simp only[au] at H
 refine av fun t bj I=>?_;try simp only[au] at I
 try simp only[*,go_sem]
 refine aa hJ (ag hJ ?_)
 simp only[*,go_sem]
 refine aa hJ (aY hJ ?_)
 revert h;refine bS fun K j L=>?_
 refine cc hJ [5,8,9,10,11,12,13,14,15,16,17,18] (fun m a' F'=>∃(k:Int),bD (nq u0 i) m k=some K/\F'=⟨ro,(t,rt 0 0)::(l,bl u0 (sl d3 u0.an c4) b c d)::[]⟩/\slot a' 5= .int .i64 k) fu ?_ ?_
 ·refine ⟨1,j,rfl,?_⟩
  simp only[*,go_sem]
 rintro n bk F' u ⟨k,j,rfl,bm⟩
 obtain ⟨M,N,O⟩:=u.pick [1,2,4] (by decide)
 simp only[*,go_sem] at M N O
 clear u E hd G k1
 obtain _|n:=n
 ·exact absurd j (by simp only[bD,reduceCtorEq,not_false_eq_true])
 revert j;refine bS fun bo h o=>?_
 unfold nq at h
 try dsimp only at h
 refine aa hJ (aa hJ (ag hJ ?_))
 revert h;refine bS fun P Q h=>?_
 obtain ⟨br,bs,w⟩:=cM Q
 obtain ⟨x,R,S,T,p⟩:=g.e.el _ _ w
 obtain rfl:R=P.cells:=T
 cases S
 have y:=p 0 _ rfl;simp only[go_sem] at y
 have z:=p 1 _ rfl;simp only[go_sem] at z
 clear p w
 try simp only[*,go_sem]
 revert h;refine jC hJ (by simp only[*,go_sem]) (fun U h=>?_) fun U h=>?_
 ·obtain rfl:=sI h
  refine aG hJ (aY hJ ?_)
  refine ag hJ ?_
  simp only[*,go_sem]
  refine ⟨n,Nat.lt_succ_self _,_,Le.sub (List.Sublist.refl _),(IntKind.i64.wrap (k+1)),o,rfl,?_⟩
  simp only[*,go_sem]
 obtain rfl:=sI h
 refine b7 ?_
 simp only[go_sem]
 obtain rfl:=sI o;clear o
 have h:=L
 dsimp only[aO] at h
 clear y z
 refine aa hJ ?_
 refine zG hJ mixed 13 ⟨ro,[(t,rt 0 0),(l,bl u0 (sl (some x) u0.an c4) b c d)]⟩ (by simp only[*,go_sem]) (by kernel_rfl) 45 rfl qX ?_
 revert h;refine bS fun a V h=>?_
 obtain ⟨bz,b0,B⟩:=cM V
 obtain ⟨b1,W,X,Y,q⟩:=g.e.el _ _ B
 obtain rfl:W=a.cells:=Y
 cases X
 have Z:=q 0 _ rfl;simp only[go_sem] at Z
 have ab:=q 1 _ rfl;simp only[go_sem] at ab
 clear q B
 revert h;refine bS fun f ad h=>?_
 obtain ⟨b2,b3,C⟩:=cM ad
 obtain ⟨b4,ae,al,ao,s⟩:=g.e.el _ _ C
 obtain rfl:ae=f.cells:=ao
 cases al
 have ar:=s 0 _ rfl;simp only[go_sem] at ar
 have a0:=s 1 _ rfl;simp only[go_sem] at a0
 clear s C
 try simp only[*,go_sem]
 refine av fun a2 b5 a3=>?_;try simp only[au] at a3
 try simp only[*,go_sem]
 refine av fun a4 ca a5=>?_;try simp only[au] at a5
 try simp only[*,go_sem]
 refine aa hJ ?_
 refine eM hJ mixed 20 ⟨ro,[(a4,.cells #[.int .i64 f.ax,.int .i64 f.high] 45),(a2,.cells #[.int .i64 a.ax,.int .i64 a.high] 45),(l,bl u0 (sl (some x) u0.an c4) b c d)]⟩ (by simp only[*,go_sem]) (by kernel_rfl) ?_
 revert h;refine bS fun a6 a7 h=>?_
 simp only[*,go_sem]
 refine ⟨_,bA hJ fun F D=>jl a.high a7,bV ?_⟩
 revert h;refine bS fun a8 a9 h=>?_
 try simp only[*,go_sem]
 refine ⟨_,bA hJ fun F D=>pH (IntKind.i64.wrap ((IntKind.i64.wrap (f.high - a.high))*(IntKind.i64.wrap (i - a.ax)))) (IntKind.i64.wrap (f.ax - a.ax)) a9,bV ?_⟩
 revert h;refine bS fun cb ba h=>?_
 obtain rfl:=sI h
 try simp only[*,go_sem]
 refine ⟨_,bA hJ fun F D=>pI a6 a8 ba,?_⟩
 try simp only[*,go_sem]
 refine aB ?_
 simp only[*,go_sem]
def pL (c:bH)(b:ak)(i59:Nat)(a:bB)(st:Unit):Option (Fl Unit (List bB)):=
 cond (((a.spot.ax==c.place)&&((a.spot.high.num==b.num)&&(a.spot.high.den==b.den)))) (some (.br 1 ())) (some (.nx ()))
def pM (u0:aj)(c:aP)(i38:Nat)(a:bH)(st:(List bB)):Option (Fl (List bB) (List bB)):=
 ah (gw u0 a.place) fun d=>ah (fT a.cn) fun e=>ah (jm d e) fun b=>ah (bE (pL a b) 0 st ()) fun o=>aO o (fun h=>ah (j4 u0 c (i38:Int) (⟨a.place,b⟩:gJ)) fun f=>ah (cZ st ([f])) fun g=>some (.nx g)) (fun _ i=>some (.nx st)) (fun r=>some (.rt r))
def jr (u0:aj)(a:aP):Option (List bB):=
 ah (bE (pM u0 a) 0 u0.props ([]:List bB)) fun o=>aO o (fun b=>some b) (fun _ _=>none) (fun r=>some r)
theorem vj {ro:Addr->Option Value}(u0:aj){s1 N f g:Value}(w:bG ro u0 s1 N f g)(b:aP){r:(List bB)}(h:jr u0 b=some r):eu Tryz.prog 60 #[bv u0 s1 N f g,.agg #[.int .i64 b.back,.int .i64 b.high]] ro (fun v aL=>∃O,v=O/\aA j0 aL O r):=by
 obtain ⟨d10,o,rfl,fg,P,-⟩:=id w.p
 unfold jr at h
 refine aC.go Tryz.func60 rfl Tryz.ntmps60 Tryz.results60 (by simp) fun main J hJ A a9 hd hs=>?_
 have ba:=hs 0
 have k1:=hs 1
 clear hs
 refine aa hJ (ag hJ ?_)
 simp only[*,go_sem]
 refine av fun q bb bc=>?_;try simp only[au] at bc
 refine av fun s bj bk=>?_;try simp only[au] at bk
 try simp only[*,go_sem]
 refine Da hJ (aa hJ ?_)
 refine ag hJ ?_
 simp only[*,go_sem]
 refine aa hJ ?_
 refine C9 hJ ?_
 refine aa hJ (aa hJ (ag hJ ?_))
 simp only[*,go_sem]
 refine aY hJ ?_
 revert h;refine bS fun bm i bo=>?_
 refine cc hJ [5,6,7,8,10,15,16,17,18,19,20,21,22,23,24,25,26,27,28,29,30,31,32,33,34,35,36,37,38,39,40,41,42,43,44,45,46,47,48,49,50] (fun m a' F'=>∃(i38:Nat) (d32:Option Addr) (t:Nat) (y:List (Nat×Obj)) (c:(List bB)),m=u0.props.length - i38/\i38<=u0.props.length/\bE (pM u0 b) i38 (u0.props.drop i38) c=some bm/\F'=⟨ro,(s,.cells #[.int .i64 b.back,.int .i64 b.high] 103)::(q,bl u0 s1 (sl d10 u0.props o) f g)::y⟩/\aV j0 ro 107 (.slice d32 c.length t) c y/\c.length<=t/\slot a' 15= .int .i64 (i38:Int)/\slot a' 5= .slice d32 c.length t) u0.props.length ?_ ?_
 ·refine ⟨0,none,0,[],([]:List bB),(Nat.sub_zero _).symm,Nat.zero_le _,i,rfl,aV.nil _ _ _,Nat.le_refl _,?_⟩
  simp only[*,go_sem]
 rintro fi br F' Q ⟨i38,d32,t,y,c,rfl,fp,i,rfl,u,bs,bz,b0⟩
 obtain ⟨R,S,T⟩:=Q.pick [2,3,4,13,14] (by decide)
 simp only[*,go_sem] at R S T
 clear Q a9 hd ba k1
 refine aa hJ (ag hJ ?_)
 simp only[*,go_sem]
 refine aa hJ ?_
 rcases Nat.lt_or_ge i38 u0.props.length with b1|U
 ·refine bM hJ (by simp only[*,go_sem]) ?_
  refine aG hJ ?_
  obtain ⟨d,z⟩:∃x,u0.props[i38]?=some x:=⟨_,List.getElem?_eq_getElem b1⟩
  rw[c7 z] at i
  revert i;refine bS fun fr h V=>?_
  unfold pM at h
  try dsimp only at h
  obtain ⟨B,b2,b3,b4,C⟩:=w.p.el _ _ z
  obtain rfl:b2=d.cells:=b4
  cases b3
  have b5:=C 0 _ rfl;simp only[go_sem] at b5
  have ca:=C 1 _ rfl;simp only[go_sem] at ca
  clear C z
  refine aa hJ (aY hJ (aa hJ ?_))
  refine aK hJ fun cb=>?_
  refine ag hJ ?_
  simp only[*,go_sem]
  refine av fun D fs W=>?_;have ft:=aM.cons W cb;try simp only[au] at W
  try simp only[*,go_sem]
  refine aa hJ ?_
  refine aK hJ fun cd=>?_
  refine dh hJ mixed 11 3 (by simp only[*,go_sem]) (by kernel_rfl) ?_
  revert h;refine bS fun cf cl h=>?_
  simp only[*,go_sem]
  refine ⟨_,bA hJ fun F E=>Ai u0 (w.mono (bX E)) d.place cl,bV ?_⟩
  revert h;refine bS fun cy cS h=>?_
  try simp only[*,go_sem]
  refine ⟨_,bA hJ fun F E=>jl d.cn cS,bV ?_⟩
  revert h;refine bS fun e c0 h=>?_
  try simp only[*,go_sem]
  refine ⟨_,bA hJ fun F E=>pI cf cy c0,bV ?_⟩
  try simp only[*,go_sem]
  refine av fun G fu X=>?_;have fv:=aM.cons X cd;try simp only[au] at X
  try simp only[*,go_sem]
  refine aa hJ (aa hJ ?_)
  refine aK hJ fun fw=>?_
  refine ag hJ ?_
  simp only[*,go_sem]
  refine aY hJ ?_
  revert h;refine bS fun da j Y=>?_
  refine cc hJ [10,33,34,35,36,37,38,39,40,41] (fun m a' F'=>∃(i59:Nat),m=c.length - i59/\i59<=c.length/\bE (pL d e) i59 (c.drop i59) ()=some da/\F'=⟨ro,(G,.cells #[.int .i64 d.place,.int .i64 e.num,.int .i64 e.den] 105)::(D,.cells #[.int .i64 d.place,.int .i64 d.cn] 132)::(s,.cells #[.int .i64 b.back,.int .i64 b.high] 103)::(q,bl u0 s1 (sl (some B) u0.props o) f g)::y⟩/\slot a' 33= .int .i64 (i59:Int)) c.length ?_ ?_
  ·refine ⟨0,(Nat.sub_zero _).symm,Nat.zero_le _,j,rfl,?_⟩
   simp only[*,go_sem]
  rintro fx db F' H ⟨i59,rfl,gg,j,rfl,gl⟩
  obtain ⟨dd,df,dk⟩:=H.pick [2,3,4,5,6,7,8,13,14,15,16,17,19,20,21,22,23,24,25,26,27,28,29,30,31,32] (by decide)
  simp only[*,go_sem] at dd df dk
  have gn:dD [5,6,7,8,10,15,16,17,18,19,20,21,22,23,24,25,26,27,28,29,30,31,32,33,34,35,36,37,38,39,40,41,42,43,44,45,46,47,48,49,50] db br:=(H.jg (by decide)).trans (by simp only[*,go_sem])
  clear H R S T b0 bz
  refine aa hJ (ag hJ ?_)
  simp only[*,go_sem]
  refine aa hJ ?_
  rcases Nat.lt_or_ge i59 c.length with dp|Z
  ·refine bM hJ (by simp only[*,go_sem]) ?_
   refine aG hJ ?_
   obtain ⟨dq,I⟩:∃x,c[i59]?=some x:=⟨_,List.getElem?_eq_getElem dp⟩
   rw[c7 I] at j
   revert j;refine bS fun gp h K=>?_
   unfold pL at h
   try dsimp only at h
   refine aK hJ fun L=>?_
   obtain ⟨ab,ds,gB,dt,du,rfl,gC,dv,k⟩:=u.elem I
   obtain rfl:dt=dq.cells:=dv
   cases du
   replace L:=L.nd
   simp only[keys,List.map_cons,List.map_nil,List.map_append,List.cons_append,List.nil_append,List.nodup_cons,List.mem_cons,List.mem_append,List.not_mem_nil,or_false,not_or] at L
   have ad:=k 0 _ rfl;simp only[go_sem] at ad
   have ae:=k 1 _ rfl;simp only[go_sem] at ae
   have al:=k 2 _ rfl;simp only[go_sem] at al
   have ao:=k 3 _ rfl;simp only[go_sem] at ao
   have ar:=k 4 _ rfl;simp only[go_sem] at ar
   have a0:=k 5 _ rfl;simp only[go_sem] at a0
   clear k I
   refine aa hJ (aY hJ (aa hJ ?_))
   refine aK hJ fun dC=>?_
   refine ag hJ ?_
   simp only[*,go_sem]
   refine av fun gM gT a2=>?_;have gV:=aM.cons a2 dC;try simp only[au] at a2
   try simp only[*,go_sem]
   refine aa hJ ?_
   refine aK hJ fun g0=>?_
   refine ag hJ ?_
   simp only[*,go_sem]
   revert h;refine jC hJ (by simp only[*,go_sem]) (fun dE h=>?_) fun dE h=>?_
   ·obtain rfl:=sI h
    refine b7 ?_
    simp only[go_sem]
    obtain rfl:=sI K;clear K
    have h:=Y
    dsimp only[aO] at h
    obtain rfl:=sI h
    clear ad ae al ao ar a0
    have dT:=cq (n:=i38) (by have:=P;omega)
    refine ag hJ ?_
    simp only[*,go_sem]
    refine ⟨u0.props.length - (i38+1),by omega,_,Le.sub (List.Sublist.cons _ (List.Sublist.cons _ (List.Sublist.cons _ (List.Sublist.refl _)))),i38+1,(some ⟨ab,0,none⟩),t,[(ab,Obj.cells ds 107)],c,rfl,by omega,V,rfl,u,bs,?_⟩
    simp only[*,go_sem]
   obtain rfl:=sI h
   refine aG hJ ?_
   have g1:=cq (n:=i59) (by have:=u.bd;omega)
   refine ag hJ ?_
   simp only[*,go_sem]
   refine ⟨c.length - (i59+1),by omega,_,Le.sub (List.Sublist.cons _ (List.Sublist.refl _)),i59+1,rfl,by omega,K,rfl,?_⟩
   simp only[*,go_sem]
  have g2:=Nat.not_lt.2 Z
  refine bJ hJ (by simp only[*,go_sem]) ?_
  rw[List.drop_eq_nil_of_le Z] at j
  obtain rfl:=sI j;clear j
  have h:=Y
  dsimp only[aO] at h
  refine b7 ?_
  simp only[go_sem]
  refine aK hJ fun ea=>?_
  refine ag hJ ?_
  revert h;refine bS fun a eb h=>?_
  simp only[*,go_sem]
  refine aR hJ _ (Ad u0 (w.mono aJ) b (i38:Int) (⟨d.place,e⟩:gJ) eb) (aD ?_)
  revert h;refine bS fun ec ed h=>?_
  obtain rfl:=sI h
  obtain ⟨eh,a3⟩:=c5 ed
  try simp only[*,go_sem]
  refine av fun a4 et a5=>?_;have ev:=aM.cons a5 ea;try simp only[au] at a5
  try simp only[*,go_sem]
  refine dF (r:=j0) (l:=c) (x:=a) (cs:=#[.int .i64 a.spot.ax,.int .i64 a.spot.high.num,.int .i64 a.spot.high.den,.int .i64 a.at_,.int .i64 a.high.num,.int .i64 a.high.den]) (e2:=107) [(a4,.cells #[.int .i64 a.spot.ax,.int .i64 a.spot.high.num,.int .i64 a.spot.high.den,.int .i64 a.at_,.int .i64 a.high.num,.int .i64 a.high.den] 107),(G,.cells #[.int .i64 d.place,.int .i64 e.num,.int .i64 e.den] 105),(D,.cells #[.int .i64 d.place,.int .i64 d.cn] 132),(s,.cells #[.int .i64 b.back,.int .i64 b.high] 103),(q,bl u0 s1 (sl (some B) u0.props o) f g)] [] u ev eh rfl (by simp only[*,go_sem]) et rfl rfl m5 m5 uO uQ rfl uP (by decide) (by decide) (fun g3 a6 M eQ eS g4=>?_)
  simp only[List.append_nil,List.cons_append,List.nil_append,List.append_assoc] at eS
  subst eQ
  rw[<-a3] at M;clear a3
  obtain ⟨d83,e0,rfl,e1⟩:=M.len
  refine ⟨⟨ro,(a4,.cells #[.int .i64 a.spot.ax,.int .i64 a.spot.high.num,.int .i64 a.spot.high.den,.int .i64 a.at_,.int .i64 a.high.num,.int .i64 a.high.den] 107)::(G,.cells #[.int .i64 d.place,.int .i64 e.num,.int .i64 e.den] 105)::(D,.cells #[.int .i64 d.place,.int .i64 d.cn] 132)::(s,.cells #[.int .i64 b.back,.int .i64 b.high] 103)::(q,bl u0 s1 (sl (some B) u0.props o) f g)::a6⟩,Le.refl _,?_⟩
  refine aD ?_
  try simp only[*,go_sem]
  have dT:=cq (n:=i38) (by have:=P;omega)
  refine ag hJ ?_
  simp only[*,go_sem]
  refine ⟨u0.props.length - (i38+1),by omega,_,Le.sub (List.Sublist.cons _ (List.Sublist.cons _ (List.Sublist.cons _ (List.Sublist.refl _)))),i38+1,d83,e0,a6,ec,rfl,by omega,V,rfl,M,e1,?_⟩
  simp only[*,go_sem]
 have ha:=Nat.not_lt.2 U
 refine bJ hJ (by simp only[*,go_sem]) ?_
 rw[List.drop_eq_nil_of_le U] at i
 obtain rfl:=sI i;clear i
 have h:=bo
 dsimp only[aO] at h
 obtain rfl:=sI h
 refine b7 ?_
 simp only[go_sem]
 refine aa hJ ?_
 refine aK hJ fun hc=>?_
 refine ag hJ ?_
 simp only[*,go_sem]
 refine aK hJ fun a7=>?_
 obtain ⟨hf,e3,fa,a8,fb⟩:=u.eX [(s,.cells #[.int .i64 b.back,.int .i64 b.high] 103),(q,bl u0 s1 (sl d10 u0.props o) f g)] [] a7 (ay.cons bj (ay.cons bb (ay.nil _)))
 clear a7
 refine cu hJ fb ?_
 obtain ⟨hg,hh,-⟩:=a8.op
 simp only[bn] at fa
 refine aB ?_
 simp only[*,go_sem]
 exact ⟨_,e3,Le.sub (List.nil_sublist _),_,rfl,a8⟩
def l9 (i54:Nat)(a:bB)(st:ak):Option (Fl ak ak):=
 ah (g9 eD st ([a.high])) fun b=>some (.nx b)
def mb (i100:Nat)(a:bB)(st:ak):Option (Fl ak ak):=
 ah (g9 eD st ([a.high])) fun b=>some (.nx b)
def j6 (u0:aj)(a:aP):Option ak:=
 ah (fT u0.aN) fun b=>ah (k3 u0 a) fun c=>ah (eD c.high b) fun d=>cond (d) (ah (jr u0 a) fun e=>ah (bE (l9) 0 e c.high) fun o=>aO o (fun f=>ah (jo b f) fun g=>ah (fT 0) fun h=>ah (g9 eD g ([h])) fun i=>some i) (fun _ _=>none) (fun r=>some r)) (ah (jr u0 a) fun j=>ah (bE (mb) 0 j b) fun o=>aO o (fun k=>ah (jo c.high k) fun l=>ah (fT 0) fun m=>ah (g9 eD l ([m])) fun n=>some n) (fun _ _=>none) (fun r=>some r))
theorem rH {ro:Addr->Option Value}(u0:aj){s1 p q s:Value}(t:bG ro u0 s1 p q s)(a:aP){r:ak}(h:j6 u0 a=some r):aC Tryz.prog 63 #[bv u0 s1 p q s,.agg #[.int .i64 a.back,.int .i64 a.high]] ⟨ro,[]⟩ (fun v _=>v=r.v):=by
 unfold j6 at h
 refine aC.go Tryz.func63 rfl Tryz.ntmps63 Tryz.results63 (by simp) fun main J hJ A N hd hs=>?_
 have O:=hs 0
 have k1:=hs 1
 clear hs
 refine aa hJ (ag hJ ?_)
 simp only[*,go_sem]
 refine av fun D ft ae=>?_;try simp only[au] at ae
 refine av fun E fu al=>?_;try simp only[au] at al
 refine av fun G fv ao=>?_;try simp only[au] at ao
 try simp only[*,go_sem]
 refine aa hJ ?_
 refine zG hJ mixed 8 ⟨ro,[(G,rt 0 0),(E,.cells #[.int .i64 a.back,.int .i64 a.high] 103),(D,bl u0 s1 p q s)]⟩ (by simp only[*,go_sem]) (by kernel_rfl) 23 rfl zu ?_
 revert h;refine bS fun u ar h=>?_
 simp only[*,go_sem]
 refine ⟨_,bA hJ fun F P=>jl u0.aN ar,bV ?_⟩
 revert h;refine bS fun w a0 h=>?_
 try simp only[*,go_sem]
 refine ⟨_,bA hJ fun F P=>rG u0 (t.mono (bX P)) a a0,bV ?_⟩
 try simp only[*,go_sem]
 refine av fun Q fw a2=>?_;try simp only[au] at a2
 try simp only[*,go_sem]
 refine av fun R fx a3=>?_;try simp only[au] at a3
 try simp only[*,go_sem]
 refine aa hJ (aa hJ (ag hJ ?_))
 revert h;refine bS fun gg a4 h=>?_
 simp only[*,go_sem]
 refine aR hJ _ (iJ w.high u a4) ?_
 try simp only[*,go_sem]
 revert h;refine jC hJ (by simp only[*,go_sem]) (fun a5 h=>?_) fun a5 h=>?_
 ·refine ag hJ ?_
  simp only[*,go_sem]
  refine aa hJ (aa hJ (ag hJ ?_))
  revert h;refine bS fun b a6 h=>?_
  simp only[*,go_sem]
  refine b8 hJ _ (vj u0 t a a6) fun v a7 a8 a9 H=>?_
  obtain ⟨gl,rfl,S⟩:=H
  replace t:=t.mono a8
  simp only[bn] at a9
  obtain ⟨d48,gn,rfl,gp,ba,-⟩:=id S
  refine aD ?_
  try simp only[*,go_sem]
  refine aY hJ ?_
  revert h;refine bS fun bb c bc=>?_
  refine cc hJ [8,26,27,28,29,30,31,32,33,34,35] (fun m a' F'=>∃(i54:Nat) (l:ak),m=b.length - i54/\i54<=b.length/\bE (l9) i54 (b.drop i54) l=some bb/\F'=⟨a7,(R,rt u.num u.den)::(Q,rt l.num l.den)::(G,rt 0 0)::(E,.cells #[.int .i64 a.back,.int .i64 a.high] 103)::(D,bl u0 s1 p q s)::[]⟩/\slot a' 26= .int .i64 (i54:Int)) b.length ?_ ?_
  ·refine ⟨0,w.high,(Nat.sub_zero _).symm,Nat.zero_le _,c,rfl,?_⟩
   simp only[*,go_sem]
  rintro gB gC F' T ⟨i54,l,rfl,gM,c,rfl,gT⟩
  obtain ⟨bd,bj,bk⟩:=T.pick [4,5,6,24,25] (by decide)
  simp only[*,go_sem] at bd bj bk
  clear T N hd O k1
  refine aa hJ (ag hJ ?_)
  simp only[*,go_sem]
  refine aa hJ ?_
  rcases Nat.lt_or_ge i54 b.length with bm|U
  ·refine bM hJ (by simp only[*,go_sem]) ?_
   refine aG hJ ?_
   obtain ⟨y,I⟩:∃x,b[i54]?=some x:=⟨_,List.getElem?_eq_getElem bm⟩
   rw[c7 I] at c
   revert c;refine bS fun gV h bo=>?_
   unfold l9 at h
   try dsimp only at h
   obtain ⟨g0,br,bs,bz,d⟩:=S.el _ _ I
   obtain rfl:br=y.cells:=bz
   cases bs
   have b0:=d 0 _ rfl;simp only[go_sem] at b0
   have b1:=d 1 _ rfl;simp only[go_sem] at b1
   have b2:=d 2 _ rfl;simp only[go_sem] at b2
   have b3:=d 3 _ rfl;simp only[go_sem] at b3
   have b4:=d 4 _ rfl;simp only[go_sem] at b4
   have b5:=d 5 _ rfl;simp only[go_sem] at b5
   clear d I
   refine aa hJ (aY hJ (aa hJ ?_))
   refine ag hJ ?_
   simp only[*,go_sem]
   refine av fun g1 g2 ca=>?_;try simp only[au] at ca
   try simp only[*,go_sem]
   refine aK hJ fun cb=>?_
   refine ag hJ ?_
   revert h;refine bS fun cd cf h=>?_
   obtain rfl:=sI h
   simp only[*,go_sem]
   refine av fun g3 cl V=>?_;have g4:=aM.cons V cb;try simp only[au] at V
   try simp only[*,go_sem]
   refine aR hJ _ (ng (dI:=80) (dX:=#[]) (dY:=#[]) eD ⟨by simp only[go_sem],fun K L f g _ h=>by simp only[go_sem];exact iJ f g h⟩ l ([y.high]) ((aA.flat (r:=kU) (e:=23) (cs:=#[.int .i64 y.high.num,.int .i64 y.high.den]) ak.cells ([y.high]) (fun _=>rfl) cl rfl (by simp)).mono (jT (by simp only[*,go_sem]))) cf) (aD ?_)
   try simp only[*,go_sem]
   have ha:=cq (n:=i54) (by have:=ba;omega)
   refine ag hJ ?_
   simp only[*,go_sem]
   refine ⟨b.length - (i54+1),by omega,_,Le.sub (List.Sublist.cons _ (List.Sublist.cons _ (List.Sublist.refl _))),i54+1,cd,rfl,by omega,bo,rfl,?_⟩
   simp only[*,go_sem]
  have hc:=Nat.not_lt.2 U
  refine bJ hJ (by simp only[*,go_sem]) ?_
  rw[List.drop_eq_nil_of_le U] at c
  obtain rfl:=sI c;clear c
  have h:=bc
  dsimp only[aO] at h
  refine b7 ?_
  simp only[go_sem]
  refine aa hJ ?_
  refine aK hJ fun cy=>?_
  refine ag hJ ?_
  revert h;refine bS fun cS c0 h=>?_
  simp only[*,go_sem]
  refine aR hJ _ (pJ u l c0) (aD ?_)
  revert h;refine bS fun B da h=>?_
  try simp only[*,go_sem]
  refine aR hJ _ (jl 0 da) (aD ?_)
  revert h;refine bS fun hf db h=>?_
  obtain rfl:=sI h
  try simp only[*,go_sem]
  refine av fun hg dd W=>?_;have hh:=aM.cons W cy;try simp only[au] at W
  try simp only[*,go_sem]
  refine aR hJ _ (ng (dI:=80) (dX:=#[]) (dY:=#[]) eD ⟨by simp only[go_sem],fun K L f g _ h=>by simp only[go_sem];exact iJ f g h⟩ cS ([B]) ((aA.flat (r:=kU) (e:=23) (cs:=#[.int .i64 B.num,.int .i64 B.den]) ak.cells ([B]) (fun _=>rfl) dd rfl (by simp)).mono (jT (by simp only[*,go_sem]))) db) (aD ?_)
  try simp only[*,go_sem]
  refine aB ?_
  simp only[*,go_sem]
 refine aG hJ (aa hJ ?_)
 refine aa hJ (ag hJ ?_)
 revert h;refine bS fun i df h=>?_
 simp only[*,go_sem]
 refine b8 hJ _ (vj u0 t a df) fun v dk hi dp H=>?_
 obtain ⟨hj,rfl,X⟩:=H
 simp only[bn] at dp
 obtain ⟨d94,hk,rfl,hl,dq,-⟩:=id X
 refine aD ?_
 try simp only[*,go_sem]
 refine aY hJ ?_
 revert h;refine bS fun ds j dt=>?_
 refine cc hJ [8,26,27,28,29,30,31,32,33,34,35] (fun m a' F'=>∃(i100:Nat) (o:ak),m=i.length - i100/\i100<=i.length/\bE (mb) i100 (i.drop i100) o=some ds/\F'=⟨dk,(R,rt w.high.num w.high.den)::(Q,rt o.num o.den)::(G,rt 0 0)::(E,.cells #[.int .i64 a.back,.int .i64 a.high] 103)::(D,bl u0 s1 p q s)::[]⟩/\slot a' 26= .int .i64 (i100:Int)) i.length ?_ ?_
 ·refine ⟨0,u,(Nat.sub_zero _).symm,Nat.zero_le _,j,rfl,?_⟩
  simp only[*,go_sem]
 rintro hn ho F' Y ⟨i100,o,rfl,hp,j,rfl,hq⟩
 obtain ⟨du,dv,dC⟩:=Y.pick [4,5,6,24,25] (by decide)
 simp only[*,go_sem] at du dv dC
 clear Y N hd O k1
 refine aa hJ (ag hJ ?_)
 simp only[*,go_sem]
 refine aa hJ ?_
 rcases Nat.lt_or_ge i100 i.length with dE|Z
 ·refine bM hJ (by simp only[*,go_sem]) ?_
  refine aG hJ ?_
  obtain ⟨z,M⟩:∃x,i[i100]?=some x:=⟨_,List.getElem?_eq_getElem dE⟩
  rw[c7 M] at j
  revert j;refine bS fun hr h dT=>?_
  unfold mb at h
  try dsimp only at h
  obtain ⟨ht,ea,eb,ec,k⟩:=X.el _ _ M
  obtain rfl:ea=z.cells:=ec
  cases eb
  have ed:=k 0 _ rfl;simp only[go_sem] at ed
  have eh:=k 1 _ rfl;simp only[go_sem] at eh
  have et:=k 2 _ rfl;simp only[go_sem] at et
  have ev:=k 3 _ rfl;simp only[go_sem] at ev
  have eQ:=k 4 _ rfl;simp only[go_sem] at eQ
  have eS:=k 5 _ rfl;simp only[go_sem] at eS
  clear k M
  refine aa hJ (aY hJ (aa hJ ?_))
  refine ag hJ ?_
  simp only[*,go_sem]
  refine av fun hv hx e0=>?_;try simp only[au] at e0
  try simp only[*,go_sem]
  refine aK hJ fun e1=>?_
  refine ag hJ ?_
  revert h;refine bS fun e2 e3 h=>?_
  obtain rfl:=sI h
  simp only[*,go_sem]
  refine av fun hy fa ab=>?_;have hz:=aM.cons ab e1;try simp only[au] at ab
  try simp only[*,go_sem]
  refine aR hJ _ (ng (dI:=80) (dX:=#[]) (dY:=#[]) eD ⟨by simp only[go_sem],fun K L f g _ h=>by simp only[go_sem];exact iJ f g h⟩ o ([z.high]) ((aA.flat (r:=kU) (e:=23) (cs:=#[.int .i64 z.high.num,.int .i64 z.high.den]) ak.cells ([z.high]) (fun _=>rfl) fa rfl (by simp)).mono (jT (by simp only[*,go_sem]))) e3) (aD ?_)
  try simp only[*,go_sem]
  have hA:=cq (n:=i100) (by have:=dq;omega)
  refine ag hJ ?_
  simp only[*,go_sem]
  refine ⟨i.length - (i100+1),by omega,_,Le.sub (List.Sublist.cons _ (List.Sublist.cons _ (List.Sublist.refl _))),i100+1,e2,rfl,by omega,dT,rfl,?_⟩
  simp only[*,go_sem]
 have hB:=Nat.not_lt.2 Z
 refine bJ hJ (by simp only[*,go_sem]) ?_
 rw[List.drop_eq_nil_of_le Z] at j
 obtain rfl:=sI j;clear j
 have h:=dt
 dsimp only[aO] at h
 refine b7 ?_
 simp only[go_sem]
 refine aa hJ ?_
 refine aK hJ fun fb=>?_
 refine ag hJ ?_
 revert h;refine bS fun fg fi h=>?_
 simp only[*,go_sem]
 refine aR hJ _ (pJ w.high o fi) (aD ?_)
 revert h;refine bS fun C fp h=>?_
 try simp only[*,go_sem]
 refine aR hJ _ (jl 0 fp) (aD ?_)
 revert h;refine bS fun hD fr h=>?_
 obtain rfl:=sI h
 try simp only[*,go_sem]
 refine av fun hE fs ad=>?_;have hF:=aM.cons ad fb;try simp only[au] at ad
 try simp only[*,go_sem]
 refine aR hJ _ (ng (dI:=80) (dX:=#[]) (dY:=#[]) eD ⟨by simp only[go_sem],fun K L f g _ h=>by simp only[go_sem];exact iJ f g h⟩ fg ([C]) ((aA.flat (r:=kU) (e:=23) (cs:=#[.int .i64 C.num,.int .i64 C.den]) ak.cells ([C]) (fun _=>rfl) fs rfl (by simp)).mono (jT (by simp only[*,go_sem]))) fr) (aD ?_)
 try simp only[*,go_sem]
 refine aB ?_
 simp only[*,go_sem]
def fU (u0:aj)(a:aP):Option Bool:=
 ah (j6 u0 a) fun b=>ah (eD u0.aE b) fun c=>some c
theorem mc {ro:Addr->Option Value}(u0:aj){s1 b c d:Value}(f:bG ro u0 s1 b c d)(a:aP){r:Bool}(h:fU u0 a=some r):aC Tryz.prog 64 #[bv u0 s1 b c d,.agg #[.int .i64 a.back,.int .i64 a.high]] ⟨ro,[]⟩ (fun v _=>v= .bool r):=by
 unfold fU at h
 refine aC.go Tryz.func64 rfl Tryz.ntmps64 Tryz.results64 (by simp) fun main J hJ A m hd hs=>?_
 have n:=hs 0
 have k1:=hs 1
 clear hs
 refine aa hJ (ag hJ ?_)
 simp only[*,go_sem]
 refine av fun o p g=>?_;try simp only[au] at g
 refine av fun q s i=>?_;try simp only[au] at i
 try simp only[*,go_sem]
 refine aa hJ ?_
 refine dh hJ mixed 8 2 (by simp only[*,go_sem]) (by kernel_rfl) ?_
 revert h;refine bS fun j k h=>?_
 simp only[*,go_sem]
 refine ⟨_,bA hJ fun F e=>rH u0 (f.mono (bX e)) a k,bV ?_⟩
 revert h;refine bS fun t l h=>?_
 obtain rfl:=sI h
 try simp only[*,go_sem]
 refine ⟨_,bA hJ fun F e=>iJ u0.aE j l,bV ?_⟩
 try simp only[*,go_sem]
 refine aB ?_
 simp only[*,go_sem]
def vk (u0:((List Int)->(List Int)->Option Bool))(i22:Nat)(a:(List Int))(st:(List Int)):Option (Fl (List Int) (List Int)):=
 ah (u0 st a) fun b=>cond (b) (some (.nx a)) (some (.nx st))
def vl (u0:((List Int)->(List Int)->Option Bool))(a:(List Int))(b:(List (List Int))):Option (List Int):=
 ah (bE (vk u0) 0 b a) fun o=>aO o (fun c=>some c) (fun _ _=>none) (fun r=>some r)
theorem Fi {ro:Addr->Option Value}(u0:((List Int)->(List Int)->Option Bool)){dI:FuncId}{dX dY:Array Value}(F:aI Tryz.prog dI=true/\∀(aL:Addr->Option Value),Ext ro aL->∀(k:(List Int)) (l:Value) (o:(List Int)) (p:Value) (z:Bool),aA rI aL l k->aA rI aL p o->u0 k o=some z->aC Tryz.prog dI (dX++#[l,p]++dY) ⟨aL,[]⟩ (fun v _=>v= .bool z))(g:(List Int)){s1:Value}(q:aA rI ro s1 g)(b:(List (List Int))){s:Value}(t:aA (rL rI) ro s b){r:(List Int)}(h:vl u0 g b=some r):eu Tryz.prog 71 #[.func (.func dI) dX dY,s1,s] ro (fun v aL=>∃u,v=u/\aA rI aL u r):=by
 obtain ⟨d3,c4,rfl,X,Y,-⟩:=id q
 obtain ⟨d10,Z,rfl,ab,w,-⟩:=id t
 unfold vl at h
 refine aC.go Tryz.func71 rfl Tryz.ntmps71 Tryz.results71 (by simp) fun main J hJ A G hd hs=>?_
 have H:=hs 0
 have k1:=hs 1
 have I:=hs 2
 clear hs
 refine aa hJ (ag hJ ?_)
 simp only[*,go_sem]
 refine aa hJ (aa hJ (ag hJ ?_))
 simp only[*,go_sem]
 refine aY hJ ?_
 revert h;refine bS fun K c L=>?_
 refine cc hJ [1,8,11,12,13,14,15,16,17,18,19,20] (fun m a' F'=>∃(i22:Nat) (d16:Option Addr) (e:Nat) (d:(List Int)),m=b.length - i22/\i22<=b.length/\bE (vk u0) i22 (b.drop i22) d=some K/\F'=⟨ro,[]⟩/\aA rI ro (.slice d16 d.length e) d/\slot a' 11= .int .i64 (i22:Int)/\slot a' 1= .slice d16 d.length e) b.length ?_ ?_
 ·refine ⟨0,d3,c4,g,(Nat.sub_zero _).symm,Nat.zero_le _,c,rfl,q,?_⟩
  simp only[*,go_sem]
 rintro ad ae F' y ⟨i22,d16,e,d,rfl,al,c,rfl,f,ao,ar⟩
 obtain ⟨a0,a2,-⟩:=f.op
 obtain ⟨M,N,O⟩:=y.pick [0,6,9,10] (by decide)
 simp only[*,go_sem] at M N O
 clear y G hd H k1 I
 refine aa hJ (ag hJ ?_)
 simp only[*,go_sem]
 refine aa hJ ?_
 rcases Nat.lt_or_ge i22 b.length with P|B
 ·refine bM hJ (by simp only[*,go_sem]) ?_
  refine aG hJ ?_
  obtain ⟨C,i⟩:∃x,b[i22]?=some x:=⟨_,List.getElem?_eq_getElem P⟩
  rw[c7 i] at c
  revert c;refine bS fun a3 h D=>?_
  unfold vk at h
  try dsimp only at h
  obtain ⟨a4,a5,Q,R,E⟩:=t.el _ _ i
  obtain ⟨a6,rfl,j⟩:=R;obtain ⟨d31,S,rfl,a7,a8,a9⟩:=id j
  cases Q
  have T:=E 0 _ rfl;simp only[go_sem] at T
  clear E i
  refine aa hJ (aY hJ (aa hJ ?_))
  refine ag hJ ?_
  simp only[*,go_sem]
  refine aa hJ (ag hJ ?_)
  revert h;refine bS fun ba U h=>?_
  simp only[*,go_sem]
  refine aR hJ _ (F.2 _ (fun a v h=>aJ a v h) d _ C _ _ (f.mono aJ) (j.mono aJ) U) ?_
  try simp only[*,go_sem]
  revert h;refine jC hJ (by simp only[*,go_sem]) (fun V h=>?_) fun V h=>?_
  ·obtain rfl:=sI h
   refine ag hJ ?_
   simp only[*,go_sem]
   have W:=cq (n:=i22) (by have:=w;omega)
   refine ag hJ ?_
   simp only[*,go_sem]
   refine ⟨b.length - (i22+1),by omega,_,Le.sub (List.Sublist.refl _),i22+1,d31,S,C,rfl,by omega,D,rfl,j,?_⟩
   simp only[*,go_sem]
  obtain rfl:=sI h
  refine aG hJ ?_
  have W:=cq (n:=i22) (by have:=w;omega)
  refine ag hJ ?_
  simp only[*,go_sem]
  refine ⟨b.length - (i22+1),by omega,_,Le.sub (List.Sublist.refl _),i22+1,d16,e,d,rfl,by omega,D,rfl,f,?_⟩
  simp only[*,go_sem]
 have bb:=Nat.not_lt.2 B
 refine bJ hJ (by simp only[*,go_sem]) ?_
 rw[List.drop_eq_nil_of_le B] at c
 obtain rfl:=sI c;clear c
 have h:=L
 dsimp only[aO] at h
 obtain rfl:=sI h
 refine b7 ?_
 simp only[go_sem]
 refine aa hJ (ag hJ ?_)
 simp only[*,go_sem]
 refine aB ?_
 simp only[*,go_sem]
 exact ⟨_,Ext.refl _,Le.sub (List.nil_sublist _),_,rfl,f⟩
def vm (u0:(List Int))(a:(List Int))(st:(Bool×Int)):Option (Fl (Bool×Int) Bool):=
 cond (decide (st.2<(u0.length:Int))) (ah (bK u0 st.2) fun b=>ah (bK a st.2) fun c=>cond ((b != c)) (some (.rt false)) (some (.nx (st.1,(IntKind.i64.wrap (st.2+1)))))) (some (.bk (st.1,st.2)))
def vn (u0:(List Int))(a:(List Int)):Option Bool:=
 cond (((u0.length:Int) != (a.length:Int))) (some false) (ah (bD (vm u0 a) fu (false,0)) fun o=>aO o (fun b=>some true) (fun _ _=>none) (fun r=>some r))
theorem Fj {ro:Addr->Option Value}(u0:(List Int)){s1:Value}(g:aA rI ro s1 u0)(e:(List Int)){i:Value}(j:aA rI ro i e){r:Bool}(h:vn u0 e=some r):aC Tryz.prog 82 #[s1,i] ⟨ro,[]⟩ (fun v _=>v= .bool r):=by
 obtain ⟨d3,c4,rfl,Q,R,-⟩:=id g
 obtain ⟨d10,S,rfl,T,U,-⟩:=id j
 unfold vn at h
 refine aC.go Tryz.func82 rfl Tryz.ntmps82 Tryz.results82 (by simp) fun main J hJ A s hd hs=>?_
 have t:=hs 0
 have k1:=hs 1
 clear hs
 refine aa hJ (ag hJ ?_)
 simp only[*,go_sem]
 refine aa hJ (aa hJ (ag hJ ?_))
 simp only[*,go_sem]
 revert h;refine jC hJ (by simp only[*,go_sem]) (fun u h=>?_) fun u h=>?_
 ·obtain rfl:=sI h
  refine aa hJ (ag hJ ?_)
  simp only[*,go_sem]
  refine aB ?_
  simp only[*,go_sem]
 refine aG hJ (aa hJ ?_)
 refine aa hJ (ag hJ ?_)
 simp only[*,go_sem]
 refine aY hJ ?_
 revert h;refine bS fun w b k=>?_
 refine cc hJ [4,5,11,12,13,14,15,16,17,18,19,20,21,22,23,24,25] (fun m a' F'=>∃(c:Bool) (d:Int),bD (vm u0 e) m (c,d)=some w/\F'=⟨ro,[]⟩/\slot a' 4= .bool c/\slot a' 5= .int .i64 d) fu ?_ ?_
 ·refine ⟨false,0,b,rfl,?_⟩
  simp only[*,go_sem]
 rintro f V F' l ⟨c,d,b,rfl,W,X⟩
 obtain ⟨x,y,z⟩:=l.pick [0,1] (by decide)
 simp only[*,go_sem] at x y z
 clear l s hd t k1
 obtain _|f:=f
 ·exact absurd b (by simp only[bD,reduceCtorEq,not_false_eq_true])
 revert b;refine bS fun Y h a=>?_
 unfold vm at h
 try dsimp only at h
 refine aa hJ (aa hJ (ag hJ ?_))
 simp only[*,go_sem]
 revert h;refine jC hJ (by simp only[*,go_sem]) (fun B h=>?_) fun B h=>?_
 ·refine aG hJ (aa hJ ?_)
  refine aY hJ (aa hJ ?_)
  refine dh hJ mixed 9 0 (by simp only[*,go_sem]) (by kernel_rfl) ?_
  revert h;refine bS fun C D h=>?_
  obtain ⟨Z,ab,n⟩:=cM D
  obtain ⟨ad,E,F,G,o⟩:=g.el _ _ n
  obtain rfl:E=[.int .i64 C]:=G
  cases F
  have H:=o 0 _ rfl;simp only[go_sem] at H
  clear o n
  revert h;refine bS fun I K h=>?_
  obtain ⟨ae,al,p⟩:=cM K
  obtain ⟨ao,L,M,N,q⟩:=j.el _ _ p
  obtain rfl:L=[.int .i64 I]:=N
  cases M
  have O:=q 0 _ rfl;simp only[go_sem] at O
  clear q p
  try simp only[*,go_sem]
  revert h;refine jC hJ (by simp only[*,go_sem]) (fun P h=>?_) fun P h=>?_
  ·obtain rfl:=sI h
   refine aa hJ (ag hJ ?_)
   simp only[*,go_sem]
   obtain rfl:=sI a;clear a
   have h:=k
   dsimp only[aO] at h
   obtain rfl:=sI h
   refine aB ?_
   simp only[*,go_sem]
  obtain rfl:=sI h
  refine aG hJ (ag hJ ?_)
  simp only[*,go_sem]
  refine ⟨f,Nat.lt_succ_self _,_,Le.sub (List.Sublist.refl _),c,(IntKind.i64.wrap (d+1)),a,rfl,?_⟩
  simp only[*,go_sem]
 obtain rfl:=sI h
 refine b7 ?_
 simp only[go_sem]
 obtain rfl:=sI a;clear a
 have h:=k
 dsimp only[aO] at h
 obtain rfl:=sI h
 refine aa hJ (ag hJ ?_)
 simp only[*,go_sem]
 refine aB ?_
 simp only[*,go_sem]
def me (u0:(List Int))(a:(List Int)):Option Bool:=
 ah (vn u0 a) fun b=>some b
theorem pN {ro:Addr->Option Value}(u0:(List Int)){s1:Value}(b:aA rI ro s1 u0)(a:(List Int)){c:Value}(d:aA rI ro c a){r:Bool}(h:me u0 a=some r):aC Tryz.prog 43 #[s1,c] ⟨ro,[]⟩ (fun v _=>v= .bool r):=by
 obtain ⟨d3,c4,rfl,f,g,-⟩:=id b
 obtain ⟨d10,i,rfl,j,k,-⟩:=id d
 unfold me at h
 refine aC.go Tryz.func43 rfl Tryz.ntmps43 Tryz.results43 (by simp) fun main J hJ A l hd hs=>?_
 have m:=hs 0
 have k1:=hs 1
 clear hs
 refine aa hJ (ag hJ ?_)
 simp only[*,go_sem]
 refine aa hJ (ag hJ ?_)
 revert h;refine bS fun n e h=>?_
 obtain rfl:=sI h
 simp only[*,go_sem]
 refine aR hJ _ (Fj u0 (b.mono aJ) a (d.mono aJ) e) (aD ?_)
 try simp only[*,go_sem]
 refine aB ?_
 simp only[*,go_sem]
def vo (a:aP)(i10:Nat)(b:aP)(st:Int):Option (Fl Int Int):=
 cond (((a.back==b.back)&&(a.high==b.high))) (some (.rt (i10:Int))) (some (.nx st))
def vp (u0:(List aP))(a:aP):Option Int:=
 ah (bE (vo a) 0 u0 0) fun o=>aO o (fun b=>some (-1)) (fun _ _=>none) (fun r=>some r)
theorem Fo {ro:Addr->Option Value}(u0:(List aP)){s1:Value}(g:aA iI ro s1 u0)(b:aP){r:Int}(h:vp u0 b=some r):aC Tryz.prog 132 #[s1,.agg #[.int .i64 b.back,.int .i64 b.high]] ⟨ro,[]⟩ (fun v _=>v= .int .i64 r):=by
 obtain ⟨d3,c4,rfl,I,l,-⟩:=id g
 unfold vp at h
 refine aC.go Tryz.func132 rfl Tryz.ntmps132 Tryz.results132 (by simp) fun main J hJ A o hd hs=>?_
 have p:=hs 0
 have k1:=hs 1
 clear hs
 refine aa hJ (ag hJ ?_)
 simp only[*,go_sem]
 refine av fun q K s=>?_;try simp only[au] at s
 try simp only[*,go_sem]
 refine aa hJ (aa hJ (ag hJ ?_))
 simp only[*,go_sem]
 refine aY hJ ?_
 revert h;refine bS fun t a i=>?_
 refine cc hJ [4,5,8,9,10,11,12,13,14,15,16,17,18] (fun m a' F'=>∃(i10:Nat) (c:Int),m=u0.length - i10/\i10<=u0.length/\bE (vo b) i10 (u0.drop i10) c=some t/\F'=⟨ro,(q,.cells #[.int .i64 b.back,.int .i64 b.high] 103)::[]⟩/\slot a' 8= .int .i64 (i10:Int)/\slot a' 4= .int .i64 c) u0.length ?_ ?_
 ·refine ⟨0,0,(Nat.sub_zero _).symm,Nat.zero_le _,a,rfl,?_⟩
  simp only[*,go_sem]
 rintro L M F' j ⟨i10,c,rfl,N,a,rfl,O,P⟩
 obtain ⟨u,w,y⟩:=j.pick [0,3,7] (by decide)
 simp only[*,go_sem] at u w y
 clear j o hd p k1
 refine aa hJ (ag hJ ?_)
 simp only[*,go_sem]
 refine aa hJ ?_
 rcases Nat.lt_or_ge i10 u0.length with z|k
 ·refine bM hJ (by simp only[*,go_sem]) ?_
  refine aG hJ ?_
  obtain ⟨B,d⟩:∃x,u0[i10]?=some x:=⟨_,List.getElem?_eq_getElem z⟩
  rw[c7 d] at a
  revert a;refine bS fun Q h e=>?_
  unfold vo at h
  try dsimp only at h
  obtain ⟨R,C,D,E,f⟩:=g.el _ _ d
  obtain rfl:C=B.cells:=E
  cases D
  have F:=f 0 _ rfl;simp only[go_sem] at F
  have G:=f 1 _ rfl;simp only[go_sem] at G
  clear f d
  refine aa hJ (aY hJ (aa hJ ?_))
  refine ag hJ ?_
  simp only[*,go_sem]
  refine aa hJ ?_
  refine dh hJ mixed 6 1 (by simp only[*,go_sem]) (by kernel_rfl) ?_
  simp only[*,go_sem]
  revert h;refine jC hJ (by simp only[*,go_sem]) (fun H h=>?_) fun H h=>?_
  ·obtain rfl:=sI h
   refine aa hJ (ag hJ ?_)
   simp only[*,go_sem]
   obtain rfl:=sI e;clear e
   have h:=i
   dsimp only[aO] at h
   obtain rfl:=sI h
   refine aB ?_
   simp only[*,go_sem]
  obtain rfl:=sI h
  refine aG hJ ?_
  have S:=cq (n:=i10) (by have:=l;omega)
  refine ag hJ ?_
  simp only[*,go_sem]
  refine ⟨u0.length - (i10+1),by omega,_,Le.sub (List.Sublist.refl _),i10+1,c,rfl,by omega,e,rfl,?_⟩
  simp only[*,go_sem]
 have T:=Nat.not_lt.2 k
 refine bJ hJ (by simp only[*,go_sem]) ?_
 rw[List.drop_eq_nil_of_le k] at a
 obtain rfl:=sI a;clear a
 have h:=i
 dsimp only[aO] at h
 obtain rfl:=sI h
 refine b7 ?_
 simp only[go_sem]
 refine aa hJ (ag hJ ?_)
 simp only[*,go_sem]
 refine aB ?_
 simp only[*,go_sem]
def vq (u0:(List aP))(a:aP):Option Bool:=
 ah (vp u0 a) fun b=>some (decide (0<=b))
theorem Fp {ro:Addr->Option Value}(u0:(List aP)){s1:Value}(b:aA iI ro s1 u0)(a:aP){r:Bool}(h:vq u0 a=some r):aC Tryz.prog 113 #[s1,.agg #[.int .i64 a.back,.int .i64 a.high]] ⟨ro,[]⟩ (fun v _=>v= .bool r):=by
 obtain ⟨d3,c4,rfl,e,f,-⟩:=id b
 unfold vq at h
 refine aC.go Tryz.func113 rfl Tryz.ntmps113 Tryz.results113 (by simp) fun main J hJ A g hd hs=>?_
 have i:=hs 0
 have k1:=hs 1
 clear hs
 refine aa hJ (ag hJ ?_)
 simp only[*,go_sem]
 refine av fun j k c=>?_;try simp only[au] at c
 try simp only[*,go_sem]
 refine aa hJ (ag hJ ?_)
 revert h;refine bS fun l d h=>?_
 obtain rfl:=sI h
 simp only[*,go_sem]
 refine aR hJ _ (Fo u0 (b.mono aJ) a d) (aD ?_)
 try simp only[*,go_sem]
 refine aB ?_
 simp only[*,go_sem]
def rJ (a:(bP->Option Bool))(i9:Nat)(b:bP)(st:Int):Option (Fl Int Int):=
 ah (a b) fun c=>cond (c) (some (.rt (i9:Int))) (some (.nx st))
def rK (u0:(List bP))(a:(bP->Option Bool)):Option Int:=
 ah (bE (rJ a) 0 u0 0) fun o=>aO o (fun b=>some (-1)) (fun _ _=>none) (fun r=>some r)
theorem Fq {ro:Addr->Option Value}(u0:(List bP)){s1:Value}(i:aA c8 ro s1 u0)(d:(bP->Option Bool)){dn:FuncId}{dQ dR:Array Value}(q:aI Tryz.prog dn=true/\∀(aL:Addr->Option Value),Ext ro aL->∀(j:bP) (z:Bool),d j=some z->aC Tryz.prog dn (dQ++#[j.v]++dR) ⟨aL,[]⟩ (fun v _=>v= .bool z)){r:Int}(h:rK u0 d=some r):aC Tryz.prog 154 #[s1,.func (.func dn) dQ dR] ⟨ro,[]⟩ (fun v _=>v= .int .i64 r):=by
 obtain ⟨d3,c4,rfl,M,s,-⟩:=id i
 unfold rK at h
 refine aC.go Tryz.func154 rfl Tryz.ntmps154 Tryz.results154 (by simp) fun main J hJ A t hd hs=>?_
 have u:=hs 0
 have k1:=hs 1
 clear hs
 refine aa hJ (ag hJ ?_)
 simp only[*,go_sem]
 refine aa hJ (aa hJ (ag hJ ?_))
 simp only[*,go_sem]
 refine aY hJ ?_
 revert h;refine bS fun w b k=>?_
 refine cc hJ [4,5,8,9,10,11,12,13,14,15,16,17,18] (fun m a' F'=>∃(i9:Nat) (c:Int),m=u0.length - i9/\i9<=u0.length/\bE (rJ d) i9 (u0.drop i9) c=some w/\F'=⟨ro,[]⟩/\slot a' 8= .int .i64 (i9:Int)/\slot a' 4= .int .i64 c) u0.length ?_ ?_
 ·refine ⟨0,0,(Nat.sub_zero _).symm,Nat.zero_le _,b,rfl,?_⟩
  simp only[*,go_sem]
 rintro N O F' l ⟨i9,c,rfl,P,b,rfl,Q,R⟩
 obtain ⟨y,B,C⟩:=l.pick [0,1,7] (by decide)
 simp only[*,go_sem] at y B C
 clear l t hd u k1
 refine aa hJ (ag hJ ?_)
 simp only[*,go_sem]
 refine aa hJ ?_
 rcases Nat.lt_or_ge i9 u0.length with D|o
 ·refine bM hJ (by simp only[*,go_sem]) ?_
  refine aG hJ ?_
  obtain ⟨p,e⟩:∃x,u0[i9]?=some x:=⟨_,List.getElem?_eq_getElem D⟩
  rw[c7 e] at b
  revert b;refine bS fun S h f=>?_
  unfold rJ at h
  try dsimp only at h
  obtain ⟨T,E,F,G,g⟩:=i.el _ _ e
  obtain rfl:E=p.cells:=G
  cases F
  have H:=g 0 _ rfl;simp only[go_sem] at H
  have I:=g 1 _ rfl;simp only[go_sem] at I
  clear g e
  refine aa hJ (aY hJ (aa hJ ?_))
  refine ag hJ ?_
  simp only[*,go_sem]
  refine aa hJ (ag hJ ?_)
  revert h;refine bS fun U K h=>?_
  simp only[*,go_sem]
  refine aR hJ _ (q.2 _ (fun a v h=>aJ a v h) p _ K) ?_
  try simp only[*,go_sem]
  revert h;refine jC hJ (by simp only[*,go_sem]) (fun L h=>?_) fun L h=>?_
  ·obtain rfl:=sI h
   refine aa hJ (ag hJ ?_)
   simp only[*,go_sem]
   obtain rfl:=sI f;clear f
   have h:=k
   dsimp only[aO] at h
   obtain rfl:=sI h
   refine aB ?_
   simp only[*,go_sem]
  obtain rfl:=sI h
  refine aG hJ ?_
  have V:=cq (n:=i9) (by have:=s;omega)
  refine ag hJ ?_
  simp only[*,go_sem]
  refine ⟨u0.length - (i9+1),by omega,_,Le.sub (List.Sublist.refl _),i9+1,c,rfl,by omega,f,rfl,?_⟩
  simp only[*,go_sem]
 have W:=Nat.not_lt.2 o
 refine bJ hJ (by simp only[*,go_sem]) ?_
 rw[List.drop_eq_nil_of_le o] at b
 obtain rfl:=sI b;clear b
 have h:=k
 dsimp only[aO] at h
 obtain rfl:=sI h
 refine b7 ?_
 simp only[go_sem]
 refine aa hJ (ag hJ ?_)
 simp only[*,go_sem]
 refine aB ?_
 simp only[*,go_sem]
def pO (u0:(List bP))(a:(bP->Option Bool)):Option Bool:=
 ah (rK u0 a) fun b=>some (decide (0<=b))
theorem Fs {ro:Addr->Option Value}(u0:(List bP)){s1:Value}(b:aA c8 ro s1 u0)(a:(bP->Option Bool)){dn:FuncId}{dQ dR:Array Value}(c:aI Tryz.prog dn=true/\∀(aL:Addr->Option Value),Ext ro aL->∀(d:bP) (z:Bool),a d=some z->aC Tryz.prog dn (dQ++#[d.v]++dR) ⟨aL,[]⟩ (fun v _=>v= .bool z)){r:Bool}(h:pO u0 a=some r):aC Tryz.prog 126 #[s1,.func (.func dn) dQ dR] ⟨ro,[]⟩ (fun v _=>v= .bool r):=by
 obtain ⟨d3,c4,rfl,g,i,-⟩:=id b
 unfold pO at h
 refine aC.go Tryz.func126 rfl Tryz.ntmps126 Tryz.results126 (by simp) fun main J hJ A j hd hs=>?_
 have k:=hs 0
 have k1:=hs 1
 clear hs
 refine aa hJ (ag hJ ?_)
 simp only[*,go_sem]
 refine aa hJ (ag hJ ?_)
 revert h;refine bS fun l e h=>?_
 obtain rfl:=sI h
 simp only[*,go_sem]
 refine aR hJ _ (Fq (dn:=dn) (dQ:=dQ) (dR:=dR) u0 (b.mono aJ) a ⟨c.1,fun _ f=>c.2 _ (Ext.trans aJ f)⟩ e) (aD ?_)
 try simp only[*,go_sem]
 refine aB ?_
 simp only[*,go_sem]
def vr (a:(aP->Option Bool))(i9:Nat)(b:aP)(st:Int):Option (Fl Int Int):=
 ah (a b) fun c=>cond (c) (some (.rt (i9:Int))) (some (.nx st))
def vt (u0:(List aP))(a:(aP->Option Bool)):Option Int:=
 ah (bE (vr a) 0 u0 0) fun o=>aO o (fun b=>some (-1)) (fun _ _=>none) (fun r=>some r)
theorem Ft {ro:Addr->Option Value}(u0:(List aP)){s1:Value}(i:aA iI ro s1 u0)(d:(aP->Option Bool)){dn:FuncId}{dQ dR:Array Value}(q:aI Tryz.prog dn=true/\∀(aL:Addr->Option Value),Ext ro aL->∀(j:aP) (z:Bool),d j=some z->aC Tryz.prog dn (dQ++#[j.v]++dR) ⟨aL,[]⟩ (fun v _=>v= .bool z)){r:Int}(h:vt u0 d=some r):aC Tryz.prog 170 #[s1,.func (.func dn) dQ dR] ⟨ro,[]⟩ (fun v _=>v= .int .i64 r):=by
 obtain ⟨d3,c4,rfl,M,s,-⟩:=id i
 unfold vt at h
 refine aC.go Tryz.func170 rfl Tryz.ntmps170 Tryz.results170 (by simp) fun main J hJ A t hd hs=>?_
 have u:=hs 0
 have k1:=hs 1
 clear hs
 refine aa hJ (ag hJ ?_)
 simp only[*,go_sem]
 refine aa hJ (aa hJ (ag hJ ?_))
 simp only[*,go_sem]
 refine aY hJ ?_
 revert h;refine bS fun w b k=>?_
 refine cc hJ [4,5,8,9,10,11,12,13,14,15,16,17,18] (fun m a' F'=>∃(i9:Nat) (c:Int),m=u0.length - i9/\i9<=u0.length/\bE (vr d) i9 (u0.drop i9) c=some w/\F'=⟨ro,[]⟩/\slot a' 8= .int .i64 (i9:Int)/\slot a' 4= .int .i64 c) u0.length ?_ ?_
 ·refine ⟨0,0,(Nat.sub_zero _).symm,Nat.zero_le _,b,rfl,?_⟩
  simp only[*,go_sem]
 rintro N O F' l ⟨i9,c,rfl,P,b,rfl,Q,R⟩
 obtain ⟨y,B,C⟩:=l.pick [0,1,7] (by decide)
 simp only[*,go_sem] at y B C
 clear l t hd u k1
 refine aa hJ (ag hJ ?_)
 simp only[*,go_sem]
 refine aa hJ ?_
 rcases Nat.lt_or_ge i9 u0.length with D|o
 ·refine bM hJ (by simp only[*,go_sem]) ?_
  refine aG hJ ?_
  obtain ⟨p,e⟩:∃x,u0[i9]?=some x:=⟨_,List.getElem?_eq_getElem D⟩
  rw[c7 e] at b
  revert b;refine bS fun S h f=>?_
  unfold vr at h
  try dsimp only at h
  obtain ⟨T,E,F,G,g⟩:=i.el _ _ e
  obtain rfl:E=p.cells:=G
  cases F
  have H:=g 0 _ rfl;simp only[go_sem] at H
  have I:=g 1 _ rfl;simp only[go_sem] at I
  clear g e
  refine aa hJ (aY hJ (aa hJ ?_))
  refine ag hJ ?_
  simp only[*,go_sem]
  refine aa hJ (ag hJ ?_)
  revert h;refine bS fun U K h=>?_
  simp only[*,go_sem]
  refine aR hJ _ (q.2 _ (fun a v h=>aJ a v h) p _ K) ?_
  try simp only[*,go_sem]
  revert h;refine jC hJ (by simp only[*,go_sem]) (fun L h=>?_) fun L h=>?_
  ·obtain rfl:=sI h
   refine aa hJ (ag hJ ?_)
   simp only[*,go_sem]
   obtain rfl:=sI f;clear f
   have h:=k
   dsimp only[aO] at h
   obtain rfl:=sI h
   refine aB ?_
   simp only[*,go_sem]
  obtain rfl:=sI h
  refine aG hJ ?_
  have V:=cq (n:=i9) (by have:=s;omega)
  refine ag hJ ?_
  simp only[*,go_sem]
  refine ⟨u0.length - (i9+1),by omega,_,Le.sub (List.Sublist.refl _),i9+1,c,rfl,by omega,f,rfl,?_⟩
  simp only[*,go_sem]
 have W:=Nat.not_lt.2 o
 refine bJ hJ (by simp only[*,go_sem]) ?_
 rw[List.drop_eq_nil_of_le o] at b
 obtain rfl:=sI b;clear b
 have h:=k
 dsimp only[aO] at h
 obtain rfl:=sI h
 refine b7 ?_
 simp only[go_sem]
 refine aa hJ (ag hJ ?_)
 simp only[*,go_sem]
 refine aB ?_
 simp only[*,go_sem]
def vu (u0:(List aP))(a:(aP->Option Bool)):Option Bool:=
 ah (vt u0 a) fun b=>some (decide (0<=b))
theorem Fu {ro:Addr->Option Value}(u0:(List aP)){s1:Value}(b:aA iI ro s1 u0)(a:(aP->Option Bool)){dn:FuncId}{dQ dR:Array Value}(c:aI Tryz.prog dn=true/\∀(aL:Addr->Option Value),Ext ro aL->∀(d:aP) (z:Bool),a d=some z->aC Tryz.prog dn (dQ++#[d.v]++dR) ⟨aL,[]⟩ (fun v _=>v= .bool z)){r:Bool}(h:vu u0 a=some r):aC Tryz.prog 146 #[s1,.func (.func dn) dQ dR] ⟨ro,[]⟩ (fun v _=>v= .bool r):=by
 obtain ⟨d3,c4,rfl,g,i,-⟩:=id b
 unfold vu at h
 refine aC.go Tryz.func146 rfl Tryz.ntmps146 Tryz.results146 (by simp) fun main J hJ A j hd hs=>?_
 have k:=hs 0
 have k1:=hs 1
 clear hs
 refine aa hJ (ag hJ ?_)
 simp only[*,go_sem]
 refine aa hJ (ag hJ ?_)
 revert h;refine bS fun l e h=>?_
 obtain rfl:=sI h
 simp only[*,go_sem]
 refine aR hJ _ (Ft (dn:=dn) (dQ:=dQ) (dR:=dR) u0 (b.mono aJ) a ⟨c.1,fun _ f=>c.2 _ (Ext.trans aJ f)⟩ e) (aD ?_)
 try simp only[*,go_sem]
 refine aB ?_
 simp only[*,go_sem]
def vv (a:(aX->Option Bool))(i38:Nat)(b:aX)(st:Int):Option (Fl Int Int):=
 ah (a b) fun c=>cond (c) (some (.nx (IntKind.i64.wrap (st+1)))) (some (.nx st))
def rM (u0:cR)(b:(aX->Option Bool)):Option Int:=
 ah (bE (vv b) 0 u0.all 0) fun o=>aO o (fun a=>cond ((a==(u0.all.length:Int))) (some 1) (cond ((a==0)) (some 2) (some 0))) (fun _ _=>none) (fun r=>some r)
theorem Aj {ro:Addr->Option Value}(u0:cR){s1 e f g:Value}(Y:bG ro u0.book s1 e f g){k:Value}(l:aA gK ro k u0.all)(i:(aX->Option Bool)){dn:FuncId}{dQ dR:Array Value}(w:aI Tryz.prog dn=true/\∀(aL:Addr->Option Value),Ext ro aL->∀(o:aX) (z:Bool),i o=some z->aC Tryz.prog dn (dQ++#[o.v]++dR) ⟨aL,[]⟩ (fun v _=>v= .bool z)){r:Int}(h:rM u0 i=some r):aC Tryz.prog 67 #[.agg #[.int .i64 u0.book.aQ,.int .i64 u0.book.aN,.int .i64 u0.book.aE.num,.int .i64 u0.book.aE.den,s1,e,f,g,k],.func (.func dn) dQ dR] ⟨ro,[]⟩ (fun v _=>v= .int .i64 r):=by
 obtain ⟨d31,y,rfl,Z,p,-⟩:=id l
 unfold rM at h
 refine aC.go Tryz.func67 rfl Tryz.ntmps67 Tryz.results67 (by simp) fun main J hJ A B hd hs=>?_
 have C:=hs 0
 have k1:=hs 1
 clear hs
 refine aa hJ (ag hJ ?_)
 simp only[*,go_sem]
 refine av fun D ab E=>?_;try simp only[au] at E
 try simp only[*,go_sem]
 refine aa hJ (ag hJ ?_)
 simp only[*,go_sem]
 refine aa hJ (aa hJ (ag hJ ?_))
 simp only[*,go_sem]
 refine aY hJ ?_
 revert h;refine bS fun F b G=>?_
 refine cc hJ [5,7,11,12,13,14,15,16,17,18,19,20] (fun m a' F'=>∃(i38:Nat) (c:Int),m=u0.all.length - i38/\i38<=u0.all.length/\bE (vv i) i38 (u0.all.drop i38) c=some F/\F'=⟨ro,(D,kn u0 s1 e f g (sl d31 u0.all y))::[]⟩/\slot a' 11= .int .i64 (i38:Int)/\slot a' 5= .int .i64 c) u0.all.length ?_ ?_
 ·refine ⟨0,0,(Nat.sub_zero _).symm,Nat.zero_le _,b,rfl,?_⟩
  simp only[*,go_sem]
 rintro ad ae F' q ⟨i38,c,rfl,al,b,rfl,ao,ar⟩
 obtain ⟨H,I,K⟩:=q.pick [1,2,4,9,10] (by decide)
 simp only[*,go_sem] at H I K
 clear q B hd C k1
 refine aa hJ (ag hJ ?_)
 simp only[*,go_sem]
 refine aa hJ ?_
 rcases Nat.lt_or_ge i38 u0.all.length with L|s
 ·refine bM hJ (by simp only[*,go_sem]) ?_
  refine aG hJ ?_
  obtain ⟨t,j⟩:∃x,u0.all[i38]?=some x:=⟨_,List.getElem?_eq_getElem L⟩
  rw[c7 j] at b
  revert b;refine bS fun a0 h u=>?_
  unfold vv at h
  try dsimp only at h
  obtain ⟨a2,M,N,O,d⟩:=l.el _ _ j
  obtain rfl:M=t.cells:=O
  cases N
  have P:=d 0 _ rfl;simp only[go_sem] at P
  have Q:=d 1 _ rfl;simp only[go_sem] at Q
  have R:=d 2 _ rfl;simp only[go_sem] at R
  clear d j
  refine aa hJ (aY hJ (aa hJ ?_))
  refine ag hJ ?_
  simp only[*,go_sem]
  refine av fun a3 a4 S=>?_;try simp only[au] at S
  try simp only[*,go_sem]
  refine aa hJ (ag hJ ?_)
  revert h;refine bS fun a5 T h=>?_
  simp only[*,go_sem]
  refine aR hJ _ (w.2 _ (fun a v h=>aJ a v h) t _ T) ?_
  try simp only[*,go_sem]
  revert h;refine jC hJ (by simp only[*,go_sem]) (fun U h=>?_) fun U h=>?_
  ·obtain rfl:=sI h
   refine ag hJ ?_
   simp only[*,go_sem]
   have V:=cq (n:=i38) (by have:=p;omega)
   refine ag hJ ?_
   simp only[*,go_sem]
   refine ⟨u0.all.length - (i38+1),by omega,_,Le.sub (List.Sublist.cons _ (List.Sublist.refl _)),i38+1,(IntKind.i64.wrap (c+1)),rfl,by omega,u,rfl,?_⟩
   simp only[*,go_sem]
  obtain rfl:=sI h
  refine aG hJ ?_
  have V:=cq (n:=i38) (by have:=p;omega)
  refine ag hJ ?_
  simp only[*,go_sem]
  refine ⟨u0.all.length - (i38+1),by omega,_,Le.sub (List.Sublist.cons _ (List.Sublist.refl _)),i38+1,c,rfl,by omega,u,rfl,?_⟩
  simp only[*,go_sem]
 have a6:=Nat.not_lt.2 s
 refine bJ hJ (by simp only[*,go_sem]) ?_
 rw[List.drop_eq_nil_of_le s] at b
 obtain rfl:=sI b;clear b
 have h:=G
 dsimp only[aO] at h
 refine b7 ?_
 simp only[go_sem]
 refine aa hJ (aa hJ (ag hJ ?_))
 simp only[*,go_sem]
 refine aY hJ (aa hJ ?_)
 refine ag hJ ?_
 simp only[*,go_sem]
 revert h;refine jC hJ (by simp only[*,go_sem]) (fun W h=>?_) fun W h=>?_
 ·obtain rfl:=sI h
  refine aa hJ (ag hJ ?_)
  simp only[*,go_sem]
  refine aB ?_
  simp only[*,go_sem]
 refine aa hJ (ag hJ ?_)
 simp only[*,go_sem]
 revert h;refine jC hJ (by simp only[*,go_sem]) (fun X h=>?_) fun X h=>?_
 ·obtain rfl:=sI h
  refine aa hJ (ag hJ ?_)
  simp only[*,go_sem]
  refine aB ?_
  simp only[*,go_sem]
 obtain rfl:=sI h
 refine aG hJ (aa hJ ?_)
 refine ag hJ ?_
 simp only[*,go_sem]
 refine aB ?_
 simp only[*,go_sem]
def pP (u0:bP)(a:aj)(w1:aX):Option Bool:=
 ah (aX.get w1 u0.aW) fun b=>ah (jq a u0.aW b) fun c=>ah (fU a c) fun d=>some (!(d==u0.bu))
theorem Fv {ro:Addr->Option Value}(u0:bP)(a:aj){b:Nat}(y:ro ⟨b,0,none⟩=some (.int .i64 a.aQ))(z:ro ⟨b,1,none⟩=some (.int .i64 a.aN))(B:ro ⟨b,2,none⟩=some (.int .i64 a.aE.num))(C:ro ⟨b,3,none⟩=some (.int .i64 a.aE.den)){s1:Value}(e:aA ey ro s1 a.an)(D:ro ⟨b,4,none⟩=some (s1)){j:Value}(f:aA dW ro j a.props)(E:ro ⟨b,5,none⟩=some (j)){k:Value}(g:aA ek ro k a.aF)(G:ro ⟨b,6,none⟩=some (k)){l:Value}(i:aA c8 ro l a.told)(H:ro ⟨b,7,none⟩=some (l))(w1:aX){d:Nat}(o:ro ⟨d,0,none⟩=some (.int .i64 w1.e0))(p:ro ⟨d,1,none⟩=some (.int .i64 w1.e1))(q:ro ⟨d,2,none⟩=some (.int .i64 w1.e2)){r:Bool}(h:pP u0 a w1=some r):aC Tryz.prog 127 #[.agg #[.int .i64 u0.aW,.bool u0.bu],.pointer (some ⟨b,0,none⟩),.pointer (some ⟨d,0,none⟩)] ⟨ro,[]⟩ (fun v _=>v= .bool r):=by
 obtain ⟨d3,c4,rfl,I,K,-⟩:=id e
 obtain ⟨d10,L,rfl,M,N,-⟩:=id f
 obtain ⟨d17,O,rfl,P,Q,-⟩:=id g
 obtain ⟨d24,R,rfl,S,T,-⟩:=id i
 unfold pP at h
 refine aC.go Tryz.func127 rfl Tryz.ntmps127 Tryz.results127 (by simp) fun main J hJ A U hd hs=>?_
 have V:=hs 0
 have k1:=hs 1
 have W:=hs 2
 clear hs
 refine aa hJ (ag hJ ?_)
 simp only[*,go_sem]
 refine av fun X Y s=>?_;try simp only[au] at s
 try simp only[*,go_sem]
 refine aa hJ ?_
 refine dh hJ mixed 14 1 (by simp only[*,go_sem]) (by kernel_rfl) ?_
 revert h;refine bS fun t m h=>?_
 obtain ⟨Z,ab,n⟩:=aX.get_some m;clear n
 have n:=aX.E3 m o p q
 revert h;refine bS fun u w h=>?_
 try simp only[*,go_sem]
 refine ⟨_,bA hJ fun F c=>lZ a ⟨(e.mono (bX c)),(f.mono (bX c)),(g.mono (bX c)),(i.mono (bX c))⟩ u0.aW t w,bV ?_⟩
 revert h;refine bS fun ad x h=>?_
 obtain rfl:=sI h
 try simp only[*,go_sem]
 refine ⟨_,bA hJ fun F c=>mc a ⟨(e.mono (bX c)),(f.mono (bX c)),(g.mono (bX c)),(i.mono (bX c))⟩ u x,bV ?_⟩
 try simp only[*,go_sem]
 refine aB ?_
 simp only[*,go_sem]
def nt (u0:aj)(a:aX):Option Bool:=
 ah (pO u0.told (fun b=>pP b u0 a)) fun c=>some (!c)
theorem Fw {ro:Addr->Option Value}(u0:aj){s1 f g i:Value}(b:bG ro u0 s1 f g i)(c:aX){r:Bool}(h:nt u0 c=some r):aC Tryz.prog 104 #[bv u0 s1 f g i,.agg #[.int .i64 c.e0,.int .i64 c.e1,.int .i64 c.e2]] ⟨ro,[]⟩ (fun v _=>v= .bool r):=by
 obtain ⟨d3,c4,rfl,q,s,-⟩:=id b.e
 obtain ⟨d10,u,rfl,w,x,-⟩:=id b.p
 obtain ⟨d17,z,rfl,B,C,-⟩:=id b.y
 obtain ⟨d24,D,rfl,E,F,-⟩:=id b.t
 unfold nt at h
 refine aC.go Tryz.func104 rfl Tryz.ntmps104 Tryz.results104 (by simp) fun main J hJ A G hd hs=>?_
 have H:=hs 0
 have k1:=hs 1
 clear hs
 refine aa hJ (ag hJ ?_)
 simp only[*,go_sem]
 refine av fun j I k=>?_;try simp only[au] at k
 refine av fun l K m=>?_;try simp only[au] at m
 try simp only[*,go_sem]
 refine aa hJ (ag hJ ?_)
 revert h;refine bS fun L n h=>?_
 obtain rfl:=sI h
 simp only[*,go_sem]
 refine aR hJ _ (Fs (dn:=127) (dQ:=#[]) (dR:=#[.pointer (some ⟨j,0,none⟩),.pointer (some ⟨l,0,none⟩)]) u0.told (b.t.mono aJ) (fun d=>pP d u0 c) ⟨by simp only[go_sem],fun M a d N o=>by simp only[go_sem];exact Fv d u0 (a _ _ (by simp only[af.cr,go_sem, *])) (a _ _ (by simp only[af.cr,go_sem, *])) (a _ _ (by simp only[af.cr,go_sem, *])) (a _ _ (by simp only[af.cr,go_sem, *])) ((b.e.mono aJ).mono a) (a _ _ (by simp only[af.cr,go_sem, *])) ((b.p.mono aJ).mono a) (a _ _ (by simp only[af.cr,go_sem, *])) ((b.y.mono aJ).mono a) (a _ _ (by simp only[af.cr,go_sem, *])) ((b.t.mono aJ).mono a) (a _ _ (by simp only[af.cr,go_sem, *])) c (a _ _ (by simp only[af.cr,go_sem, *])) (a _ _ (by simp only[af.cr,go_sem, *])) (a _ _ (by simp only[af.cr,go_sem, *])) o⟩ n) (aD ?_)
 try simp only[*,go_sem]
 refine aB ?_
 simp only[*,go_sem]
def rN (u0:aj)(a:(List aP)):Option Bool:=
 ah (vu a (fU u0)) fun b=>some (!b)
theorem Fx {ro:Addr->Option Value}(u0:aj){s1 c d f:Value}(a:bG ro u0 s1 c d f)(g:(List aP)){i:Value}(j:aA iI ro i g){r:Bool}(h:rN u0 g=some r):aC Tryz.prog 119 #[bv u0 s1 c d f,i] ⟨ro,[]⟩ (fun v _=>v= .bool r):=by
 obtain ⟨d31,n,rfl,o,q,-⟩:=id j
 unfold rN at h
 refine aC.go Tryz.func119 rfl Tryz.ntmps119 Tryz.results119 (by simp) fun main J hJ A s hd hs=>?_
 have u:=hs 0
 have k1:=hs 1
 clear hs
 refine aa hJ (ag hJ ?_)
 simp only[*,go_sem]
 refine av fun w x k=>?_;try simp only[au] at k
 try simp only[*,go_sem]
 refine aa hJ (ag hJ ?_)
 revert h;refine bS fun z l h=>?_
 obtain rfl:=sI h
 simp only[*,go_sem]
 refine aR hJ _ (Fu (dn:=64) (dQ:=#[bv u0 s1 c d f]) (dR:=#[]) g (j.mono aJ) (fU u0) ⟨by simp only[go_sem],fun B b m _ h=>by simp only[go_sem];exact mc u0 ⟨((a.e.mono aJ).mono b),((a.p.mono aJ).mono b),((a.y.mono aJ).mono b),((a.t.mono aJ).mono b)⟩ m h⟩ l) (aD ?_)
 try simp only[*,go_sem]
 refine aB ?_
 simp only[*,go_sem]
def rO (u0:aX)(a:cR)(w1:Int):Option Bool:=
 ah (aX.get u0 w1) fun b=>ah (jq a.book w1 b) fun c=>ah (fU a.book c) fun d=>some d
theorem Fy {ro:Addr->Option Value}(u0:aX)(a:cR){b:Nat}(x:ro ⟨b,0,none⟩=some (.int .i64 a.book.aQ))(y:ro ⟨b,1,none⟩=some (.int .i64 a.book.aN))(z:ro ⟨b,2,none⟩=some (.int .i64 a.book.aE.num))(B:ro ⟨b,3,none⟩=some (.int .i64 a.book.aE.den)){s1:Value}(d:aA ey ro s1 a.book.an)(C:ro ⟨b,4,none⟩=some (s1)){i:Value}(e:aA dW ro i a.book.props)(D:ro ⟨b,5,none⟩=some (i)){j:Value}(f:aA ek ro j a.book.aF)(E:ro ⟨b,6,none⟩=some (j)){k:Value}(g:aA c8 ro k a.book.told)(G:ro ⟨b,7,none⟩=some (k)){l:Value}(n:aA gK ro l a.all)(H:ro ⟨b,8,none⟩=some (l))(w1:Int){m:Nat}(I:ro ⟨m,0,none⟩=some (.int .i64 w1)){r:Bool}(h:rO u0 a w1=some r):aC Tryz.prog 83 #[.agg #[.int .i64 u0.e0,.int .i64 u0.e1,.int .i64 u0.e2],.pointer (some ⟨b,0,none⟩),.pointer (some ⟨m,0,none⟩)] ⟨ro,[]⟩ (fun v _=>v= .bool r):=by
 obtain ⟨d3,c4,rfl,K,L,-⟩:=id d
 obtain ⟨d10,M,rfl,N,O,-⟩:=id e
 obtain ⟨d17,P,rfl,Q,R,-⟩:=id f
 obtain ⟨d24,S,rfl,T,U,-⟩:=id g
 obtain ⟨d31,V,rfl,W,X,-⟩:=id n
 unfold rO at h
 refine aC.go Tryz.func83 rfl Tryz.ntmps83 Tryz.results83 (by simp) fun main J hJ A Y hd hs=>?_
 have Z:=hs 0
 have k1:=hs 1
 have ab:=hs 2
 clear hs
 refine aa hJ (ag hJ ?_)
 simp only[*,go_sem]
 refine av fun ad ae o=>?_;try simp only[au] at o
 try simp only[*,go_sem]
 refine aa hJ ?_
 refine dh hJ mixed 11 1 (by simp only[*,go_sem]) (by kernel_rfl) ?_
 revert h;refine bS fun p q h=>?_
 obtain ⟨al,ao,s⟩:=aX.get_some q
 try simp only[go_sem] at s
 revert h;refine bS fun t u h=>?_
 try simp only[*,go_sem]
 refine ⟨_,bA hJ fun F c=>lZ a.book ⟨(d.mono (bX c)),(e.mono (bX c)),(f.mono (bX c)),(g.mono (bX c))⟩ w1 p u,bV ?_⟩
 revert h;refine bS fun ar w h=>?_
 obtain rfl:=sI h
 try simp only[*,go_sem]
 refine ⟨_,bA hJ fun F c=>mc a.book ⟨(d.mono (bX c)),(e.mono (bX c)),(f.mono (bX c)),(g.mono (bX c))⟩ t w,bV ?_⟩
 try simp only[*,go_sem]
 refine aB ?_
 simp only[*,go_sem]
def vw (u0:aX)(a:cR)(i38:Nat)(e:bR)(st:Bool):Option (Fl Bool Bool):=
 ah (aX.get u0 (i38:Int)) fun b=>ah (jq a.book (i38:Int) b) fun c=>ah (fU a.book c) fun d=>cond (d) (some (.rt false)) (some (.nx st))
def rP (u0:aX)(a:cR):Option Bool:=
 ah (bE (vw u0 a) 0 a.book.aF false) fun o=>aO o (fun b=>some true) (fun _ _=>none) (fun r=>some r)
theorem Fz {ro:Addr->Option Value}(u0:aX)(a:cR){b:Nat}(ad:ro ⟨b,0,none⟩=some (.int .i64 a.book.aQ))(ae:ro ⟨b,1,none⟩=some (.int .i64 a.book.aN))(al:ro ⟨b,2,none⟩=some (.int .i64 a.book.aE.num))(ao:ro ⟨b,3,none⟩=some (.int .i64 a.book.aE.den)){s1:Value}(i:aA ey ro s1 a.book.an)(ar:ro ⟨b,4,none⟩=some (s1)){p:Value}(j:aA dW ro p a.book.props)(a0:ro ⟨b,5,none⟩=some (p)){q:Value}(e:aA ek ro q a.book.aF)(a2:ro ⟨b,6,none⟩=some (q)){s:Value}(k:aA c8 ro s a.book.told)(a3:ro ⟨b,7,none⟩=some (s)){t:Value}(z:aA gK ro t a.all)(a4:ro ⟨b,8,none⟩=some (t)){r:Bool}(h:rP u0 a=some r):aC Tryz.prog 68 #[.agg #[.int .i64 u0.e0,.int .i64 u0.e1,.int .i64 u0.e2],.pointer (some ⟨b,0,none⟩)] ⟨ro,[]⟩ (fun v _=>v= .bool r):=by
 obtain ⟨d3,c4,rfl,a5,a6,-⟩:=id i
 obtain ⟨d10,a7,rfl,a8,a9,-⟩:=id j
 obtain ⟨d17,ba,rfl,bb,B,-⟩:=id e
 obtain ⟨d24,bc,rfl,bd,bj,-⟩:=id k
 obtain ⟨d31,bk,rfl,bl,bm,-⟩:=id z
 unfold rP at h
 refine aC.go Tryz.func68 rfl Tryz.ntmps68 Tryz.results68 (by simp) fun main J hJ A C hd hs=>?_
 have D:=hs 0
 have k1:=hs 1
 clear hs
 refine aa hJ (ag hJ ?_)
 simp only[*,go_sem]
 refine av fun E bo G=>?_;try simp only[au] at G
 try simp only[*,go_sem]
 refine aa hJ (aa hJ (ag hJ ?_))
 simp only[*,go_sem]
 refine aY hJ ?_
 revert h;refine bS fun H d u=>?_
 refine cc hJ [3,4,10,11,12,13,14,15,16,17,18,19,20,21,22,23] (fun m a' F'=>∃(i38:Nat) (f:Bool),m=a.book.aF.length - i38/\i38<=a.book.aF.length/\bE (vw u0 a) i38 (a.book.aF.drop i38) f=some H/\F'=⟨ro,(E,.cells #[.int .i64 u0.e0,.int .i64 u0.e1,.int .i64 u0.e2] 120)::[]⟩/\slot a' 10= .int .i64 (i38:Int)/\slot a' 3= .bool f) a.book.aF.length ?_ ?_
 ·refine ⟨0,false,(Nat.sub_zero _).symm,Nat.zero_le _,d,rfl,?_⟩
  simp only[*,go_sem]
 rintro br bs F' w ⟨i38,f,rfl,bz,d,rfl,b0,b1⟩
 obtain ⟨I,K,L⟩:=w.pick [1,2,9] (by decide)
 simp only[*,go_sem] at I K L
 clear w C hd D k1
 refine aa hJ (ag hJ ?_)
 simp only[*,go_sem]
 refine aa hJ ?_
 rcases Nat.lt_or_ge i38 a.book.aF.length with M|y
 ·refine bM hJ (by simp only[*,go_sem]) ?_
  refine aG hJ ?_
  obtain ⟨N,l⟩:∃x,a.book.aF[i38]?=some x:=⟨_,List.getElem?_eq_getElem M⟩
  rw[c7 l] at d
  revert d;refine bS fun b2 h o=>?_
  unfold vw at h
  try dsimp only at h
  obtain ⟨b3,O,P,Q,g⟩:=e.el _ _ l
  obtain rfl:O=N.cells:=Q
  cases P
  have R:=g 0 _ rfl;simp only[go_sem] at R
  have S:=g 1 _ rfl;simp only[go_sem] at S
  have T:=g 2 _ rfl;simp only[go_sem] at T
  clear g l
  refine aa hJ (aY hJ (aa hJ ?_))
  refine ag hJ ?_
  simp only[*,go_sem]
  refine aa hJ ?_
  refine dh hJ mixed 10 1 (by simp only[*,go_sem]) (by kernel_rfl) ?_
  revert h;refine bS fun U V h=>?_
  obtain ⟨b4,b5,W⟩:=aX.get_some V
  try simp only[go_sem] at W
  revert h;refine bS fun X Y h=>?_
  try simp only[*,go_sem]
  refine ⟨_,bA hJ fun F c=>lZ a.book ⟨(i.mono (bX c)),(j.mono (bX c)),(e.mono (bX c)),(k.mono (bX c))⟩ (i38:Int) U Y,bV ?_⟩
  revert h;refine bS fun ca Z h=>?_
  try simp only[*,go_sem]
  refine ⟨_,bA hJ fun F c=>mc a.book ⟨(i.mono (bX c)),(j.mono (bX c)),(e.mono (bX c)),(k.mono (bX c))⟩ X Z,?_⟩
  try simp only[*,go_sem]
  revert h;refine jC hJ (by simp only[*,go_sem]) (fun ab h=>?_) fun ab h=>?_
  ·obtain rfl:=sI h
   refine aa hJ (ag hJ ?_)
   simp only[*,go_sem]
   obtain rfl:=sI o;clear o
   have h:=u
   dsimp only[aO] at h
   obtain rfl:=sI h
   refine aB ?_
   simp only[*,go_sem]
  obtain rfl:=sI h
  refine aG hJ ?_
  have cb:=cq (n:=i38) (by have:=B;omega)
  refine ag hJ ?_
  simp only[*,go_sem]
  refine ⟨a.book.aF.length - (i38+1),by omega,_,Le.sub (List.Sublist.refl _),i38+1,f,rfl,by omega,o,rfl,?_⟩
  simp only[*,go_sem]
 have cd:=Nat.not_lt.2 y
 refine bJ hJ (by simp only[*,go_sem]) ?_
 rw[List.drop_eq_nil_of_le y] at d
 obtain rfl:=sI d;clear d
 have h:=u
 dsimp only[aO] at h
 obtain rfl:=sI h
 refine b7 ?_
 simp only[go_sem]
 refine aa hJ (ag hJ ?_)
 simp only[*,go_sem]
 refine aB ?_
 simp only[*,go_sem]
def aX.setAt (h:aX)(i n:Int):Option aX:=if i=0 then some {h with e0:=n} else if i=1 then some {h with e1:=n} else if i=2 then some {h with e2:=n} else none
theorem aX.FA {h h1:aX}{i n:Int}(e:h.setAt i n=some h1):(i=0/\h1={h with e0:=n})\/(i=1/\h1={h with e1:=n})\/(i=2/\h1={h with e2:=n}):=by
 unfold aX.setAt at e
 split at e
 ·exact .inl ⟨‹_›,(Option.some.inj e).symm⟩
 ·split at e
  ·exact .inr (.inl ⟨‹_›,(Option.some.inj e).symm⟩)
  ·split at e
   ·exact .inr (.inr ⟨‹_›,(Option.some.inj e).symm⟩)
   ·cases e
def iL (f:aX->List (Option aX)×aX)(i hi:Int):Nat->Int->aX->List (Option aX)×aX
 |0,_,h=>([none],h)
 |k+1,n,h=>if n<=hi then match h.setAt i n with
   |none=>([none],h)
   |some h1=>((f h1).1++(iL f i hi k (IntKind.i64.wrap (n+1)) (f h1).2).1,(iL f i hi k (IntKind.i64.wrap (n+1)) (f h1).2).2)
  else ([],h)
def eG (b:aj):Nat->Int->aX->List (Option aX)×aX
 |0,_,h=>([none],h)
 |fuel+1,i,h=>if i=b.aF.length then ((match nt b h with
   |some true=>[some h]
   |some false=>[]
   |none=>[none]),h)
  else match bK b.aF i with
   |none=>([none],h)
   |some e=>iL (eG b fuel (IntKind.i64.wrap (i+1))) i e.high.high 100 e.high.low h
def mg (b:aj):List (Option aX):=(eG b 5 0 ⟨0,0,0⟩).1
theorem FB {H σ:Type}{step:σ->H->Option (Bool×σ)}{l l':List (Option H)}{s s':σ}{c:Bool}(h:eW step (l++l') s=some (c,s')):
  (∃s1,eW step l s=some (true,s1)/\eW step l' s1=some (c,s'))\/(eW step l s=some (false,s')/\c=false):=by
 rw[z2] at h
 split at h
 ·rename_i s1 h1;exact .inl ⟨s1,h1,h⟩
 ·rename_i s1 h1;simp only[Option.some.injEq,Prod.mk.injEq] at h;obtain ⟨rfl,rfl⟩:=h;exact .inr ⟨h1,rfl⟩
 ·cases h
theorem pQ {H σ:Type}{step:σ->H->Option (Bool×σ)}{s:σ}{r:Bool×σ}(h:eW step [none] s=some r):False:=by cases h
section
variable {ro : Addr → Option Value} {σ : Type} {step : σ → aX → Option (Bool × σ)} {I : σ → List (Nat × Obj) → Prop} {y : Value}
def nu (b:aj)(s1 s2 a c y:Value)(b2 b3 b4 b5:Nat)(h:aX):List (Nat×Obj):=
 [(b5,.cells #[.func (.func 103) #[] #[.pointer (some ⟨b2,0,none⟩),.pointer (some ⟨b4,0,none⟩),.pointer (some ⟨b3,0,none⟩),.pointer (some ⟨b5,0,none⟩)]] 152),
  (b4,.cells #[.int .i64 h.e0,.int .i64 h.e1,.int .i64 h.e2] 120),(b3,.cells #[y] 128),
  (b2,.cells #[.int .i64 b.aQ,.int .i64 b.aN,.int .i64 b.aE.num,.int .i64 b.aE.den,s1,s2,a,c] 99)]
theorem FC (u0:aj){s1 s2 t u:Value}(C:aA ey ro s1 u0.an)(D:aA dW ro s2 u0.props)(E:aA ek ro t u0.aF)(F:aA c8 ro u u0.told)(S:u9 Tryz.prog y aX.v step ro I)
  {b2 b3 b4 b5:Nat} (n1:¬b5=b4) (n2:¬b5=b3) (n3:¬b5=b2) (a7:¬b4=b3) (a8:¬b4=b2) (a9:¬b3=b2) (ba:∀off sp,ro ⟨b5,off,sp⟩=none) (bb:∀off sp,ro ⟨b4,off,sp⟩=none) (bc:∀off sp,ro ⟨b3,off,sp⟩=none) (bd:∀off sp,ro ⟨b2,off,sp⟩=none):
  ∀(fuel:Nat) (i:Int) (h0:aX) (s:σ) (c:Bool) (s':σ),eW step (eG u0 fuel i h0).1 s=some (c,s')->∀(main:Bool) (J:Goroutine->af->Prop),Closed Tryz.prog main J->∀own,I s own->
   cK Tryz.prog J 103 #[.int .i64 i,.pointer (some ⟨b2,0,none⟩),.pointer (some ⟨b4,0,none⟩),.pointer (some ⟨b3,0,none⟩),.pointer (some ⟨b5,0,none⟩)] ⟨ro,nu u0 s1 s2 t u y b2 b3 b4 b5 h0++own⟩
    (fun v F'=>∃h1 o,Le ⟨ro,nu u0 s1 s2 t u y b2 b3 b4 b5 h1++o⟩ F'/\v= .bool c/\I s' o/\(c=true->h1=(eG u0 fuel i h0).2)):=by
 intro fuel
 induction fuel with
 |zero=>intro i h0 s c s' h;exact (pQ h).elim
 |succ fuel ih=>
  intro i h0 s c s' h main J hJ own g
  obtain ⟨G,H,rfl,bj,bk,e1⟩:=id C
  obtain ⟨K,L,rfl,bl,bm,e2⟩:=id D
  obtain ⟨T,M,rfl,bo,br,U⟩:=id E
  obtain ⟨N,O,rfl,bs,bz,bS⟩:=id F
  refine cK.go hJ Tryz.func103 rfl Tryz.ntmps103 Tryz.results103 (by simp) fun A V hd hs=>?_
  have W:=hs 0
  have k1:=hs 1
  have X:=hs 2
  have Y:=hs 3
  have Z:=hs 4
  clear hs
  unfold eG at h
  have b0:(0:Int)<((3:Nat):Int):=by decide
  have b1:(1:Int)<((3:Nat):Int):=by decide
  have ca:(2:Int)<((3:Nat):Int):=by decide
  repeat refine aa hJ ?_
  refine ag hJ ?_
  simp only[*,go_sem,-h]
  repeat refine aa hJ ?_
  refine ag hJ ?_
  simp only[nu,go_sem, *,-h]
  repeat refine aa hJ ?_
  by_cases hi:i=(u0.aF.length:Int)
  ·rw[if_pos hi] at h
   repeat refine aa hJ ?_
   refine bM hJ (by simp only[*,go_sem,-h]) ?_
   repeat refine aa hJ ?_
   refine aK hJ fun nd=>?_
   repeat refine aa hJ ?_
   refine ag hJ ?_
   simp only[*,go_sem,-h]
   cases d:nt u0 h0 with
   |none=>rw[d] at h;exact (pQ h).elim
   |some r=>
    rw[d] at h
    refine aR hJ _ (Fw u0 ⟨(C.mono aJ),(D.mono aJ),(E.mono aJ),(F.mono aJ)⟩ h0 d) (aD ?_)
    cases r with
    |false=>
     cases h
     simp only[*,go_sem]
     repeat refine aa hJ ?_
     refine aB ?_
     simp only[*,go_sem]
     refine ⟨h0,own,Le.refl _,?_⟩
     first|exact ⟨rfl,g,fun _=>by unfold eG;rw[if_pos rfl]⟩|exact ⟨g,fun _=>by unfold eG;rw[if_pos rfl]⟩|exact ⟨g,by unfold eG;rw[if_pos rfl]⟩|exact g
    |true=>
     have ab:step s h0=some (c,s'):=by
      simp only[eW] at h
      split at h<;>first|(cases h;assumption)|cases h
     simp only[*,go_sem,-h]
     refine EE hJ (nu u0 (.slice G u0.an.length H) (.slice K u0.props.length L) (.slice T u0.aF.length M) (.slice N u0.told.length O) y b2 b3 b4 b5 h0) (fun m ad ae=>S s h0 c s' ab m ad ae own g) nd ?_
     rintro v o ⟨rfl,P⟩ cb
     refine aD ?_
     simp only[*,go_sem,-h]
     repeat refine aa hJ ?_
     refine aB ?_
     simp only[*,go_sem,-h]
     refine ⟨h0,o,Le.refl _,?_⟩
     first|exact ⟨rfl,P,fun _=>by unfold eG;rw[if_pos rfl]⟩|exact ⟨P,fun _=>by unfold eG;rw[if_pos rfl]⟩
  ·rw[if_neg hi] at h
   have cd:(i==(u0.aF.length:Int))=false:=by simpa using hi
   repeat refine aa hJ ?_
   refine bJ hJ (by simp only[*,go_sem,-h]) ?_
   refine aG hJ ?_
   cases d:bK u0.aF i with
   |none=>rw[d] at h;exact (pQ h).elim
   |some e=>
    rw[d] at h
    simp only at h
    have al:=d
    obtain ⟨cf,cl,Q⟩:=cM d
    obtain ⟨ao,cse,ar,a0,p⟩:=U _ _ Q
    obtain rfl:cse=e.cells:=a0
    cases ar
    have a2:=p 0 _ rfl;simp only[go_sem] at a2
    have a3:=p 1 _ rfl;simp only[go_sem] at a3
    have a4:=p 2 _ rfl;simp only[go_sem] at a4
    clear p Q
    repeat refine aa hJ ?_
    refine ag hJ ?_
    simp only[*,go_sem,-h]
    repeat refine aa hJ ?_
    refine aY hJ ?_
    refine cc hJ [6,7,31,32,33,34,35,36,37,38,39,40,41,42,43,44,45,46,47,48,49,50] (fun m a' F'=>∃(n:Int) (h:aX) (s:σ) (own:List (Nat×Obj)),eW step (iL (eG u0 fuel (IntKind.i64.wrap (i+1))) i e.high.high m n h).1 s=some (c,s')/\
     (c=true->(iL (eG u0 fuel (IntKind.i64.wrap (i+1))) i e.high.high m n h).2=(eG u0 (fuel+1) i h0).2)/\F'=⟨ro,nu u0 (.slice G u0.an.length H) (.slice K u0.props.length L) (.slice (some ao) u0.aF.length M) (.slice N u0.told.length O) y b2 b3 b4 b5 h++own⟩/\I s own/\slot a' 7= .int .i64 n) 100 ?_ ?_
    ·have a5:(eG u0 (fuel+1) i h0).2=(iL (eG u0 fuel (IntKind.i64.wrap (i+1))) i e.high.high 100 e.high.low h0).2:=by
      rw[eG,if_neg hi,al]
     exact ⟨e.high.low,h0,s,own,h,fun _=>a5.symm,rfl,g,by simp only[*,go_sem,-h]⟩
    ·rintro m j F' f ⟨n,h1,s1,w,a,b,rfl,l,cy⟩
     clear h g
     have cS:sz j=51:=by rw[f.size];simp only[*,go_sem]
     have kd:j.defers=[]:=by rw[f.defers];simp only[*,go_sem]
     have c0:slot j 0= .int .i64 i:=by rw[f.e5 0 (by decide)];simp only[*,go_sem]
     have da:slot j 1= .pointer (some ⟨b2,0,none⟩):=by rw[f.e5 1 (by decide)];simp only[*,go_sem]
     have db:slot j 2= .pointer (some ⟨b4,0,none⟩):=by rw[f.e5 2 (by decide)];simp only[*,go_sem]
     have dd:slot j 3= .pointer (some ⟨b3,0,none⟩):=by rw[f.e5 3 (by decide)];simp only[*,go_sem]
     have df:slot j 4= .pointer (some ⟨b5,0,none⟩):=by rw[f.e5 4 (by decide)];simp only[*,go_sem]
     clear f W k1 X Y Z V hd
     obtain _|m:=m
     ·exact (pQ a).elim
     unfold iL at a b
     repeat refine aa hJ ?_
     refine ag hJ ?_
     simp only[nu,go_sem, *,-a]
     repeat refine aa hJ ?_
     by_cases hn:n<=e.high.high
     ·rw[if_pos hn] at a
      rw[if_pos hn] at b
      repeat refine aa hJ ?_
      refine bM hJ (by simp only[*,go_sem,-a]) ?_
      refine aG hJ ?_
      cases x:h1.setAt i n with
      |none=>rw[x] at a;exact (pQ a).elim
      |some h2=>
       rw[x] at a b
       simp only at a b
       repeat refine aa hJ ?_
       refine aY hJ ?_
       repeat refine aa hJ ?_
       refine aK hJ fun nd=>?_
       repeat refine aa hJ ?_
       refine ag hJ ?_
       rcases aX.FA x with ⟨z,rfl⟩|⟨z,rfl⟩|⟨z,rfl⟩<;>subst z<;>
       (simp only[*,go_sem,-a]
        repeat refine aa hJ ?_
        refine ag hJ ?_
        simp only[*,go_sem,-a]
        have a6:=FB a
        clear a
        rcases a6 with ⟨s2,B,a⟩|⟨B,rfl⟩
        ·refine cK.less hJ ((ih _ _ _ _ _ B _ J hJ w l).mono ?_)
         rintro v F' ⟨h3,R,hle,rfl,k,q⟩
         have q:=q rfl
         subst q
         refine ⟨_,hle,aD ?_⟩
         simp only[*,go_sem,-a]
         repeat refine aa hJ ?_
         refine bJ hJ (by simp only[*,go_sem,-a]) ?_
         refine aG hJ ?_
         repeat refine aa hJ ?_
         refine ag hJ ?_
         simp only[*,go_sem,-a]
         exact ⟨m,Nat.lt_succ_self m,_,Le.refl _,_,_,_,_,a,b,rfl,k,by simp only[*,go_sem,-a]⟩
        ·refine cK.less hJ ((ih _ _ _ _ _ B _ J hJ w l).mono ?_)
         rintro v F' ⟨h3,R,hle,rfl,k,q⟩
         refine ⟨_,hle,aD ?_⟩
         simp only[*,go_sem]
         repeat refine aa hJ ?_
         refine bM hJ (by simp only[*,go_sem]) ?_
         repeat refine aa hJ ?_
         refine ag hJ ?_
         simp only[*,go_sem]
         repeat refine aa hJ ?_
         refine aB ?_
         simp only[*,go_sem]
         refine ⟨h3,R,Le.refl _,?_⟩
         first|exact ⟨rfl,k,fun h=>by cases h⟩|exact ⟨k,fun h=>by cases h⟩|exact k|exact ⟨k,trivial⟩)
     ·rw[if_neg hn] at a
      rw[if_neg hn] at b
      simp only[eW,Option.some.injEq,Prod.mk.injEq] at a
      obtain ⟨rfl,rfl⟩:=a
      repeat refine aa hJ ?_
      refine bJ hJ (by simp only[*,go_sem]) ?_
      refine b7 ?_
      simp only[go_sem]
      repeat refine aa hJ ?_
      refine ag hJ ?_
      simp only[*,go_sem]
      repeat refine aa hJ ?_
      refine aB ?_
      simp only[*,go_sem]
      refine ⟨h1,w,Le.refl _,?_⟩
      first|exact ⟨rfl,l,fun h=>b h⟩|exact ⟨l,fun h=>b h⟩|exact ⟨l,b rfl⟩
theorem rQ (u0:aj){s1 s2 j k:Value}(e:aA ey ro s1 u0.an)(f:aA dW ro s2 u0.props)(g:aA ek ro j u0.aF)(h:aA c8 ro k u0.told):
  lW Tryz.prog 65 #[.agg #[.int .i64 u0.aQ,.int .i64 u0.aN,.int .i64 u0.aE.num,.int .i64 u0.aE.den,s1,s2,j,k]] #[] aX.v (mg u0) ro:=by
 refine ⟨by simp only[go_sem],fun aL b σ step I r t u l s c s' a main J hJ own m=>?_⟩
 replace e:=e.mono b
 replace f:=f.mono b
 replace g:=g.mono b
 replace h:=h.mono b
 refine cK.go hJ Tryz.func65 rfl Tryz.ntmps65 Tryz.results65 (by simp) fun A w hd hs=>?_
 have x:=hs 0
 have k1:=hs 1
 clear hs
 repeat refine aa hJ ?_
 refine ag hJ ?_
 try simp only[*,go_sem,-a]
 intro b2 f2;have r2:=eB f2;have n2:=fz f2
 intro b3 f3;have r3:=eB f3;have n3:=fz f3
 simp only[au] at n3
 try simp only[*,go_sem,-a]
 repeat refine aa hJ ?_
 refine ag hJ ?_
 try simp only[*,go_sem,-a]
 intro b4 f4;have n:=eB f4;have i:=fz f4
 simp only[au] at i
 try simp only[*,go_sem,-a]
 repeat refine aa hJ ?_
 refine ag hJ ?_
 try simp only[*,go_sem,-a]
 intro b5 f5;have o:=eB f5;have d:=fz f5
 simp only[au] at d
 try simp only[*,go_sem,-a]
 repeat refine aa hJ ?_
 refine ag hJ ?_
 try simp only[*,go_sem,-a]
 repeat refine aa hJ ?_
 refine ag hJ ?_
 try simp only[*,go_sem,-a]
 refine cK.less hJ ((FC u0 e f g h l (b2:=b2) (b3:=b3) (b4:=b4) (b5:=b5) d.1 d.2.1 d.2.2.1 i.1 i.2.1 n3.1 o n r3 r2 5 0 ⟨0,0,0⟩ s c s' a main J hJ own m).mono ?_)
 rintro v F' ⟨h1,p,hle,rfl,q,_⟩
 exact ⟨_,hle,p,Le.sub (List.sublist_append_right _ _),q⟩
end
def rR (u0:List bP):Option (List bP):=if u0.length<=1000000 then some u0 else none
theorem vz {ro:Addr->Option Value}(u0:List bP){s1:Value}(b:aA c8 ro s1 u0){x:List bP}(h:rR u0=some x):aC Tryz.prog 95 #[s1] ⟨ro,[]⟩ (fun v G=>∃a,aV c8 ro 91 v x a/\Le ⟨ro,a⟩ G):=by
 obtain ⟨ad,cap,rfl,le,d,e⟩:=id b
 unfold rR at h
 split at h
 case isFalse=>cases h
 rename_i hlen
 obtain rfl:=Option.some.inj h
 clear h
 refine aC.go Tryz.func95 rfl Tryz.ntmps95 Tryz.results95 (by simp) fun main J hJ A f hd hs=>?_
 have g:=hs 0
 clear hs
 refine aa hJ (ag hJ ?_)
 simp only[*,go_sem]
 cases ad with
 |none=>
  have hu:u0=[]:=by
   cases u0 with
   |nil=>rfl
   |cons x l=>obtain ⟨p,cs,c,_⟩:=e 0 x rfl;cases c
  subst hu
  first|refine aa hJ (ag hJ ?_)|refine aa hJ (aa hJ (ag hJ ?_))
  simp only[*,go_sem]
  refine bM hJ (by simp only[*,go_sem]) ?_
  refine aa hJ (ag hJ ?_)
  simp only[*,go_sem]
  refine aB ?_
  simp only[*,go_sem]
  exact ⟨[],aV.nil _ _ _,Le.refl _⟩
 |some p=>
  first|refine aa hJ (ag hJ ?_)|refine aa hJ (aa hJ (ag hJ ?_))
  simp only[*,go_sem]
  refine bJ hJ (by simp only[*,go_sem]) ?_
  refine aG hJ ?_
  refine aa hJ (ag hJ ?_)
  simp only[*,go_sem]
  intro i f1;have r1:=eB f1
  try simp only[*,go_sem]
  refine o9 r1 trivial rfl hlen b rfl rfl ei ei gZ g6 rfl g5 (by decide) (by decide) (fun v a hg j=>aD ?_)
  simp only[*,go_sem]
  refine aB ?_
  simp only[*,go_sem]
  exact ⟨a,hg,Le.refl _⟩
def rS (u0:List bR):Option (List bR):=if u0.length<=1000000 then some u0 else none
theorem Ak {ro:Addr->Option Value}(u0:List bR){s1:Value}(b:aA ek ro s1 u0){x:List bR}(h:rS u0=some x):aC Tryz.prog 98 #[s1] ⟨ro,[]⟩ (fun v G=>∃a,aV ek ro 130 v x a/\Le ⟨ro,a⟩ G):=by
 obtain ⟨ad,cap,rfl,le,d,e⟩:=id b
 unfold rS at h
 split at h
 case isFalse=>cases h
 rename_i hlen
 obtain rfl:=Option.some.inj h
 clear h
 refine aC.go Tryz.func98 rfl Tryz.ntmps98 Tryz.results98 (by simp) fun main J hJ A f hd hs=>?_
 have g:=hs 0
 clear hs
 refine aa hJ (ag hJ ?_)
 simp only[*,go_sem]
 cases ad with
 |none=>
  have hu:u0=[]:=by
   cases u0 with
   |nil=>rfl
   |cons x l=>obtain ⟨p,cs,c,_⟩:=e 0 x rfl;cases c
  subst hu
  first|refine aa hJ (ag hJ ?_)|refine aa hJ (aa hJ (ag hJ ?_))
  simp only[*,go_sem]
  refine bM hJ (by simp only[*,go_sem]) ?_
  refine aa hJ (ag hJ ?_)
  simp only[*,go_sem]
  refine aB ?_
  simp only[*,go_sem]
  exact ⟨[],aV.nil _ _ _,Le.refl _⟩
 |some p=>
  first|refine aa hJ (ag hJ ?_)|refine aa hJ (aa hJ (ag hJ ?_))
  simp only[*,go_sem]
  refine bJ hJ (by simp only[*,go_sem]) ?_
  refine aG hJ ?_
  refine aa hJ (ag hJ ?_)
  simp only[*,go_sem]
  intro i f1;have r1:=eB f1
  try simp only[*,go_sem]
  refine o9 r1 trivial rfl hlen b rfl rfl qW qW zw zy rfl zx (by decide) (by decide) (fun v a hg j=>aD ?_)
  simp only[*,go_sem]
  refine aB ?_
  simp only[*,go_sem]
  exact ⟨a,hg,Le.refl _⟩
def vA (u0:List bF):Option (List bF):=if u0.length<=1000000 then some u0 else none
theorem FD {ro:Addr->Option Value}(u0:List bF){s1:Value}(b:aA ey ro s1 u0){x:List bF}(h:vA u0=some x):aC Tryz.prog 124 #[s1] ⟨ro,[]⟩ (fun v G=>∃a,aV ey ro 45 v x a/\Le ⟨ro,a⟩ G):=by
 obtain ⟨ad,cap,rfl,le,d,e⟩:=id b
 unfold vA at h
 split at h
 case isFalse=>cases h
 rename_i hlen
 obtain rfl:=Option.some.inj h
 clear h
 refine aC.go Tryz.func124 rfl Tryz.ntmps124 Tryz.results124 (by simp) fun main J hJ A f hd hs=>?_
 have g:=hs 0
 clear hs
 refine aa hJ (ag hJ ?_)
 simp only[*,go_sem]
 cases ad with
 |none=>
  have hu:u0=[]:=by
   cases u0 with
   |nil=>rfl
   |cons x l=>obtain ⟨p,cs,c,_⟩:=e 0 x rfl;cases c
  subst hu
  first|refine aa hJ (ag hJ ?_)|refine aa hJ (aa hJ (ag hJ ?_))
  simp only[*,go_sem]
  refine bM hJ (by simp only[*,go_sem]) ?_
  refine aa hJ (ag hJ ?_)
  simp only[*,go_sem]
  refine aB ?_
  simp only[*,go_sem]
  exact ⟨[],aV.nil _ _ _,Le.refl _⟩
 |some p=>
  first|refine aa hJ (ag hJ ?_)|refine aa hJ (aa hJ (ag hJ ?_))
  simp only[*,go_sem]
  refine bJ hJ (by simp only[*,go_sem]) ?_
  refine aG hJ ?_
  refine aa hJ (ag hJ ?_)
  simp only[*,go_sem]
  intro i f1;have r1:=eB f1
  try simp only[*,go_sem]
  refine o9 r1 trivial rfl hlen b rfl rfl m4 m4 uM qX rfl uN (by decide) (by decide) (fun v a hg j=>aD ?_)
  simp only[*,go_sem]
  refine aB ?_
  simp only[*,go_sem]
  exact ⟨a,hg,Le.refl _⟩
def rT (u0:List bH):Option (List bH):=if u0.length<=1000000 then some u0 else none
theorem Al {ro:Addr->Option Value}(u0:List bH){s1:Value}(b:aA dW ro s1 u0){x:List bH}(h:rT u0=some x):aC Tryz.prog 125 #[s1] ⟨ro,[]⟩ (fun v G=>∃a,aV dW ro 132 v x a/\Le ⟨ro,a⟩ G):=by
 obtain ⟨ad,cap,rfl,le,d,e⟩:=id b
 unfold rT at h
 split at h
 case isFalse=>cases h
 rename_i hlen
 obtain rfl:=Option.some.inj h
 clear h
 refine aC.go Tryz.func125 rfl Tryz.ntmps125 Tryz.results125 (by simp) fun main J hJ A f hd hs=>?_
 have g:=hs 0
 clear hs
 refine aa hJ (ag hJ ?_)
 simp only[*,go_sem]
 cases ad with
 |none=>
  have hu:u0=[]:=by
   cases u0 with
   |nil=>rfl
   |cons x l=>obtain ⟨p,cs,c,_⟩:=e 0 x rfl;cases c
  subst hu
  first|refine aa hJ (ag hJ ?_)|refine aa hJ (aa hJ (ag hJ ?_))
  simp only[*,go_sem]
  refine bM hJ (by simp only[*,go_sem]) ?_
  refine aa hJ (ag hJ ?_)
  simp only[*,go_sem]
  refine aB ?_
  simp only[*,go_sem]
  exact ⟨[],aV.nil _ _ _,Le.refl _⟩
 |some p=>
  first|refine aa hJ (ag hJ ?_)|refine aa hJ (aa hJ (ag hJ ?_))
  simp only[*,go_sem]
  refine bJ hJ (by simp only[*,go_sem]) ?_
  refine aG hJ ?_
  refine aa hJ (ag hJ ?_)
  simp only[*,go_sem]
  intro i f1;have r1:=eB f1
  try simp only[*,go_sem]
  refine o9 r1 trivial rfl hlen b rfl rfl jj jj o3 o6 rfl o5 (by decide) (by decide) (fun v a hg j=>aD ?_)
  simp only[*,go_sem]
  refine aB ?_
  simp only[*,go_sem]
  exact ⟨a,hg,Le.refl _⟩
def rU (u0:List Int):Option (List Int):=if u0.length<=1000000 then some u0 else none
theorem Am {ro:Addr->Option Value}(u0:List Int){s1:Value}(b:aA rI ro s1 u0){x:List Int}(h:rU u0=some x):aC Tryz.prog 123 #[s1] ⟨ro,[]⟩ (fun v G=>∃a,aV rI ro 3 v x a/\Le ⟨ro,a⟩ G):=by
 obtain ⟨ad,cap,rfl,le,d,e⟩:=id b
 unfold rU at h
 split at h
 case isFalse=>cases h
 rename_i hlen
 obtain rfl:=Option.some.inj h
 clear h
 refine aC.go Tryz.func123 rfl Tryz.ntmps123 Tryz.results123 (by simp) fun main J hJ A f hd hs=>?_
 have g:=hs 0
 clear hs
 refine aa hJ (ag hJ ?_)
 simp only[*,go_sem]
 cases ad with
 |none=>
  have hu:u0=[]:=by
   cases u0 with
   |nil=>rfl
   |cons x l=>obtain ⟨p,cs,c,_⟩:=e 0 x rfl;cases c
  subst hu
  first|refine aa hJ (ag hJ ?_)|refine aa hJ (aa hJ (ag hJ ?_))
  simp only[*,go_sem]
  refine bM hJ (by simp only[*,go_sem]) ?_
  refine aa hJ (ag hJ ?_)
  simp only[*,go_sem]
  refine aB ?_
  simp only[*,go_sem]
  exact ⟨[],aV.nil _ _ _,Le.refl _⟩
 |some p=>
  first|refine aa hJ (ag hJ ?_)|refine aa hJ (aa hJ (ag hJ ?_))
  simp only[*,go_sem]
  refine bJ hJ (by simp only[*,go_sem]) ?_
  refine aG hJ ?_
  refine aa hJ (ag hJ ?_)
  simp only[*,go_sem]
  intro i f1;have r1:=eB f1
  try simp only[*,go_sem]
  refine o9 r1 trivial rfl hlen b rfl rfl fH fH kO kQ rfl kP (by decide) (by decide) (fun v a hg j=>aD ?_)
  simp only[*,go_sem]
  refine aB ?_
  simp only[*,go_sem]
  exact ⟨a,hg,Le.refl _⟩
def rV (u0:aj)(i43:Nat)(b:(aj->Option Int))(st:Int):Option (Fl Int (aj×Int)):=
 ah (b u0) fun a=>cond ((a != 0)) (some (.rt ((⟨0,0,(⟨0,0⟩:ak),([]:(List bF)),([]:(List bH)),([]:(List bR)),([]:(List bP))⟩:aj),a))) (some (.nx st))
def eO (u0:aj)(b:(List (aj->Option Int))):Option (aj×Int):=
 ah (eF u0) fun a=>cond ((a != 0)) (some ((⟨0,0,(⟨0,0⟩:ak),([]:(List bF)),([]:(List bH)),([]:(List bR)),([]:(List bP))⟩:aj),a)) (ah (bE (rV u0) 0 b 0) fun o=>aO o (fun c=>some (u0,0)) (fun _ _=>none) (fun r=>some r))
theorem j7 {ro:Addr->Option Value}(C:cT ro)(u0:aj){s1 f g i:Value}(b:bG ro u0 s1 f g i)(c:(List (aj->Option Int))){o:Value}(q:aA (cW) ro o c){r:(aj×Int)}(h:eO u0 c=some r):eu Tryz.prog 54 #[bv u0 s1 f g i,o] ro (fun v aL=>∃s w1 w2 w3,v= .tuple #[bv r.1 s w1 w2 w3,.int .i64 r.2]/\bG aL r.1 s w1 w2 w3):=by
 obtain ⟨d31,ad,rfl,ae,D,-⟩:=id q
 unfold eO at h
 have E:=b.oc;simp only[bx] at E
 refine aC.go Tryz.func54 rfl Tryz.ntmps54 Tryz.results54 (by simp) fun main J hJ A F hd hs=>?_
 have G:=hs 0
 have k1:=hs 1
 clear hs
 refine aa hJ (ag hJ ?_)
 simp only[*,go_sem]
 refine av fun H al I=>?_;try simp only[au] at I
 refine av fun K ao L=>?_;try simp only[au] at L
 try simp only[*,go_sem]
 refine aa hJ (aa hJ (ag hJ ?_))
 revert h;refine bS fun ar M h=>?_
 simp only[*,go_sem]
 refine aR hJ _ (Ae (C.mono aJ) u0 (b.e.mono aJ) (b.p.mono aJ) (b.y.mono aJ) (b.t.mono aJ) M) (aD ?_)
 try simp only[*,go_sem]
 refine aa hJ (ag hJ ?_)
 simp only[*,go_sem]
 revert h;refine jC hJ (by simp only[*,go_sem]) (fun N h=>?_) fun N h=>?_
 ·obtain rfl:=sI h
  refine aa hJ (ag hJ ?_)
  simp only[*,go_sem]
  refine aB ?_
  simp only[*,go_sem]
  exact ⟨_,Ext.refl _,Le.sub (List.nil_sublist _),_,_,_,_,rfl,⟨aA.nil _ _,aA.nil _ _,aA.nil _ _,aA.nil _ _⟩⟩
 refine aG hJ (aa hJ ?_)
 refine ag hJ ?_
 simp only[*,go_sem]
 refine av fun O a0 P=>?_;try simp only[au] at P
 try simp only[*,go_sem]
 refine aa hJ (aa hJ (ag hJ ?_))
 simp only[*,go_sem]
 refine aY hJ ?_
 revert h;refine bS fun Q d u=>?_
 refine cc hJ [5,9,10,21,22,23,24,25,26,27,28,29,30,31,32] (fun m a' F'=>∃(i43:Nat) (j:Int),m=c.length - i43/\i43<=c.length/\bE (rV u0) i43 (c.drop i43) j=some Q/\F'=⟨ro,(O,bl u0 s1 f g i)::(K,bz 99)::(H,bk u0 s1 f g i)::[]⟩/\slot a' 21= .int .i64 (i43:Int)/\slot a' 5= .int .i64 j) c.length ?_ ?_
 ·refine ⟨0,0,(Nat.sub_zero _).symm,Nat.zero_le _,d,rfl,?_⟩
  simp only[*,go_sem]
 rintro a2 a3 F' w ⟨i43,j,rfl,a4,d,rfl,a5,a6⟩
 obtain ⟨R,S,T⟩:=w.pick [4,7,19,20] (by decide)
 simp only[*,go_sem] at R S T
 clear w F hd G k1
 refine aa hJ (ag hJ ?_)
 simp only[*,go_sem]
 refine aa hJ ?_
 rcases Nat.lt_or_ge i43 c.length with U|z
 ·refine bM hJ (by simp only[*,go_sem]) ?_
  refine aG hJ ?_
  obtain ⟨a7,k⟩:∃x,c[i43]?=some x:=⟨_,List.getElem?_eq_getElem U⟩
  rw[c7 k] at d
  revert d;refine bS fun a8 h l=>?_
  unfold rV at h
  try dsimp only at h
  obtain ⟨a9,ba,V,W,B⟩:=q.el _ _ k
  obtain ⟨bb,bc,bd,rfl,X⟩:=W
  cases V
  have Y:=B 0 _ rfl;simp only[go_sem] at Y
  clear B k
  refine aa hJ (aY hJ (aa hJ ?_))
  refine ag hJ ?_
  simp only[*,go_sem]
  refine aa hJ (ag hJ ?_)
  revert h;refine bS fun bj Z h=>?_
  simp only[*,go_sem]
  refine aR hJ _ (X.2 _ (fun a v h=>aJ a v h) u0 _ _ _ _ _ (b.e.mono aJ) (b.p.mono aJ) (b.y.mono aJ) (b.t.mono aJ) Z) (aD ?_)
  try simp only[*,go_sem]
  refine aa hJ (ag hJ ?_)
  simp only[*,go_sem]
  revert h;refine jC hJ (by simp only[*,go_sem]) (fun ab h=>?_) fun ab h=>?_
  ·obtain rfl:=sI h
   refine aa hJ (ag hJ ?_)
   simp only[*,go_sem]
   obtain rfl:=sI l;clear l
   have h:=u
   dsimp only[aO] at h
   obtain rfl:=sI h
   refine aB ?_
   simp only[*,go_sem]
   exact ⟨_,Ext.refl _,Le.sub (List.nil_sublist _),_,_,_,_,rfl,⟨aA.nil _ _,aA.nil _ _,aA.nil _ _,aA.nil _ _⟩⟩
  obtain rfl:=sI h
  refine aG hJ ?_
  have bm:=cq (n:=i43) (by have:=D;omega)
  refine ag hJ ?_
  simp only[*,go_sem]
  refine ⟨c.length - (i43+1),by omega,_,Le.sub (List.Sublist.refl _),i43+1,j,rfl,by omega,l,rfl,?_⟩
  simp only[*,go_sem]
 have bo:=Nat.not_lt.2 z
 refine bJ hJ (by simp only[*,go_sem]) ?_
 rw[List.drop_eq_nil_of_le z] at d
 obtain rfl:=sI d;clear d
 have h:=u
 dsimp only[aO] at h
 obtain rfl:=sI h
 refine b7 ?_
 simp only[go_sem]
 refine aa hJ (ag hJ ?_)
 simp only[*,go_sem]
 refine aB ?_
 simp only[*,go_sem]
 exact ⟨_,Ext.refl _,Le.sub (List.nil_sublist _),_,_,_,_,rfl,b⟩
def vB (u0:aj)(b:Int):Option (ak×Int):=
 ah (eO u0 ([(nc b)])) fun a=>cond ((a.2 != 0)) (some ((⟨0,0⟩:ak),a.2)) (ah (gw a.1 b) fun c=>some (c,0))
theorem FE {ro:Addr->Option Value}(f:cT ro)(u0:aj){s1 g i j:Value}(k:bG ro u0 s1 g i j)(a:Int){r:(ak×Int)}(h:vB u0 a=some r):aC Tryz.prog 18 #[bv u0 s1 g i j,.int .i64 a] ⟨ro,[]⟩ (fun v _=>v= .tuple #[r.1.v,.int .i64 r.2]):=by
 unfold vB at h
 refine aC.go Tryz.func18 rfl Tryz.ntmps18 Tryz.results18 (by simp) fun main J hJ A V hd hs=>?_
 have W:=hs 0
 have k1:=hs 1
 clear hs
 refine aa hJ (ag hJ ?_)
 simp only[*,go_sem]
 refine av fun B C D=>?_;try simp only[au] at D
 refine av fun E F G=>?_;try simp only[au] at G
 try simp only[*,go_sem]
 refine aa hJ ?_
 refine aK hJ fun H=>?_
 refine ag hJ ?_
 revert h;refine bS fun I K h=>?_
 simp only[*,go_sem]
 refine av fun c m n=>?_;have q:=aM.cons n H;try simp only[au] at n
 try simp only[*,go_sem]
 obtain ⟨l,s,u⟩:=eV (b:=c) (o:=(.cells #[.func (.func 58) #[.int .i64 a] #[]] 102)) [] ((E,rt 0 0)::(B,bk u0 s1 g i j)::[]) q m (ay.cons F (ay.cons C (ay.nil _)))
 have w:aA (cW) (bN ro c (.cells #[.func (.func 58) #[.int .i64 a] #[]] 102)) (.slice (some ⟨c,0,none⟩) 1 1) [(nc a)]:=(aA.one (r:=(cW)) (e:=102) (cs:=#[.func (.func 58) #[.int .i64 a] #[]]) (x:=(nc a)) (own:=[(c,.cells #[.func (.func 58) #[.int .i64 a] #[]] 102)]) m (by simp[lk]) ⟨58,#[.int .i64 a],#[],rfl,⟨by simp only[go_sem],fun X Y L _ _ _ _ _ M N O P h=>by simp only[go_sem];exact E9 a L ⟨M,N,O,P⟩ h⟩⟩)
 generalize bN ro c (.cells #[.func (.func 58) #[.int .i64 a] #[]] 102)=Z at w s l u
 refine fS hJ u ?_
 replace k:=k.mono l
 replace f:=f.mono l
 simp only[bn] at s
 have Q:=aM.tl q
 refine b8 hJ _ (j7 f u0 k ([(nc a)]) w K) fun v ab ad R S=>?_
 obtain ⟨ae,al,ao,ar,rfl,d⟩:=S
 simp only[bn] at R
 obtain ⟨d41,a0,rfl,a2,a3,-⟩:=id d.e
 obtain ⟨d48,a4,rfl,a5,a6,-⟩:=id d.p
 obtain ⟨d55,a7,rfl,a8,a9,-⟩:=id d.y
 obtain ⟨d62,ba,rfl,bb,bc,-⟩:=id d.t
 refine aD ?_
 try simp only[*,go_sem]
 refine av fun bd bj z=>?_;have bl:=aM.cons z Q;try simp only[au] at z
 try simp only[*,go_sem]
 refine aa hJ (aa hJ (ag hJ ?_))
 simp only[*,go_sem]
 revert h;refine jC hJ (by simp only[*,go_sem]) (fun T h=>?_) fun T h=>?_
 ·obtain rfl:=sI h
  refine aa hJ (ag hJ ?_)
  simp only[*,go_sem]
  refine aB ?_
  simp only[*,go_sem]
 refine aG hJ (aa hJ ?_)
 refine ag hJ ?_
 revert h;refine bS fun bm U h=>?_
 obtain rfl:=sI h
 simp only[*,go_sem]
 refine aR hJ _ (Ai I.1 (d.mono aJ) a U) (aD ?_)
 try simp only[*,go_sem]
 refine aB ?_
 simp only[*,go_sem]
def j8 (u0:aj)(b:aP):Option (Int×ak×Int):=
 ah (eO u0 ([(en b)])) fun a=>cond ((a.2 != 0)) (some (0,(⟨0,0⟩:ak),a.2)) (ah (k3 a.1 b) fun c=>some (c.at_,c.high,0))
theorem rW {ro:Addr->Option Value}(k:cT ro)(u0:aj){s1 f g i:Value}(j:bG ro u0 s1 f g i)(a:aP){r:(Int×ak×Int)}(h:j8 u0 a=some r):aC Tryz.prog 12 #[bv u0 s1 f g i,.agg #[.int .i64 a.back,.int .i64 a.high]] ⟨ro,[]⟩ (fun v _=>v= .tuple #[.int .i64 r.1,r.2.1.v,.int .i64 r.2.2]):=by
 unfold j8 at h
 have D:=j.oc;simp only[bx] at D
 refine aC.go Tryz.func12 rfl Tryz.ntmps12 Tryz.results12 (by simp) fun main J hJ A a2 hd hs=>?_
 have a3:=hs 0
 have k1:=hs 1
 clear hs
 refine aa hJ (ag hJ ?_)
 simp only[*,go_sem]
 refine av fun m E F=>?_;try simp only[au] at F
 refine av fun n G H=>?_;try simp only[au] at H
 refine av fun I K L=>?_;try simp only[au] at L
 try simp only[*,go_sem]
 refine aa hJ ?_
 refine aK hJ fun M=>?_
 refine ag hJ ?_
 revert h;refine bS fun p N h=>?_
 simp only[*,go_sem]
 refine av fun d q s=>?_;have t:=aM.cons s M;try simp only[au] at s
 try simp only[*,go_sem]
 obtain ⟨l,u,w⟩:=eV (b:=d) (o:=(.cells #[.func (.func 55) #[.agg #[.int .i64 a.back,.int .i64 a.high]] #[]] 102)) [] ((I,rt 0 0)::(n,.cells #[.int .i64 a.back,.int .i64 a.high] 33)::(m,bk u0 s1 f g i)::[]) t q (ay.cons K (ay.cons G (ay.cons E (ay.nil _))))
 have y:aA (cW) (bN ro d (.cells #[.func (.func 55) #[.agg #[.int .i64 a.back,.int .i64 a.high]] #[]] 102)) (.slice (some ⟨d,0,none⟩) 1 1) [(en a)]:=(aA.one (r:=(cW)) (e:=102) (cs:=#[.func (.func 55) #[.agg #[.int .i64 a.back,.int .i64 a.high]] #[]]) (x:=(en a)) (own:=[(d,.cells #[.func (.func 55) #[.agg #[.int .i64 a.back,.int .i64 a.high]] #[]] 102)]) q (by simp[lk]) ⟨55,#[.agg #[.int .i64 a.back,.int .i64 a.high]],#[],rfl,⟨by simp only[go_sem],fun a4 a5 O _ _ _ _ _ P Q R S h=>by simp only[go_sem];exact rj a O ⟨P,Q,R,S⟩ h⟩⟩)
 generalize bN ro d (.cells #[.func (.func 55) #[.agg #[.int .i64 a.back,.int .i64 a.high]] #[]] 102)=a6 at y u l w
 refine fS hJ w ?_
 replace j:=j.mono l
 replace k:=k.mono l
 simp only[bn] at u
 have T:=aM.tl t
 refine b8 hJ _ (j7 k u0 j ([(en a)]) y N) fun v U a7 V W=>?_
 obtain ⟨X,Y,Z,ab,rfl,z⟩:=W
 have ad:=z.oc;simp only[bx] at ad
 simp only[bn] at V
 refine aD ?_
 try simp only[*,go_sem]
 refine av fun ae a8 B=>?_;have al:=aM.cons B T;try simp only[au] at B
 try simp only[*,go_sem]
 refine aa hJ (aa hJ (ag hJ ?_))
 simp only[*,go_sem]
 revert h;refine jC hJ (by simp only[*,go_sem]) (fun ao h=>?_) fun ao h=>?_
 ·obtain rfl:=sI h
  refine aa hJ (ag hJ ?_)
  simp only[*,go_sem]
  refine aB ?_
  simp only[*,go_sem]
 refine aG hJ (aa hJ ?_)
 refine ag hJ ?_
 revert h;refine bS fun c ar h=>?_
 obtain rfl:=sI h
 simp only[*,go_sem]
 refine aR hJ _ (rG p.1 (z.mono aJ) a ar) (aD ?_)
 try simp only[*,go_sem]
 refine av fun a0 a9 C=>?_;have ba:=aM.cons C al;try simp only[au] at C
 try simp only[*,go_sem]
 refine aa hJ ?_
 refine eM hJ mixed 5 ⟨U,[(a0,.cells #[.int .i64 c.spot.ax,.int .i64 c.spot.high.num,.int .i64 c.spot.high.den,.int .i64 c.at_,.int .i64 c.high.num,.int .i64 c.high.den] 107),(ae,bl p.1 X Y Z ab),(n,.cells #[.int .i64 a.back,.int .i64 a.high] 33),(m,bk u0 s1 f g i)]⟩ (by simp only[*,go_sem]) (by kernel_rfl) ?_
 simp only[*,go_sem]
 refine aB ?_
 simp only[*,go_sem]
def iM (u0:aj)(b:aP):Option (ak×Int):=
 ah (eO u0 ([(en b)])) fun a=>cond ((a.2 != 0)) (some ((⟨0,0⟩:ak),a.2)) (ah (nk a.1 b) fun c=>some (c,0))
theorem nv {ro:Addr->Option Value}(f:cT ro)(u0:aj){s1 g i j:Value}(k:bG ro u0 s1 g i j)(a:aP){r:(ak×Int)}(h:iM u0 a=some r):aC Tryz.prog 13 #[bv u0 s1 g i j,.agg #[.int .i64 a.back,.int .i64 a.high]] ⟨ro,[]⟩ (fun v _=>v= .tuple #[r.1.v,.int .i64 r.2]):=by
 unfold iM at h
 refine aC.go Tryz.func13 rfl Tryz.ntmps13 Tryz.results13 (by simp) fun main J hJ A Y hd hs=>?_
 have Z:=hs 0
 have k1:=hs 1
 clear hs
 refine aa hJ (ag hJ ?_)
 simp only[*,go_sem]
 refine av fun B C D=>?_;try simp only[au] at D
 refine av fun E F G=>?_;try simp only[au] at G
 refine av fun H I K=>?_;try simp only[au] at K
 try simp only[*,go_sem]
 refine aa hJ ?_
 refine aK hJ fun L=>?_
 refine ag hJ ?_
 revert h;refine bS fun M N h=>?_
 simp only[*,go_sem]
 refine av fun c m n=>?_;have q:=aM.cons n L;try simp only[au] at n
 try simp only[*,go_sem]
 obtain ⟨l,s,u⟩:=eV (b:=c) (o:=(.cells #[.func (.func 55) #[.agg #[.int .i64 a.back,.int .i64 a.high]] #[]] 102)) [] ((H,rt 0 0)::(E,.cells #[.int .i64 a.back,.int .i64 a.high] 33)::(B,bk u0 s1 g i j)::[]) q m (ay.cons I (ay.cons F (ay.cons C (ay.nil _))))
 have w:aA (cW) (bN ro c (.cells #[.func (.func 55) #[.agg #[.int .i64 a.back,.int .i64 a.high]] #[]] 102)) (.slice (some ⟨c,0,none⟩) 1 1) [(en a)]:=(aA.one (r:=(cW)) (e:=102) (cs:=#[.func (.func 55) #[.agg #[.int .i64 a.back,.int .i64 a.high]] #[]]) (x:=(en a)) (own:=[(c,.cells #[.func (.func 55) #[.agg #[.int .i64 a.back,.int .i64 a.high]] #[]] 102)]) m (by simp[lk]) ⟨55,#[.agg #[.int .i64 a.back,.int .i64 a.high]],#[],rfl,⟨by simp only[go_sem],fun ab ad O _ _ _ _ _ P Q R S h=>by simp only[go_sem];exact rj a O ⟨P,Q,R,S⟩ h⟩⟩)
 generalize bN ro c (.cells #[.func (.func 55) #[.agg #[.int .i64 a.back,.int .i64 a.high]] #[]] 102)=ae at w s l u
 refine fS hJ u ?_
 replace k:=k.mono l
 replace f:=f.mono l
 simp only[bn] at s
 have T:=aM.tl q
 refine b8 hJ _ (j7 f u0 k ([(en a)]) w N) fun v al ao U V=>?_
 obtain ⟨ar,a0,a2,a3,rfl,d⟩:=V
 simp only[bn] at U
 obtain ⟨d42,a4,rfl,a5,a6,-⟩:=id d.e
 obtain ⟨d49,a7,rfl,a8,a9,-⟩:=id d.p
 obtain ⟨d56,ba,rfl,bb,bc,-⟩:=id d.y
 obtain ⟨d63,bd,rfl,bj,bl,-⟩:=id d.t
 refine aD ?_
 try simp only[*,go_sem]
 refine av fun bm bo z=>?_;have br:=aM.cons z T;try simp only[au] at z
 try simp only[*,go_sem]
 refine aa hJ (aa hJ (ag hJ ?_))
 simp only[*,go_sem]
 revert h;refine jC hJ (by simp only[*,go_sem]) (fun W h=>?_) fun W h=>?_
 ·obtain rfl:=sI h
  refine aa hJ (ag hJ ?_)
  simp only[*,go_sem]
  refine aB ?_
  simp only[*,go_sem]
 refine aG hJ (aa hJ ?_)
 refine ag hJ ?_
 revert h;refine bS fun bs X h=>?_
 obtain rfl:=sI h
 simp only[*,go_sem]
 refine aR hJ _ (Ah M.1 (d.mono aJ) a X) (aD ?_)
 try simp only[*,go_sem]
 refine aB ?_
 simp only[*,go_sem]
def gN (u0:aj)(c:aP):Option (ak×Bool×Int):=
 ah (eO u0 ([(en c)])) fun b=>cond ((b.2 != 0)) (some ((⟨0,0⟩:ak),false,b.2)) (ah (jr b.1 c) fun a=>cond (((a.length:Int)==0)) (some ((⟨0,0⟩:ak),false,0)) (ah (bK a 0) fun d=>ah (gI a 1 (a.length:Int)) fun e=>ah (j5 gv d e) fun f=>some (f.high,true,0)))
theorem rX {ro:Addr->Option Value}(l:cT ro)(u0:aj){s1 f g i:Value}(j:bG ro u0 s1 f g i)(a:aP){r:(ak×Bool×Int)}(h:gN u0 a=some r):aC Tryz.prog 20 #[bv u0 s1 f g i,.agg #[.int .i64 a.back,.int .i64 a.high]] ⟨ro,[]⟩ (fun v _=>v= .tuple #[r.1.v,.bool r.2.1,.int .i64 r.2.2]):=by
 unfold gN at h
 have N:=j.oc;simp only[bx] at N
 refine aC.go Tryz.func20 rfl Tryz.ntmps20 Tryz.results20 (by simp) fun main J hJ A cy hd hs=>?_
 have cS:=hs 0
 have k1:=hs 1
 clear hs
 refine aa hJ (ag hJ ?_)
 simp only[*,go_sem]
 refine av fun s O P=>?_;try simp only[au] at P
 refine av fun t Q R=>?_;try simp only[au] at R
 refine av fun S T U=>?_;try simp only[au] at U
 try simp only[*,go_sem]
 refine aa hJ ?_
 refine aK hJ fun V=>?_
 refine ag hJ ?_
 revert h;refine bS fun u W h=>?_
 simp only[*,go_sem]
 refine av fun d w y=>?_;have z:=aM.cons y V;try simp only[au] at y
 try simp only[*,go_sem]
 obtain ⟨m,B,C⟩:=eV (b:=d) (o:=(.cells #[.func (.func 55) #[.agg #[.int .i64 a.back,.int .i64 a.high]] #[]] 102)) [] ((S,rt 0 0)::(t,.cells #[.int .i64 a.back,.int .i64 a.high] 33)::(s,bk u0 s1 f g i)::[]) z w (ay.cons T (ay.cons Q (ay.cons O (ay.nil _))))
 have D:aA (cW) (bN ro d (.cells #[.func (.func 55) #[.agg #[.int .i64 a.back,.int .i64 a.high]] #[]] 102)) (.slice (some ⟨d,0,none⟩) 1 1) [(en a)]:=(aA.one (r:=(cW)) (e:=102) (cs:=#[.func (.func 55) #[.agg #[.int .i64 a.back,.int .i64 a.high]] #[]]) (x:=(en a)) (own:=[(d,.cells #[.func (.func 55) #[.agg #[.int .i64 a.back,.int .i64 a.high]] #[]] 102)]) w (by simp[lk]) ⟨55,#[.agg #[.int .i64 a.back,.int .i64 a.high]],#[],rfl,⟨by simp only[go_sem],fun X Y n _ _ _ _ _ Z ab ad ae h=>by simp only[go_sem];exact rj a n ⟨Z,ab,ad,ae⟩ h⟩⟩)
 generalize bN ro d (.cells #[.func (.func 55) #[.agg #[.int .i64 a.back,.int .i64 a.high]] #[]] 102)=c0 at D B m C
 refine fS hJ C ?_
 replace j:=j.mono m
 replace l:=l.mono m
 simp only[bn] at B
 have al:=aM.tl z
 refine b8 hJ _ (j7 l u0 j ([(en a)]) D W) fun v da db ao p=>?_
 obtain ⟨ar,a0,a2,a3,rfl,E⟩:=p
 have a4:=E.oc;simp only[bx] at a4
 simp only[bn] at ao
 refine aD ?_
 try simp only[*,go_sem]
 refine av fun a5 dd G=>?_;have df:=aM.cons G al;try simp only[au] at G
 try simp only[*,go_sem]
 refine aa hJ (aa hJ (ag hJ ?_))
 simp only[*,go_sem]
 revert h;refine jC hJ (by simp only[*,go_sem]) (fun a6 h=>?_) fun a6 h=>?_
 ·obtain rfl:=sI h
  refine aa hJ (ag hJ ?_)
  simp only[*,go_sem]
  refine aB ?_
  simp only[*,go_sem]
 refine aG hJ (aa hJ ?_)
 refine ag hJ ?_
 revert h;refine bS fun k a7 h=>?_
 simp only[*,go_sem]
 refine b8 hJ _ (vj u.1 E a a7) fun v a8 dk a9 p=>?_
 obtain ⟨dp,rfl,q⟩:=p
 simp only[bn] at a9
 obtain ⟨d84,ba,rfl,dq,ds,-⟩:=id q
 refine aD ?_
 try simp only[*,go_sem]
 refine aa hJ (aa hJ (ag hJ ?_))
 simp only[*,go_sem]
 revert h;refine jC hJ (by simp only[*,go_sem]) (fun bb h=>?_) fun bb h=>?_
 ·obtain rfl:=sI h
  refine aa hJ (ag hJ ?_)
  simp only[*,go_sem]
  refine aB ?_
  simp only[*,go_sem]
 refine aG hJ (aa hJ ?_)
 refine eM hJ mixed 7 ⟨a8,[(a5,bl u.1 ar a0 a2 a3),(t,.cells #[.int .i64 a.back,.int .i64 a.high] 33),(s,bk u0 s1 f g i)]⟩ (by simp only[*,go_sem]) (by kernel_rfl) ?_
 revert h;refine bS fun H bc h=>?_
 obtain ⟨dt,du,I⟩:=cM bc
 obtain ⟨dv,bd,bj,bm,c⟩:=q.el _ _ I
 obtain rfl:bd=H.cells:=bm
 cases bj
 have bo:=c 0 _ rfl;simp only[go_sem] at bo
 have br:=c 1 _ rfl;simp only[go_sem] at br
 have bs:=c 2 _ rfl;simp only[go_sem] at bs
 have bz:=c 3 _ rfl;simp only[go_sem] at bz
 have b0:=c 4 _ rfl;simp only[go_sem] at b0
 have b1:=c 5 _ rfl;simp only[go_sem] at b1
 clear c I
 revert h;refine bS fun b2 b3 h=>?_
 obtain ⟨dC,dE,dT,K⟩:=oV b3
 have L:(1:Int).toNat<=((k.length:Int)).toNat:=by omega
 have b4:((k.length:Int)).toNat<=ba:=by omega
 have ea:0<=((k.length:Int)):=by omega
 obtain ⟨d94,b5,ca,M⟩:=aA.oX q (1:Int).toNat ((k.length:Int)).toNat L (by omega) K
 simp only[go_sem] at b5 ca L b4
 obtain ⟨_,_,cb,eb,ec,ed⟩:=id M;cases cb
 clear K
 revert h;refine bS fun eh cd h=>?_
 obtain rfl:=sI h
 try simp only[*,go_sem]
 refine ⟨_,bA hJ fun F cf=>ru (dI:=62) (dX:=#[]) (dY:=#[]) gv ⟨by simp only[go_sem],fun X Y n cl _ h=>by simp only[go_sem];exact ri n cl h⟩ H b2 (M.mono (bX cf)) cd,bV ?_⟩
 try simp only[*,go_sem]
 refine aB ?_
 simp only[*,go_sem]
def fV (u0:aj)(b:aP):Option (ak×Bool×Int):=
 ah (eO u0 ([(en b)])) fun a=>cond ((a.2 != 0)) (some ((⟨0,0⟩:ak),false,a.2)) (ah (j6 a.1 b) fun c=>ah (fU a.1 b) fun d=>some (c,d,0))
theorem k4 {ro:Addr->Option Value}(j:cT ro)(u0:aj){s1 d f g:Value}(i:bG ro u0 s1 d f g)(a:aP){r:(ak×Bool×Int)}(h:fV u0 a=some r):aC Tryz.prog 21 #[bv u0 s1 d f g,.agg #[.int .i64 a.back,.int .i64 a.high]] ⟨ro,[]⟩ (fun v _=>v= .tuple #[r.1.v,.bool r.2.1,.int .i64 r.2.2]):=by
 unfold fV at h
 have C:=i.oc;simp only[bx] at C
 refine aC.go Tryz.func21 rfl Tryz.ntmps21 Tryz.results21 (by simp) fun main J hJ A a0 hd hs=>?_
 have a2:=hs 0
 have k1:=hs 1
 clear hs
 refine aa hJ (ag hJ ?_)
 simp only[*,go_sem]
 refine av fun p D E=>?_;try simp only[au] at E
 refine av fun q G H=>?_;try simp only[au] at H
 refine av fun I K L=>?_;try simp only[au] at L
 try simp only[*,go_sem]
 refine aa hJ ?_
 refine aK hJ fun M=>?_
 refine ag hJ ?_
 revert h;refine bS fun k N h=>?_
 simp only[*,go_sem]
 refine av fun c s t=>?_;have u:=aM.cons t M;try simp only[au] at t
 try simp only[*,go_sem]
 obtain ⟨l,w,y⟩:=eV (b:=c) (o:=(.cells #[.func (.func 55) #[.agg #[.int .i64 a.back,.int .i64 a.high]] #[]] 102)) [] ((I,rt 0 0)::(q,.cells #[.int .i64 a.back,.int .i64 a.high] 33)::(p,bk u0 s1 d f g)::[]) u s (ay.cons K (ay.cons G (ay.cons D (ay.nil _))))
 have z:aA (cW) (bN ro c (.cells #[.func (.func 55) #[.agg #[.int .i64 a.back,.int .i64 a.high]] #[]] 102)) (.slice (some ⟨c,0,none⟩) 1 1) [(en a)]:=(aA.one (r:=(cW)) (e:=102) (cs:=#[.func (.func 55) #[.agg #[.int .i64 a.back,.int .i64 a.high]] #[]]) (x:=(en a)) (own:=[(c,.cells #[.func (.func 55) #[.agg #[.int .i64 a.back,.int .i64 a.high]] #[]] 102)]) s (by simp[lk]) ⟨55,#[.agg #[.int .i64 a.back,.int .i64 a.high]],#[],rfl,⟨by simp only[go_sem],fun a3 a4 O _ _ _ _ _ P Q R S h=>by simp only[go_sem];exact rj a O ⟨P,Q,R,S⟩ h⟩⟩)
 generalize bN ro c (.cells #[.func (.func 55) #[.agg #[.int .i64 a.back,.int .i64 a.high]] #[]] 102)=a5 at z w l y
 refine fS hJ y ?_
 replace i:=i.mono l
 replace j:=j.mono l
 simp only[bn] at w
 have T:=aM.tl u
 refine b8 hJ _ (j7 j u0 i ([(en a)]) z N) fun v U a6 V W=>?_
 obtain ⟨X,Y,Z,ab,rfl,m⟩:=W
 have ad:=m.oc;simp only[bx] at ad
 simp only[bn] at V
 refine aD ?_
 try simp only[*,go_sem]
 refine av fun ae a7 B=>?_;have a8:=aM.cons B T;try simp only[au] at B
 try simp only[*,go_sem]
 refine aa hJ (aa hJ (ag hJ ?_))
 simp only[*,go_sem]
 revert h;refine jC hJ (by simp only[*,go_sem]) (fun al h=>?_) fun al h=>?_
 ·obtain rfl:=sI h
  refine aa hJ (ag hJ ?_)
  simp only[*,go_sem]
  refine aB ?_
  simp only[*,go_sem]
 refine aG hJ (aa hJ ?_)
 refine eM hJ mixed 6 ⟨U,[(ae,bl k.1 X Y Z ab),(q,.cells #[.int .i64 a.back,.int .i64 a.high] 33),(p,bk u0 s1 d f g)]⟩ (by simp only[*,go_sem]) (by kernel_rfl) ?_
 revert h;refine bS fun a9 ao h=>?_
 simp only[*,go_sem]
 refine ⟨_,bA hJ fun F n=>rH k.1 (m.mono (bX n)) a ao,bV ?_⟩
 revert h;refine bS fun ba ar h=>?_
 obtain rfl:=sI h
 try simp only[*,go_sem]
 refine ⟨_,bA hJ fun F n=>mc k.1 (m.mono (bX n)) a ar,?_⟩
 try simp only[*,go_sem]
 refine aB ?_
 simp only[*,go_sem]
def vC (a:aX)(st:Bool):Option (Fl Bool Unit):=
 some (.br 1000000000 true)
def rY (u0:aj):Option Bool:=
 ah (iH (vC) (mg u0) false) fun o=>aO o (fun b=>some false) (fun k a=>cond (k==1000000000) (some a) (none)) (fun _=>none)
theorem An {ro:Addr->Option Value}(u0:aj){s1 c d g:Value}(k:bG ro u0 s1 c d g){r:Bool}(h:rY u0=some r):aC Tryz.prog 70 #[bv u0 s1 c d g] ⟨ro,[]⟩ (fun v _=>v= .bool r):=by
 unfold rY at h
 refine aC.vf Tryz.func70 rfl Tryz.ntmps70 Tryz.results70 (by simp) fun main J hJ A D hd hs=>?_
 have E:=hs 0
 clear hs
 refine aa hJ (ag hJ ?_)
 simp only[*,go_sem]
 refine av fun n x F=>?_;try simp only[au] at F
 refine av fun l z G=>?_;try simp only[au] at G
 try simp only[*,go_sem]
 refine aa hJ (aa hJ (ag hJ ?_))
 simp only[*,go_sem]
 revert h;refine bS fun Q H o=>?_
 refine ve hJ aX.v (by simp only[*,go_sem]) (rQ u0 k.e k.p k.y k.t) (by kernel_rfl) (by kernel_rfl) (ρ:=Unit) (fun (I:Bool) K=>K=(l,.cells #[.bool I] 4)::(n,bl u0 s1 c d g)::[]) (f:=vC) H ?_ ?_ (by decide) ?_ ?_
 ·exact rfl
 ·rintro d33 L q M s u R h main J hJ _ rfl
  unfold vC at h
  try dsimp only at h
  obtain rfl:=sI h
  generalize i:lY _ _ _=m
  have S:sz m=6:=by rw[<-i,vc];simp only[*,go_sem]
  have T:m.defers=[]:=by rw[<-i];rfl
  have U:slot m 2= .pointer (some ⟨l,0,none⟩):=by rw[<-i,m8];simp only[*,go_sem]
  have V:slot m 5= .agg #[.int .i64 u.e0,.int .i64 u.e1,.int .i64 u.e2]:=by rw[<-i,m8];simp only[*,go_sem]
  clear i D hd E
  refine e6 hJ fun b a=>?_
  replace a:ay ro ((L,.loop q)::(d33,.deferred (some []))::(l,.cells #[.bool s] 4)::(n,bl u0 s1 c d g)::[]):=a
  have W:=a.hd
  have X:=a.tl.hd
  have z:=a.tl.tl.hd
  have x:=a.tl.tl.tl.hd
  clear a
  replace b:=b.nd
  simp only[keys,List.map_cons,List.map_nil,List.map_append,List.cons_append,List.nil_append,List.nodup_cons,List.mem_cons,List.mem_append,List.not_mem_nil,or_false,not_or] at b
  refine aG hJ ?_
  simp only[pg,go_sem]
  refine ⟨q,by simp only[*,go_sem],M,?_⟩
  try simp only[*,go_sem]
  refine aY hJ (aa hJ ?_)
  refine ag hJ ?_
  simp only[*,go_sem]
  refine aB ?_
  simp only[q6,lV,go_sem]
  refine ⟨{q with state:=.busy},by simp only[*,go_sem],?_⟩
  simp only[*,go_sem]
  refine ⟨_,Le.sub (List.Sublist.refl _),rfl,rfl⟩
 ·rintro N O P _ s rfl b a
  replace a:ay ro ((O,.loop P)::(N,.deferred (some []))::(l,.cells #[.bool s] 4)::(n,bl u0 s1 c d g)::[]):=a
  have Y:=a.hd
  have Z:=a.tl.hd
  have z:=a.tl.tl.hd
  have x:=a.tl.tl.tl.hd
  clear a
  replace b:=b.nd
  simp only[keys,List.map_cons,List.map_nil,List.map_append,List.cons_append,List.nil_append,List.nodup_cons,List.mem_cons,List.mem_append,List.not_mem_nil,or_false,not_or] at b
  refine ⟨fun j=>?_,fun k1 j=>?_⟩
  ·subst j;have h:=o;dsimp only[aO] at h
   obtain rfl:=sI h
   refine aa hJ (ag hJ ?_)
   simp only[*,go_sem]
   refine aK hJ fun w=>?_
   replace w:=w.nd
   try simp only[keys,List.map_cons,List.map_nil,List.map_append,List.cons_append,List.nil_append,List.nodup_cons,List.mem_cons,List.mem_append,List.not_mem_nil,or_false,not_or] at w
   refine aB ?_
   simp only[*,go_sem]
  subst j;have h:=o;dsimp only[aO] at h
  revert h;refine cS (fun B h=>?_) fun B h=>?_
  ·obtain rfl:=sI h
   obtain rfl:k1=1000000000:=by simpa using B
   unfold vb;rw[if_pos (show (1000000000:Nat)=q8 from rfl)]
   simp only[*,go_sem]
  cases h
 intro k1 ab j;subst j;have h:=o;dsimp only[aO] at h
 revert h;refine cS (fun C h=>?_) fun C h=>?_
 ·obtain rfl:k1=1000000000:=by simpa using C
  decide
 cases h
def vD (a:aX)(st:(List aX)):Option (Fl (List aX) Unit):=
 ah (cZ st ([a])) fun b=>some (.nx b)
def vE (a:(List (Option aX))):Option (List aX):=
 ah (iH (vD) a ([]:List aX)) fun o=>aO o (fun b=>some b) (fun k c=>none) (fun _=>none)
theorem FF {ro:Addr->Option Value}(u:(List (Option aX))){dn:FuncId}{dQ dR:Array Value}(K:lW Tryz.prog dn dQ dR aX.v u ro){r:(List aX)}(h:vE u=some r):eu Tryz.prog 128 #[.slice none 0 0,.func (.func dn) dQ dR] ro (fun v aL=>∃w,v=w/\aA gK aL w r):=by
 unfold vE at h
 refine aC.vf Tryz.func128 rfl Tryz.ntmps128 Tryz.results128 (by simp) fun main J hJ A L hd hs=>?_
 have M:=hs 0
 have k1:=hs 1
 clear hs
 refine aa hJ (ag hJ ?_)
 simp only[*,go_sem,-h]
 refine av fun e r1 n1=>?_;try simp only[au] at n1
 try simp only[*,go_sem,-h]
 refine aa hJ (aa hJ (ag hJ ?_))
 simp only[*,go_sem,-h]
 revert h;refine bS fun ar N o=>?_;have h:=trivial
 refine ve hJ aX.v (by simp only[*,go_sem]) K (by kernel_rfl) (by kernel_rfl) (ρ:=Unit) (fun (m:(List aX)) O=>∃(d7:Option Addr) (c:Nat) (d:List (Nat×Obj)),O=(e,.cells #[.slice d7 m.length c] 121)::d/\aV gK ro 120 (.slice d7 m.length c) m d/\m.length<=c) (f:=vD) N ?_ ?_ (by decide) ?_ ?_
 ·exact ⟨none,0,[],rfl,aV.nil _ _ _,Nat.le_refl _⟩
 ·rintro d4 p i P v6 a a0 h main J hJ _ ⟨d7,c,d,rfl,q,Q⟩
  unfold vD at h
  try dsimp only at h
  generalize j:lY _ _ _=n
  have a2:sz n=13:=by rw[<-j,vc];simp only[*,go_sem]
  have a3:n.defers=[]:=by rw[<-j];rfl
  have a4:slot n 2= .pointer (some ⟨e,0,none⟩):=by rw[<-j,m8];simp only[*,go_sem]
  have a5:slot n 7= .agg #[.int .i64 a.e0,.int .i64 a.e1,.int .i64 a.e2]:=by rw[<-j,m8];simp only[*,go_sem]
  clear j L hd M k1
  refine e6 hJ fun g b=>?_
  replace b:ay ro ((p,.loop i)::(d4,.deferred (some []))::(e,.cells #[.slice d7 v6.length c] 121)::d):=b
  have r3:=b.hd
  have a6:=b.tl.hd
  have r1:=b.tl.tl.hd
  clear b
  replace g:=g.nd
  simp only[keys,List.map_cons,List.map_nil,List.map_append,List.cons_append,List.nil_append,List.nodup_cons,List.mem_cons,List.mem_append,List.not_mem_nil,or_false,not_or] at g
  refine aK hJ fun R=>?_
  refine ag hJ ?_
  simp only[*,go_sem,-h]
  refine av fun y a7 z=>?_;have a8:=aM.cons z R;try simp only[au] at z
  try simp only[*,go_sem,-h]
  simp only[pg,go_sem]
  refine ⟨i,by simp only[*,go_sem],P,?_⟩
  try simp only[*,go_sem,-h]
  refine aY hJ ?_
  refine aK hJ fun S=>?_
  refine ag hJ ?_
  revert h;refine bS fun a9 T h=>?_
  obtain ⟨U,B⟩:=c5 T
  simp only[*,go_sem,-h]
  refine av fun C V D=>?_;have W:=aM.cons D S;try simp only[au] at D
  try simp only[*,go_sem,-h]
  refine dF (r:=gK) (l:=v6) (x:=a) (cs:=#[.int .i64 a.e0,.int .i64 a.e1,.int .i64 a.e2]) (e2:=120) [(C,.cells #[.int .i64 a.e0,.int .i64 a.e1,.int .i64 a.e2] 120),(y,.cells #[.int .i64 a.e0,.int .i64 a.e1,.int .i64 a.e2] 120),(p,.loop {i with state:=.busy}),(d4,.deferred (some [])),(e,.cells #[.slice d7 v6.length c] 121)] [] q W U rfl (by simp only[*,go_sem,-h]) V rfl rfl zv zv D5 D7 rfl D6 (by decide) (by decide) (fun ba E s d X bb=>?_)
  simp only[List.append_nil,List.cons_append,List.nil_append,List.append_assoc] at X
  subst d
  rw[<-B] at s;clear B
  obtain ⟨d28,Y,rfl,Z⟩:=s.len
  refine ⟨⟨ro,(C,.cells #[.int .i64 a.e0,.int .i64 a.e1,.int .i64 a.e2] 120)::(y,.cells #[.int .i64 a.e0,.int .i64 a.e1,.int .i64 a.e2] 120)::(p,.loop {i with state:=.busy})::(d4,.deferred (some []))::(e,.cells #[.slice d7 v6.length c] 121)::E⟩,Le.refl _,?_⟩
  refine aD ?_
  try simp only[*,go_sem,-h]
  obtain rfl:=sI h
  simp only[q6,lV,go_sem]
  refine ⟨{i with state:=.busy},by simp only[*,go_sem],?_⟩
  simp only[*,go_sem]
  refine ⟨_,Le.sub (List.Sublist.cons _ (List.Sublist.cons _ (List.Sublist.refl _))),rfl,d28,Y,E,rfl,s,Z⟩
 ·rintro d49 F G _ v6 ⟨d7,c,d,rfl,q,Q⟩ g b
  replace b:ay ro ((F,.loop G)::(d49,.deferred (some []))::(e,.cells #[.slice d7 v6.length c] 121)::d):=b
  have ab:=b.hd
  have ad:=b.tl.hd
  have r1:=b.tl.tl.hd
  clear b
  replace g:=g.nd
  simp only[keys,List.map_cons,List.map_nil,List.map_append,List.cons_append,List.nil_append,List.nodup_cons,List.mem_cons,List.mem_append,List.not_mem_nil,or_false,not_or] at g
  refine ⟨fun k=>?_,fun k1 k=>?_⟩
  ·subst k;have h:=o;dsimp only[aO] at h
   refine aa hJ ?_
   refine aK hJ fun bc=>?_
   refine ag hJ ?_
   simp only[*,go_sem,-h]
   obtain rfl:=sI h
   refine aK hJ fun H=>?_
   obtain ⟨bd,ae,al,I,ao⟩:=q.eX [(F,.loop G),(d49,.deferred (some [])),(e,.cells #[.slice d7 v6.length c] 121)] [] H (ay.cons ab (ay.cons ad (ay.cons r1 (ay.nil _))))
   clear H
   refine cu hJ ao ?_
   obtain ⟨bj,bk,-⟩:=I.op
   simp only[bn] at al
   refine aK hJ fun t=>?_
   replace t:=t.nd
   try simp only[keys,List.map_cons,List.map_nil,List.map_append,List.cons_append,List.nil_append,List.nodup_cons,List.mem_cons,List.mem_append,List.not_mem_nil,or_false,not_or] at t
   refine aB ?_
   simp only[*,go_sem]
   exact ⟨_,ae,Le.sub (List.nil_sublist _),_,rfl,I⟩
  subst k;have h:=o;dsimp only[aO] at h
  cases h
 intro k1 bl k;subst k;have h:=o;dsimp only[aO] at h
 cases h
def vF (u0:(List (Option aX))):Option (List aX):=
 ah (vE u0) fun a=>some a
theorem Ao {ro:Addr->Option Value}(u0:(List (Option aX))){dI:FuncId}{dX dY:Array Value}(c:lW Tryz.prog dI dX dY aX.v u0 ro){r:(List aX)}(h:vF u0=some r):eu Tryz.prog 105 #[.func (.func dI) dX dY] ro (fun v aL=>∃a,v=a/\aA gK aL a r):=by
 unfold vF at h
 refine aC.go Tryz.func105 rfl Tryz.ntmps105 Tryz.results105 (by simp) fun main J hJ A g hd hs=>?_
 have i:=hs 0
 clear hs
 refine aa hJ (ag hJ ?_)
 simp only[*,go_sem]
 refine aa hJ (ag hJ ?_)
 revert h;refine bS fun j d h=>?_
 obtain rfl:=sI h
 simp only[*,go_sem]
 refine b8 hJ _ (FF (dn:=dI) (dQ:=dX) (dR:=dY) u0 c d) fun v k e l f=>?_
 obtain ⟨m,rfl,b⟩:=f
 obtain ⟨d8,n,rfl,o,p,-⟩:=id b
 refine aD ?_
 try simp only[*,go_sem]
 refine aB ?_
 simp only[*,go_sem]
 exact ⟨_,e,Le.sub (List.nil_sublist _),_,rfl,b⟩
def hH (u0:aj)(c:(List (aj->Option Int))):Option (cR×Int):=
 ah (eO u0 c) fun a=>cond ((a.2 != 0)) (some ((⟨(⟨0,0,(⟨0,0⟩:ak),([]:(List bF)),([]:(List bH)),([]:(List bR)),([]:(List bP))⟩:aj),([]:(List aX))⟩:cR),a.2)) (ah (vF (mg a.1)) fun b=>cond (((b.length:Int)==0)) (some ((⟨(⟨0,0,(⟨0,0⟩:ak),([]:(List bF)),([]:(List bH)),([]:(List bR)),([]:(List bP))⟩:aj),([]:(List aX))⟩:cR),9)) (some ((⟨a.1,b⟩:cR),0)))
theorem js {ro:Addr->Option Value}(N:cT ro)(u0:aj){s1 c d f:Value}(G:bG ro u0 s1 c d f)(B:(List (aj->Option Int))){H:Value}(I:aA (cW) ro H B){r:(cR×Int)}(h:hH u0 B=some r):eu Tryz.prog 66 #[bv u0 s1 c d f,H] ro (fun v aL=>∃K w1 w2 w3 w4,v= .tuple #[.agg #[.int .i64 r.1.book.aQ,.int .i64 r.1.book.aN,.int .i64 r.1.book.aE.num,.int .i64 r.1.book.aE.den,K,w1,w2,w3,w4],.int .i64 r.2]/\bG aL r.1.book K w1 w2 w3/\aA gK aL w4 r.1.all):=by
 obtain ⟨d31,ae,rfl,al,ao,-⟩:=id I
 unfold hH at h
 have O:=G.oc;simp only[bx] at O
 refine aC.go Tryz.func66 rfl Tryz.ntmps66 Tryz.results66 (by simp) fun main J hJ A ar hd hs=>?_
 have a0:=hs 0
 have k1:=hs 1
 clear hs
 refine aa hJ (ag hJ ?_)
 simp only[*,go_sem]
 refine av fun C g P=>?_;try simp only[au] at P
 refine av fun D i Q=>?_;try simp only[au] at Q
 try simp only[*,go_sem]
 refine aa hJ (ag hJ ?_)
 revert h;refine bS fun b R h=>?_
 simp only[*,go_sem]
 refine b8 hJ _ (j7 N u0 G B I R) fun v S j E k=>?_
 obtain ⟨m,n,o,q,rfl,a⟩:=k
 have T:=a.oc;simp only[bx] at T
 replace i:=E.hd
 replace g:=E.tl.hd
 simp only[bn] at E
 refine aD ?_
 try simp only[*,go_sem]
 refine av fun F s U=>?_;try simp only[au] at U
 try simp only[*,go_sem]
 refine aa hJ (aa hJ (ag hJ ?_))
 simp only[*,go_sem]
 revert h;refine jC hJ (by simp only[*,go_sem]) (fun V h=>?_) fun V h=>?_
 ·obtain rfl:=sI h
  refine aa hJ (ag hJ ?_)
  simp only[*,go_sem]
  refine aB ?_
  simp only[*,go_sem]
  exact ⟨_,j,Le.sub (List.nil_sublist _),_,_,_,_,_,rfl,⟨aA.nil _ _,aA.nil _ _,aA.nil _ _,aA.nil _ _⟩,aA.nil _ _⟩
 refine aG hJ (aa hJ ?_)
 refine gq hJ mixed [] (.rd 0 (.rd 1 (.pure 2 (.two 3 (.pure 4 (.one 5 (.one 6 .done))) 5 (.one 3 (.pure 4 (.one 6 .done))))))) ⟨S,[(F,bl b.1 m n o q),(D,.cells #[.int .i64 0,.int .i64 0,.int .i64 0,.int .i64 0,.slice none 0 0,.slice none 0 0,.slice none 0 0,.slice none 0 0,.slice none 0 0] 123),(C,bk u0 s1 c d f)]⟩ (by simp only[*,go_sem]) (by kernel_rfl) ?_
 simp only[*,go_sem]
 refine jY ?_ ?_
 ·revert h;refine bS fun a2 W h=>?_
  simp only[*,go_sem]
  refine b8 hJ _ (Ao (dI:=65) (dX:=#[bv b.1 m n o q]) (dY:=#[]) (mg b.1) (rQ b.1 a.e a.p a.y a.t) W) fun v a3 u w k=>?_
  obtain ⟨a4,rfl,L⟩:=k
  replace a:=a.mono u
  replace s:=w.hd
  replace i:=w.tl.hd
  replace g:=w.tl.tl.hd
  simp only[bn] at w
  obtain ⟨d80,a5,rfl,a6,a7,-⟩:=id L
  have a8:=eN (l:=[(F,bl b.1 m n o q),(D,.cells #[.int .i64 0,.int .i64 0,.int .i64 0,.int .i64 0,.slice none 0 0,.slice none 0 0,.slice none 0 0,.slice none 0 0,.slice none 0 0] 123),(C,bk u0 s1 c d f)]) u (ay.cons s (ay.cons i (ay.cons g (ay.nil _))))
  refine ⟨by simp only[*,go_sem],?_⟩
  refine bQ ?_
  try simp only[*,go_sem]
  refine av fun a9 ba X=>?_;try simp only[au] at X
  try simp only[*,go_sem]
  refine aa hJ (aa hJ (ag hJ ?_))
  simp only[*,go_sem]
  revert h;refine jC hJ (by simp only[*,go_sem]) (fun Y h=>?_) fun Y h=>?_
  ·obtain rfl:=sI h
   refine aa hJ (ag hJ ?_)
   simp only[*,go_sem]
   refine aB ?_
   simp only[*,go_sem]
   exact ⟨_,(j).trans u,Le.sub (List.nil_sublist _),_,_,_,_,_,rfl,⟨aA.nil _ _,aA.nil _ _,aA.nil _ _,aA.nil _ _⟩,aA.nil _ _⟩
  obtain rfl:=sI h
  refine aG hJ (aa hJ ?_)
  refine ag hJ ?_
  simp only[*,go_sem]
  refine aB ?_
  simp only[*,go_sem]
  exact ⟨_,(j).trans u,Le.sub (List.nil_sublist _),_,_,_,_,_,rfl,a,L⟩
 revert h;refine bS fun bb Z h=>?_
 simp only[*,go_sem]
 refine av fun bc bd ab=>?_;try simp only[au] at ab
 try simp only[*,go_sem]
 refine b8 hJ _ (Ao (dI:=65) (dX:=#[bv b.1 m n o q]) (dY:=#[]) (mg b.1) (rQ b.1 a.e a.p a.y a.t) Z) fun v bj x z k=>?_
 obtain ⟨bm,rfl,M⟩:=k
 replace a:=a.mono x
 replace s:=z.tl.hd
 replace i:=z.tl.tl.hd
 replace g:=z.tl.tl.tl.hd
 simp only[bn] at z
 obtain ⟨d96,bo,rfl,br,bs,-⟩:=id M
 have bz:=eN (l:=[(F,bl b.1 m n o q),(D,.cells #[.int .i64 0,.int .i64 0,.int .i64 0,.int .i64 0,.slice none 0 0,.slice none 0 0,.slice none 0 0,.slice none 0 0,.slice none 0 0] 123),(C,bk u0 s1 c d f)]) x (ay.cons s (ay.cons i (ay.cons g (ay.nil _))))
 refine ⟨by simp only[*,go_sem],?_⟩
 refine bQ ?_
 try simp only[*,go_sem]
 refine aa hJ (aa hJ (ag hJ ?_))
 simp only[*,go_sem]
 revert h;refine jC hJ (by simp only[*,go_sem]) (fun ad h=>?_) fun ad h=>?_
 ·obtain rfl:=sI h
  refine aa hJ (ag hJ ?_)
  simp only[*,go_sem]
  refine aB ?_
  simp only[*,go_sem]
  exact ⟨_,(j).trans x,Le.sub (List.nil_sublist _),_,_,_,_,_,rfl,⟨aA.nil _ _,aA.nil _ _,aA.nil _ _,aA.nil _ _⟩,aA.nil _ _⟩
 obtain rfl:=sI h
 refine aG hJ (aa hJ ?_)
 refine ag hJ ?_
 simp only[*,go_sem]
 refine aB ?_
 simp only[*,go_sem]
 exact ⟨_,(j).trans x,Le.sub (List.nil_sublist _),_,_,_,_,_,rfl,a,M⟩
def vG (a:Int)(i56:Nat)(b:Int)(st:(List bH)):Option (Fl (List bH) aj):=
 ah (cZ st ([(⟨b,a⟩:bH)])) fun c=>some (.nx c)
def rZ (u0:aj)(a:Int)(b:(List Int)):Option aj:=
 ah (rT u0.props) fun c=>ah (bE (vG a) 0 b c) fun o=>aO o (fun d=>some (⟨u0.aQ,u0.aN,u0.aE,u0.an,d,u0.aF,u0.told⟩:aj)) (fun _ _=>none) (fun r=>some r)
theorem FG {ro:Addr->Option Value}(u0:aj){s1 s b c:Value}(g:bG ro u0 s1 s b c)(i:Int)(d:(List Int)){D:Value}(E:aA rI ro D d){r:aj}(h:rZ u0 i d=some r):eu Tryz.prog 118 #[bv u0 s1 s b c,.int .i64 i,D] ro (fun v aL=>∃F w1 w2 w3,v=bv r F w1 w2 w3/\bG aL r F w1 w2 w3):=by
 obtain ⟨d31,b3,rfl,b4,U,-⟩:=id E
 unfold rZ at h
 have V:=g.oc;simp only[bx] at V
 refine aC.go Tryz.func118 rfl Tryz.ntmps118 Tryz.results118 (by simp) fun main J hJ A W hd hs=>?_
 have X:=hs 0
 have k1:=hs 1
 have Y:=hs 2
 clear hs
 refine aa hJ (ag hJ ?_)
 simp only[*,go_sem]
 refine av fun k Z ab=>?_;try simp only[au] at ab
 refine av fun o ad ae=>?_;try simp only[au] at ae
 try simp only[*,go_sem]
 refine aa hJ ?_
 refine aK hJ fun b5=>?_
 refine ag hJ ?_
 revert h;refine bS fun al ao h=>?_
 simp only[*,go_sem]
 refine gr hJ (aS:=[]) [(o,bz 99),(k,bl u0 s1 s b c)] [] _ (Al u0.props g.p ao) (fun ca G H u w cb=>?_)
 simp only[List.append_nil,List.cons_append,List.nil_append,List.append_assoc] at w
 subst u
 obtain ⟨d45,ar,rfl,a0⟩:=H.len
 refine ⟨⟨ro,(o,bz 99)::(k,bl u0 s1 s b c)::G⟩,Le.refl _,?_⟩
 refine aD ?_
 try simp only[*,go_sem]
 refine aa hJ (aa hJ ?_)
 refine aK hJ fun cd=>?_
 refine ag hJ ?_
 simp only[*,go_sem]
 refine aY hJ ?_
 revert h;refine bS fun a2 j a3=>?_
 refine cc hJ [8,17,18,19,20,21,22,23,24,25,26,27,28,29,30,31] (fun m a' F'=>∃(i56:Nat) (d51:Option Addr) (f:Nat) (z:List (Nat×Obj)) (a:(List bH)),m=d.length - i56/\i56<=d.length/\bE (vG i) i56 (d.drop i56) a=some a2/\F'=⟨ro,(o,bz 99)::(k,bl u0 s1 (sl d51 a f) b c)::z⟩/\aV dW ro 132 (.slice d51 a.length f) a z/\a.length<=f/\slot a' 17= .int .i64 (i56:Int)) d.length ?_ ?_
 ·refine ⟨0,d45,ar,G,al,(Nat.sub_zero _).symm,Nat.zero_le _,j,rfl,H,a0,?_⟩
  simp only[*,go_sem]
 rintro cf cl F' I ⟨i56,d51,f,z,a,rfl,cy,j,rfl,K,cS,c0⟩
 obtain ⟨a4,a5,a6⟩:=I.pick [1,3,6,15,16] (by decide)
 simp only[*,go_sem] at a4 a5 a6
 clear I W hd X k1 Y
 refine aa hJ (ag hJ ?_)
 simp only[*,go_sem]
 refine aa hJ ?_
 rcases Nat.lt_or_ge i56 d.length with a7|L
 ·refine bM hJ (by simp only[*,go_sem]) ?_
  refine aG hJ ?_
  obtain ⟨q,B⟩:∃x,d[i56]?=some x:=⟨_,List.getElem?_eq_getElem a7⟩
  rw[c7 B] at j
  revert j;refine bS fun da h a8=>?_
  unfold vG at h
  try dsimp only at h
  obtain ⟨db,a9,ba,bb,M⟩:=E.el _ _ B
  obtain rfl:a9=[.int .i64 q]:=bb
  cases ba
  have bc:=M 0 _ rfl;simp only[go_sem] at bc
  clear M B
  refine aa hJ (aY hJ (aa hJ ?_))
  refine aK hJ fun dd=>?_
  refine ag hJ ?_
  simp only[*,go_sem]
  refine aK hJ fun bd=>?_
  refine ag hJ ?_
  revert h;refine bS fun bj bk h=>?_
  obtain rfl:=sI h
  obtain ⟨bm,N⟩:=c5 bk
  simp only[*,go_sem]
  refine av fun O bo P=>?_;have br:=aM.cons P bd;try simp only[au] at P
  try simp only[*,go_sem]
  refine dF (r:=dW) (l:=a) (x:=(⟨q,i⟩:bH)) (cs:=#[.int .i64 q,.int .i64 i]) (e2:=132) [(O,.cells #[.int .i64 q,.int .i64 i] 132),(o,bz 99),(k,bl u0 s1 (sl d51 a f) b c)] [] K br bm rfl (by simp only[*,go_sem]) bo rfl rfl jj jj o3 o6 rfl o5 (by decide) (by decide) (fun df Q C u w dk=>?_)
  simp only[List.append_nil,List.cons_append,List.nil_append,List.append_assoc] at w
  subst u
  rw[<-N] at C;clear N
  obtain ⟨d74,bs,rfl,b0⟩:=C.len
  refine ⟨⟨ro,(O,.cells #[.int .i64 q,.int .i64 i] 132)::(o,bz 99)::(k,bl u0 s1 (sl d51 a f) b c)::Q⟩,Le.refl _,?_⟩
  refine aD ?_
  try simp only[*,go_sem]
  have dp:=cq (n:=i56) (by have:=U;omega)
  refine ag hJ ?_
  simp only[*,go_sem]
  refine ⟨d.length - (i56+1),by omega,_,Le.sub (List.Sublist.cons _ (List.Sublist.refl _)),i56+1,d74,bs,Q,bj,rfl,by omega,a8,rfl,C,b0,?_⟩
  simp only[*,go_sem]
 have dq:=Nat.not_lt.2 L
 refine bJ hJ (by simp only[*,go_sem]) ?_
 rw[List.drop_eq_nil_of_le L] at j
 obtain rfl:=sI j;clear j
 have h:=a3
 dsimp only[aO] at h
 obtain rfl:=sI h
 refine b7 ?_
 simp only[go_sem]
 refine aa hJ ?_
 refine aK hJ fun ds=>?_
 refine ag hJ ?_
 simp only[*,go_sem]
 refine aK hJ fun R=>?_
 obtain ⟨dt,S,b1,T,b2⟩:=K.eX [(o,bl u0 s1 (sl d51 a f) b c),(k,bl u0 s1 (sl d51 a f) b c)] [] R (ay.cons ad (ay.cons Z (ay.nil _)))
 clear R
 refine cu hJ b2 ?_
 obtain ⟨du,dv,-⟩:=T.op
 replace g:=g.mono S
 simp only[bn] at b1
 refine aB ?_
 simp only[*,go_sem]
 exact ⟨_,S,Le.sub (List.nil_sublist _),_,_,_,_,rfl,⟨g.e,T,g.y,g.t⟩⟩
def vH (u0:aj)(a:(List Int))(st:((List (List Int))×Int)):Option (Fl ((List (List Int))×Int) (List (List Int))):=
 ah (eo u0 st.2) fun b=>cond (b) (ah (rU a) fun c=>ah (cZ c ([st.2])) fun d=>ah (cZ st.1 ([d])) fun e=>some (.nx (e,(IntKind.i64.wrap (st.2+1))))) (some (.bk (st.1,st.2)))
def vI (u0:aj)(a:(List Int))(st:((List (List Int))×Int)):Option (Fl ((List (List Int))×Int) (List (List Int))):=
 ah (eo u0 st.2) fun b=>cond (b) (ah (rU a) fun c=>ah (cZ c ([st.2])) fun d=>ah (cZ st.1 ([d])) fun e=>some (.nx (e,(IntKind.i64.wrap (st.2+1))))) (some (.bk (st.1,st.2)))
def vJ (u0:aj)(i47:Nat)(a:(List Int))(st:(List (List Int))):Option (Fl (List (List Int)) (List (List Int))):=
 ah (bK u0.an 0) fun b=>cond (decide (0<(a.length:Int))) (ah (bK a (IntKind.i64.wrap ((a.length:Int) - 1))) fun c=>ah (bD (vH u0 a) fu (st,(IntKind.i64.wrap (c+1)))) fun o=>aO o (fun d=>some (.nx d.1)) (fun _ _=>none) (fun r=>some (.rt r))) (ah (bD (vI u0 a) fu (st,b.ax)) fun o=>aO o (fun e=>some (.nx e.1)) (fun _ _=>none) (fun r=>some (.rt r)))
def r4 (u0:aj)(a:(List (List Int))):Option (List (List Int)):=
 ah (bE (vJ u0) 0 a ([]:List (List Int))) fun o=>aO o (fun b=>some b) (fun _ _=>none) (fun r=>some r)
theorem Ap {ro:Addr->Option Value}(u0:aj){s1 a b c:Value}(j:bG ro u0 s1 a b c)(s:(List (List Int))){bm:Value}(P:aA (rL rI) ro bm s){r:(List (List Int))}(h:r4 u0 s=some r):eu Tryz.prog 93 #[bv u0 s1 a b c,bm] ro (fun v aL=>∃bo,v=bo/\aA (rL rI) aL bo r):=by
 obtain ⟨d3,c4,rfl,ih,ik,-⟩:=id j.e
 obtain ⟨d31,il,rfl,im,br,-⟩:=id P
 unfold r4 at h
 refine aC.go Tryz.func93 rfl Tryz.ntmps93 Tryz.results93 (by simp) fun main J hJ A e3 hd hs=>?_
 have fa:=hs 0
 have k1:=hs 1
 clear hs
 refine aa hJ (ag hJ ?_)
 simp only[*,go_sem]
 refine av fun d u fb=>?_;try simp only[au] at fb
 try simp only[*,go_sem]
 refine aa hJ (ag hJ ?_)
 simp only[*,go_sem]
 refine aa hJ (aa hJ (ag hJ ?_))
 simp only[*,go_sem]
 refine aY hJ ?_
 revert h;refine bS fun fg E fi=>?_
 refine cc hJ [5,7,8,9,12,13,14,15,16,17,18,19,20,21,22,23,24,25,26,27,28,29,30,31,32,33,34,35,36,37,38,39,40,41,42,43,44,45,46] (fun m a' F'=>∃(i47:Nat) (w:Addr->Option Value) (d38:Option Addr) (F:Nat) (I:List (Nat×Obj)) (y:(List (List Int))),m=s.length - i47/\i47<=s.length/\bE (vJ u0) i47 (s.drop i47) y=some fg/\F'=⟨w,(d,bl u0 (sl d3 u0.an c4) a b c)::I⟩/\Ext ro w/\aV (rL rI) w 64 (.slice d38 y.length F) y I/\y.length<=F/\slot a' 12= .int .i64 (i47:Int)/\slot a' 5= .slice d38 y.length F) s.length ?_ ?_
 ·refine ⟨0,ro,none,0,[],([]:List (List Int)),(Nat.sub_zero _).symm,Nat.zero_le _,E,rfl,Ext.refl _,aV.nil _ _ _,Nat.le_refl _,?_⟩
  simp only[*,go_sem]
 rintro iv bs F' bz ⟨i47,w,d38,F,I,y,rfl,ix,E,rfl,K,Y,b0,b1,b2⟩
 refine e6 hJ fun _ b3=>?_
 replace P:=P.mono K
 replace j:=j.mono K
 replace u:=b3.hd
 simp only[bn] at b3
 obtain ⟨Z,ab,ad⟩:=bz.pick [2,4,10,11] (by decide)
 simp only[*,go_sem] at Z ab ad
 clear bz e3 hd fa k1
 refine aa hJ (ag hJ ?_)
 simp only[*,go_sem]
 refine aa hJ ?_
 rcases Nat.lt_or_ge i47 s.length with fp|b4
 ·refine bM hJ (by simp only[*,go_sem]) ?_
  refine aG hJ ?_
  obtain ⟨Q,ae⟩:∃x,s[i47]?=some x:=⟨_,List.getElem?_eq_getElem fp⟩
  rw[c7 ae] at E
  revert E;refine bS fun j1 h b5=>?_
  unfold vJ at h
  try dsimp only at h
  obtain ⟨j2,kh,fr,fs,ca⟩:=P.el _ _ ae
  obtain ⟨kj,rfl,t⟩:=fs;obtain ⟨d56,kk,rfl,kl,km,kn⟩:=id t
  cases fr
  have ft:=ca 0 _ rfl;simp only[go_sem] at ft
  clear ca ae
  refine aa hJ (aY hJ (aa hJ ?_))
  refine aK hJ fun kp=>?_
  refine ag hJ ?_
  simp only[*,go_sem]
  refine aa hJ ?_
  refine aK hJ fun ks=>?_
  refine ag hJ ?_
  revert h;refine bS fun cb fv h=>?_
  obtain ⟨kt,kv,cd⟩:=cM fv
  obtain ⟨f,fw,fx,gg,al⟩:=j.e.el _ _ cd
  obtain rfl:fw=cb.cells:=gg
  cases fx
  have gl:=al 0 _ rfl;simp only[go_sem] at gl
  have gn:=al 1 _ rfl;simp only[go_sem] at gn
  clear al cd
  try simp only[*,go_sem]
  refine aa hJ (aa hJ ?_)
  refine aK hJ fun kx=>?_
  refine ag hJ ?_
  simp only[*,go_sem]
  revert h;refine jC hJ (by simp only[*,go_sem]) (fun gp h=>?_) fun gp h=>?_
  ·refine aK hJ fun ky=>?_
   refine ag hJ ?_
   revert h;refine bS fun cf gB h=>?_
   obtain ⟨k0,k2,cl⟩:=cM gB
   obtain ⟨lb,gC,gM,gT,cy⟩:=t.el _ _ cl
   obtain rfl:gC=[.int .i64 cf]:=gT
   cases gM
   have gV:=cy 0 _ rfl;simp only[go_sem] at gV
   clear cy cl
   try simp only[*,go_sem]
   refine aa hJ ?_
   refine aK hJ fun lh=>?_
   refine ag hJ ?_
   simp only[*,go_sem]
   refine aY hJ ?_
   revert h;refine bS fun g0 R g1=>?_
   refine cc hJ [5,9,33,34,35,36,37,38,39,40,41,42,43,44,45] (fun m a' F'=>∃(G:Addr->Option Value) (d75:Option Addr) (L:Nat) (k:List (Nat×Obj)) (z:(List (List Int))) (g:Int),bD (vH u0 Q) m (z,g)=some g0/\F'=⟨G,(d,bl u0 (sl (some f) u0.an c4) a b c)::k⟩/\Ext w G/\aV (rL rI) G 64 (.slice d75 z.length L) z k/\z.length<=L/\slot a' 5= .slice d75 z.length L/\slot a' 9= .int .i64 g) fu ?_ ?_
   ·refine ⟨w,d38,F,I,y,(IntKind.i64.wrap (cf+1)),R,rfl,Ext.refl _,Y,b0,?_⟩
    simp only[*,go_sem]
   rintro ao g2 F' ar ⟨G,d75,L,k,z,g,R,rfl,S,M,g3,lj,lk⟩
   refine e6 hJ fun _ cS=>?_
   replace t:=t.mono S
   replace j:=j.mono S
   replace u:=cS.hd
   simp only[bn] at cS
   obtain ⟨g4,ha,hc⟩:=ar.pick [2,4,7,8,10,11,12,13,15,16,17,18,21,22,23,24,25,26,27,28,30,31,32] (by decide)
   simp only[*,go_sem] at g4 ha hc
   have ll:dD [5,7,8,9,12,13,14,15,16,17,18,19,20,21,22,23,24,25,26,27,28,29,30,31,32,33,34,35,36,37,38,39,40,41,42,43,44,45,46] g2 bs:=(ar.jg (by decide)).trans (by simp only[*,go_sem])
   clear ar Z ab ad b2 b1
   obtain _|ao:=ao
   ·exact absurd R (by simp only[bD,reduceCtorEq,not_false_eq_true])
   revert R;refine bS fun ln h a0=>?_
   unfold vH at h
   try dsimp only at h
   refine aa hJ (aa hJ ?_)
   refine aK hJ fun lo=>?_
   refine ag hJ ?_
   revert h;refine bS fun lr hf h=>?_
   simp only[*,go_sem]
   refine aR hJ _ (rm u0 (j.mono aJ) g hf) ?_
   try simp only[*,go_sem]
   revert h;refine jC hJ (by simp only[*,go_sem]) (fun hg h=>?_) fun hg h=>?_
   ·refine aG hJ (aa hJ ?_)
    refine aY hJ ?_
    refine aK hJ fun lv=>?_
    refine ag hJ ?_
    revert h;refine bS fun hh hi h=>?_
    simp only[*,go_sem]
    refine gr hJ (aS:=[]) [(d,bl u0 (sl (some f) u0.an c4) a b c)] k _ (Am Q t hi) (fun lx hj c0 p q hk=>?_)
    simp only[List.append_nil,List.cons_append,List.nil_append,List.append_assoc] at q
    subst p
    obtain ⟨d133,ly,rfl,lL⟩:=c0.len
    refine ⟨⟨G,(d,bl u0 (sl (some f) u0.an c4) a b c)::(hj++k)⟩,Le.refl _,?_⟩
    refine aD ?_
    revert h;refine bS fun T hl h=>?_
    obtain ⟨hn,da⟩:=c5 hl
    try simp only[*,go_sem]
    refine av fun B db dd=>?_;have ho:=aM.cons dd hk;try simp only[au] at dd
    try simp only[*,go_sem]
    refine dF (r:=rI) (l:=hh) (x:=g) (cs:=#[.int .i64 g]) (e2:=3) [(B,ic g),(d,bl u0 (sl (some f) u0.an c4) a b c)] k c0 ho hn rfl (by simp only[*,go_sem]) db rfl rfl fH fH kO kQ rfl kP (by decide) (by decide) (fun l1 df a2 p q dk=>?_)
    simp only[List.append_nil,List.cons_append,List.nil_append,List.append_assoc] at q
    subst p
    rw[<-da] at a2;clear da
    obtain ⟨d145,a3,rfl,l2⟩:=a2.len
    obtain ⟨a4,U,a5,dp,hp⟩:=a2.eX [(B,ic g),(d,bl u0 (sl (some f) u0.an c4) a b c)] k dk (ay.cons db (ay.cons u (M.g8)))
    have hq:=aM.sub (l:=(B,ic g)::(d,bl u0 (sl (some f) u0.an c4) a b c)::k) (l':=(B,ic g)::(d,bl u0 (sl (some f) u0.an c4) a b c)::(df++k)) [(B,ic g),(d,bl u0 (sl (some f) u0.an c4) a b c)] df k (by first|rfl|simp only[List.append_nil,List.cons_append,List.nil_append,List.append_assoc]|(simp only[List.append_nil,List.cons_append,List.nil_append,List.append_assoc];rfl)) (by first|rfl|simp only[List.append_nil,List.cons_append,List.nil_append,List.append_assoc]|(simp only[List.append_nil,List.cons_append,List.nil_append,List.append_assoc];rfl)) dk
    refine ⟨⟨a4,(B,ic g)::(d,bl u0 (sl (some f) u0.an c4) a b c)::k⟩,hp,?_⟩
    obtain ⟨l3,l4,-⟩:=dp.op
    replace t:=t.mono U
    replace j:=j.mono U
    replace u:=a5.tl.hd
    replace M:=M.mono U a5.tl.tl
    simp only[bn] at a5
    refine aD ?_
    revert h;refine bS fun hr ht h=>?_
    obtain rfl:=sI h
    obtain ⟨hv,dq⟩:=c5 ht
    try simp only[*,go_sem]
    refine av fun ds hx dt=>?_;have hy:=aM.cons dt hq;try simp only[au] at dt
    try simp only[*,go_sem]
    refine dF (r:=(rL rI)) (l:=z) (x:=T) (cs:=#[.slice d145 T.length a3]) (e2:=64) [(ds,.cells #[.slice d145 T.length a3] 64),(B,ic g),(d,bl u0 (sl (some f) u0.an c4) a b c)] [] M hy hv ⟨_,rfl,dp⟩ (by simp only[*,go_sem]) hx rfl rfl kR kR qY q2 rfl qZ (by decide) (by decide) (fun ma du a6 p q mf=>?_)
    simp only[List.append_nil,List.cons_append,List.nil_append,List.append_assoc] at q
    subst p
    rw[<-dq] at a6;clear dq
    obtain ⟨d165,hz,rfl,hA⟩:=a6.len
    refine ⟨⟨a4,(ds,.cells #[.slice d145 T.length a3] 64)::(B,ic g)::(d,bl u0 (sl (some f) u0.an c4) a b c)::du⟩,Le.refl _,?_⟩
    refine aD ?_
    try simp only[*,go_sem]
    refine aK hJ fun mi=>?_
    refine ag hJ ?_
    simp only[*,go_sem]
    refine ⟨ao,Nat.lt_succ_self _,_,Le.sub (List.Sublist.cons _ (List.Sublist.cons _ (List.Sublist.refl _))),a4,d165,hz,du,hr,(IntKind.i64.wrap (g+1)),a0,rfl,(S.trans U),a6,hA,?_⟩
    simp only[*,go_sem]
   obtain rfl:=sI h
   refine b7 ?_
   simp only[go_sem]
   obtain rfl:=sI a0;clear a0
   have h:=g1
   dsimp only[aO] at h
   obtain rfl:=sI h
   have hB:=cq (n:=i47) (by have:=br;omega)
   refine ag hJ ?_
   simp only[*,go_sem]
   refine ⟨s.length - (i47+1),by omega,_,Le.sub (List.Sublist.refl _),i47+1,G,d75,L,k,z,rfl,by omega,b5,rfl,(K.trans S),M,g3,?_⟩
   simp only[*,go_sem]
  refine aG hJ (aa hJ ?_)
  refine aK hJ fun ml=>?_
  refine ag hJ ?_
  simp only[*,go_sem]
  refine aY hJ ?_
  revert h;refine bS fun hD V hE=>?_
  refine cc hJ [5,9,33,34,35,36,37,38,39,40,41,42,43,44,45] (fun m a' F'=>∃(H:Addr->Option Value) (d172:Option Addr) (N:Nat) (o:List (Nat×Obj)) (C:(List (List Int))) (i:Int),bD (vI u0 Q) m (C,i)=some hD/\F'=⟨H,(d,bl u0 (sl (some f) u0.an c4) a b c)::o⟩/\Ext w H/\aV (rL rI) H 64 (.slice d172 C.length N) C o/\C.length<=N/\slot a' 5= .slice d172 C.length N/\slot a' 9= .int .i64 i) fu ?_ ?_
  ·refine ⟨w,d38,F,I,y,cb.ax,V,rfl,Ext.refl _,Y,b0,?_⟩
   simp only[*,go_sem]
  rintro a7 hF F' a8 ⟨H,d172,N,o,C,i,V,rfl,W,O,hG,mn,mr⟩
  refine e6 hJ fun _ dv=>?_
  replace t:=t.mono W
  replace j:=j.mono W
  replace u:=dv.hd
  simp only[bn] at dv
  obtain ⟨hI,hK,hL⟩:=a8.pick [2,4,7,8,10,11,12,13,15,16,17,18,21,22,23,24,32] (by decide)
  simp only[*,go_sem] at hI hK hL
  have mx:dD [5,7,8,9,12,13,14,15,16,17,18,19,20,21,22,23,24,25,26,27,28,29,30,31,32,33,34,35,36,37,38,39,40,41,42,43,44,45,46] hF bs:=(a8.jg (by decide)).trans (by simp only[*,go_sem])
  clear a8 Z ab ad b2 b1
  obtain _|a7:=a7
  ·exact absurd V (by simp only[bD,reduceCtorEq,not_false_eq_true])
  revert V;refine bS fun my h a9=>?_
  unfold vI at h
  try dsimp only at h
  refine aa hJ (aa hJ ?_)
  refine aK hJ fun m1=>?_
  refine ag hJ ?_
  revert h;refine bS fun m2 hM h=>?_
  simp only[*,go_sem]
  refine aR hJ _ (rm u0 (j.mono aJ) i hM) ?_
  try simp only[*,go_sem]
  revert h;refine jC hJ (by simp only[*,go_sem]) (fun hN h=>?_) fun hN h=>?_
  ·refine aG hJ (aa hJ ?_)
   refine aY hJ ?_
   refine aK hJ fun na=>?_
   refine ag hJ ?_
   revert h;refine bS fun hP hQ h=>?_
   simp only[*,go_sem]
   refine gr hJ (aS:=[]) [(d,bl u0 (sl (some f) u0.an c4) a b c)] o _ (Am Q t hQ) (fun nb hR dC p q hS=>?_)
   simp only[List.append_nil,List.cons_append,List.nil_append,List.append_assoc] at q
   subst p
   obtain ⟨nd,nf,rfl,nm⟩:=dC.len
   refine ⟨⟨H,(d,bl u0 (sl (some f) u0.an c4) a b c)::(hR++o)⟩,Le.refl _,?_⟩
   refine aD ?_
   revert h;refine bS fun X hT h=>?_
   obtain ⟨hV,dE⟩:=c5 hT
   try simp only[*,go_sem]
   refine av fun D dT ea=>?_;have hX:=aM.cons ea hS;try simp only[au] at ea
   try simp only[*,go_sem]
   refine dF (r:=rI) (l:=hP) (x:=i) (cs:=#[.int .i64 i]) (e2:=3) [(D,ic i),(d,bl u0 (sl (some f) u0.an c4) a b c)] o dC hX hV rfl (by simp only[*,go_sem]) dT rfl rfl fH fH kO kQ rfl kP (by decide) (by decide) (fun nn eb ba p q ec=>?_)
   simp only[List.append_nil,List.cons_append,List.nil_append,List.append_assoc] at q
   subst p
   rw[<-dE] at ba;clear dE
   obtain ⟨bb,bc,rfl,np⟩:=ba.len
   obtain ⟨bd,ed,bj,eh,hY⟩:=ba.eX [(D,ic i),(d,bl u0 (sl (some f) u0.an c4) a b c)] o ec (ay.cons dT (ay.cons u (O.g8)))
   have hZ:=aM.sub (l:=(D,ic i)::(d,bl u0 (sl (some f) u0.an c4) a b c)::o) (l':=(D,ic i)::(d,bl u0 (sl (some f) u0.an c4) a b c)::(eb++o)) [(D,ic i),(d,bl u0 (sl (some f) u0.an c4) a b c)] eb o (by first|rfl|simp only[List.append_nil,List.cons_append,List.nil_append,List.append_assoc]|(simp only[List.append_nil,List.cons_append,List.nil_append,List.append_assoc];rfl)) (by first|rfl|simp only[List.append_nil,List.cons_append,List.nil_append,List.append_assoc]|(simp only[List.append_nil,List.cons_append,List.nil_append,List.append_assoc];rfl)) ec
   refine ⟨⟨bd,(D,ic i)::(d,bl u0 (sl (some f) u0.an c4) a b c)::o⟩,hY,?_⟩
   obtain ⟨ns,nx,-⟩:=eh.op
   replace u:=bj.tl.hd
   replace O:=O.mono ed bj.tl.tl
   simp only[bn] at bj
   refine aD ?_
   revert h;refine bS fun h0 h1 h=>?_
   obtain rfl:=sI h
   obtain ⟨h2,et⟩:=c5 h1
   try simp only[*,go_sem]
   refine av fun ev h3 eQ=>?_;have h4:=aM.cons eQ hZ;try simp only[au] at eQ
   try simp only[*,go_sem]
   refine dF (r:=(rL rI)) (l:=C) (x:=X) (cs:=#[.slice bb X.length bc]) (e2:=64) [(ev,.cells #[.slice bb X.length bc] 64),(D,ic i),(d,bl u0 (sl (some f) u0.an c4) a b c)] [] O h4 h2 ⟨_,rfl,eh⟩ (by simp only[*,go_sem]) h3 rfl rfl kR kR qY q2 rfl qZ (by decide) (by decide) (fun nz eS bk p q nA=>?_)
   simp only[List.append_nil,List.cons_append,List.nil_append,List.append_assoc] at q
   subst p
   rw[<-et] at bk;clear et
   obtain ⟨h5,h6,rfl,h7⟩:=bk.len
   refine ⟨⟨bd,(ev,.cells #[.slice bb X.length bc] 64)::(D,ic i)::(d,bl u0 (sl (some f) u0.an c4) a b c)::eS⟩,Le.refl _,?_⟩
   refine aD ?_
   try simp only[*,go_sem]
   refine aK hJ fun nH=>?_
   refine ag hJ ?_
   simp only[*,go_sem]
   refine ⟨a7,Nat.lt_succ_self _,_,Le.sub (List.Sublist.cons _ (List.Sublist.cons _ (List.Sublist.refl _))),bd,h5,h6,eS,h0,(IntKind.i64.wrap (i+1)),a9,rfl,(W.trans ed),bk,h7,?_⟩
   simp only[*,go_sem]
  obtain rfl:=sI h
  refine b7 ?_
  simp only[go_sem]
  obtain rfl:=sI a9;clear a9
  have h:=hE
  dsimp only[aO] at h
  obtain rfl:=sI h
  have hB:=cq (n:=i47) (by have:=br;omega)
  refine ag hJ ?_
  simp only[*,go_sem]
  refine ⟨s.length - (i47+1),by omega,_,Le.sub (List.Sublist.refl _),i47+1,H,d172,N,o,C,rfl,by omega,b5,rfl,(K.trans W),O,hG,?_⟩
  simp only[*,go_sem]
 have nI:=Nat.not_lt.2 b4
 refine bJ hJ (by simp only[*,go_sem]) ?_
 rw[List.drop_eq_nil_of_le b4] at E
 obtain rfl:=sI E;clear E
 have h:=fi
 dsimp only[aO] at h
 obtain rfl:=sI h
 refine b7 ?_
 simp only[go_sem]
 refine aa hJ ?_
 refine aK hJ fun nK=>?_
 refine ag hJ ?_
 simp only[*,go_sem]
 refine aK hJ fun e0=>?_
 obtain ⟨nQ,h8,h9,e1,ib⟩:=Y.eX [(d,bl u0 (sl d3 u0.an c4) a b c)] [] e0 (ay.cons u (ay.nil _))
 clear e0
 refine cu hJ ib ?_
 obtain ⟨nR,nT,-⟩:=e1.op
 simp only[bn] at h9
 refine aB ?_
 simp only[*,go_sem]
 exact ⟨_,(K).trans h8,Le.sub (List.nil_sublist _),_,rfl,e1⟩
def ny (u0:Int):Option Bool:=
 some (u0 != u0)
theorem r5 {ro:Addr->Option Value}(u0:Int){r:Bool}(h:ny u0=some r):aC Tryz.prog 129 #[.int .i64 u0] ⟨ro,[]⟩ (fun v _=>v= .bool r):=by
 unfold ny at h
 obtain rfl:=sI h
 refine aC.go Tryz.func129 rfl Tryz.ntmps129 Tryz.results129 (by simp) fun main J hJ A a hd hs=>?_
 have b:=hs 0
 clear hs
 refine aa hJ (ag hJ ?_)
 simp only[*,go_sem]
 refine aa hJ (ag hJ ?_)
 simp only[*,go_sem]
 refine aB ?_
 simp only[*,go_sem]
def vK (u0:Int)(a:Int):Option Bool:=
 ah (ny u0) fun b=>cond (b) (ah (ny a) fun c=>cond (!c) (some true) (some (decide (u0<a)))) (some (decide (u0<a)))
theorem FH {ro:Addr->Option Value}(u0:Int)(a:Int){r:Bool}(h:vK u0 a=some r):aC Tryz.prog 161 #[.int .i64 u0,.int .i64 a] ⟨ro,[]⟩ (fun v _=>v= .bool r):=by
 unfold vK at h
 refine aC.go Tryz.func161 rfl Tryz.ntmps161 Tryz.results161 (by simp) fun main J hJ A f hd hs=>?_
 have g:=hs 0
 have k1:=hs 1
 clear hs
 refine aa hJ (ag hJ ?_)
 simp only[*,go_sem]
 refine aa hJ (ag hJ ?_)
 revert h;refine bS fun i b h=>?_
 simp only[*,go_sem]
 refine aR hJ _ (r5 u0 b) (aD ?_)
 revert h;refine cS (fun c h=>?_) fun c h=>?_
 ·revert h;refine bS fun j d h=>?_
  try simp only[*,go_sem]
  refine aR hJ _ (r5 a d) (aD ?_)
  revert h;refine cS (fun e h=>?_) fun e h=>?_
  ·obtain rfl:=sI h
   try simp only[*,go_sem]
   refine aB ?_
   simp only[*,go_sem]
  obtain rfl:=sI h
  try simp only[*,go_sem]
  refine aB ?_
  simp only[*,go_sem]
 obtain rfl:=sI h
 try simp only[*,go_sem]
 refine aB ?_
 simp only[*,go_sem]
def vL (c:Int)(st:(Int×(List Int))):Option (Fl (Int×(List Int)) (Unit×(List Int))):=
 cond (decide (c<st.1)) (ah (bK st.2 st.1) fun b=>ah (bK st.2 (IntKind.i64.wrap (st.1 - 1))) fun a=>ah (vK b a) fun d=>cond (d) (ah (bK (st.2.set (st.1).toNat a) (IntKind.i64.wrap (st.1 - 1))) fun e=>some (.nx ((IntKind.i64.wrap (st.1 - 1)),((st.2.set (st.1).toNat a).set (IntKind.i64.wrap (st.1 - 1)).toNat b)))) (some (.bk (st.1,st.2)))) (some (.bk (st.1,st.2)))
def vM (a:Int)(b:Int)(st:(Int×(List Int))):Option (Fl (Int×(List Int)) (Unit×(List Int))):=
 cond (decide (st.1<b)) (ah (bD (vL a) fu (st.1,st.2)) fun o=>aO o (fun c=>some (.nx ((IntKind.i64.wrap (st.1+1)),c.2))) (fun _ _=>none) (fun r=>some (.rt r))) (some (.bk (st.1,st.2)))
def vN (u0:(List Int))(a:Int)(b:Int):Option (Unit×(List Int)):=
 cond (List.isEmpty u0) none (ah (bD (vM a b) fu ((IntKind.i64.wrap (a+1)),u0)) fun o=>aO o (fun c=>some ((),c.2)) (fun _ _=>none) (fun r=>some r))
theorem FI {ro:Addr->Option Value}(u0:(List Int)){w:Value}{I:List (Nat×Obj)}(x:aV rI ro 3 w u0 I)(k:Int)(z:Int){r:(Unit×(List Int))}(h:vN u0 k z=some r):aC Tryz.prog 155 #[w,.int .i64 k,.int .i64 z] ⟨ro,I⟩ (fun v G=>∃K,(v= .tuple #[]/\aV rI ro 3 w r.2 K)/\Le ⟨ro,K⟩ G):=by
 obtain ⟨d1,c2,rfl,b3⟩:=x.len
 unfold vN at h
 revert h;refine cS (fun L h=>?_) fun L h=>?_
 ·cases h
 obtain ⟨b,Z,rfl,rfl,b4⟩:=x.uX L
 refine aC.go Tryz.func155 rfl Tryz.ntmps155 Tryz.results155 (by simp) fun main J hJ A ab hd hs=>?_
 have ad:=hs 0
 have k1:=hs 1
 have ae:=hs 2
 clear hs
 refine aa hJ ?_
 refine aK hJ fun b5=>?_
 refine ag hJ ?_
 simp only[*,go_sem]
 refine aY hJ ?_
 revert h;refine bS fun al n ao=>?_
 refine cc hJ [6,7,10,11,12,13,14,15,16,17,18,19,20,21,22,23,24,25,26,27,28,29,30,31,32,33,34,35,36,37,38,39,40,41,42,43,44,45,46,47,48] (fun m a' F'=>∃(p:Array Value) (j:Int) (q:(List Int)),bD (vM k z) m (j,q)=some al/\F'=⟨ro,[(b,Obj.cells p 3)]⟩/\aV rI ro 3 (.slice (some ⟨b,0,none⟩) u0.length c2) q [(b,Obj.cells p 3)]/\slot a' 6= .int .i64 j) fu ?_ ?_
 ·refine ⟨Z,(IntKind.i64.wrap (k+1)),u0,n,rfl,x,?_⟩
  simp only[*,go_sem]
 rintro s ar F' M ⟨p,j,q,n,rfl,N,a0⟩
 obtain ⟨O,P,Q⟩:=M.pick [0,1,2] (by decide)
 simp only[*,go_sem] at O P Q
 clear M ab hd ad k1 ae
 obtain _|s:=s
 ·exact absurd n (by simp only[bD,reduceCtorEq,not_false_eq_true])
 revert n;refine bS fun ca h t=>?_
 unfold vM at h
 try dsimp only at h
 refine aa hJ (aa hJ ?_)
 refine aK hJ fun cb=>?_
 refine ag hJ ?_
 simp only[*,go_sem]
 revert h;refine jC hJ (by simp only[*,go_sem]) (fun a2 h=>?_) fun a2 h=>?_
 ·refine aG hJ (aa hJ ?_)
  refine aY hJ (aa hJ ?_)
  refine aK hJ fun cd=>?_
  refine ag hJ ?_
  simp only[*,go_sem]
  refine aY hJ ?_
  revert h;refine bS fun a3 u R=>?_
  refine cc hJ [7,16,17,18,19,20,21,22,23,24,25,26,27,28,29,30,31,32,33,34,35,36,37,38,39,40,41,42,43,44,45,46,47,48] (fun m a' F'=>∃(d:Array Value) (a:Int) (e:(List Int)),bD (vL k) m (a,e)=some a3/\F'=⟨ro,[(b,Obj.cells d 3)]⟩/\aV rI ro 3 (.slice (some ⟨b,0,none⟩) u0.length c2) e [(b,Obj.cells d 3)]/\slot a' 7= .int .i64 a) fu ?_ ?_
  ·refine ⟨p,j,q,u,rfl,N,?_⟩
   simp only[*,go_sem]
  rintro B a4 F' C ⟨d,a,e,u,rfl,g,cf⟩
  obtain ⟨a5,a6,a7⟩:=C.pick [0,1,2,6,10,11,12,15] (by decide)
  simp only[*,go_sem] at a5 a6 a7
  have cl:dD [6,7,10,11,12,13,14,15,16,17,18,19,20,21,22,23,24,25,26,27,28,29,30,31,32,33,34,35,36,37,38,39,40,41,42,43,44,45,46,47,48] a4 ar:=(C.jg (by decide)).trans (by simp only[*,go_sem])
  clear C O P Q a0
  obtain _|B:=B
  ·exact absurd u (by simp only[bD,reduceCtorEq,not_false_eq_true])
  revert u;refine bS fun cy h l=>?_
  unfold vL at h
  try dsimp only at h
  refine aa hJ (aa hJ ?_)
  refine aK hJ fun c0=>?_
  refine dh hJ mixed 15 1 (by simp only[*,go_sem]) (by kernel_rfl) ?_
  revert h;refine cS (fun a8 h=>?_) fun a8 h=>?_
  ·revert h;refine bS fun f a9 h=>?_
   obtain ⟨da,db,S⟩:=cM a9
   have dd:a<((u0.length:Nat):Int):=by have:=g.count;omega
   obtain ⟨ba,bb,bc⟩:=g.kT S
   obtain rfl:ba=[.int .i64 f]:=bb
   have T:=bc 0 _ rfl;simp only[go_sem] at T;have df:=(Array.getElem?_eq_some_iff.1 T).1
   revert h;refine bS fun c bd h=>?_
   obtain ⟨dk,dp,bj⟩:=cM bd
   have dq:IntKind.i64.wrap (a - 1)<((u0.length:Nat):Int):=by have:=g.count;omega
   obtain ⟨bk,bl,bm⟩:=g.kT bj
   obtain rfl:bk=[.int .i64 c]:=bl
   have U:=bm 0 _ rfl;simp only[go_sem] at U;have ds:=(Array.getElem?_eq_some_iff.1 U).1
   revert h;refine bS fun dt bo h=>?_
   try simp only[*,go_sem]
   refine ⟨_,bA hJ fun F du=>FH f c bo,bV ?_⟩
   try simp only[*,go_sem]
   revert h;refine jC hJ (by simp only[*,go_sem]) (fun br h=>?_) fun br h=>?_
   ·refine aG hJ (aa hJ ?_)
    refine aY hJ ?_
    refine aK hJ fun dv=>?_
    refine gq hJ mixed [15,16,17] (.pure 0 (.pure 1 (.pure 2 (.pure 3 (.pure 4 (.pure 5 (.pure 6 (.pure 7 (.pure 8 (.rd 9 (.pure 10 (.pure 11 (.pure 12 (.rd 13 (.pure 14 (.last 15 (.pure 16 (.last 17 .done)))))))))))))))))) ⟨ro,[(b,Obj.cells d 3)]⟩ (by simp only[*,go_sem]) (by kernel_rfl) ?_
    have D:aV rI ro 3 (.slice (some ⟨b,0,none⟩) u0.length c2) (e.set (a).toNat c) [(b,Obj.cells (dO d (a).toNat [.int .i64 c]) 3)]:=by have E:=g.uW (i:=(a).toNat) (y:=c) (by have:=S;have:=(List.getElem?_eq_some_iff.1 this).1;simpa only[List.length_set] using this) (cs:=[.int .i64 c]) rfl;simpa only[rf,vh,Nat.mul_one,Nat.add_zero] using E
    revert h;refine bS fun bs bz h=>?_
    obtain rfl:=sI h
    obtain ⟨dC,dE,V⟩:=cM bz
    have dT:IntKind.i64.wrap (a - 1)<((u0.length:Nat):Int):=by have:=D.count;omega
    obtain ⟨b0,b1,b2⟩:=D.kT V
    obtain rfl:b0=[.int .i64 bs]:=b1
    have W:=b2 0 _ rfl;simp only[go_sem] at W;have ea:=(Array.getElem?_eq_some_iff.1 W).1
    have X:aV rI ro 3 (.slice (some ⟨b,0,none⟩) u0.length c2) ((e.set (a).toNat c).set (IntKind.i64.wrap (a - 1)).toNat f) [(b,Obj.cells (dO (dO d (a).toNat [.int .i64 c]) (IntKind.i64.wrap (a - 1)).toNat [.int .i64 f]) 3)]:=by have E:=D.uW (i:=(IntKind.i64.wrap (a - 1)).toNat) (y:=f) (by have:=V;have:=(List.getElem?_eq_some_iff.1 this).1;simpa only[List.length_set] using this) (cs:=[.int .i64 f]) rfl;simpa only[rf,vh,Nat.mul_one,Nat.add_zero] using E
    try simp only[*,go_sem]
    obtain ⟨Y,H⟩:∃o,o=(dO (dO d (a).toNat [.int .i64 c]) (IntKind.i64.wrap (a - 1)).toNat [.int .i64 f]):=⟨_,rfl⟩
    refine cu (F:=⟨ro,[(b,Obj.cells Y 3)]⟩) hJ (by rw[H];exact Le.refl _) ?_
    rw[<-H] at X
    clear H
    refine aK hJ fun eb=>?_
    refine ag hJ ?_
    simp only[*,go_sem]
    refine ⟨B,Nat.lt_succ_self _,_,Le.sub (List.Sublist.refl _),Y,(IntKind.i64.wrap (a - 1)),((e.set (a).toNat c).set (IntKind.i64.wrap (a - 1)).toNat f),l,rfl,X,?_⟩
    simp only[*,go_sem]
   obtain rfl:=sI h
   refine b7 ?_
   simp only[go_sem]
   obtain rfl:=sI l;clear l
   have h:=R
   dsimp only[aO] at h
   obtain rfl:=sI h
   refine aK hJ fun ec=>?_
   refine ag hJ ?_
   simp only[*,go_sem]
   refine ⟨s,Nat.lt_succ_self _,_,Le.sub (List.Sublist.refl _),d,(IntKind.i64.wrap (j+1)),e,t,rfl,g,?_⟩
   simp only[*,go_sem]
  obtain rfl:=sI h
  try simp only[*,go_sem]
  refine bJ hJ (by simp only[*,go_sem]) ?_
  refine b7 ?_
  simp only[go_sem]
  obtain rfl:=sI l;clear l
  have h:=R
  dsimp only[aO] at h
  obtain rfl:=sI h
  refine aK hJ fun ed=>?_
  refine ag hJ ?_
  simp only[*,go_sem]
  refine ⟨s,Nat.lt_succ_self _,_,Le.sub (List.Sublist.refl _),d,(IntKind.i64.wrap (j+1)),e,t,rfl,g,?_⟩
  simp only[*,go_sem]
 obtain rfl:=sI h
 refine b7 ?_
 simp only[go_sem]
 obtain rfl:=sI t;clear t
 have h:=ao
 dsimp only[aO] at h
 obtain rfl:=sI h
 simp only[*,go_sem]
 exact ⟨_,N,Le.sub (List.Sublist.refl _)⟩
def vO (u0:(List Int))(st:(Int×Int×Int×Bool×Bool)):Option (Fl (Int×Int×Int×Bool×Bool) (Unit×(List Int))):=
 cond (decide ((IntKind.i64.wrap (st.2.1 - st.1))<=12)) (ah (vN u0 st.1 st.2.1) fun a=>some (.rt ((),a.2))) (none)
def vP (u0:(List Int))(a:Int)(b:Int)(c:Int):Option (Unit×(List Int)):=
 cond (List.isEmpty u0) none (ah (bD (vO u0) fu (a,b,c,true,true)) fun o=>aO o (fun d=>some ((),u0)) (fun _ _=>none) (fun r=>some r))
theorem FJ {ro:Addr->Option Value}(u0:(List Int)){e:Value}{o:List (Nat×Obj)}(f:aV rI ro 3 e u0 o)(g:Int)(i:Int)(j:Int){r:(Unit×(List Int))}(h:vP u0 g i j=some r):aC Tryz.prog 130 #[e,.int .i64 g,.int .i64 i,.int .i64 j] ⟨ro,o⟩ (fun v G=>∃a,(v= .tuple #[]/\aV rI ro 3 e r.2 a)/\Le ⟨ro,a⟩ G):=by
 obtain ⟨d1,c2,rfl,P⟩:=f.len
 unfold vP at h
 revert h;refine cS (fun p h=>?_) fun p h=>?_
 ·cases h
 obtain ⟨q,x,rfl,rfl,Q⟩:=f.uX p
 refine aC.go Tryz.func130 rfl Tryz.ntmps130 Tryz.results130 (by simp) fun main J hJ A y hd hs=>?_
 have z:=hs 0
 have k1:=hs 1
 have B:=hs 2
 have C:=hs 3
 clear hs
 refine aa hJ ?_
 refine aK hJ fun R=>?_
 refine ag hJ ?_
 simp only[*,go_sem]
 refine aa hJ ?_
 refine aK hJ fun S=>?_
 refine ag hJ ?_
 simp only[*,go_sem]
 refine aY hJ ?_
 revert h;refine bS fun D b E=>?_
 refine cc hJ [1,2,3,8,9,10,11,12,13,14,15,16,17,18,19,20,21,22,23,24,25,26,27,28,29,30,31,32,33,34,35,36,37,38,39,40,41,42,43,44,45,46,47,48,49,50,51,52,53,54,55,56,57,58,59,60,61,62,63,64,65,66,67,68,69,70,71,72,73,74,75,76,77,78,79,80,81,82,83,84,85,86,87,88,89,90,91,92,93,94,95,96,97,98,99,100,101,102,103,104,105,106,107,108,109,110,111,112,113,114,115,116,117,118,119,120,121,122,123,124,125,126,127,128,129,130,131,132,133] (fun m a' F'=>∃(c:Int) (d:Int) (k:Int) (l:Bool) (n:Bool),bD (vO u0) m (c,d,k,l,n)=some D/\F'=⟨ro,[(q,Obj.cells x 3)]⟩/\slot a' 1= .int .i64 c/\slot a' 2= .int .i64 d/\slot a' 3= .int .i64 k/\slot a' 8= .bool l/\slot a' 9= .bool n) fu ?_ ?_
 ·refine ⟨g,i,j,true,true,b,rfl,?_⟩
  simp only[*,go_sem]
 rintro s T F' t ⟨c,d,k,l,n,b,rfl,U,V,W,X,Y⟩
 obtain ⟨F,H,I⟩:=t.pick [0] (by decide)
 simp only[*,go_sem] at F H I
 clear t y hd z k1 B C
 obtain _|s:=s
 ·exact absurd b (by simp only[bD,reduceCtorEq,not_false_eq_true])
 revert b;refine bS fun Z h u=>?_
 unfold vO at h
 try dsimp only at h
 refine aY hJ (aa hJ ?_)
 refine aK hJ fun ab=>?_
 refine ag hJ ?_
 simp only[*,go_sem]
 refine aa hJ (aa hJ ?_)
 refine aK hJ fun ad=>?_
 refine ag hJ ?_
 simp only[*,go_sem]
 revert h;refine jC hJ (by simp only[*,go_sem]) (fun K h=>?_) fun K h=>?_
 ·refine aa hJ ?_
  refine aK hJ fun ae=>?_
  refine ag hJ ?_
  revert h;refine bS fun al L h=>?_
  obtain rfl:=sI h
  simp only[*,go_sem]
  refine gr hJ [] [] _ (FI u0 f c d L) (fun ao ar M a N a0=>?_)
  obtain ⟨rfl,w⟩:=M
  obtain ⟨O,rfl⟩:=w.Eo
  simp only[List.append_nil,List.cons_append,List.nil_append,List.append_assoc] at N
  subst a
  refine ⟨⟨ro,[(q,Obj.cells O 3)]⟩,Le.refl _,?_⟩
  try simp only[*,go_sem]
  obtain rfl:=sI u;clear u
  have h:=E
  dsimp only[aO] at h
  obtain rfl:=sI h
  refine aB ?_
  simp only[*,go_sem]
  exact ⟨_,w,Le.sub (List.Sublist.refl _)⟩
 cases h
theorem FK {ro:Addr->Option Value}(n:Int)(h0:0<=n)(h1:n<256):aC Tryz.prog 165 #[.int .u64 n] ⟨ro,[]⟩ (fun v _=>∃k:Int,v= .int .i64 k):=by
 refine aC.go Tryz.func165 rfl Tryz.ntmps165 Tryz.results165 (by simp) fun main J hJ A c hd hs=>?_
 have d:=hs 0
 clear hs
 have a1:¬(4294967296:Int)<=n:=by omega
 have a2:¬(65536:Int)<=n:=by omega
 have a3:¬(256:Int)<=n:=by omega
 have e:Tryz.prog.underlying 169=some (.int .u64):=by kernel_rfl
 have f:Tryz.prog.underlying 5=some (.int .u8):=by kernel_rfl
 have g:Tryz.prog.underlying 3=some (.int .i64):=by kernel_rfl
 have h:Tryz.prog.underlying 9=some .string:=by kernel_rfl
 have a4:IntKind.u8.wrap n=n:=IntWalk.u8_in n ⟨h0,by omega⟩
 repeat refine aa hJ ?_
 refine ag hJ ?_
 simp only[*,go_sem]
 repeat refine aa hJ ?_
 refine ag hJ ?_
 simp only[*,go_sem]
 repeat refine aa hJ ?_
 refine bJ hJ (by simp only[*,go_sem,ge_iff_le]) ?_
 refine aG hJ ?_
 repeat refine aa hJ ?_
 refine ag hJ ?_
 simp only[*,go_sem]
 repeat refine aa hJ ?_
 refine bJ hJ (by simp only[*,go_sem,ge_iff_le]) ?_
 refine aG hJ ?_
 repeat refine aa hJ ?_
 refine ag hJ ?_
 simp only[*,go_sem]
 repeat refine aa hJ ?_
 refine bJ hJ (by simp only[*,go_sem,ge_iff_le]) ?_
 refine aG hJ ?_
 repeat refine aa hJ ?_
 refine ag hJ ?_
 simp only[*,go_sem]
 generalize a:ByteArray.mk _=S
 have i:S.size=256:=by rw[<-a];rfl
 have b:n.toNat<S.size:=by omega
 have hb:S[n.toNat]?=some S[n.toNat]:=by simp[b]
 simp only[hb,Option.map_some]
 refine aB ?_
 simp only[*,go_sem]
 exact ⟨_,rfl⟩
theorem FL {ro:Addr->Option Value}(n:Int)(h0:0<=n)(h1:n<256):aC Tryz.prog 131 #[.int .u64 n] ⟨ro,[]⟩ (fun v _=>∃k:Int,v= .int .i64 k):=by
 refine aC.go Tryz.func131 rfl Tryz.ntmps131 Tryz.results131 (by simp) fun main J hJ A a hd hs=>?_
 have b:=hs 0
 clear hs
 repeat refine aa hJ ?_
 refine ag hJ ?_
 simp only[*,go_sem]
 repeat refine aa hJ ?_
 refine bJ hJ (by simp only[*,go_sem]) ?_
 refine aG hJ ?_
 repeat refine aa hJ ?_
 refine ag hJ ?_
 simp only[*,go_sem]
 refine (oH (R:=fun v=>∃k:Int,v= .int .i64 k) (FK n h0 h1) main J hJ).mono ?_
 rintro v F' ⟨⟨k,rfl⟩,rfl⟩
 refine aD ?_
 simp only[*,go_sem]
 refine aB ?_
 simp only[*,go_sem]
 exact ⟨_,rfl⟩
def vQ (u0:List Int):Option (Unit×List Int):=if u0.length<256 then vP u0 0 (u0.length:Int) 1 else none
theorem FM {ro:Addr->Option Value}(u0:List Int){a:Value}{aS:List (Nat×Obj)}(hg:aV rI ro 3 a u0 aS){r:Unit×List Int}(h:vQ u0=some r):
  aC Tryz.prog 111 #[a] ⟨ro,aS⟩ (fun v G=>∃b,(v= .tuple #[]/\aV rI ro 3 a r.2 b)/\Le ⟨ro,b⟩ G):=by
 obtain ⟨ad,cap,rfl,le⟩:=hg.len
 unfold vQ at h
 split at h
 case isFalse=>cases h
 rename_i hlen
 have f:Tryz.prog.underlying 186=some (.int .u64):=by kernel_rfl
 have g:Tryz.prog.underlying 3=some (.int .i64):=by kernel_rfl
 have a1:IntKind.u64.wrap (u0.length:Int)=(u0.length:Int):=IntWalk.u64_in _ ⟨by omega,by omega⟩
 refine aC.go Tryz.func111 rfl Tryz.ntmps111 Tryz.results111 (by simp) fun main J hJ A i hd hs=>?_
 have j:=hs 0
 clear hs
 repeat refine aa hJ ?_
 refine ag hJ ?_
 simp only[*,go_sem,-h]
 repeat refine aa hJ ?_
 refine aK hJ fun nd=>?_
 refine ag hJ ?_
 simp only[*,go_sem,-h]
 refine (oH (R:=fun v=>∃k:Int,v= .int .i64 k) (FL (u0.length:Int) (by omega) (by omega)) main J hJ).mono ?_
 rintro v F' ⟨⟨k,rfl⟩,rfl⟩
 refine aD ?_
 simp only[*,go_sem,-h]
 refine zU hJ [] [] (by simp) _ (FJ u0 hg 0 (u0.length:Int) k (r:=r) h) (fun v l d b c m=>?_)
 obtain ⟨rfl,e⟩:=d
 simp only[List.append_nil,List.nil_append] at c
 subst c
 refine ⟨_,Le.refl _,?_⟩
 exact ⟨_,e,Le.refl _⟩
def ju (x:List Int)(j:Nat):Bool:=j==0||x.getD j 0 != x.getD (j - 1) 0
def fW (x:List Int):Nat->List Int
 |0=>[]
 |n+1=>fW x n++cond (ju x n) [x.getD n 0] []
theorem r6 (x:List Int):∀n,n<=x.length->(∀j,j<n->ju x j=true)->fW x n=x.take n
 |0,_,_=>by simp[fW]
 |n+1,hn,h=>by
  unfold fW
  rw[r6 x n (by omega) (fun j b=>h j (by omega)),h n (by omega),List.take_succ]
  congr 1
  have a:n<x.length:=by omega
  simp[a]
theorem Aq (x:List Int){j:Nat}(h:j<1):ju x j=true:=by
 obtain rfl:j=0:=by omega
 rfl
def vR (u0:List Int):Option (List Int):=cond (List.isEmpty u0) none (some (fW u0 u0.length))
theorem FN {ro:Addr->Option Value}(u0:List Int){P:Value}{aS:List (Nat×Obj)}(hg:aV rI ro 3 P u0 aS){r:List Int}(h:vR u0=some r):
  aC Tryz.prog 112 #[P] ⟨ro,aS⟩ (fun v G=>∃Q,aV rI ro 3 v r Q/\Le ⟨ro,Q⟩ G):=by
 obtain ⟨ad,cap,rfl,le⟩:=hg.len
 unfold vR at h
 have a7:=iG h;clear h;rcases a7 with ⟨R,h⟩|⟨R,h⟩
 ·cases h
 obtain ⟨b,E,rfl,rfl,cl⟩:=hg.uX R
 cases h
 have cy:u0.length<=1000000:=by obtain ⟨_,_,_,h,_⟩:=hg;exact h
 have cS:Tryz.prog.underlying 3=some (.int .i64):=by kernel_rfl
 refine aC.go Tryz.func112 rfl Tryz.ntmps112 Tryz.results112 (by simp) fun main J hJ A a8 hd hs=>?_
 have a9:=hs 0
 clear hs
 repeat refine aa hJ ?_
 refine ag hJ ?_
 simp only[*,go_sem]
 repeat refine aa hJ ?_
 refine ag hJ ?_
 simp only[*,go_sem]
 repeat refine aa hJ ?_
 by_cases h2:u0.length<2
 ·refine bM hJ (by simp only[*,go_sem];simp;omega) ?_
  repeat refine aa hJ ?_
  refine ag hJ ?_
  simp only[*,go_sem]
  refine aB ?_
  simp only[*,go_sem]
  have e:fW u0 u0.length=u0:=by
   rw[r6 u0 _ (Nat.le_refl _) (fun j c=>Aq u0 (by omega)),List.take_length]
  rw[e]
  exact ⟨_,hg,Le.refl _⟩
 refine bJ hJ (by simp only[*,go_sem];simp;omega) ?_
 refine aG hJ ?_
 repeat refine aa hJ ?_
 refine ag hJ ?_
 simp only[*,go_sem]
 repeat refine aa hJ ?_
 refine aY hJ ?_
 refine cc hJ [3,4,5,10,11,12,13,14,15,16,17,18,19,20,21,22,23,24,25,26,27,28,29,30,31,32,33,34,35,36,37,38,39,40,41,42,43,44,45,46,47,48,49,50,51,52,53,54,55,56,57,58,59] (fun m a' F'=>∃k:Nat,1<=k/\k<=u0.length/\u0.length - k<=m/\F'=⟨ro,[(b,Obj.cells E 3)]⟩/\slot a' 3= .int .i64 (k:Int)/\∀j,j<k->ju u0 j=true) u0.length ?_ ?_
 ·refine ⟨1,Nat.le_refl _,by omega,by omega,rfl,?_,fun j c=>Aq u0 c⟩
  simp only[*,go_sem]
  rfl
 ·rintro ba g F' u ⟨k,c0,S,da,rfl,bb,F⟩
  have bc:sz g=61:=by rw[u.size];simp only[*,go_sem]
  have bd:g.defers=[]:=by rw[u.defers];simp only[*,go_sem]
  have bj:slot g 0= .slice (some ⟨b,0,none⟩) u0.length cap:=by rw[u.e5 0 (by decide)];simp only[*,go_sem]
  clear u a8 hd a9
  repeat refine aa hJ ?_
  repeat refine aa hJ ?_
  refine ag hJ ?_
  simp only[*,go_sem]
  by_cases T:k<u0.length
  ·have hb:decide (((k:Nat):Int)<(u0.length:Int))=true:=decide_eq_true (by omega)
   refine bM hJ (by simp only[*,go_sem]) ?_
   refine aG hJ ?_
   repeat refine aa hJ ?_
   refine aY hJ ?_
   repeat refine aa hJ ?_
   obtain ⟨p,rfl⟩:∃p,k=p+1:=⟨k - 1,by omega⟩
   have hw:IntKind.i64.wrap (((p+1:Nat):Int) - 1)=(p:Int):=by rw[IntWalk.i64_in _ ⟨by omega,by omega⟩];omega
   refine eM hJ mixed 9 ⟨ro,[(b,Obj.cells E 3)]⟩ (by simp only[*,go_sem]) (by kernel_rfl) ?_
   obtain ⟨l,U⟩:∃x,u0[p+1]?=some x:=⟨u0[p+1],by simp[T]⟩
   obtain ⟨H,I,K⟩:=hg.kT U
   obtain rfl:H=[.int .i64 l]:=I
   have V:=K 0 _ rfl
   simp only[go_sem] at V
   have db:=(Array.getElem?_eq_some_iff.1 V).1
   obtain ⟨o,W⟩:∃x,u0[p]?=some x:=⟨u0[p],by simp[Nat.lt_of_succ_lt T]⟩
   obtain ⟨L,M,N⟩:=hg.kT W
   obtain rfl:L=[.int .i64 o]:=M
   have X:=N 0 _ rfl
   simp only[go_sem] at X
   have dd:=(Array.getElem?_eq_some_iff.1 X).1
   have df:¬((p+1:Nat):Int)<0:=by omega
   have b2:((p+1:Nat):Int)<(u0.length:Int):=by omega
   have b3:¬(p:Int)<0:=by omega
   have b4:(p:Int)<(u0.length:Int):=by omega
   have b5:(0:Int)<=((p+1:Nat):Int):=by omega
   have dk:(0:Int)<=(p:Int):=by omega
   simp only[*,go_sem]
   have bk:u0.getD (p+1) 0=l:=by rw[List.getD_eq_getElem?_getD,U];rfl
   have bl:u0.getD p 0=o:=by rw[List.getD_eq_getElem?_getD,W];rfl
   have Y:ju u0 (p+1)=(l != o):=by unfold ju;rw[bk,Nat.add_sub_cancel,bl];simp
   clear K N
   by_cases O:l=o
   ·subst O
    refine bM hJ (by simp only[*,go_sem,beq_self_eq_true]) ?_
    repeat refine aa hJ ?_
    refine ag hJ ?_
    have dp:p+1<=u0.length:=S
    have dq:p+1<=cap:=by omega
    have ds:((p+1:Nat):Int)<=(u0.length:Int):=by omega
    have dt:u0.length<=cap:=le
    have du:¬cap=p+1:=by omega
    simp only[*,go_sem]
    have bm:slot g 4=slot g 4:=rfl
    repeat refine aa hJ ?_
    refine ag hJ ?_
    simp only[*,go_sem]
    repeat refine aa hJ ?_
    refine aY hJ ?_
    have e0:fW u0 (p+2)=u0.take (p+1):=by
     show fW u0 (p+1)++cond (ju u0 (p+1)) _ _=_
     rw[Y,r6 u0 _ S F];simp
    refine cc hJ [3,5,29,30,31,32,33,34,35,36,37,38,39,40,41,42,43,44,45,46,47,48,49,50,51,52,53] (fun bo a' F'=>∃(m w:Nat) (arr:Array Value) (x:List Int),1<=m/\m<=u0.length - (p+1)/\u0.length - (p+1) - m<=bo/\F'=⟨ro,[(b,Obj.cells arr 3)]⟩/\slot a' 5= .int .i64 (m:Int)/\slot a' 3= .int .i64 (w:Int)/\
     aV rI ro 3 (.slice (some ⟨b,0,none⟩) u0.length cap) x [(b,.cells arr 3)]/\x.length=u0.length/\(fW u0 (p+(1+m))).length=w/\w<=p+m/\x.take w=fW u0 (p+(1+m))/\∀j,p+m<=j->x[j]?=u0[j]?) u0.length ?_ ?_
    ·refine ⟨1,p+1,E,u0,Nat.le_refl _,by omega,by omega,rfl,?_,?_,hg,rfl,?_,Nat.le_refl _,e0.symm,fun _ _=>rfl⟩
     ·simp only[*,go_sem];rfl
     ·simp only[*,go_sem]
     ·show (fW u0 (p+2)).length=p+1
      rw[e0,List.length_take];omega
    ·rintro Z B F' s ⟨m,w,arr,x,K,N,dv,rfl,dC,dE,d,ab,t,dT,C,D⟩
     have ea:sz B=61:=by rw[s.size];simp only[*,go_sem]
     have eb:B.defers=[]:=by rw[s.defers];simp only[*,go_sem]
     have ec:slot B 0= .slice (some ⟨b,0,none⟩) u0.length cap:=by rw[s.e5 0 (by decide)];simp only[*,go_sem]
     have ed:slot B 4= .slice (some ⟨b,p+1,none⟩) (u0.length - (p+1)) (cap - (p+1)):=by rw[s.e5 4 (by decide)];simp only[*,go_sem]
     clear s bc bd bj bb bm
     repeat refine aa hJ ?_
     refine ag hJ ?_
     simp only[*,go_sem]
     by_cases eh:m<u0.length - (p+1)
     ·have br:decide (((m:Nat):Int)<((u0.length - (p+1):Nat):Int))=true:=decide_eq_true (by omega)
      refine bM hJ (by simp only[*,go_sem]) ?_
      refine aG hJ ?_
      repeat refine aa hJ ?_
      refine aY hJ ?_
      repeat refine aa hJ ?_
      obtain ⟨q,rfl⟩:∃q,m=q+1:=⟨m - 1,by omega⟩
      have et:IntKind.i64.wrap (((q+1:Nat):Int) - 1)=(q:Int):=by rw[IntWalk.i64_in _ ⟨by omega,by omega⟩];omega
      refine eM hJ mixed 9 ⟨ro,[(b,Obj.cells arr 3)]⟩ (by simp only[*,go_sem]) (by kernel_rfl) ?_
      obtain ⟨a,ae⟩:∃y,u0[p+(1+(q+1))]?=some y:=⟨u0[p+(1+(q+1))]'(by omega),List.getElem?_eq_getElem _⟩
      obtain ⟨H,I,al⟩:=d.kT ((D _ (by omega)).trans ae)
      obtain rfl:H=[.int .i64 a]:=I
      have ao:=al 0 _ rfl
      simp only[go_sem] at ao
      have ev:=(Array.getElem?_eq_some_iff.1 ao).1
      obtain ⟨f,ar⟩:∃y,u0[p+(1+q)]?=some y:=⟨u0[p+(1+q)]'(by omega),List.getElem?_eq_getElem _⟩
      obtain ⟨L,M,a0⟩:=d.kT ((D _ (by omega)).trans ar)
      obtain rfl:L=[.int .i64 f]:=M
      have a2:=a0 0 _ rfl
      simp only[go_sem] at a2
      have eQ:=(Array.getElem?_eq_some_iff.1 a2).1
      have c1:¬((q+1:Nat):Int)<0:=by omega
      have c2:((q+1:Nat):Int)<((u0.length - (p+1):Nat):Int):=by omega
      have c3:¬(q:Int)<0:=by omega
      have c4:(q:Int)<((u0.length - (p+1):Nat):Int):=by omega
      have eS:(0:Int)<=((q+1:Nat):Int):=by omega
      have e2:(0:Int)<=(q:Int):=by omega
      simp only[*,go_sem]
      have a3:u0.getD (p+(1+(q+1))) 0=a:=by rw[List.getD_eq_getElem?_getD,ae];rfl
      have bs:u0.getD (p+(1+q)) 0=f:=by rw[List.getD_eq_getElem?_getD,ar];rfl
      have bz:ju u0 (p+(1+(q+1)))=(a != f):=by
       unfold ju
       have bS:p+(1+(q+1)) - 1=p+(1+q):=by omega
       rw[bS,a3,bs]
       have:(p+(1+(q+1))==0)=false:=by simp
       rw[this,Bool.false_or]
      have e1:fW u0 (p+(1+(q+1+1)))=fW u0 (p+(1+(q+1)))++cond (a != f) [a] []:=by
       show fW u0 (p+(1+(q+1)))++cond (ju u0 (p+(1+(q+1)))) [u0.getD (p+(1+(q+1))) 0] []=_
       rw[bz,a3]
      have e3:IntKind.i64.wrap (((q+1:Nat):Int)+1)=((q+1+1:Nat):Int):=by rw[IntWalk.i64_in _ ⟨by omega,by omega⟩];omega
      clear al a0 t
      have t:(fW u0 (p+(1+(q+1)))).length=w:=by rw[<-C,List.length_take];omega
      by_cases a4:a=f
      ·subst a4
       simp only[bne_self_eq_false,cond_false,List.append_nil] at e1
       refine bJ hJ (by simp only[*,go_sem,bne_self_eq_false]) ?_
       refine aG hJ ?_
       refine ag hJ ?_
       simp only[*,go_sem]
       refine ⟨Z - 1,by omega,_,Le.refl _,q+1+1,w,arr,x,by omega,by omega,by omega,rfl,?_,?_,d,ab,by rw[e1];exact t,by omega,by rw[e1];exact C,fun j c=>D j (by omega)⟩
       ·simp only[*,go_sem]
       ·simp only[*,go_sem]
      ·have b0:(a != f)=true:=by simpa using a4
       rw[b0] at e1
       simp only[cond_true] at e1
       refine bM hJ (by simp only[*,go_sem]) ?_
       repeat refine aa hJ ?_
       refine ag hJ ?_
       have d1:(w:Int)<(u0.length:Int):=by omega
       have d2:¬(w:Int)<0:=by omega
       have d3:(0:Int)<=(w:Int):=by omega
       have fa:w<arr.size:=by omega
       simp only[*,go_sem]
       have b1:aV rI ro 3 (.slice (some ⟨b,0,none⟩) u0.length cap) (x.set w a) [(b,Obj.cells (dO arr w [.int .i64 a]) 3)]:=by
        have ca:=d.uW (i:=w) (y:=a) (by omega) (cs:=[.int .i64 a]) rfl
        simpa only[rf,Nat.mul_one,Nat.add_zero] using ca
       have fb:IntKind.i64.wrap ((w:Int)+1)=((w+1:Nat):Int):=by rw[IntWalk.i64_in _ ⟨by omega,by omega⟩];omega
       refine ag hJ ?_
       simp only[*,go_sem]
       refine ag hJ ?_
       simp only[*,go_sem]
       refine ⟨Z - 1,by omega,_,Le.refl _,q+1+1,w+1,_,x.set w a,by omega,by omega,by omega,rfl,?_,?_,b1,by rw[List.length_set];exact ab,?_,by omega,?_,fun j c=>?_⟩
       ·simp only[*,go_sem]
       ·simp only[*,go_sem]
       ·rw[e1,List.length_append,t];rfl
       ·rw[e1,<-C,List.take_succ,List.take_set_of_le (Nat.le_refl _),List.getElem?_set_self (by omega)];rfl
       ·rw[List.getElem?_set_ne (by omega)];exact D j (by omega)
     ·have br:decide (((m:Nat):Int)<((u0.length - (p+1):Nat):Int))=false:=decide_eq_false (by omega)
      refine bJ hJ (by simp only[*,go_sem]) ?_
      refine b7 ?_
      simp only[go_sem]
      have a5:p+(1+m)=u0.length:=by omega
      rw[a5] at t
      have d1:(w:Int)<=(u0.length:Int):=by omega
      have d2:¬(w:Int)<0:=by omega
      have d3:(0:Int)<=(w:Int):=by omega
      have d4:w<=u0.length:=by omega
      have d5:w<=cap:=by omega
      have d6:¬cap=w:=by omega
      have d7:(0:Int)<=(w:Int):=by omega
      have d8:(w:Int)<=(cap:Int):=by omega
      have cb:w+(u0.length - w)<=arr.size:=by
       obtain ⟨ls,cd,fg,-⟩:=id d
       rcases cd with ⟨a6,_,_⟩|⟨fi,fp,fr,a6,cf,hs,hle,_⟩
       ·cases a6
       ·cases cf
        have:rI.n=1:=rfl
        rw[this,Nat.mul_one] at hs
        omega
      repeat refine aa hJ ?_
      refine ag hJ ?_
      simp only[*,go_sem,ite_false,if_false]
      refine EH (pre:=[]) (bf:=[]) (z:=.int .i64 0) (zc:=.int .i64 0) rfl (by kernel_rfl:Tryz.prog.underlying 64=some (.slice 3)) (by kernel_rfl) rfl rfl (by omega) (by simp[au]) cb ?_
      dsimp only[List.nil_append]
      repeat refine aa hJ ?_
      refine ag hJ ?_
      simp only[*,go_sem]
      refine aB ?_
      simp only[*,go_sem]
      refine ⟨_,?_,Le.refl _⟩
      have:=d.clear (k:=w) (by omega)
      rw[C,a5] at this
      simpa only[ite_self,Nat.sub_zero] using this
   ·have fs:(l==o)=false:=by simpa using O
    refine bJ hJ (by simp only[*,go_sem]) ?_
    refine aG hJ ?_
    refine ag hJ ?_
    have ft:IntKind.i64.wrap (((p+1:Nat):Int)+1)=((p+2:Nat):Int):=by rw[IntWalk.i64_in _ ⟨by omega,by omega⟩];omega
    simp only[*,go_sem]
    refine ⟨ba - 1,by omega,_,Le.refl _,p+2,by omega,by omega,by omega,rfl,by simp only[*,go_sem],fun j c=>?_⟩
    rcases Nat.lt_succ_iff_lt_or_eq.1 c with c|rfl
    ·exact F j c
    ·rw[Y];simpa using O
  ·have hb:decide (((k:Nat):Int)<(u0.length:Int))=false:=decide_eq_false (by omega)
   refine bJ hJ (by simp only[*,go_sem]) ?_
   refine b7 ?_
   simp only[go_sem]
   repeat refine aa hJ ?_
   refine ag hJ ?_
   simp only[*,go_sem]
   refine aB ?_
   simp only[*,go_sem]
   obtain rfl:k=u0.length:=by omega
   rw[r6 u0 _ (Nat.le_refl _) F,List.take_length]
   exact ⟨_,hg,Le.refl _⟩
def vS (n:Int):Option (List Int):=if 0<=n/\n<=1000 then some [] else none
theorem FO {ro:Addr->Option Value}{R:Value->af->Prop}{n:Nat}(h0:0<n)(h1:n<=1000){own:List (Nat×Obj)}
  (h:∀(k b:Nat) (arr:Array Value),n<=k->arr.size=k->dK ⟨ro,own⟩ b->R (.slice (some ⟨b,0,none⟩) n k) ⟨ro,(b,.cells arr 3)::own⟩):
  lP Tryz.prog #[64,3] (.slice none 0 0) (.int .i64 (n:Int)) R ⟨ro,own⟩:=by
 intro ty
 have c:Tryz.prog.underlying 64=some (.slice 3):=by kernel_rfl
 have d:Tryz.prog.underlying 3=some (.int .i64):=by kernel_rfl
 have e:bW Tryz.prog 3=some 1:=by kernel_rfl
 have f:zeroOf Tryz.prog 3=some (.int .i64 0):=by kernel_rfl
 obtain ⟨info,g,i⟩:∃info,Tryz.prog.info? 3=some info/\info.bytes=8:=⟨_,rfl,by kernel_rfl⟩
 have w1:IntKind.i64.wrap (n:Int)=(n:Int):=IntWalk.i64_in _ ⟨by omega,by omega⟩
 have c1:¬(n:Int)<0:=by omega
 have c2:¬(n:Int)*(8:Nat)>2 ^ 48:=by omega
 have c3:¬0+n<=0:=by omega
 simp only[Builtin.append_,List.getElem?_toArray,List.getElem?_cons_zero,List.getElem?_cons_succ,bq,dj,c,d,eE,e,bC,yV,if_true,de,w1,if_neg c1,oJ,g,i]
 rw[if_neg c2]
 simp only[Int.toNat_natCast,Nat.zero_add,Bool.not_true,Bool.false_eq_true,if_false]
 have c4:¬n<=0:=by omega
 have j:¬((n:Int)>IntKind.i64.max/\(True\/8=0)):=by
  have:IntKind.i64.max=9223372036854775807:=by decide
  rw[this];omega
 have l:¬Builtin.nextslicecap n 0*8>2 ^ 48:=by
  unfold Builtin.nextslicecap
  rw[if_pos (by omega)]
  omega
 have m:¬n*1=0:=by omega
 rw[if_neg c4,if_neg j,if_neg l]
 rw[ua]
 rw[if_neg (by simp[Question.forced])]
 intro t
 have a:n<=(Question.appendCap n 0 3).cut t:=Nat.le_add_right _ _
 generalize (Question.appendCap n 0 3).cut t=k at a ⊢
 refine uy _ ?_
 simp only[Builtin.firstCells,bC,if_neg m,lI,f,qF,bq]
 intro b hb
 refine ⟨_,Le.refl _,h k b _ a ?_ hb⟩
 simp only[Array.size_append,Builtin.zeroCells,Array.size_map,Array.size_range,Value.cells]
 simp
 omega
theorem FP {ro:Addr->Option Value}(n:Int){x:List Int}(h:vS n=some x):aC Tryz.prog 114 #[.slice none 0 0,.int .i64 n] ⟨ro,[]⟩ (fun v G=>∃c,aV rI ro 3 v x c/\Le ⟨ro,c⟩ G):=by
 unfold vS at h
 split at h
 case isFalse=>cases h
 rename_i hn
 obtain rfl:=Option.some.inj h
 obtain ⟨n,rfl⟩:∃m:Nat,n=m:=⟨n.toNat,by omega⟩
 refine aC.go Tryz.func114 rfl Tryz.ntmps114 Tryz.results114 (by simp) fun main J hJ A g hd hs=>?_
 have j:=hs 0
 have k1:=hs 1
 clear hs
 repeat refine aa hJ ?_
 refine ag hJ ?_
 simp only[*,go_sem]
 repeat refine aa hJ ?_
 refine ag hJ ?_
 simp only[*,go_sem]
 repeat refine aa hJ ?_
 have l:¬(n:Int)<0:=by omega
 refine bJ hJ (by simp only[*,go_sem,decide_false]) ?_
 refine aG hJ ?_
 repeat refine aa hJ ?_
 refine ag hJ ?_
 simp only[*,go_sem]
 refine z8 rfl (by kernel_rfl:Tryz.prog.underlying 64=some (.slice 3)) (aD ?_)
 have e1:IntKind.i64.wrap (((0:Nat):Int) - ((0:Nat):Int))=0:=by decide
 have o:IntKind.i64.wrap ((0:Int) - (0:Int))=0:=by decide
 have e2:IntKind.i64.wrap ((n:Int) - 0)=(n:Int):=by rw[IntWalk.i64_in _ ⟨by omega,by omega⟩];omega
 simp only[*,go_sem]
 repeat refine aa hJ ?_
 refine ag hJ ?_
 simp only[*,go_sem]
 repeat refine aa hJ ?_
 by_cases d:0<n
 ·have b2:(n:Int)>0:=by omega
  refine bM hJ (by simp only[*,go_sem,decide_true]) ?_
  repeat refine aa hJ ?_
  refine ag hJ ?_
  simp only[*,go_sem]
  refine z8 rfl (by kernel_rfl:Tryz.prog.underlying 64=some (.slice 3)) (aD ?_)
  simp only[*,go_sem]
  simp only[Nat.le_refl,Int.le_refl,and_self,if_true,true_and]
  refine FO d (by omega) fun k b arr hk e hb=>aD ?_
  have f:∀off sp,ro ⟨b,off,sp⟩=none:=hb.ro
  have b3:(0:Int)<=(k:Int):=by omega
  simp only[*,go_sem,Int.le_refl,and_self,if_true,ite_self,Nat.sub_zero]
  repeat refine aa hJ ?_
  refine ag hJ ?_
  simp only[*,go_sem]
  refine aB ?_
  simp only[*,go_sem]
  refine ⟨[(b,.cells arr 3)],⟨[],.inr ⟨b,arr,k,rfl,rfl,?_,Nat.zero_le _,?_,fun x a=>(by cases a),f⟩,rfl,Nat.zero_le _,fun i x a=>by simp at a⟩,Le.refl _⟩
  ·show arr.size=k*1
   rw[e,Nat.mul_one]
  ·simp
 ·have b2:¬(0:Int)<(n:Int):=by omega
  refine bJ hJ (by simp only[*,go_sem,decide_false]) ?_
  refine aG hJ ?_
  repeat refine aa hJ ?_
  refine ag hJ ?_
  simp only[*,go_sem]
  refine aB ?_
  simp only[*,go_sem]
  exact ⟨[],aV.nil _ _ _,Le.refl _⟩
end Go.Proofs.YtjepffnffjdloaaGreatDoor
end

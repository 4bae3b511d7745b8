/- A part of the proof: QS6. -/
import Derived.Test.YtbpddfapodiemaaGreatDoorQS5
set_option linter.all false
section
namespace Go.Proofs.YtbpddfapodiemaaGreatDoor
open Go Go.Sep Go.Proofs
set_option maxRecDepth 100000
set_option maxHeartbeats 4000000
def pR (u0:Int)(a:Int):Option Int:=
 cond ((u0==a)) (some 1) (cond ((u0==0)) (some 2) (some 0))
theorem Cx {ro:Addr->Option Value}(u0:Int)(a:Int){r:Int}(h:pR u0 a=some r):aE Tryz.prog 99 #[.int .i64 u0,.int .i64 a] ⟨ro,[]⟩ (fun v _=>v= .int .i64 r):=by
 unfold pR at h;refine aE.go Tryz.func99 rfl Tryz.ntmps99 Tryz.results99 ax fun main J hJ A d hd hs=>?_;have e:=hs 0;have k1:=hs 1;clear hs;apply ay hJ _;refine ah hJ (aC hJ ?_);apply ag _;revert h;refine aT hJ (fun b h=>?_) fun b h=>?_
 .cases h;apply ay hJ _;apply aQ;simp only[*,go_sem]
 refine aO hJ (ah hJ ?_);apply ay hJ _;revert h;refine aT hJ (fun c h=>?_) fun c h=>?_
 .cases h;apply ay hJ _;apply aQ;simp only[*,go_sem]
 cases h;refine aO hJ (ah hJ ?_);apply aF hJ _;apply aQ;simp only[*,go_sem]
def lu (u0:an)(a:Int):Option Int:=
 ai (nG u0 a) fun b=>cond (!b) (some 6) (some 0)
theorem yM {ro:Addr->Option Value}(u0:an){s1 c d f:Value}(a:bO ro u0 s1 c d f)(b:Int){r:Int}(h:lu u0 b=some r):aE Tryz.prog 88 #[bv u0 s1 c d f,.int .i64 b] ⟨ro,[]⟩ (fun v _=>v= .int .i64 r):=by
 obtain ⟨d3,c4,rfl,k,l,-⟩:=id a.e;obtain ⟨d10,m,rfl,n,o,-⟩:=id a.p;obtain ⟨d17,q,rfl,s,u,-⟩:=id a.y;obtain ⟨d24,w,rfl,x,z,-⟩:=id a.t;unfold lu at h;refine aE.go Tryz.func88 rfl Tryz.ntmps88 Tryz.results88 ax fun main J hJ A B hd hs=>?_;have C:=hs 0;have k1:=hs 1;clear hs;apply ay hJ _;refine az fun D E g=>?_;try simp only[av] at g
 try apply ag _
 refine ah hJ (aC hJ ?_);revert h;refine bS fun F i h=>?_;apply ag _;refine bf hJ _ (Co u0 (a.mono aZ) b i) (aP ?_);try apply ag _
 revert h;refine aT hJ (fun j h=>?_) fun j h=>?_
 .cases h;apply ay hJ _;apply aQ;simp only[*,go_sem]
 cases h;refine aO hJ (ah hJ ?_);apply aF hJ _;apply aQ;simp only[*,go_sem]
def Cz (u0:an)(a:(List Int))(st:(Bool×Int×Int)):Option (Fl (Bool×Int×Int) (Bool×Int)):=
 cond (decide (st.2.2<(a.length:Int))) (ai (bt a st.2.2) fun c=>ai (bt u0.aH st.2.2) fun b=>ai (fc c b.high.low b.high.high) fun d=>cond (!d) (some (.rt (false,0))) (some (.nx (st.1,st.2.1,(IntKind.i64.wrap (st.2.2+1)))))) (some (.bk (st.1,st.2.1,st.2.2)))
def pS (a:(List Int))(st:(Bool×Int×Int)):Option (Fl (Bool×Int×Int) (Bool×Int)):=
 cond (decide (st.2.2<(a.length:Int))) (ai (bt a st.2.2) fun b=>ai (fc b 0 60) fun c=>cond (!c) (some (.rt (false,1))) (some (.nx (st.1,st.2.1,(IntKind.i64.wrap (st.2.2+1)))))) (some (.bk (st.1,st.2.1,st.2.2)))
def uN (u0:an)(a:(List Int))(st:(Bool×Int×Int)):Option (Fl (Bool×Int×Int) (Bool×Int)):=
 cond (decide (st.2.2<(a.length:Int))) (ai (bt a st.2.2) fun c=>ai (bt u0.aH st.2.2) fun b=>ai (fc c b.high.low b.high.high) fun d=>cond (!d) (some (.rt (false,0))) (some (.nx (st.1,st.2.1,(IntKind.i64.wrap (st.2.2+1)))))) (some (.bk (st.1,st.2.1,st.2.2)))
def pU (u0:an)(a:(List Int)):Option (Bool×Int):=
 ai (ja u0) fun b=>cond ((b != 0)) (some (false,b)) (cond (((a.length:Int) != (u0.aH.length:Int))) (some (false,2)) (ai (aY (pS a) fu (false,0,0)) fun o=>aG o (fun c=>ai (aY (uN u0 a) fu (c.1,c.2.1,0)) fun o=>aG o (fun e=>ai (n4 u0 a) fun d=>some (d,0)) (fun _ _=>none) (fun r=>some r)) (fun _ _=>none) (fun r=>some r)))
theorem I5 {ro:Addr->Option Value}(u0:an){s1 g z i:Value}(j:bO ro u0 s1 g z i)(b:(List Int)){B:Value}(k:aI rI ro B b){r:(Bool×Int)}(h:pU u0 b=some r):aE Tryz.prog 16 #[bv u0 s1 g z i,B] ⟨ro,[]⟩ (fun v _=>v= .tuple #[.bool r.1,.int .i64 r.2]):=by
 obtain ⟨d17,C,rfl,ca,cb,-⟩:=id j.y;obtain ⟨d31,cd,rfl,cf,cl,-⟩:=id k;unfold pU at h;refine aE.go Tryz.func16 rfl Tryz.ntmps16 Tryz.results16 ax fun main J hJ A U hd hs=>?_;have V:=hs 0;have k1:=hs 1;clear hs;apply ay hJ _;refine az fun D cy W=>?_;try simp only[av] at W
 try apply ag _
 refine ah hJ (aC hJ ?_);revert h;refine bS fun cS X h=>?_;apply ag _;refine bf hJ _ (yK u0 (j.mono aZ) X) (aP ?_);try apply ag _
 apply ay hJ _;revert h;refine aT hJ (fun Y h=>?_) fun Y h=>?_
 .cases h;apply ay hJ _;apply aQ;simp only[*,go_sem]
 refine aO hJ (ah hJ ?_);apply ay hJ _;revert h;refine aT hJ (fun Z h=>?_) fun Z h=>?_
 .cases h;apply ay hJ _;apply aQ;simp only[*,go_sem]
 refine aO hJ (ah hJ ?_);apply ay hJ _;apply aV hJ;revert h;refine bS fun ab l E=>?_;refine bY hJ (rg 20 12 [4,5,7]) (fun m a F'=>∃(c:Bool) (d:Int) (n:Int),aY (pS b) m (c,d,n)=some ab/\F'=⟨ro,(D,bk u0 s1 g (sl d17 u0.aH C) i)::[]⟩/\slot a 4= .bool c/\slot a 5= .int .i64 d/\slot a 7= .int .i64 n) fu ?_ ?_
 .refine ⟨false,0,0,l,rfl,?_⟩;simp only[*,go_sem]
 rintro u c0 F' G ⟨c,d,n,l,rfl,ad,ae,al⟩;obtain ⟨H,I,K⟩:=G.pick [1,2] aB;simp only[*,go_sem] at H I K;clear G U hd V k1;obtain _|u:=u
 .exact absurd l (by simp only[aY,reduceCtorEq,not_false_eq_true])
 revert l;refine bS fun da h e=>?_;unfold pS at h;try dsimp only at h
 refine ah hJ (aC hJ ?_);apply ag _;revert h;refine aT hJ (fun ao h=>?_) fun ao h=>?_
 .refine aO hJ (ah hJ ?_);refine aV hJ (ah hJ ?_);apply aR hJ;revert h;refine bS fun L ar h=>?_;obtain ⟨db,dd,M⟩:=cv ar;obtain ⟨df,a0,a2,a3,N⟩:=k.el _ _ M;obtain rfl:a0=[.int .i64 L]:=a3;cases a2;have a4:=N 0 _ rfl;simp only[go_sem] at a4;clear N M;revert h;refine bS fun dk a5 h=>?_;try apply ag _
  refine bf hJ _ (iq L 0 60 a5) (aP ?_);try apply ag _
  revert h;refine aT hJ (fun a6 h=>?_) fun a6 h=>?_
  .cases h;apply ay hJ _;obtain rfl:=sI e;clear e;have h:=E;dsimp only[aG] at h;cases h;apply aQ;simp only[*,go_sem]
  cases h;refine aO hJ (aR hJ ?_);apply ag _;try apply ag _
  refine ⟨u,Nat.lt_succ_self _,_,Le.sub (List.Sublist.refl _),c,d,(IntKind.i64.wrap (n+1)),e,rfl,?_⟩;simp only[*,go_sem]
 cases h;apply bR;simp only[go_sem];obtain rfl:=sI e;clear e;have h:=E;dsimp only[aG] at h;refine ah hJ (aC hJ ?_);apply ag _;apply aV hJ;revert h;refine bS fun a7 o O=>?_;refine bY hJ (rg 32 26 [4,5,8]) (fun m a F'=>∃(p:Bool) (q:Int) (s:Int),aY (Cz u0 b) m (p,q,s)=some a7/\F'=⟨ro,(D,bk u0 s1 g (sl d17 u0.aH C) i)::[]⟩/\slot a 4= .bool p/\slot a 5= .int .i64 q/\slot a 8= .int .i64 s) fu ?_ ?_
 .refine ⟨c,d,0,o,rfl,?_⟩;simp only[*,go_sem]
 rintro w dp F' P ⟨p,q,s,o,rfl,dq,ds,dt⟩;obtain ⟨a8,a9,ba⟩:=P.pick [1,2] aB;simp only[*,go_sem] at a8 a9 ba;clear P H I K ad ae al;obtain _|w:=w
 .exact absurd o (by simp only[aY,reduceCtorEq,not_false_eq_true])
 revert o;refine bS fun du h f=>?_;unfold Cz at h;try dsimp only at h
 refine ah hJ (aC hJ ?_);apply ag _;revert h;refine aT hJ (fun bb h=>?_) fun bb h=>?_
 .refine aO hJ (ah hJ ?_);refine aV hJ (ah hJ ?_);refine cV hJ mixed 20 1 aM aj ?_;revert h;refine bS fun Q bc h=>?_;obtain ⟨dv,dC,R⟩:=cv bc;obtain ⟨dE,bd,bj,bl,S⟩:=k.el _ _ R;obtain rfl:bd=[.int .i64 Q]:=bl;cases bj;have bm:=S 0 _ rfl;simp only[go_sem] at bm;clear S R;revert h;refine bS fun x bo h=>?_;obtain ⟨dT,ea,T⟩:=cv bo;obtain ⟨eb,br,bs,bz,t⟩:=j.y.el _ _ T;obtain rfl:br=x.cells:=bz;cases bs;have b0:=t 0 _ rfl;simp only[go_sem] at b0;have b1:=t 1 _ rfl;simp only[go_sem] at b1;have b2:=t 2 _ rfl;simp only[go_sem] at b2;clear t T;revert h;refine bS fun ec b3 h=>?_;try apply ag _
  refine ⟨_,bI hJ fun F ed=>iq Q x.high.low x.high.high b3,ck ?_⟩;try apply ag _
  revert h;refine aT hJ (fun b4 h=>?_) fun b4 h=>?_
  .cases h;apply ay hJ _;obtain rfl:=sI f;clear f;have h:=O;dsimp only[aG] at h;cases h;apply aQ;simp only[*,go_sem]
  cases h;refine aO hJ (aR hJ ?_);apply ag _;try apply ag _
  refine ⟨w,Nat.lt_succ_self _,_,Le.sub (List.Sublist.refl _),p,q,(IntKind.i64.wrap (s+1)),f,rfl,?_⟩;simp only[*,go_sem]
 cases h;apply bR;simp only[go_sem];obtain rfl:=sI f;clear f;have h:=O;dsimp only[aG] at h;apply aC hJ;revert h;refine bS fun eh b5 h=>?_;cases h;apply ag _;refine bf hJ _ (Cu u0 (j.mono aZ) b (k.mono aZ) b5) (aP ?_);try apply ag _
 apply aQ;simp only[*,go_sem]
def rT (u0:an):Option (Int×Int):=
 ai (ja u0) fun a=>cond ((a != 0)) (some (0,a)) (ai (pQ u0) fun b=>some ((b.length:Int),0))
theorem I6 {ro:Addr->Option Value}(u0:an){s1 a b c:Value}(d:bO ro u0 s1 a b c){r:(Int×Int)}(h:rT u0=some r):aE Tryz.prog 18 #[bv u0 s1 a b c] ⟨ro,[]⟩ (fun v _=>v= .tuple #[.int .i64 r.1,.int .i64 r.2]):=by
 unfold rT at h;refine aE.go Tryz.func18 rfl Tryz.ntmps18 Tryz.results18 ax fun main J hJ A m hd hs=>?_;have n:=hs 0;clear hs;apply ay hJ _;refine az fun o p e=>?_;try simp only[av] at e
 try apply ag _
 refine ah hJ (aC hJ ?_);revert h;refine bS fun q f h=>?_;apply ag _;refine bf hJ _ (yK u0 (d.mono aZ) f) (aP ?_);try apply ag _
 apply ay hJ _;revert h;refine aT hJ (fun g h=>?_) fun g h=>?_
 .cases h;apply ay hJ _;apply aQ;simp only[*,go_sem]
 refine aO hJ (ah hJ ?_);apply aR hJ;revert h;refine bS fun s i h=>?_;cases h;apply ag _;refine cm hJ _ (Cw u0 d i) fun v t u j k=>?_;obtain ⟨w,rfl,l⟩:=k;simp only[bE] at j;obtain ⟨d40,x,rfl,y,z,-⟩:=id l;apply aP;try apply ag _
 apply aQ;simp only[*,go_sem]
def n8 (b:Int)(a:((List (List Int))×Int))(st:((List Int)×Int)):Option (Fl ((List Int)×Int) ((List Int)×Int)):=
 cond (decide (st.2<(a.1.length:Int))) (ai (bt a.1 st.2) fun c=>ai (bt c b) fun d=>ai (dc st.1 ([d])) fun e=>some (.nx (e,(IntKind.i64.wrap (st.2+1))))) (some (.bk (st.1,st.2)))
def rU (u0:an)(a:Int):Option ((List Int)×Int):=
 ai (lu u0 a) fun c=>ai (gu u0 c) fun b=>ai (aY (n8 a b) fu (([]:List Int),0)) fun o=>aG o (fun d=>ai (pJ d.1) fun e=>some (e,b.2)) (fun _ _=>none) (fun r=>some r)
theorem I7 {ro:Addr->Option Value}(u0:an){s1 a b c:Value}(w:bO ro u0 s1 a b c)(g:Int){r:((List Int)×Int)}(h:rU u0 g=some r):eJ Tryz.prog 20 #[bv u0 s1 a b c,.int .i64 g] ro (fun v aW=>∃y,v= .tuple #[y,.int .i64 r.2]/\aI rI aW y r.1):=by
 unfold rU at h;refine aE.go Tryz.func20 rfl Tryz.ntmps20 Tryz.results20 ax fun main J hJ A T hd hs=>?_;have U:=hs 0;have k1:=hs 1;clear hs;apply ay hJ _;refine az fun e n V=>?_;try simp only[av] at V
 try apply ag _
 apply ah hJ;refine eW hJ mixed [] (.rd 0 (.rd 1 (.pure 2 (.rd 3 (.one 4 (.pure 5 (.pure 6 (.pure 7 (.pure 8 (.pure 9 .done)))))))))) ⟨ro,[(e,bk u0 s1 a b c)]⟩ aM aj ?_;revert h;refine bS fun W X h=>?_;apply ag _;refine ⟨_,bI hJ fun F Y=>yM u0 (w.mono (cg Y)) g X,cj ?_⟩;revert h;refine bS fun Z ab h=>?_;try apply ag _
 refine cm hJ _ (rS u0 w W ab) fun v o z B p=>?_;obtain ⟨cd,rfl,C⟩:=p;replace n:=B.hd;simp only[bE] at B;obtain ⟨d39,cf,rfl,cl,cy,-⟩:=id C;have cS:=e7 (l:=[(e,bk u0 s1 a b c)]) z (aJ.cons n (aJ.nil _));refine ⟨aM,?_⟩;refine cj ?_;try apply ag _
 apply ay hJ _;refine ah hJ (aC hJ ?_);apply ag _;apply aV hJ;revert h;refine bS fun ad i ae=>?_;refine bY hJ (rg 18 16 [8,9]) (fun m D F'=>∃(d46:Option Addr) (j:Nat) (q:List (Nat×Obj)) (d:(List Int)) (k:Int),aY (n8 g Z) m (d,k)=some ad/\F'=⟨o,(e,bk u0 s1 a b c)::q⟩/\bg rI o 3 (.slice d46 d.length j) d q/\d.length<=j/\slot D 8= .slice d46 d.length j/\slot D 9= .int .i64 k) fu ?_ ?_
 .refine ⟨none,0,[],([]:List Int),0,i,rfl,bg.nil _ _ _,Nat.le_refl _,?_⟩;simp only[*,go_sem]
 rintro s c0 F' E ⟨d46,j,q,d,k,i,rfl,G,da,db,dd⟩;obtain ⟨al,ao,ar⟩:=E.pick [1,4,5,6,7] aB;simp only[*,go_sem] at al ao ar;clear E T hd U k1;obtain _|s:=s
 .exact absurd i (by simp only[aY,reduceCtorEq,not_false_eq_true])
 revert i;refine bS fun df h t=>?_;unfold n8 at h;try dsimp only at h
 refine ah hJ (ah hJ ?_);refine aD hJ fun dk=>?_;apply aF hJ _;revert h;refine aT hJ (fun a0 h=>?_) fun a0 h=>?_
 .refine aO hJ (ah hJ ?_);apply aV hJ;refine aD hJ fun a2=>?_;apply aR hJ;revert h;refine bS fun dp a3 h=>?_;obtain ⟨dq,ds,H⟩:=cv a3;obtain ⟨dt,du,a4,a5,I⟩:=C.el _ _ H;obtain ⟨dv,rfl,a6⟩:=a5;obtain ⟨d64,dC,rfl,dE,dT,a7⟩:=id a6;cases a4;have a8:=I 0 _ rfl;simp only[go_sem] at a8;clear I H;revert h;refine bS fun f a9 h=>?_;obtain ⟨ea,eb,K⟩:=cv a9;obtain ⟨ec,ba,bb,bc,L⟩:=a7 _ _ K;obtain rfl:ba=[.int .i64 f]:=bc;cases bb;have bd:=L 0 _ rfl;simp only[go_sem] at bd;clear L K;revert h;refine bS fun bj bl h=>?_;cases h;obtain ⟨bm,M⟩:=dg bl;try apply ag _
  refine az fun N bo O=>?_;have br:=bh.cons O a2;try simp only[av] at O
  try apply ag _
  refine dP (r:=rI) (l:=d) (x:=f) (cs:=#[.int .i64 f]) (e2:=3) [(N,ic f),(e,bk u0 s1 a b c)] [] G br bm rfl aM bo rfl rfl dU dU gy gA rfl gz aB aB (fun ed P u bs bz eh=>?_);simp only[bn] at bz;subst bs;rw[<-M] at u;clear M;obtain ⟨d82,b0,rfl,b1⟩:=u.len;refine ⟨⟨o,(N,ic f)::(e,bk u0 s1 a b c)::P⟩,Le.refl _,?_⟩;apply aP;try apply ag _
  refine aD hJ fun et=>?_;apply aF hJ _;try apply ag _
  refine ⟨s,Nat.lt_succ_self _,_,Le.sub (List.Sublist.cons _ (List.Sublist.refl _)),d82,b0,P,bj,(IntKind.i64.wrap (k+1)),t,rfl,u,b1,?_⟩;simp only[*,go_sem]
 cases h;apply bR;simp only[go_sem];obtain rfl:=sI t;clear t;have h:=ae;dsimp only[aG] at h;apply ah hJ;refine aD hJ fun Q=>?_;obtain ⟨ev,b2,b3,R,b4⟩:=G.eL [(e,bk u0 s1 a b c)] [] Q (aJ.cons n (aJ.nil _));clear Q;refine cH hJ b4 ?_;obtain ⟨eQ,eS,-⟩:=R.op;simp only[bE] at b3;apply aR hJ;revert h;refine bS fun e0 b5 h=>?_;cases h;apply ag _;refine cm hJ _ (IY d R b5) fun v e1 ca cb p=>?_;obtain ⟨e3,rfl,S⟩:=p;simp only[bE] at cb;obtain ⟨d105,fa,rfl,fb,fg,-⟩:=id S;apply aP;try apply ag _
 refine b9 ?_;exact ⟨_,((z).trans b2).trans ca,Le.sub (List.nil_sublist _),_,rfl,S⟩
def kB (u0:an)(b:Int)(c:((List (List Int))×Int))(st:(Int×au×au)):Option (Fl (Int×au×au) (au×au×Int)):=
 cond (decide (st.1<(c.1.length:Int))) (ai (bt c.1 st.1) fun d=>ai (bt d b) fun e=>ai (ir u0 b e) fun f=>ai (nZ u0 f) fun a=>cond ((st.1==0)) (some (.nx ((IntKind.i64.wrap (st.1+1)),a,a))) (ai (fX a st.2.2) fun g=>cond (g) (ai (fX st.2.1 a) fun h=>cond (h) (some (.nx ((IntKind.i64.wrap (st.1+1)),a,a))) (some (.nx ((IntKind.i64.wrap (st.1+1)),st.2.1,a)))) (ai (fX st.2.1 a) fun i=>cond (i) (some (.nx ((IntKind.i64.wrap (st.1+1)),a,st.2.2))) (some (.nx ((IntKind.i64.wrap (st.1+1)),st.2.1,st.2.2)))))) (some (.bk (st.1,st.2.1,st.2.2)))
def rV (u0:an)(a:Int):Option (au×au×Int):=
 ai (lu u0 a) fun d=>ai (gu u0 d) fun b=>ai (aY (kB u0 a b) fu (0,(⟨0,0⟩:au),(⟨0,0⟩:au))) fun o=>aG o (fun c=>some (c.2.2,c.2.1,b.2)) (fun _ _=>none) (fun r=>some r)
theorem I8 {ro:Addr->Option Value}(u0:an){s1 e f g:Value}(k:bO ro u0 s1 e f g)(n:Int){r:(au×au×Int)}(h:rV u0 n=some r):aE Tryz.prog 22 #[bv u0 s1 e f g,.int .i64 n] ⟨ro,[]⟩ (fun v _=>v= .tuple #[r.1.v,r.2.1.v,.int .i64 r.2.2]):=by
 unfold rV at h;refine aE.go Tryz.func22 rfl Tryz.ntmps22 Tryz.results22 ax fun main J hJ A N hd hs=>?_;have O:=hs 0;have k1:=hs 1;clear hs;apply ay hJ _;refine az fun o z P=>?_;try simp only[av] at P
 refine az fun q B Q=>?_;try simp only[av] at Q
 refine az fun s C R=>?_;try simp only[av] at R
 try apply ag _
 apply ah hJ;refine eW hJ mixed [] (.rd 0 (.rd 1 (.pure 2 (.rd 3 (.one 4 (.pure 5 (.pure 6 (.pure 7 (.pure 8 (.pure 9 .done)))))))))) ⟨ro,[(s,rt 0 0),(q,rt 0 0),(o,bk u0 s1 e f g)]⟩ aM aj ?_;revert h;refine bS fun S T h=>?_;apply ag _;refine ⟨_,bI hJ fun F p=>yM u0 (k.mono (cg p)) n T,cj ?_⟩;revert h;refine bS fun U V h=>?_;try apply ag _
 refine cm hJ _ (rS u0 k S V) fun v w D t W=>?_;obtain ⟨b2,rfl,E⟩:=W;replace k:=k.mono D;replace C:=t.hd;replace B:=t.tl.hd;replace z:=t.tl.tl.hd;simp only[bE] at t;obtain ⟨d41,b3,rfl,b4,b5,-⟩:=id E;have ca:=e7 (l:=[(s,rt 0 0),(q,rt 0 0),(o,bk u0 s1 e f g)]) D (aJ.cons C (aJ.cons B (aJ.cons z (aJ.nil _))));refine ⟨aM,?_⟩;refine cj ?_;try apply ag _
 apply ay hJ _;refine az fun x cb X=>?_;try simp only[av] at X
 refine az fun y cd Y=>?_;try simp only[av] at Y
 try apply ag _
 refine ah hJ (aC hJ ?_);apply ag _;apply aV hJ;revert h;refine bS fun Z u ab=>?_;refine bY hJ (rg 21 34 [11,12]) (fun m ad F'=>∃(d:Int) (a:au) (b:au),aY (kB u0 n U) m (d,a,b)=some Z/\F'=⟨w,(y,rt a.num a.den)::(x,rt b.num b.den)::(s,rt 0 0)::(q,rt 0 0)::(o,bk u0 s1 e f g)::[]⟩/\slot ad 11= .int .i64 d) fu ?_ ?_
 .refine ⟨0,(⟨0,0⟩:au),(⟨0,0⟩:au),u,rfl,?_⟩;simp only[*,go_sem]
 rintro i cf F' G ⟨d,a,b,u,rfl,cl⟩;obtain ⟨ae,al,ao⟩:=G.pick [1,2,4,5,6,7,8,9,10] aB;simp only[*,go_sem] at ae al ao;clear G N hd O k1;obtain _|i:=i
 .exact absurd u (by simp only[aY,reduceCtorEq,not_false_eq_true])
 revert u;refine bS fun cy h j=>?_;unfold kB at h;try dsimp only at h
 refine ah hJ (aC hJ ?_);apply ag _;revert h;refine aT hJ (fun ar h=>?_) fun ar h=>?_
 .refine aO hJ (ah hJ ?_);refine aV hJ (ah hJ ?_);refine ef hJ mixed 12 ⟨w,[(y,rt a.num a.den),(x,rt b.num b.den),(s,rt 0 0),(q,rt 0 0),(o,bk u0 s1 e f g)]⟩ aM aj ?_;revert h;refine bS fun c0 a0 h=>?_;obtain ⟨da,db,H⟩:=cv a0;obtain ⟨dd,df,a2,a3,I⟩:=E.el _ _ H;obtain ⟨dk,rfl,a4⟩:=a3;obtain ⟨d61,dp,rfl,dq,ds,a5⟩:=id a4;cases a2;have a6:=I 0 _ rfl;simp only[go_sem] at a6;clear I H;revert h;refine bS fun K a7 h=>?_;obtain ⟨dt,du,L⟩:=cv a7;obtain ⟨dv,a8,a9,ba,M⟩:=a5 _ _ L;obtain rfl:a8=[.int .i64 K]:=ba;cases a9;have bb:=M 0 _ rfl;simp only[go_sem] at bb;clear M L;revert h;refine bS fun bc bd h=>?_;try apply ag _
  refine ⟨_,bI hJ fun F p=>rK u0 (k.mono (cg p)) n K bd,ck ?_⟩;revert h;refine bS fun c bj h=>?_;try apply ag _
  refine ⟨_,bI hJ fun F p=>I2 u0 (k.mono (cg p)) bc bj,?_⟩;try apply ag _
  refine az fun dC dE bl=>?_;try simp only[av] at bl
  try apply ag _
  refine ah hJ (aC hJ ?_);revert h;refine cS (fun bm h=>?_) fun bm h=>?_
  .cases h;(try apply ag _);refine cJ hJ ?_;apply aF hJ _;apply ay hJ _;refine cJ hJ ?_;apply aF hJ _;apply aF hJ _;(try apply ag _);refine ⟨i,Nat.lt_succ_self _,_,Le.sub (List.Sublist.cons _ (List.Sublist.refl _)),(IntKind.i64.wrap (d+1)),c,c,j,rfl,?_⟩;simp only[*,go_sem]
  revert h;refine bS fun dT bo h=>?_;try apply ag _
  refine bf hJ _ (mj c b bo) (aP ?_);try apply ag _
  revert h;refine aT hJ (fun br h=>?_) fun br h=>?_
  .apply aF hJ _;apply aC hJ;revert h;refine bS fun ea bs h=>?_;apply ag _;refine bf hJ _ (mj a c bs) (aP ?_);(try apply ag _);revert h;refine aT hJ (fun bz h=>?_) fun bz h=>?_
   .cases h;apply aF hJ _;apply aF hJ _;(try apply ag _);refine ⟨i,Nat.lt_succ_self _,_,Le.sub (List.Sublist.cons _ (List.Sublist.refl _)),(IntKind.i64.wrap (d+1)),c,c,j,rfl,?_⟩;simp only[*,go_sem]
   cases h;refine aO hJ (aR hJ ?_);apply ag _;(try apply ag _);refine ⟨i,Nat.lt_succ_self _,_,Le.sub (List.Sublist.cons _ (List.Sublist.refl _)),(IntKind.i64.wrap (d+1)),a,c,j,rfl,?_⟩;simp only[*,go_sem]
  refine aO hJ (ah hJ ?_);apply aR hJ;revert h;refine bS fun eb b0 h=>?_;apply ag _;refine bf hJ _ (mj a c b0) (aP ?_);try apply ag _
  revert h;refine aT hJ (fun b1 h=>?_) fun b1 h=>?_
  .cases h;apply aF hJ _;apply aF hJ _;(try apply ag _);refine ⟨i,Nat.lt_succ_self _,_,Le.sub (List.Sublist.cons _ (List.Sublist.refl _)),(IntKind.i64.wrap (d+1)),c,b,j,rfl,?_⟩;simp only[*,go_sem]
  cases h;refine aO hJ (aR hJ ?_);apply ag _;try apply ag _
  refine ⟨i,Nat.lt_succ_self _,_,Le.sub (List.Sublist.cons _ (List.Sublist.refl _)),(IntKind.i64.wrap (d+1)),a,b,j,rfl,?_⟩;simp only[*,go_sem]
 cases h;apply bR;simp only[go_sem];obtain rfl:=sI j;clear j;have h:=ab;dsimp only[aG] at h;cases h;apply ah hJ;refine ef hJ mixed 3 ⟨w,[(y,rt a.num a.den),(x,rt b.num b.den),(o,bk u0 s1 e f g)]⟩ aM aj ?_;apply ag _;apply aQ;simp only[*,go_sem]
def pV (u0:an)(a:Int)(b:((List (List Int))×Int))(st:(Int×Int)):Option (Fl (Int×Int) (Int×Int)):=
 cond (decide (st.2<(b.1.length:Int))) (ai (bt b.1 st.2) fun c=>ai (bt c a) fun d=>ai (ir u0 a d) fun e=>ai (lq u0 e) fun f=>cond (f) (some (.nx ((IntKind.i64.wrap (st.1+1)),(IntKind.i64.wrap (st.2+1))))) (some (.nx (st.1,(IntKind.i64.wrap (st.2+1)))))) (some (.bk (st.1,st.2)))
def rW (u0:an)(b:Int):Option (Int×Int):=
 ai (lu u0 b) fun c=>ai (gu u0 c) fun a=>cond ((a.2 != 0)) (some (0,a.2)) (ai (aY (pV u0 b a) fu (0,0)) fun o=>aG o (fun d=>ai (pR d.1 (a.1.length:Int)) fun e=>some (e,0)) (fun _ _=>none) (fun r=>some r))
theorem I9 {ro:Addr->Option Value}(u0:an){s1 c d e:Value}(a:bO ro u0 s1 c d e)(f:Int){r:(Int×Int)}(h:rW u0 f=some r):aE Tryz.prog 24 #[bv u0 s1 c d e,.int .i64 f] ⟨ro,[]⟩ (fun v _=>v= .tuple #[.int .i64 r.1,.int .i64 r.2]):=by
 unfold rW at h;refine aE.go Tryz.func24 rfl Tryz.ntmps24 Tryz.results24 ax fun main J hJ A E hd hs=>?_;have G:=hs 0;have k1:=hs 1;clear hs;apply ay hJ _;refine az fun o p H=>?_;try simp only[av] at H
 try apply ag _
 apply ah hJ;refine eW hJ mixed [] (.rd 0 (.rd 1 (.pure 2 (.rd 3 (.one 4 (.pure 5 (.pure 6 (.pure 7 (.pure 8 (.pure 9 .done)))))))))) ⟨ro,[(o,bk u0 s1 c d e)]⟩ aM aj ?_;revert h;refine bS fun I K h=>?_;apply ag _;refine ⟨_,bI hJ fun F g=>yM u0 (a.mono (cg g)) f K,cj ?_⟩;revert h;refine bS fun q L h=>?_;try apply ag _
 refine cm hJ _ (rS u0 a I L) fun v M s t N=>?_;obtain ⟨a6,rfl,u⟩:=N;replace a:=a.mono s;replace p:=t.hd;simp only[bE] at t;obtain ⟨d39,a7,rfl,a8,a9,-⟩:=id u;have ba:=e7 (l:=[(o,bk u0 s1 c d e)]) s (aJ.cons p (aJ.nil _));refine ⟨aM,?_⟩;refine cj ?_;try apply ag _
 refine ah hJ (aC hJ ?_);apply ag _;revert h;refine aT hJ (fun O h=>?_) fun O h=>?_
 .cases h;apply ay hJ _;apply aQ;simp only[*,go_sem]
 refine aO hJ (ah hJ ?_);apply aF hJ _;refine ah hJ (aC hJ ?_);apply ag _;apply aV hJ;revert h;refine bS fun P j Q=>?_;refine bY hJ (rg 21 20 [8,9]) (fun m w F'=>∃(b:Int) (i:Int),aY (pV u0 f q) m (b,i)=some P/\F'=⟨M,(o,bk u0 s1 c d e)::[]⟩/\slot w 8= .int .i64 b/\slot w 9= .int .i64 i) fu ?_ ?_
 .refine ⟨0,0,j,rfl,?_⟩;simp only[*,go_sem]
 rintro k bb F' x ⟨b,i,j,rfl,bc,bd⟩;obtain ⟨R,S,T⟩:=x.pick [1,2,4,5,6] aB;simp only[*,go_sem] at R S T;clear x E hd G k1;obtain _|k:=k
 .exact absurd j (by simp only[aY,reduceCtorEq,not_false_eq_true])
 revert j;refine bS fun bj h n=>?_;unfold pV at h;try dsimp only at h
 refine ah hJ (aC hJ ?_);apply ag _;revert h;refine aT hJ (fun U h=>?_) fun U h=>?_
 .refine aO hJ (ah hJ ?_);refine aV hJ (ah hJ ?_);refine cV hJ mixed 12 1 aM aj ?_;revert h;refine bS fun bl V h=>?_;obtain ⟨bm,bo,y⟩:=cv V;obtain ⟨br,bs,W,X,z⟩:=u.el _ _ y;obtain ⟨bz,rfl,Y⟩:=X;obtain ⟨d57,b0,rfl,b1,b2,Z⟩:=id Y;cases W;have ab:=z 0 _ rfl;simp only[go_sem] at ab;clear z y;revert h;refine bS fun B ad h=>?_;obtain ⟨b3,b4,C⟩:=cv ad;obtain ⟨b5,ae,al,ao,D⟩:=Z _ _ C;obtain rfl:ae=[.int .i64 B]:=ao;cases al;have ar:=D 0 _ rfl;simp only[go_sem] at ar;clear D C;revert h;refine bS fun a0 a2 h=>?_;try apply ag _
  refine ⟨_,bI hJ fun F g=>rK u0 (a.mono (cg g)) f B a2,ck ?_⟩;revert h;refine bS fun ca a3 h=>?_;try apply ag _
  refine ⟨_,bI hJ fun F g=>uL u0 (a.mono (cg g)) a0 a3,?_⟩;try apply ag _
  revert h;refine aT hJ (fun a4 h=>?_) fun a4 h=>?_
  .cases h;apply aF hJ _;apply aF hJ _;(try apply ag _);refine ⟨k,Nat.lt_succ_self _,_,Le.sub (List.Sublist.refl _),(IntKind.i64.wrap (b+1)),(IntKind.i64.wrap (i+1)),n,rfl,?_⟩;simp only[*,go_sem]
  cases h;refine aO hJ (aR hJ ?_);apply ag _;try apply ag _
  refine ⟨k,Nat.lt_succ_self _,_,Le.sub (List.Sublist.refl _),b,(IntKind.i64.wrap (i+1)),n,rfl,?_⟩;simp only[*,go_sem]
 cases h;apply bR;simp only[go_sem];obtain rfl:=sI n;clear n;have h:=Q;dsimp only[aG] at h;apply aC hJ;revert h;refine bS fun cb a5 h=>?_;cases h;apply ag _;refine bf hJ _ (Cx b (q.1.length:Int) a5) (aP ?_);try apply ag _
 apply aQ;simp only[*,go_sem]
def pW (u0:an)(a:(List Int))(st:(Bool×Int)):Option (Fl (Bool×Int) Bool):=
 cond (decide (st.2<(a.length:Int))) (ai (bt a st.2) fun b=>ai (ir u0 st.2 b) fun c=>ai (lq u0 c) fun d=>cond (d) (some (.rt false)) (some (.nx (st.1,(IntKind.i64.wrap (st.2+1)))))) (some (.bk (st.1,st.2)))
def rX (u0:an)(a:(List Int)):Option Bool:=
 ai (aY (pW u0 a) fu (false,0)) fun o=>aG o (fun b=>some true) (fun _ _=>none) (fun r=>some r)
theorem Ja {ro:Addr->Option Value}(u0:an){s1 e f g:Value}(l:bO ro u0 s1 e f g)(i:(List Int)){n:Value}(o:aI rI ro n i){r:Bool}(h:rX u0 i=some r):aE Tryz.prog 101 #[bv u0 s1 e f g,n] ⟨ro,[]⟩ (fun v _=>v= .bool r):=by
 obtain ⟨d31,S,rfl,T,U,-⟩:=id o;unfold rX at h;refine aE.go Tryz.func101 rfl Tryz.ntmps101 Tryz.results101 ax fun main J hJ A x hd hs=>?_;have y:=hs 0;have k1:=hs 1;clear hs;apply ay hJ _;refine az fun z V B=>?_;try simp only[av] at B
 try apply ag _
 refine ah hJ (aC hJ ?_);apply ag _;apply aV hJ;revert h;refine bS fun C c p=>?_;refine bY hJ (rg 4 17 []) (fun m q F'=>∃(d:Bool) (a:Int),aY (pW u0 i) m (d,a)=some C/\F'=⟨ro,(z,bk u0 s1 e f g)::[]⟩/\slot q 4= .bool d/\slot q 5= .int .i64 a) fu ?_ ?_
 .refine ⟨false,0,c,rfl,?_⟩;simp only[*,go_sem]
 rintro j W F' s ⟨d,a,c,rfl,X,Y⟩;obtain ⟨D,E,G⟩:=s.pick [1,2] aB;simp only[*,go_sem] at D E G;clear s x hd y k1;obtain _|j:=j
 .exact absurd c (by simp only[aY,reduceCtorEq,not_false_eq_true])
 revert c;refine bS fun Z h b=>?_;unfold pW at h;try dsimp only at h
 refine ah hJ (aC hJ ?_);apply ag _;revert h;refine aT hJ (fun H h=>?_) fun H h=>?_
 .refine aO hJ (ah hJ ?_);refine aV hJ (ah hJ ?_);refine cV hJ mixed 9 1 aM aj ?_;revert h;refine bS fun t I h=>?_;obtain ⟨ab,ad,u⟩:=cv I;obtain ⟨ae,K,L,M,w⟩:=o.el _ _ u;obtain rfl:K=[.int .i64 t]:=M;cases L;have N:=w 0 _ rfl;simp only[go_sem] at N;clear w u;revert h;refine bS fun O P h=>?_;try apply ag _
  refine ⟨_,bI hJ fun F k=>rK u0 (l.mono (cg k)) a t P,ck ?_⟩;revert h;refine bS fun al Q h=>?_;try apply ag _
  refine ⟨_,bI hJ fun F k=>uL u0 (l.mono (cg k)) O Q,?_⟩;try apply ag _
  revert h;refine aT hJ (fun R h=>?_) fun R h=>?_
  .cases h;apply ay hJ _;obtain rfl:=sI b;clear b;have h:=p;dsimp only[aG] at h;cases h;apply aQ;simp only[*,go_sem]
  cases h;refine aO hJ (aR hJ ?_);apply ag _;try apply ag _
  refine ⟨j,Nat.lt_succ_self _,_,Le.sub (List.Sublist.refl _),d,(IntKind.i64.wrap (a+1)),b,rfl,?_⟩;simp only[*,go_sem]
 cases h;apply bR;simp only[go_sem];obtain rfl:=sI b;clear b;have h:=p;dsimp only[aG] at h;cases h;apply ay hJ _;apply aQ;simp only[*,go_sem]
def pX (u0:an)(a:((List (List Int))×Int))(st:(Int×Int)):Option (Fl (Int×Int) (Int×Int)):=
 cond (decide (st.2<(a.1.length:Int))) (ai (bt a.1 st.2) fun b=>ai (rX u0 b) fun c=>cond (c) (some (.nx ((IntKind.i64.wrap (st.1+1)),(IntKind.i64.wrap (st.2+1))))) (some (.nx (st.1,(IntKind.i64.wrap (st.2+1)))))) (some (.bk (st.1,st.2)))
def rY (u0:an):Option (Int×Int):=
 ai (gu u0 0) fun a=>cond ((a.2 != 0)) (some (0,a.2)) (ai (aY (pX u0 a) fu (0,0)) fun o=>aG o (fun b=>ai (pR b.1 (a.1.length:Int)) fun c=>some (c,0)) (fun _ _=>none) (fun r=>some r))
theorem Jb {ro:Addr->Option Value}(u0:an){s1 g i j:Value}(c:bO ro u0 s1 g i j){r:(Int×Int)}(h:rY u0=some r):aE Tryz.prog 26 #[bv u0 s1 g i j] ⟨ro,[]⟩ (fun v _=>v= .tuple #[.int .i64 r.1,.int .i64 r.2]):=by
 unfold rY at h;refine aE.go Tryz.func26 rfl Tryz.ntmps26 Tryz.results26 ax fun main J hJ A u hd hs=>?_;have w:=hs 0;clear hs;apply ay hJ _;refine az fun x W y=>?_;try simp only[av] at y
 try apply ag _
 apply aC hJ;revert h;refine bS fun k z h=>?_;apply ag _;refine cm hJ _ (rS u0 c 0 z) fun v B C D E=>?_;obtain ⟨X,rfl,l⟩:=E;replace c:=c.mono C;simp only[bE] at D;obtain ⟨d37,Y,rfl,Z,ab,-⟩:=id l;apply aP;try apply ag _
 refine ah hJ (aC hJ ?_);apply ag _;revert h;refine aT hJ (fun G h=>?_) fun G h=>?_
 .cases h;apply ay hJ _;apply aQ;simp only[*,go_sem]
 refine aO hJ (ah hJ ?_);apply aF hJ _;refine ah hJ (aC hJ ?_);apply ag _;apply aV hJ;revert h;refine bS fun H d I=>?_;refine bY hJ (rg 16 14 [6,7]) (fun m n F'=>∃(a:Int) (b:Int),aY (pX u0 k) m (a,b)=some H/\F'=⟨B,(x,bk u0 s1 g i j)::[]⟩/\slot n 6= .int .i64 a/\slot n 7= .int .i64 b) fu ?_ ?_
 .refine ⟨0,0,d,rfl,?_⟩;simp only[*,go_sem]
 rintro e ad F' o ⟨a,b,d,rfl,ae,al⟩;obtain ⟨K,L,M⟩:=o.pick [1,2,3,4] aB;simp only[*,go_sem] at K L M;clear o u hd w;obtain _|e:=e
 .exact absurd d (by simp only[aY,reduceCtorEq,not_false_eq_true])
 revert d;refine bS fun ao h f=>?_;unfold pX at h;try dsimp only at h
 refine ah hJ (aC hJ ?_);apply ag _;revert h;refine aT hJ (fun N h=>?_) fun N h=>?_
 .refine aO hJ (ah hJ ?_);refine aV hJ (ah hJ ?_);refine cV hJ mixed 6 1 aM aj ?_;revert h;refine bS fun O P h=>?_;obtain ⟨ar,a0,p⟩:=cv P;obtain ⟨a2,a3,Q,R,q⟩:=l.el _ _ p;obtain ⟨a4,rfl,s⟩:=R;obtain ⟨d54,a5,rfl,a6,a7,a8⟩:=id s;cases Q;have S:=q 0 _ rfl;simp only[go_sem] at S;clear q p;revert h;refine bS fun a9 T h=>?_;try apply ag _
  refine ⟨_,bI hJ fun F t=>Ja u0 (c.mono (cg t)) O (s.mono (cg t)) T,?_⟩;try apply ag _
  revert h;refine aT hJ (fun U h=>?_) fun U h=>?_
  .cases h;apply aF hJ _;apply aF hJ _;(try apply ag _);refine ⟨e,Nat.lt_succ_self _,_,Le.sub (List.Sublist.refl _),(IntKind.i64.wrap (a+1)),(IntKind.i64.wrap (b+1)),f,rfl,?_⟩;simp only[*,go_sem]
  cases h;refine aO hJ (aR hJ ?_);apply ag _;try apply ag _
  refine ⟨e,Nat.lt_succ_self _,_,Le.sub (List.Sublist.refl _),a,(IntKind.i64.wrap (b+1)),f,rfl,?_⟩;simp only[*,go_sem]
 cases h;apply bR;simp only[go_sem];obtain rfl:=sI f;clear f;have h:=I;dsimp only[aG] at h;apply aC hJ;revert h;refine bS fun ba V h=>?_;cases h;apply ag _;refine bf hJ _ (Cx a (k.1.length:Int) V) (aP ?_);try apply ag _
 apply aQ;simp only[*,go_sem]
def n9 (u0:an)(c:((List (List Int))×Int))(a:Int)(st:(Int×Int×au)):Option (Fl (Int×Int×au) (Int×au×Int)):=
 cond (decide (st.2.1<(c.1.length:Int))) (ai (bt c.1 st.2.1) fun d=>ai (bt d a) fun e=>ai (ir u0 a e) fun b=>ai (lq u0 b) fun f=>cond (f) (ai (lp u0 b) fun g=>ai (fX st.2.2 g) fun h=>cond (h) (ai (lp u0 b) fun i=>some (.nx (a,(IntKind.i64.wrap (st.2.1+1)),i))) (some (.nx (st.1,(IntKind.i64.wrap (st.2.1+1)),st.2.2)))) (some (.nx (st.1,(IntKind.i64.wrap (st.2.1+1)),st.2.2)))) (some (.bk (st.1,st.2.1,st.2.2)))
def pY (u0:an)(b:((List (List Int))×Int))(st:(Int×Int×au)):Option (Fl (Int×Int×au) (Int×au×Int)):=
 cond (decide (st.2.1<(u0.aH.length:Int))) (ai (aY (n9 u0 b st.2.1) fu (st.1,0,st.2.2)) fun o=>aG o (fun a=>some (.nx (a.1,(IntKind.i64.wrap (st.2.1+1)),a.2.2))) (fun _ _=>none) (fun r=>some (.rt r))) (some (.bk (st.1,st.2.1,st.2.2)))
def rZ (u0:an):Option (Int×au×Int):=
 ai (gu u0 0) fun a=>cond ((a.2 != 0)) (some (0,(⟨0,0⟩:au),a.2)) (ai (aY (pY u0 a) fu ((-1),0,(⟨0,1⟩:au))) fun o=>aG o (fun b=>some (b.1,b.2.2,0)) (fun _ _=>none) (fun r=>some r))
theorem Jc {ro:Addr->Option Value}(u0:an){s1 c E d:Value}(b:bO ro u0 s1 c E d){r:(Int×au×Int)}(h:rZ u0=some r):aE Tryz.prog 28 #[bv u0 s1 c E d] ⟨ro,[]⟩ (fun v _=>v= .tuple #[.int .i64 r.1,r.2.1.v,.int .i64 r.2.2]):=by
 obtain ⟨d17,k,rfl,cy,c0,-⟩:=id b.y;unfold rZ at h;refine aE.go Tryz.func28 rfl Tryz.ntmps28 Tryz.results28 ax fun main J hJ A S hd hs=>?_;have T:=hs 0;clear hs;apply ay hJ _;refine az fun l da U=>?_;try simp only[av] at U
 refine az fun u db V=>?_;try simp only[av] at V
 try apply ag _
 apply aC hJ;revert h;refine bS fun G W h=>?_;apply ag _;refine cm hJ _ (rS u0 b 0 W) fun v n X Y Z=>?_;obtain ⟨dd,rfl,H⟩:=Z;replace b:=b.mono X;simp only[bE] at Y;obtain ⟨d38,df,rfl,dk,dp,-⟩:=id H;apply aP;try apply ag _
 refine ah hJ (aC hJ ?_);apply ag _;revert h;refine aT hJ (fun ab h=>?_) fun ab h=>?_
 .cases h;apply ay hJ _;apply aQ;simp only[*,go_sem]
 refine aO hJ (ah hJ ?_);apply aF hJ _;refine az fun o dq ad=>?_;try simp only[av] at ad
 try apply ag _
 refine ah hJ (aC hJ ?_);apply ag _;apply aV hJ;revert h;refine bS fun ae w al=>?_;refine bY hJ (rg 22 37 [7,9,10,11]) (fun m p F'=>∃(x:Int) (e:Int) (f:au),aY (pY u0 G) m (x,e,f)=some ae/\F'=⟨n,(o,rt f.num f.den)::(u,rt 0 0)::(l,bk u0 s1 c (sl d17 u0.aH k) d)::[]⟩/\slot p 7= .int .i64 x/\slot p 9= .int .i64 e) fu ?_ ?_
 .refine ⟨(-1),0,(⟨0,1⟩:au),w,rfl,?_⟩;simp only[*,go_sem]
 rintro B ao F' I ⟨x,e,f,w,rfl,ar,a0⟩;obtain ⟨K,L,M⟩:=I.pick [1,2,3,4,5,8] aB;simp only[*,go_sem] at K L M;clear I S hd T;obtain _|B:=B
 .exact absurd w (by simp only[aY,reduceCtorEq,not_false_eq_true])
 revert w;refine bS fun ds h C=>?_;unfold pY at h;try dsimp only at h
 refine ah hJ (aC hJ ?_);apply ag _;revert h;refine aT hJ (fun a2 h=>?_) fun a2 h=>?_
 .refine aO hJ (ah hJ ?_);refine aV hJ (ah hJ ?_);apply aF hJ _;apply aV hJ;revert h;refine bS fun a3 z a4=>?_;refine bY hJ (rg 29 30 [7,10,11]) (fun m p F'=>∃(g:Int) (i:Int) (a:au),aY (n9 u0 G e) m (g,i,a)=some a3/\F'=⟨n,(o,rt a.num a.den)::(u,rt 0 0)::(l,bk u0 s1 c (sl d17 u0.aH k) d)::[]⟩/\slot p 7= .int .i64 g/\slot p 10= .int .i64 i) fu ?_ ?_
  .refine ⟨x,0,f,z,rfl,?_⟩;simp only[*,go_sem]
  rintro q a5 F' D ⟨g,i,a,z,rfl,dt,du⟩;obtain ⟨a6,a7,a8⟩:=D.pick [1,2,3,4,5,8,9,22,23,24,25,26] aB;simp only[*,go_sem] at a6 a7 a8;have dv:cR (rg 22 37 [7,9,10,11]) a5 ao:=(D.fE aB).trans aM;clear D K L M ar a0;obtain _|q:=q
  .exact absurd z (by simp only[aY,reduceCtorEq,not_false_eq_true])
  revert z;refine bS fun dC h s=>?_;unfold n9 at h;try dsimp only at h
  refine ah hJ (aC hJ ?_);apply ag _;revert h;refine aT hJ (fun a9 h=>?_) fun a9 h=>?_
  .refine aO hJ (ah hJ ?_);refine aV hJ (ah hJ ?_);refine ef hJ mixed 10 ⟨n,[(o,rt a.num a.den),(u,rt 0 0),(l,bk u0 s1 c (sl d17 u0.aH k) d)]⟩ aM aj ?_;revert h;refine bS fun dE ba h=>?_;obtain ⟨dT,ea,N⟩:=cv ba;obtain ⟨eb,ec,bb,bc,O⟩:=H.el _ _ N;obtain ⟨ed,rfl,bd⟩:=bc;obtain ⟨d66,eh,rfl,et,ev,bj⟩:=id bd;cases bb;have bl:=O 0 _ rfl;simp only[go_sem] at bl;clear O N;revert h;refine bS fun P bm h=>?_;obtain ⟨eQ,eS,Q⟩:=cv bm;obtain ⟨e0,bo,br,bs,R⟩:=bj _ _ Q;obtain rfl:bo=[.int .i64 P]:=bs;cases br;have bz:=R 0 _ rfl;simp only[go_sem] at bz;clear R Q;revert h;refine bS fun t b0 h=>?_;(try apply ag _);refine ⟨_,bI hJ fun F j=>rK u0 (b.mono (cg j)) e P b0,?_⟩;(try apply ag _);refine az fun b1 e1 b2=>?_;try simp only[av] at b2
   (try apply ag _);apply ah hJ;refine ef hJ mixed 10 ⟨n,[(b1,.cells #[.int .i64 t.back,.int .i64 t.high] 61),(o,rt a.num a.den),(u,rt 0 0),(l,bk u0 s1 c (sl d17 u0.aH k) d)]⟩ aM aj ?_;revert h;refine bS fun e2 b3 h=>?_;apply ag _;refine ⟨_,bI hJ fun F j=>uL u0 (b.mono (cg j)) t b3,ck ?_⟩;revert h;refine cS (fun b4 h=>?_) fun b4 h=>?_
   .revert h;refine bS fun b5 ca h=>?_;(try apply ag _);refine ⟨_,bI hJ fun F j=>yL u0 (b.mono (cg j)) t ca,ck ?_⟩;revert h;refine bS fun e3 cb h=>?_;(try apply ag _);refine ⟨_,bI hJ fun F j=>mj a b5 cb,ck ?_⟩;(try apply ag _);revert h;refine aT hJ (fun cd h=>?_) fun cd h=>?_
    .apply aR hJ;revert h;refine bS fun cf cl h=>?_;cases h;apply ag _;refine bf hJ _ (yL u0 (b.mono aZ) t cl) (aP ?_);(try apply ag _);apply aF hJ _;(try apply ag _);refine ⟨q,Nat.lt_succ_self _,_,Le.sub (List.Sublist.cons _ (List.Sublist.refl _)),e,(IntKind.i64.wrap (i+1)),cf,s,rfl,?_⟩;simp only[*,go_sem]
    cases h;refine aO hJ (aR hJ ?_);apply ag _;(try apply ag _);refine ⟨q,Nat.lt_succ_self _,_,Le.sub (List.Sublist.cons _ (List.Sublist.refl _)),g,(IntKind.i64.wrap (i+1)),a,s,rfl,?_⟩;simp only[*,go_sem]
   cases h;(try apply ag _);refine cF hJ ?_;refine aO hJ (aR hJ ?_);apply ag _;(try apply ag _);refine ⟨q,Nat.lt_succ_self _,_,Le.sub (List.Sublist.cons _ (List.Sublist.refl _)),g,(IntKind.i64.wrap (i+1)),a,s,rfl,?_⟩;simp only[*,go_sem]
  cases h;apply bR;simp only[go_sem];obtain rfl:=sI s;clear s;have h:=a4;dsimp only[aG] at h;cases h;apply aF hJ _;try apply ag _
  refine ⟨B,Nat.lt_succ_self _,_,Le.sub (List.Sublist.refl _),g,(IntKind.i64.wrap (e+1)),a,C,rfl,?_⟩;simp only[*,go_sem]
 cases h;apply bR;simp only[go_sem];obtain rfl:=sI C;clear C;have h:=al;dsimp only[aG] at h;cases h;apply ah hJ;refine ef hJ mixed 3 ⟨n,[(o,rt f.num f.den),(l,bk u0 s1 c (sl d17 u0.aH k) d)]⟩ aM aj ?_;apply ag _;apply aQ;simp only[*,go_sem]
end Go.Proofs.YtbpddfapodiemaaGreatDoor
end
section
namespace Go.Sep
open Go Go.Conc
variable {P:Program}
theorem Jd {ro:Addr->Option Value}{pre bC:List (Nat×Obj)}{argTypes:Array TypeId}{t e ty d:TypeId}{R:Value->af->Prop}{b c:Nat}{ad:Option Addr}{l:List Int}{a n1 n2:Int}(ht:argTypes[0]?=some t)(hu:P.underlying t=some (.slice e))(hs:cq P e=some 1)
  (q:aI rI ro (.slice ad l.length c) l) (r:av pre b)
  (h:R (.int .i64 ((Nat.min l.length 3:Nat):Int)) ⟨ro,pre++((b,.cells #[.int .i64 (l.getD 0 a),.int .i64 (l.getD 1 n1),.int .i64 (l.getD 2 n2)] d)::bC)⟩):
  fh P (Builtin.copy_ argTypes ty #[.slice (some ⟨b,0,none⟩) 3 3,.slice ad l.length c]) R ⟨ro,pre++((b,.cells #[.int .i64 a,.int .i64 n1,.int .i64 n2] d)::bC)⟩:=by
 unfold fh
 have key:∀i x,l[i]?=some x->∃p,ad=some p/\ro (p.add i)=some (.int .i64 x):=by
  obtain ⟨D,E,s,_,_,u⟩:=q
  cases s
  intro i x hi
  obtain ⟨p,cs,f,g,w⟩:=u i x hi
  obtain rfl:cs=[.int .i64 x]:=g
  refine ⟨p,f,?_⟩
  have:=w 0 _ rfl
  have e1:(p.add (i*rI.n)).add 0=p.add i:=by
   show p.add (i*1)=_
   rw[Nat.mul_one]
  rwa [e1] at this
 have st:∀(vs:List Value),(∀v∈vs,bV v=true)->vs.length<=3->(⟨ro,pre++((b,.cells #[.int .i64 a,.int .i64 n1,.int .i64 n2] d)::bC)⟩:af).js ⟨b,0,none⟩ 0 vs=some ⟨ro,pre++((b,.cells (cY #[.int .i64 a,.int .i64 n1,.int .i64 n2] 0 vs) d)::bC)⟩:=by
  intro vs j hlen
  have:=tu (ro:=ro) (bC:=bC) (e:=d) r 0 vs #[.int .i64 a,.int .i64 n1,.int .i64 n2] 0 j (by simpa using hlen)
  simpa using this
 simp only[Builtin.copy_,ht,List.getElem?_toArray,List.getElem?_cons_zero,List.getElem?_cons_succ,bH,dS,hu,e5,hs,bT,Builtin.lenOf]
 have ld:∀(k:Nat) (vs:List Value) (Q:Array Value->af->Prop) (F:af),F.ro=ro->k=Nat.min l.length 3->vs=(l.take 3).map (fun x=>Value.int .i64 x)->Q vs.toArray F->bq P (Builtin.firstCells 1 k (.slice ad l.length c)) Q F:=by
  intro k vs Q F A B m o
  cases ad with
  |none=>
   cases l with
   |nil=>subst m;exact o
   |cons x l=>obtain ⟨p,f,_⟩:=key 0 x rfl;cases f
  |some p=>
   have C:∀i x,l[i]?=some x->F.get (p.add i)=some (.int .i64 x):=by
    intro i x hi
    obtain ⟨G,f,g⟩:=key i x hi
    cases f
    simp only[af.get,A,g]
   show bq P (loadCells p (k*1)) Q F
   refine AX p (vs:=vs) ?_ o
   subst B m
   match l,C with
   |[],_=>rfl
   |[x],k=>simp[af.dJ,k 0 x rfl]
   |[x,y],k=>simp[af.dJ,k 0 x rfl,k 1 y rfl]
   |x::y::z::l,k=>simp[af.dJ,k 0 x rfl,k 1 y rfl,k 2 z rfl,show Nat.min (l.length+1+1+1) 3=3 from Nat.min_eq_right aa]
 refine ld _ _ _ _ rfl rfl rfl ?_
 refine qA _ _ 0 _ _ (st _ (fun v j=>?_) ?_) ?_
 .obtain ⟨x,_,rfl⟩:=List.mem_map.1 (show v∈(l.take 3).map (fun x=>Value.int .i64 x) from j);rfl
 .simp;omega
 .simp only[bT,goInt]
  have e1:cY #[.int .i64 a,.int .i64 n1,.int .i64 n2] 0 ((l.take 3).map (fun x=>Value.int .i64 x))=#[.int .i64 (l.getD 0 a),.int .i64 (l.getD 1 n1),.int .i64 (l.getD 2 n2)]:=by
   match l with
   |[]=>rfl
   |[x]=>rfl
   |[x,y]=>rfl
   |x::y::z::l=>rfl
  rw[e1]
  exact h
end Go.Sep
end
section
namespace Go.Proofs.YtbpddfapodiemaaGreatDoor
open Go Go.Sep Go.Proofs
set_option maxRecDepth 100000
set_option maxHeartbeats 4000000
def r4 (u0:Int):Option Bool:=
 ai (fU u0 0 60) fun a=>some (!a)
theorem Je {ro:Addr->Option Value}(u0:Int){r:Bool}(h:r4 u0=some r):aE Tryz.prog 79 #[.int .i64 u0] ⟨ro,[]⟩ (fun v _=>v= .bool r):=by
 unfold r4 at h;refine aE.go Tryz.func79 rfl Tryz.ntmps79 Tryz.results79 ax fun main J hJ A b hd hs=>?_;have c:=hs 0;clear hs;apply ay hJ _;apply aC hJ;revert h;refine bS fun d a h=>?_;cases h;apply ag _;refine bf hJ _ (gQ u0 0 60 a) (aP ?_);try apply ag _
 apply aQ;simp only[*,go_sem]
def uO (a:(Int->Option Bool))(i9:Nat)(b:Int)(st:Int):Option (Fl Int Int):=
 ai (a b) fun c=>cond (c) (some (.rt (i9:Int))) (some (.nx st))
def uP (u0:(List Int))(a:(Int->Option Bool)):Option Int:=
 ai (bU (uO a) 0 u0 0) fun o=>aG o (fun b=>some (-1)) (fun _ _=>none) (fun r=>some r)
theorem Jf {ro:Addr->Option Value}(u0:(List Int)){s1:Value}(g:aI rI ro s1 u0)(d:(Int->Option Bool)){de:FuncId}{dN dO:Array Value}(s:aS Tryz.prog de=true/\∀(aW:Addr->Option Value),Ext ro aW->∀(i:Int) (z:Bool),d i=some z->aE Tryz.prog de (dN++#[.int .i64 i]++dO) ⟨aW,[]⟩ (fun v _=>v= .bool z)){r:Int}(h:uP u0 d=some r):aE Tryz.prog 136 #[s1,.func (.func de) dN dO] ⟨ro,[]⟩ (fun v _=>v= .int .i64 r):=by
 obtain ⟨d3,c4,rfl,M,t,-⟩:=id g;unfold uP at h;refine aE.go Tryz.func136 rfl Tryz.ntmps136 Tryz.results136 ax fun main J hJ A u hd hs=>?_;have w:=hs 0;have k1:=hs 1;clear hs;apply ay hJ _;refine ah hJ (aC hJ ?_);apply ag _;apply aV hJ;revert h;refine bS fun y b j=>?_;refine bY hJ (rg 8 11 [4,5]) (fun m k F'=>∃(i9:Nat) (c:Int),m=u0.length - i9/\i9<=u0.length/\bU (uO d) i9 (u0.drop i9) c=some y/\F'=⟨ro,[]⟩/\slot k 8= .int .i64 (i9:Int)/\slot k 4= .int .i64 c) u0.length ?_ ?_
 .refine ⟨0,0,(Nat.sub_zero _).symm,Nat.zero_le _,b,rfl,?_⟩;simp only[*,go_sem]
 rintro N O F' l ⟨i9,c,rfl,P,b,rfl,Q,R⟩;obtain ⟨B,C,D⟩:=l.pick [0,1,7] aB;simp only[*,go_sem] at B C D;clear l u hd w k1;apply ay hJ _;apply ah hJ;rcases Nat.lt_or_ge i9 u0.length with E|o
 .refine cJ hJ ?_;apply aO hJ;obtain ⟨p,e⟩:∃x,u0[i9]?=some x:=⟨_,List.getElem?_eq_getElem E⟩
  rw[dK e] at b;revert b;refine bS fun S h f=>?_;unfold uO at h;try dsimp only at h
  obtain ⟨T,F,G,H,q⟩:=g.el _ _ e;obtain rfl:F=[.int .i64 p]:=H;cases G;have I:=q 0 _ rfl;simp only[go_sem] at I;clear q e;refine ah hJ (aV hJ (ah hJ ?_));apply aF hJ _;apply aC hJ;revert h;refine bS fun U K h=>?_;apply ag _;refine bf hJ _ (s.2 _ (fun a v h=>aZ a v h) p _ K) ?_;try apply ag _
  revert h;refine aT hJ (fun L h=>?_) fun L h=>?_
  .cases h;apply ay hJ _;obtain rfl:=sI f;clear f;have h:=j;dsimp only[aG] at h;cases h;apply aQ;simp only[*,go_sem]
  cases h;apply aO hJ;have V:=cI (n:=i9) (by have:=t;omega);apply aF hJ _;refine ⟨u0.length - (i9+1),aa,_,Le.sub (List.Sublist.refl _),i9+1,c,rfl,aa,f,rfl,?_⟩;simp only[*,go_sem]
 have W:=Nat.not_lt.2 o;refine cF hJ ?_;rw[List.drop_eq_nil_of_le o] at b;obtain rfl:=sI b;clear b;have h:=j;dsimp only[aG] at h;cases h;apply bR;simp only[go_sem];apply ay hJ _;apply aQ;simp only[*,go_sem]
def r5 (u0:(List Int))(a:(Int->Option Bool)):Option Bool:=
 ai (uP u0 a) fun b=>some (decide (0<=b))
theorem Jg {ro:Addr->Option Value}(u0:(List Int)){s1:Value}(b:aI rI ro s1 u0)(a:(Int->Option Bool)){de:FuncId}{dN dO:Array Value}(c:aS Tryz.prog de=true/\∀(aW:Addr->Option Value),Ext ro aW->∀(d:Int) (z:Bool),a d=some z->aE Tryz.prog de (dN++#[.int .i64 d]++dO) ⟨aW,[]⟩ (fun v _=>v= .bool z)){r:Bool}(h:r5 u0 a=some r):aE Tryz.prog 78 #[s1,.func (.func de) dN dO] ⟨ro,[]⟩ (fun v _=>v= .bool r):=by
 obtain ⟨d3,c4,rfl,g,i,-⟩:=id b;unfold r5 at h;refine aE.go Tryz.func78 rfl Tryz.ntmps78 Tryz.results78 ax fun main J hJ A j hd hs=>?_;have k:=hs 0;have k1:=hs 1;clear hs;apply ay hJ _;apply aC hJ;revert h;refine bS fun l e h=>?_;cases h;apply ag _;refine bf hJ _ (Jf (de:=de) (dN:=dN) (dO:=dO) u0 (b.mono aZ) a ⟨c.1,fun _ f=>c.2 _ (Ext.trans aZ f)⟩ e) (aP ?_);try apply ag _
 apply aQ;simp only[*,go_sem]
def lz (u0:an)(a:(List Int))(w1:an):Option Int:=
 cond (((a.length:Int) != (w1.aH.length:Int))) (some 2) (ai (r5 a r4) fun b=>cond (b) (some 1) (some 0))
theorem Jh {ro:Addr->Option Value}(u0:an){s1 d f g:Value}(b:bO ro u0 s1 d f g)(c:(List Int)){i:Nat}{j:Value}(k:aI rI ro j c)(E:ro ⟨i,0,none⟩=some (j))(w1:an){a:Nat}(F:ro ⟨a,0,none⟩=some (.int .i64 w1.bZ))(G:ro ⟨a,1,none⟩=some (.int .i64 w1.b6))(H:ro ⟨a,2,none⟩=some (.int .i64 w1.bw.num))(I:ro ⟨a,3,none⟩=some (.int .i64 w1.bw.den)){l:Value}(q:aI fI ro l w1.aK)(K:ro ⟨a,4,none⟩=some (l)){m:Value}(s:aI eY ro m w1.props)(L:ro ⟨a,5,none⟩=some (m)){n:Value}(u:aI fq ro n w1.aH)(M:ro ⟨a,6,none⟩=some (n)){o:Value}(w:aI dL ro o w1.told)(N:ro ⟨a,7,none⟩=some (o)){r:Int}(h:lz u0 c w1=some r):aE Tryz.prog 77 #[bv u0 s1 d f g,.pointer (some ⟨i,0,none⟩),.pointer (some ⟨a,0,none⟩)] ⟨ro,[]⟩ (fun v _=>v= .int .i64 r):=by
 obtain ⟨d3,c4,rfl,O,P,-⟩:=id b.e;obtain ⟨d10,Q,rfl,R,S,-⟩:=id b.p;obtain ⟨d17,T,rfl,U,V,-⟩:=id b.y;obtain ⟨d24,W,rfl,X,Y,-⟩:=id b.t;obtain ⟨d31,Z,rfl,ab,ad,-⟩:=id k;obtain ⟨d38,ae,rfl,al,ao,-⟩:=id q;obtain ⟨d45,ar,rfl,a0,a2,-⟩:=id s;obtain ⟨d52,a3,rfl,a4,a5,-⟩:=id u;obtain ⟨d59,a6,rfl,a7,a8,-⟩:=id w;unfold lz at h;refine aE.go Tryz.func77 rfl Tryz.ntmps77 Tryz.results77 ax fun main J hJ A a9 hd hs=>?_;have ba:=hs 0;have k1:=hs 1;have bb:=hs 2;clear hs;apply ay hJ _;refine az fun bc bd x=>?_;try simp only[av] at x
 try apply ag _
 refine ah hJ (aV hJ (ah hJ ?_));apply aF hJ _;revert h;refine aT hJ (fun z h=>?_) fun z h=>?_
 .cases h;apply ay hJ _;apply aQ;simp only[*,go_sem]
 apply aC hJ;revert h;refine bS fun bj B h=>?_;apply ag _;refine bf hJ _ (Jg (de:=79) (dN:=#[]) (dO:=#[]) c (k.mono aZ) r4 ⟨by simp only[go_sem],fun bk bl C _ h=>by simp only[go_sem];exact Je C h⟩ B) (aP ?_);try apply ag _
 revert h;refine aT hJ (fun D h=>?_) fun D h=>?_
 .cases h;apply ay hJ _;apply aQ;simp only[*,go_sem]
 cases h;refine aO hJ (ah hJ ?_);apply aF hJ _;apply aQ;simp only[*,go_sem]
def pZ (a:(List Int))(b:bp)(st:(Int×Bool)):Option (Fl (Int×Bool) Unit):=
 cond (((b.e0==(a.getD 0 0))&&((b.e1==(a.getD 1 0))&&(b.e2==(a.getD 2 0))))) (some (.br 1000000000 (0,true))) (some (.nx (st.1,st.2)))
def mo (u0:an)(b:(List Int)):Option (Bool×Int):=
 ai (fo u0 ([(fun d=>lz d b u0)])) fun a=>cond ((a.2 != 0)) (some (false,a.2)) (ai (fT (pZ b) (mc a.1) (0,false)) fun o=>aG o (fun e=>some (false,0)) (fun k c=>cond (k==1000000000) (some (c.2,c.1)) (none)) (fun _=>none))
theorem Ji {ro:Addr->Option Value}(H:dM ro)(u0:an){s1 bd bj bm:Value}(i:bO ro u0 s1 bd bj bm)(d:(List Int)){bo:Value}(q:aI rI ro bo d){r:(Bool×Int)}(h:mo u0 d=some r):aE Tryz.prog 15 #[bv u0 s1 bd bj bm,bo] ⟨ro,[]⟩ (fun v _=>v= .tuple #[.bool r.1,.int .i64 r.2]):=by
 obtain ⟨d3,c4,rfl,fp,fr,-⟩:=id i.e;obtain ⟨d10,l,rfl,fs,ft,-⟩:=id i.p;obtain ⟨d17,m,rfl,fu,fv,-⟩:=id i.y;obtain ⟨d24,n,rfl,fw,fx,-⟩:=id i.t;obtain ⟨d31,ao,rfl,fz,gg,-⟩:=id q;unfold mo at h;refine aE.tE Tryz.func15 rfl Tryz.ntmps15 Tryz.results15 ax fun main J hJ A dd hd hs=>?_;have df:=hs 0;have k1:=hs 1;clear hs;apply ay hJ _;refine az fun c s dk=>?_;try simp only[av] at dk
 refine az fun u br dp=>?_;try simp only[av] at dp
 refine az fun z B dq=>?_;try simp only[av] at dq
 refine az fun C D ds=>?_;try simp only[av] at ds
 try apply ag _
 apply ah hJ;refine aD hJ fun bs=>?_;obtain ⟨ar,V,bz⟩:=fG (b:=u) (o:=(.cells #[.slice d31 d.length ao] 35)) [(C,.cells #[.int .i64 0] 32),(z,.cells #[.bool false] 4)] ((c,bk u0 (sl d3 u0.aK c4) (sl d10 u0.props l) (sl d17 u0.aH m) (sl d24 u0.told n))::[]) bs br (aJ.cons D (aJ.cons B (aJ.cons s (aJ.nil _))));clear bs;have F:b7 ro u (.cells #[.slice d31 d.length ao] 35) ⟨u,0,none⟩=some (.slice d31 d.length ao):=by rw[fF br];rfl
 generalize b7 ro u (.cells #[.slice d31 d.length ao] 35)=E at ar V bz F;refine cH hJ bz ?_;replace i:=i.mono ar;replace q:=q.mono ar;replace D:=V.hd;replace B:=V.tl.hd;replace s:=V.tl.tl.hd;replace H:=H.mono ar;simp only[bE] at V;refine aD hJ fun b0=>?_;obtain ⟨W,a0,b1⟩:=fG (b:=c) (o:=(bk u0 (sl d3 u0.aK c4) (sl d10 u0.props l) (sl d17 u0.aH m) (sl d24 u0.told n))) [(C,.cells #[.int .i64 0] 32),(z,.cells #[.bool false] 4)] ([]) b0 s (aJ.cons D (aJ.cons B (aJ.nil _)));clear b0;have M:b7 E c (bk u0 (sl d3 u0.aK c4) (sl d10 u0.props l) (sl d17 u0.aH m) (sl d24 u0.told n)) ⟨c,0,none⟩=some (.int .i64 u0.bZ):=by rw[fF s];rfl
 have N:b7 E c (bk u0 (sl d3 u0.aK c4) (sl d10 u0.props l) (sl d17 u0.aH m) (sl d24 u0.told n)) ⟨c,1,none⟩=some (.int .i64 u0.b6):=by rw[fF s];rfl
 have O:b7 E c (bk u0 (sl d3 u0.aK c4) (sl d10 u0.props l) (sl d17 u0.aH m) (sl d24 u0.told n)) ⟨c,2,none⟩=some (.int .i64 u0.bw.num):=by rw[fF s];rfl
 have P:b7 E c (bk u0 (sl d3 u0.aK c4) (sl d10 u0.props l) (sl d17 u0.aH m) (sl d24 u0.told n)) ⟨c,3,none⟩=some (.int .i64 u0.bw.den):=by rw[fF s];rfl
 have Q:b7 E c (bk u0 (sl d3 u0.aK c4) (sl d10 u0.props l) (sl d17 u0.aH m) (sl d24 u0.told n)) ⟨c,4,none⟩=some (.slice d3 u0.aK.length c4):=by rw[fF s];rfl
 have R:b7 E c (bk u0 (sl d3 u0.aK c4) (sl d10 u0.props l) (sl d17 u0.aH m) (sl d24 u0.told n)) ⟨c,5,none⟩=some (.slice d10 u0.props.length l):=by rw[fF s];rfl
 have S:b7 E c (bk u0 (sl d3 u0.aK c4) (sl d10 u0.props l) (sl d17 u0.aH m) (sl d24 u0.told n)) ⟨c,6,none⟩=some (.slice d17 u0.aH.length m):=by rw[fF s];rfl
 have T:b7 E c (bk u0 (sl d3 u0.aK c4) (sl d10 u0.props l) (sl d17 u0.aH m) (sl d24 u0.told n)) ⟨c,7,none⟩=some (.slice d24 u0.told.length n):=by rw[fF s];rfl
 generalize b7 E c (bk u0 (sl d3 u0.aK c4) (sl d10 u0.props l) (sl d17 u0.aH m) (sl d24 u0.told n))=b2 at W a0 b1 M N O P Q R S T;refine cH hJ b1 ?_;replace i:=i.mono W;replace q:=q.mono W;replace D:=a0.hd;replace B:=a0.tl.hd;replace H:=H.mono W;simp only[bE] at a0;replace F:=W _ _ F;refine aD hJ fun dt=>?_;apply aR hJ;revert h;refine bS fun a du h=>?_;apply ag _;refine az fun X b3 b4=>?_;have b5:=bh.cons b4 dt;try simp only[av] at b4
 try apply ag _
 obtain ⟨k,a2,ca⟩:=fG (b:=X) (o:=(.cells #[.func (.func 77) #[] #[.pointer (some ⟨u,0,none⟩),.pointer (some ⟨c,0,none⟩)]] 116)) [] ((C,.cells #[.int .i64 0] 32)::(z,.cells #[.bool false] 4)::[]) b5 b3 (aJ.cons D (aJ.cons B (aJ.nil _)));have cb:aI (dx) (b7 b2 X (.cells #[.func (.func 77) #[] #[.pointer (some ⟨u,0,none⟩),.pointer (some ⟨c,0,none⟩)]] 116)) (.slice (some ⟨X,0,none⟩) 1 1) [(fun I=>lz I d u0)]:=(aI.one (r:=(dx)) (e:=116) (cs:=#[.func (.func 77) #[] #[.pointer (some ⟨u,0,none⟩),.pointer (some ⟨c,0,none⟩)]]) (x:=(fun I=>lz I d u0)) (own:=[(X,.cells #[.func (.func 77) #[] #[.pointer (some ⟨u,0,none⟩),.pointer (some ⟨c,0,none⟩)]] 116)]) b3 (by simp[lk]) ⟨77,#[],#[.pointer (some ⟨u,0,none⟩),.pointer (some ⟨c,0,none⟩)],rfl,⟨by simp only[go_sem],fun gl j I _ _ _ _ gn dv dC dE dT ea=>by simp only[go_sem];exact Jh I ⟨dv,dC,dE,dT⟩ d (q.mono j) (j _ _ F) u0 (j _ _ M) (j _ _ N) (j _ _ O) (j _ _ P) (i.e.mono j) (j _ _ Q) (i.p.mono j) (j _ _ R) (i.y.mono j) (j _ _ S) (i.t.mono j) (j _ _ T) ea⟩⟩)
 generalize b7 b2 X (.cells #[.func (.func 77) #[] #[.pointer (some ⟨u,0,none⟩),.pointer (some ⟨c,0,none⟩)]] 116)=gp at cb a2 k ca;refine ie hJ ca ?_;replace i:=i.mono k;replace q:=q.mono k;replace D:=a2.hd;replace B:=a2.tl.hd;replace H:=H.mono k;simp only[bE] at a2;replace F:=k _ _ F;replace M:=k _ _ M;replace N:=k _ _ N;replace O:=k _ _ O;replace P:=k _ _ P;replace Q:=k _ _ Q;replace R:=k _ _ R;replace S:=k _ _ S;replace T:=k _ _ T;have eb:=bh.tl b5;refine cm hJ _ (ki H u0 i ([(fun I=>lz I d u0)]) cb du) fun v a5 w a6 ec=>?_;obtain ⟨gB,gC,gM,gT,rfl,G⟩:=ec;replace q:=q.mono w;replace D:=a6.hd;replace B:=a6.tl.hd;simp only[bE] at a6;replace F:=w _ _ F;replace M:=w _ _ M;replace N:=w _ _ N;replace O:=w _ _ O;replace P:=w _ _ P;replace Q:=w _ _ Q;replace R:=w _ _ R;replace S:=w _ _ S;replace T:=w _ _ T;obtain ⟨d70,Y,rfl,gV,g0,-⟩:=id G.e;obtain ⟨d77,Z,rfl,g1,g2,-⟩:=id G.p;obtain ⟨d84,ab,rfl,g3,g4,-⟩:=id G.y;obtain ⟨d91,ad,rfl,ha,hc,-⟩:=id G.t;apply aP;try apply ag _
 refine az fun ae cd cf=>?_;have ed:=bh.cons cf eb;try simp only[av] at cf
 try apply ag _
 refine ah hJ (aC hJ ?_);apply ag _;revert h;refine aT hJ (fun eh h=>?_) fun eh h=>?_
 .cases h;apply ay hJ _;refine aD hJ fun a7=>?_;replace a7:=a7.nd;try simp only[keys,List.map_cons,List.map_nil,List.map_append,List.cons_append,List.nil_append,List.nodup_cons,List.mem_cons,List.mem_append,List.not_mem_nil,or_false,not_or] at a7
  apply aQ;simp only[*,go_sem]
 refine aO hJ (ah hJ ?_);apply aF hJ _;refine az fun a3 cl cy=>?_;have hf:=bh.cons cy ed;try simp only[av] at cy
 try apply ag _
 apply ah hJ;refine ef hJ mixed 2 ⟨a5,[(ae,bl a.1 (sl d70 a.1.aK Y) (sl d77 a.1.props Z) (sl d84 a.1.aH ab) (sl d91 a.1.told ad)),(C,.cells #[.int .i64 0] 32),(z,.cells #[.bool false] 4)]⟩ aM aj ?_;apply ag _;refine Jd (e:=3) (pre:=[]) (bC:=(ae,bl a.1 (sl d70 a.1.aK Y) (sl d77 a.1.props Z) (sl d84 a.1.aH ab) (sl d91 a.1.told ad))::(C,.cells #[.int .i64 0] 32)::(z,.cells #[.bool false] 4)::[]) rfl aj aj q (by simp only[av,keys,List.map_nil,List.not_mem_nil,not_false_eq_true]) ?_;refine ⟨by simp only[List.nil_append,go_sem, *],?_⟩;try apply ag _
 refine ah hJ (aC hJ ?_);apply ag _;revert h;refine bS fun hg et a8=>?_;refine tD hJ bp.v aM (rA a.1 G.e G.p G.y G.t) aj aj (ρ:=Unit) (fun (c0:(Int×Bool)) ev=>ev=(a3,.cells #[.int .i64 (d.getD 0 0),.int .i64 (d.getD 1 0),.int .i64 (d.getD 2 0)] 133)::(ae,bl a.1 (sl d70 a.1.aK Y) (sl d77 a.1.props Z) (sl d84 a.1.aH ab) (sl d91 a.1.told ad))::(C,.cells #[.int .i64 c0.1] 32)::(z,.cells #[.bool c0.2] 4)::[]) (f:=pZ d) et ?_ ?_ aB ?_ ?_
 .exact rfl
 .rintro d110 eQ a4 eS ⟨a9,ba⟩ bb hh h main J hJ _ rfl;unfold pZ at h;try dsimp only at h
  generalize K:l7 _ _ _=U;have hi:sz U=29:=by rw[<-K,tC];simp only[*,go_sem]
  have hj:U.defers=[]:=by rw[<-K];rfl
  have hk:slot U 4= .pointer (some ⟨z,0,none⟩):=by rw[<-K,j4];simp only[*,go_sem]
  have hl:slot U 5= .pointer (some ⟨C,0,none⟩):=by rw[<-K,j4];simp only[*,go_sem]
  have hn:slot U 8= .pointer (some ⟨a3,0,none⟩):=by rw[<-K,j4];simp only[*,go_sem]
  have ho:slot U 25= .agg #[.int .i64 bb.e0,.int .i64 bb.e1,.int .i64 bb.e2]:=by rw[<-K,j4];simp only[*,go_sem]
  clear K dd hd df k1;refine fH hJ fun L g=>?_;replace g:aJ a5 ((eQ,.loop a4)::(d110,.deferred (some []))::(a3,.cells #[.int .i64 (d.getD 0 0),.int .i64 (d.getD 1 0),.int .i64 (d.getD 2 0)] 133)::(ae,bl a.1 (sl d70 a.1.aK Y) (sl d77 a.1.props Z) (sl d84 a.1.aH ab) (sl d91 a.1.told ad))::(C,.cells #[.int .i64 a9] 32)::(z,.cells #[.bool ba] 4)::[]):=g;have hp:=g.hd;have hq:=g.tl.hd;have cl:=g.tl.tl.hd;have cd:=g.tl.tl.tl.hd;have D:=g.tl.tl.tl.tl.hd;have B:=g.tl.tl.tl.tl.tl.hd;clear g;replace L:=L.nd;simp only[keys,List.map_cons,List.map_nil,List.map_append,List.cons_append,List.nil_append,List.nodup_cons,List.mem_cons,List.mem_append,List.not_mem_nil,or_false,not_or] at L;apply aF hJ _;refine az fun hr ht e3=>?_;try simp only[av] at e3
  try apply ag _
  simp only[oR,go_sem];refine ⟨a4,aM,eS,?_⟩;try apply ag _
  refine aV hJ (ah hJ ?_);apply aF hJ _;revert h;refine aT hJ (fun fa h=>?_) fun fa h=>?_
  .cases h;apply ay hJ _;apply aQ;simp only[oQ,kX,go_sem];refine ⟨{a4 with state:=.busy},aM,?_⟩;apply ag _;refine ⟨_,Le.sub (List.Sublist.cons _ (List.Sublist.refl _)),rfl,rfl⟩
  cases h;apply aO hJ;simp only[oQ,kX,go_sem];refine ⟨{a4 with state:=.busy},aM,?_⟩;apply ag _;refine ⟨_,Le.sub (List.Sublist.cons _ (List.Sublist.refl _)),rfl,rfl⟩
 .rintro fb fg fi _ ⟨a9,ba⟩ rfl L g;replace g:aJ a5 ((fg,.loop fi)::(fb,.deferred (some []))::(a3,.cells #[.int .i64 (d.getD 0 0),.int .i64 (d.getD 1 0),.int .i64 (d.getD 2 0)] 133)::(ae,bl a.1 (sl d70 a.1.aK Y) (sl d77 a.1.props Z) (sl d84 a.1.aH ab) (sl d91 a.1.told ad))::(C,.cells #[.int .i64 a9] 32)::(z,.cells #[.bool ba] 4)::[]):=g;have hv:=g.hd;have hx:=g.tl.hd;have cl:=g.tl.tl.hd;have cd:=g.tl.tl.tl.hd;have D:=g.tl.tl.tl.tl.hd;have B:=g.tl.tl.tl.tl.tl.hd;clear g;replace L:=L.nd;simp only[keys,List.map_cons,List.map_nil,List.map_append,List.cons_append,List.nil_append,List.nodup_cons,List.mem_cons,List.mem_append,List.not_mem_nil,or_false,not_or] at L;refine ⟨fun al=>?_,fun k1 al=>?_⟩
  .subst al;have h:=a8;dsimp only[aG] at h;cases h;apply ay hJ _;refine aD hJ fun bc=>?_;replace bc:=bc.nd;(try simp only[keys,List.map_cons,List.map_nil,List.map_append,List.cons_append,List.nil_append,List.nodup_cons,List.mem_cons,List.mem_append,List.not_mem_nil,or_false,not_or] at bc);apply aQ;simp only[*,go_sem]
  subst al;have h:=a8;dsimp only[aG] at h;revert h;refine cS (fun da h=>?_) fun da h=>?_
  .cases h;obtain rfl:k1=1000000000:=by simpa using da
   unfold tB;rw[if_pos (show (1000000000:Nat)=qX from rfl)];simp only[*,go_sem]
  cases h
 intro k1 hy al;subst al;have h:=a8;dsimp only[aG] at h;revert h;refine cS (fun db h=>?_) fun db h=>?_
 .obtain rfl:k1=1000000000:=by simpa using db
  decide
 cases h
def ek {α:Type}(t:Nat->α->Option Int):Nat->List α->Option Int
 |_,[]=>none
 |i,x::l=>match t i x with
  |some r=>some r
  |none=>ek t (i+1) l
def iK {σ:Type}(o:Option Int)(s:σ):Fl σ Int:=match o with
 |some r=>.rt r
 |none=>.nx s
theorem r6 {α σ:Type}{f:Nat->α->σ->Option (Fl σ Int)}{t:Nat->α->Option Int}:∀(l:List α) (i:Nat) (s:σ),(∀j x s,l[j]?=some x->f (i+j) x s=some (iK (t (i+j) x) s))->bU f i l s=some (iK (ek t i l) s)
 |[],i,s,_=>rfl
 |x::l,i,s,h=>by
  have a:=h 0 x s rfl
  simp only[Nat.add_zero] at a
  unfold bU ek
  rw[a]
  cases ht:t i x with
  |some r=>rfl
  |none=>
   show bU f (i+1) l s=_
   exact r6 l (i+1) s fun j y s b=>by
    have:=h (j+1) y s (by simpa using b)
    rwa [show i+(j+1)=i+1+j by omega] at this
theorem CA {α σ:Type}{f:σ×Int->Option (Fl (σ×Int) Int)}{t:Nat->α->Option Int}(l:List α)(h:∀(i:Nat) x s,l[i]?=some x->f (s,(i:Int))=some (iK (t i x) (s,((i+1:Nat):Int))))(a:∀s,f (s,(l.length:Int))=some (.bk (s,(l.length:Int)))):
  ∀(k i n:Nat) (s:σ),i+k=l.length->k<n->aY f n (s,(i:Int))=some (iK (ek t i (l.drop i)) (s,(l.length:Int)))
 |0,i,n+1,s,hi,_=>by
  obtain rfl:i=l.length:=aa
  unfold aY
  rw[a,List.drop_length]
  rfl
 |k+1,i,n+1,s,hi,d=>by
  have b:i<l.length:=aa
  have c:l[i]?=some l[i]:=List.getElem?_eq_getElem b
  unfold aY
  rw[h i _ s c,List.drop_eq_getElem_cons b]
  unfold ek
  cases ht:t i l[i] with
  |some r=>rfl
  |none=>exact CA l h a k (i+1) n s aa aa
theorem uQ {α σ:Type}{f:σ×Int->Option (Fl (σ×Int) Int)}{t:Nat->α->Option Int}(l:List α)(a:l.length<=1000)(h:∀(i:Nat) x s,l[i]?=some x->f (s,(i:Int))=some (iK (t i x) (s,((i+1:Nat):Int))))(b:∀s,f (s,(l.length:Int))=some (.bk (s,(l.length:Int))))(s:σ):
  aY f fu (s,0)=some (iK (ek t 0 l) (s,(l.length:Int))):=by
 have:=CA l h b l.length 0 fu s aa (Nat.lt_of_le_of_lt a aB)
 simpa using this
theorem kC:fU=fc:=rfl
theorem Jj:q3=nJ:=rfl
def bX (a lo hi:Int):Bool:=decide (lo<=a)&&decide (a<=hi)
theorem fA (a lo hi:Int):fc a lo hi=some (bX a lo hi):=by
 unfold fc bX;cases decide (lo<=a)<;>rfl
def mq (b:dI)(lo hi:Int):Bool:=decide (lo<=b.low)&&(decide (b.low<=b.high)&&decide (b.high<=hi))
theorem CB (b:dI)(lo hi:Int):nJ b lo hi=some (mq b lo hi):=by
 unfold nJ mq;cases decide (lo<=b.low)<;>cases decide (b.low<=b.high)<;>rfl
theorem dj {n:Int}(h: -9223372036854775808<=n/\n<9223372036854775808):IntKind.i64.wrap n=n:=IntWalk.i64_in _ (by constructor<;>omega)
def iu (u:an)(i:Nat)(x:cx):Option Int:=
 cond (bX x.aX 0 (IntKind.i64.wrap (u.bZ - 1))) (cond (bX x.high 0 60) (match i with
  |0=>none
  |j+1=>match u.aK[j]? with
   |some y=>cond (decide (x.aX<=y.aX)) (some 7) none
   |none=>none) (some 1)) (some 1)
theorem CC (u:an)(g:u.aK.length<=20):l9 u=some (cond (bX u.aK.length 2 5) ((ek (iu u) 0 u.aK).getD 0) 2)/\nS u=l9 u:=by
 have key:l9 u=some (cond (bX u.aK.length 2 5) ((ek (iu u) 0 u.aK).getD 0) 2):=by
  unfold l9;rw[kC,fA];show cond (!bX (u.aK.length:Int) 2 5) _ _=_;cases bX (u.aK.length:Int) 2 5 with
  |false=>rfl
  |true=>
   show ai (bU _ 0 u.aK 0) _=_;rw[r6 (t:=iu u) u.aK 0 0 ?_]
   .show aG (iK _ _) _ _ _=_;cases ek (iu u) 0 u.aK<;>rfl
   .intro j x s b;rw[Nat.zero_add];unfold tS iu;rw[kC,fA,fA];show cond (!bX x.aX 0 _) _ _=_;cases bX x.aX 0 (IntKind.i64.wrap (u.bZ - 1)) with
    |false=>rfl
    |true=>
     show cond (!bX x.high 0 60) _ _=_;cases bX x.high 0 60 with
     |false=>rfl
     |true=>
      cases j with
      |zero=>rfl
      |succ j=>
       have d:=(List.getElem?_eq_some_iff.1 b).1;have a:u.aK[j]?=some u.aK[j]:=List.getElem?_eq_getElem aa;have hw:IntKind.i64.wrap (((j+1:Nat):Int) - 1)=(j:Int):=by rw[dj aa];omega
       have hd:decide (0<((j+1:Nat):Int))=true:=decide_eq_true aa;show cond (decide (0<((j+1:Nat):Int))) _ _=_;rw[hd,hw];have hi:bt u.aK (j:Int)=some u.aK[j]:=by unfold bt;rw[if_pos aa,Int.toNat_natCast,a]
       show ai (bt u.aK (j:Int)) _=_;rw[hi];simp only[a];show cond (decide (x.aX<=u.aK[j].aX)) _ _=_;cases decide (x.aX<=u.aK[j].aX)<;>rfl
 refine ⟨key,?_⟩;rw[key];unfold nS;rw[fA];show cond (!bX (u.aK.length:Int) 2 5) _ _=_;cases bX (u.aK.length:Int) 2 5 with
 |false=>rfl
 |true=>
  show ai (aY _ fu (0,0)) _=_;rw[uQ (t:=iu u) u.aK aa ?_ ?_ 0]
  .show aG (iK _ _) _ _ _=_;cases ek (iu u) 0 u.aK<;>rfl
  .intro j x s b;unfold rP iu;have d:=(List.getElem?_eq_some_iff.1 b).1;have c:decide ((j:Int)<(u.aK.length:Int))=true:=decide_eq_true aa;have e:bt u.aK (j:Int)=some x:=by unfold bt;rw[if_pos aa,Int.toNat_natCast,b]
   have f:IntKind.i64.wrap ((j:Int)+1)=((j+1:Nat):Int):=by rw[dj aa];omega
   show cond (decide ((j:Int)<(u.aK.length:Int))) (ai (bt u.aK (j:Int)) _) _=_;rw[c,e,cond_true];show ai (fc x.aX 0 (IntKind.i64.wrap (u.bZ - 1))) _=_;rw[fA];show cond (!bX x.aX 0 _) _ (ai (fc x.high 0 60) _)=_;rw[fA];cases bX x.aX 0 (IntKind.i64.wrap (u.bZ - 1)) with
   |false=>rfl
   |true=>
    show cond (!bX x.high 0 60) _ _=_;cases bX x.high 0 60 with
    |false=>rfl
    |true=>
     cases j with
     |zero=>rfl
     |succ j=>
      have a:u.aK[j]?=some u.aK[j]:=List.getElem?_eq_getElem aa;have hw:IntKind.i64.wrap (((j+1:Nat):Int) - 1)=(j:Int):=by rw[dj aa];omega
      have hd:decide (0<((j+1:Nat):Int))=true:=decide_eq_true aa;have hi:bt u.aK (j:Int)=some u.aK[j]:=by unfold bt;rw[if_pos aa,Int.toNat_natCast,a]
      dsimp only;simp only[hd,hw,hi,f,a,ai,cond_true,Bool.not_true,cond_false];cases decide (x.aX<=u.aK[j].aX)<;>rfl
  .intro s;unfold rP;have c:decide ((u.aK.length:Int)<(u.aK.length:Int))=false:=decide_eq_false aa;show cond (decide ((u.aK.length:Int)<(u.aK.length:Int))) _ _=_;rw[c];rfl
theorem CD {ρ:Type}{f:Int×Int->Option (Fl (Int×Int) ρ)}(d:∀a b:Nat,a<9223372036854775808->b<9223372036854775808->b≠0->f ((a:Int),(b:Int))=some (.nx ((b:Int),((a % b:Nat):Int))))(e:∀a:Nat,f ((a:Int),0)=some (.bk ((a:Int),0))):
  ∀(b a k:Nat),a<9223372036854775808->b<9223372036854775808->b<k->aY f k ((a:Int),(b:Int))=some (.nx (((Nat.gcd a b:Nat):Int),0)):=by
 intro b
 induction b using Nat.strongRecOn with
 |ind b ih=>
  intro a k g hb h
  obtain ⟨k,rfl⟩:∃m,k=m+1:=⟨k - 1,aa⟩
  unfold aY
  by_cases c:b=0
  .subst c
   have:=e a
   rw[show ((0:Nat):Int)=0 from rfl,this,Nat.gcd_zero_right]
   rfl
  .rw[d a b g hb c]
   show aY f k ((b:Int),((a % b:Nat):Int))=_
   have hm:a % b<b:=Nat.mod_lt _ aa
   rw[ih (a % b) hm b k hb aa aa,Nat.gcd_comm a b,Nat.gcd_rec b a,Nat.gcd_comm]
theorem CE (a b:Nat)(d:a<9223372036854775808)(hb:b<9223372036854775808)(h:b≠0):m7 (a:Int) (b:Int)=some ((a % b:Nat):Int):=by
 unfold m7;have c:¬(b:Int)=0:=aa;rw[if_neg c];have e:((a:Int).tmod (b:Int))=((a % b:Nat):Int):=by
  rw[Int.tmod_eq_emod_of_nonneg aa];rfl
 rw[e]
theorem Jk (a k:Nat)(b:Nat)(c:a<9223372036854775808)(hb:b<9223372036854775808)(d:b<k):aY q4 k ((a:Int),(b:Int))=some (.nx (((Nat.gcd a b:Nat):Int),0)):=by
 refine CD (fun a b c hb e=>?_) (fun a=>rfl) b a k c hb d;unfold q4;have:(((b:Nat):Int) != 0)=true:=by simp;omega
 dsimp only;rw[this,CE a b c hb e];rfl
theorem Jl (a k:Nat)(b:Nat)(c:a<9223372036854775808)(hb:b<9223372036854775808)(d:b<k):aY pH k ((a:Int),(b:Int))=some (.nx (((Nat.gcd a b:Nat):Int),0)):=by
 refine CD (fun a b c hb e=>?_) (fun a=>rfl) b a k c hb d;unfold pH;have:decide (0<((b:Nat):Int))=true:=decide_eq_true aa;dsimp only;rw[this,CE a b c hb e];rfl
def bP (n:Int)(d:Nat):au:=⟨n.tdiv (Nat.gcd n.natAbs d:Nat),(d:Int).tdiv (Nat.gcd n.natAbs d:Nat)⟩
theorem uR (a b:Int)(hb:0<b)(c: -9000000000000000000<=a/\a<=9000000000000000000):gm a b=some (a.tdiv b):=by
 unfold gm;rw[if_neg aa];congr 1;have d:(a.tdiv b).natAbs<=a.natAbs:=by rw[Int.natAbs_tdiv];exact Nat.div_le_self _ _
 exact dj aa
theorem CF (n:Int)(h: -9000000000000000000<=n/\n<=9000000000000000000):(if n<IntKind.i64.wrap (0 - n) then IntKind.i64.wrap (0 - n) else n)=(n.natAbs:Int):=by
 rw[dj aa];split<;>omega
theorem r7 (n:Int)(d:Nat)(a: -9000000000000000000<=n/\n<=9000000000000000000)(hd:0<d)(b:d<900000000000000000):k3 n d=some (bP n d):=by
 unfold k3;rw[CF n a,Jk n.natAbs fu d aa aa (Nat.lt_trans b aB)];have hg:0<Nat.gcd n.natAbs d:=Nat.gcd_pos_of_pos_right _ hd;show ai (gm n _) (fun x=>ai (gm d _) fun y=>_)=_;rw[uR n _ aa a,uR d _ aa aa];rfl
theorem r8 (n:Int)(d:Nat)(a: -9000000000000000000<=n/\n<=9000000000000000000)(hd:0<d)(b:d<900000000000000000):iY n d=some (bP n d):=by
 unfold iY;have:decide ((d:Int)<0)=false:=decide_eq_false aa;rw[this];show ai (aY pH fu _) _=_;rw[CF n a,Jl n.natAbs fu d aa aa (Nat.lt_trans b aB)];have hg:0<Nat.gcd n.natAbs d:=Nat.gcd_pos_of_pos_right _ hd;show ai (gm n _) (fun x=>ai (gm d _) fun y=>_)=_;rw[uR n _ aa a,uR d _ aa aa];rfl
def jb (u:an)(f:Int->Bool)(_:Nat)(x:cK):Option Int:=cond (f x.place) (cond (bX x.dV 1 20) none (some 1)) (some 6)
def jc (_:Nat)(x:cu):Option Int:=cond (bX x.back 1 20) (cond (mq x.high 0 60) (cond (decide (3<=IntKind.i64.wrap (x.high.high - x.high.low))) (some 1) none) (some 1)) (some 1)
def gY (u:an)(i:Int):Bool:=bX i 0 (IntKind.i64.wrap ((u.aH.length:Int) - 1))
def kD (u:an)(_:Nat)(x:cn):Option Int:=cond (gY u x.bA) none (some 6)
theorem uS (u:an)(i:Int):nG u i=some (gY u i)/\oU u i=some (gY u i):=by
 constructor
 .unfold nG;rw[fA];rfl
 .unfold oU;rw[kC,fA];rfl
theorem Jm (u:an)(h:Int):iI h u=some (cond (bX h 1 20) 0 1):=by
 unfold iI;rw[kC,fA];show cond (!bX h 1 20) _ _=_;cases bX h 1 20<;>rfl
theorem CG (u:an)(h:0<u.aK.length)(c:u.aK.length<=20):∃f:Int->Bool,∀p,gR u p=some (f p)/\nF u p=some (f p):=by
 have a:u.aK[0]?=some u.aK[0]:=List.getElem?_eq_getElem h;have b:u.aK[u.aK.length - 1]?=some (u.aK[u.aK.length - 1]'aa):=List.getElem?_eq_getElem _;have hw:IntKind.i64.wrap ((u.aK.length:Int) - 1)=((u.aK.length - 1:Nat):Int):=by rw[dj aa];omega
 have e0:bt u.aK 0=some u.aK[0]:=a;have e1:bt u.aK ((u.aK.length - 1:Nat):Int)=some (u.aK[u.aK.length - 1]'aa):=by unfold bt;rw[if_pos aa,Int.toNat_natCast,b]
 refine ⟨fun p=>bX p (u.aK[0]).aX (u.aK[u.aK.length - 1]'aa).aX,fun p=>?_⟩;have k:gR u p=some (bX p (u.aK[0]).aX (u.aK[u.aK.length - 1]'aa).aX):=by
  unfold gR;rw[hw,e0,e1,kC];simp only[ai,fA]
 exact ⟨k,k⟩
def gV (u:an):Int:=cond (bX u.bZ 2 60) (cond (bX u.b6 0 60) (cond (bX u.bw.den 1 20) (cond (bX u.bw.num 0 20) (cond (((bP u.bw.num u.bw.den.toNat).num==u.bw.num)&&((bP u.bw.num u.bw.den.toNat).den==u.bw.den)) 0 3) 1) 1) 1) 1
theorem gv {a lo hi:Int}:bX a lo hi=true↔lo<=a/\a<=hi:=by unfold bX;simp
theorem CH (u:an):oX u=some (gV u):=by
 unfold oX gV;rw[kC];simp only[fA,ai];cases c:bX u.bZ 2 60 with
 |false=>rfl
 |true=>
  cases d:bX u.b6 0 60 with
  |false=>rfl
  |true=>
   cases a:bX u.bw.den 1 20 with
   |false=>rfl
   |true=>
    cases b:bX u.bw.num 0 20 with
    |false=>rfl
    |true=>
     rw[gv] at a b;have hd:u.bw.den=(u.bw.den.toNat:Int):=aa;have:=r7 u.bw.num u.bw.den.toNat aa aa aa;rw[<-hd] at this;simp only[this,cond_true,Bool.not_true,cond_false];cases (((bP u.bw.num u.bw.den.toNat).num==u.bw.num)&&((bP u.bw.num u.bw.den.toNat).den==u.bw.den))<;>rfl
theorem Jn (u:an):ja u=cond (gV u != 0) (some (gV u)) (ai (nS u) fun x=>cond (x != 0) (some x) (nU u)):=by
 unfold ja gV;simp only[fA,ai];cases c:bX u.bZ 2 60 with
 |false=>rfl
 |true=>
  cases d:bX u.b6 0 60 with
  |false=>rfl
  |true=>
   cases a:bX u.bw.den 1 20 with
   |false=>rfl
   |true=>
    cases b:bX u.bw.num 0 20 with
    |false=>rfl
    |true=>
     rw[gv] at a b;have hd:u.bw.den=(u.bw.den.toNat:Int):=aa;have:=r8 u.bw.num u.bw.den.toNat aa aa aa;rw[<-hd] at this;simp only[this,cond_true,Bool.not_true,cond_false];cases (((bP u.bw.num u.bw.den.toNat).num==u.bw.num)&&((bP u.bw.num u.bw.den.toNat).den==u.bw.den)) with
     |false=>rfl
     |true=>
      simp only[Bool.not_true,cond_false,cond_true,bne_self_eq_false];cases nS u with
      |none=>rfl
      |some x=>
       dsimp only;cases nU u<;>rfl
theorem yN (u:an):nk u=some (cond (decide (3<(u.told.length:Int))) 2 ((ek (kD u) 0 u.told).getD 0)):=by
 unfold nk;cases decide (3<(u.told.length:Int)) with
 |true=>rfl
 |false=>
  show ai (bU _ 0 u.told 0) _=_;rw[r6 (t:=kD u) u.told 0 0 ?_]
  .show aG (iK _ _) _ _ _=_;cases ek (kD u) 0 u.told<;>rfl
  .intro j x s a;unfold tP kD;simp only[uS,ai];cases gY u x.bA<;>rfl
theorem yO (u:an):nq u=some (cond (bX u.aH.length 1 3) ((ek jc 0 u.aH).getD 0) 2):=by
 unfold nq;rw[kC,fA];simp only[ai];cases bX (u.aH.length:Int) 1 3 with
 |false=>rfl
 |true=>
  simp only[Bool.not_true,cond_false,cond_true];rw[r6 (t:=jc) u.aH 0 0 ?_]
  .show aG (iK _ _) _ _ _=_;cases ek jc 0 u.aH<;>rfl
  .intro j x s a;unfold tQ jc;simp only[kC,Jj,fA,CB,ai];cases bX x.back 1 20 with
   |false=>rfl
   |true=>
    cases mq x.high 0 60 with
    |false=>rfl
    |true=>
     simp only[Bool.not_true,cond_false,cond_true];cases decide (3<=IntKind.i64.wrap (x.high.high - x.high.low))<;>rfl
theorem yP (u:an)(f:Int->Bool)(a:∀p,gR u p=some (f p)/\nF u p=some (f p)):nt u=some (cond (decide (3<(u.props.length:Int))) 2 ((ek (jb u f) 0 u.props).getD 0)):=by
 unfold nt;cases decide (3<(u.props.length:Int)) with
 |true=>rfl
 |false=>
  show ai (bU _ 0 u.props 0) _=_;rw[r6 (t:=jb u f) u.props 0 0 ?_]
  .show aG (iK _ _) _ _ _=_;cases ek (jb u f) 0 u.props<;>rfl
  .intro j x s b;unfold tR jb;simp only[(a x.place).1,Jm,ai];cases f x.place with
   |false=>rfl
   |true=>
    cases bX x.dV 1 20<;>rfl
theorem oa {α:Type}{t:Nat->α->Option Int}(h:∀i x r,t i x=some r->r≠0):∀(l:List α) (i:Nat) (r:Int),ek t i l=some r->r≠0
 |[],i,r,e=>by cases e
 |x::l,i,r,e=>by
  unfold ek at e
  cases ht:t i x with
  |some a=>rw[ht] at e;cases e;exact h i x _ ht
  |none=>rw[ht] at e;exact oa h l (i+1) r e
theorem CI (u:an)(f:Int->Bool)(i:Nat)(x:cK)(r:Int)(h:jb u f i x=some r):r≠0:=by
 unfold jb at h;revert h;cases f x.place<;>cases bX x.dV 1 20<;>intro h<;>cases h<;>decide
theorem CJ (i:Nat)(x:cu)(r:Int)(h:jc i x=some r):r≠0:=by
 unfold jc at h;revert h;cases bX x.back 1 20<;>cases mq x.high 0 60<;>cases decide (3<=IntKind.i64.wrap (x.high.high - x.high.low))<;>intro h<;>cases h<;>decide
theorem Jo (u:an)(i:Nat)(x:cn)(r:Int)(h:kD u i x=some r):r≠0:=by
 unfold kD at h;revert h;cases gY u x.bA<;>intro h<;>cases h<;>decide
theorem CK {o:Option Int}(h:∀r,o=some r->r≠0):(o.getD 0 != 0)=o.isSome:=by
 cases o with
 |none=>rfl
 |some r=>simpa using h r rfl
theorem Jp (u:an)(f:Int->Bool)(e:∀p,gR u p=some (f p)/\nF u p=some (f p))(h:u.props.length<=20)(i:u.aH.length<=20)(k:u.told.length<=20):
  nU u=ai (nt u) fun x=>cond (x != 0) (some x) (ai (nq u) fun y=>cond (y != 0) (some y) (nk u)):=by
 rw[yP u f e,yO,yN]
 unfold nU
 simp only[ai]
 cases l:decide (3<(u.props.length:Int)) with
 |true=>rfl
 |false=>
  simp only[cond_false]
  rw[uQ (t:=jb u f) u.props aa ?_ ?_ 0]
  .rw[CK (oa (CI u f) u.props 0)]
   cases ek (jb u f) 0 u.props with
   |some r=>rfl
   |none=>
    simp only[iK,aG,Option.isSome_none,cond_false,fA]
    cases m:bX (u.aH.length:Int) 1 3 with
    |false=>rfl
    |true=>
     simp only[Bool.not_true,cond_false,cond_true]
     rw[uQ (t:=jc) u.aH aa ?_ ?_ 0]
     .rw[CK (oa CJ u.aH 0)]
      cases ek jc 0 u.aH with
      |some r=>rfl
      |none=>
       simp only[iK,aG,Option.isSome_none,cond_false]
       cases n:decide (3<(u.told.length:Int)) with
       |true=>rfl
       |false=>
        simp only[cond_false]
        rw[uQ (t:=kD u) u.told aa ?_ ?_ 0]
        .cases ek (kD u) 0 u.told<;>rfl
        .intro j x s b
         have g:=(List.getElem?_eq_some_iff.1 b).1
         have a:decide ((j:Int)<(u.told.length:Int))=true:=decide_eq_true aa
         have c:bt u.told (j:Int)=some x:=by unfold bt;rw[if_pos aa,Int.toNat_natCast,b]
         have d:IntKind.i64.wrap ((j:Int)+1)=((j+1:Nat):Int):=by rw[dj aa];omega
         unfold yJ kD
         simp only[a,c,d,ai,uS,cond_true]
         cases gY u x.bA<;>rfl
        .intro s
         have a:decide ((u.told.length:Int)<(u.told.length:Int))=false:=decide_eq_false aa
         unfold yJ
         simp only[a,cond_false]
     .intro j x s b
      have g:=(List.getElem?_eq_some_iff.1 b).1
      have a:decide ((j:Int)<(u.aH.length:Int))=true:=decide_eq_true aa
      have c:bt u.aH (j:Int)=some x:=by unfold bt;rw[if_pos aa,Int.toNat_natCast,b]
      have d:IntKind.i64.wrap ((j:Int)+1)=((j+1:Nat):Int):=by rw[dj aa];omega
      unfold yI jc
      simp only[a,c,d,ai,fA,CB,cond_true]
      cases bX x.back 1 20<;>cases mq x.high 0 60<;>cases decide (3<=IntKind.i64.wrap (x.high.high - x.high.low))<;>rfl
     .intro s
      have a:decide ((u.aH.length:Int)<(u.aH.length:Int))=false:=decide_eq_false aa
      unfold yI
      simp only[a,cond_false]
  .intro j x s b
   have g:=(List.getElem?_eq_some_iff.1 b).1
   have a:decide ((j:Int)<(u.props.length:Int))=true:=decide_eq_true aa
   have c:bt u.props (j:Int)=some x:=by unfold bt;rw[if_pos aa,Int.toNat_natCast,b]
   have d:IntKind.i64.wrap ((j:Int)+1)=((j+1:Nat):Int):=by rw[dj aa];omega
   unfold rQ jb
   simp only[a,c,d,ai,fA,(e x.place).2,cond_true]
   cases f x.place<;>cases bX x.dV 1 20<;>rfl
  .intro s
   have a:decide ((u.props.length:Int)<(u.props.length:Int))=false:=decide_eq_false aa
   unfold rQ
   simp only[a,cond_false]
theorem CL (x:Int):cond (x != 0) (some x) (some 0)=some x:=by
 cases h:(x != 0) with
 |true=>rfl
 |false=>
  have:x=0:=by simpa using h
  rw[this];rfl
theorem Jq (u:an)(a:u.aK.length<=20)(d:u.props.length<=20)(e:u.aH.length<=20)(g:u.told.length<=20):fN u=ja u/\∃r,fN u=some r:=by
 obtain ⟨he,h⟩:=CC u a;rw[Jn,h];show nu u=_/\∃r,nu u=some r;unfold nu;rw[CH];simp only[ai];cases hg:(gV u != 0) with
 |true=>exact ⟨rfl,_,rfl⟩
 |false=>
  simp only[cond_false];unfold o5;rw[he];simp only[ai];cases b:((cond (bX u.aK.length 2 5) ((ek (iu u) 0 u.aK).getD 0) 2) != 0) with
  |true=>exact ⟨rfl,_,rfl⟩
  |false=>
   simp only[cond_false];have hb:bX u.aK.length 2 5=true:=by
    cases hb:bX (u.aK.length:Int) 2 5 with
    |true=>rfl
    |false=>rw[hb] at b;cases b
   have i:=gv.1 hb;obtain ⟨f,c⟩:=CG u aa a;rw[Jp u f c d e g];unfold o3;rw[yP u f c];simp only[ai];cases j:((cond (decide (3<(u.props.length:Int))) 2 ((ek (jb u f) 0 u.props).getD 0)) != 0) with
   |true=>exact ⟨rfl,_,rfl⟩
   |false=>
    simp only[cond_false];unfold oZ;rw[yO];simp only[ai];cases k:((cond (bX u.aH.length 1 3) ((ek jc 0 u.aH).getD 0) 2) != 0) with
    |true=>exact ⟨rfl,_,rfl⟩
    |false=>
     simp only[cond_false];unfold oY q9;rw[yN];simp only[ai];rw[CL];exact ⟨rfl,_,rfl⟩
theorem r9 {α:Type}{t:Nat->α->Option Int}:∀(l:List α) (i:Nat),ek t i l=none->∀j x,l[j]?=some x->t (i+j) x=none
 |[],i,_,j,x,a=>by simp at a
 |y::l,i,h,j,x,a=>by
  unfold ek at h
  cases ht:t i y with
  |some r=>rw[ht] at h;cases h
  |none=>
   rw[ht] at h
   cases j with
   |zero=>simp at a;subst a;exact ht
   |succ j=>
    have:=r9 l (i+1) h j x (by simpa using a)
    rwa [show i+1+j=i+(j+1) by omega] at this
structure Fit (u:an):Prop where
 bZ:2<=u.bZ/\u.bZ<=60
 b6:0<=u.b6/\u.b6<=60
 den:1<=u.bw.den/\u.bw.den<=20
 num:0<=u.bw.num/\u.bw.num<=20
 aK:2<=u.aK.length/\u.aK.length<=5
 ob:∀(i:Nat) x,u.aK[i]?=some x->(0<=x.aX/\x.aX<=u.bZ - 1)/\0<=x.high/\x.high<=60
 uT:∀(i:Nat) x y,u.aK[i]?=some x->u.aK[i+1]?=some y->x.aX<y.aX
 props:u.props.length<=3
 prop:∀(i:Nat) x,u.props[i]?=some x->gR u x.place=some true/\1<=x.dV/\x.dV<=20
 aH:1<=u.aH.length/\u.aH.length<=3
 bA:∀(i:Nat) x,u.aH[i]?=some x->(1<=x.back/\x.back<=20)/\0<=x.high.low/\x.high.low<=x.high.high/\x.high.high<=60/\x.high.high - x.high.low<3
 told:u.told.length<=3
 yQ:∀(i:Nat) x,u.told[i]?=some x->0<=x.bA/\x.bA<u.aH.length
theorem uU {o:Option Int}(h:∀r,o=some r->r≠0)(a:o.getD 0=0):o=none:=by
 cases o with
 |none=>rfl
 |some r=>exact absurd a (h r rfl)
theorem Jr (u:an)(i:Nat)(x:cx)(r:Int)(h:iu u i x=some r):r≠0:=by
 unfold iu at h;revert h;cases bX x.aX 0 (IntKind.i64.wrap (u.bZ - 1))<;>cases bX x.high 0 60<;>try (intro h;cases h;decide)
 cases i with
 |zero=>intro h;cases h
 |succ j=>
  simp only[cond_true];cases u.aK[j]? with
  |none=>intro h;cases h
  |some y=>dsimp only;cases decide (x.aX<=y.aX)<;>intro h<;>cases h<;>decide
theorem uV (u:an)(o:u.aK.length<=20)(h:fN u=some 0):Fit u:=by
 have a:nu u=some 0:=h;clear h;unfold nu at a;rw[CH] at a;simp only[ai] at a;have hg:gV u=0:=by
  cases hg:(gV u != 0) with
  |true=>rw[hg] at a;exact Option.some.inj a
  |false=>simpa using hg
 rw[hg] at a;have a:o5 u=some 0:=a;unfold o5 at a;rw[(CC u o).1] at a;simp only[ai] at a;generalize g:cond (bX (u.aK.length:Int) 2 5) ((ek (iu u) 0 u.aK).getD 0) 2=E at a;have z:E=0:=by
  cases d:(E != 0) with
  |true=>rw[d] at a;exact Option.some.inj a
  |false=>simpa using d
 rw[z] at a g;have a:o3 u=some 0:=a;have hb:bX (u.aK.length:Int) 2 5=true:=by
  cases hb:bX (u.aK.length:Int) 2 5 with
  |true=>rfl
  |false=>rw[hb] at g;cases g
 rw[hb] at g;have M:=gv.1 hb;have p:=r9 u.aK 0 (uU (oa (Jr u) u.aK 0) g);obtain ⟨f,q⟩:=CG u aa o;unfold o3 at a;rw[yP u f q] at a;simp only[ai] at a;generalize j:cond (decide (3<(u.props.length:Int))) 2 ((ek (jb u f) 0 u.props).getD 0)=r at a;have A:r=0:=by
  cases d:(r != 0) with
  |true=>rw[d] at a;exact Option.some.inj a
  |false=>simpa using d
 rw[A] at a j;have a:oZ u=some 0:=a;have s:decide (3<(u.props.length:Int))=false:=by
  cases hb:decide (3<(u.props.length:Int)) with
  |false=>rfl
  |true=>rw[hb] at j;cases j
 rw[s] at j;have B:=r9 u.props 0 (uU (oa (CI u f) u.props 0) j);unfold oZ at a;rw[yO] at a;simp only[ai] at a;generalize k:cond (bX (u.aH.length:Int) 1 3) ((ek jc 0 u.aH).getD 0) 2=t at a;have C:t=0:=by
  cases d:(t != 0) with
  |true=>rw[d] at a;exact Option.some.inj a
  |false=>simpa using d
 rw[C] at a k;have a:oY u=some 0:=a;have v:bX (u.aH.length:Int) 1 3=true:=by
  cases hb:bX (u.aH.length:Int) 1 3 with
  |true=>rfl
  |false=>rw[hb] at k;cases k
 rw[v] at k;have N:=gv.1 v;have D:=r9 u.aH 0 (uU (oa CJ u.aH 0) k);unfold oY q9 at a;rw[yN] at a;simp only[ai] at a;rw[CL] at a;have l:=Option.some.inj a;have w:decide (3<(u.told.length:Int))=false:=by
  cases hb:decide (3<(u.told.length:Int)) with
  |false=>rfl
  |true=>rw[hb] at l;cases l
 rw[w] at l;have F:=r9 u.told 0 (uU (oa (Jo u) u.told 0) l);have O:=of_decide_eq_false s;have P:=of_decide_eq_false w;clear a g j k l;have G:(2<=u.bZ/\u.bZ<=60)/\(0<=u.b6/\u.b6<=60)/\(1<=u.bw.den/\u.bw.den<=20)/\(0<=u.bw.num/\u.bw.num<=20):=by
  unfold gV at hg;refine ⟨gv.1 ?_,gv.1 ?_,gv.1 ?_,gv.1 ?_⟩<;>revert hg<;>cases bX u.bZ 2 60<;>cases bX u.b6 0 60<;>cases bX u.bw.den 1 20<;>cases bX u.bw.num 0 20<;>intro hg<;>first|rfl|cases hg
 obtain ⟨H,I,J,K⟩:=G;have hw:IntKind.i64.wrap (u.bZ - 1)=u.bZ - 1:=dj aa;have m:∀(i:Nat) x,u.aK[i]?=some x->bX x.aX 0 (u.bZ - 1)=true/\bX x.high 0 60=true:=by
  intro i x b;have:=p i x b;unfold iu at this;rw[hw] at this;revert this;cases bX x.aX 0 (u.bZ - 1)<;>cases bX x.high 0 60<;>intro h<;>first|exact ⟨rfl,rfl⟩|cases h
 refine ⟨H,I,J,K,aa,fun i x b=>⟨gv.1 (m i x b).1,gv.1 (m i x b).2⟩,fun i x y b n=>?_,aa,fun i x b=>?_,aa,fun i x b=>?_,aa,fun i x b=>?_⟩
 .have:=p (i+1) y n;rw[Nat.zero_add] at this;unfold iu at this;rw[hw,(m _ _ n).1,(m _ _ n).2] at this;simp only[cond_true,b] at this;cases hd:decide (y.aX<=x.aX) with
  |true=>rw[hd] at this;cases this
  |false=>have:=of_decide_eq_false hd;omega
 .have:=B i x b;unfold jb at this;revert this;rw[(q x.place).1];cases f x.place<;>cases hb:bX x.dV 1 20<;>intro h<;>first|exact ⟨rfl,gv.1 hb⟩|cases h
 .have:=D i x b;unfold jc at this;cases c:bX x.back 1 20 with
  |false=>rw[c] at this;cases this
  |true=>
   cases e:mq x.high 0 60 with
   |false=>rw[c,e] at this;cases this
   |true=>
    rw[c,e] at this;unfold mq at e;simp only[Bool.and_eq_true,decide_eq_true_eq] at e;refine ⟨gv.1 c,e.1,e.2.1,e.2.2,?_⟩;cases hd:decide (3<=IntKind.i64.wrap (x.high.high - x.high.low)) with
    |true=>rw[hd] at this;cases this
    |false=>
     have L:=of_decide_eq_false hd;rw[dj aa] at L;omega
 .have:=F i x b;unfold kD at this;cases c:gY u x.bA with
  |false=>rw[c] at this;cases this
  |true=>
   unfold gY at c;rw[dj aa] at c;have:=gv.1 c;omega
theorem yR (g:Nat)(hg:0<g)(n:Int)(d:Nat):bP ((g:Int)*n) (g*d)=bP n d:=by
 unfold bP;have e1:((g:Int)*n).natAbs=g*n.natAbs:=by rw[Int.natAbs_mul,Int.natAbs_natCast]
 rw[e1,Nat.gcd_mul_left];have a:(0:Int)<(g:Int):=aa;congr 1
 .rw[Int.natCast_mul,Int.mul_tdiv_mul_of_pos _ _ a]
 .rw[Int.natCast_mul,Int.natCast_mul,Int.mul_tdiv_mul_of_pos _ _ a]
theorem yS (n:Int)(d:Nat)(hd:0<d):∃g a:Nat,0<g/\0<a/\d=g*a/\n=(g:Int)*(bP n d).num/\(bP n d).den=(a:Int):=by
 have hg:0<Nat.gcd n.natAbs d:=Nat.gcd_pos_of_pos_right _ hd;obtain ⟨a,b⟩:=Nat.gcd_dvd_right n.natAbs d;refine ⟨Nat.gcd n.natAbs d,a,hg,?_,b,?_,?_⟩
 .rcases Nat.eq_zero_or_pos a with h|h
  .rw[h,Nat.mul_zero] at b;omega
  .exact h
 .have c:((Nat.gcd n.natAbs d:Nat):Int) ∣ n:=Int.ofNat_dvd_left.2 (Nat.gcd_dvd_left _ _);unfold bP;exact (Int.mul_tdiv_cancel' c).symm
 .have:(d:Int)=((Nat.gcd n.natAbs d:Nat):Int)*(a:Int):=by rw[<-Int.natCast_mul];exact congrArg _ b
  show (d:Int).tdiv ((Nat.gcd n.natAbs d:Nat):Int)=_;have e:((Nat.gcd n.natAbs d:Nat):Int)≠0:=aa
  calc (d:Int).tdiv ((Nat.gcd n.natAbs d:Nat):Int)=(((Nat.gcd n.natAbs d:Nat):Int)*(a:Int)).tdiv ((Nat.gcd n.natAbs d:Nat):Int):=congrArg (fun z=>Int.tdiv z _) this
   _=(a:Int):=Int.mul_tdiv_cancel_left _ e
theorem dX {x y:Int}{A B:Nat}(a:x.natAbs<=A)(b:y.natAbs<=B):(x*y).natAbs<=A*B:=by
 rw[Int.natAbs_mul];exact Nat.mul_le_mul a b
theorem eO {n:Int}(h:n.natAbs<=9000000000000000000):IntKind.i64.wrap n=n:=dj aa
structure Sm (r:au)(A B:Nat):Prop where
 num:r.num.natAbs<=A
 den:0<r.den/\r.den<=B
theorem uW {a b:au}{A B C D:Nat}(c:Sm a A B)(hb:Sm b C D)(h:A*D+C*B<=900000000000000000)(hd:B*D<=800000000000000000):
  j6 a b=some (bP (a.num*b.den+b.num*a.den) (a.den*b.den).toNat):=by
 have d:=dX c.num (show b.den.natAbs<=D by have:=hb.den;omega)
 have f:=dX hb.num (show a.den.natAbs<=B by have:=c.den;omega)
 have g:=dX (show a.den.natAbs<=B by have:=c.den;omega) (show b.den.natAbs<=D by have:=hb.den;omega)
 have i:0<a.den*b.den:=Int.mul_pos c.den.1 hb.den.1
 unfold j6
 rw[eO (n:=a.num*b.den) aa,eO (n:=b.num*a.den) aa,eO (n:=a.den*b.den) aa,eO aa]
 have e:a.den*b.den=(((a.den*b.den).toNat:Nat):Int):=aa
 have:=r7 (a.num*b.den+b.num*a.den) (a.den*b.den).toNat aa aa aa
 rw[<-e] at this
 rw[this]
 rfl
theorem yT {a b:au}{A B C D:Nat}(c:Sm a A B)(hb:Sm b C D)(h:A*D+C*B<=900000000000000000)(hd:B*D<=800000000000000000):
  iZ a b=some (bP (a.num*b.den - b.num*a.den) (a.den*b.den).toNat):=by
 have d:=dX c.num (show b.den.natAbs<=D by have:=hb.den;omega)
 have f:=dX hb.num (show a.den.natAbs<=B by have:=c.den;omega)
 have g:=dX (show a.den.natAbs<=B by have:=c.den;omega) (show b.den.natAbs<=D by have:=hb.den;omega)
 have i:0<a.den*b.den:=Int.mul_pos c.den.1 hb.den.1
 unfold iZ
 rw[eO (n:=a.num*b.den) aa,eO (n:=b.num*a.den) aa,eO (n:=a.den*b.den) aa,eO aa]
 have e:a.den*b.den=(((a.den*b.den).toNat:Nat):Int):=aa
 have:=r8 (a.num*b.den - b.num*a.den) (a.den*b.den).toNat aa aa aa
 rw[<-e] at this
 rw[this]
 rfl
theorem yU {a b:au}{A B C D:Nat}(c:Sm a A B)(hb:Sm b C D)(h:A*D+C*B<=900000000000000000)(hd:B*D<=800000000000000000)(hC:C<=9000000000000000000):
  j7 a b=some (bP (a.num*b.den - b.num*a.den) (a.den*b.den).toNat):=by
 unfold j7
 have e:=hb.num
 rw[eO aa]
 have d:Sm (⟨0 - b.num,b.den⟩:au) C D:=⟨by show (0 - b.num).natAbs<=C;omega,hb.den⟩
 rw[uW c d h hd]
 show some (bP (a.num*b.den+(0 - b.num)*a.den) (a.den*b.den).toNat)=_
 rw[show a.num*b.den+(0 - b.num)*a.den=a.num*b.den - b.num*a.den by rw[Int.zero_sub,Int.neg_mul];omega]
def uX (x y:cx)(p:Int):Option au:=
 iY (IntKind.i64.wrap ((IntKind.i64.wrap (x.high*(IntKind.i64.wrap (y.aX - x.aX))))+(IntKind.i64.wrap ((IntKind.i64.wrap (y.high - x.high))*(IntKind.i64.wrap (p - x.aX)))))) (IntKind.i64.wrap (y.aX - x.aX))
theorem sd {α:Type}{l:List α}{i:Nat}{x:α}(h:l[i]?=some x):bt l (i:Int)=some x:=by unfold bt;rw[if_pos aa,Int.toNat_natCast,h]
theorem CM (i:Nat)(h:i<1000):IntKind.i64.wrap ((i:Int)+1)=((i+1:Nat):Int):=by rw[dj aa];omega
theorem piece (u:an)(p:Int)(f:u.aK.length<=5)(z:cx)(b:u.aK[u.aK.length - 1]?=some z)(g:p<=z.aX):∀(m i n:Nat) (x y:cx),i+1+m=u.aK.length - 1->m<n->u.aK[i]?=some x->u.aK[i+1]?=some y->
  ∃(k:Nat) (x y:cx),i<=k/\u.aK[k]?=some x/\u.aK[k+1]?=some y/\p<=y.aX/\(k=i\/x.aX<p)/\aY (o7 u p) n ((i+1:Nat):Int)=some (.nx ((k+1:Nat):Int))/\
   aY (pN u p) n (i:Int)=ai (uX x y p) fun r=>some (.rt r)
 |m,i,n+1,x,y,t,v,e,a=>by
  have w:i+1<u.aK.length:=(List.getElem?_eq_some_iff.1 a).1
  have d1:decide (((i+1:Nat):Int)<(u.aK.length:Int))=true:=decide_eq_true aa
  unfold aY o7 pN
  rw[CM i aa,CM (i+1) aa,sd e,sd a,d1]
  simp only[ai,cond_true]
  by_cases hc:y.aX<p
  .have e1:decide (y.aX<p)=true:=decide_eq_true hc
   have e2:decide (p<=y.aX)=false:=decide_eq_false aa
   rw[e1,e2]
   simp only[cond_true,cond_false]
   cases m with
   |zero=>
    have:u.aK.length - 1=i+1:=aa
    rw[this,a] at b
    cases b
    omega
   |succ m=>
    have h:i+1+1<u.aK.length:=aa
    obtain ⟨k,j,y',A,c,l,o,d,q,s⟩:=piece u p f z b g m (i+1) n y (u.aK[i+1+1]) aa aa a (List.getElem?_eq_getElem h)
    refine ⟨k,j,y',aa,c,l,o,?_,q,s⟩
    rcases d with rfl|d
    .rw[a] at c;cases c;exact .inr hc
    .exact .inr d
  .have e1:decide (y.aX<p)=false:=decide_eq_false hc
   have e2:decide (p<=y.aX)=true:=decide_eq_true aa
   rw[e1,e2]
   refine ⟨i,x,y,Nat.le_refl _,e,a,aa,.inl rfl,rfl,?_⟩
   simp only[cond_true]
   unfold uX
   cases iY _ _<;>rfl
theorem jK (n:Int)(d:Nat)(hd:0<d):Sm (bP n d) n.natAbs d:=by
 obtain ⟨g,a,hg,c,e1,e2,b⟩:=yS n d hd;refine ⟨?_,?_⟩
 .have:n.natAbs=g*(bP n d).num.natAbs:=by
   have:=congrArg Int.natAbs e2
   rwa [Int.natAbs_mul,Int.natAbs_natCast] at this
  rw[this];exact Nat.le_mul_of_pos_left _ hg
 .rw[b];have:a<=d:=by rw[e1];exact Nat.le_mul_of_pos_left _ hg
  omega
theorem CN (h:Int)(n:Int)(d:Nat)(hd:0<d):bP (h*(bP n d).den+(bP n d).num) ((bP n d).den).toNat=bP (h*d+n) d:=by
 obtain ⟨g,a,hg,f,e1,e2,b⟩:=yS n d hd;have k1:h*(d:Int)+n=(g:Int)*(h*(a:Int)+(bP n d).num):=by
  rw[Int.mul_add,<-e2,e1,Int.natCast_mul,Int.mul_left_comm]
 rw[b];have c:((a:Nat):Int).toNat=a:=Int.toNat_natCast a;rw[c,k1];have e:bP ((g:Int)*(h*(a:Int)+(bP n d).num)) d=bP ((g:Int)*(h*(a:Int)+(bP n d).num)) (g*a):=congrArg _ e1;rw[e,yR g hg]
theorem Js (u:an)(F:Fit u)(p:Int)(a z:cx)(g:u.aK[0]?=some a)(j:u.aK[u.aK.length - 1]?=some z)(l:a.aX<=p)(m:p<=z.aX):
  ∃r,jH u p=some r/\nW u p=some r/\Sm r 7200 60/\∃(k:Nat) (x y:cx) (d:Nat),u.aK[k]?=some x/\u.aK[k+1]?=some y/\x.aX<=p/\p<=y.aX/\y.aX - x.aX=d/\0<d/\r=bP (x.high*d+(y.high - x.high)*(p - x.aX)) d:=by
 have o:=F.aK
 obtain ⟨k,x,y,-,b,e,q,h,t,v⟩:=piece u p o.2 z j m (u.aK.length - 2) 0 fu a (u.aK[1]'aa) aa (Nat.lt_of_le_of_lt (show u.aK.length - 2<=5 by omega) aB) g (List.getElem?_eq_getElem _)
 have H:k+1<u.aK.length:=(List.getElem?_eq_some_iff.1 e).1
 have I:=F.ob k x b
 have J:=F.ob (k+1) y e
 have K:=F.uT k x y b e
 have hc:=F.bZ
 have w:x.aX<=p:=by
  rcases h with rfl|h
  .rw[g] at b;cases b;exact l
  .omega
 have A:IntKind.i64.wrap (((k+1:Nat):Int) - 1)=(k:Int):=by rw[dj aa];omega
 have w1:IntKind.i64.wrap (y.high - x.high)=y.high - x.high:=dj aa
 have w2:IntKind.i64.wrap (p - x.aX)=p - x.aX:=dj aa
 have w3:IntKind.i64.wrap (y.aX - x.aX)=y.aX - x.aX:=dj aa
 have B:((y.high - x.high)*(p - x.aX)).natAbs<=60*60:=dX aa aa
 have i:(x.high*(y.aX - x.aX)).natAbs<=60*60:=dX aa aa
 obtain ⟨d,hd⟩:∃d:Nat,y.aX - x.aX=d:=⟨(y.aX - x.aX).toNat,aa⟩
 generalize f:(y.high - x.high)*(p - x.aX)=n at B
 have c:0<d:=aa
 have L:d<=60:=aa
 have s1:=jK n d c
 have C:Sm (bP n d) 3600 60:=⟨Nat.le_trans s1.num aa,s1.den.1,by have:=s1.den.2;omega⟩
 have D:Sm (⟨x.high,1⟩:au) 60 1:=⟨by show x.high.natAbs<=60;omega,by show (0:Int)<1;omega,by show (1:Int)<=((1:Nat):Int);omega⟩
 refine ⟨bP (x.high*d+n) d,?_,?_,?_,k,x,y,d,b,e,w,q,hd,c,by rw[f]⟩
 .unfold jH
  have E:aY (o7 u p) fu 1=some (.nx ((k+1:Nat):Int)):=t
  rw[E]
  simp only[ai,aG]
  rw[A,sd b,sd e]
  simp only[gE]
  rw[w1,w2,w3,f,hd,eO aa,r7 n d aa c aa]
  simp only
  rw[uW D C aa aa]
  show some (bP (x.high*(bP n d).den+(bP n d).num*1) (1*(bP n d).den).toNat)=_
  rw[Int.mul_one,Int.one_mul,CN x.high n d c]
 .unfold nW
  have G:aY (pN u p) fu 0=ai (uX x y p) fun r=>some (.rt r):=v
  rw[G]
  unfold uX
  rw[w1,w2,w3,eO (n:=x.high*(y.aX - x.aX)) aa,f,eO (n:=n) aa,hd]
  rw[hd] at i
  rw[eO (n:=x.high*(d:Int)+n) aa,r8 (x.high*d+n) d aa c aa]
  rfl
 .have s:=jK (x.high*d+n) d c
  rw[hd] at i
  exact ⟨Nat.le_trans s.num aa,s.den.1,by have:=s.den.2;omega⟩
theorem Jt (u:an)(F:Fit u)(p:Int)(a z:cx)(b:u.aK[0]?=some a)(c:u.aK[u.aK.length - 1]?=some z)(d:a.aX<=p)(e:p<=z.aX):
  ∃r,jH u p=some r/\nW u p=some r/\Sm r 7200 60:=by
 obtain ⟨r,f,g,h,-⟩:=Js u F p a z b c d e
 exact ⟨r,f,g,h⟩
def uY:an:=⟨0,0,(⟨0,0⟩:au),([]:List cx),([]:List cK),([]:List cu),([]:List cn)⟩
theorem uZ {u:an}{c:Int}(a:List (an->Option Int))(h:fN u=some c)(hc:c≠0):fo u a=some (uY,c):=by
 unfold fo;rw[h];have:(c != 0)=true:=by simpa using hc
 simp only[ai,this,cond_true];rfl
theorem u5 {u:an}{f:an->Option Int}{x:Int}(h:fN u=some 0)(a:f u=some x):fo u [f]=some (cond (x != 0) (uY,x) (u,0)):=by
 unfold fo;rw[h];simp only[ai,bne_self_eq_false,cond_false];unfold bU uk;simp only[a,ai];cases (x != 0)<;>rfl
theorem Ju (u:an)(F:Fit u)(p:Int):∃a z,u.aK[0]?=some a/\u.aK[u.aK.length - 1]?=some z/\gR u p=some (bX p a.aX z.aX)/\nF u p=some (bX p a.aX z.aX):=by
 have d:=F.aK;have b:u.aK[0]?=some (u.aK[0]'aa):=List.getElem?_eq_getElem _;have c:u.aK[u.aK.length - 1]?=some (u.aK[u.aK.length - 1]'aa):=List.getElem?_eq_getElem _;have hw:IntKind.i64.wrap ((u.aK.length:Int) - 1)=((u.aK.length - 1:Nat):Int):=by rw[dj aa];omega
 refine ⟨_,_,b,c,?_⟩;have k:gR u p=some (bX p (u.aK[0]'aa).aX (u.aK[u.aK.length - 1]'aa).aX):=by
  unfold gR;have e0:bt u.aK 0=some (u.aK[0]'aa):=b;rw[hw,e0,sd c,kC];simp only[ai,fA]
 exact ⟨k,k⟩
theorem yV {n m:Int}{d e:Nat}(hd:0<d)(he:0<e)(h:n*(e:Int)=m*(d:Int)):bP n d=bP m e:=by
 have a:=yR e he n d;have b:=yR d hd m e;rw[<-a,<-b];have e1:(e:Int)*n=(d:Int)*m:=by rw[Int.mul_comm,h,Int.mul_comm]
 rw[e1,Nat.mul_comm e d]
theorem yW (n:Int)(d:Nat)(hd:0<d):(bP n d).num*(d:Int)=n*(bP n d).den/\0<(bP n d).den:=by
 obtain ⟨g,a,hg,c,e1,e2,b⟩:=yS n d hd;refine ⟨?_,by rw[b];omega⟩;rw[b];have k1:(d:Int)=(g:Int)*(a:Int):=by rw[<-Int.natCast_mul];exact congrArg _ e1
 calc (bP n d).num*(d:Int)=(bP n d).num*((g:Int)*(a:Int)):=by rw[<-k1]
  _=((g:Int)*(bP n d).num)*(a:Int):=by rw[<-Int.mul_assoc,Int.mul_comm (bP n d).num]
  _=n*(a:Int):=by rw[<-e2]
theorem od {a b:au}{A B C D:Nat}(c:Sm a A B)(hb:Sm b C D)(h:A*D<=9000000000000000000)(d:C*B<=9000000000000000000):fX a b=some (decide (a.num*b.den<b.num*a.den))/\eZ a b=some (decide (a.num*b.den<b.num*a.den)):=by
 have e:=dX c.num (show b.den.natAbs<=D by have:=hb.den;omega);have f:=dX hb.num (show a.den.natAbs<=B by have:=c.den;omega);have k:fX a b=some (decide (a.num*b.den<b.num*a.den)):=by
  unfold fX;rw[eO (n:=a.num*b.den) aa,eO (n:=b.num*a.den) aa]
 exact ⟨k,k⟩
theorem Jv {h md a d e b f c N:Int}(g:d*b=N*md)(i:e*f=c*a):(h*(md*a)+d*e)*(b*f)=(h*b*f+N*c)*(md*a):=by
 grind
theorem CO (u:an)(F:Fit u)(s:bx)(hs:(1<=s.back/\s.back<=20)/\0<=s.high/\s.high<=60)(at_:Int)(aX:Int)(E:0<=aX/\aX<=60)(e:au)(he:Sm e 10000 100):
  ∃c,k4 u s at_ ⟨aX,e⟩=some ⟨⟨aX,e⟩,at_,c⟩/\lf u s aX e=some c/\c=bP (s.high*e.den*(aX+s.back)+(e.num - s.high*e.den)*(u.bZ+s.back)) (e.den*(aX+s.back)).toNat:=by
 have hc:=F.bZ
 have w1:IntKind.i64.wrap (u.bZ+s.back)=u.bZ+s.back:=dj aa
 have w2:IntKind.i64.wrap (aX+s.back)=aX+s.back:=dj aa
 obtain ⟨f,b⟩:∃f:Nat,aX+s.back=f:=⟨(aX+s.back).toNat,aa⟩
 have d:0<f:=aa
 have G:f<=80:=aa
 generalize m:u.bZ+s.back=c at*
 have o:c.natAbs<=80:=aa
 have p:Sm (⟨s.high,1⟩:au) 60 1:=⟨by show s.high.natAbs<=60;omega,by show (0:Int)<1;omega,by show (1:Int)<=((1:Nat):Int);omega⟩
 obtain ⟨a,j⟩:∃n:Nat,e.den=n:=⟨e.den.toNat,by have:=he.den;omega⟩
 have g:0<a:=by have:=he.den;omega
 have H:a<=100:=by have:=he.den;omega
 have y:(s.high*e.den).natAbs<=60*100:=dX aa aa
 have b2:(e.num - s.high*e.den).natAbs<=16000:=by have:=he.num;omega
 have q:=yU he p aa aa aa
 have e1:e.num*(1:Int) - s.high*e.den=e.num - s.high*e.den:=by rw[Int.mul_one]
 have e2:(e.den*(1:Int)).toNat=a:=by rw[Int.mul_one,j,Int.toNat_natCast]
 rw[show ((⟨s.high,1⟩:au).den)=(1:Int) from rfl,show ((⟨s.high,1⟩:au).num)=s.high from rfl,e1,e2] at q
 generalize z:e.num - s.high*e.den=N at*
 have sm:=jK N a g
 have r:=jK c f d
 have t:=yW N a g
 have vs:=yW c f d
 have I:((bP N a).num*(bP c f).num).natAbs<=16000*80:=dX (Nat.le_trans sm.num b2) (Nat.le_trans r.num o)
 have J:((bP N a).den*(bP c f).den).natAbs<=100*80:=dX (by have:=sm.den;omega) (by have:=r.den;omega)
 have K:0<(bP N a).den*(bP c f).den:=Int.mul_pos t.2 vs.2
 obtain ⟨M,hM⟩:∃M:Nat,(bP N a).den*(bP c f).den=M:=⟨((bP N a).den*(bP c f).den).toNat,aa⟩
 have h:0<M:=aa
 have A:=r7 c f aa d aa
 have B:=r7 ((bP N a).num*(bP c f).num) M aa h aa
 have sq:=jK ((bP N a).num*(bP c f).num) M h
 have C:Sm (bP ((bP N a).num*(bP c f).num) M) 1280000 8000:=⟨Nat.le_trans sq.num aa,sq.den.1,by have:=sq.den.2;omega⟩
 have v:=uW p C aa aa
 have D:s.high*(bP ((bP N a).num*(bP c f).num) M).den+(bP ((bP N a).num*(bP c f).num) M).num*1=s.high*(bP ((bP N a).num*(bP c f).num) M).den+(bP ((bP N a).num*(bP c f).num) M).num:=by rw[Int.mul_one]
 rw[show ((⟨s.high,1⟩:au).den)=(1:Int) from rfl,show ((⟨s.high,1⟩:au).num)=s.high from rfl,D,Int.one_mul,CN s.high _ M h] at v
 have k:e.den*(aX+s.back)=((a*f:Nat):Int):=by rw[j,b,Int.natCast_mul]
 have i:(e.den*(aX+s.back)).toNat=a*f:=by rw[k,Int.toNat_natCast]
 have w:bP (s.high*(M:Int)+(bP N a).num*(bP c f).num) M=bP (s.high*e.den*(aX+s.back)+N*c) (a*f):=by
  refine yV h (Nat.mul_pos g d) ?_
  rw[Int.natCast_mul,<-hM,b,j]
  exact Jv (by rw[t.1]) (by rw[vs.1])
 refine ⟨_,?_,?_,rfl⟩
 .unfold k4
  have l:IntKind.i64.wrap (f:Int)=f:=dj aa
  simp only[gE,ai,q,m,w1,b,l,A]
  rw[eO aa,eO (n:=(bP N a).den*(bP c f).den) aa,hM,B]
  simp only[v]
  rw[b] at i w
  rw[i,w]
 .unfold lf
  have l:IntKind.i64.wrap (f:Int)=f:=dj aa
  have L:(s.high*e.den*(f:Int)).natAbs<=6000*80:=dX y aa
  have p2:(N*c).natAbs<=16000*80:=dX b2 o
  have p3:(e.den*(f:Int)).natAbs<=100*80:=dX aa aa
  simp only[m,w1,b,l]
  rw[eO (n:=s.high*e.den) aa,z,eO (n:=N) aa,eO (n:=s.high*e.den*(f:Int)) aa,eO (n:=N*c) aa,eO (n:=s.high*e.den*(f:Int)+N*c) aa,eO (n:=e.den*(f:Int)) aa]
  rw[b] at k i
  have x:=r8 (s.high*e.den*(f:Int)+N*c) (a*f) aa (Nat.mul_pos g d) aa
  rw[i]
  rw[<-k] at x
  rw[x]
  rfl
def ez (u:an)(s:bx)(x:cx):au:=bP (s.high*1*(x.aX+s.back)+(x.high - s.high*1)*(u.bZ+s.back)) (1*(x.aX+s.back)).toNat
theorem CP (u:an)(F:Fit u)(s:bx)(hs:(1<=s.back/\s.back<=20)/\0<=s.high/\s.high<=60)(i:Nat)(x:cx)(a:u.aK[i]?=some x)(at_:Int):
  k4 u s at_ ⟨x.aX,⟨x.high,1⟩⟩=some ⟨⟨x.aX,⟨x.high,1⟩⟩,at_,ez u s x⟩/\lf u s x.aX ⟨x.high,1⟩=some (ez u s x):=by
 have p:=F.ob i x a
 have hc:=F.bZ
 have he:Sm (⟨x.high,1⟩:au) 10000 100:=⟨by show x.high.natAbs<=10000;omega,by show (0:Int)<1;omega,by show (1:Int)<=((100:Nat):Int);omega⟩
 obtain ⟨c,b,d,e⟩:=CO u F s hs at_ x.aX aa ⟨x.high,1⟩ he
 have:c=ez u s x:=e
 subst this
 exact ⟨b,d⟩
theorem CQ (u:an)(F:Fit u)(s:bx)(hs:(1<=s.back/\s.back<=20)/\0<=s.high/\s.high<=60)(i:Nat)(x:cx)(a:u.aK[i]?=some x):Sm (ez u s x) 10000 100:=by
 have p:=F.ob i x a;have hc:=F.bZ;unfold ez;rw[Int.mul_one,Int.one_mul];have b:(s.high*(x.aX+s.back)).natAbs<=60*79:=dX aa aa;have b2:((x.high - s.high)*(u.bZ+s.back)).natAbs<=60*80:=dX aa aa;have h:=jK (s.high*(x.aX+s.back)+(x.high - s.high)*(u.bZ+s.back)) (x.aX+s.back).toNat aa;exact ⟨Nat.le_trans h.num aa,h.den.1,by have:=h.den.2;omega⟩
def foldI {α σ:Type}(g:Nat->α->σ->σ):Nat->List α->σ->σ
 |_,[],s=>s
 |i,x::l,s=>foldI g (i+1) l (g i x s)
theorem jd {α σ ρ:Type}{f:Nat->α->σ->Option (Fl σ ρ)}{g:Nat->α->σ->σ}{I:Nat->σ->Prop}:∀(l:List α) (i:Nat) (s:σ),I i s->(∀j x s,l[j]?=some x->I (i+j) s->f (i+j) x s=some (.nx (g (i+j) x s))/\I (i+j+1) (g (i+j) x s))->
  bU f i l s=some (.nx (foldI g i l s))/\I (i+l.length) (foldI g i l s)
 |[],i,s,hs,_=>⟨rfl,hs⟩
 |x::l,i,s,hs,h=>by
  obtain ⟨a,b⟩:=h 0 x s rfl hs
  simp only[Nat.add_zero] at a b
  unfold bU foldI
  rw[a]
  have:=jd l (i+1) _ b fun j y s c hs=>by
   have:=h (j+1) y s (by simpa using c) (by rwa [show i+(j+1)=i+1+j by omega])
   rwa [show i+(j+1)=i+1+j by omega] at this
  rwa [show i+1+l.length=i+(x::l).length by simp;omega] at this
theorem CR {α σ τ ρ:Type}{f:τ->Option (Fl τ ρ)}{g:Nat->α->σ->σ}{I:Nat->σ->Prop}(e:σ->Int->τ)(l:List α)(h:∀(i:Nat) x s,l[i]?=some x->I i s->f (e s (i:Int))=some (.nx (e (g i x s) ((i+1:Nat):Int)))/\I (i+1) (g i x s))(a:∀s,f (e s (l.length:Int))=some (.bk (e s (l.length:Int)))):
  ∀(k i n:Nat) (s:σ),I i s->i+k=l.length->k<n->aY f n (e s (i:Int))=some (.nx (e (foldI g i (l.drop i) s) (l.length:Int)))/\I l.length (foldI g i (l.drop i) s)
 |0,i,n+1,s,hs,hi,_=>by
  obtain rfl:i=l.length:=aa
  unfold aY
  rw[a,List.drop_length]
  exact ⟨rfl,hs⟩
 |k+1,i,n+1,s,hs,hi,m=>by
  have b:i<l.length:=aa
  have c:l[i]?=some l[i]:=List.getElem?_eq_getElem b
  obtain ⟨d,j⟩:=h i _ s c hs
  unfold aY
  rw[d,List.drop_eq_getElem_cons b]
  unfold foldI
  exact CR e l h a k (i+1) n _ j aa aa
theorem p5 {α σ τ ρ:Type}{f:τ->Option (Fl τ ρ)}{g:Nat->α->σ->σ}{I:Nat->σ->Prop}(e:σ->Int->τ)(l:List α)(a:l.length<=1000)(h:∀(i:Nat) x s,l[i]?=some x->I i s->f (e s (i:Int))=some (.nx (e (g i x s) ((i+1:Nat):Int)))/\I (i+1) (g i x s))(b:∀s,f (e s (l.length:Int))=some (.bk (e s (l.length:Int))))(s:σ)(hs:I 0 s):
  aY f fu (e s 0)=some (.nx (e (foldI g 0 l s) (l.length:Int)))/\I l.length (foldI g 0 l s):=by
 have:=CR e l h b l.length 0 fu s hs aa (Nat.lt_of_le_of_lt a aB)
 simpa using this
theorem CS {α σ:Type}{g g':Nat->α->σ->σ}:∀(l:List α) (i:Nat) (s:σ),(∀j x s,i<=j->g j x s=g' j x s)->foldI g i l s=foldI g' i l s
 |[],_,_,_=>rfl
 |x::l,i,s,h=>by
  unfold foldI
  rw[h i x s (Nat.le_refl _)]
  exact CS l (i+1) _ fun j x s a=>h j x s aa
def bN (a b:au):Bool:=decide (a.num*b.den<b.num*a.den)
abbrev SR (r:au):Prop:=Sm r 2000000 8000
theorem Sm.mono {r:au}{A B a b:Nat}(h:Sm r A B)(c:A<=a)(hb:B<=b):Sm r a b:=⟨Nat.le_trans h.num c,h.den.1,by have:=h.den.2;omega⟩
theorem u6 (u:an)(F:Fit u)(s:bx)(hs:(1<=s.back/\s.back<=20)/\0<=s.high/\s.high<=60)(i:Nat)(x:cx)(a:u.aK[i]?=some x):SR (ez u s x):=(CQ u F s hs i x a).mono aB aB
theorem jL {a b:au}(c:SR a)(hb:SR b):fX a b=some (bN a b)/\eZ a b=some (bN a b):=od c hb aB aB
def gB (u:an)(s:bx)(i:Nat)(x:cx)(st:Int×au):Int×au:=cond (bN st.2 (ez u s x)) ((i:Int),ez u s x) st
def je (u:an)(s:bx)(i:Nat)(x:cx):bQ:=⟨⟨x.aX,⟨x.high,1⟩⟩,(i:Int),ez u s x⟩
def fZ (u:an)(s:bx):Nat->List cx->List bQ
 |_,[]=>[]
 |i,x::l=>je u s i x::fZ u s (i+1) l
theorem CU (u:an)(s:bx):∀(l:List cx) (i:Nat) (a:List bQ),foldI (fun i x st=>st++[je u s i x]) i l a=a++fZ u s i l
 |[],i,a=>by simp[foldI,fZ]
 |x::l,i,a=>by simp[foldI,fZ,CU u s l (i+1)]
def gC (i:Nat)(x:bQ)(st:bQ):bQ:=cond (bN st.high x.high) x st
theorem CV (u:an)(s:bx):∀(l:List cx) (i j:Nat) (c:bQ),let r:=foldI gC j (fZ u s i l) c;(r.at_,r.high)=foldI (gB u s) i l (c.at_,c.high)
 |[],i,j,c=>rfl
 |x::l,i,j,c=>by
  simp only[fZ,foldI]
  have:=CV u s l (i+1) (j+1) (gC j (je u s i x) c)
  simp only at this
  rw[this]
  congr 1
  unfold gC gB je
  cases bN c.high (ez u s x)<;>rfl
theorem u7 (n:Int):gE n=some ⟨n,1⟩:=rfl
def eH (u:an)(s:bx):Int×au:=match u.aK with
 |[]=>(0,⟨0,0⟩)
 |x::l=>foldI (gB u s) 1 l (0,ez u s x)
section
variable {u:an}{s:bx}(F:Fit u)(hs:(1<=s.back/\s.back<=20)/\0<=s.high/\s.high<=60)
include F hs
theorem Jw:bU (o6 u s) 0 u.aK ([]:List bQ)=some (.nx (fZ u s 0 u.aK)):=by
 have c:=F.aK;have:=jd (f:=o6 u s) (ρ:=bQ) (g:=fun i x st=>st++[je u s i x]) (I:=fun i st=>st.length=i) u.aK 0 [] rfl (fun j x st a b=>?_)
 .rw[this.1,CU];rfl
 .have d:j<u.aK.length:=(List.getElem?_eq_some_iff.1 a).1;refine ⟨?_,by simp[b]⟩;unfold o6;rw[Nat.zero_add] at b ⊢;simp only[u7,ai,(CP u F s hs j x a (j:Int)).1];unfold dc;rw[if_pos (by simp;omega)];rfl
theorem CW:∀(l:List cx) (i:Nat),(∀(j:Nat) x,l[j]?=some x->u.aK[i+j]?=some x)->∀(j:Nat) c,(fZ u s i l)[j]?=some c->SR c.high
 |[],_,_,j,c,h=>by simp[fZ] at h
 |x::l,i,a,0,c,h=>by
  simp[fZ] at h
  subst h
  exact u6 u F s hs i x (a 0 x rfl)
 |x::l,i,a,j+1,c,h=>CW l (i+1) (fun j y b=>by have:=a (j+1) y (by simpa using b);rwa [show i+(j+1)=i+1+j by omega] at this) j c (by simpa [fZ] using h)
theorem se:∃c,mb u s=some c/\(c.at_,c.high)=eH u s/\SR c.high/\pM u s=some (eH u s):=by
 have b:=F.aK;have o:=Jw F hs;obtain ⟨a,rest,he⟩:∃x l,u.aK=x::l:=by
  cases h:u.aK with
  |nil=>rw[h] at b;simp at b
  |cons x l=>exact ⟨x,l,rfl⟩
 have p:u.aK[0]?=some a:=by rw[he];rfl
 have q:∀(j:Nat) x,rest[j]?=some x->u.aK[1+j]?=some x:=fun j x h=>by rw[he,Nat.add_comm];simpa using h
 have v:rest.length<=4:=by rw[he] at b;simp at b;omega
 have r:SR (ez u s a):=u6 u F s hs 0 a p
 have hg:=jd (f:=q8 jG) (ρ:=bQ) (g:=gC) (I:=fun _ c=>SR c.high) (fZ u s 1 rest) 0 (je u s 0 a) r (fun j c st m d=>by
  have hc:=CW F hs rest 1 q j c m;refine ⟨?_,?_⟩
  .unfold q8 jG gC;simp only[(jL d hc).2,ai];cases bN st.high c.high<;>rfl
  .unfold gC;cases bN st.high c.high
   .exact d
   .exact hc)
 refine ⟨foldI gC 0 (fZ u s 1 rest) (je u s 0 a),?_,?_,hg.2,?_⟩
 .unfold mb;rw[o,he];simp only[ai,aG,fZ];rw[show bt (je u s 0 a::fZ u s (0+1) rest) 0=some (je u s 0 a) from rfl];simp only;have:jA (je u s 0 a::fZ u s (0+1) rest) 1 (((je u s 0 a::fZ u s (0+1) rest).length:Nat):Int)=some (fZ u s 1 rest):=by
   unfold jA;rw[if_pos (by simp only[List.length_cons];omega)];simp
  rw[this];simp only;unfold ni;rw[hg.1];rfl
 .have:=CV u s rest 1 0 (je u s 0 a);simp only at this;rw[this];unfold eH;rw[he];rfl
 .unfold pM;have t:=p5 (f:=pK u s) (g:=fun i x st=>if i=0 then ((0:Int),ez u s x) else gB u s i x st) (I:=fun i st=>i=0\/SR st.2) (fun st i=>(st.1,i,st.2)) u.aK aa (fun i x st e d=>?_) (fun st=>?_) ((0:Int),(⟨0,0⟩:au)) (.inl rfl)
  .rw[t.1,he];simp only[ai,aG,foldI,if_pos];rw[CS (g':=gB u s) rest (0+1) _ (fun j x st m=>if_neg aa)];unfold eH;rw[he]
  .have w:i<u.aK.length:=(List.getElem?_eq_some_iff.1 e).1;have hc:=u6 u F s hs i x e;unfold pK;simp only;rw[show decide ((i:Int)<(u.aK.length:Int))=true by simp;omega];simp only[cond_true];rw[show bt u.aK (i:Int)=some x by unfold bt;rw[if_pos aa];simpa using e];simp only[ai,(CP u F s hs i x e 0).2];have hw:IntKind.i64.wrap ((i:Int)+1)=((i+1:Nat):Int):=by rw[dj aa];rfl
   rw[hw];by_cases k:i=0
   .subst k;exact ⟨rfl,.inr hc⟩
   .have n:SR st.2:=d.resolve_left k;rw[show (((i:Nat):Int)==0)=false by simp;omega];simp only[cond_false,(jL n hc).1,if_neg k];unfold gB;cases bN st.2 (ez u s x)
    .exact ⟨rfl,.inr n⟩
    .exact ⟨rfl,.inr hc⟩
  .unfold pK;simp
end
section
variable {u:an}{s:bx}(F:Fit u)(hs:(1<=s.back/\s.back<=20)/\0<=s.high/\s.high<=60)
include F hs
theorem si:Sm (⟨u.b6,1⟩:au) 60 1:=⟨by have:=F.b6;show u.b6.natAbs<=60;omega,by show (0:Int)<1;omega,by show (1:Int)<=((1:Nat):Int);omega⟩
theorem u9:SR (eH u s).2:=by
 obtain ⟨c,d,a,b,e⟩:=se F hs;rw[<-a];exact b
theorem CX:∃r,nv u s=some r/\nZ u s=some r:=by
 obtain ⟨c,b,d,a,e⟩:=se F hs;have e2:c.high=(eH u s).2:=by rw[<-d]
 have p:=si F hs;have f:=yU p a aB aB aB;have g:=yT p a aB aB;unfold nv nZ;rw[b,e];simp only[ai,u7,f,<-e2,g];exact ⟨_,rfl,rfl⟩
end
theorem yX {a b c:au}(d:0<a.den)(hb:0<b.den)(hc:0<c.den)(e:bN b a=false)(f:bN b c=true):bN c a=false:=by
 unfold bN at*;simp only[decide_eq_false_iff_not,decide_eq_true_eq,Int.not_lt] at*;have k1:a.num*b.den*c.den<=b.num*a.den*c.den:=Int.mul_le_mul_of_nonneg_right e aa;have h:b.num*c.den*a.den<c.num*b.den*a.den:=Int.mul_lt_mul_of_pos_right f d;have g:b.den*(a.num*c.den)<b.den*(c.num*a.den):=by
  have e1:b.den*(a.num*c.den)=a.num*b.den*c.den:=by grind
  have e2:b.den*(c.num*a.den)=c.num*b.den*a.den:=by grind
  have i:b.num*a.den*c.den=b.num*c.den*a.den:=by grind
  omega
 exact Int.le_of_lt (Int.lt_of_mul_lt_mul_left g aa)
theorem gZ (a:au):bN a a=false:=by unfold bN;simp
theorem sj {a b:au}(h:bN a b=true):bN b a=false:=by
 unfold bN at*;simp only[decide_eq_false_iff_not,decide_eq_true_eq,Int.not_lt] at*;omega
def yY (u:an)(s:bx)(aX:Int)(e:au):au:=bP (s.high*e.den*(aX+s.back)+(e.num - s.high*e.den)*(u.bZ+s.back)) (e.den*(aX+s.back)).toNat
def en (u:an)(x:cK):au:=match jH u x.place with
 |some r=>bP (r.num+x.dV*r.den) r.den.toNat
 |none=>⟨0,0⟩
def fe (u:an)(s:bx)(x:cK):au:=yY u s x.place (en u x)
section
variable {u:an}{s:bx}(F:Fit u)(hs:(1<=s.back/\s.back<=20)/\0<=s.high/\s.high<=60)
include F hs
theorem yZ {i:Nat}{x:cK}(t:u.props[i]?=some x):∃r,jH u x.place=some r/\nW u x.place=some r/\j6 r ⟨x.dV,1⟩=some (en u x)/\
  iY (IntKind.i64.wrap (r.num+IntKind.i64.wrap (x.dV*r.den))) r.den=some (en u x)/\(∀at_,k4 u s at_ ⟨x.place,en u x⟩=some ⟨⟨x.place,en u x⟩,at_,fe u s x⟩)/\lf u s x.place (en u x)=some (fe u s x)/\SR (fe u s x):=by
 obtain ⟨v,p2,p3⟩:=F.prop i x t
 obtain ⟨a,z,j,k,l,H⟩:=Ju u F x.place
 rw[v] at l
 have hb:bX x.place a.aX z.aX=true:=(Option.some.inj l).symm
 unfold bX at hb
 simp only[Bool.and_eq_true,decide_eq_true_eq] at hb
 have I:=F.ob _ a j
 have J:=F.ob _ z k
 have hc:=F.bZ
 obtain ⟨r,m,w,b⟩:=Jt u F x.place a z j k hb.1 hb.2
 have sh:Sm (⟨x.dV,1⟩:au) 20 1:=⟨by show x.dV.natAbs<=20;omega,by show (0:Int)<1;omega,by show (1:Int)<=((1:Nat):Int);omega⟩
 have K:(x.dV*r.den).natAbs<=20*60:=dX aa (by have:=b.den;omega)
 obtain ⟨d,hd⟩:∃d:Nat,r.den=d:=⟨r.den.toNat,by have:=b.den;omega⟩
 have o:0<d:=by have:=b.den;omega
 have L:d<=60:=by have:=b.den;omega
 have M:=b.num
 have h:en u x=bP (r.num+x.dV*r.den) d:=by
  unfold en
  rw[m]
  simp only
  rw[hd,Int.toNat_natCast]
 have e:Sm (en u x) 10000 100:=by
  rw[h]
  have:=jK (r.num+x.dV*r.den) d o
  exact ⟨Nat.le_trans this.num aa,this.den.1,by have:=this.den.2;omega⟩
 have y:=uW b sh aB aB
 have p:=r8 (r.num+x.dV*r.den) d aa o aa
 have q:∀at_,k4 u s at_ ⟨x.place,en u x⟩=some ⟨⟨x.place,en u x⟩,at_,fe u s x⟩/\lf u s x.place (en u x)=some (fe u s x):=fun at_=>by
  obtain ⟨c,c1,c2,c3⟩:=CO u F s hs at_ x.place ⟨aa,aa⟩ (en u x) e
  subst c3
  exact ⟨c1,c2⟩
 refine ⟨r,m,w,?_,?_,fun at_=>(q at_).1,(q 0).2,?_⟩
 .rw[y,h]
  show some (bP (r.num*1+x.dV*r.den) (r.den*1).toNat)=_
  rw[Int.mul_one,Int.mul_one,hd,Int.toNat_natCast]
 .rw[eO (n:=x.dV*r.den) aa,eO aa,h]
  rw[hd] at p ⊢
  exact p
 .unfold fe yY
  obtain ⟨f,A⟩:∃f:Nat,x.place+s.back=f:=⟨(x.place+s.back).toNat,aa⟩
  obtain ⟨g,B⟩:∃n:Nat,(en u x).den=n:=⟨(en u x).den.toNat,by have:=e.den;omega⟩
  have C:0<g:=by have:=e.den;omega
  have D:g<=100:=by have:=e.den;omega
  have N:=e.num
  have E:(s.high*(en u x).den).natAbs<=60*100:=dX aa aa
  have b2:(s.high*(en u x).den*(x.place+s.back)).natAbs<=6000*80:=dX E aa
  have b3:(((en u x).num - s.high*(en u x).den)*(u.bZ+s.back)).natAbs<=16000*80:=dX aa aa
  have G:((en u x).den*(x.place+s.back)).toNat=g*f:=by rw[B,A,<-Int.natCast_mul,Int.toNat_natCast]
  rw[G]
  have:=jK (s.high*(en u x).den*(x.place+s.back)+((en u x).num - s.high*(en u x).den)*(u.bZ+s.back)) (g*f) (Nat.mul_pos C aa)
  have O:g*f<=100*80:=Nat.mul_le_mul D aa
  exact ⟨Nat.le_trans this.num aa,this.den.1,by have:=this.den.2;omega⟩
end
def same (x:cK)(e:au)(y:bQ):Bool:=(y.spot.aX==x.place)&&((y.spot.high.num==e.num)&&(y.spot.high.den==e.den))
def gT (u:an)(s:bx)(i:Nat)(x:cK)(st:List bQ):List bQ:=cond (st.any (same x (en u x))) st (st++[⟨⟨x.place,en u x⟩,(i:Int),fe u s x⟩])
def cG (a b:au):au:=cond (bN a b) b a
def gM (u:an)(s:bx)(i:Nat)(x:cK)(b:au):au:=if i=0 then fe u s x else cG b (fe u s x)
theorem CZ (x:cK)(e:au):∀(l:List bQ) (i:Nat),bU (rf x e) i l ()=some (cond (l.any (same x e)) (.br 1 ()) (.nx ()):Fl Unit (List bQ))
 |[],i=>rfl
 |y::l,i=>by
  unfold bU rf
  rw[show ((y.spot.aX==x.place)&&((y.spot.high.num==e.num)&&(y.spot.high.den==e.den)))=same x e y from rfl,List.any_cons]
  cases same x e y
  .simp only[cond_false,ai,Bool.false_or]
   exact CZ x e l (i+1)
  .rfl
theorem sk {a b:au}(c:SR a)(hb:SR b):fY a b=some (cG a b):=by
 unfold fY cG;simp only[(jL c hb).1,ai];cases bN a b<;>rfl
theorem lA {a b:au}(c:SR a)(hb:SR b):SR (cG a b):=by unfold cG;cases bN a b;exact c;exact hb
def vb:List bQ->au
 |[]=>⟨0,0⟩
 |c::l=>(foldI gC 0 l c).high
theorem C0 {α σ:Type}{g:Nat->α->σ->σ}:∀(l:List α) (i:Nat) (y:α) (s:σ),foldI g i (l++[y]) s=g (i+l.length) y (foldI g i l s)
 |[],i,y,s=>rfl
 |x::l,i,y,s=>by
  simp only[List.cons_append,foldI,List.length_cons]
  rw[C0 l (i+1) y]
  congr 1
  omega
theorem Jx (c:bQ)(l:List bQ)(y:bQ):vb (c::l++[y])=cG (vb (c::l)) y.high:=by
 show (foldI gC 0 (l++[y]) c).high=_;rw[C0];show (cond (bN (foldI gC 0 l c).high y.high) y (foldI gC 0 l c)).high=cond (bN (foldI gC 0 l c).high y.high) y.high (foldI gC 0 l c).high;cases bN (foldI gC 0 l c).high y.high<;>rfl
structure Tp (u:an)(s:bx)(st:List bQ)(b:au):Prop where
 ne:st≠[]
 C1:b=vb st
 sm:SR b
 le:∀y∈st,bN b y.high=false/\SR y.high/\y.high=yY u s y.spot.aX y.spot.high
theorem Tp.step {u:an}{s:bx}{st:List bQ}{b:au}(h:Tp u s st b){x:cK}(hc:SR (fe u s x))(i:Nat):Tp u s (gT u s i x st) (cG b (fe u s x)):=by
 unfold gT;cases k:st.any (same x (en u x)) with
 |true=>
  simp only[cond_true];obtain ⟨y,a,f⟩:=List.any_eq_true.1 k;have d:=h.le y a;have e:y.high=fe u s x:=by
   rw[d.2.2];unfold same at f;simp only[Bool.and_eq_true,beq_iff_eq] at f;obtain ⟨e1,e2,g⟩:=f;unfold fe;have:y.spot.high=en u x:=by
    cases m:y.spot.high;cases n:en u x;rw[m,n] at e2 g;simp only at e2 g;rw[e2,g]
   rw[e1,this]
  have:cG b (fe u s x)=b:=by
   unfold cG;rw[<-e,d.1];rfl
  rw[this];exact h
 |false=>
  simp only[cond_false];obtain ⟨c,l,rfl⟩:∃c l,st=c::l:=by
   cases st with
   |nil=>exact absurd rfl h.ne
   |cons c l=>exact ⟨c,l,rfl⟩
  refine ⟨ax,?_,lA h.sm hc,fun y a=>?_⟩
  .rw[Jx,<-h.C1]
  .rcases List.mem_append.1 a with a|a
   .have d:=h.le y a;refine ⟨?_,d.2⟩;unfold cG;cases j:bN b (fe u s x) with
    |false=>exact d.1
    |true=>exact yX d.2.1.den.1 h.sm.den.1 hc.den.1 d.1 j
   .simp at a;subst a;refine ⟨?_,hc,rfl⟩;unfold cG;cases j:bN b (fe u s x) with
    |false=>exact j
    |true=>exact gZ _
theorem Tp.fold {u:an}{s:bx}:∀(l:List cK) (i:Nat) (st:List bQ) (b:au),1<=i->(∀x∈l,SR (fe u s x))->Tp u s st b->Tp u s (foldI (gT u s) i l st) (foldI (gM u s) i l b)
 |[],_,_,_,_,_,h=>h
 |x::l,i,st,b,hi,a,h=>by
  unfold foldI
  have e:gM u s i x b=cG b (fe u s x):=if_neg aa
  rw[e]
  exact Tp.fold l (i+1) _ _ aa (fun y c=>a y (List.mem_cons_of_mem _ c)) (h.step (a x (List.mem_cons_self ..)) i)
theorem Tp.all {u:an}{s:bx}(x:cK)(l:List cK)(b:∀y∈x::l,SR (fe u s y)):Tp u s (foldI (gT u s) 0 (x::l) []) (foldI (gM u s) 0 (x::l) ⟨0,0⟩):=by
 unfold foldI;have c:=b x (List.mem_cons_self ..);refine Tp.fold l 1 _ _ (Nat.le_refl _) (fun y a=>b y (List.mem_cons_of_mem _ a)) ⟨by simp[gT],?_,?_,?_⟩
 .simp[gT,gM,vb,foldI]
 .exact c
 .intro y a;simp[gT] at a;subst a;exact ⟨by simp[gM];exact gZ _,c,rfl⟩
section
variable {u:an}{s:bx}(F:Fit u)(hs:(1<=s.back/\s.back<=20)/\0<=s.high/\s.high<=60)
include F hs
theorem Jy:∀x∈u.props,SR (fe u s x):=fun x a=>by
 obtain ⟨i,hi,rfl⟩:=List.getElem_of_mem a
 obtain ⟨r,_,_,_,_,_,_,h⟩:=yZ F hs (i:=i) (List.getElem?_eq_getElem hi)
 exact h
theorem Jz:j8 u s=some (foldI (gT u s) 0 u.props []):=by
 have h:=F.props;unfold j8
 have:=jd (f:=ri u s) (ρ:=List bQ) (g:=gT u s) (I:=fun i st=>st.length<=i) u.props 0 [] (Nat.le_refl _) (fun j x st a b=>by
  have k:j<u.props.length:=(List.getElem?_eq_some_iff.1 a).1;obtain ⟨r,c,l,d,m,e,n,o⟩:=yZ F hs a;rw[Nat.zero_add] at b ⊢;unfold ri;simp only[c,ai,u7,d,CZ];unfold gT;cases p:st.any (same x (en u x)) with
  |true=>exact ⟨rfl,by simp only[cond_true];omega⟩
  |false=>
   simp only[cond_false,aG,ai,e];unfold dc;rw[if_pos (by simp;omega)]
   exact ⟨rfl,by simp;omega⟩)
 rw[this.1];rfl
theorem y2:kA u s=some (foldI (gM u s) 0 u.props ⟨0,0⟩,decide (0<(u.props.length:Int))):=by
 have m:=F.props;unfold kA
 have:=p5 (f:=pO u s) (g:=gM u s) (I:=fun i b=>i=0\/SR b) (fun b i=>(i,b)) u.props aa (fun i x b c h=>by
  have n:i<u.props.length:=(List.getElem?_eq_some_iff.1 c).1;obtain ⟨r,o,j,p,k,q,l,a⟩:=yZ F hs c;unfold pO;simp only;rw[show decide ((i:Int)<(u.props.length:Int))=true by simp;omega];simp only[cond_true];rw[show bt u.props (i:Int)=some x by unfold bt;rw[if_pos aa];simpa using c];have hw:IntKind.i64.wrap ((i:Int)+1)=((i+1:Nat):Int):=by rw[dj aa];rfl
  simp only[ai,j,k,l,hw];unfold gM;by_cases d:i=0
  .subst d;have e:cG (fe u s x) (fe u s x)=fe u s x:=by unfold cG;rw[gZ];rfl
   rw[show (((0:Nat):Int)==0)=true from rfl];simp only[cond_true,sk a a,e,if_pos];exact ⟨trivial,.inr a⟩
  .have hb:SR b:=h.resolve_left d;rw[show (((i:Nat):Int)==0)=false by simp;omega];simp only[cond_false,sk hb a,if_neg d]
   exact ⟨trivial,.inr (lA hb a)⟩) (fun b=>by unfold pO;simp) (⟨0,0⟩:au) (.inl rfl)
 rw[this.1];rfl
theorem C2:(u.props=[]/\j8 u s=some []/\kA u s=some (⟨0,0⟩,false))\/
  ∃st b,j8 u s=some st/\kA u s=some (b,true)/\Tp u s st b:=by
 have a:=Jz F hs
 have c:=y2 F hs
 have d:=Jy F hs
 cases e:u.props with
 |nil=>
  rw[e] at a c
  exact .inl ⟨rfl,a,c⟩
 |cons x l=>
  rw[e] at a c d
  refine .inr ⟨_,_,a,?_,Tp.all x l d⟩
  rw[c]
  rw[show decide (0<((x::l).length:Int))=true by simp]
end
theorem mw {a b c:au}(e:0<a.den)(hb:0<b.den)(hc:0<c.den)(d:bN a b=false)(f:bN b c=false):bN a c=false:=by
 cases h:bN a c with
 |false=>rfl
 |true=>
  have:=yX hb e hc d h;unfold bN at*;simp only[decide_eq_false_iff_not,decide_eq_true_eq,Int.not_lt] at*;have k1:b.num*a.den*c.den<=a.num*b.den*c.den:=Int.mul_le_mul_of_nonneg_right d aa;have g:a.num*c.den*b.den<c.num*a.den*b.den:=Int.mul_lt_mul_of_pos_right h hb;have i:c.num*b.den*a.den<=b.num*c.den*a.den:=Int.mul_le_mul_of_nonneg_right f aa;have e1:a.num*b.den*c.den=a.num*c.den*b.den:=by grind
  have e2:c.num*b.den*a.den=c.num*a.den*b.den:=by grind
  have j:b.num*c.den*a.den=b.num*a.den*c.den:=by grind
  omega
theorem JA {a b c:au}(d:0<a.den)(hb:0<b.den)(hc:0<c.den)(e:bN a b=true)(f:bN b c=true):bN a c=true:=by
 unfold bN at*;simp only[decide_eq_true_eq] at*;have k1:a.num*b.den*c.den<b.num*a.den*c.den:=Int.mul_lt_mul_of_pos_right e hc;have h:b.num*c.den*a.den<c.num*b.den*a.den:=Int.mul_lt_mul_of_pos_right f d;have g:b.den*(a.num*c.den)<b.den*(c.num*a.den):=by
  have e1:b.den*(a.num*c.den)=a.num*b.den*c.den:=by grind
  have e2:b.den*(c.num*a.den)=c.num*b.den*a.den:=by grind
  have i:b.num*a.den*c.den=b.num*c.den*a.den:=by grind
  omega
 exact Int.lt_of_mul_lt_mul_left g aa
theorem C3 {e y:au}(he:SR e)(a:SR y):∀(l:List bQ) (b:au),(∀x∈l,SR x.high)->SR b->∀(i j:Nat),
  foldI (fun _ (x:bQ) st=>cG st x.high) i l (cG e b)=cG e (foldI (fun _ (x:bQ) st=>cG st x.high) j l b)
 |[],b,_,_,i,j=>rfl
 |x::l,b,g,hb,i,j=>by
  unfold foldI
  have c:=g x (List.mem_cons_self ..)
  have key:cG (cG e b) x.high=cG e (cG b x.high):=by
   unfold cG
   cases d:bN e b<;>cases f:bN b x.high<;>simp only[cond_true,cond_false,d,f]
   .have:=mw he.den.1 hb.den.1 c.den.1 d f
    rw[this];rfl
   .rw[JA he.den.1 hb.den.1 c.den.1 d f]
    rfl
  rw[key]
  exact C3 he a l _ (fun y a=>g y (List.mem_cons_of_mem _ a)) (lA hb c) (i+1) (j+1)
theorem C4:∀(l:List bQ) (i:Nat) (c:bQ),(foldI gC i l c).high=foldI (fun _ (x:bQ) st=>cG st x.high) i l c.high
 |[],_,_=>rfl
 |x::l,i,c=>by
  unfold foldI
  rw[C4 l (i+1)]
  congr 1
  unfold gC cG
  cases bN c.high x.high<;>rfl
theorem C5 {a b:au}(c:SR a)(hb:SR b):gF eZ a [b]=some (cG a b):=by
 unfold gF bU k5;simp only[(jL c hb).2,ai];unfold cG;cases bN a b<;>rfl
theorem JB {f:Nat->bQ->au->Option (Fl au au)}(c:f=ny\/f=nB){st:List bQ}(d:∀x∈st,SR x.high){e:au}(he:SR e):
  bU f 0 st e=some (.nx (foldI (fun _ (x:bQ) st=>cG st x.high) 0 st e))/\SR (foldI (fun _ (x:bQ) st=>cG st x.high) 0 st e):=
 jd (I:=fun _ r=>SR r) st 0 e he (fun j x r g a=>by
  have b:=d x (List.mem_of_getElem? g)
  rcases c with rfl|rfl
  .unfold ny
   simp only[C5 a b,ai]
   exact ⟨trivial,lA a b⟩
  .unfold nB
   simp only[C5 a b,ai]
   exact ⟨trivial,lA a b⟩)
section
variable {u:an}{s:bx}(F:Fit u)(hs:(1<=s.back/\s.back<=20)/\0<=s.high/\s.high<=60)
include F hs
theorem C6 {a b:au}(c:SR a)(hb:SR b):∃d,j7 a b=some d/\iZ a b=some d/\Sm d 40000000000 64000000:=by
 have e:=yU c hb aB aB aB;have f:=yT c hb aB aB;refine ⟨_,e,f,?_⟩;have g:=dX c.num (show b.den.natAbs<=8000 by have:=hb.den;omega);have h:=dX hb.num (show a.den.natAbs<=8000 by have:=c.den;omega);have i:=dX (show a.den.natAbs<=8000 by have:=c.den;omega) (show b.den.natAbs<=8000 by have:=hb.den;omega);have j:0<a.den*b.den:=Int.mul_pos c.den.1 hb.den.1;have:=jK (a.num*b.den - b.num*a.den) (a.den*b.den).toNat aa;exact ⟨Nat.le_trans this.num aa,this.den.1,by have:=this.den.2;omega⟩
theorem C7:Sm (⟨0,1⟩:au) 1 1:=⟨aB,aB,aB⟩
theorem C8 {d:au}(hd:Sm d 40000000000 64000000):∃m,gF eZ d [⟨0,1⟩]=some m/\fY d ⟨0,1⟩=some m/\Sm m 40000000000 64000000:=by
 have a:=od hd (C7 F hs) aB aB;refine ⟨cond (bN d ⟨0,1⟩) ⟨0,1⟩ d,?_,?_,?_⟩
 .unfold gF bU k5;simp only[a.2,ai];unfold bN;cases decide (d.num*(⟨0,1⟩:au).den<(⟨0,1⟩:au).num*d.den)<;>rfl
 .unfold fY;simp only[a.1,ai];unfold bN;cases decide (d.num*(⟨0,1⟩:au).den<(⟨0,1⟩:au).num*d.den)<;>rfl
 .cases bN d ⟨0,1⟩
  .exact hd
  .exact (C7 F hs).mono aB aB
theorem C9 {f:Nat->bQ->au->Option (Fl au au)}(j:f=ny\/f=nB){e:au}(he:SR e):
  ∃st m,j8 u s=some st/\bU f 0 st e=some (.nx m)/\SR m/\((kA u s=some (⟨0,0⟩,false)/\m=e)\/∃b,kA u s=some (b,true)/\fY e b=some m):=by
 rcases C2 F hs with ⟨_,d,g⟩|⟨st,b,d,g,a⟩
 .exact ⟨[],e,d,rfl,he,.inl ⟨g,rfl⟩⟩
 .have h:∀x∈st,SR x.high:=fun x i=>(a.le x i).2.1
  obtain ⟨k1,k⟩:=JB j h he
  refine ⟨st,_,d,k1,k,.inr ⟨b,g,?_⟩⟩
  rw[sk he a.sm]
  obtain ⟨c,l,rfl⟩:∃c l,st=c::l:=by
   cases st with
   |nil=>exact absurd rfl a.ne
   |cons c l=>exact ⟨c,l,rfl⟩
  have hc:=h c (List.mem_cons_self ..)
  have e1:b=foldI (fun _ (x:bQ) st=>cG st x.high) 0 l c.high:=by rw[a.C1];exact C4 l 0 c
  have e2:=C3 he hc l c.high (fun x i=>h x (List.mem_cons_of_mem _ i)) hc 1 0
  congr 1
  rw[e1,<-e2]
  rfl
theorem y3:∃r,k6 u s=some r/\lp u s=some r/\Sm r 40000000000 64000000:=by
 obtain ⟨c,j,k,g,l⟩:=se F hs;have e2:c.high=(eH u s).2:=by rw[<-k]
 have p:SR (⟨u.b6,1⟩:au):=(si F hs).mono aB aB;unfold k6 lp;rw[j,l];simp only[ai,u7,<-e2,(jL g p).1,(jL g p).2];cases bN c.high ⟨u.b6,1⟩ with
 |true=>
  simp only[cond_true];obtain ⟨st,m,t1,t2,t3,t4⟩:=C9 F hs (.inl rfl) (f:=ny) g;obtain ⟨d,d1,d2,d3⟩:=C6 F hs p t3;obtain ⟨z,h,a,e⟩:=C8 F hs d3;simp only[t1,t2,aG,d1,h];rcases t4 with ⟨k1,rfl⟩|⟨b,k1,i⟩
  .simp only[k1,cond_false,d2,a];exact ⟨z,rfl,rfl,e⟩
  .simp only[k1,cond_true,i,d2,a];exact ⟨z,rfl,rfl,e⟩
 |false=>
  simp only[cond_false];obtain ⟨st,m,t1,t2,t3,t4⟩:=C9 F hs (.inr rfl) (f:=nB) p;obtain ⟨d,d1,d2,d3⟩:=C6 F hs g t3;obtain ⟨z,h,a,e⟩:=C8 F hs d3;simp only[t1,t2,aG,d1,h];rcases t4 with ⟨k1,rfl⟩|⟨b,k1,i⟩
  .simp only[k1,cond_false,d2,a];exact ⟨z,rfl,rfl,e⟩
  .simp only[k1,cond_true,i,d2,a];exact ⟨z,rfl,rfl,e⟩
theorem JC:∃b,gU u s=some b/\lq u s=some b:=by
 obtain ⟨r,c,d,e⟩:=y3 F hs;have f:Sm u.bw 20 20:=⟨by have:=F.num;omega,by have:=F.den;omega,by have:=F.den;omega⟩
 have a:=od f e aB aB;unfold gU lq;simp only[c,d,a.1,a.2,ai];exact ⟨_,rfl,rfl⟩
end
def fJ {α ρ:Type}(t:Nat->α->Option ρ):Nat->List α->Option ρ
 |_,[]=>none
 |i,x::l=>match t i x with
  |some r=>some r
  |none=>fJ t (i+1) l
def g5 {σ ρ:Type}(o:Option ρ)(s:σ):Fl σ ρ:=match o with
 |some r=>.rt r
 |none=>.nx s
theorem vc {α σ ρ:Type}{f:Nat->α->σ->Option (Fl σ ρ)}{t:Nat->α->Option ρ}:∀(l:List α) (i:Nat) (s:σ),(∀j x s,l[j]?=some x->f (i+j) x s=some (g5 (t (i+j) x) s))->bU f i l s=some (g5 (fJ t i l) s)
 |[],i,s,_=>rfl
 |x::l,i,s,h=>by
  have a:=h 0 x s rfl
  simp only[Nat.add_zero] at a
  unfold bU fJ
  rw[a]
  cases ht:t i x with
  |some r=>rfl
  |none=>
   show bU f (i+1) l s=_
   exact vc l (i+1) s fun j y s b=>by
    have:=h (j+1) y s (by simpa using b)
    rwa [show i+(j+1)=i+1+j by omega] at this
theorem Da {α σ ρ:Type}{f:σ×Int->Option (Fl (σ×Int) ρ)}{t:Nat->α->Option ρ}(l:List α)(h:∀(i:Nat) x s,l[i]?=some x->f (s,(i:Int))=some (g5 (t i x) (s,((i+1:Nat):Int))))(a:∀s,f (s,(l.length:Int))=some (.bk (s,(l.length:Int)))):
  ∀(k i n:Nat) (s:σ),i+k=l.length->k<n->aY f n (s,(i:Int))=some (g5 (fJ t i (l.drop i)) (s,(l.length:Int)))
 |0,i,n+1,s,hi,_=>by
  obtain rfl:i=l.length:=aa
  unfold aY
  rw[a,List.drop_length]
  rfl
 |k+1,i,n+1,s,hi,d=>by
  have b:i<l.length:=aa
  have c:l[i]?=some l[i]:=List.getElem?_eq_getElem b
  unfold aY
  rw[h i _ s c,List.drop_eq_getElem_cons b]
  unfold fJ
  cases ht:t i l[i] with
  |some r=>rfl
  |none=>exact Da l h a k (i+1) n s aa aa
theorem Db {α σ ρ:Type}{f:σ×Int->Option (Fl (σ×Int) ρ)}{t:Nat->α->Option ρ}(l:List α)(a:l.length<=1000)(h:∀(i:Nat) x s,l[i]?=some x->f (s,(i:Int))=some (g5 (t i x) (s,((i+1:Nat):Int))))(b:∀s,f (s,(l.length:Int))=some (.bk (s,(l.length:Int))))(s:σ):
  aY f fu (s,0)=some (g5 (fJ t 0 l) (s,(l.length:Int))):=by
 have:=Da l h b l.length 0 fu s aa (Nat.lt_of_le_of_lt a aB)
 simpa using this
theorem Dc {α ρ:Type}{g:α->Bool}{r:ρ}:∀(l:List α) (i:Nat),fJ (fun _ x=>if g x then none else some r) i l=if l.all g then none else some r
 |[],_=>rfl
 |x::l,i=>by
  unfold fJ
  cases h:g x with
  |false=>simp[h]
  |true=>
   simp only[h,if_true,List.all_cons,Bool.true_and]
   exact Dc l (i+1)
theorem y4 {α:Type}{g:α->Bool}:∀(l:List α) (i:Nat),∃r,fJ (fun i x=>if g x then some (i:Int) else none) i l=r/\decide (0<=r.getD (-1))=l.any g
 |[],_=>⟨none,rfl,rfl⟩
 |x::l,i=>by
  unfold fJ
  cases h:g x with
  |true=>exact ⟨_,rfl,by simp[h]⟩
  |false=>
   obtain ⟨r,a,b⟩:=y4 l (i+1) (g:=g)
   exact ⟨r,by simpa using a,by simpa [h] using b⟩
theorem eo {α:Type}{l:List α}{i:Nat}{x:α}(h:l[i]?=some x):bt l (i:Int)=some x:=by
 unfold bt;rw[if_pos aa];simpa using h
theorem y5 {α:Type}{l:List α}{i:Int}{x:α}(a:0<=i)(h:l[i.toNat]?=some x):bt l i=some x:=by
 unfold bt;rw[if_pos a,h]
theorem contains_eq {f:cn->Option Bool}{g:cn->Bool}(l:List cn)(h:∀x,x∈l->f x=some (g x)):rq l f=some (l.any g):=by
 unfold rq tY
 rw[vc (t:=fun i x=>if g x then some (i:Int) else none) l 0 0 fun j x s a=>by
  unfold tX;rw[h x (List.mem_of_getElem? a)]
  cases g x<;>rfl]
 obtain ⟨r,b,c⟩:=y4 (g:=g) l 0;rw[b,<-c];cases r<;>rfl
def dy (u:an)(s:bx):Bool:=(gU u s).getD false
theorem mz {u:an}(F:Fit u){s:bx}(hs:(1<=s.back/\s.back<=20)/\0<=s.high/\s.high<=60):gU u s=some (dy u s)/\lq u s=some (dy u s):=by
 obtain ⟨b,a,c⟩:=JC F hs;have e:dy u s=b:=by unfold dy;rw[a];rfl
 rw[e];exact ⟨a,c⟩
def cT (u:an)(i:Nat)(n:Int):bx:=⟨(u.aH[i]?.map (·.back)).getD 0,n⟩
structure mA (u:an)(h:List Int):Prop where
 len:h.length=u.aH.length
 sn:∀(i:Nat) e,u.aH[i]?=some e->∃n,h[i]?=some n/\e.high.low<=n/\n<=e.high.high
def lB (u:an)(h:List Int)(t:cn):Bool:=dy u (cT u t.bA.toNat (h[t.bA.toNat]?.getD 0))==t.bJ
def fO (u:an)(h:List Int):Bool:=u.told.all (lB u h)
theorem Dd {u:an}{h:List Int}(H:mA u h){i:Int}(f:0<=i)(g:i<u.aH.length)(F:Fit u):∃e n,u.aH[i.toNat]?=some e/\h[i.toNat]?=some n/\cT u i.toNat n=⟨e.back,n⟩/\(1<=e.back/\e.back<=20)/\0<=n/\n<=60:=by
 have c:u.aH[i.toNat]?=some (u.aH[i.toNat]'aa):=List.getElem?_eq_getElem _;obtain ⟨n,d,a,b⟩:=H.sn _ _ c;obtain ⟨c1,c2,c3,c4,j⟩:=F.bA _ _ c;refine ⟨_,n,c,d,?_,c1,aa,aa⟩;unfold cT;rw[c];rfl
theorem De {u:an}(F:Fit u){h:List Int}(H:mA u h):n4 u h=some (fO u h):=by
 unfold n4;rw[Db (t:=fun _ x=>if lB u h x then none else some false) u.told (by have:=F.told;omega) (s:=false) (fun i x s c=>?_) (fun s=>?_)]
 .rw[Dc];unfold fO;cases u.told.all (lB u h)<;>rfl
 .obtain ⟨a,b⟩:=F.yQ i x c;obtain ⟨e,n,f,d,g,j,k⟩:=Dd H a b F;have l:i<u.told.length:=(List.getElem?_eq_some_iff.1 c).1;have ht:=F.told;unfold rR ir;rw[show decide (((i:Nat):Int)<(u.told.length:Int))=true by simp;omega];simp only[cond_true,eo c,ai,y5 a f,y5 a d,(mz F (s:=⟨e.back,n⟩) ⟨j,k⟩).2];rw[dj (n:=(i:Int)+1) aa];unfold lB;rw[d];show _=some (g5 (if dy u (cT u x.bA.toNat n)==x.bJ then none else some false) (s,((i+1:Nat):Int)));rw[g];cases dy u ⟨e.back,n⟩==x.bJ<;>rfl
 .unfold rR;rw[show decide ((u.told.length:Int)<(u.told.length:Int))=false by simp];rfl
def cA (l:List Int):bp:=⟨l[0]?.getD 0,l[1]?.getD 0,l[2]?.getD 0⟩
theorem so {l:List Int}{i:Int}{n:Int}(a:0<=i)(b:i<3)(h:l[i.toNat]?=some n):bp.get (cA l) i=some n:=by
 unfold bp.get cA;rcases (show i=0\/i=1\/i=2 by omega) with rfl|rfl|rfl<;>simp at h<;>simp[h]
theorem JD {u:an}(F:Fit u){h:List Int}(H:mA u h):pe u (cA h)=some (fO u h):=by
 unfold pe
 rw[contains_eq (g:=fun t=>!lB u h t) u.told fun x d=>by
  obtain ⟨i,hi⟩:=List.mem_iff_getElem?.1 d;obtain ⟨a,b⟩:=F.yQ i x hi;obtain ⟨e,n,f,c,j,k,l⟩:=Dd H a b F;have:=F.aH;unfold ry ij;simp only[so a aa c,ai,y5 a f,(mz F (s:=⟨e.back,n⟩) ⟨k,l⟩).1];unfold lB;rw[c];show _=some (!(dy u (cT u x.bA.toNat n)==x.bJ))
  rw[j]]
 simp only[ai];unfold fO;rw[show (u.told.any fun t=>!lB u h t)=!(u.told.all (lB u h)) by rw[List.all_eq_not_any_not];simp];simp
def dF (b:dI):List Int:=(List.range (b.high - b.low+1).toNat).map fun k=>b.low+(k:Nat)
theorem JE {b:dI}{i:Nat}{x:Int}(h:(dF b)[i]?=some x):x=b.low+i/\b.low+i<=b.high:=by
 unfold dF at h;rw[List.getElem?_map,Option.map_eq_some_iff] at h;obtain ⟨k,c,rfl⟩:=h;obtain ⟨d,a⟩:=List.getElem?_eq_some_iff.1 c;simp at d a;subst a;exact ⟨rfl,aa⟩
theorem sr (b:dI):(dF b).length=(b.high - b.low+1).toNat:=by simp[dF]
theorem y6 {b:dI}{x:Int}:x∈dF b↔b.low<=x/\x<=b.high:=by
 unfold dF;rw[List.mem_map];constructor
 .rintro ⟨k,a,rfl⟩;rw[List.mem_range] at a;omega
 .rintro ⟨c,d⟩;exact ⟨(x - b.low).toNat,by rw[List.mem_range];omega,aa⟩
def lC (b:dI)(all:List (List Int)):List (List Int):=all.flatMap fun p=>(dF b).map fun n=>p++[n]
def eA (p:List Int):List cu->List (List Int)
 |[]=>[p]
 |e::l=>(dF e.high).flatMap fun n=>eA (p++[n]) l
def bF (u:an):List (List Int):=(eA [] u.aH).filter (fO u)
theorem su {α β:Type}(g:α->List β):∀(l:List α) (i:Nat) (s:List β),foldI (fun _ x s=>s++g x) i l s=s++l.flatMap g
 |[],_,s=>by simp[foldI]
 |x::l,i,s=>by
  unfold foldI
  rw[su g l]
  simp[List.flatMap_cons]
theorem Df:∀(l:List cu) (i:Nat) (all:List (List Int)),foldI (fun _ (e:cu) all=>lC e.high all) i l all=all.flatMap fun p=>eA p l
 |[],_,all=>by
  unfold foldI
  show all=all.flatMap fun p=>[p]
  induction all with
  |nil=>rfl
  |cons a l ih=>rw[List.flatMap_cons,<-ih];rfl
 |e::l,i,all=>by
  unfold foldI
  rw[Df l]
  unfold lC
  rw[List.flatMap_assoc]
  congr 1
  funext p
  rw[List.flatMap_map]
  rfl
theorem y7:∀(l:List cu) (p h:List Int),h∈eA p l->h.length=p.length+l.length/\(∀(j:Nat) e,l[j]?=some e->∃n,h[p.length+j]?=some n/\e.high.low<=n/\n<=e.high.high)/\∀j,j<p.length->h[j]?=p[j]?
 |[],p,h,hm=>by
  simp only[eA,List.mem_singleton] at hm
  subst hm
  exact ⟨rfl,fun j e he=>by simp at he,fun _ _=>rfl⟩
 |e::l,p,h,hm=>by
  unfold eA at hm
  rw[List.mem_flatMap] at hm
  obtain ⟨n,d,hm⟩:=hm
  obtain ⟨f,c,a⟩:=y7 l _ _ hm
  rw[List.length_append,List.length_singleton] at f c a
  refine ⟨by simp;omega,fun j x b=>?_,fun j g=>?_⟩
  .cases j with
   |zero=>
    simp at b;subst b
    refine ⟨n,?_,y6.1 d⟩
    rw[Nat.add_zero,a _ aa,List.getElem?_append_right (Nat.le_refl _)]
    simp
   |succ j=>
    obtain ⟨m,hm,hb⟩:=c j x (by simpa using b)
    exact ⟨m,by rw[<-hm];congr 1;omega,hb⟩
  .rw[a j aa,List.getElem?_append_left g]
theorem y8 {u:an}{h:List Int}(hm:h∈eA [] u.aH):mA u h:=by
 obtain ⟨a,b,_⟩:=y7 _ _ _ hm;exact ⟨by simpa using a,fun i e he=>by simpa using b i e he⟩
theorem Dg {b:dI}(hb:b.high - b.low<3):∀(all:List (List Int)),(lC b all).length<=all.length*3
 |[]=>by simp[lC]
 |p::all=>by
  have:=Dg hb all
  unfold lC at this ⊢
  rw[List.flatMap_cons,List.length_append,List.length_map,sr,List.length_cons]
  omega
theorem jM {α:Type}{l xs:List α}(h:l.length+xs.length<=1000000):dc l xs=some (l++xs):=by
 unfold dc;rw[if_pos h]
theorem JG {all:List (List Int)}{k:Nat}{p:List Int}{e:cu}(b:all[k]?=some p)(d:p.length<=100)(he:0<=e.high.low/\e.high.low<=e.high.high/\e.high.high<=60/\e.high.high - e.high.low<3)(s:List (List Int))(hs:s.length<=1000):
  aY (n5 all (k:Int) e) fu (s,e.high.low)=some (.nx (s++(dF e.high).map (fun n=>p++[n]),e.high.high+1)):=by
 have key:=p5 (f:=n5 all (k:Int) e) (g:=fun _ x s=>s++[p++[x]]) (I:=fun i s=>s.length<=1000+i) (fun s i=>(s,e.high.low+i)) (dF e.high) (by rw[sr];omega)
  (fun i x s c h=>by
   obtain ⟨rfl,hb⟩:=JE c
   refine ⟨?_,by simp;omega⟩
   unfold n5
   rw[show decide ((s,e.high.low+(i:Int)).2<=e.high.high)=true by simpa using hb]
   simp only[cond_true,eo b,ai,jM (l:=([]:List Int)) (xs:=p) (by simp;omega),List.nil_append,jM (l:=p) (xs:=[e.high.low+(i:Int)]) (by simp;omega),jM (l:=s) (xs:=[p++[e.high.low+(i:Int)]]) (by simp;omega)]
   rw[dj (n:=e.high.low+(i:Int)+1) aa]
   simp;omega)
  (fun s=>by
   unfold n5
   rw[show decide ((s,e.high.low+((dF e.high).length:Int)).2<=e.high.high)=false by rw[sr];simp;omega]
   rfl) s aa
 have:=key.1
 rw[su (fun x=>[p++[x]])] at this
 simp only[Int.add_zero] at this
 rw[this]
 congr 2
 refine Prod.ext ?_ ?_
 .simp only[List.append_cancel_left_eq]
  induction dF e.high with
  |nil=>rfl
  |cons a l ih=>simp[ih]
 .simp only[sr];omega
theorem JH {u:an}{all:List (List Int)}{i:Nat}{e:cu}(hi:u.aH[i]?=some e)(b:∀p∈all,p.length<=100)(c:all.length<=100)(he:0<=e.high.low/\e.high.low<=e.high.high/\e.high.high<=60/\e.high.high - e.high.low<3):
  aY (n6 u all (i:Int)) fu (([]:List (List Int)),0)=some (.nx (lC e.high all,(all.length:Int))):=by
 have key:=p5 (f:=n6 u all (i:Int)) (g:=fun _ p s=>s++(dF e.high).map fun n=>p++[n]) (I:=fun i s=>s.length<=3*i/\i<=all.length) (fun s i=>(s,i)) all aa
  (fun k p s a d=>by
   have h:k<all.length:=(List.getElem?_eq_some_iff.1 a).1
   refine ⟨?_,by simp[sr];omega,aa⟩
   unfold n6
   rw[show decide ((s,(k:Int)).2<(all.length:Int))=true by simp;omega]
   simp only[cond_true,eo hi,ai,JG a (b p (List.mem_of_getElem? a)) he s aa,aG]
   rw[dj (n:=(k:Int)+1) aa]
   rfl)
  (fun s=>by
   unfold n6
   rw[show decide ((s,(all.length:Int)).2<(all.length:Int))=false by simp]
   rfl) ([]:List (List Int)) ⟨ax,aa⟩
 have:=key.1
 rw[su (fun p=>(dF e.high).map fun n=>p++[n])] at this
 simpa [lC] using this
theorem Dh {u:an}:∀(l:List (List Int)) (i:Nat) (s:List (List Int)),foldI (fun _ x s=>if fO u x then s++[x] else s) i l s=s++l.filter (fO u)
 |[],_,s=>by simp[foldI]
 |x::l,i,s=>by
  unfold foldI
  rw[Dh l]
  cases h:fO u x<;>simp[h]
theorem three (i:Nat)(h:i<=3):3 ^ i<=27:=by
 rcases (show i=0\/i=1\/i=2\/i=3 by omega) with rfl|rfl|rfl|rfl<;>decide
theorem jN {u:an}(F:Fit u):pQ u=some (bF u)/\(bF u).length<=27:=by
 have r:=F.aH;have key:=p5 (f:=pP u) (g:=fun _ (e:cu) all=>lC e.high all) (I:=fun i all=>(∀p∈all,p.length=i)/\all.length<=3 ^ i/\i<=u.aH.length) (fun s i=>(s,i)) u.aH aa
  (fun i e all hi c=>by
   obtain ⟨d,t,v⟩:=c;have k:i<u.aH.length:=(List.getElem?_eq_some_iff.1 hi).1;have he:=(F.bA i e hi).2;have w:=three i aa;have hs:=Dg he.2.2.2 all;refine ⟨?_,fun p a=>?_,by rw[Nat.pow_succ];omega,aa⟩
   .unfold pP;rw[show decide ((all,(i:Int)).2<(u.aH.length:Int))=true by simp;omega];simp only[cond_true,JH hi (fun p a=>by have:=d p a;omega) aa he,ai,aG];rw[dj (n:=(i:Int)+1) aa];rfl
   .unfold lC at a;rw[List.mem_flatMap] at a;obtain ⟨q,m,a⟩:=a;rw[List.mem_map] at a;obtain ⟨n,_,rfl⟩:=a
    simp[d q m])
  (fun s=>by
   unfold pP;rw[show decide ((s,(u.aH.length:Int)).2<(u.aH.length:Int))=false by simp]
   rfl) [[]] ⟨ax,ax,aa⟩
 obtain ⟨k1,b⟩:=key;rw[Df] at k1 b;simp only[List.flatMap_cons,List.flatMap_nil,List.append_nil] at k1 b;have hlen:(eA [] u.aH).length<=27:=Nat.le_trans b.2.1 (three _ aa);have j:=p5 (f:=uM u (eA [] u.aH)) (g:=fun _ x s=>if fO u x then s++[x] else s) (I:=fun i s=>s.length<=i/\i<=(eA [] u.aH).length) (fun s i=>(s,i)) (eA [] u.aH) aa
  (fun i h s hi c=>by
   have k:i<(eA [] u.aH).length:=(List.getElem?_eq_some_iff.1 hi).1;have o:=De F (y8 (List.mem_of_getElem? hi));refine ⟨?_,by cases fO u h<;>simp<;>omega,aa⟩;unfold uM;rw[show decide ((s,(i:Int)).2<((eA [] u.aH).length:Int))=true by simp;omega];simp only[cond_true,eo hi,ai,o];rw[dj (n:=(i:Int)+1) aa];cases fO u h with
   |false=>rfl
   |true=>simp only[cond_true,jM (l:=s) (xs:=[h]) (by simp;omega)];rfl)
  (fun s=>by
   unfold uM;rw[show decide ((s,((eA [] u.aH).length:Int)).2<((eA [] u.aH).length:Int))=false by simp]
   rfl) ([]:List (List Int)) ⟨ax,aa⟩
 rw[Dh] at j;refine ⟨?_,Nat.le_trans (List.length_filter_le _ _) hlen⟩;unfold pQ;rw[k1];simp only[ai,aG];rw[j.1];simp only[List.nil_append];rfl
def co (h:bp)(j:Nat):Int:=if j=0 then h.e0 else if j=1 then h.e1 else if j=2 then h.e2 else 0
theorem JI (h:bp){j:Nat}(d:j<3)(n:Int):∃a,h.setAt (j:Int) n=some a/\∀i,co a i=if i=j then n else co h i:=by
 rcases (show j=0\/j=1\/j=2 by omega) with rfl|rfl|rfl
 .refine ⟨{h with e0:=n},rfl,fun i=>?_⟩;unfold co;split<;>rfl
 .refine ⟨{h with e1:=n},rfl,fun i=>?_⟩;unfold co;by_cases b:i=0<;>by_cases a:i=1<;>simp[b,a]<;>omega
 .refine ⟨{h with e2:=n},rfl,fun i=>?_⟩;unfold co;by_cases b:i=0<;>by_cases a:i=1<;>by_cases c:i=2<;>simp[b,a,c]<;>omega
structure Ag (u:an)(p:List Int)(h:bp):Prop where
 at_:∀(j:Nat) n,p[j]?=some n->co h j=n
 no:∀j,u.aH.length<=j->co h j=0
theorem Ag.cA {u:an}{p:List Int}{h:bp}(H:Ag u p h)(a:p.length=u.aH.length):h=cA p:=by
 have key:∀j,co h j=p[j]?.getD 0:=fun j=>by
  cases e:p[j]? with
  |some n=>exact H.at_ j n e
  |none=>exact H.no j (by rw[<-a];exact List.getElem?_eq_none_iff.1 e)
 have b:=key 0;have k1:=key 1;have c:=key 2;cases h;unfold Go.Proofs.YtbpddfapodiemaaGreatDoor.cA;rw[<-b,<-k1,<-c];rfl
theorem Ag.set {u:an}{p:List Int}{h:bp}(H:Ag u p h)(c:p.length<u.aH.length)(d:u.aH.length<=3)(n:Int):∃a,h.setAt (p.length:Int) n=some a/\Ag u (p++[n]) a:=by
 obtain ⟨a,e1,e2⟩:=JI h (j:=p.length) aa n;refine ⟨a,e1,fun j m hm=>?_,fun j b=>?_⟩
 .rw[e2];by_cases e:j=p.length
  .subst e;rw[if_pos rfl];simpa using hm
  .rw[if_neg e];refine H.at_ j m ?_;rw[<-hm,List.getElem?_append_left];have:=(List.getElem?_eq_some_iff.1 hm).1;simp at this;omega
 .rw[e2,if_neg aa];exact H.no j b
theorem Ag.cut {u:an}{p:List Int}{n:Int}{h:bp}(H:Ag u (p++[n]) h):Ag u p h:=
 ⟨fun j m hm=>H.at_ j m (by rw[List.getElem?_append_left (List.getElem?_eq_some_iff.1 hm).1];exact hm),H.no⟩
theorem JJ {a b:Int}(h:a<=b):dF ⟨a,b⟩=a::dF ⟨a+1,b⟩:=by
 unfold dF;simp only;rw[show (b - a+1).toNat=(b - (a+1)+1).toNat+1 by omega,List.range_succ_eq_map];simp only[List.map_cons,List.map_map,Function.comp_def];congr 1
 .simp
 .apply List.map_congr_left;intro k _;simp only[Nat.succ_eq_add_one];omega
theorem JK {a b:Int}(h:¬a<=b):dF ⟨a,b⟩=[]:=by
 unfold dF;simp only;rw[show (b - a+1).toNat=0 by omega];rfl
theorem Di {u:an}{p:List Int}(a:p.length<u.aH.length)(b:u.aH.length<=3){f:bp->List (Option bp)×bp}{G:Int->List (Option bp)}{lo hi:Int}(hb:0<=lo/\hi<=60)
  (d:∀n,lo<=n->n<=hi->∀h,Ag u (p++[n]) h->(f h).1=G n/\Ag u (p++[n]) (f h).2):
  ∀(k:Nat) (n:Int) (h:bp),Ag u p h->lo<=n->n<=61->61 - n<k->(jI f (p.length:Int) hi k n h).1=(dF ⟨n,hi⟩).flatMap G/\Ag u p (jI f (p.length:Int) hi k n h).2
 |0,n,h,H,e,g,i=>by omega
 |k+1,n,h,H,e,g,i=>by
  unfold jI
  by_cases c:n<=hi
  .rw[if_pos c,JJ c]
   obtain ⟨x,e1,e2⟩:=H.set a b n
   rw[e1]
   obtain ⟨j,l⟩:=d n e c x e2
   have w:IntKind.i64.wrap (n+1)=n+1:=dj aa
   obtain ⟨r1,r2⟩:=Di a b hb d k (n+1) (f x).2 l.cut aa aa aa
   simp only[w]
   exact ⟨by rw[j,r1,List.flatMap_cons],r2⟩
  .rw[if_neg c,JK c]
   exact ⟨rfl,H⟩
theorem Dj {u:an}(F:Fit u):∀(l:List cu) (p:List Int) (fuel:Nat) (h:bp),u.aH.drop p.length=l->p.length+l.length=u.aH.length->l.length<fuel->
  (∀(j:Nat) e,u.aH[j]?=some e->j<p.length->∃n,p[j]?=some n/\e.high.low<=n/\n<=e.high.high)->Ag u p h->
  (fy u fuel (p.length:Int) h).1=((eA p l).filter (fO u)).map (fun x=>some (cA x))/\Ag u p (fy u fuel (p.length:Int) h).2
 |l,p,0,h,hd,a,b,hb,H=>by omega
 |[],p,fuel+1,h,hd,a,b,hb,H=>by
  have a:p.length=u.aH.length:=by simpa using a
  unfold fy
  rw[if_pos aa]
  obtain rfl:=H.cA a
  have R:=JD F (h:=p) ⟨a,fun i e he=>hb i e he (by have:=(List.getElem?_eq_some_iff.1 he).1;omega)⟩
  refine ⟨?_,H⟩
  rw[R]
  unfold eA
  cases e:fO u p<;>simp[e]
 |e::l,p,fuel+1,h,hd,a,b,hb,H=>by
  simp only[List.length_cons] at a b
  have he:u.aH[p.length]?=some e:=by
   have:=congrArg List.head? hd
   simpa [List.head?_drop] using this
  have k:u.aH.drop (p.length+1)=l:=by
   have:=congrArg List.tail hd
   simpa [List.tail_drop] using this
  have o:=F.aH
  have g:=(F.bA _ _ he).2
  unfold fy
  rw[if_neg aa,eo he]
  have w:IntKind.i64.wrap ((p.length:Int)+1)=((p.length+1:Nat):Int):=by rw[dj aa];omega
  simp only[w]
  have key:=Di (u:=u) (p:=p) aa o.2 (f:=fy u fuel ((p.length+1:Nat):Int)) (G:=fun n=>((eA (p++[n]) l).filter (fO u)).map (fun x=>some (cA x))) (lo:=e.high.low) (hi:=e.high.high) ⟨g.1,g.2.2.1⟩
   (fun n n1 n2 x q=>by
    have:=Dj F l (p++[n]) fuel x (by simpa using k) (by simp;omega) aa (fun j y d r=>by
     by_cases c:j<p.length
     .obtain ⟨m,hm,s⟩:=hb j y d c
      exact ⟨m,by rw[List.getElem?_append_left c];exact hm,s⟩
     .simp at r
      obtain rfl:j=p.length:=aa
      rw[he] at d;cases d
      exact ⟨n,ax,n1,n2⟩) q
    simpa using this) 100 e.high.low h H (Int.le_refl _) aa aa
  refine ⟨?_,key.2⟩
  rw[key.1,show eA p (e::l)=(dF e.high).flatMap fun n=>eA (p++[n]) l from rfl,List.filter_flatMap,List.map_flatMap]
theorem JL (j:Nat):co ⟨0,0,0⟩ j=0:=by
 unfold co;split
 .rfl
 .split
  .rfl
  .split<;>rfl
theorem y9 {u:an}(F:Fit u):mc u=(bF u).map (fun x=>some (cA x)):=by
 have c:=F.aH;exact (Dj F u.aH [] 5 ⟨0,0,0⟩ rfl ax aa (fun j e _ a=>absurd a ax) ⟨fun j n b=>by simp at b,fun j _=>JL j⟩).1
theorem Dk:∀(l:List bp) (s:List bp),s.length+l.length<=1000000->fT pn (l.map some) s=some (.nx (s++l))
 |[],s,_=>by simp[fT]
 |x::l,s,h=>by
  simp only[List.length_cons] at h
  simp only[List.map_cons]
  have:=Dk l (s++[x]) (by simp;omega)
  rw[show s++x::l=s++[x]++l by simp,<-this]
  have e:pn x s=some (.nx (s++[x])):=by
   unfold pn
   rw[jM (by simp;omega)]
   rfl
  show fT _ (some x::l.map some) s=_
  rw[fT,e]
  rfl
theorem JM {l:List bp}(h:l.length<=1000):rC (l.map some)=some l:=by
 unfold rC uq;rw[Dk l [] (by simp;omega)];simp[ai,aG]
def ve:dh:=⟨uY,[]⟩
theorem za {u:an}{a:List (an->Option Int)}{c:Int}(h:fo u a=some (uY,c))(hc:c≠0):fW u a=some (ve,c):=by
 unfold fW;rw[h];simp only[ai];rw[show (c != 0)=true by simpa using hc];rfl
theorem oe {u:an}(F:Fit u){b:List (an->Option Int)}(h:fo u b=some (u,0)):fW u b=some (if (bF u).isEmpty then (ve,9) else (⟨u,(bF u).map cA⟩,0)):=by
 unfold fW;rw[h];simp only[ai];rw[show ((0:Int) != 0)=false by decide];simp only[cond_false];have c:=(jN F).2;rw[y9 F,show (bF u).map (fun x=>some (cA x))=((bF u).map cA).map some by simp,JM (by simp;omega)];simp only[ai];cases bF u with
 |nil=>rfl
 |cons a l=>
  rw[show ((((a::l).map cA).length:Int)==0)=false by simp;omega];rfl
structure sw (u:an):Prop where
 e:u.aK.length<=20
 p:u.props.length<=20
 y:u.aH.length<=20
 t:u.told.length<=20
theorem bars {u:an}(L:sw u):∃c,fN u=some c/\ja u=some c:=by
 obtain ⟨b,c,a⟩:=Jq u L.e L.p L.y L.t;exact ⟨c,a,b▸a⟩
theorem vf {u:an}(h:fN u=some 0):fo u []=some (u,0):=by
 unfold fo;rw[h];rfl
theorem Dl {u:an}{a c:Int}(h:ja u=some c)(hc:c≠0):gu u a=some ([],c):=by
 unfold gu;rw[h];simp only[ai];rw[show (c != 0)=true by simpa using hc];rfl
theorem JN {u:an}{a:Int}(h:ja u=some 0)(hc:a≠0):gu u a=some ([],a):=by
 unfold gu;rw[h];simp only[ai];rw[show ((0:Int) != 0)=false by decide,show (a != 0)=true by simpa using hc];rfl
theorem vg {u:an}(F:Fit u)(h:ja u=some 0):gu u 0=some (if (bF u).isEmpty then ([],9) else (bF u,0)):=by
 unfold gu;rw[h,(jN F).1];simp only[ai];rw[show ((0:Int) != 0)=false by decide];simp only[cond_false];cases bF u with
 |nil=>rfl
 |cons a l=>
  rw[show (((a::l).length:Int)==0)=false by simp;omega];rfl
theorem zb (u:an)(n:Int):e9 n u=some (cond (gY u n) 0 6):=by
 unfold e9;rw[(uS u n).2];simp only[ai];cases gY u n<;>rfl
theorem Dm {u:an}(F:Fit u){n:Int}:gY u n=true↔0<=n/\n<u.aH.length:=by
 have:=F.aH;unfold gY;rw[dj aa,gv];omega
theorem Dn {α β σ:Type}(f:α->β)(g:Nat->β->σ->σ):∀(l:List α) (i:Nat) (s:σ),foldI g i (l.map f) s=foldI (fun i x s=>g i (f x) s) i l s
 |[],_,_=>rfl
 |x::l,i,s=>by
  simp only[List.map_cons]
  unfold foldI
  exact Dn f g l (i+1) _
theorem Dp {α σ:Type}{g g':Nat->α->σ->σ}:∀(l:List α) (i:Nat) (s:σ),(∀j x s,x∈l->g j x s=g' j x s)->foldI g i l s=foldI g' i l s
 |[],_,_,_=>rfl
 |x::l,i,s,h=>by
  unfold foldI
  rw[h i x s (List.mem_cons_self ..)]
  exact Dp l (i+1) _ fun j y s a=>h j y s (List.mem_cons_of_mem _ a)
theorem mB {u:an}{h:List Int}(hm:h∈bF u):mA u h/\fO u h=true:=by
 obtain ⟨a,b⟩:=List.mem_filter.1 hm;exact ⟨y8 a,b⟩
section
variable {u:an}(F:Fit u){i:Nat}{e:cu}(he:u.aH[i]? = some e)
include F he
theorem lD {h:List Int}(hm:h∈bF u):∃n,h[i]?=some n/\cT u i (h[i]?.getD 0)=⟨e.back,n⟩/\(1<=e.back/\e.back<=20)/\0<=n/\n<=60:=by
 obtain ⟨n,c,a,b⟩:=(mB hm).1.sn i e he;obtain ⟨c1,c2,c3,c4,d⟩:=F.bA _ _ he;refine ⟨n,c,?_,c1,aa,aa⟩;rw[c];unfold cT;rw[he];rfl
end
def mC (o:Nat)(S:List Int)(i:Nat):List Int:=(List.replicate o (S.flatMap fun n=>List.replicate i n)).flatten
def p6:List (List Int):=[[0],[0,1],[0,2],[0,1,2]]
def og:List (Nat×Nat):=[(1,1),(1,2),(1,3),(1,4),(1,6),(1,9),(2,1),(3,1),(4,1),(6,1),(9,1),(2,2),(2,3),(3,2),(3,3)]
def ze (l:List Int):Option (List Int):=ai (rE l) fun x=>uC x.2
def p7 (c:Nat):Bool:=og.all fun p=>p6.all fun S=>ze (mC p.1 (S.map (· +(c:Int))) p.2)==some (S.map (· +(c:Int)))
theorem JO:∀c:Fin 16,p7 c.val=true:=by decide+kernel
theorem JP:∀c:Fin 16,p7 (16+c.val)=true:=by decide+kernel
theorem JQ:∀c:Fin 16,p7 (32+c.val)=true:=by decide+kernel
theorem JR:∀c:Fin 13,p7 (48+c.val)=true:=by decide+kernel
theorem JS {c:Nat}(h:c<=60):p7 c=true:=by
 rcases Nat.lt_or_ge c 16 with x|x
 .exact JO ⟨c,x⟩
 rcases Nat.lt_or_ge c 32 with y|y
 .have:=JP ⟨c - 16,aa⟩
  rwa [show 16+(c - 16)=c by omega] at this
 rcases Nat.lt_or_ge c 48 with z|z
 .have:=JQ ⟨c - 32,aa⟩
  rwa [show 32+(c - 32)=c by omega] at this
 .have:=JR ⟨c - 48,aa⟩
  rwa [show 48+(c - 48)=c by omega] at this
theorem JU {c:Nat}(h:c<=60){p:Nat×Nat}(a:p∈og){S:List Int}(b:S∈p6):ze (mC p.1 (S.map (· +(c:Int))) p.2)=some (S.map (· +(c:Int))):=by
 have:=JS h;unfold p7 at this;rw[List.all_eq_true] at this;have:=this p a;rw[List.all_eq_true] at this;simpa using this S b
def p8 (u:an)(i:Nat)(n:Int):Bool:=u.told.all fun t=>t.bA != (i:Int)||(dy u (cT u i n)==t.bJ)
def pL:List (List Int)->List (List Int)
 |[]=>[[]]
 |s::r=>s.flatMap fun n=>(pL r).map (n::·)
def kE (P:Nat->Int->Bool):Nat->List Int->Bool
 |_,[]=>true
 |i,x::r=>P i x&&kE P (i+1) r
def iL (P:Nat->Int->Bool):Nat->List (List Int)->List (List Int)
 |_,[]=>[]
 |i,s::r=>s.filter (P i)::iL P (i+1) r
def mD (u:an):List (List Int):=iL (p8 u) 0 (u.aH.map fun e=>dF e.high)
theorem zf:∀(l:List cu) (p:List Int),eA p l=(pL (l.map fun e=>dF e.high)).map (p++·)
 |[],p=>by simp[eA,pL]
 |e::l,p=>by
  unfold eA
  rw[List.map_cons]
  unfold pL
  rw[List.map_flatMap]
  congr 1
  funext n
  rw[zf l (p++[n]),List.map_map]
  refine List.map_congr_left fun q _=>?_
  simp
theorem Dq {α β:Type}(p:α->Bool)(f:α->List β):∀l:List α,(l.filter p).flatMap f=l.flatMap fun x=>if p x then f x else []
 |[]=>rfl
 |x::l=>by
  rw[List.flatMap_cons,<-Dq p f l,List.filter_cons]
  cases p x<;>simp
theorem Dr (P:Nat->Int->Bool):∀(S:List (List Int)) (i:Nat),(pL S).filter (kE P i)=pL (iL P i S)
 |[],i=>rfl
 |s::r,i=>by
  rw[show iL P i (s::r)=s.filter (P i)::iL P (i+1) r from rfl,show pL (s::r)=s.flatMap fun n=>(pL r).map (n::·) from rfl,
   show pL (s.filter (P i)::iL P (i+1) r)=(s.filter (P i)).flatMap fun n=>(pL (iL P (i+1) r)).map (n::·) from rfl]
  rw[Dq,List.filter_flatMap]
  congr 1
  funext n
  rw[List.filter_map]
  cases h:P i n with
  |false=>
   rw[show (kE P i ∘ fun x=>n::x)=fun _=>false by funext q;simp[kE,h]]
   simp
  |true=>
   rw[show (kE P i ∘ fun x=>n::x)=kE P (i+1) by funext q;simp[kE,h],Dr P r (i+1)]
   rfl
theorem Ds (P:Nat->Int->Bool):∀(h:List Int) (i:Nat),kE P i h=(List.range h.length).all fun j=>P (i+j) (h[j]?.getD 0)
 |[],i=>rfl
 |x::r,i=>by
  unfold kE
  rw[Ds P r (i+1),List.length_cons,List.range_succ_eq_map,List.all_cons,List.all_map]
  congr 1
  refine congrArg (fun f=>List.all _ f) ?_
  funext j
  simp only[Function.comp]
  rw[show i+1+j=i+(j+1) by omega]
  rfl
theorem JV {u:an}(F:Fit u){h:List Int}(H:mA u h):fO u h=kE (p8 u) 0 h:=by
 rw[Ds,Bool.eq_iff_iff];unfold fO;rw[List.all_eq_true,List.all_eq_true];constructor
 .intro a j d;rw[Nat.zero_add];unfold p8;rw[List.all_eq_true];intro t ht;by_cases c:t.bA=(j:Int)
  .have:=a t ht;unfold lB at this;rw[c,Int.toNat_natCast] at this;rw[this,Bool.or_true]
  .rw[show (t.bA != (j:Int))=true by simpa using c,Bool.true_or]
 .intro a t ht;obtain ⟨k,b⟩:=List.mem_iff_getElem?.1 ht;obtain ⟨e,b2⟩:=F.yQ k t b;have f:=H.len;have:=a t.bA.toNat (by rw[List.mem_range];omega);rw[Nat.zero_add] at this;unfold p8 at this;rw[List.all_eq_true] at this;have:=this t ht;rw[show (t.bA != (t.bA.toNat:Int))=false by rw[bne_eq_false_iff_eq];omega,Bool.false_or] at this;exact this
theorem Dt {u:an}(F:Fit u):bF u=pL (mD u):=by
 unfold bF mD;rw[<-Dr];have e:eA [] u.aH=pL (u.aH.map fun e=>dF e.high):=by rw[zf];simp
 rw[<-e];refine List.filter_congr fun h hm=>?_;exact JV F (y8 hm)
theorem Du:∀S:List (List Int),(pL S).length=(S.map List.length).foldr (· *·) 1
 |[]=>rfl
 |s::r=>by
  unfold pL
  rw[List.length_flatMap,List.map_cons,List.foldr_cons,<-Du r]
  simp only[List.length_map]
  rw[List.map_const',List.sum_replicate_nat]
theorem Dv {α:Type}(x:List α)(m:Nat):∀o:Nat,(List.replicate o (List.replicate m x).flatten).flatten=(List.replicate (o*m) x).flatten
 |0=>by simp
 |o+1=>by
  rw[List.replicate_succ,List.flatten_cons,Dv x m o,<-List.flatten_append,List.replicate_append_replicate]
  congr 2
  rw[Nat.add_mul];omega
theorem Dw {α β:Type}(x:List β):∀l:List α,l.flatMap (fun _=>x)=(List.replicate l.length x).flatten
 |[]=>rfl
 |a::l=>by rw[List.flatMap_cons,Dw x l,List.length_cons,List.replicate_succ,List.flatten_cons]
theorem Dx:∀(S:List (List Int)) (i:Nat) (s:List Int),S[i]?=some s->(pL S).map (fun h=>h[i]?.getD 0)=mC (((S.take i).map List.length).foldr (· *·) 1) s (((S.drop (i+1)).map List.length).foldr (· *·) 1)
 |[],i,s,h=>by simp at h
 |a::r,0,s,h=>by
  have h:a=s:=by simpa using h
  subst h
  unfold pL mC
  rw[List.map_flatMap]
  simp only[List.take_zero,List.map_nil,List.foldr_nil,List.replicate_one,List.flatten_cons,List.flatten_nil,List.append_nil,Nat.zero_add,List.drop_succ_cons,List.drop_zero]
  rw[<-Du]
  congr 1
  funext n
  rw[List.map_map,show ((fun h:List Int=>h[0]?.getD 0) ∘ fun x=>n::x)=fun _=>n from rfl,List.map_const']
 |a::r,i+1,s,h=>by
  have h:r[i]?=some s:=by simpa using h
  have ih:=Dx r i s h
  unfold pL
  rw[List.map_flatMap]
  have e:(fun n:Int=>List.map (fun h:List Int=>h[i+1]?.getD 0) (List.map (fun x=>n::x) (pL r)))=fun _=>(pL r).map fun h=>h[i]?.getD 0:=by
   funext n
   rw[List.map_map]
   rfl
  rw[e,ih,Dw]
  unfold mC
  rw[Dv]
  congr 2
end Go.Proofs.YtbpddfapodiemaaGreatDoor
end
section
namespace Go.Proofs.YtbpddfapodiemaaGreatDoor
open Go Go.Sep Go.Proofs
set_option maxRecDepth 100000
set_option maxHeartbeats 4000000
set_option linter.all false
theorem Dy (P:Nat->Int->Bool):∀(S:List (List Int)) (i j:Nat),(iL P i S)[j]?=S[j]?.map (List.filter (P (i+j)))
 |[],i,j=>by simp[iL]
 |s::r,i,0=>by simp[iL]
 |s::r,i,j+1=>by
  have:=Dy P r (i+1) j
  rw[show i+1+j=i+(j+1) by omega] at this
  simpa [iL] using this
theorem Dz (P:Nat->Int->Bool):∀(S:List (List Int)) (i:Nat),(iL P i S).length=S.length
 |[],i=>rfl
 |s::r,i=>by simp[iL,Dz P r (i+1)]
def dm (u:an)(i:Nat)(e:cu):List Int:=(dF e.high).filter (p8 u i)
theorem zg {u:an}{i:Nat}{e:cu}(he:u.aH[i]?=some e):(mD u)[i]?=some (dm u i e):=by
 unfold mD;rw[Dy,List.getElem?_map,he];simp[dm]
theorem zh (u:an):(mD u).length=u.aH.length:=by unfold mD;rw[Dz,List.length_map]
theorem JW (P:Int->Bool){b:dI}(d:0<=b.low)(f:b.low<=b.high)(g:b.high<=60)(i:b.high - b.low<3):
  (dF b).filter P=[]\/∃(c:Nat) (T:List Int),c<=60/\T∈p6/\(dF b).filter P=T.map (· +(c:Int)):=by
 obtain ⟨c,hc⟩:∃c:Nat,b.low=(c:Int):=⟨b.low.toNat,aa⟩
 rcases (show b.high=c\/b.high=c+1\/b.high=c+2 by omega) with h|h|h
 .have e:dF b=[(c:Int)]:=by unfold dF;rw[h,hc,show ((c:Int) - c+1).toNat=1 by omega];simp[List.range,List.range.loop]
  rw[e]
  cases p0:P c
  .left;simp[List.filter,p0]
  .right;exact ⟨c,[0],aa,aB,by simp[List.filter,p0]⟩
 .have e:dF b=[(c:Int),c+1]:=by unfold dF;rw[h,hc,show ((c:Int)+1 - c+1).toNat=2 by omega];simp[List.range,List.range.loop]
  rw[e]
  cases p0:P c<;>cases a:P (c+1)
  .left;simp[List.filter,p0,a]
  .right;exact ⟨c+1,[0],aa,aB,by simp[List.filter,p0,a]⟩
  .right;exact ⟨c,[0],aa,aB,by simp[List.filter,p0,a]⟩
  .right;exact ⟨c,[0,1],aa,aB,by simp[List.filter,p0,a];omega⟩
 .have e:dF b=[(c:Int),c+1,c+2]:=by unfold dF;rw[h,hc,show ((c:Int)+2 - c+1).toNat=3 by omega];simp[List.range,List.range.loop]
  rw[e]
  cases p0:P c<;>cases a:P (c+1)<;>cases p2:P (c+2)
  .left;simp[List.filter,p0,a,p2]
  .right;exact ⟨c+2,[0],aa,aB,by simp[List.filter,p0,a,p2]⟩
  .right;exact ⟨c+1,[0],aa,aB,by simp[List.filter,p0,a,p2]⟩
  .right;exact ⟨c+1,[0,1],aa,aB,by simp[List.filter,p0,a,p2];omega⟩
  .right;exact ⟨c,[0],aa,aB,by simp[List.filter,p0,a,p2]⟩
  .right;exact ⟨c,[0,2],aa,aB,by simp[List.filter,p0,a,p2];omega⟩
  .right;exact ⟨c,[0,1],aa,aB,by simp[List.filter,p0,a,p2];omega⟩
  .right;exact ⟨c,[0,1,2],aa,aB,by simp[List.filter,p0,a,p2];omega⟩
theorem DC:∀{S:List (List Int)},pL S≠[]->∀s,s∈S->s≠[]
 |[],_,s,h=>by simp at h
 |a::r,b,s,h=>by
  have e:pL (a::r)=a.flatMap fun n=>(pL r).map (n::·):=rfl
  rcases List.mem_cons.1 h with rfl|h
  .intro he;rw[e,he] at b;exact b rfl
  .refine DC (S:=r) (fun he=>?_) s h
   rw[e,he] at b
   exact b ax
theorem DD {o k:Nat}(d:1<=o)(e:1<=k){s:List Int}{n:Int}:n∈mC o s k↔n∈s:=by
 unfold mC;rw[List.mem_flatten];constructor
 .rintro ⟨l,b,a⟩;rw[List.mem_replicate] at b;rw[b.2,List.mem_flatMap] at a;obtain ⟨m,hm,c⟩:=a;rw[(List.mem_replicate.1 c).2];exact hm
 .intro a;exact ⟨_,List.mem_replicate.2 ⟨aa,rfl⟩,List.mem_flatMap.2 ⟨n,a,List.mem_replicate.2 ⟨aa,rfl⟩⟩⟩
def oh (l:List Nat):Nat:=l.foldr (· *·) 1
theorem JX {L:List Nat}(d:L.length<=3)(h:∀x,x∈L->1<=x/\x<=3){i:Nat}(hi:i<L.length):(oh (L.take i),oh (L.drop (i+1)))∈og:=by
 match L,d,h,hi with
 |[a],_,h,hi=>
  obtain rfl:i=0:=by simpa using hi
  show (1,1)∈og;decide
 |[a,b],_,h,hi=>
  have e:=h a ax;have hb:=h b ax;rcases (show a=1\/a=2\/a=3 by omega) with rfl|rfl|rfl<;>rcases (show b=1\/b=2\/b=3 by omega) with rfl|rfl|rfl<;>rcases (show i=0\/i=1 by simp at hi;omega) with rfl|rfl<;>decide
 |[a,b,c],_,h,hi=>
  have e:=h a ax;have hb:=h b ax;have hc:=h c ax;rcases (show a=1\/a=2\/a=3 by omega) with rfl|rfl|rfl<;>rcases (show b=1\/b=2\/b=3 by omega) with rfl|rfl|rfl<;>rcases (show c=1\/c=2\/c=3 by omega) with rfl|rfl|rfl<;>rcases (show i=0\/i=1\/i=2 by simp at hi;omega) with rfl|rfl|rfl<;>decide
theorem zi {α β:Type}(f:α->β):∀l:List α,(l.flatMap fun x=>[f x])=l.map f
 |[]=>rfl
 |a::l=>by rw[List.flatMap_cons,zi f l];rfl
theorem vh {T:List Int}(h:T∈p6):1<=T.length/\T.length<=3:=by
 unfold p6 at h;simp only[List.mem_cons,List.not_mem_nil,or_false] at h;rcases h with rfl|rfl|rfl|rfl<;>decide
variable {u:an}(F:Fit u)(aN:bF u ≠ []){i:Nat}{e:cu}(he:u.aH[i]? = some e)
include F aN he
theorem sx:∃(c:Nat) (T:List Int),c<=60/\T∈p6/\dm u i e=T.map (· +(c:Int)):=by
 obtain ⟨c1,c2,c3,c4,a⟩:=F.bA _ _ he;rcases JW (p8 u i) (b:=e.high) c2 c3 c4 a with h|h
 .rw[Dt F] at aN;exact absurd h (DC aN _ (List.mem_of_getElem? (zg he)))
 .exact h
theorem zj:∃p,p∈og/\1<=p.1/\1<=p.2/\(bF u).map (fun h=>h[i]?.getD 0)=mC p.1 (dm u i e) p.2:=by
 have hi:i<u.aH.length:=(List.getElem?_eq_some_iff.1 he).1;have o:=F.aH;have m:∀x,x∈(mD u).map List.length->1<=x/\x<=3:=fun x f=>by
  rw[List.mem_map] at f;obtain ⟨s,hs,rfl⟩:=f;obtain ⟨j,g⟩:=List.mem_iff_getElem?.1 hs;have k:j<u.aH.length:=by rw[<-zh u];exact (List.getElem?_eq_some_iff.1 g).1
  have l:=zg (u:=u) (List.getElem?_eq_getElem k);rw[g] at l;obtain ⟨c,T,-,n,e2⟩:=sx F aN (List.getElem?_eq_getElem k);rw[Option.some.inj l,e2,List.length_map];exact vh n
 have d:=JX (L:=(mD u).map List.length) (by simp[zh];omega) m (i:=i) (by simp[zh];omega);refine ⟨_,d,?_,?_,?_⟩
 .revert d;generalize oh _=a;generalize oh _=b;intro d;have:∀q,q∈og->1<=q.1:=aB;exact this _ d
 .revert d;generalize oh _=a;generalize oh _=b;intro d;have:∀q,q∈og->1<=q.2:=aB;exact this _ d
 .rw[Dt F,Dx _ i _ (zg he)];unfold oh;rw[List.map_take,List.map_drop]
theorem lE {n:Int}:n∈dm u i e↔∃h,h∈bF u/\h[i]?=some n:=by
 obtain ⟨p,d,a,p2,hc⟩:=zj F aN he;rw[<-DD a p2,<-hc,List.mem_map];constructor
 .rintro ⟨h,hm,rfl⟩;obtain ⟨m,b,_⟩:=(mB hm).1.sn i e he;exact ⟨h,hm,by rw[b];rfl⟩
 .rintro ⟨h,hm,c⟩;exact ⟨h,hm,by rw[c];rfl⟩
theorem JY:bU (pE (i:Int)) 0 ((bF u).map cA) []=some (.nx ((bF u).map fun h=>h[i]?.getD 0)):=by
 have hi:i<u.aH.length:=(List.getElem?_eq_some_iff.1 he).1;have d:=F.aH;have e:=(jN F).2;have key:=jd (f:=pE (i:Int)) (g:=fun _ x (s:List Int)=>s++[(bp.get x (i:Int)).getD 0]) (I:=fun j s=>s.length<=j/\j<=(bF u).length) ((bF u).map cA) 0 [] ⟨ax,aa⟩
  (fun j x s a k=>by
   rw[List.getElem?_map,Option.map_eq_some_iff] at a;obtain ⟨h,b,rfl⟩:=a;have l:j<(bF u).length:=(List.getElem?_eq_some_iff.1 b).1;obtain ⟨m,hm,hs,hb⟩:=lD F he (List.mem_of_getElem? b);have hg:bp.get (cA h) (i:Int)=some m:=so aa aa (by simpa using hm);refine ⟨?_,?_⟩
   .unfold pE;simp only[hg,ai,Option.getD_some];unfold dc;rw[if_pos (by simp;omega)]
   .simp only[List.length_append,List.length_singleton];omega)
 rw[key.1,Dn];congr 2;have e1:foldI (fun n x s=>s++[((cA x).get (i:Int)).getD 0]) 0 (bF u) []=foldI (fun _ x (s:List Int)=>s++(fun x:List Int=>[x[i]?.getD 0]) x) 0 (bF u) []:=by
  refine Dp _ _ _ fun j h s hm=>?_;obtain ⟨m,c,hs,hb⟩:=lD F he hm;have hg:bp.get (cA h) (i:Int)=some m:=so aa aa (by simpa using c);rw[hg];show _=s++[h[i]?.getD 0];rw[c]
 rw[e1,su,List.nil_append];exact zi _ _
theorem zk:mg ⟨u,(bF u).map cA⟩ (i:Int)=some (dm u i e):=by
 obtain ⟨p,a,g,p2,hc⟩:=zj F aN he;obtain ⟨c,T,b,d,f⟩:=sx F aN he;have hs:=JU b a d;rw[<-f,<-hc] at hs;unfold mg;rw[JY F aN he];unfold ze at hs;simp only[ai,aG] at hs ⊢;cases h:rE ((bF u).map fun h=>h[i]?.getD 0) with
 |none=>rw[h] at hs;cases hs
 |some x=>
  rw[h] at hs;simp only at hs ⊢;rw[hs]
end Go.Proofs.YtbpddfapodiemaaGreatDoor
end
section
namespace Go.Proofs.YtbpddfapodiemaaGreatDoor
open Go Go.Sep Go.Proofs
set_option maxRecDepth 100000
set_option maxHeartbeats 4000000
theorem zl {a b c:au}(d:0<a.den)(hb:0<b.den)(hc:0<c.den)(e:bN b a=false)(f:bN b c=true):bN a c=true:=by
 cases h:bN a c with
 |true=>rfl
 |false=>
  have:=mw hb d hc e h;rw[f] at this;cases this
section
variable {u:an}{s:bx}(F:Fit u)(hs:(1<=s.back/\s.back<=20)/\0<=s.high/\s.high<=60)
include F hs
structure zm (u:an)(s:bx)(i:Nat)(st:Int×au):Prop where
 there:∃(n:Nat) (p:cx),n<i/\st=((n:Int),ez u s p)/\u.aK[n]?=some p/\∀(j:Nat) q,j<n->u.aK[j]?=some q->bN (ez u s q) (ez u s p)=true
 Tf:∀(j:Nat) q,j<i->u.aK[j]?=some q->bN st.2 (ez u s q)=false
theorem DF:∀(l:List cx) (i:Nat) (st:Int×au),(∀(j:Nat) x,l[j]?=some x->u.aK[i+j]?=some x)->zm u s i st->zm u s (i+l.length) (foldI (gB u s) i l st)
 |[],i,st,_,h=>h
 |x::l,i,st,g,h=>by
  have b:u.aK[i]?=some x:=g 0 x rfl
  have hd:∀(j:Nat) q,u.aK[j]?=some q->0<(ez u s q).den:=fun j q a=>(u6 u F s hs j q a).den.1
  unfold foldI
  have key:zm u s (i+1) (gB u s i x st):=by
   obtain ⟨⟨n,p,o,e,d,k⟩,hm⟩:=h
   subst e
   unfold gB
   cases c:bN (ez u s p) (ez u s x) with
   |true=>
    simp only[c,cond_true]
    refine ⟨⟨i,x,aa,rfl,b,fun j q f a=>?_⟩,fun j q f a=>?_⟩
    .exact zl (hd j q a) (hd n p d) (hd i x b) (hm j q f a) c
    .by_cases e:j=i
     .subst e;rw[b] at a;cases a;exact gZ _
     .exact sj (zl (hd j q a) (hd n p d) (hd i x b) (hm j q aa a) c)
   |false=>
    simp only[c,cond_false]
    refine ⟨⟨n,p,aa,rfl,d,k⟩,fun j q f a=>?_⟩
    by_cases e:j=i
    .subst e;rw[b] at a;cases a;exact c
    .exact hm j q aa a
  have:=DF l (i+1) _ (fun j y m=>by have:=g (j+1) y (by simpa using m);rwa [show i+(j+1)=i+1+j by omega] at this) key
  rwa [show i+1+l.length=i+(x::l).length by simp;omega] at this
theorem JZ:∃(n:Nat) (p:cx),eH u s=((n:Int),ez u s p)/\u.aK[n]?=some p/\(∀(j:Nat) q,u.aK[j]?=some q->bN (ez u s p) (ez u s q)=false)/\∀(j:Nat) q,j<n->u.aK[j]?=some q->bN (ez u s q) (ez u s p)=true:=by
 have c:=F.aK;cases he:u.aK with
 |nil=>rw[he] at c;simp at c
 |cons x l=>
  have d:u.aK[0]?=some x:=by rw[he];rfl
  have hb:=DF F hs l 1 (0,ez u s x) (fun j y f=>by rw[he,Nat.add_comm];simpa using f)
   ⟨⟨0,x,aa,rfl,d,fun j q b=>absurd b aa⟩,fun j q b a=>by
    obtain rfl:j=0:=aa
    rw[d] at a;cases a;exact gZ _⟩
  have ev:eH u s=foldI (gB u s) 1 l (0,ez u s x):=by unfold eH;rw[he]
  obtain ⟨⟨n,p,i,e,g,h⟩,hm⟩:=hb;rw[e] at hm ev;refine ⟨n,p,ev,by rw[<-he];exact g,fun j q a=>?_,fun j q b a=>h j q b (by rw[he];exact a)⟩;refine hm j q ?_ (by rw[he];exact a);have:=(List.getElem?_eq_some_iff.1 a).1;simp at this;omega
end
theorem DG (n:Int)(d:Nat)(hd:0<d):bP (bP n d).num (bP n d).den.toNat=bP n d:=by
 obtain ⟨a,b⟩:=yW n d hd;refine yV aa hd ?_;rw[show (((bP n d).den.toNat:Nat):Int)=(bP n d).den by omega];exact a
def jf (a b:au):au:=bP (a.num*b.den - b.num*a.den) (a.den*b.den).toNat
def sA (u:an)(s:bx):au:=foldI (gM u s) 0 u.props ⟨0,0⟩
def om (u:an)(s:bx):au:=cond (bN (eH u s).2 ⟨u.b6,1⟩) ⟨u.b6,1⟩ (eH u s).2
def sB (u:an)(s:bx):au:=cond (bN (eH u s).2 ⟨u.b6,1⟩) (eH u s).2 ⟨u.b6,1⟩
def sC (u:an)(s:bx):au:=cond (decide (0<(u.props.length:Int))) (cG (sB u s) (sA u s)) (sB u s)
def eP (u:an)(s:bx):au:=cG (jf (om u s) (sC u s)) ⟨0,1⟩
theorem J0:Sm (⟨0,1⟩:au) 1 1:=⟨aB,aB,aB⟩
theorem J1 {a b:au}(c:SR a)(hb:SR b):Sm (jf a b) 40000000000 64000000:=by
 have d:=dX c.num (show b.den.natAbs<=8000 by have:=hb.den;omega);have e:=dX hb.num (show a.den.natAbs<=8000 by have:=c.den;omega);have f:=dX (show a.den.natAbs<=8000 by have:=c.den;omega) (show b.den.natAbs<=8000 by have:=hb.den;omega);have g:0<a.den*b.den:=Int.mul_pos c.den.1 hb.den.1;have:=jK (a.num*b.den - b.num*a.den) (a.den*b.den).toNat aa;unfold jf;exact ⟨Nat.le_trans this.num aa,this.den.1,by have:=this.den.2;omega⟩
theorem DH {a b:au}(c:SR a)(hb:SR b):iZ a b=some (jf a b):=yT c hb aB aB
theorem J2 {d:au}(hd:Sm d 40000000000 64000000):fY d ⟨0,1⟩=some (cG d ⟨0,1⟩):=by
 have a:=od hd J0 aB aB;unfold fY;simp only[a.1,ai];unfold cG bN;cases decide (d.num*(⟨0,1⟩:au).den<(⟨0,1⟩:au).num*d.den)<;>rfl
section
variable {u:an}{s:bx}(F:Fit u)(hs:(1<=s.back/\s.back<=20)/\0<=s.high/\s.high<=60)
include F hs
theorem vi:SR (⟨u.b6,1⟩:au):=(si F hs).mono aB aB
theorem J3:SR (om u s):=by
 unfold om;cases bN (eH u s).2 ⟨u.b6,1⟩
 .exact u9 F hs
 .exact vi F hs
theorem DI:SR (sB u s):=by
 unfold sB;cases bN (eH u s).2 ⟨u.b6,1⟩
 .exact vi F hs
 .exact u9 F hs
theorem zn (h:u.props≠[]):SR (sA u s):=by
 rcases C2 F hs with ⟨c,_,_⟩|⟨st,b,_,a,d⟩
 .exact absurd c h
 .rw[y2 F hs] at a;have e:sA u s=b:=(Prod.mk.inj (Option.some.inj a)).1;rw[e];exact d.sm
theorem DJ:SR (sC u s):=by
 unfold sC;cases h:decide (0<(u.props.length:Int)) with
 |false=>exact DI F hs
 |true=>
  refine lA (DI F hs) (zn F hs fun e=>?_);rw[e] at h;simp at h
theorem DK:lp u s=some (eP u s):=by
 obtain ⟨c,h,i,j,g⟩:=se F hs;have es:SR (eH u s).2:=u9 F hs;have ps:=vi F hs;unfold lp;rw[g,y2 F hs];simp only[ai,(jL es ps).1];have k:=DJ F hs;have l:=J3 F hs;have key:∀a b:au,SR a->SR b->ai (iZ a b) (fun x=>ai (fY x ⟨0,1⟩) fun y=>some y)=some (cG (jf a b) ⟨0,1⟩):=fun a b f hb=>by
  rw[DH f hb];simp only[ai];rw[J2 (J1 f hb)]
 simp only[ai] at key;unfold eP sC om sB;cases m:bN (eH u s).2 ⟨u.b6,1⟩ with
 |true=>
  simp only[cond_true];cases d:decide (0<(u.props.length:Int)) with
  |true=>
   have cs:=zn F hs (fun e=>by rw[e] at d;simp at d);simp only[cond_true];rw[show foldI (gM u s) 0 u.props ⟨0,0⟩=sA u s from rfl,sk es cs];exact key _ _ ps (lA es cs)
  |false=>exact key _ _ ps es
 |false=>
  simp only[cond_false];cases d:decide (0<(u.props.length:Int)) with
  |true=>
   have cs:=zn F hs (fun e=>by rw[e] at d;simp at d);simp only[cond_true];rw[show foldI (gM u s) 0 u.props ⟨0,0⟩=sA u s from rfl,sk ps cs];exact key _ _ es (lA ps cs)
  |false=>exact key _ _ es ps
theorem zo:k6 u s=some (eP u s):=by
 obtain ⟨r,b,a,_⟩:=y3 F hs;rw[DK F hs] at a;rw[b,<-a]
end
theorem J4 {s:List bp}{y:bp}:k9 s y=true↔y∈s:=by
 rw[yD,List.mem_map];constructor
 .rintro ⟨z,a,h⟩;obtain rfl:=yC h;exact a
 .exact fun h=>⟨y,h,rfl⟩
theorem DL:∀(l s:List bp),(s++l).Nodup->fT pG (l.map some) s=some (.nx (s++l))
 |[],s,_=>by simp[fT]
 |x::l,s,h=>by
  have e:pG x s=some (.nx (s++[x])):=by
   unfold pG
   have:k9 s x=false:=by
    cases c:k9 s x with
    |false=>rfl
    |true=>
     have a:=(List.nodup_append.1 h).2.2
     exact absurd rfl (a x (J4.1 c) x (List.mem_cons_self ..))
   rw[this];rfl
  show fT pG (some x::l.map some) s=_
  rw[fT,e]
  have:=DL l (s++[x]) (by simpa using h)
  rw[show s++x::l=s++[x]++l by simp]
  exact this
theorem DN:∀(l:List cu) (p h:List Int),h∈eA p l->∀j,j<p.length->h[j]?=p[j]?:=fun l p h hm=>(y7 l p h hm).2.2
theorem J5 (b:dI):(dF b).Nodup:=by
 unfold dF;refine List.Pairwise.map _ ?_ (List.nodup_range (n:=(b.high - b.low+1).toNat));intro a c h e;exact h aa
theorem DO:∀(l:List cu) (p:List Int),(eA p l).Nodup
 |[],p=>by simp[eA]
 |e::l,p=>by
  unfold eA
  rw[List.flatMap_def]
  unfold List.Nodup
  rw[List.pairwise_flatten]
  refine ⟨fun x d=>?_,?_⟩
  .rw[List.mem_map] at d
   obtain ⟨n,_,rfl⟩:=d
   exact DO l _
  .rw[List.pairwise_map]
   refine (J5 e.high).imp ?_
   intro a b f x g y h i
   subst i
   have j:=DN l _ _ g p.length ax
   have c:=DN l _ _ h p.length ax
   rw[j] at c
   simp at c
   exact f c
theorem DQ {l m:List Int}(h:l.length=m.length)(a:l.length<=3)(e:cA l=cA m):l=m:=by
 unfold cA at e;rw[bp.mk.injEq] at e;obtain ⟨e0,e1,e2⟩:=e;refine List.ext_getElem? fun i=>?_;by_cases hi:i<l.length
 .have hm:i<m.length:=aa;have key:l[i]?.getD 0=m[i]?.getD 0:=by
   rcases (show i=0\/i=1\/i=2 by omega) with rfl|rfl|rfl<;>assumption
  rw[List.getElem?_eq_getElem hi,List.getElem?_eq_getElem hm] at key ⊢;simpa using key
 .rw[List.getElem?_eq_none aa,List.getElem?_eq_none aa]
theorem J6 {u:an}(F:Fit u):((bF u).map cA).Nodup:=by
 have c:(bF u).Nodup:=(DO u.aH []).filter _;unfold List.Nodup at c ⊢;rw[List.pairwise_map];refine List.Pairwise.imp_of_mem ?_ c;intro a b d hb f e;have g:=(mB d).1.len;have h:=(mB hb).1.len;have:=F.aH;exact f (DQ aa aa e)
theorem J7 {u:an}(F:Fit u)(h:fN u=some 0):mh u=some (((bF u).length:Int),0):=by
 unfold mh;rw[vf h];simp only[ai];rw[show ((0:Int) != 0)=false by decide];simp only[cond_false];rw[y9 F,show (bF u).map (fun x=>some (cA x))=((bF u).map cA).map some by simp,DL _ [] (by simpa using J6 F)];simp[aG]
def jO (u:an)(h:List Int):Bool:=(List.range u.aH.length).all fun i=>!dy u (cT u i (h[i]?.getD 0))
theorem DR {α:Type}{g:Nat->Bool}:∀(l:List α) (i:Nat),fJ (fun i _=>if g i then none else some false) i l=if (List.range' i l.length).all g then none else some false
 |[],_=>rfl
 |x::l,i=>by
  unfold fJ
  rw[List.length_cons,List.range'_succ,List.all_cons]
  cases h:g i with
  |false=>simp[h]
  |true=>
   simp only[h,if_true,Bool.true_and]
   exact DR l (i+1)
theorem DS {u:an}(F:Fit u){h:List Int}(hm:h∈bF u)(all:List bp):kg (cA h) ⟨u,all⟩=some (jO u h):=by
 have b:=F.aH;unfold kg
 rw[vc (t:=fun i _=>if !dy u (cT u i (h[i]?.getD 0)) then none else some false) u.aH 0 false fun j e s he=>by
  rw[Nat.zero_add];have c:j<u.aH.length:=(List.getElem?_eq_some_iff.1 he).1;obtain ⟨m,a,hs,hb⟩:=lD F he hm;have hg:bp.get (cA h) (j:Int)=some m:=so aa aa (by simpa using a);unfold ua ij;simp only[hg,ai,eo he,(mz F (s:=⟨e.back,m⟩) hb).1,hs]
  cases dy u ⟨e.back,m⟩<;>rfl]
 rw[DR (g:=fun i=>!dy u (cT u i (h[i]?.getD 0)))];simp only[ai];unfold jO;rw[List.range_eq_range'];cases (List.range' 0 u.aH.length).all fun i=>!dy u (cT u i (h[i]?.getD 0))<;>rfl
def p9 (n m:Nat):Int:=if n=m then 1 else if n=0 then 2 else 0
theorem DT {k:dh}{f:bp->Option Bool}{g:bp->Bool}(e:k.all.length<=1000)(h:∀x,x∈k.all->f x=some (g x)):o9 k f=some (p9 (k.all.countP g) k.all.length):=by
 have key:=jd (f:=ru f) (ρ:=Int) (g:=fun _ x (n:Int)=>cond (g x) (n+1) n) (I:=fun j n=>0<=n/\n<=j/\j<=k.all.length) k.all 0 0 ⟨aa,aa,aa⟩
  (fun j x n a i=>by
   have m:j<k.all.length:=(List.getElem?_eq_some_iff.1 a).1;refine ⟨?_,by cases g x<;>simp<;>omega⟩;unfold ru;rw[h x (List.mem_of_getElem? a)];simp only[ai];rw[dj (n:=n+1) aa]
   cases g x<;>rfl)
 have b:∀(l:List bp) (j:Nat) (n:Int),foldI (fun _ x (n:Int)=>cond (g x) (n+1) n) j l n=n+(l.countP g:Nat):=by
  intro l
  induction l with
  |nil=>intro j n;simp[foldI]
  |cons x l ih=>
   intro j n;unfold foldI;rw[ih,List.countP_cons];cases g x<;>simp<;>omega
 rw[b] at key;unfold o9;rw[key.1];simp only[ai,aG,Int.zero_add];unfold p9;by_cases c:k.all.countP g=k.all.length
 .rw[if_pos c,show (((k.all.countP g:Nat):Int)==(k.all.length:Int))=true by rw[c];simp];rfl
 .rw[if_neg c,show (((k.all.countP g:Nat):Int)==(k.all.length:Int))=false by simp;omega];simp only[cond_false];by_cases d:k.all.countP g=0
  .rw[if_pos d,d];rfl
  .rw[if_neg d,show (((k.all.countP g:Nat):Int)==0)=false by rw[beq_eq_false_iff_ne];omega];rfl
theorem J8 {u:an}(F:Fit u)(h:fN u=some 0):ku u=some (if (bF u).isEmpty then (0,9) else (p9 ((bF u).countP (jO u)) (bF u).length,0)):=by
 have c:=(jN F).2;unfold ku;rw[oe F (vf h)];simp only[ai];cases hs:(bF u).isEmpty with
 |true=>rfl
 |false=>
  simp only[Bool.false_eq_true,if_false];rw[show ((0:Int) != 0)=false by decide];simp only[cond_false];have key:∀x,x∈(bF u).map cA->kg x ⟨u,(bF u).map cA⟩=some ((kg x ⟨u,(bF u).map cA⟩).getD false):=fun x b=>by
   rw[List.mem_map] at b;obtain ⟨y,a,rfl⟩:=b;rw[DS F a];rfl
  rw[DT (k:=⟨u,(bF u).map cA⟩) (g:=fun x=>(kg x ⟨u,(bF u).map cA⟩).getD false) (by simp;omega) key];simp only[List.countP_map,List.length_map];have e:(bF u).countP ((fun x=>(kg x ⟨u,(bF u).map cA⟩).getD false) ∘ cA)=(bF u).countP (jO u):=List.countP_congr fun y a=>by
   simp only[Function.comp];rw[DS F a];rfl
  rw[e]
theorem J9 {u:an}{s:bx}(F:Fit u)(hs:(1<=s.back/\s.back<=20)/\0<=s.high/\s.high<=60):dy u s=bN u.bw (eP u s):=by
 obtain ⟨r,a,e,b⟩:=y3 F hs;rw[zo F hs] at a;obtain rfl:=Option.some.inj a;have c:Sm u.bw 20 20:=⟨by have:=F.num;omega,by have:=F.den;omega,by have:=F.den;omega⟩
 have d:=od c b aB aB;unfold dy gU;rw[zo F hs];simp only[ai,d.2];rfl
structure Tg (u o:an):Prop where
 bZ:o.bZ=u.bZ
 b6:o.b6=u.b6
 bw:o.bw=u.bw
 props:o.props=u.props
 aH:o.aH=u.aH
 told:o.told=u.told
 dV:∀x,x∈u.props->jH o x.place=jH u x.place
 zq:∀s:bx,(1<=s.back/\s.back<=20)/\0<=s.high/\s.high<=60->(eH o s).2=(eH u s).2
theorem Ka:Tryz.prog.underlying 3=some (.int .i64):=aj
theorem Kb:Tryz.prog.underlying 5=some (.int .u8):=aj
attribute [go_sem] Ka Kb
theorem DU {α σ τ ρ:Type}{f:τ->Option (Fl τ ρ)}{I:Nat->σ->Prop}(e:σ->Int->τ)(l:List α)(h:∀(i:Nat) x s,l[i]?=some x->I i s->∃s',f (e s (i:Int))=some (.nx (e s' ((i+1:Nat):Int)))/\I (i+1) s')(a:∀s,f (e s (l.length:Int))=some (.bk (e s (l.length:Int)))):
  ∀(k i n:Nat) (s:σ),I i s->i+k=l.length->k<n->∃s',aY f n (e s (i:Int))=some (.nx (e s' (l.length:Int)))/\I l.length s'
 |0,i,n+1,s,hs,hi,_=>by
  obtain rfl:i=l.length:=aa
  unfold aY
  rw[a]
  exact ⟨s,rfl,hs⟩
 |k+1,i,n+1,s,hs,hi,j=>by
  have b:i<l.length:=aa
  have c:l[i]?=some l[i]:=List.getElem?_eq_getElem b
  obtain ⟨s1,d,g⟩:=h i _ s c hs
  unfold aY
  rw[d]
  exact DU e l h a k (i+1) n _ g aa aa
theorem lF {α σ τ ρ:Type}{f:τ->Option (Fl τ ρ)}(I:Nat->σ->Prop)(e:σ->Int->τ)(l:List α)(a:l.length<=1000)(h:∀(i:Nat) x s,l[i]?=some x->I i s->∃s',f (e s (i:Int))=some (.nx (e s' ((i+1:Nat):Int)))/\I (i+1) s')(b:∀s,f (e s (l.length:Int))=some (.bk (e s (l.length:Int))))(s:σ)(hs:I 0 s):
  ∃s',aY f fu (e s 0)=some (.nx (e s' (l.length:Int)))/\I l.length s':=
 DU e l h b l.length 0 fu s hs aa (Nat.lt_of_le_of_lt a aB)
end Go.Proofs.YtbpddfapodiemaaGreatDoor
end

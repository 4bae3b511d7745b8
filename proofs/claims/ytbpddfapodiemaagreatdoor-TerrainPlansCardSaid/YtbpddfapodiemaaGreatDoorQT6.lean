/- A part of the proof: QT6. -/
import Derived.Test.YtbpddfapodiemaaGreatDoorQT5
set_option linter.all false
section
namespace Go.Proofs.YtbpddfapodiemaaGreatDoor
open Go Go.Sep Go.Proofs
set_option maxRecDepth 100000
set_option maxHeartbeats 4000000
def n5 (u0:an)(c:((List (List Int))×Int))(b:Int)(st:(Int×au×au)):Option (Fl (Int×au×au) (au×au×Bool×Int)):=
 cond (decide (st.1<(u0.aK.length:Int))) (ai (bu c.1 b) fun d=>ai (bu d st.1) fun e=>ai (lA u0 st.1 e) fun f=>ai (pM u0 f) fun a=>cond ((b==0)) (cond ((st.1==0)) (ai (gQ a.2 a.2) fun g=>cond (g) (ai (fh a.2 a.2) fun h=>some (.nx ((IntKind.i64.wrap (st.1+1)),h,a.2))) (ai (fh a.2 a.2) fun i=>some (.nx ((IntKind.i64.wrap (st.1+1)),i,a.2)))) (ai (gQ a.2 st.2.2) fun j=>cond (j) (ai (fh st.2.1 a.2) fun k=>some (.nx ((IntKind.i64.wrap (st.1+1)),k,a.2))) (ai (fh st.2.1 a.2) fun l=>some (.nx ((IntKind.i64.wrap (st.1+1)),l,st.2.2))))) (ai (gQ a.2 st.2.2) fun m=>cond (m) (ai (fh st.2.1 a.2) fun n=>some (.nx ((IntKind.i64.wrap (st.1+1)),n,a.2))) (ai (fh st.2.1 a.2) fun o=>some (.nx ((IntKind.i64.wrap (st.1+1)),o,st.2.2))))) (some (.bk (st.1,st.2.1,st.2.2)))
def n6 (u0:an)(a:((List (List Int))×Int))(st:(Int×au×au)):Option (Fl (Int×au×au) (au×au×Bool×Int)):=
 cond (decide (st.1<(a.1.length:Int))) (ai (aS (n5 u0 a st.1) fu (0,st.2.1,st.2.2)) fun o=>aG o (fun b=>some (.nx ((IntKind.i64.wrap (st.1+1)),b.2.1,b.2.2))) (fun _ _=>none) (fun r=>some (.rt r))) (some (.bk (st.1,st.2.1,st.2.2)))
def mq (u0:an):Option (au×au×Bool×Int):=
 ai (iR u0 0) fun b=>cond ((b.2 != 0)) (some ((⟨0,0⟩:au),(⟨0,0⟩:au),false,b.2)) (ai (aS (n6 u0 b) fu (0,(⟨0,0⟩:au),(⟨0,0⟩:au))) fun o=>aG o (fun a=>ai (jT a.2.1 u0.bp) fun c=>ai (iw (IntKind.i64.wrap ((IntKind.i64.wrap (a.2.2.num*u0.bp.den))+(IntKind.i64.wrap (u0.bp.num*a.2.2.den)))) (IntKind.i64.wrap (a.2.2.den*u0.bp.den))) fun d=>ai (gQ d c) fun e=>cond (e) (some ((⟨0,0⟩:au),(⟨0,0⟩:au),false,0)) (some (c,d,true,0))) (fun _ _=>none) (fun r=>some r))
theorem Jd {ro:Addr->Option Value}(u0:an){s1 j K k:Value}(l:bR ro u0 s1 j K k){r:(au×au×Bool×Int)}(h:mq u0=some r):aI Tryz.prog 9 #[bv u0 s1 j K k] ⟨ro,[]⟩ (fun v _=>v= .tuple #[r.1.v,r.2.1.v,.bool r.2.2.1,.int .i64 r.2.2.2]):=by
 obtain ⟨d17,n,rfl,e1,e2,-⟩:=id l.y;unfold mq at h;refine aI.go Tryz.func9 rfl Tryz.ntmps9 Tryz.results9 av fun main J hJ A W hd hs=>?_;have X:=hs 0;clear hs;apply aB hJ _;refine aA fun o e3 Y=>?_;try simp only[ax] at Y
 refine aA fun s fa Z=>?_;try simp only[ax] at Z
 refine aA fun t fb ab=>?_;try simp only[ax] at ab
 try apply ag _
 apply aF hJ;revert h;refine bS fun L ad h=>?_;apply ag _;refine cc hJ _ (r5 u0 l 0 ad) fun v p ae al ao=>?_;obtain ⟨fg,rfl,M⟩:=ao;replace l:=l.mono ae;simp only[bt] at al;obtain ⟨d39,fi,rfl,fp,fr,-⟩:=id M;apply aP;try apply ag _
 refine ah hJ (aF hJ ?_);apply ag _;revert h;refine aV hJ (fun ar h=>?_) fun ar h=>?_
 .cases h;apply aB hJ _;apply aT;simp only[*,go_sem]
 refine aN hJ (ah hJ ?_);apply aE hJ _;refine aA fun u fs a0=>?_;try simp only[ax] at a0
 refine aA fun w ft a2=>?_;try simp only[ax] at a2
 try apply ag _
 refine ah hJ (aF hJ ?_);apply ag _;apply aW hJ;revert h;refine bS fun a3 x a4=>?_;refine bW hJ (rg 26 43 [10,11,12,13]) (fun m B F'=>∃(q:Int) (f:au) (d:au),aS (n6 u0 L) m (q,f,d)=some a3/\F'=⟨p,(w,rt f.num f.den)::(u,rt d.num d.den)::(t,rt 0 0)::(s,rt 0 0)::(o,bk u0 s1 j (sl d17 u0.aK n) k)::[]⟩/\slot B 10= .int .i64 q) fu ?_ ?_
 .refine ⟨0,(⟨0,0⟩:au),(⟨0,0⟩:au),x,rfl,?_⟩;simp only[*,go_sem]
 rintro C a5 F' N ⟨q,f,d,x,rfl,a6⟩;obtain ⟨O,P,Q⟩:=N.pick [1,2,3,4,5,6,8,9] aD;simp only[*,go_sem] at O P Q;clear N W hd X;obtain _|C:=C
 .exact absurd x (by simp only[aS,reduceCtorEq,not_false_eq_true])
 revert x;refine bS fun fv h D=>?_;unfold n6 at h;try dsimp only at h
 refine ah hJ (aF hJ ?_);apply ag _;revert h;refine aV hJ (fun a7 h=>?_) fun a7 h=>?_
 .refine aN hJ (ah hJ ?_);refine aW hJ (ah hJ ?_);apply aE hJ _;apply aW hJ;revert h;refine bS fun a8 z a9=>?_;refine bW hJ (rg 32 37 [11,12,13]) (fun m B F'=>∃(e:Int) (b:au) (c:au),aS (n5 u0 L q) m (e,b,c)=some a8/\F'=⟨p,(w,rt b.num b.den)::(u,rt c.num c.den)::(t,rt 0 0)::(s,rt 0 0)::(o,bk u0 s1 j (sl d17 u0.aK n) k)::[]⟩/\slot B 11= .int .i64 e) fu ?_ ?_
  .refine ⟨0,f,d,z,rfl,?_⟩;simp only[*,go_sem]
  rintro g ba F' E ⟨e,b,c,z,rfl,fw⟩;obtain ⟨bb,bc,bd⟩:=E.pick [1,2,3,4,5,6,8,9,10,26,27,28,29] aD;simp only[*,go_sem] at bb bc bd;have fx:cF (rg 26 43 [10,11,12,13]) ba a5:=(E.eG aD).trans aL;clear E O P Q a6;obtain _|g:=g
  .exact absurd z (by simp only[aS,reduceCtorEq,not_false_eq_true])
  revert z;refine bS fun fz h i=>?_;unfold n5 at h;try dsimp only at h
  refine ah hJ (aF hJ ?_);apply ag _;revert h;refine aV hJ (fun bj h=>?_) fun bj h=>?_
  .refine aN hJ (ah hJ ?_);refine aW hJ (ah hJ ?_);refine eE hJ mixed 15 ⟨p,[(w,rt b.num b.den),(u,rt c.num c.den),(t,rt 0 0),(s,rt 0 0),(o,bk u0 s1 j (sl d17 u0.aK n) k)]⟩ aL aj ?_;revert h;refine bS fun gg bl h=>?_;obtain ⟨gl,gn,R⟩:=ck bl;obtain ⟨gp,gB,bm,bo,S⟩:=M.el _ _ R;obtain ⟨gC,rfl,br⟩:=bo;obtain ⟨d68,gM,rfl,gN,gT,bs⟩:=id br;cases bm;have bz:=S 0 _ rfl;simp only[go_sem] at bz;clear S R;revert h;refine bS fun T b0 h=>?_;obtain ⟨gV,g0,U⟩:=ck b0;obtain ⟨g1,b1,b2,b3,V⟩:=bs _ _ U;obtain rfl:b1=[.int .i64 T]:=b3;cases b2;have b4:=V 0 _ rfl;simp only[go_sem] at b4;clear V U;revert h;refine bS fun b5 ca h=>?_;(try apply ag _);refine ⟨_,bL hJ fun F G=>yq u0 (l.mono (cq G)) e T ca,cw ?_⟩;revert h;refine bS fun a cb h=>?_;(try apply ag _);refine ⟨_,bL hJ fun F G=>Cm u0 (l.mono (cq G)) b5 cb,cw ?_⟩;(try apply ag _);refine aA fun cd g2 cf=>?_;try simp only[ax] at cf
   (try apply ag _);refine ah hJ (aF hJ ?_);revert h;refine cS (fun cl h=>?_) fun cl h=>?_
   ·(try apply ag _);revert h;refine aV hJ (fun cy h=>?_) fun cy h=>?_
    .refine eE hJ mixed 2 ⟨p,[(cd,rt a.2.num a.2.den),(t,rt 0 0),(s,rt 0 0),(o,bk u0 s1 j (sl d17 u0.aK n) k)]⟩ aL aj ?_;apply ag _;refine ah hJ (aF hJ ?_);revert h;refine bS fun g3 c0 h=>?_;apply ag _;refine bn hJ _ (mm a.2 a.2 c0) ?_;(try apply ag _);revert h;refine aV hJ (fun da h=>?_) fun da h=>?_
     .apply aE hJ _;apply aQ hJ;revert h;refine bS fun db dd h=>?_;cases h;apply ag _;refine bn hJ _ (iy a.2 a.2 dd) (aP ?_);(try apply ag _);apply aE hJ _;(try apply ag _);refine ⟨g,Nat.lt_succ_self _,_,Le.sub (List.Sublist.cons _ (List.Sublist.refl _)),(IntKind.i64.wrap (e+1)),db,a.2,i,rfl,?_⟩;simp only[*,go_sem]
     refine aN hJ (aQ hJ ?_);revert h;refine bS fun df dk h=>?_;cases h;apply ag _;refine bn hJ _ (iy a.2 a.2 dk) (aP ?_);(try apply ag _);apply aE hJ _;(try apply ag _);refine ⟨g,Nat.lt_succ_self _,_,Le.sub (List.Sublist.cons _ (List.Sublist.refl _)),(IntKind.i64.wrap (e+1)),df,a.2,i,rfl,?_⟩;simp only[*,go_sem]
    refine aN hJ (ah hJ ?_);apply aF hJ;revert h;refine bS fun g4 dp h=>?_;apply ag _;refine bn hJ _ (mm a.2 c dp) ?_;(try apply ag _);revert h;refine aV hJ (fun dq h=>?_) fun dq h=>?_
    .apply aE hJ _;apply aQ hJ;revert h;refine bS fun ds dt h=>?_;cases h;apply ag _;refine bn hJ _ (iy b a.2 dt) (aP ?_);(try apply ag _);apply aE hJ _;(try apply ag _);refine ⟨g,Nat.lt_succ_self _,_,Le.sub (List.Sublist.cons _ (List.Sublist.refl _)),(IntKind.i64.wrap (e+1)),ds,a.2,i,rfl,?_⟩;simp only[*,go_sem]
    refine aN hJ (aQ hJ ?_);revert h;refine bS fun du dv h=>?_;cases h;apply ag _;refine bn hJ _ (iy b a.2 dv) (aP ?_);(try apply ag _);apply aE hJ _;(try apply ag _);refine ⟨g,Nat.lt_succ_self _,_,Le.sub (List.Sublist.cons _ (List.Sublist.refl _)),(IntKind.i64.wrap (e+1)),du,c,i,rfl,?_⟩;simp only[*,go_sem]
   (try apply ag _);refine cJ hJ ?_;refine aN hJ (ah hJ ?_);apply aF hJ;revert h;refine bS fun ha dC h=>?_;apply ag _;refine bn hJ _ (mm a.2 c dC) ?_;(try apply ag _);revert h;refine aV hJ (fun dE h=>?_) fun dE h=>?_
   .apply aE hJ _;apply aQ hJ;revert h;refine bS fun dT ea h=>?_;cases h;apply ag _;refine bn hJ _ (iy b a.2 ea) (aP ?_);(try apply ag _);apply aE hJ _;(try apply ag _);refine ⟨g,Nat.lt_succ_self _,_,Le.sub (List.Sublist.cons _ (List.Sublist.refl _)),(IntKind.i64.wrap (e+1)),dT,a.2,i,rfl,?_⟩;simp only[*,go_sem]
   refine aN hJ (aQ hJ ?_);revert h;refine bS fun eb ec h=>?_;cases h;apply ag _;refine bn hJ _ (iy b a.2 ec) (aP ?_);(try apply ag _);apply aE hJ _;(try apply ag _);refine ⟨g,Nat.lt_succ_self _,_,Le.sub (List.Sublist.cons _ (List.Sublist.refl _)),(IntKind.i64.wrap (e+1)),eb,c,i,rfl,?_⟩;simp only[*,go_sem]
  cases h;apply bP;simp only[go_sem];obtain rfl:=sI i;clear i;have h:=a9;dsimp only[aG] at h;cases h;apply aE hJ _;try apply ag _
  refine ⟨C,Nat.lt_succ_self _,_,Le.sub (List.Sublist.refl _),(IntKind.i64.wrap (q+1)),b,c,D,rfl,?_⟩;simp only[*,go_sem]
 cases h;apply bP;simp only[go_sem];obtain rfl:=sI D;clear D;have h:=a4;dsimp only[aG] at h;apply aF hJ;revert h;refine bS fun H ed h=>?_;apply ag _;refine bn hJ _ (rR f u0.bp ed) (aP ?_);try apply ag _
 refine aA fun eh hc et=>?_;try simp only[ax] at et
 try apply ag _
 apply aF hJ;revert h;refine bS fun I ev h=>?_;apply ag _;refine bn hJ _ (pF (IntKind.i64.wrap ((IntKind.i64.wrap (d.num*u0.bp.den))+(IntKind.i64.wrap (u0.bp.num*d.den)))) (IntKind.i64.wrap (d.den*u0.bp.den)) ev) (aP ?_);try apply ag _
 refine aA fun eQ hf eS=>?_;try simp only[ax] at eS
 try apply ag _
 refine ah hJ (aF hJ ?_);revert h;refine bS fun hg eV h=>?_;apply ag _;refine bn hJ _ (mm I H eV) ?_;try apply ag _
 revert h;refine aV hJ (fun e0 h=>?_) fun e0 h=>?_
 .cases h;apply aB hJ _;apply aT;simp only[*,go_sem]
 cases h;refine aN hJ (ah hJ ?_);refine eE hJ mixed 2 ⟨p,[(eQ,rt I.num I.den),(eh,rt H.num H.den),(w,rt f.num f.den),(u,rt d.num d.den),(o,bk u0 s1 j (sl d17 u0.aK n) k)]⟩ aL aj ?_;apply ag _;apply aT;simp only[*,go_sem]
def Cq (u0:an)(b:Int)(a:(List Int))(st:((List bh)×Int)):Option (Fl ((List bh)×Int) (List bh)):=
 cond (decide (st.2<(a.length:Int))) (ai (bu a st.2) fun c=>ai (lA u0 b c) fun d=>ai (cx st.1 ([d])) fun e=>some (.nx (e,(IntKind.i64.wrap (st.2+1))))) (some (.bk (st.1,st.2)))
def n7 (a:(List (List Int)))(b:Int)(st:((List Int)×Int)):Option (Fl ((List Int)×Int) (List bh)):=
 cond (decide (st.2<(a.length:Int))) (ai (bu a st.2) fun c=>ai (bu c b) fun d=>ai (cx st.1 ([d])) fun e=>some (.nx (e,(IntKind.i64.wrap (st.2+1))))) (some (.bk (st.1,st.2)))
def r6 (u0:an)(b:Int)(a:(List Int))(st:((List bh)×Int)):Option (Fl ((List bh)×Int) (List bh)):=
 cond (decide (st.2<(a.length:Int))) (ai (bu a st.2) fun c=>ai (lA u0 b c) fun d=>ai (cx st.1 ([d])) fun e=>some (.nx (e,(IntKind.i64.wrap (st.2+1))))) (some (.bk (st.1,st.2)))
def pU (u0:an)(a:(List (List Int)))(st:((List bh)×Int)):Option (Fl ((List bh)×Int) (List bh)):=
 cond (decide (st.2<(u0.aK.length:Int))) (ai (aS (n7 a st.2) fu (([]:List Int),0)) fun o=>aG o (fun b=>ai (rV b.1) fun c=>ai (aS (r6 u0 st.2 c) fu (st.1,0)) fun o=>aG o (fun d=>some (.nx (d.1,(IntKind.i64.wrap (st.2+1))))) (fun _ _=>none) (fun r=>some (.rt r))) (fun _ _=>none) (fun r=>some (.rt r))) (some (.bk (st.1,st.2)))
def mw (u0:an)(a:(List (List Int))):Option (List bh):=
 ai (aS (pU u0 a) fu (([]:List bh),0)) fun o=>aG o (fun b=>some b.1) (fun _ _=>none) (fun r=>some r)
theorem uP {ro:Addr->Option Value}(u0:an){s1 a ao b:Value}(e:bR ro u0 s1 a ao b)(z:(List (List Int))){ar:Value}(B:aH (rL rI) ro ar z){r:(List bh)}(h:mw u0 z=some r):eH Tryz.prog 74 #[bv u0 s1 a ao b,ar] ro (fun v bf=>∃a0,v=a0/\aH gL bf a0 r):=by
 obtain ⟨d17,c,rfl,hl,hn,-⟩:=id e.y;obtain ⟨d31,ho,rfl,hp,hq,-⟩:=id B;unfold mw at h;refine aI.go Tryz.func74 rfl Tryz.ntmps74 Tryz.results74 av fun main J hJ A cS hd hs=>?_;have c0:=hs 0;have k1:=hs 1;clear hs;apply aB hJ _;refine aA fun d s da=>?_;try simp only[ax] at da
 try apply ag _
 apply aB hJ _;refine ah hJ (aF hJ ?_);apply ag _;apply aW hJ;revert h;refine bS fun db C dd=>?_;refine bW hJ (rg 5 46 []) (fun m f F'=>∃(k:Addr->Option Value) (d38:Option Addr) (t:Nat) (g:List (Nat×Obj)) (n:(List bh)) (o:Int),aS (pU u0 z) m (n,o)=some db/\F'=⟨k,(d,bk u0 s1 a (sl d17 u0.aK c) b)::g⟩/\Ext ro k/\aZ gL k 61 (.slice d38 n.length t) n g/\n.length<=t/\slot f 5= .slice d38 n.length t/\slot f 6= .int .i64 o) fu ?_ ?_
 .refine ⟨ro,none,0,[],([]:List bh),0,C,rfl,Ext.refl _,aZ.nil _ _ _,Nat.le_refl _,?_⟩;simp only[*,go_sem]
 rintro N a2 F' a3 ⟨k,d38,t,g,n,o,C,rfl,D,p,df,dk,dp⟩;refine eI hJ fun _ a4=>?_;replace B:=B.mono D;replace e:=e.mono D;replace s:=a4.hd;simp only[bt] at a4;obtain ⟨a5,a6,a7⟩:=a3.pick [1,2,4] aD;simp only[*,go_sem] at a5 a6 a7;clear a3 cS hd c0 k1;obtain _|N:=N
 .exact absurd C (by simp only[aS,reduceCtorEq,not_false_eq_true])
 revert C;refine bS fun hr h O=>?_;unfold pU at h;try dsimp only at h
 refine ah hJ (ah hJ ?_);refine ay hJ fun ht=>?_;apply aE hJ _;revert h;refine aV hJ (fun dq h=>?_) fun dq h=>?_
 .refine aN hJ (ah hJ ?_);refine aW hJ (ah hJ ?_);refine ay hJ fun hv=>?_;apply aE hJ _;refine ah hJ (ah hJ ?_);refine ay hJ fun hx=>?_;apply aE hJ _;apply aW hJ;revert h;refine bS fun ds E dt=>?_;refine bW hJ (rg 17 16 [7,8]) (fun m f F'=>∃(d58:Option Addr) (G:Nat) (P:List (Nat×Obj)) (i:(List Int)) (H:Int),aS (n7 z o) m (i,H)=some ds/\F'=⟨k,(d,bk u0 s1 a (sl d17 u0.aK c) b)::(P++g)⟩/\aZ rI k 3 (.slice d58 i.length G) i P/\i.length<=G/\slot f 7= .slice d58 i.length G/\slot f 8= .int .i64 H) fu ?_ ?_
  .refine ⟨none,0,[],([]:List Int),0,E,rfl,aZ.nil _ _ _,Nat.le_refl _,?_⟩;simp only[*,go_sem]
  rintro Q du F' R ⟨d58,G,P,i,H,E,rfl,a8,hy,dv,dC⟩;obtain ⟨a9,ba,bb⟩:=R.pick [1,2,4,5,6,10,11,12,13,14] aD;simp only[*,go_sem] at a9 ba bb;have hz:cF (rg 5 46 []) du a2:=(R.eG aD).trans aL;clear R a5 a6 a7 dk dp;obtain _|Q:=Q
  .exact absurd E (by simp only[aS,reduceCtorEq,not_false_eq_true])
  revert E;refine bS fun hA h S=>?_;unfold n7 at h;try dsimp only at h
  refine ah hJ (ah hJ ?_);refine ay hJ fun hB=>?_;apply aE hJ _;revert h;refine aV hJ (fun dE h=>?_) fun dE h=>?_
  .refine aN hJ (ah hJ ?_);apply aW hJ;refine ay hJ fun dT=>?_;apply aQ hJ;revert h;refine bS fun hD ea h=>?_;obtain ⟨hE,hF,bc⟩:=ck ea;obtain ⟨hG,hI,eb,ec,bd⟩:=B.el _ _ bc;obtain ⟨hK,rfl,ed⟩:=ec;obtain ⟨d76,hL,rfl,hM,hN,eh⟩:=id ed;cases eb;have et:=bd 0 _ rfl;simp only[go_sem] at et;clear bd bc;revert h;refine bS fun u ev h=>?_;obtain ⟨hP,hQ,bj⟩:=ck ev;obtain ⟨hR,eQ,eS,eV,bl⟩:=eh _ _ bj;obtain rfl:eQ=[.int .i64 u]:=eV;cases eS;have e0:=bl 0 _ rfl;simp only[go_sem] at e0;clear bl bj;revert h;refine bS fun e1 e3 h=>?_;cases h;obtain ⟨fa,bm⟩:=cL e3;(try apply ag _);refine aA fun bo fb br=>?_;have fg:=bg.cons br dT;try simp only[ax] at br
   (try apply ag _);refine dj (r:=rI) (l:=i) (x:=u) (cs:=#[.int .i64 u]) (e2:=3) [(bo,ic u),(d,bk u0 s1 a (sl d17 u0.aK c) b)] g a8 fg fa rfl aL fb rfl rfl cZ cZ e8 fc rfl e9 aD aD (fun hS bs T U V hT=>?_);simp only[aY] at V;subst U;rw[<-bm] at T;clear bm;obtain ⟨d94,fi,rfl,fp⟩:=T.len;refine ⟨⟨k,(bo,ic u)::(d,bk u0 s1 a (sl d17 u0.aK c) b)::(bs++g)⟩,Le.refl _,?_⟩;apply aP;(try apply ag _);refine ay hJ fun hV=>?_;apply aE hJ _;(try apply ag _);refine ⟨Q,Nat.lt_succ_self _,_,Le.sub (List.Sublist.cons _ (List.Sublist.refl _)),d94,fi,bs,e1,(IntKind.i64.wrap (H+1)),S,rfl,T,fp,?_⟩;simp only[*,go_sem]
  cases h;apply bP;simp only[go_sem];obtain rfl:=sI S;clear S;have h:=dt;dsimp only[aG] at h;apply ah hJ;refine ay hJ fun bz=>?_;obtain ⟨hX,W,X,b0,fr⟩:=a8.dU [(d,bk u0 s1 a (sl d17 u0.aK c) b)] g bz (aJ.cons s (p.gA));clear bz;refine cB hJ fr ?_;obtain ⟨hY,hZ,-⟩:=b0.op;replace e:=e.mono W;replace s:=X.hd;replace p:=p.mono W X.tl;simp only[bt] at X;refine ay hJ fun h0=>?_;apply aQ hJ;revert h;refine bS fun fs ft h=>?_;apply ag _;refine cc hJ _ (I5 i b0 ft) fun v I Y Z fv=>?_;obtain ⟨h1,rfl,b1⟩:=fv;replace e:=e.mono Y;replace s:=Z.hd;replace p:=p.mono Y Z.tl;simp only[bt] at Z;obtain ⟨d118,h2,rfl,h3,h4,-⟩:=id b1;apply aP;try apply ag _
  apply ah hJ;refine ay hJ fun h5=>?_;apply aE hJ _;apply aW hJ;revert h;refine bS fun fw K fx=>?_;refine bW hJ (rg 35 16 [5,9]) (fun m f F'=>∃(d125:Option Addr) (w:Nat) (L:List (Nat×Obj)) (j:(List bh)) (M:Int),aS (Cq u0 o fs) m (j,M)=some fw/\F'=⟨I,(d,bk u0 s1 a (sl d17 u0.aK c) b)::L⟩/\aZ gL I 61 (.slice d125 j.length w) j L/\j.length<=w/\slot f 5= .slice d125 j.length w/\slot f 9= .int .i64 M) fu ?_ ?_
  .refine ⟨d38,t,g,n,0,K,rfl,p,df,?_⟩;simp only[*,go_sem]
  rintro ab fz F' ad ⟨d125,w,L,j,M,K,rfl,b2,gg,h6,h7⟩;obtain ⟨gl,gn,gp⟩:=ad.pick [1,2,4,6,7,8,10,11,12,13,14,33,34] aD;simp only[*,go_sem] at gl gn gp;have h8:cF (rg 5 46 []) fz a2:=(ad.eG aD).trans aL;clear ad a9 ba bb dv dC;obtain _|ab:=ab
  .exact absurd K (by simp only[aS,reduceCtorEq,not_false_eq_true])
  revert K;refine bS fun h9 h ae=>?_;unfold Cq at h;try dsimp only at h
  refine ah hJ (ah hJ ?_);refine ay hJ fun ib=>?_;apply aE hJ _;revert h;refine aV hJ (fun gB h=>?_) fun gB h=>?_
  .refine aN hJ (ah hJ ?_);apply aW hJ;refine ay hJ fun gC=>?_;refine c5 hJ mixed 8 1 aL aj ?_;revert h;refine bS fun b3 gM h=>?_;obtain ⟨ih,ik,b4⟩:=ck gM;obtain ⟨il,gN,gT,gV,b5⟩:=b1.el _ _ b4;obtain rfl:gN=[.int .i64 b3]:=gV;cases gT;have g0:=b5 0 _ rfl;simp only[go_sem] at g0;clear b5 b4;revert h;refine bS fun q g1 h=>?_;(try apply ag _);refine ⟨_,bL hJ fun F g2=>yq u0 (e.mono (cq g2)) o b3 g1,?_⟩;revert h;refine bS fun g3 g4 h=>?_;cases h;obtain ⟨ha,ca⟩:=cL g4;(try apply ag _);refine aA fun cb hc cd=>?_;have hf:=bg.cons cd gC;try simp only[ax] at cd
   (try apply ag _);refine dj (r:=gL) (l:=j) (x:=q) (cs:=#[.int .i64 q.back,.int .i64 q.high]) (e2:=61) [(cb,.cells #[.int .i64 q.back,.int .i64 q.high] 61),(d,bk u0 s1 a (sl d17 u0.aK c) b)] [] b2 hf ha rfl aL hc rfl rfl Bc Bc Gs Gu rfl Gt aD aD (fun im cf al U V iv=>?_);simp only[aY] at V;subst U;rw[<-ca] at al;clear ca;obtain ⟨d152,hg,rfl,hh⟩:=al.len;refine ⟨⟨I,(cb,.cells #[.int .i64 q.back,.int .i64 q.high] 61)::(d,bk u0 s1 a (sl d17 u0.aK c) b)::cf⟩,Le.refl _,?_⟩;refine ⟨aL,lW ?_⟩;(try apply ag _);refine ay hJ fun ix=>?_;apply aE hJ _;(try apply ag _);refine ⟨ab,Nat.lt_succ_self _,_,Le.sub (List.Sublist.cons _ (List.Sublist.refl _)),d152,hg,cf,g3,(IntKind.i64.wrap (M+1)),ae,rfl,al,hh,?_⟩;simp only[*,go_sem]
  cases h;apply bP;simp only[go_sem];obtain rfl:=sI ae;clear ae;have h:=fx;dsimp only[aG] at h;cases h;refine ay hJ fun jC=>?_;apply aE hJ _;try apply ag _
  refine ⟨N,Nat.lt_succ_self _,_,Le.sub (List.Sublist.refl _),I,d125,w,L,j,(IntKind.i64.wrap (o+1)),O,rfl,(D.trans (W.trans Y)),b2,gg,?_⟩;simp only[*,go_sem]
 cases h;apply bP;simp only[go_sem];obtain rfl:=sI O;clear O;have h:=dd;dsimp only[aG] at h;cases h;apply ah hJ;refine ay hJ fun j1=>?_;apply aE hJ _;refine ay hJ fun cl=>?_;obtain ⟨j2,hi,hj,cy,hk⟩:=p.dU [(d,bk u0 s1 a (sl d17 u0.aK c) b)] [] cl (aJ.cons s (aJ.nil _));clear cl;refine cB hJ hk ?_;obtain ⟨kh,kj,-⟩:=cy.op;simp only[bt] at hj;refine bX ?_;exact ⟨_,(D).trans hi,Le.sub (List.nil_sublist _),_,rfl,cy⟩
def yx (u0:an)(a:Int)(b:(List bh))(st:((List Int)×Int)):Option (Fl ((List Int)×Int) ((List Int)×Int)):=
 ai (bu u0.az (IntKind.i64.wrap ((u0.az.length:Int) - 1))) fun c=>cond (decide (st.2<=c.aU)) (ai (jU u0 ([st.2]) a) fun d=>ai (iQ d b) fun e=>cond (e) (ai (cx st.1 ([st.2])) fun f=>some (.nx (f,(IntKind.i64.wrap (st.2+1))))) (some (.nx (st.1,(IntKind.i64.wrap (st.2+1)))))) (some (.bk (st.1,st.2)))
def n8 (u0:an)(a:Int)(b:(List bh))(st:((List Int)×Int)):Option (Fl ((List Int)×Int) ((List Int)×Int)):=
 ai (bu u0.az (IntKind.i64.wrap ((u0.az.length:Int) - 1))) fun c=>cond (decide (st.2<=c.aU)) (ai (jU u0 ([st.2]) a) fun d=>ai (iQ d b) fun e=>cond (e) (ai (cx st.1 ([st.2])) fun f=>some (.nx (f,(IntKind.i64.wrap (st.2+1))))) (some (.nx (st.1,(IntKind.i64.wrap (st.2+1)))))) (some (.bk (st.1,st.2)))
def yy (u0:an)(a:Int)(b:(List bh))(st:((List Int)×Int)):Option (Fl ((List Int)×Int) ((List Int)×Int)):=
 ai (bu u0.az (IntKind.i64.wrap ((u0.az.length:Int) - 1))) fun c=>cond (decide (st.2<=c.aU)) (ai (jU u0 ([st.2]) a) fun d=>ai (iQ d b) fun e=>cond (e) (ai (cx st.1 ([st.2])) fun f=>some (.nx (f,(IntKind.i64.wrap (st.2+1))))) (some (.nx (st.1,(IntKind.i64.wrap (st.2+1)))))) (some (.bk (st.1,st.2)))
def jV (u0:an)(a:Int):Option ((List Int)×Int):=
 ai (pG a) fun b=>cond ((b==0)) (cond (decide (3<=(u0.props.length:Int))) (ai (iR u0 2) fun c=>cond ((c.2 != 0)) (some (([]:(List Int)),c.2)) (ai (mw u0 c.1) fun f=>ai (bu u0.az 0) fun g=>ai (aS (yx u0 a f) fu (([]:List Int),g.aU)) fun o=>aG o (fun h=>some (h.1,0)) (fun _ _=>none) (fun r=>some r))) (ai (iR u0 b) fun d=>cond ((d.2 != 0)) (some (([]:(List Int)),d.2)) (ai (mw u0 d.1) fun i=>ai (bu u0.az 0) fun j=>ai (aS (n8 u0 a i) fu (([]:List Int),j.aU)) fun o=>aG o (fun k=>some (k.1,0)) (fun _ _=>none) (fun r=>some r)))) (ai (iR u0 b) fun e=>cond ((e.2 != 0)) (some (([]:(List Int)),e.2)) (ai (mw u0 e.1) fun l=>ai (bu u0.az 0) fun m=>ai (aS (yy u0 a l) fu (([]:List Int),m.aU)) fun o=>aG o (fun n=>some (n.1,0)) (fun _ _=>none) (fun r=>some r)))
theorem Je {ro:Addr->Option Value}(u0:an){s1 eQ d f:Value}(a:bR ro u0 s1 eQ d f)(z:Int){r:((List Int)×Int)}(h:jV u0 z=some r):eH Tryz.prog 11 #[bv u0 s1 eQ d f,.int .i64 z] ro (fun v bf=>∃eS,v= .tuple #[eS,.int .i64 r.2]/\aH rI bf eS r.1):=by
 obtain ⟨d3,c4,rfl,pA,pB,-⟩:=id a.e;obtain ⟨d10,n,rfl,pC,pD,-⟩:=id a.p;unfold jV at h;refine aI.go Tryz.func11 rfl Tryz.ntmps11 Tryz.results11 av fun main J hJ A da hd hs=>?_;have db:=hs 0;have k1:=hs 1;clear hs;apply aB hJ _;refine aA fun q c hZ=>?_;try simp only[ax] at hZ
 try apply ag _
 apply aF hJ;revert h;refine bS fun eV h0 h=>?_;apply ag _;refine bn hJ _ (Cj z h0) (aP ?_);try apply ag _
 refine ah hJ (aF hJ ?_);revert h;refine cS (fun h1 h=>?_) fun h1 h=>?_
 .try apply ag _
  revert h;refine aV hJ (fun h2 h=>?_) fun h2 h=>?_
  .apply aE hJ _;apply aF hJ;revert h;refine bS fun h3 h4 h=>?_;apply ag _;refine cc hJ _ (r5 u0 a 2 h4) fun v pL dd e0 g=>?_;obtain ⟨pT,rfl,e1⟩:=g;replace a:=a.mono dd;replace c:=e0.hd;simp only[bt] at e0;obtain ⟨d41,p0,rfl,p1,qe,-⟩:=id e1;apply aP;(try apply ag _);refine ah hJ (aF hJ ?_);apply ag _;revert h;refine aV hJ (fun h5 h=>?_) fun h5 h=>?_
   .cases h;apply aB hJ _;refine bX ?_;exact ⟨_,dd,Le.sub (List.nil_sublist _),_,rfl,aH.nil _ _⟩
   refine aN hJ (ah hJ ?_);apply aQ hJ;revert h;refine bS fun e3 h6 h=>?_;apply ag _;refine cc hJ _ (uP u0 a h3.1 e1 h6) fun v fa fb fg g=>?_;obtain ⟨qk,rfl,S⟩:=g;replace a:=a.mono fb;replace c:=fg.hd;simp only[bt] at fg;apply aP;(try apply ag _);apply aB hJ _;refine ah hJ (aF hJ ?_);revert h;refine bS fun fi h7 h=>?_;obtain ⟨q0,q1,fp⟩:=ck h7;obtain ⟨a2,h8,h9,ib,df⟩:=a.e.el _ _ fp;obtain rfl:h8=fi.cells:=ib;cases h9;have B:=df 0 _ rfl;simp only[go_sem] at B;have C:=df 1 _ rfl;simp only[go_sem] at C;clear df fp;(try apply ag _);apply aW hJ;revert h;refine bS fun ih bm ik=>?_;refine bW hJ (rg 39 24 [10,11]) (fun m K F'=>∃(Y:Addr->Option Value) (d63:Option Addr) (a3:Nat) (a4:List (Nat×Obj)) (L:(List Int)) (i:Int),aS (yx u0 z e3) m (L,i)=some ih/\F'=⟨Y,(q,bk u0 (sl (some a2) u0.az c4) (sl d10 u0.props n) d f)::a4⟩/\Ext fa Y/\aZ rI Y 3 (.slice d63 L.length a3) L a4/\L.length<=a3/\slot K 10= .slice d63 L.length a3/\slot K 11= .int .i64 i) fu ?_ ?_
   .refine ⟨fa,none,0,[],([]:List Int),fi.aU,bm,rfl,Ext.refl _,aZ.nil _ _ _,Nat.le_refl _,?_⟩;simp only[*,go_sem]
   rintro bo ra F' fr ⟨Y,d63,a3,a4,L,i,bm,rfl,T,M,il,rb,re⟩;refine eI hJ fun _ fs=>?_;replace S:=S.mono T;replace a:=a.mono T;replace c:=fs.hd;simp only[bt] at fs;replace B:=T _ _ B;replace C:=T _ _ C;obtain ⟨im,iv,ix⟩:=fr.pick [1,2,4,5,9] aD;simp only[*,go_sem] at im iv ix;clear fr da hd db k1;obtain _|bo:=bo
   .exact absurd bm (by simp only[aS,reduceCtorEq,not_false_eq_true])
   revert bm;refine bS fun rh h br=>?_;unfold yx at h;(try dsimp only at h);refine ah hJ (ah hJ ?_);refine ay hJ fun rk=>?_;apply aQ hJ;revert h;refine bS fun jC j1 h=>?_;obtain ⟨rl,rn,ft⟩:=ck j1;obtain ⟨rp,j2,kh,kj,dk⟩:=a.e.el _ _ ft;obtain rfl:j2=jC.cells:=kj;cases kh;have Z:=dk 0 _ rfl;simp only[go_sem] at Z;have ab:=dk 1 _ rfl;simp only[go_sem] at ab;clear dk ft;(try apply ag _);revert h;refine aV hJ (fun kk h=>?_) fun kk h=>?_
   .refine aN hJ (ah hJ ?_);refine aW hJ (ah hJ ?_);refine ay hJ fun kl=>?_;apply aQ hJ;revert h;refine bS fun km kn h=>?_;apply ag _;refine aA fun bs fv fw=>?_;have fx:=bg.cons fw kl;try simp only[ax] at fw
    (try apply ag _);obtain ⟨s,bz,fz⟩:=fD (b:=bs) (o:=(ic i)) [] ((q,bk u0 (sl (some a2) u0.az c4) (sl d10 u0.props n) d f)::a4) fx fv (aJ.cons c (M.gA));have gg:aH rI (b9 Y bs (ic i)) (.slice (some ⟨bs,0,none⟩) 1 1) [i]:=(aH.flat (r:=rI) (e:=3) (cs:=#[.int .i64 i]) (fun x=>[.int .i64 x]) ([i]) (fun _=>rfl) fv rfl av)
    generalize b9 Y bs (ic i)=rr at gg bz s fz;refine gI hJ fz ?_;replace S:=S.mono s;replace a:=a.mono s;replace c:=bz.hd;replace M:=M.mono s bz.tl;simp only[bt] at bz;replace B:=s _ _ B;replace C:=s _ _ C;replace Z:=s _ _ Z;replace ab:=s _ _ ab;have rv:=bg.tl fx;refine cc hJ _ (pJ u0 a ([i]) gg z kn) fun v dp D dq g=>?_;obtain ⟨rB,rL,sa,sb,rfl,a5⟩:=g;replace S:=S.mono D;replace a:=a.mono D;replace c:=dq.hd;replace M:=M.mono D dq.tl;simp only[bt] at dq;replace B:=D _ _ B;replace C:=D _ _ C;replace Z:=D _ _ Z;replace ab:=D _ _ ab;obtain ⟨d93,sc,rfl,sf,sg,-⟩:=id a5.e;obtain ⟨d100,sh,rfl,sm,ss,-⟩:=id a5.p;obtain ⟨d107,sy,rfl,sz,sT,-⟩:=id a5.y;obtain ⟨d114,ta,rfl,tb,te,-⟩:=id a5.t;apply aP;revert h;refine bS fun ti kp h=>?_;(try apply ag _);refine bn hJ _ (pR km (a5.mono bq) e3 (S.mono bq) kp) ?_;(try apply ag _);revert h;refine aV hJ (fun ks h=>?_) fun ks h=>?_
    .refine ay hJ fun kt=>?_;apply aQ hJ;revert h;refine bS fun kv kx h=>?_;cases h;obtain ⟨ky,gl⟩:=cL kx;apply ag _;refine aA fun gn k0 gp=>?_;have k2:=bg.cons gp kt;try simp only[ax] at gp
     (try apply ag _);refine dj (r:=rI) (l:=L) (x:=i) (cs:=#[.int .i64 i]) (e2:=3) [(gn,ic i),(q,bk u0 (sl (some a2) u0.az c4) (sl d10 u0.props n) d f)] [] M k2 ky rfl aL k0 rfl rfl cZ cZ e8 fc rfl e9 aD aD (fun tk gB ds a6 a7 tm=>?_);simp only[aY] at a7;subst a6;rw[<-gl] at ds;clear gl;obtain ⟨d137,lb,rfl,lh⟩:=ds.len;refine ⟨⟨dp,(gn,ic i)::(q,bk u0 (sl (some a2) u0.az c4) (sl d10 u0.props n) d f)::gB⟩,Le.refl _,?_⟩;apply aP;(try apply ag _);refine ay hJ fun tp=>?_;apply aE hJ _;(try apply ag _);refine ⟨bo,Nat.lt_succ_self _,_,Le.sub (List.Sublist.cons _ (List.Sublist.refl _)),dp,d137,lb,gB,kv,(IntKind.i64.wrap (i+1)),br,rfl,(T.trans (s.trans D)),ds,lh,?_⟩;simp only[*,go_sem]
    cases h;apply aN hJ;refine ay hJ fun ts=>?_;apply aE hJ _;(try apply ag _);refine ⟨bo,Nat.lt_succ_self _,_,Le.sub (List.Sublist.refl _),dp,d63,a3,a4,L,(IntKind.i64.wrap (i+1)),br,rfl,(T.trans (s.trans D)),M,il,?_⟩;simp only[*,go_sem]
   cases h;apply bP;simp only[go_sem];obtain rfl:=sI br;clear br;have h:=ik;dsimp only[aG] at h;cases h;clear Z ab;apply ah hJ;refine ay hJ fun tt=>?_;apply aE hJ _;refine ay hJ fun gC=>?_;obtain ⟨tx,b0,gM,gN,lj⟩:=M.dU [(q,bk u0 (sl (some a2) u0.az c4) (sl d10 u0.props n) d f)] [] gC (aJ.cons c (aJ.nil _));clear gC;refine cB hJ lj ?_;obtain ⟨tz,tI,-⟩:=gN.op;replace a:=a.mono b0;replace c:=gM.hd;simp only[bt] at gM;replace B:=b0 _ _ B;replace C:=b0 _ _ C;refine bX ?_;exact ⟨_,(((dd).trans fb).trans T).trans b0,Le.sub (List.nil_sublist _),_,rfl,gN⟩
  refine aN hJ (ah hJ ?_);apply aQ hJ;revert h;refine bS fun lk ll h=>?_;apply ag _;refine cc hJ _ (r5 u0 a eV ll) fun v tM dt gT g=>?_;obtain ⟨tW,rfl,gV⟩:=g;replace a:=a.mono dt;replace c:=gT.hd;simp only[bt] at gT;obtain ⟨d170,ub,rfl,ui,u1,-⟩:=id gV;apply aP;try apply ag _
  refine ah hJ (aF hJ ?_);apply ag _;revert h;refine aV hJ (fun ln h=>?_) fun ln h=>?_
  .cases h;apply aB hJ _;refine bX ?_;exact ⟨_,dt,Le.sub (List.nil_sublist _),_,rfl,aH.nil _ _⟩
  refine aN hJ (ah hJ ?_);apply aQ hJ;revert h;refine bS fun g0 lo h=>?_;apply ag _;refine cc hJ _ (uP u0 a lk.1 gV lo) fun v g1 g2 g3 g=>?_;obtain ⟨u2,rfl,U⟩:=g;replace a:=a.mono g2;replace c:=g3.hd;simp only[bt] at g3;apply aP;try apply ag _
  apply aB hJ _;refine ah hJ (aF hJ ?_);revert h;refine bS fun g4 lr h=>?_;obtain ⟨u3,u4,ha⟩:=ck lr;obtain ⟨a8,lv,lx,ly,du⟩:=a.e.el _ _ ha;obtain rfl:lv=g4.cells:=ly;cases lx;have E:=du 0 _ rfl;simp only[go_sem] at E;have F:=du 1 _ rfl;simp only[go_sem] at F;clear du ha;try apply ag _
  apply aW hJ;revert h;refine bS fun lL b1 l1=>?_;refine bW hJ (rg 39 24 [10,11]) (fun m K F'=>∃(ad:Addr->Option Value) (d192:Option Addr) (a9:Nat) (ba:List (Nat×Obj)) (N:(List Int)) (j:Int),aS (n8 u0 z g0) m (N,j)=some lL/\F'=⟨ad,(q,bk u0 (sl (some a8) u0.az c4) (sl d10 u0.props n) d f)::ba⟩/\Ext g1 ad/\aZ rI ad 3 (.slice d192 N.length a9) N ba/\N.length<=a9/\slot K 10= .slice d192 N.length a9/\slot K 11= .int .i64 j) fu ?_ ?_
  .refine ⟨g1,none,0,[],([]:List Int),g4.aU,b1,rfl,Ext.refl _,aZ.nil _ _ _,Nat.le_refl _,?_⟩;simp only[*,go_sem]
  rintro b2 va F' hc ⟨ad,d192,a9,ba,N,j,b1,rfl,V,O,l2,vd,vs⟩;refine eI hJ fun _ hf=>?_;replace U:=U.mono V;replace a:=a.mono V;replace c:=hf.hd;simp only[bt] at hf;replace E:=V _ _ E;replace F:=V _ _ F;obtain ⟨l3,l4,ma⟩:=hc.pick [1,2,4,5,9] aD;simp only[*,go_sem] at l3 l4 ma;clear hc da hd db k1;obtain _|b2:=b2
  .exact absurd b1 (by simp only[aS,reduceCtorEq,not_false_eq_true])
  revert b1;refine bS fun vx h b3=>?_;unfold n8 at h;try dsimp only at h
  refine ah hJ (ah hJ ?_);refine ay hJ fun vy=>?_;apply aQ hJ;revert h;refine bS fun mf mi h=>?_;obtain ⟨v3,wa,hg⟩:=ck mi;obtain ⟨wb,ml,mn,mr,dv⟩:=a.e.el _ _ hg;obtain rfl:ml=mf.cells:=mr;cases mn;have ae:=dv 0 _ rfl;simp only[go_sem] at ae;have al:=dv 1 _ rfl;simp only[go_sem] at al;clear dv hg;try apply ag _
  revert h;refine aV hJ (fun mx h=>?_) fun mx h=>?_
  .refine aN hJ (ah hJ ?_);refine aW hJ (ah hJ ?_);refine ay hJ fun my=>?_;apply aQ hJ;revert h;refine bS fun m1 m2 h=>?_;apply ag _;refine aA fun b4 hh hi=>?_;have hj:=bg.cons hi my;try simp only[ax] at hi
   (try apply ag _);obtain ⟨u,b5,hk⟩:=fD (b:=b4) (o:=(ic j)) [] ((q,bk u0 (sl (some a8) u0.az c4) (sl d10 u0.props n) d f)::ba) hj hh (aJ.cons c (O.gA));have hl:aH rI (b9 ad b4 (ic j)) (.slice (some ⟨b4,0,none⟩) 1 1) [j]:=(aH.flat (r:=rI) (e:=3) (cs:=#[.int .i64 j]) (fun x=>[.int .i64 x]) ([j]) (fun _=>rfl) hh rfl av)
   generalize b9 ad b4 (ic j)=wc at hl b5 u hk;refine gI hJ hk ?_;replace U:=U.mono u;replace a:=a.mono u;replace c:=b5.hd;replace O:=O.mono u b5.tl;simp only[bt] at b5;replace E:=u _ _ E;replace F:=u _ _ F;replace ae:=u _ _ ae;replace al:=u _ _ al;have wi:=bg.tl hj;refine cc hJ _ (pJ u0 a ([j]) hl z m2) fun v dC G dE g=>?_;obtain ⟨wx,wy,w0,xa,rfl,bb⟩:=g;replace U:=U.mono G;replace a:=a.mono G;replace c:=dE.hd;replace O:=O.mono G dE.tl;simp only[bt] at dE;replace E:=G _ _ E;replace F:=G _ _ F;replace ae:=G _ _ ae;replace al:=G _ _ al;obtain ⟨d222,xc,rfl,xf,xi,-⟩:=id bb.e;obtain ⟨d229,xn,rfl,xr,xt,-⟩:=id bb.p;obtain ⟨d236,xv,rfl,x0,x1,-⟩:=id bb.y;obtain ⟨yi,yk,rfl,yn,yr,-⟩:=id bb.t;apply aP;revert h;refine bS fun ys na h=>?_;(try apply ag _);refine bn hJ _ (pR m1 (bb.mono bq) g0 (U.mono bq) na) ?_;(try apply ag _);revert h;refine aV hJ (fun nb h=>?_) fun nb h=>?_
   .refine ay hJ fun nd=>?_;apply aQ hJ;revert h;refine bS fun nf nm h=>?_;cases h;obtain ⟨nn,hn⟩:=cL nm;apply ag _;refine aA fun ho np hp=>?_;have ns:=bg.cons hp nd;try simp only[ax] at hp
    (try apply ag _);refine dj (r:=rI) (l:=N) (x:=j) (cs:=#[.int .i64 j]) (e2:=3) [(ho,ic j),(q,bk u0 (sl (some a8) u0.az c4) (sl d10 u0.props n) d f)] [] O ns nn rfl aL np rfl rfl cZ cZ e8 fc rfl e9 aD aD (fun yv hq dT a6 a7 y0=>?_);simp only[aY] at a7;subst a6;rw[<-hn] at dT;clear hn;obtain ⟨nx,nz,rfl,nA⟩:=dT.len;refine ⟨⟨dC,(ho,ic j)::(q,bk u0 (sl (some a8) u0.az c4) (sl d10 u0.props n) d f)::hq⟩,Le.refl _,?_⟩;apply aP;(try apply ag _);refine ay hJ fun y1=>?_;apply aE hJ _;(try apply ag _);refine ⟨b2,Nat.lt_succ_self _,_,Le.sub (List.Sublist.cons _ (List.Sublist.refl _)),dC,nx,nz,hq,nf,(IntKind.i64.wrap (j+1)),b3,rfl,(V.trans (u.trans G)),dT,nA,?_⟩;simp only[*,go_sem]
   cases h;apply aN hJ;refine ay hJ fun zc=>?_;apply aE hJ _;(try apply ag _);refine ⟨b2,Nat.lt_succ_self _,_,Le.sub (List.Sublist.refl _),dC,d192,a9,ba,N,(IntKind.i64.wrap (j+1)),b3,rfl,(V.trans (u.trans G)),O,l2,?_⟩;simp only[*,go_sem]
  cases h;apply bP;simp only[go_sem];obtain rfl:=sI b3;clear b3;have h:=l1;dsimp only[aG] at h;cases h;clear ae al;apply ah hJ;refine ay hJ fun zd=>?_;apply aE hJ _;refine ay hJ fun hr=>?_;obtain ⟨zp,ca,ht,hv,nH⟩:=O.dU [(q,bk u0 (sl (some a8) u0.az c4) (sl d10 u0.props n) d f)] [] hr (aJ.cons c (aJ.nil _));clear hr;refine cB hJ nH ?_;obtain ⟨zr,zs,-⟩:=hv.op;replace a:=a.mono ca;replace c:=ht.hd;simp only[bt] at ht;replace E:=ca _ _ E;replace F:=ca _ _ F;refine bX ?_;exact ⟨_,(((dt).trans g2).trans V).trans ca,Le.sub (List.nil_sublist _),_,rfl,hv⟩
 try apply ag _
 refine cJ hJ ?_;refine aN hJ (ah hJ ?_);apply aQ hJ;revert h;refine bS fun nI nK h=>?_;apply ag _;refine cc hJ _ (r5 u0 a eV nK) fun v zt ea hx g=>?_;obtain ⟨Ag,rfl,hy⟩:=g;replace a:=a.mono ea;replace c:=hx.hd;simp only[bt] at hx;obtain ⟨At,Bd,rfl,BF,B0,-⟩:=id hy;apply aP;try apply ag _
 refine ah hJ (aF hJ ?_);apply ag _;revert h;refine aV hJ (fun nQ h=>?_) fun nQ h=>?_
 .cases h;apply aB hJ _;refine bX ?_;exact ⟨_,ea,Le.sub (List.nil_sublist _),_,rfl,aH.nil _ _⟩
 refine aN hJ (ah hJ ?_);apply aQ hJ;revert h;refine bS fun hz nR h=>?_;apply ag _;refine cc hJ _ (uP u0 a nI.1 hy nR) fun v hA hB hD g=>?_;obtain ⟨Cy,rfl,W⟩:=g;replace a:=a.mono hB;replace c:=hD.hd;simp only[bt] at hD;apply aP;try apply ag _
 apply aB hJ _;refine ah hJ (aF hJ ?_);revert h;refine bS fun hE nT h=>?_;obtain ⟨CY,Ex,hF⟩:=ck nT;obtain ⟨bc,nV,nX,nY,eb⟩:=a.e.el _ _ hF;obtain rfl:nV=hE.cells:=nY;cases nX;have H:=eb 0 _ rfl;simp only[go_sem] at H;have I:=eb 1 _ rfl;simp only[go_sem] at I;clear eb hF;try apply ag _
 apply aW hJ;revert h;refine bS fun n0 cb n1=>?_;refine bW hJ (rg 39 24 [10,11]) (fun m K F'=>∃(ao:Addr->Option Value) (cd:Option Addr) (bd:Nat) (bj:List (Nat×Obj)) (P:(List Int)) (k:Int),aS (yy u0 z hz) m (P,k)=some n0/\F'=⟨ao,(q,bk u0 (sl (some bc) u0.az c4) (sl d10 u0.props n) d f)::bj⟩/\Ext hA ao/\aZ rI ao 3 (.slice cd P.length bd) P bj/\P.length<=bd/\slot K 10= .slice cd P.length bd/\slot K 11= .int .i64 k) fu ?_ ?_
 .refine ⟨hA,none,0,[],([]:List Int),hE.aU,cb,rfl,Ext.refl _,aZ.nil _ _ _,Nat.le_refl _,?_⟩;simp only[*,go_sem]
 rintro cf Fl F' hG ⟨ao,cd,bd,bj,P,k,cb,rfl,X,Q,n2,F0,Gp⟩;refine eI hJ fun _ hI=>?_;replace W:=W.mono X;replace a:=a.mono X;replace c:=hI.hd;simp only[bt] at hI;replace H:=X _ _ H;replace I:=X _ _ I;obtain ⟨n3,oc,oi⟩:=hG.pick [1,2,4,5,9] aD;simp only[*,go_sem] at n3 oc oi;clear hG da hd db k1;obtain _|cf:=cf
 .exact absurd cb (by simp only[aS,reduceCtorEq,not_false_eq_true])
 revert cb;refine bS fun Gr h cl=>?_;unfold yy at h;try dsimp only at h
 refine ah hJ (ah hJ ?_);refine ay hJ fun Ha=>?_;apply aQ hJ;revert h;refine bS fun oj ox h=>?_;obtain ⟨Hb,Hc,hK⟩:=ck ox;obtain ⟨Hd,oy,o0,o1,ec⟩:=a.e.el _ _ hK;obtain rfl:oy=oj.cells:=o1;cases o0;have ar:=ec 0 _ rfl;simp only[go_sem] at ar;have a0:=ec 1 _ rfl;simp only[go_sem] at a0;clear ec hK;try apply ag _
 revert h;refine aV hJ (fun o2 h=>?_) fun o2 h=>?_
 .refine aN hJ (ah hJ ?_);refine aW hJ (ah hJ ?_);refine ay hJ fun o4=>?_;apply aQ hJ;revert h;refine bS fun pa pb h=>?_;apply ag _;refine aA fun cy hL hM=>?_;have hN:=bg.cons hM o4;try simp only[ax] at hM
  try apply ag _
  obtain ⟨w,c0,hP⟩:=fD (b:=cy) (o:=(ic k)) [] ((q,bk u0 (sl (some bc) u0.az c4) (sl d10 u0.props n) d f)::bj) hN hL (aJ.cons c (Q.gA));have hQ:aH rI (b9 ao cy (ic k)) (.slice (some ⟨cy,0,none⟩) 1 1) [k]:=(aH.flat (r:=rI) (e:=3) (cs:=#[.int .i64 k]) (fun x=>[.int .i64 x]) ([k]) (fun _=>rfl) hL rfl av)
  generalize b9 ao cy (ic k)=Hk at hQ c0 w hP;refine gI hJ hP ?_;replace W:=W.mono w;replace a:=a.mono w;replace c:=c0.hd;replace Q:=Q.mono w c0.tl;simp only[bt] at c0;replace H:=w _ _ H;replace I:=w _ _ I;replace ar:=w _ _ ar;replace a0:=w _ _ a0;have Hm:=bg.tl hN;refine cc hJ _ (pJ u0 a ([k]) hQ z pb) fun v ed R eh g=>?_;obtain ⟨Hn,H0,H2,H3,rfl,bl⟩:=g;replace W:=W.mono R;replace c:=eh.hd;replace Q:=Q.mono R eh.tl;simp only[bt] at eh;replace H:=R _ _ H;replace I:=R _ _ I;replace ar:=R _ _ ar;replace a0:=R _ _ a0;obtain ⟨H4,H5,rfl,Is,IH,-⟩:=id bl.e;obtain ⟨JF,Kd,rfl,Lk,Lw,-⟩:=id bl.p;obtain ⟨Mp,Mu,rfl,Nd,Nx,-⟩:=id bl.y;obtain ⟨Ph,Pl,rfl,Pr,Ps,-⟩:=id bl.t;apply aP;revert h;refine bS fun PH pd h=>?_;try apply ag _
  refine bn hJ _ (pR pa (bl.mono bq) hz (W.mono bq) pd) ?_;try apply ag _
  revert h;refine aV hJ (fun pf h=>?_) fun pf h=>?_
  .refine ay hJ fun ph=>?_;apply aQ hJ;revert h;refine bS fun pj pk h=>?_;cases h;obtain ⟨po,hR⟩:=cL pk;apply ag _;refine aA fun hS pr hT=>?_;have ps:=bg.cons hT ph;try simp only[ax] at hT
   (try apply ag _);refine dj (r:=rI) (l:=P) (x:=k) (cs:=#[.int .i64 k]) (e2:=3) [(hS,ic k),(q,bk u0 (sl (some bc) u0.az c4) (sl d10 u0.props n) d f)] [] Q ps po rfl aL pr rfl rfl cZ cZ e8 fc rfl e9 aD aD (fun PI hV et a6 a7 PQ=>?_);simp only[aY] at a7;subst a6;rw[<-hR] at et;clear hR;obtain ⟨pt,pv,rfl,pw⟩:=et.len;refine ⟨⟨ed,(hS,ic k)::(q,bk u0 (sl (some bc) u0.az c4) (sl d10 u0.props n) d f)::hV⟩,Le.refl _,?_⟩;apply aP;(try apply ag _);refine ay hJ fun PT=>?_;apply aE hJ _;(try apply ag _);refine ⟨cf,Nat.lt_succ_self _,_,Le.sub (List.Sublist.cons _ (List.Sublist.refl _)),ed,pt,pv,hV,pj,(IntKind.i64.wrap (k+1)),cl,rfl,(X.trans (w.trans R)),et,pw,?_⟩;simp only[*,go_sem]
  cases h;apply aN hJ;refine ay hJ fun P0=>?_;apply aE hJ _;try apply ag _
  refine ⟨cf,Nat.lt_succ_self _,_,Le.sub (List.Sublist.refl _),ed,cd,bd,bj,P,(IntKind.i64.wrap (k+1)),cl,rfl,(X.trans (w.trans R)),Q,n2,?_⟩;simp only[*,go_sem]
 cases h;apply bP;simp only[go_sem];obtain rfl:=sI cl;clear cl;have h:=n1;dsimp only[aG] at h;cases h;clear ar a0;apply ah hJ;refine ay hJ fun Qn=>?_;apply aE hJ _;refine ay hJ fun hX=>?_;obtain ⟨QP,ev,px,hY,py⟩:=Q.dU [(q,bk u0 (sl (some bc) u0.az c4) (sl d10 u0.props n) d f)] [] hX (aJ.cons c (aJ.nil _));clear hX;refine cB hJ py ?_;obtain ⟨QQ,QR,-⟩:=hY.op;simp only[bt] at px;replace H:=ev _ _ H;replace I:=ev _ _ I;refine bX ?_;exact ⟨_,(((ea).trans hB).trans X).trans ev,Le.sub (List.nil_sublist _),_,rfl,hY⟩
def r7 (u0:an)(b:Int)(c:(List bh))(d:cj)(e:(List Int))(st:(Bool×Int×(List (List Int))×Int)):Option (Fl (Bool×Int×(List (List Int))×Int) ((List Int)×Bool×Int)):=
 cond (decide (st.2.2.2<=d.aU)) (ai (cx ([]:List Int) e) fun f=>ai (cx f ([st.2.2.2])) fun a=>ai (jU u0 a b) fun g=>ai (iQ g c) fun h=>cond (h) (some (.rt (a,true,0))) (ai (cx st.2.2.1 ([a])) fun i=>some (.nx (st.1,st.2.1,i,(IntKind.i64.wrap (st.2.2.2+1)))))) (some (.bk (st.1,st.2.1,st.2.2.1,st.2.2.2)))
def r8 (u0:an)(b:Int)(c:(List bh))(d:cj)(e:(List (List Int)))(f:Int)(st:(Bool×Int×(List (List Int))×Int)):Option (Fl (Bool×Int×(List (List Int))×Int) ((List Int)×Bool×Int)):=
 cond (decide (st.2.2.2<=d.aU)) (ai (bu e f) fun g=>ai (cx ([]:List Int) g) fun h=>ai (cx h ([st.2.2.2])) fun a=>ai (jU u0 a b) fun i=>ai (iQ i c) fun j=>cond (j) (some (.rt (a,true,0))) (ai (cx st.2.2.1 ([a])) fun k=>some (.nx (st.1,st.2.1,k,(IntKind.i64.wrap (st.2.2.2+1)))))) (some (.bk (st.1,st.2.1,st.2.2.1,st.2.2.2)))
def jW (u0:an)(d:Int)(e:(List bh))(i:cj)(f:cj)(a:(List (List Int)))(g:Int)(st:(Bool×Int×(List (List Int))×Int)):Option (Fl (Bool×Int×(List (List Int))×Int) ((List Int)×Bool×Int)):=
 cond (decide (st.2.2.2<(a.length:Int))) (cond (decide (0<g)) (ai (bu a st.2.2.2) fun h=>ai (bu h (IntKind.i64.wrap (g - 1))) fun j=>ai (aS (r7 u0 d e f h) fu (st.1,st.2.1,st.2.2.1,(IntKind.i64.wrap (j+1)))) fun o=>aG o (fun b=>some (.nx (b.1,b.2.1,b.2.2.1,(IntKind.i64.wrap (st.2.2.2+1))))) (fun _ _=>none) (fun r=>some (.rt r))) (ai (aS (r8 u0 d e f a st.2.2.2) fu (st.1,st.2.1,st.2.2.1,i.aU)) fun o=>aG o (fun c=>some (.nx (c.1,c.2.1,c.2.2.1,(IntKind.i64.wrap (st.2.2.2+1))))) (fun _ _=>none) (fun r=>some (.rt r)))) (some (.bk (st.1,st.2.1,st.2.2.1,st.2.2.2)))
def pV (u0:an)(b:Int)(c:(List bh))(d:cj)(e:cj)(st:(Bool×Int×(List (List Int))×Int)):Option (Fl (Bool×Int×(List (List Int))×Int) ((List Int)×Bool×Int)):=
 cond (decide (st.2.2.2<(IntKind.i64.wrap (3 - (u0.props.length:Int))))) (ai (aS (jW u0 b c d e st.2.2.1 st.2.2.2) fu (st.1,st.2.1,([]:List (List Int)),0)) fun o=>aG o (fun a=>some (.nx (a.1,a.2.1,a.2.2.1,(IntKind.i64.wrap (st.2.2.2+1))))) (fun _ _=>none) (fun r=>some (.rt r))) (some (.bk (st.1,st.2.1,st.2.2.1,st.2.2.2)))
def kF (u0:an)(b:Int):Option ((List Int)×Bool×Int):=
 ai (pG b) fun d=>ai (iR u0 d) fun a=>cond ((a.2 != 0)) (some (([]:(List Int)),false,a.2)) (ai (mw u0 a.1) fun c=>ai (iQ u0 c) fun e=>cond (e) (some (([]:(List Int)),true,0)) (ai (bu u0.az 0) fun f=>ai (bu u0.az (IntKind.i64.wrap ((u0.az.length:Int) - 1))) fun g=>ai (aS (pV u0 b c f g) fu (false,0,([([]:(List Int))]),0)) fun o=>aG o (fun h=>some (([]:(List Int)),false,0)) (fun _ _=>none) (fun r=>some r)))
theorem Jf {ro:Addr->Option Value}(u0:an){s1 gn a c:Value}(g:bR ro u0 s1 gn a c)(S:Int){r:((List Int)×Bool×Int)}(h:kF u0 S=some r):eH Tryz.prog 14 #[bv u0 s1 gn a c,.int .i64 S] ro (fun v bf=>∃gp,v= .tuple #[gp,.bool r.2.1,.int .i64 r.2.2]/\aH rI bf gp r.1):=by
 obtain ⟨d3,c4,rfl,rh,rk,-⟩:=id g.e;obtain ⟨d10,d,rfl,rl,rn,-⟩:=id g.p;unfold kF at h;refine aI.go Tryz.func14 rfl Tryz.ntmps14 Tryz.results14 av fun main J hJ A iv hd hs=>?_;have ix:=hs 0;have k1:=hs 1;clear hs;apply aB hJ _;refine aA fun f w jC=>?_;try simp only[ax] at jC
 try apply ag _
 apply ah hJ;refine fC hJ mixed [] (.rd 0 (.pure 1 (.rd 2 (.one 3 (.pure 4 (.pure 5 (.pure 6 (.pure 7 (.pure 8 .done))))))))) ⟨ro,[(f,bk u0 (sl d3 u0.az c4) (sl d10 u0.props d) a c)]⟩ aL aj ?_;revert h;refine bS fun j1 j2 h=>?_;apply ag _;refine ⟨_,bL hJ fun F rp=>Cj S j2,cu ?_⟩;revert h;refine bS fun kh kj h=>?_;try apply ag _
 refine cc hJ _ (r5 u0 g j1 kj) fun v rr ab gB ad=>?_;obtain ⟨rv,rfl,gC⟩:=ad;replace g:=g.mono ab;replace w:=gB.hd;simp only[bt] at gB;obtain ⟨d39,rB,rfl,sa,sb,-⟩:=id gC;have sc:=fE (l:=[(f,bk u0 (sl d3 u0.az c4) (sl d10 u0.props d) a c)]) ab (aJ.cons w (aJ.nil _));refine ⟨aL,?_⟩;refine cu ?_;try apply ag _
 refine ah hJ (aF hJ ?_);apply ag _;revert h;refine aV hJ (fun kk h=>?_) fun kk h=>?_
 .cases h;apply aB hJ _;refine bX ?_;exact ⟨_,ab,Le.sub (List.nil_sublist _),_,rfl,aH.nil _ _⟩
 refine aN hJ (ah hJ ?_);apply aQ hJ;revert h;refine bS fun ae kl h=>?_;apply ag _;refine cc hJ _ (uP u0 g kh.1 gC kl) fun v gM bc gN ad=>?_;obtain ⟨sf,rfl,j⟩:=ad;replace g:=g.mono bc;replace w:=gN.hd;simp only[bt] at gN;apply aP;try apply ag _
 refine ah hJ (aF hJ ?_);revert h;refine bS fun sg km h=>?_;apply ag _;refine bn hJ _ (pR u0 (g.mono bq) ae (j.mono bq) km) ?_;try apply ag _
 revert h;refine aV hJ (fun kn h=>?_) fun kn h=>?_
 .cases h;apply aB hJ _;refine bX ?_;exact ⟨_,(ab).trans bc,Le.sub (List.nil_sublist _),_,rfl,aH.nil _ _⟩
 refine aN hJ (ah hJ ?_);refine c5 hJ mixed 21 1 aL aj ?_;revert h;refine bS fun da kp h=>?_;obtain ⟨sh,sm,gT⟩:=ck kp;obtain ⟨i,ks,kt,kv,dC⟩:=g.e.el _ _ gT;obtain rfl:ks=da.cells:=kv;cases kt;have k:=dC 0 _ rfl;simp only[go_sem] at k;have n:=dC 1 _ rfl;simp only[go_sem] at n;clear dC gT;revert h;refine bS fun bd kx h=>?_;obtain ⟨ss,sy,gV⟩:=ck kx;obtain ⟨sz,ky,k0,k2,dE⟩:=g.e.el _ _ gV;obtain rfl:ky=bd.cells:=k2;cases k0;have q:=dE 0 _ rfl;simp only[go_sem] at q;have s:=dE 1 _ rfl;simp only[go_sem] at s;clear dE gV;try apply ag _
 apply ah hJ;refine ay hJ fun lb=>?_;apply aE hJ _;refine aA fun a5 g0 g1=>?_;have sT:=bg.cons g1 lb;try simp only[ax] at g1
 try apply ag _
 refine ah hJ (aF hJ ?_);apply ag _;refine ay hJ fun g2=>?_;obtain ⟨N,dT,g3⟩:=fD (b:=a5) (o:=(.cells #[.slice none 0 0] 35)) [] ((f,bk u0 (sl (some i) u0.az c4) (sl d10 u0.props d) a c)::[]) g2 g0 (aJ.cons w (aJ.nil _));clear g2;have ea:aH (rL rI) (b9 gM a5 (.cells #[.slice none 0 0] 35)) (.slice (some ⟨a5,0,none⟩) 1 1) [([]:(List Int))]:=(aH.one (r:=(rL rI)) (e:=35) (cs:=#[.slice none 0 0]) (x:=([]:(List Int))) (own:=[(a5,.cells #[.slice none 0 0] 35)]) g0 (by simp[lk]) ⟨_,rfl,aH.nil _ _⟩)
 generalize b9 gM a5 (.cells #[.slice none 0 0] 35)=g4 at N dT g3 ea;refine cB hJ g3 ?_;obtain ⟨ta,tb,-⟩:=ea.op;replace g:=g.mono N;replace j:=j.mono N;replace w:=dT.hd;simp only[bt] at dT;replace k:=N _ _ k;replace n:=N _ _ n;replace q:=N _ _ q;replace s:=N _ _ s;apply aW hJ;revert h;refine bS fun lh db eb=>?_;refine bW hJ (rg 55 50 (rg 13 7 [4,5,6])) (fun m u F'=>∃(a6:Addr->Option Value) (d83:Option Addr) (ec:Nat) (dd:Bool) (df:Int) (al:(List (List Int))) (bj:Int),aS (pV u0 S ae da bd) m (dd,df,al,bj)=some lh/\F'=⟨a6,(f,bk u0 (sl (some i) u0.az c4) (sl d10 u0.props d) a c)::[]⟩/\Ext g4 a6/\aH (rL rI) a6 (.slice d83 al.length ec) al/\slot u 5= .bool dd/\slot u 6= .int .i64 df/\slot u 13= .slice d83 al.length ec/\slot u 14= .int .i64 bj) fu ?_ ?_
 .refine ⟨g4,(some ⟨a5,0,none⟩),1,false,0,([([]:(List Int))]),0,db,rfl,Ext.refl _,ea,?_⟩;simp only[*,go_sem]
 rintro ed eh F' ha ⟨a6,d83,ec,dd,df,al,bj,db,rfl,O,z,lj,ll,ln,lo⟩;refine eI hJ fun _ hc=>?_;replace j:=j.mono O;replace g:=g.mono O;replace w:=hc.hd;simp only[bt] at hc;replace k:=O _ _ k;replace n:=O _ _ n;replace q:=O _ _ q;replace s:=O _ _ s;obtain ⟨te,ti,-⟩:=z.op;obtain ⟨hf,hg,hh⟩:=ha.pick [1,2,9,10,11,12] aD;simp only[*,go_sem] at hf hg hh;clear ha iv hd ix k1;obtain _|ed:=ed
 .exact absurd db (by simp only[aS,reduceCtorEq,not_false_eq_true])
 revert db;refine bS fun tk h ao=>?_;unfold pV at h;try dsimp only at h
 refine ah hJ (aF hJ ?_);apply ag _;revert h;refine aV hJ (fun lr h=>?_) fun lr h=>?_
 .refine aN hJ (ah hJ ?_);refine aW hJ (ah hJ ?_);apply aE hJ _;refine ah hJ (aF hJ ?_);apply ag _;apply aW hJ;revert h;refine bS fun lv dk et=>?_;refine bW hJ (rg 60 44 [4,5,6,15,16,17,18,19]) (fun m u F'=>∃(U:Addr->Option Value) (d102:Option Addr) (ar:Nat) (bl:List (Nat×Obj)) (a7:Bool) (a8:Int) (T:(List (List Int))) (a9:Int),aS (jW u0 S ae da bd al bj) m (a7,a8,T,a9)=some lv/\F'=⟨U,(f,bk u0 (sl (some i) u0.az c4) (sl d10 u0.props d) a c)::bl⟩/\Ext a6 U/\aZ (rL rI) U 35 (.slice d102 T.length ar) T bl/\T.length<=ar/\slot u 5= .bool a7/\slot u 6= .int .i64 a8/\slot u 15= .slice d102 T.length ar/\slot u 16= .int .i64 a9) fu ?_ ?_
  .refine ⟨a6,none,0,[],dd,df,([]:List (List Int)),0,dk,rfl,Ext.refl _,aZ.nil _ _ _,Nat.le_refl _,?_⟩;simp only[*,go_sem]
  rintro dp ev F' eQ ⟨U,d102,ar,bl,a7,a8,T,a9,dk,rfl,G,eS,hi,hj,hk,hl,hn⟩;refine eI hJ fun _ ho=>?_;replace j:=j.mono G;replace z:=z.mono G;replace g:=g.mono G;replace w:=ho.hd;simp only[bt] at ho;replace k:=G _ _ k;replace n:=G _ _ n;replace q:=G _ _ q;replace s:=G _ _ s;obtain ⟨eV,e0,e1⟩:=eQ.pick [1,2,9,10,11,12,13,14,55,56,57] aD;simp only[*,go_sem] at eV e0 e1;have tm:cF (rg 55 50 (rg 13 7 [4,5,6])) ev eh:=(eQ.eG aD).trans aL;clear eQ hf hg hh lj ll ln lo;obtain _|dp:=dp
  .exact absurd dk (by simp only[aS,reduceCtorEq,not_false_eq_true])
  revert dk;refine bS fun tp h V=>?_;unfold jW at h;try dsimp only at h
  refine ah hJ (ah hJ ?_);refine ay hJ fun ts=>?_;apply aE hJ _;revert h;refine aV hJ (fun lx h=>?_) fun lx h=>?_
  .refine aN hJ (ah hJ ?_);refine aW hJ (ah hJ ?_);refine ay hJ fun tt=>?_;apply aE hJ _;refine ah hJ (ah hJ ?_);refine ay hJ fun tx=>?_;apply aE hJ _;revert h;refine aV hJ (fun ly h=>?_) fun ly h=>?_
   .refine ay hJ fun tz=>?_;apply aQ hJ;revert h;refine bS fun hp lL h=>?_;obtain ⟨tI,tM,hq⟩:=ck lL;obtain ⟨tW,ub,l1,l2,hr⟩:=z.el _ _ hq;obtain ⟨ui,rfl,bm⟩:=l2;obtain ⟨d126,u1,rfl,u2,u3,u4⟩:=id bm;cases l1;have a0:=hr 0 _ rfl;simp only[go_sem] at a0;clear hr hq;revert h;refine bS fun ht l3 h=>?_;obtain ⟨va,vd,hv⟩:=ck l3;obtain ⟨vs,l4,ma,mf,hx⟩:=bm.el _ _ hv;obtain rfl:l4=[.int .i64 ht]:=mf;cases ma;have a2:=hx 0 _ rfl;simp only[go_sem] at a2;clear hx hv;(try apply ag _);apply ah hJ;refine ay hJ fun vx=>?_;apply aE hJ _;apply aW hJ;revert h;refine bS fun mi dq hy=>?_;refine bW hJ (rg 79 25 [4,5,6,15,18,19]) (fun m u F'=>∃(W:Addr->Option Value) (d140:Option Addr) (bo:Nat) (B:List (Nat×Obj)) (br:Bool) (bs:Int) (X:(List (List Int))) (I:Int),aS (r7 u0 S ae bd hp) m (br,bs,X,I)=some mi/\F'=⟨W,(f,bk u0 (sl (some i) u0.az c4) (sl d10 u0.props d) a c)::B⟩/\Ext U W/\aZ (rL rI) W 35 (.slice d140 X.length bo) X B/\X.length<=bo/\slot u 5= .bool br/\slot u 6= .int .i64 bs/\slot u 15= .slice d140 X.length bo/\slot u 18= .int .i64 I) fu ?_ ?_
    .refine ⟨U,d102,ar,bl,a7,a8,T,(IntKind.i64.wrap (ht+1)),dq,rfl,Ext.refl _,eS,hi,?_⟩;simp only[*,go_sem]
    rintro e3 hz F' ds ⟨W,d140,bo,B,br,bs,X,I,dq,rfl,C,a3,ml,vy,v3,wa,wb⟩;refine eI hJ fun _ hA=>?_;replace j:=j.mono C;replace z:=z.mono C;replace bm:=bm.mono C;replace g:=g.mono C;replace w:=hA.hd;simp only[bt] at hA;replace k:=C _ _ k;replace n:=C _ _ n;replace q:=C _ _ q;replace s:=C _ _ s;replace a0:=C _ _ a0;replace a2:=C _ _ a2;obtain ⟨mn,mr,mx⟩:=ds.pick [1,2,9,10,11,12,13,14,16,17,55,56,57,60,61,62,63,66,67,68,69,70,72,73,74,76,77,78] aD;simp only[*,go_sem] at mn mr mx;have wc:cF (rg 55 50 (rg 13 7 [4,5,6])) hz eh:=(ds.eG aD).trans aL;have wi:cF (rg 60 44 [4,5,6,15,16,17,18,19]) hz ev:=(ds.eG aD).trans aL;clear ds eV e0 e1 hj hk hl hn;obtain _|e3:=e3
    .exact absurd dq (by simp only[aS,reduceCtorEq,not_false_eq_true])
    revert dq;refine bS fun wx h bz=>?_;unfold r7 at h;(try dsimp only at h);refine ah hJ (ah hJ ?_);refine ay hJ fun wy=>?_;apply aE hJ _;revert h;refine aV hJ (fun my h=>?_) fun my h=>?_
    .refine aN hJ (ah hJ ?_);refine aW hJ (ah hJ ?_);refine ay hJ fun m1=>?_;apply aQ hJ;revert h;refine bS fun m2 na h=>?_;obtain ⟨nb,hB⟩:=cL na;apply ag _;refine aA fun hD nd hE=>?_;have nf:=bg.cons hE m1;try simp only[ax] at hE
     (try apply ag _);have nm:aZ rI W 3 (.slice (some ⟨hD,0,none⟩) 0 0) ([]:List Int) [(hD,.cells #[] 3)]:=aZ.empty nd;refine l9 (r:=rI) (l:=([]:List Int)) (xs:=hp) [] ((f,bk u0 (sl (some i) u0.az c4) (sl d10 u0.props d) a c)::B) nm nf nb bm rfl rfl cZ cZ e8 fc rfl e9 aD aD (fun w0 b0 fa K L hF=>?_);simp only[aY] at L;subst K;rw[<-hB] at fa;clear hB;obtain ⟨d165,xa,rfl,xc⟩:=fa.len;have nn:=bg.back (l:=(f,bk u0 (sl (some i) u0.az c4) (sl d10 u0.props d) a c)::(b0++B)) (l':=[]++(b0++([(f,bk u0 (sl (some i) u0.az c4) (sl d10 u0.props d) a c)]++B))) [] [(f,bk u0 (sl (some i) u0.az c4) (sl d10 u0.props d) a c)] b0 B (by first|rfl|simp only[aY]|(simp only[aY];rfl)) (by first|rfl|simp only[aY]|(simp only[aY];rfl)) (by first|exact hF|simpa only[List.append_nil,List.nil_append,List.cons_append,List.append_assoc] using hF);refine ⟨⟨W,(f,bk u0 (sl (some i) u0.az c4) (sl d10 u0.props d) a c)::(b0++B)⟩,Le.back [] [(f,bk u0 (sl (some i) u0.az c4) (sl d10 u0.props d) a c)] b0 B (by first|rfl|simp only[aY]|(simp only[aY];rfl)) (by first|rfl|simp only[aY]|(simp only[aY];rfl)),?_⟩;apply aP;revert h;refine bS fun b1 np h=>?_;obtain ⟨ns,hG⟩:=cL np;(try apply ag _);refine aA fun b2 hI hK=>?_;have nx:=bg.cons hK nn;try simp only[ax] at hK
     (try apply ag _);refine dj (r:=rI) (l:=m2) (x:=I) (cs:=#[.int .i64 I]) (e2:=3) [(b2,ic I),(f,bk u0 (sl (some i) u0.az c4) (sl d10 u0.props d) a c)] B fa nx ns rfl aL hI rfl rfl cZ cZ e8 fc rfl e9 aD aD (fun xf nz fb K L xi=>?_);simp only[aY] at L;subst K;rw[<-hG] at fb;clear hG;obtain ⟨d179,fg,rfl,xn⟩:=fb.len;refine ⟨⟨W,(b2,ic I)::(f,bk u0 (sl (some i) u0.az c4) (sl d10 u0.props d) a c)::(nz++B)⟩,Le.refl _,?_⟩;apply aP;(try apply ag _);refine ah hJ (ah hJ ?_);refine ay hJ fun hL=>?_;obtain ⟨xr,H,fi,ba,nA⟩:=fb.dU [(b2,ic I),(f,bk u0 (sl (some i) u0.az c4) (sl d10 u0.props d) a c)] B hL (aJ.cons hI (aJ.cons w (a3.gA)));clear hL;refine cB hJ nA ?_;obtain ⟨xt,xv,-⟩:=ba.op;replace j:=j.mono H;replace z:=z.mono H;replace g:=g.mono H;replace w:=fi.tl.hd;replace a3:=a3.mono H fi.tl.tl;simp only[bt] at fi;replace k:=H _ _ k;replace n:=H _ _ n;replace q:=H _ _ q;replace s:=H _ _ s;replace a0:=H _ _ a0;replace a2:=H _ _ a2;refine ay hJ fun x0=>?_;apply aQ hJ;revert h;refine bS fun nH nI h=>?_;apply ag _;refine cc hJ _ (pJ u0 g b1 ba S nI) fun v hM D fp ad=>?_;obtain ⟨x1,yi,yk,yn,rfl,b3⟩:=ad;replace j:=j.mono D;replace z:=z.mono D;replace ba:=ba.mono D;replace g:=g.mono D;replace w:=fp.tl.hd;replace a3:=a3.mono D fp.tl.tl;simp only[bt] at fp;replace k:=D _ _ k;replace n:=D _ _ n;replace q:=D _ _ q;replace s:=D _ _ s;replace a0:=D _ _ a0;replace a2:=D _ _ a2;obtain ⟨d202,yr,rfl,ys,yv,-⟩:=id b3.e;obtain ⟨d209,y0,rfl,y1,zc,-⟩:=id b3.p;obtain ⟨d216,zd,rfl,zp,zr,-⟩:=id b3.y;obtain ⟨d223,zs,rfl,zt,Ag,-⟩:=id b3.t;apply aP;revert h;refine bS fun At nK h=>?_;(try apply ag _);refine bn hJ _ (pR nH (b3.mono bq) ae (j.mono bq) nK) ?_;(try apply ag _);revert h;refine aV hJ (fun nQ h=>?_) fun nQ h=>?_
     .cases h;apply ah hJ;refine ay hJ fun Bd=>?_;apply aE hJ _;obtain rfl:=sI bz;clear bz;have h:=hy;dsimp only[aG] at h;cases h;obtain rfl:=sI V;clear V;have h:=et;dsimp only[aG] at h;cases h;obtain rfl:=sI ao;clear ao;have h:=eb;dsimp only[aG] at h;cases h;refine bX ?_;exact ⟨_,(((((((ab).trans bc).trans N).trans O).trans G).trans C).trans H).trans D,Le.sub (List.nil_sublist _),_,rfl,ba⟩
     apply aN hJ;refine ay hJ fun nR=>?_;apply aQ hJ;revert h;refine bS fun nT nV h=>?_;cases h;obtain ⟨nX,hN⟩:=cL nV;apply ag _;refine aA fun hP nY hQ=>?_;have n0:=bg.cons hQ nR;try simp only[ax] at hQ
     (try apply ag _);refine dj (r:=(rL rI)) (l:=X) (x:=b1) (cs:=#[.slice d179 b1.length fg]) (e2:=35) [(hP,.cells #[.slice d179 b1.length fg] 35),(b2,ic I),(f,bk u0 (sl (some i) u0.az c4) (sl d10 u0.props d) a c)] [] a3 n0 nX ⟨_,rfl,ba⟩ aL nY rfl rfl gJ gJ lZ l6 rfl l5 aD aD (fun BF hR fr K L B0=>?_);simp only[aY] at L;subst K;rw[<-hN] at fr;clear hN;obtain ⟨n1,n2,rfl,n3⟩:=fr.len;refine ⟨⟨hM,(hP,.cells #[.slice d179 b1.length fg] 35)::(b2,ic I)::(f,bk u0 (sl (some i) u0.az c4) (sl d10 u0.props d) a c)::hR⟩,Le.refl _,?_⟩;apply aP;(try apply ag _);refine ay hJ fun Cy=>?_;apply aE hJ _;(try apply ag _);refine ⟨e3,Nat.lt_succ_self _,_,Le.sub (List.Sublist.cons _ (List.Sublist.cons _ (List.Sublist.refl _))),hM,n1,n2,hR,br,bs,nT,(IntKind.i64.wrap (I+1)),bz,rfl,(C.trans (H.trans D)),fr,n3,?_⟩;simp only[*,go_sem]
    cases h;apply bP;simp only[go_sem];obtain rfl:=sI bz;clear bz;have h:=hy;dsimp only[aG] at h;cases h;refine ay hJ fun CY=>?_;apply aE hJ _;(try apply ag _);refine ⟨dp,Nat.lt_succ_self _,_,Le.sub (List.Sublist.refl _),W,d140,bo,B,br,bs,X,(IntKind.i64.wrap (a9+1)),V,rfl,(G.trans C),a3,ml,?_⟩;simp only[*,go_sem]
   refine aN hJ (ah hJ ?_);refine ay hJ fun Ex=>?_;apply aE hJ _;apply aW hJ;revert h;refine bS fun oc dt hS=>?_;refine bW hJ (rg 79 25 [4,5,6,15,18,19]) (fun m u F'=>∃(Y:Addr->Option Value) (du:Option Addr) (b4:Nat) (E:List (Nat×Obj)) (b5:Bool) (ca:Int) (Z:(List (List Int))) (M:Int),aS (r8 u0 S ae bd al a9) m (b5,ca,Z,M)=some oc/\F'=⟨Y,(f,bk u0 (sl (some i) u0.az c4) (sl d10 u0.props d) a c)::E⟩/\Ext U Y/\aZ (rL rI) Y 35 (.slice du Z.length b4) Z E/\Z.length<=b4/\slot u 5= .bool b5/\slot u 6= .int .i64 ca/\slot u 15= .slice du Z.length b4/\slot u 18= .int .i64 M) fu ?_ ?_
   .refine ⟨U,d102,ar,bl,a7,a8,T,da.aU,dt,rfl,Ext.refl _,eS,hi,?_⟩;simp only[*,go_sem]
   rintro fs hT F' dv ⟨Y,du,b4,E,b5,ca,Z,M,dt,rfl,P,a4,oi,Fl,F0,Gp,Gr⟩;refine eI hJ fun _ hV=>?_;replace j:=j.mono P;replace z:=z.mono P;replace g:=g.mono P;replace w:=hV.hd;simp only[bt] at hV;replace k:=P _ _ k;replace n:=P _ _ n;replace q:=P _ _ q;replace s:=P _ _ s;obtain ⟨oj,ox,oy⟩:=dv.pick [1,2,9,10,11,12,13,14,16,17,55,56,57,60,61,62,63,66,67,68,78] aD;simp only[*,go_sem] at oj ox oy;have Ha:cF (rg 55 50 (rg 13 7 [4,5,6])) hT eh:=(dv.eG aD).trans aL;have Hb:cF (rg 60 44 [4,5,6,15,16,17,18,19]) hT ev:=(dv.eG aD).trans aL;clear dv eV e0 e1 hj hk hl hn;obtain _|fs:=fs
   .exact absurd dt (by simp only[aS,reduceCtorEq,not_false_eq_true])
   revert dt;refine bS fun Hc h cb=>?_;unfold r8 at h;(try dsimp only at h);refine ah hJ (ah hJ ?_);refine ay hJ fun Hd=>?_;apply aE hJ _;revert h;refine aV hJ (fun o0 h=>?_) fun o0 h=>?_
   .refine aN hJ (ah hJ ?_);refine aW hJ (ah hJ ?_);refine ay hJ fun o1=>?_;apply aQ hJ;revert h;refine bS fun o2 o4 h=>?_;obtain ⟨Hk,Hm,hX⟩:=ck o4;obtain ⟨Hn,H0,pa,pb,hY⟩:=z.el _ _ hX;obtain ⟨H2,rfl,hZ⟩:=pb;obtain ⟨H3,H4,rfl,H5,Is,IH⟩:=id hZ;cases pa;have cd:=hY 0 _ rfl;simp only[go_sem] at cd;clear hY hX;revert h;refine bS fun pd pf h=>?_;obtain ⟨ph,h0⟩:=cL pf;(try apply ag _);refine aA fun h1 pj h2=>?_;have pk:=bg.cons h2 o1;try simp only[ax] at h2
    (try apply ag _);have po:aZ rI Y 3 (.slice (some ⟨h1,0,none⟩) 0 0) ([]:List Int) [(h1,.cells #[] 3)]:=aZ.empty pj;refine l9 (r:=rI) (l:=([]:List Int)) (xs:=o2) [] ((f,bk u0 (sl (some i) u0.az c4) (sl d10 u0.props d) a c)::E) po pk ph hZ rfl rfl cZ cZ e8 fc rfl e9 aD aD (fun JF cf ft K L h3=>?_);simp only[aY] at L;subst K;rw[<-h0] at ft;clear h0;obtain ⟨Kd,Lk,rfl,Lw⟩:=ft.len;have pr:=bg.back (l:=(f,bk u0 (sl (some i) u0.az c4) (sl d10 u0.props d) a c)::(cf++E)) (l':=[]++(cf++([(f,bk u0 (sl (some i) u0.az c4) (sl d10 u0.props d) a c)]++E))) [] [(f,bk u0 (sl (some i) u0.az c4) (sl d10 u0.props d) a c)] cf E (by first|rfl|simp only[aY]|(simp only[aY];rfl)) (by first|rfl|simp only[aY]|(simp only[aY];rfl)) (by first|exact h3|simpa only[List.append_nil,List.nil_append,List.cons_append,List.append_assoc] using h3);refine ⟨⟨Y,(f,bk u0 (sl (some i) u0.az c4) (sl d10 u0.props d) a c)::(cf++E)⟩,Le.back [] [(f,bk u0 (sl (some i) u0.az c4) (sl d10 u0.props d) a c)] cf E (by first|rfl|simp only[aY]|(simp only[aY];rfl)) (by first|rfl|simp only[aY]|(simp only[aY];rfl)),?_⟩;apply aP;revert h;refine bS fun cl ps h=>?_;obtain ⟨pt,h4⟩:=cL ps;(try apply ag _);refine aA fun cy h5 h6=>?_;have pv:=bg.cons h6 pr;try simp only[ax] at h6
    (try apply ag _);refine dj (r:=rI) (l:=pd) (x:=M) (cs:=#[.int .i64 M]) (e2:=3) [(cy,ic M),(f,bk u0 (sl (some i) u0.az c4) (sl d10 u0.props d) a c)] E ft pv pt rfl aL h5 rfl rfl cZ cZ e8 fc rfl e9 aD aD (fun Mp pw fv K L Mu=>?_);simp only[aY] at L;subst K;rw[<-h4] at fv;clear h4;obtain ⟨fw,fx,rfl,Nd⟩:=fv.len;refine ⟨⟨Y,(cy,ic M)::(f,bk u0 (sl (some i) u0.az c4) (sl d10 u0.props d) a c)::(pw++E)⟩,Le.refl _,?_⟩;apply aP;(try apply ag _);refine ah hJ (ah hJ ?_);refine ay hJ fun h7=>?_;obtain ⟨Nx,Q,fz,bb,px⟩:=fv.dU [(cy,ic M),(f,bk u0 (sl (some i) u0.az c4) (sl d10 u0.props d) a c)] E h7 (aJ.cons h5 (aJ.cons w (a4.gA)));clear h7;refine cB hJ px ?_;obtain ⟨Ph,Pl,-⟩:=bb.op;replace j:=j.mono Q;replace g:=g.mono Q;replace w:=fz.tl.hd;replace a4:=a4.mono Q fz.tl.tl;simp only[bt] at fz;replace k:=Q _ _ k;replace n:=Q _ _ n;replace q:=Q _ _ q;replace s:=Q _ _ s;replace cd:=Q _ _ cd;refine ay hJ fun Pr=>?_;apply aQ hJ;revert h;refine bS fun py pA h=>?_;apply ag _;refine cc hJ _ (pJ u0 g cl bb S pA) fun v h8 R gg ad=>?_;obtain ⟨Ps,PH,PI,PQ,rfl,cS⟩:=ad;replace j:=j.mono R;replace bb:=bb.mono R;replace w:=gg.tl.hd;replace a4:=a4.mono R gg.tl.tl;simp only[bt] at gg;replace k:=R _ _ k;replace n:=R _ _ n;replace q:=R _ _ q;replace s:=R _ _ s;replace cd:=R _ _ cd;obtain ⟨PT,P0,rfl,Qn,QP,-⟩:=id cS.e;obtain ⟨QQ,QR,rfl,Rd,Rk,-⟩:=id cS.p;obtain ⟨R0,Sc,rfl,Sg,Sm,-⟩:=id cS.y;obtain ⟨St,SR,rfl,Tg,Ti,-⟩:=id cS.t;apply aP;revert h;refine bS fun Tj pB h=>?_;(try apply ag _);refine bn hJ _ (pR py (cS.mono bq) ae (j.mono bq) pB) ?_;(try apply ag _);revert h;refine aV hJ (fun pC h=>?_) fun pC h=>?_
    .cases h;apply ah hJ;refine ay hJ fun Tk=>?_;apply aE hJ _;obtain rfl:=sI cb;clear cb;have h:=hS;dsimp only[aG] at h;cases h;obtain rfl:=sI V;clear V;have h:=et;dsimp only[aG] at h;cases h;obtain rfl:=sI ao;clear ao;have h:=eb;dsimp only[aG] at h;cases h;refine bX ?_;exact ⟨_,(((((((ab).trans bc).trans N).trans O).trans G).trans P).trans Q).trans R,Le.sub (List.nil_sublist _),_,rfl,bb⟩
    apply aN hJ;refine ay hJ fun pD=>?_;apply aQ hJ;revert h;refine bS fun pL pT h=>?_;cases h;obtain ⟨p0,h9⟩:=cL pT;apply ag _;refine aA fun ib p1 ih=>?_;have qe:=bg.cons ih pD;try simp only[ax] at ih
    (try apply ag _);refine dj (r:=(rL rI)) (l:=Z) (x:=cl) (cs:=#[.slice fw cl.length fx]) (e2:=35) [(ib,.cells #[.slice fw cl.length fx] 35),(cy,ic M),(f,bk u0 (sl (some i) u0.az c4) (sl d10 u0.props d) a c)] [] a4 qe p0 ⟨_,rfl,bb⟩ aL p1 rfl rfl gJ gJ lZ l6 rfl l5 aD aD (fun Tl ik gl K L Tm=>?_);simp only[aY] at L;subst K;rw[<-h9] at gl;clear h9;obtain ⟨qk,q0,rfl,q1⟩:=gl.len;refine ⟨⟨h8,(ib,.cells #[.slice fw cl.length fx] 35)::(cy,ic M)::(f,bk u0 (sl (some i) u0.az c4) (sl d10 u0.props d) a c)::ik⟩,Le.refl _,?_⟩;apply aP;(try apply ag _);refine ay hJ fun Tn=>?_;apply aE hJ _;(try apply ag _);refine ⟨fs,Nat.lt_succ_self _,_,Le.sub (List.Sublist.cons _ (List.Sublist.cons _ (List.Sublist.refl _))),h8,qk,q0,ik,b5,ca,pL,(IntKind.i64.wrap (M+1)),cb,rfl,(P.trans (Q.trans R)),gl,q1,?_⟩;simp only[*,go_sem]
   cases h;apply bP;simp only[go_sem];obtain rfl:=sI cb;clear cb;have h:=hS;dsimp only[aG] at h;cases h;refine ay hJ fun To=>?_;apply aE hJ _;(try apply ag _);refine ⟨dp,Nat.lt_succ_self _,_,Le.sub (List.Sublist.refl _),Y,du,b4,E,b5,ca,Z,(IntKind.i64.wrap (a9+1)),V,rfl,(G.trans P),a4,oi,?_⟩;simp only[*,go_sem]
  cases h;apply bP;simp only[go_sem];obtain rfl:=sI V;clear V;have h:=et;dsimp only[aG] at h;cases h;refine ay hJ fun Tp=>?_;apply aE hJ _;refine ay hJ fun il=>?_;obtain ⟨ra,c0,rb,im,re⟩:=eS.dU [(f,bk u0 (sl (some i) u0.az c4) (sl d10 u0.props d) a c)] [] il (aJ.cons w (aJ.nil _));clear il;refine cB hJ re ?_;obtain ⟨Tq,Tr,-⟩:=im.op;simp only[bt] at rb;replace k:=c0 _ _ k;replace n:=c0 _ _ n;replace q:=c0 _ _ q;replace s:=c0 _ _ s;apply aE hJ _;try apply ag _
  refine ⟨ed,Nat.lt_succ_self _,_,Le.sub (List.Sublist.refl _),ra,d102,ar,a7,a8,T,(IntKind.i64.wrap (bj+1)),ao,rfl,(O.trans (G.trans c0)),im,?_⟩;simp only[*,go_sem]
 cases h;apply bP;simp only[go_sem];obtain rfl:=sI ao;clear ao;have h:=eb;dsimp only[aG] at h;cases h;apply aB hJ _;refine bX ?_;exact ⟨_,(((ab).trans bc).trans N).trans O,Le.sub (List.nil_sublist _),_,rfl,aH.nil _ _⟩
def en {α:Type}(t:Nat->α->Option Int):Nat->List α->Option Int
 |_,[]=>none
 |i,x::l=>match t i x with
  |some r=>some r
  |none=>en t (i+1) l
def iS {σ:Type}(o:Option Int)(s:σ):Fl σ Int:=match o with
 |some r=>.rt r
 |none=>.nx s
theorem r9 {α σ:Type}{f:Nat->α->σ->Option (Fl σ Int)}{t:Nat->α->Option Int}:∀(l:List α) (i:Nat) (s:σ),(∀j x s,l[j]?=some x->f (i+j) x s=some (iS (t (i+j) x) s))->bM f i l s=some (iS (en t i l) s)
 |[],i,s,_=>rfl
 |x::l,i,s,h=>by
  have a:=h 0 x s rfl
  simp only[Nat.add_zero] at a
  unfold bM en
  rw[a]
  cases ht:t i x with
  |some r=>rfl
  |none=>
   show bM f (i+1) l s=_
   exact r9 l (i+1) s fun j y s b=>by
    have:=h (j+1) y s (by simpa using b)
    rwa [show i+(j+1)=i+1+j by omega] at this
theorem Cr {α σ:Type}{f:σ×Int->Option (Fl (σ×Int) Int)}{t:Nat->α->Option Int}(l:List α)(h:∀(i:Nat) x s,l[i]?=some x->f (s,(i:Int))=some (iS (t i x) (s,((i+1:Nat):Int))))(a:∀s,f (s,(l.length:Int))=some (.bk (s,(l.length:Int)))):
  ∀(k i n:Nat) (s:σ),i+k=l.length->k<n->aS f n (s,(i:Int))=some (iS (en t i (l.drop i)) (s,(l.length:Int)))
 |0,i,n+1,s,hi,_=>by
  obtain rfl:i=l.length:=aa
  unfold aS
  rw[a,List.drop_length]
  rfl
 |k+1,i,n+1,s,hi,d=>by
  have b:i<l.length:=aa
  have c:l[i]?=some l[i]:=List.getElem?_eq_getElem b
  unfold aS
  rw[h i _ s c,List.drop_eq_getElem_cons b]
  unfold en
  cases ht:t i l[i] with
  |some r=>rfl
  |none=>exact Cr l h a k (i+1) n s aa aa
theorem uQ {α σ:Type}{f:σ×Int->Option (Fl (σ×Int) Int)}{t:Nat->α->Option Int}(l:List α)(hl:l.length<=1000)(h:∀(i:Nat) x s,l[i]?=some x->f (s,(i:Int))=some (iS (t i x) (s,((i+1:Nat):Int))))(a:∀s,f (s,(l.length:Int))=some (.bk (s,(l.length:Int))))(s:σ):
  aS f fu (s,0)=some (iS (en t 0 l) (s,(l.length:Int))):=by
 have:=Cr l h a l.length 0 fu s aa (Nat.lt_of_le_of_lt hl aD)
 simpa using this
theorem kG:fU=fG:=rfl
theorem Jg:q8=nJ:=rfl
def b7 (a lo hi:Int):Bool:=decide (lo<=a)&&decide (a<=hi)
theorem fO (a lo hi:Int):fG a lo hi=some (b7 a lo hi):=by
 unfold fG b7;cases decide (lo<=a)<;>rfl
def mz (b:dI)(lo hi:Int):Bool:=decide (lo<=b.low)&&(decide (b.low<=b.high)&&decide (b.high<=hi))
theorem Cs (b:dI)(lo hi:Int):nJ b lo hi=some (mz b lo hi):=by
 unfold nJ mz;cases decide (lo<=b.low)<;>cases decide (b.low<=b.high)<;>rfl
theorem cE {n:Int}(h: -9223372036854775808<=n/\n<9223372036854775808):IntKind.i64.wrap n=n:=IntWalk.i64_in _ (by constructor<;>omega)
def iz (u:an)(i:Nat)(x:cj):Option Int:=
 cond (b7 x.aU 0 (IntKind.i64.wrap (u.bZ - 1))) (cond (b7 x.high 0 60) (match i with
  |0=>none
  |j+1=>match u.az[j]? with
   |some y=>cond (decide (x.aU<=y.aU)) (some 7) none
   |none=>none) (some 1)) (some 1)
theorem Ct (u:an)(hl:u.az.length<=20):mc u=some (cond (b7 u.az.length 2 5) ((en (iz u) 0 u.az).getD 0) 2)/\nS u=mc u:=by
 have key:mc u=some (cond (b7 u.az.length 2 5) ((en (iz u) 0 u.az).getD 0) 2):=by
  unfold mc;rw[kG,fO];show cond (!b7 (u.az.length:Int) 2 5) _ _=_;cases b7 (u.az.length:Int) 2 5 with
  |false=>rfl
  |true=>
   show ai (bM _ 0 u.az 0) _=_;rw[r9 (t:=iz u) u.az 0 0 ?_]
   .show aG (iS _ _) _ _ _=_;cases en (iz u) 0 u.az<;>rfl
   .intro j x s b;rw[Nat.zero_add];unfold tN iz;rw[kG,fO,fO];show cond (!b7 x.aU 0 _) _ _=_;cases b7 x.aU 0 (IntKind.i64.wrap (u.bZ - 1)) with
    |false=>rfl
    |true=>
     show cond (!b7 x.high 0 60) _ _=_;cases b7 x.high 0 60 with
     |false=>rfl
     |true=>
      cases j with
      |zero=>rfl
      |succ j=>
       have d:=(List.getElem?_eq_some_iff.1 b).1;have a:u.az[j]?=some u.az[j]:=List.getElem?_eq_getElem aa;have hw:IntKind.i64.wrap (((j+1:Nat):Int) - 1)=(j:Int):=by rw[cE aa];omega
       have hd:decide (0<((j+1:Nat):Int))=true:=decide_eq_true aa;show cond (decide (0<((j+1:Nat):Int))) _ _=_;rw[hd,hw];have hi:bu u.az (j:Int)=some u.az[j]:=by unfold bu;rw[if_pos aa,Int.toNat_natCast,a]
       show ai (bu u.az (j:Int)) _=_;rw[hi];simp only[a];show cond (decide (x.aU<=u.az[j].aU)) _ _=_;cases decide (x.aU<=u.az[j].aU)<;>rfl
 refine ⟨key,?_⟩;rw[key];unfold nS;rw[fO];show cond (!b7 (u.az.length:Int) 2 5) _ _=_;cases b7 (u.az.length:Int) 2 5 with
 |false=>rfl
 |true=>
  show ai (aS _ fu (0,0)) _=_;rw[uQ (t:=iz u) u.az aa ?_ ?_ 0]
  .show aG (iS _ _) _ _ _=_;cases en (iz u) 0 u.az<;>rfl
  .intro j x s b;unfold rW iz;have d:=(List.getElem?_eq_some_iff.1 b).1;have c:decide ((j:Int)<(u.az.length:Int))=true:=decide_eq_true aa;have e:bu u.az (j:Int)=some x:=by unfold bu;rw[if_pos aa,Int.toNat_natCast,b]
   have f:IntKind.i64.wrap ((j:Int)+1)=((j+1:Nat):Int):=by rw[cE aa];omega
   show cond (decide ((j:Int)<(u.az.length:Int))) (ai (bu u.az (j:Int)) _) _=_;rw[c,e,cond_true];show ai (fG x.aU 0 (IntKind.i64.wrap (u.bZ - 1))) _=_;rw[fO];show cond (!b7 x.aU 0 _) _ (ai (fG x.high 0 60) _)=_;rw[fO];cases b7 x.aU 0 (IntKind.i64.wrap (u.bZ - 1)) with
   |false=>rfl
   |true=>
    show cond (!b7 x.high 0 60) _ _=_;cases b7 x.high 0 60 with
    |false=>rfl
    |true=>
     cases j with
     |zero=>rfl
     |succ j=>
      have a:u.az[j]?=some u.az[j]:=List.getElem?_eq_getElem aa;have hw:IntKind.i64.wrap (((j+1:Nat):Int) - 1)=(j:Int):=by rw[cE aa];omega
      have hd:decide (0<((j+1:Nat):Int))=true:=decide_eq_true aa;have hi:bu u.az (j:Int)=some u.az[j]:=by unfold bu;rw[if_pos aa,Int.toNat_natCast,a]
      dsimp only;simp only[hd,hw,hi,f,a,ai,cond_true,Bool.not_true,cond_false];cases decide (x.aU<=u.az[j].aU)<;>rfl
  .intro s;unfold rW;have c:decide ((u.az.length:Int)<(u.az.length:Int))=false:=decide_eq_false aa;show cond (decide ((u.az.length:Int)<(u.az.length:Int))) _ _=_;rw[c];rfl
theorem Cu {ρ:Type}{f:Int×Int->Option (Fl (Int×Int) ρ)}(d:∀a b:Nat,a<9223372036854775808->b<9223372036854775808->b≠0->f ((a:Int),(b:Int))=some (.nx ((b:Int),((a % b:Nat):Int))))(e:∀a:Nat,f ((a:Int),0)=some (.bk ((a:Int),0))):
  ∀(b a k:Nat),a<9223372036854775808->b<9223372036854775808->b<k->aS f k ((a:Int),(b:Int))=some (.nx (((Nat.gcd a b:Nat):Int),0)):=by
 intro b
 induction b using Nat.strongRecOn with
 |ind b ih=>
  intro a k g hb hk
  obtain ⟨k,rfl⟩:∃m,k=m+1:=⟨k - 1,aa⟩
  unfold aS
  by_cases c:b=0
  .subst c
   have:=e a
   rw[show ((0:Nat):Int)=0 from rfl,this,Nat.gcd_zero_right]
   rfl
  .rw[d a b g hb c]
   show aS f k ((b:Int),((a % b:Nat):Int))=_
   have hm:a % b<b:=Nat.mod_lt _ aa
   rw[ih (a % b) hm b k hb aa aa,Nat.gcd_comm a b,Nat.gcd_rec b a,Nat.gcd_comm]
theorem Cv (a b:Nat)(d:a<9223372036854775808)(hb:b<9223372036854775808)(h:b≠0):m5 (a:Int) (b:Int)=some ((a % b:Nat):Int):=by
 unfold m5;have c:¬(b:Int)=0:=aa;rw[if_neg c];have e:((a:Int).tmod (b:Int))=((a % b:Nat):Int):=by
  rw[Int.tmod_eq_emod_of_nonneg aa];rfl
 rw[e]
theorem Jh (a k:Nat)(b:Nat)(c:a<9223372036854775808)(hb:b<9223372036854775808)(hk:b<k):aS q9 k ((a:Int),(b:Int))=some (.nx (((Nat.gcd a b:Nat):Int),0)):=by
 refine Cu (fun a b c hb d=>?_) (fun a=>rfl) b a k c hb hk;unfold q9;have:(((b:Nat):Int) != 0)=true:=by simp;omega
 dsimp only;rw[this,Cv a b c hb d];rfl
theorem Ji (a k:Nat)(b:Nat)(c:a<9223372036854775808)(hb:b<9223372036854775808)(hk:b<k):aS pE k ((a:Int),(b:Int))=some (.nx (((Nat.gcd a b:Nat):Int),0)):=by
 refine Cu (fun a b c hb d=>?_) (fun a=>rfl) b a k c hb hk;unfold pE;have:decide (0<((b:Nat):Int))=true:=decide_eq_true aa;dsimp only;rw[this,Cv a b c hb d];rfl
def bO (n:Int)(d:Nat):au:=⟨n.tdiv (Nat.gcd n.natAbs d:Nat),(d:Int).tdiv (Nat.gcd n.natAbs d:Nat)⟩
theorem uR (a b:Int)(hb:0<b)(c: -9000000000000000000<=a/\a<=9000000000000000000):gy a b=some (a.tdiv b):=by
 unfold gy;rw[if_neg aa];congr 1;have d:(a.tdiv b).natAbs<=a.natAbs:=by rw[Int.natAbs_tdiv];exact Nat.div_le_self _ _
 exact cE aa
theorem Cw (n:Int)(h: -9000000000000000000<=n/\n<=9000000000000000000):(if n<IntKind.i64.wrap (0 - n) then IntKind.i64.wrap (0 - n) else n)=(n.natAbs:Int):=by
 rw[cE aa];split<;>omega
theorem sd (n:Int)(d:Nat)(a: -9000000000000000000<=n/\n<=9000000000000000000)(hd:0<d)(b:d<900000000000000000):lg n d=some (bO n d):=by
 unfold lg;rw[Cw n a,Jh n.natAbs fu d aa aa (Nat.lt_trans b aD)];have hg:0<Nat.gcd n.natAbs d:=Nat.gcd_pos_of_pos_right _ hd;show ai (gy n _) (fun x=>ai (gy d _) fun y=>_)=_;rw[uR n _ aa a,uR d _ aa aa];rfl
theorem pW (n:Int)(d:Nat)(a: -9000000000000000000<=n/\n<=9000000000000000000)(hd:0<d)(b:d<900000000000000000):iw n d=some (bO n d):=by
 unfold iw;have:decide ((d:Int)<0)=false:=decide_eq_false aa;rw[this];show ai (aS pE fu _) _=_;rw[Cw n a,Ji n.natAbs fu d aa aa (Nat.lt_trans b aD)];have hg:0<Nat.gcd n.natAbs d:=Nat.gcd_pos_of_pos_right _ hd;show ai (gy n _) (fun x=>ai (gy d _) fun y=>_)=_;rw[uR n _ aa a,uR d _ aa aa];rfl
def jj (u:an)(f:Int->Bool)(_:Nat)(x:cm):Option Int:=cond (f x.place) (cond (b7 x.dK 1 20) none (some 1)) (some 6)
def jk (_:Nat)(x:cA):Option Int:=cond (b7 x.back 1 20) (cond (mz x.high 0 60) (cond (decide (3<=IntKind.i64.wrap (x.high.high - x.high.low))) (some 1) none) (some 1)) (some 1)
def mA (u:an)(i:Int):Bool:=b7 i 0 (IntKind.i64.wrap ((u.aK.length:Int) - 1))
def kH (u:an)(_:Nat)(x:cn):Option Int:=cond (mA u x.bA) none (some 6)
theorem Cx (u:an)(i:Int):pz u i=some (mA u i)/\oO u i=some (mA u i):=by
 constructor
 .unfold pz;rw[fO];rfl
 .unfold oO;rw[kG,fO];rfl
theorem Jj (u:an)(h:Int):fV h u=some (cond (b7 h 1 20) 0 1):=by
 unfold fV;rw[kG,fO];show cond (!b7 h 1 20) _ _=_;cases b7 h 1 20<;>rfl
theorem Cz (u:an)(h:0<u.az.length)(b:u.az.length<=20):∃f:Int->Bool,∀p,fW u p=some (f p)/\nG u p=some (f p):=by
 have a:u.az[0]?=some u.az[0]:=List.getElem?_eq_getElem h;have hl:u.az[u.az.length - 1]?=some (u.az[u.az.length - 1]'aa):=List.getElem?_eq_getElem _;have hw:IntKind.i64.wrap ((u.az.length:Int) - 1)=((u.az.length - 1:Nat):Int):=by rw[cE aa];omega
 have e0:bu u.az 0=some u.az[0]:=a;have e1:bu u.az ((u.az.length - 1:Nat):Int)=some (u.az[u.az.length - 1]'aa):=by unfold bu;rw[if_pos aa,Int.toNat_natCast,hl]
 refine ⟨fun p=>b7 p (u.az[0]).aU (u.az[u.az.length - 1]'aa).aU,fun p=>?_⟩;have k:fW u p=some (b7 p (u.az[0]).aU (u.az[u.az.length - 1]'aa).aU):=by
  unfold fW;rw[hw,e0,e1,kG];simp only[ai,fO]
 exact ⟨k,k⟩
def gV (u:an):Int:=cond (b7 u.bZ 2 60) (cond (b7 u.cg 0 60) (cond (b7 u.bp.den 1 20) (cond (b7 u.bp.num 0 20) (cond (((bO u.bp.num u.bp.den.toNat).num==u.bp.num)&&((bO u.bp.num u.bp.den.toNat).den==u.bp.den)) 0 3) 1) 1) 1) 1
theorem gh {a lo hi:Int}:b7 a lo hi=true↔lo<=a/\a<=hi:=by unfold b7;simp
theorem CA (u:an):oR u=some (gV u):=by
 unfold oR gV;rw[kG];simp only[fO,ai];cases c:b7 u.bZ 2 60 with
 |false=>rfl
 |true=>
  cases d:b7 u.cg 0 60 with
  |false=>rfl
  |true=>
   cases a:b7 u.bp.den 1 20 with
   |false=>rfl
   |true=>
    cases b:b7 u.bp.num 0 20 with
    |false=>rfl
    |true=>
     rw[gh] at a b;have hd:u.bp.den=(u.bp.den.toNat:Int):=aa;have:=sd u.bp.num u.bp.den.toNat aa aa aa;rw[<-hd] at this;simp only[this,cond_true,Bool.not_true,cond_false];cases (((bO u.bp.num u.bp.den.toNat).num==u.bp.num)&&((bO u.bp.num u.bp.den.toNat).den==u.bp.den))<;>rfl
theorem Jk (u:an):iP u=cond (gV u != 0) (some (gV u)) (ai (nS u) fun x=>cond (x != 0) (some x) (nU u)):=by
 unfold iP gV;simp only[fO,ai];cases c:b7 u.bZ 2 60 with
 |false=>rfl
 |true=>
  cases d:b7 u.cg 0 60 with
  |false=>rfl
  |true=>
   cases a:b7 u.bp.den 1 20 with
   |false=>rfl
   |true=>
    cases b:b7 u.bp.num 0 20 with
    |false=>rfl
    |true=>
     rw[gh] at a b;have hd:u.bp.den=(u.bp.den.toNat:Int):=aa;have:=pW u.bp.num u.bp.den.toNat aa aa aa;rw[<-hd] at this;simp only[this,cond_true,Bool.not_true,cond_false];cases (((bO u.bp.num u.bp.den.toNat).num==u.bp.num)&&((bO u.bp.num u.bp.den.toNat).den==u.bp.den)) with
     |false=>rfl
     |true=>
      simp only[Bool.not_true,cond_false,cond_true,bne_self_eq_false];cases nS u with
      |none=>rfl
      |some x=>
       dsimp only;cases nU u<;>rfl
theorem yz (u:an):nj u=some (cond (decide (3<(u.told.length:Int))) 2 ((en (kH u) 0 u.told).getD 0)):=by
 unfold nj;cases decide (3<(u.told.length:Int)) with
 |true=>rfl
 |false=>
  show ai (bM _ 0 u.told 0) _=_;rw[r9 (t:=kH u) u.told 0 0 ?_]
  .show aG (iS _ _) _ _ _=_;cases en (kH u) 0 u.told<;>rfl
  .intro j x s a;unfold tJ kH;simp only[Cx,ai];cases mA u x.bA<;>rfl
theorem yA (u:an):nk u=some (cond (b7 u.aK.length 1 3) ((en jk 0 u.aK).getD 0) 2):=by
 unfold nk;rw[kG,fO];simp only[ai];cases b7 (u.aK.length:Int) 1 3 with
 |false=>rfl
 |true=>
  simp only[Bool.not_true,cond_false,cond_true];rw[r9 (t:=jk) u.aK 0 0 ?_]
  .show aG (iS _ _) _ _ _=_;cases en jk 0 u.aK<;>rfl
  .intro j x s a;unfold tK jk;simp only[kG,Jg,fO,Cs,ai];cases b7 x.back 1 20 with
   |false=>rfl
   |true=>
    cases mz x.high 0 60 with
    |false=>rfl
    |true=>
     simp only[Bool.not_true,cond_false,cond_true];cases decide (3<=IntKind.i64.wrap (x.high.high - x.high.low))<;>rfl
theorem yB (u:an)(f:Int->Bool)(a:∀p,fW u p=some (f p)/\nG u p=some (f p)):nq u=some (cond (decide (3<(u.props.length:Int))) 2 ((en (jj u f) 0 u.props).getD 0)):=by
 unfold nq;cases decide (3<(u.props.length:Int)) with
 |true=>rfl
 |false=>
  show ai (bM _ 0 u.props 0) _=_;rw[r9 (t:=jj u f) u.props 0 0 ?_]
  .show aG (iS _ _) _ _ _=_;cases en (jj u f) 0 u.props<;>rfl
  .intro j x s b;unfold tL jj;simp only[(a x.place).1,Jj,ai];cases f x.place with
   |false=>rfl
   |true=>
    cases b7 x.dK 1 20<;>rfl
theorem n9 {α:Type}{t:Nat->α->Option Int}(h:∀i x r,t i x=some r->r≠0):∀(l:List α) (i:Nat) (r:Int),en t i l=some r->r≠0
 |[],i,r,e=>by cases e
 |x::l,i,r,e=>by
  unfold en at e
  cases ht:t i x with
  |some a=>rw[ht] at e;cases e;exact h i x _ ht
  |none=>rw[ht] at e;exact n9 h l (i+1) r e
theorem CB (u:an)(f:Int->Bool)(i:Nat)(x:cm)(r:Int)(h:jj u f i x=some r):r≠0:=by
 unfold jj at h;revert h;cases f x.place<;>cases b7 x.dK 1 20<;>intro h<;>cases h<;>decide
theorem CC (i:Nat)(x:cA)(r:Int)(h:jk i x=some r):r≠0:=by
 unfold jk at h;revert h;cases b7 x.back 1 20<;>cases mz x.high 0 60<;>cases decide (3<=IntKind.i64.wrap (x.high.high - x.high.low))<;>intro h<;>cases h<;>decide
theorem Jl (u:an)(i:Nat)(x:cn)(r:Int)(h:kH u i x=some r):r≠0:=by
 unfold kH at h;revert h;cases mA u x.bA<;>intro h<;>cases h<;>decide
theorem CD {o:Option Int}(h:∀r,o=some r->r≠0):(o.getD 0 != 0)=o.isSome:=by
 cases o with
 |none=>rfl
 |some r=>simpa using h r rfl
theorem Jm (u:an)(f:Int->Bool)(e:∀p,fW u p=some (f p)/\nG u p=some (f p))(h:u.props.length<=20)(i:u.aK.length<=20)(k:u.told.length<=20):
  nU u=ai (nq u) fun x=>cond (x != 0) (some x) (ai (nk u) fun y=>cond (y != 0) (some y) (nj u)):=by
 rw[yB u f e,yA,yz]
 unfold nU
 simp only[ai]
 cases l:decide (3<(u.props.length:Int)) with
 |true=>rfl
 |false=>
  simp only[cond_false]
  rw[uQ (t:=jj u f) u.props aa ?_ ?_ 0]
  .rw[CD (n9 (CB u f) u.props 0)]
   cases en (jj u f) 0 u.props with
   |some r=>rfl
   |none=>
    simp only[iS,aG,Option.isSome_none,cond_false,fO]
    cases m:b7 (u.aK.length:Int) 1 3 with
    |false=>rfl
    |true=>
     simp only[Bool.not_true,cond_false,cond_true]
     rw[uQ (t:=jk) u.aK aa ?_ ?_ 0]
     .rw[CD (n9 CC u.aK 0)]
      cases en jk 0 u.aK with
      |some r=>rfl
      |none=>
       simp only[iS,aG,Option.isSome_none,cond_false]
       cases n:decide (3<(u.told.length:Int)) with
       |true=>rfl
       |false=>
        simp only[cond_false]
        rw[uQ (t:=kH u) u.told aa ?_ ?_ 0]
        .cases en (kH u) 0 u.told<;>rfl
        .intro j x s b
         have g:=(List.getElem?_eq_some_iff.1 b).1
         have a:decide ((j:Int)<(u.told.length:Int))=true:=decide_eq_true aa
         have c:bu u.told (j:Int)=some x:=by unfold bu;rw[if_pos aa,Int.toNat_natCast,b]
         have d:IntKind.i64.wrap ((j:Int)+1)=((j+1:Nat):Int):=by rw[cE aa];omega
         unfold yw kH
         simp only[a,c,d,ai,Cx,cond_true]
         cases mA u x.bA<;>rfl
        .intro s
         have a:decide ((u.told.length:Int)<(u.told.length:Int))=false:=decide_eq_false aa
         unfold yw
         simp only[a,cond_false]
     .intro j x s b
      have g:=(List.getElem?_eq_some_iff.1 b).1
      have a:decide ((j:Int)<(u.aK.length:Int))=true:=decide_eq_true aa
      have c:bu u.aK (j:Int)=some x:=by unfold bu;rw[if_pos aa,Int.toNat_natCast,b]
      have d:IntKind.i64.wrap ((j:Int)+1)=((j+1:Nat):Int):=by rw[cE aa];omega
      unfold yu jk
      simp only[a,c,d,ai,fO,Cs,cond_true]
      cases b7 x.back 1 20<;>cases mz x.high 0 60<;>cases decide (3<=IntKind.i64.wrap (x.high.high - x.high.low))<;>rfl
     .intro s
      have a:decide ((u.aK.length:Int)<(u.aK.length:Int))=false:=decide_eq_false aa
      unfold yu
      simp only[a,cond_false]
  .intro j x s b
   have g:=(List.getElem?_eq_some_iff.1 b).1
   have a:decide ((j:Int)<(u.props.length:Int))=true:=decide_eq_true aa
   have c:bu u.props (j:Int)=some x:=by unfold bu;rw[if_pos aa,Int.toNat_natCast,b]
   have d:IntKind.i64.wrap ((j:Int)+1)=((j+1:Nat):Int):=by rw[cE aa];omega
   unfold rX jj
   simp only[a,c,d,ai,fO,(e x.place).2,cond_true]
   cases f x.place<;>cases b7 x.dK 1 20<;>rfl
  .intro s
   have a:decide ((u.props.length:Int)<(u.props.length:Int))=false:=decide_eq_false aa
   unfold rX
   simp only[a,cond_false]
theorem CE (x:Int):cond (x != 0) (some x) (some 0)=some x:=by
 cases h:(x != 0) with
 |true=>rfl
 |false=>
  have:x=0:=by simpa using h
  rw[this];rfl
theorem Jn (u:an)(a:u.az.length<=20)(d:u.props.length<=20)(e:u.aK.length<=20)(g:u.told.length<=20):gf u=iP u/\∃r,gf u=some r:=by
 obtain ⟨he,h⟩:=Ct u a;rw[Jk,h];show nt u=_/\∃r,nt u=some r;unfold nt;rw[CA];simp only[ai];cases hg:(gV u != 0) with
 |true=>exact ⟨rfl,_,rfl⟩
 |false=>
  simp only[cond_false];unfold oV;rw[he];simp only[ai];cases b:((cond (b7 u.az.length 2 5) ((en (iz u) 0 u.az).getD 0) 2) != 0) with
  |true=>exact ⟨rfl,_,rfl⟩
  |false=>
   simp only[cond_false];have hb:b7 u.az.length 2 5=true:=by
    cases hb:b7 (u.az.length:Int) 2 5 with
    |true=>rfl
    |false=>rw[hb] at b;cases b
   have i:=gh.1 hb;obtain ⟨f,c⟩:=Cz u aa a;rw[Jm u f c d e g];unfold oU;rw[yB u f c];simp only[ai];cases j:((cond (decide (3<(u.props.length:Int))) 2 ((en (jj u f) 0 u.props).getD 0)) != 0) with
   |true=>exact ⟨rfl,_,rfl⟩
   |false=>
    simp only[cond_false];unfold oT;rw[yA];simp only[ai];cases k:((cond (b7 u.aK.length 1 3) ((en jk 0 u.aK).getD 0) 2) != 0) with
    |true=>exact ⟨rfl,_,rfl⟩
    |false=>
     simp only[cond_false];unfold oS rq;rw[yz];simp only[ai];rw[CE];exact ⟨rfl,_,rfl⟩
theorem se {α:Type}{t:Nat->α->Option Int}:∀(l:List α) (i:Nat),en t i l=none->∀j x,l[j]?=some x->t (i+j) x=none
 |[],i,_,j,x,a=>by simp at a
 |y::l,i,h,j,x,a=>by
  unfold en at h
  cases ht:t i y with
  |some r=>rw[ht] at h;cases h
  |none=>
   rw[ht] at h
   cases j with
   |zero=>simp at a;subst a;exact ht
   |succ j=>
    have:=se l (i+1) h j x (by simpa using a)
    rwa [show i+1+j=i+(j+1) by omega] at this
structure Fit (u:an):Prop where
 bZ:2<=u.bZ/\u.bZ<=60
 cg:0<=u.cg/\u.cg<=60
 den:1<=u.bp.den/\u.bp.den<=20
 num:0<=u.bp.num/\u.bp.num<=20
 az:2<=u.az.length/\u.az.length<=5
 kI:∀(i:Nat) x,u.az[i]?=some x->(0<=x.aU/\x.aU<=u.bZ - 1)/\0<=x.high/\x.high<=60
 oa:∀(i:Nat) x y,u.az[i]?=some x->u.az[i+1]?=some y->x.aU<y.aU
 props:u.props.length<=3
 prop:∀(i:Nat) x,u.props[i]?=some x->fW u x.place=some true/\1<=x.dK/\x.dK<=20
 aK:1<=u.aK.length/\u.aK.length<=3
 bA:∀(i:Nat) x,u.aK[i]?=some x->(1<=x.back/\x.back<=20)/\0<=x.high.low/\x.high.low<=x.high.high/\x.high.high<=60/\x.high.high - x.high.low<3
 told:u.told.length<=3
 uS:∀(i:Nat) x,u.told[i]?=some x->0<=x.bA/\x.bA<u.aK.length
theorem uT {o:Option Int}(h:∀r,o=some r->r≠0)(a:o.getD 0=0):o=none:=by
 cases o with
 |none=>rfl
 |some r=>exact absurd a (h r rfl)
theorem Jo (u:an)(i:Nat)(x:cj)(r:Int)(h:iz u i x=some r):r≠0:=by
 unfold iz at h;revert h;cases b7 x.aU 0 (IntKind.i64.wrap (u.bZ - 1))<;>cases b7 x.high 0 60<;>try (intro h;cases h;decide)
 cases i with
 |zero=>intro h;cases h
 |succ j=>
  simp only[cond_true];cases u.az[j]? with
  |none=>intro h;cases h
  |some y=>dsimp only;cases decide (x.aU<=y.aU)<;>intro h<;>cases h<;>decide
theorem yC (u:an)(o:u.az.length<=20)(h:gf u=some 0):Fit u:=by
 have a:nt u=some 0:=h;clear h;unfold nt at a;rw[CA] at a;simp only[ai] at a;have hg:gV u=0:=by
  cases hg:(gV u != 0) with
  |true=>rw[hg] at a;exact Option.some.inj a
  |false=>simpa using hg
 rw[hg] at a;have a:oV u=some 0:=a;unfold oV at a;rw[(Ct u o).1] at a;simp only[ai] at a;generalize g:cond (b7 (u.az.length:Int) 2 5) ((en (iz u) 0 u.az).getD 0) 2=E at a;have z:E=0:=by
  cases d:(E != 0) with
  |true=>rw[d] at a;exact Option.some.inj a
  |false=>simpa using d
 rw[z] at a g;have a:oU u=some 0:=a;have hb:b7 (u.az.length:Int) 2 5=true:=by
  cases hb:b7 (u.az.length:Int) 2 5 with
  |true=>rfl
  |false=>rw[hb] at g;cases g
 rw[hb] at g;have M:=gh.1 hb;have p:=se u.az 0 (uT (n9 (Jo u) u.az 0) g);obtain ⟨f,q⟩:=Cz u aa o;unfold oU at a;rw[yB u f q] at a;simp only[ai] at a;generalize j:cond (decide (3<(u.props.length:Int))) 2 ((en (jj u f) 0 u.props).getD 0)=r at a;have A:r=0:=by
  cases d:(r != 0) with
  |true=>rw[d] at a;exact Option.some.inj a
  |false=>simpa using d
 rw[A] at a j;have a:oT u=some 0:=a;have s:decide (3<(u.props.length:Int))=false:=by
  cases hb:decide (3<(u.props.length:Int)) with
  |false=>rfl
  |true=>rw[hb] at j;cases j
 rw[s] at j;have B:=se u.props 0 (uT (n9 (CB u f) u.props 0) j);unfold oT at a;rw[yA] at a;simp only[ai] at a;generalize k:cond (b7 (u.aK.length:Int) 1 3) ((en jk 0 u.aK).getD 0) 2=t at a;have C:t=0:=by
  cases d:(t != 0) with
  |true=>rw[d] at a;exact Option.some.inj a
  |false=>simpa using d
 rw[C] at a k;have a:oS u=some 0:=a;have v:b7 (u.aK.length:Int) 1 3=true:=by
  cases hb:b7 (u.aK.length:Int) 1 3 with
  |true=>rfl
  |false=>rw[hb] at k;cases k
 rw[v] at k;have N:=gh.1 v;have D:=se u.aK 0 (uT (n9 CC u.aK 0) k);unfold oS rq at a;rw[yz] at a;simp only[ai] at a;rw[CE] at a;have l:=Option.some.inj a;have w:decide (3<(u.told.length:Int))=false:=by
  cases hb:decide (3<(u.told.length:Int)) with
  |false=>rfl
  |true=>rw[hb] at l;cases l
 rw[w] at l;have F:=se u.told 0 (uT (n9 (Jl u) u.told 0) l);have O:=of_decide_eq_false s;have P:=of_decide_eq_false w;clear a g j k l;have G:(2<=u.bZ/\u.bZ<=60)/\(0<=u.cg/\u.cg<=60)/\(1<=u.bp.den/\u.bp.den<=20)/\(0<=u.bp.num/\u.bp.num<=20):=by
  unfold gV at hg;refine ⟨gh.1 ?_,gh.1 ?_,gh.1 ?_,gh.1 ?_⟩<;>revert hg<;>cases b7 u.bZ 2 60<;>cases b7 u.cg 0 60<;>cases b7 u.bp.den 1 20<;>cases b7 u.bp.num 0 20<;>intro hg<;>first|rfl|cases hg
 obtain ⟨H,I,J,K⟩:=G;have hw:IntKind.i64.wrap (u.bZ - 1)=u.bZ - 1:=cE aa;have m:∀(i:Nat) x,u.az[i]?=some x->b7 x.aU 0 (u.bZ - 1)=true/\b7 x.high 0 60=true:=by
  intro i x b;have:=p i x b;unfold iz at this;rw[hw] at this;revert this;cases b7 x.aU 0 (u.bZ - 1)<;>cases b7 x.high 0 60<;>intro h<;>first|exact ⟨rfl,rfl⟩|cases h
 refine ⟨H,I,J,K,aa,fun i x b=>⟨gh.1 (m i x b).1,gh.1 (m i x b).2⟩,fun i x y b n=>?_,aa,fun i x b=>?_,aa,fun i x b=>?_,aa,fun i x b=>?_⟩
 .have:=p (i+1) y n;rw[Nat.zero_add] at this;unfold iz at this;rw[hw,(m _ _ n).1,(m _ _ n).2] at this;simp only[cond_true,b] at this;cases hd:decide (y.aU<=x.aU) with
  |true=>rw[hd] at this;cases this
  |false=>have:=of_decide_eq_false hd;omega
 .have:=B i x b;unfold jj at this;revert this;rw[(q x.place).1];cases f x.place<;>cases hb:b7 x.dK 1 20<;>intro h<;>first|exact ⟨rfl,gh.1 hb⟩|cases h
 .have:=D i x b;unfold jk at this;cases c:b7 x.back 1 20 with
  |false=>rw[c] at this;cases this
  |true=>
   cases e:mz x.high 0 60 with
   |false=>rw[c,e] at this;cases this
   |true=>
    rw[c,e] at this;unfold mz at e;simp only[Bool.and_eq_true,decide_eq_true_eq] at e;refine ⟨gh.1 c,e.1,e.2.1,e.2.2,?_⟩;cases hd:decide (3<=IntKind.i64.wrap (x.high.high - x.high.low)) with
    |true=>rw[hd] at this;cases this
    |false=>
     have L:=of_decide_eq_false hd;rw[cE aa] at L;omega
 .have:=F i x b;unfold kH at this;cases c:mA u x.bA with
  |false=>rw[c] at this;cases this
  |true=>
   unfold mA at c;rw[cE aa] at c;have:=gh.1 c;omega
theorem yD (g:Nat)(hg:0<g)(n:Int)(d:Nat):bO ((g:Int)*n) (g*d)=bO n d:=by
 unfold bO;have e1:((g:Int)*n).natAbs=g*n.natAbs:=by rw[Int.natAbs_mul,Int.natAbs_natCast]
 rw[e1,Nat.gcd_mul_left];have a:(0:Int)<(g:Int):=aa;congr 1
 .rw[Int.natCast_mul,Int.mul_tdiv_mul_of_pos _ _ a]
 .rw[Int.natCast_mul,Int.natCast_mul,Int.mul_tdiv_mul_of_pos _ _ a]
theorem yE (n:Int)(d:Nat)(hd:0<d):∃g a:Nat,0<g/\0<a/\d=g*a/\n=(g:Int)*(bO n d).num/\(bO n d).den=(a:Int):=by
 have hg:0<Nat.gcd n.natAbs d:=Nat.gcd_pos_of_pos_right _ hd;obtain ⟨a,b⟩:=Nat.gcd_dvd_right n.natAbs d;refine ⟨Nat.gcd n.natAbs d,a,hg,?_,b,?_,?_⟩
 .rcases Nat.eq_zero_or_pos a with h|h
  .rw[h,Nat.mul_zero] at b;omega
  .exact h
 .have c:((Nat.gcd n.natAbs d:Nat):Int) ∣ n:=Int.ofNat_dvd_left.2 (Nat.gcd_dvd_left _ _);unfold bO;exact (Int.mul_tdiv_cancel' c).symm
 .have:(d:Int)=((Nat.gcd n.natAbs d:Nat):Int)*(a:Int):=by rw[<-Int.natCast_mul];exact congrArg _ b
  show (d:Int).tdiv ((Nat.gcd n.natAbs d:Nat):Int)=_;have e:((Nat.gcd n.natAbs d:Nat):Int)≠0:=aa
  calc (d:Int).tdiv ((Nat.gcd n.natAbs d:Nat):Int)=(((Nat.gcd n.natAbs d:Nat):Int)*(a:Int)).tdiv ((Nat.gcd n.natAbs d:Nat):Int):=congrArg (fun z=>Int.tdiv z _) this
   _=(a:Int):=Int.mul_tdiv_cancel_left _ e
theorem dZ {x y:Int}{A B:Nat}(a:x.natAbs<=A)(b:y.natAbs<=B):(x*y).natAbs<=A*B:=by
 rw[Int.natAbs_mul];exact Nat.mul_le_mul a b
theorem eo {n:Int}(h:n.natAbs<=9000000000000000000):IntKind.i64.wrap n=n:=cE aa
structure Sm (r:au)(A B:Nat):Prop where
 num:r.num.natAbs<=A
 den:0<r.den/\r.den<=B
theorem si {a b:au}{A B C D:Nat}(c:Sm a A B)(hb:Sm b C D)(h:A*D+C*B<=900000000000000000)(hd:B*D<=800000000000000000):
  jM a b=some (bO (a.num*b.den+b.num*a.den) (a.den*b.den).toNat):=by
 have d:=dZ c.num (show b.den.natAbs<=D by have:=hb.den;omega)
 have f:=dZ hb.num (show a.den.natAbs<=B by have:=c.den;omega)
 have g:=dZ (show a.den.natAbs<=B by have:=c.den;omega) (show b.den.natAbs<=D by have:=hb.den;omega)
 have i:0<a.den*b.den:=Int.mul_pos c.den.1 hb.den.1
 unfold jM
 rw[eo (n:=a.num*b.den) aa,eo (n:=b.num*a.den) aa,eo (n:=a.den*b.den) aa,eo aa]
 have e:a.den*b.den=(((a.den*b.den).toNat:Nat):Int):=aa
 have:=sd (a.num*b.den+b.num*a.den) (a.den*b.den).toNat aa aa aa
 rw[<-e] at this
 rw[this]
 rfl
theorem CF {a b:au}{A B C D:Nat}(c:Sm a A B)(hb:Sm b C D)(h:A*D+C*B<=900000000000000000)(hd:B*D<=800000000000000000):
  jT a b=some (bO (a.num*b.den - b.num*a.den) (a.den*b.den).toNat):=by
 have d:=dZ c.num (show b.den.natAbs<=D by have:=hb.den;omega)
 have f:=dZ hb.num (show a.den.natAbs<=B by have:=c.den;omega)
 have g:=dZ (show a.den.natAbs<=B by have:=c.den;omega) (show b.den.natAbs<=D by have:=hb.den;omega)
 have i:0<a.den*b.den:=Int.mul_pos c.den.1 hb.den.1
 unfold jT
 rw[eo (n:=a.num*b.den) aa,eo (n:=b.num*a.den) aa,eo (n:=a.den*b.den) aa,eo aa]
 have e:a.den*b.den=(((a.den*b.den).toNat:Nat):Int):=aa
 have:=pW (a.num*b.den - b.num*a.den) (a.den*b.den).toNat aa aa aa
 rw[<-e] at this
 rw[this]
 rfl
theorem yF {a b:au}{A B C D:Nat}(c:Sm a A B)(hb:Sm b C D)(h:A*D+C*B<=900000000000000000)(hd:B*D<=800000000000000000)(hC:C<=9000000000000000000):
  jN a b=some (bO (a.num*b.den - b.num*a.den) (a.den*b.den).toNat):=by
 unfold jN
 have e:=hb.num
 rw[eo aa]
 have d:Sm (⟨0 - b.num,b.den⟩:au) C D:=⟨by show (0 - b.num).natAbs<=C;omega,hb.den⟩
 rw[si c d h hd]
 show some (bO (a.num*b.den+(0 - b.num)*a.den) (a.den*b.den).toNat)=_
 rw[show a.num*b.den+(0 - b.num)*a.den=a.num*b.den - b.num*a.den by rw[Int.zero_sub,Int.neg_mul];omega]
def uU (x y:cj)(p:Int):Option au:=
 iw (IntKind.i64.wrap ((IntKind.i64.wrap (x.high*(IntKind.i64.wrap (y.aU - x.aU))))+(IntKind.i64.wrap ((IntKind.i64.wrap (y.high - x.high))*(IntKind.i64.wrap (p - x.aU)))))) (IntKind.i64.wrap (y.aU - x.aU))
theorem sj {α:Type}{l:List α}{i:Nat}{x:α}(h:l[i]?=some x):bu l (i:Int)=some x:=by unfold bu;rw[if_pos aa,Int.toNat_natCast,h]
theorem CG (i:Nat)(h:i<1000):IntKind.i64.wrap ((i:Int)+1)=((i+1:Nat):Int):=by rw[cE aa];omega
theorem piece (u:an)(p:Int)(hl:u.az.length<=5)(z:cj)(b:u.az[u.az.length - 1]?=some z)(g:p<=z.aU):∀(m i n:Nat) (x y:cj),i+1+m=u.az.length - 1->m<n->u.az[i]?=some x->u.az[i+1]?=some y->
  ∃(k:Nat) (x y:cj),i<=k/\u.az[k]?=some x/\u.az[k+1]?=some y/\p<=y.aU/\(k=i\/x.aU<p)/\aS (oX u p) n ((i+1:Nat):Int)=some (.nx ((k+1:Nat):Int))/\
   aS (pN u p) n (i:Int)=ai (uU x y p) fun r=>some (.rt r)
 |m,i,n+1,x,y,t,v,f,a=>by
  have w:i+1<u.az.length:=(List.getElem?_eq_some_iff.1 a).1
  have d1:decide (((i+1:Nat):Int)<(u.az.length:Int))=true:=decide_eq_true aa
  unfold aS oX pN
  rw[CG i aa,CG (i+1) aa,sj f,sj a,d1]
  simp only[ai,cond_true]
  by_cases c:y.aU<p
  .have e1:decide (y.aU<p)=true:=decide_eq_true c
   have e2:decide (p<=y.aU)=false:=decide_eq_false aa
   rw[e1,e2]
   simp only[cond_true,cond_false]
   cases m with
   |zero=>
    have:u.az.length - 1=i+1:=aa
    rw[this,a] at b
    cases b
    omega
   |succ m=>
    have h:i+1+1<u.az.length:=aa
    obtain ⟨k,j,y',A,d,l,o,e,q,s⟩:=piece u p hl z b g m (i+1) n y (u.az[i+1+1]) aa aa a (List.getElem?_eq_getElem h)
    refine ⟨k,j,y',aa,d,l,o,?_,q,s⟩
    rcases e with rfl|e
    .rw[a] at d;cases d;exact .inr c
    .exact .inr e
  .have e1:decide (y.aU<p)=false:=decide_eq_false c
   have e2:decide (p<=y.aU)=true:=decide_eq_true aa
   rw[e1,e2]
   refine ⟨i,x,y,Nat.le_refl _,f,a,aa,.inl rfl,rfl,?_⟩
   simp only[cond_true]
   unfold uU
   cases iw _ _<;>rfl
theorem kJ (n:Int)(d:Nat)(hd:0<d):Sm (bO n d) n.natAbs d:=by
 obtain ⟨g,a,hg,c,e1,e2,b⟩:=yE n d hd;refine ⟨?_,?_⟩
 .have:n.natAbs=g*(bO n d).num.natAbs:=by
   have:=congrArg Int.natAbs e2
   rwa [Int.natAbs_mul,Int.natAbs_natCast] at this
  rw[this];exact Nat.le_mul_of_pos_left _ hg
 .rw[b];have:a<=d:=by rw[e1];exact Nat.le_mul_of_pos_left _ hg
  omega
theorem CH (h:Int)(n:Int)(d:Nat)(hd:0<d):bO (h*(bO n d).den+(bO n d).num) ((bO n d).den).toNat=bO (h*d+n) d:=by
 obtain ⟨g,a,hg,f,e1,e2,b⟩:=yE n d hd;have k1:h*(d:Int)+n=(g:Int)*(h*(a:Int)+(bO n d).num):=by
  rw[Int.mul_add,<-e2,e1,Int.natCast_mul,Int.mul_left_comm]
 rw[b];have c:((a:Nat):Int).toNat=a:=Int.toNat_natCast a;rw[c,k1];have e:bO ((g:Int)*(h*(a:Int)+(bO n d).num)) d=bO ((g:Int)*(h*(a:Int)+(bO n d).num)) (g*a):=congrArg _ e1;rw[e,yD g hg]
theorem Jp (u:an)(F:Fit u)(p:Int)(a z:cj)(g:u.az[0]?=some a)(j:u.az[u.az.length - 1]?=some z)(l:a.aU<=p)(m:p<=z.aU):
  ∃r,jQ u p=some r/\nW u p=some r/\Sm r 7200 60/\∃(k:Nat) (x y:cj) (d:Nat),u.az[k]?=some x/\u.az[k+1]?=some y/\x.aU<=p/\p<=y.aU/\y.aU - x.aU=d/\0<d/\r=bO (x.high*d+(y.high - x.high)*(p - x.aU)) d:=by
 have o:=F.az
 obtain ⟨k,x,y,-,b,e,q,h,t,v⟩:=piece u p o.2 z j m (u.az.length - 2) 0 fu a (u.az[1]'aa) aa (Nat.lt_of_le_of_lt (show u.az.length - 2<=5 by omega) aD) g (List.getElem?_eq_getElem _)
 have hk:k+1<u.az.length:=(List.getElem?_eq_some_iff.1 e).1
 have H:=F.kI k x b
 have I:=F.kI (k+1) y e
 have J:=F.oa k x y b e
 have K:=F.bZ
 have w:x.aU<=p:=by
  rcases h with rfl|h
  .rw[g] at b;cases b;exact l
  .omega
 have A:IntKind.i64.wrap (((k+1:Nat):Int) - 1)=(k:Int):=by rw[cE aa];omega
 have w1:IntKind.i64.wrap (y.high - x.high)=y.high - x.high:=cE aa
 have w2:IntKind.i64.wrap (p - x.aU)=p - x.aU:=cE aa
 have w3:IntKind.i64.wrap (y.aU - x.aU)=y.aU - x.aU:=cE aa
 have B:((y.high - x.high)*(p - x.aU)).natAbs<=60*60:=dZ aa aa
 have i:(x.high*(y.aU - x.aU)).natAbs<=60*60:=dZ aa aa
 obtain ⟨d,hd⟩:∃d:Nat,y.aU - x.aU=d:=⟨(y.aU - x.aU).toNat,aa⟩
 generalize f:(y.high - x.high)*(p - x.aU)=n at B
 have c:0<d:=aa
 have L:d<=60:=aa
 have s1:=kJ n d c
 have C:Sm (bO n d) 3600 60:=⟨Nat.le_trans s1.num aa,s1.den.1,by have:=s1.den.2;omega⟩
 have D:Sm (⟨x.high,1⟩:au) 60 1:=⟨by show x.high.natAbs<=60;omega,by show (0:Int)<1;omega,by show (1:Int)<=((1:Nat):Int);omega⟩
 refine ⟨bO (x.high*d+n) d,?_,?_,?_,k,x,y,d,b,e,w,q,hd,c,by rw[f]⟩
 .unfold jQ
  have E:aS (oX u p) fu 1=some (.nx ((k+1:Nat):Int)):=t
  rw[E]
  simp only[ai,aG]
  rw[A,sj b,sj e]
  simp only[gZ]
  rw[w1,w2,w3,f,hd,eo aa,sd n d aa c aa]
  simp only
  rw[si D C aa aa]
  show some (bO (x.high*(bO n d).den+(bO n d).num*1) (1*(bO n d).den).toNat)=_
  rw[Int.mul_one,Int.one_mul,CH x.high n d c]
 .unfold nW
  have G:aS (pN u p) fu 0=ai (uU x y p) fun r=>some (.rt r):=v
  rw[G]
  unfold uU
  rw[w1,w2,w3,eo (n:=x.high*(y.aU - x.aU)) aa,f,eo (n:=n) aa,hd]
  rw[hd] at i
  rw[eo (n:=x.high*(d:Int)+n) aa,pW (x.high*d+n) d aa c aa]
  rfl
 .have s:=kJ (x.high*d+n) d c
  rw[hd] at i
  exact ⟨Nat.le_trans s.num aa,s.den.1,by have:=s.den.2;omega⟩
theorem Jq (u:an)(F:Fit u)(p:Int)(a z:cj)(b:u.az[0]?=some a)(c:u.az[u.az.length - 1]?=some z)(d:a.aU<=p)(e:p<=z.aU):
  ∃r,jQ u p=some r/\nW u p=some r/\Sm r 7200 60:=by
 obtain ⟨r,f,g,h,-⟩:=Jp u F p a z b c d e
 exact ⟨r,f,g,h⟩
def ob:an:=⟨0,0,(⟨0,0⟩:au),([]:List cj),([]:List cm),([]:List cA),([]:List cn)⟩
theorem CI (u:an)(F:Fit u)(p:Int):∃a z,u.az[0]?=some a/\u.az[u.az.length - 1]?=some z/\fW u p=some (b7 p a.aU z.aU)/\nG u p=some (b7 p a.aU z.aU):=by
 have c:=F.az;have b:u.az[0]?=some (u.az[0]'aa):=List.getElem?_eq_getElem _;have hl:u.az[u.az.length - 1]?=some (u.az[u.az.length - 1]'aa):=List.getElem?_eq_getElem _;have hw:IntKind.i64.wrap ((u.az.length:Int) - 1)=((u.az.length - 1:Nat):Int):=by rw[cE aa];omega
 refine ⟨_,_,b,hl,?_⟩;have k:fW u p=some (b7 p (u.az[0]'aa).aU (u.az[u.az.length - 1]'aa).aU):=by
  unfold fW;have e0:bu u.az 0=some (u.az[0]'aa):=b;rw[hw,e0,sj hl,kG];simp only[ai,fO]
 exact ⟨k,k⟩
theorem yG {n m:Int}{d e:Nat}(hd:0<d)(he:0<e)(h:n*(e:Int)=m*(d:Int)):bO n d=bO m e:=by
 have a:=yD e he n d;have b:=yD d hd m e;rw[<-a,<-b];have e1:(e:Int)*n=(d:Int)*m:=by rw[Int.mul_comm,h,Int.mul_comm]
 rw[e1,Nat.mul_comm e d]
theorem yH (n:Int)(d:Nat)(hd:0<d):(bO n d).num*(d:Int)=n*(bO n d).den/\0<(bO n d).den:=by
 obtain ⟨g,a,hg,c,e1,e2,b⟩:=yE n d hd;refine ⟨?_,by rw[b];omega⟩;rw[b];have k1:(d:Int)=(g:Int)*(a:Int):=by rw[<-Int.natCast_mul];exact congrArg _ e1
 calc (bO n d).num*(d:Int)=(bO n d).num*((g:Int)*(a:Int)):=by rw[<-k1]
  _=((g:Int)*(bO n d).num)*(a:Int):=by rw[<-Int.mul_assoc,Int.mul_comm (bO n d).num]
  _=n*(a:Int):=by rw[<-e2]
theorem sk {a b:au}{A B C D:Nat}(c:Sm a A B)(hb:Sm b C D)(h:A*D<=9000000000000000000)(d:C*B<=9000000000000000000):gQ a b=some (decide (a.num*b.den<b.num*a.den))/\ff a b=some (decide (a.num*b.den<b.num*a.den)):=by
 have e:=dZ c.num (show b.den.natAbs<=D by have:=hb.den;omega);have f:=dZ hb.num (show a.den.natAbs<=B by have:=c.den;omega);have k:gQ a b=some (decide (a.num*b.den<b.num*a.den)):=by
  unfold gQ;rw[eo (n:=a.num*b.den) aa,eo (n:=b.num*a.den) aa]
 exact ⟨k,k⟩
theorem Jr {h md a d e b f c N:Int}(g:d*b=N*md)(i:e*f=c*a):(h*(md*a)+d*e)*(b*f)=(h*b*f+N*c)*(md*a):=by
 grind
theorem CJ (u:an)(F:Fit u)(s:bh)(hs:(1<=s.back/\s.back<=20)/\0<=s.high/\s.high<=60)(at_:Int)(aU:Int)(G:0<=aU/\aU<=60)(e:au)(he:Sm e 10000 100):
  ∃c,lp u s at_ ⟨aU,e⟩=some ⟨⟨aU,e⟩,at_,c⟩/\lz u s aU e=some c/\c=bO (s.high*e.den*(aU+s.back)+(e.num - s.high*e.den)*(u.bZ+s.back)) (e.den*(aU+s.back)).toNat:=by
 have H:=F.bZ
 have w1:IntKind.i64.wrap (u.bZ+s.back)=u.bZ+s.back:=cE aa
 have w2:IntKind.i64.wrap (aU+s.back)=aU+s.back:=cE aa
 obtain ⟨f,b⟩:∃f:Nat,aU+s.back=f:=⟨(aU+s.back).toNat,aa⟩
 have d:0<f:=aa
 have I:f<=80:=aa
 generalize m:u.bZ+s.back=c at*
 have o:c.natAbs<=80:=aa
 have p:Sm (⟨s.high,1⟩:au) 60 1:=⟨by show s.high.natAbs<=60;omega,by show (0:Int)<1;omega,by show (1:Int)<=((1:Nat):Int);omega⟩
 obtain ⟨a,j⟩:∃n:Nat,e.den=n:=⟨e.den.toNat,by have:=he.den;omega⟩
 have g:0<a:=by have:=he.den;omega
 have J:a<=100:=by have:=he.den;omega
 have z:(s.high*e.den).natAbs<=60*100:=dZ aa aa
 have b2:(e.num - s.high*e.den).natAbs<=16000:=by have:=he.num;omega
 have q:=yF he p aa aa aa
 have e1:e.num*(1:Int) - s.high*e.den=e.num - s.high*e.den:=by rw[Int.mul_one]
 have e2:(e.den*(1:Int)).toNat=a:=by rw[Int.mul_one,j,Int.toNat_natCast]
 rw[show ((⟨s.high,1⟩:au).den)=(1:Int) from rfl,show ((⟨s.high,1⟩:au).num)=s.high from rfl,e1,e2] at q
 generalize A:e.num - s.high*e.den=N at*
 have sm:=kJ N a g
 have r:=kJ c f d
 have t:=yH N a g
 have v:=yH c f d
 have K:((bO N a).num*(bO c f).num).natAbs<=16000*80:=dZ (Nat.le_trans sm.num b2) (Nat.le_trans r.num o)
 have L:((bO N a).den*(bO c f).den).natAbs<=100*80:=dZ (by have:=sm.den;omega) (by have:=r.den;omega)
 have O:0<(bO N a).den*(bO c f).den:=Int.mul_pos t.2 v.2
 obtain ⟨M,hM⟩:∃M:Nat,(bO N a).den*(bO c f).den=M:=⟨((bO N a).den*(bO c f).den).toNat,aa⟩
 have h:0<M:=aa
 have B:=sd c f aa d aa
 have C:=sd ((bO N a).num*(bO c f).num) M aa h aa
 have sq:=kJ ((bO N a).num*(bO c f).num) M h
 have D:Sm (bO ((bO N a).num*(bO c f).num) M) 1280000 8000:=⟨Nat.le_trans sq.num aa,sq.den.1,by have:=sq.den.2;omega⟩
 have w:=si p D aa aa
 have E:s.high*(bO ((bO N a).num*(bO c f).num) M).den+(bO ((bO N a).num*(bO c f).num) M).num*1=s.high*(bO ((bO N a).num*(bO c f).num) M).den+(bO ((bO N a).num*(bO c f).num) M).num:=by rw[Int.mul_one]
 rw[show ((⟨s.high,1⟩:au).den)=(1:Int) from rfl,show ((⟨s.high,1⟩:au).num)=s.high from rfl,E,Int.one_mul,CH s.high _ M h] at w
 have k:e.den*(aU+s.back)=((a*f:Nat):Int):=by rw[j,b,Int.natCast_mul]
 have i:(e.den*(aU+s.back)).toNat=a*f:=by rw[k,Int.toNat_natCast]
 have x:bO (s.high*(M:Int)+(bO N a).num*(bO c f).num) M=bO (s.high*e.den*(aU+s.back)+N*c) (a*f):=by
  refine yG h (Nat.mul_pos g d) ?_
  rw[Int.natCast_mul,<-hM,b,j]
  exact Jr (by rw[t.1]) (by rw[v.1])
 refine ⟨_,?_,?_,rfl⟩
 .unfold lp
  have l:IntKind.i64.wrap (f:Int)=f:=cE aa
  simp only[gZ,ai,q,m,w1,b,l,B]
  rw[eo aa,eo (n:=(bO N a).den*(bO c f).den) aa,hM,C]
  simp only[w]
  rw[b] at i x
  rw[i,x]
 .unfold lz
  have l:IntKind.i64.wrap (f:Int)=f:=cE aa
  have P:(s.high*e.den*(f:Int)).natAbs<=6000*80:=dZ z aa
  have p2:(N*c).natAbs<=16000*80:=dZ b2 o
  have p3:(e.den*(f:Int)).natAbs<=100*80:=dZ aa aa
  simp only[m,w1,b,l]
  rw[eo (n:=s.high*e.den) aa,A,eo (n:=N) aa,eo (n:=s.high*e.den*(f:Int)) aa,eo (n:=N*c) aa,eo (n:=s.high*e.den*(f:Int)+N*c) aa,eo (n:=e.den*(f:Int)) aa]
  rw[b] at k i
  have y:=pW (s.high*e.den*(f:Int)+N*c) (a*f) aa (Nat.mul_pos g d) aa
  rw[i]
  rw[<-k] at y
  rw[y]
  rfl
def eA (u:an)(s:bh)(x:cj):au:=bO (s.high*1*(x.aU+s.back)+(x.high - s.high*1)*(u.bZ+s.back)) (1*(x.aU+s.back)).toNat
theorem CK (u:an)(F:Fit u)(s:bh)(hs:(1<=s.back/\s.back<=20)/\0<=s.high/\s.high<=60)(i:Nat)(x:cj)(a:u.az[i]?=some x)(at_:Int):
  lp u s at_ ⟨x.aU,⟨x.high,1⟩⟩=some ⟨⟨x.aU,⟨x.high,1⟩⟩,at_,eA u s x⟩/\lz u s x.aU ⟨x.high,1⟩=some (eA u s x):=by
 have p:=F.kI i x a
 have f:=F.bZ
 have he:Sm (⟨x.high,1⟩:au) 10000 100:=⟨by show x.high.natAbs<=10000;omega,by show (0:Int)<1;omega,by show (1:Int)<=((100:Nat):Int);omega⟩
 obtain ⟨c,b,d,e⟩:=CJ u F s hs at_ x.aU aa ⟨x.high,1⟩ he
 have:c=eA u s x:=e
 subst this
 exact ⟨b,d⟩
theorem CL (u:an)(F:Fit u)(s:bh)(hs:(1<=s.back/\s.back<=20)/\0<=s.high/\s.high<=60)(i:Nat)(x:cj)(a:u.az[i]?=some x):Sm (eA u s x) 10000 100:=by
 have p:=F.kI i x a;have b:=F.bZ;unfold eA;rw[Int.mul_one,Int.one_mul];have c:(s.high*(x.aU+s.back)).natAbs<=60*79:=dZ aa aa;have b2:((x.high - s.high)*(u.bZ+s.back)).natAbs<=60*80:=dZ aa aa;have h:=kJ (s.high*(x.aU+s.back)+(x.high - s.high)*(u.bZ+s.back)) (x.aU+s.back).toNat aa;exact ⟨Nat.le_trans h.num aa,h.den.1,by have:=h.den.2;omega⟩
def foldI {α σ:Type}(g:Nat->α->σ->σ):Nat->List α->σ->σ
 |_,[],s=>s
 |i,x::l,s=>foldI g (i+1) l (g i x s)
theorem iT {α σ ρ:Type}{f:Nat->α->σ->Option (Fl σ ρ)}{g:Nat->α->σ->σ}{I:Nat->σ->Prop}:∀(l:List α) (i:Nat) (s:σ),I i s->(∀j x s,l[j]?=some x->I (i+j) s->f (i+j) x s=some (.nx (g (i+j) x s))/\I (i+j+1) (g (i+j) x s))->
  bM f i l s=some (.nx (foldI g i l s))/\I (i+l.length) (foldI g i l s)
 |[],i,s,hs,_=>⟨rfl,hs⟩
 |x::l,i,s,hs,h=>by
  obtain ⟨a,b⟩:=h 0 x s rfl hs
  simp only[Nat.add_zero] at a b
  unfold bM foldI
  rw[a]
  have:=iT l (i+1) _ b fun j y s c hs=>by
   have:=h (j+1) y s (by simpa using c) (by rwa [show i+(j+1)=i+1+j by omega])
   rwa [show i+(j+1)=i+1+j by omega] at this
  rwa [show i+1+l.length=i+(x::l).length by simp;omega] at this
theorem CM {α σ τ ρ:Type}{f:τ->Option (Fl τ ρ)}{g:Nat->α->σ->σ}{I:Nat->σ->Prop}(e:σ->Int->τ)(l:List α)(h:∀(i:Nat) x s,l[i]?=some x->I i s->f (e s (i:Int))=some (.nx (e (g i x s) ((i+1:Nat):Int)))/\I (i+1) (g i x s))(a:∀s,f (e s (l.length:Int))=some (.bk (e s (l.length:Int)))):
  ∀(k i n:Nat) (s:σ),I i s->i+k=l.length->k<n->aS f n (e s (i:Int))=some (.nx (e (foldI g i (l.drop i) s) (l.length:Int)))/\I l.length (foldI g i (l.drop i) s)
 |0,i,n+1,s,hs,hi,_=>by
  obtain rfl:i=l.length:=aa
  unfold aS
  rw[a,List.drop_length]
  exact ⟨rfl,hs⟩
 |k+1,i,n+1,s,hs,hi,m=>by
  have b:i<l.length:=aa
  have c:l[i]?=some l[i]:=List.getElem?_eq_getElem b
  obtain ⟨d,j⟩:=h i _ s c hs
  unfold aS
  rw[d,List.drop_eq_getElem_cons b]
  unfold foldI
  exact CM e l h a k (i+1) n _ j aa aa
theorem pX {α σ τ ρ:Type}{f:τ->Option (Fl τ ρ)}{g:Nat->α->σ->σ}{I:Nat->σ->Prop}(e:σ->Int->τ)(l:List α)(hl:l.length<=1000)(h:∀(i:Nat) x s,l[i]?=some x->I i s->f (e s (i:Int))=some (.nx (e (g i x s) ((i+1:Nat):Int)))/\I (i+1) (g i x s))(a:∀s,f (e s (l.length:Int))=some (.bk (e s (l.length:Int))))(s:σ)(hs:I 0 s):
  aS f fu (e s 0)=some (.nx (e (foldI g 0 l s) (l.length:Int)))/\I l.length (foldI g 0 l s):=by
 have:=CM e l h a l.length 0 fu s hs aa (Nat.lt_of_le_of_lt hl aD)
 simpa using this
theorem CN {α σ:Type}{g g':Nat->α->σ->σ}:∀(l:List α) (i:Nat) (s:σ),(∀j x s,i<=j->g j x s=g' j x s)->foldI g i l s=foldI g' i l s
 |[],_,_,_=>rfl
 |x::l,i,s,h=>by
  unfold foldI
  rw[h i x s (Nat.le_refl _)]
  exact CN l (i+1) _ fun j x s a=>h j x s aa
def bY (a b:au):Bool:=decide (a.num*b.den<b.num*a.den)
abbrev SR (r:au):Prop:=Sm r 2000000 8000
theorem Sm.mono {r:au}{A B a b:Nat}(h:Sm r A B)(c:A<=a)(hb:B<=b):Sm r a b:=⟨Nat.le_trans h.num c,h.den.1,by have:=h.den.2;omega⟩
theorem uV (u:an)(F:Fit u)(s:bh)(hs:(1<=s.back/\s.back<=20)/\0<=s.high/\s.high<=60)(i:Nat)(x:cj)(a:u.az[i]?=some x):SR (eA u s x):=(CL u F s hs i x a).mono aD aD
theorem kK {a b:au}(c:SR a)(hb:SR b):gQ a b=some (bY a b)/\ff a b=some (bY a b):=sk c hb aD aD
def gB (u:an)(s:bh)(i:Nat)(x:cj)(st:Int×au):Int×au:=cond (bY st.2 (eA u s x)) ((i:Int),eA u s x) st
def jl (u:an)(s:bh)(i:Nat)(x:cj):bH:=⟨⟨x.aU,⟨x.high,1⟩⟩,(i:Int),eA u s x⟩
def gi (u:an)(s:bh):Nat->List cj->List bH
 |_,[]=>[]
 |i,x::l=>jl u s i x::gi u s (i+1) l
theorem CO (u:an)(s:bh):∀(l:List cj) (i:Nat) (a:List bH),foldI (fun i x st=>st++[jl u s i x]) i l a=a++gi u s i l
 |[],i,a=>by simp[foldI,gi]
 |x::l,i,a=>by simp[foldI,gi,CO u s l (i+1)]
def gC (i:Nat)(x:bH)(st:bH):bH:=cond (bY st.high x.high) x st
theorem CP (u:an)(s:bh):∀(l:List cj) (i j:Nat) (c:bH),let r:=foldI gC j (gi u s i l) c;(r.at_,r.high)=foldI (gB u s) i l (c.at_,c.high)
 |[],i,j,c=>rfl
 |x::l,i,j,c=>by
  simp only[gi,foldI]
  have:=CP u s l (i+1) (j+1) (gC j (jl u s i x) c)
  simp only at this
  rw[this]
  congr 1
  unfold gC gB jl
  cases bY c.high (eA u s x)<;>rfl
theorem yI (n:Int):gZ n=some ⟨n,1⟩:=rfl
def de (u:an)(s:bh):Int×au:=match u.az with
 |[]=>(0,⟨0,0⟩)
 |x::l=>foldI (gB u s) 1 l (0,eA u s x)
section
variable {u:an}{s:bh}(F:Fit u)(hs:(1<=s.back/\s.back<=20)/\0<=s.high/\s.high<=60)
include F hs
theorem Js:bM (oW u s) 0 u.az ([]:List bH)=some (.nx (gi u s 0 u.az)):=by
 have hl:=F.az;have:=iT (f:=oW u s) (ρ:=bH) (g:=fun i x st=>st++[jl u s i x]) (I:=fun i st=>st.length=i) u.az 0 [] rfl (fun j x st a b=>?_)
 .rw[this.1,CO];rfl
 .have c:j<u.az.length:=(List.getElem?_eq_some_iff.1 a).1;refine ⟨?_,by simp[b]⟩;unfold oW;rw[Nat.zero_add] at b ⊢;simp only[yI,ai,(CK u F s hs j x a (j:Int)).1];unfold cx;rw[if_pos (by simp;omega)];rfl
theorem CQ:∀(l:List cj) (i:Nat),(∀(j:Nat) x,l[j]?=some x->u.az[i+j]?=some x)->∀(j:Nat) c,(gi u s i l)[j]?=some c->SR c.high
 |[],_,_,j,c,h=>by simp[gi] at h
 |x::l,i,hl,0,c,h=>by
  simp[gi] at h
  subst h
  exact uV u F s hs i x (hl 0 x rfl)
 |x::l,i,hl,j+1,c,h=>CQ l (i+1) (fun j y a=>by have:=hl (j+1) y (by simpa using a);rwa [show i+(j+1)=i+1+j by omega] at this) j c (by simpa [gi] using h)
theorem uW:∃c,ku u s=some c/\(c.at_,c.high)=de u s/\SR c.high/\pM u s=some (de u s):=by
 have hl:=F.az;have o:=Js F hs;obtain ⟨a,rest,he⟩:∃x l,u.az=x::l:=by
  cases h:u.az with
  |nil=>rw[h] at hl;simp at hl
  |cons x l=>exact ⟨x,l,rfl⟩
 have p:u.az[0]?=some a:=by rw[he];rfl
 have q:∀(j:Nat) x,rest[j]?=some x->u.az[1+j]?=some x:=fun j x h=>by rw[he,Nat.add_comm];simpa using h
 have v:rest.length<=4:=by rw[he] at hl;simp at hl;omega
 have r:SR (eA u s a):=uV u F s hs 0 a p
 have hg:=iT (f:=lq g5) (ρ:=bH) (g:=gC) (I:=fun _ c=>SR c.high) (gi u s 1 rest) 0 (jl u s 0 a) r (fun j c st m d=>by
  have b:=CQ F hs rest 1 q j c m;refine ⟨?_,?_⟩
  .unfold lq g5 gC;simp only[(kK d b).2,ai];cases bY st.high c.high<;>rfl
  .unfold gC;cases bY st.high c.high
   .exact d
   .exact b)
 refine ⟨foldI gC 0 (gi u s 1 rest) (jl u s 0 a),?_,?_,hg.2,?_⟩
 .unfold ku;rw[o,he];simp only[ai,aG,gi];rw[show bu (jl u s 0 a::gi u s (0+1) rest) 0=some (jl u s 0 a) from rfl];simp only;have:ja (jl u s 0 a::gi u s (0+1) rest) 1 (((jl u s 0 a::gi u s (0+1) rest).length:Nat):Int)=some (gi u s 1 rest):=by
   unfold ja;rw[if_pos (by simp only[List.length_cons];omega)];simp
  rw[this];simp only;unfold jP;rw[hg.1];rfl
 .have:=CP u s rest 1 0 (jl u s 0 a);simp only at this;rw[this];unfold de;rw[he];rfl
 .unfold pM;have t:=pX (f:=pK u s) (g:=fun i x st=>if i=0 then ((0:Int),eA u s x) else gB u s i x st) (I:=fun i st=>i=0\/SR st.2) (fun st i=>(st.1,i,st.2)) u.az aa (fun i x st e d=>?_) (fun st=>?_) ((0:Int),(⟨0,0⟩:au)) (.inl rfl)
  .rw[t.1,he];simp only[ai,aG,foldI,if_pos];rw[CN (g':=gB u s) rest (0+1) _ (fun j x st m=>if_neg aa)];unfold de;rw[he]
  .have w:i<u.az.length:=(List.getElem?_eq_some_iff.1 e).1;have b:=uV u F s hs i x e;unfold pK;simp only;rw[show decide ((i:Int)<(u.az.length:Int))=true by simp;omega];simp only[cond_true];rw[show bu u.az (i:Int)=some x by unfold bu;rw[if_pos aa];simpa using e];simp only[ai,(CK u F s hs i x e 0).2];have hw:IntKind.i64.wrap ((i:Int)+1)=((i+1:Nat):Int):=by rw[cE aa];rfl
   rw[hw];by_cases k:i=0
   .subst k;exact ⟨rfl,.inr b⟩
   .have n:SR st.2:=d.resolve_left k;rw[show (((i:Nat):Int)==0)=false by simp;omega];simp only[cond_false,(kK n b).1,if_neg k];unfold gB;cases bY st.2 (eA u s x)
    .exact ⟨rfl,.inr n⟩
    .exact ⟨rfl,.inr b⟩
  .unfold pK;simp
end
section
variable {u:an}{s:bh}(F:Fit u)(hs:(1<=s.back/\s.back<=20)/\0<=s.high/\s.high<=60)
include F hs
theorem Jt:Sm (⟨u.cg,1⟩:au) 60 1:=⟨by have:=F.cg;show u.cg.natAbs<=60;omega,by show (0:Int)<1;omega,by show (1:Int)<=((1:Nat):Int);omega⟩
theorem yJ:SR (de u s).2:=by
 obtain ⟨c,d,a,b,e⟩:=uW F hs;rw[<-a];exact b
end
theorem yK {a b c:au}(d:0<a.den)(hb:0<b.den)(h:0<c.den)(e:bY b a=false)(f:bY b c=true):bY c a=false:=by
 unfold bY at*;simp only[decide_eq_false_iff_not,decide_eq_true_eq,Int.not_lt] at*;have k1:a.num*b.den*c.den<=b.num*a.den*c.den:=Int.mul_le_mul_of_nonneg_right e aa;have i:b.num*c.den*a.den<c.num*b.den*a.den:=Int.mul_lt_mul_of_pos_right f d;have g:b.den*(a.num*c.den)<b.den*(c.num*a.den):=by
  have e1:b.den*(a.num*c.den)=a.num*b.den*c.den:=by grind
  have e2:b.den*(c.num*a.den)=c.num*b.den*a.den:=by grind
  have j:b.num*a.den*c.den=b.num*c.den*a.den:=by grind
  omega
 exact Int.le_of_lt (Int.lt_of_mul_lt_mul_left g aa)
theorem gE (a:au):bY a a=false:=by unfold bY;simp
theorem yL {a b:au}(h:bY a b=true):bY b a=false:=by
 unfold bY at*;simp only[decide_eq_false_iff_not,decide_eq_true_eq,Int.not_lt] at*;omega
def yM (u:an)(s:bh)(aU:Int)(e:au):au:=bO (s.high*e.den*(aU+s.back)+(e.num - s.high*e.den)*(u.bZ+s.back)) (e.den*(aU+s.back)).toNat
def ep (u:an)(x:cm):au:=match jQ u x.place with
 |some r=>bO (r.num+x.dK*r.den) r.den.toNat
 |none=>⟨0,0⟩
def fj (u:an)(s:bh)(x:cm):au:=yM u s x.place (ep u x)
section
variable {u:an}{s:bh}(F:Fit u)(hs:(1<=s.back/\s.back<=20)/\0<=s.high/\s.high<=60)
include F hs
theorem yN {i:Nat}{x:cm}(t:u.props[i]?=some x):∃r,jQ u x.place=some r/\nW u x.place=some r/\jM r ⟨x.dK,1⟩=some (ep u x)/\
  iw (IntKind.i64.wrap (r.num+IntKind.i64.wrap (x.dK*r.den))) r.den=some (ep u x)/\(∀at_,lp u s at_ ⟨x.place,ep u x⟩=some ⟨⟨x.place,ep u x⟩,at_,fj u s x⟩)/\lz u s x.place (ep u x)=some (fj u s x)/\SR (fj u s x):=by
 obtain ⟨v,p2,p3⟩:=F.prop i x t
 obtain ⟨a,z,j,k,l,H⟩:=CI u F x.place
 rw[v] at l
 have hb:b7 x.place a.aU z.aU=true:=(Option.some.inj l).symm
 unfold b7 at hb
 simp only[Bool.and_eq_true,decide_eq_true_eq] at hb
 have I:=F.kI _ a j
 have J:=F.kI _ z k
 have K:=F.bZ
 obtain ⟨r,m,w,b⟩:=Jq u F x.place a z j k hb.1 hb.2
 have sh:Sm (⟨x.dK,1⟩:au) 20 1:=⟨by show x.dK.natAbs<=20;omega,by show (0:Int)<1;omega,by show (1:Int)<=((1:Nat):Int);omega⟩
 have L:(x.dK*r.den).natAbs<=20*60:=dZ aa (by have:=b.den;omega)
 obtain ⟨d,hd⟩:∃d:Nat,r.den=d:=⟨r.den.toNat,by have:=b.den;omega⟩
 have o:0<d:=by have:=b.den;omega
 have M:d<=60:=by have:=b.den;omega
 have N:=b.num
 have h:ep u x=bO (r.num+x.dK*r.den) d:=by
  unfold ep
  rw[m]
  simp only
  rw[hd,Int.toNat_natCast]
 have e:Sm (ep u x) 10000 100:=by
  rw[h]
  have:=kJ (r.num+x.dK*r.den) d o
  exact ⟨Nat.le_trans this.num aa,this.den.1,by have:=this.den.2;omega⟩
 have y:=si b sh aD aD
 have p:=pW (r.num+x.dK*r.den) d aa o aa
 have q:∀at_,lp u s at_ ⟨x.place,ep u x⟩=some ⟨⟨x.place,ep u x⟩,at_,fj u s x⟩/\lz u s x.place (ep u x)=some (fj u s x):=fun at_=>by
  obtain ⟨c,c1,c2,c3⟩:=CJ u F s hs at_ x.place ⟨aa,aa⟩ (ep u x) e
  subst c3
  exact ⟨c1,c2⟩
 refine ⟨r,m,w,?_,?_,fun at_=>(q at_).1,(q 0).2,?_⟩
 .rw[y,h]
  show some (bO (r.num*1+x.dK*r.den) (r.den*1).toNat)=_
  rw[Int.mul_one,Int.mul_one,hd,Int.toNat_natCast]
 .rw[eo (n:=x.dK*r.den) aa,eo aa,h]
  rw[hd] at p ⊢
  exact p
 .unfold fj yM
  obtain ⟨f,A⟩:∃f:Nat,x.place+s.back=f:=⟨(x.place+s.back).toNat,aa⟩
  obtain ⟨g,B⟩:∃n:Nat,(ep u x).den=n:=⟨(ep u x).den.toNat,by have:=e.den;omega⟩
  have C:0<g:=by have:=e.den;omega
  have D:g<=100:=by have:=e.den;omega
  have O:=e.num
  have E:(s.high*(ep u x).den).natAbs<=60*100:=dZ aa aa
  have b2:(s.high*(ep u x).den*(x.place+s.back)).natAbs<=6000*80:=dZ E aa
  have b3:(((ep u x).num - s.high*(ep u x).den)*(u.bZ+s.back)).natAbs<=16000*80:=dZ aa aa
  have G:((ep u x).den*(x.place+s.back)).toNat=g*f:=by rw[B,A,<-Int.natCast_mul,Int.toNat_natCast]
  rw[G]
  have:=kJ (s.high*(ep u x).den*(x.place+s.back)+((ep u x).num - s.high*(ep u x).den)*(u.bZ+s.back)) (g*f) (Nat.mul_pos C aa)
  have P:g*f<=100*80:=Nat.mul_le_mul D aa
  exact ⟨Nat.le_trans this.num aa,this.den.1,by have:=this.den.2;omega⟩
end
def same (x:cm)(e:au)(y:bH):Bool:=(y.spot.aU==x.place)&&((y.spot.high.num==e.num)&&(y.spot.high.den==e.den))
def gT (u:an)(s:bh)(i:Nat)(x:cm)(st:List bH):List bH:=cond (st.any (same x (ep u x))) st (st++[⟨⟨x.place,ep u x⟩,(i:Int),fj u s x⟩])
def cP (a b:au):au:=cond (bY a b) b a
def gM (u:an)(s:bh)(i:Nat)(x:cm)(b:au):au:=if i=0 then fj u s x else cP b (fj u s x)
theorem CR (x:cm)(e:au):∀(l:List bH) (i:Nat),bM (ru x e) i l ()=some (cond (l.any (same x e)) (.br 1 ()) (.nx ()):Fl Unit (List bH))
 |[],i=>rfl
 |y::l,i=>by
  unfold bM ru
  rw[show ((y.spot.aU==x.place)&&((y.spot.high.num==e.num)&&(y.spot.high.den==e.den)))=same x e y from rfl,List.any_cons]
  cases same x e y
  .simp only[cond_false,ai,Bool.false_or]
   exact CR x e l (i+1)
  .rfl
theorem sn {a b:au}(c:SR a)(hb:SR b):fh a b=some (cP a b):=by
 unfold fh cP;simp only[(kK c hb).1,ai];cases bY a b<;>rfl
theorem so {a b:au}(c:SR a)(hb:SR b):SR (cP a b):=by unfold cP;cases bY a b;exact c;exact hb
def uX:List bH->au
 |[]=>⟨0,0⟩
 |c::l=>(foldI gC 0 l c).high
theorem CS {α σ:Type}{g:Nat->α->σ->σ}:∀(l:List α) (i:Nat) (y:α) (s:σ),foldI g i (l++[y]) s=g (i+l.length) y (foldI g i l s)
 |[],i,y,s=>rfl
 |x::l,i,y,s=>by
  simp only[List.cons_append,foldI,List.length_cons]
  rw[CS l (i+1) y]
  congr 1
  omega
theorem Ju (c:bH)(l:List bH)(y:bH):uX (c::l++[y])=cP (uX (c::l)) y.high:=by
 show (foldI gC 0 (l++[y]) c).high=_;rw[CS];show (cond (bY (foldI gC 0 l c).high y.high) y (foldI gC 0 l c)).high=cond (bY (foldI gC 0 l c).high y.high) y.high (foldI gC 0 l c).high;cases bY (foldI gC 0 l c).high y.high<;>rfl
structure Tp (u:an)(s:bh)(st:List bH)(b:au):Prop where
 ne:st≠[]
 CU:b=uX st
 sm:SR b
 le:∀y∈st,bY b y.high=false/\SR y.high/\y.high=yM u s y.spot.aU y.spot.high
theorem Tp.step {u:an}{s:bh}{st:List bH}{b:au}(h:Tp u s st b){x:cm}(d:SR (fj u s x))(i:Nat):Tp u s (gT u s i x st) (cP b (fj u s x)):=by
 unfold gT;cases k:st.any (same x (ep u x)) with
 |true=>
  simp only[cond_true];obtain ⟨y,a,f⟩:=List.any_eq_true.1 k;have hl:=h.le y a;have e:y.high=fj u s x:=by
   rw[hl.2.2];unfold same at f;simp only[Bool.and_eq_true,beq_iff_eq] at f;obtain ⟨e1,e2,g⟩:=f;unfold fj;have:y.spot.high=ep u x:=by
    cases m:y.spot.high;cases n:ep u x;rw[m,n] at e2 g;simp only at e2 g;rw[e2,g]
   rw[e1,this]
  have:cP b (fj u s x)=b:=by
   unfold cP;rw[<-e,hl.1];rfl
  rw[this];exact h
 |false=>
  simp only[cond_false];obtain ⟨c,l,rfl⟩:∃c l,st=c::l:=by
   cases st with
   |nil=>exact absurd rfl h.ne
   |cons c l=>exact ⟨c,l,rfl⟩
  refine ⟨av,?_,so h.sm d,fun y a=>?_⟩
  .rw[Ju,<-h.CU]
  .rcases List.mem_append.1 a with a|a
   .have hl:=h.le y a;refine ⟨?_,hl.2⟩;unfold cP;cases j:bY b (fj u s x) with
    |false=>exact hl.1
    |true=>exact yK hl.2.1.den.1 h.sm.den.1 d.den.1 hl.1 j
   .simp at a;subst a;refine ⟨?_,d,rfl⟩;unfold cP;cases j:bY b (fj u s x) with
    |false=>exact j
    |true=>exact gE _
theorem Tp.fold {u:an}{s:bh}:∀(l:List cm) (i:Nat) (st:List bH) (b:au),1<=i->(∀x∈l,SR (fj u s x))->Tp u s st b->Tp u s (foldI (gT u s) i l st) (foldI (gM u s) i l b)
 |[],_,_,_,_,_,h=>h
 |x::l,i,st,b,hi,hl,h=>by
  unfold foldI
  have e:gM u s i x b=cP b (fj u s x):=if_neg aa
  rw[e]
  exact Tp.fold l (i+1) _ _ aa (fun y a=>hl y (List.mem_cons_of_mem _ a)) (h.step (hl x (List.mem_cons_self ..)) i)
theorem Tp.all {u:an}{s:bh}(x:cm)(l:List cm)(hl:∀y∈x::l,SR (fj u s y)):Tp u s (foldI (gT u s) 0 (x::l) []) (foldI (gM u s) 0 (x::l) ⟨0,0⟩):=by
 unfold foldI;have b:=hl x (List.mem_cons_self ..);refine Tp.fold l 1 _ _ (Nat.le_refl _) (fun y a=>hl y (List.mem_cons_of_mem _ a)) ⟨by simp[gT],?_,?_,?_⟩
 .simp[gT,gM,uX,foldI]
 .exact b
 .intro y a;simp[gT] at a;subst a;exact ⟨by simp[gM];exact gE _,b,rfl⟩
section
variable {u:an}{s:bh}(F:Fit u)(hs:(1<=s.back/\s.back<=20)/\0<=s.high/\s.high<=60)
include F hs
theorem Jv:∀x∈u.props,SR (fj u s x):=fun x a=>by
 obtain ⟨i,hi,rfl⟩:=List.getElem_of_mem a
 obtain ⟨r,_,_,_,_,_,_,h⟩:=yN F hs (i:=i) (List.getElem?_eq_getElem hi)
 exact h
theorem Jw:kz u s=some (foldI (gT u s) 0 u.props []):=by
 have hl:=F.props;unfold kz
 have:=iT (f:=ry u s) (ρ:=List bH) (g:=gT u s) (I:=fun i st=>st.length<=i) u.props 0 [] (Nat.le_refl _) (fun j x st a b=>by
  have h:j<u.props.length:=(List.getElem?_eq_some_iff.1 a).1;obtain ⟨r,c,k,d,l,e,m,n⟩:=yN F hs a;rw[Nat.zero_add] at b ⊢;unfold ry;simp only[c,ai,yI,d,CR];unfold gT;cases o:st.any (same x (ep u x)) with
  |true=>exact ⟨rfl,by simp only[cond_true];omega⟩
  |false=>
   simp only[cond_false,aG,ai,e];unfold cx;rw[if_pos (by simp;omega)]
   exact ⟨rfl,by simp;omega⟩)
 rw[this.1];rfl
theorem Jx:kE u s=some (foldI (gM u s) 0 u.props ⟨0,0⟩,decide (0<(u.props.length:Int))):=by
 have hl:=F.props;unfold kE
 have:=pX (f:=pO u s) (g:=gM u s) (I:=fun i b=>i=0\/SR b) (fun b i=>(i,b)) u.props aa (fun i x b c h=>by
  have m:i<u.props.length:=(List.getElem?_eq_some_iff.1 c).1;obtain ⟨r,n,j,o,k,p,l,a⟩:=yN F hs c;unfold pO;simp only;rw[show decide ((i:Int)<(u.props.length:Int))=true by simp;omega];simp only[cond_true];rw[show bu u.props (i:Int)=some x by unfold bu;rw[if_pos aa];simpa using c];have hw:IntKind.i64.wrap ((i:Int)+1)=((i+1:Nat):Int):=by rw[cE aa];rfl
  simp only[ai,j,k,l,hw];unfold gM;by_cases d:i=0
  .subst d;have e:cP (fj u s x) (fj u s x)=fj u s x:=by unfold cP;rw[gE];rfl
   rw[show (((0:Nat):Int)==0)=true from rfl];simp only[cond_true,sn a a,e,if_pos];exact ⟨trivial,.inr a⟩
  .have hb:SR b:=h.resolve_left d;rw[show (((i:Nat):Int)==0)=false by simp;omega];simp only[cond_false,sn hb a,if_neg d]
   exact ⟨trivial,.inr (so hb a)⟩) (fun b=>by unfold pO;simp) (⟨0,0⟩:au) (.inl rfl)
 rw[this.1];rfl
theorem Jy:(u.props=[]/\kz u s=some []/\kE u s=some (⟨0,0⟩,false))\/
  ∃st b,kz u s=some st/\kE u s=some (b,true)/\Tp u s st b:=by
 have a:=Jw F hs
 have c:=Jx F hs
 have d:=Jv F hs
 cases e:u.props with
 |nil=>
  rw[e] at a c
  exact .inl ⟨rfl,a,c⟩
 |cons x l=>
  rw[e] at a c d
  refine .inr ⟨_,_,a,?_,Tp.all x l d⟩
  rw[c]
  rw[show decide (0<((x::l).length:Int))=true by simp]
end
theorem pY {a b c:au}(e:0<a.den)(hb:0<b.den)(f:0<c.den)(d:bY a b=false)(g:bY b c=false):bY a c=false:=by
 cases h:bY a c with
 |false=>rfl
 |true=>
  have:=yK hb e f d h;unfold bY at*;simp only[decide_eq_false_iff_not,decide_eq_true_eq,Int.not_lt] at*;have k1:b.num*a.den*c.den<=a.num*b.den*c.den:=Int.mul_le_mul_of_nonneg_right d aa;have i:a.num*c.den*b.den<c.num*a.den*b.den:=Int.mul_lt_mul_of_pos_right h hb;have j:c.num*b.den*a.den<=b.num*c.den*a.den:=Int.mul_le_mul_of_nonneg_right g aa;have e1:a.num*b.den*c.den=a.num*c.den*b.den:=by grind
  have e2:c.num*b.den*a.den=c.num*a.den*b.den:=by grind
  have k:b.num*c.den*a.den=b.num*a.den*c.den:=by grind
  omega
theorem CV {a b c:au}(d:0<a.den)(hb:0<b.den)(e:0<c.den)(f:bY a b=true)(g:bY b c=true):bY a c=true:=by
 unfold bY at*;simp only[decide_eq_true_eq] at*;have k1:a.num*b.den*c.den<b.num*a.den*c.den:=Int.mul_lt_mul_of_pos_right f e;have i:b.num*c.den*a.den<c.num*b.den*a.den:=Int.mul_lt_mul_of_pos_right g d;have h:b.den*(a.num*c.den)<b.den*(c.num*a.den):=by
  have e1:b.den*(a.num*c.den)=a.num*b.den*c.den:=by grind
  have e2:b.den*(c.num*a.den)=c.num*b.den*a.den:=by grind
  have j:b.num*a.den*c.den=b.num*c.den*a.den:=by grind
  omega
 exact Int.lt_of_mul_lt_mul_left h aa
theorem CW {e y:au}(he:SR e)(a:SR y):∀(l:List bH) (b:au),(∀x∈l,SR x.high)->SR b->∀(i j:Nat),
  foldI (fun _ (x:bH) st=>cP st x.high) i l (cP e b)=cP e (foldI (fun _ (x:bH) st=>cP st x.high) j l b)
 |[],b,_,_,i,j=>rfl
 |x::l,b,hl,hb,i,j=>by
  unfold foldI
  have c:=hl x (List.mem_cons_self ..)
  have key:cP (cP e b) x.high=cP e (cP b x.high):=by
   unfold cP
   cases d:bY e b<;>cases f:bY b x.high<;>simp only[cond_true,cond_false,d,f]
   .have:=pY he.den.1 hb.den.1 c.den.1 d f
    rw[this];rfl
   .rw[CV he.den.1 hb.den.1 c.den.1 d f]
    rfl
  rw[key]
  exact CW he a l _ (fun y a=>hl y (List.mem_cons_of_mem _ a)) (so hb c) (i+1) (j+1)
theorem yO:∀(l:List bH) (i:Nat) (c:bH),(foldI gC i l c).high=foldI (fun _ (x:bH) st=>cP st x.high) i l c.high
 |[],_,_=>rfl
 |x::l,i,c=>by
  unfold foldI
  rw[yO l (i+1)]
  congr 1
  unfold gC cP
  cases bY c.high x.high<;>rfl
theorem CX {a b:au}(c:SR a)(hb:SR b):jh ff a [b]=some (cP a b):=by
 unfold jh bM rm;simp only[(kK c hb).2,ai];unfold cP;cases bY a b<;>rfl
theorem Jz {f:Nat->bH->au->Option (Fl au au)}(c:f=nu\/f=nv){st:List bH}(d:∀x∈st,SR x.high){e:au}(he:SR e):
  bM f 0 st e=some (.nx (foldI (fun _ (x:bH) st=>cP st x.high) 0 st e))/\SR (foldI (fun _ (x:bH) st=>cP st x.high) 0 st e):=
 iT (I:=fun _ r=>SR r) st 0 e he (fun j x r g a=>by
  have b:=d x (List.mem_of_getElem? g)
  rcases c with rfl|rfl
  .unfold nu
   simp only[CX a b,ai]
   exact ⟨trivial,so a b⟩
  .unfold nv
   simp only[CX a b,ai]
   exact ⟨trivial,so a b⟩)
section
variable {u:an}{s:bh}(F:Fit u)(hs:(1<=s.back/\s.back<=20)/\0<=s.high/\s.high<=60)
include F hs
theorem CZ {a b:au}(c:SR a)(hb:SR b):∃d,jN a b=some d/\jT a b=some d/\Sm d 40000000000 64000000:=by
 have e:=yF c hb aD aD aD;have f:=CF c hb aD aD;refine ⟨_,e,f,?_⟩;have g:=dZ c.num (show b.den.natAbs<=8000 by have:=hb.den;omega);have h:=dZ hb.num (show a.den.natAbs<=8000 by have:=c.den;omega);have i:=dZ (show a.den.natAbs<=8000 by have:=c.den;omega) (show b.den.natAbs<=8000 by have:=hb.den;omega);have j:0<a.den*b.den:=Int.mul_pos c.den.1 hb.den.1;have:=kJ (a.num*b.den - b.num*a.den) (a.den*b.den).toNat aa;exact ⟨Nat.le_trans this.num aa,this.den.1,by have:=this.den.2;omega⟩
theorem C0:Sm (⟨0,1⟩:au) 1 1:=⟨aD,aD,aD⟩
theorem C1 {d:au}(hd:Sm d 40000000000 64000000):∃m,jh ff d [⟨0,1⟩]=some m/\fh d ⟨0,1⟩=some m/\Sm m 40000000000 64000000:=by
 have hl:=sk hd (C0 F hs) aD aD;refine ⟨cond (bY d ⟨0,1⟩) ⟨0,1⟩ d,?_,?_,?_⟩
 .unfold jh bM rm;simp only[hl.2,ai];unfold bY;cases decide (d.num*(⟨0,1⟩:au).den<(⟨0,1⟩:au).num*d.den)<;>rfl
 .unfold fh;simp only[hl.1,ai];unfold bY;cases decide (d.num*(⟨0,1⟩:au).den<(⟨0,1⟩:au).num*d.den)<;>rfl
 .cases bY d ⟨0,1⟩
  .exact hd
  .exact (C0 F hs).mono aD aD
theorem C2 {f:Nat->bH->au->Option (Fl au au)}(k:f=nu\/f=nv){e:au}(he:SR e):
  ∃st m,kz u s=some st/\bM f 0 st e=some (.nx m)/\SR m/\((kE u s=some (⟨0,0⟩,false)/\m=e)\/∃b,kE u s=some (b,true)/\fh e b=some m):=by
 rcases Jy F hs with ⟨_,d,g⟩|⟨st,b,d,g,a⟩
 .exact ⟨[],e,d,rfl,he,.inl ⟨g,rfl⟩⟩
 .have h:∀x∈st,SR x.high:=fun x i=>(a.le x i).2.1
  obtain ⟨k1,n⟩:=Jz k h he
  refine ⟨st,_,d,k1,n,.inr ⟨b,g,?_⟩⟩
  rw[sn he a.sm]
  obtain ⟨c,l,rfl⟩:∃c l,st=c::l:=by
   cases st with
   |nil=>exact absurd rfl a.ne
   |cons c l=>exact ⟨c,l,rfl⟩
  have j:=h c (List.mem_cons_self ..)
  have e1:b=foldI (fun _ (x:bH) st=>cP st x.high) 0 l c.high:=by rw[a.CU];exact yO l 0 c
  have e2:=CW he j l c.high (fun x i=>h x (List.mem_cons_of_mem _ i)) j 1 0
  congr 1
  rw[e1,<-e2]
  rfl
theorem JA:∃r,me u s=some r/\rY u s=some r/\Sm r 40000000000 64000000:=by
 obtain ⟨c,j,k,g,l⟩:=uW F hs;have e2:c.high=(de u s).2:=by rw[<-k]
 have p:SR (⟨u.cg,1⟩:au):=(Jt F hs).mono aD aD;unfold me rY;rw[j,l];simp only[ai,yI,<-e2,(kK g p).1,(kK g p).2];cases bY c.high ⟨u.cg,1⟩ with
 |true=>
  simp only[cond_true];obtain ⟨st,m,t1,t2,t3,t4⟩:=C2 F hs (.inl rfl) (f:=nu) g;obtain ⟨d,d1,d2,d3⟩:=CZ F hs p t3;obtain ⟨z,h,a,e⟩:=C1 F hs d3;simp only[t1,t2,aG,d1,h];rcases t4 with ⟨k1,rfl⟩|⟨b,k1,i⟩
  .simp only[k1,cond_false,d2,a];exact ⟨z,rfl,rfl,e⟩
  .simp only[k1,cond_true,i,d2,a];exact ⟨z,rfl,rfl,e⟩
 |false=>
  simp only[cond_false];obtain ⟨st,m,t1,t2,t3,t4⟩:=C2 F hs (.inr rfl) (f:=nv) p;obtain ⟨d,d1,d2,d3⟩:=CZ F hs g t3;obtain ⟨z,h,a,e⟩:=C1 F hs d3;simp only[t1,t2,aG,d1,h];rcases t4 with ⟨k1,rfl⟩|⟨b,k1,i⟩
  .simp only[k1,cond_false,d2,a];exact ⟨z,rfl,rfl,e⟩
  .simp only[k1,cond_true,i,d2,a];exact ⟨z,rfl,rfl,e⟩
theorem JB:∃b,g6 u s=some b/\mo u s=some b:=by
 obtain ⟨r,a,c,d⟩:=JA F hs;have e:Sm u.bp 20 20:=⟨by have:=F.num;omega,by have:=F.den;omega,by have:=F.den;omega⟩
 have hl:=sk e d aD aD;unfold g6 mo;simp only[a,c,hl.1,hl.2,ai];exact ⟨_,rfl,rfl⟩
end
theorem C3 {a b c:au}(d:0<a.den)(hb:0<b.den)(e:0<c.den)(f:bY b a=false)(g:bY b c=true):bY a c=true:=by
 cases h:bY a c with
 |true=>rfl
 |false=>
  have:=pY hb d e f h;rw[g] at this;cases this
section
variable {u:an}{s:bh}(F:Fit u)(hs:(1<=s.back/\s.back<=20)/\0<=s.high/\s.high<=60)
include F hs
structure yP (u:an)(s:bh)(i:Nat)(st:Int×au):Prop where
 there:∃(n:Nat) (p:cj),n<i/\st=((n:Int),eA u s p)/\u.az[n]?=some p/\∀(j:Nat) q,j<n->u.az[j]?=some q->bY (eA u s q) (eA u s p)=true
 Ta:∀(j:Nat) q,j<i->u.az[j]?=some q->bY st.2 (eA u s q)=false
theorem C4:∀(l:List cj) (i:Nat) (st:Int×au),(∀(j:Nat) x,l[j]?=some x->u.az[i+j]?=some x)->yP u s i st->yP u s (i+l.length) (foldI (gB u s) i l st)
 |[],i,st,_,h=>h
 |x::l,i,st,hl,h=>by
  have b:u.az[i]?=some x:=hl 0 x rfl
  have hd:∀(j:Nat) q,u.az[j]?=some q->0<(eA u s q).den:=fun j q a=>(uV u F s hs j q a).den.1
  unfold foldI
  have key:yP u s (i+1) (gB u s i x st):=by
   obtain ⟨⟨n,p,m,e,d,g⟩,hm⟩:=h
   subst e
   unfold gB
   cases c:bY (eA u s p) (eA u s x) with
   |true=>
    simp only[c,cond_true]
    refine ⟨⟨i,x,aa,rfl,b,fun j q f a=>?_⟩,fun j q f a=>?_⟩
    .exact C3 (hd j q a) (hd n p d) (hd i x b) (hm j q f a) c
    .by_cases e:j=i
     .subst e;rw[b] at a;cases a;exact gE _
     .exact yL (C3 (hd j q a) (hd n p d) (hd i x b) (hm j q aa a) c)
   |false=>
    simp only[c,cond_false]
    refine ⟨⟨n,p,aa,rfl,d,g⟩,fun j q f a=>?_⟩
    by_cases e:j=i
    .subst e;rw[b] at a;cases a;exact c
    .exact hm j q aa a
  have:=C4 l (i+1) _ (fun j y k=>by have:=hl (j+1) y (by simpa using k);rwa [show i+(j+1)=i+1+j by omega] at this) key
  rwa [show i+1+l.length=i+(x::l).length by simp;omega] at this
theorem JC:∃(n:Nat) (p:cj),de u s=((n:Int),eA u s p)/\u.az[n]?=some p/\(∀(j:Nat) q,u.az[j]?=some q->bY (eA u s p) (eA u s q)=false)/\∀(j:Nat) q,j<n->u.az[j]?=some q->bY (eA u s q) (eA u s p)=true:=by
 have hl:=F.az;cases he:u.az with
 |nil=>rw[he] at hl;simp at hl
 |cons x l=>
  have c:u.az[0]?=some x:=by rw[he];rfl
  have hb:=C4 F hs l 1 (0,eA u s x) (fun j y d=>by rw[he,Nat.add_comm];simpa using d)
   ⟨⟨0,x,aa,rfl,c,fun j q b=>absurd b aa⟩,fun j q b a=>by
    obtain rfl:j=0:=aa
    rw[c] at a;cases a;exact gE _⟩
  have ev:de u s=foldI (gB u s) 1 l (0,eA u s x):=by unfold de;rw[he]
  obtain ⟨⟨n,p,h,e,f,g⟩,hm⟩:=hb;rw[e] at hm ev;refine ⟨n,p,ev,by rw[<-he];exact f,fun j q a=>?_,fun j q b a=>g j q b (by rw[he];exact a)⟩;refine hm j q ?_ (by rw[he];exact a);have:=(List.getElem?_eq_some_iff.1 a).1;simp at this;omega
end
theorem C5 (n:Int)(d:Nat)(hd:0<d):bO (bO n d).num (bO n d).den.toNat=bO n d:=by
 obtain ⟨a,b⟩:=yH n d hd;refine yG aa hd ?_;rw[show (((bO n d).den.toNat:Nat):Int)=(bO n d).den by omega];exact a
theorem C6 {u:an}(F:Fit u):∀(n i:Nat) (x y:cj),u.az[i]?=some x->u.az[i+1+n]?=some y->x.aU<y.aU
 |0,i,x,y,b,a=>F.oa i x y b a
 |n+1,i,x,y,b,a=>by
  have c:i+1+(n+1)<u.az.length:=(List.getElem?_eq_some_iff.1 a).1
  have hm:u.az[i+1+n]?=some (u.az[i+1+n]'aa):=List.getElem?_eq_getElem _
  have d:=C6 F n i x _ b hm
  have e:=F.oa _ _ y hm (by rw[<-a];congr 1)
  omega
def hH (a b:au):au:=bO (a.num*b.den - b.num*a.den) (a.den*b.den).toNat
def wp (u:an)(P:List cm):an:=⟨u.bZ,u.cg,u.bp,u.az,P,u.aK,u.told⟩
theorem JD {u:an}(F:Fit u){P:List cm}(hl:P.length<=3)(h:∀x,x∈P->fW u x.place=some true/\1<=x.dK/\x.dK<=20):Fit (wp u P):=
 ⟨F.bZ,F.cg,F.den,F.num,F.az,F.kI,F.oa,hl,fun i x a=>h x (List.mem_of_getElem? a),F.aK,F.bA,F.told,F.uS⟩
def iA {α ρ:Type}(t:Nat->α->Option ρ):Nat->List α->Option ρ
 |_,[]=>none
 |i,x::l=>match t i x with
  |some r=>some r
  |none=>iA t (i+1) l
def lC {σ ρ:Type}(o:Option ρ)(s:σ):Fl σ ρ:=match o with
 |some r=>.rt r
 |none=>.nx s
theorem uY {α σ ρ:Type}{f:Nat->α->σ->Option (Fl σ ρ)}{t:Nat->α->Option ρ}:∀(l:List α) (i:Nat) (s:σ),(∀j x s,l[j]?=some x->f (i+j) x s=some (lC (t (i+j) x) s))->bM f i l s=some (lC (iA t i l) s)
 |[],i,s,_=>rfl
 |x::l,i,s,h=>by
  have a:=h 0 x s rfl
  simp only[Nat.add_zero] at a
  unfold bM iA
  rw[a]
  cases ht:t i x with
  |some r=>rfl
  |none=>
   show bM f (i+1) l s=_
   exact uY l (i+1) s fun j y s b=>by
    have:=h (j+1) y s (by simpa using b)
    rwa [show i+(j+1)=i+1+j by omega] at this
theorem C7 {α σ ρ:Type}{f:σ×Int->Option (Fl (σ×Int) ρ)}{t:Nat->α->Option ρ}(l:List α)(h:∀(i:Nat) x s,l[i]?=some x->f (s,(i:Int))=some (lC (t i x) (s,((i+1:Nat):Int))))(a:∀s,f (s,(l.length:Int))=some (.bk (s,(l.length:Int)))):
  ∀(k i n:Nat) (s:σ),i+k=l.length->k<n->aS f n (s,(i:Int))=some (lC (iA t i (l.drop i)) (s,(l.length:Int)))
 |0,i,n+1,s,hi,_=>by
  obtain rfl:i=l.length:=aa
  unfold aS
  rw[a,List.drop_length]
  rfl
 |k+1,i,n+1,s,hi,d=>by
  have b:i<l.length:=aa
  have c:l[i]?=some l[i]:=List.getElem?_eq_getElem b
  unfold aS
  rw[h i _ s c,List.drop_eq_getElem_cons b]
  unfold iA
  cases ht:t i l[i] with
  |some r=>rfl
  |none=>exact C7 l h a k (i+1) n s aa aa
theorem yQ {α σ ρ:Type}{f:σ×Int->Option (Fl (σ×Int) ρ)}{t:Nat->α->Option ρ}(l:List α)(hl:l.length<=1000)(h:∀(i:Nat) x s,l[i]?=some x->f (s,(i:Int))=some (lC (t i x) (s,((i+1:Nat):Int))))(a:∀s,f (s,(l.length:Int))=some (.bk (s,(l.length:Int))))(s:σ):
  aS f fu (s,0)=some (lC (iA t 0 l) (s,(l.length:Int))):=by
 have:=C7 l h a l.length 0 fu s aa (Nat.lt_of_le_of_lt hl aD)
 simpa using this
theorem C8 {α ρ:Type}{g:α->Bool}{r:ρ}:∀(l:List α) (i:Nat),iA (fun _ x=>if g x then none else some r) i l=if l.all g then none else some r
 |[],_=>rfl
 |x::l,i=>by
  unfold iA
  cases h:g x with
  |false=>simp[h]
  |true=>
   simp only[h,if_true,List.all_cons,Bool.true_and]
   exact C8 l (i+1)
theorem uZ {α:Type}{g:α->Bool}:∀(l:List α) (i:Nat),∃r,iA (fun i x=>if g x then some (i:Int) else none) i l=r/\decide (0<=r.getD (-1))=l.any g
 |[],_=>⟨none,rfl,rfl⟩
 |x::l,i=>by
  unfold iA
  cases h:g x with
  |true=>exact ⟨_,rfl,by simp[h]⟩
  |false=>
   obtain ⟨r,a,b⟩:=uZ l (i+1) (g:=g)
   exact ⟨r,by simpa using a,by simpa [h] using b⟩
theorem eB {α:Type}{l:List α}{i:Nat}{x:α}(h:l[i]?=some x):bu l (i:Int)=some x:=by
 unfold bu;rw[if_pos aa];simpa using h
theorem yR {α:Type}{l:List α}{i:Int}{x:α}(a:0<=i)(h:l[i.toNat]?=some x):bu l i=some x:=by
 unfold bu;rw[if_pos a,h]
theorem contains_eq {f:cn->Option Bool}{g:cn->Bool}(l:List cn)(h:∀x,x∈l->f x=some (g x)):rD l f=some (l.any g):=by
 unfold rD tV
 rw[uY (t:=fun i x=>if g x then some (i:Int) else none) l 0 0 fun j x s a=>by
  unfold tU;rw[h x (List.mem_of_getElem? a)]
  cases g x<;>rfl]
 obtain ⟨r,b,c⟩:=uZ (g:=g) l 0;rw[b,<-c];cases r<;>rfl
def fH (u:an)(s:bh):Bool:=(g6 u s).getD false
theorem u5 {u:an}(F:Fit u){s:bh}(hs:(1<=s.back/\s.back<=20)/\0<=s.high/\s.high<=60):g6 u s=some (fH u s)/\mo u s=some (fH u s):=by
 obtain ⟨b,a,c⟩:=JB F hs;have e:fH u s=b:=by unfold fH;rw[a];rfl
 rw[e];exact ⟨a,c⟩
def bT (u:an)(i:Nat)(n:Int):bh:=⟨(u.aK[i]?.map (·.back)).getD 0,n⟩
structure pZ (u:an)(h:List Int):Prop where
 len:h.length=u.aK.length
 u6:∀(i:Nat) e,u.aK[i]?=some e->∃n,h[i]?=some n/\e.high.low<=n/\n<=e.high.high
def lD (u:an)(h:List Int)(t:cn):Bool:=fH u (bT u t.bA.toNat (h[t.bA.toNat]?.getD 0))==t.bI
def gF (u:an)(h:List Int):Bool:=u.told.all (lD u h)
theorem yS {u:an}{h:List Int}(H:pZ u h){i:Int}(f:0<=i)(g:i<u.aK.length)(F:Fit u):∃e n,u.aK[i.toNat]?=some e/\h[i.toNat]?=some n/\bT u i.toNat n=⟨e.back,n⟩/\(1<=e.back/\e.back<=20)/\0<=n/\n<=60:=by
 have c:u.aK[i.toNat]?=some (u.aK[i.toNat]'aa):=List.getElem?_eq_getElem _;obtain ⟨n,d,a,b⟩:=H.u6 _ _ c;obtain ⟨c1,c2,c3,c4,j⟩:=F.bA _ _ c;refine ⟨_,n,c,d,?_,c1,aa,aa⟩;unfold bT;rw[c];rfl
theorem JE {u:an}(F:Fit u){h:List Int}(H:pZ u h):pP u h=some (gF u h):=by
 unfold pP;rw[yQ (t:=fun _ x=>if lD u h x then none else some false) u.told (by have:=F.told;omega) (s:=false) (fun i x s c=>?_) (fun s=>?_)]
 .rw[C8];unfold gF;cases u.told.all (lD u h)<;>rfl
 .obtain ⟨a,b⟩:=F.uS i x c;obtain ⟨e,n,f,d,g,j,k⟩:=yS H a b F;have l:i<u.told.length:=(List.getElem?_eq_some_iff.1 c).1;have ht:=F.told;unfold rZ lA;rw[show decide (((i:Nat):Int)<(u.told.length:Int))=true by simp;omega];simp only[cond_true,eB c,ai,yR a f,yR a d,(u5 F (s:=⟨e.back,n⟩) ⟨j,k⟩).2];rw[cE (n:=(i:Int)+1) aa];unfold lD;rw[d];show _=some (lC (if fH u (bT u x.bA.toNat n)==x.bI then none else some false) (s,((i+1:Nat):Int)));rw[g];cases fH u ⟨e.back,n⟩==x.bI<;>rfl
 .unfold rZ;rw[show decide ((u.told.length:Int)<(u.told.length:Int))=false by simp];rfl
def dV (l:List Int):bD:=⟨l[0]?.getD 0,l[1]?.getD 0,l[2]?.getD 0⟩
theorem yT {l:List Int}{i:Int}{n:Int}(a:0<=i)(b:i<3)(h:l[i.toNat]?=some n):bD.get (dV l) i=some n:=by
 unfold bD.get dV;rcases (show i=0\/i=1\/i=2 by omega) with rfl|rfl|rfl<;>simp at h<;>simp[h]
theorem JG {u:an}(F:Fit u){h:List Int}(H:pZ u h):oY u (dV h)=some (gF u h):=by
 unfold oY
 rw[contains_eq (g:=fun t=>!lD u h t) u.told fun x d=>by
  obtain ⟨i,hi⟩:=List.mem_iff_getElem?.1 d;obtain ⟨a,b⟩:=F.uS i x hi;obtain ⟨e,n,f,c,j,k,l⟩:=yS H a b F;have:=F.aK;unfold rE jO;simp only[yT a aa c,ai,yR a f,(u5 F (s:=⟨e.back,n⟩) ⟨k,l⟩).1];unfold lD;rw[c];show _=some (!(fH u (bT u x.bA.toNat n)==x.bI))
  rw[j]]
 simp only[ai];unfold gF;rw[show (u.told.any fun t=>!lD u h t)=!(u.told.all (lD u h)) by rw[List.all_eq_not_any_not];simp];simp
def cY (b:dI):List Int:=(List.range (b.high - b.low+1).toNat).map fun k=>b.low+(k:Nat)
theorem JH {b:dI}{i:Nat}{x:Int}(h:(cY b)[i]?=some x):x=b.low+i/\b.low+i<=b.high:=by
 unfold cY at h;rw[List.getElem?_map,Option.map_eq_some_iff] at h;obtain ⟨k,hk,rfl⟩:=h;obtain ⟨c,a⟩:=List.getElem?_eq_some_iff.1 hk;simp at c a;subst a;exact ⟨rfl,aa⟩
theorem lE (b:dI):(cY b).length=(b.high - b.low+1).toNat:=by simp[cY]
theorem sr {b:dI}{x:Int}:x∈cY b↔b.low<=x/\x<=b.high:=by
 unfold cY;rw[List.mem_map];constructor
 .rintro ⟨k,hk,rfl⟩;rw[List.mem_range] at hk;omega
 .rintro ⟨a,c⟩;exact ⟨(x - b.low).toNat,by rw[List.mem_range];omega,aa⟩
def lF (b:dI)(all:List (List Int)):List (List Int):=all.flatMap fun p=>(cY b).map fun n=>p++[n]
def e5 (p:List Int):List cA->List (List Int)
 |[]=>[p]
 |e::l=>(cY e.high).flatMap fun n=>e5 (p++[n]) l
def b6 (u:an):List (List Int):=(e5 [] u.aK).filter (gF u)
theorem p5 {α β:Type}(g:α->List β):∀(l:List α) (i:Nat) (s:List β),foldI (fun _ x s=>s++g x) i l s=s++l.flatMap g
 |[],_,s=>by simp[foldI]
 |x::l,i,s=>by
  unfold foldI
  rw[p5 g l]
  simp[List.flatMap_cons]
theorem C9:∀(l:List cA) (i:Nat) (all:List (List Int)),foldI (fun _ (e:cA) all=>lF e.high all) i l all=all.flatMap fun p=>e5 p l
 |[],_,all=>by
  unfold foldI
  show all=all.flatMap fun p=>[p]
  induction all with
  |nil=>rfl
  |cons a l ih=>rw[List.flatMap_cons,<-ih];rfl
 |e::l,i,all=>by
  unfold foldI
  rw[C9 l]
  unfold lF
  rw[List.flatMap_assoc]
  congr 1
  funext p
  rw[List.flatMap_map]
  rfl
theorem Da:∀(l:List cA) (p h:List Int),h∈e5 p l->h.length=p.length+l.length/\(∀(j:Nat) e,l[j]?=some e->∃n,h[p.length+j]?=some n/\e.high.low<=n/\n<=e.high.high)/\∀j,j<p.length->h[j]?=p[j]?
 |[],p,h,hm=>by
  simp only[e5,List.mem_singleton] at hm
  subst hm
  exact ⟨rfl,fun j e he=>by simp at he,fun _ _=>rfl⟩
 |e::l,p,h,hm=>by
  unfold e5 at hm
  rw[List.mem_flatMap] at hm
  obtain ⟨n,d,hm⟩:=hm
  obtain ⟨f,c,a⟩:=Da l _ _ hm
  rw[List.length_append,List.length_singleton] at f c a
  refine ⟨by simp;omega,fun j x b=>?_,fun j g=>?_⟩
  .cases j with
   |zero=>
    simp at b;subst b
    refine ⟨n,?_,sr.1 d⟩
    rw[Nat.add_zero,a _ aa,List.getElem?_append_right (Nat.le_refl _)]
    simp
   |succ j=>
    obtain ⟨m,hm,hb⟩:=c j x (by simpa using b)
    exact ⟨m,by rw[<-hm];congr 1;omega,hb⟩
  .rw[a j aa,List.getElem?_append_left g]
theorem yU {u:an}{h:List Int}(hm:h∈e5 [] u.aK):pZ u h:=by
 obtain ⟨a,b,_⟩:=Da _ _ _ hm;exact ⟨by simpa using a,fun i e he=>by simpa using b i e he⟩
theorem Db {b:dI}(hb:b.high - b.low<3):∀(all:List (List Int)),(lF b all).length<=all.length*3
 |[]=>by simp[lF]
 |p::all=>by
  have:=Db hb all
  unfold lF at this ⊢
  rw[List.flatMap_cons,List.length_append,List.length_map,lE,List.length_cons]
  omega
theorem fl {α:Type}{l xs:List α}(h:l.length+xs.length<=1000000):cx l xs=some (l++xs):=by
 unfold cx;rw[if_pos h]
theorem JI {all:List (List Int)}{k:Nat}{p:List Int}{e:cA}(hk:all[k]?=some p)(c:p.length<=100)(he:0<=e.high.low/\e.high.low<=e.high.high/\e.high.high<=60/\e.high.high - e.high.low<3)(s:List (List Int))(hs:s.length<=1000):
  aS (nZ all (k:Int) e) fu (s,e.high.low)=some (.nx (s++(cY e.high).map (fun n=>p++[n]),e.high.high+1)):=by
 have key:=pX (f:=nZ all (k:Int) e) (g:=fun _ x s=>s++[p++[x]]) (I:=fun i s=>s.length<=1000+i) (fun s i=>(s,e.high.low+i)) (cY e.high) (by rw[lE];omega)
  (fun i x s b d=>by
   obtain ⟨rfl,hb⟩:=JH b
   refine ⟨?_,by simp;omega⟩
   unfold nZ
   rw[show decide ((s,e.high.low+(i:Int)).2<=e.high.high)=true by simpa using hb]
   simp only[cond_true,eB hk,ai,fl (l:=([]:List Int)) (xs:=p) (by simp;omega),List.nil_append,fl (l:=p) (xs:=[e.high.low+(i:Int)]) (by simp;omega),fl (l:=s) (xs:=[p++[e.high.low+(i:Int)]]) (by simp;omega)]
   rw[cE (n:=e.high.low+(i:Int)+1) aa]
   simp;omega)
  (fun s=>by
   unfold nZ
   rw[show decide ((s,e.high.low+((cY e.high).length:Int)).2<=e.high.high)=false by rw[lE];simp;omega]
   rfl) s aa
 have:=key.1
 rw[p5 (fun x=>[p++[x]])] at this
 simp only[Int.add_zero] at this
 rw[this]
 congr 2
 refine Prod.ext ?_ ?_
 .simp only[List.append_cancel_left_eq]
  induction cY e.high with
  |nil=>rfl
  |cons a l ih=>simp[ih]
 .simp only[lE];omega
theorem JJ {u:an}{all:List (List Int)}{i:Nat}{e:cA}(hi:u.aK[i]?=some e)(a:∀p∈all,p.length<=100)(hl:all.length<=100)(he:0<=e.high.low/\e.high.low<=e.high.high/\e.high.high<=60/\e.high.high - e.high.low<3):
  aS (n4 u all (i:Int)) fu (([]:List (List Int)),0)=some (.nx (lF e.high all,(all.length:Int))):=by
 have key:=pX (f:=n4 u all (i:Int)) (g:=fun _ p s=>s++(cY e.high).map fun n=>p++[n]) (I:=fun i s=>s.length<=3*i/\i<=all.length) (fun s i=>(s,i)) all aa
  (fun k p s hk b=>by
   have c:k<all.length:=(List.getElem?_eq_some_iff.1 hk).1
   refine ⟨?_,by simp[lE];omega,aa⟩
   unfold n4
   rw[show decide ((s,(k:Int)).2<(all.length:Int))=true by simp;omega]
   simp only[cond_true,eB hi,ai,JI hk (a p (List.mem_of_getElem? hk)) he s aa,aG]
   rw[cE (n:=(k:Int)+1) aa]
   rfl)
  (fun s=>by
   unfold n4
   rw[show decide ((s,(all.length:Int)).2<(all.length:Int))=false by simp]
   rfl) ([]:List (List Int)) ⟨av,aa⟩
 have:=key.1
 rw[p5 (fun p=>(cY e.high).map fun n=>p++[n])] at this
 simpa [lF] using this
theorem Dc {u:an}:∀(l:List (List Int)) (i:Nat) (s:List (List Int)),foldI (fun _ x s=>if gF u x then s++[x] else s) i l s=s++l.filter (gF u)
 |[],_,s=>by simp[foldI]
 |x::l,i,s=>by
  unfold foldI
  rw[Dc l]
  cases h:gF u x<;>simp[h]
theorem three (i:Nat)(h:i<=3):3 ^ i<=27:=by
 rcases (show i=0\/i=1\/i=2\/i=3 by omega) with rfl|rfl|rfl|rfl<;>decide
theorem su {u:an}(F:Fit u):r4 u=some (b6 u)/\(b6 u).length<=27:=by
 have r:=F.aK;have key:=pX (f:=pS u) (g:=fun _ (e:cA) all=>lF e.high all) (I:=fun i all=>(∀p∈all,p.length=i)/\all.length<=3 ^ i/\i<=u.aK.length) (fun s i=>(s,i)) u.aK aa
  (fun i e all hi c=>by
   obtain ⟨d,t,v⟩:=c;have k:i<u.aK.length:=(List.getElem?_eq_some_iff.1 hi).1;have he:=(F.bA i e hi).2;have w:=three i aa;have hs:=Db he.2.2.2 all;refine ⟨?_,fun p a=>?_,by rw[Nat.pow_succ];omega,aa⟩
   .unfold pS;rw[show decide ((all,(i:Int)).2<(u.aK.length:Int))=true by simp;omega];simp only[cond_true,JJ hi (fun p a=>by have:=d p a;omega) aa he,ai,aG];rw[cE (n:=(i:Int)+1) aa];rfl
   .unfold lF at a;rw[List.mem_flatMap] at a;obtain ⟨q,m,a⟩:=a;rw[List.mem_map] at a;obtain ⟨n,_,rfl⟩:=a
    simp[d q m])
  (fun s=>by
   unfold pS;rw[show decide ((s,(u.aK.length:Int)).2<(u.aK.length:Int))=false by simp]
   rfl) [[]] ⟨av,av,aa⟩
 obtain ⟨k1,b⟩:=key;rw[C9] at k1 b;simp only[List.flatMap_cons,List.flatMap_nil,List.append_nil] at k1 b;have hlen:(e5 [] u.aK).length<=27:=Nat.le_trans b.2.1 (three _ aa);have j:=pX (f:=uO u (e5 [] u.aK)) (g:=fun _ x s=>if gF u x then s++[x] else s) (I:=fun i s=>s.length<=i/\i<=(e5 [] u.aK).length) (fun s i=>(s,i)) (e5 [] u.aK) aa
  (fun i h s hi c=>by
   have k:i<(e5 [] u.aK).length:=(List.getElem?_eq_some_iff.1 hi).1;have o:=JE F (yU (List.mem_of_getElem? hi));refine ⟨?_,by cases gF u h<;>simp<;>omega,aa⟩;unfold uO;rw[show decide ((s,(i:Int)).2<((e5 [] u.aK).length:Int))=true by simp;omega];simp only[cond_true,eB hi,ai,o];rw[cE (n:=(i:Int)+1) aa];cases gF u h with
   |false=>rfl
   |true=>simp only[cond_true,fl (l:=s) (xs:=[h]) (by simp;omega)];rfl)
  (fun s=>by
   unfold uO;rw[show decide ((s,((e5 [] u.aK).length:Int)).2<((e5 [] u.aK).length:Int))=false by simp]
   rfl) ([]:List (List Int)) ⟨av,aa⟩
 rw[Dc] at j;refine ⟨?_,Nat.le_trans (List.length_filter_le _ _) hlen⟩;unfold r4;rw[k1];simp only[ai,aG];rw[j.1];simp only[List.nil_append];rfl
def co (h:bD)(j:Nat):Int:=if j=0 then h.e0 else if j=1 then h.e1 else if j=2 then h.e2 else 0
theorem JK (h:bD){j:Nat}(d:j<3)(n:Int):∃a,h.setAt (j:Int) n=some a/\∀i,co a i=if i=j then n else co h i:=by
 rcases (show j=0\/j=1\/j=2 by omega) with rfl|rfl|rfl
 .refine ⟨{h with e0:=n},rfl,fun i=>?_⟩;unfold co;split<;>rfl
 .refine ⟨{h with e1:=n},rfl,fun i=>?_⟩;unfold co;by_cases b:i=0<;>by_cases a:i=1<;>simp[b,a]<;>omega
 .refine ⟨{h with e2:=n},rfl,fun i=>?_⟩;unfold co;by_cases b:i=0<;>by_cases a:i=1<;>by_cases c:i=2<;>simp[b,a,c]<;>omega
structure Ag (u:an)(p:List Int)(h:bD):Prop where
 at_:∀(j:Nat) n,p[j]?=some n->co h j=n
 no:∀j,u.aK.length<=j->co h j=0
theorem Ag.dV {u:an}{p:List Int}{h:bD}(H:Ag u p h)(a:p.length=u.aK.length):h=dV p:=by
 have key:∀j,co h j=p[j]?.getD 0:=fun j=>by
  cases e:p[j]? with
  |some n=>exact H.at_ j n e
  |none=>exact H.no j (by rw[<-a];exact List.getElem?_eq_none_iff.1 e)
 have b:=key 0;have k1:=key 1;have c:=key 2;cases h;unfold Go.Proofs.YtbpddfapodiemaaGreatDoor.dV;rw[<-b,<-k1,<-c];rfl
theorem Ag.set {u:an}{p:List Int}{h:bD}(H:Ag u p h)(c:p.length<u.aK.length)(d:u.aK.length<=3)(n:Int):∃a,h.setAt (p.length:Int) n=some a/\Ag u (p++[n]) a:=by
 obtain ⟨a,e1,e2⟩:=JK h (j:=p.length) aa n;refine ⟨a,e1,fun j m hm=>?_,fun j b=>?_⟩
 .rw[e2];by_cases e:j=p.length
  .subst e;rw[if_pos rfl];simpa using hm
  .rw[if_neg e];refine H.at_ j m ?_;rw[<-hm,List.getElem?_append_left];have:=(List.getElem?_eq_some_iff.1 hm).1;simp at this;omega
 .rw[e2,if_neg aa];exact H.no j b
theorem Ag.cut {u:an}{p:List Int}{n:Int}{h:bD}(H:Ag u (p++[n]) h):Ag u p h:=
 ⟨fun j m hm=>H.at_ j m (by rw[List.getElem?_append_left (List.getElem?_eq_some_iff.1 hm).1];exact hm),H.no⟩
theorem sw {a b:Int}(h:a<=b):cY ⟨a,b⟩=a::cY ⟨a+1,b⟩:=by
 unfold cY;simp only;rw[show (b - a+1).toNat=(b - (a+1)+1).toNat+1 by omega,List.range_succ_eq_map];simp only[List.map_cons,List.map_map,Function.comp_def];congr 1
 .simp
 .apply List.map_congr_left;intro k _;simp only[Nat.succ_eq_add_one];omega
theorem p6 {a b:Int}(h:¬a<=b):cY ⟨a,b⟩=[]:=by
 unfold cY;simp only;rw[show (b - a+1).toNat=0 by omega];rfl
theorem Dd {u:an}{p:List Int}(a:p.length<u.aK.length)(b:u.aK.length<=3){f:bD->List (Option bD)×bD}{G:Int->List (Option bD)}{lo hi:Int}(hb:0<=lo/\hi<=60)
  (d:∀n,lo<=n->n<=hi->∀h,Ag u (p++[n]) h->(f h).1=G n/\Ag u (p++[n]) (f h).2):
  ∀(k:Nat) (n:Int) (h:bD),Ag u p h->lo<=n->n<=61->61 - n<k->(jR f (p.length:Int) hi k n h).1=(cY ⟨n,hi⟩).flatMap G/\Ag u p (jR f (p.length:Int) hi k n h).2
 |0,n,h,H,e,g,i=>by omega
 |k+1,n,h,H,e,g,i=>by
  unfold jR
  by_cases c:n<=hi
  .rw[if_pos c,sw c]
   obtain ⟨x,e1,e2⟩:=H.set a b n
   rw[e1]
   obtain ⟨j,l⟩:=d n e c x e2
   have w:IntKind.i64.wrap (n+1)=n+1:=cE aa
   obtain ⟨r1,r2⟩:=Dd a b hb d k (n+1) (f x).2 l.cut aa aa aa
   simp only[w]
   exact ⟨by rw[j,r1,List.flatMap_cons],r2⟩
  .rw[if_neg c,p6 c]
   exact ⟨rfl,H⟩
theorem De {u:an}(F:Fit u):∀(l:List cA) (p:List Int) (fuel:Nat) (h:bD),u.aK.drop p.length=l->p.length+l.length=u.aK.length->l.length<fuel->
  (∀(j:Nat) e,u.aK[j]?=some e->j<p.length->∃n,p[j]?=some n/\e.high.low<=n/\n<=e.high.high)->Ag u p h->
  (fF u fuel (p.length:Int) h).1=((e5 p l).filter (gF u)).map (fun x=>some (dV x))/\Ag u p (fF u fuel (p.length:Int) h).2
 |l,p,0,h,hd,hl,a,hb,H=>by omega
 |[],p,fuel+1,h,hd,hl,a,hb,H=>by
  have hl:p.length=u.aK.length:=by simpa using hl
  unfold fF
  rw[if_pos aa]
  obtain rfl:=H.dV hl
  have R:=JG F (h:=p) ⟨hl,fun i e he=>hb i e he (by have:=(List.getElem?_eq_some_iff.1 he).1;omega)⟩
  refine ⟨?_,H⟩
  rw[R]
  unfold e5
  cases e:gF u p<;>simp[e]
 |e::l,p,fuel+1,h,hd,hl,a,hb,H=>by
  simp only[List.length_cons] at hl a
  have he:u.aK[p.length]?=some e:=by
   have:=congrArg List.head? hd
   simpa [List.head?_drop] using this
  have g:u.aK.drop (p.length+1)=l:=by
   have:=congrArg List.tail hd
   simpa [List.tail_drop] using this
  have k:=F.aK
  have d:=(F.bA _ _ he).2
  unfold fF
  rw[if_neg aa,eB he]
  have w:IntKind.i64.wrap ((p.length:Int)+1)=((p.length+1:Nat):Int):=by rw[cE aa];omega
  simp only[w]
  have key:=Dd (u:=u) (p:=p) aa k.2 (f:=fF u fuel ((p.length+1:Nat):Int)) (G:=fun n=>((e5 (p++[n]) l).filter (gF u)).map (fun x=>some (dV x))) (lo:=e.high.low) (hi:=e.high.high) ⟨d.1,d.2.2.1⟩
   (fun n n1 n2 x o=>by
    have:=De F l (p++[n]) fuel x (by simpa using g) (by simp;omega) aa (fun j y b q=>by
     by_cases c:j<p.length
     .obtain ⟨m,hm,r⟩:=hb j y b c
      exact ⟨m,by rw[List.getElem?_append_left c];exact hm,r⟩
     .simp at q
      obtain rfl:j=p.length:=aa
      rw[he] at b;cases b
      exact ⟨n,av,n1,n2⟩) o
    simpa using this) 100 e.high.low h H (Int.le_refl _) aa aa
  refine ⟨?_,key.2⟩
  rw[key.1,show e5 p (e::l)=(cY e.high).flatMap fun n=>e5 (p++[n]) l from rfl,List.filter_flatMap,List.map_flatMap]
theorem JL (j:Nat):co ⟨0,0,0⟩ j=0:=by
 unfold co;split
 .rfl
 .split
  .rfl
  .split<;>rfl
theorem JM {u:an}(F:Fit u):nD u=(b6 u).map (fun x=>some (dV x)):=by
 have c:=F.aK;exact (De F u.aK [] 5 ⟨0,0,0⟩ rfl av aa (fun j e _ a=>absurd a av) ⟨fun j n b=>by simp at b,fun j _=>JL j⟩).1
theorem Df:∀(l:List bD) (s:List bD),s.length+l.length<=1000000->jK o6 (l.map some) s=some (.nx (s++l))
 |[],s,_=>by simp[jK]
 |x::l,s,h=>by
  simp only[List.length_cons] at h
  simp only[List.map_cons]
  have:=Df l (s++[x]) (by simp;omega)
  rw[show s++x::l=s++[x]++l by simp,<-this]
  have e:o6 x s=some (.nx (s++[x])):=by
   unfold o6
   rw[fl (by simp;omega)]
   rfl
  show jK _ (some x::l.map some) s=_
  rw[jK,e]
  rfl
theorem JN {l:List bD}(h:l.length<=1000):rH (l.map some)=some l:=by
 unfold rH uq;rw[Df l [] (by simp;omega)];simp[ai,aG]
def Dg:dn:=⟨ob,[]⟩
theorem yV {u:an}{a:List (an->Option Int)}{c:Int}(h:eJ u a=some (ob,c))(b:c≠0):gO u a=some (Dg,c):=by
 unfold gO;rw[h];simp only[ai];rw[show (c != 0)=true by simpa using b];rfl
theorem u7 {u:an}(F:Fit u){b:List (an->Option Int)}(h:eJ u b=some (u,0)):gO u b=some (if (b6 u).isEmpty then (Dg,9) else (⟨u,(b6 u).map dV⟩,0)):=by
 unfold gO;rw[h];simp only[ai];rw[show ((0:Int) != 0)=false by decide];simp only[cond_false];have hl:=(su F).2;rw[JM F,show (b6 u).map (fun x=>some (dV x))=((b6 u).map dV).map some by simp,JN (by simp;omega)];simp only[ai];cases b6 u with
 |nil=>rfl
 |cons a l=>
  rw[show ((((a::l).map dV).length:Int)==0)=false by simp;omega];rfl
structure sx (u:an):Prop where
 e:u.az.length<=20
 p:u.props.length<=20
 y:u.aK.length<=20
 t:u.told.length<=20
theorem bars {u:an}(L:sx u):∃c,gf u=some c/\iP u=some c:=by
 obtain ⟨b,c,a⟩:=Jn u L.e L.p L.y L.t;exact ⟨c,a,b▸a⟩
theorem Dh {u:an}(h:gf u=some 0):eJ u []=some (u,0):=by
 unfold eJ;rw[h];rfl
theorem yW {u:an}{a c:Int}(h:iP u=some c)(b:c≠0):iR u a=some ([],c):=by
 unfold iR;rw[h];simp only[ai];rw[show (c != 0)=true by simpa using b];rfl
theorem yX {u:an}{a:Int}(h:iP u=some 0)(b:a≠0):iR u a=some ([],a):=by
 unfold iR;rw[h];simp only[ai];rw[show ((0:Int) != 0)=false by decide,show (a != 0)=true by simpa using b];rfl
theorem u9 {u:an}(F:Fit u)(h:iP u=some 0):iR u 0=some (if (b6 u).isEmpty then ([],9) else (b6 u,0)):=by
 unfold iR;rw[h,(su F).1];simp only[ai];rw[show ((0:Int) != 0)=false by decide];simp only[cond_false];cases b6 u with
 |nil=>rfl
 |cons a l=>
  rw[show (((a::l).length:Int)==0)=false by simp;omega];rfl
theorem vb {α β σ:Type}(f:α->β)(g:Nat->β->σ->σ):∀(l:List α) (i:Nat) (s:σ),foldI g i (l.map f) s=foldI (fun i x s=>g i (f x) s) i l s
 |[],_,_=>rfl
 |x::l,i,s=>by
  simp only[List.map_cons]
  unfold foldI
  exact vb f g l (i+1) _
theorem Di {α σ:Type}{g g':Nat->α->σ->σ}:∀(l:List α) (i:Nat) (s:σ),(∀j x s,x∈l->g j x s=g' j x s)->foldI g i l s=foldI g' i l s
 |[],_,_,_=>rfl
 |x::l,i,s,h=>by
  unfold foldI
  rw[h i x s (List.mem_cons_self ..)]
  exact Di l (i+1) _ fun j y s a=>h j y s (List.mem_cons_of_mem _ a)
theorem vc {u:an}{h:List Int}(hm:h∈b6 u):pZ u h/\gF u h=true:=by
 obtain ⟨a,b⟩:=List.mem_filter.1 hm;exact ⟨yU a,b⟩
section
variable {u:an}(F:Fit u){i:Nat}{e:cA}(he:u.aK[i]? = some e)
include F he
theorem Dj {h:List Int}(hm:h∈b6 u):∃n,h[i]?=some n/\bT u i (h[i]?.getD 0)=⟨e.back,n⟩/\(1<=e.back/\e.back<=20)/\0<=n/\n<=60:=by
 obtain ⟨n,c,a,b⟩:=(vc hm).1.u6 i e he;obtain ⟨c1,c2,c3,c4,d⟩:=F.bA _ _ he;refine ⟨n,c,?_,c1,aa,aa⟩;rw[c];unfold bT;rw[he];rfl
end
end Go.Proofs.YtbpddfapodiemaaGreatDoor
end
section
namespace Go.Sep
open Go Go.Conc
def od (P:Program)(J:Goroutine->af->Prop)(ops:Array Oper)(F0:af)(Q:Act->af->Prop):List Oper->Bool->Act->af->Prop
 |[],_,a,F=>Q a F
 |o::rest,_,a,F=>match cV ops o a with
  |some true=>dc P J o (fun v F'=>Knows F0 F'/\od P J ops F0 Q rest (!Oper.calls o) (bB a o.dst v) F') a F
  |some false=>od P J ops F0 Q rest true (bB a o.dst undef) F
  |none=>False
theorem JO {P:Program}{J:Goroutine->af->Prop}{ops:Array Oper}{F0:af}{Q:Act->af->Prop}{go:Bool}{a:Act}{F:af}:od P J ops F0 Q [] go a F=Q a F:=rfl
theorem JP {P:Program}{J:Goroutine->af->Prop}{ops:Array Oper}{F0:af}{Q:Act->af->Prop}{o:Oper}{rest:List Oper}{a:Act}{F:af}:od P J ops F0 Q (o::rest) true a F=match cV ops o a with
  |some true=>dc P J o (fun v F'=>Knows F0 F'/\od P J ops F0 Q rest (!Oper.calls o) (bB a o.dst v) F') a F
  |some false=>od P J ops F0 Q rest true (bB a o.dst undef) F
  |none=>False:=(Eq.refl _).trans (Eq.refl _)
attribute [irreducible] od
attribute [go_sem] JO JP
end Go.Sep
end
section
namespace Go.Proofs.YtbpddfapodiemaaGreatDoor
open Go Go.Sep Go.Proofs
set_option maxRecDepth 100000
set_option maxHeartbeats 4000000
structure Tb (u o:an):Prop where
 bZ:o.bZ=u.bZ
 cg:o.cg=u.cg
 bp:o.bp=u.bp
 props:o.props=u.props
 aK:o.aK=u.aK
 told:o.told=u.told
 dK:∀x,x∈u.props->jQ o x.place=jQ u x.place
 yY:∀s:bh,(1<=s.back/\s.back<=20)/\0<=s.high/\s.high<=60->(de o s).2=(de u s).2
theorem sA {n a b:Int}(c:a<=n)(d:n<=b):b7 n a b=true:=gh.2 ⟨c,d⟩
theorem JQ:Tryz.prog.underlying 3=some (.int .i64):=aj
theorem JR:Tryz.prog.underlying 5=some (.int .u8):=aj
attribute [go_sem] JQ JR
def mB (o:Nat)(S:List Int)(i:Nat):List Int:=(List.replicate o (S.flatMap fun n=>List.replicate i n)).flatten
def p7:List (List Int):=[[0],[0,1],[0,2],[0,1,2]]
def oe:List (Nat×Nat):=[(1,1),(1,2),(1,3),(1,4),(1,6),(1,9),(2,1),(3,1),(4,1),(6,1),(9,1),(2,2),(2,3),(3,2),(3,3)]
def yZ (l:List Int):Option (List Int):=ai (rM l) fun x=>uC x.2
def p8 (c:Nat):Bool:=oe.all fun p=>p7.all fun S=>yZ (mB p.1 (S.map (· +(c:Int))) p.2)==some (S.map (· +(c:Int)))
theorem JS:∀c:Fin 16,p8 c.val=true:=by decide+kernel
theorem JU:∀c:Fin 16,p8 (16+c.val)=true:=by decide+kernel
theorem JV:∀c:Fin 16,p8 (32+c.val)=true:=by decide+kernel
theorem JW:∀c:Fin 13,p8 (48+c.val)=true:=by decide+kernel
theorem JX {c:Nat}(h:c<=60):p8 c=true:=by
 rcases Nat.lt_or_ge c 16 with x|x
 .exact JS ⟨c,x⟩
 rcases Nat.lt_or_ge c 32 with y|y
 .have:=JU ⟨c - 16,aa⟩
  rwa [show 16+(c - 16)=c by omega] at this
 rcases Nat.lt_or_ge c 48 with z|z
 .have:=JV ⟨c - 32,aa⟩
  rwa [show 32+(c - 32)=c by omega] at this
 .have:=JW ⟨c - 48,aa⟩
  rwa [show 48+(c - 48)=c by omega] at this
theorem JY {c:Nat}(h:c<=60){p:Nat×Nat}(a:p∈oe){S:List Int}(b:S∈p7):yZ (mB p.1 (S.map (· +(c:Int))) p.2)=some (S.map (· +(c:Int))):=by
 have:=JX h;unfold p8 at this;rw[List.all_eq_true] at this;have:=this p a;rw[List.all_eq_true] at this;simpa using this S b
def p9 (u:an)(i:Nat)(n:Int):Bool:=u.told.all fun t=>t.bA != (i:Int)||(fH u (bT u i n)==t.bI)
def pL:List (List Int)->List (List Int)
 |[]=>[[]]
 |s::r=>s.flatMap fun n=>(pL r).map (n::·)
def kL (P:Nat->Int->Bool):Nat->List Int->Bool
 |_,[]=>true
 |i,x::r=>P i x&&kL P (i+1) r
def iU (P:Nat->Int->Bool):Nat->List (List Int)->List (List Int)
 |_,[]=>[]
 |i,s::r=>s.filter (P i)::iU P (i+1) r
def mC (u:an):List (List Int):=iU (p9 u) 0 (u.aK.map fun e=>cY e.high)
theorem Dk:∀(l:List cA) (p:List Int),e5 p l=(pL (l.map fun e=>cY e.high)).map (p++·)
 |[],p=>by simp[e5,pL]
 |e::l,p=>by
  unfold e5
  rw[List.map_cons]
  unfold pL
  rw[List.map_flatMap]
  congr 1
  funext n
  rw[Dk l (p++[n]),List.map_map]
  refine List.map_congr_left fun q _=>?_
  simp
theorem Dl {α β:Type}(p:α->Bool)(f:α->List β):∀l:List α,(l.filter p).flatMap f=l.flatMap fun x=>if p x then f x else []
 |[]=>rfl
 |x::l=>by
  rw[List.flatMap_cons,<-Dl p f l,List.filter_cons]
  cases p x<;>simp
theorem Dm (P:Nat->Int->Bool):∀(S:List (List Int)) (i:Nat),(pL S).filter (kL P i)=pL (iU P i S)
 |[],i=>rfl
 |s::r,i=>by
  rw[show iU P i (s::r)=s.filter (P i)::iU P (i+1) r from rfl,show pL (s::r)=s.flatMap fun n=>(pL r).map (n::·) from rfl,
   show pL (s.filter (P i)::iU P (i+1) r)=(s.filter (P i)).flatMap fun n=>(pL (iU P (i+1) r)).map (n::·) from rfl]
  rw[Dl,List.filter_flatMap]
  congr 1
  funext n
  rw[List.filter_map]
  cases h:P i n with
  |false=>
   rw[show (kL P i ∘ fun x=>n::x)=fun _=>false by funext q;simp[kL,h]]
   simp
  |true=>
   rw[show (kL P i ∘ fun x=>n::x)=kL P (i+1) by funext q;simp[kL,h],Dm P r (i+1)]
   rfl
theorem Dn (P:Nat->Int->Bool):∀(h:List Int) (i:Nat),kL P i h=(List.range h.length).all fun j=>P (i+j) (h[j]?.getD 0)
 |[],i=>rfl
 |x::r,i=>by
  unfold kL
  rw[Dn P r (i+1),List.length_cons,List.range_succ_eq_map,List.all_cons,List.all_map]
  congr 1
  refine congrArg (fun f=>List.all _ f) ?_
  funext j
  simp only[Function.comp]
  rw[show i+1+j=i+(j+1) by omega]
  rfl
theorem JZ {u:an}(F:Fit u){h:List Int}(H:pZ u h):gF u h=kL (p9 u) 0 h:=by
 rw[Dn,Bool.eq_iff_iff];unfold gF;rw[List.all_eq_true,List.all_eq_true];constructor
 .intro a j b;rw[Nat.zero_add];unfold p9;rw[List.all_eq_true];intro t ht;by_cases c:t.bA=(j:Int)
  .have:=a t ht;unfold lD at this;rw[c,Int.toNat_natCast] at this;rw[this,Bool.or_true]
  .rw[show (t.bA != (j:Int))=true by simpa using c,Bool.true_or]
 .intro a t ht;obtain ⟨k,hk⟩:=List.mem_iff_getElem?.1 ht;obtain ⟨d,b2⟩:=F.uS k t hk;have hl:=H.len;have:=a t.bA.toNat (by rw[List.mem_range];omega);rw[Nat.zero_add] at this;unfold p9 at this;rw[List.all_eq_true] at this;have:=this t ht;rw[show (t.bA != (t.bA.toNat:Int))=false by rw[bne_eq_false_iff_eq];omega,Bool.false_or] at this;exact this
theorem Dp {u:an}(F:Fit u):b6 u=pL (mC u):=by
 unfold b6 mC;rw[<-Dm];have e:e5 [] u.aK=pL (u.aK.map fun e=>cY e.high):=by rw[Dk];simp
 rw[<-e];refine List.filter_congr fun h hm=>?_;exact JZ F (yU hm)
theorem Dq:∀S:List (List Int),(pL S).length=(S.map List.length).foldr (· *·) 1
 |[]=>rfl
 |s::r=>by
  unfold pL
  rw[List.length_flatMap,List.map_cons,List.foldr_cons,<-Dq r]
  simp only[List.length_map]
  rw[List.map_const',List.sum_replicate_nat]
theorem Dr {α:Type}(x:List α)(m:Nat):∀o:Nat,(List.replicate o (List.replicate m x).flatten).flatten=(List.replicate (o*m) x).flatten
 |0=>by simp
 |o+1=>by
  rw[List.replicate_succ,List.flatten_cons,Dr x m o,<-List.flatten_append,List.replicate_append_replicate]
  congr 2
  rw[Nat.add_mul];omega
theorem Ds {α β:Type}(x:List β):∀l:List α,l.flatMap (fun _=>x)=(List.replicate l.length x).flatten
 |[]=>rfl
 |a::l=>by rw[List.flatMap_cons,Ds x l,List.length_cons,List.replicate_succ,List.flatten_cons]
theorem Dt:∀(S:List (List Int)) (i:Nat) (s:List Int),S[i]?=some s->(pL S).map (fun h=>h[i]?.getD 0)=mB (((S.take i).map List.length).foldr (· *·) 1) s (((S.drop (i+1)).map List.length).foldr (· *·) 1)
 |[],i,s,h=>by simp at h
 |a::r,0,s,h=>by
  have h:a=s:=by simpa using h
  subst h
  unfold pL mB
  rw[List.map_flatMap]
  simp only[List.take_zero,List.map_nil,List.foldr_nil,List.replicate_one,List.flatten_cons,List.flatten_nil,List.append_nil,Nat.zero_add,List.drop_succ_cons,List.drop_zero]
  rw[<-Dq]
  congr 1
  funext n
  rw[List.map_map,show ((fun h:List Int=>h[0]?.getD 0) ∘ fun x=>n::x)=fun _=>n from rfl,List.map_const']
 |a::r,i+1,s,h=>by
  have h:r[i]?=some s:=by simpa using h
  have ih:=Dt r i s h
  unfold pL
  rw[List.map_flatMap]
  have e:(fun n:Int=>List.map (fun h:List Int=>h[i+1]?.getD 0) (List.map (fun x=>n::x) (pL r)))=fun _=>(pL r).map fun h=>h[i]?.getD 0:=by
   funext n
   rw[List.map_map]
   rfl
  rw[e,ih,Ds]
  unfold mB
  rw[Dr]
  congr 2
end Go.Proofs.YtbpddfapodiemaaGreatDoor
end
section
namespace Go.Proofs.YtbpddfapodiemaaGreatDoor
open Go Go.Sep Go.Proofs
set_option maxRecDepth 100000
set_option maxHeartbeats 4000000
set_option linter.all false
theorem Du (P:Nat->Int->Bool):∀(S:List (List Int)) (i j:Nat),(iU P i S)[j]?=S[j]?.map (List.filter (P (i+j)))
 |[],i,j=>by simp[iU]
 |s::r,i,0=>by simp[iU]
 |s::r,i,j+1=>by
  have:=Du P r (i+1) j
  rw[show i+1+j=i+(j+1) by omega] at this
  simpa [iU] using this
theorem Dv (P:Nat->Int->Bool):∀(S:List (List Int)) (i:Nat),(iU P i S).length=S.length
 |[],i=>rfl
 |s::r,i=>by simp[iU,Dv P r (i+1)]
def dQ (u:an)(i:Nat)(e:cA):List Int:=(cY e.high).filter (p9 u i)
theorem y2 {u:an}{i:Nat}{e:cA}(he:u.aK[i]?=some e):(mC u)[i]?=some (dQ u i e):=by
 unfold mC;rw[Du,List.getElem?_map,he];simp[dQ]
theorem y3 (u:an):(mC u).length=u.aK.length:=by unfold mC;rw[Dv,List.length_map]
theorem J0 (P:Int->Bool){b:dI}(f:0<=b.low)(g:b.low<=b.high)(i:b.high<=60)(j:b.high - b.low<3):
  (cY b).filter P=[]\/∃(c:Nat) (T:List Int),c<=60/\T∈p7/\(cY b).filter P=T.map (· +(c:Int)):=by
 obtain ⟨c,d⟩:∃c:Nat,b.low=(c:Int):=⟨b.low.toNat,aa⟩
 rcases (show b.high=c\/b.high=c+1\/b.high=c+2 by omega) with h|h|h
 .have e:cY b=[(c:Int)]:=by unfold cY;rw[h,d,show ((c:Int) - c+1).toNat=1 by omega];simp[List.range,List.range.loop]
  rw[e]
  cases p0:P c
  .left;simp[List.filter,p0]
  .right;exact ⟨c,[0],aa,aD,by simp[List.filter,p0]⟩
 .have e:cY b=[(c:Int),c+1]:=by unfold cY;rw[h,d,show ((c:Int)+1 - c+1).toNat=2 by omega];simp[List.range,List.range.loop]
  rw[e]
  cases p0:P c<;>cases a:P (c+1)
  .left;simp[List.filter,p0,a]
  .right;exact ⟨c+1,[0],aa,aD,by simp[List.filter,p0,a]⟩
  .right;exact ⟨c,[0],aa,aD,by simp[List.filter,p0,a]⟩
  .right;exact ⟨c,[0,1],aa,aD,by simp[List.filter,p0,a];omega⟩
 .have e:cY b=[(c:Int),c+1,c+2]:=by unfold cY;rw[h,d,show ((c:Int)+2 - c+1).toNat=3 by omega];simp[List.range,List.range.loop]
  rw[e]
  cases p0:P c<;>cases a:P (c+1)<;>cases p2:P (c+2)
  .left;simp[List.filter,p0,a,p2]
  .right;exact ⟨c+2,[0],aa,aD,by simp[List.filter,p0,a,p2]⟩
  .right;exact ⟨c+1,[0],aa,aD,by simp[List.filter,p0,a,p2]⟩
  .right;exact ⟨c+1,[0,1],aa,aD,by simp[List.filter,p0,a,p2];omega⟩
  .right;exact ⟨c,[0],aa,aD,by simp[List.filter,p0,a,p2]⟩
  .right;exact ⟨c,[0,2],aa,aD,by simp[List.filter,p0,a,p2];omega⟩
  .right;exact ⟨c,[0,1],aa,aD,by simp[List.filter,p0,a,p2];omega⟩
  .right;exact ⟨c,[0,1,2],aa,aD,by simp[List.filter,p0,a,p2];omega⟩
theorem Dw:∀{S:List (List Int)},pL S≠[]->∀s,s∈S->s≠[]
 |[],_,s,h=>by simp at h
 |a::r,b,s,h=>by
  have e:pL (a::r)=a.flatMap fun n=>(pL r).map (n::·):=rfl
  rcases List.mem_cons.1 h with rfl|h
  .intro he;rw[e,he] at b;exact b rfl
  .refine Dw (S:=r) (fun he=>?_) s h
   rw[e,he] at b
   exact b av
theorem J1 {o k:Nat}(c:1<=o)(hk:1<=k){s:List Int}{n:Int}:n∈mB o s k↔n∈s:=by
 unfold mB;rw[List.mem_flatten];constructor
 .rintro ⟨l,hl,a⟩;rw[List.mem_replicate] at hl;rw[hl.2,List.mem_flatMap] at a;obtain ⟨m,hm,b⟩:=a;rw[(List.mem_replicate.1 b).2];exact hm
 .intro a;exact ⟨_,List.mem_replicate.2 ⟨aa,rfl⟩,List.mem_flatMap.2 ⟨n,a,List.mem_replicate.2 ⟨aa,rfl⟩⟩⟩
def og (l:List Nat):Nat:=l.foldr (· *·) 1
theorem J2 {L:List Nat}(d:L.length<=3)(h:∀x,x∈L->1<=x/\x<=3){i:Nat}(hi:i<L.length):(og (L.take i),og (L.drop (i+1)))∈oe:=by
 match L,d,h,hi with
 |[a],_,h,hi=>
  obtain rfl:i=0:=by simpa using hi
  show (1,1)∈oe;decide
 |[a,b],_,h,hi=>
  have e:=h a av;have hb:=h b av;rcases (show a=1\/a=2\/a=3 by omega) with rfl|rfl|rfl<;>rcases (show b=1\/b=2\/b=3 by omega) with rfl|rfl|rfl<;>rcases (show i=0\/i=1 by simp at hi;omega) with rfl|rfl<;>decide
 |[a,b,c],_,h,hi=>
  have e:=h a av;have hb:=h b av;have f:=h c av;rcases (show a=1\/a=2\/a=3 by omega) with rfl|rfl|rfl<;>rcases (show b=1\/b=2\/b=3 by omega) with rfl|rfl|rfl<;>rcases (show c=1\/c=2\/c=3 by omega) with rfl|rfl|rfl<;>rcases (show i=0\/i=1\/i=2 by simp at hi;omega) with rfl|rfl|rfl<;>decide
theorem ve {α β:Type}(f:α->β):∀l:List α,(l.flatMap fun x=>[f x])=l.map f
 |[]=>rfl
 |a::l=>by rw[List.flatMap_cons,ve f l];rfl
theorem Dx {T:List Int}(h:T∈p7):1<=T.length/\T.length<=3:=by
 unfold p7 at h;simp only[List.mem_cons,List.not_mem_nil,or_false] at h;rcases h with rfl|rfl|rfl|rfl<;>decide
variable {u:an}(F:Fit u)(aO:b6 u ≠ []){i:Nat}{e:cA}(he:u.aK[i]? = some e)
include F aO he
theorem y4:∃(c:Nat) (T:List Int),c<=60/\T∈p7/\dQ u i e=T.map (· +(c:Int)):=by
 obtain ⟨c1,c2,c3,c4,a⟩:=F.bA _ _ he;rcases J0 (p9 u i) (b:=e.high) c2 c3 c4 a with h|h
 .rw[Dp F] at aO;exact absurd h (Dw aO _ (List.mem_of_getElem? (y2 he)))
 .exact h
theorem Dy:∃p,p∈oe/\1<=p.1/\1<=p.2/\(b6 u).map (fun h=>h[i]?.getD 0)=mB p.1 (dQ u i e) p.2:=by
 have hi:i<u.aK.length:=(List.getElem?_eq_some_iff.1 he).1;have n:=F.aK;have hl:∀x,x∈(mC u).map List.length->1<=x/\x<=3:=fun x f=>by
  rw[List.mem_map] at f;obtain ⟨s,hs,rfl⟩:=f;obtain ⟨j,g⟩:=List.mem_iff_getElem?.1 hs;have k:j<u.aK.length:=by rw[<-y3 u];exact (List.getElem?_eq_some_iff.1 g).1
  have l:=y2 (u:=u) (List.getElem?_eq_getElem k);rw[g] at l;obtain ⟨c,T,-,m,e2⟩:=y4 F aO (List.getElem?_eq_getElem k);rw[Option.some.inj l,e2,List.length_map];exact Dx m
 have d:=J2 (L:=(mC u).map List.length) (by simp[y3];omega) hl (i:=i) (by simp[y3];omega);refine ⟨_,d,?_,?_,?_⟩
 .revert d;generalize og _=a;generalize og _=b;intro d;have:∀q,q∈oe->1<=q.1:=aD;exact this _ d
 .revert d;generalize og _=a;generalize og _=b;intro d;have:∀q,q∈oe->1<=q.2:=aD;exact this _ d
 .rw[Dp F,Dt _ i _ (y2 he)];unfold og;rw[List.map_take,List.map_drop]
theorem y5 {n:Int}:n∈dQ u i e↔∃h,h∈b6 u/\h[i]?=some n:=by
 obtain ⟨p,f,a,p2,b⟩:=Dy F aO he;rw[<-J1 a p2,<-b,List.mem_map];constructor
 .rintro ⟨h,hm,rfl⟩;obtain ⟨m,c,_⟩:=(vc hm).1.u6 i e he;exact ⟨h,hm,by rw[c];rfl⟩
 .rintro ⟨h,hm,d⟩;exact ⟨h,hm,by rw[d];rfl⟩
theorem J3:bM (pe (i:Int)) 0 ((b6 u).map dV) []=some (.nx ((b6 u).map fun h=>h[i]?.getD 0)):=by
 have hi:i<u.aK.length:=(List.getElem?_eq_some_iff.1 he).1;have d:=F.aK;have hl:=(su F).2;have key:=iT (f:=pe (i:Int)) (g:=fun _ x (s:List Int)=>s++[(bD.get x (i:Int)).getD 0]) (I:=fun j s=>s.length<=j/\j<=(b6 u).length) ((b6 u).map dV) 0 [] ⟨av,aa⟩
  (fun j x s a e=>by
   rw[List.getElem?_map,Option.map_eq_some_iff] at a;obtain ⟨h,b,rfl⟩:=a;have k:j<(b6 u).length:=(List.getElem?_eq_some_iff.1 b).1;obtain ⟨m,hm,hs,hb⟩:=Dj F he (List.mem_of_getElem? b);have hg:bD.get (dV h) (i:Int)=some m:=yT aa aa (by simpa using hm);refine ⟨?_,?_⟩
   .unfold pe;simp only[hg,ai,Option.getD_some];unfold cx;rw[if_pos (by simp;omega)]
   .simp only[List.length_append,List.length_singleton];omega)
 rw[key.1,vb];congr 2;have e1:foldI (fun l x s=>s++[((dV x).get (i:Int)).getD 0]) 0 (b6 u) []=foldI (fun _ x (s:List Int)=>s++(fun x:List Int=>[x[i]?.getD 0]) x) 0 (b6 u) []:=by
  refine Di _ _ _ fun j h s hm=>?_;obtain ⟨m,c,hs,hb⟩:=Dj F he hm;have hg:bD.get (dV h) (i:Int)=some m:=yT aa aa (by simpa using c);rw[hg];show _=s++[h[i]?.getD 0];rw[c]
 rw[e1,p5,List.nil_append];exact ve _ _
theorem J4:mh ⟨u,(b6 u).map dV⟩ (i:Int)=some (dQ u i e):=by
 obtain ⟨p,a,j,p2,b⟩:=Dy F aO he;obtain ⟨c,T,d,f,g⟩:=y4 F aO he;have hs:=JY d a f;rw[<-g,<-b] at hs;unfold mh;rw[J3 F aO he];unfold yZ at hs;simp only[ai,aG] at hs ⊢;cases h:rM ((b6 u).map fun h=>h[i]?.getD 0) with
 |none=>rw[h] at hs;cases hs
 |some x=>
  rw[h] at hs;simp only at hs ⊢;rw[hs]
end Go.Proofs.YtbpddfapodiemaaGreatDoor
end
section
namespace Go.Proofs.YtbpddfapodiemaaGreatDoor
open Go Go.Sep Go.Proofs
set_option maxRecDepth 100000
set_option maxHeartbeats 4000000
theorem y6 {α σ ρ:Type}{f:Nat->α->σ->Option (Fl σ ρ)}{I:Nat->σ->Prop}:∀(l:List α) (i:Nat) (s:σ),I i s->(∀j x s,l[j]?=some x->I (i+j) s->∃s',f (i+j) x s=some (.nx s')/\I (i+j+1) s')->
  ∃s',bM f i l s=some (.nx s')/\I (i+l.length) s'
 |[],i,s,hs,_=>⟨s,rfl,hs⟩
 |x::l,i,s,hs,h=>by
  obtain ⟨s1,a,b⟩:=h 0 x s rfl hs
  simp only[Nat.add_zero] at a b
  unfold bM
  rw[a]
  have:=y6 l (i+1) _ b fun j y s c hs=>by
   have:=h (j+1) y s (by simpa using c) (by rwa [show i+(j+1)=i+1+j by omega])
   rwa [show i+(j+1)=i+1+j by omega] at this
  rwa [show i+1+l.length=i+(x::l).length by simp;omega] at this
theorem Dz {α σ τ ρ:Type}{f:τ->Option (Fl τ ρ)}{I:Nat->σ->Prop}(e:σ->Int->τ)(l:List α)(h:∀(i:Nat) x s,l[i]?=some x->I i s->∃s',f (e s (i:Int))=some (.nx (e s' ((i+1:Nat):Int)))/\I (i+1) s')(a:∀s,f (e s (l.length:Int))=some (.bk (e s (l.length:Int)))):
  ∀(k i n:Nat) (s:σ),I i s->i+k=l.length->k<n->∃s',aS f n (e s (i:Int))=some (.nx (e s' (l.length:Int)))/\I l.length s'
 |0,i,n+1,s,hs,hi,_=>by
  obtain rfl:i=l.length:=aa
  unfold aS
  rw[a]
  exact ⟨s,rfl,hs⟩
 |k+1,i,n+1,s,hs,hi,j=>by
  have b:i<l.length:=aa
  have c:l[i]?=some l[i]:=List.getElem?_eq_getElem b
  obtain ⟨s1,d,g⟩:=h i _ s c hs
  unfold aS
  rw[d]
  exact Dz e l h a k (i+1) n _ g aa aa
theorem mD {α σ τ ρ:Type}{f:τ->Option (Fl τ ρ)}(I:Nat->σ->Prop)(e:σ->Int->τ)(l:List α)(hl:l.length<=1000)(h:∀(i:Nat) x s,l[i]?=some x->I i s->∃s',f (e s (i:Int))=some (.nx (e s' ((i+1:Nat):Int)))/\I (i+1) s')(a:∀s,f (e s (l.length:Int))=some (.bk (e s (l.length:Int))))(s:σ)(hs:I 0 s):
  ∃s',aS f fu (e s 0)=some (.nx (e s' (l.length:Int)))/\I l.length s':=
 Dz e l h a l.length 0 fu s hs aa (Nat.lt_of_le_of_lt hl aD)
end Go.Proofs.YtbpddfapodiemaaGreatDoor
end

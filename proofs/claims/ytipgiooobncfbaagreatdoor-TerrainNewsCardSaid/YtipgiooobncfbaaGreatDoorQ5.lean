/- A part of the proof of a row and its tied card: part 5. -/
import Derived.Test.YtipgiooobncfbaaGreatDoorQ4
set_option linter.all false
section
namespace Go.Proofs.YtipgiooobncfbaaGreatDoor
open Go Go.Sep Go.Proofs
set_option maxRecDepth 100000
set_option maxHeartbeats 4000000
def mg (u0:aj)(b:(List (List Int)))(st:((List Int)×Int)):Option (Fl ((List Int)×Int) ((List Int)×Int)):=
 cond (decide (st.2<(b.length:Int))) (ah (bq b st.2) fun a=>ah (kE a st.1) fun c=>cond (c) (ah (pS u0 a) fun d=>ah (mb d) fun e=>cond (((e.length:Int)==0)) (some (.nx (a,(IntKind.i64.wrap (st.2+1))))) (some (.nx (st.1,(IntKind.i64.wrap (st.2+1)))))) (some (.nx (st.1,(IntKind.i64.wrap (st.2+1)))))) (some (.bk (st.1,st.2)))
def mh (u0:aj):Option ((List Int)×Int):=
 ah (gD u0) fun a=>cond ((a != 0)) (some (([]:(List Int)),a)) (ah (mb u0) fun b=>cond (decide (0<(b.length:Int))) (some (([]:(List Int)),0)) (ah (si (u0.told.length:Int)) fun c=>ah (sn (u0.told.length:Int) (u0.told.length:Int)) fun d=>ah (aR (mg u0 d) fu (c,0)) fun o=>aF o (fun e=>some (e.1,0)) (fun _ _=>none) (fun r=>some r)))
theorem FF {ro:Addr->Option Value}(u0:aj){s1 o q M:Value}(a:bt ro u0 s1 o q M){r:((List Int)×Int)}(h:mh u0=some r):c9 Tryz.prog 28 #[bv u0 s1 o q M] ro (fun v aI=>∃N,v= .tuple #[N,.int .i64 r.2]/\ax rI aI N r.1):=by
 obtain ⟨d24,G,rfl,ca,cb,-⟩:=id a.t
 unfold mh at h
 refine aA.go Tryz.func28 rfl Tryz.ntmps28 Tryz.results28 (by simp) fun main J hJ A ae hd hs=>?_
 have al:=hs 0
 clear hs
 refine aa hJ (af hJ ?_)
 simp only[*,go_sem]
 refine an fun H d ao=>?_;try simp only[ak] at ao
 try simp only[*,go_sem]
 refine aa hJ (aa hJ (af hJ ?_))
 revert h;refine bS fun cd ar h=>?_
 simp only[*,go_sem]
 refine aO hJ _ (sj u0 (a.mono aN) ar) (aE ?_)
 try simp only[*,go_sem]
 refine aa hJ (af hJ ?_)
 simp only[*,go_sem]
 revert h;refine jC hJ (by simp only[*,go_sem]) (fun a0 h=>?_) fun a0 h=>?_
 ·obtain rfl:=sI h
  refine aa hJ (af hJ ?_)
  simp only[*,go_sem]
  refine av ?_
  simp only[*,go_sem]
  exact ⟨_,Ext.refl _,Le.sub (List.nil_sublist _),_,rfl,ax.nil _ _⟩
 refine aD hJ (aa hJ ?_)
 refine aa hJ (af hJ ?_)
 revert h;refine bS fun cf a2 h=>?_
 simp only[*,go_sem]
 refine bN hJ _ (vU u0 a a2) fun v cl I O b=>?_
 obtain ⟨cy,rfl,a3⟩:=b
 replace a:=a.mono I
 replace d:=O.hd
 simp only[aU] at O
 obtain ⟨d40,c0,rfl,da,db,-⟩:=id a3
 refine aE ?_
 try simp only[*,go_sem]
 revert h;refine jC hJ (by simp only[*,go_sem]) (fun a4 h=>?_) fun a4 h=>?_
 ·obtain rfl:=sI h
  refine aa hJ (af hJ ?_)
  simp only[*,go_sem]
  refine av ?_
  simp only[*,go_sem]
  exact ⟨_,I,Le.sub (List.nil_sublist _),_,rfl,ax.nil _ _⟩
 refine aD hJ (aa hJ ?_)
 refine af hJ ?_
 simp only[*,go_sem]
 refine aa hJ (af hJ ?_)
 revert h;refine bS fun a5 a6 h=>?_
 simp only[*,go_sem]
 refine bN hJ _ (Fj (u0.told.length:Int) a6) fun v dd P Q b=>?_
 obtain ⟨df,rfl,C⟩:=b
 replace a:=a.mono P
 replace d:=Q.hd
 simp only[aU] at Q
 obtain ⟨d53,a7,rfl,dk,dp,-⟩:=id C
 refine aE ?_
 revert h;refine bS fun a8 a9 h=>?_
 try simp only[*,go_sem]
 refine bN hJ _ (FE (u0.told.length:Int) (u0.told.length:Int) a9) fun v R K S b=>?_
 obtain ⟨dq,rfl,D⟩:=b
 replace a:=a.mono K
 replace C:=C.mono K
 replace d:=S.hd
 simp only[aU] at S
 obtain ⟨d65,ds,rfl,dt,du,-⟩:=id D
 refine aE ?_
 try simp only[*,go_sem]
 refine aa hJ (aa hJ (af hJ ?_))
 simp only[*,go_sem]
 refine aM hJ ?_
 revert h;refine bS fun ba E bb=>?_
 refine bM hJ [6,8,26,27,28,29,30,31,32,33,34,35,36,37,38,39,40,41,42,43,44,45,46,47,48,49,50,51,52] (fun m T F'=>∃(s:Addr->Option Value) (d71:Option Addr) (u:Nat) (f:(List Int)) (j:Int),aR (mg u0 a8) m (f,j)=some ba/\F'=⟨s,(H,bk u0 s1 o q (sl d24 u0.told G))::[]⟩/\Ext R s/\ax rI s (.slice d71 f.length u) f/\slot T 6= .slice d71 f.length u/\slot T 8= .int .i64 j) fu ?_ ?_
 ·refine ⟨R,d53,a7,a5,0,E,rfl,Ext.refl _,C,?_⟩
  simp only[*,go_sem]
 rintro w dv F' U ⟨s,d71,u,f,j,E,rfl,k,c,dC,dE⟩
 refine ez hJ fun _ V=>?_
 replace D:=D.mono k
 replace a:=a.mono k
 replace d:=V.hd
 simp only[aU] at V
 obtain ⟨dT,ea,-⟩:=c.op
 obtain ⟨bc,bd,bj⟩:=U.pick [1,2,3,7] (by decide)
 simp only[*,go_sem] at bc bd bj
 clear U ae hd al
 obtain _|w:=w
 ·exact absurd E (by simp only[aR,reduceCtorEq,not_false_eq_true])
 revert E;refine bS fun eb h x=>?_
 unfold mg at h
 try dsimp only at h
 refine aa hJ (aa hJ (af hJ ?_))
 simp only[*,go_sem]
 revert h;refine jC hJ (by simp only[*,go_sem]) (fun bl h=>?_) fun bl h=>?_
 ·refine aD hJ (aa hJ ?_)
  refine aM hJ (aa hJ ?_)
  refine FD hJ mixed 12 1 (by simp only[*,go_sem]) (by kernel_rfl) ?_
  revert h;refine bS fun L bm h=>?_
  obtain ⟨ec,ed,W⟩:=bX bm
  obtain ⟨eh,et,bo,br,X⟩:=D.el _ _ W
  obtain ⟨ev,rfl,g⟩:=br;obtain ⟨d90,bs,rfl,eQ,eS,e0⟩:=id g
  cases bo
  have z:=X 0 _ rfl;simp only[go_sem] at z
  clear X W
  revert h;refine bS fun e1 bz h=>?_
  try simp only[*,go_sem]
  refine ⟨_,bB hJ fun F Y=>Fp L (g.mono (bQ Y)) f (c.mono (bQ Y)) bz,cc ?_⟩
  revert h;refine cS (fun b0 h=>?_) fun b0 h=>?_
  ·revert h;refine bS fun b1 b2 h=>?_
   try simp only[*,go_sem]
   refine bN hJ _ (Fh u0 a L g b2) fun v e2 i Z b=>?_
   obtain ⟨e3,fa,fb,fg,rfl,B⟩:=b
   replace c:=c.mono i
   replace g:=g.mono i
   replace d:=Z.hd
   simp only[aU] at Z
   replace z:=i _ _ z
   obtain ⟨d107,fi,rfl,fp,fr,-⟩:=id B.e
   obtain ⟨d114,fs,rfl,ft,fv,-⟩:=id B.p
   obtain ⟨d121,fw,rfl,fx,gg,-⟩:=id B.y
   obtain ⟨d128,gl,rfl,gn,gp,-⟩:=id B.t
   have gB:=eu (l:=[(H,bk u0 s1 o q (sl d24 u0.told G))]) i (az.cons d (az.nil _))
   refine ⟨by simp only[*,go_sem],?_⟩
   refine z1 ?_
   revert h;refine bS fun gC b3 h=>?_
   try simp only[*,go_sem]
   refine bN hJ _ (vU b1 B b3) fun v ab n ad b=>?_
   obtain ⟨gM,rfl,b4⟩:=b
   replace c:=c.mono n
   replace g:=g.mono n
   replace d:=ad.hd
   simp only[aU] at ad
   replace z:=n _ _ z
   obtain ⟨d141,gT,rfl,gV,g0,-⟩:=id b4
   have g1:=eu (l:=[(H,bk u0 s1 o q (sl d24 u0.told G))]) (i.trans n) (az.cons d (az.nil _))
   refine ⟨by simp only[*,go_sem],?_⟩
   refine z1 ?_
   try simp only[*,go_sem]
   revert h;refine jC hJ (by simp only[*,go_sem]) (fun b5 h=>?_) fun b5 h=>?_
   ·obtain rfl:=sI h
    refine af hJ ?_
    simp only[*,go_sem]
    refine af hJ ?_
    simp only[*,go_sem]
    refine ⟨w,Nat.lt_succ_self _,_,Le.sub (List.Sublist.refl _),ab,d90,bs,L,(IntKind.i64.wrap (j+1)),x,rfl,(k.trans (i.trans n)),g,?_⟩
    simp only[*,go_sem]
   obtain rfl:=sI h
   refine aD hJ (af hJ ?_)
   simp only[*,go_sem]
   refine ⟨w,Nat.lt_succ_self _,_,Le.sub (List.Sublist.refl _),ab,d71,u,f,(IntKind.i64.wrap (j+1)),x,rfl,(k.trans (i.trans n)),c,?_⟩
   simp only[*,go_sem]
  obtain rfl:=sI h
  try simp only[*,go_sem]
  refine bI hJ (by simp only[*,go_sem]) ?_
  refine aD hJ (af hJ ?_)
  simp only[*,go_sem]
  refine ⟨w,Nat.lt_succ_self _,_,Le.sub (List.Sublist.refl _),s,d71,u,f,(IntKind.i64.wrap (j+1)),x,rfl,k,c,?_⟩
  simp only[*,go_sem]
 obtain rfl:=sI h
 refine bJ ?_
 simp only[go_sem]
 obtain rfl:=sI x;clear x
 have h:=bb
 dsimp only[aF] at h
 obtain rfl:=sI h
 refine aa hJ (af hJ ?_)
 simp only[*,go_sem]
 refine av ?_
 simp only[*,go_sem]
 exact ⟨_,(((I).trans P).trans K).trans k,Le.sub (List.nil_sublist _),_,rfl,c⟩
def z2 (u0:aj)(c:aj)(st:(Bool×Int)):Option (Fl (Bool×Int) Bool):=
 cond (decide (st.2<(u0.told.length:Int))) (ah (bq u0.told st.2) fun a=>ah (bq c.told st.2) fun b=>cond (!((a.aT==b.aT)&&(a.bg==b.bg))) (some (.rt false)) (some (.nx (st.1,(IntKind.i64.wrap (st.2+1)))))) (some (.bk (st.1,st.2)))
def z3 (u0:aj)(c:aj)(st:(Bool×Int)):Option (Fl (Bool×Int) Bool):=
 cond (decide (st.2<(u0.aC.length:Int))) (ah (bq u0.aC st.2) fun a=>ah (bq c.aC st.2) fun b=>cond (!((a.back==b.back)&&((a.high.low==b.high.low)&&(a.high.high==b.high.high)))) (some (.rt false)) (some (.nx (st.1,(IntKind.i64.wrap (st.2+1)))))) (some (.bk (st.1,st.2)))
def z4 (u0:aj)(c:aj)(st:(Bool×Int)):Option (Fl (Bool×Int) Bool):=
 cond (decide (st.2<(u0.props.length:Int))) (ah (bq u0.props st.2) fun a=>ah (bq c.props st.2) fun b=>cond (!((a.place==b.place)&&(a.cV==b.cV))) (some (.rt false)) (some (.nx (st.1,(IntKind.i64.wrap (st.2+1)))))) (some (.bk (st.1,st.2)))
def p7 (u0:aj)(c:aj)(st:(Bool×Int)):Option (Fl (Bool×Int) Bool):=
 cond (decide (st.2<(u0.aB.length:Int))) (ah (bq u0.aB st.2) fun a=>ah (bq c.aB st.2) fun b=>cond (!((a.aK==b.aK)&&(a.high==b.high))) (some (.rt false)) (some (.nx (st.1,(IntKind.i64.wrap (st.2+1)))))) (some (.bk (st.1,st.2)))
def vY (u0:aj)(c:aj)(st:(Bool×Int)):Option (Fl (Bool×Int) Bool):=
 cond (decide (st.2<(u0.props.length:Int))) (ah (bq u0.props st.2) fun a=>ah (bq c.props st.2) fun b=>cond (!((a.place==b.place)&&(a.cV==b.cV))) (some (.rt false)) (some (.nx (st.1,(IntKind.i64.wrap (st.2+1)))))) (some (.bk (st.1,st.2)))
def vZ (u0:aj)(c:aj)(st:(Bool×Int)):Option (Fl (Bool×Int) Bool):=
 cond (decide (st.2<(u0.aC.length:Int))) (ah (bq u0.aC st.2) fun a=>ah (bq c.aC st.2) fun b=>cond (!((a.back==b.back)&&((a.high.low==b.high.low)&&(a.high.high==b.high.high)))) (some (.rt false)) (some (.nx (st.1,(IntKind.i64.wrap (st.2+1)))))) (some (.bk (st.1,st.2)))
def v5 (u0:aj)(c:aj)(st:(Bool×Int)):Option (Fl (Bool×Int) Bool):=
 cond (decide (st.2<(u0.told.length:Int))) (ah (bq u0.told st.2) fun a=>ah (bq c.told st.2) fun b=>cond (!((a.aT==b.aT)&&(a.bg==b.bg))) (some (.rt false)) (some (.nx (st.1,(IntKind.i64.wrap (st.2+1)))))) (some (.bk (st.1,st.2)))
def nS (u0:aj)(a:aj):Option Bool:=
 cond ((u0.bF != a.bF)) (some false) (cond ((u0.bL != a.bL)) (some false) (cond (!((u0.aV.num==a.aV.num)&&(u0.aV.den==a.aV.den))) (some false) (cond (((u0.aB.length:Int) != (a.aB.length:Int))) (some false) (cond (((u0.props.length:Int) != (a.props.length:Int))) (some false) (cond (((u0.aC.length:Int) != (a.aC.length:Int))) (some false) (cond (((u0.told.length:Int) != (a.told.length:Int))) (some false) (ah (aR (p7 u0 a) fu (false,0)) fun o=>aF o (fun b=>ah (aR (vY u0 a) fu (b.1,0)) fun o=>aF o (fun c=>ah (aR (vZ u0 a) fu (c.1,0)) fun o=>aF o (fun d=>ah (aR (v5 u0 a) fu (d.1,0)) fun o=>aF o (fun e=>some true) (fun _ _=>none) (fun r=>some r)) (fun _ _=>none) (fun r=>some r)) (fun _ _=>none) (fun r=>some r)) (fun _ _=>none) (fun r=>some r))))))))
set_option maxHeartbeats 40000000 in
theorem z5 {ro:Addr->Option Value}(u0:aj){s1 a2 a3 a4:Value}(c:bt ro u0 s1 a2 a3 a4)(a:aj){a5 a6 a7 a8:Value}(d:bt ro a a5 a6 a7 a8){r:Bool}(h:nS u0 a=some r):aA Tryz.prog 33 #[bv u0 s1 a2 a3 a4,bv a a5 a6 a7 a8] ⟨ro,[]⟩ (fun v _=>v= .bool r):=by
 obtain ⟨d3,c4,rfl,hT,hV,-⟩:=id c.e
 obtain ⟨d10,z,rfl,hX,hY,-⟩:=id c.p
 obtain ⟨d17,B,rfl,hZ,h0,-⟩:=id c.y
 obtain ⟨d24,C,rfl,h1,h2,-⟩:=id c.t
 obtain ⟨d31,D,rfl,h3,h4,-⟩:=id d.e
 obtain ⟨d38,E,rfl,h5,h6,-⟩:=id d.p
 obtain ⟨d45,F,rfl,h7,h8,-⟩:=id d.y
 obtain ⟨d52,G,rfl,h9,ib,-⟩:=id d.t
 unfold nS at h
 refine aA.go Tryz.func33 rfl Tryz.ntmps33 Tryz.results33 (by simp) fun main J hJ A b4 hd hs=>?_
 have b5:=hs 0
 have k1:=hs 1
 clear hs
 refine aa hJ (af hJ ?_)
 try simp (maxSteps:=10000000) only[*,go_sem]
 refine an fun f ic ca=>?_;try simp only[ak] at ca
 refine an fun g ih cb=>?_;try simp only[ak] at cb
 try simp (maxSteps:=10000000) only[*,go_sem]
 refine aa hJ (aa hJ (af hJ ?_))
 revert h;refine cS (fun cd h=>?_) fun cd h=>?_
 ·obtain rfl:=sI h
  try simp (maxSteps:=10000000) only[*,go_sem]
  refine bD hJ (by simp (maxSteps:=10000000) only[*,go_sem]) ?_
  refine aa hJ (af hJ ?_)
  try simp (maxSteps:=10000000) only[*,go_sem]
  refine av ?_
  try simp only[*,go_sem]
 revert h;refine cS (fun cf h=>?_) fun cf h=>?_
 ·obtain rfl:=sI h
  try simp (maxSteps:=10000000) only[*,go_sem]
  refine bD hJ (by simp (maxSteps:=10000000) only[*,go_sem]) ?_
  refine aa hJ (af hJ ?_)
  try simp (maxSteps:=10000000) only[*,go_sem]
  refine av ?_
  try simp only[*,go_sem]
 revert h;refine cS (fun cl h=>?_) fun cl h=>?_
 ·obtain rfl:=sI h
  try simp (maxSteps:=10000000) only[*,go_sem]
  refine bD hJ (by simp (maxSteps:=10000000) only[*,go_sem]) ?_
  refine aa hJ (af hJ ?_)
  try simp (maxSteps:=10000000) only[*,go_sem]
  refine av ?_
  try simp only[*,go_sem]
 revert h;refine cS (fun cy h=>?_) fun cy h=>?_
 ·obtain rfl:=sI h
  try simp (maxSteps:=10000000) only[*,go_sem]
  refine bD hJ (by simp (maxSteps:=10000000) only[*,go_sem]) ?_
  refine aa hJ (af hJ ?_)
  try simp (maxSteps:=10000000) only[*,go_sem]
  refine av ?_
  try simp only[*,go_sem]
 revert h;refine cS (fun c0 h=>?_) fun c0 h=>?_
 ·obtain rfl:=sI h
  try simp (maxSteps:=10000000) only[*,go_sem]
  refine bD hJ (by simp (maxSteps:=10000000) only[*,go_sem]) ?_
  refine aa hJ (af hJ ?_)
  try simp (maxSteps:=10000000) only[*,go_sem]
  refine av ?_
  try simp only[*,go_sem]
 revert h;refine cS (fun da h=>?_) fun da h=>?_
 ·obtain rfl:=sI h
  try simp (maxSteps:=10000000) only[*,go_sem]
  refine bD hJ (by simp (maxSteps:=10000000) only[*,go_sem]) ?_
  refine aa hJ (af hJ ?_)
  try simp (maxSteps:=10000000) only[*,go_sem]
  refine av ?_
  try simp only[*,go_sem]
 try simp (maxSteps:=10000000) only[*,go_sem]
 revert h;refine cS (fun db h=>?_) fun db h=>?_
 ·obtain rfl:=sI h
  refine bD hJ (by simp (maxSteps:=10000000) only[*,go_sem]) ?_
  refine aa hJ (af hJ ?_)
  try simp (maxSteps:=10000000) only[*,go_sem]
  refine av ?_
  try simp only[*,go_sem]
 refine bI hJ (by simp (maxSteps:=10000000) only[*,go_sem]) ?_
 refine aD hJ (aa hJ ?_)
 refine aa hJ (af hJ ?_)
 try simp (maxSteps:=10000000) only[*,go_sem]
 refine aM hJ ?_
 revert h;refine bS fun dd H a9=>?_
 refine bM hJ [4,5,64,65,66,67,68,69,70,71,72,73,74,75,76,77,78,79,80,81] (fun m b F'=>∃(i:Bool) (I:Int),aR (p7 u0 a) m (i,I)=some dd/\F'=⟨ro,(g,bk a (sl d31 a.aB D) (sl d38 a.props E) (sl d45 a.aC F) (sl d52 a.told G))::(f,bk u0 (sl d3 u0.aB c4) (sl d10 u0.props z) (sl d17 u0.aC B) (sl d24 u0.told C))::[]⟩/\slot b 4= .bool i/\slot b 5= .int .i64 I) fu ?_ ?_
 ·refine ⟨false,0,H,rfl,?_⟩
  try simp (maxSteps:=10000000) only[*,go_sem]
 rintro X K F' j ⟨i,I,H,rfl,df,dk⟩
 have dp:sz K=136:=by rw[j.size];simp (maxSteps:=10000000) only[*,go_sem]
 have dq:K.defers=[]:=by rw[j.defers];simp (maxSteps:=10000000) only[*,go_sem]
 have ds:slot K 2= .pointer (some ⟨f,0,none⟩):=by rw[j.dJ 2 (by decide)];simp (maxSteps:=10000000) only[*,go_sem]
 have dt:slot K 3= .pointer (some ⟨g,0,none⟩):=by rw[j.dJ 3 (by decide)];simp (maxSteps:=10000000) only[*,go_sem]
 clear j b4 hd b5 k1
 obtain _|X:=X
 ·exact absurd H (by simp only[aR,reduceCtorEq,not_false_eq_true])
 revert H;refine bS fun ik h k=>?_
 unfold p7 at h
 try dsimp only at h
 refine aa hJ (aa hJ (af hJ ?_))
 try simp (maxSteps:=10000000) only[*,go_sem]
 revert h;refine cS (fun ba h=>?_) fun ba h=>?_
 ·try simp only[Int.ofNat_lt] at ba
  refine bD hJ (by simp (maxSteps:=10000000) only[*,go_sem]) ?_
  refine aD hJ (aa hJ ?_)
  refine aM hJ (aa hJ ?_)
  refine cQ hJ mixed 11 2 (by simp (maxSteps:=10000000) only[*,go_sem]) (by kernel_rfl) ?_
  revert h;refine bS fun du dv h=>?_
  obtain ⟨il,im,bb⟩:=bX dv
  obtain ⟨iv,dC,dE,dT,Y⟩:=c.e.el _ _ bb
  obtain rfl:dC=du.cells:=dT
  cases dE
  have ea:=Y 0 _ rfl;simp only[go_sem] at ea
  have eb:=Y 1 _ rfl;simp only[go_sem] at eb
  clear Y bb
  revert h;refine bS fun ec ed h=>?_
  obtain ⟨ix,jC,bc⟩:=bX ed
  obtain ⟨j1,eh,et,ev,Z⟩:=d.e.el _ _ bc
  obtain rfl:eh=ec.cells:=ev
  cases et
  have eQ:=Z 0 _ rfl;simp only[go_sem] at eQ
  have eS:=Z 1 _ rfl;simp only[go_sem] at eS
  clear Z bc
  try simp (maxSteps:=10000000) only[*,go_sem]
  revert h;refine cS (fun e0 h=>?_) fun e0 h=>?_
  ·obtain rfl:=sI h
   refine bD hJ (by simp (maxSteps:=10000000) only[*,go_sem]) ?_
   refine aa hJ (af hJ ?_)
   try simp (maxSteps:=10000000) only[*,go_sem]
   obtain rfl:=sI k;clear k
   have h:=a9
   dsimp only[aF] at h
   obtain rfl:=sI h
   refine av ?_
   try simp only[*,go_sem]
  obtain rfl:=sI h
  refine bI hJ (by simp (maxSteps:=10000000) only[*,go_sem]) ?_
  refine aD hJ (af hJ ?_)
  try simp (maxSteps:=10000000) only[*,go_sem]
  try simp (maxSteps:=10000000) only[*,go_sem]
  refine ⟨X,Nat.lt_succ_self _,_,Le.sub (List.Sublist.refl _),i,(IntKind.i64.wrap (I+1)),k,rfl,?_⟩
  try simp (maxSteps:=10000000) only[*,go_sem]
 obtain rfl:=sI h
 refine bI hJ (by simp (maxSteps:=10000000) only[*,go_sem]) ?_
 refine bJ ?_
 try simp only[go_sem]
 obtain rfl:=sI k;clear k
 have h:=a9
 dsimp only[aF] at h
 refine aa hJ (aa hJ (af hJ ?_))
 try simp (maxSteps:=10000000) only[*,go_sem]
 refine aM hJ ?_
 revert h;refine bS fun e1 L bd=>?_
 refine bM hJ [4,6,82,83,84,85,86,87,88,89,90,91,92,93,94,95,96,97,98,99] (fun m b F'=>∃(l:Bool) (M:Int),aR (z4 u0 a) m (l,M)=some e1/\F'=⟨ro,(g,bk a (sl d31 a.aB D) (sl d38 a.props E) (sl d45 a.aC F) (sl d52 a.told G))::(f,bk u0 (sl d3 u0.aB c4) (sl d10 u0.props z) (sl d17 u0.aC B) (sl d24 u0.told C))::[]⟩/\slot b 4= .bool l/\slot b 6= .int .i64 M) fu ?_ ?_
 ·refine ⟨i,0,L,rfl,?_⟩
  try simp (maxSteps:=10000000) only[*,go_sem]
 rintro ab N F' n ⟨l,M,L,rfl,e2,e3⟩
 have fa:sz N=136:=by rw[n.size];simp (maxSteps:=10000000) only[*,go_sem]
 have fb:N.defers=[]:=by rw[n.defers];simp (maxSteps:=10000000) only[*,go_sem]
 have fg:slot N 2= .pointer (some ⟨f,0,none⟩):=by rw[n.dJ 2 (by decide)];simp (maxSteps:=10000000) only[*,go_sem]
 have fi:slot N 3= .pointer (some ⟨g,0,none⟩):=by rw[n.dJ 3 (by decide)];simp (maxSteps:=10000000) only[*,go_sem]
 clear n dp dq ds dt df dk
 obtain _|ab:=ab
 ·exact absurd L (by simp only[aR,reduceCtorEq,not_false_eq_true])
 revert L;refine bS fun j2 h o=>?_
 unfold z4 at h
 try dsimp only at h
 refine aa hJ (aa hJ (af hJ ?_))
 try simp (maxSteps:=10000000) only[*,go_sem]
 revert h;refine cS (fun bj h=>?_) fun bj h=>?_
 ·try simp only[Int.ofNat_lt] at bj
  refine bD hJ (by simp (maxSteps:=10000000) only[*,go_sem]) ?_
  refine aD hJ (aa hJ ?_)
  refine aM hJ (aa hJ ?_)
  refine cQ hJ mixed 11 2 (by simp (maxSteps:=10000000) only[*,go_sem]) (by kernel_rfl) ?_
  revert h;refine bS fun fp fr h=>?_
  obtain ⟨kh,kj,bl⟩:=bX fr
  obtain ⟨kk,fs,ft,fv,ad⟩:=c.p.el _ _ bl
  obtain rfl:fs=fp.cells:=fv
  cases ft
  have fw:=ad 0 _ rfl;simp only[go_sem] at fw
  have fx:=ad 1 _ rfl;simp only[go_sem] at fx
  clear ad bl
  revert h;refine bS fun gg gl h=>?_
  obtain ⟨kl,km,bm⟩:=bX gl
  obtain ⟨kn,gn,gp,gB,ae⟩:=d.p.el _ _ bm
  obtain rfl:gn=gg.cells:=gB
  cases gp
  have gC:=ae 0 _ rfl;simp only[go_sem] at gC
  have gM:=ae 1 _ rfl;simp only[go_sem] at gM
  clear ae bm
  try simp (maxSteps:=10000000) only[*,go_sem]
  revert h;refine cS (fun gT h=>?_) fun gT h=>?_
  ·obtain rfl:=sI h
   refine bD hJ (by simp (maxSteps:=10000000) only[*,go_sem]) ?_
   refine aa hJ (af hJ ?_)
   try simp (maxSteps:=10000000) only[*,go_sem]
   obtain rfl:=sI o;clear o
   have h:=bd
   dsimp only[aF] at h
   obtain rfl:=sI h
   refine av ?_
   try simp only[*,go_sem]
  obtain rfl:=sI h
  refine bI hJ (by simp (maxSteps:=10000000) only[*,go_sem]) ?_
  refine aD hJ (af hJ ?_)
  try simp (maxSteps:=10000000) only[*,go_sem]
  try simp (maxSteps:=10000000) only[*,go_sem]
  refine ⟨ab,Nat.lt_succ_self _,_,Le.sub (List.Sublist.refl _),l,(IntKind.i64.wrap (M+1)),o,rfl,?_⟩
  try simp (maxSteps:=10000000) only[*,go_sem]
 obtain rfl:=sI h
 refine bI hJ (by simp (maxSteps:=10000000) only[*,go_sem]) ?_
 refine bJ ?_
 try simp only[go_sem]
 obtain rfl:=sI o;clear o
 have h:=bd
 dsimp only[aF] at h
 refine aa hJ (aa hJ (af hJ ?_))
 try simp (maxSteps:=10000000) only[*,go_sem]
 refine aM hJ ?_
 revert h;refine bS fun gV O bo=>?_
 refine bM hJ [4,7,100,101,102,103,104,105,106,107,108,109,110,111,112,113,114,115,116,117] (fun m b F'=>∃(q:Bool) (P:Int),aR (z3 u0 a) m (q,P)=some gV/\F'=⟨ro,(g,bk a (sl d31 a.aB D) (sl d38 a.props E) (sl d45 a.aC F) (sl d52 a.told G))::(f,bk u0 (sl d3 u0.aB c4) (sl d10 u0.props z) (sl d17 u0.aC B) (sl d24 u0.told C))::[]⟩/\slot b 4= .bool q/\slot b 7= .int .i64 P) fu ?_ ?_
 ·refine ⟨l,0,O,rfl,?_⟩
  try simp (maxSteps:=10000000) only[*,go_sem]
 rintro al Q F' s ⟨q,P,O,rfl,g0,g1⟩
 have g2:sz Q=136:=by rw[s.size];simp (maxSteps:=10000000) only[*,go_sem]
 have g3:Q.defers=[]:=by rw[s.defers];simp (maxSteps:=10000000) only[*,go_sem]
 have g4:slot Q 2= .pointer (some ⟨f,0,none⟩):=by rw[s.dJ 2 (by decide)];simp (maxSteps:=10000000) only[*,go_sem]
 have ha:slot Q 3= .pointer (some ⟨g,0,none⟩):=by rw[s.dJ 3 (by decide)];simp (maxSteps:=10000000) only[*,go_sem]
 clear s fa fb fg fi e2 e3
 obtain _|al:=al
 ·exact absurd O (by simp only[aR,reduceCtorEq,not_false_eq_true])
 revert O;refine bS fun kp h u=>?_
 unfold z3 at h
 try dsimp only at h
 refine aa hJ (aa hJ (af hJ ?_))
 try simp (maxSteps:=10000000) only[*,go_sem]
 revert h;refine cS (fun br h=>?_) fun br h=>?_
 ·try simp only[Int.ofNat_lt] at br
  refine bD hJ (by simp (maxSteps:=10000000) only[*,go_sem]) ?_
  refine aD hJ (aa hJ ?_)
  refine aM hJ (aa hJ ?_)
  refine cQ hJ mixed 11 2 (by simp (maxSteps:=10000000) only[*,go_sem]) (by kernel_rfl) ?_
  revert h;refine bS fun hc hf h=>?_
  obtain ⟨ks,kt,bs⟩:=bX hf
  obtain ⟨kv,hg,hh,hi,R⟩:=c.y.el _ _ bs
  obtain rfl:hg=hc.cells:=hi
  cases hh
  have hj:=R 0 _ rfl;simp only[go_sem] at hj
  have hk:=R 1 _ rfl;simp only[go_sem] at hk
  have hl:=R 2 _ rfl;simp only[go_sem] at hl
  clear R bs
  revert h;refine bS fun hn ho h=>?_
  obtain ⟨kx,ky,bz⟩:=bX ho
  obtain ⟨k0,hp,hq,hr,S⟩:=d.y.el _ _ bz
  obtain rfl:hp=hn.cells:=hr
  cases hq
  have ht:=S 0 _ rfl;simp only[go_sem] at ht
  have hv:=S 1 _ rfl;simp only[go_sem] at hv
  have hx:=S 2 _ rfl;simp only[go_sem] at hx
  clear S bz
  try simp (maxSteps:=10000000) only[*,go_sem]
  revert h;refine cS (fun hy h=>?_) fun hy h=>?_
  ·obtain rfl:=sI h
   refine bD hJ (by simp (maxSteps:=10000000) only[*,go_sem]) ?_
   refine aa hJ (af hJ ?_)
   try simp (maxSteps:=10000000) only[*,go_sem]
   obtain rfl:=sI u;clear u
   have h:=bo
   dsimp only[aF] at h
   obtain rfl:=sI h
   refine av ?_
   try simp only[*,go_sem]
  obtain rfl:=sI h
  refine bI hJ (by simp (maxSteps:=10000000) only[*,go_sem]) ?_
  refine aD hJ (af hJ ?_)
  try simp (maxSteps:=10000000) only[*,go_sem]
  try simp (maxSteps:=10000000) only[*,go_sem]
  refine ⟨al,Nat.lt_succ_self _,_,Le.sub (List.Sublist.refl _),q,(IntKind.i64.wrap (P+1)),u,rfl,?_⟩
  try simp (maxSteps:=10000000) only[*,go_sem]
 obtain rfl:=sI h
 refine bI hJ (by simp (maxSteps:=10000000) only[*,go_sem]) ?_
 refine bJ ?_
 try simp only[go_sem]
 obtain rfl:=sI u;clear u
 have h:=bo
 dsimp only[aF] at h
 refine aa hJ (aa hJ (af hJ ?_))
 try simp (maxSteps:=10000000) only[*,go_sem]
 refine aM hJ ?_
 revert h;refine bS fun hz T b0=>?_
 refine bM hJ [4,8,118,119,120,121,122,123,124,125,126,127,128,129,130,131,132,133,134,135] (fun m b F'=>∃(U:Bool) (V:Int),aR (z2 u0 a) m (U,V)=some hz/\F'=⟨ro,(g,bk a (sl d31 a.aB D) (sl d38 a.props E) (sl d45 a.aC F) (sl d52 a.told G))::(f,bk u0 (sl d3 u0.aB c4) (sl d10 u0.props z) (sl d17 u0.aC B) (sl d24 u0.told C))::[]⟩/\slot b 4= .bool U/\slot b 8= .int .i64 V) fu ?_ ?_
 ·refine ⟨q,0,T,rfl,?_⟩
  try simp (maxSteps:=10000000) only[*,go_sem]
 rintro ao W F' w ⟨U,V,T,rfl,k2,lb⟩
 have lh:sz W=136:=by rw[w.size];simp (maxSteps:=10000000) only[*,go_sem]
 have lj:W.defers=[]:=by rw[w.defers];simp (maxSteps:=10000000) only[*,go_sem]
 have lk:slot W 2= .pointer (some ⟨f,0,none⟩):=by rw[w.dJ 2 (by decide)];simp (maxSteps:=10000000) only[*,go_sem]
 have ll:slot W 3= .pointer (some ⟨g,0,none⟩):=by rw[w.dJ 3 (by decide)];simp (maxSteps:=10000000) only[*,go_sem]
 clear w g2 g3 g4 ha g0 g1
 obtain _|ao:=ao
 ·exact absurd T (by simp only[aR,reduceCtorEq,not_false_eq_true])
 revert T;refine bS fun ln h x=>?_
 unfold z2 at h
 try dsimp only at h
 refine aa hJ (aa hJ (af hJ ?_))
 try simp (maxSteps:=10000000) only[*,go_sem]
 revert h;refine cS (fun b1 h=>?_) fun b1 h=>?_
 ·try simp only[Int.ofNat_lt] at b1
  refine bD hJ (by simp (maxSteps:=10000000) only[*,go_sem]) ?_
  refine aD hJ (aa hJ ?_)
  refine aM hJ (aa hJ ?_)
  refine cQ hJ mixed 11 2 (by simp (maxSteps:=10000000) only[*,go_sem]) (by kernel_rfl) ?_
  revert h;refine bS fun hA hB h=>?_
  obtain ⟨lo,lr,b2⟩:=bX hB
  obtain ⟨lv,hD,hE,hF,ar⟩:=c.t.el _ _ b2
  obtain rfl:hD=hA.cells:=hF
  cases hE
  have hG:=ar 0 _ rfl;simp only[go_sem] at hG
  have hI:=ar 1 _ rfl;simp only[go_sem] at hI
  clear ar b2
  revert h;refine bS fun hK hL h=>?_
  obtain ⟨lx,ly,b3⟩:=bX hL
  obtain ⟨lL,hM,hN,hP,a0⟩:=d.t.el _ _ b3
  obtain rfl:hM=hK.cells:=hP
  cases hN
  have hQ:=a0 0 _ rfl;simp only[go_sem] at hQ
  have hR:=a0 1 _ rfl;simp only[go_sem] at hR
  clear a0 b3
  try simp (maxSteps:=10000000) only[*,go_sem]
  revert h;refine cS (fun hS h=>?_) fun hS h=>?_
  ·obtain rfl:=sI h
   refine bD hJ (by simp (maxSteps:=10000000) only[*,go_sem]) ?_
   refine aa hJ (af hJ ?_)
   try simp (maxSteps:=10000000) only[*,go_sem]
   obtain rfl:=sI x;clear x
   have h:=b0
   dsimp only[aF] at h
   obtain rfl:=sI h
   refine av ?_
   try simp only[*,go_sem]
  obtain rfl:=sI h
  refine bI hJ (by simp (maxSteps:=10000000) only[*,go_sem]) ?_
  refine aD hJ (af hJ ?_)
  try simp (maxSteps:=10000000) only[*,go_sem]
  try simp (maxSteps:=10000000) only[*,go_sem]
  refine ⟨ao,Nat.lt_succ_self _,_,Le.sub (List.Sublist.refl _),U,(IntKind.i64.wrap (V+1)),x,rfl,?_⟩
  try simp (maxSteps:=10000000) only[*,go_sem]
 obtain rfl:=sI h
 refine bI hJ (by simp (maxSteps:=10000000) only[*,go_sem]) ?_
 refine bJ ?_
 try simp only[go_sem]
 obtain rfl:=sI x;clear x
 have h:=b0
 dsimp only[aF] at h
 obtain rfl:=sI h
 refine aa hJ (af hJ ?_)
 try simp (maxSteps:=10000000) only[*,go_sem]
 refine av ?_
 try simp only[*,go_sem]
def dw {α:Type}(t:Nat->α->Option Int):Nat->List α->Option Int
 |_,[]=>none
 |i,x::l=>match t i x with
  |some r=>some r
  |none=>dw t (i+1) l
def gE {σ:Type}(o:Option Int)(s:σ):Fl σ Int:=match o with
 |some r=>.rt r
 |none=>.nx s
theorem p8 {α σ:Type}{f:Nat->α->σ->Option (Fl σ Int)}{t:Nat->α->Option Int}:∀(l:List α) (i:Nat) (s:σ),(∀j x s,l[j]?=some x->f (i+j) x s=some (gE (t (i+j) x) s))->bE f i l s=some (gE (dw t i l) s)
 |[],i,s,_=>rfl
 |x::l,i,s,h=>by
  have h0:=h 0 x s rfl
  simp only[Nat.add_zero] at h0
  unfold bE dw
  rw[h0]
  cases ht:t i x with
  |some r=>rfl
  |none=>
   show bE f (i+1) l s=_
   exact p8 l (i+1) s fun j y s a=>by
    have:=h (j+1) y s (by simpa using a)
    rwa [show i+(j+1)=i+1+j by omega] at this
theorem z6 {α σ:Type}{f:σ×Int->Option (Fl (σ×Int) Int)}{t:Nat->α->Option Int}(l:List α)(h:∀(i:Nat) x s,l[i]?=some x->f (s,(i:Int))=some (gE (t i x) (s,((i+1:Nat):Int))))(a:∀s,f (s,(l.length:Int))=some (.bk (s,(l.length:Int)))):
  ∀(k i n:Nat) (s:σ),i+k=l.length->k<n->aR f n (s,(i:Int))=some (gE (dw t i (l.drop i)) (s,(l.length:Int)))
 |0,i,n+1,s,hi,_=>by
  obtain rfl:i=l.length:=by omega
  unfold aR
  rw[a,List.drop_length]
  rfl
 |k+1,i,n+1,s,hi,d=>by
  have b:i<l.length:=by omega
  have c:l[i]?=some l[i]:=List.getElem?_eq_getElem b
  unfold aR
  rw[h i _ s c,List.drop_eq_getElem_cons b]
  unfold dw
  cases ht:t i l[i] with
  |some r=>rfl
  |none=>exact z6 l h a k (i+1) n s (by omega) (by omega)
theorem so {α σ:Type}{f:σ×Int->Option (Fl (σ×Int) Int)}{t:Nat->α->Option Int}(l:List α)(a:l.length<=1000)(h:∀(i:Nat) x s,l[i]?=some x->f (s,(i:Int))=some (gE (t i x) (s,((i+1:Nat):Int))))(b:∀s,f (s,(l.length:Int))=some (.bk (s,(l.length:Int))))(s:σ):
  aR f fu (s,0)=some (gE (dw t 0 l) (s,(l.length:Int))):=by
 have:=z6 l h b l.length 0 fu s (by omega) (Nat.lt_of_le_of_lt a (by decide))
 simpa using this
theorem jN:ff=eG:=rfl
theorem z7:o5=kC:=rfl
def bK (a lo hi:Int):Bool:=decide (lo<=a)&&decide (a<=hi)
theorem eU (a lo hi:Int):eG a lo hi=some (bK a lo hi):=by
 unfold eG bK
 cases decide (lo<=a)<;>rfl
def jO (b:cr)(lo hi:Int):Bool:=decide (lo<=b.low)&&(decide (b.low<=b.high)&&decide (b.high<=hi))
theorem v7 (b:cr)(lo hi:Int):kC b lo hi=some (jO b lo hi):=by
 unfold kC jO
 cases decide (lo<=b.low)<;>cases decide (b.low<=b.high)<;>rfl
theorem cF {n:Int}(h: -9223372036854775808<=n/\n<9223372036854775808):IntKind.i64.wrap n=n:=IntWalk.i64_in _ (by constructor<;>omega)
def fZ (u:aj)(i:Nat)(x:bZ):Option Int:=
 cond (bK x.aK 0 (IntKind.i64.wrap (u.bF - 1))) (cond (bK x.high 0 60) (match i with
  |0=>none
  |j+1=>match u.aB[j]? with
   |some y=>cond (decide (x.aK<=y.aK)) (some 7) none
   |none=>none) (some 1)) (some 1)
theorem z8 (u:aj)(g:u.aB.length<=20):kr u=some (cond (bK u.aB.length 2 5) ((dw (fZ u) 0 u.aB).getD 0) 2)/\l5 u=kr u:=by
 have key:kr u=some (cond (bK u.aB.length 2 5) ((dw (fZ u) 0 u.aB).getD 0) 2):=by
  unfold kr
  rw[jN,eU]
  show cond (!bK (u.aB.length:Int) 2 5) _ _=_
  cases bK (u.aB.length:Int) 2 5 with
  |false=>rfl
  |true=>
   show ah (bE _ 0 u.aB 0) _=_
   rw[p8 (t:=fZ u) u.aB 0 0 ?_]
   ·show aF (gE _ _) _ _ _=_
    cases dw (fZ u) 0 u.aB<;>rfl
   ·intro j x s b
    rw[Nat.zero_add]
    unfold rz fZ
    rw[jN,eU,eU]
    show cond (!bK x.aK 0 _) _ _=_
    cases bK x.aK 0 (IntKind.i64.wrap (u.bF - 1)) with
    |false=>rfl
    |true=>
     show cond (!bK x.high 0 60) _ _=_
     cases bK x.high 0 60 with
     |false=>rfl
     |true=>
      cases j with
      |zero=>rfl
      |succ j=>
       have d:=(List.getElem?_eq_some_iff.1 b).1
       have a:u.aB[j]?=some u.aB[j]:=List.getElem?_eq_getElem (by omega)
       have hw:IntKind.i64.wrap (((j+1:Nat):Int) - 1)=(j:Int):=by rw[cF (by omega)];omega
       have hd:decide (0<((j+1:Nat):Int))=true:=decide_eq_true (by omega)
       show cond (decide (0<((j+1:Nat):Int))) _ _=_
       rw[hd,hw]
       have hi:bq u.aB (j:Int)=some u.aB[j]:=by unfold bq;rw[if_pos (by omega),Int.toNat_natCast,a]
       show ah (bq u.aB (j:Int)) _=_
       rw[hi]
       simp only[a]
       show cond (decide (x.aK<=u.aB[j].aK)) _ _=_
       cases decide (x.aK<=u.aB[j].aK)<;>rfl
 refine ⟨key,?_⟩
 rw[key]
 unfold l5
 rw[eU]
 show cond (!bK (u.aB.length:Int) 2 5) _ _=_
 cases bK (u.aB.length:Int) 2 5 with
 |false=>rfl
 |true=>
  show ah (aR _ fu (0,0)) _=_
  rw[so (t:=fZ u) u.aB (by omega) ?_ ?_ 0]
  ·show aF (gE _ _) _ _ _=_
   cases dw (fZ u) 0 u.aB<;>rfl
  ·intro j x s b
   unfold pU fZ
   have d:=(List.getElem?_eq_some_iff.1 b).1
   have c:decide ((j:Int)<(u.aB.length:Int))=true:=decide_eq_true (by omega)
   have e:bq u.aB (j:Int)=some x:=by unfold bq;rw[if_pos (by omega),Int.toNat_natCast,b]
   have f:IntKind.i64.wrap ((j:Int)+1)=((j+1:Nat):Int):=by rw[cF (by omega)];omega
   show cond (decide ((j:Int)<(u.aB.length:Int))) (ah (bq u.aB (j:Int)) _) _=_
   rw[c,e,cond_true]
   show ah (eG x.aK 0 (IntKind.i64.wrap (u.bF - 1))) _=_
   rw[eU]
   show cond (!bK x.aK 0 _) _ (ah (eG x.high 0 60) _)=_
   rw[eU]
   cases bK x.aK 0 (IntKind.i64.wrap (u.bF - 1)) with
   |false=>rfl
   |true=>
    show cond (!bK x.high 0 60) _ _=_
    cases bK x.high 0 60 with
    |false=>rfl
    |true=>
     cases j with
     |zero=>rfl
     |succ j=>
      have a:u.aB[j]?=some u.aB[j]:=List.getElem?_eq_getElem (by omega)
      have hw:IntKind.i64.wrap (((j+1:Nat):Int) - 1)=(j:Int):=by rw[cF (by omega)];omega
      have hd:decide (0<((j+1:Nat):Int))=true:=decide_eq_true (by omega)
      have hi:bq u.aB (j:Int)=some u.aB[j]:=by unfold bq;rw[if_pos (by omega),Int.toNat_natCast,a]
      dsimp only
      simp only[hd,hw,hi,f,a,ah,cond_true,Bool.not_true,cond_false]
      cases decide (x.aK<=u.aB[j].aK)<;>rfl
  ·intro s
   unfold pU
   have c:decide ((u.aB.length:Int)<(u.aB.length:Int))=false:=decide_eq_false (by omega)
   show cond (decide ((u.aB.length:Int)<(u.aB.length:Int))) _ _=_
   rw[c];rfl
theorem z9 {ρ:Type}{f:Int×Int->Option (Fl (Int×Int) ρ)}(d:∀a b:Nat,a<9223372036854775808->b<9223372036854775808->b≠0->f ((a:Int),(b:Int))=some (.nx ((b:Int),((a % b:Nat):Int))))(h0:∀a:Nat,f ((a:Int),0)=some (.bk ((a:Int),0))):
  ∀(b a k:Nat),a<9223372036854775808->b<9223372036854775808->b<k->aR f k ((a:Int),(b:Int))=some (.nx (((Nat.gcd a b:Nat):Int),0)):=by
 intro b
 induction b using Nat.strongRecOn with
 |ind b ih=>
  intro a k e hb g
  obtain ⟨k,rfl⟩:∃m,k=m+1:=⟨k - 1,by omega⟩
  unfold aR
  by_cases c:b=0
  ·subst c
   have:=h0 a
   rw[show ((0:Nat):Int)=0 from rfl,this,Nat.gcd_zero_right]
   rfl
  ·rw[d a b e hb c]
   show aR f k ((b:Int),((a % b:Nat):Int))=_
   have hm:a % b<b:=Nat.mod_lt _ (by omega)
   rw[ih (a % b) hm b k hb (by omega) (by omega),Nat.gcd_comm a b,Nat.gcd_rec b a,Nat.gcd_comm]
theorem Aa (a b:Nat)(d:a<9223372036854775808)(hb:b<9223372036854775808)(h:b≠0):lf (a:Int) (b:Int)=some ((a % b:Nat):Int):=by
 unfold lf
 have c:¬(b:Int)=0:=by omega
 rw[if_neg c]
 have e:((a:Int).tmod (b:Int))=((a % b:Nat):Int):=by
  rw[Int.tmod_eq_emod_of_nonneg (by omega)];rfl
 rw[e]
theorem FG (a k:Nat)(b:Nat)(c:a<9223372036854775808)(hb:b<9223372036854775808)(d:b<k):aR o6 k ((a:Int),(b:Int))=some (.nx (((Nat.gcd a b:Nat):Int),0)):=by
 refine z9 (fun a b c hb e=>?_) (fun a=>rfl) b a k c hb d
 unfold o6
 have:(((b:Nat):Int) != 0)=true:=by simp;omega
 dsimp only
 rw[this,Aa a b c hb e]
 rfl
theorem FH (a k:Nat)(b:Nat)(c:a<9223372036854775808)(hb:b<9223372036854775808)(d:b<k):aR nE k ((a:Int),(b:Int))=some (.nx (((Nat.gcd a b:Nat):Int),0)):=by
 refine z9 (fun a b c hb e=>?_) (fun a=>rfl) b a k c hb d
 unfold nE
 have:decide (0<((b:Nat):Int))=true:=decide_eq_true (by omega)
 dsimp only
 rw[this,Aa a b c hb e]
 rfl
def bG (n:Int)(d:Nat):au:=⟨n.tdiv (Nat.gcd n.natAbs d:Nat),(d:Int).tdiv (Nat.gcd n.natAbs d:Nat)⟩
theorem sr (a b:Int)(hb:0<b)(c: -9000000000000000000<=a/\a<=9000000000000000000):fU a b=some (a.tdiv b):=by
 unfold fU
 rw[if_neg (by omega)]
 congr 1
 have h1:(a.tdiv b).natAbs<=a.natAbs:=by rw[Int.natAbs_tdiv];exact Nat.div_le_self _ _
 exact cF (by omega)
theorem Ab (n:Int)(h: -9000000000000000000<=n/\n<=9000000000000000000):(if n<IntKind.i64.wrap (0 - n) then IntKind.i64.wrap (0 - n) else n)=(n.natAbs:Int):=by
 rw[cF (by omega)]
 split<;>omega
theorem p9 (n:Int)(d:Nat)(a: -9000000000000000000<=n/\n<=9000000000000000000)(hd:0<d)(b:d<900000000000000000):jH n d=some (bG n d):=by
 unfold jH
 rw[Ab n a,FG n.natAbs fu d (by omega) (by omega) (Nat.lt_trans b (by decide))]
 have hg:0<Nat.gcd n.natAbs d:=Nat.gcd_pos_of_pos_right _ hd
 show ah (fU n _) (fun x=>ah (fU d _) fun y=>_)=_
 rw[sr n _ (by omega) a,sr d _ (by omega) (by omega)]
 rfl
theorem qa (n:Int)(d:Nat)(a: -9000000000000000000<=n/\n<=9000000000000000000)(hd:0<d)(b:d<900000000000000000):gS n d=some (bG n d):=by
 unfold gS
 have:decide ((d:Int)<0)=false:=decide_eq_false (by omega)
 rw[this]
 show ah (aR nE fu _) _=_
 rw[Ab n a,FH n.natAbs fu d (by omega) (by omega) (Nat.lt_trans b (by decide))]
 have hg:0<Nat.gcd n.natAbs d:=Nat.gcd_pos_of_pos_right _ hd
 show ah (fU n _) (fun x=>ah (fU d _) fun y=>_)=_
 rw[sr n _ (by omega) a,sr d _ (by omega) (by omega)]
 rfl
def gW (u:aj)(f:Int->Bool)(_:Nat)(x:b6):Option Int:=cond (f x.place) (cond (bK x.cV 1 20) none (some 1)) (some 6)
def gX (_:Nat)(x:bV):Option Int:=cond (bK x.back 1 20) (cond (jO x.high 0 60) (cond (decide (3<=IntKind.i64.wrap (x.high.high - x.high.low))) (some 1) none) (some 1)) (some 1)
def gF (u:aj)(i:Int):Bool:=bK i 0 (IntKind.i64.wrap ((u.aC.length:Int) - 1))
def je (u:aj)(_:Nat)(x:bx):Option Int:=cond (gF u x.aT) none (some 6)
theorem su (u:aj)(i:Int):lU u i=some (gF u i)/\mV u i=some (gF u i):=by
 constructor
 ·unfold lU;rw[eU];rfl
 ·unfold mV;rw[jN,eU];rfl
theorem FI (u:aj)(h:Int):gz h u=some (cond (bK h 1 20) 0 1):=by
 unfold gz;rw[jN,eU]
 show cond (!bK h 1 20) _ _=_
 cases bK h 1 20<;>rfl
theorem Ac (u:aj)(h:0<u.aB.length)(h2:u.aB.length<=20):∃f:Int->Bool,∀p,fG u p=some (f p)/\lT u p=some (f p):=by
 have h0:u.aB[0]?=some u.aB[0]:=List.getElem?_eq_getElem h
 have a:u.aB[u.aB.length - 1]?=some (u.aB[u.aB.length - 1]'(by omega)):=List.getElem?_eq_getElem _
 have hw:IntKind.i64.wrap ((u.aB.length:Int) - 1)=((u.aB.length - 1:Nat):Int):=by rw[cF (by omega)];omega
 have e0:bq u.aB 0=some u.aB[0]:=h0
 have e1:bq u.aB ((u.aB.length - 1:Nat):Int)=some (u.aB[u.aB.length - 1]'(by omega)):=by unfold bq;rw[if_pos (by omega),Int.toNat_natCast,a]
 refine ⟨fun p=>bK p (u.aB[0]).aK (u.aB[u.aB.length - 1]'(by omega)).aK,fun p=>?_⟩
 have k:fG u p=some (bK p (u.aB[0]).aK (u.aB[u.aB.length - 1]'(by omega)).aK):=by
  unfold fG
  rw[hw,e0,e1,jN]
  simp only[ah,eU]
 exact ⟨k,k⟩
def gV (u:aj):Int:=cond (bK u.bF 2 60) (cond (bK u.bL 0 60) (cond (bK u.aV.den 1 20) (cond (bK u.aV.num 0 20) (cond (((bG u.aV.num u.aV.den.toNat).num==u.aV.num)&&((bG u.aV.num u.aV.den.toNat).den==u.aV.den)) 0 3) 1) 1) 1) 1
theorem fK {a lo hi:Int}:bK a lo hi=true↔lo<=a/\a<=hi:=by unfold bK;simp
theorem Ad (u:aj):mY u=some (gV u):=by
 unfold mY gV
 rw[jN]
 simp only[eU,ah]
 cases h1:bK u.bF 2 60 with
 |false=>rfl
 |true=>
  cases h2:bK u.bL 0 60 with
  |false=>rfl
  |true=>
   cases h3:bK u.aV.den 1 20 with
   |false=>rfl
   |true=>
    cases a:bK u.aV.num 0 20 with
    |false=>rfl
    |true=>
     rw[fK] at h3 a
     have hd:u.aV.den=(u.aV.den.toNat:Int):=by omega
     have:=p9 u.aV.num u.aV.den.toNat (by omega) (by omega) (by omega)
     rw[<-hd] at this
     simp only[this,cond_true,Bool.not_true,cond_false]
     cases (((bG u.aV.num u.aV.den.toNat).num==u.aV.num)&&((bG u.aV.num u.aV.den.toNat).den==u.aV.den))<;>rfl
theorem FJ (u:aj):gD u=cond (gV u != 0) (some (gV u)) (ah (l5 u) fun x=>cond (x != 0) (some x) (l6 u)):=by
 unfold gD gV
 simp only[eU,ah]
 cases h1:bK u.bF 2 60 with
 |false=>rfl
 |true=>
  cases h2:bK u.bL 0 60 with
  |false=>rfl
  |true=>
   cases h3:bK u.aV.den 1 20 with
   |false=>rfl
   |true=>
    cases a:bK u.aV.num 0 20 with
    |false=>rfl
    |true=>
     rw[fK] at h3 a
     have hd:u.aV.den=(u.aV.den.toNat:Int):=by omega
     have:=qa u.aV.num u.aV.den.toNat (by omega) (by omega) (by omega)
     rw[<-hd] at this
     simp only[this,cond_true,Bool.not_true,cond_false]
     cases (((bG u.aV.num u.aV.den.toNat).num==u.aV.num)&&((bG u.aV.num u.aV.den.toNat).den==u.aV.den)) with
     |false=>rfl
     |true=>
      simp only[Bool.not_true,cond_false,cond_true,bne_self_eq_false]
      cases l5 u with
      |none=>rfl
      |some x=>
       dsimp only
       cases l6 u<;>rfl
theorem v8 (u:aj):lH u=some (cond (decide (3<(u.told.length:Int))) 2 ((dw (je u) 0 u.told).getD 0)):=by
 unfold lH
 cases decide (3<(u.told.length:Int)) with
 |true=>rfl
 |false=>
  show ah (bE _ 0 u.told 0) _=_
  rw[p8 (t:=je u) u.told 0 0 ?_]
  ·show aF (gE _ _) _ _ _=_
   cases dw (je u) 0 u.told<;>rfl
  ·intro j x s a
   unfold rq je
   simp only[su,ah]
   cases gF u x.aT<;>rfl
theorem v9 (u:aj):lI u=some (cond (bK u.aC.length 1 3) ((dw gX 0 u.aC).getD 0) 2):=by
 unfold lI
 rw[jN,eU]
 simp only[ah]
 cases bK (u.aC.length:Int) 1 3 with
 |false=>rfl
 |true=>
  simp only[Bool.not_true,cond_false,cond_true]
  rw[p8 (t:=gX) u.aC 0 0 ?_]
  ·show aF (gE _ _) _ _ _=_
   cases dw gX 0 u.aC<;>rfl
  ·intro j x s a
   unfold ru gX
   simp only[jN,z7,eU,v7,ah]
   cases bK x.back 1 20 with
   |false=>rfl
   |true=>
    cases jO x.high 0 60 with
    |false=>rfl
    |true=>
     simp only[Bool.not_true,cond_false,cond_true]
     cases decide (3<=IntKind.i64.wrap (x.high.high - x.high.low))<;>rfl
theorem we (u:aj)(f:Int->Bool)(a:∀p,fG u p=some (f p)/\lT u p=some (f p)):lJ u=some (cond (decide (3<(u.props.length:Int))) 2 ((dw (gW u f) 0 u.props).getD 0)):=by
 unfold lJ
 cases decide (3<(u.props.length:Int)) with
 |true=>rfl
 |false=>
  show ah (bE _ 0 u.props 0) _=_
  rw[p8 (t:=gW u f) u.props 0 0 ?_]
  ·show aF (gE _ _) _ _ _=_
   cases dw (gW u f) 0 u.props<;>rfl
  ·intro j x s b
   unfold ry gW
   simp only[(a x.place).1,FI,ah]
   cases f x.place with
   |false=>rfl
   |true=>
    cases bK x.cV 1 20<;>rfl
theorem mj {α:Type}{t:Nat->α->Option Int}(h:∀i x r,t i x=some r->r≠0):∀(l:List α) (i:Nat) (r:Int),dw t i l=some r->r≠0
 |[],i,r,e=>by cases e
 |x::l,i,r,e=>by
  unfold dw at e
  cases ht:t i x with
  |some a=>rw[ht] at e;cases e;exact h i x _ ht
  |none=>rw[ht] at e;exact mj h l (i+1) r e
theorem Ae (u:aj)(f:Int->Bool)(i:Nat)(x:b6)(r:Int)(h:gW u f i x=some r):r≠0:=by
 unfold gW at h
 revert h
 cases f x.place<;>cases bK x.cV 1 20<;>intro h<;>cases h<;>decide
theorem Af (i:Nat)(x:bV)(r:Int)(h:gX i x=some r):r≠0:=by
 unfold gX at h
 revert h
 cases bK x.back 1 20<;>cases jO x.high 0 60<;>cases decide (3<=IntKind.i64.wrap (x.high.high - x.high.low))<;>intro h<;>cases h<;>decide
theorem FK (u:aj)(i:Nat)(x:bx)(r:Int)(h:je u i x=some r):r≠0:=by
 unfold je at h
 revert h
 cases gF u x.aT<;>intro h<;>cases h<;>decide
theorem Ah {o:Option Int}(h:∀r,o=some r->r≠0):(o.getD 0 != 0)=o.isSome:=by
 cases o with
 |none=>rfl
 |some r=>simpa using h r rfl
theorem FL (u:aj)(f:Int->Bool)(e:∀p,fG u p=some (f p)/\lT u p=some (f p))(h1:u.props.length<=20)(h2:u.aC.length<=20)(h3:u.told.length<=20):
  l6 u=ah (lJ u) fun x=>cond (x != 0) (some x) (ah (lI u) fun y=>cond (y != 0) (some y) (lH u)):=by
 rw[we u f e,v9,v8]
 unfold l6
 simp only[ah]
 cases h:decide (3<(u.props.length:Int)) with
 |true=>rfl
 |false=>
  simp only[cond_false]
  rw[so (t:=gW u f) u.props (by omega) ?_ ?_ 0]
  ·rw[Ah (mj (Ae u f) u.props 0)]
   cases dw (gW u f) 0 u.props with
   |some r=>rfl
   |none=>
    simp only[gE,aF,Option.isSome_none,cond_false,eU]
    cases i:bK (u.aC.length:Int) 1 3 with
    |false=>rfl
    |true=>
     simp only[Bool.not_true,cond_false,cond_true]
     rw[so (t:=gX) u.aC (by omega) ?_ ?_ 0]
     ·rw[Ah (mj Af u.aC 0)]
      cases dw gX 0 u.aC with
      |some r=>rfl
      |none=>
       simp only[gE,aF,Option.isSome_none,cond_false]
       cases k:decide (3<(u.told.length:Int)) with
       |true=>rfl
       |false=>
        simp only[cond_false]
        rw[so (t:=je u) u.told (by omega) ?_ ?_ 0]
        ·cases dw (je u) 0 u.told<;>rfl
        ·intro j x s b
         have g:=(List.getElem?_eq_some_iff.1 b).1
         have a:decide ((j:Int)<(u.told.length:Int))=true:=decide_eq_true (by omega)
         have c:bq u.told (j:Int)=some x:=by unfold bq;rw[if_pos (by omega),Int.toNat_natCast,b]
         have d:IntKind.i64.wrap ((j:Int)+1)=((j+1:Nat):Int):=by rw[cF (by omega)];omega
         unfold vT je
         simp only[a,c,d,ah,su,cond_true]
         cases gF u x.aT<;>rfl
        ·intro s
         have a:decide ((u.told.length:Int)<(u.told.length:Int))=false:=decide_eq_false (by omega)
         unfold vT
         simp only[a,cond_false]
     ·intro j x s b
      have g:=(List.getElem?_eq_some_iff.1 b).1
      have a:decide ((j:Int)<(u.aC.length:Int))=true:=decide_eq_true (by omega)
      have c:bq u.aC (j:Int)=some x:=by unfold bq;rw[if_pos (by omega),Int.toNat_natCast,b]
      have d:IntKind.i64.wrap ((j:Int)+1)=((j+1:Nat):Int):=by rw[cF (by omega)];omega
      unfold vS gX
      simp only[a,c,d,ah,eU,v7,cond_true]
      cases bK x.back 1 20<;>cases jO x.high 0 60<;>cases decide (3<=IntKind.i64.wrap (x.high.high - x.high.low))<;>rfl
     ·intro s
      have a:decide ((u.aC.length:Int)<(u.aC.length:Int))=false:=decide_eq_false (by omega)
      unfold vS
      simp only[a,cond_false]
  ·intro j x s b
   have g:=(List.getElem?_eq_some_iff.1 b).1
   have a:decide ((j:Int)<(u.props.length:Int))=true:=decide_eq_true (by omega)
   have c:bq u.props (j:Int)=some x:=by unfold bq;rw[if_pos (by omega),Int.toNat_natCast,b]
   have d:IntKind.i64.wrap ((j:Int)+1)=((j+1:Nat):Int):=by rw[cF (by omega)];omega
   unfold pV gW
   simp only[a,c,d,ah,eU,(e x.place).2,cond_true]
   cases f x.place<;>cases bK x.cV 1 20<;>rfl
  ·intro s
   have a:decide ((u.props.length:Int)<(u.props.length:Int))=false:=decide_eq_false (by omega)
   unfold pV
   simp only[a,cond_false]
theorem Ai (x:Int):cond (x != 0) (some x) (some 0)=some x:=by
 cases h:(x != 0) with
 |true=>rfl
 |false=>
  have:x=0:=by simpa using h
  rw[this];rfl
theorem FM (u:aj)(h0:u.aB.length<=20)(h1:u.props.length<=20)(h2:u.aC.length<=20)(h3:u.told.length<=20):iH u=gD u/\∃r,iH u=some r:=by
 obtain ⟨he,c⟩:=z8 u h0
 rw[FJ,c]
 show lK u=_/\∃r,lK u=some r
 unfold lK
 rw[Ad]
 simp only[ah]
 cases hg:(gV u != 0) with
 |true=>exact ⟨rfl,_,rfl⟩
 |false=>
  simp only[cond_false]
  unfold m4
  rw[he]
  simp only[ah]
  cases a:((cond (bK u.aB.length 2 5) ((dw (fZ u) 0 u.aB).getD 0) 2) != 0) with
  |true=>exact ⟨rfl,_,rfl⟩
  |false=>
   simp only[cond_false]
   have hb:bK u.aB.length 2 5=true:=by
    cases hb:bK (u.aB.length:Int) 2 5 with
    |true=>rfl
    |false=>rw[hb] at a;cases a
   have d:=fK.1 hb
   obtain ⟨f,b⟩:=Ac u (by omega) h0
   rw[FL u f b h1 h2 h3]
   unfold m3
   rw[we u f b]
   simp only[ah]
   cases e:((cond (decide (3<(u.props.length:Int))) 2 ((dw (gW u f) 0 u.props).getD 0)) != 0) with
   |true=>exact ⟨rfl,_,rfl⟩
   |false=>
    simp only[cond_false]
    unfold m0
    rw[v9]
    simp only[ah]
    cases g:((cond (bK u.aC.length 1 3) ((dw gX 0 u.aC).getD 0) 2) != 0) with
    |true=>exact ⟨rfl,_,rfl⟩
    |false=>
     simp only[cond_false]
     unfold mZ pn
     rw[v8]
     simp only[ah]
     rw[Ai]
     exact ⟨rfl,_,rfl⟩
theorem qb {α:Type}{t:Nat->α->Option Int}:∀(l:List α) (i:Nat),dw t i l=none->∀j x,l[j]?=some x->t (i+j) x=none
 |[],i,_,j,x,a=>by simp at a
 |y::l,i,h,j,x,a=>by
  unfold dw at h
  cases ht:t i y with
  |some r=>rw[ht] at h;cases h
  |none=>
   rw[ht] at h
   cases j with
   |zero=>simp at a;subst a;exact ht
   |succ j=>
    have:=qb l (i+1) h j x (by simpa using a)
    rwa [show i+1+j=i+(j+1) by omega] at this
structure Fit (u:aj):Prop where
 bF:2<=u.bF/\u.bF<=60
 bL:0<=u.bL/\u.bL<=60
 den:1<=u.aV.den/\u.aV.den<=20
 num:0<=u.aV.num/\u.aV.num<=20
 aB:2<=u.aB.length/\u.aB.length<=5
 mm:∀(i:Nat) x,u.aB[i]?=some x->(0<=x.aK/\x.aK<=u.bF - 1)/\0<=x.high/\x.high<=60
 Aj:∀(i:Nat) x y,u.aB[i]?=some x->u.aB[i+1]?=some y->x.aK<y.aK
 props:u.props.length<=3
 prop:∀(i:Nat) x,u.props[i]?=some x->fG u x.place=some true/\1<=x.cV/\x.cV<=20
 aC:1<=u.aC.length/\u.aC.length<=3
 aT:∀(i:Nat) x,u.aC[i]?=some x->(1<=x.back/\x.back<=20)/\0<=x.high.low/\x.high.low<=x.high.high/\x.high.high<=60/\x.high.high - x.high.low<3
 told:u.told.length<=3
 wh:∀(i:Nat) x,u.told[i]?=some x->0<=x.aT/\x.aT<u.aC.length
theorem sw {o:Option Int}(h:∀r,o=some r->r≠0)(a:o.getD 0=0):o=none:=by
 cases o with
 |none=>rfl
 |some r=>exact absurd a (h r rfl)
theorem FN (u:aj)(i:Nat)(x:bZ)(r:Int)(h:fZ u i x=some r):r≠0:=by
 unfold fZ at h
 revert h
 cases bK x.aK 0 (IntKind.i64.wrap (u.bF - 1))<;>cases bK x.high 0 60<;>try (intro h;cases h;decide)
 cases i with
 |zero=>intro h;cases h
 |succ j=>
  simp only[cond_true]
  cases u.aB[j]? with
  |none=>intro h;cases h
  |some y=>dsimp only;cases decide (x.aK<=y.aK)<;>intro h<;>cases h<;>decide
theorem qc (u:aj)(h0:u.aB.length<=20)(h:iH u=some 0):Fit u:=by
 have a:lK u=some 0:=h
 clear h
 unfold lK at a
 rw[Ad] at a
 simp only[ah] at a
 have hg:gV u=0:=by
  cases hg:(gV u != 0) with
  |true=>rw[hg] at a;exact Option.some.inj a
  |false=>simpa using hg
 rw[hg] at a
 have a:m4 u=some 0:=a
 unfold m4 at a
 rw[(z8 u h0).1] at a
 simp only[ah] at a
 generalize g:cond (bK (u.aB.length:Int) 2 5) ((dw (fZ u) 0 u.aB).getD 0) 2=E at a
 have w:E=0:=by
  cases d:(E != 0) with
  |true=>rw[d] at a;exact Option.some.inj a
  |false=>simpa using d
 rw[w] at a g
 have a:m3 u=some 0:=a
 have hb:bK (u.aB.length:Int) 2 5=true:=by
  cases hb:bK (u.aB.length:Int) 2 5 with
  |true=>rfl
  |false=>rw[hb] at g;cases g
 rw[hb] at g
 have L:=fK.1 hb
 have o:=qb u.aB 0 (sw (mj (FN u) u.aB 0) g)
 obtain ⟨f,p⟩:=Ac u (by omega) h0
 unfold m3 at a
 rw[we u f p] at a
 simp only[ah] at a
 generalize j:cond (decide (3<(u.props.length:Int))) 2 ((dw (gW u f) 0 u.props).getD 0)=q at a
 have z:q=0:=by
  cases d:(q != 0) with
  |true=>rw[d] at a;exact Option.some.inj a
  |false=>simpa using d
 rw[z] at a j
 have a:m0 u=some 0:=a
 have r:decide (3<(u.props.length:Int))=false:=by
  cases hb:decide (3<(u.props.length:Int)) with
  |false=>rfl
  |true=>rw[hb] at j;cases j
 rw[r] at j
 have A:=qb u.props 0 (sw (mj (Ae u f) u.props 0) j)
 unfold m0 at a
 rw[v9] at a
 simp only[ah] at a
 generalize k:cond (bK (u.aC.length:Int) 1 3) ((dw gX 0 u.aC).getD 0) 2=s at a
 have B:s=0:=by
  cases d:(s != 0) with
  |true=>rw[d] at a;exact Option.some.inj a
  |false=>simpa using d
 rw[B] at a k
 have a:mZ u=some 0:=a
 have t:bK (u.aC.length:Int) 1 3=true:=by
  cases hb:bK (u.aC.length:Int) 1 3 with
  |true=>rfl
  |false=>rw[hb] at k;cases k
 rw[t] at k
 have M:=fK.1 t
 have C:=qb u.aC 0 (sw (mj Af u.aC 0) k)
 unfold mZ pn at a
 rw[v8] at a
 simp only[ah] at a
 rw[Ai] at a
 have l:=Option.some.inj a
 have v:decide (3<(u.told.length:Int))=false:=by
  cases hb:decide (3<(u.told.length:Int)) with
  |false=>rfl
  |true=>rw[hb] at l;cases l
 rw[v] at l
 have D:=qb u.told 0 (sw (mj (FK u) u.told 0) l)
 have N:=of_decide_eq_false r
 have O:=of_decide_eq_false v
 clear a g j k l
 have G:(2<=u.bF/\u.bF<=60)/\(0<=u.bL/\u.bL<=60)/\(1<=u.aV.den/\u.aV.den<=20)/\(0<=u.aV.num/\u.aV.num<=20):=by
  unfold gV at hg
  refine ⟨fK.1 ?_,fK.1 ?_,fK.1 ?_,fK.1 ?_⟩<;>revert hg<;>cases bK u.bF 2 60<;>cases bK u.bL 0 60<;>cases bK u.aV.den 1 20<;>cases bK u.aV.num 0 20<;>intro hg<;>first|rfl|cases hg
 obtain ⟨F,H,I,J⟩:=G
 have hw:IntKind.i64.wrap (u.bF - 1)=u.bF - 1:=cF (by omega)
 have m:∀(i:Nat) x,u.aB[i]?=some x->bK x.aK 0 (u.bF - 1)=true/\bK x.high 0 60=true:=by
  intro i x b
  have:=o i x b
  unfold fZ at this
  rw[hw] at this
  revert this
  cases bK x.aK 0 (u.bF - 1)<;>cases bK x.high 0 60<;>intro h<;>first|exact ⟨rfl,rfl⟩|cases h
 refine ⟨F,H,I,J,by omega,fun i x b=>⟨fK.1 (m i x b).1,fK.1 (m i x b).2⟩,fun i x y b n=>?_,by omega,fun i x b=>?_,by omega,fun i x b=>?_,by omega,fun i x b=>?_⟩
 ·have:=o (i+1) y n
  rw[Nat.zero_add] at this
  unfold fZ at this
  rw[hw,(m _ _ n).1,(m _ _ n).2] at this
  simp only[cond_true,b] at this
  cases hd:decide (y.aK<=x.aK) with
  |true=>rw[hd] at this;cases this
  |false=>have:=of_decide_eq_false hd;omega
 ·have:=A i x b
  unfold gW at this
  revert this
  rw[(p x.place).1]
  cases f x.place<;>cases hb:bK x.cV 1 20<;>intro h<;>first|exact ⟨rfl,fK.1 hb⟩|cases h
 ·have:=C i x b
  unfold gX at this
  cases c:bK x.back 1 20 with
  |false=>rw[c] at this;cases this
  |true=>
   cases e:jO x.high 0 60 with
   |false=>rw[c,e] at this;cases this
   |true=>
    rw[c,e] at this
    unfold jO at e
    simp only[Bool.and_eq_true,decide_eq_true_eq] at e
    refine ⟨fK.1 c,e.1,e.2.1,e.2.2,?_⟩
    cases hd:decide (3<=IntKind.i64.wrap (x.high.high - x.high.low)) with
    |true=>rw[hd] at this;cases this
    |false=>
     have K:=of_decide_eq_false hd
     rw[cF (by omega)] at K
     omega
 ·have:=D i x b
  unfold je at this
  cases c:gF u x.aT with
  |false=>rw[c] at this;cases this
  |true=>
   unfold gF at c
   rw[cF (by omega)] at c
   have:=fK.1 c
   omega
theorem wj (g:Nat)(hg:0<g)(n:Int)(d:Nat):bG ((g:Int)*n) (g*d)=bG n d:=by
 unfold bG
 have e1:((g:Int)*n).natAbs=g*n.natAbs:=by rw[Int.natAbs_mul,Int.natAbs_natCast]
 rw[e1,Nat.gcd_mul_left]
 have a:(0:Int)<(g:Int):=by omega
 congr 1
 ·rw[Int.natCast_mul,Int.mul_tdiv_mul_of_pos _ _ a]
 ·rw[Int.natCast_mul,Int.natCast_mul,Int.mul_tdiv_mul_of_pos _ _ a]
theorem wm (n:Int)(d:Nat)(hd:0<d):∃g a:Nat,0<g/\0<a/\d=g*a/\n=(g:Int)*(bG n d).num/\(bG n d).den=(a:Int):=by
 have hg:0<Nat.gcd n.natAbs d:=Nat.gcd_pos_of_pos_right _ hd
 obtain ⟨a,b⟩:=Nat.gcd_dvd_right n.natAbs d
 refine ⟨Nat.gcd n.natAbs d,a,hg,?_,b,?_,?_⟩
 ·rcases Nat.eq_zero_or_pos a with h|h
  ·rw[h,Nat.mul_zero] at b;omega
  ·exact h
 ·have c:((Nat.gcd n.natAbs d:Nat):Int) ∣ n:=Int.ofNat_dvd_left.2 (Nat.gcd_dvd_left _ _)
  unfold bG
  exact (Int.mul_tdiv_cancel' c).symm
 ·have:(d:Int)=((Nat.gcd n.natAbs d:Nat):Int)*(a:Int):=by rw[<-Int.natCast_mul];exact congrArg _ b
  show (d:Int).tdiv ((Nat.gcd n.natAbs d:Nat):Int)=_
  have h2:((Nat.gcd n.natAbs d:Nat):Int)≠0:=by omega
  calc (d:Int).tdiv ((Nat.gcd n.natAbs d:Nat):Int)=(((Nat.gcd n.natAbs d:Nat):Int)*(a:Int)).tdiv ((Nat.gcd n.natAbs d:Nat):Int):=congrArg (fun z=>Int.tdiv z _) this
   _=(a:Int):=Int.mul_tdiv_cancel_left _ h2
theorem dS {x y:Int}{A B:Nat}(a:x.natAbs<=A)(b:y.natAbs<=B):(x*y).natAbs<=A*B:=by
 rw[Int.natAbs_mul];exact Nat.mul_le_mul a b
theorem dU {n:Int}(h:n.natAbs<=9000000000000000000):IntKind.i64.wrap n=n:=cF (by omega)
structure Sm (r:au)(A B:Nat):Prop where
 num:r.num.natAbs<=A
 den:0<r.den/\r.den<=B
theorem sx {a b:au}{A B C D:Nat}(c:Sm a A B)(hb:Sm b C D)(h:A*D+C*B<=900000000000000000)(hd:B*D<=800000000000000000):
  iX a b=some (bG (a.num*b.den+b.num*a.den) (a.den*b.den).toNat):=by
 have h1:=dS c.num (show b.den.natAbs<=D by have:=hb.den;omega)
 have h2:=dS hb.num (show a.den.natAbs<=B by have:=c.den;omega)
 have h3:=dS (show a.den.natAbs<=B by have:=c.den;omega) (show b.den.natAbs<=D by have:=hb.den;omega)
 have d:0<a.den*b.den:=Int.mul_pos c.den.1 hb.den.1
 unfold iX
 rw[dU (n:=a.num*b.den) (by omega),dU (n:=b.num*a.den) (by omega),dU (n:=a.den*b.den) (by omega),dU (by omega)]
 have e:a.den*b.den=(((a.den*b.den).toNat:Nat):Int):=by omega
 have:=p9 (a.num*b.den+b.num*a.den) (a.den*b.den).toNat (by omega) (by omega) (by omega)
 rw[<-e] at this
 rw[this]
 rfl
theorem FO {a b:au}{A B C D:Nat}(c:Sm a A B)(hb:Sm b C D)(h:A*D+C*B<=900000000000000000)(hd:B*D<=800000000000000000):
  jK a b=some (bG (a.num*b.den - b.num*a.den) (a.den*b.den).toNat):=by
 have h1:=dS c.num (show b.den.natAbs<=D by have:=hb.den;omega)
 have h2:=dS hb.num (show a.den.natAbs<=B by have:=c.den;omega)
 have h3:=dS (show a.den.natAbs<=B by have:=c.den;omega) (show b.den.natAbs<=D by have:=hb.den;omega)
 have d:0<a.den*b.den:=Int.mul_pos c.den.1 hb.den.1
 unfold jK
 rw[dU (n:=a.num*b.den) (by omega),dU (n:=b.num*a.den) (by omega),dU (n:=a.den*b.den) (by omega),dU (by omega)]
 have e:a.den*b.den=(((a.den*b.den).toNat:Nat):Int):=by omega
 have:=qa (a.num*b.den - b.num*a.den) (a.den*b.den).toNat (by omega) (by omega) (by omega)
 rw[<-e] at this
 rw[this]
 rfl
theorem Ak {a b:au}{A B C D:Nat}(c:Sm a A B)(hb:Sm b C D)(h:A*D+C*B<=900000000000000000)(hd:B*D<=800000000000000000)(hC:C<=9000000000000000000):
  iY a b=some (bG (a.num*b.den - b.num*a.den) (a.den*b.den).toNat):=by
 unfold iY
 have e:=hb.num
 rw[dU (by omega)]
 have d:Sm (⟨0 - b.num,b.den⟩:au) C D:=⟨by show (0 - b.num).natAbs<=C;omega,hb.den⟩
 rw[sx c d h hd]
 show some (bG (a.num*b.den+(0 - b.num)*a.den) (a.den*b.den).toNat)=_
 rw[show a.num*b.den+(0 - b.num)*a.den=a.num*b.den - b.num*a.den by rw[Int.zero_sub,Int.neg_mul];omega]
def sA (x y:bZ)(p:Int):Option au:=
 gS (IntKind.i64.wrap ((IntKind.i64.wrap (x.high*(IntKind.i64.wrap (y.aK - x.aK))))+(IntKind.i64.wrap ((IntKind.i64.wrap (y.high - x.high))*(IntKind.i64.wrap (p - x.aK)))))) (IntKind.i64.wrap (y.aK - x.aK))
theorem qd {α:Type}{l:List α}{i:Nat}{x:α}(h:l[i]?=some x):bq l (i:Int)=some x:=by unfold bq;rw[if_pos (by omega),Int.toNat_natCast,h]
theorem Al (i:Nat)(h:i<1000):IntKind.i64.wrap ((i:Int)+1)=((i+1:Nat):Int):=by rw[cF (by omega)];omega
theorem piece (u:aj)(p:Int)(f:u.aB.length<=5)(z:bZ)(b:u.aB[u.aB.length - 1]?=some z)(g:p<=z.aK):∀(m i n:Nat) (x y:bZ),i+1+m=u.aB.length - 1->m<n->u.aB[i]?=some x->u.aB[i+1]?=some y->
  ∃(k:Nat) (x y:bZ),i<=k/\u.aB[k]?=some x/\u.aB[k+1]?=some y/\p<=y.aK/\(k=i\/x.aK<p)/\aR (m6 u p) n ((i+1:Nat):Int)=some (.nx ((k+1:Nat):Int))/\
   aR (nJ u p) n (i:Int)=ah (sA x y p) fun r=>some (.rt r)
 |m,i,n+1,x,y,s,t,e,a=>by
  have v:i+1<u.aB.length:=(List.getElem?_eq_some_iff.1 a).1
  have d1:decide (((i+1:Nat):Int)<(u.aB.length:Int))=true:=decide_eq_true (by omega)
  unfold aR m6 nJ
  rw[Al i (by omega),Al (i+1) (by omega),qd e,qd a,d1]
  simp only[ah,cond_true]
  by_cases c:y.aK<p
  ·have e1:decide (y.aK<p)=true:=decide_eq_true c
   have e2:decide (p<=y.aK)=false:=decide_eq_false (by omega)
   rw[e1,e2]
   simp only[cond_true,cond_false]
   cases m with
   |zero=>
    have:u.aB.length - 1=i+1:=by omega
    rw[this,a] at b
    cases b
    omega
   |succ m=>
    have h:i+1+1<u.aB.length:=by omega
    obtain ⟨k,j,y',h1,h2,h3,l,d,o,q⟩:=piece u p f z b g m (i+1) n y (u.aB[i+1+1]) (by omega) (by omega) a (List.getElem?_eq_getElem h)
    refine ⟨k,j,y',by omega,h2,h3,l,?_,o,q⟩
    rcases d with rfl|d
    ·rw[a] at h2;cases h2;exact .inr c
    ·exact .inr d
  ·have e1:decide (y.aK<p)=false:=decide_eq_false c
   have e2:decide (p<=y.aK)=true:=decide_eq_true (by omega)
   rw[e1,e2]
   refine ⟨i,x,y,Nat.le_refl _,e,a,by omega,.inl rfl,rfl,?_⟩
   simp only[cond_true]
   unfold sA
   cases gS _ _<;>rfl
theorem jP (n:Int)(d:Nat)(hd:0<d):Sm (bG n d) n.natAbs d:=by
 obtain ⟨g,a,hg,c,e1,e2,b⟩:=wm n d hd
 refine ⟨?_,?_⟩
 ·have:n.natAbs=g*(bG n d).num.natAbs:=by
   have:=congrArg Int.natAbs e2
   rwa [Int.natAbs_mul,Int.natAbs_natCast] at this
  rw[this]
  exact Nat.le_mul_of_pos_left _ hg
 ·rw[b]
  have:a<=d:=by rw[e1];exact Nat.le_mul_of_pos_left _ hg
  omega
theorem Am (h:Int)(n:Int)(d:Nat)(hd:0<d):bG (h*(bG n d).den+(bG n d).num) ((bG n d).den).toNat=bG (h*d+n) d:=by
 obtain ⟨g,a,hg,f,e1,e2,b⟩:=wm n d hd
 have k1:h*(d:Int)+n=(g:Int)*(h*(a:Int)+(bG n d).num):=by
  rw[Int.mul_add,<-e2,e1,Int.natCast_mul,Int.mul_left_comm]
 rw[b]
 have c:((a:Nat):Int).toNat=a:=Int.toNat_natCast a
 rw[c,k1]
 have e:bG ((g:Int)*(h*(a:Int)+(bG n d).num)) d=bG ((g:Int)*(h*(a:Int)+(bG n d).num)) (g*a):=congrArg _ e1
 rw[e,wj g hg]
theorem FP (u:aj)(F:Fit u)(p:Int)(a z:bZ)(f:u.aB[0]?=some a)(j:u.aB[u.aB.length - 1]?=some z)(l:a.aK<=p)(m:p<=z.aK):
  ∃r,kz u p=some r/\nL u p=some r/\Sm r 7200 60:=by
 have o:=F.aB
 obtain ⟨k,x,y,-,b,e,E,g,q,t⟩:=piece u p o.2 z j m (u.aB.length - 2) 0 fu a (u.aB[1]'(by omega)) (by omega) (Nat.lt_of_le_of_lt (show u.aB.length - 2<=5 by omega) (by decide)) f (List.getElem?_eq_getElem _)
 have G:k+1<u.aB.length:=(List.getElem?_eq_some_iff.1 e).1
 have H:=F.mm k x b
 have I:=F.mm (k+1) y e
 have J:=F.Aj k x y b e
 have K:=F.bF
 have L:x.aK<=p:=by
  rcases g with rfl|g
  ·rw[f] at b;cases b;exact l
  ·omega
 have v:IntKind.i64.wrap (((k+1:Nat):Int) - 1)=(k:Int):=by rw[cF (by omega)];omega
 have w1:IntKind.i64.wrap (y.high - x.high)=y.high - x.high:=cF (by omega)
 have w2:IntKind.i64.wrap (p - x.aK)=p - x.aK:=cF (by omega)
 have w3:IntKind.i64.wrap (y.aK - x.aK)=y.aK - x.aK:=cF (by omega)
 have w:((y.high - x.high)*(p - x.aK)).natAbs<=60*60:=dS (by omega) (by omega)
 have h:(x.high*(y.aK - x.aK)).natAbs<=60*60:=dS (by omega) (by omega)
 obtain ⟨d,hd⟩:∃d:Nat,y.aK - x.aK=d:=⟨(y.aK - x.aK).toNat,by omega⟩
 generalize i:(y.high - x.high)*(p - x.aK)=n at w
 have c:0<d:=by omega
 have M:d<=60:=by omega
 have s1:=jP n d c
 have A:Sm (bG n d) 3600 60:=⟨Nat.le_trans s1.num (by omega),s1.den.1,by have:=s1.den.2;omega⟩
 have B:Sm (⟨x.high,1⟩:au) 60 1:=⟨by show x.high.natAbs<=60;omega,by show (0:Int)<1;omega,by show (1:Int)<=((1:Nat):Int);omega⟩
 refine ⟨bG (x.high*d+n) d,?_,?_,?_⟩
 ·unfold kz
  have C:aR (m6 u p) fu 1=some (.nx ((k+1:Nat):Int)):=q
  rw[C]
  simp only[ah,aF]
  rw[v,qd b,qd e]
  simp only[fF]
  rw[w1,w2,w3,i,hd,dU (by omega),p9 n d (by omega) c (by omega)]
  simp only
  rw[sx B A (by omega) (by omega)]
  show some (bG (x.high*(bG n d).den+(bG n d).num*1) (1*(bG n d).den).toNat)=_
  rw[Int.mul_one,Int.one_mul,Am x.high n d c]
 ·unfold nL
  have D:aR (nJ u p) fu 0=ah (sA x y p) fun r=>some (.rt r):=t
  rw[D]
  unfold sA
  rw[w1,w2,w3,dU (n:=x.high*(y.aK - x.aK)) (by omega),i,dU (n:=n) (by omega),hd]
  rw[hd] at h
  rw[dU (n:=x.high*(d:Int)+n) (by omega),qa (x.high*d+n) d (by omega) c (by omega)]
  rfl
 ·have s:=jP (x.high*d+n) d c
  rw[hd] at h
  exact ⟨Nat.le_trans s.num (by omega),s.den.1,by have:=s.den.2;omega⟩
def qe:aj:=⟨0,0,(⟨0,0⟩:au),([]:List bZ),([]:List b6),([]:List bV),([]:List bx)⟩
theorem sB {u:aj}{c:Int}(a:List (aj->Option Int))(h:iH u=some c)(b:c≠0):eO u a=some (qe,c):=by
 unfold eO
 rw[h]
 have:(c != 0)=true:=by simpa using b
 simp only[ah,this,cond_true]
 rfl
theorem FQ {u:aj}{f:aj->Option Int}{x:Int}(h:iH u=some 0)(a:f u=some x):eO u [f]=some (cond (x != 0) (qe,x) (u,0)):=by
 unfold eO
 rw[h]
 simp only[ah,bne_self_eq_false,cond_false]
 unfold bE rQ
 simp only[a,ah]
 cases (x != 0)<;>rfl
theorem FR (u:aj)(F:Fit u)(p:Int):∃a z,u.aB[0]?=some a/\u.aB[u.aB.length - 1]?=some z/\fG u p=some (bK p a.aK z.aK)/\lT u p=some (bK p a.aK z.aK):=by
 have c:=F.aB
 have h0:u.aB[0]?=some (u.aB[0]'(by omega)):=List.getElem?_eq_getElem _
 have b:u.aB[u.aB.length - 1]?=some (u.aB[u.aB.length - 1]'(by omega)):=List.getElem?_eq_getElem _
 have hw:IntKind.i64.wrap ((u.aB.length:Int) - 1)=((u.aB.length - 1:Nat):Int):=by rw[cF (by omega)];omega
 refine ⟨_,_,h0,b,?_⟩
 have k:fG u p=some (bK p (u.aB[0]'(by omega)).aK (u.aB[u.aB.length - 1]'(by omega)).aK):=by
  unfold fG
  have e0:bq u.aB 0=some (u.aB[0]'(by omega)):=h0
  rw[hw,e0,qd b,jN]
  simp only[ah,eU]
 exact ⟨k,k⟩
theorem FT {n m:Int}{d e:Nat}(hd:0<d)(he:0<e)(h:n*(e:Int)=m*(d:Int)):bG n d=bG m e:=by
 have a:=wj e he n d
 have b:=wj d hd m e
 rw[<-a,<-b]
 have e1:(e:Int)*n=(d:Int)*m:=by rw[Int.mul_comm,h,Int.mul_comm]
 rw[e1,Nat.mul_comm e d]
theorem An (n:Int)(d:Nat)(hd:0<d):(bG n d).num*(d:Int)=n*(bG n d).den/\0<(bG n d).den:=by
 obtain ⟨g,a,hg,c,e1,e2,b⟩:=wm n d hd
 refine ⟨?_,by rw[b];omega⟩
 rw[b]
 have k1:(d:Int)=(g:Int)*(a:Int):=by rw[<-Int.natCast_mul];exact congrArg _ e1
 calc (bG n d).num*(d:Int)=(bG n d).num*((g:Int)*(a:Int)):=by rw[<-k1]
  _=((g:Int)*(bG n d).num)*(a:Int):=by rw[<-Int.mul_assoc,Int.mul_comm (bG n d).num]
  _=n*(a:Int):=by rw[<-e2]
theorem wo {a b:au}{A B C D:Nat}(c:Sm a A B)(hb:Sm b C D)(h:A*D<=9000000000000000000)(d:C*B<=9000000000000000000):jc a b=some (decide (a.num*b.den<b.num*a.den))/\ew a b=some (decide (a.num*b.den<b.num*a.den)):=by
 have h1:=dS c.num (show b.den.natAbs<=D by have:=hb.den;omega)
 have h2:=dS hb.num (show a.den.natAbs<=B by have:=c.den;omega)
 have k:jc a b=some (decide (a.num*b.den<b.num*a.den)):=by
  unfold jc
  rw[dU (n:=a.num*b.den) (by omega),dU (n:=b.num*a.den) (by omega)]
 exact ⟨k,k⟩
theorem FU {h md a d e b f c N:Int}(h1:d*b=N*md)(h2:e*f=c*a):(h*(md*a)+d*e)*(b*f)=(h*b*f+N*c)*(md*a):=by
 grind
theorem Ao (u:aj)(F:Fit u)(s:bf)(hs:(1<=s.back/\s.back<=20)/\0<=s.high/\s.high<=60)(at_:Int)(aK:Int)(H:0<=aK/\aK<=60)(e:au)(he:Sm e 10000 100):
  ∃c,jI u s at_ ⟨aK,e⟩=some ⟨⟨aK,e⟩,at_,c⟩/\jL u s aK e=some c/\c=bG (s.high*e.den*(aK+s.back)+(e.num - s.high*e.den)*(u.bF+s.back)) (e.den*(aK+s.back)).toNat:=by
 have I:=F.bF
 have w1:IntKind.i64.wrap (u.bF+s.back)=u.bF+s.back:=cF (by omega)
 have w2:IntKind.i64.wrap (aK+s.back)=aK+s.back:=cF (by omega)
 obtain ⟨f,b⟩:∃f:Nat,aK+s.back=f:=⟨(aK+s.back).toNat,by omega⟩
 have d:0<f:=by omega
 have J:f<=80:=by omega
 generalize m:u.bF+s.back=c at*
 have o:c.natAbs<=80:=by omega
 have p:Sm (⟨s.high,1⟩:au) 60 1:=⟨by show s.high.natAbs<=60;omega,by show (0:Int)<1;omega,by show (1:Int)<=((1:Nat):Int);omega⟩
 obtain ⟨a,j⟩:∃n:Nat,e.den=n:=⟨e.den.toNat,by have:=he.den;omega⟩
 have g:0<a:=by have:=he.den;omega
 have K:a<=100:=by have:=he.den;omega
 have A:(s.high*e.den).natAbs<=60*100:=dS (by omega) (by omega)
 have b2:(e.num - s.high*e.den).natAbs<=16000:=by have:=he.num;omega
 have q:=Ak he p (by omega) (by omega) (by omega)
 have e1:e.num*(1:Int) - s.high*e.den=e.num - s.high*e.den:=by rw[Int.mul_one]
 have e2:(e.den*(1:Int)).toNat=a:=by rw[Int.mul_one,j,Int.toNat_natCast]
 rw[show ((⟨s.high,1⟩:au).den)=(1:Int) from rfl,show ((⟨s.high,1⟩:au).num)=s.high from rfl,e1,e2] at q
 generalize B:e.num - s.high*e.den=N at*
 have sm:=jP N a g
 have r:=jP c f d
 have t:=An N a g
 have v:=An c f d
 have L:((bG N a).num*(bG c f).num).natAbs<=16000*80:=dS (Nat.le_trans sm.num b2) (Nat.le_trans r.num o)
 have O:((bG N a).den*(bG c f).den).natAbs<=100*80:=dS (by have:=sm.den;omega) (by have:=r.den;omega)
 have P:0<(bG N a).den*(bG c f).den:=Int.mul_pos t.2 v.2
 obtain ⟨M,w⟩:∃M:Nat,(bG N a).den*(bG c f).den=M:=⟨((bG N a).den*(bG c f).den).toNat,by omega⟩
 have h:0<M:=by omega
 have C:=p9 c f (by omega) d (by omega)
 have D:=p9 ((bG N a).num*(bG c f).num) M (by omega) h (by omega)
 have sq:=jP ((bG N a).num*(bG c f).num) M h
 have E:Sm (bG ((bG N a).num*(bG c f).num) M) 1280000 8000:=⟨Nat.le_trans sq.num (by omega),sq.den.1,by have:=sq.den.2;omega⟩
 have x:=sx p E (by omega) (by omega)
 have G:s.high*(bG ((bG N a).num*(bG c f).num) M).den+(bG ((bG N a).num*(bG c f).num) M).num*1=s.high*(bG ((bG N a).num*(bG c f).num) M).den+(bG ((bG N a).num*(bG c f).num) M).num:=by rw[Int.mul_one]
 rw[show ((⟨s.high,1⟩:au).den)=(1:Int) from rfl,show ((⟨s.high,1⟩:au).num)=s.high from rfl,G,Int.one_mul,Am s.high _ M h] at x
 have k:e.den*(aK+s.back)=((a*f:Nat):Int):=by rw[j,b,Int.natCast_mul]
 have i:(e.den*(aK+s.back)).toNat=a*f:=by rw[k,Int.toNat_natCast]
 have y:bG (s.high*(M:Int)+(bG N a).num*(bG c f).num) M=bG (s.high*e.den*(aK+s.back)+N*c) (a*f):=by
  refine FT h (Nat.mul_pos g d) ?_
  rw[Int.natCast_mul,<-w,b,j]
  exact FU (by rw[t.1]) (by rw[v.1])
 refine ⟨_,?_,?_,rfl⟩
 ·unfold jI
  have l:IntKind.i64.wrap (f:Int)=f:=cF (by omega)
  simp only[fF,ah,q,m,w1,b,l,C]
  rw[dU (by omega),dU (n:=(bG N a).den*(bG c f).den) (by omega),w,D]
  simp only[x]
  rw[b] at i y
  rw[i,y]
 ·unfold jL
  have l:IntKind.i64.wrap (f:Int)=f:=cF (by omega)
  have Q:(s.high*e.den*(f:Int)).natAbs<=6000*80:=dS A (by omega)
  have p2:(N*c).natAbs<=16000*80:=dS b2 o
  have p3:(e.den*(f:Int)).natAbs<=100*80:=dS (by omega) (by omega)
  simp only[m,w1,b,l]
  rw[dU (n:=s.high*e.den) (by omega),B,dU (n:=N) (by omega),dU (n:=s.high*e.den*(f:Int)) (by omega),dU (n:=N*c) (by omega),dU (n:=s.high*e.den*(f:Int)+N*c) (by omega),dU (n:=e.den*(f:Int)) (by omega)]
  rw[b] at k i
  have z:=qa (s.high*e.den*(f:Int)+N*c) (a*f) (by omega) (Nat.mul_pos g d) (by omega)
  rw[i]
  rw[<-k] at z
  rw[z]
  rfl
def ga (u:aj)(s:bf)(x:bZ):au:=bG (s.high*1*(x.aK+s.back)+(x.high - s.high*1)*(u.bF+s.back)) (1*(x.aK+s.back)).toNat
theorem Ap (u:aj)(F:Fit u)(s:bf)(hs:(1<=s.back/\s.back<=20)/\0<=s.high/\s.high<=60)(i:Nat)(x:bZ)(a:u.aB[i]?=some x)(at_:Int):
  jI u s at_ ⟨x.aK,⟨x.high,1⟩⟩=some ⟨⟨x.aK,⟨x.high,1⟩⟩,at_,ga u s x⟩/\jL u s x.aK ⟨x.high,1⟩=some (ga u s x):=by
 have p:=F.mm i x a
 have b:=F.bF
 have he:Sm (⟨x.high,1⟩:au) 10000 100:=⟨by show x.high.natAbs<=10000;omega,by show (0:Int)<1;omega,by show (1:Int)<=((100:Nat):Int);omega⟩
 obtain ⟨c,h1,h2,h3⟩:=Ao u F s hs at_ x.aK (by omega) ⟨x.high,1⟩ he
 have:c=ga u s x:=h3
 subst this
 exact ⟨h1,h2⟩
theorem FV (u:aj)(F:Fit u)(s:bf)(hs:(1<=s.back/\s.back<=20)/\0<=s.high/\s.high<=60)(i:Nat)(x:bZ)(a:u.aB[i]?=some x):Sm (ga u s x) 10000 100:=by
 have p:=F.mm i x a
 have b:=F.bF
 unfold ga
 rw[Int.mul_one,Int.one_mul]
 have c:(s.high*(x.aK+s.back)).natAbs<=60*79:=dS (by omega) (by omega)
 have b2:((x.high - s.high)*(u.bF+s.back)).natAbs<=60*80:=dS (by omega) (by omega)
 have h:=jP (s.high*(x.aK+s.back)+(x.high - s.high)*(u.bF+s.back)) (x.aK+s.back).toNat (by omega)
 exact ⟨Nat.le_trans h.num (by omega),h.den.1,by have:=h.den.2;omega⟩
def foldI {α σ:Type}(g:Nat->α->σ->σ):Nat->List α->σ->σ
 |_,[],s=>s
 |i,x::l,s=>foldI g (i+1) l (g i x s)
theorem kG {α σ ρ:Type}{f:Nat->α->σ->Option (Fl σ ρ)}{g:Nat->α->σ->σ}{I:Nat->σ->Prop}:∀(l:List α) (i:Nat) (s:σ),I i s->(∀j x s,l[j]?=some x->I (i+j) s->f (i+j) x s=some (.nx (g (i+j) x s))/\I (i+j+1) (g (i+j) x s))->
  bE f i l s=some (.nx (foldI g i l s))/\I (i+l.length) (foldI g i l s)
 |[],i,s,hs,_=>⟨rfl,hs⟩
 |x::l,i,s,hs,h=>by
  obtain ⟨h0,h1⟩:=h 0 x s rfl hs
  simp only[Nat.add_zero] at h0 h1
  unfold bE foldI
  rw[h0]
  have:=kG l (i+1) _ h1 fun j y s a hs=>by
   have:=h (j+1) y s (by simpa using a) (by rwa [show i+(j+1)=i+1+j by omega])
   rwa [show i+(j+1)=i+1+j by omega] at this
  rwa [show i+1+l.length=i+(x::l).length by simp;omega] at this
theorem Aq {α σ τ ρ:Type}{f:τ->Option (Fl τ ρ)}{g:Nat->α->σ->σ}{I:Nat->σ->Prop}(e:σ->Int->τ)(l:List α)(h:∀(i:Nat) x s,l[i]?=some x->I i s->f (e s (i:Int))=some (.nx (e (g i x s) ((i+1:Nat):Int)))/\I (i+1) (g i x s))(a:∀s,f (e s (l.length:Int))=some (.bk (e s (l.length:Int)))):
  ∀(k i n:Nat) (s:σ),I i s->i+k=l.length->k<n->aR f n (e s (i:Int))=some (.nx (e (foldI g i (l.drop i) s) (l.length:Int)))/\I l.length (foldI g i (l.drop i) s)
 |0,i,n+1,s,hs,hi,_=>by
  obtain rfl:i=l.length:=by omega
  unfold aR
  rw[a,List.drop_length]
  exact ⟨rfl,hs⟩
 |k+1,i,n+1,s,hs,hi,d=>by
  have b:i<l.length:=by omega
  have c:l[i]?=some l[i]:=List.getElem?_eq_getElem b
  obtain ⟨h0,h1⟩:=h i _ s c hs
  unfold aR
  rw[h0,List.drop_eq_getElem_cons b]
  unfold foldI
  exact Aq e l h a k (i+1) n _ h1 (by omega) (by omega)
theorem jf {α σ τ ρ:Type}{f:τ->Option (Fl τ ρ)}{g:Nat->α->σ->σ}{I:Nat->σ->Prop}(e:σ->Int->τ)(l:List α)(a:l.length<=1000)(h:∀(i:Nat) x s,l[i]?=some x->I i s->f (e s (i:Int))=some (.nx (e (g i x s) ((i+1:Nat):Int)))/\I (i+1) (g i x s))(b:∀s,f (e s (l.length:Int))=some (.bk (e s (l.length:Int))))(s:σ)(hs:I 0 s):
  aR f fu (e s 0)=some (.nx (e (foldI g 0 l s) (l.length:Int)))/\I l.length (foldI g 0 l s):=by
 have:=Aq e l h b l.length 0 fu s hs (by omega) (Nat.lt_of_le_of_lt a (by decide))
 simpa using this
theorem Ar {α σ:Type}{g g':Nat->α->σ->σ}:∀(l:List α) (i:Nat) (s:σ),(∀j x s,i<=j->g j x s=g' j x s)->foldI g i l s=foldI g' i l s
 |[],_,_,_=>rfl
 |x::l,i,s,h=>by
  unfold foldI
  rw[h i x s (Nat.le_refl _)]
  exact Ar l (i+1) _ fun j x s a=>h j x s (by omega)
def cH (a b:au):Bool:=decide (a.num*b.den<b.num*a.den)
abbrev SR (r:au):Prop:=Sm r 2000000 8000
theorem Sm.mono {r:au}{A B a b:Nat}(h:Sm r A B)(c:A<=a)(hb:B<=b):Sm r a b:=⟨Nat.le_trans h.num c,h.den.1,by have:=h.den.2;omega⟩
theorem wq (u:aj)(F:Fit u)(s:bf)(hs:(1<=s.back/\s.back<=20)/\0<=s.high/\s.high<=60)(i:Nat)(x:bZ)(a:u.aB[i]?=some x):SR (ga u s x):=(FV u F s hs i x a).mono (by decide) (by decide)
theorem nU {a b:au}(c:SR a)(hb:SR b):jc a b=some (cH a b)/\ew a b=some (cH a b):=wo c hb (by decide) (by decide)
def gB (u:aj)(s:bf)(i:Nat)(x:bZ)(st:Int×au):Int×au:=cond (cH st.2 (ga u s x)) ((i:Int),ga u s x) st
def gY (u:aj)(s:bf)(i:Nat)(x:bZ):bA:=⟨⟨x.aK,⟨x.high,1⟩⟩,(i:Int),ga u s x⟩
def eV (u:aj)(s:bf):Nat->List bZ->List bA
 |_,[]=>[]
 |i,x::l=>gY u s i x::eV u s (i+1) l
theorem As (u:aj)(s:bf):∀(l:List bZ) (i:Nat) (a:List bA),foldI (fun i x st=>st++[gY u s i x]) i l a=a++eV u s i l
 |[],i,a=>by simp[foldI,eV]
 |x::l,i,a=>by simp[foldI,eV,As u s l (i+1)]
def gC (i:Nat)(x:bA)(st:bA):bA:=cond (cH st.high x.high) x st
theorem Au (u:aj)(s:bf):∀(l:List bZ) (i j:Nat) (c:bA),let r:=foldI gC j (eV u s i l) c;(r.at_,r.high)=foldI (gB u s) i l (c.at_,c.high)
 |[],i,j,c=>rfl
 |x::l,i,j,c=>by
  simp only[eV,foldI]
  have:=Au u s l (i+1) (j+1) (gC j (gY u s i x) c)
  simp only at this
  rw[this]
  congr 1
  unfold gC gB gY
  cases cH c.high (ga u s x)<;>rfl
theorem wu (n:Int):fF n=some ⟨n,1⟩:=rfl
def qf (u:aj)(s:bf):Int×au:=match u.aB with
 |[]=>(0,⟨0,0⟩)
 |x::l=>foldI (gB u s) 1 l (0,ga u s x)
section
variable {u : aj} {s : bf} (F : Fit u) (hs : (1 ≤ s.back ∧ s.back ≤ 20) ∧ 0 ≤ s.high ∧ s.high ≤ 60)
include F hs
theorem FW:bE (m5 u s) 0 u.aB ([]:List bA)=some (.nx (eV u s 0 u.aB)):=by
 have c:=F.aB
 have:=kG (f:=m5 u s) (ρ:=bA) (g:=fun i x st=>st++[gY u s i x]) (I:=fun i st=>st.length=i) u.aB 0 [] rfl (fun j x st a b=>?_)
 ·rw[this.1,As];rfl
 ·have d:j<u.aB.length:=(List.getElem?_eq_some_iff.1 a).1
  refine ⟨?_,by simp[b]⟩
  unfold m5
  rw[Nat.zero_add] at b ⊢
  simp only[wu,ah,(Ap u F s hs j x a (j:Int)).1]
  unfold cI
  rw[if_pos (by simp;omega)]
  rfl
theorem Av:∀(l:List bZ) (i:Nat),(∀(j:Nat) x,l[j]?=some x->u.aB[i+j]?=some x)->∀(j:Nat) c,(eV u s i l)[j]?=some c->SR c.high
 |[],_,_,j,c,h=>by simp[eV] at h
 |x::l,i,a,0,c,h=>by
  simp[eV] at h
  subst h
  exact wq u F s hs i x (a 0 x rfl)
 |x::l,i,a,j+1,c,h=>Av l (i+1) (fun j y b=>by have:=a (j+1) y (by simpa using b);rwa [show i+(j+1)=i+1+j by omega] at this) j c (by simpa [eV] using h)
theorem FX:∃c,ku u s=some c/\(c.at_,c.high)=qf u s/\SR c.high/\pW u s=some (qf u s):=by
 have d:=F.aB
 have o:=FW F hs
 obtain ⟨a,rest,he⟩:∃x l,u.aB=x::l:=by
  cases h:u.aB with
  |nil=>rw[h] at d;simp at d
  |cons x l=>exact ⟨x,l,rfl⟩
 have p:u.aB[0]?=some a:=by rw[he];rfl
 have q:∀(j:Nat) x,rest[j]?=some x->u.aB[1+j]?=some x:=fun j x h=>by rw[he,Nat.add_comm];simpa using h
 have v:rest.length<=4:=by rw[he] at d;simp at d;omega
 have r:SR (ga u s a):=wq u F s hs 0 a p
 have hg:=kG (f:=pe iF) (ρ:=bA) (g:=gC) (I:=fun _ c=>SR c.high) (eV u s 1 rest) 0 (gY u s 0 a) r (fun j c st m e=>by
  have b:=Av F hs rest 1 q j c m
  refine ⟨?_,?_⟩
  ·unfold pe iF gC
   simp only[(nU e b).2,ah]
   cases cH st.high c.high<;>rfl
  ·unfold gC
   cases cH st.high c.high
   ·exact e
   ·exact b)
 refine ⟨foldI gC 0 (eV u s 1 rest) (gY u s 0 a),?_,?_,hg.2,?_⟩
 ·unfold ku
  rw[o,he]
  simp only[ah,aF,eV]
  rw[show bq (gY u s 0 a::eV u s (0+1) rest) 0=some (gY u s 0 a) from rfl]
  simp only
  have:iA (gY u s 0 a::eV u s (0+1) rest) 1 (((gY u s 0 a::eV u s (0+1) rest).length:Nat):Int)=some (eV u s 1 rest):=by
   unfold iA
   rw[if_pos (by simp only[List.length_cons];omega)]
   simp
  rw[this]
  simp only
  unfold lG
  rw[hg.1]
  rfl
 ·have:=Au u s rest 1 0 (gY u s 0 a)
  simp only at this
  rw[this]
  unfold qf
  rw[he]
  rfl
 ·unfold pW
  have t:=jf (f:=nG u s) (g:=fun i x st=>if i=0 then ((0:Int),ga u s x) else gB u s i x st) (I:=fun i st=>i=0\/SR st.2) (fun st i=>(st.1,i,st.2)) u.aB (by omega) (fun i x st k e=>?_) (fun st=>?_) ((0:Int),(⟨0,0⟩:au)) (.inl rfl)
  ·rw[t.1,he]
   simp only[ah,aF,foldI,if_pos]
   rw[Ar (g':=gB u s) rest (0+1) _ (fun j x st m=>if_neg (by omega))]
   unfold qf
   rw[he]
  ·have w:i<u.aB.length:=(List.getElem?_eq_some_iff.1 k).1
   have b:=wq u F s hs i x k
   unfold nG
   simp only
   rw[show decide ((i:Int)<(u.aB.length:Int))=true by simp;omega]
   simp only[cond_true]
   rw[show bq u.aB (i:Int)=some x by unfold bq;rw[if_pos (by omega)];simpa using k]
   simp only[ah,(Ap u F s hs i x k 0).2]
   have hw:IntKind.i64.wrap ((i:Int)+1)=((i+1:Nat):Int):=by rw[cF (by omega)];rfl
   rw[hw]
   by_cases h0:i=0
   ·subst h0
    exact ⟨rfl,.inr b⟩
   ·have n:SR st.2:=e.resolve_left h0
    rw[show (((i:Nat):Int)==0)=false by simp;omega]
    simp only[cond_false,(nU n b).1,if_neg h0]
    unfold gB
    cases cH st.2 (ga u s x)
    ·exact ⟨rfl,.inr n⟩
    ·exact ⟨rfl,.inr b⟩
  ·unfold nG
   simp
end
section
variable {u : aj} {s : bf} (F : Fit u) (hs : (1 ≤ s.back ∧ s.back ≤ 20) ∧ 0 ≤ s.high ∧ s.high ≤ 60)
include F hs
theorem FY:Sm (⟨u.bL,1⟩:au) 60 1:=⟨by have:=F.bL;show u.bL.natAbs<=60;omega,by show (0:Int)<1;omega,by show (1:Int)<=((1:Nat):Int);omega⟩
end
theorem Aw {a b c:au}(d:0<a.den)(hb:0<b.den)(f:0<c.den)(h1:cH b a=false)(h2:cH b c=true):cH c a=false:=by
 unfold cH at*
 simp only[decide_eq_false_iff_not,decide_eq_true_eq,Int.not_lt] at*
 have k1:a.num*b.den*c.den<=b.num*a.den*c.den:=Int.mul_le_mul_of_nonneg_right h1 (by omega)
 have g:b.num*c.den*a.den<c.num*b.den*a.den:=Int.mul_lt_mul_of_pos_right h2 d
 have e:b.den*(a.num*c.den)<b.den*(c.num*a.den):=by
  have e1:b.den*(a.num*c.den)=a.num*b.den*c.den:=by grind
  have e2:b.den*(c.num*a.den)=c.num*b.den*a.den:=by grind
  have h:b.num*a.den*c.den=b.num*c.den*a.den:=by grind
  omega
 exact Int.le_of_lt (Int.lt_of_mul_lt_mul_left e (by omega))
theorem wv (a:au):cH a a=false:=by unfold cH;simp
def wz (u:aj)(s:bf)(aK:Int)(e:au):au:=bG (s.high*e.den*(aK+s.back)+(e.num - s.high*e.den)*(u.bF+s.back)) (e.den*(aK+s.back)).toNat
def dx (u:aj)(x:b6):au:=match kz u x.place with
 |some r=>bG (r.num+x.cV*r.den) r.den.toNat
 |none=>⟨0,0⟩
def en (u:aj)(s:bf)(x:b6):au:=wz u s x.place (dx u x)
section
variable {u : aj} {s : bf} (F : Fit u) (hs : (1 ≤ s.back ∧ s.back ≤ 20) ∧ 0 ≤ s.high ∧ s.high ≤ 60)
include F hs
theorem wA {i:Nat}{x:b6}(p:u.props[i]?=some x):∃r,kz u x.place=some r/\nL u x.place=some r/\iX r ⟨x.cV,1⟩=some (dx u x)/\
  gS (IntKind.i64.wrap (r.num+IntKind.i64.wrap (x.cV*r.den))) r.den=some (dx u x)/\(∀at_,jI u s at_ ⟨x.place,dx u x⟩=some ⟨⟨x.place,dx u x⟩,at_,en u s x⟩)/\jL u s x.place (dx u x)=some (en u s x)/\SR (en u s x):=by
 obtain ⟨q,p2,p3⟩:=F.prop i x p
 obtain ⟨a,z,h,j,k,D⟩:=FR u F x.place
 rw[q] at k
 have hb:bK x.place a.aK z.aK=true:=(Option.some.inj k).symm
 unfold bK at hb
 simp only[Bool.and_eq_true,decide_eq_true_eq] at hb
 have E:=F.mm _ a h
 have G:=F.mm _ z j
 have H:=F.bF
 obtain ⟨r,h1,h2,h3⟩:=FP u F x.place a z h j hb.1 hb.2
 have sh:Sm (⟨x.cV,1⟩:au) 20 1:=⟨by show x.cV.natAbs<=20;omega,by show (0:Int)<1;omega,by show (1:Int)<=((1:Nat):Int);omega⟩
 have I:(x.cV*r.den).natAbs<=20*60:=dS (by omega) (by have:=h3.den;omega)
 obtain ⟨d,hd⟩:∃d:Nat,r.den=d:=⟨r.den.toNat,by have:=h3.den;omega⟩
 have l:0<d:=by have:=h3.den;omega
 have J:d<=60:=by have:=h3.den;omega
 have K:=h3.num
 have g:dx u x=bG (r.num+x.cV*r.den) d:=by
  unfold dx
  rw[h1]
  simp only
  rw[hd,Int.toNat_natCast]
 have b:Sm (dx u x) 10000 100:=by
  rw[g]
  have:=jP (r.num+x.cV*r.den) d l
  exact ⟨Nat.le_trans this.num (by omega),this.den.1,by have:=this.den.2;omega⟩
 have t:=sx h3 sh (by decide) (by decide)
 have m:=qa (r.num+x.cV*r.den) d (by omega) l (by omega)
 have o:∀at_,jI u s at_ ⟨x.place,dx u x⟩=some ⟨⟨x.place,dx u x⟩,at_,en u s x⟩/\jL u s x.place (dx u x)=some (en u s x):=fun at_=>by
  obtain ⟨c,c1,c2,c3⟩:=Ao u F s hs at_ x.place ⟨by omega,by omega⟩ (dx u x) b
  subst c3
  exact ⟨c1,c2⟩
 refine ⟨r,h1,h2,?_,?_,fun at_=>(o at_).1,(o 0).2,?_⟩
 ·rw[t,g]
  show some (bG (r.num*1+x.cV*r.den) (r.den*1).toNat)=_
  rw[Int.mul_one,Int.mul_one,hd,Int.toNat_natCast]
 ·rw[dU (n:=x.cV*r.den) (by omega),dU (by omega),g]
  rw[hd] at m ⊢
  exact m
 ·unfold en wz
  obtain ⟨f,v⟩:∃f:Nat,x.place+s.back=f:=⟨(x.place+s.back).toNat,by omega⟩
  obtain ⟨e,w⟩:∃n:Nat,(dx u x).den=n:=⟨(dx u x).den.toNat,by have:=b.den;omega⟩
  have y:0<e:=by have:=b.den;omega
  have A:e<=100:=by have:=b.den;omega
  have L:=b.num
  have B:(s.high*(dx u x).den).natAbs<=60*100:=dS (by omega) (by omega)
  have b2:(s.high*(dx u x).den*(x.place+s.back)).natAbs<=6000*80:=dS B (by omega)
  have b3:(((dx u x).num - s.high*(dx u x).den)*(u.bF+s.back)).natAbs<=16000*80:=dS (by omega) (by omega)
  have C:((dx u x).den*(x.place+s.back)).toNat=e*f:=by rw[w,v,<-Int.natCast_mul,Int.toNat_natCast]
  rw[C]
  have:=jP (s.high*(dx u x).den*(x.place+s.back)+((dx u x).num - s.high*(dx u x).den)*(u.bF+s.back)) (e*f) (Nat.mul_pos y (by omega))
  have M:e*f<=100*80:=Nat.mul_le_mul A (by omega)
  exact ⟨Nat.le_trans this.num (by omega),this.den.1,by have:=this.den.2;omega⟩
end
def same (x:b6)(e:au)(y:bA):Bool:=(y.spot.aK==x.place)&&((y.spot.high.num==e.num)&&(y.spot.high.den==e.den))
def gT (u:aj)(s:bf)(i:Nat)(x:b6)(st:List bA):List bA:=cond (st.any (same x (dx u x))) st (st++[⟨⟨x.place,dx u x⟩,(i:Int),en u s x⟩])
def dj (a b:au):au:=cond (cH a b) b a
def gM (u:aj)(s:bf)(i:Nat)(x:b6)(b:au):au:=if i=0 then en u s x else dj b (en u s x)
theorem Ax (x:b6)(e:au):∀(l:List bA) (i:Nat),bE (pq x e) i l ()=some (cond (l.any (same x e)) (.br 1 ()) (.nx ()):Fl Unit (List bA))
 |[],i=>rfl
 |y::l,i=>by
  unfold bE pq
  rw[show ((y.spot.aK==x.place)&&((y.spot.high.num==e.num)&&(y.spot.high.den==e.den)))=same x e y from rfl,List.any_cons]
  cases same x e y
  ·simp only[cond_false,ah,Bool.false_or]
   exact Ax x e l (i+1)
  ·rfl
theorem wB {a b:au}(c:SR a)(hb:SR b):fI a b=some (dj a b):=by
 unfold fI dj
 simp only[(nU c hb).1,ah]
 cases cH a b<;>rfl
theorem qg {a b:au}(c:SR a)(hb:SR b):SR (dj a b):=by unfold dj;cases cH a b;exact c;exact hb
def sC:List bA->au
 |[]=>⟨0,0⟩
 |c::l=>(foldI gC 0 l c).high
theorem Ay {α σ:Type}{g:Nat->α->σ->σ}:∀(l:List α) (i:Nat) (y:α) (s:σ),foldI g i (l++[y]) s=g (i+l.length) y (foldI g i l s)
 |[],i,y,s=>rfl
 |x::l,i,y,s=>by
  simp only[List.cons_append,foldI,List.length_cons]
  rw[Ay l (i+1) y]
  congr 1
  omega
theorem FZ (c:bA)(l:List bA)(y:bA):sC (c::l++[y])=dj (sC (c::l)) y.high:=by
 show (foldI gC 0 (l++[y]) c).high=_
 rw[Ay]
 show (cond (cH (foldI gC 0 l c).high y.high) y (foldI gC 0 l c)).high=cond (cH (foldI gC 0 l c).high y.high) y.high (foldI gC 0 l c).high
 cases cH (foldI gC 0 l c).high y.high<;>rfl
structure Tp (u:aj)(s:bf)(st:List bA)(b:au):Prop where
 ne:st≠[]
 Az:b=sC st
 sm:SR b
 le:∀y∈st,cH b y.high=false/\SR y.high/\y.high=wz u s y.spot.aK y.spot.high
theorem Tp.step {u:aj}{s:bf}{st:List bA}{b:au}(h:Tp u s st b){x:b6}(f:SR (en u s x))(i:Nat):Tp u s (gT u s i x st) (dj b (en u s x)):=by
 unfold gT
 cases m:st.any (same x (dx u x)) with
 |true=>
  simp only[cond_true]
  obtain ⟨y,a,g⟩:=List.any_eq_true.1 m
  have d:=h.le y a
  have e:y.high=en u s x:=by
   rw[d.2.2]
   unfold same at g
   simp only[Bool.and_eq_true,beq_iff_eq] at g
   obtain ⟨e1,e2,j⟩:=g
   unfold en
   have:y.spot.high=dx u x:=by
    cases n:y.spot.high;cases o:dx u x
    rw[n,o] at e2 j
    simp only at e2 j
    rw[e2,j]
   rw[e1,this]
  have:dj b (en u s x)=b:=by
   unfold dj
   rw[<-e,d.1]
   rfl
  rw[this]
  exact h
 |false=>
  simp only[cond_false]
  obtain ⟨c,l,rfl⟩:∃c l,st=c::l:=by
   cases st with
   |nil=>exact absurd rfl h.ne
   |cons c l=>exact ⟨c,l,rfl⟩
  refine ⟨by simp,?_,qg h.sm f,fun y a=>?_⟩
  ·rw[FZ,<-h.Az]
  ·rcases List.mem_append.1 a with a|a
   ·have d:=h.le y a
    refine ⟨?_,d.2⟩
    unfold dj
    cases k:cH b (en u s x) with
    |false=>exact d.1
    |true=>exact Aw d.2.1.den.1 h.sm.den.1 f.den.1 d.1 k
   ·simp at a
    subst a
    refine ⟨?_,f,rfl⟩
    unfold dj
    cases k:cH b (en u s x) with
    |false=>exact k
    |true=>exact wv _
theorem Tp.fold {u:aj}{s:bf}:∀(l:List b6) (i:Nat) (st:List bA) (b:au),1<=i->(∀x∈l,SR (en u s x))->Tp u s st b->Tp u s (foldI (gT u s) i l st) (foldI (gM u s) i l b)
 |[],_,_,_,_,_,h=>h
 |x::l,i,st,b,hi,a,h=>by
  unfold foldI
  have e:gM u s i x b=dj b (en u s x):=if_neg (by omega)
  rw[e]
  exact Tp.fold l (i+1) _ _ (by omega) (fun y c=>a y (List.mem_cons_of_mem _ c)) (h.step (a x (List.mem_cons_self ..)) i)
theorem Tp.all {u:aj}{s:bf}(x:b6)(l:List b6)(b:∀y∈x::l,SR (en u s y)):Tp u s (foldI (gT u s) 0 (x::l) []) (foldI (gM u s) 0 (x::l) ⟨0,0⟩):=by
 unfold foldI
 have c:=b x (List.mem_cons_self ..)
 refine Tp.fold l 1 _ _ (Nat.le_refl _) (fun y a=>b y (List.mem_cons_of_mem _ a)) ⟨by simp[gT],?_,?_,?_⟩
 ·simp[gT,gM,sC,foldI]
 ·exact c
 ·intro y a
  simp[gT] at a
  subst a
  exact ⟨by simp[gM];exact wv _,c,rfl⟩
section
variable {u : aj} {s : bf} (F : Fit u) (hs : (1 ≤ s.back ∧ s.back ≤ 20) ∧ 0 ≤ s.high ∧ s.high ≤ 60)
include F hs
theorem F1:∀x∈u.props,SR (en u s x):=fun x a=>by
 obtain ⟨i,hi,rfl⟩:=List.getElem_of_mem a
 obtain ⟨r,_,_,_,_,_,_,h⟩:=wA F hs (i:=i) (List.getElem?_eq_getElem hi)
 exact h
theorem F2:iZ u s=some (foldI (gT u s) 0 u.props []):=by
 have d:=F.props
 unfold iZ
 have:=kG (f:=pz u s) (ρ:=List bA) (g:=gT u s) (I:=fun i st=>st.length<=i) u.props 0 [] (Nat.le_refl _) (fun j x st a b=>by
  have e:j<u.props.length:=(List.getElem?_eq_some_iff.1 a).1
  obtain ⟨r,h1,h2,h3,h,c,k,l⟩:=wA F hs a
  rw[Nat.zero_add] at b ⊢
  unfold pz
  simp only[h1,ah,wu,h3,Ax]
  unfold gT
  cases m:st.any (same x (dx u x)) with
  |true=>exact ⟨rfl,by simp only[cond_true];omega⟩
  |false=>
   simp only[cond_false,aF,ah,c]
   unfold cI
   rw[if_pos (by simp;omega)]
   exact ⟨rfl,by simp;omega⟩)
 rw[this.1]
 rfl
theorem F3:jd u s=some (foldI (gM u s) 0 u.props ⟨0,0⟩,decide (0<(u.props.length:Int))):=by
 have k:=F.props
 unfold jd
 have:=jf (f:=nM u s) (g:=gM u s) (I:=fun i b=>i=0\/SR b) (fun b i=>(i,b)) u.props (by omega) (fun i x b c d=>by
  have l:i<u.props.length:=(List.getElem?_eq_some_iff.1 c).1
  obtain ⟨r,h1,h2,h3,h,m,j,a⟩:=wA F hs c
  unfold nM
  simp only
  rw[show decide ((i:Int)<(u.props.length:Int))=true by simp;omega]
  simp only[cond_true]
  rw[show bq u.props (i:Int)=some x by unfold bq;rw[if_pos (by omega)];simpa using c]
  have hw:IntKind.i64.wrap ((i:Int)+1)=((i+1:Nat):Int):=by rw[cF (by omega)];rfl
  simp only[ah,h2,h,j,hw]
  unfold gM
  by_cases h0:i=0
  ·subst h0
   have e:dj (en u s x) (en u s x)=en u s x:=by unfold dj;rw[wv];rfl
   rw[show (((0:Nat):Int)==0)=true from rfl]
   simp only[cond_true,wB a a,e,if_pos]
   exact ⟨trivial,.inr a⟩
  ·have hb:SR b:=d.resolve_left h0
   rw[show (((i:Nat):Int)==0)=false by simp;omega]
   simp only[cond_false,wB hb a,if_neg h0]
   exact ⟨trivial,.inr (qg hb a)⟩) (fun b=>by unfold nM;simp) (⟨0,0⟩:au) (.inl rfl)
 rw[this.1]
 rfl
theorem F4:(u.props=[]/\iZ u s=some []/\jd u s=some (⟨0,0⟩,false))\/
  ∃st b,iZ u s=some st/\jd u s=some (b,true)/\Tp u s st b:=by
 have h1:=F2 F hs
 have h2:=F3 F hs
 have h3:=F1 F hs
 cases a:u.props with
 |nil=>
  rw[a] at h1 h2
  exact .inl ⟨rfl,h1,h2⟩
 |cons x l=>
  rw[a] at h1 h2 h3
  refine .inr ⟨_,_,h1,?_,Tp.all x l h3⟩
  rw[h2]
  rw[show decide (0<((x::l).length:Int))=true by simp]
end
theorem F5 {a b c:au}(d:0<a.den)(hb:0<b.den)(e:0<c.den)(h1:cH a b=false)(h2:cH b c=false):cH a c=false:=by
 cases h:cH a c with
 |false=>rfl
 |true=>
  have:=Aw hb d e h1 h
  unfold cH at*
  simp only[decide_eq_false_iff_not,decide_eq_true_eq,Int.not_lt] at*
  have k1:b.num*a.den*c.den<=a.num*b.den*c.den:=Int.mul_le_mul_of_nonneg_right h1 (by omega)
  have f:a.num*c.den*b.den<c.num*a.den*b.den:=Int.mul_lt_mul_of_pos_right h hb
  have g:c.num*b.den*a.den<=b.num*c.den*a.den:=Int.mul_le_mul_of_nonneg_right h2 (by omega)
  have e1:a.num*b.den*c.den=a.num*c.den*b.den:=by grind
  have e2:c.num*b.den*a.den=c.num*a.den*b.den:=by grind
  have i:b.num*c.den*a.den=b.num*a.den*c.den:=by grind
  omega
theorem F6 {a b c:au}(d:0<a.den)(hb:0<b.den)(e:0<c.den)(h1:cH a b=true)(h2:cH b c=true):cH a c=true:=by
 unfold cH at*
 simp only[decide_eq_true_eq] at*
 have k1:a.num*b.den*c.den<b.num*a.den*c.den:=Int.mul_lt_mul_of_pos_right h1 e
 have g:b.num*c.den*a.den<c.num*b.den*a.den:=Int.mul_lt_mul_of_pos_right h2 d
 have f:b.den*(a.num*c.den)<b.den*(c.num*a.den):=by
  have e1:b.den*(a.num*c.den)=a.num*b.den*c.den:=by grind
  have e2:b.den*(c.num*a.den)=c.num*b.den*a.den:=by grind
  have h:b.num*a.den*c.den=b.num*c.den*a.den:=by grind
  omega
 exact Int.lt_of_mul_lt_mul_left f (by omega)
theorem AA {e y:au}(he:SR e)(a:SR y):∀(l:List bA) (b:au),(∀x∈l,SR x.high)->SR b->∀(i j:Nat),
  foldI (fun _ (x:bA) st=>dj st x.high) i l (dj e b)=dj e (foldI (fun _ (x:bA) st=>dj st x.high) j l b)
 |[],b,_,_,i,j=>rfl
 |x::l,b,d,hb,i,j=>by
  unfold foldI
  have c:=d x (List.mem_cons_self ..)
  have key:dj (dj e b) x.high=dj e (dj b x.high):=by
   unfold dj
   cases h1:cH e b<;>cases h2:cH b x.high<;>simp only[cond_true,cond_false,h1,h2]
   ·have:=F5 he.den.1 hb.den.1 c.den.1 h1 h2
    rw[this];rfl
   ·rw[F6 he.den.1 hb.den.1 c.den.1 h1 h2]
    rfl
  rw[key]
  exact AA he a l _ (fun y a=>d y (List.mem_cons_of_mem _ a)) (qg hb c) (i+1) (j+1)
theorem AB:∀(l:List bA) (i:Nat) (c:bA),(foldI gC i l c).high=foldI (fun _ (x:bA) st=>dj st x.high) i l c.high
 |[],_,_=>rfl
 |x::l,i,c=>by
  unfold foldI
  rw[AB l (i+1)]
  congr 1
  unfold gC dj
  cases cH c.high x.high<;>rfl
theorem AD {a b:au}(c:SR a)(hb:SR b):gP ew a [b]=some (dj a b):=by
 unfold gP bE pg
 simp only[(nU c hb).2,ah]
 unfold dj
 cases cH a b<;>rfl
theorem F7 {f:Nat->bA->au->Option (Fl au au)}(c:f=lM\/f=lN){st:List bA}(d:∀x∈st,SR x.high){e:au}(he:SR e):
  bE f 0 st e=some (.nx (foldI (fun _ (x:bA) st=>dj st x.high) 0 st e))/\SR (foldI (fun _ (x:bA) st=>dj st x.high) 0 st e):=
 kG (I:=fun _ r=>SR r) st 0 e he (fun j x r g a=>by
  have b:=d x (List.mem_of_getElem? g)
  rcases c with rfl|rfl
  ·unfold lM
   simp only[AD a b,ah]
   exact ⟨trivial,qg a b⟩
  ·unfold lN
   simp only[AD a b,ah]
   exact ⟨trivial,qg a b⟩)
section
variable {u : aj} {s : bf} (F : Fit u) (hs : (1 ≤ s.back ∧ s.back ≤ 20) ∧ 0 ≤ s.high ∧ s.high ≤ 60)
include F hs
theorem AE {a b:au}(c:SR a)(hb:SR b):∃d,iY a b=some d/\jK a b=some d/\Sm d 40000000000 64000000:=by
 have e:=Ak c hb (by decide) (by decide) (by decide)
 have f:=FO c hb (by decide) (by decide)
 refine ⟨_,e,f,?_⟩
 have h1:=dS c.num (show b.den.natAbs<=8000 by have:=hb.den;omega)
 have h2:=dS hb.num (show a.den.natAbs<=8000 by have:=c.den;omega)
 have h3:=dS (show a.den.natAbs<=8000 by have:=c.den;omega) (show b.den.natAbs<=8000 by have:=hb.den;omega)
 have g:0<a.den*b.den:=Int.mul_pos c.den.1 hb.den.1
 have:=jP (a.num*b.den - b.num*a.den) (a.den*b.den).toNat (by omega)
 exact ⟨Nat.le_trans this.num (by omega),this.den.1,by have:=this.den.2;omega⟩
theorem AF:Sm (⟨0,1⟩:au) 1 1:=⟨by decide,by decide,by decide⟩
theorem AG {d:au}(hd:Sm d 40000000000 64000000):∃m,gP ew d [⟨0,1⟩]=some m/\fI d ⟨0,1⟩=some m/\Sm m 40000000000 64000000:=by
 have a:=wo hd (AF F hs) (by decide) (by decide)
 refine ⟨cond (cH d ⟨0,1⟩) ⟨0,1⟩ d,?_,?_,?_⟩
 ·unfold gP bE pg
  simp only[a.2,ah]
  unfold cH
  cases decide (d.num*(⟨0,1⟩:au).den<(⟨0,1⟩:au).num*d.den)<;>rfl
 ·unfold fI
  simp only[a.1,ah]
  unfold cH
  cases decide (d.num*(⟨0,1⟩:au).den<(⟨0,1⟩:au).num*d.den)<;>rfl
 ·cases cH d ⟨0,1⟩
  ·exact hd
  ·exact (AF F hs).mono (by decide) (by decide)
theorem AH {f:Nat->bA->au->Option (Fl au au)}(h:f=lM\/f=lN){e:au}(he:SR e):
  ∃st m,iZ u s=some st/\bE f 0 st e=some (.nx m)/\SR m/\((jd u s=some (⟨0,0⟩,false)/\m=e)\/∃b,jd u s=some (b,true)/\fI e b=some m):=by
 rcases F4 F hs with ⟨_,h1,h2⟩|⟨st,b,h1,h2,h3⟩
 ·exact ⟨[],e,h1,rfl,he,.inl ⟨h2,rfl⟩⟩
 ·have a:∀x∈st,SR x.high:=fun x d=>(h3.le x d).2.1
  obtain ⟨k1,i⟩:=F7 h a he
  refine ⟨st,_,h1,k1,i,.inr ⟨b,h2,?_⟩⟩
  rw[wB he h3.sm]
  obtain ⟨c,l,rfl⟩:∃c l,st=c::l:=by
   cases st with
   |nil=>exact absurd rfl h3.ne
   |cons c l=>exact ⟨c,l,rfl⟩
  have g:=a c (List.mem_cons_self ..)
  have e1:b=foldI (fun _ (x:bA) st=>dj st x.high) 0 l c.high:=by rw[h3.Az];exact AB l 0 c
  have e2:=AA he g l c.high (fun x d=>a x (List.mem_cons_of_mem _ d)) g 1 0
  congr 1
  rw[e1,<-e2]
  rfl
theorem F8:∃r,kA u s=some r/\pX u s=some r/\Sm r 40000000000 64000000:=by
 obtain ⟨c,h1,h2,h3,i⟩:=FX F hs
 have e2:c.high=(qf u s).2:=by rw[<-h2]
 have p:SR (⟨u.bL,1⟩:au):=(FY F hs).mono (by decide) (by decide)
 unfold kA pX
 rw[h1,i]
 simp only[ah,wu,<-e2,(nU h3 p).1,(nU h3 p).2]
 cases cH c.high ⟨u.bL,1⟩ with
 |true=>
  simp only[cond_true]
  obtain ⟨st,m,t1,t2,t3,t4⟩:=AH F hs (.inl rfl) (f:=lM) h3
  obtain ⟨d,d1,d2,d3⟩:=AE F hs p t3
  obtain ⟨z,g,a,e⟩:=AG F hs d3
  simp only[t1,t2,aF,d1,g]
  rcases t4 with ⟨k1,rfl⟩|⟨b,k1,h⟩
  ·simp only[k1,cond_false,d2,a]
   exact ⟨z,rfl,rfl,e⟩
  ·simp only[k1,cond_true,h,d2,a]
   exact ⟨z,rfl,rfl,e⟩
 |false=>
  simp only[cond_false]
  obtain ⟨st,m,t1,t2,t3,t4⟩:=AH F hs (.inr rfl) (f:=lN) p
  obtain ⟨d,d1,d2,d3⟩:=AE F hs h3 t3
  obtain ⟨z,g,a,e⟩:=AG F hs d3
  simp only[t1,t2,aF,d1,g]
  rcases t4 with ⟨k1,rfl⟩|⟨b,k1,h⟩
  ·simp only[k1,cond_false,d2,a]
   exact ⟨z,rfl,rfl,e⟩
  ·simp only[k1,cond_true,h,d2,a]
   exact ⟨z,rfl,rfl,e⟩
theorem F9:∃b,fY u s=some b/\l7 u s=some b:=by
 obtain ⟨r,h1,h2,h3⟩:=F8 F hs
 have c:Sm u.aV 20 20:=⟨by have:=F.num;omega,by have:=F.den;omega,by have:=F.den;omega⟩
 have a:=wo c h3 (by decide) (by decide)
 unfold fY l7
 simp only[h1,h2,a.1,a.2,ah]
 exact ⟨_,rfl,rfl⟩
end
section
variable (u : aj) (h0 : u.aB.length ≤ 20) (h1 : u.props.length ≤ 20) (h2 : u.aC.length ≤ 20) (h3 : u.told.length ≤ 20) (s : bf)
include h0 h1 h2 h3
end
def gZ {α ρ:Type}(t:Nat->α->Option ρ):Nat->List α->Option ρ
 |_,[]=>none
 |i,x::l=>match t i x with
  |some r=>some r
  |none=>gZ t (i+1) l
def mo {σ ρ:Type}(o:Option ρ)(s:σ):Fl σ ρ:=match o with
 |some r=>.rt r
 |none=>.nx s
theorem AI {α σ ρ:Type}{f:Nat->α->σ->Option (Fl σ ρ)}{t:Nat->α->Option ρ}:∀(l:List α) (i:Nat) (s:σ),(∀j x s,l[j]?=some x->f (i+j) x s=some (mo (t (i+j) x) s))->bE f i l s=some (mo (gZ t i l) s)
 |[],i,s,_=>rfl
 |x::l,i,s,h=>by
  have h0:=h 0 x s rfl
  simp only[Nat.add_zero] at h0
  unfold bE gZ
  rw[h0]
  cases ht:t i x with
  |some r=>rfl
  |none=>
   show bE f (i+1) l s=_
   exact AI l (i+1) s fun j y s a=>by
    have:=h (j+1) y s (by simpa using a)
    rwa [show i+(j+1)=i+1+j by omega] at this
theorem AJ {α σ ρ:Type}{f:σ×Int->Option (Fl (σ×Int) ρ)}{t:Nat->α->Option ρ}(l:List α)(h:∀(i:Nat) x s,l[i]?=some x->f (s,(i:Int))=some (mo (t i x) (s,((i+1:Nat):Int))))(a:∀s,f (s,(l.length:Int))=some (.bk (s,(l.length:Int)))):
  ∀(k i n:Nat) (s:σ),i+k=l.length->k<n->aR f n (s,(i:Int))=some (mo (gZ t i (l.drop i)) (s,(l.length:Int)))
 |0,i,n+1,s,hi,_=>by
  obtain rfl:i=l.length:=by omega
  unfold aR
  rw[a,List.drop_length]
  rfl
 |k+1,i,n+1,s,hi,d=>by
  have b:i<l.length:=by omega
  have c:l[i]?=some l[i]:=List.getElem?_eq_getElem b
  unfold aR
  rw[h i _ s c,List.drop_eq_getElem_cons b]
  unfold gZ
  cases ht:t i l[i] with
  |some r=>rfl
  |none=>exact AJ l h a k (i+1) n s (by omega) (by omega)
theorem AK {α σ ρ:Type}{f:σ×Int->Option (Fl (σ×Int) ρ)}{t:Nat->α->Option ρ}(l:List α)(a:l.length<=1000)(h:∀(i:Nat) x s,l[i]?=some x->f (s,(i:Int))=some (mo (t i x) (s,((i+1:Nat):Int))))(b:∀s,f (s,(l.length:Int))=some (.bk (s,(l.length:Int))))(s:σ):
  aR f fu (s,0)=some (mo (gZ t 0 l) (s,(l.length:Int))):=by
 have:=AJ l h b l.length 0 fu s (by omega) (Nat.lt_of_le_of_lt a (by decide))
 simpa using this
theorem AL {α ρ:Type}{g:α->Bool}{r:ρ}:∀(l:List α) (i:Nat),gZ (fun _ x=>if g x then none else some r) i l=if l.all g then none else some r
 |[],_=>rfl
 |x::l,i=>by
  unfold gZ
  cases h:g x with
  |false=>simp[h]
  |true=>
   simp only[h,if_true,List.all_cons,Bool.true_and]
   exact AL l (i+1)
theorem AM {α:Type}{g:α->Bool}:∀(l:List α) (i:Nat),∃r,gZ (fun i x=>if g x then some (i:Int) else none) i l=r/\decide (0<=r.getD (-1))=l.any g
 |[],_=>⟨none,rfl,rfl⟩
 |x::l,i=>by
  unfold gZ
  cases h:g x with
  |true=>exact ⟨_,rfl,by simp[h]⟩
  |false=>
   obtain ⟨r,h1,h2⟩:=AM l (i+1) (g:=g)
   exact ⟨r,by simpa using h1,by simpa [h] using h2⟩
theorem fL {α:Type}{l:List α}{i:Nat}{x:α}(h:l[i]?=some x):bq l (i:Int)=some x:=by
 unfold bq
 rw[if_pos (by omega)]
 simpa using h
theorem qh {α:Type}{l:List α}{i:Int}{x:α}(h0:0<=i)(h:l[i.toNat]?=some x):bq l i=some x:=by
 unfold bq
 rw[if_pos h0,h]
theorem contains_eq {f:bx->Option Bool}{g:bx->Bool}(l:List bx)(h:∀x,x∈l->f x=some (g x)):pH l f=some (l.any g):=by
 unfold pH rG
 rw[AI (t:=fun i x=>if g x then some (i:Int) else none) l 0 0 fun j x s a=>by
  unfold rF
  rw[h x (List.mem_of_getElem? a)]
  cases g x<;>rfl]
 obtain ⟨r,h1,h2⟩:=AM (g:=g) l 0
 rw[h1,<-h2]
 cases r<;>rfl
def fq (u:aj)(s:bf):Bool:=(fY u s).getD false
theorem sD {u:aj}(F:Fit u){s:bf}(hs:(1<=s.back/\s.back<=20)/\0<=s.high/\s.high<=60):fY u s=some (fq u s)/\l7 u s=some (fq u s):=by
 obtain ⟨b,h1,h2⟩:=F9 F hs
 have e:fq u s=b:=by unfold fq;rw[h1];rfl
 rw[e];exact ⟨h1,h2⟩
def jg (u:aj)(i:Nat)(n:Int):bf:=⟨(u.aC[i]?.map (·.back)).getD 0,n⟩
structure qi (u:aj)(h:List Int):Prop where
 len:h.length=u.aC.length
 AN:∀(i:Nat) e,u.aC[i]?=some e->∃n,h[i]?=some n/\e.high.low<=n/\n<=e.high.high
def kH (u:aj)(h:List Int)(t:bx):Bool:=fq u (jg u t.aT.toNat (h[t.aT.toNat]?.getD 0))==t.bg
def fM (u:aj)(h:List Int):Bool:=u.told.all (kH u h)
theorem AO {u:aj}{h:List Int}(H:qi u h){i:Int}(h0:0<=i)(h1:i<u.aC.length)(F:Fit u):∃e n,u.aC[i.toNat]?=some e/\h[i.toNat]?=some n/\jg u i.toNat n=⟨e.back,n⟩/\(1<=e.back/\e.back<=20)/\0<=n/\n<=60:=by
 have c:u.aC[i.toNat]?=some (u.aC[i.toNat]'(by omega)):=List.getElem?_eq_getElem _
 obtain ⟨n,d,a,b⟩:=H.AN _ _ c
 obtain ⟨c1,c2,c3,c4,f⟩:=F.aT _ _ c
 refine ⟨_,n,c,d,?_,c1,by omega,by omega⟩
 unfold jg;rw[c];rfl
theorem Ga {u:aj}(F:Fit u){h:List Int}(H:qi u h):nN u h=some (fM u h):=by
 unfold nN
 rw[AK (t:=fun _ x=>if kH u h x then none else some false) u.told (by have:=F.told;omega) (s:=false) (fun i x s c=>?_) (fun s=>?_)]
 ·rw[AL]
  unfold fM
  cases u.told.all (kH u h)<;>rfl
 ·obtain ⟨a,b⟩:=F.wh i x c
  obtain ⟨e,n,h1,h2,h3,d,f⟩:=AO H a b F
  have g:i<u.told.length:=(List.getElem?_eq_some_iff.1 c).1
  have ht:=F.told
  unfold pY nF
  rw[show decide (((i:Nat):Int)<(u.told.length:Int))=true by simp;omega]
  simp only[cond_true,fL c,ah,qh a h1,qh a h2,(sD F (s:=⟨e.back,n⟩) ⟨d,f⟩).2]
  rw[cF (n:=(i:Int)+1) (by omega)]
  unfold kH
  rw[h2]
  show _=some (mo (if fq u (jg u x.aT.toNat n)==x.bg then none else some false) (s,((i+1:Nat):Int)))
  rw[h3]
  cases fq u ⟨e.back,n⟩==x.bg<;>rfl
 ·unfold pY
  rw[show decide ((u.told.length:Int)<(u.told.length:Int))=false by simp]
  rfl
def ee (l:List Int):aX:=⟨l[0]?.getD 0,l[1]?.getD 0,l[2]?.getD 0⟩
theorem wC {l:List Int}{i:Int}{n:Int}(h0:0<=i)(h1:i<3)(h:l[i.toNat]?=some n):aX.get (ee l) i=some n:=by
 unfold aX.get ee
 rcases (show i=0\/i=1\/i=2 by omega) with rfl|rfl|rfl<;>simp at h<;>simp[h]
theorem Gb {u:aj}(F:Fit u){h:List Int}(H:qi u h):m9 u (ee h)=some (fM u h):=by
 unfold m9
 rw[contains_eq (g:=fun t=>!kH u h t) u.told fun x c=>by
  obtain ⟨i,hi⟩:=List.mem_iff_getElem?.1 c
  obtain ⟨a,b⟩:=F.wh i x hi
  obtain ⟨e,n,h1,h2,h3,d,f⟩:=AO H a b F
  have:=F.aC
  unfold pI iG
  simp only[wC a (by omega) h2,ah,qh a h1,(sD F (s:=⟨e.back,n⟩) ⟨d,f⟩).1]
  unfold kH
  rw[h2]
  show _=some (!(fq u (jg u x.aT.toNat n)==x.bg))
  rw[h3]]
 simp only[ah]
 unfold fM
 rw[show (u.told.any fun t=>!kH u h t)=!(u.told.all (kH u h)) by rw[List.all_eq_not_any_not];simp]
 simp
def eB (b:cr):List Int:=(List.range (b.high - b.low+1).toNat).map fun k=>b.low+(k:Nat)
theorem Gc {b:cr}{i:Nat}{x:Int}(h:(eB b)[i]?=some x):x=b.low+i/\b.low+i<=b.high:=by
 unfold eB at h
 rw[List.getElem?_map,Option.map_eq_some_iff] at h
 obtain ⟨k,a,rfl⟩:=h
 obtain ⟨h1,h2⟩:=List.getElem?_eq_some_iff.1 a
 simp at h1 h2
 subst h2
 exact ⟨rfl,by omega⟩
theorem qj (b:cr):(eB b).length=(b.high - b.low+1).toNat:=by simp[eB]
theorem Gd {b:cr}{x:Int}:x∈eB b↔b.low<=x/\x<=b.high:=by
 unfold eB
 rw[List.mem_map]
 constructor
 ·rintro ⟨k,a,rfl⟩;rw[List.mem_range] at a;omega
 ·rintro ⟨h1,h2⟩;exact ⟨(x - b.low).toNat,by rw[List.mem_range];omega,by omega⟩
def jQ (b:cr)(all:List (List Int)):List (List Int):=all.flatMap fun p=>(eB b).map fun n=>p++[n]
def eH (p:List Int):List bV->List (List Int)
 |[]=>[p]
 |e::l=>(eB e.high).flatMap fun n=>eH (p++[n]) l
def bR (u:aj):List (List Int):=(eH [] u.aC).filter (fM u)
theorem wD {α β:Type}(g:α->List β):∀(l:List α) (i:Nat) (s:List β),foldI (fun _ x s=>s++g x) i l s=s++l.flatMap g
 |[],_,s=>by simp[foldI]
 |x::l,i,s=>by
  unfold foldI
  rw[wD g l]
  simp[List.flatMap_cons]
theorem AP:∀(l:List bV) (i:Nat) (all:List (List Int)),foldI (fun _ (e:bV) all=>jQ e.high all) i l all=all.flatMap fun p=>eH p l
 |[],_,all=>by
  unfold foldI
  show all=all.flatMap fun p=>[p]
  induction all with
  |nil=>rfl
  |cons a l ih=>rw[List.flatMap_cons,<-ih];rfl
 |e::l,i,all=>by
  unfold foldI
  rw[AP l]
  unfold jQ
  rw[List.flatMap_assoc]
  congr 1
  funext p
  rw[List.flatMap_map]
  rfl
theorem AQ:∀(l:List bV) (p h:List Int),h∈eH p l->h.length=p.length+l.length/\(∀(j:Nat) e,l[j]?=some e->∃n,h[p.length+j]?=some n/\e.high.low<=n/\n<=e.high.high)/\∀j,j<p.length->h[j]?=p[j]?
 |[],p,h,hm=>by
  simp only[eH,List.mem_singleton] at hm
  subst hm
  exact ⟨rfl,fun j e he=>by simp at he,fun _ _=>rfl⟩
 |e::l,p,h,hm=>by
  unfold eH at hm
  rw[List.mem_flatMap] at hm
  obtain ⟨n,b,hm⟩:=hm
  obtain ⟨h1,h2,h3⟩:=AQ l _ _ hm
  rw[List.length_append,List.length_singleton] at h1 h2 h3
  refine ⟨by simp;omega,fun j x a=>?_,fun j c=>?_⟩
  ·cases j with
   |zero=>
    simp at a;subst a
    refine ⟨n,?_,Gd.1 b⟩
    rw[Nat.add_zero,h3 _ (by omega),List.getElem?_append_right (Nat.le_refl _)]
    simp
   |succ j=>
    obtain ⟨m,hm,hb⟩:=h2 j x (by simpa using a)
    exact ⟨m,by rw[<-hm];congr 1;omega,hb⟩
  ·rw[h3 j (by omega),List.getElem?_append_left c]
theorem AR {u:aj}{h:List Int}(hm:h∈eH [] u.aC):qi u h:=by
 obtain ⟨h1,h2,_⟩:=AQ _ _ _ hm
 exact ⟨by simpa using h1,fun i e he=>by simpa using h2 i e he⟩
theorem AS {b:cr}(hb:b.high - b.low<3):∀(all:List (List Int)),(jQ b all).length<=all.length*3
 |[]=>by simp[jQ]
 |p::all=>by
  have:=AS hb all
  unfold jQ at this ⊢
  rw[List.flatMap_cons,List.length_append,List.length_map,qj,List.length_cons]
  omega
theorem jR {α:Type}{l xs:List α}(h:l.length+xs.length<=1000000):cI l xs=some (l++xs):=by
 unfold cI;rw[if_pos h]
theorem Ge {all:List (List Int)}{k:Nat}{p:List Int}{e:bV}(b:all[k]?=some p)(d:p.length<=100)(he:0<=e.high.low/\e.high.low<=e.high.high/\e.high.high<=60/\e.high.high - e.high.low<3)(s:List (List Int))(hs:s.length<=1000):
  aR (l8 all (k:Int) e) fu (s,e.high.low)=some (.nx (s++(eB e.high).map (fun n=>p++[n]),e.high.high+1)):=by
 have key:=jf (f:=l8 all (k:Int) e) (g:=fun _ x s=>s++[p++[x]]) (I:=fun i s=>s.length<=1000+i) (fun s i=>(s,e.high.low+i)) (eB e.high) (by rw[qj];omega)
  (fun i x s c h=>by
   obtain ⟨rfl,hb⟩:=Gc c
   refine ⟨?_,by simp;omega⟩
   unfold l8
   rw[show decide ((s,e.high.low+(i:Int)).2<=e.high.high)=true by simpa using hb]
   simp only[cond_true,fL b,ah,jR (l:=([]:List Int)) (xs:=p) (by simp;omega),List.nil_append,jR (l:=p) (xs:=[e.high.low+(i:Int)]) (by simp;omega),jR (l:=s) (xs:=[p++[e.high.low+(i:Int)]]) (by simp;omega)]
   rw[cF (n:=e.high.low+(i:Int)+1) (by omega)]
   simp;omega)
  (fun s=>by
   unfold l8
   rw[show decide ((s,e.high.low+((eB e.high).length:Int)).2<=e.high.high)=false by rw[qj];simp;omega]
   rfl) s (by omega)
 have:=key.1
 rw[wD (fun x=>[p++[x]])] at this
 simp only[Int.add_zero] at this
 rw[this]
 congr 2
 refine Prod.ext ?_ ?_
 ·simp only[List.append_cancel_left_eq]
  induction eB e.high with
  |nil=>rfl
  |cons a l ih=>simp[ih]
 ·simp only[qj];omega
theorem Gf {u:aj}{all:List (List Int)}{i:Nat}{e:bV}(hi:u.aC[i]?=some e)(b:∀p∈all,p.length<=100)(c:all.length<=100)(he:0<=e.high.low/\e.high.low<=e.high.high/\e.high.high<=60/\e.high.high - e.high.low<3):
  aR (l9 u all (i:Int)) fu (([]:List (List Int)),0)=some (.nx (jQ e.high all,(all.length:Int))):=by
 have key:=jf (f:=l9 u all (i:Int)) (g:=fun _ p s=>s++(eB e.high).map fun n=>p++[n]) (I:=fun i s=>s.length<=3*i/\i<=all.length) (fun s i=>(s,i)) all (by omega)
  (fun k p s a d=>by
   have h:k<all.length:=(List.getElem?_eq_some_iff.1 a).1
   refine ⟨?_,by simp[qj];omega,by omega⟩
   unfold l9
   rw[show decide ((s,(k:Int)).2<(all.length:Int))=true by simp;omega]
   simp only[cond_true,fL hi,ah,Ge a (b p (List.mem_of_getElem? a)) he s (by omega),aF]
   rw[cF (n:=(k:Int)+1) (by omega)]
   rfl)
  (fun s=>by
   unfold l9
   rw[show decide ((s,(all.length:Int)).2<(all.length:Int))=false by simp]
   rfl) ([]:List (List Int)) ⟨by simp,by omega⟩
 have:=key.1
 rw[wD (fun p=>(eB e.high).map fun n=>p++[n])] at this
 simpa [jQ] using this
theorem AT {u:aj}:∀(l:List (List Int)) (i:Nat) (s:List (List Int)),foldI (fun _ x s=>if fM u x then s++[x] else s) i l s=s++l.filter (fM u)
 |[],_,s=>by simp[foldI]
 |x::l,i,s=>by
  unfold foldI
  rw[AT l]
  cases h:fM u x<;>simp[h]
theorem three (i:Nat)(h:i<=3):3 ^ i<=27:=by
 rcases (show i=0\/i=1\/i=2\/i=3 by omega) with rfl|rfl|rfl|rfl<;>decide
theorem kI {u:aj}(F:Fit u):mb u=some (bR u)/\(bR u).length<=27:=by
 have o:=F.aC
 have key:=jf (f:=nO u) (g:=fun _ (e:bV) all=>jQ e.high all) (I:=fun i all=>(∀p∈all,p.length=i)/\all.length<=3 ^ i/\i<=u.aC.length) (fun s i=>(s,i)) u.aC (by omega)
  (fun i e all hi c=>by
   obtain ⟨h1,h2,h3⟩:=c
   have j:i<u.aC.length:=(List.getElem?_eq_some_iff.1 hi).1
   have he:=(F.aT i e hi).2
   have r:=three i (by omega)
   have hs:=AS he.2.2.2 all
   refine ⟨?_,fun p a=>?_,by rw[Nat.pow_succ];omega,by omega⟩
   ·unfold nO
    rw[show decide ((all,(i:Int)).2<(u.aC.length:Int))=true by simp;omega]
    simp only[cond_true,Gf hi (fun p a=>by have:=h1 p a;omega) (by omega) he,ah,aF]
    rw[cF (n:=(i:Int)+1) (by omega)]
    rfl
   ·unfold jQ at a
    rw[List.mem_flatMap] at a
    obtain ⟨q,k,a⟩:=a
    rw[List.mem_map] at a
    obtain ⟨n,_,rfl⟩:=a
    simp[h1 q k])
  (fun s=>by
   unfold nO
   rw[show decide ((s,(u.aC.length:Int)).2<(u.aC.length:Int))=false by simp]
   rfl) [[]] ⟨by simp,by simp,by omega⟩
 obtain ⟨k1,b⟩:=key
 rw[AP] at k1 b
 simp only[List.flatMap_cons,List.flatMap_nil,List.append_nil] at k1 b
 have hlen:(eH [] u.aC).length<=27:=Nat.le_trans b.2.1 (three _ (by omega))
 have d:=jf (f:=sk u (eH [] u.aC)) (g:=fun _ x s=>if fM u x then s++[x] else s) (I:=fun i s=>s.length<=i/\i<=(eH [] u.aC).length) (fun s i=>(s,i)) (eH [] u.aC) (by omega)
  (fun i h s hi c=>by
   have j:i<(eH [] u.aC).length:=(List.getElem?_eq_some_iff.1 hi).1
   have m:=Ga F (AR (List.mem_of_getElem? hi))
   refine ⟨?_,by cases fM u h<;>simp<;>omega,by omega⟩
   unfold sk
   rw[show decide ((s,(i:Int)).2<((eH [] u.aC).length:Int))=true by simp;omega]
   simp only[cond_true,fL hi,ah,m]
   rw[cF (n:=(i:Int)+1) (by omega)]
   cases fM u h with
   |false=>rfl
   |true=>simp only[cond_true,jR (l:=s) (xs:=[h]) (by simp;omega)];rfl)
  (fun s=>by
   unfold sk
   rw[show decide ((s,((eH [] u.aC).length:Int)).2<((eH [] u.aC).length:Int))=false by simp]
   rfl) ([]:List (List Int)) ⟨by simp,by omega⟩
 rw[AT] at d
 refine ⟨?_,Nat.le_trans (List.length_filter_le _ _) hlen⟩
 unfold mb
 rw[k1]
 simp only[ah,aF]
 rw[d.1]
 simp only[List.nil_append]
 rfl
def co (h:aX)(j:Nat):Int:=if j=0 then h.e0 else if j=1 then h.e1 else if j=2 then h.e2 else 0
theorem Gg (h:aX){j:Nat}(a:j<3)(n:Int):∃h1,h.setAt (j:Int) n=some h1/\∀i,co h1 i=if i=j then n else co h i:=by
 rcases (show j=0\/j=1\/j=2 by omega) with rfl|rfl|rfl
 ·refine ⟨{h with e0:=n},rfl,fun i=>?_⟩
  unfold co;split<;>rfl
 ·refine ⟨{h with e1:=n},rfl,fun i=>?_⟩
  unfold co
  by_cases h0:i=0<;>by_cases h1:i=1<;>simp[h0,h1]<;>omega
 ·refine ⟨{h with e2:=n},rfl,fun i=>?_⟩
  unfold co
  by_cases h0:i=0<;>by_cases h1:i=1<;>by_cases h2:i=2<;>simp[h0,h1,h2]<;>omega
structure Ag (u:aj)(p:List Int)(h:aX):Prop where
 at_:∀(j:Nat) n,p[j]?=some n->co h j=n
 no:∀j,u.aC.length<=j->co h j=0
theorem Ag.ee {u:aj}{p:List Int}{h:aX}(H:Ag u p h)(a:p.length=u.aC.length):h=ee p:=by
 have key:∀j,co h j=p[j]?.getD 0:=fun j=>by
  cases e:p[j]? with
  |some n=>exact H.at_ j n e
  |none=>exact H.no j (by rw[<-a];exact List.getElem?_eq_none_iff.1 e)
 have b:=key 0
 have k1:=key 1
 have c:=key 2
 cases h
 unfold Go.Proofs.YtipgiooobncfbaaGreatDoor.ee
 rw[<-b,<-k1,<-c]
 rfl
theorem Ag.set {u:aj}{p:List Int}{h:aX}(H:Ag u p h)(b:p.length<u.aC.length)(h3:u.aC.length<=3)(n:Int):∃h1,h.setAt (p.length:Int) n=some h1/\Ag u (p++[n]) h1:=by
 obtain ⟨h1,e1,e2⟩:=Gg h (j:=p.length) (by omega) n
 refine ⟨h1,e1,fun j m hm=>?_,fun j a=>?_⟩
 ·rw[e2]
  by_cases e:j=p.length
  ·subst e
   rw[if_pos rfl]
   simpa using hm
  ·rw[if_neg e]
   refine H.at_ j m ?_
   rw[<-hm,List.getElem?_append_left]
   have:=(List.getElem?_eq_some_iff.1 hm).1
   simp at this;omega
 ·rw[e2,if_neg (by omega)];exact H.no j a
theorem Ag.cut {u:aj}{p:List Int}{n:Int}{h:aX}(H:Ag u (p++[n]) h):Ag u p h:=
 ⟨fun j m hm=>H.at_ j m (by rw[List.getElem?_append_left (List.getElem?_eq_some_iff.1 hm).1];exact hm),H.no⟩
theorem Gh {a b:Int}(h:a<=b):eB ⟨a,b⟩=a::eB ⟨a+1,b⟩:=by
 unfold eB
 simp only
 rw[show (b - a+1).toNat=(b - (a+1)+1).toNat+1 by omega,List.range_succ_eq_map]
 simp only[List.map_cons,List.map_map,Function.comp_def]
 congr 1
 ·simp
 ·apply List.map_congr_left;intro k _;simp only[Nat.succ_eq_add_one];omega
theorem Gi {a b:Int}(h:¬a<=b):eB ⟨a,b⟩=[]:=by
 unfold eB
 simp only
 rw[show (b - a+1).toNat=0 by omega]
 rfl
theorem AU {u:aj}{p:List Int}(a:p.length<u.aC.length)(h3:u.aC.length<=3){f:aX->List (Option aX)×aX}{G:Int->List (Option aX)}{lo hi:Int}(hb:0<=lo/\hi<=60)
  (b:∀n,lo<=n->n<=hi->∀h,Ag u (p++[n]) h->(f h).1=G n/\Ag u (p++[n]) (f h).2):
  ∀(k:Nat) (n:Int) (h:aX),Ag u p h->lo<=n->n<=61->61 - n<k->(iI f (p.length:Int) hi k n h).1=(eB ⟨n,hi⟩).flatMap G/\Ag u p (iI f (p.length:Int) hi k n h).2
 |0,n,h,H,h1,h2,d=>by omega
 |k+1,n,h,H,h1,h2,d=>by
  unfold iI
  by_cases c:n<=hi
  ·rw[if_pos c,Gh c]
   obtain ⟨x,e1,e2⟩:=H.set a h3 n
   rw[e1]
   obtain ⟨e,g⟩:=b n h1 c x e2
   have w:IntKind.i64.wrap (n+1)=n+1:=cF (by omega)
   obtain ⟨r1,r2⟩:=AU a h3 hb b k (n+1) (f x).2 g.cut (by omega) (by omega) (by omega)
   simp only[w]
   exact ⟨by rw[e,r1,List.flatMap_cons],r2⟩
  ·rw[if_neg c,Gi c]
   exact ⟨rfl,H⟩
theorem AV {u:aj}(F:Fit u):∀(l:List bV) (p:List Int) (fuel:Nat) (h:aX),u.aC.drop p.length=l->p.length+l.length=u.aC.length->l.length<fuel->
  (∀(j:Nat) e,u.aC[j]?=some e->j<p.length->∃n,p[j]?=some n/\e.high.low<=n/\n<=e.high.high)->Ag u p h->
  (eA u fuel (p.length:Int) h).1=((eH p l).filter (fM u)).map (fun x=>some (ee x))/\Ag u p (eA u fuel (p.length:Int) h).2
 |l,p,0,h,hd,a,b,hb,H=>by omega
 |[],p,fuel+1,h,hd,a,b,hb,H=>by
  have a:p.length=u.aC.length:=by simpa using a
  unfold eA
  rw[if_pos (by omega)]
  obtain rfl:=H.ee a
  have R:=Gb F (h:=p) ⟨a,fun i e he=>hb i e he (by have:=(List.getElem?_eq_some_iff.1 he).1;omega)⟩
  refine ⟨?_,H⟩
  rw[R]
  unfold eH
  cases e:fM u p<;>simp[e]
 |e::l,p,fuel+1,h,hd,a,b,hb,H=>by
  simp only[List.length_cons] at a b
  have he:u.aC[p.length]?=some e:=by
   have:=congrArg List.head? hd
   simpa [List.head?_drop] using this
  have k:u.aC.drop (p.length+1)=l:=by
   have:=congrArg List.tail hd
   simpa [List.tail_drop] using this
  have o:=F.aC
  have g:=(F.aT _ _ he).2
  unfold eA
  rw[if_neg (by omega),fL he]
  have w:IntKind.i64.wrap ((p.length:Int)+1)=((p.length+1:Nat):Int):=by rw[cF (by omega)];omega
  simp only[w]
  have key:=AU (u:=u) (p:=p) (by omega) o.2 (f:=eA u fuel ((p.length+1:Nat):Int)) (G:=fun n=>((eH (p++[n]) l).filter (fM u)).map (fun x=>some (ee x))) (lo:=e.high.low) (hi:=e.high.high) ⟨g.1,g.2.2.1⟩
   (fun n n1 n2 x q=>by
    have:=AV F l (p++[n]) fuel x (by simpa using k) (by simp;omega) (by omega) (fun j y d r=>by
     by_cases c:j<p.length
     ·obtain ⟨m,hm,s⟩:=hb j y d c
      exact ⟨m,by rw[List.getElem?_append_left c];exact hm,s⟩
     ·simp at r
      obtain rfl:j=p.length:=by omega
      rw[he] at d;cases d
      exact ⟨n,by simp,n1,n2⟩) q
    simpa using this) 100 e.high.low h H (Int.le_refl _) (by omega) (by omega)
  refine ⟨?_,key.2⟩
  rw[key.1,show eH p (e::l)=(eB e.high).flatMap fun n=>eH (p++[n]) l from rfl,List.filter_flatMap,List.map_flatMap]
theorem Gj (j:Nat):co ⟨0,0,0⟩ j=0:=by
 unfold co
 split
 ·rfl
 ·split
  ·rfl
  ·split<;>rfl
theorem AW {u:aj}(F:Fit u):lQ u=(bR u).map (fun x=>some (ee x)):=by
 have c:=F.aC
 exact (AV F u.aC [] 5 ⟨0,0,0⟩ rfl (by simp) (by omega) (fun j e _ a=>absurd a (by simp)) ⟨fun j n b=>by simp at b,fun j _=>Gj j⟩).1
theorem AX:∀(l:List aX) (s:List aX),s.length+l.length<=1000000->iC nj (l.map some) s=some (.nx (s++l))
 |[],s,_=>by simp[iC]
 |x::l,s,h=>by
  simp only[List.length_cons] at h
  simp only[List.map_cons]
  have:=AX l (s++[x]) (by simp;omega)
  rw[show s++x::l=s++[x]++l by simp,<-this]
  have e:nj x s=some (.nx (s++[x])):=by
   unfold nj
   rw[jR (by simp;omega)]
   rfl
  show iC _ (some x::l.map some) s=_
  rw[iC,e]
  rfl
theorem Gk {l:List aX}(h:l.length<=1000):pL (l.map some)=some l:=by
 unfold pL rS
 rw[AX l [] (by simp;omega)]
 simp[ah,aF]
theorem AY {u:aj}(F:Fit u):ni u=some (!(bR u).isEmpty):=by
 unfold ni
 rw[AW F]
 cases bR u with
 |nil=>rfl
 |cons a l=>rfl
def AZ:cL:=⟨qe,[]⟩
theorem A0 {u:aj}{a:List (aj->Option Int)}{c:Int}(h:eO u a=some (qe,c))(b:c≠0):fo u a=some (AZ,c):=by
 unfold fo
 rw[h]
 simp only[ah]
 rw[show (c != 0)=true by simpa using b]
 rfl
theorem A1 {u:aj}(F:Fit u){b:List (aj->Option Int)}(h:eO u b=some (u,0)):fo u b=some (if (bR u).isEmpty then (AZ,9) else (⟨u,(bR u).map ee⟩,0)):=by
 unfold fo
 rw[h]
 simp only[ah]
 rw[show ((0:Int) != 0)=false by decide]
 simp only[cond_false]
 have c:=(kI F).2
 rw[AW F,show (bR u).map (fun x=>some (ee x))=((bR u).map ee).map some by simp,Gk (by simp;omega)]
 simp only[ah]
 cases bR u with
 |nil=>rfl
 |cons a l=>
  rw[show ((((a::l).map ee).length:Int)==0)=false by simp;omega]
  rfl
structure gG (u:aj):Prop where
 e:u.aB.length<=20
 p:u.props.length<=20
 y:u.aC.length<=20
 t:u.told.length<=20
theorem bars {u:aj}(L:gG u):∃c,iH u=some c/\gD u=some c:=by
 obtain ⟨h1,c,h2⟩:=FM u L.e L.p L.y L.t
 exact ⟨c,h2,h1▸h2⟩
theorem wE {u:aj}(h:iH u=some 0):eO u []=some (u,0):=by
 unfold eO
 rw[h]
 rfl
theorem A2 {u:aj}{a c:Int}(h:gD u=some c)(b:c≠0):kF u a=some ([],c):=by
 unfold kF
 rw[h]
 simp only[ah]
 rw[show (c != 0)=true by simpa using b]
 rfl
theorem A3 {u:aj}(F:Fit u)(h:gD u=some 0):kF u 0=some (if (bR u).isEmpty then ([],9) else (bR u,0)):=by
 unfold kF
 rw[h,(kI F).1]
 simp only[ah]
 rw[show ((0:Int) != 0)=false by decide]
 simp only[cond_false]
 cases bR u with
 |nil=>rfl
 |cons a l=>
  rw[show (((a::l).length:Int)==0)=false by simp;omega]
  rfl
theorem mq:gG qe:=⟨by decide,by decide,by decide,by decide⟩
theorem A4 {u:aj}(L:gG u):∃r,nq u=some r/\nP u=some r/\gG r.1:=by
 obtain ⟨c,h1,h2⟩:=bars L
 unfold nq nP
 by_cases b:c=0
 ·subst b
  have F:=qc u L.e h1
  rw[A1 F (wE h1),A3 F h2]
  simp only[ah]
  cases bR u with
  |nil=>exact ⟨_,rfl,rfl,mq⟩
  |cons a l=>
   have:=L.e
   have:=L.p
   have:=L.y
   have:=L.t
   simp only[List.isEmpty_cons,Bool.false_eq_true,if_false]
   rw[show ((0:Int) != 0)=false by decide]
   simp only[cond_false]
   unfold rO pK nh ng
   rw[if_pos (by omega),if_pos (by omega),if_pos (by omega),if_pos (by omega)]
   exact ⟨_,rfl,rfl,L⟩
 ·rw[A0 (sB [] h1 b) b,A2 h2 b]
  simp only[ah]
  rw[show (c != 0)=true by simpa using b]
  exact ⟨_,rfl,rfl,mq⟩
theorem Gl {u:aj}(L:gG u)(t:bx):∃r,lR u t=some r/\pZ u t=some r/\gG r.1:=by
 obtain ⟨c,h1,h2⟩:=bars L
 unfold lR pZ
 rw[h1,h2]
 simp only[ah]
 by_cases a:c=0
 ·subst a
  have F:=qc u L.e h1
  have ht:=F.told
  have b:gG ⟨u.bF,u.bL,u.aV,u.aB,u.props,u.aC,u.told++[t]⟩:=⟨L.e,L.p,L.y,by simp;omega⟩
  obtain ⟨r,k1,d,f⟩:=A4 b
  rw[show ((0:Int) != 0)=false by decide]
  simp only[cond_false]
  unfold ng lY
  rw[if_pos (by omega),jR (l:=([]:List bx)) (xs:=u.told) (by simp;omega),List.nil_append]
  simp only[ah,jR (l:=u.told) (xs:=[t]) (by simp;omega),k1,d]
  exact ⟨_,rfl,rfl,f⟩
 ·rw[show (c != 0)=true by simpa using a]
  exact ⟨_,rfl,rfl,mq⟩
theorem Gm (u:aj)(n:Int):eF n u=some (cond (gF u n) 0 6):=by
 unfold eF
 rw[(su u n).2]
 simp only[ah]
 cases gF u n<;>rfl
theorem Gn {u:aj}(F:Fit u){n:Int}:gF u n=true↔0<=n/\n<u.aC.length:=by
 have:=F.aC
 unfold gF
 rw[cF (by omega),fK]
 omega
theorem Gq {u:aj}(L:gG u)(n:Int)(x:cr):∃r,nB u n x=some r/\p5 u n x=some r/\gG r.1:=by
 obtain ⟨c,h1,h2⟩:=bars L
 unfold nB p5
 by_cases a:c=0
 ·subst a
  have F:=qc u L.e h1
  have he:=F.aC
  rw[FQ h1 (Gm u n),h2,(su u n).1]
  simp only[ah]
  rw[show ((0:Int) != 0)=false by decide]
  simp only[cond_false]
  cases f:gF u n with
  |false=>exact ⟨_,rfl,rfl,mq⟩
  |true=>
   obtain ⟨d,i⟩:=(Gn F).1 f
   have b:u.aC[n.toNat]?=some (u.aC[n.toNat]'(by omega)):=List.getElem?_eq_getElem _
   generalize u.aC[n.toNat]'(by omega)=e at b
   simp only[cond_true]
   rw[show ((0:Int) != 0)=false by decide]
   simp only[cond_false,Bool.not_true,z7,v7]
   cases jO x 0 60 with
   |false=>exact ⟨_,rfl,rfl,mq⟩
   |true=>
    unfold nh r9 se
    rw[if_pos (by omega)]
    simp only[Bool.not_true,cond_false,qh d b]
    cases decide ((if x.high<e.high.high then x.high else e.high.high)<(if e.high.low<x.low then x.low else e.high.low)) with
    |true=>exact ⟨_,rfl,rfl,mq⟩
    |false=>
     simp only[cond_false,ah,jR (l:=([]:List bV)) (xs:=u.aC) (by simp;omega),List.nil_append,qh d b]
     obtain ⟨r,k1,g,h⟩:=A4 (u:=⟨u.bF,u.bL,u.aV,u.aB,u.props,u.aC.set n.toNat ⟨e.back,⟨(if e.high.low<x.low then x.low else e.high.low),(if x.high<e.high.high then x.high else e.high.high)⟩⟩,u.told⟩) ⟨L.e,L.p,by simp;omega,L.t⟩
     rw[k1,g]
     exact ⟨_,rfl,rfl,h⟩
 ·rw[sB _ h1 a,h2]
  simp only[ah]
  rw[show (c != 0)=true by simpa using a]
  exact ⟨_,rfl,rfl,mq⟩
theorem wF {α β σ:Type}(f:α->β)(g:Nat->β->σ->σ):∀(l:List α) (i:Nat) (s:σ),foldI g i (l.map f) s=foldI (fun i x s=>g i (f x) s) i l s
 |[],_,_=>rfl
 |x::l,i,s=>by
  simp only[List.map_cons]
  unfold foldI
  exact wF f g l (i+1) _
theorem A5 {α σ:Type}{g g':Nat->α->σ->σ}:∀(l:List α) (i:Nat) (s:σ),(∀j x s,x∈l->g j x s=g' j x s)->foldI g i l s=foldI g' i l s
 |[],_,_,_=>rfl
 |x::l,i,s,h=>by
  unfold foldI
  rw[h i x s (List.mem_cons_self ..)]
  exact A5 l (i+1) _ fun j y s a=>h j y s (List.mem_cons_of_mem _ a)
theorem Gs {u:aj}{h:List Int}(hm:h∈bR u):qi u h/\fM u h=true:=by
 obtain ⟨h1,h2⟩:=List.mem_filter.1 hm
 exact ⟨AR h1,h2⟩
def ef (u:aj)(i:Nat):Int:=foldI (fun _ h n=>cond (fq u (jg u i (h[i]?.getD 0))) (n+1) n) 0 (bR u) 0
section
variable {u : aj} (F : Fit u) {i : Nat} {e : bV} (he : u.aC[i]? = some e)
include F he
theorem wG {h:List Int}(hm:h∈bR u):∃n,h[i]?=some n/\jg u i (h[i]?.getD 0)=⟨e.back,n⟩/\(1<=e.back/\e.back<=20)/\0<=n/\n<=60:=by
 obtain ⟨n,c,a,b⟩:=(Gs hm).1.AN i e he
 obtain ⟨c1,c2,c3,c4,d⟩:=F.aT _ _ he
 refine ⟨n,c,?_,c1,by omega,by omega⟩
 rw[c]
 unfold jg;rw[he];rfl
theorem A6:bE (nt (⟨u,(bR u).map ee⟩,0) i) 0 ((bR u).map ee) 0=some (.nx (ef u i))/\0<=ef u i/\ef u i<=(bR u).length:=by
 have hi:i<u.aC.length:=(List.getElem?_eq_some_iff.1 he).1
 have h3:=F.aC
 have k:=(kI F).2
 have key:=kG (f:=nt (⟨u,(bR u).map ee⟩,0) i) (g:=fun _ x (n:Int)=>cond (fq u ⟨e.back,(aX.get x i).getD 0⟩) (n+1) n) (I:=fun j n=>0<=n/\n<=j/\j<=(bR u).length) ((bR u).map ee) 0 0 ⟨by omega,by omega,by omega⟩
  (fun j x n a l=>by
   rw[List.getElem?_map,Option.map_eq_some_iff] at a
   obtain ⟨h,b,rfl⟩:=a
   have o:j<(bR u).length:=(List.getElem?_eq_some_iff.1 b).1
   obtain ⟨m,hm,hs,hb⟩:=wG F he (List.mem_of_getElem? b)
   have hg:aX.get (ee h) (i:Int)=some m:=wC (by omega) (by omega) (by simpa using hm)
   refine ⟨?_,?_⟩
   ·unfold nt iG
    simp only[hg,ah,fL he,(sD F (s:=⟨e.back,m⟩) hb).1,Option.getD_some]
    rw[cF (n:=n+1) (by omega)]
    cases fq u ⟨e.back,m⟩<;>rfl
   ·simp only[hg,Option.getD_some]
    cases fq u ⟨e.back,m⟩<;>simp<;>omega)
 have c:foldI (fun _ x (n:Int)=>cond (fq u ⟨e.back,(aX.get x i).getD 0⟩) (n+1) n) 0 ((bR u).map ee) 0=ef u i:=by
  rw[wF]
  unfold ef
  refine A5 _ _ _ fun j h n hm=>?_
  obtain ⟨m,d,hs,hb⟩:=wG F he hm
  have hg:aX.get (ee h) (i:Int)=some m:=wC (by omega) (by omega) (by simpa using d)
  rw[hs,hg];rfl
 rw[c] at key
 refine ⟨key.1,key.2.1,?_⟩
 have:=key.2.2.1
 simp at this
 omega
theorem Gt:aR (mc u (bR u,0) i) fu (0,0)=some (.nx (ef u i,((bR u).length:Int))):=by
 have hi:i<u.aC.length:=(List.getElem?_eq_some_iff.1 he).1
 have h3:=F.aC
 have b:=(kI F).2
 exact (jf (f:=mc u (bR u,0) i) (g:=fun _ (h:List Int) (n:Int)=>cond (fq u (jg u i (h[i]?.getD 0))) (n+1) n) (I:=fun j n=>0<=n/\n<=j/\j<=(bR u).length) (fun s i=>(s,i)) (bR u) (by omega)
  (fun j h n a c=>by
   have d:j<(bR u).length:=(List.getElem?_eq_some_iff.1 a).1
   obtain ⟨m,hm,hs,hb⟩:=wG F he (List.mem_of_getElem? a)
   refine ⟨?_,?_⟩
   ·unfold mc nF
    rw[show decide ((n,(j:Int)).2<((bR u,(0:Int)).1.length:Int))=true by simp;omega]
    simp only[cond_true,fL a,fL hm,ah,fL he,(sD F (s:=⟨e.back,m⟩) hb).2,hs]
    rw[cF (n:=n+1) (by omega),cF (n:=(j:Int)+1) (by omega)]
    cases fq u ⟨e.back,m⟩<;>rfl
   ·cases fq u (jg u i (h[i]?.getD 0))<;>simp<;>omega)
  (fun s=>by
   unfold mc
   rw[show decide ((s,((bR u).length:Int)).2<((bR u,(0:Int)).1.length:Int))=false by simp]
   rfl) 0 ⟨by omega,by omega,by omega⟩).1
end
def mw (u:aj)(i:Nat)(st:Int×Int):Int×Int:=
 cond (decide ((if ef u i<((bR u).length:Int) - ef u i then ((bR u).length:Int) - ef u i else ef u i)<st.2)) ((i:Int),(if ef u i<((bR u).length:Int) - ef u i then ((bR u).length:Int) - ef u i else ef u i)) st
theorem Gu {u:aj}(F:Fit u):bE (nu (⟨u,(bR u).map ee⟩,0)) 0 u.aC (-1,((bR u).length:Int))=some (.nx (foldI (fun i _ st=>mw u i st) 0 u.aC (-1,((bR u).length:Int)))):=by
 have b:=(kI F).2
 exact (kG (f:=nu (⟨u,(bR u).map ee⟩,0)) (g:=fun i _ st=>mw u i st) (I:=fun _ _=>True) u.aC 0 (-1,((bR u).length:Int)) trivial (fun j x st a _=>by
  obtain ⟨k1,c,d⟩:=A6 F a
  refine ⟨?_,trivial⟩
  rw[Nat.zero_add]
  unfold nu
  simp only[k1,ah,aF]
  rw[show (((bR u).map ee).length:Int)=((bR u).length:Int) by simp,cF (n:=((bR u).length:Int) - ef u j) (by omega)]
  unfold mw
  cases decide ((if ef u j<((bR u).length:Int) - ef u j then ((bR u).length:Int) - ef u j else ef u j)<st.2)<;>rfl)).1
theorem Gv {u:aj}(F:Fit u):aR (me u (bR u,0)) fu (-1,((bR u).length:Int),0)=some (.nx ((foldI (fun i _ st=>mw u i st) 0 u.aC (-1,((bR u).length:Int))).1,(foldI (fun i _ st=>mw u i st) 0 u.aC (-1,((bR u).length:Int))).2,(u.aC.length:Int))):=by
 have b:=(kI F).2
 have h3:=F.aC
 exact (jf (f:=me u (bR u,0)) (g:=fun i (_:bV) st=>mw u i st) (I:=fun _ _=>True) (fun s i=>(s.1,s.2,i)) u.aC (by omega) (fun j x st a _=>by
  obtain ⟨k1,c,d⟩:=A6 F a
  have e:j<u.aC.length:=(List.getElem?_eq_some_iff.1 a).1
  refine ⟨?_,trivial⟩
  unfold me
  rw[show decide ((st.1,st.2,(j:Int)).2.2<(u.aC.length:Int))=true by simp;omega]
  simp only[cond_true,Gt F a,ah,aF]
  rw[cF (n:=((bR u).length:Int) - ef u j) (by omega),cF (n:=(j:Int)+1) (by omega)]
  unfold mw
  cases decide ((if ef u j<((bR u).length:Int) - ef u j then ((bR u).length:Int) - ef u j else ef u j)<st.2)<;>rfl)
  (fun s=>by
   unfold me
   rw[show decide ((s.1,s.2,(u.aC.length:Int)).2.2<(u.aC.length:Int))=false by simp]
   rfl) (-1,((bR u).length:Int)) trivial).1
theorem Gw {u:aj}(L:gG u):∃r,nv u=some r/\p6 u=some r:=by
 obtain ⟨c,h1,h2⟩:=bars L
 unfold nv p6
 by_cases a:c=0
 ·subst a
  have F:=qc u L.e h1
  rw[A1 F (wE h1),A3 F h2]
  simp only[ah]
  cases hs:(bR u).isEmpty with
  |true=>exact ⟨_,rfl,rfl⟩
  |false=>
   simp only[Bool.false_eq_true,if_false]
   rw[show ((0:Int) != 0)=false by decide]
   simp only[cond_false,List.length_map]
   rw[Gu F,Gv F]
   exact ⟨_,rfl,rfl⟩
 ·rw[A0 (sB [] h1 a) a,A2 h2 a]
  simp only[ah]
  rw[show (c != 0)=true by simpa using a]
  exact ⟨_,rfl,rfl⟩
def wt (u:aj)(S:List bx):aj:=⟨u.bF,u.bL,u.aV,u.aB,u.props,u.aC,S⟩
theorem A7 {u:aj}(F:Fit u){S:List bx}(h:∀t,t∈S->t∈u.told)(a:S.length<=3):Fit (wt u S):=
 ⟨F.bF,F.bL,F.den,F.num,F.aB,F.mm,F.Aj,F.props,F.prop,F.aC,F.aT,a,fun i x b=>by
  obtain ⟨j,c⟩:=List.mem_iff_getElem?.1 (h x (List.mem_of_getElem? b))
  exact F.wh j x c⟩
def dy (u:aj)(S:List bx):Bool:=(bR (wt u S)).isEmpty
def kJ (x y:List Int):Bool:=(gQ x y).getD false
def jS (x y:List Int):Bool:=(kE x y).getD false
def mz (P:List (List Int×Bool)):Option (List Int):=match (P.filter (·.2)).map (·.1) with
 |[]=>none
 |a::l=>some (foldI (fun _ y st=>cond (kJ st y) y st) 0 l a)
def jh (Q:List (List Int×Bool))(b:List Int):List Int:=foldI (fun _ (x:List Int×Bool) b=>cond (jS x.1 b) (cond x.2 x.1 b) b) 0 Q b
theorem Gx {u:aj}(F:Fit u)(P:List (List Int×List bx))(b:∀(i:Nat) x,P[i]?=some x->bE (pO (i:Int)) 0 u.told (([]:List Int),([]:List bx))=some (.nx x))
  (hs:∀x,x∈P->(∀t,t∈x.2->t∈u.told)/\x.2.length<=3) (d:P.length<=8):
  aR (lS u (u,0) (P.length:Int)) fu (([]:List (List Int)),0)=some (.nx (((P.map fun x=>(x.1,dy u x.2)).filter (·.2)).map (·.1),(P.length:Int))):=by
 have key:=jf (f:=lS u (u,0) (P.length:Int)) (g:=fun _ (x:List Int×List bx) (s:List (List Int))=>cond (dy u x.2) (s++[x.1]) s) (I:=fun i s=>s.length<=i/\i<=P.length) (fun s i=>(s,i)) P (by omega)
  (fun i x s a e=>by
   have j:i<P.length:=(List.getElem?_eq_some_iff.1 a).1
   have hm:=hs x (List.mem_of_getElem? a)
   refine ⟨?_,by cases dy u x.2<;>simp<;>omega,by omega⟩
   unfold lS
   rw[show decide ((s,(i:Int)).2<(P.length:Int))=true by simp;omega]
   simp only[cond_true,b i x a,ah,aF]
   have hb:=AY (A7 F hm.1 hm.2)
   unfold wt at hb
   simp only[hb,Bool.not_not]
   rw[cF (n:=(i:Int)+1) (by omega)]
   show (cond (dy u x.2) _ _:Option _)=_
   cases dy u x.2 with
   |false=>rfl
   |true=>simp only[cond_true,jR (l:=s) (xs:=[x.1]) (by simp;omega)];rfl)
  (fun s=>by
   unfold lS
   rw[show decide ((s,(P.length:Int)).2<(P.length:Int))=false by simp]
   rfl) ([]:List (List Int)) ⟨by simp,by omega⟩
 have c:∀(P:List (List Int×List bx)) (i:Nat) (s:List (List Int)),foldI (fun _ (x:List Int×List bx) (s:List (List Int))=>cond (dy u x.2) (s++[x.1]) s) i P s=s++((P.map fun x=>(x.1,dy u x.2)).filter (·.2)).map (·.1):=by
  intro P
  induction P with
  |nil=>intro i s;simp[foldI]
  |cons x P ih=>
   intro i s
   unfold foldI
   rw[ih]
   cases h:dy u x.2<;>simp[h]
 rw[c] at key
 simpa using key.1
theorem Gy {S:List (List Int)}(c:∀x,x∈S->∀y,y∈S->gQ x y=some (kJ x y)){a:List Int}{l:List (List Int)}(d:a∈S)(e:∀x,x∈l->x∈S):
  m7 gQ a l=some (foldI (fun _ y st=>cond (kJ st y) y st) 0 l a):=by
 unfold m7
 rw[(kG (f:=pE gQ) (g:=fun _ y st=>cond (kJ st y) y st) (I:=fun _ st=>st∈S) l 0 a d fun j x s b hs=>by
  have b:=e x (List.mem_of_getElem? b)
  refine ⟨?_,by cases kJ s x<;>assumption⟩
  unfold pE
  rw[c s hs x b]
  simp only[ah]
  cases kJ s x<;>rfl).1]
 rfl
theorem Gz {u:aj}(F:Fit u)(Q:List (List Int×List bx))(d:∀x,x∈Q->pS u x.1=some (wt u x.2)/\(∀t,t∈x.2->t∈u.told)/\x.2.length<=3){S:List (List Int)}(e:∀x,x∈S->∀y,y∈S->kE x y=some (jS x y))
  (c:∀x,x∈Q->x.1∈S) {b:List Int} (hb:b∈S) (h:Q.length<=8):
  aR (mg u (Q.map (·.1))) fu (b,0)=some (.nx (jh (Q.map fun x=>(x.1,dy u x.2)) b,(Q.length:Int))):=by
 have key:=jf (f:=mg u (Q.map (·.1))) (g:=fun _ (x:List Int×List bx) (b:List Int)=>cond (jS x.1 b) (cond (dy u x.2) x.1 b) b) (I:=fun _ b=>b∈S) (fun s i=>(s,i)) Q (by omega)
  (fun i x b a hb=>by
   have j:i<Q.length:=(List.getElem?_eq_some_iff.1 a).1
   have hm:=List.mem_of_getElem? a
   obtain ⟨h1,h2,h3⟩:=d x hm
   refine ⟨?_,?_⟩
   ·unfold mg
    rw[show decide ((b,(i:Int)).2<((Q.map (·.1)).length:Int))=true by simp;omega]
    have hi:(Q.map (·.1))[i]?=some x.1:=by rw[List.getElem?_map,a];rfl
    simp only[cond_true,fL hi,ah,e x.1 (c x hm) b hb,h1,(kI (A7 F h2 h3)).1]
    rw[cF (n:=(i:Int)+1) (by omega),show (((bR (wt u x.2)).length:Int)==0)=dy u x.2 by unfold dy;cases bR (wt u x.2)<;>simp;omega]
    cases jS x.1 b<;>cases dy u x.2<;>rfl
   ·have:=c x hm
    cases jS x.1 b<;>cases dy u x.2<;>assumption)
  (fun s=>by
   unfold mg
   rw[show decide ((s,(Q.length:Int)).2<((Q.map (·.1)).length:Int))=false by simp]
   rfl) b hb
 rw[key.1]
 unfold jh
 rw[wF]
def S3:List (List Int):=[[],[0],[1],[0,1],[2],[0,2],[1,2],[0,1,2]]
theorem GA:∀x,x∈S3->∀y,y∈S3->gQ x y=some (kJ x y):=by
 have h:(S3.all fun x=>S3.all fun y=>(gQ x y).isSome)=true:=by decide+kernel
 intro x a y c
 have:=List.all_eq_true.1 (List.all_eq_true.1 h x a) y c
 unfold kJ
 cases e:gQ x y with
 |none=>rw[e] at this;cases this
 |some b=>rfl
theorem GB:∀x,x∈S3->∀y,y∈S3->kE x y=some (jS x y):=by
 have h:(S3.all fun x=>S3.all fun y=>(kE x y).isSome)=true:=by decide+kernel
 intro x a y c
 have:=List.all_eq_true.1 (List.all_eq_true.1 h x a) y c
 unfold jS
 cases e:kE x y with
 |none=>rw[e] at this;cases this
 |some b=>rfl
theorem GC:∀e0 e1 e2 a b c d:Bool,mz [([],e0),([0],e1),([1],e2),([0,1],a),([2],b),([0,2],c),([1,2],d),([0,1,2],true)]=some (jh [([],e0),([0],e1),([0,1],a),([1],e2),([1,2],d),([0,1,2],true),([0,2],c),([2],b)] [0,1,2]):=by decide+kernel
theorem GD:∀e0 e1 e2:Bool,mz [([],e0),([0],e1),([1],e2),([0,1],true)]=some (jh [([],e0),([0],e1),([0,1],true),([1],e2)] [0,1]):=by decide+kernel
theorem GF:∀e0:Bool,mz [([],e0),([0],true)]=some (jh [([],e0),([0],true)] [0]):=by decide+kernel
theorem GG:mz [([],true)]=some (jh [([],true)] []):=by decide+kernel
theorem GH {u:aj}(P Q:List (List Int×List bx)){b:List Int}(f:∀x,x∈P->x.1∈S3)(h:P.length<=8)
  (c:mz (P.map fun x=>(x.1,dy u x.2))=some (jh (Q.map fun x=>(x.1,dy u x.2)) b)):
  ∃a l,bq (((P.map fun x=>(x.1,dy u x.2)).filter (·.2)).map (·.1)) 0=some a/\iA (((P.map fun x=>(x.1,dy u x.2)).filter (·.2)).map (·.1)) 1 (((((P.map fun x=>(x.1,dy u x.2)).filter (·.2)).map (·.1)).length:Nat):Int)=some l/\
   m7 gQ a l=some (jh (Q.map fun x=>(x.1,dy u x.2)) b):=by
 unfold mz at c
 have hm:∀x,x∈((P.map fun x=>(x.1,dy u x.2)).filter (·.2)).map (·.1)->x∈S3:=fun x d=>by
  rw[List.mem_map] at d
  obtain ⟨y,e,rfl⟩:=d
  obtain ⟨e,-⟩:=List.mem_filter.1 e
  rw[List.mem_map] at e
  obtain ⟨z,g,rfl⟩:=e
  exact f z g
 generalize ((P.map fun x=>(x.1,dy u x.2)).filter (·.2)).map (·.1)=o at c hm
 cases o with
 |nil=>cases c
 |cons a l=>
  refine ⟨a,l,rfl,?_,?_⟩
  ·unfold iA
   rw[if_pos (by simp;omega)]
   simp
  ·rw[Gy GA (hm a (List.mem_cons_self ..)) (fun x d=>hm x (List.mem_cons_of_mem _ d))]
   exact c
theorem GI {S:List (List Int)}:∀(Q:List (List Int×Bool)) (b:List Int),(∀x,x∈Q->x.1∈S)->b∈S->jh Q b∈S:=by
 have key:∀(Q:List (List Int×Bool)) (i:Nat) (b:List Int),(∀x,x∈Q->x.1∈S)->b∈S->foldI (fun _ (x:List Int×Bool) b=>cond (jS x.1 b) (cond x.2 x.1 b) b) i Q b∈S:=by
  intro Q
  induction Q with
  |nil=>intro i b _ hb;exact hb
  |cons x Q ih=>
   intro i b a hb
   unfold foldI
   refine ih (i+1) _ (fun y c=>a y (List.mem_cons_of_mem _ c)) ?_
   have:=a x (List.mem_cons_self ..)
   cases jS x.1 b<;>cases x.2<;>assumption
 exact fun Q b=>key Q 0 b
theorem GJ {x:List Int}(h:x∈S3):x.length<=3:=by
 have:(S3.all fun x=>decide (x.length<=3))=true:=by decide
 simpa using List.all_eq_true.1 this x h
theorem sE {u:aj}(F:Fit u)(h1:iH u=some 0)(h2:gD u=some 0)(P Q:List (List Int×List bx)){b:List Int}
  (g:∀(i:Nat) x,P[i]?=some x->bE (pO (i:Int)) 0 u.told (([]:List Int),([]:List bx))=some (.nx x)) (hs:∀x,x∈P->(∀t,t∈x.2->t∈u.told)/\x.2.length<=3) (d:P.length<=8)
  (j:∀x,x∈P->x.1∈S3) (hlen:qP 1 (u.told.length:Int)=some (P.length:Int)) (k:∀x,x∈Q->pS u x.1=some (wt u x.2)/\(∀t,t∈x.2->t∈u.told)/\x.2.length<=3) (e:∀x,x∈Q->x.1∈S3) (hb:b∈S3) (m:Q.length<=8)
  (n:si (u.told.length:Int)=some b) (o:sn (u.told.length:Int) (u.told.length:Int)=some (Q.map (·.1)))
  (p:dy u u.told=true->mz (P.map fun x=>(x.1,dy u x.2))=some (jh (Q.map fun x=>(x.1,dy u x.2)) b)):∃r,kB u=some r/\mh u=some r/\r.1.length<=3:=by
 unfold kB mh
 rw[wE h1,h2,(kI F).1]
 simp only[ah,AY F]
 rw[show ((0:Int) != 0)=false by decide]
 simp only[cond_false]
 cases c:(bR u).isEmpty with
 |false=>
  rw[show decide (0<((bR u).length:Int))=true by cases h:bR u<;>simp[h] at c ⊢]
  exact ⟨_,rfl,rfl,by simp⟩
 |true=>
  rw[show decide (0<((bR u).length:Int))=false by cases h:bR u<;>simp[h] at c ⊢]
  obtain ⟨a,l,e1,e2,q⟩:=GH (u:=u) P Q j d (p c)
  simp only[Bool.not_true,cond_false,hlen,Gx F P g hs d,aF,e1,e2,q,n,o,Gz F Q k GB e hb m]
  exact ⟨_,rfl,rfl,GJ (GI _ _ (fun x f=>by rw[List.mem_map] at f;obtain ⟨y,s,rfl⟩:=f;exact e y s) hb)⟩
theorem GK {u:aj}(L:gG u):∃r,kB u=some r/\mh u=some r/\r.1.length<=3:=by
 obtain ⟨c,h1,h2⟩:=bars L
 by_cases o:c=0
 ·subst o
  have F:=qc u L.e h1
  have ht:=F.told
  clear L
  obtain ⟨h,j,k,l,m,n,T⟩:=u
  rcases T with _|⟨a,_|⟨b,_|⟨c,_|⟨d,T⟩⟩⟩⟩
  ·refine sE F h1 h2 [([],[])] [([],[])] (b:=[]) (fun i x f=>?_) (fun x f=>?_) (by simp) (by simp[S3]) rfl (fun x f=>?_) (by simp[S3]) (by simp[S3]) (by simp) (by kernel_rfl) (by kernel_rfl) fun e=>?_
   ·have g:=(List.getElem?_eq_some_iff.1 f).1
    simp only[List.length_cons,List.length_nil] at g
    rcases (show i=0 by omega) with rfl
    ·cases f;rfl
   ·simp only[List.mem_cons,List.not_mem_nil,or_false] at f
    rcases f with rfl
    exact ⟨by simp,by simp⟩
   ·simp only[List.mem_cons,List.not_mem_nil,or_false] at f
    rcases f with rfl
    exact ⟨by kernel_rfl,by simp,by simp⟩
   ·simp only[List.map_cons,List.map_nil,show dy ⟨h,j,k,l,m,n,[]⟩ []=true from e]
    exact GG
  ·refine sE F h1 h2 [([],[]),([0],[a])] [([],[]),([0],[a])] (b:=[0]) (fun i x f=>?_) (fun x f=>?_) (by simp) (by simp[S3]) rfl (fun x f=>?_) (by simp[S3]) (by simp[S3]) (by simp) (by kernel_rfl) (by kernel_rfl) fun e=>?_
   ·have g:=(List.getElem?_eq_some_iff.1 f).1
    simp only[List.length_cons,List.length_nil] at g
    rcases (show i=0\/i=1 by omega) with rfl|rfl
    ·cases f;show (_:Option _)=_;kernel_rfl
    ·cases f;show (_:Option _)=_;kernel_rfl
   ·simp only[List.mem_cons,List.not_mem_nil,or_false] at f
    rcases f with rfl|rfl<;>exact ⟨by simp,by simp⟩
   ·simp only[List.mem_cons,List.not_mem_nil,or_false] at f
    rcases f with rfl|rfl<;>exact ⟨by kernel_rfl,by simp,by simp⟩
   ·simp only[List.map_cons,List.map_nil,show dy ⟨h,j,k,l,m,n,[a]⟩ [a]=true from e]
    exact GF _
  ·refine sE F h1 h2 [([],[]),([0],[a]),([1],[b]),([0,1],[a,b])] [([],[]),([0],[a]),([0,1],[a,b]),([1],[b])] (b:=[0,1]) (fun i x f=>?_) (fun x f=>?_) (by simp) (by simp[S3]) rfl (fun x f=>?_) (by simp[S3]) (by simp[S3]) (by simp) (by kernel_rfl) (by kernel_rfl) fun e=>?_
   ·have g:=(List.getElem?_eq_some_iff.1 f).1
    simp only[List.length_cons,List.length_nil] at g
    rcases (show i=0\/i=1\/i=2\/i=3 by omega) with rfl|rfl|rfl|rfl
    all_goals cases f;show (_:Option _)=_;kernel_rfl
   ·simp only[List.mem_cons,List.not_mem_nil,or_false] at f
    rcases f with rfl|rfl|rfl|rfl<;>exact ⟨by simp,by simp⟩
   ·simp only[List.mem_cons,List.not_mem_nil,or_false] at f
    rcases f with rfl|rfl|rfl|rfl<;>exact ⟨by kernel_rfl,by simp,by simp⟩
   ·simp only[List.map_cons,List.map_nil,show dy ⟨h,j,k,l,m,n,[a,b]⟩ [a,b]=true from e]
    exact GD _ _ _
  ·refine sE F h1 h2 [([],[]),([0],[a]),([1],[b]),([0,1],[a,b]),([2],[c]),([0,2],[a,c]),([1,2],[b,c]),([0,1,2],[a,b,c])] [([],[]),([0],[a]),([0,1],[a,b]),([1],[b]),([1,2],[b,c]),([0,1,2],[a,b,c]),([0,2],[a,c]),([2],[c])] (b:=[0,1,2]) (fun i x f=>?_) (fun x f=>?_) (by simp) (by simp[S3]) rfl (fun x f=>?_) (by simp[S3]) (by simp[S3]) (by simp) (by kernel_rfl) (by kernel_rfl) fun e=>?_
   ·have g:=(List.getElem?_eq_some_iff.1 f).1
    simp only[List.length_cons,List.length_nil] at g
    rcases (show i=0\/i=1\/i=2\/i=3\/i=4\/i=5\/i=6\/i=7 by omega) with rfl|rfl|rfl|rfl|rfl|rfl|rfl|rfl
    all_goals cases f;show (_:Option _)=_;kernel_rfl
   ·simp only[List.mem_cons,List.not_mem_nil,or_false] at f
    rcases f with rfl|rfl|rfl|rfl|rfl|rfl|rfl|rfl<;>exact ⟨by simp,by simp⟩
   ·simp only[List.mem_cons,List.not_mem_nil,or_false] at f
    rcases f with rfl|rfl|rfl|rfl|rfl|rfl|rfl|rfl<;>exact ⟨by kernel_rfl,by simp,by simp⟩
   ·simp only[List.map_cons,List.map_nil,show dy ⟨h,j,k,l,m,n,[a,b,c]⟩ [a,b,c]=true from e]
    exact GC _ _ _ _ _ _ _
  ·simp only[List.length_cons] at ht;omega
 ·unfold kB mh
  rw[sB [] h1 o,h2]
  simp only[ah]
  rw[show (c != 0)=true by simpa using o]
  exact ⟨_,rfl,rfl,by simp⟩
end Go.Proofs.YtipgiooobncfbaaGreatDoor
end

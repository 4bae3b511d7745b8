/- A part of the proof of a row and its tied card: VL1. -/
import Derived.Test.YtjepffnffjdloaaGreatDoorQ5
set_option linter.all false
section
namespace Go.Proofs.YtjepffnffjdloaaGreatDoor
open Go Go.Sep Go.Proofs
set_option maxRecDepth 100000
set_option maxHeartbeats 4000000
def BC (u0:aj)(b:Int)(st:(Int×(List bR))):Option (Fl (Int×(List bR)) (aj×Bool)):=
 cond (decide (st.1<(u0.aF.length:Int))) (ah (bK u0.aF st.1) fun a=>ah (k5 (IntKind.i64.wrap (a.high.low+b)) (IntKind.i64.wrap (a.high.high+b))) fun c=>ah (cZ st.2 ([(⟨a.back,c⟩:bR)])) fun d=>some (.nx ((IntKind.i64.wrap (st.1+1)),d))) (some (.bk (st.1,st.2)))
def qj (u0:aj)(b:Int)(st:(Int×(List bF))):Option (Fl (Int×(List bF)) (aj×Bool)):=
 cond (decide (st.1<(u0.an.length:Int))) (ah (bK u0.an st.1) fun a=>ah (cZ st.2 ([(⟨a.ax,IntKind.i64.wrap (a.high+b)⟩:bF)])) fun c=>some (.nx ((IntKind.i64.wrap (st.1+1)),c))) (some (.bk (st.1,st.2)))
def xk (u0:aj)(b:Int)(st:(Int×(List bR))):Option (Fl (Int×(List bR)) (aj×Bool)):=
 cond (decide (st.1<(u0.aF.length:Int))) (ah (bK u0.aF st.1) fun a=>ah (k5 (IntKind.i64.wrap (a.high.low+b)) (IntKind.i64.wrap (a.high.high+b))) fun c=>ah (cZ st.2 ([(⟨a.back,c⟩:bR)])) fun d=>some (.nx ((IntKind.i64.wrap (st.1+1)),d))) (some (.bk (st.1,st.2)))
def qk (u0:aj)(a:Int):Option (aj×Bool):=
 ah (bD (qj u0 a) fu (0,([]:List bF))) fun o=>aO o (fun b=>ah (bD (xk u0 a) fu (0,([]:List bR))) fun o=>aO o (fun c=>ah (iN (⟨u0.aQ,IntKind.i64.wrap (u0.aN+a),u0.aE,b.2,u0.props,c.2,u0.told⟩:aj)) fun d=>some ((⟨u0.aQ,IntKind.i64.wrap (u0.aN+a),u0.aE,b.2,u0.props,c.2,u0.told⟩:aj),(d==0))) (fun _ _=>none) (fun r=>some r)) (fun _ _=>none) (fun r=>some r)
theorem Hj {ro:Addr->Option Value}(u0:aj){s1 a ae b:Value}(j:bG ro u0 s1 a ae b)(c:Int){r:(aj×Bool)}(h:qk u0 c=some r):eu Tryz.prog 24 #[bv u0 s1 a ae b,.int .i64 c] ro (fun v aL=>∃al w1 w2 w3,v= .tuple #[bv r.1 al w1 w2 w3,.bool r.2]/\bG aL r.1 al w1 w2 w3):=by
 obtain ⟨d3,c4,rfl,fx,gg,-⟩:=id j.e
 obtain ⟨d17,f,rfl,gl,gn,-⟩:=id j.y
 unfold qk at h
 have bs:=j.oc;simp only[bx] at bs
 refine aC.go Tryz.func24 rfl Tryz.ntmps24 Tryz.results24 (by simp) fun main J hJ A b0 hd hs=>?_
 have b1:=hs 0
 have k1:=hs 1
 clear hs
 refine aa hJ (ag hJ ?_)
 simp only[*,go_sem]
 refine av fun k N b2=>?_;try simp only[au] at b2
 refine av fun o O b3=>?_;try simp only[au] at b3
 try simp only[*,go_sem]
 refine aa hJ (ag hJ ?_)
 simp only[*,go_sem]
 refine av fun n P b4=>?_;try simp only[au] at b4
 try simp only[*,go_sem]
 refine aa hJ (ag hJ ?_)
 simp only[*,go_sem]
 refine aa hJ (aa hJ (ag hJ ?_))
 simp only[*,go_sem]
 refine aY hJ ?_
 revert h;refine bS fun b5 H ca=>?_
 refine cc hJ [7,16,17,18,19,20,21,22,23,24,25,26,27,28,29,30,31,32,33,34,35,36,37,38,39,40,41,42] (fun m a' F'=>∃(d34:Option Addr) (g:Nat) (z:List (Nat×Obj)) (I:Int) (d:(List bF)),bD (qj u0 c) m (I,d)=some b5/\F'=⟨ro,(n,.cells #[.int .i64 u0.aQ,.int .i64 (IntKind.i64.wrap (u0.aN+c)),.int .i64 u0.aE.num,.int .i64 u0.aE.den,.slice d34 d.length g,a,.slice d17 u0.aF.length f,b] 29)::(o,bz 29)::(k,bk u0 (sl d3 u0.an c4) a (sl d17 u0.aF f) b)::z⟩/\aV ey ro 45 (.slice d34 d.length g) d z/\d.length<=g/\slot a' 7= .int .i64 I) fu ?_ ?_
 ·refine ⟨none,0,[],0,([]:List bF),H,rfl,aV.nil _ _ _,Nat.le_refl _,?_⟩
  simp only[*,go_sem]
 rintro Q gp F' ao ⟨d34,g,z,I,d,H,rfl,ar,gB,cb⟩
 obtain ⟨a0,a2,a3⟩:=ao.pick [1,2,4,5,6] (by decide)
 simp only[*,go_sem] at a0 a2 a3
 clear ao b0 hd b1 k1
 obtain _|Q:=Q
 ·exact absurd H (by simp only[bD,reduceCtorEq,not_false_eq_true])
 revert H;refine bS fun gC h R=>?_
 unfold qj at h
 try dsimp only at h
 refine aa hJ (aa hJ ?_)
 refine aK hJ fun gM=>?_
 refine ag hJ ?_
 simp only[*,go_sem]
 revert h;refine jC hJ (by simp only[*,go_sem]) (fun cd h=>?_) fun cd h=>?_
 ·refine aG hJ (aa hJ ?_)
  refine aY hJ ?_
  refine aK hJ fun cf=>?_
  refine gq hJ mixed [20] (.pure 0 (.rd 1 (.pure 2 (.rd 3 (.pure 4 (.pure 5 (.pure 6 (.rd 7 (.pure 8 (.rd 9 (.pure 10 (.pure 11 (.pure 12 (.rd 13 (.pure 14 (.pure 15 (.pure 16 (.one 17 (.one 18 (.pure 19 (.last 20 .done))))))))))))))))))))) ⟨ro,[(n,.cells #[.int .i64 u0.aQ,.int .i64 (IntKind.i64.wrap (u0.aN+c)),.int .i64 u0.aE.num,.int .i64 u0.aE.den,.slice d34 d.length g,a,.slice d17 u0.aF.length f,b] 29),(o,bz 29),(k,bk u0 (sl d3 u0.an c4) a (sl d17 u0.aF f) b)]⟩ (by simp only[*,go_sem]) (by kernel_rfl) ?_
  revert h;refine bS fun s cl h=>?_
  obtain ⟨gT,gV,a4⟩:=cM cl
  obtain ⟨a5,cy,cS,c0,S⟩:=j.e.el _ _ a4
  obtain rfl:cy=s.cells:=c0
  cases cS
  have da:=S 0 _ rfl;simp only[go_sem] at da
  have db:=S 1 _ rfl;simp only[go_sem] at db
  clear S a4
  revert h;refine bS fun dd df h=>?_
  obtain rfl:=sI h
  obtain ⟨dk,a6⟩:=c5 df
  try simp only[*,go_sem]
  refine av fun a7 dp a8=>?_;have dq:=aM.cons a8 cf;try simp only[au] at a8
  try simp only[*,go_sem]
  refine dF (r:=ey) (l:=d) (x:=(⟨s.ax,IntKind.i64.wrap (s.high+c)⟩:bF)) (cs:=#[.int .i64 s.ax,.int .i64 (IntKind.i64.wrap (s.high+c))]) (e2:=45) [(a7,.cells #[.int .i64 s.ax,.int .i64 (IntKind.i64.wrap (s.high+c))] 45),(n,.cells #[.int .i64 u0.aQ,.int .i64 (IntKind.i64.wrap (u0.aN+c)),.int .i64 u0.aE.num,.int .i64 u0.aE.den,.slice d34 d.length g,a,.slice d17 u0.aF.length f,b] 29),(o,bz 29),(k,bk u0 (sl (some a5) u0.an c4) a (sl d17 u0.aF f) b)] [] ar dq dk rfl (by simp only[*,go_sem]) dp rfl rfl m4 m4 uM qX rfl uN (by decide) (by decide) (fun g0 a9 T U V g1=>?_)
  simp only[List.append_nil,List.cons_append,List.nil_append,List.append_assoc] at V
  subst U
  rw[<-a6] at T;clear a6
  obtain ⟨d89,ds,rfl,dt⟩:=T.len
  refine ⟨⟨ro,(a7,.cells #[.int .i64 s.ax,.int .i64 (IntKind.i64.wrap (s.high+c))] 45)::(n,.cells #[.int .i64 u0.aQ,.int .i64 (IntKind.i64.wrap (u0.aN+c)),.int .i64 u0.aE.num,.int .i64 u0.aE.den,.slice d34 d.length g,a,.slice d17 u0.aF.length f,b] 29)::(o,bz 29)::(k,bk u0 (sl (some a5) u0.an c4) a (sl d17 u0.aF f) b)::a9⟩,Le.refl _,?_⟩
  refine ⟨by simp only[*,go_sem],bQ ?_⟩
  try simp only[*,go_sem]
  refine aK hJ fun g2=>?_
  refine ag hJ ?_
  simp only[*,go_sem]
  refine ⟨Q,Nat.lt_succ_self _,_,Le.sub (List.Sublist.cons _ (List.Sublist.refl _)),d89,ds,a9,(IntKind.i64.wrap (I+1)),dd,R,rfl,T,dt,?_⟩
  simp only[*,go_sem]
 obtain rfl:=sI h
 refine b7 ?_
 simp only[go_sem]
 obtain rfl:=sI R;clear R
 have h:=ca
 dsimp only[aO] at h
 refine aa hJ ?_
 refine aK hJ fun g3=>?_
 refine ag hJ ?_
 simp only[*,go_sem]
 refine aa hJ (aa hJ ?_)
 refine aK hJ fun g4=>?_
 refine ag hJ ?_
 simp only[*,go_sem]
 refine aY hJ ?_
 revert h;refine bS fun du K dv=>?_
 refine cc hJ [8,44,45,46,47,48,49,50,51,52,53,54,55,56,57,58,59,60,61,62,63,64,65,66,67,68,69,70,71,72,73,74,75,76,77,78,79,80,81] (fun m a' F'=>∃(d97:Option Addr) (q:Nat) (B:List (Nat×Obj)) (L:Int) (i:(List bR)),bD (BC u0 c) m (L,i)=some du/\F'=⟨ro,(n,.cells #[.int .i64 u0.aQ,.int .i64 (IntKind.i64.wrap (u0.aN+c)),.int .i64 u0.aE.num,.int .i64 u0.aE.den,.slice d34 d.length g,a,.slice d97 i.length q,b] 29)::(o,bz 29)::(k,bk u0 (sl d3 u0.an c4) a (sl d17 u0.aF f) b)::(B++z)⟩/\aV ek ro 130 (.slice d97 i.length q) i B/\i.length<=q/\slot a' 8= .int .i64 L) fu ?_ ?_
 ·refine ⟨none,0,[],0,([]:List bR),K,rfl,aV.nil _ _ _,Nat.le_refl _,?_⟩
  simp only[*,go_sem]
 rintro W ha F' ba ⟨d97,q,B,L,i,K,rfl,C,hc,hf⟩
 obtain ⟨dC,dE,dT⟩:=ba.pick [1,2,4,5,6] (by decide)
 simp only[*,go_sem] at dC dE dT
 clear ba a0 a2 a3 cb
 obtain _|W:=W
 ·exact absurd K (by simp only[bD,reduceCtorEq,not_false_eq_true])
 revert K;refine bS fun hg h X=>?_
 unfold BC at h
 try dsimp only at h
 refine aa hJ (aa hJ ?_)
 refine aK hJ fun hh=>?_
 refine ag hJ ?_
 simp only[*,go_sem]
 revert h;refine jC hJ (by simp only[*,go_sem]) (fun ea h=>?_) fun ea h=>?_
 ·refine aG hJ (aa hJ ?_)
  refine aY hJ ?_
  refine aK hJ fun eb=>?_
  refine gq hJ mixed [31] (.pure 0 (.rd 1 (.pure 2 (.rd 3 (.pure 4 (.pure 5 (.pure 6 (.rd 7 (.pure 8 (.rd 9 (.pure 10 (.pure 11 (.pure 12 (.pure 13 (.rd 14 (.pure 15 (.pure 16 (.pure 17 (.rd 18 (.pure 19 (.pure 20 (.pure 21 (.pure 22 (.rd 23 (.pure 24 (.pure 25 (.rd 26 (.pure 27 (.one 28 (.one 29 (.pure 30 (.last 31 .done)))))))))))))))))))))))))))))))) ⟨ro,[(n,.cells #[.int .i64 u0.aQ,.int .i64 (IntKind.i64.wrap (u0.aN+c)),.int .i64 u0.aE.num,.int .i64 u0.aE.den,.slice d34 d.length g,a,.slice d97 i.length q,b] 29),(o,bz 29),(k,bk u0 (sl d3 u0.an c4) a (sl d17 u0.aF f) b)]⟩ (by simp only[*,go_sem]) (by kernel_rfl) ?_
  revert h;refine bS fun u ec h=>?_
  obtain ⟨hi,hj,bb⟩:=cM ec
  obtain ⟨bc,ed,eh,et,M⟩:=j.y.el _ _ bb
  obtain rfl:ed=u.cells:=et
  cases eh
  have ev:=M 0 _ rfl;simp only[go_sem] at ev
  have eQ:=M 1 _ rfl;simp only[go_sem] at eQ
  have eS:=M 2 _ rfl;simp only[go_sem] at eS
  clear M bb
  revert h;refine bS fun w e0 h=>?_
  try simp only[*,go_sem]
  refine ⟨_,bA hJ fun F D=>pS (IntKind.i64.wrap (u.high.low+c)) (IntKind.i64.wrap (u.high.high+c)) e0,bQ ?_⟩
  revert h;refine bS fun e1 e3 h=>?_
  obtain rfl:=sI h
  obtain ⟨fa,bd⟩:=c5 e3
  try simp only[*,go_sem]
  refine av fun bj fb bl=>?_;have fg:=aM.cons bl eb;try simp only[au] at bl
  try simp only[*,go_sem]
  refine dF (r:=ek) (l:=i) (x:=(⟨u.back,w⟩:bR)) (cs:=#[.int .i64 u.back,.int .i64 w.low,.int .i64 w.high]) (e2:=130) [(bj,.cells #[.int .i64 u.back,.int .i64 w.low,.int .i64 w.high] 130),(n,.cells #[.int .i64 u0.aQ,.int .i64 (IntKind.i64.wrap (u0.aN+c)),.int .i64 u0.aE.num,.int .i64 u0.aE.den,.slice d34 d.length g,a,.slice d97 i.length q,b] 29),(o,bz 29),(k,bk u0 (sl d3 u0.an c4) a (sl (some bc) u0.aF f) b)] z C fg fa rfl (by simp only[*,go_sem]) fb rfl rfl qW qW zw zy rfl zx (by decide) (by decide) (fun hk bm Y U V hl=>?_)
  simp only[List.append_nil,List.cons_append,List.nil_append,List.append_assoc] at V
  subst U
  rw[<-bd] at Y;clear bd
  obtain ⟨d158,fi,rfl,fp⟩:=Y.len
  refine ⟨⟨ro,(bj,.cells #[.int .i64 u.back,.int .i64 w.low,.int .i64 w.high] 130)::(n,.cells #[.int .i64 u0.aQ,.int .i64 (IntKind.i64.wrap (u0.aN+c)),.int .i64 u0.aE.num,.int .i64 u0.aE.den,.slice d34 d.length g,a,.slice d97 i.length q,b] 29)::(o,bz 29)::(k,bk u0 (sl d3 u0.an c4) a (sl (some bc) u0.aF f) b)::(bm++z)⟩,Le.refl _,?_⟩
  refine ⟨by simp only[*,go_sem],bQ ?_⟩
  try simp only[*,go_sem]
  refine aK hJ fun hn=>?_
  refine ag hJ ?_
  simp only[*,go_sem]
  refine ⟨W,Nat.lt_succ_self _,_,Le.sub (List.Sublist.cons _ (List.Sublist.refl _)),d158,fi,bm,(IntKind.i64.wrap (L+1)),e1,X,rfl,Y,fp,?_⟩
  simp only[*,go_sem]
 obtain rfl:=sI h
 refine b7 ?_
 simp only[go_sem]
 obtain rfl:=sI X;clear X
 have h:=dv
 dsimp only[aO] at h
 refine aa hJ ?_
 refine aK hJ fun bo=>?_
 obtain ⟨ho,Z,E,G,fr⟩:=ar.g7 ((n,.cells #[.int .i64 u0.aQ,.int .i64 (IntKind.i64.wrap (u0.aN+c)),.int .i64 u0.aE.num,.int .i64 u0.aE.den,.slice d34 d.length g,a,.slice d97 i.length q,b] 29)::(o,bz 29)::(k,bk u0 (sl d3 u0.an c4) a (sl d17 u0.aF f) b)::B) ((n,.cells #[.int .i64 u0.aQ,.int .i64 (IntKind.i64.wrap (u0.aN+c)),.int .i64 u0.aE.num,.int .i64 u0.aE.den,.slice d34 d.length g,a,.slice d97 i.length q,b] 29)::(o,bz 29)::(k,bk u0 (sl d3 u0.an c4) a (sl d17 u0.aF f) b)::B) [] (by first|rfl|simp only[List.append_nil,List.cons_append,List.nil_append,List.append_assoc]|(simp only[List.append_nil,List.cons_append,List.nil_append,List.append_assoc];rfl)) (by first|rfl|simp only[List.append_nil,List.cons_append,List.nil_append,List.append_assoc]|(simp only[List.append_nil,List.cons_append,List.nil_append,List.append_assoc];rfl)) bo (ay.cons P (ay.cons O (ay.cons N (C.g8))))
 clear bo
 refine cu hJ fr ?_
 obtain ⟨hp,hq,-⟩:=G.op
 replace j:=j.mono Z
 replace P:=E.hd
 replace O:=E.tl.hd
 replace N:=E.tl.tl.hd
 replace C:=C.mono Z E.tl.tl.tl
 simp only[bn] at E
 refine aK hJ fun br=>?_
 obtain ⟨fs,ab,ft,ad,fv⟩:=C.g7 ((n,.cells #[.int .i64 u0.aQ,.int .i64 (IntKind.i64.wrap (u0.aN+c)),.int .i64 u0.aE.num,.int .i64 u0.aE.den,.slice d34 d.length g,a,.slice d97 i.length q,b] 29)::(o,bz 29)::(k,bk u0 (sl d3 u0.an c4) a (sl d17 u0.aF f) b)::[]) [(n,.cells #[.int .i64 u0.aQ,.int .i64 (IntKind.i64.wrap (u0.aN+c)),.int .i64 u0.aE.num,.int .i64 u0.aE.den,.slice d34 d.length g,a,.slice d97 i.length q,b] 29),(o,bz 29),(k,bk u0 (sl d3 u0.an c4) a (sl d17 u0.aF f) b)] [] (by first|rfl|simp only[List.append_nil,List.cons_append,List.nil_append,List.append_assoc]|(simp only[List.append_nil,List.cons_append,List.nil_append,List.append_assoc];rfl)) (by first|rfl|simp only[List.append_nil,List.cons_append,List.nil_append,List.append_assoc]|(simp only[List.append_nil,List.cons_append,List.nil_append,List.append_assoc];rfl)) br (ay.cons P (ay.cons O (ay.cons N (ay.nil _))))
 clear br
 refine cu hJ fv ?_
 obtain ⟨hr,ht,-⟩:=ad.op
 replace G:=G.mono ab
 replace j:=j.mono ab
 simp only[bn] at ft
 refine eM hJ mixed 4 ⟨fs,[(n,.cells #[.int .i64 u0.aQ,.int .i64 (IntKind.i64.wrap (u0.aN+c)),.int .i64 u0.aE.num,.int .i64 u0.aE.den,.slice d34 d.length g,a,.slice d97 i.length q,b] 29),(k,bk u0 (sl d3 u0.an c4) a (sl d17 u0.aF f) b)]⟩ (by simp only[*,go_sem]) (by kernel_rfl) ?_
 revert h;refine bS fun hv fw h=>?_
 obtain rfl:=sI h
 simp only[*,go_sem]
 refine ⟨_,bA hJ fun F D=>wL (⟨u0.aQ,IntKind.i64.wrap (u0.aN+c),u0.aE,d,u0.props,i,u0.told⟩:aj) ⟨(G.mono (bX D)),(j.p.mono (bX D)),(ad.mono (bX D)),(j.t.mono (bX D))⟩ fw,bV ?_⟩
 try simp only[*,go_sem]
 refine aB ?_
 simp only[*,go_sem]
 exact ⟨_,(Z).trans ab,Le.sub (List.nil_sublist _),_,_,_,_,rfl,⟨G,j.p,ad,j.t⟩⟩
def BD (u0:aj)(st:(Int×(List bH))):Option (Fl (Int×(List bH)) (aj×Bool)):=
 cond (decide (st.1<(u0.props.length:Int))) (ah (bK u0.props st.1) fun a=>ah (cZ st.2 ([(⟨IntKind.i64.wrap (2*a.place),IntKind.i64.wrap (2*a.cn)⟩:bH)])) fun b=>some (.nx ((IntKind.i64.wrap (st.1+1)),b))) (some (.bk (st.1,st.2)))
def ql (u0:aj)(st:(Int×(List bF))):Option (Fl (Int×(List bF)) (aj×Bool)):=
 cond (decide (st.1<(u0.an.length:Int))) (ah (bK u0.an st.1) fun a=>ah (cZ st.2 ([(⟨IntKind.i64.wrap (2*a.ax),IntKind.i64.wrap (2*a.high)⟩:bF)])) fun b=>some (.nx ((IntKind.i64.wrap (st.1+1)),b))) (some (.bk (st.1,st.2)))
def xl (u0:aj)(st:(Int×(List bH))):Option (Fl (Int×(List bH)) (aj×Bool)):=
 cond (decide (st.1<(u0.props.length:Int))) (ah (bK u0.props st.1) fun a=>ah (cZ st.2 ([(⟨IntKind.i64.wrap (2*a.place),IntKind.i64.wrap (2*a.cn)⟩:bH)])) fun b=>some (.nx ((IntKind.i64.wrap (st.1+1)),b))) (some (.bk (st.1,st.2)))
def qm (u0:aj):Option (aj×Bool):=
 ah (bD (ql u0) fu (0,([]:List bF))) fun o=>aO o (fun a=>ah (bD (xl u0) fu (0,([]:List bH))) fun o=>aO o (fun b=>ah (iN (⟨IntKind.i64.wrap (2*u0.aQ),IntKind.i64.wrap (2*u0.aN),u0.aE,a.2,b.2,[(⟨1,(⟨0,0⟩:cV)⟩:bR)],([]:(List bP))⟩:aj)) fun c=>some ((⟨IntKind.i64.wrap (2*u0.aQ),IntKind.i64.wrap (2*u0.aN),u0.aE,a.2,b.2,[(⟨1,(⟨0,0⟩:cV)⟩:bR)],([]:(List bP))⟩:aj),(c==0))) (fun _ _=>none) (fun r=>some r)) (fun _ _=>none) (fun r=>some r)
theorem Hl {ro:Addr->Option Value}(u0:aj){s1 al g i:Value}(C:bG ro u0 s1 al g i){r:(aj×Bool)}(h:qm u0=some r):eu Tryz.prog 26 #[bv u0 s1 al g i] ro (fun v aL=>∃ao w1 w2 w3,v= .tuple #[bv r.1 ao w1 w2 w3,.bool r.2]/\bG aL r.1 ao w1 w2 w3):=by
 obtain ⟨d3,c4,rfl,gM,gT,-⟩:=id C.e
 obtain ⟨d10,j,rfl,gV,g0,-⟩:=id C.p
 unfold qm at h
 have cd:=C.oc;simp only[bx] at cd
 refine aC.go Tryz.func26 rfl Tryz.ntmps26 Tryz.results26 (by simp) fun main J hJ A cf hd hs=>?_
 have cl:=hs 0
 clear hs
 refine aa hJ (ag hJ ?_)
 simp only[*,go_sem]
 refine av fun k D cy=>?_;try simp only[au] at cy
 refine av fun q E cS=>?_;try simp only[au] at cS
 try simp only[*,go_sem]
 refine aa hJ ?_
 refine aK hJ fun c0=>?_
 refine ag hJ ?_
 simp only[*,go_sem]
 refine av fun a y ar=>?_;have da:=aM.cons ar c0;try simp only[au] at ar
 refine av fun n G a0=>?_;have g1:=aM.cons a0 da;try simp only[au] at a0
 try simp only[*,go_sem]
 refine aa hJ (aa hJ (ag hJ ?_))
 simp only[*,go_sem]
 refine aY hJ ?_
 revert h;refine bS fun db M dd=>?_
 refine cc hJ [5,18,19,20,21,22,23,24,25,26,27,28,29,30,31,32,33,34,35,36,37,38,39,40,41,42,43,44] (fun m a' F'=>∃(d38:Option Addr) (d:Nat) (z:List (Nat×Obj)) (N:Int) (c:(List bF)),bD (ql u0) m (N,c)=some db/\F'=⟨ro,(n,.cells #[.int .i64 (IntKind.i64.wrap (2*u0.aQ)),.int .i64 (IntKind.i64.wrap (2*u0.aN)),.int .i64 u0.aE.num,.int .i64 u0.aE.den,.slice d38 c.length d,.slice none 0 0,.slice (some ⟨a,0,none⟩) 1 1,.slice none 0 0] 29)::(a,.cells #[.int .i64 1,.int .i64 0,.int .i64 0] 130)::(q,bz 29)::(k,bk u0 (sl d3 u0.an c4) (sl d10 u0.props j) g i)::z⟩/\aV ey ro 45 (.slice d38 c.length d) c z/\c.length<=d/\slot a' 5= .int .i64 N) fu ?_ ?_
 ·refine ⟨none,0,[],0,([]:List bF),M,rfl,aV.nil _ _ _,Nat.le_refl _,?_⟩
  simp only[*,go_sem]
 rintro S g2 F' a2 ⟨d38,d,z,N,c,M,rfl,a3,g3,df⟩
 obtain ⟨a4,a5,a6⟩:=a2.pick [1,2,3,4] (by decide)
 simp only[*,go_sem] at a4 a5 a6
 clear a2 cf hd cl
 obtain _|S:=S
 ·exact absurd M (by simp only[bD,reduceCtorEq,not_false_eq_true])
 revert M;refine bS fun g4 h T=>?_
 unfold ql at h
 try dsimp only at h
 refine aa hJ (aa hJ ?_)
 refine aK hJ fun ha=>?_
 refine ag hJ ?_
 simp only[*,go_sem]
 revert h;refine jC hJ (by simp only[*,go_sem]) (fun dk h=>?_) fun dk h=>?_
 ·refine aG hJ (aa hJ ?_)
  refine aY hJ ?_
  refine aK hJ fun dp=>?_
  refine gq hJ mixed [20] (.pure 0 (.rd 1 (.pure 2 (.rd 3 (.pure 4 (.pure 5 (.pure 6 (.rd 7 (.pure 8 (.pure 9 (.rd 10 (.pure 11 (.pure 12 (.pure 13 (.rd 14 (.pure 15 (.pure 16 (.one 17 (.one 18 (.pure 19 (.last 20 .done))))))))))))))))))))) ⟨ro,[(n,.cells #[.int .i64 (IntKind.i64.wrap (2*u0.aQ)),.int .i64 (IntKind.i64.wrap (2*u0.aN)),.int .i64 u0.aE.num,.int .i64 u0.aE.den,.slice d38 c.length d,.slice none 0 0,.slice (some ⟨a,0,none⟩) 1 1,.slice none 0 0] 29),(a,.cells #[.int .i64 1,.int .i64 0,.int .i64 0] 130),(q,bz 29),(k,bk u0 (sl d3 u0.an c4) (sl d10 u0.props j) g i)]⟩ (by simp only[*,go_sem]) (by kernel_rfl) ?_
  revert h;refine bS fun t dq h=>?_
  obtain ⟨hc,hf,a7⟩:=cM dq
  obtain ⟨a8,ds,dt,du,U⟩:=C.e.el _ _ a7
  obtain rfl:ds=t.cells:=du
  cases dt
  have dv:=U 0 _ rfl;simp only[go_sem] at dv
  have dC:=U 1 _ rfl;simp only[go_sem] at dC
  clear U a7
  revert h;refine bS fun dE dT h=>?_
  obtain rfl:=sI h
  obtain ⟨ea,a9⟩:=c5 dT
  try simp only[*,go_sem]
  refine av fun ba eb bb=>?_;have ec:=aM.cons bb dp;try simp only[au] at bb
  try simp only[*,go_sem]
  refine dF (r:=ey) (l:=c) (x:=(⟨IntKind.i64.wrap (2*t.ax),IntKind.i64.wrap (2*t.high)⟩:bF)) (cs:=#[.int .i64 (IntKind.i64.wrap (2*t.ax)),.int .i64 (IntKind.i64.wrap (2*t.high))]) (e2:=45) [(ba,.cells #[.int .i64 (IntKind.i64.wrap (2*t.ax)),.int .i64 (IntKind.i64.wrap (2*t.high))] 45),(n,.cells #[.int .i64 (IntKind.i64.wrap (2*u0.aQ)),.int .i64 (IntKind.i64.wrap (2*u0.aN)),.int .i64 u0.aE.num,.int .i64 u0.aE.den,.slice d38 c.length d,.slice none 0 0,.slice (some ⟨a,0,none⟩) 1 1,.slice none 0 0] 29),(a,.cells #[.int .i64 1,.int .i64 0,.int .i64 0] 130),(q,bz 29),(k,bk u0 (sl (some a8) u0.an c4) (sl d10 u0.props j) g i)] [] a3 ec ea rfl (by simp only[*,go_sem]) eb rfl rfl m4 m4 uM qX rfl uN (by decide) (by decide) (fun hg bc V W X hh=>?_)
  simp only[List.append_nil,List.cons_append,List.nil_append,List.append_assoc] at X
  subst W
  rw[<-a9] at V;clear a9
  obtain ⟨d93,ed,rfl,eh⟩:=V.len
  refine ⟨⟨ro,(ba,.cells #[.int .i64 (IntKind.i64.wrap (2*t.ax)),.int .i64 (IntKind.i64.wrap (2*t.high))] 45)::(n,.cells #[.int .i64 (IntKind.i64.wrap (2*u0.aQ)),.int .i64 (IntKind.i64.wrap (2*u0.aN)),.int .i64 u0.aE.num,.int .i64 u0.aE.den,.slice d38 c.length d,.slice none 0 0,.slice (some ⟨a,0,none⟩) 1 1,.slice none 0 0] 29)::(a,.cells #[.int .i64 1,.int .i64 0,.int .i64 0] 130)::(q,bz 29)::(k,bk u0 (sl (some a8) u0.an c4) (sl d10 u0.props j) g i)::bc⟩,Le.refl _,?_⟩
  refine ⟨by simp only[*,go_sem],bQ ?_⟩
  try simp only[*,go_sem]
  refine aK hJ fun hi=>?_
  refine ag hJ ?_
  simp only[*,go_sem]
  refine ⟨S,Nat.lt_succ_self _,_,Le.sub (List.Sublist.cons _ (List.Sublist.refl _)),d93,ed,bc,(IntKind.i64.wrap (N+1)),dE,T,rfl,V,eh,?_⟩
  simp only[*,go_sem]
 obtain rfl:=sI h
 refine b7 ?_
 simp only[go_sem]
 obtain rfl:=sI T;clear T
 have h:=dd
 dsimp only[aO] at h
 refine aa hJ (aa hJ ?_)
 refine aK hJ fun hj=>?_
 refine ag hJ ?_
 simp only[*,go_sem]
 refine aY hJ ?_
 revert h;refine bS fun et O ev=>?_
 refine cc hJ [6,45,46,47,48,49,50,51,52,53,54,55,56,57,58,59,60,61,62,63,64,65,66,67,68,69,70,71] (fun m a' F'=>∃(d100:Option Addr) (s:Nat) (H:List (Nat×Obj)) (P:Int) (f:(List bH)),bD (BD u0) m (P,f)=some et/\F'=⟨ro,(n,.cells #[.int .i64 (IntKind.i64.wrap (2*u0.aQ)),.int .i64 (IntKind.i64.wrap (2*u0.aN)),.int .i64 u0.aE.num,.int .i64 u0.aE.den,.slice d38 c.length d,.slice d100 f.length s,.slice (some ⟨a,0,none⟩) 1 1,.slice none 0 0] 29)::(a,.cells #[.int .i64 1,.int .i64 0,.int .i64 0] 130)::(q,bz 29)::(k,bk u0 (sl d3 u0.an c4) (sl d10 u0.props j) g i)::(H++z)⟩/\aV dW ro 132 (.slice d100 f.length s) f H/\f.length<=s/\slot a' 6= .int .i64 P) fu ?_ ?_
 ·refine ⟨none,0,[],0,([]:List bH),O,rfl,aV.nil _ _ _,Nat.le_refl _,?_⟩
  simp only[*,go_sem]
 rintro Y hk F' bd ⟨d100,s,H,P,f,O,rfl,I,hl,hn⟩
 obtain ⟨eQ,eS,e0⟩:=bd.pick [1,2,3,4] (by decide)
 simp only[*,go_sem] at eQ eS e0
 clear bd a4 a5 a6 df
 obtain _|Y:=Y
 ·exact absurd O (by simp only[bD,reduceCtorEq,not_false_eq_true])
 revert O;refine bS fun ho h Z=>?_
 unfold BD at h
 try dsimp only at h
 refine aa hJ (aa hJ ?_)
 refine aK hJ fun hp=>?_
 refine ag hJ ?_
 simp only[*,go_sem]
 revert h;refine jC hJ (by simp only[*,go_sem]) (fun e1 h=>?_) fun e1 h=>?_
 ·refine aG hJ (aa hJ ?_)
  refine aY hJ ?_
  refine aK hJ fun e3=>?_
  refine gq hJ mixed [20] (.pure 0 (.rd 1 (.pure 2 (.rd 3 (.pure 4 (.pure 5 (.pure 6 (.rd 7 (.pure 8 (.pure 9 (.rd 10 (.pure 11 (.pure 12 (.pure 13 (.rd 14 (.pure 15 (.pure 16 (.one 17 (.one 18 (.pure 19 (.last 20 .done))))))))))))))))))))) ⟨ro,[(n,.cells #[.int .i64 (IntKind.i64.wrap (2*u0.aQ)),.int .i64 (IntKind.i64.wrap (2*u0.aN)),.int .i64 u0.aE.num,.int .i64 u0.aE.den,.slice d38 c.length d,.slice d100 f.length s,.slice (some ⟨a,0,none⟩) 1 1,.slice none 0 0] 29),(a,.cells #[.int .i64 1,.int .i64 0,.int .i64 0] 130),(q,bz 29),(k,bk u0 (sl d3 u0.an c4) (sl d10 u0.props j) g i)]⟩ (by simp only[*,go_sem]) (by kernel_rfl) ?_
  revert h;refine bS fun u fa h=>?_
  obtain ⟨hq,hr,bj⟩:=cM fa
  obtain ⟨bl,fb,fg,fi,ab⟩:=C.p.el _ _ bj
  obtain rfl:fb=u.cells:=fi
  cases fg
  have fp:=ab 0 _ rfl;simp only[go_sem] at fp
  have fr:=ab 1 _ rfl;simp only[go_sem] at fr
  clear ab bj
  revert h;refine bS fun fs ft h=>?_
  obtain rfl:=sI h
  obtain ⟨fv,bm⟩:=c5 ft
  try simp only[*,go_sem]
  refine av fun bo fw br=>?_;have fx:=aM.cons br e3;try simp only[au] at br
  try simp only[*,go_sem]
  refine dF (r:=dW) (l:=f) (x:=(⟨IntKind.i64.wrap (2*u.place),IntKind.i64.wrap (2*u.cn)⟩:bH)) (cs:=#[.int .i64 (IntKind.i64.wrap (2*u.place)),.int .i64 (IntKind.i64.wrap (2*u.cn))]) (e2:=132) [(bo,.cells #[.int .i64 (IntKind.i64.wrap (2*u.place)),.int .i64 (IntKind.i64.wrap (2*u.cn))] 132),(n,.cells #[.int .i64 (IntKind.i64.wrap (2*u0.aQ)),.int .i64 (IntKind.i64.wrap (2*u0.aN)),.int .i64 u0.aE.num,.int .i64 u0.aE.den,.slice d38 c.length d,.slice d100 f.length s,.slice (some ⟨a,0,none⟩) 1 1,.slice none 0 0] 29),(a,.cells #[.int .i64 1,.int .i64 0,.int .i64 0] 130),(q,bz 29),(k,bk u0 (sl d3 u0.an c4) (sl (some bl) u0.props j) g i)] z I fx fv rfl (by simp only[*,go_sem]) fw rfl rfl jj jj o3 o6 rfl o5 (by decide) (by decide) (fun ht bs ad W X hv=>?_)
  simp only[List.append_nil,List.cons_append,List.nil_append,List.append_assoc] at X
  subst W
  rw[<-bm] at ad;clear bm
  obtain ⟨d155,gg,rfl,gl⟩:=ad.len
  refine ⟨⟨ro,(bo,.cells #[.int .i64 (IntKind.i64.wrap (2*u.place)),.int .i64 (IntKind.i64.wrap (2*u.cn))] 132)::(n,.cells #[.int .i64 (IntKind.i64.wrap (2*u0.aQ)),.int .i64 (IntKind.i64.wrap (2*u0.aN)),.int .i64 u0.aE.num,.int .i64 u0.aE.den,.slice d38 c.length d,.slice d100 f.length s,.slice (some ⟨a,0,none⟩) 1 1,.slice none 0 0] 29)::(a,.cells #[.int .i64 1,.int .i64 0,.int .i64 0] 130)::(q,bz 29)::(k,bk u0 (sl d3 u0.an c4) (sl (some bl) u0.props j) g i)::(bs++z)⟩,Le.refl _,?_⟩
  refine ⟨by simp only[*,go_sem],bQ ?_⟩
  try simp only[*,go_sem]
  refine aK hJ fun hx=>?_
  refine ag hJ ?_
  simp only[*,go_sem]
  refine ⟨Y,Nat.lt_succ_self _,_,Le.sub (List.Sublist.cons _ (List.Sublist.refl _)),d155,gg,bs,(IntKind.i64.wrap (P+1)),fs,Z,rfl,ad,gl,?_⟩
  simp only[*,go_sem]
 obtain rfl:=sI h
 refine b7 ?_
 simp only[go_sem]
 obtain rfl:=sI Z;clear Z
 have h:=ev
 dsimp only[aO] at h
 refine aa hJ ?_
 refine aK hJ fun b0=>?_
 obtain ⟨hy,b1,B,w,gn⟩:=a3.g7 ((n,.cells #[.int .i64 (IntKind.i64.wrap (2*u0.aQ)),.int .i64 (IntKind.i64.wrap (2*u0.aN)),.int .i64 u0.aE.num,.int .i64 u0.aE.den,.slice d38 c.length d,.slice d100 f.length s,.slice (some ⟨a,0,none⟩) 1 1,.slice none 0 0] 29)::(a,.cells #[.int .i64 1,.int .i64 0,.int .i64 0] 130)::(q,bz 29)::(k,bk u0 (sl d3 u0.an c4) (sl d10 u0.props j) g i)::H) ((n,.cells #[.int .i64 (IntKind.i64.wrap (2*u0.aQ)),.int .i64 (IntKind.i64.wrap (2*u0.aN)),.int .i64 u0.aE.num,.int .i64 u0.aE.den,.slice d38 c.length d,.slice d100 f.length s,.slice (some ⟨a,0,none⟩) 1 1,.slice none 0 0] 29)::(a,.cells #[.int .i64 1,.int .i64 0,.int .i64 0] 130)::(q,bz 29)::(k,bk u0 (sl d3 u0.an c4) (sl d10 u0.props j) g i)::H) [] (by first|rfl|simp only[List.append_nil,List.cons_append,List.nil_append,List.append_assoc]|(simp only[List.append_nil,List.cons_append,List.nil_append,List.append_assoc];rfl)) (by first|rfl|simp only[List.append_nil,List.cons_append,List.nil_append,List.append_assoc]|(simp only[List.append_nil,List.cons_append,List.nil_append,List.append_assoc];rfl)) b0 (ay.cons G (ay.cons y (ay.cons E (ay.cons D (I.g8)))))
 clear b0
 refine cu hJ gn ?_
 obtain ⟨hz,hA,-⟩:=w.op
 replace G:=B.hd
 replace y:=B.tl.hd
 replace E:=B.tl.tl.hd
 replace D:=B.tl.tl.tl.hd
 replace I:=I.mono b1 B.tl.tl.tl.tl
 simp only[bn] at B
 refine aK hJ fun b2=>?_
 obtain ⟨b3,b4,K,L,gp⟩:=I.g7 ((n,.cells #[.int .i64 (IntKind.i64.wrap (2*u0.aQ)),.int .i64 (IntKind.i64.wrap (2*u0.aN)),.int .i64 u0.aE.num,.int .i64 u0.aE.den,.slice d38 c.length d,.slice d100 f.length s,.slice (some ⟨a,0,none⟩) 1 1,.slice none 0 0] 29)::(a,.cells #[.int .i64 1,.int .i64 0,.int .i64 0] 130)::(q,bz 29)::(k,bk u0 (sl d3 u0.an c4) (sl d10 u0.props j) g i)::[]) [(n,.cells #[.int .i64 (IntKind.i64.wrap (2*u0.aQ)),.int .i64 (IntKind.i64.wrap (2*u0.aN)),.int .i64 u0.aE.num,.int .i64 u0.aE.den,.slice d38 c.length d,.slice d100 f.length s,.slice (some ⟨a,0,none⟩) 1 1,.slice none 0 0] 29),(a,.cells #[.int .i64 1,.int .i64 0,.int .i64 0] 130),(q,bz 29),(k,bk u0 (sl d3 u0.an c4) (sl d10 u0.props j) g i)] [] (by first|rfl|simp only[List.append_nil,List.cons_append,List.nil_append,List.append_assoc]|(simp only[List.append_nil,List.cons_append,List.nil_append,List.append_assoc];rfl)) (by first|rfl|simp only[List.append_nil,List.cons_append,List.nil_append,List.append_assoc]|(simp only[List.append_nil,List.cons_append,List.nil_append,List.append_assoc];rfl)) b2 (ay.cons G (ay.cons y (ay.cons E (ay.cons D (ay.nil _)))))
 clear b2
 refine cu hJ gp ?_
 obtain ⟨hB,hD,-⟩:=L.op
 replace w:=w.mono b4
 replace G:=K.hd
 replace y:=K.tl.hd
 replace E:=K.tl.tl.hd
 replace D:=K.tl.tl.tl.hd
 simp only[bn] at K
 refine aK hJ fun b5=>?_
 obtain ⟨Q,ca,cb⟩:=eV (b:=a) (o:=(.cells #[.int .i64 1,.int .i64 0,.int .i64 0] 130)) [(n,.cells #[.int .i64 (IntKind.i64.wrap (2*u0.aQ)),.int .i64 (IntKind.i64.wrap (2*u0.aN)),.int .i64 u0.aE.num,.int .i64 u0.aE.den,.slice d38 c.length d,.slice d100 f.length s,.slice (some ⟨a,0,none⟩) 1 1,.slice none 0 0] 29)] ((q,bz 29)::(k,bk u0 (sl d3 u0.an c4) (sl d10 u0.props j) g i)::[]) b5 y (ay.cons G (ay.cons E (ay.cons D (ay.nil _))))
 clear b5
 have R:aA ek (bN b3 a (.cells #[.int .i64 1,.int .i64 0,.int .i64 0] 130)) (.slice (some ⟨a,0,none⟩) 1 1) [(⟨1,(⟨0,0⟩:cV)⟩:bR)]:=(aA.flat (r:=ek) (e:=130) (cs:=#[.int .i64 1,.int .i64 0,.int .i64 0]) bR.cells ([(⟨1,(⟨0,0⟩:cV)⟩:bR)]) (fun _=>rfl) y rfl (by simp))
 generalize bN b3 a (.cells #[.int .i64 1,.int .i64 0,.int .i64 0] 130)=gB at Q ca cb R
 refine cu hJ cb ?_
 obtain ⟨hE,hF,-⟩:=R.op
 replace w:=w.mono Q
 replace L:=L.mono Q
 simp only[bn] at ca
 refine eM hJ mixed 4 ⟨gB,[(n,.cells #[.int .i64 (IntKind.i64.wrap (2*u0.aQ)),.int .i64 (IntKind.i64.wrap (2*u0.aN)),.int .i64 u0.aE.num,.int .i64 u0.aE.den,.slice d38 c.length d,.slice d100 f.length s,.slice (some ⟨a,0,none⟩) ([(⟨1,(⟨0,0⟩:cV)⟩:bR)]).length 1,.slice none 0 0] 29),(k,bk u0 (sl d3 u0.an c4) (sl d10 u0.props j) g i)]⟩ (by simp only[*,go_sem]) (by kernel_rfl) ?_
 revert h;refine bS fun hG gC h=>?_
 obtain rfl:=sI h
 simp only[*,go_sem]
 refine ⟨_,bA hJ fun F ae=>wL (⟨IntKind.i64.wrap (2*u0.aQ),IntKind.i64.wrap (2*u0.aN),u0.aE,c,f,[(⟨1,(⟨0,0⟩:cV)⟩:bR)],([]:(List bP))⟩:aj) ⟨(w.mono (bX ae)),(L.mono (bX ae)),(R.mono (bX ae)),(aA.nil _ _)⟩ gC,bV ?_⟩
 try simp only[*,go_sem]
 refine aB ?_
 simp only[*,go_sem]
 exact ⟨_,((b1).trans b4).trans Q,Le.sub (List.nil_sublist _),_,_,_,_,rfl,⟨w,L,R,aA.nil _ _⟩⟩
theorem Ho {x y:ak}(b:∃n d,0<d/\x=bp n d)(c:∃n d,0<d/\y=bp n d)(h:x.num*y.den=y.num*x.den):x=y:=by
 obtain ⟨n,d,hd,ex⟩:=b
 obtain ⟨m,e,he,a⟩:=c
 have g:0<x.den:=by rw[ex];exact (fE n d hd).2
 have i:0<y.den:=by rw[a];exact (fE m e he).2
 have k1:bp x.num x.den.toNat=x:=by rw[ex];exact sW n d hd
 have f:bp y.num y.den.toNat=y:=by rw[a];exact sW m e he
 rw[<-k1,<-f]
 refine p8 (by omega) (by omega) ?_
 rw[show ((y.den.toNat:Nat):Int)=y.den by omega,show ((x.den.toNat:Nat):Int)=x.den by omega]
 exact h
end Go.Proofs.YtjepffnffjdloaaGreatDoor
end

/- A part of the proof of a row and its tied card: QM6. -/
import Derived.Test.YtghbphimkgamkaaGreatDoorQM5
set_option linter.all false
section
namespace Go.Proofs.YtghbphimkgamkaaGreatDoor
open Go Go.Sep Go.Proofs
set_option maxRecDepth 100000
set_option maxHeartbeats 4000000
def BQ (u0:aj)(c:aj)(st:(Bool×Int)):Option (Fl (Bool×Int) Bool):=
 cond (decide (st.2<(u0.told.length:Int))) (ag (bf u0.told st.2) fun a=>ag (bf c.told st.2) fun b=>cond (!((a.aR==b.aR)&&(a.bq==b.bq))) (some (.rt false)) (some (.nx (st.1,(IntKind.i64.wrap (st.2+1)))))) (some (.bk (st.1,st.2)))
def BR (u0:aj)(c:aj)(st:(Bool×Int)):Option (Fl (Bool×Int) Bool):=
 cond (decide (st.2<(u0.av.length:Int))) (ag (bf u0.av st.2) fun a=>ag (bf c.av st.2) fun b=>cond (!((a.back==b.back)&&((a.high.low==b.high.low)&&(a.high.high==b.high.high)))) (some (.rt false)) (some (.nx (st.1,(IntKind.i64.wrap (st.2+1)))))) (some (.bk (st.1,st.2)))
def BS (u0:aj)(c:aj)(st:(Bool×Int)):Option (Fl (Bool×Int) Bool):=
 cond (decide (st.2<(u0.props.length:Int))) (ag (bf u0.props st.2) fun a=>ag (bf c.props st.2) fun b=>cond (!((a.place==b.place)&&(a.dh==b.dh))) (some (.rt false)) (some (.nx (st.1,(IntKind.i64.wrap (st.2+1)))))) (some (.bk (st.1,st.2)))
def qM (u0:aj)(c:aj)(st:(Bool×Int)):Option (Fl (Bool×Int) Bool):=
 cond (decide (st.2<(u0.az.length:Int))) (ag (bf u0.az st.2) fun a=>ag (bf c.az st.2) fun b=>cond (!((a.aL==b.aL)&&(a.high==b.high))) (some (.rt false)) (some (.nx (st.1,(IntKind.i64.wrap (st.2+1)))))) (some (.bk (st.1,st.2)))
def x5 (u0:aj)(c:aj)(st:(Bool×Int)):Option (Fl (Bool×Int) Bool):=
 cond (decide (st.2<(u0.props.length:Int))) (ag (bf u0.props st.2) fun a=>ag (bf c.props st.2) fun b=>cond (!((a.place==b.place)&&(a.dh==b.dh))) (some (.rt false)) (some (.nx (st.1,(IntKind.i64.wrap (st.2+1)))))) (some (.bk (st.1,st.2)))
def x6 (u0:aj)(c:aj)(st:(Bool×Int)):Option (Fl (Bool×Int) Bool):=
 cond (decide (st.2<(u0.av.length:Int))) (ag (bf u0.av st.2) fun a=>ag (bf c.av st.2) fun b=>cond (!((a.back==b.back)&&((a.high.low==b.high.low)&&(a.high.high==b.high.high)))) (some (.rt false)) (some (.nx (st.1,(IntKind.i64.wrap (st.2+1)))))) (some (.bk (st.1,st.2)))
def x7 (u0:aj)(c:aj)(st:(Bool×Int)):Option (Fl (Bool×Int) Bool):=
 cond (decide (st.2<(u0.told.length:Int))) (ag (bf u0.told st.2) fun a=>ag (bf c.told st.2) fun b=>cond (!((a.aR==b.aR)&&(a.bq==b.bq))) (some (.rt false)) (some (.nx (st.1,(IntKind.i64.wrap (st.2+1)))))) (some (.bk (st.1,st.2)))
def hU (u0:aj)(a:aj):Option Bool:=
 cond ((u0.bH != a.bH)) (some false) (cond ((u0.bM != a.bM)) (some false) (cond (!((u0.aV.num==a.aV.num)&&(u0.aV.den==a.aV.den))) (some false) (cond (((u0.az.length:Int) != (a.az.length:Int))) (some false) (cond (((u0.props.length:Int) != (a.props.length:Int))) (some false) (cond (((u0.av.length:Int) != (a.av.length:Int))) (some false) (cond (((u0.told.length:Int) != (a.told.length:Int))) (some false) (ag (aZ (qM u0 a) fu (false,0)) fun o=>aF o (fun b=>ag (aZ (x5 u0 a) fu (b.1,0)) fun o=>aF o (fun c=>ag (aZ (x6 u0 a) fu (c.1,0)) fun o=>aF o (fun d=>ag (aZ (x7 u0 a) fu (d.1,0)) fun o=>aF o (fun e=>some true) (fun _ _=>none) (fun r=>some r)) (fun _ _=>none) (fun r=>some r)) (fun _ _=>none) (fun r=>some r)) (fun _ _=>none) (fun r=>some r))))))))
set_option maxHeartbeats 40000000 in
theorem oH {ro:Addr->Option Value}(u0:aj){s1 a2 a3 a4:Value}(c:bN ro u0 s1 a2 a3 a4)(a:aj){a5 a6 a7 a8:Value}(d:bN ro a a5 a6 a7 a8){r:Bool}(h:hU u0 a=some r):aD Tryz.prog 26 #[bv u0 s1 a2 a3 a4,bv a a5 a6 a7 a8] ⟨ro,[]⟩ (fun v _=>v= .bool r):=by
 obtain ⟨d3,c4,rfl,hP,hQ,-⟩:=id c.e;obtain ⟨d10,z,rfl,hR,hS,-⟩:=id c.p;obtain ⟨d17,B,rfl,hT,hV,-⟩:=id c.y;obtain ⟨d24,C,rfl,hX,hY,-⟩:=id c.t;obtain ⟨d31,D,rfl,hZ,h0,-⟩:=id d.e;obtain ⟨d38,E,rfl,h1,h2,-⟩:=id d.p;obtain ⟨d45,F,rfl,h3,h4,-⟩:=id d.y;obtain ⟨d52,G,rfl,h5,h6,-⟩:=id d.t;unfold hU at h;refine aD.go Tryz.func26 rfl Tryz.ntmps26 Tryz.results26 (by simp) fun main J hJ A b4 hd hs=>?_;have b5:=hs 0;have k1:=hs 1;clear hs;refine ah hJ ?_;simp (maxSteps:=9^9) only[*,go_sem];refine ay fun f h7 ca=>?_;try simp only[au] at ca
 refine ay fun g h8 cb=>?_;try simp only[au] at cb
 refine af hJ (ah hJ ?_);revert h;refine cS (fun cd h=>?_) fun cd h=>?_
 .obtain rfl:=sI h;simp (maxSteps:=9^9) only[*,go_sem];refine b8 hJ ?_;refine ah hJ ?_;simp (maxSteps:=9^9) only[*,go_sem];refine ax ?_;simp only[*,go_sem]
 revert h;refine cS (fun cf h=>?_) fun cf h=>?_
 .obtain rfl:=sI h;simp (maxSteps:=9^9) only[*,go_sem];refine b8 hJ ?_;refine ah hJ ?_;simp (maxSteps:=9^9) only[*,go_sem];refine ax ?_;simp only[*,go_sem]
 revert h;refine cS (fun cl h=>?_) fun cl h=>?_
 .obtain rfl:=sI h;simp (maxSteps:=9^9) only[*,go_sem];refine b8 hJ ?_;refine ah hJ ?_;simp (maxSteps:=9^9) only[*,go_sem];refine ax ?_;simp only[*,go_sem]
 revert h;refine cS (fun cu h=>?_) fun cu h=>?_
 .obtain rfl:=sI h;simp (maxSteps:=9^9) only[*,go_sem];refine b8 hJ ?_;refine ah hJ ?_;simp (maxSteps:=9^9) only[*,go_sem];refine ax ?_;simp only[*,go_sem]
 revert h;refine cS (fun cy h=>?_) fun cy h=>?_
 .obtain rfl:=sI h;simp (maxSteps:=9^9) only[*,go_sem];refine b8 hJ ?_;refine ah hJ ?_;simp (maxSteps:=9^9) only[*,go_sem];refine ax ?_;simp only[*,go_sem]
 revert h;refine cS (fun c0 h=>?_) fun c0 h=>?_
 .obtain rfl:=sI h;simp (maxSteps:=9^9) only[*,go_sem];refine b8 hJ ?_;refine ah hJ ?_;simp (maxSteps:=9^9) only[*,go_sem];refine ax ?_;simp only[*,go_sem]
 simp (maxSteps:=9^9) only[*,go_sem];revert h;refine cS (fun da h=>?_) fun da h=>?_
 .obtain rfl:=sI h;refine b8 hJ ?_;refine ah hJ ?_;simp (maxSteps:=9^9) only[*,go_sem];refine ax ?_;simp only[*,go_sem]
 refine b6 hJ ?_;refine aI hJ (af hJ ?_);refine ah hJ ?_;simp (maxSteps:=9^9) only[*,go_sem];refine aO hJ ?_;revert h;refine bS fun db H a9=>?_;refine bU hJ (rg 64 18 [4,5]) (fun m b F'=>∃(i:Bool) (I:Int),aZ (qM u0 a) m (i,I)=some db/\F'=⟨ro,(g,bk a (sl d31 a.az D) (sl d38 a.props E) (sl d45 a.av F) (sl d52 a.told G))::(f,bk u0 (sl d3 u0.az c4) (sl d10 u0.props z) (sl d17 u0.av B) (sl d24 u0.told C))::[]⟩/\slot b 4= .bool i/\slot b 5= .int .i64 I) fu ?_ ?_
 .refine ⟨false,0,H,rfl,?_⟩;simp (maxSteps:=9^9) only[*,go_sem]
 rintro X K F' j ⟨i,I,H,rfl,dd,df⟩;have dk:sz K=136:=by rw[j.size];simp (maxSteps:=9^9) only[*,go_sem]
 have dp:K.defers=[]:=by rw[j.defers];simp (maxSteps:=9^9) only[*,go_sem]
 have dq:slot K 2= .pointer (some ⟨f,0,none⟩):=by rw[j.dZ 2 (by decide)];simp (maxSteps:=9^9) only[*,go_sem]
 have ds:slot K 3= .pointer (some ⟨g,0,none⟩):=by rw[j.dZ 3 (by decide)];simp (maxSteps:=9^9) only[*,go_sem]
 clear j b4 hd b5 k1;obtain _|X:=X
 .exact absurd H (by simp only[aZ,reduceCtorEq,not_false_eq_true])
 revert H;refine bS fun h9 h k=>?_;unfold qM at h;try dsimp only at h
 refine af hJ (ah hJ ?_);simp (maxSteps:=9^9) only[*,go_sem];revert h;refine cS (fun ba h=>?_) fun ba h=>?_
 .try simp only[Int.ofNat_lt] at ba
  refine b8 hJ ?_;refine aI hJ (af hJ ?_);refine aO hJ (af hJ ?_);refine cP hJ mixed 11 2 (by simp (maxSteps:=9^9) only[*,go_sem]) (by kernel_rfl) ?_;revert h;refine bS fun dt du h=>?_;obtain ⟨ib,ic,bb⟩:=cG du;obtain ⟨ih,dv,dC,dE,Y⟩:=c.e.el _ _ bb;obtain rfl:dv=dt.cells:=dE;cases dC;have dT:=Y 0 _ rfl;simp only[go_sem] at dT;have ea:=Y 1 _ rfl;simp only[go_sem] at ea;clear Y bb;revert h;refine bS fun eb ec h=>?_;obtain ⟨ik,il,bc⟩:=cG ec;obtain ⟨im,ed,eh,et,Z⟩:=d.e.el _ _ bc;obtain rfl:ed=eb.cells:=et;cases eh;have eu:=Z 0 _ rfl;simp only[go_sem] at eu;have ev:=Z 1 _ rfl;simp only[go_sem] at ev;clear Z bc;simp (maxSteps:=9^9) only[*,go_sem];revert h;refine cS (fun eQ h=>?_) fun eQ h=>?_
  .obtain rfl:=sI h;refine b8 hJ ?_;refine ah hJ ?_;simp (maxSteps:=9^9) only[*,go_sem];obtain rfl:=sI k;clear k;have h:=a9;dsimp only[aF] at h;obtain rfl:=sI h;refine ax ?_;simp only[*,go_sem]
  obtain rfl:=sI h;refine b6 hJ ?_;refine aI hJ (ak hJ ?_);simp (maxSteps:=9^9) only[*,go_sem];refine ⟨X,Nat.lt_succ_self _,_,Le.sub (List.Sublist.refl _),i,(IntKind.i64.wrap (I+1)),k,rfl,?_⟩;simp (maxSteps:=9^9) only[*,go_sem]
 obtain rfl:=sI h;refine b6 hJ ?_;refine bO ?_;try simp only[go_sem]
 obtain rfl:=sI k;clear k;have h:=a9;dsimp only[aF] at h;refine af hJ (ah hJ ?_);simp (maxSteps:=9^9) only[*,go_sem];refine aO hJ ?_;revert h;refine bS fun eS L bd=>?_;refine bU hJ (rg 82 18 [4,6]) (fun m b F'=>∃(l:Bool) (M:Int),aZ (BS u0 a) m (l,M)=some eS/\F'=⟨ro,(g,bk a (sl d31 a.az D) (sl d38 a.props E) (sl d45 a.av F) (sl d52 a.told G))::(f,bk u0 (sl d3 u0.az c4) (sl d10 u0.props z) (sl d17 u0.av B) (sl d24 u0.told C))::[]⟩/\slot b 4= .bool l/\slot b 6= .int .i64 M) fu ?_ ?_
 .refine ⟨i,0,L,rfl,?_⟩;simp (maxSteps:=9^9) only[*,go_sem]
 rintro ab N F' n ⟨l,M,L,rfl,e0,e1⟩;have e2:sz N=136:=by rw[n.size];simp (maxSteps:=9^9) only[*,go_sem]
 have e3:N.defers=[]:=by rw[n.defers];simp (maxSteps:=9^9) only[*,go_sem]
 have fa:slot N 2= .pointer (some ⟨f,0,none⟩):=by rw[n.dZ 2 (by decide)];simp (maxSteps:=9^9) only[*,go_sem]
 have fb:slot N 3= .pointer (some ⟨g,0,none⟩):=by rw[n.dZ 3 (by decide)];simp (maxSteps:=9^9) only[*,go_sem]
 clear n dk dp dq ds dd df;obtain _|ab:=ab
 .exact absurd L (by simp only[aZ,reduceCtorEq,not_false_eq_true])
 revert L;refine bS fun iv h o=>?_;unfold BS at h;try dsimp only at h
 refine af hJ (ah hJ ?_);simp (maxSteps:=9^9) only[*,go_sem];revert h;refine cS (fun bj h=>?_) fun bj h=>?_
 .try simp only[Int.ofNat_lt] at bj
  refine b8 hJ ?_;refine aI hJ (af hJ ?_);refine aO hJ (af hJ ?_);refine cP hJ mixed 11 2 (by simp (maxSteps:=9^9) only[*,go_sem]) (by kernel_rfl) ?_;revert h;refine bS fun fg fi h=>?_;obtain ⟨ix,jC,bl⟩:=cG fi;obtain ⟨j1,fo,fp,fr,ad⟩:=c.p.el _ _ bl;obtain rfl:fo=fg.cells:=fr;cases fp;have fs:=ad 0 _ rfl;simp only[go_sem] at fs;have ft:=ad 1 _ rfl;simp only[go_sem] at ft;clear ad bl;revert h;refine bS fun fv fw h=>?_;obtain ⟨j2,kh,bm⟩:=cG fw;obtain ⟨kj,fx,fz,gg,ae⟩:=d.p.el _ _ bm;obtain rfl:fx=fv.cells:=gg;cases fz;have gl:=ae 0 _ rfl;simp only[go_sem] at gl;have gn:=ae 1 _ rfl;simp only[go_sem] at gn;clear ae bm;simp (maxSteps:=9^9) only[*,go_sem];revert h;refine cS (fun gp h=>?_) fun gp h=>?_
  .obtain rfl:=sI h;refine b8 hJ ?_;refine ah hJ ?_;simp (maxSteps:=9^9) only[*,go_sem];obtain rfl:=sI o;clear o;have h:=bd;dsimp only[aF] at h;obtain rfl:=sI h;refine ax ?_;simp only[*,go_sem]
  obtain rfl:=sI h;refine b6 hJ ?_;refine aI hJ (ak hJ ?_);simp (maxSteps:=9^9) only[*,go_sem];refine ⟨ab,Nat.lt_succ_self _,_,Le.sub (List.Sublist.refl _),l,(IntKind.i64.wrap (M+1)),o,rfl,?_⟩;simp (maxSteps:=9^9) only[*,go_sem]
 obtain rfl:=sI h;refine b6 hJ ?_;refine bO ?_;try simp only[go_sem]
 obtain rfl:=sI o;clear o;have h:=bd;dsimp only[aF] at h;refine af hJ (ah hJ ?_);simp (maxSteps:=9^9) only[*,go_sem];refine aO hJ ?_;revert h;refine bS fun gB O bo=>?_;refine bU hJ (rg 100 18 [4,7]) (fun m b F'=>∃(q:Bool) (P:Int),aZ (BR u0 a) m (q,P)=some gB/\F'=⟨ro,(g,bk a (sl d31 a.az D) (sl d38 a.props E) (sl d45 a.av F) (sl d52 a.told G))::(f,bk u0 (sl d3 u0.az c4) (sl d10 u0.props z) (sl d17 u0.av B) (sl d24 u0.told C))::[]⟩/\slot b 4= .bool q/\slot b 7= .int .i64 P) fu ?_ ?_
 .refine ⟨l,0,O,rfl,?_⟩;simp (maxSteps:=9^9) only[*,go_sem]
 rintro al Q F' s ⟨q,P,O,rfl,gC,gM⟩;have gT:sz Q=136:=by rw[s.size];simp (maxSteps:=9^9) only[*,go_sem]
 have gV:Q.defers=[]:=by rw[s.defers];simp (maxSteps:=9^9) only[*,go_sem]
 have g0:slot Q 2= .pointer (some ⟨f,0,none⟩):=by rw[s.dZ 2 (by decide)];simp (maxSteps:=9^9) only[*,go_sem]
 have g1:slot Q 3= .pointer (some ⟨g,0,none⟩):=by rw[s.dZ 3 (by decide)];simp (maxSteps:=9^9) only[*,go_sem]
 clear s e2 e3 fa fb e0 e1;obtain _|al:=al
 .exact absurd O (by simp only[aZ,reduceCtorEq,not_false_eq_true])
 revert O;refine bS fun kk h u=>?_;unfold BR at h;try dsimp only at h
 refine af hJ (ah hJ ?_);simp (maxSteps:=9^9) only[*,go_sem];revert h;refine cS (fun br h=>?_) fun br h=>?_
 .try simp only[Int.ofNat_lt] at br
  refine b8 hJ ?_;refine aI hJ (af hJ ?_);refine aO hJ (af hJ ?_);refine cP hJ mixed 11 2 (by simp (maxSteps:=9^9) only[*,go_sem]) (by kernel_rfl) ?_;revert h;refine bS fun g2 g3 h=>?_;obtain ⟨kl,km,bs⟩:=cG g3;obtain ⟨kn,g4,ha,hc,R⟩:=c.y.el _ _ bs;obtain rfl:g4=g2.cells:=hc;cases ha;have hf:=R 0 _ rfl;simp only[go_sem] at hf;have hg:=R 1 _ rfl;simp only[go_sem] at hg;have hh:=R 2 _ rfl;simp only[go_sem] at hh;clear R bs;revert h;refine bS fun hi hj h=>?_;obtain ⟨kp,ks,bz⟩:=cG hj;obtain ⟨kt,hk,hl,hn,S⟩:=d.y.el _ _ bz;obtain rfl:hk=hi.cells:=hn;cases hl;have ho:=S 0 _ rfl;simp only[go_sem] at ho;have hp:=S 1 _ rfl;simp only[go_sem] at hp;have hq:=S 2 _ rfl;simp only[go_sem] at hq;clear S bz;simp (maxSteps:=9^9) only[*,go_sem];revert h;refine cS (fun hr h=>?_) fun hr h=>?_
  .obtain rfl:=sI h;refine b8 hJ ?_;refine ah hJ ?_;simp (maxSteps:=9^9) only[*,go_sem];obtain rfl:=sI u;clear u;have h:=bo;dsimp only[aF] at h;obtain rfl:=sI h;refine ax ?_;simp only[*,go_sem]
  obtain rfl:=sI h;refine b6 hJ ?_;refine aI hJ (ak hJ ?_);simp (maxSteps:=9^9) only[*,go_sem];refine ⟨al,Nat.lt_succ_self _,_,Le.sub (List.Sublist.refl _),q,(IntKind.i64.wrap (P+1)),u,rfl,?_⟩;simp (maxSteps:=9^9) only[*,go_sem]
 obtain rfl:=sI h;refine b6 hJ ?_;refine bO ?_;try simp only[go_sem]
 obtain rfl:=sI u;clear u;have h:=bo;dsimp only[aF] at h;refine af hJ (ah hJ ?_);simp (maxSteps:=9^9) only[*,go_sem];refine aO hJ ?_;revert h;refine bS fun ht T b0=>?_;refine bU hJ (rg 118 18 [4,8]) (fun m b F'=>∃(U:Bool) (V:Int),aZ (BQ u0 a) m (U,V)=some ht/\F'=⟨ro,(g,bk a (sl d31 a.az D) (sl d38 a.props E) (sl d45 a.av F) (sl d52 a.told G))::(f,bk u0 (sl d3 u0.az c4) (sl d10 u0.props z) (sl d17 u0.av B) (sl d24 u0.told C))::[]⟩/\slot b 4= .bool U/\slot b 8= .int .i64 V) fu ?_ ?_
 .refine ⟨q,0,T,rfl,?_⟩;simp (maxSteps:=9^9) only[*,go_sem]
 rintro ao W F' w ⟨U,V,T,rfl,kv,kx⟩;have ky:sz W=136:=by rw[w.size];simp (maxSteps:=9^9) only[*,go_sem]
 have k0:W.defers=[]:=by rw[w.defers];simp (maxSteps:=9^9) only[*,go_sem]
 have k2:slot W 2= .pointer (some ⟨f,0,none⟩):=by rw[w.dZ 2 (by decide)];simp (maxSteps:=9^9) only[*,go_sem]
 have lb:slot W 3= .pointer (some ⟨g,0,none⟩):=by rw[w.dZ 3 (by decide)];simp (maxSteps:=9^9) only[*,go_sem]
 clear w gT gV g0 g1 gC gM;obtain _|ao:=ao
 .exact absurd T (by simp only[aZ,reduceCtorEq,not_false_eq_true])
 revert T;refine bS fun lh h x=>?_;unfold BQ at h;try dsimp only at h
 refine af hJ (ah hJ ?_);simp (maxSteps:=9^9) only[*,go_sem];revert h;refine cS (fun b1 h=>?_) fun b1 h=>?_
 .try simp only[Int.ofNat_lt] at b1
  refine b8 hJ ?_;refine aI hJ (af hJ ?_);refine aO hJ (af hJ ?_);refine cP hJ mixed 11 2 (by simp (maxSteps:=9^9) only[*,go_sem]) (by kernel_rfl) ?_;revert h;refine bS fun hv hx h=>?_;obtain ⟨lj,lk,b2⟩:=cG hx;obtain ⟨ll,hy,hz,hA,ar⟩:=c.t.el _ _ b2;obtain rfl:hy=hv.cells:=hA;cases hz;have hB:=ar 0 _ rfl;simp only[go_sem] at hB;have hD:=ar 1 _ rfl;simp only[go_sem] at hD;clear ar b2;revert h;refine bS fun hE hF h=>?_;obtain ⟨ln,lo,b3⟩:=cG hF;obtain ⟨lr,hG,hI,hK,a0⟩:=d.t.el _ _ b3;obtain rfl:hG=hE.cells:=hK;cases hI;have hL:=a0 0 _ rfl;simp only[go_sem] at hL;have hM:=a0 1 _ rfl;simp only[go_sem] at hM;clear a0 b3;simp (maxSteps:=9^9) only[*,go_sem];revert h;refine cS (fun hN h=>?_) fun hN h=>?_
  .obtain rfl:=sI h;refine b8 hJ ?_;refine ah hJ ?_;simp (maxSteps:=9^9) only[*,go_sem];obtain rfl:=sI x;clear x;have h:=b0;dsimp only[aF] at h;obtain rfl:=sI h;refine ax ?_;simp only[*,go_sem]
  obtain rfl:=sI h;refine b6 hJ ?_;refine aI hJ (ak hJ ?_);simp (maxSteps:=9^9) only[*,go_sem];refine ⟨ao,Nat.lt_succ_self _,_,Le.sub (List.Sublist.refl _),U,(IntKind.i64.wrap (V+1)),x,rfl,?_⟩;simp (maxSteps:=9^9) only[*,go_sem]
 obtain rfl:=sI h;refine b6 hJ ?_;refine bO ?_;try simp only[go_sem]
 obtain rfl:=sI x;clear x;have h:=b0;dsimp only[aF] at h;obtain rfl:=sI h;refine ah hJ ?_;simp (maxSteps:=9^9) only[*,go_sem];refine ax ?_;simp only[*,go_sem]
end Go.Proofs.YtghbphimkgamkaaGreatDoor
end

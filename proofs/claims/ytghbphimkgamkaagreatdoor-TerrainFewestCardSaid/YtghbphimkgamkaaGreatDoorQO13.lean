/- A part of the proof of a row and its tied card: QO13. -/
import Derived.Test.YtghbphimkgamkaaGreatDoorQO12
set_option linter.all false
section
namespace Go.Proofs.YtghbphimkgamkaaGreatDoor
open Go Go.Sep Go.Proofs
def nv (u0:ak)(a:(List Int))(b:bN)(c:bN)(st:((List Int)×Int)):Option (Fl ((List Int)×Int) Bool):=
 cond (decide (st.2<(a.length:Int))) (cond (decide (st.2<(IntKind.i64.wrap (3 - (u0.props.length:Int))))) (ag (aT u0.an 0) fun d=>ag (aT a st.2) fun e=>ag (gq (IntKind.i64.wrap e) (IntKind.i64.wrap ((IntKind.i64.wrap (b.aH - c.aH))+1))) fun f=>ag (cL st.1 ([IntKind.i64.wrap (d.aH+f)])) fun g=>some (.nx (g,(IntKind.i64.wrap (st.2+1))))) (some (.bk (st.1,st.2)))) (some (.bk (st.1,st.2)))
def pF (u0:ak)(d:(List Int))(b:Int)(e:bN)(f:bN)(c:((List Int)×Bool×Int)):Option Bool:=
 ag (aQ (nv u0 d e f) fu (([]:List Int),0)) fun o=>ay o (fun g=>ag (qQ g.1) fun a=>cond (c.2.1) (ag (qP a c.1) fun h=>cond (!h) (ag (kU) fun i=>some i) (ag (m0 u0 a (IntKind.i64.wrap (1+b))) fun j=>cond (!j) (ag (kU) fun k=>some k) (some false))) (ag (m0 u0 a (IntKind.i64.wrap (1+b))) fun l=>cond (!l) (ag (kU) fun m=>some m) (some false))) (fun _ _=>none) (fun r=>some r)
def rM (u0:ak)(c:(List Int))(b:Int)(d:bN)(e:bN)(a:((List Int)×Bool×Int)):Option Bool:=
 cond (a.2.1) (ag (m0 u0 a.1 (IntKind.i64.wrap (1+b))) fun f=>cond (!f) (some false) (pF u0 c b d e a)) (pF u0 c b d e a)
def ny (u0:ak)(a:((List Int)×Bool×Int))(st:(Bool×Int)):Option (Fl (Bool×Int) Bool):=
 cond (decide (st.2<(a.1.length:Int))) (ag (aT a.1 st.2) fun b=>ag (aT u0.an 0) fun c=>ag (aT u0.an (IntKind.i64.wrap ((u0.an.length:Int) - 1))) fun d=>ag (eC b c.aH d.aH) fun e=>cond (!e) (some (.rt false)) (some (.nx (st.1,(IntKind.i64.wrap (st.2+1)))))) (some (.bk (st.1,st.2)))
def pG (u0:ak)(b:(List Int))(c:Int)(d:bN)(e:bN)(a:((List Int)×Bool×Int)):Option Bool:=
 ag (aQ (ny u0 a) fu (false,0)) fun o=>ay o (fun f=>rM u0 b c d e a) (fun _ _=>none) (fun r=>some r)
def uY (u0:ak)(i:Int)(j:Int)(e:(List Int)):Option Bool:=
 ag (oI u0) fun k=>cond (!k) (ag (kU) fun l=>some l) (ag (gq (IntKind.i64.wrap i) 20) fun b=>ag (aT u0.an (IntKind.i64.wrap ((u0.an.length:Int) - 1))) fun f=>ag (aT u0.an 0) fun g=>ag (nu u0 (IntKind.i64.wrap (1+b))) fun a=>ag (gq (IntKind.i64.wrap j) 5) fun h=>ag (nu u0 (if IntKind.i64.wrap ((IntKind.i64.wrap (1+b))+h)<20 then IntKind.i64.wrap ((IntKind.i64.wrap (1+b))+h) else 20)) fun c=>ag (kE u0) fun d=>cond ((a.2.2 != c.2.2)) (some false) (cond ((a.2.2 != d.2)) (some false) (cond ((a.2.2 != 0)) (cond ((a.2.2==9)) (cond (((a.1.length:Int)==0)) (cond (!a.2.1) (ag (kU) fun m=>some m) (some false)) (some false)) (some false)) (cond (a.2.1) (cond (!((d.1==1)==((a.1.length:Int)==0))) (some false) (cond (!c.2.1) (some false) (cond (decide ((a.1.length:Int)<(c.1.length:Int))) (some false) (cond (decide ((IntKind.i64.wrap (3 - (u0.props.length:Int)))<(a.1.length:Int))) (some false) (ag (mZ a.1 60) fun n=>cond ((n != 0)) (some false) (pG u0 e b f g a)))))) (cond (!((d.1==1)==false)) (some false) (cond (decide (0<(a.1.length:Int))) (some false) (cond (decide ((IntKind.i64.wrap (3 - (u0.props.length:Int)))<(a.1.length:Int))) (some false) (ag (mZ a.1 60) fun o=>cond ((o != 0)) (some false) (pG u0 e b f g a)))))))))
end Go.Proofs.YtghbphimkgamkaaGreatDoor
end
section
namespace Go.Proofs.YtghbphimkgamkaaGreatDoor
open Go Go.Sep Go.Proofs
set_option maxRecDepth 100000
set_option maxHeartbeats 4000000
set_option maxHeartbeats 40000000 in
theorem Eb {Φ:Goroutine->aa->Prop}(hJ:Closed Tryz.prog true (dA Tryz.prog Φ)){A:Act}{ro:Addr->Option Value}(u0:ak)(w:(List Int))(j:Int)(z:bN)(B:bN)(k:((List Int)×Bool×Int))(b2:((List Int)×Bool×Int))(X:Bool){i:Nat}(a:c6 ro){Y:Value}(Z:az n9 ro Y w){ab:Value}(c:az rI ro ab k.1){ad ae al ao:Value}(b:bL ro u0 ad ae al ao){b3:Value}(b4:az rI ro b3 b2.1)(b5:sz A=222/\A.defers=[]/\slot A 3=Y/\slot A 4= .pointer (some ⟨i,0,none⟩)/\slot A 8= .bool X/\slot A 9= .int .i64 (IntKind.i64.wrap (1+j))/\slot A 10= .int .i64 (IntKind.i64.wrap ((IntKind.i64.wrap (z.aH - B.aH))+1))/\slot A 11=ab/\slot A 12= .bool k.2.1)(h:pF u0 w j z B k=some true):Wp (dA Tryz.prog Φ) (bp (bp (bp (bp (bp (bp (bp (bp (bp (bp (bp (Tryz.f4.body.getD .skip)))))))))))) (gJ Tryz.prog [.tmp 8] (fun v _=>v= .bool true)) A ⟨ro,(i,bk u0 ad ae al ao)::[]⟩:=by
 obtain ⟨ca,hd,cb,cd,cf,cl,cy,c0,da⟩:=b5;obtain ⟨d31,db,rfl,g1,g2,-⟩:=id Z;obtain ⟨d57,dd,rfl,g3,g4,-⟩:=id c;obtain ⟨d3,c4,rfl,ha,hc,-⟩:=id b.e;obtain ⟨d10,n,rfl,hf,hg,-⟩:=id b.p;obtain ⟨d17,o,rfl,hh,hi,-⟩:=id b.y;obtain ⟨d24,q,rfl,hj,hk,-⟩:=id b.t;obtain ⟨d71,hl,rfl,hn,ho,-⟩:=id b4;unfold pF at h;refine e6 hJ fun df ar=>?_;have dk:=df.nd;try simp only[keys,List.map_cons,List.map_nil,List.map_append,List.cons_append,List.nil_append,List.nodup_cons,List.mem_cons,List.mem_append,List.not_mem_nil,or_false,not_or] at dk
 replace C:=ar.hd;simp only[bt] at ar;apply ah hJ;simp (maxSteps:=9^9) only[*,go_sem];refine af hJ (ah hJ ?_);simp (maxSteps:=9^9) only[*,go_sem];apply aN hJ;revert h;refine bS fun dp D a0=>?_;refine bQ hJ (rg 174 30 [20,21]) (fun m a2 F'=>∃(d127:Option Addr) (E:Nat) (L:List (Nat×Obj)) (f:(List Int)) (F:Int),aQ (nv u0 w z B) m (f,F)=some dp/\F'=⟨ro,(i,bk u0 (sl d3 u0.an c4) (sl d10 u0.props n) (sl d17 u0.aG o) (sl d24 u0.told q))::L⟩/\aO rI ro 3 (.slice d127 f.length E) f L/\f.length<=E/\slot a2 20= .slice d127 f.length E/\slot a2 21= .int .i64 F) fu ?_ ?_
 .refine ⟨none,0,[],([]:List Int),0,D,rfl,aO.nil _ _ _,Nat.le_refl _,?_⟩;simp (maxSteps:=9^9) only[*,go_sem]
 rintro M g F' d ⟨d127,E,L,f,F,D,rfl,N,hp,hq,hr⟩;have hs:sz g=222:=by rw[d.size];simp (maxSteps:=9^9) only[*,go_sem]
 have ht:g.defers=[]:=by rw[d.defers];simp (maxSteps:=9^9) only[*,go_sem]
 have hv:slot g 3= .slice d31 w.length db:=by rw[d.dz 3 (by decide)];simp (maxSteps:=9^9) only[*,go_sem]
 have hx:slot g 4= .pointer (some ⟨i,0,none⟩):=by rw[d.dz 4 (by decide)];simp (maxSteps:=9^9) only[*,go_sem]
 have hy:slot g 8= .bool X:=by rw[d.dz 8 (by decide)];simp (maxSteps:=9^9) only[*,go_sem]
 have hz:slot g 9= .int .i64 (IntKind.i64.wrap (1+j)):=by rw[d.dz 9 (by decide)];simp (maxSteps:=9^9) only[*,go_sem]
 have hA:slot g 10= .int .i64 (IntKind.i64.wrap ((IntKind.i64.wrap (z.aH - B.aH))+1)):=by rw[d.dz 10 (by decide)];simp (maxSteps:=9^9) only[*,go_sem]
 have hB:slot g 11= .slice d57 k.1.length dd:=by rw[d.dz 11 (by decide)];simp (maxSteps:=9^9) only[*,go_sem]
 have hD:slot g 12= .bool k.2.1:=by rw[d.dz 12 (by decide)];simp (maxSteps:=9^9) only[*,go_sem]
 clear d ca hd cb cd cf cl cy c0 da;obtain _|M:=M
 .exact absurd D (by simp only[aQ,reduceCtorEq,not_false_eq_true])
 revert D;refine bS fun hE h s=>?_;unfold nv at h;try dsimp only at h
 refine af hJ (af hJ ?_);refine ax hJ fun hF=>?_;apply aj hJ;revert h;refine cS (fun dq h=>?_) fun dq h=>?_
 .simp (maxSteps:=9^9) only[*,go_sem];revert h;refine cS (fun a3 h=>?_) fun a3 h=>?_
  ·(try simp only[Int.ofNat_lt] at a3);refine cn hJ ?_;refine aI hJ (af hJ ?_);apply aN hJ;refine ax hJ fun ds=>?_;refine cE hJ mixed 14 1 (by simp (maxSteps:=9^9) only[*,go_sem]) (by kernel_rfl) ?_;revert h;refine bS fun u dt h=>?_;obtain ⟨hG,hI,a4⟩:=cq dt;obtain ⟨a5,du,dv,dC,O⟩:=b.e.el _ _ a4;obtain rfl:du=u.cells:=dC;cases dv;have dE:=O 0 _ rfl;simp only[go_sem] at dE;have dT:=O 1 _ rfl;simp only[go_sem] at dT;clear O a4;revert h;refine bS fun ea eb h=>?_;obtain ⟨hK,hL,a6⟩:=cq eb;obtain ⟨hM,ec,ed,eh,a7⟩:=Z.el _ _ a6;obtain rfl:ec=[.int .u8 ea]:=eh;cases ed;have et:=a7 0 _ rfl;simp only[go_sem] at et;clear a7 a6;revert h;refine bS fun G a8 h=>?_;obtain ⟨hN,hP⟩:=nO a8;clear a8;revert h;refine bS fun ev eQ h=>?_;cases h;obtain ⟨eS,a9⟩:=c9 eQ;simp (maxSteps:=9^9) only[*,go_sem];refine aC fun ba e0 bb=>?_;have e1:=aR.cons bb ds;try simp only[av] at bb
   simp (maxSteps:=9^9) only[*,go_sem];refine dB (r:=rI) (l:=f) (x:=IntKind.i64.wrap (u.aH+G)) (cs:=#[.int .i64 (IntKind.i64.wrap (u.aH+G))]) (e2:=3) [(ba,ic (IntKind.i64.wrap (u.aH+G))),(i,bk u0 (sl (some a5) u0.an c4) (sl d10 u0.props n) (sl d17 u0.aG o) (sl d24 u0.told q))] [] N e1 eS rfl (by simp (maxSteps:=9^9) only[*,go_sem]) e0 rfl rfl dP dP gL gP rfl gO (by decide) (by decide) (fun hQ bc P e3 fa hR=>?_);(try simp only[aV] at fa);subst e3;rw[<-a9] at P;clear a9;obtain ⟨d159,fb,rfl,fg⟩:=P.len;refine ⟨⟨ro,(ba,ic (IntKind.i64.wrap (u.aH+G)))::(i,bk u0 (sl (some a5) u0.an c4) (sl d10 u0.props n) (sl d17 u0.aG o) (sl d24 u0.told q))::bc⟩,Le.refl _,?_⟩;refine ⟨by simp (maxSteps:=9^9) only[*,go_sem],k3 ?_⟩;simp (maxSteps:=9^9) only[*,go_sem];refine ax hJ fun hS=>?_;apply aj hJ;simp (maxSteps:=9^9) only[*,go_sem];refine ⟨M,Nat.lt_succ_self _,_,Le.sub (List.Sublist.cons _ (List.Sublist.refl _)),d159,fb,bc,ev,(IntKind.i64.wrap (F+1)),s,rfl,P,fg,?_⟩;simp (maxSteps:=9^9) only[*,go_sem]
  cases h;refine bT hJ ?_;apply bJ;try simp only[go_sem]
  obtain rfl:=sI s;clear s;have h:=a0;dsimp only[ay] at h;apply af hJ;refine ax hJ fun bd=>?_;obtain ⟨hT,Q,bj,bl,fi⟩:=N.eH [(i,bk u0 (sl d3 u0.an c4) (sl d10 u0.props n) (sl d17 u0.aG o) (sl d24 u0.told q))] [] bd (aF.cons C (aF.nil _));clear bd;refine cr hJ fi ?_;obtain ⟨hV,hX,-⟩:=bl.op;replace c:=c.mono Q;replace b:=b.mono Q;replace C:=bj.hd;replace a:=a.mono Q;simp only[bt] at bj;apply aj hJ;revert h;refine bS fun R fp h=>?_;simp (maxSteps:=9^9) only[*,go_sem];refine b8 hJ _ (BL f bl fp) fun v hY S bm T=>?_;obtain ⟨hZ,rfl,H⟩:=T;replace c:=c.mono S;replace b:=b.mono S;replace C:=bm.hd;replace a:=a.mono S;simp only[bt] at bm;obtain ⟨d182,h0,rfl,h1,h2,-⟩:=id H;apply aK;simp (maxSteps:=9^9) only[*,go_sem];refine af hJ (ah hJ ?_);revert h;refine cS (fun fr h=>?_) fun fr h=>?_
  .revert h;refine bS fun h3 fs h=>?_;simp (maxSteps:=9^9) only[*,go_sem];refine bn hJ _ (BK R (H.mono aP) k.1 (c.mono aP) fs) (aK ?_);simp (maxSteps:=9^9) only[*,go_sem];revert h;refine cS (fun I h=>?_) fun I h=>?_
   ·(try simp only[Int.ofNat_lt] at I);refine cn hJ ?_;rw[Bool.not_eq_true'] at I;apply ah hJ;revert h;refine bS fun h4 ft h=>?_;cases h;simp (maxSteps:=9^9) only[*,go_sem];refine k5 _ (lU a ft) (aK ?_);simp (maxSteps:=9^9) only[*,go_sem];apply aA;simp only[*,go_sem]
   refine bT hJ ?_;rw[Bool.not_eq_false'] at I;refine aI hJ (af hJ ?_);apply aj hJ;revert h;refine bS fun h5 fv h=>?_;simp (maxSteps:=9^9) only[*,go_sem];refine bn hJ _ (qU (a.mono aP) u0 (b.mono aP) R (H.mono aP) (IntKind.i64.wrap (1+j)) fv) (aK ?_);revert h;refine cS (fun bo h=>?_) fun bo h=>?_
   .rw[Bool.not_eq_true'] at bo;revert h;refine bS fun h6 fw h=>?_;cases h;simp (maxSteps:=9^9) only[*,go_sem];refine k5 _ (lU a fw) (aK ?_);simp (maxSteps:=9^9) only[*,go_sem];apply aA;simp only[*,go_sem]
   cases h
  simp (maxSteps:=9^9) only[*,go_sem];refine bT hJ ?_;refine aI hJ (af hJ ?_);apply aj hJ;revert h;refine bS fun h7 fx h=>?_;simp (maxSteps:=9^9) only[*,go_sem];refine bn hJ _ (qU (a.mono aP) u0 (b.mono aP) R (H.mono aP) (IntKind.i64.wrap (1+j)) fx) (aK ?_);revert h;refine cS (fun br h=>?_) fun br h=>?_
  .rw[Bool.not_eq_true'] at br;revert h;refine bS fun h8 fz h=>?_;cases h;simp (maxSteps:=9^9) only[*,go_sem];refine k5 _ (lU a fz) (aK ?_);simp (maxSteps:=9^9) only[*,go_sem];apply aA;simp only[*,go_sem]
  cases h
 cases h;simp (maxSteps:=9^9) only[*,go_sem];refine bT hJ ?_;apply bJ;try simp only[go_sem]
 obtain rfl:=sI s;clear s;have h:=a0;dsimp only[ay] at h;apply af hJ;refine ax hJ fun bs=>?_;obtain ⟨h9,U,gg,bz,gl⟩:=N.eH [(i,bk u0 (sl d3 u0.an c4) (sl d10 u0.props n) (sl d17 u0.aG o) (sl d24 u0.told q))] [] bs (aF.cons C (aF.nil _));clear bs;refine cr hJ gl ?_;obtain ⟨ib,ih,-⟩:=bz.op;replace c:=c.mono U;replace b:=b.mono U;replace a:=a.mono U;simp only[bt] at gg;apply aj hJ;revert h;refine bS fun V gn h=>?_;simp (maxSteps:=9^9) only[*,go_sem];refine b8 hJ _ (BL f bz gn) fun v ik W gp T=>?_;obtain ⟨il,rfl,J⟩:=T;replace c:=c.mono W;replace b:=b.mono W;replace a:=a.mono W;simp only[bt] at gp;obtain ⟨d222,im,rfl,iv,ix,-⟩:=id J;apply aK;simp (maxSteps:=9^9) only[*,go_sem];refine af hJ (ah hJ ?_);revert h;refine cS (fun gB h=>?_) fun gB h=>?_
 .revert h;refine bS fun jC gC h=>?_;simp (maxSteps:=9^9) only[*,go_sem];refine bn hJ _ (BK V (J.mono aP) k.1 (c.mono aP) gC) (aK ?_);simp (maxSteps:=9^9) only[*,go_sem];revert h;refine cS (fun K h=>?_) fun K h=>?_
  ·(try simp only[Int.ofNat_lt] at K);refine cn hJ ?_;rw[Bool.not_eq_true'] at K;apply ah hJ;revert h;refine bS fun j1 gM h=>?_;cases h;simp (maxSteps:=9^9) only[*,go_sem];refine k5 _ (lU a gM) (aK ?_);simp (maxSteps:=9^9) only[*,go_sem];apply aA;simp only[*,go_sem]
  refine bT hJ ?_;rw[Bool.not_eq_false'] at K;refine aI hJ (af hJ ?_);apply aj hJ;revert h;refine bS fun j2 gN h=>?_;simp (maxSteps:=9^9) only[*,go_sem];refine bn hJ _ (qU (a.mono aP) u0 (b.mono aP) V (J.mono aP) (IntKind.i64.wrap (1+j)) gN) (aK ?_);revert h;refine cS (fun b0 h=>?_) fun b0 h=>?_
  .rw[Bool.not_eq_true'] at b0;revert h;refine bS fun kh gT h=>?_;cases h;simp (maxSteps:=9^9) only[*,go_sem];refine k5 _ (lU a gT) (aK ?_);simp (maxSteps:=9^9) only[*,go_sem];apply aA;simp only[*,go_sem]
  cases h
 simp (maxSteps:=9^9) only[*,go_sem];refine bT hJ ?_;refine aI hJ (af hJ ?_);apply aj hJ;revert h;refine bS fun kj gV h=>?_;simp (maxSteps:=9^9) only[*,go_sem];refine bn hJ _ (qU (a.mono aP) u0 (b.mono aP) V (J.mono aP) (IntKind.i64.wrap (1+j)) gV) (aK ?_);revert h;refine cS (fun b1 h=>?_) fun b1 h=>?_
 .rw[Bool.not_eq_true'] at b1;revert h;refine bS fun kk g0 h=>?_;cases h;simp (maxSteps:=9^9) only[*,go_sem];refine k5 _ (lU a g0) (aK ?_);simp (maxSteps:=9^9) only[*,go_sem];apply aA;simp only[*,go_sem]
 cases h
set_option maxHeartbeats 40000000 in
theorem LU {Φ:Goroutine->aa->Prop}(hJ:Closed Tryz.prog true (dA Tryz.prog Φ)){A:Act}{ro:Addr->Option Value}(u0:ak)(d:(List Int))(c:Int)(f:bN)(g:bN)(b:((List Int)×Bool×Int))(j:((List Int)×Bool×Int))(k:Bool){o:Nat}(l:c6 ro){q:Value}(m:az n9 ro q d){r:Value}(i:az rI ro r b.1){s u w x:Value}(a:bL ro u0 s u w x){B:Value}(n:az rI ro B j.1)(C:sz A=222/\A.defers=[]/\slot A 3=q/\slot A 4= .pointer (some ⟨o,0,none⟩)/\slot A 8= .bool k/\slot A 9= .int .i64 (IntKind.i64.wrap (1+c))/\slot A 10= .int .i64 (IntKind.i64.wrap ((IntKind.i64.wrap (f.aH - g.aH))+1))/\slot A 11=r/\slot A 12= .bool b.2.1)(h:rM u0 d c f g b=some true):Wp (dA Tryz.prog Φ) (bp (bp (bp (bp (bp (bp (bp (bp (bp (bp (Tryz.f4.body.getD .skip))))))))))) (gJ Tryz.prog [.tmp 8] (fun v _=>v= .bool true)) A ⟨ro,(o,bk u0 s u w x)::[]⟩:=by
 obtain ⟨I,hd,J,K,L,M,N,O,P⟩:=C;obtain ⟨d31,Q,rfl,R,S,-⟩:=id m;obtain ⟨d57,T,rfl,U,V,-⟩:=id i;obtain ⟨d3,c4,rfl,W,X,-⟩:=id a.e;obtain ⟨d10,Y,rfl,Z,ab,-⟩:=id a.p;obtain ⟨d17,ad,rfl,ae,al,-⟩:=id a.y;obtain ⟨d24,ao,rfl,ar,a0,-⟩:=id a.t;obtain ⟨d71,a2,rfl,a3,a4,-⟩:=id n;unfold rM at h;refine e6 hJ fun D E=>?_;have F:=D.nd;try simp only[keys,List.map_cons,List.map_nil,List.map_append,List.cons_append,List.nil_append,List.nodup_cons,List.mem_cons,List.mem_append,List.not_mem_nil,or_false,not_or] at F
 simp only[bt] at E;refine af hJ (ah hJ ?_);revert h;refine cS (fun G h=>?_) fun G h=>?_
 .revert h;refine bS fun a5 H h=>?_;simp (maxSteps:=9^9) only[*,go_sem];refine bn hJ _ (qU (l.mono aP) u0 (a.mono aP) b.1 (i.mono aP) (IntKind.i64.wrap (1+c)) H) (aK ?_);simp (maxSteps:=9^9) only[*,go_sem];revert h;refine cS (fun z h=>?_) fun z h=>?_
  .cases h
  refine bT hJ ?_;rw[Bool.not_eq_false'] at z;apply aI hJ;show Wp _ _ _ _ _;exact cr hJ (Le.sub (.cons₂ _ (List.Sublist.refl _))) (Eb hJ u0 d c f g b j k l m i a n (by simp (maxSteps:=9^9) only[*,go_sem]) h)
 simp (maxSteps:=9^9) only[*,go_sem];refine bT hJ ?_;apply aI hJ;show Wp _ _ _ _ _;exact cr hJ (Le.sub (.cons₂ _ (List.Sublist.refl _))) (Eb hJ u0 d c f g b j k l m i a n (by simp (maxSteps:=9^9) only[*,go_sem]) h)
set_option maxHeartbeats 40000000 in
theorem Ec {Φ:Goroutine->aa->Prop}(hJ:Closed Tryz.prog true (dA Tryz.prog Φ)){A:Act}{ro:Addr->Option Value}(u0:ak)(i:(List Int))(j:Int)(k:bN)(l:bN)(c:((List Int)×Bool×Int))(x:((List Int)×Bool×Int)){n:Nat}(U:c6 ro){z:Value}(B:az n9 ro z i){C:Value}(r:az rI ro C c.1){D E G H:Value}(d:bL ro u0 D E G H){V:Value}(I:az rI ro V x.1)(W:sz A=222/\A.defers=[]/\slot A 3=z/\slot A 4= .pointer (some ⟨n,0,none⟩)/\slot A 8= .bool false/\slot A 9= .int .i64 (IntKind.i64.wrap (1+j))/\slot A 10= .int .i64 (IntKind.i64.wrap ((IntKind.i64.wrap (k.aH - l.aH))+1))/\slot A 11=C/\slot A 12= .bool c.2.1)(h:pG u0 i j k l c=some true):Wp (dA Tryz.prog Φ) (bp (bp (bp (bp (bp (bp (bp (bp (bp (Tryz.f4.body.getD .skip)))))))))) (gJ Tryz.prog [.tmp 8] (fun v _=>v= .bool true)) A ⟨ro,(n,bk u0 D E G H)::[]⟩:=by
 obtain ⟨X,hd,Y,Z,ab,ad,ae,al,ao⟩:=W;obtain ⟨d31,ar,rfl,ca,cb,-⟩:=id B;obtain ⟨d57,a0,rfl,cd,cf,-⟩:=id r;obtain ⟨d3,c4,rfl,cl,cy,-⟩:=id d.e;obtain ⟨d10,a2,rfl,c0,da,-⟩:=id d.p;obtain ⟨d17,a3,rfl,db,dd,-⟩:=id d.y;obtain ⟨d24,a4,rfl,df,dk,-⟩:=id d.t;obtain ⟨d71,dp,rfl,dq,ds,-⟩:=id I;unfold pG at h;refine e6 hJ fun a5 a6=>?_;have a7:=a5.nd;try simp only[keys,List.map_cons,List.map_nil,List.map_append,List.cons_append,List.nil_append,List.nodup_cons,List.mem_cons,List.mem_append,List.not_mem_nil,or_false,not_or] at a7
 simp only[bt] at a6;refine af hJ (ah hJ ?_);simp (maxSteps:=9^9) only[*,go_sem];apply aN hJ;revert h;refine bS fun a8 o J=>?_;refine bQ hJ (rg 140 26 [8,19]) (fun m K F'=>∃(f:Bool) (q:Int),aQ (ny u0 c) m (f,q)=some a8/\F'=⟨ro,(n,bk u0 (sl d3 u0.an c4) (sl d10 u0.props a2) (sl d17 u0.aG a3) (sl d24 u0.told a4))::[]⟩/\slot K 8= .bool f/\slot K 19= .int .i64 q) fu ?_ ?_
 .refine ⟨false,0,o,rfl,?_⟩;simp (maxSteps:=9^9) only[*,go_sem]
 rintro s b F' a ⟨f,q,o,rfl,dt,du⟩;have dv:sz b=222:=by rw[a.size];simp (maxSteps:=9^9) only[*,go_sem]
 have dC:b.defers=[]:=by rw[a.defers];simp (maxSteps:=9^9) only[*,go_sem]
 have dE:slot b 3= .slice d31 i.length ar:=by rw[a.dz 3 (by decide)];simp (maxSteps:=9^9) only[*,go_sem]
 have dT:slot b 4= .pointer (some ⟨n,0,none⟩):=by rw[a.dz 4 (by decide)];simp (maxSteps:=9^9) only[*,go_sem]
 have ea:slot b 9= .int .i64 (IntKind.i64.wrap (1+j)):=by rw[a.dz 9 (by decide)];simp (maxSteps:=9^9) only[*,go_sem]
 have eb:slot b 10= .int .i64 (IntKind.i64.wrap ((IntKind.i64.wrap (k.aH - l.aH))+1)):=by rw[a.dz 10 (by decide)];simp (maxSteps:=9^9) only[*,go_sem]
 have ec:slot b 11= .slice d57 c.1.length a0:=by rw[a.dz 11 (by decide)];simp (maxSteps:=9^9) only[*,go_sem]
 have ed:slot b 12= .bool c.2.1:=by rw[a.dz 12 (by decide)];simp (maxSteps:=9^9) only[*,go_sem]
 clear a X hd Y Z ab ad ae al ao;obtain _|s:=s
 .exact absurd o (by simp only[aQ,reduceCtorEq,not_false_eq_true])
 revert o;refine bS fun eh h g=>?_;unfold ny at h;try dsimp only at h
 refine af hJ (ah hJ ?_);simp (maxSteps:=9^9) only[*,go_sem];revert h;refine cS (fun L h=>?_) fun L h=>?_
 .try simp only[Int.ofNat_lt] at L
  refine cn hJ ?_;refine aI hJ (af hJ ?_);refine aN hJ (af hJ ?_);refine cE hJ mixed 20 1 (by simp (maxSteps:=9^9) only[*,go_sem]) (by kernel_rfl) ?_;revert h;refine bS fun M a9 h=>?_;obtain ⟨et,ev,N⟩:=cq a9;obtain ⟨eQ,ba,bb,bc,O⟩:=r.el _ _ N;obtain rfl:ba=[.int .i64 M]:=bc;cases bb;have bd:=O 0 _ rfl;simp only[go_sem] at bd;clear O N;revert h;refine bS fun P bj h=>?_;obtain ⟨eS,e0,Q⟩:=cq bj;obtain ⟨e1,bl,bm,bo,u⟩:=d.e.el _ _ Q;obtain rfl:bl=P.cells:=bo;cases bm;have br:=u 0 _ rfl;simp only[go_sem] at br;have bs:=u 1 _ rfl;simp only[go_sem] at bs;clear u Q;revert h;refine bS fun R bz h=>?_;obtain ⟨e2,e3,S⟩:=cq bz;obtain ⟨fa,b0,b1,b2,w⟩:=d.e.el _ _ S;obtain rfl:b0=R.cells:=b2;cases b1;have b3:=w 0 _ rfl;simp only[go_sem] at b3;have b4:=w 1 _ rfl;simp only[go_sem] at b4;clear w S;revert h;refine bS fun fb b5 h=>?_;simp (maxSteps:=9^9) only[*,go_sem];refine ⟨_,bE hJ fun F fg=>gU M P.aH R.aH b5,cc ?_⟩;simp (maxSteps:=9^9) only[*,go_sem];revert h;refine cS (fun T h=>?_) fun T h=>?_
  .cases h;refine cn hJ ?_;apply ah hJ;simp (maxSteps:=9^9) only[*,go_sem];obtain rfl:=sI g;clear g;have h:=J;dsimp only[ay] at h;cases h
  cases h;refine bT hJ ?_;rw[Bool.not_eq_false'] at T;refine aI hJ (aj hJ ?_);simp (maxSteps:=9^9) only[*,go_sem];refine ⟨s,Nat.lt_succ_self _,_,Le.sub (List.Sublist.refl _),f,(IntKind.i64.wrap (q+1)),g,rfl,?_⟩;simp (maxSteps:=9^9) only[*,go_sem]
 cases h;refine bT hJ ?_;apply bJ;try simp only[go_sem]
 obtain rfl:=sI g;clear g;have h:=J;dsimp only[ay] at h;show Wp _ _ _ _ _;exact cr hJ (Le.sub (.cons₂ _ (List.Sublist.refl _))) (LU hJ u0 i j k l c x f U B r d I (by simp (maxSteps:=9^9) only[*,go_sem]) h)
set_option maxHeartbeats 40000000 in
theorem LV {ro:Addr->Option Value}(b:c6 ro)(u0:ak){s1 C D E:Value}(a:bL ro u0 s1 C D E)(F:Int)(G:Int)(i:(List Int)){H:Value}(c:az n9 ro H i){r:Bool}(Y:r=true)(h:uY u0 F G i=some r):mq Tryz.prog 4 #[bv u0 s1 C D E,.int .u8 F,.int .u8 G,H] ⟨ro,[]⟩ (fun v _=>v= .bool r):=by
 obtain ⟨d3,c4,rfl,bm,bo,-⟩:=id a.e;obtain ⟨d10,br,rfl,bs,bz,-⟩:=id a.p;obtain ⟨d31,b0,rfl,b1,b2,-⟩:=id c;subst Y;unfold uY at h;refine mq.go Tryz.func4 rfl Tryz.ntmps4 Tryz.results4 (by simp) (by kernel_rfl) fun Φ hJ A b3 hd hs=>?_;have b4:=hs 0;have k1:=hs 1;have b5:=hs 2;have ca:=hs 3;clear hs;apply ah hJ;simp (maxSteps:=9^9) only[*,go_sem];refine aC fun cb cd Z=>?_;try simp only[av] at Z
 refine af hJ (ah hJ ?_);revert h;refine bS fun cf ab h=>?_;simp (maxSteps:=9^9) only[*,go_sem];refine bn hJ _ (Iu u0 (a.mono aP) ab) (aK ?_);simp (maxSteps:=9^9) only[*,go_sem];revert h;refine cS (fun f h=>?_) fun f h=>?_
 .try simp only[Int.ofNat_lt] at f
  refine cn hJ ?_;rw[Bool.not_eq_true'] at f;apply ah hJ;revert h;refine bS fun cl ad h=>?_;cases h;simp (maxSteps:=9^9) only[*,go_sem];refine k5 _ (lU b ad) (aK ?_);simp (maxSteps:=9^9) only[*,go_sem];apply aA;simp only[*,go_sem]
 try simp only[Int.ofNat_lt] at f
 refine bT hJ ?_;rw[Bool.not_eq_false'] at f;refine aI hJ (af hJ ?_);refine cE hJ mixed 22 1 (by simp (maxSteps:=9^9) only[*,go_sem]) (by kernel_rfl) ?_;revert h;refine bS fun g I h=>?_;obtain ⟨cy,c0⟩:=nO I;clear I;revert h;refine bS fun l ae h=>?_;obtain ⟨da,db,J⟩:=cq ae;obtain ⟨dd,al,ao,ar,m⟩:=a.e.el _ _ J;obtain rfl:al=l.cells:=ar;cases ao;have a0:=m 0 _ rfl;simp only[go_sem] at a0;have a2:=m 1 _ rfl;simp only[go_sem] at a2;clear m J;revert h;refine bS fun n a3 h=>?_;obtain ⟨df,dk,K⟩:=cq a3;obtain ⟨dp,a4,a5,a6,o⟩:=a.e.el _ _ K;obtain rfl:a4=n.cells:=a6;cases a5;have a7:=o 0 _ rfl;simp only[go_sem] at a7;have a8:=o 1 _ rfl;simp only[go_sem] at a8;clear o K;simp (maxSteps:=9^9) only[*,go_sem];apply ah hJ;revert h;refine bS fun j a9 h=>?_;simp (maxSteps:=9^9) only[*,go_sem];refine nZ _ (zb b u0 a (IntKind.i64.wrap (1+g)) a9) fun v dq q ba s=>?_;obtain ⟨ds,rfl,d⟩:=s;replace a:=a.mono q;replace c:=c.mono q;replace b:=b.mono q;simp only[bt] at ba;obtain ⟨d57,dt,rfl,du,dv,-⟩:=id d;apply aK;simp (maxSteps:=9^9) only[*,go_sem];apply ah hJ;revert h;refine bS fun L M h=>?_;obtain ⟨dC,dE⟩:=nO M;clear M;revert h;refine bS fun N bb h=>?_;simp (maxSteps:=9^9) only[*,go_sem];refine nZ _ (zb b u0 a (if IntKind.i64.wrap ((IntKind.i64.wrap (1+g))+L)<20 then IntKind.i64.wrap ((IntKind.i64.wrap (1+g))+L) else 20) bb) fun v dT k bc s=>?_;obtain ⟨ea,rfl,t⟩:=s;replace a:=a.mono k;replace c:=c.mono k;replace d:=d.mono k;replace b:=b.mono k;simp only[bt] at bc;obtain ⟨d71,eb,rfl,ec,ed,-⟩:=id t;apply aK;simp (maxSteps:=9^9) only[*,go_sem];apply ah hJ;revert h;refine bS fun eh bd h=>?_;simp (maxSteps:=9^9) only[*,go_sem];refine bn hJ _ (qL (b.mono aP) u0 (a.mono aP) bd) (aK ?_);simp (maxSteps:=9^9) only[*,go_sem];refine af hJ (ah hJ ?_);revert h;refine cS (fun O h=>?_) fun O h=>?_
 .cases h
 try simp only[Int.ofNat_lt] at O
 simp (maxSteps:=9^9) only[*,go_sem];revert h;refine cS (fun P h=>?_) fun P h=>?_
 .cases h
 try simp only[Int.ofNat_lt] at P
 refine bT hJ ?_;refine aI hJ (af hJ ?_);apply ah hJ;simp (maxSteps:=9^9) only[*,go_sem];revert h;refine cS (fun u h=>?_) fun u h=>?_
 .try simp only[Int.ofNat_lt] at u
  refine cn hJ ?_;apply ah hJ;revert h;refine cS (fun Q h=>?_) fun Q h=>?_
  ·(try simp only[Int.ofNat_lt] at Q);revert h;refine cS (fun R h=>?_) fun R h=>?_
   ·(try simp only[Int.ofNat_lt] at R);revert h;refine cS (fun w h=>?_) fun w h=>?_
    ·(try simp only[Int.ofNat_lt] at w);rw[Bool.not_eq_true'] at w;revert h;refine bS fun et bj h=>?_;cases h;simp (maxSteps:=9^9) only[*,go_sem];refine k5 _ (lU b bj) (aK ?_);simp (maxSteps:=9^9) only[*,go_sem];apply aA;simp only[*,go_sem]
    cases h
   cases h
  cases h
 try simp only[Int.ofNat_lt] at u
 refine bT hJ ?_;refine aI hJ (af hJ ?_);apply ah hJ;revert h;refine cS (fun x h=>?_) fun x h=>?_
 .try simp only[Int.ofNat_lt] at x
  revert h;refine cS (fun y h=>?_) fun y h=>?_
  .cases h
  try simp only[Int.ofNat_lt] at y
  rw[Bool.not_eq_false'] at y;revert h;refine cS (fun z h=>?_) fun z h=>?_
  .cases h
  try simp only[Int.ofNat_lt] at z
  rw[Bool.not_eq_false'] at z;revert h;refine cS (fun S h=>?_) fun S h=>?_
  .cases h
  try simp only[Int.ofNat_lt] at S
  revert h;refine cS (fun T h=>?_) fun T h=>?_
  .cases h
  try simp only[Int.ofNat_lt] at T
  revert h;refine bS fun ev bk h=>?_;simp (maxSteps:=9^9) only[*,go_sem];refine bn hJ _ (BO j.1 (d.mono aP) 60 bk) (aK ?_);simp (maxSteps:=9^9) only[*,go_sem];revert h;refine cS (fun U h=>?_) fun U h=>?_
  .cases h
  try simp only[Int.ofNat_lt] at U
  refine bT hJ ?_;apply aI hJ;show Wp _ _ _ _ _;exact cr hJ (Le.sub (.cons₂ _ (List.Sublist.refl _))) (Ec hJ u0 i g l n j N b c d a t (by simp (maxSteps:=9^9) only[*,go_sem]) h)
 try simp only[Int.ofNat_lt] at x
 revert h;refine cS (fun B h=>?_) fun B h=>?_
 .cases h
 try simp only[Int.ofNat_lt] at B
 rw[Bool.not_eq_false'] at B;revert h;refine cS (fun V h=>?_) fun V h=>?_
 .cases h
 try simp only[Int.ofNat_lt] at V
 revert h;refine cS (fun W h=>?_) fun W h=>?_
 .cases h
 try simp only[Int.ofNat_lt] at W
 revert h;refine bS fun eQ bl h=>?_;simp (maxSteps:=9^9) only[*,go_sem];refine bn hJ _ (BO j.1 (d.mono aP) 60 bl) (aK ?_);simp (maxSteps:=9^9) only[*,go_sem];revert h;refine cS (fun X h=>?_) fun X h=>?_
 .cases h
 try simp only[Int.ofNat_lt] at X
 refine bT hJ ?_;apply aI hJ;show Wp _ _ _ _ _;exact cr hJ (Le.sub (.cons₂ _ (List.Sublist.refl _))) (Ec hJ u0 i g l n j N b c d a t (by simp (maxSteps:=9^9) only[*,go_sem]) h)
theorem LW {u:ak}(h:mS u=some false):yq u:=by
 unfold mS at h;rcases jd h with ⟨a,h⟩|⟨a,h⟩
 .cases h
 rcases jd h with ⟨b,h⟩|⟨b,h⟩
 .cases h
 rcases jd h with ⟨c,h⟩|⟨c,h⟩
 .cases h
 have d:=Option.some.inj h;simp only[decide_eq_false_iff_not] at a b c d;exact ⟨by omega,by omega,by omega,by omega⟩
theorem LX (u:ak):∃b,mS u=some b:=by
 unfold mS;cases decide (20<(u.an.length:Int))<;>cases decide (20<(u.props.length:Int))<;>cases decide (20<(u.aG.length:Int))<;>exact ⟨_,rfl⟩
theorem LY (u:ak):oI u=some false\/(oI u=some true/\yq u/\e9 u=some 0/\Fit u):=by
 unfold oI;obtain ⟨b,hb⟩:=LX u;rw[hb];cases b with
 |true=>exact .inl rfl
 |false=>
  have L:=LW hb;obtain ⟨c,a,d⟩:=bars L;simp only[ag,Bool.not_false,cond_true,d];cases f:(c==0) with
  |false=>exact .inl rfl
  |true=>
   have e:c=0:=by simpa using f
   subst e;exact .inr ⟨rfl,L,a,IE u L.e a⟩
theorem zj {a b:Int}(hb:0<b):gq a b=some (a.tmod b):=by
 unfold gq;rw[if_neg (by omega)]
theorem zk {a b:Int}(c:0<=a)(hb:0<b):0<=a.tmod b/\a.tmod b<b:=⟨Int.tmod_nonneg _ c,Int.tmod_lt_of_pos _ hb⟩
theorem LZ {u:ak}(F:Fit u){k:Int}(e:0<=k/\k<=255):∃a z:bN,u.an[0]?=some a/\u.an[u.an.length - 1]?=some z/\aT u.an 0=some a/\aT u.an (IntKind.i64.wrap ((u.an.length:Int) - 1))=some z/\
  ∃r,gq (IntKind.i64.wrap k) (IntKind.i64.wrap ((IntKind.i64.wrap (z.aH - a.aH))+1))=some r/\IntKind.i64.wrap (a.aH+r)=a.aH+r/\a.aH<=a.aH+r/\a.aH+r<=z.aH:=by
 have f:=F.an
 have c:u.an[0]?=some (u.an[0]'(by omega)):=List.getElem?_eq_getElem _
 have d:u.an[u.an.length - 1]?=some (u.an[u.an.length - 1]'(by omega)):=List.getElem?_eq_getElem _
 have g:=F.gz _ _ c
 have h:=F.gz _ _ d
 have i:=F.bH
 have j:(u.an[0]'(by omega)).aH<(u.an[u.an.length - 1]'(by omega)).aH:=yb F (u.an.length - 2) 0 _ _ c (by rw[<-d];congr 1;omega)
 refine ⟨_,_,c,d,dK c,?_,?_⟩
 .rw[bU (by omega)]
  have:=dK d
  rwa [show (((u.an.length - 1:Nat)):Int)=(u.an.length:Int) - 1 by omega] at this
 .generalize (u.an[0]'(by omega)).aH=x at*
  generalize (u.an[u.an.length - 1]'(by omega)).aH=y at*
  rw[bU (n:=y - x) (by omega),bU (n:=y - x+1) (by omega),bU (n:=k) (by omega),zj (by omega)]
  have l:=zk (a:=k) (b:=y - x+1) e.1 (by omega)
  exact ⟨_,rfl,bU (by omega),by omega,by omega⟩
theorem L0 {a b:au}{A B C D:Nat}(c:Sm a A B)(hb:Sm b C D):Sm (gd a b) (A*D+C*B) (B*D)/\∃n d,0<d/\gd a b=bI n d:=by
 have e:=dG c.num (show b.den.natAbs<=D by have:=hb.den;omega);have f:=dG hb.num (show a.den.natAbs<=B by have:=c.den;omega);have g:=dG (show a.den.natAbs<=B by have:=c.den;omega) (show b.den.natAbs<=D by have:=hb.den;omega);have h:0<a.den*b.den:=Int.mul_pos c.den.1 hb.den.1;have:=jo (a.num*b.den - b.num*a.den) (a.den*b.den).toNat (by omega);refine ⟨?_,_,_,by omega,rfl⟩;unfold gd;exact ⟨Nat.le_trans this.num (by omega),this.den.1,by have:=this.den.2;omega⟩
theorem Ed {α ρ:Type}:∀(l:List α) (i:Nat),fl (fun _ _=>(none:Option ρ)) i l=none
 |[],_=>rfl
 |x::l,i=>by unfold fl;exact Ed l (i+1)
section
variable {u : ak} {s : aU} (F : Fit u) (hs : (1 ≤ s.back ∧ s.back ≤ 20) ∧ 0 ≤ s.high ∧ s.high ≤ 60)
include F hs
theorem L1:Sm (eP u s).2 10000 100/\∃n d,0<d/\(eP u s).2=bI n d:=by
 obtain ⟨n,p,e,a,-⟩:=IU F hs;have b:=F.gz n p a;rw[e];exact ⟨B8 u F s hs n p a,_,_,by omega,rfl⟩
end
abbrev Lw (x:au):Prop:=∃n d,0<d/\x=bI n d
theorem Lw.more {a b:au}(c:Lw a)(hb:Lw b):Lw (cu a b):=by
 unfold cu;cases bB a b;exact c;exact hb
theorem L2:Lw ⟨0,1⟩:=⟨0,1,by decide,by decide⟩
section
variable {u : ak} {s : aU} (F : Fit u) (hs : (1 ≤ s.back ∧ s.back ≤ 20) ∧ 0 ≤ s.high ∧ s.high ≤ 60)
include F hs
theorem L3:Sm (iw u s) 10000 100:=by
 unfold iw;cases bB (eP u s).2 ⟨u.bP,1⟩
 .exact (L1 F hs).1
 .exact (x5 F hs).mono (by decide) (by decide)
theorem Ee:Sm (gX u s) 300000000 800000/\Lw (gX u s):=by
 obtain ⟨a,b⟩:=L0 (L3 F hs) (q9 F hs);unfold gX;refine ⟨?_,Lw.more b L2⟩;have z:Sm (⟨0,1⟩:au) 300000000 800000:=⟨by decide,by decide,by decide⟩
 have c:=a.mono (show _<=300000000 by decide) (show _<=800000 by decide);unfold cu;cases bB (gd (iw u s) (gW u s)) ⟨0,1⟩
 .exact c
 .exact z
end
theorem L4 {a b c:au}(h:bB c a=false)(h':bB c b=false):bB c (cu a b)=false:=by
 unfold cu;cases bB a b<;>assumption
theorem L5 {a b c d:au}(g:0<a.den)(hb:0<b.den)(e:0<c.den)(f:0<d.den)(h:bB c a=false)(h':bB d b=false):bB (cu c d) (cu a b)=false:=
 L4 (oO (rf e f) e g Cw h) (oO (rf e f) f hb Cx h')
inductive fq:List bO->List bO->Prop
 |nil:fq [] []
 |cons {p h h':Int} {P Q:List bO} (hh:h<=h') (t:fq P Q):fq (⟨p,h⟩::P) (⟨p,h'⟩::Q)
theorem fq.refl:∀P:List bO,fq P P
 |[]=>.nil
 |⟨p,h⟩::P=>.cons (Int.le_refl _) (fq.refl P)
theorem fq.app {P Q a b:List bO}(t:fq P Q)(c:fq a b):fq (P++a) (Q++b):=by
 induction t with
 |nil=>exact c
 |cons hh t ih=>exact .cons hh ih
theorem fq.places {h h':Int}(hh:h<=h'):∀l:List Int,fq (l.map fun p=>⟨p,h⟩) (l.map fun p=>⟨p,h'⟩)
 |[]=>.nil
 |p::l=>.cons hh (fq.places hh l)
theorem fq.len {P Q:List bO}(t:fq P Q):P.length=Q.length:=by
 induction t with
 |nil=>rfl
 |cons hh t ih=>simp[ih]
section
variable {u : ak} {s : aU} (F : Fit u) (hs : (1 ≤ s.back ∧ s.back ≤ 20) ∧ 0 ≤ s.high ∧ s.high ≤ 60)
include F hs
theorem L6 {P Q:List bO}(t:fq P Q):∀(i:Nat) (b a:au),(∀x,x∈P->eo u x.place=some true)->(i=0/\P≠[]\/0<b.den/\0<a.den/\bB a b=false)->
  bB (foldI (gM u s) i Q a) (foldI (gM u s) i P b)=false:=by
 induction t with
 |nil=>
  intro i b a _ h
  rcases h with ⟨_,h⟩|h
  .exact absurd rfl h
  .exact h.2.2
 | @cons p h h' P Q hh t ih=>
  intro i b a e hb
  have d:=e ⟨p,h⟩ (by simp)
  have d1:=CB F hs (h:=h) d
  have d2:=CB F hs (h:=h') d
  have m:=I6 F hs d hh
  unfold foldI
  refine ih (i+1) _ _ (fun x f=>e x (by simp[f])) (.inr ?_)
  unfold gM
  by_cases c:i=0
  .rw[if_pos c,if_pos c];exact ⟨d1,d2,m⟩
  .rw[if_neg c,if_neg c]
   obtain ⟨e1,e2,g⟩:=hb.resolve_left fun y=>c y.1
   exact ⟨rf e1 d1,rf e2 d2,L5 e1 d1 e2 d2 g m⟩
theorem L7 {P Q:List bO}(t:fq P Q)(g:∀x,x∈P->eo u x.place=some true)(G:Fit (wp u P))(b:Fit (wp u Q))(h:cQ (wp u P) s=false):cQ (wp u Q) s=false:=by
 rw[uy G hs] at h;rw[uy b hs];have d:=t.len;have i:bB (gW (wp u Q) s) (gW (wp u P) s)=false:=by
  by_cases c:P=[]
  .subst c;have:Q=[]:=List.length_eq_zero_iff.1 d.symm;subst this;exact lH _
  .have f:Q≠[]:=fun e=>c (List.length_eq_zero_iff.1 (by rw[d,e];rfl));have l:0<P.length:=List.length_pos_iff.2 c;have p2:0<Q.length:=List.length_pos_iff.2 f;unfold gW;rw[decide_eq_true (show (0:Int)<((wp u Q).props.length:Int) by show (0:Int)<(Q.length:Int);omega),decide_eq_true (show (0:Int)<((wp u P).props.length:Int) by show (0:Int)<(P.length:Int);omega)];have k:bB (lJ (wp u Q) s) (lJ (wp u P) s)=false:=by
    unfold lJ;rw[yg,yg];exact L6 F hs t 0 _ _ g (.inl ⟨rfl,c⟩)
   exact IZ (a:=oP u s) (ye F hs).den.1 (q8 G hs c).den.1 (q8 b hs f).den.1 k
 have j:0<u.bf.den:=by have:=F.den;omega
 exact oO j (Ee G hs).1.den.1 (Ee b hs).1.den.1 h (I1 G b hs rfl i)
end
section
variable {u : ak} (F : Fit u) (h : e9 u = some 0) {i : Nat} {e : b9} (he : u.aG[i]? = some e)
include F h he
theorem L8:fc u [eV (i:Int)]=some (u,0):=by
 have hi:i<u.aG.length:=(List.getElem?_eq_some_iff.1 he).1;rw[B5 h (Ji u i),(Jj F).2 ⟨by omega,by omega⟩];rfl
theorem L9:mO u (i:Int)=some (if (b6 u).isEmpty then ([],9) else (dg u i e,0)):=by
 unfold mO;rw[yp F (L8 F h he)];cases hs:(b6 u).isEmpty with
 |true=>rfl
 |false=>
  simp only[ag,Bool.false_eq_true,if_false,bne_self_eq_false,cond_false];rw[C7 F (by intro c;rw[c] at hs;cases hs) he]
omit h in
theorem zl {n:Int}(a:n∈dg u i e):(1<=e.back/\e.back<=20)/\0<=n/\n<=60:=by
 obtain ⟨c1,c2,c3,c4,b⟩:=F.aY _ _ he;have:=uw.1 (List.mem_filter.1 a).1;exact ⟨c1,by omega,by omega⟩
end
abbrev Bd (s:aU):Prop:=(1<=s.back/\s.back<=20)/\0<=s.high/\s.high<=60
section
variable {u : ak} (F : Fit u)
include F
omit F in
theorem uZ {i:Nat}{e:b9}(he:u.aG[i]?=some e)(n:Int):eX u i n=⟨e.back,n⟩:=by unfold eX;rw[he];rfl
def pH (u:ak)(k:Nat)(i:Nat)(m:Int):Prop:=i<k/\∃e,u.aG[i]?=some e/\m∈dg u i e
omit F in
theorem zm {α:Type}{l:List α}{j:Nat}{x y:α}(h:l[j]?=some x):y∈l.take (j+1)↔y∈l.take j\/y=x:=by
 rw[List.take_add_one,h];simp
end
theorem Ma (l:List aU)(x:aU):qA l x=some (l.any fun y=>x.back==y.back&&x.high==y.high):=by
 unfold qA s5
 rw[rq (t:=fun i y=>if (x.back==y.back&&x.high==y.high) then some (i:Int) else none) l 0 0 fun j y s c=>by
  unfold s4
  cases (x.back==y.back&&x.high==y.high)<;>rfl]
 obtain ⟨r,a,b⟩:=uu (g:=fun y=>x.back==y.back&&x.high==y.high) l 0;rw[a,<-b];cases r with
 |none=>rfl
 |some n=>simp[ag,ay,kJ]
theorem Mb (l:List aU)(x:aU):(l.any fun y=>x.back==y.back&&x.high==y.high)=true↔x∈l:=by
 rw[List.any_eq_true];constructor
 .rintro ⟨y,a,e⟩;simp only[Bool.and_eq_true,beq_iff_eq] at e;obtain ⟨e1,e2⟩:=e;cases x;cases y;simp only at e1 e2;subst e1;subst e2;exact a
 .exact fun h=>⟨x,h,by simp⟩
def Sg (u:ak)(D:Nat->Int->Prop)(m:Nat)(l:List aU):Prop:=l.length<=m/\∀s,s∈l↔∃i n,D i n/\s=eX u i n
section
variable {u : ak} (F : Fit u) (aD : b6 u ≠ [])
theorem Ef {D E:Nat->Int->Prop}{m k:Nat}{l:List aU}(h:∀i m,D i m↔E i m)(a:m<=k)(W:Sg u D m l):Sg u E k l:=by
 have:D=E:=by funext i m;exact propext (h i m)
 rw[<-this];exact ⟨Nat.le_trans W.1 a,W.2⟩
include F aD
theorem zn {i:Nat}{e:b9}(he:u.aG[i]?=some e):1<=(dg u i e).length/\(dg u i e).length<=3:=by
 obtain ⟨c,T,d,a,b⟩:=yz F aD he;rw[b,List.length_map];exact C5 a
theorem Mc {k:Nat}{e:b9}(he:u.aG[k]?=some e){l:List aU}(W:Sg u (pH u k) (3*k) l):
  ∃q,bD (lD ⟨u,(b6 u).map cR⟩ k) 0 (dg u k e) l=some (.nx q)/\Sg u (pH u (k+1)) (3*(k+1)) q:=by
 have w:=(zn F aD he).2
 have x:k<u.aG.length:=(List.getElem?_eq_some_iff.1 he).1
 have d:=F.aG
 have key:=jq (f:=lD ⟨u,(b6 u).map cR⟩ k) (ρ:=List aU) (g:=fun _ n (l:List aU)=>cond (!(l.any fun y=>e.back==y.back&&n==y.high)) (l++[⟨e.back,n⟩]) l)
  (I:=fun j l=>j<=3/\Sg u (fun i m=>pH u k i m\/(i=k/\m∈(dg u k e).take j)) (3*k+j) l) (dg u k e) 0 l
  ⟨by omega,Ef (fun i m=>by simp) (by omega) W⟩
  (fun j n l b o=>by
   have z:j<(dg u k e).length:=(List.getElem?_eq_some_iff.1 b).1
   have r:=Mb l ⟨e.back,n⟩
   have t:=Ma l ⟨e.back,n⟩
   have p:=o.2.1
   rw[Nat.zero_add] at o p ⊢
   refine ⟨?_,by omega,?_,fun s=>?_⟩
   .unfold lD iI
    simp only[dK he,ag,t]
    cases (l.any fun y=>e.back==y.back&&n==y.high) with
    |true=>rfl
    |false=>
     simp only[Bool.not_false,cond_true]
     unfold cL
     rw[if_pos (by simp;omega)]
   .cases (l.any fun y=>e.back==y.back&&n==y.high)<;>simp<;>omega
   .have key:s∈(cond (!(l.any fun y=>e.back==y.back&&n==y.high)) (l++[⟨e.back,n⟩]) l)↔s∈l\/s=⟨e.back,n⟩:=by
     cases c:(l.any fun y=>e.back==y.back&&n==y.high) with
     |true=>
      simp only[Bool.not_true,cond_false]
      have:=r.1 c
      constructor
      .exact fun h=>.inl h
      .rintro (h|rfl)
       .exact h
       .exact this
     |false=>simp
    rw[key,o.2.2 s]
    constructor
    .rintro (⟨i,m,h,rfl⟩|rfl)
     .refine ⟨i,m,?_,rfl⟩
      rcases h with h|⟨h,h'⟩
      .exact .inl h
      .exact .inr ⟨h,(zm b).2 (.inl h')⟩
     .exact ⟨k,n,.inr ⟨rfl,(zm b).2 (.inr rfl)⟩,(uZ he n).symm⟩
    .rintro ⟨i,m,h,rfl⟩
     rcases h with h|⟨rfl,h'⟩
     .exact .inl ⟨i,m,.inl h,rfl⟩
     .rcases (zm b).1 h' with h'|rfl
      .exact .inl ⟨i,m,.inr ⟨rfl,h'⟩,rfl⟩
      .exact .inr (uZ he m))
 refine ⟨_,key.1,Ef (fun i m=>?_) (by omega) key.2.2⟩
 rw[Nat.zero_add,List.take_length]
 unfold pH
 constructor
 .rintro (⟨p,a⟩|⟨rfl,h⟩)
  .exact ⟨by omega,a⟩
  .exact ⟨by omega,e,he,h⟩
 .rintro ⟨p,v,a,d⟩
  by_cases c:i=k
  .subst c
   rw[he] at a;cases a
   exact .inr ⟨rfl,d⟩
  .exact .inl ⟨by omega,v,a,d⟩
theorem Md:∃l,oz ⟨u,(b6 u).map cR⟩=some l/\l≠[]/\l.length<=9/\∀s,s∈l↔∃i e n,u.aG[i]?=some e/\n∈dg u i e/\s=⟨e.back,n⟩:=by
 have o:=F.aG;have key:=jq (f:=qM ⟨u,(b6 u).map cR⟩) (ρ:=List aU)
  (g:=fun i e l=>match bD (lD ⟨u,(b6 u).map cR⟩ i) 0 (dg u i e) l with|some (.nx s)=>s|_=>l)
  (I:=fun i l=>Sg u (pH u i) (3*i) l) u.aG 0 [] ⟨by simp,fun s=>⟨fun h=>by simp at h,fun ⟨i,n,h,_⟩=>absurd h.1 (by omega)⟩⟩
  (fun j e l he b=>by
   rw[Nat.zero_add] at b ⊢;obtain ⟨s1,k1,d⟩:=Mc F aD he b;simp only[k1];refine ⟨?_,d⟩;unfold qM
   simp only[C7 F aD he,ag,k1,ay])
 obtain ⟨k1,d,m⟩:=key;have hm:∀s,s∈(foldI (fun i e l=>match bD (lD ⟨u,(b6 u).map cR⟩ i) 0 (dg u i e) l with|some (.nx s)=>s|_=>l) 0 u.aG [])↔∃i e n,u.aG[i]?=some e/\n∈dg u i e/\s=⟨e.back,n⟩:=fun s=>by
  rw[m s];unfold pH;constructor
  .rintro ⟨i,n,⟨_,e,he,a⟩,rfl⟩;exact ⟨i,e,n,he,a,uZ he n⟩
  .rintro ⟨i,e,n,he,a,rfl⟩;exact ⟨i,n,⟨by have:=(List.getElem?_eq_some_iff.1 he).1;omega,e,he,a⟩,(uZ he n).symm⟩
 refine ⟨_,?_,?_,by omega,hm⟩
 .unfold oz;simp only[k1,ag,ay]
 .have k:u.aG[0]?=some (u.aG[0]'(by omega)):=List.getElem?_eq_getElem _;obtain ⟨f1,-⟩:=zn F aD k;obtain ⟨n,a⟩:=List.exists_mem_of_length_pos (l:=dg u 0 (u.aG[0]'(by omega))) (by omega);intro c;have:=(hm ⟨_,n⟩).2 ⟨0,_,n,k,a,rfl⟩;rw[c] at this;cases this
end
def dx (u o:ak):Bool:=(List.range u.aG.length).all fun i=>match u.aG[i]? with
 |some e=>(dg u i e).all fun n=>!cQ o ⟨e.back,n⟩
 |none=>true
theorem rN {u o:ak}:dx u o=true↔∀i e n,u.aG[i]?=some e->n∈dg u i e->cQ o ⟨e.back,n⟩=false:=by
 unfold dx;rw[List.all_eq_true];constructor
 .intro a i e n he b;have:=a i (by rw[List.mem_range];exact (List.getElem?_eq_some_iff.1 he).1);rw[he] at this;have:=List.all_eq_true.1 this n b;simpa using this
 .intro a i hi;have hi:i<u.aG.length:=by simpa using hi
  have he:u.aG[i]?=some u.aG[i]:=List.getElem?_eq_getElem hi;rw[he];refine List.all_eq_true.2 fun n b=>?_;simpa using a i _ n he b
def pr (u:ak)(h:Int)(P:List Int):ak:=wp u (u.props++P.map fun p=>⟨p,h⟩)
def eF (u:ak):Int:=((u.an[0]?).getD (⟨0,0⟩:bN)).aH
def ee (u:ak):Int:=((u.an[u.an.length - 1]?).getD (⟨0,0⟩:bN)).aH
section
variable {u : ak} (F : Fit u)
include F
theorem lV:∃a z,u.an[0]?=some a/\u.an[u.an.length - 1]?=some z/\eF u=a.aH/\ee u=z.aH/\0<=a.aH/\a.aH<z.aH/\z.aH<=59:=by
 have e:=F.an;have f:=F.bH;have b:u.an[0]?=some (u.an[0]'(by omega)):=List.getElem?_eq_getElem _;have c:u.an[u.an.length - 1]?=some (u.an[u.an.length - 1]'(by omega)):=List.getElem?_eq_getElem _;have g:=F.gz _ _ b;have h:=F.gz _ _ c;have d:=yb F (u.an.length - 2) 0 _ _ b (by rw[<-c];congr 1;omega);exact ⟨_,_,b,c,by unfold eF;rw[b];rfl,by unfold ee;rw[c];rfl,by omega,d,by omega⟩
theorem zo (p:Int):eo u p=some (bK p (eF u) (ee u)):=by
 obtain ⟨a,z,d,e,e1,e2,-⟩:=lV F;obtain ⟨f,g,b,c,k1,h⟩:=q5 u F p;rw[d] at b;cases b;rw[e] at c;cases c;rw[k1,e1,e2]
theorem Eg {p:Int}(h:eF u<=p/\p<=ee u):eo u p=some true:=by
 rw[zo F,m7 h.1 h.2]
theorem u5 {h:Int}{P:List Int}(hh:1<=h/\h<=20)(a:∀p,p∈P->eF u<=p/\p<=ee u)(d:u.props.length+P.length<=3):Fit (pr u h P):=by
 refine I4 F (by simp;omega) fun x b=>?_;rcases List.mem_append.1 b with m|m
 .obtain ⟨i,hi⟩:=List.mem_iff_getElem?.1 m;exact F.prop i x hi
 .rw[List.mem_map] at m;obtain ⟨p,c,rfl⟩:=m;exact ⟨Eg F (a p c),hh⟩
theorem Me {h:Int}{P:List Int}(a:∀p,p∈P->eF u<=p/\p<=ee u):∀x,x∈u.props++P.map (fun p=>(⟨p,h⟩:bO))->eo u x.place=some true:=fun x b=>by
 rcases List.mem_append.1 b with m|m
 .obtain ⟨i,hi⟩:=List.mem_iff_getElem?.1 m
  exact (F.prop i x hi).1
 .rw[List.mem_map] at m
  obtain ⟨p,c,rfl⟩:=m
  exact Eg F (a p c)
theorem Mf {h h':Int}{P:List Int}(d:1<=h)(f:h<=h')(g:h'<=20)(a:∀p,p∈P->eF u<=p/\p<=ee u)(b:u.props.length+P.length<=3)(hd:dx u (pr u h P)=true):dx u (pr u h' P)=true:=by
 rw[rN] at hd ⊢;intro i e n he c;exact L7 F (zl F he c) ((fq.refl _).app (fq.places f P)) (Me F a) (u5 F ⟨d,by omega⟩ a b) (u5 F ⟨by omega,g⟩ a b) (hd i e n he c)
end
theorem Eh {α ρ:Type}{g:α->Bool}{r:ρ}:∀(l:List α) (i:Nat),fl (fun _ x=>if g x then some r else none) i l=if l.any g then some r else none
 |[],_=>rfl
 |x::l,i=>by
  unfold fl
  cases h:g x with
  |true=>simp[h]
  |false=>
   simp only[h,Bool.false_eq_true,if_false,List.any_cons,Bool.false_or]
   exact Eh l (i+1)
theorem Mg {n m:Nat}(hm:0<m):m6 n m=2↔n=0:=by
 unfold m6;by_cases c:n=m
 .rw[if_pos c];constructor
  .intro h;exact absurd h (by decide)
  .intro h;omega
 .rw[if_neg c];by_cases d:n=0
  .simp[d]
  .rw[if_neg d];constructor
   .intro h;exact absurd h (by decide)
   .intro h;exact absurd h d
theorem Mh {n m:Nat}:m6 n m=1↔n=m:=by
 unfold m6;by_cases c:n=m
 .simp[c]
 .rw[if_neg c];by_cases d:n=0
  .rw[if_pos d];constructor
   .intro h;exact absurd h (by decide)
   .intro h;exact absurd h c
  .rw[if_neg d];constructor
   .intro h;exact absurd h (by decide)
   .intro h;exact absurd h c
theorem Ei (P:Nat->Int->Prop):∀(S:List (List Int)) (k:Nat),(∀i s,S[i]?=some s->∃n,n∈s/\P (k+i) n)->∃h,h∈pL S/\∀i n,h[i]?=some n->P (k+i) n
 |[],k,_=>⟨[],by simp[pL],fun i n h=>by simp at h⟩
 |s::r,k,a=>by
  obtain ⟨n,b,c⟩:=a 0 s rfl
  obtain ⟨h,hm,hh⟩:=Ei P r (k+1) fun i t ht=>by
   have:=a (i+1) t (by simpa using ht)
   rwa [show k+1+i=k+(i+1) by omega]
  refine ⟨n::h,?_,fun i m hi=>?_⟩
  .show n::h∈s.flatMap fun n=>(pL r).map (n::·)
   exact List.mem_flatMap.2 ⟨n,b,List.mem_map.2 ⟨h,hm,rfl⟩⟩
  .cases i with
   |zero=>
    have:n=m:=by simpa using hi
    rw[<-this];exact c
   |succ i=>
    have:=hh i m (by simpa using hi)
    rwa [show k+1+i=k+(i+1) by omega] at this
section
variable {u : ak} (F : Fit u) (h : e9 u = some 0) (aD : b6 u ≠ [])
include F h aD
omit F h in
theorem Ej:(b6 u).isEmpty=false:=by
 cases e:b6 u with
 |nil=>exact absurd e aD
 |cons a l=>rfl
theorem Mi:∃w,kE u=some (w,0)/\(w=1↔∀i e n,u.aG[i]?=some e->n∈dg u i e->cQ u (eX u i n)=false)/\(w=2↔∃i e,u.aG[i]?=some e/\∀n,n∈dg u i e->cQ u (eX u i n)=true):=by
 have g:=CR F h;rw[Ej aD] at g;refine ⟨_,g,?_,?_⟩
 .rw[Mh,List.countP_eq_length];constructor
  .intro a i e n he f;obtain ⟨l,b,hg⟩:=(yA F aD he).1 f;have:=a l b;unfold lK at this;rw[List.all_eq_true] at this;have:=this i (by rw[List.mem_range];exact (List.getElem?_eq_some_iff.1 he).1);rw[hg] at this;simpa using this
  .intro a l b;unfold lK;rw[List.all_eq_true];intro i hi;have hi:i<u.aG.length:=by simpa using hi
   have he:u.aG[i]?=some u.aG[i]:=List.getElem?_eq_getElem hi;obtain ⟨m,hm,-,-⟩:=(rz b).1.oR i _ he;rw[hm];have:=a i _ m he ((yA F aD he).2 ⟨l,b,hm⟩);simp[this]
 .rw[Mg (List.length_pos_iff.2 aD),List.countP_eq_zero];constructor
  .intro a;refine Classical.byContradiction fun c=>?_;obtain ⟨l,b,j⟩:=Ei (fun i n=>cQ u (eX u i n)=false) (kM u) 0 fun i s hs=>by
    have hi:i<u.aG.length:=by rw[<-uA u];exact (List.getElem?_eq_some_iff.1 hs).1
    have he:u.aG[i]?=some u.aG[i]:=List.getElem?_eq_getElem hi;rw[uz he] at hs;cases hs;refine Classical.byContradiction fun d=>c ⟨i,_,he,fun n f=>?_⟩;cases hb:cQ u (eX u i n) with
    |true=>rfl
    |false=>exact absurd ⟨n,f,by rw[Nat.zero_add];exact hb⟩ d
   rw[<-yx F] at b;refine a l b ?_;unfold lK;rw[List.all_eq_true];intro i hi;have hi:i<u.aG.length:=by simpa using hi
   have he:u.aG[i]?=some u.aG[i]:=List.getElem?_eq_getElem hi;obtain ⟨m,hm,-,-⟩:=(rz b).1.oR i _ he;have:=j i m hm;rw[Nat.zero_add] at this;rw[hm];simp[this]
  .rintro ⟨i,e,he,a⟩ l b hg;unfold lK at hg;rw[List.all_eq_true] at hg;have:=hg i (by rw[List.mem_range];exact (List.getElem?_eq_some_iff.1 he).1);obtain ⟨m,hm,-,-⟩:=(rz b).1.oR i _ he;rw[hm] at this;have k:=a m ((yA F aD he).2 ⟨l,b,hm⟩);simp[k] at this
end
theorem Mj {u:ak}(h:Int)(P:List Int)(b:u.props.length+P.length<=1000):oq u h P=some (pr u h P):=by
 unfold oq qF;rw[if_pos (by omega)];have key:=jq (f:=qI h) (ρ:=ak) (g:=fun _ p (s:List bO)=>s++[(⟨p,h⟩:bO)]) (I:=fun j s=>s.length<=u.props.length+j) P 0 u.props (by omega)
  (fun j p s a c=>by
   have d:=(List.getElem?_eq_some_iff.1 a).1;refine ⟨?_,by simp only[List.length_append,List.length_singleton];omega⟩;unfold qI
   simp only[ag,fS (l:=s) (xs:=[(⟨p,h⟩:bO)]) (by simp only[List.length_singleton];omega)])
 have e:foldI (fun _ p (s:List bO)=>s++[(⟨p,h⟩:bO)]) 0 P u.props=u.props++P.map fun p=>⟨p,h⟩:=by
  rw[show (fun _ p (s:List bO)=>s++[(⟨p,h⟩:bO)])=(fun _ p (s:List bO)=>s++(fun p=>[(⟨p,h⟩:bO)]) p) from rfl,ry,yy]
 simp only[ag,key.1,ay,e];rfl
theorem Mk {u:ak}(h:Int)(P:List Int)(d:u.props.length+P.length<=1000):oG u P h=some (pr u h P):=by
 unfold oG
 obtain ⟨s,k1,b⟩:=rA (f:=oF P h) (ρ:=ak) (fun i (s:List bO)=>s=u.props++(P.take i).map fun p=>⟨p,h⟩) (fun s i=>(i,s)) P (by omega) (fun i x s a c=>by
  have e:=(List.getElem?_eq_some_iff.1 a).1;refine ⟨s++[⟨x,h⟩],?_,by rw[c,List.take_add_one,a];simp⟩;have hs:s.length<=u.props.length+i:=by rw[c];simp;omega
  unfold oF;rw[show decide ((((i:Int),s):Int×List bO).1<(P.length:Int))=true by simp;omega];simp only[cond_true,dK a,ag,fS (l:=s) (xs:=[(⟨x,h⟩:bO)]) (by simp only[List.length_singleton];omega)];rw[bU (n:=(i:Int)+1) (by omega)]
  rfl) (fun s=>by
  unfold oF
  simp) u.props (by simp)
 rw[List.take_length] at b;rw[fS (l:=([]:List bO)) (xs:=u.props) (by simp;omega),List.nil_append];simp only[ag,k1,ay,b];rfl
theorem Ml {o:ak}(L:List aU)(h:∀s,s∈L->ga o s=some (cQ o s)):og o L=some (!L.any (cQ o)):=by
 unfold og tc s9
 rw[rq (t:=fun i x=>if cQ o x then some (i:Int) else none) L 0 0 fun j x s a=>by
  unfold s8;rw[h x (List.mem_of_getElem? a)]
  cases cQ o x<;>rfl]
 obtain ⟨r,b,c⟩:=uu (g:=cQ o) L 0;rw[b,<-c];cases r<;>rfl
def lW (u:ak)(P:List Int):Prop:=(∀p,p∈P->eF u<=p/\p<=ee u)/\u.props.length+P.length<=3
theorem Ek {f:List Int->Option Bool}{g:List Int->Bool}:∀(l:List (List Int)),(∀x,x∈l->f x=some (g x))->nq f l=some (l.map g)
 |[],_=>rfl
 |x::l,h=>by
  unfold nq
  rw[h x (by simp),Ek l fun y a=>h y (by simp[a])]
  rfl
section
variable {u : ak} (F : Fit u) (aD : b6 u ≠ [])
include F aD
theorem Mm {h:Int}(hh:1<=h/\h<=20){L:List aU}(c:∀s,s∈L↔∃i e n,u.aG[i]?=some e/\n∈dg u i e/\s=⟨e.back,n⟩){P:List Int}(d:lW u P)(all:List aZ):
  uX ⟨u,all⟩ h L P=some (dx u (pr u h P)):=by
 have G:=u5 F hh d.1 d.2
 unfold uX
 simp only[Mj (u:=u) h P (by have:=d.2;omega),ag]
 rw[Ml L fun s hs=>by
  obtain ⟨i,e,n,he,b,rfl⟩:=(c s).1 hs
  exact (ru G (zl F he b)).1]
 refine congrArg some ?_
 rw[Bool.eq_iff_iff,rN,Bool.not_eq_true',List.any_eq_false]
 constructor
 .intro a i e n he b
  have:=a _ ((c _).2 ⟨i,e,n,he,b,rfl⟩)
  simpa using this
 .intro a s hs
  obtain ⟨i,e,n,he,b,rfl⟩:=(c s).1 hs
  simp[a i e n he b]
theorem Mn {h:Int}(hh:1<=h/\h<=20){S:List (List Int)}(b:∀P,P∈S->lW u P)(n:S.length<=1000000):
  nt ⟨u,(b6 u).map cR⟩ h S=some (S.filter fun P=>dx u (pr u h P)):=by
 obtain ⟨L,k1,o,p,c⟩:=Md F aD
 have d:=Ek (f:=uX ⟨u,(b6 u).map cR⟩ h L) (g:=fun P=>dx u (pr u h P)) S fun P k=>Mm F aD hh c (b P k) _
 have key:=jq (f:=rK (S.map fun P=>dx u (pr u h P))) (ρ:=List (List Int)) (g:=fun _ P s=>if dx u (pr u h P) then s++[P] else s) (I:=fun j s=>s.length<=j) S 0 [] (by simp)
  (fun j P s a m=>by
   have q:=(List.getElem?_eq_some_iff.1 a).1
   have hg:(S.map fun P=>dx u (pr u h P))[0+j]?=some (dx u (pr u h P)):=by rw[Nat.zero_add,List.getElem?_map,a];rfl
   rw[Nat.zero_add] at hg m ⊢
   unfold rK
   simp only[dK hg,ag]
   cases dx u (pr u h P) with
   |false=>exact ⟨rfl,by simp only[Bool.false_eq_true,if_false];omega⟩
   |true=>exact ⟨by simp only[cond_true,fS (l:=s) (xs:=[P]) (by simp only[List.length_singleton];omega),if_true],by simp only[if_true,List.length_append,List.length_singleton];omega⟩)
 have e:∀(l:List (List Int)) (i:Nat) (s:List (List Int)),foldI (fun _ P s=>if dx u (pr u h P) then s++[P] else s) i l s=s++l.filter fun P=>dx u (pr u h P):=by
  intro l
  induction l with
  |nil=>intro i s;simp[foldI]
  |cons P l ih=>
   intro i s
   unfold foldI
   rw[ih]
   cases hb:dx u (pr u h P)<;>simp[List.filter,hb]
 unfold nt
 rw[decide_eq_true (show S.length<1048576 by omega)]
 simp only[cond_true,k1,ag,d,key.1,ay,e,List.nil_append]
end
section
variable {u : ak} (F : Fit u)
include F
def fT (u:ak)(P:List Int):Int:=match P.getLast? with
 |some p=>p+1
 |none=>eF u
def eZ (u:ak)(P:List Int):List (List Int):=(cW ⟨fT u P,ee u⟩).map fun p=>P++[p]
theorem zq (f:List Int->List (List Int)×Int->Option (Fl (List (List Int)×Int) (List (List Int))))
  (b:∀P st,f P st=ag (eo u st.2) fun x=>cond x (ag (om P) fun y=>ag (cL y ([st.2])) fun z=>ag (cL st.1 ([z])) fun w=>some (.nx (w,IntKind.i64.wrap (st.2+1)))) (some (.bk (st.1,st.2))))
  {P:List Int} (e:P.length<=1000):∀(k n:Nat) (p:Int) (s:List (List Int)),eF u<=p->(ee u+1 - p).toNat=k->k<n->s.length+k<=1000000->
  ∃q,aQ (f P) n (s,p)=some (.nx (s++(cW ⟨p,ee u⟩).map (fun p=>P++[p]),q))
 |0,n+1,p,s,d,g,_,_=>by
  obtain ⟨a,z,-,-,e1,e2,h,b2,b3⟩:=lV F
  refine ⟨p,?_⟩
  unfold aQ
  rw[b,zo F,show bK p (eF u) (ee u)=false by cases c:bK p (eF u) (ee u) with|false=>rfl|true=>have:=dX.1 c;omega,yo (by omega)]
  simp[ag]
 |k+1,n+1,p,s,d,g,i,hs=>by
  obtain ⟨a,z,-,-,e1,e2,h,b2,b3⟩:=lV F
  obtain ⟨q,ih⟩:=zq f b e k n (p+1) (s++[P++[p]]) (by omega) (by omega) (by omega) (by simp only[List.length_append,List.length_singleton];omega)
  refine ⟨q,?_⟩
  unfold aQ
  rw[b,zo F,m7 d (by omega)]
  unfold om
  simp only[ag,cond_true,if_pos (show P.length<=1000000 by omega),fS (l:=P) (xs:=[p]) (by simp only[List.length_singleton];omega),fS (l:=s) (xs:=[P++[p]]) (by simp only[List.length_singleton];omega)]
  rw[bU (n:=p+1) (by omega),ih,ym (show p<=ee u by omega)]
  simp
theorem Mo {S:List (List Int)}(j:∀P,P∈S->lW u P)(k:(S.flatMap (eZ u)).length<=1000000)(t:S.length<=1000000):mN u S=some (S.flatMap (eZ u)):=by
 obtain ⟨a,z,l,-,e1,e2,v,b2,b3⟩:=lV F;have key:∀(T:List (List Int)) (i:Nat) (s:List (List Int)),(∀P,P∈T->lW u P)->s.length+(T.flatMap (eZ u)).length<=1000000->bD (ot u) i T s=some (.nx (s++T.flatMap (eZ u))):=by
  intro T
  induction T with
  |nil=>intro i s _ _;simp[bD]
  |cons P T ih=>
   intro i s f hs;rw[List.flatMap_cons,List.length_append] at hs;have g:=f P (by simp);have hlen:(eZ u P).length=(ee u+1 - fT u P).toNat:=by unfold eZ;rw[List.length_map,oS];show (ee u - fT u P+1).toNat=_;congr 1;omega
   have one:ot u i P s=some (.nx (s++eZ u P)):=by
    unfold ot;simp only[show aT u.an 0=some a from dK l,ag];cases c:P with
    |nil=>
     obtain ⟨q,b⟩:=zq F (tu u) (fun _ _=>rfl) (P:=[]) (by simp) (ee u+1 - eF u).toNat fu (eF u) s (by omega) rfl (by unfold fu;omega) (by rw[hlen,c] at hs;have:fT u []=eF u:=rfl;rw[this] at hs;omega);rw[e1] at b;rw[show decide (0<((([]:List Int).length:Nat):Int))=false from rfl];simp only[cond_false,b,ay];rw[show eZ u []=(cW ⟨eF u,ee u⟩).map (fun p=>[]++[p]) from rfl,e1]
    |cons x r=>
     have d:P≠[]:=by rw[c];simp
     obtain ⟨p,e⟩:∃p,P.getLast?=some p:=by
      cases hh:P.getLast? with
      |none=>exact absurd (List.getLast?_eq_none_iff.1 hh) d
      |some p=>exact ⟨p,rfl⟩
     have hm:p∈P:=List.mem_of_getLast? e;have hb:=g.1 p hm;have h:fT u P=p+1:=by unfold fT;rw[e]
     have w:=g.2;have hi:aT P (IntKind.i64.wrap ((P.length:Int) - 1))=some p:=by
      have:0<P.length:=List.length_pos_iff.2 d;rw[bU (by omega)];have m:P[P.length - 1]?=some p:=by rw[<-List.getLast?_eq_getElem?];exact e
      have:=dK m
      rwa [show (((P.length - 1:Nat)):Int)=(P.length:Int) - 1 by omega] at this
     obtain ⟨q,b⟩:=zq F (tr u) (fun _ _=>rfl) (P:=P) (by omega) (ee u+1 - (p+1)).toNat fu (p+1) s (by omega) rfl (by unfold fu;omega) (by rw[hlen,h] at hs;omega);rw[<-c];rw[decide_eq_true (show (0:Int)<(P.length:Int) by have:0<P.length:=List.length_pos_iff.2 d;omega)];simp only[cond_true,hi];rw[bU (n:=p+1) (by omega)];simp only[b,ay];unfold eZ;rw[h]
   unfold bD;rw[one];simp only[ag];rw[ih (i+1) (s++eZ u P) (fun Q o=>f Q (by simp[o])) (by rw[List.length_append];omega),List.flatMap_cons,List.append_assoc]
 unfold mN;rw[key S 0 [] j (by simpa using k)];simp[ag,ay]
end
theorem Mq {u:ak}{k:Int}(a:1<=k/\k<=20):gu k u=some 0:=by
 unfold gu;rw[jR,eO,m7 a.1 a.2];rfl
theorem Mr {l:List Int}{n:Int}(d:l.length<=1000)(m:0<=n/\n<=1000)(hb:∀x,x∈l->0<=x/\x<n)(e:l.Pairwise (· <·)):mZ l n=some 0:=by
 unfold mZ
 have:=uq (t:=fun _ _=>(none:Option Int)) l d (f:=oJ l n) (fun i x s a=>by
  have b:=(List.getElem?_eq_some_iff.1 a).1;have g:=hb x (List.mem_of_getElem? a);unfold oJ;rw[show decide ((s,(i:Int)).2<(l.length:Int))=true by simp;omega];simp only[cond_true,dK a,ag,eO,bU (n:=n - 1) (by omega),m7 g.1 (show x<=n - 1 by omega),Bool.not_true,cond_false];rw[bU (n:=(i:Int)+1) (by omega)];by_cases c:i=0
  .subst c;rfl
  .obtain ⟨j,rfl⟩:∃j,i=j+1:=⟨i - 1,by omega⟩
   have h:l[j]?=some (l[j]'(by omega)):=List.getElem?_eq_getElem _;have o:l[j]'(by omega)<x:=by
    have k:l[j+1]'b=x:=by have:=List.getElem?_eq_getElem b;rw[a] at this;exact (Option.some.inj this).symm
    rw[<-k];exact List.pairwise_iff_getElem.1 e j (j+1) (by omega) b (by omega)
   rw[decide_eq_true (show (0:Int)<(((j+1:Nat)):Int) by omega),show IntKind.i64.wrap ((((j+1:Nat)):Int) - 1)=(j:Int) by rw[bU (by omega)];omega];simp only[cond_true,dK h,decide_eq_false (show ¬x<=l[j]'(by omega) by omega),cond_false]
   rfl) (fun s=>by
  unfold oJ
  simp) 0
 rw[this,Ed];rfl
theorem El {α ρ:Type}{t:Nat->α->Option ρ}{r:ρ}:∀(l:List α) (i:Nat),(∀j x,l[j]?=some x->t (i+j) x=none\/t (i+j) x=some r)->
  (fl t i l=none/\∀j x,l[j]?=some x->t (i+j) x=none)\/(fl t i l=some r/\∃j x,l[j]?=some x/\t (i+j) x=some r)
 |[],i,_=>.inl ⟨rfl,fun j x h=>by simp at h⟩
 |y::l,i,h=>by
  unfold fl
  have d:=h 0 y rfl
  rw[Nat.add_zero] at d
  rcases d with e|e
  .rw[e]
   simp only
   rcases El l (i+1) (fun j x c=>by have:=h (j+1) x (by simpa using c);rwa [show i+(j+1)=i+1+j by omega] at this) with ⟨a,b⟩|⟨a,j,x,c,b⟩
   .refine .inl ⟨a,fun j x c=>?_⟩
    cases j with
    |zero=>
     have:y=x:=by simpa using c
     rw[Nat.add_zero,<-this];exact e
    |succ j=>have:=b j x (by simpa using c);rwa [show i+1+j=i+(j+1) by omega] at this
   .exact .inr ⟨a,j+1,x,by simpa using c,by rwa [show i+1+j=i+(j+1) by omega] at b⟩
  .rw[e]
   exact .inr ⟨rfl,0,y,rfl,by rw[Nat.add_zero];exact e⟩
section
variable {u : ak} (F : Fit u) (h : e9 u = some 0) (aD : b6 u ≠ [])
include F h aD
theorem Em {k:Int}(l:1<=k/\k<=20){P:List Int}(g:lW u P):m0 u P k=some (dx u (pr u k P)):=by
 have G:=u5 F l g.1 g.2;have f:=I3 (u:=pr u k P) (show gV u=0 from I2 h) G;have q:=F.aG;have inner:∀(i:Nat) (e:b9) (d:Bool),u.aG[i]?=some e->aQ (oK u (pr u k P) (i:Int) (dg u i e,0)) fu (d,0)=some (kJ (if (dg u i e).any (fun n=>cQ (pr u k P) ⟨e.back,n⟩) then some false else none) (d,((dg u i e).length:Int))):=fun i e d he=>by
  have w:=(zn F aD he).2
  rw[uq (t:=fun _ n=>if cQ (pr u k P) ⟨e.back,n⟩ then some false else none) (dg u i e) (by omega) (fun j n s c=>by
   have m:=(List.getElem?_eq_some_iff.1 c).1;have hb:Bd ⟨e.back,n⟩:=zl F he (List.mem_of_getElem? c);have sv:=Jo G f hb;have o:cQ (pr u k P) ⟨e.back,n⟩=bB u.bf (gX (pr u k P) ⟨e.back,n⟩):=uy G hb;unfold oK;rw[show decide ((s,(j:Int)).2<(((dg u i e,(0:Int)):List Int×Int).1.length:Int))=true by simp;omega];simp only[cond_true,dK he,dK c,ag,show kG e.back n=some ⟨e.back,n⟩ from rfl,sv,bne_self_eq_false,cond_false];rw[show bB (pr u k P).bf (gX (pr u k P) ⟨e.back,n⟩)=cQ (pr u k P) ⟨e.back,n⟩ from o.symm,bU (n:=(j:Int)+1) (by omega)]
   cases cQ (pr u k P) ⟨e.back,n⟩<;>rfl) (fun s=>by
   unfold oK
   simp) d,Eh]
 unfold m0;rw[Mk (u:=u) k P (by have:=g.2;omega)];simp only[ag]
 rw[uq (t:=fun i e=>if (dg u i e).any (fun n=>cQ (pr u k P) ⟨e.back,n⟩) then some false else none) u.aG (by omega) (fun i e s he=>by
  have m:=(List.getElem?_eq_some_iff.1 he).1;have v:=L9 F h he;rw[Ej aD,if_neg (by decide)] at v;unfold qT;rw[show decide ((s,(i:Int)).2<(u.aG.length:Int))=true by simp;omega];simp only[cond_true,v,ag,bne_self_eq_false,cond_false,inner i e s he];rw[bU (n:=(i:Int)+1) (by omega)]
  cases (dg u i e).any (fun n=>cQ (pr u k P) ⟨e.back,n⟩)<;>rfl) (fun s=>by
  unfold qT
  simp) false]
 rcases El (t:=fun i e=>if (dg u i e).any (fun n=>cQ (pr u k P) ⟨e.back,n⟩) then some false else none) (r:=false) u.aG 0 (fun j x _=>by
  cases (dg u (0+j) x).any (fun n=>cQ (pr u k P) ⟨x.back,n⟩)<;>simp) with ⟨a,b⟩|⟨a,j,x,p,b⟩
 .rw[a];have:dx u (pr u k P)=true:=by
   rw[rN];intro i e n he c;have:=b i e he;rw[Nat.zero_add] at this;cases f:cQ (pr u k P) ⟨e.back,n⟩ with
   |false=>rfl
   |true=>rw[if_pos (List.any_eq_true.2 ⟨n,c,f⟩)] at this;cases this
  rw[this];rfl
 .rw[a];have:dx u (pr u k P)=false:=by
   cases hh:dx u (pr u k P) with
   |false=>rfl
   |true=>
    rw[rN] at hh;rw[Nat.zero_add] at b;cases f:(dg u j x).any (fun n=>cQ (pr u k P) ⟨x.back,n⟩) with
    |false=>rw[f] at b;cases b
    |true=>
     obtain ⟨n,c,hs⟩:=List.any_eq_true.1 f;rw[hh j x n p c] at hs;cases hs
  rw[this];rfl
end
theorem Ms (b:de):(cW b).Pairwise (· <·):=by
 unfold cW;rw[List.pairwise_map];refine List.Pairwise.imp ?_ List.pairwise_lt_range;intro x y h;omega
def pI (f:Nat->Nat):Nat->Nat
 |0=>0
 |m+1=>pI f m+f m
theorem Mt (f:Nat->Nat){m n:Nat}(h:m<=n):pI f m<=pI f n:=by
 induction h with
 |refl=>exact Nat.le_refl _
 |step _ ih=>exact Nat.le_trans ih (Nat.le_add_right _ _)
def gN:Nat->Nat->Nat
 |0=>fun _=>1
 |k+1=>pI (gN k)
theorem Mv (k:Nat){m n:Nat}(h:m<=n):gN k m<=gN k n:=by
 cases k with
 |zero=>exact Nat.le_refl _
 |succ k=>exact Mt _ h
theorem Mw:gN 4 60<=1000000:=by decide+kernel
theorem Mx:gN 3 60<=1000000:=by decide+kernel
def ek (u:ak):Nat->List (List Int)
 |0=>[[]]
 |n+1=>(ek u n).flatMap (eZ u)
def jA (u:ak)(P:List Int):Nat:=(ee u+1 - fT u P).toNat
theorem En (f:Nat->Nat)(hi:Int):∀(m:Nat) (a:Int),(hi+1 - a).toNat=m->((cW ⟨a,hi⟩).map fun p=>f (hi - p).toNat).sum=pI f m
 |0,a,h=>by rw[yo (by omega)];rfl
 |m+1,a,h=>by
  rw[ym (by omega),List.map_cons,List.sum_cons,En f hi m (a+1) (by omega),show (hi - a).toNat=m by omega]
  exact Nat.add_comm _ _
theorem u6 (u:ak)(P:List Int)(p:Int):fT u (P++[p])=p+1:=by
 unfold fT;rw[List.getLast?_append];rfl
def g5 (u:ak)(k:Nat)(S:List (List Int)):Nat:=(S.map fun P=>gN k (jA u P)).sum
theorem My (u:ak)(k:Nat)(P:List Int):g5 u k (eZ u P)=gN (k+1) (jA u P):=by
 unfold g5 eZ;rw[List.map_map,<-show pI (gN k) (jA u P)=gN (k+1) (jA u P) from rfl,<-En (gN k) (ee u) (jA u P) (fT u P) rfl];congr 1;refine List.map_congr_left fun p _=>?_;show gN k (jA u (P++[p]))=_;unfold jA;rw[u6];congr 2;omega
theorem Mz (u:ak)(k:Nat)(S T:List (List Int)):g5 u k (S++T)=g5 u k S+g5 u k T:=by
 unfold g5;rw[List.map_append,List.sum_append]
theorem Eo (u:ak)(k:Nat):∀S:List (List Int),g5 u k (S.flatMap (eZ u))=g5 u (k+1) S
 |[]=>rfl
 |P::S=>by
  rw[List.flatMap_cons,Mz,Eo u k S,My]
  unfold g5;rw[List.map_cons,List.sum_cons]
theorem Ep (u:ak):∀n k:Nat,g5 u k (ek u n)=gN (k+n) (jA u [])
 |0,k=>by unfold ek g5;simp
 |n+1,k=>by
  show g5 u k ((ek u n).flatMap (eZ u))=_
  rw[Eo,Ep u n (k+1),show k+1+n=k+(n+1) by omega]
theorem Er (u:ak):∀S:List (List Int),g5 u 0 S=S.length
 |[]=>rfl
 |P::S=>by
  have:=Er u S
  unfold g5 at this ⊢
  rw[List.map_cons,List.sum_cons,this,List.length_cons]
  exact Nat.add_comm _ _
theorem MA (u:ak)(n:Nat):(ek u n).length=gN n (jA u []):=by
 rw[<-Er u,Ep,Nat.zero_add]
theorem zu {u:ak}(F:Fit u){n:Nat}(h:n<=4):(ek u n).length<=1000000:=by
 obtain ⟨a,z,-,-,e1,e2,b,b2,b3⟩:=lV F;rw[MA];have:jA u []<=60:=by unfold jA;show (ee u+1 - eF u).toNat<=60;omega
 refine Nat.le_trans (Mv n this) ?_
 match n,h with
 |0,_=>decide+kernel
 |1,_=>decide+kernel
 |2,_=>decide+kernel
 |3,_=>exact Mx
 |4,_=>exact Mw
theorem zv {P:List Int}{y:Int}(h:P.getLast?=some y):∃Q,P=Q++[y]:=by
 obtain ⟨Q,a⟩:=List.getLast?_eq_some_iff.1 h;exact ⟨Q,a⟩
theorem MB {u:ak}{P:List Int}(c:P.Pairwise (· <·)){x:Int}(b:x∈P):x<fT u P:=by
 cases h:P.getLast? with
 |none=>rw[List.getLast?_eq_none_iff.1 h] at b;cases b
 |some y=>
  obtain ⟨Q,rfl⟩:=zv h;rw[u6];rw[List.pairwise_append] at c;rcases List.mem_append.1 b with a|a
  .have:=c.2.2 x a y (by simp);omega
  .have:x=y:=by simpa using a
   omega
theorem MC {u:ak}{P:List Int}(a:∀p,p∈P->eF u<=p):eF u<=fT u P:=by
 cases h:P.getLast? with
 |none=>unfold fT;rw[h];exact Int.le_refl _
 |some y=>
  obtain ⟨Q,rfl⟩:=zv h;rw[u6];have:=a y (by simp);omega
theorem MD {u:ak}{P:List Int}{p:Int}(a:∀x,x∈P->x<p)(b:eF u<=p):fT u P<=p:=by
 cases h:P.getLast? with
 |none=>unfold fT;rw[h];exact b
 |some y=>
  obtain ⟨Q,rfl⟩:=zv h;rw[u6];have:=a y (by simp);omega
theorem jZ {u:ak}:∀(n:Nat) (P:List Int),P∈ek u n↔P.length=n/\P.Pairwise (· <·)/\∀p,p∈P->eF u<=p/\p<=ee u
 |0,P=>by
  show P∈[[]]↔_
  rw[List.mem_singleton]
  refine ⟨fun h=>by subst h;exact ⟨rfl,.nil,fun p h=>by cases h⟩,fun h=>List.length_eq_zero_iff.1 h.1⟩
 |n+1,P=>by
  show P∈(ek u n).flatMap (eZ u)↔_
  rw[List.mem_flatMap]
  constructor
  .rintro ⟨Q,f,d⟩
   obtain ⟨a1,a2,a3⟩:=(jZ n Q).1 f
   unfold eZ at d
   obtain ⟨p,c,rfl⟩:=List.mem_map.1 d
   obtain ⟨e,b2⟩:=uw.1 c
   refine ⟨by simp[a1],?_,fun x b=>?_⟩
   .rw[List.pairwise_append]
    refine ⟨a2,List.pairwise_singleton _ _,fun x b y g=>?_⟩
    have:y=p:=by simpa using g
    have:=MB (u:=u) a2 b
    show x<y
    have i:fT u Q<=p:=e
    omega
   .rcases List.mem_append.1 b with a|a
    .exact a3 x a
    .have:x=p:=by simpa using a
     have:=MC (u:=u) (P:=Q) fun p c=>(a3 p c).1
     have i:fT u Q<=p:=e
     have j:p<=ee u:=b2
     omega
  .rintro ⟨a1,a2,a3⟩
   have aD:P≠[]:=by intro h;subst h;cases a1
   obtain ⟨Q,p,rfl⟩:∃Q p,P=Q++[p]:=⟨P.dropLast,P.getLast aD,(List.dropLast_concat_getLast aD).symm⟩
   rw[List.pairwise_append] at a2
   have c:=a3 p (by simp)
   refine ⟨Q,(jZ n Q).2 ⟨by simpa using a1,a2.1,fun x b=>a3 x (by simp[b])⟩,?_⟩
   unfold eZ
   exact List.mem_map.2 ⟨p,uw.2 ⟨MD (fun x b=>a2.2.2 x b p (by simp)) c.1,c.2⟩,rfl⟩
def lexB:List Int->List Int->Bool
 |[],y=>decide (0<y.length)
 |_::_,[]=>false
 |x::r,y::s=>if x=y then lexB r s else decide (x<y)
theorem Es (x y:List Int):∀P:List Int,lexB (P++x) (P++y)=lexB x y
 |[]=>rfl
 |a::P=>by
  show (if a=a then lexB (P++x) (P++y) else _)=_
  rw[if_pos rfl];exact Es x y P
theorem Et (x y:List Int):∀P Q:List Int,P.length=Q.length->lexB P Q=true->lexB (P++x) (Q++y)=true
 |[],[],_,h=>by cases h
 |a::P,b::Q,c,h=>by
  show (if a=b then lexB (P++x) (Q++y) else decide (a<b))=true
  have h':(if a=b then lexB P Q else decide (a<b))=true:=h
  split at h'
  .rename_i e;rw[if_pos e];exact Et x y P Q (by simpa using c) h'
  .rename_i e;rw[if_neg e];exact h'
theorem Eu:∀P Q:List Int,lexB P Q=true->lexB Q P=false
 |[],[],h=>by cases h
 |[],b::Q,_=>rfl
 |a::P,[],h=>by cases h
 |a::P,b::Q,h=>by
  have h':(if a=b then lexB P Q else decide (a<b))=true:=h
  show (if b=a then lexB Q P else decide (b<a))=false
  split at h'
  .rename_i e;rw[if_pos e.symm];exact Eu P Q h'
  .rename_i e;rw[if_neg (fun c=>e c.symm)]
   have:=of_decide_eq_true h'
   exact decide_eq_false (by omega)
theorem Ev:∀P:List Int,lexB P P=false
 |[]=>rfl
 |a::P=>by
  show (if a=a then lexB P P else _)=false
  rw[if_pos rfl];exact Ev P
theorem Ew {u:ak}:∀n:Nat,(ek u n).Pairwise fun P Q=>lexB P Q=true
 |0=>List.pairwise_singleton _ _
 |n+1=>by
  show ((ek u n).flatMap (eZ u)).Pairwise _
  rw[List.pairwise_flatMap]
  refine ⟨fun P _=>?_,?_⟩
  .unfold eZ
   rw[List.pairwise_map]
   refine (Ms _).imp fun {p q} h=>?_
   rw[Es]
   show (if p=q then lexB [] [] else decide (p<q))=true
   rw[if_neg (by omega)];exact decide_eq_true h
  .refine List.Pairwise.imp_of_mem (fun {P Q} c d h X a Y b=>?_) (Ew n)
   unfold eZ at a b
   obtain ⟨p,_,rfl⟩:=List.mem_map.1 a
   obtain ⟨q,_,rfl⟩:=List.mem_map.1 b
   exact Et _ _ _ _ (((jZ n P).1 c).1.trans ((jZ n Q).1 d).1.symm) h
theorem ME {P Q:List Int}(j:P.length<=1000)(l:Q.length<=1000):∀(k i n:Nat),P.length - i=k->k<n->i<=P.length->i<=Q.length->
  ag (aQ (oH P Q) n (false,(i:Int))) (fun o=>ay o (fun _=>some (decide (((P.length:Nat):Int)<((Q.length:Nat):Int)))) (fun _ _=>none) (fun r=>some r))=some (lexB (P.drop i) (Q.drop i)):=by
 intro k
 induction k with
 |zero=>
  intro i n f g hi h
  obtain ⟨n,rfl⟩:∃m,n=m+1:=⟨n - 1,by omega⟩
  unfold aQ oH
  rw[show decide ((i:Int)<((P.length:Nat):Int))=false from decide_eq_false (by omega)]
  simp only[cond_false,ag,ay]
  rw[List.drop_eq_nil_of_le (by omega:P.length<=i)]
  show _=some (decide (0<(Q.drop i).length))
  rw[List.length_drop]
  congr 1
  exact decide_eq_decide.2 (by omega)
 |succ k ih=>
  intro i n f g hi h
  obtain ⟨n,rfl⟩:∃m,n=m+1:=⟨n - 1,by omega⟩
  have a:i<P.length:=by omega
  unfold aQ
  rw[show oH P Q (false,(i:Int))=cond (decide ((i:Int)<(P.length:Int))) (cond (decide ((i:Int)<(Q.length:Int))) (ag (aT P i) fun b=>ag (aT Q i) fun c=>cond ((b != c)) (some (.rt (decide (b<c)))) (some (.nx (false,(IntKind.i64.wrap ((i:Int)+1)))))) (some (.bk (false,(i:Int))))) (some (.bk (false,(i:Int)))) from rfl]
  rw[show decide ((i:Int)<((P.length:Nat):Int))=true from decide_eq_true (by omega),List.drop_eq_getElem_cons a]
  by_cases d:i<Q.length
  .rw[show decide ((i:Int)<((Q.length:Nat):Int))=true from decide_eq_true (by omega),List.drop_eq_getElem_cons d]
   simp only[cond_true,show aT P (i:Int)=some P[i] from dK (List.getElem?_eq_getElem a),show aT Q (i:Int)=some Q[i] from dK (List.getElem?_eq_getElem d),ag]
   show _=some (if P[i]=Q[i] then lexB (P.drop (i+1)) (Q.drop (i+1)) else decide (P[i]<Q[i]))
   by_cases e:P[i]=Q[i]
   .rw[if_pos e,show (P[i] != Q[i])=false by simp[e]]
    simp only[cond_false]
    rw[bU (n:=(i:Int)+1) (by omega)]
    exact ih (i+1) n (by omega) (by omega) (by omega) (by omega)
   .rw[if_neg e,show (P[i] != Q[i])=true by simp[e]]
    rfl
  .rw[show decide ((i:Int)<((Q.length:Nat):Int))=false from decide_eq_false (by omega),List.drop_eq_nil_of_le (by omega:Q.length<=i)]
   simp only[cond_true,cond_false,ag,ay]
   show some (decide (((P.length:Nat):Int)<((Q.length:Nat):Int)))=some false
   rw[decide_eq_false (by omega)]
theorem MF {P Q:List Int}(a:P.length<=1000)(b:Q.length<=1000):tP P Q=some (lexB P Q):=
 ME a b P.length 0 fu rfl (by unfold fu;omega) (by omega) (by omega)
theorem MG {P Q:List Int}(a:P.length<=1000)(b:Q.length<=1000):qP P Q=some (decide (P.length<Q.length)||decide (P.length=Q.length)&&lexB P Q):=by
 unfold qP;rw[MF a b];by_cases h:P.length<Q.length
 .rw[decide_eq_true (show ((P.length:Nat):Int)<((Q.length:Nat):Int) by omega),decide_eq_true h];rfl
 .rw[decide_eq_false (show ¬((P.length:Nat):Int)<((Q.length:Nat):Int) by omega),decide_eq_false h];by_cases e:P.length=Q.length
  .rw[show (((P.length:Nat):Int)==((Q.length:Nat):Int))=true by simp[e],decide_eq_true e];rfl
  .rw[show (((P.length:Nat):Int)==((Q.length:Nat):Int))=false by simp;omega,decide_eq_false e];rfl
theorem MH {u:ak}{f:ak->Option Int}(h:e9 u=some 0)(a:f u=some 0):fc u [f]=some (u,0):=by
 unfold fc;rw[h];simp only[ag,bne_self_eq_false,cond_false];unfold bD qG;simp only[a,ag,bne_self_eq_false,cond_false];rfl
def rO (u:ak)(k:Int)(r:List Int×Bool×Int):Prop:=
 (∃n P,n+u.props.length<=3/\P∈ek u n/\dx u (pr u k P)=true/\(∀i,i<n->∀Q,Q∈ek u i->dx u (pr u k Q)=false)/\(∀Q,Q∈ek u n->dx u (pr u k Q)=true->Q=P\/lexB P Q=true)/\r=(P,true,0))\/
 ((∀i,i+u.props.length<=3->∀Q,Q∈ek u i->dx u (pr u k Q)=false)/\r=([],false,0))
theorem Ey {u:ak}{n:Nat}(h:n+u.props.length<=3):∀P,P∈ek u n->lW u P:=fun P d=>by
 obtain ⟨a,b,c⟩:=(jZ n P).1 d
 exact ⟨c,by omega⟩
theorem MI {u:ak}(F:Fit u)(aD:b6 u≠[]){k:Int}(p:1<=k/\k<=20)(b:Bool):∀(j n t:Nat),n+j+u.props.length=4->j<t->(∀i,i<n->∀Q,Q∈ek u i->dx u (pr u k Q)=false)->
  ∃r,rO u k r/\ag (aQ (pz u k (⟨u,(b6 u).map cR⟩,0)) t (b,0,ek u n,(n:Int))) (fun o=>ay o (fun _=>some (([]:List Int),false,0)) (fun _ _=>none) (fun r=>some r))=some r:=by
 intro j
 have x:=F.props
 have w1:IntKind.i64.wrap (IntKind.i64.wrap (3 - (u.props.length:Int))+1)=4 - (u.props.length:Int):=by
  rw[bU (n:=3 - (u.props.length:Int)) (by omega),bU (by omega)];omega
 induction j with
 |zero=>
  intro n t q ht hh
  obtain ⟨t,rfl⟩:∃m,t=m+1:=⟨t - 1,by omega⟩
  refine ⟨([],false,0),.inr ⟨fun i hi=>hh i (by omega),rfl⟩,?_⟩
  unfold aQ pz
  rw[w1,show decide ((n:Int)<4 - (u.props.length:Int))=false from decide_eq_false (by omega)]
  rfl
 |succ j ih=>
  intro n t q ht hh
  obtain ⟨t,rfl⟩:∃m,t=m+1:=⟨t - 1,by omega⟩
  have g:=Mn F aD p (Ey (u:=u) (n:=n) (by omega)) (zu F (n:=n) (by omega))
  unfold aQ
  rw[show pz u k (⟨u,(b6 u).map cR⟩,0) (b,0,ek u n,(n:Int))=cond (decide ((n:Int)<(IntKind.i64.wrap ((IntKind.i64.wrap (3 - (u.props.length:Int)))+1)))) (ag (nt ⟨u,(b6 u).map cR⟩ k (ek u n)) fun f=>cond (decide (0<(f.length:Int))) (ag (aT f 0) fun s=>some (.rt (s,true,0))) (ag (mN u (ek u n)) fun v=>some (.nx (b,0,v,(IntKind.i64.wrap ((n:Int)+1)))))) (some (.bk (b,0,ek u n,(n:Int)))) from rfl]
  rw[w1,show decide ((n:Int)<4 - (u.props.length:Int))=true from decide_eq_true (by omega),g]
  simp only[cond_true,ag]
  cases d:(ek u n).filter fun P=>dx u (pr u k P) with
  |nil=>
   rw[show decide (0<((([]:List (List Int)).length:Nat):Int))=false from rfl]
   have lv:=Mo F (Ey (u:=u) (n:=n) (by omega)) (zu F (n:=n+1) (by omega)) (zu F (n:=n) (by omega))
   simp only[cond_false,lv,ag]
   rw[bU (n:=(n:Int)+1) (by omega)]
   exact ih (n+1) t (by omega) (by omega) fun i hi Q c=>by
    by_cases e:i=n
    .subst e
     have:=List.filter_eq_nil_iff.1 d Q c
     simpa using this
    .exact hh i (by omega) Q c
  |cons P T=>
   rw[show decide (0<(((P::T).length:Nat):Int))=true from decide_eq_true (by rw[List.length_cons];omega)]
   have hm:P∈(ek u n).filter fun P=>dx u (pr u k P):=by rw[d];exact List.mem_cons_self
   rw[List.mem_filter] at hm
   refine ⟨(P,true,0),.inl ⟨n,P,by omega,hm.1,hm.2,hh,fun Q c w=>?_,rfl⟩,?_⟩
   .have h:Q∈(ek u n).filter fun P=>dx u (pr u k P):=List.mem_filter.2 ⟨c,w⟩
    have l:=(Ew (u:=u) n).filter fun P=>dx u (pr u k P)
    rw[d] at h l
    rcases List.mem_cons.1 h with a|a
    .exact .inl a
    .exact .inr ((List.pairwise_cons.1 l).1 Q a)
   .simp only[cond_true,show aT (P::T) (0:Int)=some P from rfl,ag,ay]
theorem Ez {u:ak}(F:Fit u)(h:e9 u=some 0){k:Int}(d:1<=k/\k<=20):
  ∃r,nu u k=some r/\(b6 u=[]/\r=([],false,9)\/b6 u≠[]/\rO u k r):=by
 unfold nu
 rw[yp F (MH h (Mq d))]
 cases hs:(b6 u).isEmpty with
 |true=>exact ⟨_,rfl,.inl ⟨List.isEmpty_iff.1 hs,rfl⟩⟩
 |false=>
  have aD:b6 u≠[]:=by intro c;rw[c] at hs;cases hs
  obtain ⟨r,a,b⟩:=MI F aD d false (4 - u.props.length) 0 fu (by have:=F.props;omega) (by unfold fu;omega) fun i hi=>by omega
  refine ⟨r,?_,.inr ⟨aD,a⟩⟩
  simp only[ag,Bool.false_eq_true,if_false,bne_self_eq_false,cond_false]
  exact b
theorem EA {V:List Int}(h:V.Pairwise (· <·)){i j:Nat}{a b:Int}(c:i<j)(d:V[i]?=some a)(hb:V[j]?=some b):a<b:=by
 obtain ⟨e,rfl⟩:=List.getElem?_eq_some_iff.1 d;obtain ⟨f,rfl⟩:=List.getElem?_eq_some_iff.1 hb;exact List.pairwise_iff_getElem.1 h i j e f c
theorem MJ {V:List Int}{i:Nat}{y:Int}(h:y∈V.take i):∃j,j<i/\V[j]?=some y:=by
 obtain ⟨j,a⟩:=List.mem_iff_getElem?.1 h;rw[List.getElem?_take] at a;split at a
 .exact ⟨j,by assumption,a⟩
 .cases a
def zw (V:List Int)(x:Int)(i:Nat)(s:List Int×Bool):Prop:=
 (s.2=false->s.1=V.take i/\∀w,w∈V.take i->w<x)/\
 (s.2=true->s.1.Pairwise (· <·)/\(∀y,y∈s.1->y=x\/y∈V.take i)/\s.1.length<=i+1/\∃j w,j<i/\V[j]?=some w/\x<=w)
theorem MK {V u:List Int}(k:V.Pairwise (· <·))(D:V.length<=100){n:Int}{x:Int}(t:aT u n=some x)(i:Nat)(w:Int)(s:List Int×Bool)(hw:V[i]?=some w)(m:zw V x i s):
  ∃s',mU u V n (s.1,s.2,(i:Int))=some (.nx (s'.1,s'.2,((i+1:Nat):Int)))/\zw V x (i+1) s':=by
 have hi:=(List.getElem?_eq_some_iff.1 hw).1
 have ht:V.take (i+1)=V.take i++[w]:=by rw[List.take_succ,hw];rfl
 have lG:∀y,y∈V.take i->y<w:=fun y f=>by
  obtain ⟨j,a,b⟩:=MJ f
  exact EA k a b hw
 have E:(V.take i).length=i:=by rw[List.length_take];omega
 obtain ⟨acc,pl⟩:=s
 unfold mU
 simp only[decide_eq_true (show ((i:Nat):Int)<(V.length:Int) by omega),cond_true,dK hw,t,ag,(show IntKind.i64.wrap ((i:Int)+1)=((i+1:Nat):Int) from (bU (n:=(i:Int)+1) (by omega)).trans (by omega))]
 have ci:((i:Nat):Int)+1=((i+1:Nat):Int):=by omega
 cases pl with
 |false=>
  obtain ⟨e,o⟩:=m.1 rfl
  replace e:acc=V.take i:=e
  subst e
  simp only[Bool.not_false,cond_true]
  by_cases c:x<=w
  .simp only[decide_eq_true c,cond_true,fS (l:=V.take i) (xs:=[x]) (by simp only[List.length_singleton];omega)]
   have p:(V.take i++[x]).Pairwise (· <·):=by
    rw[List.pairwise_append]
    exact ⟨k.sublist (List.take_sublist _ _),List.pairwise_singleton _ _,fun a g b hb=>by rw[List.mem_singleton.1 hb];exact o a g⟩
   by_cases d:w=x
   .refine ⟨(V.take i++[x],true),?_,⟨fun h=>(by cases h),fun _=>⟨p,fun y f=>?_,by simp only[List.length_append,List.length_singleton];omega,i,w,by omega,hw,c⟩⟩⟩
    .rw[show (w != x)=false by simp[d]];simp only[cond_false]
    .rcases List.mem_append.1 f with a|a
     .exact .inr (by rw[ht];exact List.mem_append_left _ a)
     .exact .inl (List.mem_singleton.1 a)
   .refine ⟨(V.take i++[x]++[w],true),?_,⟨fun h=>(by cases h),fun _=>⟨?_,fun y f=>?_,by simp only[List.length_append,List.length_singleton];omega,i,w,by omega,hw,c⟩⟩⟩
    .rw[show (w != x)=true by simp[d]]
     simp only[cond_true,fS (l:=V.take i++[x]) (xs:=[w]) (by simp only[List.length_append,List.length_singleton];omega),ag]
    .rw[List.pairwise_append]
     refine ⟨p,List.pairwise_singleton _ _,fun a g b hb=>?_⟩
     rw[List.mem_singleton.1 hb]
     rcases List.mem_append.1 g with a1|a1
     .exact lG a a1
     .rw[List.mem_singleton.1 a1];show x<w;omega
    .rcases List.mem_append.1 f with a|a
     .rcases List.mem_append.1 a with a|a
      .exact .inr (by rw[ht];exact List.mem_append_left _ a)
      .exact .inl (List.mem_singleton.1 a)
     .exact .inr (by rw[ht];exact List.mem_append_right _ a)
  .refine ⟨(V.take i++[w],false),?_,⟨fun _=>⟨ht.symm,fun y f=>?_⟩,fun h=>by cases h⟩⟩
   .rw[show (w != x)=true by simp;omega]
    simp only[decide_eq_false c,cond_false,cond_true,fS (l:=V.take i) (xs:=[w]) (by simp only[List.length_singleton];omega)]
   .rw[ht] at f
    rcases List.mem_append.1 f with a|a
    .exact o y a
    .rw[List.mem_singleton.1 a];omega
 |true=>
  obtain ⟨z,q,A,j,v,B,r,hle⟩:=m.2 rfl
  simp only[Bool.not_true,cond_false]
  have C:x<w:=by have:=EA k B r hw;omega
  have F:acc.length<=i+1:=A
  refine ⟨(acc++[w],true),?_,⟨fun h=>(by cases h),fun _=>⟨?_,fun y f=>?_,by simp only[List.length_append,List.length_singleton];omega,j,v,by omega,r,hle⟩⟩⟩
  .rw[show (w != x)=true by simp;omega]
   simp only[cond_true,fS (l:=acc) (xs:=[w]) (by simp only[List.length_singleton];omega)]
  .show (acc++[w]).Pairwise _
   rw[List.pairwise_append]
   refine ⟨z,List.pairwise_singleton _ _,fun a g b hb=>?_⟩
   rw[List.mem_singleton.1 hb]
   rcases q a g with a1|a1
   .rw[a1];exact C
   .exact lG a a1
  .rcases List.mem_append.1 f with a|a
   .rcases q y a with b|b
    .exact .inl b
    .exact .inr (by rw[ht];exact List.mem_append_left _ b)
   .exact .inr (by rw[ht];exact List.mem_append_right _ a)
theorem ML {l:List Int}(i:Nat)(x:Int)(V:List Int)(c:l[i]?=some x)(q:V.Pairwise (· <·)/\(∀y,y∈V->y∈l)/\V.length<=i)(hi:i<=99):
  ∃d,mV l (V,(i:Int))=some (.nx (d,((i+1:Nat):Int)))/\d.Pairwise (· <·)/\(∀y,y∈d->y∈l)/\d.length<=i+1:=by
 have z:=(List.getElem?_eq_some_iff.1 c).1
 obtain ⟨a1,a2,a3⟩:=q
 have k:x∈l:=List.mem_of_getElem? c
 obtain ⟨s,k1,m⟩:=rA (f:=mU l V (i:Int)) (zw V x) (fun s j=>(s.1,s.2,j)) V (by omega) (fun j w s hw r=>MK a1 (by omega) (dK c) j w s hw r)
  (fun s=>by unfold mU;rw[show decide ((V.length:Int)<(V.length:Int))=false from decide_eq_false (by omega)];rfl) (([]:List Int),false) ⟨fun _=>⟨rfl,fun w hw=>(by cases hw)⟩,fun h=>by cases h⟩
 unfold mV
 have ci:((i:Nat):Int)+1=((i+1:Nat):Int):=by omega
 simp only[decide_eq_true (show ((i:Nat):Int)<(l.length:Int) by omega),cond_true,ag,k1,ay,dK c,(show IntKind.i64.wrap ((i:Int)+1)=((i+1:Nat):Int) from (bU (n:=(i:Int)+1) (by omega)).trans (by omega))]
 obtain ⟨acc,pl⟩:=s
 cases pl with
 |false=>
  obtain ⟨e,o⟩:=m.1 rfl
  rw[List.take_length] at e o
  replace e:acc=V:=e
  subst e
  refine ⟨acc++[x],?_,?_,fun y g=>?_,by simp only[List.length_append,List.length_singleton];omega⟩
  .simp only[Bool.not_false,cond_true,fS (l:=acc) (xs:=[x]) (by simp only[List.length_singleton];omega)]
  .rw[List.pairwise_append]
   exact ⟨a1,List.pairwise_singleton _ _,fun a t b hb=>by rw[List.mem_singleton.1 hb];exact o a t⟩
  .rcases List.mem_append.1 g with a|a
   .exact a2 y a
   .rw[List.mem_singleton.1 a];exact k
 |true=>
  obtain ⟨u,p,v,-⟩:=m.2 rfl
  rw[List.take_length] at p
  refine ⟨acc,?_,u,fun y g=>?_,by have A:acc.length<=V.length+1:=v;omega⟩
  .simp only[Bool.not_true,cond_false]
  .rcases p y g with a|a
   .rw[a];exact k
   .exact a2 y a
theorem MM {l:List Int}(e:l.length<=100):∃r,qQ l=some r/\r.Pairwise (· <·)/\(∀y,y∈r->y∈l)/\r.length<=l.length:=by
 obtain ⟨V,k1,b⟩:=rA (f:=mV l) (fun i (V:List Int)=>V.Pairwise (· <·)/\(∀y,y∈V->y∈l)/\V.length<=i) (fun V j=>(V,j)) l (by omega) (fun i x V a c=>ML i x V a c (by have:=(List.getElem?_eq_some_iff.1 a).1;omega))
  (fun s=>by unfold mV;rw[show decide ((l.length:Int)<(l.length:Int))=false from decide_eq_false (by omega)];rfl) ([]:List Int) ⟨.nil,fun y d=>(by cases d),by simp⟩
 refine ⟨V,?_,b⟩;unfold qQ;simp only[k1,ag,ay]
section
variable {u : ak} (F : Fit u)
include F
theorem MN {e b:bN}(k:u.an[u.an.length - 1]?=some e)(m:u.an[0]?=some b){v:List Int}(t:∀x,x∈v->0<=x/\x<=255):
  ∃acc:List Int,∃q:Int,aQ (nv u v e b) fu (([]:List Int),0)=some (.nx (acc,q))/\acc.length+u.props.length<=3/\∀p,p∈acc->eF u<=p/\p<=ee u:=by
 have H:=F.props
 have hm:IntKind.i64.wrap (3 - (u.props.length:Int))=3 - (u.props.length:Int):=bU (by omega)
 obtain ⟨acc,k1,w,y⟩:=rA (f:=nv u v e b) (fun i (acc:List Int)=>acc.length=i/\∀p,p∈acc->eF u<=p/\p<=ee u) (fun acc j=>(acc,j)) (v.take (3 - u.props.length)) (by rw[List.length_take];omega)
  (fun i x acc d g=>by
   have A:=(List.getElem?_eq_some_iff.1 d).1
   rw[List.length_take] at A
   rw[List.getElem?_take,if_pos (by omega)] at d
   obtain ⟨a,z,B,C,D,I,r,E,G,r1,r2⟩:=LZ F (t x (List.mem_of_getElem? d))
   obtain ⟨J,K,o,s,e1,e2,L,b2,b3⟩:=lV F
   rw[B] at o m;cases o;cases m
   rw[C] at s k;cases s;cases k
   refine ⟨acc++[b.aH+r],?_,by rw[List.length_append,g.1];rfl,fun p h=>?_⟩
   .unfold nv
    simp only[decide_eq_true (show ((i:Nat):Int)<(v.length:Int) by omega),hm,decide_eq_true (show ((i:Nat):Int)<3 - (u.props.length:Int) by omega),cond_true,D,dK d,ag,E,G,fS (l:=acc) (xs:=[b.aH+r]) (by rw[List.length_singleton,g.1];omega),(show IntKind.i64.wrap ((i:Int)+1)=((i+1:Nat):Int) from (bU (n:=(i:Int)+1) (by omega)).trans (by omega))]
   .rcases List.mem_append.1 h with c|c
    .exact g.2 p c
    .rw[List.mem_singleton.1 c,e1,e2];exact ⟨r1,r2⟩)
  (fun acc=>by
   unfold nv
   rw[List.length_take]
   by_cases c:v.length<=3 - u.props.length
   .rw[show min (3 - u.props.length) v.length=v.length by omega,show decide ((v.length:Int)<(v.length:Int))=false from decide_eq_false (by omega)];rfl
   .rw[show min (3 - u.props.length) v.length=3 - u.props.length by omega]
    simp only[hm,show decide (((3 - u.props.length:Nat):Int)<(v.length:Int))=true from decide_eq_true (by omega),show decide (((3 - u.props.length:Nat):Int)<3 - (u.props.length:Int))=false from decide_eq_false (by omega)];rfl)
  ([]:List Int) ⟨rfl,fun p h=>by cases h⟩
 rw[List.length_take] at w
 exact ⟨acc,_,k1,by omega,y⟩
theorem EB {B:List Int}{c:Bool×Int}(l:B.length<=100)(d:∀p,p∈B->eF u<=p/\p<=ee u):aQ (ny u (B,c)) fu (false,0)=some (.nx (false,(B.length:Int))):=by
 obtain ⟨a,z,e,g,e1,e2,-⟩:=lV F;have he:=F.an;have wl:IntKind.i64.wrap ((u.an.length:Int) - 1)=((u.an.length - 1:Nat):Int):=(bU (by omega)).trans (by omega);obtain ⟨s,k1,h⟩:=rA (f:=ny u (B,c)) (fun _ (s:Bool)=>s=false) (fun s j=>(s,j)) B (by omega)
  (fun i x s b k=>by
   have m:=(List.getElem?_eq_some_iff.1 b).1;have hb:=d x (List.mem_of_getElem? b);refine ⟨s,?_,k⟩;unfold ny
   simp only[decide_eq_true (show ((i:Nat):Int)<(B.length:Int) by omega),cond_true,dK b,show aT u.an 0=some a from dK e,wl,dK g,ag,eO,m7 (show a.aH<=x by omega) (show x<=z.aH by omega),Bool.not_true,cond_false,(show IntKind.i64.wrap ((i:Int)+1)=((i+1:Nat):Int) from (bU (n:=(i:Int)+1) (by omega)).trans (by omega))])
  (fun s=>by unfold ny;rw[show decide ((B.length:Int)<(B.length:Int))=false from decide_eq_false (by omega)];rfl) false rfl
 rw[k1,h]
variable (h : e9 u = some 0) (aD : b6 u ≠ [])
include h aD
theorem MO {g i:bN}(w:u.an[u.an.length - 1]?=some g)(y:u.an[0]?=some i){v:List Int}(z:∀x,x∈v->0<=x/\x<=255){t:Int}(ht:0<=t/\t<20){r:List Int×Bool×Int}(A:rO u (1+t) r):
  pG u v t g i r=some true:=by
 have w1:IntKind.i64.wrap (1+t)=1+t:=bU (by omega)
 obtain ⟨acc,q,j,I,C⟩:=MN F w y z
 obtain ⟨P,s1,s2,D,J⟩:=MM (l:=acc) (by omega)
 have m:lW u P:=⟨fun p a=>C p (D p a),by omega⟩
 have b:P∈ek u P.length:=(jZ _ P).2 ⟨rfl,s2,m.1⟩
 have sv:=Em F h aD (k:=1+t) (by omega) m
 unfold pG
 rcases A with ⟨n,B,K,E,hh,lo,sm,rfl⟩|⟨lo,rfl⟩
 .obtain ⟨G,L,o⟩:=(jZ n B).1 E
  have H:lW u B:=⟨o,by omega⟩
  have s:=Em F h aD (k:=1+t) (by omega) H
  rw[hh] at s
  rw[EB F (by omega) o]
  unfold rM pF
  simp only[ag,ay,cond_true,w1,s,Bool.not_true,cond_false,j,s1,MG (P:=P) (Q:=B) (by omega) (by omega),sv]
  cases hs:(decide (P.length<B.length)||decide (P.length=B.length)&&lexB P B) with
  |false=>simp only[Bool.not_false,cond_true,pE]
  |true=>
   have:dx u (pr u (1+t) P)=false:=by
    cases f:dx u (pr u (1+t) P) with
    |false=>rfl
    |true=>
     rw[Bool.or_eq_true,Bool.and_eq_true,decide_eq_true_eq,decide_eq_true_eq] at hs
     rcases hs with c|⟨c,d⟩
     .rw[lo P.length (by omega) P b] at f;cases f
     .rcases sm P (by rw[<-G,<-c];exact b) f with e|e
      .rw[e,Ev] at d;cases d
      .rw[Eu _ _ e] at d;cases d
   rw[this]
   simp only[Bool.not_true,Bool.not_false,cond_true,cond_false,pE]
 .rw[EB F (by simp) (fun p a=>by cases a)]
  unfold rM pF
  have:=lo P.length (by omega) P b
  rw[this] at sv
  simp only[ag,ay,cond_false,w1,j,s1,sv,Bool.not_false,cond_true,pE]
end
theorem MP (u:ak)(k:Int):pr u k []=u:=by
 show wp u (u.props++[])=u;rw[List.append_nil];rfl
theorem MQ (u:ak)(a:Int)(T:0<=a/\a<=255)(b:Int)(hb:0<=b/\b<=255)(v:List Int)(U:∀x,x∈v->0<=x/\x<=255):uY u a b v=some true:=by
 unfold uY;rcases LY u with k|⟨k,L,h,F⟩
 .simp only[k,ag,Bool.not_false,cond_true,pE]
 obtain ⟨x,z,o,p,e1,e2,ad,b2,b3⟩:=lV F;have he:=F.an;have ae:=F.props;have wl:IntKind.i64.wrap ((u.an.length:Int) - 1)=((u.an.length - 1:Nat):Int):=(bU (by omega)).trans (by omega);have w3:IntKind.i64.wrap (3 - (u.props.length:Int))=3 - (u.props.length:Int):=bU (by omega);have t1:=zk (a:=a) (b:=20) T.1 (by decide);have t2:=zk (a:=b) (b:=5) hb.1 (by decide);have r:gq (IntKind.i64.wrap a) 20=some (a.tmod 20):=by rw[bU (by omega)];exact zj (by decide)
 have em:gq (IntKind.i64.wrap b) 5=some (b.tmod 5):=by rw[bU (by omega)];exact zj (by decide)
 generalize a.tmod 20=t at r t1;generalize b.tmod 5=m at em t2;have w1:IntKind.i64.wrap (1+t)=1+t:=bU (by omega);have w2:IntKind.i64.wrap (1+t+m)=1+t+m:=bU (by omega);obtain ⟨M,s⟩:∃M,(if 1+t+m<20 then 1+t+m else 20)=M:=⟨_,rfl⟩
 have G:1+t<=M/\M<=20:=by rw[<-s];split<;>omega
 obtain ⟨r1,v1,c1⟩:=Ez F h (k:=1+t) (by omega);obtain ⟨r2,v2,c2⟩:=Ez F h (k:=M) (by omega);by_cases aD:b6 u=[]
 .rcases c1 with ⟨-,rfl⟩|⟨c,-⟩
  rotate_left
  .exact absurd aD c
  rcases c2 with ⟨-,rfl⟩|⟨c,-⟩
  rotate_left
  .exact absurd aD c
  have I:=CR F h;rw[aD] at I;simp only[k,ag,Bool.not_true,cond_false,r,wl,dK p,show aT u.an 0=some x from dK o,w1,em,w2,s,v1,v2,I,pE];rfl
 .obtain ⟨w,V,W,-⟩:=Mi F h aD;have J:rO u (1+t) r1:=by rcases c1 with ⟨c,-⟩|⟨-,c⟩;exact absurd c aD;exact c
  have N:rO u M r2:=by rcases c2 with ⟨c,-⟩|⟨-,c⟩;exact absurd c aD;exact c
  have O:=MO F h aD p o U t1 J;have A:∀K,dx u (pr u K [])=true↔w=1:=fun K=>by
   rw[MP,rN,W];constructor
   .intro q i e n g j;have:=q i e n g j;unfold eX;rw[g];exact this
   .intro q i e n g j;have:=q i e n g j;unfold eX at this;rw[g] at this;exact this
  have P:∀(n:Nat) (B:List Int),n<=3->B∈ek u n->mZ B 60=some 0:=fun n B j f=>by
   obtain ⟨Q,R,C⟩:=(jZ n B).1 f;exact Mr (by omega) (by omega) (fun y X=>by have:=C y X;omega) R
  simp only[k,ag,Bool.not_true,cond_false,r,wl,dK p,show aT u.an 0=some x from dK o,w1,em,w2,s,v1,v2,V,w3];rcases J with ⟨n,B,j,f,hh,lo,sm,rfl⟩|⟨lo,rfl⟩
  .obtain ⟨Q,R,C⟩:=(jZ n B).1 f;have l:dx u (pr u M B)=true:=Mf F (by omega) G.1 G.2 C (by omega) hh;rcases N with ⟨D,S,al,Y,ao,E,ar,rfl⟩|⟨E,rfl⟩
   rotate_left
   .rw[E n (by omega) B f] at l;cases l
   have hle:D<=n:=by
    rcases Nat.lt_or_ge n D with c|c
    .rw[E n c B f] at l;cases l
    .exact c
   have a0:=((jZ D S).1 Y).1;have hw:((w==1)==((B.length:Int)==0))=true:=by
    by_cases c:w=1
    .have Z:n=0:=by
      rcases Nat.eq_zero_or_pos n with d|d
      .exact d
      .have:=lo 0 d [] (List.mem_singleton.2 rfl);rw[(A (1+t)).2 c] at this;cases this
     simp[c,Q,Z]
    .have:B.length≠0:=by
      intro d;have:B=[]:=List.length_eq_zero_iff.1 d;rw[this] at hh;exact c ((A _).1 hh)
     simp only[beq_iff_eq];rw[beq_eq_false_iff_ne.2 c,beq_eq_false_iff_ne.2 (by omega)]
   simp only[bne_self_eq_false,cond_false,cond_true,hw,Bool.not_true,decide_eq_false (show ¬((B.length:Int)<(S.length:Int)) by omega),decide_eq_false (show ¬(3 - (u.props.length:Int)<(B.length:Int)) by omega),P n B (by omega) f,ag,O]
  .have ab:r2.2.2=0:=by rcases N with ⟨_,_,_,_,_,_,_,rfl⟩|⟨_,rfl⟩<;>rfl
   have hw:(w==1)=false:=beq_eq_false_iff_ne.2 fun c=>by
    have:=lo 0 (by omega) [] (List.mem_singleton.2 rfl);rw[(A (1+t)).2 c] at this;cases this
   simp only[ab,bne_self_eq_false,cond_false,hw,beq_self_eq_true,Bool.not_true,show decide ((0:Int)<((([]:List Int).length:Nat):Int))=false from rfl,decide_eq_false (show ¬(3 - (u.props.length:Int)<((([]:List Int).length:Nat):Int)) by simp;omega),P 0 [] (by omega) (List.mem_singleton.2 rfl),ag,O]
end Go.Proofs.YtghbphimkgamkaaGreatDoor
end

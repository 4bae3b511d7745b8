/- A part of the proof: VE1. -/
import Derived.Test.YtlchekhkopimhaaGreatDoorQT13
set_option linter.all false
section
namespace Go.Proofs.YtlchekhkopimhaaGreatDoor
open Go Go.Sep Go.Proofs
set_option maxRecDepth 100000
set_option maxHeartbeats 4000000
def m4 (u0:ax)(c:Int)(d:Int)(a:((List Int)×Int))(st:(Bool×Int)):Option (Fl (Bool×Int) Bool):=
 cond (decide (st.2<(a.1.length:Int))) (cond (st.1) (some (.nx (true,(IntKind.i64.wrap (st.2+1))))) (ai (bD a.1 st.2) fun b=>ai (gV b 0 (IntKind.i64.wrap (u0.steps - 1))) fun e=>cond (e) (ai (fD (IntKind.i64.wrap ((IntKind.i64.wrap (c - b))+u0.steps)) u0.steps) fun f=>ai (bD u0.ak d) fun g=>some (.nx ((decide (f<g.wide)),(IntKind.i64.wrap (st.2+1))))) (some (.nx (false,(IntKind.i64.wrap (st.2+1))))))) (some (.bk (st.1,st.2)))
def pN (u0:ax)(b:Int)(st:(Bool×Bool×Int)):Option (Fl (Bool×Bool×Int) Bool):=
 cond (decide (st.2.2<(u0.ak.length:Int))) (ai (g6 u0 st.2.2) fun a=>cond ((a.2 != 0)) (some (.rt false)) (ai (aQ (m4 u0 b st.2.2 a) fu (st.2.1,0)) fun o=>az o (fun c=>some (.nx (st.1,c.1,(IntKind.i64.wrap (st.2.2+1))))) (fun _ _=>none) (fun r=>some (.rt r)))) (some (.bk (st.1,st.2.1,st.2.2)))
def m5 (u0:ax)(a:Int)(b:((List Int)×Int)):Option Bool:=
 ai (aQ (pN u0 a) fu (false,false,0)) fun o=>az o (fun c=>cond (c.2.1) (ai (fy) fun d=>some d) (ai (oL b.1 a) fun e=>cond (e) (ai (fy) fun f=>some f) (some false))) (fun _ _=>none) (fun r=>some r)
def uh (u0:ax)(g:Int)(h:Int)(i:Int):Option Bool:=
 ai (mJ u0) fun x9=>cond (!x9) (ai (fy) fun j=>some j) (ai (fD (IntKind.i64.wrap g) (u0.ak.length:Int)) fun c=>ai (fD (IntKind.i64.wrap i) u0.steps) fun d=>ai (bD u0.ak c) fun k=>ai (fD (IntKind.i64.wrap h) k.wide) fun l=>ai (lz u0 c) fun a=>ai (g6 u0 c) fun e=>ai (o4 u0) fun b=>cond ((a.2 != e.2)) (some false) (cond ((a.2 != b.2)) (some false) (cond ((a.2 != 0)) (cond ((a.2==9)) (ai (fy) fun m=>some m) (some false)) (cond ((a.1==2)) (cond (((e.1.length:Int)==1)) (ai (bD e.1 0) fun n=>ai (fD (IntKind.i64.wrap (n+l)) u0.steps) fun o=>ai (o6 u0 o) fun f=>cond ((f.2 != 0)) (some false) (cond ((f.1 != 1)) (some false) (m5 u0 d b))) (m5 u0 d b)) (m5 u0 d b)))))
set_option maxHeartbeats 40000000 in
theorem yz {Φ:Goroutine->af->Prop}(hJ:Closed Tryz.prog true (eD Tryz.prog Φ)){A:Act}{ro:Addr->Option Value}(u0:ax)(f:Int)(S:((List Int)×Int))(D:((List Int)×Int)){g:Nat}(i:dw ro){t:Value}(p:aH rI ro t D.1){H:Value}(j:aH bK ro H u0.ak){T:Value}(U:aH rI ro T S.1)(V:sz A=169/\A.defers=[]/\slot A 4= .pointer (some ⟨g,0,none⟩)/\slot A 8= .bool false/\slot A 10= .int .i64 f/\slot A 16=t)(h:m5 u0 f D=some true):Wp (eD Tryz.prog Φ) (bU (bU (bU (bU (bU (bU (bU (bU (bU (bU (Tryz.f3.body.getD .skip))))))))))) (iN Tryz.prog [.tmp 8] (fun v _=>v= .bool true)) A ⟨ro,(g,bB u0 H)::[]⟩:=by
 obtain ⟨W,hd,X,Y,Z,ab⟩:=V;obtain ⟨d3,c4,rfl,dp,dq,-⟩:=id j;obtain ⟨d39,ds,rfl,dt,du,-⟩:=id U;unfold m5 at h;refine jf hJ fun ad ae=>?_;have al:=ad.nd;try simp only[keys,List.map_cons,List.map_nil,List.map_append,List.cons_append,List.nil_append,List.nodup_cons,List.mem_cons,List.mem_append,List.not_mem_nil,or_false,not_or] at al
 simp only[bW] at ae;apply aA hJ;try apply bt _
 refine ah hJ (aA hJ ?_);try apply bt _
 apply aU hJ;revert h;refine bS fun ao u I=>?_;refine bP hJ (rg 107 53 [8,20,21,22,23,24]) (fun m k F'=>∃(E:Addr->Option Value) (q:Bool) (w:Bool) (d:Int),aQ (pN u0 f) m (q,w,d)=some ao/\F'=⟨E,(g,bB u0 (sl d3 u0.ak c4))::[]⟩/\Ext ro E/\slot k 8= .bool q/\slot k 20= .bool w/\slot k 21= .int .i64 d) fu ?_ ?_
 .refine ⟨ro,false,false,0,u,rfl,Ext.refl _,?_⟩;try simp (maxSteps:=9^9) only[*,go_sem]
 rintro G l F' n ⟨E,q,w,d,u,rfl,x,ar,a0,a2⟩;refine jf hJ fun _ a3=>?_;replace p:=p.mono x;replace j:=j.mono x;replace i:=i.mono x;simp only[bW] at a3;have a4:sz l=169:=by rw[n.size];simp (maxSteps:=9^9) only[*,go_sem]
 have a5:l.defers=[]:=by rw[n.defers];simp (maxSteps:=9^9) only[*,go_sem]
 have a6:slot l 4= .pointer (some ⟨g,0,none⟩):=by rw[n.bM 4 aL];simp (maxSteps:=9^9) only[*,go_sem]
 have a7:slot l 10= .int .i64 f:=by rw[n.bM 10 aL];simp (maxSteps:=9^9) only[*,go_sem]
 have a8:slot l 16=t:=by rw[n.bM 16 aL];simp (maxSteps:=9^9) only[*,go_sem]
 clear n W hd X Y Z ab;obtain _|G:=G
 .exact absurd u (by simp only[aQ,reduceCtorEq,not_false_eq_true])
 revert u;refine bS fun dv h r=>?_;unfold pN at h;try dsimp only at h
 refine ah hJ (aA hJ ?_);try apply bt _
 revert h;refine cS (fun J h=>?_) fun J h=>?_
 .try simp only[Int.ofNat_lt] at J
  refine cO hJ ?_;refine aK hJ (ah hJ ?_);refine aU hJ (ah hJ ?_);apply aG hJ;revert h;refine bS fun c a9 h=>?_;try apply bt _
  refine cN hJ _ (q7 i u0 j d a9) fun v K y ba hR=>?_;obtain ⟨dC,rfl,L⟩:=hR;replace p:=p.mono y;replace j:=j.mono y;replace i:=i.mono y;simp only[bW] at ba;obtain ⟨d95,z,rfl,dE,dT,-⟩:=id L;apply aJ;try apply bt _
  refine ah hJ (aA hJ ?_);try apply bt _
  revert h;refine cS (fun bb h=>?_) fun bb h=>?_
  .cases h;refine cO hJ ?_;apply aA hJ;(try apply bt _);obtain rfl:=sI r;clear r;have h:=I;dsimp only[az] at h;cases h
  refine cE hJ ?_;refine aK hJ (ah hJ ?_);apply aG hJ;try apply bt _
  apply aU hJ;revert h;refine bS fun bc B bd=>?_;refine bP hJ (rg 122 38 [20,24]) (fun m k F'=>∃(C:Bool) (o:Int),aQ (m4 u0 f d c) m (C,o)=some bc/\F'=⟨K,(g,bB u0 (sl d3 u0.ak c4))::[]⟩/\slot k 20= .bool C/\slot k 24= .int .i64 o) fu ?_ ?_
  .refine ⟨w,0,B,rfl,?_⟩;try simp (maxSteps:=9^9) only[*,go_sem]
  rintro m2 b F' a ⟨C,o,B,rfl,ea,eb⟩;have ec:sz b=169:=by rw[a.size];simp (maxSteps:=9^9) only[*,go_sem]
  have ed:b.defers=[]:=by rw[a.defers];simp (maxSteps:=9^9) only[*,go_sem]
  have eh:slot b 4= .pointer (some ⟨g,0,none⟩):=by rw[a.bM 4 aL];simp (maxSteps:=9^9) only[*,go_sem]
  have et:slot b 8= .bool q:=by rw[a.bM 8 aL];simp (maxSteps:=9^9) only[*,go_sem]
  have ev:slot b 10= .int .i64 f:=by rw[a.bM 10 aL];simp (maxSteps:=9^9) only[*,go_sem]
  have eQ:slot b 16=t:=by rw[a.bM 16 aL];simp (maxSteps:=9^9) only[*,go_sem]
  have eS:slot b 21= .int .i64 d:=by rw[a.bM 21 aL];simp (maxSteps:=9^9) only[*,go_sem]
  have e0:slot b 22= .slice d95 c.1.length z:=by rw[a.bM 22 aL];simp (maxSteps:=9^9) only[*,go_sem]
  have e1:slot b 23= .int .i64 c.2:=by rw[a.bM 23 aL];simp (maxSteps:=9^9) only[*,go_sem]
  have e2:slot b 107= .int .i64 d:=by rw[a.bM 107 aL];simp (maxSteps:=9^9) only[*,go_sem]
  have e3:slot b 108= .pointer (some ⟨g,2,none⟩):=by rw[a.bM 108 aL];simp (maxSteps:=9^9) only[*,go_sem]
  have fa:slot b 109= .slice d3 u0.ak.length c4:=by rw[a.bM 109 aL];simp (maxSteps:=9^9) only[*,go_sem]
  have fb:slot b 110= .int .i64 (u0.ak.length:Int):=by rw[a.bM 110 aL];simp (maxSteps:=9^9) only[*,go_sem]
  have fc:slot b 111= .bool (decide (d<(u0.ak.length:Int))):=by rw[a.bM 111 aL];simp (maxSteps:=9^9) only[*,go_sem]
  have fg:slot b 114= .tuple #[.slice d95 c.1.length z,.int .i64 c.2]:=by rw[a.bM 114 aL];simp (maxSteps:=9^9) only[*,go_sem]
  have fh:slot b 115=cn u0 (sl d3 u0.ak c4):=by rw[a.bM 115 aL];simp (maxSteps:=9^9) only[*,go_sem]
  have fi:slot b 116= .int .i64 d:=by rw[a.bM 116 aL];simp (maxSteps:=9^9) only[*,go_sem]
  have fj:slot b 117= .tuple #[.slice d95 c.1.length z,.int .i64 c.2]:=by rw[a.bM 117 aL];simp (maxSteps:=9^9) only[*,go_sem]
  have fl:slot b 118= .slice d95 c.1.length z:=by rw[a.bM 118 aL];simp (maxSteps:=9^9) only[*,go_sem]
  have fp:slot b 119= .int .i64 c.2:=by rw[a.bM 119 aL];simp (maxSteps:=9^9) only[*,go_sem]
  have fr:slot b 120= .int .i64 c.2:=by rw[a.bM 120 aL];simp (maxSteps:=9^9) only[*,go_sem]
  have fs:slot b 121= .bool (c.2 != 0):=by rw[a.bM 121 aL];simp (maxSteps:=9^9) only[*,go_sem]
  have ft:cj (rg 107 53 [8,20,21,22,23,24]) b l:=(a.eC aL).trans dg;clear a a4 a5 a6 a7 a8 ar a0 a2;obtain _|m2:=m2
  .exact absurd B (by simp only[aQ,reduceCtorEq,not_false_eq_true])
  revert B;refine bS fun fv h s=>?_;unfold m4 at h;try dsimp only at h
  refine ah hJ (aA hJ ?_);try apply bt _
  revert h;refine cS (fun M h=>?_) fun M h=>?_
  ·(try simp only[Int.ofNat_lt] at M);refine cO hJ ?_;refine aK hJ (ah hJ ?_);apply aU hJ;refine dR hJ mixed 33 1 dg aj ?_;revert h;refine cS (fun bj h=>?_) fun bj h=>?_
   .cases h;(try apply bt _);apply aG hJ;(try apply bt _);(try apply bt _);refine ⟨m2,Nat.lt_succ_self _,_,Le.sub (List.Sublist.refl _),true,(IntKind.i64.wrap (o+1)),s,rfl,?_⟩;try simp (maxSteps:=9^9) only[*,go_sem]
   revert h;refine bS fun N bk h=>?_;obtain ⟨fw,fx,O⟩:=cG bk;obtain ⟨fz,bm,bo,br,P⟩:=L.el _ _ O;obtain rfl:bm=[.int .i64 N]:=br;cases bo;have bs:=P 0 _ rfl;simp only[go_sem] at bs;clear P O;revert h;refine bS fun gg b0 h=>?_;(try apply bt _);refine ⟨_,dW hJ fun F hF=>jl N 0 (IntKind.i64.wrap (u0.steps - 1)) b0,eB ?_⟩;revert h;refine cS (fun b1 h=>?_) fun b1 h=>?_
   .revert h;refine bS fun b2 Q h=>?_;obtain ⟨gj,gl⟩:=jJ Q;clear Q;revert h;refine bS fun b3 b4 h=>?_;cases h;obtain ⟨gn,gp,R⟩:=cG b4;obtain ⟨gy,g0,ca,cb,e⟩:=j.el _ _ R;obtain ⟨g1,rfl,cc⟩:=cb;obtain ⟨d121,g2,rfl,g3,g4,g7⟩:=id cc;cases ca;have cd:=e 0 _ rfl;simp only[go_sem] at cd;have cf:=e 1 _ rfl;simp only[go_sem] at cf;have ck:=e 2 _ rfl;simp only[go_sem] at ck;have cl:=e 3 _ rfl;simp only[go_sem] at cl;have cv:=e 4 _ rfl;simp only[go_sem] at cv;have cy:=e 5 _ rfl;simp only[go_sem] at cy;have c0:=e 6 _ rfl;simp only[go_sem] at c0;clear e R;(try apply bt _);apply aG hJ;(try apply bt _);(try apply bt _);refine ⟨m2,Nat.lt_succ_self _,_,Le.sub (List.Sublist.refl _),(decide (b2<b3.wide)),(IntKind.i64.wrap (o+1)),s,rfl,?_⟩;try simp (maxSteps:=9^9) only[*,go_sem]
   cases h;(try apply bt _);apply aG hJ;(try apply bt _);(try apply bt _);refine ⟨m2,Nat.lt_succ_self _,_,Le.sub (List.Sublist.refl _),false,(IntKind.i64.wrap (o+1)),s,rfl,?_⟩;try simp (maxSteps:=9^9) only[*,go_sem]
  cases h;refine cE hJ ?_;apply bJ;try simp only[go_sem]
  obtain rfl:=sI s;clear s;have h:=bd;dsimp only[az] at h;cases h;apply aG hJ;try apply bt _
  try apply bt _
  refine ⟨G,Nat.lt_succ_self _,_,Le.sub (List.Sublist.refl _),K,q,C,(IntKind.i64.wrap (d+1)),r,rfl,(x.trans y),?_⟩;try simp (maxSteps:=9^9) only[*,go_sem]
 cases h;refine cE hJ ?_;apply bJ;try simp only[go_sem]
 obtain rfl:=sI r;clear r;have h:=I;dsimp only[az] at h;apply aA hJ;revert h;refine cS (fun da h=>?_) fun da h=>?_
 .revert h;refine bS fun ha db h=>?_;cases h;try apply bt _
  refine gu _ (gD i db) (aJ ?_);try apply bt _
  apply aO;try simp only[*,go_sem]
 revert h;refine bS fun hc dd h=>?_;try apply bt _
 refine bh hJ _ (AY D.1 (p.mono aY) f dd) (aJ ?_);revert h;refine cS (fun df h=>?_) fun df h=>?_
 .revert h;refine bS fun hf dk h=>?_;cases h;try apply bt _
  refine gu _ (gD i dk) (aJ ?_);try apply bt _
  apply aO;try simp only[*,go_sem]
 cases h
theorem Lb {ro:Addr->Option Value}(b:dw ro)(u0:ax){s1:Value}(a:aH bK ro s1 u0.ak)(l:Int)(m:Int)(n:Int){r:Bool}(z:r=true)(h:uh u0 l m n=some r):iu Tryz.prog 3 #[cn u0 s1,.int .u8 l,.int .u8 m,.int .u8 n] ⟨ro,[]⟩ (fun v _=>v= .bool r):=by
 obtain ⟨d3,c4,rfl,a7,a8,-⟩:=id a;subst z;unfold uh at h;refine iu.go Tryz.func3 rfl Tryz.ntmps3 Tryz.results3 an aj fun Φ hJ A a9 hd hs=>?_;have ba:=hs 0;have k1:=hs 1;have bb:=hs 2;have bc:=hs 3;clear hs;apply aB hJ _;refine bf fun bd bj B=>?_;try simp only[aN] at B
 try apply ag _
 refine ah hJ (aA hJ ?_);revert h;refine bS fun x9 C h=>?_;apply ag _;refine bh hJ _ (wI u0 (a.mono aY) C) (aJ ?_);try apply ag _
 revert h;refine aV hJ (fun f h=>?_) fun f h=>?_
 .rw[Bool.not_eq_true'] at f;apply aA hJ;revert h;refine bS fun bk D h=>?_;cases h;apply ag _;refine gu _ (gD b D) (aJ ?_);try apply ag _
  apply aO;simp only[*,go_sem]
 rw[Bool.not_eq_false'] at f;refine aK hJ (ah hJ ?_);refine dR hJ mixed 13 1 bx aj ?_;revert h;refine bS fun o p h=>?_;obtain ⟨bm,bo⟩:=jJ p;clear p;revert h;refine bS fun g q h=>?_;obtain ⟨br,bs⟩:=jJ q;clear q;try apply ag _
 apply aA hJ;revert h;refine bS fun b0 E h=>?_;obtain ⟨b1,b2,s⟩:=cG E;obtain ⟨b3,b4,G,H,c⟩:=a.el _ _ s;obtain ⟨ca,rfl,I⟩:=H;obtain ⟨d21,cb,rfl,cc,cd,cf⟩:=id I;cases G;have J:=c 0 _ rfl;simp only[go_sem] at J;have K:=c 1 _ rfl;simp only[go_sem] at K;have L:=c 2 _ rfl;simp only[go_sem] at L;have M:=c 3 _ rfl;simp only[go_sem] at M;have N:=c 4 _ rfl;simp only[go_sem] at N;have O:=c 5 _ rfl;simp only[go_sem] at O;have P:=c 6 _ rfl;simp only[go_sem] at P;clear c s;revert h;refine bS fun ck t h=>?_;obtain ⟨cl,cv⟩:=jJ t;clear t;try apply ag _
 apply aA hJ;revert h;refine bS fun cy Q h=>?_;apply ag _;refine bh hJ _ (th (b.mono aY) u0 (a.mono aY) o Q) (aJ ?_);try apply ag _
 apply aA hJ;revert h;refine bS fun i R h=>?_;apply ag _;refine cN hJ _ (q7 b u0 a o R) fun v c0 u S hR=>?_;obtain ⟨da,rfl,d⟩:=hR;replace a:=a.mono u;replace b:=b.mono u;simp only[bW] at S;obtain ⟨d39,db,rfl,dd,df,-⟩:=id d;apply aJ;try apply ag _
 apply aA hJ;revert h;refine bS fun j T h=>?_;apply ag _;refine cN hJ _ (BT b u0 a T) fun v dk k U hR=>?_;obtain ⟨dp,rfl,e⟩:=hR;replace a:=a.mono k;replace d:=d.mono k;replace b:=b.mono k;simp only[bW] at U;obtain ⟨d51,dq,rfl,ds,dt,-⟩:=id e;apply aJ;try apply ag _
 refine ah hJ (aA hJ ?_);revert h;refine cS (fun V h=>?_) fun V h=>?_
 .cases h
 try apply ag _
 revert h;refine aV hJ (fun W h=>?_) fun W h=>?_
 .cases h
 refine aK hJ (ah hJ ?_);apply aB hJ _;revert h;refine aV hJ (fun X h=>?_) fun X h=>?_
 .apply aA hJ;revert h;refine cS (fun Y h=>?_) fun Y h=>?_
  .revert h;refine bS fun du Z h=>?_;cases h;(try apply ag _);refine gu _ (gD b Z) (aJ ?_);(try apply ag _);apply aO;simp only[*,go_sem]
  cases h
 refine aK hJ (ah hJ ?_);apply aA hJ;revert h;refine cS (fun ab h=>?_) fun ab h=>?_
 .try apply ag _
  revert h;refine aV hJ (fun ad h=>?_) fun ad h=>?_
  .apply ah hJ;refine dR hJ mixed 15 1 bx aj ?_;revert h;refine bS fun ae al h=>?_;obtain ⟨dv,dC,w⟩:=cG al;obtain ⟨dE,ao,ar,a0,x⟩:=d.el _ _ w;obtain rfl:ao=[.int .i64 ae]:=a0;cases ar;have a2:=x 0 _ rfl;simp only[go_sem] at a2;clear x w;revert h;refine bS fun a3 y h=>?_;obtain ⟨dT,ea⟩:=jJ y;clear y;revert h;refine bS fun eb a4 h=>?_;(try apply ag _);refine ⟨_,dW hJ fun F hF=>BV (b.mono (j6 hF)) u0 (a.mono (j6 hF)) a3 a4,eB ?_⟩;(try apply ag _);apply aA hJ;revert h;refine cS (fun a5 h=>?_) fun a5 h=>?_
   .cases h
   (try apply ag _);revert h;refine aV hJ (fun a6 h=>?_) fun a6 h=>?_
   .cases h
   apply aK hJ;show Wp _ _ _ _ _;exact cq hJ (Le.sub (.cons₂ _ (List.Sublist.refl _))) (yz hJ u0 g i j b e a d dg h)
  apply aK hJ;show Wp _ _ _ _ _;exact cq hJ (Le.sub (.cons₂ _ (List.Sublist.refl _))) (yz hJ u0 g i j b e a d dg h)
 try apply ag _
 refine cE hJ ?_;apply aK hJ;show Wp _ _ _ _ _;exact cq hJ (Le.sub (.cons₂ _ (List.Sublist.refl _))) (yz hJ u0 g i j b e a d dg h)
theorem LQ {b:ax}(h:b8 b){k at_:Nat}{s:aS}(hs:b.ak[k]?=some s)(l:at_<b.steps.toNat){x:List Int×Int}(d:∀y∈x.1,0<=y/\y<b.steps)(g:x.1.length<=1000000)(c:Bool):
  aQ (m4 b (at_:Int) (k:Int) x) fu (c,0)=some (.nx (c||x.1.any fun y=>decide (((at_:Int) - y+b.steps) % b.steps<s.wide),(x.1.length:Int))):=by
 have m:=h.steps
 have e:=gz (f:=m4 b (at_:Int) (k:Int) x) (fun _=>(none:Option Bool)) (fun i=>(c||(x.1.take i).any fun y=>decide (((at_:Int) - y+b.steps) % b.steps<s.wide),(i:Int))) x.1.length g
  (s':=(c||x.1.any fun y=>decide (((at_:Int) - y+b.steps) % b.steps<s.wide),(x.1.length:Int))) (fun i hi=>?_) ?_
 .rw[fH.2 (fun _ _=>rfl)] at e
  simpa [cP] using e
 .have j:=d _ (List.getElem_mem hi)
  unfold m4
  rw[gX hi]
  simp only[cond]
  rw[gA aa,List.take_add_one,List.getElem?_eq_getElem hi,Option.toList_some,List.any_append]
  cases a:(c||(x.1.take i).any fun y=>decide (((at_:Int) - y+b.steps) % b.steps<s.wide))
  .simp only
   rw[gk,List.getElem?_eq_getElem hi]
   simp only[ai]
   rw[mM,wr aa]
   unfold cQ
   rw[decide_eq_true j.1,decide_eq_true (p:=x.1[i]<=b.steps - 1) aa]
   simp only[Bool.and_self]
   unfold fD
   rw[if_neg aa,wr (show -9223372036854775808<=(at_:Int) - x.1[i]/\(at_:Int) - x.1[i]<9223372036854775808 by omega),wr aa,qY aa]
   simp only
   rw[gk,hs]
   simp only[cP,List.any_cons,List.any_nil,Bool.or_false]
   rw[<-Bool.or_assoc,a,Bool.false_or]
  .simp only[cP]
   rw[<-Bool.or_assoc,a,Bool.true_or]
 .unfold m4
  rw[gY,List.take_length]
  rfl
theorem LR (b:ax)(o:Int)(F:0<=o/\o<=255)(d:Int)(G:0<=d/\d<=255)(p:Int)(H:0<=p/\p<=255):uh b o d p=some true:=by
 unfold uh;simp only[rC];obtain ⟨g,hg,hs⟩:=xQ b;rw[hg];cases g
 .rfl
 obtain ⟨hb,h,f,-⟩:=hs rfl;have I:=h.many;have X:=h.steps;have J:((b.steps.toNat:Nat):Int)=b.steps:=aa;obtain ⟨i,hi,K⟩:=uo F I.1;obtain ⟨at_,A,B⟩:=uo (n:=b.steps.toNat) H aa;rw[J] at B;have r:b.ak[i]?=some b.ak[i]:=List.getElem?_eq_getElem hi;obtain ⟨⟨w1,w2⟩,-,-⟩:=Bb h r;simp only[ai,Bool.not_true,cond_false];rw[K,B];simp only;rw[gk,r];simp only;rw[yL G w1];simp only;have c1:=Int.emod_nonneg d (b:=b.ak[i].wide) aa;have c2:=Int.emod_lt_of_pos d (b:=b.ak[i].wide) aa;generalize d % b.ak[i].wide=c at c1 c2;rw[xU h f hi,Ja h f];by_cases e:(bH b).length=0
 .rw[if_pos e,if_pos e,LO h f hi e];rfl
 rw[if_neg e,if_neg e];obtain ⟨L,l⟩:=LP h f e;obtain ⟨M,Y,N⟩:=l i hi;rw[M];have t:∀k,k<b.ak.length->∀y∈L k,0<=y/\y<b.steps:=by
  intro k a y u;obtain ⟨v,hv,rfl⟩:=((l k a).2.2 y).1 u;obtain ⟨w,_,_,_,_,O,_⟩:=tD h hv;have:=O k a;omega
 have hlen:∀k,k<b.ak.length->(L k).length<=1000000:=by
  intro k a;have:=yM (l k a).2.1 (t k a) aa;omega
 have P:m5 b (at_:Int) (iW b b.steps.toNat,0)=some true:=by
  unfold m5;simp only[rC]
  let m:Nat->Bool:=fun k=>match b.ak[k]? with
   |some s=>(L k).any fun y=>decide (((at_:Int) - y+b.steps) % b.steps<s.wide)
   |none=>false
  have key:aQ (pN b (at_:Int)) fu (false,false,0)=some (cP (cr (fun _=>(none:Option Bool)) b.ak.length) (false,(List.range b.ak.length).any m,(b.ak.length:Int))):=by
   refine gz _ (fun k=>(false,(List.range k).any m,(k:Int))) b.ak.length aa (fun k a=>?_) ?_
   .have hs:b.ak[k]?=some b.ak[k]:=List.getElem?_eq_getElem a;have Q:=LQ h hs A (x:=(L k,0)) (t k a) (hlen k a) ((List.range k).any m);unfold pN;rw[gX a];simp only[cond];rw[(l k a).1];simp only[ai];rw[show ((0:Int) != 0)=false from rfl];simp only;rw[Q];simp only[az];rw[gA aa,List.range_succ,List.any_append];simp only[List.any_cons,List.any_nil,Bool.or_false];have:m k=(L k).any fun y=>decide (((at_:Int) - y+b.steps) % b.steps<b.ak[k].wide):=by
     show (match b.ak[k]? with
      |some s=>(L k).any fun y=>decide (((at_:Int) - y+b.steps) % b.steps<s.wide)
      |none=>false)=_
     rw[hs]
    rw[this];rfl
   .unfold pN;rw[gY];rfl
  rw[key,fH.2 (fun _ _=>rfl)];simp only[cP,ai,az];cases C:(List.range b.ak.length).any m
  .simp only[cond];have Z:=Cg b b.steps.toNat;rw[B7 _ _ aa];have:(at_:Int)∈iW b b.steps.toNat:=by
    rw[I9];refine ⟨A,fun v hv=>?_⟩;cases R:cv b v at_
    .rfl
    .exfalso;obtain ⟨k,s,hs,_,S⟩:=Ds.1 R;have a:=(List.getElem?_eq_some_iff.1 hs).1;rw[List.any_eq_false] at C;refine C k (List.mem_range.2 a) ?_
     show (match b.ak[k]? with
      |some s=>(L k).any fun y=>decide (((at_:Int) - y+b.steps) % b.steps<s.wide)
      |none=>false)=true
     rw[hs];exact List.any_eq_true.2 ⟨v.au.at k,((l k a).2.2 _).2 ⟨v,hv,rfl⟩,by simpa using S⟩
   rw[decide_eq_true this]
  .rfl
 simp only[P];cases hW:(gM (List.countP (fun v=>(wv v).testBit i) (bH b)) (bH b).length==2)
 .rfl
 cases T:(((L i).length:Int)==1)
 .rfl
 have D:=(tF (List.countP_le_length) e).2.1 (by simpa using hW);rw[List.countP_eq_zero] at D;obtain ⟨x0,z⟩:∃x0,L i=[x0]:=by
  have V:((L i).length:Int)=1:=by simpa using T
  have:(L i).length=1:=by omega
  exact List.length_eq_one_iff.1 this
 have U:∀v∈bH b,v.au.at i=x0:=fun v hv=>by
  have:=(N _).2 ⟨v,hv,rfl⟩;rw[z] at this;simpa using this
 have ab:=t i hi x0 (by rw[z];simp);rw[z];have V:=Int.emod_nonneg (x0+c) (b:=b.steps) aa;have m2:=Int.emod_lt_of_pos (x0+c) (b:=b.steps) aa;have E:((x0+c) % b.steps - x0+b.steps) % b.steps=c:=by
  rw[show (x0+c) % b.steps - x0+b.steps=(x0+c) % b.steps+(-x0+b.steps) by omega,Int.emod_add_emod,show x0+c+(-x0+b.steps)=c+b.steps by omega,Int.add_emod_right];exact Int.emod_eq_of_lt c1 aa
 have W:bD [x0] 0=some x0:=rfl;simp only[W];unfold fD;rw[if_neg aa,wr aa,qY aa];simp only;generalize (x0+c) % b.steps=q at V m2 E;obtain ⟨j,rfl⟩:∃j:Nat,q=(j:Int):=⟨q.toNat,aa⟩
 rw[I7 h f (show j<b.steps.toNat by omega),if_neg e];have u:gM ((bH b).countP fun v=>cv b v j) (bH b).length=1:=by
  refine (tF List.countP_le_length e).1.2 (List.countP_eq_length.2 fun v hv=>?_);refine Ds.2 ⟨i,_,r,by simpa using D v hv,?_⟩;rw[U v hv,E];exact c2
 rw[u];rfl
end Go.Proofs.YtlchekhkopimhaaGreatDoor
end

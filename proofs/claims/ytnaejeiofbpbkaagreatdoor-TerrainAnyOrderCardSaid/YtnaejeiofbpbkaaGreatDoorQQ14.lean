/- A part of the proof: QQ14. -/
import Derived.Test.YtnaejeiofbpbkaaGreatDoorQQ13
set_option linter.all false
section
namespace Go.Proofs.YtnaejeiofbpbkaaGreatDoor
open Go Go.Sep Go.Proofs
set_option maxRecDepth 100000
set_option maxHeartbeats 4000000
set_option maxHeartbeats 40000000 in
theorem MV {Φ:Goroutine->aa->Prop}(hJ:Closed Tryz.prog true (dH Tryz.prog Φ)){A:Act}{ro:Addr->Option Value}(u0:aj)(C:Int)(w:Int)(x:Int)(D:Int)(k:(List bL))(l:(List bO))(m:(List bA)){E G:Nat}(a:di ro){y:Value}(b:az eT ro y u0.ax){H:Value}(c:az dI ro H k){I:Value}(d:az ej ro I l){J:Value}(e:az cU ro J m){K:Value}(g:az dI ro K u0.props){L:Value}(f:az ej ro L u0.an){M:Value}(i:az cU ro M u0.told)(bd:sz A=343/\A.defers=[]/\slot A 1= .int .u8 C/\slot A 2= .int .u8 w/\slot A 3= .int .u8 x/\slot A 4= .int .u8 D/\slot A 5= .pointer (some ⟨G,0,none⟩)/\slot A 10= .bool false/\slot A 11= .pointer (some ⟨E,0,none⟩)/\slot A 12= .int .i64 (IntKind.i64.wrap ((u0.an.length:Int) - 1)))(h:vN u0 C w x D k l m=some true):Wp (dH Tryz.prog Φ) (bu (bu (bu (bu (bu (bu (bu (Tryz.f4.body.getD .skip)))))))) (g5 Tryz.prog [.tmp 10] (fun v _=>v= .bool true)) A ⟨ro,(E,bk u0 y H I J)::(G,bk u0 y K L M)::[]⟩:=by
 obtain ⟨bj,hd,k1,bl,bm,bo,br,bs,bz,b0⟩:=bd;obtain ⟨d17,gB,rfl,gC,gM,-⟩:=id f;unfold vN at h;refine fF hJ fun N b1=>?_;have b2:=N.nd;try simp only[keys,List.map_cons,List.map_nil,List.map_append,List.cons_append,List.nil_append,List.nodup_cons,List.mem_cons,List.mem_append,List.not_mem_nil,or_false,not_or] at b2
 simp only[bq] at b1;apply ag hJ;refine de hJ mixed 13 2 (by simp (maxSteps:=9^9) only[*,go_sem]) (by kernel_rfl) ?_;revert h;refine bS fun u O h=>?_;obtain ⟨gT,gV⟩:=mZ O;clear O;revert h;refine bS fun P b3 h=>?_;simp (maxSteps:=9^9) only[*,go_sem];refine ⟨_,bI hJ fun F g0=>Je w x b3,ck ?_⟩;revert h;refine bS fun Q R h=>?_;obtain ⟨g1,g2⟩:=mZ R;clear R;simp (maxSteps:=9^9) only[*,go_sem];refine aA fun g3 g4 S=>?_;have b4:=aR.cons S N;try simp only[av] at S
 simp (maxSteps:=9^9) only[*,go_sem];apply ah hJ;revert h;refine bS fun ha b5 h=>?_;simp (maxSteps:=9^9) only[*,go_sem];refine bn hJ _ (xO (a.mono aL) u0 ⟨(b.mono aL),(g.mono aL),(f.mono aL),(i.mono aL)⟩ P b5) (aJ ?_);simp (maxSteps:=9^9) only[*,go_sem];refine aA fun hc hf T=>?_;have ca:=aR.cons T b4;try simp only[av] at T
 apply ah hJ;revert h;refine bS fun hg cb h=>?_;simp (maxSteps:=9^9) only[*,go_sem];refine bn hJ _ (xO (a.mono aL) (⟨u0.bB,u0.bH,u0.aO,u0.ax,k,l,m⟩:aj) ⟨(b.mono aL),(c.mono aL),(d.mono aL),(e.mono aL)⟩ P cb) (aJ ?_);simp (maxSteps:=9^9) only[*,go_sem];refine aA fun hh hi U=>?_;have cd:=aR.cons U ca;try simp only[av] at U
 apply ag hJ;refine eX [5,10,11,12,16,18,19,20,21,22,23,24] fun hj V W X=>?_;simp only[*,go_sem] at V W X;clear bj hd k1 bl bm bo br bs bz b0;apply ak hJ;revert h;refine bS fun hk cf h=>?_;simp (maxSteps:=9^9) only[*,go_sem];refine bn hJ _ (yA (a.mono aL) u0 ⟨(b.mono aL),(g.mono aL),(f.mono aL),(i.mono aL)⟩ cf) (aJ ?_);simp (maxSteps:=9^9) only[*,go_sem];apply ah hJ;revert h;refine bS fun hl cl h=>?_;simp (maxSteps:=9^9) only[*,go_sem];refine bn hJ _ (yA (a.mono aL) (⟨u0.bB,u0.bH,u0.aO,u0.ax,k,l,m⟩:aj) ⟨(b.mono aL),(c.mono aL),(d.mono aL),(e.mono aL)⟩ cl) (aJ ?_);simp (maxSteps:=9^9) only[*,go_sem];apply ah hJ;revert h;refine bS fun cy c0 h=>?_;simp (maxSteps:=9^9) only[*,go_sem];refine b6 hJ _ (rG a u0 ⟨b,g,f,i⟩ u c0) fun v hn p da j=>?_;obtain ⟨ho,rfl,z⟩:=j;replace b:=b.mono p;replace g:=g.mono p;replace f:=f.mono p;replace i:=i.mono p;replace c:=c.mono p;replace d:=d.mono p;replace e:=e.mono p;replace a:=a.mono p;simp only[bq] at da;apply aJ;simp (maxSteps:=9^9) only[*,go_sem];apply ah hJ;revert h;refine bS fun db dd h=>?_;simp (maxSteps:=9^9) only[*,go_sem];refine b6 hJ _ (rG a (⟨u0.bB,u0.bH,u0.aO,u0.ax,k,l,m⟩:aj) ⟨b,c,d,e⟩ (IntKind.i64.wrap ((IntKind.i64.wrap ((u0.an.length:Int) - 1)) - u)) dd) fun v hp n df j=>?_;obtain ⟨hq,rfl,dk⟩:=j;replace b:=b.mono n;replace g:=g.mono n;replace f:=f.mono n;replace i:=i.mono n;replace c:=c.mono n;replace d:=d.mono n;replace e:=e.mono n;replace z:=z.mono n;replace a:=a.mono n;simp only[bq] at df;apply aJ;simp (maxSteps:=9^9) only[*,go_sem];apply ag hJ;refine eX [5,10,11,12,16,18,19,20,21,22,23,24,25,26,27,28,29,30,31,32] fun hr Y Z ab=>?_;simp only[*,go_sem] at Y Z ab;clear V W X;apply ak hJ;revert h;refine bS fun hs dp h=>?_;simp (maxSteps:=9^9) only[*,go_sem];refine bn hJ _ (yx (a.mono aL) u0 ⟨(b.mono aL),(g.mono aL),(f.mono aL),(i.mono aL)⟩ u dp) (aJ ?_);simp (maxSteps:=9^9) only[*,go_sem];refine aA fun ht hv ad=>?_;have dq:=aR.cons ad cd;try simp only[av] at ad
 refine aA fun hx hy ae=>?_;have ds:=aR.cons ae dq;try simp only[av] at ae
 simp (maxSteps:=9^9) only[*,go_sem];apply ah hJ;revert h;refine bS fun hz dt h=>?_;simp (maxSteps:=9^9) only[*,go_sem];refine bn hJ _ (yx (a.mono aL) (⟨u0.bB,u0.bH,u0.aO,u0.ax,k,l,m⟩:aj) ⟨(b.mono aL),(c.mono aL),(d.mono aL),(e.mono aL)⟩ (IntKind.i64.wrap ((IntKind.i64.wrap ((u0.an.length:Int) - 1)) - u)) dt) (aJ ?_);simp (maxSteps:=9^9) only[*,go_sem];refine aA fun hA hB al=>?_;have du:=aR.cons al ds;try simp only[av] at al
 refine aA fun hD hE ao=>?_;have dv:=aR.cons ao du;try simp only[av] at ao
 simp (maxSteps:=9^9) only[*,go_sem];refine ag hJ (ah hJ ?_);revert h;refine cS (fun dC h=>?_) fun dC h=>?_
 .cases h
 revert h;refine cS (fun dE h=>?_) fun dE h=>?_
 .cases h
 revert h;refine cS (fun dT h=>?_) fun dT h=>?_
 .cases h
 revert h;refine cS (fun ea h=>?_) fun ea h=>?_
 .cases h
 revert h;refine cS (fun ar h=>?_) fun ar h=>?_
 .cases h
 rw[Bool.not_eq_false'] at ar;revert h;refine cS (fun a0 h=>?_) fun a0 h=>?_
 .cases h
 rw[Bool.not_eq_false'] at a0;revert h;refine cS (fun eb h=>?_) fun eb h=>?_
 .cases h
 revert h;refine cS (fun ec h=>?_) fun ec h=>?_
 .cases h
 revert h;refine bS fun hF ed h=>?_;simp (maxSteps:=9^9) only[*,go_sem];refine bn hJ _ (xG cy.1 (z.mono aL) db.1 (dk.mono aL) ed) (aJ ?_);revert h;refine cS (fun a2 h=>?_) fun a2 h=>?_
 .cases h
 rw[Bool.not_eq_false'] at a2;revert h;refine cS (fun eh h=>?_) fun eh h=>?_
 .cases h
 revert h;refine cS (fun a3 h=>?_) fun a3 h=>?_
 .cases h
 rw[Bool.not_eq_false'] at a3;simp (maxSteps:=9^9) only[*,go_sem];revert h;refine cS (fun a4 h=>?_) fun a4 h=>?_
 .cases h
 refine cn hJ ?_;rw[Bool.not_eq_false'] at a4;refine aI hJ (ag hJ ?_);refine eX [5,10,11,18,21,24,26,28,29,30,31,32,33,34,35,36,37,38] fun hG a5 a6 a7=>?_;simp only[*,go_sem] at a5 a6 a7;clear Y Z ab;apply ak hJ;revert h;refine bS fun hI et h=>?_;simp (maxSteps:=9^9) only[*,go_sem];refine bn hJ _ (uF (a.mono aL) u0 ⟨(b.mono aL),(g.mono aL),(f.mono aL),(i.mono aL)⟩ et) (aJ ?_);simp (maxSteps:=9^9) only[*,go_sem];refine aA fun hK hL a8=>?_;have ev:=aR.cons a8 dv;try simp only[av] at a8
 apply ah hJ;revert h;refine bS fun hM eQ h=>?_;simp (maxSteps:=9^9) only[*,go_sem];refine bn hJ _ (uF (a.mono aL) (⟨u0.bB,u0.bH,u0.aO,u0.ax,k,l,m⟩:aj) ⟨(b.mono aL),(c.mono aL),(d.mono aL),(e.mono aL)⟩ eQ) (aJ ?_);simp (maxSteps:=9^9) only[*,go_sem];refine aA fun hN hP a9=>?_;have hQ:=aR.cons a9 ev;try simp only[av] at a9
 apply ah hJ;revert h;refine bS fun hR eS h=>?_;simp (maxSteps:=9^9) only[*,go_sem];refine bn hJ _ (yw (a.mono aL) u0 ⟨(b.mono aL),(g.mono aL),(f.mono aL),(i.mono aL)⟩ eS) (aJ ?_);simp (maxSteps:=9^9) only[*,go_sem];apply ag hJ;refine eX [5,10,11,18,21,24,26,28,29,30,31,32,33,34,35,36,37,38,40,42,43] fun hS ba bb bc=>?_;simp only[*,go_sem] at ba bb bc;clear a5 a6 a7;apply ak hJ;revert h;refine bS fun hT e0 h=>?_;simp (maxSteps:=9^9) only[*,go_sem];refine bn hJ _ (yw (a.mono aL) (⟨u0.bB,u0.bH,u0.aO,u0.ax,k,l,m⟩:aj) ⟨(b.mono aL),(c.mono aL),(d.mono aL),(e.mono aL)⟩ e0) (aJ ?_);simp (maxSteps:=9^9) only[*,go_sem];apply ah hJ;revert h;refine bS fun e1 e2 h=>?_;simp (maxSteps:=9^9) only[*,go_sem];refine oK _ (z0 a u0 ⟨b,g,f,i⟩ (IntKind.i64.wrap (1+Q)) e2) fun v hV q e3 j=>?_;obtain ⟨hX,rfl,r⟩:=j;replace b:=b.mono q;replace c:=c.mono q;replace d:=d.mono q;replace e:=e.mono q;replace g:=g.mono q;replace f:=f.mono q;replace i:=i.mono q;replace a:=a.mono q;simp only[bq] at e3;apply aJ;simp (maxSteps:=9^9) only[*,go_sem];apply ah hJ;revert h;refine bS fun fa fb h=>?_;simp (maxSteps:=9^9) only[*,go_sem];refine oK _ (z0 a (⟨u0.bB,u0.bH,u0.aO,u0.ax,k,l,m⟩:aj) ⟨b,c,d,e⟩ (IntKind.i64.wrap (1+Q)) fb) fun v hY o ff j=>?_;obtain ⟨hZ,rfl,t⟩:=j;replace r:=r.mono o;replace b:=b.mono o;replace c:=c.mono o;replace d:=d.mono o;replace e:=e.mono o;replace g:=g.mono o;replace f:=f.mono o;replace i:=i.mono o;replace a:=a.mono o;simp only[bq] at ff;apply aJ;simp (maxSteps:=9^9) only[*,go_sem];apply ah hJ;revert h;refine bS fun h0 fg h=>?_;simp (maxSteps:=9^9) only[*,go_sem];refine b6 hJ _ (uE a u0 ⟨b,g,f,i⟩ fg) fun v h1 s fi j=>?_;obtain ⟨h2,rfl,fl⟩:=j;replace r:=r.mono s;replace t:=t.mono s;replace b:=b.mono s;replace c:=c.mono s;replace d:=d.mono s;replace e:=e.mono s;replace a:=a.mono s;simp only[bq] at fi;obtain ⟨h3,h4,rfl,h5,h6,-⟩:=id fl;apply aJ;simp (maxSteps:=9^9) only[*,go_sem];apply ag hJ;refine eX [10,11,21,24,26,28,29,30,31,32,33,34,35,36,37,38,40,42,43,44,45] fun h7 fp fq fr=>?_;simp only[*,go_sem] at fp fq fr;clear ba bb bc;apply ak hJ;revert h;refine bS fun h8 fs h=>?_;simp (maxSteps:=9^9) only[*,go_sem];refine b6 hJ _ (uE a (⟨u0.bB,u0.bH,u0.aO,u0.ax,k,l,m⟩:aj) ⟨b,c,d,e⟩ fs) fun v h9 B ft j=>?_;obtain ⟨ib,rfl,fu⟩:=j;replace r:=r.mono B;replace t:=t.mono B;replace a:=a.mono B;simp only[bq] at ft;obtain ⟨ic,ih,rfl,ik,il,-⟩:=id fu;apply aJ;simp (maxSteps:=9^9) only[*,go_sem];apply ah hJ;revert h;refine cS (fun fv h=>?_) fun fv h=>?_
 .revert h;refine cS (fun fw h=>?_) fun fw h=>?_
  .revert h;refine cS (fun fx h=>?_) fun fx h=>?_
   .revert h;refine cS (fun fz h=>?_) fun fz h=>?_
    .revert h;refine cS (fun fP h=>?_) fun fP h=>?_
     .revert h;refine cS (fun fQ h=>?_) fun fQ h=>?_
      .revert h;refine cS (fun fS h=>?_) fun fS h=>?_
       .revert h;refine bS fun im fU h=>?_;simp (maxSteps:=9^9) only[*,go_sem];refine bn hJ _ (xG e1.1 (r.mono aL) fa.1 (t.mono aL) fU) (aJ ?_);revert h;refine cS (fun gg h=>?_) fun gg h=>?_
        .revert h;refine cS (fun gl h=>?_) fun gl h=>?_
         .revert h;refine cS (fun gn h=>?_) fun gn h=>?_
          .revert h;refine bS fun iv gp h=>?_;cases h;simp (maxSteps:=9^9) only[*,go_sem];refine Br _ (E1 a gp) (aJ ?_);simp (maxSteps:=9^9) only[*,go_sem];apply aE;simp only[*,go_sem]
          cases h
         cases h
        cases h
       cases h
      cases h
     cases h
    cases h
   cases h
  cases h
 cases h
set_option maxHeartbeats 40000000 in
theorem MW {Φ:Goroutine->aa->Prop}(hJ:Closed Tryz.prog true (dH Tryz.prog Φ)){A:Act}{ro:Addr->Option Value}(u0:aj)(t:Int)(u:Int)(w:Int)(y:Int)(D:(List bL))(E:(List bO)){e f:Nat}(G:di ro){a:Value}(H:az eT ro a u0.ax){i:Value}(I:az dI ro i D){j:Value}(J:az ej ro j E){k:Value}(K:az dI ro k u0.props){S:Value}(z:az ej ro S u0.an){T:Value}(p:az cU ro T u0.told)(ao:sz A=343/\A.defers=[]/\slot A 1= .int .u8 t/\slot A 2= .int .u8 u/\slot A 3= .int .u8 w/\slot A 4= .int .u8 y/\slot A 5= .pointer (some ⟨f,0,none⟩)/\slot A 10= .bool false/\slot A 11= .pointer (some ⟨e,0,none⟩)/\slot A 12= .int .i64 (IntKind.i64.wrap ((u0.an.length:Int) - 1)))(h:vO u0 t u w y D E=some true):Wp (dH Tryz.prog Φ) (bu (bu (bu (bu (bu (bu (Tryz.f4.body.getD .skip))))))) (g5 Tryz.prog [.tmp 10] (fun v _=>v= .bool true)) A ⟨ro,(e,bk u0 a i j (.slice none 0 0))::(f,bk u0 a k S T)::[]⟩:=by
 obtain ⟨ar,hd,k1,a0,a2,a3,a4,a5,a6,a7⟩:=ao;obtain ⟨d17,q,rfl,db,dd,-⟩:=id z;obtain ⟨d24,s,rfl,df,dk,-⟩:=id p;unfold vO at h;refine fF hJ fun a8 L=>?_;have a9:=a8.nd;try simp only[keys,List.map_cons,List.map_nil,List.map_append,List.cons_append,List.nil_append,List.nodup_cons,List.mem_cons,List.mem_append,List.not_mem_nil,or_false,not_or] at a9
 replace ba:=L.hd;replace bb:=L.tl.hd;simp only[bq] at L;refine ag hJ (ah hJ ?_);simp (maxSteps:=9^9) only[*,go_sem];apply aT hJ;revert h;refine bS fun bc B bd=>?_;refine bT hJ (rg 96 24 [15]) (fun m bj F'=>∃(d184:Option Addr) (g:Nat) (M:List (Nat×Obj)) (C:Int) (b:(List bA)),aU (om u0) m (C,b)=some bc/\F'=⟨ro,(e,bk u0 a i j (sl d184 b g))::(f,bk u0 a k (sl d17 u0.an q) (sl d24 u0.told s))::M⟩/\aQ cU ro 49 (.slice d184 b.length g) b M/\b.length<=g/\slot bj 15= .int .i64 C) fu ?_ ?_
 .refine ⟨none,0,[],(IntKind.i64.wrap ((u0.told.length:Int) - 1)),([]:List bA),B,rfl,aQ.nil _ _ _,Nat.le_refl _,?_⟩;simp (maxSteps:=9^9) only[*,go_sem]
 rintro N d F' c ⟨d184,g,M,C,b,B,rfl,U,dp,dq⟩;have ds:sz d=343:=by rw[c.size];simp (maxSteps:=9^9) only[*,go_sem]
 have dt:d.defers=[]:=by rw[c.defers];simp (maxSteps:=9^9) only[*,go_sem]
 have du:slot d 1= .int .u8 t:=by rw[c.cP 1 (by decide)];simp (maxSteps:=9^9) only[*,go_sem]
 have dv:slot d 2= .int .u8 u:=by rw[c.cP 2 (by decide)];simp (maxSteps:=9^9) only[*,go_sem]
 have dC:slot d 3= .int .u8 w:=by rw[c.cP 3 (by decide)];simp (maxSteps:=9^9) only[*,go_sem]
 have dE:slot d 4= .int .u8 y:=by rw[c.cP 4 (by decide)];simp (maxSteps:=9^9) only[*,go_sem]
 have dT:slot d 5= .pointer (some ⟨f,0,none⟩):=by rw[c.cP 5 (by decide)];simp (maxSteps:=9^9) only[*,go_sem]
 have ea:slot d 10= .bool false:=by rw[c.cP 10 (by decide)];simp (maxSteps:=9^9) only[*,go_sem]
 have eb:slot d 11= .pointer (some ⟨e,0,none⟩):=by rw[c.cP 11 (by decide)];simp (maxSteps:=9^9) only[*,go_sem]
 have ec:slot d 12= .int .i64 (IntKind.i64.wrap ((u0.an.length:Int) - 1)):=by rw[c.cP 12 (by decide)];simp (maxSteps:=9^9) only[*,go_sem]
 clear c ar hd k1 a0 a2 a3 a4 a5 a6 a7;obtain _|N:=N
 .exact absurd B (by simp only[aU,reduceCtorEq,not_false_eq_true])
 revert B;refine bS fun ed h O=>?_;unfold om at h;try dsimp only at h
 refine ag hJ (ag hJ ?_);refine ay hJ fun eh=>?_;apply ak hJ;simp (maxSteps:=9^9) only[*,go_sem];revert h;refine cS (fun V h=>?_) fun V h=>?_
 .try simp only[Int.ofNat_lt] at V
  refine cw hJ ?_;refine aI hJ (ag hJ ?_);apply aT hJ;refine ay hJ fun bl=>?_;refine eI hJ mixed [20] (.pure 0 (.rd 1 (.pure 2 (.pure 3 (.rd 4 (.pure 5 (.pure 6 (.pure 7 (.rd 8 (.pure 9 (.pure 10 (.rd 11 (.pure 12 (.pure 13 (.pure 14 (.rd 15 (.rd 16 (.one 17 (.one 18 (.pure 19 (.last 20 .done))))))))))))))))))))) ⟨ro,[(e,bk u0 a i j (sl d184 b g)),(f,bk u0 a k (sl d17 u0.an q) (sl d24 u0.told s))]⟩ (by simp (maxSteps:=9^9) only[*,go_sem]) (by kernel_rfl) ?_;revert h;refine bS fun P bm h=>?_;obtain ⟨et,ev,W⟩:=c5 bm;obtain ⟨X,bo,br,bs,Q⟩:=p.el _ _ W;obtain rfl:bo=P.cells:=bs;cases br;have bz:=Q 0 _ rfl;simp only[go_sem] at bz;have b0:=Q 1 _ rfl;simp only[go_sem] at b0;clear Q W;revert h;refine bS fun n b1 h=>?_;simp (maxSteps:=9^9) only[*,go_sem];refine ⟨_,bI hJ fun F eQ=>kD (IntKind.i64.wrap ((IntKind.i64.wrap ((u0.an.length:Int) - 1)) - P.aS)) P.bt b1,bV ?_⟩;revert h;refine bS fun b2 b3 h=>?_;cases h;obtain ⟨b4,Y⟩:=dr b3;simp (maxSteps:=9^9) only[*,go_sem];refine aA fun Z b5 ab=>?_;have ca:=aR.cons ab bl;try simp only[av] at ab
  simp (maxSteps:=9^9) only[*,go_sem];refine dW (r:=cU) (l:=b) (x:=n) (cs:=#[.int .i64 n.aS,.bool n.bt]) (e2:=49) [(Z,.cells #[.int .i64 n.aS,.bool n.bt] 49),(e,bk u0 a i j (sl d184 b g)),(f,bk u0 a k (sl d17 u0.an q) (sl (some X) u0.told s))] [] U ca b4 rfl (by simp (maxSteps:=9^9) only[*,go_sem]) b5 rfl rfl ep ep iw iz rfl iy (by decide) (by decide) (fun eS ad R cb cd e0=>?_);try simp only[aV] at cd
  subst cb;rw[<-Y] at R;clear Y;obtain ⟨cf,cl,rfl,cy⟩:=R.len;refine ⟨⟨ro,(Z,.cells #[.int .i64 n.aS,.bool n.bt] 49)::(e,bk u0 a i j (sl d184 b g))::(f,bk u0 a k (sl d17 u0.an q) (sl (some X) u0.told s))::ad⟩,Le.refl _,?_⟩;refine ⟨by simp (maxSteps:=9^9) only[*,go_sem],bV ?_⟩;simp (maxSteps:=9^9) only[*,go_sem];refine ay hJ fun e1=>?_;apply ak hJ;simp (maxSteps:=9^9) only[*,go_sem];refine ⟨N,Nat.lt_succ_self _,_,Le.sub (List.Sublist.cons _ (List.Sublist.refl _)),cf,cl,ad,(IntKind.i64.wrap (C - 1)),b2,O,rfl,R,cy,?_⟩;simp (maxSteps:=9^9) only[*,go_sem]
 cases h;refine cn hJ ?_;apply bR;try simp only[go_sem]
 obtain rfl:=sI O;clear O;have h:=bd;dsimp only[aC] at h;refine ay hJ fun ae=>?_;obtain ⟨e3,o,c0,al,da⟩:=U.eR [(e,bk u0 a i j (sl d184 b g)),(f,bk u0 a k (sl d17 u0.an q) (sl d24 u0.told s))] [] ae (aD.cons ba (aD.cons bb (aD.nil _)));clear ae;refine cz hJ da ?_;obtain ⟨fa,fb,-⟩:=al.op;replace H:=H.mono o;replace I:=I.mono o;replace J:=J.mono o;replace K:=K.mono o;replace z:=z.mono o;replace p:=p.mono o;replace G:=G.mono o;simp only[bq] at c0;show Wp _ _ _ _ _;exact cz hJ (Le.sub (.cons₂ _ (.cons₂ _ (List.Sublist.refl _)))) (MV hJ u0 t u w y D E b G H I J al K z p (by simp (maxSteps:=9^9) only[*,go_sem]) h)
set_option maxHeartbeats 40000000 in
theorem MX {Φ:Goroutine->aa->Prop}(hJ:Closed Tryz.prog true (dH Tryz.prog Φ)){A:Act}{ro:Addr->Option Value}(u0:aj)(s:Int)(t:Int)(u:Int)(w:Int)(C:(List bL)){f g:Nat}(D:di ro){a:Value}(E:az eT ro a u0.ax){j:Value}(F:az dI ro j C){k:Value}(G:az dI ro k u0.props){N:Value}(p:az ej ro N u0.an){n:Value}(H:az cU ro n u0.told)(Y:sz A=343/\A.defers=[]/\slot A 1= .int .u8 s/\slot A 2= .int .u8 t/\slot A 3= .int .u8 u/\slot A 4= .int .u8 w/\slot A 5= .pointer (some ⟨g,0,none⟩)/\slot A 10= .bool false/\slot A 11= .pointer (some ⟨f,0,none⟩)/\slot A 12= .int .i64 (IntKind.i64.wrap ((u0.an.length:Int) - 1)))(h:vP u0 s t u w C=some true):Wp (dH Tryz.prog Φ) (bu (bu (bu (bu (bu (Tryz.f4.body.getD .skip)))))) (g5 Tryz.prog [.tmp 10] (fun v _=>v= .bool true)) A ⟨ro,(f,bk u0 a j (.slice none 0 0) (.slice none 0 0))::(g,bk u0 a k N n)::[]⟩:=by
 obtain ⟨Z,hd,k1,ab,ad,ae,al,ao,ar,a0⟩:=Y;obtain ⟨d17,q,rfl,cb,cd,-⟩:=id p;unfold vP at h;refine fF hJ fun a2 I=>?_;have a3:=a2.nd;try simp only[keys,List.map_cons,List.map_nil,List.map_append,List.cons_append,List.nil_append,List.nodup_cons,List.mem_cons,List.mem_append,List.not_mem_nil,or_false,not_or] at a3
 replace a4:=I.hd;replace a5:=I.tl.hd;simp only[bq] at I;refine ag hJ (ah hJ ?_);simp (maxSteps:=9^9) only[*,go_sem];apply aT hJ;revert h;refine bS fun a6 y a7=>?_;refine bT hJ (rg 78 14 [14]) (fun m a8 F'=>∃(d111:Option Addr) (i:Nat) (J:List (Nat×Obj)) (z:Int) (b:(List bO)),aU (oo u0) m (z,b)=some a6/\F'=⟨ro,(f,bk u0 a j (sl d111 b i) (.slice none 0 0))::(g,bk u0 a k (sl d17 u0.an q) n)::J⟩/\aQ ej ro 47 (.slice d111 b.length i) b J/\b.length<=i/\slot a8 14= .int .i64 z) fu ?_ ?_
 .refine ⟨none,0,[],(IntKind.i64.wrap ((u0.an.length:Int) - 1)),([]:List bO),y,rfl,aQ.nil _ _ _,Nat.le_refl _,?_⟩;simp (maxSteps:=9^9) only[*,go_sem]
 rintro K e F' c ⟨d111,i,J,z,b,y,rfl,O,cf,cl⟩;have cy:sz e=343:=by rw[c.size];simp (maxSteps:=9^9) only[*,go_sem]
 have c0:e.defers=[]:=by rw[c.defers];simp (maxSteps:=9^9) only[*,go_sem]
 have da:slot e 1= .int .u8 s:=by rw[c.cP 1 (by decide)];simp (maxSteps:=9^9) only[*,go_sem]
 have db:slot e 2= .int .u8 t:=by rw[c.cP 2 (by decide)];simp (maxSteps:=9^9) only[*,go_sem]
 have dd:slot e 3= .int .u8 u:=by rw[c.cP 3 (by decide)];simp (maxSteps:=9^9) only[*,go_sem]
 have df:slot e 4= .int .u8 w:=by rw[c.cP 4 (by decide)];simp (maxSteps:=9^9) only[*,go_sem]
 have dk:slot e 5= .pointer (some ⟨g,0,none⟩):=by rw[c.cP 5 (by decide)];simp (maxSteps:=9^9) only[*,go_sem]
 have dp:slot e 10= .bool false:=by rw[c.cP 10 (by decide)];simp (maxSteps:=9^9) only[*,go_sem]
 have dq:slot e 11= .pointer (some ⟨f,0,none⟩):=by rw[c.cP 11 (by decide)];simp (maxSteps:=9^9) only[*,go_sem]
 have ds:slot e 12= .int .i64 (IntKind.i64.wrap ((u0.an.length:Int) - 1)):=by rw[c.cP 12 (by decide)];simp (maxSteps:=9^9) only[*,go_sem]
 clear c Z hd k1 ab ad ae al ao ar a0;obtain _|K:=K
 .exact absurd y (by simp only[aU,reduceCtorEq,not_false_eq_true])
 revert y;refine bS fun dt h L=>?_;unfold oo at h;try dsimp only at h
 refine ag hJ (ag hJ ?_);refine ay hJ fun du=>?_;apply ak hJ;simp (maxSteps:=9^9) only[*,go_sem];revert h;refine cS (fun P h=>?_) fun P h=>?_
 .try simp only[Int.ofNat_lt] at P
  refine cw hJ ?_;refine aI hJ (ag hJ ?_);apply aT hJ;refine ay hJ fun a9=>?_;refine eI hJ mixed [10] (.pure 0 (.rd 1 (.pure 2 (.rd 3 (.pure 4 (.pure 5 (.rd 6 (.one 7 (.one 8 (.pure 9 (.last 10 .done))))))))))) ⟨ro,[(f,bk u0 a j (sl d111 b i) (.slice none 0 0)),(g,bk u0 a k (sl d17 u0.an q) n)]⟩ (by simp (maxSteps:=9^9) only[*,go_sem]) (by kernel_rfl) ?_;revert h;refine bS fun d ba h=>?_;obtain ⟨dv,dC,Q⟩:=c5 ba;obtain ⟨R,bb,bc,bd,B⟩:=p.el _ _ Q;obtain rfl:bb=d.cells:=bd;cases bc;have bj:=B 0 _ rfl;simp only[go_sem] at bj;have bl:=B 1 _ rfl;simp only[go_sem] at bl;have bm:=B 2 _ rfl;simp only[go_sem] at bm;clear B Q;revert h;refine bS fun bo br h=>?_;cases h;obtain ⟨bs,S⟩:=dr br;simp (maxSteps:=9^9) only[*,go_sem];refine aA fun T bz U=>?_;have b0:=aR.cons U a9;try simp only[av] at U
  simp (maxSteps:=9^9) only[*,go_sem];refine dW (r:=ej) (l:=b) (x:=d) (cs:=#[.int .i64 d.back,.int .i64 d.high.low,.int .i64 d.high.high]) (e2:=47) [(T,.cells #[.int .i64 d.back,.int .i64 d.high.low,.int .i64 d.high.high] 47),(f,bk u0 a j (sl d111 b i) (.slice none 0 0)),(g,bk u0 a k (sl (some R) u0.an q) n)] [] O b0 bs rfl (by simp (maxSteps:=9^9) only[*,go_sem]) bz rfl rfl s9 s9 Bw By rfl Bx (by decide) (by decide) (fun dE V M b1 b2 dT=>?_);try simp only[aV] at b2
  subst b1;rw[<-S] at M;clear S;obtain ⟨d166,b3,rfl,b4⟩:=M.len;refine ⟨⟨ro,(T,.cells #[.int .i64 d.back,.int .i64 d.high.low,.int .i64 d.high.high] 47)::(f,bk u0 a j (sl d111 b i) (.slice none 0 0))::(g,bk u0 a k (sl (some R) u0.an q) n)::V⟩,Le.refl _,?_⟩;refine ⟨by simp (maxSteps:=9^9) only[*,go_sem],bV ?_⟩;simp (maxSteps:=9^9) only[*,go_sem];refine ay hJ fun ea=>?_;apply ak hJ;simp (maxSteps:=9^9) only[*,go_sem];refine ⟨K,Nat.lt_succ_self _,_,Le.sub (List.Sublist.cons _ (List.Sublist.refl _)),d166,b3,V,(IntKind.i64.wrap (z - 1)),bo,L,rfl,M,b4,?_⟩;simp (maxSteps:=9^9) only[*,go_sem]
 cases h;refine cn hJ ?_;apply bR;try simp only[go_sem]
 obtain rfl:=sI L;clear L;have h:=a7;dsimp only[aC] at h;refine ay hJ fun W=>?_;obtain ⟨eb,o,b5,X,ca⟩:=O.eR [(f,bk u0 a j (sl d111 b i) (.slice none 0 0)),(g,bk u0 a k (sl d17 u0.an q) n)] [] W (aD.cons a4 (aD.cons a5 (aD.nil _)));clear W;refine cz hJ ca ?_;obtain ⟨ec,ed,-⟩:=X.op;replace E:=E.mono o;replace F:=F.mono o;replace G:=G.mono o;replace p:=p.mono o;replace H:=H.mono o;replace D:=D.mono o;simp only[bq] at b5;show Wp _ _ _ _ _;exact cz hJ (Le.sub (.cons₂ _ (.cons₂ _ (List.Sublist.refl _)))) (MW hJ u0 s t u w C b D E F X G p H (by simp (maxSteps:=9^9) only[*,go_sem]) h)
set_option maxHeartbeats 40000000 in
theorem MY {ro:Addr->Option Value}(q:di ro)(u0:aj){s1 J K L:Value}(a:bQ ro u0 s1 J K L)(s:Int)(u:Int)(w:Int)(z:Int){r:Bool}(X:r=true)(h:vQ u0 s u w z=some r):m3 Tryz.prog 4 #[bv u0 s1 J K L,.int .u8 s,.int .u8 u,.int .u8 w,.int .u8 z] ⟨ro,[]⟩ (fun v _=>v= .bool r):=by
 obtain ⟨d10,k,rfl,b5,ca,-⟩:=id a.p;obtain ⟨d17,n,rfl,cb,cd,-⟩:=id a.y;obtain ⟨d24,o,rfl,cf,cl,-⟩:=id a.t;subst X;unfold vQ at h;have Y:=a.oc;simp only[bJ] at Y;refine m3.go Tryz.func4 rfl Tryz.ntmps4 Tryz.results4 (by simp) (by kernel_rfl) fun Φ hJ A Z hd hs=>?_;have ab:=hs 0;have k1:=hs 1;have ad:=hs 2;have ae:=hs 3;have al:=hs 4;clear hs;apply ah hJ;simp (maxSteps:=9^9) only[*,go_sem];refine aA fun i ao ar=>?_;try simp only[av] at ar
 refine ag hJ (ah hJ ?_);revert h;refine bS fun cy a0 h=>?_;simp (maxSteps:=9^9) only[*,go_sem];refine bn hJ _ (Jd u0 (a.mono aL) a0) (aJ ?_);simp (maxSteps:=9^9) only[*,go_sem];revert h;refine cS (fun B h=>?_) fun B h=>?_
 .try simp only[Int.ofNat_lt] at B
  refine cw hJ ?_;rw[Bool.not_eq_true'] at B;apply ah hJ;revert h;refine bS fun c0 a2 h=>?_;cases h;simp (maxSteps:=9^9) only[*,go_sem];refine Br _ (E1 q a2) (aJ ?_);simp (maxSteps:=9^9) only[*,go_sem];apply aE;simp only[*,go_sem]
 refine cn hJ ?_;rw[Bool.not_eq_false'] at B;refine aI hJ (ag hJ ?_);refine de hJ mixed 5 1 (by simp (maxSteps:=9^9) only[*,go_sem]) (by kernel_rfl) ?_;simp (maxSteps:=9^9) only[*,go_sem];refine aA fun j a3 a4=>?_;try simp only[av] at a4
 simp (maxSteps:=9^9) only[*,go_sem];apply ah hJ;simp (maxSteps:=9^9) only[*,go_sem];refine ag hJ (ah hJ ?_);simp (maxSteps:=9^9) only[*,go_sem];apply aT hJ;revert h;refine bS fun a5 C a6=>?_;refine bT hJ (rg 63 14 [13]) (fun m a7 F'=>∃(d38:Option Addr) (f:Nat) (E:List (Nat×Obj)) (D:Int) (b:(List bL)),aU (oq u0) m (D,b)=some a5/\F'=⟨ro,(j,bk u0 s1 (sl d38 b f) (.slice none 0 0) (.slice none 0 0))::(i,bk u0 s1 (sl d10 u0.props k) (sl d17 u0.an n) (sl d24 u0.told o))::E⟩/\aQ dI ro 43 (.slice d38 b.length f) b E/\b.length<=f/\slot a7 13= .int .i64 D) fu ?_ ?_
 .refine ⟨none,0,[],(IntKind.i64.wrap ((u0.props.length:Int) - 1)),([]:List bL),C,rfl,aQ.nil _ _ _,Nat.le_refl _,?_⟩;simp (maxSteps:=9^9) only[*,go_sem]
 rintro F d F' c ⟨d38,f,E,D,b,C,rfl,M,da,db⟩;have dd:sz d=343:=by rw[c.size];simp (maxSteps:=9^9) only[*,go_sem]
 have df:d.defers=[]:=by rw[c.defers];simp (maxSteps:=9^9) only[*,go_sem]
 have dk:slot d 1= .int .u8 s:=by rw[c.cP 1 (by decide)];simp (maxSteps:=9^9) only[*,go_sem]
 have dp:slot d 2= .int .u8 u:=by rw[c.cP 2 (by decide)];simp (maxSteps:=9^9) only[*,go_sem]
 have dq:slot d 3= .int .u8 w:=by rw[c.cP 3 (by decide)];simp (maxSteps:=9^9) only[*,go_sem]
 have ds:slot d 4= .int .u8 z:=by rw[c.cP 4 (by decide)];simp (maxSteps:=9^9) only[*,go_sem]
 have dt:slot d 5= .pointer (some ⟨i,0,none⟩):=by rw[c.cP 5 (by decide)];simp (maxSteps:=9^9) only[*,go_sem]
 have du:slot d 10= .bool false:=by rw[c.cP 10 (by decide)];simp (maxSteps:=9^9) only[*,go_sem]
 have dv:slot d 11= .pointer (some ⟨j,0,none⟩):=by rw[c.cP 11 (by decide)];simp (maxSteps:=9^9) only[*,go_sem]
 have dC:slot d 12= .int .i64 (IntKind.i64.wrap ((u0.an.length:Int) - 1)):=by rw[c.cP 12 (by decide)];simp (maxSteps:=9^9) only[*,go_sem]
 clear c Z hd ab k1 ad ae al;obtain _|F:=F
 .exact absurd C (by simp only[aU,reduceCtorEq,not_false_eq_true])
 revert C;refine bS fun dE h G=>?_;unfold oq at h;try dsimp only at h
 refine ag hJ (ag hJ ?_);refine ay hJ fun dT=>?_;apply ak hJ;simp (maxSteps:=9^9) only[*,go_sem];revert h;refine cS (fun N h=>?_) fun N h=>?_
 .try simp only[Int.ofNat_lt] at N
  refine cw hJ ?_;refine aI hJ (ag hJ ?_);apply aT hJ;refine ay hJ fun a8=>?_;refine eI hJ mixed [10] (.pure 0 (.rd 1 (.pure 2 (.rd 3 (.pure 4 (.pure 5 (.rd 6 (.one 7 (.one 8 (.pure 9 (.last 10 .done))))))))))) ⟨ro,[(j,bk u0 s1 (sl d38 b f) (.slice none 0 0) (.slice none 0 0)),(i,bk u0 s1 (sl d10 u0.props k) (sl d17 u0.an n) (sl d24 u0.told o))]⟩ (by simp (maxSteps:=9^9) only[*,go_sem]) (by kernel_rfl) ?_;revert h;refine bS fun g a9 h=>?_;obtain ⟨ea,eb,O⟩:=c5 a9;obtain ⟨P,ba,bb,bc,H⟩:=a.p.el _ _ O;obtain rfl:ba=g.cells:=bc;cases bb;have bd:=H 0 _ rfl;simp only[go_sem] at bd;have bj:=H 1 _ rfl;simp only[go_sem] at bj;clear H O;revert h;refine bS fun bl bm h=>?_;cases h;obtain ⟨bo,Q⟩:=dr bm;simp (maxSteps:=9^9) only[*,go_sem];refine aA fun R br S=>?_;have bs:=aR.cons S a8;try simp only[av] at S
  simp (maxSteps:=9^9) only[*,go_sem];refine dW (r:=dI) (l:=b) (x:=g) (cs:=#[.int .i64 g.place,.int .i64 g.dg]) (e2:=43) [(R,.cells #[.int .i64 g.place,.int .i64 g.dg] 43),(j,bk u0 s1 (sl d38 b f) (.slice none 0 0) (.slice none 0 0)),(i,bk u0 s1 (sl (some P) u0.props k) (sl d17 u0.an n) (sl d24 u0.told o))] [] M bs bo rfl (by simp (maxSteps:=9^9) only[*,go_sem]) br rfl rfl j8 j8 qL qN rfl qM (by decide) (by decide) (fun ec T I bz b0 ed=>?_);try simp only[aV] at b0
  subst bz;rw[<-Q] at I;clear Q;obtain ⟨d93,b1,rfl,b2⟩:=I.len;refine ⟨⟨ro,(R,.cells #[.int .i64 g.place,.int .i64 g.dg] 43)::(j,bk u0 s1 (sl d38 b f) (.slice none 0 0) (.slice none 0 0))::(i,bk u0 s1 (sl (some P) u0.props k) (sl d17 u0.an n) (sl d24 u0.told o))::T⟩,Le.refl _,?_⟩;refine ⟨by simp (maxSteps:=9^9) only[*,go_sem],bV ?_⟩;simp (maxSteps:=9^9) only[*,go_sem];refine ay hJ fun eh=>?_;apply ak hJ;simp (maxSteps:=9^9) only[*,go_sem];refine ⟨F,Nat.lt_succ_self _,_,Le.sub (List.Sublist.cons _ (List.Sublist.refl _)),d93,b1,T,(IntKind.i64.wrap (D - 1)),bl,G,rfl,I,b2,?_⟩;simp (maxSteps:=9^9) only[*,go_sem]
 cases h;refine cn hJ ?_;apply bR;try simp only[go_sem]
 obtain rfl:=sI G;clear G;have h:=a6;dsimp only[aC] at h;refine ay hJ fun U=>?_;obtain ⟨et,V,b3,W,b4⟩:=M.eR [(j,bk u0 s1 (sl d38 b f) (.slice none 0 0) (.slice none 0 0)),(i,bk u0 s1 (sl d10 u0.props k) (sl d17 u0.an n) (sl d24 u0.told o))] [] U (aD.cons a3 (aD.cons ao (aD.nil _)));clear U;refine cz hJ b4 ?_;obtain ⟨ev,eQ,-⟩:=W.op;replace a:=a.mono V;replace q:=q.mono V;simp only[bq] at b3;show Wp _ _ _ _ _;exact cz hJ (Le.sub (.cons₂ _ (.cons₂ _ (List.Sublist.refl _)))) (MX hJ u0 s u w z b q a.e W a.p a.y a.t (by simp (maxSteps:=9^9) only[*,go_sem]) h)
end Go.Proofs.YtnaejeiofbpbkaaGreatDoor
end

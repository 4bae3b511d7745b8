/- A part of the proof of a row and its tied card: QM16. -/
import Derived.Test.YtghbphimkgamkaaGreatDoorQM15
set_option linter.all false
section
namespace Go.Proofs.YtghbphimkgamkaaGreatDoor
open Go Go.Sep Go.Proofs
set_option maxRecDepth 100000
set_option maxHeartbeats 4000000
set_option maxHeartbeats 40000000 in
theorem uR {Φ:Goroutine->aa->Prop}(hJ:Closed Tryz.prog true (dV Tryz.prog Φ)){A:Act}{ro:Addr->Option Value}(u0:aj)(b:cj)(j:Int)(C:Int)(H:(aj×Int)){k m n:Nat}(c:de ro){I J K L:Value}(M:bN ro H.1 I J K L){o q N r:Value}(a:bN ro u0 o q N r)(Z:sz A=119/\A.defers=[]/\slot A 5= .pointer (some ⟨n,0,none⟩)/\slot A 9= .pointer (some ⟨m,0,none⟩)/\slot A 10= .bool false/\slot A 11= .int .i64 j/\slot A 12= .int .i64 C/\slot A 13= .pointer (some ⟨k,0,none⟩))(h:l6 u0 b j C=some true):Wp (dV Tryz.prog Φ) (bA (bA (bA (bA (bA (Tryz.f5.body.getD .skip)))))) (iA Tryz.prog [.tmp 10] (fun v _=>v= .bool true)) A ⟨ro,(k,bk H.1 I J K L)::(m,.cells #[.int .i64 b.low,.int .i64 b.high] 56)::(n,bk u0 o q N r)::[]⟩:=by
 obtain ⟨cy,hd,c0,da,db,dd,df,dk⟩:=Z;obtain ⟨d17,O,rfl,dp,dq,-⟩:=id a.y;unfold l6 at h;have ab:=M.oc;simp only[bC] at ab;have ad:=a.oc;simp only[bC] at ad;refine fT hJ fun ae s=>?_;have al:=ae.nd;try simp only[keys,List.map_cons,List.map_nil,List.map_append,List.cons_append,List.nil_append,List.nodup_cons,List.mem_cons,List.mem_append,List.not_mem_nil,or_false,not_or] at al
 replace u:=s.hd;replace D:=s.tl.hd;replace E:=s.tl.tl.hd;simp only[bu] at s;refine ah hJ ?_;revert h;refine bS fun d ao h=>?_;try simp (maxSteps:=9^9) only[*,go_sem]
 refine b9 hJ _ (xI c u0 a j b ao) fun v ar P w G=>?_;obtain ⟨Q,R,S,T,rfl,f⟩:=G;have a0:=f.oc;simp only[bC] at a0;replace a:=a.mono P;replace u:=w.hd;replace D:=w.tl.hd;replace E:=w.tl.tl.hd;replace c:=c.mono P;simp only[bu] at w;refine aJ ?_;try simp (maxSteps:=9^9) only[*,go_sem]
 refine af hJ (ah hJ ?_);try simp (maxSteps:=9^9) only[*,go_sem]
 revert h;refine cS (fun U h=>?_) fun U h=>?_
 .try simp only[Int.ofNat_lt] at U
  refine b8 hJ ?_;refine ah hJ ?_;revert h;refine cS (fun a2 h=>?_) fun a2 h=>?_
  .revert h;refine bS fun ds a3 h=>?_;(try simp (maxSteps:=9^9) only[*,go_sem]);refine aU hJ _ (oH d.1 (f.mono aN) (⟨0,0,(⟨0,0⟩:an),([]:(List bT)),([]:(List bX)),([]:(List bL)),([]:(List bG))⟩:aj) ⟨(aA.nil _ _),(aA.nil _ _),(aA.nil _ _),(aA.nil _ _)⟩ a3) (aJ ?_);revert h;refine cS (fun a4 h=>?_) fun a4 h=>?_
   .revert h;refine bS fun dt a5 h=>?_;obtain rfl:=sI h;(try simp (maxSteps:=9^9) only[*,go_sem]);refine se _ (uP c a5) (aJ ?_);(try simp (maxSteps:=9^9) only[*,go_sem]);refine ax ?_;try simp only[*,go_sem]
   cases h
  revert h;refine cS (fun a6 h=>?_) fun a6 h=>?_
  .revert h;refine bS fun du a7 h=>?_;(try simp (maxSteps:=9^9) only[*,go_sem]);refine aU hJ _ (oH d.1 (f.mono aN) (⟨0,0,(⟨0,0⟩:an),([]:(List bT)),([]:(List bX)),([]:(List bL)),([]:(List bG))⟩:aj) ⟨(aA.nil _ _),(aA.nil _ _),(aA.nil _ _),(aA.nil _ _)⟩ a7) (aJ ?_);revert h;refine cS (fun a8 h=>?_) fun a8 h=>?_
   .revert h;refine bS fun dv a9 h=>?_;obtain rfl:=sI h;(try simp (maxSteps:=9^9) only[*,go_sem]);refine se _ (uP c a9) (aJ ?_);(try simp (maxSteps:=9^9) only[*,go_sem]);refine ax ?_;try simp only[*,go_sem]
   cases h
  cases h
 refine b6 hJ ?_;refine aI hJ (af hJ ?_);refine eE hJ mixed [] (.rd 0 (.rd 1 (.pure 2 (.pure 3 (.rd 4 (.pure 5 (.pure 6 (.pure 7 (.rd 8 (.rd 9 (.rd 10 (.one 11 (.one 12 (.pure 13 (.rd 14 (.rd 15 (.pure 16 (.pure 17 (.pure 18 (.rd 19 (.rd 20 (.pure 21 (.rd 22 (.pure 23 (.pure 24 (.one 25 (.pure 26 (.pure 27 .done)))))))))))))))))))))))))))) ⟨ar,[(k,bk d.1 Q R S T),(m,.cells #[.int .i64 b.low,.int .i64 b.high] 56),(n,bk u0 o q (sl d17 u0.av O) r)]⟩ (by simp (maxSteps:=9^9) only[*,go_sem]) (by kernel_rfl) ?_;revert h;refine bS fun V ba h=>?_;obtain ⟨dC,dE,W⟩:=cG ba;obtain ⟨bb,bc,bd,bj,x⟩:=a.y.el _ _ W;obtain rfl:bc=V.cells:=bj;cases bd;have bl:=x 0 _ rfl;simp only[go_sem] at bl;have bm:=x 1 _ rfl;simp only[go_sem] at bm;have bo:=x 2 _ rfl;simp only[go_sem] at bo;clear x W;revert h;refine bS fun br bs h=>?_;try simp (maxSteps:=9^9) only[*,go_sem]
 refine ⟨_,bD hJ fun F g=>Ih V.high b bs,bR ?_⟩;revert h;refine bS fun bz b0 h=>?_;try simp (maxSteps:=9^9) only[*,go_sem]
 have dT:=M;have b1:=a;have X:=f;have b2:=c;try have ea:=u
 refine b9 hJ _ (Ik u0 a j br b0) fun v eb z B G=>?_;obtain ⟨ec,ed,eh,et,rfl,i⟩:=G;have b3:=i.oc;simp only[bC] at b3;replace a:=a.mono z;replace f:=f.mono z;replace u:=B.hd;replace D:=B.tl.hd;replace E:=B.tl.tl.hd;replace c:=c.mono z;simp only[bu] at B;obtain ⟨d189,eu,rfl,ev,eQ,-⟩:=id i.e;obtain ⟨d196,eS,rfl,e0,e1,-⟩:=id i.p;obtain ⟨d203,e2,rfl,e3,fa,-⟩:=id i.y;obtain ⟨d210,fb,rfl,fg,fi,-⟩:=id i.t;have fo:=eN (l:=[(k,bk d.1 Q R S T),(m,.cells #[.int .i64 b.low,.int .i64 b.high] 56),(n,bk u0 o q (sl (some bb) u0.av O) r)]) z (aE.cons u (aE.cons D (aE.cons E (aE.nil _))));refine ⟨by simp (maxSteps:=9^9) only[*,go_sem],?_⟩;refine bR ?_;revert h;refine bS fun fp b4 h=>?_;try simp (maxSteps:=9^9) only[*,go_sem]
 refine aU hJ _ (oH d.1 (f.mono aN) bz (i.mono aN) b4) ⟨by simp (maxSteps:=9^9) only[*,go_sem],bR ?_⟩;revert h;refine cS (fun b5 h=>?_) fun b5 h=>?_
 .revert h;refine bS fun fr ca h=>?_;try simp (maxSteps:=9^9) only[*,go_sem]
  refine ⟨_,bD hJ fun F g=>x4 d.1 (X.mono (bY g)) ca,bR ?_⟩;revert h;refine cS (fun cb h=>?_) fun cb h=>?_
  .revert h;refine bS fun Y cd h=>?_;have cf:Y=true:=by cases Y;(simp at h);rfl
   (try simp (maxSteps:=9^9) only[*,go_sem]);refine ⟨_,bD hJ fun F g=>BT (b2.mono (bY g)) u0 (b1.mono (bY g)) d.1 (X.mono (bY g)) C cf cd,bR ?_⟩;revert h;refine cS (fun cl h=>?_) fun cl h=>?_
   .revert h;refine bS fun fs cu h=>?_;obtain rfl:=sI h;(try simp (maxSteps:=9^9) only[*,go_sem]);refine se _ (uP c cu) ⟨by simp (maxSteps:=9^9) only[*,go_sem],bR ?_⟩;(try simp (maxSteps:=9^9) only[*,go_sem]);refine ax ?_;try simp only[*,go_sem]
   cases h
  cases h
 cases h
theorem LU {ro:Addr->Option Value}(b:de ro)(u0:aj){s1 n G o:Value}(a:bN ro u0 s1 n G o)(g:bG)(H:Int)(I:Int)(c:cj){r:Bool}(ab:r=true)(h:uQ u0 g H I c=some r):mF Tryz.prog 5 #[bv u0 s1 n G o,.agg #[.int .i64 g.aR,.bool g.bq],.int .u8 H,.int .u8 I,.agg #[.int .i64 c.low,.int .i64 c.high]] ⟨ro,[]⟩ (fun v _=>v= .bool r):=by
 obtain ⟨d17,J,rfl,cd,cf,-⟩:=id a.y;subst ab;unfold uQ at h;have ad:=a.oc;simp only[bC] at ad;refine mF.go Tryz.func5 rfl Tryz.ntmps5 Tryz.results5 (by simp) (by kernel_rfl) fun Φ hJ A ae hd hs=>?_;have al:=hs 0;have k1:=hs 1;have ao:=hs 2;have ar:=hs 3;have a0:=hs 4;clear hs;refine ah hJ ?_;simp only[*,go_sem];refine ay fun K q a2=>?_;try simp only[au] at a2
 refine ay fun L s a3=>?_;try simp only[au] at a3
 refine ay fun M u a4=>?_;try simp only[au] at a4
 try simp only[*,go_sem]
 refine af hJ (ah hJ ?_);revert h;refine bS fun cl a5 h=>?_;simp only[*,go_sem];refine aU hJ _ (Ir u0 (a.mono aN) a5) (aJ ?_);try simp only[*,go_sem]
 revert h;refine aT hJ (fun B h=>?_) fun B h=>?_
 .rw[Bool.not_eq_true'] at B;refine ah hJ ?_;revert h;refine bS fun cu a6 h=>?_;obtain rfl:=sI h;simp only[*,go_sem];refine se _ (uP b a6) (aJ ?_);try simp only[*,go_sem]
  refine ax ?_;simp only[*,go_sem]
 rw[Bool.not_eq_false'] at B;refine aI hJ (af hJ ?_);refine cP hJ mixed 14 3 (by simp only[*,go_sem]) (by kernel_rfl) ?_;revert h;refine bS fun w N h=>?_;obtain ⟨cy,c0⟩:=pZ N;clear N;revert h;refine bS fun k O h=>?_;obtain ⟨da,db⟩:=pZ O;clear O;try simp only[*,go_sem]
 refine ah hJ ?_;revert h;refine bS fun d a7 h=>?_;simp only[*,go_sem];refine b9 hJ _ (qC b u0 a g a7) fun v a8 P x C=>?_;obtain ⟨Q,R,S,T,rfl,f⟩:=C;have a9:=f.oc;simp only[bC] at a9;replace a:=a.mono P;replace u:=x.hd;replace s:=x.tl.hd;replace q:=x.tl.tl.hd;replace b:=b.mono P;simp only[bu] at x;refine aJ ?_;try simp only[*,go_sem]
 refine ay fun U D ba=>?_;try simp only[au] at ba
 try simp only[*,go_sem]
 refine af hJ (af hJ ?_);refine eY [5,6,9,10,11,12,13,14] fun dd bb bc bd=>?_;simp only[*,go_sem] at bb bc bd;clear ae hd al k1 ao ar a0;refine eE hJ mixed [] (.pure 0 (.pure 1 (.pure 2 (.rd 3 (.rd 4 (.rd 5 (.one 6 (.one 7 (.pure 8 (.pure 9 (.rd 10 (.rd 11 (.pure 12 (.pure 13 (.pure 14 (.rd 15 (.rd 16 (.pure 17 (.rd 18 (.pure 19 (.pure 20 (.pure 21 (.pure 22 (.pure 23 (.pure 24 (.pure 25 (.rd 26 (.pure 27 (.rd 28 (.pure 29 (.pure 30 (.pure 31 .done)))))))))))))))))))))))))))))))) ⟨a8,[(U,bk d.1 Q R S T),(M,.cells #[.int .i64 c.low,.int .i64 c.high] 56),(L,.cells #[.int .i64 g.aR,.bool g.bq] 54),(K,bk u0 s1 n (sl d17 u0.av J) o)]⟩ (by simp only[*,go_sem]) (by kernel_rfl) ?_;revert h;refine cS (fun bj h=>?_) fun bj h=>?_
 .revert h;refine bS fun bl bm h=>?_;try simp only[*,go_sem]
  have bo:=a;have E:=f;have br:=b;try have df:=D
  try have dk:=q
  try have dp:=s
  try have dq:=u
  refine b9 hJ _ (m8 u0 a g bm) fun v ds z m C=>?_;obtain ⟨dt,du,dv,dC,rfl,j⟩:=C;have bs:=j.oc;simp only[bC] at bs;replace f:=f.mono z;replace a:=a.mono z;replace D:=m.hd;replace u:=m.tl.hd;replace s:=m.tl.tl.hd;replace q:=m.tl.tl.tl.hd;replace b:=b.mono z;simp only[bu] at m;obtain ⟨d84,dE,rfl,dT,ea,-⟩:=id j.e;obtain ⟨d91,eb,rfl,ec,ed,-⟩:=id j.p;obtain ⟨d98,eh,rfl,et,eu,-⟩:=id j.y;obtain ⟨d105,ev,rfl,eQ,eS,-⟩:=id j.t;have e0:=eN (l:=[(U,bk d.1 Q R S T),(M,.cells #[.int .i64 c.low,.int .i64 c.high] 56),(L,.cells #[.int .i64 g.aR,.bool g.bq] 54),(K,bk u0 s1 n (sl d17 u0.av J) o)]) z (aE.cons D (aE.cons u (aE.cons s (aE.cons q (aE.nil _)))));refine ⟨by simp only[*,go_sem],?_⟩;refine bR ?_;revert h;refine bS fun e1 bz h=>?_;try simp only[*,go_sem]
  refine aU hJ _ (oH d.1 (f.mono aN) bl (j.mono aN) bz) ⟨by simp only[*,go_sem],bR ?_⟩;revert h;refine cS (fun V h=>?_) fun V h=>?_
  .cases h
  rw[Bool.not_eq_false'] at V;revert h;refine bS fun e2 b0 h=>?_;try simp only[*,go_sem]
  refine ⟨_,bD hJ fun F i=>x4 d.1 (E.mono (bY i)) b0,bR ?_⟩;revert h;refine cS (fun b1 h=>?_) fun b1 h=>?_
  .cases h
  revert h;refine bS fun W b2 h=>?_;have b3:W=true:=by cases W;(simp at h);rfl
  try simp only[*,go_sem]
  refine ⟨_,bD hJ fun F i=>BT (br.mono (bY i)) u0 (bo.mono (bY i)) d.1 (E.mono (bY i)) k b3 b2,bR ?_⟩;revert h;refine cS (fun X h=>?_) fun X h=>?_
  .cases h
  rw[Bool.not_eq_false'] at X;revert h;refine cS (fun b4 h=>?_) fun b4 h=>?_
  .revert h;refine bS fun e3 b5 h=>?_;(try simp only[*,go_sem]);refine ⟨_,bD hJ fun F i=>oH d.1 (E.mono (bY i)) (⟨0,0,(⟨0,0⟩:an),([]:(List bT)),([]:(List bX)),([]:(List bL)),([]:(List bG))⟩:aj) ⟨(aA.nil _ _),(aA.nil _ _),(aA.nil _ _),(aA.nil _ _)⟩ b5,bR ?_⟩;(try simp only[*,go_sem]);revert h;refine aT hJ (fun Y h=>?_) fun Y h=>?_
   .cases h
   rw[Bool.not_eq_false'] at Y;refine aI hJ ?_;show Wp _ _ _ _ _;exact cz hJ (Le.sub (.cons₂ _ (.cons₂ _ (.cons _ (.cons₂ _ (List.Sublist.refl _)))))) (uR hJ u0 c w k d b f a (by simp (maxSteps:=9^9) only[*,go_sem]) h)
  try simp only[*,go_sem]
  refine b6 hJ ?_;refine aI hJ ?_;show Wp _ _ _ _ _;exact cz hJ (Le.sub (.cons₂ _ (.cons₂ _ (.cons _ (.cons₂ _ (List.Sublist.refl _)))))) (uR hJ u0 c w k d b f a (by simp (maxSteps:=9^9) only[*,go_sem]) h)
 revert h;refine cS (fun ca h=>?_) fun ca h=>?_
 .revert h;refine bS fun fa cb h=>?_;try simp only[*,go_sem]
  refine ⟨_,bD hJ fun F i=>oH d.1 (f.mono (bY i)) (⟨0,0,(⟨0,0⟩:an),([]:(List bT)),([]:(List bX)),([]:(List bL)),([]:(List bG))⟩:aj) ⟨(aA.nil _ _),(aA.nil _ _),(aA.nil _ _),(aA.nil _ _)⟩ cb,bR ?_⟩;try simp only[*,go_sem]
  revert h;refine aT hJ (fun Z h=>?_) fun Z h=>?_
  .cases h
  rw[Bool.not_eq_false'] at Z;refine aI hJ ?_;show Wp _ _ _ _ _;exact cz hJ (Le.sub (.cons₂ _ (.cons₂ _ (.cons _ (.cons₂ _ (List.Sublist.refl _)))))) (uR hJ u0 c w k d b f a (by simp (maxSteps:=9^9) only[*,go_sem]) h)
 try simp only[*,go_sem]
 refine b6 hJ ?_;refine aI hJ ?_;show Wp _ _ _ _ _;exact cz hJ (Le.sub (.cons₂ _ (.cons₂ _ (.cons _ (.cons₂ _ (List.Sublist.refl _)))))) (uR hJ u0 c w k d b f a (by simp (maxSteps:=9^9) only[*,go_sem]) h)
end Go.Proofs.YtghbphimkgamkaaGreatDoor
end

/- A part of the proof: QR13. -/
import Derived.Test.YtbpddfapodiemaaGreatDoorQR12
set_option linter.all false
section
namespace Go.Proofs.YtbpddfapodiemaaGreatDoor
open Go Go.Sep Go.Proofs
set_option maxRecDepth 100000
set_option maxHeartbeats 4000000
set_option maxHeartbeats 40000000 in
theorem MY {Φ:Goroutine->af->Prop}(hJ:Closed Tryz.prog true (en Tryz.prog Φ)){A:Act}{ro:Addr->Option Value}(n:(List Int))(i:an)(o:Int)(j:(Int×Int))(p:(Int×Int))(f:(Int×ax×Int))(U:((List Int)×Int)){q r:Nat}(G:dH ro){H:Value}(I:aH rI ro H n){x z J B:Value}(s:bW ro i x z J B){V:Value}(W:aH rI ro V U.1)(X:sz A=224/\A.defers=[]/\slot A 3= .pointer (some ⟨r,0,none⟩)/\slot A 6= .bool false/\slot A 7=H/\slot A 8= .int .i64 o/\slot A 18= .int .i64 j.1/\slot A 20= .int .i64 p.1/\slot A 22= .int .i64 f.1/\slot A 23= .pointer (some ⟨q,0,none⟩))(h:sJ n i o j p f=some true):Wp (en Tryz.prog Φ) (bG (bG (bG (bG (bG (bG (bG (bG (bG (bG (bG (bG (bG (bG (Tryz.f5.body.getD .skip))))))))))))))) (iD Tryz.prog [.tmp 6] (fun v _=>v= .bool true)) A ⟨ro,(q,rt f.2.1.num f.2.1.den)::(r,bk i x z J B)::[]⟩:=by
 obtain ⟨Y,hd,Z,ab,ad,ae,al,ao,ar,a0⟩:=X;obtain ⟨d161,a2,rfl,dk,dp,-⟩:=id I;obtain ⟨d78,a3,rfl,dq,ds,-⟩:=id s.y;obtain ⟨d139,dt,rfl,du,dv,-⟩:=id W;unfold sJ at h;have a4:=s.oc;simp only[bP] at a4;refine fX hJ fun a5 a6=>?_;have a7:=a5.nd;try simp only[keys,List.map_cons,List.map_nil,List.map_append,List.cons_append,List.nil_append,List.nodup_cons,List.mem_cons,List.mem_append,List.not_mem_nil,or_false,not_or] at a7
 simp only[bF] at a6;apply aC hJ;try apply aT _
 refine ah hJ (aC hJ ?_);try apply aT _
 apply aX hJ;revert h;refine bS fun a8 t k=>?_;refine cc hJ (rg 165 52 [6,27,28,29,30,31]) (fun m C F'=>∃(b:Bool) (u:Bool) (c:Int),bp (ql n i o j f) m (b,u,c)=some a8/\F'=⟨ro,(q,rt f.2.1.num f.2.1.den)::(r,bk i x z (sl d78 i.aF a3) B)::[]⟩/\slot C 6= .bool b/\slot C 27= .bool u/\slot C 28= .int .i64 c) fu ?_ ?_
 .refine ⟨false,false,0,t,rfl,?_⟩;try simp (maxSteps:=9^9) only[*,go_sem]
 rintro d g F' e ⟨b,u,c,t,rfl,dC,dE,dT⟩;have ea:sz g=224:=by rw[e.size];simp (maxSteps:=9^9) only[*,go_sem]
 have eb:g.defers=[]:=by rw[e.defers];simp (maxSteps:=9^9) only[*,go_sem]
 have ec:slot g 3= .pointer (some ⟨r,0,none⟩):=by rw[e.eK 3 aB];simp (maxSteps:=9^9) only[*,go_sem]
 have ed:slot g 7= .slice d161 n.length a2:=by rw[e.eK 7 aB];simp (maxSteps:=9^9) only[*,go_sem]
 have eh:slot g 8= .int .i64 o:=by rw[e.eK 8 aB];simp (maxSteps:=9^9) only[*,go_sem]
 have et:slot g 18= .int .i64 j.1:=by rw[e.eK 18 aB];simp (maxSteps:=9^9) only[*,go_sem]
 have ev:slot g 20= .int .i64 p.1:=by rw[e.eK 20 aB];simp (maxSteps:=9^9) only[*,go_sem]
 have eQ:slot g 22= .int .i64 f.1:=by rw[e.eK 22 aB];simp (maxSteps:=9^9) only[*,go_sem]
 have eS:slot g 23= .pointer (some ⟨q,0,none⟩):=by rw[e.eK 23 aB];simp (maxSteps:=9^9) only[*,go_sem]
 clear e Y hd Z ab ad ae al ao ar a0;obtain _|d:=d
 .exact absurd t (by simp only[bp,reduceCtorEq,not_false_eq_true])
 revert t;refine bS fun e0 h a=>?_;unfold ql at h;try dsimp only at h
 refine ah hJ (aC hJ ?_);try apply aT _
 revert h;refine cS (fun K h=>?_) fun K h=>?_
 .try simp only[Int.ofNat_lt] at K
  refine cB hJ ?_;refine aP hJ (ah hJ ?_);refine aX hJ (ah hJ ?_);refine dh hJ mixed 17 2 cW aj ?_;revert h;refine bS fun L a9 h=>?_;obtain ⟨e1,e2,M⟩:=cP a9;obtain ⟨e3,ba,bb,bc,w⟩:=s.y.el _ _ M;obtain rfl:ba=L.cells:=bc;cases bb;have bd:=w 0 _ rfl;simp only[go_sem] at bd;have bj:=w 1 _ rfl;simp only[go_sem] at bj;have bl:=w 2 _ rfl;simp only[go_sem] at bl;clear w M;revert h;refine bS fun N bm h=>?_;obtain ⟨fa,fb,O⟩:=cP bm;obtain ⟨ff,bo,br,bs,P⟩:=I.el _ _ O;obtain rfl:bo=[.int .i64 N]:=bs;cases br;have bz:=P 0 _ rfl;simp only[go_sem] at bz;clear P O;revert h;refine bS fun b0 b1 h=>?_;try apply aT _
  refine ⟨_,bL hJ fun F D=>nZ L.back N b1,cr ?_⟩;revert h;refine bS fun l b2 h=>?_;try apply aT _
  refine ⟨_,bL hJ fun F D=>xD (G.mono (cm D)) i (s.mono (cm D)) b0 b2,cr ?_⟩;try apply aT _
  refine aA fun fg fi b3=>?_;try simp only[av] at b3
  try apply aT _
  refine ah hJ (aC hJ ?_);revert h;refine cS (fun b4 h=>?_) fun b4 h=>?_
  .cases h;(try apply aT _);refine cB hJ ?_;apply aC hJ;(try apply aT _);obtain rfl:=sI a;clear a;have h:=k;dsimp only[aJ] at h;cases h
  revert h;refine cS (fun E h=>?_) fun E h=>?_
  .revert h;refine cS (fun b5 h=>?_) fun b5 h=>?_
   .cases h;(try apply aT _);refine cB hJ ?_;apply aC hJ;(try apply aT _);obtain rfl:=sI a;clear a;have h:=k;dsimp only[aJ] at h;cases h
   revert h;refine bS fun fl ca h=>?_;(try apply aT _);refine bf hJ _ (nP f.2.1 l.1 ca) (aO ?_);revert h;refine cS (fun cb h=>?_) fun cb h=>?_
   .cases h;(try apply aT _);refine cB hJ ?_;apply aC hJ;(try apply aT _);obtain rfl:=sI a;clear a;have h:=k;dsimp only[aJ] at h;cases h
   revert h;refine cS (fun cd h=>?_) fun cd h=>?_
   .revert h;refine bS fun fp Q h=>?_;rw[E] at Q;(try apply aT _);refine bf hJ _ (yH j.1 true Q) (aO ?_);(try apply aT _);revert h;refine cS (fun R h=>?_) fun R h=>?_
    .cases h;refine cB hJ ?_;apply aC hJ;(try apply aT _);obtain rfl:=sI a;clear a;have h:=k;dsimp only[aJ] at h;cases h
    refine cx hJ ?_;rw[Bool.not_eq_false'] at R;refine aP hJ (aS hJ ?_);revert h;refine cS (fun cf h=>?_) fun cf h=>?_
    .cases h;(try apply aT _);apply aS hJ;(try apply aT _);(try apply aT _);refine ⟨d,Nat.lt_succ_self _,_,Le.sub (List.Sublist.cons _ (List.Sublist.refl _)),b,true,(IntKind.i64.wrap (c+1)),a,rfl,?_⟩;try simp (maxSteps:=9^9) only[*,go_sem]
    cases h;(try apply aT _);apply aS hJ;(try apply aT _);(try apply aT _);refine ⟨d,Nat.lt_succ_self _,_,Le.sub (List.Sublist.cons _ (List.Sublist.refl _)),b,l.2.1,(IntKind.i64.wrap (c+1)),a,rfl,?_⟩;try simp (maxSteps:=9^9) only[*,go_sem]
   (try apply aT _);refine cx hJ ?_;refine aP hJ (aS hJ ?_);revert h;refine cS (fun cl h=>?_) fun cl h=>?_
   .cases h;(try apply aT _);apply aS hJ;(try apply aT _);(try apply aT _);refine ⟨d,Nat.lt_succ_self _,_,Le.sub (List.Sublist.cons _ (List.Sublist.refl _)),b,true,(IntKind.i64.wrap (c+1)),a,rfl,?_⟩;try simp (maxSteps:=9^9) only[*,go_sem]
   cases h;(try apply aT _);apply aS hJ;(try apply aT _);(try apply aT _);refine ⟨d,Nat.lt_succ_self _,_,Le.sub (List.Sublist.cons _ (List.Sublist.refl _)),b,l.2.1,(IntKind.i64.wrap (c+1)),a,rfl,?_⟩;try simp (maxSteps:=9^9) only[*,go_sem]
  revert h;refine cS (fun cy h=>?_) fun cy h=>?_
  .revert h;refine bS fun fq S h=>?_;rw[E] at S;(try apply aT _);refine bf hJ _ (yH j.1 false S) (aO ?_);(try apply aT _);revert h;refine cS (fun T h=>?_) fun T h=>?_
   .cases h;refine cB hJ ?_;apply aC hJ;(try apply aT _);obtain rfl:=sI a;clear a;have h:=k;dsimp only[aJ] at h;cases h
   refine cx hJ ?_;rw[Bool.not_eq_false'] at T;refine aP hJ (aS hJ ?_);revert h;refine cS (fun c0 h=>?_) fun c0 h=>?_
   .cases h;(try apply aT _);apply aS hJ;(try apply aT _);(try apply aT _);refine ⟨d,Nat.lt_succ_self _,_,Le.sub (List.Sublist.cons _ (List.Sublist.refl _)),b,true,(IntKind.i64.wrap (c+1)),a,rfl,?_⟩;try simp (maxSteps:=9^9) only[*,go_sem]
   cases h;(try apply aT _);apply aS hJ;(try apply aT _);(try apply aT _);refine ⟨d,Nat.lt_succ_self _,_,Le.sub (List.Sublist.cons _ (List.Sublist.refl _)),b,l.2.1,(IntKind.i64.wrap (c+1)),a,rfl,?_⟩;try simp (maxSteps:=9^9) only[*,go_sem]
  try apply aT _
  refine cx hJ ?_;refine aP hJ (aS hJ ?_);revert h;refine cS (fun da h=>?_) fun da h=>?_
  .cases h;(try apply aT _);apply aS hJ;(try apply aT _);(try apply aT _);refine ⟨d,Nat.lt_succ_self _,_,Le.sub (List.Sublist.cons _ (List.Sublist.refl _)),b,true,(IntKind.i64.wrap (c+1)),a,rfl,?_⟩;try simp (maxSteps:=9^9) only[*,go_sem]
  cases h;try apply aT _
  apply aS hJ;try apply aT _
  try apply aT _
  refine ⟨d,Nat.lt_succ_self _,_,Le.sub (List.Sublist.cons _ (List.Sublist.refl _)),b,l.2.1,(IntKind.i64.wrap (c+1)),a,rfl,?_⟩;try simp (maxSteps:=9^9) only[*,go_sem]
 cases h;refine cx hJ ?_;apply b6;try simp only[go_sem]
 obtain rfl:=sI a;clear a;have h:=k;dsimp only[aJ] at h;apply aC hJ;revert h;refine bS fun fr db h=>?_;try apply aT _
 refine bf hJ _ (yH p.1 (!u) db) (aO ?_);revert h;refine cS (fun dd h=>?_) fun dd h=>?_
 .revert h;refine bS fun fs df h=>?_;cases h;try apply aT _
  refine Bc _ (EH G df) (aO ?_);try apply aT _
  apply aQ;try simp only[*,go_sem]
 cases h
set_option maxHeartbeats 40000000 in
theorem MZ {Φ:Goroutine->af->Prop}(hJ:Closed Tryz.prog true (en Tryz.prog Φ)){A:Act}{ro:Addr->Option Value}(u0:an)(l:(List Int))(u:Int){w:Nat}(a:dH ro){x:Value}(z:aH oT ro x l){B C D E:Value}(g:bW ro u0 B C D E)(X:sz A=224/\A.defers=[]/\slot A 1=x/\slot A 2= .int .u8 u/\slot A 3= .pointer (some ⟨w,0,none⟩)/\slot A 6= .bool false)(h:vM u0 l u=some true):Wp (en Tryz.prog Φ) (bG (bG (Tryz.f5.body.getD .skip))) (iD Tryz.prog [.tmp 6] (fun v _=>v= .bool true)) A ⟨ro,(w,bk u0 B C D E)::[]⟩:=by
 obtain ⟨dt,hd,k1,du,dv,dC⟩:=X;obtain ⟨d31,dE,rfl,dT,ea,-⟩:=id z;unfold vM at h;have Y:=g.oc;simp only[bP] at Y;refine fX hJ fun G Z=>?_;have ab:=G.nd;try simp only[keys,List.map_cons,List.map_nil,List.map_append,List.cons_append,List.nil_append,List.nodup_cons,List.mem_cons,List.mem_append,List.not_mem_nil,or_false,not_or] at ab
 simp only[bF] at Z;apply aC hJ;revert h;refine bS fun m ad h=>?_;try apply aT _
 refine cw hJ _ (I7 u0 g l z ad) fun v eb H ae f=>?_;obtain ⟨ec,rfl,c⟩:=f;replace g:=g.mono H;replace a:=a.mono H;simp only[bF] at ae;obtain ⟨d52,ed,rfl,eh,et,-⟩:=id c;apply aO;try apply aT _
 apply aC hJ;revert h;refine bS fun d al h=>?_;try apply aT _
 refine cw hJ _ (I8 u0 g m c al) fun v ev I ao f=>?_;obtain ⟨eQ,eS,e0,e1,rfl,b⟩:=f;have ar:=b.oc;simp only[bP] at ar;replace c:=c.mono I;replace a:=a.mono I;simp only[bF] at ao;obtain ⟨d78,e2,rfl,e3,fa,-⟩:=id b.y;apply aO;try apply aT _
 apply aC hJ;revert h;refine bS fun i J h=>?_;obtain ⟨fb,ff⟩:=qK J;clear J;try apply aT _
 apply aC hJ;revert h;refine bS fun fg a0 h=>?_;try apply aT _
 refine bf hJ _ (Je (a.mono bn) d (b.mono bn) m (c.mono bn) a0) (aO ?_);try apply aT _
 apply aC hJ;revert h;refine bS fun a2 a3 h=>?_;try apply aT _
 refine cw hJ _ (uK a d b i a3) fun v fi n a4 f=>?_;obtain ⟨fl,rfl,j⟩:=f;replace c:=c.mono n;replace b:=b.mono n;replace a:=a.mono n;simp only[bF] at a4;obtain ⟨d101,fp,rfl,fq,fr,-⟩:=id j;apply aO;try apply aT _
 apply aC hJ;revert h;refine bS fun K a5 h=>?_;try apply aT _
 refine bf hJ _ (Ci (a.mono bn) d (b.mono bn) i a5) (aO ?_);try apply aT _
 refine aA fun fs ft L=>?_;have a6:=aZ.cons L G;try simp only[av] at L
 refine aA fun fu fv M=>?_;have a7:=aZ.cons M a6;try simp only[av] at M
 try apply aT _
 apply ah hJ;refine dh hJ mixed 16 3 cW aj ?_;revert h;refine bS fun N a8 h=>?_;obtain ⟨fw,fx,O⟩:=cP a8;obtain ⟨fz,a9,ba,bb,k⟩:=b.y.el _ _ O;obtain rfl:a9=N.cells:=bb;cases ba;have o:=k 0 _ rfl;simp only[go_sem] at o;have p:=k 1 _ rfl;simp only[go_sem] at p;have q:=k 2 _ rfl;simp only[go_sem] at q;clear k O;revert h;refine bS fun r bc h=>?_;obtain ⟨fP,fQ,P⟩:=cP bc;obtain ⟨fS,bd,bj,bl,Q⟩:=c.el _ _ P;obtain rfl:bd=[.int .i64 r]:=bl;cases bj;have s:=Q 0 _ rfl;simp only[go_sem] at s;clear Q P;revert h;refine bS fun bm bo h=>?_;try apply aT _
 refine ⟨_,bL hJ fun F t=>nZ N.back r bo,cr ?_⟩;revert h;refine bS fun br bs h=>?_;try apply aT _
 refine ⟨_,bL hJ fun F t=>B6 (a.mono (cm t)) d (b.mono (cm t)) bm bs,cr ?_⟩;try apply aT _
 refine aA fun fU gg R=>?_;have bz:=aZ.cons R a7;try simp only[av] at R
 try apply aT _
 apply aC hJ;revert h;refine bS fun b0 b1 h=>?_;try apply aT _
 refine bf hJ _ (yf (a.mono bn) d (b.mono bn) i b1) (aO ?_);try apply aT _
 apply aC hJ;revert h;refine bS fun b2 b3 h=>?_;try apply aT _
 refine bf hJ _ (rC (a.mono bn) d (b.mono bn) b3) (aO ?_);try apply aT _
 apply aC hJ;revert h;refine bS fun b4 b5 h=>?_;try apply aT _
 refine bf hJ _ (yx (a.mono bn) d (b.mono bn) b5) (aO ?_);try apply aT _
 refine aA fun gl gn S=>?_;have gp:=aZ.cons S bz;try simp only[av] at S
 try apply aT _
 apply aC hJ;revert h;refine bS fun ca cb h=>?_;try apply aT _
 refine cw hJ _ (yt a d b cb) fun v gB e cd f=>?_;obtain ⟨gC,rfl,T⟩:=f;replace c:=c.mono e;replace b:=b.mono e;replace j:=j.mono e;replace a:=a.mono e;simp only[bF] at cd;replace o:=e _ _ o;replace p:=e _ _ p;replace q:=e _ _ q;replace s:=e _ _ s;obtain ⟨d139,gM,rfl,gT,gV,-⟩:=id T;apply aO;try apply aT _
 refine ah hJ (aC hJ ?_);revert h;refine cS (fun cf h=>?_) fun cf h=>?_
 .cases h
 revert h;refine cS (fun cl h=>?_) fun cl h=>?_
 .cases h
 revert h;refine cS (fun cy h=>?_) fun cy h=>?_
 .cases h
 revert h;refine cS (fun c0 h=>?_) fun c0 h=>?_
 .cases h
 revert h;refine cS (fun da h=>?_) fun da h=>?_
 .cases h
 revert h;refine cS (fun db h=>?_) fun db h=>?_
 .cases h
 revert h;refine cS (fun dd h=>?_) fun dd h=>?_
 .cases h
 revert h;refine cS (fun df h=>?_) fun df h=>?_
 .cases h
 revert h;refine cS (fun U h=>?_) fun U h=>?_
 .cases h
 rw[Bool.not_eq_false'] at U;revert h;refine bS fun g0 dk h=>?_;try apply aT _
 refine bf hJ _ (IX a2.1 (j.mono bn) r dk) (aO ?_);revert h;refine cS (fun V h=>?_) fun V h=>?_
 .cases h
 rw[Bool.not_eq_false'] at V;revert h;refine bS fun g1 dp h=>?_;try apply aT _
 refine bf hJ _ (IY br.1 K.1 K.2.1 dp) (aO ?_);revert h;refine cS (fun W h=>?_) fun W h=>?_
 .cases h
 rw[Bool.not_eq_false'] at W;revert h;refine cS (fun dq h=>?_) fun dq h=>?_
 .cases h
 try apply aT _
 revert h;refine cS (fun ds h=>?_) fun ds h=>?_
 .cases h
 refine cx hJ ?_;apply aP hJ;show Wp _ _ _ _ _;exact cO hJ (Le.sub (.cons₂ _ (.cons _ (.cons _ (.cons _ (.cons₂ _ (List.Sublist.refl _))))))) (MY hJ m d i b0 b2 b4 ca a c b T cW h)
set_option maxHeartbeats 40000000 in
theorem M0 {ro:Addr->Option Value}(f:dH ro)(u0:an){s1 g i j:Value}(a:bW ro u0 s1 g i j)(c:(List Int)){k:Value}(l:aH oT ro k c)(d:Int){r:Bool}(m:r=true)(h:vN u0 c d=some r):nh Tryz.prog 5 #[bv u0 s1 g i j,k,.int .u8 d] ⟨ro,[]⟩ (fun v _=>v= .bool r):=by
 obtain ⟨d3,c4,rfl,u,w,-⟩:=id a.e;obtain ⟨d10,x,rfl,z,B,-⟩:=id a.p;obtain ⟨d17,C,rfl,D,E,-⟩:=id a.y;obtain ⟨d24,F,rfl,G,H,-⟩:=id a.t;obtain ⟨d31,I,rfl,J,K,-⟩:=id l;subst m;unfold vN at h;have n:=a.oc;simp only[bP] at n;refine nh.go Tryz.func5 rfl Tryz.ntmps5 Tryz.results5 au aj fun Φ hJ A L hd hs=>?_;have M:=hs 0;have k1:=hs 1;have N:=hs 2;clear hs;apply aC hJ;try apply aT _
 refine aA fun O P o=>?_;try simp only[av] at o
 try apply aT _
 refine ah hJ (aC hJ ?_);revert h;refine bS fun Q q h=>?_;try apply aT _
 refine bf hJ _ (IW u0 (a.mono bn) q) (aO ?_);try apply aT _
 revert h;refine cS (fun b h=>?_) fun b h=>?_
 .try simp only[Int.ofNat_lt] at b
  refine cB hJ ?_;rw[Bool.not_eq_true'] at b;apply aC hJ;revert h;refine bS fun R s h=>?_;cases h;try apply aT _
  refine Bc _ (EH f s) (aO ?_);try apply aT _
  apply aQ;try simp only[*,go_sem]
 refine cx hJ ?_;rw[Bool.not_eq_false'] at b;apply aP hJ;show Wp _ _ _ _ _;exact cO hJ (Le.sub (.cons₂ _ (List.Sublist.refl _))) (MZ hJ u0 c d f l a cW h)
end Go.Proofs.YtbpddfapodiemaaGreatDoor
end

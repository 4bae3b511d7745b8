/- A part of the proof of a row and its tied card: QH10. -/
import Derived.Test.YtpgcmoanfifglaaGreatDoorQH9
set_option linter.all false
section
namespace Go.Proofs.YtpgcmoanfifglaaGreatDoor
open Go Go.Sep Go.Proofs
set_option maxRecDepth 100000
set_option maxHeartbeats 4000000
set_option maxHeartbeats 40000000 in
theorem KQ {Φ:Goroutine->aa->Prop}(hJ:Closed Tryz.prog true (dQ Tryz.prog Φ)){A:Act}{ro:Addr->Option Value}(u0:ak)(c:(Int×an×Int))(k:(Int×Int))(p:Bool)(l:Bool)(m:Bool)(n:Bool){o:Nat}(a:c8 ro){q:Value}(r:aA eH ro q u0.aG)(s:sz A=204/\A.defers=[]/\slot A 2= .bool p/\slot A 3= .int .i64 c.1/\slot A 4= .pointer (some ⟨o,0,none⟩)/\slot A 6= .int .i64 k.1/\slot A 8= .bool l/\slot A 9= .bool m/\slot A 10= .bool n)(h:tu c k l m n=some true):Wp (dQ Tryz.prog Φ) (bu (bu (bu (bu (bu (bu (bu (bu (Tryz.f4.body.getD .skip))))))))) (gY Tryz.prog [.tmp 2] (fun v _=>v= .bool true)) A ⟨ro,(o,rt c.2.1.num c.2.1.den)::[]⟩:=by
 obtain ⟨a0,hd,a2,a3,a4,a5,a6,a7,a8⟩:=s;obtain ⟨d17,a9,rfl,ba,bb,-⟩:=id r;unfold tu at h;refine fA hJ fun t u=>?_;have w:=t.nd;try simp only[keys,List.map_cons,List.map_nil,List.map_append,List.cons_append,List.nil_append,List.nodup_cons,List.mem_cons,List.mem_append,List.not_mem_nil,or_false,not_or] at w
 simp only[bq] at u;refine af hJ ?_;refine cQ hJ mixed 42 1 (by simp (maxSteps:=9^9) only[*,go_sem]) (by kernel_rfl) ?_;revert h;refine cS (fun b h=>?_) fun b h=>?_
 ·revert h;refine cS (fun x h=>?_) fun x h=>?_
  ·revert h;refine cS (fun d h=>?_) fun d h=>?_
   ·(try rw[d] at b);revert h;refine cS (fun y h=>?_) fun y h=>?_
    ·revert h;refine cS (fun e h=>?_) fun e h=>?_
     ·rw[Bool.not_eq_true'] at e;revert h;refine cS (fun z h=>?_) fun z h=>?_
      ·revert h;refine bS fun bc B h=>?_;obtain rfl:=sI h;(try simp (maxSteps:=9^9) only[*,go_sem]);refine gm _ (gD a B) ⟨by simp (maxSteps:=9^9) only[*,go_sem],eU ?_⟩;(try simp (maxSteps:=9^9) only[*,go_sem]);refine av ?_;try simp only[*,go_sem]
      cases h
     rw[Bool.not_eq_false'] at e;revert h;refine cS (fun C h=>?_) fun C h=>?_
     ·revert h;refine cS (fun D h=>?_) fun D h=>?_
      ·revert h;refine bS fun bd E h=>?_;obtain rfl:=sI h;(try simp (maxSteps:=9^9) only[*,go_sem]);refine gm _ (gD a E) ⟨by simp (maxSteps:=9^9) only[*,go_sem],eU ?_⟩;(try simp (maxSteps:=9^9) only[*,go_sem]);refine av ?_;try simp only[*,go_sem]
      revert h;refine bS fun bj G h=>?_;obtain rfl:=sI h;(try simp (maxSteps:=9^9) only[*,go_sem]);refine gm _ (gD a G) ⟨by simp (maxSteps:=9^9) only[*,go_sem],eU ?_⟩;(try simp (maxSteps:=9^9) only[*,go_sem]);refine av ?_;try simp only[*,go_sem]
     cases h
    cases h
   (try rw[d] at b);revert h;refine cS (fun H h=>?_) fun H h=>?_
   ·revert h;refine cS (fun I h=>?_) fun I h=>?_
    ·revert h;refine cS (fun f h=>?_) fun f h=>?_
     ·rw[Bool.not_eq_true'] at f;revert h;refine cS (fun J h=>?_) fun J h=>?_
      ·revert h;refine bS fun bk K h=>?_;obtain rfl:=sI h;(try simp (maxSteps:=9^9) only[*,go_sem]);refine gm _ (gD a K) ⟨by simp (maxSteps:=9^9) only[*,go_sem],eU ?_⟩;(try simp (maxSteps:=9^9) only[*,go_sem]);refine av ?_;try simp only[*,go_sem]
      cases h
     rw[Bool.not_eq_false'] at f;revert h;refine cS (fun L h=>?_) fun L h=>?_
     ·revert h;refine cS (fun M h=>?_) fun M h=>?_
      ·revert h;refine bS fun bl N h=>?_;obtain rfl:=sI h;(try simp (maxSteps:=9^9) only[*,go_sem]);refine gm _ (gD a N) ⟨by simp (maxSteps:=9^9) only[*,go_sem],eU ?_⟩;(try simp (maxSteps:=9^9) only[*,go_sem]);refine av ?_;try simp only[*,go_sem]
      revert h;refine bS fun bm O h=>?_;obtain rfl:=sI h;(try simp (maxSteps:=9^9) only[*,go_sem]);refine gm _ (gD a O) ⟨by simp (maxSteps:=9^9) only[*,go_sem],eU ?_⟩;(try simp (maxSteps:=9^9) only[*,go_sem]);refine av ?_;try simp only[*,go_sem]
     cases h
    cases h
   cases h
  revert h;refine bS fun bo P h=>?_;try simp (maxSteps:=9^9) only[*,go_sem]
  refine ⟨_,bC hJ fun F br=>gx 0 1 P,bY ?_⟩;revert h;refine cS (fun Q h=>?_) fun Q h=>?_
  ·revert h;refine cS (fun g h=>?_) fun g h=>?_
   ·(try rw[g] at b);revert h;refine cS (fun R h=>?_) fun R h=>?_
    ·revert h;refine cS (fun i h=>?_) fun i h=>?_
     ·rw[Bool.not_eq_true'] at i;revert h;refine cS (fun S h=>?_) fun S h=>?_
      ·revert h;refine bS fun bs T h=>?_;obtain rfl:=sI h;(try simp (maxSteps:=9^9) only[*,go_sem]);refine gm _ (gD a T) ⟨by simp (maxSteps:=9^9) only[*,go_sem],eU ?_⟩;(try simp (maxSteps:=9^9) only[*,go_sem]);refine av ?_;try simp only[*,go_sem]
      cases h
     rw[Bool.not_eq_false'] at i;revert h;refine cS (fun U h=>?_) fun U h=>?_
     ·revert h;refine cS (fun V h=>?_) fun V h=>?_
      ·revert h;refine bS fun bz W h=>?_;obtain rfl:=sI h;(try simp (maxSteps:=9^9) only[*,go_sem]);refine gm _ (gD a W) ⟨by simp (maxSteps:=9^9) only[*,go_sem],eU ?_⟩;(try simp (maxSteps:=9^9) only[*,go_sem]);refine av ?_;try simp only[*,go_sem]
      revert h;refine bS fun b0 X h=>?_;obtain rfl:=sI h;(try simp (maxSteps:=9^9) only[*,go_sem]);refine gm _ (gD a X) ⟨by simp (maxSteps:=9^9) only[*,go_sem],eU ?_⟩;(try simp (maxSteps:=9^9) only[*,go_sem]);refine av ?_;try simp only[*,go_sem]
     cases h
    cases h
   (try rw[g] at b);revert h;refine cS (fun Y h=>?_) fun Y h=>?_
   ·revert h;refine cS (fun Z h=>?_) fun Z h=>?_
    ·revert h;refine cS (fun j h=>?_) fun j h=>?_
     ·rw[Bool.not_eq_true'] at j;revert h;refine cS (fun ab h=>?_) fun ab h=>?_
      ·revert h;refine bS fun b1 ad h=>?_;obtain rfl:=sI h;(try simp (maxSteps:=9^9) only[*,go_sem]);refine gm _ (gD a ad) ⟨by simp (maxSteps:=9^9) only[*,go_sem],eU ?_⟩;(try simp (maxSteps:=9^9) only[*,go_sem]);refine av ?_;try simp only[*,go_sem]
      cases h
     rw[Bool.not_eq_false'] at j;revert h;refine cS (fun ae h=>?_) fun ae h=>?_
     ·revert h;refine cS (fun al h=>?_) fun al h=>?_
      ·revert h;refine bS fun b2 ao h=>?_;obtain rfl:=sI h;(try simp (maxSteps:=9^9) only[*,go_sem]);refine gm _ (gD a ao) ⟨by simp (maxSteps:=9^9) only[*,go_sem],eU ?_⟩;(try simp (maxSteps:=9^9) only[*,go_sem]);refine av ?_;try simp only[*,go_sem]
      revert h;refine bS fun b3 ar h=>?_;obtain rfl:=sI h;(try simp (maxSteps:=9^9) only[*,go_sem]);refine gm _ (gD a ar) ⟨by simp (maxSteps:=9^9) only[*,go_sem],eU ?_⟩;(try simp (maxSteps:=9^9) only[*,go_sem]);refine av ?_;try simp only[*,go_sem]
     cases h
    cases h
   cases h
  cases h
 cases h
set_option maxHeartbeats 40000000 in
theorem KR {ro:Addr->Option Value}(d:c8 ro)(u0:ak){s1 q ab s:Value}(c:bL ro u0 s1 q ab s){r:Bool}(ba:r=true)(h:tv u0=some r):lR Tryz.prog 4 #[bv u0 s1 q ab s] ⟨ro,[]⟩ (fun v _=>v= .bool r):=by
 obtain ⟨d17,G,rfl,hZ,h0,-⟩:=id c.y;subst ba;unfold tv at h;refine lR.go Tryz.func4 rfl Tryz.ntmps4 Tryz.results4 (by simp) (by kernel_rfl) fun Φ hJ A bb hd hs=>?_;have bc:=hs 0;clear hs;refine ah hJ ?_;try simp (maxSteps:=9^9) only[*,go_sem]
 refine az fun i h1 bd=>?_;try simp only[au] at bd
 try simp (maxSteps:=9^9) only[*,go_sem]
 refine af hJ (ah hJ ?_);revert h;refine bS fun h2 bj h=>?_;try simp (maxSteps:=9^9) only[*,go_sem]
 refine bh hJ _ (GR u0 (c.mono aQ) bj) (aJ ?_);try simp (maxSteps:=9^9) only[*,go_sem]
 revert h;refine cS (fun M h=>?_) fun M h=>?_
 ·try simp only[Int.ofNat_lt] at M
  refine bK hJ (by simp (maxSteps:=9^9) only[*,go_sem]) ?_;rw[Bool.not_eq_true'] at M;refine ah hJ ?_;revert h;refine bS fun h3 bl h=>?_;obtain rfl:=sI h;try simp (maxSteps:=9^9) only[*,go_sem]
  refine gm _ (gD d bl) (aJ ?_);try simp (maxSteps:=9^9) only[*,go_sem]
  refine av ?_;try simp only[*,go_sem]
 refine bG hJ (by simp (maxSteps:=9^9) only[*,go_sem]) ?_;rw[Bool.not_eq_false'] at M;refine aH hJ (af hJ ?_);refine aj hJ ?_;revert h;refine bS fun b bm h=>?_;try simp (maxSteps:=9^9) only[*,go_sem]
 refine bh hJ _ (wE (d.mono aQ) u0 (c.mono aQ) bm) (aJ ?_);try simp (maxSteps:=9^9) only[*,go_sem]
 refine az fun j h4 bo=>?_;try simp only[au] at bo
 try simp (maxSteps:=9^9) only[*,go_sem]
 refine ah hJ ?_;revert h;refine bS fun z br h=>?_;try simp (maxSteps:=9^9) only[*,go_sem]
 refine bh hJ _ (pW (d.mono aQ) u0 (c.mono aQ) br) (aJ ?_);try simp (maxSteps:=9^9) only[*,go_sem]
 refine af hJ (ah hJ ?_);try simp (maxSteps:=9^9) only[*,go_sem]
 revert h;refine cS (fun bs h=>?_) fun bs h=>?_
 ·cases h
 refine bG hJ (by simp (maxSteps:=9^9) only[*,go_sem]) ?_;refine aH hJ (af hJ ?_);refine ah hJ ?_;try simp (maxSteps:=9^9) only[*,go_sem]
 revert h;refine cS (fun ad h=>?_) fun ad h=>?_
 ·try simp only[Int.ofNat_lt] at ad
  refine bK hJ (by simp (maxSteps:=9^9) only[*,go_sem]) ?_;refine ah hJ ?_;revert h;refine cS (fun bz h=>?_) fun bz h=>?_
  ·revert h;refine cS (fun b0 h=>?_) fun b0 h=>?_
   ·revert h;refine cS (fun b1 h=>?_) fun b1 h=>?_
    ·revert h;refine cS (fun b2 h=>?_) fun b2 h=>?_
     ·revert h;refine bS fun h5 b3 h=>?_;obtain rfl:=sI h;(try simp (maxSteps:=9^9) only[*,go_sem]);refine gm _ (gD d b3) (aJ ?_);(try simp (maxSteps:=9^9) only[*,go_sem]);refine av ?_;try simp only[*,go_sem]
     cases h
    cases h
   cases h
  cases h
 refine bG hJ (by simp (maxSteps:=9^9) only[*,go_sem]) ?_;refine aH hJ (af hJ ?_);refine aj hJ ?_;try simp (maxSteps:=9^9) only[*,go_sem]
 refine af hJ (ah hJ ?_);try simp (maxSteps:=9^9) only[*,go_sem]
 refine aO hJ ?_;revert h;refine bS fun b4 N R=>?_;refine bQ hJ [2,8,9,10,11,12,13,14,15,16,17,18,19,58,59,60,61,62,63,64,65,66,67,68,69,70,71,72,73,74,75,76,77,78,79,80,81,82,83,84,85,86,87,88,89,90,91,92,93,94,95,96,97,98,99,100,101,102,103,104,105,106,107,108,109,110,111,112,113,114,115,116,117,118,119,120,121,122,123,124,125,126,127,128,129,130,131,132,133,134,135,136,137,138,139,140,141,142,143,144,145,146,147,148,149,150,151,152,153,154,155,156,157,158,159] (fun m a F'=>∃(S:Addr->Option Value) (t:Bool) (H:Bool) (I:Bool) (u:Bool) (g:Int),aY (mS u0 b) m (t,H,I,u,g)=some b4/\F'=⟨S,(j,rt b.2.1.num b.2.1.den)::(i,bk u0 s1 q (sl d17 u0.aG G) s)::[]⟩/\Ext ro S/\slot a 2= .bool t/\slot a 8= .bool H/\slot a 9= .bool I/\slot a 10= .bool u/\slot a 11= .int .i64 g) fu ?_ ?_
 ·refine ⟨ro,false,true,false,false,0,N,rfl,Ext.refl _,?_⟩;try simp (maxSteps:=9^9) only[*,go_sem]
 rintro T k F' w ⟨S,t,H,I,u,g,N,rfl,U,b5,ca,cb,cd,cf⟩;refine fA hJ fun _ cl=>?_;replace c:=c.mono U;replace d:=d.mono U;simp only[bq] at cl;have cy:sz k=204:=by rw[w.size];simp (maxSteps:=9^9) only[*,go_sem]
 have c0:k.defers=[]:=by rw[w.defers];simp (maxSteps:=9^9) only[*,go_sem]
 have da:slot k 1= .pointer (some ⟨i,0,none⟩):=by rw[w.dD 1 (by decide)];simp (maxSteps:=9^9) only[*,go_sem]
 have db:slot k 3= .int .i64 b.1:=by rw[w.dD 3 (by decide)];simp (maxSteps:=9^9) only[*,go_sem]
 have dd:slot k 4= .pointer (some ⟨j,0,none⟩):=by rw[w.dD 4 (by decide)];simp (maxSteps:=9^9) only[*,go_sem]
 have df:slot k 6= .int .i64 z.1:=by rw[w.dD 6 (by decide)];simp (maxSteps:=9^9) only[*,go_sem]
 clear w bb hd bc;obtain _|T:=T
 ·exact absurd N (by simp only[aY,reduceCtorEq,not_false_eq_true])
 revert N;refine bS fun h6 h x=>?_;unfold mS at h;try dsimp only at h
 refine af hJ (ah hJ ?_);try simp (maxSteps:=9^9) only[*,go_sem]
 revert h;refine cS (fun ae h=>?_) fun ae h=>?_
 ·try simp only[Int.ofNat_lt] at ae
  refine bK hJ (by simp (maxSteps:=9^9) only[*,go_sem]) ?_;refine aH hJ (af hJ ?_);refine aO hJ (af hJ ?_);refine aj hJ ?_;revert h;refine bS fun J dk h=>?_;try simp (maxSteps:=9^9) only[*,go_sem]
  refine bh hJ _ (v9 (d.mono aQ) u0 (c.mono aQ) g dk) (aJ ?_);try simp (maxSteps:=9^9) only[*,go_sem]
  refine ah hJ ?_;revert h;refine bS fun B dp h=>?_;try simp (maxSteps:=9^9) only[*,go_sem]
  refine b9 hJ _ (so d u0 c g dp) fun v K V dq ds=>?_;obtain ⟨h7,rfl,al⟩:=ds;replace c:=c.mono V;replace d:=d.mono V;simp only[bq] at dq;obtain ⟨d71,O,rfl,h8,h9,-⟩:=id al;refine aJ ?_;try simp (maxSteps:=9^9) only[*,go_sem]
  refine af hJ (af hJ ?_);revert h;refine bS fun dt h du=>?_;refine wQ hJ (fun a F'=>∃(W:Bool),some (Fl.bk W:Fl Bool Bool)=some dt/\F'=⟨K,(j,rt b.2.1.num b.2.1.den)::(i,bk u0 s1 q (sl d17 u0.aG G) s)::[]⟩/\sz a=204/\a.defers=[]/\cz [2,8,9,10,11,12,13,14,15,16,17,18,19,58,59,60,61,62,63,64,65,66,67,68,69,70,71,72,73,74,75,76,77,78,79,80,81,82,83,84,85,86,87,88,89,90,91,92,93,94,95,96,97,98,99,100,101,102,103,104,105,106,107,108,109,110,111,112,113,114,115,116,117,118,119,120,121,122,123,124,125,126,127,128,129,130,131,132,133,134,135,136,137,138,139,140,141,142,143,144,145,146,147,148,149,150,151,152,153,154,155,156,157,158,159] a k/\slot a 1= .pointer (some ⟨i,0,none⟩)/\slot a 2= .bool t/\slot a 3= .int .i64 b.1/\slot a 4= .pointer (some ⟨j,0,none⟩)/\slot a 6= .int .i64 z.1/\slot a 8= .bool H/\slot a 9= .bool I/\slot a 10= .bool u/\slot a 11= .int .i64 g/\slot a 12= .int .i64 J.1/\slot a 14= .slice d71 B.1.length O/\slot a 82= .bool W) ?_ ?_
  ·refine aj hJ ?_;revert h;refine cS (fun dv h=>?_) fun dv h=>?_
   ·(try simp (maxSteps:=9^9) only[*,go_sem]);(try simp (maxSteps:=9^9) only[*,go_sem]);refine Qn.intro ⟨_,Le.sub (List.Sublist.refl _),true,h,rfl,?_⟩;try simp (maxSteps:=9^9) only[*,go_sem]
   (try simp (maxSteps:=9^9) only[*,go_sem]);(try simp (maxSteps:=9^9) only[*,go_sem]);refine Qn.intro ⟨_,Le.sub (List.Sublist.refl _),(B.2 != 0),h,rfl,?_⟩;try simp (maxSteps:=9^9) only[*,go_sem]
  rintro ib F' ⟨W,ao,rfl,dC,dE,ic,dT,ea,eb,ec,ed,eh,et,ev,eQ,eS,e0,e1⟩;obtain rfl:=sI ao;clear ao;have h:=du;dsimp only[aB] at h;clear cy c0 da db dd df b5 ca cb cd cf;revert h;refine cS (fun e2 h=>?_) fun e2 h=>?_
  ·obtain rfl:=sI h;refine bK hJ (by simp (maxSteps:=9^9) only[*,go_sem]) ?_;refine ah hJ ?_;(try simp (maxSteps:=9^9) only[*,go_sem]);obtain rfl:=sI x;clear x;have h:=R;dsimp only[aB] at h;cases h
  refine bG hJ (by simp (maxSteps:=9^9) only[*,go_sem]) ?_;refine aH hJ (af hJ ?_);revert h;refine bS fun e3 h fa=>?_;refine wQ hJ (fun a F'=>∃(C:Bool) (D:Bool),some (Fl.bk (C,D):Fl (Bool×Bool) Bool)=some e3/\F'=⟨K,(j,rt b.2.1.num b.2.1.den)::(i,bk u0 s1 q (sl d17 u0.aG G) s)::[]⟩/\sz a=204/\a.defers=[]/\cz [2,8,9,10,11,12,13,14,15,16,17,18,19,58,59,60,61,62,63,64,65,66,67,68,69,70,71,72,73,74,75,76,77,78,79,80,81,82,83,84,85,86,87,88,89,90,91,92,93,94,95,96,97,98,99,100,101,102,103,104,105,106,107,108,109,110,111,112,113,114,115,116,117,118,119,120,121,122,123,124,125,126,127,128,129,130,131,132,133,134,135,136,137,138,139,140,141,142,143,144,145,146,147,148,149,150,151,152,153,154,155,156,157,158,159] a k/\slot a 1= .pointer (some ⟨i,0,none⟩)/\slot a 2= .bool t/\slot a 3= .int .i64 b.1/\slot a 4= .pointer (some ⟨j,0,none⟩)/\slot a 6= .int .i64 z.1/\slot a 8= .bool C/\slot a 9= .bool D/\slot a 10= .bool u/\slot a 11= .int .i64 g/\slot a 14= .slice d71 B.1.length O) ?_ ?_
  ·refine aj hJ ?_;revert h;refine cS (fun fb h=>?_) fun fb h=>?_
   ·revert h;refine cS (fun fg h=>?_) fun fg h=>?_
    ·(try simp (maxSteps:=9^9) only[*,go_sem]);(try simp (maxSteps:=9^9) only[*,go_sem]);refine Qn.intro ⟨_,Le.sub (List.Sublist.refl _),(J.1==2),true,h,rfl,?_⟩;try simp (maxSteps:=9^9) only[*,go_sem]
    (try simp (maxSteps:=9^9) only[*,go_sem]);(try simp (maxSteps:=9^9) only[*,go_sem]);refine Qn.intro ⟨_,Le.sub (List.Sublist.refl _),(J.1==2),(J.1==1),h,rfl,?_⟩;try simp (maxSteps:=9^9) only[*,go_sem]
   revert h;refine cS (fun fi h=>?_) fun fi h=>?_
   ·(try simp (maxSteps:=9^9) only[*,go_sem]);(try simp (maxSteps:=9^9) only[*,go_sem]);refine Qn.intro ⟨_,Le.sub (List.Sublist.refl _),false,true,h,rfl,?_⟩;try simp (maxSteps:=9^9) only[*,go_sem]
   (try simp (maxSteps:=9^9) only[*,go_sem]);(try simp (maxSteps:=9^9) only[*,go_sem]);refine Qn.intro ⟨_,Le.sub (List.Sublist.refl _),false,(J.1==1),h,rfl,?_⟩;try simp (maxSteps:=9^9) only[*,go_sem]
  rintro ih F' ⟨C,D,ar,rfl,fp,fr,ik,fs,ft,fv,fw,fx,gg,gl,gn,gp,gB⟩;obtain rfl:=sI ar;clear ar;have h:=fa;dsimp only[aB] at h;clear dC dE dT ea eb ec ed eh et ev eQ eS e0 e1;refine ah hJ ?_;try simp (maxSteps:=9^9) only[*,go_sem]
  refine aO hJ ?_;revert h;refine bS fun gC P a0=>?_;refine bQ hJ [2,10,16,17,18,19,93,94,95,96,97,98,99,100,101,102,103,104,105,106,107,108,109,110,111,112,113,114,115,116,117,118,119,120,121,122,123,124,125,126,127,128,129,130,131,132,133,134,135,136,137,138,139,140,141,142,143,144,145,146,147,148,149,150,151,152,153,154,155,156,157,158,159] (fun m a F'=>∃(l:Bool) (L:Bool) (n:Int),aY (lq u0 b g B) m (l,L,n)=some gC/\F'=⟨K,(j,rt b.2.1.num b.2.1.den)::(i,bk u0 s1 q (sl d17 u0.aG G) s)::[]⟩/\slot a 2= .bool l/\slot a 10= .bool L/\slot a 16= .int .i64 n) fu ?_ ?_
  ·refine ⟨t,u,0,P,rfl,?_⟩;try simp (maxSteps:=9^9) only[*,go_sem]
  rintro E e F' f ⟨l,L,n,P,rfl,gM,gT,gV⟩;have g0:sz e=204:=by rw[f.size];simp (maxSteps:=9^9) only[*,go_sem]
  have g1:e.defers=[]:=by rw[f.defers];simp (maxSteps:=9^9) only[*,go_sem]
  have g2:slot e 1= .pointer (some ⟨i,0,none⟩):=by rw[f.dD 1 (by decide)];simp (maxSteps:=9^9) only[*,go_sem]
  have g3:slot e 3= .int .i64 b.1:=by rw[f.dD 3 (by decide)];simp (maxSteps:=9^9) only[*,go_sem]
  have g4:slot e 4= .pointer (some ⟨j,0,none⟩):=by rw[f.dD 4 (by decide)];simp (maxSteps:=9^9) only[*,go_sem]
  have ha:slot e 6= .int .i64 z.1:=by rw[f.dD 6 (by decide)];simp (maxSteps:=9^9) only[*,go_sem]
  have hc:slot e 8= .bool C:=by rw[f.dD 8 (by decide)];simp (maxSteps:=9^9) only[*,go_sem]
  have hf:slot e 9= .bool D:=by rw[f.dD 9 (by decide)];simp (maxSteps:=9^9) only[*,go_sem]
  have hg:slot e 11= .int .i64 g:=by rw[f.dD 11 (by decide)];simp (maxSteps:=9^9) only[*,go_sem]
  have hh:slot e 14= .slice d71 B.1.length O:=by rw[f.dD 14 (by decide)];simp (maxSteps:=9^9) only[*,go_sem]
  have il:cz [2,8,9,10,11,12,13,14,15,16,17,18,19,58,59,60,61,62,63,64,65,66,67,68,69,70,71,72,73,74,75,76,77,78,79,80,81,82,83,84,85,86,87,88,89,90,91,92,93,94,95,96,97,98,99,100,101,102,103,104,105,106,107,108,109,110,111,112,113,114,115,116,117,118,119,120,121,122,123,124,125,126,127,128,129,130,131,132,133,134,135,136,137,138,139,140,141,142,143,144,145,146,147,148,149,150,151,152,153,154,155,156,157,158,159] e k:=(f.fG (by decide)).trans (by simp (maxSteps:=9^9) only[*,go_sem]);clear f fp fr fs ft fv fw fx gg gl gn gp gB;obtain _|E:=E
  ·exact absurd P (by simp only[aY,reduceCtorEq,not_false_eq_true])
  revert P;refine bS fun im h o=>?_;unfold lq at h;try dsimp only at h
  refine af hJ (ah hJ ?_);try simp (maxSteps:=9^9) only[*,go_sem]
  revert h;refine cS (fun a2 h=>?_) fun a2 h=>?_
  ·(try simp only[Int.ofNat_lt] at a2);refine bK hJ (by simp (maxSteps:=9^9) only[*,go_sem]) ?_;refine aH hJ (af hJ ?_);refine aO hJ (af hJ ?_);refine cQ hJ mixed 17 2 (by simp (maxSteps:=9^9) only[*,go_sem]) (by kernel_rfl) ?_;revert h;refine bS fun a3 hi h=>?_;obtain ⟨iv,ix,a4⟩:=cW hi;obtain ⟨hj,hk,hl,hn,Q⟩:=c.y.el _ _ a4;obtain rfl:hk=a3.cells:=hn;cases hl;have ho:=Q 0 _ rfl;simp only[go_sem] at ho;have hp:=Q 1 _ rfl;simp only[go_sem] at hp;have hq:=Q 2 _ rfl;simp only[go_sem] at hq;clear Q a4;revert h;refine bS fun a5 hr h=>?_;obtain ⟨jC,j1,a6⟩:=cW hr;obtain ⟨ht,hv,hx,hy,a7⟩:=al.el _ _ a6;obtain rfl:hv=[.int .i64 a5]:=hy;cases hx;have hz:=a7 0 _ rfl;simp only[go_sem] at hz;clear a7 a6;revert h;refine bS fun hA hB h=>?_;(try simp (maxSteps:=9^9) only[*,go_sem]);refine ⟨_,bC hJ fun F X=>nM a3.back a5 hB,bY ?_⟩;revert h;refine bS fun p hD h=>?_;(try simp (maxSteps:=9^9) only[*,go_sem]);refine ⟨_,bC hJ fun F X=>vq (d.mono (b8 X)) u0 (c.mono (b8 X)) hA hD,bY ?_⟩;(try simp (maxSteps:=9^9) only[*,go_sem]);refine az fun a8 j2 hE=>?_;try simp only[au] at hE
   (try simp (maxSteps:=9^9) only[*,go_sem]);refine af hJ (af hJ ?_);revert h;refine bS fun hF h hG=>?_;refine wQ hJ (fun a F'=>∃(Y:Bool),some (Fl.bk Y:Fl Bool Bool)=some hF/\F'=⟨K,(a8,rt p.1.num p.1.den)::(j,rt b.2.1.num b.2.1.den)::(i,bk u0 s1 q (sl (some hj) u0.aG G) s)::[]⟩/\sz a=204/\a.defers=[]/\cz [2,8,9,10,11,12,13,14,15,16,17,18,19,58,59,60,61,62,63,64,65,66,67,68,69,70,71,72,73,74,75,76,77,78,79,80,81,82,83,84,85,86,87,88,89,90,91,92,93,94,95,96,97,98,99,100,101,102,103,104,105,106,107,108,109,110,111,112,113,114,115,116,117,118,119,120,121,122,123,124,125,126,127,128,129,130,131,132,133,134,135,136,137,138,139,140,141,142,143,144,145,146,147,148,149,150,151,152,153,154,155,156,157,158,159] a k/\cz [2,10,16,17,18,19,93,94,95,96,97,98,99,100,101,102,103,104,105,106,107,108,109,110,111,112,113,114,115,116,117,118,119,120,121,122,123,124,125,126,127,128,129,130,131,132,133,134,135,136,137,138,139,140,141,142,143,144,145,146,147,148,149,150,151,152,153,154,155,156,157,158,159] a e/\slot a 1= .pointer (some ⟨i,0,none⟩)/\slot a 2= .bool l/\slot a 3= .int .i64 b.1/\slot a 4= .pointer (some ⟨j,0,none⟩)/\slot a 6= .int .i64 z.1/\slot a 8= .bool C/\slot a 9= .bool D/\slot a 10= .bool L/\slot a 11= .int .i64 g/\slot a 14= .slice (some ht) B.1.length O/\slot a 16= .int .i64 n/\slot a 17= .pointer (some ⟨a8,0,none⟩)/\slot a 18= .bool p.2.1/\slot a 145= .bool Y) ?_ ?_
   ·refine aj hJ ?_;revert h;refine cS (fun hI h=>?_) fun hI h=>?_
    ·(try simp (maxSteps:=9^9) only[*,go_sem]);(try simp (maxSteps:=9^9) only[*,go_sem]);refine Qn.intro ⟨_,Le.sub (List.Sublist.refl _),true,h,rfl,?_⟩;try simp (maxSteps:=9^9) only[*,go_sem]
    revert h;refine bS fun kh hK h=>?_;(try simp (maxSteps:=9^9) only[*,go_sem]);refine bh hJ _ (GU p.1 hK) (aJ ?_);revert h;refine cS (fun Z h=>?_) fun Z h=>?_
    ·rw[Bool.not_eq_true'] at Z;(try simp (maxSteps:=9^9) only[*,go_sem]);(try simp (maxSteps:=9^9) only[*,go_sem]);refine Qn.intro ⟨_,Le.sub (List.Sublist.refl _),true,h,rfl,?_⟩;try simp (maxSteps:=9^9) only[*,go_sem]
    rw[Bool.not_eq_false'] at Z;revert h;refine cS (fun hL h=>?_) fun hL h=>?_
    ·revert h;refine cS (fun hM h=>?_) fun hM h=>?_
     ·(try simp (maxSteps:=9^9) only[*,go_sem]);(try simp (maxSteps:=9^9) only[*,go_sem]);refine Qn.intro ⟨_,Le.sub (List.Sublist.refl _),true,h,rfl,?_⟩;try simp (maxSteps:=9^9) only[*,go_sem]
     revert h;refine bS fun kj hN h=>?_;(try simp (maxSteps:=9^9) only[*,go_sem]);refine bh hJ _ (AE b.2.1 p.1 hN) (aJ ?_);revert h;refine cS (fun hP h=>?_) fun hP h=>?_
     ·(try simp (maxSteps:=9^9) only[*,go_sem]);(try simp (maxSteps:=9^9) only[*,go_sem]);refine Qn.intro ⟨_,Le.sub (List.Sublist.refl _),true,h,rfl,?_⟩;try simp (maxSteps:=9^9) only[*,go_sem]
     revert h;refine cS (fun hQ h=>?_) fun hQ h=>?_
     ·revert h;refine bS fun hR hS h=>?_;(try simp (maxSteps:=9^9) only[*,go_sem]);refine bh hJ _ (AE p.1 b.2.1 hS) (aJ ?_);(try simp (maxSteps:=9^9) only[*,go_sem]);(try simp (maxSteps:=9^9) only[*,go_sem]);refine Qn.intro ⟨_,Le.sub (List.Sublist.refl _),(!hR),h,rfl,?_⟩;try simp (maxSteps:=9^9) only[*,go_sem]
     (try simp (maxSteps:=9^9) only[*,go_sem]);(try simp (maxSteps:=9^9) only[*,go_sem]);refine Qn.intro ⟨_,Le.sub (List.Sublist.refl _),false,h,rfl,?_⟩;try simp (maxSteps:=9^9) only[*,go_sem]
    (try simp (maxSteps:=9^9) only[*,go_sem]);(try simp (maxSteps:=9^9) only[*,go_sem]);refine Qn.intro ⟨_,Le.sub (List.Sublist.refl _),false,h,rfl,?_⟩;try simp (maxSteps:=9^9) only[*,go_sem]
   rintro kk F' ⟨Y,a9,rfl,kl,km,kn,kp,ks,kt,kv,kx,ky,k0,k2,lb,lh,lj,lk,ll,ln,lo⟩;obtain rfl:=sI a9;clear a9;have h:=hG;dsimp only[aB] at h;clear g0 g1 g2 g3 g4 ha hc hf hg hh gM gT gV;revert h;refine cS (fun hT h=>?_) fun hT h=>?_
   ·obtain rfl:=sI h;refine bK hJ (by simp (maxSteps:=9^9) only[*,go_sem]) ?_;refine ah hJ ?_;(try simp (maxSteps:=9^9) only[*,go_sem]);obtain rfl:=sI o;clear o;have h:=a0;dsimp only[aB] at h;obtain rfl:=sI h;obtain rfl:=sI x;clear x;have h:=R;dsimp only[aB] at h;cases h
   refine bG hJ (by simp (maxSteps:=9^9) only[*,go_sem]) ?_;refine aH hJ (aj hJ ?_);revert h;refine cS (fun hV h=>?_) fun hV h=>?_
   ·obtain rfl:=sI h;(try simp (maxSteps:=9^9) only[*,go_sem]);refine aj hJ ?_;(try simp (maxSteps:=9^9) only[*,go_sem]);(try simp (maxSteps:=9^9) only[*,go_sem]);refine ⟨E,Nat.lt_succ_self _,_,Le.sub (List.Sublist.cons _ (List.Sublist.refl _)),l,true,(IntKind.i64.wrap (n+1)),o,rfl,?_⟩;try simp (maxSteps:=9^9) only[*,go_sem]
   revert h;refine cS (fun hX h=>?_) fun hX h=>?_
   ·revert h;refine cS (fun hY h=>?_) fun hY h=>?_
    ·obtain rfl:=sI h;(try simp (maxSteps:=9^9) only[*,go_sem]);refine aj hJ ?_;(try simp (maxSteps:=9^9) only[*,go_sem]);(try simp (maxSteps:=9^9) only[*,go_sem]);refine ⟨E,Nat.lt_succ_self _,_,Le.sub (List.Sublist.cons _ (List.Sublist.refl _)),l,((p.1.num==b.2.1.num)&&(p.1.den==b.2.1.den)),(IntKind.i64.wrap (n+1)),o,rfl,?_⟩;try simp (maxSteps:=9^9) only[*,go_sem]
    obtain rfl:=sI h;(try simp (maxSteps:=9^9) only[*,go_sem]);refine aj hJ ?_;(try simp (maxSteps:=9^9) only[*,go_sem]);(try simp (maxSteps:=9^9) only[*,go_sem]);refine ⟨E,Nat.lt_succ_self _,_,Le.sub (List.Sublist.cons _ (List.Sublist.refl _)),l,false,(IntKind.i64.wrap (n+1)),o,rfl,?_⟩;try simp (maxSteps:=9^9) only[*,go_sem]
   obtain rfl:=sI h;(try simp (maxSteps:=9^9) only[*,go_sem]);refine aj hJ ?_;(try simp (maxSteps:=9^9) only[*,go_sem]);(try simp (maxSteps:=9^9) only[*,go_sem]);refine ⟨E,Nat.lt_succ_self _,_,Le.sub (List.Sublist.cons _ (List.Sublist.refl _)),l,false,(IntKind.i64.wrap (n+1)),o,rfl,?_⟩;try simp (maxSteps:=9^9) only[*,go_sem]
  obtain rfl:=sI h;refine bG hJ (by simp (maxSteps:=9^9) only[*,go_sem]) ?_;refine bN ?_;try simp only[go_sem]
  obtain rfl:=sI o;clear o;have h:=a0;dsimp only[aB] at h;obtain rfl:=sI h;refine aj hJ ?_;try simp (maxSteps:=9^9) only[*,go_sem]
  try simp (maxSteps:=9^9) only[*,go_sem]
  refine ⟨T,Nat.lt_succ_self _,_,Le.sub (List.Sublist.refl _),K,l,C,D,L,(IntKind.i64.wrap (g+1)),x,rfl,(U.trans V),?_⟩;try simp (maxSteps:=9^9) only[*,go_sem]
 obtain rfl:=sI h;refine bG hJ (by simp (maxSteps:=9^9) only[*,go_sem]) ?_;refine bN ?_;try simp only[go_sem]
 obtain rfl:=sI x;clear x;have h:=R;dsimp only[aB] at h;show Wp _ _ _ _ _;exact cB hJ (Le.sub (.cons₂ _ (.cons _ (List.Sublist.refl _)))) (KQ hJ u0 b z t H I u d c.y (by simp (maxSteps:=9^9) only[*,go_sem]) h)
end Go.Proofs.YtpgcmoanfifglaaGreatDoor
end

/- A part of the proof of a row and its tied card: QM14. -/
import Derived.Test.YtghbphimkgamkaaGreatDoorQM13
set_option linter.all false
section
namespace Go.Proofs.YtghbphimkgamkaaGreatDoor
open Go Go.Sep Go.Proofs
set_option maxRecDepth 100000
set_option maxHeartbeats 4000000
set_option maxHeartbeats 40000000 in
theorem Ef {Φ:Goroutine->aa->Prop}(hJ:Closed Tryz.prog true (dV Tryz.prog Φ)){A:Act}{ro:Addr->Option Value}(a:(Int×Int×Int))(f:(aj×Int))(b:((List Int)×Int))(g:(aj×Int))(i:(aj×Int))(d:(Int×Int))(c:((List Int)×Int))(Q:de ro){j:Value}(k:aA rI ro j b.1){l:Value}(m:aA rI ro l c.1)(q:sz A=439/\A.defers=[]/\slot A 0= .bool false/\slot A 4= .int .i64 a.2.2/\slot A 7= .int .i64 f.2/\slot A 9= .int .i64 b.2/\slot A 12= .int .i64 g.2/\slot A 15= .int .i64 i.2/\slot A 18= .int .i64 d.2/\slot A 20= .int .i64 c.2/\slot A 21=j/\slot A 28= .int .i64 d.1/\slot A 40= .int .i64 a.1/\slot A 41= .int .i64 a.2.1/\slot A 43=l)(h:zw a f b g i d c=some true):Wp (dV Tryz.prog Φ) (bA (bA (bA (bA (bA (bA (bA (bA (bA (bA (bA (bA (bA (bA (bA (bA (bA (bA (bA (bA (bA (bA (bA (bA (bA (bA (bA (bA (bA (bA (bA (bA (Tryz.f10.body.getD .skip))))))))))))))))))))))))))))))))) (iA Tryz.prog [.tmp 0] (fun v _=>v= .bool true)) A ⟨ro,[]⟩:=by
 obtain ⟨R,hd,S,T,U,V,W,X,Y,Z,ab,ad,ae,al,ao⟩:=q;obtain ⟨ar,a0,rfl,a2,a3,-⟩:=id k;obtain ⟨a4,a5,rfl,a6,a7,-⟩:=id m;unfold zw at h;refine fT hJ fun s t=>?_;have u:=s.nd;try simp only[keys,List.map_cons,List.map_nil,List.map_append,List.cons_append,List.nil_append,List.nodup_cons,List.mem_cons,List.mem_append,List.not_mem_nil,or_false,not_or] at u
 simp only[bu] at t;refine af hJ ?_;refine aC hJ fun w=>?_;refine eA hJ fun K n=>?_;revert h;refine cS (fun y h=>?_) fun y h=>?_
 .revert h;refine cS (fun z h=>?_) fun z h=>?_
  .revert h;refine cS (fun B h=>?_) fun B h=>?_
   .revert h;refine cS (fun C h=>?_) fun C h=>?_
    .revert h;refine cS (fun D h=>?_) fun D h=>?_
     .revert h;refine cS (fun E h=>?_) fun E h=>?_
      .revert h;refine cS (fun F h=>?_) fun F h=>?_
       .revert h;refine cS (fun G h=>?_) fun G h=>?_
        .revert h;refine cS (fun H h=>?_) fun H h=>?_
         .revert h;refine bS fun a8 I h=>?_;(try simp (maxSteps:=9^9) only[*,go_sem]);refine ay fun a9 J o=>?_;have L:=aQ.cons o w;try simp only[au] at o
          (try simp (maxSteps:=9^9) only[*,go_sem]);refine aU hJ _ (qt b.1 (k.mono aN) ([11,12]) ((aA.flat (r:=rI) (e:=3) (cs:=#[.int .i64 11,.int .i64 12]) (fun x=>[.int .i64 x]) ([11,12]) (fun _=>rfl) J rfl (by simp)).mono (kA (by simp (maxSteps:=9^9) only[*,go_sem]))) I) (aJ ?_);revert h;refine cS (fun M h=>?_) fun M h=>?_
          .revert h;refine cS (fun N h=>?_) fun N h=>?_
           .revert h;refine bS fun ba O h=>?_;obtain rfl:=sI h;(try simp (maxSteps:=9^9) only[*,go_sem]);refine ay fun bb P p=>?_;have bc:=aQ.cons p L;try simp only[au] at p
            (try simp (maxSteps:=9^9) only[*,go_sem]);refine aU hJ _ (qt c.1 (m.mono aN) ([1]) ((aA.flat (r:=rI) (e:=3) (cs:=#[.int .i64 1]) (fun x=>[.int .i64 x]) ([1]) (fun _=>rfl) P rfl (by simp)).mono (kA (by simp (maxSteps:=9^9) only[*,go_sem]))) O) (aJ ?_);(try simp (maxSteps:=9^9) only[*,go_sem]);refine n.go ?_;clear n K;refine ax ?_;try simp only[*,go_sem]
           cases h
          cases h
         cases h
        cases h
       cases h
      cases h
     cases h
    cases h
   cases h
  cases h
 cases h
set_option maxHeartbeats 40000000 in
theorem LO {Φ:Goroutine->aa->Prop}(hJ:Closed Tryz.prog true (dV Tryz.prog Φ)){A:Act}{ro:Addr->Option Value}(d:aj)(eu:((List Int)×Int))(ev:(Int×Int))(eQ:(Int×Int))(b0:(Int×Int))(eS:(Int×Int))(e0:(Int×an×Int))(e1:(Int×an×Int))(e2:(an×an×Bool×Int)){i:Nat}(a:de ro){b1:Value}(e3:aA rI ro b1 eu.1){j k m n:Value}(c:bN ro d j k m n)(fa:sz A=439/\A.defers=[]/\slot A 0= .bool false/\slot A 1= .pointer (some ⟨i,0,none⟩)/\slot A 4= .int .i64 ev.2/\slot A 7= .int .i64 eQ.2/\slot A 9= .int .i64 b0.2/\slot A 12= .int .i64 eS.2/\slot A 15= .int .i64 e0.2.2/\slot A 18= .int .i64 e1.2.2/\slot A 20= .int .i64 e2.2.2.2/\slot A 21=b1/\slot A 28= .int .i64 b0.1)(h:zx d=some true):Wp (dV Tryz.prog Φ) (bA (bA (bA (bA (bA (bA (bA (bA (bA (bA (bA (bA (bA (bA (bA (bA (bA (bA (bA (bA (bA (bA (bA (bA (bA (Tryz.f10.body.getD .skip)))))))))))))))))))))))))) (iA Tryz.prog [.tmp 0] (fun v _=>v= .bool true)) A ⟨ro,(i,bk d j k m n)::[]⟩:=by
 obtain ⟨b2,hd,b3,k1,b4,b5,ca,cb,cd,cf,cl,cu,cy⟩:=fa;obtain ⟨d125,im,rfl,iv,ix,-⟩:=id e3;unfold zx at h;have fb:=c.oc;simp only[bC] at fb;refine fT hJ fun a2 cS=>?_;have fg:=a2.nd;try simp only[keys,List.map_cons,List.map_nil,List.map_append,List.cons_append,List.nil_append,List.nodup_cons,List.mem_cons,List.mem_append,List.not_mem_nil,or_false,not_or] at fg
 replace g:=cS.hd;simp only[bu] at cS;refine af hJ (eA hJ fun K b=>?_);revert h;refine bS fun c0 fi h=>?_;try simp (maxSteps:=9^9) only[*,go_sem]
 refine aU hJ _ (HY (a.mono aN) d (c.mono aN) fi) (aJ ?_);try simp (maxSteps:=9^9) only[*,go_sem]
 refine b.go ?_;clear b K;refine af hJ ?_;refine kF hJ mixed [] (.rd 0 (.rd 1 (.two 2 (.pure 3 (.pure 4 (.pure 5 (.one 6 (.one 7 (.pure 8 .done)))))) 6 (.one 2 (.pure 3 (.pure 4 (.pure 5 (.one 7 (.pure 8 .done))))))))) ⟨ro,[(i,bk d j k m n)]⟩ (by simp (maxSteps:=9^9) only[*,go_sem]) (by kernel_rfl) fun K b=>?_;revert h;refine bS fun da fo h=>?_;try simp (maxSteps:=9^9) only[*,go_sem]
 refine ⟨_,bD hJ fun F u=>kN 0 true fo,bR ?_⟩;try simp (maxSteps:=9^9) only[*,go_sem]
 refine kE ?_ ?_
 .revert h;refine bS fun Z fp h=>?_;try simp (maxSteps:=9^9) only[*,go_sem]
  refine b9 hJ _ (qC a d c da fp) fun v jC a3 db f=>?_;obtain ⟨dd,df,dk,dp,rfl,dq⟩:=f;have fr:=dq.oc;simp only[bC] at fr;replace c:=c.mono a3;replace g:=db.hd;replace a:=a.mono a3;simp only[bu] at db;have j1:=eN (l:=[(i,bk d j k m n)]) a3 (aE.cons g (aE.nil _));refine ⟨by simp (maxSteps:=9^9) only[*,go_sem],?_⟩;refine bR ?_;try simp (maxSteps:=9^9) only[*,go_sem]
  refine ay fun w s ds=>?_;have j2:=aQ.cons ds a2;try simp only[au] at ds
  try simp (maxSteps:=9^9) only[*,go_sem]
  refine b.go ?_;clear b K;refine af hJ (eA hJ fun K b=>?_);revert h;refine bS fun fs ft h=>?_;try simp (maxSteps:=9^9) only[*,go_sem]
  refine b9 hJ _ (qD a Z.1 dq 0 ft) fun v fu dt a4 f=>?_;obtain ⟨kh,rfl,o⟩:=f;have fv:=o.oc;simp only[bC] at fv;replace c:=c.mono dt;replace s:=a4.hd;replace g:=a4.tl.hd;replace a:=a.mono dt;simp only[bu] at a4;refine aJ ?_;try simp (maxSteps:=9^9) only[*,go_sem]
  refine b.go ?_;clear b K;refine af hJ ?_;refine kF hJ mixed [] (.rd 0 (.rd 1 (.one 2 (.pure 3 (.pure 4 (.pure 5 (.pure 6 .done))))))) ⟨fu,[(w,bk Z.1 dd df dk dp),(i,bk d j k m n)]⟩ (by simp (maxSteps:=9^9) only[*,go_sem]) (by kernel_rfl) fun K b=>?_;revert h;refine bS fun fw fx h=>?_;try simp (maxSteps:=9^9) only[*,go_sem]
  refine ⟨_,bD hJ fun F u=>kN 1 true fx,bR ?_⟩;revert h;refine bS fun fz gg h=>?_;try simp (maxSteps:=9^9) only[*,go_sem]
  refine b9 hJ _ (qC a d c fw gg) fun v gl ab a5 f=>?_;obtain ⟨kj,kk,kl,km,rfl,N⟩:=f;have gn:=N.oc;simp only[bC] at gn;replace o:=o.mono ab;replace c:=c.mono ab;replace s:=a5.hd;replace g:=a5.tl.hd;replace a:=a.mono ab;simp only[bu] at a5;obtain ⟨kn,kp,rfl,ks,kt,-⟩:=id N.e;obtain ⟨kv,kx,rfl,ky,k0,-⟩:=id N.p;obtain ⟨k2,lb,rfl,lh,lj,-⟩:=id N.y;obtain ⟨lk,ll,rfl,ln,lo,-⟩:=id N.t;have lr:=eN (l:=[(w,bk Z.1 dd df dk dp),(i,bk d j k m n)]) ab (aE.cons s (aE.cons g (aE.nil _)));refine ⟨by simp (maxSteps:=9^9) only[*,go_sem],?_⟩;refine bR ?_;try simp (maxSteps:=9^9) only[*,go_sem]
  refine b.go ?_;clear b K;refine af hJ ?_;refine eY [0,1,4,7,9,12,15,18,20,21,28,40,41,42] fun lv gp gB gC=>?_;simp only[*,go_sem] at gp gB gC;clear b2 hd b3 k1 b4 b5 ca cb cd cf cl cu cy;refine kF hJ mixed [] (.rd 0 (.rd 1 (.one 2 (.pure 3 (.pure 4 (.pure 5 (.one 6 (.pure 7 .done)))))))) ⟨gl,[(i,bk d j k m n)]⟩ (by simp (maxSteps:=9^9) only[*,go_sem]) (by kernel_rfl) fun K b=>?_;revert h;refine bS fun gM gT h=>?_;try simp (maxSteps:=9^9) only[*,go_sem]
  refine ⟨_,bD hJ fun F u=>tA 12 12 gT,bR ?_⟩;revert h;refine bS fun x gV h=>?_;try simp (maxSteps:=9^9) only[*,go_sem]
  refine b9 hJ _ (xI a d c 0 gM gV) fun v g0 ad a6 f=>?_;obtain ⟨O,P,Q,R,rfl,du⟩:=f;have g1:=du.oc;simp only[bC] at g1;replace o:=o.mono ad;replace c:=c.mono ad;replace s:=a6.hd;replace g:=a6.tl.hd;replace a:=a.mono ad;simp only[bu] at a6;have lx:=eN (l:=[(i,bk d j k m n)]) ad (aE.cons g (aE.nil _));refine ⟨by simp (maxSteps:=9^9) only[*,go_sem],?_⟩;refine bR ?_;try simp (maxSteps:=9^9) only[*,go_sem]
  refine b.go ?_;clear b K;refine af hJ (eA hJ fun K b=>?_);revert h;refine bS fun g2 g3 h=>?_;try simp (maxSteps:=9^9) only[*,go_sem]
  refine aU hJ _ (ov (a.mono aN) x.1 (du.mono aN) g3) (aJ ?_);try simp (maxSteps:=9^9) only[*,go_sem]
  refine b.go ?_;clear b K;refine af hJ ?_;refine kF hJ mixed [] (.rd 0 (.rd 1 (.one 2 (.rd 3 (.one 4 (.rd 5 (.one 6 (.one 7 (.pure 8 (.pure 9 (.pure 10 (.pure 11 (.pure 12 .done))))))))))))) ⟨g0,[(w,bk x.1 O P Q R),(i,bk d j k m n)]⟩ (by simp (maxSteps:=9^9) only[*,go_sem]) (by kernel_rfl) fun K b=>?_;revert h;refine bS fun g4 ha h=>?_;try simp (maxSteps:=9^9) only[*,go_sem]
  refine ⟨_,bD hJ fun F u=>kN 0 true ha,bR ?_⟩;revert h;refine bS fun hc hf h=>?_;try simp (maxSteps:=9^9) only[*,go_sem]
  refine b9 hJ _ (m8 d c g4 hf) fun v ly z a7 f=>?_;obtain ⟨lL,l1,l2,l3,rfl,D⟩:=f;have hg:=D.oc;simp only[bC] at hg;replace o:=o.mono z;replace c:=c.mono z;replace s:=a7.hd;replace g:=a7.tl.hd;replace a:=a.mono z;simp only[bu] at a7;obtain ⟨l4,ma,rfl,mb,mf,-⟩:=id D.e;obtain ⟨mi,ml,rfl,mn,mr,-⟩:=id D.p;obtain ⟨mx,my,rfl,m1,m2,-⟩:=id D.y;obtain ⟨na,nb,rfl,nf,nm,-⟩:=id D.t;have nn:=eN (l:=[(w,bk x.1 O P Q R),(i,bk d j k m n)]) z (aE.cons s (aE.cons g (aE.nil _)));refine ⟨by simp (maxSteps:=9^9) only[*,go_sem],?_⟩;refine bR ?_;revert h;refine bS fun hh hi h=>?_;try simp (maxSteps:=9^9) only[*,go_sem]
  refine ⟨_,bD hJ fun F u=>kN 1 true hi,bR ?_⟩;revert h;refine bS fun hj hk h=>?_;try simp (maxSteps:=9^9) only[*,go_sem]
  refine b9 hJ _ (m8 hc D hh hk) fun v np E a8 f=>?_;obtain ⟨ns,nx,nz,nA,rfl,G⟩:=f;have hl:=G.oc;simp only[bC] at hl;replace o:=o.mono E;replace c:=c.mono E;replace s:=a8.hd;replace g:=a8.tl.hd;replace a:=a.mono E;simp only[bu] at a8;obtain ⟨nH,nI,rfl,nK,nQ,-⟩:=id G.e;obtain ⟨nR,nT,rfl,nV,nX,-⟩:=id G.p;obtain ⟨nY,n0,rfl,n1,n2,-⟩:=id G.y;obtain ⟨n3,oi,rfl,oj,ox,-⟩:=id G.t;have oy:=eN (l:=[(w,bk x.1 O P Q R),(i,bk d j k m n)]) (z.trans E) (aE.cons s (aE.cons g (aE.nil _)));refine ⟨by simp (maxSteps:=9^9) only[*,go_sem],?_⟩;refine bR ?_;revert h;refine bS fun hn ho h=>?_;try simp (maxSteps:=9^9) only[*,go_sem]
  refine ⟨_,bD hJ fun F u=>kN 0 false ho,bR ?_⟩;revert h;refine bS fun hp hq h=>?_;try simp (maxSteps:=9^9) only[*,go_sem]
  refine b9 hJ _ (m8 hj G hn hq) fun v o0 S a9 f=>?_;obtain ⟨o1,o2,o4,pa,rfl,H⟩:=f;have hr:=H.oc;simp only[bC] at hr;replace o:=o.mono S;replace c:=c.mono S;replace s:=a9.hd;replace g:=a9.tl.hd;replace a:=a.mono S;simp only[bu] at a9;obtain ⟨pb,pd,rfl,pf,ph,-⟩:=id H.e;obtain ⟨pj,pk,rfl,po,pr,-⟩:=id H.p;obtain ⟨ps,pt,rfl,pv,pw,-⟩:=id H.y;obtain ⟨px,py,rfl,pA,pB,-⟩:=id H.t;have pC:=eN (l:=[(w,bk x.1 O P Q R),(i,bk d j k m n)]) ((z.trans E).trans S) (aE.cons s (aE.cons g (aE.nil _)));refine ⟨by simp (maxSteps:=9^9) only[*,go_sem],?_⟩;refine bR ?_;revert h;refine bS fun hs ht h=>?_;try simp (maxSteps:=9^9) only[*,go_sem]
  refine b9 hJ _ (BL a hp H ht) fun v pD ae ba f=>?_;obtain ⟨pL,rfl,dv⟩:=f;replace o:=o.mono ae;replace c:=c.mono ae;replace s:=ba.hd;replace g:=ba.tl.hd;replace a:=a.mono ae;simp only[bu] at ba;obtain ⟨pT,p0,rfl,p1,qe,-⟩:=id dv;have qk:=eN (l:=[(w,bk x.1 O P Q R),(i,bk d j k m n)]) (((z.trans E).trans S).trans ae) (aE.cons s (aE.cons g (aE.nil _)));refine ⟨by simp (maxSteps:=9^9) only[*,go_sem],?_⟩;refine bR ?_;try simp (maxSteps:=9^9) only[*,go_sem]
  refine b.go ?_;clear b K;show Wp _ _ _ _ _;exact cz hJ (Le.sub (.cons _ (.cons _ (List.Sublist.refl _)))) (Ef hJ c0 Z fs fz x g2 hs a o dv (by simp (maxSteps:=9^9) only[*,go_sem]) h)
 revert h;refine bS fun al hv h=>?_;try simp (maxSteps:=9^9) only[*,go_sem]
 refine ay fun B r dC=>?_;have q0:=aQ.cons dC a2;try simp only[au] at dC
 try simp (maxSteps:=9^9) only[*,go_sem]
 refine b9 hJ _ (qC a d c da hv) fun v q1 bb bc f=>?_;obtain ⟨dE,dT,ea,eb,rfl,ec⟩:=f;have hx:=ec.oc;simp only[bC] at hx;replace c:=c.mono bb;replace r:=bc.hd;replace g:=bc.tl.hd;replace a:=a.mono bb;simp only[bu] at bc;have ra:=eN (l:=[(i,bk d j k m n)]) bb (aE.cons g (aE.nil _));refine ⟨by simp (maxSteps:=9^9) only[*,go_sem],?_⟩;refine bR ?_;try simp (maxSteps:=9^9) only[*,go_sem]
 refine b.go ?_;clear b K;refine af hJ (eA hJ fun K b=>?_);revert h;refine bS fun hy hz h=>?_;try simp (maxSteps:=9^9) only[*,go_sem]
 refine b9 hJ _ (qD a al.1 ec 0 hz) fun v hA ed bd f=>?_;obtain ⟨rb,rfl,q⟩:=f;have hB:=q.oc;simp only[bC] at hB;replace c:=c.mono ed;replace r:=bd.hd;replace g:=bd.tl.hd;replace a:=a.mono ed;simp only[bu] at bd;refine aJ ?_;try simp (maxSteps:=9^9) only[*,go_sem]
 refine b.go ?_;clear b K;refine af hJ ?_;refine kF hJ mixed [] (.rd 0 (.rd 1 (.one 2 (.pure 3 (.pure 4 (.pure 5 (.pure 6 .done))))))) ⟨hA,[(B,bk al.1 dE dT ea eb),(i,bk d j k m n)]⟩ (by simp (maxSteps:=9^9) only[*,go_sem]) (by kernel_rfl) fun K b=>?_;revert h;refine bS fun hD hE h=>?_;try simp (maxSteps:=9^9) only[*,go_sem]
 refine ⟨_,bD hJ fun F u=>kN 1 true hE,bR ?_⟩;revert h;refine bS fun hF hG h=>?_;try simp (maxSteps:=9^9) only[*,go_sem]
 refine b9 hJ _ (qC a d c hD hG) fun v hI ao bj f=>?_;obtain ⟨re,rh,rk,rl,rfl,T⟩:=f;have hK:=T.oc;simp only[bC] at hK;replace q:=q.mono ao;replace c:=c.mono ao;replace r:=bj.hd;replace g:=bj.tl.hd;replace a:=a.mono ao;simp only[bu] at bj;obtain ⟨rn,rp,rfl,rr,rv,-⟩:=id T.e;obtain ⟨rB,rL,rfl,sa,sb,-⟩:=id T.p;obtain ⟨sc,sf,rfl,sg,sh,-⟩:=id T.y;obtain ⟨sl,sm,rfl,ss,sy,-⟩:=id T.t;have sI:=eN (l:=[(B,bk al.1 dE dT ea eb),(i,bk d j k m n)]) ao (aE.cons r (aE.cons g (aE.nil _)));refine ⟨by simp (maxSteps:=9^9) only[*,go_sem],?_⟩;refine bR ?_;try simp (maxSteps:=9^9) only[*,go_sem]
 refine b.go ?_;clear b K;refine af hJ ?_;refine eY [0,1,4,7,9,12,15,18,20,21,28,40,41,42] fun sT hL hM hN=>?_;simp only[*,go_sem] at hL hM hN;clear b2 hd b3 k1 b4 b5 ca cb cd cf cl cu cy;refine kF hJ mixed [] (.rd 0 (.rd 1 (.one 2 (.pure 3 (.pure 4 (.pure 5 (.one 6 (.pure 7 .done)))))))) ⟨hI,[(i,bk d j k m n)]⟩ (by simp (maxSteps:=9^9) only[*,go_sem]) (by kernel_rfl) fun K b=>?_;revert h;refine bS fun hP hQ h=>?_;try simp (maxSteps:=9^9) only[*,go_sem]
 refine ⟨_,bD hJ fun F u=>tA 12 12 hQ,bR ?_⟩;revert h;refine bS fun C hR h=>?_;try simp (maxSteps:=9^9) only[*,go_sem]
 refine b9 hJ _ (xI a d c 0 hP hR) fun v hS ar bl f=>?_;obtain ⟨U,V,W,X,rfl,eh⟩:=f;have hT:=eh.oc;simp only[bC] at hT;replace q:=q.mono ar;replace c:=c.mono ar;replace r:=bl.hd;replace g:=bl.tl.hd;replace a:=a.mono ar;simp only[bu] at bl;have ta:=eN (l:=[(i,bk d j k m n)]) ar (aE.cons g (aE.nil _));refine ⟨by simp (maxSteps:=9^9) only[*,go_sem],?_⟩;refine bR ?_;try simp (maxSteps:=9^9) only[*,go_sem]
 refine b.go ?_;clear b K;refine af hJ (eA hJ fun K b=>?_);revert h;refine bS fun hV hX h=>?_;try simp (maxSteps:=9^9) only[*,go_sem]
 refine aU hJ _ (ov (a.mono aN) C.1 (eh.mono aN) hX) (aJ ?_);try simp (maxSteps:=9^9) only[*,go_sem]
 refine b.go ?_;clear b K;refine af hJ ?_;refine kF hJ mixed [] (.rd 0 (.rd 1 (.one 2 (.rd 3 (.one 4 (.rd 5 (.one 6 (.one 7 (.pure 8 (.pure 9 (.pure 10 (.pure 11 (.pure 12 .done))))))))))))) ⟨hS,[(B,bk C.1 U V W X),(i,bk d j k m n)]⟩ (by simp (maxSteps:=9^9) only[*,go_sem]) (by kernel_rfl) fun K b=>?_;revert h;refine bS fun hY hZ h=>?_;try simp (maxSteps:=9^9) only[*,go_sem]
 refine ⟨_,bD hJ fun F u=>kN 0 true hZ,bR ?_⟩;revert h;refine bS fun h0 h1 h=>?_;try simp (maxSteps:=9^9) only[*,go_sem]
 refine b9 hJ _ (m8 d c hY h1) fun v tb I bm f=>?_;obtain ⟨te,ti,tk,tm,rfl,J⟩:=f;have h2:=J.oc;simp only[bC] at h2;replace q:=q.mono I;replace r:=bm.hd;replace g:=bm.tl.hd;replace a:=a.mono I;simp only[bu] at bm;obtain ⟨tp,ts,rfl,tt,tx,-⟩:=id J.e;obtain ⟨tz,tI,rfl,tM,tW,-⟩:=id J.p;obtain ⟨ub,ui,rfl,u1,u2,-⟩:=id J.y;obtain ⟨u3,u4,rfl,va,vd,-⟩:=id J.t;have vs:=eN (l:=[(B,bk C.1 U V W X),(i,bk d j k m n)]) I (aE.cons r (aE.cons g (aE.nil _)));refine ⟨by simp (maxSteps:=9^9) only[*,go_sem],?_⟩;refine bR ?_;revert h;refine bS fun h3 h4 h=>?_;try simp (maxSteps:=9^9) only[*,go_sem]
 refine ⟨_,bD hJ fun F u=>kN 1 true h4,bR ?_⟩;revert h;refine bS fun h5 h6 h=>?_;try simp (maxSteps:=9^9) only[*,go_sem]
 refine b9 hJ _ (m8 h0 J h3 h6) fun v vx Y bo f=>?_;obtain ⟨vy,v3,wa,wb,rfl,L⟩:=f;have h7:=L.oc;simp only[bC] at h7;replace q:=q.mono Y;replace r:=bo.hd;replace g:=bo.tl.hd;replace a:=a.mono Y;simp only[bu] at bo;obtain ⟨wc,wi,rfl,wx,wy,-⟩:=id L.e;obtain ⟨wG,w0,rfl,xa,xc,-⟩:=id L.p;obtain ⟨xf,xi,rfl,xn,xr,-⟩:=id L.y;obtain ⟨xt,xv,rfl,x0,x1,-⟩:=id L.t;have yi:=eN (l:=[(B,bk C.1 U V W X),(i,bk d j k m n)]) (I.trans Y) (aE.cons r (aE.cons g (aE.nil _)));refine ⟨by simp (maxSteps:=9^9) only[*,go_sem],?_⟩;refine bR ?_;revert h;refine bS fun h8 h9 h=>?_;try simp (maxSteps:=9^9) only[*,go_sem]
 refine ⟨_,bD hJ fun F u=>kN 0 false h9,bR ?_⟩;revert h;refine bS fun ib ic h=>?_;try simp (maxSteps:=9^9) only[*,go_sem]
 refine b9 hJ _ (m8 h5 L h8 ic) fun v yk a0 br f=>?_;obtain ⟨yn,yr,ys,yv,rfl,M⟩:=f;have ih:=M.oc;simp only[bC] at ih;replace q:=q.mono a0;replace r:=br.hd;replace g:=br.tl.hd;replace a:=a.mono a0;simp only[bu] at br;obtain ⟨y0,y1,rfl,zc,zd,-⟩:=id M.e;obtain ⟨zp,zr,rfl,zs,zt,-⟩:=id M.p;obtain ⟨Ag,At,rfl,Bd,BF,-⟩:=id M.y;obtain ⟨B0,Cy,rfl,CY,Ex,-⟩:=id M.t;have Fl:=eN (l:=[(B,bk C.1 U V W X),(i,bk d j k m n)]) ((I.trans Y).trans a0) (aE.cons r (aE.cons g (aE.nil _)));refine ⟨by simp (maxSteps:=9^9) only[*,go_sem],?_⟩;refine bR ?_;revert h;refine bS fun ik il h=>?_;try simp (maxSteps:=9^9) only[*,go_sem]
 refine b9 hJ _ (BL a ib M il) fun v F0 bs bz f=>?_;obtain ⟨Gp,rfl,et⟩:=f;replace q:=q.mono bs;replace r:=bz.hd;replace g:=bz.tl.hd;replace a:=a.mono bs;simp only[bu] at bz;obtain ⟨Gr,Ha,rfl,Hb,Hc,-⟩:=id et;have Hd:=eN (l:=[(B,bk C.1 U V W X),(i,bk d j k m n)]) (((I.trans Y).trans a0).trans bs) (aE.cons r (aE.cons g (aE.nil _)));refine ⟨by simp (maxSteps:=9^9) only[*,go_sem],?_⟩;refine bR ?_;try simp (maxSteps:=9^9) only[*,go_sem]
 refine b.go ?_;clear b K;show Wp _ _ _ _ _;exact cz hJ (Le.sub (.cons _ (.cons _ (List.Sublist.refl _)))) (Ef hJ c0 al hy hF C hV ik a q et (by simp (maxSteps:=9^9) only[*,go_sem]) h)
set_option maxHeartbeats 40000000 in
theorem LP {Φ:Goroutine->aa->Prop}(hJ:Closed Tryz.prog true (dV Tryz.prog Φ)){A:Act}{ro:Addr->Option Value}(g:aj)(q:((List Int)×Int))(N:(an×an×Int))(k:(Int×Int))(l:(Int×Int))(m:(Int×Int))(n:(Int×Int))(c:(Int×an×Int))(d:(Int×an×Int))(a:(an×an×Bool×Int)){s t u w y:Nat}(i:de ro){I:Value}(j:aA rI ro I q.1){z B C D:Value}(f:bN ro g z B C D)(O:sz A=439/\A.defers=[]/\slot A 0= .bool false/\slot A 1= .pointer (some ⟨y,0,none⟩)/\slot A 4= .int .i64 k.2/\slot A 7= .int .i64 l.2/\slot A 9= .int .i64 m.2/\slot A 12= .int .i64 n.2/\slot A 15= .int .i64 c.2.2/\slot A 18= .int .i64 d.2.2/\slot A 20= .int .i64 a.2.2.2/\slot A 21=I/\slot A 22= .int .i64 q.2/\slot A 25= .int .i64 N.2.2/\slot A 26= .int .i64 k.1/\slot A 27= .int .i64 l.1/\slot A 28= .int .i64 m.1/\slot A 29= .int .i64 n.1/\slot A 30= .int .i64 c.1/\slot A 31= .pointer (some ⟨w,0,none⟩)/\slot A 32= .int .i64 d.1/\slot A 33= .pointer (some ⟨u,0,none⟩)/\slot A 34= .pointer (some ⟨t,0,none⟩)/\slot A 35= .pointer (some ⟨s,0,none⟩)/\slot A 36= .bool a.2.2.1)(h:zy g k l m n c d a=some true):Wp (dV Tryz.prog Φ) (bA (bA (bA (bA (bA (bA (bA (bA (bA (bA (bA (bA (bA (bA (bA (bA (bA (bA (bA (bA (bA (Tryz.f10.body.getD .skip)))))))))))))))))))))) (iA Tryz.prog [.tmp 0] (fun v _=>v= .bool true)) A ⟨ro,(s,rt a.2.1.num a.2.1.den)::(t,rt a.1.num a.1.den)::(u,rt d.2.1.num d.2.1.den)::(w,rt c.2.1.num c.2.1.den)::(y,bk g z B C D)::[]⟩:=by
 obtain ⟨P,hd,Q,k1,R,S,T,U,V,W,X,Y,Z,ab,ad,ae,al,ao,ar,a0,a2,a3,a4,a5,a6⟩:=O;unfold zy at h;have a7:=f.oc;simp only[bC] at a7;have a8:=j.oc;simp only[bC] at a8;refine fT hJ fun a9 ba=>?_;have bb:=a9.nd;try simp only[keys,List.map_cons,List.map_nil,List.map_append,List.cons_append,List.nil_append,List.nodup_cons,List.mem_cons,List.mem_append,List.not_mem_nil,or_false,not_or] at bb
 simp only[bu] at ba;refine af hJ (eA hJ fun K b=>?_);revert h;refine bS fun bc bd h=>?_;try simp (maxSteps:=9^9) only[*,go_sem]
 refine sF _ (LM i g f 2 bd) fun v eQ E bj G=>?_;obtain ⟨eS,rfl,o⟩:=G;have bl:=o.oc;simp only[bC] at bl;replace j:=j.mono E;replace f:=f.mono E;replace i:=i.mono E;simp only[bu] at bj;refine aJ ?_;try simp (maxSteps:=9^9) only[*,go_sem]
 refine b.go ?_;clear b K;refine af hJ (eA hJ fun K b=>?_);revert h;refine bS fun bm bo h=>?_;try simp (maxSteps:=9^9) only[*,go_sem]
 refine sF _ (LN i g f 2 bo) fun v br p bs G=>?_;obtain ⟨e0,rfl,J⟩:=G;have bz:=J.oc;simp only[bC] at bz;replace j:=j.mono p;replace f:=f.mono p;replace o:=o.mono p;replace i:=i.mono p;simp only[bu] at bs;refine aJ ?_;try simp (maxSteps:=9^9) only[*,go_sem]
 refine b.go ?_;clear b K;refine af hJ (af hJ (eA hJ fun K b=>?_));revert h;refine cS (fun b0 h=>?_) fun b0 h=>?_
 .cases h
 revert h;refine cS (fun b1 h=>?_) fun b1 h=>?_
 .cases h
 revert h;refine cS (fun b2 h=>?_) fun b2 h=>?_
 .cases h
 revert h;refine cS (fun b3 h=>?_) fun b3 h=>?_
 .cases h
 revert h;refine cS (fun b4 h=>?_) fun b4 h=>?_
 .cases h
 revert h;refine cS (fun b5 h=>?_) fun b5 h=>?_
 .cases h
 revert h;refine cS (fun ca h=>?_) fun ca h=>?_
 .cases h
 revert h;refine cS (fun cb h=>?_) fun cb h=>?_
 .cases h
 try simp (maxSteps:=9^9) only[*,go_sem]
 revert h;refine cS (fun cd h=>?_) fun cd h=>?_
 .cases h
 refine b.go ?_;clear b K;refine b6 hJ ?_;refine aI hJ (af hJ ?_);refine af hJ ?_;refine eY [0,1,4,7,9,12,15,18,20,21,26,27,28,29,30,31,32,33,34,35,36,37,38,39] fun e1 cf cl cu=>?_;simp only[*,go_sem] at cf cl cu;clear P hd Q k1 R S T U V W X Y Z ab ad ae al ao ar a0 a2 a3 a4 a5 a6;refine aC hJ fun cy=>?_;refine kF hJ mixed [] (.pure 0 (.pure 1 (.pure 2 (.pure 3 (.pure 4 (.pure 5 (.pure 6 (.pure 7 (.pure 8 (.pure 9 (.pure 10 (.pure 11 (.pure 12 (.pure 13 (.pure 14 (.pure 15 (.pure 16 (.pure 17 (.pure 18 (.rd 19 (.rd 20 (.pure 21 (.pure 22 (.pure 23 (.pure 24 (.pure 25 (.pure 26 (.pure 27 (.rd 28 (.rd 29 (.pure 30 (.pure 31 (.pure 32 (.pure 33 (.pure 34 (.pure 35 (.pure 36 (.rd 37 (.rd 38 (.pure 39 (.pure 40 (.pure 41 (.rd 42 (.rd 43 (.pure 44 (.pure 45 (.pure 46 (.pure 47 (.one 48 (.one 49 (.pure 50 (.pure 51 (.pure 52 (.pure 53 (.pure 54 (.pure 55 (.pure 56 (.pure 57 (.one 58 (.one 59 (.pure 60 (.pure 61 .done)))))))))))))))))))))))))))))))))))))))))))))))))))))))))))))) ⟨br,[(s,rt a.2.1.num a.2.1.den),(t,rt a.1.num a.1.den),(u,rt d.2.1.num d.2.1.den),(w,rt c.2.1.num c.2.1.den),(y,bk g z B C D)]⟩ (by simp (maxSteps:=9^9) only[*,go_sem]) (by kernel_rfl) fun K b=>?_;revert h;refine cS (fun c0 h=>?_) fun c0 h=>?_
 .cases h
 revert h;refine cS (fun da h=>?_) fun da h=>?_
 .cases h
 revert h;refine cS (fun db h=>?_) fun db h=>?_
 .cases h
 revert h;refine cS (fun dd h=>?_) fun dd h=>?_
 .cases h
 revert h;refine cS (fun df h=>?_) fun df h=>?_
 .cases h
 revert h;refine bS fun e2 dk h=>?_;try simp (maxSteps:=9^9) only[*,go_sem]
 refine ⟨_,bD hJ fun F H=>hO 1 1 dk,bR ?_⟩;revert h;refine cS (fun dp h=>?_) fun dp h=>?_
 .cases h
 revert h;refine cS (fun dq h=>?_) fun dq h=>?_
 .cases h
 revert h;refine bS fun e3 ds h=>?_;try simp (maxSteps:=9^9) only[*,go_sem]
 refine ⟨_,bD hJ fun F H=>hO 0 1 ds,bR ?_⟩;revert h;refine cS (fun dt h=>?_) fun dt h=>?_
 .cases h
 revert h;refine cS (fun du h=>?_) fun du h=>?_
 .cases h
 revert h;refine bS fun fa dv h=>?_;try simp (maxSteps:=9^9) only[*,go_sem]
 refine ⟨_,bD hJ fun F H=>hO 3 2 dv,bR ?_⟩;revert h;refine cS (fun dC h=>?_) fun dC h=>?_
 .cases h
 revert h;refine bS fun fb dE h=>?_;try simp (maxSteps:=9^9) only[*,go_sem]
 refine ⟨_,bD hJ fun F H=>hO 3 2 dE,bR ?_⟩;revert h;refine cS (fun dT h=>?_) fun dT h=>?_
 .cases h
 revert h;refine bS fun fg ea h=>?_;try simp (maxSteps:=9^9) only[*,go_sem]
 refine ay fun fi eb L=>?_;have ec:=aQ.cons L cy;try simp only[au] at L
 try simp (maxSteps:=9^9) only[*,go_sem]
 refine aU hJ _ (qt bc.1 (o.mono aN) ([11,12,13,14]) ((aA.flat (r:=rI) (e:=3) (cs:=#[.int .i64 11,.int .i64 12,.int .i64 13,.int .i64 14]) (fun x=>[.int .i64 x]) ([11,12,13,14]) (fun _=>rfl) eb rfl (by simp)).mono (kA (by simp (maxSteps:=9^9) only[*,go_sem]))) ea) ⟨by simp (maxSteps:=9^9) only[*,go_sem],bR ?_⟩;revert h;refine cS (fun ed h=>?_) fun ed h=>?_
 .cases h
 revert h;refine cS (fun eh h=>?_) fun eh h=>?_
 .cases h
 revert h;refine bS fun fo et h=>?_;try simp (maxSteps:=9^9) only[*,go_sem]
 refine ay fun fp eu M=>?_;have fr:=aQ.cons M ec;try simp only[au] at M
 try simp (maxSteps:=9^9) only[*,go_sem]
 refine aU hJ _ (qt bm.1 (J.mono aN) ([11]) ((aA.flat (r:=rI) (e:=3) (cs:=#[.int .i64 11]) (fun x=>[.int .i64 x]) ([11]) (fun _=>rfl) eu rfl (by simp)).mono (kA (by simp (maxSteps:=9^9) only[*,go_sem]))) et) ⟨by simp (maxSteps:=9^9) only[*,go_sem],bR ?_⟩;try simp (maxSteps:=9^9) only[*,go_sem]
 revert h;refine cS (fun ev h=>?_) fun ev h=>?_
 .cases h
 refine b.go ?_;clear b K;refine b6 hJ ?_;refine aI hJ ?_;show Wp _ _ _ _ _;exact cz hJ (Le.sub (.cons _ (.cons _ (.cons _ (.cons _ (.cons _ (.cons _ (.cons₂ _ (List.Sublist.refl _))))))))) (LO hJ g q k l m n c d a i j f (by simp (maxSteps:=9^9) only[*,go_sem]) h)
set_option maxHeartbeats 40000000 in
theorem LQ {Φ:Goroutine->aa->Prop}(hJ:Closed Tryz.prog true (dV Tryz.prog Φ)){A:Act}{ro:Addr->Option Value}(c:aj)(g:aj)(G:(an×Int))(H:(Int×an×Int))(I:(an×Int))(J:(an×Bool×Int))(L:(an×Bool×Int))(M:(an×Bool×Int))(N:(Int×Int))(i:((List Int)×Int))(j:(an×an×Int)){k l:Nat}(d:de ro){m:Value}(n:aA rI ro m i.1){o q r s:Value}(f:bN ro g o q r s){u w x z:Value}(b:bN ro c u w x z)(O:sz A=439/\A.defers=[]/\slot A 0= .bool false/\slot A 1= .pointer (some ⟨l,0,none⟩)/\slot A 2= .pointer (some ⟨k,0,none⟩)/\slot A 4= .int .i64 G.2/\slot A 7= .int .i64 H.2.2/\slot A 9= .int .i64 I.2/\slot A 12= .int .i64 J.2.2/\slot A 15= .int .i64 L.2.2/\slot A 18= .int .i64 M.2.2/\slot A 20= .int .i64 N.2/\slot A 21=m/\slot A 22= .int .i64 i.2/\slot A 25= .int .i64 j.2.2)(h:zz c g=some true):Wp (dV Tryz.prog Φ) (bA (bA (bA (bA (bA (bA (bA (bA (bA (bA (bA (bA (bA (bA (Tryz.f10.body.getD .skip))))))))))))))) (iA Tryz.prog [.tmp 0] (fun v _=>v= .bool true)) A ⟨ro,(k,bk g o q r s)::(l,bk c u w x z)::[]⟩:=by
 obtain ⟨P,hd,Q,k1,R,S,T,U,V,W,X,Y,Z,ab,ad⟩:=O;obtain ⟨d45,b1,rfl,b2,b3,-⟩:=id f.e;obtain ⟨d52,b4,rfl,b5,ca,-⟩:=id f.p;obtain ⟨d59,cb,rfl,cd,cf,-⟩:=id f.y;obtain ⟨d66,cl,rfl,cu,cy,-⟩:=id f.t;obtain ⟨d8,cS,rfl,c0,da,-⟩:=id b.e;obtain ⟨d15,db,rfl,dd,df,-⟩:=id b.p;obtain ⟨d22,dk,rfl,dp,dq,-⟩:=id b.y;obtain ⟨d29,ds,rfl,dt,du,-⟩:=id b.t;unfold zz at h;have ae:=f.oc;simp only[bC] at ae;have al:=b.oc;simp only[bC] at al;have ao:=n.oc;simp only[bC] at ao;refine fT hJ fun B ar=>?_;have a0:=B.nd;try simp only[keys,List.map_cons,List.map_nil,List.map_append,List.cons_append,List.nil_append,List.nodup_cons,List.mem_cons,List.mem_append,List.not_mem_nil,or_false,not_or] at a0
 simp only[bu] at ar;refine af hJ (eA hJ fun K a=>?_);revert h;refine bS fun a2 a3 h=>?_;try simp (maxSteps:=9^9) only[*,go_sem]
 refine aU hJ _ (tr (d.mono aN) c (b.mono aN) 0 a3) (aJ ?_);try simp (maxSteps:=9^9) only[*,go_sem]
 refine a.go ?_;clear a K;refine af hJ (eA hJ fun K a=>?_);revert h;refine bS fun a4 a5 h=>?_;try simp (maxSteps:=9^9) only[*,go_sem]
 refine aU hJ _ (tr (d.mono aN) c (b.mono aN) 1 a5) (aJ ?_);try simp (maxSteps:=9^9) only[*,go_sem]
 refine a.go ?_;clear a K;refine af hJ (eA hJ fun K a=>?_);revert h;refine bS fun a6 a7 h=>?_;try simp (maxSteps:=9^9) only[*,go_sem]
 refine aU hJ _ (ov (d.mono aN) c (b.mono aN) a7) (aJ ?_);try simp (maxSteps:=9^9) only[*,go_sem]
 refine a.go ?_;clear a K;refine af hJ (eA hJ fun K a=>?_);revert h;refine bS fun a8 a9 h=>?_;try simp (maxSteps:=9^9) only[*,go_sem]
 refine aU hJ _ (ov (d.mono aN) g (f.mono aN) a9) (aJ ?_);try simp (maxSteps:=9^9) only[*,go_sem]
 refine a.go ?_;clear a K;refine af hJ (eA hJ fun K a=>?_);revert h;refine bS fun ba bb h=>?_;try simp (maxSteps:=9^9) only[*,go_sem]
 refine aU hJ _ (tw (d.mono aN) c (b.mono aN) bb) (aJ ?_);try simp (maxSteps:=9^9) only[*,go_sem]
 refine ay fun dv dC C=>?_;have bc:=aQ.cons C B;try simp only[au] at C
 try simp (maxSteps:=9^9) only[*,go_sem]
 refine a.go ?_;clear a K;refine af hJ ?_;refine eY [0,1,2,4,7,9,12,15,18,20,21,22,25,26,27,28,29,30,31] fun dE bd bj bl=>?_;simp only[*,go_sem] at bd bj bl;clear P hd Q k1 R S T U V W X Y Z ab ad;refine eA hJ fun K a=>?_;revert h;refine bS fun bm bo h=>?_;try simp (maxSteps:=9^9) only[*,go_sem]
 refine aU hJ _ (tw (d.mono aN) g (f.mono aN) bo) (aJ ?_);try simp (maxSteps:=9^9) only[*,go_sem]
 refine ay fun dT ea D=>?_;have br:=aQ.cons D bc;try simp only[au] at D
 try simp (maxSteps:=9^9) only[*,go_sem]
 refine a.go ?_;clear a K;refine af hJ (eA hJ fun K a=>?_);revert h;refine bS fun bs bz h=>?_;try simp (maxSteps:=9^9) only[*,go_sem]
 refine aU hJ _ (H8 (d.mono aN) c (b.mono aN) bz) (aJ ?_);try simp (maxSteps:=9^9) only[*,go_sem]
 refine ay fun eb ec E=>?_;have b0:=aQ.cons E br;try simp only[au] at E
 refine ay fun ed eh F=>?_;have et:=aQ.cons F b0;try simp only[au] at F
 try simp (maxSteps:=9^9) only[*,go_sem]
 refine a.go ?_;clear a K;show Wp _ _ _ _ _;exact cz hJ (Le.sub (.cons₂ _ (.cons₂ _ (.cons₂ _ (.cons₂ _ (.cons _ (.cons₂ _ (List.Sublist.refl _)))))))) (LP hJ c i j a2 a4 a6 a8 ba bm bs d n b (by simp (maxSteps:=9^9) only[*,go_sem]) h)
set_option maxHeartbeats 40000000 in
theorem LR {Φ:Goroutine->aa->Prop}(hJ:Closed Tryz.prog true (dV Tryz.prog Φ)){A:Act}{ro:Addr->Option Value}(b:aj)(n:aj)(i:(an×Int))(c:(Int×an×Int))(j:(an×Int))(d:(an×Bool×Int))(f:(an×Bool×Int))(g:(an×Bool×Int)){q s t u w y z B:Nat}(m:de ro){C D E G:Value}(p:bN ro n C D E G){H I J L:Value}(k:bN ro b H I J L)(T:sz A=439/\A.defers=[]/\slot A 0= .bool false/\slot A 1= .pointer (some ⟨B,0,none⟩)/\slot A 2= .pointer (some ⟨z,0,none⟩)/\slot A 3= .pointer (some ⟨y,0,none⟩)/\slot A 4= .int .i64 i.2/\slot A 5= .int .i64 c.1/\slot A 6= .pointer (some ⟨w,0,none⟩)/\slot A 7= .int .i64 c.2.2/\slot A 8= .pointer (some ⟨u,0,none⟩)/\slot A 9= .int .i64 j.2/\slot A 10= .pointer (some ⟨t,0,none⟩)/\slot A 11= .bool d.2.1/\slot A 12= .int .i64 d.2.2/\slot A 13= .pointer (some ⟨s,0,none⟩)/\slot A 14= .bool f.2.1/\slot A 15= .int .i64 f.2.2/\slot A 16= .pointer (some ⟨q,0,none⟩)/\slot A 17= .bool g.2.1/\slot A 18= .int .i64 g.2.2)(h:zA b n i c j d f g=some true):Wp (dV Tryz.prog Φ) (bA (bA (bA (bA (bA (bA (bA (bA (bA (Tryz.f10.body.getD .skip)))))))))) (iA Tryz.prog [.tmp 0] (fun v _=>v= .bool true)) A ⟨ro,(q,rt g.1.num g.1.den)::(s,rt f.1.num f.1.den)::(t,rt d.1.num d.1.den)::(u,rt j.1.num j.1.den)::(w,rt c.2.1.num c.2.1.den)::(y,rt i.1.num i.1.den)::(z,bk n C D E G)::(B,bk b H I J L)::[]⟩:=by
 obtain ⟨U,hd,V,k1,W,X,Y,Z,ab,ad,ae,al,ao,ar,a0,a2,a3,a4,a5,a6,a7⟩:=T;unfold zA at h;have a8:=p.oc;simp only[bC] at a8;have a9:=k.oc;simp only[bC] at a9;refine fT hJ fun O ba=>?_;have bb:=O.nd;try simp only[keys,List.map_cons,List.map_nil,List.map_append,List.cons_append,List.nil_append,List.nodup_cons,List.mem_cons,List.mem_append,List.not_mem_nil,or_false,not_or] at bb
 simp only[bu] at ba;refine af hJ (eA hJ fun K a=>?_);revert h;refine bS fun bc bd h=>?_;try simp (maxSteps:=9^9) only[*,go_sem]
 refine aU hJ _ (xV (m.mono aN) b (k.mono aN) bd) (aJ ?_);try simp (maxSteps:=9^9) only[*,go_sem]
 refine a.go ?_;clear a K;refine af hJ (eA hJ fun K a=>?_);revert h;refine bS fun P bj h=>?_;try simp (maxSteps:=9^9) only[*,go_sem]
 refine b9 hJ _ (qD m b k 0 bj) fun v bl M bm bo=>?_;obtain ⟨e1,rfl,N⟩:=bo;have br:=N.oc;simp only[bC] at br;replace k:=k.mono M;replace p:=p.mono M;replace m:=m.mono M;simp only[bu] at bm;refine aJ ?_;try simp (maxSteps:=9^9) only[*,go_sem]
 refine a.go ?_;clear a K;refine af hJ (eA hJ fun K a=>?_);revert h;refine bS fun o bs h=>?_;try simp (maxSteps:=9^9) only[*,go_sem]
 refine aU hJ _ (xS (m.mono aN) b (k.mono aN) 0 bs) (aJ ?_);try simp (maxSteps:=9^9) only[*,go_sem]
 refine ay fun bz e2 Q=>?_;have b0:=aQ.cons Q O;try simp only[au] at Q
 refine ay fun b1 e3 R=>?_;have fa:=aQ.cons R b0;try simp only[au] at R
 try simp (maxSteps:=9^9) only[*,go_sem]
 refine a.go ?_;clear a K;refine af hJ (af hJ (eA hJ fun K a=>?_));revert h;refine cS (fun b2 h=>?_) fun b2 h=>?_
 .cases h
 revert h;refine cS (fun b3 h=>?_) fun b3 h=>?_
 .cases h
 revert h;refine cS (fun b4 h=>?_) fun b4 h=>?_
 .cases h
 revert h;refine cS (fun b5 h=>?_) fun b5 h=>?_
 .cases h
 revert h;refine cS (fun ca h=>?_) fun ca h=>?_
 .cases h
 revert h;refine cS (fun cb h=>?_) fun cb h=>?_
 .cases h
 revert h;refine cS (fun cd h=>?_) fun cd h=>?_
 .cases h
 revert h;refine cS (fun cf h=>?_) fun cf h=>?_
 .cases h
 try simp (maxSteps:=9^9) only[*,go_sem]
 revert h;refine cS (fun cl h=>?_) fun cl h=>?_
 .cases h
 refine a.go ?_;clear a K;refine b6 hJ ?_;refine aI hJ (af hJ ?_);refine af hJ ?_;refine eY [0,1,2,3,4,5,6,7,8,9,10,11,12,13,14,15,16,17,18,19,20,21,22,23,24,25] fun fb cu cy c0=>?_;simp only[*,go_sem] at cu cy c0;clear U hd V k1 W X Y Z ab ad ae al ao ar a0 a2 a3 a4 a5 a6 a7;refine aC hJ fun da=>?_;refine kF hJ mixed [] (.rd 0 (.rd 1 (.pure 2 (.pure 3 (.pure 4 (.pure 5 (.pure 6 (.pure 7 (.rd 8 (.rd 9 (.pure 10 (.pure 11 (.pure 12 (.rd 13 (.rd 14 (.pure 15 (.pure 16 (.pure 17 (.rd 18 (.rd 19 (.pure 20 (.pure 21 (.pure 22 (.pure 23 (.pure 24 (.pure 25 (.pure 26 (.rd 27 (.rd 28 (.pure 29 (.pure 30 (.pure 31 (.pure 32 (.pure 33 (.pure 34 (.rd 35 (.rd 36 (.pure 37 (.pure 38 (.pure 39 (.pure 40 (.pure 41 (.pure 42 (.pure 43 (.pure 44 (.pure 45 (.pure 46 (.pure 47 (.pure 48 (.one 49 (.one 50 (.pure 51 (.pure 52 (.pure 53 (.rd 54 (.rd 55 (.pure 56 (.pure 57 (.pure 58 (.rd 59 (.rd 60 (.pure 61 (.pure 62 .done))))))))))))))))))))))))))))))))))))))))))))))))))))))))))))))) ⟨bl,[(b1,rt o.2.1.num o.2.1.den),(bz,rt o.1.num o.1.den),(q,rt g.1.num g.1.den),(s,rt f.1.num f.1.den),(t,rt d.1.num d.1.den),(u,rt j.1.num j.1.den),(w,rt c.2.1.num c.2.1.den),(y,rt i.1.num i.1.den),(z,bk n C D E G),(B,bk b H I J L)]⟩ (by simp (maxSteps:=9^9) only[*,go_sem]) (by kernel_rfl) fun K a=>?_;revert h;refine bS fun fg db h=>?_;try simp (maxSteps:=9^9) only[*,go_sem]
 refine ⟨_,bD hJ fun F l=>hO 13 4 db,bR ?_⟩;revert h;refine cS (fun dd h=>?_) fun dd h=>?_
 .cases h
 revert h;refine cS (fun df h=>?_) fun df h=>?_
 .cases h
 revert h;refine bS fun fi dk h=>?_;try simp (maxSteps:=9^9) only[*,go_sem]
 refine ⟨_,bD hJ fun F l=>hO 11 8 dk,bR ?_⟩;revert h;refine cS (fun dp h=>?_) fun dp h=>?_
 .cases h
 revert h;refine bS fun fo dq h=>?_;try simp (maxSteps:=9^9) only[*,go_sem]
 refine ⟨_,bD hJ fun F l=>hO 1 4 dq,bR ?_⟩;revert h;refine cS (fun ds h=>?_) fun ds h=>?_
 .cases h
 revert h;refine bS fun fp dt h=>?_;try simp (maxSteps:=9^9) only[*,go_sem]
 refine ⟨_,bD hJ fun F l=>hO 24 13 dt,bR ?_⟩;revert h;refine cS (fun du h=>?_) fun du h=>?_
 .cases h
 revert h;refine cS (fun dv h=>?_) fun dv h=>?_
 .cases h
 revert h;refine bS fun fr dC h=>?_;try simp (maxSteps:=9^9) only[*,go_sem]
 refine ⟨_,bD hJ fun F l=>hO 2 13 dC,bR ?_⟩;revert h;refine cS (fun dE h=>?_) fun dE h=>?_
 .cases h
 revert h;refine cS (fun dT h=>?_) fun dT h=>?_
 .cases h
 revert h;refine bS fun fs ea h=>?_;try simp (maxSteps:=9^9) only[*,go_sem]
 refine ⟨_,bD hJ fun F l=>hO 1 1 ea,bR ?_⟩;revert h;refine cS (fun eb h=>?_) fun eb h=>?_
 .cases h
 revert h;refine cS (fun ec h=>?_) fun ec h=>?_
 .cases h
 revert h;refine cS (fun ed h=>?_) fun ed h=>?_
 .cases h
 revert h;refine bS fun ft eh h=>?_;try simp (maxSteps:=9^9) only[*,go_sem]
 refine ay fun fu et S=>?_;have fv:=aQ.cons S da;try simp only[au] at S
 try simp (maxSteps:=9^9) only[*,go_sem]
 refine aU hJ _ (qt P.1 (N.mono aN) ([10,11,12]) ((aA.flat (r:=rI) (e:=3) (cs:=#[.int .i64 10,.int .i64 11,.int .i64 12]) (fun x=>[.int .i64 x]) ([10,11,12]) (fun _=>rfl) et rfl (by simp)).mono (kA (by simp (maxSteps:=9^9) only[*,go_sem]))) eh) ⟨by simp (maxSteps:=9^9) only[*,go_sem],bR ?_⟩;revert h;refine cS (fun eu h=>?_) fun eu h=>?_
 .cases h
 revert h;refine bS fun fw ev h=>?_;try simp (maxSteps:=9^9) only[*,go_sem]
 refine ⟨_,bD hJ fun F l=>hO 1 4 ev,bR ?_⟩;revert h;refine cS (fun eQ h=>?_) fun eQ h=>?_
 .cases h
 revert h;refine bS fun fx eS h=>?_;try simp (maxSteps:=9^9) only[*,go_sem]
 refine ⟨_,bD hJ fun F l=>hO 1 1 eS,bR ?_⟩;try simp (maxSteps:=9^9) only[*,go_sem]
 revert h;refine cS (fun e0 h=>?_) fun e0 h=>?_
 .cases h
 refine a.go ?_;clear a K;refine b6 hJ ?_;refine aI hJ ?_;show Wp _ _ _ _ _;exact cz hJ (Le.sub (.cons _ (.cons _ (.cons _ (.cons _ (.cons _ (.cons _ (.cons _ (.cons _ (.cons _ (.cons₂ _ (.cons₂ _ (List.Sublist.refl _))))))))))))) (LQ hJ b n i c j d f g bc P o m N p k (by simp (maxSteps:=9^9) only[*,go_sem]) h)
set_option maxHeartbeats 40000000 in
theorem LS {ro:Addr->Option Value}(d:de ro){r:Bool}(I:r=true)(h:l5=some r):fK Tryz.prog 10 #[] ⟨ro,[]⟩ (fun v _=>v= .bool r):=by
 subst I;unfold l5 at h;refine fK.go Tryz.func10 rfl Tryz.ntmps10 Tryz.results10 (by simp) fun Φ hJ A J hd hs=>?_;clear hs;refine af hJ (eA hJ fun K a=>?_);try simp (maxSteps:=9^9) only[*,go_sem]
 refine a.go ?_;clear a K;refine af hJ (eA hJ fun K a=>?_);revert h;refine bS fun g L h=>?_;try simp (maxSteps:=9^9) only[*,go_sem]
 refine b9 hJ _ (Il L) fun v n M b5 k=>?_;obtain ⟨N,O,P,Q,rfl,f⟩:=k;have R:=f.oc;simp only[bC] at R;replace d:=d.mono M;refine aJ ?_;try simp (maxSteps:=9^9) only[*,go_sem]
 refine ay fun S T U=>?_;try simp only[au] at U
 try simp (maxSteps:=9^9) only[*,go_sem]
 refine a.go ?_;clear a K;refine af hJ ?_;refine aC hJ fun V=>?_;refine eA hJ fun K a=>?_;revert h;refine bS fun l W h=>?_;try simp (maxSteps:=9^9) only[*,go_sem]
 refine ay fun i p q=>?_;have s:=aQ.cons q V;try simp only[au] at q
 try simp (maxSteps:=9^9) only[*,go_sem]
 obtain ⟨m,t,u⟩:=fS (b:=i) (o:=(ic 11)) [] ((S,bk g N O P Q)::[]) s p (aE.cons T (aE.nil _));have w:aA rI (bV n i (ic 11)) (.slice (some ⟨i,0,none⟩) 1 1) [11]:=(aA.flat (r:=rI) (e:=3) (cs:=#[.int .i64 11]) (fun x=>[.int .i64 x]) ([11]) (fun _=>rfl) p rfl (by simp))
 generalize bV n i (ic 11)=ca at w t m u;refine g6 hJ u ?_;replace f:=f.mono m;replace d:=d.mono m;simp only[bu] at t;have X:=aQ.tl s;refine b9 hJ _ (Ij g f ([11]) w 2 W) fun v cb y Y k=>?_;obtain ⟨cd,cf,cl,cu,rfl,j⟩:=k;have Z:=j.oc;simp only[bC] at Z;replace f:=f.mono y;replace d:=d.mono y;simp only[bu] at Y;refine aJ ?_;try simp (maxSteps:=9^9) only[*,go_sem]
 refine ay fun cy cS z=>?_;have ab:=aQ.cons z X;try simp only[au] at z
 try simp (maxSteps:=9^9) only[*,go_sem]
 refine a.go ?_;clear a K;refine af hJ (eA hJ fun K a=>?_);revert h;refine bS fun ad ae h=>?_;try simp (maxSteps:=9^9) only[*,go_sem]
 refine aU hJ _ (Hu (d.mono aN) g (f.mono aN) 5 ae) (aJ ?_);try simp (maxSteps:=9^9) only[*,go_sem]
 refine ay fun c0 da B=>?_;have al:=aQ.cons B ab;try simp only[au] at B
 try simp (maxSteps:=9^9) only[*,go_sem]
 refine a.go ?_;clear a K;refine af hJ ?_;refine qh hJ mixed 7 3 (by simp (maxSteps:=9^9) only[*,go_sem]) (by kernel_rfl) fun K a=>?_;revert h;refine bS fun ao ar h=>?_;try simp (maxSteps:=9^9) only[*,go_sem]
 refine ⟨_,bD hJ fun F c=>qG 2 11 ar,cn ?_⟩;revert h;refine bS fun a0 a2 h=>?_;try simp (maxSteps:=9^9) only[*,go_sem]
 refine ⟨_,bD hJ fun F c=>Hv (d.mono (bY c)) g (f.mono (bY c)) ao a2,cn ?_⟩;try simp (maxSteps:=9^9) only[*,go_sem]
 refine ay fun db dd C=>?_;have a3:=aQ.cons C al;try simp only[au] at C
 try simp (maxSteps:=9^9) only[*,go_sem]
 refine a.go ?_;clear a K;refine af hJ ?_;refine qh hJ mixed 6 4 (by simp (maxSteps:=9^9) only[*,go_sem]) (by kernel_rfl) fun K a=>?_;revert h;refine bS fun a4 a5 h=>?_;try simp (maxSteps:=9^9) only[*,go_sem]
 refine ⟨_,bD hJ fun F c=>qG 2 10 a5,cn ?_⟩;revert h;refine bS fun a6 a7 h=>?_;try simp (maxSteps:=9^9) only[*,go_sem]
 refine ⟨_,bD hJ fun F c=>Hw (d.mono (bY c)) g (f.mono (bY c)) a4 a7,cn ?_⟩;try simp (maxSteps:=9^9) only[*,go_sem]
 refine ay fun df dk D=>?_;have a8:=aQ.cons D a3;try simp only[au] at D
 try simp (maxSteps:=9^9) only[*,go_sem]
 refine a.go ?_;clear a K;refine af hJ ?_;refine eY [0,1,2,3,4,5,6,7,8,9] fun dp a9 ba bb=>?_;simp only[*,go_sem] at a9 ba bb;clear J hd;refine qh hJ mixed 7 5 (by simp (maxSteps:=9^9) only[*,go_sem]) (by kernel_rfl) fun K a=>?_;revert h;refine bS fun bc bd h=>?_;try simp (maxSteps:=9^9) only[*,go_sem]
 refine ⟨_,bD hJ fun F c=>qG 2 12 bd,cn ?_⟩;revert h;refine bS fun bj bl h=>?_;try simp (maxSteps:=9^9) only[*,go_sem]
 refine ⟨_,bD hJ fun F c=>Hx (d.mono (bY c)) l (j.mono (bY c)) bc bl,cn ?_⟩;try simp (maxSteps:=9^9) only[*,go_sem]
 refine ay fun dq ds E=>?_;have bm:=aQ.cons E a8;try simp only[au] at E
 try simp (maxSteps:=9^9) only[*,go_sem]
 refine a.go ?_;clear a K;refine af hJ ?_;refine qh hJ mixed 7 6 (by simp (maxSteps:=9^9) only[*,go_sem]) (by kernel_rfl) fun K a=>?_;revert h;refine bS fun bo br h=>?_;try simp (maxSteps:=9^9) only[*,go_sem]
 refine ⟨_,bD hJ fun F c=>qG 2 12 br,cn ?_⟩;revert h;refine bS fun bs bz h=>?_;try simp (maxSteps:=9^9) only[*,go_sem]
 refine ⟨_,bD hJ fun F c=>BA (d.mono (bY c)) l (j.mono (bY c)) bo bz,cn ?_⟩;try simp (maxSteps:=9^9) only[*,go_sem]
 refine ay fun dt du G=>?_;have b0:=aQ.cons G bm;try simp only[au] at G
 try simp (maxSteps:=9^9) only[*,go_sem]
 refine a.go ?_;clear a K;refine af hJ ?_;refine qh hJ mixed 7 7 (by simp (maxSteps:=9^9) only[*,go_sem]) (by kernel_rfl) fun K a=>?_;revert h;refine bS fun b1 b2 h=>?_;try simp (maxSteps:=9^9) only[*,go_sem]
 refine ⟨_,bD hJ fun F c=>qG 2 12 b2,cn ?_⟩;revert h;refine bS fun b3 b4 h=>?_;try simp (maxSteps:=9^9) only[*,go_sem]
 refine ⟨_,bD hJ fun F c=>BA (d.mono (bY c)) g (f.mono (bY c)) b1 b4,cn ?_⟩;try simp (maxSteps:=9^9) only[*,go_sem]
 refine ay fun dv dC H=>?_;have dE:=aQ.cons H b0;try simp only[au] at H
 try simp (maxSteps:=9^9) only[*,go_sem]
 refine a.go ?_;clear a K;show Wp _ _ _ _ _;exact cz hJ (Le.sub (.cons₂ _ (.cons₂ _ (.cons₂ _ (.cons₂ _ (.cons₂ _ (.cons₂ _ (.cons₂ _ (.cons₂ _ (List.Sublist.refl _)))))))))) (LR hJ g l ad a0 a6 bj bs b3 d j f (by simp (maxSteps:=9^9) only[*,go_sem]) h)
theorem uP {ro:Addr->Option Value}(a:de ro){r:Bool}(h:l5=some r):fK Tryz.prog 10 #[] ⟨ro,[]⟩ (fun v _=>v= .bool r):=
 LS a (Option.some.inj (h.symm.trans pe)) h
end Go.Proofs.YtghbphimkgamkaaGreatDoor
end

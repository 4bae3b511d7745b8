/- A part of the proof: QR6. -/
import Derived.Test.YtbpddfapodiemaaGreatDoorQR5
set_option linter.all false
section
namespace Go.Proofs.YtbpddfapodiemaaGreatDoor
open Go Go.Sep Go.Proofs
set_option maxRecDepth 100000
set_option maxHeartbeats 4000000
def rR (u0:Int):Option Bool:=
 ai (fZ u0 0 60) fun a=>some (!a)
theorem Ja {ro:Addr->Option Value}(u0:Int){r:Bool}(h:rR u0=some r):aD Tryz.prog 79 #[.int .i64 u0] ⟨ro,[]⟩ (fun v _=>v= .bool r):=by
 unfold rR at h;refine aD.go Tryz.func79 rfl Tryz.ntmps79 Tryz.results79 au fun main J hJ A b hd hs=>?_;have c:=hs 0;clear hs;apply az hJ _;apply aC hJ;revert h;refine bS fun d a h=>?_;cases h;apply ag _;refine bf hJ _ (gQ u0 0 60 a) (aO ?_);try apply ag _
 apply aQ;simp only[*,go_sem]
def uO (a:(Int->Option Bool))(i9:Nat)(b:Int)(st:Int):Option (Fl Int Int):=
 ai (a b) fun c=>cond (c) (some (.rt (i9:Int))) (some (.nx st))
def uP (u0:(List Int))(a:(Int->Option Bool)):Option Int:=
 ai (bR (uO a) 0 u0 0) fun o=>aJ o (fun b=>some (-1)) (fun _ _=>none) (fun r=>some r)
theorem Jb {ro:Addr->Option Value}(u0:(List Int)){s1:Value}(g:aH rI ro s1 u0)(d:(Int->Option Bool)){dg:FuncId}{dL dM:Array Value}(s:aR Tryz.prog dg=true/\∀(aW:Addr->Option Value),Ext ro aW->∀(i:Int) (z:Bool),d i=some z->aD Tryz.prog dg (dL++#[.int .i64 i]++dM) ⟨aW,[]⟩ (fun v _=>v= .bool z)){r:Int}(h:uP u0 d=some r):aD Tryz.prog 136 #[s1,.func (.func dg) dL dM] ⟨ro,[]⟩ (fun v _=>v= .int .i64 r):=by
 obtain ⟨d3,c4,rfl,M,t,-⟩:=id g;unfold uP at h;refine aD.go Tryz.func136 rfl Tryz.ntmps136 Tryz.results136 au fun main J hJ A u hd hs=>?_;have w:=hs 0;have k1:=hs 1;clear hs;apply az hJ _;refine ah hJ (aC hJ ?_);apply ag _;apply aX hJ;revert h;refine bS fun y b j=>?_;refine cc hJ (rg 8 11 [4,5]) (fun m k F'=>∃(i9:Nat) (c:Int),m=u0.length - i9/\i9<=u0.length/\bR (uO d) i9 (u0.drop i9) c=some y/\F'=⟨ro,[]⟩/\slot k 8= .int .i64 (i9:Int)/\slot k 4= .int .i64 c) u0.length ?_ ?_
 .refine ⟨0,0,(Nat.sub_zero _).symm,Nat.zero_le _,b,rfl,?_⟩;simp only[*,go_sem]
 rintro N O F' l ⟨i9,c,rfl,P,b,rfl,Q,R⟩;obtain ⟨B,C,D⟩:=l.pick [0,1,7] aB;simp only[*,go_sem] at B C D;clear l u hd w k1;apply az hJ _;apply ah hJ;rcases Nat.lt_or_ge i9 u0.length with E|o
 .refine cB hJ ?_;apply aP hJ;obtain ⟨p,e⟩:∃x,u0[i9]?=some x:=⟨_,List.getElem?_eq_getElem E⟩
  rw[dK e] at b;revert b;refine bS fun S h f=>?_;unfold uO at h;try dsimp only at h
  obtain ⟨T,F,G,H,q⟩:=g.el _ _ e;obtain rfl:F=[.int .i64 p]:=H;cases G;have I:=q 0 _ rfl;simp only[go_sem] at I;clear q e;refine ah hJ (aX hJ (ah hJ ?_));apply aM hJ _;apply aC hJ;revert h;refine bS fun U K h=>?_;apply ag _;refine bf hJ _ (s.2 _ (fun a v h=>bn a v h) p _ K) ?_;try apply ag _
  revert h;refine bh hJ (fun L h=>?_) fun L h=>?_
  .cases h;apply az hJ _;obtain rfl:=sI f;clear f;have h:=j;dsimp only[aJ] at h;cases h;apply aQ;simp only[*,go_sem]
  cases h;apply aP hJ;have V:=cK (n:=i9) (by have:=t;omega);apply aM hJ _;refine ⟨u0.length - (i9+1),aa,_,Le.sub (List.Sublist.refl _),i9+1,c,rfl,aa,f,rfl,?_⟩;simp only[*,go_sem]
 have W:=Nat.not_lt.2 o;refine cx hJ ?_;rw[List.drop_eq_nil_of_le o] at b;obtain rfl:=sI b;clear b;have h:=j;dsimp only[aJ] at h;cases h;apply b6;simp only[go_sem];apply az hJ _;apply aQ;simp only[*,go_sem]
def rS (u0:(List Int))(a:(Int->Option Bool)):Option Bool:=
 ai (uP u0 a) fun b=>some (decide (0<=b))
theorem Jc {ro:Addr->Option Value}(u0:(List Int)){s1:Value}(b:aH rI ro s1 u0)(a:(Int->Option Bool)){dg:FuncId}{dL dM:Array Value}(c:aR Tryz.prog dg=true/\∀(aW:Addr->Option Value),Ext ro aW->∀(d:Int) (z:Bool),a d=some z->aD Tryz.prog dg (dL++#[.int .i64 d]++dM) ⟨aW,[]⟩ (fun v _=>v= .bool z)){r:Bool}(h:rS u0 a=some r):aD Tryz.prog 78 #[s1,.func (.func dg) dL dM] ⟨ro,[]⟩ (fun v _=>v= .bool r):=by
 obtain ⟨d3,c4,rfl,g,i,-⟩:=id b;unfold rS at h;refine aD.go Tryz.func78 rfl Tryz.ntmps78 Tryz.results78 au fun main J hJ A j hd hs=>?_;have k:=hs 0;have k1:=hs 1;clear hs;apply az hJ _;apply aC hJ;revert h;refine bS fun l e h=>?_;cases h;apply ag _;refine bf hJ _ (Jb (dg:=dg) (dL:=dL) (dM:=dM) u0 (b.mono bn) a ⟨c.1,fun _ f=>c.2 _ (Ext.trans bn f)⟩ e) (aO ?_);try apply ag _
 apply aQ;simp only[*,go_sem]
def lD (u0:an)(a:(List Int))(w1:an):Option Int:=
 cond (((a.length:Int) != (w1.aF.length:Int))) (some 2) (ai (rS a rR) fun b=>cond (b) (some 1) (some 0))
theorem Jd {ro:Addr->Option Value}(u0:an){s1 d f g:Value}(b:bW ro u0 s1 d f g)(c:(List Int)){i:Nat}{j:Value}(k:aH rI ro j c)(E:ro ⟨i,0,none⟩=some (j))(w1:an){a:Nat}(F:ro ⟨a,0,none⟩=some (.int .i64 w1.bV))(G:ro ⟨a,1,none⟩=some (.int .i64 w1.bU))(H:ro ⟨a,2,none⟩=some (.int .i64 w1.bq.num))(I:ro ⟨a,3,none⟩=some (.int .i64 w1.bq.den)){l:Value}(q:aH fH ro l w1.aE)(K:ro ⟨a,4,none⟩=some (l)){m:Value}(s:aH eU ro m w1.props)(L:ro ⟨a,5,none⟩=some (m)){n:Value}(u:aH fo ro n w1.aF)(M:ro ⟨a,6,none⟩=some (n)){o:Value}(w:aH dG ro o w1.told)(N:ro ⟨a,7,none⟩=some (o)){r:Int}(h:lD u0 c w1=some r):aD Tryz.prog 77 #[bv u0 s1 d f g,.pointer (some ⟨i,0,none⟩),.pointer (some ⟨a,0,none⟩)] ⟨ro,[]⟩ (fun v _=>v= .int .i64 r):=by
 obtain ⟨d3,c4,rfl,O,P,-⟩:=id b.e;obtain ⟨d10,Q,rfl,R,S,-⟩:=id b.p;obtain ⟨d17,T,rfl,U,V,-⟩:=id b.y;obtain ⟨d24,W,rfl,X,Y,-⟩:=id b.t;obtain ⟨d31,Z,rfl,ab,ad,-⟩:=id k;obtain ⟨d38,ae,rfl,al,ao,-⟩:=id q;obtain ⟨d45,ar,rfl,a0,a2,-⟩:=id s;obtain ⟨d52,a3,rfl,a4,a5,-⟩:=id u;obtain ⟨d59,a6,rfl,a7,a8,-⟩:=id w;unfold lD at h;refine aD.go Tryz.func77 rfl Tryz.ntmps77 Tryz.results77 au fun main J hJ A a9 hd hs=>?_;have ba:=hs 0;have k1:=hs 1;have bb:=hs 2;clear hs;apply az hJ _;refine aA fun bc bd x=>?_;try simp only[av] at x
 try apply ag _
 refine ah hJ (aX hJ (ah hJ ?_));apply aM hJ _;revert h;refine bh hJ (fun z h=>?_) fun z h=>?_
 .cases h;apply az hJ _;apply aQ;simp only[*,go_sem]
 apply aC hJ;revert h;refine bS fun bj B h=>?_;apply ag _;refine bf hJ _ (Jc (dg:=79) (dL:=#[]) (dM:=#[]) c (k.mono bn) rR ⟨by simp only[go_sem],fun bk bl C _ h=>by simp only[go_sem];exact Ja C h⟩ B) (aO ?_);try apply ag _
 revert h;refine bh hJ (fun D h=>?_) fun D h=>?_
 .cases h;apply az hJ _;apply aQ;simp only[*,go_sem]
 cases h;refine aP hJ (ah hJ ?_);apply aM hJ _;apply aQ;simp only[*,go_sem]
def pP (a:(List Int))(b:bt)(st:(Int×Bool)):Option (Fl (Int×Bool) Unit):=
 cond (((b.e0==(a.getD 0 0))&&((b.e1==(a.getD 1 0))&&(b.e2==(a.getD 2 0))))) (some (.br 1000000000 (0,true))) (some (.nx (st.1,st.2)))
def pQ (u0:an)(b:(List Int)):Option (Bool×Int):=
 ai (fO u0 ([(fun d=>lD d b u0)])) fun a=>cond ((a.2 != 0)) (some (false,a.2)) (ai (ie (pP b) (mz a.1) (0,false)) fun o=>aJ o (fun e=>some (false,0)) (fun k c=>cond (k==1000000000) (some (c.2,c.1)) (none)) (fun _=>none))
theorem Je {ro:Addr->Option Value}(H:dH ro)(u0:an){s1 bd bj bm:Value}(i:bW ro u0 s1 bd bj bm)(d:(List Int)){bo:Value}(q:aH rI ro bo d){r:(Bool×Int)}(h:pQ u0 d=some r):aD Tryz.prog 15 #[bv u0 s1 bd bj bm,bo] ⟨ro,[]⟩ (fun v _=>v= .tuple #[.bool r.1,.int .i64 r.2]):=by
 obtain ⟨d3,c4,rfl,fi,fl,-⟩:=id i.e;obtain ⟨d10,l,rfl,fp,fq,-⟩:=id i.p;obtain ⟨d17,m,rfl,fr,fs,-⟩:=id i.y;obtain ⟨d24,n,rfl,ft,fu,-⟩:=id i.t;obtain ⟨d31,ao,rfl,fv,fw,-⟩:=id q;unfold pQ at h;refine aD.tJ Tryz.func15 rfl Tryz.ntmps15 Tryz.results15 au fun main J hJ A dd hd hs=>?_;have df:=hs 0;have k1:=hs 1;clear hs;apply az hJ _;refine aA fun c s dk=>?_;try simp only[av] at dk
 refine aA fun u br dp=>?_;try simp only[av] at dp
 refine aA fun z B dq=>?_;try simp only[av] at dq
 refine aA fun C D ds=>?_;try simp only[av] at ds
 try apply ag _
 apply ah hJ;refine aG hJ fun bs=>?_;obtain ⟨ar,V,bz⟩:=fM (b:=u) (o:=(.cells #[.slice d31 d.length ao] 35)) [(C,.cells #[.int .i64 0] 32),(z,.cells #[.bool false] 4)] ((c,bk u0 (sl d3 u0.aE c4) (sl d10 u0.props l) (sl d17 u0.aF m) (sl d24 u0.told n))::[]) bs br (aK.cons D (aK.cons B (aK.cons s (aK.nil _))));clear bs;have F:b7 ro u (.cells #[.slice d31 d.length ao] 35) ⟨u,0,none⟩=some (.slice d31 d.length ao):=by rw[fF br];rfl
 generalize b7 ro u (.cells #[.slice d31 d.length ao] 35)=E at ar V bz F;refine cO hJ bz ?_;replace i:=i.mono ar;replace q:=q.mono ar;replace D:=V.hd;replace B:=V.tl.hd;replace s:=V.tl.tl.hd;replace H:=H.mono ar;simp only[bF] at V;refine aG hJ fun b0=>?_;obtain ⟨W,a0,b1⟩:=fM (b:=c) (o:=(bk u0 (sl d3 u0.aE c4) (sl d10 u0.props l) (sl d17 u0.aF m) (sl d24 u0.told n))) [(C,.cells #[.int .i64 0] 32),(z,.cells #[.bool false] 4)] ([]) b0 s (aK.cons D (aK.cons B (aK.nil _)));clear b0;have M:b7 E c (bk u0 (sl d3 u0.aE c4) (sl d10 u0.props l) (sl d17 u0.aF m) (sl d24 u0.told n)) ⟨c,0,none⟩=some (.int .i64 u0.bV):=by rw[fF s];rfl
 have N:b7 E c (bk u0 (sl d3 u0.aE c4) (sl d10 u0.props l) (sl d17 u0.aF m) (sl d24 u0.told n)) ⟨c,1,none⟩=some (.int .i64 u0.bU):=by rw[fF s];rfl
 have O:b7 E c (bk u0 (sl d3 u0.aE c4) (sl d10 u0.props l) (sl d17 u0.aF m) (sl d24 u0.told n)) ⟨c,2,none⟩=some (.int .i64 u0.bq.num):=by rw[fF s];rfl
 have P:b7 E c (bk u0 (sl d3 u0.aE c4) (sl d10 u0.props l) (sl d17 u0.aF m) (sl d24 u0.told n)) ⟨c,3,none⟩=some (.int .i64 u0.bq.den):=by rw[fF s];rfl
 have Q:b7 E c (bk u0 (sl d3 u0.aE c4) (sl d10 u0.props l) (sl d17 u0.aF m) (sl d24 u0.told n)) ⟨c,4,none⟩=some (.slice d3 u0.aE.length c4):=by rw[fF s];rfl
 have R:b7 E c (bk u0 (sl d3 u0.aE c4) (sl d10 u0.props l) (sl d17 u0.aF m) (sl d24 u0.told n)) ⟨c,5,none⟩=some (.slice d10 u0.props.length l):=by rw[fF s];rfl
 have S:b7 E c (bk u0 (sl d3 u0.aE c4) (sl d10 u0.props l) (sl d17 u0.aF m) (sl d24 u0.told n)) ⟨c,6,none⟩=some (.slice d17 u0.aF.length m):=by rw[fF s];rfl
 have T:b7 E c (bk u0 (sl d3 u0.aE c4) (sl d10 u0.props l) (sl d17 u0.aF m) (sl d24 u0.told n)) ⟨c,7,none⟩=some (.slice d24 u0.told.length n):=by rw[fF s];rfl
 generalize b7 E c (bk u0 (sl d3 u0.aE c4) (sl d10 u0.props l) (sl d17 u0.aF m) (sl d24 u0.told n))=b2 at W a0 b1 M N O P Q R S T;refine cO hJ b1 ?_;replace i:=i.mono W;replace q:=q.mono W;replace D:=a0.hd;replace B:=a0.tl.hd;replace H:=H.mono W;simp only[bF] at a0;replace F:=W _ _ F;refine aG hJ fun dt=>?_;apply aS hJ;revert h;refine bS fun a du h=>?_;apply ag _;refine aA fun X b3 b4=>?_;have b5:=aZ.cons b4 dt;try simp only[av] at b4
 try apply ag _
 obtain ⟨k,a2,ca⟩:=fM (b:=X) (o:=(.cells #[.func (.func 77) #[] #[.pointer (some ⟨u,0,none⟩),.pointer (some ⟨c,0,none⟩)]] 116)) [] ((C,.cells #[.int .i64 0] 32)::(z,.cells #[.bool false] 4)::[]) b5 b3 (aK.cons D (aK.cons B (aK.nil _)));have cb:aH (dw) (b7 b2 X (.cells #[.func (.func 77) #[] #[.pointer (some ⟨u,0,none⟩),.pointer (some ⟨c,0,none⟩)]] 116)) (.slice (some ⟨X,0,none⟩) 1 1) [(fun I=>lD I d u0)]:=(aH.one (r:=(dw)) (e:=116) (cs:=#[.func (.func 77) #[] #[.pointer (some ⟨u,0,none⟩),.pointer (some ⟨c,0,none⟩)]]) (x:=(fun I=>lD I d u0)) (own:=[(X,.cells #[.func (.func 77) #[] #[.pointer (some ⟨u,0,none⟩),.pointer (some ⟨c,0,none⟩)]] 116)]) b3 (by simp[lk]) ⟨77,#[],#[.pointer (some ⟨u,0,none⟩),.pointer (some ⟨c,0,none⟩)],rfl,⟨by simp only[go_sem],fun fx j I _ _ _ _ fz dv dC dE dT ea=>by simp only[go_sem];exact Jd I ⟨dv,dC,dE,dT⟩ d (q.mono j) (j _ _ F) u0 (j _ _ M) (j _ _ N) (j _ _ O) (j _ _ P) (i.e.mono j) (j _ _ Q) (i.p.mono j) (j _ _ R) (i.y.mono j) (j _ _ S) (i.t.mono j) (j _ _ T) ea⟩⟩)
 generalize b7 b2 X (.cells #[.func (.func 77) #[] #[.pointer (some ⟨u,0,none⟩),.pointer (some ⟨c,0,none⟩)]] 116)=fP at cb a2 k ca;refine hU hJ ca ?_;replace i:=i.mono k;replace q:=q.mono k;replace D:=a2.hd;replace B:=a2.tl.hd;replace H:=H.mono k;simp only[bF] at a2;replace F:=k _ _ F;replace M:=k _ _ M;replace N:=k _ _ N;replace O:=k _ _ O;replace P:=k _ _ P;replace Q:=k _ _ Q;replace R:=k _ _ R;replace S:=k _ _ S;replace T:=k _ _ T;have eb:=aZ.tl b5;refine cw hJ _ (ku H u0 i ([(fun I=>lD I d u0)]) cb du) fun v a5 w a6 ec=>?_;obtain ⟨fQ,fS,fU,gg,rfl,G⟩:=ec;replace q:=q.mono w;replace D:=a6.hd;replace B:=a6.tl.hd;simp only[bF] at a6;replace F:=w _ _ F;replace M:=w _ _ M;replace N:=w _ _ N;replace O:=w _ _ O;replace P:=w _ _ P;replace Q:=w _ _ Q;replace R:=w _ _ R;replace S:=w _ _ S;replace T:=w _ _ T;obtain ⟨d70,Y,rfl,gl,gn,-⟩:=id G.e;obtain ⟨d77,Z,rfl,gp,gB,-⟩:=id G.p;obtain ⟨d84,ab,rfl,gC,gM,-⟩:=id G.y;obtain ⟨d91,ad,rfl,gT,gV,-⟩:=id G.t;apply aO;try apply ag _
 refine aA fun ae cd cf=>?_;have ed:=aZ.cons cf eb;try simp only[av] at cf
 try apply ag _
 refine ah hJ (aC hJ ?_);apply ag _;revert h;refine bh hJ (fun eh h=>?_) fun eh h=>?_
 .cases h;apply az hJ _;refine aG hJ fun a7=>?_;replace a7:=a7.nd;try simp only[keys,List.map_cons,List.map_nil,List.map_append,List.cons_append,List.nil_append,List.nodup_cons,List.mem_cons,List.mem_append,List.not_mem_nil,or_false,not_or] at a7
  apply aQ;simp only[*,go_sem]
 refine aP hJ (ah hJ ?_);apply aM hJ _;refine aA fun a3 cl cy=>?_;have g0:=aZ.cons cy ed;try simp only[av] at cy
 try apply ag _
 apply ah hJ;refine eJ hJ mixed 2 ⟨a5,[(ae,bl a.1 (sl d70 a.1.aE Y) (sl d77 a.1.props Z) (sl d84 a.1.aF ab) (sl d91 a.1.told ad)),(C,.cells #[.int .i64 0] 32),(z,.cells #[.bool false] 4)]⟩ aN aj ?_;apply ag _;refine I9 (e:=3) (pre:=[]) (bC:=(ae,bl a.1 (sl d70 a.1.aE Y) (sl d77 a.1.props Z) (sl d84 a.1.aF ab) (sl d91 a.1.told ad))::(C,.cells #[.int .i64 0] 32)::(z,.cells #[.bool false] 4)::[]) rfl aj aj q (by simp only[av,keys,List.map_nil,List.not_mem_nil,not_false_eq_true]) ?_;refine ⟨by simp only[List.nil_append,go_sem, *],?_⟩;try apply ag _
 refine ah hJ (aC hJ ?_);apply ag _;revert h;refine bS fun g1 et a8=>?_;refine tH hJ bt.v aN (ru a.1 G.e G.p G.y G.t) aj aj (ρ:=Unit) (fun (c0:(Int×Bool)) ev=>ev=(a3,.cells #[.int .i64 (d.getD 0 0),.int .i64 (d.getD 1 0),.int .i64 (d.getD 2 0)] 133)::(ae,bl a.1 (sl d70 a.1.aE Y) (sl d77 a.1.props Z) (sl d84 a.1.aF ab) (sl d91 a.1.told ad))::(C,.cells #[.int .i64 c0.1] 32)::(z,.cells #[.bool c0.2] 4)::[]) (f:=pP d) et ?_ ?_ aB ?_ ?_
 .exact rfl
 .rintro d110 eQ a4 eS ⟨a9,ba⟩ bb g2 h main J hJ _ rfl;unfold pP at h;try dsimp only at h
  generalize K:me _ _ _=U;have g3:sz U=29:=by rw[<-K,tG];simp only[*,go_sem]
  have g4:U.defers=[]:=by rw[<-K];rfl
  have ha:slot U 4= .pointer (some ⟨z,0,none⟩):=by rw[<-K,j8];simp only[*,go_sem]
  have hc:slot U 5= .pointer (some ⟨C,0,none⟩):=by rw[<-K,j8];simp only[*,go_sem]
  have hf:slot U 8= .pointer (some ⟨a3,0,none⟩):=by rw[<-K,j8];simp only[*,go_sem]
  have hg:slot U 25= .agg #[.int .i64 bb.e0,.int .i64 bb.e1,.int .i64 bb.e2]:=by rw[<-K,j8];simp only[*,go_sem]
  clear K dd hd df k1;refine fX hJ fun L g=>?_;replace g:aK a5 ((eQ,.loop a4)::(d110,.deferred (some []))::(a3,.cells #[.int .i64 (d.getD 0 0),.int .i64 (d.getD 1 0),.int .i64 (d.getD 2 0)] 133)::(ae,bl a.1 (sl d70 a.1.aE Y) (sl d77 a.1.props Z) (sl d84 a.1.aF ab) (sl d91 a.1.told ad))::(C,.cells #[.int .i64 a9] 32)::(z,.cells #[.bool ba] 4)::[]):=g;have hh:=g.hd;have hi:=g.tl.hd;have cl:=g.tl.tl.hd;have cd:=g.tl.tl.tl.hd;have D:=g.tl.tl.tl.tl.hd;have B:=g.tl.tl.tl.tl.tl.hd;clear g;replace L:=L.nd;simp only[keys,List.map_cons,List.map_nil,List.map_append,List.cons_append,List.nil_append,List.nodup_cons,List.mem_cons,List.mem_append,List.not_mem_nil,or_false,not_or] at L;apply aM hJ _;refine aA fun hj hk e3=>?_;try simp only[av] at e3
  try apply ag _
  simp only[oM,go_sem];refine ⟨a4,aN,eS,?_⟩;try apply ag _
  refine aX hJ (ah hJ ?_);apply aM hJ _;revert h;refine bh hJ (fun fa h=>?_) fun fa h=>?_
  .cases h;apply az hJ _;apply aQ;simp only[oL,k7,go_sem];refine ⟨{a4 with state:=.busy},aN,?_⟩;apply ag _;refine ⟨_,Le.sub (List.Sublist.cons _ (List.Sublist.refl _)),rfl,rfl⟩
  cases h;apply aP hJ;simp only[oL,k7,go_sem];refine ⟨{a4 with state:=.busy},aN,?_⟩;apply ag _;refine ⟨_,Le.sub (List.Sublist.cons _ (List.Sublist.refl _)),rfl,rfl⟩
 .rintro fb ff fg _ ⟨a9,ba⟩ rfl L g;replace g:aK a5 ((ff,.loop fg)::(fb,.deferred (some []))::(a3,.cells #[.int .i64 (d.getD 0 0),.int .i64 (d.getD 1 0),.int .i64 (d.getD 2 0)] 133)::(ae,bl a.1 (sl d70 a.1.aE Y) (sl d77 a.1.props Z) (sl d84 a.1.aF ab) (sl d91 a.1.told ad))::(C,.cells #[.int .i64 a9] 32)::(z,.cells #[.bool ba] 4)::[]):=g;have hl:=g.hd;have hn:=g.tl.hd;have cl:=g.tl.tl.hd;have cd:=g.tl.tl.tl.hd;have D:=g.tl.tl.tl.tl.hd;have B:=g.tl.tl.tl.tl.tl.hd;clear g;replace L:=L.nd;simp only[keys,List.map_cons,List.map_nil,List.map_append,List.cons_append,List.nil_append,List.nodup_cons,List.mem_cons,List.mem_append,List.not_mem_nil,or_false,not_or] at L;refine ⟨fun al=>?_,fun k1 al=>?_⟩
  .subst al;have h:=a8;dsimp only[aJ] at h;cases h;apply az hJ _;refine aG hJ fun bc=>?_;replace bc:=bc.nd;(try simp only[keys,List.map_cons,List.map_nil,List.map_append,List.cons_append,List.nil_append,List.nodup_cons,List.mem_cons,List.mem_append,List.not_mem_nil,or_false,not_or] at bc);apply aQ;simp only[*,go_sem]
  subst al;have h:=a8;dsimp only[aJ] at h;revert h;refine cS (fun da h=>?_) fun da h=>?_
  .cases h;obtain rfl:k1=1000000000:=by simpa using da
   unfold tF;rw[if_pos (show (1000000000:Nat)=qU from rfl)];simp only[*,go_sem]
  cases h
 intro k1 ho al;subst al;have h:=a8;dsimp only[aJ] at h;revert h;refine cS (fun db h=>?_) fun db h=>?_
 .obtain rfl:k1=1000000000:=by simpa using db
  decide
 cases h
def dW {α:Type}(t:Nat->α->Option Int):Nat->List α->Option Int
 |_,[]=>none
 |i,x::l=>match t i x with
  |some r=>some r
  |none=>dW t (i+1) l
def iO {σ:Type}(o:Option Int)(s:σ):Fl σ Int:=match o with
 |some r=>.rt r
 |none=>.nx s
theorem rT {α σ:Type}{f:Nat->α->σ->Option (Fl σ Int)}{t:Nat->α->Option Int}:∀(l:List α) (i:Nat) (s:σ),(∀j x s,l[j]?=some x->f (i+j) x s=some (iO (t (i+j) x) s))->bR f i l s=some (iO (dW t i l) s)
 |[],i,s,_=>rfl
 |x::l,i,s,h=>by
  have a:=h 0 x s rfl
  simp only[Nat.add_zero] at a
  unfold bR dW
  rw[a]
  cases ht:t i x with
  |some r=>rfl
  |none=>
   show bR f (i+1) l s=_
   exact rT l (i+1) s fun j y s b=>by
    have:=h (j+1) y s (by simpa using b)
    rwa [show i+(j+1)=i+1+j by omega] at this
theorem Cr {α σ:Type}{f:σ×Int->Option (Fl (σ×Int) Int)}{t:Nat->α->Option Int}(l:List α)(h:∀(i:Nat) x s,l[i]?=some x->f (s,(i:Int))=some (iO (t i x) (s,((i+1:Nat):Int))))(a:∀s,f (s,(l.length:Int))=some (.bk (s,(l.length:Int)))):
  ∀(k i n:Nat) (s:σ),i+k=l.length->k<n->bp f n (s,(i:Int))=some (iO (dW t i (l.drop i)) (s,(l.length:Int)))
 |0,i,n+1,s,hi,_=>by
  obtain rfl:i=l.length:=aa
  unfold bp
  rw[a,List.drop_length]
  rfl
 |k+1,i,n+1,s,hi,d=>by
  have b:i<l.length:=aa
  have c:l[i]?=some l[i]:=List.getElem?_eq_getElem b
  unfold bp
  rw[h i _ s c,List.drop_eq_getElem_cons b]
  unfold dW
  cases ht:t i l[i] with
  |some r=>rfl
  |none=>exact Cr l h a k (i+1) n s aa aa
theorem uQ {α σ:Type}{f:σ×Int->Option (Fl (σ×Int) Int)}{t:Nat->α->Option Int}(l:List α)(a:l.length<=1000)(h:∀(i:Nat) x s,l[i]?=some x->f (s,(i:Int))=some (iO (t i x) (s,((i+1:Nat):Int))))(b:∀s,f (s,(l.length:Int))=some (.bk (s,(l.length:Int))))(s:σ):
  bp f fu (s,0)=some (iO (dW t 0 l) (s,(l.length:Int))):=by
 have:=Cr l h b l.length 0 fu s aa (Nat.lt_of_le_of_lt a aB)
 simpa using this
theorem kF:fZ=fh:=rfl
theorem Jf:qZ=nS:=rfl
def bZ (a lo hi:Int):Bool:=decide (lo<=a)&&decide (a<=hi)
theorem fI (a lo hi:Int):fh a lo hi=some (bZ a lo hi):=by
 unfold fh bZ;cases decide (lo<=a)<;>rfl
def lE (b:dF)(lo hi:Int):Bool:=decide (lo<=b.low)&&(decide (b.low<=b.high)&&decide (b.high<=hi))
theorem Cs (b:dF)(lo hi:Int):nS b lo hi=some (lE b lo hi):=by
 unfold nS lE;cases decide (lo<=b.low)<;>cases decide (b.low<=b.high)<;>rfl
theorem cU {n:Int}(h: -9223372036854775808<=n/\n<9223372036854775808):IntKind.i64.wrap n=n:=IntWalk.i64_in _ (by constructor<;>omega)
def gY (u:an)(i:Nat)(x:cv):Option Int:=
 cond (bZ x.aV 0 (IntKind.i64.wrap (u.bV - 1))) (cond (bZ x.high 0 60) (match i with
  |0=>none
  |j+1=>match u.aE[j]? with
   |some y=>cond (decide (x.aV<=y.aV)) (some 7) none
   |none=>none) (some 1)) (some 1)
theorem yK (u:an)(g:u.aE.length<=20):mh u=some (cond (bZ u.aE.length 2 5) ((dW (gY u) 0 u.aE).getD 0) 2)/\n5 u=mh u:=by
 have key:mh u=some (cond (bZ u.aE.length 2 5) ((dW (gY u) 0 u.aE).getD 0) 2):=by
  unfold mh;rw[kF,fI];show cond (!bZ (u.aE.length:Int) 2 5) _ _=_;cases bZ (u.aE.length:Int) 2 5 with
  |false=>rfl
  |true=>
   show ai (bR _ 0 u.aE 0) _=_;rw[rT (t:=gY u) u.aE 0 0 ?_]
   .show aJ (iO _ _) _ _ _=_;cases dW (gY u) 0 u.aE<;>rfl
   .intro j x s b;rw[Nat.zero_add];unfold tX gY;rw[kF,fI,fI];show cond (!bZ x.aV 0 _) _ _=_;cases bZ x.aV 0 (IntKind.i64.wrap (u.bV - 1)) with
    |false=>rfl
    |true=>
     show cond (!bZ x.high 0 60) _ _=_;cases bZ x.high 0 60 with
     |false=>rfl
     |true=>
      cases j with
      |zero=>rfl
      |succ j=>
       have d:=(List.getElem?_eq_some_iff.1 b).1;have a:u.aE[j]?=some u.aE[j]:=List.getElem?_eq_getElem aa;have hw:IntKind.i64.wrap (((j+1:Nat):Int) - 1)=(j:Int):=by rw[cU aa];omega
       have hd:decide (0<((j+1:Nat):Int))=true:=decide_eq_true aa;show cond (decide (0<((j+1:Nat):Int))) _ _=_;rw[hd,hw];have hi:bD u.aE (j:Int)=some u.aE[j]:=by unfold bD;rw[if_pos aa,Int.toNat_natCast,a]
       show ai (bD u.aE (j:Int)) _=_;rw[hi];simp only[a];show cond (decide (x.aV<=u.aE[j].aV)) _ _=_;cases decide (x.aV<=u.aE[j].aV)<;>rfl
 refine ⟨key,?_⟩;rw[key];unfold n5;rw[fI];show cond (!bZ (u.aE.length:Int) 2 5) _ _=_;cases bZ (u.aE.length:Int) 2 5 with
 |false=>rfl
 |true=>
  show ai (bp _ fu (0,0)) _=_;rw[uQ (t:=gY u) u.aE aa ?_ ?_ 0]
  .show aJ (iO _ _) _ _ _=_;cases dW (gY u) 0 u.aE<;>rfl
  .intro j x s b;unfold rJ gY;have d:=(List.getElem?_eq_some_iff.1 b).1;have c:decide ((j:Int)<(u.aE.length:Int))=true:=decide_eq_true aa;have e:bD u.aE (j:Int)=some x:=by unfold bD;rw[if_pos aa,Int.toNat_natCast,b]
   have f:IntKind.i64.wrap ((j:Int)+1)=((j+1:Nat):Int):=by rw[cU aa];omega
   show cond (decide ((j:Int)<(u.aE.length:Int))) (ai (bD u.aE (j:Int)) _) _=_;rw[c,e,cond_true];show ai (fh x.aV 0 (IntKind.i64.wrap (u.bV - 1))) _=_;rw[fI];show cond (!bZ x.aV 0 _) _ (ai (fh x.high 0 60) _)=_;rw[fI];cases bZ x.aV 0 (IntKind.i64.wrap (u.bV - 1)) with
   |false=>rfl
   |true=>
    show cond (!bZ x.high 0 60) _ _=_;cases bZ x.high 0 60 with
    |false=>rfl
    |true=>
     cases j with
     |zero=>rfl
     |succ j=>
      have a:u.aE[j]?=some u.aE[j]:=List.getElem?_eq_getElem aa;have hw:IntKind.i64.wrap (((j+1:Nat):Int) - 1)=(j:Int):=by rw[cU aa];omega
      have hd:decide (0<((j+1:Nat):Int))=true:=decide_eq_true aa;have hi:bD u.aE (j:Int)=some u.aE[j]:=by unfold bD;rw[if_pos aa,Int.toNat_natCast,a]
      dsimp only;simp only[hd,hw,hi,f,a,ai,cond_true,Bool.not_true,cond_false];cases decide (x.aV<=u.aE[j].aV)<;>rfl
  .intro s;unfold rJ;have c:decide ((u.aE.length:Int)<(u.aE.length:Int))=false:=decide_eq_false aa;show cond (decide ((u.aE.length:Int)<(u.aE.length:Int))) _ _=_;rw[c];rfl
theorem Ct {ρ:Type}{f:Int×Int->Option (Fl (Int×Int) ρ)}(d:∀a b:Nat,a<9223372036854775808->b<9223372036854775808->b≠0->f ((a:Int),(b:Int))=some (.nx ((b:Int),((a % b:Nat):Int))))(e:∀a:Nat,f ((a:Int),0)=some (.bk ((a:Int),0))):
  ∀(b a k:Nat),a<9223372036854775808->b<9223372036854775808->b<k->bp f k ((a:Int),(b:Int))=some (.nx (((Nat.gcd a b:Nat):Int),0)):=by
 intro b
 induction b using Nat.strongRecOn with
 |ind b ih=>
  intro a k g hb h
  obtain ⟨k,rfl⟩:∃m,k=m+1:=⟨k - 1,aa⟩
  unfold bp
  by_cases c:b=0
  .subst c
   have:=e a
   rw[show ((0:Nat):Int)=0 from rfl,this,Nat.gcd_zero_right]
   rfl
  .rw[d a b g hb c]
   show bp f k ((b:Int),((a % b:Nat):Int))=_
   have hm:a % b<b:=Nat.mod_lt _ aa
   rw[ih (a % b) hm b k hb aa aa,Nat.gcd_comm a b,Nat.gcd_rec b a,Nat.gcd_comm]
theorem Cu (a b:Nat)(d:a<9223372036854775808)(hb:b<9223372036854775808)(h:b≠0):iZ (a:Int) (b:Int)=some ((a % b:Nat):Int):=by
 unfold iZ;have c:¬(b:Int)=0:=aa;rw[if_neg c];have e:((a:Int).tmod (b:Int))=((a % b:Nat):Int):=by
  rw[Int.tmod_eq_emod_of_nonneg aa];rfl
 rw[e]
theorem Jg (a k:Nat)(b:Nat)(c:a<9223372036854775808)(hb:b<9223372036854775808)(d:b<k):bp q2 k ((a:Int),(b:Int))=some (.nx (((Nat.gcd a b:Nat):Int),0)):=by
 refine Ct (fun a b c hb e=>?_) (fun a=>rfl) b a k c hb d;unfold q2;have:(((b:Nat):Int) != 0)=true:=by simp;omega
 dsimp only;rw[this,Cu a b c hb e];rfl
theorem Jh (a k:Nat)(b:Nat)(c:a<9223372036854775808)(hb:b<9223372036854775808)(d:b<k):bp pq k ((a:Int),(b:Int))=some (.nx (((Nat.gcd a b:Nat):Int),0)):=by
 refine Ct (fun a b c hb e=>?_) (fun a=>rfl) b a k c hb d;unfold pq;have:decide (0<((b:Nat):Int))=true:=decide_eq_true aa;dsimp only;rw[this,Cu a b c hb e];rfl
def bX (n:Int)(d:Nat):ax:=⟨n.tdiv (Nat.gcd n.natAbs d:Nat),(d:Int).tdiv (Nat.gcd n.natAbs d:Nat)⟩
theorem uR (a b:Int)(hb:0<b)(c: -9000000000000000000<=a/\a<=9000000000000000000):gu a b=some (a.tdiv b):=by
 unfold gu;rw[if_neg aa];congr 1;have d:(a.tdiv b).natAbs<=a.natAbs:=by rw[Int.natAbs_tdiv];exact Nat.div_le_self _ _
 exact cU aa
theorem Cv (n:Int)(h: -9000000000000000000<=n/\n<=9000000000000000000):(if n<IntKind.i64.wrap (0 - n) then IntKind.i64.wrap (0 - n) else n)=(n.natAbs:Int):=by
 rw[cU aa];split<;>omega
theorem rU (n:Int)(d:Nat)(a: -9000000000000000000<=n/\n<=9000000000000000000)(hd:0<d)(b:d<900000000000000000):lf n d=some (bX n d):=by
 unfold lf;rw[Cv n a,Jg n.natAbs fu d aa aa (Nat.lt_trans b aB)];have hg:0<Nat.gcd n.natAbs d:=Nat.gcd_pos_of_pos_right _ hd;show ai (gu n _) (fun x=>ai (gu d _) fun y=>_)=_;rw[uR n _ aa a,uR d _ aa aa];rfl
theorem rV (n:Int)(d:Nat)(a: -9000000000000000000<=n/\n<=9000000000000000000)(hd:0<d)(b:d<900000000000000000):jf n d=some (bX n d):=by
 unfold jf;have:decide ((d:Int)<0)=false:=decide_eq_false aa;rw[this];show ai (bp pq fu _) _=_;rw[Cv n a,Jh n.natAbs fu d aa aa (Nat.lt_trans b aB)];have hg:0<Nat.gcd n.natAbs d:=Nat.gcd_pos_of_pos_right _ hd;show ai (gu n _) (fun x=>ai (gu d _) fun y=>_)=_;rw[uR n _ aa a,uR d _ aa aa];rfl
def iP (u:an)(f:Int->Bool)(_:Nat)(x:cF):Option Int:=cond (f x.place) (cond (bZ x.dS 1 20) none (some 1)) (some 6)
def iQ (_:Nat)(x:cq):Option Int:=cond (bZ x.back 1 20) (cond (lE x.high 0 60) (cond (decide (3<=IntKind.i64.wrap (x.high.high - x.high.low))) (some 1) none) (some 1)) (some 1)
def iR (u:an)(i:Int):Bool:=bZ i 0 (IntKind.i64.wrap ((u.aF.length:Int) - 1))
def jN (u:an)(_:Nat)(x:bM):Option Int:=cond (iR u x.aY) none (some 6)
theorem yL (u:an)(i:Int):pn u i=some (iR u i)/\oO u i=some (iR u i):=by
 constructor
 .unfold pn;rw[fI];rfl
 .unfold oO;rw[kF,fI];rfl
theorem Ji (u:an)(h:Int):iM h u=some (cond (bZ h 1 20) 0 1):=by
 unfold iM;rw[kF,fI];show cond (!bZ h 1 20) _ _=_;cases bZ h 1 20<;>rfl
theorem yM (u:an)(h:0<u.aE.length)(c:u.aE.length<=20):∃f:Int->Bool,∀p,gR u p=some (f p)/\nO u p=some (f p):=by
 have a:u.aE[0]?=some u.aE[0]:=List.getElem?_eq_getElem h;have b:u.aE[u.aE.length - 1]?=some (u.aE[u.aE.length - 1]'aa):=List.getElem?_eq_getElem _;have hw:IntKind.i64.wrap ((u.aE.length:Int) - 1)=((u.aE.length - 1:Nat):Int):=by rw[cU aa];omega
 have e0:bD u.aE 0=some u.aE[0]:=a;have e1:bD u.aE ((u.aE.length - 1:Nat):Int)=some (u.aE[u.aE.length - 1]'aa):=by unfold bD;rw[if_pos aa,Int.toNat_natCast,b]
 refine ⟨fun p=>bZ p (u.aE[0]).aV (u.aE[u.aE.length - 1]'aa).aV,fun p=>?_⟩;have k:gR u p=some (bZ p (u.aE[0]).aV (u.aE[u.aE.length - 1]'aa).aV):=by
  unfold gR;rw[hw,e0,e1,kF];simp only[ai,fI]
 exact ⟨k,k⟩
def gV (u:an):Int:=cond (bZ u.bV 2 60) (cond (bZ u.bU 0 60) (cond (bZ u.bq.den 1 20) (cond (bZ u.bq.num 0 20) (cond (((bX u.bq.num u.bq.den.toNat).num==u.bq.num)&&((bX u.bq.num u.bq.den.toNat).den==u.bq.den)) 0 3) 1) 1) 1) 1
theorem eW {a lo hi:Int}:bZ a lo hi=true↔lo<=a/\a<=hi:=by unfold bZ;simp
theorem uS (u:an):oR u=some (gV u):=by
 unfold oR gV;rw[kF];simp only[fI,ai];cases c:bZ u.bV 2 60 with
 |false=>rfl
 |true=>
  cases d:bZ u.bU 0 60 with
  |false=>rfl
  |true=>
   cases a:bZ u.bq.den 1 20 with
   |false=>rfl
   |true=>
    cases b:bZ u.bq.num 0 20 with
    |false=>rfl
    |true=>
     rw[eW] at a b;have hd:u.bq.den=(u.bq.den.toNat:Int):=aa;have:=rU u.bq.num u.bq.den.toNat aa aa aa;rw[<-hd] at this;simp only[this,cond_true,Bool.not_true,cond_false];cases (((bX u.bq.num u.bq.den.toNat).num==u.bq.num)&&((bX u.bq.num u.bq.den.toNat).den==u.bq.den))<;>rfl
theorem Jj (u:an):kD u=cond (gV u != 0) (some (gV u)) (ai (n5 u) fun x=>cond (x != 0) (some x) (n6 u)):=by
 unfold kD gV;simp only[fI,ai];cases c:bZ u.bV 2 60 with
 |false=>rfl
 |true=>
  cases d:bZ u.bU 0 60 with
  |false=>rfl
  |true=>
   cases a:bZ u.bq.den 1 20 with
   |false=>rfl
   |true=>
    cases b:bZ u.bq.num 0 20 with
    |false=>rfl
    |true=>
     rw[eW] at a b;have hd:u.bq.den=(u.bq.den.toNat:Int):=aa;have:=rV u.bq.num u.bq.den.toNat aa aa aa;rw[<-hd] at this;simp only[this,cond_true,Bool.not_true,cond_false];cases (((bX u.bq.num u.bq.den.toNat).num==u.bq.num)&&((bX u.bq.num u.bq.den.toNat).den==u.bq.den)) with
     |false=>rfl
     |true=>
      simp only[Bool.not_true,cond_false,cond_true,bne_self_eq_false];cases n5 u with
      |none=>rfl
      |some x=>
       dsimp only;cases n6 u<;>rfl
theorem uT (u:an):nu u=some (cond (decide (3<(u.told.length:Int))) 2 ((dW (jN u) 0 u.told).getD 0)):=by
 unfold nu;cases decide (3<(u.told.length:Int)) with
 |true=>rfl
 |false=>
  show ai (bR _ 0 u.told 0) _=_;rw[rT (t:=jN u) u.told 0 0 ?_]
  .show aJ (iO _ _) _ _ _=_;cases dW (jN u) 0 u.told<;>rfl
  .intro j x s a;unfold tT jN;simp only[yL,ai];cases iR u x.aY<;>rfl
theorem uU (u:an):nv u=some (cond (bZ u.aF.length 1 3) ((dW iQ 0 u.aF).getD 0) 2):=by
 unfold nv;rw[kF,fI];simp only[ai];cases bZ (u.aF.length:Int) 1 3 with
 |false=>rfl
 |true=>
  simp only[Bool.not_true,cond_false,cond_true];rw[rT (t:=iQ) u.aF 0 0 ?_]
  .show aJ (iO _ _) _ _ _=_;cases dW iQ 0 u.aF<;>rfl
  .intro j x s a;unfold tU iQ;simp only[kF,Jf,fI,Cs,ai];cases bZ x.back 1 20 with
   |false=>rfl
   |true=>
    cases lE x.high 0 60 with
    |false=>rfl
    |true=>
     simp only[Bool.not_true,cond_false,cond_true];cases decide (3<=IntKind.i64.wrap (x.high.high - x.high.low))<;>rfl
theorem uV (u:an)(f:Int->Bool)(a:∀p,gR u p=some (f p)/\nO u p=some (f p)):ny u=some (cond (decide (3<(u.props.length:Int))) 2 ((dW (iP u f) 0 u.props).getD 0)):=by
 unfold ny;cases decide (3<(u.props.length:Int)) with
 |true=>rfl
 |false=>
  show ai (bR _ 0 u.props 0) _=_;rw[rT (t:=iP u f) u.props 0 0 ?_]
  .show aJ (iO _ _) _ _ _=_;cases dW (iP u f) 0 u.props<;>rfl
  .intro j x s b;unfold tV iP;simp only[(a x.place).1,Ji,ai];cases f x.place with
   |false=>rfl
   |true=>
    cases bZ x.dS 1 20<;>rfl
theorem oa {α:Type}{t:Nat->α->Option Int}(h:∀i x r,t i x=some r->r≠0):∀(l:List α) (i:Nat) (r:Int),dW t i l=some r->r≠0
 |[],i,r,e=>by cases e
 |x::l,i,r,e=>by
  unfold dW at e
  cases ht:t i x with
  |some a=>rw[ht] at e;cases e;exact h i x _ ht
  |none=>rw[ht] at e;exact oa h l (i+1) r e
theorem Cw (u:an)(f:Int->Bool)(i:Nat)(x:cF)(r:Int)(h:iP u f i x=some r):r≠0:=by
 unfold iP at h;revert h;cases f x.place<;>cases bZ x.dS 1 20<;>intro h<;>cases h<;>decide
theorem Cx (i:Nat)(x:cq)(r:Int)(h:iQ i x=some r):r≠0:=by
 unfold iQ at h;revert h;cases bZ x.back 1 20<;>cases lE x.high 0 60<;>cases decide (3<=IntKind.i64.wrap (x.high.high - x.high.low))<;>intro h<;>cases h<;>decide
theorem Jk (u:an)(i:Nat)(x:bM)(r:Int)(h:jN u i x=some r):r≠0:=by
 unfold jN at h;revert h;cases iR u x.aY<;>intro h<;>cases h<;>decide
theorem Cz {o:Option Int}(h:∀r,o=some r->r≠0):(o.getD 0 != 0)=o.isSome:=by
 cases o with
 |none=>rfl
 |some r=>simpa using h r rfl
theorem Jl (u:an)(f:Int->Bool)(e:∀p,gR u p=some (f p)/\nO u p=some (f p))(h:u.props.length<=20)(i:u.aF.length<=20)(k:u.told.length<=20):
  n6 u=ai (ny u) fun x=>cond (x != 0) (some x) (ai (nv u) fun y=>cond (y != 0) (some y) (nu u)):=by
 rw[uV u f e,uU,uT]
 unfold n6
 simp only[ai]
 cases l:decide (3<(u.props.length:Int)) with
 |true=>rfl
 |false=>
  simp only[cond_false]
  rw[uQ (t:=iP u f) u.props aa ?_ ?_ 0]
  .rw[Cz (oa (Cw u f) u.props 0)]
   cases dW (iP u f) 0 u.props with
   |some r=>rfl
   |none=>
    simp only[iO,aJ,Option.isSome_none,cond_false,fI]
    cases m:bZ (u.aF.length:Int) 1 3 with
    |false=>rfl
    |true=>
     simp only[Bool.not_true,cond_false,cond_true]
     rw[uQ (t:=iQ) u.aF aa ?_ ?_ 0]
     .rw[Cz (oa Cx u.aF 0)]
      cases dW iQ 0 u.aF with
      |some r=>rfl
      |none=>
       simp only[iO,aJ,Option.isSome_none,cond_false]
       cases n:decide (3<(u.told.length:Int)) with
       |true=>rfl
       |false=>
        simp only[cond_false]
        rw[uQ (t:=jN u) u.told aa ?_ ?_ 0]
        .cases dW (jN u) 0 u.told<;>rfl
        .intro j x s b
         have g:=(List.getElem?_eq_some_iff.1 b).1
         have a:decide ((j:Int)<(u.told.length:Int))=true:=decide_eq_true aa
         have c:bD u.told (j:Int)=some x:=by unfold bD;rw[if_pos aa,Int.toNat_natCast,b]
         have d:IntKind.i64.wrap ((j:Int)+1)=((j+1:Nat):Int):=by rw[cU aa];omega
         unfold yF jN
         simp only[a,c,d,ai,yL,cond_true]
         cases iR u x.aY<;>rfl
        .intro s
         have a:decide ((u.told.length:Int)<(u.told.length:Int))=false:=decide_eq_false aa
         unfold yF
         simp only[a,cond_false]
     .intro j x s b
      have g:=(List.getElem?_eq_some_iff.1 b).1
      have a:decide ((j:Int)<(u.aF.length:Int))=true:=decide_eq_true aa
      have c:bD u.aF (j:Int)=some x:=by unfold bD;rw[if_pos aa,Int.toNat_natCast,b]
      have d:IntKind.i64.wrap ((j:Int)+1)=((j+1:Nat):Int):=by rw[cU aa];omega
      unfold yE iQ
      simp only[a,c,d,ai,fI,Cs,cond_true]
      cases bZ x.back 1 20<;>cases lE x.high 0 60<;>cases decide (3<=IntKind.i64.wrap (x.high.high - x.high.low))<;>rfl
     .intro s
      have a:decide ((u.aF.length:Int)<(u.aF.length:Int))=false:=decide_eq_false aa
      unfold yE
      simp only[a,cond_false]
  .intro j x s b
   have g:=(List.getElem?_eq_some_iff.1 b).1
   have a:decide ((j:Int)<(u.props.length:Int))=true:=decide_eq_true aa
   have c:bD u.props (j:Int)=some x:=by unfold bD;rw[if_pos aa,Int.toNat_natCast,b]
   have d:IntKind.i64.wrap ((j:Int)+1)=((j+1:Nat):Int):=by rw[cU aa];omega
   unfold rK iP
   simp only[a,c,d,ai,fI,(e x.place).2,cond_true]
   cases f x.place<;>cases bZ x.dS 1 20<;>rfl
  .intro s
   have a:decide ((u.props.length:Int)<(u.props.length:Int))=false:=decide_eq_false aa
   unfold rK
   simp only[a,cond_false]
theorem CA (x:Int):cond (x != 0) (some x) (some 0)=some x:=by
 cases h:(x != 0) with
 |true=>rfl
 |false=>
  have:x=0:=by simpa using h
  rw[this];rfl
theorem Jm (u:an)(a:u.aE.length<=20)(d:u.props.length<=20)(e:u.aF.length<=20)(g:u.told.length<=20):fe u=kD u/\∃r,fe u=some r:=by
 obtain ⟨he,h⟩:=yK u a;rw[Jj,h];show jJ u=_/\∃r,jJ u=some r;unfold jJ;rw[uS];simp only[ai];cases hg:(gV u != 0) with
 |true=>exact ⟨rfl,_,rfl⟩
 |false=>
  simp only[cond_false];unfold mq;rw[he];simp only[ai];cases b:((cond (bZ u.aE.length 2 5) ((dW (gY u) 0 u.aE).getD 0) 2) != 0) with
  |true=>exact ⟨rfl,_,rfl⟩
  |false=>
   simp only[cond_false];have hb:bZ u.aE.length 2 5=true:=by
    cases hb:bZ (u.aE.length:Int) 2 5 with
    |true=>rfl
    |false=>rw[hb] at b;cases b
   have i:=eW.1 hb;obtain ⟨f,c⟩:=yM u aa a;rw[Jl u f c d e g];unfold mo;rw[uV u f c];simp only[ai];cases j:((cond (decide (3<(u.props.length:Int))) 2 ((dW (iP u f) 0 u.props).getD 0)) != 0) with
   |true=>exact ⟨rfl,_,rfl⟩
   |false=>
    simp only[cond_false];unfold mm;rw[uU];simp only[ai];cases k:((cond (bZ u.aF.length 1 3) ((dW iQ 0 u.aF).getD 0) 2) != 0) with
    |true=>exact ⟨rfl,_,rfl⟩
    |false=>
     simp only[cond_false];unfold mj oS;rw[uT];simp only[ai];rw[CA];exact ⟨rfl,_,rfl⟩
theorem rW {α:Type}{t:Nat->α->Option Int}:∀(l:List α) (i:Nat),dW t i l=none->∀j x,l[j]?=some x->t (i+j) x=none
 |[],i,_,j,x,a=>by simp at a
 |y::l,i,h,j,x,a=>by
  unfold dW at h
  cases ht:t i y with
  |some r=>rw[ht] at h;cases h
  |none=>
   rw[ht] at h
   cases j with
   |zero=>simp at a;subst a;exact ht
   |succ j=>
    have:=rW l (i+1) h j x (by simpa using a)
    rwa [show i+1+j=i+(j+1) by omega] at this
structure Fit (u:an):Prop where
 bV:2<=u.bV/\u.bV<=60
 bU:0<=u.bU/\u.bU<=60
 den:1<=u.bq.den/\u.bq.den<=20
 num:0<=u.bq.num/\u.bq.num<=20
 aE:2<=u.aE.length/\u.aE.length<=5
 kG:∀(i:Nat) x,u.aE[i]?=some x->(0<=x.aV/\x.aV<=u.bV - 1)/\0<=x.high/\x.high<=60
 uW:∀(i:Nat) x y,u.aE[i]?=some x->u.aE[i+1]?=some y->x.aV<y.aV
 props:u.props.length<=3
 prop:∀(i:Nat) x,u.props[i]?=some x->gR u x.place=some true/\1<=x.dS/\x.dS<=20
 aF:1<=u.aF.length/\u.aF.length<=3
 aY:∀(i:Nat) x,u.aF[i]?=some x->(1<=x.back/\x.back<=20)/\0<=x.high.low/\x.high.low<=x.high.high/\x.high.high<=60/\x.high.high - x.high.low<3
 told:u.told.length<=3
 ob:∀(i:Nat) x,u.told[i]?=some x->0<=x.aY/\x.aY<u.aF.length
theorem uX {o:Option Int}(h:∀r,o=some r->r≠0)(a:o.getD 0=0):o=none:=by
 cases o with
 |none=>rfl
 |some r=>exact absurd a (h r rfl)
theorem Jn (u:an)(i:Nat)(x:cv)(r:Int)(h:gY u i x=some r):r≠0:=by
 unfold gY at h;revert h;cases bZ x.aV 0 (IntKind.i64.wrap (u.bV - 1))<;>cases bZ x.high 0 60<;>try (intro h;cases h;decide)
 cases i with
 |zero=>intro h;cases h
 |succ j=>
  simp only[cond_true];cases u.aE[j]? with
  |none=>intro h;cases h
  |some y=>dsimp only;cases decide (x.aV<=y.aV)<;>intro h<;>cases h<;>decide
theorem Jo (u:an)(o:u.aE.length<=20)(h:fe u=some 0):Fit u:=by
 have a:jJ u=some 0:=h;clear h;unfold jJ at a;rw[uS] at a;simp only[ai] at a;have hg:gV u=0:=by
  cases hg:(gV u != 0) with
  |true=>rw[hg] at a;exact Option.some.inj a
  |false=>simpa using hg
 rw[hg] at a;have a:mq u=some 0:=a;unfold mq at a;rw[(yK u o).1] at a;simp only[ai] at a;generalize g:cond (bZ (u.aE.length:Int) 2 5) ((dW (gY u) 0 u.aE).getD 0) 2=E at a;have z:E=0:=by
  cases d:(E != 0) with
  |true=>rw[d] at a;exact Option.some.inj a
  |false=>simpa using d
 rw[z] at a g;have a:mo u=some 0:=a;have hb:bZ (u.aE.length:Int) 2 5=true:=by
  cases hb:bZ (u.aE.length:Int) 2 5 with
  |true=>rfl
  |false=>rw[hb] at g;cases g
 rw[hb] at g;have M:=eW.1 hb;have p:=rW u.aE 0 (uX (oa (Jn u) u.aE 0) g);obtain ⟨f,q⟩:=yM u aa o;unfold mo at a;rw[uV u f q] at a;simp only[ai] at a;generalize j:cond (decide (3<(u.props.length:Int))) 2 ((dW (iP u f) 0 u.props).getD 0)=r at a;have A:r=0:=by
  cases d:(r != 0) with
  |true=>rw[d] at a;exact Option.some.inj a
  |false=>simpa using d
 rw[A] at a j;have a:mm u=some 0:=a;have s:decide (3<(u.props.length:Int))=false:=by
  cases hb:decide (3<(u.props.length:Int)) with
  |false=>rfl
  |true=>rw[hb] at j;cases j
 rw[s] at j;have B:=rW u.props 0 (uX (oa (Cw u f) u.props 0) j);unfold mm at a;rw[uU] at a;simp only[ai] at a;generalize k:cond (bZ (u.aF.length:Int) 1 3) ((dW iQ 0 u.aF).getD 0) 2=t at a;have C:t=0:=by
  cases d:(t != 0) with
  |true=>rw[d] at a;exact Option.some.inj a
  |false=>simpa using d
 rw[C] at a k;have a:mj u=some 0:=a;have v:bZ (u.aF.length:Int) 1 3=true:=by
  cases hb:bZ (u.aF.length:Int) 1 3 with
  |true=>rfl
  |false=>rw[hb] at k;cases k
 rw[v] at k;have N:=eW.1 v;have D:=rW u.aF 0 (uX (oa Cx u.aF 0) k);unfold mj oS at a;rw[uT] at a;simp only[ai] at a;rw[CA] at a;have l:=Option.some.inj a;have w:decide (3<(u.told.length:Int))=false:=by
  cases hb:decide (3<(u.told.length:Int)) with
  |false=>rfl
  |true=>rw[hb] at l;cases l
 rw[w] at l;have F:=rW u.told 0 (uX (oa (Jk u) u.told 0) l);have O:=of_decide_eq_false s;have P:=of_decide_eq_false w;clear a g j k l;have G:(2<=u.bV/\u.bV<=60)/\(0<=u.bU/\u.bU<=60)/\(1<=u.bq.den/\u.bq.den<=20)/\(0<=u.bq.num/\u.bq.num<=20):=by
  unfold gV at hg;refine ⟨eW.1 ?_,eW.1 ?_,eW.1 ?_,eW.1 ?_⟩<;>revert hg<;>cases bZ u.bV 2 60<;>cases bZ u.bU 0 60<;>cases bZ u.bq.den 1 20<;>cases bZ u.bq.num 0 20<;>intro hg<;>first|rfl|cases hg
 obtain ⟨H,I,J,K⟩:=G;have hw:IntKind.i64.wrap (u.bV - 1)=u.bV - 1:=cU aa;have m:∀(i:Nat) x,u.aE[i]?=some x->bZ x.aV 0 (u.bV - 1)=true/\bZ x.high 0 60=true:=by
  intro i x b;have:=p i x b;unfold gY at this;rw[hw] at this;revert this;cases bZ x.aV 0 (u.bV - 1)<;>cases bZ x.high 0 60<;>intro h<;>first|exact ⟨rfl,rfl⟩|cases h
 refine ⟨H,I,J,K,aa,fun i x b=>⟨eW.1 (m i x b).1,eW.1 (m i x b).2⟩,fun i x y b n=>?_,aa,fun i x b=>?_,aa,fun i x b=>?_,aa,fun i x b=>?_⟩
 .have:=p (i+1) y n;rw[Nat.zero_add] at this;unfold gY at this;rw[hw,(m _ _ n).1,(m _ _ n).2] at this;simp only[cond_true,b] at this;cases hd:decide (y.aV<=x.aV) with
  |true=>rw[hd] at this;cases this
  |false=>have:=of_decide_eq_false hd;omega
 .have:=B i x b;unfold iP at this;revert this;rw[(q x.place).1];cases f x.place<;>cases hb:bZ x.dS 1 20<;>intro h<;>first|exact ⟨rfl,eW.1 hb⟩|cases h
 .have:=D i x b;unfold iQ at this;cases c:bZ x.back 1 20 with
  |false=>rw[c] at this;cases this
  |true=>
   cases e:lE x.high 0 60 with
   |false=>rw[c,e] at this;cases this
   |true=>
    rw[c,e] at this;unfold lE at e;simp only[Bool.and_eq_true,decide_eq_true_eq] at e;refine ⟨eW.1 c,e.1,e.2.1,e.2.2,?_⟩;cases hd:decide (3<=IntKind.i64.wrap (x.high.high - x.high.low)) with
    |true=>rw[hd] at this;cases this
    |false=>
     have L:=of_decide_eq_false hd;rw[cU aa] at L;omega
 .have:=F i x b;unfold jN at this;cases c:iR u x.aY with
  |false=>rw[c] at this;cases this
  |true=>
   unfold iR at c;rw[cU aa] at c;have:=eW.1 c;omega
theorem yN (g:Nat)(hg:0<g)(n:Int)(d:Nat):bX ((g:Int)*n) (g*d)=bX n d:=by
 unfold bX;have e1:((g:Int)*n).natAbs=g*n.natAbs:=by rw[Int.natAbs_mul,Int.natAbs_natCast]
 rw[e1,Nat.gcd_mul_left];have a:(0:Int)<(g:Int):=aa;congr 1
 .rw[Int.natCast_mul,Int.mul_tdiv_mul_of_pos _ _ a]
 .rw[Int.natCast_mul,Int.natCast_mul,Int.mul_tdiv_mul_of_pos _ _ a]
theorem yO (n:Int)(d:Nat)(hd:0<d):∃g a:Nat,0<g/\0<a/\d=g*a/\n=(g:Int)*(bX n d).num/\(bX n d).den=(a:Int):=by
 have hg:0<Nat.gcd n.natAbs d:=Nat.gcd_pos_of_pos_right _ hd;obtain ⟨a,b⟩:=Nat.gcd_dvd_right n.natAbs d;refine ⟨Nat.gcd n.natAbs d,a,hg,?_,b,?_,?_⟩
 .rcases Nat.eq_zero_or_pos a with h|h
  .rw[h,Nat.mul_zero] at b;omega
  .exact h
 .have c:((Nat.gcd n.natAbs d:Nat):Int) ∣ n:=Int.ofNat_dvd_left.2 (Nat.gcd_dvd_left _ _);unfold bX;exact (Int.mul_tdiv_cancel' c).symm
 .have:(d:Int)=((Nat.gcd n.natAbs d:Nat):Int)*(a:Int):=by rw[<-Int.natCast_mul];exact congrArg _ b
  show (d:Int).tdiv ((Nat.gcd n.natAbs d:Nat):Int)=_;have e:((Nat.gcd n.natAbs d:Nat):Int)≠0:=aa
  calc (d:Int).tdiv ((Nat.gcd n.natAbs d:Nat):Int)=(((Nat.gcd n.natAbs d:Nat):Int)*(a:Int)).tdiv ((Nat.gcd n.natAbs d:Nat):Int):=congrArg (fun z=>Int.tdiv z _) this
   _=(a:Int):=Int.mul_tdiv_cancel_left _ e
theorem dX {x y:Int}{A B:Nat}(a:x.natAbs<=A)(b:y.natAbs<=B):(x*y).natAbs<=A*B:=by
 rw[Int.natAbs_mul];exact Nat.mul_le_mul a b
theorem eN {n:Int}(h:n.natAbs<=9000000000000000000):IntKind.i64.wrap n=n:=cU aa
structure Sm (r:ax)(A B:Nat):Prop where
 num:r.num.natAbs<=A
 den:0<r.den/\r.den<=B
theorem uY {a b:ax}{A B C D:Nat}(c:Sm a A B)(hb:Sm b C D)(h:A*D+C*B<=900000000000000000)(hd:B*D<=800000000000000000):
  kg a b=some (bX (a.num*b.den+b.num*a.den) (a.den*b.den).toNat):=by
 have d:=dX c.num (show b.den.natAbs<=D by have:=hb.den;omega)
 have f:=dX hb.num (show a.den.natAbs<=B by have:=c.den;omega)
 have g:=dX (show a.den.natAbs<=B by have:=c.den;omega) (show b.den.natAbs<=D by have:=hb.den;omega)
 have i:0<a.den*b.den:=Int.mul_pos c.den.1 hb.den.1
 unfold kg
 rw[eN (n:=a.num*b.den) aa,eN (n:=b.num*a.den) aa,eN (n:=a.den*b.den) aa,eN aa]
 have e:a.den*b.den=(((a.den*b.den).toNat:Nat):Int):=aa
 have:=rU (a.num*b.den+b.num*a.den) (a.den*b.den).toNat aa aa aa
 rw[<-e] at this
 rw[this]
 rfl
theorem yP {a b:ax}{A B C D:Nat}(c:Sm a A B)(hb:Sm b C D)(h:A*D+C*B<=900000000000000000)(hd:B*D<=800000000000000000):
  jg a b=some (bX (a.num*b.den - b.num*a.den) (a.den*b.den).toNat):=by
 have d:=dX c.num (show b.den.natAbs<=D by have:=hb.den;omega)
 have f:=dX hb.num (show a.den.natAbs<=B by have:=c.den;omega)
 have g:=dX (show a.den.natAbs<=B by have:=c.den;omega) (show b.den.natAbs<=D by have:=hb.den;omega)
 have i:0<a.den*b.den:=Int.mul_pos c.den.1 hb.den.1
 unfold jg
 rw[eN (n:=a.num*b.den) aa,eN (n:=b.num*a.den) aa,eN (n:=a.den*b.den) aa,eN aa]
 have e:a.den*b.den=(((a.den*b.den).toNat:Nat):Int):=aa
 have:=rV (a.num*b.den - b.num*a.den) (a.den*b.den).toNat aa aa aa
 rw[<-e] at this
 rw[this]
 rfl
theorem yQ {a b:ax}{A B C D:Nat}(c:Sm a A B)(hb:Sm b C D)(h:A*D+C*B<=900000000000000000)(hd:B*D<=800000000000000000)(hC:C<=9000000000000000000):
  ki a b=some (bX (a.num*b.den - b.num*a.den) (a.den*b.den).toNat):=by
 unfold ki
 have e:=hb.num
 rw[eN aa]
 have d:Sm (⟨0 - b.num,b.den⟩:ax) C D:=⟨by show (0 - b.num).natAbs<=C;omega,hb.den⟩
 rw[uY c d h hd]
 show some (bX (a.num*b.den+(0 - b.num)*a.den) (a.den*b.den).toNat)=_
 rw[show a.num*b.den+(0 - b.num)*a.den=a.num*b.den - b.num*a.den by rw[Int.zero_sub,Int.neg_mul];omega]
def uZ (x y:cv)(p:Int):Option ax:=
 jf (IntKind.i64.wrap ((IntKind.i64.wrap (x.high*(IntKind.i64.wrap (y.aV - x.aV))))+(IntKind.i64.wrap ((IntKind.i64.wrap (y.high - x.high))*(IntKind.i64.wrap (p - x.aV)))))) (IntKind.i64.wrap (y.aV - x.aV))
theorem rX {α:Type}{l:List α}{i:Nat}{x:α}(h:l[i]?=some x):bD l (i:Int)=some x:=by unfold bD;rw[if_pos aa,Int.toNat_natCast,h]
theorem CB (i:Nat)(h:i<1000):IntKind.i64.wrap ((i:Int)+1)=((i+1:Nat):Int):=by rw[cU aa];omega
theorem piece (u:an)(p:Int)(f:u.aE.length<=5)(z:cv)(b:u.aE[u.aE.length - 1]?=some z)(g:p<=z.aV):∀(m i n:Nat) (x y:cv),i+1+m=u.aE.length - 1->m<n->u.aE[i]?=some x->u.aE[i+1]?=some y->
  ∃(k:Nat) (x y:cv),i<=k/\u.aE[k]?=some x/\u.aE[k+1]?=some y/\p<=y.aV/\(k=i\/x.aV<p)/\bp (oV u p) n ((i+1:Nat):Int)=some (.nx ((k+1:Nat):Int))/\
   bp (pK u p) n (i:Int)=ai (uZ x y p) fun r=>some (.rt r)
 |m,i,n+1,x,y,t,v,e,a=>by
  have w:i+1<u.aE.length:=(List.getElem?_eq_some_iff.1 a).1
  have d1:decide (((i+1:Nat):Int)<(u.aE.length:Int))=true:=decide_eq_true aa
  unfold bp oV pK
  rw[CB i aa,CB (i+1) aa,rX e,rX a,d1]
  simp only[ai,cond_true]
  by_cases hc:y.aV<p
  .have e1:decide (y.aV<p)=true:=decide_eq_true hc
   have e2:decide (p<=y.aV)=false:=decide_eq_false aa
   rw[e1,e2]
   simp only[cond_true,cond_false]
   cases m with
   |zero=>
    have:u.aE.length - 1=i+1:=aa
    rw[this,a] at b
    cases b
    omega
   |succ m=>
    have h:i+1+1<u.aE.length:=aa
    obtain ⟨k,j,y',A,c,l,o,d,q,s⟩:=piece u p f z b g m (i+1) n y (u.aE[i+1+1]) aa aa a (List.getElem?_eq_getElem h)
    refine ⟨k,j,y',aa,c,l,o,?_,q,s⟩
    rcases d with rfl|d
    .rw[a] at c;cases c;exact .inr hc
    .exact .inr d
  .have e1:decide (y.aV<p)=false:=decide_eq_false hc
   have e2:decide (p<=y.aV)=true:=decide_eq_true aa
   rw[e1,e2]
   refine ⟨i,x,y,Nat.le_refl _,e,a,aa,.inl rfl,rfl,?_⟩
   simp only[cond_true]
   unfold uZ
   cases jf _ _<;>rfl
theorem jO (n:Int)(d:Nat)(hd:0<d):Sm (bX n d) n.natAbs d:=by
 obtain ⟨g,a,hg,c,e1,e2,b⟩:=yO n d hd;refine ⟨?_,?_⟩
 .have:n.natAbs=g*(bX n d).num.natAbs:=by
   have:=congrArg Int.natAbs e2
   rwa [Int.natAbs_mul,Int.natAbs_natCast] at this
  rw[this];exact Nat.le_mul_of_pos_left _ hg
 .rw[b];have:a<=d:=by rw[e1];exact Nat.le_mul_of_pos_left _ hg
  omega
theorem CC (h:Int)(n:Int)(d:Nat)(hd:0<d):bX (h*(bX n d).den+(bX n d).num) ((bX n d).den).toNat=bX (h*d+n) d:=by
 obtain ⟨g,a,hg,f,e1,e2,b⟩:=yO n d hd;have k1:h*(d:Int)+n=(g:Int)*(h*(a:Int)+(bX n d).num):=by
  rw[Int.mul_add,<-e2,e1,Int.natCast_mul,Int.mul_left_comm]
 rw[b];have c:((a:Nat):Int).toNat=a:=Int.toNat_natCast a;rw[c,k1];have e:bX ((g:Int)*(h*(a:Int)+(bX n d).num)) d=bX ((g:Int)*(h*(a:Int)+(bX n d).num)) (g*a):=congrArg _ e1;rw[e,yN g hg]
theorem Jp (u:an)(F:Fit u)(p:Int)(a z:cv)(g:u.aE[0]?=some a)(j:u.aE[u.aE.length - 1]?=some z)(l:a.aV<=p)(m:p<=z.aV):
  ∃r,jK u p=some r/\n7 u p=some r/\Sm r 7200 60/\∃(k:Nat) (x y:cv) (d:Nat),u.aE[k]?=some x/\u.aE[k+1]?=some y/\x.aV<=p/\p<=y.aV/\y.aV - x.aV=d/\0<d/\r=bX (x.high*d+(y.high - x.high)*(p - x.aV)) d:=by
 have o:=F.aE
 obtain ⟨k,x,y,-,b,e,q,h,t,v⟩:=piece u p o.2 z j m (u.aE.length - 2) 0 fu a (u.aE[1]'aa) aa (Nat.lt_of_le_of_lt (show u.aE.length - 2<=5 by omega) aB) g (List.getElem?_eq_getElem _)
 have H:k+1<u.aE.length:=(List.getElem?_eq_some_iff.1 e).1
 have I:=F.kG k x b
 have J:=F.kG (k+1) y e
 have K:=F.uW k x y b e
 have hc:=F.bV
 have w:x.aV<=p:=by
  rcases h with rfl|h
  .rw[g] at b;cases b;exact l
  .omega
 have A:IntKind.i64.wrap (((k+1:Nat):Int) - 1)=(k:Int):=by rw[cU aa];omega
 have w1:IntKind.i64.wrap (y.high - x.high)=y.high - x.high:=cU aa
 have w2:IntKind.i64.wrap (p - x.aV)=p - x.aV:=cU aa
 have w3:IntKind.i64.wrap (y.aV - x.aV)=y.aV - x.aV:=cU aa
 have B:((y.high - x.high)*(p - x.aV)).natAbs<=60*60:=dX aa aa
 have i:(x.high*(y.aV - x.aV)).natAbs<=60*60:=dX aa aa
 obtain ⟨d,hd⟩:∃d:Nat,y.aV - x.aV=d:=⟨(y.aV - x.aV).toNat,aa⟩
 generalize f:(y.high - x.high)*(p - x.aV)=n at B
 have c:0<d:=aa
 have L:d<=60:=aa
 have s1:=jO n d c
 have C:Sm (bX n d) 3600 60:=⟨Nat.le_trans s1.num aa,s1.den.1,by have:=s1.den.2;omega⟩
 have D:Sm (⟨x.high,1⟩:ax) 60 1:=⟨by show x.high.natAbs<=60;omega,by show (0:Int)<1;omega,by show (1:Int)<=((1:Nat):Int);omega⟩
 refine ⟨bX (x.high*d+n) d,?_,?_,?_,k,x,y,d,b,e,w,q,hd,c,by rw[f]⟩
 .unfold jK
  have E:bp (oV u p) fu 1=some (.nx ((k+1:Nat):Int)):=t
  rw[E]
  simp only[ai,aJ]
  rw[A,rX b,rX e]
  simp only[gA]
  rw[w1,w2,w3,f,hd,eN aa,rU n d aa c aa]
  simp only
  rw[uY D C aa aa]
  show some (bX (x.high*(bX n d).den+(bX n d).num*1) (1*(bX n d).den).toNat)=_
  rw[Int.mul_one,Int.one_mul,CC x.high n d c]
 .unfold n7
  have G:bp (pK u p) fu 0=ai (uZ x y p) fun r=>some (.rt r):=v
  rw[G]
  unfold uZ
  rw[w1,w2,w3,eN (n:=x.high*(y.aV - x.aV)) aa,f,eN (n:=n) aa,hd]
  rw[hd] at i
  rw[eN (n:=x.high*(d:Int)+n) aa,rV (x.high*d+n) d aa c aa]
  rfl
 .have s:=jO (x.high*d+n) d c
  rw[hd] at i
  exact ⟨Nat.le_trans s.num aa,s.den.1,by have:=s.den.2;omega⟩
theorem Jq (u:an)(F:Fit u)(p:Int)(a z:cv)(b:u.aE[0]?=some a)(c:u.aE[u.aE.length - 1]?=some z)(d:a.aV<=p)(e:p<=z.aV):
  ∃r,jK u p=some r/\n7 u p=some r/\Sm r 7200 60:=by
 obtain ⟨r,f,g,h,-⟩:=Jp u F p a z b c d e
 exact ⟨r,f,g,h⟩
def CD:an:=⟨0,0,(⟨0,0⟩:ax),([]:List cv),([]:List cF),([]:List cq),([]:List bM)⟩
theorem yR {u:an}{f:an->Option Int}{x:Int}(h:fe u=some 0)(a:f u=some x):fO u [f]=some (cond (x != 0) (CD,x) (u,0)):=by
 unfold fO;rw[h];simp only[ai,bne_self_eq_false,cond_false];unfold bR uu;simp only[a,ai];cases (x != 0)<;>rfl
theorem Jr (u:an)(F:Fit u)(p:Int):∃a z,u.aE[0]?=some a/\u.aE[u.aE.length - 1]?=some z/\gR u p=some (bZ p a.aV z.aV)/\nO u p=some (bZ p a.aV z.aV):=by
 have d:=F.aE;have b:u.aE[0]?=some (u.aE[0]'aa):=List.getElem?_eq_getElem _;have c:u.aE[u.aE.length - 1]?=some (u.aE[u.aE.length - 1]'aa):=List.getElem?_eq_getElem _;have hw:IntKind.i64.wrap ((u.aE.length:Int) - 1)=((u.aE.length - 1:Nat):Int):=by rw[cU aa];omega
 refine ⟨_,_,b,c,?_⟩;have k:gR u p=some (bZ p (u.aE[0]'aa).aV (u.aE[u.aE.length - 1]'aa).aV):=by
  unfold gR;have e0:bD u.aE 0=some (u.aE[0]'aa):=b;rw[hw,e0,rX c,kF];simp only[ai,fI]
 exact ⟨k,k⟩
theorem Js {n m:Int}{d e:Nat}(hd:0<d)(he:0<e)(h:n*(e:Int)=m*(d:Int)):bX n d=bX m e:=by
 have a:=yN e he n d;have b:=yN d hd m e;rw[<-a,<-b];have e1:(e:Int)*n=(d:Int)*m:=by rw[Int.mul_comm,h,Int.mul_comm]
 rw[e1,Nat.mul_comm e d]
theorem CE (n:Int)(d:Nat)(hd:0<d):(bX n d).num*(d:Int)=n*(bX n d).den/\0<(bX n d).den:=by
 obtain ⟨g,a,hg,c,e1,e2,b⟩:=yO n d hd;refine ⟨?_,by rw[b];omega⟩;rw[b];have k1:(d:Int)=(g:Int)*(a:Int):=by rw[<-Int.natCast_mul];exact congrArg _ e1
 calc (bX n d).num*(d:Int)=(bX n d).num*((g:Int)*(a:Int)):=by rw[<-k1]
  _=((g:Int)*(bX n d).num)*(a:Int):=by rw[<-Int.mul_assoc,Int.mul_comm (bX n d).num]
  _=n*(a:Int):=by rw[<-e2]
theorem lF {a b:ax}{A B C D:Nat}(c:Sm a A B)(hb:Sm b C D)(h:A*D<=9000000000000000000)(d:C*B<=9000000000000000000):iq a b=some (decide (a.num*b.den<b.num*a.den))/\eV a b=some (decide (a.num*b.den<b.num*a.den)):=by
 have e:=dX c.num (show b.den.natAbs<=D by have:=hb.den;omega);have f:=dX hb.num (show a.den.natAbs<=B by have:=c.den;omega);have k:iq a b=some (decide (a.num*b.den<b.num*a.den)):=by
  unfold iq;rw[eN (n:=a.num*b.den) aa,eN (n:=b.num*a.den) aa]
 exact ⟨k,k⟩
theorem Jt {h md a d e b f c N:Int}(g:d*b=N*md)(i:e*f=c*a):(h*(md*a)+d*e)*(b*f)=(h*b*f+N*c)*(md*a):=by
 grind
theorem CF (u:an)(F:Fit u)(s:bA)(hs:(1<=s.back/\s.back<=20)/\0<=s.high/\s.high<=60)(at_:Int)(aV:Int)(E:0<=aV/\aV<=60)(e:ax)(he:Sm e 10000 100):
  ∃c,lg u s at_ ⟨aV,e⟩=some ⟨⟨aV,e⟩,at_,c⟩/\lA u s aV e=some c/\c=bX (s.high*e.den*(aV+s.back)+(e.num - s.high*e.den)*(u.bV+s.back)) (e.den*(aV+s.back)).toNat:=by
 have hc:=F.bV
 have w1:IntKind.i64.wrap (u.bV+s.back)=u.bV+s.back:=cU aa
 have w2:IntKind.i64.wrap (aV+s.back)=aV+s.back:=cU aa
 obtain ⟨f,b⟩:∃f:Nat,aV+s.back=f:=⟨(aV+s.back).toNat,aa⟩
 have d:0<f:=aa
 have G:f<=80:=aa
 generalize m:u.bV+s.back=c at*
 have o:c.natAbs<=80:=aa
 have p:Sm (⟨s.high,1⟩:ax) 60 1:=⟨by show s.high.natAbs<=60;omega,by show (0:Int)<1;omega,by show (1:Int)<=((1:Nat):Int);omega⟩
 obtain ⟨a,j⟩:∃n:Nat,e.den=n:=⟨e.den.toNat,by have:=he.den;omega⟩
 have g:0<a:=by have:=he.den;omega
 have H:a<=100:=by have:=he.den;omega
 have y:(s.high*e.den).natAbs<=60*100:=dX aa aa
 have b2:(e.num - s.high*e.den).natAbs<=16000:=by have:=he.num;omega
 have q:=yQ he p aa aa aa
 have e1:e.num*(1:Int) - s.high*e.den=e.num - s.high*e.den:=by rw[Int.mul_one]
 have e2:(e.den*(1:Int)).toNat=a:=by rw[Int.mul_one,j,Int.toNat_natCast]
 rw[show ((⟨s.high,1⟩:ax).den)=(1:Int) from rfl,show ((⟨s.high,1⟩:ax).num)=s.high from rfl,e1,e2] at q
 generalize z:e.num - s.high*e.den=N at*
 have sm:=jO N a g
 have r:=jO c f d
 have t:=CE N a g
 have vs:=CE c f d
 have I:((bX N a).num*(bX c f).num).natAbs<=16000*80:=dX (Nat.le_trans sm.num b2) (Nat.le_trans r.num o)
 have J:((bX N a).den*(bX c f).den).natAbs<=100*80:=dX (by have:=sm.den;omega) (by have:=r.den;omega)
 have K:0<(bX N a).den*(bX c f).den:=Int.mul_pos t.2 vs.2
 obtain ⟨M,hM⟩:∃M:Nat,(bX N a).den*(bX c f).den=M:=⟨((bX N a).den*(bX c f).den).toNat,aa⟩
 have h:0<M:=aa
 have A:=rU c f aa d aa
 have B:=rU ((bX N a).num*(bX c f).num) M aa h aa
 have sq:=jO ((bX N a).num*(bX c f).num) M h
 have C:Sm (bX ((bX N a).num*(bX c f).num) M) 1280000 8000:=⟨Nat.le_trans sq.num aa,sq.den.1,by have:=sq.den.2;omega⟩
 have v:=uY p C aa aa
 have D:s.high*(bX ((bX N a).num*(bX c f).num) M).den+(bX ((bX N a).num*(bX c f).num) M).num*1=s.high*(bX ((bX N a).num*(bX c f).num) M).den+(bX ((bX N a).num*(bX c f).num) M).num:=by rw[Int.mul_one]
 rw[show ((⟨s.high,1⟩:ax).den)=(1:Int) from rfl,show ((⟨s.high,1⟩:ax).num)=s.high from rfl,D,Int.one_mul,CC s.high _ M h] at v
 have k:e.den*(aV+s.back)=((a*f:Nat):Int):=by rw[j,b,Int.natCast_mul]
 have i:(e.den*(aV+s.back)).toNat=a*f:=by rw[k,Int.toNat_natCast]
 have w:bX (s.high*(M:Int)+(bX N a).num*(bX c f).num) M=bX (s.high*e.den*(aV+s.back)+N*c) (a*f):=by
  refine Js h (Nat.mul_pos g d) ?_
  rw[Int.natCast_mul,<-hM,b,j]
  exact Jt (by rw[t.1]) (by rw[vs.1])
 refine ⟨_,?_,?_,rfl⟩
 .unfold lg
  have l:IntKind.i64.wrap (f:Int)=f:=cU aa
  simp only[gA,ai,q,m,w1,b,l,A]
  rw[eN aa,eN (n:=(bX N a).den*(bX c f).den) aa,hM,B]
  simp only[v]
  rw[b] at i w
  rw[i,w]
 .unfold lA
  have l:IntKind.i64.wrap (f:Int)=f:=cU aa
  have L:(s.high*e.den*(f:Int)).natAbs<=6000*80:=dX y aa
  have p2:(N*c).natAbs<=16000*80:=dX b2 o
  have p3:(e.den*(f:Int)).natAbs<=100*80:=dX aa aa
  simp only[m,w1,b,l]
  rw[eN (n:=s.high*e.den) aa,z,eN (n:=N) aa,eN (n:=s.high*e.den*(f:Int)) aa,eN (n:=N*c) aa,eN (n:=s.high*e.den*(f:Int)+N*c) aa,eN (n:=e.den*(f:Int)) aa]
  rw[b] at k i
  have x:=rV (s.high*e.den*(f:Int)+N*c) (a*f) aa (Nat.mul_pos g d) aa
  rw[i]
  rw[<-k] at x
  rw[x]
  rfl
theorem Ju (s:bA)(u:an):fy s u=yG s:=rfl
def yS (s:bA):Int:=cond (bZ s.back 1 20) (cond (bZ s.high 0 60) 0 1) 1
theorem Jv (s:bA):yG s=some (yS s):=by
 unfold yG yS;simp only[fI,ai];cases bZ s.back 1 20<;>cases bZ s.high 0 60<;>rfl
def ez (u:an)(s:bA)(x:cv):ax:=bX (s.high*1*(x.aV+s.back)+(x.high - s.high*1)*(u.bV+s.back)) (1*(x.aV+s.back)).toNat
theorem CG (u:an)(F:Fit u)(s:bA)(hs:(1<=s.back/\s.back<=20)/\0<=s.high/\s.high<=60)(i:Nat)(x:cv)(a:u.aE[i]?=some x)(at_:Int):
  lg u s at_ ⟨x.aV,⟨x.high,1⟩⟩=some ⟨⟨x.aV,⟨x.high,1⟩⟩,at_,ez u s x⟩/\lA u s x.aV ⟨x.high,1⟩=some (ez u s x):=by
 have p:=F.kG i x a
 have hc:=F.bV
 have he:Sm (⟨x.high,1⟩:ax) 10000 100:=⟨by show x.high.natAbs<=10000;omega,by show (0:Int)<1;omega,by show (1:Int)<=((100:Nat):Int);omega⟩
 obtain ⟨c,b,d,e⟩:=CF u F s hs at_ x.aV aa ⟨x.high,1⟩ he
 have:c=ez u s x:=e
 subst this
 exact ⟨b,d⟩
theorem CH (u:an)(F:Fit u)(s:bA)(hs:(1<=s.back/\s.back<=20)/\0<=s.high/\s.high<=60)(i:Nat)(x:cv)(a:u.aE[i]?=some x):Sm (ez u s x) 10000 100:=by
 have p:=F.kG i x a;have hc:=F.bV;unfold ez;rw[Int.mul_one,Int.one_mul];have b:(s.high*(x.aV+s.back)).natAbs<=60*79:=dX aa aa;have b2:((x.high - s.high)*(u.bV+s.back)).natAbs<=60*80:=dX aa aa;have h:=jO (s.high*(x.aV+s.back)+(x.high - s.high)*(u.bV+s.back)) (x.aV+s.back).toNat aa;exact ⟨Nat.le_trans h.num aa,h.den.1,by have:=h.den.2;omega⟩
def foldI {α σ:Type}(g:Nat->α->σ->σ):Nat->List α->σ->σ
 |_,[],s=>s
 |i,x::l,s=>foldI g (i+1) l (g i x s)
theorem iS {α σ ρ:Type}{f:Nat->α->σ->Option (Fl σ ρ)}{g:Nat->α->σ->σ}{I:Nat->σ->Prop}:∀(l:List α) (i:Nat) (s:σ),I i s->(∀j x s,l[j]?=some x->I (i+j) s->f (i+j) x s=some (.nx (g (i+j) x s))/\I (i+j+1) (g (i+j) x s))->
  bR f i l s=some (.nx (foldI g i l s))/\I (i+l.length) (foldI g i l s)
 |[],i,s,hs,_=>⟨rfl,hs⟩
 |x::l,i,s,hs,h=>by
  obtain ⟨a,b⟩:=h 0 x s rfl hs
  simp only[Nat.add_zero] at a b
  unfold bR foldI
  rw[a]
  have:=iS l (i+1) _ b fun j y s c hs=>by
   have:=h (j+1) y s (by simpa using c) (by rwa [show i+(j+1)=i+1+j by omega])
   rwa [show i+(j+1)=i+1+j by omega] at this
  rwa [show i+1+l.length=i+(x::l).length by simp;omega] at this
theorem CI {α σ τ ρ:Type}{f:τ->Option (Fl τ ρ)}{g:Nat->α->σ->σ}{I:Nat->σ->Prop}(e:σ->Int->τ)(l:List α)(h:∀(i:Nat) x s,l[i]?=some x->I i s->f (e s (i:Int))=some (.nx (e (g i x s) ((i+1:Nat):Int)))/\I (i+1) (g i x s))(a:∀s,f (e s (l.length:Int))=some (.bk (e s (l.length:Int)))):
  ∀(k i n:Nat) (s:σ),I i s->i+k=l.length->k<n->bp f n (e s (i:Int))=some (.nx (e (foldI g i (l.drop i) s) (l.length:Int)))/\I l.length (foldI g i (l.drop i) s)
 |0,i,n+1,s,hs,hi,_=>by
  obtain rfl:i=l.length:=aa
  unfold bp
  rw[a,List.drop_length]
  exact ⟨rfl,hs⟩
 |k+1,i,n+1,s,hs,hi,m=>by
  have b:i<l.length:=aa
  have c:l[i]?=some l[i]:=List.getElem?_eq_getElem b
  obtain ⟨d,j⟩:=h i _ s c hs
  unfold bp
  rw[d,List.drop_eq_getElem_cons b]
  unfold foldI
  exact CI e l h a k (i+1) n _ j aa aa
theorem mE {α σ τ ρ:Type}{f:τ->Option (Fl τ ρ)}{g:Nat->α->σ->σ}{I:Nat->σ->Prop}(e:σ->Int->τ)(l:List α)(a:l.length<=1000)(h:∀(i:Nat) x s,l[i]?=some x->I i s->f (e s (i:Int))=some (.nx (e (g i x s) ((i+1:Nat):Int)))/\I (i+1) (g i x s))(b:∀s,f (e s (l.length:Int))=some (.bk (e s (l.length:Int))))(s:σ)(hs:I 0 s):
  bp f fu (e s 0)=some (.nx (e (foldI g 0 l s) (l.length:Int)))/\I l.length (foldI g 0 l s):=by
 have:=CI e l h b l.length 0 fu s hs aa (Nat.lt_of_le_of_lt a aB)
 simpa using this
theorem CJ {α σ:Type}{g g':Nat->α->σ->σ}:∀(l:List α) (i:Nat) (s:σ),(∀j x s,i<=j->g j x s=g' j x s)->foldI g i l s=foldI g' i l s
 |[],_,_,_=>rfl
 |x::l,i,s,h=>by
  unfold foldI
  rw[h i x s (Nat.le_refl _)]
  exact CJ l (i+1) _ fun j x s a=>h j x s aa
def bQ (a b:ax):Bool:=decide (a.num*b.den<b.num*a.den)
abbrev SR (r:ax):Prop:=Sm r 2000000 8000
theorem Sm.mono {r:ax}{A B a b:Nat}(h:Sm r A B)(c:A<=a)(hb:B<=b):Sm r a b:=⟨Nat.le_trans h.num c,h.den.1,by have:=h.den.2;omega⟩
theorem u5 (u:an)(F:Fit u)(s:bA)(hs:(1<=s.back/\s.back<=20)/\0<=s.high/\s.high<=60)(i:Nat)(x:cv)(a:u.aE[i]?=some x):SR (ez u s x):=(CH u F s hs i x a).mono aB aB
theorem lG {a b:ax}(c:SR a)(hb:SR b):iq a b=some (bQ a b)/\eV a b=some (bQ a b):=lF c hb aB aB
def gB (u:an)(s:bA)(i:Nat)(x:cv)(st:Int×ax):Int×ax:=cond (bQ st.2 (ez u s x)) ((i:Int),ez u s x) st
def jh (u:an)(s:bA)(i:Nat)(x:cv):bN:=⟨⟨x.aV,⟨x.high,1⟩⟩,(i:Int),ez u s x⟩
def gb (u:an)(s:bA):Nat->List cv->List bN
 |_,[]=>[]
 |i,x::l=>jh u s i x::gb u s (i+1) l
theorem CK (u:an)(s:bA):∀(l:List cv) (i:Nat) (a:List bN),foldI (fun i x st=>st++[jh u s i x]) i l a=a++gb u s i l
 |[],i,a=>by simp[foldI,gb]
 |x::l,i,a=>by simp[foldI,gb,CK u s l (i+1)]
def gC (i:Nat)(x:bN)(st:bN):bN:=cond (bQ st.high x.high) x st
theorem CL (u:an)(s:bA):∀(l:List cv) (i j:Nat) (c:bN),let r:=foldI gC j (gb u s i l) c;(r.at_,r.high)=foldI (gB u s) i l (c.at_,c.high)
 |[],i,j,c=>rfl
 |x::l,i,j,c=>by
  simp only[gb,foldI]
  have:=CL u s l (i+1) (j+1) (gC j (jh u s i x) c)
  simp only at this
  rw[this]
  congr 1
  unfold gC gB jh
  cases bQ c.high (ez u s x)<;>rfl
theorem u6 (n:Int):gA n=some ⟨n,1⟩:=rfl
def ef (u:an)(s:bA):Int×ax:=match u.aE with
 |[]=>(0,⟨0,0⟩)
 |x::l=>foldI (gB u s) 1 l (0,ez u s x)
section
variable {u:an}{s:bA}(F:Fit u)(hs:(1<=s.back/\s.back<=20)/\0<=s.high/\s.high<=60)
include F hs
theorem Jw:bR (oU u s) 0 u.aE ([]:List bN)=some (.nx (gb u s 0 u.aE)):=by
 have c:=F.aE;have:=iS (f:=oU u s) (ρ:=bN) (g:=fun i x st=>st++[jh u s i x]) (I:=fun i st=>st.length=i) u.aE 0 [] rfl (fun j x st a b=>?_)
 .rw[this.1,CK];rfl
 .have d:j<u.aE.length:=(List.getElem?_eq_some_iff.1 a).1;refine ⟨?_,by simp[b]⟩;unfold oU;rw[Nat.zero_add] at b ⊢;simp only[u6,ai,(CG u F s hs j x a (j:Int)).1];unfold de;rw[if_pos (by simp;omega)];rfl
theorem CM:∀(l:List cv) (i:Nat),(∀(j:Nat) x,l[j]?=some x->u.aE[i+j]?=some x)->∀(j:Nat) c,(gb u s i l)[j]?=some c->SR c.high
 |[],_,_,j,c,h=>by simp[gb] at h
 |x::l,i,a,0,c,h=>by
  simp[gb] at h
  subst h
  exact u5 u F s hs i x (a 0 x rfl)
 |x::l,i,a,j+1,c,h=>CM l (i+1) (fun j y b=>by have:=a (j+1) y (by simpa using b);rwa [show i+(j+1)=i+1+j by omega] at this) j c (by simpa [gb] using h)
theorem pR:∃c,mw u s=some c/\(c.at_,c.high)=ef u s/\SR c.high/\pJ u s=some (ef u s):=by
 have b:=F.aE;have o:=Jw F hs;obtain ⟨a,rest,he⟩:∃x l,u.aE=x::l:=by
  cases h:u.aE with
  |nil=>rw[h] at b;simp at b
  |cons x l=>exact ⟨x,l,rfl⟩
 have p:u.aE[0]?=some a:=by rw[he];rfl
 have q:∀(j:Nat) x,rest[j]?=some x->u.aE[1+j]?=some x:=fun j x h=>by rw[he,Nat.add_comm];simpa using h
 have v:rest.length<=4:=by rw[he] at b;simp at b;omega
 have r:SR (ez u s a):=u5 u F s hs 0 a p
 have hg:=iS (f:=q6 jI) (ρ:=bN) (g:=gC) (I:=fun _ c=>SR c.high) (gb u s 1 rest) 0 (jh u s 0 a) r (fun j c st m d=>by
  have hc:=CM F hs rest 1 q j c m;refine ⟨?_,?_⟩
  .unfold q6 jI gC;simp only[(lG d hc).2,ai];cases bQ st.high c.high<;>rfl
  .unfold gC;cases bQ st.high c.high
   .exact d
   .exact hc)
 refine ⟨foldI gC 0 (gb u s 1 rest) (jh u s 0 a),?_,?_,hg.2,?_⟩
 .unfold mw;rw[o,he];simp only[ai,aJ,gb];rw[show bD (jh u s 0 a::gb u s (0+1) rest) 0=some (jh u s 0 a) from rfl];simp only;have:iF (jh u s 0 a::gb u s (0+1) rest) 1 (((jh u s 0 a::gb u s (0+1) rest).length:Nat):Int)=some (gb u s 1 rest):=by
   unfold iF;rw[if_pos (by simp only[List.length_cons];omega)];simp
  rw[this];simp only;unfold nq;rw[hg.1];rfl
 .have:=CL u s rest 1 0 (jh u s 0 a);simp only at this;rw[this];unfold ef;rw[he];rfl
 .unfold pJ;have t:=mE (f:=pI u s) (g:=fun i x st=>if i=0 then ((0:Int),ez u s x) else gB u s i x st) (I:=fun i st=>i=0\/SR st.2) (fun st i=>(st.1,i,st.2)) u.aE aa (fun i x st e d=>?_) (fun st=>?_) ((0:Int),(⟨0,0⟩:ax)) (.inl rfl)
  .rw[t.1,he];simp only[ai,aJ,foldI,if_pos];rw[CJ (g':=gB u s) rest (0+1) _ (fun j x st m=>if_neg aa)];unfold ef;rw[he]
  .have w:i<u.aE.length:=(List.getElem?_eq_some_iff.1 e).1;have hc:=u5 u F s hs i x e;unfold pI;simp only;rw[show decide ((i:Int)<(u.aE.length:Int))=true by simp;omega];simp only[cond_true];rw[show bD u.aE (i:Int)=some x by unfold bD;rw[if_pos aa];simpa using e];simp only[ai,(CG u F s hs i x e 0).2];have hw:IntKind.i64.wrap ((i:Int)+1)=((i+1:Nat):Int):=by rw[cU aa];rfl
   rw[hw];by_cases k:i=0
   .subst k;exact ⟨rfl,.inr hc⟩
   .have n:SR st.2:=d.resolve_left k;rw[show (((i:Nat):Int)==0)=false by simp;omega];simp only[cond_false,(lG n hc).1,if_neg k];unfold gB;cases bQ st.2 (ez u s x)
    .exact ⟨rfl,.inr n⟩
    .exact ⟨rfl,.inr hc⟩
  .unfold pI;simp
end
section
variable {u:an}{s:bA}(F:Fit u)(hs:(1<=s.back/\s.back<=20)/\0<=s.high/\s.high<=60)
include F hs
theorem rY:Sm (⟨u.bU,1⟩:ax) 60 1:=⟨by have:=F.bU;show u.bU.natAbs<=60;omega,by show (0:Int)<1;omega,by show (1:Int)<=((1:Nat):Int);omega⟩
theorem rZ:SR (ef u s).2:=by
 obtain ⟨c,d,a,b,e⟩:=pR F hs;rw[<-a];exact b
theorem CN:∃r,nB u s=some r/\uN u s=some r:=by
 obtain ⟨c,b,d,a,e⟩:=pR F hs;have e2:c.high=(ef u s).2:=by rw[<-d]
 have p:=rY F hs;have f:=yQ p a aB aB aB;have g:=yP p a aB aB;unfold nB uN;rw[b,e];simp only[ai,u6,f,<-e2,g];exact ⟨_,rfl,rfl⟩
end
theorem yT {a b c:ax}(d:0<a.den)(hb:0<b.den)(hc:0<c.den)(e:bQ b a=false)(f:bQ b c=true):bQ c a=false:=by
 unfold bQ at*;simp only[decide_eq_false_iff_not,decide_eq_true_eq,Int.not_lt] at*;have k1:a.num*b.den*c.den<=b.num*a.den*c.den:=Int.mul_le_mul_of_nonneg_right e aa;have h:b.num*c.den*a.den<c.num*b.den*a.den:=Int.mul_lt_mul_of_pos_right f d;have g:b.den*(a.num*c.den)<b.den*(c.num*a.den):=by
  have e1:b.den*(a.num*c.den)=a.num*b.den*c.den:=by grind
  have e2:b.den*(c.num*a.den)=c.num*b.den*a.den:=by grind
  have i:b.num*a.den*c.den=b.num*c.den*a.den:=by grind
  omega
 exact Int.le_of_lt (Int.lt_of_mul_lt_mul_left g aa)
theorem ji (a:ax):bQ a a=false:=by unfold bQ;simp
theorem yU {a b:ax}(h:bQ a b=true):bQ b a=false:=by
 unfold bQ at*;simp only[decide_eq_false_iff_not,decide_eq_true_eq,Int.not_lt] at*;omega
def yV (u:an)(s:bA)(aV:Int)(e:ax):ax:=bX (s.high*e.den*(aV+s.back)+(e.num - s.high*e.den)*(u.bV+s.back)) (e.den*(aV+s.back)).toNat
def eo (u:an)(x:cF):ax:=match jK u x.place with
 |some r=>bX (r.num+x.dS*r.den) r.den.toNat
 |none=>⟨0,0⟩
def e5 (u:an)(s:bA)(x:cF):ax:=yV u s x.place (eo u x)
section
variable {u:an}{s:bA}(F:Fit u)(hs:(1<=s.back/\s.back<=20)/\0<=s.high/\s.high<=60)
include F hs
theorem yW {i:Nat}{x:cF}(t:u.props[i]?=some x):∃r,jK u x.place=some r/\n7 u x.place=some r/\kg r ⟨x.dS,1⟩=some (eo u x)/\
  jf (IntKind.i64.wrap (r.num+IntKind.i64.wrap (x.dS*r.den))) r.den=some (eo u x)/\(∀at_,lg u s at_ ⟨x.place,eo u x⟩=some ⟨⟨x.place,eo u x⟩,at_,e5 u s x⟩)/\lA u s x.place (eo u x)=some (e5 u s x)/\SR (e5 u s x):=by
 obtain ⟨v,p2,p3⟩:=F.prop i x t
 obtain ⟨a,z,j,k,l,H⟩:=Jr u F x.place
 rw[v] at l
 have hb:bZ x.place a.aV z.aV=true:=(Option.some.inj l).symm
 unfold bZ at hb
 simp only[Bool.and_eq_true,decide_eq_true_eq] at hb
 have I:=F.kG _ a j
 have J:=F.kG _ z k
 have hc:=F.bV
 obtain ⟨r,m,w,b⟩:=Jq u F x.place a z j k hb.1 hb.2
 have sh:Sm (⟨x.dS,1⟩:ax) 20 1:=⟨by show x.dS.natAbs<=20;omega,by show (0:Int)<1;omega,by show (1:Int)<=((1:Nat):Int);omega⟩
 have K:(x.dS*r.den).natAbs<=20*60:=dX aa (by have:=b.den;omega)
 obtain ⟨d,hd⟩:∃d:Nat,r.den=d:=⟨r.den.toNat,by have:=b.den;omega⟩
 have o:0<d:=by have:=b.den;omega
 have L:d<=60:=by have:=b.den;omega
 have M:=b.num
 have h:eo u x=bX (r.num+x.dS*r.den) d:=by
  unfold eo
  rw[m]
  simp only
  rw[hd,Int.toNat_natCast]
 have e:Sm (eo u x) 10000 100:=by
  rw[h]
  have:=jO (r.num+x.dS*r.den) d o
  exact ⟨Nat.le_trans this.num aa,this.den.1,by have:=this.den.2;omega⟩
 have y:=uY b sh aB aB
 have p:=rV (r.num+x.dS*r.den) d aa o aa
 have q:∀at_,lg u s at_ ⟨x.place,eo u x⟩=some ⟨⟨x.place,eo u x⟩,at_,e5 u s x⟩/\lA u s x.place (eo u x)=some (e5 u s x):=fun at_=>by
  obtain ⟨c,c1,c2,c3⟩:=CF u F s hs at_ x.place ⟨aa,aa⟩ (eo u x) e
  subst c3
  exact ⟨c1,c2⟩
 refine ⟨r,m,w,?_,?_,fun at_=>(q at_).1,(q 0).2,?_⟩
 .rw[y,h]
  show some (bX (r.num*1+x.dS*r.den) (r.den*1).toNat)=_
  rw[Int.mul_one,Int.mul_one,hd,Int.toNat_natCast]
 .rw[eN (n:=x.dS*r.den) aa,eN aa,h]
  rw[hd] at p ⊢
  exact p
 .unfold e5 yV
  obtain ⟨f,A⟩:∃f:Nat,x.place+s.back=f:=⟨(x.place+s.back).toNat,aa⟩
  obtain ⟨g,B⟩:∃n:Nat,(eo u x).den=n:=⟨(eo u x).den.toNat,by have:=e.den;omega⟩
  have C:0<g:=by have:=e.den;omega
  have D:g<=100:=by have:=e.den;omega
  have N:=e.num
  have E:(s.high*(eo u x).den).natAbs<=60*100:=dX aa aa
  have b2:(s.high*(eo u x).den*(x.place+s.back)).natAbs<=6000*80:=dX E aa
  have b3:(((eo u x).num - s.high*(eo u x).den)*(u.bV+s.back)).natAbs<=16000*80:=dX aa aa
  have G:((eo u x).den*(x.place+s.back)).toNat=g*f:=by rw[B,A,<-Int.natCast_mul,Int.toNat_natCast]
  rw[G]
  have:=jO (s.high*(eo u x).den*(x.place+s.back)+((eo u x).num - s.high*(eo u x).den)*(u.bV+s.back)) (g*f) (Nat.mul_pos C aa)
  have O:g*f<=100*80:=Nat.mul_le_mul D aa
  exact ⟨Nat.le_trans this.num aa,this.den.1,by have:=this.den.2;omega⟩
end
def same (x:cF)(e:ax)(y:bN):Bool:=(y.spot.aV==x.place)&&((y.spot.high.num==e.num)&&(y.spot.high.den==e.den))
def gT (u:an)(s:bA)(i:Nat)(x:cF)(st:List bN):List bN:=cond (st.any (same x (eo u x))) st (st++[⟨⟨x.place,eo u x⟩,(i:Int),e5 u s x⟩])
def cJ (a b:ax):ax:=cond (bQ a b) b a
def gM (u:an)(s:bA)(i:Nat)(x:cF)(b:ax):ax:=if i=0 then e5 u s x else cJ b (e5 u s x)
theorem CO (x:cF)(e:ax):∀(l:List bN) (i:Nat),bR (q7 x e) i l ()=some (cond (l.any (same x e)) (.br 1 ()) (.nx ()):Fl Unit (List bN))
 |[],i=>rfl
 |y::l,i=>by
  unfold bR q7
  rw[show ((y.spot.aV==x.place)&&((y.spot.high.num==e.num)&&(y.spot.high.den==e.den)))=same x e y from rfl,List.any_cons]
  cases same x e y
  .simp only[cond_false,ai,Bool.false_or]
   exact CO x e l (i+1)
  .rfl
theorem r4 {a b:ax}(c:SR a)(hb:SR b):ga a b=some (cJ a b):=by
 unfold ga cJ;simp only[(lG c hb).1,ai];cases bQ a b<;>rfl
theorem lH {a b:ax}(c:SR a)(hb:SR b):SR (cJ a b):=by unfold cJ;cases bQ a b;exact c;exact hb
def u7:List bN->ax
 |[]=>⟨0,0⟩
 |c::l=>(foldI gC 0 l c).high
theorem CP {α σ:Type}{g:Nat->α->σ->σ}:∀(l:List α) (i:Nat) (y:α) (s:σ),foldI g i (l++[y]) s=g (i+l.length) y (foldI g i l s)
 |[],i,y,s=>rfl
 |x::l,i,y,s=>by
  simp only[List.cons_append,foldI,List.length_cons]
  rw[CP l (i+1) y]
  congr 1
  omega
theorem Jx (c:bN)(l:List bN)(y:bN):u7 (c::l++[y])=cJ (u7 (c::l)) y.high:=by
 show (foldI gC 0 (l++[y]) c).high=_;rw[CP];show (cond (bQ (foldI gC 0 l c).high y.high) y (foldI gC 0 l c)).high=cond (bQ (foldI gC 0 l c).high y.high) y.high (foldI gC 0 l c).high;cases bQ (foldI gC 0 l c).high y.high<;>rfl
structure Tp (u:an)(s:bA)(st:List bN)(b:ax):Prop where
 ne:st≠[]
 CQ:b=u7 st
 sm:SR b
 le:∀y∈st,bQ b y.high=false/\SR y.high/\y.high=yV u s y.spot.aV y.spot.high
theorem Tp.step {u:an}{s:bA}{st:List bN}{b:ax}(h:Tp u s st b){x:cF}(hc:SR (e5 u s x))(i:Nat):Tp u s (gT u s i x st) (cJ b (e5 u s x)):=by
 unfold gT;cases k:st.any (same x (eo u x)) with
 |true=>
  simp only[cond_true];obtain ⟨y,a,f⟩:=List.any_eq_true.1 k;have d:=h.le y a;have e:y.high=e5 u s x:=by
   rw[d.2.2];unfold same at f;simp only[Bool.and_eq_true,beq_iff_eq] at f;obtain ⟨e1,e2,g⟩:=f;unfold e5;have:y.spot.high=eo u x:=by
    cases m:y.spot.high;cases n:eo u x;rw[m,n] at e2 g;simp only at e2 g;rw[e2,g]
   rw[e1,this]
  have:cJ b (e5 u s x)=b:=by
   unfold cJ;rw[<-e,d.1];rfl
  rw[this];exact h
 |false=>
  simp only[cond_false];obtain ⟨c,l,rfl⟩:∃c l,st=c::l:=by
   cases st with
   |nil=>exact absurd rfl h.ne
   |cons c l=>exact ⟨c,l,rfl⟩
  refine ⟨au,?_,lH h.sm hc,fun y a=>?_⟩
  .rw[Jx,<-h.CQ]
  .rcases List.mem_append.1 a with a|a
   .have d:=h.le y a;refine ⟨?_,d.2⟩;unfold cJ;cases j:bQ b (e5 u s x) with
    |false=>exact d.1
    |true=>exact yT d.2.1.den.1 h.sm.den.1 hc.den.1 d.1 j
   .simp at a;subst a;refine ⟨?_,hc,rfl⟩;unfold cJ;cases j:bQ b (e5 u s x) with
    |false=>exact j
    |true=>exact ji _
theorem Tp.fold {u:an}{s:bA}:∀(l:List cF) (i:Nat) (st:List bN) (b:ax),1<=i->(∀x∈l,SR (e5 u s x))->Tp u s st b->Tp u s (foldI (gT u s) i l st) (foldI (gM u s) i l b)
 |[],_,_,_,_,_,h=>h
 |x::l,i,st,b,hi,a,h=>by
  unfold foldI
  have e:gM u s i x b=cJ b (e5 u s x):=if_neg aa
  rw[e]
  exact Tp.fold l (i+1) _ _ aa (fun y c=>a y (List.mem_cons_of_mem _ c)) (h.step (a x (List.mem_cons_self ..)) i)
theorem Tp.all {u:an}{s:bA}(x:cF)(l:List cF)(b:∀y∈x::l,SR (e5 u s y)):Tp u s (foldI (gT u s) 0 (x::l) []) (foldI (gM u s) 0 (x::l) ⟨0,0⟩):=by
 unfold foldI;have c:=b x (List.mem_cons_self ..);refine Tp.fold l 1 _ _ (Nat.le_refl _) (fun y a=>b y (List.mem_cons_of_mem _ a)) ⟨by simp[gT],?_,?_,?_⟩
 .simp[gT,gM,u7,foldI]
 .exact c
 .intro y a;simp[gT] at a;subst a;exact ⟨by simp[gM];exact ji _,c,rfl⟩
section
variable {u:an}{s:bA}(F:Fit u)(hs:(1<=s.back/\s.back<=20)/\0<=s.high/\s.high<=60)
include F hs
theorem Jy:∀x∈u.props,SR (e5 u s x):=fun x a=>by
 obtain ⟨i,hi,rfl⟩:=List.getElem_of_mem a
 obtain ⟨r,_,_,_,_,_,_,h⟩:=yW F hs (i:=i) (List.getElem?_eq_getElem hi)
 exact h
theorem Jz:ko u s=some (foldI (gT u s) 0 u.props []):=by
 have h:=F.props;unfold ko
 have:=iS (f:=q8 u s) (ρ:=List bN) (g:=gT u s) (I:=fun i st=>st.length<=i) u.props 0 [] (Nat.le_refl _) (fun j x st a b=>by
  have k:j<u.props.length:=(List.getElem?_eq_some_iff.1 a).1;obtain ⟨r,c,l,d,m,e,n,o⟩:=yW F hs a;rw[Nat.zero_add] at b ⊢;unfold q8;simp only[c,ai,u6,d,CO];unfold gT;cases p:st.any (same x (eo u x)) with
  |true=>exact ⟨rfl,by simp only[cond_true];omega⟩
  |false=>
   simp only[cond_false,aJ,ai,e];unfold de;rw[if_pos (by simp;omega)]
   exact ⟨rfl,by simp;omega⟩)
 rw[this.1];rfl
theorem yX:kE u s=some (foldI (gM u s) 0 u.props ⟨0,0⟩,decide (0<(u.props.length:Int))):=by
 have m:=F.props;unfold kE
 have:=mE (f:=pM u s) (g:=gM u s) (I:=fun i b=>i=0\/SR b) (fun b i=>(i,b)) u.props aa (fun i x b c h=>by
  have n:i<u.props.length:=(List.getElem?_eq_some_iff.1 c).1;obtain ⟨r,o,j,p,k,q,l,a⟩:=yW F hs c;unfold pM;simp only;rw[show decide ((i:Int)<(u.props.length:Int))=true by simp;omega];simp only[cond_true];rw[show bD u.props (i:Int)=some x by unfold bD;rw[if_pos aa];simpa using c];have hw:IntKind.i64.wrap ((i:Int)+1)=((i+1:Nat):Int):=by rw[cU aa];rfl
  simp only[ai,j,k,l,hw];unfold gM;by_cases d:i=0
  .subst d;have e:cJ (e5 u s x) (e5 u s x)=e5 u s x:=by unfold cJ;rw[ji];rfl
   rw[show (((0:Nat):Int)==0)=true from rfl];simp only[cond_true,r4 a a,e,if_pos];exact ⟨trivial,.inr a⟩
  .have hb:SR b:=h.resolve_left d;rw[show (((i:Nat):Int)==0)=false by simp;omega];simp only[cond_false,r4 hb a,if_neg d]
   exact ⟨trivial,.inr (lH hb a)⟩) (fun b=>by unfold pM;simp) (⟨0,0⟩:ax) (.inl rfl)
 rw[this.1];rfl
theorem CR:(u.props=[]/\ko u s=some []/\kE u s=some (⟨0,0⟩,false))\/
  ∃st b,ko u s=some st/\kE u s=some (b,true)/\Tp u s st b:=by
 have a:=Jz F hs
 have c:=yX F hs
 have d:=Jy F hs
 cases e:u.props with
 |nil=>
  rw[e] at a c
  exact .inl ⟨rfl,a,c⟩
 |cons x l=>
  rw[e] at a c d
  refine .inr ⟨_,_,a,?_,Tp.all x l d⟩
  rw[c]
  rw[show decide (0<((x::l).length:Int))=true by simp]
end
theorem pS {a b c:ax}(e:0<a.den)(hb:0<b.den)(hc:0<c.den)(d:bQ a b=false)(f:bQ b c=false):bQ a c=false:=by
 cases h:bQ a c with
 |false=>rfl
 |true=>
  have:=yT hb e hc d h;unfold bQ at*;simp only[decide_eq_false_iff_not,decide_eq_true_eq,Int.not_lt] at*;have k1:b.num*a.den*c.den<=a.num*b.den*c.den:=Int.mul_le_mul_of_nonneg_right d aa;have g:a.num*c.den*b.den<c.num*a.den*b.den:=Int.mul_lt_mul_of_pos_right h hb;have i:c.num*b.den*a.den<=b.num*c.den*a.den:=Int.mul_le_mul_of_nonneg_right f aa;have e1:a.num*b.den*c.den=a.num*c.den*b.den:=by grind
  have e2:c.num*b.den*a.den=c.num*a.den*b.den:=by grind
  have j:b.num*c.den*a.den=b.num*a.den*c.den:=by grind
  omega
theorem JA {a b c:ax}(d:0<a.den)(hb:0<b.den)(hc:0<c.den)(e:bQ a b=true)(f:bQ b c=true):bQ a c=true:=by
 unfold bQ at*;simp only[decide_eq_true_eq] at*;have k1:a.num*b.den*c.den<b.num*a.den*c.den:=Int.mul_lt_mul_of_pos_right e hc;have h:b.num*c.den*a.den<c.num*b.den*a.den:=Int.mul_lt_mul_of_pos_right f d;have g:b.den*(a.num*c.den)<b.den*(c.num*a.den):=by
  have e1:b.den*(a.num*c.den)=a.num*b.den*c.den:=by grind
  have e2:b.den*(c.num*a.den)=c.num*b.den*a.den:=by grind
  have i:b.num*a.den*c.den=b.num*c.den*a.den:=by grind
  omega
 exact Int.lt_of_mul_lt_mul_left g aa
theorem CS {e y:ax}(he:SR e)(a:SR y):∀(l:List bN) (b:ax),(∀x∈l,SR x.high)->SR b->∀(i j:Nat),
  foldI (fun _ (x:bN) st=>cJ st x.high) i l (cJ e b)=cJ e (foldI (fun _ (x:bN) st=>cJ st x.high) j l b)
 |[],b,_,_,i,j=>rfl
 |x::l,b,g,hb,i,j=>by
  unfold foldI
  have c:=g x (List.mem_cons_self ..)
  have key:cJ (cJ e b) x.high=cJ e (cJ b x.high):=by
   unfold cJ
   cases d:bQ e b<;>cases f:bQ b x.high<;>simp only[cond_true,cond_false,d,f]
   .have:=pS he.den.1 hb.den.1 c.den.1 d f
    rw[this];rfl
   .rw[JA he.den.1 hb.den.1 c.den.1 d f]
    rfl
  rw[key]
  exact CS he a l _ (fun y a=>g y (List.mem_cons_of_mem _ a)) (lH hb c) (i+1) (j+1)
theorem CU:∀(l:List bN) (i:Nat) (c:bN),(foldI gC i l c).high=foldI (fun _ (x:bN) st=>cJ st x.high) i l c.high
 |[],_,_=>rfl
 |x::l,i,c=>by
  unfold foldI
  rw[CU l (i+1)]
  congr 1
  unfold gC cJ
  cases bQ c.high x.high<;>rfl
theorem CV {a b:ax}(c:SR a)(hb:SR b):gD eV a [b]=some (cJ a b):=by
 unfold gD bR lp;simp only[(lG c hb).2,ai];unfold cJ;cases bQ a b<;>rfl
theorem JB {f:Nat->bN->ax->Option (Fl ax ax)}(c:f=nC\/f=nD){st:List bN}(d:∀x∈st,SR x.high){e:ax}(he:SR e):
  bR f 0 st e=some (.nx (foldI (fun _ (x:bN) st=>cJ st x.high) 0 st e))/\SR (foldI (fun _ (x:bN) st=>cJ st x.high) 0 st e):=
 iS (I:=fun _ r=>SR r) st 0 e he (fun j x r g a=>by
  have b:=d x (List.mem_of_getElem? g)
  rcases c with rfl|rfl
  .unfold nC
   simp only[CV a b,ai]
   exact ⟨trivial,lH a b⟩
  .unfold nD
   simp only[CV a b,ai]
   exact ⟨trivial,lH a b⟩)
section
variable {u:an}{s:bA}(F:Fit u)(hs:(1<=s.back/\s.back<=20)/\0<=s.high/\s.high<=60)
include F hs
theorem CW {a b:ax}(c:SR a)(hb:SR b):∃d,ki a b=some d/\jg a b=some d/\Sm d 40000000000 64000000:=by
 have e:=yQ c hb aB aB aB;have f:=yP c hb aB aB;refine ⟨_,e,f,?_⟩;have g:=dX c.num (show b.den.natAbs<=8000 by have:=hb.den;omega);have h:=dX hb.num (show a.den.natAbs<=8000 by have:=c.den;omega);have i:=dX (show a.den.natAbs<=8000 by have:=c.den;omega) (show b.den.natAbs<=8000 by have:=hb.den;omega);have j:0<a.den*b.den:=Int.mul_pos c.den.1 hb.den.1;have:=jO (a.num*b.den - b.num*a.den) (a.den*b.den).toNat aa;exact ⟨Nat.le_trans this.num aa,this.den.1,by have:=this.den.2;omega⟩
theorem CX:Sm (⟨0,1⟩:ax) 1 1:=⟨aB,aB,aB⟩
theorem CZ {d:ax}(hd:Sm d 40000000000 64000000):∃m,gD eV d [⟨0,1⟩]=some m/\ga d ⟨0,1⟩=some m/\Sm m 40000000000 64000000:=by
 have a:=lF hd (CX F hs) aB aB;refine ⟨cond (bQ d ⟨0,1⟩) ⟨0,1⟩ d,?_,?_,?_⟩
 .unfold gD bR lp;simp only[a.2,ai];unfold bQ;cases decide (d.num*(⟨0,1⟩:ax).den<(⟨0,1⟩:ax).num*d.den)<;>rfl
 .unfold ga;simp only[a.1,ai];unfold bQ;cases decide (d.num*(⟨0,1⟩:ax).den<(⟨0,1⟩:ax).num*d.den)<;>rfl
 .cases bQ d ⟨0,1⟩
  .exact hd
  .exact (CX F hs).mono aB aB
theorem C0 {f:Nat->bN->ax->Option (Fl ax ax)}(j:f=nC\/f=nD){e:ax}(he:SR e):
  ∃st m,ko u s=some st/\bR f 0 st e=some (.nx m)/\SR m/\((kE u s=some (⟨0,0⟩,false)/\m=e)\/∃b,kE u s=some (b,true)/\ga e b=some m):=by
 rcases CR F hs with ⟨_,d,g⟩|⟨st,b,d,g,a⟩
 .exact ⟨[],e,d,rfl,he,.inl ⟨g,rfl⟩⟩
 .have h:∀x∈st,SR x.high:=fun x i=>(a.le x i).2.1
  obtain ⟨k1,k⟩:=JB j h he
  refine ⟨st,_,d,k1,k,.inr ⟨b,g,?_⟩⟩
  rw[r4 he a.sm]
  obtain ⟨c,l,rfl⟩:∃c l,st=c::l:=by
   cases st with
   |nil=>exact absurd rfl a.ne
   |cons c l=>exact ⟨c,l,rfl⟩
  have hc:=h c (List.mem_cons_self ..)
  have e1:b=foldI (fun _ (x:bN) st=>cJ st x.high) 0 l c.high:=by rw[a.CQ];exact CU l 0 c
  have e2:=CS he hc l c.high (fun x i=>h x (List.mem_cons_of_mem _ i)) hc 1 0
  congr 1
  rw[e1,<-e2]
  rfl
theorem yY:∃r,lq u s=some r/\n8 u s=some r/\Sm r 40000000000 64000000:=by
 obtain ⟨c,j,k,g,l⟩:=pR F hs;have e2:c.high=(ef u s).2:=by rw[<-k]
 have p:SR (⟨u.bU,1⟩:ax):=(rY F hs).mono aB aB;unfold lq n8;rw[j,l];simp only[ai,u6,<-e2,(lG g p).1,(lG g p).2];cases bQ c.high ⟨u.bU,1⟩ with
 |true=>
  simp only[cond_true];obtain ⟨st,m,t1,t2,t3,t4⟩:=C0 F hs (.inl rfl) (f:=nC) g;obtain ⟨d,d1,d2,d3⟩:=CW F hs p t3;obtain ⟨z,h,a,e⟩:=CZ F hs d3;simp only[t1,t2,aJ,d1,h];rcases t4 with ⟨k1,rfl⟩|⟨b,k1,i⟩
  .simp only[k1,cond_false,d2,a];exact ⟨z,rfl,rfl,e⟩
  .simp only[k1,cond_true,i,d2,a];exact ⟨z,rfl,rfl,e⟩
 |false=>
  simp only[cond_false];obtain ⟨st,m,t1,t2,t3,t4⟩:=C0 F hs (.inr rfl) (f:=nD) p;obtain ⟨d,d1,d2,d3⟩:=CW F hs g t3;obtain ⟨z,h,a,e⟩:=CZ F hs d3;simp only[t1,t2,aJ,d1,h];rcases t4 with ⟨k1,rfl⟩|⟨b,k1,i⟩
  .simp only[k1,cond_false,d2,a];exact ⟨z,rfl,rfl,e⟩
  .simp only[k1,cond_true,i,d2,a];exact ⟨z,rfl,rfl,e⟩
theorem JC:∃b,gU u s=some b/\n9 u s=some b:=by
 obtain ⟨r,c,d,e⟩:=yY F hs;have f:Sm u.bq 20 20:=⟨by have:=F.num;omega,by have:=F.den;omega,by have:=F.den;omega⟩
 have a:=lF f e aB aB;unfold gU n9;simp only[c,d,a.1,a.2,ai];exact ⟨_,rfl,rfl⟩
end
def r5 (a:(List (List Int)))(b:Int)(c:cq)(st:((List (List Int))×Int)):Option (Fl ((List (List Int))×Int) (List (List Int))):=
 cond (decide (st.2<=c.high.high)) (ai (bD a b) fun d=>ai (de ([]:List Int) d) fun e=>ai (de e ([st.2])) fun f=>ai (de st.1 ([f])) fun g=>some (.nx (g,(IntKind.i64.wrap (st.2+1))))) (some (.bk (st.1,st.2)))
def r6 (u0:an)(a:(List (List Int)))(c:Int)(st:((List (List Int))×Int)):Option (Fl ((List (List Int))×Int) (List (List Int))):=
 cond (decide (st.2<(a.length:Int))) (ai (bD u0.aF c) fun b=>ai (bp (r5 a st.2 b) fu (st.1,b.high.low)) fun o=>aJ o (fun d=>some (.nx (d.1,(IntKind.i64.wrap (st.2+1))))) (fun _ _=>none) (fun r=>some (.rt r))) (some (.bk (st.1,st.2)))
def u9 (u0:an)(st:((List (List Int))×Int)):Option (Fl ((List (List Int))×Int) (List (List Int))):=
 cond (decide (st.2<(u0.aF.length:Int))) (ai (bp (r6 u0 st.1 st.2) fu (([]:List (List Int)),0)) fun o=>aJ o (fun a=>some (.nx (a.1,(IntKind.i64.wrap (st.2+1))))) (fun _ _=>none) (fun r=>some (.rt r))) (some (.bk (st.1,st.2)))
def vb (u0:an)(a:(List (List Int)))(st:((List (List Int))×Int)):Option (Fl ((List (List Int))×Int) (List (List Int))):=
 cond (decide (st.2<(a.length:Int))) (ai (bD a st.2) fun b=>ai (yJ u0 b) fun c=>cond (c) (ai (de st.1 ([b])) fun d=>some (.nx (d,(IntKind.i64.wrap (st.2+1))))) (some (.nx (st.1,(IntKind.i64.wrap (st.2+1)))))) (some (.bk (st.1,st.2)))
def vc (u0:an):Option (List (List Int)):=
 ai (bp (u9 u0) fu (([([]:(List Int))]),0)) fun o=>aJ o (fun a=>ai (bp (vb u0 a.1) fu (([]:List (List Int)),0)) fun o=>aJ o (fun b=>some b.1) (fun _ _=>none) (fun r=>some r)) (fun _ _=>none) (fun r=>some r)
def ir {α ρ:Type}(t:Nat->α->Option ρ):Nat->List α->Option ρ
 |_,[]=>none
 |i,x::l=>match t i x with
  |some r=>some r
  |none=>ir t (i+1) l
def od {σ ρ:Type}(o:Option ρ)(s:σ):Fl σ ρ:=match o with
 |some r=>.rt r
 |none=>.nx s
theorem ve {α σ ρ:Type}{f:Nat->α->σ->Option (Fl σ ρ)}{t:Nat->α->Option ρ}:∀(l:List α) (i:Nat) (s:σ),(∀j x s,l[j]?=some x->f (i+j) x s=some (od (t (i+j) x) s))->bR f i l s=some (od (ir t i l) s)
 |[],i,s,_=>rfl
 |x::l,i,s,h=>by
  have a:=h 0 x s rfl
  simp only[Nat.add_zero] at a
  unfold bR ir
  rw[a]
  cases ht:t i x with
  |some r=>rfl
  |none=>
   show bR f (i+1) l s=_
   exact ve l (i+1) s fun j y s b=>by
    have:=h (j+1) y s (by simpa using b)
    rwa [show i+(j+1)=i+1+j by omega] at this
theorem C1 {α σ ρ:Type}{f:σ×Int->Option (Fl (σ×Int) ρ)}{t:Nat->α->Option ρ}(l:List α)(h:∀(i:Nat) x s,l[i]?=some x->f (s,(i:Int))=some (od (t i x) (s,((i+1:Nat):Int))))(a:∀s,f (s,(l.length:Int))=some (.bk (s,(l.length:Int)))):
  ∀(k i n:Nat) (s:σ),i+k=l.length->k<n->bp f n (s,(i:Int))=some (od (ir t i (l.drop i)) (s,(l.length:Int)))
 |0,i,n+1,s,hi,_=>by
  obtain rfl:i=l.length:=aa
  unfold bp
  rw[a,List.drop_length]
  rfl
 |k+1,i,n+1,s,hi,d=>by
  have b:i<l.length:=aa
  have c:l[i]?=some l[i]:=List.getElem?_eq_getElem b
  unfold bp
  rw[h i _ s c,List.drop_eq_getElem_cons b]
  unfold ir
  cases ht:t i l[i] with
  |some r=>rfl
  |none=>exact C1 l h a k (i+1) n s aa aa
theorem C2 {α σ ρ:Type}{f:σ×Int->Option (Fl (σ×Int) ρ)}{t:Nat->α->Option ρ}(l:List α)(a:l.length<=1000)(h:∀(i:Nat) x s,l[i]?=some x->f (s,(i:Int))=some (od (t i x) (s,((i+1:Nat):Int))))(b:∀s,f (s,(l.length:Int))=some (.bk (s,(l.length:Int))))(s:σ):
  bp f fu (s,0)=some (od (ir t 0 l) (s,(l.length:Int))):=by
 have:=C1 l h b l.length 0 fu s aa (Nat.lt_of_le_of_lt a aB)
 simpa using this
theorem C3 {α ρ:Type}{g:α->Bool}{r:ρ}:∀(l:List α) (i:Nat),ir (fun _ x=>if g x then none else some r) i l=if l.all g then none else some r
 |[],_=>rfl
 |x::l,i=>by
  unfold ir
  cases h:g x with
  |false=>simp[h]
  |true=>
   simp only[h,if_true,List.all_cons,Bool.true_and]
   exact C3 l (i+1)
theorem yZ {α:Type}{g:α->Bool}:∀(l:List α) (i:Nat),∃r,ir (fun i x=>if g x then some (i:Int) else none) i l=r/\decide (0<=r.getD (-1))=l.any g
 |[],_=>⟨none,rfl,rfl⟩
 |x::l,i=>by
  unfold ir
  cases h:g x with
  |true=>exact ⟨_,rfl,by simp[h]⟩
  |false=>
   obtain ⟨r,a,b⟩:=yZ l (i+1) (g:=g)
   exact ⟨r,by simpa using a,by simpa [h] using b⟩
theorem gd {α:Type}{l:List α}{i:Nat}{x:α}(h:l[i]?=some x):bD l (i:Int)=some x:=by
 unfold bD;rw[if_pos aa];simpa using h
theorem r7 {α:Type}{l:List α}{i:Int}{x:α}(a:0<=i)(h:l[i.toNat]?=some x):bD l i=some x:=by
 unfold bD;rw[if_pos a,h]
theorem contains_eq {f:bM->Option Bool}{g:bM->Bool}(l:List bM)(h:∀x,x∈l->f x=some (g x)):ri l f=some (l.any g):=by
 unfold ri ug
 rw[ve (t:=fun i x=>if g x then some (i:Int) else none) l 0 0 fun j x s a=>by
  unfold uf;rw[h x (List.mem_of_getElem? a)]
  cases g x<;>rfl]
 obtain ⟨r,b,c⟩:=yZ (g:=g) l 0;rw[b,<-c];cases r<;>rfl
def c8 (u:an)(s:bA):Bool:=(gU u s).getD false
theorem oe {u:an}(F:Fit u){s:bA}(hs:(1<=s.back/\s.back<=20)/\0<=s.high/\s.high<=60):gU u s=some (c8 u s)/\n9 u s=some (c8 u s):=by
 obtain ⟨b,a,c⟩:=JC F hs;have e:c8 u s=b:=by unfold c8;rw[a];rfl
 rw[e];exact ⟨a,c⟩
def cI (u:an)(i:Nat)(n:Int):bA:=⟨(u.aF[i]?.map (·.back)).getD 0,n⟩
structure kH (u:an)(h:List Int):Prop where
 len:h.length=u.aF.length
 gZ:∀(i:Nat) e,u.aF[i]?=some e->∃n,h[i]?=some n/\e.high.low<=n/\n<=e.high.high
def lI (u:an)(h:List Int)(t:bM):Bool:=c8 u (cI u t.aY.toNat (h[t.aY.toNat]?.getD 0))==t.bI
def fJ (u:an)(h:List Int):Bool:=u.told.all (lI u h)
theorem y2 {u:an}{h:List Int}(H:kH u h){i:Int}(f:0<=i)(g:i<u.aF.length)(F:Fit u):∃e n,u.aF[i.toNat]?=some e/\h[i.toNat]?=some n/\cI u i.toNat n=⟨e.back,n⟩/\(1<=e.back/\e.back<=20)/\0<=n/\n<=60:=by
 have c:u.aF[i.toNat]?=some (u.aF[i.toNat]'aa):=List.getElem?_eq_getElem _;obtain ⟨n,d,a,b⟩:=H.gZ _ _ c;obtain ⟨c1,c2,c3,c4,j⟩:=F.aY _ _ c;refine ⟨_,n,c,d,?_,c1,aa,aa⟩;unfold cI;rw[c];rfl
theorem JD {u:an}(F:Fit u){h:List Int}(H:kH u h):yJ u h=some (fJ u h):=by
 unfold yJ;rw[C2 (t:=fun _ x=>if lI u h x then none else some false) u.told (by have:=F.told;omega) (s:=false) (fun i x s c=>?_) (fun s=>?_)]
 .rw[C3];unfold fJ;cases u.told.all (lI u h)<;>rfl
 .obtain ⟨a,b⟩:=F.ob i x c;obtain ⟨e,n,f,d,g,j,k⟩:=y2 H a b F;have l:i<u.told.length:=(List.getElem?_eq_some_iff.1 c).1;have ht:=F.told;unfold yI nU;rw[show decide (((i:Nat):Int)<(u.told.length:Int))=true by simp;omega];simp only[cond_true,gd c,ai,r7 a f,r7 a d,(oe F (s:=⟨e.back,n⟩) ⟨j,k⟩).2];rw[cU (n:=(i:Int)+1) aa];unfold lI;rw[d];show _=some (od (if c8 u (cI u x.aY.toNat n)==x.bI then none else some false) (s,((i+1:Nat):Int)));rw[g];cases c8 u ⟨e.back,n⟩==x.bI<;>rfl
 .unfold yI;rw[show decide ((u.told.length:Int)<(u.told.length:Int))=false by simp];rfl
def cG (l:List Int):bt:=⟨l[0]?.getD 0,l[1]?.getD 0,l[2]?.getD 0⟩
theorem r8 {l:List Int}{i:Int}{n:Int}(a:0<=i)(b:i<3)(h:l[i.toNat]?=some n):bt.get (cG l) i=some n:=by
 unfold bt.get cG;rcases (show i=0\/i=1\/i=2 by omega) with rfl|rfl|rfl<;>simp at h<;>simp[h]
theorem JE {u:an}(F:Fit u){h:List Int}(H:kH u h):oY u (cG h)=some (fJ u h):=by
 unfold oY
 rw[contains_eq (g:=fun t=>!lI u h t) u.told fun x d=>by
  obtain ⟨i,hi⟩:=List.mem_iff_getElem?.1 d;obtain ⟨a,b⟩:=F.ob i x hi;obtain ⟨e,n,f,c,j,k,l⟩:=y2 H a b F;have:=F.aF;unfold rm ig;simp only[r8 a aa c,ai,r7 a f,(oe F (s:=⟨e.back,n⟩) ⟨k,l⟩).1];unfold lI;rw[c];show _=some (!(c8 u (cI u x.aY.toNat n)==x.bI))
  rw[j]]
 simp only[ai];unfold fJ;rw[show (u.told.any fun t=>!lI u h t)=!(u.told.all (lI u h)) by rw[List.all_eq_not_any_not];simp];simp
def dR (b:dF):List Int:=(List.range (b.high - b.low+1).toNat).map fun k=>b.low+(k:Nat)
theorem JG {b:dF}{i:Nat}{x:Int}(h:(dR b)[i]?=some x):x=b.low+i/\b.low+i<=b.high:=by
 unfold dR at h;rw[List.getElem?_map,Option.map_eq_some_iff] at h;obtain ⟨k,c,rfl⟩:=h;obtain ⟨d,a⟩:=List.getElem?_eq_some_iff.1 c;simp at d a;subst a;exact ⟨rfl,aa⟩
theorem r9 (b:dF):(dR b).length=(b.high - b.low+1).toNat:=by simp[dR]
theorem y3 {b:dF}{x:Int}:x∈dR b↔b.low<=x/\x<=b.high:=by
 unfold dR;rw[List.mem_map];constructor
 .rintro ⟨k,a,rfl⟩;rw[List.mem_range] at a;omega
 .rintro ⟨c,d⟩;exact ⟨(x - b.low).toNat,by rw[List.mem_range];omega,aa⟩
def lJ (b:dF)(all:List (List Int)):List (List Int):=all.flatMap fun p=>(dR b).map fun n=>p++[n]
def eg (p:List Int):List cq->List (List Int)
 |[]=>[p]
 |e::l=>(dR e.high).flatMap fun n=>eg (p++[n]) l
def bO (u:an):List (List Int):=(eg [] u.aF).filter (fJ u)
theorem sd {α β:Type}(g:α->List β):∀(l:List α) (i:Nat) (s:List β),foldI (fun _ x s=>s++g x) i l s=s++l.flatMap g
 |[],_,s=>by simp[foldI]
 |x::l,i,s=>by
  unfold foldI
  rw[sd g l]
  simp[List.flatMap_cons]
theorem C4:∀(l:List cq) (i:Nat) (all:List (List Int)),foldI (fun _ (e:cq) all=>lJ e.high all) i l all=all.flatMap fun p=>eg p l
 |[],_,all=>by
  unfold foldI
  show all=all.flatMap fun p=>[p]
  induction all with
  |nil=>rfl
  |cons a l ih=>rw[List.flatMap_cons,<-ih];rfl
 |e::l,i,all=>by
  unfold foldI
  rw[C4 l]
  unfold lJ
  rw[List.flatMap_assoc]
  congr 1
  funext p
  rw[List.flatMap_map]
  rfl
theorem C5:∀(l:List cq) (p h:List Int),h∈eg p l->h.length=p.length+l.length/\(∀(j:Nat) e,l[j]?=some e->∃n,h[p.length+j]?=some n/\e.high.low<=n/\n<=e.high.high)/\∀j,j<p.length->h[j]?=p[j]?
 |[],p,h,hm=>by
  simp only[eg,List.mem_singleton] at hm
  subst hm
  exact ⟨rfl,fun j e he=>by simp at he,fun _ _=>rfl⟩
 |e::l,p,h,hm=>by
  unfold eg at hm
  rw[List.mem_flatMap] at hm
  obtain ⟨n,d,hm⟩:=hm
  obtain ⟨f,c,a⟩:=C5 l _ _ hm
  rw[List.length_append,List.length_singleton] at f c a
  refine ⟨by simp;omega,fun j x b=>?_,fun j g=>?_⟩
  .cases j with
   |zero=>
    simp at b;subst b
    refine ⟨n,?_,y3.1 d⟩
    rw[Nat.add_zero,a _ aa,List.getElem?_append_right (Nat.le_refl _)]
    simp
   |succ j=>
    obtain ⟨m,hm,hb⟩:=c j x (by simpa using b)
    exact ⟨m,by rw[<-hm];congr 1;omega,hb⟩
  .rw[a j aa,List.getElem?_append_left g]
theorem y4 {u:an}{h:List Int}(hm:h∈eg [] u.aF):kH u h:=by
 obtain ⟨a,b,_⟩:=C5 _ _ _ hm;exact ⟨by simpa using a,fun i e he=>by simpa using b i e he⟩
theorem C6 {b:dF}(hb:b.high - b.low<3):∀(all:List (List Int)),(lJ b all).length<=all.length*3
 |[]=>by simp[lJ]
 |p::all=>by
  have:=C6 hb all
  unfold lJ at this ⊢
  rw[List.flatMap_cons,List.length_append,List.length_map,r9,List.length_cons]
  omega
theorem mF {α:Type}{l xs:List α}(h:l.length+xs.length<=1000000):de l xs=some (l++xs):=by
 unfold de;rw[if_pos h]
theorem JH {all:List (List Int)}{k:Nat}{p:List Int}{e:cq}(b:all[k]?=some p)(d:p.length<=100)(he:0<=e.high.low/\e.high.low<=e.high.high/\e.high.high<=60/\e.high.high - e.high.low<3)(s:List (List Int))(hs:s.length<=1000):
  bp (r5 all (k:Int) e) fu (s,e.high.low)=some (.nx (s++(dR e.high).map (fun n=>p++[n]),e.high.high+1)):=by
 have key:=mE (f:=r5 all (k:Int) e) (g:=fun _ x s=>s++[p++[x]]) (I:=fun i s=>s.length<=1000+i) (fun s i=>(s,e.high.low+i)) (dR e.high) (by rw[r9];omega)
  (fun i x s c h=>by
   obtain ⟨rfl,hb⟩:=JG c
   refine ⟨?_,by simp;omega⟩
   unfold r5
   rw[show decide ((s,e.high.low+(i:Int)).2<=e.high.high)=true by simpa using hb]
   simp only[cond_true,gd b,ai,mF (l:=([]:List Int)) (xs:=p) (by simp;omega),List.nil_append,mF (l:=p) (xs:=[e.high.low+(i:Int)]) (by simp;omega),mF (l:=s) (xs:=[p++[e.high.low+(i:Int)]]) (by simp;omega)]
   rw[cU (n:=e.high.low+(i:Int)+1) aa]
   simp;omega)
  (fun s=>by
   unfold r5
   rw[show decide ((s,e.high.low+((dR e.high).length:Int)).2<=e.high.high)=false by rw[r9];simp;omega]
   rfl) s aa
 have:=key.1
 rw[sd (fun x=>[p++[x]])] at this
 simp only[Int.add_zero] at this
 rw[this]
 congr 2
 refine Prod.ext ?_ ?_
 .simp only[List.append_cancel_left_eq]
  induction dR e.high with
  |nil=>rfl
  |cons a l ih=>simp[ih]
 .simp only[r9];omega
theorem JI {u:an}{all:List (List Int)}{i:Nat}{e:cq}(hi:u.aF[i]?=some e)(b:∀p∈all,p.length<=100)(c:all.length<=100)(he:0<=e.high.low/\e.high.low<=e.high.high/\e.high.high<=60/\e.high.high - e.high.low<3):
  bp (r6 u all (i:Int)) fu (([]:List (List Int)),0)=some (.nx (lJ e.high all,(all.length:Int))):=by
 have key:=mE (f:=r6 u all (i:Int)) (g:=fun _ p s=>s++(dR e.high).map fun n=>p++[n]) (I:=fun i s=>s.length<=3*i/\i<=all.length) (fun s i=>(s,i)) all aa
  (fun k p s a d=>by
   have h:k<all.length:=(List.getElem?_eq_some_iff.1 a).1
   refine ⟨?_,by simp[r9];omega,aa⟩
   unfold r6
   rw[show decide ((s,(k:Int)).2<(all.length:Int))=true by simp;omega]
   simp only[cond_true,gd hi,ai,JH a (b p (List.mem_of_getElem? a)) he s aa,aJ]
   rw[cU (n:=(k:Int)+1) aa]
   rfl)
  (fun s=>by
   unfold r6
   rw[show decide ((s,(all.length:Int)).2<(all.length:Int))=false by simp]
   rfl) ([]:List (List Int)) ⟨au,aa⟩
 have:=key.1
 rw[sd (fun p=>(dR e.high).map fun n=>p++[n])] at this
 simpa [lJ] using this
theorem C7 {u:an}:∀(l:List (List Int)) (i:Nat) (s:List (List Int)),foldI (fun _ x s=>if fJ u x then s++[x] else s) i l s=s++l.filter (fJ u)
 |[],_,s=>by simp[foldI]
 |x::l,i,s=>by
  unfold foldI
  rw[C7 l]
  cases h:fJ u x<;>simp[h]
theorem three (i:Nat)(h:i<=3):3 ^ i<=27:=by
 rcases (show i=0\/i=1\/i=2\/i=3 by omega) with rfl|rfl|rfl|rfl<;>decide
theorem pU {u:an}(F:Fit u):vc u=some (bO u)/\(bO u).length<=27:=by
 have r:=F.aF;have key:=mE (f:=u9 u) (g:=fun _ (e:cq) all=>lJ e.high all) (I:=fun i all=>(∀p∈all,p.length=i)/\all.length<=3 ^ i/\i<=u.aF.length) (fun s i=>(s,i)) u.aF aa
  (fun i e all hi c=>by
   obtain ⟨d,t,v⟩:=c;have k:i<u.aF.length:=(List.getElem?_eq_some_iff.1 hi).1;have he:=(F.aY i e hi).2;have w:=three i aa;have hs:=C6 he.2.2.2 all;refine ⟨?_,fun p a=>?_,by rw[Nat.pow_succ];omega,aa⟩
   .unfold u9;rw[show decide ((all,(i:Int)).2<(u.aF.length:Int))=true by simp;omega];simp only[cond_true,JI hi (fun p a=>by have:=d p a;omega) aa he,ai,aJ];rw[cU (n:=(i:Int)+1) aa];rfl
   .unfold lJ at a;rw[List.mem_flatMap] at a;obtain ⟨q,m,a⟩:=a;rw[List.mem_map] at a;obtain ⟨n,_,rfl⟩:=a
    simp[d q m])
  (fun s=>by
   unfold u9;rw[show decide ((s,(u.aF.length:Int)).2<(u.aF.length:Int))=false by simp]
   rfl) [[]] ⟨au,au,aa⟩
 obtain ⟨k1,b⟩:=key;rw[C4] at k1 b;simp only[List.flatMap_cons,List.flatMap_nil,List.append_nil] at k1 b;have hlen:(eg [] u.aF).length<=27:=Nat.le_trans b.2.1 (three _ aa);have j:=mE (f:=vb u (eg [] u.aF)) (g:=fun _ x s=>if fJ u x then s++[x] else s) (I:=fun i s=>s.length<=i/\i<=(eg [] u.aF).length) (fun s i=>(s,i)) (eg [] u.aF) aa
  (fun i h s hi c=>by
   have k:i<(eg [] u.aF).length:=(List.getElem?_eq_some_iff.1 hi).1;have o:=JD F (y4 (List.mem_of_getElem? hi));refine ⟨?_,by cases fJ u h<;>simp<;>omega,aa⟩;unfold vb;rw[show decide ((s,(i:Int)).2<((eg [] u.aF).length:Int))=true by simp;omega];simp only[cond_true,gd hi,ai,o];rw[cU (n:=(i:Int)+1) aa];cases fJ u h with
   |false=>rfl
   |true=>simp only[cond_true,mF (l:=s) (xs:=[h]) (by simp;omega)];rfl)
  (fun s=>by
   unfold vb;rw[show decide ((s,((eg [] u.aF).length:Int)).2<((eg [] u.aF).length:Int))=false by simp]
   rfl) ([]:List (List Int)) ⟨au,aa⟩
 rw[C7] at j;refine ⟨?_,Nat.le_trans (List.length_filter_le _ _) hlen⟩;unfold vc;rw[k1];simp only[ai,aJ];rw[j.1];simp only[List.nil_append];rfl
def co (h:bt)(j:Nat):Int:=if j=0 then h.e0 else if j=1 then h.e1 else if j=2 then h.e2 else 0
theorem JJ (h:bt){j:Nat}(d:j<3)(n:Int):∃a,h.setAt (j:Int) n=some a/\∀i,co a i=if i=j then n else co h i:=by
 rcases (show j=0\/j=1\/j=2 by omega) with rfl|rfl|rfl
 .refine ⟨{h with e0:=n},rfl,fun i=>?_⟩;unfold co;split<;>rfl
 .refine ⟨{h with e1:=n},rfl,fun i=>?_⟩;unfold co;by_cases b:i=0<;>by_cases a:i=1<;>simp[b,a]<;>omega
 .refine ⟨{h with e2:=n},rfl,fun i=>?_⟩;unfold co;by_cases b:i=0<;>by_cases a:i=1<;>by_cases c:i=2<;>simp[b,a,c]<;>omega
structure Ag (u:an)(p:List Int)(h:bt):Prop where
 at_:∀(j:Nat) n,p[j]?=some n->co h j=n
 no:∀j,u.aF.length<=j->co h j=0
theorem Ag.cG {u:an}{p:List Int}{h:bt}(H:Ag u p h)(a:p.length=u.aF.length):h=cG p:=by
 have key:∀j,co h j=p[j]?.getD 0:=fun j=>by
  cases e:p[j]? with
  |some n=>exact H.at_ j n e
  |none=>exact H.no j (by rw[<-a];exact List.getElem?_eq_none_iff.1 e)
 have b:=key 0;have k1:=key 1;have c:=key 2;cases h;unfold Go.Proofs.YtbpddfapodiemaaGreatDoor.cG;rw[<-b,<-k1,<-c];rfl
theorem Ag.set {u:an}{p:List Int}{h:bt}(H:Ag u p h)(c:p.length<u.aF.length)(d:u.aF.length<=3)(n:Int):∃a,h.setAt (p.length:Int) n=some a/\Ag u (p++[n]) a:=by
 obtain ⟨a,e1,e2⟩:=JJ h (j:=p.length) aa n;refine ⟨a,e1,fun j m hm=>?_,fun j b=>?_⟩
 .rw[e2];by_cases e:j=p.length
  .subst e;rw[if_pos rfl];simpa using hm
  .rw[if_neg e];refine H.at_ j m ?_;rw[<-hm,List.getElem?_append_left];have:=(List.getElem?_eq_some_iff.1 hm).1;simp at this;omega
 .rw[e2,if_neg aa];exact H.no j b
theorem Ag.cut {u:an}{p:List Int}{n:Int}{h:bt}(H:Ag u (p++[n]) h):Ag u p h:=
 ⟨fun j m hm=>H.at_ j m (by rw[List.getElem?_append_left (List.getElem?_eq_some_iff.1 hm).1];exact hm),H.no⟩
theorem C8 {a b:Int}(h:a<=b):dR ⟨a,b⟩=a::dR ⟨a+1,b⟩:=by
 unfold dR;simp only;rw[show (b - a+1).toNat=(b - (a+1)+1).toNat+1 by omega,List.range_succ_eq_map];simp only[List.map_cons,List.map_map,Function.comp_def];congr 1
 .simp
 .apply List.map_congr_left;intro k _;simp only[Nat.succ_eq_add_one];omega
theorem JK {a b:Int}(h:¬a<=b):dR ⟨a,b⟩=[]:=by
 unfold dR;simp only;rw[show (b - a+1).toNat=0 by omega];rfl
theorem C9 {u:an}{p:List Int}(a:p.length<u.aF.length)(b:u.aF.length<=3){f:bt->List (Option bt)×bt}{G:Int->List (Option bt)}{lo hi:Int}(hb:0<=lo/\hi<=60)
  (d:∀n,lo<=n->n<=hi->∀h,Ag u (p++[n]) h->(f h).1=G n/\Ag u (p++[n]) (f h).2):
  ∀(k:Nat) (n:Int) (h:bt),Ag u p h->lo<=n->n<=61->61 - n<k->(jL f (p.length:Int) hi k n h).1=(dR ⟨n,hi⟩).flatMap G/\Ag u p (jL f (p.length:Int) hi k n h).2
 |0,n,h,H,e,g,i=>by omega
 |k+1,n,h,H,e,g,i=>by
  unfold jL
  by_cases c:n<=hi
  .rw[if_pos c,C8 c]
   obtain ⟨x,e1,e2⟩:=H.set a b n
   rw[e1]
   obtain ⟨j,l⟩:=d n e c x e2
   have w:IntKind.i64.wrap (n+1)=n+1:=cU aa
   obtain ⟨r1,r2⟩:=C9 a b hb d k (n+1) (f x).2 l.cut aa aa aa
   simp only[w]
   exact ⟨by rw[j,r1,List.flatMap_cons],r2⟩
  .rw[if_neg c,JK c]
   exact ⟨rfl,H⟩
theorem Da {u:an}(F:Fit u):∀(l:List cq) (p:List Int) (fuel:Nat) (h:bt),u.aF.drop p.length=l->p.length+l.length=u.aF.length->l.length<fuel->
  (∀(j:Nat) e,u.aF[j]?=some e->j<p.length->∃n,p[j]?=some n/\e.high.low<=n/\n<=e.high.high)->Ag u p h->
  (fB u fuel (p.length:Int) h).1=((eg p l).filter (fJ u)).map (fun x=>some (cG x))/\Ag u p (fB u fuel (p.length:Int) h).2
 |l,p,0,h,hd,a,b,hb,H=>by omega
 |[],p,fuel+1,h,hd,a,b,hb,H=>by
  have a:p.length=u.aF.length:=by simpa using a
  unfold fB
  rw[if_pos aa]
  obtain rfl:=H.cG a
  have R:=JE F (h:=p) ⟨a,fun i e he=>hb i e he (by have:=(List.getElem?_eq_some_iff.1 he).1;omega)⟩
  refine ⟨?_,H⟩
  rw[R]
  unfold eg
  cases e:fJ u p<;>simp[e]
 |e::l,p,fuel+1,h,hd,a,b,hb,H=>by
  simp only[List.length_cons] at a b
  have he:u.aF[p.length]?=some e:=by
   have:=congrArg List.head? hd
   simpa [List.head?_drop] using this
  have k:u.aF.drop (p.length+1)=l:=by
   have:=congrArg List.tail hd
   simpa [List.tail_drop] using this
  have o:=F.aF
  have g:=(F.aY _ _ he).2
  unfold fB
  rw[if_neg aa,gd he]
  have w:IntKind.i64.wrap ((p.length:Int)+1)=((p.length+1:Nat):Int):=by rw[cU aa];omega
  simp only[w]
  have key:=C9 (u:=u) (p:=p) aa o.2 (f:=fB u fuel ((p.length+1:Nat):Int)) (G:=fun n=>((eg (p++[n]) l).filter (fJ u)).map (fun x=>some (cG x))) (lo:=e.high.low) (hi:=e.high.high) ⟨g.1,g.2.2.1⟩
   (fun n n1 n2 x q=>by
    have:=Da F l (p++[n]) fuel x (by simpa using k) (by simp;omega) aa (fun j y d r=>by
     by_cases c:j<p.length
     .obtain ⟨m,hm,s⟩:=hb j y d c
      exact ⟨m,by rw[List.getElem?_append_left c];exact hm,s⟩
     .simp at r
      obtain rfl:j=p.length:=aa
      rw[he] at d;cases d
      exact ⟨n,au,n1,n2⟩) q
    simpa using this) 100 e.high.low h H (Int.le_refl _) aa aa
  refine ⟨?_,key.2⟩
  rw[key.1,show eg p (e::l)=(dR e.high).flatMap fun n=>eg (p++[n]) l from rfl,List.filter_flatMap,List.map_flatMap]
theorem JL (j:Nat):co ⟨0,0,0⟩ j=0:=by
 unfold co;split
 .rfl
 .split
  .rfl
  .split<;>rfl
theorem y5 {u:an}(F:Fit u):mz u=(bO u).map (fun x=>some (cG x)):=by
 have c:=F.aF;exact (Da F u.aF [] 5 ⟨0,0,0⟩ rfl au aa (fun j e _ a=>absurd a au) ⟨fun j n b=>by simp at b,fun j _=>JL j⟩).1
theorem Db:∀(l:List bt) (s:List bt),s.length+l.length<=1000000->ie o6 (l.map some) s=some (.nx (s++l))
 |[],s,_=>by simp[ie]
 |x::l,s,h=>by
  simp only[List.length_cons] at h
  simp only[List.map_cons]
  have:=Db l (s++[x]) (by simp;omega)
  rw[show s++x::l=s++[x]++l by simp,<-this]
  have e:o6 x s=some (.nx (s++[x])):=by
   unfold o6
   rw[mF (by simp;omega)]
   rfl
  show ie _ (some x::l.map some) s=_
  rw[ie,e]
  rfl
theorem JM {l:List bt}(h:l.length<=1000):ry (l.map some)=some l:=by
 unfold ry uv;rw[Db l [] (by simp;omega)];simp[ai,aJ]
theorem y6 {u:an}(F:Fit u):o5 u=some (!(bO u).isEmpty):=by
 unfold o5;rw[y5 F];cases bO u with
 |nil=>rfl
 |cons a l=>rfl
def JN:di:=⟨CD,[]⟩
theorem se {u:an}(F:Fit u){fs:List (an->Option Int)}(h:fO u fs=some (u,0)):ij u fs=some (if (bO u).isEmpty then (JN,9) else (⟨u,(bO u).map cG⟩,0)):=by
 unfold ij;rw[h];simp only[ai];rw[show ((0:Int) != 0)=false by decide];simp only[cond_false];have b:=(pU F).2;rw[y5 F,show (bO u).map (fun x=>some (cG x))=((bO u).map cG).map some by simp,JM (by simp;omega)];simp only[ai];cases bO u with
 |nil=>rfl
 |cons a l=>
  rw[show ((((a::l).map cG).length:Int)==0)=false by simp;omega];rfl
structure si (u:an):Prop where
 e:u.aE.length<=20
 p:u.props.length<=20
 y:u.aF.length<=20
 t:u.told.length<=20
theorem bars {u:an}(L:si u):∃c,fe u=some c/\kD u=some c:=by
 obtain ⟨b,c,a⟩:=Jm u L.e L.p L.y L.t;exact ⟨c,a,b▸a⟩
theorem vf {u:an}(h:fe u=some 0):fO u []=some (u,0):=by
 unfold fO;rw[h];rfl
theorem JO (u:an)(n:Int):fA n u=some (cond (iR u n) 0 6):=by
 unfold fA;rw[(yL u n).2];simp only[ai];cases iR u n<;>rfl
theorem JP {u:an}(F:Fit u){n:Int}:iR u n=true↔0<=n/\n<u.aF.length:=by
 have:=F.aF;unfold iR;rw[cU aa,eW];omega
theorem y7 {α β σ:Type}(f:α->β)(g:Nat->β->σ->σ):∀(l:List α) (i:Nat) (s:σ),foldI g i (l.map f) s=foldI (fun i x s=>g i (f x) s) i l s
 |[],_,_=>rfl
 |x::l,i,s=>by
  simp only[List.map_cons]
  unfold foldI
  exact y7 f g l (i+1) _
theorem Dc {α σ:Type}{g g':Nat->α->σ->σ}:∀(l:List α) (i:Nat) (s:σ),(∀j x s,x∈l->g j x s=g' j x s)->foldI g i l s=foldI g' i l s
 |[],_,_,_=>rfl
 |x::l,i,s,h=>by
  unfold foldI
  rw[h i x s (List.mem_cons_self ..)]
  exact Dc l (i+1) _ fun j y s a=>h j y s (List.mem_cons_of_mem _ a)
theorem lK {u:an}{h:List Int}(hm:h∈bO u):kH u h/\fJ u h=true:=by
 obtain ⟨a,b⟩:=List.mem_filter.1 hm;exact ⟨y4 a,b⟩
section
variable {u:an}(F:Fit u){i:Nat}{e:cq}(he:u.aF[i]? = some e)
include F he
theorem vg {h:List Int}(hm:h∈bO u):∃n,h[i]?=some n/\cI u i (h[i]?.getD 0)=⟨e.back,n⟩/\(1<=e.back/\e.back<=20)/\0<=n/\n<=60:=by
 obtain ⟨n,c,a,b⟩:=(lK hm).1.gZ i e he;obtain ⟨c1,c2,c3,c4,d⟩:=F.aY _ _ he;refine ⟨n,c,?_,c1,aa,aa⟩;rw[c];unfold cI;rw[he];rfl
end
end Go.Proofs.YtbpddfapodiemaaGreatDoor
end
section
namespace Go.Sep
open Go Go.Conc
def og (P:Program)(J:Goroutine->af->Prop)(ops:Array Oper)(F0:af)(Q:Act->af->Prop):List Oper->Bool->Act->af->Prop
 |[],_,a,F=>Q a F
 |o::rest,_,a,F=>match cT ops o a with
  |some true=>c7 P J o (fun v F'=>Knows F0 F'/\og P J ops F0 Q rest (!Oper.calls o) (bB a o.dst v) F') a F
  |some false=>og P J ops F0 Q rest true (bB a o.dst undef) F
  |none=>False
theorem JQ {P:Program}{J:Goroutine->af->Prop}{ops:Array Oper}{F0:af}{Q:Act->af->Prop}{go:Bool}{a:Act}{F:af}:og P J ops F0 Q [] go a F=Q a F:=rfl
theorem JR {P:Program}{J:Goroutine->af->Prop}{ops:Array Oper}{F0:af}{Q:Act->af->Prop}{o:Oper}{rest:List Oper}{a:Act}{F:af}:og P J ops F0 Q (o::rest) true a F=match cT ops o a with
  |some true=>c7 P J o (fun v F'=>Knows F0 F'/\og P J ops F0 Q rest (!Oper.calls o) (bB a o.dst v) F') a F
  |some false=>og P J ops F0 Q rest true (bB a o.dst undef) F
  |none=>False:=(Eq.refl _).trans (Eq.refl _)
attribute [irreducible] og
attribute [go_sem] JQ JR
end Go.Sep
end
section
namespace Go.Proofs.YtbpddfapodiemaaGreatDoor
open Go Go.Sep Go.Proofs
set_option maxRecDepth 100000
set_option maxHeartbeats 4000000
def JS (b:Int)(c:Int)(st:((List (List Int))×Int)):Option (Fl ((List (List Int))×Int) (List (List Int))):=
 cond (decide (0<=st.2)) (ai (bD st.1 st.2) fun a=>cond (decide ((a.length:Int)<b)) (ai (de ([]:List Int) a) fun d=>ai (de d ([c])) fun e=>ai (de st.1 ([e])) fun f=>some (.nx (f,(IntKind.i64.wrap (st.2 - 1))))) (some (.nx (st.1,(IntKind.i64.wrap (st.2 - 1)))))) (some (.bk (st.1,st.2)))
def JU (u0:Int)(a:Int)(st:((List (List Int))×Int)):Option (Fl ((List (List Int))×Int) (List (List Int))):=
 cond (decide (st.2<u0)) (ai (bp (JS a st.2) fu (st.1,(IntKind.i64.wrap ((st.1.length:Int) - 1)))) fun o=>aJ o (fun b=>some (.nx (b.1,(IntKind.i64.wrap (st.2+1))))) (fun _ _=>none) (fun r=>some (.rt r))) (some (.bk (st.1,st.2)))
def Dd (u0:Int)(a:Int):Option (List (List Int)):=
 ai (bp (JU u0 a) fu (([([]:(List Int))]),0)) fun o=>aJ o (fun b=>some b.1) (fun _ _=>none) (fun r=>some r)
def sj (u0:an)(b:(List (List Int)))(st:((List Int)×Int)):Option (Fl ((List Int)×Int) ((List Int)×Int)):=
 cond (decide (st.2<(b.length:Int))) (ai (bD b st.2) fun a=>ai (pE a st.1) fun c=>cond (c) (ai (yC u0 a) fun d=>ai (vc d) fun e=>cond (((e.length:Int)==0)) (some (.nx (a,(IntKind.i64.wrap (st.2+1))))) (some (.nx (st.1,(IntKind.i64.wrap (st.2+1)))))) (some (.nx (st.1,(IntKind.i64.wrap (st.2+1)))))) (some (.bk (st.1,st.2)))
def De (u0:an):Option ((List Int)×Int):=
 ai (kD u0) fun a=>cond ((a != 0)) (some (([]:(List Int)),a)) (ai (vc u0) fun b=>cond (decide (0<(b.length:Int))) (some (([]:(List Int)),0)) (ai (Cn (u0.told.length:Int)) fun c=>ai (Dd (u0.told.length:Int) (u0.told.length:Int)) fun d=>ai (bp (sj u0 d) fu (c,0)) fun o=>aJ o (fun e=>some (e.1,0)) (fun _ _=>none) (fun r=>some r)))
def wt (u:an)(S:List bM):an:=⟨u.bV,u.bU,u.bq,u.aE,u.props,u.aF,S⟩
theorem Df {u:an}(F:Fit u){S:List bM}(h:∀t,t∈S->t∈u.told)(a:S.length<=3):Fit (wt u S):=
 ⟨F.bV,F.bU,F.den,F.num,F.aE,F.kG,F.uW,F.props,F.prop,F.aF,F.aY,a,fun i x b=>by
  obtain ⟨j,c⟩:=List.mem_iff_getElem?.1 (h x (List.mem_of_getElem? b))
  exact F.ob j x c⟩
def cC (u:an)(S:List bM):Bool:=(bO (wt u S)).isEmpty
def mG (x y:List Int):Bool:=(jd x y).getD false
def jP (x y:List Int):Bool:=(pE x y).getD false
def pV (P:List (List Int×Bool)):Option (List Int):=match (P.filter (·.2)).map (·.1) with
 |[]=>none
 |a::l=>some (foldI (fun _ y st=>cond (mG st y) y st) 0 l a)
def iT (Q:List (List Int×Bool))(b:List Int):List Int:=foldI (fun _ (x:List Int×Bool) b=>cond (jP x.1 b) (cond x.2 x.1 b) b) 0 Q b
theorem JV {u:an}(F:Fit u)(P:List (List Int×List bM))(b:∀(i:Nat) x,P[i]?=some x->bR (rD (i:Int)) 0 u.told (([]:List Int),([]:List bM))=some (.nx x))
  (hs:∀x,x∈P->(∀t,t∈x.2->t∈u.told)/\x.2.length<=3) (d:P.length<=8):
  bp (nJ u (u,0) (P.length:Int)) fu (([]:List (List Int)),0)=some (.nx (((P.map fun x=>(x.1,cC u x.2)).filter (·.2)).map (·.1),(P.length:Int))):=by
 have key:=mE (f:=nJ u (u,0) (P.length:Int)) (g:=fun _ (x:List Int×List bM) (s:List (List Int))=>cond (cC u x.2) (s++[x.1]) s) (I:=fun i s=>s.length<=i/\i<=P.length) (fun s i=>(s,i)) P aa
  (fun i x s a e=>by
   have j:i<P.length:=(List.getElem?_eq_some_iff.1 a).1
   have hm:=hs x (List.mem_of_getElem? a)
   refine ⟨?_,by cases cC u x.2<;>simp<;>omega,aa⟩
   unfold nJ
   rw[show decide ((s,(i:Int)).2<(P.length:Int))=true by simp;omega]
   simp only[cond_true,b i x a,ai,aJ]
   have hb:=y6 (Df F hm.1 hm.2)
   unfold wt at hb
   simp only[hb,Bool.not_not]
   rw[cU (n:=(i:Int)+1) aa]
   show (cond (cC u x.2) _ _:Option _)=_
   cases cC u x.2 with
   |false=>rfl
   |true=>simp only[cond_true,mF (l:=s) (xs:=[x.1]) (by simp;omega)];rfl)
  (fun s=>by
   unfold nJ
   rw[show decide ((s,(P.length:Int)).2<(P.length:Int))=false by simp]
   rfl) ([]:List (List Int)) ⟨au,aa⟩
 have c:∀(P:List (List Int×List bM)) (i:Nat) (s:List (List Int)),foldI (fun _ (x:List Int×List bM) (s:List (List Int))=>cond (cC u x.2) (s++[x.1]) s) i P s=s++((P.map fun x=>(x.1,cC u x.2)).filter (·.2)).map (·.1):=by
  intro P
  induction P with
  |nil=>intro i s;simp[foldI]
  |cons x P ih=>
   intro i s
   unfold foldI
   rw[ih]
   cases h:cC u x.2<;>simp[h]
 rw[c] at key
 simpa using key.1
theorem JW {S:List (List Int)}(c:∀x,x∈S->∀y,y∈S->jd x y=some (mG x y)){a:List Int}{l:List (List Int)}(d:a∈S)(e:∀x,x∈l->x∈S):
  oW jd a l=some (foldI (fun _ y st=>cond (mG st y) y st) 0 l a):=by
 unfold oW
 rw[(iS (f:=q9 jd) (g:=fun _ y st=>cond (mG st y) y st) (I:=fun _ st=>st∈S) l 0 a d fun j x s b hs=>by
  have b:=e x (List.mem_of_getElem? b)
  refine ⟨?_,by cases mG s x<;>assumption⟩
  unfold q9
  rw[c s hs x b]
  simp only[ai]
  cases mG s x<;>rfl).1]
 rfl
theorem JX {u:an}(F:Fit u)(Q:List (List Int×List bM))(d:∀x,x∈Q->yC u x.1=some (wt u x.2)/\(∀t,t∈x.2->t∈u.told)/\x.2.length<=3){S:List (List Int)}(e:∀x,x∈S->∀y,y∈S->pE x y=some (jP x y))
  (c:∀x,x∈Q->x.1∈S) {b:List Int} (hb:b∈S) (l:Q.length<=8):
  bp (sj u (Q.map (·.1))) fu (b,0)=some (.nx (iT (Q.map fun x=>(x.1,cC u x.2)) b,(Q.length:Int))):=by
 have key:=mE (f:=sj u (Q.map (·.1))) (g:=fun _ (x:List Int×List bM) (b:List Int)=>cond (jP x.1 b) (cond (cC u x.2) x.1 b) b) (I:=fun _ b=>b∈S) (fun s i=>(s,i)) Q aa
  (fun i x b a hb=>by
   have m:i<Q.length:=(List.getElem?_eq_some_iff.1 a).1
   have hm:=List.mem_of_getElem? a
   obtain ⟨h,j,k⟩:=d x hm
   refine ⟨?_,?_⟩
   .unfold sj
    rw[show decide ((b,(i:Int)).2<((Q.map (·.1)).length:Int))=true by simp;omega]
    have hi:(Q.map (·.1))[i]?=some x.1:=by rw[List.getElem?_map,a];rfl
    simp only[cond_true,gd hi,ai,e x.1 (c x hm) b hb,h,(pU (Df F j k)).1]
    rw[cU (n:=(i:Int)+1) aa,show (((bO (wt u x.2)).length:Int)==0)=cC u x.2 by unfold cC;cases bO (wt u x.2)<;>simp;omega]
    cases jP x.1 b<;>cases cC u x.2<;>rfl
   .have:=c x hm
    cases jP x.1 b<;>cases cC u x.2<;>assumption)
  (fun s=>by
   unfold sj
   rw[show decide ((s,(Q.length:Int)).2<((Q.map (·.1)).length:Int))=false by simp]
   rfl) b hb
 rw[key.1]
 unfold iT
 rw[y7]
def S3:List (List Int):=[[],[0],[1],[0,1],[2],[0,2],[1,2],[0,1,2]]
theorem JY:∀x,x∈S3->∀y,y∈S3->jd x y=some (mG x y):=by
 have h:(S3.all fun x=>S3.all fun y=>(jd x y).isSome)=true:=by decide+kernel
 intro x a y c;have:=List.all_eq_true.1 (List.all_eq_true.1 h x a) y c;unfold mG;cases e:jd x y with
 |none=>rw[e] at this;cases this
 |some b=>rfl
theorem JZ:∀x,x∈S3->∀y,y∈S3->pE x y=some (jP x y):=by
 have h:(S3.all fun x=>S3.all fun y=>(pE x y).isSome)=true:=by decide+kernel
 intro x a y c;have:=List.all_eq_true.1 (List.all_eq_true.1 h x a) y c;unfold jP;cases e:pE x y with
 |none=>rw[e] at this;cases this
 |some b=>rfl
theorem J0:∀e0 e1 e2 a b c d:Bool,pV [([],e0),([0],e1),([1],e2),([0,1],a),([2],b),([0,2],c),([1,2],d),([0,1,2],true)]=some (iT [([],e0),([0],e1),([0,1],a),([1],e2),([1,2],d),([0,1,2],true),([0,2],c),([2],b)] [0,1,2]):=by decide+kernel
theorem J1:∀e0 e1 e2:Bool,pV [([],e0),([0],e1),([1],e2),([0,1],true)]=some (iT [([],e0),([0],e1),([0,1],true),([1],e2)] [0,1]):=by decide+kernel
theorem J2:∀e0:Bool,pV [([],e0),([0],true)]=some (iT [([],e0),([0],true)] [0]):=by decide+kernel
theorem J3 {u:an}(P Q:List (List Int×List bM)){b:List Int}(f:∀x,x∈P->x.1∈S3)(h:P.length<=8)
  (c:pV (P.map fun x=>(x.1,cC u x.2))=some (iT (Q.map fun x=>(x.1,cC u x.2)) b)):
  ∃a l,bD (((P.map fun x=>(x.1,cC u x.2)).filter (·.2)).map (·.1)) 0=some a/\iF (((P.map fun x=>(x.1,cC u x.2)).filter (·.2)).map (·.1)) 1 (((((P.map fun x=>(x.1,cC u x.2)).filter (·.2)).map (·.1)).length:Nat):Int)=some l/\
   oW jd a l=some (iT (Q.map fun x=>(x.1,cC u x.2)) b):=by
 unfold pV at c
 have hm:∀x,x∈((P.map fun x=>(x.1,cC u x.2)).filter (·.2)).map (·.1)->x∈S3:=fun x d=>by
  rw[List.mem_map] at d
  obtain ⟨y,e,rfl⟩:=d
  obtain ⟨e,-⟩:=List.mem_filter.1 e
  rw[List.mem_map] at e
  obtain ⟨z,g,rfl⟩:=e
  exact f z g
 generalize ((P.map fun x=>(x.1,cC u x.2)).filter (·.2)).map (·.1)=o at c hm
 cases o with
 |nil=>cases c
 |cons a l=>
  refine ⟨a,l,rfl,?_,?_⟩
  .unfold iF
   rw[if_pos (by simp;omega)]
   simp
  .rw[JW JY (hm a (List.mem_cons_self ..)) (fun x d=>hm x (List.mem_cons_of_mem _ d))]
   exact c
theorem J4 {S:List (List Int)}:∀(Q:List (List Int×Bool)) (b:List Int),(∀x,x∈Q->x.1∈S)->b∈S->iT Q b∈S:=by
 have key:∀(Q:List (List Int×Bool)) (i:Nat) (b:List Int),(∀x,x∈Q->x.1∈S)->b∈S->foldI (fun _ (x:List Int×Bool) b=>cond (jP x.1 b) (cond x.2 x.1 b) b) i Q b∈S:=by
  intro Q
  induction Q with
  |nil=>intro i b _ hb;exact hb
  |cons x Q ih=>
   intro i b a hb;unfold foldI;refine ih (i+1) _ (fun y c=>a y (List.mem_cons_of_mem _ c)) ?_;have:=a x (List.mem_cons_self ..);cases jP x.1 b<;>cases x.2<;>assumption
 exact fun Q b=>key Q 0 b
theorem J5 {x:List Int}(h:x∈S3):x.length<=3:=by
 have:(S3.all fun x=>decide (x.length<=3))=true:=aB;simpa using List.all_eq_true.1 this x h
structure Cd (u:an)(P Q:List (List Int×List bM))(b:List Int):Prop where
 fP:∀(i:Nat) x,P[i]?=some x->bR (rD (i:Int)) 0 u.told (([]:List Int),([]:List bM))=some (.nx x)
 fs:∀x,x∈P->(∀t,t∈x.2->t∈u.told)/\x.2.length<=3
 fl:P.length<=8
 fp:∀x,x∈P->x.1∈S3
 J6:tf 1 (u.told.length:Int)=some (P.length:Int)
 fQ:∀x,x∈Q->yC u x.1=some (wt u x.2)/\(∀t,t∈x.2->t∈u.told)/\x.2.length<=3
 fq:∀x,x∈Q->x.1∈S3
 fb:b∈S3
 J7:Q.length<=8
 fU:Cn (u.told.length:Int)=some b
 fS:Dd (u.told.length:Int) (u.told.length:Int)=some (Q.map (·.1))
 ff:cC u u.told=true->pV (P.map fun x=>(x.1,cC u x.2))=some (iT (Q.map fun x=>(x.1,cC u x.2)) b)
theorem y8 {u:an}(F:Fit u)(f:fe u=some 0)(g:kD u=some 0){P Q:List (List Int×List bM)}{b:List Int}(D:Cd u P Q b):
  ∃r,kC u=some r/\De u=some r/\r.1.length<=3/\((bO u).isEmpty=false->r=([],0))/\((bO u).isEmpty=true->r=(iT (Q.map fun x=>(x.1,cC u x.2)) b,0)):=by
 unfold kC De
 rw[vf f,g,(pU F).1]
 simp only[ai,y6 F]
 rw[show ((0:Int) != 0)=false by decide]
 simp only[cond_false]
 cases c:(bO u).isEmpty with
 |false=>
  rw[show decide (0<((bO u).length:Int))=true by cases h:bO u<;>simp[h] at c ⊢]
  exact ⟨_,rfl,rfl,au,fun _=>rfl,fun e=>by cases e⟩
 |true=>
  rw[show decide (0<((bO u).length:Int))=false by cases h:bO u<;>simp[h] at c ⊢]
  obtain ⟨a,l,e1,e2,i⟩:=J3 (u:=u) P Q D.fp D.fl (D.ff c)
  simp only[Bool.not_true,cond_false,D.J6,JV F P D.fP D.fs D.fl,aJ,e1,e2,i,D.fU,D.fS,JX F Q D.fQ JZ D.fq D.fb D.J7]
  exact ⟨_,rfl,rfl,J5 (J4 _ _ (fun x d=>by rw[List.mem_map] at d;obtain ⟨y,j,rfl⟩:=d;exact D.fq y j) D.fb),(fun e=>by cases e),fun _=>rfl⟩
theorem J8 (c d:Int)(f:ax)(g:List cv)(h:List cF)(j:List cq)(a:bM):Cd ⟨c,d,f,g,h,j,[a]⟩ [([],[]),([0],[a])] [([],[]),([0],[a])] [0]:=by
 refine ⟨fun i x b=>?_,fun x b=>?_,au,by simp[S3],rfl,fun x b=>?_,by simp[S3],by simp[S3],au,aj,aj,fun e=>?_⟩
 .have k:=(List.getElem?_eq_some_iff.1 b).1;simp only[List.length_cons,List.length_nil] at k;rcases (show i=0\/i=1 by omega) with rfl|rfl
  .cases b;show (_:Option _)=_;kernel_rfl
  .cases b;show (_:Option _)=_;kernel_rfl
 .simp only[List.mem_cons,List.not_mem_nil,or_false] at b;rcases b with rfl|rfl<;>exact ⟨au,au⟩
 .simp only[List.mem_cons,List.not_mem_nil,or_false] at b;rcases b with rfl|rfl<;>exact ⟨aj,au,au⟩
 .simp only[List.map_cons,List.map_nil,show cC ⟨c,d,f,g,h,j,[a]⟩ [a]=true from e];exact J2 _
theorem J9 (d f:Int)(g:ax)(h:List cv)(j:List cF)(k:List cq)(a b:bM):Cd ⟨d,f,g,h,j,k,[a,b]⟩ [([],[]),([0],[a]),([1],[b]),([0,1],[a,b])] [([],[]),([0],[a]),([0,1],[a,b]),([1],[b])] [0,1]:=by
 refine ⟨fun i x c=>?_,fun x c=>?_,au,by simp[S3],rfl,fun x c=>?_,by simp[S3],by simp[S3],au,aj,aj,fun e=>?_⟩
 .have l:=(List.getElem?_eq_some_iff.1 c).1;simp only[List.length_cons,List.length_nil] at l;rcases (show i=0\/i=1\/i=2\/i=3 by omega) with rfl|rfl|rfl|rfl;all_goals cases c;show (_:Option _)=_;kernel_rfl
 .simp only[List.mem_cons,List.not_mem_nil,or_false] at c;rcases c with rfl|rfl|rfl|rfl<;>exact ⟨au,au⟩
 .simp only[List.mem_cons,List.not_mem_nil,or_false] at c;rcases c with rfl|rfl|rfl|rfl<;>exact ⟨aj,au,au⟩
 .simp only[List.map_cons,List.map_nil,show cC ⟨d,f,g,h,j,k,[a,b]⟩ [a,b]=true from e];exact J1 _ _ _
theorem Ka (f g:Int)(h:ax)(j:List cv)(k:List cF)(l:List cq)(a b c:bM):Cd ⟨f,g,h,j,k,l,[a,b,c]⟩ [([],[]),([0],[a]),([1],[b]),([0,1],[a,b]),([2],[c]),([0,2],[a,c]),([1,2],[b,c]),([0,1,2],[a,b,c])] [([],[]),([0],[a]),([0,1],[a,b]),([1],[b]),([1,2],[b,c]),([0,1,2],[a,b,c]),([0,2],[a,c]),([2],[c])] [0,1,2]:=by
 refine ⟨fun i x d=>?_,fun x d=>?_,au,by simp[S3],rfl,fun x d=>?_,by simp[S3],by simp[S3],au,aj,aj,fun e=>?_⟩
 .have m:=(List.getElem?_eq_some_iff.1 d).1;simp only[List.length_cons,List.length_nil] at m;rcases (show i=0\/i=1\/i=2\/i=3\/i=4\/i=5\/i=6\/i=7 by omega) with rfl|rfl|rfl|rfl|rfl|rfl|rfl|rfl;all_goals cases d;show (_:Option _)=_;kernel_rfl
 .simp only[List.mem_cons,List.not_mem_nil,or_false] at d;rcases d with rfl|rfl|rfl|rfl|rfl|rfl|rfl|rfl<;>exact ⟨au,au⟩
 .simp only[List.mem_cons,List.not_mem_nil,or_false] at d;rcases d with rfl|rfl|rfl|rfl|rfl|rfl|rfl|rfl<;>exact ⟨aj,au,au⟩
 .simp only[List.map_cons,List.map_nil,show cC ⟨f,g,h,j,k,l,[a,b,c]⟩ [a,b,c]=true from e];exact J0 _ _ _ _ _ _ _
def mH (o:Nat)(S:List Int)(i:Nat):List Int:=(List.replicate o (S.flatMap fun n=>List.replicate i n)).flatten
def pW:List (List Int):=[[0],[0,1],[0,2],[0,1,2]]
def oh:List (Nat×Nat):=[(1,1),(1,2),(1,3),(1,4),(1,6),(1,9),(2,1),(3,1),(4,1),(6,1),(9,1),(2,2),(2,3),(3,2),(3,3)]
def y9 (l:List Int):Option (List Int):=ai (rA l) fun x=>uE x.2
def pX (c:Nat):Bool:=oh.all fun p=>pW.all fun S=>y9 (mH p.1 (S.map (· +(c:Int))) p.2)==some (S.map (· +(c:Int)))
theorem Kb:∀c:Fin 16,pX c.val=true:=by decide+kernel
theorem Kc:∀c:Fin 16,pX (16+c.val)=true:=by decide+kernel
theorem Ke:∀c:Fin 16,pX (32+c.val)=true:=by decide+kernel
theorem Kf:∀c:Fin 13,pX (48+c.val)=true:=by decide+kernel
theorem Kg {c:Nat}(h:c<=60):pX c=true:=by
 rcases Nat.lt_or_ge c 16 with x|x
 .exact Kb ⟨c,x⟩
 rcases Nat.lt_or_ge c 32 with y|y
 .have:=Kc ⟨c - 16,aa⟩
  rwa [show 16+(c - 16)=c by omega] at this
 rcases Nat.lt_or_ge c 48 with z|z
 .have:=Ke ⟨c - 32,aa⟩
  rwa [show 32+(c - 32)=c by omega] at this
 .have:=Kf ⟨c - 48,aa⟩
  rwa [show 48+(c - 48)=c by omega] at this
theorem Kh {c:Nat}(h:c<=60){p:Nat×Nat}(a:p∈oh){S:List Int}(b:S∈pW):y9 (mH p.1 (S.map (· +(c:Int))) p.2)=some (S.map (· +(c:Int))):=by
 have:=Kg h;unfold pX at this;rw[List.all_eq_true] at this;have:=this p a;rw[List.all_eq_true] at this;simpa using this S b
def pY (u:an)(i:Nat)(n:Int):Bool:=u.told.all fun t=>t.aY != (i:Int)||(c8 u (cI u i n)==t.bI)
def pL:List (List Int)->List (List Int)
 |[]=>[[]]
 |s::r=>s.flatMap fun n=>(pL r).map (n::·)
def kI (P:Nat->Int->Bool):Nat->List Int->Bool
 |_,[]=>true
 |i,x::r=>P i x&&kI P (i+1) r
def iU (P:Nat->Int->Bool):Nat->List (List Int)->List (List Int)
 |_,[]=>[]
 |i,s::r=>s.filter (P i)::iU P (i+1) r
def lM (u:an):List (List Int):=iU (pY u) 0 (u.aF.map fun e=>dR e.high)
theorem za:∀(l:List cq) (p:List Int),eg p l=(pL (l.map fun e=>dR e.high)).map (p++·)
 |[],p=>by simp[eg,pL]
 |e::l,p=>by
  unfold eg
  rw[List.map_cons]
  unfold pL
  rw[List.map_flatMap]
  congr 1
  funext n
  rw[za l (p++[n]),List.map_map]
  refine List.map_congr_left fun q _=>?_
  simp
theorem Dg {α β:Type}(p:α->Bool)(f:α->List β):∀l:List α,(l.filter p).flatMap f=l.flatMap fun x=>if p x then f x else []
 |[]=>rfl
 |x::l=>by
  rw[List.flatMap_cons,<-Dg p f l,List.filter_cons]
  cases p x<;>simp
theorem Dh (P:Nat->Int->Bool):∀(S:List (List Int)) (i:Nat),(pL S).filter (kI P i)=pL (iU P i S)
 |[],i=>rfl
 |s::r,i=>by
  rw[show iU P i (s::r)=s.filter (P i)::iU P (i+1) r from rfl,show pL (s::r)=s.flatMap fun n=>(pL r).map (n::·) from rfl,
   show pL (s.filter (P i)::iU P (i+1) r)=(s.filter (P i)).flatMap fun n=>(pL (iU P (i+1) r)).map (n::·) from rfl]
  rw[Dg,List.filter_flatMap]
  congr 1
  funext n
  rw[List.filter_map]
  cases h:P i n with
  |false=>
   rw[show (kI P i ∘ fun x=>n::x)=fun _=>false by funext q;simp[kI,h]]
   simp
  |true=>
   rw[show (kI P i ∘ fun x=>n::x)=kI P (i+1) by funext q;simp[kI,h],Dh P r (i+1)]
   rfl
theorem Di (P:Nat->Int->Bool):∀(h:List Int) (i:Nat),kI P i h=(List.range h.length).all fun j=>P (i+j) (h[j]?.getD 0)
 |[],i=>rfl
 |x::r,i=>by
  unfold kI
  rw[Di P r (i+1),List.length_cons,List.range_succ_eq_map,List.all_cons,List.all_map]
  congr 1
  refine congrArg (fun f=>List.all _ f) ?_
  funext j
  simp only[Function.comp]
  rw[show i+1+j=i+(j+1) by omega]
  rfl
theorem Ki {u:an}(F:Fit u){h:List Int}(H:kH u h):fJ u h=kI (pY u) 0 h:=by
 rw[Di,Bool.eq_iff_iff];unfold fJ;rw[List.all_eq_true,List.all_eq_true];constructor
 .intro a j d;rw[Nat.zero_add];unfold pY;rw[List.all_eq_true];intro t ht;by_cases c:t.aY=(j:Int)
  .have:=a t ht;unfold lI at this;rw[c,Int.toNat_natCast] at this;rw[this,Bool.or_true]
  .rw[show (t.aY != (j:Int))=true by simpa using c,Bool.true_or]
 .intro a t ht;obtain ⟨k,b⟩:=List.mem_iff_getElem?.1 ht;obtain ⟨e,b2⟩:=F.ob k t b;have f:=H.len;have:=a t.aY.toNat (by rw[List.mem_range];omega);rw[Nat.zero_add] at this;unfold pY at this;rw[List.all_eq_true] at this;have:=this t ht;rw[show (t.aY != (t.aY.toNat:Int))=false by rw[bne_eq_false_iff_eq];omega,Bool.false_or] at this;exact this
theorem zb {u:an}(F:Fit u):bO u=pL (lM u):=by
 unfold bO lM;rw[<-Dh];have e:eg [] u.aF=pL (u.aF.map fun e=>dR e.high):=by rw[za];simp
 rw[<-e];refine List.filter_congr fun h hm=>?_;exact Ki F (y4 hm)
theorem Dj:∀S:List (List Int),(pL S).length=(S.map List.length).foldr (· *·) 1
 |[]=>rfl
 |s::r=>by
  unfold pL
  rw[List.length_flatMap,List.map_cons,List.foldr_cons,<-Dj r]
  simp only[List.length_map]
  rw[List.map_const',List.sum_replicate_nat]
theorem Dk {α:Type}(x:List α)(m:Nat):∀o:Nat,(List.replicate o (List.replicate m x).flatten).flatten=(List.replicate (o*m) x).flatten
 |0=>by simp
 |o+1=>by
  rw[List.replicate_succ,List.flatten_cons,Dk x m o,<-List.flatten_append,List.replicate_append_replicate]
  congr 2
  rw[Nat.add_mul];omega
theorem Dl {α β:Type}(x:List β):∀l:List α,l.flatMap (fun _=>x)=(List.replicate l.length x).flatten
 |[]=>rfl
 |a::l=>by rw[List.flatMap_cons,Dl x l,List.length_cons,List.replicate_succ,List.flatten_cons]
theorem Dm:∀(S:List (List Int)) (i:Nat) (s:List Int),S[i]?=some s->(pL S).map (fun h=>h[i]?.getD 0)=mH (((S.take i).map List.length).foldr (· *·) 1) s (((S.drop (i+1)).map List.length).foldr (· *·) 1)
 |[],i,s,h=>by simp at h
 |a::r,0,s,h=>by
  have h:a=s:=by simpa using h
  subst h
  unfold pL mH
  rw[List.map_flatMap]
  simp only[List.take_zero,List.map_nil,List.foldr_nil,List.replicate_one,List.flatten_cons,List.flatten_nil,List.append_nil,Nat.zero_add,List.drop_succ_cons,List.drop_zero]
  rw[<-Dj]
  congr 1
  funext n
  rw[List.map_map,show ((fun h:List Int=>h[0]?.getD 0) ∘ fun x=>n::x)=fun _=>n from rfl,List.map_const']
 |a::r,i+1,s,h=>by
  have h:r[i]?=some s:=by simpa using h
  have ih:=Dm r i s h
  unfold pL
  rw[List.map_flatMap]
  have e:(fun n:Int=>List.map (fun h:List Int=>h[i+1]?.getD 0) (List.map (fun x=>n::x) (pL r)))=fun _=>(pL r).map fun h=>h[i]?.getD 0:=by
   funext n
   rw[List.map_map]
   rfl
  rw[e,ih,Dl]
  unfold mH
  rw[Dk]
  congr 2
end Go.Proofs.YtbpddfapodiemaaGreatDoor
end
section
namespace Go.Proofs.YtbpddfapodiemaaGreatDoor
open Go Go.Sep Go.Proofs
set_option maxRecDepth 100000
set_option maxHeartbeats 4000000
set_option linter.all false
theorem Dn (P:Nat->Int->Bool):∀(S:List (List Int)) (i j:Nat),(iU P i S)[j]?=S[j]?.map (List.filter (P (i+j)))
 |[],i,j=>by simp[iU]
 |s::r,i,0=>by simp[iU]
 |s::r,i,j+1=>by
  have:=Dn P r (i+1) j
  rw[show i+1+j=i+(j+1) by omega] at this
  simpa [iU] using this
theorem Dp (P:Nat->Int->Bool):∀(S:List (List Int)) (i:Nat),(iU P i S).length=S.length
 |[],i=>rfl
 |s::r,i=>by simp[iU,Dp P r (i+1)]
def dx (u:an)(i:Nat)(e:cq):List Int:=(dR e.high).filter (pY u i)
theorem vh {u:an}{i:Nat}{e:cq}(he:u.aF[i]?=some e):(lM u)[i]?=some (dx u i e):=by
 unfold lM;rw[Dn,List.getElem?_map,he];simp[dx]
theorem vi (u:an):(lM u).length=u.aF.length:=by unfold lM;rw[Dp,List.length_map]
theorem Kj (P:Int->Bool){b:dF}(d:0<=b.low)(f:b.low<=b.high)(g:b.high<=60)(i:b.high - b.low<3):
  (dR b).filter P=[]\/∃(c:Nat) (T:List Int),c<=60/\T∈pW/\(dR b).filter P=T.map (· +(c:Int)):=by
 obtain ⟨c,hc⟩:∃c:Nat,b.low=(c:Int):=⟨b.low.toNat,aa⟩
 rcases (show b.high=c\/b.high=c+1\/b.high=c+2 by omega) with h|h|h
 .have e:dR b=[(c:Int)]:=by unfold dR;rw[h,hc,show ((c:Int) - c+1).toNat=1 by omega];simp[List.range,List.range.loop]
  rw[e]
  cases p0:P c
  .left;simp[List.filter,p0]
  .right;exact ⟨c,[0],aa,aB,by simp[List.filter,p0]⟩
 .have e:dR b=[(c:Int),c+1]:=by unfold dR;rw[h,hc,show ((c:Int)+1 - c+1).toNat=2 by omega];simp[List.range,List.range.loop]
  rw[e]
  cases p0:P c<;>cases a:P (c+1)
  .left;simp[List.filter,p0,a]
  .right;exact ⟨c+1,[0],aa,aB,by simp[List.filter,p0,a]⟩
  .right;exact ⟨c,[0],aa,aB,by simp[List.filter,p0,a]⟩
  .right;exact ⟨c,[0,1],aa,aB,by simp[List.filter,p0,a];omega⟩
 .have e:dR b=[(c:Int),c+1,c+2]:=by unfold dR;rw[h,hc,show ((c:Int)+2 - c+1).toNat=3 by omega];simp[List.range,List.range.loop]
  rw[e]
  cases p0:P c<;>cases a:P (c+1)<;>cases p2:P (c+2)
  .left;simp[List.filter,p0,a,p2]
  .right;exact ⟨c+2,[0],aa,aB,by simp[List.filter,p0,a,p2]⟩
  .right;exact ⟨c+1,[0],aa,aB,by simp[List.filter,p0,a,p2]⟩
  .right;exact ⟨c+1,[0,1],aa,aB,by simp[List.filter,p0,a,p2];omega⟩
  .right;exact ⟨c,[0],aa,aB,by simp[List.filter,p0,a,p2]⟩
  .right;exact ⟨c,[0,2],aa,aB,by simp[List.filter,p0,a,p2];omega⟩
  .right;exact ⟨c,[0,1],aa,aB,by simp[List.filter,p0,a,p2];omega⟩
  .right;exact ⟨c,[0,1,2],aa,aB,by simp[List.filter,p0,a,p2];omega⟩
theorem Dq:∀{S:List (List Int)},pL S≠[]->∀s,s∈S->s≠[]
 |[],_,s,h=>by simp at h
 |a::r,b,s,h=>by
  have e:pL (a::r)=a.flatMap fun n=>(pL r).map (n::·):=rfl
  rcases List.mem_cons.1 h with rfl|h
  .intro he;rw[e,he] at b;exact b rfl
  .refine Dq (S:=r) (fun he=>?_) s h
   rw[e,he] at b
   exact b au
theorem Kk {o k:Nat}(d:1<=o)(e:1<=k){s:List Int}{n:Int}:n∈mH o s k↔n∈s:=by
 unfold mH;rw[List.mem_flatten];constructor
 .rintro ⟨l,b,a⟩;rw[List.mem_replicate] at b;rw[b.2,List.mem_flatMap] at a;obtain ⟨m,hm,c⟩:=a;rw[(List.mem_replicate.1 c).2];exact hm
 .intro a;exact ⟨_,List.mem_replicate.2 ⟨aa,rfl⟩,List.mem_flatMap.2 ⟨n,a,List.mem_replicate.2 ⟨aa,rfl⟩⟩⟩
def om (l:List Nat):Nat:=l.foldr (· *·) 1
theorem Kl {L:List Nat}(d:L.length<=3)(h:∀x,x∈L->1<=x/\x<=3){i:Nat}(hi:i<L.length):(om (L.take i),om (L.drop (i+1)))∈oh:=by
 match L,d,h,hi with
 |[a],_,h,hi=>
  obtain rfl:i=0:=by simpa using hi
  show (1,1)∈oh;decide
 |[a,b],_,h,hi=>
  have e:=h a au;have hb:=h b au;rcases (show a=1\/a=2\/a=3 by omega) with rfl|rfl|rfl<;>rcases (show b=1\/b=2\/b=3 by omega) with rfl|rfl|rfl<;>rcases (show i=0\/i=1 by simp at hi;omega) with rfl|rfl<;>decide
 |[a,b,c],_,h,hi=>
  have e:=h a au;have hb:=h b au;have hc:=h c au;rcases (show a=1\/a=2\/a=3 by omega) with rfl|rfl|rfl<;>rcases (show b=1\/b=2\/b=3 by omega) with rfl|rfl|rfl<;>rcases (show c=1\/c=2\/c=3 by omega) with rfl|rfl|rfl<;>rcases (show i=0\/i=1\/i=2 by simp at hi;omega) with rfl|rfl|rfl<;>decide
theorem ze {α β:Type}(f:α->β):∀l:List α,(l.flatMap fun x=>[f x])=l.map f
 |[]=>rfl
 |a::l=>by rw[List.flatMap_cons,ze f l];rfl
theorem vj {T:List Int}(h:T∈pW):1<=T.length/\T.length<=3:=by
 unfold pW at h;simp only[List.mem_cons,List.not_mem_nil,or_false] at h;rcases h with rfl|rfl|rfl|rfl<;>decide
variable {u:an}(F:Fit u)(aL:bO u ≠ []){i:Nat}{e:cq}(he:u.aF[i]? = some e)
include F aL he
theorem sk:∃(c:Nat) (T:List Int),c<=60/\T∈pW/\dx u i e=T.map (· +(c:Int)):=by
 obtain ⟨c1,c2,c3,c4,a⟩:=F.aY _ _ he;rcases Kj (pY u i) (b:=e.high) c2 c3 c4 a with h|h
 .rw[zb F] at aL;exact absurd h (Dq aL _ (List.mem_of_getElem? (vh he)))
 .exact h
theorem Dr:∃p,p∈oh/\1<=p.1/\1<=p.2/\(bO u).map (fun h=>h[i]?.getD 0)=mH p.1 (dx u i e) p.2:=by
 have hi:i<u.aF.length:=(List.getElem?_eq_some_iff.1 he).1;have o:=F.aF;have m:∀x,x∈(lM u).map List.length->1<=x/\x<=3:=fun x f=>by
  rw[List.mem_map] at f;obtain ⟨s,hs,rfl⟩:=f;obtain ⟨j,g⟩:=List.mem_iff_getElem?.1 hs;have k:j<u.aF.length:=by rw[<-vi u];exact (List.getElem?_eq_some_iff.1 g).1
  have l:=vh (u:=u) (List.getElem?_eq_getElem k);rw[g] at l;obtain ⟨c,T,-,n,e2⟩:=sk F aL (List.getElem?_eq_getElem k);rw[Option.some.inj l,e2,List.length_map];exact vj n
 have d:=Kl (L:=(lM u).map List.length) (by simp[vi];omega) m (i:=i) (by simp[vi];omega);refine ⟨_,d,?_,?_,?_⟩
 .revert d;generalize om _=a;generalize om _=b;intro d;have:∀q,q∈oh->1<=q.1:=aB;exact this _ d
 .revert d;generalize om _=a;generalize om _=b;intro d;have:∀q,q∈oh->1<=q.2:=aB;exact this _ d
 .rw[zb F,Dm _ i _ (vh he)];unfold om;rw[List.map_take,List.map_drop]
theorem jQ {n:Int}:n∈dx u i e↔∃h,h∈bO u/\h[i]?=some n:=by
 obtain ⟨p,d,a,p2,hc⟩:=Dr F aL he;rw[<-Kk a p2,<-hc,List.mem_map];constructor
 .rintro ⟨h,hm,rfl⟩;obtain ⟨m,b,_⟩:=(lK hm).1.gZ i e he;exact ⟨h,hm,by rw[b];rfl⟩
 .rintro ⟨h,hm,c⟩;exact ⟨h,hm,by rw[c];rfl⟩
theorem Km:bR (o9 (i:Int)) 0 ((bO u).map cG) []=some (.nx ((bO u).map fun h=>h[i]?.getD 0)):=by
 have hi:i<u.aF.length:=(List.getElem?_eq_some_iff.1 he).1;have d:=F.aF;have e:=(pU F).2;have key:=iS (f:=o9 (i:Int)) (g:=fun _ x (s:List Int)=>s++[(bt.get x (i:Int)).getD 0]) (I:=fun j s=>s.length<=j/\j<=(bO u).length) ((bO u).map cG) 0 [] ⟨au,aa⟩
  (fun j x s a k=>by
   rw[List.getElem?_map,Option.map_eq_some_iff] at a;obtain ⟨h,b,rfl⟩:=a;have l:j<(bO u).length:=(List.getElem?_eq_some_iff.1 b).1;obtain ⟨m,hm,hs,hb⟩:=vg F he (List.mem_of_getElem? b);have hg:bt.get (cG h) (i:Int)=some m:=r8 aa aa (by simpa using hm);refine ⟨?_,?_⟩
   .unfold o9;simp only[hg,ai,Option.getD_some];unfold de;rw[if_pos (by simp;omega)]
   .simp only[List.length_append,List.length_singleton];omega)
 rw[key.1,y7];congr 2;have e1:foldI (fun n x s=>s++[((cG x).get (i:Int)).getD 0]) 0 (bO u) []=foldI (fun _ x (s:List Int)=>s++(fun x:List Int=>[x[i]?.getD 0]) x) 0 (bO u) []:=by
  refine Dc _ _ _ fun j h s hm=>?_;obtain ⟨m,c,hs,hb⟩:=vg F he hm;have hg:bt.get (cG h) (i:Int)=some m:=r8 aa aa (by simpa using c);rw[hg];show _=s++[h[i]?.getD 0];rw[c]
 rw[e1,sd,List.nil_append];exact ze _ _
theorem zf:mC ⟨u,(bO u).map cG⟩ (i:Int)=some (dx u i e):=by
 obtain ⟨p,a,g,p2,hc⟩:=Dr F aL he;obtain ⟨c,T,b,d,f⟩:=sk F aL he;have hs:=Kh b a d;rw[<-f,<-hc] at hs;unfold mC;rw[Km F aL he];unfold y9 at hs;simp only[ai,aJ] at hs ⊢;cases h:rA ((bO u).map fun h=>h[i]?.getD 0) with
 |none=>rw[h] at hs;cases hs
 |some x=>
  rw[h] at hs;simp only at hs ⊢;rw[hs]
end Go.Proofs.YtbpddfapodiemaaGreatDoor
end
section
namespace Go.Proofs.YtbpddfapodiemaaGreatDoor
open Go Go.Sep Go.Proofs
set_option maxRecDepth 100000
set_option maxHeartbeats 4000000
theorem zg {a b c:ax}(d:0<a.den)(hb:0<b.den)(hc:0<c.den)(e:bQ b a=false)(f:bQ b c=true):bQ a c=true:=by
 cases h:bQ a c with
 |true=>rfl
 |false=>
  have:=pS hb d hc e h;rw[f] at this;cases this
section
variable {u:an}{s:bA}(F:Fit u)(hs:(1<=s.back/\s.back<=20)/\0<=s.high/\s.high<=60)
include F hs
structure zh (u:an)(s:bA)(i:Nat)(st:Int×ax):Prop where
 there:∃(n:Nat) (p:cv),n<i/\st=((n:Int),ez u s p)/\u.aE[n]?=some p/\∀(j:Nat) q,j<n->u.aE[j]?=some q->bQ (ez u s q) (ez u s p)=true
 TP:∀(j:Nat) q,j<i->u.aE[j]?=some q->bQ st.2 (ez u s q)=false
theorem Ds:∀(l:List cv) (i:Nat) (st:Int×ax),(∀(j:Nat) x,l[j]?=some x->u.aE[i+j]?=some x)->zh u s i st->zh u s (i+l.length) (foldI (gB u s) i l st)
 |[],i,st,_,h=>h
 |x::l,i,st,g,h=>by
  have b:u.aE[i]?=some x:=g 0 x rfl
  have hd:∀(j:Nat) q,u.aE[j]?=some q->0<(ez u s q).den:=fun j q a=>(u5 u F s hs j q a).den.1
  unfold foldI
  have key:zh u s (i+1) (gB u s i x st):=by
   obtain ⟨⟨n,p,o,e,d,k⟩,hm⟩:=h
   subst e
   unfold gB
   cases c:bQ (ez u s p) (ez u s x) with
   |true=>
    simp only[c,cond_true]
    refine ⟨⟨i,x,aa,rfl,b,fun j q f a=>?_⟩,fun j q f a=>?_⟩
    .exact zg (hd j q a) (hd n p d) (hd i x b) (hm j q f a) c
    .by_cases e:j=i
     .subst e;rw[b] at a;cases a;exact ji _
     .exact yU (zg (hd j q a) (hd n p d) (hd i x b) (hm j q aa a) c)
   |false=>
    simp only[c,cond_false]
    refine ⟨⟨n,p,aa,rfl,d,k⟩,fun j q f a=>?_⟩
    by_cases e:j=i
    .subst e;rw[b] at a;cases a;exact c
    .exact hm j q aa a
  have:=Ds l (i+1) _ (fun j y m=>by have:=g (j+1) y (by simpa using m);rwa [show i+(j+1)=i+1+j by omega] at this) key
  rwa [show i+1+l.length=i+(x::l).length by simp;omega] at this
theorem Kn:∃(n:Nat) (p:cv),ef u s=((n:Int),ez u s p)/\u.aE[n]?=some p/\(∀(j:Nat) q,u.aE[j]?=some q->bQ (ez u s p) (ez u s q)=false)/\∀(j:Nat) q,j<n->u.aE[j]?=some q->bQ (ez u s q) (ez u s p)=true:=by
 have c:=F.aE;cases he:u.aE with
 |nil=>rw[he] at c;simp at c
 |cons x l=>
  have d:u.aE[0]?=some x:=by rw[he];rfl
  have hb:=Ds F hs l 1 (0,ez u s x) (fun j y f=>by rw[he,Nat.add_comm];simpa using f)
   ⟨⟨0,x,aa,rfl,d,fun j q b=>absurd b aa⟩,fun j q b a=>by
    obtain rfl:j=0:=aa
    rw[d] at a;cases a;exact ji _⟩
  have ev:ef u s=foldI (gB u s) 1 l (0,ez u s x):=by unfold ef;rw[he]
  obtain ⟨⟨n,p,i,e,g,h⟩,hm⟩:=hb;rw[e] at hm ev;refine ⟨n,p,ev,by rw[<-he];exact g,fun j q a=>?_,fun j q b a=>h j q b (by rw[he];exact a)⟩;refine hm j q ?_ (by rw[he];exact a);have:=(List.getElem?_eq_some_iff.1 a).1;simp at this;omega
end
def gF (a b:ax):ax:=bX (a.num*b.den - b.num*a.den) (a.den*b.den).toNat
def sn (u:an)(s:bA):ax:=foldI (gM u s) 0 u.props ⟨0,0⟩
def oo (u:an)(s:bA):ax:=cond (bQ (ef u s).2 ⟨u.bU,1⟩) ⟨u.bU,1⟩ (ef u s).2
def so (u:an)(s:bA):ax:=cond (bQ (ef u s).2 ⟨u.bU,1⟩) (ef u s).2 ⟨u.bU,1⟩
def sr (u:an)(s:bA):ax:=cond (decide (0<(u.props.length:Int))) (cJ (so u s) (sn u s)) (so u s)
def dU (u:an)(s:bA):ax:=cJ (gF (oo u s) (sr u s)) ⟨0,1⟩
theorem Ko:Sm (⟨0,1⟩:ax) 1 1:=⟨aB,aB,aB⟩
theorem Kp {a b:ax}(c:SR a)(hb:SR b):Sm (gF a b) 40000000000 64000000:=by
 have d:=dX c.num (show b.den.natAbs<=8000 by have:=hb.den;omega);have e:=dX hb.num (show a.den.natAbs<=8000 by have:=c.den;omega);have f:=dX (show a.den.natAbs<=8000 by have:=c.den;omega) (show b.den.natAbs<=8000 by have:=hb.den;omega);have g:0<a.den*b.den:=Int.mul_pos c.den.1 hb.den.1;have:=jO (a.num*b.den - b.num*a.den) (a.den*b.den).toNat aa;unfold gF;exact ⟨Nat.le_trans this.num aa,this.den.1,by have:=this.den.2;omega⟩
theorem zi {a b:ax}(c:SR a)(hb:SR b):jg a b=some (gF a b):=yP c hb aB aB
theorem Kq {d:ax}(hd:Sm d 40000000000 64000000):ga d ⟨0,1⟩=some (cJ d ⟨0,1⟩):=by
 have a:=lF hd Ko aB aB;unfold ga;simp only[a.1,ai];unfold cJ bQ;cases decide (d.num*(⟨0,1⟩:ax).den<(⟨0,1⟩:ax).num*d.den)<;>rfl
section
variable {u:an}{s:bA}(F:Fit u)(hs:(1<=s.back/\s.back<=20)/\0<=s.high/\s.high<=60)
include F hs
theorem su:SR (⟨u.bU,1⟩:ax):=(rY F hs).mono aB aB
theorem Kr:SR (oo u s):=by
 unfold oo;cases bQ (ef u s).2 ⟨u.bU,1⟩
 .exact rZ F hs
 .exact su F hs
theorem Dt:SR (so u s):=by
 unfold so;cases bQ (ef u s).2 ⟨u.bU,1⟩
 .exact su F hs
 .exact rZ F hs
theorem zj (h:u.props≠[]):SR (sn u s):=by
 rcases CR F hs with ⟨c,_,_⟩|⟨st,b,_,a,d⟩
 .exact absurd c h
 .rw[yX F hs] at a;have e:sn u s=b:=(Prod.mk.inj (Option.some.inj a)).1;rw[e];exact d.sm
theorem Du:SR (sr u s):=by
 unfold sr;cases h:decide (0<(u.props.length:Int)) with
 |false=>exact Dt F hs
 |true=>
  refine lH (Dt F hs) (zj F hs fun e=>?_);rw[e] at h;simp at h
theorem Ks:n8 u s=some (dU u s):=by
 obtain ⟨c,h,i,j,g⟩:=pR F hs;have es:SR (ef u s).2:=rZ F hs;have ps:=su F hs;unfold n8;rw[g,yX F hs];simp only[ai,(lG es ps).1];have k:=Du F hs;have l:=Kr F hs;have key:∀a b:ax,SR a->SR b->ai (jg a b) (fun x=>ai (ga x ⟨0,1⟩) fun y=>some y)=some (cJ (gF a b) ⟨0,1⟩):=fun a b f hb=>by
  rw[zi f hb];simp only[ai];rw[Kq (Kp f hb)]
 simp only[ai] at key;unfold dU sr oo so;cases m:bQ (ef u s).2 ⟨u.bU,1⟩ with
 |true=>
  simp only[cond_true];cases d:decide (0<(u.props.length:Int)) with
  |true=>
   have cs:=zj F hs (fun e=>by rw[e] at d;simp at d);simp only[cond_true];rw[show foldI (gM u s) 0 u.props ⟨0,0⟩=sn u s from rfl,r4 es cs];exact key _ _ ps (lH es cs)
  |false=>exact key _ _ ps es
 |false=>
  simp only[cond_false];cases d:decide (0<(u.props.length:Int)) with
  |true=>
   have cs:=zj F hs (fun e=>by rw[e] at d;simp at d);simp only[cond_true];rw[show foldI (gM u s) 0 u.props ⟨0,0⟩=sn u s from rfl,r4 ps cs];exact key _ _ es (lH ps cs)
  |false=>exact key _ _ es ps
theorem vk:lq u s=some (dU u s):=by
 obtain ⟨r,b,a,_⟩:=yY F hs;rw[Ks F hs] at a;rw[b,<-a]
end
theorem sw {α:Type}{t:Nat->α->Option Int}:∀(l:List α) (i:Nat),(∀j x,l[j]?=some x->t (i+j) x=none)->dW t i l=none
 |[],i,_=>rfl
 |y::l,i,h=>by
  unfold dW
  have a:=h 0 y rfl
  rw[Nat.add_zero] at a
  rw[a]
  exact sw l (i+1) fun j x b=>by
   have:=h (j+1) x (by simpa using b)
   rwa [show i+(j+1)=i+1+j by omega] at this
theorem Kt {u:an}(h:fe u=some 0):gV u=0:=by
 have a:jJ u=some 0:=h;unfold jJ at a;rw[uS] at a;simp only[ai] at a;cases hg:(gV u != 0) with
 |true=>rw[hg] at a;exact Option.some.inj a
 |false=>simpa using hg
theorem Ku {u:an}(hg:gV u=0)(F:Fit u):fe u=some 0:=by
 have h:=F.aE;have hc:=F.bV;have i:=F.props;have k:=F.aF;have l:=F.told;show jJ u=some 0;unfold jJ;rw[uS,hg];show mq u=some 0;unfold mq;rw[(yK u aa).1,sw u.aE 0 fun j x c=>?_,eW.2 (show (2:Int)<=(u.aE.length:Int)/\(u.aE.length:Int)<=5 by omega)]
 .show mo u=some 0;unfold mo;obtain ⟨f,d⟩:=yM u aa aa;rw[uV u f d,sw u.props 0 fun j x c=>?_,show decide (3<(u.props.length:Int))=false by simp;omega]
  .show mm u=some 0;unfold mm;rw[uU,sw u.aF 0 fun j x c=>?_,eW.2 (show (1:Int)<=(u.aF.length:Int)/\(u.aF.length:Int)<=3 by omega)]
   .show mj u=some 0;unfold mj oS;rw[uT,sw u.told 0 fun j x c=>?_,show decide (3<(u.told.length:Int))=false by simp;omega]
    .rfl
    .obtain ⟨a,b⟩:=F.ob j x c;unfold jN iR;rw[cU aa,eW.2 ⟨a,aa⟩];rfl
   .obtain ⟨a,g,b2,b3,b4⟩:=F.aY j x c;unfold iQ lE;rw[eW.2 a,cU aa,show decide (3<=x.high.high - x.high.low)=false by simp;omega,decide_eq_true g,decide_eq_true b2,decide_eq_true b3];rfl
  .obtain ⟨a,b⟩:=F.prop j x c;have:=(d x.place).1;rw[a] at this;unfold iP;rw[<-Option.some.inj this,eW.2 b];rfl
 .obtain ⟨a,b⟩:=F.kG j x c;unfold gY;rw[cU aa,eW.2 a,eW.2 b];simp only[cond_true,Nat.zero_add];cases j with
  |zero=>rfl
  |succ j=>
   have m:=(List.getElem?_eq_some_iff.1 c).1;have e:u.aE[j]?=some (u.aE[j]'aa):=List.getElem?_eq_getElem _;have:=F.uW j _ x e c;simp only[e];rw[show decide (x.aV<=(u.aE[j]'aa).aV)=false by simp;omega];rfl
theorem Kv {l m:List Int}(h:l.length=m.length)(a:l.length<=3)(e:cG l=cG m):l=m:=by
 unfold cG at e;rw[bt.mk.injEq] at e;obtain ⟨e0,e1,e2⟩:=e;refine List.ext_getElem? fun i=>?_;by_cases hi:i<l.length
 .have hm:i<m.length:=aa;have key:l[i]?.getD 0=m[i]?.getD 0:=by
   rcases (show i=0\/i=1\/i=2 by omega) with rfl|rfl|rfl<;>assumption
  rw[List.getElem?_eq_getElem hi,List.getElem?_eq_getElem hm] at key ⊢;simpa using key
 .rw[List.getElem?_eq_none aa,List.getElem?_eq_none aa]
def mI (u:an)(h:List Int):Bool:=(List.range u.aF.length).all fun i=>!c8 u (cI u i (h[i]?.getD 0))
theorem Dv {α:Type}{g:Nat->Bool}:∀(l:List α) (i:Nat),ir (fun i _=>if g i then none else some false) i l=if (List.range' i l.length).all g then none else some false
 |[],_=>rfl
 |x::l,i=>by
  unfold ir
  rw[List.length_cons,List.range'_succ,List.all_cons]
  cases h:g i with
  |false=>simp[h]
  |true=>
   simp only[h,if_true,Bool.true_and]
   exact Dv l (i+1)
theorem Dw {u:an}(F:Fit u){h:List Int}(hm:h∈bO u)(all:List bt):kr (cG h) ⟨u,all⟩=some (mI u h):=by
 have b:=F.aF;unfold kr
 rw[ve (t:=fun i _=>if !c8 u (cI u i (h[i]?.getD 0)) then none else some false) u.aF 0 false fun j e s he=>by
  rw[Nat.zero_add];have c:j<u.aF.length:=(List.getElem?_eq_some_iff.1 he).1;obtain ⟨m,a,hs,hb⟩:=vg F he hm;have hg:bt.get (cG h) (j:Int)=some m:=r8 aa aa (by simpa using a);unfold uj ig;simp only[hg,ai,gd he,(oe F (s:=⟨e.back,m⟩) hb).1,hs]
  cases c8 u ⟨e.back,m⟩<;>rfl]
 rw[Dv (g:=fun i=>!c8 u (cI u i (h[i]?.getD 0)))];simp only[ai];unfold mI;rw[List.range_eq_range'];cases (List.range' 0 u.aF.length).all fun i=>!c8 u (cI u i (h[i]?.getD 0))<;>rfl
def jj (n m:Nat):Int:=if n=m then 1 else if n=0 then 2 else 0
theorem Dx {k:di}{f:bt->Option Bool}{g:bt->Bool}(e:k.all.length<=1000)(h:∀x,x∈k.all->f x=some (g x)):oX k f=some (jj (k.all.countP g) k.all.length):=by
 have key:=iS (f:=rj f) (ρ:=Int) (g:=fun _ x (n:Int)=>cond (g x) (n+1) n) (I:=fun j n=>0<=n/\n<=j/\j<=k.all.length) k.all 0 0 ⟨aa,aa,aa⟩
  (fun j x n a i=>by
   have m:j<k.all.length:=(List.getElem?_eq_some_iff.1 a).1;refine ⟨?_,by cases g x<;>simp<;>omega⟩;unfold rj;rw[h x (List.mem_of_getElem? a)];simp only[ai];rw[cU (n:=n+1) aa]
   cases g x<;>rfl)
 have b:∀(l:List bt) (j:Nat) (n:Int),foldI (fun _ x (n:Int)=>cond (g x) (n+1) n) j l n=n+(l.countP g:Nat):=by
  intro l
  induction l with
  |nil=>intro j n;simp[foldI]
  |cons x l ih=>
   intro j n;unfold foldI;rw[ih,List.countP_cons];cases g x<;>simp<;>omega
 rw[b] at key;unfold oX;rw[key.1];simp only[ai,aJ,Int.zero_add];unfold jj;by_cases c:k.all.countP g=k.all.length
 .rw[if_pos c,show (((k.all.countP g:Nat):Int)==(k.all.length:Int))=true by rw[c];simp];rfl
 .rw[if_neg c,show (((k.all.countP g:Nat):Int)==(k.all.length:Int))=false by simp;omega];simp only[cond_false];by_cases d:k.all.countP g=0
  .rw[if_pos d,d];rfl
  .rw[if_neg d,show (((k.all.countP g:Nat):Int)==0)=false by rw[beq_eq_false_iff_ne];omega];rfl
theorem Dy {u:an}(F:Fit u)(h:fe u=some 0):lu u=some (if (bO u).isEmpty then (0,9) else (jj ((bO u).countP (mI u)) (bO u).length,0)):=by
 have c:=(pU F).2;unfold lu;rw[se F (vf h)];simp only[ai];cases hs:(bO u).isEmpty with
 |true=>rfl
 |false=>
  simp only[Bool.false_eq_true,if_false];rw[show ((0:Int) != 0)=false by decide];simp only[cond_false];have key:∀x,x∈(bO u).map cG->kr x ⟨u,(bO u).map cG⟩=some ((kr x ⟨u,(bO u).map cG⟩).getD false):=fun x b=>by
   rw[List.mem_map] at b;obtain ⟨y,a,rfl⟩:=b;rw[Dw F a];rfl
  rw[Dx (k:=⟨u,(bO u).map cG⟩) (g:=fun x=>(kr x ⟨u,(bO u).map cG⟩).getD false) (by simp;omega) key];simp only[List.countP_map,List.length_map];have e:(bO u).countP ((fun x=>(kr x ⟨u,(bO u).map cG⟩).getD false) ∘ cG)=(bO u).countP (mI u):=List.countP_congr fun y a=>by
   simp only[Function.comp];rw[Dw F a];rfl
  rw[e]
theorem zk {u:an}{s:bA}(F:Fit u)(hs:(1<=s.back/\s.back<=20)/\0<=s.high/\s.high<=60):c8 u s=bQ u.bq (dU u s):=by
 obtain ⟨r,a,e,b⟩:=yY F hs;rw[vk F hs] at a;obtain rfl:=Option.some.inj a;have c:Sm u.bq 20 20:=⟨by have:=F.num;omega,by have:=F.den;omega,by have:=F.den;omega⟩
 have d:=lF c b aB aB;unfold c8 gU;rw[vk F hs];simp only[ai,d.2];rfl
structure TQ (u o:an):Prop where
 bV:o.bV=u.bV
 bU:o.bU=u.bU
 bq:o.bq=u.bq
 props:o.props=u.props
 aF:o.aF=u.aF
 told:o.told=u.told
 dS:∀x,x∈u.props->jK o x.place=jK u x.place
 zl:∀s:bA,(1<=s.back/\s.back<=20)/\0<=s.high/\s.high<=60->(ef o s).2=(ef u s).2
theorem Dz {n a b:Int}(c:a<=n)(d:n<=b):bZ n a b=true:=eW.2 ⟨c,d⟩
section
variable {u:an}{s:bA}(F:Fit u)(h:fe u = some 0)(hs:(1<=s.back/\s.back<=20)/\0<=s.high/\s.high<=60)
include F h hs
theorem DC:fO u [fy s]=some (u,0):=by
 have hb:fy s u=some 0:=by
  rw[Ju,Jv];unfold yS;rw[Dz hs.1.1 hs.1.2,Dz hs.2.1 hs.2.2];rfl
 rw[yR h hb];rfl
theorem Kw:o3 u s=some (gF ⟨u.bU,1⟩ (ef u s).2,0):=by
 unfold o3;obtain ⟨r,k1,a⟩:=CN F hs;obtain ⟨c,-,e2,d,b⟩:=pR F hs;have e:r=gF ⟨u.bU,1⟩ (ef u s).2:=by
  unfold uN at a;rw[b] at a;simp only[ai,zi (su F hs) (rZ F hs)] at a;exact (Option.some.inj a).symm
 simp only[DC F h hs,ai,bne_self_eq_false,cond_false,k1,e]
theorem Kx:nG u s=some (dU u s,bQ u.bq (dU u s),0):=by
 unfold nG;have e1:=(oe F hs).1;rw[zk F hs] at e1;simp only[DC F h hs,ai,bne_self_eq_false,cond_false,vk F hs,e1]
end
theorem DD {α σ τ ρ:Type}{f:τ->Option (Fl τ ρ)}{I:Nat->σ->Prop}(e:σ->Int->τ)(l:List α)(h:∀(i:Nat) x s,l[i]?=some x->I i s->∃s',f (e s (i:Int))=some (.nx (e s' ((i+1:Nat):Int)))/\I (i+1) s')(a:∀s,f (e s (l.length:Int))=some (.bk (e s (l.length:Int)))):
  ∀(k i n:Nat) (s:σ),I i s->i+k=l.length->k<n->∃s',bp f n (e s (i:Int))=some (.nx (e s' (l.length:Int)))/\I l.length s'
 |0,i,n+1,s,hs,hi,_=>by
  obtain rfl:i=l.length:=aa
  unfold bp
  rw[a]
  exact ⟨s,rfl,hs⟩
 |k+1,i,n+1,s,hs,hi,j=>by
  have b:i<l.length:=aa
  have c:l[i]?=some l[i]:=List.getElem?_eq_getElem b
  obtain ⟨s1,d,g⟩:=h i _ s c hs
  unfold bp
  rw[d]
  exact DD e l h a k (i+1) n _ g aa aa
theorem zm {α σ τ ρ:Type}{f:τ->Option (Fl τ ρ)}(I:Nat->σ->Prop)(e:σ->Int->τ)(l:List α)(a:l.length<=1000)(h:∀(i:Nat) x s,l[i]?=some x->I i s->∃s',f (e s (i:Int))=some (.nx (e s' ((i+1:Nat):Int)))/\I (i+1) s')(b:∀s,f (e s (l.length:Int))=some (.bk (e s (l.length:Int))))(s:σ)(hs:I 0 s):
  ∃s',bp f fu (e s 0)=some (.nx (e s' (l.length:Int)))/\I l.length s':=
 DD e l h b l.length 0 fu s hs aa (Nat.lt_of_le_of_lt a aB)
def vl (T:List bM)(l:List Int):List bM:=l.filterMap fun i=>T[i.toNat]?
def look (P:List (List Int×Bool))(x:List Int):Bool:=((P.find? fun y=>y.1==x).map (·.2)).getD false
def mJ (n:Nat):List (List Int):=match n with
 |0=>[[]]
 |1=>[[],[0]]
 |2=>[[],[0],[1],[0,1]]
 |_=>S3
structure DF (u:an)(l:List Int):Prop where
 mem:l∈mJ u.told.length
 ne:l≠[]
 TR:cC u (vl u.told l)=true
 less:∀i,i<l.length->l.eraseIdx i∈mJ u.told.length/\cC u (vl u.told (l.eraseIdx i))=false
 least:∀o,o∈mJ u.told.length->cC u (vl u.told o)=true->jP o l=false
def sx (S:List (List Int))(P:List (List Int×Bool))(l:List Int):Bool:=
 S.contains l&&!l.isEmpty&&look P l&&((List.range l.length).all fun i=>S.contains (l.eraseIdx i)&&!look P (l.eraseIdx i))&&S.all fun o=>!look P o||!jP o l
theorem Ky:∀e1 e2 a b c d:Bool,sx (mJ 3) [([],false),([0],e1),([1],e2),([0,1],a),([2],b),([0,2],c),([1,2],d),([0,1,2],true)] (iT [([],false),([0],e1),([0,1],a),([1],e2),([1,2],d),([0,1,2],true),([0,2],c),([2],b)] [0,1,2])=true:=by decide+kernel
theorem Kz:∀e1 e2:Bool,sx (mJ 2) [([],false),([0],e1),([1],e2),([0,1],true)] (iT [([],false),([0],e1),([0,1],true),([1],e2)] [0,1])=true:=by decide+kernel
theorem KA:sx (mJ 1) [([],false),([0],true)] (iT [([],false),([0],true)] [0])=true:=by decide+kernel
theorem DG:∀(l:List cq) (p:List Int),(∀e,e∈l->e.high.low<=e.high.high)->eg p l≠[]
 |[],p,_=>by simp[eg]
 |e::l,p,h=>by
  have a:=h e (List.mem_cons_self ..)
  unfold eg
  rw[show e.high=⟨e.high.low,e.high.high⟩ from rfl,C8 a,List.flatMap_cons]
  exact fun x=>DG l (p++[e.high.low]) (fun y b=>h y (List.mem_cons_of_mem _ b)) (List.append_eq_nil_iff.1 x).1
theorem KB {u:an}(F:Fit u):cC u []=false:=by
 unfold cC bO;have b:(eg [] (wt u []).aF).filter (fJ (wt u []))=eg [] u.aF:=List.filter_eq_self.2 fun _ _=>rfl;rw[b];have:=DG u.aF [] fun e he=>by
  obtain ⟨i,hi⟩:=List.mem_iff_getElem?.1 he;have:=F.aY i e hi;omega
 cases h:eg [] u.aF with
 |nil=>exact absurd h this
 |cons a l=>rfl
theorem zn {u:an}{P:List (List Int×Bool)}{l:List Int}(a:∀o,o∈mJ u.told.length->look P o=cC u (vl u.told o))(h:sx (mJ u.told.length) P l=true):DF u l:=by
 unfold sx at h;simp only[Bool.and_eq_true,List.all_eq_true,List.contains_iff_mem,Bool.or_eq_true,Bool.not_eq_true',List.mem_range] at h;obtain ⟨⟨⟨⟨c,d⟩,g⟩,b⟩,j⟩:=h;refine ⟨c,fun e=>?_,?_,fun i hi=>⟨(b i hi).1,?_⟩,fun o f k=>?_⟩
 .rw[e] at d;cases d
 .rw[<-a l c];exact g
 .rw[<-a _ (b i hi).1];exact (b i hi).2
 .rcases j o f with x|x
  .rw[a o f,k] at x;cases x
  .exact x
theorem KC {u:an}(F:Fit u)(p:fe u=some 0)(L:si u):((bO u).isEmpty=false/\kC u=some ([],0))\/((bO u).isEmpty=true/\∃l,kC u=some (l,0)/\DF u l):=by
 have q:kD u=some 0:=by
  obtain ⟨c,a,b⟩:=bars L;rw[p] at a;rw[b,<-a]
 cases he:(bO u).isEmpty with
 |false=>
  refine .inl ⟨rfl,?_⟩;unfold kC;rw[vf p];simp only[ai,y6 F,he];rfl
 |true=>
  refine .inr ⟨rfl,?_⟩;have n:cC u u.told=true:=he;have m:=KB F;have ht:=F.told;clear L;obtain ⟨e,f,g,i,j,k,T⟩:=u;rcases T with _|⟨a,_|⟨b,_|⟨c,_|⟨d,T⟩⟩⟩⟩
  .rw[show cC ⟨e,f,g,i,j,k,[]⟩ []=true from n] at m;cases m
  .obtain ⟨r,a1,a2,a3,a4,a5⟩:=y8 F p q (J8 ..);obtain rfl:=a5 he;refine ⟨_,a1,?_⟩;simp only[List.map_cons,List.map_nil,m,show cC ⟨e,f,g,i,j,k,[a]⟩ [a]=true from n];refine zn (P:=[([],cC ⟨e,f,g,i,j,k,[a]⟩ []),([0],cC ⟨e,f,g,i,j,k,[a]⟩ [a])]) (fun o h=>?_) ?_
   .have h:o∈[[],[0]]:=h;simp only[List.mem_cons,List.not_mem_nil,or_false] at h;rcases h with rfl|rfl<;>rfl
   .rw[m,show cC ⟨e,f,g,i,j,k,[a]⟩ [a]=true from n];exact KA
  .obtain ⟨r,a1,a2,a3,a4,a5⟩:=y8 F p q (J9 ..);obtain rfl:=a5 he;refine ⟨_,a1,?_⟩;simp only[List.map_cons,List.map_nil,m,show cC ⟨e,f,g,i,j,k,[a,b]⟩ [a,b]=true from n];refine zn (P:=[([],cC ⟨e,f,g,i,j,k,[a,b]⟩ []),([0],cC ⟨e,f,g,i,j,k,[a,b]⟩ [a]),([1],cC ⟨e,f,g,i,j,k,[a,b]⟩ [b]),([0,1],cC ⟨e,f,g,i,j,k,[a,b]⟩ [a,b])]) (fun o h=>?_) ?_
   .have h:o∈[[],[0],[1],[0,1]]:=h;simp only[List.mem_cons,List.not_mem_nil,or_false] at h;rcases h with rfl|rfl|rfl|rfl<;>rfl
   .rw[m,show cC ⟨e,f,g,i,j,k,[a,b]⟩ [a,b]=true from n];exact Kz _ _
  .obtain ⟨r,a1,a2,a3,a4,a5⟩:=y8 F p q (Ka ..);obtain rfl:=a5 he;refine ⟨_,a1,?_⟩;simp only[List.map_cons,List.map_nil,m,show cC ⟨e,f,g,i,j,k,[a,b,c]⟩ [a,b,c]=true from n];refine zn (P:=[([],cC ⟨e,f,g,i,j,k,[a,b,c]⟩ []),([0],cC ⟨e,f,g,i,j,k,[a,b,c]⟩ [a]),([1],cC ⟨e,f,g,i,j,k,[a,b,c]⟩ [b]),([0,1],cC ⟨e,f,g,i,j,k,[a,b,c]⟩ [a,b]),([2],cC ⟨e,f,g,i,j,k,[a,b,c]⟩ [c]),([0,2],cC ⟨e,f,g,i,j,k,[a,b,c]⟩ [a,c]),([1,2],cC ⟨e,f,g,i,j,k,[a,b,c]⟩ [b,c]),([0,1,2],cC ⟨e,f,g,i,j,k,[a,b,c]⟩ [a,b,c])]) (fun o h=>?_) ?_
   .have h:o∈S3:=h;simp only[S3,List.mem_cons,List.not_mem_nil,or_false] at h;rcases h with rfl|rfl|rfl|rfl|rfl|rfl|rfl|rfl<;>rfl
   .rw[m,show cC ⟨e,f,g,i,j,k,[a,b,c]⟩ [a,b,c]=true from n];exact Ky _ _ _ _ _ _
  .simp only[List.length_cons] at ht;omega
end Go.Proofs.YtbpddfapodiemaaGreatDoor
end

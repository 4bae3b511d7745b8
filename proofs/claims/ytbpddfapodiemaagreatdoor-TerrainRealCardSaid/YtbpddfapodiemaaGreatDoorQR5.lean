/- A part of the proof: QR5. -/
import Derived.Test.YtbpddfapodiemaaGreatDoorQR4
set_option linter.all false
section
namespace Go.Proofs.YtbpddfapodiemaaGreatDoor
open Go Go.Sep Go.Proofs
set_option maxRecDepth 100000
set_option maxHeartbeats 4000000
def uF (u0:an):Option (an×Int):=
 ai (ij u0 ([]:(List (an->Option Int)))) fun a=>cond ((a.2 != 0)) (some ((⟨0,0,(⟨0,0⟩:ax),([]:(List cv)),([]:(List cF)),([]:(List cq)),([]:(List bM))⟩:an),a.2)) (ai (xz u0.aE) fun b=>ai (uo u0.props) fun c=>ai (um u0.aF) fun d=>ai (uk u0.told) fun e=>some ((⟨u0.bV,u0.bU,u0.bq,b,c,d,e⟩:an),0))
theorem yb {ro:Addr->Option Value}(a6:dH ro)(u0:an){s1 z B C:Value}(E:bW ro u0 s1 z B C){r:(an×Int)}(h:uF u0=some r):e4 Tryz.prog 117 #[bv u0 s1 z B C] ro (fun v aW=>∃ao w1 w2 w3,v= .tuple #[bv r.1 ao w1 w2 w3,.int .i64 r.2]/\bW aW r.1 ao w1 w2 w3):=by
 unfold uF at h;have a7:=E.oc;simp only[bP] at a7;refine aD.go Tryz.func117 rfl Tryz.ntmps117 Tryz.results117 au fun main J hJ A a8 hd hs=>?_;have a9:=hs 0;clear hs;apply az hJ _;refine aA fun a F ba=>?_;try simp only[av] at ba
 refine aA fun b G bb=>?_;try simp only[av] at bb
 refine ah hJ (aC hJ ?_);revert h;refine bS fun c bc h=>?_;apply ag _;refine cw hJ _ (kz a6 u0 E ([]:(List (an->Option Int))) (aH.nil _ _) bc) fun v U ae al bd=>?_;obtain ⟨d,f,g,i,j,rfl,bj,bl⟩:=bd;have bm:=bj.oc;simp only[bP] at bm;have bo:=bl.oc;simp only[bP] at bo;replace E:=E.mono ae;replace G:=al.hd;replace F:=al.tl.hd;simp only[bF] at al;apply aO;apply ag _;refine aA fun k K br=>?_;try simp only[av] at br
 apply az hJ _;revert h;refine bh hJ (fun bs h=>?_) fun bs h=>?_
 .cases h;apply az hJ _;refine cg ?_;exact ⟨_,ae,Le.sub (List.nil_sublist _),_,_,_,_,rfl,⟨aH.nil _ _,aH.nil _ _,aH.nil _ _,aH.nil _ _⟩⟩
 refine aP hJ (ah hJ ?_);refine aG hJ fun cS=>?_;refine fc hJ mixed [13,14,15,16,17,18,19] (.pure 0 (.rd 1 (.pure 3 (.rd 4 (.pure 6 (.rd 7 (.pure 9 (.rd 10 (.one 2 (.pure 12 (.one 5 (.one 8 (.one 11 (.last 13 (.pure 14 (.last 15 (.pure 16 (.last 17 (.pure 18 (.last 19 .done)))))))))))))))))))) ⟨U,[(k,kn c.1 d f g i j),(b,bz 29),(a,bk u0 s1 z B C)]⟩ aN aj ?_;revert h;refine bS fun m b0 h=>?_;apply ag _;refine ew hJ (bx:=[]) [(k,kn c.1 d f g i j),(b,bz 29),(a,bk u0 s1 z B C)] [] _ (HT u0.aE E.e b0) (fun c0 L ar M N da=>?_);simp only[bw] at N;subst M;obtain ⟨d158,n,rfl,db⟩:=ar.len;refine ⟨⟨U,(k,kn c.1 d f g i j)::(b,bz 29)::(a,bk u0 s1 z B C)::L⟩,Le.refl _,?_⟩;refine ⟨aN,cp ?_⟩;revert h;refine bS fun o b1 h=>?_;apply ag _;refine ew hJ (bx:=[]) [(k,kn c.1 d f g i j),(b,bz 29),(a,bk u0 s1 z B C)] L _ (B4 u0.props E.p b1) (fun dd O V M N df=>?_);simp only[bw] at N;subst M;obtain ⟨d168,q,rfl,dk⟩:=V.len;refine ⟨⟨U,(k,kn c.1 d f g i j)::(b,bz 29)::(a,bk u0 s1 z B C)::(O++L)⟩,Le.refl _,?_⟩;refine ⟨aN,cp ?_⟩;revert h;refine bS fun s b2 h=>?_;apply ag _;refine ew hJ (bx:=[]) [(k,kn c.1 d f g i j),(b,bz 29),(a,bk u0 s1 z B C)] (O++L) _ (B3 u0.aF E.y b2) (fun dp P H M N dq=>?_);simp only[bw] at N;subst M;obtain ⟨d178,u,rfl,ds⟩:=H.len;refine ⟨⟨U,(k,kn c.1 d f g i j)::(b,bz 29)::(a,bk u0 s1 z B C)::(P++(O++L))⟩,Le.refl _,?_⟩;refine ⟨aN,cp ?_⟩;revert h;refine bS fun w b3 h=>?_;cases h;apply ag _;refine ew hJ (bx:=[]) [(k,kn c.1 d f g i j),(b,bz 29),(a,bk u0 s1 z B C)] (P++(O++L)) _ (xy u0.told E.t b3) (fun dt Q D M N du=>?_);simp only[bw] at N;subst M;obtain ⟨d188,x,rfl,dv⟩:=D.len;refine ⟨⟨U,(k,kn c.1 d f g i j)::(b,bz 29)::(a,bk u0 s1 z B C)::(Q++(P++(O++L)))⟩,Le.refl _,?_⟩;refine ⟨aN,cp ?_⟩;apply ag _;apply ah hJ;refine fY [1,2,3] fun dC b4 b5 ca=>?_;simp only[*,go_sem] at b4 b5 ca;clear a8 hd a9;refine aG hJ fun dE=>?_;apply aM hJ _;refine aG hJ fun a0=>?_;obtain ⟨dT,X,R,I,cb⟩:=ar.mc ((k,kn c.1 d f g i j)::(b,bk u0 (sl d158 m n) (sl d168 o q) (sl d178 s u) (sl d188 w x))::(a,bk u0 (sl d158 m n) (sl d168 o q) (sl d178 s u) (sl d188 w x))::(Q++(P++O))) ((k,kn c.1 d f g i j)::(b,bk u0 (sl d158 m n) (sl d168 o q) (sl d178 s u) (sl d188 w x))::(a,bk u0 (sl d158 m n) (sl d168 o q) (sl d178 s u) (sl d188 w x))::(Q++(P++O))) [] (by first|rfl|simp only[bw]|(simp only[bw];rfl)) (by first|rfl|simp only[bw]|(simp only[bw];rfl)) a0 (aK.cons K (aK.cons G (aK.cons F (aK.app D.j5 (aK.app H.j5 (V.j5))))));clear a0;refine cO hJ cb ?_;obtain ⟨ea,eb,-⟩:=I.op;replace K:=R.hd;replace G:=R.tl.hd;replace F:=R.tl.tl.hd;replace D:=D.mono X R.tl.tl.tl.l;replace H:=H.mono X R.tl.tl.tl.r.l;replace V:=V.mono X R.tl.tl.tl.r.r;simp only[bF] at R;refine aG hJ fun a2=>?_;obtain ⟨ec,Y,S,T,cd⟩:=V.mc ((k,kn c.1 d f g i j)::(b,bk u0 (sl d158 m n) (sl d168 o q) (sl d178 s u) (sl d188 w x))::(a,bk u0 (sl d158 m n) (sl d168 o q) (sl d178 s u) (sl d188 w x))::(Q++P)) ((k,kn c.1 d f g i j)::(b,bk u0 (sl d158 m n) (sl d168 o q) (sl d178 s u) (sl d188 w x))::(a,bk u0 (sl d158 m n) (sl d168 o q) (sl d178 s u) (sl d188 w x))::(Q++P)) [] (by first|rfl|simp only[bw]|(simp only[bw];rfl)) (by first|rfl|simp only[bw]|(simp only[bw];rfl)) a2 (aK.cons K (aK.cons G (aK.cons F (aK.app D.j5 (H.j5)))));clear a2;refine cO hJ cd ?_;obtain ⟨ed,eh,-⟩:=T.op;replace I:=I.mono Y;replace K:=S.hd;replace G:=S.tl.hd;replace F:=S.tl.tl.hd;replace D:=D.mono Y S.tl.tl.tl.l;replace H:=H.mono Y S.tl.tl.tl.r;simp only[bF] at S;refine aG hJ fun a3=>?_;obtain ⟨et,Z,W,ab,cf⟩:=H.mc ((k,kn c.1 d f g i j)::(b,bk u0 (sl d158 m n) (sl d168 o q) (sl d178 s u) (sl d188 w x))::(a,bk u0 (sl d158 m n) (sl d168 o q) (sl d178 s u) (sl d188 w x))::Q) ((k,kn c.1 d f g i j)::(b,bk u0 (sl d158 m n) (sl d168 o q) (sl d178 s u) (sl d188 w x))::(a,bk u0 (sl d158 m n) (sl d168 o q) (sl d178 s u) (sl d188 w x))::Q) [] (by first|rfl|simp only[bw]|(simp only[bw];rfl)) (by first|rfl|simp only[bw]|(simp only[bw];rfl)) a3 (aK.cons K (aK.cons G (aK.cons F (D.j5))));clear a3;refine cO hJ cf ?_;obtain ⟨ev,eQ,-⟩:=ab.op;replace I:=I.mono Z;replace T:=T.mono Z;replace K:=W.hd;replace G:=W.tl.hd;replace F:=W.tl.tl.hd;replace D:=D.mono Z W.tl.tl.tl;simp only[bF] at W;refine aG hJ fun a4=>?_;obtain ⟨eS,ad,cl,a5,cy⟩:=D.mc ((k,kn c.1 d f g i j)::(b,bk u0 (sl d158 m n) (sl d168 o q) (sl d178 s u) (sl d188 w x))::(a,bk u0 (sl d158 m n) (sl d168 o q) (sl d178 s u) (sl d188 w x))::[]) [(k,kn c.1 d f g i j),(b,bk u0 (sl d158 m n) (sl d168 o q) (sl d178 s u) (sl d188 w x)),(a,bk u0 (sl d158 m n) (sl d168 o q) (sl d178 s u) (sl d188 w x))] [] (by first|rfl|simp only[bw]|(simp only[bw];rfl)) (by first|rfl|simp only[bw]|(simp only[bw];rfl)) a4 (aK.cons K (aK.cons G (aK.cons F (aK.nil _))));clear a4;refine cO hJ cy ?_;obtain ⟨e0,e1,-⟩:=a5.op;replace I:=I.mono ad;replace T:=T.mono ad;replace ab:=ab.mono ad;simp only[bF] at cl;refine cg ?_;exact ⟨_,((((ae).trans X).trans Y).trans Z).trans ad,Le.sub (List.nil_sublist _),_,_,_,_,rfl,⟨I,T,ab,a5⟩⟩
def yc (u0:Int)(a:Int):Option Int:=
 ai (o7 u0) fun c=>ai (o7 a) fun b=>cond (c) (cond (b) (some 0) (some (-1))) (cond (b) (some 1) (cond (decide (u0<a)) (some (-1)) (cond (decide (a<u0)) (some 1) (some 0))))
theorem Ir {ro:Addr->Option Value}(u0:Int)(a:Int){r:Int}(h:yc u0 a=some r):aD Tryz.prog 146 #[.int .i64 u0,.int .i64 a] ⟨ro,[]⟩ (fun v _=>v= .int .i64 r):=by
 unfold yc at h;refine aD.go Tryz.func146 rfl Tryz.ntmps146 Tryz.results146 au fun main J hJ A j hd hs=>?_;have k:=hs 0;have k1:=hs 1;clear hs;apply az hJ _;apply aC hJ;revert h;refine bS fun l b h=>?_;apply ag _;refine bf hJ _ (uz u0 b) (aO ?_);apply ag _;apply aC hJ;revert h;refine bS fun m c h=>?_;apply ag _;refine bf hJ _ (uz a c) (aO ?_);apply ag _;refine ah hJ (aC hJ ?_);apply ag _;revert h;refine bh hJ (fun d h=>?_) fun d h=>?_
 .refine ah hJ (aC hJ ?_);apply ag _;revert h;refine bh hJ (fun e h=>?_) fun e h=>?_
  .cases h;apply az hJ _;apply aQ;simp only[*,go_sem]
  cases h;refine aP hJ (ah hJ ?_);apply aM hJ _;apply aQ;simp only[*,go_sem]
 refine aP hJ (ah hJ ?_);apply az hJ _;revert h;refine bh hJ (fun f h=>?_) fun f h=>?_
 .cases h;apply az hJ _;apply aQ;simp only[*,go_sem]
 refine aP hJ (ah hJ ?_);apply az hJ _;revert h;refine bh hJ (fun g h=>?_) fun g h=>?_
 .cases h;apply az hJ _;apply aQ;simp only[*,go_sem]
 refine aP hJ (ah hJ ?_);apply az hJ _;revert h;refine bh hJ (fun i h=>?_) fun i h=>?_
 .cases h;apply az hJ _;apply aQ;simp only[*,go_sem]
 cases h;refine aP hJ (ah hJ ?_);apply aM hJ _;apply aQ;simp only[*,go_sem]
def yd (a:(List Int))(i16:Nat)(c:Int)(st:Int):Option (Fl Int Int):=
 cond (decide ((a.length:Int)<=(i16:Int))) (some (.rt 1)) (ai (bD a (i16:Int)) fun d=>ai (yc c d) fun b=>cond ((b != 0)) (some (.rt b)) (some (.nx st)))
def ye (u0:(List Int))(a:(List Int)):Option Int:=
 ai (bR (yd a) 0 u0 0) fun o=>aJ o (fun b=>cond (decide ((u0.length:Int)<(a.length:Int))) (some (-1)) (some 0)) (fun _ _=>none) (fun r=>some r)
theorem It {ro:Addr->Option Value}(u0:(List Int)){s1:Value}(g:aH rI ro s1 u0)(d:(List Int)){i:Value}(j:aH rI ro i d){r:Int}(h:ye u0 d=some r):aD Tryz.prog 111 #[s1,i] ⟨ro,[]⟩ (fun v _=>v= .int .i64 r):=by
 obtain ⟨d3,c4,rfl,U,w,-⟩:=id g;obtain ⟨d10,V,rfl,W,X,-⟩:=id j;unfold ye at h;refine aD.go Tryz.func111 rfl Tryz.ntmps111 Tryz.results111 au fun main J hJ A y hd hs=>?_;have z:=hs 0;have k1:=hs 1;clear hs;apply az hJ _;refine ah hJ (aC hJ ?_);apply ag _;apply aX hJ;revert h;refine bS fun B a e=>?_;refine cc hJ (rg 11 20 [4,5,6,7,8]) (fun m k F'=>∃(i16:Nat) (c:Int),m=u0.length - i16/\i16<=u0.length/\bR (yd d) i16 (u0.drop i16) c=some B/\F'=⟨ro,[]⟩/\slot k 11= .int .i64 (i16:Int)/\slot k 4= .int .i64 c) u0.length ?_ ?_
 .refine ⟨0,0,(Nat.sub_zero _).symm,Nat.zero_le _,a,rfl,?_⟩;simp only[*,go_sem]
 rintro Y Z F' l ⟨i16,c,rfl,ab,a,rfl,ad,ae⟩;obtain ⟨C,D,E⟩:=l.pick [0,1,9,10] aB;simp only[*,go_sem] at C D E;clear l y hd z k1;apply az hJ _;apply ah hJ;rcases Nat.lt_or_ge i16 u0.length with F|o
 .refine cB hJ ?_;apply aP hJ;obtain ⟨p,f⟩:∃x,u0[i16]?=some x:=⟨_,List.getElem?_eq_getElem F⟩
  rw[dK f] at a;revert a;refine bS fun al h b=>?_;unfold yd at h;try dsimp only at h
  obtain ⟨ao,G,H,I,q⟩:=g.el _ _ f;obtain rfl:G=[.int .i64 p]:=I;cases H;have K:=q 0 _ rfl;simp only[go_sem] at K;clear q f;refine ah hJ (aX hJ (ah hJ ?_));apply aM hJ _;refine ah hJ (aC hJ ?_);apply ag _;revert h;refine bh hJ (fun L h=>?_) fun L h=>?_
  .cases h;apply az hJ _;obtain rfl:=sI b;clear b;have h:=e;dsimp only[aJ] at h;cases h;apply aQ;simp only[*,go_sem]
  refine aP hJ (ah hJ ?_);apply aS hJ;revert h;refine bS fun s M h=>?_;obtain ⟨ar,a0,t⟩:=cP M;obtain ⟨a2,N,O,P,u⟩:=j.el _ _ t;obtain rfl:N=[.int .i64 s]:=P;cases O;have Q:=u 0 _ rfl;simp only[go_sem] at Q;clear u t;apply ag _;apply aC hJ;revert h;refine bS fun a3 R h=>?_;apply ag _;refine bf hJ _ (Ir p s R) (aO ?_);apply ag _;apply az hJ _;revert h;refine bh hJ (fun S h=>?_) fun S h=>?_
  .cases h;apply az hJ _;obtain rfl:=sI b;clear b;have h:=e;dsimp only[aJ] at h;cases h;apply aQ;simp only[*,go_sem]
  cases h;apply aP hJ;have a4:=cK (n:=i16) (by have:=w;omega);apply aM hJ _;refine ⟨u0.length - (i16+1),aa,_,Le.sub (List.Sublist.refl _),i16+1,c,rfl,aa,b,rfl,?_⟩;simp only[*,go_sem]
 have a5:=Nat.not_lt.2 o;refine cx hJ ?_;rw[List.drop_eq_nil_of_le o] at a;obtain rfl:=sI a;clear a;have h:=e;dsimp only[aJ] at h;apply b6;simp only[go_sem];refine ah hJ (aC hJ ?_);apply ag _;revert h;refine bh hJ (fun T h=>?_) fun T h=>?_
 .cases h;apply az hJ _;apply aQ;simp only[*,go_sem]
 cases h;refine aP hJ (ah hJ ?_);apply aM hJ _;apply aQ;simp only[*,go_sem]
def jd (u0:(List Int))(a:(List Int)):Option Bool:=
 cond (decide ((a.length:Int)<(u0.length:Int))) (some true) (cond (((a.length:Int)==(u0.length:Int))) (ai (ye a u0) fun b=>some (decide (b<0))) (some false))
theorem Iu {ro:Addr->Option Value}(u0:(List Int)){s1:Value}(d:aH rI ro s1 u0)(a:(List Int)){e:Value}(f:aH rI ro e a){r:Bool}(h:jd u0 a=some r):aD Tryz.prog 110 #[s1,e] ⟨ro,[]⟩ (fun v _=>v= .bool r):=by
 obtain ⟨d3,c4,rfl,i,j,-⟩:=id d;obtain ⟨d10,k,rfl,l,m,-⟩:=id f;unfold jd at h;refine aD.go Tryz.func110 rfl Tryz.ntmps110 Tryz.results110 au fun main J hJ A n hd hs=>?_;have o:=hs 0;have k1:=hs 1;clear hs;apply az hJ _;apply aC hJ;revert h;refine cS (fun b h=>?_) fun b h=>?_
 .cases h;try simp only[Int.ofNat_lt] at b
  apply ag _;apply aQ;simp only[*,go_sem]
 try simp only[Int.ofNat_lt] at b
 revert h;refine cS (fun c h=>?_) fun c h=>?_
 .try simp only[Int.ofNat_lt] at c
  revert h;refine bS fun p g h=>?_;cases h;apply ag _;refine bf hJ _ (It a (f.mono bn) u0 (d.mono bn) g) (aO ?_);apply ag _;apply aQ;simp only[*,go_sem]
 cases h;try simp only[Int.ofNat_lt] at c
 apply ag _;apply aQ;simp only[*,go_sem]
def mB (u0:an)(b:Int):Option (Int×Int):=
 ai (ij u0 ([(fA b)])) fun a=>cond ((a.2 != 0)) (some (0,a.2)) (ai (oX a.1 (fun c=>kq c a.1 b)) fun d=>some (d,0))
theorem yf {ro:Addr->Option Value}(j:dH ro)(u0:an){s1 k l m:Value}(i:bW ro u0 s1 k l m)(c:Int){r:(Int×Int)}(h:mB u0 c=some r):aD Tryz.prog 23 #[bv u0 s1 k l m,.int .i64 c] ⟨ro,[]⟩ (fun v _=>v= .tuple #[.int .i64 r.1,.int .i64 r.2]):=by
 unfold mB at h;have G:=i.oc;simp only[bP] at G;refine aD.go Tryz.func23 rfl Tryz.ntmps23 Tryz.results23 au fun main J hJ A ae hd hs=>?_;have al:=hs 0;have k1:=hs 1;clear hs;apply az hJ _;refine aA fun H I K=>?_;try simp only[av] at K
 refine aA fun u L M=>?_;try simp only[av] at M
 apply ah hJ;refine aG hJ fun N=>?_;apply aS hJ;revert h;refine bS fun n O h=>?_;apply ag _;refine aA fun f w z=>?_;have B:=aZ.cons z N;try simp only[av] at z
 obtain ⟨q,C,D⟩:=fM (b:=f) (o:=(.cells #[.func (.func 86) #[.int .i64 c] #[]] 116)) [] ((u,ic c)::(H,bk u0 s1 k l m)::[]) B w (aK.cons L (aK.cons I (aK.nil _)));have E:aH (dw) (b7 ro f (.cells #[.func (.func 86) #[.int .i64 c] #[]] 116)) (.slice (some ⟨f,0,none⟩) 1 1) [(fA c)]:=(aH.one (r:=(dw)) (e:=116) (cs:=#[.func (.func 86) #[.int .i64 c] #[]]) (x:=(fA c)) (own:=[(f,.cells #[.func (.func 86) #[.int .i64 c] #[]] 116)]) w (by simp[lk]) ⟨86,#[.int .i64 c],#[],rfl,⟨by simp only[go_sem],fun P a g _ _ _ _ _ Q R S T h=>by simp only[go_sem];exact tQ c g ⟨Q,R,S,T⟩ h⟩⟩)
 generalize b7 ro f (.cells #[.func (.func 86) #[.int .i64 c] #[]] 116)=ao at E C q D;refine hU hJ D ?_;replace i:=i.mono q;replace j:=j.mono q;simp only[bF] at C;have U:=aZ.tl B;refine cw hJ _ (kz j u0 i ([(fA c)]) E O) fun v ar a0 V W=>?_;obtain ⟨a2,a3,a4,a5,a6,rfl,d,s⟩:=W;have X:=d.oc;simp only[bP] at X;simp only[bF] at V;obtain ⟨d41,a7,rfl,a8,a9,-⟩:=id d.e;obtain ⟨d48,ba,rfl,bb,bc,-⟩:=id d.p;obtain ⟨d55,bd,rfl,bj,bl,-⟩:=id d.y;obtain ⟨d62,bm,rfl,bo,br,-⟩:=id d.t;obtain ⟨d69,bs,rfl,bz,b0,-⟩:=id s;apply aO;apply ag _;refine aA fun Y b1 F=>?_;have b2:=aZ.cons F U;try simp only[av] at F
 refine ah hJ (aC hJ ?_);apply ag _;revert h;refine bh hJ (fun Z h=>?_) fun Z h=>?_
 .cases h;apply az hJ _;apply aQ;simp only[*,go_sem]
 refine aP hJ (ah hJ ?_);apply aS hJ;revert h;refine bS fun b3 ab h=>?_;cases h;apply ag _;refine bf hJ _ (B2 (dg:=96) (dL:=#[]) (dM:=#[.pointer (some ⟨Y,0,none⟩),.pointer (some ⟨u,0,none⟩)]) n.1 (d.mono bn) (s.mono bn) (fun g=>kq g n.1 c) ⟨by simp only[go_sem],fun P a g b4 ad=>by simp only[go_sem];exact HO g n.1 (a _ _ (by simp only[af.cN,go_sem, *])) (a _ _ (by simp only[af.cN,go_sem, *])) (a _ _ (by simp only[af.cN,go_sem, *])) (a _ _ (by simp only[af.cN,go_sem, *])) ((d.e.mono bn).mono a) (a _ _ (by simp only[af.cN,go_sem, *])) ((d.p.mono bn).mono a) (a _ _ (by simp only[af.cN,go_sem, *])) ((d.y.mono bn).mono a) (a _ _ (by simp only[af.cN,go_sem, *])) ((d.t.mono bn).mono a) (a _ _ (by simp only[af.cN,go_sem, *])) ((s.mono bn).mono a) (a _ _ (by simp only[af.cN,go_sem, *])) c (a _ _ (by simp only[af.cN,go_sem, *])) ad⟩ ab) (aO ?_);apply ag _;apply aQ;simp only[*,go_sem]
def lu (u0:an):Option (Int×Int):=
 ai (ij u0 ([]:(List (an->Option Int)))) fun a=>cond ((a.2 != 0)) (some (0,a.2)) (ai (oX a.1 (fun b=>kr b a.1)) fun c=>some (c,0))
theorem rC {ro:Addr->Option Value}(l:dH ro)(u0:an){s1 g i j:Value}(k:bW ro u0 s1 g i j){r:(Int×Int)}(h:lu u0=some r):aD Tryz.prog 25 #[bv u0 s1 g i j] ⟨ro,[]⟩ (fun v _=>v= .tuple #[.int .i64 r.1,.int .i64 r.2]):=by
 unfold lu at h;have m:=k.oc;simp only[bP] at m;refine aD.go Tryz.func25 rfl Tryz.ntmps25 Tryz.results25 au fun main J hJ A D hd hs=>?_;have E:=hs 0;clear hs;apply az hJ _;refine aA fun F G n=>?_;try simp only[av] at n
 apply aC hJ;revert h;refine bS fun c o h=>?_;apply ag _;refine cw hJ _ (kz l u0 k ([]:(List (an->Option Int))) (aH.nil _ _) o) fun v H I q s=>?_;obtain ⟨K,L,M,N,O,rfl,b,d⟩:=s;have u:=b.oc;simp only[bP] at u;simp only[bF] at q;obtain ⟨d37,P,rfl,Q,R,-⟩:=id b.e;obtain ⟨d44,S,rfl,T,U,-⟩:=id b.p;obtain ⟨d51,V,rfl,W,X,-⟩:=id b.y;obtain ⟨d58,Y,rfl,Z,ab,-⟩:=id b.t;obtain ⟨d65,ad,rfl,ae,al,-⟩:=id d;apply aO;apply ag _;refine aA fun w ao x=>?_;try simp only[av] at x
 refine ah hJ (aC hJ ?_);apply ag _;revert h;refine bh hJ (fun z h=>?_) fun z h=>?_
 .cases h;apply az hJ _;apply aQ;simp only[*,go_sem]
 refine aP hJ (ah hJ ?_);apply aS hJ;revert h;refine bS fun ar B h=>?_;cases h;apply ag _;refine bf hJ _ (B2 (dg:=100) (dL:=#[]) (dM:=#[.pointer (some ⟨w,0,none⟩)]) c.1 (b.mono bn) (d.mono bn) (fun f=>kr f c.1) ⟨by simp only[go_sem],fun a0 a f a2 C=>by simp only[go_sem];exact HP f c.1 (a _ _ (by simp only[af.cN,go_sem, *])) (a _ _ (by simp only[af.cN,go_sem, *])) (a _ _ (by simp only[af.cN,go_sem, *])) (a _ _ (by simp only[af.cN,go_sem, *])) ((b.e.mono bn).mono a) (a _ _ (by simp only[af.cN,go_sem, *])) ((b.p.mono bn).mono a) (a _ _ (by simp only[af.cN,go_sem, *])) ((b.y.mono bn).mono a) (a _ _ (by simp only[af.cN,go_sem, *])) ((b.t.mono bn).mono a) (a _ _ (by simp only[af.cN,go_sem, *])) ((d.mono bn).mono a) (a _ _ (by simp only[af.cN,go_sem, *])) C⟩ B) (aO ?_);apply ag _;apply aQ;simp only[*,go_sem]
def yg (a:(di×Int))(i74:Nat)(i83:Nat)(b:bt)(st:Int):Option (Fl Int (Int×Int×Int)):=
 ai (bt.get b (i74:Int)) fun c=>ai (ig a.1.book (i74:Int) c) fun d=>ai (gU a.1.book d) fun e=>cond (e) (some (.nx (IntKind.i64.wrap (st+1)))) (some (.nx st))
def yh (b:(di×Int))(i74:Nat)(c:cq)(st:(Int×Int)):Option (Fl (Int×Int) (Int×Int×Int)):=
 ai (bR (yg b i74) 0 b.1.all 0) fun o=>aJ o (fun a=>cond (decide ((if a<IntKind.i64.wrap ((b.1.all.length:Int) - a) then IntKind.i64.wrap ((b.1.all.length:Int) - a) else a)<st.2)) (some (.nx ((i74:Int),(if a<IntKind.i64.wrap ((b.1.all.length:Int) - a) then IntKind.i64.wrap ((b.1.all.length:Int) - a) else a)))) (some (.nx (st.1,st.2)))) (fun _ _=>none) (fun r=>some (.rt r))
def yj (u0:an):Option (Int×Int×Int):=
 ai (ij u0 ([]:(List (an->Option Int)))) fun a=>cond ((a.2 != 0)) (some (0,0,a.2)) (ai (bR (yh a) 0 a.1.book.aF ((-1),(a.1.all.length:Int))) fun o=>aJ o (fun b=>some (b.1,b.2,0)) (fun _ _=>none) (fun r=>some r))
theorem Iv {ro:Addr->Option Value}(V:dH ro)(u0:an){s1 g i j:Value}(w:bW ro u0 s1 g i j){r:(Int×Int×Int)}(h:yj u0=some r):aD Tryz.prog 47 #[bv u0 s1 g i j] ⟨ro,[]⟩ (fun v _=>v= .tuple #[.int .i64 r.1,.int .i64 r.2.1,.int .i64 r.2.2]):=by
 unfold yj at h;have W:=w.oc;simp only[bP] at W;refine aD.go Tryz.func47 rfl Tryz.ntmps47 Tryz.results47 au fun main J hJ A X hd hs=>?_;have Y:=hs 0;clear hs;apply az hJ _;refine aA fun z dq Z=>?_;try simp only[av] at Z
 apply aC hJ;revert h;refine bS fun a ab h=>?_;apply ag _;refine cw hJ _ (kz V u0 w ([]:(List (an->Option Int))) (aH.nil _ _) ab) fun v B ds ad ae=>?_;obtain ⟨C,D,dt,E,du,rfl,f,G⟩:=ae;have al:=f.oc;simp only[bP] at al;simp only[bF] at ad;obtain ⟨d51,H,rfl,dv,I,-⟩:=id f.y;obtain ⟨d65,K,rfl,dC,L,-⟩:=id G;apply aO;apply ag _;refine aA fun M dE ao=>?_;try simp only[av] at ao
 refine ah hJ (aC hJ ?_);apply ag _;revert h;refine bh hJ (fun ar h=>?_) fun ar h=>?_
 .cases h;apply az hJ _;apply aQ;simp only[*,go_sem]
 refine aP hJ (ah hJ ?_);refine dh hJ mixed 5 2 aN aj ?_;apply ag _;refine ah hJ (aC hJ ?_);apply ag _;apply aX hJ;revert h;refine bS fun a0 c a2=>?_;refine cc hJ (rg 27 36 [2,3,6,7,9,10]) (fun m e F'=>∃(i74:Nat) (k:Int) (l:Int),m=a.1.book.aF.length - i74/\i74<=a.1.book.aF.length/\bR (yh a) i74 (a.1.book.aF.drop i74) (k,l)=some a0/\F'=⟨B,(M,kn a.1 C D (sl d51 a.1.book.aF H) E (sl d65 a.1.all K))::(z,bk u0 s1 g i j)::[]⟩/\slot e 27= .int .i64 (i74:Int)/\slot e 2= .int .i64 k/\slot e 3= .int .i64 l) a.1.book.aF.length ?_ ?_
 .refine ⟨0,(-1),(a.1.all.length:Int),(Nat.sub_zero _).symm,Nat.zero_le _,c,rfl,?_⟩;simp only[*,go_sem]
 rintro dT a3 F' N ⟨i74,k,l,rfl,ea,c,rfl,a4,a5,a6⟩;obtain ⟨O,P,Q⟩:=N.pick [4,5,26] aB;simp only[*,go_sem] at O P Q;clear N X hd Y;apply az hJ _;apply ah hJ;rcases Nat.lt_or_ge i74 a.1.book.aF.length with a7|R
 .refine cB hJ ?_;apply aP hJ;obtain ⟨a8,q⟩:∃x,a.1.book.aF[i74]?=some x:=⟨_,List.getElem?_eq_getElem a7⟩
  rw[dK q] at c;revert c;refine bS fun eb h S=>?_;unfold yh at h;try dsimp only at h
  obtain ⟨a9,ba,bb,bc,o⟩:=f.y.el _ _ q;obtain rfl:ba=a8.cells:=bc;cases bb;have bd:=o 0 _ rfl;simp only[go_sem] at bd;have bj:=o 1 _ rfl;simp only[go_sem] at bj;have bl:=o 2 _ rfl;simp only[go_sem] at bl;clear o q;refine ah hJ (aX hJ (ah hJ ?_));apply aM hJ _;apply az hJ _;refine ah hJ (aC hJ ?_);apply ag _;apply aX hJ;revert h;refine bS fun bm d bo=>?_;refine cc hJ (rg 33 17 [7,9]) (fun m e F'=>∃(i83:Nat) (b:Int),m=a.1.all.length - i83/\i83<=a.1.all.length/\bR (yg a i74) i83 (a.1.all.drop i83) b=some bm/\F'=⟨B,(M,kn a.1 C D (sl (some a9) a.1.book.aF H) E (sl d65 a.1.all K))::(z,bk u0 s1 g i j)::[]⟩/\slot e 33= .int .i64 (i83:Int)/\slot e 7= .int .i64 b) a.1.all.length ?_ ?_
  .refine ⟨0,0,(Nat.sub_zero _).symm,Nat.zero_le _,d,rfl,?_⟩;simp only[*,go_sem]
  rintro ec br F' s ⟨i83,b,rfl,ed,d,rfl,eh,et⟩;obtain ⟨bs,bz,b0⟩:=s.pick [2,3,4,5,6,26,27,28,29,30,31,32] aB;simp only[*,go_sem] at bs bz b0;have ev:c6 (rg 27 36 [2,3,6,7,9,10]) br a3:=(s.gN aB).trans aN;clear s O P Q a5 a6 a4;apply az hJ _;apply ah hJ;rcases Nat.lt_or_ge i83 a.1.all.length with b1|T
  .refine cB hJ ?_;apply aP hJ;obtain ⟨b2,t⟩:∃x,a.1.all[i83]?=some x:=⟨_,List.getElem?_eq_getElem b1⟩
   rw[dK t] at d;revert d;refine bS fun eQ h U=>?_;unfold yg at h;(try dsimp only at h);obtain ⟨eS,b3,b4,b5,p⟩:=G.el _ _ t;obtain rfl:b3=b2.cells:=b5;cases b4;have ca:=p 0 _ rfl;simp only[go_sem] at ca;have cb:=p 1 _ rfl;simp only[go_sem] at cb;have cd:=p 2 _ rfl;simp only[go_sem] at cd;clear p t;refine ah hJ (aX hJ (ah hJ ?_));apply aM hJ _;refine aA fun e0 e1 cf=>?_;try simp only[av] at cf
   apply ah hJ;refine dh hJ mixed 10 3 aN aj ?_;revert h;refine bS fun cl cy h=>?_;obtain ⟨e2,e3,cS⟩:=bt.get_some cy;(try simp only[go_sem] at cS);revert h;refine bS fun c0 da h=>?_;apply ag _;refine ⟨_,bL hJ fun F u=>nk a.1.book (f.mono (cm u)) (i74:Int) cl da,cr ?_⟩;revert h;refine bS fun fa db h=>?_;apply ag _;refine ⟨_,bL hJ fun F u=>nE a.1.book (f.mono (cm u)) c0 db,?_⟩;revert h;refine bh hJ (fun dd h=>?_) fun dd h=>?_
   .cases h;apply aM hJ _;have df:=cK (n:=i83) (by have:=L;omega);apply aM hJ _;refine ⟨a.1.all.length - (i83+1),aa,_,Le.sub (List.Sublist.cons _ (List.Sublist.refl _)),i83+1,(IntKind.i64.wrap (b+1)),rfl,aa,U,rfl,?_⟩;simp only[*,go_sem]
   cases h;apply aP hJ;have df:=cK (n:=i83) (by have:=L;omega);apply aM hJ _;refine ⟨a.1.all.length - (i83+1),aa,_,Le.sub (List.Sublist.cons _ (List.Sublist.refl _)),i83+1,b,rfl,aa,U,rfl,?_⟩;simp only[*,go_sem]
  have fb:=Nat.not_lt.2 T;refine cx hJ ?_;rw[List.drop_eq_nil_of_le T] at d;obtain rfl:=sI d;clear d;have h:=bo;dsimp only[aJ] at h;apply b6;simp only[go_sem];apply az hJ _;apply az hJ _;revert h;refine bh hJ (fun dk h=>?_) fun dk h=>?_
  .cases h;apply aM hJ _;have dp:=cK (n:=i74) (by have:=I;omega);apply aM hJ _;refine ⟨a.1.book.aF.length - (i74+1),aa,_,Le.sub (List.Sublist.refl _),i74+1,(i74:Int),(if b<IntKind.i64.wrap ((a.1.all.length:Int) - b) then IntKind.i64.wrap ((a.1.all.length:Int) - b) else b),rfl,aa,S,rfl,?_⟩;simp only[*,go_sem]
  cases h;apply aP hJ;have dp:=cK (n:=i74) (by have:=I;omega);apply aM hJ _;refine ⟨a.1.book.aF.length - (i74+1),aa,_,Le.sub (List.Sublist.refl _),i74+1,k,l,rfl,aa,S,rfl,?_⟩;simp only[*,go_sem]
 have ff:=Nat.not_lt.2 R;refine cx hJ ?_;rw[List.drop_eq_nil_of_le R] at c;obtain rfl:=sI c;clear c;have h:=a2;dsimp only[aJ] at h;cases h;apply b6;simp only[go_sem];apply az hJ _;apply aQ;simp only[*,go_sem]
def o8 (u0:an):Option Int:=
 cond (((u0.props.length:Int)==3)) (some 2) (some 0)
theorem Iw {ro:Addr->Option Value}(u0:an){s1 b c d:Value}(a:bW ro u0 s1 b c d){r:Int}(h:o8 u0=some r):aD Tryz.prog 69 #[bv u0 s1 b c d] ⟨ro,[]⟩ (fun v _=>v= .int .i64 r):=by
 obtain ⟨d3,c4,rfl,i,j,-⟩:=id a.e;obtain ⟨d10,k,rfl,l,m,-⟩:=id a.p;obtain ⟨d17,n,rfl,o,q,-⟩:=id a.y;obtain ⟨d24,s,rfl,u,w,-⟩:=id a.t;unfold o8 at h;refine aD.go Tryz.func69 rfl Tryz.ntmps69 Tryz.results69 au fun main J hJ A x hd hs=>?_;have z:=hs 0;clear hs;apply az hJ _;refine aA fun B C f=>?_;try simp only[av] at f
 refine ah hJ (aC hJ ?_);apply ag _;revert h;refine bh hJ (fun g h=>?_) fun g h=>?_
 .cases h;apply az hJ _;apply aQ;simp only[*,go_sem]
 cases h;refine aP hJ (ah hJ ?_);apply aM hJ _;apply aQ;simp only[*,go_sem]
def uG (u0:an)(c:bM):Option (an×Int):=
 ai (fe u0) fun a=>cond ((a != 0)) (some ((⟨0,0,(⟨0,0⟩:ax),([]:(List cv)),([]:(List cF)),([]:(List cq)),([]:(List bM))⟩:an),a)) (ai (uk u0.told) fun d=>ai (de d ([c])) fun e=>ai (uF (⟨u0.bV,u0.bU,u0.bq,u0.aE,u0.props,u0.aF,e⟩:an)) fun b=>some (b.1,b.2))
theorem uH {ro:Addr->Option Value}(k:dH ro)(u0:an){s1 c d f:Value}(b:bW ro u0 s1 c d f)(a:bM){r:(an×Int)}(h:uG u0 a=some r):e4 Tryz.prog 48 #[bv u0 s1 c d f,.agg #[.int .i64 a.aY,.bool a.bI]] ro (fun v aW=>∃L w1 w2 w3,v= .tuple #[bv r.1 L w1 w2 w3,.int .i64 r.2]/\bW aW r.1 L w1 w2 w3):=by
 unfold uG at h;refine aD.go Tryz.func48 rfl Tryz.ntmps48 Tryz.results48 au fun main J hJ A ca hd hs=>?_;have cb:=hs 0;have k1:=hs 1;clear hs;apply az hJ _;refine aA fun g u ab=>?_;try simp only[av] at ab
 refine aA fun i w ad=>?_;try simp only[av] at ad
 refine aA fun j z ae=>?_;try simp only[av] at ae
 refine ah hJ (aC hJ ?_);revert h;refine bS fun cd al h=>?_;apply ag _;refine bf hJ _ (BY (k.mono bn) u0 (b.e.mono bn) (b.p.mono bn) (b.y.mono bn) (b.t.mono bn) al) (aO ?_);apply ag _;apply az hJ _;revert h;refine bh hJ (fun ao h=>?_) fun ao h=>?_
 .cases h;apply az hJ _;refine cg ?_;exact ⟨_,Ext.refl _,Le.sub (List.nil_sublist _),_,_,_,_,rfl,⟨aH.nil _ _,aH.nil _ _,aH.nil _ _,aH.nil _ _⟩⟩
 refine aP hJ (ah hJ ?_);refine aG hJ fun ar=>?_;refine fc hJ mixed [7] (.pure 0 (.rd 1 (.rd 3 (.two 2 (.one 4 (.one 5 (.pure 6 (.last 7 .done)))) 4 (.one 2 (.one 5 (.pure 6 (.last 7 .done)))))))) ⟨ro,[(j,bz 29),(i,.cells #[.int .i64 a.aY,.bool a.bI] 86),(g,bk u0 s1 c d f)]⟩ aN aj ?_;apply ag _;refine k6 ?_ ?_
 .revert h;refine bS fun a0 a2 h=>?_;apply ag _;refine ew hJ (bx:=[]) [(j,bz 29),(i,.cells #[.int .i64 a.aY,.bool a.bI] 86),(g,bk u0 s1 c d f)] [] _ (xy u0.told b.t a2) (fun cf a3 M m n a4=>?_);simp only[bw] at n;subst m;obtain ⟨d174,cl,rfl,cy⟩:=M.len;refine ⟨⟨ro,(j,bz 29)::(i,.cells #[.int .i64 a.aY,.bool a.bI] 86)::(g,bk u0 s1 c d f)::a3⟩,Le.refl _,?_⟩;refine ⟨aN,cp ?_⟩;revert h;refine bS fun N a5 h=>?_;obtain ⟨a6,O⟩:=dQ a5;apply ag _;refine aA fun D P Q=>?_;have a7:=aZ.cons Q a4;try simp only[av] at Q
  apply ag _;refine eD (r:=dG) (l:=a0) (x:=a) (cs:=#[.int .i64 a.aY,.bool a.bI]) (e2:=86) [(D,.cells #[.int .i64 a.aY,.bool a.bI] 86),(j,bz 29),(i,.cells #[.int .i64 a.aY,.bool a.bI] 86),(g,bk u0 s1 c d f)] [] M a7 a6 rfl aN P rfl rfl eG eG iH iJ rfl iI aB aB (fun cS a8 E m n c0=>?_);simp only[bw] at n;subst m;rw[<-O] at E;clear O;obtain ⟨d186,a9,rfl,da⟩:=E.len;refine ⟨⟨ro,(D,.cells #[.int .i64 a.aY,.bool a.bI] 86)::(j,bz 29)::(i,.cells #[.int .i64 a.aY,.bool a.bI] 86)::(g,bk u0 s1 c d f)::a8⟩,Le.refl _,?_⟩;refine ⟨aN,cp ?_⟩;apply ag _;apply ah hJ;refine aG hJ fun R=>?_;obtain ⟨db,F,B,S,ba⟩:=E.fj [(D,.cells #[.int .i64 a.aY,.bool a.bI] 86),(j,bz 29),(i,.cells #[.int .i64 a.aY,.bool a.bI] 86),(g,bk u0 s1 c d (sl d186 N a9))] [] R (aK.cons P (aK.cons z (aK.cons w (aK.cons u (aK.nil _)))));clear R;refine cO hJ ba ?_;obtain ⟨dd,df,-⟩:=S.op;replace b:=b.mono F;replace z:=B.tl.hd;replace w:=B.tl.tl.hd;replace u:=B.tl.tl.tl.hd;replace k:=k.mono F;simp only[bF] at B;apply aS hJ;revert h;refine bS fun dk bb h=>?_;cases h;apply ag _;refine cw hJ _ (yb k (⟨u0.bV,u0.bU,u0.bq,u0.aE,u0.props,u0.aF,N⟩:an) ⟨b.e,b.p,b.y,S⟩ bb) fun v dp G C H=>?_;obtain ⟨dq,ds,dt,du,rfl,o⟩:=H;replace b:=b.mono G;replace z:=C.tl.hd;replace w:=C.tl.tl.hd;replace u:=C.tl.tl.tl.hd;replace k:=k.mono G;simp only[bF] at C;obtain ⟨d208,dv,rfl,dC,dE,-⟩:=id o.e;obtain ⟨d215,dT,rfl,ea,eb,-⟩:=id o.p;obtain ⟨d222,ec,rfl,ed,eh,-⟩:=id o.y;obtain ⟨d229,et,rfl,ev,eQ,-⟩:=id o.t;apply aO;apply ag _;refine cg ?_;exact ⟨_,(F).trans G,Le.sub (List.nil_sublist _),_,_,_,_,rfl,o⟩
 revert h;refine bS fun bc bd h=>?_;apply ag _;refine aA fun q T U=>?_;have eS:=aZ.cons U ar;try simp only[av] at U
 apply ag _;refine ew hJ (bx:=[]) [(q,.cells #[.int .i64 a.aY,.bool a.bI] 86),(j,bz 29),(i,.cells #[.int .i64 a.aY,.bool a.bI] 86),(g,bk u0 s1 c d f)] [] _ (xy u0.told b.t bd) (fun e0 bj V m n bl=>?_);simp only[bw] at n;subst m;obtain ⟨e1,e3,rfl,fa⟩:=V.len;refine ⟨⟨ro,(q,.cells #[.int .i64 a.aY,.bool a.bI] 86)::(j,bz 29)::(i,.cells #[.int .i64 a.aY,.bool a.bI] 86)::(g,bk u0 s1 c d f)::bj⟩,Le.refl _,?_⟩;refine ⟨aN,cp ?_⟩;revert h;refine bS fun W bm h=>?_;obtain ⟨bo,X⟩:=dQ bm;apply ag _;refine eD (r:=dG) (l:=bc) (x:=a) (cs:=#[.int .i64 a.aY,.bool a.bI]) (e2:=86) [(q,.cells #[.int .i64 a.aY,.bool a.bI] 86),(j,bz 29),(i,.cells #[.int .i64 a.aY,.bool a.bI] 86),(g,bk u0 s1 c d f)] [] V bl bo rfl aN T rfl rfl eG eG iH iJ rfl iI aB aB (fun fb br I m n ff=>?_);simp only[bw] at n;subst m;rw[<-X] at I;clear X;obtain ⟨bs,b0,rfl,fg⟩:=I.len;refine ⟨⟨ro,(q,.cells #[.int .i64 a.aY,.bool a.bI] 86)::(j,bz 29)::(i,.cells #[.int .i64 a.aY,.bool a.bI] 86)::(g,bk u0 s1 c d f)::br⟩,Le.refl _,?_⟩;refine ⟨aN,cp ?_⟩;apply ag _;apply ah hJ;refine aG hJ fun Y=>?_;obtain ⟨fi,K,b1,Z,b2⟩:=I.fj [(q,.cells #[.int .i64 a.aY,.bool a.bI] 86),(j,bz 29),(i,.cells #[.int .i64 a.aY,.bool a.bI] 86),(g,bk u0 s1 c d (sl bs W b0))] [] Y (aK.cons T (aK.cons z (aK.cons w (aK.cons u (aK.nil _)))));clear Y;refine cO hJ b2 ?_;obtain ⟨fl,fp,-⟩:=Z.op;replace b:=b.mono K;replace k:=k.mono K;simp only[bF] at b1;apply aS hJ;revert h;refine bS fun fq b3 h=>?_;cases h;apply ag _;refine cw hJ _ (yb k (⟨u0.bV,u0.bU,u0.bq,u0.aE,u0.props,u0.aF,W⟩:an) ⟨b.e,b.p,b.y,Z⟩ b3) fun v fr b4 b5 H=>?_;obtain ⟨fs,ft,fu,fv,rfl,s⟩:=H;simp only[bF] at b5;obtain ⟨fw,fx,rfl,fz,fP,-⟩:=id s.e;obtain ⟨fQ,fS,rfl,fU,gg,-⟩:=id s.p;obtain ⟨gl,gn,rfl,gp,gB,-⟩:=id s.y;obtain ⟨gC,gM,rfl,gT,gV,-⟩:=id s.t;apply aO;apply ag _;refine cg ?_;exact ⟨_,(K).trans b4,Le.sub (List.nil_sublist _),_,_,_,_,rfl,s⟩
def yl (u0:an)(c:Int)(a:dF):Option (an×Int):=
 ai (fO u0 ([(fA c)])) fun e=>cond ((e.2 != 0)) (some ((⟨0,0,(⟨0,0⟩:ax),([]:(List cv)),([]:(List cF)),([]:(List cq)),([]:(List bM))⟩:an),e.2)) (ai (qZ a 0 60) fun g=>cond (!g) (some ((⟨0,0,(⟨0,0⟩:ax),([]:(List cv)),([]:(List cF)),([]:(List cq)),([]:(List bM))⟩:an),1)) (ai (um u0.aF) fun d=>ai (bD d c) fun b=>cond (decide ((if a.high<b.high.high then a.high else b.high.high)<(if b.high.low<a.low then a.low else b.high.low))) (some ((⟨0,0,(⟨0,0⟩:ax),([]:(List cv)),([]:(List cF)),([]:(List cq)),([]:(List bM))⟩:an),9)) (ai (bD d c) fun h=>ai (uF (⟨u0.bV,u0.bU,u0.bq,u0.aE,u0.props,(d.set (c).toNat (⟨h.back,(⟨(if b.high.low<a.low then a.low else b.high.low),(if a.high<b.high.high then a.high else b.high.high)⟩:dF)⟩:cq)),u0.told⟩:an)) fun f=>some (f.1,f.2))))
theorem Cf {ro:Addr->Option Value}(g:dH ro)(u0:an){s1 k q l:Value}(f:bW ro u0 s1 k q l)(d:Int)(a:dF){r:(an×Int)}(h:yl u0 d a=some r):e4 Tryz.prog 50 #[bv u0 s1 k q l,.int .i64 d,.agg #[.int .i64 a.low,.int .i64 a.high]] ro (fun v aW=>∃U w1 w2 w3,v= .tuple #[bv r.1 U w1 w2 w3,.int .i64 r.2]/\bW aW r.1 U w1 w2 w3):=by
 unfold yl at h;have ba:=f.oc;simp only[bP] at ba;refine aD.go Tryz.func50 rfl Tryz.ntmps50 Tryz.results50 au fun main J hJ A bb hd hs=>?_;have bc:=hs 0;have k1:=hs 1;have bd:=hs 2;clear hs;apply az hJ _;refine aA fun w z bj=>?_;try simp only[av] at bj
 refine aA fun B C bm=>?_;try simp only[av] at bm
 refine aA fun D E bo=>?_;try simp only[av] at bo
 refine ah hJ (ah hJ ?_);refine aG hJ fun br=>?_;apply aS hJ;revert h;refine bS fun K bs h=>?_;apply ag _;refine aA fun s V W=>?_;have X:=aZ.cons W br;try simp only[av] at W
 obtain ⟨j,u,Y⟩:=fM (b:=s) (o:=(.cells #[.func (.func 86) #[.int .i64 d] #[]] 116)) [] ((D,bz 29)::(B,.cells #[.int .i64 a.low,.int .i64 a.high] 64)::(w,bk u0 s1 k q l)::[]) X V (aK.cons E (aK.cons C (aK.cons z (aK.nil _))));have Z:aH (dw) (b7 ro s (.cells #[.func (.func 86) #[.int .i64 d] #[]] 116)) (.slice (some ⟨s,0,none⟩) 1 1) [(fA d)]:=(aH.one (r:=(dw)) (e:=116) (cs:=#[.func (.func 86) #[.int .i64 d] #[]]) (x:=(fA d)) (own:=[(s,.cells #[.func (.func 86) #[.int .i64 d] #[]] 116)]) V (by simp[lk]) ⟨86,#[.int .i64 d],#[],rfl,⟨by simp only[go_sem],fun fb ff b0 _ _ _ _ _ b1 b2 b3 b4 h=>by simp only[go_sem];exact tQ d b0 ⟨b1,b2,b3,b4⟩ h⟩⟩)
 generalize b7 ro s (.cells #[.func (.func 86) #[.int .i64 d] #[]] 116)=fg at Z u j Y;refine hU hJ Y ?_;replace f:=f.mono j;replace E:=u.hd;replace C:=u.tl.hd;replace z:=u.tl.tl.hd;replace g:=g.mono j;simp only[bF] at u;have b5:=aZ.tl X;refine cw hJ _ (ku g u0 f ([(fA d)]) Z bs) fun v ab m F L=>?_;obtain ⟨M,N,O,P,rfl,ca⟩:=L;have cb:=ca.oc;simp only[bP] at cb;replace f:=f.mono m;replace E:=F.hd;replace C:=F.tl.hd;replace z:=F.tl.tl.hd;replace g:=g.mono m;simp only[bF] at F;apply aO;apply ag _;refine aA fun Q cd ad=>?_;have fi:=aZ.cons ad b5;try simp only[av] at ad
 apply az hJ _;revert h;refine bh hJ (fun cf h=>?_) fun cf h=>?_
 .cases h;apply az hJ _;refine cg ?_;exact ⟨_,(j).trans m,Le.sub (List.nil_sublist _),_,_,_,_,rfl,⟨aH.nil _ _,aH.nil _ _,aH.nil _ _,aH.nil _ _⟩⟩
 refine aP hJ (ah hJ ?_);apply aC hJ;revert h;refine bS fun fl cl h=>?_;apply ag _;refine bf hJ _ (BV a 0 60 cl) (aO ?_);apply ag _;revert h;refine bh hJ (fun cy h=>?_) fun cy h=>?_
 .cases h;apply az hJ _;refine cg ?_;exact ⟨_,(j).trans m,Le.sub (List.nil_sublist _),_,_,_,_,rfl,⟨aH.nil _ _,aH.nil _ _,aH.nil _ _,aH.nil _ _⟩⟩
 refine aP hJ (ah hJ ?_);refine aG hJ fun fp=>?_;apply aS hJ;revert h;refine bS fun G cS h=>?_;apply ag _;refine ew hJ (bx:=[]) [(Q,bl K.1 M N O P),(D,bz 29),(B,.cells #[.int .i64 a.low,.int .i64 a.high] 64),(w,bk u0 s1 k q l)] [] _ (B3 u0.aF f.y cS) (fun fq c0 H da db fr=>?_);simp only[bw] at db;subst da;obtain ⟨d87,ae,rfl,fs⟩:=H.len;refine ⟨⟨ab,(Q,bl K.1 M N O P)::(D,bz 29)::(B,.cells #[.int .i64 a.low,.int .i64 a.high] 64)::(w,bk u0 s1 k q l)::c0⟩,Le.refl _,?_⟩;apply aO;apply ag _;apply ah hJ;refine aG hJ fun al=>?_;apply aS hJ;revert h;refine bS fun c dd h=>?_;obtain ⟨ft,fu,df⟩:=cP dd;obtain ⟨R,dk,dp,rfl,rfl,fv,dq,S⟩:=H.BE df;obtain rfl:dp=c.cells:=dq;have ds:=al.nd;simp only[keys,List.map_cons,List.map_nil,List.map_append,List.cons_append,List.nil_append,List.nodup_cons,List.mem_cons,List.mem_append,List.not_mem_nil,or_false,not_or] at ds;have ao:=S 0 _ rfl;simp only[go_sem] at ao;have fw:=(Array.getElem?_eq_some_iff.1 ao).1;have ar:=S 1 _ rfl;simp only[go_sem] at ar;have fx:=(Array.getElem?_eq_some_iff.1 ar).1;have a0:=S 2 _ rfl;simp only[go_sem] at a0;have fz:=(Array.getElem?_eq_some_iff.1 a0).1;apply ag _;refine aA fun dt du a2=>?_;have fP:=aZ.cons a2 al;try simp only[av] at a2
 apply ah hJ;refine fY [1,3,5,6,7,10] fun fQ dv dC dE=>?_;simp only[*,go_sem] at dv dC dE;clear bb hd bc k1 bd;refine aG hJ fun dT=>?_;apply aM hJ _;refine aA fun ea eb a3=>?_;have fS:=aZ.cons a3 dT;try simp only[av] at a3
 refine ah hJ (ah hJ ?_);refine aG hJ fun fU=>?_;apply aM hJ _;revert h;refine bh hJ (fun ec h=>?_) fun ec h=>?_
 .cases h;apply ah hJ;refine aG hJ fun gg=>?_;apply aM hJ _;refine cg ?_;exact ⟨_,(j).trans m,Le.sub (List.nil_sublist _),_,_,_,_,rfl,⟨aH.nil _ _,aH.nil _ _,aH.nil _ _,aH.nil _ _⟩⟩
 refine aP hJ (ah hJ ?_);refine aG hJ fun gl=>?_;apply aS hJ;revert h;refine bS fun i ed h=>?_;obtain ⟨gn,gp,a4⟩:=cP ed;obtain ⟨eh,et,I⟩:=H.jF a4;obtain rfl:eh=i.cells:=et;have a5:=I 0 _ rfl;simp only[go_sem] at a5;have gB:=(Array.getElem?_eq_some_iff.1 a5).1;have a6:=I 1 _ rfl;simp only[go_sem] at a6;have gC:=(Array.getElem?_eq_some_iff.1 a6).1;have a7:=I 2 _ rfl;simp only[go_sem] at a7;have gM:=(Array.getElem?_eq_some_iff.1 a7).1;have ev:bg fo ab 66 (.slice (some ⟨R,0,none⟩) G.length ae) (G.set (d).toNat (⟨i.back,(⟨(if c.high.low<a.low then a.low else c.high.low),(if a.high<c.high.high then a.high else c.high.high)⟩:dF)⟩:cq)) [(R,Obj.cells (cZ dk ((d).toNat*3+1) [.int .i64 (if c.high.low<a.low then a.low else c.high.low),.int .i64 (if a.high<c.high.high then a.high else c.high.high)]) 66)]:=by have eQ:=H.part (y:=(⟨i.back,(⟨(if c.high.low<a.low then a.low else c.high.low),(if a.high<c.high.high then a.high else c.high.high)⟩:dF)⟩:cq)) a4 1 [.int .i64 (if c.high.low<a.low then a.low else c.high.low),.int .i64 (if a.high<c.high.high then a.high else c.high.high)] [.int .i64 i.back,.int .i64 i.high.low,.int .i64 i.high.high] [.int .i64 i.back,.int .i64 (if c.high.low<a.low then a.low else c.high.low),.int .i64 (if a.high<c.high.high then a.high else c.high.high)] I rfl rfl au rfl;exact eQ
 apply ag _;apply ah hJ;refine aG hJ fun a8=>?_;obtain ⟨gT,T,eS,a9,e0⟩:=ev.fj [(ea,.cells #[.int .i64 (if c.high.low<a.low then a.low else c.high.low),.int .i64 (if a.high<c.high.high then a.high else c.high.high)] 64),(dt,.cells #[.int .i64 c.high.low,.int .i64 c.high.high] 64),(Q,bl K.1 M N O P),(D,bz 29),(B,.cells #[.int .i64 a.low,.int .i64 a.high] 64),(w,bk u0 s1 k (sl (some ⟨R,0,none⟩) G ae) l)] [] a8 (aK.cons eb (aK.cons du (aK.cons cd (aK.cons E (aK.cons C (aK.cons z (aK.nil _)))))));clear a8;refine cO hJ e0 ?_;obtain ⟨gV,g0,-⟩:=a9.op;replace f:=f.mono T;replace g:=g.mono T;simp only[bF] at eS;apply aS hJ;revert h;refine bS fun g1 e1 h=>?_;cases h;apply ag _;refine cw hJ _ (yb g (⟨u0.bV,u0.bU,u0.bq,u0.aE,u0.props,(G.set (d).toNat (⟨i.back,(⟨(if c.high.low<a.low then a.low else c.high.low),(if a.high<c.high.high then a.high else c.high.high)⟩:dF)⟩:cq)),u0.told⟩:an) ⟨f.e,f.p,a9,f.t⟩ e1) fun v g2 e2 e3 L=>?_;obtain ⟨g3,g4,ha,hc,rfl,n⟩:=L;have fa:=n.oc;simp only[bP] at fa;simp only[bF] at e3;obtain ⟨d130,hf,rfl,hg,hh,-⟩:=id n.e;obtain ⟨d137,hi,rfl,hj,hk,-⟩:=id n.p;obtain ⟨d144,hl,rfl,hn,ho,-⟩:=id n.y;obtain ⟨d151,hp,rfl,hq,hr,-⟩:=id n.t;apply aO;apply ag _;refine cg ?_;exact ⟨_,(((j).trans m).trans T).trans e2,Le.sub (List.nil_sublist _),_,_,_,_,rfl,n⟩
def Cg (i43:Nat)(a:(List Int))(st:(List Int)):Option (Fl (List Int) (List Int)):=
 ai (de st a) fun b=>some (.nx b)
def ym (i9:Nat)(a:(List Int))(st:Int):Option (Fl Int (List Int)):=
 cond (decide ((IntKind.i64.wrap (st+(a.length:Int)))<0)) (none) (some (.nx (IntKind.i64.wrap (st+(a.length:Int)))))
def Ix (i109:Nat)(a:(List Int))(st:(List Int)):Option (Fl (List Int) (List Int)):=
 ai (de st a) fun b=>some (.nx b)
def yo (u0:(List (List Int))):Option (List Int):=
 ai (bR (ym) 0 u0 0) fun o=>aJ o (fun a=>ai (ya a) fun b=>ai (bR (Ix) 0 u0 b) fun o=>aJ o (fun c=>some c) (fun _ _=>none) (fun r=>some r)) (fun _ _=>none) (fun r=>some r)
theorem Iy {ro:Addr->Option Value}(u0:(List (List Int))){s1:Value}(g:aH (rL rI) ro s1 u0){r:(List Int)}(h:yo u0=some r):e4 Tryz.prog 70 #[s1] ro (fun v aW=>∃s,v=s/\aH rI aW s r):=by
 obtain ⟨d3,c4,rfl,bz,t,-⟩:=id g;unfold yo at h;refine aD.go Tryz.func70 rfl Tryz.ntmps70 Tryz.results70 au fun main J hJ A P hd hs=>?_;have Q:=hs 0;clear hs;apply az hJ _;apply az hJ _;refine ah hJ (aC hJ ?_);apply ag _;apply aX hJ;revert h;refine bS fun R a S=>?_;refine cc hJ (rg 11 12 [3,5]) (fun m d F'=>∃(i9:Nat) (e:Int),m=u0.length - i9/\i9<=u0.length/\bR (ym) i9 (u0.drop i9) e=some R/\F'=⟨ro,[]⟩/\slot d 11= .int .i64 (i9:Int)/\slot d 3= .int .i64 e) u0.length ?_ ?_
 .refine ⟨0,0,(Nat.sub_zero _).symm,Nat.zero_le _,a,rfl,?_⟩;simp only[*,go_sem]
 rintro b0 b1 F' u ⟨i9,e,rfl,b2,a,rfl,T,U⟩;obtain ⟨w,y,z⟩:=u.pick [0,2,9,10] aB;simp only[*,go_sem] at w y z;clear u P hd Q;apply az hJ _;apply ah hJ;rcases Nat.lt_or_ge i9 u0.length with V|B
 .refine cB hJ ?_;apply aP hJ;obtain ⟨W,i⟩:∃x,u0[i9]?=some x:=⟨_,List.getElem?_eq_getElem V⟩
  rw[dK i] at a;revert a;refine bS fun b3 h X=>?_;unfold ym at h;try dsimp only at h
  obtain ⟨b4,b5,Y,Z,C⟩:=g.el _ _ i;obtain ⟨ca,rfl,ab⟩:=Z;obtain ⟨d18,cb,rfl,cd,cf,cl⟩:=id ab;cases Y;have ad:=C 0 _ rfl;simp only[go_sem] at ad;clear C i;refine ah hJ (aX hJ (ah hJ ?_));apply aM hJ _;apply az hJ _;apply az hJ _;revert h;refine bh hJ (fun ae h=>?_) fun ae h=>?_
  .apply aS hJ;cases h
  cases h;apply aP hJ;have cy:=cK (n:=i9) (by have:=t;omega);apply aM hJ _;refine ⟨u0.length - (i9+1),aa,_,Le.sub (List.Sublist.refl _),i9+1,(IntKind.i64.wrap (e+(W.length:Int))),rfl,aa,X,rfl,?_⟩;simp only[*,go_sem]
 have cS:=Nat.not_lt.2 B;refine cx hJ ?_;rw[List.drop_eq_nil_of_le B] at a;obtain rfl:=sI a;clear a;have h:=S;dsimp only[aJ] at h;apply b6;simp only[go_sem];apply ah hJ;refine aG hJ fun c0=>?_;apply aS hJ;revert h;refine bS fun al ao h=>?_;apply ag _;refine ew hJ (bx:=[]) [] [] _ (Iq e ao) (fun da D E j k db=>?_);simp only[bw] at k;subst j;obtain ⟨d32,ar,rfl,a0⟩:=E.len;refine ⟨⟨ro,D⟩,Le.refl _,?_⟩;apply aO;apply ag _;refine ah hJ (ah hJ ?_);refine aG hJ fun dd=>?_;apply aM hJ _;apply aX hJ;revert h;refine bS fun a2 b a3=>?_;refine cc hJ (rg 27 8 [6,8]) (fun m d F'=>∃(i43:Nat) (d38:Option Addr) (f:Nat) (o:List (Nat×Obj)) (c:(List Int)),m=u0.length - i43/\i43<=u0.length/\bR (Cg) i43 (u0.drop i43) c=some a2/\F'=⟨ro,o⟩/\bg rI ro 3 (.slice d38 c.length f) c o/\c.length<=f/\slot d 27= .int .i64 (i43:Int)/\slot d 6= .slice d38 c.length f) u0.length ?_ ?_
 .refine ⟨0,d32,ar,D,al,(Nat.sub_zero _).symm,Nat.zero_le _,b,rfl,E,a0,?_⟩;simp only[*,go_sem]
 rintro df dk F' F ⟨i43,d38,f,o,c,rfl,dp,b,rfl,G,dq,ds,dt⟩;obtain ⟨a4,a5,a6⟩:=F.pick [2,25,26] aB;simp only[*,go_sem] at a4 a5 a6;clear F w y z U T;apply az hJ _;apply ah hJ;rcases Nat.lt_or_ge i43 u0.length with a7|H
 .refine cB hJ ?_;apply aP hJ;obtain ⟨a8,p⟩:∃x,u0[i43]?=some x:=⟨_,List.getElem?_eq_getElem a7⟩
  rw[dK p] at b;revert b;refine bS fun du h a9=>?_;unfold Cg at h;try dsimp only at h
  obtain ⟨dv,dC,ba,bb,I⟩:=g.el _ _ p;obtain ⟨dE,rfl,K⟩:=bb;obtain ⟨d52,dT,rfl,ea,eb,ec⟩:=id K;cases ba;have bc:=I 0 _ rfl;simp only[go_sem] at bc;clear I p;refine ah hJ (aX hJ (ah hJ ?_));refine aG hJ fun ed=>?_;apply aM hJ _;refine aG hJ fun bd=>?_;apply aS hJ;revert h;refine bS fun bj bk h=>?_;cases h;obtain ⟨bl,L⟩:=dQ bk;apply ag _;refine qX (r:=rI) (l:=c) (xs:=a8) [] [] G bd bl K rfl rfl fW fW kX kZ rfl kY aB aB (fun eh M q j k et=>?_);simp only[bw] at k;subst j;rw[<-L] at q;clear L;obtain ⟨d66,bm,rfl,bo⟩:=q.len;refine ⟨⟨ro,M⟩,Le.refl _,?_⟩;apply aO;apply ag _;have ev:=cK (n:=i43) (by have:=t;omega);apply aM hJ _;refine ⟨u0.length - (i43+1),aa,_,Le.sub (List.Sublist.refl _),i43+1,d66,bm,M,bj,rfl,aa,a9,rfl,q,bo,?_⟩;simp only[*,go_sem]
 have eQ:=Nat.not_lt.2 H;refine cx hJ ?_;rw[List.drop_eq_nil_of_le H] at b;obtain rfl:=sI b;clear b;have h:=a3;dsimp only[aJ] at h;cases h;apply b6;simp only[go_sem];apply ah hJ;refine aG hJ fun eS=>?_;apply aM hJ _;refine aG hJ fun N=>?_;obtain ⟨e0,br,e1,O,bs⟩:=G.fj [] [] N (aK.nil _);clear N;refine cO hJ bs ?_;obtain ⟨e2,e3,-⟩:=O.op;refine cg ?_;exact ⟨_,br,Le.sub (List.nil_sublist _),_,rfl,O⟩
def o9 (a:Int)(i44:Nat)(b:bt)(st:(List Int)):Option (Fl (List Int) (List Int)):=
 ai (bt.get b a) fun c=>ai (de st ([c])) fun d=>some (.nx d)
def mC (u0:di)(a:Int):Option (List Int):=
 ai (bR (o9 a) 0 u0.all ([]:List Int)) fun o=>aJ o (fun b=>ai (rA b) fun c=>ai (uE c.2) fun d=>some d) (fun _ _=>none) (fun r=>some r)
theorem uI {ro:Addr->Option Value}(u0:di){s1 a b c:Value}(b3:bW ro u0.book s1 a b c){y:Value}(z:aH iK ro y u0.all)(s:Int){r:(List Int)}(h:mC u0 s=some r):e4 Tryz.prog 87 #[.agg #[.int .i64 u0.book.bV,.int .i64 u0.book.bU,.int .i64 u0.book.bq.num,.int .i64 u0.book.bq.den,s1,a,b,c,y],.int .i64 s] ro (fun v aW=>∃B,v=B/\aH rI aW B r):=by
 obtain ⟨d31,d,rfl,b4,R,-⟩:=id z;unfold mC at h;refine aD.go Tryz.func87 rfl Tryz.ntmps87 Tryz.results87 au fun main J hJ A S hd hs=>?_;have T:=hs 0;have k1:=hs 1;clear hs;apply az hJ _;refine aA fun e U V=>?_;try simp only[av] at V
 apply az hJ _;refine ah hJ (aC hJ ?_);apply ag _;apply aX hJ;revert h;refine bS fun W g X=>?_;refine cc hJ (rg 11 11 [5,7]) (fun m C F'=>∃(i44:Nat) (d38:Option Addr) (o:Nat) (t:List (Nat×Obj)) (f:(List Int)),m=u0.all.length - i44/\i44<=u0.all.length/\bR (o9 s) i44 (u0.all.drop i44) f=some W/\F'=⟨ro,(e,kn u0 s1 a b c (sl d31 u0.all d))::t⟩/\bg rI ro 3 (.slice d38 f.length o) f t/\f.length<=o/\slot C 11= .int .i64 (i44:Int)/\slot C 5= .slice d38 f.length o) u0.all.length ?_ ?_
 .refine ⟨0,none,0,[],([]:List Int),(Nat.sub_zero _).symm,Nat.zero_le _,g,rfl,bg.nil _ _ _,Nat.le_refl _,?_⟩;simp only[*,go_sem]
 rintro b5 ca F' D ⟨i44,d38,o,t,f,rfl,cb,g,rfl,E,cd,cf,cl⟩;obtain ⟨Y,Z,ab⟩:=D.pick [1,4,9,10] aB;simp only[*,go_sem] at Y Z ab;clear D S hd T k1;apply az hJ _;apply ah hJ;rcases Nat.lt_or_ge i44 u0.all.length with ad|F
 .refine cB hJ ?_;apply aP hJ;obtain ⟨i,u⟩:∃x,u0.all[i44]?=some x:=⟨_,List.getElem?_eq_getElem ad⟩
  rw[dK u] at g;revert g;refine bS fun cy h ae=>?_;unfold o9 at h;try dsimp only at h
  obtain ⟨G,al,ao,ar,p⟩:=z.el _ _ u;obtain rfl:al=i.cells:=ar;cases ao;have a0:=p 0 _ rfl;simp only[go_sem] at a0;have a2:=p 1 _ rfl;simp only[go_sem] at a2;have a3:=p 2 _ rfl;simp only[go_sem] at a3;clear p u;refine ah hJ (aX hJ (ah hJ ?_));refine aG hJ fun a4=>?_;apply aM hJ _;refine aA fun H cS I=>?_;have c0:=aZ.cons I a4;try simp only[av] at I
  refine aG hJ fun a5=>?_;apply aS hJ;revert h;refine bS fun q a6 h=>?_;obtain ⟨da,db,a7⟩:=bt.get_some a6;try simp only[go_sem] at a7
  revert h;refine bS fun a8 a9 h=>?_;cases h;obtain ⟨ba,K⟩:=dQ a9;apply ag _;refine aA fun L bb M=>?_;have bc:=aZ.cons M a5;try simp only[av] at M
  refine eD (r:=rI) (l:=f) (x:=q) (cs:=#[.int .i64 q]) (e2:=3) [(L,ic q),(H,.cells #[.int .i64 i.e0,.int .i64 i.e1,.int .i64 i.e2] 133),(e,kn u0 s1 a b c (sl (some G) u0.all d))] [] E bc ba rfl aN bb rfl rfl fW fW kX kZ rfl kY aB aB (fun dd N w j k df=>?_);simp only[bw] at k;subst j;rw[<-K] at w;clear K;obtain ⟨d66,bd,rfl,bj⟩:=w.len;refine ⟨⟨ro,(L,ic q)::(H,.cells #[.int .i64 i.e0,.int .i64 i.e1,.int .i64 i.e2] 133)::(e,kn u0 s1 a b c (sl (some G) u0.all d))::N⟩,Le.refl _,?_⟩;apply aO;apply ag _;have dk:=cK (n:=i44) (by have:=R;omega);apply aM hJ _;refine ⟨u0.all.length - (i44+1),aa,_,Le.sub (List.Sublist.cons _ (List.Sublist.cons _ (List.Sublist.refl _))),i44+1,d66,bd,N,a8,rfl,aa,ae,rfl,w,bj,?_⟩;simp only[*,go_sem]
 have dp:=Nat.not_lt.2 F;refine cx hJ ?_;rw[List.drop_eq_nil_of_le F] at g;obtain rfl:=sI g;clear g;have h:=X;dsimp only[aJ] at h;apply b6;simp only[go_sem];apply ah hJ;refine aG hJ fun dq=>?_;apply aS hJ;revert h;refine bS fun bk bl h=>?_;apply ag _;refine ew hJ [(e,kn u0 s1 a b c (sl d31 u0.all d))] [] _ (Im f E bl) (fun ds bm bo j k dt=>?_);obtain ⟨rfl,br⟩:=bo;simp only[bw] at k;subst j;refine ⟨⟨ro,(e,kn u0 s1 a b c (sl d31 u0.all d))::bm⟩,Le.refl _,?_⟩;apply ag _;apply ah hJ;refine aG hJ fun du=>?_;apply aS hJ;revert h;refine bS fun dv bs h=>?_;cases h;apply ag _;refine ew hJ [(e,kn u0 s1 a b c (sl d31 u0.all d))] [] _ (Io bk.2 br bs) (fun dC bz O j k dE=>?_);simp only[bw] at k;subst j;obtain ⟨d83,dT,rfl,ea⟩:=O.len;refine ⟨⟨ro,(e,kn u0 s1 a b c (sl d31 u0.all d))::bz⟩,Le.refl _,?_⟩;apply aO;apply ag _;refine aG hJ fun P=>?_;obtain ⟨eb,b0,b1,Q,b2⟩:=O.fj [(e,kn u0 s1 a b c (sl d31 u0.all d))] [] P (aK.cons U (aK.nil _));clear P;refine cO hJ b2 ?_;obtain ⟨ec,ed,-⟩:=Q.op;simp only[bF] at b1;refine cg ?_;exact ⟨_,b0,Le.sub (List.nil_sublist _),_,rfl,Q⟩
def yp (u0:di)(i47:Nat)(i75:Nat)(b:Int)(st:(List bA)):Option (Fl (List bA) (List bA)):=
 ai (ig u0.book (i47:Int) b) fun a=>ai (xq st a) fun c=>cond (!c) (ai (de st ([a])) fun d=>some (.nx d)) (some (.nx st))
def yq (u0:di)(i47:Nat)(c:cq)(st:(List bA)):Option (Fl (List bA) (List bA)):=
 ai (mC u0 (i47:Int)) fun a=>ai (bR (yp u0 i47) 0 a st) fun o=>aJ o (fun b=>some (.nx b)) (fun _ _=>none) (fun r=>some (.rt r))
def uJ (u0:di):Option (List bA):=
 ai (bR (yq u0) 0 u0.book.aF ([]:List bA)) fun o=>aJ o (fun a=>some a) (fun _ _=>none) (fun r=>some r)
theorem Ch {ro:Addr->Option Value}(u0:di){s1 c R d:Value}(e:bW ro u0.book s1 c R d){f:Value}(H:aH iK ro f u0.all){r:(List bA)}(h:uJ u0=some r):e4 Tryz.prog 54 #[.agg #[.int .i64 u0.book.bV,.int .i64 u0.book.bU,.int .i64 u0.book.bq.num,.int .i64 u0.book.bq.den,s1,c,R,d,f]] ro (fun v aW=>∃S,v=S/\aH jG aW S r):=by
 obtain ⟨d17,o,rfl,e0,a8,-⟩:=id e.y;unfold uJ at h;refine aD.go Tryz.func54 rfl Tryz.ntmps54 Tryz.results54 au fun main J hJ A a9 hd hs=>?_;have ba:=hs 0;clear hs;apply az hJ _;refine aA fun p I bb=>?_;try simp only[av] at bb
 apply az hJ _;refine ah hJ (aC hJ ?_);apply ag _;apply aX hJ;revert h;refine bS fun bc i bd=>?_;refine cc hJ (rg 13 26 [3,4,6,7]) (fun m s F'=>∃(i47:Nat) (w:Addr->Option Value) (d38:Option Addr) (t:Nat) (z:List (Nat×Obj)) (j:(List bA)),m=u0.book.aF.length - i47/\i47<=u0.book.aF.length/\bR (yq u0) i47 (u0.book.aF.drop i47) j=some bc/\F'=⟨w,(p,kn u0 s1 c (sl d17 u0.book.aF o) d f)::z⟩/\Ext ro w/\bg jG w 101 (.slice d38 j.length t) j z/\j.length<=t/\slot s 13= .int .i64 (i47:Int)/\slot s 3= .slice d38 j.length t) u0.book.aF.length ?_ ?_
 .refine ⟨0,ro,none,0,[],([]:List bA),(Nat.sub_zero _).symm,Nat.zero_le _,i,rfl,Ext.refl _,bg.nil _ _ _,Nat.le_refl _,?_⟩;simp only[*,go_sem]
 rintro e1 bj F' T ⟨i47,w,d38,t,z,j,rfl,e3,i,rfl,B,C,bk,bl,bm⟩;refine fX hJ fun _ U=>?_;replace e:=e.mono B;replace H:=H.mono B;replace I:=U.hd;simp only[bF] at U;obtain ⟨V,W,X⟩:=T.pick [1,2,12] aB;simp only[*,go_sem] at V W X;clear T a9 hd ba;apply az hJ _;apply ah hJ;rcases Nat.lt_or_ge i47 u0.book.aF.length with bo|Y
 .refine cB hJ ?_;apply aP hJ;obtain ⟨br,K⟩:∃x,u0.book.aF[i47]?=some x:=⟨_,List.getElem?_eq_getElem bo⟩
  rw[dK K] at i;revert i;refine bS fun fa h bs=>?_;unfold yq at h;try dsimp only at h
  obtain ⟨D,bz,b0,b1,E⟩:=e.y.el _ _ K;obtain rfl:bz=br.cells:=b1;cases b0;have b2:=E 0 _ rfl;simp only[go_sem] at b2;have b3:=E 1 _ rfl;simp only[go_sem] at b3;have b4:=E 2 _ rfl;simp only[go_sem] at b4;clear E K;refine ah hJ (aX hJ (ah hJ ?_));refine aG hJ fun fb=>?_;apply aM hJ _;apply ah hJ;refine aG hJ fun ff=>?_;apply aS hJ;revert h;refine bS fun g b5 h=>?_;apply ag _;refine cw hJ _ (uI u0 e H (i47:Int) b5) fun v F L M ca=>?_;obtain ⟨fg,rfl,Z⟩:=ca;replace e:=e.mono L;replace I:=M.hd;replace C:=C.mono L M.tl;simp only[bF] at M;obtain ⟨d64,fi,rfl,fl,ab,-⟩:=id Z;apply aO;apply ag _;apply aX hJ;revert h;refine bS fun cb k cd=>?_;refine cc hJ (rg 20 18 [3,6,7]) (fun m s F'=>∃(i75:Nat) (d70:Option Addr) (q:Nat) (u:List (Nat×Obj)) (b:(List bA)),m=g.length - i75/\i75<=g.length/\bR (yp u0 i47) i75 (g.drop i75) b=some cb/\F'=⟨F,(p,kn u0 s1 c (sl (some D) u0.book.aF o) d f)::u⟩/\bg jG F 101 (.slice d70 b.length q) b u/\b.length<=q/\slot s 20= .int .i64 (i75:Int)/\slot s 3= .slice d70 b.length q) g.length ?_ ?_
  .refine ⟨0,d38,t,z,j,(Nat.sub_zero _).symm,Nat.zero_le _,k,rfl,C,bk,?_⟩;simp only[*,go_sem]
  rintro fp cf F' N ⟨i75,d70,q,u,b,rfl,fq,k,rfl,G,ad,fr,fs⟩;obtain ⟨cl,cy,cS⟩:=N.pick [1,2,4,12,13,14,15,16,17,18,19] aB;simp only[*,go_sem] at cl cy cS;have ft:c6 (rg 13 26 [3,4,6,7]) cf bj:=(N.gN aB).trans aN;clear N V W X bm bl;apply az hJ _;apply ah hJ;rcases Nat.lt_or_ge i75 g.length with c0|ae
  .refine cB hJ ?_;apply aP hJ;obtain ⟨al,O⟩:∃x,g[i75]?=some x:=⟨_,List.getElem?_eq_getElem c0⟩
   rw[dK O] at k;revert k;refine bS fun fu h ao=>?_;unfold yp at h;(try dsimp only at h);obtain ⟨fv,da,db,dd,ar⟩:=Z.el _ _ O;obtain rfl:da=[.int .i64 al]:=dd;cases db;have df:=ar 0 _ rfl;simp only[go_sem] at df;clear ar O;refine ah hJ (aX hJ (ah hJ ?_));refine aG hJ fun fw=>?_;apply aM hJ _;apply ah hJ;refine aG hJ fun dk=>?_;apply aS hJ;revert h;refine bS fun a dp h=>?_;apply ag _;refine bf hJ _ (nk u0.book (e.mono bn) (i47:Int) al dp) (aO ?_);apply ag _;refine aA fun P fx a0=>?_;have fz:=aZ.cons a0 dk;try simp only[av] at a0
   apply ah hJ;refine aG hJ fun dq=>?_;apply aS hJ;revert h;refine bS fun fP ds h=>?_;apply ag _;refine bf hJ _ (HG b (G.BT [(P,.cells #[.int .i64 a.back,.int .i64 a.high] 101),(p,kn u0 s1 c (sl (some D) u0.book.aF o) d f)] [] (by first|rfl|simp only[bw]|(simp only[bw];rfl)) dq) a ds) (aO ?_);apply ag _;revert h;refine bh hJ (fun dt h=>?_) fun dt h=>?_
   .refine aG hJ fun du=>?_;apply aS hJ;revert h;refine bS fun dv dC h=>?_;cases h;obtain ⟨dE,a2⟩:=dQ dC;apply ag _;refine aA fun a3 dT a4=>?_;have ea:=aZ.cons a4 du;try simp only[av] at a4
    refine eD (r:=jG) (l:=b) (x:=a) (cs:=#[.int .i64 a.back,.int .i64 a.high]) (e2:=101) [(a3,.cells #[.int .i64 a.back,.int .i64 a.high] 101),(P,.cells #[.int .i64 a.back,.int .i64 a.high] 101),(p,kn u0 s1 c (sl (some D) u0.book.aF o) d f)] [] G ea dE rfl aN dT rfl rfl Bj Bj F9 Gb rfl Ga aB aB (fun fQ a5 Q eb ec fS=>?_);simp only[bw] at ec;subst eb;rw[<-a2] at Q;clear a2;obtain ⟨d102,ed,rfl,eh⟩:=Q.len;refine ⟨⟨F,(a3,.cells #[.int .i64 a.back,.int .i64 a.high] 101)::(P,.cells #[.int .i64 a.back,.int .i64 a.high] 101)::(p,kn u0 s1 c (sl (some D) u0.book.aF o) d f)::a5⟩,Le.refl _,?_⟩;apply aO;apply ag _;have et:=cK (n:=i75) (by have:=ab;omega);apply aM hJ _;refine ⟨g.length - (i75+1),aa,_,Le.sub (List.Sublist.cons _ (List.Sublist.cons _ (List.Sublist.refl _))),i75+1,d102,ed,a5,dv,rfl,aa,ao,rfl,Q,eh,?_⟩;simp only[*,go_sem]
   cases h;apply aP hJ;have et:=cK (n:=i75) (by have:=ab;omega);apply aM hJ _;refine ⟨g.length - (i75+1),aa,_,Le.sub (List.Sublist.cons _ (List.Sublist.refl _)),i75+1,d70,q,u,b,rfl,aa,ao,rfl,G,ad,?_⟩;simp only[*,go_sem]
  have fU:=Nat.not_lt.2 ae;refine cx hJ ?_;rw[List.drop_eq_nil_of_le ae] at k;obtain rfl:=sI k;clear k;have h:=cd;dsimp only[aJ] at h;cases h;apply b6;simp only[go_sem];have gg:=cK (n:=i47) (by have:=a8;omega);apply aM hJ _;refine ⟨u0.book.aF.length - (i47+1),aa,_,Le.sub (List.Sublist.refl _),i47+1,F,d70,q,u,b,rfl,aa,bs,rfl,(B.trans L),G,ad,?_⟩;simp only[*,go_sem]
 have gl:=Nat.not_lt.2 Y;refine cx hJ ?_;rw[List.drop_eq_nil_of_le Y] at i;obtain rfl:=sI i;clear i;have h:=bd;dsimp only[aJ] at h;cases h;apply b6;simp only[go_sem];apply ah hJ;refine aG hJ fun gn=>?_;apply aM hJ _;refine aG hJ fun a6=>?_;obtain ⟨gp,ev,eQ,a7,eS⟩:=C.fj [(p,kn u0 s1 c (sl d17 u0.book.aF o) d f)] [] a6 (aK.cons I (aK.nil _));clear a6;refine cO hJ eS ?_;obtain ⟨gB,gC,-⟩:=a7.op;simp only[bF] at eQ;refine cg ?_;exact ⟨_,(B).trans ev,Le.sub (List.nil_sublist _),_,rfl,a7⟩
def rD (a:Int)(i109:Nat)(b:bM)(st:((List Int)×(List bM))):Option (Fl ((List Int)×(List bM)) ((List Int)×Int)):=
 ai (wQ a (i109:Int)) fun c=>cond (((A9 c 1)==1)) (ai (de st.1 ([(i109:Int)])) fun d=>ai (de st.2 ([b])) fun e=>some (.nx (d,e))) (some (.nx (st.1,st.2)))
def nJ (u0:an)(a:(an×Int))(c:Int)(st:((List (List Int))×Int)):Option (Fl ((List (List Int))×Int) ((List Int)×Int)):=
 cond (decide (st.2<c)) (ai (bR (rD st.2) 0 u0.told (([]:List Int),([]:List bM))) fun o=>aJ o (fun b=>ai (o5 (⟨a.1.bV,a.1.bU,a.1.bq,a.1.aE,a.1.props,a.1.aF,b.2⟩:an)) fun d=>cond (!d) (ai (de st.1 ([b.1])) fun e=>some (.nx (e,(IntKind.i64.wrap (st.2+1))))) (some (.nx (st.1,(IntKind.i64.wrap (st.2+1)))))) (fun _ _=>none) (fun r=>some (.rt r))) (some (.bk (st.1,st.2)))
def kC (u0:an):Option ((List Int)×Int):=
 ai (fO u0 ([]:(List (an->Option Int)))) fun a=>cond ((a.2 != 0)) (some (([]:(List Int)),a.2)) (ai (o5 a.1) fun c=>cond (c) (some (([]:(List Int)),0)) (ai (tf 1 (u0.told.length:Int)) fun d=>ai (bp (nJ u0 a d) fu (([]:List (List Int)),0)) fun o=>aJ o (fun b=>ai (bD b.1 0) fun e=>ai (iF b.1 1 (b.1.length:Int)) fun f=>ai (oW jd e f) fun g=>some (g,0)) (fun _ _=>none) (fun r=>some r)))
theorem yt {ro:Addr->Option Value}(fv:dH ro)(u0:an){s1 i j b4:Value}(K:bW ro u0 s1 i j b4){r:((List Int)×Int)}(h:kC u0=some r):e4 Tryz.prog 34 #[bv u0 s1 i j b4] ro (fun v aW=>∃b5,v= .tuple #[b5,.int .i64 r.2]/\aH rI aW b5 r.1):=by
 obtain ⟨d24,k,rfl,mi,ab,-⟩:=id K.t;unfold kC at h;have fw:=K.oc;simp only[bP] at fw;refine aD.go Tryz.func34 rfl Tryz.ntmps34 Tryz.results34 au fun main J hJ A fx hd hs=>?_;have fz:=hs 0;clear hs;apply az hJ _;refine aA fun o L fP=>?_;try simp only[av] at fP
 apply aC hJ;revert h;refine bS fun b fQ h=>?_;apply ag _;refine cw hJ _ (ku fv u0 K ([]:(List (an->Option Int))) (aH.nil _ _) fQ) fun v ca ad cb a7=>?_;obtain ⟨c,d,f,q,rfl,P⟩:=a7;have fS:=P.oc;simp only[bP] at fS;replace K:=K.mono ad;replace L:=cb.hd;simp only[bF] at cb;apply aO;apply ag _;refine aA fun s Q fU=>?_;try simp only[av] at fU
 refine ah hJ (aC hJ ?_);apply ag _;revert h;refine bh hJ (fun gg h=>?_) fun gg h=>?_
 .cases h;apply az hJ _;refine cg ?_;exact ⟨_,ad,Le.sub (List.nil_sublist _),_,rfl,aH.nil _ _⟩
 refine aP hJ (ah hJ ?_);apply aC hJ;revert h;refine bS fun ml gl h=>?_;apply ag _;refine bf hJ _ (B7 b.1 (P.mono bn) gl) ?_;revert h;refine bh hJ (fun gn h=>?_) fun gn h=>?_
 .cases h;apply az hJ _;refine cg ?_;exact ⟨_,ad,Le.sub (List.nil_sublist _),_,rfl,aH.nil _ _⟩
 refine aP hJ (ah hJ ?_);apply aM hJ _;refine ah hJ (aC hJ ?_);revert h;refine bS fun gp cd h=>?_;obtain ⟨mn,gB⟩:=FR cd;clear cd;try simp only[go_sem] at gB
 apply ag _;apply aX hJ;revert h;refine bS fun gC ae gM=>?_;refine cc hJ (rg 26 40 (rg 6 6 [])) (fun m V F'=>∃(B:Addr->Option Value) (d71:Option Addr) (S:Nat) (w:List (Nat×Obj)) (I:(List (List Int))) (T:Int),bp (nJ u0 b gp) m (I,T)=some gC/\F'=⟨B,(s,bl b.1 c d f q)::(o,bk u0 s1 i j (sl d24 u0.told k))::w⟩/\Ext ca B/\bg (rL rI) B 35 (.slice d71 I.length S) I w/\I.length<=S/\slot V 6= .slice d71 I.length S/\slot V 26= .int .i64 T) fu ?_ ?_
 .refine ⟨ca,none,0,[],([]:List (List Int)),0,ae,rfl,Ext.refl _,bg.nil _ _ _,Nat.le_refl _,?_⟩;simp only[*,go_sem]
 rintro al gT F' cf ⟨B,d71,S,w,I,T,ae,rfl,W,U,gV,g0,g1⟩;refine fX hJ fun _ a8=>?_;replace P:=P.mono W;replace K:=K.mono W;replace Q:=a8.hd;replace L:=a8.tl.hd;simp only[bF] at a8;obtain ⟨cl,cy,cS⟩:=cf.pick [1,2,3,4,25] aB;simp only[*,go_sem] at cl cy cS;clear cf fx hd fz;obtain _|al:=al
 .exact absurd ae (by simp only[bp,reduceCtorEq,not_false_eq_true])
 revert ae;refine bS fun mr h ao=>?_;unfold nJ at h;try dsimp only at h
 apply ah hJ;refine aG hJ fun mx=>?_;apply aM hJ _;apply ah hJ;revert h;refine bh hJ (fun g2 h=>?_) fun g2 h=>?_
 .refine aP hJ (ah hJ ?_);refine aX hJ (ah hJ ?_);refine aG hJ fun my=>?_;apply aM hJ _;apply ah hJ;refine aG hJ fun m1=>?_;apply aM hJ _;apply ah hJ;refine aG hJ fun g3=>?_;apply aM hJ _;refine aA fun z g4 c0=>?_;have m2:=aZ.cons c0 g3;try simp only[av] at c0
  apply ah hJ;refine aG hJ fun na=>?_;apply aM hJ _;refine ah hJ (ah hJ ?_);refine aG hJ fun nb=>?_;apply aM hJ _;apply aX hJ;revert h;refine bS fun ha R hc=>?_;refine cc hJ (rg 35 23 [8,10,11]) (fun m V F'=>∃(i109:Nat) (d96:Option Addr) (M:Nat) (X:List (Nat×Obj)) (d103:Option Addr) (u:Nat) (C:List (Nat×Obj)) (D:(List Int)) (g:(List bM)),m=u0.told.length - i109/\i109<=u0.told.length/\bR (rD T) i109 (u0.told.drop i109) (D,g)=some ha/\F'=⟨B,(z,bl b.1 c d f (sl d103 g u))::(s,bl b.1 c d f q)::(o,bk u0 s1 i j (sl d24 u0.told k))::(X++(C++w))⟩/\bg rI B 3 (.slice d96 D.length M) D X/\D.length<=M/\bg dG B 86 (.slice d103 g.length u) g C/\g.length<=u/\slot V 35= .int .i64 (i109:Int)/\slot V 8= .slice d96 D.length M) u0.told.length ?_ ?_
  .refine ⟨0,none,0,[],none,0,[],([]:List Int),([]:List bM),(Nat.sub_zero _).symm,Nat.zero_le _,R,rfl,bg.nil _ _ _,Nat.le_refl _,bg.nil _ _ _,Nat.le_refl _,?_⟩;simp only[*,go_sem]
  rintro nd hf F' a9 ⟨i109,d96,M,X,d103,u,C,D,g,rfl,nf,R,rfl,Y,hg,N,hh,nm,nn⟩;obtain ⟨hi,hj,hk⟩:=a9.pick [1,2,3,4,6,7,9,25,26,27,28,29,30,31,32,33,34] aB;simp only[*,go_sem] at hi hj hk;have np:c6 (rg 26 40 (rg 6 6 [])) hf gT:=(a9.gN aB).trans aN;clear a9 cl cy cS g0 g1;apply az hJ _;apply ah hJ;rcases Nat.lt_or_ge i109 u0.told.length with hl|da
  .refine cB hJ ?_;apply aP hJ;obtain ⟨a,ba⟩:∃x,u0.told[i109]?=some x:=⟨_,List.getElem?_eq_getElem hl⟩
   rw[dK ba] at R;revert R;refine bS fun ns h ar=>?_;unfold rD at h;(try dsimp only at h);obtain ⟨E,hn,ho,hp,bb⟩:=K.t.el _ _ ba;obtain rfl:hn=a.cells:=hp;cases ho;have hq:=bb 0 _ rfl;simp only[go_sem] at hq;have hr:=bb 1 _ rfl;simp only[go_sem] at hr;clear bb ba;refine ah hJ (aX hJ (ah hJ ?_));refine aG hJ fun ht=>?_;apply aM hJ _;refine aA fun F nx db=>?_;have nz:=aZ.cons db ht;try simp only[av] at db
   apply ah hJ;refine aG hJ fun nA=>?_;apply aS hJ;revert h;refine bS fun nH dd h=>?_;obtain ⟨nI,hv⟩:=FT dd;clear dd;(try simp only[go_sem] at hv);apply ag _;revert h;refine bh hJ (fun hx h=>?_) fun hx h=>?_
   .refine aG hJ fun df=>?_;refine fc hJ mixed [13] (.pure 0 (.pure 1 (.pure 4 (.pure 5 (.rd 6 (.rd 7 (.two 2 (.two 3 (.one 8 (.one 9 (.pure 10 (.pure 11 (.pure 12 (.last 13 .done)))))) 8 (.one 3 (.one 9 (.pure 10 (.pure 11 (.pure 12 (.last 13 .done))))))) 8 (.one 2 (.one 3 (.one 9 (.pure 10 (.pure 11 (.pure 12 (.last 13 .done)))))))))))))) ⟨B,[(F,.cells #[.int .i64 a.aY,.bool a.bI] 86),(z,bl b.1 c d f (sl d103 g u)),(s,bl b.1 c d f q),(o,bk u0 s1 i j (sl (some E) u0.told k))]⟩ aN aj ?_;apply ag _;refine k6 ?_ ?_
    .apply ag _;refine aA fun O dk dp=>?_;have dq:=aZ.cons dp df;try simp only[av] at dp
     apply ag _;refine k6 ?_ ?_
     .revert h;refine bS fun hy hz h=>?_;obtain ⟨hA,ds⟩:=dQ hz;apply ag _;refine eD (r:=rI) (l:=D) (x:=(i109:Int)) (cs:=#[.int .i64 (i109:Int)]) (e2:=3) [(O,ic (i109:Int)),(F,.cells #[.int .i64 a.aY,.bool a.bI] 86),(z,bl b.1 c d f (sl d103 g u)),(s,bl b.1 c d f q),(o,bk u0 s1 i j (sl (some E) u0.told k))] (C++w) Y dq hA rfl aN dk rfl rfl fW fW kX kZ rfl kY aB aB (fun nK a0 bc G H hB=>?_);simp only[bw] at H;subst G;rw[<-ds] at bc;clear ds;obtain ⟨d197,hD,rfl,hE⟩:=bc.len;refine ⟨⟨B,(O,ic (i109:Int))::(F,.cells #[.int .i64 a.aY,.bool a.bI] 86)::(z,bl b.1 c d f (sl d103 g u))::(s,bl b.1 c d f q)::(o,bk u0 s1 i j (sl (some E) u0.told k))::(a0++(C++w))⟩,Le.refl _,?_⟩;refine ⟨aN,cp ?_⟩;revert h;refine bS fun hF hG h=>?_;cases h;obtain ⟨hI,dt⟩:=dQ hG;apply ag _;refine aA fun du hK dv=>?_;have hL:=aZ.cons dv hB;try simp only[av] at dv
      apply ag _;refine eD (r:=dG) (l:=g) (x:=a) (cs:=#[.int .i64 a.aY,.bool a.bI]) (e2:=86) ((du,.cells #[.int .i64 a.aY,.bool a.bI] 86)::(O,ic (i109:Int))::(F,.cells #[.int .i64 a.aY,.bool a.bI] 86)::(z,bl b.1 c d f (sl d103 g u))::(s,bl b.1 c d f q)::(o,bk u0 s1 i j (sl (some E) u0.told k))::a0) w N hL hI rfl aN hK rfl rfl eG eG iH iJ rfl iI aB aB (fun nQ dC bd G H nR=>?_);simp only[bw] at H;subst G;rw[<-dt] at bd;clear dt;obtain ⟨d208,hM,rfl,hN⟩:=bd.len;refine ⟨⟨B,(du,.cells #[.int .i64 a.aY,.bool a.bI] 86)::(O,ic (i109:Int))::(F,.cells #[.int .i64 a.aY,.bool a.bI] 86)::(z,bl b.1 c d f (sl d103 g u))::(s,bl b.1 c d f q)::(o,bk u0 s1 i j (sl (some E) u0.told k))::(a0++(dC++w))⟩,Le.refl _,?_⟩;refine ⟨aN,cp ?_⟩;apply ag _;have bj:=cK (n:=i109) (by have:=ab;omega);apply aM hJ _;refine ⟨u0.told.length - (i109+1),aa,_,Le.sub (List.Sublist.cons _ (List.Sublist.cons _ (List.Sublist.cons _ (List.Sublist.refl _)))),i109+1,d197,hD,a0,d208,hM,dC,hy,hF,rfl,aa,ar,rfl,bc,hE,bd,hN,?_⟩;simp only[*,go_sem]
     revert h;refine bS fun hP hQ h=>?_;obtain ⟨hR,dE⟩:=dQ hQ;apply ag _;refine aA fun a2 hS dT=>?_;have hT:=aZ.cons dT dq;try simp only[av] at dT
     apply ag _;refine eD (r:=rI) (l:=D) (x:=(i109:Int)) (cs:=#[.int .i64 (i109:Int)]) (e2:=3) [(a2,.cells #[.int .i64 a.aY,.bool a.bI] 86),(O,ic (i109:Int)),(F,.cells #[.int .i64 a.aY,.bool a.bI] 86),(z,bl b.1 c d f (sl d103 g u)),(s,bl b.1 c d f q),(o,bk u0 s1 i j (sl (some E) u0.told k))] (C++w) Y hT hR rfl aN dk rfl rfl fW fW kX kZ rfl kY aB aB (fun nT a3 bm G H hV=>?_);simp only[bw] at H;subst G;rw[<-dE] at bm;clear dE;obtain ⟨d219,hX,rfl,hY⟩:=bm.len;refine ⟨⟨B,(a2,.cells #[.int .i64 a.aY,.bool a.bI] 86)::(O,ic (i109:Int))::(F,.cells #[.int .i64 a.aY,.bool a.bI] 86)::(z,bl b.1 c d f (sl d103 g u))::(s,bl b.1 c d f q)::(o,bk u0 s1 i j (sl (some E) u0.told k))::(a3++(C++w))⟩,Le.refl _,?_⟩;refine ⟨aN,cp ?_⟩;revert h;refine bS fun hZ h0 h=>?_;cases h;obtain ⟨h1,ea⟩:=dQ h0;apply ag _;refine eD (r:=dG) (l:=g) (x:=a) (cs:=#[.int .i64 a.aY,.bool a.bI]) (e2:=86) ((a2,.cells #[.int .i64 a.aY,.bool a.bI] 86)::(O,ic (i109:Int))::(F,.cells #[.int .i64 a.aY,.bool a.bI] 86)::(z,bl b.1 c d f (sl d103 g u))::(s,bl b.1 c d f q)::(o,bk u0 s1 i j (sl (some E) u0.told k))::a3) w N hV h1 rfl aN hS rfl rfl eG eG iH iJ rfl iI aB aB (fun nV eb bo G H nX=>?_);simp only[bw] at H;subst G;rw[<-ea] at bo;clear ea;obtain ⟨d228,h2,rfl,h3⟩:=bo.len;refine ⟨⟨B,(a2,.cells #[.int .i64 a.aY,.bool a.bI] 86)::(O,ic (i109:Int))::(F,.cells #[.int .i64 a.aY,.bool a.bI] 86)::(z,bl b.1 c d f (sl d103 g u))::(s,bl b.1 c d f q)::(o,bk u0 s1 i j (sl (some E) u0.told k))::(a3++(eb++w))⟩,Le.refl _,?_⟩;refine ⟨aN,cp ?_⟩;apply ag _;have bj:=cK (n:=i109) (by have:=ab;omega);apply aM hJ _;refine ⟨u0.told.length - (i109+1),aa,_,Le.sub (List.Sublist.cons _ (List.Sublist.cons _ (List.Sublist.cons _ (List.Sublist.refl _)))),i109+1,d219,hX,a3,d228,h2,eb,hP,hZ,rfl,aa,ar,rfl,bm,hY,bo,h3,?_⟩;simp only[*,go_sem]
    revert h;refine bS fun h4 h5 h=>?_;obtain ⟨h6,ec⟩:=dQ h5;apply ag _;refine aA fun a4 h7 ed=>?_;have h8:=aZ.cons ed df;try simp only[av] at ed
    apply ag _;refine aA fun a5 h9 eh=>?_;have ib:=aZ.cons eh h8;try simp only[av] at eh
    apply ag _;refine eD (r:=rI) (l:=D) (x:=(i109:Int)) (cs:=#[.int .i64 (i109:Int)]) (e2:=3) [(a5,ic (i109:Int)),(a4,.cells #[.int .i64 a.aY,.bool a.bI] 86),(F,.cells #[.int .i64 a.aY,.bool a.bI] 86),(z,bl b.1 c d f (sl d103 g u)),(s,bl b.1 c d f q),(o,bk u0 s1 i j (sl (some E) u0.told k))] (C++w) Y ib h6 rfl aN h9 rfl rfl fW fW kX kZ rfl kY aB aB (fun nY a6 br G H ih=>?_);simp only[bw] at H;subst G;rw[<-ec] at br;clear ec;obtain ⟨ik,il,rfl,im⟩:=br.len;refine ⟨⟨B,(a5,ic (i109:Int))::(a4,.cells #[.int .i64 a.aY,.bool a.bI] 86)::(F,.cells #[.int .i64 a.aY,.bool a.bI] 86)::(z,bl b.1 c d f (sl d103 g u))::(s,bl b.1 c d f q)::(o,bk u0 s1 i j (sl (some E) u0.told k))::(a6++(C++w))⟩,Le.refl _,?_⟩;refine ⟨aN,cp ?_⟩;revert h;refine bS fun iv ix h=>?_;cases h;obtain ⟨jC,et⟩:=dQ ix;apply ag _;refine eD (r:=dG) (l:=g) (x:=a) (cs:=#[.int .i64 a.aY,.bool a.bI]) (e2:=86) ((a5,ic (i109:Int))::(a4,.cells #[.int .i64 a.aY,.bool a.bI] 86)::(F,.cells #[.int .i64 a.aY,.bool a.bI] 86)::(z,bl b.1 c d f (sl d103 g u))::(s,bl b.1 c d f q)::(o,bk u0 s1 i j (sl (some E) u0.told k))::a6) w N ih jC rfl aN h7 rfl rfl eG eG iH iJ rfl iI aB aB (fun n0 ev bs G H n1=>?_);simp only[bw] at H;subst G;rw[<-et] at bs;clear et;obtain ⟨j1,j2,rfl,kh⟩:=bs.len;refine ⟨⟨B,(a5,ic (i109:Int))::(a4,.cells #[.int .i64 a.aY,.bool a.bI] 86)::(F,.cells #[.int .i64 a.aY,.bool a.bI] 86)::(z,bl b.1 c d f (sl d103 g u))::(s,bl b.1 c d f q)::(o,bk u0 s1 i j (sl (some E) u0.told k))::(a6++(ev++w))⟩,Le.refl _,?_⟩;refine ⟨aN,cp ?_⟩;apply ag _;have bj:=cK (n:=i109) (by have:=ab;omega);apply aM hJ _;refine ⟨u0.told.length - (i109+1),aa,_,Le.sub (List.Sublist.cons _ (List.Sublist.cons _ (List.Sublist.cons _ (List.Sublist.refl _)))),i109+1,ik,il,a6,j1,j2,ev,h4,iv,rfl,aa,ar,rfl,br,im,bs,kh,?_⟩;simp only[*,go_sem]
   cases h;apply aP hJ;have bj:=cK (n:=i109) (by have:=ab;omega);apply aM hJ _;refine ⟨u0.told.length - (i109+1),aa,_,Le.sub (List.Sublist.cons _ (List.Sublist.refl _)),i109+1,d96,M,X,d103,u,C,D,g,rfl,aa,ar,rfl,Y,hg,N,hh,?_⟩;simp only[*,go_sem]
  have n2:=Nat.not_lt.2 da;refine cx hJ ?_;rw[List.drop_eq_nil_of_le da] at R;obtain rfl:=sI R;clear R;have h:=hc;dsimp only[aJ] at h;apply b6;simp only[go_sem];apply ah hJ;refine aG hJ fun kj=>?_;apply aS hJ;revert h;refine bS fun n3 kk h=>?_;apply ag _;refine bf hJ _ (B7 (⟨b.1.bV,b.1.bU,b.1.bq,b.1.aE,b.1.props,b.1.aF,g⟩:an) ⟨(P.e.mono bn),(P.p.mono bn),(P.y.mono bn),(N.BT ((z,bl b.1 c d f (sl d103 g u))::(s,bl b.1 c d f q)::(o,bk u0 s1 i j (sl d24 u0.told k))::X) w (by first|rfl|simp only[bw]|(simp only[bw];rfl)) kj)⟩ kk) (aO ?_);apply ag _;revert h;refine bh hJ (fun kl h=>?_) fun kl h=>?_
  .refine aG hJ fun eQ=>?_;obtain ⟨eS,bz,Z,e0,km⟩:=Y.mc ((z,bl b.1 c d f (sl d103 g u))::(s,bl b.1 c d f q)::(o,bk u0 s1 i j (sl d24 u0.told k))::(C++w)) [(z,bl b.1 c d f (sl d103 g u)),(s,bl b.1 c d f q),(o,bk u0 s1 i j (sl d24 u0.told k))] (C++w) (by first|rfl|simp only[bw]|(simp only[bw];rfl)) (by first|rfl|simp only[bw]|(simp only[bw];rfl)) eQ (aK.cons g4 (aK.cons Q (aK.cons L (aK.app N.j5 (U.j5)))));clear eQ;refine cO hJ km ?_;obtain ⟨oi,oj,-⟩:=e0.op;replace Q:=Z.tl.hd;replace L:=Z.tl.tl.hd;replace N:=N.mono bz Z.tl.tl.tl.l;replace U:=U.mono bz Z.tl.tl.tl.r;simp only[bF] at Z;refine aG hJ fun kn=>?_;apply aS hJ;revert h;refine bS fun kp ks h=>?_;cases h;obtain ⟨kt,e1⟩:=dQ ks;apply ag _;refine aA fun e3 kv fa=>?_;have kx:=aZ.cons fa kn;try simp only[av] at fa
   refine eD (r:=(rL rI)) (l:=I) (x:=D) (cs:=#[.slice d96 D.length M]) (e2:=35) ((e3,.cells #[.slice d96 D.length M] 35)::(z,bl b.1 c d f (sl d103 g u))::(s,bl b.1 c d f q)::(o,bk u0 s1 i j (sl d24 u0.told k))::C) [] U kx kt ⟨_,rfl,e0⟩ aN kv rfl rfl l9 l9 tg tj rfl th aB aB (fun ox fb b0 G H oy=>?_);simp only[bw] at H;subst G;rw[<-e1] at b0;clear e1;obtain ⟨ky,k0,rfl,k2⟩:=b0.len;refine ⟨⟨eS,(e3,.cells #[.slice d96 D.length M] 35)::(z,bl b.1 c d f (sl d103 g u))::(s,bl b.1 c d f q)::(o,bk u0 s1 i j (sl d24 u0.told k))::(C++fb)⟩,Le.refl _,?_⟩;apply aO;apply ag _;refine aG hJ fun o0=>?_;apply aM hJ _;refine ⟨al,Nat.lt_succ_self _,_,Le.sub (List.Sublist.cons _ (List.Sublist.cons _ (List.Sublist.cons₂ _ (List.Sublist.cons₂ _ ((List.Sublist.refl _).trans (List.sublist_append_right _ _)))))),eS,ky,k0,fb,kp,(IntKind.i64.wrap (T+1)),ao,rfl,(W.trans bz),b0,k2,?_⟩;simp only[*,go_sem]
  cases h;apply aP hJ;refine aG hJ fun o1=>?_;apply aM hJ _;refine ⟨al,Nat.lt_succ_self _,_,Le.sub (List.Sublist.cons _ (List.Sublist.cons₂ _ (List.Sublist.cons₂ _ (((List.Sublist.refl _).trans (List.sublist_append_right _ _)).trans (List.sublist_append_right _ _))))),B,d71,S,w,I,(IntKind.i64.wrap (T+1)),ao,rfl,W,U,gV,?_⟩;simp only[*,go_sem]
 cases h;apply b6;simp only[go_sem];obtain rfl:=sI ao;clear ao;have h:=gM;dsimp only[aJ] at h;apply ah hJ;refine aG hJ fun ff=>?_;obtain ⟨o2,lb,b1,b2,lh⟩:=U.mc ((s,bl b.1 c d f q)::(o,bk u0 s1 i j (sl d24 u0.told k))::[]) [(s,bl b.1 c d f q),(o,bk u0 s1 i j (sl d24 u0.told k))] [] (by first|rfl|simp only[bw]|(simp only[bw];rfl)) (by first|rfl|simp only[bw]|(simp only[bw];rfl)) ff (aK.cons Q (aK.cons L (aK.nil _)));clear ff;refine cO hJ lh ?_;obtain ⟨o4,pa,-⟩:=b2.op;replace Q:=b1.hd;replace L:=b1.tl.hd;simp only[bF] at b1;refine dh hJ mixed 5 2 aN aj ?_;revert h;refine bS fun lj lk h=>?_;obtain ⟨pb,pd,fg⟩:=cP lk;obtain ⟨pf,ph,ll,ln,fi⟩:=b2.el _ _ fg;obtain ⟨pj,rfl,fl⟩:=ln;obtain ⟨pk,po,rfl,pr,ps,pt⟩:=id fl;cases ll;have lo:=fi 0 _ rfl;simp only[go_sem] at lo;clear fi fg;revert h;refine bS fun lr lv h=>?_;obtain ⟨pv,pw,px,fp⟩:=qJ lv;have fq:(1:Int).toNat<=((I.length:Int)).toNat:=aa;have lx:((I.length:Int)).toNat<=S:=aa;have py:0<=((I.length:Int)):=aa;obtain ⟨pA,ly,lL,fr⟩:=aH.qN b2 (1:Int).toNat ((I.length:Int)).toNat fq aa fp;simp only[go_sem] at ly lL fq lx;obtain ⟨_,_,l1,pB,pC,pD⟩:=id fr;cases l1;clear fp;revert h;refine bS fun pL l2 h=>?_;cases h;apply ag _;refine cw hJ _ (HD (ey:=110) (eL:=#[]) (eM:=#[]) jd ⟨by simp only[go_sem],fun pT p0 l3 _ l4 _ _ ma mf h=>by simp only[go_sem];exact Iu l3 ma l4 mf h⟩ lj fl lr fr l2) fun v p1 fs b3 a7=>?_;obtain ⟨qe,rfl,ft⟩:=a7;replace Q:=b3.hd;replace L:=b3.tl.hd;simp only[bF] at b3;obtain ⟨qk,q0,rfl,q1,ra,-⟩:=id ft;have rb:=fG (l:=[(s,bl b.1 c d f q),(o,bk u0 s1 i j (sl d24 u0.told k))]) fs (aK.cons Q (aK.cons L (aK.nil _)));refine ⟨aN,?_⟩;refine l6 ?_;apply ag _;refine cg ?_;exact ⟨_,(((ad).trans W).trans lb).trans fs,Le.sub (List.nil_sublist _),_,rfl,ft⟩
def yu (a:(di×Int))(i93:Nat)(b:bA)(st:(List bN)):Option (Fl (List bN) (ax×ax×Bool×Int)):=
 ai (mw a.1.book b) fun c=>ai (de st ([c])) fun d=>some (.nx d)
def yw (u0:an):Option (ax×ax×Bool×Int):=
 ai (ij u0 ([]:(List (an->Option Int)))) fun a=>cond ((a.2 != 0)) (some ((⟨0,0⟩:ax),(⟨0,0⟩:ax),false,a.2)) (ai (uJ a.1) fun g=>ai (bR (yu a) 0 g ([]:List bN)) fun o=>aJ o (fun b=>ai (bD b 0) fun c=>ai (iF b 1 (b.length:Int)) fun d=>ai (nq jI c d) fun h=>ai (nq tS c d) fun i=>ai (ki h.high u0.bq) fun e=>ai (kg i.high u0.bq) fun f=>ai (eV f e) fun j=>cond (j) (some ((⟨0,0⟩:ax),(⟨0,0⟩:ax),false,0)) (some (e,f,true,0))) (fun _ _=>none) (fun r=>some r))
theorem Iz {ro:Addr->Option Value}(bl:dH ro)(u0:an){s1 f g i:Value}(ab:bW ro u0 s1 f g i){r:(ax×ax×Bool×Int)}(h:yw u0=some r):aD Tryz.prog 8 #[bv u0 s1 f g i] ⟨ro,[]⟩ (fun v _=>v= .tuple #[r.1.v,r.2.1.v,.bool r.2.2.1,.int .i64 r.2.2.2]):=by
 unfold yw at h;have bm:=ab.oc;simp only[bP] at bm;refine aD.go Tryz.func8 rfl Tryz.ntmps8 Tryz.results8 au fun main J hJ A bo hd hs=>?_;have br:=hs 0;clear hs;apply az hJ _;refine aA fun j L bs=>?_;try simp only[av] at bs
 refine aA fun z M bz=>?_;try simp only[av] at bz
 refine aA fun B N b0=>?_;try simp only[av] at b0
 apply aC hJ;revert h;refine bS fun d b1 h=>?_;apply ag _;refine cw hJ _ (kz bl u0 ab ([]:(List (an->Option Int))) (aH.nil _ _) b1) fun v gn gp I O=>?_;obtain ⟨k,o,p,q,s,rfl,D,ad⟩:=O;have b2:=D.oc;simp only[bP] at b2;have b3:=ad.oc;simp only[bP] at b3;replace N:=I.hd;replace M:=I.tl.hd;replace L:=I.tl.tl.hd;simp only[bF] at I;apply aO;apply ag _;refine aA fun t ae b4=>?_;try simp only[av] at b4
 refine ah hJ (aC hJ ?_);apply ag _;revert h;refine bh hJ (fun b5 h=>?_) fun b5 h=>?_
 .cases h;apply az hJ _;apply aQ;simp only[*,go_sem]
 refine aP hJ (ah hJ ?_);apply aM hJ _;refine ah hJ (aC hJ ?_);revert h;refine bS fun u ca h=>?_;apply ag _;refine cw hJ _ (Ch d.1 D ad ca) fun v P cb E O=>?_;obtain ⟨gB,rfl,al⟩:=O;replace D:=D.mono cb;replace ae:=E.hd;replace N:=E.tl.hd;replace M:=E.tl.tl.hd;replace L:=E.tl.tl.tl.hd;simp only[bF] at E;obtain ⟨d81,gC,rfl,gM,cd,-⟩:=id al;apply aO;apply ag _;apply aX hJ;revert h;refine bS fun cf w cl=>?_;refine cc hJ (rg 25 12 [7,9]) (fun m ao F'=>∃(i93:Nat) (d87:Option Addr) (G:Nat) (Q:List (Nat×Obj)) (e:(List bN)),m=u.length - i93/\i93<=u.length/\bR (yu d) i93 (u.drop i93) e=some cf/\F'=⟨P,(t,kn d.1 k o p q s)::(B,rt 0 0)::(z,rt 0 0)::(j,bk u0 s1 f g i)::Q⟩/\bg k9 P 105 (.slice d87 e.length G) e Q/\e.length<=G/\slot ao 25= .int .i64 (i93:Int)/\slot ao 7= .slice d87 e.length G) u.length ?_ ?_
 .refine ⟨0,none,0,[],([]:List bN),(Nat.sub_zero _).symm,Nat.zero_le _,w,rfl,bg.nil _ _ _,Nat.le_refl _,?_⟩;simp only[*,go_sem]
 rintro gT gV F' ar ⟨i93,d87,G,Q,e,rfl,g0,w,rfl,a0,g1,g2,g3⟩;obtain ⟨cy,cS,c0⟩:=ar.pick [1,2,3,4,5,6,23,24] aB;simp only[*,go_sem] at cy cS c0;clear ar bo hd br;apply az hJ _;apply ah hJ;rcases Nat.lt_or_ge i93 u.length with da|a2
 .refine cB hJ ?_;apply aP hJ;obtain ⟨C,R⟩:∃x,u[i93]?=some x:=⟨_,List.getElem?_eq_getElem da⟩
  rw[dK R] at w;revert w;refine bS fun g4 h db=>?_;unfold yu at h;try dsimp only at h
  obtain ⟨ha,dd,df,dk,S⟩:=al.el _ _ R;obtain rfl:dd=C.cells:=dk;cases df;have dp:=S 0 _ rfl;simp only[go_sem] at dp;have dq:=S 1 _ rfl;simp only[go_sem] at dq;clear S R;refine ah hJ (aX hJ (ah hJ ?_));refine aG hJ fun ds=>?_;apply aM hJ _;refine aA fun a3 hc a4=>?_;have hf:=aZ.cons a4 ds;try simp only[av] at a4
  refine aG hJ fun dt=>?_;apply aS hJ;revert h;refine bS fun a du h=>?_;apply ag _;refine bf hJ _ (tZ d.1.book (D.mono bn) C du) (aO ?_);revert h;refine bS fun dv dC h=>?_;cases h;obtain ⟨dE,a5⟩:=dQ dC;apply ag _;refine aA fun a6 dT a7=>?_;have ea:=aZ.cons a7 dt;try simp only[av] at a7
  refine eD (r:=k9) (l:=e) (x:=a) (cs:=#[.int .i64 a.spot.aV,.int .i64 a.spot.high.num,.int .i64 a.spot.high.den,.int .i64 a.at_,.int .i64 a.high.num,.int .i64 a.high.den]) (e2:=105) [(a6,.cells #[.int .i64 a.spot.aV,.int .i64 a.spot.high.num,.int .i64 a.spot.high.den,.int .i64 a.at_,.int .i64 a.high.num,.int .i64 a.high.den] 105),(a3,.cells #[.int .i64 C.back,.int .i64 C.high] 101),(t,kn d.1 k o p q s),(B,rt 0 0),(z,rt 0 0),(j,bk u0 s1 f g i)] [] a0 ea dE rfl aN dT rfl rfl oJ oJ wU wW rfl wV aB aB (fun hg a8 T eb ec hh=>?_);simp only[bw] at ec;subst eb;rw[<-a5] at T;clear a5;obtain ⟨d115,ed,rfl,eh⟩:=T.len;refine ⟨⟨P,(a6,.cells #[.int .i64 a.spot.aV,.int .i64 a.spot.high.num,.int .i64 a.spot.high.den,.int .i64 a.at_,.int .i64 a.high.num,.int .i64 a.high.den] 105)::(a3,.cells #[.int .i64 C.back,.int .i64 C.high] 101)::(t,kn d.1 k o p q s)::(B,rt 0 0)::(z,rt 0 0)::(j,bk u0 s1 f g i)::a8⟩,Le.refl _,?_⟩;apply aO;apply ag _;have hi:=cK (n:=i93) (by have:=cd;omega);apply aM hJ _;refine ⟨u.length - (i93+1),aa,_,Le.sub (List.Sublist.cons _ (List.Sublist.cons _ (List.Sublist.refl _))),i93+1,d115,ed,a8,dv,rfl,aa,db,rfl,T,eh,?_⟩;simp only[*,go_sem]
 have hj:=Nat.not_lt.2 a2;refine cx hJ ?_;rw[List.drop_eq_nil_of_le a2] at w;obtain rfl:=sI w;clear w;have h:=cl;dsimp only[aJ] at h;apply b6;simp only[go_sem];apply ah hJ;refine aG hJ fun a9=>?_;obtain ⟨K,hk,et,U,ev⟩:=a0.fj [(t,kn d.1 k o p q s),(B,rt 0 0),(z,rt 0 0),(j,bk u0 s1 f g i)] [] a9 (aK.cons ae (aK.cons N (aK.cons M (aK.cons L (aK.nil _)))));clear a9;refine cO hJ ev ?_;obtain ⟨hl,hn,-⟩:=U.op;simp only[bF] at et;refine eJ hJ mixed 6 ⟨K,[(t,kn d.1 k o p q s),(B,rt 0 0),(z,rt 0 0),(j,bk u0 s1 f g i)]⟩ aN aj ?_;revert h;refine bS fun V eQ h=>?_;obtain ⟨ho,hp,ba⟩:=cP eQ;obtain ⟨hq,eS,e0,e1,y⟩:=U.el _ _ ba;obtain rfl:eS=V.cells:=e1;cases e0;have e3:=y 0 _ rfl;simp only[go_sem] at e3;have fa:=y 1 _ rfl;simp only[go_sem] at fa;have fb:=y 2 _ rfl;simp only[go_sem] at fb;have ff:=y 3 _ rfl;simp only[go_sem] at ff;have fg:=y 4 _ rfl;simp only[go_sem] at fg;have fi:=y 5 _ rfl;simp only[go_sem] at fi;clear y ba;revert h;refine bS fun bb fl h=>?_;obtain ⟨hr,ht,hv,bc⟩:=qJ fl;have bd:(1:Int).toNat<=((e.length:Int)).toNat:=aa;have fp:((e.length:Int)).toNat<=G:=aa;have hx:0<=((e.length:Int)):=aa;obtain ⟨d132,fq,fr,W⟩:=aH.qN U (1:Int).toNat ((e.length:Int)).toNat bd aa bc;simp only[go_sem] at fq fr bd fp;obtain ⟨_,_,fs,hy,hz,hA⟩:=id W;cases fs;clear bc;revert h;refine bS fun b ft h=>?_;apply ag _;refine ⟨_,bL hJ fun F H=>tR (ey:=57) (eL:=#[]) (eM:=#[]) jI ⟨by simp only[go_sem],fun fu fv X Y _ h=>by simp only[go_sem];exact tN X Y h⟩ V bb (W.mono (cm H)) ft,?_⟩;apply ag _;refine aA fun Z hB fw=>?_;try simp only[av] at fw
 apply ag _;apply ah hJ;refine eJ hJ mixed 6 ⟨K,[(Z,.cells #[.int .i64 b.spot.aV,.int .i64 b.spot.high.num,.int .i64 b.spot.high.den,.int .i64 b.at_,.int .i64 b.high.num,.int .i64 b.high.den] 105),(t,kn d.1 k o p q s),(B,rt 0 0),(z,rt 0 0),(j,bk u0 s1 f g i)]⟩ aN aj ?_;revert h;refine bS fun c fx h=>?_;apply ag _;refine ⟨_,bL hJ fun F H=>tR (ey:=58) (eL:=#[]) (eM:=#[]) tS ⟨by simp only[go_sem],fun fu fv X Y _ h=>by simp only[go_sem];exact Ht X Y h⟩ V bb (W.mono (cm H)) fx,?_⟩;apply ag _;refine aA fun bj hD fz=>?_;try simp only[av] at fz
 apply ag _;apply ah hJ;refine eJ hJ mixed 10 ⟨K,[(bj,.cells #[.int .i64 c.spot.aV,.int .i64 c.spot.high.num,.int .i64 c.spot.high.den,.int .i64 c.at_,.int .i64 c.high.num,.int .i64 c.high.den] 105),(Z,.cells #[.int .i64 b.spot.aV,.int .i64 b.spot.high.num,.int .i64 b.spot.high.den,.int .i64 b.at_,.int .i64 b.high.num,.int .i64 b.high.den] 105),(t,kn d.1 k o p q s),(j,bk u0 s1 f g i)]⟩ aN aj ?_;revert h;refine bS fun fP fQ h=>?_;apply ag _;refine ⟨_,bL hJ fun F H=>q5 b.high u0.bq fQ,cr ?_⟩;revert h;refine bS fun fS fU h=>?_;apply ag _;refine ⟨_,bL hJ fun F H=>q4 c.high u0.bq fU,?_⟩;apply ag _;refine ah hJ (aC hJ ?_);revert h;refine bS fun hE gg h=>?_;apply ag _;refine bf hJ _ (jH fS fP gg) ?_;revert h;refine bh hJ (fun gl h=>?_) fun gl h=>?_
 .cases h;apply az hJ _;apply aQ;simp only[*,go_sem]
 refine aP hJ (ah hJ ?_);refine fc hJ mixed [] (.two 0 (.two 1 (.one 2 (.one 3 (.pure 4 (.pure 5 .done)))) 2 (.one 1 (.one 3 (.pure 4 (.pure 5 .done))))) 1 (.one 0 (.one 2 (.one 3 (.pure 4 (.pure 5 .done)))))) ⟨K,[(bj,.cells #[.int .i64 c.spot.aV,.int .i64 c.spot.high.num,.int .i64 c.spot.high.den,.int .i64 c.at_,.int .i64 c.high.num,.int .i64 c.high.den] 105),(Z,.cells #[.int .i64 b.spot.aV,.int .i64 b.spot.high.num,.int .i64 b.spot.high.den,.int .i64 b.at_,.int .i64 b.high.num,.int .i64 b.high.den] 105),(t,kn d.1 k o p q s),(j,bk u0 s1 f g i)]⟩ aN aj ?_;apply ag _;refine k6 ?_ ?_
 .apply ag _;refine k6 ?_ ?_
  .cases h;apply ag _;apply aQ;simp only[*,go_sem]
  cases h;apply ag _;apply aQ;simp only[*,go_sem]
 cases h;apply ag _;apply aQ;simp only[*,go_sem]
def nL (u0:an)(b:Int):Option ((List Int)×Int):=
 ai (ij u0 ([(fA b)])) fun a=>cond ((a.2 != 0)) (some (([]:(List Int)),a.2)) (ai (mC a.1 b) fun c=>some (c,0))
theorem uK {ro:Addr->Option Value}(g:dH ro)(u0:an){s1 i j k:Value}(f:bW ro u0 s1 i j k)(a:Int){r:((List Int)×Int)}(h:nL u0 a=some r):e4 Tryz.prog 19 #[bv u0 s1 i j k,.int .i64 a] ro (fun v aW=>∃m,v= .tuple #[m,.int .i64 r.2]/\aH rI aW m r.1):=by
 unfold nL at h;have D:=f.oc;simp only[bP] at D;refine aD.go Tryz.func19 rfl Tryz.ntmps19 Tryz.results19 au fun main J hJ A Y hd hs=>?_;have Z:=hs 0;have k1:=hs 1;clear hs;apply az hJ _;refine aA fun E F G=>?_;try simp only[av] at G
 apply ah hJ;refine aG hJ fun H=>?_;apply aS hJ;revert h;refine bS fun I K h=>?_;apply ag _;refine aA fun c n p=>?_;have q:=aZ.cons p H;try simp only[av] at p
 obtain ⟨d,s,t⟩:=fM (b:=c) (o:=(.cells #[.func (.func 86) #[.int .i64 a] #[]] 116)) [] ((E,bk u0 s1 i j k)::[]) q n (aK.cons F (aK.nil _));have u:aH (dw) (b7 ro c (.cells #[.func (.func 86) #[.int .i64 a] #[]] 116)) (.slice (some ⟨c,0,none⟩) 1 1) [(fA a)]:=(aH.one (r:=(dw)) (e:=116) (cs:=#[.func (.func 86) #[.int .i64 a] #[]]) (x:=(fA a)) (own:=[(c,.cells #[.func (.func 86) #[.int .i64 a] #[]] 116)]) n (by simp[lk]) ⟨86,#[.int .i64 a],#[],rfl,⟨by simp only[go_sem],fun ab ad L _ _ _ _ _ M N O P h=>by simp only[go_sem];exact tQ a L ⟨M,N,O,P⟩ h⟩⟩)
 generalize b7 ro c (.cells #[.func (.func 86) #[.int .i64 a] #[]] 116)=ae at u s d t;refine hU hJ t ?_;replace f:=f.mono d;replace g:=g.mono d;simp only[bF] at s;have Q:=aZ.tl q;refine cw hJ _ (kz g u0 f ([(fA a)]) u K) fun v al w R l=>?_;obtain ⟨ao,ar,a0,a2,a3,rfl,y,z⟩:=l;have S:=y.oc;simp only[bP] at S;have T:=z.oc;simp only[bP] at T;simp only[bF] at R;apply aO;apply ag _;refine aA fun a4 a5 B=>?_;have a6:=aZ.cons B Q;try simp only[av] at B
 refine ah hJ (aC hJ ?_);apply ag _;revert h;refine bh hJ (fun U h=>?_) fun U h=>?_
 .cases h;apply az hJ _;refine cg ?_;exact ⟨_,(d).trans w,Le.sub (List.nil_sublist _),_,rfl,aH.nil _ _⟩
 refine aP hJ (ah hJ ?_);apply aS hJ;revert h;refine bS fun a7 V h=>?_;cases h;apply ag _;refine cw hJ _ (uI I.1 y z a V) fun v a8 W X l=>?_;obtain ⟨a9,rfl,C⟩:=l;simp only[bF] at X;obtain ⟨d89,ba,rfl,bb,bc,-⟩:=id C;apply aO;apply ag _;refine cg ?_;exact ⟨_,((d).trans w).trans W,Le.sub (List.nil_sublist _),_,rfl,C⟩
def nM (a:(di×Int))(i80:Nat)(i102:Nat)(c:Int)(st:(Int×ax)):Option (Fl (Int×ax) (Int×ax×Int)):=
 ai (ig a.1.book (i80:Int) c) fun b=>ai (gU a.1.book b) fun d=>cond (d) (ai (lq a.1.book b) fun e=>ai (eV st.2 e) fun f=>cond (f) (ai (lq a.1.book b) fun g=>some (.nx ((i80:Int),g))) (some (.nx (st.1,st.2)))) (some (.nx (st.1,st.2)))
def rE (a:(di×Int))(i80:Nat)(d:cq)(st:(Int×ax)):Option (Fl (Int×ax) (Int×ax×Int)):=
 ai (mC a.1 (i80:Int)) fun c=>ai (bR (nM a i80) 0 c (st.1,st.2)) fun o=>aJ o (fun b=>some (.nx (b.1,b.2))) (fun _ _=>none) (fun r=>some (.rt r))
def lz (u0:an):Option (Int×ax×Int):=
 ai (ij u0 ([]:(List (an->Option Int)))) fun a=>cond ((a.2 != 0)) (some (0,(⟨0,0⟩:ax),a.2)) (ai (gA 0) fun c=>ai (bR (rE a) 0 a.1.book.aF ((-1),c)) fun o=>aJ o (fun b=>some (b.1,b.2,0)) (fun _ _=>none) (fun r=>some r))
theorem yx {ro:Addr->Option Value}(ar:dH ro)(u0:an){s1 j k l:Value}(R:bW ro u0 s1 j k l){r:(Int×ax×Int)}(h:lz u0=some r):aD Tryz.prog 27 #[bv u0 s1 j k l] ⟨ro,[]⟩ (fun v _=>v= .tuple #[.int .i64 r.1,r.2.1.v,.int .i64 r.2.2]):=by
 unfold lz at h;have a0:=R.oc;simp only[bP] at a0;refine aD.go Tryz.func27 rfl Tryz.ntmps27 Tryz.results27 au fun main J hJ A a2 hd hs=>?_;have a3:=hs 0;clear hs;apply az hJ _;refine aA fun w ev a4=>?_;try simp only[av] at a4
 refine aA fun z eQ a5=>?_;try simp only[av] at a5
 apply aC hJ;revert h;refine bS fun a a6 h=>?_;apply ag _;refine cw hJ _ (kz ar u0 R ([]:(List (an->Option Int))) (aH.nil _ _) a6) fun v S eS a7 B=>?_;obtain ⟨C,D,e0,E,G,rfl,b,p⟩:=B;have a8:=b.oc;simp only[bP] at a8;have a9:=p.oc;simp only[bP] at a9;simp only[bF] at a7;obtain ⟨d52,H,rfl,e1,ba,-⟩:=id b.y;apply aO;apply ag _;refine aA fun I e2 bb=>?_;try simp only[av] at bb
 refine ah hJ (aC hJ ?_);apply ag _;revert h;refine bh hJ (fun bc h=>?_) fun bc h=>?_
 .cases h;apply az hJ _;apply aQ;simp only[*,go_sem]
 refine aP hJ (ah hJ ?_);apply aS hJ;revert h;refine bS fun bd bj h=>?_;apply ag _;refine bf hJ _ (j9 0 bj) (aO ?_);apply ag _;refine ah hJ (aC hJ ?_);apply ag _;apply aX hJ;revert h;refine bS fun bl e bm=>?_;refine cc hJ (rg 25 35 [2,6,8,9]) (fun m o F'=>∃(i80:Nat) (q:Addr->Option Value) (s:Int) (f:ax),m=a.1.book.aF.length - i80/\i80<=a.1.book.aF.length/\bR (rE a) i80 (a.1.book.aF.drop i80) (s,f)=some bl/\F'=⟨q,(I,kn a.1 C D (sl d52 a.1.book.aF H) E G)::(z,rt f.num f.den)::(w,bk u0 s1 j k l)::[]⟩/\Ext S q/\slot o 25= .int .i64 (i80:Int)/\slot o 2= .int .i64 s) a.1.book.aF.length ?_ ?_
 .refine ⟨0,S,(-1),bd,(Nat.sub_zero _).symm,Nat.zero_le _,e,rfl,Ext.refl _,?_⟩;simp only[*,go_sem]
 rintro e3 bo F' T ⟨i80,q,s,f,rfl,fa,e,rfl,K,br,bs⟩;refine fX hJ fun _ bz=>?_;replace b:=b.mono K;replace p:=p.mono K;simp only[bF] at bz;obtain ⟨U,V,W⟩:=T.pick [3,4,5,24] aB;simp only[*,go_sem] at U V W;clear T a2 hd a3;apply az hJ _;apply ah hJ;rcases Nat.lt_or_ge i80 a.1.book.aF.length with b0|X
 .refine cB hJ ?_;apply aP hJ;obtain ⟨b1,L⟩:∃x,a.1.book.aF[i80]?=some x:=⟨_,List.getElem?_eq_getElem b0⟩
  rw[dK L] at e;revert e;refine bS fun fb h b2=>?_;unfold rE at h;try dsimp only at h
  obtain ⟨b3,b4,b5,ca,t⟩:=b.y.el _ _ L;obtain rfl:b4=b1.cells:=ca;cases b5;have cb:=t 0 _ rfl;simp only[go_sem] at cb;have cd:=t 1 _ rfl;simp only[go_sem] at cd;have cf:=t 2 _ rfl;simp only[go_sem] at cf;clear t L;refine ah hJ (aX hJ (ah hJ ?_));apply aM hJ _;apply aC hJ;revert h;refine bS fun c cl h=>?_;apply ag _;refine cw hJ _ (uI a.1 b p (i80:Int) cl) fun v Y Z cy B=>?_;obtain ⟨ff,rfl,ab⟩:=B;replace b:=b.mono Z;simp only[bF] at cy;obtain ⟨d95,fg,rfl,fi,M,-⟩:=id ab;apply aO;apply ag _;apply aX hJ;revert h;refine bS fun c0 g da=>?_;refine cc hJ (rg 32 27 [2,8,9]) (fun m o F'=>∃(i102:Nat) (i:Int) (d:ax),m=c.length - i102/\i102<=c.length/\bR (nM a i80) i102 (c.drop i102) (i,d)=some c0/\F'=⟨Y,(I,kn a.1 C D (sl (some b3) a.1.book.aF H) E G)::(z,rt d.num d.den)::(w,bk u0 s1 j k l)::[]⟩/\slot o 32= .int .i64 (i102:Int)/\slot o 2= .int .i64 i) c.length ?_ ?_
  .refine ⟨0,s,f,(Nat.sub_zero _).symm,Nat.zero_le _,g,rfl,?_⟩;simp only[*,go_sem]
  rintro fl db F' N ⟨i102,i,d,rfl,fp,g,rfl,fq,fr⟩;obtain ⟨dd,df,dk⟩:=N.pick [3,4,5,6,24,25,26,27,28,29,30,31] aB;simp only[*,go_sem] at dd df dk;have fs:c6 (rg 25 35 [2,6,8,9]) db bo:=(N.gN aB).trans aN;clear N U V W bs br;apply az hJ _;apply ah hJ;rcases Nat.lt_or_ge i102 c.length with dp|ad
  .refine cB hJ ?_;apply aP hJ;obtain ⟨ae,O⟩:∃x,c[i102]?=some x:=⟨_,List.getElem?_eq_getElem dp⟩
   rw[dK O] at g;revert g;refine bS fun ft h P=>?_;unfold nM at h;(try dsimp only at h);obtain ⟨fu,dq,ds,dt,al⟩:=ab.el _ _ O;obtain rfl:dq=[.int .i64 ae]:=dt;cases ds;have du:=al 0 _ rfl;simp only[go_sem] at du;clear al O;refine ah hJ (aX hJ (ah hJ ?_));apply aM hJ _;apply aC hJ;revert h;refine bS fun Q dv h=>?_;apply ag _;refine bf hJ _ (nk a.1.book (b.mono bn) (i80:Int) ae dv) (aO ?_);apply ag _;refine aA fun fv fw dC=>?_;try simp only[av] at dC
   apply ah hJ;refine dh hJ mixed 12 4 aN aj ?_;revert h;refine bS fun fx dE h=>?_;apply ag _;refine ⟨_,bL hJ fun F u=>nE a.1.book (b.mono (cm u)) Q dE,cr ?_⟩;revert h;refine cS (fun dT h=>?_) fun dT h=>?_
   .revert h;refine bS fun ea eb h=>?_;apply ag _;refine ⟨_,bL hJ fun F u=>ua a.1.book (b.mono (cm u)) Q eb,cr ?_⟩;revert h;refine bS fun fz ec h=>?_;apply ag _;refine ⟨_,bL hJ fun F u=>jH d ea ec,cr ?_⟩;apply ag _;revert h;refine bh hJ (fun ed h=>?_) fun ed h=>?_
    .apply aS hJ;revert h;refine bS fun eh et h=>?_;cases h;apply ag _;refine bf hJ _ (ua a.1.book (b.mono bn) Q et) (aO ?_);apply ag _;have ao:=cK (n:=i102) (by have:=M;omega);apply aM hJ _;refine ⟨c.length - (i102+1),aa,_,Le.sub (List.Sublist.cons _ (List.Sublist.refl _)),i102+1,(i80:Int),eh,rfl,aa,P,rfl,?_⟩;simp only[*,go_sem]
    cases h;apply aP hJ;have ao:=cK (n:=i102) (by have:=M;omega);apply aM hJ _;refine ⟨c.length - (i102+1),aa,_,Le.sub (List.Sublist.cons _ (List.Sublist.refl _)),i102+1,i,d,rfl,aa,P,rfl,?_⟩;simp only[*,go_sem]
   cases h;apply ag _;refine cx hJ ?_;apply aP hJ;have ao:=cK (n:=i102) (by have:=M;omega);apply aM hJ _;refine ⟨c.length - (i102+1),aa,_,Le.sub (List.Sublist.cons _ (List.Sublist.refl _)),i102+1,i,d,rfl,aa,P,rfl,?_⟩;simp only[*,go_sem]
  have fP:=Nat.not_lt.2 ad;refine cx hJ ?_;rw[List.drop_eq_nil_of_le ad] at g;obtain rfl:=sI g;clear g;have h:=da;dsimp only[aJ] at h;cases h;apply b6;simp only[go_sem];have fQ:=cK (n:=i80) (by have:=ba;omega);apply aM hJ _;refine ⟨a.1.book.aF.length - (i80+1),aa,_,Le.sub (List.Sublist.refl _),i80+1,Y,i,d,rfl,aa,b2,rfl,(K.trans Z),?_⟩;simp only[*,go_sem]
 have fS:=Nat.not_lt.2 X;refine cx hJ ?_;rw[List.drop_eq_nil_of_le X] at e;obtain rfl:=sI e;clear e;have h:=bm;dsimp only[aJ] at h;cases h;apply b6;simp only[go_sem];apply ah hJ;refine fc hJ mixed [3,4] (.pure 0 (.rd 1 (.pure 2 (.last 3 (.pure 4 .done))))) ⟨q,[(I,kn a.1 C D (sl d52 a.1.book.aF H) E G),(z,rt f.num f.den),(w,bk u0 s1 j k l)]⟩ aN aj ?_;apply ag _;apply aQ;simp only[*,go_sem]
def pe (b:Int)(a:(di×Int))(i103:Nat)(c:Int)(st:(List ax)):Option (Fl (List ax) (ax×ax×Int)):=
 ai (ig a.1.book b c) fun d=>ai (nB a.1.book d) fun e=>ai (de st ([e])) fun f=>some (.nx f)
def nN (u0:an)(b:Int):Option (ax×ax×Int):=
 ai (ij u0 ([(fA b)])) fun a=>cond ((a.2 != 0)) (some ((⟨0,0⟩:ax),(⟨0,0⟩:ax),a.2)) (ai (mC a.1 b) fun f=>ai (bR (pe b a) 0 f ([]:List ax)) fun o=>aJ o (fun c=>ai (bD c 0) fun d=>ai (iF c 1 (c.length:Int)) fun e=>ai (gD nt d e) fun g=>ai (gD eV d e) fun h=>some (g,h,0)) (fun _ _=>none) (fun r=>some r))
theorem Ci {ro:Addr->Option Value}(S:dH ro)(u0:an){s1 f g i:Value}(P:bW ro u0 s1 f g i)(a:Int){r:(ax×ax×Int)}(h:nN u0 a=some r):aD Tryz.prog 21 #[bv u0 s1 f g i,.int .i64 a] ⟨ro,[]⟩ (fun v _=>v= .tuple #[r.1.v,r.2.1.v,.int .i64 r.2.2]):=by
 unfold nN at h;have b3:=P.oc;simp only[bP] at b3;refine aD.go Tryz.func21 rfl Tryz.ntmps21 Tryz.results21 au fun main J hJ A b4 hd hs=>?_;have b5:=hs 0;have k1:=hs 1;clear hs;apply az hJ _;refine aA fun j G ca=>?_;try simp only[av] at ca
 refine aA fun t H cb=>?_;try simp only[av] at cb
 refine aA fun u I cd=>?_;try simp only[av] at cd
 apply ah hJ;refine aG hJ fun cf=>?_;apply aS hJ;revert h;refine bS fun d cl h=>?_;apply ag _;refine aA fun K al ao=>?_;have ar:=aZ.cons ao cf;try simp only[av] at ao
 obtain ⟨T,L,a0⟩:=fM (b:=K) (o:=(.cells #[.func (.func 86) #[.int .i64 a] #[]] 116)) [] ((u,rt 0 0)::(t,rt 0 0)::(j,bk u0 s1 f g i)::[]) ar al (aK.cons I (aK.cons H (aK.cons G (aK.nil _))));have a2:aH (dw) (b7 ro K (.cells #[.func (.func 86) #[.int .i64 a] #[]] 116)) (.slice (some ⟨K,0,none⟩) 1 1) [(fA a)]:=(aH.one (r:=(dw)) (e:=116) (cs:=#[.func (.func 86) #[.int .i64 a] #[]]) (x:=(fA a)) (own:=[(K,.cells #[.func (.func 86) #[.int .i64 a] #[]] 116)]) al (by simp[lk]) ⟨86,#[.int .i64 a],#[],rfl,⟨by simp only[go_sem],fun a3 a4 M _ _ _ _ _ cy cS c0 da h=>by simp only[go_sem];exact tQ a M ⟨cy,cS,c0,da⟩ h⟩⟩)
 generalize b7 ro K (.cells #[.func (.func 86) #[.int .i64 a] #[]] 116)=gn at a2 L T a0;refine hU hJ a0 ?_;replace P:=P.mono T;replace I:=L.hd;replace H:=L.tl.hd;replace G:=L.tl.tl.hd;replace S:=S.mono T;simp only[bF] at L;have db:=aZ.tl ar;refine cw hJ _ (kz S u0 P ([(fA a)]) a2 cl) fun v gp gB Q U=>?_;obtain ⟨w,y,z,B,C,rfl,D,a5⟩:=U;have dd:=D.oc;simp only[bP] at dd;have df:=a5.oc;simp only[bP] at df;replace I:=Q.hd;replace H:=Q.tl.hd;replace G:=Q.tl.tl.hd;simp only[bF] at Q;apply aO;apply ag _;refine aA fun E a6 a7=>?_;have gC:=aZ.cons a7 db;try simp only[av] at a7
 refine ah hJ (aC hJ ?_);apply ag _;revert h;refine bh hJ (fun dk h=>?_) fun dk h=>?_
 .cases h;apply az hJ _;apply aQ;simp only[*,go_sem]
 refine aP hJ (ah hJ ?_);apply aM hJ _;refine ah hJ (aC hJ ?_);revert h;refine bS fun k dp h=>?_;apply ag _;refine cw hJ _ (uI d.1 D a5 a dp) fun v R dq N U=>?_;obtain ⟨gM,rfl,a8⟩:=U;replace D:=D.mono dq;replace a6:=N.hd;replace I:=N.tl.hd;replace H:=N.tl.tl.hd;replace G:=N.tl.tl.tl.hd;simp only[bF] at N;obtain ⟨d91,gT,rfl,gV,ds,-⟩:=id a8;apply aO;apply ag _;apply aX hJ;revert h;refine bS fun dt p du=>?_;refine cc hJ (rg 29 16 [8,10]) (fun m a9 F'=>∃(i103:Nat) (d97:Option Addr) (O:Nat) (V:List (Nat×Obj)) (c:(List ax)),m=k.length - i103/\i103<=k.length/\bR (pe a d) i103 (k.drop i103) c=some dt/\F'=⟨R,(E,kn d.1 w y z B C)::(u,rt 0 0)::(t,rt 0 0)::(j,bk u0 s1 f g i)::V⟩/\bg mg R 23 (.slice d97 c.length O) c V/\c.length<=O/\slot a9 29= .int .i64 (i103:Int)/\slot a9 8= .slice d97 c.length O) k.length ?_ ?_
 .refine ⟨0,none,0,[],([]:List ax),(Nat.sub_zero _).symm,Nat.zero_le _,p,rfl,bg.nil _ _ _,Nat.le_refl _,?_⟩;simp only[*,go_sem]
 rintro g0 g1 F' ba ⟨i103,d97,O,V,c,rfl,g2,p,rfl,bb,g3,g4,ha⟩;obtain ⟨dv,dC,dE⟩:=ba.pick [1,4,5,6,7,27,28] aB;simp only[*,go_sem] at dv dC dE;clear ba b4 hd b5 k1;apply az hJ _;apply ah hJ;rcases Nat.lt_or_ge i103 k.length with dT|bc
 .refine cB hJ ?_;apply aP hJ;obtain ⟨bd,W⟩:∃x,k[i103]?=some x:=⟨_,List.getElem?_eq_getElem dT⟩
  rw[dK W] at p;revert p;refine bS fun hc h ea=>?_;unfold pe at h;try dsimp only at h
  obtain ⟨hf,eb,ec,ed,bj⟩:=a8.el _ _ W;obtain rfl:eb=[.int .i64 bd]:=ed;cases ec;have eh:=bj 0 _ rfl;simp only[go_sem] at eh;clear bj W;refine ah hJ (aX hJ (ah hJ ?_));refine aG hJ fun hg=>?_;apply aM hJ _;refine aG hJ fun et=>?_;refine eJ hJ mixed 9 ⟨R,[(E,kn d.1 w y z B C),(u,rt 0 0),(t,rt 0 0),(j,bk u0 s1 f g i)]⟩ aN aj ?_;revert h;refine bS fun ev eQ h=>?_;apply ag _;refine ⟨_,bL hJ fun F q=>nk d.1.book (D.mono (cm q)) a bd eQ,cr ?_⟩;revert h;refine bS fun s eS h=>?_;apply ag _;refine ⟨_,bL hJ fun F q=>BZ d.1.book (D.mono (cm q)) ev eS,?_⟩;revert h;refine bS fun e0 e1 h=>?_;cases h;obtain ⟨e3,bl⟩:=dQ e1;apply ag _;refine aA fun bm fa bo=>?_;have fb:=aZ.cons bo et;try simp only[av] at bo
  apply ag _;refine eD (r:=mg) (l:=c) (x:=s) (cs:=#[.int .i64 s.num,.int .i64 s.den]) (e2:=23) [(bm,rt s.num s.den),(E,kn d.1 w y z B C),(u,rt 0 0),(t,rt 0 0),(j,bk u0 s1 f g i)] [] bb fb e3 rfl aN fa rfl rfl Bl Bl F4 wT rfl F5 aB aB (fun hh br X ff fg hi=>?_);simp only[bw] at fg;subst ff;rw[<-bl] at X;clear bl;obtain ⟨d125,fi,rfl,fl⟩:=X.len;refine ⟨⟨R,(bm,rt s.num s.den)::(E,kn d.1 w y z B C)::(u,rt 0 0)::(t,rt 0 0)::(j,bk u0 s1 f g i)::br⟩,Le.refl _,?_⟩;refine ⟨aN,l6 ?_⟩;apply ag _;have hj:=cK (n:=i103) (by have:=ds;omega);apply aM hJ _;refine ⟨k.length - (i103+1),aa,_,Le.sub (List.Sublist.cons _ (List.Sublist.refl _)),i103+1,d125,fi,br,e0,rfl,aa,ea,rfl,X,fl,?_⟩;simp only[*,go_sem]
 have hk:=Nat.not_lt.2 bc;refine cx hJ ?_;rw[List.drop_eq_nil_of_le bc] at p;obtain rfl:=sI p;clear p;have h:=du;dsimp only[aJ] at h;apply b6;simp only[go_sem];apply ah hJ;refine aG hJ fun hl=>?_;apply aM hJ _;apply ah hJ;refine aG hJ fun bs=>?_;obtain ⟨fp,hn,fq,Y,fr⟩:=bb.fj [(E,kn d.1 w y z B C),(u,rt 0 0),(t,rt 0 0),(j,bk u0 s1 f g i)] [] bs (aK.cons a6 (aK.cons I (aK.cons H (aK.cons G (aK.nil _)))));clear bs;refine cO hJ fr ?_;obtain ⟨ho,hp,-⟩:=Y.op;simp only[bF] at fq;refine eJ hJ mixed 13 ⟨fp,[(E,kn d.1 w y z B C),(j,bk u0 s1 f g i)]⟩ aN aj ?_;revert h;refine bS fun Z fs h=>?_;obtain ⟨hq,hr,bz⟩:=cP fs;obtain ⟨ht,ft,fu,fv,ab⟩:=Y.el _ _ bz;obtain rfl:ft=Z.cells:=fv;cases fu;have fw:=ab 0 _ rfl;simp only[go_sem] at fw;have fx:=ab 1 _ rfl;simp only[go_sem] at fx;clear ab bz;revert h;refine bS fun b0 fz h=>?_;obtain ⟨hv,hx,hy,b1⟩:=qJ fz;have b2:(1:Int).toNat<=((c.length:Int)).toNat:=aa;have fP:((c.length:Int)).toNat<=O:=aa;have hz:0<=((c.length:Int)):=aa;obtain ⟨d143,fQ,fS,ad⟩:=aH.qN Y (1:Int).toNat ((c.length:Int)).toNat b2 aa b1;simp only[go_sem] at fQ fS b2 fP;obtain ⟨_,_,fU,hA,hB,hD⟩:=id ad;cases fU;clear b1;revert h;refine bS fun hE gg h=>?_;apply ag _;refine ⟨_,bL hJ fun F q=>oQ (ey:=92) (eL:=#[]) (eM:=#[]) nt ⟨by simp only[go_sem],fun a3 a4 M ae _ h=>by simp only[go_sem];exact Hu M ae h⟩ Z b0 (ad.mono (cm q)) gg,cr ?_⟩;revert h;refine bS fun hF gl h=>?_;cases h;apply ag _;refine ⟨_,bL hJ fun F q=>oQ (ey:=61) (eL:=#[]) (eM:=#[]) eV ⟨by simp only[go_sem],fun a3 a4 M ae _ h=>by simp only[go_sem];exact jH M ae h⟩ Z b0 (ad.mono (cm q)) gl,?_⟩;apply ag _;apply aQ;simp only[*,go_sem]
def pg (s:List bt)(y:bt):Bool:=s.any fun z=>z.e0==y.e0&&(z.e1==y.e1&&z.e2==y.e2)
def Cj (y:bt)(s:List bt):Option (Fl (List bt) Unit):=some (.nx (cond (pg s y) s (s++[y])))
theorem Ck {x y:bt}(h:x.v=y.v):x=y:=by
 obtain ⟨a,b,c⟩:=x;obtain ⟨d,e,f⟩:=y;simp only[bt.v,Value.agg.injEq,Array.mk.injEq,List.cons.injEq,Value.int.injEq,true_and,and_true] at h;obtain ⟨rfl,rfl,rfl⟩:=h;rfl
theorem Cl {s:List bt}{y:bt}:pg s y=true↔y.v∈s.map bt.v:=by
 unfold pg;simp only[List.any_eq_true,Bool.and_eq_true,beq_iff_eq,List.mem_map];constructor
 .rintro ⟨z,d,e,f,g⟩;refine ⟨z,d,?_⟩;obtain ⟨a,b,c⟩:=z;obtain ⟨i,j,k⟩:=y;simp only at e f g;subst e f g;rfl
 .rintro ⟨z,d,h⟩;obtain rfl:=Ck h;exact ⟨z,d,rfl,rfl,rfl⟩
theorem IA (x y:bt)(F:af):∃b,(∀(Q:Bool->af->Prop),Q b F->bu Tryz.prog (Op.equal 133 x.v y.v) Q F)/\(b=true↔y.v=x.v):=by
 have a:m3 Tryz.prog 133=some [true,true,true]:=aj;have he:m4 Tryz.prog 133 x.v y.v=some (x.e0==y.e0&&(x.e1==y.e1&&(x.e2==y.e2&&true))):=by
  simp only[m4,bt.v,a,jA,hH,Bool.and_self,if_true]
 refine ⟨_,fun Q h=>(wz he h).1,?_⟩;simp only[Bool.and_eq_true,beq_iff_eq,and_true];constructor
 .rintro ⟨c,d,e⟩;simp only[bt.v,c,d,e]
 .intro h;obtain rfl:=Ck h;exact ⟨rfl,rfl,rfl⟩
theorem IB (x:bt)(F:af)(Q:Unit->af->Prop)(h:Q () F):bu Tryz.prog (Instr.checkKey false 10000 133 x.v) Q F:=by
 have c:Tryz.prog.underlying 133=some (.array 3 3):=aj;have d:Tryz.prog.underlying 3=some (.int .i64):=aj;have f:cj Tryz.prog 3=some 1:=aj;have g:cM Tryz.prog 3=some false:=aj;have e:(10000:Nat)=9998+1+1:=rfl;rw[e];unfold Instr.checkKey;simp only[bH,dP,c,bt.v];simp only[Std.Legacy.Range.forIn_eq_forIn_range',Std.Legacy.Range.size,Nat.sub_zero,Nat.add_one_sub_one,Nat.div_one,List.range',List.forIn_cons,List.forIn_nil,bH,eY,f,part,mX,g,bT,Bool.false_eq_true,if_false,dO];have b:∀(k:IntKind) (a:Int) (Q:Unit->af->Prop) (G:af),Q () G->bu Tryz.prog (Instr.checkKey false 9999 3 (.int k a)) Q G:=by
  intro k a Q G i;show bu Tryz.prog (Instr.checkKey false (9998+1) 3 (.int k a)) Q G;unfold Instr.checkKey;simp only[bH,dP,d,bT];exact i
 exact b .i64 x.e0 _ _ (b .i64 x.e1 _ _ (b .i64 x.e2 _ _ h))
def yy (u0:an):Option (Int×Int):=
 ai (fO u0 ([]:(List (an->Option Int)))) fun a=>cond ((a.2 != 0)) (some (0,a.2)) (ai (ie Cj (mz a.1) ([]:List bt)) fun o=>aJ o (fun st=>some ((st.length:Int),0)) (fun _ _=>none) (fun _=>none))
theorem IC {ro:Addr->Option Value}(M:dH ro)(u0:an){s1 w x B:Value}(E:bW ro u0 s1 w x B){r:(Int×Int)}(h:yy u0=some r):aD Tryz.prog 17 #[bv u0 s1 w x B] ⟨ro,[]⟩ (fun v _=>v= .tuple #[.int .i64 r.1,.int .i64 r.2]):=by
 unfold yy at h;have N:=E.oc;simp only[bP] at N;refine aD.tJ Tryz.func17 rfl Tryz.ntmps17 Tryz.results17 au fun main J hJ A F hd hs=>?_;have O:=hs 0;clear hs;apply az hJ _;refine aA fun P bd R=>?_;try simp only[av] at R
 apply aC hJ;revert h;refine bS fun G S h=>?_;apply ag _;refine cw hJ _ (ku M u0 E ([]:(List (an->Option Int))) (aH.nil _ _) S) fun v H bj T U=>?_;obtain ⟨V,W,X,Y,rfl,k⟩:=U;have Z:=k.oc;simp only[bP] at Z;simp only[bF] at T;apply aO;apply ag _;refine aA fun ab bm ad=>?_;try simp only[av] at ad
 refine ah hJ (aC hJ ?_);apply ag _;revert h;refine bh hJ (fun ae h=>?_) fun ae h=>?_
 .cases h;apply az hJ _;refine aG hJ fun C=>?_;replace C:=C.nd;try simp only[keys,List.map_cons,List.map_nil,List.map_append,List.cons_append,List.nil_append,List.nodup_cons,List.mem_cons,List.mem_append,List.not_mem_nil,or_false,not_or] at C
  apply aQ;simp only[*,go_sem]
 apply aP hJ;revert h;refine bS fun o l h=>?_;repeat apply ah hJ
 apply aS hJ;simp only[*,go_sem,-l];refine GV fun j f70=>?_;have bo:=e8 f70;have al:=gr f70;try simp only[av] at al
 apply aO;simp only[*,go_sem,-l];refine aA fun q br ao=>?_;try simp only[av] at ao
 repeat apply ah hJ
 apply aS hJ;simp only[*,go_sem,-l];refine tH hJ bt.v aN (ru G.1 k.e k.p k.y k.t) aj aj (ρ:=Unit) (fun (s:List bt) ar=>∃(es:Array MapEntry) (b:Nat),ar=(q,.cells #[.map (some j)] 137)::(j,.map es b)::(ab,bl G.1 V W X Y)::(P,bk u0 s1 w x B)::[]/\es.toList.map (·.key)=s.map bt.v) (f:=Cj) l ?_ ?_ aB ?_ ?_
 .exact ⟨#[],0,rfl,rfl⟩
 .rintro d4 a0 D a2 c d fl I main J hJ _ ⟨es,b,rfl,g⟩;obtain rfl:=Option.some.inj I;clear I;generalize m:me _ _ _=u;have bs:sz u=24:=by rw[<-m,tG];simp only[*,go_sem]
  have bz:u.defers=[]:=by rw[<-m];rfl
  have b0:slot u 6= .pointer (some ⟨q,0,none⟩):=by rw[<-m,j8];simp only[*,go_sem]
  have b1:slot u 19=d.v:=by rw[<-m,j8];simp only[*,go_sem]
  clear m F hd O;refine fX hJ fun i a=>?_;replace a:aK H ((a0,.loop D)::(d4,.deferred (some []))::(q,.cells #[.map (some j)] 137)::(j,.map es b)::_):=a;have b2:=a.hd;have b3:=a.tl.hd;have a3:=a.tl.tl.hd;have a4:=a.tl.tl.tl.hd;clear a;replace i:=i.nd;simp only[keys,List.map_cons,List.map_nil,List.map_append,List.cons_append,List.nil_append,List.nodup_cons,List.mem_cons,List.mem_append,List.not_mem_nil,or_false,not_or] at i;apply aS hJ;simp only[*,go_sem,bt.v];refine aA fun b4 b5 a5=>?_;try simp only[av] at a5
  simp only[oM,go_sem];refine ⟨D,aN,a2,?_⟩;simp only[*,go_sem,bt.v];refine aX hJ (aS hJ ?_);simp only[*,go_sem,bt.v];refine GX (es:=es) (clock:=b) (by kernel_rfl:Tryz.prog.underlying 137=some (.map 133 4)) aN (fun Q h=>IB d _ Q h) (by kernel_rfl:Tryz.prog.underlying 133=some (.array 3 3)) (fun e he=>?_) fun K a6 a7=>?_
  .have:e.key∈es.toList.map (·.key):=List.mem_map_of_mem he;rw[g] at this;obtain ⟨z,F,a8⟩:=List.mem_map.1 this;rw[<-a8];exact IA d z _
  .simp only[oL,k7,go_sem, *];refine ⟨{D with state:=.busy},rfl,?_⟩;apply ag _;refine ⟨_,Le.sub (List.Sublist.cons _ (List.Sublist.refl _)),rfl,K,a6,rfl,?_⟩;have a9:K.toList.map (·.key)=(cond (pg c d) c (c++[d])).map bt.v:=by
    rcases a7 with ⟨hm,he⟩|⟨hm,he⟩
    .have:pg c d=true:=by rw[Cl,<-g];exact hm
     rw[this,he,g];rfl
    .have:pg c d=false:=by
      rw[Bool.eq_false_iff];intro L;rw[Cl,<-g] at L;exact hm L
     rw[this,he,g];simp only[cond_false,List.map_append,List.map_cons,List.map_nil];rfl
   exact a9
 .rintro d49 ba bb _ c ⟨es,b,rfl,g⟩ i a;refine ⟨fun n=>?_,fun k1 n=>?_⟩
  .subst n;dsimp only[aJ] at h;cases h;clear l;replace a:aK H ((ba,.loop bb)::(d49,.deferred (some []))::(q,.cells #[.map (some j)] 137)::(j,.map es b)::_):=a;have a3:=a.tl.tl.hd;have a4:=a.tl.tl.tl.hd;clear a;replace i:=i.nd;simp only[keys,List.map_cons,List.map_nil,List.map_append,List.cons_append,List.nil_append,List.nodup_cons,List.mem_cons,List.mem_append,List.not_mem_nil,or_false,not_or] at i;repeat apply ah hJ
   apply aM hJ _;have bc:es.size=c.length:=by simpa using congrArg List.length g
   refine GW (es:=es) (clock:=b) rfl (by kernel_rfl:Tryz.prog.underlying 137=some (.map 133 4)) aN ?_;rw[bc];apply aQ;simp only[*,go_sem]
  .subst n;dsimp only[aJ] at h;cases h
 .intro k1 ca n;subst n;dsimp only[aJ] at h;cases h
def fh (u0:Int)(a:Int)(b:Int):Option Bool:=
 cond (decide (a<=u0)) (some (decide (u0<=b))) (some false)
theorem je {ro:Addr->Option Value}(u0:Int)(a:Int)(b:Int){r:Bool}(h:fh u0 a b=some r):aD Tryz.prog 83 #[.int .i64 u0,.int .i64 a,.int .i64 b] ⟨ro,[]⟩ (fun v _=>v= .bool r):=by
 unfold fh at h;refine aD.go Tryz.func83 rfl Tryz.ntmps83 Tryz.results83 au fun main J hJ A d hd hs=>?_;have e:=hs 0;have k1:=hs 1;have f:=hs 2;clear hs;apply az hJ _;apply aC hJ;revert h;refine cS (fun c h=>?_) fun c h=>?_
 .cases h;apply ag _;apply aQ;simp only[*,go_sem]
 cases h;apply ag _;apply aQ;simp only[*,go_sem]
def nO (u0:an)(a:Int):Option Bool:=
 ai (bD u0.aE 0) fun b=>ai (bD u0.aE (IntKind.i64.wrap ((u0.aE.length:Int) - 1))) fun c=>ai (fh a b.aV c.aV) fun d=>some d
theorem ID {ro:Addr->Option Value}(u0:an){s1 f g i:Value}(a:bW ro u0 s1 f g i)(b:Int){r:Bool}(h:nO u0 b=some r):aD Tryz.prog 174 #[bv u0 s1 f g i,.int .i64 b] ⟨ro,[]⟩ (fun v _=>v= .bool r):=by
 obtain ⟨d3,c4,rfl,E,G,-⟩:=id a.e;unfold nO at h;refine aD.go Tryz.func174 rfl Tryz.ntmps174 Tryz.results174 au fun main J hJ A H hd hs=>?_;have I:=hs 0;have k1:=hs 1;clear hs;apply az hJ _;refine aA fun K L n=>?_;try simp only[av] at n
 apply ah hJ;refine dh hJ mixed 17 1 aN aj ?_;revert h;refine bS fun j o h=>?_;obtain ⟨M,N,k⟩:=cP o;obtain ⟨O,p,q,s,c⟩:=a.e.el _ _ k;obtain rfl:p=j.cells:=s;cases q;have t:=c 0 _ rfl;simp only[go_sem] at t;have u:=c 1 _ rfl;simp only[go_sem] at u;clear c k;revert h;refine bS fun l w h=>?_;obtain ⟨P,Q,m⟩:=cP w;obtain ⟨R,x,y,z,d⟩:=a.e.el _ _ m;obtain rfl:x=l.cells:=z;cases y;have B:=d 0 _ rfl;simp only[go_sem] at B;have C:=d 1 _ rfl;simp only[go_sem] at C;clear d m;revert h;refine bS fun S D h=>?_;cases h;apply ag _;refine ⟨_,bL hJ fun F T=>je b j.aV l.aV D,cr ?_⟩;apply ag _;apply aQ;simp only[*,go_sem]
def pn (u0:an)(a:Int):Option Bool:=
 ai (fh a 0 (IntKind.i64.wrap ((u0.aF.length:Int) - 1))) fun b=>some b
theorem IE {ro:Addr->Option Value}(u0:an){s1 c d f:Value}(a:bW ro u0 s1 c d f)(b:Int){r:Bool}(h:pn u0 b=some r):aD Tryz.prog 144 #[bv u0 s1 c d f,.int .i64 b] ⟨ro,[]⟩ (fun v _=>v= .bool r):=by
 obtain ⟨d3,c4,rfl,j,k,-⟩:=id a.e;obtain ⟨d10,l,rfl,m,n,-⟩:=id a.p;obtain ⟨d17,o,rfl,q,s,-⟩:=id a.y;obtain ⟨d24,u,rfl,w,x,-⟩:=id a.t;unfold pn at h;refine aD.go Tryz.func144 rfl Tryz.ntmps144 Tryz.results144 au fun main J hJ A z hd hs=>?_;have B:=hs 0;have k1:=hs 1;clear hs;apply az hJ _;refine aA fun C D g=>?_;try simp only[av] at g
 apply aC hJ;revert h;refine bS fun E i h=>?_;cases h;apply ag _;refine bf hJ _ (je b 0 (IntKind.i64.wrap ((u0.aF.length:Int) - 1)) i) (aO ?_);apply ag _;apply aQ;simp only[*,go_sem]
def iq (u0:ax)(a:ax):Option Bool:=
 some (decide ((IntKind.i64.wrap (u0.num*a.den))<(IntKind.i64.wrap (a.num*u0.den))))
theorem nP {ro:Addr->Option Value}(u0:ax)(a:ax){r:Bool}(h:iq u0 a=some r):aD Tryz.prog 38 #[.agg #[.int .i64 u0.num,.int .i64 u0.den],.agg #[.int .i64 a.num,.int .i64 a.den]] ⟨ro,[]⟩ (fun v _=>v= .bool r):=by
 unfold iq at h;cases h;refine aD.go Tryz.func38 rfl Tryz.ntmps38 Tryz.results38 au fun main J hJ A b hd hs=>?_;have c:=hs 0;have k1:=hs 1;clear hs;apply az hJ _;refine aA fun d r1 n1=>?_;try simp only[av] at n1
 refine aA fun b2 r2 n2=>?_;try simp only[av] at n2
 apply az hJ _;apply aQ;simp only[*,go_sem]
def yz (st:(Int×Int)):Option (Fl (Int×Int) ax):=
 cond (decide (0<st.2)) (ai (iZ st.1 st.2) fun a=>some (.nx (st.2,a))) (some (.bk (st.1,st.2)))
def pq (st:(Int×Int)):Option (Fl (Int×Int) ax):=
 cond (decide (0<st.2)) (ai (iZ st.1 st.2) fun a=>some (.nx (st.2,a))) (some (.bk (st.1,st.2)))
def jf (u0:Int)(a:Int):Option ax:=
 cond (decide (a<0)) (ai (bp (yz) fu ((if IntKind.i64.wrap (0 - u0)<IntKind.i64.wrap (0 - (IntKind.i64.wrap (0 - u0))) then IntKind.i64.wrap (0 - (IntKind.i64.wrap (0 - u0))) else IntKind.i64.wrap (0 - u0)),(IntKind.i64.wrap (0 - a)))) fun o=>aJ o (fun b=>ai (gu (IntKind.i64.wrap (0 - u0)) b.1) fun d=>ai (gu (IntKind.i64.wrap (0 - a)) b.1) fun e=>some (⟨d,e⟩:ax)) (fun _ _=>none) (fun r=>some r)) (ai (bp (pq) fu ((if u0<IntKind.i64.wrap (0 - u0) then IntKind.i64.wrap (0 - u0) else u0),a)) fun o=>aJ o (fun c=>ai (gu u0 c.1) fun f=>ai (gu a c.1) fun g=>some (⟨f,g⟩:ax)) (fun _ _=>none) (fun r=>some r))
theorem rF {ro:Addr->Option Value}(u0:Int)(b:Int){r:ax}(h:jf u0 b=some r):aD Tryz.prog 67 #[.int .i64 u0,.int .i64 b] ⟨ro,[]⟩ (fun v _=>v=r.v):=by
 unfold jf at h;refine aD.go Tryz.func67 rfl Tryz.ntmps67 Tryz.results67 au fun main J hJ A n hd hs=>?_;have o:=hs 0;have k1:=hs 1;clear hs;apply az hJ _;refine aA fun p r1 n1=>?_;try simp only[av] at n1
 refine ah hJ (aC hJ ?_);apply ag _;revert h;refine bh hJ (fun B h=>?_) fun B h=>?_
 .apply aM hJ _;apply az hJ _;refine ah hJ (aX hJ ?_);revert h;refine bS fun C c D=>?_;refine cc hJ (rg 18 6 [5,6]) (fun m a F'=>∃(f:Int) (v4:Int),bp (yz) m (f,v4)=some C/\F'=⟨ro,(p,rt 0 0)::[]⟩/\slot a 5= .int .i64 f/\slot a 6= .int .i64 v4) fu ?_ ?_
  .refine ⟨(if IntKind.i64.wrap (0 - u0)<IntKind.i64.wrap (0 - (IntKind.i64.wrap (0 - u0))) then IntKind.i64.wrap (0 - (IntKind.i64.wrap (0 - u0))) else IntKind.i64.wrap (0 - u0)),(IntKind.i64.wrap (0 - b)),c,rfl,?_⟩;simp only[*,go_sem]
  rintro g R F' q ⟨f,v4,c,rfl,S,T⟩;obtain ⟨E,F,G⟩:=q.pick [0,1,4] aB;simp only[*,go_sem] at E F G;clear q n hd o k1;obtain _|g:=g
  .exact absurd c (by simp only[bp,reduceCtorEq,not_false_eq_true])
  revert c;refine bS fun U h i=>?_;unfold yz at h;try dsimp only at h
  refine ah hJ (aC hJ ?_);apply ag _;revert h;refine bh hJ (fun H h=>?_) fun H h=>?_
  .refine aP hJ (aX hJ ?_);refine dh hJ mixed 6 1 aN aj ?_;revert h;refine bS fun I s h=>?_;cases h;obtain ⟨V,W⟩:=qK s;clear s;apply ag _;refine ⟨g,Nat.lt_succ_self _,_,Le.sub (List.Sublist.refl _),v4,I,i,rfl,?_⟩;simp only[*,go_sem]
  cases h;apply b6;simp only[go_sem];obtain rfl:=sI i;clear i;have h:=D;dsimp only[aJ] at h;apply ah hJ;refine dh hJ mixed 7 0 aN aj ?_;revert h;refine bS fun X t h=>?_;obtain ⟨Y,Z⟩:=kV t;clear t;revert h;refine bS fun ab u h=>?_;cases h;obtain ⟨ad,ae⟩:=kV u;clear u;apply ag _;apply aQ;simp only[*,go_sem]
 refine aP hJ (ah hJ ?_);apply aM hJ _;refine ah hJ (aX hJ ?_);revert h;refine bS fun K d L=>?_;refine cc hJ (rg 18 6 [5,6]) (fun m a F'=>∃(j:Int) (e:Int),bp (pq) m (j,e)=some K/\F'=⟨ro,(p,rt 0 0)::[]⟩/\slot a 5= .int .i64 j/\slot a 6= .int .i64 e) fu ?_ ?_
 .refine ⟨(if u0<IntKind.i64.wrap (0 - u0) then IntKind.i64.wrap (0 - u0) else u0),b,d,rfl,?_⟩;simp only[*,go_sem]
 rintro k al F' w ⟨j,e,d,rfl,ao,ar⟩;obtain ⟨M,N,O⟩:=w.pick [0,1,4] aB;simp only[*,go_sem] at M N O;clear w n hd o k1;obtain _|k:=k
 .exact absurd d (by simp only[bp,reduceCtorEq,not_false_eq_true])
 revert d;refine bS fun a0 h l=>?_;unfold pq at h;try dsimp only at h
 refine ah hJ (aC hJ ?_);apply ag _;revert h;refine bh hJ (fun P h=>?_) fun P h=>?_
 .refine aP hJ (aX hJ ?_);refine dh hJ mixed 6 1 aN aj ?_;revert h;refine bS fun Q x h=>?_;cases h;obtain ⟨a2,a3⟩:=qK x;clear x;apply ag _;refine ⟨k,Nat.lt_succ_self _,_,Le.sub (List.Sublist.refl _),e,Q,l,rfl,?_⟩;simp only[*,go_sem]
 cases h;apply b6;simp only[go_sem];obtain rfl:=sI l;clear l;have h:=L;dsimp only[aJ] at h;apply ah hJ;refine dh hJ mixed 7 0 aN aj ?_;revert h;refine bS fun a4 y h=>?_;obtain ⟨a5,a6⟩:=kV y;clear y;revert h;refine bS fun a7 z h=>?_;cases h;obtain ⟨a8,a9⟩:=kV z;clear z;apply ag _;apply aQ;simp only[*,go_sem]
def jg (u0:ax)(a:ax):Option ax:=
 ai (jf (IntKind.i64.wrap ((IntKind.i64.wrap (u0.num*a.den)) - (IntKind.i64.wrap (a.num*u0.den)))) (IntKind.i64.wrap (u0.den*a.den))) fun b=>some b
theorem uL {ro:Addr->Option Value}(u0:ax)(a:ax){r:ax}(h:jg u0 a=some r):aD Tryz.prog 66 #[.agg #[.int .i64 u0.num,.int .i64 u0.den],.agg #[.int .i64 a.num,.int .i64 a.den]] ⟨ro,[]⟩ (fun v _=>v=r.v):=by
 unfold jg at h;refine aD.go Tryz.func66 rfl Tryz.ntmps66 Tryz.results66 au fun main J hJ A c hd hs=>?_;have d:=hs 0;have k1:=hs 1;clear hs;apply az hJ _;refine aA fun e r1 n1=>?_;try simp only[av] at n1
 refine aA fun b2 r2 n2=>?_;try simp only[av] at n2
 refine aA fun b3 r3 n3=>?_;try simp only[av] at n3
 apply aC hJ;revert h;refine bS fun f b h=>?_;cases h;apply ag _;refine bf hJ _ (rF (IntKind.i64.wrap ((IntKind.i64.wrap (u0.num*a.den)) - (IntKind.i64.wrap (a.num*u0.den)))) (IntKind.i64.wrap (u0.den*a.den)) b) (aO ?_);apply ag _;apply aQ;simp only[*,go_sem]
def lA (u0:an)(a:bA)(c:Int)(b:ax):Option ax:=
 ai (jf (IntKind.i64.wrap ((IntKind.i64.wrap ((IntKind.i64.wrap (a.high*b.den))*(IntKind.i64.wrap (c+a.back))))+(IntKind.i64.wrap ((IntKind.i64.wrap (b.num - (IntKind.i64.wrap (a.high*b.den))))*(IntKind.i64.wrap (u0.bV+a.back)))))) (IntKind.i64.wrap (b.den*(IntKind.i64.wrap (c+a.back))))) fun d=>some d
theorem Cm {ro:Addr->Option Value}(u0:an){s1 f g i:Value}(c:bW ro u0 s1 f g i)(a:bA)(d:Int)(b:ax){r:ax}(h:lA u0 a d b=some r):aD Tryz.prog 124 #[bv u0 s1 f g i,.agg #[.int .i64 a.back,.int .i64 a.high],.int .i64 d,.agg #[.int .i64 b.num,.int .i64 b.den]] ⟨ro,[]⟩ (fun v _=>v=r.v):=by
 obtain ⟨d3,c4,rfl,o,q,-⟩:=id c.e;obtain ⟨d10,s,rfl,u,w,-⟩:=id c.p;obtain ⟨d17,x,rfl,z,B,-⟩:=id c.y;obtain ⟨d24,C,rfl,D,E,-⟩:=id c.t;unfold lA at h;refine aD.go Tryz.func124 rfl Tryz.ntmps124 Tryz.results124 au fun main J hJ A F hd hs=>?_;have G:=hs 0;have k1:=hs 1;have H:=hs 2;have I:=hs 3;clear hs;apply az hJ _;refine aA fun K L j=>?_;try simp only[av] at j
 refine aA fun M N k=>?_;try simp only[av] at k
 refine aA fun O P l=>?_;try simp only[av] at l
 refine aA fun Q R m=>?_;try simp only[av] at m
 apply aC hJ;revert h;refine bS fun S n h=>?_;cases h;apply ag _;refine bf hJ _ (rF (IntKind.i64.wrap ((IntKind.i64.wrap ((IntKind.i64.wrap (a.high*b.den))*(IntKind.i64.wrap (d+a.back))))+(IntKind.i64.wrap ((IntKind.i64.wrap (b.num - (IntKind.i64.wrap (a.high*b.den))))*(IntKind.i64.wrap (u0.bV+a.back)))))) (IntKind.i64.wrap (b.den*(IntKind.i64.wrap (d+a.back)))) n) (aO ?_);apply ag _;apply aQ;simp only[*,go_sem]
def nS (u0:dF)(a:Int)(b:Int):Option Bool:=
 cond (decide (a<=u0.low)) (cond (decide (u0.low<=u0.high)) (some (decide (u0.high<=b))) (some false)) (some false)
theorem IF {ro:Addr->Option Value}(u0:dF)(a:Int)(b:Int){r:Bool}(h:nS u0 a b=some r):aD Tryz.prog 175 #[.agg #[.int .i64 u0.low,.int .i64 u0.high],.int .i64 a,.int .i64 b] ⟨ro,[]⟩ (fun v _=>v= .bool r):=by
 unfold nS at h;refine aD.go Tryz.func175 rfl Tryz.ntmps175 Tryz.results175 au fun main J hJ A e hd hs=>?_;have f:=hs 0;have k1:=hs 1;have g:=hs 2;clear hs;apply az hJ _;refine aA fun i r1 n1=>?_;try simp only[av] at n1
 apply aC hJ;revert h;refine cS (fun c h=>?_) fun c h=>?_
 .revert h;refine cS (fun d h=>?_) fun d h=>?_
  .cases h;apply ag _;apply aQ;simp only[*,go_sem]
  cases h;apply ag _;apply aQ;simp only[*,go_sem]
 cases h;apply ag _;apply aQ;simp only[*,go_sem]
def ga (u0:ax)(a:ax):Option ax:=
 ai (iq u0 a) fun b=>cond (b) (some a) (some u0)
theorem mD {ro:Addr->Option Value}(u0:ax)(a:ax){r:ax}(h:ga u0 a=some r):aD Tryz.prog 65 #[.agg #[.int .i64 u0.num,.int .i64 u0.den],.agg #[.int .i64 a.num,.int .i64 a.den]] ⟨ro,[]⟩ (fun v _=>v=r.v):=by
 unfold ga at h;refine aD.go Tryz.func65 rfl Tryz.ntmps65 Tryz.results65 au fun main J hJ A d hd hs=>?_;have e:=hs 0;have k1:=hs 1;clear hs;apply az hJ _;refine aA fun f r1 n1=>?_;try simp only[av] at n1
 refine aA fun b2 r2 n2=>?_;try simp only[av] at n2
 refine aA fun b3 r3 n3=>?_;try simp only[av] at n3
 refine ah hJ (aC hJ ?_);revert h;refine bS fun g b h=>?_;apply ag _;refine bf hJ _ (nP u0 a b) ?_;revert h;refine bh hJ (fun c h=>?_) fun c h=>?_
 .cases h;apply az hJ _;apply aQ;simp only[*,go_sem]
 cases h;refine aP hJ (ah hJ ?_);apply aM hJ _;apply aQ;simp only[*,go_sem]
def nU (u0:an)(a:Int)(b:Int):Option bA:=
 ai (bD u0.aF a) fun c=>some (⟨c.back,b⟩:bA)
theorem IG {ro:Addr->Option Value}(u0:an){s1 c d f:Value}(a:bW ro u0 s1 c d f)(g:Int)(i:Int){r:bA}(h:nU u0 g i=some r):aD Tryz.prog 64 #[bv u0 s1 c d f,.int .i64 g,.int .i64 i] ⟨ro,[]⟩ (fun v _=>v=r.v):=by
 obtain ⟨d3,c4,rfl,z,B,-⟩:=id a.e;obtain ⟨d10,C,rfl,D,E,-⟩:=id a.p;obtain ⟨d17,F,rfl,G,H,-⟩:=id a.y;obtain ⟨d24,I,rfl,K,L,-⟩:=id a.t;unfold nU at h;refine aD.go Tryz.func64 rfl Tryz.ntmps64 Tryz.results64 au fun main J hJ A M hd hs=>?_;have N:=hs 0;have k1:=hs 1;have O:=hs 2;clear hs;apply az hJ _;refine aA fun P Q k=>?_;try simp only[av] at k
 refine aA fun R S l=>?_;try simp only[av] at l
 apply aC hJ;revert h;refine bS fun m n h=>?_;cases h;obtain ⟨T,U,j⟩:=cP n;obtain ⟨V,o,q,s,b⟩:=a.y.el _ _ j;obtain rfl:o=m.cells:=s;cases q;have u:=b 0 _ rfl;simp only[go_sem] at u;have w:=b 1 _ rfl;simp only[go_sem] at w;have x:=b 2 _ rfl;simp only[go_sem] at x;clear b j;apply ag _;apply aQ;simp only[*,go_sem]
def nW (u0:an):Option Bool:=
 cond (decide (20<(u0.aE.length:Int))) (some true) (cond (decide (20<(u0.props.length:Int))) (some true) (cond (decide (20<(u0.aF.length:Int))) (some true) (some (decide (20<(u0.told.length:Int))))))
theorem II {ro:Addr->Option Value}(u0:an){s1 b c d:Value}(a:bW ro u0 s1 b c d){r:Bool}(h:nW u0=some r):aD Tryz.prog 6 #[bv u0 s1 b c d] ⟨ro,[]⟩ (fun v _=>v= .bool r):=by
 obtain ⟨d3,c4,rfl,k,l,-⟩:=id a.e;obtain ⟨d10,m,rfl,n,o,-⟩:=id a.p;obtain ⟨d17,q,rfl,s,u,-⟩:=id a.y;obtain ⟨d24,w,rfl,x,z,-⟩:=id a.t;unfold nW at h;refine aD.go Tryz.func6 rfl Tryz.ntmps6 Tryz.results6 au fun main J hJ A B hd hs=>?_;have C:=hs 0;clear hs;apply az hJ _;refine aA fun D E f=>?_;try simp only[av] at f
 apply aC hJ;revert h;refine cS (fun g h=>?_) fun g h=>?_
 .cases h;apply ag _;apply aQ;simp only[*,go_sem]
 revert h;refine cS (fun i h=>?_) fun i h=>?_
 .cases h;apply ag _;apply aQ;simp only[*,go_sem]
 revert h;refine cS (fun j h=>?_) fun j h=>?_
 .cases h;apply ag _;apply aQ;simp only[*,go_sem]
 cases h;apply ag _;apply aQ;simp only[*,go_sem]
def gX (u0:Int)(a:Int):Option ax:=
 some (⟨u0,a⟩:ax)
theorem iN {ro:Addr->Option Value}(u0:Int)(a:Int){r:ax}(h:gX u0 a=some r):aD Tryz.prog 45 #[.int .i64 u0,.int .i64 a] ⟨ro,[]⟩ (fun v _=>v=r.v):=by
 unfold gX at h;cases h;refine aD.go Tryz.func45 rfl Tryz.ntmps45 Tryz.results45 au fun main J hJ A b hd hs=>?_;have c:=hs 0;have k1:=hs 1;clear hs;apply az hJ _;refine aA fun d r1 n1=>?_;try simp only[av] at n1
 apply az hJ _;apply aQ;simp only[*,go_sem]
def rG (u0:Int)(a:Int):Option dF:=
 some (⟨u0,a⟩:dF)
theorem uM {ro:Addr->Option Value}(u0:Int)(a:Int){r:dF}(h:rG u0 a=some r):aD Tryz.prog 51 #[.int .i64 u0,.int .i64 a] ⟨ro,[]⟩ (fun v _=>v=r.v):=by
 unfold rG at h;cases h;refine aD.go Tryz.func51 rfl Tryz.ntmps51 Tryz.results51 au fun main J hJ A b hd hs=>?_;have c:=hs 0;have k1:=hs 1;clear hs;apply az hJ _;refine aA fun d r1 n1=>?_;try simp only[av] at n1
 apply az hJ _;apply aQ;simp only[*,go_sem]
def jM (u0:Int)(a:Int):Option bA:=
 some (⟨u0,a⟩:bA)
theorem nZ {ro:Addr->Option Value}(u0:Int)(a:Int){r:bA}(h:jM u0 a=some r):aD Tryz.prog 33 #[.int .i64 u0,.int .i64 a] ⟨ro,[]⟩ (fun v _=>v=r.v):=by
 unfold jM at h;cases h;refine aD.go Tryz.func33 rfl Tryz.ntmps33 Tryz.results33 au fun main J hJ A b hd hs=>?_;have c:=hs 0;have k1:=hs 1;clear hs;apply az hJ _;refine aA fun d r1 n1=>?_;try simp only[av] at n1
 apply az hJ _;apply aQ;simp only[*,go_sem]
def n4 (u0:Int)(a:Bool):Option bM:=
 some (⟨u0,a⟩:bM)
theorem lB {ro:Addr->Option Value}(u0:Int)(a:Bool){r:bM}(h:n4 u0 a=some r):aD Tryz.prog 49 #[.int .i64 u0,.bool a] ⟨ro,[]⟩ (fun v _=>v=r.v):=by
 unfold n4 at h;cases h;refine aD.go Tryz.func49 rfl Tryz.ntmps49 Tryz.results49 au fun main J hJ A b hd hs=>?_;have c:=hs 0;have k1:=hs 1;clear hs;apply az hJ _;refine aA fun d r1 n1=>?_;try simp only[av] at n1
 apply az hJ _;apply aQ;simp only[*,go_sem]
def rH (u0:an)(a:bM):Option an:=
 ai (de ([]:List bM) u0.told) fun b=>ai (de b ([a])) fun c=>some (⟨u0.bV,u0.bU,u0.bq,u0.aE,u0.props,u0.aF,c⟩:an)
theorem pz {ro:Addr->Option Value}(u0:an){s1 b c N:Value}(j:bW ro u0 s1 b c N)(a:bM){r:an}(h:rH u0 a=some r):e4 Tryz.prog 52 #[bv u0 s1 b c N,.agg #[.int .i64 a.aY,.bool a.bI]] ro (fun v aW=>∃O w1 w2 w3,v=bv r O w1 w2 w3/\bW aW r O w1 w2 w3):=by
 obtain ⟨d24,i,rfl,e0,e1,-⟩:=id j.t;unfold rH at h;have b0:=j.oc;simp only[bP] at b0;refine aD.go Tryz.func52 rfl Tryz.ntmps52 Tryz.results52 au fun main J hJ A e3 hd hs=>?_;have fa:=hs 0;have k1:=hs 1;clear hs;apply aC hJ;apply bY _;refine aA fun d q b1=>?_;try simp only[av] at b1
 refine aA fun f s b2=>?_;try simp only[av] at b2
 refine aA fun g u b3=>?_;try simp only[av] at b3
 apply ah hJ;refine aG hJ fun P=>?_;refine fc hJ mixed [8] (.pure 1 (.rd 2 (.rd 4 (.two 0 (.two 3 (.one 5 (.one 6 (.pure 7 (.last 8 .done)))) 5 (.one 3 (.one 6 (.pure 7 (.last 8 .done))))) 5 (.one 0 (.one 3 (.one 6 (.pure 7 (.last 8 .done))))))))) ⟨ro,[(g,bz 29),(f,.cells #[.int .i64 a.aY,.bool a.bI] 86),(d,bk u0 s1 b c (sl d24 u0.told i))]⟩ dI aj ?_;apply bY _;refine k6 ?_ ?_
 .apply bY _;refine aA fun C Q R=>?_;have S:=aZ.cons R P;try simp only[av] at R
  apply bY _;refine k6 ?_ ?_
  .revert h;refine bS fun b4 b5 h=>?_;obtain ⟨ca,T⟩:=dQ b5;apply bY _;have cb:bg dG ro 86 (.slice (some ⟨C,0,none⟩) 0 0) ([]:List bM) [(C,.cells #[] 86)]:=bg.empty Q;refine qX (r:=dG) (l:=([]:List bM)) (xs:=u0.told) [] ((g,bz 29)::(f,.cells #[.int .i64 a.aY,.bool a.bI] 86)::(d,bk u0 s1 b c (sl d24 u0.told i))::[]) cb S ca j.t rfl rfl eG eG iH iJ rfl iI aB aB (fun fb w F k m U=>?_);simp only[bw] at m;subst k;rw[<-T] at F;clear T;obtain ⟨d144,ff,rfl,fg⟩:=F.len;have cd:=aZ.back (l:=(g,bz 29)::(f,.cells #[.int .i64 a.aY,.bool a.bI] 86)::(d,bk u0 s1 b c (sl d24 u0.told i))::w) (l':=[]++(w++([(g,bz 29),(f,.cells #[.int .i64 a.aY,.bool a.bI] 86),(d,bk u0 s1 b c (sl d24 u0.told i))]++[]))) [] [(g,bz 29),(f,.cells #[.int .i64 a.aY,.bool a.bI] 86),(d,bk u0 s1 b c (sl d24 u0.told i))] w [] (by first|rfl|simp only[bw]|(simp only[bw];rfl)) (by first|rfl|simp only[bw]|(simp only[bw];rfl)) (by first|exact U|simpa only[List.append_nil,List.nil_append,List.cons_append,List.append_assoc] using U);refine ⟨⟨ro,(g,bz 29)::(f,.cells #[.int .i64 a.aY,.bool a.bI] 86)::(d,bk u0 s1 b c (sl d24 u0.told i))::w⟩,Le.back [] [(g,bz 29),(f,.cells #[.int .i64 a.aY,.bool a.bI] 86),(d,bk u0 s1 b c (sl d24 u0.told i))] w [] (by first|rfl|simp only[bw]|(simp only[bw];rfl)) (by first|rfl|simp only[bw]|(simp only[bw];rfl)),?_⟩;refine ⟨dI,cp ?_⟩;revert h;refine bS fun V cf h=>?_;obtain ⟨cl,W⟩:=dQ cf;apply bY _;refine aA fun G X Y=>?_;have cy:=aZ.cons Y cd;try simp only[av] at Y
   apply bY _;refine eD (r:=dG) (l:=b4) (x:=a) (cs:=#[.int .i64 a.aY,.bool a.bI]) (e2:=86) [(G,.cells #[.int .i64 a.aY,.bool a.bI] 86),(g,bz 29),(f,.cells #[.int .i64 a.aY,.bool a.bI] 86),(d,bk u0 s1 b c (sl d24 u0.told i))] [] F cy cl rfl dI X rfl rfl eG eG iH iJ rfl iI aB aB (fun fi cS H k m fl=>?_);simp only[bw] at m;subst k;rw[<-W] at H;clear W;obtain ⟨d158,Z,rfl,fp⟩:=H.len;refine ⟨⟨ro,(G,.cells #[.int .i64 a.aY,.bool a.bI] 86)::(g,bz 29)::(f,.cells #[.int .i64 a.aY,.bool a.bI] 86)::(d,bk u0 s1 b c (sl d24 u0.told i))::cS⟩,Le.refl _,?_⟩;refine ⟨dI,cp ?_⟩;apply bY _;apply ah hJ;refine aG hJ fun fq=>?_;apply aS hJ;apply bY _;cases h;refine aG hJ fun ab=>?_;obtain ⟨fr,ad,D,ae,c0⟩:=H.fj [(G,.cells #[.int .i64 a.aY,.bool a.bI] 86),(g,bk u0 s1 b c (sl d158 V Z)),(f,.cells #[.int .i64 a.aY,.bool a.bI] 86),(d,bk u0 s1 b c (sl d158 V Z))] [] ab (aK.cons X (aK.cons u (aK.cons s (aK.cons q (aK.nil _)))));clear ab;refine cO hJ c0 ?_;obtain ⟨fs,ft,-⟩:=ae.op;replace j:=j.mono ad;replace u:=D.tl.hd;replace s:=D.tl.tl.hd;replace q:=D.tl.tl.tl.hd;simp only[bF] at D;refine cg ?_;exact ⟨_,ad,Le.sub (List.nil_sublist _),_,_,_,_,rfl,⟨j.e,j.p,j.y,ae⟩⟩
  revert h;refine bS fun da db h=>?_;obtain ⟨dd,al⟩:=dQ db;apply bY _;refine aA fun n ao ar=>?_;have df:=aZ.cons ar S;try simp only[av] at ar
  apply bY _;have dk:bg dG ro 86 (.slice (some ⟨C,0,none⟩) 0 0) ([]:List bM) [(C,.cells #[] 86)]:=bg.empty Q;refine qX (r:=dG) (l:=([]:List bM)) (xs:=u0.told) [(n,.cells #[.int .i64 a.aY,.bool a.bI] 86)] ((g,bz 29)::(f,.cells #[.int .i64 a.aY,.bool a.bI] 86)::(d,bk u0 s1 b c (sl d24 u0.told i))::[]) dk df dd j.t rfl rfl eG eG iH iJ rfl iI aB aB (fun fu z I k m a0=>?_);simp only[bw] at m;subst k;rw[<-al] at I;clear al;obtain ⟨d179,fv,rfl,fw⟩:=I.len;have dp:=aZ.back (l:=(n,.cells #[.int .i64 a.aY,.bool a.bI] 86)::(g,bz 29)::(f,.cells #[.int .i64 a.aY,.bool a.bI] 86)::(d,bk u0 s1 b c (sl d24 u0.told i))::z) (l':=[(n,.cells #[.int .i64 a.aY,.bool a.bI] 86)]++(z++([(g,bz 29),(f,.cells #[.int .i64 a.aY,.bool a.bI] 86),(d,bk u0 s1 b c (sl d24 u0.told i))]++[]))) [(n,.cells #[.int .i64 a.aY,.bool a.bI] 86)] [(g,bz 29),(f,.cells #[.int .i64 a.aY,.bool a.bI] 86),(d,bk u0 s1 b c (sl d24 u0.told i))] z [] (by first|rfl|simp only[bw]|(simp only[bw];rfl)) (by first|rfl|simp only[bw]|(simp only[bw];rfl)) (by first|exact a0|simpa only[List.append_nil,List.nil_append,List.cons_append,List.append_assoc] using a0);refine ⟨⟨ro,(n,.cells #[.int .i64 a.aY,.bool a.bI] 86)::(g,bz 29)::(f,.cells #[.int .i64 a.aY,.bool a.bI] 86)::(d,bk u0 s1 b c (sl d24 u0.told i))::z⟩,Le.back [(n,.cells #[.int .i64 a.aY,.bool a.bI] 86)] [(g,bz 29),(f,.cells #[.int .i64 a.aY,.bool a.bI] 86),(d,bk u0 s1 b c (sl d24 u0.told i))] z [] (by first|rfl|simp only[bw]|(simp only[bw];rfl)) (by first|rfl|simp only[bw]|(simp only[bw];rfl)),?_⟩;refine ⟨dI,cp ?_⟩;revert h;refine bS fun a2 dq h=>?_;obtain ⟨ds,a3⟩:=dQ dq;apply bY _;refine eD (r:=dG) (l:=da) (x:=a) (cs:=#[.int .i64 a.aY,.bool a.bI]) (e2:=86) [(n,.cells #[.int .i64 a.aY,.bool a.bI] 86),(g,bz 29),(f,.cells #[.int .i64 a.aY,.bool a.bI] 86),(d,bk u0 s1 b c (sl d24 u0.told i))] [] I dp ds rfl dI ao rfl rfl eG eG iH iJ rfl iI aB aB (fun fx dt K k m fz=>?_);simp only[bw] at m;subst k;rw[<-a3] at K;clear a3;obtain ⟨d191,a4,rfl,fP⟩:=K.len;refine ⟨⟨ro,(n,.cells #[.int .i64 a.aY,.bool a.bI] 86)::(g,bz 29)::(f,.cells #[.int .i64 a.aY,.bool a.bI] 86)::(d,bk u0 s1 b c (sl d24 u0.told i))::dt⟩,Le.refl _,?_⟩;refine ⟨dI,cp ?_⟩;apply bY _;apply ah hJ;refine aG hJ fun fQ=>?_;apply aS hJ;apply bY _;cases h;refine aG hJ fun a5=>?_;obtain ⟨fS,a6,E,a7,du⟩:=K.fj [(n,.cells #[.int .i64 a.aY,.bool a.bI] 86),(g,bk u0 s1 b c (sl d191 a2 a4)),(f,.cells #[.int .i64 a.aY,.bool a.bI] 86),(d,bk u0 s1 b c (sl d191 a2 a4))] [] a5 (aK.cons ao (aK.cons u (aK.cons s (aK.cons q (aK.nil _)))));clear a5;refine cO hJ du ?_;obtain ⟨fU,gg,-⟩:=a7.op;replace j:=j.mono a6;replace u:=E.tl.hd;replace s:=E.tl.tl.hd;replace q:=E.tl.tl.tl.hd;simp only[bF] at E;refine cg ?_;exact ⟨_,a6,Le.sub (List.nil_sublist _),_,_,_,_,rfl,⟨j.e,j.p,j.y,a7⟩⟩
 revert h;refine bS fun dv dC h=>?_;obtain ⟨dE,a8⟩:=dQ dC;apply bY _;refine aA fun o a9 ba=>?_;have dT:=aZ.cons ba P;try simp only[av] at ba
 apply bY _;refine aA fun bb ea bc=>?_;have eb:=aZ.cons bc dT;try simp only[av] at bc
 apply bY _;have ec:bg dG ro 86 (.slice (some ⟨bb,0,none⟩) 0 0) ([]:List bM) [(bb,.cells #[] 86)]:=bg.empty ea;refine qX (r:=dG) (l:=([]:List bM)) (xs:=u0.told) [] ((o,.cells #[.int .i64 a.aY,.bool a.bI] 86)::(g,bz 29)::(f,.cells #[.int .i64 a.aY,.bool a.bI] 86)::(d,bk u0 s1 b c (sl d24 u0.told i))::[]) ec eb dE j.t rfl rfl eG eG iH iJ rfl iI aB aB (fun gl B L k m bd=>?_);simp only[bw] at m;subst k;rw[<-a8] at L;clear a8;obtain ⟨d214,gn,rfl,gp⟩:=L.len;have ed:=aZ.back (l:=(o,.cells #[.int .i64 a.aY,.bool a.bI] 86)::(g,bz 29)::(f,.cells #[.int .i64 a.aY,.bool a.bI] 86)::(d,bk u0 s1 b c (sl d24 u0.told i))::B) (l':=[]++(B++([(o,.cells #[.int .i64 a.aY,.bool a.bI] 86),(g,bz 29),(f,.cells #[.int .i64 a.aY,.bool a.bI] 86),(d,bk u0 s1 b c (sl d24 u0.told i))]++[]))) [] [(o,.cells #[.int .i64 a.aY,.bool a.bI] 86),(g,bz 29),(f,.cells #[.int .i64 a.aY,.bool a.bI] 86),(d,bk u0 s1 b c (sl d24 u0.told i))] B [] (by first|rfl|simp only[bw]|(simp only[bw];rfl)) (by first|rfl|simp only[bw]|(simp only[bw];rfl)) (by first|exact bd|simpa only[List.append_nil,List.nil_append,List.cons_append,List.append_assoc] using bd);refine ⟨⟨ro,(o,.cells #[.int .i64 a.aY,.bool a.bI] 86)::(g,bz 29)::(f,.cells #[.int .i64 a.aY,.bool a.bI] 86)::(d,bk u0 s1 b c (sl d24 u0.told i))::B⟩,Le.back [] [(o,.cells #[.int .i64 a.aY,.bool a.bI] 86),(g,bz 29),(f,.cells #[.int .i64 a.aY,.bool a.bI] 86),(d,bk u0 s1 b c (sl d24 u0.told i))] B [] (by first|rfl|simp only[bw]|(simp only[bw];rfl)) (by first|rfl|simp only[bw]|(simp only[bw];rfl)),?_⟩;refine ⟨dI,cp ?_⟩;revert h;refine bS fun bj eh h=>?_;obtain ⟨et,bl⟩:=dQ eh;apply bY _;refine eD (r:=dG) (l:=dv) (x:=a) (cs:=#[.int .i64 a.aY,.bool a.bI]) (e2:=86) [(o,.cells #[.int .i64 a.aY,.bool a.bI] 86),(g,bz 29),(f,.cells #[.int .i64 a.aY,.bool a.bI] 86),(d,bk u0 s1 b c (sl d24 u0.told i))] [] L ed et rfl dI a9 rfl rfl eG eG iH iJ rfl iI aB aB (fun gB ev M k m gC=>?_);simp only[bw] at m;subst k;rw[<-bl] at M;clear bl;obtain ⟨d226,bm,rfl,gM⟩:=M.len;refine ⟨⟨ro,(o,.cells #[.int .i64 a.aY,.bool a.bI] 86)::(g,bz 29)::(f,.cells #[.int .i64 a.aY,.bool a.bI] 86)::(d,bk u0 s1 b c (sl d24 u0.told i))::ev⟩,Le.refl _,?_⟩;refine ⟨dI,cp ?_⟩;apply bY _;apply ah hJ;refine aG hJ fun gT=>?_;apply aS hJ;apply bY _;cases h;refine aG hJ fun bo=>?_;obtain ⟨gV,br,eQ,bs,eS⟩:=M.fj [(o,.cells #[.int .i64 a.aY,.bool a.bI] 86),(g,bk u0 s1 b c (sl d226 bj bm)),(f,.cells #[.int .i64 a.aY,.bool a.bI] 86),(d,bk u0 s1 b c (sl d226 bj bm))] [] bo (aK.cons a9 (aK.cons u (aK.cons s (aK.cons q (aK.nil _)))));clear bo;refine cO hJ eS ?_;obtain ⟨g0,g1,-⟩:=bs.op;replace j:=j.mono br;simp only[bF] at eQ;refine cg ?_;exact ⟨_,br,Le.sub (List.nil_sublist _),_,_,_,_,rfl,⟨j.e,j.p,j.y,bs⟩⟩
def yA (a:(List Int))(b:Int)(st:(Int×(List cF))):Option (Fl (Int×(List cF)) an):=
 cond (decide (st.1<(a.length:Int))) (ai (bD a st.1) fun c=>ai (de st.2 ([(⟨c,b⟩:cF)])) fun d=>some (.nx ((IntKind.i64.wrap (st.1+1)),d))) (some (.bk (st.1,st.2)))
def yB (u0:an)(a:(List Int))(b:Int):Option an:=
 ai (de ([]:List cF) u0.props) fun c=>ai (bp (yA a b) fu (0,c)) fun o=>aJ o (fun d=>some (⟨u0.bV,u0.bU,u0.bq,u0.aE,d.2,u0.aF,u0.told⟩:an)) (fun _ _=>none) (fun r=>some r)
theorem IJ {ro:Addr->Option Value}(u0:an){s1 H a b:Value}(k:bW ro u0 s1 H a b)(w:(List Int)){I:Value}(K:aH rI ro I w)(n:Int){r:an}(h:yB u0 w n=some r):e4 Tryz.prog 41 #[bv u0 s1 H a b,I,.int .i64 n] ro (fun v aW=>∃L w1 w2 w3,v=bv r L w1 w2 w3/\bW aW r L w1 w2 w3):=by
 obtain ⟨d10,c,rfl,df,dk,-⟩:=id k.p;obtain ⟨d31,dp,rfl,dq,ds,-⟩:=id K;unfold yB at h;have ad:=k.oc;simp only[bP] at ad;refine aD.go Tryz.func41 rfl Tryz.ntmps41 Tryz.results41 au fun main J hJ A ae hd hs=>?_;have al:=hs 0;have k1:=hs 1;have ao:=hs 2;clear hs;apply az hJ _;refine aA fun f ar a0=>?_;try simp only[av] at a0
 refine aA fun g a2 a3=>?_;try simp only[av] at a3
 apply az hJ _;refine aA fun i a4 a5=>?_;try simp only[av] at a5
 apply ah hJ;refine aG hJ fun a6=>?_;apply aS hJ;revert h;refine bS fun a7 a8 h=>?_;obtain ⟨a9,M⟩:=dQ a8;apply ag _;refine aA fun N ba O=>?_;have bb:=aZ.cons O a6;try simp only[av] at O
 apply ag _;have bc:bg eU ro 159 (.slice (some ⟨N,0,none⟩) 0 0) ([]:List cF) [(N,.cells #[] 159)]:=bg.empty ba;refine qX (r:=eU) (l:=([]:List cF)) (xs:=u0.props) [] ((i,bk u0 s1 (sl d10 u0.props c) a b)::(g,bz 29)::(f,bk u0 s1 (sl d10 u0.props c) a b)::[]) bc bb a9 k.p rfl rfl l8 l8 tn tr rfl tq aB aB (fun dt o z B C P=>?_);simp only[bw] at C;subst B;rw[<-M] at z;clear M;obtain ⟨d48,bd,rfl,bj⟩:=z.len;have du:=aZ.back (l:=(i,bk u0 s1 (sl d10 u0.props c) a b)::(g,bz 29)::(f,bk u0 s1 (sl d10 u0.props c) a b)::o) (l':=[]++(o++([(i,bk u0 s1 (sl d10 u0.props c) a b),(g,bz 29),(f,bk u0 s1 (sl d10 u0.props c) a b)]++[]))) [] [(i,bk u0 s1 (sl d10 u0.props c) a b),(g,bz 29),(f,bk u0 s1 (sl d10 u0.props c) a b)] o [] (by first|rfl|simp only[bw]|(simp only[bw];rfl)) (by first|rfl|simp only[bw]|(simp only[bw];rfl)) (by first|exact P|simpa only[List.append_nil,List.nil_append,List.cons_append,List.append_assoc] using P);refine ⟨⟨ro,(i,bk u0 s1 (sl d10 u0.props c) a b)::(g,bz 29)::(f,bk u0 s1 (sl d10 u0.props c) a b)::o⟩,Le.back [] [(i,bk u0 s1 (sl d10 u0.props c) a b),(g,bz 29),(f,bk u0 s1 (sl d10 u0.props c) a b)] o [] (by first|rfl|simp only[bw]|(simp only[bw];rfl)) (by first|rfl|simp only[bw]|(simp only[bw];rfl)),?_⟩;apply aO;apply ag _;refine ah hJ (ah hJ ?_);refine aG hJ fun dv=>?_;apply aM hJ _;apply aX hJ;revert h;refine bS fun bl s bm=>?_;refine cc hJ (rg 15 17 [8]) (fun m bo F'=>∃(d57:Option Addr) (j:Nat) (D:List (Nat×Obj)) (u:Int) (d:(List cF)),bp (yA w n) m (u,d)=some bl/\F'=⟨ro,(i,bk u0 s1 (sl d57 d j) a b)::(g,bz 29)::(f,bk u0 s1 (sl d10 u0.props c) a b)::D⟩/\bg eU ro 159 (.slice d57 d.length j) d D/\d.length<=j/\slot bo 8= .int .i64 u) fu ?_ ?_
 .refine ⟨d48,bd,o,0,a7,s,rfl,z,bj,?_⟩;simp only[*,go_sem]
 rintro E dC F' Q ⟨d57,j,D,u,d,s,rfl,R,dE,dT⟩;obtain ⟨br,bs,b0⟩:=Q.pick [1,2,6,7] aB;simp only[*,go_sem] at br bs b0;clear Q ae hd al k1 ao;obtain _|E:=E
 .exact absurd s (by simp only[bp,reduceCtorEq,not_false_eq_true])
 revert s;refine bS fun ea h F=>?_;unfold yA at h;try dsimp only at h
 refine ah hJ (ah hJ ?_);refine aG hJ fun eb=>?_;apply aM hJ _;revert h;refine bh hJ (fun b1 h=>?_) fun b1 h=>?_
 .refine aP hJ (ah hJ ?_);apply aX hJ;refine aG hJ fun b2=>?_;refine fc hJ mixed [11] (.pure 0 (.rd 1 (.pure 2 (.pure 3 (.pure 4 (.rd 5 (.pure 6 (.pure 7 (.one 8 (.one 9 (.pure 10 (.last 11 .done)))))))))))) ⟨ro,[(i,bk u0 s1 (sl d57 d j) a b),(g,bz 29),(f,bk u0 s1 (sl d10 u0.props c) a b)]⟩ aN aj ?_;revert h;refine bS fun q b3 h=>?_;obtain ⟨ec,ed,S⟩:=cP b3;obtain ⟨eh,b4,b5,ca,T⟩:=K.el _ _ S;obtain rfl:b4=[.int .i64 q]:=ca;cases b5;have cb:=T 0 _ rfl;simp only[go_sem] at cb;clear T S;revert h;refine bS fun cd cf h=>?_;cases h;obtain ⟨cl,U⟩:=dQ cf;apply ag _;refine aA fun V cy W=>?_;have cS:=aZ.cons W b2;try simp only[av] at W
  apply ag _;refine eD (r:=eU) (l:=d) (x:=(⟨q,n⟩:cF)) (cs:=#[.int .i64 q,.int .i64 n]) (e2:=159) [(V,.cells #[.int .i64 q,.int .i64 n] 159),(i,bk u0 s1 (sl d57 d j) a b),(g,bz 29),(f,bk u0 s1 (sl d10 u0.props c) a b)] [] R cS cl rfl aN cy rfl rfl l8 l8 tn tr rfl tq aB aB (fun et X G B C ev=>?_);simp only[bw] at C;subst B;rw[<-U] at G;clear U;obtain ⟨d111,c0,rfl,da⟩:=G.len;refine ⟨⟨ro,(V,.cells #[.int .i64 q,.int .i64 n] 159)::(i,bk u0 s1 (sl d57 d j) a b)::(g,bz 29)::(f,bk u0 s1 (sl d10 u0.props c) a b)::X⟩,Le.refl _,?_⟩;refine ⟨aN,cp ?_⟩;apply ag _;refine aG hJ fun eQ=>?_;apply aM hJ _;refine ⟨E,Nat.lt_succ_self _,_,Le.sub (List.Sublist.cons _ (List.Sublist.refl _)),d111,c0,X,(IntKind.i64.wrap (u+1)),cd,F,rfl,G,da,?_⟩;simp only[*,go_sem]
 cases h;apply b6;simp only[go_sem];obtain rfl:=sI F;clear F;have h:=bm;dsimp only[aJ] at h;cases h;apply ah hJ;refine aG hJ fun eS=>?_;apply aM hJ _;refine aG hJ fun Y=>?_;obtain ⟨e0,Z,db,ab,dd⟩:=R.fj [(i,bk u0 s1 (sl d57 d j) a b),(g,bk u0 s1 (sl d57 d j) a b),(f,bk u0 s1 (sl d10 u0.props c) a b)] [] Y (aK.cons a4 (aK.cons a2 (aK.cons ar (aK.nil _))));clear Y;refine cO hJ dd ?_;obtain ⟨e1,e3,-⟩:=ab.op;replace k:=k.mono Z;simp only[bF] at db;refine cg ?_;exact ⟨_,Z,Le.sub (List.nil_sublist _),_,_,_,_,rfl,⟨k.e,ab,k.y,k.t⟩⟩
def IK (u0:an)(a:(List Int))(st:(Int×(List bM))):Option (Fl (Int×(List bM)) an):=
 cond (decide (st.1<(a.length:Int))) (ai (bD a st.1) fun b=>ai (bD u0.told b) fun c=>ai (de st.2 ([c])) fun d=>some (.nx ((IntKind.i64.wrap (st.1+1)),d))) (some (.bk (st.1,st.2)))
def yC (u0:an)(a:(List Int)):Option an:=
 ai (bp (IK u0 a) fu (0,([]:List bM))) fun o=>aJ o (fun b=>some (⟨u0.bV,u0.bU,u0.bq,u0.aE,u0.props,u0.aF,b.2⟩:an)) (fun _ _=>none) (fun r=>some r)
def yD :Option an:=
 ai (gX 1 2) fun a=>ai (rG 10 12) fun b=>ai (rG 10 10) fun c=>some (⟨20,2,a,[(⟨0,2⟩:cv),(⟨8,4⟩:cv),(⟨14,4⟩:cv)],([]:(List cF)),[(⟨2,b⟩:cq),(⟨4,c⟩:cq)],([]:(List bM))⟩:an)
theorem IL {ro:Addr->Option Value}{r:an}(h:yD=some r):e4 Tryz.prog 40 #[] ro (fun v aW=>∃m w1 w2 w3,v=bv r m w1 w2 w3/\bW aW r m w1 w2 w3):=by
 unfold yD at h;refine aD.go Tryz.func40 rfl Tryz.ntmps40 Tryz.results40 au fun main J hJ A H hd hs=>?_;clear hs;apply az hJ _;refine aA fun n r1 n1=>?_;try simp only[av] at n1
 apply ah hJ;refine aG hJ fun C=>?_;apply aS hJ;revert h;refine bS fun g D h=>?_;apply ag _;refine bf hJ _ (iN 1 2 D) (aO ?_);revert h;refine bS fun a E h=>?_;apply ag _;refine aA fun b5 p q=>?_;have F:=aZ.cons q C;try simp only[av] at q
 refine bf hJ _ (uM 10 12 E) (aO ?_);revert h;refine bS fun c G h=>?_;cases h;apply ag _;refine bf hJ _ (uM 10 10 G) (aO ?_);apply ag _;refine aA fun d i s=>?_;have I:=aZ.cons s F;try simp only[av] at s
 apply ag _;refine aG hJ fun t=>?_;obtain ⟨u,j,w⟩:=fM (b:=b5) (o:=(.cells #[.int .i64 0,.int .i64 2,.int .i64 8,.int .i64 4,.int .i64 14,.int .i64 4] 125)) [(d,.cells #[.int .i64 2,.int .i64 a.low,.int .i64 a.high,.int .i64 4,.int .i64 c.low,.int .i64 c.high] 66)] ((n,.cells #[.int .i64 20,.int .i64 2,.int .i64 g.num,.int .i64 g.den,.slice (some ⟨b5,0,none⟩) 3 3,.slice none 0 0,.slice (some ⟨d,0,none⟩) 2 2,.slice none 0 0] 29)::[]) t p (aK.cons i (aK.cons r1 (aK.nil _)));clear t;have f:aH fH (b7 ro b5 (.cells #[.int .i64 0,.int .i64 2,.int .i64 8,.int .i64 4,.int .i64 14,.int .i64 4] 125)) (.slice (some ⟨b5,0,none⟩) 3 3) [(⟨0,2⟩:cv),(⟨8,4⟩:cv),(⟨14,4⟩:cv)]:=(aH.flat (r:=fH) (e:=125) (cs:=#[.int .i64 0,.int .i64 2,.int .i64 8,.int .i64 4,.int .i64 14,.int .i64 4]) cv.cells ([(⟨0,2⟩:cv),(⟨8,4⟩:cv),(⟨14,4⟩:cv)]) (fun _=>rfl) p rfl au)
 generalize b7 ro b5 (.cells #[.int .i64 0,.int .i64 2,.int .i64 8,.int .i64 4,.int .i64 14,.int .i64 4] 125)=x at u j w f;refine cO hJ w ?_;obtain ⟨K,L,-⟩:=f.op;replace i:=j.hd;replace r1:=j.tl.hd;simp only[bF] at j;refine aG hJ fun y=>?_;obtain ⟨k,z,B⟩:=fM (b:=d) (o:=(.cells #[.int .i64 2,.int .i64 a.low,.int .i64 a.high,.int .i64 4,.int .i64 c.low,.int .i64 c.high] 66)) [] ((n,.cells #[.int .i64 20,.int .i64 2,.int .i64 g.num,.int .i64 g.den,.slice (some ⟨b5,0,none⟩) ([(⟨0,2⟩:cv),(⟨8,4⟩:cv),(⟨14,4⟩:cv)]).length 3,.slice none 0 0,.slice (some ⟨d,0,none⟩) 2 2,.slice none 0 0] 29)::[]) y i (aK.cons r1 (aK.nil _));clear y;have l:aH fo (b7 x d (.cells #[.int .i64 2,.int .i64 a.low,.int .i64 a.high,.int .i64 4,.int .i64 c.low,.int .i64 c.high] 66)) (.slice (some ⟨d,0,none⟩) 2 2) [(⟨2,a⟩:cq),(⟨4,c⟩:cq)]:=(aH.flat (r:=fo) (e:=66) (cs:=#[.int .i64 2,.int .i64 a.low,.int .i64 a.high,.int .i64 4,.int .i64 c.low,.int .i64 c.high]) cq.cells ([(⟨2,a⟩:cq),(⟨4,c⟩:cq)]) (fun _=>rfl) i rfl au)
 generalize b7 x d (.cells #[.int .i64 2,.int .i64 a.low,.int .i64 a.high,.int .i64 4,.int .i64 c.low,.int .i64 c.high] 66)=M at k z B l;refine cO hJ B ?_;obtain ⟨N,O,-⟩:=l.op;replace f:=f.mono k;simp only[bF] at z;refine cg ?_;exact ⟨_,(u).trans k,Le.sub (List.nil_sublist _),_,_,_,_,rfl,f,aH.nil _ _,l,aH.nil _ _⟩
def IM (u0:Int)(st:((List Int)×Int)):Option (Fl ((List Int)×Int) (List Int)):=
 cond (decide (st.2<u0)) (ai (de st.1 ([st.2])) fun a=>some (.nx (a,(IntKind.i64.wrap (st.2+1))))) (some (.bk (st.1,st.2)))
def Cn (u0:Int):Option (List Int):=
 ai (bp (IM u0) fu (([]:List Int),0)) fun o=>aJ o (fun a=>some a.1) (fun _ _=>none) (fun r=>some r)
def IN (u0:(List Int))(a:(List Int))(st:(Bool×Int)):Option (Fl (Bool×Int) Bool):=
 cond (decide (st.2<(u0.length:Int))) (cond (decide (st.2<(a.length:Int))) (ai (bD u0 st.2) fun b=>ai (bD a st.2) fun c=>cond ((b != c)) (some (.rt (decide (b<c)))) (some (.nx (st.1,(IntKind.i64.wrap (st.2+1)))))) (some (.bk (st.1,st.2)))) (some (.bk (st.1,st.2)))
def IP (u0:(List Int))(a:(List Int)):Option Bool:=
 ai (bp (IN u0 a) fu (false,0)) fun o=>aJ o (fun b=>some (decide ((u0.length:Int)<(a.length:Int)))) (fun _ _=>none) (fun r=>some r)
def pE (u0:(List Int))(a:(List Int)):Option Bool:=
 cond (decide ((u0.length:Int)<(a.length:Int))) (some true) (cond (((u0.length:Int)==(a.length:Int))) (ai (IP u0 a) fun b=>some b) (some false))
def rJ (u0:an)(st:(Int×Int)):Option (Fl (Int×Int) Int):=
 cond (decide (st.2<(u0.aE.length:Int))) (ai (bD u0.aE st.2) fun a=>ai (fh a.aV 0 (IntKind.i64.wrap (u0.bV - 1))) fun b=>cond (!b) (some (.rt 1)) (ai (fh a.high 0 60) fun c=>cond (!c) (some (.rt 1)) (cond (decide (0<st.2)) (ai (bD u0.aE (IntKind.i64.wrap (st.2 - 1))) fun d=>cond (decide (a.aV<=d.aV)) (some (.rt 7)) (some (.nx (st.1,(IntKind.i64.wrap (st.2+1)))))) (some (.nx (st.1,(IntKind.i64.wrap (st.2+1)))))))) (some (.bk (st.1,st.2)))
def n5 (u0:an):Option Int:=
 ai (fh (u0.aE.length:Int) 2 5) fun a=>cond (!a) (some 2) (ai (bp (rJ u0) fu (0,0)) fun o=>aJ o (fun b=>some 0) (fun _ _=>none) (fun r=>some r))
theorem IQ {ro:Addr->Option Value}(u0:an){s1 i j k:Value}(l:bW ro u0 s1 i j k){r:Int}(h:n5 u0=some r):aD Tryz.prog 139 #[bv u0 s1 i j k] ⟨ro,[]⟩ (fun v _=>v= .int .i64 r):=by
 obtain ⟨d3,c4,rfl,al,ao,-⟩:=id l.e;unfold n5 at h;refine aD.go Tryz.func139 rfl Tryz.ntmps139 Tryz.results139 au fun main J hJ A w hd hs=>?_;have x:=hs 0;clear hs;apply az hJ _;refine aA fun y ar z=>?_;try simp only[av] at z
 refine ah hJ (aC hJ ?_);revert h;refine bS fun a0 B h=>?_;apply ag _;refine bf hJ _ (je (u0.aE.length:Int) 2 5 B) (aO ?_);apply ag _;revert h;refine bh hJ (fun C h=>?_) fun C h=>?_
 .cases h;apply az hJ _;apply aQ;simp only[*,go_sem]
 refine aP hJ (ah hJ ?_);apply az hJ _;apply aX hJ;revert h;refine bS fun D d f=>?_;refine cc hJ (rg 10 39 [2,3,4]) (fun m q F'=>∃(b:Int) (c:Int),bp (rJ u0) m (b,c)=some D/\F'=⟨ro,(y,bk u0 (sl d3 u0.aE c4) i j k)::[]⟩/\slot q 2= .int .i64 b/\slot q 3= .int .i64 c) fu ?_ ?_
 .refine ⟨0,0,d,rfl,?_⟩;simp only[*,go_sem]
 rintro g a2 F' s ⟨b,c,d,rfl,a3,a4⟩;obtain ⟨E,F,G⟩:=s.pick [1] aB;simp only[*,go_sem] at E F G;clear s w hd x;obtain _|g:=g
 .exact absurd d (by simp only[bp,reduceCtorEq,not_false_eq_true])
 revert d;refine bS fun a5 h a=>?_;unfold rJ at h;try dsimp only at h
 refine ah hJ (aC hJ ?_);apply ag _;revert h;refine bh hJ (fun H h=>?_) fun H h=>?_
 .refine aP hJ (ah hJ ?_);refine aX hJ (ah hJ ?_);apply aS hJ;revert h;refine bS fun n I h=>?_;obtain ⟨a6,a7,t⟩:=cP I;obtain ⟨a8,K,L,M,o⟩:=l.e.el _ _ t;obtain rfl:K=n.cells:=M;cases L;have N:=o 0 _ rfl;simp only[go_sem] at N;have O:=o 1 _ rfl;simp only[go_sem] at O;clear o t;apply ag _;refine aA fun a9 ba P=>?_;try simp only[av] at P
  refine ah hJ (aC hJ ?_);revert h;refine bS fun bb Q h=>?_;apply ag _;refine bf hJ _ (je n.aV 0 (IntKind.i64.wrap (u0.bV - 1)) Q) (aO ?_);revert h;refine cS (fun R h=>?_) fun R h=>?_
  .cases h;apply ag _;refine cB hJ ?_;apply az hJ _;obtain rfl:=sI a;clear a;have h:=f;dsimp only[aJ] at h;cases h;apply aQ;simp only[*,go_sem]
  revert h;refine bS fun bc S h=>?_;apply ag _;refine bf hJ _ (je n.high 0 60 S) (aO ?_);apply ag _;revert h;refine bh hJ (fun T h=>?_) fun T h=>?_
  .cases h;apply az hJ _;obtain rfl:=sI a;clear a;have h:=f;dsimp only[aJ] at h;cases h;apply aQ;simp only[*,go_sem]
  refine aP hJ (ah hJ ?_);refine dh hJ mixed 14 2 aN aj ?_;revert h;refine cS (fun U h=>?_) fun U h=>?_
  .revert h;refine bS fun V W h=>?_;obtain ⟨bd,bj,u⟩:=cP W;obtain ⟨bl,X,Y,Z,p⟩:=l.e.el _ _ u;obtain rfl:X=V.cells:=Z;cases Y;have ab:=p 0 _ rfl;simp only[go_sem] at ab;have ad:=p 1 _ rfl;simp only[go_sem] at ad;clear p u;apply ag _;revert h;refine bh hJ (fun ae h=>?_) fun ae h=>?_
   .cases h;apply az hJ _;obtain rfl:=sI a;clear a;have h:=f;dsimp only[aJ] at h;cases h;apply aQ;simp only[*,go_sem]
   cases h;refine aP hJ (aS hJ ?_);apply ag _;refine ⟨g,Nat.lt_succ_self _,_,Le.sub (List.Sublist.cons _ (List.Sublist.refl _)),b,(IntKind.i64.wrap (c+1)),a,rfl,?_⟩;simp only[*,go_sem]
  cases h;apply ag _;refine cx hJ ?_;refine aP hJ (aS hJ ?_);apply ag _;refine ⟨g,Nat.lt_succ_self _,_,Le.sub (List.Sublist.cons _ (List.Sublist.refl _)),b,(IntKind.i64.wrap (c+1)),a,rfl,?_⟩;simp only[*,go_sem]
 cases h;apply b6;simp only[go_sem];obtain rfl:=sI a;clear a;have h:=f;dsimp only[aJ] at h;cases h;apply az hJ _;apply aQ;simp only[*,go_sem]
def Co (u0:an)(st:(Int×Int)):Option (Fl (Int×Int) Int):=
 cond (decide (st.2<(u0.told.length:Int))) (ai (bD u0.told st.2) fun a=>ai (pn u0 a.aY) fun b=>cond (!b) (some (.rt 6)) (some (.nx (st.1,(IntKind.i64.wrap (st.2+1)))))) (some (.bk (st.1,st.2)))
def Cp (u0:an)(st:(Int×Int)):Option (Fl (Int×Int) Int):=
 cond (decide (st.2<(u0.aF.length:Int))) (ai (bD u0.aF st.2) fun a=>ai (fh a.back 1 20) fun b=>cond (!b) (some (.rt 1)) (ai (nS a.high 0 60) fun c=>cond (!c) (some (.rt 1)) (cond (decide (3<=(IntKind.i64.wrap (a.high.high - a.high.low)))) (some (.rt 1)) (some (.nx (st.1,(IntKind.i64.wrap (st.2+1)))))))) (some (.bk (st.1,st.2)))
def rK (u0:an)(st:(Int×Int)):Option (Fl (Int×Int) Int):=
 cond (decide (st.2<(u0.props.length:Int))) (ai (bD u0.props st.2) fun a=>ai (nO u0 a.place) fun b=>cond (!b) (some (.rt 6)) (ai (fh a.dS 1 20) fun c=>cond (!c) (some (.rt 1)) (some (.nx (st.1,(IntKind.i64.wrap (st.2+1))))))) (some (.bk (st.1,st.2)))
def yE (u0:an)(st:(Int×Int)):Option (Fl (Int×Int) Int):=
 cond (decide (st.2<(u0.aF.length:Int))) (ai (bD u0.aF st.2) fun a=>ai (fh a.back 1 20) fun b=>cond (!b) (some (.rt 1)) (ai (nS a.high 0 60) fun c=>cond (!c) (some (.rt 1)) (cond (decide (3<=(IntKind.i64.wrap (a.high.high - a.high.low)))) (some (.rt 1)) (some (.nx (st.1,(IntKind.i64.wrap (st.2+1)))))))) (some (.bk (st.1,st.2)))
def yF (u0:an)(st:(Int×Int)):Option (Fl (Int×Int) Int):=
 cond (decide (st.2<(u0.told.length:Int))) (ai (bD u0.told st.2) fun a=>ai (pn u0 a.aY) fun b=>cond (!b) (some (.rt 6)) (some (.nx (st.1,(IntKind.i64.wrap (st.2+1)))))) (some (.bk (st.1,st.2)))
def n6 (u0:an):Option Int:=
 cond (decide (3<(u0.props.length:Int))) (some 2) (ai (bp (rK u0) fu (0,0)) fun o=>aJ o (fun a=>ai (fh (u0.aF.length:Int) 1 3) fun b=>cond (!b) (some 2) (ai (bp (yE u0) fu (a.1,0)) fun o=>aJ o (fun c=>cond (decide (3<(u0.told.length:Int))) (some 2) (ai (bp (yF u0) fu (c.1,0)) fun o=>aJ o (fun d=>some 0) (fun _ _=>none) (fun r=>some r))) (fun _ _=>none) (fun r=>some r))) (fun _ _=>none) (fun r=>some r))
theorem IS {ro:Addr->Option Value}(u0:an){s1 N O P:Value}(b:bW ro u0 s1 N O P){r:Int}(h:n6 u0=some r):aD Tryz.prog 140 #[bv u0 s1 N O P] ⟨ro,[]⟩ (fun v _=>v= .int .i64 r):=by
 obtain ⟨d10,w,rfl,ec,ed,-⟩:=id b.p;obtain ⟨d17,x,rfl,eh,et,-⟩:=id b.y;obtain ⟨d24,z,rfl,ev,eQ,-⟩:=id b.t;unfold n6 at h;refine aD.go Tryz.func140 rfl Tryz.ntmps140 Tryz.results140 au fun main J hJ A ao hd hs=>?_;have ar:=hs 0;clear hs;apply az hJ _;refine aA fun B eS a0=>?_;try simp only[av] at a0
 refine ah hJ (aC hJ ?_);apply ag _;revert h;refine bh hJ (fun a2 h=>?_) fun a2 h=>?_
 .cases h;apply az hJ _;apply aQ;simp only[*,go_sem]
 refine aP hJ (ah hJ ?_);apply az hJ _;apply aX hJ;revert h;refine bS fun a3 i C=>?_;refine cc hJ (rg 11 24 [2,3]) (fun m c F'=>∃(e:Int) (j:Int),bp (rK u0) m (e,j)=some a3/\F'=⟨ro,(B,bk u0 s1 (sl d10 u0.props w) (sl d17 u0.aF x) (sl d24 u0.told z))::[]⟩/\slot c 2= .int .i64 e/\slot c 3= .int .i64 j) fu ?_ ?_
 .refine ⟨0,0,i,rfl,?_⟩;simp only[*,go_sem]
 rintro D e0 F' Q ⟨e,j,i,rfl,a4,a5⟩;obtain ⟨R,S,T⟩:=Q.pick [1] aB;simp only[*,go_sem] at R S T;clear Q ao hd ar;obtain _|D:=D
 .exact absurd i (by simp only[bp,reduceCtorEq,not_false_eq_true])
 revert i;refine bS fun e1 h d=>?_;unfold rK at h;try dsimp only at h
 refine ah hJ (aC hJ ?_);apply ag _;revert h;refine bh hJ (fun a6 h=>?_) fun a6 h=>?_
 .refine aP hJ (ah hJ ?_);refine aX hJ (ah hJ ?_);apply ah hJ;refine dh hJ mixed 9 1 aN aj ?_;revert h;refine bS fun E a7 h=>?_;obtain ⟨e2,e3,U⟩:=cP a7;obtain ⟨fa,a8,a9,ba,G⟩:=b.p.el _ _ U;obtain rfl:a8=E.cells:=ba;cases a9;have bb:=G 0 _ rfl;simp only[go_sem] at bb;have bc:=G 1 _ rfl;simp only[go_sem] at bc;clear G U;revert h;refine bS fun fb bd h=>?_;apply ag _;refine ⟨_,bL hJ fun F H=>ID u0 (b.mono (cm H)) E.place bd,cr ?_⟩;apply ag _;revert h;refine bh hJ (fun bj h=>?_) fun bj h=>?_
  .cases h;apply az hJ _;obtain rfl:=sI d;clear d;have h:=C;dsimp only[aJ] at h;cases h;apply aQ;simp only[*,go_sem]
  refine aP hJ (ah hJ ?_);apply aS hJ;revert h;refine bS fun ff bl h=>?_;apply ag _;refine bf hJ _ (je E.dS 1 20 bl) (aO ?_);apply ag _;revert h;refine bh hJ (fun bm h=>?_) fun bm h=>?_
  .cases h;apply az hJ _;obtain rfl:=sI d;clear d;have h:=C;dsimp only[aJ] at h;cases h;apply aQ;simp only[*,go_sem]
  cases h;refine aP hJ (aS hJ ?_);apply ag _;refine ⟨D,Nat.lt_succ_self _,_,Le.sub (List.Sublist.refl _),e,(IntKind.i64.wrap (j+1)),d,rfl,?_⟩;simp only[*,go_sem]
 cases h;apply b6;simp only[go_sem];obtain rfl:=sI d;clear d;have h:=C;dsimp only[aJ] at h;refine ah hJ (aC hJ ?_);revert h;refine bS fun fg bo h=>?_;apply ag _;refine bf hJ _ (je (u0.aF.length:Int) 1 3 bo) (aO ?_);apply ag _;revert h;refine bh hJ (fun br h=>?_) fun br h=>?_
 .cases h;apply az hJ _;apply aQ;simp only[*,go_sem]
 refine aP hJ (ah hJ ?_);apply az hJ _;apply aX hJ;revert h;refine bS fun bs k l=>?_;refine cc hJ (rg 40 32 [2,4,5]) (fun m c F'=>∃(f:Int) (n:Int),bp (Cp u0) m (f,n)=some bs/\F'=⟨ro,(B,bk u0 s1 (sl d10 u0.props w) (sl d17 u0.aF x) (sl d24 u0.told z))::[]⟩/\slot c 2= .int .i64 f/\slot c 4= .int .i64 n) fu ?_ ?_
 .refine ⟨e,0,k,rfl,?_⟩;simp only[*,go_sem]
 rintro I fi F' V ⟨f,n,k,rfl,bz,b0⟩;obtain ⟨W,X,Y⟩:=V.pick [1] aB;simp only[*,go_sem] at W X Y;clear V R S T a4 a5;obtain _|I:=I
 .exact absurd k (by simp only[bp,reduceCtorEq,not_false_eq_true])
 revert k;refine bS fun fl h a=>?_;unfold Cp at h;try dsimp only at h
 refine ah hJ (aC hJ ?_);apply ag _;revert h;refine bh hJ (fun b1 h=>?_) fun b1 h=>?_
 .refine aP hJ (ah hJ ?_);refine aX hJ (ah hJ ?_);apply aS hJ;revert h;refine bS fun K b2 h=>?_;obtain ⟨fp,fq,Z⟩:=cP b2;obtain ⟨fr,b3,b4,b5,o⟩:=b.y.el _ _ Z;obtain rfl:b3=K.cells:=b5;cases b4;have ca:=o 0 _ rfl;simp only[go_sem] at ca;have cb:=o 1 _ rfl;simp only[go_sem] at cb;have cd:=o 2 _ rfl;simp only[go_sem] at cd;clear o Z;apply ag _;refine aA fun fs ft cf=>?_;try simp only[av] at cf
  apply aC hJ;revert h;refine bS fun fv cl h=>?_;apply ag _;refine bf hJ _ (je K.back 1 20 cl) (aO ?_);revert h;refine cS (fun cy h=>?_) fun cy h=>?_
  .cases h;apply ag _;refine cB hJ ?_;apply az hJ _;obtain rfl:=sI a;clear a;have h:=l;dsimp only[aJ] at h;cases h;apply aQ;simp only[*,go_sem]
  revert h;refine bS fun fw c0 h=>?_;apply ag _;refine bf hJ _ (IF K.high 0 60 c0) (aO ?_);revert h;refine cS (fun da h=>?_) fun da h=>?_
  .cases h;apply ag _;refine cB hJ ?_;apply az hJ _;obtain rfl:=sI a;clear a;have h:=l;dsimp only[aJ] at h;cases h;apply aQ;simp only[*,go_sem]
  apply ag _;revert h;refine bh hJ (fun db h=>?_) fun db h=>?_
  .cases h;apply az hJ _;obtain rfl:=sI a;clear a;have h:=l;dsimp only[aJ] at h;cases h;apply aQ;simp only[*,go_sem]
  cases h;refine aP hJ (aS hJ ?_);apply ag _;refine ⟨I,Nat.lt_succ_self _,_,Le.sub (List.Sublist.cons _ (List.Sublist.refl _)),f,(IntKind.i64.wrap (n+1)),a,rfl,?_⟩;simp only[*,go_sem]
 cases h;apply b6;simp only[go_sem];obtain rfl:=sI a;clear a;have h:=l;dsimp only[aJ] at h;refine ah hJ (aC hJ ?_);apply ag _;revert h;refine bh hJ (fun dd h=>?_) fun dd h=>?_
 .cases h;apply az hJ _;apply aQ;simp only[*,go_sem]
 refine aP hJ (ah hJ ?_);apply az hJ _;apply aX hJ;revert h;refine bS fun df q ab=>?_;refine cc hJ (rg 76 16 [2,6]) (fun m c F'=>∃(s:Int) (u:Int),bp (Co u0) m (s,u)=some df/\F'=⟨ro,(B,bk u0 s1 (sl d10 u0.props w) (sl d17 u0.aF x) (sl d24 u0.told z))::[]⟩/\slot c 2= .int .i64 s/\slot c 6= .int .i64 u) fu ?_ ?_
 .refine ⟨f,0,q,rfl,?_⟩;simp only[*,go_sem]
 rintro L fx F' ad ⟨s,u,q,rfl,fz,fP⟩;obtain ⟨dk,dp,dq⟩:=ad.pick [1] aB;simp only[*,go_sem] at dk dp dq;clear ad W X Y bz b0;obtain _|L:=L
 .exact absurd q (by simp only[bp,reduceCtorEq,not_false_eq_true])
 revert q;refine bS fun fQ h g=>?_;unfold Co at h;try dsimp only at h
 refine ah hJ (aC hJ ?_);apply ag _;revert h;refine bh hJ (fun ds h=>?_) fun ds h=>?_
 .refine aP hJ (ah hJ ?_);refine aX hJ (ah hJ ?_);refine dh hJ mixed 9 1 aN aj ?_;revert h;refine bS fun ae dt h=>?_;obtain ⟨fS,fU,al⟩:=cP dt;obtain ⟨gg,du,dv,dC,M⟩:=b.t.el _ _ al;obtain rfl:du=ae.cells:=dC;cases dv;have dE:=M 0 _ rfl;simp only[go_sem] at dE;have dT:=M 1 _ rfl;simp only[go_sem] at dT;clear M al;revert h;refine bS fun gl ea h=>?_;apply ag _;refine ⟨_,bL hJ fun F H=>IE u0 (b.mono (cm H)) ae.aY ea,cr ?_⟩;apply ag _;revert h;refine bh hJ (fun eb h=>?_) fun eb h=>?_
  .cases h;apply az hJ _;obtain rfl:=sI g;clear g;have h:=ab;dsimp only[aJ] at h;cases h;apply aQ;simp only[*,go_sem]
  cases h;refine aP hJ (aS hJ ?_);apply ag _;refine ⟨L,Nat.lt_succ_self _,_,Le.sub (List.Sublist.refl _),s,(IntKind.i64.wrap (u+1)),g,rfl,?_⟩;simp only[*,go_sem]
 cases h;apply b6;simp only[go_sem];obtain rfl:=sI g;clear g;have h:=ab;dsimp only[aJ] at h;cases h;apply az hJ _;apply aQ;simp only[*,go_sem]
def kD (u0:an):Option Int:=
 ai (fh u0.bV 2 60) fun c=>cond (!c) (some 1) (ai (fh u0.bU 0 60) fun d=>cond (!d) (some 1) (ai (fh u0.bq.den 1 20) fun e=>cond (!e) (some 1) (ai (fh u0.bq.num 0 20) fun f=>cond (!f) (some 1) (ai (jf u0.bq.num u0.bq.den) fun a=>cond (!((a.num==u0.bq.num)&&(a.den==u0.bq.den))) (some 3) (ai (n5 u0) fun b=>cond ((b != 0)) (some b) (ai (n6 u0) fun g=>some g))))))
theorem IT {ro:Addr->Option Value}(u0:an){s1 a b c:Value}(d:bW ro u0 s1 a b c){r:Int}(h:kD u0=some r):aD Tryz.prog 82 #[bv u0 s1 a b c] ⟨ro,[]⟩ (fun v _=>v= .int .i64 r):=by
 unfold kD at h;refine aD.go Tryz.func82 rfl Tryz.ntmps82 Tryz.results82 au fun main J hJ A e hd hs=>?_;have f:=hs 0;clear hs;apply az hJ _;refine aA fun E G g=>?_;try simp only[av] at g
 refine ah hJ (aC hJ ?_);revert h;refine bS fun H i h=>?_;apply ag _;refine bf hJ _ (je u0.bV 2 60 i) (aO ?_);revert h;refine cS (fun j h=>?_) fun j h=>?_
 .cases h;apply ag _;refine cB hJ ?_;apply az hJ _;apply aQ;simp only[*,go_sem]
 revert h;refine bS fun I k h=>?_;apply ag _;refine bf hJ _ (je u0.bU 0 60 k) (aO ?_);revert h;refine cS (fun l h=>?_) fun l h=>?_
 .cases h;apply ag _;refine cB hJ ?_;apply az hJ _;apply aQ;simp only[*,go_sem]
 revert h;refine bS fun K m h=>?_;apply ag _;refine bf hJ _ (je u0.bq.den 1 20 m) (aO ?_);revert h;refine cS (fun n h=>?_) fun n h=>?_
 .cases h;apply ag _;refine cB hJ ?_;apply az hJ _;apply aQ;simp only[*,go_sem]
 revert h;refine bS fun L o h=>?_;apply ag _;refine bf hJ _ (je u0.bq.num 0 20 o) (aO ?_);apply ag _;revert h;refine bh hJ (fun p h=>?_) fun p h=>?_
 .cases h;apply az hJ _;apply aQ;simp only[*,go_sem]
 refine aP hJ (ah hJ ?_);apply ah hJ;refine dh hJ mixed 10 1 aN aj ?_;revert h;refine bS fun M q h=>?_;apply ag _;refine ⟨_,bL hJ fun F N=>rF u0.bq.num u0.bq.den q,cr ?_⟩;apply ag _;revert h;refine bh hJ (fun s h=>?_) fun s h=>?_
 .cases h;apply ah hJ;refine fY [1,2] fun O t u w=>?_;simp only[*,go_sem] at t u w;clear e hd f;apply aM hJ _;apply aQ;simp only[*,go_sem]
 refine aP hJ (ah hJ ?_);apply ah hJ;refine fY [1,2] fun P x y z=>?_;simp only[*,go_sem] at x y z;clear e hd f;apply aS hJ;revert h;refine bS fun Q B h=>?_;apply ag _;refine bf hJ _ (IQ u0 (d.mono bn) B) (aO ?_);apply ag _;apply az hJ _;revert h;refine bh hJ (fun C h=>?_) fun C h=>?_
 .cases h;apply az hJ _;apply aQ;simp only[*,go_sem]
 refine aP hJ (ah hJ ?_);apply aS hJ;revert h;refine bS fun R D h=>?_;cases h;apply ag _;refine bf hJ _ (IS u0 (d.mono bn) D) (aO ?_);apply ag _;apply aQ;simp only[*,go_sem]
def yG (u0:bA):Option Int:=
 ai (fh u0.back 1 20) fun a=>cond (!a) (some 1) (ai (fh u0.high 0 60) fun b=>cond (!b) (some 1) (some 0))
theorem IU:Tryz.prog.underlying 3=some (.int .i64):=aj
theorem IV:Tryz.prog.underlying 5=some (.int .u8):=aj
attribute [go_sem] IU IV
def pF (u0:an):Option Bool:=
 ai (nW u0) fun a=>cond (!a) (ai (kD u0) fun b=>some (b==0)) (some false)
theorem IW {ro:Addr->Option Value}(u0:an){s1 b c d:Value}(a:bW ro u0 s1 b c d){r:Bool}(h:pF u0=some r):aD Tryz.prog 29 #[bv u0 s1 b c d] ⟨ro,[]⟩ (fun v _=>v= .bool r):=by
 obtain ⟨d3,c4,rfl,k,l,-⟩:=id a.e;obtain ⟨d10,m,rfl,n,o,-⟩:=id a.p;obtain ⟨d17,q,rfl,s,u,-⟩:=id a.y;obtain ⟨d24,w,rfl,x,z,-⟩:=id a.t;unfold pF at h;refine aD.go Tryz.func29 rfl Tryz.ntmps29 Tryz.results29 au fun main J hJ A B hd hs=>?_;have C:=hs 0;clear hs;apply az hJ _;refine aA fun D E f=>?_;try simp only[av] at f
 apply aC hJ;revert h;refine bS fun F g h=>?_;apply ag _;refine bf hJ _ (II u0 (a.mono bn) g) (aO ?_);revert h;refine cS (fun i h=>?_) fun i h=>?_
 .revert h;refine bS fun G j h=>?_;cases h;apply ag _;refine bf hJ _ (IT u0 (a.mono bn) j) (aO ?_);apply ag _;apply aQ;simp only[*,go_sem]
 cases h;apply ag _;apply aQ;simp only[*,go_sem]
def rM (u0:(List Int))(a:Int)(st:(Bool×Int)):Option (Fl (Bool×Int) Bool):=
 cond (decide (st.2<(u0.length:Int))) (ai (bD u0 st.2) fun b=>cond ((b==a)) (some (.rt true)) (some (.nx (st.1,(IntKind.i64.wrap (st.2+1)))))) (some (.bk (st.1,st.2)))
def pG (u0:(List Int))(a:Int):Option Bool:=
 ai (bp (rM u0 a) fu (false,0)) fun o=>aJ o (fun b=>some false) (fun _ _=>none) (fun r=>some r)
theorem IX {ro:Addr->Option Value}(u0:(List Int)){s1:Value}(g:aH rI ro s1 u0)(e:Int){r:Bool}(h:pG u0 e=some r):aD Tryz.prog 35 #[s1,.int .i64 e] ⟨ro,[]⟩ (fun v _=>v= .bool r):=by
 obtain ⟨d3,c4,rfl,F,G,-⟩:=id g;unfold pG at h;refine aD.go Tryz.func35 rfl Tryz.ntmps35 Tryz.results35 au fun main J hJ A o hd hs=>?_;have p:=hs 0;have k1:=hs 1;clear hs;apply az hJ _;refine ah hJ (aC hJ ?_);apply ag _;apply aX hJ;revert h;refine bS fun q b i=>?_;refine cc hJ (rg 4 14 []) (fun m j F'=>∃(c:Bool) (d:Int),bp (rM u0 e) m (c,d)=some q/\F'=⟨ro,[]⟩/\slot j 4= .bool c/\slot j 5= .int .i64 d) fu ?_ ?_
 .refine ⟨false,0,b,rfl,?_⟩;simp only[*,go_sem]
 rintro f H F' k ⟨c,d,b,rfl,I,K⟩;obtain ⟨s,t,u⟩:=k.pick [0,1] aB;simp only[*,go_sem] at s t u;clear k o hd p k1;obtain _|f:=f
 .exact absurd b (by simp only[bp,reduceCtorEq,not_false_eq_true])
 revert b;refine bS fun L h a=>?_;unfold rM at h;try dsimp only at h
 refine ah hJ (aC hJ ?_);apply ag _;revert h;refine bh hJ (fun w h=>?_) fun w h=>?_
 .refine aP hJ (ah hJ ?_);refine aX hJ (ah hJ ?_);apply aS hJ;revert h;refine bS fun x y h=>?_;obtain ⟨M,N,l⟩:=cP y;obtain ⟨O,z,B,C,n⟩:=g.el _ _ l;obtain rfl:z=[.int .i64 x]:=C;cases B;have D:=n 0 _ rfl;simp only[go_sem] at D;clear n l;apply ag _;revert h;refine bh hJ (fun E h=>?_) fun E h=>?_
  .cases h;apply az hJ _;obtain rfl:=sI a;clear a;have h:=i;dsimp only[aJ] at h;cases h;apply aQ;simp only[*,go_sem]
  cases h;refine aP hJ (aS hJ ?_);apply ag _;refine ⟨f,Nat.lt_succ_self _,_,Le.sub (List.Sublist.refl _),c,(IntKind.i64.wrap (d+1)),a,rfl,?_⟩;simp only[*,go_sem]
 cases h;apply b6;simp only[go_sem];obtain rfl:=sI a;clear a;have h:=i;dsimp only[aJ] at h;cases h;apply az hJ _;apply aQ;simp only[*,go_sem]
def pH (u0:ax)(a:ax)(b:ax):Option Bool:=
 cond (decide (0<u0.den)) (cond (decide (0<a.den)) (cond (decide (0<b.den)) (ai (iq u0 a) fun c=>cond (!c) (ai (iq b u0) fun d=>some (!d)) (some false)) (some false)) (some false)) (some false)
theorem IY {ro:Addr->Option Value}(u0:ax)(a:ax)(b:ax){r:Bool}(h:pH u0 a b=some r):aD Tryz.prog 36 #[.agg #[.int .i64 u0.num,.int .i64 u0.den],.agg #[.int .i64 a.num,.int .i64 a.den],.agg #[.int .i64 b.num,.int .i64 b.den]] ⟨ro,[]⟩ (fun v _=>v= .bool r):=by
 unfold pH at h;refine aD.go Tryz.func36 rfl Tryz.ntmps36 Tryz.results36 au fun main J hJ A j hd hs=>?_;have k:=hs 0;have k1:=hs 1;have l:=hs 2;clear hs;apply az hJ _;refine aA fun m r1 n1=>?_;try simp only[av] at n1
 refine aA fun b2 r2 n2=>?_;try simp only[av] at n2
 refine aA fun b3 r3 n3=>?_;try simp only[av] at n3
 apply aC hJ;revert h;refine cS (fun c h=>?_) fun c h=>?_
 .revert h;refine cS (fun d h=>?_) fun d h=>?_
  .revert h;refine cS (fun e h=>?_) fun e h=>?_
   .revert h;refine bS fun n f h=>?_;apply ag _;refine bf hJ _ (nP u0 a f) (aO ?_);revert h;refine cS (fun g h=>?_) fun g h=>?_
    .revert h;refine bS fun o i h=>?_;cases h;apply ag _;refine bf hJ _ (nP b u0 i) (aO ?_);apply ag _;apply aQ;simp only[*,go_sem]
    cases h;apply ag _;apply aQ;simp only[*,go_sem]
   cases h;apply ag _;apply aQ;simp only[*,go_sem]
  cases h;apply ag _;apply aQ;simp only[*,go_sem]
 cases h;apply ag _;apply aQ;simp only[*,go_sem]
def lC (u0:Int)(a:Bool):Option Bool:=
 cond ((u0==0)) (some true) (some ((u0==1)==a))
theorem yH {ro:Addr->Option Value}(u0:Int)(a:Bool){r:Bool}(h:lC u0 a=some r):aD Tryz.prog 39 #[.int .i64 u0,.bool a] ⟨ro,[]⟩ (fun v _=>v= .bool r):=by
 unfold lC at h;refine aD.go Tryz.func39 rfl Tryz.ntmps39 Tryz.results39 au fun main J hJ A c hd hs=>?_;have d:=hs 0;have k1:=hs 1;clear hs;apply az hJ _;apply aC hJ;revert h;refine cS (fun b h=>?_) fun b h=>?_
 .cases h;apply ag _;apply aQ;simp only[*,go_sem]
 cases h;apply ag _;apply aQ;simp only[*,go_sem]
def pI (u0:an)(c:bA)(st:(Int×Int×ax)):Option (Fl (Int×Int×ax) (Int×ax)):=
 cond (decide (st.2.1<(u0.aE.length:Int))) (ai (bD u0.aE st.2.1) fun b=>ai (lA u0 c b.aV (⟨b.high,1⟩:ax)) fun a=>cond ((st.2.1==0)) (some (.nx (st.2.1,(IntKind.i64.wrap (st.2.1+1)),a))) (ai (iq st.2.2 a) fun d=>cond (d) (some (.nx (st.2.1,(IntKind.i64.wrap (st.2.1+1)),a))) (some (.nx (st.1,(IntKind.i64.wrap (st.2.1+1)),st.2.2))))) (some (.bk (st.1,st.2.1,st.2.2)))
def pJ (u0:an)(b:bA):Option (Int×ax):=
 ai (bp (pI u0 b) fu (0,0,(⟨0,0⟩:ax))) fun o=>aJ o (fun a=>some (a.1,a.2.2)) (fun _ _=>none) (fun r=>some r)
theorem IZ {ro:Addr->Option Value}(u0:an){s1 d f g:Value}(s:bW ro u0 s1 d f g)(a:bA){r:(Int×ax)}(h:pJ u0 a=some r):aD Tryz.prog 63 #[bv u0 s1 d f g,.agg #[.int .i64 a.back,.int .i64 a.high]] ⟨ro,[]⟩ (fun v _=>v= .tuple #[.int .i64 r.1,r.2.v]):=by
 obtain ⟨d3,c4,rfl,al,ao,-⟩:=id s.e;unfold pJ at h;refine aD.go Tryz.func63 rfl Tryz.ntmps63 Tryz.results63 au fun main J hJ A D hd hs=>?_;have E:=hs 0;have k1:=hs 1;clear hs;apply az hJ _;refine aA fun j ar G=>?_;try simp only[av] at G
 refine aA fun k a0 H=>?_;try simp only[av] at H
 refine aA fun o a2 I=>?_;try simp only[av] at I
 apply az hJ _;refine aA fun t a3 K=>?_;try simp only[av] at K
 refine ah hJ (aC hJ ?_);apply ag _;apply aX hJ;revert h;refine bS fun L p M=>?_;refine cc hJ (rg 11 32 [6,8,9]) (fun m x F'=>∃(q:Int) (c:Int) (b:ax),bp (pI u0 a) m (q,c,b)=some L/\F'=⟨ro,(t,rt b.num b.den)::(o,rt 0 0)::(k,.cells #[.int .i64 a.back,.int .i64 a.high] 61)::(j,bk u0 (sl d3 u0.aE c4) d f g)::[]⟩/\slot x 6= .int .i64 q/\slot x 8= .int .i64 c) fu ?_ ?_
 .refine ⟨0,0,(⟨0,0⟩:ax),p,rfl,?_⟩;simp only[*,go_sem]
 rintro l a4 F' y ⟨q,c,b,p,rfl,a5,a6⟩;obtain ⟨N,O,P⟩:=y.pick [2,3,4,5,7] aB;simp only[*,go_sem] at N O P;clear y D hd E k1;obtain _|l:=l
 .exact absurd p (by simp only[bp,reduceCtorEq,not_false_eq_true])
 revert p;refine bS fun a7 h n=>?_;unfold pI at h;try dsimp only at h
 refine ah hJ (aC hJ ?_);apply ag _;revert h;refine bh hJ (fun Q h=>?_) fun Q h=>?_
 .refine aP hJ (ah hJ ?_);refine aX hJ (ah hJ ?_);refine eJ hJ mixed 16 ⟨ro,[(t,rt b.num b.den),(o,rt 0 0),(k,.cells #[.int .i64 a.back,.int .i64 a.high] 61),(j,bk u0 (sl d3 u0.aE c4) d f g)]⟩ aN aj ?_;revert h;refine bS fun u R h=>?_;obtain ⟨a8,a9,z⟩:=cP R;obtain ⟨B,S,T,U,w⟩:=s.e.el _ _ z;obtain rfl:S=u.cells:=U;cases T;have V:=w 0 _ rfl;simp only[go_sem] at V;have W:=w 1 _ rfl;simp only[go_sem] at W;clear w z;revert h;refine bS fun i X h=>?_;apply ag _;refine ⟨_,bL hJ fun F Y=>Cm u0 (s.mono (cm Y)) a u.aV (⟨u.high,1⟩:ax) X,?_⟩;apply ag _;refine aA fun C ba Z=>?_;try simp only[av] at Z
  apply ag _;apply aC hJ;revert h;refine cS (fun ab h=>?_) fun ab h=>?_
  .cases h;apply ag _;refine cB hJ ?_;refine eJ hJ mixed 3 ⟨ro,[(C,rt i.num i.den),(o,rt 0 0),(k,.cells #[.int .i64 a.back,.int .i64 a.high] 61),(j,bk u0 (sl (some B) u0.aE c4) d f g)]⟩ aN aj ?_;apply ag _;apply aM hJ _;refine ⟨l,Nat.lt_succ_self _,_,Le.sub (List.Sublist.cons _ (List.Sublist.refl _)),c,(IntKind.i64.wrap (c+1)),i,n,rfl,?_⟩;simp only[*,go_sem]
  revert h;refine bS fun bb ad h=>?_;apply ag _;refine bf hJ _ (nP b i ad) (aO ?_);apply ag _;revert h;refine bh hJ (fun ae h=>?_) fun ae h=>?_
  .cases h;refine eJ hJ mixed 3 ⟨ro,[(C,rt i.num i.den),(o,rt 0 0),(k,.cells #[.int .i64 a.back,.int .i64 a.high] 61),(j,bk u0 (sl (some B) u0.aE c4) d f g)]⟩ aN aj ?_;apply ag _;apply aM hJ _;refine ⟨l,Nat.lt_succ_self _,_,Le.sub (List.Sublist.cons _ (List.Sublist.refl _)),c,(IntKind.i64.wrap (c+1)),i,n,rfl,?_⟩;simp only[*,go_sem]
  cases h;refine aP hJ (aS hJ ?_);apply ag _;refine ⟨l,Nat.lt_succ_self _,_,Le.sub (List.Sublist.cons _ (List.Sublist.refl _)),q,(IntKind.i64.wrap (c+1)),b,n,rfl,?_⟩;simp only[*,go_sem]
 cases h;apply b6;simp only[go_sem];obtain rfl:=sI n;clear n;have h:=M;dsimp only[aJ] at h;cases h;apply ah hJ;refine eJ hJ mixed 3 ⟨ro,[(t,rt b.num b.den),(k,.cells #[.int .i64 a.back,.int .i64 a.high] 61),(j,bk u0 (sl d3 u0.aE c4) d f g)]⟩ aN aj ?_;apply ag _;apply aQ;simp only[*,go_sem]
def pK (u0:an)(c:Int)(st:Int):Option (Fl Int ax):=
 cond (decide ((IntKind.i64.wrap (st+1))<(u0.aE.length:Int))) (ai (bD u0.aE st) fun a=>ai (bD u0.aE (IntKind.i64.wrap (st+1))) fun b=>cond (decide (c<=b.aV)) (ai (jf (IntKind.i64.wrap ((IntKind.i64.wrap (a.high*(IntKind.i64.wrap (b.aV - a.aV))))+(IntKind.i64.wrap ((IntKind.i64.wrap (b.high - a.high))*(IntKind.i64.wrap (c - a.aV)))))) (IntKind.i64.wrap (b.aV - a.aV))) fun d=>some (.rt d)) (some (.nx (IntKind.i64.wrap (st+1))))) (some (.bk st))
def n7 (u0:an)(a:Int):Option ax:=
 ai (bp (pK u0 a) fu 0) fun o=>aJ o (fun b=>some (⟨0,0⟩:ax)) (fun _ _=>none) (fun r=>some r)
theorem I0 {ro:Addr->Option Value}(u0:an){s1 c d f:Value}(l:bW ro u0 s1 c d f)(g:Int){r:ax}(h:n7 u0 g=some r):aD Tryz.prog 178 #[bv u0 s1 c d f,.int .i64 g] ⟨ro,[]⟩ (fun v _=>v=r.v):=by
 obtain ⟨d3,c4,rfl,ab,ad,-⟩:=id l.e;unfold n7 at h;refine aD.go Tryz.func178 rfl Tryz.ntmps178 Tryz.results178 au fun main J hJ A y hd hs=>?_;have z:=hs 0;have k1:=hs 1;clear hs;apply az hJ _;refine aA fun q ae B=>?_;try simp only[av] at B
 refine aA fun s al C=>?_;try simp only[av] at C
 refine ah hJ (aC hJ ?_);apply ag _;apply aX hJ;revert h;refine bS fun D i t=>?_;refine cc hJ (rg 5 51 []) (fun m E F'=>∃(j:Int),bp (pK u0 g) m j=some D/\F'=⟨ro,(s,rt 0 0)::(q,bk u0 (sl d3 u0.aE c4) c d f)::[]⟩/\slot E 5= .int .i64 j) fu ?_ ?_
 .refine ⟨0,i,rfl,?_⟩;simp only[*,go_sem]
 rintro n ao F' u ⟨j,i,rfl,ar⟩;obtain ⟨F,G,H⟩:=u.pick [1,2,4] aB;simp only[*,go_sem] at F G H;clear u y hd z k1;obtain _|n:=n
 .exact absurd i (by simp only[bp,reduceCtorEq,not_false_eq_true])
 revert i;refine bS fun a0 h b=>?_;unfold pK at h;try dsimp only at h
 refine ah hJ (aC hJ ?_);apply ag _;revert h;refine bh hJ (fun I h=>?_) fun I h=>?_
 .refine aP hJ (ah hJ ?_);refine aX hJ (ah hJ ?_);refine tu hJ mixed 11 ⟨ro,[(s,rt 0 0),(q,bk u0 (sl d3 u0.aE c4) c d f)]⟩ aN aj 125 rfl wX ?_;revert h;refine bS fun a K h=>?_;obtain ⟨a2,a3,w⟩:=cP K;obtain ⟨a4,L,M,N,o⟩:=l.e.el _ _ w;obtain rfl:L=a.cells:=N;cases M;have O:=o 0 _ rfl;simp only[go_sem] at O;have P:=o 1 _ rfl;simp only[go_sem] at P;clear o w;revert h;refine bS fun k Q h=>?_;obtain ⟨a5,a6,x⟩:=cP Q;obtain ⟨a7,R,S,T,p⟩:=l.e.el _ _ x;obtain rfl:R=k.cells:=T;cases S;have U:=p 0 _ rfl;simp only[go_sem] at U;have V:=p 1 _ rfl;simp only[go_sem] at V;clear p x;apply ag _;refine aA fun a8 a9 W=>?_;try simp only[av] at W
  apply ag _;refine aA fun ba bb X=>?_;try simp only[av] at X
  apply ag _;apply az hJ _;revert h;refine bh hJ (fun Y h=>?_) fun Y h=>?_
  .apply aC hJ;revert h;refine bS fun bc Z h=>?_;cases h;apply ag _;refine bf hJ _ (rF (IntKind.i64.wrap ((IntKind.i64.wrap (a.high*(IntKind.i64.wrap (k.aV - a.aV))))+(IntKind.i64.wrap ((IntKind.i64.wrap (k.high - a.high))*(IntKind.i64.wrap (g - a.aV)))))) (IntKind.i64.wrap (k.aV - a.aV)) Z) (aO ?_);apply ag _;obtain rfl:=sI b;clear b;have h:=t;dsimp only[aJ] at h;cases h;apply aQ;simp only[*,go_sem]
  cases h;refine aP hJ (aS hJ ?_);apply ag _;refine ⟨n,Nat.lt_succ_self _,_,Le.sub (List.Sublist.cons _ (List.Sublist.cons _ (List.Sublist.refl _))),(IntKind.i64.wrap (j+1)),b,rfl,?_⟩;simp only[*,go_sem]
 cases h;apply b6;simp only[go_sem];obtain rfl:=sI b;clear b;have h:=t;dsimp only[aJ] at h;cases h;apply az hJ _;apply aQ;simp only[*,go_sem]
def uN (u0:an)(a:bA):Option ax:=
 ai (pJ u0 a) fun b=>ai (jg (⟨u0.bU,1⟩:ax) b.2) fun c=>some c
def pM (u0:an)(d:bA)(st:(Int×ax)):Option (Fl (Int×ax) (ax×Bool)):=
 cond (decide (st.1<(u0.props.length:Int))) (ai (bD u0.props st.1) fun a=>ai (n7 u0 a.place) fun b=>ai (jf (IntKind.i64.wrap (b.num+(IntKind.i64.wrap (a.dS*b.den)))) b.den) fun e=>ai (lA u0 d a.place e) fun c=>cond ((st.1==0)) (ai (ga c c) fun f=>some (.nx ((IntKind.i64.wrap (st.1+1)),f))) (ai (ga st.2 c) fun g=>some (.nx ((IntKind.i64.wrap (st.1+1)),g)))) (some (.bk (st.1,st.2)))
def kE (u0:an)(a:bA):Option (ax×Bool):=
 ai (bp (pM u0 a) fu (0,(⟨0,0⟩:ax))) fun o=>aJ o (fun b=>some (b.2,decide (0<(u0.props.length:Int)))) (fun _ _=>none) (fun r=>some r)
theorem Cq {ro:Addr->Option Value}(u0:an){s1 w d e:Value}(i:bW ro u0 s1 w d e)(a:bA){r:(ax×Bool)}(h:kE u0 a=some r):aD Tryz.prog 145 #[bv u0 s1 w d e,.agg #[.int .i64 a.back,.int .i64 a.high]] ⟨ro,[]⟩ (fun v _=>v= .tuple #[r.1.v,.bool r.2]):=by
 obtain ⟨d10,n,rfl,a7,a8,-⟩:=id i.p;unfold kE at h;refine aD.go Tryz.func145 rfl Tryz.ntmps145 Tryz.results145 au fun main J hJ A C hd hs=>?_;have D:=hs 0;have k1:=hs 1;clear hs;apply az hJ _;refine aA fun o a9 E=>?_;try simp only[av] at E
 refine aA fun q ba G=>?_;try simp only[av] at G
 refine aA fun x bb H=>?_;try simp only[av] at H
 apply az hJ _;refine aA fun s bc I=>?_;try simp only[av] at I
 refine ah hJ (aC hJ ?_);apply ag _;apply aX hJ;revert h;refine bS fun K j L=>?_;refine cc hJ (rg 7 42 []) (fun m M F'=>∃(f:Int) (b:ax),bp (pM u0 a) m (f,b)=some K/\F'=⟨ro,(s,rt b.num b.den)::(x,rt 0 0)::(q,.cells #[.int .i64 a.back,.int .i64 a.high] 61)::(o,bk u0 s1 (sl d10 u0.props n) d e)::[]⟩/\slot M 7= .int .i64 f) fu ?_ ?_
 .refine ⟨0,(⟨0,0⟩:ax),j,rfl,?_⟩;simp only[*,go_sem]
 rintro k bd F' y ⟨f,b,j,rfl,bj⟩;obtain ⟨N,O,P⟩:=y.pick [2,3,4,5,6] aB;simp only[*,go_sem] at N O P;clear y C hd D k1;obtain _|k:=k
 .exact absurd j (by simp only[bp,reduceCtorEq,not_false_eq_true])
 revert j;refine bS fun bl h l=>?_;unfold pM at h;try dsimp only at h
 refine ah hJ (aC hJ ?_);apply ag _;revert h;refine bh hJ (fun Q h=>?_) fun Q h=>?_
 .refine aP hJ (ah hJ ?_);refine aX hJ (ah hJ ?_);apply aS hJ;revert h;refine bS fun c R h=>?_;obtain ⟨bm,bo,z⟩:=cP R;obtain ⟨S,T,U,V,t⟩:=i.p.el _ _ z;obtain rfl:T=c.cells:=V;cases U;have W:=t 0 _ rfl;simp only[go_sem] at W;have X:=t 1 _ rfl;simp only[go_sem] at X;clear t z;apply ag _;refine aA fun Y br Z=>?_;try simp only[av] at Z
  apply aC hJ;revert h;refine bS fun g ab h=>?_;apply ag _;refine bf hJ _ (I0 u0 (i.mono bn) c.place ab) (aO ?_);apply ag _;refine aA fun ad bs ae=>?_;try simp only[av] at ae
  apply ah hJ;refine eJ hJ mixed 16 ⟨ro,[(ad,rt g.num g.den),(Y,.cells #[.int .i64 c.place,.int .i64 c.dS] 159),(s,rt b.num b.den),(x,rt 0 0),(q,.cells #[.int .i64 a.back,.int .i64 a.high] 61),(o,bk u0 s1 (sl (some S) u0.props n) d e)]⟩ aN aj ?_;revert h;refine bS fun al ao h=>?_;apply ag _;refine ⟨_,bL hJ fun F B=>rF (IntKind.i64.wrap (g.num+(IntKind.i64.wrap (c.dS*g.den)))) g.den ao,cr ?_⟩;revert h;refine bS fun u ar h=>?_;apply ag _;refine ⟨_,bL hJ fun F B=>Cm u0 (i.mono (cm B)) a c.place al ar,?_⟩;apply ag _;refine aA fun bz b0 a0=>?_;try simp only[av] at a0
  apply ag _;refine ah hJ (aC hJ ?_);apply ag _;revert h;refine bh hJ (fun a2 h=>?_) fun a2 h=>?_
  .apply aM hJ _;apply aS hJ;revert h;refine bS fun a3 a4 h=>?_;cases h;apply ag _;refine bf hJ _ (mD u u a4) (aO ?_);apply ag _;apply aM hJ _;refine ⟨k,Nat.lt_succ_self _,_,Le.sub (List.Sublist.cons _ (List.Sublist.cons _ (List.Sublist.cons _ (List.Sublist.refl _)))),(IntKind.i64.wrap (f+1)),a3,l,rfl,?_⟩;simp only[*,go_sem]
  refine aP hJ (aS hJ ?_);revert h;refine bS fun a5 a6 h=>?_;cases h;apply ag _;refine bf hJ _ (mD b u a6) (aO ?_);apply ag _;apply aM hJ _;refine ⟨k,Nat.lt_succ_self _,_,Le.sub (List.Sublist.cons _ (List.Sublist.cons _ (List.Sublist.cons _ (List.Sublist.refl _)))),(IntKind.i64.wrap (f+1)),a5,l,rfl,?_⟩;simp only[*,go_sem]
 cases h;apply b6;simp only[go_sem];obtain rfl:=sI l;clear l;have h:=L;dsimp only[aJ] at h;cases h;apply ah hJ;refine eJ hJ mixed 5 ⟨ro,[(s,rt b.num b.den),(q,.cells #[.int .i64 a.back,.int .i64 a.high] 61),(o,bk u0 s1 (sl d10 u0.props n) d e)]⟩ aN aj ?_;apply ag _;apply aQ;simp only[*,go_sem]
def n8 (u0:an)(b:bA):Option ax:=
 ai (pJ u0 b) fun a=>ai (iq a.2 (⟨u0.bU,1⟩:ax)) fun e=>cond (e) (ai (kE u0 b) fun c=>cond (c.2) (ai (ga a.2 c.1) fun f=>ai (jg (⟨u0.bU,1⟩:ax) f) fun g=>ai (ga g (⟨0,1⟩:ax)) fun h=>some h) (ai (jg (⟨u0.bU,1⟩:ax) a.2) fun i=>ai (ga i (⟨0,1⟩:ax)) fun j=>some j)) (ai (kE u0 b) fun d=>cond (d.2) (ai (ga (⟨u0.bU,1⟩:ax) d.1) fun k=>ai (jg a.2 k) fun l=>ai (ga l (⟨0,1⟩:ax)) fun m=>some m) (ai (jg a.2 (⟨u0.bU,1⟩:ax)) fun n=>ai (ga n (⟨0,1⟩:ax)) fun o=>some o))
theorem I1 {ro:Addr->Option Value}(u0:an){s1 c d e:Value}(f:bW ro u0 s1 c d e)(a:bA){r:ax}(h:n8 u0 a=some r):aD Tryz.prog 104 #[bv u0 s1 c d e,.agg #[.int .i64 a.back,.int .i64 a.high]] ⟨ro,[]⟩ (fun v _=>v=r.v):=by
 unfold n8 at h;refine aD.go Tryz.func104 rfl Tryz.ntmps104 Tryz.results104 au fun main J hJ A g hd hs=>?_;have i:=hs 0;have k1:=hs 1;clear hs;apply az hJ _;refine aA fun j ao k=>?_;try simp only[av] at k
 refine aA fun l ar m=>?_;try simp only[av] at m
 refine aA fun n a0 o=>?_;try simp only[av] at o
 apply aC hJ;revert h;refine bS fun b p h=>?_;apply ag _;refine bf hJ _ (IZ u0 (f.mono bn) a p) (aO ?_);apply ag _;refine aA fun q a2 s=>?_;try simp only[av] at s
 apply ah hJ;refine tu hJ mixed 4 ⟨ro,[(q,rt b.2.num b.2.den),(n,rt 0 0),(l,.cells #[.int .i64 a.back,.int .i64 a.high] 61),(j,bk u0 s1 c d e)]⟩ aN aj 23 rfl wT ?_;apply ag _;refine aA fun a3 a4 t=>?_;try simp only[av] at t
 apply ag _;refine aA fun a5 a6 u=>?_;try simp only[av] at u
 apply ag _;refine ah hJ (aC hJ ?_);revert h;refine bS fun a7 w h=>?_;apply ag _;refine bf hJ _ (nP b.2 (⟨u0.bU,1⟩:ax) w) ?_;revert h;refine bh hJ (fun x h=>?_) fun x h=>?_
 .apply aM hJ _;refine ah hJ (aC hJ ?_);revert h;refine bS fun y z h=>?_;apply ag _;refine bf hJ _ (Cq u0 (f.mono bn) a z) (aO ?_);apply ag _;refine aA fun a8 a9 B=>?_;try simp only[av] at B
  apply ah hJ;refine fY [4,7,8,9,10] fun ba C D E=>?_;simp only[*,go_sem] at C D E;clear g hd i k1;apply aM hJ _;revert h;refine bh hJ (fun F h=>?_) fun F h=>?_
  .apply aS hJ;revert h;refine bS fun G H h=>?_;apply ag _;refine bf hJ _ (mD b.2 y.1 H) (aO ?_);apply ag _;apply aC hJ;revert h;refine bS fun I K h=>?_;apply ag _;refine bf hJ _ (uL (⟨u0.bU,1⟩:ax) G K) (aO ?_);revert h;refine bS fun bb L h=>?_;cases h;apply ag _;refine bf hJ _ (mD I (⟨0,1⟩:ax) L) (aO ?_);apply ag _;apply aQ;simp only[*,go_sem]
  refine aP hJ (ah hJ ?_);apply aS hJ;revert h;refine bS fun M N h=>?_;apply ag _;refine bf hJ _ (uL (⟨u0.bU,1⟩:ax) b.2 N) (aO ?_);revert h;refine bS fun bc O h=>?_;cases h;apply ag _;refine bf hJ _ (mD M (⟨0,1⟩:ax) O) (aO ?_);apply ag _;apply aQ;simp only[*,go_sem]
 refine aP hJ (ah hJ ?_);apply aC hJ;revert h;refine bS fun P Q h=>?_;apply ag _;refine bf hJ _ (Cq u0 (f.mono bn) a Q) (aO ?_);apply ag _;refine aA fun bd bj R=>?_;try simp only[av] at R
 apply ah hJ;refine fY [4,7,8,9,10] fun bl S T U=>?_;simp only[*,go_sem] at S T U;clear g hd i k1;apply aM hJ _;revert h;refine bh hJ (fun V h=>?_) fun V h=>?_
 .apply aS hJ;revert h;refine bS fun W X h=>?_;apply ag _;refine bf hJ _ (mD (⟨u0.bU,1⟩:ax) P.1 X) (aO ?_);apply ag _;apply aC hJ;revert h;refine bS fun Y Z h=>?_;apply ag _;refine bf hJ _ (uL b.2 W Z) (aO ?_);revert h;refine bS fun bm ab h=>?_;cases h;apply ag _;refine bf hJ _ (mD Y (⟨0,1⟩:ax) ab) (aO ?_);apply ag _;apply aQ;simp only[*,go_sem]
 refine aP hJ (ah hJ ?_);apply aS hJ;revert h;refine bS fun ad ae h=>?_;apply ag _;refine bf hJ _ (uL b.2 (⟨u0.bU,1⟩:ax) ae) (aO ?_);revert h;refine bS fun bo al h=>?_;cases h;apply ag _;refine bf hJ _ (mD ad (⟨0,1⟩:ax) al) (aO ?_);apply ag _;apply aQ;simp only[*,go_sem]
def n9 (u0:an)(a:bA):Option Bool:=
 ai (n8 u0 a) fun b=>ai (iq u0.bq b) fun c=>some c
theorem I2 {ro:Addr->Option Value}(u0:an){s1 b c d:Value}(f:bW ro u0 s1 b c d)(a:bA){r:Bool}(h:n9 u0 a=some r):aD Tryz.prog 98 #[bv u0 s1 b c d,.agg #[.int .i64 a.back,.int .i64 a.high]] ⟨ro,[]⟩ (fun v _=>v= .bool r):=by
 unfold n9 at h;refine aD.go Tryz.func98 rfl Tryz.ntmps98 Tryz.results98 au fun main J hJ A m hd hs=>?_;have n:=hs 0;have k1:=hs 1;clear hs;apply az hJ _;refine aA fun o p g=>?_;try simp only[av] at g
 refine aA fun q s i=>?_;try simp only[av] at i
 apply ah hJ;refine dh hJ mixed 7 2 aN aj ?_;revert h;refine bS fun j k h=>?_;apply ag _;refine ⟨_,bL hJ fun F e=>I1 u0 (f.mono (cm e)) a k,cr ?_⟩;revert h;refine bS fun t l h=>?_;cases h;apply ag _;refine ⟨_,bL hJ fun F e=>nP u0.bq j l,cr ?_⟩;apply ag _;apply aQ;simp only[*,go_sem]
def yI (u0:an)(b:(List Int))(st:(Bool×Int)):Option (Fl (Bool×Int) Bool):=
 cond (decide (st.2<(u0.told.length:Int))) (ai (bD u0.told st.2) fun a=>ai (bD b a.aY) fun c=>ai (nU u0 a.aY c) fun d=>ai (n9 u0 d) fun e=>cond (!(e==a.bI)) (some (.rt false)) (some (.nx (st.1,(IntKind.i64.wrap (st.2+1)))))) (some (.bk (st.1,st.2)))
def yJ (u0:an)(a:(List Int)):Option Bool:=
 ai (bp (yI u0 a) fu (false,0)) fun o=>aJ o (fun b=>some true) (fun _ _=>none) (fun r=>some r)
theorem I3:Tryz.prog.underlying 3=some (.int .i64):=aj
theorem I4:Tryz.prog.underlying 194=some (.int .u16):=aj
attribute [go_sem] I3 I4
def rN (u0:(List Int))(a:Int):Option Int:=
 cond (decide (a<0)) (some 0) (cond (decide ((u0.length:Int)<=a)) (some 0) (ai (bD u0 a) fun b=>some (IntKind.i64.wrap b)))
theorem I5 {ro:Addr->Option Value}(u0:(List Int)){s1:Value}(a:aH oT ro s1 u0)(b:Int){r:Int}(h:rN u0 b=some r):aD Tryz.prog 106 #[s1,.int .i64 b] ⟨ro,[]⟩ (fun v _=>v= .int .i64 r):=by
 obtain ⟨d3,c4,rfl,n,o,-⟩:=id a;unfold rN at h;refine aD.go Tryz.func106 rfl Tryz.ntmps106 Tryz.results106 au fun main J hJ A p hd hs=>?_;have q:=hs 0;have k1:=hs 1;clear hs;apply az hJ _;refine ah hJ (aC hJ ?_);revert h;refine cS (fun e h=>?_) fun e h=>?_
 .cases h;try apply ag _
  refine cB hJ ?_;apply az hJ _;apply aQ;simp only[*,go_sem]
 try apply ag _
 revert h;refine bh hJ (fun f h=>?_) fun f h=>?_
 .cases h;apply az hJ _;apply aQ;simp only[*,go_sem]
 refine aP hJ (ah hJ ?_);apply aS hJ;revert h;refine bS fun g i h=>?_;cases h;obtain ⟨s,t,c⟩:=cP i;obtain ⟨u,j,k,l,d⟩:=a.el _ _ c;obtain rfl:j=[.int .u16 g]:=l;cases k;have m:=d 0 _ rfl;simp only[go_sem] at m;clear d c;try apply ag _
 apply aQ;simp only[*,go_sem]
def rO (u0:dF)(a:Int):Option Int:=
 ai (iZ a (IntKind.i64.wrap ((IntKind.i64.wrap (u0.high - u0.low))+1))) fun b=>some (IntKind.i64.wrap (u0.low+b))
theorem I6 {ro:Addr->Option Value}(u0:dF)(a:Int){r:Int}(h:rO u0 a=some r):aD Tryz.prog 105 #[.agg #[.int .i64 u0.low,.int .i64 u0.high],.int .i64 a] ⟨ro,[]⟩ (fun v _=>v= .int .i64 r):=by
 unfold rO at h;refine aD.go Tryz.func105 rfl Tryz.ntmps105 Tryz.results105 au fun main J hJ A c hd hs=>?_;have d:=hs 0;have k1:=hs 1;clear hs;apply az hJ _;refine aA fun e r1 n1=>?_;try simp only[av] at n1
 try apply ag _
 apply ah hJ;refine dh hJ mixed 12 1 aN aj ?_;revert h;refine bS fun f b h=>?_;cases h;obtain ⟨g,i⟩:=qK b;clear b;try apply ag _
 apply aQ;simp only[*,go_sem]
def pN (u0:an)(a:(List Int))(st:((List Int)×Int)):Option (Fl ((List Int)×Int) (List Int)):=
 cond (decide (st.2<(u0.aF.length:Int))) (ai (bD u0.aF st.2) fun b=>ai (rN a st.2) fun c=>ai (rO b.high c) fun d=>ai (de st.1 ([d])) fun e=>some (.nx (e,(IntKind.i64.wrap (st.2+1))))) (some (.bk (st.1,st.2)))
def rP (u0:an)(a:(List Int)):Option (List Int):=
 ai (bp (pN u0 a) fu (([]:List Int),0)) fun o=>aJ o (fun b=>some b.1) (fun _ _=>none) (fun r=>some r)
theorem I7 {ro:Addr->Option Value}(u0:an){s1 b t c:Value}(u:bW ro u0 s1 b t c)(e:(List Int)){w:Value}(Q:aH oT ro w e){r:(List Int)}(h:rP u0 e=some r):e4 Tryz.prog 30 #[bv u0 s1 b t c,w] ro (fun v aW=>∃z,v=z/\aH rI aW z r):=by
 obtain ⟨d17,f,rfl,bs,bz,-⟩:=id u.y;unfold rP at h;refine aD.go Tryz.func30 rfl Tryz.ntmps30 Tryz.results30 au fun main J hJ A R hd hs=>?_;have S:=hs 0;have k1:=hs 1;clear hs;apply az hJ _;refine aA fun g T U=>?_;try simp only[av] at U
 try apply ag _
 apply az hJ _;refine ah hJ (aC hJ ?_);apply ag _;apply aX hJ;revert h;refine bS fun V i W=>?_;refine cc hJ (rg 5 22 []) (fun m B F'=>∃(d38:Option Addr) (j:Nat) (o:List (Nat×Obj)) (a:(List Int)) (d:Int),bp (pN u0 e) m (a,d)=some V/\F'=⟨ro,(g,bk u0 s1 b (sl d17 u0.aF f) c)::o⟩/\bg rI ro 3 (.slice d38 a.length j) a o/\a.length<=j/\slot B 5= .slice d38 a.length j/\slot B 6= .int .i64 d) fu ?_ ?_
 .refine ⟨none,0,[],([]:List Int),0,i,rfl,bg.nil _ _ _,Nat.le_refl _,?_⟩;simp only[*,go_sem]
 rintro p b0 F' C ⟨d38,j,o,a,d,i,rfl,D,b1,b2,b3⟩;obtain ⟨X,Y,Z⟩:=C.pick [1,2,4] aB;simp only[*,go_sem] at X Y Z;clear C R hd S k1;obtain _|p:=p
 .exact absurd i (by simp only[bp,reduceCtorEq,not_false_eq_true])
 revert i;refine bS fun b4 h q=>?_;unfold pN at h;try dsimp only at h
 refine ah hJ (ah hJ ?_);refine aG hJ fun b5=>?_;apply aM hJ _;revert h;refine bh hJ (fun ab h=>?_) fun ab h=>?_
 .refine aP hJ (ah hJ ?_);apply aX hJ;refine aG hJ fun ad=>?_;refine dh hJ mixed 11 1 aN aj ?_;revert h;refine bS fun E ae h=>?_;obtain ⟨ca,cb,G⟩:=cP ae;obtain ⟨H,al,ao,ar,k⟩:=u.y.el _ _ G;obtain rfl:al=E.cells:=ar;cases ao;have a0:=k 0 _ rfl;simp only[go_sem] at a0;have a2:=k 1 _ rfl;simp only[go_sem] at a2;have a3:=k 2 _ rfl;simp only[go_sem] at a3;clear k G;revert h;refine bS fun a4 a5 h=>?_;try apply ag _
  refine ⟨_,bL hJ fun F I=>I5 e (Q.mono (cm I)) d a5,cr ?_⟩;revert h;refine bS fun n a6 h=>?_;try apply ag _
  refine ⟨_,bL hJ fun F I=>I6 E.high a4 a6,?_⟩;revert h;refine bS fun a7 a8 h=>?_;cases h;obtain ⟨a9,K⟩:=dQ a8;try apply ag _
  refine aA fun L ba M=>?_;have bb:=aZ.cons M ad;try simp only[av] at M
  try apply ag _
  refine eD (r:=rI) (l:=a) (x:=n) (cs:=#[.int .i64 n]) (e2:=3) [(L,ic n),(g,bk u0 s1 b (sl (some H) u0.aF f) c)] [] D bb a9 rfl aN ba rfl rfl fW fW kX kZ rfl kY aB aB (fun cd N s bc bd cf=>?_);simp only[bw] at bd;subst bc;rw[<-K] at s;clear K;obtain ⟨d68,bj,rfl,bl⟩:=s.len;refine ⟨⟨ro,(L,ic n)::(g,bk u0 s1 b (sl (some H) u0.aF f) c)::N⟩,Le.refl _,?_⟩;refine ⟨aN,l6 ?_⟩;try apply ag _
  refine aG hJ fun cl=>?_;apply aM hJ _;try apply ag _
  refine ⟨p,Nat.lt_succ_self _,_,Le.sub (List.Sublist.cons _ (List.Sublist.refl _)),d68,bj,N,a7,(IntKind.i64.wrap (d+1)),q,rfl,s,bl,?_⟩;simp only[*,go_sem]
 cases h;apply b6;simp only[go_sem];obtain rfl:=sI q;clear q;have h:=W;dsimp only[aJ] at h;cases h;apply ah hJ;refine aG hJ fun cy=>?_;apply aM hJ _;refine aG hJ fun O=>?_;obtain ⟨cS,bm,bo,P,br⟩:=D.fj [(g,bk u0 s1 b (sl d17 u0.aF f) c)] [] O (aK.cons T (aK.nil _));clear O;refine cO hJ br ?_;obtain ⟨c0,da,-⟩:=P.op;simp only[bF] at bo;refine cg ?_;exact ⟨_,bm,Le.sub (List.nil_sublist _),_,rfl,P⟩
def pO (u0:an)(b:(List Int))(st:(Int×(List bM))):Option (Fl (Int×(List bM)) an):=
 cond (decide (st.1<(u0.told.length:Int))) (ai (bD u0.told st.1) fun a=>ai (bD b a.aY) fun c=>ai (nU u0 a.aY c) fun d=>ai (n9 u0 d) fun e=>ai (de st.2 ([(⟨a.aY,e⟩:bM)])) fun f=>some (.nx ((IntKind.i64.wrap (st.1+1)),f))) (some (.bk (st.1,st.2)))
def rQ (u0:an)(a:(List Int)):Option an:=
 ai (bp (pO u0 a) fu (0,([]:List bM))) fun o=>aJ o (fun b=>some (⟨u0.bV,u0.bU,u0.bq,u0.aE,u0.props,u0.aF,b.2⟩:an)) (fun _ _=>none) (fun r=>some r)
theorem I8 {ro:Addr->Option Value}(u0:an){s1 a b I:Value}(d:bW ro u0 s1 a b I)(u:(List Int)){K:Value}(L:aH rI ro K u){r:an}(h:rQ u0 u=some r):e4 Tryz.prog 31 #[bv u0 s1 a b I,K] ro (fun v aW=>∃M w1 w2 w3,v=bv r M w1 w2 w3/\bW aW r M w1 w2 w3):=by
 obtain ⟨d24,j,rfl,dp,dq,-⟩:=id d.t;obtain ⟨d31,ds,rfl,dt,du,-⟩:=id L;unfold rQ at h;have ad:=d.oc;simp only[bP] at ad;refine aD.go Tryz.func31 rfl Tryz.ntmps31 Tryz.results31 au fun main J hJ A ae hd hs=>?_;have al:=hs 0;have k1:=hs 1;clear hs;apply az hJ _;refine aA fun k ao ar=>?_;try simp only[av] at ar
 refine aA fun n a0 a2=>?_;try simp only[av] at a2
 try apply ag _
 apply az hJ _;refine aA fun o a3 a4=>?_;try simp only[av] at a4
 try apply ag _
 apply az hJ _;refine ah hJ (aC hJ ?_);apply ag _;apply aX hJ;revert h;refine bS fun a5 q a6=>?_;refine cc hJ (rg 10 30 [6,7]) (fun m a7 F'=>∃(d41:Option Addr) (g:Nat) (w:List (Nat×Obj)) (s:Int) (c:(List bM)),bp (pO u0 u) m (s,c)=some a5/\F'=⟨ro,(o,bk u0 s1 a b (sl d41 c g))::(n,bz 29)::(k,bk u0 s1 a b (sl d24 u0.told j))::w⟩/\bg dG ro 86 (.slice d41 c.length g) c w/\c.length<=g/\slot a7 6= .int .i64 s) fu ?_ ?_
 .refine ⟨none,0,[],0,([]:List bM),q,rfl,bg.nil _ _ _,Nat.le_refl _,?_⟩;simp only[*,go_sem]
 rintro z dv F' N ⟨d41,g,w,s,c,q,rfl,O,dC,dE⟩;obtain ⟨a8,a9,ba⟩:=N.pick [1,2,4,5] aB;simp only[*,go_sem] at a8 a9 ba;clear N ae hd al k1;obtain _|z:=z
 .exact absurd q (by simp only[bp,reduceCtorEq,not_false_eq_true])
 revert q;refine bS fun dT h B=>?_;unfold pO at h;try dsimp only at h
 refine ah hJ (ah hJ ?_);refine aG hJ fun ea=>?_;apply aM hJ _;revert h;refine bh hJ (fun bb h=>?_) fun bb h=>?_
 .refine aP hJ (ah hJ ?_);refine aX hJ (ah hJ ?_);refine aG hJ fun bc=>?_;apply aS hJ;revert h;refine bS fun f bd h=>?_;obtain ⟨eb,ec,P⟩:=cP bd;obtain ⟨C,bj,bl,bm,D⟩:=d.t.el _ _ P;obtain rfl:bj=f.cells:=bm;cases bl;have bo:=D 0 _ rfl;simp only[go_sem] at bo;have br:=D 1 _ rfl;simp only[go_sem] at br;clear D P;try apply ag _
  refine aA fun E ed Q=>?_;have eh:=aZ.cons Q bc;try simp only[av] at Q
  try apply ag _
  apply ah hJ;refine aG hJ fun et=>?_;refine fc hJ mixed [12] (.rd 0 (.rd 1 (.pure 2 (.rd 3 (.pure 4 (.pure 5 (.rd 6 (.pure 7 (.rd 8 (.rd 9 (.rd 10 (.pure 11 (.last 12 .done))))))))))))) ⟨ro,[(E,.cells #[.int .i64 f.aY,.bool f.bI] 86),(o,bk u0 s1 a b (sl d41 c g)),(n,bz 29),(k,bk u0 s1 a b (sl (some C) u0.told j))]⟩ aN aj ?_;revert h;refine bS fun R bs h=>?_;obtain ⟨ev,eQ,S⟩:=cP bs;obtain ⟨eS,b0,b1,b2,T⟩:=L.el _ _ S;obtain rfl:b0=[.int .i64 R]:=b2;cases b1;have b3:=T 0 _ rfl;simp only[go_sem] at b3;clear T S;revert h;refine bS fun b4 b5 h=>?_;try apply ag _
  refine ⟨_,bL hJ fun F G=>IG u0 (d.mono (cm G)) f.aY R b5,cp ?_⟩;revert h;refine bS fun i ca h=>?_;try apply ag _
  refine ⟨_,bL hJ fun F G=>I2 u0 (d.mono (cm G)) b4 ca,cp ?_⟩;try apply ag _
  refine aG hJ fun cb=>?_;apply aS hJ;revert h;refine bS fun cd cf h=>?_;cases h;obtain ⟨cl,U⟩:=dQ cf;apply ag _;refine aA fun V cy W=>?_;have cS:=aZ.cons W cb;try simp only[av] at W
  try apply ag _
  refine eD (r:=dG) (l:=c) (x:=(⟨f.aY,i⟩:bM)) (cs:=#[.int .i64 f.aY,.bool i]) (e2:=86) [(V,.cells #[.int .i64 f.aY,.bool i] 86),(E,.cells #[.int .i64 f.aY,.bool i] 86),(o,bk u0 s1 a b (sl d41 c g)),(n,bz 29),(k,bk u0 s1 a b (sl (some C) u0.told j))] [] O cS cl rfl aN cy rfl rfl eG eG iH iJ rfl iI aB aB (fun e0 X H c0 da e1=>?_);simp only[bw] at da;subst c0;rw[<-U] at H;clear U;obtain ⟨d117,db,rfl,dd⟩:=H.len;refine ⟨⟨ro,(V,.cells #[.int .i64 f.aY,.bool i] 86)::(E,.cells #[.int .i64 f.aY,.bool i] 86)::(o,bk u0 s1 a b (sl d41 c g))::(n,bz 29)::(k,bk u0 s1 a b (sl (some C) u0.told j))::X⟩,Le.refl _,?_⟩;apply aO;try apply ag _
  refine aG hJ fun e3=>?_;apply aM hJ _;try apply ag _
  refine ⟨z,Nat.lt_succ_self _,_,Le.sub (List.Sublist.cons _ (List.Sublist.cons _ (List.Sublist.refl _))),d117,db,X,(IntKind.i64.wrap (s+1)),cd,B,rfl,H,dd,?_⟩;simp only[*,go_sem]
 cases h;apply b6;simp only[go_sem];obtain rfl:=sI B;clear B;have h:=a6;dsimp only[aJ] at h;cases h;apply ah hJ;refine aG hJ fun fa=>?_;apply aM hJ _;refine aG hJ fun Y=>?_;obtain ⟨fb,Z,df,ab,dk⟩:=O.fj [(o,bk u0 s1 a b (sl d41 c g)),(n,bk u0 s1 a b (sl d41 c g)),(k,bk u0 s1 a b (sl d24 u0.told j))] [] Y (aK.cons a3 (aK.cons a0 (aK.cons ao (aK.nil _))));clear Y;refine cO hJ dk ?_;obtain ⟨ff,fg,-⟩:=ab.op;replace d:=d.mono Z;simp only[bF] at df;refine cg ?_;exact ⟨_,Z,Le.sub (List.nil_sublist _),_,_,_,_,rfl,⟨d.e,d.p,d.y,ab⟩⟩
end Go.Proofs.YtbpddfapodiemaaGreatDoor
end
section
namespace Go.Sep
open Go Go.Conc
variable {P:Program}
theorem I9 {ro:Addr->Option Value}{pre bC:List (Nat×Obj)}{argTypes:Array TypeId}{t e ty d:TypeId}{R:Value->af->Prop}{b c:Nat}{ad:Option Addr}{l:List Int}{a n1 n2:Int}(ht:argTypes[0]?=some t)(hu:P.underlying t=some (.slice e))(hs:cj P e=some 1)
  (q:aH rI ro (.slice ad l.length c) l) (r:av pre b)
  (h:R (.int .i64 ((Nat.min l.length 3:Nat):Int)) ⟨ro,pre++((b,.cells #[.int .i64 (l.getD 0 a),.int .i64 (l.getD 1 n1),.int .i64 (l.getD 2 n2)] d)::bC)⟩):
  e7 P (Builtin.copy_ argTypes ty #[.slice (some ⟨b,0,none⟩) 3 3,.slice ad l.length c]) R ⟨ro,pre++((b,.cells #[.int .i64 a,.int .i64 n1,.int .i64 n2] d)::bC)⟩:=by
 unfold e7
 have key:∀i x,l[i]?=some x->∃p,ad=some p/\ro (p.add i)=some (.int .i64 x):=by
  obtain ⟨D,E,s,_,_,u⟩:=q
  cases s
  intro i x hi
  obtain ⟨p,cs,f,g,w⟩:=u i x hi
  obtain rfl:cs=[.int .i64 x]:=g
  refine ⟨p,f,?_⟩
  have:=w 0 _ rfl
  have e1:(p.add (i*rI.n)).add 0=p.add i:=by
   show p.add (i*1)=_
   rw[Nat.mul_one]
  rwa [e1] at this
 have st:∀(vs:List Value),(∀v∈vs,bP v=true)->vs.length<=3->(⟨ro,pre++((b,.cells #[.int .i64 a,.int .i64 n1,.int .i64 n2] d)::bC)⟩:af).jy ⟨b,0,none⟩ 0 vs=some ⟨ro,pre++((b,.cells (cZ #[.int .i64 a,.int .i64 n1,.int .i64 n2] 0 vs) d)::bC)⟩:=by
  intro vs j hlen
  have:=tB (ro:=ro) (bC:=bC) (e:=d) r 0 vs #[.int .i64 a,.int .i64 n1,.int .i64 n2] 0 j (by simpa using hlen)
  simpa using this
 simp only[Builtin.copy_,ht,List.getElem?_toArray,List.getElem?_cons_zero,List.getElem?_cons_succ,bH,dP,hu,eY,hs,bT,Builtin.lenOf]
 have ld:∀(k:Nat) (vs:List Value) (Q:Array Value->af->Prop) (F:af),F.ro=ro->k=Nat.min l.length 3->vs=(l.take 3).map (fun x=>Value.int .i64 x)->Q vs.toArray F->bu P (Builtin.firstCells 1 k (.slice ad l.length c)) Q F:=by
  intro k vs Q F A B m o
  cases ad with
  |none=>
   cases l with
   |nil=>subst m;exact o
   |cons x l=>obtain ⟨p,f,_⟩:=key 0 x rfl;cases f
  |some p=>
   have C:∀i x,l[i]?=some x->F.get (p.add i)=some (.int .i64 x):=by
    intro i x hi
    obtain ⟨G,f,g⟩:=key i x hi
    cases f
    simp only[af.get,A,g]
   show bu P (loadCells p (k*1)) Q F
   refine AT p (vs:=vs) ?_ o
   subst B m
   match l,C with
   |[],_=>rfl
   |[x],k=>simp[af.dJ,k 0 x rfl]
   |[x,y],k=>simp[af.dJ,k 0 x rfl,k 1 y rfl]
   |x::y::z::l,k=>simp[af.dJ,k 0 x rfl,k 1 y rfl,k 2 z rfl,show Nat.min (l.length+1+1+1) 3=3 from Nat.min_eq_right aa]
 refine ld _ _ _ _ rfl rfl rfl ?_
 refine qw _ _ 0 _ _ (st _ (fun v j=>?_) ?_) ?_
 .obtain ⟨x,_,rfl⟩:=List.mem_map.1 (show v∈(l.take 3).map (fun x=>Value.int .i64 x) from j);rfl
 .simp;omega
 .simp only[bT,goInt]
  have e1:cZ #[.int .i64 a,.int .i64 n1,.int .i64 n2] 0 ((l.take 3).map (fun x=>Value.int .i64 x))=#[.int .i64 (l.getD 0 a),.int .i64 (l.getD 1 n1),.int .i64 (l.getD 2 n2)]:=by
   match l with
   |[]=>rfl
   |[x]=>rfl
   |[x,y]=>rfl
   |x::y::z::l=>rfl
  rw[e1]
  exact h
end Go.Sep
end

/- A part of the proof of a row and its tied card: VP2. -/
import Derived.Test.YtjepffnffjdloaaGreatDoorQ10
import Derived.Test.YtjepffnffjdloaaGreatDoorVP1
set_option linter.all false
section
namespace Go.Proofs.YtjepffnffjdloaaGreatDoor
open Go Go.Sep Go.Proofs
set_option maxRecDepth 100000
set_option maxHeartbeats 4000000
def uK (u0:ak)(q:Int)(r:Int)(s:Int)(t:Int)(u:Int):Option Bool:=
 ah (kO u0) fun v=>cond (!v) (ah (eH) fun w=>some w) (ah (oQ u0 q r) fun a=>cond (!a.2) (ah (eH) fun x=>some x) (ah (oF s t) fun b=>ah (bw u0.aj 0) fun g=>ah (bw u0.aj (IntKind.i64.wrap ((u0.aj.length:Int) - 1))) fun y=>ah (eO (IntKind.i64.wrap u) (IntKind.i64.wrap ((IntKind.i64.wrap (y.an - g.an))+1))) fun l=>ah (lK u0 (IntKind.i64.wrap (g.an+l))) fun h=>ah (lK a.1 (IntKind.i64.wrap (g.an+l))) fun i=>ah (lM u0 b) fun j=>ah (lM a.1 b) fun k=>ah (kI u0 b) fun c=>ah (kI a.1 b) fun d=>ah (lN u0 b) fun e=>ah (lN a.1 b) fun f=>cond ((h.2 != 0)) (some false) (cond ((i.2 != 0)) (some false) (cond ((j.2 != 0)) (some false) (cond ((k.2 != 0)) (some false) (cond ((c.2.2 != 0)) (some false) (cond ((d.2.2 != 0)) (some false) (cond ((e.2.2 != 0)) (some false) (cond ((f.2.2 != 0)) (some false) (cond (!((h.1.num==i.1.num)&&(h.1.den==i.1.den))) (some false) (cond (!((j.1.num==k.1.num)&&(j.1.den==k.1.den))) (some false) (cond (!((c.1.num==d.1.num)&&(c.1.den==d.1.den))) (some false) (cond (!(c.2.1==d.2.1)) (some false) (cond (!((e.1.num==f.1.num)&&(e.1.den==f.1.den))) (some false) (cond (!(e.2.1==f.2.1)) (some false) (ah (fy u0) fun m=>ah (fy a.1) fun n=>ah (jg u0) fun o=>ah (jg a.1) fun p=>cond ((m.2==0)) (cond ((n.2==0)) (cond ((m.1==n.1)) (cond ((o.2==p.2)) (cond ((o.1==p.1)) (ah (eH) fun z=>some z) (some false)) (some false)) (some false)) (some false)) (some false)))))))))))))))))
set_option maxHeartbeats 40000000 in
theorem DJ {u:ak}{a z:bH}(b:u.aj[0]?=some a)(c:u.aj[u.aj.length - 1]?=some z)(d:1<=u.aj.length/\u.aj.length<=20)(p:Int):eP u p=some (bJ p a.an z.an):=by
 have hw:IntKind.i64.wrap ((u.aj.length:Int) - 1)=((u.aj.length - 1:Nat):Int):=by rw[bR (by omega)];omega
 unfold eP
 have e0:bw u.aj 0=some a:=b
 rw[hw,e0,oI c,jQ]
 simp only[ah,eu]
theorem DK {α:Type}{l:List α}{lo hi:Nat}(h:lo<=hi/\hi<=l.length):eA l (lo:Int) (hi:Int)=some ((l.take hi).drop lo):=by
 unfold eA
 rw[if_pos (by omega)]
 simp
theorem DL {hp hq ht n d:Int}(hd:0<d)(hn:0<n/\n<d)(e:(ht - hp)*d=(hq - hp)*n)(p0:0<=hp/\hp<=60)(a:0<=hq/\hq<=60):0<=ht/\ht<=60:=by
 have e2:ht*d=hp*(d - n)+hq*n:=by grind
 have b:=Int.mul_nonneg p0.1 (show 0<=d - n by omega)
 have f:=Int.mul_nonneg a.1 (show 0<=n by omega)
 have g:=Int.mul_le_mul_of_nonneg_right p0.2 (show 0<=d - n by omega)
 have h:=Int.mul_le_mul_of_nonneg_right a.2 (show 0<=n by omega)
 constructor
 ·rcases Int.lt_or_le ht 0 with c|c
  ·have:=Int.mul_neg_of_neg_of_pos c hd
   omega
  ·exact c
 ·rcases Int.lt_or_le 60 ht with c|c
  ·have:=Int.mul_lt_mul_of_pos_right c hd
   grind
  ·exact c
section
variable {u o : ak} {i : Nat} {p q t : bH} {n d : Int} (F : Fit u) (K : Pt u o i p q t n d)
include F K
theorem DN:o.aj.length=u.aj.length+1:=by
 have h1:i+1<u.aj.length:=(List.getElem?_eq_some_iff.1 K.hq).1
 have h2:=K.up (u.aj.length - 1) (by omega)
 rw[List.getElem?_eq_getElem (show u.aj.length - 1<u.aj.length by omega)] at h2
 have h3:=(List.getElem?_eq_some_iff.1 h2).1
 have a:=K.up u.aj.length (by omega)
 rw[List.getElem?_eq_none (Nat.le_refl _)] at a
 have b:=List.getElem?_eq_none_iff.1 a
 omega
theorem LJ (k:Int):eP o k=eP u k:=by
 have b:=DN F K
 have he:=F.aj
 obtain ⟨a,z,c,d,hq,-⟩:=tD u F k
 have h1:i+1<u.aj.length:=(List.getElem?_eq_some_iff.1 K.hq).1
 rw[hq]
 refine DJ (by rw[K.low 0 (by omega)];exact c) ?_ (by omega) k
 rw[b,show u.aj.length+1 - 1=u.aj.length - 1+1 by omega,K.up _ (by omega)]
 exact d
theorem LK (h1:o.bD=u.bD)(h2:o.aR=u.aR)(h3:o.props=u.props)(d:o.aE=u.aE)(e:o.told=u.told)(g:u.aj.length<5):Fit o:=by
 have hn:=DN F K
 have kn:=K.hn
 have kd:=K.hd
 have kf:=K.an
 have fp:=F.dn _ _ K.hp
 have fq:=F.dn _ _ K.hq
 have he:=F.aj
 have f:(2<=o.aZ/\o.aZ<=60):=by rw[K.aZ];exact F.aZ
 have ht:=DL (ht:=t.high) (by omega) kn K.high fp.2 fq.2
 refine ⟨f,by rw[h1];exact F.bD,by rw[h2];exact F.den,by rw[h2];exact F.num,by omega,fun j x a=>?_,fun j x y a b=>?_,by rw[h3];exact F.props,fun j x a=>?_,by rw[d];exact F.aE,fun j x a=>F.aQ j x (by rw[<-d];exact a),by rw[e];exact F.told,fun j x a=>by rw[d];exact F.m8 j x (by rw[<-e];exact a)⟩
 ·rw[K.aZ]
  rcases Nat.lt_trichotomy j (i+1) with c|c|c
  ·rw[K.low j (by omega)] at a
   exact F.dn j x a
  ·subst c
   rw[K.fA] at a
   cases a
   exact ⟨⟨by omega,by omega⟩,ht⟩
  ·obtain ⟨k,rfl⟩:∃k,j=k+1:=⟨j - 1,by omega⟩
   rw[K.up k (by omega)] at a
   exact F.dn k x a
 ·rcases Nat.lt_trichotomy j i with c|c|c
  ·rw[K.low j (by omega)] at a
   rw[K.low (j+1) (by omega)] at b
   exact F.kS j x y a b
  ·subst c
   rw[K.low j (by omega),K.hp] at a
   rw[K.fA] at b
   cases a;cases b
   omega
  ·by_cases c2:j=i+1
   ·subst c2
    rw[K.fA] at a
    rw[K.up (i+1) (by omega),K.hq] at b
    cases a;cases b
    omega
   ·obtain ⟨k,rfl⟩:∃k,j=k+1:=⟨j - 1,by omega⟩
    rw[K.up k (by omega)] at a
    rw[K.up (k+1) (by omega)] at b
    exact F.kS k x y a b
 ·rw[h3] at a
  rw[LJ F K]
  exact F.prop j x a
end
theorem LL {u:ak}(F:Fit u)(h:dM u=some 0){a b:Int}(c:0<=a/\a<=255)(hb:0<=b/\b<=255):oQ u a b=some (u,false)\/
  ∃o i p q t n d,oQ u a b=some (o,true)/\Pt u o i p q t n d/\o.bD=u.bD/\o.aR=u.aR/\o.props=u.props/\o.aE=u.aE/\o.told=u.told/\Fit o/\dM o=some 0:=by
 have E:=F.aj
 have H:=F.aZ
 obtain ⟨i,hi⟩:∃i:Nat,a.tmod ((u.aj.length:Int) - 1)=(i:Int):=⟨(a.tmod ((u.aj.length:Int) - 1)).toNat,by have:=nC (a:=a) (b:=(u.aj.length:Int) - 1) c.1 (by omega);omega⟩
 have k1:=nC (a:=a) (b:=(u.aj.length:Int) - 1) c.1 (by omega)
 rw[hi] at k1
 have e1:eO (IntKind.i64.wrap a) (IntKind.i64.wrap ((u.aj.length:Int) - 1))=some (i:Int):=by rw[bR (n:=a) (by omega),bR (by omega),nB (by omega),hi]
 have hp:u.aj[i]?=some (u.aj[i]'(by omega)):=List.getElem?_eq_getElem _
 have hq:u.aj[i+1]?=some (u.aj[i+1]'(by omega)):=List.getElem?_eq_getElem _
 generalize u.aj[i]'(by omega)=p at hp
 generalize u.aj[i+1]'(by omega)=q at hq
 have fp:=F.dn _ _ hp
 have fq:=F.dn _ _ hq
 have I:=F.kS _ _ _ hp hq
 have w1:IntKind.i64.wrap ((i:Int)+1)=((i+1:Nat):Int):=by rw[bR (by omega)];rfl
 have w2:IntKind.i64.wrap (q.an - p.an)=q.an - p.an:=bR (by omega)
 have w3:IntKind.i64.wrap (q.an - p.an - 1)=q.an - p.an - 1:=bR (by omega)
 have w4:IntKind.i64.wrap (q.high - p.high)=q.high - p.high:=bR (by omega)
 obtain ⟨m,hm,J,e⟩:∃m,eO (IntKind.i64.wrap b) (if 1<q.an - p.an - 1 then q.an - p.an - 1 else 1)=some m/\0<=m/\(2<=q.an - p.an->1+m<q.an - p.an)/\m<=60:=by
  rw[bR (n:=b) (by omega)]
  have f:0<(if 1<q.an - p.an - 1 then q.an - p.an - 1 else 1):=by split<;>omega
  have r:=nC (a:=b) (b:=if 1<q.an - p.an - 1 then q.an - p.an - 1 else 1) hb.1 f
  refine ⟨_,nB f,r.1,fun hd=>?_,?_⟩
  ·generalize b.tmod _=y at r
   split at r<;>omega
  ·generalize b.tmod _=y at r
   split at r<;>omega
 have g:IntKind.i64.wrap (1+m)=1+m:=bR (by omega)
 have k:IntKind.i64.wrap ((q.high - p.high)*(1+m))=(q.high - p.high)*(1+m):=by
  have:=cJ (x:=q.high - p.high) (y:=1+m) (A:=60) (B:=61) (by omega) (by omega)
  exact bR (by omega)
 unfold oQ
 simp only[e1,ah,gy hp,w1,gy hq,w2,w3,hm,w4,g,k]
 by_cases c1:5<=u.aj.length
 ·left
  rw[decide_eq_true (show (5:Int)<=(u.aj.length:Int) by omega)]
  rfl
 rw[decide_eq_false (show ¬(5:Int)<=(u.aj.length:Int) by omega)]
 by_cases c2:q.an - p.an<2
 ·left
  rw[decide_eq_true c2]
  rfl
 rw[decide_eq_false c2,nB (show 0<q.an - p.an by omega)]
 simp only[cond_false]
 by_cases c3:((q.high - p.high)*(1+m)).tmod (q.an - p.an)=0
 ·right
  have s:0<q.an - p.an:=by omega
  have v:(q.an - p.an) ∣ (q.high - p.high)*(1+m):=Int.dvd_of_tmod_eq_zero c3
  have hmul:((q.high - p.high)*(1+m)).tdiv (q.an - p.an)*(q.an - p.an)=(q.high - p.high)*(1+m):=Int.tdiv_mul_cancel v
  generalize w:((q.high - p.high)*(1+m)).tdiv (q.an - p.an)=y at hmul
  have L:=DL (ht:=p.high+y) (n:=1+m) (d:=q.an - p.an) s ⟨by omega,e.1 (by omega)⟩ (by rw[<-hmul];grind) fp.2 fq.2
  have z:IntKind.i64.wrap (p.an+(1+m))=p.an+(1+m):=bR (by omega)
  have C:IntKind.i64.wrap (p.high+y)=p.high+y:=bR (by omega)
  have eq:fK ((q.high - p.high)*(1+m)) (q.an - p.an)=some y:=by
   unfold fK
   rw[if_neg (by omega),w,bR (by omega)]
  have s1:eA u.aj 0 ((i+1:Nat):Int)=some (u.aj.take (i+1)):=by
   have:=DK (l:=u.aj) (lo:=0) (hi:=i+1) (by omega)
   simpa using this
  have s2:eA u.aj ((i+1:Nat):Int) (u.aj.length:Int)=some (u.aj.drop (i+1)):=by
   have:=DK (l:=u.aj) (lo:=i+1) (hi:=u.aj.length) (by omega)
   rwa [List.take_length] at this
  have tl:(u.aj.take (i+1)).length=i+1:=by rw[List.length_take];omega
  have dl:(u.aj.drop (i+1)).length=u.aj.length - (i+1):=List.length_drop
  have K:Pt u ⟨u.aZ,u.bD,u.aR,u.aj.take (i+1)++[⟨p.an+(1+m),p.high+y⟩]++u.aj.drop (i+1),u.props,u.aE,u.told⟩ i p q ⟨p.an+(1+m),p.high+y⟩ (1+m) (q.an - p.an):=
   ⟨rfl,hp,hq,rfl,⟨by omega,e.1 (by omega)⟩,rfl,by show (p.high+y - p.high)*_=_;rw[<-hmul];grind,
    fun j D=>by
     show (u.aj.take (i+1)++[(⟨p.an+(1+m),p.high+y⟩:bH)]++u.aj.drop (i+1))[j]?=_
     rw[List.append_assoc,List.getElem?_append_left (by omega),List.getElem?_take_of_lt (by omega)],
    by
     show (u.aj.take (i+1)++[(⟨p.an+(1+m),p.high+y⟩:bH)]++u.aj.drop (i+1))[i+1]?=_
     rw[List.append_assoc,List.getElem?_append_right (by omega),tl,Nat.sub_self]
     rfl,
    fun j D=>by
     show (u.aj.take (i+1)++[(⟨p.an+(1+m),p.high+y⟩:bH)]++u.aj.drop (i+1))[j+1]?=_
     rw[List.getElem?_append_right (by simp only[List.length_append,tl,List.length_singleton];omega),List.getElem?_drop]
     congr 1
     simp only[List.length_append,tl,List.length_singleton]
     omega⟩
  have G:=LK F K rfl rfl rfl rfl rfl (by omega)
  refine ⟨_,i,p,q,_,_,_,?_,K,rfl,rfl,rfl,rfl,rfl,G,xW (show gV u=0 from xV h) G⟩
  rw[c3]
  simp only[bne_self_eq_false,cond_false,s1,ah,iE (l:=([]:List bH)) (xs:=u.aj.take (i+1)) (by simp only[List.length_nil,tl];omega),List.nil_append,eq,z,C,iE (l:=u.aj.take (i+1)) (xs:=[(⟨p.an+(1+m),p.high+y⟩:bH)]) (by simp only[List.length_singleton,tl];omega),s2,
   iE (l:=u.aj.take (i+1)++[(⟨p.an+(1+m),p.high+y⟩:bH)]) (xs:=u.aj.drop (i+1)) (by simp only[List.length_append,List.length_singleton,tl,dl];omega)]
 ·left
  rw[show (((q.high - p.high)*(1+m)).tmod (q.an - p.an) != 0)=true by simpa using c3]
  rfl
theorem LM (u:ak)(a:Int)(B:0<=a/\a<=255)(b:Int)(hb:0<=b/\b<=255)(c:Int)(C:0<=c/\c<=255)(d:Int)(hd:0<=d/\d<=255)(e:Int)(he:0<=e/\e<=255):uK u a b c d e=some true:=by
 unfold uK
 rcases uG u with k|⟨k,L,h,F⟩
 ·simp only[k,ah,Bool.not_false,cond_true,gF]
 rcases LL F h B hb with q|⟨o,i,p,R,t,n,S,q,K,h1,h2,h3,D,E,G,f⟩
 ·simp only[k,ah,Bool.not_true,cond_false,q,Bool.not_false,cond_true,gF]
 obtain ⟨s,es,hs⟩:=DD C hd
 obtain ⟨x,z,j,l,H,I,r,J,N,k1,m⟩:=DF F he
 have O:eP u (x.an+r)=some true:=by rw[DJ j l (by have:=F.aj;omega),lX k1 m]
 obtain ⟨g,P,Q⟩:=CA F G K O
 obtain ⟨e0,e1⟩:=Cz F G K
 have M:=I2 F G K h1 h2 h3 D E
 have v:=yf G f hs
 have w:=Ct G f hs
 have y:=Cu G f hs
 obtain ⟨A,gs⟩:=IL F G M h f
 rw[h1,M.qN s hs] at v
 rw[Cq F G M,h3] at w
 rw[Cr F G M hs,h2] at y
 rw[tU F h] at A
 rw[lW F h] at gs
 simp only[k,ah,Bool.not_true,cond_false,q,es,H,I,J,N,yg F h j l k1 m P,yg G f (e0.trans j) (e1.trans l) k1 m Q,yf F h hs,v,Ct F h hs,w,Cu F h hs,y,bne_self_eq_false,beq_self_eq_true,Bool.and_self,lW F h,gs,tU F h,A,cond_true,gF]
theorem LN {ro:Addr->Option Value}(a:cU ro)(u0:ak){s1 o p q:Value}(b:bI ro u0 s1 o p q)(g:Int)(i:Int)(j:Int)(k:Int)(s:Int){r:Bool}(M:r=true)(h:uK u0 g i j k s=some r):fY Tryz.prog 4 #[bv u0 s1 o p q,.int .u8 g,.int .u8 i,.int .u8 j,.int .u8 k,.int .u8 s] ⟨ro,[]⟩ (fun v _=>v= .bool r):=by
 obtain ⟨d3,c4,rfl,eQ,eS,-⟩:=id b.e
 subst M
 unfold uK at h
 have N:=b.oc;simp only[bC] at N
 refine fY.go Tryz.func4 rfl Tryz.ntmps4 Tryz.results4 (by simp) (by kernel_rfl) fun Φ hJ A O hd hs=>?_
 have P:=hs 0
 have k1:=hs 1
 have Q:=hs 2
 have R:=hs 3
 have S:=hs 4
 have T:=hs 5
 clear hs
 refine aa hJ (ag hJ ?_)
 try simp (maxSteps:=10000000) only[*,go_sem]
 refine ax fun e0 e1 U=>?_;try simp only[au] at U
 try simp (maxSteps:=10000000) only[*,go_sem]
 refine aa hJ (aa hJ (ag hJ ?_))
 revert h;refine bS fun e2 V h=>?_
 try simp (maxSteps:=10000000) only[*,go_sem]
 refine aM hJ _ (s9 u0 (b.mono aH) V) (aD ?_)
 try simp (maxSteps:=10000000) only[*,go_sem]
 revert h;refine cS (fun t h=>?_) fun t h=>?_
 ·try simp only[Int.ofNat_lt] at t
  refine bK hJ (by simp (maxSteps:=10000000) only[*,go_sem]) ?_
  refine aa hJ (ag hJ ?_)
  revert h;refine bS fun e3 W h=>?_
  obtain rfl:=sI h
  try simp (maxSteps:=10000000) only[*,go_sem]
  refine e6 _ (e9 a W) (aD ?_)
  try simp (maxSteps:=10000000) only[*,go_sem]
  refine ay ?_
  try simp only[*,go_sem]
 refine bL hJ (by simp (maxSteps:=10000000) only[*,go_sem]) ?_
 refine aF hJ (aa hJ ?_)
 refine ag hJ ?_
 revert h;refine bS fun d X h=>?_
 try simp (maxSteps:=10000000) only[*,go_sem]
 refine bV hJ _ (IV u0 b g i X) fun v fa u Y Z=>?_
 obtain ⟨fb,ff,fg,fi,rfl,c⟩:=Z
 have ab:=c.oc;simp only[bC] at ab
 replace b:=b.mono u
 replace a:=a.mono u
 simp only[bf] at Y
 refine aD ?_
 try simp (maxSteps:=10000000) only[*,go_sem]
 refine ax fun fl fp ad=>?_;try simp only[au] at ad
 try simp (maxSteps:=10000000) only[*,go_sem]
 refine aa hJ (aa hJ (ag hJ ?_))
 try simp (maxSteps:=10000000) only[*,go_sem]
 revert h;refine cS (fun w h=>?_) fun w h=>?_
 ·try simp only[Int.ofNat_lt] at w
  refine bK hJ (by simp (maxSteps:=10000000) only[*,go_sem]) ?_
  refine aa hJ (ag hJ ?_)
  revert h;refine bS fun fq ae h=>?_
  obtain rfl:=sI h
  try simp (maxSteps:=10000000) only[*,go_sem]
  refine e6 _ (e9 a ae) (aD ?_)
  try simp (maxSteps:=10000000) only[*,go_sem]
  refine ay ?_
  try simp only[*,go_sem]
 refine bL hJ (by simp (maxSteps:=10000000) only[*,go_sem]) ?_
 refine aF hJ (aa hJ ?_)
 refine cY hJ mixed 28 2 (by simp (maxSteps:=10000000) only[*,go_sem]) (by kernel_rfl) ?_
 revert h;refine bS fun f al h=>?_
 try simp (maxSteps:=10000000) only[*,go_sem]
 refine ⟨_,bE hJ fun F fr=>Bm j k al,b9 ?_⟩
 revert h;refine bS fun l ao h=>?_
 obtain ⟨fs,ft,x⟩:=cw ao
 obtain ⟨fu,ar,a0,a2,m⟩:=b.e.el _ _ x
 obtain rfl:ar=l.cells:=a2
 cases a0
 have a3:=m 0 _ rfl;simp only[go_sem] at a3
 have a4:=m 1 _ rfl;simp only[go_sem] at a4
 clear m x
 revert h;refine bS fun a5 a6 h=>?_
 obtain ⟨fv,fw,y⟩:=cw a6
 obtain ⟨fx,a7,a8,a9,n⟩:=b.e.el _ _ y
 obtain rfl:a7=a5.cells:=a9
 cases a8
 have ba:=n 0 _ rfl;simp only[go_sem] at ba
 have bb:=n 1 _ rfl;simp only[go_sem] at bb
 clear n y
 revert h;refine bS fun z B h=>?_
 obtain ⟨fP,fQ⟩:=iY B
 clear B
 try simp (maxSteps:=10000000) only[*,go_sem]
 refine ax fun fS fU bc=>?_;try simp only[au] at bc
 try simp (maxSteps:=10000000) only[*,go_sem]
 refine aa hJ ?_
 refine eC [6,12,13,15,16] fun gg C D E=>?_
 simp only[*,go_sem] at C D E
 clear O hd P k1 Q R S T
 refine ag hJ ?_
 revert h;refine bS fun gl bd h=>?_
 try simp (maxSteps:=10000000) only[*,go_sem]
 refine aM hJ _ (sN (a.mono aH) u0 (b.mono aH) (IntKind.i64.wrap (l.an+z)) bd) (aD ?_)
 try simp (maxSteps:=10000000) only[*,go_sem]
 refine ax fun gn gp bj=>?_;try simp only[au] at bj
 try simp (maxSteps:=10000000) only[*,go_sem]
 refine aa hJ (ag hJ ?_)
 revert h;refine bS fun gB bk h=>?_
 try simp (maxSteps:=10000000) only[*,go_sem]
 refine aM hJ _ (sN (a.mono aH) d.1 (c.mono aH) (IntKind.i64.wrap (l.an+z)) bk) (aD ?_)
 try simp (maxSteps:=10000000) only[*,go_sem]
 refine ax fun gC gM bl=>?_;try simp only[au] at bl
 try simp (maxSteps:=10000000) only[*,go_sem]
 refine aa hJ (ag hJ ?_)
 revert h;refine bS fun gT bm h=>?_
 try simp (maxSteps:=10000000) only[*,go_sem]
 refine aM hJ _ (sO (a.mono aH) u0 (b.mono aH) f bm) (aD ?_)
 try simp (maxSteps:=10000000) only[*,go_sem]
 refine ax fun gV g0 bo=>?_;try simp only[au] at bo
 try simp (maxSteps:=10000000) only[*,go_sem]
 refine aa hJ (ag hJ ?_)
 revert h;refine bS fun g1 br h=>?_
 try simp (maxSteps:=10000000) only[*,go_sem]
 refine aM hJ _ (sO (a.mono aH) d.1 (c.mono aH) f br) (aD ?_)
 try simp (maxSteps:=10000000) only[*,go_sem]
 refine ax fun g2 g3 bs=>?_;try simp only[au] at bs
 try simp (maxSteps:=10000000) only[*,go_sem]
 refine aa hJ ?_
 refine eC [6,12,13,15,17,18,19,20,21,22,23,24] fun g4 G H I=>?_
 simp only[*,go_sem] at G H I
 clear C D E
 refine ag hJ ?_
 revert h;refine bS fun ha bz h=>?_
 try simp (maxSteps:=10000000) only[*,go_sem]
 refine aM hJ _ (wz (a.mono aH) u0 (b.mono aH) f bz) (aD ?_)
 try simp (maxSteps:=10000000) only[*,go_sem]
 refine ax fun hc hf b0=>?_;try simp only[au] at b0
 try simp (maxSteps:=10000000) only[*,go_sem]
 refine aa hJ (ag hJ ?_)
 revert h;refine bS fun hg b1 h=>?_
 try simp (maxSteps:=10000000) only[*,go_sem]
 refine aM hJ _ (wz (a.mono aH) d.1 (c.mono aH) f b1) (aD ?_)
 try simp (maxSteps:=10000000) only[*,go_sem]
 refine ax fun hh hi b2=>?_;try simp only[au] at b2
 try simp (maxSteps:=10000000) only[*,go_sem]
 refine aa hJ (ag hJ ?_)
 revert h;refine bS fun hj b3 h=>?_
 try simp (maxSteps:=10000000) only[*,go_sem]
 refine aM hJ _ (sP (a.mono aH) u0 (b.mono aH) f b3) (aD ?_)
 try simp (maxSteps:=10000000) only[*,go_sem]
 refine ax fun hk hl b4=>?_;try simp only[au] at b4
 try simp (maxSteps:=10000000) only[*,go_sem]
 refine aa hJ ?_
 refine eC [6,12,13,15,17,18,19,20,21,22,23,24,25,26,27,28,29,30,31,32,33] fun hn J K L=>?_
 simp only[*,go_sem] at J K L
 clear G H I
 refine ag hJ ?_
 revert h;refine bS fun ho b5 h=>?_
 try simp (maxSteps:=10000000) only[*,go_sem]
 refine aM hJ _ (sP (a.mono aH) d.1 (c.mono aH) f b5) (aD ?_)
 try simp (maxSteps:=10000000) only[*,go_sem]
 refine ax fun hp hq ca=>?_;try simp only[au] at ca
 try simp (maxSteps:=10000000) only[*,go_sem]
 refine aa hJ (aa hJ (ag hJ ?_))
 revert h;refine cS (fun cb h=>?_) fun cb h=>?_
 ·cases h
 revert h;refine cS (fun cd h=>?_) fun cd h=>?_
 ·cases h
 revert h;refine cS (fun cf h=>?_) fun cf h=>?_
 ·cases h
 revert h;refine cS (fun cl h=>?_) fun cl h=>?_
 ·cases h
 revert h;refine cS (fun cy h=>?_) fun cy h=>?_
 ·cases h
 revert h;refine cS (fun c0 h=>?_) fun c0 h=>?_
 ·cases h
 revert h;refine cS (fun da h=>?_) fun da h=>?_
 ·cases h
 revert h;refine cS (fun db h=>?_) fun db h=>?_
 ·cases h
 revert h;refine cS (fun dd h=>?_) fun dd h=>?_
 ·cases h
 revert h;refine cS (fun df h=>?_) fun df h=>?_
 ·cases h
 revert h;refine cS (fun dk h=>?_) fun dk h=>?_
 ·cases h
 revert h;refine cS (fun dp h=>?_) fun dp h=>?_
 ·cases h
 revert h;refine cS (fun dq h=>?_) fun dq h=>?_
 ·cases h
 try simp (maxSteps:=10000000) only[*,go_sem]
 revert h;refine cS (fun ds h=>?_) fun ds h=>?_
 ·cases h
 refine bL hJ (by simp (maxSteps:=10000000) only[*,go_sem]) ?_
 refine aF hJ (aa hJ ?_)
 refine eC [6,12,13,18,20,22,24] fun hr dt du dv=>?_
 simp only[*,go_sem] at dt du dv
 clear J K L
 refine ag hJ ?_
 revert h;refine bS fun ht dC h=>?_
 try simp (maxSteps:=10000000) only[*,go_sem]
 refine aM hJ _ (jN (a.mono aH) u0 (b.mono aH) dC) (aD ?_)
 try simp (maxSteps:=10000000) only[*,go_sem]
 refine aa hJ (ag hJ ?_)
 revert h;refine bS fun hv dE h=>?_
 try simp (maxSteps:=10000000) only[*,go_sem]
 refine aM hJ _ (jN (a.mono aH) d.1 (c.mono aH) dE) (aD ?_)
 try simp (maxSteps:=10000000) only[*,go_sem]
 refine aa hJ (ag hJ ?_)
 revert h;refine bS fun hx dT h=>?_
 try simp (maxSteps:=10000000) only[*,go_sem]
 refine aM hJ _ (ou (a.mono aH) u0 (b.mono aH) dT) (aD ?_)
 try simp (maxSteps:=10000000) only[*,go_sem]
 refine aa hJ (ag hJ ?_)
 revert h;refine bS fun hy ea h=>?_
 try simp (maxSteps:=10000000) only[*,go_sem]
 refine aM hJ _ (ou (a.mono aH) d.1 (c.mono aH) ea) (aD ?_)
 try simp (maxSteps:=10000000) only[*,go_sem]
 refine aa hJ (ag hJ ?_)
 revert h;refine cS (fun eb h=>?_) fun eb h=>?_
 ·revert h;refine cS (fun ec h=>?_) fun ec h=>?_
  ·revert h;refine cS (fun ed h=>?_) fun ed h=>?_
   ·revert h;refine cS (fun eh h=>?_) fun eh h=>?_
    ·revert h;refine cS (fun et h=>?_) fun et h=>?_
     ·revert h;refine bS fun hz ev h=>?_
      obtain rfl:=sI h
      try simp (maxSteps:=10000000) only[*,go_sem]
      refine e6 _ (e9 a ev) (aD ?_)
      try simp (maxSteps:=10000000) only[*,go_sem]
      refine ay ?_
      try simp only[*,go_sem]
     cases h
    cases h
   cases h
  cases h
 cases h
end Go.Proofs.YtjepffnffjdloaaGreatDoor
end

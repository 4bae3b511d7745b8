/- A part of the proof: QX11. -/
import Derived.Test.YtdgblangfefjmaaGreatDoorQX10
set_option linter.all false
section
namespace Go.Proofs.YtdgblangfefjmaaGreatDoor
open Go Go.Sep Go.Proofs
def s4 (u0:aC)(h:Int)(i:Int):Option Bool:=
 aj (nG u0) fun j=>cond (!j) (aj (jo) fun k=>some k) (aj (pH h i) fun c=>aj (nq u0 c) fun b=>cond ((b.2.2 != 0)) (some false) (aj (eB b.1 0 (IntKind.i64.wrap ((u0.aR.length:Int) - 1))) fun l=>cond (!l) (some false) (aj (nJ b.2.1) fun m=>cond (!m) (some false) (aj (bH u0.aR b.1) fun d=>aj (jI (IntKind.i64.wrap (d.high - c.high)) (IntKind.i64.wrap (d.aQ+c.back))) fun e=>cond (decide (60<(IntKind.i64.wrap (u0.bE+c.back)))) (aj (jo) fun n=>some n) (aj (pN e) fun o=>cond ((o != 0)) (aj (jo) fun p=>some p) (aj (pP (⟨[(⟨IntKind.i64.wrap (u0.bE+c.back),0⟩:b8),(⟨IntKind.i64.wrap (u0.bE+c.back),90⟩:b8)],1,(⟨0,0⟩:dK),([]:(List iZ))⟩:dB) c.high e) fun a=>cond ((a.2.2.2 != 0)) (some false) (cond (decide (0<=b.2.1.num)) (cond (!(a.2.2.1==(decide (b.2.1.num<=(IntKind.i64.wrap (90*b.2.1.den)))))) (some false) (cond (!a.2.2.1) (aj (jo) fun q=>some q) (aj (fJ (IntKind.i64.wrap (u0.bE+c.back)) 1) fun f=>cond (((a.1.num==f.num)&&(a.1.den==f.den))) (cond (((a.2.1.num==b.2.1.num)&&(a.2.1.den==b.2.1.den))) (aj (jo) fun r=>some r) (some false)) (some false)))) (cond (!(a.2.2.1==false)) (some false) (cond (!a.2.2.1) (aj (jo) fun s=>some s) (aj (fJ (IntKind.i64.wrap (u0.bE+c.back)) 1) fun g=>cond (((a.1.num==g.num)&&(a.1.den==g.den))) (cond (((a.2.1.num==b.2.1.num)&&(a.2.1.den==b.2.1.den))) (aj (jo) fun t=>some t) (some false)) (some false)))))))))))
end Go.Proofs.YtdgblangfefjmaaGreatDoor
end
section
namespace Go.Proofs.YtdgblangfefjmaaGreatDoor
open Go Go.Sep Go.Proofs
set_option maxRecDepth 100000
set_option maxHeartbeats 4000000
theorem Js {ro:Addr->Option Value}(c:dy ro)(u0:aC){s1 s t u:Value}(i:bV ro u0 s1 s t u)(w:Int)(x:Int){r:Bool}(S:r=true)(h:s4 u0 w x=some r):l6 Tryz.prog 3 #[bv u0 s1 s t u,.int .u8 w,.int .u8 x] ⟨ro,[]⟩ (fun v _=>v= .bool r):=by
 obtain ⟨d3,c4,rfl,ev,eQ,-⟩:=id i.e;subst S;unfold s4 at h;refine l6.go Tryz.func3 rfl Tryz.ntmps3 Tryz.results3 (by simp) (by kernel_rfl) fun Φ hJ A T hd hs=>?_;have U:=hs 0;have k1:=hs 1;have V:=hs 2;clear hs;apply an hJ;simp only[*,go_sem];refine az fun W X Y=>?_;try simp only[au] at Y
 try simp only[*,go_sem]
 refine ah hJ (an hJ ?_);revert h;refine bS fun eS Z h=>?_;simp only[*,go_sem];refine bf hJ _ (FT u0 (i.mono bg) Z) (aP ?_);try simp only[*,go_sem]
 revert h;refine aX hJ (fun y h=>?_) fun y h=>?_
 .rw[Bool.not_eq_true'] at y;apply an hJ;revert h;refine bS fun e0 ab h=>?_;cases h;simp only[*,go_sem];refine l5 _ (mM c ab) (aP ?_);try simp only[*,go_sem]
  apply aJ;simp only[*,go_sem]
 rw[Bool.not_eq_false'] at y;refine aK hJ (ah hJ ?_);apply aG hJ;revert h;refine bS fun a ad h=>?_;simp only[*,go_sem];refine bf hJ _ (FU w x ad) (aP ?_);try simp only[*,go_sem]
 refine az fun ae al ao=>?_;try simp only[au] at ao
 try simp only[*,go_sem]
 apply an hJ;revert h;refine bS fun j ar h=>?_;simp only[*,go_sem];refine bf hJ _ (z8 (c.mono bg) u0 (i.mono bg) a ar) (aP ?_);try simp only[*,go_sem]
 refine az fun a0 a2 a3=>?_;try simp only[au] at a3
 try simp only[*,go_sem]
 refine ah hJ (an hJ ?_);revert h;refine cS (fun a4 h=>?_) fun a4 h=>?_
 .cases h
 revert h;refine bS fun e1 a5 h=>?_;try simp only[*,go_sem]
 refine bf hJ _ (gf j.1 0 (IntKind.i64.wrap ((u0.aR.length:Int) - 1)) a5) (aP ?_);revert h;refine cS (fun H h=>?_) fun H h=>?_
 .cases h
 rw[Bool.not_eq_false'] at H;revert h;refine bS fun e2 a6 h=>?_;try simp only[*,go_sem]
 refine bf hJ _ (FV j.2.1 a6) (aP ?_);try simp only[*,go_sem]
 revert h;refine aX hJ (fun I h=>?_) fun I h=>?_
 .cases h
 rw[Bool.not_eq_false'] at I;refine aK hJ (ah hJ ?_);refine eU [3,6,7,8,9] fun e3 k l m=>?_;simp only[*,go_sem] at k l m;clear T hd U k1 V;apply aG hJ;simp only[*,go_sem];apply ah hJ;refine cM hJ mixed 19 3 (by simp only[*,go_sem]) (by kernel_rfl) ?_;revert h;refine bS fun z a7 h=>?_;obtain ⟨fa,fb,J⟩:=c6 a7;obtain ⟨a8,a9,ba,bb,B⟩:=i.e.el _ _ J;obtain rfl:a9=z.cells:=bb;cases ba;have bc:=B 0 _ rfl;simp only[go_sem] at bc;have bd:=B 1 _ rfl;simp only[go_sem] at bd;clear B J;revert h;refine bS fun n bj h=>?_;try simp only[*,go_sem]
 refine ⟨_,bD hJ fun F K=>r5 (IntKind.i64.wrap (z.high - a.high)) (IntKind.i64.wrap (z.aQ+a.back)) bj,?_⟩;try simp only[*,go_sem]
 refine az fun bl bm bo=>?_;try simp only[au] at bo
 try simp only[*,go_sem]
 refine ah hJ (an hJ ?_);revert h;refine cS (fun br h=>?_) fun br h=>?_
 .try simp only[*,go_sem]
  refine cz hJ ?_;apply ah hJ;refine eU [6,7,9,11,12] fun fg bs bz b0=>?_;simp only[*,go_sem] at bs bz b0;clear k l m;apply aG hJ;revert h;refine bS fun fi b1 h=>?_;cases h;simp only[*,go_sem];refine l5 _ (mM c b1) (aP ?_);try simp only[*,go_sem]
  apply aJ;simp only[*,go_sem]
 revert h;refine bS fun fp b2 h=>?_;try simp only[*,go_sem]
 refine bf hJ _ (F7 n b2) (aP ?_);try simp only[*,go_sem]
 revert h;refine aX hJ (fun b3 h=>?_) fun b3 h=>?_
 .apply ah hJ;refine eU [6,7,9,11,12] fun fr b4 b5 ca=>?_;simp only[*,go_sem] at b4 b5 ca;clear k l m;apply aG hJ;revert h;refine bS fun fs cb h=>?_;cases h;simp only[*,go_sem];refine l5 _ (mM c cb) (aP ?_);try simp only[*,go_sem]
  apply aJ;simp only[*,go_sem]
 refine aK hJ (ah hJ ?_);refine eU [6,7,9,11,12] fun ft C D E=>?_;simp only[*,go_sem] at C D E;clear k l m;refine aE hJ fun cd=>?_;apply aG hJ;simp only[*,go_sem];refine az fun d L M=>?_;have cf:=aY.cons M cd;try simp only[au] at M
 refine az fun cl cy N=>?_;have fu:=aY.cons N cf;try simp only[au] at N
 try simp only[*,go_sem]
 apply ah hJ;refine aE hJ fun O=>?_;obtain ⟨P,Q,R⟩:=e4 (b:=d) (o:=(.cells #[.int .i64 (IntKind.i64.wrap (u0.bE+a.back)),.int .i64 0,.int .i64 (IntKind.i64.wrap (u0.bE+a.back)),.int .i64 90] 44)) [(cl,.cells #[.slice (some ⟨d,0,none⟩) 2 2,.int .i64 1,.int .i64 0,.int .i64 0,.slice none 0 0] 50)] ((bl,rt n.num n.den)::(a0,rt j.2.1.num j.2.1.den)::(ae,.cells #[.int .i64 a.back,.int .i64 a.high] 33)::(W,bk u0 (sl (some a8) u0.aR c4) s t u)::[]) O L (aF.cons cy (aF.cons bm (aF.cons a2 (aF.cons al (aF.cons X (aF.nil _))))));clear O;have G:aB dV (bR ro d (.cells #[.int .i64 (IntKind.i64.wrap (u0.bE+a.back)),.int .i64 0,.int .i64 (IntKind.i64.wrap (u0.bE+a.back)),.int .i64 90] 44)) (.slice (some ⟨d,0,none⟩) 2 2) [(⟨IntKind.i64.wrap (u0.bE+a.back),0⟩:b8),(⟨IntKind.i64.wrap (u0.bE+a.back),90⟩:b8)]:=(aB.flat (r:=dV) (e:=44) (cs:=#[.int .i64 (IntKind.i64.wrap (u0.bE+a.back)),.int .i64 0,.int .i64 (IntKind.i64.wrap (u0.bE+a.back)),.int .i64 90]) b8.cells ([(⟨IntKind.i64.wrap (u0.bE+a.back),0⟩:b8),(⟨IntKind.i64.wrap (u0.bE+a.back),90⟩:b8)]) (fun _=>rfl) L rfl (by simp))
 generalize bR ro d (.cells #[.int .i64 (IntKind.i64.wrap (u0.bE+a.back)),.int .i64 0,.int .i64 (IntKind.i64.wrap (u0.bE+a.back)),.int .i64 90] 44)=fv at P Q R G;refine cN hJ R ?_;obtain ⟨fw,fx,-⟩:=G.op;replace c:=c.mono P;simp only[bC] at Q;apply aG hJ;revert h;refine bS fun fz c0 h=>?_;simp only[*,go_sem];refine bf hJ _ (Ge (c.mono bg) (⟨[(⟨IntKind.i64.wrap (u0.bE+a.back),0⟩:b8),(⟨IntKind.i64.wrap (u0.bE+a.back),90⟩:b8)],1,(⟨0,0⟩:dK),([]:(List iZ))⟩:dB) (G.mono bg) (aB.nil _ _) a.high n c0) (aP ?_);try simp only[*,go_sem]
 refine az fun gg gl da=>?_;try simp only[au] at da
 refine az fun gn gp db=>?_;try simp only[au] at db
 try simp only[*,go_sem]
 refine ah hJ (an hJ ?_);revert h;refine cS (fun dd h=>?_) fun dd h=>?_
 .cases h
 revert h;refine cS (fun df h=>?_) fun df h=>?_
 .try simp only[*,go_sem]
  revert h;refine aX hJ (fun p h=>?_) fun p h=>?_
  .cases h
  rw[Bool.not_eq_false'] at p;refine aK hJ (ah hJ ?_);refine eU [6,9,11,14,15,16] fun gB dk dp dq=>?_;simp only[*,go_sem] at dk dp dq;clear C D E;refine cM hJ mixed 14 7 (by simp only[*,go_sem]) (by kernel_rfl) ?_;revert h;refine cS (fun f h=>?_) fun f h=>?_
  .rw[Bool.not_eq_true'] at f;(try rw[f] at p);revert h;refine bS fun gC ds h=>?_;cases h;(try simp only[*,go_sem]);refine l5 _ (mM c ds) ⟨by simp only[*,go_sem],gX ?_⟩;(try simp only[*,go_sem]);apply aJ;simp only[*,go_sem]
  rw[Bool.not_eq_false'] at f;try rw[f] at p
  revert h;refine bS fun gV dt h=>?_;try simp only[*,go_sem]
  refine ⟨_,bD hJ fun F K=>gw (IntKind.i64.wrap (u0.bE+a.back)) 1 dt,bY ?_⟩;revert h;refine cS (fun du h=>?_) fun du h=>?_
  .revert h;refine cS (fun dv h=>?_) fun dv h=>?_
   .revert h;refine bS fun g0 dC h=>?_;cases h;(try simp only[*,go_sem]);refine l5 _ (mM c dC) ⟨by simp only[*,go_sem],gX ?_⟩;(try simp only[*,go_sem]);apply aJ;simp only[*,go_sem]
   cases h
  cases h
 try simp only[*,go_sem]
 revert h;refine aX hJ (fun q h=>?_) fun q h=>?_
 .cases h
 rw[Bool.not_eq_false'] at q;refine aK hJ (ah hJ ?_);refine eU [6,9,11,14,15,16] fun g1 dE dT ea=>?_;simp only[*,go_sem] at dE dT ea;clear C D E;refine cM hJ mixed 14 7 (by simp only[*,go_sem]) (by kernel_rfl) ?_;revert h;refine cS (fun g h=>?_) fun g h=>?_
 .rw[Bool.not_eq_true'] at g;try rw[g] at q
  revert h;refine bS fun g2 eb h=>?_;cases h;try simp only[*,go_sem]
  refine l5 _ (mM c eb) ⟨by simp only[*,go_sem],gX ?_⟩;try simp only[*,go_sem]
  apply aJ;simp only[*,go_sem]
 rw[Bool.not_eq_false'] at g;try rw[g] at q
 revert h;refine bS fun g3 ec h=>?_;try simp only[*,go_sem]
 refine ⟨_,bD hJ fun F K=>gw (IntKind.i64.wrap (u0.bE+a.back)) 1 ec,bY ?_⟩;revert h;refine cS (fun ed h=>?_) fun ed h=>?_
 .revert h;refine cS (fun eh h=>?_) fun eh h=>?_
  .revert h;refine bS fun g4 et h=>?_;cases h;(try simp only[*,go_sem]);refine l5 _ (mM c et) ⟨by simp only[*,go_sem],gX ?_⟩;(try simp only[*,go_sem]);apply aJ;simp only[*,go_sem]
  cases h
 cases h
theorem Jt {u:aC}(h:mw u=some false):xd u:=by
 unfold mw at h;rcases gJ h with ⟨a,h⟩|⟨a,h⟩
 .cases h
 rcases gJ h with ⟨b,h⟩|⟨b,h⟩
 .cases h
 rcases gJ h with ⟨c,h⟩|⟨c,h⟩
 .cases h
 have d:=Option.some.inj h;simp only[decide_eq_false_iff_not] at a b c d;exact ⟨aa,aa,aa,aa⟩
theorem Ju (u:aC):∃b,mw u=some b:=by
 unfold mw;cases decide (20<(u.aR.length:Int))<;>cases decide (20<(u.props.length:Int))<;>cases decide (20<(u.aU.length:Int))<;>exact ⟨_,rfl⟩
theorem Jv (u:aC):nG u=some false\/(nG u=some true/\xd u/\jD u=some 0/\Fit u):=by
 unfold nG;obtain ⟨b,hb⟩:=Ju u;rw[hb];cases b with
 |true=>exact .inl rfl
 |false=>
  have L:=Jt hb;obtain ⟨c,a,d⟩:=bars L;simp only[aj,Bool.not_false,cond_true,d];cases f:(c==0) with
  |false=>exact .inl rfl
  |true=>
   have e:c=0:=by simpa using f
   subst e;exact .inr ⟨rfl,L,a,Gt u L.e a⟩
theorem BW {a b:Int}(hb:0<b):g5 a b=some (a.tmod b):=by
 unfold g5;rw[if_neg aa]
theorem BX {a b:Int}(c:0<=a)(hb:0<b):0<=a.tmod b/\a.tmod b<b:=⟨Int.tmod_nonneg _ c,Int.tmod_lt_of_pos _ hb⟩
theorem Jw {x:ay}(hs:Sm x 1000000000 1048575)(a:∃n d,0<d/\x=bJ n d):nJ x=some true:=by
 obtain ⟨n,d,hd,e⟩:=a;have c:=hs.num;have b:=hs.den;have k:jI x.num x.den=some x:=by
  have:=pR x.num x.den.toNat aa aa aa;rw[show ((x.den.toNat:Nat):Int)=x.den by omega] at this;rw[this,e,xb n d hd]
 unfold nJ;rw[decide_eq_true b.1,decide_eq_true (show x.den<1048576 by omega),eW,nU aa aa,k];simp only[cond_true,aj,beq_self_eq_true,Bool.and_self]
section
variable {u:aC}{s:bM}(F:Fit u)(hs:(1<=s.back/\s.back<=20)/\0<=s.high/\s.high<=60)
include F hs
theorem BY:Sm (gy u s).2 10000 100/\∃n d,0<d/\(gy u s).2=bJ n d:=by
 obtain ⟨n,p,e,a,-⟩:=AY F hs;have b:=F.lq n p a;rw[e];exact ⟨AO u F s hs n p a,_,_,aa,rfl⟩
theorem Jx:nJ (gy u s).2=some true:=by
 obtain ⟨a,b⟩:=BY F hs;exact Jw (a.mono aO aO) b
end
theorem Jy {a b:Int}(c:0<=a/\a<=255)(hb:0<=b/\b<=255):∃s,pH a b=some s/\(1<=s.back/\s.back<=20)/\0<=s.high/\s.high<=60:=by
 unfold pH;rw[eO (n:=a) aa,eO (n:=b) aa,BW aO,BW aO];have d:=BX (b:=20) c.1 aO;have e:=BX (b:=61) hb.1 aO;simp only[aj];rw[eO (n:=1+a.tmod 20) aa];exact ⟨⟨1+a.tmod 20,b.tmod 61⟩,rfl,⟨by simp only;omega,by simp only;omega⟩,by simp only;omega,by simp only;omega⟩
theorem BZ (n:Int)(h: -9000000000000000000<=n/\n<=9000000000000000000):nL n=some (n.natAbs:Int):=by
 unfold nL;rw[wV n h]
theorem Jz (a k:Nat)(b:Nat)(c:a<9223372036854775808)(hb:b<9223372036854775808)(d:b<k):bB nM k ((a:Int),(b:Int))=some (.nx (((Nat.gcd a b:Nat):Int),0)):=by
 refine sx (fun a b c hb e=>?_) (fun a=>rfl) b a k c hb d;unfold nM;have:(((b:Nat):Int) != 0)=true:=by simp;omega
 dsimp only;rw[this,sA a b c hb e];rfl
theorem JA (a k:Nat)(b:Nat)(c:a<9223372036854775808)(hb:b<9223372036854775808)(d:b<k):bB nN k ((a:Int),(b:Int))=some (.nx (((Nat.gcd a b:Nat):Int),0)):=by
 refine sx (fun a b c hb e=>?_) (fun a=>rfl) b a k c hb d;unfold nN;have:(((b:Nat):Int) != 0)=true:=by simp;omega
 dsimp only;rw[this,sA a b c hb e];rfl
theorem JB (n:Int)(d:Nat)(a: -9000000000000000000<=n/\n<=9000000000000000000)(hd:0<d)(b:d<900000000000000000):kq n d=some (bJ n d):=by
 unfold kq;have:decide ((d:Int)<0)=false:=decide_eq_false aa;rw[this,BZ n a];show aj (bB nN fu _) _=_;rw[JA n.natAbs fu d aa aa (Nat.lt_trans b aO)];have hg:0<Nat.gcd n.natAbs d:=Nat.gcd_pos_of_pos_right _ hd;show aj (eG n _) (fun x=>aj (eG d _) fun y=>_)=_;rw[lg n _ aa a,lg d _ aa aa];rfl
theorem B1 (n:Int)(d:Nat)(a: -9000000000000000000<=n/\n<=9000000000000000000)(hd:0<d)(b:d<900000000000000000):kq (-n) (-(d:Int))=some (bJ n d):=by
 unfold kq;have:decide (-(d:Int)<0)=true:=decide_eq_true aa;rw[this,show (0:Int) - -n=n by omega,show (0:Int) - -(d:Int)=d by omega,eO (n:=n) aa,eO (n:=(d:Int)) aa,BZ n a];show aj (bB nM fu _) _=_;rw[Jz n.natAbs fu d aa aa (Nat.lt_trans b aO)];have hg:0<Nat.gcd n.natAbs d:=Nat.gcd_pos_of_pos_right _ hd;show aj (eG n _) (fun x=>aj (eG d _) fun y=>_)=_;rw[lg n _ aa a,lg d _ aa aa];rfl
theorem x5 (a b c:Int):jJ a b c=eB a b c:=rfl
theorem JC (n:Int)(d:Nat)(e: -1000000<=n/\n<=1000000)(hd:0<d)(f:d<1000000):∃r,pN (bJ n d)=some r/\(r=0->nO (bJ n d)=some 0/\(1<=(bJ n d).den/\(bJ n d).den<=20)/\ -20<=(bJ n d).num/\(bJ n d).num<=20):=by
 have hs:=pU n d hd;have i1:=hs.num;have i2:=hs.den;have b:=xb n d hd;generalize bJ n d=x at*;have e0:((x.den.toNat:Nat):Int)=x.den:=aa;have k1:=pR x.num x.den.toNat aa aa aa;have a:=JB x.num x.den.toNat aa aa aa;rw[e0,b] at k1 a;unfold pN nO;simp only[x5,eW,k1,a,aj,beq_self_eq_true,Bool.and_self,Bool.not_true,cond_false];cases c:bW x.den 1 20 with
 |false=>exact ⟨1,rfl,fun h=>by cases h⟩
 |true=>
  cases b2:bW x.num (-20) 20 with
  |false=>exact ⟨1,rfl,fun h=>by cases h⟩
  |true=>exact ⟨0,rfl,fun _=>⟨rfl,fW.1 c,fW.1 b2⟩⟩
def gE (f:Int):dB:=⟨[⟨f,0⟩,⟨f,90⟩],1,⟨0,0⟩,[]⟩
theorem JD (f:Int)(a:1<=f/\f<=60):sk (gE f)=some 0:=by
 have b:=nU a.1 a.2;have c1:nP (gE f)=some 0:=by
  unfold nP gE;simp only[bQ,se,x5,eW,b,aj,cond_false,cond_true,Bool.not_true];rfl
 have c2:pL (gE f)=some 0:=rfl;have c3:pM (gE f)=some 0:=rfl;unfold sk wT;rw[c1];unfold sj si;simp only[aj,bne_self_eq_false,cond_false,c2,c3];rfl
theorem fc {n:Int}(h:n.natAbs<=1000000000000):IntKind.i64.wrap n=n:=eO aa
theorem JE (f aS:Int)(w:ay)(m:1<=f/\f<=60)(he:0<=aS/\aS<=60)(o:1<=w.den/\w.den<=20)(p: -20<=w.num/\w.num<=20):
  nS ⟨f,0⟩ ⟨f,90⟩ aS w=cond (decide (0<=aS*w.den+w.num*f)&&decide (aS*w.den+w.num*f<=90*w.den)) [some ⟨⟨f,1⟩,bJ (aS*w.den+w.num*f) w.den.toNat⟩] []:=by
 have q:(aS*w.den).natAbs<=60*20:=fX aa aa
 have r:(w.num*f).natAbs<=20*60:=fX aa aa
 have d:je ⟨f,0⟩ aS w= -(aS*w.den+w.num*f):=by
  unfold je
  dsimp only
  rw[show (0:Int) - aS= -aS by omega,fc (n:= -aS) aa,Int.neg_mul,fc (n:= -(aS*w.den)) aa,fc (n:=w.num*f) aa,fc aa]
  omega
 have e:je ⟨f,90⟩ aS w=90*w.den - (aS*w.den+w.num*f):=by
  unfold je
  dsimp only
  rw[fc (n:=90 - aS) aa,Int.sub_mul,fc (n:=90*w.den - aS*w.den) aa,fc (n:=w.num*f) aa,fc aa]
  omega
 unfold nS
 rw[d,e]
 generalize hM:aS*w.den+w.num*f=M at*
 have hd: -M - (90*w.den - M)= -(90*w.den):=aa
 rw[hd,fc (n:= -(90*w.den)) aa]
 have k1:((f==f)&&((0:Int)==90))=false:=av
 have g:(-M==0&&90*w.den - M==0)=false:=by
  rw[Bool.and_eq_false_iff]
  by_cases c: -M=0
  .right;rw[beq_eq_false_iff_ne];omega
  .left;rw[beq_eq_false_iff_ne];exact c
 have h:dS (-M) (90*w.den - M)=(decide (0<=M)&&decide (M<=90*w.den)):=by
  unfold dS
  rw[show decide (-M<=0)=decide (0<=M) by congr 1;rw[eq_iff_iff];omega,show decide (0<=90*w.den - M)=decide (M<=90*w.den) by congr 1;rw[eq_iff_iff];omega]
  have i:(decide (0<= -M)&&decide (90*w.den - M<=0))=false:=by
   rw[Bool.and_eq_false_iff]
   by_cases c:0<= -M
   .right
    exact decide_eq_false aa
   .left
    exact decide_eq_false c
  rw[i,Bool.or_false]
 dsimp only
 rw[k1,g,h]
 simp only[cond_false]
 by_cases c1:0<=M
 .by_cases c2:M<=90*w.den
  .rw[decide_eq_true c1,decide_eq_true c2]
   simp only[Bool.and_self,cond_true]
   congr 1
   unfold e8 kr
   dsimp only
   have s:(f* -(90*w.den)).natAbs<=60*1800:=fX aa aa
   have t:(f*(90*w.den)).natAbs<=60*1800:=fX aa aa
   rw[show f - f=0 by omega,show (90:Int) - 0=90 by omega,fc (n:=0) aO,Int.zero_mul,Int.zero_mul,fc (n:=0) aO,fc (n:=f* -(90*w.den)) aa,fc (n:=90) aO,fc (n:=90* -M) aa,fc (n:=f* -(90*w.den)+0) aa,fc (n:=0+90* -M) aa]
   have e0:(((90*w.den).toNat:Nat):Int)=90*w.den:=aa
   have a:=B1 (f*(90*w.den)) (90*w.den).toNat aa aa aa
   have b:=B1 (90*M) (90*w.den).toNat aa aa aa
   rw[e0] at a b
   rw[show f* -(90*w.den)+0= -(f*(90*w.den)) by rw[Int.mul_neg];omega,show (0:Int)+90* -M= -(90*M) by omega,a,b]
   have j:bJ (f*(90*w.den)) (90*w.den).toNat=bJ f 1:=pV aa aa (by rw[e0];simp)
   have k:bJ (90*M) (90*w.den).toNat=bJ M w.den.toNat:=pV aa aa (by rw[e0,show ((w.den.toNat:Nat):Int)=w.den by omega];rw[Int.mul_left_comm M,Int.mul_assoc])
   have l:bJ f 1=⟨f,1⟩:=by
    unfold bJ
    rw[Nat.gcd_one_right]
    simp
   rw[j,k,l]
   rfl
  .rw[decide_eq_false c2,Bool.and_false]
   rfl
 .rw[decide_eq_false c1,Bool.false_and]
  rfl
theorem JG (f aS:Int)(w:ay)(g:1<=f/\f<=60)(he:0<=aS/\aS<=60)(h:1<=w.den/\w.den<=20)(i: -20<=w.num/\w.num<=20)(hw:nO w=some 0):
  pP (gE f) aS w=some (cond (decide (0<=aS*w.den+w.num*f)&&decide (aS*w.den+w.num*f<=90*w.den)) (⟨f,1⟩,bJ (aS*w.den+w.num*f) w.den.toNat,true,0) (⟨0,0⟩,⟨0,0⟩,false,0)):=by
 have j:=nU he.1 (show aS<=90 by omega)
 have o:∀a b c d e,pO (gE f) [k8 ⟨aS,a,w,b,c,d⟩,jd ⟨e,a,w,b,c,d⟩]=some (gE f,0):=by
  intro a b c d e
  unfold pO
  rw[JD f g]
  unfold pK k8 jd
  simp only[bQ,sd,pI,x5,eW,j,hw,aj,cond_false,cond_true,Bool.not_true,bne_self_eq_false,aL]
 unfold pP
 rw[o]
 simp only[aj,bne_self_eq_false,cond_false]
 have hm:bB (ku (gE f) aS w) fu (([]:List ck),0)=some (.nx (cond (decide (0<=aS*w.den+w.num*f)&&decide (aS*w.den+w.num*f<=90*w.den)) [⟨⟨f,1⟩,bJ (aS*w.den+w.num*f) w.den.toNat⟩] [],1)):=by
  have m:∀k,bB (ku (gE f) aS w) (k+2) (([]:List ck),0)=some (.nx (cond (decide (0<=aS*w.den+w.num*f)&&decide (aS*w.den+w.num*f<=90*w.den)) [⟨⟨f,1⟩,bJ (aS*w.den+w.num*f) w.den.toNat⟩] [],1)):=by
   intro k
   have s1:ku (gE f) aS w (([]:List ck),0)=aj (so [] (nS ⟨f,0⟩ ⟨f,90⟩ aS w)) fun n=>some (.nx (n,1)):=rfl
   have s2:∀l,ku (gE f) aS w (l,1)=some (.bk (l,1)):=fun l=>rfl
   unfold bB
   rw[s1,JE f aS w g he h i]
   cases decide (0<=aS*w.den+w.num*f)&&decide (aS*w.den+w.num*f<=90*w.den) with
   |false=>
    show bB (ku (gE f) aS w) (k+1) ([],1)=_
    unfold bB
    rw[s2]
    rfl
   |true=>
    show bB (ku (gE f) aS w) (k+1) ([_],1)=_
    unfold bB
    rw[s2]
    rfl
  obtain ⟨k,p⟩:∃k,fu=k+2:=⟨fu - 2,aO⟩
  rw[p]
  exact m k
 unfold sr
 rw[hm]
 cases decide (0<=aS*w.den+w.num*f)&&decide (aS*w.den+w.num*f<=90*w.den) with
 |false=>rfl
 |true=>rfl
theorem JH {X D f e h n d c:Int}(i:0<D)(hd:0<d)(j:0<c)(k1:(X - h*D)*c=e*f*D)(b:n*c=e*d):X*d=(h*d+n*f)*D:=by
 have g:(X - h*D)*d*c=n*f*D*c:=by
  calc (X - h*D)*d*c=(X - h*D)*c*d:=by rw[Int.mul_right_comm]
   _=e*f*D*d:=by rw[k1]
   _=e*d*(f*D):=by rw[Int.mul_assoc e f D,Int.mul_right_comm]
   _=n*c*(f*D):=by rw[b]
   _=n*f*D*c:=by rw[Int.mul_right_comm,Int.mul_assoc n f D]
 have a:=Int.eq_of_mul_eq_mul_right (by omega:c≠0) g;rw[Int.sub_mul] at a;rw[Int.add_mul,<-a,Int.mul_right_comm h d D];omega
theorem JI {X D M d B:Int}(a:0<D)(hd:0<d)(k:X*d=M*D):(0<=X↔0<=M)/\(X<=B*D↔M<=B*d):=by
 constructor
 .constructor
  .intro h;have:0<=M*D:=by rw[<-k];exact Int.mul_nonneg h aa
   exact Int.nonneg_of_mul_nonneg_left this a
  .intro h;have:0<=X*d:=by rw[k];exact Int.mul_nonneg h aa
   exact Int.nonneg_of_mul_nonneg_left this hd
 .constructor
  .intro h;have k1:=Int.mul_le_mul_of_nonneg_right h (show 0<=d by omega);rw[k,Int.mul_right_comm B D d] at k1;exact Int.le_of_mul_le_mul_right k1 a
  .intro h;have k1:=Int.mul_le_mul_of_nonneg_right h (show 0<=D by omega);rw[<-k,Int.mul_right_comm B d D] at k1;exact Int.le_of_mul_le_mul_right k1 hd
theorem JJ (u:aC)(a:Int)(p:0<=a/\a<=255)(b:Int)(hb:0<=b/\b<=255):s4 u a b=some true:=by
 unfold s4;rcases Jv u with e|⟨e,L,h,F⟩
 .simp only[e,aj,Bool.not_false,cond_true,x4]
 .obtain ⟨s,es,hs⟩:=Jy p hb;obtain ⟨n,x,q,l,d,⟨t,v,y,z⟩,A⟩:=GN F hs;have O:=F.aR;have P:=F.bE;have g:=GU F h hs;have i:=Jx F hs;have m:=(BY F hs).1;rw[q] at g i m;simp only at g i m;have C:bW (n:Int) 0 (IntKind.i64.wrap ((u.aR.length:Int) - 1))=true:=by rw[fc aa];exact nU aa aa
  have f:u.aR[n]?=some (u.aR[n]'l):=List.getElem?_eq_getElem _;generalize u.aR[n]'l=c at f;have Q:=F.lq n c f;have D:=(A n c f).1 rfl;have w1:IntKind.i64.wrap (c.high - s.high)=c.high - s.high:=fc aa;have w2:IntKind.i64.wrap (c.aQ+s.back)=c.aQ+s.back:=fc aa;have w3:IntKind.i64.wrap (u.bE+s.back)=u.bE+s.back:=fc aa;have e0:(((c.aQ+s.back).toNat:Nat):Int)=c.aQ+s.back:=aa;have o:=pR (c.high - s.high) (c.aQ+s.back).toNat aa aa aa;rw[e0] at o;obtain ⟨r,E,G⟩:=JC (c.high - s.high) (c.aQ+s.back).toNat aa aa aa;obtain ⟨v1,v2⟩:=pW (c.high - s.high) (c.aQ+s.back).toNat aa;rw[e0] at v1;simp only[e,aj,Bool.not_true,cond_false,es,g,bne_self_eq_false,eW,C,i,GO f,w1,w2,w3,o,E,x4];generalize bJ (c.high - s.high) (c.aQ+s.back).toNat=w at*;by_cases k:60<u.bE+s.back
  .rw[decide_eq_true k];rfl
  .rw[decide_eq_false k];simp only[cond_false];by_cases j:r=0
   .obtain ⟨H,I,J⟩:=G j;subst j;have hM:=JG (u.bE+s.back) s.high w aa aa I J H;have K:=JH d.den.1 v2 (show 0<c.aQ+s.back by omega) D v1;have M:bJ (s.high*w.den+w.num*(u.bE+s.back)) w.den.toNat=x:=by
     have N:bJ x.num x.den.toNat=x:=by rw[z];exact xb t v y
     rw[<-N];have:=d.den.1;exact pV aa aa (by rw[show ((x.den.toNat:Nat):Int)=x.den by omega,show ((w.den.toNat:Nat):Int)=w.den by omega,K])
    obtain ⟨i1,i2⟩:=JI (B:=90) d.den.1 v2 K;have hd:=d.den;have w4:IntKind.i64.wrap (90*x.den)=90*x.den:=fc aa;unfold gE at hM;simp only[hM,M,bne_self_eq_false,cond_false,w4,show fJ (u.bE+s.back) 1=some ⟨u.bE+s.back,1⟩ from rfl,decide_eq_decide.2 i1,decide_eq_decide.2 i2];cases decide (0<=s.high*w.den+w.num*(u.bE+s.back))<;>cases decide (s.high*w.den+w.num*(u.bE+s.back)<=90*w.den)<;>simp
   .rw[show (r != 0)=true by simpa using j];rfl
end Go.Proofs.YtdgblangfefjmaaGreatDoor
end

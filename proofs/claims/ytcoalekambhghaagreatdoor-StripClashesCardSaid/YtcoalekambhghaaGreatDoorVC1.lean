/- A part of the proof: VC1. -/
import Derived.Test.YtcoalekambhghaaGreatDoorQT14
set_option linter.all false
section
namespace Go.Proofs.YtcoalekambhghaaGreatDoor
open Go Go.Sep Go.Proofs
set_option maxRecDepth 100000
set_option maxHeartbeats 4000000
def mS (u0:aL)(a:((List Int)×Int))(st:(Bool×Int)):Option (Fl (Bool×Int) Bool):=
 cond (decide (st.2<(a.1.length:Int))) (ax (oe a.1 st.2) fun b=>ax (gG u0 b) fun c=>cond (!c) (some (.rt false)) (some (.nx (st.1,(IntKind.i64.wrap (st.2+1)))))) (some (.bk (st.1,st.2)))
def rC (u0:aL)(c:Int):Option Bool:=
 ax (me u0) fun e=>cond (!e) (ax (iy) fun f=>some f) (ax (j6 u0) fun a=>ax (kQ u0) fun b=>cond ((a.2 != 0)) (some false) (cond ((b.2 != 0)) (some false) (ax (mc a.1 (u0.aj.length:Int)) fun g=>cond ((g != 0)) (some false) (cond (!(b.1==((a.1.length:Int)==0))) (some false) (cond (b.1) (ax (jQ c (u0.aj.length:Int)) fun h=>ax (gG u0 h) fun i=>cond (i) (ax (iy) fun j=>some j) (some false)) (ax (gG u0 a.1) fun k=>cond (k) (some false) (ax (bg (mS u0 a) fu (false,0)) fun o=>aH o (fun q=>ax (jQ c (u0.aj.length:Int)) fun d=>ax (gG u0 d) fun l=>cond (l) (ax (iy) fun m=>some m) (ax (og d a.1) fun n=>cond (!n) (ax (iy) fun p=>some p) (some false))) (fun _ _=>none) (fun r=>some r))))))))
theorem IS {ro:Addr->Option Value}(b:dh ro)(u0:aL){s1:Value}(a:aI bK ro s1 u0.aj)(k:Int){r:Bool}(ad:r=true)(h:rC u0 k=some r):iG Tryz.prog 8 #[.agg #[.int .i64 u0.steps,.int .i64 u0.au,s1],.int .u8 k] ⟨ro,[]⟩ (fun v _=>v= .bool r):=by
 obtain ⟨d3,c4,rfl,b2,b3,e⟩:=id a;subst ad;unfold rC at h;refine iG.go Tryz.func8 rfl Tryz.ntmps8 Tryz.results8 aB aT fun Φ hJ A ae hd hs=>?_;have al:=hs 0;have k1:=hs 1;clear hs;apply af hJ;apply ah hJ;apply aa _;intro d f8;have g:=aV f8;have ao:=aW f8;try simp only[aQ] at ao
 try apply aa _
 apply af hJ;apply af hJ;apply ah hJ;have h':=an h;clear h;obtain ⟨b4,ar,h⟩:=h';apply aa _;refine bp hJ _ (zg u0 (a.mono aZ) ar) (aS ?_);try apply aa _
 have h':=aD h;clear h;rcases h' with ⟨n,h⟩|⟨n,h⟩
 .try simp only[Int.ofNat_lt] at n
  refine aN hJ ak ?_;rw[Bool.not_eq_true'] at n;apply af hJ;apply ah hJ;have h':=an h;clear h;obtain ⟨ca,a0,h⟩:=h';apply aa _;refine kE _ (kZ b a0) (aS ?_);try apply aa _
  have h':=Option.some.inj h;clear h;subst h';apply aG;simp only[*,go_sem]
 try simp only[Int.ofNat_lt] at n
 refine aM hJ ak ?_;rw[Bool.not_eq_false'] at n;apply aR hJ;apply af hJ;apply ah hJ;have h':=an h;clear h;obtain ⟨i,a2,h⟩:=h';apply aa _;refine kD _ (AY b u0 a a2) fun v y P E hR=>?_;obtain ⟨cb,rfl,c⟩:=hR;have E:aP y ((d,.cells #[.int .i64 u0.steps,.int .i64 u0.au,.slice d3 u0.aj.length c4] 24)::[]):=E;replace a:=a.mono P;clear e;obtain ⟨_,_,e⟩:=a.op;replace g:=E.hd;replace b:=b.mono P;obtain ⟨d21,a3,rfl,cc,cd,f⟩:=id c;apply aS;try apply aa _
 apply af hJ;apply ah hJ;have h':=an h;clear h;obtain ⟨cf,a4,h⟩:=h';apply aa _;refine bp hJ _ (vj (b.mono aZ) u0 (a.mono aZ) a4) (aS ?_);try apply aa _
 apply af hJ;apply af hJ;apply ah hJ;have h':=aD h;clear h;rcases h' with ⟨Q,h⟩|⟨Q,h⟩
 .cases h
 try simp only[Int.ofNat_lt] at Q
 have h':=aD h;clear h;rcases h' with ⟨R,h⟩|⟨R,h⟩
 .cases h
 try simp only[Int.ofNat_lt] at R
 have h':=an h;clear h;obtain ⟨ck,a5,h⟩:=h';try apply aa _
 refine bp hJ _ (zf i.1 (c.mono aZ) (u0.aj.length:Int) a5) (aS ?_);have h':=aD h;clear h;rcases h' with ⟨S,h⟩|⟨S,h⟩
 .cases h
 try simp only[Int.ofNat_lt] at S
 try apply aa _
 have h':=aD h;clear h;rcases h' with ⟨o,h⟩|⟨o,h⟩
 .cases h
 try simp only[Int.ofNat_lt] at o
 refine aM hJ ak ?_;rw[Bool.not_eq_false'] at o;apply aR hJ;apply af hJ;apply af hJ;apply ah hJ;apply aa _;have h':=aD h;clear h;rcases h' with ⟨p,h⟩|⟨p,h⟩
 .try simp only[Int.ofNat_lt] at p
  refine aN hJ ak ?_;try rw[p] at o
  apply af hJ;refine cu hJ mixed 5 ⟨y,[(d,.cells #[.int .i64 u0.steps,.int .i64 u0.au,.slice d3 u0.aj.length c4] 24)]⟩ ak aT ?_;have h':=an h;clear h;obtain ⟨a6,a7,h⟩:=h';apply aa _;refine cz hJ _ (uK k (u0.aj.length:Int) a7) fun v a8 z F hR=>?_;obtain ⟨cl,rfl,T⟩:=hR;have F:aP a8 ((d,.cells #[.int .i64 u0.steps,.int .i64 u0.au,.slice d3 u0.aj.length c4] 24)::[]):=F;replace a:=a.mono z;clear e;obtain ⟨_,_,e⟩:=a.op;replace c:=c.mono z;clear f;obtain ⟨_,_,f⟩:=c.op;replace g:=F.hd;replace b:=b.mono z;obtain ⟨d42,cy,rfl,c0,da,db⟩:=id T;have dd:=fD (l:=[(d,.cells #[.int .i64 u0.steps,.int .i64 u0.au,.slice d3 u0.aj.length c4] 24)]) z (aP.cons g (aP.nil _));refine ⟨ak,?_⟩;refine g8 ?_;have h':=an h;clear h;obtain ⟨df,a9,h⟩:=h';try apply aa _
  refine bp hJ _ (kS (b.mono aZ) u0 (a.mono aZ) a6 (T.mono aZ) a9) ⟨ak,g8 ?_⟩;have h':=aD h;clear h;rcases h' with ⟨U,h⟩|⟨U,h⟩
  ·(try simp only[Int.ofNat_lt] at U);have h':=an h;clear h;obtain ⟨dk,ba,h⟩:=h';(try apply aa _);refine kE _ (kZ b ba) ⟨ak,g8 ?_⟩;(try apply aa _);have h':=Option.some.inj h;clear h;subst h';apply aG;simp only[*,go_sem]
  cases h
 try simp only[Int.ofNat_lt] at p
 refine aM hJ ak ?_;try rw[p] at o
 apply aR hJ;apply af hJ;apply af hJ;apply ah hJ;have h':=an h;clear h;obtain ⟨dp,bb,h⟩:=h';apply aa _;refine bp hJ _ (kS (b.mono aZ) u0 (a.mono aZ) i.1 (c.mono aZ) bb) ?_;try apply aa _
 have h':=aD h;clear h;rcases h' with ⟨V,h⟩|⟨V,h⟩
 .cases h
 try simp only[Int.ofNat_lt] at V
 refine aM hJ ak ?_;apply aR hJ;apply af hJ;apply af hJ;apply ah hJ;apply aa _;apply aY hJ;have h':=an h;clear h;obtain ⟨bc,q,W⟩:=h';have h:=True.intro;refine bO hJ [4,9,60,61,62,63,64,65,66,67,68,69,70,71] (fun m X F'=>∃(s:Addr->Option Value) (B:Bool) (t:Int),bg (mS u0 i) m (B,t)=some bc/\F'=⟨s,(d,.cells #[.int .i64 u0.steps,.int .i64 u0.au,.slice d3 u0.aj.length c4] 24)::[]⟩/\Ext y s/\slot X 4= .bool B/\slot X 9= .int .i64 t) fu ?_ ?_
 .refine ⟨y,false,0,q,rfl,Ext.refl _,?_⟩;simp only[*,go_sem,-h]
 rintro G u F' j ⟨s,B,t,q,rfl,C,dq,ds⟩;have h:=True.intro;refine iJ hJ fun _ H=>?_;have H:aP s ((d,.cells #[.int .i64 u0.steps,.int .i64 u0.au,.slice d3 u0.aj.length c4] 24)::[]):=H;replace c:=c.mono C;clear f;obtain ⟨_,_,f⟩:=c.op;replace a:=a.mono C;clear e;obtain ⟨_,_,e⟩:=a.op;replace g:=H.hd;replace b:=b.mono C;have dt:sz u=89:=by rw[j.size];simp only[*,go_sem,-h]
 have du:u.defers=[]:=by rw[j.defers];simp only[*,go_sem,-h]
 have dv:slot u 1= .int .u8 k:=by rw[j.ay 1 av];simp only[*,go_sem,-h]
 have dC:slot u 2= .pointer (some ⟨d,0,none⟩):=by rw[j.ay 2 av];simp only[*,go_sem,-h]
 have dE:slot u 5= .slice d21 i.1.length a3:=by rw[j.ay 5 av];simp only[*,go_sem,-h]
 clear j ae hd al k1;obtain _|G:=G
 .exact absurd q (by simp only[bg,reduceCtorEq,not_false_eq_true])
 have h':=an q;clear q h;obtain ⟨dT,h,w⟩:=h';unfold mS at h;try dsimp only at h
 apply af hJ;apply af hJ;apply ah hJ;apply aa _;have h':=aD h;clear h;rcases h' with ⟨I,h⟩|⟨I,h⟩
 .try simp only[Int.ofNat_lt] at I
  refine aN hJ ak ?_;apply aR hJ;apply af hJ;apply aY hJ;apply af hJ;refine cu hJ mixed 3 ⟨s,[(d,.cells #[.int .i64 u0.steps,.int .i64 u0.au,.slice d3 u0.aj.length c4] 24)]⟩ ak aT ?_;have h':=an h;clear h;obtain ⟨bd,bj,h⟩:=h';apply aa _;refine cz hJ _ (zh i.1 c t bj) fun v Y x J hR=>?_;obtain ⟨ea,rfl,Z⟩:=hR;have J:aP Y ((d,.cells #[.int .i64 u0.steps,.int .i64 u0.au,.slice d3 u0.aj.length c4] 24)::[]):=J;replace c:=c.mono x;clear f;obtain ⟨_,_,f⟩:=c.op;replace a:=a.mono x;clear e;obtain ⟨_,_,e⟩:=a.op;replace g:=J.hd;replace b:=b.mono x;obtain ⟨d74,eb,rfl,ec,ed,eh⟩:=id Z;have et:=fD (l:=[(d,.cells #[.int .i64 u0.steps,.int .i64 u0.au,.slice d3 u0.aj.length c4] 24)]) x (aP.cons g (aP.nil _));refine ⟨ak,?_⟩;refine g8 ?_;have h':=an h;clear h;obtain ⟨ev,bk,h⟩:=h';try apply aa _
  refine bp hJ _ (kS (b.mono aZ) u0 (a.mono aZ) bd (Z.mono aZ) bk) ⟨ak,g8 ?_⟩;try apply aa _
  have h':=aD h;clear h;rcases h' with ⟨D,h⟩|⟨D,h⟩
  ·(try simp only[Int.ofNat_lt] at D);refine aN hJ ak ?_;apply af hJ;apply ah hJ;apply aa _;have h':=Option.some.inj h;clear h;subst h';have h':=Option.some.inj w;clear w;subst h';have h:=W;dsimp only[aH] at h;cases h
  try simp only[Int.ofNat_lt] at D
  refine aM hJ ak ?_;rw[Bool.not_eq_false'] at D;apply aR hJ;apply ah hJ;apply aa _;have h':=Option.some.inj h;clear h;subst h';have h:=True.intro;try apply aa _
  refine ⟨G,Nat.lt_succ_self _,_,Le.sub (List.Sublist.refl _),Y,B,(IntKind.i64.wrap (t+1)),w,rfl,(C.trans x),?_⟩;simp only[*,go_sem,-h]
 try simp only[Int.ofNat_lt] at I
 refine aM hJ ak ?_;apply bI;simp only[go_sem];have h':=Option.some.inj h;clear h;subst h';have h':=Option.some.inj w;clear w;subst h';have h:=W;dsimp only[aH] at h;apply af hJ;apply ah hJ;have h':=an h;clear h;obtain ⟨ab,bm,h⟩:=h';apply aa _;refine cz hJ _ (uK k (u0.aj.length:Int) bm) fun v bo K L hR=>?_;obtain ⟨eQ,rfl,M⟩:=hR;have L:aP bo ((d,.cells #[.int .i64 u0.steps,.int .i64 u0.au,.slice d3 u0.aj.length c4] 24)::[]):=L;replace c:=c.mono K;clear f;obtain ⟨_,_,f⟩:=c.op;replace a:=a.mono K;clear e;obtain ⟨_,_,e⟩:=a.op;replace g:=L.hd;replace b:=b.mono K;obtain ⟨d90,eS,rfl,e0,e1,e2⟩:=id M;apply aS;try apply aa _
 apply af hJ;apply ah hJ;have h':=an h;clear h;obtain ⟨e3,br,h⟩:=h';apply aa _;refine bp hJ _ (kS (b.mono aZ) u0 (a.mono aZ) ab (M.mono aZ) br) (aS ?_);have h':=aD h;clear h;rcases h' with ⟨N,h⟩|⟨N,h⟩
 .try simp only[Int.ofNat_lt] at N
  have h':=an h;clear h;obtain ⟨fa,bs,h⟩:=h';try apply aa _
  refine kE _ (kZ b bs) (aS ?_);try apply aa _
  have h':=Option.some.inj h;clear h;subst h';apply aG;simp only[*,go_sem]
 try simp only[Int.ofNat_lt] at N
 have h':=an h;clear h;obtain ⟨fb,b0,h⟩:=h';try apply aa _
 refine bp hJ _ (zi ab (M.mono aZ) i.1 (c.mono aZ) b0) (aS ?_);have h':=aD h;clear h;rcases h' with ⟨O,h⟩|⟨O,h⟩
 .try simp only[Int.ofNat_lt] at O
  rw[Bool.not_eq_true'] at O;have h':=an h;clear h;obtain ⟨fc,b1,h⟩:=h';try apply aa _
  refine kE _ (kZ b b1) (aS ?_);try apply aa _
  have h':=Option.some.inj h;clear h;subst h';apply aG;simp only[*,go_sem]
 cases h
theorem IT {b:aL}(h:dw b)(f:fN b=some 0)(c:cZ b 0=false):∃m,j6 b=some (bW m,0)/\m<2 ^ b.aj.length/\cZ b (2 ^ b.aj.length - 1 - m)=false/\∀y,y<2 ^ b.aj.length->cZ b (2 ^ b.aj.length - 1 - y)=false->cP m<=cP y:=by
 have k:=h.many;have l:=j3 h;have o:1<=2 ^ b.aj.length:=Nat.one_le_two_pow
 obtain ⟨m,e,hm,g,i⟩:=A4 (is:=fun y0=>kW y0 b (((2 ^ b.aj.length - 1:Nat)):Int)) (p:=fun y=>!cZ b (2 ^ b.aj.length - 1 - y)) (n:=b.aj.length) ai (fun y a=>by
  show kW (y:Int) b _=_;unfold kW;rw[Ih _ ai y a,oH h ai]
  rfl) ⟨2 ^ b.aj.length - 1,ai,by rw[Nat.sub_self,c];rfl⟩
 refine ⟨m,?_,hm,by simpa using g,fun y a j=>i y a (by rw[j];rfl)⟩;unfold j6 oN;have d:=oH h (w:=0) ai;rw[show ((0:Nat):Int)=0 from rfl] at d;rw[f,d,c,Aq _ ai];simp only[ax];rw[zo ai,show (((2 ^ b.aj.length:Nat):Int) - 1)=((2 ^ b.aj.length - 1:Nat):Int) by omega,e];rfl
theorem IU (b:aL)(u:Int)(hu:0<=u/\u<=255):rC b u=some true:=by
 unfold rC;simp only[wR];obtain ⟨g,hg,hs⟩:=Aw b;rw[hg];cases g
 .rfl
 obtain ⟨hb,h,f,-⟩:=hs rfl;have y:=h.many;have z:=j3 h;have A:1<=2 ^ b.aj.length:=Nat.one_le_two_pow;have j:jQ u (b.aj.length:Int)=some (bW (u.toNat % 2 ^ b.aj.length)):=by
  have:=A0 b.aj.length ai u.toNat ai
  rwa [show ((u.toNat:Nat):Int)=u by omega] at this
 have ho:u.toNat % 2 ^ b.aj.length<2 ^ b.aj.length:=Nat.mod_lt _ ai;generalize u.toNat % 2 ^ b.aj.length=o at j ho;simp only[ax,Bool.not_true,cond_false];rw[wE hb h,j];cases d:cZ b 0
 .obtain ⟨m,e,hm,c,k⟩:=IT h f d;rw[e];have l:m≠0:=by
   rintro rfl;have:=wF h;rw[Nat.sub_zero] at c;rw[this] at c;cases c
  have hlen:(bW m).length≠0:=by
   rw[wB m ai];exact fun x=>l ((A2 m ai).1 x)
  have s:(((bW m).length:Int)==0)=false:=by simp;exact fun x=>hlen (by rw[x];rfl)
  simp only[wD _ ai m hm,s,oO hb h hm,oO hb h ho,c,show (m==0)=false by simpa using l];have key:bg (mS b (bW m,0)) fu (false,0)=some (c5 (cF (fun _=>(none:Option Bool)) (bW m).length) (false,((bW m).length:Int))):=by
   have n:=wB m ai;refine gQ _ (fun i=>(false,(i:Int))) (bW m).length (by rw[n];exact Nat.le_trans (List.length_filter_le _ _) aB) (fun i hi=>?_) ?_
   .obtain ⟨d1,d2,d3⟩:=AZ m ai i ai;have t:cZ b (2 ^ b.aj.length - 1 - mQ m i)=true:=by
     cases a:cZ b (2 ^ b.aj.length - 1 - mQ m i)
     .have:=k _ ai a;omega
     .rfl
    unfold mS;rw[hO hi,d1];simp only[cond,ax];rw[oO hb h ai,t,Bool.or_true,gR (by rw[n] at hi;have:pop m<=4:=Nat.le_trans (List.length_filter_le _ _) aB;omega)];rfl
   .unfold mS;rw[hU];rfl
  rw[key,gf.2 (fun _ _=>rfl)];simp only[c5,aH,A1 o ai m ai];cases q:(o==0||cZ b (2 ^ b.aj.length - 1 - o))
  .have a:cZ b (2 ^ b.aj.length - 1 - o)=false:=by
    cases a:cZ b (2 ^ b.aj.length - 1 - o)
    .rfl
    .rw[a,Bool.or_true] at q;cases q
   have:=k o ho a;rw[decide_eq_false (p:=cP o<cP m) ai];rfl
  .rfl
 .have e:j6 b=some ([],0):=by
   unfold j6;have r:=oH h (w:=0) ai;rw[show ((0:Nat):Int)=0 from rfl] at r;rw[f,r,d];rfl
  rw[e];have v:mc [] (b.aj.length:Int)=some 0:=wD b.aj.length ai 0 ai;simp only[v,oO hb h ho,Il h d (show 2 ^ b.aj.length - 1 - o<16 by omega),Bool.or_true];rfl
end Go.Proofs.YtcoalekambhghaaGreatDoor
end

/- A part of the proof: VD1. -/
import Derived.Test.YtcoalekambhghaaGreatDoorQT14
set_option linter.all false
section
namespace Go.Proofs.YtcoalekambhghaaGreatDoor
open Go Go.Sep Go.Proofs
set_option maxRecDepth 100000
set_option maxHeartbeats 4000000
def mT (u0:aL)(a:((List Int)×Int))(st:(Bool×Int)):Option (Fl (Bool×Int) Bool):=
 cond (decide (st.2<(a.1.length:Int))) (ax (oe a.1 st.2) fun b=>ax (mg (u0.aj.length:Int) b) fun c=>ax (gG u0 c) fun d=>cond (d) (some (.rt false)) (some (.nx (st.1,(IntKind.i64.wrap (st.2+1)))))) (some (.bk (st.1,st.2)))
def rD (u0:aL)(e:Int):Option Bool:=
 ax (me u0) fun f=>cond (!f) (ax (iy) fun g=>some g) (ax (kX u0) fun a=>ax (ju u0) fun b=>ax (kQ u0) fun c=>cond ((a.2 != 0)) (some false) (cond ((b.2 != 0)) (some false) (cond ((c.2 != 0)) (some false) (ax (mc a.1 (u0.aj.length:Int)) fun h=>cond ((h != 0)) (some false) (cond (!(c.1==((a.1.length:Int)==0))) (some false) (cond (!((decide (0<b.1))==(decide ((a.1.length:Int)<=u0.au)))) (some false) (ax (mg (u0.aj.length:Int) a.1) fun i=>ax (gG u0 i) fun j=>cond (!j) (some false) (ax (bg (mT u0 a) fu (false,0)) fun o=>aH o (fun q=>ax (jQ e (u0.aj.length:Int)) fun d=>ax (og d a.1) fun k=>cond (!k) (ax (iy) fun l=>some l) (ax (mg (u0.aj.length:Int) d) fun m=>ax (gG u0 m) fun n=>cond (!n) (ax (iy) fun p=>some p) (some false))) (fun _ _=>none) (fun r=>some r)))))))))
theorem IV {ro:Addr->Option Value}(b:dh ro)(u0:aL){s1:Value}(a:aI bK ro s1 u0.aj)(B:Int){r:Bool}(a6:r=true)(h:rD u0 B=some r):iG Tryz.prog 7 #[.agg #[.int .i64 u0.steps,.int .i64 u0.au,s1],.int .u8 B] ⟨ro,[]⟩ (fun v _=>v= .bool r):=by
 obtain ⟨d3,c4,rfl,dd,df,e⟩:=id a;subst a6;unfold rD at h;refine iG.go Tryz.func7 rfl Tryz.ntmps7 Tryz.results7 aB aT fun Φ hJ A a7 hd hs=>?_;have a8:=hs 0;have k1:=hs 1;clear hs;apply af hJ;apply ah hJ;apply aa _;intro d f8;have g:=aV f8;have a9:=aW f8;try simp only[aQ] at a9
 try apply aa _
 apply af hJ;apply af hJ;apply ah hJ;have h':=an h;clear h;obtain ⟨dk,ba,h⟩:=h';apply aa _;refine bp hJ _ (zg u0 (a.mono aZ) ba) (aS ?_);try apply aa _
 have h':=aD h;clear h;rcases h' with ⟨p,h⟩|⟨p,h⟩
 .try simp only[Int.ofNat_lt] at p
  refine aN hJ ak ?_;rw[Bool.not_eq_true'] at p;apply af hJ;apply ah hJ;have h':=an h;clear h;obtain ⟨dp,bb,h⟩:=h';apply aa _;refine kE _ (kZ b bb) (aS ?_);try apply aa _
  have h':=Option.some.inj h;clear h;subst h';apply aG;simp only[*,go_sem]
 try simp only[Int.ofNat_lt] at p
 refine aM hJ ak ?_;rw[Bool.not_eq_false'] at p;apply aR hJ;apply af hJ;apply ah hJ;have h':=an h;clear h;obtain ⟨i,bc,h⟩:=h';apply aa _;refine kD _ (wA b u0 a bc) fun v W X G hR=>?_;obtain ⟨dq,rfl,c⟩:=hR;have G:aP W ((d,.cells #[.int .i64 u0.steps,.int .i64 u0.au,.slice d3 u0.aj.length c4] 24)::[]):=G;replace a:=a.mono X;clear e;obtain ⟨_,_,e⟩:=a.op;replace g:=G.hd;replace b:=b.mono X;obtain ⟨d21,bd,rfl,ds,dt,f⟩:=id c;apply aS;try apply aa _
 apply af hJ;apply ah hJ;have h':=an h;clear h;obtain ⟨du,bj,h⟩:=h';apply aa _;refine bp hJ _ (oC (b.mono aZ) u0 (a.mono aZ) bj) (aS ?_);try apply aa _
 apply af hJ;apply ah hJ;have h':=an h;clear h;obtain ⟨dv,bk,h⟩:=h';apply aa _;refine bp hJ _ (vj (b.mono aZ) u0 (a.mono aZ) bk) (aS ?_);try apply aa _
 apply af hJ;apply af hJ;apply ah hJ;have h':=aD h;clear h;rcases h' with ⟨Y,h⟩|⟨Y,h⟩
 .cases h
 try simp only[Int.ofNat_lt] at Y
 have h':=aD h;clear h;rcases h' with ⟨Z,h⟩|⟨Z,h⟩
 .cases h
 try simp only[Int.ofNat_lt] at Z
 have h':=aD h;clear h;rcases h' with ⟨ab,h⟩|⟨ab,h⟩
 .cases h
 try simp only[Int.ofNat_lt] at ab
 have h':=an h;clear h;obtain ⟨dC,bm,h⟩:=h';try apply aa _
 refine bp hJ _ (zf i.1 (c.mono aZ) (u0.aj.length:Int) bm) (aS ?_);have h':=aD h;clear h;rcases h' with ⟨ad,h⟩|⟨ad,h⟩
 .cases h
 try simp only[Int.ofNat_lt] at ad
 have h':=aD h;clear h;rcases h' with ⟨H,h⟩|⟨H,h⟩
 .cases h
 try simp only[Int.ofNat_lt] at H
 rw[Bool.not_eq_false'] at H;try apply aa _
 have h':=aD h;clear h;rcases h' with ⟨I,h⟩|⟨I,h⟩
 .cases h
 try simp only[Int.ofNat_lt] at I
 refine aM hJ ak ?_;rw[Bool.not_eq_false'] at I;apply aR hJ;apply af hJ;apply af hJ;refine cu hJ mixed 5 ⟨W,[(d,.cells #[.int .i64 u0.steps,.int .i64 u0.au,.slice d3 u0.aj.length c4] 24)]⟩ ak aT ?_;have h':=an h;clear h;obtain ⟨bo,br,h⟩:=h';apply aa _;refine cz hJ _ (uI (u0.aj.length:Int) i.1 c br) fun v J C K hR=>?_;obtain ⟨dE,rfl,ae⟩:=hR;have K:aP J ((d,.cells #[.int .i64 u0.steps,.int .i64 u0.au,.slice d3 u0.aj.length c4] 24)::[]):=K;replace a:=a.mono C;clear e;obtain ⟨_,_,e⟩:=a.op;replace c:=c.mono C;clear f;obtain ⟨_,_,f⟩:=c.op;replace g:=K.hd;replace b:=b.mono C;obtain ⟨d45,dT,rfl,ea,eb,ec⟩:=id ae;have ed:=fD (l:=[(d,.cells #[.int .i64 u0.steps,.int .i64 u0.au,.slice d3 u0.aj.length c4] 24)]) C (aP.cons g (aP.nil _));refine ⟨ak,?_⟩;refine g8 ?_;have h':=an h;clear h;obtain ⟨eh,bs,h⟩:=h';try apply aa _
 refine bp hJ _ (kS (b.mono aZ) u0 (a.mono aZ) bo (ae.mono aZ) bs) ⟨ak,g8 ?_⟩;try apply aa _
 have h':=aD h;clear h;rcases h' with ⟨L,h⟩|⟨L,h⟩
 .cases h
 try simp only[Int.ofNat_lt] at L
 refine aM hJ ak ?_;rw[Bool.not_eq_false'] at L;apply aR hJ;apply af hJ;apply af hJ;apply ah hJ;apply aa _;apply aY hJ;have h':=an h;clear h;obtain ⟨b0,q,al⟩:=h';have h:=True.intro;refine bO hJ [4,11,75,76,77,78,79,80,81,82,83,84,85,86,87,88,89] (fun m ao F'=>∃(s:Addr->Option Value) (D:Bool) (t:Int),bg (mT u0 i) m (D,t)=some b0/\F'=⟨s,(d,.cells #[.int .i64 u0.steps,.int .i64 u0.au,.slice d3 u0.aj.length c4] 24)::[]⟩/\Ext J s/\slot ao 4= .bool D/\slot ao 11= .int .i64 t) fu ?_ ?_
 .refine ⟨J,false,0,q,rfl,Ext.refl _,?_⟩;simp only[*,go_sem,-h]
 rintro M u F' j ⟨s,D,t,q,rfl,E,et,ev⟩;have h:=True.intro;refine iJ hJ fun _ N=>?_;have N:aP s ((d,.cells #[.int .i64 u0.steps,.int .i64 u0.au,.slice d3 u0.aj.length c4] 24)::[]):=N;replace c:=c.mono E;clear f;obtain ⟨_,_,f⟩:=c.op;replace a:=a.mono E;clear e;obtain ⟨_,_,e⟩:=a.op;replace g:=N.hd;replace b:=b.mono E;have eQ:sz u=112:=by rw[j.size];simp only[*,go_sem,-h]
 have eS:u.defers=[]:=by rw[j.defers];simp only[*,go_sem,-h]
 have e0:slot u 1= .int .u8 B:=by rw[j.ay 1 av];simp only[*,go_sem,-h]
 have e1:slot u 2= .pointer (some ⟨d,0,none⟩):=by rw[j.ay 2 av];simp only[*,go_sem,-h]
 have e2:slot u 5= .slice d21 i.1.length bd:=by rw[j.ay 5 av];simp only[*,go_sem,-h]
 clear j a7 hd a8 k1;obtain _|M:=M
 .exact absurd q (by simp only[bg,reduceCtorEq,not_false_eq_true])
 have h':=an q;clear q h;obtain ⟨e3,h,w⟩:=h';unfold mT at h;try dsimp only at h
 apply af hJ;apply af hJ;apply ah hJ;apply aa _;have h':=aD h;clear h;rcases h' with ⟨O,h⟩|⟨O,h⟩
 .try simp only[Int.ofNat_lt] at O
  refine aN hJ ak ?_;apply aR hJ;apply af hJ;apply aY hJ;apply af hJ;refine cu hJ mixed 6 ⟨s,[(d,.cells #[.int .i64 u0.steps,.int .i64 u0.au,.slice d3 u0.aj.length c4] 24)]⟩ ak aT ?_;have h':=an h;clear h;obtain ⟨b1,b2,h⟩:=h';apply aa _;refine cz hJ _ (zh i.1 c t b2) fun v b3 k P hR=>?_;obtain ⟨fa,rfl,x⟩:=hR;have P:aP b3 ((d,.cells #[.int .i64 u0.steps,.int .i64 u0.au,.slice d3 u0.aj.length c4] 24)::[]):=P;replace c:=c.mono k;clear f;obtain ⟨_,_,f⟩:=c.op;replace a:=a.mono k;clear e;obtain ⟨_,_,e⟩:=a.op;replace g:=P.hd;replace b:=b.mono k;obtain ⟨d72,fb,rfl,fc,fg,ar⟩:=id x;have fh:=fD (l:=[(d,.cells #[.int .i64 u0.steps,.int .i64 u0.au,.slice d3 u0.aj.length c4] 24)]) k (aP.cons g (aP.nil _));refine ⟨ak,?_⟩;refine g8 ?_;have h':=an h;clear h;obtain ⟨b4,ca,h⟩:=h';try apply aa _
  refine cz hJ _ (uI (u0.aj.length:Int) b1 x ca) fun v a0 n Q hR=>?_;obtain ⟨fi,rfl,a2⟩:=hR;have Q:aP a0 ((d,.cells #[.int .i64 u0.steps,.int .i64 u0.au,.slice d3 u0.aj.length c4] 24)::[]):=Q;replace c:=c.mono n;clear f;obtain ⟨_,_,f⟩:=c.op;replace a:=a.mono n;clear e;obtain ⟨_,_,e⟩:=a.op;replace x:=x.mono n;clear ar;obtain ⟨_,_,ar⟩:=x.op;replace g:=Q.hd;replace b:=b.mono n;obtain ⟨d85,fj,rfl,fl,fp,fr⟩:=id a2;have fs:=fD (l:=[(d,.cells #[.int .i64 u0.steps,.int .i64 u0.au,.slice d3 u0.aj.length c4] 24)]) (k.trans n) (aP.cons g (aP.nil _));refine ⟨ak,?_⟩;refine g8 ?_;have h':=an h;clear h;obtain ⟨ft,cb,h⟩:=h';try apply aa _
  refine bp hJ _ (kS (b.mono aZ) u0 (a.mono aZ) b4 (a2.mono aZ) cb) ⟨ak,?_⟩;try apply aa _
  have h':=aD h;clear h;rcases h' with ⟨R,h⟩|⟨R,h⟩
  ·(try simp only[Int.ofNat_lt] at R);refine aN hJ ak ?_;apply af hJ;apply ah hJ;apply aa _;have h':=Option.some.inj h;clear h;subst h';have h':=Option.some.inj w;clear w;subst h';have h:=al;dsimp only[aH] at h;cases h
  try simp only[Int.ofNat_lt] at R
  refine aM hJ ak ?_;apply aR hJ;apply ah hJ;apply aa _;have h':=Option.some.inj h;clear h;subst h';have h:=True.intro;try apply aa _
  refine ⟨M,Nat.lt_succ_self _,_,Le.sub (List.Sublist.refl _),a0,D,(IntKind.i64.wrap (t+1)),w,rfl,(E.trans (k.trans n)),?_⟩;simp only[*,go_sem,-h]
 try simp only[Int.ofNat_lt] at O
 refine aM hJ ak ?_;apply bI;simp only[go_sem];have h':=Option.some.inj h;clear h;subst h';have h':=Option.some.inj w;clear w;subst h';have h:=al;dsimp only[aH] at h;apply af hJ;apply ah hJ;have h':=an h;clear h;obtain ⟨a3,cc,h⟩:=h';apply aa _;refine cz hJ _ (uK B (u0.aj.length:Int) cc) fun v cd S T hR=>?_;obtain ⟨fv,rfl,o⟩:=hR;have T:aP cd ((d,.cells #[.int .i64 u0.steps,.int .i64 u0.au,.slice d3 u0.aj.length c4] 24)::[]):=T;replace c:=c.mono S;clear f;obtain ⟨_,_,f⟩:=c.op;replace a:=a.mono S;clear e;obtain ⟨_,_,e⟩:=a.op;replace g:=T.hd;replace b:=b.mono S;obtain ⟨d101,fw,rfl,fx,fz,a4⟩:=id o;apply aS;try apply aa _
 apply af hJ;refine Ey hJ mixed 10 1 ak aT ?_;have h':=an h;clear h;obtain ⟨gg,cf,h⟩:=h';apply aa _;refine ⟨_,eo hJ fun F hF=>zi a3 (o.mono (lB hF)) i.1 (c.mono (lB hF)) cf,e6 ?_⟩;have h':=aD h;clear h;rcases h' with ⟨y,h⟩|⟨y,h⟩
 .try simp only[Int.ofNat_lt] at y
  rw[Bool.not_eq_true'] at y;have h':=an h;clear h;obtain ⟨gj,ck,h⟩:=h';try apply aa _
  refine kE _ (kZ b ck) ⟨ak,qv ?_⟩;try apply aa _
  have h':=Option.some.inj h;clear h;subst h';apply aG;simp only[*,go_sem]
 try simp only[Int.ofNat_lt] at y
 rw[Bool.not_eq_false'] at y;have h':=an h;clear h;obtain ⟨cl,cy,h⟩:=h';try apply aa _
 refine cz hJ _ (uI (u0.aj.length:Int) a3 o cy) fun v c0 z U hR=>?_;obtain ⟨gl,rfl,a5⟩:=hR;have U:aP c0 ((d,.cells #[.int .i64 u0.steps,.int .i64 u0.au,.slice d3 u0.aj.length c4] 24)::[]):=U;replace c:=c.mono z;clear f;obtain ⟨_,_,f⟩:=c.op;replace a:=a.mono z;clear e;obtain ⟨_,_,e⟩:=a.op;replace o:=o.mono z;clear a4;obtain ⟨_,_,a4⟩:=o.op;replace g:=U.hd;replace b:=b.mono z;obtain ⟨d118,gn,rfl,gp,gy,g0⟩:=id a5;have g1:=fD (l:=[(d,.cells #[.int .i64 u0.steps,.int .i64 u0.au,.slice d3 u0.aj.length c4] 24)]) z (aP.cons g (aP.nil _));refine ⟨ak,?_⟩;refine qv ?_;have h':=an h;clear h;obtain ⟨g2,da,h⟩:=h';try apply aa _
 refine bp hJ _ (kS (b.mono aZ) u0 (a.mono aZ) cl (a5.mono aZ) da) ⟨ak,qv ?_⟩;have h':=aD h;clear h;rcases h' with ⟨V,h⟩|⟨V,h⟩
 .try simp only[Int.ofNat_lt] at V
  rw[Bool.not_eq_true'] at V;have h':=an h;clear h;obtain ⟨g3,db,h⟩:=h';try apply aa _
  refine kE _ (kZ b db) ⟨ak,qv ?_⟩;try apply aa _
  have h':=Option.some.inj h;clear h;subst h';apply aG;simp only[*,go_sem]
 cases h
theorem IW {b:aL}(h:dw b)(a:fN b=some 0):∃m,kX b=some (bW m,0)/\m<2 ^ b.aj.length/\cZ b m=true/\∀y,y<2 ^ b.aj.length->cZ b y=true->cP m<=cP y:=by
 have f:=h.many;have g:=j3 h;have i:1<=2 ^ b.aj.length:=Nat.one_le_two_pow;obtain ⟨m,e,hm,c,d⟩:=A4 (is:=iW b) (p:=cZ b) (n:=b.aj.length) ai (fun y j=>oH h ai) ⟨2 ^ b.aj.length - 1,ai,wF h⟩;refine ⟨m,?_,hm,c,d⟩;unfold kX oN;rw[a,e];rfl
theorem Bf {b:aL}(h:dw b):(0<(iZ b).length)↔∃y,y<2 ^ b.aj.length/\cZ b y=true/\((pop y:Nat):Int)<=b.au:=by
 constructor
 .intro g;obtain ⟨v,hv⟩:=List.exists_mem_of_length_pos g;obtain ⟨w,d,a,c,i,j,f⟩:=Gt h hv;refine ⟨w,a,?_,c⟩;unfold cZ;cases e:vP b w with
  |nil=>rw[e] at f;cases f
  |cons _ _=>rfl
 .rintro ⟨y,d,a,c⟩;obtain ⟨v,hv⟩:∃v,v∈vP b y:=by
   unfold cZ at a;cases e:vP b y with
   |nil=>rw[e] at a;cases a
   |cons v l=>exact ⟨v,aB⟩
  have:v∈iZ b:=List.mem_flatMap.2 ⟨y,List.mem_range.2 d,by rw[if_pos c];exact hv⟩;exact List.length_pos_of_mem this
theorem IX (b:aL)(u:Int)(hu:0<=u/\u<=255):rD b u=some true:=by
 unfold rD;simp only[wR];obtain ⟨g,hg,hs⟩:=Aw b;rw[hg];cases g
 .rfl
 obtain ⟨hb,h,p,-⟩:=hs rfl;have J:=h.many;have K:=j3 h;have L:1<=2 ^ b.aj.length:=Nat.one_le_two_pow;have r:jQ u (b.aj.length:Int)=some (bW (u.toNat % 2 ^ b.aj.length)):=by
  have:=A0 b.aj.length ai u.toNat ai
  rwa [show ((u.toNat:Nat):Int)=u by omega] at this
 have ho:u.toNat % 2 ^ b.aj.length<2 ^ b.aj.length:=Nat.mod_lt _ ai;generalize u.toNat % 2 ^ b.aj.length=o at r ho;obtain ⟨m,e,hm,k,l⟩:=IW h p;have w:ju b=some (((iZ b).length:Int),0):=by
  unfold ju;rw[p,Gs h];rfl
 have s:=wB m ai;have M:pop m<=4:=Nat.le_trans (List.length_filter_le _ _) aB;have z:(cZ b 0==(((bW m).length:Int)==0))=true:=by
  have:cZ b 0=true↔m=0:=by
   constructor
   .intro f;have:=l 0 ai f;have N:cP 0=0:=rfl;exact zk m ai 0 ai ai
   .rintro rfl;exact k
  have d:(bW m).length=0↔m=0:=by rw[s];exact A2 m ai
  cases f:cZ b 0
  .have:(bW m).length≠0:=fun x=>by
    have:=this.2 (d.1 x);rw[f] at this;cases this
   have:(((bW m).length:Int)==0)=false:=by simp;intro x;exact this (by rw[x];rfl)
   rw[this];rfl
  .have:(bW m).length=0:=d.2 (this.1 f);rw[this];rfl
 have hn:(decide (0<((iZ b).length:Int))==decide (((bW m).length:Int)<=b.au))=true:=by
  have:0<((iZ b).length:Int)↔((bW m).length:Int)<=b.au:=by
   rw[s];constructor
   .intro t;obtain ⟨y,A,B,O⟩:=(Bf h).1 ai;have:=l y A B;rcases Nat.lt_or_ge (pop y) (pop m) with q|q
    .have:=Ig y ai m ai q;omega
    .omega
   .intro t;have:=(Bf h).2 ⟨m,hm,k,t⟩;omega
  by_cases c:0<((iZ b).length:Int)
  .rw[decide_eq_true c,decide_eq_true (this.1 c)];rfl
  .rw[decide_eq_false c,decide_eq_false fun x=>c (this.2 x)];rfl
 have v:∀y,y<2 ^ b.aj.length->2 ^ b.aj.length - 1 - (2 ^ b.aj.length - 1 - y)=y:=fun y j=>ai;have n:∀y,y<2 ^ b.aj.length->∃a,gG b (bW (2 ^ b.aj.length - 1 - y))=some a/\(cZ b y=true->a=true)/\(cP y<cP m->a=false):=by
  intro y j;refine ⟨_,oO hb h ai,fun c=>by rw[v y j,c,Bool.or_true],fun c=>?_⟩;rw[v y j];have d:cZ b y=false:=by
   cases C:cZ b y
   .rfl
   .have:=l y j C;omega
  have D:(2 ^ b.aj.length - 1 - y==0)=false:=by
   simp only[beq_eq_false_iff_ne];intro x;have:y=2 ^ b.aj.length - 1:=ai;rw[this,wF h] at d;cases d
  rw[d,D];rfl
 obtain ⟨am,a1,E,-⟩:=n m hm;obtain rfl:=E k;obtain ⟨P,F,-,G⟩:=n o ho;simp only[ax,Bool.not_true,cond_false];rw[e,w,wE hb h,r];simp only[wD _ ai m hm,z,hn,wC _ ai m hm,a1];have key:bg (mT b (bW m,0)) fu (false,0)=some (c5 (cF (fun _=>(none:Option Bool)) (bW m).length) (false,((bW m).length:Int))):=by
  refine gQ _ (fun i=>(false,(i:Int))) (bW m).length ai (fun i hi=>?_) ?_
  .obtain ⟨d1,d2,d3⟩:=AZ m ai i ai;obtain ⟨a,H,-,I⟩:=n (mQ m i) ai;obtain rfl:=I d3;unfold mT;rw[hO hi,d1];simp only[cond,ax];rw[wC _ ai _ ai];simp only;rw[H,gR ai];rfl
  .unfold mT;rw[hU];rfl
 rw[key,gf.2 (fun _ _=>rfl)];simp only[c5,aH,A1 o ai m ai,wC _ ai o ho,F];by_cases c:cP o<cP m
 .rw[decide_eq_true c,G c];rfl
 .rw[decide_eq_false c];rfl
end Go.Proofs.YtcoalekambhghaaGreatDoor
end

/- A part of the proof: VH1. -/
import Derived.Test.YtlchekhkopimhaaGreatDoorQT13
set_option linter.all false
section
namespace Go.Proofs.YtlchekhkopimhaaGreatDoor
open Go Go.Sep Go.Proofs
set_option maxRecDepth 100000
set_option maxHeartbeats 4000000
def m8 (u0:ax)(b:Int)(x9:aS)(st:(Int×Bool×Int×Int)):Option (Fl (Int×Bool×Int×Int) (Int×Bool)):=
 cond (decide (st.2.2.2<=x9.aD.high)) (ai (oH st.2.2.2) fun c=>ai (qT u0 b c) fun d=>ai (iG d) fun a=>cond ((a.2 != 0)) (some (.rt (0,false))) (some (.nx (st.1,st.2.1,(if st.2.2.1<a.1 then a.1 else st.2.2.1),(IntKind.i64.wrap (st.2.2.2+1)))))) (some (.bk (st.1,st.2.1,st.2.2.1,st.2.2.2)))
def m9 (u0:ax)(a:Int):Option (Int×Bool):=
 ai (bD u0.ak a) fun x9=>ai (aQ (m8 u0 a x9) fu (0,false,0,x9.aD.low)) fun o=>az o (fun b=>some (b.2.2.1,true)) (fun _ _=>none) (fun r=>some r)
theorem yO {ro:Addr->Option Value}(d:dw ro)(u0:ax){s1:Value}(e:aH bK ro s1 u0.ak)(t:Int){r:(Int×Bool)}(h:m9 u0 t=some r):aE Tryz.prog 37 #[cn u0 s1,.int .i64 t] ⟨ro,[]⟩ (fun v _=>v= .tuple #[.int .i64 r.1,.bool r.2]):=by
 obtain ⟨d3,c4,rfl,a0,a2,-⟩:=id e;unfold m9 at h;refine aE.go Tryz.func37 rfl Tryz.ntmps37 Tryz.results37 an fun main J hJ A N hd hs=>?_;have O:=hs 0;have k1:=hs 1;clear hs;apply aB hJ _;refine bf fun z B P=>?_;try simp only[aN] at P
 try apply ag _
 apply aB hJ _;refine ah hJ (aA hJ ?_);revert h;refine bS fun x9 Q h=>?_;obtain ⟨a3,a4,E⟩:=cG Q;obtain ⟨C,a5,R,S,c⟩:=e.el _ _ E;obtain ⟨a6,rfl,T⟩:=S;obtain ⟨d12,a7,rfl,a8,a9,ba⟩:=id T;cases R;have f:=c 0 _ rfl;simp only[go_sem] at f;have g:=c 1 _ rfl;simp only[go_sem] at g;have i:=c 2 _ rfl;simp only[go_sem] at i;have j:=c 3 _ rfl;simp only[go_sem] at j;have k:=c 4 _ rfl;simp only[go_sem] at k;have n:=c 5 _ rfl;simp only[go_sem] at n;have o:=c 6 _ rfl;simp only[go_sem] at o;clear c E;try apply ag _
 apply aU hJ;revert h;refine bS fun U u G=>?_;refine bP hJ (rg 17 25 (rg 4 6 [])) (fun m w F'=>∃(x:Addr->Option Value) (y:Int) (v20:Bool) (p:Int) (q:Int),aQ (m8 u0 t x9) m (y,v20,p,q)=some U/\F'=⟨x,(z,bB u0 (sl (some C) u0.ak c4))::[]⟩/\Ext ro x/\slot w 4= .int .i64 y/\slot w 5= .bool v20/\slot w 6= .int .i64 p/\slot w 7= .int .i64 q) fu ?_ ?_
 .refine ⟨ro,0,false,0,x9.aD.low,u,rfl,Ext.refl _,?_⟩;simp only[*,go_sem]
 rintro D bb F' H ⟨x,y,v20,p,q,u,rfl,a,bc,bd,bj,bk⟩;refine jf hJ fun _ I=>?_;replace e:=e.mono a;replace B:=I.hd;replace d:=d.mono a;simp only[bW] at I;replace f:=a _ _ f;replace g:=a _ _ g;replace i:=a _ _ i;replace j:=a _ _ j;replace k:=a _ _ k;replace n:=a _ _ n;replace o:=a _ _ o;obtain ⟨V,W,X⟩:=H.pick [1,2] aL;simp only[*,go_sem] at V W X;clear H N hd O k1;obtain _|D:=D
 .exact absurd u (by simp only[aQ,reduceCtorEq,not_false_eq_true])
 revert u;refine bS fun bm h s=>?_;unfold m8 at h;try dsimp only at h
 refine ah hJ (aA hJ ?_);apply ag _;revert h;refine aV hJ (fun Y h=>?_) fun Y h=>?_
 .refine aK hJ (ah hJ ?_);refine aU hJ (ah hJ ?_);refine ey hJ mixed [] (.rd 0 (.pure 1 (.pure 2 (.rd 3 (.one 4 (.one 5 (.pure 6 (.pure 7 (.pure 8 (.pure 9 (.pure 10 .done))))))))))) ⟨x,[(z,bB u0 (sl (some C) u0.ak c4))]⟩ bx aj ?_;revert h;refine bS fun Z ab h=>?_;apply ag _;refine ⟨_,dW hJ fun F hF=>wG q ab,gT ?_⟩;revert h;refine bS fun ad ae h=>?_;try apply ag _
  refine cN hJ _ (Ho u0 e t Z ae) fun v al b K hR=>?_;obtain ⟨bo,rfl,L⟩:=hR;replace B:=K.hd;replace d:=d.mono b;simp only[bW] at K;replace f:=b _ _ f;replace g:=b _ _ g;replace i:=b _ _ i;replace j:=b _ _ j;replace k:=b _ _ k;replace n:=b _ _ n;replace o:=b _ _ o;obtain ⟨d41,br,rfl,bs,b0,-⟩:=id L;have b1:=jh (l:=[(z,bB u0 (sl (some C) u0.ak c4))]) b (bg.cons B (bg.nil _));refine ⟨bx,?_⟩;refine gT ?_;revert h;refine bS fun M ao h=>?_;try apply ag _
  refine bh hJ _ (kz (d.mono aY) ad (L.mono aY) ao) ⟨bx,gT ?_⟩;try apply ag _
  refine ah hJ (aA hJ ?_);apply ag _;revert h;refine aV hJ (fun ar h=>?_) fun ar h=>?_
  .cases h;apply aB hJ _;obtain rfl:=sI s;clear s;have h:=G;dsimp only[az] at h;cases h;apply aO;simp only[*,go_sem]
  cases h;refine aK hJ (aG hJ ?_);apply ag _;apply aM hJ _;try apply ag _
  refine ⟨D,Nat.lt_succ_self _,_,Le.sub (List.Sublist.refl _),al,y,v20,(if p<M.1 then M.1 else p),(IntKind.i64.wrap (q+1)),s,rfl,(a.trans b),?_⟩;simp only[*,go_sem]
 cases h;apply bJ;simp only[go_sem];obtain rfl:=sI s;clear s;have h:=G;dsimp only[az] at h;cases h;apply aB hJ _;apply aO;simp only[*,go_sem]
def uu (u0:ax)(g:Int):Option Bool:=
 ai (mJ u0) fun x9=>cond (!x9) (ai (fy) fun h=>some h) (ai (lu u0) fun a=>ai (iG u0) fun b=>cond ((b.2 != 0)) (some false) (cond (!((a.2.2==0)==(decide (0<b.1)))) (some false) (cond ((a.2.2 != 0)) (cond ((a.2.2==9)) (cond ((a.1==0)) (cond ((a.2.1==0)) (ai (fy) fun i=>some i) (some false)) (some false)) (some false)) (ai (gV a.1 (-1) (IntKind.i64.wrap ((u0.ak.length:Int) - 1))) fun j=>cond (!j) (some false) (cond (!((decide (a.1<0))==(a.2.1==b.1))) (some false) (cond (decide (b.1<a.2.1)) (some false) (ai (fD (IntKind.i64.wrap g) (u0.ak.length:Int)) fun d=>ai (m9 u0 d) fun c=>cond (!c.2) (some false) (cond (decide (c.1<a.2.1)) (some false) (cond ((c.1==a.2.1)) (cond (decide (d<a.1)) (some false) (cond (decide (0<=a.1)) (ai (m9 u0 a.1) fun e=>cond (e.2) (cond (decide (a.1<0)) (ai (fy) fun k=>some k) (cond ((e.1==a.2.1)) (ai (fy) fun l=>some l) (some false))) (some false)) (cond (decide (a.1<0)) (ai (fy) fun m=>some m) (ai (fy) fun n=>some n)))) (cond (decide (0<=a.1)) (ai (m9 u0 a.1) fun f=>cond (f.2) (cond (decide (a.1<0)) (ai (fy) fun o=>some o) (cond ((f.1==a.2.1)) (ai (fy) fun p=>some p) (some false))) (some false)) (cond (decide (a.1<0)) (ai (fy) fun q=>some q) (some false))))))))))))
theorem L0 {ro:Addr->Option Value}(a:dw ro)(u0:ax){s1:Value}(c:aH bK ro s1 u0.ak)(j:Int){r:Bool}(t:r=true)(h:uu u0 j=some r):iu Tryz.prog 6 #[cn u0 s1,.int .u8 j] ⟨ro,[]⟩ (fun v _=>v= .bool r):=by
 obtain ⟨d3,c4,rfl,a3,a4,-⟩:=id c;subst t;unfold uu at h;refine iu.go Tryz.func6 rfl Tryz.ntmps6 Tryz.results6 an aj fun Φ hJ A u hd hs=>?_;have w:=hs 0;have k1:=hs 1;clear hs;apply aB hJ _;refine bf fun a5 a6 x=>?_;try simp only[aN] at x
 try apply ag _
 refine ah hJ (aA hJ ?_);revert h;refine bS fun x9 y h=>?_;apply ag _;refine bh hJ _ (wI u0 (c.mono aY) y) (aJ ?_);try apply ag _
 revert h;refine aV hJ (fun d h=>?_) fun d h=>?_
 .rw[Bool.not_eq_true'] at d;apply aA hJ;revert h;refine bS fun a7 z h=>?_;cases h;apply ag _;refine gu _ (gD a z) (aJ ?_);try apply ag _
  apply aO;simp only[*,go_sem]
 rw[Bool.not_eq_false'] at d;refine aK hJ (ah hJ ?_);apply aG hJ;revert h;refine bS fun e B h=>?_;apply ag _;refine bh hJ _ (BU (a.mono aY) u0 (c.mono aY) B) (aJ ?_);try apply ag _
 apply aA hJ;revert h;refine bS fun a8 C h=>?_;apply ag _;refine bh hJ _ (kz (a.mono aY) u0 (c.mono aY) C) (aJ ?_);try apply ag _
 refine ah hJ (aA hJ ?_);revert h;refine cS (fun D h=>?_) fun D h=>?_
 .cases h
 try apply ag _
 revert h;refine aV hJ (fun k h=>?_) fun k h=>?_
 .cases h
 rw[Bool.not_eq_false'] at k;refine aK hJ (ah hJ ?_);apply ah hJ;refine e5 [1,2,4,5,6,7,8] fun a9 l m n=>?_;simp only[*,go_sem] at l m n;clear u hd w k1;apply aM hJ _;revert h;refine aV hJ (fun E h=>?_) fun E h=>?_
 .apply aA hJ;revert h;refine cS (fun F h=>?_) fun F h=>?_
  .revert h;refine cS (fun G h=>?_) fun G h=>?_
   .revert h;refine cS (fun H h=>?_) fun H h=>?_
    .revert h;refine bS fun ba I h=>?_;cases h;(try apply ag _);refine gu _ (gD a I) (aJ ?_);(try apply ag _);apply aO;simp only[*,go_sem]
    cases h
   cases h
  cases h
 refine aK hJ (ah hJ ?_);apply aA hJ;revert h;refine bS fun bb J h=>?_;apply ag _;refine bh hJ _ (jl e.1 (-1) (IntKind.i64.wrap ((u0.ak.length:Int) - 1)) J) (aJ ?_);revert h;refine cS (fun o h=>?_) fun o h=>?_
 .cases h
 rw[Bool.not_eq_false'] at o;revert h;refine cS (fun b h=>?_) fun b h=>?_
 .cases h
 rw[Bool.not_eq_false'] at b;try apply ag _
 revert h;refine aV hJ (fun K h=>?_) fun K h=>?_
 .cases h
 refine aK hJ (ah hJ ?_);apply aG hJ;revert h;refine bS fun L p h=>?_;obtain ⟨bc,bd⟩:=jJ p;clear p;try apply ag _
 apply aA hJ;revert h;refine bS fun bj M h=>?_;apply ag _;refine bh hJ _ (yO (a.mono aY) u0 (c.mono aY) L M) (aJ ?_);try apply ag _
 refine ah hJ (ah hJ ?_);refine e5 [2,4,5,6,10,11,12] fun bk N O P=>?_;simp only[*,go_sem] at N O P;clear l m n;apply aG hJ;revert h;refine cS (fun q h=>?_) fun q h=>?_
 .cases h
 rw[Bool.not_eq_false'] at q;revert h;refine cS (fun Q h=>?_) fun Q h=>?_
 .cases h
 revert h;refine cS (fun R h=>?_) fun R h=>?_
 .try apply ag _
  revert h;refine aV hJ (fun S h=>?_) fun S h=>?_
  .cases h
  refine aK hJ (ah hJ ?_);apply aB hJ _;revert h;refine aV hJ (fun T h=>?_) fun T h=>?_
  .apply aG hJ;revert h;refine bS fun bm U h=>?_;apply ag _;refine bh hJ _ (yO (a.mono aY) u0 (c.mono aY) e.1 U) (aJ ?_);(try apply ag _);apply aA hJ;revert h;refine cS (fun V h=>?_) fun V h=>?_
   .revert h;refine cS (fun f h=>?_) fun f h=>?_
    ·(try rw[f] at b);revert h;refine bS fun bo W h=>?_;cases h;(try apply ag _);refine gu _ (gD a W) (aJ ?_);(try apply ag _);apply aO;simp only[*,go_sem]
    (try rw[f] at b);revert h;refine cS (fun X h=>?_) fun X h=>?_
    .revert h;refine bS fun br Y h=>?_;cases h;(try apply ag _);refine gu _ (gD a Y) (aJ ?_);(try apply ag _);apply aO;simp only[*,go_sem]
    cases h
   cases h
  refine aK hJ (ah hJ ?_);apply aG hJ;revert h;refine cS (fun g h=>?_) fun g h=>?_
  ·(try rw[g] at b);revert h;refine bS fun bs Z h=>?_;cases h;(try apply ag _);refine gu _ (gD a Z) (aJ ?_);(try apply ag _);apply aO;simp only[*,go_sem]
  try rw[g] at b
  revert h;refine bS fun b0 ab h=>?_;cases h;try apply ag _
  refine gu _ (gD a ab) (aJ ?_);try apply ag _
  apply aO;simp only[*,go_sem]
 try apply ag _
 refine cE hJ ?_;refine aK hJ (ah hJ ?_);apply aB hJ _;revert h;refine aV hJ (fun ad h=>?_) fun ad h=>?_
 .apply aG hJ;revert h;refine bS fun b1 ae h=>?_;apply ag _;refine bh hJ _ (yO (a.mono aY) u0 (c.mono aY) e.1 ae) (aJ ?_);try apply ag _
  apply aA hJ;revert h;refine cS (fun al h=>?_) fun al h=>?_
  .revert h;refine cS (fun i h=>?_) fun i h=>?_
   ·(try rw[i] at b);revert h;refine bS fun b2 ao h=>?_;cases h;(try apply ag _);refine gu _ (gD a ao) (aJ ?_);(try apply ag _);apply aO;simp only[*,go_sem]
   (try rw[i] at b);revert h;refine cS (fun ar h=>?_) fun ar h=>?_
   .revert h;refine bS fun b3 a0 h=>?_;cases h;(try apply ag _);refine gu _ (gD a a0) (aJ ?_);(try apply ag _);apply aO;simp only[*,go_sem]
   cases h
  cases h
 refine aK hJ (ah hJ ?_);apply aG hJ;revert h;refine cS (fun s h=>?_) fun s h=>?_
 .try rw[s] at b
  revert h;refine bS fun b4 a2 h=>?_;cases h;try apply ag _
  refine gu _ (gD a a2) (aJ ?_);try apply ag _
  apply aO;simp only[*,go_sem]
 cases h
def rE (x:aS)(c:bX):aS:=⟨x.name,x.from_,x.wide,c,x.marks⟩
def lJ (b:ax)(i:Nat)(y:aS):ax:=⟨b.steps,b.aR,b.ak.set i y⟩
def L1:ax:=⟨0,0,[]⟩
theorem yP {b:ax}{i:Nat}(hi:i<b.ak.length)(y:aS)(j:Nat):(lJ b i y).ak[j]?=if j=i then some y else b.ak[j]?:=by
 unfold lJ;simp only;rw[List.getElem?_set];by_cases e:i=j
 .subst e;rw[if_pos rfl,if_pos hi,if_pos rfl]
 .rw[if_neg e,if_neg (fun h=>e h.symm)]
theorem L2 {b:ax}(h:b8 b){i:Nat}{x y:aS}(c:b.ak[i]?=some x)(e1:y.name=x.name)(e2:y.wide=x.wide)(e3:y.marks=x.marks)(c1:g9 y.from_ x.from_)(c2:g9 y.aD x.aD):ej b (lJ b i y) where
 steps:=rfl
 aR:=⟨Int.le_refl _,h.aR.1⟩
 len:=by unfold lJ;simp
 each j z a:=by
  have hi:=(List.getElem?_eq_some_iff.1 c).1
  rw[yP hi]
  by_cases e:j=i
  .subst e
   rw[c] at a
   obtain rfl:=Option.some.inj a
   rw[if_pos rfl]
   exact ⟨y,rfl,e1,e2,e3,c1,c2⟩
  .rw[if_neg e]
   obtain ⟨⟨a1,d,f,g⟩,d1,d2,d3,d4⟩:=js h a
   exact ⟨z,a,rfl,rfl,rfl,⟨aa,aa,aa⟩,⟨aa,aa,aa⟩⟩
theorem L3 {b:ax}(h:b8 b){i:Nat}{x:aS}(a:b.ak[i]?=some x):g9 x.from_ x.from_/\g9 x.aD x.aD:=by
 obtain ⟨⟨a1,c,d,e⟩,d1,d2,d3,d4⟩:=js h a;exact ⟨⟨aa,aa,aa⟩,⟨aa,aa,aa⟩⟩
theorem Dy {b:ax}(h:b8 b){i:Nat}{x:aS}(a:b.ak[i]?=some x){c:bX}(d:g9 c x.aD):ej b (lJ b i (rE x c)):=
 L2 h a rfl rfl rfl (L3 h a).1 d
theorem L4 {b:ax}(h:b8 b){i:Nat}{x:aS}(d:b.ak[i]?=some x){c:bX}(f:g9 c x.aD):(bH (lJ b i (rE x c))).length=(bH b).countP fun v=>decide (c.low<=v.av.at i/\v.av.at i<=c.high):=by
 have hi:=(List.getElem?_eq_some_iff.1 d).1;refine (Dy h d f).count h _ fun v s=>?_;rw[decide_eq_true_eq];constructor
 .intro hv;refine ⟨fun j z a=>?_,s.mX⟩;rw[yP hi] at a;split at a
  .rename_i e;subst e;obtain rfl:=Option.some.inj a;have:=s.lE j x d;exact ⟨this.1,hv⟩
  .exact s.lE j z a
 .rintro ⟨g,_⟩;exact (g i (rE x c) (by rw[yP hi,if_pos rfl])).2
theorem Bs:gZ L1:=⟨aL,fun s hs=>by cases hs⟩
theorem L5 {b:ax}(hb:gZ b){i:Nat}{x:aS}(a:b.ak[i]?=some x)(c:bX):qT b (i:Int) c=some (lJ b i (rE x c)):=by
 have d:=hb.1;unfold qT;rw[s3 _ _ (by simp;omega)];simp only[ai,List.nil_append];rw[gk,a];simp only[Int.toNat_natCast];rfl
theorem Dz {a:bX}{k:Int}(h:a.low<=k/\k<=a.high):g9 ⟨k,k⟩ a:=⟨h.1,Int.le_refl _,h.2⟩
def dX (l:List aT)(i:Nat)(k:Int):Nat:=l.countP fun v=>decide (v.av.at i=k)
theorem uv (l:List aT)(v:aT)(i:Nat)(k:Int):dX (l++[v]) i k=dX l i k+if v.av.at i=k then 1 else 0:=by
 unfold dX;rw[List.countP_append,List.countP_cons,List.countP_nil];simp
def iZ (l:List aT)(i:Nat)(m:Nat):Prop:=(∀k,dX l i k<=m)/\(m=0\/∃k,dX l i k=m)
theorem DC {i:Nat}(hi:i<4):∀(r l:List aT) (j:Nat) (m:Nat) (M:List (Int×Int)),(l++r).length<=1000000->iZ l i m->(∀k,(cI M k).getD 0=(dX l i k:Int))->∃a b,b7 (mR i) j r ((m:Int),M)=some (.nx ((a:Nat),b))/\iZ (l++r) i a
 |[],l,j,m,M,_,hm,_=>⟨m,M,rfl,by simpa using hm⟩
 |v::r,l,j,m,M,c,hm,hM=>by
  have g:dX l i (v.av.at i)<=l.length:=List.countP_le_length
  simp only[List.length_append,List.length_cons] at c
  have d:iZ (l++[v]) i (if m<dX l i (v.av.at i)+1 then dX l i (v.av.at i)+1 else m):=by
   constructor
   .intro k
    rw[uv]
    have:=hm.1 k
    by_cases e:v.av.at i=k
    .subst e
     rw[if_pos rfl]
     split<;>omega
    .rw[if_neg e]
     split<;>omega
   .right
    by_cases e:m<dX l i (v.av.at i)+1
    .rw[if_pos e]
     exact ⟨v.av.at i,by rw[uv,if_pos rfl]⟩
    .rw[if_neg e]
     rcases hm.2 with n|⟨k,f⟩
     .omega
     .refine ⟨k,?_⟩
      rw[uv,if_neg,f,Nat.add_zero]
      rintro rfl
      omega
  have hb:mR i j v ((m:Int),M)=some (.nx (((if m<dX l i (v.av.at i)+1 then dX l i (v.av.at i)+1 else m:Nat):Int),cF M (v.av.at i) ((dX l i (v.av.at i)+1:Nat):Int))):=by
   unfold mR
   rw[aZ.get_at _ hi]
   simp only[ai]
   rw[hM,wr aa,mN]
   simp only[beq_self_eq_true,if_true,Option.getD_some]
   refine congrArg some (congrArg Fl.nx ?_)
   refine Prod.ext ?_ ?_
   .simp only
    by_cases e:m<dX l i (v.av.at i)+1
    .rw[if_pos e,if_pos aa];omega
    .rw[if_neg e,if_neg aa]
   .simp only
    rw[show ((dX l i (v.av.at i):Nat):Int)+1=((dX l i (v.av.at i)+1:Nat):Int) by omega]
  obtain ⟨a,b,e1,e2⟩:=DC hi r (l++[v]) (j+1) _ (cF M (v.av.at i) ((dX l i (v.av.at i)+1:Nat):Int)) (by simp only[List.length_append,List.length_cons,List.length_nil];omega) d (fun k=>by
   rw[mN,uv]
   by_cases e:v.av.at i=k
   .subst e
    rw[if_pos an,if_pos rfl]
    rfl
   .rw[if_neg (by simpa using fun h=>e h.symm),if_neg e,hM,Nat.add_zero])
  refine ⟨a,b,?_,by rw[List.append_assoc] at e2;exact e2⟩
  rw[mK,hb]
  exact e1
theorem DD {l:List aT}{i m b:Nat}(h:iZ l i m)(h':iZ l i b):m=b:=by
 have a:∀{m b:Nat},iZ l i m->iZ l i b->m<=b:=fun h h'=>by
  rcases h.2 with e|⟨k,e⟩
  .omega
  .rw[<-e];exact h'.1 k
 exact Nat.le_antisymm (a h h') (a h' h)
theorem L6 {l:List aT}{i m:Nat}(h:iZ l i m):m<=l.length:=by
 rcases h.2 with e|⟨k,e⟩
 .omega
 .rw[<-e];exact List.countP_le_length
structure yQ (M:Nat->Nat)(N n:Nat)(sk left:Int):Prop where
 none:sk<0->sk= -1/\left=N/\∀j,j<n->N<=M j
 some:0<=sk->sk.toNat<n/\left=M sk.toNat/\left<N/\(∀j,j<n->left<=M j)/\∀j,j<sk.toNat->left<M j
theorem L7 {x9:dD×Int}(l:x9.1.bF.length<=1000000):∀(n:Nat),n<=4->∃M:Nat->Nat,(∀i,i<n->iZ x9.1.bF i (M i))/\∀r:List aS,r.length=n->∃sk left,b7 (o5 x9) 0 r ((-1),(x9.1.bF.length:Int))=some (.nx (sk,left))/\yQ M x9.1.bF.length n sk left:=by
 intro n hn;have hM:∀i,∃m:Nat,i<4->(∃c,b7 (mR i) 0 x9.1.bF (0,[])=some (.nx ((m:Int),c)))/\iZ x9.1.bF i m:=by
  intro i;by_cases hi:i<4
  .obtain ⟨m,c,e1,e2⟩:=DC hi x9.1.bF [] 0 0 [] (by simpa using l) ⟨fun k=>by simp[dX],.inl rfl⟩ (fun k=>by simp[cI,dX]);exact ⟨m,fun _=>⟨⟨c,e1⟩,by simpa using e2⟩⟩
  .exact ⟨0,fun x=>absurd x hi⟩
 obtain ⟨M,hM⟩:=Classical.axiomOfChoice hM;refine ⟨M,fun i hi=>(hM i aa).2,fun r o=>?_⟩
 obtain ⟨s',e1,e2⟩:=Hy (f:=o5 x9) (fun i s=>yQ M x9.1.bF.length i s.1 s.2) r ((-1),(x9.1.bF.length:Int)) ⟨fun _=>⟨rfl,rfl,fun j b=>absurd b aa⟩,fun h=>absurd (show (0:Int)<= -1 from h) aL⟩ (fun i x s p hs=>by
  have hi:=(List.getElem?_eq_some_iff.1 p).1;obtain ⟨⟨c,t⟩,w⟩:=hM i aa;unfold o5;rw[t];simp only[ai,az];by_cases e:((M i:Nat):Int)<s.2
  .rw[decide_eq_true e];refine ⟨_,rfl,⟨fun h=>absurd h (by simp only;omega),fun _=>?_⟩⟩;simp only[Int.toNat_natCast];refine ⟨aa,by first|rfl|trivial,?_,?_,?_⟩
   .rcases Int.lt_or_le s.1 0 with q|q
    .have:=(hs.none q).2.1;omega
    .have:=(hs.some q).2.2.1;omega
   .intro j b;rcases Nat.lt_or_ge j i with q|q
    .rcases Int.lt_or_le s.1 0 with a|a
     .have:=(hs.none a).2.2 j q;have:=(hs.none a).2.1;omega
     .have:=(hs.some a).2.2.2.1 j q;omega
    .obtain rfl:j=i:=aa;omega
   .intro j b;rcases Int.lt_or_le s.1 0 with a|a
    .have:=(hs.none a).2.2 j b;have:=(hs.none a).2.1;omega
    .have:=(hs.some a).2.2.2.1 j b;omega
  .rw[decide_eq_false e];refine ⟨_,rfl,⟨fun h=>?_,fun h=>?_⟩⟩
   .obtain ⟨g,a,d⟩:=hs.none h;refine ⟨g,a,fun j b=>?_⟩;rcases Nat.lt_or_ge j i with q|q
    .exact d j q
    .obtain rfl:j=i:=aa;omega
   .obtain ⟨g,a,d,u,v⟩:=hs.some h;refine ⟨aa,a,d,fun j b=>?_,v⟩;rcases Nat.lt_or_ge j i with q|q
    .exact u j q
    .obtain rfl:j=i:=aa
     omega)
 exact ⟨s'.1,s'.2,e1,by rw[o] at e2;exact e2⟩
theorem L8 {b:ax}(h:b8 b)(a:ef b=some 0)(e:(bH b).length≠0):∃(M:Nat->Nat) (sk left:Int),lu b=some (sk,left,0)/\(∀i,i<b.ak.length->iZ (bH b) i (M i))/\yQ M (bH b).length b.ak.length sk left:=by
 have c:=h.many;have g:=xP h;obtain ⟨M,hM,d⟩:=L7 (x9:=((⟨b,bH b⟩:dD),0)) (by simp only;omega) b.ak.length c.2;obtain ⟨sk,left,e1,e2⟩:=d b.ak rfl;refine ⟨M,sk,left,?_,hM,e2⟩;unfold lu;rw[lC h a (f:=iA) rfl,if_neg e];simp only[ai];simp only at e1;rw[e1];rfl
theorem L9 {b:ax}(h:b8 b)(a:ef b=some 0)(e:(bH b).length=0):lu b=some (0,0,9):=by
 unfold lu;rw[lC h a (f:=iA) rfl,if_pos e];rfl
def ng (g:Nat->Nat):Nat->Nat
 |0=>0
 |n+1=>if ng g n<g n then g n else ng g n
theorem DF (g:Nat->Nat):∀n,(∀j:Nat,j<n->g j<=ng g n)/\(ng g n=0\/∃k,g k=ng g n)
 |0=>⟨fun j a=>absurd a aa,.inl rfl⟩
 |n+1=>by
  have ih:=DF g n
  unfold ng
  split
  .refine ⟨fun j a=>?_,.inr ⟨n,rfl⟩⟩
   rcases Nat.lt_or_ge j n with q|q
   .have:=ih.1 j q;omega
   .obtain rfl:j=n:=aa
    exact Nat.le_refl _
  .refine ⟨fun j a=>?_,ih.2⟩
   rcases Nat.lt_or_ge j n with q|q
   .exact ih.1 j q
   .obtain rfl:j=n:=aa
    omega
theorem DG {b:ax}(h:b8 b)(hb:gZ b){i:Nat}(hi:i<b.ak.length):∃m:Nat,m9 b (i:Int)=some ((m:Int),true)/\iZ (bH b) i m:=by
 have c:b.ak[i]?=some b.ak[i]:=List.getElem?_eq_getElem hi;have l:=js h c;generalize b.ak[i]=x at c l;obtain ⟨⟨a1,A,B,C⟩,c1,c2,c3,c4⟩:=l;have D:=yK h;have p:∀v∈bH b,x.aD.low<=v.av.at i/\v.av.at i<=x.aD.high:=fun v hv=>(((pq h).1 hv).lE i x c).2;obtain ⟨a,q,r,hm⟩:∃a:Nat->Nat,a 0=0/\(∀n:Nat,a (n+1)=if a n<dX (bH b) i (x.aD.low+(n:Int)) then dX (bH b) i (x.aD.low+(n:Int)) else a n)/\∀n:Nat,(∀j:Nat,j<n->dX (bH b) i (x.aD.low+(j:Int))<=a n)/\(a n=0\/∃k,dX (bH b) i k=a n):=by
  refine ⟨ng fun n=>dX (bH b) i (x.aD.low+(n:Int)),rfl,fun n=>rfl,fun n=>?_⟩;obtain ⟨s,t⟩:=DF (fun n=>dX (bH b) i (x.aD.low+(n:Int))) n;exact ⟨s,t.imp id fun ⟨k,e⟩=>⟨_,e⟩⟩
 refine ⟨a (dG x.aD),?_,fun k=>?_,(hm _).2⟩
 .unfold m9;rw[gk,c];simp only[ai];have key:aQ (m8 b (i:Int) x) fu (0,false,0,x.aD.low)=some (cP (cr (fun _=>(none:Option (Int×Bool))) (dG x.aD)) (0,false,((a (dG x.aD):Nat):Int),x.aD.low+(dG x.aD:Nat))):=by
   have e:=gz (f:=m8 b (i:Int) x) (fun _=>(none:Option (Int×Bool))) (fun j=>(0,false,((a j:Nat):Int),x.aD.low+(j:Int))) (dG x.aD) (by unfold dG;omega) (s':=(0,false,((a (dG x.aD):Nat):Int),x.aD.low+(dG x.aD:Nat))) (fun j u=>?_) ?_
   .simpa [q] using e
   .have g:x.aD.low+(j:Int)<=x.aD.high:=by unfold dG at u;omega
    have d:x.aD.low<=x.aD.low+(j:Int)/\x.aD.low+(j:Int)<=x.aD.high:=⟨aa,g⟩
    have o:=r j;unfold m8 oH mF;simp only;have w:IntKind.i64.wrap (x.aD.low+(j:Int)+1)=x.aD.low+((j+1:Nat):Int):=by rw[wr aa];omega
    rw[w];generalize E:x.aD.low+(j:Int)=k at d g o;rw[decide_eq_true g];simp only[cond,ai];have n:=Dy h c (Dz d);have y:=L4 h c (Dz d);have z:(bH (lJ b i (rE x ⟨k,k⟩))).length=dX (bH b) i k:=by
     rw[y];unfold dX;congr 1;funext v;simp only[decide_eq_decide];omega
    simp only[L5 hb c,rm (n.mY h) (n.check h hb).1,z];rw[o];refine congrArg some ?_;show Fl.nx _=Fl.nx _;congr 4;by_cases e:a j<dX (bH b) i k
    .rw[if_pos e,if_pos aa]
    .rw[if_neg e,if_neg aa]
   .unfold m8;simp only;rw[decide_eq_false (by unfold dG;omega)];rfl
  rw[key,fH.2 (fun _ _=>rfl)];rfl
 .by_cases d:x.aD.low<=k/\k<=x.aD.high
  .have:=(hm (dG x.aD)).1 (k - x.aD.low).toNat (by unfold dG;omega)
   rwa [show x.aD.low+(((k - x.aD.low).toNat:Nat):Int)=k by omega] at this
  .have:dX (bH b) i k=0:=by
    unfold dX;rw[List.countP_eq_zero];intro v hv;have:=p v hv;simp only[decide_eq_true_eq];omega
   omega
theorem Ma (b:ax)(d:Int)(s:0<=d/\d<=255):uu b d=some true:=by
 unfold uu;simp only[rC];obtain ⟨g,hg,hs⟩:=xQ b;rw[hg];cases g
 .rfl
 obtain ⟨hb,h,f,-⟩:=hs rfl;have t:=h.many;obtain ⟨i,hi,u⟩:=uo s t.1;simp only[ai,Bool.not_true,cond_false];rw[rm h f];by_cases e:(bH b).length=0
 .rw[L9 h f e,e];rfl
 obtain ⟨M,sk,left,e1,hM,n⟩:=L8 h f e;obtain ⟨m,v,w⟩:=DG h hb hi;obtain rfl:=DD w (hM i hi);rw[e1,u];simp only;rw[mM,wr aa,v,decide_eq_true (p:=(0:Int)<((bH b).length:Int)) aa];have D:=L6 (hM i hi);rcases Int.lt_or_le sk 0 with q|q
 .obtain ⟨a,c,o⟩:=n.none q;subst a c;have j:cQ (-1) (-1) ((b.ak.length:Int) - 1)=true:=by
   unfold cQ;simp;omega
  have:=o i hi;rw[j,decide_eq_false (p:=((bH b).length:Int)<((bH b).length:Int)) aa];simp only;rw[decide_eq_false (p:=((M i:Nat):Int)<((bH b).length:Int)) aa,decide_eq_false (p:=((i:Int)< -1)) aa];have x:(((M i:Nat):Int)==((bH b).length:Int))=true:=by simp;omega
  rw[x];simp
 .obtain ⟨a,c,o,y,r⟩:=n.some q;obtain ⟨k,rfl⟩:∃k:Nat,sk=(k:Int):=⟨sk.toNat,aa⟩
  simp only[Int.toNat_natCast] at a c r;subst c;obtain ⟨m2,z,A⟩:=DG h hb a;obtain rfl:=DD A (hM k a);have j:cQ (k:Int) (-1) ((b.ak.length:Int) - 1)=true:=by
   unfold cQ;simp;omega
  have E:=y i hi;have B:(((M k:Nat):Int)==((bH b).length:Int))=false:=by simp;omega
  have C:(((M i:Nat):Int)==((M k:Nat):Int))=true->decide ((i:Int)<(k:Int))=false:=by
   intro l;have:(M i:Int)=(M k:Int):=by simpa using l
   refine decide_eq_false fun F=>?_;have:=r i aa;omega
  rw[j,decide_eq_false (p:=((bH b).length:Int)<((M k:Nat):Int)) aa];simp only;rw[decide_eq_false (p:=((M i:Nat):Int)<((M k:Nat):Int)) aa,decide_eq_false (p:=((k:Int)<0)) aa,decide_eq_true (p:=(0:Int)<=(k:Int)) aa,B,z];cases l:(((M i:Nat):Int)==((M k:Nat):Int))
  .simp
  .rw[C l];simp
end Go.Proofs.YtlchekhkopimhaaGreatDoor
end

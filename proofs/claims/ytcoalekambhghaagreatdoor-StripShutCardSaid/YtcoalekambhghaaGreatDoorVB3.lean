/- A part of the proof: VB3. -/
import Derived.Test.YtcoalekambhghaaGreatDoorQS14
import Derived.Test.YtcoalekambhghaaGreatDoorVB2
set_option linter.all false
section
namespace Go.Proofs.YtcoalekambhghaaGreatDoor
open Go Go.Sep Go.Proofs
set_option maxRecDepth 100000
set_option maxHeartbeats 4000000
def nC (u0:aH)(b:((List Int)×Int))(st:(Bool×Bool×Int)):Option (Fl (Bool×Bool×Int) Bool):=
 cond (decide (st.2.2<u0.steps)) (ak (m3 u0 st.2.2) fun a=>cond ((a.2 != 0)) (some (.rt false)) (ak (kW b.1 st.2.2) fun c=>cond (!((a.1==2)==c)) (some (.rt false)) (cond (st.2.1) (some (.nx (st.1,(a.1==1),(IntKind.i64.wrap (st.2.2+1))))) (some (.nx (st.1,false,(IntKind.i64.wrap (st.2.2+1)))))))) (some (.bk (st.1,st.2.1,st.2.2)))
def r4 (u0:aH):Option Bool:=
 ak (oU u0) fun c=>cond (!c) (ak (gT) fun d=>some d) (ak (k4 u0) fun a=>ak (m0 u0) fun b=>cond ((a.2 != b.2)) (some false) (cond ((a.2 != 0)) (cond ((a.2==9)) (cond ((a.1==0)) (cond (((b.1.length:Int)==0)) (ak (gT) fun e=>some e) (some false)) (some false)) (some false)) (ak (aZ (nC u0 b) fu (false,true,0)) fun o=>aJ o (fun f=>cond (((a.1==1)==f.2.1)) (cond (((b.1.length:Int)==0)) (ak (jZ b.1 u0.steps) fun g=>cond ((g==0)) (ak (gT) fun h=>some h) (some false)) (cond ((a.1==2)) (ak (jZ b.1 u0.steps) fun i=>cond ((i==0)) (ak (gT) fun j=>some j) (some false)) (some false))) (some false)) (fun _ _=>none) (fun r=>some r))))
theorem Jh {ro:Addr->Option Value}(a:dB ro)(u0:aH){s1:Value}(b:aG bJ ro s1 u0.aj){r:Bool}(N:r=true)(h:r4 u0=some r):iM Tryz.prog 4 #[.agg #[.int .i64 u0.steps,.int .i64 u0.an,s1]] ⟨ro,[]⟩ (fun v _=>v= .bool r):=by
 obtain ⟨d3,c4,rfl,a2,a3,C⟩:=id b;subst N;unfold r4 at h;refine iM.go Tryz.func4 rfl Tryz.ntmps4 Tryz.results4 aB aS fun Φ hJ A O hd hs=>?_;have P:=hs 0;clear hs;apply af hJ;apply ah hJ;apply aa _;intro p f8;have Q:=aT f8;have R:=aU f8;try simp only[aN] at R
 try apply aa _
 apply af hJ;apply af hJ;apply ah hJ;have h':=av h;clear h;obtain ⟨a4,S,h⟩:=h';apply aa _;refine bl hJ _ (E5 u0 (b.mono aX) S) (aQ ?_);try apply aa _
 have h':=aD h;clear h;rcases h' with ⟨f,h⟩|⟨f,h⟩
 .try simp only[Int.ofNat_lt] at f
  refine aL hJ au ?_;rw[Bool.not_eq_true'] at f;apply af hJ;apply ah hJ;have h':=av h;clear h;obtain ⟨a5,T,h⟩:=h';apply aa _;refine jm _ (jH a T) (aQ ?_);try apply aa _
  have h':=Option.some.inj h;clear h;subst h';apply aI;simp only[*,go_sem]
 try simp only[Int.ofNat_lt] at f
 refine aM hJ au ?_;rw[Bool.not_eq_false'] at f;apply aR hJ;apply af hJ;apply ah hJ;have h':=av h;clear h;obtain ⟨U,V,h⟩:=h';apply aa _;refine bl hJ _ (vF (a.mono aX) u0 (b.mono aX) V) (aQ ?_);try apply aa _
 apply af hJ;apply ah hJ;have h':=av h;clear h;obtain ⟨g,W,h⟩:=h';apply aa _;refine cV hJ _ (Aq a u0 b W) fun v D E q hR=>?_;obtain ⟨a6,rfl,l⟩:=hR;have q:aW D ((p,.cells #[.int .i64 u0.steps,.int .i64 u0.an,.slice d3 u0.aj.length c4] 24)::[]):=q;replace b:=b.mono E;clear C;obtain ⟨_,_,C⟩:=b.op;replace Q:=q.hd;replace a:=a.mono E;obtain ⟨d23,X,rfl,a7,a8,a9⟩:=id l;apply aQ;try apply aa _
 apply af hJ;apply af hJ;apply ah hJ;apply aa _;have h':=aD h;clear h;rcases h' with ⟨F,h⟩|⟨F,h⟩
 .cases h
 try simp only[Int.ofNat_lt] at F
 refine aM hJ au ?_;apply aR hJ;apply af hJ;apply af hJ;apply ah hJ;apply aa _;have h':=aD h;clear h;rcases h' with ⟨s,h⟩|⟨s,h⟩
 .try simp only[Int.ofNat_lt] at s
  refine aL hJ au ?_;apply af hJ;apply ah hJ;have h':=aD h;clear h;rcases h' with ⟨G,h⟩|⟨G,h⟩
  ·(try simp only[Int.ofNat_lt] at G);have h':=aD h;clear h;rcases h' with ⟨H,h⟩|⟨H,h⟩
   ·(try simp only[Int.ofNat_lt] at H);have h':=aD h;clear h;rcases h' with ⟨I,h⟩|⟨I,h⟩
    ·(try simp only[Int.ofNat_lt] at I);have h':=av h;clear h;obtain ⟨ba,Y,h⟩:=h';(try apply aa _);refine jm _ (jH a Y) (aQ ?_);(try apply aa _);have h':=Option.some.inj h;clear h;subst h';apply aI;simp only[*,go_sem]
    cases h
   cases h
  cases h
 try simp only[Int.ofNat_lt] at s
 refine aM hJ au ?_;apply aR hJ;apply af hJ;apply ah hJ;apply aa _;apply af hJ;apply af hJ;apply ah hJ;apply aa _;apply bf hJ;have h':=av h;clear h;obtain ⟨Z,i,t⟩:=h';have h:=True.intro;refine bO hJ [2,7,8,9,10,44,45,46,47,48,49,50,51,52,53,54,55,56,57,58,59,60,61,62,63,64,65,66,67,68,69,70] (fun m u F'=>∃(j:Bool) (w:Bool) (d:Int),aZ (nC u0 g) m (j,w,d)=some Z/\F'=⟨D,(p,.cells #[.int .i64 u0.steps,.int .i64 u0.an,.slice d3 u0.aj.length c4] 24)::[]⟩/\slot u 2= .bool j/\slot u 7= .bool w/\slot u 8= .int .i64 d) fu ?_ ?_
 .refine ⟨false,true,0,i,rfl,?_⟩;simp only[*,go_sem,-h]
 rintro n k F' e ⟨j,w,d,i,rfl,bb,bc,bd⟩;have h:=True.intro;have bj:sz k=94:=by rw[e.size];simp only[*,go_sem,-h]
 have bk:k.defers=[]:=by rw[e.defers];simp only[*,go_sem,-h]
 have bm:slot k 1= .pointer (some ⟨p,0,none⟩):=by rw[e.aA 1 ay];simp only[*,go_sem,-h]
 have bo:slot k 3= .int .i64 U.1:=by rw[e.aA 3 ay];simp only[*,go_sem,-h]
 have br:slot k 5= .slice d23 g.1.length X:=by rw[e.aA 5 ay];simp only[*,go_sem,-h]
 clear e O hd P;obtain _|n:=n
 .exact absurd i (by simp only[aZ,reduceCtorEq,not_false_eq_true])
 have h':=av i;clear i h;obtain ⟨bs,h,c⟩:=h';unfold nC at h;try dsimp only at h
 apply af hJ;apply af hJ;apply ah hJ;apply aa _;have h':=aD h;clear h;rcases h' with ⟨x,h⟩|⟨x,h⟩
 .try simp only[Int.ofNat_lt] at x
  refine aL hJ au ?_;apply aR hJ;apply af hJ;apply bf hJ;apply af hJ;apply ah hJ;have h':=av h;clear h;obtain ⟨ab,ad,h⟩:=h';apply aa _;refine bl hJ _ (Ar (a.mono aX) u0 (b.mono aX) d ad) (aQ ?_);try apply aa _
  apply af hJ;apply af hJ;apply ah hJ;have h':=aD h;clear h;rcases h' with ⟨y,h⟩|⟨y,h⟩
  ·(try simp only[Int.ofNat_lt] at y);(try apply aa _);refine aL hJ au ?_;apply af hJ;apply ah hJ;apply aa _;have h':=Option.some.inj h;clear h;subst h';have h':=Option.some.inj c;clear c;subst h';have h:=t;dsimp only[aJ] at h;cases h
  try simp only[Int.ofNat_lt] at y
  have h':=av h;clear h;obtain ⟨b0,ae,h⟩:=h';try apply aa _
  refine bl hJ _ (uX g.1 (l.mono aX) d ae) (aQ ?_);try apply aa _
  have h':=aD h;clear h;rcases h' with ⟨o,h⟩|⟨o,h⟩
  ·(try simp only[Int.ofNat_lt] at o);refine aL hJ au ?_;apply af hJ;apply ah hJ;apply aa _;have h':=Option.some.inj h;clear h;subst h';have h':=Option.some.inj c;clear c;subst h';have h:=t;dsimp only[aJ] at h;cases h
  try simp only[Int.ofNat_lt] at o
  refine aM hJ au ?_;rw[Bool.not_eq_false'] at o;apply aR hJ;apply ah hJ;have h':=aD h;clear h;rcases h' with ⟨z,h⟩|⟨z,h⟩
  ·(try simp only[Int.ofNat_lt] at z);(try apply aa _);apply ah hJ;apply aa _;have h':=Option.some.inj h;clear h;subst h';have h:=True.intro;(try apply aa _);refine ⟨n,Nat.lt_succ_self _,_,Le.sub (List.Sublist.refl _),j,(ab.1==1),(IntKind.i64.wrap (d+1)),c,rfl,?_⟩;simp only[*,go_sem,-h]
  try simp only[Int.ofNat_lt] at z
  try apply aa _
  apply ah hJ;apply aa _;have h':=Option.some.inj h;clear h;subst h';have h:=True.intro;try apply aa _
  refine ⟨n,Nat.lt_succ_self _,_,Le.sub (List.Sublist.refl _),j,false,(IntKind.i64.wrap (d+1)),c,rfl,?_⟩;simp only[*,go_sem,-h]
 try simp only[Int.ofNat_lt] at x
 refine aM hJ au ?_;apply bM;simp only[go_sem];have h':=Option.some.inj h;clear h;subst h';have h':=Option.some.inj c;clear c;subst h';have h:=t;dsimp only[aJ] at h;apply af hJ;apply ah hJ;have h':=aD h;clear h;rcases h' with ⟨J,h⟩|⟨J,h⟩
 .try simp only[Int.ofNat_lt] at J
  have h':=aD h;clear h;rcases h' with ⟨B,h⟩|⟨B,h⟩
  ·(try simp only[Int.ofNat_lt] at B);have h':=av h;clear h;obtain ⟨b1,al,h⟩:=h';(try apply aa _);refine bl hJ _ (uW g.1 (l.mono aX) u0.steps al) (aQ ?_);have h':=aD h;clear h;rcases h' with ⟨K,h⟩|⟨K,h⟩
   ·(try simp only[Int.ofNat_lt] at K);have h':=av h;clear h;obtain ⟨b2,ao,h⟩:=h';(try apply aa _);refine jm _ (jH a ao) (aQ ?_);(try apply aa _);have h':=Option.some.inj h;clear h;subst h';apply aI;simp only[*,go_sem]
   cases h
  try simp only[Int.ofNat_lt] at B
  have h':=aD h;clear h;rcases h' with ⟨L,h⟩|⟨L,h⟩
  ·(try simp only[Int.ofNat_lt] at L);have h':=av h;clear h;obtain ⟨b3,ar,h⟩:=h';(try apply aa _);refine bl hJ _ (uW g.1 (l.mono aX) u0.steps ar) (aQ ?_);have h':=aD h;clear h;rcases h' with ⟨M,h⟩|⟨M,h⟩
   ·(try simp only[Int.ofNat_lt] at M);have h':=av h;clear h;obtain ⟨b4,a0,h⟩:=h';(try apply aa _);refine jm _ (jH a a0) (aQ ?_);(try apply aa _);have h':=Option.some.inj h;clear h;subst h';apply aI;simp only[*,go_sem]
   cases h
  cases h
 cases h
theorem Ji (b:aH):r4 b=some true:=by
 unfold r4;simp only[w8];obtain ⟨g,hg,hs⟩:=G5 b;rw[hg];cases g
 .rfl
 obtain ⟨hb,h,c,-⟩:=hs rfl;have z:=h.steps;simp only[ak,Bool.not_true,cond_false];rw[G7 h c,He h c];by_cases e:(cD b).length=0
 .rw[if_pos e,if_pos e];rfl
 rw[if_neg e,if_neg e];simp only;have hle:∀p:bg->Bool,(cD b).countP p<=(cD b).length:=fun p=>List.countP_le_length
 let W:Nat->Int:=fun j=>gR ((cD b).countP fun v=>cv b v j) (cD b).length
 have hW:∀j,(W j=1↔∀v∈cD b,cv b v j=true)/\(W j=2↔∀v∈cD b,cv b v j=false):=by
  intro j;obtain ⟨y,n⟩:=AY (hle fun v=>cv b v j) e;refine ⟨y.trans ?_,n.trans ?_⟩
  .exact List.countP_eq_length
  .rw[List.countP_eq_zero];simp
 obtain ⟨cy,m⟩:=AY (hle (cl b)) e;have key:aZ (nC b (ei b b.steps.toNat,0)) fu (false,true,0)=some (cg (b6 (fun _=>(none:Option Bool)) b.steps.toNat) (false,(List.range b.steps.toNat).all (fun j=>W j==1),(b.steps.toNat:Int))):=by
  refine eF _ (fun i=>(false,(List.range i).all (fun j=>W j==1),(i:Int))) b.steps.toNat ai (fun i hi=>?_) ?_
  .unfold nC;rw[decide_eq_true (p:=(i:Int)<b.steps) ai];simp only[cond];have o:=wu b b.steps.toNat;rw[G8 h c hi,if_neg e,AD _ _ (show (ei b b.steps.toNat).length<=1000000 by omega),ez ai];simp only[ak];have d:((W i==2)==decide ((i:Int)∈ei b b.steps.toNat))=true:=by
    have:(W i=2)↔(i:Int)∈ei b b.steps.toNat:=by
     rw[(hW i).2,AV];exact ⟨fun x=>⟨hi,x⟩,fun x=>x.2⟩
    by_cases hm:(i:Int)∈ei b b.steps.toNat
    .rw[decide_eq_true hm,this.2 hm];rfl
    .rw[decide_eq_false hm];have:¬W i=2:=fun x=>hm (this.1 x);simp[this]
   have q:(List.range (i+1)).all (fun j=>W j==1)=((List.range i).all (fun j=>W j==1)&&(W i==1)):=by
    rw[List.range_succ,List.all_append];simp
   rw[q];show (match (match _ with|true=>_|false=>_) with|true=>_|false=>_:Option _)=_;simp only[show (gR ((cD b).countP fun v=>cv b v i) (cD b).length)=W i from rfl,d];cases (List.range i).all (fun j=>W j==1)<;>rfl
  .unfold nC;rw[decide_eq_false (p:=((b.steps.toNat:Nat):Int)<b.steps) ai];rfl
 rw[key,eE.2 (fun _ _=>rfl)];have r:((gR ((cD b).countP (cl b)) (cD b).length==1)==(List.range b.steps.toNat).all fun j=>W j==1)=true:=by
  have:gR ((cD b).countP (cl b)) (cD b).length=1↔(List.range b.steps.toNat).all (fun j=>W j==1)=true:=by
   rw[cy,List.countP_eq_length,List.all_eq_true];constructor
   .intro x j a;simpa using (hW j).1.2 fun v hv=>(wq v).1 (x v hv) j (List.mem_range.1 a)
   .intro x v hv;exact (wq v).2 fun j a=>(hW j).1.1 (by simpa using x j (List.mem_range.2 a)) v hv
  by_cases hm:gR ((cD b).countP (cl b)) (cD b).length=1
  .rw[this.1 hm,hm];rfl
  .have f:(List.range b.steps.toNat).all (fun j=>W j==1)=false:=by
    cases s:(List.range b.steps.toNat).all (fun j=>W j==1)
    .rfl
    .exact absurd (this.2 s) hm
   rw[f];simp[hm]
 have t:jZ (ei b b.steps.toNat) b.steps=some 0:=by
  have o:=wu b b.steps.toNat;have:=AF (l:=ei b b.steps.toNat) (n:=b.steps) ai ai;rw[this,show b.steps=((b.steps.toNat:Nat):Int) by omega];simp only[Int.toNat_natCast];rw[AW]
 simp only[cg,aJ,r,t];by_cases u:(ei b b.steps.toNat).length=0
 .rw[u];rfl
 .have d:gR ((cD b).countP (cl b)) (cD b).length=2:=by
   rw[m,List.countP_eq_zero];intro v hv w;obtain ⟨x,k⟩:∃x,x∈ei b b.steps.toNat:=List.exists_mem_of_length_pos ai;obtain ⟨j,a,rfl⟩:∃j:Nat,j<b.steps.toNat/\(j:Int)=x:=by
    obtain ⟨A,f⟩:=(we.1 (AW b b.steps.toNat))
    have:=f x k;exact ⟨x.toNat,ai,ai⟩
   have:=((AV b _ j).1 k).2 v hv;rw[(wq v).1 w j a] at this;cases this
  rw[d];cases ((((ei b b.steps.toNat).length:Int))==0)<;>rfl
end Go.Proofs.YtcoalekambhghaaGreatDoor
end

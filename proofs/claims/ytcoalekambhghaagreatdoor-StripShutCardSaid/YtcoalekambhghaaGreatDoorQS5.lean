/- A part of the proof: QS5. -/
import Derived.Test.YtcoalekambhghaaGreatDoorQS4
set_option linter.all false
section
namespace Go.Proofs.YtcoalekambhghaaGreatDoor
open Go Go.Sep Go.Proofs
set_option maxRecDepth 100000
set_option maxHeartbeats 4000000
def mj (u0:bp)(st:(Bool×Int)):Option (Fl (Bool×Int) Bool):=
 cond (decide (st.2<(u0.marks.length:Int))) (ak (bI u0.marks st.2) fun a=>cond (decide (100<((a.bH).length:Int))) (some (.rt true)) (some (.nx (st.1,(IntKind.i64.wrap (st.2+1)))))) (some (.bk (st.1,st.2)))
def mm (u0:bp):Option Bool:=
 cond (decide (100<((u0.name).length:Int))) (some true) (cond (decide (20<(u0.marks.length:Int))) (some true) (ak (aZ (mj u0) fu (false,0)) fun o=>aJ o (fun a=>some false) (fun _ _=>none) (fun r=>some r)))
theorem EX {ro:Addr->Option Value}(u0:bp){s1:Value}(s:aG dO ro s1 u0.marks){r:Bool}(h:mm u0=some r):aF Tryz.prog 27 #[.agg #[.string ⟨⟨u0.name⟩⟩,.int .i64 u0.from_.low,.int .i64 u0.from_.high,.int .i64 u0.wide,.int .i64 u0.aC.low,.int .i64 u0.aC.high,s1]] ⟨ro,[]⟩ (fun v _=>v= .bool r):=by
 obtain ⟨d3,c4,rfl,I,K,t⟩:=id s;unfold mm at h;refine aF.go Tryz.func27 rfl Tryz.ntmps27 Tryz.results27 aB fun main J hJ A u hd hs=>?_;have w:=hs 0;clear hs;refine af hJ ?_;refine ah hJ ?_;apply aa _;intro n f8;have L:=aT f8;have x:=aU f8;try simp only[aN] at x
 try apply aa _
 refine af hJ ?_;refine af hJ ?_;refine ah hJ ?_;have h':=aD h;clear h;rcases h' with ⟨f,h⟩|⟨f,h⟩
 .try simp only[Int.ofNat_lt] at f
  try apply aa _
  refine aL hJ au ?_;refine af hJ ?_;refine ah hJ ?_;apply aa _;have h':=Option.some.inj h;clear h;subst h';refine aI ?_;simp only[*,go_sem]
 try simp only[Int.ofNat_lt] at f
 try apply aa _
 have h':=aD h;clear h;rcases h' with ⟨g,h⟩|⟨g,h⟩
 .try simp only[Int.ofNat_lt] at g
  refine aL hJ au ?_;refine af hJ ?_;refine ah hJ ?_;apply aa _;have h':=Option.some.inj h;clear h;subst h';refine aI ?_;simp only[*,go_sem]
 try simp only[Int.ofNat_lt] at g
 refine aM hJ au ?_;refine aR hJ ?_;refine af hJ ?_;refine af hJ ?_;refine ah hJ ?_;apply aa _;refine bf hJ ?_;have h':=av h;clear h;obtain ⟨y,a,o⟩:=h';have h:=True.intro;refine bO hJ [2,3,14,15,16,17,18,19,20,21,22,23,24,25,26,27,28] (fun m p F'=>∃(v11:Bool) (c:Int),aZ (mj u0) m (v11,c)=some y/\F'=⟨ro,(n,.cells #[.string ⟨⟨u0.name⟩⟩,.int .i64 u0.from_.low,.int .i64 u0.from_.high,.int .i64 u0.wide,.int .i64 u0.aC.low,.int .i64 u0.aC.high,.slice d3 u0.marks.length c4] 56)::[]⟩/\slot p 2= .bool v11/\slot p 3= .int .i64 c) fu ?_ ?_
 .refine ⟨false,0,a,rfl,?_⟩;simp only[*,go_sem,-h]
 rintro i j F' d ⟨v11,c,a,rfl,M,N⟩;have h:=True.intro;have O:sz j=29:=by rw[d.size];simp only[*,go_sem,-h]
 have P:j.defers=[]:=by rw[d.defers];simp only[*,go_sem,-h]
 have Q:slot j 1= .pointer (some ⟨n,0,none⟩):=by rw[d.aA 1 ay];simp only[*,go_sem,-h]
 clear d u hd w;obtain _|i:=i
 .exact absurd a (by simp only[aZ,reduceCtorEq,not_false_eq_true])
 have h':=av a;clear a h;obtain ⟨R,h,b⟩:=h';unfold mj at h;try dsimp only at h
 refine af hJ ?_;refine af hJ ?_;refine ah hJ ?_;apply aa _;have h':=aD h;clear h;rcases h' with ⟨k,h⟩|⟨k,h⟩
 .try simp only[Int.ofNat_lt] at k
  refine aL hJ au ?_;refine aR hJ ?_;refine af hJ ?_;refine bf hJ ?_;refine af hJ ?_;refine ah hJ ?_;have h':=av h;clear h;obtain ⟨z,B,h⟩:=h';obtain ⟨S,T,q⟩:=cI B;obtain ⟨U,C,D,E,e⟩:=t _ _ q;obtain rfl:C=z.cells:=E;cases D;have F:=e 0 _ rfl;simp only[go_sem] at F;have G:=e 1 _ rfl;simp only[go_sem] at G;have H:=e 2 _ rfl;simp only[go_sem] at H;clear e q;try apply aa _
  have h':=aD h;clear h;rcases h' with ⟨l,h⟩|⟨l,h⟩
  ·(try simp only[Int.ofNat_lt] at l);refine aL hJ au ?_;refine af hJ ?_;refine ah hJ ?_;apply aa _;have h':=Option.some.inj h;clear h;subst h';have h':=Option.some.inj b;clear b;subst h';have h:=o;dsimp only[aJ] at h;have h':=Option.some.inj h;clear h;subst h';refine aI ?_;simp only[*,go_sem]
  try simp only[Int.ofNat_lt] at l
  refine aM hJ au ?_;refine aR hJ ?_;refine ah hJ ?_;apply aa _;have h':=Option.some.inj h;clear h;subst h';have h:=True.intro;try apply aa _
  refine ⟨i,Nat.lt_succ_self _,_,Le.sub (List.Sublist.refl _),v11,(IntKind.i64.wrap (c+1)),b,rfl,?_⟩;simp only[*,go_sem,-h]
 try simp only[Int.ofNat_lt] at k
 refine aM hJ au ?_;refine bM ?_;simp only[go_sem];have h':=Option.some.inj h;clear h;subst h';have h':=Option.some.inj b;clear b;subst h';have h:=o;dsimp only[aJ] at h;refine af hJ ?_;refine ah hJ ?_;apply aa _;have h':=Option.some.inj h;clear h;subst h';refine aI ?_;simp only[*,go_sem]
def mo (u0:aH)(st:(Bool×Int)):Option (Fl (Bool×Int) Bool):=
 cond (decide (st.2<(u0.aj.length:Int))) (ak (bI u0.aj st.2) fun a=>ak (mm a) fun b=>cond (b) (some (.rt true)) (some (.nx (st.1,(IntKind.i64.wrap (st.2+1)))))) (some (.bk (st.1,st.2)))
def mq (u0:aH):Option Bool:=
 cond (decide (20<(u0.aj.length:Int))) (some true) (ak (aZ (mo u0) fu (false,0)) fun o=>aJ o (fun a=>some false) (fun _ _=>none) (fun r=>some r))
theorem zu {ro:Addr->Option Value}(u0:aH){s1:Value}(q:aG bJ ro s1 u0.aj){r:Bool}(h:mq u0=some r):aF Tryz.prog 9 #[.agg #[.int .i64 u0.steps,.int .i64 u0.an,s1]] ⟨ro,[]⟩ (fun v _=>v= .bool r):=by
 obtain ⟨d3,c4,rfl,M,N,s⟩:=id q;unfold mq at h;refine aF.go Tryz.func9 rfl Tryz.ntmps9 Tryz.results9 aB fun main J hJ A t hd hs=>?_;have u:=hs 0;clear hs;refine af hJ ?_;refine ah hJ ?_;apply aa _;intro k f8;have O:=aT f8;have w:=aU f8;try simp only[aN] at w
 try apply aa _
 refine af hJ ?_;refine af hJ ?_;refine ah hJ ?_;apply aa _;have h':=aD h;clear h;rcases h' with ⟨e,h⟩|⟨e,h⟩
 .try simp only[Int.ofNat_lt] at e
  refine aL hJ au ?_;refine af hJ ?_;refine ah hJ ?_;apply aa _;have h':=Option.some.inj h;clear h;subst h';refine aI ?_;simp only[*,go_sem]
 try simp only[Int.ofNat_lt] at e
 refine aM hJ au ?_;refine aR hJ ?_;refine af hJ ?_;refine af hJ ?_;refine ah hJ ?_;apply aa _;refine bf hJ ?_;have h':=av h;clear h;obtain ⟨x,b,l⟩:=h';have h:=True.intro;refine bO hJ [2,3,8,9,10,11,12,13,14,15,16,17,18,19,20] (fun m n F'=>∃(v10:Bool) (v11:Int),aZ (mo u0) m (v10,v11)=some x/\F'=⟨ro,(k,.cells #[.int .i64 u0.steps,.int .i64 u0.an,.slice d3 u0.aj.length c4] 24)::[]⟩/\slot n 2= .bool v10/\slot n 3= .int .i64 v11) fu ?_ ?_
 .refine ⟨false,0,b,rfl,?_⟩;simp only[*,go_sem,-h]
 rintro f g F' d ⟨v10,v11,b,rfl,P,Q⟩;have h:=True.intro;have R:sz g=21:=by rw[d.size];simp only[*,go_sem,-h]
 have S:g.defers=[]:=by rw[d.defers];simp only[*,go_sem,-h]
 have T:slot g 1= .pointer (some ⟨k,0,none⟩):=by rw[d.aA 1 ay];simp only[*,go_sem,-h]
 clear d t hd u;obtain _|f:=f
 .exact absurd b (by simp only[aZ,reduceCtorEq,not_false_eq_true])
 have h':=av b;clear b h;obtain ⟨U,h,c⟩:=h';unfold mo at h;try dsimp only at h
 refine af hJ ?_;refine af hJ ?_;refine ah hJ ?_;apply aa _;have h':=aD h;clear h;rcases h' with ⟨i,h⟩|⟨i,h⟩
 .try simp only[Int.ofNat_lt] at i
  refine aL hJ au ?_;refine aR hJ ?_;refine af hJ ?_;refine bf hJ ?_;refine af hJ ?_;refine ah hJ ?_;have h':=av h;clear h;obtain ⟨y,z,h⟩:=h';obtain ⟨V,W,o⟩:=cI z;obtain ⟨X,Y,B,C,a⟩:=s _ _ o;obtain ⟨Z,rfl,p⟩:=C;obtain ⟨d21,ab,rfl,ad,ae,al⟩:=id p;cases B;have D:=a 0 _ rfl;simp only[go_sem] at D;have E:=a 1 _ rfl;simp only[go_sem] at E;have F:=a 2 _ rfl;simp only[go_sem] at F;have G:=a 3 _ rfl;simp only[go_sem] at G;have H:=a 4 _ rfl;simp only[go_sem] at H;have I:=a 5 _ rfl;simp only[go_sem] at I;have K:=a 6 _ rfl;simp only[go_sem] at K;clear a o;have h':=av h;clear h;obtain ⟨ao,L,h⟩:=h';try apply aa _
  refine bl hJ _ (EX y (p.mono aX) L) ?_;try apply aa _
  have h':=aD h;clear h;rcases h' with ⟨j,h⟩|⟨j,h⟩
  ·(try simp only[Int.ofNat_lt] at j);refine aL hJ au ?_;refine af hJ ?_;refine ah hJ ?_;apply aa _;have h':=Option.some.inj h;clear h;subst h';have h':=Option.some.inj c;clear c;subst h';have h:=l;dsimp only[aJ] at h;have h':=Option.some.inj h;clear h;subst h';refine aI ?_;simp only[*,go_sem]
  try simp only[Int.ofNat_lt] at j
  refine aM hJ au ?_;refine aR hJ ?_;refine ah hJ ?_;apply aa _;have h':=Option.some.inj h;clear h;subst h';have h:=True.intro;try apply aa _
  refine ⟨f,Nat.lt_succ_self _,_,Le.sub (List.Sublist.refl _),v10,(IntKind.i64.wrap (v11+1)),c,rfl,?_⟩;simp only[*,go_sem,-h]
 try simp only[Int.ofNat_lt] at i
 refine aM hJ au ?_;refine bM ?_;simp only[go_sem];have h':=Option.some.inj h;clear h;subst h';have h':=Option.some.inj c;clear c;subst h';have h:=l;dsimp only[aJ] at h;refine af hJ ?_;refine ah hJ ?_;apply aa _;have h':=Option.some.inj h;clear h;subst h';refine aI ?_;simp only[*,go_sem]
def mw (u0:Int)(a:Int):Option bS:=
 some (⟨u0,a⟩:bS)
theorem qR {ro:Addr->Option Value}(u0:Int)(a:Int){r:bS}(h:mw u0 a=some r):aF Tryz.prog 95 #[.int .i64 u0,.int .i64 a] ⟨ro,[]⟩ (fun v _=>v=r.v):=by
 unfold mw at h;refine aF.go Tryz.func95 rfl Tryz.ntmps95 Tryz.results95 aB fun main J hJ A b hd hs=>?_;have c:=hs 0;have k1:=hs 1;clear hs;refine af hJ ?_;refine ah hJ ?_;apply aa _;intro d f1;have r1:=aT f1;have n1:=aU f1;try simp only[aN] at n1
 try apply aa _
 refine af hJ ?_;refine ah hJ ?_;apply aa _;have h':=Option.some.inj h;clear h;subst h';refine aI ?_;simp only[*,go_sem]
def uR (u0:(List Int))(a:(List Int))(st:(Bool×Int)):Option (Fl (Bool×Int) Bool):=
 cond (decide (st.2<(u0.length:Int))) (ak (bI u0 st.2) fun b=>ak (bI a st.2) fun c=>cond ((b != c)) (some (.rt false)) (some (.nx (st.1,(IntKind.i64.wrap (st.2+1)))))) (some (.bk (st.1,st.2)))
def uS (u0:(List Int))(a:(List Int)):Option Bool:=
 cond (((u0.length:Int) != (a.length:Int))) (some false) (ak (aZ (uR u0 a) fu (false,0)) fun o=>aJ o (fun b=>some true) (fun _ _=>none) (fun r=>some r))
theorem EY {ro:Addr->Option Value}(u0:(List Int)){s1:Value}(w:aG rI ro s1 u0)(d:(List Int)){n:Value}(x:aG rI ro n d){r:Bool}(h:uS u0 d=some r):aF Tryz.prog 25 #[s1,n] ⟨ro,[]⟩ (fun v _=>v= .bool r):=by
 obtain ⟨d3,c4,rfl,S,T,y⟩:=id w;obtain ⟨d10,z,rfl,U,V,B⟩:=id x;unfold uS at h;refine aF.go Tryz.func25 rfl Tryz.ntmps25 Tryz.results25 aB fun main J hJ A C hd hs=>?_;have D:=hs 0;have k1:=hs 1;clear hs;refine af hJ ?_;refine ah hJ ?_;apply aa _;refine af hJ ?_;refine af hJ ?_;refine ah hJ ?_;apply aa _;have h':=aD h;clear h;rcases h' with ⟨i,h⟩|⟨i,h⟩
 .try simp only[Int.ofNat_lt] at i
  refine aL hJ au ?_;refine af hJ ?_;refine ah hJ ?_;apply aa _;have h':=Option.some.inj h;clear h;subst h';refine aI ?_;simp only[*,go_sem]
 try simp only[Int.ofNat_lt] at i
 refine aM hJ au ?_;refine aR hJ ?_;refine af hJ ?_;refine af hJ ?_;refine ah hJ ?_;apply aa _;refine bf hJ ?_;have h':=av h;clear h;obtain ⟨E,a,o⟩:=h';have h:=True.intro;refine bO hJ [4,5,11,12,13,14,15,16,17,18,19,20,21,22,23,24,25] (fun m p F'=>∃(e:Bool) (f:Int),aZ (uR u0 d) m (e,f)=some E/\F'=⟨ro,[]⟩/\slot p 4= .bool e/\slot p 5= .int .i64 f) fu ?_ ?_
 .refine ⟨false,0,a,rfl,?_⟩;simp only[*,go_sem,-h]
 rintro j g F' b ⟨e,f,a,rfl,W,X⟩;have h:=True.intro;have Y:sz g=26:=by rw[b.size];simp only[*,go_sem,-h]
 have Z:g.defers=[]:=by rw[b.defers];simp only[*,go_sem,-h]
 have ab:slot g 0= .slice d3 u0.length c4:=by rw[b.aA 0 ay];simp only[*,go_sem,-h]
 have ad:slot g 1= .slice d10 d.length z:=by rw[b.aA 1 ay];simp only[*,go_sem,-h]
 clear b C hd D k1;obtain _|j:=j
 .exact absurd a (by simp only[aZ,reduceCtorEq,not_false_eq_true])
 have h':=av a;clear a h;obtain ⟨ae,h,c⟩:=h';unfold uR at h;try dsimp only at h
 refine af hJ ?_;refine af hJ ?_;refine ah hJ ?_;apply aa _;have h':=aD h;clear h;rcases h' with ⟨k,h⟩|⟨k,h⟩
 .try simp only[Int.ofNat_lt] at k
  refine aL hJ au ?_;refine aR hJ ?_;refine af hJ ?_;refine bf hJ ?_;refine af hJ ?_;refine cB hJ mixed 9 ⟨ro,[]⟩ au aS ?_;have h':=av h;clear h;obtain ⟨F,G,h⟩:=h';obtain ⟨al,ao,q⟩:=cI G;obtain ⟨ar,H,I,K,s⟩:=y _ _ q;obtain rfl:H=[.int .i64 F]:=K;cases I;have L:=s 0 _ rfl;simp only[go_sem] at L;clear s q;have h':=av h;clear h;obtain ⟨M,N,h⟩:=h';obtain ⟨a0,a2,t⟩:=cI N;obtain ⟨a3,O,P,Q,u⟩:=B _ _ t;obtain rfl:O=[.int .i64 M]:=Q;cases P;have R:=u 0 _ rfl;simp only[go_sem] at R;clear u t;try apply aa _
  have h':=aD h;clear h;rcases h' with ⟨l,h⟩|⟨l,h⟩
  ·(try simp only[Int.ofNat_lt] at l);refine aL hJ au ?_;refine af hJ ?_;refine ah hJ ?_;apply aa _;have h':=Option.some.inj h;clear h;subst h';have h':=Option.some.inj c;clear c;subst h';have h:=o;dsimp only[aJ] at h;have h':=Option.some.inj h;clear h;subst h';refine aI ?_;simp only[*,go_sem]
  try simp only[Int.ofNat_lt] at l
  refine aM hJ au ?_;refine aR hJ ?_;refine ah hJ ?_;apply aa _;have h':=Option.some.inj h;clear h;subst h';have h:=True.intro;try apply aa _
  refine ⟨j,Nat.lt_succ_self _,_,Le.sub (List.Sublist.refl _),e,(IntKind.i64.wrap (f+1)),c,rfl,?_⟩;simp only[*,go_sem,-h]
 try simp only[Int.ofNat_lt] at k
 refine aM hJ au ?_;refine bM ?_;simp only[go_sem];have h':=Option.some.inj h;clear h;subst h';have h':=Option.some.inj c;clear c;subst h';have h:=o;dsimp only[aJ] at h;refine af hJ ?_;refine ah hJ ?_;apply aa _;have h':=Option.some.inj h;clear h;subst h';refine aI ?_;simp only[*,go_sem]
def mz (u0:(List Int))(a:(List Int)):Option Bool:=
 ak (uS u0 a) fun b=>some b
theorem qS {ro:Addr->Option Value}(u0:(List Int)){s1:Value}(b:aG rI ro s1 u0)(a:(List Int)){c:Value}(d:aG rI ro c a){r:Bool}(h:mz u0 a=some r):aF Tryz.prog 47 #[s1,c] ⟨ro,[]⟩ (fun v _=>v= .bool r):=by
 obtain ⟨d3,c4,rfl,f,g,i⟩:=id b;obtain ⟨d10,j,rfl,k,l,m⟩:=id d;unfold mz at h;refine aF.go Tryz.func47 rfl Tryz.ntmps47 Tryz.results47 aB fun main J hJ A n hd hs=>?_;have o:=hs 0;have k1:=hs 1;clear hs;refine af hJ ?_;refine ah hJ ?_;apply aa _;refine af hJ ?_;refine ah hJ ?_;have h':=av h;clear h;obtain ⟨p,e,h⟩:=h';apply aa _;refine bl hJ _ (EY u0 (b.mono aX) a (d.mono aX) e) (aQ ?_);try apply aa _
 have h':=Option.some.inj h;clear h;subst h';refine aI ?_;simp only[*,go_sem]
def uT (u0:(List aV))(c:(List aV))(st:(Bool×Int)):Option (Fl (Bool×Int) Bool):=
 cond (decide (st.2<(u0.length:Int))) (ak (bI u0 st.2) fun a=>ak (bI c st.2) fun b=>cond (!((a.step==b.step)&&(a.cu==b.cu))) (some (.rt false)) (some (.nx (st.1,(IntKind.i64.wrap (st.2+1)))))) (some (.bk (st.1,st.2)))
def qT (u0:(List aV))(a:(List aV)):Option Bool:=
 cond (((u0.length:Int) != (a.length:Int))) (some false) (ak (aZ (uT u0 a) fu (false,0)) fun o=>aJ o (fun b=>some true) (fun _ _=>none) (fun r=>some r))
theorem zv {ro:Addr->Option Value}(u0:(List aV)){s1:Value}(w:aG eM ro s1 u0)(d:(List aV)){p:Value}(x:aG eM ro p d){r:Bool}(h:qT u0 d=some r):aF Tryz.prog 48 #[s1,p] ⟨ro,[]⟩ (fun v _=>v= .bool r):=by
 obtain ⟨d3,c4,rfl,U,V,y⟩:=id w;obtain ⟨d10,z,rfl,W,X,B⟩:=id x;unfold qT at h;refine aF.go Tryz.func48 rfl Tryz.ntmps48 Tryz.results48 aB fun main J hJ A C hd hs=>?_;have D:=hs 0;have k1:=hs 1;clear hs;refine af hJ ?_;refine ah hJ ?_;apply aa _;refine af hJ ?_;refine af hJ ?_;refine ah hJ ?_;apply aa _;have h':=aD h;clear h;rcases h' with ⟨i,h⟩|⟨i,h⟩
 .try simp only[Int.ofNat_lt] at i
  refine aL hJ au ?_;refine af hJ ?_;refine ah hJ ?_;apply aa _;have h':=Option.some.inj h;clear h;subst h';refine aI ?_;simp only[*,go_sem]
 try simp only[Int.ofNat_lt] at i
 refine aM hJ au ?_;refine aR hJ ?_;refine af hJ ?_;refine af hJ ?_;refine ah hJ ?_;apply aa _;refine bf hJ ?_;have h':=av h;clear h;obtain ⟨E,a,q⟩:=h';have h:=True.intro;refine bO hJ [4,5,11,12,13,14,15,16,17,18,19,20,21,22,23,24,25] (fun m s F'=>∃(e:Bool) (f:Int),aZ (uT u0 d) m (e,f)=some E/\F'=⟨ro,[]⟩/\slot s 4= .bool e/\slot s 5= .int .i64 f) fu ?_ ?_
 .refine ⟨false,0,a,rfl,?_⟩;simp only[*,go_sem,-h]
 rintro j g F' b ⟨e,f,a,rfl,Y,Z⟩;have h:=True.intro;have ab:sz g=26:=by rw[b.size];simp only[*,go_sem,-h]
 have ad:g.defers=[]:=by rw[b.defers];simp only[*,go_sem,-h]
 have ae:slot g 0= .slice d3 u0.length c4:=by rw[b.aA 0 ay];simp only[*,go_sem,-h]
 have al:slot g 1= .slice d10 d.length z:=by rw[b.aA 1 ay];simp only[*,go_sem,-h]
 clear b C hd D k1;obtain _|j:=j
 .exact absurd a (by simp only[aZ,reduceCtorEq,not_false_eq_true])
 have h':=av a;clear a h;obtain ⟨ao,h,c⟩:=h';unfold uT at h;try dsimp only at h
 refine af hJ ?_;refine af hJ ?_;refine ah hJ ?_;apply aa _;have h':=aD h;clear h;rcases h' with ⟨k,h⟩|⟨k,h⟩
 .try simp only[Int.ofNat_lt] at k
  refine aL hJ au ?_;refine aR hJ ?_;refine af hJ ?_;refine bf hJ ?_;refine af hJ ?_;refine cB hJ mixed 9 ⟨ro,[]⟩ au aS ?_;have h':=av h;clear h;obtain ⟨F,G,h⟩:=h';obtain ⟨ar,a0,t⟩:=cI G;obtain ⟨a2,H,I,K,l⟩:=y _ _ t;obtain rfl:H=F.cells:=K;cases I;have L:=l 0 _ rfl;simp only[go_sem] at L;have M:=l 1 _ rfl;simp only[go_sem] at M;clear l t;have h':=av h;clear h;obtain ⟨N,O,h⟩:=h';obtain ⟨a3,a4,u⟩:=cI O;obtain ⟨a5,P,Q,R,n⟩:=B _ _ u;obtain rfl:P=N.cells:=R;cases Q;have S:=n 0 _ rfl;simp only[go_sem] at S;have T:=n 1 _ rfl;simp only[go_sem] at T;clear n u;try apply aa _
  have h':=aD h;clear h;rcases h' with ⟨o,h⟩|⟨o,h⟩
  ·(try simp only[Int.ofNat_lt] at o);refine aL hJ au ?_;refine af hJ ?_;refine ah hJ ?_;apply aa _;have h':=Option.some.inj h;clear h;subst h';have h':=Option.some.inj c;clear c;subst h';have h:=q;dsimp only[aJ] at h;have h':=Option.some.inj h;clear h;subst h';refine aI ?_;simp only[*,go_sem]
  try simp only[Int.ofNat_lt] at o
  refine aM hJ au ?_;refine aR hJ ?_;refine ah hJ ?_;apply aa _;have h':=Option.some.inj h;clear h;subst h';have h:=True.intro;try apply aa _
  refine ⟨j,Nat.lt_succ_self _,_,Le.sub (List.Sublist.refl _),e,(IntKind.i64.wrap (f+1)),c,rfl,?_⟩;simp only[*,go_sem,-h]
 try simp only[Int.ofNat_lt] at k
 refine aM hJ au ?_;refine bM ?_;simp only[go_sem];have h':=Option.some.inj h;clear h;subst h';have h':=Option.some.inj c;clear c;subst h';have h:=q;dsimp only[aJ] at h;refine af hJ ?_;refine ah hJ ?_;apply aa _;have h':=Option.some.inj h;clear h;subst h';refine aI ?_;simp only[*,go_sem]
def qU (u0:Int):Option bS:=
 ak (mw u0 u0) fun x2=>some x2
theorem zw {ro:Addr->Option Value}(u0:Int){r:bS}(h:qU u0=some r):aF Tryz.prog 51 #[.int .i64 u0] ⟨ro,[]⟩ (fun v _=>v=r.v):=by
 unfold qU at h;refine aF.go Tryz.func51 rfl Tryz.ntmps51 Tryz.results51 aB fun main J hJ A b hd hs=>?_;have c:=hs 0;clear hs;refine af hJ ?_;refine ah hJ ?_;apply aa _;intro d f1;have r1:=aT f1;have n1:=aU f1;try simp only[aN] at n1
 try apply aa _
 refine af hJ ?_;refine ah hJ ?_;have h':=av h;clear h;obtain ⟨x2,a,h⟩:=h';apply aa _;refine bl hJ _ (qR u0 u0 a) (aQ ?_);try apply aa _
 have h':=Option.some.inj h;clear h;subst h';refine aI ?_;simp only[*,go_sem]
def uU :Option bp:=
 ak (qU 7) fun x3=>some (⟨[110,111,114,116,104],x3,2,(⟨0,0⟩:bS),[(⟨[99,104,117,114,99,104],0,3⟩:bu)]⟩:bp)
theorem zx {ro:Addr->Option Value}{r:bp}(h:uU=some r):eK Tryz.prog 50 #[] ro (fun v aK=>∃g,v= .agg #[.string ⟨⟨r.name⟩⟩,.int .i64 r.from_.low,.int .i64 r.from_.high,.int .i64 r.wide,.int .i64 r.aC.low,.int .i64 r.aC.high,g]/\aG dO aK g r.marks):=by
 unfold uU at h;refine aF.go Tryz.func50 rfl Tryz.ntmps50 Tryz.results50 aB fun main J hJ A s hd hs=>?_;clear hs;refine af hJ ?_;refine ah hJ ?_;apply aa _;intro d f1;have r1:=aT f1;have n1:=aU f1;try simp only[aN] at n1
 try apply aa _
 refine af hJ ?_;refine aO hJ fun p=>?_;refine ah hJ ?_;have h':=av h;clear h;obtain ⟨x3,q,h⟩:=h';apply aa _;refine bl hJ _ (zw 7 q) (aQ ?_);try apply aa _
 intro a f5;have i:=aT f5;have j:=aU f5;have t:=bT.cons j p;try simp only[aN] at j
 try apply aa _
 have h':=Option.some.inj h;clear h;subst h';refine aO hJ fun k=>?_;obtain ⟨l,c,m⟩:=gL (b:=a) (o:=(.cells #[.string ⟨⟨[99,104,117,114,99,104]⟩⟩,.int .i64 0,.int .i64 3] 92)) [] ((d,.cells #[.string ⟨⟨[110,111,114,116,104]⟩⟩,.int .i64 x3.low,.int .i64 x3.high,.int .i64 2,.int .i64 0,.int .i64 0,.slice (some ⟨a,0,none⟩) 1 1] 56)::[]) k i (aW.cons r1 (aW.nil _));clear k;have f:aG dO (bZ ro a (.cells #[.string ⟨⟨[99,104,117,114,99,104]⟩⟩,.int .i64 0,.int .i64 3] 92)) (.slice (some ⟨a,0,none⟩) 1 1) [(⟨[99,104,117,114,99,104],0,3⟩:bu)]:=(aG.flat (r:=dO) (e:=92) (cs:=#[.string ⟨⟨[99,104,117,114,99,104]⟩⟩,.int .i64 0,.int .i64 3]) bu.cells ([(⟨[99,104,117,114,99,104],0,3⟩:bu)]) (fun _=>rfl) i rfl aB)
 generalize bZ ro a (.cells #[.string ⟨⟨[99,104,117,114,99,104]⟩⟩,.int .i64 0,.int .i64 3] 92)=n at l c m f;refine cG (F:=⟨n,(d,.cells #[.string ⟨⟨[110,111,114,116,104]⟩⟩,.int .i64 x3.low,.int .i64 x3.high,.int .i64 2,.int .i64 0,.int .i64 0,.slice (some ⟨a,0,none⟩) 1 1] 56)::[]⟩) hJ m ?_;obtain ⟨u,w,x⟩:=f.op;have c:aW n ((d,.cells #[.string ⟨⟨[110,111,114,116,104]⟩⟩,.int .i64 x3.low,.int .i64 x3.high,.int .i64 2,.int .i64 0,.int .i64 0,.slice (some ⟨a,0,none⟩) ([(⟨[99,104,117,114,99,104],0,3⟩:bu)]).length 1] 56)::[]):=c;replace r1:=c.hd;refine aI ?_;apply bw _;exact ⟨_,l,Le.sub (List.nil_sublist _),_,rfl,f⟩
def kT (u0:bp)(v11:Int)(a:bu)(st:(Int×Int)):Option (Fl (Int×Int) Int):=
 cond (decide (st.2<v11)) (ak (bI u0.marks st.2) fun b=>cond ((b.bH==a.bH)) (some (.rt 5)) (some (.nx (st.1,(IntKind.i64.wrap (st.2+1)))))) (some (.bk (st.1,st.2)))
def mA (u0:bp)(st:(Int×Int)):Option (Fl (Int×Int) Int):=
 cond (decide (st.2<(u0.marks.length:Int))) (ak (bI u0.marks st.2) fun a=>ak (l5 a.bH) fun b=>cond (!b) (some (.rt 4)) (ak (aZ (kT u0 st.2 a) fu (st.1,0)) fun o=>aJ o (fun c=>ak (eN a.dN 0 (IntKind.i64.wrap (u0.wide - 1))) fun d=>cond (!d) (some (.rt 1)) (ak (eN a.row (-9) 9) fun e=>cond (!e) (some (.rt 1)) (some (.nx (c.1,(IntKind.i64.wrap (st.2+1))))))) (fun _ _=>none) (fun r=>some (.rt r)))) (some (.bk (st.1,st.2)))
def oP (u0:bp):Option Int:=
 cond (decide (4<(u0.marks.length:Int))) (some 2) (ak (aZ (mA u0) fu (0,0)) fun o=>aJ o (fun a=>some 0) (fun _ _=>none) (fun r=>some r))
theorem EZ {ro:Addr->Option Value}(u0:bp){s1:Value}(K:aG dO ro s1 u0.marks){r:Int}(h:oP u0=some r):aF Tryz.prog 65 #[.agg #[.string ⟨⟨u0.name⟩⟩,.int .i64 u0.from_.low,.int .i64 u0.from_.high,.int .i64 u0.wide,.int .i64 u0.aC.low,.int .i64 u0.aC.high,s1]] ⟨ro,[]⟩ (fun v _=>v= .int .i64 r):=by
 obtain ⟨d3,c4,rfl,ba,bb,F⟩:=id K;unfold oP at h;refine aF.go Tryz.func65 rfl Tryz.ntmps65 Tryz.results65 aB fun main J hJ A L hd hs=>?_;have M:=hs 0;clear hs;refine af hJ ?_;refine ah hJ ?_;apply aa _;intro e f8;have bc:=aT f8;have N:=aU f8;try simp only[aN] at N
 try apply aa _
 refine af hJ ?_;refine af hJ ?_;refine ah hJ ?_;apply aa _;have h':=aD h;clear h;rcases h' with ⟨w,h⟩|⟨w,h⟩
 .try simp only[Int.ofNat_lt] at w
  refine aL hJ au ?_;refine af hJ ?_;refine ah hJ ?_;apply aa _;have h':=Option.some.inj h;clear h;subst h';refine aI ?_;simp only[*,go_sem]
 try simp only[Int.ofNat_lt] at w
 refine aM hJ au ?_;refine aR hJ ?_;refine af hJ ?_;refine af hJ ?_;refine ah hJ ?_;apply aa _;refine bf hJ ?_;have h':=av h;clear h;obtain ⟨O,f,g⟩:=h';have h:=True.intro;refine bO hJ [2,3,4,5,10,11,12,13,14,15,16,17,18,19,20,21,22,23,24,25,26,27,28,29,30,31,32,33,34,35,36,37,38,39,40,41,42,43,44,45,46,47,48,49,50,51,52] (fun m i F'=>∃(v10:Int) (v11:Int),aZ (mA u0) m (v10,v11)=some O/\F'=⟨ro,(e,.cells #[.string ⟨⟨u0.name⟩⟩,.int .i64 u0.from_.low,.int .i64 u0.from_.high,.int .i64 u0.wide,.int .i64 u0.aC.low,.int .i64 u0.aC.high,.slice d3 u0.marks.length c4] 56)::[]⟩/\slot i 2= .int .i64 v10/\slot i 3= .int .i64 v11) fu ?_ ?_
 .refine ⟨0,0,f,rfl,?_⟩;simp only[*,go_sem,-h]
 rintro x n F' o ⟨v10,v11,f,rfl,P,Q⟩;have h:=True.intro;have R:sz n=53:=by rw[o.size];simp only[*,go_sem,-h]
 have S:n.defers=[]:=by rw[o.defers];simp only[*,go_sem,-h]
 have T:slot n 1= .pointer (some ⟨e,0,none⟩):=by rw[o.aA 1 ay];simp only[*,go_sem,-h]
 clear o L hd M;obtain _|x:=x
 .exact absurd f (by simp only[aZ,reduceCtorEq,not_false_eq_true])
 have h':=av f;clear f h;obtain ⟨bd,h,d⟩:=h';unfold mA at h;try dsimp only at h
 refine af hJ ?_;refine af hJ ?_;refine ah hJ ?_;apply aa _;have h':=aD h;clear h;rcases h' with ⟨y,h⟩|⟨y,h⟩
 .try simp only[Int.ofNat_lt] at y
  refine aL hJ au ?_;refine aR hJ ?_;refine af hJ ?_;refine bf hJ ?_;refine af hJ ?_;refine ah hJ ?_;have h':=av h;clear h;obtain ⟨c,U,h⟩:=h';obtain ⟨bj,bk,G⟩:=cI U;obtain ⟨p,V,W,X,q⟩:=F _ _ G;obtain rfl:V=c.cells:=X;cases W;have Y:=q 0 _ rfl;simp only[go_sem] at Y;have Z:=q 1 _ rfl;simp only[go_sem] at Z;have ab:=q 2 _ rfl;simp only[go_sem] at ab;clear q G;try apply aa _
  intro s f21;have bm:=aT f21;have ad:=aU f21;try simp only[aN] at ad
  try apply aa _
  refine af hJ ?_;refine af hJ ?_;refine ah hJ ?_;have h':=av h;clear h;obtain ⟨ae,al,h⟩:=h';apply aa _;refine bl hJ _ (y8 c.bH al) (aQ ?_);try apply aa _
  have h':=aD h;clear h;rcases h' with ⟨z,h⟩|⟨z,h⟩
  ·(try simp only[Int.ofNat_lt] at z);refine aL hJ au ?_;refine af hJ ?_;refine ah hJ ?_;apply aa _;have h':=Option.some.inj h;clear h;subst h';have h':=Option.some.inj d;clear d;subst h';have h:=g;dsimp only[aJ] at h;have h':=Option.some.inj h;clear h;subst h';refine aI ?_;simp only[*,go_sem]
  try simp only[Int.ofNat_lt] at z
  refine aM hJ au ?_;refine aR hJ ?_;refine af hJ ?_;refine af hJ ?_;refine ah hJ ?_;apply aa _;refine bf hJ ?_;have h':=av h;clear h;obtain ⟨ao,j,H⟩:=h';have h:=True.intro;refine bO hJ [2,5,26,27,28,29,30,31,32,33,34,35,36,37,38,39] (fun m i F'=>∃(k:Int) (t:Int),aZ (kT u0 v11 c) m (k,t)=some ao/\F'=⟨ro,(s,.cells #[.string ⟨⟨c.bH⟩⟩,.int .i64 c.dN,.int .i64 c.row] 92)::(e,.cells #[.string ⟨⟨u0.name⟩⟩,.int .i64 u0.from_.low,.int .i64 u0.from_.high,.int .i64 u0.wide,.int .i64 u0.aC.low,.int .i64 u0.aC.high,.slice (some p) u0.marks.length c4] 56)::[]⟩/\slot i 2= .int .i64 k/\slot i 5= .int .i64 t) fu ?_ ?_
  .refine ⟨v10,0,j,rfl,?_⟩;simp only[*,go_sem,-h]
  rintro m2 b F' a ⟨k,t,j,rfl,bo,br⟩;have h:=True.intro;have bs:sz b=53:=by rw[a.size];simp only[*,go_sem,-h]
  have b0:b.defers=[]:=by rw[a.defers];simp only[*,go_sem,-h]
  have b1:slot b 1= .pointer (some ⟨e,0,none⟩):=by rw[a.aA 1 ay];simp only[*,go_sem,-h]
  have b2:slot b 3= .int .i64 v11:=by rw[a.aA 3 ay];simp only[*,go_sem,-h]
  have b3:slot b 4= .pointer (some ⟨s,0,none⟩):=by rw[a.aA 4 ay];simp only[*,go_sem,-h]
  have b4:slot b 10= .int .i64 v11:=by rw[a.aA 10 ay];simp only[*,go_sem,-h]
  have ca:slot b 11= .pointer (some ⟨e,6,none⟩):=by rw[a.aA 11 ay];simp only[*,go_sem,-h]
  have cb:slot b 12= .slice (some p) u0.marks.length c4:=by rw[a.aA 12 ay];simp only[*,go_sem,-h]
  have cc:slot b 13= .int .i64 (u0.marks.length:Int):=by rw[a.aA 13 ay];simp only[*,go_sem,-h]
  have cd:slot b 14= .bool true:=by rw[a.aA 14 ay];simp only[*,go_sem,-h]
  have cf:slot b 17= .pointer (some ⟨e,6,none⟩):=by rw[a.aA 17 ay];simp only[*,go_sem,-h]
  have ck:slot b 18= .slice (some p) u0.marks.length c4:=by rw[a.aA 18 ay];simp only[*,go_sem,-h]
  have cl:slot b 19= .int .i64 v11:=by rw[a.aA 19 ay];simp only[*,go_sem,-h]
  have cv:slot b 21= .agg #[.string ⟨⟨c.bH⟩⟩,.int .i64 c.dN,.int .i64 c.row]:=by rw[a.aA 21 ay];simp only[*,go_sem,-h]
  have cy:slot b 22= .pointer (some ⟨s,0,none⟩):=by rw[a.aA 22 ay];simp only[*,go_sem,-h]
  have c0:slot b 23= .string ⟨⟨c.bH⟩⟩:=by rw[a.aA 23 ay];simp only[*,go_sem,-h]
  have da:slot b 24= .bool ae:=by rw[a.aA 24 ay];simp only[*,go_sem,-h]
  have db:slot b 25= .bool false:=by rw[a.aA 25 ay];simp only[*,go_sem,-h]
  have dd:cq [2,3,4,5,10,11,12,13,14,15,16,17,18,19,20,21,22,23,24,25,26,27,28,29,30,31,32,33,34,35,36,37,38,39,40,41,42,43,44,45,46,47,48,49,50,51,52] b n:=(a.eg ay).trans au;clear a R S T P Q;obtain _|m2:=m2
  .exact absurd j (by simp only[aZ,reduceCtorEq,not_false_eq_true])
  have h':=av j;clear j h;obtain ⟨df,h,l⟩:=h';unfold kT at h;try dsimp only at h
  refine af hJ ?_;refine af hJ ?_;refine ah hJ ?_;apply aa _;have h':=aD h;clear h;rcases h' with ⟨B,h⟩|⟨B,h⟩
  ·(try simp only[Int.ofNat_lt] at B);refine aL hJ au ?_;refine aR hJ ?_;refine af hJ ?_;refine bf hJ ?_;refine af hJ ?_;refine cB hJ mixed 9 ⟨ro,[(s,.cells #[.string ⟨⟨c.bH⟩⟩,.int .i64 c.dN,.int .i64 c.row] 92),(e,.cells #[.string ⟨⟨u0.name⟩⟩,.int .i64 u0.from_.low,.int .i64 u0.from_.high,.int .i64 u0.wide,.int .i64 u0.aC.low,.int .i64 u0.aC.high,.slice (some p) u0.marks.length c4] 56)]⟩ au aS ?_;have h':=av h;clear h;obtain ⟨ar,a0,h⟩:=h';obtain ⟨dk,dp,I⟩:=cI a0;obtain ⟨dq,a2,a3,a4,u⟩:=F _ _ I;obtain rfl:a2=ar.cells:=a4;cases a3;have a5:=u 0 _ rfl;simp only[go_sem] at a5;have a6:=u 1 _ rfl;simp only[go_sem] at a6;have a7:=u 2 _ rfl;simp only[go_sem] at a7;clear u I;(try apply aa _);have h':=aD h;clear h;rcases h' with ⟨C,h⟩|⟨C,h⟩
   ·(try simp only[Int.ofNat_lt] at C);refine aL hJ au ?_;refine af hJ ?_;refine ah hJ ?_;apply aa _;have h':=Option.some.inj h;clear h;subst h';have h':=Option.some.inj l;clear l;subst h';have h:=H;dsimp only[aJ] at h;have h':=Option.some.inj h;clear h;subst h';have h':=Option.some.inj d;clear d;subst h';have h:=g;dsimp only[aJ] at h;have h':=Option.some.inj h;clear h;subst h';refine aI ?_;simp only[*,go_sem]
   (try simp only[Int.ofNat_lt] at C);refine aM hJ au ?_;refine aR hJ ?_;refine ah hJ ?_;apply aa _;have h':=Option.some.inj h;clear h;subst h';have h:=True.intro;(try apply aa _);refine ⟨m2,Nat.lt_succ_self _,_,Le.sub (List.Sublist.refl _),k,(IntKind.i64.wrap (t+1)),l,rfl,?_⟩;simp only[*,go_sem,-h]
  try simp only[Int.ofNat_lt] at B
  refine aM hJ au ?_;refine bM ?_;simp only[go_sem];have h':=Option.some.inj h;clear h;subst h';have h':=Option.some.inj l;clear l;subst h';have h:=H;dsimp only[aJ] at h;refine af hJ ?_;refine ah hJ ?_;have h':=av h;clear h;obtain ⟨ds,a8,h⟩:=h';apply aa _;refine bl hJ _ (fO c.dN 0 (IntKind.i64.wrap (u0.wide - 1)) a8) (aQ ?_);have h':=aD h;clear h;rcases h' with ⟨D,h⟩|⟨D,h⟩
  ·(try simp only[Int.ofNat_lt] at D);(try apply aa _);refine aL hJ au ?_;refine af hJ ?_;refine ah hJ ?_;apply aa _;have h':=Option.some.inj h;clear h;subst h';have h':=Option.some.inj d;clear d;subst h';have h:=g;dsimp only[aJ] at h;have h':=Option.some.inj h;clear h;subst h';refine aI ?_;simp only[*,go_sem]
  try simp only[Int.ofNat_lt] at D
  have h':=av h;clear h;obtain ⟨dt,a9,h⟩:=h';try apply aa _
  refine bl hJ _ (fO c.row (-9) 9 a9) (aQ ?_);try apply aa _
  have h':=aD h;clear h;rcases h' with ⟨E,h⟩|⟨E,h⟩
  ·(try simp only[Int.ofNat_lt] at E);refine aL hJ au ?_;refine af hJ ?_;refine ah hJ ?_;apply aa _;have h':=Option.some.inj h;clear h;subst h';have h':=Option.some.inj d;clear d;subst h';have h:=g;dsimp only[aJ] at h;have h':=Option.some.inj h;clear h;subst h';refine aI ?_;simp only[*,go_sem]
  try simp only[Int.ofNat_lt] at E
  refine aM hJ au ?_;refine aR hJ ?_;refine ah hJ ?_;apply aa _;have h':=Option.some.inj h;clear h;subst h';have h:=True.intro;try apply aa _
  refine ⟨x,Nat.lt_succ_self _,_,Le.sub (List.Sublist.cons _ (List.Sublist.refl _)),k,(IntKind.i64.wrap (v11+1)),d,rfl,?_⟩;simp only[*,go_sem,-h]
 try simp only[Int.ofNat_lt] at y
 refine aM hJ au ?_;refine bM ?_;simp only[go_sem];have h':=Option.some.inj h;clear h;subst h';have h':=Option.some.inj d;clear d;subst h';have h:=g;dsimp only[aJ] at h;refine af hJ ?_;refine ah hJ ?_;apply aa _;have h':=Option.some.inj h;clear h;subst h';refine aI ?_;simp only[*,go_sem]
def kU (u0:aH)(v20:Int)(a:bp)(st:(Int×Int)):Option (Fl (Int×Int) Int):=
 cond (decide (st.2<v20)) (ak (bI u0.aj st.2) fun b=>cond ((b.name==a.name)) (some (.rt 5)) (some (.nx (st.1,(IntKind.i64.wrap (st.2+1)))))) (some (.bk (st.1,st.2)))
def mB (u0:aH)(st:(Int×Int×Int)):Option (Fl (Int×Int×Int) Int):=
 cond (decide (st.2.2<(u0.aj.length:Int))) (ak (bI u0.aj st.2.2) fun a=>ak (l5 a.name) fun c=>cond (!c) (some (.rt 4)) (ak (aZ (kU u0 st.2.2 a) fu (st.1,0)) fun o=>aJ o (fun d=>ak (l6 a.from_ 0 (IntKind.i64.wrap (u0.steps - 1))) fun e=>cond (!e) (some (.rt 1)) (ak (jV a.from_) fun f=>cond (decide (3<f)) (some (.rt 1)) (ak (eN a.wide 1 u0.steps) fun g=>cond (!g) (some (.rt 1)) (ak (l6 a.aC (-3) 3) fun h=>cond (!h) (some (.rt 1)) (ak (jV a.aC) fun i=>cond (decide (3<i)) (some (.rt 1)) (ak (oP a) fun b=>cond ((b != 0)) (some (.rt b)) (ak (jV a.from_) fun j=>ak (jV a.aC) fun k=>some (.nx (d.1,(IntKind.i64.wrap ((IntKind.i64.wrap (st.2.1*j))*k)),(IntKind.i64.wrap (st.2.2+1))))))))))) (fun _ _=>none) (fun r=>some (.rt r)))) (some (.bk (st.1,st.2.1,st.2.2)))
def jw (u0:aH):Option Int:=
 ak (eN u0.steps 4 24) fun a=>cond (!a) (some 1) (ak (eN u0.an 0 2) fun b=>cond (!b) (some 1) (ak (eN (u0.aj.length:Int) 1 4) fun c=>cond (!c) (some 2) (ak (aZ (mB u0) fu (0,1,0)) fun o=>aJ o (fun d=>cond (decide (200<d.2.1)) (some 2) (some 0)) (fun _ _=>none) (fun r=>some r))))
theorem qV {ro:Addr->Option Value}(u0:aH){s1:Value}(W:aG bJ ro s1 u0.aj){r:Int}(h:jw u0=some r):aF Tryz.prog 16 #[.agg #[.int .i64 u0.steps,.int .i64 u0.an,s1]] ⟨ro,[]⟩ (fun v _=>v= .int .i64 r):=by
 obtain ⟨d3,c4,rfl,dp,dq,R⟩:=id W;unfold jw at h;refine aF.go Tryz.func16 rfl Tryz.ntmps16 Tryz.results16 aB fun main J hJ A X hd hs=>?_;have Y:=hs 0;clear hs;refine af hJ ?_;refine ah hJ ?_;apply aa _;intro f f8;have ds:=aT f8;have Z:=aU f8;try simp only[aN] at Z
 try apply aa _
 refine af hJ ?_;refine af hJ ?_;refine ah hJ ?_;have h':=av h;clear h;obtain ⟨dt,ab,h⟩:=h';apply aa _;refine bl hJ _ (fO u0.steps 4 24 ab) (aQ ?_);have h':=aD h;clear h;rcases h' with ⟨z,h⟩|⟨z,h⟩
 .try simp only[Int.ofNat_lt] at z
  try apply aa _
  refine aL hJ au ?_;refine af hJ ?_;refine ah hJ ?_;apply aa _;have h':=Option.some.inj h;clear h;subst h';refine aI ?_;simp only[*,go_sem]
 try simp only[Int.ofNat_lt] at z
 have h':=av h;clear h;obtain ⟨du,ad,h⟩:=h';try apply aa _
 refine bl hJ _ (fO u0.an 0 2 ad) (aQ ?_);try apply aa _
 have h':=aD h;clear h;rcases h' with ⟨B,h⟩|⟨B,h⟩
 .try simp only[Int.ofNat_lt] at B
  refine aL hJ au ?_;refine af hJ ?_;refine ah hJ ?_;apply aa _;have h':=Option.some.inj h;clear h;subst h';refine aI ?_;simp only[*,go_sem]
 try simp only[Int.ofNat_lt] at B
 refine aM hJ au ?_;refine aR hJ ?_;refine af hJ ?_;refine af hJ ?_;refine ah hJ ?_;have h':=av h;clear h;obtain ⟨dv,ae,h⟩:=h';apply aa _;refine bl hJ _ (fO (u0.aj.length:Int) 1 4 ae) (aQ ?_);try apply aa _
 have h':=aD h;clear h;rcases h' with ⟨C,h⟩|⟨C,h⟩
 .try simp only[Int.ofNat_lt] at C
  refine aL hJ au ?_;refine af hJ ?_;refine ah hJ ?_;apply aa _;have h':=Option.some.inj h;clear h;subst h';refine aI ?_;simp only[*,go_sem]
 try simp only[Int.ofNat_lt] at C
 refine aM hJ au ?_;refine aR hJ ?_;refine af hJ ?_;refine ah hJ ?_;apply aa _;refine af hJ ?_;refine af hJ ?_;refine ah hJ ?_;apply aa _;refine bf hJ ?_;have h':=av h;clear h;obtain ⟨al,k,e⟩:=h';have h:=True.intro;refine bO hJ [2,3,4,5,6,7,23,24,25,26,27,28,29,30,31,32,33,34,35,36,37,38,39,40,41,42,43,44,45,46,47,48,49,50,51,52,53,54,55,56,57,58,59,60,61,62,63,64,65,66,67,68,69,70,71,72,73,74,75,76,77,78,79,80,81,82,83,84,85,86,87,88,89,90,91,92,93,94,95,96,97,98,99] (fun m j F'=>∃(t:Int) (l:Int) (v20:Int),aZ (mB u0) m (t,l,v20)=some al/\F'=⟨ro,(f,.cells #[.int .i64 u0.steps,.int .i64 u0.an,.slice d3 u0.aj.length c4] 24)::[]⟩/\slot j 2= .int .i64 t/\slot j 3= .int .i64 l/\slot j 4= .int .i64 v20) fu ?_ ?_
 .refine ⟨0,1,0,k,rfl,?_⟩;simp only[*,go_sem,-h]
 rintro D u F' w ⟨t,l,v20,k,rfl,ao,ar,a0⟩;have h:=True.intro;have a2:sz u=102:=by rw[w.size];simp only[*,go_sem,-h]
 have a3:u.defers=[]:=by rw[w.defers];simp only[*,go_sem,-h]
 have a4:slot u 1= .pointer (some ⟨f,0,none⟩):=by rw[w.aA 1 ay];simp only[*,go_sem,-h]
 clear w X hd Y;obtain _|D:=D
 .exact absurd k (by simp only[aZ,reduceCtorEq,not_false_eq_true])
 have h':=av k;clear k h;obtain ⟨dC,h,d⟩:=h';unfold mB at h;try dsimp only at h
 refine af hJ ?_;refine af hJ ?_;refine ah hJ ?_;apply aa _;have h':=aD h;clear h;rcases h' with ⟨E,h⟩|⟨E,h⟩
 .try simp only[Int.ofNat_lt] at E
  refine aL hJ au ?_;refine aR hJ ?_;refine af hJ ?_;refine bf hJ ?_;refine af hJ ?_;refine ah hJ ?_;have h':=av h;clear h;obtain ⟨a,a5,h⟩:=h';obtain ⟨dE,dT,S⟩:=cI a5;obtain ⟨n,ea,a6,a7,g⟩:=R _ _ S;obtain ⟨eb,rfl,T⟩:=a7;obtain ⟨d30,x,rfl,ec,ed,eh⟩:=id T;cases a6;have a8:=g 0 _ rfl;simp only[go_sem] at a8;have a9:=g 1 _ rfl;simp only[go_sem] at a9;have ba:=g 2 _ rfl;simp only[go_sem] at ba;have bb:=g 3 _ rfl;simp only[go_sem] at bb;have bc:=g 4 _ rfl;simp only[go_sem] at bc;have bd:=g 5 _ rfl;simp only[go_sem] at bd;have bj:=g 6 _ rfl;simp only[go_sem] at bj;clear g S;try apply aa _
  intro o f37;have et:=aT f37;have bk:=aU f37;try simp only[aN] at bk
  try apply aa _
  refine af hJ ?_;refine af hJ ?_;refine ah hJ ?_;have h':=av h;clear h;obtain ⟨bm,bo,h⟩:=h';apply aa _;refine bl hJ _ (y8 a.name bo) (aQ ?_);try apply aa _
  have h':=aD h;clear h;rcases h' with ⟨G,h⟩|⟨G,h⟩
  ·(try simp only[Int.ofNat_lt] at G);refine aL hJ au ?_;refine af hJ ?_;refine ah hJ ?_;apply aa _;have h':=Option.some.inj h;clear h;subst h';have h':=Option.some.inj d;clear d;subst h';have h:=e;dsimp only[aJ] at h;have h':=Option.some.inj h;clear h;subst h';refine aI ?_;simp only[*,go_sem]
  try simp only[Int.ofNat_lt] at G
  refine aM hJ au ?_;refine aR hJ ?_;refine af hJ ?_;refine af hJ ?_;refine ah hJ ?_;apply aa _;refine bf hJ ?_;have h':=av h;clear h;obtain ⟨br,p,U⟩:=h';have h:=True.intro;refine bO hJ [2,6,39,40,41,42,43,44,45,46,47,48,49,50,51,52] (fun m j F'=>∃(q:Int) (y:Int),aZ (kU u0 v20 a) m (q,y)=some br/\F'=⟨ro,(o,.cells #[.string ⟨⟨a.name⟩⟩,.int .i64 a.from_.low,.int .i64 a.from_.high,.int .i64 a.wide,.int .i64 a.aC.low,.int .i64 a.aC.high,.slice d30 a.marks.length x] 56)::(f,.cells #[.int .i64 u0.steps,.int .i64 u0.an,.slice (some n) u0.aj.length c4] 24)::[]⟩/\slot j 2= .int .i64 q/\slot j 6= .int .i64 y) fu ?_ ?_
  .refine ⟨t,0,p,rfl,?_⟩;simp only[*,go_sem,-h]
  rintro m2 c F' b ⟨q,y,p,rfl,ev,eQ⟩;have h:=True.intro;have eS:sz c=102:=by rw[b.size];simp only[*,go_sem,-h]
  have e0:c.defers=[]:=by rw[b.defers];simp only[*,go_sem,-h]
  have e1:slot c 1= .pointer (some ⟨f,0,none⟩):=by rw[b.aA 1 ay];simp only[*,go_sem,-h]
  have e2:slot c 3= .int .i64 l:=by rw[b.aA 3 ay];simp only[*,go_sem,-h]
  have e3:slot c 4= .int .i64 v20:=by rw[b.aA 4 ay];simp only[*,go_sem,-h]
  have fa:slot c 5= .pointer (some ⟨o,0,none⟩):=by rw[b.aA 5 ay];simp only[*,go_sem,-h]
  have fb:slot c 23= .int .i64 v20:=by rw[b.aA 23 ay];simp only[*,go_sem,-h]
  have fc:slot c 24= .pointer (some ⟨f,2,none⟩):=by rw[b.aA 24 ay];simp only[*,go_sem,-h]
  have fg:slot c 25= .slice (some n) u0.aj.length c4:=by rw[b.aA 25 ay];simp only[*,go_sem,-h]
  have fh:slot c 26= .int .i64 (u0.aj.length:Int):=by rw[b.aA 26 ay];simp only[*,go_sem,-h]
  have fi:slot c 27= .bool true:=by rw[b.aA 27 ay];simp only[*,go_sem,-h]
  have fj:slot c 30= .pointer (some ⟨f,2,none⟩):=by rw[b.aA 30 ay];simp only[*,go_sem,-h]
  have fl:slot c 31= .slice (some n) u0.aj.length c4:=by rw[b.aA 31 ay];simp only[*,go_sem,-h]
  have fp:slot c 32= .int .i64 v20:=by rw[b.aA 32 ay];simp only[*,go_sem,-h]
  have fr:slot c 34= .agg #[.string ⟨⟨a.name⟩⟩,.int .i64 a.from_.low,.int .i64 a.from_.high,.int .i64 a.wide,.int .i64 a.aC.low,.int .i64 a.aC.high,.slice d30 a.marks.length x]:=by rw[b.aA 34 ay];simp only[*,go_sem,-h]
  have fs:slot c 35= .pointer (some ⟨o,0,none⟩):=by rw[b.aA 35 ay];simp only[*,go_sem,-h]
  have ft:slot c 36= .string ⟨⟨a.name⟩⟩:=by rw[b.aA 36 ay];simp only[*,go_sem,-h]
  have fv:slot c 37= .bool bm:=by rw[b.aA 37 ay];simp only[*,go_sem,-h]
  have fw:slot c 38= .bool false:=by rw[b.aA 38 ay];simp only[*,go_sem,-h]
  have fx:cq [2,3,4,5,6,7,23,24,25,26,27,28,29,30,31,32,33,34,35,36,37,38,39,40,41,42,43,44,45,46,47,48,49,50,51,52,53,54,55,56,57,58,59,60,61,62,63,64,65,66,67,68,69,70,71,72,73,74,75,76,77,78,79,80,81,82,83,84,85,86,87,88,89,90,91,92,93,94,95,96,97,98,99] c u:=(b.eg ay).trans au;clear b a2 a3 a4 ao ar a0;obtain _|m2:=m2
  .exact absurd p (by simp only[aZ,reduceCtorEq,not_false_eq_true])
  have h':=av p;clear p h;obtain ⟨fz,h,s⟩:=h';unfold kU at h;try dsimp only at h
  refine af hJ ?_;refine af hJ ?_;refine ah hJ ?_;apply aa _;have h':=aD h;clear h;rcases h' with ⟨H,h⟩|⟨H,h⟩
  ·(try simp only[Int.ofNat_lt] at H);refine aL hJ au ?_;refine aR hJ ?_;refine af hJ ?_;refine bf hJ ?_;refine af hJ ?_;refine cB hJ mixed 9 ⟨ro,[(o,.cells #[.string ⟨⟨a.name⟩⟩,.int .i64 a.from_.low,.int .i64 a.from_.high,.int .i64 a.wide,.int .i64 a.aC.low,.int .i64 a.aC.high,.slice d30 a.marks.length x] 56),(f,.cells #[.int .i64 u0.steps,.int .i64 u0.an,.slice (some n) u0.aj.length c4] 24)]⟩ au aS ?_;have h':=av h;clear h;obtain ⟨gg,bs,h⟩:=h';obtain ⟨gj,gl,V⟩:=cI bs;obtain ⟨gn,gp,b0,b1,i⟩:=R _ _ V;obtain ⟨gy,rfl,b2⟩:=b1;obtain ⟨d52,g0,rfl,g1,g2,g3⟩:=id b2;cases b0;have b3:=i 0 _ rfl;simp only[go_sem] at b3;have b4:=i 1 _ rfl;simp only[go_sem] at b4;have ca:=i 2 _ rfl;simp only[go_sem] at ca;have cb:=i 3 _ rfl;simp only[go_sem] at cb;have cc:=i 4 _ rfl;simp only[go_sem] at cc;have cd:=i 5 _ rfl;simp only[go_sem] at cd;have cf:=i 6 _ rfl;simp only[go_sem] at cf;clear i V;(try apply aa _);have h':=aD h;clear h;rcases h' with ⟨I,h⟩|⟨I,h⟩
   ·(try simp only[Int.ofNat_lt] at I);refine aL hJ au ?_;refine af hJ ?_;refine ah hJ ?_;apply aa _;have h':=Option.some.inj h;clear h;subst h';have h':=Option.some.inj s;clear s;subst h';have h:=U;dsimp only[aJ] at h;have h':=Option.some.inj h;clear h;subst h';have h':=Option.some.inj d;clear d;subst h';have h:=e;dsimp only[aJ] at h;have h':=Option.some.inj h;clear h;subst h';refine aI ?_;simp only[*,go_sem]
   (try simp only[Int.ofNat_lt] at I);refine aM hJ au ?_;refine aR hJ ?_;refine ah hJ ?_;apply aa _;have h':=Option.some.inj h;clear h;subst h';have h:=True.intro;(try apply aa _);refine ⟨m2,Nat.lt_succ_self _,_,Le.sub (List.Sublist.refl _),q,(IntKind.i64.wrap (y+1)),s,rfl,?_⟩;simp only[*,go_sem,-h]
  try simp only[Int.ofNat_lt] at H
  refine aM hJ au ?_;refine bM ?_;simp only[go_sem];have h':=Option.some.inj h;clear h;subst h';have h':=Option.some.inj s;clear s;subst h';have h:=U;dsimp only[aJ] at h;refine af hJ ?_;refine af hJ ?_;refine ah hJ ?_;have h':=av h;clear h;obtain ⟨g4,ck,h⟩:=h';apply aa _;refine bl hJ _ (y9 a.from_ 0 (IntKind.i64.wrap (u0.steps - 1)) ck) (aQ ?_);have h':=aD h;clear h;rcases h' with ⟨K,h⟩|⟨K,h⟩
  ·(try simp only[Int.ofNat_lt] at K);(try apply aa _);refine aL hJ au ?_;refine af hJ ?_;refine ah hJ ?_;apply aa _;have h':=Option.some.inj h;clear h;subst h';have h':=Option.some.inj d;clear d;subst h';have h:=e;dsimp only[aJ] at h;have h':=Option.some.inj h;clear h;subst h';refine aI ?_;simp only[*,go_sem]
  try simp only[Int.ofNat_lt] at K
  have h':=av h;clear h;obtain ⟨g7,cl,h⟩:=h';try apply aa _
  refine bl hJ _ (qo a.from_ cl) (aQ ?_);have h':=aD h;clear h;rcases h' with ⟨L,h⟩|⟨L,h⟩
  ·(try simp only[Int.ofNat_lt] at L);(try apply aa _);refine aL hJ au ?_;refine af hJ ?_;refine ah hJ ?_;apply aa _;have h':=Option.some.inj h;clear h;subst h';have h':=Option.some.inj d;clear d;subst h';have h:=e;dsimp only[aJ] at h;have h':=Option.some.inj h;clear h;subst h';refine aI ?_;simp only[*,go_sem]
  try simp only[Int.ofNat_lt] at L
  have h':=av h;clear h;obtain ⟨ha,cv,h⟩:=h';try apply aa _
  refine bl hJ _ (fO a.wide 1 u0.steps cv) (aQ ?_);have h':=aD h;clear h;rcases h' with ⟨M,h⟩|⟨M,h⟩
  ·(try simp only[Int.ofNat_lt] at M);(try apply aa _);refine aL hJ au ?_;refine af hJ ?_;refine ah hJ ?_;apply aa _;have h':=Option.some.inj h;clear h;subst h';have h':=Option.some.inj d;clear d;subst h';have h:=e;dsimp only[aJ] at h;have h':=Option.some.inj h;clear h;subst h';refine aI ?_;simp only[*,go_sem]
  try simp only[Int.ofNat_lt] at M
  have h':=av h;clear h;obtain ⟨hc,cy,h⟩:=h';try apply aa _
  refine bl hJ _ (y9 a.aC (-3) 3 cy) (aQ ?_);have h':=aD h;clear h;rcases h' with ⟨N,h⟩|⟨N,h⟩
  ·(try simp only[Int.ofNat_lt] at N);(try apply aa _);refine aL hJ au ?_;refine af hJ ?_;refine ah hJ ?_;apply aa _;have h':=Option.some.inj h;clear h;subst h';have h':=Option.some.inj d;clear d;subst h';have h:=e;dsimp only[aJ] at h;have h':=Option.some.inj h;clear h;subst h';refine aI ?_;simp only[*,go_sem]
  try simp only[Int.ofNat_lt] at N
  have h':=av h;clear h;obtain ⟨hf,c0,h⟩:=h';try apply aa _
  refine bl hJ _ (qo a.aC c0) (aQ ?_);try apply aa _
  have h':=aD h;clear h;rcases h' with ⟨O,h⟩|⟨O,h⟩
  ·(try simp only[Int.ofNat_lt] at O);refine aL hJ au ?_;refine af hJ ?_;refine ah hJ ?_;apply aa _;have h':=Option.some.inj h;clear h;subst h';have h':=Option.some.inj d;clear d;subst h';have h:=e;dsimp only[aJ] at h;have h':=Option.some.inj h;clear h;subst h';refine aI ?_;simp only[*,go_sem]
  try simp only[Int.ofNat_lt] at O
  refine aM hJ au ?_;refine aR hJ ?_;refine af hJ ?_;refine af hJ ?_;refine ah hJ ?_;have h':=av h;clear h;obtain ⟨hg,da,h⟩:=h';apply aa _;refine bl hJ _ (EZ a (T.mono aX) da) (aQ ?_);try apply aa _
  refine af hJ ?_;refine ah hJ ?_;apply aa _;have h':=aD h;clear h;rcases h' with ⟨P,h⟩|⟨P,h⟩
  ·(try simp only[Int.ofNat_lt] at P);refine aL hJ au ?_;refine af hJ ?_;refine ah hJ ?_;apply aa _;have h':=Option.some.inj h;clear h;subst h';have h':=Option.some.inj d;clear d;subst h';have h:=e;dsimp only[aJ] at h;have h':=Option.some.inj h;clear h;subst h';refine aI ?_;simp only[*,go_sem]
  try simp only[Int.ofNat_lt] at P
  refine aM hJ au ?_;refine aR hJ ?_;refine cB hJ mixed 10 ⟨ro,[(o,.cells #[.string ⟨⟨a.name⟩⟩,.int .i64 a.from_.low,.int .i64 a.from_.high,.int .i64 a.wide,.int .i64 a.aC.low,.int .i64 a.aC.high,.slice d30 a.marks.length x] 56),(f,.cells #[.int .i64 u0.steps,.int .i64 u0.an,.slice (some n) u0.aj.length c4] 24)]⟩ au aS ?_;have h':=av h;clear h;obtain ⟨db,dd,h⟩:=h';apply aa _;refine ⟨_,dI hJ fun F hF=>qo a.from_ dd,ef ?_⟩;have h':=av h;clear h;obtain ⟨df,dk,h⟩:=h';try apply aa _
  refine ⟨_,dI hJ fun F hF=>qo a.aC dk,ef ?_⟩;try apply aa _
  refine ah hJ ?_;apply aa _;have h':=Option.some.inj h;clear h;subst h';have h:=True.intro;try apply aa _
  refine ⟨D,Nat.lt_succ_self _,_,Le.sub (List.Sublist.cons _ (List.Sublist.refl _)),q,(IntKind.i64.wrap ((IntKind.i64.wrap (l*db))*df)),(IntKind.i64.wrap (v20+1)),d,rfl,?_⟩;simp only[*,go_sem,-h]
 try simp only[Int.ofNat_lt] at E
 refine aM hJ au ?_;refine bM ?_;simp only[go_sem];have h':=Option.some.inj h;clear h;subst h';have h':=Option.some.inj d;clear d;subst h';have h:=e;dsimp only[aJ] at h;refine af hJ ?_;refine af hJ ?_;refine ah hJ ?_;apply aa _;have h':=aD h;clear h;rcases h' with ⟨Q,h⟩|⟨Q,h⟩
 .try simp only[Int.ofNat_lt] at Q
  refine aL hJ au ?_;refine af hJ ?_;refine ah hJ ?_;apply aa _;have h':=Option.some.inj h;clear h;subst h';refine aI ?_;simp only[*,go_sem]
 try simp only[Int.ofNat_lt] at Q
 refine aM hJ au ?_;refine aR hJ ?_;refine af hJ ?_;refine ah hJ ?_;apply aa _;have h':=Option.some.inj h;clear h;subst h';refine aI ?_;simp only[*,go_sem]
def kV (u0:aH)(b:b7)(a:Int)(d:Int):Option aV:=
 ak (bI u0.aj a) fun e=>ak (bI e.marks d) fun c=>ak (bI b.ax a) fun f=>ak (jP (IntKind.i64.wrap (f+c.dN)) u0.steps) fun g=>ak (bI b.az a) fun h=>some (⟨g,IntKind.i64.wrap (h+c.row)⟩:aV)
theorem uV {ro:Addr->Option Value}(u0:aH){s1:Value}(s:aG bJ ro s1 u0.aj)(b:b7){e:Value}(t:aG rI ro e b.ax){f:Value}(u:aG rI ro f b.az){g:Value}(w:aG rI ro g b.an)(i:Int)(j:Int){r:aV}(h:kV u0 b i j=some r):aF Tryz.prog 57 #[.agg #[.int .i64 u0.steps,.int .i64 u0.an,s1],.agg #[e,f,g],.int .i64 i,.int .i64 j] ⟨ro,[]⟩ (fun v _=>v=r.v):=by
 obtain ⟨d3,c4,rfl,bd,bj,x⟩:=id s;obtain ⟨d10,y,rfl,bk,bm,z⟩:=id t;obtain ⟨d17,B,rfl,bo,br,C⟩:=id u;obtain ⟨d24,D,rfl,bs,b0,b1⟩:=id w;unfold kV at h;refine aF.go Tryz.func57 rfl Tryz.ntmps57 Tryz.results57 aB fun main J hJ A b2 hd hs=>?_;have b3:=hs 0;have k1:=hs 1;have b4:=hs 2;have ca:=hs 3;clear hs;refine af hJ ?_;refine ah hJ ?_;apply aa _;intro E f29;have cb:=aT f29;have F:=aU f29;try simp only[aN] at F
 intro G f30;have cc:=aT f30;have H:=aU f30;try simp only[aN] at H
 intro cd f31;have cf:=aT f31;have I:=aU f31;try simp only[aN] at I
 try apply aa _
 refine af hJ ?_;refine ah hJ ?_;have h':=av h;clear h;obtain ⟨ck,K,h⟩:=h';obtain ⟨cl,cv,k⟩:=cI K;obtain ⟨L,cy,M,N,a⟩:=x _ _ k;obtain ⟨c0,rfl,O⟩:=N;obtain ⟨d35,da,rfl,db,dd,P⟩:=id O;cases M;have Q:=a 0 _ rfl;simp only[go_sem] at Q;have R:=a 1 _ rfl;simp only[go_sem] at R;have S:=a 2 _ rfl;simp only[go_sem] at S;have T:=a 3 _ rfl;simp only[go_sem] at T;have U:=a 4 _ rfl;simp only[go_sem] at U;have V:=a 5 _ rfl;simp only[go_sem] at V;have W:=a 6 _ rfl;simp only[go_sem] at W;clear a k;have h':=av h;clear h;obtain ⟨c,X,h⟩:=h';obtain ⟨df,dk,l⟩:=cI X;obtain ⟨dp,Y,Z,ab,d⟩:=P _ _ l;obtain rfl:Y=c.cells:=ab;cases Z;have ad:=d 0 _ rfl;simp only[go_sem] at ad;have ae:=d 1 _ rfl;simp only[go_sem] at ae;have al:=d 2 _ rfl;simp only[go_sem] at al;clear d l;try apply aa _
 intro ao f45;have dq:=aT f45;have ar:=aU f45;try simp only[aN] at ar
 try apply aa _
 refine af hJ ?_;refine cB hJ mixed 20 ⟨ro,[(ao,.cells #[.string ⟨⟨c.bH⟩⟩,.int .i64 c.dN,.int .i64 c.row] 92),(G,.cells #[.slice d10 b.ax.length y,.slice d17 b.az.length B,.slice d24 b.an.length D] 27),(E,.cells #[.int .i64 u0.steps,.int .i64 u0.an,.slice (some L) u0.aj.length c4] 24)]⟩ au aS ?_;have h':=av h;clear h;obtain ⟨a0,a2,h⟩:=h';obtain ⟨ds,dt,m⟩:=cI a2;obtain ⟨du,a3,a4,a5,n⟩:=z _ _ m;obtain rfl:a3=[.int .i64 a0]:=a5;cases a4;have a6:=n 0 _ rfl;simp only[go_sem] at a6;clear n m;have h':=av h;clear h;obtain ⟨dv,o,h⟩:=h';obtain ⟨dC,dE⟩:=s8 o;clear o;have h':=av h;clear h;obtain ⟨a7,a8,h⟩:=h';obtain ⟨dT,ea,p⟩:=cI a8;obtain ⟨eb,a9,ba,bb,q⟩:=C _ _ p;obtain rfl:a9=[.int .i64 a7]:=bb;cases ba;have bc:=q 0 _ rfl;simp only[go_sem] at bc;clear q p;try apply aa _
 have h':=Option.some.inj h;clear h;subst h';refine aI ?_;simp only[*,go_sem]
def mC (u0:(List Int))(b:Int)(st:(Int×Int)):Option (Fl (Int×Int) Int):=
 cond (decide (st.2<(u0.length:Int))) (ak (bI u0 st.2) fun a=>ak (eN a 0 (IntKind.i64.wrap (b - 1))) fun c=>cond (!c) (some (.rt 6)) (cond (decide (0<st.2)) (ak (bI u0 (IntKind.i64.wrap (st.2 - 1))) fun d=>cond (decide (a<=d)) (some (.rt 7)) (some (.nx (st.1,(IntKind.i64.wrap (st.2+1)))))) (some (.nx (st.1,(IntKind.i64.wrap (st.2+1))))))) (some (.bk (st.1,st.2)))
def jZ (u0:(List Int))(a:Int):Option Int:=
 ak (aZ (mC u0 a) fu (0,0)) fun o=>aJ o (fun b=>some 0) (fun _ _=>none) (fun r=>some r)
theorem uW {ro:Addr->Option Value}(u0:(List Int)){s1:Value}(y:aG rI ro s1 u0)(b:Int){r:Int}(h:jZ u0 b=some r):aF Tryz.prog 22 #[s1,.int .i64 b] ⟨ro,[]⟩ (fun v _=>v= .int .i64 r):=by
 obtain ⟨d3,c4,rfl,Q,R,p⟩:=id y;unfold jZ at h;refine aF.go Tryz.func22 rfl Tryz.ntmps22 Tryz.results22 aB fun main J hJ A z hd hs=>?_;have B:=hs 0;have k1:=hs 1;clear hs;refine af hJ ?_;refine ah hJ ?_;apply aa _;refine af hJ ?_;refine af hJ ?_;refine ah hJ ?_;apply aa _;refine bf hJ ?_;have h':=av h;clear h;obtain ⟨C,c,j⟩:=h';have h:=True.intro;refine bO hJ [4,5,6,7,8,9,10,11,12,13,14,15,16,17,18,19,20,21,22,23,24,25,26,27,28,29,30,31,32,33] (fun m q F'=>∃(d:Int) (e:Int),aZ (mC u0 b) m (d,e)=some C/\F'=⟨ro,[]⟩/\slot q 4= .int .i64 d/\slot q 5= .int .i64 e) fu ?_ ?_
 .refine ⟨0,0,c,rfl,?_⟩;simp only[*,go_sem,-h]
 rintro g i F' f ⟨d,e,c,rfl,S,T⟩;have h:=True.intro;have U:sz i=34:=by rw[f.size];simp only[*,go_sem,-h]
 have V:i.defers=[]:=by rw[f.defers];simp only[*,go_sem,-h]
 have W:slot i 0= .slice d3 u0.length c4:=by rw[f.aA 0 ay];simp only[*,go_sem,-h]
 have X:slot i 1= .int .i64 b:=by rw[f.aA 1 ay];simp only[*,go_sem,-h]
 clear f z hd B k1;obtain _|g:=g
 .exact absurd c (by simp only[aZ,reduceCtorEq,not_false_eq_true])
 have h':=av c;clear c h;obtain ⟨Y,h,a⟩:=h';unfold mC at h;try dsimp only at h
 refine af hJ ?_;refine af hJ ?_;refine ah hJ ?_;apply aa _;have h':=aD h;clear h;rcases h' with ⟨k,h⟩|⟨k,h⟩
 .try simp only[Int.ofNat_lt] at k
  refine aL hJ au ?_;refine aR hJ ?_;refine af hJ ?_;refine bf hJ ?_;refine af hJ ?_;refine af hJ ?_;refine ah hJ ?_;have h':=av h;clear h;obtain ⟨s,D,h⟩:=h';obtain ⟨Z,ab,t⟩:=cI D;obtain ⟨ad,E,F,G,u⟩:=p _ _ t;obtain rfl:E=[.int .i64 s]:=G;cases F;have H:=u 0 _ rfl;simp only[go_sem] at H;clear u t;have h':=av h;clear h;obtain ⟨ae,I,h⟩:=h';try apply aa _
  refine bl hJ _ (fO s 0 (IntKind.i64.wrap (b - 1)) I) (aQ ?_);try apply aa _
  have h':=aD h;clear h;rcases h' with ⟨l,h⟩|⟨l,h⟩
  ·(try simp only[Int.ofNat_lt] at l);refine aL hJ au ?_;refine af hJ ?_;refine ah hJ ?_;apply aa _;have h':=Option.some.inj h;clear h;subst h';have h':=Option.some.inj a;clear a;subst h';have h:=j;dsimp only[aJ] at h;have h':=Option.some.inj h;clear h;subst h';refine aI ?_;simp only[*,go_sem]
  try simp only[Int.ofNat_lt] at l
  refine aM hJ au ?_;refine aR hJ ?_;refine af hJ ?_;refine cB hJ mixed 14 ⟨ro,[]⟩ au aS ?_;have h':=aD h;clear h;rcases h' with ⟨n,h⟩|⟨n,h⟩
  ·(try simp only[Int.ofNat_lt] at n);have h':=av h;clear h;obtain ⟨K,L,h⟩:=h';obtain ⟨al,ao,w⟩:=cI L;obtain ⟨ar,M,N,O,x⟩:=p _ _ w;obtain rfl:M=[.int .i64 K]:=O;cases N;have P:=x 0 _ rfl;simp only[go_sem] at P;clear x w;(try apply aa _);have h':=aD h;clear h;rcases h' with ⟨o,h⟩|⟨o,h⟩
   ·(try simp only[Int.ofNat_lt] at o);refine aL hJ au ?_;refine af hJ ?_;refine ah hJ ?_;apply aa _;have h':=Option.some.inj h;clear h;subst h';have h':=Option.some.inj a;clear a;subst h';have h:=j;dsimp only[aJ] at h;have h':=Option.some.inj h;clear h;subst h';refine aI ?_;simp only[*,go_sem]
   (try simp only[Int.ofNat_lt] at o);refine aM hJ au ?_;refine aR hJ ?_;refine ah hJ ?_;apply aa _;have h':=Option.some.inj h;clear h;subst h';have h:=True.intro;(try apply aa _);refine ⟨g,Nat.lt_succ_self _,_,Le.sub (List.Sublist.refl _),d,(IntKind.i64.wrap (e+1)),a,rfl,?_⟩;simp only[*,go_sem,-h]
  try simp only[Int.ofNat_lt] at n
  try apply aa _
  refine aM hJ au ?_;refine aR hJ ?_;refine ah hJ ?_;apply aa _;have h':=Option.some.inj h;clear h;subst h';have h:=True.intro;try apply aa _
  refine ⟨g,Nat.lt_succ_self _,_,Le.sub (List.Sublist.refl _),d,(IntKind.i64.wrap (e+1)),a,rfl,?_⟩;simp only[*,go_sem,-h]
 try simp only[Int.ofNat_lt] at k
 refine aM hJ au ?_;refine bM ?_;simp only[go_sem];have h':=Option.some.inj h;clear h;subst h';have h':=Option.some.inj a;clear a;subst h';have h:=j;dsimp only[aJ] at h;refine af hJ ?_;refine ah hJ ?_;apply aa _;have h':=Option.some.inj h;clear h;subst h';refine aI ?_;simp only[*,go_sem]
def mD (u0:aH)(a:b7)(st:(Int×Int)):Option (Fl (Int×Int) Int):=
 cond (decide (st.2<(u0.aj.length:Int))) (ak (bI a.ax st.2) fun b=>ak (eN b 0 (IntKind.i64.wrap (u0.steps - 1))) fun c=>cond (!c) (some (.rt 1)) (ak (bI a.az st.2) fun d=>ak (eN d (-3) 3) fun e=>cond (!e) (some (.rt 1)) (some (.nx (st.1,(IntKind.i64.wrap (st.2+1))))))) (some (.bk (st.1,st.2)))
def mE (u0:aH)(a:b7):Option Int:=
 cond (((a.ax.length:Int) != (u0.aj.length:Int))) (some 2) (cond (((a.az.length:Int) != (u0.aj.length:Int))) (some 2) (ak (aZ (mD u0 a) fu (0,0)) fun o=>aJ o (fun c=>ak (jZ a.an (u0.aj.length:Int)) fun b=>some b) (fun _ _=>none) (fun r=>some r)))
theorem zy {ro:Addr->Option Value}(u0:aH){s1:Value}(L:aG bJ ro s1 u0.aj)(a:b7){t:Value}(M:aG rI ro t a.ax){u:Value}(N:aG rI ro u a.az){w:Value}(x:aG rI ro w a.an){r:Int}(h:mE u0 a=some r):aF Tryz.prog 55 #[.agg #[.int .i64 u0.steps,.int .i64 u0.an,s1],.agg #[t,u,w]] ⟨ro,[]⟩ (fun v _=>v= .int .i64 r):=by
 obtain ⟨d3,c4,rfl,a3,a4,a5⟩:=id L;obtain ⟨d10,y,rfl,a6,a7,O⟩:=id M;obtain ⟨d17,z,rfl,a8,a9,P⟩:=id N;obtain ⟨d24,B,rfl,ba,bb,bc⟩:=id x;unfold mE at h;refine aF.go Tryz.func55 rfl Tryz.ntmps55 Tryz.results55 aB fun main J hJ A Q hd hs=>?_;have R:=hs 0;have k1:=hs 1;clear hs;refine af hJ ?_;refine ah hJ ?_;apply aa _;intro i f29;have bd:=aT f29;have S:=aU f29;try simp only[aN] at S
 intro j f30;have bj:=aT f30;have T:=aU f30;try simp only[aN] at T
 try apply aa _
 refine af hJ ?_;refine af hJ ?_;refine ah hJ ?_;have h':=aD h;clear h;rcases h' with ⟨k,h⟩|⟨k,h⟩
 .try simp only[Int.ofNat_lt] at k
  try apply aa _
  refine aL hJ au ?_;refine af hJ ?_;refine ah hJ ?_;apply aa _;have h':=Option.some.inj h;clear h;subst h';refine aI ?_;simp only[*,go_sem]
 try simp only[Int.ofNat_lt] at k
 try apply aa _
 have h':=aD h;clear h;rcases h' with ⟨l,h⟩|⟨l,h⟩
 .try simp only[Int.ofNat_lt] at l
  refine aL hJ au ?_;refine af hJ ?_;refine ah hJ ?_;apply aa _;have h':=Option.some.inj h;clear h;subst h';refine aI ?_;simp only[*,go_sem]
 try simp only[Int.ofNat_lt] at l
 refine aM hJ au ?_;refine aR hJ ?_;refine af hJ ?_;refine af hJ ?_;refine ah hJ ?_;apply aa _;refine bf hJ ?_;have h':=av h;clear h;obtain ⟨U,c,n⟩:=h';have h:=True.intro;refine bO hJ [4,5,22,23,24,25,26,27,28,29,30,31,32,33,34,35,36,37,38,39,40,41,42,43,44,45,46,47] (fun m C F'=>∃(e:Int) (f:Int),aZ (mD u0 a) m (e,f)=some U/\F'=⟨ro,(j,.cells #[.slice d10 a.ax.length y,.slice d17 a.az.length z,.slice d24 a.an.length B] 27)::(i,.cells #[.int .i64 u0.steps,.int .i64 u0.an,.slice d3 u0.aj.length c4] 24)::[]⟩/\slot C 4= .int .i64 e/\slot C 5= .int .i64 f) fu ?_ ?_
 .refine ⟨0,0,c,rfl,?_⟩;simp only[*,go_sem,-h]
 rintro o g F' d ⟨e,f,c,rfl,bk,bm⟩;have h:=True.intro;have bo:sz g=54:=by rw[d.size];simp only[*,go_sem,-h]
 have br:g.defers=[]:=by rw[d.defers];simp only[*,go_sem,-h]
 have bs:slot g 2= .pointer (some ⟨i,0,none⟩):=by rw[d.aA 2 ay];simp only[*,go_sem,-h]
 have b0:slot g 3= .pointer (some ⟨j,0,none⟩):=by rw[d.aA 3 ay];simp only[*,go_sem,-h]
 clear d Q hd R k1;obtain _|o:=o
 .exact absurd c (by simp only[aZ,reduceCtorEq,not_false_eq_true])
 have h':=av c;clear c h;obtain ⟨b1,h,b⟩:=h';unfold mD at h;try dsimp only at h
 refine af hJ ?_;refine af hJ ?_;refine ah hJ ?_;apply aa _;have h':=aD h;clear h;rcases h' with ⟨p,h⟩|⟨p,h⟩
 .try simp only[Int.ofNat_lt] at p
  refine aL hJ au ?_;refine aR hJ ?_;refine af hJ ?_;refine bf hJ ?_;refine af hJ ?_;refine cB hJ mixed 19 ⟨ro,[(j,.cells #[.slice d10 a.ax.length y,.slice d17 a.az.length z,.slice d24 a.an.length B] 27),(i,.cells #[.int .i64 u0.steps,.int .i64 u0.an,.slice d3 u0.aj.length c4] 24)]⟩ au aS ?_;have h':=av h;clear h;obtain ⟨D,V,h⟩:=h';obtain ⟨b2,b3,E⟩:=cI V;obtain ⟨b4,W,X,Y,G⟩:=O _ _ E;obtain rfl:W=[.int .i64 D]:=Y;cases X;have Z:=G 0 _ rfl;simp only[go_sem] at Z;clear G E;have h':=av h;clear h;obtain ⟨ca,ab,h⟩:=h';try apply aa _
  refine ⟨_,dI hJ fun F hF=>fO D 0 (IntKind.i64.wrap (u0.steps - 1)) ab,ef ?_⟩;have h':=aD h;clear h;rcases h' with ⟨q,h⟩|⟨q,h⟩
  ·(try simp only[Int.ofNat_lt] at q);(try apply aa _);refine aL hJ au ?_;refine af hJ ?_;refine ah hJ ?_;apply aa _;have h':=Option.some.inj h;clear h;subst h';have h':=Option.some.inj b;clear b;subst h';have h:=n;dsimp only[aJ] at h;have h':=Option.some.inj h;clear h;subst h';refine aI ?_;simp only[*,go_sem]
  try simp only[Int.ofNat_lt] at q
  have h':=av h;clear h;obtain ⟨H,ad,h⟩:=h';obtain ⟨cb,cc,I⟩:=cI ad;obtain ⟨cd,ae,al,ao,K⟩:=P _ _ I;obtain rfl:ae=[.int .i64 H]:=ao;cases al;have ar:=K 0 _ rfl;simp only[go_sem] at ar;clear K I;have h':=av h;clear h;obtain ⟨cf,a0,h⟩:=h';try apply aa _
  refine ⟨_,dI hJ fun F hF=>fO H (-3) 3 a0,ef ?_⟩;try apply aa _
  have h':=aD h;clear h;rcases h' with ⟨s,h⟩|⟨s,h⟩
  ·(try simp only[Int.ofNat_lt] at s);refine aL hJ au ?_;refine af hJ ?_;refine ah hJ ?_;apply aa _;have h':=Option.some.inj h;clear h;subst h';have h':=Option.some.inj b;clear b;subst h';have h:=n;dsimp only[aJ] at h;have h':=Option.some.inj h;clear h;subst h';refine aI ?_;simp only[*,go_sem]
  try simp only[Int.ofNat_lt] at s
  refine aM hJ au ?_;refine aR hJ ?_;refine ah hJ ?_;apply aa _;have h':=Option.some.inj h;clear h;subst h';have h:=True.intro;try apply aa _
  refine ⟨o,Nat.lt_succ_self _,_,Le.sub (List.Sublist.refl _),e,(IntKind.i64.wrap (f+1)),b,rfl,?_⟩;simp only[*,go_sem,-h]
 try simp only[Int.ofNat_lt] at p
 refine aM hJ au ?_;refine bM ?_;simp only[go_sem];have h':=Option.some.inj h;clear h;subst h';have h':=Option.some.inj b;clear b;subst h';have h:=n;dsimp only[aJ] at h;refine af hJ ?_;refine ah hJ ?_;have h':=av h;clear h;obtain ⟨ck,a2,h⟩:=h';apply aa _;refine bl hJ _ (uW a.an (x.mono aX) (u0.aj.length:Int) a2) (aQ ?_);try apply aa _
 have h':=Option.some.inj h;clear h;subst h';refine aI ?_;simp only[*,go_sem]
def oQ (u0:aH)(a:b7)(b:Int)(c:Int):Option (aV×Int):=
 ak (jw u0) fun d=>cond ((d != 0)) (some ((⟨0,0⟩:aV),d)) (ak (mE u0 a) fun e=>cond ((e != 0)) (some ((⟨0,0⟩:aV),e)) (ak (qq u0 b c) fun f=>cond (!f) (some ((⟨0,0⟩:aV),6)) (ak (kV u0 a b c) fun g=>some (g,0))))
theorem E0 {ro:Addr->Option Value}(u0:aH){s1:Value}(b:aG bJ ro s1 u0.aj)(a:b7){l:Value}(e:aG rI ro l a.ax){m:Value}(f:aG rI ro m a.az){n:Value}(g:aG rI ro n a.an)(c:Int)(d:Int){r:(aV×Int)}(h:oQ u0 a c d=some r):aF Tryz.prog 12 #[.agg #[.int .i64 u0.steps,.int .i64 u0.an,s1],.agg #[l,m,n],.int .i64 c,.int .i64 d] ⟨ro,[]⟩ (fun v _=>v= .tuple #[r.1.v,.int .i64 r.2]):=by
 obtain ⟨d3,c4,rfl,x,y,z⟩:=id b;obtain ⟨d10,B,rfl,C,D,E⟩:=id e;obtain ⟨d17,F,rfl,G,H,I⟩:=id f;obtain ⟨d24,K,rfl,L,M,N⟩:=id g;unfold oQ at h;refine aF.go Tryz.func12 rfl Tryz.ntmps12 Tryz.results12 aB fun main J hJ A O hd hs=>?_;have P:=hs 0;have k1:=hs 1;have Q:=hs 2;have R:=hs 3;clear hs;refine af hJ ?_;refine ah hJ ?_;apply aa _;intro S f29;have T:=aT f29;have o:=aU f29;try simp only[aN] at o
 intro U f30;have V:=aT f30;have p:=aU f30;try simp only[aN] at p
 intro W f31;have X:=aT f31;have q:=aU f31;try simp only[aN] at q
 try apply aa _
 refine af hJ ?_;refine af hJ ?_;refine ah hJ ?_;have h':=av h;clear h;obtain ⟨Y,s,h⟩:=h';apply aa _;refine bl hJ _ (qV u0 (b.mono aX) s) (aQ ?_);try apply aa _
 refine af hJ ?_;refine ah hJ ?_;apply aa _;have h':=aD h;clear h;rcases h' with ⟨i,h⟩|⟨i,h⟩
 .try simp only[Int.ofNat_lt] at i
  refine aL hJ au ?_;refine af hJ ?_;refine ah hJ ?_;apply aa _;have h':=Option.some.inj h;clear h;subst h';refine aI ?_;simp only[*,go_sem]
 try simp only[Int.ofNat_lt] at i
 refine aM hJ au ?_;refine aR hJ ?_;refine af hJ ?_;refine af hJ ?_;refine ah hJ ?_;have h':=av h;clear h;obtain ⟨Z,t,h⟩:=h';apply aa _;refine bl hJ _ (zy u0 (b.mono aX) a (e.mono aX) (f.mono aX) (g.mono aX) t) (aQ ?_);try apply aa _
 refine af hJ ?_;refine ah hJ ?_;apply aa _;have h':=aD h;clear h;rcases h' with ⟨j,h⟩|⟨j,h⟩
 .try simp only[Int.ofNat_lt] at j
  refine aL hJ au ?_;refine af hJ ?_;refine ah hJ ?_;apply aa _;have h':=Option.some.inj h;clear h;subst h';refine aI ?_;simp only[*,go_sem]
 try simp only[Int.ofNat_lt] at j
 refine aM hJ au ?_;refine aR hJ ?_;refine af hJ ?_;refine af hJ ?_;refine ah hJ ?_;have h':=av h;clear h;obtain ⟨ab,u,h⟩:=h';apply aa _;refine bl hJ _ (D4 u0 (b.mono aX) c d u) (aQ ?_);try apply aa _
 have h':=aD h;clear h;rcases h' with ⟨k,h⟩|⟨k,h⟩
 .try simp only[Int.ofNat_lt] at k
  refine aL hJ au ?_;refine af hJ ?_;refine ah hJ ?_;apply aa _;have h':=Option.some.inj h;clear h;subst h';refine aI ?_;simp only[*,go_sem]
 try simp only[Int.ofNat_lt] at k
 refine aM hJ au ?_;refine aR hJ ?_;refine af hJ ?_;refine ah hJ ?_;have h':=av h;clear h;obtain ⟨ad,w,h⟩:=h';apply aa _;refine bl hJ _ (uV u0 (b.mono aX) a (e.mono aX) (f.mono aX) (g.mono aX) c d w) (aQ ?_);try apply aa _
 have h':=Option.some.inj h;clear h;subst h';refine aI ?_;simp only[*,go_sem]
def mF (u0:aH)(a:b7)(g:Int)(b:Int)(c:Int)(h:bp)(st:(Bool×Int)):Option (Fl (Bool×Int) Bool):=
 ak (bI u0.aj b) fun d=>cond (decide (st.2<(d.marks.length:Int))) (ak (bI h.marks c) fun i=>ak (bI d.marks st.2) fun j=>cond ((i.bH==j.bH)) (ak (kV u0 a g c) fun e=>ak (kV u0 a b st.2) fun f=>cond (!((e.step==f.step)&&(e.cu==f.cu))) (some (.rt false)) (some (.nx (st.1,(IntKind.i64.wrap (st.2+1)))))) (some (.nx (st.1,(IntKind.i64.wrap (st.2+1)))))) (some (.bk (st.1,st.2)))
def mG (u0:aH)(c:b7)(a:Int)(d:Int)(st:(Bool×Int)):Option (Fl (Bool×Int) Bool):=
 ak (bI u0.aj a) fun b=>cond (decide (st.2<(b.marks.length:Int))) (ak (aZ (mF u0 c a d st.2 b) fu (st.1,0)) fun o=>aJ o (fun e=>some (.nx (e.1,(IntKind.i64.wrap (st.2+1))))) (fun _ _=>none) (fun r=>some (.rt r))) (some (.bk (st.1,st.2)))
def oR (u0:aH)(a:b7)(b:Int)(c:Int):Option Bool:=
 ak (aZ (mG u0 a b c) fu (false,0)) fun o=>aJ o (fun d=>some true) (fun _ _=>none) (fun r=>some r)
theorem E1 {ro:Addr->Option Value}(u0:aH){s1:Value}(B:aG bJ ro s1 u0.aj)(a:b7){R:Value}(C:aG rI ro R a.ax){S:Value}(D:aG rI ro S a.az){T:Value}(E:aG rI ro T a.an)(d:Int)(i:Int){r:Bool}(h:oR u0 a d i=some r):aF Tryz.prog 138 #[.agg #[.int .i64 u0.steps,.int .i64 u0.an,s1],.agg #[R,S,T],.int .i64 d,.int .i64 i] ⟨ro,[]⟩ (fun v _=>v= .bool r):=by
 obtain ⟨d3,c4,rfl,ev,eQ,U⟩:=id B;obtain ⟨d10,G,rfl,eS,e0,e1⟩:=id C;obtain ⟨d17,H,rfl,e2,e3,fa⟩:=id D;obtain ⟨d24,I,rfl,fb,fc,fg⟩:=id E;unfold oR at h;refine aF.go Tryz.func138 rfl Tryz.ntmps138 Tryz.results138 aB fun main J hJ A ba hd hs=>?_;have bb:=hs 0;have k1:=hs 1;have bc:=hs 2;have bd:=hs 3;clear hs;refine af hJ ?_;refine ah hJ ?_;apply aa _;intro l f29;have fh:=aT f29;have bj:=aU f29;try simp only[aN] at bj
 intro q f30;have fi:=aT f30;have bk:=aU f30;try simp only[aN] at bk
 try apply aa _
 refine af hJ ?_;refine af hJ ?_;refine ah hJ ?_;apply aa _;refine bf hJ ?_;have h':=av h;clear h;obtain ⟨bm,s,V⟩:=h';have h:=True.intro;refine bO hJ [8,9,10,11,12,13,14,15,16,17,18,19,20,21,22,23,24,25,26,27,28,29,30,31,32,33,34,35,36,37,38,39,40,41,42,43,44,45,46,47,48,49,50,51,52,53,54,55,56,57,58,59,60,61,62,63,64,65,66] (fun m t F'=>∃(x:Bool) (e:Int),aZ (mG u0 a d i) m (x,e)=some bm/\F'=⟨ro,(q,.cells #[.slice d10 a.ax.length G,.slice d17 a.az.length H,.slice d24 a.an.length I] 27)::(l,.cells #[.int .i64 u0.steps,.int .i64 u0.an,.slice d3 u0.aj.length c4] 24)::[]⟩/\slot t 8= .bool x/\slot t 9= .int .i64 e) fu ?_ ?_
 .refine ⟨false,0,s,rfl,?_⟩;simp only[*,go_sem,-h]
 rintro K j F' k ⟨x,e,s,rfl,bo,br⟩;have h:=True.intro;have bs:sz j=67:=by rw[k.size];simp only[*,go_sem,-h]
 have b0:j.defers=[]:=by rw[k.defers];simp only[*,go_sem,-h]
 have b1:slot j 2= .int .i64 d:=by rw[k.aA 2 ay];simp only[*,go_sem,-h]
 have b2:slot j 3= .int .i64 i:=by rw[k.aA 3 ay];simp only[*,go_sem,-h]
 have b3:slot j 4= .pointer (some ⟨l,0,none⟩):=by rw[k.aA 4 ay];simp only[*,go_sem,-h]
 have b4:slot j 5= .pointer (some ⟨q,0,none⟩):=by rw[k.aA 5 ay];simp only[*,go_sem,-h]
 clear k ba hd bb k1 bc bd;obtain _|K:=K
 .exact absurd s (by simp only[aZ,reduceCtorEq,not_false_eq_true])
 have h':=av s;clear s h;obtain ⟨fj,h,u⟩:=h';unfold mG at h;try dsimp only at h
 refine af hJ ?_;refine af hJ ?_;refine ah hJ ?_;have h':=av h;clear h;obtain ⟨L,ca,h⟩:=h';obtain ⟨fl,fp,W⟩:=cI ca;obtain ⟨M,fr,cb,cc,f⟩:=U _ _ W;obtain ⟨fs,rfl,cd⟩:=cc;obtain ⟨d41,cf,rfl,ft,fv,ck⟩:=id cd;cases cb;have X:=f 0 _ rfl;simp only[go_sem] at X;have Y:=f 1 _ rfl;simp only[go_sem] at Y;have Z:=f 2 _ rfl;simp only[go_sem] at Z;have ab:=f 3 _ rfl;simp only[go_sem] at ab;have ad:=f 4 _ rfl;simp only[go_sem] at ad;have ae:=f 5 _ rfl;simp only[go_sem] at ae;have al:=f 6 _ rfl;simp only[go_sem] at al;clear f W;try apply aa _
 have h':=aD h;clear h;rcases h' with ⟨N,h⟩|⟨N,h⟩
 .try simp only[Int.ofNat_lt] at N
  refine aL hJ au ?_;refine aR hJ ?_;refine af hJ ?_;refine bf hJ ?_;refine af hJ ?_;refine ah hJ ?_;apply aa _;refine bf hJ ?_;have h':=av h;clear h;obtain ⟨cl,w,ao⟩:=h';have h:=True.intro;refine bO hJ [8,10,22,23,24,25,26,27,28,29,30,31,32,33,34,35,36,37,38,39,40,41,42,43,44,45,46,47,48,49,50,51,52,53,54,55,56,57,58,59,60,61,62,63,64,65,66] (fun m t F'=>∃(n:Bool) (o:Int),aZ (mF u0 a d i e L) m (n,o)=some cl/\F'=⟨ro,(q,.cells #[.slice d10 a.ax.length G,.slice d17 a.az.length H,.slice d24 a.an.length I] 27)::(l,.cells #[.int .i64 u0.steps,.int .i64 u0.an,.slice (some M) u0.aj.length c4] 24)::[]⟩/\slot t 8= .bool n/\slot t 10= .int .i64 o) fu ?_ ?_
  .refine ⟨x,0,w,rfl,?_⟩;simp only[*,go_sem,-h]
  rintro m2 c F' b ⟨n,o,w,rfl,fw,fx⟩;have h:=True.intro;have fz:sz c=67:=by rw[b.size];simp only[*,go_sem,-h]
  have gg:c.defers=[]:=by rw[b.defers];simp only[*,go_sem,-h]
  have gj:slot c 2= .int .i64 d:=by rw[b.aA 2 ay];simp only[*,go_sem,-h]
  have gl:slot c 3= .int .i64 i:=by rw[b.aA 3 ay];simp only[*,go_sem,-h]
  have gn:slot c 4= .pointer (some ⟨l,0,none⟩):=by rw[b.aA 4 ay];simp only[*,go_sem,-h]
  have gp:slot c 5= .pointer (some ⟨q,0,none⟩):=by rw[b.aA 5 ay];simp only[*,go_sem,-h]
  have gy:slot c 9= .int .i64 e:=by rw[b.aA 9 ay];simp only[*,go_sem,-h]
  have g0:slot c 11= .int .i64 e:=by rw[b.aA 11 ay];simp only[*,go_sem,-h]
  have g1:slot c 12= .pointer (some ⟨l,2,none⟩):=by rw[b.aA 12 ay];simp only[*,go_sem,-h]
  have g2:slot c 13= .slice (some M) u0.aj.length c4:=by rw[b.aA 13 ay];simp only[*,go_sem,-h]
  have g3:slot c 14= .int .i64 d:=by rw[b.aA 14 ay];simp only[*,go_sem,-h]
  have g4:slot c 17= .slice d41 L.marks.length cf:=by rw[b.aA 17 ay];simp only[*,go_sem,-h]
  have g7:slot c 18= .int .i64 (L.marks.length:Int):=by rw[b.aA 18 ay];simp only[*,go_sem,-h]
  have ha:slot c 19= .bool true:=by rw[b.aA 19 ay];simp only[*,go_sem,-h]
  have hc:cq [8,9,10,11,12,13,14,15,16,17,18,19,20,21,22,23,24,25,26,27,28,29,30,31,32,33,34,35,36,37,38,39,40,41,42,43,44,45,46,47,48,49,50,51,52,53,54,55,56,57,58,59,60,61,62,63,64,65,66] c j:=(b.eg ay).trans au;clear b bs b0 b1 b2 b3 b4 bo br;obtain _|m2:=m2
  .exact absurd w (by simp only[aZ,reduceCtorEq,not_false_eq_true])
  have h':=av w;clear w h;obtain ⟨hf,h,p⟩:=h';unfold mF at h;try dsimp only at h
  refine af hJ ?_;refine af hJ ?_;refine ah hJ ?_;have h':=av h;clear h;obtain ⟨hg,cv,h⟩:=h';obtain ⟨hh,hi,ar⟩:=cI cv;obtain ⟨hj,hk,cy,c0,g⟩:=U _ _ ar;obtain ⟨hl,rfl,da⟩:=c0;obtain ⟨d59,hn,rfl,ho,hp,db⟩:=id da;cases cy;have a0:=g 0 _ rfl;simp only[go_sem] at a0;have a2:=g 1 _ rfl;simp only[go_sem] at a2;have a3:=g 2 _ rfl;simp only[go_sem] at a3;have a4:=g 3 _ rfl;simp only[go_sem] at a4;have a5:=g 4 _ rfl;simp only[go_sem] at a5;have a6:=g 5 _ rfl;simp only[go_sem] at a6;have a7:=g 6 _ rfl;simp only[go_sem] at a7;clear g ar;try apply aa _
  have h':=aD h;clear h;rcases h' with ⟨O,h⟩|⟨O,h⟩
  ·(try simp only[Int.ofNat_lt] at O);refine aL hJ au ?_;refine aR hJ ?_;refine af hJ ?_;refine bf hJ ?_;refine af hJ ?_;refine cB hJ mixed 34 ⟨ro,[(q,.cells #[.slice d10 a.ax.length G,.slice d17 a.az.length H,.slice d24 a.an.length I] 27),(l,.cells #[.int .i64 u0.steps,.int .i64 u0.an,.slice (some M) u0.aj.length c4] 24)]⟩ au aS ?_;have h':=av h;clear h;obtain ⟨dd,df,h⟩:=h';obtain ⟨hq,hr,a8⟩:=cI df;obtain ⟨ht,dk,dp,dq,y⟩:=ck _ _ a8;obtain rfl:dk=dd.cells:=dq;cases dp;have ds:=y 0 _ rfl;simp only[go_sem] at ds;have dt:=y 1 _ rfl;simp only[go_sem] at dt;have du:=y 2 _ rfl;simp only[go_sem] at du;clear y a8;have h':=av h;clear h;obtain ⟨dv,dC,h⟩:=h';obtain ⟨hv,hx,a9⟩:=cI dC;obtain ⟨hy,dE,dT,ea,z⟩:=db _ _ a9;obtain rfl:dE=dv.cells:=ea;cases dT;have eb:=z 0 _ rfl;simp only[go_sem] at eb;have ec:=z 1 _ rfl;simp only[go_sem] at ec;have ed:=z 2 _ rfl;simp only[go_sem] at ed;clear z a9;have h':=aD h;clear h;rcases h' with ⟨P,h⟩|⟨P,h⟩
   ·(try simp only[Int.ofNat_lt] at P);have h':=av h;clear h;obtain ⟨hz,eh,h⟩:=h';(try apply aa _);refine ⟨_,dI hJ fun F hF=>uV u0 (B.mono (fW hF)) a (C.mono (fW hF)) (D.mono (fW hF)) (E.mono (fW hF)) d e eh,ef ?_⟩;have h':=av h;clear h;obtain ⟨hA,et,h⟩:=h';(try apply aa _);refine ⟨_,dI hJ fun F hF=>uV u0 (B.mono (fW hF)) a (C.mono (fW hF)) (D.mono (fW hF)) (E.mono (fW hF)) i o et,ef ?_⟩;(try apply aa _);have h':=aD h;clear h;rcases h' with ⟨Q,h⟩|⟨Q,h⟩
    ·(try simp only[Int.ofNat_lt] at Q);refine aL hJ au ?_;refine af hJ ?_;refine ah hJ ?_;apply aa _;have h':=Option.some.inj h;clear h;subst h';have h':=Option.some.inj p;clear p;subst h';have h:=ao;dsimp only[aJ] at h;have h':=Option.some.inj h;clear h;subst h';have h':=Option.some.inj u;clear u;subst h';have h:=V;dsimp only[aJ] at h;have h':=Option.some.inj h;clear h;subst h';refine aI ?_;simp only[*,go_sem]
    (try simp only[Int.ofNat_lt] at Q);refine aM hJ au ?_;refine aR hJ ?_;refine ah hJ ?_;apply aa _;have h':=Option.some.inj h;clear h;subst h';have h:=True.intro;(try apply aa _);refine ⟨m2,Nat.lt_succ_self _,_,Le.sub (List.Sublist.refl _),n,(IntKind.i64.wrap (o+1)),p,rfl,?_⟩;simp only[*,go_sem,-h]
   (try simp only[Int.ofNat_lt] at P);(try apply aa _);refine aM hJ au ?_;refine aR hJ ?_;refine ah hJ ?_;apply aa _;have h':=Option.some.inj h;clear h;subst h';have h:=True.intro;(try apply aa _);refine ⟨m2,Nat.lt_succ_self _,_,Le.sub (List.Sublist.refl _),n,(IntKind.i64.wrap (o+1)),p,rfl,?_⟩;simp only[*,go_sem,-h]
  try simp only[Int.ofNat_lt] at O
  refine aM hJ au ?_;refine bM ?_;simp only[go_sem];have h':=Option.some.inj h;clear h;subst h';have h':=Option.some.inj p;clear p;subst h';have h:=ao;dsimp only[aJ] at h;clear a0 a2 a3 a4 a5 a6 a7;refine ah hJ ?_;apply aa _;have h':=Option.some.inj h;clear h;subst h';have h:=True.intro;try apply aa _
  refine ⟨K,Nat.lt_succ_self _,_,Le.sub (List.Sublist.refl _),n,(IntKind.i64.wrap (e+1)),u,rfl,?_⟩;simp only[*,go_sem,-h]
 try simp only[Int.ofNat_lt] at N
 refine aM hJ au ?_;refine bM ?_;simp only[go_sem];have h':=Option.some.inj h;clear h;subst h';have h':=Option.some.inj u;clear u;subst h';have h:=V;dsimp only[aJ] at h;clear X Y Z ab ad ae al;refine af hJ ?_;refine ah hJ ?_;apply aa _;have h':=Option.some.inj h;clear h;subst h';refine aI ?_;simp only[*,go_sem]
def mH (u0:(List Int))(a:Int)(st:(Bool×Int)):Option (Fl (Bool×Int) Bool):=
 cond (decide (st.2<(u0.length:Int))) (ak (bI u0 st.2) fun b=>cond ((b==a)) (some (.rt true)) (some (.nx (st.1,(IntKind.i64.wrap (st.2+1)))))) (some (.bk (st.1,st.2)))
def kW (u0:(List Int))(a:Int):Option Bool:=
 ak (aZ (mH u0 a) fu (false,0)) fun o=>aJ o (fun b=>some false) (fun _ _=>none) (fun r=>some r)
theorem uX {ro:Addr->Option Value}(u0:(List Int)){s1:Value}(q:aG rI ro s1 u0)(d:Int){r:Bool}(h:kW u0 d=some r):aF Tryz.prog 21 #[s1,.int .i64 d] ⟨ro,[]⟩ (fun v _=>v= .bool r):=by
 obtain ⟨d3,c4,rfl,E,F,s⟩:=id q;unfold kW at h;refine aF.go Tryz.func21 rfl Tryz.ntmps21 Tryz.results21 aB fun main J hJ A t hd hs=>?_;have u:=hs 0;have k1:=hs 1;clear hs;refine af hJ ?_;refine ah hJ ?_;apply aa _;refine af hJ ?_;refine af hJ ?_;refine ah hJ ?_;apply aa _;refine bf hJ ?_;have h':=av h;clear h;obtain ⟨w,a,l⟩:=h';have h:=True.intro;refine bO hJ [4,5,6,7,8,9,10,11,12,13,14,15,16,17] (fun m n F'=>∃(e:Bool) (f:Int),aZ (mH u0 d) m (e,f)=some w/\F'=⟨ro,[]⟩/\slot n 4= .bool e/\slot n 5= .int .i64 f) fu ?_ ?_
 .refine ⟨false,0,a,rfl,?_⟩;simp only[*,go_sem,-h]
 rintro i g F' b ⟨e,f,a,rfl,G,H⟩;have h:=True.intro;have I:sz g=18:=by rw[b.size];simp only[*,go_sem,-h]
 have K:g.defers=[]:=by rw[b.defers];simp only[*,go_sem,-h]
 have L:slot g 0= .slice d3 u0.length c4:=by rw[b.aA 0 ay];simp only[*,go_sem,-h]
 have M:slot g 1= .int .i64 d:=by rw[b.aA 1 ay];simp only[*,go_sem,-h]
 clear b t hd u k1;obtain _|i:=i
 .exact absurd a (by simp only[aZ,reduceCtorEq,not_false_eq_true])
 have h':=av a;clear a h;obtain ⟨N,h,c⟩:=h';unfold mH at h;try dsimp only at h
 refine af hJ ?_;refine af hJ ?_;refine ah hJ ?_;apply aa _;have h':=aD h;clear h;rcases h' with ⟨j,h⟩|⟨j,h⟩
 .try simp only[Int.ofNat_lt] at j
  refine aL hJ au ?_;refine aR hJ ?_;refine af hJ ?_;refine bf hJ ?_;refine af hJ ?_;refine ah hJ ?_;have h':=av h;clear h;obtain ⟨x,y,h⟩:=h';obtain ⟨O,P,o⟩:=cI y;obtain ⟨Q,z,B,C,p⟩:=s _ _ o;obtain rfl:z=[.int .i64 x]:=C;cases B;have D:=p 0 _ rfl;simp only[go_sem] at D;clear p o;try apply aa _
  have h':=aD h;clear h;rcases h' with ⟨k,h⟩|⟨k,h⟩
  ·(try simp only[Int.ofNat_lt] at k);refine aL hJ au ?_;refine af hJ ?_;refine ah hJ ?_;apply aa _;have h':=Option.some.inj h;clear h;subst h';have h':=Option.some.inj c;clear c;subst h';have h:=l;dsimp only[aJ] at h;have h':=Option.some.inj h;clear h;subst h';refine aI ?_;simp only[*,go_sem]
  try simp only[Int.ofNat_lt] at k
  refine aM hJ au ?_;refine aR hJ ?_;refine ah hJ ?_;apply aa _;have h':=Option.some.inj h;clear h;subst h';have h:=True.intro;try apply aa _
  refine ⟨i,Nat.lt_succ_self _,_,Le.sub (List.Sublist.refl _),e,(IntKind.i64.wrap (f+1)),c,rfl,?_⟩;simp only[*,go_sem,-h]
 try simp only[Int.ofNat_lt] at j
 refine aM hJ au ?_;refine bM ?_;simp only[go_sem];have h':=Option.some.inj h;clear h;subst h';have h':=Option.some.inj c;clear c;subst h';have h:=l;dsimp only[aJ] at h;refine af hJ ?_;refine ah hJ ?_;apply aa _;have h':=Option.some.inj h;clear h;subst h';refine aI ?_;simp only[*,go_sem]
def mI (u0:aH)(c:b7)(b:(List Int))(a:Int)(st:(Bool×Int)):Option (Fl (Bool×Int) Bool):=
 cond (decide (st.2<a)) (ak (kW b a) fun d=>cond (!d) (ak (kW b st.2) fun e=>cond (!e) (ak (oR u0 c a st.2) fun f=>cond (!f) (some (.rt false)) (some (.nx (st.1,(IntKind.i64.wrap (st.2+1)))))) (some (.nx (st.1,(IntKind.i64.wrap (st.2+1)))))) (some (.nx (st.1,(IntKind.i64.wrap (st.2+1)))))) (some (.bk (st.1,st.2)))
def mJ (u0:aH)(a:b7)(b:(List Int))(st:(Bool×Int)):Option (Fl (Bool×Int) Bool):=
 cond (decide (st.2<(u0.aj.length:Int))) (ak (aZ (mI u0 a b st.2) fu (st.1,0)) fun o=>aJ o (fun c=>some (.nx (c.1,(IntKind.i64.wrap (st.2+1))))) (fun _ _=>none) (fun r=>some (.rt r))) (some (.bk (st.1,st.2)))
def oS (u0:aH)(a:b7)(b:(List Int)):Option Bool:=
 ak (aZ (mJ u0 a b) fu (false,0)) fun o=>aJ o (fun c=>some true) (fun _ _=>none) (fun r=>some r)
theorem E2 {ro:Addr->Option Value}(u0:aH){s1:Value}(D:aG bJ ro s1 u0.aj)(a:b7){E:Value}(F:aG rI ro E a.ax){G:Value}(H:aG rI ro G a.az){I:Value}(K:aG rI ro I a.an)(e:(List Int)){L:Value}(u:aG rI ro L e){r:Bool}(h:oS u0 a e=some r):aF Tryz.prog 118 #[.agg #[.int .i64 u0.steps,.int .i64 u0.an,s1],.agg #[E,G,I],L] ⟨ro,[]⟩ (fun v _=>v= .bool r):=by
 obtain ⟨d3,c4,rfl,a4,a5,a6⟩:=id D;obtain ⟨d10,M,rfl,a7,a8,a9⟩:=id F;obtain ⟨d17,N,rfl,ba,bb,bc⟩:=id H;obtain ⟨d24,O,rfl,bd,bj,bk⟩:=id K;obtain ⟨d31,P,rfl,bm,bo,br⟩:=id u;unfold oS at h;refine aF.go Tryz.func118 rfl Tryz.ntmps118 Tryz.results118 aB fun main J hJ A S hd hs=>?_;have T:=hs 0;have k1:=hs 1;have U:=hs 2;clear hs;refine af hJ ?_;refine ah hJ ?_;apply aa _;intro l f36;have bs:=aT f36;have V:=aU f36;try simp only[aN] at V
 intro s f37;have b0:=aT f37;have W:=aU f37;try simp only[aN] at W
 try apply aa _
 refine af hJ ?_;refine af hJ ?_;refine ah hJ ?_;apply aa _;refine bf hJ ?_;have h':=av h;clear h;obtain ⟨X,n,Q⟩:=h';have h:=True.intro;refine bO hJ [6,7,8,9,10,11,12,13,14,15,16,17,18,19,20,21,22,23,24,25,26,27,28,29,30,31,32,33,34,35,36,37,38] (fun m o F'=>∃(t:Bool) (d:Int),aZ (mJ u0 a e) m (t,d)=some X/\F'=⟨ro,(s,.cells #[.slice d10 a.ax.length M,.slice d17 a.az.length N,.slice d24 a.an.length O] 27)::(l,.cells #[.int .i64 u0.steps,.int .i64 u0.an,.slice d3 u0.aj.length c4] 24)::[]⟩/\slot o 6= .bool t/\slot o 7= .int .i64 d) fu ?_ ?_
 .refine ⟨false,0,n,rfl,?_⟩;simp only[*,go_sem,-h]
 rintro w j F' k ⟨t,d,n,rfl,Y,Z⟩;have h:=True.intro;have ab:sz j=39:=by rw[k.size];simp only[*,go_sem,-h]
 have ad:j.defers=[]:=by rw[k.defers];simp only[*,go_sem,-h]
 have ae:slot j 2= .slice d31 e.length P:=by rw[k.aA 2 ay];simp only[*,go_sem,-h]
 have al:slot j 3= .pointer (some ⟨l,0,none⟩):=by rw[k.aA 3 ay];simp only[*,go_sem,-h]
 have ao:slot j 4= .pointer (some ⟨s,0,none⟩):=by rw[k.aA 4 ay];simp only[*,go_sem,-h]
 clear k S hd T k1 U;obtain _|w:=w
 .exact absurd n (by simp only[aZ,reduceCtorEq,not_false_eq_true])
 have h':=av n;clear n h;obtain ⟨b1,h,p⟩:=h';unfold mJ at h;try dsimp only at h
 refine af hJ ?_;refine af hJ ?_;refine ah hJ ?_;apply aa _;have h':=aD h;clear h;rcases h' with ⟨x,h⟩|⟨x,h⟩
 .try simp only[Int.ofNat_lt] at x
  refine aL hJ au ?_;refine aR hJ ?_;refine af hJ ?_;refine bf hJ ?_;refine af hJ ?_;refine ah hJ ?_;apply aa _;refine bf hJ ?_;have h':=av h;clear h;obtain ⟨ar,q,R⟩:=h';have h:=True.intro;refine bO hJ [6,8,16,17,18,19,20,21,22,23,24,25,26,27,28,29,30,31,32,33,34,35,36,37,38] (fun m o F'=>∃(g:Bool) (f:Int),aZ (mI u0 a e d) m (g,f)=some ar/\F'=⟨ro,(s,.cells #[.slice d10 a.ax.length M,.slice d17 a.az.length N,.slice d24 a.an.length O] 27)::(l,.cells #[.int .i64 u0.steps,.int .i64 u0.an,.slice d3 u0.aj.length c4] 24)::[]⟩/\slot o 6= .bool g/\slot o 8= .int .i64 f) fu ?_ ?_
  .refine ⟨t,0,q,rfl,?_⟩;simp only[*,go_sem,-h]
  rintro m2 c F' b ⟨g,f,q,rfl,b2,b3⟩;have h:=True.intro;have b4:sz c=39:=by rw[b.size];simp only[*,go_sem,-h]
  have ca:c.defers=[]:=by rw[b.defers];simp only[*,go_sem,-h]
  have cb:slot c 2= .slice d31 e.length P:=by rw[b.aA 2 ay];simp only[*,go_sem,-h]
  have cc:slot c 3= .pointer (some ⟨l,0,none⟩):=by rw[b.aA 3 ay];simp only[*,go_sem,-h]
  have cd:slot c 4= .pointer (some ⟨s,0,none⟩):=by rw[b.aA 4 ay];simp only[*,go_sem,-h]
  have cf:slot c 7= .int .i64 d:=by rw[b.aA 7 ay];simp only[*,go_sem,-h]
  have ck:slot c 9= .int .i64 d:=by rw[b.aA 9 ay];simp only[*,go_sem,-h]
  have cl:slot c 10= .pointer (some ⟨l,2,none⟩):=by rw[b.aA 10 ay];simp only[*,go_sem,-h]
  have cv:slot c 11= .slice d3 u0.aj.length c4:=by rw[b.aA 11 ay];simp only[*,go_sem,-h]
  have cy:slot c 12= .int .i64 (u0.aj.length:Int):=by rw[b.aA 12 ay];simp only[*,go_sem,-h]
  have c0:slot c 13= .bool true:=by rw[b.aA 13 ay];simp only[*,go_sem,-h]
  have da:cq [6,7,8,9,10,11,12,13,14,15,16,17,18,19,20,21,22,23,24,25,26,27,28,29,30,31,32,33,34,35,36,37,38] c j:=(b.eg ay).trans au;clear b ab ad ae al ao Y Z;obtain _|m2:=m2
  .exact absurd q (by simp only[aZ,reduceCtorEq,not_false_eq_true])
  have h':=av q;clear q h;obtain ⟨db,h,i⟩:=h';unfold mI at h;try dsimp only at h
  refine af hJ ?_;refine af hJ ?_;refine ah hJ ?_;apply aa _;have h':=aD h;clear h;rcases h' with ⟨y,h⟩|⟨y,h⟩
  ·(try simp only[Int.ofNat_lt] at y);refine aL hJ au ?_;refine aR hJ ?_;refine af hJ ?_;refine bf hJ ?_;refine af hJ ?_;refine ah hJ ?_;have h':=av h;clear h;obtain ⟨dd,a0,h⟩:=h';apply aa _;refine bl hJ _ (uX e (u.mono aX) d a0) (aQ ?_);have h':=aD h;clear h;rcases h' with ⟨z,h⟩|⟨z,h⟩
   ·(try simp only[Int.ofNat_lt] at z);have h':=av h;clear h;obtain ⟨df,a2,h⟩:=h';(try apply aa _);refine bl hJ _ (uX e (u.mono aX) f a2) (aQ ?_);have h':=aD h;clear h;rcases h' with ⟨B,h⟩|⟨B,h⟩
    ·(try simp only[Int.ofNat_lt] at B);have h':=av h;clear h;obtain ⟨dk,a3,h⟩:=h';(try apply aa _);refine bl hJ _ (E1 u0 (D.mono aX) a (F.mono aX) (H.mono aX) (K.mono aX) d f a3) (aQ ?_);(try apply aa _);have h':=aD h;clear h;rcases h' with ⟨C,h⟩|⟨C,h⟩
     ·(try simp only[Int.ofNat_lt] at C);refine aL hJ au ?_;refine af hJ ?_;refine ah hJ ?_;apply aa _;have h':=Option.some.inj h;clear h;subst h';have h':=Option.some.inj i;clear i;subst h';have h:=R;dsimp only[aJ] at h;have h':=Option.some.inj h;clear h;subst h';have h':=Option.some.inj p;clear p;subst h';have h:=Q;dsimp only[aJ] at h;have h':=Option.some.inj h;clear h;subst h';refine aI ?_;simp only[*,go_sem]
     (try simp only[Int.ofNat_lt] at C);refine aM hJ au ?_;refine aR hJ ?_;refine ah hJ ?_;apply aa _;have h':=Option.some.inj h;clear h;subst h';have h:=True.intro;(try apply aa _);refine ⟨m2,Nat.lt_succ_self _,_,Le.sub (List.Sublist.refl _),g,(IntKind.i64.wrap (f+1)),i,rfl,?_⟩;simp only[*,go_sem,-h]
    (try simp only[Int.ofNat_lt] at B);(try apply aa _);refine aM hJ au ?_;refine aR hJ ?_;refine ah hJ ?_;apply aa _;have h':=Option.some.inj h;clear h;subst h';have h:=True.intro;(try apply aa _);refine ⟨m2,Nat.lt_succ_self _,_,Le.sub (List.Sublist.refl _),g,(IntKind.i64.wrap (f+1)),i,rfl,?_⟩;simp only[*,go_sem,-h]
   (try simp only[Int.ofNat_lt] at z);(try apply aa _);refine aM hJ au ?_;refine aR hJ ?_;refine ah hJ ?_;apply aa _;have h':=Option.some.inj h;clear h;subst h';have h:=True.intro;(try apply aa _);refine ⟨m2,Nat.lt_succ_self _,_,Le.sub (List.Sublist.refl _),g,(IntKind.i64.wrap (f+1)),i,rfl,?_⟩;simp only[*,go_sem,-h]
  try simp only[Int.ofNat_lt] at y
  refine aM hJ au ?_;refine bM ?_;simp only[go_sem];have h':=Option.some.inj h;clear h;subst h';have h':=Option.some.inj i;clear i;subst h';have h:=R;dsimp only[aJ] at h;refine ah hJ ?_;apply aa _;have h':=Option.some.inj h;clear h;subst h';have h:=True.intro;try apply aa _
  refine ⟨w,Nat.lt_succ_self _,_,Le.sub (List.Sublist.refl _),g,(IntKind.i64.wrap (d+1)),p,rfl,?_⟩;simp only[*,go_sem,-h]
 try simp only[Int.ofNat_lt] at x
 refine aM hJ au ?_;refine bM ?_;simp only[go_sem];have h':=Option.some.inj h;clear h;subst h';have h':=Option.some.inj p;clear p;subst h';have h:=Q;dsimp only[aJ] at h;refine af hJ ?_;refine ah hJ ?_;apply aa _;have h':=Option.some.inj h;clear h;subst h';refine aI ?_;simp only[*,go_sem]
def mK (u0:aH)(b:b7)(st:(Bool×Int)):Option (Fl (Bool×Int) Bool):=
 cond (decide (st.2<(u0.aj.length:Int))) (ak (bI u0.aj st.2) fun a=>ak (bI b.ax st.2) fun c=>ak (eN c a.from_.low a.from_.high) fun d=>cond (!d) (some (.rt false)) (ak (bI b.az st.2) fun e=>ak (eN e a.aC.low a.aC.high) fun f=>cond (!f) (some (.rt false)) (some (.nx (st.1,(IntKind.i64.wrap (st.2+1))))))) (some (.bk (st.1,st.2)))
def qW (u0:aH)(a:b7):Option Bool:=
 ak (aZ (mK u0 a) fu (false,0)) fun o=>aJ o (fun c=>cond (decide ((a.an.length:Int)<=u0.an)) (ak (oS u0 a a.an) fun b=>some b) (some false)) (fun _ _=>none) (fun r=>some r)
theorem E3 {ro:Addr->Option Value}(u0:aH){s1:Value}(z:aG bJ ro s1 u0.aj)(a:b7){B:Value}(C:aG rI ro B a.ax){D:Value}(E:aG rI ro D a.az){G:Value}(n:aG rI ro G a.an){r:Bool}(h:qW u0 a=some r):aF Tryz.prog 60 #[.agg #[.int .i64 u0.steps,.int .i64 u0.an,s1],.agg #[B,D,G]] ⟨ro,[]⟩ (fun v _=>v= .bool r):=by
 obtain ⟨d3,c4,rfl,b2,b3,Q⟩:=id z;obtain ⟨d10,o,rfl,b4,ca,R⟩:=id C;obtain ⟨d17,p,rfl,cb,cc,S⟩:=id E;obtain ⟨d24,q,rfl,cd,cf,ck⟩:=id n;unfold qW at h;refine aF.go Tryz.func60 rfl Tryz.ntmps60 Tryz.results60 aB fun main J hJ A T hd hs=>?_;have U:=hs 0;have k1:=hs 1;clear hs;refine af hJ ?_;refine ah hJ ?_;apply aa _;intro g f29;have cl:=aT f29;have V:=aU f29;try simp only[aN] at V
 intro i f30;have cv:=aT f30;have W:=aU f30;try simp only[aN] at W
 try apply aa _
 refine af hJ ?_;refine af hJ ?_;refine ah hJ ?_;apply aa _;refine bf hJ ?_;have h':=av h;clear h;obtain ⟨X,e,s⟩:=h';have h:=True.intro;refine bO hJ [4,5,6,7,8,9,10,11,12,13,14,15,16,17,18,19,20,21,22,23,24,25,26,27,28,29,30,31,32,33,34,35,36,37,38,39,40,41,42,43,44,45,46,47,48,49,50] (fun m H F'=>∃(j:Bool) (k:Int),aZ (mK u0 a) m (j,k)=some X/\F'=⟨ro,(i,.cells #[.slice d10 a.ax.length o,.slice d17 a.az.length p,.slice d24 a.an.length q] 27)::(g,.cells #[.int .i64 u0.steps,.int .i64 u0.an,.slice d3 u0.aj.length c4] 24)::[]⟩/\slot H 4= .bool j/\slot H 5= .int .i64 k) fu ?_ ?_
 .refine ⟨false,0,e,rfl,?_⟩;simp only[*,go_sem,-h]
 rintro t l F' f ⟨j,k,e,rfl,cy,c0⟩;have h:=True.intro;have da:sz l=64:=by rw[f.size];simp only[*,go_sem,-h]
 have db:l.defers=[]:=by rw[f.defers];simp only[*,go_sem,-h]
 have dd:slot l 2= .pointer (some ⟨g,0,none⟩):=by rw[f.aA 2 ay];simp only[*,go_sem,-h]
 have df:slot l 3= .pointer (some ⟨i,0,none⟩):=by rw[f.aA 3 ay];simp only[*,go_sem,-h]
 clear f T hd U k1;obtain _|t:=t
 .exact absurd e (by simp only[aZ,reduceCtorEq,not_false_eq_true])
 have h':=av e;clear e h;obtain ⟨dk,h,d⟩:=h';unfold mK at h;try dsimp only at h
 refine af hJ ?_;refine af hJ ?_;refine ah hJ ?_;apply aa _;have h':=aD h;clear h;rcases h' with ⟨u,h⟩|⟨u,h⟩
 .try simp only[Int.ofNat_lt] at u
  refine aL hJ au ?_;refine aR hJ ?_;refine af hJ ?_;refine bf hJ ?_;refine af hJ ?_;refine C5 hJ mixed 12 ⟨ro,[(i,.cells #[.slice d10 a.ax.length o,.slice d17 a.az.length p,.slice d24 a.an.length q] 27),(g,.cells #[.int .i64 u0.steps,.int .i64 u0.an,.slice d3 u0.aj.length c4] 24)]⟩ au aS 53 rfl CS ?_;have h':=av h;clear h;obtain ⟨b,Y,h⟩:=h';obtain ⟨dp,dq,I⟩:=cI Y;obtain ⟨Z,ds,ab,ad,c⟩:=Q _ _ I;obtain ⟨dt,rfl,ae⟩:=ad;obtain ⟨d42,du,rfl,dv,dC,dE⟩:=id ae;cases ab;have al:=c 0 _ rfl;simp only[go_sem] at al;have ao:=c 1 _ rfl;simp only[go_sem] at ao;have ar:=c 2 _ rfl;simp only[go_sem] at ar;have a0:=c 3 _ rfl;simp only[go_sem] at a0;have a2:=c 4 _ rfl;simp only[go_sem] at a2;have a3:=c 5 _ rfl;simp only[go_sem] at a3;have a4:=c 6 _ rfl;simp only[go_sem] at a4;clear c I;try apply aa _
  intro a5 f49;have dT:=aT f49;have a6:=aU f49;try simp only[aN] at a6
  try apply aa _
  intro a7 f50;have ea:=aT f50;have a8:=aU f50;try simp only[aN] at a8
  try apply aa _
  refine af hJ ?_;refine cB hJ mixed 24 ⟨ro,[(a7,.cells #[.int .i64 b.aC.low,.int .i64 b.aC.high] 53),(a5,.cells #[.int .i64 b.from_.low,.int .i64 b.from_.high] 53),(i,.cells #[.slice d10 a.ax.length o,.slice d17 a.az.length p,.slice d24 a.an.length q] 27),(g,.cells #[.int .i64 u0.steps,.int .i64 u0.an,.slice (some Z) u0.aj.length c4] 24)]⟩ au aS ?_;have h':=av h;clear h;obtain ⟨K,a9,h⟩:=h';obtain ⟨eb,ec,L⟩:=cI a9;obtain ⟨ed,ba,bb,bc,M⟩:=R _ _ L;obtain rfl:ba=[.int .i64 K]:=bc;cases bb;have bd:=M 0 _ rfl;simp only[go_sem] at bd;clear M L;have h':=av h;clear h;obtain ⟨eh,bj,h⟩:=h';try apply aa _
  refine ⟨_,dI hJ fun F hF=>fO K b.from_.low b.from_.high bj,ef ?_⟩;have h':=aD h;clear h;rcases h' with ⟨w,h⟩|⟨w,h⟩
  ·(try simp only[Int.ofNat_lt] at w);(try apply aa _);refine aL hJ au ?_;refine af hJ ?_;refine ah hJ ?_;apply aa _;have h':=Option.some.inj h;clear h;subst h';have h':=Option.some.inj d;clear d;subst h';have h:=s;dsimp only[aJ] at h;have h':=Option.some.inj h;clear h;subst h';refine aI ?_;simp only[*,go_sem]
  try simp only[Int.ofNat_lt] at w
  have h':=av h;clear h;obtain ⟨N,bk,h⟩:=h';obtain ⟨et,ev,O⟩:=cI bk;obtain ⟨eQ,bm,bo,br,P⟩:=S _ _ O;obtain rfl:bm=[.int .i64 N]:=br;cases bo;have bs:=P 0 _ rfl;simp only[go_sem] at bs;clear P O;have h':=av h;clear h;obtain ⟨eS,b0,h⟩:=h';try apply aa _
  refine ⟨_,dI hJ fun F hF=>fO N b.aC.low b.aC.high b0,ef ?_⟩;try apply aa _
  have h':=aD h;clear h;rcases h' with ⟨x,h⟩|⟨x,h⟩
  ·(try simp only[Int.ofNat_lt] at x);refine aL hJ au ?_;refine af hJ ?_;refine ah hJ ?_;apply aa _;have h':=Option.some.inj h;clear h;subst h';have h':=Option.some.inj d;clear d;subst h';have h:=s;dsimp only[aJ] at h;have h':=Option.some.inj h;clear h;subst h';refine aI ?_;simp only[*,go_sem]
  try simp only[Int.ofNat_lt] at x
  refine aM hJ au ?_;refine aR hJ ?_;refine ah hJ ?_;apply aa _;have h':=Option.some.inj h;clear h;subst h';have h:=True.intro;try apply aa _
  refine ⟨t,Nat.lt_succ_self _,_,Le.sub (List.Sublist.cons _ (List.Sublist.cons _ (List.Sublist.refl _))),j,(IntKind.i64.wrap (k+1)),d,rfl,?_⟩;simp only[*,go_sem,-h]
 try simp only[Int.ofNat_lt] at u
 refine aM hJ au ?_;refine bM ?_;simp only[go_sem];have h':=Option.some.inj h;clear h;subst h';have h':=Option.some.inj d;clear d;subst h';have h:=s;dsimp only[aJ] at h;refine af hJ ?_;refine ah hJ ?_;have h':=aD h;clear h;rcases h' with ⟨y,h⟩|⟨y,h⟩
 .try simp only[Int.ofNat_lt] at y
  have h':=av h;clear h;obtain ⟨e0,b1,h⟩:=h';try apply aa _
  refine bl hJ _ (E2 u0 (z.mono aX) a (C.mono aX) (E.mono aX) (n.mono aX) a.an (n.mono aX) b1) (aQ ?_);try apply aa _
  have h':=Option.some.inj h;clear h;subst h';refine aI ?_;simp only[*,go_sem]
 try simp only[Int.ofNat_lt] at y
 try apply aa _
 have h':=Option.some.inj h;clear h;subst h';refine aI ?_;simp only[*,go_sem]
def oT (u0:aH)(a:b7):Option (Bool×Int):=
 ak (jw u0) fun b=>cond ((b != 0)) (some (false,b)) (ak (mE u0 a) fun c=>cond ((c != 0)) (some (false,c)) (ak (qW u0 a) fun d=>some (d,0)))
theorem E4 {ro:Addr->Option Value}(u0:aH){s1:Value}(b:aG bJ ro s1 u0.aj)(a:b7){i:Value}(c:aG rI ro i a.ax){j:Value}(d:aG rI ro j a.az){k:Value}(e:aG rI ro k a.an){r:(Bool×Int)}(h:oT u0 a=some r):aF Tryz.prog 14 #[.agg #[.int .i64 u0.steps,.int .i64 u0.an,s1],.agg #[i,j,k]] ⟨ro,[]⟩ (fun v _=>v= .tuple #[.bool r.1,.int .i64 r.2]):=by
 obtain ⟨d3,c4,rfl,q,s,t⟩:=id b;obtain ⟨d10,u,rfl,w,x,y⟩:=id c;obtain ⟨d17,z,rfl,B,C,D⟩:=id d;obtain ⟨d24,E,rfl,F,G,H⟩:=id e;unfold oT at h;refine aF.go Tryz.func14 rfl Tryz.ntmps14 Tryz.results14 aB fun main J hJ A I hd hs=>?_;have K:=hs 0;have k1:=hs 1;clear hs;refine af hJ ?_;refine ah hJ ?_;apply aa _;intro L f29;have M:=aT f29;have l:=aU f29;try simp only[aN] at l
 intro N f30;have O:=aT f30;have m:=aU f30;try simp only[aN] at m
 try apply aa _
 refine af hJ ?_;refine af hJ ?_;refine ah hJ ?_;have h':=av h;clear h;obtain ⟨P,n,h⟩:=h';apply aa _;refine bl hJ _ (qV u0 (b.mono aX) n) (aQ ?_);try apply aa _
 refine af hJ ?_;refine ah hJ ?_;apply aa _;have h':=aD h;clear h;rcases h' with ⟨f,h⟩|⟨f,h⟩
 .try simp only[Int.ofNat_lt] at f
  refine aL hJ au ?_;refine af hJ ?_;refine ah hJ ?_;apply aa _;have h':=Option.some.inj h;clear h;subst h';refine aI ?_;simp only[*,go_sem]
 try simp only[Int.ofNat_lt] at f
 refine aM hJ au ?_;refine aR hJ ?_;refine af hJ ?_;refine af hJ ?_;refine ah hJ ?_;have h':=av h;clear h;obtain ⟨Q,o,h⟩:=h';apply aa _;refine bl hJ _ (zy u0 (b.mono aX) a (c.mono aX) (d.mono aX) (e.mono aX) o) (aQ ?_);try apply aa _
 refine af hJ ?_;refine ah hJ ?_;apply aa _;have h':=aD h;clear h;rcases h' with ⟨g,h⟩|⟨g,h⟩
 .try simp only[Int.ofNat_lt] at g
  refine aL hJ au ?_;refine af hJ ?_;refine ah hJ ?_;apply aa _;have h':=Option.some.inj h;clear h;subst h';refine aI ?_;simp only[*,go_sem]
 try simp only[Int.ofNat_lt] at g
 refine aM hJ au ?_;refine aR hJ ?_;refine af hJ ?_;refine ah hJ ?_;have h':=av h;clear h;obtain ⟨R,p,h⟩:=h';apply aa _;refine bl hJ _ (E3 u0 (b.mono aX) a (c.mono aX) (d.mono aX) (e.mono aX) p) (aQ ?_);try apply aa _
 have h':=Option.some.inj h;clear h;subst h';refine aI ?_;simp only[*,go_sem]
def oU (u0:aH):Option Bool:=
 ak (mq u0) fun a=>cond (!a) (ak (jw u0) fun b=>some (b==0)) (some false)
theorem E5 {ro:Addr->Option Value}(u0:aH){s1:Value}(a:aG bJ ro s1 u0.aj){r:Bool}(h:oU u0=some r):aF Tryz.prog 17 #[.agg #[.int .i64 u0.steps,.int .i64 u0.an,s1]] ⟨ro,[]⟩ (fun v _=>v= .bool r):=by
 obtain ⟨d3,c4,rfl,f,g,i⟩:=id a;unfold oU at h;refine aF.go Tryz.func17 rfl Tryz.ntmps17 Tryz.results17 aB fun main J hJ A j hd hs=>?_;have k:=hs 0;clear hs;refine af hJ ?_;refine ah hJ ?_;apply aa _;intro l f8;have m:=aT f8;have c:=aU f8;try simp only[aN] at c
 try apply aa _
 refine af hJ ?_;refine ah hJ ?_;have h':=av h;clear h;obtain ⟨n,d,h⟩:=h';apply aa _;refine bl hJ _ (zu u0 (a.mono aX) d) (aQ ?_);have h':=aD h;clear h;rcases h' with ⟨b,h⟩|⟨b,h⟩
 .try simp only[Int.ofNat_lt] at b
  have h':=av h;clear h;obtain ⟨o,e,h⟩:=h';try apply aa _
  refine bl hJ _ (qV u0 (a.mono aX) e) (aQ ?_);try apply aa _
  have h':=Option.some.inj h;clear h;subst h';refine aI ?_;simp only[*,go_sem]
 try simp only[Int.ofNat_lt] at b
 try apply aa _
 have h':=Option.some.inj h;clear h;subst h';refine aI ?_;simp only[*,go_sem]
def uY :Option aH:=
 ak (mw 2 3) fun a=>ak (mw (-1) 1) fun b=>ak (mw 5 6) fun c=>some (⟨8,1,[(⟨[101,97,115,116],(⟨0,0⟩:bS),4,(⟨0,0⟩:bS),[(⟨[116,111,119,101,114],1,2⟩:bu),(⟨[109,105,108,108],3,1⟩:bu)]⟩:bp),(⟨[115,111,117,116,104],a,4,b,[(⟨[109,105,108,108],0,1⟩:bu),(⟨[99,104,117,114,99,104],2,3⟩:bu)]⟩:bp),(⟨[119,101,115,116],c,3,(⟨0,0⟩:bS),[(⟨[99,104,117,114,99,104],0,3⟩:bu),(⟨[104,105,108,108],2,0⟩:bu)]⟩:bp)]⟩:aH)
theorem E6 {ro:Addr->Option Value}{r:aH}(h:uY=some r):eK Tryz.prog 42 #[] ro (fun v aK=>∃I,v= .agg #[.int .i64 r.steps,.int .i64 r.an,I]/\aG bJ aK I r.aj):=by
 unfold uY at h;refine aF.go Tryz.func42 rfl Tryz.ntmps42 Tryz.results42 aB fun main J hJ A ar hd hs=>?_;clear hs;refine af hJ ?_;refine ah hJ ?_;apply aa _;intro j f1;have r1:=aT f1;have n1:=aU f1;try simp only[aN] at n1
 try apply aa _
 refine af hJ ?_;refine aO hJ fun Y=>?_;refine ah hJ ?_;have h':=av h;clear h;obtain ⟨a,Z,h⟩:=h';apply aa _;intro b3 f3;have r3:=aT f3;have n3:=aU f3;have ab:=bT.cons n3 Y;try simp only[aN] at n3
 try apply aa _
 refine bl hJ _ (qR 2 3 Z) (aQ ?_);have h':=av h;clear h;obtain ⟨c,ad,h⟩:=h';try apply aa _
 refine bl hJ _ (qR (-1) 1 ad) (aQ ?_);have h':=av h;clear h;obtain ⟨d,ae,h⟩:=h';try apply aa _
 intro i f9;have x:=aT f9;have K:=aU f9;have al:=bT.cons K ab;try simp only[aN] at K
 try apply aa _
 refine bl hJ _ (qR 5 6 ae) (aQ ?_);try apply aa _
 intro g f13;have p:=aT f13;have L:=aU f13;have ao:=bT.cons L al;try simp only[aN] at L
 intro f f15;have m:=aT f15;have M:=aU f15;have a0:=bT.cons M ao;try simp only[aN] at M
 try apply aa _
 have h':=Option.some.inj h;clear h;subst h';refine aO hJ fun N=>?_;obtain ⟨O,n,P⟩:=gL (b:=b3) (o:=(.cells #[.string ⟨⟨[116,111,119,101,114]⟩⟩,.int .i64 1,.int .i64 2,.string ⟨⟨[109,105,108,108]⟩⟩,.int .i64 3,.int .i64 1] 92)) [(f,.cells #[.string ⟨⟨[101,97,115,116]⟩⟩,.int .i64 0,.int .i64 0,.int .i64 4,.int .i64 0,.int .i64 0,.slice (some ⟨b3,0,none⟩) 2 2,.string ⟨⟨[115,111,117,116,104]⟩⟩,.int .i64 a.low,.int .i64 a.high,.int .i64 4,.int .i64 c.low,.int .i64 c.high,.slice (some ⟨i,0,none⟩) 2 2,.string ⟨⟨[119,101,115,116]⟩⟩,.int .i64 d.low,.int .i64 d.high,.int .i64 3,.int .i64 0,.int .i64 0,.slice (some ⟨g,0,none⟩) 2 2] 56),(g,.cells #[.string ⟨⟨[99,104,117,114,99,104]⟩⟩,.int .i64 0,.int .i64 3,.string ⟨⟨[104,105,108,108]⟩⟩,.int .i64 2,.int .i64 0] 92),(i,.cells #[.string ⟨⟨[109,105,108,108]⟩⟩,.int .i64 0,.int .i64 1,.string ⟨⟨[99,104,117,114,99,104]⟩⟩,.int .i64 2,.int .i64 3] 92)] ((j,.cells #[.int .i64 8,.int .i64 1,.slice (some ⟨f,0,none⟩) 3 3] 24)::[]) N r3 (aW.cons m (aW.cons p (aW.cons x (aW.cons r1 (aW.nil _)))));clear N;have k:aG dO (bZ ro b3 (.cells #[.string ⟨⟨[116,111,119,101,114]⟩⟩,.int .i64 1,.int .i64 2,.string ⟨⟨[109,105,108,108]⟩⟩,.int .i64 3,.int .i64 1] 92)) (.slice (some ⟨b3,0,none⟩) 2 2) [(⟨[116,111,119,101,114],1,2⟩:bu),(⟨[109,105,108,108],3,1⟩:bu)]:=(aG.flat (r:=dO) (e:=92) (cs:=#[.string ⟨⟨[116,111,119,101,114]⟩⟩,.int .i64 1,.int .i64 2,.string ⟨⟨[109,105,108,108]⟩⟩,.int .i64 3,.int .i64 1]) bu.cells ([(⟨[116,111,119,101,114],1,2⟩:bu),(⟨[109,105,108,108],3,1⟩:bu)]) (fun _=>rfl) r3 rfl aB)
 generalize bZ ro b3 (.cells #[.string ⟨⟨[116,111,119,101,114]⟩⟩,.int .i64 1,.int .i64 2,.string ⟨⟨[109,105,108,108]⟩⟩,.int .i64 3,.int .i64 1] 92)=y at O n P k;refine cG (F:=⟨y,(f,.cells #[.string ⟨⟨[101,97,115,116]⟩⟩,.int .i64 0,.int .i64 0,.int .i64 4,.int .i64 0,.int .i64 0,.slice (some ⟨b3,0,none⟩) 2 2,.string ⟨⟨[115,111,117,116,104]⟩⟩,.int .i64 a.low,.int .i64 a.high,.int .i64 4,.int .i64 c.low,.int .i64 c.high,.slice (some ⟨i,0,none⟩) 2 2,.string ⟨⟨[119,101,115,116]⟩⟩,.int .i64 d.low,.int .i64 d.high,.int .i64 3,.int .i64 0,.int .i64 0,.slice (some ⟨g,0,none⟩) 2 2] 56)::(g,.cells #[.string ⟨⟨[99,104,117,114,99,104]⟩⟩,.int .i64 0,.int .i64 3,.string ⟨⟨[104,105,108,108]⟩⟩,.int .i64 2,.int .i64 0] 92)::(i,.cells #[.string ⟨⟨[109,105,108,108]⟩⟩,.int .i64 0,.int .i64 1,.string ⟨⟨[99,104,117,114,99,104]⟩⟩,.int .i64 2,.int .i64 3] 92)::(j,.cells #[.int .i64 8,.int .i64 1,.slice (some ⟨f,0,none⟩) 3 3] 24)::[]⟩) hJ P ?_;obtain ⟨a2,a3,q⟩:=k.op;have n:aW y ((f,.cells #[.string ⟨⟨[101,97,115,116]⟩⟩,.int .i64 0,.int .i64 0,.int .i64 4,.int .i64 0,.int .i64 0,.slice (some ⟨b3,0,none⟩) ([(⟨[116,111,119,101,114],1,2⟩:bu),(⟨[109,105,108,108],3,1⟩:bu)]).length 2,.string ⟨⟨[115,111,117,116,104]⟩⟩,.int .i64 a.low,.int .i64 a.high,.int .i64 4,.int .i64 c.low,.int .i64 c.high,.slice (some ⟨i,0,none⟩) 2 2,.string ⟨⟨[119,101,115,116]⟩⟩,.int .i64 d.low,.int .i64 d.high,.int .i64 3,.int .i64 0,.int .i64 0,.slice (some ⟨g,0,none⟩) 2 2] 56)::(g,.cells #[.string ⟨⟨[99,104,117,114,99,104]⟩⟩,.int .i64 0,.int .i64 3,.string ⟨⟨[104,105,108,108]⟩⟩,.int .i64 2,.int .i64 0] 92)::(i,.cells #[.string ⟨⟨[109,105,108,108]⟩⟩,.int .i64 0,.int .i64 1,.string ⟨⟨[99,104,117,114,99,104]⟩⟩,.int .i64 2,.int .i64 3] 92)::(j,.cells #[.int .i64 8,.int .i64 1,.slice (some ⟨f,0,none⟩) 3 3] 24)::[]):=n;replace m:=n.hd;replace p:=n.tl.hd;replace x:=n.tl.tl.hd;replace r1:=n.tl.tl.tl.hd;refine aO hJ fun Q=>?_;obtain ⟨G,s,R⟩:=gL (b:=i) (o:=(.cells #[.string ⟨⟨[109,105,108,108]⟩⟩,.int .i64 0,.int .i64 1,.string ⟨⟨[99,104,117,114,99,104]⟩⟩,.int .i64 2,.int .i64 3] 92)) [(f,.cells #[.string ⟨⟨[101,97,115,116]⟩⟩,.int .i64 0,.int .i64 0,.int .i64 4,.int .i64 0,.int .i64 0,.slice (some ⟨b3,0,none⟩) ([(⟨[116,111,119,101,114],1,2⟩:bu),(⟨[109,105,108,108],3,1⟩:bu)]).length 2,.string ⟨⟨[115,111,117,116,104]⟩⟩,.int .i64 a.low,.int .i64 a.high,.int .i64 4,.int .i64 c.low,.int .i64 c.high,.slice (some ⟨i,0,none⟩) 2 2,.string ⟨⟨[119,101,115,116]⟩⟩,.int .i64 d.low,.int .i64 d.high,.int .i64 3,.int .i64 0,.int .i64 0,.slice (some ⟨g,0,none⟩) 2 2] 56),(g,.cells #[.string ⟨⟨[99,104,117,114,99,104]⟩⟩,.int .i64 0,.int .i64 3,.string ⟨⟨[104,105,108,108]⟩⟩,.int .i64 2,.int .i64 0] 92)] ((j,.cells #[.int .i64 8,.int .i64 1,.slice (some ⟨f,0,none⟩) 3 3] 24)::[]) Q x (aW.cons m (aW.cons p (aW.cons r1 (aW.nil _))));clear Q;have l:aG dO (bZ y i (.cells #[.string ⟨⟨[109,105,108,108]⟩⟩,.int .i64 0,.int .i64 1,.string ⟨⟨[99,104,117,114,99,104]⟩⟩,.int .i64 2,.int .i64 3] 92)) (.slice (some ⟨i,0,none⟩) 2 2) [(⟨[109,105,108,108],0,1⟩:bu),(⟨[99,104,117,114,99,104],2,3⟩:bu)]:=(aG.flat (r:=dO) (e:=92) (cs:=#[.string ⟨⟨[109,105,108,108]⟩⟩,.int .i64 0,.int .i64 1,.string ⟨⟨[99,104,117,114,99,104]⟩⟩,.int .i64 2,.int .i64 3]) bu.cells ([(⟨[109,105,108,108],0,1⟩:bu),(⟨[99,104,117,114,99,104],2,3⟩:bu)]) (fun _=>rfl) x rfl aB)
 generalize bZ y i (.cells #[.string ⟨⟨[109,105,108,108]⟩⟩,.int .i64 0,.int .i64 1,.string ⟨⟨[99,104,117,114,99,104]⟩⟩,.int .i64 2,.int .i64 3] 92)=z at G s R l;refine cG (F:=⟨z,(f,.cells #[.string ⟨⟨[101,97,115,116]⟩⟩,.int .i64 0,.int .i64 0,.int .i64 4,.int .i64 0,.int .i64 0,.slice (some ⟨b3,0,none⟩) ([(⟨[116,111,119,101,114],1,2⟩:bu),(⟨[109,105,108,108],3,1⟩:bu)]).length 2,.string ⟨⟨[115,111,117,116,104]⟩⟩,.int .i64 a.low,.int .i64 a.high,.int .i64 4,.int .i64 c.low,.int .i64 c.high,.slice (some ⟨i,0,none⟩) 2 2,.string ⟨⟨[119,101,115,116]⟩⟩,.int .i64 d.low,.int .i64 d.high,.int .i64 3,.int .i64 0,.int .i64 0,.slice (some ⟨g,0,none⟩) 2 2] 56)::(g,.cells #[.string ⟨⟨[99,104,117,114,99,104]⟩⟩,.int .i64 0,.int .i64 3,.string ⟨⟨[104,105,108,108]⟩⟩,.int .i64 2,.int .i64 0] 92)::(j,.cells #[.int .i64 8,.int .i64 1,.slice (some ⟨f,0,none⟩) 3 3] 24)::[]⟩) hJ R ?_;obtain ⟨a4,a5,B⟩:=l.op;have s:aW z ((f,.cells #[.string ⟨⟨[101,97,115,116]⟩⟩,.int .i64 0,.int .i64 0,.int .i64 4,.int .i64 0,.int .i64 0,.slice (some ⟨b3,0,none⟩) ([(⟨[116,111,119,101,114],1,2⟩:bu),(⟨[109,105,108,108],3,1⟩:bu)]).length 2,.string ⟨⟨[115,111,117,116,104]⟩⟩,.int .i64 a.low,.int .i64 a.high,.int .i64 4,.int .i64 c.low,.int .i64 c.high,.slice (some ⟨i,0,none⟩) ([(⟨[109,105,108,108],0,1⟩:bu),(⟨[99,104,117,114,99,104],2,3⟩:bu)]).length 2,.string ⟨⟨[119,101,115,116]⟩⟩,.int .i64 d.low,.int .i64 d.high,.int .i64 3,.int .i64 0,.int .i64 0,.slice (some ⟨g,0,none⟩) 2 2] 56)::(g,.cells #[.string ⟨⟨[99,104,117,114,99,104]⟩⟩,.int .i64 0,.int .i64 3,.string ⟨⟨[104,105,108,108]⟩⟩,.int .i64 2,.int .i64 0] 92)::(j,.cells #[.int .i64 8,.int .i64 1,.slice (some ⟨f,0,none⟩) 3 3] 24)::[]):=s;replace k:=k.mono G;clear q;obtain ⟨_,_,q⟩:=k.op;replace m:=s.hd;replace p:=s.tl.hd;replace r1:=s.tl.tl.hd;refine aO hJ fun S=>?_;obtain ⟨C,u,T⟩:=gL (b:=g) (o:=(.cells #[.string ⟨⟨[99,104,117,114,99,104]⟩⟩,.int .i64 0,.int .i64 3,.string ⟨⟨[104,105,108,108]⟩⟩,.int .i64 2,.int .i64 0] 92)) [(f,.cells #[.string ⟨⟨[101,97,115,116]⟩⟩,.int .i64 0,.int .i64 0,.int .i64 4,.int .i64 0,.int .i64 0,.slice (some ⟨b3,0,none⟩) ([(⟨[116,111,119,101,114],1,2⟩:bu),(⟨[109,105,108,108],3,1⟩:bu)]).length 2,.string ⟨⟨[115,111,117,116,104]⟩⟩,.int .i64 a.low,.int .i64 a.high,.int .i64 4,.int .i64 c.low,.int .i64 c.high,.slice (some ⟨i,0,none⟩) ([(⟨[109,105,108,108],0,1⟩:bu),(⟨[99,104,117,114,99,104],2,3⟩:bu)]).length 2,.string ⟨⟨[119,101,115,116]⟩⟩,.int .i64 d.low,.int .i64 d.high,.int .i64 3,.int .i64 0,.int .i64 0,.slice (some ⟨g,0,none⟩) 2 2] 56)] ((j,.cells #[.int .i64 8,.int .i64 1,.slice (some ⟨f,0,none⟩) 3 3] 24)::[]) S p (aW.cons m (aW.cons r1 (aW.nil _)));clear S;have t:aG dO (bZ z g (.cells #[.string ⟨⟨[99,104,117,114,99,104]⟩⟩,.int .i64 0,.int .i64 3,.string ⟨⟨[104,105,108,108]⟩⟩,.int .i64 2,.int .i64 0] 92)) (.slice (some ⟨g,0,none⟩) 2 2) [(⟨[99,104,117,114,99,104],0,3⟩:bu),(⟨[104,105,108,108],2,0⟩:bu)]:=(aG.flat (r:=dO) (e:=92) (cs:=#[.string ⟨⟨[99,104,117,114,99,104]⟩⟩,.int .i64 0,.int .i64 3,.string ⟨⟨[104,105,108,108]⟩⟩,.int .i64 2,.int .i64 0]) bu.cells ([(⟨[99,104,117,114,99,104],0,3⟩:bu),(⟨[104,105,108,108],2,0⟩:bu)]) (fun _=>rfl) p rfl aB)
 generalize bZ z g (.cells #[.string ⟨⟨[99,104,117,114,99,104]⟩⟩,.int .i64 0,.int .i64 3,.string ⟨⟨[104,105,108,108]⟩⟩,.int .i64 2,.int .i64 0] 92)=D at C u T t;refine cG (F:=⟨D,(f,.cells #[.string ⟨⟨[101,97,115,116]⟩⟩,.int .i64 0,.int .i64 0,.int .i64 4,.int .i64 0,.int .i64 0,.slice (some ⟨b3,0,none⟩) ([(⟨[116,111,119,101,114],1,2⟩:bu),(⟨[109,105,108,108],3,1⟩:bu)]).length 2,.string ⟨⟨[115,111,117,116,104]⟩⟩,.int .i64 a.low,.int .i64 a.high,.int .i64 4,.int .i64 c.low,.int .i64 c.high,.slice (some ⟨i,0,none⟩) ([(⟨[109,105,108,108],0,1⟩:bu),(⟨[99,104,117,114,99,104],2,3⟩:bu)]).length 2,.string ⟨⟨[119,101,115,116]⟩⟩,.int .i64 d.low,.int .i64 d.high,.int .i64 3,.int .i64 0,.int .i64 0,.slice (some ⟨g,0,none⟩) 2 2] 56)::(j,.cells #[.int .i64 8,.int .i64 1,.slice (some ⟨f,0,none⟩) 3 3] 24)::[]⟩) hJ T ?_;obtain ⟨a6,a7,U⟩:=t.op;have u:aW D ((f,.cells #[.string ⟨⟨[101,97,115,116]⟩⟩,.int .i64 0,.int .i64 0,.int .i64 4,.int .i64 0,.int .i64 0,.slice (some ⟨b3,0,none⟩) ([(⟨[116,111,119,101,114],1,2⟩:bu),(⟨[109,105,108,108],3,1⟩:bu)]).length 2,.string ⟨⟨[115,111,117,116,104]⟩⟩,.int .i64 a.low,.int .i64 a.high,.int .i64 4,.int .i64 c.low,.int .i64 c.high,.slice (some ⟨i,0,none⟩) ([(⟨[109,105,108,108],0,1⟩:bu),(⟨[99,104,117,114,99,104],2,3⟩:bu)]).length 2,.string ⟨⟨[119,101,115,116]⟩⟩,.int .i64 d.low,.int .i64 d.high,.int .i64 3,.int .i64 0,.int .i64 0,.slice (some ⟨g,0,none⟩) ([(⟨[99,104,117,114,99,104],0,3⟩:bu),(⟨[104,105,108,108],2,0⟩:bu)]).length 2] 56)::(j,.cells #[.int .i64 8,.int .i64 1,.slice (some ⟨f,0,none⟩) 3 3] 24)::[]):=u;replace k:=k.mono C;clear q;obtain ⟨_,_,q⟩:=k.op;replace l:=l.mono C;clear B;obtain ⟨_,_,B⟩:=l.op;replace m:=u.hd;replace r1:=u.tl.hd;refine aO hJ fun V=>?_;obtain ⟨w,E,W⟩:=gL (b:=f) (o:=(.cells #[.string ⟨⟨[101,97,115,116]⟩⟩,.int .i64 0,.int .i64 0,.int .i64 4,.int .i64 0,.int .i64 0,.slice (some ⟨b3,0,none⟩) ([(⟨[116,111,119,101,114],1,2⟩:bu),(⟨[109,105,108,108],3,1⟩:bu)]).length 2,.string ⟨⟨[115,111,117,116,104]⟩⟩,.int .i64 a.low,.int .i64 a.high,.int .i64 4,.int .i64 c.low,.int .i64 c.high,.slice (some ⟨i,0,none⟩) ([(⟨[109,105,108,108],0,1⟩:bu),(⟨[99,104,117,114,99,104],2,3⟩:bu)]).length 2,.string ⟨⟨[119,101,115,116]⟩⟩,.int .i64 d.low,.int .i64 d.high,.int .i64 3,.int .i64 0,.int .i64 0,.slice (some ⟨g,0,none⟩) ([(⟨[99,104,117,114,99,104],0,3⟩:bu),(⟨[104,105,108,108],2,0⟩:bu)]).length 2] 56)) [] ((j,.cells #[.int .i64 8,.int .i64 1,.slice (some ⟨f,0,none⟩) 3 3] 24)::[]) V m (aW.cons r1 (aW.nil _));clear V;have H:aG bJ (bZ D f (.cells #[.string ⟨⟨[101,97,115,116]⟩⟩,.int .i64 0,.int .i64 0,.int .i64 4,.int .i64 0,.int .i64 0,.slice (some ⟨b3,0,none⟩) ([(⟨[116,111,119,101,114],1,2⟩:bu),(⟨[109,105,108,108],3,1⟩:bu)]).length 2,.string ⟨⟨[115,111,117,116,104]⟩⟩,.int .i64 a.low,.int .i64 a.high,.int .i64 4,.int .i64 c.low,.int .i64 c.high,.slice (some ⟨i,0,none⟩) ([(⟨[109,105,108,108],0,1⟩:bu),(⟨[99,104,117,114,99,104],2,3⟩:bu)]).length 2,.string ⟨⟨[119,101,115,116]⟩⟩,.int .i64 d.low,.int .i64 d.high,.int .i64 3,.int .i64 0,.int .i64 0,.slice (some ⟨g,0,none⟩) ([(⟨[99,104,117,114,99,104],0,3⟩:bu),(⟨[104,105,108,108],2,0⟩:bu)]).length 2] 56)) (.slice (some ⟨f,0,none⟩) 3 3) [(⟨[101,97,115,116],(⟨0,0⟩:bS),4,(⟨0,0⟩:bS),[(⟨[116,111,119,101,114],1,2⟩:bu),(⟨[109,105,108,108],3,1⟩:bu)]⟩:bp),(⟨[115,111,117,116,104],a,4,c,[(⟨[109,105,108,108],0,1⟩:bu),(⟨[99,104,117,114,99,104],2,3⟩:bu)]⟩:bp),(⟨[119,101,115,116],d,3,(⟨0,0⟩:bS),[(⟨[99,104,117,114,99,104],0,3⟩:bu),(⟨[104,105,108,108],2,0⟩:bu)]⟩:bp)]:=(aG.rows (r:=bJ) (e:=56) (cs:=#[.string ⟨⟨[101,97,115,116]⟩⟩,.int .i64 0,.int .i64 0,.int .i64 4,.int .i64 0,.int .i64 0,.slice (some ⟨b3,0,none⟩) ([(⟨[116,111,119,101,114],1,2⟩:bu),(⟨[109,105,108,108],3,1⟩:bu)]).length 2,.string ⟨⟨[115,111,117,116,104]⟩⟩,.int .i64 a.low,.int .i64 a.high,.int .i64 4,.int .i64 c.low,.int .i64 c.high,.slice (some ⟨i,0,none⟩) ([(⟨[109,105,108,108],0,1⟩:bu),(⟨[99,104,117,114,99,104],2,3⟩:bu)]).length 2,.string ⟨⟨[119,101,115,116]⟩⟩,.int .i64 d.low,.int .i64 d.high,.int .i64 3,.int .i64 0,.int .i64 0,.slice (some ⟨g,0,none⟩) ([(⟨[99,104,117,114,99,104],0,3⟩:bu),(⟨[104,105,108,108],2,0⟩:bu)]).length 2]) [(⟨[101,97,115,116],(⟨0,0⟩:bS),4,(⟨0,0⟩:bS),[(⟨[116,111,119,101,114],1,2⟩:bu),(⟨[109,105,108,108],3,1⟩:bu)]⟩:bp),(⟨[115,111,117,116,104],a,4,c,[(⟨[109,105,108,108],0,1⟩:bu),(⟨[99,104,117,114,99,104],2,3⟩:bu)]⟩:bp),(⟨[119,101,115,116],d,3,(⟨0,0⟩:bS),[(⟨[99,104,117,114,99,104],0,3⟩:bu),(⟨[104,105,108,108],2,0⟩:bu)]⟩:bp)] [[.string ⟨⟨[101,97,115,116]⟩⟩,.int .i64 0,.int .i64 0,.int .i64 4,.int .i64 0,.int .i64 0,.slice (some ⟨b3,0,none⟩) ([(⟨[116,111,119,101,114],1,2⟩:bu),(⟨[109,105,108,108],3,1⟩:bu)]).length 2],[.string ⟨⟨[115,111,117,116,104]⟩⟩,.int .i64 a.low,.int .i64 a.high,.int .i64 4,.int .i64 c.low,.int .i64 c.high,.slice (some ⟨i,0,none⟩) ([(⟨[109,105,108,108],0,1⟩:bu),(⟨[99,104,117,114,99,104],2,3⟩:bu)]).length 2],[.string ⟨⟨[119,101,115,116]⟩⟩,.int .i64 d.low,.int .i64 d.high,.int .i64 3,.int .i64 0,.int .i64 0,.slice (some ⟨g,0,none⟩) ([(⟨[99,104,117,114,99,104],0,3⟩:bu),(⟨[104,105,108,108],2,0⟩:bu)]).length 2]] ⟨⟨_,rfl,k⟩,⟨_,rfl,l⟩,⟨_,rfl,t⟩,trivial⟩ m rfl aB)
 generalize bZ D f (.cells #[.string ⟨⟨[101,97,115,116]⟩⟩,.int .i64 0,.int .i64 0,.int .i64 4,.int .i64 0,.int .i64 0,.slice (some ⟨b3,0,none⟩) ([(⟨[116,111,119,101,114],1,2⟩:bu),(⟨[109,105,108,108],3,1⟩:bu)]).length 2,.string ⟨⟨[115,111,117,116,104]⟩⟩,.int .i64 a.low,.int .i64 a.high,.int .i64 4,.int .i64 c.low,.int .i64 c.high,.slice (some ⟨i,0,none⟩) ([(⟨[109,105,108,108],0,1⟩:bu),(⟨[99,104,117,114,99,104],2,3⟩:bu)]).length 2,.string ⟨⟨[119,101,115,116]⟩⟩,.int .i64 d.low,.int .i64 d.high,.int .i64 3,.int .i64 0,.int .i64 0,.slice (some ⟨g,0,none⟩) ([(⟨[99,104,117,114,99,104],0,3⟩:bu),(⟨[104,105,108,108],2,0⟩:bu)]).length 2] 56)=X at w E W H;refine cG (F:=⟨X,(j,.cells #[.int .i64 8,.int .i64 1,.slice (some ⟨f,0,none⟩) 3 3] 24)::[]⟩) hJ W ?_;obtain ⟨a8,a9,ba⟩:=H.op;have E:aW X ((j,.cells #[.int .i64 8,.int .i64 1,.slice (some ⟨f,0,none⟩) ([(⟨[101,97,115,116],(⟨0,0⟩:bS),4,(⟨0,0⟩:bS),[(⟨[116,111,119,101,114],1,2⟩:bu),(⟨[109,105,108,108],3,1⟩:bu)]⟩:bp),(⟨[115,111,117,116,104],a,4,c,[(⟨[109,105,108,108],0,1⟩:bu),(⟨[99,104,117,114,99,104],2,3⟩:bu)]⟩:bp),(⟨[119,101,115,116],d,3,(⟨0,0⟩:bS),[(⟨[99,104,117,114,99,104],0,3⟩:bu),(⟨[104,105,108,108],2,0⟩:bu)]⟩:bp)]).length 3] 24)::[]):=E;replace k:=k.mono w;clear q;obtain ⟨_,_,q⟩:=k.op;replace l:=l.mono w;clear B;obtain ⟨_,_,B⟩:=l.op;replace t:=t.mono w;clear U;obtain ⟨_,_,U⟩:=t.op;replace r1:=E.hd;refine aI ?_;apply bw _;exact ⟨_,(((O).trans G).trans C).trans w,Le.sub (List.nil_sublist _),_,rfl,H⟩
end Go.Proofs.YtcoalekambhghaaGreatDoor
end
section
namespace Go.Proofs.YtcoalekambhghaaGreatDoor
open Go Go.Sep Go.Proofs
set_option maxRecDepth 100000
def dG (i:Nat):List Int:=(oz (i:Int)).getD []
def eD (i:Nat):Nat:=[0,1,2,5,3,6,8,11,4,7,9,12,10,13,14,15].getD i 0
theorem E7:∀i,i<16->oz ((i:Nat):Int)=some (dG i):=by decide+kernel
theorem E8:∀i,i<16->∀j,j<16->l8 (dG i) (dG j)=some (decide (eD i<eD j)):=by decide+kernel
theorem E9:∀i,i<16->∀j,j<16->eD i=eD j->i=j:=by decide+kernel
def eX (l:List Nat)(x:Nat):Nat:=l.foldl (fun b y=>if eD y<eD b then y else b) x
theorem uZ:∀(l:List Nat) (x:Nat),eX l x∈x::l/\∀y∈x::l,eD (eX l x)<=eD y
 |[],x=>⟨by simp[eX],fun y a=>by simp at a;subst a;exact Nat.le_refl _⟩
 |z::l,x=>by
  have e:eX (z::l) x=eX l (if eD z<eD x then z else x):=rfl
  rw[e]
  obtain ⟨d,b⟩:=uZ l (if eD z<eD x then z else x)
  have c:=b _ (List.mem_cons_self ..)
  refine ⟨?_,fun y a=>?_⟩
  .rcases List.mem_cons.1 d with h|h
   .rw[h];split<;>simp
   .simp[h]
  .simp only[List.mem_cons] at a
   rcases a with rfl|rfl|a
   .split at c<;>split<;>omega
   .split at c<;>split<;>omega
   .exact b y (List.mem_cons_of_mem _ a)
theorem Fa {l l':List Nat}{x x':Nat}(hb:∀y∈x::l,y<16)(h:∀y,y∈x::l↔y∈x'::l'):eX l x=eX l' x':=by
 obtain ⟨a,c⟩:=uZ l x;obtain ⟨b,d⟩:=uZ l' x';have e:=c _ ((h _).2 b);have f:=d _ ((h _).1 a);exact E9 _ (hb _ a) _ (hb _ ((h _).2 b)) ai
theorem zz:∀(l:List Nat) (x i:Nat),x<16->(∀y∈l,y<16)->bX (oA l8) i (l.map dG) (dG x)=some (.nx (dG (eX l x)))
 |[],x,i,_,_=>rfl
 |z::l,x,i,c,b=>by
  have d:z<16:=b z aB
  have h:=zz l (if eD z<eD x then z else x) (i+1) (by split<;>assumption) fun y e=>b y (by simp[e])
  simp only[List.map_cons,bX,oA,E8 z d x c,ak]
  by_cases a:eD z<eD x
  .rw[if_pos a] at h
   simp only[a,decide_true,cond_true]
   rw[show eX (z::l) x=eX l z by show eX l (if eD z<eD x then z else x)=_;rw[if_pos a]]
   exact h
  .rw[if_neg a] at h
   simp only[a,decide_false,cond_false]
   rw[show eX (z::l) x=eX l x by show eX l (if eD z<eD x then z else x)=_;rw[if_neg a]]
   exact h
theorem Fb (l:List Nat)(x:Nat)(a:x<16)(b:∀y∈l,y<16):qt l8 (dG x) (l.map dG)=some (dG (eX l x)):=by
 unfold qt;rw[zz l x 0 a b];rfl
theorem zA:∀(N:Nat) (l:List Nat),l.Nodup->(∀i∈l,i<N)->l.length<=N
 |0,l,_,h=>by
  cases l with
  |nil=>exact Nat.le_refl _
  |cons x l=>exact absurd (h x aB) (Nat.not_lt_zero _)
 |N+1,l,hn,h=>by
  have a:=zA N (l.erase N) (hn.erase N) fun i hi=>by
   rw[hn.mem_erase_iff] at hi
   have:=h i hi.2
   omega
  by_cases hm:N∈l
  .rw[List.length_erase_of_mem hm] at a;omega
  .rw[List.erase_of_not_mem hm] at a;omega
def looks (is:Int->Option Bool):Nat->Option (List Nat)
 |0=>some []
 |m+1=>ak (looks is m) fun l=>ak (is m) fun b=>some (if b then l++[m] else l)
theorem zB {is:Int->Option Bool}:∀{m:Nat} {l:List Nat},looks is m=some l->(∀i,i<m->is i=some ((is i).getD false))/\∀i,i∈l↔i<m/\is i=some true
 |0,l,h=>by
  simp[looks] at h;subst h
  exact ⟨fun i hi=>absurd hi (Nat.not_lt_zero _),fun i=>aB⟩
 |m+1,l,h=>by
  unfold looks at h
  obtain ⟨l0,f,h⟩:=av h
  obtain ⟨b,c,h⟩:=av h
  have h:=Option.some.inj h
  obtain ⟨k1,d⟩:=zB f
  refine ⟨fun i hi=>?_,fun i=>?_⟩
  .rcases Nat.lt_or_ge i m with g|j
   .exact k1 i g
   .obtain rfl:i=m:=ai
    rw[c];rfl
  .subst h
   by_cases e:i=m
   .subst e
    have:i∉l0:=fun hm=>by have:=((d i).1 hm).1;omega
    cases b<;>simp[this,c]
   .have:i∈(if b then l0++[m] else l0)↔i∈l0:=by cases b<;>simp[e]
    rw[this,d]
    constructor
    .rintro ⟨a1,a⟩;exact ⟨ai,a⟩
    .rintro ⟨a1,a⟩;exact ⟨ai,a⟩
def u5 (is:Int->Option Bool)(n:Nat):Option (List Int):=
 if n<=4 then ak (looks is (2 ^ n)) fun l=>match l with
  |[]=>none
  |x::l=>some (dG (eX l x))
 else none
def b6 {ρ:Type}(t:Nat->Option ρ)(n:Nat):Option ρ:=(List.range n).findSome? t
theorem eE {ρ:Type}{t:Nat->Option ρ}{n:Nat}:b6 t n=none↔∀i,i<n->t i=none:=by
 simp[b6,List.findSome?_eq_none_iff]
theorem Fc {ρ:Type}(t:Nat->Option ρ)(n:Nat):b6 t (n+1)=match b6 t n with
  |some r=>some r
  |none=>t n:=by
 unfold b6
 rw[List.range_succ,List.findSome?_append]
 cases h:(List.range n).findSome? t with
 |some r=>rfl
 |none=>simp[List.findSome?_cons];cases t n<;>rfl
theorem gv {ρ:Type}{t:Nat->Option ρ}{n:Nat}{r:ρ}(h:b6 t n=some r):∃i,i<n/\t i=some r/\∀j,j<i->t j=none:=by
 induction n with
 |zero=>cases h
 |succ n ih=>
  rw[Fc] at h;cases a:b6 t n with
  |some d=>
   rw[a] at h;obtain ⟨i,hi,b,c⟩:=ih (a.trans h);exact ⟨i,ai,b,c⟩
  |none=>
   rw[a] at h;exact ⟨n,ai,h,eE.1 a⟩
def cg {σ ρ:Type}(o:Option ρ)(s:σ):Fl σ ρ:=match o with
 |some r=>.rt r
 |none=>.nx s
theorem eF {τ ρ:Type}{f:τ->Option (Fl τ ρ)}(t:Nat->Option ρ)(st:Nat->τ)(N:Nat)(b:N<=1000000){s':τ}(h:∀i,i<N->f (st i)=some (cg (t i) (st (i+1))))(a:f (st N)=some (.bk s')):
  aZ f fu (st 0)=some (cg (b6 t N) s'):=by
 have key:∀(k i n:Nat),i+k=N->k<n->aZ f n (st i)=some (cg ((List.range' i k).findSome? t) s'):=by
  intro k
  induction k with
  |zero=>
   intro i n hi hn
   obtain ⟨n,rfl⟩:∃m,n=m+1:=⟨n - 1,ai⟩
   obtain rfl:i=N:=ai
   unfold aZ
   rw[a]
   rfl
  |succ k ih=>
   intro i n hi hn
   obtain ⟨n,rfl⟩:∃m,n=m+1:=⟨n - 1,ai⟩
   unfold aZ
   rw[h i ai,List.range'_succ,List.findSome?_cons]
   cases ht:t i with
   |some r=>rfl
   |none=>exact ih (i+1) n ai ai
 have:=key N 0 fu ai (by unfold fu;omega)
 rw[this,<-List.range_eq_range']
 rfl
theorem kX {α τ ρ:Type}{f:Nat->α->τ->Option (Fl τ ρ)}(l:List α)(t:Nat->Option ρ)(st:Nat->τ)(h:∀i x,l[i]?=some x->f i x (st i)=some (cg (t i) (st (i+1)))):
  bX f 0 l (st 0)=some (cg (b6 t l.length) (st l.length)):=by
 have key:∀(m:List α) (i:Nat),(∀j x,m[j]?=some x->f (i+j) x (st (i+j))=some (cg (t (i+j)) (st (i+j+1))))->bX f i m (st i)=some (cg ((List.range' i m.length).findSome? t) (st (i+m.length))):=by
  intro m
  induction m with
  |nil=>intro i _;rfl
  |cons x m ih=>
   intro i hm
   have b:=hm 0 x rfl
   simp only[Nat.add_zero] at b
   unfold bX
   rw[b,List.length_cons,List.range'_succ,List.findSome?_cons]
   cases ht:t i with
   |some r=>rfl
   |none=>
    have:=ih (i+1) fun j y a=>by
     have:=hm (j+1) y (by simpa using a)
     rwa [show i+(j+1)=i+1+j by omega] at this
    rw[show i+(m.length+1)=i+1+m.length by omega]
    exact this
 have:=key l 0 fun j x a=>by simpa using h j x a
 rw[Nat.zero_add] at this
 rw[this,<-List.range_eq_range']
 rfl
theorem zC {α:Type}{motive:List α->Prop}(nil:motive [])(append_singleton:∀l a,motive l->motive (l++[a]))(l:List α):motive l:=by
 have:∀r:List α,motive r.reverse:=by
  intro r
  induction r with
  |nil=>exact nil
  |cons a r ih=>rw[List.reverse_cons];exact append_singleton _ _ ih
 simpa using this l.reverse
theorem oV {α σ ρ:Type}(f:Nat->α->σ->Option (Fl σ ρ))(i:Nat)(x:α)(l:List α)(s:σ):bX f i (x::l) s=ak (f i x s) fun o=>match o with
  | .nx s'=>bX f (i+1) l s'
  | .bk s'=>some (.nx s')
  | .br k s'=>some (.br k s')
  | .rt r=>some (.rt r):=rfl
theorem Fe {α σ ρ:Type}{f:Nat->α->σ->Option (Fl σ ρ)}(I:Nat->σ->Prop)(l:List α)(a:σ)(c:I 0 a)(h:∀i x s,l[i]?=some x->I i s->∃s',f i x s=some (.nx s')/\I (i+1) s'):∃s',bX f 0 l a=some (.nx s')/\I l.length s':=by
 have key:∀(m:List α) (i:Nat) (s:σ),I i s->(∀j x,m[j]?=some x->l[i+j]?=some x)->∃s',bX f i m s=some (.nx s')/\I (i+m.length) s':=by
  intro m
  induction m with
  |nil=>intro i s hs _;exact ⟨s,rfl,hs⟩
  |cons x m ih=>
   intro i s hs hm;obtain ⟨s1,d,e⟩:=h i x s (hm 0 x rfl) hs;obtain ⟨s2,g,k⟩:=ih (i+1) s1 e fun j y b=>by
    have:=hm (j+1) y (by simpa using b)
    rwa [show i+(j+1)=i+1+j by omega] at this
   refine ⟨s2,?_,?_⟩
   .rw[oV,d];exact g
   .rwa [show i+(x::m).length=i+1+m.length by simp;omega]
 have:=key l 0 a c fun j x b=>by simpa using b
 simpa using this
theorem wr {n:Int}(h: -9223372036854775808<=n/\n<9223372036854775808):IntKind.i64.wrap n=n:=IntWalk.i64_in _ (by constructor<;>omega)
theorem Ff {n:Int}(h:0<=n/\n<18446744073709551616):IntKind.u64.wrap n=n:=IntWalk.u64_in _ (by constructor<;>omega)
theorem ez {i:Nat}(h:i<=1000000):IntKind.i64.wrap ((i:Int)+1)=((i+1:Nat):Int):=by rw[wr ai];omega
theorem eP {α:Type}{l:List α}{i:Nat}:bI l (i:Int)=l[i]?:=by
 unfold bI;rw[if_pos ai,Int.toNat_natCast]
theorem fG {i n:Nat}(h:i<n):decide ((i:Int)<(n:Int))=true:=decide_eq_true ai
theorem fH {n:Nat}:decide ((n:Int)<(n:Int))=false:=decide_eq_false ai
theorem zD {α:Type}(l m:List α)(h:l.length+m.length<=1000000):jk l m=some (l++m):=by
 unfold jk;rw[if_pos (by simpa using h)]
end Go.Proofs.YtcoalekambhghaaGreatDoor
end
section
namespace Go.Proofs.YtcoalekambhghaaGreatDoor
open Go Go.Sep Go.Proofs
set_option maxRecDepth 100000
set_option maxHeartbeats 4000000
def bV (a lo hi:Int):Bool:=decide (lo<=a)&&decide (a<=hi)
theorem iU (a lo hi:Int):fD a lo hi=some (bV a lo hi):=by
 unfold fD bV;cases decide (lo<=a)<;>rfl
theorem jx (a lo hi:Int):eN a lo hi=some (bV a lo hi):=iU a lo hi
def ins (b:bS)(lo hi:Int):Bool:=decide (lo<=b.low)&&(decide (b.low<=b.high)&&decide (b.high<=hi))
theorem Fg (b:bS)(lo hi:Int):l6 b lo hi=some (ins b lo hi):=by
 unfold l6 ins;cases decide (lo<=b.low)<;>cases decide (b.low<=b.high)<;>rfl
def jy (l:List UInt8)(i:Nat):Option Bool:=match l[i]? with
 |none=>none
 |some c=>if bV (c.toNat:Int) 97 122 then none else if i=0 then some false else if bV (c.toNat:Int) 48 57 then none else some false
def iV (l:List UInt8):Bool:=match b6 (jy l) l.length with
 |some r=>r
 |none=>bV (l.length:Int) 1 12
theorem zE {l:List UInt8}{i:Nat}(h:i<l.length):lJ l (i:Int)=some ((l[i]'h).toNat:Int):=by
 unfold lJ;rw[if_pos ai,Int.toNat_natCast,List.getElem?_eq_getElem h];rfl
theorem zF (l:List UInt8)(d:l.length<=1000):lY l=some (iV l):=by
 unfold lY;have key:aZ (lX l) fu (false,0)=some (cg (b6 (jy l) l.length) (false,(l.length:Int))):=by
  refine eF (jy l) (fun i=>(false,(i:Int))) l.length ai (fun i hi=>?_) ?_
  .have e1:qn ((l[i].toNat:Nat):Int)=some (bV ((l[i].toNat:Nat):Int) 97 122):=iU _ _ _;unfold lX jy;simp only[fG hi,cond_true,zE hi,ak,List.getElem?_eq_getElem hi,ez (show i<=1000000 by omega),e1];cases e:bV ((l[i].toNat:Nat):Int) 97 122 with
   |true=>rfl
   |false=>
    by_cases a:i=0
    .subst a;rfl
    .have e0:((i:Int)==0)=false:=by simp;omega
     simp only[Bool.not_false,cond_true,e0,cond_false,a,if_false,Bool.false_eq_true];unfold bV;by_cases b:((l[i].toNat:Nat):Int)<48
     .rw[decide_eq_true b,decide_eq_false (show ¬(48:Int)<=(l[i].toNat:Int) by omega)];rfl
     .rw[decide_eq_false b,decide_eq_true (show (48:Int)<=(l[i].toNat:Int) by omega)];by_cases c:(57:Int)<(l[i].toNat:Int)
      .rw[decide_eq_true c,decide_eq_false (show ¬(l[i].toNat:Int)<=57 by omega)];rfl
      .rw[decide_eq_false c,decide_eq_true (show (l[i].toNat:Int)<=57 by omega)];rfl
  .unfold lX;simp only[fH,cond_false]
 rw[key,iU];unfold iV;cases b6 (jy l) l.length<;>rfl
theorem zG (l:List UInt8)(b:l.length<=1000):l5 l=some (iV l):=by
 unfold l5;have key:aZ (lZ l) fu (false,0)=some (cg (b6 (jy l) l.length) (false,(l.length:Int))):=by
  refine eF (jy l) (fun i=>(false,(i:Int))) l.length ai (fun i hi=>?_) ?_
  .have hb:=(l[i]'hi).toNat_lt;unfold lZ jy;simp only[fG hi,cond_true,zE hi,ak,List.getElem?_eq_getElem hi,ez (show i<=1000000 by omega),jx,wr (show -9223372036854775808<=((l[i].toNat:Nat):Int)/\((l[i].toNat:Nat):Int)<9223372036854775808 by omega)];cases c:bV ((l[i].toNat:Nat):Int) 97 122 with
   |true=>rfl
   |false=>
    by_cases a:i=0
    .subst a;rfl
    .have e0:((i:Int)==0)=false:=by simp;omega
     simp only[Bool.not_false,cond_true,e0,cond_false,a,if_false,Bool.false_eq_true];cases bV ((l[i].toNat:Nat):Int) 48 57<;>rfl
  .unfold lZ;simp only[fH,cond_false]
 rw[key,jx];unfold iV;cases b6 (jy l) l.length<;>rfl
def ga (s:bp)(i:Nat):Option Int:=match s.marks[i]? with
 |none=>none
 |some m=>if iV m.bH=false then some 4 else if (s.marks.take i).any (fun o=>o.bH==m.bH) then some 5 else if bV m.dN 0 (s.wide - 1)=false then some 1 else if bV m.row (-9) 9=false then some 1 else none
def qX (s:bp):Prop:=s.name.length<=100/\s.marks.length<=20/\∀m∈s.marks,m.bH.length<=100
theorem Fh (l:List bu)(w:bu):oI l (fun y=>kR y w)=some (l.any fun o=>o.bH==w.bH):=by
 unfold oI oG;have key:bX (oF fun y=>kR y w) 0 l 0=some (cg (b6 (fun i=>match l[i]? with|none=>none|some m=>if m.bH==w.bH then some (i:Int) else none) l.length) 0):=by
  refine kX l _ (fun _=>0) fun i x b=>?_;unfold oF kR;simp only[ak,b];cases x.bH==w.bH<;>rfl
 rw[key];cases h:b6 (fun i=>match l[i]? with|none=>none|some m=>if m.bH==w.bH then some (i:Int) else none) l.length with
 |some r=>
  obtain ⟨i,hi,a,-⟩:=gv h;simp only[List.getElem?_eq_getElem hi] at a;split at a
  .rename_i hw;cases a;simp only[ak,cg,aJ];have e:l.any (fun o=>o.bH==w.bH)=true:=List.any_eq_true.2 ⟨l[i],List.getElem_mem hi,hw⟩;rw[e];simp
  .cases a
 |none=>
  simp only[ak,cg,aJ];have e:l.any (fun o=>o.bH==w.bH)=false:=by
   rw[List.any_eq_false];intro x b hw;obtain ⟨i,hi,rfl⟩:=List.getElem_of_mem b;have:=eE.1 h i hi;simp only[List.getElem?_eq_getElem hi,hw,if_true] at this;cases this
  rw[e];rfl
theorem Fi {s:bp}(hs:qX s)(hw:1<=s.wide/\s.wide<=24)(st:Int):bX (oK s) 0 s.marks st=some (cg (b6 (ga s) s.marks.length) st):=by
 refine kX s.marks (ga s) (fun _=>st) fun i x a=>?_;have hi:=(List.getElem?_eq_some_iff.1 a).1;have c:=hs.2.2 x (List.mem_of_getElem? a);unfold oK ga;have b:kH s.marks 0 (i:Int)=some (s.marks.take i):=by
  unfold kH;rw[if_pos ⟨ai,ai,ai⟩];simp
 simp only[a,zF _ (show x.bH.length<=1000 by omega),ak,b,Fh,iU,wr (show -9223372036854775808<=s.wide - 1/\s.wide - 1<9223372036854775808 by omega)];cases iV x.bH<;>try rfl
 simp only[Bool.not_true,cond_false,Bool.true_eq_false,if_false];cases (s.marks.take i).any (fun o=>o.bH==x.bH)<;>try rfl
 simp only[cond_false,Bool.false_eq_true,if_false];cases bV x.dN 0 (s.wide - 1)<;>try rfl
 cases bV x.row (-9) 9<;>rfl
theorem Fj {s:bp}(hs:qX s)(hw:1<=s.wide/\s.wide<=24):oP s=some (if 4<s.marks.length then 2 else (b6 (ga s) s.marks.length).getD 0):=by
 unfold oP;by_cases e:4<s.marks.length
 .rw[if_pos e,decide_eq_true (show (4:Int)<(s.marks.length:Int) by omega)];rfl
 .rw[if_neg e,decide_eq_false (show ¬(4:Int)<(s.marks.length:Int) by omega)];have key:aZ (mA s) fu (0,0)=some (cg (b6 (ga s) s.marks.length) (0,(s.marks.length:Int))):=by
   refine eF (ga s) (fun i=>(0,(i:Int))) s.marks.length ai (fun i hi=>?_) ?_
   .have f:s.marks[i]?=some s.marks[i]:=List.getElem?_eq_getElem hi;have m:=hs.2.2 s.marks[i] (List.getElem_mem hi);have inner:aZ (kT s (i:Int) s.marks[i]) fu (0,0)=some (cg (if (s.marks.take i).any (fun o=>o.bH==s.marks[i].bH) then some 5 else none) (0,(i:Int))):=by
     have g:aZ (kT s (i:Int) s.marks[i]) fu (0,0)=some (cg (b6 (fun j=>match s.marks[j]? with|none=>none|some o=>if o.bH==s.marks[i].bH then some (5:Int) else none) i) ((0:Int),(i:Int))):=by
      refine eF _ (fun j=>((0:Int),(j:Int))) i ai (fun j b=>?_) ?_
      .have c:j<s.marks.length:=ai;unfold kT;simp only[fG b,cond_true,eP,List.getElem?_eq_getElem c,ak,ez (show j<=1000000 by omega)];cases s.marks[j].bH==s.marks[i].bH<;>rfl
      .unfold kT;simp only[fH,cond_false]
     rw[g];congr 2;cases h:b6 (fun j=>match s.marks[j]? with|none=>none|some o=>if o.bH==s.marks[i].bH then some (5:Int) else none) i with
     |some r=>
      obtain ⟨j,b,a,-⟩:=gv h;have c:j<s.marks.length:=ai;simp only[List.getElem?_eq_getElem c] at a;split at a
      .rename_i d;cases a;rw[if_pos];refine List.any_eq_true.2 ⟨s.marks[j],?_,d⟩;exact List.mem_take_iff_getElem.2 ⟨j,ai,rfl⟩
      .cases a
     |none=>
      rw[if_neg];intro k;obtain ⟨x,l,d⟩:=List.any_eq_true.1 k;obtain ⟨j,b,rfl⟩:=List.mem_take_iff_getElem.1 l;have:=eE.1 h j ai;simp only[List.getElem?_eq_getElem (show j<s.marks.length by omega),d,if_true] at this;cases this
    unfold mA ga;simp only[fG hi,cond_true,eP,f,ak,zG _ (show s.marks[i].bH.length<=1000 by omega),inner,jx,wr (show -9223372036854775808<=s.wide - 1/\s.wide - 1<9223372036854775808 by omega),ez (show i<=1000000 by omega)];cases iV s.marks[i].bH<;>try rfl
    simp only[Bool.not_true,cond_false,Bool.true_eq_false,if_false];cases (s.marks.take i).any (fun o=>o.bH==s.marks[i].bH)<;>try rfl
    simp only[cg,aJ,Bool.false_eq_true,if_false];cases bV s.marks[i].dN 0 (s.wide - 1)<;>try rfl
    cases bV s.marks[i].row (-9) 9<;>rfl
   .unfold mA;simp only[fH,cond_false]
  rw[key];cases b6 (ga s) s.marks.length<;>rfl
def kY (b:aH):Prop:=b.aj.length<=20/\∀s∈b.aj,qX s
theorem zH (b:bS){lo hi m:Int}(e: -1000<=lo)(f:hi<=1000):lW b lo hi m=some (ins b lo hi&&decide (b.high - b.low<m)):=by
 unfold lW ins;by_cases a:lo<=b.low
 .by_cases c:b.low<=b.high
  .by_cases d:b.high<=hi
   .rw[decide_eq_true a,decide_eq_true c,decide_eq_true d,wr ai];rfl
   .rw[decide_eq_true a,decide_eq_true c,decide_eq_false d];rfl
  .rw[decide_eq_true a,decide_eq_false c];rfl
 .rw[decide_eq_false a];rfl
theorem oW {K V:Type}[BEq K][LawfulBEq K]:∀(l:List (K×V)) (k x:K) (v:V),cE (cC l k v) x=if x==k then some v else cE l x
 |[],k,x,v=>by
  unfold cC cE
  cases x==k<;>rfl
 |e::l,k,x,v=>by
  unfold cC
  by_cases h:(k==e.1)=true
  .rw[if_pos h]
   have b:k=e.1:=by simpa using h
   unfold cE
   subst b
   cases x==e.1<;>rfl
  .rw[if_neg h]
   have b:¬k=e.1:=by simpa using h
   unfold cE
   by_cases a:(x==e.1)=true
   .have c:x=e.1:=by simpa using a
    rw[if_pos a,if_pos a,if_neg (by rw[c];simpa using Ne.symm b)]
   .rw[if_neg a,if_neg a,oW l k x v]
def kZ (b:aH)(i:Nat):List (List UInt8×Bool):=(b.aj.take i).foldl (fun m s=>cC m s.name true) []
theorem Fo (l:List bp)(x:List UInt8):∀m:List (List UInt8×Bool),(cE (l.foldl (fun m s=>cC m s.name true) m) x).getD false=(l.any (fun s=>s.name==x)||(cE m x).getD false):=by
 induction l with
 |nil=>intro m;simp
 |cons s l ih=>
  intro m;rw[List.foldl_cons,ih,List.any_cons,oW];by_cases h:x=s.name
  .subst h;simp
  .have a:(x==s.name)=false:=by simpa using h
   have b:(s.name==x)=false:=by simpa using Ne.symm h
   rw[a,b];simp
theorem Fp (b:aH)(i:Nat)(x:List UInt8):(cE (kZ b i) x).getD false=(b.aj.take i).any fun s=>s.name==x:=by
 unfold kZ;rw[Fo];simp[cE]
theorem Fq (b:aH){i:Nat}{s:bp}(h:b.aj[i]?=some s):kZ b (i+1)=cC (kZ b i) s.name true:=by
 unfold kZ;rw[List.take_succ,h];simp
def gb (b:aH)(i:Nat):Option Int:=match b.aj[i]? with
 |none=>none
 |some s=>if iV s.name=false then some 4 else if (b.aj.take i).any (fun o=>o.name==s.name) then some 5
  else if (ins s.from_ 0 (b.steps - 1)&&decide (s.from_.high - s.from_.low<3))=false then some 1 else if bV s.wide 1 b.steps=false then some 1
  else if (ins s.aC (-3) 3&&decide (s.aC.high - s.aC.low<3))=false then some 1 else if 4<s.marks.length then some 2 else b6 (ga s) s.marks.length
theorem Fs {b:aH}(hb:kY b)(hs:4<=b.steps/\b.steps<=24):mg b=some ((b6 (gb b) b.aj.length).getD 0):=by
 unfold mg;have key:bX (oL b) 0 b.aj (0,([]:List (List UInt8×Bool)))=some (cg (b6 (gb b) b.aj.length) ((0:Int),kZ b b.aj.length)):=by
  refine kX b.aj (gb b) (fun i=>((0:Int),kZ b i)) fun i s a=>?_;have hi:=(List.getElem?_eq_some_iff.1 a).1;have c:=hb.2 s (List.mem_of_getElem? a);unfold oL gb
  simp only[a,zF _ (show s.name.length<=1000 by have:=c.1;omega),ak,Fp,iU,wr (show -9223372036854775808<=b.steps - 1/\b.steps - 1<9223372036854775808 by omega),
   zH s.from_ (show (-1000:Int)<=0 by omega) (show b.steps - 1<=1000 by omega),zH s.aC (show (-1000:Int)<= -3 by omega) (show (3:Int)<=1000 by omega)]
  cases iV s.name<;>try rfl
  simp only[Bool.not_true,cond_false,Bool.true_eq_false,if_false];cases (b.aj.take i).any (fun o=>o.name==s.name)<;>try rfl
  simp only[cond_false,Bool.false_eq_true,if_false];cases (ins s.from_ 0 (b.steps - 1)&&decide (s.from_.high - s.from_.low<3))<;>try rfl
  simp only[Bool.not_true,cond_false,Bool.true_eq_false,if_false];cases hw:bV s.wide 1 b.steps<;>try rfl
  simp only[Bool.not_true,cond_false,Bool.true_eq_false,if_false];cases (ins s.aC (-3) 3&&decide (s.aC.high - s.aC.low<3))<;>try rfl
  simp only[Bool.not_true,cond_false,Bool.true_eq_false,if_false];have e:1<=s.wide/\s.wide<=24:=by unfold bV at hw;simp at hw;omega
  by_cases d:4<s.marks.length
  .rw[if_pos d,decide_eq_true (show (4:Int)<(s.marks.length:Int) by omega)];rfl
  .rw[if_neg d,decide_eq_false (show ¬(4:Int)<(s.marks.length:Int) by omega),Fi c e,Fq b a];cases b6 (ga s) s.marks.length<;>rfl
 rw[key];cases b6 (gb b) b.aj.length<;>rfl
def wn (l:List bp):Int:=l.foldl (fun n s=>n*((s.from_.high - s.from_.low+1)*(s.aC.high - s.aC.low+1))) 1
def Bd (steps:Int)(s:bp):Prop:=(0<=s.from_.low/\s.from_.low<=s.from_.high/\s.from_.high<=steps - 1/\s.from_.high - s.from_.low<3)/\ -3<=s.aC.low/\s.aC.low<=s.aC.high/\s.aC.high<=3/\s.aC.high - s.aC.low<3
theorem u6 {b:aH}{i:Nat}{s:bp}(d:b.aj[i]?=some s)(h:gb b i=none):Bd b.steps s:=by
 unfold gb at h;rw[d] at h;simp only at h;split at h
 .cases h
 split at h
 .cases h
 split at h
 .cases h
 rename_i a;split at h
 .cases h
 split at h
 .cases h
 rename_i c;unfold ins at a c;simp at a c;exact ⟨ai,ai⟩
theorem u7 (l:List bp)(s:bp):wn (l++[s])=wn l*((s.from_.high - s.from_.low+1)*(s.aC.high - s.aC.low+1)):=by
 unfold wn;rw[List.foldl_append];rfl
theorem zI {st:Int}{s:bp}(h:Bd st s):1<=(s.from_.high - s.from_.low+1)*(s.aC.high - s.aC.low+1)/\(s.from_.high - s.from_.low+1)*(s.aC.high - s.aC.low+1)<=9:=by
 obtain ⟨⟨a1,b,c,d⟩,c1,c2,c3,c4⟩:=h;have a:s.from_.high - s.from_.low+1=1\/s.from_.high - s.from_.low+1=2\/s.from_.high - s.from_.low+1=3:=ai;rcases a with e|e|e<;>rw[e]<;>omega
theorem Ft {st:Int}:∀(l:List bp),l.length<=4->(∀s∈l,Bd st s)->1<=wn l/\wn l<=9 ^ l.length:=by
 intro l
 induction l using zC with
 |nil=>intro _ _;decide
 |append_singleton l s ih=>
  intro a h;obtain ⟨i1,i2⟩:=ih (by simp at a;omega) fun x b=>h x (by simp[b]);obtain ⟨f1,f2⟩:=zI (h s aB);rw[u7,List.length_append,List.length_singleton,Int.pow_succ];exact ⟨by have:=Int.mul_le_mul i1 f1 ai ai;omega,Int.mul_le_mul i2 f2 ai ai⟩
theorem zJ {st:Int}{l:List bp}(a:l.length<=4)(h:∀s∈l,Bd st s):1<=wn l/\wn l<=6561:=by
 obtain ⟨b,c⟩:=Ft l a h;refine ⟨b,Int.le_trans c ?_⟩;have:l.length=0\/l.length=1\/l.length=2\/l.length=3\/l.length=4:=ai;rcases this with e|e|e|e|e<;>rw[e]<;>decide
theorem Fu {b:aH}(g:b.aj.length<=4)(h:∀s∈b.aj,Bd b.steps s)(hs:b.steps<=24):me b=some (if 200<wn b.aj then 2 else 0):=by
 unfold me;have key:bX (oJ) 0 b.aj 1=some (cg (b6 (fun _=>(none:Option Int)) b.aj.length) (wn (b.aj.take b.aj.length))):=by
  refine kX b.aj (fun _=>none) (fun i=>wn (b.aj.take i)) fun i s a=>?_;have hi:=(List.getElem?_eq_some_iff.1 a).1;have d:=h s (List.mem_of_getElem? a);have hw:=zJ (l:=b.aj.take i) (by simp;omega) fun x a=>h x (List.mem_of_mem_take a);obtain ⟨f1,f2⟩:=zI d;obtain ⟨⟨a1,j,k,m⟩,c1,c2,c3,c4⟩:=d;unfold oJ
  rw[wr (show -9223372036854775808<=s.from_.high - s.from_.low/\s.from_.high - s.from_.low<9223372036854775808 by omega),wr (show -9223372036854775808<=s.from_.high - s.from_.low+1/\s.from_.high - s.from_.low+1<9223372036854775808 by omega),
   wr (show -9223372036854775808<=s.aC.high - s.aC.low/\s.aC.high - s.aC.low<9223372036854775808 by omega),wr (show -9223372036854775808<=s.aC.high - s.aC.low+1/\s.aC.high - s.aC.low+1<9223372036854775808 by omega)]
  generalize e:(s.from_.high - s.from_.low+1)*(s.aC.high - s.aC.low+1)=f at f1 f2;have hm:1<=wn (b.aj.take i)*f/\wn (b.aj.take i)*f<=6561*9:=⟨by have:=Int.mul_le_mul hw.1 f1 ai ai;omega,Int.mul_le_mul hw.2 f2 ai ai⟩
  rw[wr (show -9223372036854775808<=f/\f<9223372036854775808 by omega),wr (show -9223372036854775808<=wn (b.aj.take i)*f/\wn (b.aj.take i)*f<9223372036854775808 by omega)];show some (Fl.nx _)=some (Fl.nx (wn (b.aj.take (i+1))));rw[List.take_succ,a];show _=some (Fl.nx (wn (b.aj.take i++[s])));rw[u7,e]
 have e0:b6 (fun _=>(none:Option Int)) b.aj.length=none:=eE.2 fun _ _=>rfl;rw[e0,List.take_length] at key;rw[key];simp only[ak,cg,aJ];by_cases c:200<wn b.aj
 .rw[if_pos c,decide_eq_true c];rfl
 .rw[if_neg c,decide_eq_false c];rfl
def oX (n:Int)(s:bp):Int:=IntKind.i64.wrap ((IntKind.i64.wrap (n*(s.from_.high - s.from_.low+1)))*(s.aC.high - s.aC.low+1))
theorem Fv {st:Int}{s:bp}(h:Bd st s){n:Int}(hn:1<=n/\n<=6561):oX n s=n*((s.from_.high - s.from_.low+1)*(s.aC.high - s.aC.low+1)):=by
 obtain ⟨⟨a1,c,d,e⟩,c1,c2,c3,c4⟩:=h;unfold oX;have a:s.from_.high - s.from_.low+1=1\/s.from_.high - s.from_.low+1=2\/s.from_.high - s.from_.low+1=3:=ai;have b:s.aC.high - s.aC.low+1=1\/s.aC.high - s.aC.low+1=2\/s.aC.high - s.aC.low+1=3:=ai;generalize s.from_.high - s.from_.low+1=w1 at a;generalize s.aC.high - s.aC.low+1=w2 at b;rcases a with rfl|rfl|rfl<;>rcases b with rfl|rfl|rfl<;>rw[wr (n:=n*_),wr (n:=n*_*_)]<;>omega
theorem Fw {st:Int}:∀(l:List bp),l.length<=4->(∀s∈l,Bd st s)->l.foldl oX 1=wn l:=by
 intro l
 induction l using zC with
 |nil=>intro _ _;rfl
 |append_singleton l s ih=>
  intro b h;have a:l.length<=4:=by simp at b;omega
  have hb:∀x∈l,Bd st x:=fun x c=>h x (by simp[c]);rw[List.foldl_append,ih a hb,u7];exact Fv (h s aB) (zJ a hb)
theorem Fx {b:aH}(hb:kY b)(hs:4<=b.steps/\b.steps<=24):aZ (mB b) fu (0,1,0)=some (cg (b6 (gb b) b.aj.length) ((0:Int),(b.aj.take b.aj.length).foldl oX 1,(b.aj.length:Int))):=by
 refine eF (gb b) (fun i=>((0:Int),(b.aj.take i).foldl oX 1,(i:Int))) b.aj.length (by have:=hb.1;omega) (fun i hi=>?_) ?_
 .have p:b.aj[i]?=some b.aj[i]:=List.getElem?_eq_getElem hi;have q:=hb.2 b.aj[i] (List.getElem_mem hi);have A:i<=20:=by have:=hb.1;omega
  have inner:aZ (kU b (i:Int) b.aj[i]) fu (0,0)=some (cg (if (b.aj.take i).any (fun o=>o.name==b.aj[i].name) then some 5 else none) (0,(i:Int))):=by
   have u:aZ (kU b (i:Int) b.aj[i]) fu (0,0)=some (cg (b6 (fun j=>match b.aj[j]? with|none=>none|some o=>if o.name==b.aj[i].name then some (5:Int) else none) i) ((0:Int),(i:Int))):=by
    refine eF _ (fun j=>((0:Int),(j:Int))) i ai (fun j e=>?_) ?_
    .have k:j<b.aj.length:=ai;unfold kU;simp only[fG e,cond_true,eP,List.getElem?_eq_getElem k,ak,ez (show j<=1000000 by omega)];cases b.aj[j].name==b.aj[i].name<;>rfl
    .unfold kU;simp only[fH,cond_false]
   rw[u];congr 2;cases h:b6 (fun j=>match b.aj[j]? with|none=>none|some o=>if o.name==b.aj[i].name then some (5:Int) else none) i with
   |some r=>
    obtain ⟨j,e,a,-⟩:=gv h;have k:j<b.aj.length:=ai;simp only[List.getElem?_eq_getElem k] at a;split at a
    .rename_i l;cases a;rw[if_pos];exact List.any_eq_true.2 ⟨b.aj[j],List.mem_take_iff_getElem.2 ⟨j,ai,rfl⟩,l⟩
    .cases a
   |none=>
    rw[if_neg];intro v;obtain ⟨x,w,l⟩:=List.any_eq_true.1 v;obtain ⟨j,e,rfl⟩:=List.mem_take_iff_getElem.1 w;have:=eE.1 h j ai;simp only[List.getElem?_eq_getElem (show j<b.aj.length by omega),l,if_true] at this;cases this
  have s:∀(c:bS) (lo hi:Int),-1000<=lo->hi<=1000->ins c lo hi=true->jV c=some (c.high - c.low+1):=fun c lo hi a m f=>by
   unfold ins at f;simp at f;unfold jV;rw[wr (n:=c.high - c.low) ai,wr ai]
  unfold mB gb;simp only[fG hi,cond_true,eP,p,ak,zG _ (show b.aj[i].name.length<=1000 by have:=q.1;omega),inner,jx,Fg,wr (show -9223372036854775808<=b.steps - 1/\b.steps - 1<9223372036854775808 by omega),ez (show i<=1000000 by omega)];cases iV b.aj[i].name<;>try rfl
  simp only[Bool.not_true,cond_false,Bool.true_eq_false,if_false];cases (b.aj.take i).any (fun o=>o.name==b.aj[i].name)<;>try rfl
  simp only[cg,aJ,Bool.false_eq_true,if_false];cases a:ins b.aj[i].from_ 0 (b.steps - 1)<;>try rfl
  simp only[Bool.not_true,cond_false,Bool.true_and,s _ _ _ (show (-1000:Int)<=0 by omega) (show b.steps - 1<=1000 by omega) a];by_cases m:b.aj[i].from_.high - b.aj[i].from_.low<3
  case neg=>rw[decide_eq_false m,decide_eq_true (show (3:Int)<b.aj[i].from_.high - b.aj[i].from_.low+1 by omega)];rfl
  rw[decide_eq_true m,decide_eq_false (show ¬(3:Int)<b.aj[i].from_.high - b.aj[i].from_.low+1 by omega)];simp only[cond_false,Bool.true_eq_false,if_false];cases hw:bV b.aj[i].wide 1 b.steps<;>try rfl
  simp only[Bool.not_true,cond_false,Bool.true_eq_false,if_false];cases f:ins b.aj[i].aC (-3) 3<;>try rfl
  simp only[Bool.not_true,cond_false,Bool.true_and,s _ _ _ (show (-1000:Int)<= -3 by omega) (show (3:Int)<=1000 by omega) f];by_cases t:b.aj[i].aC.high - b.aj[i].aC.low<3
  case neg=>rw[decide_eq_false t,decide_eq_true (show (3:Int)<b.aj[i].aC.high - b.aj[i].aC.low+1 by omega)];rfl
  rw[decide_eq_true t,decide_eq_false (show ¬(3:Int)<b.aj[i].aC.high - b.aj[i].aC.low+1 by omega)];simp only[cond_false,Bool.true_eq_false,if_false];have y:1<=b.aj[i].wide/\b.aj[i].wide<=24:=by unfold bV at hw;simp at hw;omega
  simp only[Fj q y];by_cases g:4<b.aj[i].marks.length
  .rw[if_pos g,if_pos g];rfl
  .rw[if_neg g,if_neg g];cases hm:b6 (ga b.aj[i]) b.aj[i].marks.length with
   |some r=>
    have z:(r != 0)=true:=by
     obtain ⟨j,e,d,-⟩:=gv hm;unfold ga at d;rw[List.getElem?_eq_getElem e] at d;simp only at d
     repeat' split at d
     all_goals (first|(cases d;rfl)|cases d)
    simp only[Option.getD_some,z,cond_true]
   |none=>
    show some (Fl.nx _)=some (Fl.nx _);rw[List.take_succ,p];simp only[Option.toList_some,List.foldl_append,List.foldl_cons,List.foldl_nil];rfl
 .unfold mB;simp only[fH,cond_false]
structure c8 (b:aH):Prop where
 steps:4<=b.steps/\b.steps<=24
 an:0<=b.an/\b.an<=2
 many:1<=b.aj.length/\b.aj.length<=4
 each:∀i,i<b.aj.length->gb b i=none
 ways:wn b.aj<=200
theorem qY {b:aH}(hb:kY b):∃r,fE b=some r/\jw b=some r/\(r=0↔c8 b)/\(r=0\/r=1\/r=2\/r=4\/r=5):=by
 unfold fE ua oH jw;simp only[iU,jx,ak];cases d:bV b.steps 4 24 with
 |false=>
  refine ⟨1,rfl,rfl,⟨fun h=>(by cases h),fun h=>?_⟩,aB⟩;have:=h.steps;unfold bV at d;simp at d;omega
 |true=>
  simp only[Bool.not_true,cond_false];cases e:bV b.an 0 2 with
  |false=>
   refine ⟨1,rfl,rfl,⟨fun h=>(by cases h),fun h=>?_⟩,aB⟩;have:=h.an;unfold bV at e;simp at e;omega
  |true=>
   simp only[Bool.not_true,cond_false];cases f:bV (b.aj.length:Int) 1 4 with
   |false=>
    refine ⟨2,rfl,rfl,⟨fun h=>(by cases h),fun h=>?_⟩,aB⟩;have:=h.many;unfold bV at f;simp at f;omega
   |true=>
    have hs:4<=b.steps/\b.steps<=24:=by unfold bV at d;simpa using d
    have hw:0<=b.an/\b.an<=2:=by unfold bV at e;simpa using e
    have hm:1<=b.aj.length/\b.aj.length<=4:=by unfold bV at f;simp at f;omega
    simp only[Bool.not_true,cond_false,Fx hb hs];unfold qI;rw[Fs hb hs];cases g:b6 (gb b) b.aj.length with
    |some r=>
     obtain ⟨j,l,a,-⟩:=gv g;have m:r=1\/r=2\/r=4\/r=5:=by
      unfold gb at a;rw[List.getElem?_eq_getElem l] at a;simp only at a;split at a
      .cases a;simp
      split at a
      .cases a;simp
      split at a
      .cases a;simp
      split at a
      .cases a;simp
      split at a
      .cases a;simp
      split at a
      .cases a;simp
      obtain ⟨k,p,c,-⟩:=gv a;unfold ga at c;rw[List.getElem?_eq_getElem p] at c;simp only at c
      repeat' split at c
      all_goals (first|(cases c;simp;done)|cases c)
     have q:(r != 0)=true:=by rcases m with rfl|rfl|rfl|rfl<;>rfl
     refine ⟨r,?_,rfl,⟨fun h=>(by subst h;simp at m),fun h=>?_⟩,ai⟩
     .simp only[ak,Option.getD_some,q,cond_true];rfl
     .have:=h.each j l;rw[this] at a;cases a
    |none=>
     have n:=eE.1 g;have o:∀s∈b.aj,Bd b.steps s:=fun s t=>by
      obtain ⟨i,hi,rfl⟩:=List.getElem_of_mem t;exact u6 (List.getElem?_eq_getElem hi) (n i hi)
     unfold qH qG;rw[Fu hm.2 o hs.2,List.take_length,Fw b.aj hm.2 o];simp only[ak,cg,aJ,Option.getD_none];by_cases a:200<wn b.aj
     .rw[if_pos a,decide_eq_true a];exact ⟨2,rfl,rfl,⟨fun h=>(by cases h),fun h=>absurd h.ways ai⟩,aB⟩
     .rw[if_neg a,decide_eq_false a];exact ⟨0,rfl,rfl,⟨fun _=>⟨hs,hw,hm,n,ai⟩,fun _=>rfl⟩,aB⟩
theorem Fy:∀w,w<16->∀i,i<4->ak (lI ((w:Nat):Int) ((i:Nat):Int)) (fun x2=>some ((fq x2 1)==1))=some (Nat.testBit w i):=by decide+kernel
theorem u9 {v:bg}{w i:Nat}(hv:v.an=(w:Int))(hw:w<16)(hi:i<4):iR v (i:Int)=some (Nat.testBit w i):=by
 unfold iR;rw[hv];exact Fy w hw i hi
def bh.at (x:bh)(i:Nat):Int:=(x.get (i:Int)).getD 0
theorem bh.get_at (x:bh){i:Nat}(hi:i<4):x.get (i:Int)=some (x.at i):=by
 have:i=0\/i=1\/i=2\/i=3:=ai;rcases this with rfl|rfl|rfl|rfl<;>rfl
def g6 (b:aH)(f s:Nat->Int):Prop:=∀i,i<b.aj.length->(0<=f i/\f i<=b.steps - 1)/\ -3<=s i/\s i<=3
def dQ (b:aH)(f s:Nat->Int)(i:Nat)(m:bu):aV:=⟨(f i+m.dN) % b.steps,m.row+s i⟩
theorem zK {b:aH}(h:c8 b){i:Nat}{x:bp}(a:b.aj[i]?=some x){m:bu}(hm:m∈x.marks):(0<=m.dN/\m.dN<=x.wide - 1)/\ -9<=m.row/\m.row<=9:=by
 have hi:=(List.getElem?_eq_some_iff.1 a).1;have hs:=h.each i hi;unfold gb at hs;rw[a] at hs;simp only at hs
 repeat' split at hs
 all_goals first|cases hs|skip
 obtain ⟨k,c,rfl⟩:=List.getElem_of_mem hm;have:=eE.1 hs k c;unfold ga at this;rw[List.getElem?_eq_getElem c] at this;simp only at this;split at this
 .cases this
 split at this
 .cases this
 split at this
 .cases this
 rename_i d;split at this
 .cases this
 rename_i e;unfold bV at d e;simp at d e;omega
theorem mL {b:aH}(h:c8 b){i:Nat}{x:bp}(a:b.aj[i]?=some x):(1<=x.wide/\x.wide<=b.steps)/\x.marks.length<=4/\(x.marks.map (·.bH)).Nodup:=by
 have hi:=(List.getElem?_eq_some_iff.1 a).1;have hs:=h.each i hi;unfold gb at hs;rw[a] at hs;simp only at hs;split at hs
 .cases hs
 split at hs
 .cases hs
 split at hs
 .cases hs
 split at hs
 .cases hs
 rename_i hw;split at hs
 .cases hs
 split at hs
 .cases hs
 rename_i f;refine ⟨by unfold bV at hw;simpa using hw,ai,?_⟩;rw[List.nodup_iff_pairwise_ne,List.pairwise_map];refine List.pairwise_iff_getElem.2 fun j k g c l e=>?_;have:=eE.1 hs k c;unfold ga at this;rw[List.getElem?_eq_getElem c] at this;simp only at this;split at this
 .cases this
 split at this
 .cases this
 rename_i d;exact d (List.any_eq_true.2 ⟨x.marks[j],List.mem_take_iff_getElem.2 ⟨j,ai,rfl⟩,by simpa using e⟩)
theorem vb {a n:Int}(h:0<=a):a.tmod n=a % n:=Int.tmod_eq_emod_of_nonneg h
theorem zL {b:aH}(h:c8 b){v:bg}{f s:Nat->Int}{i:Nat}{x:bp}(a:b.aj[i]?=some x)(d:v.ax.at i=f i)(hs:v.az.at i=s i)(e:g6 b f s){m:bu}(hm:m∈x.marks):kN b v (i:Int) m=some (dQ b f s i m):=by
 have hi:=(List.getElem?_eq_some_iff.1 a).1;have c:i<4:=by have:=h.many;omega
 obtain ⟨⟨c1,c2⟩,c3,c4⟩:=zK h a hm;obtain ⟨⟨w1,w2⟩,-,-⟩:=mL h a;obtain ⟨⟨f1,f2⟩,s1,s2⟩:=e i hi;have g:=h.steps;unfold kN jP;rw[bh.get_at _ c,bh.get_at _ c,d,hs];simp only[ak];rw[wr (show -9223372036854775808<=f i+m.dN/\f i+m.dN<9223372036854775808 by omega),if_neg (show ¬b.steps=0 by omega),vb ai,wr (show -9223372036854775808<=m.row+s i/\m.row+s i<9223372036854775808 by omega)];rfl
section
variable {K V:Type}[BEq K] [LawfulBEq K] [DecidableEq V]
def eY:List (K×V)->List (K×V)->Bool
 |[],_=>true
 |e::l,M=>match cE M e.1 with
  |some v=>if v=e.2 then eY l (cC M e.1 e.2) else false
  |none=>eY l (cC M e.1 e.2)
def mM (l M:List (K×V)):List (K×V):=l.foldl (fun M e=>cC M e.1 e.2) M
theorem vc:∀(l l' M:List (K×V)),eY (l++l') M=(eY l M&&eY l' (mM l M))
 |[],l',M=>by simp[eY,mM]
 |e::l,l',M=>by
  simp only[List.cons_append,eY]
  cases h:cE M e.1 with
  |none=>exact vc l l' _
  |some v=>
   simp only
   split
   .exact vc l l' _
   .rfl
theorem zM:∀(l M:List (K×V)),eY l M=true↔(l.Pairwise fun a b=>a.1=b.1->a.2=b.2)/\∀e∈l,∀v,cE M e.1=some v->v=e.2
 |[],M=>by simp[eY]
 |e::l,M=>by
  have ih:=zM l (cC M e.1 e.2)
  have step:((l.Pairwise fun a b=>a.1=b.1->a.2=b.2)/\∀x∈l,∀v,cE (cC M e.1 e.2) x.1=some v->v=x.2)↔(((e::l).Pairwise fun a b=>a.1=b.1->a.2=b.2)/\∀x∈l,x.1≠e.1->∀v,cE M x.1=some v->v=x.2):=by
   rw[List.pairwise_cons]
   constructor
   .rintro ⟨d,f⟩
    refine ⟨⟨fun x c e1=>?_,d⟩,fun x c i v hv=>f x c v ?_⟩
    .exact f x c e.2 (by rw[oW,if_pos (by simpa using e1.symm)])
    .rw[oW,if_neg (by simpa using i)];exact hv
   .rintro ⟨⟨d,f⟩,j⟩
    refine ⟨f,fun x c v hv=>?_⟩
    rw[oW] at hv
    split at hv
    .rename_i e1
     rw[<-Option.some.inj hv]
     exact d x c (by simpa using Eq.symm (LawfulBEq.eq_of_beq e1))
    .rename_i e1
     exact j x c (by simpa using e1) v hv
  unfold eY
  cases h:cE M e.1 with
  |none=>
   simp only[ih,step]
   constructor
   .rintro ⟨d,f⟩
    refine ⟨d,fun x c v hv=>?_⟩
    rcases List.mem_cons.1 c with rfl|c
    .rw[h] at hv;cases hv
    .exact f x c (fun e1=>by rw[e1,h] at hv;cases hv) v hv
   .rintro ⟨d,f⟩
    exact ⟨d,fun x c _ v hv=>f x (List.mem_cons_of_mem _ c) v hv⟩
  |some v0=>
   simp only
   split
   .rename_i g
    subst g
    rw[ih,step]
    constructor
    .rintro ⟨d,f⟩
     refine ⟨d,fun x c v hv=>?_⟩
     rcases List.mem_cons.1 c with rfl|c
     .rw[h] at hv;exact (Option.some.inj hv).symm
     .by_cases e1:x.1=e.1
      .rw[e1,h] at hv
       rw[<-Option.some.inj hv]
       exact (List.pairwise_cons.1 d).1 x c e1.symm
      .exact f x c e1 v hv
    .rintro ⟨d,f⟩
     exact ⟨d,fun x c _ v hv=>f x (List.mem_cons_of_mem _ c) v hv⟩
   .rename_i g
    constructor
    .intro d;cases d
    .rintro ⟨-,f⟩
     exact absurd (f e aB v0 h) g
end
def iW (b:aH)(f s:Nat->Int)(W:Nat->Bool):Nat->List bp->List (List UInt8×aV)
 |_,[]=>[]
 |j,x::l=>(if W j then [] else x.marks.map fun m=>(m.bH,dQ b f s j m))++iW b f s W (j+1) l
theorem zN (p q:aV):(p.step==q.step&&p.cu==q.cu)=decide (p=q):=by
 obtain ⟨a,c⟩:=p;obtain ⟨d,e⟩:=q;rw[Bool.eq_iff_iff];simp
theorem zO {b:aH}(h:c8 b){v:bg}{f s:Nat->Int}(d:g6 b f s){i:Nat}{x:bp}(e:b.aj[i]?=some x)(g:v.ax.at i=f i)(hs:v.az.at i=s i):
  ∀(l:List bu) (k:Nat) (c:Bool) (M:List (List UInt8×aV)),(∀m∈l,m∈x.marks)->bX (mh b v i) k l (c,M)=some (if eY (l.map fun m=>(m.bH,dQ b f s i m)) M then .nx (c,mM (l.map fun m=>(m.bH,dQ b f s i m)) M) else .rt false)
 |[],k,c,M,_=>rfl
 |m::l,k,c,M,j=>by
  have ih:=fun n=>zO h d e g hs l (k+1) c n fun y o=>j y (List.mem_cons_of_mem _ o)
  have hb:mh b v i k m (c,M)=some (match cE M m.bH with
    |none=>.nx (c,cC M m.bH (dQ b f s i m))
    |some p=>if p=dQ b f s i m then .nx (c,cC M m.bH (dQ b f s i m)) else .rt false):=by
   unfold mh
   rw[zL h e g hs d (j m aB)]
   simp only[ak]
   cases hg:cE M m.bH with
   |none=>rfl
   |some p=>
    simp only[Option.isSome_some,cond_true,Option.getD_some,zN]
    by_cases a:p=dQ b f s i m
    .rw[decide_eq_true a,if_pos a];rfl
    .rw[decide_eq_false a,if_neg a];rfl
  rw[oV,hb]
  simp only[List.map_cons,eY]
  cases hg:cE M m.bH with
  |none=>exact ih _
  |some p=>
   simp only
   by_cases a:p=dQ b f s i m
   .subst a
    simp only[if_true]
    exact ih _
   .simp only[if_neg a,Bool.false_eq_true,if_false]
    rfl
theorem zP {b:aH}(h:c8 b){v:bg}{f s:Nat->Int}{W:Nat->Bool}(d:g6 b f s)(e:∀i,i<b.aj.length->v.ax.at i=f i)(hs:∀i,i<b.aj.length->v.az.at i=s i)(hw:∀i,i<b.aj.length->iR v (i:Int)=some (W i)):
  ∀(l:List bp) (j:Nat) (c:Bool) (M:List (List UInt8×aV)),b.aj.drop j=l->bX (jW b v) j l (c,M)=some (if eY (iW b f s W j l) M then .nx (c,mM (iW b f s W j l) M) else .rt false)
 |[],j,c,M,_=>rfl
 |x::l,j,c,M,g=>by
  have k:b.aj[j]?=some x:=by
   have:=congrArg (fun t=>t[0]?) g
   simpa [List.getElem?_drop] using this
  have a:=(List.getElem?_eq_some_iff.1 k).1
  have n:b.aj.drop (j+1)=l:=by
   have:=congrArg (fun t=>t.drop 1) g
   simpa [List.drop_drop,Nat.add_comm] using this
  have ih:=fun o=>zP h d e hs hw l (j+1) c o n
  rw[oV]
  cases hW:W j with
  |true=>
   have hb:jW b v j x (c,M)=some (.nx (c,M)):=by
    unfold jW
    rw[hw j a,hW]
    rfl
   rw[hb]
   simp only[iW,hW,if_true,List.nil_append]
   exact ih M
  |false=>
   have hb:jW b v j x (c,M)=some (if eY (x.marks.map fun m=>(m.bH,dQ b f s j m)) M then .nx (c,mM (x.marks.map fun m=>(m.bH,dQ b f s j m)) M) else .rt false):=by
    unfold jW
    rw[hw j a,hW]
    simp only[ak,cond_false]
    rw[zO h d k (e j a) (hs j a) x.marks 0 c M fun m hm=>hm]
    cases eY (x.marks.map fun m=>(m.bH,dQ b f s j m)) M<;>rfl
   rw[hb]
   simp only[iW,hW,Bool.false_eq_true,if_false]
   rw[vc]
   cases p:eY (x.marks.map fun m=>(m.bH,dQ b f s j m)) M with
   |false=>rfl
   |true=>
    simp only[if_true,ak,Bool.true_and]
    rw[ih]
    unfold mM
    rw[List.foldl_append]
def ve (b:aH)(f s:Nat->Int)(W:Nat->Bool):Prop:=
 ∀(i j:Nat) (x y:bp),b.aj[i]?=some x->b.aj[j]?=some y->W i=false->W j=false->∀m∈x.marks,∀a∈y.marks,m.bH=a.bH->dQ b f s i m=dQ b f s j a
theorem oY {b:aH}{f s:Nat->Int}{W:Nat->Bool}{e:List UInt8×aV}:∀(l:List bp) (j:Nat),e∈iW b f s W j l↔∃i x m,l[i]?=some x/\W (j+i)=false/\m∈x.marks/\e=(m.bH,dQ b f s (j+i) m)
 |[],j=>by simp[iW]
 |x::l,j=>by
  rw[iW,List.mem_append,oY l (j+1)]
  constructor
  .rintro (h|⟨i,y,m,a,c,d,g⟩)
   .cases hW:W j with
    |true=>rw[hW] at h;cases h
    |false=>
     rw[hW] at h
     obtain ⟨m,hm,rfl⟩:=List.mem_map.1 h
     exact ⟨0,x,m,rfl,hW,hm,rfl⟩
   .exact ⟨i+1,y,m,by simpa using a,by rw[show j+(i+1)=j+1+i by omega];exact c,d,by rw[show j+(i+1)=j+1+i by omega];exact g⟩
  .rintro ⟨i,y,m,a,c,d,g⟩
   cases i with
   |zero=>
    simp at a
    subst a
    left
    rw[show W j=false from c]
    exact List.mem_map.2 ⟨m,d,g.symm⟩
   |succ i=>exact .inr ⟨i,y,m,by simpa using a,by rw[show j+1+i=j+(i+1) by omega];exact c,d,by rw[show j+1+i=j+(i+1) by omega];exact g⟩
theorem zQ {α:Type}{R:α->α->Prop}(g:∀a,R a a)(i:∀a b,R a b->R b a):∀l:List α,l.Pairwise R↔∀a∈l,∀b∈l,R a b
 |[]=>by simp
 |x::l=>by
  rw[List.pairwise_cons,zQ g i l]
  constructor
  .rintro ⟨j,m⟩ a e c d
   rcases List.mem_cons.1 e with e1|k
   .rcases List.mem_cons.1 d with e2|f
    .rw[e1,e2];exact g _
    .rw[e1];exact j c f
   .rcases List.mem_cons.1 d with e2|f
    .rw[e2];exact i _ _ (j a k)
    .exact m a k c f
  .intro h
   exact ⟨fun c d=>h x aB c (by simp[d]),fun a e c d=>h a (by simp[e]) c (by simp[d])⟩
theorem zR {b:aH}(h:c8 b){v:bg}{f s:Nat->Int}{W:Nat->Bool}(k:g6 b f s)(l:∀i,i<b.aj.length->v.ax.at i=f i)(hs:∀i,i<b.aj.length->v.az.at i=s i)(hw:∀i,i<b.aj.length->iR v (i:Int)=some (W i)):
  ∃r,iy b v=some r/\(r=true↔ve b f s W):=by
 refine ⟨eY (iW b f s W 0 b.aj) [],?_,?_⟩
 .unfold iy
  rw[zP h k l hs hw b.aj 0 false [] rfl]
  cases eY (iW b f s W 0 b.aj) []<;>rfl
 .rw[zM,zQ (by intro a _;rfl) (by intro a c n e;exact (n e.symm).symm)]
  constructor
  .rintro ⟨g,-⟩ i j x y o p hi q m hm d t e
   have:=g (m.bH,dQ b f s i m) ((oY b.aj 0).2 ⟨i,x,m,o,by rw[Nat.zero_add];exact hi,hm,by rw[Nat.zero_add]⟩) (d.bH,dQ b f s j d) ((oY b.aj 0).2 ⟨j,y,d,p,by rw[Nat.zero_add];exact q,t,by rw[Nat.zero_add]⟩) e
   exact this
  .intro ht
   refine ⟨fun a u c w e=>?_,fun e he v hv=>by simp[cE] at hv⟩
   obtain ⟨i,x,m,g,z,A,rfl⟩:=(oY b.aj 0).1 u
   obtain ⟨j,y,d,k1,B,C,rfl⟩:=(oY b.aj 0).1 w
   exact ht _ _ x y (by rw[Nat.zero_add];exact g) (by rw[Nat.zero_add];exact k1) z B m A d C e
def mN (s:bp)(i:Nat):Option Bool:=match s.marks[i]? with
 |some m=>if 100<m.bH.length then some true else none
 |none=>none
theorem zS (s:bp):∃g,mm s=some g/\(g=false->qX s):=by
 unfold mm;by_cases d:s.name.length<=100
 .rw[decide_eq_false (p:=100<(s.name.length:Int)) ai];by_cases e:s.marks.length<=20
  .rw[decide_eq_false (p:=20<(s.marks.length:Int)) ai];simp only[cond];have f:aZ (mj s) fu (false,0)=some (cg (b6 (mN s) s.marks.length) (false,(s.marks.length:Int))):=by
    refine eF (mN s) (fun i=>(false,(i:Int))) s.marks.length ai (fun i hi=>?_) ?_
    .unfold mj mN;rw[fG ai,eP,List.getElem?_eq_getElem hi];simp only[cond,ak];by_cases b:100<(s.marks[i]).bH.length
     .rw[decide_eq_true (p:=100<((s.marks[i]).bH.length:Int)) ai];simp only[if_pos b];rfl
     .rw[decide_eq_false (p:=100<((s.marks[i]).bH.length:Int)) ai,ez ai];simp only[if_neg b];rfl
    .unfold mj;rw[fH];rfl
   rw[f];cases c:b6 (mN s) s.marks.length with
   |some r=>
    obtain ⟨i,hi,a,_⟩:=gv c;unfold mN at a;rw[List.getElem?_eq_getElem hi] at a;simp only at a;split at a
    .obtain rfl:=Option.some.inj a;exact ⟨true,rfl,fun h=>by cases h⟩
    .cases a
   |none=>
    refine ⟨false,rfl,fun _=>⟨d,e,fun m hm=>?_⟩⟩;obtain ⟨i,hi,rfl⟩:=List.getElem_of_mem hm;have:=eE.1 c i hi;unfold mN at this;rw[List.getElem?_eq_getElem hi] at this;simp only at this;split at this
    .cases this
    .omega
  .rw[decide_eq_true (p:=20<(s.marks.length:Int)) ai];exact ⟨true,rfl,fun h=>by cases h⟩
 .rw[decide_eq_true (p:=100<(s.name.length:Int)) ai];exact ⟨true,rfl,fun h=>by cases h⟩
def mO (b:aH)(i:Nat):Option Bool:=match b.aj[i]? with
 |some s=>if mm s=some true then some true else none
 |none=>none
theorem zT (b:aH):∃g,mq b=some g/\(g=false->kY b):=by
 unfold mq;by_cases d:b.aj.length<=20
 .rw[decide_eq_false (p:=20<(b.aj.length:Int)) ai];simp only[cond];have e:aZ (mo b) fu (false,0)=some (cg (b6 (mO b) b.aj.length) (false,(b.aj.length:Int))):=by
   refine eF (mO b) (fun i=>(false,(i:Int))) b.aj.length ai (fun i hi=>?_) ?_
   .unfold mo mO;rw[fG ai,eP,List.getElem?_eq_getElem hi];simp only[cond,ak];obtain ⟨g,hg,_⟩:=zS b.aj[i];rw[hg];cases g
    .rw[ez ai];rfl
    .rfl
   .unfold mo;rw[fH];rfl
  rw[e];cases c:b6 (mO b) b.aj.length with
  |some r=>
   obtain ⟨i,hi,a,_⟩:=gv c;unfold mO at a;rw[List.getElem?_eq_getElem hi] at a;simp only at a;split at a
   .obtain rfl:=Option.some.inj a;exact ⟨true,rfl,fun h=>by cases h⟩
   .cases a
  |none=>
   refine ⟨false,rfl,fun _=>⟨d,fun s hs=>?_⟩⟩;obtain ⟨i,hi,rfl⟩:=List.getElem_of_mem hs;obtain ⟨g,hg,f⟩:=zS b.aj[i];have:=eE.1 c i hi;unfold mO at this;rw[List.getElem?_eq_getElem hi] at this;simp only at this;rw[hg] at this;cases g
   .exact f rfl
   .simp at this
 .rw[decide_eq_true (p:=20<(b.aj.length:Int)) ai];exact ⟨true,rfl,fun h=>by cases h⟩
end Go.Proofs.YtcoalekambhghaaGreatDoor
end

/- A part of the proof: QQ4. -/
import Derived.Test.YtnaejeiofbpbkaaGreatDoorQQ3
set_option linter.all false
section
namespace Go.Proofs.YtnaejeiofbpbkaaGreatDoor
open Go Go.Sep Go.Proofs
set_option maxRecDepth 100000
set_option maxHeartbeats 4000000
def q6 (u0:((List Int)->(List Int)->Option Bool))(i22:Nat)(a:(List Int))(st:(List Int)):Option (Fl (List Int) (List Int)):=
 af (u0 st a) fun b=>cond (b) (some (.nx a)) (some (.nx st))
def oS (u0:((List Int)->(List Int)->Option Bool))(a:(List Int))(b:(List (List Int))):Option (List Int):=
 af (bE (q6 u0) 0 b a) fun o=>aC o (fun c=>some c) (fun _ _=>none) (fun r=>some r)
theorem HW {ro:Addr->Option Value}(u0:((List Int)->(List Int)->Option Bool)){dY:FuncId}{eC eD:Array Value}(G:aH Tryz.prog dY=true/\∀(aN:Addr->Option Value),Ext ro aN->∀(k:(List Int)) (l:Value) (o:(List Int)) (p:Value) (z:Bool),az rI aN l k->az rI aN p o->u0 k o=some z->aF Tryz.prog dY (eC++#[l,p]++eD) ⟨aN,[]⟩ (fun v _=>v= .bool z))(g:(List Int)){s1:Value}(q:az rI ro s1 g)(b:(List (List Int))){s:Value}(t:az (rL rI) ro s b){r:(List Int)}(h:oS u0 g b=some r):eW Tryz.prog 93 #[.func (.func dY) eC eD,s1,s] ro (fun v aN=>∃u,v=u/\az rI aN u r):=by
 obtain ⟨d3,c4,rfl,Y,Z,-⟩:=id q;obtain ⟨d10,ab,rfl,ad,w,-⟩:=id t;unfold oS at h;refine aF.go Tryz.func93 rfl Tryz.ntmps93 Tryz.results93 (by simp) fun main J hJ A H hd hs=>?_;have I:=hs 0;have k1:=hs 1;have K:=hs 2;clear hs;apply ah hJ;simp only[*,go_sem];refine ag hJ (ah hJ ?_);simp only[*,go_sem];apply aT hJ;revert h;refine bS fun L c M=>?_;refine bT hJ (rg 11 10 [1,8]) (fun m y F'=>∃(i22:Nat) (d16:Option Addr) (e:Nat) (d:(List Int)),m=b.length - i22/\i22<=b.length/\bE (q6 u0) i22 (b.drop i22) d=some L/\F'=⟨ro,[]⟩/\az rI ro (.slice d16 d.length e) d/\slot y 11= .int .i64 (i22:Int)/\slot y 1= .slice d16 d.length e) b.length ?_ ?_
 .refine ⟨0,d3,c4,g,(Nat.sub_zero _).symm,Nat.zero_le _,c,rfl,q,?_⟩;simp only[*,go_sem]
 rintro ae al F' B ⟨i22,d16,e,d,rfl,ao,c,rfl,f,ar,a0⟩;obtain ⟨a2,a3,-⟩:=f.op;obtain ⟨N,O,P⟩:=B.pick [0,6,9,10] (by decide);simp only[*,go_sem] at N O P;clear B H hd I k1 K;apply ah hJ;simp only[*,go_sem];apply ag hJ;rcases Nat.lt_or_ge i22 b.length with Q|C
 .refine cw hJ ?_;apply aI hJ;obtain ⟨D,i⟩:∃x,b[i22]?=some x:=⟨_,List.getElem?_eq_getElem Q⟩
  rw[dw i] at c;revert c;refine bS fun a4 h E=>?_;unfold q6 at h;try dsimp only at h
  obtain ⟨a5,a6,R,S,F⟩:=t.el _ _ i;obtain ⟨a7,rfl,j⟩:=S;obtain ⟨d31,T,rfl,a8,a9,ba⟩:=id j;cases R;have U:=F 0 _ rfl;simp only[go_sem] at U;clear F i;refine ag hJ (aT hJ (ag hJ ?_));apply ak hJ;simp only[*,go_sem];apply ah hJ;revert h;refine bS fun bb V h=>?_;simp only[*,go_sem];refine bn hJ _ (G.2 _ (fun a v h=>aL a v h) d _ D _ _ (f.mono aL) (j.mono aL) V) ?_;revert h;refine aY hJ (fun W h=>?_) fun W h=>?_
  .cases h;apply ak hJ;simp only[*,go_sem];have X:=cv (n:=i22) (by have:=w;omega);apply ak hJ;simp only[*,go_sem];refine ⟨b.length - (i22+1),by omega,_,Le.sub (List.Sublist.refl _),i22+1,d31,T,D,rfl,by omega,E,rfl,j,?_⟩;simp only[*,go_sem]
  cases h;apply aI hJ;have X:=cv (n:=i22) (by have:=w;omega);apply ak hJ;simp only[*,go_sem];refine ⟨b.length - (i22+1),by omega,_,Le.sub (List.Sublist.refl _),i22+1,d16,e,d,rfl,by omega,E,rfl,f,?_⟩;simp only[*,go_sem]
 have bc:=Nat.not_lt.2 C;refine cn hJ ?_;rw[List.drop_eq_nil_of_le C] at c;obtain rfl:=sI c;clear c;have h:=M;dsimp only[aC] at h;cases h;apply bR;simp only[go_sem];apply ah hJ;simp only[*,go_sem];apply aE;simp only[*,go_sem];exact ⟨_,Ext.refl _,Le.sub (List.nil_sublist _),_,rfl,f⟩
def q7 (u0:(List Int))(a:(List Int))(st:(Bool×Int)):Option (Fl (Bool×Int) Bool):=
 cond (decide (st.2<(u0.length:Int))) (af (bh u0 st.2) fun b=>af (bh a st.2) fun c=>cond ((b != c)) (some (.rt false)) (some (.nx (st.1,(IntKind.i64.wrap (st.2+1)))))) (some (.bk (st.1,st.2)))
def nu (u0:(List Int))(a:(List Int)):Option Bool:=
 cond (((u0.length:Int) != (a.length:Int))) (some false) (af (aU (q7 u0 a) fu (false,0)) fun o=>aC o (fun b=>some true) (fun _ _=>none) (fun r=>some r))
theorem xG {ro:Addr->Option Value}(u0:(List Int)){s1:Value}(g:az rI ro s1 u0)(e:(List Int)){i:Value}(j:az rI ro i e){r:Bool}(h:nu u0 e=some r):aF Tryz.prog 13 #[s1,i] ⟨ro,[]⟩ (fun v _=>v= .bool r):=by
 obtain ⟨d3,c4,rfl,R,S,-⟩:=id g;obtain ⟨d10,T,rfl,U,V,-⟩:=id j;unfold nu at h;refine aF.go Tryz.func13 rfl Tryz.ntmps13 Tryz.results13 (by simp) fun main J hJ A t hd hs=>?_;have u:=hs 0;have k1:=hs 1;clear hs;apply ah hJ;simp only[*,go_sem];refine ag hJ (ah hJ ?_);simp only[*,go_sem];revert h;refine aY hJ (fun w h=>?_) fun w h=>?_
 .cases h;apply ah hJ;simp only[*,go_sem];apply aE;simp only[*,go_sem]
 refine aI hJ (ag hJ ?_);apply ah hJ;simp only[*,go_sem];apply aT hJ;revert h;refine bS fun x b k=>?_;refine bT hJ (rg 11 15 [4,5]) (fun m l F'=>∃(c:Bool) (d:Int),aU (q7 u0 e) m (c,d)=some x/\F'=⟨ro,[]⟩/\slot l 4= .bool c/\slot l 5= .int .i64 d) fu ?_ ?_
 .refine ⟨false,0,b,rfl,?_⟩;simp only[*,go_sem]
 rintro f W F' n ⟨c,d,b,rfl,X,Y⟩;obtain ⟨y,z,B⟩:=n.pick [0,1] (by decide);simp only[*,go_sem] at y z B;clear n t hd u k1;obtain _|f:=f
 .exact absurd b (by simp only[aU,reduceCtorEq,not_false_eq_true])
 revert b;refine bS fun Z h a=>?_;unfold q7 at h;try dsimp only at h
 refine ag hJ (ah hJ ?_);simp only[*,go_sem];revert h;refine aY hJ (fun C h=>?_) fun C h=>?_
 .refine aI hJ (ag hJ ?_);refine aT hJ (ag hJ ?_);refine de hJ mixed 9 0 (by simp only[*,go_sem]) (by kernel_rfl) ?_;revert h;refine bS fun D E h=>?_;obtain ⟨ab,ad,o⟩:=c5 E;obtain ⟨ae,F,G,H,p⟩:=g.el _ _ o;obtain rfl:F=[.int .i64 D]:=H;cases G;have I:=p 0 _ rfl;simp only[go_sem] at I;clear p o;revert h;refine bS fun K L h=>?_;obtain ⟨al,ao,q⟩:=c5 L;obtain ⟨ar,M,N,O,s⟩:=j.el _ _ q;obtain rfl:M=[.int .i64 K]:=O;cases N;have P:=s 0 _ rfl;simp only[go_sem] at P;clear s q;simp only[*,go_sem];revert h;refine aY hJ (fun Q h=>?_) fun Q h=>?_
  .cases h;apply ah hJ;simp only[*,go_sem];obtain rfl:=sI a;clear a;have h:=k;dsimp only[aC] at h;cases h;apply aE;simp only[*,go_sem]
  cases h;refine aI hJ (ak hJ ?_);simp only[*,go_sem];refine ⟨f,Nat.lt_succ_self _,_,Le.sub (List.Sublist.refl _),c,(IntKind.i64.wrap (d+1)),a,rfl,?_⟩;simp only[*,go_sem]
 cases h;apply bR;simp only[go_sem];obtain rfl:=sI a;clear a;have h:=k;dsimp only[aC] at h;cases h;apply ah hJ;simp only[*,go_sem];apply aE;simp only[*,go_sem]
def nv (u0:(List Int))(a:(List Int)):Option Bool:=
 af (nu u0 a) fun b=>some b
theorem q8 {ro:Addr->Option Value}(u0:(List Int)){s1:Value}(b:az rI ro s1 u0)(a:(List Int)){c:Value}(d:az rI ro c a){r:Bool}(h:nv u0 a=some r):aF Tryz.prog 49 #[s1,c] ⟨ro,[]⟩ (fun v _=>v= .bool r):=by
 obtain ⟨d3,c4,rfl,f,g,-⟩:=id b;obtain ⟨d10,i,rfl,j,k,-⟩:=id d;unfold nv at h;refine aF.go Tryz.func49 rfl Tryz.ntmps49 Tryz.results49 (by simp) fun main J hJ A l hd hs=>?_;have m:=hs 0;have k1:=hs 1;clear hs;apply ah hJ;simp only[*,go_sem];apply ah hJ;revert h;refine bS fun n e h=>?_;cases h;simp only[*,go_sem];refine bn hJ _ (xG u0 (b.mono aL) a (d.mono aL) e) (aJ ?_);simp only[*,go_sem];apply aE;simp only[*,go_sem]
def tN (a:aP)(i10:Nat)(b:aP)(st:Int):Option (Fl Int Int):=
 cond (((a.back==b.back)&&(a.high==b.high))) (some (.rt (i10:Int))) (some (.nx st))
def tO (u0:(List aP))(a:aP):Option Int:=
 af (bE (tN a) 0 u0 0) fun o=>aC o (fun b=>some (-1)) (fun _ _=>none) (fun r=>some r)
theorem HX {ro:Addr->Option Value}(u0:(List aP)){s1:Value}(g:az jE ro s1 u0)(b:aP){r:Int}(h:tO u0 b=some r):aF Tryz.prog 152 #[s1,.agg #[.int .i64 b.back,.int .i64 b.high]] ⟨ro,[]⟩ (fun v _=>v= .int .i64 r):=by
 obtain ⟨d3,c4,rfl,K,o,-⟩:=id g;unfold tO at h;refine aF.go Tryz.func152 rfl Tryz.ntmps152 Tryz.results152 (by simp) fun main J hJ A p hd hs=>?_;have q:=hs 0;have k1:=hs 1;clear hs;apply ah hJ;simp only[*,go_sem];refine aA fun s L t=>?_;try simp only[av] at t
 refine ag hJ (ah hJ ?_);simp only[*,go_sem];apply aT hJ;revert h;refine bS fun u a i=>?_;refine bT hJ (rg 8 11 [4,5]) (fun m j F'=>∃(i10:Nat) (c:Int),m=u0.length - i10/\i10<=u0.length/\bE (tN b) i10 (u0.drop i10) c=some u/\F'=⟨ro,(s,.cells #[.int .i64 b.back,.int .i64 b.high] 105)::[]⟩/\slot j 8= .int .i64 (i10:Int)/\slot j 4= .int .i64 c) u0.length ?_ ?_
 .refine ⟨0,0,(Nat.sub_zero _).symm,Nat.zero_le _,a,rfl,?_⟩;simp only[*,go_sem]
 rintro M N F' k ⟨i10,c,rfl,O,a,rfl,P,Q⟩;obtain ⟨w,y,z⟩:=k.pick [0,3,7] (by decide);simp only[*,go_sem] at w y z;clear k p hd q k1;apply ah hJ;simp only[*,go_sem];apply ag hJ;rcases Nat.lt_or_ge i10 u0.length with B|l
 .refine cw hJ ?_;apply aI hJ;obtain ⟨C,d⟩:∃x,u0[i10]?=some x:=⟨_,List.getElem?_eq_getElem B⟩
  rw[dw d] at a;revert a;refine bS fun R h e=>?_;unfold tN at h;try dsimp only at h
  obtain ⟨S,D,E,F,f⟩:=g.el _ _ d;obtain rfl:D=C.cells:=F;cases E;have G:=f 0 _ rfl;simp only[go_sem] at G;have H:=f 1 _ rfl;simp only[go_sem] at H;clear f d;refine ag hJ (aT hJ (ag hJ ?_));apply ak hJ;simp only[*,go_sem];apply ag hJ;refine de hJ mixed 6 1 (by simp only[*,go_sem]) (by kernel_rfl) ?_;simp only[*,go_sem];revert h;refine aY hJ (fun I h=>?_) fun I h=>?_
  .cases h;apply ah hJ;simp only[*,go_sem];obtain rfl:=sI e;clear e;have h:=i;dsimp only[aC] at h;cases h;apply aE;simp only[*,go_sem]
  cases h;apply aI hJ;have T:=cv (n:=i10) (by have:=o;omega);apply ak hJ;simp only[*,go_sem];refine ⟨u0.length - (i10+1),by omega,_,Le.sub (List.Sublist.refl _),i10+1,c,rfl,by omega,e,rfl,?_⟩;simp only[*,go_sem]
 have U:=Nat.not_lt.2 l;refine cn hJ ?_;rw[List.drop_eq_nil_of_le l] at a;obtain rfl:=sI a;clear a;have h:=i;dsimp only[aC] at h;cases h;apply bR;simp only[go_sem];apply ah hJ;simp only[*,go_sem];apply aE;simp only[*,go_sem]
def q9 (u0:(List aP))(a:aP):Option Bool:=
 af (tO u0 a) fun b=>some (decide (0<=b))
theorem HY {ro:Addr->Option Value}(u0:(List aP)){s1:Value}(b:az jE ro s1 u0)(a:aP){r:Bool}(h:q9 u0 a=some r):aF Tryz.prog 123 #[s1,.agg #[.int .i64 a.back,.int .i64 a.high]] ⟨ro,[]⟩ (fun v _=>v= .bool r):=by
 obtain ⟨d3,c4,rfl,e,f,-⟩:=id b;unfold q9 at h;refine aF.go Tryz.func123 rfl Tryz.ntmps123 Tryz.results123 (by simp) fun main J hJ A g hd hs=>?_;have i:=hs 0;have k1:=hs 1;clear hs;apply ah hJ;simp only[*,go_sem];refine aA fun j k c=>?_;try simp only[av] at c
 apply ah hJ;revert h;refine bS fun l d h=>?_;cases h;simp only[*,go_sem];refine bn hJ _ (HX u0 (b.mono aL) a d) (aJ ?_);simp only[*,go_sem];apply aE;simp only[*,go_sem]
def tP (a:(bA->Option Bool))(i9:Nat)(b:bA)(st:Int):Option (Fl Int Int):=
 af (a b) fun c=>cond (c) (some (.rt (i9:Int))) (some (.nx st))
def tQ (u0:(List bA))(a:(bA->Option Bool)):Option Int:=
 af (bE (tP a) 0 u0 0) fun o=>aC o (fun b=>some (-1)) (fun _ _=>none) (fun r=>some r)
theorem HZ {ro:Addr->Option Value}(u0:(List bA)){s1:Value}(i:az cU ro s1 u0)(d:(bA->Option Bool)){dJ:FuncId}{eu ew:Array Value}(s:aH Tryz.prog dJ=true/\∀(aN:Addr->Option Value),Ext ro aN->∀(j:bA) (z:Bool),d j=some z->aF Tryz.prog dJ (eu++#[j.v]++ew) ⟨aN,[]⟩ (fun v _=>v= .bool z)){r:Int}(h:tQ u0 d=some r):aF Tryz.prog 192 #[s1,.func (.func dJ) eu ew] ⟨ro,[]⟩ (fun v _=>v= .int .i64 r):=by
 obtain ⟨d3,c4,rfl,N,t,-⟩:=id i;unfold tQ at h;refine aF.go Tryz.func192 rfl Tryz.ntmps192 Tryz.results192 (by simp) fun main J hJ A u hd hs=>?_;have w:=hs 0;have k1:=hs 1;clear hs;apply ah hJ;simp only[*,go_sem];refine ag hJ (ah hJ ?_);simp only[*,go_sem];apply aT hJ;revert h;refine bS fun y b k=>?_;refine bT hJ (rg 8 11 [4,5]) (fun m l F'=>∃(i9:Nat) (c:Int),m=u0.length - i9/\i9<=u0.length/\bE (tP d) i9 (u0.drop i9) c=some y/\F'=⟨ro,[]⟩/\slot l 8= .int .i64 (i9:Int)/\slot l 4= .int .i64 c) u0.length ?_ ?_
 .refine ⟨0,0,(Nat.sub_zero _).symm,Nat.zero_le _,b,rfl,?_⟩;simp only[*,go_sem]
 rintro O P F' o ⟨i9,c,rfl,Q,b,rfl,R,S⟩;obtain ⟨B,C,D⟩:=o.pick [0,1,7] (by decide);simp only[*,go_sem] at B C D;clear o u hd w k1;apply ah hJ;simp only[*,go_sem];apply ag hJ;rcases Nat.lt_or_ge i9 u0.length with E|p
 .refine cw hJ ?_;apply aI hJ;obtain ⟨q,e⟩:∃x,u0[i9]?=some x:=⟨_,List.getElem?_eq_getElem E⟩
  rw[dw e] at b;revert b;refine bS fun T h f=>?_;unfold tP at h;try dsimp only at h
  obtain ⟨U,F,G,H,g⟩:=i.el _ _ e;obtain rfl:F=q.cells:=H;cases G;have I:=g 0 _ rfl;simp only[go_sem] at I;have K:=g 1 _ rfl;simp only[go_sem] at K;clear g e;refine ag hJ (aT hJ (ag hJ ?_));apply ak hJ;simp only[*,go_sem];apply ah hJ;revert h;refine bS fun V L h=>?_;simp only[*,go_sem];refine bn hJ _ (s.2 _ (fun a v h=>aL a v h) q _ L) ?_;revert h;refine aY hJ (fun M h=>?_) fun M h=>?_
  .cases h;apply ah hJ;simp only[*,go_sem];obtain rfl:=sI f;clear f;have h:=k;dsimp only[aC] at h;cases h;apply aE;simp only[*,go_sem]
  cases h;apply aI hJ;have W:=cv (n:=i9) (by have:=t;omega);apply ak hJ;simp only[*,go_sem];refine ⟨u0.length - (i9+1),by omega,_,Le.sub (List.Sublist.refl _),i9+1,c,rfl,by omega,f,rfl,?_⟩;simp only[*,go_sem]
 have X:=Nat.not_lt.2 p;refine cn hJ ?_;rw[List.drop_eq_nil_of_le p] at b;obtain rfl:=sI b;clear b;have h:=k;dsimp only[aC] at h;cases h;apply bR;simp only[go_sem];apply ah hJ;simp only[*,go_sem];apply aE;simp only[*,go_sem]
def rf (u0:(List bA))(a:(bA->Option Bool)):Option Bool:=
 af (tQ u0 a) fun b=>some (decide (0<=b))
theorem H6 {ro:Addr->Option Value}(u0:(List bA)){s1:Value}(b:az cU ro s1 u0)(a:(bA->Option Bool)){dJ:FuncId}{eu ew:Array Value}(c:aH Tryz.prog dJ=true/\∀(aN:Addr->Option Value),Ext ro aN->∀(d:bA) (z:Bool),a d=some z->aF Tryz.prog dJ (eu++#[d.v]++ew) ⟨aN,[]⟩ (fun v _=>v= .bool z)){r:Bool}(h:rf u0 a=some r):aF Tryz.prog 176 #[s1,.func (.func dJ) eu ew] ⟨ro,[]⟩ (fun v _=>v= .bool r):=by
 obtain ⟨d3,c4,rfl,g,i,-⟩:=id b;unfold rf at h;refine aF.go Tryz.func176 rfl Tryz.ntmps176 Tryz.results176 (by simp) fun main J hJ A j hd hs=>?_;have k:=hs 0;have k1:=hs 1;clear hs;apply ah hJ;simp only[*,go_sem];apply ah hJ;revert h;refine bS fun l e h=>?_;cases h;simp only[*,go_sem];refine bn hJ _ (HZ (dJ:=dJ) (eu:=eu) (ew:=ew) u0 (b.mono aL) a ⟨c.1,fun _ f=>c.2 _ (Ext.trans aL f)⟩ e) (aJ ?_);simp only[*,go_sem];apply aE;simp only[*,go_sem]
def tR (a:(aP->Option Bool))(i9:Nat)(b:aP)(st:Int):Option (Fl Int Int):=
 af (a b) fun c=>cond (c) (some (.rt (i9:Int))) (some (.nx st))
def tS (u0:(List aP))(a:(aP->Option Bool)):Option Int:=
 af (bE (tR a) 0 u0 0) fun o=>aC o (fun b=>some (-1)) (fun _ _=>none) (fun r=>some r)
theorem H7 {ro:Addr->Option Value}(u0:(List aP)){s1:Value}(i:az jE ro s1 u0)(d:(aP->Option Bool)){dJ:FuncId}{eu ew:Array Value}(s:aH Tryz.prog dJ=true/\∀(aN:Addr->Option Value),Ext ro aN->∀(j:aP) (z:Bool),d j=some z->aF Tryz.prog dJ (eu++#[j.v]++ew) ⟨aN,[]⟩ (fun v _=>v= .bool z)){r:Int}(h:tS u0 d=some r):aF Tryz.prog 186 #[s1,.func (.func dJ) eu ew] ⟨ro,[]⟩ (fun v _=>v= .int .i64 r):=by
 obtain ⟨d3,c4,rfl,N,t,-⟩:=id i;unfold tS at h;refine aF.go Tryz.func186 rfl Tryz.ntmps186 Tryz.results186 (by simp) fun main J hJ A u hd hs=>?_;have w:=hs 0;have k1:=hs 1;clear hs;apply ah hJ;simp only[*,go_sem];refine ag hJ (ah hJ ?_);simp only[*,go_sem];apply aT hJ;revert h;refine bS fun y b k=>?_;refine bT hJ (rg 8 11 [4,5]) (fun m l F'=>∃(i9:Nat) (c:Int),m=u0.length - i9/\i9<=u0.length/\bE (tR d) i9 (u0.drop i9) c=some y/\F'=⟨ro,[]⟩/\slot l 8= .int .i64 (i9:Int)/\slot l 4= .int .i64 c) u0.length ?_ ?_
 .refine ⟨0,0,(Nat.sub_zero _).symm,Nat.zero_le _,b,rfl,?_⟩;simp only[*,go_sem]
 rintro O P F' o ⟨i9,c,rfl,Q,b,rfl,R,S⟩;obtain ⟨B,C,D⟩:=o.pick [0,1,7] (by decide);simp only[*,go_sem] at B C D;clear o u hd w k1;apply ah hJ;simp only[*,go_sem];apply ag hJ;rcases Nat.lt_or_ge i9 u0.length with E|p
 .refine cw hJ ?_;apply aI hJ;obtain ⟨q,e⟩:∃x,u0[i9]?=some x:=⟨_,List.getElem?_eq_getElem E⟩
  rw[dw e] at b;revert b;refine bS fun T h f=>?_;unfold tR at h;try dsimp only at h
  obtain ⟨U,F,G,H,g⟩:=i.el _ _ e;obtain rfl:F=q.cells:=H;cases G;have I:=g 0 _ rfl;simp only[go_sem] at I;have K:=g 1 _ rfl;simp only[go_sem] at K;clear g e;refine ag hJ (aT hJ (ag hJ ?_));apply ak hJ;simp only[*,go_sem];apply ah hJ;revert h;refine bS fun V L h=>?_;simp only[*,go_sem];refine bn hJ _ (s.2 _ (fun a v h=>aL a v h) q _ L) ?_;revert h;refine aY hJ (fun M h=>?_) fun M h=>?_
  .cases h;apply ah hJ;simp only[*,go_sem];obtain rfl:=sI f;clear f;have h:=k;dsimp only[aC] at h;cases h;apply aE;simp only[*,go_sem]
  cases h;apply aI hJ;have W:=cv (n:=i9) (by have:=t;omega);apply ak hJ;simp only[*,go_sem];refine ⟨u0.length - (i9+1),by omega,_,Le.sub (List.Sublist.refl _),i9+1,c,rfl,by omega,f,rfl,?_⟩;simp only[*,go_sem]
 have X:=Nat.not_lt.2 p;refine cn hJ ?_;rw[List.drop_eq_nil_of_le p] at b;obtain rfl:=sI b;clear b;have h:=k;dsimp only[aC] at h;cases h;apply bR;simp only[go_sem];apply ah hJ;simp only[*,go_sem];apply aE;simp only[*,go_sem]
def tT (u0:(List aP))(a:(aP->Option Bool)):Option Bool:=
 af (tS u0 a) fun b=>some (decide (0<=b))
theorem H8 {ro:Addr->Option Value}(u0:(List aP)){s1:Value}(b:az jE ro s1 u0)(a:(aP->Option Bool)){dJ:FuncId}{eu ew:Array Value}(c:aH Tryz.prog dJ=true/\∀(aN:Addr->Option Value),Ext ro aN->∀(d:aP) (z:Bool),a d=some z->aF Tryz.prog dJ (eu++#[d.v]++ew) ⟨aN,[]⟩ (fun v _=>v= .bool z)){r:Bool}(h:tT u0 a=some r):aF Tryz.prog 166 #[s1,.func (.func dJ) eu ew] ⟨ro,[]⟩ (fun v _=>v= .bool r):=by
 obtain ⟨d3,c4,rfl,g,i,-⟩:=id b;unfold tT at h;refine aF.go Tryz.func166 rfl Tryz.ntmps166 Tryz.results166 (by simp) fun main J hJ A j hd hs=>?_;have k:=hs 0;have k1:=hs 1;clear hs;apply ah hJ;simp only[*,go_sem];apply ah hJ;revert h;refine bS fun l e h=>?_;cases h;simp only[*,go_sem];refine bn hJ _ (H7 (dJ:=dJ) (eu:=eu) (ew:=ew) u0 (b.mono aL) a ⟨c.1,fun _ f=>c.2 _ (Ext.trans aL f)⟩ e) (aJ ?_);simp only[*,go_sem];apply aE;simp only[*,go_sem]
def xH (a:(aZ->Option Bool))(i38:Nat)(b:aZ)(st:Int):Option (Fl Int Int):=
 af (a b) fun c=>cond (c) (some (.nx (IntKind.i64.wrap (st+1)))) (some (.nx st))
def tU (u0:cV)(b:(aZ->Option Bool)):Option Int:=
 af (bE (xH b) 0 u0.all 0) fun o=>aC o (fun a=>cond ((a==(u0.all.length:Int))) (some 1) (cond ((a==0)) (some 2) (some 0))) (fun _ _=>none) (fun r=>some r)
theorem Cl {ro:Addr->Option Value}(u0:cV){s1 e f g:Value}(Z:bQ ro u0.book s1 e f g){k:Value}(l:az iA ro k u0.all)(i:(aZ->Option Bool)){dJ:FuncId}{eu ew:Array Value}(y:aH Tryz.prog dJ=true/\∀(aN:Addr->Option Value),Ext ro aN->∀(o:aZ) (z:Bool),i o=some z->aF Tryz.prog dJ (eu++#[o.v]++ew) ⟨aN,[]⟩ (fun v _=>v= .bool z)){r:Int}(h:tU u0 i=some r):aF Tryz.prog 106 #[.agg #[.int .i64 u0.book.bB,.int .i64 u0.book.bH,.int .i64 u0.book.aO.num,.int .i64 u0.book.aO.den,s1,e,f,g,k],.func (.func dJ) eu ew] ⟨ro,[]⟩ (fun v _=>v= .int .i64 r):=by
 obtain ⟨d31,B,rfl,ab,p,-⟩:=id l;unfold tU at h;refine aF.go Tryz.func106 rfl Tryz.ntmps106 Tryz.results106 (by simp) fun main J hJ A C hd hs=>?_;have D:=hs 0;have k1:=hs 1;clear hs;apply ah hJ;simp only[*,go_sem];refine aA fun E ad F=>?_;try simp only[av] at F
 apply ah hJ;simp only[*,go_sem];refine ag hJ (ah hJ ?_);simp only[*,go_sem];apply aT hJ;revert h;refine bS fun G b H=>?_;refine bT hJ (rg 11 10 [5,7]) (fun m q F'=>∃(i38:Nat) (c:Int),m=u0.all.length - i38/\i38<=u0.all.length/\bE (xH i) i38 (u0.all.drop i38) c=some G/\F'=⟨ro,(E,kn u0 s1 e f g (sl d31 u0.all B))::[]⟩/\slot q 11= .int .i64 (i38:Int)/\slot q 5= .int .i64 c) u0.all.length ?_ ?_
 .refine ⟨0,0,(Nat.sub_zero _).symm,Nat.zero_le _,b,rfl,?_⟩;simp only[*,go_sem]
 rintro ae al F' s ⟨i38,c,rfl,ao,b,rfl,ar,a0⟩;obtain ⟨I,K,L⟩:=s.pick [1,2,4,9,10] (by decide);simp only[*,go_sem] at I K L;clear s C hd D k1;apply ah hJ;simp only[*,go_sem];apply ag hJ;rcases Nat.lt_or_ge i38 u0.all.length with M|t
 .refine cw hJ ?_;apply aI hJ;obtain ⟨u,j⟩:∃x,u0.all[i38]?=some x:=⟨_,List.getElem?_eq_getElem M⟩
  rw[dw j] at b;revert b;refine bS fun a2 h w=>?_;unfold xH at h;try dsimp only at h
  obtain ⟨a3,N,O,P,d⟩:=l.el _ _ j;obtain rfl:N=u.cells:=P;cases O;have Q:=d 0 _ rfl;simp only[go_sem] at Q;have R:=d 1 _ rfl;simp only[go_sem] at R;have S:=d 2 _ rfl;simp only[go_sem] at S;clear d j;refine ag hJ (aT hJ (ag hJ ?_));apply ak hJ;simp only[*,go_sem];refine aA fun a4 a5 T=>?_;try simp only[av] at T
  apply ah hJ;revert h;refine bS fun a6 U h=>?_;simp only[*,go_sem];refine bn hJ _ (y.2 _ (fun a v h=>aL a v h) u _ U) ?_;revert h;refine aY hJ (fun V h=>?_) fun V h=>?_
  .cases h;apply ak hJ;simp only[*,go_sem];have W:=cv (n:=i38) (by have:=p;omega);apply ak hJ;simp only[*,go_sem];refine ⟨u0.all.length - (i38+1),by omega,_,Le.sub (List.Sublist.cons _ (List.Sublist.refl _)),i38+1,(IntKind.i64.wrap (c+1)),rfl,by omega,w,rfl,?_⟩;simp only[*,go_sem]
  cases h;apply aI hJ;have W:=cv (n:=i38) (by have:=p;omega);apply ak hJ;simp only[*,go_sem];refine ⟨u0.all.length - (i38+1),by omega,_,Le.sub (List.Sublist.cons _ (List.Sublist.refl _)),i38+1,c,rfl,by omega,w,rfl,?_⟩;simp only[*,go_sem]
 have a7:=Nat.not_lt.2 t;refine cn hJ ?_;rw[List.drop_eq_nil_of_le t] at b;obtain rfl:=sI b;clear b;have h:=H;dsimp only[aC] at h;apply bR;simp only[go_sem];refine ag hJ (ah hJ ?_);simp only[*,go_sem];refine aT hJ (ag hJ ?_);apply ak hJ;simp only[*,go_sem];revert h;refine aY hJ (fun X h=>?_) fun X h=>?_
 .cases h;apply ah hJ;simp only[*,go_sem];apply aE;simp only[*,go_sem]
 apply ah hJ;simp only[*,go_sem];revert h;refine aY hJ (fun Y h=>?_) fun Y h=>?_
 .cases h;apply ah hJ;simp only[*,go_sem];apply aE;simp only[*,go_sem]
 cases h;refine aI hJ (ag hJ ?_);apply ak hJ;simp only[*,go_sem];apply aE;simp only[*,go_sem]
def ri (u0:bA)(a:aj)(w1:aZ):Option Bool:=
 af (aZ.get w1 u0.aS) fun b=>af (iC a u0.aS b) fun c=>af (gq a c) fun d=>some (!(d==u0.bt))
theorem H9 {ro:Addr->Option Value}(u0:bA)(a:aj){b:Nat}(y:ro ⟨b,0,none⟩=some (.int .i64 a.bB))(z:ro ⟨b,1,none⟩=some (.int .i64 a.bH))(B:ro ⟨b,2,none⟩=some (.int .i64 a.aO.num))(C:ro ⟨b,3,none⟩=some (.int .i64 a.aO.den)){s1:Value}(e:az eT ro s1 a.ax)(D:ro ⟨b,4,none⟩=some (s1)){j:Value}(f:az dI ro j a.props)(E:ro ⟨b,5,none⟩=some (j)){k:Value}(g:az ej ro k a.an)(G:ro ⟨b,6,none⟩=some (k)){l:Value}(i:az cU ro l a.told)(H:ro ⟨b,7,none⟩=some (l))(w1:aZ){d:Nat}(o:ro ⟨d,0,none⟩=some (.int .i64 w1.e0))(p:ro ⟨d,1,none⟩=some (.int .i64 w1.e1))(q:ro ⟨d,2,none⟩=some (.int .i64 w1.e2)){r:Bool}(h:ri u0 a w1=some r):aF Tryz.prog 177 #[.agg #[.int .i64 u0.aS,.bool u0.bt],.pointer (some ⟨b,0,none⟩),.pointer (some ⟨d,0,none⟩)] ⟨ro,[]⟩ (fun v _=>v= .bool r):=by
 obtain ⟨d3,c4,rfl,I,K,-⟩:=id e;obtain ⟨d10,L,rfl,M,N,-⟩:=id f;obtain ⟨d17,O,rfl,P,Q,-⟩:=id g;obtain ⟨d24,R,rfl,S,T,-⟩:=id i;unfold ri at h;refine aF.go Tryz.func177 rfl Tryz.ntmps177 Tryz.results177 (by simp) fun main J hJ A U hd hs=>?_;have V:=hs 0;have k1:=hs 1;have W:=hs 2;clear hs;apply ah hJ;simp only[*,go_sem];refine aA fun X Y s=>?_;try simp only[av] at s
 apply ag hJ;refine de hJ mixed 14 1 (by simp only[*,go_sem]) (by kernel_rfl) ?_;revert h;refine bS fun t m h=>?_;obtain ⟨Z,ab,n⟩:=aZ.get_some m;clear n;have n:=aZ.HF m o p q;revert h;refine bS fun u w h=>?_;simp only[*,go_sem];refine ⟨_,bI hJ fun F c=>m8 a ⟨(e.mono (cp c)),(f.mono (cp c)),(g.mono (cp c)),(i.mono (cp c))⟩ u0.aS t w,ck ?_⟩;revert h;refine bS fun ad x h=>?_;cases h;simp only[*,go_sem];refine ⟨_,bI hJ fun F c=>nt a ⟨(e.mono (cp c)),(f.mono (cp c)),(g.mono (cp c)),(i.mono (cp c))⟩ u x,ck ?_⟩;simp only[*,go_sem];apply aE;simp only[*,go_sem]
def oT (u0:aj)(a:aZ):Option Bool:=
 af (rf u0.told (fun b=>ri b u0 a)) fun c=>some (!c)
theorem Ia {ro:Addr->Option Value}(u0:aj){s1 f g i:Value}(b:bQ ro u0 s1 f g i)(c:aZ){r:Bool}(h:oT u0 c=some r):aF Tryz.prog 141 #[bv u0 s1 f g i,.agg #[.int .i64 c.e0,.int .i64 c.e1,.int .i64 c.e2]] ⟨ro,[]⟩ (fun v _=>v= .bool r):=by
 obtain ⟨d3,c4,rfl,q,s,-⟩:=id b.e;obtain ⟨d10,u,rfl,w,x,-⟩:=id b.p;obtain ⟨d17,z,rfl,B,C,-⟩:=id b.y;obtain ⟨d24,D,rfl,E,F,-⟩:=id b.t;unfold oT at h;refine aF.go Tryz.func141 rfl Tryz.ntmps141 Tryz.results141 (by simp) fun main J hJ A G hd hs=>?_;have H:=hs 0;have k1:=hs 1;clear hs;apply ah hJ;simp only[*,go_sem];refine aA fun j I k=>?_;try simp only[av] at k
 refine aA fun l K m=>?_;try simp only[av] at m
 apply ah hJ;revert h;refine bS fun L n h=>?_;cases h;simp only[*,go_sem];refine bn hJ _ (H6 (dJ:=177) (eu:=#[]) (ew:=#[.pointer (some ⟨j,0,none⟩),.pointer (some ⟨l,0,none⟩)]) u0.told (b.t.mono aL) (fun d=>ri d u0 c) ⟨by simp only[go_sem],fun M a d N o=>by simp only[go_sem];exact H9 d u0 (a _ _ (by simp only[aa.cx,go_sem, *])) (a _ _ (by simp only[aa.cx,go_sem, *])) (a _ _ (by simp only[aa.cx,go_sem, *])) (a _ _ (by simp only[aa.cx,go_sem, *])) ((b.e.mono aL).mono a) (a _ _ (by simp only[aa.cx,go_sem, *])) ((b.p.mono aL).mono a) (a _ _ (by simp only[aa.cx,go_sem, *])) ((b.y.mono aL).mono a) (a _ _ (by simp only[aa.cx,go_sem, *])) ((b.t.mono aL).mono a) (a _ _ (by simp only[aa.cx,go_sem, *])) c (a _ _ (by simp only[aa.cx,go_sem, *])) (a _ _ (by simp only[aa.cx,go_sem, *])) (a _ _ (by simp only[aa.cx,go_sem, *])) o⟩ n) (aJ ?_);simp only[*,go_sem];apply aE;simp only[*,go_sem]
def oU (u0:aj)(a:(List aP)):Option Bool:=
 af (tT a (gq u0)) fun b=>some (!b)
theorem Ib {ro:Addr->Option Value}(u0:aj){s1 c d f:Value}(a:bQ ro u0 s1 c d f)(g:(List aP)){i:Value}(j:az jE ro i g){r:Bool}(h:oU u0 g=some r):aF Tryz.prog 132 #[bv u0 s1 c d f,i] ⟨ro,[]⟩ (fun v _=>v= .bool r):=by
 obtain ⟨d31,n,rfl,o,q,-⟩:=id j;unfold oU at h;refine aF.go Tryz.func132 rfl Tryz.ntmps132 Tryz.results132 (by simp) fun main J hJ A s hd hs=>?_;have u:=hs 0;have k1:=hs 1;clear hs;apply ah hJ;simp only[*,go_sem];refine aA fun w x k=>?_;try simp only[av] at k
 apply ah hJ;revert h;refine bS fun z l h=>?_;cases h;simp only[*,go_sem];refine bn hJ _ (H8 (dJ:=90) (eu:=#[bv u0 s1 c d f]) (ew:=#[]) g (j.mono aL) (gq u0) ⟨by simp only[go_sem],fun B b m _ h=>by simp only[go_sem];exact nt u0 ⟨((a.e.mono aL).mono b),((a.p.mono aL).mono b),((a.y.mono aL).mono b),((a.t.mono aL).mono b)⟩ m h⟩ l) (aJ ?_);simp only[*,go_sem];apply aE;simp only[*,go_sem]
def tV (u0:aZ)(a:cV)(w1:Int):Option Bool:=
 af (aZ.get u0 w1) fun b=>af (iC a.book w1 b) fun c=>af (gq a.book c) fun d=>some d
theorem Ic {ro:Addr->Option Value}(u0:aZ)(a:cV){b:Nat}(x:ro ⟨b,0,none⟩=some (.int .i64 a.book.bB))(y:ro ⟨b,1,none⟩=some (.int .i64 a.book.bH))(z:ro ⟨b,2,none⟩=some (.int .i64 a.book.aO.num))(B:ro ⟨b,3,none⟩=some (.int .i64 a.book.aO.den)){s1:Value}(d:az eT ro s1 a.book.ax)(C:ro ⟨b,4,none⟩=some (s1)){i:Value}(e:az dI ro i a.book.props)(D:ro ⟨b,5,none⟩=some (i)){j:Value}(f:az ej ro j a.book.an)(E:ro ⟨b,6,none⟩=some (j)){k:Value}(g:az cU ro k a.book.told)(G:ro ⟨b,7,none⟩=some (k)){l:Value}(n:az iA ro l a.all)(H:ro ⟨b,8,none⟩=some (l))(w1:Int){m:Nat}(I:ro ⟨m,0,none⟩=some (.int .i64 w1)){r:Bool}(h:tV u0 a w1=some r):aF Tryz.prog 107 #[.agg #[.int .i64 u0.e0,.int .i64 u0.e1,.int .i64 u0.e2],.pointer (some ⟨b,0,none⟩),.pointer (some ⟨m,0,none⟩)] ⟨ro,[]⟩ (fun v _=>v= .bool r):=by
 obtain ⟨d3,c4,rfl,K,L,-⟩:=id d;obtain ⟨d10,M,rfl,N,O,-⟩:=id e;obtain ⟨d17,P,rfl,Q,R,-⟩:=id f;obtain ⟨d24,S,rfl,T,U,-⟩:=id g;obtain ⟨d31,V,rfl,W,X,-⟩:=id n;unfold tV at h;refine aF.go Tryz.func107 rfl Tryz.ntmps107 Tryz.results107 (by simp) fun main J hJ A Y hd hs=>?_;have Z:=hs 0;have k1:=hs 1;have ab:=hs 2;clear hs;apply ah hJ;simp only[*,go_sem];refine aA fun ad ae o=>?_;try simp only[av] at o
 apply ag hJ;refine de hJ mixed 11 1 (by simp only[*,go_sem]) (by kernel_rfl) ?_;revert h;refine bS fun p q h=>?_;obtain ⟨al,ao,s⟩:=aZ.get_some q;try simp only[go_sem] at s
 revert h;refine bS fun t u h=>?_;simp only[*,go_sem];refine ⟨_,bI hJ fun F c=>m8 a.book ⟨(d.mono (cp c)),(e.mono (cp c)),(f.mono (cp c)),(g.mono (cp c))⟩ w1 p u,ck ?_⟩;revert h;refine bS fun ar w h=>?_;cases h;simp only[*,go_sem];refine ⟨_,bI hJ fun F c=>nt a.book ⟨(d.mono (cp c)),(e.mono (cp c)),(f.mono (cp c)),(g.mono (cp c))⟩ t w,ck ?_⟩;simp only[*,go_sem];apply aE;simp only[*,go_sem]
def xI (u0:aZ)(a:cV)(i38:Nat)(e:bO)(st:Bool):Option (Fl Bool Bool):=
 af (aZ.get u0 (i38:Int)) fun b=>af (iC a.book (i38:Int) b) fun c=>af (gq a.book c) fun d=>cond (d) (some (.rt false)) (some (.nx st))
def tX (u0:aZ)(a:cV):Option Bool:=
 af (bE (xI u0 a) 0 a.book.an false) fun o=>aC o (fun b=>some true) (fun _ _=>none) (fun r=>some r)
theorem Ie {ro:Addr->Option Value}(u0:aZ)(a:cV){b:Nat}(ae:ro ⟨b,0,none⟩=some (.int .i64 a.book.bB))(al:ro ⟨b,1,none⟩=some (.int .i64 a.book.bH))(ao:ro ⟨b,2,none⟩=some (.int .i64 a.book.aO.num))(ar:ro ⟨b,3,none⟩=some (.int .i64 a.book.aO.den)){s1:Value}(i:az eT ro s1 a.book.ax)(a0:ro ⟨b,4,none⟩=some (s1)){p:Value}(j:az dI ro p a.book.props)(a2:ro ⟨b,5,none⟩=some (p)){q:Value}(e:az ej ro q a.book.an)(a3:ro ⟨b,6,none⟩=some (q)){s:Value}(k:az cU ro s a.book.told)(a4:ro ⟨b,7,none⟩=some (s)){t:Value}(B:az iA ro t a.all)(a5:ro ⟨b,8,none⟩=some (t)){r:Bool}(h:tX u0 a=some r):aF Tryz.prog 110 #[.agg #[.int .i64 u0.e0,.int .i64 u0.e1,.int .i64 u0.e2],.pointer (some ⟨b,0,none⟩)] ⟨ro,[]⟩ (fun v _=>v= .bool r):=by
 obtain ⟨d3,c4,rfl,a6,a7,-⟩:=id i;obtain ⟨d10,a8,rfl,a9,ba,-⟩:=id j;obtain ⟨d17,bb,rfl,bc,C,-⟩:=id e;obtain ⟨d24,bd,rfl,bj,bk,-⟩:=id k;obtain ⟨d31,bl,rfl,bm,bo,-⟩:=id B;unfold tX at h;refine aF.go Tryz.func110 rfl Tryz.ntmps110 Tryz.results110 (by simp) fun main J hJ A D hd hs=>?_;have E:=hs 0;have k1:=hs 1;clear hs;apply ah hJ;simp only[*,go_sem];refine aA fun G br H=>?_;try simp only[av] at H
 refine ag hJ (ah hJ ?_);simp only[*,go_sem];apply aT hJ;revert h;refine bS fun I d u=>?_;refine bT hJ (rg 10 14 [3,4]) (fun m w F'=>∃(i38:Nat) (f:Bool),m=a.book.an.length - i38/\i38<=a.book.an.length/\bE (xI u0 a) i38 (a.book.an.drop i38) f=some I/\F'=⟨ro,(G,.cells #[.int .i64 u0.e0,.int .i64 u0.e1,.int .i64 u0.e2] 138)::[]⟩/\slot w 10= .int .i64 (i38:Int)/\slot w 3= .bool f) a.book.an.length ?_ ?_
 .refine ⟨0,false,(Nat.sub_zero _).symm,Nat.zero_le _,d,rfl,?_⟩;simp only[*,go_sem]
 rintro bs bz F' y ⟨i38,f,rfl,b0,d,rfl,b1,b2⟩;obtain ⟨K,L,M⟩:=y.pick [1,2,9] (by decide);simp only[*,go_sem] at K L M;clear y D hd E k1;apply ah hJ;simp only[*,go_sem];apply ag hJ;rcases Nat.lt_or_ge i38 a.book.an.length with N|z
 .refine cw hJ ?_;apply aI hJ;obtain ⟨O,l⟩:∃x,a.book.an[i38]?=some x:=⟨_,List.getElem?_eq_getElem N⟩
  rw[dw l] at d;revert d;refine bS fun b3 h o=>?_;unfold xI at h;try dsimp only at h
  obtain ⟨b4,P,Q,R,g⟩:=e.el _ _ l;obtain rfl:P=O.cells:=R;cases Q;have S:=g 0 _ rfl;simp only[go_sem] at S;have T:=g 1 _ rfl;simp only[go_sem] at T;have U:=g 2 _ rfl;simp only[go_sem] at U;clear g l;refine ag hJ (aT hJ (ag hJ ?_));apply ak hJ;simp only[*,go_sem];apply ag hJ;refine de hJ mixed 10 1 (by simp only[*,go_sem]) (by kernel_rfl) ?_;revert h;refine bS fun V W h=>?_;obtain ⟨b5,ca,X⟩:=aZ.get_some W;try simp only[go_sem] at X
  revert h;refine bS fun Y Z h=>?_;simp only[*,go_sem];refine ⟨_,bI hJ fun F c=>m8 a.book ⟨(i.mono (cp c)),(j.mono (cp c)),(e.mono (cp c)),(k.mono (cp c))⟩ (i38:Int) V Z,ck ?_⟩;revert h;refine bS fun cb ab h=>?_;simp only[*,go_sem];refine ⟨_,bI hJ fun F c=>nt a.book ⟨(i.mono (cp c)),(j.mono (cp c)),(e.mono (cp c)),(k.mono (cp c))⟩ Y ab,?_⟩;revert h;refine aY hJ (fun ad h=>?_) fun ad h=>?_
  .cases h;apply ah hJ;simp only[*,go_sem];obtain rfl:=sI o;clear o;have h:=u;dsimp only[aC] at h;cases h;apply aE;simp only[*,go_sem]
  cases h;apply aI hJ;have cd:=cv (n:=i38) (by have:=C;omega);apply ak hJ;simp only[*,go_sem];refine ⟨a.book.an.length - (i38+1),by omega,_,Le.sub (List.Sublist.refl _),i38+1,f,rfl,by omega,o,rfl,?_⟩;simp only[*,go_sem]
 have cf:=Nat.not_lt.2 z;refine cn hJ ?_;rw[List.drop_eq_nil_of_le z] at d;obtain rfl:=sI d;clear d;have h:=u;dsimp only[aC] at h;cases h;apply bR;simp only[go_sem];apply ah hJ;simp only[*,go_sem];apply aE;simp only[*,go_sem]
def aZ.setAt (h:aZ)(i n:Int):Option aZ:=if i=0 then some {h with e0:=n} else if i=1 then some {h with e1:=n} else if i=2 then some {h with e2:=n} else none
theorem aZ.Ig {h h1:aZ}{i n:Int}(e:h.setAt i n=some h1):(i=0/\h1={h with e0:=n})\/(i=1/\h1={h with e1:=n})\/(i=2/\h1={h with e2:=n}):=by
 unfold aZ.setAt at e;split at e
 .exact .inl ⟨‹_›,(Option.some.inj e).symm⟩
 .split at e
  .exact .inr (.inl ⟨‹_›,(Option.some.inj e).symm⟩)
  .split at e
   .exact .inr (.inr ⟨‹_›,(Option.some.inj e).symm⟩)
   .cases e
def jL (f:aZ->List (Option aZ)×aZ)(i hi:Int):Nat->Int->aZ->List (Option aZ)×aZ
 |0,_,h=>([none],h)
 |k+1,n,h=>if n<=hi then match h.setAt i n with
   |none=>([none],h)
   |some h1=>((f h1).1++(jL f i hi k (IntKind.i64.wrap (n+1)) (f h1).2).1,(jL f i hi k (IntKind.i64.wrap (n+1)) (f h1).2).2)
  else ([],h)
def eZ (b:aj):Nat->Int->aZ->List (Option aZ)×aZ
 |0,_,h=>([none],h)
 |fuel+1,i,h=>if i=b.an.length then ((match oT b h with
   |some true=>[some h]
   |some false=>[]
   |none=>[none]),h)
  else match bh b.an i with
   |none=>([none],h)
   |some e=>jL (eZ b fuel (IntKind.i64.wrap (i+1))) i e.high.high 100 e.high.low h
def ny (b:aj):List (Option aZ):=(eZ b 5 0 ⟨0,0,0⟩).1
theorem Ih {H σ:Type}{step:σ->H->Option (Bool×σ)}{l l':List (Option H)}{s s':σ}{c:Bool}(h:fo step (l++l') s=some (c,s')):
  (∃s1,fo step l s=some (true,s1)/\fo step l' s1=some (c,s'))\/(fo step l s=some (false,s')/\c=false):=by
 rw[B5] at h
 split at h
 .rename_i s1 h1;exact .inl ⟨s1,h1,h⟩
 .rename_i s1 h1;simp only[Option.some.injEq,Prod.mk.injEq] at h;obtain ⟨rfl,rfl⟩:=h;exact .inr ⟨h1,rfl⟩
 .cases h
theorem rj {H σ:Type}{step:σ->H->Option (Bool×σ)}{s:σ}{r:Bool×σ}(h:fo step [none] s=some r):False:=by cases h
section
variable {ro:Addr->Option Value}{σ:Type}{step:σ->aZ->Option (Bool×σ)}{I:σ->List (Nat×Obj)->Prop}{y:Value}
def oV (b:aj)(s1 s2 a c y:Value)(b2 b3 b4 b5:Nat)(h:aZ):List (Nat×Obj):=
 [(b5,.cells #[.func (.func 140) #[] #[.pointer (some ⟨b2,0,none⟩),.pointer (some ⟨b4,0,none⟩),.pointer (some ⟨b3,0,none⟩),.pointer (some ⟨b5,0,none⟩)]] 151),
  (b4,.cells #[.int .i64 h.e0,.int .i64 h.e1,.int .i64 h.e2] 138),(b3,.cells #[y] 158),
  (b2,.cells #[.int .i64 b.bB,.int .i64 b.bH,.int .i64 b.aO.num,.int .i64 b.aO.den,s1,s2,a,c] 96)]
theorem Ii (u0:aj){s1 s2 u w:Value}(D:az eT ro s1 u0.ax)(E:az dI ro s2 u0.props)(F:az ej ro u u0.an)(G:az cU ro w u0.told)(T:xx Tryz.prog y aZ.v step ro I)
  {b2 b3 b4 b5:Nat} (n1:¬b5=b4) (n2:¬b5=b3) (n3:¬b5=b2) (a9:¬b4=b3) (ba:¬b4=b2) (bb:¬b3=b2) (bc:∀off sp,ro ⟨b5,off,sp⟩=none) (bd:∀off sp,ro ⟨b4,off,sp⟩=none) (bj:∀off sp,ro ⟨b3,off,sp⟩=none) (bk:∀off sp,ro ⟨b2,off,sp⟩=none):
  ∀(fuel:Nat) (i:Int) (h0:aZ) (s:σ) (c:Bool) (s':σ),fo step (eZ u0 fuel i h0).1 s=some (c,s')->∀(main:Bool) (J:Goroutine->aa->Prop),Closed Tryz.prog main J->∀own,I s own->
   cY Tryz.prog J 140 #[.int .i64 i,.pointer (some ⟨b2,0,none⟩),.pointer (some ⟨b4,0,none⟩),.pointer (some ⟨b3,0,none⟩),.pointer (some ⟨b5,0,none⟩)] ⟨ro,oV u0 s1 s2 u w y b2 b3 b4 b5 h0++own⟩
    (fun v F'=>∃h1 o,Le ⟨ro,oV u0 s1 s2 u w y b2 b3 b4 b5 h1++o⟩ F'/\v= .bool c/\I s' o/\(c=true->h1=(eZ u0 fuel i h0).2)):=by
 intro fuel
 induction fuel with
 |zero=>intro i h0 s c s' h;exact (rj h).elim
 |succ fuel ih=>
  intro i h0 s c s' h main J hJ own g
  obtain ⟨H,K,rfl,bl,bm,e1⟩:=id D
  obtain ⟨L,M,rfl,bo,br,e2⟩:=id E
  obtain ⟨U,N,rfl,bs,bz,V⟩:=id F
  obtain ⟨O,P,rfl,bS,b0,b1⟩:=id G
  refine cY.go hJ Tryz.func140 rfl Tryz.ntmps140 Tryz.results140 (by simp) fun A W hd hs=>?_
  have X:=hs 0
  have k1:=hs 1
  have Y:=hs 2
  have Z:=hs 3
  have ab:=hs 4
  clear hs
  unfold eZ at h
  have ca:(0:Int)<((3:Nat):Int):=by decide
  have cb:(1:Int)<((3:Nat):Int):=by decide
  have cd:(2:Int)<((3:Nat):Int):=by decide
  repeat apply ag hJ
  apply ak hJ
  simp only[*,go_sem,-h]
  repeat apply ag hJ
  apply ak hJ
  simp only[oV,go_sem, *,-h]
  repeat apply ag hJ
  by_cases hi:i=(u0.an.length:Int)
  .rw[if_pos hi] at h
   repeat apply ag hJ
   refine ei hJ (by simp only[*,go_sem,-h]) ?_
   repeat apply ag hJ
   refine ay hJ fun nd=>?_
   repeat apply ag hJ
   apply ak hJ
   simp only[*,go_sem,-h]
   cases d:oT u0 h0 with
   |none=>rw[d] at h;exact (rj h).elim
   |some r=>
    rw[d] at h
    refine bn hJ _ (Ia u0 ⟨(D.mono aL),(E.mono aL),(F.mono aL),(G.mono aL)⟩ h0 d) (aJ ?_)
    cases r with
    |false=>
     cases h
     simp only[*,go_sem]
     repeat apply ag hJ
     apply aE
     simp only[*,go_sem]
     refine ⟨h0,own,Le.refl _,?_⟩
     first|exact ⟨rfl,g,fun _=>by unfold eZ;rw[if_pos rfl]⟩|exact ⟨g,fun _=>by unfold eZ;rw[if_pos rfl]⟩|exact ⟨g,by unfold eZ;rw[if_pos rfl]⟩|exact g
    |true=>
     have ad:step s h0=some (c,s'):=by
      simp only[fo] at h
      split at h<;>first|(cases h;assumption)|cases h
     simp only[*,go_sem,-h]
     refine Hh hJ (oV u0 (.slice H u0.ax.length K) (.slice L u0.props.length M) (.slice U u0.an.length N) (.slice O u0.told.length P) y b2 b3 b4 b5 h0) (fun m ae al=>T s h0 c s' ad m ae al own g) nd ?_
     rintro v o ⟨rfl,Q⟩ cf
     apply aJ
     simp only[*,go_sem,-h]
     repeat apply ag hJ
     apply aE
     simp only[*,go_sem,-h]
     refine ⟨h0,o,Le.refl _,?_⟩
     first|exact ⟨rfl,Q,fun _=>by unfold eZ;rw[if_pos rfl]⟩|exact ⟨Q,fun _=>by unfold eZ;rw[if_pos rfl]⟩
  .rw[if_neg hi] at h
   have cl:(i==(u0.an.length:Int))=false:=by simpa using hi
   repeat apply ag hJ
   refine dV hJ (by simp only[*,go_sem,-h]) ?_
   apply aI hJ
   cases d:bh u0.an i with
   |none=>rw[d] at h;exact (rj h).elim
   |some e=>
    rw[d] at h
    simp only at h
    have ao:=d
    obtain ⟨cy,cS,R⟩:=c5 d
    obtain ⟨ar,cse,a0,a2,p⟩:=V _ _ R
    obtain rfl:cse=e.cells:=a2
    cases a0
    have a3:=p 0 _ rfl;simp only[go_sem] at a3
    have a4:=p 1 _ rfl;simp only[go_sem] at a4
    have a5:=p 2 _ rfl;simp only[go_sem] at a5
    clear p R
    repeat apply ag hJ
    apply ak hJ
    simp only[*,go_sem,-h]
    repeat apply ag hJ
    apply aT hJ
    refine bT hJ [6,7,31,32,33,34,35,36,37,38,39,40,41,42,43,44,45,46,47,48,49,50] (fun m a6 F'=>∃(n:Int) (h:aZ) (s:σ) (own:List (Nat×Obj)),fo step (jL (eZ u0 fuel (IntKind.i64.wrap (i+1))) i e.high.high m n h).1 s=some (c,s')/\
     (c=true->(jL (eZ u0 fuel (IntKind.i64.wrap (i+1))) i e.high.high m n h).2=(eZ u0 (fuel+1) i h0).2)/\F'=⟨ro,oV u0 (.slice H u0.ax.length K) (.slice L u0.props.length M) (.slice (some ar) u0.an.length N) (.slice O u0.told.length P) y b2 b3 b4 b5 h++own⟩/\I s own/\slot a6 7= .int .i64 n) 100 ?_ ?_
    .have a7:(eZ u0 (fuel+1) i h0).2=(jL (eZ u0 fuel (IntKind.i64.wrap (i+1))) i e.high.high 100 e.high.low h0).2:=by
      rw[eZ,if_neg hi,ao]
     exact ⟨e.high.low,h0,s,own,h,fun _=>a7.symm,rfl,g,by simp only[*,go_sem,-h]⟩
    .rintro m j F' f ⟨n,h1,s1,x,a,b,rfl,l,c0⟩
     clear h g
     have da:sz j=51:=by rw[f.size];simp only[*,go_sem]
     have kd:j.defers=[]:=by rw[f.defers];simp only[*,go_sem]
     have db:slot j 0= .int .i64 i:=by rw[f.cP 0 (by decide)];simp only[*,go_sem]
     have dd:slot j 1= .pointer (some ⟨b2,0,none⟩):=by rw[f.cP 1 (by decide)];simp only[*,go_sem]
     have df:slot j 2= .pointer (some ⟨b4,0,none⟩):=by rw[f.cP 2 (by decide)];simp only[*,go_sem]
     have dk:slot j 3= .pointer (some ⟨b3,0,none⟩):=by rw[f.cP 3 (by decide)];simp only[*,go_sem]
     have dp:slot j 4= .pointer (some ⟨b5,0,none⟩):=by rw[f.cP 4 (by decide)];simp only[*,go_sem]
     clear f X k1 Y Z ab W hd
     obtain _|m:=m
     .exact (rj a).elim
     unfold jL at a b
     repeat apply ag hJ
     apply ak hJ
     simp only[oV,go_sem, *,-a]
     repeat apply ag hJ
     by_cases q:n<=e.high.high
     .rw[if_pos q] at a
      rw[if_pos q] at b
      repeat apply ag hJ
      refine ei hJ (by simp only[*,go_sem,-a]) ?_
      apply aI hJ
      cases z:h1.setAt i n with
      |none=>rw[z] at a;exact (rj a).elim
      |some h2=>
       rw[z] at a b
       simp only at a b
       repeat apply ag hJ
       apply aT hJ
       repeat apply ag hJ
       refine ay hJ fun nd=>?_
       repeat apply ag hJ
       apply ak hJ
       rcases aZ.Ig z with ⟨B,rfl⟩|⟨B,rfl⟩|⟨B,rfl⟩<;>subst B<;>
       (simp only[*,go_sem,-a]
        repeat apply ag hJ
        apply ak hJ
        simp only[*,go_sem,-a]
        have a8:=Ih a
        clear a
        rcases a8 with ⟨s2,C,a⟩|⟨C,rfl⟩
        .refine cY.less hJ ((ih _ _ _ _ _ C _ J hJ x l).mono ?_)
         rintro v F' ⟨h3,S,hle,rfl,k,t⟩
         have t:=t rfl
         subst t
         refine ⟨_,hle,aJ ?_⟩
         simp only[*,go_sem,-a]
         repeat apply ag hJ
         refine dV hJ (by simp only[*,go_sem,-a]) ?_
         apply aI hJ
         repeat apply ag hJ
         apply ak hJ
         simp only[*,go_sem,-a]
         exact ⟨m,Nat.lt_succ_self m,_,Le.refl _,_,_,_,_,a,b,rfl,k,by simp only[*,go_sem,-a]⟩
        .refine cY.less hJ ((ih _ _ _ _ _ C _ J hJ x l).mono ?_)
         rintro v F' ⟨h3,S,hle,rfl,k,t⟩
         refine ⟨_,hle,aJ ?_⟩
         simp only[*,go_sem]
         repeat apply ag hJ
         refine ei hJ (by simp only[*,go_sem]) ?_
         repeat apply ag hJ
         apply ak hJ
         simp only[*,go_sem]
         repeat apply ag hJ
         apply aE
         simp only[*,go_sem]
         refine ⟨h3,S,Le.refl _,?_⟩
         first|exact ⟨rfl,k,fun h=>by cases h⟩|exact ⟨k,fun h=>by cases h⟩|exact k|exact ⟨k,trivial⟩)
     .rw[if_neg q] at a
      rw[if_neg q] at b
      simp only[fo,Option.some.injEq,Prod.mk.injEq] at a
      obtain ⟨rfl,rfl⟩:=a
      repeat apply ag hJ
      refine dV hJ (by simp only[*,go_sem]) ?_
      apply bR
      simp only[go_sem]
      repeat apply ag hJ
      apply ak hJ
      simp only[*,go_sem]
      repeat apply ag hJ
      apply aE
      simp only[*,go_sem]
      refine ⟨h1,x,Le.refl _,?_⟩
      first|exact ⟨rfl,l,fun h=>b h⟩|exact ⟨l,fun h=>b h⟩|exact ⟨l,b rfl⟩
theorem tY (u0:aj){s1 s2 j k:Value}(e:az eT ro s1 u0.ax)(f:az dI ro s2 u0.props)(g:az ej ro j u0.an)(h:az cU ro k u0.told):
  m5 Tryz.prog 82 #[.agg #[.int .i64 u0.bB,.int .i64 u0.bH,.int .i64 u0.aO.num,.int .i64 u0.aO.den,s1,s2,j,k]] #[] aZ.v (ny u0) ro:=by
 refine ⟨by simp only[go_sem],fun aN b σ step I r t u l s c s' a main J hJ own m=>?_⟩
 replace e:=e.mono b
 replace f:=f.mono b
 replace g:=g.mono b
 replace h:=h.mono b
 refine cY.go hJ Tryz.func82 rfl Tryz.ntmps82 Tryz.results82 (by simp) fun A w hd hs=>?_
 have x:=hs 0
 have k1:=hs 1
 clear hs
 repeat apply ag hJ
 apply ak hJ
 try simp only[*,go_sem,-a]
 intro b2 f2;have r2:=ez f2;have n2:=fW f2
 intro b3 f3;have r3:=ez f3;have n3:=fW f3
 simp only[av] at n3
 try simp only[*,go_sem,-a]
 repeat apply ag hJ
 apply ak hJ
 try simp only[*,go_sem,-a]
 intro b4 f4;have n:=ez f4;have i:=fW f4
 simp only[av] at i
 try simp only[*,go_sem,-a]
 repeat apply ag hJ
 apply ak hJ
 try simp only[*,go_sem,-a]
 intro b5 f5;have o:=ez f5;have d:=fW f5
 simp only[av] at d
 try simp only[*,go_sem,-a]
 repeat apply ag hJ
 apply ak hJ
 try simp only[*,go_sem,-a]
 repeat apply ag hJ
 apply ak hJ
 try simp only[*,go_sem,-a]
 refine cY.less hJ ((Ii u0 e f g h l (b2:=b2) (b3:=b3) (b4:=b4) (b5:=b5) d.1 d.2.1 d.2.2.1 i.1 i.2.1 n3.1 o n r3 r2 5 0 ⟨0,0,0⟩ s c s' a main J hJ own m).mono ?_)
 rintro v F' ⟨h1,p,hle,rfl,q,_⟩
 exact ⟨_,hle,p,Le.sub (List.sublist_append_right _ _),q⟩
end
def tZ (u0:List bA):Option (List bA):=if u0.length<=1000000 then some u0 else none
theorem xJ {ro:Addr->Option Value}(u0:List bA){s1:Value}(b:az cU ro s1 u0){x:List bA}(h:tZ u0=some x):aF Tryz.prog 118 #[s1] ⟨ro,[]⟩ (fun v G=>∃a,aQ cU ro 49 v x a/\Le ⟨ro,a⟩ G):=by
 obtain ⟨ad,cap,rfl,le,d,e⟩:=id b;unfold tZ at h;split at h
 case isFalse=>cases h
 rename_i hlen;obtain rfl:=Option.some.inj h;clear h;refine aF.go Tryz.func118 rfl Tryz.ntmps118 Tryz.results118 (by simp) fun main J hJ A f hd hs=>?_;have g:=hs 0;clear hs;apply ah hJ;simp only[*,go_sem];cases ad with
 |none=>
  have hu:u0=[]:=by
   cases u0 with
   |nil=>rfl
   |cons x l=>obtain ⟨p,cs,c,_⟩:=e 0 x rfl;cases c
  subst hu;first|refine ah hJ ?_|refine ag hJ (ah hJ ?_)
  simp only[*,go_sem];refine ei hJ (by simp only[*,go_sem]) ?_;apply ah hJ;simp only[*,go_sem];apply aE;simp only[*,go_sem];exact ⟨[],aQ.nil _ _ _,Le.refl _⟩
 |some p=>
  first|refine ah hJ ?_|refine ag hJ (ah hJ ?_)
  simp only[*,go_sem];refine dV hJ (by simp only[*,go_sem]) ?_;apply aI hJ;apply ah hJ;simp only[*,go_sem];intro i f1;have r1:=ez f1;try simp only[*,go_sem]
  refine qQ r1 trivial rfl hlen b rfl rfl ep ep iw iz rfl iy (by decide) (by decide) (fun v a hg j=>aJ ?_);simp only[*,go_sem];apply aE;simp only[*,go_sem];exact ⟨a,hg,Le.refl _⟩
def ua (u0:List bO):Option (List bO):=if u0.length<=1000000 then some u0 else none
theorem Cm {ro:Addr->Option Value}(u0:List bO){s1:Value}(b:az ej ro s1 u0){x:List bO}(h:ua u0=some x):aF Tryz.prog 121 #[s1] ⟨ro,[]⟩ (fun v G=>∃a,aQ ej ro 47 v x a/\Le ⟨ro,a⟩ G):=by
 obtain ⟨ad,cap,rfl,le,d,e⟩:=id b;unfold ua at h;split at h
 case isFalse=>cases h
 rename_i hlen;obtain rfl:=Option.some.inj h;clear h;refine aF.go Tryz.func121 rfl Tryz.ntmps121 Tryz.results121 (by simp) fun main J hJ A f hd hs=>?_;have g:=hs 0;clear hs;apply ah hJ;simp only[*,go_sem];cases ad with
 |none=>
  have hu:u0=[]:=by
   cases u0 with
   |nil=>rfl
   |cons x l=>obtain ⟨p,cs,c,_⟩:=e 0 x rfl;cases c
  subst hu;first|refine ah hJ ?_|refine ag hJ (ah hJ ?_)
  simp only[*,go_sem];refine ei hJ (by simp only[*,go_sem]) ?_;apply ah hJ;simp only[*,go_sem];apply aE;simp only[*,go_sem];exact ⟨[],aQ.nil _ _ _,Le.refl _⟩
 |some p=>
  first|refine ah hJ ?_|refine ag hJ (ah hJ ?_)
  simp only[*,go_sem];refine dV hJ (by simp only[*,go_sem]) ?_;apply aI hJ;apply ah hJ;simp only[*,go_sem];intro i f1;have r1:=ez f1;try simp only[*,go_sem]
  refine qQ r1 trivial rfl hlen b rfl rfl s9 s9 Bw By rfl Bx (by decide) (by decide) (fun v a hg j=>aJ ?_);simp only[*,go_sem];apply aE;simp only[*,go_sem];exact ⟨a,hg,Le.refl _⟩
def xK (u0:List bY):Option (List bY):=if u0.length<=1000000 then some u0 else none
theorem Ij {ro:Addr->Option Value}(u0:List bY){s1:Value}(b:az eT ro s1 u0){x:List bY}(h:xK u0=some x):aF Tryz.prog 149 #[s1] ⟨ro,[]⟩ (fun v G=>∃a,aQ eT ro 129 v x a/\Le ⟨ro,a⟩ G):=by
 obtain ⟨ad,cap,rfl,le,d,e⟩:=id b;unfold xK at h;split at h
 case isFalse=>cases h
 rename_i hlen;obtain rfl:=Option.some.inj h;clear h;refine aF.go Tryz.func149 rfl Tryz.ntmps149 Tryz.results149 (by simp) fun main J hJ A f hd hs=>?_;have g:=hs 0;clear hs;apply ah hJ;simp only[*,go_sem];cases ad with
 |none=>
  have hu:u0=[]:=by
   cases u0 with
   |nil=>rfl
   |cons x l=>obtain ⟨p,cs,c,_⟩:=e 0 x rfl;cases c
  subst hu;first|refine ah hJ ?_|refine ag hJ (ah hJ ?_)
  simp only[*,go_sem];refine ei hJ (by simp only[*,go_sem]) ?_;apply ah hJ;simp only[*,go_sem];apply aE;simp only[*,go_sem];exact ⟨[],aQ.nil _ _ _,Le.refl _⟩
 |some p=>
  first|refine ah hJ ?_|refine ag hJ (ah hJ ?_)
  simp only[*,go_sem];refine dV hJ (by simp only[*,go_sem]) ?_;apply aI hJ;apply ah hJ;simp only[*,go_sem];intro i f1;have r1:=ez f1;try simp only[*,go_sem]
  refine qQ r1 trivial rfl hlen b rfl rfl Bv Bv GB BB rfl GC (by decide) (by decide) (fun v a hg j=>aJ ?_);simp only[*,go_sem];apply aE;simp only[*,go_sem];exact ⟨a,hg,Le.refl _⟩
def rm (u0:List bL):Option (List bL):=if u0.length<=1000000 then some u0 else none
theorem Cn {ro:Addr->Option Value}(u0:List bL){s1:Value}(b:az dI ro s1 u0){x:List bL}(h:rm u0=some x):aF Tryz.prog 150 #[s1] ⟨ro,[]⟩ (fun v G=>∃a,aQ dI ro 43 v x a/\Le ⟨ro,a⟩ G):=by
 obtain ⟨ad,cap,rfl,le,d,e⟩:=id b;unfold rm at h;split at h
 case isFalse=>cases h
 rename_i hlen;obtain rfl:=Option.some.inj h;clear h;refine aF.go Tryz.func150 rfl Tryz.ntmps150 Tryz.results150 (by simp) fun main J hJ A f hd hs=>?_;have g:=hs 0;clear hs;apply ah hJ;simp only[*,go_sem];cases ad with
 |none=>
  have hu:u0=[]:=by
   cases u0 with
   |nil=>rfl
   |cons x l=>obtain ⟨p,cs,c,_⟩:=e 0 x rfl;cases c
  subst hu;first|refine ah hJ ?_|refine ag hJ (ah hJ ?_)
  simp only[*,go_sem];refine ei hJ (by simp only[*,go_sem]) ?_;apply ah hJ;simp only[*,go_sem];apply aE;simp only[*,go_sem];exact ⟨[],aQ.nil _ _ _,Le.refl _⟩
 |some p=>
  first|refine ah hJ ?_|refine ag hJ (ah hJ ?_)
  simp only[*,go_sem];refine dV hJ (by simp only[*,go_sem]) ?_;apply aI hJ;apply ah hJ;simp only[*,go_sem];intro i f1;have r1:=ez f1;try simp only[*,go_sem]
  refine qQ r1 trivial rfl hlen b rfl rfl j8 j8 qL qN rfl qM (by decide) (by decide) (fun v a hg j=>aJ ?_);simp only[*,go_sem];apply aE;simp only[*,go_sem];exact ⟨a,hg,Le.refl _⟩
def oW (u0:List Int):Option (List Int):=if u0.length<=1000000 then some u0 else none
theorem Co {ro:Addr->Option Value}(u0:List Int){s1:Value}(b:az rI ro s1 u0){x:List Int}(h:oW u0=some x):aF Tryz.prog 137 #[s1] ⟨ro,[]⟩ (fun v G=>∃a,aQ rI ro 3 v x a/\Le ⟨ro,a⟩ G):=by
 obtain ⟨ad,cap,rfl,le,d,e⟩:=id b;unfold oW at h;split at h
 case isFalse=>cases h
 rename_i hlen;obtain rfl:=Option.some.inj h;clear h;refine aF.go Tryz.func137 rfl Tryz.ntmps137 Tryz.results137 (by simp) fun main J hJ A f hd hs=>?_;have g:=hs 0;clear hs;apply ah hJ;simp only[*,go_sem];cases ad with
 |none=>
  have hu:u0=[]:=by
   cases u0 with
   |nil=>rfl
   |cons x l=>obtain ⟨p,cs,c,_⟩:=e 0 x rfl;cases c
  subst hu;first|refine ah hJ ?_|refine ag hJ (ah hJ ?_)
  simp only[*,go_sem];refine ei hJ (by simp only[*,go_sem]) ?_;apply ah hJ;simp only[*,go_sem];apply aE;simp only[*,go_sem];exact ⟨[],aQ.nil _ _ _,Le.refl _⟩
 |some p=>
  first|refine ah hJ ?_|refine ag hJ (ah hJ ?_)
  simp only[*,go_sem];refine dV hJ (by simp only[*,go_sem]) ?_;apply aI hJ;apply ah hJ;simp only[*,go_sem];intro i f1;have r1:=ez f1;try simp only[*,go_sem]
  refine qQ r1 trivial rfl hlen b rfl rfl gh gh lV lX rfl lW (by decide) (by decide) (fun v a hg j=>aJ ?_);simp only[*,go_sem];apply aE;simp only[*,go_sem];exact ⟨a,hg,Le.refl _⟩
def oX (u0:aj)(i43:Nat)(b:(aj->Option Int))(st:Int):Option (Fl Int (aj×Int)):=
 af (b u0) fun a=>cond ((a != 0)) (some (.rt ((⟨0,0,(⟨0,0⟩:au),([]:(List bY)),([]:(List bL)),([]:(List bO)),([]:(List bA))⟩:aj),a))) (some (.nx st))
def ek (u0:aj)(b:(List (aj->Option Int))):Option (aj×Int):=
 af (dZ u0) fun a=>cond ((a != 0)) (some ((⟨0,0,(⟨0,0⟩:au),([]:(List bY)),([]:(List bL)),([]:(List bO)),([]:(List bA))⟩:aj),a)) (af (bE (oX u0) 0 b 0) fun o=>aC o (fun c=>some (u0,0)) (fun _ _=>none) (fun r=>some r))
theorem lg {ro:Addr->Option Value}(D:di ro)(u0:aj){s1 f g i:Value}(b:bQ ro u0 s1 f g i)(c:(List (aj->Option Int))){o:Value}(q:az (dh) ro o c){r:(aj×Int)}(h:ek u0 c=some r):eW Tryz.prog 79 #[bv u0 s1 f g i,o] ro (fun v aN=>∃s w1 w2 w3,v= .tuple #[bv r.1 s w1 w2 w3,.int .i64 r.2]/\bQ aN r.1 s w1 w2 w3):=by
 obtain ⟨d31,ae,rfl,al,E,-⟩:=id q;unfold ek at h;have F:=b.oc;simp only[bJ] at F;refine aF.go Tryz.func79 rfl Tryz.ntmps79 Tryz.results79 (by simp) fun main J hJ A G hd hs=>?_;have H:=hs 0;have k1:=hs 1;clear hs;apply ah hJ;simp only[*,go_sem];refine aA fun I ao K=>?_;try simp only[av] at K
 refine aA fun L ar M=>?_;try simp only[av] at M
 refine ag hJ (ah hJ ?_);revert h;refine bS fun a0 N h=>?_;simp only[*,go_sem];refine bn hJ _ (Ci (D.mono aL) u0 (b.e.mono aL) (b.p.mono aL) (b.y.mono aL) (b.t.mono aL) N) (aJ ?_);simp only[*,go_sem];apply ah hJ;simp only[*,go_sem];revert h;refine aY hJ (fun O h=>?_) fun O h=>?_
 .cases h;apply ah hJ;simp only[*,go_sem];apply aE;simp only[*,go_sem];exact ⟨_,Ext.refl _,Le.sub (List.nil_sublist _),_,_,_,_,rfl,⟨az.nil _ _,az.nil _ _,az.nil _ _,az.nil _ _⟩⟩
 refine aI hJ (ag hJ ?_);apply ak hJ;simp only[*,go_sem];refine aA fun P a2 Q=>?_;try simp only[av] at Q
 refine ag hJ (ah hJ ?_);simp only[*,go_sem];apply aT hJ;revert h;refine bS fun R d u=>?_;refine bT hJ (rg 21 12 [5,9,10]) (fun m w F'=>∃(i43:Nat) (j:Int),m=c.length - i43/\i43<=c.length/\bE (oX u0) i43 (c.drop i43) j=some R/\F'=⟨ro,(P,bl u0 s1 f g i)::(L,bz 96)::(I,bk u0 s1 f g i)::[]⟩/\slot w 21= .int .i64 (i43:Int)/\slot w 5= .int .i64 j) c.length ?_ ?_
 .refine ⟨0,0,(Nat.sub_zero _).symm,Nat.zero_le _,d,rfl,?_⟩;simp only[*,go_sem]
 rintro a3 a4 F' z ⟨i43,j,rfl,a5,d,rfl,a6,a7⟩;obtain ⟨S,T,U⟩:=z.pick [4,7,19,20] (by decide);simp only[*,go_sem] at S T U;clear z G hd H k1;apply ah hJ;simp only[*,go_sem];apply ag hJ;rcases Nat.lt_or_ge i43 c.length with V|B
 .refine cw hJ ?_;apply aI hJ;obtain ⟨a8,k⟩:∃x,c[i43]?=some x:=⟨_,List.getElem?_eq_getElem V⟩
  rw[dw k] at d;revert d;refine bS fun a9 h l=>?_;unfold oX at h;try dsimp only at h
  obtain ⟨ba,bb,W,X,C⟩:=q.el _ _ k;obtain ⟨bc,bd,bj,rfl,Y⟩:=X;cases W;have Z:=C 0 _ rfl;simp only[go_sem] at Z;clear C k;refine ag hJ (aT hJ (ag hJ ?_));apply ak hJ;simp only[*,go_sem];apply ah hJ;revert h;refine bS fun bm ab h=>?_;simp only[*,go_sem];refine bn hJ _ (Y.2 _ (fun a v h=>aL a v h) u0 _ _ _ _ _ (b.e.mono aL) (b.p.mono aL) (b.y.mono aL) (b.t.mono aL) ab) (aJ ?_);simp only[*,go_sem];apply ah hJ;simp only[*,go_sem];revert h;refine aY hJ (fun ad h=>?_) fun ad h=>?_
  .cases h;apply ah hJ;simp only[*,go_sem];obtain rfl:=sI l;clear l;have h:=u;dsimp only[aC] at h;cases h;apply aE;simp only[*,go_sem];exact ⟨_,Ext.refl _,Le.sub (List.nil_sublist _),_,_,_,_,rfl,⟨az.nil _ _,az.nil _ _,az.nil _ _,az.nil _ _⟩⟩
  cases h;apply aI hJ;have bo:=cv (n:=i43) (by have:=E;omega);apply ak hJ;simp only[*,go_sem];refine ⟨c.length - (i43+1),by omega,_,Le.sub (List.Sublist.refl _),i43+1,j,rfl,by omega,l,rfl,?_⟩;simp only[*,go_sem]
 have br:=Nat.not_lt.2 B;refine cn hJ ?_;rw[List.drop_eq_nil_of_le B] at d;obtain rfl:=sI d;clear d;have h:=u;dsimp only[aC] at h;cases h;apply bR;simp only[go_sem];apply ah hJ;simp only[*,go_sem];apply aE;simp only[*,go_sem];exact ⟨_,Ext.refl _,Le.sub (List.nil_sublist _),_,_,_,_,rfl,b⟩
def xL (u0:aj)(b:Int):Option (au×Int):=
 af (ek u0 ([(oM b)])) fun a=>cond ((a.2 != 0)) (some ((⟨0,0⟩:au),a.2)) (af (jK a.1 b) fun c=>some (c,0))
theorem Ik {ro:Addr->Option Value}(f:di ro)(u0:aj){s1 g i j:Value}(k:bQ ro u0 s1 g i j)(a:Int){r:(au×Int)}(h:xL u0 a=some r):aF Tryz.prog 46 #[bv u0 s1 g i j,.int .i64 a] ⟨ro,[]⟩ (fun v _=>v= .tuple #[r.1.v,.int .i64 r.2]):=by
 unfold xL at h;refine aF.go Tryz.func46 rfl Tryz.ntmps46 Tryz.results46 (by simp) fun main J hJ A V hd hs=>?_;have W:=hs 0;have k1:=hs 1;clear hs;apply ah hJ;simp only[*,go_sem];refine aA fun B C D=>?_;try simp only[av] at D
 refine aA fun E F G=>?_;try simp only[av] at G
 apply ag hJ;refine ay hJ fun H=>?_;apply ak hJ;revert h;refine bS fun I K h=>?_;simp only[*,go_sem];refine aA fun c m n=>?_;have q:=aR.cons n H;try simp only[av] at n
 obtain ⟨l,s,u⟩:=gj (b:=c) (o:=(.cells #[.func (.func 115) #[.int .i64 a] #[]] 120)) [] ((E,rt 0 0)::(B,bk u0 s1 g i j)::[]) q m (aD.cons F (aD.cons C (aD.nil _)));have w:az (dh) (bU ro c (.cells #[.func (.func 115) #[.int .i64 a] #[]] 120)) (.slice (some ⟨c,0,none⟩) 1 1) [(oM a)]:=(az.one (r:=(dh)) (e:=120) (cs:=#[.func (.func 115) #[.int .i64 a] #[]]) (x:=(oM a)) (own:=[(c,.cells #[.func (.func 115) #[.int .i64 a] #[]] 120)]) m (by simp[lk]) ⟨115,#[.int .i64 a],#[],rfl,⟨by simp only[go_sem],fun X Y L _ _ _ _ _ M N O P h=>by simp only[go_sem];exact HO a L ⟨M,N,O,P⟩ h⟩⟩)
 generalize bU ro c (.cells #[.func (.func 115) #[.int .i64 a] #[]] 120)=Z at w s l u;refine iu hJ u ?_;replace k:=k.mono l;replace f:=f.mono l;simp only[bq] at s;have Q:=aR.tl q;refine b6 hJ _ (lg f u0 k ([(oM a)]) w K) fun v ab ad R S=>?_;obtain ⟨ae,al,ao,ar,rfl,d⟩:=S;simp only[bq] at R;obtain ⟨d41,a0,rfl,a2,a3,-⟩:=id d.e;obtain ⟨d48,a4,rfl,a5,a6,-⟩:=id d.p;obtain ⟨d55,a7,rfl,a8,a9,-⟩:=id d.y;obtain ⟨d62,ba,rfl,bb,bc,-⟩:=id d.t;apply aJ;simp only[*,go_sem];refine aA fun bd bj z=>?_;have bl:=aR.cons z Q;try simp only[av] at z
 refine ag hJ (ah hJ ?_);simp only[*,go_sem];revert h;refine aY hJ (fun T h=>?_) fun T h=>?_
 .cases h;apply ah hJ;simp only[*,go_sem];apply aE;simp only[*,go_sem]
 refine aI hJ (ag hJ ?_);apply ak hJ;revert h;refine bS fun bm U h=>?_;cases h;simp only[*,go_sem];refine bn hJ _ (Ck I.1 (d.mono aL) a U) (aJ ?_);simp only[*,go_sem];apply aE;simp only[*,go_sem]
def xM (u0:aj)(b:aP):Option (Int×au×Int):=
 af (ek u0 ([(eK b)])) fun a=>cond ((a.2 != 0)) (some (0,(⟨0,0⟩:au),a.2)) (af (kq a.1 b) fun c=>some (c.at_,c.high,0))
theorem Il {ro:Addr->Option Value}(k:di ro)(u0:aj){s1 f g i:Value}(j:bQ ro u0 s1 f g i)(a:aP){r:(Int×au×Int)}(h:xM u0 a=some r):aF Tryz.prog 47 #[bv u0 s1 f g i,.agg #[.int .i64 a.back,.int .i64 a.high]] ⟨ro,[]⟩ (fun v _=>v= .tuple #[.int .i64 r.1,r.2.1.v,.int .i64 r.2.2]):=by
 unfold xM at h;have D:=j.oc;simp only[bJ] at D;refine aF.go Tryz.func47 rfl Tryz.ntmps47 Tryz.results47 (by simp) fun main J hJ A a2 hd hs=>?_;have a3:=hs 0;have k1:=hs 1;clear hs;apply ah hJ;simp only[*,go_sem];refine aA fun m E F=>?_;try simp only[av] at F
 refine aA fun n G H=>?_;try simp only[av] at H
 refine aA fun I K L=>?_;try simp only[av] at L
 apply ag hJ;refine ay hJ fun M=>?_;apply ak hJ;revert h;refine bS fun p N h=>?_;simp only[*,go_sem];refine aA fun d q s=>?_;have t:=aR.cons s M;try simp only[av] at s
 obtain ⟨l,u,w⟩:=gj (b:=d) (o:=(.cells #[.func (.func 80) #[.agg #[.int .i64 a.back,.int .i64 a.high]] #[]] 120)) [] ((I,rt 0 0)::(n,.cells #[.int .i64 a.back,.int .i64 a.high] 52)::(m,bk u0 s1 f g i)::[]) t q (aD.cons K (aD.cons G (aD.cons E (aD.nil _))));have y:az (dh) (bU ro d (.cells #[.func (.func 80) #[.agg #[.int .i64 a.back,.int .i64 a.high]] #[]] 120)) (.slice (some ⟨d,0,none⟩) 1 1) [(eK a)]:=(az.one (r:=(dh)) (e:=120) (cs:=#[.func (.func 80) #[.agg #[.int .i64 a.back,.int .i64 a.high]] #[]]) (x:=(eK a)) (own:=[(d,.cells #[.func (.func 80) #[.agg #[.int .i64 a.back,.int .i64 a.high]] #[]] 120)]) q (by simp[lk]) ⟨80,#[.agg #[.int .i64 a.back,.int .i64 a.high]],#[],rfl,⟨by simp only[go_sem],fun a4 a5 O _ _ _ _ _ P Q R S h=>by simp only[go_sem];exact tA a O ⟨P,Q,R,S⟩ h⟩⟩)
 generalize bU ro d (.cells #[.func (.func 80) #[.agg #[.int .i64 a.back,.int .i64 a.high]] #[]] 120)=a6 at y u l w;refine iu hJ w ?_;replace j:=j.mono l;replace k:=k.mono l;simp only[bq] at u;have T:=aR.tl t;refine b6 hJ _ (lg k u0 j ([(eK a)]) y N) fun v U a7 V W=>?_;obtain ⟨X,Y,Z,ab,rfl,z⟩:=W;have ad:=z.oc;simp only[bJ] at ad;simp only[bq] at V;apply aJ;simp only[*,go_sem];refine aA fun ae a8 B=>?_;have al:=aR.cons B T;try simp only[av] at B
 refine ag hJ (ah hJ ?_);simp only[*,go_sem];revert h;refine aY hJ (fun ao h=>?_) fun ao h=>?_
 .cases h;apply ah hJ;simp only[*,go_sem];apply aE;simp only[*,go_sem]
 refine aI hJ (ag hJ ?_);apply ak hJ;revert h;refine bS fun c ar h=>?_;cases h;simp only[*,go_sem];refine bn hJ _ (tK p.1 (z.mono aL) a ar) (aJ ?_);simp only[*,go_sem];refine aA fun a0 a9 C=>?_;have ba:=aR.cons C al;try simp only[av] at C
 apply ag hJ;refine fE hJ mixed 5 ⟨U,[(a0,.cells #[.int .i64 c.spot.aM,.int .i64 c.spot.high.num,.int .i64 c.spot.high.den,.int .i64 c.at_,.int .i64 c.high.num,.int .i64 c.high.den] 109),(ae,bl p.1 X Y Z ab),(n,.cells #[.int .i64 a.back,.int .i64 a.high] 52),(m,bk u0 s1 f g i)]⟩ (by simp only[*,go_sem]) (by kernel_rfl) ?_;simp only[*,go_sem];apply aE;simp only[*,go_sem]
def xN (u0:aj)(b:aP):Option (au×Int):=
 af (ek u0 ([(eK b)])) fun a=>cond ((a.2 != 0)) (some ((⟨0,0⟩:au),a.2)) (af (nj a.1 b) fun c=>some (c,0))
theorem Im {ro:Addr->Option Value}(f:di ro)(u0:aj){s1 g i j:Value}(k:bQ ro u0 s1 g i j)(a:aP){r:(au×Int)}(h:xN u0 a=some r):aF Tryz.prog 37 #[bv u0 s1 g i j,.agg #[.int .i64 a.back,.int .i64 a.high]] ⟨ro,[]⟩ (fun v _=>v= .tuple #[r.1.v,.int .i64 r.2]):=by
 unfold xN at h;refine aF.go Tryz.func37 rfl Tryz.ntmps37 Tryz.results37 (by simp) fun main J hJ A Y hd hs=>?_;have Z:=hs 0;have k1:=hs 1;clear hs;apply ah hJ;simp only[*,go_sem];refine aA fun B C D=>?_;try simp only[av] at D
 refine aA fun E F G=>?_;try simp only[av] at G
 refine aA fun H I K=>?_;try simp only[av] at K
 apply ag hJ;refine ay hJ fun L=>?_;apply ak hJ;revert h;refine bS fun M N h=>?_;simp only[*,go_sem];refine aA fun c m n=>?_;have q:=aR.cons n L;try simp only[av] at n
 obtain ⟨l,s,u⟩:=gj (b:=c) (o:=(.cells #[.func (.func 80) #[.agg #[.int .i64 a.back,.int .i64 a.high]] #[]] 120)) [] ((H,rt 0 0)::(E,.cells #[.int .i64 a.back,.int .i64 a.high] 52)::(B,bk u0 s1 g i j)::[]) q m (aD.cons I (aD.cons F (aD.cons C (aD.nil _))));have w:az (dh) (bU ro c (.cells #[.func (.func 80) #[.agg #[.int .i64 a.back,.int .i64 a.high]] #[]] 120)) (.slice (some ⟨c,0,none⟩) 1 1) [(eK a)]:=(az.one (r:=(dh)) (e:=120) (cs:=#[.func (.func 80) #[.agg #[.int .i64 a.back,.int .i64 a.high]] #[]]) (x:=(eK a)) (own:=[(c,.cells #[.func (.func 80) #[.agg #[.int .i64 a.back,.int .i64 a.high]] #[]] 120)]) m (by simp[lk]) ⟨80,#[.agg #[.int .i64 a.back,.int .i64 a.high]],#[],rfl,⟨by simp only[go_sem],fun ab ad O _ _ _ _ _ P Q R S h=>by simp only[go_sem];exact tA a O ⟨P,Q,R,S⟩ h⟩⟩)
 generalize bU ro c (.cells #[.func (.func 80) #[.agg #[.int .i64 a.back,.int .i64 a.high]] #[]] 120)=ae at w s l u;refine iu hJ u ?_;replace k:=k.mono l;replace f:=f.mono l;simp only[bq] at s;have T:=aR.tl q;refine b6 hJ _ (lg f u0 k ([(eK a)]) w N) fun v al ao U V=>?_;obtain ⟨ar,a0,a2,a3,rfl,d⟩:=V;simp only[bq] at U;obtain ⟨d42,a4,rfl,a5,a6,-⟩:=id d.e;obtain ⟨d49,a7,rfl,a8,a9,-⟩:=id d.p;obtain ⟨d56,ba,rfl,bb,bc,-⟩:=id d.y;obtain ⟨d63,bd,rfl,bj,bl,-⟩:=id d.t;apply aJ;simp only[*,go_sem];refine aA fun bm bo z=>?_;have br:=aR.cons z T;try simp only[av] at z
 refine ag hJ (ah hJ ?_);simp only[*,go_sem];revert h;refine aY hJ (fun W h=>?_) fun W h=>?_
 .cases h;apply ah hJ;simp only[*,go_sem];apply aE;simp only[*,go_sem]
 refine aI hJ (ag hJ ?_);apply ak hJ;revert h;refine bS fun bs X h=>?_;cases h;simp only[*,go_sem];refine bn hJ _ (Cj M.1 (d.mono aL) a X) (aJ ?_);simp only[*,go_sem];apply aE;simp only[*,go_sem]
def lp (u0:aj)(c:aP):Option (au×Bool×Int):=
 af (ek u0 ([(eK c)])) fun b=>cond ((b.2 != 0)) (some ((⟨0,0⟩:au),false,b.2)) (af (kr b.1 c) fun a=>cond (((a.length:Int)==0)) (some ((⟨0,0⟩:au),false,0)) (af (bh a 0) fun d=>af (e8 a 1 (a.length:Int)) fun e=>af (iD fG d e) fun f=>some (f.high,true,0)))
theorem xO {ro:Addr->Option Value}(l:di ro)(u0:aj){s1 f g i:Value}(j:bQ ro u0 s1 f g i)(a:aP){r:(au×Bool×Int)}(h:lp u0 a=some r):aF Tryz.prog 19 #[bv u0 s1 f g i,.agg #[.int .i64 a.back,.int .i64 a.high]] ⟨ro,[]⟩ (fun v _=>v= .tuple #[r.1.v,.bool r.2.1,.int .i64 r.2.2]):=by
 unfold lp at h;have N:=j.oc;simp only[bJ] at N;refine aF.go Tryz.func19 rfl Tryz.ntmps19 Tryz.results19 (by simp) fun main J hJ A cy hd hs=>?_;have cS:=hs 0;have k1:=hs 1;clear hs;apply ah hJ;simp only[*,go_sem];refine aA fun s O P=>?_;try simp only[av] at P
 refine aA fun t Q R=>?_;try simp only[av] at R
 refine aA fun S T U=>?_;try simp only[av] at U
 apply ag hJ;refine ay hJ fun V=>?_;apply ak hJ;revert h;refine bS fun u W h=>?_;simp only[*,go_sem];refine aA fun d w y=>?_;have z:=aR.cons y V;try simp only[av] at y
 obtain ⟨m,B,C⟩:=gj (b:=d) (o:=(.cells #[.func (.func 80) #[.agg #[.int .i64 a.back,.int .i64 a.high]] #[]] 120)) [] ((S,rt 0 0)::(t,.cells #[.int .i64 a.back,.int .i64 a.high] 52)::(s,bk u0 s1 f g i)::[]) z w (aD.cons T (aD.cons Q (aD.cons O (aD.nil _))));have D:az (dh) (bU ro d (.cells #[.func (.func 80) #[.agg #[.int .i64 a.back,.int .i64 a.high]] #[]] 120)) (.slice (some ⟨d,0,none⟩) 1 1) [(eK a)]:=(az.one (r:=(dh)) (e:=120) (cs:=#[.func (.func 80) #[.agg #[.int .i64 a.back,.int .i64 a.high]] #[]]) (x:=(eK a)) (own:=[(d,.cells #[.func (.func 80) #[.agg #[.int .i64 a.back,.int .i64 a.high]] #[]] 120)]) w (by simp[lk]) ⟨80,#[.agg #[.int .i64 a.back,.int .i64 a.high]],#[],rfl,⟨by simp only[go_sem],fun X Y n _ _ _ _ _ Z ab ad ae h=>by simp only[go_sem];exact tA a n ⟨Z,ab,ad,ae⟩ h⟩⟩)
 generalize bU ro d (.cells #[.func (.func 80) #[.agg #[.int .i64 a.back,.int .i64 a.high]] #[]] 120)=c0 at D B m C;refine iu hJ C ?_;replace j:=j.mono m;replace l:=l.mono m;simp only[bq] at B;have al:=aR.tl z;refine b6 hJ _ (lg l u0 j ([(eK a)]) D W) fun v da db ao p=>?_;obtain ⟨ar,a0,a2,a3,rfl,E⟩:=p;have a4:=E.oc;simp only[bJ] at a4;simp only[bq] at ao;apply aJ;simp only[*,go_sem];refine aA fun a5 dd G=>?_;have df:=aR.cons G al;try simp only[av] at G
 refine ag hJ (ah hJ ?_);simp only[*,go_sem];revert h;refine aY hJ (fun a6 h=>?_) fun a6 h=>?_
 .cases h;apply ah hJ;simp only[*,go_sem];apply aE;simp only[*,go_sem]
 refine aI hJ (ag hJ ?_);apply ak hJ;revert h;refine bS fun k a7 h=>?_;simp only[*,go_sem];refine b6 hJ _ (xF u.1 E a a7) fun v a8 dk a9 p=>?_;obtain ⟨dp,rfl,q⟩:=p;simp only[bq] at a9;obtain ⟨d84,ba,rfl,dq,ds,-⟩:=id q;apply aJ;simp only[*,go_sem];refine ag hJ (ah hJ ?_);simp only[*,go_sem];revert h;refine aY hJ (fun bb h=>?_) fun bb h=>?_
 .cases h;apply ah hJ;simp only[*,go_sem];apply aE;simp only[*,go_sem]
 refine aI hJ (ag hJ ?_);refine fE hJ mixed 7 ⟨a8,[(a5,bl u.1 ar a0 a2 a3),(t,.cells #[.int .i64 a.back,.int .i64 a.high] 52),(s,bk u0 s1 f g i)]⟩ (by simp only[*,go_sem]) (by kernel_rfl) ?_;revert h;refine bS fun H bc h=>?_;obtain ⟨dt,du,I⟩:=c5 bc;obtain ⟨dv,bd,bj,bm,c⟩:=q.el _ _ I;obtain rfl:bd=H.cells:=bm;cases bj;have bo:=c 0 _ rfl;simp only[go_sem] at bo;have br:=c 1 _ rfl;simp only[go_sem] at br;have bs:=c 2 _ rfl;simp only[go_sem] at bs;have bz:=c 3 _ rfl;simp only[go_sem] at bz;have b0:=c 4 _ rfl;simp only[go_sem] at b0;have b1:=c 5 _ rfl;simp only[go_sem] at b1;clear c I;revert h;refine bS fun b2 b3 h=>?_;obtain ⟨dC,dE,dT,K⟩:=qF b3;have L:(1:Int).toNat<=((k.length:Int)).toNat:=by omega
 have b4:((k.length:Int)).toNat<=ba:=by omega
 have ea:0<=((k.length:Int)):=by omega
 obtain ⟨d94,b5,ca,M⟩:=az.qI q (1:Int).toNat ((k.length:Int)).toNat L (by omega) K;simp only[go_sem] at b5 ca L b4;obtain ⟨_,_,cb,eb,ec,ed⟩:=id M;cases cb;clear K;revert h;refine bS fun eh cd h=>?_;cases h;simp only[*,go_sem];refine ⟨_,bI hJ fun F cf=>tD (dY:=59) (eC:=#[]) (eD:=#[]) fG ⟨by simp only[go_sem],fun X Y n cl _ h=>by simp only[go_sem];exact tw n cl h⟩ H b2 (M.mono (cp cf)) cd,ck ?_⟩;simp only[*,go_sem];apply aE;simp only[*,go_sem]
def uf (u0:aj)(b:aP):Option (au×Bool×Int):=
 af (ek u0 ([(eK b)])) fun a=>cond ((a.2 != 0)) (some ((⟨0,0⟩:au),false,a.2)) (af (lf a.1 b) fun c=>af (gq a.1 b) fun d=>some (c,d,0))
theorem Cp {ro:Addr->Option Value}(j:di ro)(u0:aj){s1 d f g:Value}(i:bQ ro u0 s1 d f g)(a:aP){r:(au×Bool×Int)}(h:uf u0 a=some r):aF Tryz.prog 41 #[bv u0 s1 d f g,.agg #[.int .i64 a.back,.int .i64 a.high]] ⟨ro,[]⟩ (fun v _=>v= .tuple #[r.1.v,.bool r.2.1,.int .i64 r.2.2]):=by
 unfold uf at h;have C:=i.oc;simp only[bJ] at C;refine aF.go Tryz.func41 rfl Tryz.ntmps41 Tryz.results41 (by simp) fun main J hJ A a0 hd hs=>?_;have a2:=hs 0;have k1:=hs 1;clear hs;apply ah hJ;simp only[*,go_sem];refine aA fun p D E=>?_;try simp only[av] at E
 refine aA fun q G H=>?_;try simp only[av] at H
 refine aA fun I K L=>?_;try simp only[av] at L
 apply ag hJ;refine ay hJ fun M=>?_;apply ak hJ;revert h;refine bS fun k N h=>?_;simp only[*,go_sem];refine aA fun c s t=>?_;have u:=aR.cons t M;try simp only[av] at t
 obtain ⟨l,w,y⟩:=gj (b:=c) (o:=(.cells #[.func (.func 80) #[.agg #[.int .i64 a.back,.int .i64 a.high]] #[]] 120)) [] ((I,rt 0 0)::(q,.cells #[.int .i64 a.back,.int .i64 a.high] 52)::(p,bk u0 s1 d f g)::[]) u s (aD.cons K (aD.cons G (aD.cons D (aD.nil _))));have z:az (dh) (bU ro c (.cells #[.func (.func 80) #[.agg #[.int .i64 a.back,.int .i64 a.high]] #[]] 120)) (.slice (some ⟨c,0,none⟩) 1 1) [(eK a)]:=(az.one (r:=(dh)) (e:=120) (cs:=#[.func (.func 80) #[.agg #[.int .i64 a.back,.int .i64 a.high]] #[]]) (x:=(eK a)) (own:=[(c,.cells #[.func (.func 80) #[.agg #[.int .i64 a.back,.int .i64 a.high]] #[]] 120)]) s (by simp[lk]) ⟨80,#[.agg #[.int .i64 a.back,.int .i64 a.high]],#[],rfl,⟨by simp only[go_sem],fun a3 a4 O _ _ _ _ _ P Q R S h=>by simp only[go_sem];exact tA a O ⟨P,Q,R,S⟩ h⟩⟩)
 generalize bU ro c (.cells #[.func (.func 80) #[.agg #[.int .i64 a.back,.int .i64 a.high]] #[]] 120)=a5 at z w l y;refine iu hJ y ?_;replace i:=i.mono l;replace j:=j.mono l;simp only[bq] at w;have T:=aR.tl u;refine b6 hJ _ (lg j u0 i ([(eK a)]) z N) fun v U a6 V W=>?_;obtain ⟨X,Y,Z,ab,rfl,m⟩:=W;have ad:=m.oc;simp only[bJ] at ad;simp only[bq] at V;apply aJ;simp only[*,go_sem];refine aA fun ae a7 B=>?_;have a8:=aR.cons B T;try simp only[av] at B
 refine ag hJ (ah hJ ?_);simp only[*,go_sem];revert h;refine aY hJ (fun al h=>?_) fun al h=>?_
 .cases h;apply ah hJ;simp only[*,go_sem];apply aE;simp only[*,go_sem]
 refine aI hJ (ag hJ ?_);refine fE hJ mixed 6 ⟨U,[(ae,bl k.1 X Y Z ab),(q,.cells #[.int .i64 a.back,.int .i64 a.high] 52),(p,bk u0 s1 d f g)]⟩ (by simp only[*,go_sem]) (by kernel_rfl) ?_;revert h;refine bS fun a9 ao h=>?_;simp only[*,go_sem];refine ⟨_,bI hJ fun F n=>tL k.1 (m.mono (cp n)) a ao,ck ?_⟩;revert h;refine bS fun ba ar h=>?_;cases h;simp only[*,go_sem];refine ⟨_,bI hJ fun F n=>nt k.1 (m.mono (cp n)) a ar,?_⟩;apply aE;simp only[*,go_sem]
def xP (a:aZ)(st:Bool):Option (Fl Bool Unit):=
 some (.br 1000000000 true)
def oY (u0:aj):Option Bool:=
 af (gJ (xP) (ny u0) false) fun o=>aC o (fun b=>some false) (fun k a=>cond (k==1000000000) (some a) (none)) (fun _=>none)
theorem Cq {ro:Addr->Option Value}(u0:aj){s1 c d g:Value}(k:bQ ro u0 s1 c d g){r:Bool}(h:oY u0=some r):aF Tryz.prog 92 #[bv u0 s1 c d g] ⟨ro,[]⟩ (fun v _=>v= .bool r):=by
 unfold oY at h;refine aF.xB Tryz.func92 rfl Tryz.ntmps92 Tryz.results92 (by simp) fun main J hJ A D hd hs=>?_;have E:=hs 0;clear hs;apply ah hJ;simp only[*,go_sem];refine aA fun n x F=>?_;try simp only[av] at F
 refine aA fun l z G=>?_;try simp only[av] at G
 refine ag hJ (ah hJ ?_);simp only[*,go_sem];revert h;refine bS fun Q H o=>?_;refine xA hJ aZ.v (by simp only[*,go_sem]) (tY u0 k.e k.p k.y k.t) (by kernel_rfl) (by kernel_rfl) (ρ:=Unit) (fun (I:Bool) K=>K=(l,.cells #[.bool I] 4)::(n,bl u0 s1 c d g)::[]) (f:=xP) H ?_ ?_ (by decide) ?_ ?_
 .exact rfl
 .rintro d33 L q M s u R h main J hJ _ rfl;unfold xP at h;try dsimp only at h
  obtain rfl:=sI h;generalize i:m7 _ _ _=m;have S:sz m=6:=by rw[<-i,xz];simp only[*,go_sem]
  have T:m.defers=[]:=by rw[<-i];rfl
  have U:slot m 2= .pointer (some ⟨l,0,none⟩):=by rw[<-i,oJ];simp only[*,go_sem]
  have V:slot m 5= .agg #[.int .i64 u.e0,.int .i64 u.e1,.int .i64 u.e2]:=by rw[<-i,oJ];simp only[*,go_sem]
  clear i D hd E;refine fF hJ fun b a=>?_;replace a:aD ro ((L,.loop q)::(d33,.deferred (some []))::(l,.cells #[.bool s] 4)::(n,bl u0 s1 c d g)::[]):=a;have W:=a.hd;have X:=a.tl.hd;have z:=a.tl.tl.hd;have x:=a.tl.tl.tl.hd;clear a;replace b:=b.nd;simp only[keys,List.map_cons,List.map_nil,List.map_append,List.cons_append,List.nil_append,List.nodup_cons,List.mem_cons,List.mem_append,List.not_mem_nil,or_false,not_or] at b;apply aI hJ;simp only[qS,go_sem];refine ⟨q,by simp only[*,go_sem],M,?_⟩;refine aT hJ (ag hJ ?_);apply ak hJ;simp only[*,go_sem];apply aE;simp only[tq,m4,go_sem];refine ⟨{q with state:=.busy},by simp only[*,go_sem],?_⟩;simp only[*,go_sem];refine ⟨_,Le.sub (List.Sublist.refl _),rfl,rfl⟩
 .rintro N O P _ s rfl b a;replace a:aD ro ((O,.loop P)::(N,.deferred (some []))::(l,.cells #[.bool s] 4)::(n,bl u0 s1 c d g)::[]):=a;have Y:=a.hd;have Z:=a.tl.hd;have z:=a.tl.tl.hd;have x:=a.tl.tl.tl.hd;clear a;replace b:=b.nd;simp only[keys,List.map_cons,List.map_nil,List.map_append,List.cons_append,List.nil_append,List.nodup_cons,List.mem_cons,List.mem_append,List.not_mem_nil,or_false,not_or] at b;refine ⟨fun j=>?_,fun k1 j=>?_⟩
  .subst j;have h:=o;dsimp only[aC] at h;obtain rfl:=sI h;apply ah hJ;simp only[*,go_sem];refine ay hJ fun w=>?_;replace w:=w.nd;(try simp only[keys,List.map_cons,List.map_nil,List.map_append,List.cons_append,List.nil_append,List.nodup_cons,List.mem_cons,List.mem_append,List.not_mem_nil,or_false,not_or] at w);apply aE;simp only[*,go_sem]
  subst j;have h:=o;dsimp only[aC] at h;revert h;refine cS (fun B h=>?_) fun B h=>?_
  .obtain rfl:=sI h;obtain rfl:k1=1000000000:=by simpa using B
   unfold xy;rw[if_pos (show (1000000000:Nat)=tu from rfl)];simp only[*,go_sem]
  cases h
 intro k1 ab j;subst j;have h:=o;dsimp only[aC] at h;revert h;refine cS (fun C h=>?_) fun C h=>?_
 .obtain rfl:k1=1000000000:=by simpa using C
  decide
 cases h
def oZ (a:aZ)(st:(List aZ)):Option (Fl (List aZ) Unit):=
 af (cG st ([a])) fun b=>some (.nx b)
def ug (a:(List (Option aZ))):Option (List aZ):=
 af (gJ (oZ) a ([]:List aZ)) fun o=>aC o (fun b=>some b) (fun k c=>none) (fun _=>none)
theorem Io {ro:Addr->Option Value}(u:(List (Option aZ))){dJ:FuncId}{eu ew:Array Value}(K:m5 Tryz.prog dJ eu ew aZ.v u ro){r:(List aZ)}(h:ug u=some r):eW Tryz.prog 151 #[.slice none 0 0,.func (.func dJ) eu ew] ro (fun v aN=>∃w,v=w/\az iA aN w r):=by
 unfold ug at h;refine aF.xB Tryz.func151 rfl Tryz.ntmps151 Tryz.results151 (by simp) fun main J hJ A L hd hs=>?_;have M:=hs 0;have k1:=hs 1;clear hs;apply ah hJ;simp only[*,go_sem,-h];refine aA fun e r1 n1=>?_;try simp only[av] at n1
 refine ag hJ (ah hJ ?_);simp only[*,go_sem,-h];revert h;refine bS fun ar N o=>?_;have h:=trivial;refine xA hJ aZ.v (by simp only[*,go_sem]) K (by kernel_rfl) (by kernel_rfl) (ρ:=Unit) (fun (m:(List aZ)) O=>∃(d7:Option Addr) (c:Nat) (d:List (Nat×Obj)),O=(e,.cells #[.slice d7 m.length c] 97)::d/\aQ iA ro 138 (.slice d7 m.length c) m d/\m.length<=c) (f:=oZ) N ?_ ?_ (by decide) ?_ ?_
 .exact ⟨none,0,[],rfl,aQ.nil _ _ _,Nat.le_refl _⟩
 .rintro d4 p i P v6 a a0 h main J hJ _ ⟨d7,c,d,rfl,q,Q⟩;unfold oZ at h;try dsimp only at h
  generalize j:m7 _ _ _=n;have a2:sz n=13:=by rw[<-j,xz];simp only[*,go_sem]
  have a3:n.defers=[]:=by rw[<-j];rfl
  have a4:slot n 2= .pointer (some ⟨e,0,none⟩):=by rw[<-j,oJ];simp only[*,go_sem]
  have a5:slot n 7= .agg #[.int .i64 a.e0,.int .i64 a.e1,.int .i64 a.e2]:=by rw[<-j,oJ];simp only[*,go_sem]
  clear j L hd M k1;refine fF hJ fun g b=>?_;replace b:aD ro ((p,.loop i)::(d4,.deferred (some []))::(e,.cells #[.slice d7 v6.length c] 97)::d):=b;have r3:=b.hd;have a6:=b.tl.hd;have r1:=b.tl.tl.hd;clear b;replace g:=g.nd;simp only[keys,List.map_cons,List.map_nil,List.map_append,List.cons_append,List.nil_append,List.nodup_cons,List.mem_cons,List.mem_append,List.not_mem_nil,or_false,not_or] at g;refine ay hJ fun R=>?_;apply ak hJ;simp only[*,go_sem,-h];refine aA fun y a7 z=>?_;have a8:=aR.cons z R;try simp only[av] at z
  simp only[qS,go_sem];refine ⟨i,by simp only[*,go_sem],P,?_⟩;simp only[*,go_sem,-h];apply aT hJ;refine ay hJ fun S=>?_;apply ak hJ;revert h;refine bS fun a9 T h=>?_;obtain ⟨U,B⟩:=dr T;simp only[*,go_sem,-h];refine aA fun C V D=>?_;have W:=aR.cons D S;try simp only[av] at D
  refine dW (r:=iA) (l:=v6) (x:=a) (cs:=#[.int .i64 a.e0,.int .i64 a.e1,.int .i64 a.e2]) (e2:=138) [(C,.cells #[.int .i64 a.e0,.int .i64 a.e1,.int .i64 a.e2] 138),(y,.cells #[.int .i64 a.e0,.int .i64 a.e1,.int .i64 a.e2] 138),(p,.loop {i with state:=.busy}),(d4,.deferred (some [])),(e,.cells #[.slice d7 v6.length c] 97)] [] q W U rfl (by simp only[*,go_sem,-h]) V rfl rfl Bz Bz GD GG rfl GF (by decide) (by decide) (fun ba E s d X bb=>?_);simp only[aV] at X;subst d;rw[<-B] at s;clear B;obtain ⟨d28,Y,rfl,Z⟩:=s.len;refine ⟨⟨ro,(C,.cells #[.int .i64 a.e0,.int .i64 a.e1,.int .i64 a.e2] 138)::(y,.cells #[.int .i64 a.e0,.int .i64 a.e1,.int .i64 a.e2] 138)::(p,.loop {i with state:=.busy})::(d4,.deferred (some []))::(e,.cells #[.slice d7 v6.length c] 97)::E⟩,Le.refl _,?_⟩;apply aJ;simp only[*,go_sem,-h];obtain rfl:=sI h;simp only[tq,m4,go_sem];refine ⟨{i with state:=.busy},by simp only[*,go_sem],?_⟩;simp only[*,go_sem];refine ⟨_,Le.sub (List.Sublist.cons _ (List.Sublist.cons _ (List.Sublist.refl _))),rfl,d28,Y,E,rfl,s,Z⟩
 .rintro d49 F G _ v6 ⟨d7,c,d,rfl,q,Q⟩ g b;replace b:aD ro ((F,.loop G)::(d49,.deferred (some []))::(e,.cells #[.slice d7 v6.length c] 97)::d):=b;have ab:=b.hd;have ad:=b.tl.hd;have r1:=b.tl.tl.hd;clear b;replace g:=g.nd;simp only[keys,List.map_cons,List.map_nil,List.map_append,List.cons_append,List.nil_append,List.nodup_cons,List.mem_cons,List.mem_append,List.not_mem_nil,or_false,not_or] at g;refine ⟨fun k=>?_,fun k1 k=>?_⟩
  .subst k;have h:=o;dsimp only[aC] at h;apply ag hJ;refine ay hJ fun bc=>?_;apply ak hJ;simp only[*,go_sem,-h];obtain rfl:=sI h;refine ay hJ fun H=>?_;obtain ⟨bd,ae,al,I,ao⟩:=q.eR [(F,.loop G),(d49,.deferred (some [])),(e,.cells #[.slice d7 v6.length c] 97)] [] H (aD.cons ab (aD.cons ad (aD.cons r1 (aD.nil _))));clear H;refine cz hJ ao ?_;obtain ⟨bj,bk,-⟩:=I.op;simp only[bq] at al;refine ay hJ fun t=>?_;replace t:=t.nd;(try simp only[keys,List.map_cons,List.map_nil,List.map_append,List.cons_append,List.nil_append,List.nodup_cons,List.mem_cons,List.mem_append,List.not_mem_nil,or_false,not_or] at t);apply aE;simp only[*,go_sem];exact ⟨_,ae,Le.sub (List.nil_sublist _),_,rfl,I⟩
  subst k;have h:=o;dsimp only[aC] at h;cases h
 intro k1 bl k;subst k;have h:=o;dsimp only[aC] at h;cases h
def rq (u0:(List (Option aZ))):Option (List aZ):=
 af (ug u0) fun a=>some a
theorem Cr {ro:Addr->Option Value}(u0:(List (Option aZ))){dY:FuncId}{eC eD:Array Value}(c:m5 Tryz.prog dY eC eD aZ.v u0 ro){r:(List aZ)}(h:rq u0=some r):eW Tryz.prog 122 #[.func (.func dY) eC eD] ro (fun v aN=>∃a,v=a/\az iA aN a r):=by
 unfold rq at h;refine aF.go Tryz.func122 rfl Tryz.ntmps122 Tryz.results122 (by simp) fun main J hJ A g hd hs=>?_;have i:=hs 0;clear hs;apply ah hJ;simp only[*,go_sem];apply ah hJ;revert h;refine bS fun j d h=>?_;obtain rfl:=sI h;simp only[*,go_sem];refine b6 hJ _ (Io (dJ:=dY) (eu:=eC) (ew:=eD) u0 c d) fun v k e l f=>?_;obtain ⟨m,rfl,b⟩:=f;obtain ⟨d8,n,rfl,o,p,-⟩:=id b;apply aJ;simp only[*,go_sem];apply aE;simp only[*,go_sem];exact ⟨_,e,Le.sub (List.nil_sublist _),_,rfl,b⟩
def gr (u0:aj)(c:(List (aj->Option Int))):Option (cV×Int):=
 af (ek u0 c) fun a=>cond ((a.2 != 0)) (some ((⟨(⟨0,0,(⟨0,0⟩:au),([]:(List bY)),([]:(List bL)),([]:(List bO)),([]:(List bA))⟩:aj),([]:(List aZ))⟩:cV),a.2)) (af (rq (ny a.1)) fun b=>cond (((b.length:Int)==0)) (some ((⟨(⟨0,0,(⟨0,0⟩:au),([]:(List bY)),([]:(List bL)),([]:(List bO)),([]:(List bA))⟩:aj),([]:(List aZ))⟩:cV),9)) (some ((⟨a.1,b⟩:cV),0)))
theorem ku {ro:Addr->Option Value}(N:di ro)(u0:aj){s1 c d f:Value}(G:bQ ro u0 s1 c d f)(B:(List (aj->Option Int))){H:Value}(I:az (dh) ro H B){r:(cV×Int)}(h:gr u0 B=some r):eW Tryz.prog 55 #[bv u0 s1 c d f,H] ro (fun v aN=>∃K w1 w2 w3 w4,v= .tuple #[.agg #[.int .i64 r.1.book.bB,.int .i64 r.1.book.bH,.int .i64 r.1.book.aO.num,.int .i64 r.1.book.aO.den,K,w1,w2,w3,w4],.int .i64 r.2]/\bQ aN r.1.book K w1 w2 w3/\az iA aN w4 r.1.all):=by
 obtain ⟨d31,ae,rfl,al,ao,-⟩:=id I;unfold gr at h;have O:=G.oc;simp only[bJ] at O;refine aF.go Tryz.func55 rfl Tryz.ntmps55 Tryz.results55 (by simp) fun main J hJ A ar hd hs=>?_;have a0:=hs 0;have k1:=hs 1;clear hs;apply ah hJ;simp only[*,go_sem];refine aA fun C g P=>?_;try simp only[av] at P
 refine aA fun D i Q=>?_;try simp only[av] at Q
 apply ah hJ;revert h;refine bS fun b R h=>?_;simp only[*,go_sem];refine b6 hJ _ (lg N u0 G B I R) fun v S j E k=>?_;obtain ⟨m,n,o,q,rfl,a⟩:=k;have T:=a.oc;simp only[bJ] at T;replace i:=E.hd;replace g:=E.tl.hd;simp only[bq] at E;apply aJ;simp only[*,go_sem];refine aA fun F s U=>?_;try simp only[av] at U
 refine ag hJ (ah hJ ?_);simp only[*,go_sem];revert h;refine aY hJ (fun V h=>?_) fun V h=>?_
 .obtain rfl:=sI h;apply ah hJ;simp only[*,go_sem];apply aE;simp only[*,go_sem];exact ⟨_,j,Le.sub (List.nil_sublist _),_,_,_,_,_,rfl,⟨az.nil _ _,az.nil _ _,az.nil _ _,az.nil _ _⟩,az.nil _ _⟩
 refine aI hJ (ag hJ ?_);refine eI hJ mixed [] (.rd 0 (.rd 1 (.pure 2 (.two 3 (.pure 4 (.one 5 (.one 6 .done))) 5 (.one 3 (.pure 4 (.one 6 .done))))))) ⟨S,[(F,bl b.1 m n o q),(D,.cells #[.int .i64 0,.int .i64 0,.int .i64 0,.int .i64 0,.slice none 0 0,.slice none 0 0,.slice none 0 0,.slice none 0 0,.slice none 0 0] 99),(C,bk u0 s1 c d f)]⟩ (by simp only[*,go_sem]) (by kernel_rfl) ?_;simp only[*,go_sem];refine k4 ?_ ?_
 .revert h;refine bS fun a2 W h=>?_;simp only[*,go_sem];refine b6 hJ _ (Cr (dY:=82) (eC:=#[bv b.1 m n o q]) (eD:=#[]) (ny b.1) (tY b.1 a.e a.p a.y a.t) W) fun v a3 u w k=>?_;obtain ⟨a4,rfl,L⟩:=k;replace a:=a.mono u;replace s:=w.hd;replace i:=w.tl.hd;replace g:=w.tl.tl.hd;simp only[bq] at w;obtain ⟨d80,a5,rfl,a6,a7,-⟩:=id L;have a8:=e9 (l:=[(F,bl b.1 m n o q),(D,.cells #[.int .i64 0,.int .i64 0,.int .i64 0,.int .i64 0,.slice none 0 0,.slice none 0 0,.slice none 0 0,.slice none 0 0,.slice none 0 0] 99),(C,bk u0 s1 c d f)]) u (aD.cons s (aD.cons i (aD.cons g (aD.nil _))));refine ⟨by simp only[*,go_sem],?_⟩;refine bV ?_;simp only[*,go_sem];refine aA fun a9 ba X=>?_;try simp only[av] at X
  simp only[*,go_sem];refine ag hJ (ah hJ ?_);simp only[*,go_sem];revert h;refine aY hJ (fun Y h=>?_) fun Y h=>?_
  .obtain rfl:=sI h;apply ah hJ;simp only[*,go_sem];apply aE;simp only[*,go_sem];exact ⟨_,(j).trans u,Le.sub (List.nil_sublist _),_,_,_,_,_,rfl,⟨az.nil _ _,az.nil _ _,az.nil _ _,az.nil _ _⟩,az.nil _ _⟩
  obtain rfl:=sI h;refine aI hJ (ag hJ ?_);apply ak hJ;simp only[*,go_sem];apply aE;simp only[*,go_sem];exact ⟨_,(j).trans u,Le.sub (List.nil_sublist _),_,_,_,_,_,rfl,a,L⟩
 revert h;refine bS fun bb Z h=>?_;simp only[*,go_sem];refine aA fun bc bd ab=>?_;try simp only[av] at ab
 simp only[*,go_sem];refine b6 hJ _ (Cr (dY:=82) (eC:=#[bv b.1 m n o q]) (eD:=#[]) (ny b.1) (tY b.1 a.e a.p a.y a.t) Z) fun v bj x z k=>?_;obtain ⟨bm,rfl,M⟩:=k;replace a:=a.mono x;replace s:=z.tl.hd;replace i:=z.tl.tl.hd;replace g:=z.tl.tl.tl.hd;simp only[bq] at z;obtain ⟨d96,bo,rfl,br,bs,-⟩:=id M;have bz:=e9 (l:=[(F,bl b.1 m n o q),(D,.cells #[.int .i64 0,.int .i64 0,.int .i64 0,.int .i64 0,.slice none 0 0,.slice none 0 0,.slice none 0 0,.slice none 0 0,.slice none 0 0] 99),(C,bk u0 s1 c d f)]) x (aD.cons s (aD.cons i (aD.cons g (aD.nil _))));refine ⟨by simp only[*,go_sem],?_⟩;refine bV ?_;simp only[*,go_sem];refine ag hJ (ah hJ ?_);simp only[*,go_sem];revert h;refine aY hJ (fun ad h=>?_) fun ad h=>?_
 .obtain rfl:=sI h;apply ah hJ;simp only[*,go_sem];apply aE;simp only[*,go_sem];exact ⟨_,(j).trans x,Le.sub (List.nil_sublist _),_,_,_,_,_,rfl,⟨az.nil _ _,az.nil _ _,az.nil _ _,az.nil _ _⟩,az.nil _ _⟩
 obtain rfl:=sI h;refine aI hJ (ag hJ ?_);apply ak hJ;simp only[*,go_sem];apply aE;simp only[*,go_sem];exact ⟨_,(j).trans x,Le.sub (List.nil_sublist _),_,_,_,_,_,rfl,a,M⟩
def ru (a:Int)(i56:Nat)(b:Int)(st:(List bL)):Option (Fl (List bL) aj):=
 af (cG st ([(⟨b,a⟩:bL)])) fun c=>some (.nx c)
def o3 (u0:aj)(a:Int)(b:(List Int)):Option aj:=
 af (rm u0.props) fun c=>af (bE (ru a) 0 b c) fun o=>aC o (fun d=>some (⟨u0.bB,u0.bH,u0.aO,u0.ax,d,u0.an,u0.told⟩:aj)) (fun _ _=>none) (fun r=>some r)
theorem Ip {ro:Addr->Option Value}(u0:aj){s1 s b c:Value}(g:bQ ro u0 s1 s b c)(i:Int)(d:(List Int)){D:Value}(E:az rI ro D d){r:aj}(h:o3 u0 i d=some r):eW Tryz.prog 131 #[bv u0 s1 s b c,.int .i64 i,D] ro (fun v aN=>∃F w1 w2 w3,v=bv r F w1 w2 w3/\bQ aN r F w1 w2 w3):=by
 obtain ⟨d31,b4,rfl,b5,U,-⟩:=id E;unfold o3 at h;have V:=g.oc;simp only[bJ] at V;refine aF.go Tryz.func131 rfl Tryz.ntmps131 Tryz.results131 (by simp) fun main J hJ A W hd hs=>?_;have X:=hs 0;have k1:=hs 1;have Y:=hs 2;clear hs;apply ah hJ;simp only[*,go_sem];refine aA fun k Z ab=>?_;try simp only[av] at ab
 refine aA fun o ad ae=>?_;try simp only[av] at ae
 apply ag hJ;refine ay hJ fun ca=>?_;apply ak hJ;revert h;refine bS fun al ao h=>?_;simp only[*,go_sem];refine dX hJ (aW:=[]) [(o,bz 96),(k,bl u0 s1 s b c)] [] _ (Cn u0.props g.p ao) (fun cb G H u w cd=>?_);simp only[aV] at w;subst u;obtain ⟨d45,ar,rfl,a0⟩:=H.len;refine ⟨⟨ro,(o,bz 96)::(k,bl u0 s1 s b c)::G⟩,Le.refl _,?_⟩;apply aJ;simp only[*,go_sem];refine ag hJ (ag hJ ?_);refine ay hJ fun cf=>?_;apply ak hJ;simp only[*,go_sem];apply aT hJ;revert h;refine bS fun a2 j a3=>?_;refine bT hJ (rg 17 15 [8]) (fun m a4 F'=>∃(i56:Nat) (d51:Option Addr) (f:Nat) (z:List (Nat×Obj)) (a:(List bL)),m=d.length - i56/\i56<=d.length/\bE (ru i) i56 (d.drop i56) a=some a2/\F'=⟨ro,(o,bz 96)::(k,bl u0 s1 (sl d51 a f) b c)::z⟩/\aQ dI ro 43 (.slice d51 a.length f) a z/\a.length<=f/\slot a4 17= .int .i64 (i56:Int)) d.length ?_ ?_
 .refine ⟨0,d45,ar,G,al,(Nat.sub_zero _).symm,Nat.zero_le _,j,rfl,H,a0,?_⟩;simp only[*,go_sem]
 rintro cl cy F' I ⟨i56,d51,f,z,a,rfl,cS,j,rfl,K,c0,da⟩;obtain ⟨a5,a6,a7⟩:=I.pick [1,3,6,15,16] (by decide);simp only[*,go_sem] at a5 a6 a7;clear I W hd X k1 Y;apply ah hJ;simp only[*,go_sem];apply ag hJ;rcases Nat.lt_or_ge i56 d.length with a8|L
 .refine cw hJ ?_;apply aI hJ;obtain ⟨q,B⟩:∃x,d[i56]?=some x:=⟨_,List.getElem?_eq_getElem a8⟩
  rw[dw B] at j;revert j;refine bS fun db h a9=>?_;unfold ru at h;try dsimp only at h
  obtain ⟨dd,ba,bb,bc,M⟩:=E.el _ _ B;obtain rfl:ba=[.int .i64 q]:=bc;cases bb;have bd:=M 0 _ rfl;simp only[go_sem] at bd;clear M B;refine ag hJ (aT hJ (ag hJ ?_));refine ay hJ fun df=>?_;apply ak hJ;simp only[*,go_sem];refine ay hJ fun bj=>?_;apply ak hJ;revert h;refine bS fun bk bm h=>?_;obtain rfl:=sI h;obtain ⟨bo,N⟩:=dr bm;simp only[*,go_sem];refine aA fun O br P=>?_;have bs:=aR.cons P bj;try simp only[av] at P
  refine dW (r:=dI) (l:=a) (x:=(⟨q,i⟩:bL)) (cs:=#[.int .i64 q,.int .i64 i]) (e2:=43) [(O,.cells #[.int .i64 q,.int .i64 i] 43),(o,bz 96),(k,bl u0 s1 (sl d51 a f) b c)] [] K bs bo rfl (by simp only[*,go_sem]) br rfl rfl j8 j8 qL qN rfl qM (by decide) (by decide) (fun dk Q C u w dp=>?_);simp only[aV] at w;subst u;rw[<-N] at C;clear N;obtain ⟨d74,b0,rfl,b1⟩:=C.len;refine ⟨⟨ro,(O,.cells #[.int .i64 q,.int .i64 i] 43)::(o,bz 96)::(k,bl u0 s1 (sl d51 a f) b c)::Q⟩,Le.refl _,?_⟩;apply aJ;simp only[*,go_sem];have dq:=cv (n:=i56) (by have:=U;omega);apply ak hJ;simp only[*,go_sem];refine ⟨d.length - (i56+1),by omega,_,Le.sub (List.Sublist.cons _ (List.Sublist.refl _)),i56+1,d74,b0,Q,bk,rfl,by omega,a9,rfl,C,b1,?_⟩;simp only[*,go_sem]
 have ds:=Nat.not_lt.2 L;refine cn hJ ?_;rw[List.drop_eq_nil_of_le L] at j;obtain rfl:=sI j;clear j;have h:=a3;dsimp only[aC] at h;obtain rfl:=sI h;apply bR;simp only[go_sem];apply ag hJ;refine ay hJ fun dt=>?_;apply ak hJ;simp only[*,go_sem];refine ay hJ fun R=>?_;obtain ⟨du,S,b2,T,b3⟩:=K.eR [(o,bl u0 s1 (sl d51 a f) b c),(k,bl u0 s1 (sl d51 a f) b c)] [] R (aD.cons ad (aD.cons Z (aD.nil _)));clear R;refine cz hJ b3 ?_;obtain ⟨dv,dC,-⟩:=T.op;replace g:=g.mono S;simp only[bq] at b2;apply aE;simp only[*,go_sem];exact ⟨_,S,Le.sub (List.nil_sublist _),_,_,_,_,rfl,⟨g.e,T,g.y,g.t⟩⟩
def uh (u0:aj)(a:(List Int))(st:((List (List Int))×Int)):Option (Fl ((List (List Int))×Int) (List (List Int))):=
 af (eL u0 st.2) fun b=>cond (b) (af (oW a) fun c=>af (cG c ([st.2])) fun d=>af (cG st.1 ([d])) fun e=>some (.nx (e,(IntKind.i64.wrap (st.2+1))))) (some (.bk (st.1,st.2)))
def uj (u0:aj)(a:(List Int))(st:((List (List Int))×Int)):Option (Fl ((List (List Int))×Int) (List (List Int))):=
 af (eL u0 st.2) fun b=>cond (b) (af (oW a) fun c=>af (cG c ([st.2])) fun d=>af (cG st.1 ([d])) fun e=>some (.nx (e,(IntKind.i64.wrap (st.2+1))))) (some (.bk (st.1,st.2)))
def o5 (u0:aj)(i47:Nat)(a:(List Int))(st:(List (List Int))):Option (Fl (List (List Int)) (List (List Int))):=
 af (bh u0.ax 0) fun b=>cond (decide (0<(a.length:Int))) (af (bh a (IntKind.i64.wrap ((a.length:Int) - 1))) fun c=>af (aU (uh u0 a) fu (st,(IntKind.i64.wrap (c+1)))) fun o=>aC o (fun d=>some (.nx d.1)) (fun _ _=>none) (fun r=>some (.rt r))) (af (aU (uj u0 a) fu (st,b.aM)) fun o=>aC o (fun e=>some (.nx e.1)) (fun _ _=>none) (fun r=>some (.rt r)))
def o6 (u0:aj)(a:(List (List Int))):Option (List (List Int)):=
 af (bE (o5 u0) 0 a ([]:List (List Int))) fun o=>aC o (fun b=>some b) (fun _ _=>none) (fun r=>some r)
theorem Cs {ro:Addr->Option Value}(u0:aj){s1 a b c:Value}(j:bQ ro u0 s1 a b c)(s:(List (List Int))){bo:Value}(Q:az (rL rI) ro bo s){r:(List (List Int))}(h:o6 u0 s=some r):eW Tryz.prog 74 #[bv u0 s1 a b c,bo] ro (fun v aN=>∃br,v=br/\az (rL rI) aN br r):=by
 obtain ⟨d3,c4,rfl,h4,h5,-⟩:=id j.e;obtain ⟨d31,h6,rfl,h7,bs,-⟩:=id Q;unfold o6 at h;refine aF.go Tryz.func74 rfl Tryz.ntmps74 Tryz.results74 (by simp) fun main J hJ A fa hd hs=>?_;have fb:=hs 0;have k1:=hs 1;clear hs;apply ah hJ;simp only[*,go_sem];refine aA fun d u ff=>?_;try simp only[av] at ff
 apply ah hJ;simp only[*,go_sem];refine ag hJ (ah hJ ?_);simp only[*,go_sem];apply aT hJ;revert h;refine bS fun fg F fi=>?_;refine bT hJ (rg 12 35 [5,7,8,9]) (fun m w F'=>∃(i47:Nat) (y:Addr->Option Value) (d38:Option Addr) (G:Nat) (K:List (Nat×Obj)) (z:(List (List Int))),m=s.length - i47/\i47<=s.length/\bE (o5 u0) i47 (s.drop i47) z=some fg/\F'=⟨y,(d,bl u0 (sl d3 u0.ax c4) a b c)::K⟩/\Ext ro y/\aQ (rL rI) y 35 (.slice d38 z.length G) z K/\z.length<=G/\slot w 12= .int .i64 (i47:Int)/\slot w 5= .slice d38 z.length G) s.length ?_ ?_
 .refine ⟨0,ro,none,0,[],([]:List (List Int)),(Nat.sub_zero _).symm,Nat.zero_le _,F,rfl,Ext.refl _,aQ.nil _ _ _,Nat.le_refl _,?_⟩;simp only[*,go_sem]
 rintro h8 bz F' b0 ⟨i47,y,d38,G,K,z,rfl,h9,F,rfl,L,Z,b1,b2,b3⟩;refine fF hJ fun _ b4=>?_;replace Q:=Q.mono L;replace j:=j.mono L;replace u:=b4.hd;simp only[bq] at b4;obtain ⟨ab,ad,ae⟩:=b0.pick [2,4,10,11] (by decide);simp only[*,go_sem] at ab ad ae;clear b0 fa hd fb k1;apply ah hJ;simp only[*,go_sem];apply ag hJ;rcases Nat.lt_or_ge i47 s.length with fl|b5
 .refine cw hJ ?_;apply aI hJ;obtain ⟨R,al⟩:∃x,s[i47]?=some x:=⟨_,List.getElem?_eq_getElem fl⟩
  rw[dw al] at F;revert F;refine bS fun ib h ca=>?_;unfold o5 at h;try dsimp only at h
  obtain ⟨ih,ik,fp,fq,cb⟩:=Q.el _ _ al;obtain ⟨il,rfl,t⟩:=fq;obtain ⟨d56,im,rfl,iv,ix,jC⟩:=id t;cases fp;have fr:=cb 0 _ rfl;simp only[go_sem] at fr;clear cb al;refine ag hJ (aT hJ (ag hJ ?_));refine ay hJ fun j1=>?_;apply ak hJ;simp only[*,go_sem];apply ag hJ;refine ay hJ fun j2=>?_;apply ak hJ;revert h;refine bS fun cd fs h=>?_;obtain ⟨kh,kj,cf⟩:=c5 fs;obtain ⟨f,ft,fv,fw,ao⟩:=j.e.el _ _ cf;obtain rfl:ft=cd.cells:=fw;cases fv;have fx:=ao 0 _ rfl;simp only[go_sem] at fx;have fz:=ao 1 _ rfl;simp only[go_sem] at fz;clear ao cf;simp only[*,go_sem];refine ag hJ (ag hJ ?_);refine ay hJ fun kk=>?_;apply ak hJ;simp only[*,go_sem];revert h;refine aY hJ (fun fP h=>?_) fun fP h=>?_
  .refine ay hJ fun kl=>?_;apply ak hJ;revert h;refine bS fun cl fQ h=>?_;obtain ⟨km,kn,cy⟩:=c5 fQ;obtain ⟨kp,fS,fU,gg,cS⟩:=t.el _ _ cy;obtain rfl:fS=[.int .i64 cl]:=gg;cases fU;have gl:=cS 0 _ rfl;simp only[go_sem] at gl;clear cS cy;simp only[*,go_sem];apply ag hJ;refine ay hJ fun ks=>?_;apply ak hJ;simp only[*,go_sem];apply aT hJ;revert h;refine bS fun gn S gp=>?_;refine bT hJ (rg 33 13 [5,9]) (fun m w F'=>∃(H:Addr->Option Value) (d75:Option Addr) (M:Nat) (k:List (Nat×Obj)) (B:(List (List Int))) (g:Int),aU (uh u0 R) m (B,g)=some gn/\F'=⟨H,(d,bl u0 (sl (some f) u0.ax c4) a b c)::k⟩/\Ext y H/\aQ (rL rI) H 35 (.slice d75 B.length M) B k/\B.length<=M/\slot w 5= .slice d75 B.length M/\slot w 9= .int .i64 g) fu ?_ ?_
   .refine ⟨y,d38,G,K,z,(IntKind.i64.wrap (cl+1)),S,rfl,Ext.refl _,Z,b1,?_⟩;simp only[*,go_sem]
   rintro ar gB F' a0 ⟨H,d75,M,k,B,g,S,rfl,T,N,gC,kt,kv⟩;refine fF hJ fun _ c0=>?_;replace t:=t.mono T;replace j:=j.mono T;replace u:=c0.hd;simp only[bq] at c0;obtain ⟨gM,gT,gV⟩:=a0.pick [2,4,7,8,10,11,12,13,15,16,17,18,21,22,23,24,25,26,27,28,30,31,32] (by decide);simp only[*,go_sem] at gM gT gV;have kx:cL (rg 12 35 [5,7,8,9]) gB bz:=(a0.gG (by decide)).trans (by simp only[*,go_sem]);clear a0 ab ad ae b3 b2;obtain _|ar:=ar
   .exact absurd S (by simp only[aU,reduceCtorEq,not_false_eq_true])
   revert S;refine bS fun ky h a2=>?_;unfold uh at h;(try dsimp only at h);refine ag hJ (ag hJ ?_);refine ay hJ fun k0=>?_;apply ak hJ;revert h;refine bS fun k2 g0 h=>?_;simp only[*,go_sem];refine bn hJ _ (tB u0 (j.mono aL) g g0) ?_;revert h;refine aY hJ (fun g1 h=>?_) fun g1 h=>?_
   .refine aI hJ (ag hJ ?_);apply aT hJ;refine ay hJ fun lb=>?_;apply ak hJ;revert h;refine bS fun g2 g3 h=>?_;simp only[*,go_sem];refine dX hJ (aW:=[]) [(d,bl u0 (sl (some f) u0.ax c4) a b c)] k _ (Co R t g3) (fun lh g4 da p q ha=>?_);simp only[aV] at q;subst p;obtain ⟨d133,lj,rfl,lk⟩:=da.len;refine ⟨⟨H,(d,bl u0 (sl (some f) u0.ax c4) a b c)::(g4++k)⟩,Le.refl _,?_⟩;apply aJ;revert h;refine bS fun U hc h=>?_;obtain ⟨hf,db⟩:=dr hc;simp only[*,go_sem];refine aA fun C dd df=>?_;have hg:=aR.cons df ha;try simp only[av] at df
    refine dW (r:=rI) (l:=g2) (x:=g) (cs:=#[.int .i64 g]) (e2:=3) [(C,ic g),(d,bl u0 (sl (some f) u0.ax c4) a b c)] k da hg hf rfl (by simp only[*,go_sem]) dd rfl rfl gh gh lV lX rfl lW (by decide) (by decide) (fun ll dk a3 p q dp=>?_);simp only[aV] at q;subst p;rw[<-db] at a3;clear db;obtain ⟨d145,a4,rfl,ln⟩:=a3.len;obtain ⟨a5,V,a6,dq,hh⟩:=a3.eR [(C,ic g),(d,bl u0 (sl (some f) u0.ax c4) a b c)] k dp (aD.cons dd (aD.cons u (N.j9)));have hi:=aR.sub (l:=(C,ic g)::(d,bl u0 (sl (some f) u0.ax c4) a b c)::k) (l':=(C,ic g)::(d,bl u0 (sl (some f) u0.ax c4) a b c)::(dk++k)) [(C,ic g),(d,bl u0 (sl (some f) u0.ax c4) a b c)] dk k (by first|rfl|simp only[aV]|(simp only[aV];rfl)) (by first|rfl|simp only[aV]|(simp only[aV];rfl)) dp;refine ⟨⟨a5,(C,ic g)::(d,bl u0 (sl (some f) u0.ax c4) a b c)::k⟩,hh,?_⟩;obtain ⟨lo,lr,-⟩:=dq.op;replace t:=t.mono V;replace j:=j.mono V;replace u:=a6.tl.hd;replace N:=N.mono V a6.tl.tl;simp only[bq] at a6;apply aJ;revert h;refine bS fun hj hk h=>?_;obtain rfl:=sI h;obtain ⟨hl,ds⟩:=dr hk;simp only[*,go_sem];refine aA fun dt hn du=>?_;have ho:=aR.cons du hi;try simp only[av] at du
    refine dW (r:=(rL rI)) (l:=B) (x:=U) (cs:=#[.slice d145 U.length a4]) (e2:=35) [(dt,.cells #[.slice d145 U.length a4] 35),(C,ic g),(d,bl u0 (sl (some f) u0.ax c4) a b c)] [] N ho hl ⟨_,rfl,dq⟩ (by simp only[*,go_sem]) hn rfl rfl lY lY tc tf rfl td (by decide) (by decide) (fun lv dv a7 p q lx=>?_);simp only[aV] at q;subst p;rw[<-ds] at a7;clear ds;obtain ⟨d165,hp,rfl,hq⟩:=a7.len;refine ⟨⟨a5,(dt,.cells #[.slice d145 U.length a4] 35)::(C,ic g)::(d,bl u0 (sl (some f) u0.ax c4) a b c)::dv⟩,Le.refl _,?_⟩;apply aJ;simp only[*,go_sem];refine ay hJ fun ly=>?_;apply ak hJ;simp only[*,go_sem];refine ⟨ar,Nat.lt_succ_self _,_,Le.sub (List.Sublist.cons _ (List.Sublist.cons _ (List.Sublist.refl _))),a5,d165,hp,dv,hj,(IntKind.i64.wrap (g+1)),a2,rfl,(T.trans V),a7,hq,?_⟩;simp only[*,go_sem]
   obtain rfl:=sI h;apply bR;simp only[go_sem];obtain rfl:=sI a2;clear a2;have h:=gp;dsimp only[aC] at h;obtain rfl:=sI h;have hr:=cv (n:=i47) (by have:=bs;omega);apply ak hJ;simp only[*,go_sem];refine ⟨s.length - (i47+1),by omega,_,Le.sub (List.Sublist.refl _),i47+1,H,d75,M,k,B,rfl,by omega,ca,rfl,(L.trans T),N,gC,?_⟩;simp only[*,go_sem]
  refine aI hJ (ag hJ ?_);refine ay hJ fun lL=>?_;apply ak hJ;simp only[*,go_sem];apply aT hJ;revert h;refine bS fun ht W hv=>?_;refine bT hJ (rg 33 13 [5,9]) (fun m w F'=>∃(I:Addr->Option Value) (d172:Option Addr) (O:Nat) (o:List (Nat×Obj)) (D:(List (List Int))) (i:Int),aU (uj u0 R) m (D,i)=some ht/\F'=⟨I,(d,bl u0 (sl (some f) u0.ax c4) a b c)::o⟩/\Ext y I/\aQ (rL rI) I 35 (.slice d172 D.length O) D o/\D.length<=O/\slot w 5= .slice d172 D.length O/\slot w 9= .int .i64 i) fu ?_ ?_
  .refine ⟨y,d38,G,K,z,cd.aM,W,rfl,Ext.refl _,Z,b1,?_⟩;simp only[*,go_sem]
  rintro a8 hx F' a9 ⟨I,d172,O,o,D,i,W,rfl,X,P,hy,l1,l2⟩;refine fF hJ fun _ dC=>?_;replace t:=t.mono X;replace j:=j.mono X;replace u:=dC.hd;simp only[bq] at dC;obtain ⟨hz,hA,hB⟩:=a9.pick [2,4,7,8,10,11,12,13,15,16,17,18,21,22,23,24,32] (by decide);simp only[*,go_sem] at hz hA hB;have l3:cL (rg 12 35 [5,7,8,9]) hx bz:=(a9.gG (by decide)).trans (by simp only[*,go_sem]);clear a9 ab ad ae b3 b2;obtain _|a8:=a8
  .exact absurd W (by simp only[aU,reduceCtorEq,not_false_eq_true])
  revert W;refine bS fun l4 h ba=>?_;unfold uj at h;try dsimp only at h
  refine ag hJ (ag hJ ?_);refine ay hJ fun ma=>?_;apply ak hJ;revert h;refine bS fun mf hD h=>?_;simp only[*,go_sem];refine bn hJ _ (tB u0 (j.mono aL) i hD) ?_;revert h;refine aY hJ (fun hE h=>?_) fun hE h=>?_
  .refine aI hJ (ag hJ ?_);apply aT hJ;refine ay hJ fun mi=>?_;apply ak hJ;revert h;refine bS fun hF hG h=>?_;simp only[*,go_sem];refine dX hJ (aW:=[]) [(d,bl u0 (sl (some f) u0.ax c4) a b c)] o _ (Co R t hG) (fun ml hI dE p q hK=>?_);simp only[aV] at q;subst p;obtain ⟨d230,mn,rfl,mr⟩:=dE.len;refine ⟨⟨I,(d,bl u0 (sl (some f) u0.ax c4) a b c)::(hI++o)⟩,Le.refl _,?_⟩;apply aJ;revert h;refine bS fun Y hL h=>?_;obtain ⟨hM,dT⟩:=dr hL;simp only[*,go_sem];refine aA fun E ea eb=>?_;have hN:=aR.cons eb hK;try simp only[av] at eb
   refine dW (r:=rI) (l:=hF) (x:=i) (cs:=#[.int .i64 i]) (e2:=3) [(E,ic i),(d,bl u0 (sl (some f) u0.ax c4) a b c)] o dE hN hM rfl (by simp only[*,go_sem]) ea rfl rfl gh gh lV lX rfl lW (by decide) (by decide) (fun mx ec bb p q ed=>?_);simp only[aV] at q;subst p;rw[<-dT] at bb;clear dT;obtain ⟨bc,bd,rfl,my⟩:=bb.len;obtain ⟨bj,eh,bk,et,hP⟩:=bb.eR [(E,ic i),(d,bl u0 (sl (some f) u0.ax c4) a b c)] o ed (aD.cons ea (aD.cons u (P.j9)));have hQ:=aR.sub (l:=(E,ic i)::(d,bl u0 (sl (some f) u0.ax c4) a b c)::o) (l':=(E,ic i)::(d,bl u0 (sl (some f) u0.ax c4) a b c)::(ec++o)) [(E,ic i),(d,bl u0 (sl (some f) u0.ax c4) a b c)] ec o (by first|rfl|simp only[aV]|(simp only[aV];rfl)) (by first|rfl|simp only[aV]|(simp only[aV];rfl)) ed;refine ⟨⟨bj,(E,ic i)::(d,bl u0 (sl (some f) u0.ax c4) a b c)::o⟩,hP,?_⟩;obtain ⟨m1,m2,-⟩:=et.op;replace u:=bk.tl.hd;replace P:=P.mono eh bk.tl.tl;simp only[bq] at bk;apply aJ;revert h;refine bS fun hR hS h=>?_;obtain rfl:=sI h;obtain ⟨hT,ev⟩:=dr hS;simp only[*,go_sem];refine aA fun eQ hV eS=>?_;have hX:=aR.cons eS hQ;try simp only[av] at eS
   refine dW (r:=(rL rI)) (l:=D) (x:=Y) (cs:=#[.slice bc Y.length bd]) (e2:=35) [(eQ,.cells #[.slice bc Y.length bd] 35),(E,ic i),(d,bl u0 (sl (some f) u0.ax c4) a b c)] [] P hX hT ⟨_,rfl,et⟩ (by simp only[*,go_sem]) hV rfl rfl lY lY tc tf rfl td (by decide) (by decide) (fun na e0 bm p q nb=>?_);simp only[aV] at q;subst p;rw[<-ev] at bm;clear ev;obtain ⟨hY,hZ,rfl,h0⟩:=bm.len;refine ⟨⟨bj,(eQ,.cells #[.slice bc Y.length bd] 35)::(E,ic i)::(d,bl u0 (sl (some f) u0.ax c4) a b c)::e0⟩,Le.refl _,?_⟩;apply aJ;simp only[*,go_sem];refine ay hJ fun nd=>?_;apply ak hJ;simp only[*,go_sem];refine ⟨a8,Nat.lt_succ_self _,_,Le.sub (List.Sublist.cons _ (List.Sublist.cons _ (List.Sublist.refl _))),bj,hY,hZ,e0,hR,(IntKind.i64.wrap (i+1)),ba,rfl,(X.trans eh),bm,h0,?_⟩;simp only[*,go_sem]
  obtain rfl:=sI h;apply bR;simp only[go_sem];obtain rfl:=sI ba;clear ba;have h:=hv;dsimp only[aC] at h;obtain rfl:=sI h;have hr:=cv (n:=i47) (by have:=bs;omega);apply ak hJ;simp only[*,go_sem];refine ⟨s.length - (i47+1),by omega,_,Le.sub (List.Sublist.refl _),i47+1,I,d172,O,o,D,rfl,by omega,ca,rfl,(L.trans X),P,hy,?_⟩;simp only[*,go_sem]
 have nf:=Nat.not_lt.2 b5;refine cn hJ ?_;rw[List.drop_eq_nil_of_le b5] at F;obtain rfl:=sI F;clear F;have h:=fi;dsimp only[aC] at h;obtain rfl:=sI h;apply bR;simp only[go_sem];apply ag hJ;refine ay hJ fun nm=>?_;apply ak hJ;simp only[*,go_sem];refine ay hJ fun e1=>?_;obtain ⟨nn,h1,h2,e3,h3⟩:=Z.eR [(d,bl u0 (sl d3 u0.ax c4) a b c)] [] e1 (aD.cons u (aD.nil _));clear e1;refine cz hJ h3 ?_;obtain ⟨np,ns,-⟩:=e3.op;simp only[bq] at h2;apply aE;simp only[*,go_sem];exact ⟨_,(L).trans h1,Le.sub (List.nil_sublist _),_,rfl,e3⟩
def o7 (u0:Int):Option Bool:=
 some (u0 != u0)
theorem uk {ro:Addr->Option Value}(u0:Int){r:Bool}(h:o7 u0=some r):aF Tryz.prog 180 #[.int .i64 u0] ⟨ro,[]⟩ (fun v _=>v= .bool r):=by
 unfold o7 at h;cases h;refine aF.go Tryz.func180 rfl Tryz.ntmps180 Tryz.results180 (by simp) fun main J hJ A a hd hs=>?_;have b:=hs 0;clear hs;apply ah hJ;simp only[*,go_sem];apply ah hJ;simp only[*,go_sem];apply aE;simp only[*,go_sem]
def iU (u0:Int)(a:Int):Option Bool:=
 af (o7 u0) fun b=>cond (b) (af (o7 a) fun c=>cond (!c) (some true) (some (decide (u0<a)))) (some (decide (u0<a)))
theorem kz {ro:Addr->Option Value}(u0:Int)(a:Int){r:Bool}(h:iU u0 a=some r):aF Tryz.prog 199 #[.int .i64 u0,.int .i64 a] ⟨ro,[]⟩ (fun v _=>v= .bool r):=by
 unfold iU at h;refine aF.go Tryz.func199 rfl Tryz.ntmps199 Tryz.results199 (by simp) fun main J hJ A f hd hs=>?_;have g:=hs 0;have k1:=hs 1;clear hs;apply ah hJ;simp only[*,go_sem];apply ah hJ;revert h;refine bS fun i b h=>?_;simp only[*,go_sem];refine bn hJ _ (uk u0 b) (aJ ?_);revert h;refine cS (fun c h=>?_) fun c h=>?_
 .revert h;refine bS fun j d h=>?_;simp only[*,go_sem];refine bn hJ _ (uk a d) (aJ ?_);revert h;refine cS (fun e h=>?_) fun e h=>?_
  .cases h;simp only[*,go_sem];apply aE;simp only[*,go_sem]
  cases h;simp only[*,go_sem];apply aE;simp only[*,go_sem]
 cases h;simp only[*,go_sem];apply aE;simp only[*,go_sem]
def xQ (c:Int)(st:(Int×(List Int))):Option (Fl (Int×(List Int)) (Unit×(List Int))):=
 cond (decide (c<st.1)) (af (bh st.2 st.1) fun b=>af (bh st.2 (IntKind.i64.wrap (st.1 - 1))) fun a=>af (iU b a) fun d=>cond (d) (af (bh (st.2.set (st.1).toNat a) (IntKind.i64.wrap (st.1 - 1))) fun e=>some (.nx ((IntKind.i64.wrap (st.1 - 1)),((st.2.set (st.1).toNat a).set (IntKind.i64.wrap (st.1 - 1)).toNat b)))) (some (.bk (st.1,st.2)))) (some (.bk (st.1,st.2)))
def xR (a:Int)(b:Int)(st:(Int×(List Int))):Option (Fl (Int×(List Int)) (Unit×(List Int))):=
 cond (decide (st.1<b)) (af (aU (xQ a) fu (st.1,st.2)) fun o=>aC o (fun c=>some (.nx ((IntKind.i64.wrap (st.1+1)),c.2))) (fun _ _=>none) (fun r=>some (.rt r))) (some (.bk (st.1,st.2)))
def um (u0:(List Int))(a:Int)(b:Int):Option (Unit×(List Int)):=
 cond (List.isEmpty u0) none (af (aU (xR a b) fu ((IntKind.i64.wrap (a+1)),u0)) fun o=>aC o (fun c=>some ((),c.2)) (fun _ _=>none) (fun r=>some r))
theorem Ct {ro:Addr->Option Value}(u0:(List Int)){w:Value}{K:List (Nat×Obj)}(x:aQ rI ro 3 w u0 K)(k:Int)(z:Int){r:(Unit×(List Int))}(h:um u0 k z=some r):aF Tryz.prog 193 #[w,.int .i64 k,.int .i64 z] ⟨ro,K⟩ (fun v G=>∃L,(v= .tuple #[]/\aQ rI ro 3 w r.2 L)/\Le ⟨ro,L⟩ G):=by
 obtain ⟨d1,c2,rfl,b4⟩:=x.len;unfold um at h;revert h;refine cS (fun M h=>?_) fun M h=>?_
 .cases h
 obtain ⟨b,ab,rfl,rfl,b5⟩:=x.iT M;refine aF.go Tryz.func193 rfl Tryz.ntmps193 Tryz.results193 (by simp) fun main J hJ A ad hd hs=>?_;have ae:=hs 0;have k1:=hs 1;have al:=hs 2;clear hs;apply ag hJ;refine ay hJ fun ca=>?_;apply ak hJ;simp only[*,go_sem];apply aT hJ;revert h;refine bS fun ao n ar=>?_;refine bT hJ (rg 10 39 [6,7]) (fun m B F'=>∃(p:Array Value) (j:Int) (q:(List Int)),aU (xR k z) m (j,q)=some ao/\F'=⟨ro,[(b,Obj.cells p 3)]⟩/\aQ rI ro 3 (.slice (some ⟨b,0,none⟩) u0.length c2) q [(b,Obj.cells p 3)]/\slot B 6= .int .i64 j) fu ?_ ?_
 .refine ⟨ab,(IntKind.i64.wrap (k+1)),u0,n,rfl,x,?_⟩;simp only[*,go_sem]
 rintro s a0 F' N ⟨p,j,q,n,rfl,O,a2⟩;obtain ⟨P,Q,R⟩:=N.pick [0,1,2] (by decide);simp only[*,go_sem] at P Q R;clear N ad hd ae k1 al;obtain _|s:=s
 .exact absurd n (by simp only[aU,reduceCtorEq,not_false_eq_true])
 revert n;refine bS fun cb h t=>?_;unfold xR at h;try dsimp only at h
 refine ag hJ (ag hJ ?_);refine ay hJ fun cd=>?_;apply ak hJ;simp only[*,go_sem];revert h;refine aY hJ (fun a3 h=>?_) fun a3 h=>?_
 .refine aI hJ (ag hJ ?_);refine aT hJ (ag hJ ?_);refine ay hJ fun cf=>?_;apply ak hJ;simp only[*,go_sem];apply aT hJ;revert h;refine bS fun a4 u S=>?_;refine bT hJ (rg 16 33 [7]) (fun m B F'=>∃(d:Array Value) (a:Int) (e:(List Int)),aU (xQ k) m (a,e)=some a4/\F'=⟨ro,[(b,Obj.cells d 3)]⟩/\aQ rI ro 3 (.slice (some ⟨b,0,none⟩) u0.length c2) e [(b,Obj.cells d 3)]/\slot B 7= .int .i64 a) fu ?_ ?_
  .refine ⟨p,j,q,u,rfl,O,?_⟩;simp only[*,go_sem]
  rintro C a5 F' D ⟨d,a,e,u,rfl,g,cl⟩;obtain ⟨a6,a7,a8⟩:=D.pick [0,1,2,6,10,11,12,15] (by decide);simp only[*,go_sem] at a6 a7 a8;have cy:cL (rg 10 39 [6,7]) a5 a0:=(D.gG (by decide)).trans (by simp only[*,go_sem]);clear D P Q R a2;obtain _|C:=C
  .exact absurd u (by simp only[aU,reduceCtorEq,not_false_eq_true])
  revert u;refine bS fun c0 h l=>?_;unfold xQ at h;try dsimp only at h
  refine ag hJ (ag hJ ?_);refine ay hJ fun da=>?_;refine de hJ mixed 15 1 (by simp only[*,go_sem]) (by kernel_rfl) ?_;revert h;refine cS (fun a9 h=>?_) fun a9 h=>?_
  .revert h;refine bS fun f ba h=>?_;obtain ⟨db,dd,T⟩:=c5 ba;have df:a<((u0.length:Nat):Int):=by have:=g.count;omega
   obtain ⟨bb,bc,bd⟩:=g.jD T;obtain rfl:bb=[.int .i64 f]:=bc;have U:=bd 0 _ rfl;simp only[go_sem] at U;have dk:=(Array.getElem?_eq_some_iff.1 U).1;revert h;refine bS fun c bj h=>?_;obtain ⟨dp,dq,bk⟩:=c5 bj;have ds:IntKind.i64.wrap (a - 1)<((u0.length:Nat):Int):=by have:=g.count;omega
   obtain ⟨bl,bm,bo⟩:=g.jD bk;obtain rfl:bl=[.int .i64 c]:=bm;have V:=bo 0 _ rfl;simp only[go_sem] at V;have dt:=(Array.getElem?_eq_some_iff.1 V).1;revert h;refine bS fun du br h=>?_;simp only[*,go_sem];refine ⟨_,bI hJ fun F dv=>kz f c br,ck ?_⟩;simp only[*,go_sem];revert h;refine aY hJ (fun bs h=>?_) fun bs h=>?_
   .refine aI hJ (ag hJ ?_);apply aT hJ;refine ay hJ fun dC=>?_;refine eI hJ mixed [15,16,17] (.pure 0 (.pure 1 (.pure 2 (.pure 3 (.pure 4 (.pure 5 (.pure 6 (.pure 7 (.pure 8 (.rd 9 (.pure 10 (.pure 11 (.pure 12 (.rd 13 (.pure 14 (.last 15 (.pure 16 (.last 17 .done)))))))))))))))))) ⟨ro,[(b,Obj.cells d 3)]⟩ (by simp only[*,go_sem]) (by kernel_rfl) ?_;have E:aQ rI ro 3 (.slice (some ⟨b,0,none⟩) u0.length c2) (e.set (a).toNat c) [(b,Obj.cells (cM d (a).toNat [.int .i64 c]) 3)]:=by have H:=g.tn (i:=(a).toNat) (y:=c) (by have:=T;have:=(List.getElem?_eq_some_iff.1 this).1;simpa only[List.length_set] using this) (cs:=[.int .i64 c]) rfl;simpa only[tv,xD,Nat.mul_one,Nat.add_zero] using H
    revert h;refine bS fun bz b0 h=>?_;cases h;obtain ⟨dE,dT,W⟩:=c5 b0;have ea:IntKind.i64.wrap (a - 1)<((u0.length:Nat):Int):=by have:=E.count;omega
    obtain ⟨b1,b2,b3⟩:=E.jD W;obtain rfl:b1=[.int .i64 bz]:=b2;have X:=b3 0 _ rfl;simp only[go_sem] at X;have eb:=(Array.getElem?_eq_some_iff.1 X).1;have Y:aQ rI ro 3 (.slice (some ⟨b,0,none⟩) u0.length c2) ((e.set (a).toNat c).set (IntKind.i64.wrap (a - 1)).toNat f) [(b,Obj.cells (cM (cM d (a).toNat [.int .i64 c]) (IntKind.i64.wrap (a - 1)).toNat [.int .i64 f]) 3)]:=by have H:=E.tn (i:=(IntKind.i64.wrap (a - 1)).toNat) (y:=f) (by have:=W;have:=(List.getElem?_eq_some_iff.1 this).1;simpa only[List.length_set] using this) (cs:=[.int .i64 f]) rfl;simpa only[tv,xD,Nat.mul_one,Nat.add_zero] using H
    simp only[*,go_sem];obtain ⟨Z,I⟩:∃o,o=(cM (cM d (a).toNat [.int .i64 c]) (IntKind.i64.wrap (a - 1)).toNat [.int .i64 f]):=⟨_,rfl⟩
    refine cz (F:=⟨ro,[(b,Obj.cells Z 3)]⟩) hJ (by rw[I];exact Le.refl _) ?_;rw[<-I] at Y;clear I;refine ay hJ fun ec=>?_;apply ak hJ;simp only[*,go_sem];refine ⟨C,Nat.lt_succ_self _,_,Le.sub (List.Sublist.refl _),Z,(IntKind.i64.wrap (a - 1)),((e.set (a).toNat c).set (IntKind.i64.wrap (a - 1)).toNat f),l,rfl,Y,?_⟩;simp only[*,go_sem]
   cases h;apply bR;simp only[go_sem];obtain rfl:=sI l;clear l;have h:=S;dsimp only[aC] at h;cases h;refine ay hJ fun ed=>?_;apply ak hJ;simp only[*,go_sem];refine ⟨s,Nat.lt_succ_self _,_,Le.sub (List.Sublist.refl _),d,(IntKind.i64.wrap (j+1)),e,t,rfl,g,?_⟩;simp only[*,go_sem]
  cases h;simp only[*,go_sem];refine cn hJ ?_;apply bR;simp only[go_sem];obtain rfl:=sI l;clear l;have h:=S;dsimp only[aC] at h;cases h;refine ay hJ fun eh=>?_;apply ak hJ;simp only[*,go_sem];refine ⟨s,Nat.lt_succ_self _,_,Le.sub (List.Sublist.refl _),d,(IntKind.i64.wrap (j+1)),e,t,rfl,g,?_⟩;simp only[*,go_sem]
 cases h;apply bR;simp only[go_sem];obtain rfl:=sI t;clear t;have h:=ar;dsimp only[aC] at h;cases h;simp only[*,go_sem];exact ⟨_,O,Le.sub (List.Sublist.refl _)⟩
def xS (u0:(List Int))(st:(Int×Int×Int×Bool×Bool)):Option (Fl (Int×Int×Int×Bool×Bool) (Unit×(List Int))):=
 cond (decide ((IntKind.i64.wrap (st.2.1 - st.1))<=12)) (af (um u0 st.1 st.2.1) fun a=>some (.rt ((),a.2))) (none)
def uo (u0:(List Int))(a:Int)(b:Int)(c:Int):Option (Unit×(List Int)):=
 cond (List.isEmpty u0) none (af (aU (xS u0) fu (a,b,c,true,true)) fun o=>aC o (fun d=>some ((),u0)) (fun _ _=>none) (fun r=>some r))
theorem Cu {ro:Addr->Option Value}(u0:(List Int)){f:Value}{p:List (Nat×Obj)}(g:aQ rI ro 3 f u0 p)(i:Int)(j:Int)(k:Int){r:(Unit×(List Int))}(h:uo u0 i j k=some r):aF Tryz.prog 178 #[f,.int .i64 i,.int .i64 j,.int .i64 k] ⟨ro,p⟩ (fun v G=>∃b,(v= .tuple #[]/\aQ rI ro 3 f r.2 b)/\Le ⟨ro,b⟩ G):=by
 obtain ⟨d1,c2,rfl,Q⟩:=g.len;unfold uo at h;revert h;refine cS (fun q h=>?_) fun q h=>?_
 .cases h
 obtain ⟨s,y,rfl,rfl,R⟩:=g.iT q;refine aF.go Tryz.func178 rfl Tryz.ntmps178 Tryz.results178 (by simp) fun main J hJ A z hd hs=>?_;have B:=hs 0;have k1:=hs 1;have C:=hs 2;have D:=hs 3;clear hs;apply ag hJ;refine ay hJ fun S=>?_;apply ak hJ;simp only[*,go_sem];apply ag hJ;refine ay hJ fun T=>?_;apply ak hJ;simp only[*,go_sem];apply aT hJ;revert h;refine bS fun E c F=>?_;refine bT hJ (rg 8 126 [1,2,3]) (fun m a F'=>∃(d:Int) (e:Int) (l:Int) (n:Bool) (o:Bool),aU (xS u0) m (d,e,l,n,o)=some E/\F'=⟨ro,[(s,Obj.cells y 3)]⟩/\slot a 1= .int .i64 d/\slot a 2= .int .i64 e/\slot a 3= .int .i64 l/\slot a 8= .bool n/\slot a 9= .bool o) fu ?_ ?_
 .refine ⟨i,j,k,true,true,c,rfl,?_⟩;simp only[*,go_sem]
 rintro t U F' u ⟨d,e,l,n,o,c,rfl,V,W,X,Y,Z⟩;obtain ⟨H,I,K⟩:=u.pick [0] (by decide);simp only[*,go_sem] at H I K;clear u z hd B k1 C D;obtain _|t:=t
 .exact absurd c (by simp only[aU,reduceCtorEq,not_false_eq_true])
 revert c;refine bS fun ab h w=>?_;unfold xS at h;try dsimp only at h
 refine aT hJ (ag hJ ?_);refine ay hJ fun ad=>?_;apply ak hJ;simp only[*,go_sem];refine ag hJ (ag hJ ?_);refine ay hJ fun ae=>?_;apply ak hJ;simp only[*,go_sem];revert h;refine aY hJ (fun L h=>?_) fun L h=>?_
 .apply ag hJ;refine ay hJ fun al=>?_;apply ak hJ;revert h;refine bS fun ao M h=>?_;cases h;simp only[*,go_sem];refine dX hJ [] [] _ (Ct u0 g d e M) (fun ar a0 N b O a2=>?_);obtain ⟨rfl,x⟩:=N;obtain ⟨P,rfl⟩:=x.g6;simp only[aV] at O;subst b;refine ⟨⟨ro,[(s,Obj.cells P 3)]⟩,Le.refl _,?_⟩;obtain rfl:=sI w;clear w;have h:=F;dsimp only[aC] at h;cases h;apply aE;simp only[*,go_sem];exact ⟨_,x,Le.sub (List.Sublist.refl _)⟩
 cases h
def ry (u0:(List Int))(a:Int)(b:Int)(c:Int):Option (((Int×Int)×(List Int))×Int):=
 cond (List.isEmpty u0) none (af (bh u0 b) fun d=>af (bh u0 a) fun e=>af (iU d e) fun f=>cond (f) (some (((b,a),u0),IntKind.i64.wrap (c+1))) (some (((a,b),u0),c)))
theorem xT {ro:Addr->Option Value}(u0:(List Int)){c:Value}{f:List (Nat×Obj)}(a:aQ rI ro 3 c u0 f)(d:Int)(e:Int)(g:Int){b:Nat}(I:∀off sp,ro ⟨b,off,sp⟩=none){r:(((Int×Int)×(List Int))×Int)}(h:ry u0 d e g=some r):aF Tryz.prog 216 #[c,.int .i64 d,.int .i64 e,.pointer (some ⟨b,0,none⟩)] ⟨ro,(b,ic g)::f⟩ (fun v G=>∃i,(∃j,i=(b,ic r.2)::j/\v= .tuple #[.int .i64 r.1.1.1,.int .i64 r.1.1.2]/\aQ rI ro 3 c r.1.2 j)/\Le ⟨ro,i⟩ G):=by
 obtain ⟨d1,c2,rfl,K⟩:=a.len;unfold ry at h;revert h;refine cS (fun k h=>?_) fun k h=>?_
 .cases h
 obtain ⟨L,M,rfl,rfl,N⟩:=a.iT k;refine aF.go Tryz.func216 rfl Tryz.ntmps216 Tryz.results216 (by simp) fun main J hJ A O hd hs=>?_;have P:=hs 0;have k1:=hs 1;have Q:=hs 2;have R:=hs 3;clear hs;refine ay hJ fun p=>?_;have q:=p.nd;simp only[keys,List.map_cons,List.map_nil,List.map_append,List.cons_append,List.nil_append,List.nodup_cons,List.mem_cons,List.mem_append,List.not_mem_nil,or_false,not_or] at q;apply ag hJ;refine ay hJ fun S=>?_;apply ak hJ;simp only[*,go_sem];refine ag hJ (ag hJ ?_);refine ay hJ fun T=>?_;refine de hJ mixed 9 2 (by simp only[*,go_sem]) (by kernel_rfl) ?_;revert h;refine bS fun l s h=>?_;obtain ⟨U,V,t⟩:=c5 s;have W:e<((u0.length:Nat):Int):=by have:=a.count;omega
 obtain ⟨u,w,x⟩:=a.jD t;obtain rfl:u=[.int .i64 l]:=w;have m:=x 0 _ rfl;simp only[go_sem] at m;have X:=(Array.getElem?_eq_some_iff.1 m).1;revert h;refine bS fun n y h=>?_;obtain ⟨Y,Z,z⟩:=c5 y;have ab:d<((u0.length:Nat):Int):=by have:=a.count;omega
 obtain ⟨B,C,D⟩:=a.jD z;obtain rfl:B=[.int .i64 n]:=C;have o:=D 0 _ rfl;simp only[go_sem] at o;have ad:=(Array.getElem?_eq_some_iff.1 o).1;revert h;refine bS fun ae E h=>?_;simp only[*,go_sem];refine ⟨_,bI hJ fun F al=>kz l n E,?_⟩;revert h;refine aY hJ (fun H h=>?_) fun H h=>?_
 .cases h;apply ag hJ;refine ay hJ fun ao=>?_;apply ak hJ;simp only[*,go_sem];apply ag hJ;refine ay hJ fun ar=>?_;apply ak hJ;simp only[*,go_sem];apply aE;simp only[*,go_sem];exact ⟨_,⟨_,rfl,a⟩,Le.sub (List.Sublist.refl _)⟩
 cases h;refine aI hJ (ag hJ ?_);refine ay hJ fun a0=>?_;apply ak hJ;simp only[*,go_sem];apply aE;simp only[*,go_sem];exact ⟨_,⟨_,rfl,a⟩,Le.sub (List.Sublist.refl _)⟩
def xU (u0:(List Int))(d:Int)(e:Int)(f:Int)(g:Int):Option ((Int×(List Int))×Int):=
 cond (List.isEmpty u0) none (af (ry u0 d e g) fun a=>af (ry a.1.2 a.1.1.2 f a.2) fun b=>af (ry b.1.2 a.1.1.1 b.1.1.1 b.2) fun c=>some ((c.1.1.2,c.1.2),c.2))
theorem Iq {ro:Addr->Option Value}(u0:(List Int)){g:Value}{p:List (Nat×Obj)}(i:aQ rI ro 3 g u0 p)(j:Int)(k:Int)(l:Int)(m:Int){b:Nat}(n:∀off sp,ro ⟨b,off,sp⟩=none){r:((Int×(List Int))×Int)}(h:xU u0 j k l m=some r):aF Tryz.prog 215 #[g,.int .i64 j,.int .i64 k,.int .i64 l,.pointer (some ⟨b,0,none⟩)] ⟨ro,(b,ic m)::p⟩ (fun v G=>∃a,(∃q,a=(b,ic r.2)::q/\v= .int .i64 r.1.1/\aQ rI ro 3 g r.1.2 q)/\Le ⟨ro,a⟩ G):=by
 obtain ⟨d1,c2,rfl,S⟩:=i.len;unfold xU at h;revert h;refine cS (fun s h=>?_) fun s h=>?_
 .cases h
 obtain ⟨o,T,rfl,rfl,U⟩:=i.iT s;refine aF.go Tryz.func215 rfl Tryz.ntmps215 Tryz.results215 (by simp) fun main J hJ A y hd hs=>?_;have z:=hs 0;have k1:=hs 1;have B:=hs 2;have C:=hs 3;have D:=hs 4;clear hs;refine ay hJ fun E=>?_;have F:=E.nd;simp only[keys,List.map_cons,List.map_nil,List.map_append,List.cons_append,List.nil_append,List.nodup_cons,List.mem_cons,List.mem_append,List.not_mem_nil,or_false,not_or] at F;apply ag hJ;refine ay hJ fun V=>?_;apply ak hJ;simp only[*,go_sem];apply ag hJ;refine ay hJ fun W=>?_;apply ak hJ;revert h;refine bS fun c H h=>?_;simp only[*,go_sem];refine dX hJ [] [] _ (xT u0 i j k m n H) (fun X t d a e Y=>?_);obtain ⟨Z,rfl,rfl,u⟩:=d;obtain ⟨I,rfl⟩:=u.g6;simp only[aV] at e;subst a;refine ⟨⟨ro,(b,ic c.2)::[(o,Obj.cells I 3)]⟩,Le.refl _,?_⟩;apply aJ;simp only[*,go_sem];apply ag hJ;refine ay hJ fun ab=>?_;apply ak hJ;revert h;refine bS fun f K h=>?_;simp only[*,go_sem];refine dX hJ [] [] _ (xT c.1.2 u c.1.1.2 l c.2 n K) (fun ad t d a e ae=>?_);obtain ⟨al,rfl,rfl,w⟩:=d;obtain ⟨L,rfl⟩:=w.g6;simp only[aV] at e;subst a;refine ⟨⟨ro,(b,ic f.2)::[(o,Obj.cells L 3)]⟩,Le.refl _,?_⟩;apply aJ;simp only[*,go_sem];apply ag hJ;refine ay hJ fun ao=>?_;apply ak hJ;revert h;refine bS fun M N h=>?_;cases h;simp only[*,go_sem];refine dX hJ [] [] _ (xT f.1.2 w c.1.1.1 f.1.1.1 f.2 n N) (fun ar t d a e a0=>?_);obtain ⟨a2,rfl,rfl,x⟩:=d;obtain ⟨O,rfl⟩:=x.g6;simp only[aV] at e;subst a;refine ⟨⟨ro,(b,ic M.2)::[(o,Obj.cells O 3)]⟩,Le.refl _,?_⟩;apply aJ;simp only[*,go_sem];apply ag hJ;refine eX [0,2,10,12,20,28] fun a3 P Q R=>?_;simp only[*,go_sem] at P Q R;clear y hd z k1 B C D;refine ay hJ fun a4=>?_;apply ak hJ;simp only[*,go_sem];apply aE;simp only[*,go_sem];exact ⟨_,⟨_,rfl,x⟩,Le.sub (List.Sublist.refl _)⟩
def xV (u0:(List Int))(b:Int)(d:Int):Option ((Int×Int)×(List Int)):=
 cond (List.isEmpty u0) none (af (fX (IntKind.i64.wrap (d - b)) 4) fun c=>cond (decide (8<=(IntKind.i64.wrap (d - b)))) (cond (decide (50<=(IntKind.i64.wrap (d - b)))) (none) (af (xU u0 (IntKind.i64.wrap (b+(IntKind.i64.wrap (c*1)))) (IntKind.i64.wrap (b+(IntKind.i64.wrap (c*2)))) (IntKind.i64.wrap (b+(IntKind.i64.wrap (c*3)))) 0) fun a=>cond ((a.2==0)) (some ((a.1.1,1),a.1.2)) (cond ((a.2==12)) (some ((a.1.1,2),a.1.2)) (some ((a.1.1,0),a.1.2))))) (some ((IntKind.i64.wrap (b+(IntKind.i64.wrap (c*2))),1),u0)))
theorem Ir {ro:Addr->Option Value}(u0:(List Int)){e:Value}{g:List (Nat×Obj)}(b:aQ rI ro 3 e u0 g)(a:Int)(i:Int){r:((Int×Int)×(List Int))}(h:xV u0 a i=some r):aF Tryz.prog 196 #[e,.int .i64 a,.int .i64 i] ⟨ro,g⟩ (fun v G=>∃c,(v= .tuple #[.int .i64 r.1.1,.int .i64 r.1.2]/\aQ rI ro 3 e r.2 c)/\Le ⟨ro,c⟩ G):=by
 obtain ⟨d1,c2,rfl,N⟩:=b.len;unfold xV at h;revert h;refine cS (fun j h=>?_) fun j h=>?_
 .cases h
 obtain ⟨p,O,rfl,rfl,P⟩:=b.iT j;refine aF.go Tryz.func196 rfl Tryz.ntmps196 Tryz.results196 (by simp) fun main J hJ A k hd hs=>?_;have l:=hs 0;have k1:=hs 1;have m:=hs 2;clear hs;apply ag hJ;refine ay hJ fun Q=>?_;apply ak hJ;simp only[*,go_sem];apply ag hJ;refine ay hJ fun R=>?_;apply ak hJ;simp only[*,go_sem];apply ag hJ;refine ay hJ fun q=>?_;apply ak hJ;simp only[*,go_sem];refine aA fun s t n=>?_;have S:=aR.cons n q;try simp only[av] at n
 apply ag hJ;refine ay hJ fun T=>?_;apply ak hJ;revert h;refine bS fun f o h=>?_;obtain ⟨U,V⟩:=kW o;clear o;simp only[*,go_sem];apply ag hJ;refine ay hJ fun W=>?_;apply ak hJ;simp only[*,go_sem];apply ag hJ;refine ay hJ fun X=>?_;apply ak hJ;simp only[*,go_sem];refine ag hJ (ag hJ ?_);refine ay hJ fun Y=>?_;apply ak hJ;simp only[*,go_sem];revert h;refine aY hJ (fun u h=>?_) fun u h=>?_
 .refine ag hJ (ag hJ ?_);refine ay hJ fun Z=>?_;apply ak hJ;simp only[*,go_sem];revert h;refine aY hJ (fun w h=>?_) fun w h=>?_
  .cases h
  apply aI hJ;refine ay hJ fun ab=>?_;apply ak hJ;revert h;refine bS fun x y h=>?_;simp only[*,go_sem];refine dX hJ [] [] _ (Iq u0 b (IntKind.i64.wrap (a+(IntKind.i64.wrap (f*1)))) (IntKind.i64.wrap (a+(IntKind.i64.wrap (f*2)))) (IntKind.i64.wrap (a+(IntKind.i64.wrap (f*3)))) 0 t y) (fun ad ae z c B al=>?_);obtain ⟨ao,rfl,rfl,d⟩:=z;obtain ⟨C,rfl⟩:=d.g6;simp only[aV] at B;subst c;refine ⟨⟨ro,(s,ic x.2)::[(p,Obj.cells C 3)]⟩,Le.refl _,?_⟩;apply aJ;simp only[*,go_sem];apply ag hJ;refine eX [0,6,7,9,11,44] fun ar D E F=>?_;simp only[*,go_sem] at D E F;clear k hd l k1 m;refine ay hJ fun a0=>?_;apply ak hJ;simp only[*,go_sem];refine aT hJ (ag hJ ?_);refine ay hJ fun a2=>?_;apply ak hJ;simp only[*,go_sem];revert h;refine aY hJ (fun H h=>?_) fun H h=>?_
  .cases h;apply ag hJ;refine ay hJ fun a3=>?_;apply ak hJ;simp only[*,go_sem];apply aE;simp only[*,go_sem];exact ⟨_,d,Le.sub (.cons _ (List.Sublist.refl _))⟩
  apply ag hJ;refine ay hJ fun a4=>?_;apply ak hJ;simp only[*,go_sem];revert h;refine aY hJ (fun I h=>?_) fun I h=>?_
  .cases h;apply ag hJ;refine ay hJ fun a5=>?_;apply ak hJ;simp only[*,go_sem];apply aE;simp only[*,go_sem];exact ⟨_,d,Le.sub (.cons _ (List.Sublist.refl _))⟩
  cases h;apply ag hJ;refine ay hJ fun a6=>?_;apply ak hJ;simp only[*,go_sem];apply aE;simp only[*,go_sem];exact ⟨_,d,Le.sub (.cons _ (List.Sublist.refl _))⟩
 cases h;refine aI hJ (ag hJ ?_);refine ay hJ fun a7=>?_;apply ak hJ;simp only[*,go_sem];refine aT hJ (ag hJ ?_);refine ay hJ fun a8=>?_;apply ak hJ;simp only[*,go_sem];refine cw hJ ?_;apply ag hJ;refine eX [0,6,7,11] fun a9 K L M=>?_;simp only[*,go_sem] at K L M;clear k hd l k1 m;refine ay hJ fun ba=>?_;apply ak hJ;simp only[*,go_sem];apply aE;simp only[*,go_sem];exact ⟨_,b,Le.sub (.cons _ (List.Sublist.refl _))⟩
end Go.Proofs.YtnaejeiofbpbkaaGreatDoor
end
section
namespace Go.Sep
open Go Go.Conc
variable {P:Program}{main:Bool}{J:Goroutine->aa->Prop}{Q:Ex->Act->aa->Prop}{a:Act}{F:aa}
def Qn (E:Act->aa->Prop)(Q:Ex->Act->aa->Prop):Ex->Act->aa->Prop
 | .normal,a,F=>∃F0,Le F0 F/\E a F0
 | .exit i,a,F=>Q (.exit i) a F
 | .ret,a,F=>Q .ret a F
theorem It (E:Act->aa->Prop)(Q:Ex->Act->aa->Prop)(i:Nat)(a:Act)(F:aa):Qn E Q (.exit i) a F=Q (.exit i) a F:=Eq.trans rfl rfl
theorem Iu (E:Act->aa->Prop)(Q:Ex->Act->aa->Prop)(a:Act)(F:aa):Qn E Q .ret a F=Q .ret a F:=Eq.trans rfl rfl
attribute [go_sem] It Iu
theorem Qn.intro {E:Act->aa->Prop}(h:∃F0,Le F0 F/\E a F0):Qn E Q .normal a F:=h
theorem gL (hJ:Closed P main J){x y:Code}(E:Act->aa->Prop)(h1:Wp J x (Qn E Q) a F)(h2:∀a F,E a F->Wp J y Q a F):Wp J (.seq x y) Q a F:=
 ag hJ (h1.mono fun e a F b=>by
  cases e with
  |normal=>obtain ⟨F0,hle,c⟩:=b;exact cz hJ hle (h2 a F0 c)
  |exit i=>exact b
  |ret=>exact b)
theorem aQ.cW {ro:Addr->Option Value}{e:TypeId}{b n cap:Nat}{l:List Int}{arr:Array Value}(h:aQ rI ro e (.slice (some ⟨b,0,none⟩) n cap) l [(b,.cells arr e)]){i x:Int}(q:bh l i=some x):
  0<=i/\i<((n:Nat):Int)/\arr[i.toNat]?=some (.int .i64 x)/\i.toNat<arr.size:=by
 obtain ⟨h0,h1,a⟩:=c5 q
 have d:=h.count
 obtain ⟨cs,c,hm⟩:=h.jD a
 obtain rfl:cs=[.int .i64 x]:=c
 have m:=hm 0 _ rfl
 have m:arr[i.toNat*1+0]?=some (.int .i64 x):=m
 rw[Nat.mul_one,Nat.add_zero] at m
 exact ⟨h0,by omega,m,(Array.getElem?_eq_some_iff.1 m).1⟩
theorem aQ.gu {ro:Addr->Option Value}{e:TypeId}{b n cap:Nat}{l:List Int}{arr:Array Value}(h:aQ rI ro e (.slice (some ⟨b,0,none⟩) n cap) l [(b,.cells arr e)]){i:Int}(h0:0<=i)(h1:i<((n:Nat):Int))(y:Int):
  aQ rI ro e (.slice (some ⟨b,0,none⟩) n cap) (l.set i.toNat y) [(b,.cells (cM arr i.toNat [.int .i64 y]) e)]:=by
 have a:=h.count
 have:=h.tn (i:=i.toNat) (y:=y) (by omega) (cs:=[.int .i64 y]) rfl
 rwa [show i.toNat*rI.n=i.toNat from Nat.mul_one _] at this
end Go.Sep
end
section
namespace Go.Proofs.YtnaejeiofbpbkaaGreatDoor
open Go Go.Sep Go.Proofs
set_option maxRecDepth 100000
set_option maxHeartbeats 4000000
def me (m:Nat):Nat:=if m=0 then 0 else m.log2+1
def uq (n:Int):Option Int:=if 0<=n/\n<256 then some ((me n.toNat:Nat):Int) else none
theorem Iv:∀m:Fin 256,me m.val<=8:=by decide+kernel
theorem Iw {ro:Addr->Option Value}(n:Int)(h0:0<=n)(h1:n<256):aF Tryz.prog 203 #[.int .u64 n] ⟨ro,[]⟩ (fun v _=>v= .int .i64 ((me n.toNat:Nat):Int)):=by
 refine aF.go Tryz.func203 rfl Tryz.ntmps203 Tryz.results203 (by simp) fun main J hJ A c hd hs=>?_;have d:=hs 0;clear hs;have a1:¬(4294967296:Int)<=n:=by omega
 have a2:¬(65536:Int)<=n:=by omega
 have a3:¬(256:Int)<=n:=by omega
 have e:Tryz.prog.underlying 184=some (.int .u64):=by kernel_rfl
 have f:Tryz.prog.underlying 5=some (.int .u8):=by kernel_rfl
 have g:Tryz.prog.underlying 3=some (.int .i64):=by kernel_rfl
 have h:Tryz.prog.underlying 9=some .string:=by kernel_rfl
 have a4:IntKind.u8.wrap n=n:=IntWalk.u8_in n ⟨h0,by omega⟩;repeat refine ag hJ ?_
 refine ak hJ ?_;simp only[*,go_sem];repeat refine ag hJ ?_
 refine ak hJ ?_;simp only[*,go_sem];repeat refine ag hJ ?_
 refine dV hJ (by simp only[*,go_sem,ge_iff_le]) ?_;refine aI hJ ?_;repeat refine ag hJ ?_
 refine ak hJ ?_;simp only[*,go_sem];repeat refine ag hJ ?_
 refine dV hJ (by simp only[*,go_sem,ge_iff_le]) ?_;refine aI hJ ?_;repeat refine ag hJ ?_
 refine ak hJ ?_;simp only[*,go_sem];repeat refine ag hJ ?_
 refine dV hJ (by simp only[*,go_sem,ge_iff_le]) ?_;refine aI hJ ?_;repeat refine ag hJ ?_
 refine ak hJ ?_;simp only[*,go_sem];generalize a:ByteArray.mk _=S;have key:∀m:Fin 256,S[m.val]?=some (UInt8.ofNat (me m.val)):=by rw[<-a];decide+kernel
 clear a;have b:n.toNat<256:=by omega
 have hb:=key ⟨n.toNat,b⟩;have hle:=Iv ⟨n.toNat,b⟩;simp only at hb hle;simp only[hb,Option.map_some];refine aE ?_;simp only[*,go_sem];have e1:(UInt8.ofNat (me n.toNat)).toNat=me n.toNat:=by rw[UInt8.toNat_ofNat'];omega
 rw[e1,IntWalk.i64_in (me n.toNat:Int) ⟨by omega,by omega⟩,Int.zero_add,IntWalk.i64_in (me n.toNat:Int) ⟨by omega,by omega⟩]
theorem Cv {ro:Addr->Option Value}(n:Int){r:Int}(h:uq n=some r):aF Tryz.prog 179 #[.int .u64 n] ⟨ro,[]⟩ (fun v _=>v= .int .i64 r):=by
 unfold uq at h;split at h
 case isFalse=>cases h
 rename_i a;obtain ⟨h0,h1⟩:=a;cases h;refine aF.go Tryz.func179 rfl Tryz.ntmps179 Tryz.results179 (by simp) fun main J hJ A b hd hs=>?_;have c:=hs 0;clear hs;repeat refine ag hJ ?_
 refine ak hJ ?_;simp only[*,go_sem];repeat refine ag hJ ?_
 refine dV hJ (by simp only[*,go_sem]) ?_;refine aI hJ ?_;repeat refine ag hJ ?_
 refine ak hJ ?_;simp only[*,go_sem];refine bn hJ _ (Iw n h0 h1) (aJ ?_);simp only[*,go_sem];refine aE ?_;simp only[*,go_sem]
theorem Ix:Tryz.prog.underlying 3=some (.int .i64):=by kernel_rfl
attribute [go_sem] Ix
theorem Iy:Tryz.prog.underlying 184=some (.int .u64):=by kernel_rfl
attribute [go_sem] Iy
theorem Iz:Tryz.prog.underlying 211=some (.int .u64):=by kernel_rfl
attribute [go_sem] Iz
theorem IA:Tryz.prog.underlying 252=some (.int .u64):=by kernel_rfl
attribute [go_sem] IA
def xW (u0:Int):Option (Int×Int):=
 af (qG u0 13) fun a=>af (xb (ir u0 a) 7) fun b=>af (qG (ir (ir u0 a) b) 17) fun c=>some ((ir (ir (ir u0 a) b) c),(ir (ir (ir u0 a) b) c))
theorem IB {ro:Addr->Option Value}(u0:Int){a:Nat}(r1:∀off sp,ro ⟨a,off,sp⟩=none){r:(Int×Int)}(h:xW u0=some r):aF Tryz.prog 213 #[.pointer (some ⟨a,0,none⟩)] ⟨ro,[(a,.cells #[.int .u64 u0] 252)]⟩ (fun v G=>∃b,(v= .int .u64 r.1/\b=[(a,.cells #[.int .u64 r.2] 252)])/\Le ⟨ro,b⟩ G):=by
 unfold xW at h;refine aF.go Tryz.func213 rfl Tryz.ntmps213 Tryz.results213 (by simp) fun main J hJ A g hd hs=>?_;have i:=hs 0;clear hs;apply ah hJ;simp only[*,go_sem];apply ag hJ;refine eI hJ mixed [9] (.pure 0 (.pure 1 (.rd 2 (.pure 3 (.pure 4 (.rd 5 (.pure 6 (.pure 7 (.pure 8 (.last 9 .done)))))))))) ⟨ro,[(a,.cells #[.int .u64 u0] 252)]⟩ (by simp only[*,go_sem]) (by kernel_rfl) ?_;revert h;refine bS fun c d h=>?_;obtain ⟨q,j⟩:=w9 d;clear d;try simp only[go_sem] at j
 simp only[*,go_sem];apply ag hJ;refine eI hJ mixed [9] (.pure 0 (.pure 1 (.rd 2 (.pure 3 (.pure 4 (.rd 5 (.pure 6 (.pure 7 (.pure 8 (.last 9 .done)))))))))) ⟨ro,[(a,.cells #[.int .u64 (ir u0 c)] 252)]⟩ (by simp only[*,go_sem]) (by kernel_rfl) ?_;revert h;refine bS fun k e h=>?_;obtain ⟨s,l⟩:=Gn e;clear e;try simp only[go_sem] at l
 simp only[*,go_sem];apply ag hJ;refine eI hJ mixed [9] (.pure 0 (.pure 1 (.rd 2 (.pure 3 (.pure 4 (.rd 5 (.pure 6 (.pure 7 (.pure 8 (.last 9 .done)))))))))) ⟨ro,[(a,.cells #[.int .u64 (ir (ir u0 c) k)] 252)]⟩ (by simp only[*,go_sem]) (by kernel_rfl) ?_;revert h;refine bS fun t f h=>?_;cases h;obtain ⟨u,m⟩:=w9 f;clear f;try simp only[go_sem] at m
 simp only[*,go_sem];apply ag hJ;refine eX [0,2] fun w n o p=>?_;simp only[*,go_sem] at n o p;clear g hd i;apply ak hJ;simp only[*,go_sem];apply aE;simp only[*,go_sem];exact ⟨_,rfl,Le.sub (List.Sublist.refl _)⟩
def xX (u0:Int):Option Int:=
 af (uq (IntKind.u64.wrap u0)) fun a=>af (qG 1 a) fun b=>some b
theorem IC {ro:Addr->Option Value}(u0:Int){r:Int}(h:xX u0=some r):aF Tryz.prog 212 #[.int .i64 u0] ⟨ro,[]⟩ (fun v _=>v= .int .u64 r):=by
 unfold xX at h;refine aF.go Tryz.func212 rfl Tryz.ntmps212 Tryz.results212 (by simp) fun main J hJ A d hd hs=>?_;have e:=hs 0;clear hs;apply ah hJ;simp only[*,go_sem];apply ah hJ;revert h;refine bS fun f b h=>?_;simp only[*,go_sem];refine bn hJ _ (Cv (IntKind.u64.wrap u0) b) (aJ ?_);revert h;refine bS fun g a h=>?_;cases h;obtain ⟨i,c⟩:=w9 a;clear a;try simp only[go_sem] at c
 simp only[*,go_sem];apply aE;simp only[*,go_sem]
def xY (a:Int)(e:Int)(c:Int)(h:Int)(st:(Int×(List Int)×Int)):Option (Fl (Int×(List Int)×Int) (Unit×(List Int))):=
 cond (decide (st.1<=(IntKind.i64.wrap ((IntKind.i64.wrap (a+(IntKind.i64.wrap (h*2))))+1)))) (af (af (xW st.2.2) fun b=>af (cond (decide ((IntKind.i64.wrap (e - a))<=(IntKind.i64.wrap (iR b.1 (IntKind.u64.wrap (c - 1)))))) (some (.bk (IntKind.i64.wrap ((IntKind.i64.wrap (iR b.1 (IntKind.u64.wrap (c - 1)))) - (IntKind.i64.wrap (e - a)))))) (some (.bk (IntKind.i64.wrap (iR b.1 (IntKind.u64.wrap (c - 1)))))):Option (Fl Int (Unit×(List Int)))) fun o=>aC o (fun d=>af (bh st.2.1 (IntKind.i64.wrap (a+d))) fun f=>af (bh st.2.1 st.1) fun i=>af (bh (st.2.1.set (st.1).toNat f) (IntKind.i64.wrap (a+d))) fun j=>some (.bk (((st.2.1.set (st.1).toNat f).set (IntKind.i64.wrap (a+d)).toNat i),b.2))) (fun _ _=>none) (fun r=>some (.rt r)):Option (Fl ((List Int)×Int) (Unit×(List Int)))) fun o=>aC o (fun g=>some (.nx ((IntKind.i64.wrap (st.1+1)),g.1,g.2))) (fun _ _=>none) (fun r=>some (.rt r))) (some (.bk (st.1,st.2.1,st.2.2)))
def xZ (u0:(List Int))(a:Int)(b:Int):Option (Unit×(List Int)):=
 cond (List.isEmpty u0) none (cond (decide (8<=(IntKind.i64.wrap (b - a)))) (af (xX (IntKind.i64.wrap (b - a))) fun d=>af (fX (IntKind.i64.wrap (b - a)) 4) fun c=>af (aU (xY a b d c) fu ((IntKind.i64.wrap ((IntKind.i64.wrap (a+(IntKind.i64.wrap (c*2)))) - 1)),u0,(IntKind.u64.wrap (IntKind.i64.wrap (b - a))))) fun o=>aC o (fun e=>some ((),e.2.1)) (fun _ _=>none) (fun r=>some r)) (some ((),u0)))
theorem ID {ro:Addr->Option Value}(u0:(List Int)){x:Value}{H:List (Nat×Obj)}(l:aQ rI ro 3 x u0 H)(b:Int)(d:Int){r:(Unit×(List Int))}(h:xZ u0 b d=some r):aF Tryz.prog 195 #[x,.int .i64 b,.int .i64 d] ⟨ro,H⟩ (fun v G=>∃n,(v= .tuple #[]/\aQ rI ro 3 x r.2 n)/\Le ⟨ro,n⟩ G):=by
 obtain ⟨d1,c2,rfl,bm⟩:=l.len;unfold xZ at h;revert h;refine cS (fun I h=>?_) fun I h=>?_
 .cases h
 obtain ⟨c,T,rfl,rfl,bo⟩:=l.iT I;refine aF.go Tryz.func195 rfl Tryz.ntmps195 Tryz.results195 (by simp) fun main J hJ A U hd hs=>?_;have V:=hs 0;have k1:=hs 1;have W:=hs 2;clear hs;apply ag hJ;refine ay hJ fun br=>?_;apply ak hJ;simp only[*,go_sem];apply ag hJ;refine ay hJ fun bs=>?_;apply ak hJ;simp only[*,go_sem];revert h;refine aY hJ (fun X h=>?_) fun X h=>?_
 .apply ag hJ;refine ay hJ fun Y=>?_;apply ak hJ;simp only[*,go_sem];refine aA fun g Z K=>?_;have bz:=aR.cons K Y;try simp only[av] at K
  apply ag hJ;refine ay hJ fun b0=>?_;apply ak hJ;revert h;refine bS fun j ab h=>?_;simp only[*,go_sem];refine bn hJ _ (IC (IntKind.i64.wrap (d - b)) ab) (aJ ?_);simp only[*,go_sem];apply ag hJ;refine ay hJ fun b1=>?_;apply ak hJ;revert h;refine bS fun L M h=>?_;obtain ⟨b2,b3⟩:=kW M;clear M;simp only[*,go_sem];apply aT hJ;revert h;refine bS fun ad o ae=>?_;refine bT hJ (rg 26 39 [9,10]) (fun m a F'=>∃(e:Array Value) (f:Int) (p:(List Int)) (q:Int),aU (xY b d j L) m (f,p,q)=some ad/\F'=⟨ro,(g,.cells #[.int .u64 q] 252)::[(c,Obj.cells e 3)]⟩/\aQ rI ro 3 (.slice (some ⟨c,0,none⟩) u0.length c2) p [(c,Obj.cells e 3)]/\slot a 9= .int .i64 f) fu ?_ ?_
  .refine ⟨T,(IntKind.i64.wrap ((IntKind.i64.wrap (b+(IntKind.i64.wrap (L*2)))) - 1)),u0,(IntKind.u64.wrap (IntKind.i64.wrap (d - b))),o,rfl,l,?_⟩;simp only[*,go_sem]
  rintro y N F' O ⟨e,f,p,q,o,rfl,s,P⟩;obtain ⟨z,B,C⟩:=O.pick [0,1,6,7,8] (by decide);simp only[*,go_sem] at z B C;clear O U hd V k1 W;obtain _|y:=y
  .exact absurd o (by simp only[aU,reduceCtorEq,not_false_eq_true])
  revert o;refine bS fun b4 h D=>?_;unfold xY at h;try dsimp only at h
  refine ag hJ (ag hJ ?_);refine ay hJ fun b5=>?_;apply ak hJ;simp only[*,go_sem];revert h;refine aY hJ (fun al h=>?_) fun al h=>?_
  .apply aI hJ;revert h;refine bS fun ao h ar=>?_;refine gL hJ (fun a F'=>∃(t:Array Value) (u:(List Int)) (w:Int),some (Fl.bk (u,w):Fl ((List Int)×Int) (Unit×(List Int)))=some ao/\F'=⟨ro,(g,.cells #[.int .u64 w] 252)::[(c,Obj.cells t 3)]⟩/\aQ rI ro 3 (.slice (some ⟨c,0,none⟩) u0.length c2) u [(c,Obj.cells t 3)]/\sz a=65/\a.defers=[]/\cL (rg 26 39 [9,10]) a N/\slot a 0= .slice (some ⟨c,0,none⟩) u0.length c2/\slot a 1= .int .i64 b/\slot a 6= .int .i64 (IntKind.i64.wrap (d - b))/\slot a 7= .pointer (some ⟨g,0,none⟩)/\slot a 8= .int .u64 j/\slot a 9= .int .i64 f) ?_ ?_
   .refine aT hJ (ag hJ ?_);refine ay hJ fun ca=>?_;apply ak hJ;revert h;refine bS fun i a0 h=>?_;simp only[*,go_sem];refine dX hJ [] ([(c,Obj.cells e 3)]) _ (IB q Z a0) (fun cb cd a2 n a3 cf=>?_);obtain ⟨rfl,rfl⟩:=a2;simp only[aV] at a3;subst n;refine ⟨⟨ro,(g,.cells #[.int .u64 i.2] 252)::[(c,Obj.cells e 3)]⟩,Le.refl _,?_⟩;apply aJ;simp only[*,go_sem];revert h;refine bS fun a4 h a5=>?_;refine gL hJ (fun a F'=>∃(k:Int),some (Fl.bk k:Fl Int (Unit×(List Int)))=some a4/\F'=⟨ro,(g,.cells #[.int .u64 i.2] 252)::[(c,Obj.cells e 3)]⟩/\sz a=65/\a.defers=[]/\cL (rg 26 39 [9,10]) a N/\slot a 0= .slice (some ⟨c,0,none⟩) u0.length c2/\slot a 1= .int .i64 b/\slot a 6= .int .i64 (IntKind.i64.wrap (d - b))/\slot a 7= .pointer (some ⟨g,0,none⟩)/\slot a 8= .int .u64 j/\slot a 9= .int .i64 f/\slot a 10= .int .i64 k) ?_ ?_
    .apply ag hJ;refine ay hJ fun cl=>?_;apply ak hJ;simp only[*,go_sem];revert h;refine aY hJ (fun a6 h=>?_) fun a6 h=>?_
     .refine ay hJ fun cy=>?_;apply ak hJ;simp only[*,go_sem];refine Qn.intro ⟨_,Le.sub (List.Sublist.refl _),(IntKind.i64.wrap ((IntKind.i64.wrap (iR i.1 (IntKind.u64.wrap (j - 1)))) - (IntKind.i64.wrap (d - b)))),h,rfl,?_⟩;simp only[*,go_sem]
     apply aI hJ;simp only[*,go_sem];refine Qn.intro ⟨_,Le.sub (List.Sublist.refl _),(IntKind.i64.wrap (iR i.1 (IntKind.u64.wrap (j - 1)))),h,rfl,?_⟩;simp only[*,go_sem]
    rintro c0 F' ⟨k,Q,rfl,da,db,dd,df,dk,dp,dq,ds,dt,du⟩;obtain rfl:=sI Q;clear Q;have h:=a5;dsimp only[aC] at h;clear z B C P;refine ay hJ fun dv=>?_;refine eI hJ mixed [17,18,19] (.pure 0 (.pure 1 (.pure 2 (.pure 3 (.pure 4 (.pure 5 (.pure 6 (.pure 7 (.pure 8 (.pure 9 (.pure 10 (.rd 11 (.pure 12 (.pure 13 (.pure 14 (.rd 15 (.pure 16 (.last 17 (.pure 18 (.last 19 .done)))))))))))))))))))) ⟨ro,[(g,.cells #[.int .u64 i.2] 252),(c,Obj.cells e 3)]⟩ (by simp only[*,go_sem]) (by kernel_rfl) ?_;revert h;refine bS fun E a7 h=>?_;obtain ⟨dC,dE,dT,ea⟩:=s.cW a7;revert h;refine bS fun F a8 h=>?_;obtain ⟨a9,ba,eb,ec⟩:=s.cW a8;have R:=s.gu a9 ba E;revert h;refine bS fun ed bb h=>?_;obtain ⟨bc,bd,eh,et⟩:=R.cW bb;have bj:=R.gu bc bd F;simp only[*,go_sem];refine Qn.intro ⟨_,Le.sub (List.Sublist.refl _),(cM (cM e (f).toNat [.int .i64 E]) (IntKind.i64.wrap (b+k)).toNat [.int .i64 F]),((p.set (f).toNat E).set (IntKind.i64.wrap (b+k)).toNat F),i.2,h,rfl,bj,?_⟩;simp only[*,go_sem]
   rintro ev F' ⟨t,u,w,S,rfl,bl,eQ,eS,e0,e1,e2,e3,fa,fb,ff⟩;obtain rfl:=sI S;clear S;have h:=ar;dsimp only[aC] at h;cases h;clear z B C P;refine ay hJ fun fg=>?_;apply ak hJ;simp only[*,go_sem];refine ⟨y,Nat.lt_succ_self _,_,Le.sub (List.Sublist.refl _),t,(IntKind.i64.wrap (f+1)),u,w,D,rfl,bl,?_⟩;simp only[*,go_sem]
  cases h;apply bR;simp only[go_sem];obtain rfl:=sI D;clear D;have h:=ae;dsimp only[aC] at h;cases h;simp only[*,go_sem];exact ⟨_,s,Le.sub (.cons _ (List.Sublist.refl _))⟩
 cases h;apply aI hJ;simp only[*,go_sem];exact ⟨_,l,Le.sub (List.Sublist.refl _)⟩
def x2 (u0:(List Int))(a:Int)(e:Int)(b:Int)(c:Int)(d:Int)(st:Int):Option (Fl Int ((Int×Bool)×(List Int))):=
 cond (decide (st<=(IntKind.i64.wrap (e - 1)))) (af (bh ((u0.set (a).toNat c).set (b).toNat d) st) fun f=>af (bh ((u0.set (a).toNat c).set (b).toNat d) a) fun g=>af (iU f g) fun h=>cond (h) (some (.nx (IntKind.i64.wrap (st+1)))) (some (.bk st))) (some (.bk st))
def x3 (u0:(List Int))(a:Int)(b:Int)(c:Int)(d:Int)(e:Int)(st:Int):Option (Fl Int ((Int×Bool)×(List Int))):=
 cond (decide (e<=st)) (af (bh ((u0.set (a).toNat c).set (b).toNat d) st) fun f=>af (bh ((u0.set (a).toNat c).set (b).toNat d) a) fun g=>af (iU f g) fun h=>cond (!h) (some (.nx (IntKind.i64.wrap (st - 1)))) (some (.bk st))) (some (.bk st))
def x4 (b:Int)(c:Int)(a:(List Int))(st:Int):Option (Fl Int ((Int×Bool)×(List Int))):=
 cond (decide (st<=c)) (af (bh a st) fun d=>af (bh a b) fun e=>af (iU d e) fun f=>cond (f) (some (.nx (IntKind.i64.wrap (st+1)))) (some (.bk st))) (some (.bk st))
def x5 (b:Int)(a:(List Int))(c:Int)(st:Int):Option (Fl Int ((Int×Bool)×(List Int))):=
 cond (decide (c<=st)) (af (bh a st) fun d=>af (bh a b) fun e=>af (iU d e) fun f=>cond (!f) (some (.nx (IntKind.i64.wrap (st - 1)))) (some (.bk st))) (some (.bk st))
def x6 (c:Int)(st:(Int×Int×(List Int))):Option (Fl (Int×Int×(List Int)) ((Int×Bool)×(List Int))):=
 af (af (aU (x4 c st.2.1 st.2.2) fu st.1) fun o=>aC o (fun e=>some (.bk e)) (fun _ _=>none) (fun r=>some (.rt r)):Option (Fl Int ((Int×Bool)×(List Int)))) fun o=>aC o (fun a=>af (af (aU (x5 c st.2.2 a) fu st.2.1) fun o=>aC o (fun f=>some (.bk f)) (fun _ _=>none) (fun r=>some (.rt r)):Option (Fl Int ((Int×Bool)×(List Int)))) fun o=>aC o (fun b=>cond (decide (b<a)) (some (.bk (a,b,st.2.2))) (af (bh st.2.2 b) fun d=>af (bh st.2.2 a) fun g=>af (bh (st.2.2.set (a).toNat d) b) fun h=>some (.nx ((IntKind.i64.wrap (a+1)),(IntKind.i64.wrap (b - 1)),((st.2.2.set (a).toNat d).set (b).toNat g))))) (fun _ _=>none) (fun r=>some (.rt r))) (fun _ _=>none) (fun r=>some (.rt r))
def x7 (u0:(List Int))(a:Int)(h:Int)(b:Int):Option ((Int×Bool)×(List Int)):=
 cond (List.isEmpty u0) none (af (bh u0 b) fun c=>af (bh u0 a) fun d=>af (bh (u0.set (a).toNat c) b) fun t=>af (af (aU (x2 u0 a h b c d) fu (IntKind.i64.wrap (a+1))) fun o=>aC o (fun m=>some (.bk m)) (fun _ _=>none) (fun r=>some (.rt r)):Option (Fl Int ((Int×Bool)×(List Int)))) fun o=>aC o (fun g=>af (af (aU (x3 u0 a b c d g) fu (IntKind.i64.wrap (h - 1))) fun o=>aC o (fun n=>some (.bk n)) (fun _ _=>none) (fun r=>some (.rt r)):Option (Fl Int ((Int×Bool)×(List Int)))) fun o=>aC o (fun e=>cond (decide (e<g)) (af (bh ((u0.set (a).toNat c).set (b).toNat d) a) fun i=>af (bh ((u0.set (a).toNat c).set (b).toNat d) e) fun p=>af (bh (((u0.set (a).toNat c).set (b).toNat d).set (e).toNat i) a) fun u=>some ((e,true),((((u0.set (a).toNat c).set (b).toNat d).set (e).toNat i).set (a).toNat p))) (af (bh ((u0.set (a).toNat c).set (b).toNat d) e) fun j=>af (bh ((u0.set (a).toNat c).set (b).toNat d) g) fun q=>af (bh (((u0.set (a).toNat c).set (b).toNat d).set (g).toNat j) e) fun v=>af (af (aU (x6 a) fu ((IntKind.i64.wrap (g+1)),(IntKind.i64.wrap (e - 1)),((((u0.set (a).toNat c).set (b).toNat d).set (g).toNat j).set (e).toNat q))) fun o=>aC o (fun k=>some (.bk (k.2.1,k.2.2))) (fun _ _=>none) (fun r=>some (.rt r)):Option (Fl (Int×(List Int)) ((Int×Bool)×(List Int)))) fun o=>aC o (fun f=>af (bh f.2 a) fun l=>af (bh f.2 f.1) fun s=>af (bh (f.2.set (f.1).toNat l) a) fun w=>some ((f.1,false),((f.2.set (f.1).toNat l).set (a).toNat s))) (fun _ _=>none) (fun r=>some r))) (fun _ _=>none) (fun r=>some r)) (fun _ _=>none) (fun r=>some r))
theorem IE {ro:Addr->Option Value}(u0:(List Int)){S:Value}{bb:List (Nat×Obj)}(x:aQ rI ro 3 S u0 bb)(c:Int)(y:Int)(p:Int){r:((Int×Bool)×(List Int))}(h:x7 u0 c y p=some r):aF Tryz.prog 201 #[S,.int .i64 c,.int .i64 y,.int .i64 p] ⟨ro,bb⟩ (fun v G=>∃bc,(v= .tuple #[.int .i64 r.1.1,.bool r.1.2]/\aQ rI ro 3 S r.2 bc)/\Le ⟨ro,bc⟩ G):=by
 obtain ⟨d1,c2,rfl,lh⟩:=x.len;unfold x7 at h;revert h;refine cS (fun bd h=>?_) fun bd h=>?_
 .cases h
 obtain ⟨b,bj,rfl,rfl,lj⟩:=x.iT bd;refine aF.go Tryz.func201 rfl Tryz.ntmps201 Tryz.results201 (by simp) fun main J hJ A bl hd hs=>?_;have bm:=hs 0;have k1:=hs 1;have bo:=hs 2;have br:=hs 3;clear hs;apply ag hJ;refine ay hJ fun lk=>?_;apply ak hJ;simp only[*,go_sem];apply ag hJ;refine ay hJ fun ll=>?_;refine eI hJ mixed [13,14,15] (.pure 0 (.pure 1 (.pure 2 (.pure 3 (.pure 4 (.pure 5 (.pure 6 (.rd 7 (.pure 8 (.pure 9 (.pure 10 (.rd 11 (.pure 12 (.last 13 (.pure 14 (.last 15 .done)))))))))))))))) ⟨ro,[(b,Obj.cells bj 3)]⟩ (by simp only[*,go_sem]) (by kernel_rfl) ?_;revert h;refine bS fun z fv h=>?_;obtain ⟨ln,lo,lr,lv⟩:=x.cW fv;revert h;refine bS fun B fw h=>?_;obtain ⟨fx,fz,lx,ly⟩:=x.cW fw;have bs:=x.gu fx fz z;revert h;refine bS fun lL fP h=>?_;obtain ⟨fQ,fS,l1,l2⟩:=bs.cW fP;have d:=bs.gu fQ fS B;simp only[*,go_sem];apply ag hJ;obtain ⟨f,T⟩:∃o,o=(cM (cM bj (c).toNat [.int .i64 z]) (p).toNat [.int .i64 B]):=⟨_,rfl⟩
 refine cz (F:=⟨ro,[(b,Obj.cells f 3)]⟩) hJ (by rw[T];exact Le.refl _) ?_;rw[<-T] at d;clear T;refine ay hJ fun l3=>?_;apply ak hJ;simp only[*,go_sem];revert h;refine bS fun fU h gg=>?_;refine gL hJ (fun a F'=>∃(g:Int),some (Fl.bk g:Fl Int ((Int×Bool)×(List Int)))=some fU/\F'=⟨ro,[(b,Obj.cells f 3)]⟩/\sz a=168/\a.defers=[]/\slot a 0= .slice (some ⟨b,0,none⟩) u0.length c2/\slot a 1= .int .i64 c/\slot a 8= .int .i64 0/\slot a 9= .bool false/\slot a 10= .int .i64 g/\slot a 11= .int .i64 (IntKind.i64.wrap (y - 1))) ?_ ?_
 .apply aT hJ;revert h;refine bS fun gl K bz=>?_;refine bT hJ (rg 30 16 [10]) (fun m a F'=>∃(q:Int),aU (x2 u0 c y p z B) m q=some gl/\F'=⟨ro,[(b,Obj.cells f 3)]⟩/\slot a 10= .int .i64 q) fu ?_ ?_
  .refine ⟨(IntKind.i64.wrap (c+1)),K,rfl,?_⟩;simp only[*,go_sem]
  rintro U l4 F' b0 ⟨q,K,rfl,ma⟩;obtain ⟨gn,gp,gB⟩:=b0.pick [0,1,8,9,11] (by decide);simp only[*,go_sem] at gn gp gB;clear b0 bl hd bm k1 bo br;obtain _|U:=U
  .exact absurd K (by simp only[aU,reduceCtorEq,not_false_eq_true])
  revert K;refine bS fun mf h C=>?_;unfold x2 at h;try dsimp only at h
  refine ag hJ (ag hJ ?_);refine ay hJ fun mi=>?_;refine de hJ mixed 14 1 (by simp only[*,go_sem]) (by kernel_rfl) ?_;revert h;refine cS (fun gC h=>?_) fun gC h=>?_
  .revert h;refine bS fun gM gT h=>?_;obtain ⟨ml,mn,mr,mx⟩:=d.cW gT;revert h;refine bS fun gV g0 h=>?_;obtain ⟨my,m1,m2,na⟩:=d.cW g0;revert h;refine bS fun nb g1 h=>?_;simp only[*,go_sem];refine ⟨_,bI hJ fun F V=>kz gM gV g1,ck ?_⟩;simp only[*,go_sem];revert h;refine aY hJ (fun g2 h=>?_) fun g2 h=>?_
   .cases h;refine aI hJ (aT hJ ?_);refine ay hJ fun nd=>?_;apply ak hJ;simp only[*,go_sem];refine ⟨U,Nat.lt_succ_self _,_,Le.sub (List.Sublist.refl _),(IntKind.i64.wrap (q+1)),C,rfl,?_⟩;simp only[*,go_sem]
   cases h;apply bR;simp only[go_sem];obtain rfl:=sI C;clear C;have h:=bz;dsimp only[aC] at h;simp only[*,go_sem];refine Qn.intro ⟨_,Le.sub (List.Sublist.refl _),q,h,rfl,?_⟩;simp only[*,go_sem]
  cases h;simp only[*,go_sem];refine cn hJ ?_;apply bR;simp only[go_sem];obtain rfl:=sI C;clear C;have h:=bz;dsimp only[aC] at h;refine Qn.intro ⟨_,Le.sub (List.Sublist.refl _),q,h,rfl,?_⟩;simp only[*,go_sem]
 rintro nf F' ⟨g,b1,rfl,b2,b3,b4,b5,ca,cb,cd,cf⟩;obtain rfl:=sI b1;clear b1;have h:=gg;dsimp only[aC] at h;clear bl hd bm k1 bo br;revert h;refine bS fun g3 h g4=>?_;refine gL hJ (fun a F'=>∃(k:Int),some (Fl.bk k:Fl Int ((Int×Bool)×(List Int)))=some g3/\F'=⟨ro,[(b,Obj.cells f 3)]⟩/\sz a=168/\a.defers=[]/\slot a 0= .slice (some ⟨b,0,none⟩) u0.length c2/\slot a 1= .int .i64 c/\slot a 8= .int .i64 0/\slot a 9= .bool false/\slot a 10= .int .i64 g/\slot a 11= .int .i64 k) ?_ ?_
 .apply aT hJ;revert h;refine bS fun ha L cl=>?_;refine bT hJ (rg 46 17 [11]) (fun m a F'=>∃(s:Int),aU (x3 u0 c p z B g) m s=some ha/\F'=⟨ro,[(b,Obj.cells f 3)]⟩/\slot a 11= .int .i64 s) fu ?_ ?_
  .refine ⟨(IntKind.i64.wrap (y - 1)),L,rfl,?_⟩;simp only[*,go_sem]
  rintro W nm F' cy ⟨s,L,rfl,nn⟩;obtain ⟨hc,hf,hg⟩:=cy.pick [0,1,8,9,10] (by decide);simp only[*,go_sem] at hc hf hg;clear cy b2 b3 b4 b5 ca cb cd cf;obtain _|W:=W
  .exact absurd L (by simp only[aU,reduceCtorEq,not_false_eq_true])
  revert L;refine bS fun np h D=>?_;unfold x3 at h;try dsimp only at h
  refine ag hJ (ag hJ ?_);refine ay hJ fun ns=>?_;refine de hJ mixed 15 1 (by simp only[*,go_sem]) (by kernel_rfl) ?_;revert h;refine cS (fun hh h=>?_) fun hh h=>?_
  .revert h;refine bS fun hi hj h=>?_;obtain ⟨nx,nz,nA,nH⟩:=d.cW hj;revert h;refine bS fun hk hl h=>?_;obtain ⟨nI,nK,nQ,nR⟩:=d.cW hl;revert h;refine bS fun nT hn h=>?_;simp only[*,go_sem];refine ⟨_,bI hJ fun F V=>kz hi hk hn,ck ?_⟩;simp only[*,go_sem];revert h;refine aY hJ (fun ho h=>?_) fun ho h=>?_
   .cases h;refine aI hJ (aT hJ ?_);refine ay hJ fun nV=>?_;apply ak hJ;simp only[*,go_sem];refine ⟨W,Nat.lt_succ_self _,_,Le.sub (List.Sublist.refl _),(IntKind.i64.wrap (s - 1)),D,rfl,?_⟩;simp only[*,go_sem]
   cases h;apply bR;simp only[go_sem];obtain rfl:=sI D;clear D;have h:=cl;dsimp only[aC] at h;simp only[*,go_sem];refine Qn.intro ⟨_,Le.sub (List.Sublist.refl _),s,h,rfl,?_⟩;simp only[*,go_sem]
  cases h;simp only[*,go_sem];refine cn hJ ?_;apply bR;simp only[go_sem];obtain rfl:=sI D;clear D;have h:=cl;dsimp only[aC] at h;refine Qn.intro ⟨_,Le.sub (List.Sublist.refl _),s,h,rfl,?_⟩;simp only[*,go_sem]
 rintro nX F' ⟨k,c0,rfl,da,db,dd,df,dk,dp,dq,ds⟩;obtain rfl:=sI c0;clear c0;have h:=g4;dsimp only[aC] at h;clear b2 b3 b4 b5 ca cb cd cf;refine ag hJ (ag hJ ?_);refine ay hJ fun nY=>?_;apply ak hJ;simp only[*,go_sem];revert h;refine aY hJ (fun hp h=>?_) fun hp h=>?_
 .apply ag hJ;refine ay hJ fun n0=>?_;refine eI hJ mixed [13,14,15] (.pure 0 (.pure 1 (.pure 2 (.pure 3 (.pure 4 (.pure 5 (.pure 6 (.rd 7 (.pure 8 (.pure 9 (.pure 10 (.rd 11 (.pure 12 (.last 13 (.pure 14 (.last 15 .done)))))))))))))))) ⟨ro,[(b,Obj.cells f 3)]⟩ (by simp only[*,go_sem]) (by kernel_rfl) ?_;revert h;refine bS fun dt hq h=>?_;obtain ⟨n1,n2,n3,oc⟩:=d.cW hq;revert h;refine bS fun du hr h=>?_;obtain ⟨ht,hv,oi,oj⟩:=d.cW hr;have dv:=d.gu ht hv dt;revert h;refine bS fun ox hx h=>?_;cases h;obtain ⟨hy,hz,oy,o0⟩:=dv.cW hx;have dC:=dv.gu hy hz du;simp only[*,go_sem];apply ag hJ;obtain ⟨hA,X⟩:∃o,o=(cM (cM f (k).toNat [.int .i64 dt]) (c).toNat [.int .i64 du]):=⟨_,rfl⟩
  refine cz (F:=⟨ro,[(b,Obj.cells hA 3)]⟩) hJ (by rw[X];exact Le.refl _) ?_;rw[<-X] at dC;clear X;refine ay hJ fun o1=>?_;apply ak hJ;simp only[*,go_sem];apply aE;simp only[*,go_sem];exact ⟨_,dC,Le.sub (List.Sublist.refl _)⟩
 refine aI hJ (ag hJ ?_);refine ay hJ fun o2=>?_;refine eI hJ mixed [13,14,15] (.pure 0 (.pure 1 (.pure 2 (.pure 3 (.pure 4 (.pure 5 (.pure 6 (.rd 7 (.pure 8 (.pure 9 (.pure 10 (.rd 11 (.pure 12 (.last 13 (.pure 14 (.last 15 .done)))))))))))))))) ⟨ro,[(b,Obj.cells f 3)]⟩ (by simp only[*,go_sem]) (by kernel_rfl) ?_;revert h;refine bS fun Y hB h=>?_;obtain ⟨o4,pa,pb,pd⟩:=d.cW hB;revert h;refine bS fun Z hD h=>?_;obtain ⟨hE,hF,pf,ph⟩:=d.cW hD;have dE:=d.gu hE hF Y;revert h;refine bS fun pj hG h=>?_;obtain ⟨hI,hK,pk,po⟩:=dE.cW hG;have dT:=dE.gu hI hK Z;simp only[*,go_sem];apply ag hJ;obtain ⟨ea,ab⟩:∃o,o=(cM (cM f (g).toNat [.int .i64 Y]) (k).toNat [.int .i64 Z]):=⟨_,rfl⟩
 refine cz (F:=⟨ro,[(b,Obj.cells ea 3)]⟩) hJ (by rw[ab];exact Le.refl _) ?_;rw[<-ab] at dT;clear ab;refine ay hJ fun pr=>?_;apply ak hJ;simp only[*,go_sem];apply ag hJ;refine ay hJ fun ps=>?_;apply ak hJ;simp only[*,go_sem];revert h;refine bS fun hL h hM=>?_;refine gL hJ (fun a F'=>∃(E:Array Value) (M:Int) (ad:(List Int)),some (Fl.bk (M,ad):Fl (Int×(List Int)) ((Int×Bool)×(List Int)))=some hL/\F'=⟨ro,[(b,Obj.cells E 3)]⟩/\aQ rI ro 3 (.slice (some ⟨b,0,none⟩) u0.length c2) ad [(b,Obj.cells E 3)]/\sz a=168/\a.defers=[]/\slot a 0= .slice (some ⟨b,0,none⟩) u0.length c2/\slot a 1= .int .i64 c/\slot a 8= .int .i64 0/\slot a 9= .bool false/\slot a 11= .int .i64 M) ?_ ?_
 .apply aT hJ;revert h;refine bS fun hN N hP=>?_;refine bT hJ (rg 99 54 [10,11]) (fun m a F'=>∃(e:Array Value) (O:Int) (t:Int) (l:(List Int)),aU (x6 c) m (O,t,l)=some hN/\F'=⟨ro,[(b,Obj.cells e 3)]⟩/\aQ rI ro 3 (.slice (some ⟨b,0,none⟩) u0.length c2) l [(b,Obj.cells e 3)]/\slot a 10= .int .i64 O/\slot a 11= .int .i64 t) fu ?_ ?_
  .refine ⟨ea,(IntKind.i64.wrap (g+1)),(IntKind.i64.wrap (k - 1)),((((u0.set (c).toNat z).set (p).toNat B).set (g).toNat Y).set (k).toNat Z),N,rfl,dT,?_⟩;simp only[*,go_sem]
  rintro ae P F' eb ⟨e,O,t,l,N,rfl,i,ec,ed⟩;obtain ⟨al,ao,ar⟩:=eb.pick [0,1,8,9] (by decide);simp only[*,go_sem] at al ao ar;clear eb da db dd df dk dp dq ds;obtain _|ae:=ae
  .exact absurd N (by simp only[aU,reduceCtorEq,not_false_eq_true])
  revert N;refine bS fun pt h a0=>?_;unfold x6 at h;try dsimp only at h
  apply aT hJ;revert h;refine bS fun hQ h hR=>?_;refine gL hJ (fun a F'=>∃(j:Int),some (Fl.bk j:Fl Int ((Int×Bool)×(List Int)))=some hQ/\F'=⟨ro,[(b,Obj.cells e 3)]⟩/\sz a=168/\a.defers=[]/\cL (rg 99 54 [10,11]) a P/\slot a 0= .slice (some ⟨b,0,none⟩) u0.length c2/\slot a 1= .int .i64 c/\slot a 8= .int .i64 0/\slot a 9= .bool false/\slot a 10= .int .i64 j/\slot a 11= .int .i64 t) ?_ ?_
  .apply aT hJ;revert h;refine bS fun hS Q eh=>?_;refine bT hJ (rg 99 16 [10]) (fun m a F'=>∃(u:Int),aU (x4 c t l) m u=some hS/\F'=⟨ro,[(b,Obj.cells e 3)]⟩/\slot a 10= .int .i64 u) fu ?_ ?_
   .refine ⟨O,Q,rfl,?_⟩;simp only[*,go_sem]
   rintro a2 hT F' a3 ⟨u,Q,rfl,pv⟩;obtain ⟨hV,hX,hY⟩:=a3.pick [0,1,8,9,11] (by decide);simp only[*,go_sem] at hV hX hY;have pw:cL (rg 99 54 [10,11]) hT P:=(a3.gG (by decide)).trans (by simp only[*,go_sem]);clear a3 al ao ar ec ed;obtain _|a2:=a2
   .exact absurd Q (by simp only[aU,reduceCtorEq,not_false_eq_true])
   revert Q;refine bS fun px h H=>?_;unfold x4 at h;(try dsimp only at h);refine ag hJ (ag hJ ?_);refine ay hJ fun py=>?_;refine de hJ mixed 14 1 (by simp only[*,go_sem]) (by kernel_rfl) ?_;revert h;refine cS (fun hZ h=>?_) fun hZ h=>?_
   .revert h;refine bS fun h0 h1 h=>?_;obtain ⟨pA,pB,pC,pD⟩:=i.cW h1;revert h;refine bS fun h2 h3 h=>?_;obtain ⟨pL,pT,p0,p1⟩:=i.cW h3;revert h;refine bS fun qe h4 h=>?_;simp only[*,go_sem];refine ⟨_,bI hJ fun F V=>kz h0 h2 h4,ck ?_⟩;simp only[*,go_sem];revert h;refine aY hJ (fun h5 h=>?_) fun h5 h=>?_
    .cases h;refine aI hJ (aT hJ ?_);refine ay hJ fun qk=>?_;apply ak hJ;simp only[*,go_sem];refine ⟨a2,Nat.lt_succ_self _,_,Le.sub (List.Sublist.refl _),(IntKind.i64.wrap (u+1)),H,rfl,?_⟩;simp only[*,go_sem]
    cases h;apply bR;simp only[go_sem];obtain rfl:=sI H;clear H;have h:=eh;dsimp only[aC] at h;simp only[*,go_sem];refine Qn.intro ⟨_,Le.sub (List.Sublist.refl _),u,h,rfl,?_⟩;simp only[*,go_sem]
   cases h;simp only[*,go_sem];refine cn hJ ?_;apply bR;simp only[go_sem];obtain rfl:=sI H;clear H;have h:=eh;dsimp only[aC] at h;refine Qn.intro ⟨_,Le.sub (List.Sublist.refl _),u,h,rfl,?_⟩;simp only[*,go_sem]
  rintro q0 F' ⟨j,et,rfl,ev,eQ,q1,eS,e0,e1,e2,e3,fa⟩;obtain rfl:=sI et;clear et;have h:=hR;dsimp only[aC] at h;clear al ao ar ec ed;revert h;refine bS fun h6 h h7=>?_;refine gL hJ (fun a F'=>∃(n:Int),some (Fl.bk n:Fl Int ((Int×Bool)×(List Int)))=some h6/\F'=⟨ro,[(b,Obj.cells e 3)]⟩/\sz a=168/\a.defers=[]/\cL (rg 99 54 [10,11]) a P/\slot a 0= .slice (some ⟨b,0,none⟩) u0.length c2/\slot a 1= .int .i64 c/\slot a 8= .int .i64 0/\slot a 9= .bool false/\slot a 10= .int .i64 j/\slot a 11= .int .i64 n) ?_ ?_
  .apply aT hJ;revert h;refine bS fun h8 R fb=>?_;refine bT hJ (rg 115 17 [11]) (fun m a F'=>∃(w:Int),aU (x5 c l j) m w=some h8/\F'=⟨ro,[(b,Obj.cells e 3)]⟩/\slot a 11= .int .i64 w) fu ?_ ?_
   .refine ⟨t,R,rfl,?_⟩;simp only[*,go_sem]
   rintro a4 h9 F' a5 ⟨w,R,rfl,ra⟩;obtain ⟨ib,ic,ih⟩:=a5.pick [0,1,8,9,10] (by decide);simp only[*,go_sem] at ib ic ih;have rb:cL (rg 99 54 [10,11]) h9 P:=(a5.gG (by decide)).trans (by simp only[*,go_sem]);clear a5 ev eQ eS e0 e1 e2 e3 fa;obtain _|a4:=a4
   .exact absurd R (by simp only[aU,reduceCtorEq,not_false_eq_true])
   revert R;refine bS fun re h I=>?_;unfold x5 at h;(try dsimp only at h);refine ag hJ (ag hJ ?_);refine ay hJ fun rh=>?_;refine de hJ mixed 15 1 (by simp only[*,go_sem]) (by kernel_rfl) ?_;revert h;refine cS (fun ik h=>?_) fun ik h=>?_
   .revert h;refine bS fun il im h=>?_;obtain ⟨rk,rl,rn,rp⟩:=i.cW im;revert h;refine bS fun iv ix h=>?_;obtain ⟨rr,rv,rB,rL⟩:=i.cW ix;revert h;refine bS fun sa jC h=>?_;simp only[*,go_sem];refine ⟨_,bI hJ fun F V=>kz il iv jC,ck ?_⟩;simp only[*,go_sem];revert h;refine aY hJ (fun j1 h=>?_) fun j1 h=>?_
    .cases h;refine aI hJ (aT hJ ?_);refine ay hJ fun sb=>?_;apply ak hJ;simp only[*,go_sem];refine ⟨a4,Nat.lt_succ_self _,_,Le.sub (List.Sublist.refl _),(IntKind.i64.wrap (w - 1)),I,rfl,?_⟩;simp only[*,go_sem]
    cases h;apply bR;simp only[go_sem];obtain rfl:=sI I;clear I;have h:=fb;dsimp only[aC] at h;simp only[*,go_sem];refine Qn.intro ⟨_,Le.sub (List.Sublist.refl _),w,h,rfl,?_⟩;simp only[*,go_sem]
   cases h;simp only[*,go_sem];refine cn hJ ?_;apply bR;simp only[go_sem];obtain rfl:=sI I;clear I;have h:=fb;dsimp only[aC] at h;refine Qn.intro ⟨_,Le.sub (List.Sublist.refl _),w,h,rfl,?_⟩;simp only[*,go_sem]
  rintro sc F' ⟨n,ff,rfl,sf,sg,sh,sl,sm,ss,sy,sT,ta⟩;obtain rfl:=sI ff;clear ff;have h:=h7;dsimp only[aC] at h;clear ev eQ eS e0 e1 e2 e3 fa;refine ag hJ (ag hJ ?_);refine ay hJ fun tb=>?_;apply ak hJ;simp only[*,go_sem];revert h;refine aY hJ (fun j2 h=>?_) fun j2 h=>?_
  .cases h;apply bR;simp only[go_sem];obtain rfl:=sI a0;clear a0;have h:=hP;dsimp only[aC] at h;simp only[*,go_sem];refine Qn.intro ⟨_,Le.sub (List.Sublist.refl _),e,n,l,h,rfl,i,?_⟩;simp only[*,go_sem]
  refine aI hJ (ag hJ ?_);refine ay hJ fun te=>?_;refine eI hJ mixed [13,14,15] (.pure 0 (.pure 1 (.pure 2 (.pure 3 (.pure 4 (.pure 5 (.pure 6 (.rd 7 (.pure 8 (.pure 9 (.pure 10 (.rd 11 (.pure 12 (.last 13 (.pure 14 (.last 15 .done)))))))))))))))) ⟨ro,[(b,Obj.cells e 3)]⟩ (by simp only[*,go_sem]) (by kernel_rfl) ?_;revert h;refine bS fun a6 kh h=>?_;obtain ⟨ti,tk,tl,tm⟩:=i.cW kh;revert h;refine bS fun a7 kj h=>?_;obtain ⟨kk,kl,tp,ts⟩:=i.cW kj;have fg:=i.gu kk kl a6;revert h;refine bS fun tt km h=>?_;cases h;obtain ⟨kn,kp,tx,tz⟩:=fg.cW km;have fi:=fg.gu kn kp a7;simp only[*,go_sem];apply ag hJ;obtain ⟨fl,a8⟩:∃o,o=(cM (cM e (j).toNat [.int .i64 a6]) (n).toNat [.int .i64 a7]):=⟨_,rfl⟩
  refine cz (F:=⟨ro,[(b,Obj.cells fl 3)]⟩) hJ (by rw[a8];exact Le.refl _) ?_;rw[<-a8] at fi;clear a8;refine ay hJ fun tI=>?_;apply ak hJ;simp only[*,go_sem];refine ay hJ fun tM=>?_;apply ak hJ;simp only[*,go_sem];refine ⟨ae,Nat.lt_succ_self _,_,Le.sub (List.Sublist.refl _),fl,(IntKind.i64.wrap (j+1)),(IntKind.i64.wrap (n - 1)),((l.set (j).toNat a6).set (n).toNat a7),a0,rfl,fi,?_⟩;simp only[*,go_sem]
 rintro tW F' ⟨E,M,ad,fp,rfl,a9,ub,ui,u1,u2,u3,u4,va⟩;obtain rfl:=sI fp;clear fp;have h:=hM;dsimp only[aC] at h;clear da db dd df dk dp dq ds;apply ag hJ;refine ay hJ fun vd=>?_;refine eI hJ mixed [13,14,15] (.pure 0 (.pure 1 (.pure 2 (.pure 3 (.pure 4 (.pure 5 (.pure 6 (.rd 7 (.pure 8 (.pure 9 (.pure 10 (.rd 11 (.pure 12 (.last 13 (.pure 14 (.last 15 .done)))))))))))))))) ⟨ro,[(b,Obj.cells E 3)]⟩ (by simp only[*,go_sem]) (by kernel_rfl) ?_;revert h;refine bS fun fq ks h=>?_;obtain ⟨vs,vx,vy,v3⟩:=a9.cW ks;revert h;refine bS fun fr kt h=>?_;obtain ⟨kv,kx,wa,wb⟩:=a9.cW kt;have fs:=a9.gu kv kx fq;revert h;refine bS fun wc ky h=>?_;cases h;obtain ⟨k0,k2,wi,wx⟩:=fs.cW ky;have ft:=fs.gu k0 k2 fr;simp only[*,go_sem];apply ag hJ;obtain ⟨lb,ba⟩:∃o,o=(cM (cM E (M).toNat [.int .i64 fq]) (c).toNat [.int .i64 fr]):=⟨_,rfl⟩
 refine cz (F:=⟨ro,[(b,Obj.cells lb 3)]⟩) hJ (by rw[ba];exact Le.refl _) ?_;rw[<-ba] at ft;clear ba;refine ay hJ fun wy=>?_;apply ak hJ;simp only[*,go_sem];apply aE;simp only[*,go_sem];exact ⟨_,ft,Le.sub (List.Sublist.refl _)⟩
def x8 (b:Int)(c:Int)(a:(List Int))(st:Int):Option (Fl Int (Int×(List Int))):=
 cond (decide (st<=c)) (af (bh a b) fun d=>af (bh a st) fun e=>af (iU d e) fun f=>cond (!f) (some (.nx (IntKind.i64.wrap (st+1)))) (some (.bk st))) (some (.bk st))
def x9 (b:Int)(a:(List Int))(c:Int)(st:Int):Option (Fl Int (Int×(List Int))):=
 cond (decide (c<=st)) (af (bh a b) fun d=>af (bh a st) fun e=>af (iU d e) fun f=>cond (f) (some (.nx (IntKind.i64.wrap (st - 1)))) (some (.bk st))) (some (.bk st))
def ya (c:Int)(st:(Int×Int×(List Int))):Option (Fl (Int×Int×(List Int)) (Int×(List Int))):=
 af (af (aU (x8 c st.2.1 st.2.2) fu st.1) fun o=>aC o (fun e=>some (.bk e)) (fun _ _=>none) (fun r=>some (.rt r)):Option (Fl Int (Int×(List Int)))) fun o=>aC o (fun a=>af (af (aU (x9 c st.2.2 a) fu st.2.1) fun o=>aC o (fun f=>some (.bk f)) (fun _ _=>none) (fun r=>some (.rt r)):Option (Fl Int (Int×(List Int)))) fun o=>aC o (fun b=>cond (decide (b<a)) (some (.bk (a,b,st.2.2))) (af (bh st.2.2 b) fun d=>af (bh st.2.2 a) fun g=>af (bh (st.2.2.set (a).toNat d) b) fun h=>some (.nx ((IntKind.i64.wrap (a+1)),(IntKind.i64.wrap (b - 1)),((st.2.2.set (a).toNat d).set (b).toNat g))))) (fun _ _=>none) (fun r=>some (.rt r))) (fun _ _=>none) (fun r=>some (.rt r))
def yb (u0:(List Int))(a:Int)(f:Int)(b:Int):Option (Int×(List Int)):=
 cond (List.isEmpty u0) none (af (bh u0 b) fun c=>af (bh u0 a) fun g=>af (bh (u0.set (a).toNat c) b) fun h=>af (af (aU (ya a) fu ((IntKind.i64.wrap (a+1)),(IntKind.i64.wrap (f - 1)),((u0.set (a).toNat c).set (b).toNat g))) fun o=>aC o (fun d=>some (.bk (d.1,d.2.2))) (fun _ _=>none) (fun r=>some (.rt r)):Option (Fl (Int×(List Int)) (Int×(List Int)))) fun o=>aC o (fun e=>some (e.1,e.2)) (fun _ _=>none) (fun r=>some r))
theorem IF {ro:Addr->Option Value}(u0:(List Int)){z:Value}{X:List (Nat×Obj)}(n:aQ rI ro 3 z u0 X)(c:Int)(B:Int)(s:Int){r:(Int×(List Int))}(h:yb u0 c B s=some r):aF Tryz.prog 200 #[z,.int .i64 c,.int .i64 B,.int .i64 s] ⟨ro,X⟩ (fun v G=>∃Y,(v= .int .i64 r.1/\aQ rI ro 3 z r.2 Y)/\Le ⟨ro,Y⟩ G):=by
 obtain ⟨d1,c2,rfl,fs⟩:=n.len;unfold yb at h;revert h;refine cS (fun Z h=>?_) fun Z h=>?_
 .cases h
 obtain ⟨b,ab,rfl,rfl,ft⟩:=n.iT Z;refine aF.go Tryz.func200 rfl Tryz.ntmps200 Tryz.results200 (by simp) fun main J hJ A ad hd hs=>?_;have ae:=hs 0;have k1:=hs 1;have al:=hs 2;have ao:=hs 3;clear hs;apply ag hJ;refine ay hJ fun fv=>?_;apply ak hJ;simp only[*,go_sem];apply ag hJ;refine ay hJ fun fw=>?_;refine eI hJ mixed [13,14,15] (.pure 0 (.pure 1 (.pure 2 (.pure 3 (.pure 4 (.pure 5 (.pure 6 (.rd 7 (.pure 8 (.pure 9 (.pure 10 (.rd 11 (.pure 12 (.last 13 (.pure 14 (.last 15 .done)))))))))))))))) ⟨ro,[(b,Obj.cells ab 3)]⟩ (by simp only[*,go_sem]) (by kernel_rfl) ?_;revert h;refine bS fun C b0 h=>?_;obtain ⟨fx,fz,fP,fQ⟩:=n.cW b0;revert h;refine bS fun D b1 h=>?_;obtain ⟨b2,b3,fS,fU⟩:=n.cW b1;have ar:=n.gu b2 b3 C;revert h;refine bS fun gg b4 h=>?_;obtain ⟨b5,ca,gl,gn⟩:=ar.cW b4;have a0:=ar.gu b5 ca D;simp only[*,go_sem];apply ag hJ;obtain ⟨a2,E⟩:∃o,o=(cM (cM ab (c).toNat [.int .i64 C]) (s).toNat [.int .i64 D]):=⟨_,rfl⟩
 refine cz (F:=⟨ro,[(b,Obj.cells a2 3)]⟩) hJ (by rw[E];exact Le.refl _) ?_;rw[<-E] at a0;clear E;refine ay hJ fun gp=>?_;apply ak hJ;simp only[*,go_sem];revert h;refine bS fun cb h cd=>?_;refine gL hJ (fun a F'=>∃(H:Array Value) (I:Int) (K:(List Int)),some (Fl.bk (I,K):Fl (Int×(List Int)) (Int×(List Int)))=some cb/\F'=⟨ro,[(b,Obj.cells H 3)]⟩/\aQ rI ro 3 (.slice (some ⟨b,0,none⟩) u0.length c2) K [(b,Obj.cells H 3)]/\sz a=84/\a.defers=[]/\slot a 0= .slice (some ⟨b,0,none⟩) u0.length c2/\slot a 8= .int .i64 0/\slot a 9= .int .i64 I) ?_ ?_
 .apply aT hJ;revert h;refine bS fun cf t cl=>?_;refine bT hJ (rg 29 54 [9,10]) (fun m a F'=>∃(d:Array Value) (u:Int) (i:Int) (g:(List Int)),aU (ya c) m (u,i,g)=some cf/\F'=⟨ro,[(b,Obj.cells d 3)]⟩/\aQ rI ro 3 (.slice (some ⟨b,0,none⟩) u0.length c2) g [(b,Obj.cells d 3)]/\slot a 9= .int .i64 u/\slot a 10= .int .i64 i) fu ?_ ?_
  .refine ⟨a2,(IntKind.i64.wrap (c+1)),(IntKind.i64.wrap (B - 1)),((u0.set (c).toNat C).set (s).toNat D),t,rfl,a0,?_⟩;simp only[*,go_sem]
  rintro L w F' a3 ⟨d,u,i,g,t,rfl,f,a4,a5⟩;obtain ⟨M,N,O⟩:=a3.pick [0,1,8] (by decide);simp only[*,go_sem] at M N O;clear a3 ad hd ae k1 al ao;obtain _|L:=L
  .exact absurd t (by simp only[aU,reduceCtorEq,not_false_eq_true])
  revert t;refine bS fun gB h P=>?_;unfold ya at h;try dsimp only at h
  apply aT hJ;revert h;refine bS fun cy h c0=>?_;refine gL hJ (fun a F'=>∃(e:Int),some (Fl.bk e:Fl Int (Int×(List Int)))=some cy/\F'=⟨ro,[(b,Obj.cells d 3)]⟩/\sz a=84/\a.defers=[]/\cL (rg 29 54 [9,10]) a w/\slot a 0= .slice (some ⟨b,0,none⟩) u0.length c2/\slot a 1= .int .i64 c/\slot a 8= .int .i64 0/\slot a 9= .int .i64 e/\slot a 10= .int .i64 i) ?_ ?_
  .apply aT hJ;revert h;refine bS fun da x a6=>?_;refine bT hJ (rg 29 17 [9]) (fun m a F'=>∃(j:Int),aU (x8 c i g) m j=some da/\F'=⟨ro,[(b,Obj.cells d 3)]⟩/\slot a 9= .int .i64 j) fu ?_ ?_
   .refine ⟨u,x,rfl,?_⟩;simp only[*,go_sem]
   rintro Q db F' R ⟨j,x,rfl,gC⟩;obtain ⟨dd,df,dk⟩:=R.pick [0,1,8,10] (by decide);simp only[*,go_sem] at dd df dk;have gM:cL (rg 29 54 [9,10]) db w:=(R.gG (by decide)).trans (by simp only[*,go_sem]);clear R M N O a4 a5;obtain _|Q:=Q
   .exact absurd x (by simp only[aU,reduceCtorEq,not_false_eq_true])
   revert x;refine bS fun gT h p=>?_;unfold x8 at h;(try dsimp only at h);refine ag hJ (ag hJ ?_);refine ay hJ fun gV=>?_;refine de hJ mixed 15 1 (by simp only[*,go_sem]) (by kernel_rfl) ?_;revert h;refine cS (fun dp h=>?_) fun dp h=>?_
   .revert h;refine bS fun dq ds h=>?_;obtain ⟨g0,g1,g2,g3⟩:=f.cW ds;revert h;refine bS fun dt du h=>?_;obtain ⟨g4,ha,hc,hf⟩:=f.cW du;revert h;refine bS fun hg dv h=>?_;simp only[*,go_sem];refine ⟨_,bI hJ fun F dC=>kz dq dt dv,ck ?_⟩;simp only[*,go_sem];revert h;refine aY hJ (fun dE h=>?_) fun dE h=>?_
    .cases h;refine aI hJ (aT hJ ?_);refine ay hJ fun hh=>?_;apply ak hJ;simp only[*,go_sem];refine ⟨Q,Nat.lt_succ_self _,_,Le.sub (List.Sublist.refl _),(IntKind.i64.wrap (j+1)),p,rfl,?_⟩;simp only[*,go_sem]
    cases h;apply bR;simp only[go_sem];obtain rfl:=sI p;clear p;have h:=a6;dsimp only[aC] at h;simp only[*,go_sem];refine Qn.intro ⟨_,Le.sub (List.Sublist.refl _),j,h,rfl,?_⟩;simp only[*,go_sem]
   cases h;simp only[*,go_sem];refine cn hJ ?_;apply bR;simp only[go_sem];obtain rfl:=sI p;clear p;have h:=a6;dsimp only[aC] at h;refine Qn.intro ⟨_,Le.sub (List.Sublist.refl _),j,h,rfl,?_⟩;simp only[*,go_sem]
  rintro hi F' ⟨e,a7,rfl,a8,a9,hj,ba,bb,bc,bd,bj⟩;obtain rfl:=sI a7;clear a7;have h:=c0;dsimp only[aC] at h;clear M N O a4 a5;revert h;refine bS fun dT h ea=>?_;refine gL hJ (fun a F'=>∃(k:Int),some (Fl.bk k:Fl Int (Int×(List Int)))=some dT/\F'=⟨ro,[(b,Obj.cells d 3)]⟩/\sz a=84/\a.defers=[]/\cL (rg 29 54 [9,10]) a w/\slot a 0= .slice (some ⟨b,0,none⟩) u0.length c2/\slot a 1= .int .i64 c/\slot a 8= .int .i64 0/\slot a 9= .int .i64 e/\slot a 10= .int .i64 k) ?_ ?_
  .apply aT hJ;revert h;refine bS fun eb y bl=>?_;refine bT hJ (rg 46 16 [10]) (fun m a F'=>∃(l:Int),aU (x9 c g e) m l=some eb/\F'=⟨ro,[(b,Obj.cells d 3)]⟩/\slot a 10= .int .i64 l) fu ?_ ?_
   .refine ⟨i,y,rfl,?_⟩;simp only[*,go_sem]
   rintro S ec F' T ⟨l,y,rfl,hk⟩;obtain ⟨ed,eh,et⟩:=T.pick [0,1,8,9] (by decide);simp only[*,go_sem] at ed eh et;have hl:cL (rg 29 54 [9,10]) ec w:=(T.gG (by decide)).trans (by simp only[*,go_sem]);clear T a8 a9 ba bb bc bd bj;obtain _|S:=S
   .exact absurd y (by simp only[aU,reduceCtorEq,not_false_eq_true])
   revert y;refine bS fun hn h q=>?_;unfold x9 at h;(try dsimp only at h);refine ag hJ (ag hJ ?_);refine ay hJ fun ho=>?_;refine de hJ mixed 14 1 (by simp only[*,go_sem]) (by kernel_rfl) ?_;revert h;refine cS (fun ev h=>?_) fun ev h=>?_
   .revert h;refine bS fun eQ eS h=>?_;obtain ⟨hp,hq,hr,ht⟩:=f.cW eS;revert h;refine bS fun e0 e1 h=>?_;obtain ⟨hv,hx,hy,hz⟩:=f.cW e1;revert h;refine bS fun hA e2 h=>?_;simp only[*,go_sem];refine ⟨_,bI hJ fun F dC=>kz eQ e0 e2,ck ?_⟩;simp only[*,go_sem];revert h;refine aY hJ (fun e3 h=>?_) fun e3 h=>?_
    .cases h;refine aI hJ (aT hJ ?_);refine ay hJ fun hB=>?_;apply ak hJ;simp only[*,go_sem];refine ⟨S,Nat.lt_succ_self _,_,Le.sub (List.Sublist.refl _),(IntKind.i64.wrap (l - 1)),q,rfl,?_⟩;simp only[*,go_sem]
    cases h;apply bR;simp only[go_sem];obtain rfl:=sI q;clear q;have h:=bl;dsimp only[aC] at h;simp only[*,go_sem];refine Qn.intro ⟨_,Le.sub (List.Sublist.refl _),l,h,rfl,?_⟩;simp only[*,go_sem]
   cases h;simp only[*,go_sem];refine cn hJ ?_;apply bR;simp only[go_sem];obtain rfl:=sI q;clear q;have h:=bl;dsimp only[aC] at h;refine Qn.intro ⟨_,Le.sub (List.Sublist.refl _),l,h,rfl,?_⟩;simp only[*,go_sem]
  rintro hD F' ⟨k,bm,rfl,hE,hF,hG,hI,hK,hL,hM,hN⟩;obtain rfl:=sI bm;clear bm;have h:=ea;dsimp only[aC] at h;clear a8 a9 ba bb bc bd bj;refine ag hJ (ag hJ ?_);refine ay hJ fun hP=>?_;apply ak hJ;simp only[*,go_sem];revert h;refine aY hJ (fun fa h=>?_) fun fa h=>?_
  .cases h;apply bR;simp only[go_sem];obtain rfl:=sI P;clear P;have h:=cl;dsimp only[aC] at h;simp only[*,go_sem];refine Qn.intro ⟨_,Le.sub (List.Sublist.refl _),d,e,g,h,rfl,f,?_⟩;simp only[*,go_sem]
  refine aI hJ (ag hJ ?_);refine ay hJ fun hQ=>?_;refine eI hJ mixed [13,14,15] (.pure 0 (.pure 1 (.pure 2 (.pure 3 (.pure 4 (.pure 5 (.pure 6 (.rd 7 (.pure 8 (.pure 9 (.pure 10 (.rd 11 (.pure 12 (.last 13 (.pure 14 (.last 15 .done)))))))))))))))) ⟨ro,[(b,Obj.cells d 3)]⟩ (by simp only[*,go_sem]) (by kernel_rfl) ?_;revert h;refine bS fun U fb h=>?_;obtain ⟨hR,hS,hT,hV⟩:=f.cW fb;revert h;refine bS fun V ff h=>?_;obtain ⟨fg,fi,hX,hY⟩:=f.cW ff;have bo:=f.gu fg fi U;revert h;refine bS fun hZ fl h=>?_;cases h;obtain ⟨fp,fq,h0,h1⟩:=bo.cW fl;have br:=bo.gu fp fq V;simp only[*,go_sem];apply ag hJ;obtain ⟨bs,W⟩:∃o,o=(cM (cM d (e).toNat [.int .i64 U]) (k).toNat [.int .i64 V]):=⟨_,rfl⟩
  refine cz (F:=⟨ro,[(b,Obj.cells bs 3)]⟩) hJ (by rw[W];exact Le.refl _) ?_;rw[<-W] at br;clear W;refine ay hJ fun h2=>?_;apply ak hJ;simp only[*,go_sem];refine ay hJ fun h3=>?_;apply ak hJ;simp only[*,go_sem];refine ⟨L,Nat.lt_succ_self _,_,Le.sub (List.Sublist.refl _),bs,(IntKind.i64.wrap (e+1)),(IntKind.i64.wrap (k - 1)),((g.set (e).toNat U).set (k).toNat V),P,rfl,br,?_⟩;simp only[*,go_sem]
 rintro h4 F' ⟨H,I,K,bz,rfl,fr,h5,h6,h7,h8,h9⟩;obtain rfl:=sI bz;clear bz;have h:=cd;dsimp only[aC] at h;cases h;clear ad hd ae k1 al ao;apply ag hJ;refine ay hJ fun ib=>?_;apply ak hJ;simp only[*,go_sem];apply aE;simp only[*,go_sem];exact ⟨_,fr,Le.sub (List.Sublist.refl _)⟩
def yc (u0:(List Int))(a:Int)(st:Int):Option (Fl Int (Bool×(List Int))):=
 cond (decide (st<a)) (af (bh u0 st) fun b=>af (bh u0 (IntKind.i64.wrap (st - 1))) fun c=>af (iU b c) fun d=>cond (!d) (some (.nx (IntKind.i64.wrap (st+1)))) (some (.bk st))) (some (.bk st))
def yd (u0:(List Int))(b:Int)(a:Int)(st:(Bool×Int×Int)):Option (Fl (Bool×Int×Int) (Bool×(List Int))):=
 cond (decide (st.2.2<5)) (af (af (aU (yc u0 a) fu st.2.1) fun o=>aC o (fun c=>some (.bk c)) (fun _ _=>none) (fun r=>some (.rt r)):Option (Fl Int (Bool×(List Int)))) fun o=>aC o (fun d=>cond ((d==a)) (some (.rt (true,u0))) (cond (decide ((IntKind.i64.wrap (a - b))<50)) (some (.rt (false,u0))) (none))) (fun _ _=>none) (fun r=>some (.rt r))) (some (.bk (st.1,st.2.1,st.2.2)))
def ye (u0:(List Int))(a:Int)(b:Int):Option (Bool×(List Int)):=
 cond (List.isEmpty u0) none (af (af (aU (yd u0 a b) fu (false,(IntKind.i64.wrap (a+1)),0)) fun o=>aC o (fun c=>some (.bk c.1)) (fun _ _=>none) (fun r=>some (.rt r)):Option (Fl Bool (Bool×(List Int)))) fun o=>aC o (fun d=>some (false,u0)) (fun _ _=>none) (fun r=>some r))
theorem IG {ro:Addr->Option Value}(u0:(List Int)){p:Value}{C:List (Nat×Obj)}(b:aQ rI ro 3 p u0 C)(f:Int)(g:Int){r:(Bool×(List Int))}(h:ye u0 f g=some r):aF Tryz.prog 198 #[p,.int .i64 f,.int .i64 g] ⟨ro,C⟩ (fun v G=>∃D,(v= .bool r.1/\aQ rI ro 3 p r.2 D)/\Le ⟨ro,D⟩ G):=by
 obtain ⟨d1,c2,rfl,a8⟩:=b.len;unfold ye at h;revert h;refine cS (fun E h=>?_) fun E h=>?_
 .cases h
 obtain ⟨c,k,rfl,rfl,a9⟩:=b.iT E;refine aF.go Tryz.func198 rfl Tryz.ntmps198 Tryz.results198 (by simp) fun main J hJ A H hd hs=>?_;have I:=hs 0;have k1:=hs 1;have K:=hs 2;clear hs;apply ag hJ;refine ay hJ fun ba=>?_;apply ak hJ;simp only[*,go_sem];apply ag hJ;refine ay hJ fun bb=>?_;apply ak hJ;simp only[*,go_sem];revert h;refine bS fun U h q=>?_;refine gL hJ (fun a F'=>∃(s:Bool),some (Fl.bk s:Fl Bool (Bool×(List Int)))=some U/\F'=⟨ro,[(c,Obj.cells k 3)]⟩/\sz a=133/\a.defers=[]/\slot a 0= .slice (some ⟨c,0,none⟩) u0.length c2/\slot a 6= .bool s) ?_ ?_
 .apply ag hJ;refine ay hJ fun bc=>?_;apply ak hJ;simp only[*,go_sem];apply aT hJ;revert h;refine bS fun V l t=>?_;refine bT hJ (rg 13 120 [6,7,8,9,10]) (fun m a F'=>∃(i:Bool) (n:Int) (v20:Int),aU (yd u0 f g) m (i,n,v20)=some V/\F'=⟨ro,[(c,Obj.cells k 3)]⟩/\slot a 6= .bool i/\slot a 7= .int .i64 n/\slot a 8= .int .i64 v20) fu ?_ ?_
  .refine ⟨false,(IntKind.i64.wrap (f+1)),0,l,rfl,?_⟩;simp only[*,go_sem]
  rintro L M F' N ⟨i,n,v20,l,rfl,O,P,Q⟩;obtain ⟨u,w,x⟩:=N.pick [0,1,2] (by decide);simp only[*,go_sem] at u w x;clear N H hd I k1 K;obtain _|L:=L
  .exact absurd l (by simp only[aU,reduceCtorEq,not_false_eq_true])
  revert l;refine bS fun bd h d=>?_;unfold yd at h;try dsimp only at h
  refine ag hJ (ag hJ ?_);refine ay hJ fun bj=>?_;apply ak hJ;simp only[*,go_sem];revert h;refine aY hJ (fun W h=>?_) fun W h=>?_
  .refine aI hJ (ag hJ ?_);apply aT hJ;revert h;refine bS fun X h Y=>?_;refine gL hJ (fun a F'=>∃(y:Int),some (Fl.bk y:Fl Int (Bool×(List Int)))=some X/\F'=⟨ro,[(c,Obj.cells k 3)]⟩/\sz a=133/\a.defers=[]/\cL (rg 13 120 [6,7,8,9,10]) a M/\slot a 0= .slice (some ⟨c,0,none⟩) u0.length c2/\slot a 1= .int .i64 f/\slot a 2= .int .i64 g/\slot a 6= .bool i/\slot a 7= .int .i64 y/\slot a 8= .int .i64 v20) ?_ ?_
   .apply aT hJ;revert h;refine bS fun Z o R=>?_;refine bT hJ (rg 17 18 [7]) (fun m a F'=>∃(e:Int),aU (yc u0 g) m e=some Z/\F'=⟨ro,[(c,Obj.cells k 3)]⟩/\slot a 7= .int .i64 e) fu ?_ ?_
    .refine ⟨n,o,rfl,?_⟩;simp only[*,go_sem]
    rintro z ab F' B ⟨e,o,rfl,bl⟩;obtain ⟨ad,ae,al⟩:=B.pick [0,1,2,6,8,13,14] (by decide);simp only[*,go_sem] at ad ae al;have bm:cL (rg 13 120 [6,7,8,9,10]) ab M:=(B.gG (by decide)).trans (by simp only[*,go_sem]);clear B u w x O P Q;obtain _|z:=z
    .exact absurd o (by simp only[aU,reduceCtorEq,not_false_eq_true])
    revert o;refine bS fun bo h j=>?_;unfold yc at h;(try dsimp only at h);refine ag hJ (ag hJ ?_);refine ay hJ fun br=>?_;refine de hJ mixed 16 1 (by simp only[*,go_sem]) (by kernel_rfl) ?_;revert h;refine cS (fun ao h=>?_) fun ao h=>?_
    .revert h;refine bS fun ar a0 h=>?_;obtain ⟨bs,bz,b0,b1⟩:=b.cW a0;revert h;refine bS fun a2 a3 h=>?_;obtain ⟨b2,b3,b4,b5⟩:=b.cW a3;revert h;refine bS fun ca a4 h=>?_;simp only[*,go_sem];refine ⟨_,bI hJ fun F cb=>kz ar a2 a4,ck ?_⟩;simp only[*,go_sem];revert h;refine aY hJ (fun a5 h=>?_) fun a5 h=>?_
     .cases h;refine aI hJ (aT hJ ?_);refine ay hJ fun cd=>?_;apply ak hJ;simp only[*,go_sem];refine ⟨z,Nat.lt_succ_self _,_,Le.sub (List.Sublist.refl _),(IntKind.i64.wrap (e+1)),j,rfl,?_⟩;simp only[*,go_sem]
     cases h;apply bR;simp only[go_sem];obtain rfl:=sI j;clear j;have h:=R;dsimp only[aC] at h;simp only[*,go_sem];refine Qn.intro ⟨_,Le.sub (List.Sublist.refl _),e,h,rfl,?_⟩;simp only[*,go_sem]
    cases h;simp only[*,go_sem];refine cn hJ ?_;apply bR;simp only[go_sem];obtain rfl:=sI j;clear j;have h:=R;dsimp only[aC] at h;refine Qn.intro ⟨_,Le.sub (List.Sublist.refl _),e,h,rfl,?_⟩;simp only[*,go_sem]
   rintro cf F' ⟨y,S,rfl,cl,cy,c0,da,db,dd,df,dk,dp⟩;obtain rfl:=sI S;clear S;have h:=Y;dsimp only[aC] at h;clear u w x O P Q;refine ag hJ (ag hJ ?_);refine ay hJ fun dq=>?_;apply ak hJ;simp only[*,go_sem];revert h;refine aY hJ (fun a6 h=>?_) fun a6 h=>?_
   .cases h;apply ag hJ;refine ay hJ fun ds=>?_;apply ak hJ;simp only[*,go_sem];obtain rfl:=sI d;clear d;have h:=t;dsimp only[aC] at h;cases h;have h:=q;dsimp only[aC] at h;cases h;apply aE;simp only[*,go_sem];exact ⟨_,b,Le.sub (List.Sublist.refl _)⟩
   refine aI hJ (ag hJ ?_);apply ag hJ;refine ay hJ fun dt=>?_;apply ak hJ;simp only[*,go_sem];revert h;refine aY hJ (fun a7 h=>?_) fun a7 h=>?_
   .cases h;apply ag hJ;refine ay hJ fun du=>?_;apply ak hJ;simp only[*,go_sem];obtain rfl:=sI d;clear d;have h:=t;dsimp only[aC] at h;cases h;have h:=q;dsimp only[aC] at h;cases h;apply aE;simp only[*,go_sem];exact ⟨_,b,Le.sub (List.Sublist.refl _)⟩
   cases h
  cases h;apply bR;simp only[go_sem];obtain rfl:=sI d;clear d;have h:=t;dsimp only[aC] at h;simp only[*,go_sem];refine Qn.intro ⟨_,Le.sub (List.Sublist.refl _),i,h,rfl,?_⟩;simp only[*,go_sem]
 rintro dv F' ⟨s,T,rfl,dC,dE,dT,ea⟩;obtain rfl:=sI T;clear T;have h:=q;dsimp only[aC] at h;cases h;clear H hd I k1 K;apply ag hJ;refine ay hJ fun eb=>?_;apply ak hJ;simp only[*,go_sem];apply aE;simp only[*,go_sem];exact ⟨_,b,Le.sub (List.Sublist.refl _)⟩
def yf (st:(Int×Int×Int×Bool×Bool×(List Int))):Option (Fl (Int×Int×Int×Bool×Bool×(List Int)) (Unit×(List Int))):=
 cond (decide ((IntKind.i64.wrap (st.2.1 - st.1))<=12)) (af (um st.2.2.2.2.2 st.1 st.2.1) fun j=>some (.rt ((),j.2))) (cond ((st.2.2.1==0)) (none) (af (cond (!st.2.2.2.1) (af (xZ st.2.2.2.2.2 st.1 st.2.1) fun k=>some (.bk ((IntKind.i64.wrap (st.2.2.1 - 1)),k.2))) (some (.bk (st.2.2.1,st.2.2.2.2.2))):Option (Fl (Int×(List Int)) (Unit×(List Int)))) fun o=>aC o (fun c=>af (xV c.2 st.1 st.2.1) fun b=>cond ((b.1.2==2)) (none) (af (cond (st.2.2.2.1) (cond (st.2.2.2.2.1) (cond ((b.1.2==1)) (af (ye b.2 st.1 st.2.1) fun f=>cond (f.1) (some (.rt ((),f.2))) (some (.bk f.2))) (some (.bk b.2))) (some (.bk b.2))) (some (.bk b.2)):Option (Fl (List Int) (Unit×(List Int)))) fun o=>aC o (fun e=>af (cond (decide (0<st.1)) (af (bh e (IntKind.i64.wrap (st.1 - 1))) fun l=>af (bh e b.1.1) fun m=>af (iU l m) fun n=>cond (!n) (af (yb e st.1 st.2.1 b.1.1) fun g=>some (.br 1 (g.1,g.2))) (some (.bk (st.1,e)))) (some (.bk (st.1,e))):Option (Fl (Int×(List Int)) (Unit×(List Int)))) fun o=>aC o (fun d=>af (x7 d.2 d.1 st.2.1 b.1.1) fun a=>af (fX (IntKind.i64.wrap (st.2.1 - st.1)) 8) fun h=>cond (decide ((IntKind.i64.wrap (a.1.1 - d.1))<(IntKind.i64.wrap (st.2.1 - a.1.1)))) (af (uo a.2 d.1 a.1.1 c.1) fun p=>some (.nx ((IntKind.i64.wrap (a.1.1+1)),st.2.1,c.1,(decide (h<=(IntKind.i64.wrap (a.1.1 - d.1)))),a.1.2,p.2))) (af (uo a.2 (IntKind.i64.wrap (a.1.1+1)) st.2.1 c.1) fun q=>some (.nx (d.1,a.1.1,c.1,(decide (h<=(IntKind.i64.wrap (st.2.1 - a.1.1)))),a.1.2,q.2)))) (fun _ i=>some (.nx (i.1,st.2.1,c.1,st.2.2.2.1,st.2.2.2.2.1,i.2))) (fun r=>some (.rt r))) (fun _ _=>none) (fun r=>some (.rt r)))) (fun _ _=>none) (fun r=>some (.rt r))))
def yg (u0:(List Int))(a:Int)(b:Int)(c:Int):Option (Unit×(List Int)):=
 cond (List.isEmpty u0) none (af (aU (yf) fu (a,b,c,true,true,u0)) fun o=>aC o (fun d=>some ((),d.2.2.2.2.2)) (fun _ _=>none) (fun r=>some r))
theorem II {ro:Addr->Option Value}(u0:(List Int)){H:Value}{T:List (Nat×Obj)}(I:aQ rI ro 3 H u0 T)(K:Int)(L:Int)(M:Int){r:(Unit×(List Int))}(h:yg u0 K L M=some r):aF Tryz.prog 178 #[H,.int .i64 K,.int .i64 L,.int .i64 M] ⟨ro,T⟩ (fun v G=>∃d,(v= .tuple #[]/\aQ rI ro 3 H r.2 d)/\Le ⟨ro,d⟩ G):=by
 obtain ⟨d1,c2,rfl,fU⟩:=I.len;unfold yg at h;revert h;refine cS (fun U h=>?_) fun U h=>?_
 .cases h
 obtain ⟨b,bd,rfl,rfl,gg⟩:=I.iT U;refine aF.go Tryz.func178 rfl Tryz.ntmps178 Tryz.results178 (by simp) fun main J hJ A bj hd hs=>?_;have bl:=hs 0;have k1:=hs 1;have bm:=hs 2;have bo:=hs 3;clear hs;apply ag hJ;refine ay hJ fun gl=>?_;apply ak hJ;simp only[*,go_sem];apply ag hJ;refine ay hJ fun gn=>?_;apply ak hJ;simp only[*,go_sem];apply aT hJ;revert h;refine bS fun br z V=>?_;refine bT hJ (rg 8 126 [1,2,3]) (fun m a F'=>∃(B:Array Value) (e:Int) (c:Int) (t:Int) (l:Bool) (n:Bool) (q:(List Int)),aU (yf) m (e,c,t,l,n,q)=some br/\F'=⟨ro,[(b,Obj.cells B 3)]⟩/\aQ rI ro 3 (.slice (some ⟨b,0,none⟩) u0.length c2) q [(b,Obj.cells B 3)]/\slot a 1= .int .i64 e/\slot a 2= .int .i64 c/\slot a 3= .int .i64 t/\slot a 8= .bool l/\slot a 9= .bool n) fu ?_ ?_
 .refine ⟨bd,K,L,M,true,true,u0,z,rfl,I,?_⟩;simp only[*,go_sem]
 rintro u N F' W ⟨B,e,c,t,l,n,q,z,rfl,O,bs,bz,b0,b1,b2⟩;obtain ⟨X,Y,Z⟩:=W.pick [0] (by decide);simp only[*,go_sem] at X Y Z;clear W bj hd bl k1 bm bo;obtain _|u:=u
 .exact absurd z (by simp only[aU,reduceCtorEq,not_false_eq_true])
 revert z;refine bS fun gp h o=>?_;unfold yf at h;try dsimp only at h
 refine aT hJ (ag hJ ?_);refine ay hJ fun gB=>?_;apply ak hJ;simp only[*,go_sem];refine ag hJ (ag hJ ?_);refine ay hJ fun gC=>?_;apply ak hJ;simp only[*,go_sem];revert h;refine aY hJ (fun b3 h=>?_) fun b3 h=>?_
 .apply ag hJ;refine ay hJ fun gM=>?_;apply ak hJ;revert h;refine bS fun gT b4 h=>?_;cases h;simp only[*,go_sem];refine dX hJ [] [] _ (Ct q O e c b4) (fun gV g0 f d g g1=>?_);obtain ⟨rfl,ab⟩:=f;obtain ⟨b5,rfl⟩:=ab.g6;simp only[aV] at g;subst d;refine ⟨⟨ro,[(b,Obj.cells b5 3)]⟩,Le.refl _,?_⟩;obtain rfl:=sI o;clear o;have h:=V;dsimp only[aC] at h;cases h;apply aE;simp only[*,go_sem];exact ⟨_,ab,Le.sub (List.Sublist.refl _)⟩
 refine aI hJ (ag hJ ?_);apply ag hJ;refine ay hJ fun g2=>?_;apply ak hJ;simp only[*,go_sem];revert h;refine aY hJ (fun ca h=>?_) fun ca h=>?_
 .cases h
 apply aI hJ;revert h;refine bS fun cb h cd=>?_;refine gL hJ (fun a F'=>∃(P:Array Value) (i:Int) (C:(List Int)),some (Fl.bk (i,C):Fl (Int×(List Int)) (Unit×(List Int)))=some cb/\F'=⟨ro,[(b,Obj.cells P 3)]⟩/\aQ rI ro 3 (.slice (some ⟨b,0,none⟩) u0.length c2) C [(b,Obj.cells P 3)]/\sz a=134/\a.defers=[]/\cL (rg 8 126 [1,2,3]) a N/\slot a 0= .slice (some ⟨b,0,none⟩) u0.length c2/\slot a 1= .int .i64 e/\slot a 2= .int .i64 c/\slot a 3= .int .i64 i/\slot a 8= .bool l/\slot a 9= .bool n/\slot a 10= .int .i64 (IntKind.i64.wrap (c - e))) ?_ ?_
 .apply ag hJ;refine ay hJ fun g3=>?_;apply ak hJ;simp only[*,go_sem];revert h;refine aY hJ (fun cf h=>?_) fun cf h=>?_
  .apply ag hJ;refine ay hJ fun g4=>?_;apply ak hJ;revert h;refine bS fun cl cy h=>?_;simp only[*,go_sem];refine dX hJ [] [] _ (ID q O e c cy) (fun ha hc f d g hf=>?_);obtain ⟨rfl,ad⟩:=f;obtain ⟨ae,rfl⟩:=ad.g6;simp only[aV] at g;subst d;refine ⟨⟨ro,[(b,Obj.cells ae 3)]⟩,Le.refl _,?_⟩;refine ay hJ fun hg=>?_;apply ak hJ;simp only[*,go_sem];refine Qn.intro ⟨_,Le.sub (List.Sublist.refl _),ae,(IntKind.i64.wrap (t - 1)),cl.2,h,rfl,ad,?_⟩;simp only[*,go_sem]
  apply aI hJ;simp only[*,go_sem];refine Qn.intro ⟨_,Le.sub (List.Sublist.refl _),B,t,q,h,rfl,O,?_⟩;simp only[*,go_sem]
 rintro hh F' ⟨P,i,C,al,rfl,c0,da,db,hi,dd,df,dk,dp,dq,ds,dt⟩;obtain rfl:=sI al;clear al;have h:=cd;dsimp only[aC] at h;clear X Y Z bs bz b0 b1 b2;apply ag hJ;refine ay hJ fun hj=>?_;apply ak hJ;revert h;refine bS fun k du h=>?_;simp only[*,go_sem];refine dX hJ [] [] _ (Ir C c0 e c du) (fun hk hl f d g hn=>?_);obtain ⟨rfl,w⟩:=f;obtain ⟨D,rfl⟩:=w.g6;simp only[aV] at g;subst d;refine ⟨⟨ro,[(b,Obj.cells D 3)]⟩,Le.refl _,?_⟩;apply aJ;simp only[*,go_sem];refine ag hJ (ag hJ ?_);refine ay hJ fun ho=>?_;apply ak hJ;simp only[*,go_sem];revert h;refine aY hJ (fun dv h=>?_) fun dv h=>?_
 .cases h
 apply aI hJ;revert h;refine bS fun dC h ao=>?_;refine gL hJ (fun a F'=>∃(x:Array Value) (s:(List Int)),some (Fl.bk s:Fl (List Int) (Unit×(List Int)))=some dC/\F'=⟨ro,[(b,Obj.cells x 3)]⟩/\aQ rI ro 3 (.slice (some ⟨b,0,none⟩) u0.length c2) s [(b,Obj.cells x 3)]/\sz a=134/\a.defers=[]/\cL (rg 8 126 [1,2,3]) a N/\slot a 0= .slice (some ⟨b,0,none⟩) u0.length c2/\slot a 1= .int .i64 e/\slot a 2= .int .i64 c/\slot a 3= .int .i64 i/\slot a 8= .bool l/\slot a 9= .bool n/\slot a 10= .int .i64 (IntKind.i64.wrap (c - e))/\slot a 11= .int .i64 k.1.1) ?_ ?_
 .apply ag hJ;refine ay hJ fun hp=>?_;apply ak hJ;revert h;refine cS (fun dE h=>?_) fun dE h=>?_
  .revert h;refine cS (fun dT h=>?_) fun dT h=>?_
   .simp only[*,go_sem];revert h;refine aY hJ (fun ea h=>?_) fun ea h=>?_
    .apply ag hJ;refine ay hJ fun hq=>?_;apply ak hJ;revert h;refine bS fun eb ec h=>?_;simp only[*,go_sem];refine dX hJ [] [] _ (IG k.2 w e c ec) (fun hr ht f d g hv=>?_);obtain ⟨rfl,Q⟩:=f;obtain ⟨ar,rfl⟩:=Q.g6;simp only[aV] at g;subst d;refine ⟨⟨ro,[(b,Obj.cells ar 3)]⟩,Le.refl _,?_⟩;revert h;refine aY hJ (fun ed h=>?_) fun ed h=>?_
     .cases h;have h:=ao;dsimp only[aC] at h;cases h;obtain rfl:=sI o;clear o;have h:=V;dsimp only[aC] at h;cases h;apply aE;simp only[*,go_sem];exact ⟨_,Q,Le.sub (List.Sublist.refl _)⟩
     apply aI hJ;simp only[*,go_sem];refine Qn.intro ⟨_,Le.sub (List.Sublist.refl _),ar,eb.2,h,rfl,Q,?_⟩;simp only[*,go_sem]
    apply aI hJ;simp only[*,go_sem];refine Qn.intro ⟨_,Le.sub (List.Sublist.refl _),D,k.2,h,rfl,w,?_⟩;simp only[*,go_sem]
   simp only[*,go_sem];refine cn hJ ?_;apply aI hJ;refine Qn.intro ⟨_,Le.sub (List.Sublist.refl _),D,k.2,h,rfl,w,?_⟩;simp only[*,go_sem]
  simp only[*,go_sem];refine cn hJ ?_;apply aI hJ;refine Qn.intro ⟨_,Le.sub (List.Sublist.refl _),D,k.2,h,rfl,w,?_⟩;simp only[*,go_sem]
 rintro hx F' ⟨x,s,a0,rfl,y,eh,et,hy,ev,eQ,eS,e0,e1,e2,e3,fa⟩;obtain rfl:=sI a0;clear a0;have h:=ao;dsimp only[aC] at h;clear da db dd df dk dp dq ds dt;revert h;refine bS fun fb h a2=>?_;refine gL hJ (fun a F'=>∃(R:Array Value) (p:Int) (E:(List Int)),some (Fl.bk (p,E):Fl (Int×(List Int)) (Unit×(List Int)))=some fb/\F'=⟨ro,[(b,Obj.cells R 3)]⟩/\aQ rI ro 3 (.slice (some ⟨b,0,none⟩) u0.length c2) E [(b,Obj.cells R 3)]/\sz a=134/\a.defers=[]/\cL (rg 8 126 [1,2,3]) a N/\slot a 0= .slice (some ⟨b,0,none⟩) u0.length c2/\slot a 1= .int .i64 p/\slot a 2= .int .i64 c/\slot a 3= .int .i64 i/\slot a 8= .bool l/\slot a 9= .bool n/\slot a 10= .int .i64 (IntKind.i64.wrap (c - e))/\slot a 11= .int .i64 k.1.1) ?_ ?_
 .apply ag hJ;refine ay hJ fun hz=>?_;refine de hJ mixed 15 1 (by simp only[*,go_sem]) (by kernel_rfl) ?_;revert h;refine cS (fun ff h=>?_) fun ff h=>?_
  .revert h;refine bS fun fg fi h=>?_;obtain ⟨hA,hB,hD,hE⟩:=y.cW fi;revert h;refine bS fun fl fp h=>?_;obtain ⟨hF,hG,hI,hK⟩:=y.cW fp;revert h;refine bS fun hL fq h=>?_;simp only[*,go_sem];refine ⟨_,bI hJ fun F hM=>kz fg fl fq,ck ?_⟩;simp only[*,go_sem];revert h;refine aY hJ (fun fr h=>?_) fun fr h=>?_
   .apply ag hJ;refine ay hJ fun hN=>?_;apply ak hJ;revert h;refine bS fun a3 fs h=>?_;cases h;simp only[*,go_sem];refine dX hJ [] [] _ (IF s y e c k.1.1 fs) (fun hP hQ f d g hR=>?_);obtain ⟨rfl,a4⟩:=f;obtain ⟨a5,rfl⟩:=a4.g6;simp only[aV] at g;subst d;refine ⟨⟨ro,[(b,Obj.cells a5 3)]⟩,Le.refl _,?_⟩;apply aJ;simp only[*,go_sem];apply ag hJ;refine ay hJ fun hS=>?_;apply ak hJ;simp only[*,go_sem];apply bR;simp only[go_sem];have h:=a2;dsimp only[aC] at h;cases h;simp only[*,go_sem];refine ⟨u,Nat.lt_succ_self _,_,Le.sub (List.Sublist.refl _),a5,a3.1,c,i,l,n,a3.2,o,rfl,a4,?_⟩;simp only[*,go_sem]
   apply aI hJ;simp only[*,go_sem];refine Qn.intro ⟨_,Le.sub (List.Sublist.refl _),x,e,s,h,rfl,y,?_⟩;simp only[*,go_sem]
  simp only[*,go_sem];refine cn hJ ?_;apply aI hJ;refine Qn.intro ⟨_,Le.sub (List.Sublist.refl _),x,e,s,h,rfl,y,?_⟩;simp only[*,go_sem]
 rintro hT F' ⟨R,p,E,a6,rfl,ft,hV,hX,hY,hZ,h0,h1,h2,h3,h4,h5,h6⟩;obtain rfl:=sI a6;clear a6;have h:=a2;dsimp only[aC] at h;clear eh et ev eQ eS e0 e1 e2 e3 fa;apply ag hJ;refine ay hJ fun h7=>?_;apply ak hJ;revert h;refine bS fun j fv h=>?_;simp only[*,go_sem];refine dX hJ [] [] _ (IE E ft p c k.1.1 fv) (fun h8 h9 f d g ib=>?_);obtain ⟨rfl,S⟩:=f;obtain ⟨fw,rfl⟩:=S.g6;simp only[aV] at g;subst d;refine ⟨⟨ro,[(b,Obj.cells fw 3)]⟩,Le.refl _,?_⟩;apply aJ;simp only[*,go_sem];apply ag hJ;refine ay hJ fun ic=>?_;apply ak hJ;simp only[*,go_sem];apply ag hJ;refine ay hJ fun ih=>?_;apply ak hJ;simp only[*,go_sem];apply ag hJ;refine ay hJ fun ik=>?_;apply ak hJ;revert h;refine bS fun a7 a8 h=>?_;obtain ⟨il,im⟩:=kW a8;clear a8;simp only[*,go_sem];apply ag hJ;refine ay hJ fun iv=>?_;apply ak hJ;simp only[*,go_sem];revert h;refine aY hJ (fun fx h=>?_) fun fx h=>?_
 .apply ag hJ;refine ay hJ fun ix=>?_;apply ak hJ;simp only[*,go_sem];apply ag hJ;refine ay hJ fun jC=>?_;apply ak hJ;revert h;refine bS fun fz fP h=>?_;cases h;simp only[*,go_sem];refine dX hJ [] [] _ (Cu j.2 S p j.1.1 i fP) (fun j1 j2 f d g kh=>?_);obtain ⟨rfl,a9⟩:=f;obtain ⟨ba,rfl⟩:=a9.g6;simp only[aV] at g;subst d;refine ⟨⟨ro,[(b,Obj.cells ba 3)]⟩,Le.refl _,?_⟩;refine ay hJ fun kj=>?_;apply ak hJ;simp only[*,go_sem];refine ⟨u,Nat.lt_succ_self _,_,Le.sub (List.Sublist.refl _),ba,(IntKind.i64.wrap (j.1.1+1)),c,i,(decide (a7<=(IntKind.i64.wrap (j.1.1 - p)))),j.1.2,fz.2,o,rfl,a9,?_⟩;simp only[*,go_sem]
 apply ag hJ;refine ay hJ fun kk=>?_;apply ak hJ;simp only[*,go_sem];apply ag hJ;refine ay hJ fun kl=>?_;apply ak hJ;revert h;refine bS fun fQ fS h=>?_;cases h;simp only[*,go_sem];refine dX hJ [] [] _ (Cu j.2 S (IntKind.i64.wrap (j.1.1+1)) c i fS) (fun km kn f d g kp=>?_);obtain ⟨rfl,bb⟩:=f;obtain ⟨bc,rfl⟩:=bb.g6;simp only[aV] at g;subst d;refine ⟨⟨ro,[(b,Obj.cells bc 3)]⟩,Le.refl _,?_⟩;refine ay hJ fun ks=>?_;apply ak hJ;simp only[*,go_sem];refine ⟨u,Nat.lt_succ_self _,_,Le.sub (List.Sublist.refl _),bc,p,j.1.1,i,(decide (a7<=(IntKind.i64.wrap (c - j.1.1)))),j.1.2,fQ.2,o,rfl,bb,?_⟩;simp only[*,go_sem]
def rz (u0:(List Int)):Option (Unit×(List Int)):=
 cond (List.isEmpty u0) none (af (uq (IntKind.u64.wrap (u0.length:Int))) fun a=>af (yg u0 0 (u0.length:Int) a) fun b=>some ((),b.2))
theorem IJ {ro:Addr->Option Value}(u0:(List Int)){b:Value}{d:List (Nat×Obj)}(c:aQ rI ro 3 b u0 d){r:(Unit×(List Int))}(h:rz u0=some r):aF Tryz.prog 143 #[b] ⟨ro,d⟩ (fun v G=>∃a,(v= .tuple #[]/\aQ rI ro 3 b r.2 a)/\Le ⟨ro,a⟩ G):=by
 obtain ⟨d1,c2,rfl,o⟩:=c.len;unfold rz at h;revert h;refine cS (fun e h=>?_) fun e h=>?_
 .cases h
 obtain ⟨g,p,rfl,rfl,q⟩:=c.iT e;refine aF.go Tryz.func143 rfl Tryz.ntmps143 Tryz.results143 (by simp) fun main J hJ A s hd hs=>?_;have t:=hs 0;clear hs;apply ag hJ;refine ay hJ fun u=>?_;apply ak hJ;simp only[*,go_sem,-h];refine ay hJ fun w=>?_;apply ak hJ;revert h;refine bS fun i j h=>?_;simp only[*,go_sem,-h];refine bn hJ _ (Cv (IntKind.u64.wrap (u0.length:Int)) j) (aJ ?_);revert h;refine bS fun x k h=>?_;simp only[*,go_sem,-h];refine dX hJ [] [] _ (II u0 c 0 (u0.length:Int) i k) (fun y z l a m B=>?_);obtain ⟨rfl,f⟩:=l;obtain ⟨n,rfl⟩:=f.g6;simp only[aV] at m;subst a;refine ⟨⟨ro,[(g,Obj.cells n 3)]⟩,Le.refl _,?_⟩;cases h;simp only[*,go_sem];exact ⟨_,f,Le.sub (List.Sublist.refl _)⟩
def kA (x:List Int)(j:Nat):Bool:=j==0||x.getD j 0 != x.getD (j - 1) 0
def gN (x:List Int):Nat->List Int
 |0=>[]
 |n+1=>gN x n++cond (kA x n) [x.getD n 0] []
theorem uu (x:List Int):∀n,n<=x.length->(∀j,j<n->kA x j=true)->gN x n=x.take n
 |0,_,_=>by simp[gN]
 |n+1,b,h=>by
  unfold gN
  rw[uu x n (by omega) (fun j c=>h j (by omega)),h n (by omega),List.take_succ]
  congr 1
  have a:n<x.length:=by omega
  simp[a]
theorem Cw (x:List Int){j:Nat}(h:j<1):kA x j=true:=by
 obtain rfl:j=0:=by omega
 rfl
def uv (u0:List Int):Option (List Int):=cond (List.isEmpty u0) none (some (gN u0 u0.length))
theorem IK {ro:Addr->Option Value}(u0:List Int){Q:Value}{aW:List (Nat×Obj)}(hg:aQ rI ro 3 Q u0 aW){r:List Int}(h:uv u0=some r):
  aF Tryz.prog 144 #[Q] ⟨ro,aW⟩ (fun v G=>∃R,aQ rI ro 3 v r R/\Le ⟨ro,R⟩ G):=by
 obtain ⟨ad,cap,rfl,le⟩:=hg.len
 unfold uv at h
 have a8:=jB h;clear h;rcases a8 with ⟨S,h⟩|⟨S,h⟩
 .cases h
 obtain ⟨b,F,rfl,rfl,cy⟩:=hg.iT S
 cases h
 have cS:u0.length<=1000000:=by obtain ⟨_,_,_,h,_⟩:=hg;exact h
 have c0:Tryz.prog.underlying 3=some (.int .i64):=by kernel_rfl
 refine aF.go Tryz.func144 rfl Tryz.ntmps144 Tryz.results144 (by simp) fun main J hJ A a9 hd hs=>?_
 have ba:=hs 0
 clear hs
 repeat refine ag hJ ?_
 refine ak hJ ?_
 simp only[*,go_sem]
 repeat refine ag hJ ?_
 refine ak hJ ?_
 simp only[*,go_sem]
 repeat refine ag hJ ?_
 by_cases h2:u0.length<2
 .refine ei hJ (by simp only[*,go_sem];simp;omega) ?_
  repeat refine ag hJ ?_
  refine ak hJ ?_
  simp only[*,go_sem]
  refine aE ?_
  simp only[*,go_sem]
  have e:gN u0 u0.length=u0:=by
   rw[uu u0 _ (Nat.le_refl _) (fun j c=>Cw u0 (by omega)),List.take_length]
  rw[e]
  exact ⟨_,hg,Le.refl _⟩
 refine dV hJ (by simp only[*,go_sem];simp;omega) ?_
 refine aI hJ ?_
 repeat refine ag hJ ?_
 refine ak hJ ?_
 simp only[*,go_sem]
 repeat refine ag hJ ?_
 refine aT hJ ?_
 refine bT hJ [3,4,5,10,11,12,13,14,15,16,17,18,19,20,21,22,23,24,25,26,27,28,29,30,31,32,33,34,35,36,37,38,39,40,41,42,43,44,45,46,47,48,49,50,51,52,53,54,55,56,57,58,59] (fun m u F'=>∃k:Nat,1<=k/\k<=u0.length/\u0.length - k<=m/\F'=⟨ro,[(b,Obj.cells F 3)]⟩/\slot u 3= .int .i64 (k:Int)/\∀j,j<k->kA u0 j=true) u0.length ?_ ?_
 .refine ⟨1,Nat.le_refl _,by omega,by omega,rfl,?_,fun j c=>Cw u0 c⟩
  simp only[*,go_sem]
  rfl
 .rintro bb g F' B ⟨k,da,T,db,rfl,bc,H⟩
  have bd:sz g=61:=by rw[B.size];simp only[*,go_sem]
  have bj:g.defers=[]:=by rw[B.defers];simp only[*,go_sem]
  have bk:slot g 0= .slice (some ⟨b,0,none⟩) u0.length cap:=by rw[B.cP 0 (by decide)];simp only[*,go_sem]
  clear B a9 hd ba
  repeat refine ag hJ ?_
  repeat refine ag hJ ?_
  refine ak hJ ?_
  simp only[*,go_sem]
  by_cases U:k<u0.length
  .have hb:decide (((k:Nat):Int)<(u0.length:Int))=true:=decide_eq_true (by omega)
   refine ei hJ (by simp only[*,go_sem]) ?_
   refine aI hJ ?_
   repeat refine ag hJ ?_
   refine aT hJ ?_
   repeat refine ag hJ ?_
   obtain ⟨p,rfl⟩:∃p,k=p+1:=⟨k - 1,by omega⟩
   have hw:IntKind.i64.wrap (((p+1:Nat):Int) - 1)=(p:Int):=by rw[IntWalk.i64_in _ ⟨by omega,by omega⟩];omega
   refine fE hJ mixed 9 ⟨ro,[(b,Obj.cells F 3)]⟩ (by simp only[*,go_sem]) (by kernel_rfl) ?_
   obtain ⟨l,V⟩:∃x,u0[p+1]?=some x:=⟨u0[p+1],by simp[U]⟩
   obtain ⟨I,K,L⟩:=hg.jD V
   obtain rfl:I=[.int .i64 l]:=K
   have W:=L 0 _ rfl
   simp only[go_sem] at W
   have dd:=(Array.getElem?_eq_some_iff.1 W).1
   obtain ⟨o,X⟩:∃x,u0[p]?=some x:=⟨u0[p],by simp[Nat.lt_of_succ_lt U]⟩
   obtain ⟨M,N,O⟩:=hg.jD X
   obtain rfl:M=[.int .i64 o]:=N
   have Y:=O 0 _ rfl
   simp only[go_sem] at Y
   have df:=(Array.getElem?_eq_some_iff.1 Y).1
   have dk:¬((p+1:Nat):Int)<0:=by omega
   have b2:((p+1:Nat):Int)<(u0.length:Int):=by omega
   have b3:¬(p:Int)<0:=by omega
   have b4:(p:Int)<(u0.length:Int):=by omega
   have b5:(0:Int)<=((p+1:Nat):Int):=by omega
   have dp:(0:Int)<=(p:Int):=by omega
   simp only[*,go_sem]
   have bl:u0.getD (p+1) 0=l:=by rw[List.getD_eq_getElem?_getD,V];rfl
   have bm:u0.getD p 0=o:=by rw[List.getD_eq_getElem?_getD,X];rfl
   have Z:kA u0 (p+1)=(l != o):=by unfold kA;rw[bl,Nat.add_sub_cancel,bm];simp
   clear L O
   by_cases P:l=o
   .subst P
    refine ei hJ (by simp only[*,go_sem,beq_self_eq_true]) ?_
    repeat refine ag hJ ?_
    refine ak hJ ?_
    have dq:p+1<=u0.length:=T
    have ds:p+1<=cap:=by omega
    have dt:((p+1:Nat):Int)<=(u0.length:Int):=by omega
    have du:u0.length<=cap:=le
    have dv:¬cap=p+1:=by omega
    simp only[*,go_sem]
    have bo:slot g 4=slot g 4:=rfl
    repeat refine ag hJ ?_
    refine ak hJ ?_
    simp only[*,go_sem]
    repeat refine ag hJ ?_
    refine aT hJ ?_
    have e0:gN u0 (p+2)=u0.take (p+1):=by
     show gN u0 (p+1)++cond (kA u0 (p+1)) _ _=_
     rw[Z,uu u0 _ T H];simp
    refine bT hJ [3,5,29,30,31,32,33,34,35,36,37,38,39,40,41,42,43,44,45,46,47,48,49,50,51,52,53] (fun br u F'=>∃(m w:Nat) (arr:Array Value) (x:List Int),1<=m/\m<=u0.length - (p+1)/\u0.length - (p+1) - m<=br/\F'=⟨ro,[(b,Obj.cells arr 3)]⟩/\slot u 5= .int .i64 (m:Int)/\slot u 3= .int .i64 (w:Int)/\
     aQ rI ro 3 (.slice (some ⟨b,0,none⟩) u0.length cap) x [(b,.cells arr 3)]/\x.length=u0.length/\(gN u0 (p+(1+m))).length=w/\w<=p+m/\x.take w=gN u0 (p+(1+m))/\∀j,p+m<=j->x[j]?=u0[j]?) u0.length ?_ ?_
    .refine ⟨1,p+1,F,u0,Nat.le_refl _,by omega,by omega,rfl,?_,?_,hg,rfl,?_,Nat.le_refl _,e0.symm,fun _ _=>rfl⟩
     .simp only[*,go_sem];rfl
     .simp only[*,go_sem]
     .show (gN u0 (p+2)).length=p+1
      rw[e0,List.length_take];omega
    .rintro ab C F' s ⟨m,w,arr,x,L,O,dC,rfl,dE,dT,d,ae,t,ea,D,E⟩
     have eb:sz C=61:=by rw[s.size];simp only[*,go_sem]
     have ec:C.defers=[]:=by rw[s.defers];simp only[*,go_sem]
     have ed:slot C 0= .slice (some ⟨b,0,none⟩) u0.length cap:=by rw[s.cP 0 (by decide)];simp only[*,go_sem]
     have eh:slot C 4= .slice (some ⟨b,p+1,none⟩) (u0.length - (p+1)) (cap - (p+1)):=by rw[s.cP 4 (by decide)];simp only[*,go_sem]
     clear s bd bj bk bc bo
     repeat refine ag hJ ?_
     refine ak hJ ?_
     simp only[*,go_sem]
     by_cases et:m<u0.length - (p+1)
     .have bs:decide (((m:Nat):Int)<((u0.length - (p+1):Nat):Int))=true:=decide_eq_true (by omega)
      refine ei hJ (by simp only[*,go_sem]) ?_
      refine aI hJ ?_
      repeat refine ag hJ ?_
      refine aT hJ ?_
      repeat refine ag hJ ?_
      obtain ⟨q,rfl⟩:∃q,m=q+1:=⟨m - 1,by omega⟩
      have ev:IntKind.i64.wrap (((q+1:Nat):Int) - 1)=(q:Int):=by rw[IntWalk.i64_in _ ⟨by omega,by omega⟩];omega
      refine fE hJ mixed 9 ⟨ro,[(b,Obj.cells arr 3)]⟩ (by simp only[*,go_sem]) (by kernel_rfl) ?_
      obtain ⟨a,al⟩:∃y,u0[p+(1+(q+1))]?=some y:=⟨u0[p+(1+(q+1))]'(by omega),List.getElem?_eq_getElem _⟩
      obtain ⟨I,K,ao⟩:=d.jD ((E _ (by omega)).trans al)
      obtain rfl:I=[.int .i64 a]:=K
      have ar:=ao 0 _ rfl
      simp only[go_sem] at ar
      have eQ:=(Array.getElem?_eq_some_iff.1 ar).1
      obtain ⟨f,a0⟩:∃y,u0[p+(1+q)]?=some y:=⟨u0[p+(1+q)]'(by omega),List.getElem?_eq_getElem _⟩
      obtain ⟨M,N,a2⟩:=d.jD ((E _ (by omega)).trans a0)
      obtain rfl:M=[.int .i64 f]:=N
      have a3:=a2 0 _ rfl
      simp only[go_sem] at a3
      have eS:=(Array.getElem?_eq_some_iff.1 a3).1
      have c1:¬((q+1:Nat):Int)<0:=by omega
      have c2:((q+1:Nat):Int)<((u0.length - (p+1):Nat):Int):=by omega
      have c3:¬(q:Int)<0:=by omega
      have c4:(q:Int)<((u0.length - (p+1):Nat):Int):=by omega
      have e2:(0:Int)<=((q+1:Nat):Int):=by omega
      have e3:(0:Int)<=(q:Int):=by omega
      simp only[*,go_sem]
      have a4:u0.getD (p+(1+(q+1))) 0=a:=by rw[List.getD_eq_getElem?_getD,al];rfl
      have bz:u0.getD (p+(1+q)) 0=f:=by rw[List.getD_eq_getElem?_getD,a0];rfl
      have bS:kA u0 (p+(1+(q+1)))=(a != f):=by
       unfold kA
       have b0:p+(1+(q+1)) - 1=p+(1+q):=by omega
       rw[b0,a4,bz]
       have:(p+(1+(q+1))==0)=false:=by simp
       rw[this,Bool.false_or]
      have e1:gN u0 (p+(1+(q+1+1)))=gN u0 (p+(1+(q+1)))++cond (a != f) [a] []:=by
       show gN u0 (p+(1+(q+1)))++cond (kA u0 (p+(1+(q+1)))) [u0.getD (p+(1+(q+1))) 0] []=_
       rw[bS,a4]
      have fa:IntKind.i64.wrap (((q+1:Nat):Int)+1)=((q+1+1:Nat):Int):=by rw[IntWalk.i64_in _ ⟨by omega,by omega⟩];omega
      clear ao a2 t
      have t:(gN u0 (p+(1+(q+1)))).length=w:=by rw[<-D,List.length_take];omega
      by_cases a5:a=f
      .subst a5
       simp only[bne_self_eq_false,cond_false,List.append_nil] at e1
       refine dV hJ (by simp only[*,go_sem,bne_self_eq_false]) ?_
       refine aI hJ ?_
       refine ak hJ ?_
       simp only[*,go_sem]
       refine ⟨ab - 1,by omega,_,Le.refl _,q+1+1,w,arr,x,by omega,by omega,by omega,rfl,?_,?_,d,ae,by rw[e1];exact t,by omega,by rw[e1];exact D,fun j c=>E j (by omega)⟩
       .simp only[*,go_sem]
       .simp only[*,go_sem]
      .have b1:(a != f)=true:=by simpa using a5
       rw[b1] at e1
       simp only[cond_true] at e1
       refine ei hJ (by simp only[*,go_sem]) ?_
       repeat refine ag hJ ?_
       refine ak hJ ?_
       have d1:(w:Int)<(u0.length:Int):=by omega
       have d2:¬(w:Int)<0:=by omega
       have d3:(0:Int)<=(w:Int):=by omega
       have fb:w<arr.size:=by omega
       simp only[*,go_sem]
       have ca:aQ rI ro 3 (.slice (some ⟨b,0,none⟩) u0.length cap) (x.set w a) [(b,Obj.cells (cM arr w [.int .i64 a]) 3)]:=by
        have cb:=d.tn (i:=w) (y:=a) (by omega) (cs:=[.int .i64 a]) rfl
        simpa only[tv,Nat.mul_one,Nat.add_zero] using cb
       have ff:IntKind.i64.wrap ((w:Int)+1)=((w+1:Nat):Int):=by rw[IntWalk.i64_in _ ⟨by omega,by omega⟩];omega
       refine ak hJ ?_
       simp only[*,go_sem]
       refine ak hJ ?_
       simp only[*,go_sem]
       refine ⟨ab - 1,by omega,_,Le.refl _,q+1+1,w+1,_,x.set w a,by omega,by omega,by omega,rfl,?_,?_,ca,by rw[List.length_set];exact ae,?_,by omega,?_,fun j c=>?_⟩
       .simp only[*,go_sem]
       .simp only[*,go_sem]
       .rw[e1,List.length_append,t];rfl
       .rw[e1,<-D,List.take_succ,List.take_set_of_le (Nat.le_refl _),List.getElem?_set_self (by omega)];rfl
       .rw[List.getElem?_set_ne (by omega)];exact E j (by omega)
     .have bs:decide (((m:Nat):Int)<((u0.length - (p+1):Nat):Int))=false:=decide_eq_false (by omega)
      refine dV hJ (by simp only[*,go_sem]) ?_
      refine bR ?_
      simp only[go_sem]
      have a6:p+(1+m)=u0.length:=by omega
      rw[a6] at t
      have d1:(w:Int)<=(u0.length:Int):=by omega
      have d2:¬(w:Int)<0:=by omega
      have d3:(0:Int)<=(w:Int):=by omega
      have d4:w<=u0.length:=by omega
      have d5:w<=cap:=by omega
      have d6:¬cap=w:=by omega
      have d7:(0:Int)<=(w:Int):=by omega
      have d8:(w:Int)<=(cap:Int):=by omega
      have cd:w+(u0.length - w)<=arr.size:=by
       obtain ⟨ls,cf,fg,-⟩:=id d
       rcases cf with ⟨a7,_,_⟩|⟨fi,fl,fp,a7,cl,hs,hle,_⟩
       .cases a7
       .cases cl
        have:rI.n=1:=rfl
        rw[this,Nat.mul_one] at hs
        omega
      repeat refine ag hJ ?_
      refine ak hJ ?_
      simp only[*,go_sem,ite_false,if_false]
      refine Hl (pre:=[]) (bp:=[]) (z:=.int .i64 0) (zc:=.int .i64 0) rfl (by kernel_rfl:Tryz.prog.underlying 35=some (.slice 3)) (by kernel_rfl) rfl rfl (by omega) (by simp[av]) cd ?_
      dsimp only[List.nil_append]
      repeat refine ag hJ ?_
      refine ak hJ ?_
      simp only[*,go_sem]
      refine aE ?_
      simp only[*,go_sem]
      refine ⟨_,?_,Le.refl _⟩
      have:=d.clear (k:=w) (by omega)
      rw[D,a6] at this
      simpa only[ite_self,Nat.sub_zero] using this
   .have aG:(l==o)=false:=by simpa using P
    refine dV hJ (by simp only[*,go_sem]) ?_
    refine aI hJ ?_
    refine ak hJ ?_
    have fq:IntKind.i64.wrap (((p+1:Nat):Int)+1)=((p+2:Nat):Int):=by rw[IntWalk.i64_in _ ⟨by omega,by omega⟩];omega
    simp only[*,go_sem]
    refine ⟨bb - 1,by omega,_,Le.refl _,p+2,by omega,by omega,by omega,rfl,by simp only[*,go_sem],fun j c=>?_⟩
    rcases Nat.lt_succ_iff_lt_or_eq.1 c with c|rfl
    .exact H j c
    .rw[Z];simpa using P
  .have hb:decide (((k:Nat):Int)<(u0.length:Int))=false:=decide_eq_false (by omega)
   refine dV hJ (by simp only[*,go_sem]) ?_
   refine bR ?_
   simp only[go_sem]
   repeat refine ag hJ ?_
   refine ak hJ ?_
   simp only[*,go_sem]
   refine aE ?_
   simp only[*,go_sem]
   obtain rfl:k=u0.length:=by omega
   rw[uu u0 _ (Nat.le_refl _) H,List.take_length]
   exact ⟨_,hg,Le.refl _⟩
end Go.Proofs.YtnaejeiofbpbkaaGreatDoor
end

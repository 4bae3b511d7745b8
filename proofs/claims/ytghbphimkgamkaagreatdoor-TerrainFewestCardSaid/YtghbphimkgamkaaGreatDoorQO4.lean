/- A part of the proof of a row and its tied card: QO4. -/
import Derived.Test.YtghbphimkgamkaaGreatDoorQO3
set_option linter.all false
section
namespace Go.Proofs.YtghbphimkgamkaaGreatDoor
open Go Go.Sep Go.Proofs
set_option maxRecDepth 100000
set_option maxHeartbeats 4000000
def wD (u0:((List Int)->(List Int)->Option Bool))(i22:Nat)(a:(List Int))(st:(List Int)):Option (Fl (List Int) (List Int)):=
 ag (u0 st a) fun b=>cond (b) (some (.nx a)) (some (.nx st))
def wE (u0:((List Int)->(List Int)->Option Bool))(a:(List Int))(b:(List (List Int))):Option (List Int):=
 ag (bD (wD u0) 0 b a) fun o=>ay o (fun c=>some c) (fun _ _=>none) (fun r=>some r)
theorem G9 {ro:Addr->Option Value}(u0:((List Int)->(List Int)->Option Bool)){dR:FuncId}{ep er:Array Value}(G:aJ Tryz.prog dR=true/\∀(aM:Addr->Option Value),Ext ro aM->∀(k:(List Int)) (l:Value) (o:(List Int)) (p:Value) (z:Bool),az rI aM l k->az rI aM p o->u0 k o=some z->aE Tryz.prog dR (ep++#[l,p]++er) ⟨aM,[]⟩ (fun v _=>v= .bool z))(g:(List Int)){s1:Value}(q:az rI ro s1 g)(b:(List (List Int))){s:Value}(t:az (rL rI) ro s b){r:(List Int)}(h:wE u0 g b=some r):eM Tryz.prog 115 #[.func (.func dR) ep er,s1,s] ro (fun v aM=>∃u,v=u/\az rI aM u r):=by
 obtain ⟨d3,c4,rfl,Y,Z,-⟩:=id q;obtain ⟨d10,ab,rfl,ad,w,-⟩:=id t;unfold wE at h;refine aE.go Tryz.func115 rfl Tryz.ntmps115 Tryz.results115 (by simp) fun main J hJ A H hd hs=>?_;have I:=hs 0;have k1:=hs 1;have K:=hs 2;clear hs;apply ah hJ;simp only[*,go_sem];refine af hJ (ah hJ ?_);simp only[*,go_sem];apply aN hJ;revert h;refine bS fun L c M=>?_;refine bQ hJ (rg 11 10 [1,8]) (fun m y F'=>∃(i22:Nat) (d16:Option Addr) (e:Nat) (d:(List Int)),m=b.length - i22/\i22<=b.length/\bD (wD u0) i22 (b.drop i22) d=some L/\F'=⟨ro,[]⟩/\az rI ro (.slice d16 d.length e) d/\slot y 11= .int .i64 (i22:Int)/\slot y 1= .slice d16 d.length e) b.length ?_ ?_
 .refine ⟨0,d3,c4,g,(Nat.sub_zero _).symm,Nat.zero_le _,c,rfl,q,?_⟩;simp only[*,go_sem]
 rintro ae al F' B ⟨i22,d16,e,d,rfl,ao,c,rfl,f,ar,a0⟩;obtain ⟨a2,a3,-⟩:=f.op;obtain ⟨N,O,P⟩:=B.pick [0,6,9,10] (by decide);simp only[*,go_sem] at N O P;clear B H hd I k1 K;apply ah hJ;simp only[*,go_sem];apply af hJ;rcases Nat.lt_or_ge i22 b.length with Q|C
 .refine cn hJ ?_;apply aI hJ;obtain ⟨D,i⟩:∃x,b[i22]?=some x:=⟨_,List.getElem?_eq_getElem Q⟩
  rw[dh i] at c;revert c;refine bS fun a4 h E=>?_;unfold wD at h;try dsimp only at h
  obtain ⟨a5,a6,R,S,F⟩:=t.el _ _ i;obtain ⟨a7,rfl,j⟩:=S;obtain ⟨d31,T,rfl,a8,a9,ba⟩:=id j;cases R;have U:=F 0 _ rfl;simp only[go_sem] at U;clear F i;refine af hJ (aN hJ (af hJ ?_));apply aj hJ;simp only[*,go_sem];apply ah hJ;revert h;refine bS fun bb V h=>?_;simp only[*,go_sem];refine bn hJ _ (G.2 _ (fun a v h=>aP a v h) d _ D _ _ (f.mono aP) (j.mono aP) V) ?_;revert h;refine aS hJ (fun W h=>?_) fun W h=>?_
  .cases h;apply aj hJ;simp only[*,go_sem];have X:=cw (n:=i22) (by have:=w;omega);apply aj hJ;simp only[*,go_sem];refine ⟨b.length - (i22+1),by omega,_,Le.sub (List.Sublist.refl _),i22+1,d31,T,D,rfl,by omega,E,rfl,j,?_⟩;simp only[*,go_sem]
  cases h;apply aI hJ;have X:=cw (n:=i22) (by have:=w;omega);apply aj hJ;simp only[*,go_sem];refine ⟨b.length - (i22+1),by omega,_,Le.sub (List.Sublist.refl _),i22+1,d16,e,d,rfl,by omega,E,rfl,f,?_⟩;simp only[*,go_sem]
 have bc:=Nat.not_lt.2 C;refine bT hJ ?_;rw[List.drop_eq_nil_of_le C] at c;obtain rfl:=sI c;clear c;have h:=M;dsimp only[ay] at h;cases h;apply bJ;simp only[go_sem];apply ah hJ;simp only[*,go_sem];apply aA;simp only[*,go_sem];exact ⟨_,Ext.refl _,Le.sub (List.nil_sublist _),_,rfl,f⟩
def wF (u0:(List Int))(a:(List Int))(st:(Bool×Int)):Option (Fl (Bool×Int) Bool):=
 cond (decide (st.2<(u0.length:Int))) (ag (aT u0 st.2) fun b=>ag (aT a st.2) fun c=>cond ((b != c)) (some (.rt false)) (some (.nx (st.1,(IntKind.i64.wrap (st.2+1)))))) (some (.bk (st.1,st.2)))
def wG (u0:(List Int))(a:(List Int)):Option Bool:=
 cond (((u0.length:Int) != (a.length:Int))) (some false) (ag (aQ (wF u0 a) fu (false,0)) fun o=>ay o (fun b=>some true) (fun _ _=>none) (fun r=>some r))
theorem He {ro:Addr->Option Value}(u0:(List Int)){s1:Value}(g:az rI ro s1 u0)(e:(List Int)){i:Value}(j:az rI ro i e){r:Bool}(h:wG u0 e=some r):aE Tryz.prog 15 #[s1,i] ⟨ro,[]⟩ (fun v _=>v= .bool r):=by
 obtain ⟨d3,c4,rfl,R,S,-⟩:=id g;obtain ⟨d10,T,rfl,U,V,-⟩:=id j;unfold wG at h;refine aE.go Tryz.func15 rfl Tryz.ntmps15 Tryz.results15 (by simp) fun main J hJ A t hd hs=>?_;have u:=hs 0;have k1:=hs 1;clear hs;apply ah hJ;simp only[*,go_sem];refine af hJ (ah hJ ?_);simp only[*,go_sem];revert h;refine aS hJ (fun w h=>?_) fun w h=>?_
 .cases h;apply ah hJ;simp only[*,go_sem];apply aA;simp only[*,go_sem]
 refine aI hJ (af hJ ?_);apply ah hJ;simp only[*,go_sem];apply aN hJ;revert h;refine bS fun x b k=>?_;refine bQ hJ (rg 11 15 [4,5]) (fun m l F'=>∃(c:Bool) (d:Int),aQ (wF u0 e) m (c,d)=some x/\F'=⟨ro,[]⟩/\slot l 4= .bool c/\slot l 5= .int .i64 d) fu ?_ ?_
 .refine ⟨false,0,b,rfl,?_⟩;simp only[*,go_sem]
 rintro f W F' n ⟨c,d,b,rfl,X,Y⟩;obtain ⟨y,z,B⟩:=n.pick [0,1] (by decide);simp only[*,go_sem] at y z B;clear n t hd u k1;obtain _|f:=f
 .exact absurd b (by simp only[aQ,reduceCtorEq,not_false_eq_true])
 revert b;refine bS fun Z h a=>?_;unfold wF at h;try dsimp only at h
 refine af hJ (ah hJ ?_);simp only[*,go_sem];revert h;refine aS hJ (fun C h=>?_) fun C h=>?_
 .refine aI hJ (af hJ ?_);refine aN hJ (af hJ ?_);refine cE hJ mixed 9 0 (by simp only[*,go_sem]) (by kernel_rfl) ?_;revert h;refine bS fun D E h=>?_;obtain ⟨ab,ad,o⟩:=cq E;obtain ⟨ae,F,G,H,p⟩:=g.el _ _ o;obtain rfl:F=[.int .i64 D]:=H;cases G;have I:=p 0 _ rfl;simp only[go_sem] at I;clear p o;revert h;refine bS fun K L h=>?_;obtain ⟨al,ao,q⟩:=cq L;obtain ⟨ar,M,N,O,s⟩:=j.el _ _ q;obtain rfl:M=[.int .i64 K]:=O;cases N;have P:=s 0 _ rfl;simp only[go_sem] at P;clear s q;simp only[*,go_sem];revert h;refine aS hJ (fun Q h=>?_) fun Q h=>?_
  .cases h;apply ah hJ;simp only[*,go_sem];obtain rfl:=sI a;clear a;have h:=k;dsimp only[ay] at h;cases h;apply aA;simp only[*,go_sem]
  cases h;refine aI hJ (aj hJ ?_);simp only[*,go_sem];refine ⟨f,Nat.lt_succ_self _,_,Le.sub (List.Sublist.refl _),c,(IntKind.i64.wrap (d+1)),a,rfl,?_⟩;simp only[*,go_sem]
 cases h;apply bJ;simp only[go_sem];obtain rfl:=sI a;clear a;have h:=k;dsimp only[ay] at h;cases h;apply ah hJ;simp only[*,go_sem];apply aA;simp only[*,go_sem]
def mK (u0:(List Int))(a:(List Int)):Option Bool:=
 ag (wG u0 a) fun b=>some b
theorem qz {ro:Addr->Option Value}(u0:(List Int)){s1:Value}(b:az rI ro s1 u0)(a:(List Int)){c:Value}(d:az rI ro c a){r:Bool}(h:mK u0 a=some r):aE Tryz.prog 64 #[s1,c] ⟨ro,[]⟩ (fun v _=>v= .bool r):=by
 obtain ⟨d3,c4,rfl,f,g,-⟩:=id b;obtain ⟨d10,i,rfl,j,k,-⟩:=id d;unfold mK at h;refine aE.go Tryz.func64 rfl Tryz.ntmps64 Tryz.results64 (by simp) fun main J hJ A l hd hs=>?_;have m:=hs 0;have k1:=hs 1;clear hs;apply ah hJ;simp only[*,go_sem];apply ah hJ;revert h;refine bS fun n e h=>?_;cases h;simp only[*,go_sem];refine bn hJ _ (He u0 (b.mono aP) a (d.mono aP) e) (aK ?_);simp only[*,go_sem];apply aA;simp only[*,go_sem]
def s4 (a:aU)(i10:Nat)(b:aU)(st:Int):Option (Fl Int Int):=
 cond (((a.back==b.back)&&(a.high==b.high))) (some (.rt (i10:Int))) (some (.nx st))
def s5 (u0:(List aU))(a:aU):Option Int:=
 ag (bD (s4 a) 0 u0 0) fun o=>ay o (fun b=>some (-1)) (fun _ _=>none) (fun r=>some r)
theorem Hf {ro:Addr->Option Value}(u0:(List aU)){s1:Value}(g:az jg ro s1 u0)(b:aU){r:Int}(h:s5 u0 b=some r):aE Tryz.prog 165 #[s1,.agg #[.int .i64 b.back,.int .i64 b.high]] ⟨ro,[]⟩ (fun v _=>v= .int .i64 r):=by
 obtain ⟨d3,c4,rfl,K,o,-⟩:=id g;unfold s5 at h;refine aE.go Tryz.func165 rfl Tryz.ntmps165 Tryz.results165 (by simp) fun main J hJ A p hd hs=>?_;have q:=hs 0;have k1:=hs 1;clear hs;apply ah hJ;simp only[*,go_sem];refine aC fun s L t=>?_;try simp only[av] at t
 refine af hJ (ah hJ ?_);simp only[*,go_sem];apply aN hJ;revert h;refine bS fun u a i=>?_;refine bQ hJ (rg 8 11 [4,5]) (fun m j F'=>∃(i10:Nat) (c:Int),m=u0.length - i10/\i10<=u0.length/\bD (s4 b) i10 (u0.drop i10) c=some u/\F'=⟨ro,(s,.cells #[.int .i64 b.back,.int .i64 b.high] 118)::[]⟩/\slot j 8= .int .i64 (i10:Int)/\slot j 4= .int .i64 c) u0.length ?_ ?_
 .refine ⟨0,0,(Nat.sub_zero _).symm,Nat.zero_le _,a,rfl,?_⟩;simp only[*,go_sem]
 rintro M N F' k ⟨i10,c,rfl,O,a,rfl,P,Q⟩;obtain ⟨w,y,z⟩:=k.pick [0,3,7] (by decide);simp only[*,go_sem] at w y z;clear k p hd q k1;apply ah hJ;simp only[*,go_sem];apply af hJ;rcases Nat.lt_or_ge i10 u0.length with B|l
 .refine cn hJ ?_;apply aI hJ;obtain ⟨C,d⟩:∃x,u0[i10]?=some x:=⟨_,List.getElem?_eq_getElem B⟩
  rw[dh d] at a;revert a;refine bS fun R h e=>?_;unfold s4 at h;try dsimp only at h
  obtain ⟨S,D,E,F,f⟩:=g.el _ _ d;obtain rfl:D=C.cells:=F;cases E;have G:=f 0 _ rfl;simp only[go_sem] at G;have H:=f 1 _ rfl;simp only[go_sem] at H;clear f d;refine af hJ (aN hJ (af hJ ?_));apply aj hJ;simp only[*,go_sem];apply af hJ;refine cE hJ mixed 6 1 (by simp only[*,go_sem]) (by kernel_rfl) ?_;simp only[*,go_sem];revert h;refine aS hJ (fun I h=>?_) fun I h=>?_
  .cases h;apply ah hJ;simp only[*,go_sem];obtain rfl:=sI e;clear e;have h:=i;dsimp only[ay] at h;cases h;apply aA;simp only[*,go_sem]
  cases h;apply aI hJ;have T:=cw (n:=i10) (by have:=o;omega);apply aj hJ;simp only[*,go_sem];refine ⟨u0.length - (i10+1),by omega,_,Le.sub (List.Sublist.refl _),i10+1,c,rfl,by omega,e,rfl,?_⟩;simp only[*,go_sem]
 have U:=Nat.not_lt.2 l;refine bT hJ ?_;rw[List.drop_eq_nil_of_le l] at a;obtain rfl:=sI a;clear a;have h:=i;dsimp only[ay] at h;cases h;apply bJ;simp only[go_sem];apply ah hJ;simp only[*,go_sem];apply aA;simp only[*,go_sem]
def qA (u0:(List aU))(a:aU):Option Bool:=
 ag (s5 u0 a) fun b=>some (decide (0<=b))
theorem Hg {ro:Addr->Option Value}(u0:(List aU)){s1:Value}(b:az jg ro s1 u0)(a:aU){r:Bool}(h:qA u0 a=some r):aE Tryz.prog 136 #[s1,.agg #[.int .i64 a.back,.int .i64 a.high]] ⟨ro,[]⟩ (fun v _=>v= .bool r):=by
 obtain ⟨d3,c4,rfl,e,f,-⟩:=id b;unfold qA at h;refine aE.go Tryz.func136 rfl Tryz.ntmps136 Tryz.results136 (by simp) fun main J hJ A g hd hs=>?_;have i:=hs 0;have k1:=hs 1;clear hs;apply ah hJ;simp only[*,go_sem];refine aC fun j k c=>?_;try simp only[av] at c
 apply ah hJ;revert h;refine bS fun l d h=>?_;cases h;simp only[*,go_sem];refine bn hJ _ (Hf u0 (b.mono aP) a d) (aK ?_);simp only[*,go_sem];apply aA;simp only[*,go_sem]
def s6 (a:(bV->Option Bool))(i9:Nat)(b:bV)(st:Int):Option (Fl Int Int):=
 ag (a b) fun c=>cond (c) (some (.rt (i9:Int))) (some (.nx st))
def s7 (u0:(List bV))(a:(bV->Option Bool)):Option Int:=
 ag (bD (s6 a) 0 u0 0) fun o=>ay o (fun b=>some (-1)) (fun _ _=>none) (fun r=>some r)
theorem Hh {ro:Addr->Option Value}(u0:(List bV)){s1:Value}(i:az di ro s1 u0)(d:(bV->Option Bool)){dD:FuncId}{eg ei:Array Value}(s:aJ Tryz.prog dD=true/\∀(aM:Addr->Option Value),Ext ro aM->∀(j:bV) (z:Bool),d j=some z->aE Tryz.prog dD (eg++#[j.v]++ei) ⟨aM,[]⟩ (fun v _=>v= .bool z)){r:Int}(h:s7 u0 d=some r):aE Tryz.prog 203 #[s1,.func (.func dD) eg ei] ⟨ro,[]⟩ (fun v _=>v= .int .i64 r):=by
 obtain ⟨d3,c4,rfl,N,t,-⟩:=id i;unfold s7 at h;refine aE.go Tryz.func203 rfl Tryz.ntmps203 Tryz.results203 (by simp) fun main J hJ A u hd hs=>?_;have w:=hs 0;have k1:=hs 1;clear hs;apply ah hJ;simp only[*,go_sem];refine af hJ (ah hJ ?_);simp only[*,go_sem];apply aN hJ;revert h;refine bS fun y b k=>?_;refine bQ hJ (rg 8 11 [4,5]) (fun m l F'=>∃(i9:Nat) (c:Int),m=u0.length - i9/\i9<=u0.length/\bD (s6 d) i9 (u0.drop i9) c=some y/\F'=⟨ro,[]⟩/\slot l 8= .int .i64 (i9:Int)/\slot l 4= .int .i64 c) u0.length ?_ ?_
 .refine ⟨0,0,(Nat.sub_zero _).symm,Nat.zero_le _,b,rfl,?_⟩;simp only[*,go_sem]
 rintro O P F' o ⟨i9,c,rfl,Q,b,rfl,R,S⟩;obtain ⟨B,C,D⟩:=o.pick [0,1,7] (by decide);simp only[*,go_sem] at B C D;clear o u hd w k1;apply ah hJ;simp only[*,go_sem];apply af hJ;rcases Nat.lt_or_ge i9 u0.length with E|p
 .refine cn hJ ?_;apply aI hJ;obtain ⟨q,e⟩:∃x,u0[i9]?=some x:=⟨_,List.getElem?_eq_getElem E⟩
  rw[dh e] at b;revert b;refine bS fun T h f=>?_;unfold s6 at h;try dsimp only at h
  obtain ⟨U,F,G,H,g⟩:=i.el _ _ e;obtain rfl:F=q.cells:=H;cases G;have I:=g 0 _ rfl;simp only[go_sem] at I;have K:=g 1 _ rfl;simp only[go_sem] at K;clear g e;refine af hJ (aN hJ (af hJ ?_));apply aj hJ;simp only[*,go_sem];apply ah hJ;revert h;refine bS fun V L h=>?_;simp only[*,go_sem];refine bn hJ _ (s.2 _ (fun a v h=>aP a v h) q _ L) ?_;revert h;refine aS hJ (fun M h=>?_) fun M h=>?_
  .cases h;apply ah hJ;simp only[*,go_sem];obtain rfl:=sI f;clear f;have h:=k;dsimp only[ay] at h;cases h;apply aA;simp only[*,go_sem]
  cases h;apply aI hJ;have W:=cw (n:=i9) (by have:=t;omega);apply aj hJ;simp only[*,go_sem];refine ⟨u0.length - (i9+1),by omega,_,Le.sub (List.Sublist.refl _),i9+1,c,rfl,by omega,f,rfl,?_⟩;simp only[*,go_sem]
 have X:=Nat.not_lt.2 p;refine bT hJ ?_;rw[List.drop_eq_nil_of_le p] at b;obtain rfl:=sI b;clear b;have h:=k;dsimp only[ay] at h;cases h;apply bJ;simp only[go_sem];apply ah hJ;simp only[*,go_sem];apply aA;simp only[*,go_sem]
def qB (u0:(List bV))(a:(bV->Option Bool)):Option Bool:=
 ag (s7 u0 a) fun b=>some (decide (0<=b))
theorem Hi {ro:Addr->Option Value}(u0:(List bV)){s1:Value}(b:az di ro s1 u0)(a:(bV->Option Bool)){dD:FuncId}{eg ei:Array Value}(c:aJ Tryz.prog dD=true/\∀(aM:Addr->Option Value),Ext ro aM->∀(d:bV) (z:Bool),a d=some z->aE Tryz.prog dD (eg++#[d.v]++ei) ⟨aM,[]⟩ (fun v _=>v= .bool z)){r:Bool}(h:qB u0 a=some r):aE Tryz.prog 187 #[s1,.func (.func dD) eg ei] ⟨ro,[]⟩ (fun v _=>v= .bool r):=by
 obtain ⟨d3,c4,rfl,g,i,-⟩:=id b;unfold qB at h;refine aE.go Tryz.func187 rfl Tryz.ntmps187 Tryz.results187 (by simp) fun main J hJ A j hd hs=>?_;have k:=hs 0;have k1:=hs 1;clear hs;apply ah hJ;simp only[*,go_sem];apply ah hJ;revert h;refine bS fun l e h=>?_;cases h;simp only[*,go_sem];refine bn hJ _ (Hh (dD:=dD) (eg:=eg) (ei:=ei) u0 (b.mono aP) a ⟨c.1,fun _ f=>c.2 _ (Ext.trans aP f)⟩ e) (aK ?_);simp only[*,go_sem];apply aA;simp only[*,go_sem]
def s8 (a:(aU->Option Bool))(i9:Nat)(b:aU)(st:Int):Option (Fl Int Int):=
 ag (a b) fun c=>cond (c) (some (.rt (i9:Int))) (some (.nx st))
def s9 (u0:(List aU))(a:(aU->Option Bool)):Option Int:=
 ag (bD (s8 a) 0 u0 0) fun o=>ay o (fun b=>some (-1)) (fun _ _=>none) (fun r=>some r)
theorem Hj {ro:Addr->Option Value}(u0:(List aU)){s1:Value}(i:az jg ro s1 u0)(d:(aU->Option Bool)){dD:FuncId}{eg ei:Array Value}(s:aJ Tryz.prog dD=true/\∀(aM:Addr->Option Value),Ext ro aM->∀(j:aU) (z:Bool),d j=some z->aE Tryz.prog dD (eg++#[j.v]++ei) ⟨aM,[]⟩ (fun v _=>v= .bool z)){r:Int}(h:s9 u0 d=some r):aE Tryz.prog 197 #[s1,.func (.func dD) eg ei] ⟨ro,[]⟩ (fun v _=>v= .int .i64 r):=by
 obtain ⟨d3,c4,rfl,N,t,-⟩:=id i;unfold s9 at h;refine aE.go Tryz.func197 rfl Tryz.ntmps197 Tryz.results197 (by simp) fun main J hJ A u hd hs=>?_;have w:=hs 0;have k1:=hs 1;clear hs;apply ah hJ;simp only[*,go_sem];refine af hJ (ah hJ ?_);simp only[*,go_sem];apply aN hJ;revert h;refine bS fun y b k=>?_;refine bQ hJ (rg 8 11 [4,5]) (fun m l F'=>∃(i9:Nat) (c:Int),m=u0.length - i9/\i9<=u0.length/\bD (s8 d) i9 (u0.drop i9) c=some y/\F'=⟨ro,[]⟩/\slot l 8= .int .i64 (i9:Int)/\slot l 4= .int .i64 c) u0.length ?_ ?_
 .refine ⟨0,0,(Nat.sub_zero _).symm,Nat.zero_le _,b,rfl,?_⟩;simp only[*,go_sem]
 rintro O P F' o ⟨i9,c,rfl,Q,b,rfl,R,S⟩;obtain ⟨B,C,D⟩:=o.pick [0,1,7] (by decide);simp only[*,go_sem] at B C D;clear o u hd w k1;apply ah hJ;simp only[*,go_sem];apply af hJ;rcases Nat.lt_or_ge i9 u0.length with E|p
 .refine cn hJ ?_;apply aI hJ;obtain ⟨q,e⟩:∃x,u0[i9]?=some x:=⟨_,List.getElem?_eq_getElem E⟩
  rw[dh e] at b;revert b;refine bS fun T h f=>?_;unfold s8 at h;try dsimp only at h
  obtain ⟨U,F,G,H,g⟩:=i.el _ _ e;obtain rfl:F=q.cells:=H;cases G;have I:=g 0 _ rfl;simp only[go_sem] at I;have K:=g 1 _ rfl;simp only[go_sem] at K;clear g e;refine af hJ (aN hJ (af hJ ?_));apply aj hJ;simp only[*,go_sem];apply ah hJ;revert h;refine bS fun V L h=>?_;simp only[*,go_sem];refine bn hJ _ (s.2 _ (fun a v h=>aP a v h) q _ L) ?_;revert h;refine aS hJ (fun M h=>?_) fun M h=>?_
  .cases h;apply ah hJ;simp only[*,go_sem];obtain rfl:=sI f;clear f;have h:=k;dsimp only[ay] at h;cases h;apply aA;simp only[*,go_sem]
  cases h;apply aI hJ;have W:=cw (n:=i9) (by have:=t;omega);apply aj hJ;simp only[*,go_sem];refine ⟨u0.length - (i9+1),by omega,_,Le.sub (List.Sublist.refl _),i9+1,c,rfl,by omega,f,rfl,?_⟩;simp only[*,go_sem]
 have X:=Nat.not_lt.2 p;refine bT hJ ?_;rw[List.drop_eq_nil_of_le p] at b;obtain rfl:=sI b;clear b;have h:=k;dsimp only[ay] at h;cases h;apply bJ;simp only[go_sem];apply ah hJ;simp only[*,go_sem];apply aA;simp only[*,go_sem]
def tc (u0:(List aU))(a:(aU->Option Bool)):Option Bool:=
 ag (s9 u0 a) fun b=>some (decide (0<=b))
theorem Hl {ro:Addr->Option Value}(u0:(List aU)){s1:Value}(b:az jg ro s1 u0)(a:(aU->Option Bool)){dD:FuncId}{eg ei:Array Value}(c:aJ Tryz.prog dD=true/\∀(aM:Addr->Option Value),Ext ro aM->∀(d:aU) (z:Bool),a d=some z->aE Tryz.prog dD (eg++#[d.v]++ei) ⟨aM,[]⟩ (fun v _=>v= .bool z)){r:Bool}(h:tc u0 a=some r):aE Tryz.prog 179 #[s1,.func (.func dD) eg ei] ⟨ro,[]⟩ (fun v _=>v= .bool r):=by
 obtain ⟨d3,c4,rfl,g,i,-⟩:=id b;unfold tc at h;refine aE.go Tryz.func179 rfl Tryz.ntmps179 Tryz.results179 (by simp) fun main J hJ A j hd hs=>?_;have k:=hs 0;have k1:=hs 1;clear hs;apply ah hJ;simp only[*,go_sem];apply ah hJ;revert h;refine bS fun l e h=>?_;cases h;simp only[*,go_sem];refine bn hJ _ (Hj (dD:=dD) (eg:=eg) (ei:=ei) u0 (b.mono aP) a ⟨c.1,fun _ f=>c.2 _ (Ext.trans aP f)⟩ e) (aK ?_);simp only[*,go_sem];apply aA;simp only[*,go_sem]
def qC (a:(aZ->Option Bool))(i38:Nat)(b:aZ)(st:Int):Option (Fl Int Int):=
 ag (a b) fun c=>cond (c) (some (.nx (IntKind.i64.wrap (st+1)))) (some (.nx st))
def od (u0:cO)(b:(aZ->Option Bool)):Option Int:=
 ag (bD (qC b) 0 u0.all 0) fun o=>ay o (fun a=>cond ((a==(u0.all.length:Int))) (some 1) (cond ((a==0)) (some 2) (some 0))) (fun _ _=>none) (fun r=>some r)
theorem Bn {ro:Addr->Option Value}(u0:cO){s1 e f g:Value}(Z:bL ro u0.book s1 e f g){k:Value}(l:az ia ro k u0.all)(i:(aZ->Option Bool)){dD:FuncId}{eg ei:Array Value}(y:aJ Tryz.prog dD=true/\∀(aM:Addr->Option Value),Ext ro aM->∀(o:aZ) (z:Bool),i o=some z->aE Tryz.prog dD (eg++#[o.v]++ei) ⟨aM,[]⟩ (fun v _=>v= .bool z)){r:Int}(h:od u0 i=some r):aE Tryz.prog 90 #[.agg #[.int .i64 u0.book.bH,.int .i64 u0.book.bP,.int .i64 u0.book.bf.num,.int .i64 u0.book.bf.den,s1,e,f,g,k],.func (.func dD) eg ei] ⟨ro,[]⟩ (fun v _=>v= .int .i64 r):=by
 obtain ⟨d31,B,rfl,ab,p,-⟩:=id l;unfold od at h;refine aE.go Tryz.func90 rfl Tryz.ntmps90 Tryz.results90 (by simp) fun main J hJ A C hd hs=>?_;have D:=hs 0;have k1:=hs 1;clear hs;apply ah hJ;simp only[*,go_sem];refine aC fun E ad F=>?_;try simp only[av] at F
 apply ah hJ;simp only[*,go_sem];refine af hJ (ah hJ ?_);simp only[*,go_sem];apply aN hJ;revert h;refine bS fun G b H=>?_;refine bQ hJ (rg 11 10 [5,7]) (fun m q F'=>∃(i38:Nat) (c:Int),m=u0.all.length - i38/\i38<=u0.all.length/\bD (qC i) i38 (u0.all.drop i38) c=some G/\F'=⟨ro,(E,kn u0 s1 e f g (sl d31 u0.all B))::[]⟩/\slot q 11= .int .i64 (i38:Int)/\slot q 5= .int .i64 c) u0.all.length ?_ ?_
 .refine ⟨0,0,(Nat.sub_zero _).symm,Nat.zero_le _,b,rfl,?_⟩;simp only[*,go_sem]
 rintro ae al F' s ⟨i38,c,rfl,ao,b,rfl,ar,a0⟩;obtain ⟨I,K,L⟩:=s.pick [1,2,4,9,10] (by decide);simp only[*,go_sem] at I K L;clear s C hd D k1;apply ah hJ;simp only[*,go_sem];apply af hJ;rcases Nat.lt_or_ge i38 u0.all.length with M|t
 .refine cn hJ ?_;apply aI hJ;obtain ⟨u,j⟩:∃x,u0.all[i38]?=some x:=⟨_,List.getElem?_eq_getElem M⟩
  rw[dh j] at b;revert b;refine bS fun a2 h w=>?_;unfold qC at h;try dsimp only at h
  obtain ⟨a3,N,O,P,d⟩:=l.el _ _ j;obtain rfl:N=u.cells:=P;cases O;have Q:=d 0 _ rfl;simp only[go_sem] at Q;have R:=d 1 _ rfl;simp only[go_sem] at R;have S:=d 2 _ rfl;simp only[go_sem] at S;clear d j;refine af hJ (aN hJ (af hJ ?_));apply aj hJ;simp only[*,go_sem];refine aC fun a4 a5 T=>?_;try simp only[av] at T
  apply ah hJ;revert h;refine bS fun a6 U h=>?_;simp only[*,go_sem];refine bn hJ _ (y.2 _ (fun a v h=>aP a v h) u _ U) ?_;revert h;refine aS hJ (fun V h=>?_) fun V h=>?_
  .cases h;apply aj hJ;simp only[*,go_sem];have W:=cw (n:=i38) (by have:=p;omega);apply aj hJ;simp only[*,go_sem];refine ⟨u0.all.length - (i38+1),by omega,_,Le.sub (List.Sublist.cons _ (List.Sublist.refl _)),i38+1,(IntKind.i64.wrap (c+1)),rfl,by omega,w,rfl,?_⟩;simp only[*,go_sem]
  cases h;apply aI hJ;have W:=cw (n:=i38) (by have:=p;omega);apply aj hJ;simp only[*,go_sem];refine ⟨u0.all.length - (i38+1),by omega,_,Le.sub (List.Sublist.cons _ (List.Sublist.refl _)),i38+1,c,rfl,by omega,w,rfl,?_⟩;simp only[*,go_sem]
 have a7:=Nat.not_lt.2 t;refine bT hJ ?_;rw[List.drop_eq_nil_of_le t] at b;obtain rfl:=sI b;clear b;have h:=H;dsimp only[ay] at h;apply bJ;simp only[go_sem];refine af hJ (ah hJ ?_);simp only[*,go_sem];refine aN hJ (af hJ ?_);apply aj hJ;simp only[*,go_sem];revert h;refine aS hJ (fun X h=>?_) fun X h=>?_
 .cases h;apply ah hJ;simp only[*,go_sem];apply aA;simp only[*,go_sem]
 apply ah hJ;simp only[*,go_sem];revert h;refine aS hJ (fun Y h=>?_) fun Y h=>?_
 .cases h;apply ah hJ;simp only[*,go_sem];apply aA;simp only[*,go_sem]
 cases h;refine aI hJ (af hJ ?_);apply aj hJ;simp only[*,go_sem];apply aA;simp only[*,go_sem]
def qD (u0:bV)(a:ak)(w1:aZ):Option Bool:=
 ag (aZ.get w1 u0.aY) fun b=>ag (iI a u0.aY b) fun c=>ag (ga a c) fun d=>some (!(d==u0.bw))
theorem Ho {ro:Addr->Option Value}(u0:bV)(a:ak){b:Nat}(y:ro ⟨b,0,none⟩=some (.int .i64 a.bH))(z:ro ⟨b,1,none⟩=some (.int .i64 a.bP))(B:ro ⟨b,2,none⟩=some (.int .i64 a.bf.num))(C:ro ⟨b,3,none⟩=some (.int .i64 a.bf.den)){s1:Value}(e:az fj ro s1 a.an)(D:ro ⟨b,4,none⟩=some (s1)){j:Value}(f:az eI ro j a.props)(E:ro ⟨b,5,none⟩=some (j)){k:Value}(g:az e8 ro k a.aG)(G:ro ⟨b,6,none⟩=some (k)){l:Value}(i:az di ro l a.told)(H:ro ⟨b,7,none⟩=some (l))(w1:aZ){d:Nat}(o:ro ⟨d,0,none⟩=some (.int .i64 w1.e0))(p:ro ⟨d,1,none⟩=some (.int .i64 w1.e1))(q:ro ⟨d,2,none⟩=some (.int .i64 w1.e2)){r:Bool}(h:qD u0 a w1=some r):aE Tryz.prog 188 #[.agg #[.int .i64 u0.aY,.bool u0.bw],.pointer (some ⟨b,0,none⟩),.pointer (some ⟨d,0,none⟩)] ⟨ro,[]⟩ (fun v _=>v= .bool r):=by
 obtain ⟨d3,c4,rfl,I,K,-⟩:=id e;obtain ⟨d10,L,rfl,M,N,-⟩:=id f;obtain ⟨d17,O,rfl,P,Q,-⟩:=id g;obtain ⟨d24,R,rfl,S,T,-⟩:=id i;unfold qD at h;refine aE.go Tryz.func188 rfl Tryz.ntmps188 Tryz.results188 (by simp) fun main J hJ A U hd hs=>?_;have V:=hs 0;have k1:=hs 1;have W:=hs 2;clear hs;apply ah hJ;simp only[*,go_sem];refine aC fun X Y s=>?_;try simp only[av] at s
 apply af hJ;refine cE hJ mixed 14 1 (by simp only[*,go_sem]) (by kernel_rfl) ?_;revert h;refine bS fun t m h=>?_;obtain ⟨Z,ab,n⟩:=aZ.get_some m;clear n;have n:=aZ.GO m o p q;revert h;refine bS fun u w h=>?_;simp only[*,go_sem];refine ⟨_,bE hJ fun F c=>mC a ⟨(e.mono (ck c)),(f.mono (ck c)),(g.mono (ck c)),(i.mono (ck c))⟩ u0.aY t w,cc ?_⟩;revert h;refine bS fun ad x h=>?_;cases h;simp only[*,go_sem];refine ⟨_,bE hJ fun F c=>mJ a ⟨(e.mono (ck c)),(f.mono (ck c)),(g.mono (ck c)),(i.mono (ck c))⟩ u x,cc ?_⟩;simp only[*,go_sem];apply aA;simp only[*,go_sem]
def oe (u0:ak)(a:aZ):Option Bool:=
 ag (qB u0.told (fun b=>qD b u0 a)) fun c=>some (!c)
theorem Hp {ro:Addr->Option Value}(u0:ak){s1 f g i:Value}(b:bL ro u0 s1 f g i)(c:aZ){r:Bool}(h:oe u0 c=some r):aE Tryz.prog 158 #[bv u0 s1 f g i,.agg #[.int .i64 c.e0,.int .i64 c.e1,.int .i64 c.e2]] ⟨ro,[]⟩ (fun v _=>v= .bool r):=by
 obtain ⟨d3,c4,rfl,q,s,-⟩:=id b.e;obtain ⟨d10,u,rfl,w,x,-⟩:=id b.p;obtain ⟨d17,z,rfl,B,C,-⟩:=id b.y;obtain ⟨d24,D,rfl,E,F,-⟩:=id b.t;unfold oe at h;refine aE.go Tryz.func158 rfl Tryz.ntmps158 Tryz.results158 (by simp) fun main J hJ A G hd hs=>?_;have H:=hs 0;have k1:=hs 1;clear hs;apply ah hJ;simp only[*,go_sem];refine aC fun j I k=>?_;try simp only[av] at k
 refine aC fun l K m=>?_;try simp only[av] at m
 apply ah hJ;revert h;refine bS fun L n h=>?_;cases h;simp only[*,go_sem];refine bn hJ _ (Hi (dD:=188) (eg:=#[]) (ei:=#[.pointer (some ⟨j,0,none⟩),.pointer (some ⟨l,0,none⟩)]) u0.told (b.t.mono aP) (fun d=>qD d u0 c) ⟨by simp only[go_sem],fun M a d N o=>by simp only[go_sem];exact Ho d u0 (a _ _ (by simp only[aa.cx,go_sem, *])) (a _ _ (by simp only[aa.cx,go_sem, *])) (a _ _ (by simp only[aa.cx,go_sem, *])) (a _ _ (by simp only[aa.cx,go_sem, *])) ((b.e.mono aP).mono a) (a _ _ (by simp only[aa.cx,go_sem, *])) ((b.p.mono aP).mono a) (a _ _ (by simp only[aa.cx,go_sem, *])) ((b.y.mono aP).mono a) (a _ _ (by simp only[aa.cx,go_sem, *])) ((b.t.mono aP).mono a) (a _ _ (by simp only[aa.cx,go_sem, *])) c (a _ _ (by simp only[aa.cx,go_sem, *])) (a _ _ (by simp only[aa.cx,go_sem, *])) (a _ _ (by simp only[aa.cx,go_sem, *])) o⟩ n) (aK ?_);simp only[*,go_sem];apply aA;simp only[*,go_sem]
def og (u0:ak)(a:(List aU)):Option Bool:=
 ag (tc a (ga u0)) fun b=>some (!b)
theorem Hq {ro:Addr->Option Value}(u0:ak){s1 c d f:Value}(a:bL ro u0 s1 c d f)(g:(List aU)){i:Value}(j:az jg ro i g){r:Bool}(h:og u0 g=some r):aE Tryz.prog 145 #[bv u0 s1 c d f,i] ⟨ro,[]⟩ (fun v _=>v= .bool r):=by
 obtain ⟨d31,n,rfl,o,q,-⟩:=id j;unfold og at h;refine aE.go Tryz.func145 rfl Tryz.ntmps145 Tryz.results145 (by simp) fun main J hJ A s hd hs=>?_;have u:=hs 0;have k1:=hs 1;clear hs;apply ah hJ;simp only[*,go_sem];refine aC fun w x k=>?_;try simp only[av] at k
 apply ah hJ;revert h;refine bS fun z l h=>?_;cases h;simp only[*,go_sem];refine bn hJ _ (Hl (dD:=92) (eg:=#[bv u0 s1 c d f]) (ei:=#[]) g (j.mono aP) (ga u0) ⟨by simp only[go_sem],fun B b m _ h=>by simp only[go_sem];exact mJ u0 ⟨((a.e.mono aP).mono b),((a.p.mono aP).mono b),((a.y.mono aP).mono b),((a.t.mono aP).mono b)⟩ m h⟩ l) (aK ?_);simp only[*,go_sem];apply aA;simp only[*,go_sem]
def td (u0:aZ)(a:cO)(w1:Int):Option Bool:=
 ag (aZ.get u0 w1) fun b=>ag (iI a.book w1 b) fun c=>ag (ga a.book c) fun d=>some d
theorem Hr {ro:Addr->Option Value}(u0:aZ)(a:cO){b:Nat}(x:ro ⟨b,0,none⟩=some (.int .i64 a.book.bH))(y:ro ⟨b,1,none⟩=some (.int .i64 a.book.bP))(z:ro ⟨b,2,none⟩=some (.int .i64 a.book.bf.num))(B:ro ⟨b,3,none⟩=some (.int .i64 a.book.bf.den)){s1:Value}(d:az fj ro s1 a.book.an)(C:ro ⟨b,4,none⟩=some (s1)){i:Value}(e:az eI ro i a.book.props)(D:ro ⟨b,5,none⟩=some (i)){j:Value}(f:az e8 ro j a.book.aG)(E:ro ⟨b,6,none⟩=some (j)){k:Value}(g:az di ro k a.book.told)(G:ro ⟨b,7,none⟩=some (k)){l:Value}(n:az ia ro l a.all)(H:ro ⟨b,8,none⟩=some (l))(w1:Int){m:Nat}(I:ro ⟨m,0,none⟩=some (.int .i64 w1)){r:Bool}(h:td u0 a w1=some r):aE Tryz.prog 126 #[.agg #[.int .i64 u0.e0,.int .i64 u0.e1,.int .i64 u0.e2],.pointer (some ⟨b,0,none⟩),.pointer (some ⟨m,0,none⟩)] ⟨ro,[]⟩ (fun v _=>v= .bool r):=by
 obtain ⟨d3,c4,rfl,K,L,-⟩:=id d;obtain ⟨d10,M,rfl,N,O,-⟩:=id e;obtain ⟨d17,P,rfl,Q,R,-⟩:=id f;obtain ⟨d24,S,rfl,T,U,-⟩:=id g;obtain ⟨d31,V,rfl,W,X,-⟩:=id n;unfold td at h;refine aE.go Tryz.func126 rfl Tryz.ntmps126 Tryz.results126 (by simp) fun main J hJ A Y hd hs=>?_;have Z:=hs 0;have k1:=hs 1;have ab:=hs 2;clear hs;apply ah hJ;simp only[*,go_sem];refine aC fun ad ae o=>?_;try simp only[av] at o
 apply af hJ;refine cE hJ mixed 11 1 (by simp only[*,go_sem]) (by kernel_rfl) ?_;revert h;refine bS fun p q h=>?_;obtain ⟨al,ao,s⟩:=aZ.get_some q;try simp only[go_sem] at s
 revert h;refine bS fun t u h=>?_;simp only[*,go_sem];refine ⟨_,bE hJ fun F c=>mC a.book ⟨(d.mono (ck c)),(e.mono (ck c)),(f.mono (ck c)),(g.mono (ck c))⟩ w1 p u,cc ?_⟩;revert h;refine bS fun ar w h=>?_;cases h;simp only[*,go_sem];refine ⟨_,bE hJ fun F c=>mJ a.book ⟨(d.mono (ck c)),(e.mono (ck c)),(f.mono (ck c)),(g.mono (ck c))⟩ t w,cc ?_⟩;simp only[*,go_sem];apply aA;simp only[*,go_sem]
def tf (u0:aZ)(a:cO)(i38:Nat)(e:b9)(st:Bool):Option (Fl Bool Bool):=
 ag (aZ.get u0 (i38:Int)) fun b=>ag (iI a.book (i38:Int) b) fun c=>ag (ga a.book c) fun d=>cond (d) (some (.rt false)) (some (.nx st))
def jN (u0:aZ)(a:cO):Option Bool:=
 ag (bD (tf u0 a) 0 a.book.aG false) fun o=>ay o (fun b=>some true) (fun _ _=>none) (fun r=>some r)
theorem Hs {ro:Addr->Option Value}(u0:aZ)(a:cO){b:Nat}(ae:ro ⟨b,0,none⟩=some (.int .i64 a.book.bH))(al:ro ⟨b,1,none⟩=some (.int .i64 a.book.bP))(ao:ro ⟨b,2,none⟩=some (.int .i64 a.book.bf.num))(ar:ro ⟨b,3,none⟩=some (.int .i64 a.book.bf.den)){s1:Value}(i:az fj ro s1 a.book.an)(a0:ro ⟨b,4,none⟩=some (s1)){p:Value}(j:az eI ro p a.book.props)(a2:ro ⟨b,5,none⟩=some (p)){q:Value}(e:az e8 ro q a.book.aG)(a3:ro ⟨b,6,none⟩=some (q)){s:Value}(k:az di ro s a.book.told)(a4:ro ⟨b,7,none⟩=some (s)){t:Value}(B:az ia ro t a.all)(a5:ro ⟨b,8,none⟩=some (t)){r:Bool}(h:jN u0 a=some r):aE Tryz.prog 91 #[.agg #[.int .i64 u0.e0,.int .i64 u0.e1,.int .i64 u0.e2],.pointer (some ⟨b,0,none⟩)] ⟨ro,[]⟩ (fun v _=>v= .bool r):=by
 obtain ⟨d3,c4,rfl,a6,a7,-⟩:=id i;obtain ⟨d10,a8,rfl,a9,ba,-⟩:=id j;obtain ⟨d17,bb,rfl,bc,C,-⟩:=id e;obtain ⟨d24,bd,rfl,bj,bk,-⟩:=id k;obtain ⟨d31,bl,rfl,bm,bo,-⟩:=id B;unfold jN at h;refine aE.go Tryz.func91 rfl Tryz.ntmps91 Tryz.results91 (by simp) fun main J hJ A D hd hs=>?_;have E:=hs 0;have k1:=hs 1;clear hs;apply ah hJ;simp only[*,go_sem];refine aC fun G br H=>?_;try simp only[av] at H
 refine af hJ (ah hJ ?_);simp only[*,go_sem];apply aN hJ;revert h;refine bS fun I d u=>?_;refine bQ hJ (rg 10 14 [3,4]) (fun m w F'=>∃(i38:Nat) (f:Bool),m=a.book.aG.length - i38/\i38<=a.book.aG.length/\bD (tf u0 a) i38 (a.book.aG.drop i38) f=some I/\F'=⟨ro,(G,.cells #[.int .i64 u0.e0,.int .i64 u0.e1,.int .i64 u0.e2] 144)::[]⟩/\slot w 10= .int .i64 (i38:Int)/\slot w 3= .bool f) a.book.aG.length ?_ ?_
 .refine ⟨0,false,(Nat.sub_zero _).symm,Nat.zero_le _,d,rfl,?_⟩;simp only[*,go_sem]
 rintro bs bz F' y ⟨i38,f,rfl,b0,d,rfl,b1,b2⟩;obtain ⟨K,L,M⟩:=y.pick [1,2,9] (by decide);simp only[*,go_sem] at K L M;clear y D hd E k1;apply ah hJ;simp only[*,go_sem];apply af hJ;rcases Nat.lt_or_ge i38 a.book.aG.length with N|z
 .refine cn hJ ?_;apply aI hJ;obtain ⟨O,l⟩:∃x,a.book.aG[i38]?=some x:=⟨_,List.getElem?_eq_getElem N⟩
  rw[dh l] at d;revert d;refine bS fun b3 h o=>?_;unfold tf at h;try dsimp only at h
  obtain ⟨b4,P,Q,R,g⟩:=e.el _ _ l;obtain rfl:P=O.cells:=R;cases Q;have S:=g 0 _ rfl;simp only[go_sem] at S;have T:=g 1 _ rfl;simp only[go_sem] at T;have U:=g 2 _ rfl;simp only[go_sem] at U;clear g l;refine af hJ (aN hJ (af hJ ?_));apply aj hJ;simp only[*,go_sem];apply af hJ;refine cE hJ mixed 10 1 (by simp only[*,go_sem]) (by kernel_rfl) ?_;revert h;refine bS fun V W h=>?_;obtain ⟨b5,ca,X⟩:=aZ.get_some W;try simp only[go_sem] at X
  revert h;refine bS fun Y Z h=>?_;simp only[*,go_sem];refine ⟨_,bE hJ fun F c=>mC a.book ⟨(i.mono (ck c)),(j.mono (ck c)),(e.mono (ck c)),(k.mono (ck c))⟩ (i38:Int) V Z,cc ?_⟩;revert h;refine bS fun cb ab h=>?_;simp only[*,go_sem];refine ⟨_,bE hJ fun F c=>mJ a.book ⟨(i.mono (ck c)),(j.mono (ck c)),(e.mono (ck c)),(k.mono (ck c))⟩ Y ab,?_⟩;revert h;refine aS hJ (fun ad h=>?_) fun ad h=>?_
  .cases h;apply ah hJ;simp only[*,go_sem];obtain rfl:=sI o;clear o;have h:=u;dsimp only[ay] at h;cases h;apply aA;simp only[*,go_sem]
  cases h;apply aI hJ;have cd:=cw (n:=i38) (by have:=C;omega);apply aj hJ;simp only[*,go_sem];refine ⟨a.book.aG.length - (i38+1),by omega,_,Le.sub (List.Sublist.refl _),i38+1,f,rfl,by omega,o,rfl,?_⟩;simp only[*,go_sem]
 have cf:=Nat.not_lt.2 z;refine bT hJ ?_;rw[List.drop_eq_nil_of_le z] at d;obtain rfl:=sI d;clear d;have h:=u;dsimp only[ay] at h;cases h;apply bJ;simp only[go_sem];apply ah hJ;simp only[*,go_sem];apply aA;simp only[*,go_sem]
def aZ.setAt (h:aZ)(i n:Int):Option aZ:=if i=0 then some {h with e0:=n} else if i=1 then some {h with e1:=n} else if i=2 then some {h with e2:=n} else none
theorem aZ.Ht {h a:aZ}{i n:Int}(e:h.setAt i n=some a):(i=0/\a={h with e0:=n})\/(i=1/\a={h with e1:=n})\/(i=2/\a={h with e2:=n}):=by
 unfold aZ.setAt at e;split at e
 .exact .inl ⟨‹_›,(Option.some.inj e).symm⟩
 .split at e
  .exact .inr (.inl ⟨‹_›,(Option.some.inj e).symm⟩)
  .split at e
   .exact .inr (.inr ⟨‹_›,(Option.some.inj e).symm⟩)
   .cases e
def jl (f:aZ->List (Option aZ)×aZ)(i hi:Int):Nat->Int->aZ->List (Option aZ)×aZ
 |0,_,h=>([none],h)
 |k+1,n,h=>if n<=hi then match h.setAt i n with
   |none=>([none],h)
   |some a=>((f a).1++(jl f i hi k (IntKind.i64.wrap (n+1)) (f a).2).1,(jl f i hi k (IntKind.i64.wrap (n+1)) (f a).2).2)
  else ([],h)
def eW (b:ak):Nat->Int->aZ->List (Option aZ)×aZ
 |0,_,h=>([none],h)
 |fuel+1,i,h=>if i=b.aG.length then ((match oe b h with
   |some true=>[some h]
   |some false=>[]
   |none=>[none]),h)
  else match aT b.aG i with
   |none=>([none],h)
   |some e=>jl (eW b fuel (IntKind.i64.wrap (i+1))) i e.high.high 100 e.high.low h
def mL (b:ak):List (Option aZ):=(eW b 5 0 ⟨0,0,0⟩).1
theorem Hu {H σ:Type}{step:σ->H->Option (Bool×σ)}{l l':List (Option H)}{s s':σ}{c:Bool}(h:fh step (l++l') s=some (c,s')):
  (∃s1,fh step l s=some (true,s1)/\fh step l' s1=some (c,s'))\/(fh step l s=some (false,s')/\c=false):=by
 rw[A6] at h
 split at h
 .rename_i s1 a;exact .inl ⟨s1,a,h⟩
 .rename_i s1 a;simp only[Option.some.injEq,Prod.mk.injEq] at h;obtain ⟨rfl,rfl⟩:=h;exact .inr ⟨a,rfl⟩
 .cases h
theorem qE {H σ:Type}{step:σ->H->Option (Bool×σ)}{s:σ}{r:Bool×σ}(h:fh step [none] s=some r):False:=by cases h
section
variable {ro : Addr → Option Value} {σ : Type} {step : σ → aZ → Option (Bool × σ)} {I : σ → List (Nat × Obj) → Prop} {y : Value}
def oh (b:ak)(s1 s2 a c y:Value)(b2 b3 b4 b5:Nat)(h:aZ):List (Nat×Obj):=
 [(b5,.cells #[.func (.func 157) #[] #[.pointer (some ⟨b2,0,none⟩),.pointer (some ⟨b4,0,none⟩),.pointer (some ⟨b3,0,none⟩),.pointer (some ⟨b5,0,none⟩)]] 166),
  (b4,.cells #[.int .i64 h.e0,.int .i64 h.e1,.int .i64 h.e2] 144),(b3,.cells #[y] 147),
  (b2,.cells #[.int .i64 b.bH,.int .i64 b.bP,.int .i64 b.bf.num,.int .i64 b.bf.den,s1,s2,a,c] 109)]
theorem Hv (u0:ak){s1 s2 w x:Value}(E:az fj ro s1 u0.an)(F:az eI ro s2 u0.props)(G:az e8 ro w u0.aG)(H:az di ro x u0.told)(V:wm Tryz.prog y aZ.v step ro I)
  {b2 b3 b4 b5:Nat} (n1:¬b5=b4) (n2:¬b5=b3) (n3:¬b5=b2) (bb:¬b4=b3) (bc:¬b4=b2) (bd:¬b3=b2) (bj:∀off sp,ro ⟨b5,off,sp⟩=none) (bk:∀off sp,ro ⟨b4,off,sp⟩=none) (bl:∀off sp,ro ⟨b3,off,sp⟩=none) (bm:∀off sp,ro ⟨b2,off,sp⟩=none):
  ∀(fuel:Nat) (i:Int) (b:aZ) (s:σ) (c:Bool) (s':σ),fh step (eW u0 fuel i b).1 s=some (c,s')->∀(main:Bool) (J:Goroutine->aa->Prop),Closed Tryz.prog main J->∀own,I s own->
   cU Tryz.prog J 157 #[.int .i64 i,.pointer (some ⟨b2,0,none⟩),.pointer (some ⟨b4,0,none⟩),.pointer (some ⟨b3,0,none⟩),.pointer (some ⟨b5,0,none⟩)] ⟨ro,oh u0 s1 s2 w x y b2 b3 b4 b5 b++own⟩
    (fun v F'=>∃o q,Le ⟨ro,oh u0 s1 s2 w x y b2 b3 b4 b5 o++q⟩ F'/\v= .bool c/\I s' q/\(c=true->o=(eW u0 fuel i b).2)):=by
 intro fuel
 induction fuel with
 |zero=>intro i b s c s' h;exact (qE h).elim
 |succ fuel ih=>
  intro i b s c s' h main J hJ own j
  obtain ⟨K,L,rfl,bo,br,e1⟩:=id E
  obtain ⟨M,N,rfl,bs,bz,e2⟩:=id F
  obtain ⟨W,O,rfl,bS,b0,X⟩:=id G
  obtain ⟨P,Q,rfl,b1,ca,cb⟩:=id H
  refine cU.go hJ Tryz.func157 rfl Tryz.ntmps157 Tryz.results157 (by simp) fun A Y hd hs=>?_
  have Z:=hs 0
  have k1:=hs 1
  have ab:=hs 2
  have ad:=hs 3
  have ae:=hs 4
  clear hs
  unfold eW at h
  have cd:(0:Int)<((3:Nat):Int):=by decide
  have cf:(1:Int)<((3:Nat):Int):=by decide
  have cl:(2:Int)<((3:Nat):Int):=by decide
  repeat apply af hJ
  apply aj hJ
  simp only[*,go_sem,-h]
  repeat apply af hJ
  apply aj hJ
  simp only[oh,go_sem, *,-h]
  repeat apply af hJ
  by_cases hi:i=(u0.aG.length:Int)
  .rw[if_pos hi] at h
   repeat apply af hJ
   refine dW hJ (by simp only[*,go_sem,-h]) ?_
   repeat apply af hJ
   refine ax hJ fun nd=>?_
   repeat apply af hJ
   apply aj hJ
   simp only[*,go_sem,-h]
   cases f:oe u0 b with
   |none=>rw[f] at h;exact (qE h).elim
   |some r=>
    rw[f] at h
    refine bn hJ _ (Hp u0 ⟨(E.mono aP),(F.mono aP),(G.mono aP),(H.mono aP)⟩ b f) (aK ?_)
    cases r with
    |false=>
     cases h
     simp only[*,go_sem]
     repeat apply af hJ
     apply aA
     simp only[*,go_sem]
     refine ⟨b,own,Le.refl _,?_⟩
     first|exact ⟨rfl,j,fun _=>by unfold eW;rw[if_pos rfl]⟩|exact ⟨j,fun _=>by unfold eW;rw[if_pos rfl]⟩|exact ⟨j,by unfold eW;rw[if_pos rfl]⟩|exact j
    |true=>
     have al:step s b=some (c,s'):=by
      simp only[fh] at h
      split at h<;>first|(cases h;assumption)|cases h
     simp only[*,go_sem,-h]
     refine Gs hJ (oh u0 (.slice K u0.an.length L) (.slice M u0.props.length N) (.slice W u0.aG.length O) (.slice P u0.told.length Q) y b2 b3 b4 b5 b) (fun m ao ar=>V s b c s' al m ao ar own j) nd ?_
     rintro v q ⟨rfl,R⟩ cy
     apply aK
     simp only[*,go_sem,-h]
     repeat apply af hJ
     apply aA
     simp only[*,go_sem,-h]
     refine ⟨b,q,Le.refl _,?_⟩
     first|exact ⟨rfl,R,fun _=>by unfold eW;rw[if_pos rfl]⟩|exact ⟨R,fun _=>by unfold eW;rw[if_pos rfl]⟩
  .rw[if_neg hi] at h
   have cS:(i==(u0.aG.length:Int))=false:=by simpa using hi
   repeat apply af hJ
   refine dO hJ (by simp only[*,go_sem,-h]) ?_
   apply aI hJ
   cases f:aT u0.aG i with
   |none=>rw[f] at h;exact (qE h).elim
   |some e=>
    rw[f] at h
    simp only at h
    have a0:=f
    obtain ⟨c0,da,S⟩:=cq f
    obtain ⟨a2,cse,a3,a4,t⟩:=X _ _ S
    obtain rfl:cse=e.cells:=a4
    cases a3
    have a5:=t 0 _ rfl;simp only[go_sem] at a5
    have a6:=t 1 _ rfl;simp only[go_sem] at a6
    have a7:=t 2 _ rfl;simp only[go_sem] at a7
    clear t S
    repeat apply af hJ
    apply aj hJ
    simp only[*,go_sem,-h]
    repeat apply af hJ
    apply aN hJ
    refine bQ hJ [6,7,31,32,33,34,35,36,37,38,39,40,41,42,43,44,45,46,47,48,49,50] (fun m a8 F'=>∃(n:Int) (h:aZ) (s:σ) (own:List (Nat×Obj)),fh step (jl (eW u0 fuel (IntKind.i64.wrap (i+1))) i e.high.high m n h).1 s=some (c,s')/\
     (c=true->(jl (eW u0 fuel (IntKind.i64.wrap (i+1))) i e.high.high m n h).2=(eW u0 (fuel+1) i b).2)/\F'=⟨ro,oh u0 (.slice K u0.an.length L) (.slice M u0.props.length N) (.slice (some a2) u0.aG.length O) (.slice P u0.told.length Q) y b2 b3 b4 b5 h++own⟩/\I s own/\slot a8 7= .int .i64 n) 100 ?_ ?_
    .have a9:(eW u0 (fuel+1) i b).2=(jl (eW u0 fuel (IntKind.i64.wrap (i+1))) i e.high.high 100 e.high.low b).2:=by
      rw[eW,if_neg hi,a0]
     exact ⟨e.high.low,b,s,own,h,fun _=>a9.symm,rfl,j,by simp only[*,go_sem,-h]⟩
    .rintro m k F' g ⟨n,o,s1,z,a,d,rfl,p,db⟩
     clear h j
     have dd:sz k=51:=by rw[g.size];simp only[*,go_sem]
     have kd:k.defers=[]:=by rw[g.defers];simp only[*,go_sem]
     have df:slot k 0= .int .i64 i:=by rw[g.dz 0 (by decide)];simp only[*,go_sem]
     have dk:slot k 1= .pointer (some ⟨b2,0,none⟩):=by rw[g.dz 1 (by decide)];simp only[*,go_sem]
     have dp:slot k 2= .pointer (some ⟨b4,0,none⟩):=by rw[g.dz 2 (by decide)];simp only[*,go_sem]
     have dq:slot k 3= .pointer (some ⟨b3,0,none⟩):=by rw[g.dz 3 (by decide)];simp only[*,go_sem]
     have ds:slot k 4= .pointer (some ⟨b5,0,none⟩):=by rw[g.dz 4 (by decide)];simp only[*,go_sem]
     clear g Z k1 ab ad ae Y hd
     obtain _|m:=m
     .exact (qE a).elim
     unfold jl at a d
     repeat apply af hJ
     apply aj hJ
     simp only[oh,go_sem, *,-a]
     repeat apply af hJ
     by_cases u:n<=e.high.high
     .rw[if_pos u] at a
      rw[if_pos u] at d
      repeat apply af hJ
      refine dW hJ (by simp only[*,go_sem,-a]) ?_
      apply aI hJ
      cases B:o.setAt i n with
      |none=>rw[B] at a;exact (qE a).elim
      |some dt=>
       rw[B] at a d
       simp only at a d
       repeat apply af hJ
       apply aN hJ
       repeat apply af hJ
       refine ax hJ fun nd=>?_
       repeat apply af hJ
       apply aj hJ
       rcases aZ.Ht B with ⟨C,rfl⟩|⟨C,rfl⟩|⟨C,rfl⟩<;>subst C<;>
       (simp only[*,go_sem,-a]
        repeat apply af hJ
        apply aj hJ
        simp only[*,go_sem,-a]
        have ba:=Hu a
        clear a
        rcases ba with ⟨s2,D,a⟩|⟨D,rfl⟩
        .refine cU.less hJ ((ih _ _ _ _ _ D _ J hJ z p).mono ?_)
         rintro v F' ⟨T,U,hle,rfl,l,hh⟩
         have hh:=hh rfl
         subst hh
         refine ⟨_,hle,aK ?_⟩
         simp only[*,go_sem,-a]
         repeat apply af hJ
         refine dO hJ (by simp only[*,go_sem,-a]) ?_
         apply aI hJ
         repeat apply af hJ
         apply aj hJ
         simp only[*,go_sem,-a]
         exact ⟨m,Nat.lt_succ_self m,_,Le.refl _,_,_,_,_,a,d,rfl,l,by simp only[*,go_sem,-a]⟩
        .refine cU.less hJ ((ih _ _ _ _ _ D _ J hJ z p).mono ?_)
         rintro v F' ⟨T,U,hle,rfl,l,hh⟩
         refine ⟨_,hle,aK ?_⟩
         simp only[*,go_sem]
         repeat apply af hJ
         refine dW hJ (by simp only[*,go_sem]) ?_
         repeat apply af hJ
         apply aj hJ
         simp only[*,go_sem]
         repeat apply af hJ
         apply aA
         simp only[*,go_sem]
         refine ⟨T,U,Le.refl _,?_⟩
         first|exact ⟨rfl,l,fun h=>by cases h⟩|exact ⟨l,fun h=>by cases h⟩|exact l|exact ⟨l,trivial⟩)
     .rw[if_neg u] at a
      rw[if_neg u] at d
      simp only[fh,Option.some.injEq,Prod.mk.injEq] at a
      obtain ⟨rfl,rfl⟩:=a
      repeat apply af hJ
      refine dO hJ (by simp only[*,go_sem]) ?_
      apply bJ
      simp only[go_sem]
      repeat apply af hJ
      apply aj hJ
      simp only[*,go_sem]
      repeat apply af hJ
      apply aA
      simp only[*,go_sem]
      refine ⟨o,z,Le.refl _,?_⟩
      first|exact ⟨rfl,p,fun h=>d h⟩|exact ⟨p,fun h=>d h⟩|exact ⟨p,d rfl⟩
theorem tg (u0:ak){s1 s2 j k:Value}(e:az fj ro s1 u0.an)(f:az eI ro s2 u0.props)(g:az e8 ro j u0.aG)(h:az di ro k u0.told):
  mz Tryz.prog 107 #[.agg #[.int .i64 u0.bH,.int .i64 u0.bP,.int .i64 u0.bf.num,.int .i64 u0.bf.den,s1,s2,j,k]] #[] aZ.v (mL u0) ro:=by
 refine ⟨by simp only[go_sem],fun aM b σ step I r t u l s c s' a main J hJ own m=>?_⟩
 replace e:=e.mono b
 replace f:=f.mono b
 replace g:=g.mono b
 replace h:=h.mono b
 refine cU.go hJ Tryz.func107 rfl Tryz.ntmps107 Tryz.results107 (by simp) fun A w hd hs=>?_
 have x:=hs 0
 have k1:=hs 1
 clear hs
 repeat apply af hJ
 apply aj hJ
 try simp only[*,go_sem,-a]
 intro b2 f2;have r2:=eK f2;have n2:=fL f2
 intro b3 f3;have r3:=eK f3;have n3:=fL f3
 simp only[av] at n3
 try simp only[*,go_sem,-a]
 repeat apply af hJ
 apply aj hJ
 try simp only[*,go_sem,-a]
 intro b4 f4;have n:=eK f4;have i:=fL f4
 simp only[av] at i
 try simp only[*,go_sem,-a]
 repeat apply af hJ
 apply aj hJ
 try simp only[*,go_sem,-a]
 intro b5 f5;have o:=eK f5;have d:=fL f5
 simp only[av] at d
 try simp only[*,go_sem,-a]
 repeat apply af hJ
 apply aj hJ
 try simp only[*,go_sem,-a]
 repeat apply af hJ
 apply aj hJ
 try simp only[*,go_sem,-a]
 refine cU.less hJ ((Hv u0 e f g h l (b2:=b2) (b3:=b3) (b4:=b4) (b5:=b5) d.1 d.2.1 d.2.2.1 i.1 i.2.1 n3.1 o n r3 r2 5 0 ⟨0,0,0⟩ s c s' a main J hJ own m).mono ?_)
 rintro v F' ⟨y,p,hle,rfl,q,_⟩
 exact ⟨_,hle,p,Le.sub (List.sublist_append_right _ _),q⟩
end
def th (u0:List bV):Option (List bV):=if u0.length<=1000000 then some u0 else none
theorem wH {ro:Addr->Option Value}(u0:List bV){s1:Value}(b:az di ro s1 u0){x:List bV}(h:th u0=some x):aE Tryz.prog 96 #[s1] ⟨ro,[]⟩ (fun v G=>∃a,aO di ro 54 v x a/\Le ⟨ro,a⟩ G):=by
 obtain ⟨ad,cap,rfl,le,d,e⟩:=id b;unfold th at h;split at h
 case isFalse=>cases h
 rename_i hlen;obtain rfl:=Option.some.inj h;clear h;refine aE.go Tryz.func96 rfl Tryz.ntmps96 Tryz.results96 (by simp) fun main J hJ A f hd hs=>?_;have g:=hs 0;clear hs;apply ah hJ;simp only[*,go_sem];cases ad with
 |none=>
  have hu:u0=[]:=by
   cases u0 with
   |nil=>rfl
   |cons x l=>obtain ⟨p,cs,c,_⟩:=e 0 x rfl;cases c
  subst hu;first|refine ah hJ ?_|refine af hJ (ah hJ ?_)
  simp only[*,go_sem];refine dW hJ (by simp only[*,go_sem]) ?_;apply ah hJ;simp only[*,go_sem];apply aA;simp only[*,go_sem];exact ⟨[],aO.nil _ _ _,Le.refl _⟩
 |some p=>
  first|refine ah hJ ?_|refine af hJ (ah hJ ?_)
  simp only[*,go_sem];refine dO hJ (by simp only[*,go_sem]) ?_;apply aI hJ;apply ah hJ;simp only[*,go_sem];intro i f1;have r1:=eK f1;try simp only[*,go_sem]
  refine qh r1 trivial rfl hlen b rfl rfl eA eA iE iG rfl iF (by decide) (by decide) (fun v a hg j=>aK ?_);simp only[*,go_sem];apply aA;simp only[*,go_sem];exact ⟨a,hg,Le.refl _⟩
def tj (u0:List b9):Option (List b9):=if u0.length<=1000000 then some u0 else none
theorem Bo {ro:Addr->Option Value}(u0:List b9){s1:Value}(b:az e8 ro s1 u0){x:List b9}(h:tj u0=some x):aE Tryz.prog 104 #[s1] ⟨ro,[]⟩ (fun v G=>∃a,aO e8 ro 67 v x a/\Le ⟨ro,a⟩ G):=by
 obtain ⟨ad,cap,rfl,le,d,e⟩:=id b;unfold tj at h;split at h
 case isFalse=>cases h
 rename_i hlen;obtain rfl:=Option.some.inj h;clear h;refine aE.go Tryz.func104 rfl Tryz.ntmps104 Tryz.results104 (by simp) fun main J hJ A f hd hs=>?_;have g:=hs 0;clear hs;apply ah hJ;simp only[*,go_sem];cases ad with
 |none=>
  have hu:u0=[]:=by
   cases u0 with
   |nil=>rfl
   |cons x l=>obtain ⟨p,cs,c,_⟩:=e 0 x rfl;cases c
  subst hu;first|refine ah hJ ?_|refine af hJ (ah hJ ?_)
  simp only[*,go_sem];refine dW hJ (by simp only[*,go_sem]) ?_;apply ah hJ;simp only[*,go_sem];apply aA;simp only[*,go_sem];exact ⟨[],aO.nil _ _ _,Le.refl _⟩
 |some p=>
  first|refine ah hJ ?_|refine af hJ (ah hJ ?_)
  simp only[*,go_sem];refine dO hJ (by simp only[*,go_sem]) ?_;apply aI hJ;apply ah hJ;simp only[*,go_sem];intro i f1;have r1:=eK f1;try simp only[*,go_sem]
  refine qh r1 trivial rfl hlen b rfl rfl AA AA FK FM rfl FL (by decide) (by decide) (fun v a hg j=>aK ?_);simp only[*,go_sem];apply aA;simp only[*,go_sem];exact ⟨a,hg,Le.refl _⟩
def wI (u0:List bN):Option (List bN):=if u0.length<=1000000 then some u0 else none
theorem Hw {ro:Addr->Option Value}(u0:List bN){s1:Value}(b:az fj ro s1 u0){x:List bN}(h:wI u0=some x):aE Tryz.prog 151 #[s1] ⟨ro,[]⟩ (fun v G=>∃a,aO fj ro 44 v x a/\Le ⟨ro,a⟩ G):=by
 obtain ⟨ad,cap,rfl,le,d,e⟩:=id b;unfold wI at h;split at h
 case isFalse=>cases h
 rename_i hlen;obtain rfl:=Option.some.inj h;clear h;refine aE.go Tryz.func151 rfl Tryz.ntmps151 Tryz.results151 (by simp) fun main J hJ A f hd hs=>?_;have g:=hs 0;clear hs;apply ah hJ;simp only[*,go_sem];cases ad with
 |none=>
  have hu:u0=[]:=by
   cases u0 with
   |nil=>rfl
   |cons x l=>obtain ⟨p,cs,c,_⟩:=e 0 x rfl;cases c
  subst hu;first|refine ah hJ ?_|refine af hJ (ah hJ ?_)
  simp only[*,go_sem];refine dW hJ (by simp only[*,go_sem]) ?_;apply ah hJ;simp only[*,go_sem];apply aA;simp only[*,go_sem];exact ⟨[],aO.nil _ _ _,Le.refl _⟩
 |some p=>
  first|refine ah hJ ?_|refine af hJ (ah hJ ?_)
  simp only[*,go_sem];refine dO hJ (by simp only[*,go_sem]) ?_;apply aI hJ;apply ah hJ;simp only[*,go_sem];intro i f1;have r1:=eK f1;try simp only[*,go_sem]
  refine qh r1 trivial rfl hlen b rfl rfl Az Az FI AB rfl FJ (by decide) (by decide) (fun v a hg j=>aK ?_);simp only[*,go_sem];apply aA;simp only[*,go_sem];exact ⟨a,hg,Le.refl _⟩
def qF (u0:List bO):Option (List bO):=if u0.length<=1000000 then some u0 else none
theorem Bp {ro:Addr->Option Value}(u0:List bO){s1:Value}(b:az eI ro s1 u0){x:List bO}(h:qF u0=some x):aE Tryz.prog 152 #[s1] ⟨ro,[]⟩ (fun v G=>∃a,aO eI ro 70 v x a/\Le ⟨ro,a⟩ G):=by
 obtain ⟨ad,cap,rfl,le,d,e⟩:=id b;unfold qF at h;split at h
 case isFalse=>cases h
 rename_i hlen;obtain rfl:=Option.some.inj h;clear h;refine aE.go Tryz.func152 rfl Tryz.ntmps152 Tryz.results152 (by simp) fun main J hJ A f hd hs=>?_;have g:=hs 0;clear hs;apply ah hJ;simp only[*,go_sem];cases ad with
 |none=>
  have hu:u0=[]:=by
   cases u0 with
   |nil=>rfl
   |cons x l=>obtain ⟨p,cs,c,_⟩:=e 0 x rfl;cases c
  subst hu;first|refine ah hJ ?_|refine af hJ (ah hJ ?_)
  simp only[*,go_sem];refine dW hJ (by simp only[*,go_sem]) ?_;apply ah hJ;simp only[*,go_sem];apply aA;simp only[*,go_sem];exact ⟨[],aO.nil _ _ _,Le.refl _⟩
 |some p=>
  first|refine ah hJ ?_|refine af hJ (ah hJ ?_)
  simp only[*,go_sem];refine dO hJ (by simp only[*,go_sem]) ?_;apply aI hJ;apply ah hJ;simp only[*,go_sem];intro i f1;have r1:=eK f1;try simp only[*,go_sem]
  refine qh r1 trivial rfl hlen b rfl rfl k6 k6 sA sC rfl sB (by decide) (by decide) (fun v a hg j=>aK ?_);simp only[*,go_sem];apply aA;simp only[*,go_sem];exact ⟨a,hg,Le.refl _⟩
def om (u0:List Int):Option (List Int):=if u0.length<=1000000 then some u0 else none
theorem Bq {ro:Addr->Option Value}(u0:List Int){s1:Value}(b:az rI ro s1 u0){x:List Int}(h:om u0=some x):aE Tryz.prog 150 #[s1] ⟨ro,[]⟩ (fun v G=>∃a,aO rI ro 3 v x a/\Le ⟨ro,a⟩ G):=by
 obtain ⟨ad,cap,rfl,le,d,e⟩:=id b;unfold om at h;split at h
 case isFalse=>cases h
 rename_i hlen;obtain rfl:=Option.some.inj h;clear h;refine aE.go Tryz.func150 rfl Tryz.ntmps150 Tryz.results150 (by simp) fun main J hJ A f hd hs=>?_;have g:=hs 0;clear hs;apply ah hJ;simp only[*,go_sem];cases ad with
 |none=>
  have hu:u0=[]:=by
   cases u0 with
   |nil=>rfl
   |cons x l=>obtain ⟨p,cs,c,_⟩:=e 0 x rfl;cases c
  subst hu;first|refine ah hJ ?_|refine af hJ (ah hJ ?_)
  simp only[*,go_sem];refine dW hJ (by simp only[*,go_sem]) ?_;apply ah hJ;simp only[*,go_sem];apply aA;simp only[*,go_sem];exact ⟨[],aO.nil _ _ _,Le.refl _⟩
 |some p=>
  first|refine ah hJ ?_|refine af hJ (ah hJ ?_)
  simp only[*,go_sem];refine dO hJ (by simp only[*,go_sem]) ?_;apply aI hJ;apply ah hJ;simp only[*,go_sem];intro i f1;have r1:=eK f1;try simp only[*,go_sem]
  refine qh r1 trivial rfl hlen b rfl rfl dP dP gL gP rfl gO (by decide) (by decide) (fun v a hg j=>aK ?_);simp only[*,go_sem];apply aA;simp only[*,go_sem];exact ⟨a,hg,Le.refl _⟩
def qG (u0:ak)(i43:Nat)(b:(ak->Option Int))(st:Int):Option (Fl Int (ak×Int)):=
 ag (b u0) fun a=>cond ((a != 0)) (some (.rt ((⟨0,0,(⟨0,0⟩:au),([]:(List bN)),([]:(List bO)),([]:(List b9)),([]:(List bV))⟩:ak),a))) (some (.nx st))
def fc (u0:ak)(b:(List (ak->Option Int))):Option (ak×Int):=
 ag (e9 u0) fun a=>cond ((a != 0)) (some ((⟨0,0,(⟨0,0⟩:au),([]:(List bN)),([]:(List bO)),([]:(List b9)),([]:(List bV))⟩:ak),a)) (ag (bD (qG u0) 0 b 0) fun o=>ay o (fun c=>some (u0,0)) (fun _ _=>none) (fun r=>some r))
theorem kD {ro:Addr->Option Value}(D:c6 ro)(u0:ak){s1 f g i:Value}(b:bL ro u0 s1 f g i)(c:(List (ak->Option Int))){o:Value}(q:az (dc) ro o c){r:(ak×Int)}(h:fc u0 c=some r):eM Tryz.prog 101 #[bv u0 s1 f g i,o] ro (fun v aM=>∃s w1 w2 w3,v= .tuple #[bv r.1 s w1 w2 w3,.int .i64 r.2]/\bL aM r.1 s w1 w2 w3):=by
 obtain ⟨d31,ae,rfl,al,E,-⟩:=id q;unfold fc at h;have F:=b.oc;simp only[bF] at F;refine aE.go Tryz.func101 rfl Tryz.ntmps101 Tryz.results101 (by simp) fun main J hJ A G hd hs=>?_;have H:=hs 0;have k1:=hs 1;clear hs;apply ah hJ;simp only[*,go_sem];refine aC fun I ao K=>?_;try simp only[av] at K
 refine aC fun L ar M=>?_;try simp only[av] at M
 refine af hJ (ah hJ ?_);revert h;refine bS fun a0 N h=>?_;simp only[*,go_sem];refine bn hJ _ (Bj (D.mono aP) u0 (b.e.mono aP) (b.p.mono aP) (b.y.mono aP) (b.t.mono aP) N) (aK ?_);simp only[*,go_sem];apply ah hJ;simp only[*,go_sem];revert h;refine aS hJ (fun O h=>?_) fun O h=>?_
 .cases h;apply ah hJ;simp only[*,go_sem];apply aA;simp only[*,go_sem];exact ⟨_,Ext.refl _,Le.sub (List.nil_sublist _),_,_,_,_,rfl,⟨az.nil _ _,az.nil _ _,az.nil _ _,az.nil _ _⟩⟩
 refine aI hJ (af hJ ?_);apply aj hJ;simp only[*,go_sem];refine aC fun P a2 Q=>?_;try simp only[av] at Q
 refine af hJ (ah hJ ?_);simp only[*,go_sem];apply aN hJ;revert h;refine bS fun R d u=>?_;refine bQ hJ (rg 21 12 [5,9,10]) (fun m w F'=>∃(i43:Nat) (j:Int),m=c.length - i43/\i43<=c.length/\bD (qG u0) i43 (c.drop i43) j=some R/\F'=⟨ro,(P,bl u0 s1 f g i)::(L,bz 109)::(I,bk u0 s1 f g i)::[]⟩/\slot w 21= .int .i64 (i43:Int)/\slot w 5= .int .i64 j) c.length ?_ ?_
 .refine ⟨0,0,(Nat.sub_zero _).symm,Nat.zero_le _,d,rfl,?_⟩;simp only[*,go_sem]
 rintro a3 a4 F' z ⟨i43,j,rfl,a5,d,rfl,a6,a7⟩;obtain ⟨S,T,U⟩:=z.pick [4,7,19,20] (by decide);simp only[*,go_sem] at S T U;clear z G hd H k1;apply ah hJ;simp only[*,go_sem];apply af hJ;rcases Nat.lt_or_ge i43 c.length with V|B
 .refine cn hJ ?_;apply aI hJ;obtain ⟨a8,k⟩:∃x,c[i43]?=some x:=⟨_,List.getElem?_eq_getElem V⟩
  rw[dh k] at d;revert d;refine bS fun a9 h l=>?_;unfold qG at h;try dsimp only at h
  obtain ⟨ba,bb,W,X,C⟩:=q.el _ _ k;obtain ⟨bc,bd,bj,rfl,Y⟩:=X;cases W;have Z:=C 0 _ rfl;simp only[go_sem] at Z;clear C k;refine af hJ (aN hJ (af hJ ?_));apply aj hJ;simp only[*,go_sem];apply ah hJ;revert h;refine bS fun bm ab h=>?_;simp only[*,go_sem];refine bn hJ _ (Y.2 _ (fun a v h=>aP a v h) u0 _ _ _ _ _ (b.e.mono aP) (b.p.mono aP) (b.y.mono aP) (b.t.mono aP) ab) (aK ?_);simp only[*,go_sem];apply ah hJ;simp only[*,go_sem];revert h;refine aS hJ (fun ad h=>?_) fun ad h=>?_
  .cases h;apply ah hJ;simp only[*,go_sem];obtain rfl:=sI l;clear l;have h:=u;dsimp only[ay] at h;cases h;apply aA;simp only[*,go_sem];exact ⟨_,Ext.refl _,Le.sub (List.nil_sublist _),_,_,_,_,rfl,⟨az.nil _ _,az.nil _ _,az.nil _ _,az.nil _ _⟩⟩
  cases h;apply aI hJ;have bo:=cw (n:=i43) (by have:=E;omega);apply aj hJ;simp only[*,go_sem];refine ⟨c.length - (i43+1),by omega,_,Le.sub (List.Sublist.refl _),i43+1,j,rfl,by omega,l,rfl,?_⟩;simp only[*,go_sem]
 have br:=Nat.not_lt.2 B;refine bT hJ ?_;rw[List.drop_eq_nil_of_le B] at d;obtain rfl:=sI d;clear d;have h:=u;dsimp only[ay] at h;cases h;apply bJ;simp only[go_sem];apply ah hJ;simp only[*,go_sem];apply aA;simp only[*,go_sem];exact ⟨_,Ext.refl _,Le.sub (List.nil_sublist _),_,_,_,_,rfl,b⟩
def wJ (u0:ak)(b:Int):Option (au×Int):=
 ag (fc u0 ([(n5 b)])) fun a=>cond ((a.2 != 0)) (some ((⟨0,0⟩:au),a.2)) (ag (jk a.1 b) fun c=>some (c,0))
theorem Hx {ro:Addr->Option Value}(f:c6 ro)(u0:ak){s1 g i j:Value}(k:bL ro u0 s1 g i j)(a:Int){r:(au×Int)}(h:wJ u0 a=some r):aE Tryz.prog 61 #[bv u0 s1 g i j,.int .i64 a] ⟨ro,[]⟩ (fun v _=>v= .tuple #[r.1.v,.int .i64 r.2]):=by
 unfold wJ at h;refine aE.go Tryz.func61 rfl Tryz.ntmps61 Tryz.results61 (by simp) fun main J hJ A V hd hs=>?_;have W:=hs 0;have k1:=hs 1;clear hs;apply ah hJ;simp only[*,go_sem];refine aC fun B C D=>?_;try simp only[av] at D
 refine aC fun E F G=>?_;try simp only[av] at G
 apply af hJ;refine ax hJ fun H=>?_;apply aj hJ;revert h;refine bS fun I K h=>?_;simp only[*,go_sem];refine aC fun c m n=>?_;have q:=aR.cons n H;try simp only[av] at n
 obtain ⟨l,s,u⟩:=fX (b:=c) (o:=(.cells #[.func (.func 133) #[.int .i64 a] #[]] 133)) [] ((E,rt 0 0)::(B,bk u0 s1 g i j)::[]) q m (aF.cons F (aF.cons C (aF.nil _)));have w:az (dc) (bR ro c (.cells #[.func (.func 133) #[.int .i64 a] #[]] 133)) (.slice (some ⟨c,0,none⟩) 1 1) [(n5 a)]:=(az.one (r:=(dc)) (e:=133) (cs:=#[.func (.func 133) #[.int .i64 a] #[]]) (x:=(n5 a)) (own:=[(c,.cells #[.func (.func 133) #[.int .i64 a] #[]] 133)]) m (by simp[lk]) ⟨133,#[.int .i64 a],#[],rfl,⟨by simp only[go_sem],fun X Y L _ _ _ _ _ M N O P h=>by simp only[go_sem];exact GZ a L ⟨M,N,O,P⟩ h⟩⟩)
 generalize bR ro c (.cells #[.func (.func 133) #[.int .i64 a] #[]] 133)=Z at w s l u;refine hU hJ u ?_;replace k:=k.mono l;replace f:=f.mono l;simp only[bt] at s;have Q:=aR.tl q;refine b8 hJ _ (kD f u0 k ([(n5 a)]) w K) fun v ab ad R S=>?_;obtain ⟨ae,al,ao,ar,rfl,d⟩:=S;simp only[bt] at R;obtain ⟨d41,a0,rfl,a2,a3,-⟩:=id d.e;obtain ⟨d48,a4,rfl,a5,a6,-⟩:=id d.p;obtain ⟨d55,a7,rfl,a8,a9,-⟩:=id d.y;obtain ⟨d62,ba,rfl,bb,bc,-⟩:=id d.t;apply aK;simp only[*,go_sem];refine aC fun bd bj z=>?_;have bl:=aR.cons z Q;try simp only[av] at z
 refine af hJ (ah hJ ?_);simp only[*,go_sem];revert h;refine aS hJ (fun T h=>?_) fun T h=>?_
 .cases h;apply ah hJ;simp only[*,go_sem];apply aA;simp only[*,go_sem]
 refine aI hJ (af hJ ?_);apply aj hJ;revert h;refine bS fun bm U h=>?_;cases h;simp only[*,go_sem];refine bn hJ _ (Bm I.1 (d.mono aP) a U) (aK ?_);simp only[*,go_sem];apply aA;simp only[*,go_sem]
def wK (u0:ak)(b:aU):Option (Int×au×Int):=
 ag (fc u0 ([(eU b)])) fun a=>cond ((a.2 != 0)) (some (0,(⟨0,0⟩:au),a.2)) (ag (lA a.1 b) fun c=>some (c.at_,c.high,0))
theorem Hy {ro:Addr->Option Value}(k:c6 ro)(u0:ak){s1 f g i:Value}(j:bL ro u0 s1 f g i)(a:aU){r:(Int×au×Int)}(h:wK u0 a=some r):aE Tryz.prog 62 #[bv u0 s1 f g i,.agg #[.int .i64 a.back,.int .i64 a.high]] ⟨ro,[]⟩ (fun v _=>v= .tuple #[.int .i64 r.1,r.2.1.v,.int .i64 r.2.2]):=by
 unfold wK at h;have D:=j.oc;simp only[bF] at D;refine aE.go Tryz.func62 rfl Tryz.ntmps62 Tryz.results62 (by simp) fun main J hJ A a2 hd hs=>?_;have a3:=hs 0;have k1:=hs 1;clear hs;apply ah hJ;simp only[*,go_sem];refine aC fun m E F=>?_;try simp only[av] at F
 refine aC fun n G H=>?_;try simp only[av] at H
 refine aC fun I K L=>?_;try simp only[av] at L
 apply af hJ;refine ax hJ fun M=>?_;apply aj hJ;revert h;refine bS fun p N h=>?_;simp only[*,go_sem];refine aC fun d q s=>?_;have t:=aR.cons s M;try simp only[av] at s
 obtain ⟨l,u,w⟩:=fX (b:=d) (o:=(.cells #[.func (.func 105) #[.agg #[.int .i64 a.back,.int .i64 a.high]] #[]] 133)) [] ((I,rt 0 0)::(n,.cells #[.int .i64 a.back,.int .i64 a.high] 73)::(m,bk u0 s1 f g i)::[]) t q (aF.cons K (aF.cons G (aF.cons E (aF.nil _))));have y:az (dc) (bR ro d (.cells #[.func (.func 105) #[.agg #[.int .i64 a.back,.int .i64 a.high]] #[]] 133)) (.slice (some ⟨d,0,none⟩) 1 1) [(eU a)]:=(az.one (r:=(dc)) (e:=133) (cs:=#[.func (.func 105) #[.agg #[.int .i64 a.back,.int .i64 a.high]] #[]]) (x:=(eU a)) (own:=[(d,.cells #[.func (.func 105) #[.agg #[.int .i64 a.back,.int .i64 a.high]] #[]] 133)]) q (by simp[lk]) ⟨105,#[.agg #[.int .i64 a.back,.int .i64 a.high]],#[],rfl,⟨by simp only[go_sem],fun a4 a5 O _ _ _ _ _ P Q R S h=>by simp only[go_sem];exact sN a O ⟨P,Q,R,S⟩ h⟩⟩)
 generalize bR ro d (.cells #[.func (.func 105) #[.agg #[.int .i64 a.back,.int .i64 a.high]] #[]] 133)=a6 at y u l w;refine hU hJ w ?_;replace j:=j.mono l;replace k:=k.mono l;simp only[bt] at u;have T:=aR.tl t;refine b8 hJ _ (kD k u0 j ([(eU a)]) y N) fun v U a7 V W=>?_;obtain ⟨X,Y,Z,ab,rfl,z⟩:=W;have ad:=z.oc;simp only[bF] at ad;simp only[bt] at V;apply aK;simp only[*,go_sem];refine aC fun ae a8 B=>?_;have al:=aR.cons B T;try simp only[av] at B
 refine af hJ (ah hJ ?_);simp only[*,go_sem];revert h;refine aS hJ (fun ao h=>?_) fun ao h=>?_
 .cases h;apply ah hJ;simp only[*,go_sem];apply aA;simp only[*,go_sem]
 refine aI hJ (af hJ ?_);apply aj hJ;revert h;refine bS fun c ar h=>?_;cases h;simp only[*,go_sem];refine bn hJ _ (sZ p.1 (z.mono aP) a ar) (aK ?_);simp only[*,go_sem];refine aC fun a0 a9 C=>?_;have ba:=aR.cons C al;try simp only[av] at C
 apply af hJ;refine fC hJ mixed 5 ⟨U,[(a0,.cells #[.int .i64 c.spot.aH,.int .i64 c.spot.high.num,.int .i64 c.spot.high.den,.int .i64 c.at_,.int .i64 c.high.num,.int .i64 c.high.den] 122),(ae,bl p.1 X Y Z ab),(n,.cells #[.int .i64 a.back,.int .i64 a.high] 73),(m,bk u0 s1 f g i)]⟩ (by simp only[*,go_sem]) (by kernel_rfl) ?_;simp only[*,go_sem];apply aA;simp only[*,go_sem]
def wL (u0:ak)(b:aU):Option (au×Int):=
 ag (fc u0 ([(eU b)])) fun a=>cond ((a.2 != 0)) (some ((⟨0,0⟩:au),a.2)) (ag (s0 a.1 b) fun c=>some (c,0))
theorem Hz {ro:Addr->Option Value}(f:c6 ro)(u0:ak){s1 g i j:Value}(k:bL ro u0 s1 g i j)(a:aU){r:(au×Int)}(h:wL u0 a=some r):aE Tryz.prog 52 #[bv u0 s1 g i j,.agg #[.int .i64 a.back,.int .i64 a.high]] ⟨ro,[]⟩ (fun v _=>v= .tuple #[r.1.v,.int .i64 r.2]):=by
 unfold wL at h;refine aE.go Tryz.func52 rfl Tryz.ntmps52 Tryz.results52 (by simp) fun main J hJ A Y hd hs=>?_;have Z:=hs 0;have k1:=hs 1;clear hs;apply ah hJ;simp only[*,go_sem];refine aC fun B C D=>?_;try simp only[av] at D
 refine aC fun E F G=>?_;try simp only[av] at G
 refine aC fun H I K=>?_;try simp only[av] at K
 apply af hJ;refine ax hJ fun L=>?_;apply aj hJ;revert h;refine bS fun M N h=>?_;simp only[*,go_sem];refine aC fun c m n=>?_;have q:=aR.cons n L;try simp only[av] at n
 obtain ⟨l,s,u⟩:=fX (b:=c) (o:=(.cells #[.func (.func 105) #[.agg #[.int .i64 a.back,.int .i64 a.high]] #[]] 133)) [] ((H,rt 0 0)::(E,.cells #[.int .i64 a.back,.int .i64 a.high] 73)::(B,bk u0 s1 g i j)::[]) q m (aF.cons I (aF.cons F (aF.cons C (aF.nil _))));have w:az (dc) (bR ro c (.cells #[.func (.func 105) #[.agg #[.int .i64 a.back,.int .i64 a.high]] #[]] 133)) (.slice (some ⟨c,0,none⟩) 1 1) [(eU a)]:=(az.one (r:=(dc)) (e:=133) (cs:=#[.func (.func 105) #[.agg #[.int .i64 a.back,.int .i64 a.high]] #[]]) (x:=(eU a)) (own:=[(c,.cells #[.func (.func 105) #[.agg #[.int .i64 a.back,.int .i64 a.high]] #[]] 133)]) m (by simp[lk]) ⟨105,#[.agg #[.int .i64 a.back,.int .i64 a.high]],#[],rfl,⟨by simp only[go_sem],fun ab ad O _ _ _ _ _ P Q R S h=>by simp only[go_sem];exact sN a O ⟨P,Q,R,S⟩ h⟩⟩)
 generalize bR ro c (.cells #[.func (.func 105) #[.agg #[.int .i64 a.back,.int .i64 a.high]] #[]] 133)=ae at w s l u;refine hU hJ u ?_;replace k:=k.mono l;replace f:=f.mono l;simp only[bt] at s;have T:=aR.tl q;refine b8 hJ _ (kD f u0 k ([(eU a)]) w N) fun v al ao U V=>?_;obtain ⟨ar,a0,a2,a3,rfl,d⟩:=V;simp only[bt] at U;obtain ⟨d42,a4,rfl,a5,a6,-⟩:=id d.e;obtain ⟨d49,a7,rfl,a8,a9,-⟩:=id d.p;obtain ⟨d56,ba,rfl,bb,bc,-⟩:=id d.y;obtain ⟨d63,bd,rfl,bj,bl,-⟩:=id d.t;apply aK;simp only[*,go_sem];refine aC fun bm bo z=>?_;have br:=aR.cons z T;try simp only[av] at z
 refine af hJ (ah hJ ?_);simp only[*,go_sem];revert h;refine aS hJ (fun W h=>?_) fun W h=>?_
 .cases h;apply ah hJ;simp only[*,go_sem];apply aA;simp only[*,go_sem]
 refine aI hJ (af hJ ?_);apply aj hJ;revert h;refine bS fun bs X h=>?_;cases h;simp only[*,go_sem];refine bn hJ _ (Bl M.1 (d.mono aP) a X) (aK ?_);simp only[*,go_sem];apply aA;simp only[*,go_sem]
def wM (u0:ak)(c:aU):Option (au×Bool×Int):=
 ag (fc u0 ([(eU c)])) fun b=>cond ((b.2 != 0)) (some ((⟨0,0⟩:au),false,b.2)) (ag (jM b.1 c) fun a=>cond (((a.length:Int)==0)) (some ((⟨0,0⟩:au),false,0)) (ag (aT a 0) fun d=>ag (j8 a 1 (a.length:Int)) fun e=>ag (mD ji d e) fun f=>some (f.high,true,0)))
theorem HA {ro:Addr->Option Value}(l:c6 ro)(u0:ak){s1 f g i:Value}(j:bL ro u0 s1 f g i)(a:aU){r:(au×Bool×Int)}(h:wM u0 a=some r):aE Tryz.prog 35 #[bv u0 s1 f g i,.agg #[.int .i64 a.back,.int .i64 a.high]] ⟨ro,[]⟩ (fun v _=>v= .tuple #[r.1.v,.bool r.2.1,.int .i64 r.2.2]):=by
 unfold wM at h;have N:=j.oc;simp only[bF] at N;refine aE.go Tryz.func35 rfl Tryz.ntmps35 Tryz.results35 (by simp) fun main J hJ A cy hd hs=>?_;have cS:=hs 0;have k1:=hs 1;clear hs;apply ah hJ;simp only[*,go_sem];refine aC fun s O P=>?_;try simp only[av] at P
 refine aC fun t Q R=>?_;try simp only[av] at R
 refine aC fun S T U=>?_;try simp only[av] at U
 apply af hJ;refine ax hJ fun V=>?_;apply aj hJ;revert h;refine bS fun u W h=>?_;simp only[*,go_sem];refine aC fun d w y=>?_;have z:=aR.cons y V;try simp only[av] at y
 obtain ⟨m,B,C⟩:=fX (b:=d) (o:=(.cells #[.func (.func 105) #[.agg #[.int .i64 a.back,.int .i64 a.high]] #[]] 133)) [] ((S,rt 0 0)::(t,.cells #[.int .i64 a.back,.int .i64 a.high] 73)::(s,bk u0 s1 f g i)::[]) z w (aF.cons T (aF.cons Q (aF.cons O (aF.nil _))));have D:az (dc) (bR ro d (.cells #[.func (.func 105) #[.agg #[.int .i64 a.back,.int .i64 a.high]] #[]] 133)) (.slice (some ⟨d,0,none⟩) 1 1) [(eU a)]:=(az.one (r:=(dc)) (e:=133) (cs:=#[.func (.func 105) #[.agg #[.int .i64 a.back,.int .i64 a.high]] #[]]) (x:=(eU a)) (own:=[(d,.cells #[.func (.func 105) #[.agg #[.int .i64 a.back,.int .i64 a.high]] #[]] 133)]) w (by simp[lk]) ⟨105,#[.agg #[.int .i64 a.back,.int .i64 a.high]],#[],rfl,⟨by simp only[go_sem],fun X Y n _ _ _ _ _ Z ab ad ae h=>by simp only[go_sem];exact sN a n ⟨Z,ab,ad,ae⟩ h⟩⟩)
 generalize bR ro d (.cells #[.func (.func 105) #[.agg #[.int .i64 a.back,.int .i64 a.high]] #[]] 133)=c0 at D B m C;refine hU hJ C ?_;replace j:=j.mono m;replace l:=l.mono m;simp only[bt] at B;have al:=aR.tl z;refine b8 hJ _ (kD l u0 j ([(eU a)]) D W) fun v da db ao p=>?_;obtain ⟨ar,a0,a2,a3,rfl,E⟩:=p;have a4:=E.oc;simp only[bF] at a4;simp only[bt] at ao;apply aK;simp only[*,go_sem];refine aC fun a5 dd G=>?_;have df:=aR.cons G al;try simp only[av] at G
 refine af hJ (ah hJ ?_);simp only[*,go_sem];revert h;refine aS hJ (fun a6 h=>?_) fun a6 h=>?_
 .cases h;apply ah hJ;simp only[*,go_sem];apply aA;simp only[*,go_sem]
 refine aI hJ (af hJ ?_);apply aj hJ;revert h;refine bS fun k a7 h=>?_;simp only[*,go_sem];refine b8 hJ _ (wC u.1 E a a7) fun v a8 dk a9 p=>?_;obtain ⟨dp,rfl,q⟩:=p;simp only[bt] at a9;obtain ⟨d84,ba,rfl,dq,ds,-⟩:=id q;apply aK;simp only[*,go_sem];refine af hJ (ah hJ ?_);simp only[*,go_sem];revert h;refine aS hJ (fun bb h=>?_) fun bb h=>?_
 .cases h;apply ah hJ;simp only[*,go_sem];apply aA;simp only[*,go_sem]
 refine aI hJ (af hJ ?_);refine fC hJ mixed 7 ⟨a8,[(a5,bl u.1 ar a0 a2 a3),(t,.cells #[.int .i64 a.back,.int .i64 a.high] 73),(s,bk u0 s1 f g i)]⟩ (by simp only[*,go_sem]) (by kernel_rfl) ?_;revert h;refine bS fun H bc h=>?_;obtain ⟨dt,du,I⟩:=cq bc;obtain ⟨dv,bd,bj,bm,c⟩:=q.el _ _ I;obtain rfl:bd=H.cells:=bm;cases bj;have bo:=c 0 _ rfl;simp only[go_sem] at bo;have br:=c 1 _ rfl;simp only[go_sem] at br;have bs:=c 2 _ rfl;simp only[go_sem] at bs;have bz:=c 3 _ rfl;simp only[go_sem] at bz;have b0:=c 4 _ rfl;simp only[go_sem] at b0;have b1:=c 5 _ rfl;simp only[go_sem] at b1;clear c I;revert h;refine bS fun b2 b3 h=>?_;obtain ⟨dC,dE,dT,K⟩:=p8 b3;have L:(1:Int).toNat<=((k.length:Int)).toNat:=by omega
 have b4:((k.length:Int)).toNat<=ba:=by omega
 have ea:0<=((k.length:Int)):=by omega
 obtain ⟨d94,b5,ca,M⟩:=az.qb q (1:Int).toNat ((k.length:Int)).toNat L (by omega) K;simp only[go_sem] at b5 ca L b4;obtain ⟨_,_,cb,eb,ec,ed⟩:=id M;cases cb;clear K;revert h;refine bS fun eh cd h=>?_;cases h;simp only[*,go_sem];refine ⟨_,bE hJ fun F cf=>sQ (dR:=71) (ep:=#[]) (er:=#[]) ji ⟨by simp only[go_sem],fun X Y n cl _ h=>by simp only[go_sem];exact sM n cl h⟩ H b2 (M.mono (ck cf)) cd,cc ?_⟩;simp only[*,go_sem];apply aA;simp only[*,go_sem]
def mM (u0:ak)(b:aU):Option (au×Bool×Int):=
 ag (fc u0 ([(eU b)])) fun a=>cond ((a.2 != 0)) (some ((⟨0,0⟩:au),false,a.2)) (ag (kC a.1 b) fun c=>ag (ga a.1 b) fun d=>some (c,d,0))
theorem wN {ro:Addr->Option Value}(j:c6 ro)(u0:ak){s1 d f g:Value}(i:bL ro u0 s1 d f g)(a:aU){r:(au×Bool×Int)}(h:mM u0 a=some r):aE Tryz.prog 56 #[bv u0 s1 d f g,.agg #[.int .i64 a.back,.int .i64 a.high]] ⟨ro,[]⟩ (fun v _=>v= .tuple #[r.1.v,.bool r.2.1,.int .i64 r.2.2]):=by
 unfold mM at h;have C:=i.oc;simp only[bF] at C;refine aE.go Tryz.func56 rfl Tryz.ntmps56 Tryz.results56 (by simp) fun main J hJ A a0 hd hs=>?_;have a2:=hs 0;have k1:=hs 1;clear hs;apply ah hJ;simp only[*,go_sem];refine aC fun p D E=>?_;try simp only[av] at E
 refine aC fun q G H=>?_;try simp only[av] at H
 refine aC fun I K L=>?_;try simp only[av] at L
 apply af hJ;refine ax hJ fun M=>?_;apply aj hJ;revert h;refine bS fun k N h=>?_;simp only[*,go_sem];refine aC fun c s t=>?_;have u:=aR.cons t M;try simp only[av] at t
 obtain ⟨l,w,y⟩:=fX (b:=c) (o:=(.cells #[.func (.func 105) #[.agg #[.int .i64 a.back,.int .i64 a.high]] #[]] 133)) [] ((I,rt 0 0)::(q,.cells #[.int .i64 a.back,.int .i64 a.high] 73)::(p,bk u0 s1 d f g)::[]) u s (aF.cons K (aF.cons G (aF.cons D (aF.nil _))));have z:az (dc) (bR ro c (.cells #[.func (.func 105) #[.agg #[.int .i64 a.back,.int .i64 a.high]] #[]] 133)) (.slice (some ⟨c,0,none⟩) 1 1) [(eU a)]:=(az.one (r:=(dc)) (e:=133) (cs:=#[.func (.func 105) #[.agg #[.int .i64 a.back,.int .i64 a.high]] #[]]) (x:=(eU a)) (own:=[(c,.cells #[.func (.func 105) #[.agg #[.int .i64 a.back,.int .i64 a.high]] #[]] 133)]) s (by simp[lk]) ⟨105,#[.agg #[.int .i64 a.back,.int .i64 a.high]],#[],rfl,⟨by simp only[go_sem],fun a3 a4 O _ _ _ _ _ P Q R S h=>by simp only[go_sem];exact sN a O ⟨P,Q,R,S⟩ h⟩⟩)
 generalize bR ro c (.cells #[.func (.func 105) #[.agg #[.int .i64 a.back,.int .i64 a.high]] #[]] 133)=a5 at z w l y;refine hU hJ y ?_;replace i:=i.mono l;replace j:=j.mono l;simp only[bt] at w;have T:=aR.tl u;refine b8 hJ _ (kD j u0 i ([(eU a)]) z N) fun v U a6 V W=>?_;obtain ⟨X,Y,Z,ab,rfl,m⟩:=W;have ad:=m.oc;simp only[bF] at ad;simp only[bt] at V;apply aK;simp only[*,go_sem];refine aC fun ae a7 B=>?_;have a8:=aR.cons B T;try simp only[av] at B
 refine af hJ (ah hJ ?_);simp only[*,go_sem];revert h;refine aS hJ (fun al h=>?_) fun al h=>?_
 .cases h;apply ah hJ;simp only[*,go_sem];apply aA;simp only[*,go_sem]
 refine aI hJ (af hJ ?_);refine fC hJ mixed 6 ⟨U,[(ae,bl k.1 X Y Z ab),(q,.cells #[.int .i64 a.back,.int .i64 a.high] 73),(p,bk u0 s1 d f g)]⟩ (by simp only[*,go_sem]) (by kernel_rfl) ?_;revert h;refine bS fun a9 ao h=>?_;simp only[*,go_sem];refine ⟨_,bE hJ fun F n=>s3 k.1 (m.mono (ck n)) a ao,cc ?_⟩;revert h;refine bS fun ba ar h=>?_;cases h;simp only[*,go_sem];refine ⟨_,bE hJ fun F n=>mJ k.1 (m.mono (ck n)) a ar,?_⟩;apply aA;simp only[*,go_sem]
def wO (a:aZ)(st:Bool):Option (Fl Bool Unit):=
 some (.br 1000000000 true)
def tn (u0:ak):Option Bool:=
 ag (jf (wO) (mL u0) false) fun o=>ay o (fun b=>some false) (fun k a=>cond (k==1000000000) (some a) (none)) (fun _=>none)
theorem Br {ro:Addr->Option Value}(u0:ak){s1 c d g:Value}(k:bL ro u0 s1 c d g){r:Bool}(h:tn u0=some r):aE Tryz.prog 114 #[bv u0 s1 c d g] ⟨ro,[]⟩ (fun v _=>v= .bool r):=by
 unfold tn at h;refine aE.wv Tryz.func114 rfl Tryz.ntmps114 Tryz.results114 (by simp) fun main J hJ A D hd hs=>?_;have E:=hs 0;clear hs;apply ah hJ;simp only[*,go_sem];refine aC fun n x F=>?_;try simp only[av] at F
 refine aC fun l z G=>?_;try simp only[av] at G
 refine af hJ (ah hJ ?_);simp only[*,go_sem];revert h;refine bS fun Q H o=>?_;refine wu hJ aZ.v (by simp only[*,go_sem]) (tg u0 k.e k.p k.y k.t) (by kernel_rfl) (by kernel_rfl) (ρ:=Unit) (fun (I:Bool) K=>K=(l,.cells #[.bool I] 4)::(n,bl u0 s1 c d g)::[]) (f:=wO) H ?_ ?_ (by decide) ?_ ?_
 .exact rfl
 .rintro d33 L q M s u R h main J hJ _ rfl;unfold wO at h;try dsimp only at h
  obtain rfl:=sI h;generalize i:mB _ _ _=m;have S:sz m=6:=by rw[<-i,wq];simp only[*,go_sem]
  have T:m.defers=[]:=by rw[<-i];rfl
  have U:slot m 2= .pointer (some ⟨l,0,none⟩):=by rw[<-i,nW];simp only[*,go_sem]
  have V:slot m 5= .agg #[.int .i64 u.e0,.int .i64 u.e1,.int .i64 u.e2]:=by rw[<-i,nW];simp only[*,go_sem]
  clear i D hd E;refine e6 hJ fun b a=>?_;replace a:aF ro ((L,.loop q)::(d33,.deferred (some []))::(l,.cells #[.bool s] 4)::(n,bl u0 s1 c d g)::[]):=a;have W:=a.hd;have X:=a.tl.hd;have z:=a.tl.tl.hd;have x:=a.tl.tl.tl.hd;clear a;replace b:=b.nd;simp only[keys,List.map_cons,List.map_nil,List.map_append,List.cons_append,List.nil_append,List.nodup_cons,List.mem_cons,List.mem_append,List.not_mem_nil,or_false,not_or] at b;apply aI hJ;simp only[qj,go_sem];refine ⟨q,by simp only[*,go_sem],M,?_⟩;refine aN hJ (af hJ ?_);apply aj hJ;simp only[*,go_sem];apply aA;simp only[sH,mw,go_sem];refine ⟨{q with state:=.busy},by simp only[*,go_sem],?_⟩;simp only[*,go_sem];refine ⟨_,Le.sub (List.Sublist.refl _),rfl,rfl⟩
 .rintro N O P _ s rfl b a;replace a:aF ro ((O,.loop P)::(N,.deferred (some []))::(l,.cells #[.bool s] 4)::(n,bl u0 s1 c d g)::[]):=a;have Y:=a.hd;have Z:=a.tl.hd;have z:=a.tl.tl.hd;have x:=a.tl.tl.tl.hd;clear a;replace b:=b.nd;simp only[keys,List.map_cons,List.map_nil,List.map_append,List.cons_append,List.nil_append,List.nodup_cons,List.mem_cons,List.mem_append,List.not_mem_nil,or_false,not_or] at b;refine ⟨fun j=>?_,fun k1 j=>?_⟩
  .subst j;have h:=o;dsimp only[ay] at h;obtain rfl:=sI h;apply ah hJ;simp only[*,go_sem];refine ax hJ fun w=>?_;replace w:=w.nd;(try simp only[keys,List.map_cons,List.map_nil,List.map_append,List.cons_append,List.nil_append,List.nodup_cons,List.mem_cons,List.mem_append,List.not_mem_nil,or_false,not_or] at w);apply aA;simp only[*,go_sem]
  subst j;have h:=o;dsimp only[ay] at h;revert h;refine cS (fun B h=>?_) fun B h=>?_
  .obtain rfl:=sI h;obtain rfl:k1=1000000000:=by simpa using B
   unfold wo;rw[if_pos (show (1000000000:Nat)=sK from rfl)];simp only[*,go_sem]
  cases h
 intro k1 ab j;subst j;have h:=o;dsimp only[ay] at h;revert h;refine cS (fun C h=>?_) fun C h=>?_
 .obtain rfl:k1=1000000000:=by simpa using C
  decide
 cases h
def oo (a:aZ)(st:(List aZ)):Option (Fl (List aZ) Unit):=
 ag (cL st ([a])) fun b=>some (.nx b)
def tq (a:(List (Option aZ))):Option (List aZ):=
 ag (jf (oo) a ([]:List aZ)) fun o=>ay o (fun b=>some b) (fun k c=>none) (fun _=>none)
theorem HB {ro:Addr->Option Value}(u:(List (Option aZ))){dD:FuncId}{eg ei:Array Value}(K:mz Tryz.prog dD eg ei aZ.v u ro){r:(List aZ)}(h:tq u=some r):eM Tryz.prog 164 #[.slice none 0 0,.func (.func dD) eg ei] ro (fun v aM=>∃w,v=w/\az ia aM w r):=by
 unfold tq at h;refine aE.wv Tryz.func164 rfl Tryz.ntmps164 Tryz.results164 (by simp) fun main J hJ A L hd hs=>?_;have M:=hs 0;have k1:=hs 1;clear hs;apply ah hJ;simp only[*,go_sem,-h];refine aC fun e r1 n1=>?_;try simp only[av] at n1
 refine af hJ (ah hJ ?_);simp only[*,go_sem,-h];revert h;refine bS fun ar N o=>?_;have h:=trivial;refine wu hJ aZ.v (by simp only[*,go_sem]) K (by kernel_rfl) (by kernel_rfl) (ρ:=Unit) (fun (m:(List aZ)) O=>∃(d7:Option Addr) (c:Nat) (d:List (Nat×Obj)),O=(e,.cells #[.slice d7 m.length c] 110)::d/\aO ia ro 144 (.slice d7 m.length c) m d/\m.length<=c) (f:=oo) N ?_ ?_ (by decide) ?_ ?_
 .exact ⟨none,0,[],rfl,aO.nil _ _ _,Nat.le_refl _⟩
 .rintro d4 p i P v6 a a0 h main J hJ _ ⟨d7,c,d,rfl,q,Q⟩;unfold oo at h;try dsimp only at h
  generalize j:mB _ _ _=n;have a2:sz n=13:=by rw[<-j,wq];simp only[*,go_sem]
  have a3:n.defers=[]:=by rw[<-j];rfl
  have a4:slot n 2= .pointer (some ⟨e,0,none⟩):=by rw[<-j,nW];simp only[*,go_sem]
  have a5:slot n 7= .agg #[.int .i64 a.e0,.int .i64 a.e1,.int .i64 a.e2]:=by rw[<-j,nW];simp only[*,go_sem]
  clear j L hd M k1;refine e6 hJ fun g b=>?_;replace b:aF ro ((p,.loop i)::(d4,.deferred (some []))::(e,.cells #[.slice d7 v6.length c] 110)::d):=b;have r3:=b.hd;have a6:=b.tl.hd;have r1:=b.tl.tl.hd;clear b;replace g:=g.nd;simp only[keys,List.map_cons,List.map_nil,List.map_append,List.cons_append,List.nil_append,List.nodup_cons,List.mem_cons,List.mem_append,List.not_mem_nil,or_false,not_or] at g;refine ax hJ fun R=>?_;apply aj hJ;simp only[*,go_sem,-h];refine aC fun y a7 z=>?_;have a8:=aR.cons z R;try simp only[av] at z
  simp only[qj,go_sem];refine ⟨i,by simp only[*,go_sem],P,?_⟩;simp only[*,go_sem,-h];apply aN hJ;refine ax hJ fun S=>?_;apply aj hJ;revert h;refine bS fun a9 T h=>?_;obtain ⟨U,B⟩:=c9 T;simp only[*,go_sem,-h];refine aC fun C V D=>?_;have W:=aR.cons D S;try simp only[av] at D
  refine dB (r:=ia) (l:=v6) (x:=a) (cs:=#[.int .i64 a.e0,.int .i64 a.e1,.int .i64 a.e2]) (e2:=144) [(C,.cells #[.int .i64 a.e0,.int .i64 a.e1,.int .i64 a.e2] 144),(y,.cells #[.int .i64 a.e0,.int .i64 a.e1,.int .i64 a.e2] 144),(p,.loop {i with state:=.busy}),(d4,.deferred (some [])),(e,.cells #[.slice d7 v6.length c] 110)] [] q W U rfl (by simp only[*,go_sem,-h]) V rfl rfl AD AD FQ FT rfl FR (by decide) (by decide) (fun ba E s d X bb=>?_);simp only[aV] at X;subst d;rw[<-B] at s;clear B;obtain ⟨d28,Y,rfl,Z⟩:=s.len;refine ⟨⟨ro,(C,.cells #[.int .i64 a.e0,.int .i64 a.e1,.int .i64 a.e2] 144)::(y,.cells #[.int .i64 a.e0,.int .i64 a.e1,.int .i64 a.e2] 144)::(p,.loop {i with state:=.busy})::(d4,.deferred (some []))::(e,.cells #[.slice d7 v6.length c] 110)::E⟩,Le.refl _,?_⟩;apply aK;simp only[*,go_sem,-h];obtain rfl:=sI h;simp only[sH,mw,go_sem];refine ⟨{i with state:=.busy},by simp only[*,go_sem],?_⟩;simp only[*,go_sem];refine ⟨_,Le.sub (List.Sublist.cons _ (List.Sublist.cons _ (List.Sublist.refl _))),rfl,d28,Y,E,rfl,s,Z⟩
 .rintro d49 F G _ v6 ⟨d7,c,d,rfl,q,Q⟩ g b;replace b:aF ro ((F,.loop G)::(d49,.deferred (some []))::(e,.cells #[.slice d7 v6.length c] 110)::d):=b;have ab:=b.hd;have ad:=b.tl.hd;have r1:=b.tl.tl.hd;clear b;replace g:=g.nd;simp only[keys,List.map_cons,List.map_nil,List.map_append,List.cons_append,List.nil_append,List.nodup_cons,List.mem_cons,List.mem_append,List.not_mem_nil,or_false,not_or] at g;refine ⟨fun k=>?_,fun k1 k=>?_⟩
  .subst k;have h:=o;dsimp only[ay] at h;apply af hJ;refine ax hJ fun bc=>?_;apply aj hJ;simp only[*,go_sem,-h];obtain rfl:=sI h;refine ax hJ fun H=>?_;obtain ⟨bd,ae,al,I,ao⟩:=q.eH [(F,.loop G),(d49,.deferred (some [])),(e,.cells #[.slice d7 v6.length c] 110)] [] H (aF.cons ab (aF.cons ad (aF.cons r1 (aF.nil _))));clear H;refine cr hJ ao ?_;obtain ⟨bj,bk,-⟩:=I.op;simp only[bt] at al;refine ax hJ fun t=>?_;replace t:=t.nd;(try simp only[keys,List.map_cons,List.map_nil,List.map_append,List.cons_append,List.nil_append,List.nodup_cons,List.mem_cons,List.mem_append,List.not_mem_nil,or_false,not_or] at t);apply aA;simp only[*,go_sem];exact ⟨_,ae,Le.sub (List.nil_sublist _),_,rfl,I⟩
  subst k;have h:=o;dsimp only[ay] at h;cases h
 intro k1 bl k;subst k;have h:=o;dsimp only[ay] at h;cases h
def qH (u0:(List (Option aZ))):Option (List aZ):=
 ag (tq u0) fun a=>some a
theorem Bs {ro:Addr->Option Value}(u0:(List (Option aZ))){dR:FuncId}{ep er:Array Value}(c:mz Tryz.prog dR ep er aZ.v u0 ro){r:(List aZ)}(h:qH u0=some r):eM Tryz.prog 135 #[.func (.func dR) ep er] ro (fun v aM=>∃a,v=a/\az ia aM a r):=by
 unfold qH at h;refine aE.go Tryz.func135 rfl Tryz.ntmps135 Tryz.results135 (by simp) fun main J hJ A g hd hs=>?_;have i:=hs 0;clear hs;apply ah hJ;simp only[*,go_sem];apply ah hJ;revert h;refine bS fun j d h=>?_;obtain rfl:=sI h;simp only[*,go_sem];refine b8 hJ _ (HB (dD:=dR) (eg:=ep) (ei:=er) u0 c d) fun v k e l f=>?_;obtain ⟨m,rfl,b⟩:=f;obtain ⟨d8,n,rfl,o,p,-⟩:=id b;apply aK;simp only[*,go_sem];apply aA;simp only[*,go_sem];exact ⟨_,e,Le.sub (List.nil_sublist _),_,rfl,b⟩
def gS (u0:ak)(c:(List (ak->Option Int))):Option (cO×Int):=
 ag (fc u0 c) fun a=>cond ((a.2 != 0)) (some ((⟨(⟨0,0,(⟨0,0⟩:au),([]:(List bN)),([]:(List bO)),([]:(List b9)),([]:(List bV))⟩:ak),([]:(List aZ))⟩:cO),a.2)) (ag (qH (mL a.1)) fun b=>cond (((b.length:Int)==0)) (some ((⟨(⟨0,0,(⟨0,0⟩:au),([]:(List bN)),([]:(List bO)),([]:(List b9)),([]:(List bV))⟩:ak),([]:(List aZ))⟩:cO),9)) (some ((⟨a.1,b⟩:cO),0)))
theorem jO {ro:Addr->Option Value}(N:c6 ro)(u0:ak){s1 c d f:Value}(G:bL ro u0 s1 c d f)(B:(List (ak->Option Int))){H:Value}(I:az (dc) ro H B){r:(cO×Int)}(h:gS u0 B=some r):eM Tryz.prog 67 #[bv u0 s1 c d f,H] ro (fun v aM=>∃K w1 w2 w3 w4,v= .tuple #[.agg #[.int .i64 r.1.book.bH,.int .i64 r.1.book.bP,.int .i64 r.1.book.bf.num,.int .i64 r.1.book.bf.den,K,w1,w2,w3,w4],.int .i64 r.2]/\bL aM r.1.book K w1 w2 w3/\az ia aM w4 r.1.all):=by
 obtain ⟨d31,ae,rfl,al,ao,-⟩:=id I;unfold gS at h;have O:=G.oc;simp only[bF] at O;refine aE.go Tryz.func67 rfl Tryz.ntmps67 Tryz.results67 (by simp) fun main J hJ A ar hd hs=>?_;have a0:=hs 0;have k1:=hs 1;clear hs;apply ah hJ;simp only[*,go_sem];refine aC fun C g P=>?_;try simp only[av] at P
 refine aC fun D i Q=>?_;try simp only[av] at Q
 apply ah hJ;revert h;refine bS fun b R h=>?_;simp only[*,go_sem];refine b8 hJ _ (kD N u0 G B I R) fun v S j E k=>?_;obtain ⟨m,n,o,q,rfl,a⟩:=k;have T:=a.oc;simp only[bF] at T;replace i:=E.hd;replace g:=E.tl.hd;simp only[bt] at E;apply aK;simp only[*,go_sem];refine aC fun F s U=>?_;try simp only[av] at U
 refine af hJ (ah hJ ?_);simp only[*,go_sem];revert h;refine aS hJ (fun V h=>?_) fun V h=>?_
 .obtain rfl:=sI h;apply ah hJ;simp only[*,go_sem];apply aA;simp only[*,go_sem];exact ⟨_,j,Le.sub (List.nil_sublist _),_,_,_,_,_,rfl,⟨az.nil _ _,az.nil _ _,az.nil _ _,az.nil _ _⟩,az.nil _ _⟩
 refine aI hJ (af hJ ?_);refine eT hJ mixed [] (.rd 0 (.rd 1 (.pure 2 (.two 3 (.pure 4 (.one 5 (.one 6 .done))) 5 (.one 3 (.pure 4 (.one 6 .done))))))) ⟨S,[(F,bl b.1 m n o q),(D,.cells #[.int .i64 0,.int .i64 0,.int .i64 0,.int .i64 0,.slice none 0 0,.slice none 0 0,.slice none 0 0,.slice none 0 0,.slice none 0 0] 112),(C,bk u0 s1 c d f)]⟩ (by simp only[*,go_sem]) (by kernel_rfl) ?_;simp only[*,go_sem];refine kr ?_ ?_
 .revert h;refine bS fun a2 W h=>?_;simp only[*,go_sem];refine b8 hJ _ (Bs (dR:=107) (ep:=#[bv b.1 m n o q]) (er:=#[]) (mL b.1) (tg b.1 a.e a.p a.y a.t) W) fun v a3 u w k=>?_;obtain ⟨a4,rfl,L⟩:=k;replace a:=a.mono u;replace s:=w.hd;replace i:=w.tl.hd;replace g:=w.tl.tl.hd;simp only[bt] at w;obtain ⟨d80,a5,rfl,a6,a7,-⟩:=id L;have a8:=e7 (l:=[(F,bl b.1 m n o q),(D,.cells #[.int .i64 0,.int .i64 0,.int .i64 0,.int .i64 0,.slice none 0 0,.slice none 0 0,.slice none 0 0,.slice none 0 0,.slice none 0 0] 112),(C,bk u0 s1 c d f)]) u (aF.cons s (aF.cons i (aF.cons g (aF.nil _))));refine ⟨by simp only[*,go_sem],?_⟩;refine bZ ?_;simp only[*,go_sem];refine aC fun a9 ba X=>?_;try simp only[av] at X
  simp only[*,go_sem];refine af hJ (ah hJ ?_);simp only[*,go_sem];revert h;refine aS hJ (fun Y h=>?_) fun Y h=>?_
  .obtain rfl:=sI h;apply ah hJ;simp only[*,go_sem];apply aA;simp only[*,go_sem];exact ⟨_,(j).trans u,Le.sub (List.nil_sublist _),_,_,_,_,_,rfl,⟨az.nil _ _,az.nil _ _,az.nil _ _,az.nil _ _⟩,az.nil _ _⟩
  obtain rfl:=sI h;refine aI hJ (af hJ ?_);apply aj hJ;simp only[*,go_sem];apply aA;simp only[*,go_sem];exact ⟨_,(j).trans u,Le.sub (List.nil_sublist _),_,_,_,_,_,rfl,a,L⟩
 revert h;refine bS fun bb Z h=>?_;simp only[*,go_sem];refine aC fun bc bd ab=>?_;try simp only[av] at ab
 simp only[*,go_sem];refine b8 hJ _ (Bs (dR:=107) (ep:=#[bv b.1 m n o q]) (er:=#[]) (mL b.1) (tg b.1 a.e a.p a.y a.t) Z) fun v bj x z k=>?_;obtain ⟨bm,rfl,M⟩:=k;replace a:=a.mono x;replace s:=z.tl.hd;replace i:=z.tl.tl.hd;replace g:=z.tl.tl.tl.hd;simp only[bt] at z;obtain ⟨d96,bo,rfl,br,bs,-⟩:=id M;have bz:=e7 (l:=[(F,bl b.1 m n o q),(D,.cells #[.int .i64 0,.int .i64 0,.int .i64 0,.int .i64 0,.slice none 0 0,.slice none 0 0,.slice none 0 0,.slice none 0 0,.slice none 0 0] 112),(C,bk u0 s1 c d f)]) x (aF.cons s (aF.cons i (aF.cons g (aF.nil _))));refine ⟨by simp only[*,go_sem],?_⟩;refine bZ ?_;simp only[*,go_sem];refine af hJ (ah hJ ?_);simp only[*,go_sem];revert h;refine aS hJ (fun ad h=>?_) fun ad h=>?_
 .obtain rfl:=sI h;apply ah hJ;simp only[*,go_sem];apply aA;simp only[*,go_sem];exact ⟨_,(j).trans x,Le.sub (List.nil_sublist _),_,_,_,_,_,rfl,⟨az.nil _ _,az.nil _ _,az.nil _ _,az.nil _ _⟩,az.nil _ _⟩
 obtain rfl:=sI h;refine aI hJ (af hJ ?_);apply aj hJ;simp only[*,go_sem];apply aA;simp only[*,go_sem];exact ⟨_,(j).trans x,Le.sub (List.nil_sublist _),_,_,_,_,_,rfl,a,M⟩
def qI (a:Int)(i56:Nat)(b:Int)(st:(List bO)):Option (Fl (List bO) ak):=
 ag (cL st ([(⟨b,a⟩:bO)])) fun c=>some (.nx c)
def oq (u0:ak)(a:Int)(b:(List Int)):Option ak:=
 ag (qF u0.props) fun c=>ag (bD (qI a) 0 b c) fun o=>ay o (fun d=>some (⟨u0.bH,u0.bP,u0.bf,u0.an,d,u0.aG,u0.told⟩:ak)) (fun _ _=>none) (fun r=>some r)
theorem HC {ro:Addr->Option Value}(u0:ak){s1 s b c:Value}(g:bL ro u0 s1 s b c)(i:Int)(d:(List Int)){D:Value}(E:az rI ro D d){r:ak}(h:oq u0 i d=some r):eM Tryz.prog 144 #[bv u0 s1 s b c,.int .i64 i,D] ro (fun v aM=>∃F w1 w2 w3,v=bv r F w1 w2 w3/\bL aM r F w1 w2 w3):=by
 obtain ⟨d31,b4,rfl,b5,U,-⟩:=id E;unfold oq at h;have V:=g.oc;simp only[bF] at V;refine aE.go Tryz.func144 rfl Tryz.ntmps144 Tryz.results144 (by simp) fun main J hJ A W hd hs=>?_;have X:=hs 0;have k1:=hs 1;have Y:=hs 2;clear hs;apply ah hJ;simp only[*,go_sem];refine aC fun k Z ab=>?_;try simp only[av] at ab
 refine aC fun o ad ae=>?_;try simp only[av] at ae
 apply af hJ;refine ax hJ fun ca=>?_;apply aj hJ;revert h;refine bS fun al ao h=>?_;simp only[*,go_sem];refine dQ hJ (aW:=[]) [(o,bz 109),(k,bl u0 s1 s b c)] [] _ (Bp u0.props g.p ao) (fun cb G H u w cd=>?_);simp only[aV] at w;subst u;obtain ⟨d45,ar,rfl,a0⟩:=H.len;refine ⟨⟨ro,(o,bz 109)::(k,bl u0 s1 s b c)::G⟩,Le.refl _,?_⟩;apply aK;simp only[*,go_sem];refine af hJ (af hJ ?_);refine ax hJ fun cf=>?_;apply aj hJ;simp only[*,go_sem];apply aN hJ;revert h;refine bS fun a2 j a3=>?_;refine bQ hJ (rg 17 15 [8]) (fun m a4 F'=>∃(i56:Nat) (d51:Option Addr) (f:Nat) (z:List (Nat×Obj)) (a:(List bO)),m=d.length - i56/\i56<=d.length/\bD (qI i) i56 (d.drop i56) a=some a2/\F'=⟨ro,(o,bz 109)::(k,bl u0 s1 (sl d51 a f) b c)::z⟩/\aO eI ro 70 (.slice d51 a.length f) a z/\a.length<=f/\slot a4 17= .int .i64 (i56:Int)) d.length ?_ ?_
 .refine ⟨0,d45,ar,G,al,(Nat.sub_zero _).symm,Nat.zero_le _,j,rfl,H,a0,?_⟩;simp only[*,go_sem]
 rintro cl cy F' I ⟨i56,d51,f,z,a,rfl,cS,j,rfl,K,c0,da⟩;obtain ⟨a5,a6,a7⟩:=I.pick [1,3,6,15,16] (by decide);simp only[*,go_sem] at a5 a6 a7;clear I W hd X k1 Y;apply ah hJ;simp only[*,go_sem];apply af hJ;rcases Nat.lt_or_ge i56 d.length with a8|L
 .refine cn hJ ?_;apply aI hJ;obtain ⟨q,B⟩:∃x,d[i56]?=some x:=⟨_,List.getElem?_eq_getElem a8⟩
  rw[dh B] at j;revert j;refine bS fun db h a9=>?_;unfold qI at h;try dsimp only at h
  obtain ⟨dd,ba,bb,bc,M⟩:=E.el _ _ B;obtain rfl:ba=[.int .i64 q]:=bc;cases bb;have bd:=M 0 _ rfl;simp only[go_sem] at bd;clear M B;refine af hJ (aN hJ (af hJ ?_));refine ax hJ fun df=>?_;apply aj hJ;simp only[*,go_sem];refine ax hJ fun bj=>?_;apply aj hJ;revert h;refine bS fun bk bm h=>?_;obtain rfl:=sI h;obtain ⟨bo,N⟩:=c9 bm;simp only[*,go_sem];refine aC fun O br P=>?_;have bs:=aR.cons P bj;try simp only[av] at P
  refine dB (r:=eI) (l:=a) (x:=(⟨q,i⟩:bO)) (cs:=#[.int .i64 q,.int .i64 i]) (e2:=70) [(O,.cells #[.int .i64 q,.int .i64 i] 70),(o,bz 109),(k,bl u0 s1 (sl d51 a f) b c)] [] K bs bo rfl (by simp only[*,go_sem]) br rfl rfl k6 k6 sA sC rfl sB (by decide) (by decide) (fun dk Q C u w dp=>?_);simp only[aV] at w;subst u;rw[<-N] at C;clear N;obtain ⟨d74,b0,rfl,b1⟩:=C.len;refine ⟨⟨ro,(O,.cells #[.int .i64 q,.int .i64 i] 70)::(o,bz 109)::(k,bl u0 s1 (sl d51 a f) b c)::Q⟩,Le.refl _,?_⟩;apply aK;simp only[*,go_sem];have dq:=cw (n:=i56) (by have:=U;omega);apply aj hJ;simp only[*,go_sem];refine ⟨d.length - (i56+1),by omega,_,Le.sub (List.Sublist.cons _ (List.Sublist.refl _)),i56+1,d74,b0,Q,bk,rfl,by omega,a9,rfl,C,b1,?_⟩;simp only[*,go_sem]
 have ds:=Nat.not_lt.2 L;refine bT hJ ?_;rw[List.drop_eq_nil_of_le L] at j;obtain rfl:=sI j;clear j;have h:=a3;dsimp only[ay] at h;obtain rfl:=sI h;apply bJ;simp only[go_sem];apply af hJ;refine ax hJ fun dt=>?_;apply aj hJ;simp only[*,go_sem];refine ax hJ fun R=>?_;obtain ⟨du,S,b2,T,b3⟩:=K.eH [(o,bl u0 s1 (sl d51 a f) b c),(k,bl u0 s1 (sl d51 a f) b c)] [] R (aF.cons ad (aF.cons Z (aF.nil _)));clear R;refine cr hJ b3 ?_;obtain ⟨dv,dC,-⟩:=T.op;replace g:=g.mono S;simp only[bt] at b2;apply aA;simp only[*,go_sem];exact ⟨_,S,Le.sub (List.nil_sublist _),_,_,_,_,rfl,⟨g.e,T,g.y,g.t⟩⟩
def tr (u0:ak)(a:(List Int))(st:((List (List Int))×Int)):Option (Fl ((List (List Int))×Int) (List (List Int))):=
 ag (eo u0 st.2) fun b=>cond (b) (ag (om a) fun c=>ag (cL c ([st.2])) fun d=>ag (cL st.1 ([d])) fun e=>some (.nx (e,(IntKind.i64.wrap (st.2+1))))) (some (.bk (st.1,st.2)))
def tu (u0:ak)(a:(List Int))(st:((List (List Int))×Int)):Option (Fl ((List (List Int))×Int) (List (List Int))):=
 ag (eo u0 st.2) fun b=>cond (b) (ag (om a) fun c=>ag (cL c ([st.2])) fun d=>ag (cL st.1 ([d])) fun e=>some (.nx (e,(IntKind.i64.wrap (st.2+1))))) (some (.bk (st.1,st.2)))
def ot (u0:ak)(i47:Nat)(a:(List Int))(st:(List (List Int))):Option (Fl (List (List Int)) (List (List Int))):=
 ag (aT u0.an 0) fun b=>cond (decide (0<(a.length:Int))) (ag (aT a (IntKind.i64.wrap ((a.length:Int) - 1))) fun c=>ag (aQ (tr u0 a) fu (st,(IntKind.i64.wrap (c+1)))) fun o=>ay o (fun d=>some (.nx d.1)) (fun _ _=>none) (fun r=>some (.rt r))) (ag (aQ (tu u0 a) fu (st,b.aH)) fun o=>ay o (fun e=>some (.nx e.1)) (fun _ _=>none) (fun r=>some (.rt r)))
def mN (u0:ak)(a:(List (List Int))):Option (List (List Int)):=
 ag (bD (ot u0) 0 a ([]:List (List Int))) fun o=>ay o (fun b=>some b) (fun _ _=>none) (fun r=>some r)
theorem Bt {ro:Addr->Option Value}(u0:ak){s1 a b c:Value}(j:bL ro u0 s1 a b c)(s:(List (List Int))){bm:Value}(Q:az (rL rI) ro bm s){r:(List (List Int))}(h:mN u0 s=some r):eM Tryz.prog 86 #[bv u0 s1 a b c,bm] ro (fun v aM=>∃bo,v=bo/\az (rL rI) aM bo r):=by
 obtain ⟨d3,c4,rfl,h9,ib,-⟩:=id j.e;obtain ⟨d31,ih,rfl,ik,br,-⟩:=id Q;unfold mN at h;refine aE.go Tryz.func86 rfl Tryz.ntmps86 Tryz.results86 (by simp) fun main J hJ A e3 hd hs=>?_;have fa:=hs 0;have k1:=hs 1;clear hs;apply ah hJ;simp only[*,go_sem];refine aC fun d u fb=>?_;try simp only[av] at fb
 apply ah hJ;simp only[*,go_sem];refine af hJ (ah hJ ?_);simp only[*,go_sem];apply aN hJ;revert h;refine bS fun fg F fi=>?_;refine bQ hJ (rg 12 35 [5,7,8,9]) (fun m w F'=>∃(i47:Nat) (y:Addr->Option Value) (d38:Option Addr) (G:Nat) (K:List (Nat×Obj)) (z:(List (List Int))),m=s.length - i47/\i47<=s.length/\bD (ot u0) i47 (s.drop i47) z=some fg/\F'=⟨y,(d,bl u0 (sl d3 u0.an c4) a b c)::K⟩/\Ext ro y/\aO (rL rI) y 35 (.slice d38 z.length G) z K/\z.length<=G/\slot w 12= .int .i64 (i47:Int)/\slot w 5= .slice d38 z.length G) s.length ?_ ?_
 .refine ⟨0,ro,none,0,[],([]:List (List Int)),(Nat.sub_zero _).symm,Nat.zero_le _,F,rfl,Ext.refl _,aO.nil _ _ _,Nat.le_refl _,?_⟩;simp only[*,go_sem]
 rintro il bs F' bz ⟨i47,y,d38,G,K,z,rfl,im,F,rfl,L,Z,b0,b1,b2⟩;refine e6 hJ fun _ b3=>?_;replace Q:=Q.mono L;replace j:=j.mono L;replace u:=b3.hd;simp only[bt] at b3;obtain ⟨ab,ad,ae⟩:=bz.pick [2,4,10,11] (by decide);simp only[*,go_sem] at ab ad ae;clear bz e3 hd fa k1;apply ah hJ;simp only[*,go_sem];apply af hJ;rcases Nat.lt_or_ge i47 s.length with fp|b4
 .refine cn hJ ?_;apply aI hJ;obtain ⟨R,al⟩:∃x,s[i47]?=some x:=⟨_,List.getElem?_eq_getElem fp⟩
  rw[dh al] at F;revert F;refine bS fun iv h b5=>?_;unfold ot at h;try dsimp only at h
  obtain ⟨ix,jC,fr,fs,ca⟩:=Q.el _ _ al;obtain ⟨j1,rfl,t⟩:=fs;obtain ⟨d56,j2,rfl,kh,kj,kk⟩:=id t;cases fr;have ft:=ca 0 _ rfl;simp only[go_sem] at ft;clear ca al;refine af hJ (aN hJ (af hJ ?_));refine ax hJ fun kl=>?_;apply aj hJ;simp only[*,go_sem];apply af hJ;refine ax hJ fun km=>?_;apply aj hJ;revert h;refine bS fun cb fv h=>?_;obtain ⟨kn,kp,cd⟩:=cq fv;obtain ⟨f,fw,fx,fz,ao⟩:=j.e.el _ _ cd;obtain rfl:fw=cb.cells:=fz;cases fx;have gg:=ao 0 _ rfl;simp only[go_sem] at gg;have gl:=ao 1 _ rfl;simp only[go_sem] at gl;clear ao cd;simp only[*,go_sem];refine af hJ (af hJ ?_);refine ax hJ fun ks=>?_;apply aj hJ;simp only[*,go_sem];revert h;refine aS hJ (fun gn h=>?_) fun gn h=>?_
  .refine ax hJ fun kt=>?_;apply aj hJ;revert h;refine bS fun cf gp h=>?_;obtain ⟨kv,kx,cl⟩:=cq gp;obtain ⟨ky,gB,gC,gM,cy⟩:=t.el _ _ cl;obtain rfl:gB=[.int .i64 cf]:=gM;cases gC;have gN:=cy 0 _ rfl;simp only[go_sem] at gN;clear cy cl;simp only[*,go_sem];apply af hJ;refine ax hJ fun k0=>?_;apply aj hJ;simp only[*,go_sem];apply aN hJ;revert h;refine bS fun gT S gV=>?_;refine bQ hJ (rg 33 13 [5,9]) (fun m w F'=>∃(H:Addr->Option Value) (d75:Option Addr) (M:Nat) (k:List (Nat×Obj)) (B:(List (List Int))) (g:Int),aQ (tr u0 R) m (B,g)=some gT/\F'=⟨H,(d,bl u0 (sl (some f) u0.an c4) a b c)::k⟩/\Ext y H/\aO (rL rI) H 35 (.slice d75 B.length M) B k/\B.length<=M/\slot w 5= .slice d75 B.length M/\slot w 9= .int .i64 g) fu ?_ ?_
   .refine ⟨y,d38,G,K,z,(IntKind.i64.wrap (cf+1)),S,rfl,Ext.refl _,Z,b0,?_⟩;simp only[*,go_sem]
   rintro ar g0 F' a0 ⟨H,d75,M,k,B,g,S,rfl,T,N,g1,k2,lb⟩;refine e6 hJ fun _ cS=>?_;replace t:=t.mono T;replace j:=j.mono T;replace u:=cS.hd;simp only[bt] at cS;obtain ⟨g2,g3,g4⟩:=a0.pick [2,4,7,8,10,11,12,13,15,16,17,18,21,22,23,24,25,26,27,28,30,31,32] (by decide);simp only[*,go_sem] at g2 g3 g4;have lh:cF (rg 12 35 [5,7,8,9]) g0 bs:=(a0.fM (by decide)).trans (by simp only[*,go_sem]);clear a0 ab ad ae b2 b1;obtain _|ar:=ar
   .exact absurd S (by simp only[aQ,reduceCtorEq,not_false_eq_true])
   revert S;refine bS fun lj h a2=>?_;unfold tr at h;(try dsimp only at h);refine af hJ (af hJ ?_);refine ax hJ fun lk=>?_;apply aj hJ;revert h;refine bS fun ll ha h=>?_;simp only[*,go_sem];refine bn hJ _ (sO u0 (j.mono aP) g ha) ?_;revert h;refine aS hJ (fun hc h=>?_) fun hc h=>?_
   .refine aI hJ (af hJ ?_);apply aN hJ;refine ax hJ fun ln=>?_;apply aj hJ;revert h;refine bS fun hf hg h=>?_;simp only[*,go_sem];refine dQ hJ (aW:=[]) [(d,bl u0 (sl (some f) u0.an c4) a b c)] k _ (Bq R t hg) (fun lo hh c0 p q hi=>?_);simp only[aV] at q;subst p;obtain ⟨d133,lr,rfl,lv⟩:=c0.len;refine ⟨⟨H,(d,bl u0 (sl (some f) u0.an c4) a b c)::(hh++k)⟩,Le.refl _,?_⟩;apply aK;revert h;refine bS fun U hj h=>?_;obtain ⟨hk,da⟩:=c9 hj;simp only[*,go_sem];refine aC fun C db dd=>?_;have hl:=aR.cons dd hi;try simp only[av] at dd
    refine dB (r:=rI) (l:=hf) (x:=g) (cs:=#[.int .i64 g]) (e2:=3) [(C,ic g),(d,bl u0 (sl (some f) u0.an c4) a b c)] k c0 hl hk rfl (by simp only[*,go_sem]) db rfl rfl dP dP gL gP rfl gO (by decide) (by decide) (fun lx df a3 p q dk=>?_);simp only[aV] at q;subst p;rw[<-da] at a3;clear da;obtain ⟨d145,a4,rfl,ly⟩:=a3.len;obtain ⟨a5,V,a6,dp,hn⟩:=a3.eH [(C,ic g),(d,bl u0 (sl (some f) u0.an c4) a b c)] k dk (aF.cons db (aF.cons u (N.jG)));have ho:=aR.sub (l:=(C,ic g)::(d,bl u0 (sl (some f) u0.an c4) a b c)::k) (l':=(C,ic g)::(d,bl u0 (sl (some f) u0.an c4) a b c)::(df++k)) [(C,ic g),(d,bl u0 (sl (some f) u0.an c4) a b c)] df k (by first|rfl|simp only[aV]|(simp only[aV];rfl)) (by first|rfl|simp only[aV]|(simp only[aV];rfl)) dk;refine ⟨⟨a5,(C,ic g)::(d,bl u0 (sl (some f) u0.an c4) a b c)::k⟩,hn,?_⟩;obtain ⟨lL,l1,-⟩:=dp.op;replace t:=t.mono V;replace j:=j.mono V;replace u:=a6.tl.hd;replace N:=N.mono V a6.tl.tl;simp only[bt] at a6;apply aK;revert h;refine bS fun hp hq h=>?_;obtain rfl:=sI h;obtain ⟨hr,dq⟩:=c9 hq;simp only[*,go_sem];refine aC fun ds ht dt=>?_;have hv:=aR.cons dt ho;try simp only[av] at dt
    refine dB (r:=(rL rI)) (l:=B) (x:=U) (cs:=#[.slice d145 U.length a4]) (e2:=35) [(ds,.cells #[.slice d145 U.length a4] 35),(C,ic g),(d,bl u0 (sl (some f) u0.an c4) a b c)] [] N hv hr ⟨_,rfl,dp⟩ (by simp only[*,go_sem]) ht rfl rfl k7 k7 su sx rfl sw (by decide) (by decide) (fun l2 du a7 p q l3=>?_);simp only[aV] at q;subst p;rw[<-dq] at a7;clear dq;obtain ⟨d165,hx,rfl,hy⟩:=a7.len;refine ⟨⟨a5,(ds,.cells #[.slice d145 U.length a4] 35)::(C,ic g)::(d,bl u0 (sl (some f) u0.an c4) a b c)::du⟩,Le.refl _,?_⟩;apply aK;simp only[*,go_sem];refine ax hJ fun l4=>?_;apply aj hJ;simp only[*,go_sem];refine ⟨ar,Nat.lt_succ_self _,_,Le.sub (List.Sublist.cons _ (List.Sublist.cons _ (List.Sublist.refl _))),a5,d165,hx,du,hp,(IntKind.i64.wrap (g+1)),a2,rfl,(T.trans V),a7,hy,?_⟩;simp only[*,go_sem]
   obtain rfl:=sI h;apply bJ;simp only[go_sem];obtain rfl:=sI a2;clear a2;have h:=gV;dsimp only[ay] at h;obtain rfl:=sI h;have hz:=cw (n:=i47) (by have:=br;omega);apply aj hJ;simp only[*,go_sem];refine ⟨s.length - (i47+1),by omega,_,Le.sub (List.Sublist.refl _),i47+1,H,d75,M,k,B,rfl,by omega,b5,rfl,(L.trans T),N,g1,?_⟩;simp only[*,go_sem]
  refine aI hJ (af hJ ?_);refine ax hJ fun ma=>?_;apply aj hJ;simp only[*,go_sem];apply aN hJ;revert h;refine bS fun hA W hB=>?_;refine bQ hJ (rg 33 13 [5,9]) (fun m w F'=>∃(I:Addr->Option Value) (d172:Option Addr) (O:Nat) (o:List (Nat×Obj)) (D:(List (List Int))) (i:Int),aQ (tu u0 R) m (D,i)=some hA/\F'=⟨I,(d,bl u0 (sl (some f) u0.an c4) a b c)::o⟩/\Ext y I/\aO (rL rI) I 35 (.slice d172 D.length O) D o/\D.length<=O/\slot w 5= .slice d172 D.length O/\slot w 9= .int .i64 i) fu ?_ ?_
  .refine ⟨y,d38,G,K,z,cb.aH,W,rfl,Ext.refl _,Z,b0,?_⟩;simp only[*,go_sem]
  rintro a8 hD F' a9 ⟨I,d172,O,o,D,i,W,rfl,X,P,hE,mf,mi⟩;refine e6 hJ fun _ dv=>?_;replace t:=t.mono X;replace j:=j.mono X;replace u:=dv.hd;simp only[bt] at dv;obtain ⟨hF,hG,hI⟩:=a9.pick [2,4,7,8,10,11,12,13,15,16,17,18,21,22,23,24,32] (by decide);simp only[*,go_sem] at hF hG hI;have ml:cF (rg 12 35 [5,7,8,9]) hD bs:=(a9.fM (by decide)).trans (by simp only[*,go_sem]);clear a9 ab ad ae b2 b1;obtain _|a8:=a8
  .exact absurd W (by simp only[aQ,reduceCtorEq,not_false_eq_true])
  revert W;refine bS fun mn h ba=>?_;unfold tu at h;try dsimp only at h
  refine af hJ (af hJ ?_);refine ax hJ fun mr=>?_;apply aj hJ;revert h;refine bS fun mx hK h=>?_;simp only[*,go_sem];refine bn hJ _ (sO u0 (j.mono aP) i hK) ?_;revert h;refine aS hJ (fun hL h=>?_) fun hL h=>?_
  .refine aI hJ (af hJ ?_);apply aN hJ;refine ax hJ fun my=>?_;apply aj hJ;revert h;refine bS fun hM hN h=>?_;simp only[*,go_sem];refine dQ hJ (aW:=[]) [(d,bl u0 (sl (some f) u0.an c4) a b c)] o _ (Bq R t hN) (fun m1 hP dC p q hQ=>?_);simp only[aV] at q;subst p;obtain ⟨d230,m2,rfl,na⟩:=dC.len;refine ⟨⟨I,(d,bl u0 (sl (some f) u0.an c4) a b c)::(hP++o)⟩,Le.refl _,?_⟩;apply aK;revert h;refine bS fun Y hR h=>?_;obtain ⟨hS,dE⟩:=c9 hR;simp only[*,go_sem];refine aC fun E dT ea=>?_;have hT:=aR.cons ea hQ;try simp only[av] at ea
   refine dB (r:=rI) (l:=hM) (x:=i) (cs:=#[.int .i64 i]) (e2:=3) [(E,ic i),(d,bl u0 (sl (some f) u0.an c4) a b c)] o dC hT hS rfl (by simp only[*,go_sem]) dT rfl rfl dP dP gL gP rfl gO (by decide) (by decide) (fun nb eb bb p q ec=>?_);simp only[aV] at q;subst p;rw[<-dE] at bb;clear dE;obtain ⟨d242,bc,rfl,nd⟩:=bb.len;obtain ⟨bd,ed,bj,eh,hV⟩:=bb.eH [(E,ic i),(d,bl u0 (sl (some f) u0.an c4) a b c)] o ec (aF.cons dT (aF.cons u (P.jG)));have hX:=aR.sub (l:=(E,ic i)::(d,bl u0 (sl (some f) u0.an c4) a b c)::o) (l':=(E,ic i)::(d,bl u0 (sl (some f) u0.an c4) a b c)::(eb++o)) [(E,ic i),(d,bl u0 (sl (some f) u0.an c4) a b c)] eb o (by first|rfl|simp only[aV]|(simp only[aV];rfl)) (by first|rfl|simp only[aV]|(simp only[aV];rfl)) ec;refine ⟨⟨bd,(E,ic i)::(d,bl u0 (sl (some f) u0.an c4) a b c)::o⟩,hV,?_⟩;obtain ⟨nf,nm,-⟩:=eh.op;replace u:=bj.tl.hd;replace P:=P.mono ed bj.tl.tl;simp only[bt] at bj;apply aK;revert h;refine bS fun hY hZ h=>?_;obtain rfl:=sI h;obtain ⟨h0,et⟩:=c9 hZ;simp only[*,go_sem];refine aC fun ev h1 eQ=>?_;have h2:=aR.cons eQ hX;try simp only[av] at eQ
   refine dB (r:=(rL rI)) (l:=D) (x:=Y) (cs:=#[.slice d242 Y.length bc]) (e2:=35) [(ev,.cells #[.slice d242 Y.length bc] 35),(E,ic i),(d,bl u0 (sl (some f) u0.an c4) a b c)] [] P h2 h0 ⟨_,rfl,eh⟩ (by simp only[*,go_sem]) h1 rfl rfl k7 k7 su sx rfl sw (by decide) (by decide) (fun nn eS bk p q np=>?_);simp only[aV] at q;subst p;rw[<-et] at bk;clear et;obtain ⟨h3,h4,rfl,h5⟩:=bk.len;refine ⟨⟨bd,(ev,.cells #[.slice d242 Y.length bc] 35)::(E,ic i)::(d,bl u0 (sl (some f) u0.an c4) a b c)::eS⟩,Le.refl _,?_⟩;apply aK;simp only[*,go_sem];refine ax hJ fun ns=>?_;apply aj hJ;simp only[*,go_sem];refine ⟨a8,Nat.lt_succ_self _,_,Le.sub (List.Sublist.cons _ (List.Sublist.cons _ (List.Sublist.refl _))),bd,h3,h4,eS,hY,(IntKind.i64.wrap (i+1)),ba,rfl,(X.trans ed),bk,h5,?_⟩;simp only[*,go_sem]
  obtain rfl:=sI h;apply bJ;simp only[go_sem];obtain rfl:=sI ba;clear ba;have h:=hB;dsimp only[ay] at h;obtain rfl:=sI h;have hz:=cw (n:=i47) (by have:=br;omega);apply aj hJ;simp only[*,go_sem];refine ⟨s.length - (i47+1),by omega,_,Le.sub (List.Sublist.refl _),i47+1,I,d172,O,o,D,rfl,by omega,b5,rfl,(L.trans X),P,hE,?_⟩;simp only[*,go_sem]
 have nx:=Nat.not_lt.2 b4;refine bT hJ ?_;rw[List.drop_eq_nil_of_le b4] at F;obtain rfl:=sI F;clear F;have h:=fi;dsimp only[ay] at h;obtain rfl:=sI h;apply bJ;simp only[go_sem];apply af hJ;refine ax hJ fun nz=>?_;apply aj hJ;simp only[*,go_sem];refine ax hJ fun e0=>?_;obtain ⟨nA,h6,h7,e1,h8⟩:=Z.eH [(d,bl u0 (sl d3 u0.an c4) a b c)] [] e0 (aF.cons u (aF.nil _));clear e0;refine cr hJ h8 ?_;obtain ⟨nH,nI,-⟩:=e1.op;simp only[bt] at h7;apply aA;simp only[*,go_sem];exact ⟨_,(L).trans h6,Le.sub (List.nil_sublist _),_,rfl,e1⟩
def ou (u0:Int):Option Bool:=
 some (u0 != u0)
theorem tv {ro:Addr->Option Value}(u0:Int){r:Bool}(h:ou u0=some r):aE Tryz.prog 191 #[.int .i64 u0] ⟨ro,[]⟩ (fun v _=>v= .bool r):=by
 unfold ou at h;cases h;refine aE.go Tryz.func191 rfl Tryz.ntmps191 Tryz.results191 (by simp) fun main J hJ A a hd hs=>?_;have b:=hs 0;clear hs;apply ah hJ;simp only[*,go_sem];apply ah hJ;simp only[*,go_sem];apply aA;simp only[*,go_sem]
def iK (u0:Int)(a:Int):Option Bool:=
 ag (ou u0) fun b=>cond (b) (ag (ou a) fun c=>cond (!c) (some true) (some (decide (u0<a)))) (some (decide (u0<a)))
theorem jP {ro:Addr->Option Value}(u0:Int)(a:Int){r:Bool}(h:iK u0 a=some r):aE Tryz.prog 210 #[.int .i64 u0,.int .i64 a] ⟨ro,[]⟩ (fun v _=>v= .bool r):=by
 unfold iK at h;refine aE.go Tryz.func210 rfl Tryz.ntmps210 Tryz.results210 (by simp) fun main J hJ A f hd hs=>?_;have g:=hs 0;have k1:=hs 1;clear hs;apply ah hJ;simp only[*,go_sem];apply ah hJ;revert h;refine bS fun i b h=>?_;simp only[*,go_sem];refine bn hJ _ (tv u0 b) (aK ?_);revert h;refine cS (fun c h=>?_) fun c h=>?_
 .revert h;refine bS fun j d h=>?_;simp only[*,go_sem];refine bn hJ _ (tv a d) (aK ?_);revert h;refine cS (fun e h=>?_) fun e h=>?_
  .cases h;simp only[*,go_sem];apply aA;simp only[*,go_sem]
  cases h;simp only[*,go_sem];apply aA;simp only[*,go_sem]
 cases h;simp only[*,go_sem];apply aA;simp only[*,go_sem]
def wP (c:Int)(st:(Int×(List Int))):Option (Fl (Int×(List Int)) (Unit×(List Int))):=
 cond (decide (c<st.1)) (ag (aT st.2 st.1) fun b=>ag (aT st.2 (IntKind.i64.wrap (st.1 - 1))) fun a=>ag (iK b a) fun d=>cond (d) (ag (aT (st.2.set (st.1).toNat a) (IntKind.i64.wrap (st.1 - 1))) fun e=>some (.nx ((IntKind.i64.wrap (st.1 - 1)),((st.2.set (st.1).toNat a).set (IntKind.i64.wrap (st.1 - 1)).toNat b)))) (some (.bk (st.1,st.2)))) (some (.bk (st.1,st.2)))
def wQ (a:Int)(b:Int)(st:(Int×(List Int))):Option (Fl (Int×(List Int)) (Unit×(List Int))):=
 cond (decide (st.1<b)) (ag (aQ (wP a) fu (st.1,st.2)) fun o=>ay o (fun c=>some (.nx ((IntKind.i64.wrap (st.1+1)),c.2))) (fun _ _=>none) (fun r=>some (.rt r))) (some (.bk (st.1,st.2)))
def tw (u0:(List Int))(a:Int)(b:Int):Option (Unit×(List Int)):=
 cond (List.isEmpty u0) none (ag (aQ (wQ a b) fu ((IntKind.i64.wrap (a+1)),u0)) fun o=>ay o (fun c=>some ((),c.2)) (fun _ _=>none) (fun r=>some r))
theorem Bu {ro:Addr->Option Value}(u0:(List Int)){w:Value}{I:List (Nat×Obj)}(x:aO rI ro 3 w u0 I)(k:Int)(z:Int){r:(Unit×(List Int))}(h:tw u0 k z=some r):aE Tryz.prog 204 #[w,.int .i64 k,.int .i64 z] ⟨ro,I⟩ (fun v G=>∃K,(v= .tuple #[]/\aO rI ro 3 w r.2 K)/\Le ⟨ro,K⟩ G):=by
 obtain ⟨d1,c2,rfl,b3⟩:=x.len;unfold tw at h;revert h;refine cS (fun L h=>?_) fun L h=>?_
 .cases h
 obtain ⟨b,Z,rfl,rfl,b4⟩:=x.iH L;refine aE.go Tryz.func204 rfl Tryz.ntmps204 Tryz.results204 (by simp) fun main J hJ A ab hd hs=>?_;have ad:=hs 0;have k1:=hs 1;have ae:=hs 2;clear hs;apply af hJ;refine ax hJ fun b5=>?_;apply aj hJ;simp only[*,go_sem];apply aN hJ;revert h;refine bS fun al n ao=>?_;refine bQ hJ (rg 10 39 [6,7]) (fun m B F'=>∃(p:Array Value) (j:Int) (q:(List Int)),aQ (wQ k z) m (j,q)=some al/\F'=⟨ro,[(b,Obj.cells p 3)]⟩/\aO rI ro 3 (.slice (some ⟨b,0,none⟩) u0.length c2) q [(b,Obj.cells p 3)]/\slot B 6= .int .i64 j) fu ?_ ?_
 .refine ⟨Z,(IntKind.i64.wrap (k+1)),u0,n,rfl,x,?_⟩;simp only[*,go_sem]
 rintro s ar F' M ⟨p,j,q,n,rfl,N,a0⟩;obtain ⟨O,P,Q⟩:=M.pick [0,1,2] (by decide);simp only[*,go_sem] at O P Q;clear M ab hd ad k1 ae;obtain _|s:=s
 .exact absurd n (by simp only[aQ,reduceCtorEq,not_false_eq_true])
 revert n;refine bS fun ca h t=>?_;unfold wQ at h;try dsimp only at h
 refine af hJ (af hJ ?_);refine ax hJ fun cb=>?_;apply aj hJ;simp only[*,go_sem];revert h;refine aS hJ (fun a2 h=>?_) fun a2 h=>?_
 .refine aI hJ (af hJ ?_);refine aN hJ (af hJ ?_);refine ax hJ fun cd=>?_;apply aj hJ;simp only[*,go_sem];apply aN hJ;revert h;refine bS fun a3 u R=>?_;refine bQ hJ (rg 16 33 [7]) (fun m B F'=>∃(d:Array Value) (a:Int) (e:(List Int)),aQ (wP k) m (a,e)=some a3/\F'=⟨ro,[(b,Obj.cells d 3)]⟩/\aO rI ro 3 (.slice (some ⟨b,0,none⟩) u0.length c2) e [(b,Obj.cells d 3)]/\slot B 7= .int .i64 a) fu ?_ ?_
  .refine ⟨p,j,q,u,rfl,N,?_⟩;simp only[*,go_sem]
  rintro C a4 F' D ⟨d,a,e,u,rfl,g,cf⟩;obtain ⟨a5,a6,a7⟩:=D.pick [0,1,2,6,10,11,12,15] (by decide);simp only[*,go_sem] at a5 a6 a7;have cl:cF (rg 10 39 [6,7]) a4 ar:=(D.fM (by decide)).trans (by simp only[*,go_sem]);clear D O P Q a0;obtain _|C:=C
  .exact absurd u (by simp only[aQ,reduceCtorEq,not_false_eq_true])
  revert u;refine bS fun cy h l=>?_;unfold wP at h;try dsimp only at h
  refine af hJ (af hJ ?_);refine ax hJ fun c0=>?_;refine cE hJ mixed 15 1 (by simp only[*,go_sem]) (by kernel_rfl) ?_;revert h;refine cS (fun a8 h=>?_) fun a8 h=>?_
  .revert h;refine bS fun f a9 h=>?_;obtain ⟨da,db,S⟩:=cq a9;have dd:a<((u0.length:Nat):Int):=by have:=g.count;omega
   obtain ⟨ba,bb,bc⟩:=g.je S;obtain rfl:ba=[.int .i64 f]:=bb;have T:=bc 0 _ rfl;simp only[go_sem] at T;have df:=(Array.getElem?_eq_some_iff.1 T).1;revert h;refine bS fun c bd h=>?_;obtain ⟨dk,dp,bj⟩:=cq bd;have dq:IntKind.i64.wrap (a - 1)<((u0.length:Nat):Int):=by have:=g.count;omega
   obtain ⟨bk,bl,bm⟩:=g.je bj;obtain rfl:bk=[.int .i64 c]:=bl;have U:=bm 0 _ rfl;simp only[go_sem] at U;have ds:=(Array.getElem?_eq_some_iff.1 U).1;revert h;refine bS fun dt bo h=>?_;simp only[*,go_sem];refine ⟨_,bE hJ fun F du=>jP f c bo,cc ?_⟩;simp only[*,go_sem];revert h;refine aS hJ (fun br h=>?_) fun br h=>?_
   .refine aI hJ (af hJ ?_);apply aN hJ;refine ax hJ fun dv=>?_;refine eT hJ mixed [15,16,17] (.pure 0 (.pure 1 (.pure 2 (.pure 3 (.pure 4 (.pure 5 (.pure 6 (.pure 7 (.pure 8 (.rd 9 (.pure 10 (.pure 11 (.pure 12 (.rd 13 (.pure 14 (.last 15 (.pure 16 (.last 17 .done)))))))))))))))))) ⟨ro,[(b,Obj.cells d 3)]⟩ (by simp only[*,go_sem]) (by kernel_rfl) ?_;have E:aO rI ro 3 (.slice (some ⟨b,0,none⟩) u0.length c2) (e.set (a).toNat c) [(b,Obj.cells (cJ d (a).toNat [.int .i64 c]) 3)]:=by have hh:=g.sG (i:=(a).toNat) (y:=c) (by have:=S;have:=(List.getElem?_eq_some_iff.1 this).1;simpa only[List.length_set] using this) (cs:=[.int .i64 c]) rfl;simpa only[sL,wA,Nat.mul_one,Nat.add_zero] using hh
    revert h;refine bS fun bs bz h=>?_;cases h;obtain ⟨dC,dE,V⟩:=cq bz;have dT:IntKind.i64.wrap (a - 1)<((u0.length:Nat):Int):=by have:=E.count;omega
    obtain ⟨b0,b1,b2⟩:=E.je V;obtain rfl:b0=[.int .i64 bs]:=b1;have W:=b2 0 _ rfl;simp only[go_sem] at W;have ea:=(Array.getElem?_eq_some_iff.1 W).1;have X:aO rI ro 3 (.slice (some ⟨b,0,none⟩) u0.length c2) ((e.set (a).toNat c).set (IntKind.i64.wrap (a - 1)).toNat f) [(b,Obj.cells (cJ (cJ d (a).toNat [.int .i64 c]) (IntKind.i64.wrap (a - 1)).toNat [.int .i64 f]) 3)]:=by have hh:=E.sG (i:=(IntKind.i64.wrap (a - 1)).toNat) (y:=f) (by have:=V;have:=(List.getElem?_eq_some_iff.1 this).1;simpa only[List.length_set] using this) (cs:=[.int .i64 f]) rfl;simpa only[sL,wA,Nat.mul_one,Nat.add_zero] using hh
    simp only[*,go_sem];obtain ⟨Y,H⟩:∃o,o=(cJ (cJ d (a).toNat [.int .i64 c]) (IntKind.i64.wrap (a - 1)).toNat [.int .i64 f]):=⟨_,rfl⟩
    refine cr (F:=⟨ro,[(b,Obj.cells Y 3)]⟩) hJ (by rw[H];exact Le.refl _) ?_;rw[<-H] at X;clear H;refine ax hJ fun eb=>?_;apply aj hJ;simp only[*,go_sem];refine ⟨C,Nat.lt_succ_self _,_,Le.sub (List.Sublist.refl _),Y,(IntKind.i64.wrap (a - 1)),((e.set (a).toNat c).set (IntKind.i64.wrap (a - 1)).toNat f),l,rfl,X,?_⟩;simp only[*,go_sem]
   cases h;apply bJ;simp only[go_sem];obtain rfl:=sI l;clear l;have h:=R;dsimp only[ay] at h;cases h;refine ax hJ fun ec=>?_;apply aj hJ;simp only[*,go_sem];refine ⟨s,Nat.lt_succ_self _,_,Le.sub (List.Sublist.refl _),d,(IntKind.i64.wrap (j+1)),e,t,rfl,g,?_⟩;simp only[*,go_sem]
  cases h;simp only[*,go_sem];refine bT hJ ?_;apply bJ;simp only[go_sem];obtain rfl:=sI l;clear l;have h:=R;dsimp only[ay] at h;cases h;refine ax hJ fun ed=>?_;apply aj hJ;simp only[*,go_sem];refine ⟨s,Nat.lt_succ_self _,_,Le.sub (List.Sublist.refl _),d,(IntKind.i64.wrap (j+1)),e,t,rfl,g,?_⟩;simp only[*,go_sem]
 cases h;apply bJ;simp only[go_sem];obtain rfl:=sI t;clear t;have h:=ao;dsimp only[ay] at h;cases h;simp only[*,go_sem];exact ⟨_,N,Le.sub (List.Sublist.refl _)⟩
def wR (u0:(List Int))(st:(Int×Int×Int×Bool×Bool)):Option (Fl (Int×Int×Int×Bool×Bool) (Unit×(List Int))):=
 cond (decide ((IntKind.i64.wrap (st.2.1 - st.1))<=12)) (ag (tw u0 st.1 st.2.1) fun a=>some (.rt ((),a.2))) (none)
def tA (u0:(List Int))(a:Int)(b:Int)(c:Int):Option (Unit×(List Int)):=
 cond (List.isEmpty u0) none (ag (aQ (wR u0) fu (a,b,c,true,true)) fun o=>ay o (fun d=>some ((),u0)) (fun _ _=>none) (fun r=>some r))
theorem Bv {ro:Addr->Option Value}(u0:(List Int)){f:Value}{p:List (Nat×Obj)}(g:aO rI ro 3 f u0 p)(i:Int)(j:Int)(k:Int){r:(Unit×(List Int))}(h:tA u0 i j k=some r):aE Tryz.prog 189 #[f,.int .i64 i,.int .i64 j,.int .i64 k] ⟨ro,p⟩ (fun v G=>∃b,(v= .tuple #[]/\aO rI ro 3 f r.2 b)/\Le ⟨ro,b⟩ G):=by
 obtain ⟨d1,c2,rfl,Q⟩:=g.len;unfold tA at h;revert h;refine cS (fun q h=>?_) fun q h=>?_
 .cases h
 obtain ⟨s,y,rfl,rfl,R⟩:=g.iH q;refine aE.go Tryz.func189 rfl Tryz.ntmps189 Tryz.results189 (by simp) fun main J hJ A z hd hs=>?_;have B:=hs 0;have k1:=hs 1;have C:=hs 2;have D:=hs 3;clear hs;apply af hJ;refine ax hJ fun S=>?_;apply aj hJ;simp only[*,go_sem];apply af hJ;refine ax hJ fun T=>?_;apply aj hJ;simp only[*,go_sem];apply aN hJ;revert h;refine bS fun E c F=>?_;refine bQ hJ (rg 8 126 [1,2,3]) (fun m a F'=>∃(d:Int) (e:Int) (l:Int) (n:Bool) (o:Bool),aQ (wR u0) m (d,e,l,n,o)=some E/\F'=⟨ro,[(s,Obj.cells y 3)]⟩/\slot a 1= .int .i64 d/\slot a 2= .int .i64 e/\slot a 3= .int .i64 l/\slot a 8= .bool n/\slot a 9= .bool o) fu ?_ ?_
 .refine ⟨i,j,k,true,true,c,rfl,?_⟩;simp only[*,go_sem]
 rintro t U F' u ⟨d,e,l,n,o,c,rfl,V,W,X,Y,Z⟩;obtain ⟨H,I,K⟩:=u.pick [0] (by decide);simp only[*,go_sem] at H I K;clear u z hd B k1 C D;obtain _|t:=t
 .exact absurd c (by simp only[aQ,reduceCtorEq,not_false_eq_true])
 revert c;refine bS fun ab h w=>?_;unfold wR at h;try dsimp only at h
 refine aN hJ (af hJ ?_);refine ax hJ fun ad=>?_;apply aj hJ;simp only[*,go_sem];refine af hJ (af hJ ?_);refine ax hJ fun ae=>?_;apply aj hJ;simp only[*,go_sem];revert h;refine aS hJ (fun L h=>?_) fun L h=>?_
 .apply af hJ;refine ax hJ fun al=>?_;apply aj hJ;revert h;refine bS fun ao M h=>?_;cases h;simp only[*,go_sem];refine dQ hJ [] [] _ (Bu u0 g d e M) (fun ar a0 N b O a2=>?_);obtain ⟨rfl,x⟩:=N;obtain ⟨P,rfl⟩:=x.gQ;simp only[aV] at O;subst b;refine ⟨⟨ro,[(s,Obj.cells P 3)]⟩,Le.refl _,?_⟩;obtain rfl:=sI w;clear w;have h:=F;dsimp only[ay] at h;cases h;apply aA;simp only[*,go_sem];exact ⟨_,x,Le.sub (List.Sublist.refl _)⟩
 cases h
def qJ (u0:(List Int))(a:Int)(b:Int)(c:Int):Option (((Int×Int)×(List Int))×Int):=
 cond (List.isEmpty u0) none (ag (aT u0 b) fun d=>ag (aT u0 a) fun e=>ag (iK d e) fun f=>cond (f) (some (((b,a),u0),IntKind.i64.wrap (c+1))) (some (((a,b),u0),c)))
theorem wS {ro:Addr->Option Value}(u0:(List Int)){c:Value}{f:List (Nat×Obj)}(a:aO rI ro 3 c u0 f)(d:Int)(e:Int)(g:Int){b:Nat}(I:∀off sp,ro ⟨b,off,sp⟩=none){r:(((Int×Int)×(List Int))×Int)}(h:qJ u0 d e g=some r):aE Tryz.prog 227 #[c,.int .i64 d,.int .i64 e,.pointer (some ⟨b,0,none⟩)] ⟨ro,(b,ic g)::f⟩ (fun v G=>∃i,(∃j,i=(b,ic r.2)::j/\v= .tuple #[.int .i64 r.1.1.1,.int .i64 r.1.1.2]/\aO rI ro 3 c r.1.2 j)/\Le ⟨ro,i⟩ G):=by
 obtain ⟨d1,c2,rfl,K⟩:=a.len;unfold qJ at h;revert h;refine cS (fun k h=>?_) fun k h=>?_
 .cases h
 obtain ⟨L,M,rfl,rfl,N⟩:=a.iH k;refine aE.go Tryz.func227 rfl Tryz.ntmps227 Tryz.results227 (by simp) fun main J hJ A O hd hs=>?_;have P:=hs 0;have k1:=hs 1;have Q:=hs 2;have R:=hs 3;clear hs;refine ax hJ fun p=>?_;have q:=p.nd;simp only[keys,List.map_cons,List.map_nil,List.map_append,List.cons_append,List.nil_append,List.nodup_cons,List.mem_cons,List.mem_append,List.not_mem_nil,or_false,not_or] at q;apply af hJ;refine ax hJ fun S=>?_;apply aj hJ;simp only[*,go_sem];refine af hJ (af hJ ?_);refine ax hJ fun T=>?_;refine cE hJ mixed 9 2 (by simp only[*,go_sem]) (by kernel_rfl) ?_;revert h;refine bS fun l s h=>?_;obtain ⟨U,V,t⟩:=cq s;have W:e<((u0.length:Nat):Int):=by have:=a.count;omega
 obtain ⟨u,w,x⟩:=a.je t;obtain rfl:u=[.int .i64 l]:=w;have m:=x 0 _ rfl;simp only[go_sem] at m;have X:=(Array.getElem?_eq_some_iff.1 m).1;revert h;refine bS fun n y h=>?_;obtain ⟨Y,Z,z⟩:=cq y;have ab:d<((u0.length:Nat):Int):=by have:=a.count;omega
 obtain ⟨B,C,D⟩:=a.je z;obtain rfl:B=[.int .i64 n]:=C;have o:=D 0 _ rfl;simp only[go_sem] at o;have ad:=(Array.getElem?_eq_some_iff.1 o).1;revert h;refine bS fun ae E h=>?_;simp only[*,go_sem];refine ⟨_,bE hJ fun F al=>jP l n E,?_⟩;revert h;refine aS hJ (fun H h=>?_) fun H h=>?_
 .cases h;apply af hJ;refine ax hJ fun ao=>?_;apply aj hJ;simp only[*,go_sem];apply af hJ;refine ax hJ fun ar=>?_;apply aj hJ;simp only[*,go_sem];apply aA;simp only[*,go_sem];exact ⟨_,⟨_,rfl,a⟩,Le.sub (List.Sublist.refl _)⟩
 cases h;refine aI hJ (af hJ ?_);refine ax hJ fun a0=>?_;apply aj hJ;simp only[*,go_sem];apply aA;simp only[*,go_sem];exact ⟨_,⟨_,rfl,a⟩,Le.sub (List.Sublist.refl _)⟩
def wT (u0:(List Int))(d:Int)(e:Int)(f:Int)(g:Int):Option ((Int×(List Int))×Int):=
 cond (List.isEmpty u0) none (ag (qJ u0 d e g) fun a=>ag (qJ a.1.2 a.1.1.2 f a.2) fun b=>ag (qJ b.1.2 a.1.1.1 b.1.1.1 b.2) fun c=>some ((c.1.1.2,c.1.2),c.2))
theorem HD {ro:Addr->Option Value}(u0:(List Int)){g:Value}{p:List (Nat×Obj)}(i:aO rI ro 3 g u0 p)(j:Int)(k:Int)(l:Int)(m:Int){b:Nat}(n:∀off sp,ro ⟨b,off,sp⟩=none){r:((Int×(List Int))×Int)}(h:wT u0 j k l m=some r):aE Tryz.prog 226 #[g,.int .i64 j,.int .i64 k,.int .i64 l,.pointer (some ⟨b,0,none⟩)] ⟨ro,(b,ic m)::p⟩ (fun v G=>∃a,(∃q,a=(b,ic r.2)::q/\v= .int .i64 r.1.1/\aO rI ro 3 g r.1.2 q)/\Le ⟨ro,a⟩ G):=by
 obtain ⟨d1,c2,rfl,S⟩:=i.len;unfold wT at h;revert h;refine cS (fun s h=>?_) fun s h=>?_
 .cases h
 obtain ⟨o,T,rfl,rfl,U⟩:=i.iH s;refine aE.go Tryz.func226 rfl Tryz.ntmps226 Tryz.results226 (by simp) fun main J hJ A y hd hs=>?_;have z:=hs 0;have k1:=hs 1;have B:=hs 2;have C:=hs 3;have D:=hs 4;clear hs;refine ax hJ fun E=>?_;have F:=E.nd;simp only[keys,List.map_cons,List.map_nil,List.map_append,List.cons_append,List.nil_append,List.nodup_cons,List.mem_cons,List.mem_append,List.not_mem_nil,or_false,not_or] at F;apply af hJ;refine ax hJ fun V=>?_;apply aj hJ;simp only[*,go_sem];apply af hJ;refine ax hJ fun W=>?_;apply aj hJ;revert h;refine bS fun c H h=>?_;simp only[*,go_sem];refine dQ hJ [] [] _ (wS u0 i j k m n H) (fun X t d a e Y=>?_);obtain ⟨Z,rfl,rfl,u⟩:=d;obtain ⟨I,rfl⟩:=u.gQ;simp only[aV] at e;subst a;refine ⟨⟨ro,(b,ic c.2)::[(o,Obj.cells I 3)]⟩,Le.refl _,?_⟩;apply aK;simp only[*,go_sem];apply af hJ;refine ax hJ fun ab=>?_;apply aj hJ;revert h;refine bS fun f K h=>?_;simp only[*,go_sem];refine dQ hJ [] [] _ (wS c.1.2 u c.1.1.2 l c.2 n K) (fun ad t d a e ae=>?_);obtain ⟨al,rfl,rfl,w⟩:=d;obtain ⟨L,rfl⟩:=w.gQ;simp only[aV] at e;subst a;refine ⟨⟨ro,(b,ic f.2)::[(o,Obj.cells L 3)]⟩,Le.refl _,?_⟩;apply aK;simp only[*,go_sem];apply af hJ;refine ax hJ fun ao=>?_;apply aj hJ;revert h;refine bS fun M N h=>?_;cases h;simp only[*,go_sem];refine dQ hJ [] [] _ (wS f.1.2 w c.1.1.1 f.1.1.1 f.2 n N) (fun ar t d a e a0=>?_);obtain ⟨a2,rfl,rfl,x⟩:=d;obtain ⟨O,rfl⟩:=x.gQ;simp only[aV] at e;subst a;refine ⟨⟨ro,(b,ic M.2)::[(o,Obj.cells O 3)]⟩,Le.refl _,?_⟩;apply aK;simp only[*,go_sem];apply af hJ;refine fY [0,2,10,12,20,28] fun a3 P Q R=>?_;simp only[*,go_sem] at P Q R;clear y hd z k1 B C D;refine ax hJ fun a4=>?_;apply aj hJ;simp only[*,go_sem];apply aA;simp only[*,go_sem];exact ⟨_,⟨_,rfl,x⟩,Le.sub (List.Sublist.refl _)⟩
def wU (u0:(List Int))(b:Int)(d:Int):Option ((Int×Int)×(List Int)):=
 cond (List.isEmpty u0) none (ag (fN (IntKind.i64.wrap (d - b)) 4) fun c=>cond (decide (8<=(IntKind.i64.wrap (d - b)))) (cond (decide (50<=(IntKind.i64.wrap (d - b)))) (none) (ag (wT u0 (IntKind.i64.wrap (b+(IntKind.i64.wrap (c*1)))) (IntKind.i64.wrap (b+(IntKind.i64.wrap (c*2)))) (IntKind.i64.wrap (b+(IntKind.i64.wrap (c*3)))) 0) fun a=>cond ((a.2==0)) (some ((a.1.1,1),a.1.2)) (cond ((a.2==12)) (some ((a.1.1,2),a.1.2)) (some ((a.1.1,0),a.1.2))))) (some ((IntKind.i64.wrap (b+(IntKind.i64.wrap (c*2))),1),u0)))
theorem HE {ro:Addr->Option Value}(u0:(List Int)){e:Value}{g:List (Nat×Obj)}(b:aO rI ro 3 e u0 g)(a:Int)(i:Int){r:((Int×Int)×(List Int))}(h:wU u0 a i=some r):aE Tryz.prog 207 #[e,.int .i64 a,.int .i64 i] ⟨ro,g⟩ (fun v G=>∃c,(v= .tuple #[.int .i64 r.1.1,.int .i64 r.1.2]/\aO rI ro 3 e r.2 c)/\Le ⟨ro,c⟩ G):=by
 obtain ⟨d1,c2,rfl,N⟩:=b.len;unfold wU at h;revert h;refine cS (fun j h=>?_) fun j h=>?_
 .cases h
 obtain ⟨p,O,rfl,rfl,P⟩:=b.iH j;refine aE.go Tryz.func207 rfl Tryz.ntmps207 Tryz.results207 (by simp) fun main J hJ A k hd hs=>?_;have l:=hs 0;have k1:=hs 1;have m:=hs 2;clear hs;apply af hJ;refine ax hJ fun Q=>?_;apply aj hJ;simp only[*,go_sem];apply af hJ;refine ax hJ fun R=>?_;apply aj hJ;simp only[*,go_sem];apply af hJ;refine ax hJ fun q=>?_;apply aj hJ;simp only[*,go_sem];refine aC fun s t n=>?_;have S:=aR.cons n q;try simp only[av] at n
 apply af hJ;refine ax hJ fun T=>?_;apply aj hJ;revert h;refine bS fun f o h=>?_;obtain ⟨U,V⟩:=j9 o;clear o;simp only[*,go_sem];apply af hJ;refine ax hJ fun W=>?_;apply aj hJ;simp only[*,go_sem];apply af hJ;refine ax hJ fun X=>?_;apply aj hJ;simp only[*,go_sem];refine af hJ (af hJ ?_);refine ax hJ fun Y=>?_;apply aj hJ;simp only[*,go_sem];revert h;refine aS hJ (fun u h=>?_) fun u h=>?_
 .refine af hJ (af hJ ?_);refine ax hJ fun Z=>?_;apply aj hJ;simp only[*,go_sem];revert h;refine aS hJ (fun w h=>?_) fun w h=>?_
  .cases h
  apply aI hJ;refine ax hJ fun ab=>?_;apply aj hJ;revert h;refine bS fun x y h=>?_;simp only[*,go_sem];refine dQ hJ [] [] _ (HD u0 b (IntKind.i64.wrap (a+(IntKind.i64.wrap (f*1)))) (IntKind.i64.wrap (a+(IntKind.i64.wrap (f*2)))) (IntKind.i64.wrap (a+(IntKind.i64.wrap (f*3)))) 0 t y) (fun ad ae z c B al=>?_);obtain ⟨ao,rfl,rfl,d⟩:=z;obtain ⟨C,rfl⟩:=d.gQ;simp only[aV] at B;subst c;refine ⟨⟨ro,(s,ic x.2)::[(p,Obj.cells C 3)]⟩,Le.refl _,?_⟩;apply aK;simp only[*,go_sem];apply af hJ;refine fY [0,6,7,9,11,44] fun ar D E F=>?_;simp only[*,go_sem] at D E F;clear k hd l k1 m;refine ax hJ fun a0=>?_;apply aj hJ;simp only[*,go_sem];refine aN hJ (af hJ ?_);refine ax hJ fun a2=>?_;apply aj hJ;simp only[*,go_sem];revert h;refine aS hJ (fun H h=>?_) fun H h=>?_
  .cases h;apply af hJ;refine ax hJ fun a3=>?_;apply aj hJ;simp only[*,go_sem];apply aA;simp only[*,go_sem];exact ⟨_,d,Le.sub (.cons _ (List.Sublist.refl _))⟩
  apply af hJ;refine ax hJ fun a4=>?_;apply aj hJ;simp only[*,go_sem];revert h;refine aS hJ (fun I h=>?_) fun I h=>?_
  .cases h;apply af hJ;refine ax hJ fun a5=>?_;apply aj hJ;simp only[*,go_sem];apply aA;simp only[*,go_sem];exact ⟨_,d,Le.sub (.cons _ (List.Sublist.refl _))⟩
  cases h;apply af hJ;refine ax hJ fun a6=>?_;apply aj hJ;simp only[*,go_sem];apply aA;simp only[*,go_sem];exact ⟨_,d,Le.sub (.cons _ (List.Sublist.refl _))⟩
 cases h;refine aI hJ (af hJ ?_);refine ax hJ fun a7=>?_;apply aj hJ;simp only[*,go_sem];refine aN hJ (af hJ ?_);refine ax hJ fun a8=>?_;apply aj hJ;simp only[*,go_sem];refine cn hJ ?_;apply af hJ;refine fY [0,6,7,11] fun a9 K L M=>?_;simp only[*,go_sem] at K L M;clear k hd l k1 m;refine ax hJ fun ba=>?_;apply aj hJ;simp only[*,go_sem];apply aA;simp only[*,go_sem];exact ⟨_,b,Le.sub (.cons _ (List.Sublist.refl _))⟩
def lB (m:Nat):Nat:=if m=0 then 0 else m.log2+1
def tB (n:Int):Option Int:=if 0<=n/\n<256 then some ((lB n.toNat:Nat):Int) else none
theorem HF:∀m:Fin 256,lB m.val<=8:=by decide+kernel
theorem HG {ro:Addr->Option Value}(n:Int)(c:0<=n)(d:n<256):aE Tryz.prog 214 #[.int .u64 n] ⟨ro,[]⟩ (fun v _=>v= .int .i64 ((lB n.toNat:Nat):Int)):=by
 refine aE.go Tryz.func214 rfl Tryz.ntmps214 Tryz.results214 (by simp) fun main J hJ A e hd hs=>?_;have f:=hs 0;clear hs;have a1:¬(4294967296:Int)<=n:=by omega
 have a2:¬(65536:Int)<=n:=by omega
 have a3:¬(256:Int)<=n:=by omega
 have g:Tryz.prog.underlying 192=some (.int .u64):=by kernel_rfl
 have h:Tryz.prog.underlying 5=some (.int .u8):=by kernel_rfl
 have i:Tryz.prog.underlying 3=some (.int .i64):=by kernel_rfl
 have j:Tryz.prog.underlying 9=some .string:=by kernel_rfl
 have a4:IntKind.u8.wrap n=n:=IntWalk.u8_in n ⟨c,by omega⟩;repeat refine af hJ ?_
 refine aj hJ ?_;simp only[*,go_sem];repeat refine af hJ ?_
 refine aj hJ ?_;simp only[*,go_sem];repeat refine af hJ ?_
 refine dO hJ (by simp only[*,go_sem,ge_iff_le]) ?_;refine aI hJ ?_;repeat refine af hJ ?_
 refine aj hJ ?_;simp only[*,go_sem];repeat refine af hJ ?_
 refine dO hJ (by simp only[*,go_sem,ge_iff_le]) ?_;refine aI hJ ?_;repeat refine af hJ ?_
 refine aj hJ ?_;simp only[*,go_sem];repeat refine af hJ ?_
 refine dO hJ (by simp only[*,go_sem,ge_iff_le]) ?_;refine aI hJ ?_;repeat refine af hJ ?_
 refine aj hJ ?_;simp only[*,go_sem];generalize a:ByteArray.mk _=S;have key:∀m:Fin 256,S[m.val]?=some (UInt8.ofNat (lB m.val)):=by rw[<-a];decide+kernel
 clear a;have b:n.toNat<256:=by omega
 have hb:=key ⟨n.toNat,b⟩;have hle:=HF ⟨n.toNat,b⟩;simp only at hb hle;simp only[hb,Option.map_some];refine aA ?_;simp only[*,go_sem];have e1:(UInt8.ofNat (lB n.toNat)).toNat=lB n.toNat:=by rw[UInt8.toNat_ofNat'];omega
 rw[e1,IntWalk.i64_in (lB n.toNat:Int) ⟨by omega,by omega⟩,Int.zero_add,IntWalk.i64_in (lB n.toNat:Int) ⟨by omega,by omega⟩]
theorem Bw {ro:Addr->Option Value}(n:Int){r:Int}(h:tB n=some r):aE Tryz.prog 190 #[.int .u64 n] ⟨ro,[]⟩ (fun v _=>v= .int .i64 r):=by
 unfold tB at h;split at h
 case isFalse=>cases h
 rename_i a;obtain ⟨b,c⟩:=a;cases h;refine aE.go Tryz.func190 rfl Tryz.ntmps190 Tryz.results190 (by simp) fun main J hJ A d hd hs=>?_;have e:=hs 0;clear hs;repeat refine af hJ ?_
 refine aj hJ ?_;simp only[*,go_sem];repeat refine af hJ ?_
 refine dO hJ (by simp only[*,go_sem]) ?_;refine aI hJ ?_;repeat refine af hJ ?_
 refine aj hJ ?_;simp only[*,go_sem];refine bn hJ _ (HG n b c) (aK ?_);simp only[*,go_sem];refine aA ?_;simp only[*,go_sem]
theorem HH:Tryz.prog.underlying 3=some (.int .i64):=by kernel_rfl
attribute [go_sem] HH
theorem HI:Tryz.prog.underlying 192=some (.int .u64):=by kernel_rfl
attribute [go_sem] HI
theorem HJ:Tryz.prog.underlying 219=some (.int .u64):=by kernel_rfl
attribute [go_sem] HJ
theorem HK:Tryz.prog.underlying 260=some (.int .u64):=by kernel_rfl
attribute [go_sem] HK
def wV (u0:Int):Option (Int×Int):=
 ag (p9 u0 13) fun a=>ag (vT (hO u0 a) 7) fun b=>ag (p9 (hO (hO u0 a) b) 17) fun c=>some ((hO (hO (hO u0 a) b) c),(hO (hO (hO u0 a) b) c))
theorem HL {ro:Addr->Option Value}(u0:Int){a:Nat}(r1:∀off sp,ro ⟨a,off,sp⟩=none){r:(Int×Int)}(h:wV u0=some r):aE Tryz.prog 224 #[.pointer (some ⟨a,0,none⟩)] ⟨ro,[(a,.cells #[.int .u64 u0] 260)]⟩ (fun v G=>∃b,(v= .int .u64 r.1/\b=[(a,.cells #[.int .u64 r.2] 260)])/\Le ⟨ro,b⟩ G):=by
 unfold wV at h;refine aE.go Tryz.func224 rfl Tryz.ntmps224 Tryz.results224 (by simp) fun main J hJ A g hd hs=>?_;have i:=hs 0;clear hs;apply ah hJ;simp only[*,go_sem];apply af hJ;refine eT hJ mixed [9] (.pure 0 (.pure 1 (.rd 2 (.pure 3 (.pure 4 (.rd 5 (.pure 6 (.pure 7 (.pure 8 (.last 9 .done)))))))))) ⟨ro,[(a,.cells #[.int .u64 u0] 260)]⟩ (by simp only[*,go_sem]) (by kernel_rfl) ?_;revert h;refine bS fun c d h=>?_;obtain ⟨q,j⟩:=vS d;clear d;try simp only[go_sem] at j
 simp only[*,go_sem];apply af hJ;refine eT hJ mixed [9] (.pure 0 (.pure 1 (.rd 2 (.pure 3 (.pure 4 (.rd 5 (.pure 6 (.pure 7 (.pure 8 (.last 9 .done)))))))))) ⟨ro,[(a,.cells #[.int .u64 (hO u0 c)] 260)]⟩ (by simp only[*,go_sem]) (by kernel_rfl) ?_;revert h;refine bS fun k e h=>?_;obtain ⟨s,l⟩:=FA e;clear e;try simp only[go_sem] at l
 simp only[*,go_sem];apply af hJ;refine eT hJ mixed [9] (.pure 0 (.pure 1 (.rd 2 (.pure 3 (.pure 4 (.rd 5 (.pure 6 (.pure 7 (.pure 8 (.last 9 .done)))))))))) ⟨ro,[(a,.cells #[.int .u64 (hO (hO u0 c) k)] 260)]⟩ (by simp only[*,go_sem]) (by kernel_rfl) ?_;revert h;refine bS fun t f h=>?_;cases h;obtain ⟨u,m⟩:=vS f;clear f;try simp only[go_sem] at m
 simp only[*,go_sem];apply af hJ;refine fY [0,2] fun w n o p=>?_;simp only[*,go_sem] at n o p;clear g hd i;apply aj hJ;simp only[*,go_sem];apply aA;simp only[*,go_sem];exact ⟨_,rfl,Le.sub (List.Sublist.refl _)⟩
def wW (u0:Int):Option Int:=
 ag (tB (IntKind.u64.wrap u0)) fun a=>ag (p9 1 a) fun b=>some b
theorem HM {ro:Addr->Option Value}(u0:Int){r:Int}(h:wW u0=some r):aE Tryz.prog 223 #[.int .i64 u0] ⟨ro,[]⟩ (fun v _=>v= .int .u64 r):=by
 unfold wW at h;refine aE.go Tryz.func223 rfl Tryz.ntmps223 Tryz.results223 (by simp) fun main J hJ A d hd hs=>?_;have e:=hs 0;clear hs;apply ah hJ;simp only[*,go_sem];apply ah hJ;revert h;refine bS fun f b h=>?_;simp only[*,go_sem];refine bn hJ _ (Bw (IntKind.u64.wrap u0) b) (aK ?_);revert h;refine bS fun g a h=>?_;cases h;obtain ⟨i,c⟩:=vS a;clear a;try simp only[go_sem] at c
 simp only[*,go_sem];apply aA;simp only[*,go_sem]
def wX (a:Int)(e:Int)(c:Int)(h:Int)(st:(Int×(List Int)×Int)):Option (Fl (Int×(List Int)×Int) (Unit×(List Int))):=
 cond (decide (st.1<=(IntKind.i64.wrap ((IntKind.i64.wrap (a+(IntKind.i64.wrap (h*2))))+1)))) (ag (ag (wV st.2.2) fun b=>ag (cond (decide ((IntKind.i64.wrap (e - a))<=(IntKind.i64.wrap (iD b.1 (IntKind.u64.wrap (c - 1)))))) (some (.bk (IntKind.i64.wrap ((IntKind.i64.wrap (iD b.1 (IntKind.u64.wrap (c - 1)))) - (IntKind.i64.wrap (e - a)))))) (some (.bk (IntKind.i64.wrap (iD b.1 (IntKind.u64.wrap (c - 1)))))):Option (Fl Int (Unit×(List Int)))) fun o=>ay o (fun d=>ag (aT st.2.1 (IntKind.i64.wrap (a+d))) fun f=>ag (aT st.2.1 st.1) fun i=>ag (aT (st.2.1.set (st.1).toNat f) (IntKind.i64.wrap (a+d))) fun j=>some (.bk (((st.2.1.set (st.1).toNat f).set (IntKind.i64.wrap (a+d)).toNat i),b.2))) (fun _ _=>none) (fun r=>some (.rt r)):Option (Fl ((List Int)×Int) (Unit×(List Int)))) fun o=>ay o (fun g=>some (.nx ((IntKind.i64.wrap (st.1+1)),g.1,g.2))) (fun _ _=>none) (fun r=>some (.rt r))) (some (.bk (st.1,st.2.1,st.2.2)))
def wY (u0:(List Int))(a:Int)(b:Int):Option (Unit×(List Int)):=
 cond (List.isEmpty u0) none (cond (decide (8<=(IntKind.i64.wrap (b - a)))) (ag (wW (IntKind.i64.wrap (b - a))) fun d=>ag (fN (IntKind.i64.wrap (b - a)) 4) fun c=>ag (aQ (wX a b d c) fu ((IntKind.i64.wrap ((IntKind.i64.wrap (a+(IntKind.i64.wrap (c*2)))) - 1)),u0,(IntKind.u64.wrap (IntKind.i64.wrap (b - a))))) fun o=>ay o (fun e=>some ((),e.2.1)) (fun _ _=>none) (fun r=>some r)) (some ((),u0)))
theorem HN {ro:Addr->Option Value}(u0:(List Int)){x:Value}{H:List (Nat×Obj)}(l:aO rI ro 3 x u0 H)(b:Int)(d:Int){r:(Unit×(List Int))}(h:wY u0 b d=some r):aE Tryz.prog 206 #[x,.int .i64 b,.int .i64 d] ⟨ro,H⟩ (fun v G=>∃n,(v= .tuple #[]/\aO rI ro 3 x r.2 n)/\Le ⟨ro,n⟩ G):=by
 obtain ⟨d1,c2,rfl,bm⟩:=l.len;unfold wY at h;revert h;refine cS (fun I h=>?_) fun I h=>?_
 .cases h
 obtain ⟨c,T,rfl,rfl,bo⟩:=l.iH I;refine aE.go Tryz.func206 rfl Tryz.ntmps206 Tryz.results206 (by simp) fun main J hJ A U hd hs=>?_;have V:=hs 0;have k1:=hs 1;have W:=hs 2;clear hs;apply af hJ;refine ax hJ fun br=>?_;apply aj hJ;simp only[*,go_sem];apply af hJ;refine ax hJ fun bs=>?_;apply aj hJ;simp only[*,go_sem];revert h;refine aS hJ (fun X h=>?_) fun X h=>?_
 .apply af hJ;refine ax hJ fun Y=>?_;apply aj hJ;simp only[*,go_sem];refine aC fun g Z K=>?_;have bz:=aR.cons K Y;try simp only[av] at K
  apply af hJ;refine ax hJ fun b0=>?_;apply aj hJ;revert h;refine bS fun j ab h=>?_;simp only[*,go_sem];refine bn hJ _ (HM (IntKind.i64.wrap (d - b)) ab) (aK ?_);simp only[*,go_sem];apply af hJ;refine ax hJ fun b1=>?_;apply aj hJ;revert h;refine bS fun L M h=>?_;obtain ⟨b2,b3⟩:=j9 M;clear M;simp only[*,go_sem];apply aN hJ;revert h;refine bS fun ad o ae=>?_;refine bQ hJ (rg 26 39 [9,10]) (fun m a F'=>∃(e:Array Value) (f:Int) (p:(List Int)) (q:Int),aQ (wX b d j L) m (f,p,q)=some ad/\F'=⟨ro,(g,.cells #[.int .u64 q] 260)::[(c,Obj.cells e 3)]⟩/\aO rI ro 3 (.slice (some ⟨c,0,none⟩) u0.length c2) p [(c,Obj.cells e 3)]/\slot a 9= .int .i64 f) fu ?_ ?_
  .refine ⟨T,(IntKind.i64.wrap ((IntKind.i64.wrap (b+(IntKind.i64.wrap (L*2)))) - 1)),u0,(IntKind.u64.wrap (IntKind.i64.wrap (d - b))),o,rfl,l,?_⟩;simp only[*,go_sem]
  rintro y N F' O ⟨e,f,p,q,o,rfl,s,P⟩;obtain ⟨z,B,C⟩:=O.pick [0,1,6,7,8] (by decide);simp only[*,go_sem] at z B C;clear O U hd V k1 W;obtain _|y:=y
  .exact absurd o (by simp only[aQ,reduceCtorEq,not_false_eq_true])
  revert o;refine bS fun b4 h D=>?_;unfold wX at h;try dsimp only at h
  refine af hJ (af hJ ?_);refine ax hJ fun b5=>?_;apply aj hJ;simp only[*,go_sem];revert h;refine aS hJ (fun al h=>?_) fun al h=>?_
  .apply aI hJ;revert h;refine bS fun ao h ar=>?_;refine gv hJ (fun a F'=>∃(t:Array Value) (u:(List Int)) (w:Int),some (Fl.bk (u,w):Fl ((List Int)×Int) (Unit×(List Int)))=some ao/\F'=⟨ro,(g,.cells #[.int .u64 w] 260)::[(c,Obj.cells t 3)]⟩/\aO rI ro 3 (.slice (some ⟨c,0,none⟩) u0.length c2) u [(c,Obj.cells t 3)]/\sz a=65/\a.defers=[]/\cF (rg 26 39 [9,10]) a N/\slot a 0= .slice (some ⟨c,0,none⟩) u0.length c2/\slot a 1= .int .i64 b/\slot a 6= .int .i64 (IntKind.i64.wrap (d - b))/\slot a 7= .pointer (some ⟨g,0,none⟩)/\slot a 8= .int .u64 j/\slot a 9= .int .i64 f) ?_ ?_
   .refine aN hJ (af hJ ?_);refine ax hJ fun ca=>?_;apply aj hJ;revert h;refine bS fun i a0 h=>?_;simp only[*,go_sem];refine dQ hJ [] ([(c,Obj.cells e 3)]) _ (HL q Z a0) (fun cb cd a2 n a3 cf=>?_);obtain ⟨rfl,rfl⟩:=a2;simp only[aV] at a3;subst n;refine ⟨⟨ro,(g,.cells #[.int .u64 i.2] 260)::[(c,Obj.cells e 3)]⟩,Le.refl _,?_⟩;apply aK;simp only[*,go_sem];revert h;refine bS fun a4 h a5=>?_;refine gv hJ (fun a F'=>∃(k:Int),some (Fl.bk k:Fl Int (Unit×(List Int)))=some a4/\F'=⟨ro,(g,.cells #[.int .u64 i.2] 260)::[(c,Obj.cells e 3)]⟩/\sz a=65/\a.defers=[]/\cF (rg 26 39 [9,10]) a N/\slot a 0= .slice (some ⟨c,0,none⟩) u0.length c2/\slot a 1= .int .i64 b/\slot a 6= .int .i64 (IntKind.i64.wrap (d - b))/\slot a 7= .pointer (some ⟨g,0,none⟩)/\slot a 8= .int .u64 j/\slot a 9= .int .i64 f/\slot a 10= .int .i64 k) ?_ ?_
    .apply af hJ;refine ax hJ fun cl=>?_;apply aj hJ;simp only[*,go_sem];revert h;refine aS hJ (fun a6 h=>?_) fun a6 h=>?_
     .refine ax hJ fun cy=>?_;apply aj hJ;simp only[*,go_sem];refine Qn.intro ⟨_,Le.sub (List.Sublist.refl _),(IntKind.i64.wrap ((IntKind.i64.wrap (iD i.1 (IntKind.u64.wrap (j - 1)))) - (IntKind.i64.wrap (d - b)))),h,rfl,?_⟩;simp only[*,go_sem]
     apply aI hJ;simp only[*,go_sem];refine Qn.intro ⟨_,Le.sub (List.Sublist.refl _),(IntKind.i64.wrap (iD i.1 (IntKind.u64.wrap (j - 1)))),h,rfl,?_⟩;simp only[*,go_sem]
    rintro c0 F' ⟨k,Q,rfl,da,db,dd,df,dk,dp,dq,ds,dt,du⟩;obtain rfl:=sI Q;clear Q;have h:=a5;dsimp only[ay] at h;clear z B C P;refine ax hJ fun dv=>?_;refine eT hJ mixed [17,18,19] (.pure 0 (.pure 1 (.pure 2 (.pure 3 (.pure 4 (.pure 5 (.pure 6 (.pure 7 (.pure 8 (.pure 9 (.pure 10 (.rd 11 (.pure 12 (.pure 13 (.pure 14 (.rd 15 (.pure 16 (.last 17 (.pure 18 (.last 19 .done)))))))))))))))))))) ⟨ro,[(g,.cells #[.int .u64 i.2] 260),(c,Obj.cells e 3)]⟩ (by simp only[*,go_sem]) (by kernel_rfl) ?_;revert h;refine bS fun E a7 h=>?_;obtain ⟨dC,dE,dT,ea⟩:=s.cP a7;revert h;refine bS fun F a8 h=>?_;obtain ⟨a9,ba,eb,ec⟩:=s.cP a8;have R:=s.fZ a9 ba E;revert h;refine bS fun ed bb h=>?_;obtain ⟨bc,bd,eh,et⟩:=R.cP bb;have bj:=R.fZ bc bd F;simp only[*,go_sem];refine Qn.intro ⟨_,Le.sub (List.Sublist.refl _),(cJ (cJ e (f).toNat [.int .i64 E]) (IntKind.i64.wrap (b+k)).toNat [.int .i64 F]),((p.set (f).toNat E).set (IntKind.i64.wrap (b+k)).toNat F),i.2,h,rfl,bj,?_⟩;simp only[*,go_sem]
   rintro ev F' ⟨t,u,w,S,rfl,bl,eQ,eS,e0,e1,e2,e3,fa,fb,fg⟩;obtain rfl:=sI S;clear S;have h:=ar;dsimp only[ay] at h;cases h;clear z B C P;refine ax hJ fun fi=>?_;apply aj hJ;simp only[*,go_sem];refine ⟨y,Nat.lt_succ_self _,_,Le.sub (List.Sublist.refl _),t,(IntKind.i64.wrap (f+1)),u,w,D,rfl,bl,?_⟩;simp only[*,go_sem]
  cases h;apply bJ;simp only[go_sem];obtain rfl:=sI D;clear D;have h:=ae;dsimp only[ay] at h;cases h;simp only[*,go_sem];exact ⟨_,s,Le.sub (.cons _ (List.Sublist.refl _))⟩
 cases h;apply aI hJ;simp only[*,go_sem];exact ⟨_,l,Le.sub (List.Sublist.refl _)⟩
def wZ (u0:(List Int))(a:Int)(e:Int)(b:Int)(c:Int)(d:Int)(st:Int):Option (Fl Int ((Int×Bool)×(List Int))):=
 cond (decide (st<=(IntKind.i64.wrap (e - 1)))) (ag (aT ((u0.set (a).toNat c).set (b).toNat d) st) fun f=>ag (aT ((u0.set (a).toNat c).set (b).toNat d) a) fun g=>ag (iK f g) fun h=>cond (h) (some (.nx (IntKind.i64.wrap (st+1)))) (some (.bk st))) (some (.bk st))
def w5 (u0:(List Int))(a:Int)(b:Int)(c:Int)(d:Int)(e:Int)(st:Int):Option (Fl Int ((Int×Bool)×(List Int))):=
 cond (decide (e<=st)) (ag (aT ((u0.set (a).toNat c).set (b).toNat d) st) fun f=>ag (aT ((u0.set (a).toNat c).set (b).toNat d) a) fun g=>ag (iK f g) fun h=>cond (!h) (some (.nx (IntKind.i64.wrap (st - 1)))) (some (.bk st))) (some (.bk st))
def w6 (b:Int)(c:Int)(a:(List Int))(st:Int):Option (Fl Int ((Int×Bool)×(List Int))):=
 cond (decide (st<=c)) (ag (aT a st) fun d=>ag (aT a b) fun e=>ag (iK d e) fun f=>cond (f) (some (.nx (IntKind.i64.wrap (st+1)))) (some (.bk st))) (some (.bk st))
def w7 (b:Int)(a:(List Int))(c:Int)(st:Int):Option (Fl Int ((Int×Bool)×(List Int))):=
 cond (decide (c<=st)) (ag (aT a st) fun d=>ag (aT a b) fun e=>ag (iK d e) fun f=>cond (!f) (some (.nx (IntKind.i64.wrap (st - 1)))) (some (.bk st))) (some (.bk st))
def w8 (c:Int)(st:(Int×Int×(List Int))):Option (Fl (Int×Int×(List Int)) ((Int×Bool)×(List Int))):=
 ag (ag (aQ (w6 c st.2.1 st.2.2) fu st.1) fun o=>ay o (fun e=>some (.bk e)) (fun _ _=>none) (fun r=>some (.rt r)):Option (Fl Int ((Int×Bool)×(List Int)))) fun o=>ay o (fun a=>ag (ag (aQ (w7 c st.2.2 a) fu st.2.1) fun o=>ay o (fun f=>some (.bk f)) (fun _ _=>none) (fun r=>some (.rt r)):Option (Fl Int ((Int×Bool)×(List Int)))) fun o=>ay o (fun b=>cond (decide (b<a)) (some (.bk (a,b,st.2.2))) (ag (aT st.2.2 b) fun d=>ag (aT st.2.2 a) fun g=>ag (aT (st.2.2.set (a).toNat d) b) fun h=>some (.nx ((IntKind.i64.wrap (a+1)),(IntKind.i64.wrap (b - 1)),((st.2.2.set (a).toNat d).set (b).toNat g))))) (fun _ _=>none) (fun r=>some (.rt r))) (fun _ _=>none) (fun r=>some (.rt r))
def w9 (u0:(List Int))(a:Int)(h:Int)(b:Int):Option ((Int×Bool)×(List Int)):=
 cond (List.isEmpty u0) none (ag (aT u0 b) fun c=>ag (aT u0 a) fun d=>ag (aT (u0.set (a).toNat c) b) fun t=>ag (ag (aQ (wZ u0 a h b c d) fu (IntKind.i64.wrap (a+1))) fun o=>ay o (fun m=>some (.bk m)) (fun _ _=>none) (fun r=>some (.rt r)):Option (Fl Int ((Int×Bool)×(List Int)))) fun o=>ay o (fun g=>ag (ag (aQ (w5 u0 a b c d g) fu (IntKind.i64.wrap (h - 1))) fun o=>ay o (fun n=>some (.bk n)) (fun _ _=>none) (fun r=>some (.rt r)):Option (Fl Int ((Int×Bool)×(List Int)))) fun o=>ay o (fun e=>cond (decide (e<g)) (ag (aT ((u0.set (a).toNat c).set (b).toNat d) a) fun i=>ag (aT ((u0.set (a).toNat c).set (b).toNat d) e) fun p=>ag (aT (((u0.set (a).toNat c).set (b).toNat d).set (e).toNat i) a) fun u=>some ((e,true),((((u0.set (a).toNat c).set (b).toNat d).set (e).toNat i).set (a).toNat p))) (ag (aT ((u0.set (a).toNat c).set (b).toNat d) e) fun j=>ag (aT ((u0.set (a).toNat c).set (b).toNat d) g) fun q=>ag (aT (((u0.set (a).toNat c).set (b).toNat d).set (g).toNat j) e) fun v=>ag (ag (aQ (w8 a) fu ((IntKind.i64.wrap (g+1)),(IntKind.i64.wrap (e - 1)),((((u0.set (a).toNat c).set (b).toNat d).set (g).toNat j).set (e).toNat q))) fun o=>ay o (fun k=>some (.bk (k.2.1,k.2.2))) (fun _ _=>none) (fun r=>some (.rt r)):Option (Fl (Int×(List Int)) ((Int×Bool)×(List Int)))) fun o=>ay o (fun f=>ag (aT f.2 a) fun l=>ag (aT f.2 f.1) fun s=>ag (aT (f.2.set (f.1).toNat l) a) fun w=>some ((f.1,false),((f.2.set (f.1).toNat l).set (a).toNat s))) (fun _ _=>none) (fun r=>some r))) (fun _ _=>none) (fun r=>some r)) (fun _ _=>none) (fun r=>some r))
theorem HO {ro:Addr->Option Value}(u0:(List Int)){S:Value}{bb:List (Nat×Obj)}(x:aO rI ro 3 S u0 bb)(c:Int)(y:Int)(p:Int){r:((Int×Bool)×(List Int))}(h:w9 u0 c y p=some r):aE Tryz.prog 212 #[S,.int .i64 c,.int .i64 y,.int .i64 p] ⟨ro,bb⟩ (fun v G=>∃bc,(v= .tuple #[.int .i64 r.1.1,.bool r.1.2]/\aO rI ro 3 S r.2 bc)/\Le ⟨ro,bc⟩ G):=by
 obtain ⟨d1,c2,rfl,lr⟩:=x.len;unfold w9 at h;revert h;refine cS (fun bd h=>?_) fun bd h=>?_
 .cases h
 obtain ⟨b,bj,rfl,rfl,lv⟩:=x.iH bd;refine aE.go Tryz.func212 rfl Tryz.ntmps212 Tryz.results212 (by simp) fun main J hJ A bl hd hs=>?_;have bm:=hs 0;have k1:=hs 1;have bo:=hs 2;have br:=hs 3;clear hs;apply af hJ;refine ax hJ fun lx=>?_;apply aj hJ;simp only[*,go_sem];apply af hJ;refine ax hJ fun ly=>?_;refine eT hJ mixed [13,14,15] (.pure 0 (.pure 1 (.pure 2 (.pure 3 (.pure 4 (.pure 5 (.pure 6 (.rd 7 (.pure 8 (.pure 9 (.pure 10 (.rd 11 (.pure 12 (.last 13 (.pure 14 (.last 15 .done)))))))))))))))) ⟨ro,[(b,Obj.cells bj 3)]⟩ (by simp only[*,go_sem]) (by kernel_rfl) ?_;revert h;refine bS fun z fz h=>?_;obtain ⟨lL,l1,l2,l3⟩:=x.cP fz;revert h;refine bS fun B gg h=>?_;obtain ⟨gl,gn,l4,ma⟩:=x.cP gg;have bs:=x.fZ gl gn z;revert h;refine bS fun mf gp h=>?_;obtain ⟨gB,gC,mi,ml⟩:=bs.cP gp;have d:=bs.fZ gB gC B;simp only[*,go_sem];apply af hJ;obtain ⟨f,T⟩:∃o,o=(cJ (cJ bj (c).toNat [.int .i64 z]) (p).toNat [.int .i64 B]):=⟨_,rfl⟩
 refine cr (F:=⟨ro,[(b,Obj.cells f 3)]⟩) hJ (by rw[T];exact Le.refl _) ?_;rw[<-T] at d;clear T;refine ax hJ fun mn=>?_;apply aj hJ;simp only[*,go_sem];revert h;refine bS fun gM h gN=>?_;refine gv hJ (fun a F'=>∃(g:Int),some (Fl.bk g:Fl Int ((Int×Bool)×(List Int)))=some gM/\F'=⟨ro,[(b,Obj.cells f 3)]⟩/\sz a=168/\a.defers=[]/\slot a 0= .slice (some ⟨b,0,none⟩) u0.length c2/\slot a 1= .int .i64 c/\slot a 8= .int .i64 0/\slot a 9= .bool false/\slot a 10= .int .i64 g/\slot a 11= .int .i64 (IntKind.i64.wrap (y - 1))) ?_ ?_
 .apply aN hJ;revert h;refine bS fun gT K bz=>?_;refine bQ hJ (rg 30 16 [10]) (fun m a F'=>∃(q:Int),aQ (wZ u0 c y p z B) m q=some gT/\F'=⟨ro,[(b,Obj.cells f 3)]⟩/\slot a 10= .int .i64 q) fu ?_ ?_
  .refine ⟨(IntKind.i64.wrap (c+1)),K,rfl,?_⟩;simp only[*,go_sem]
  rintro U mr F' b0 ⟨q,K,rfl,mx⟩;obtain ⟨gV,g0,g1⟩:=b0.pick [0,1,8,9,11] (by decide);simp only[*,go_sem] at gV g0 g1;clear b0 bl hd bm k1 bo br;obtain _|U:=U
  .exact absurd K (by simp only[aQ,reduceCtorEq,not_false_eq_true])
  revert K;refine bS fun my h C=>?_;unfold wZ at h;try dsimp only at h
  refine af hJ (af hJ ?_);refine ax hJ fun m1=>?_;refine cE hJ mixed 14 1 (by simp only[*,go_sem]) (by kernel_rfl) ?_;revert h;refine cS (fun g2 h=>?_) fun g2 h=>?_
  .revert h;refine bS fun g3 g4 h=>?_;obtain ⟨m2,na,nb,nd⟩:=d.cP g4;revert h;refine bS fun ha hc h=>?_;obtain ⟨nf,nm,nn,np⟩:=d.cP hc;revert h;refine bS fun ns hf h=>?_;simp only[*,go_sem];refine ⟨_,bE hJ fun F V=>jP g3 ha hf,cc ?_⟩;simp only[*,go_sem];revert h;refine aS hJ (fun hg h=>?_) fun hg h=>?_
   .cases h;refine aI hJ (aN hJ ?_);refine ax hJ fun nx=>?_;apply aj hJ;simp only[*,go_sem];refine ⟨U,Nat.lt_succ_self _,_,Le.sub (List.Sublist.refl _),(IntKind.i64.wrap (q+1)),C,rfl,?_⟩;simp only[*,go_sem]
   cases h;apply bJ;simp only[go_sem];obtain rfl:=sI C;clear C;have h:=bz;dsimp only[ay] at h;simp only[*,go_sem];refine Qn.intro ⟨_,Le.sub (List.Sublist.refl _),q,h,rfl,?_⟩;simp only[*,go_sem]
  cases h;simp only[*,go_sem];refine bT hJ ?_;apply bJ;simp only[go_sem];obtain rfl:=sI C;clear C;have h:=bz;dsimp only[ay] at h;refine Qn.intro ⟨_,Le.sub (List.Sublist.refl _),q,h,rfl,?_⟩;simp only[*,go_sem]
 rintro nz F' ⟨g,b1,rfl,b2,b3,b4,b5,ca,cb,cd,cf⟩;obtain rfl:=sI b1;clear b1;have h:=gN;dsimp only[ay] at h;clear bl hd bm k1 bo br;revert h;refine bS fun hh h hi=>?_;refine gv hJ (fun a F'=>∃(k:Int),some (Fl.bk k:Fl Int ((Int×Bool)×(List Int)))=some hh/\F'=⟨ro,[(b,Obj.cells f 3)]⟩/\sz a=168/\a.defers=[]/\slot a 0= .slice (some ⟨b,0,none⟩) u0.length c2/\slot a 1= .int .i64 c/\slot a 8= .int .i64 0/\slot a 9= .bool false/\slot a 10= .int .i64 g/\slot a 11= .int .i64 k) ?_ ?_
 .apply aN hJ;revert h;refine bS fun hj L cl=>?_;refine bQ hJ (rg 46 17 [11]) (fun m a F'=>∃(s:Int),aQ (w5 u0 c p z B g) m s=some hj/\F'=⟨ro,[(b,Obj.cells f 3)]⟩/\slot a 11= .int .i64 s) fu ?_ ?_
  .refine ⟨(IntKind.i64.wrap (y - 1)),L,rfl,?_⟩;simp only[*,go_sem]
  rintro W nA F' cy ⟨s,L,rfl,nH⟩;obtain ⟨hk,hl,hn⟩:=cy.pick [0,1,8,9,10] (by decide);simp only[*,go_sem] at hk hl hn;clear cy b2 b3 b4 b5 ca cb cd cf;obtain _|W:=W
  .exact absurd L (by simp only[aQ,reduceCtorEq,not_false_eq_true])
  revert L;refine bS fun nI h D=>?_;unfold w5 at h;try dsimp only at h
  refine af hJ (af hJ ?_);refine ax hJ fun nK=>?_;refine cE hJ mixed 15 1 (by simp only[*,go_sem]) (by kernel_rfl) ?_;revert h;refine cS (fun ho h=>?_) fun ho h=>?_
  .revert h;refine bS fun hp hq h=>?_;obtain ⟨nQ,nR,nT,nV⟩:=d.cP hq;revert h;refine bS fun hr ht h=>?_;obtain ⟨nX,nY,n0,n1⟩:=d.cP ht;revert h;refine bS fun n2 hv h=>?_;simp only[*,go_sem];refine ⟨_,bE hJ fun F V=>jP hp hr hv,cc ?_⟩;simp only[*,go_sem];revert h;refine aS hJ (fun hx h=>?_) fun hx h=>?_
   .cases h;refine aI hJ (aN hJ ?_);refine ax hJ fun n3=>?_;apply aj hJ;simp only[*,go_sem];refine ⟨W,Nat.lt_succ_self _,_,Le.sub (List.Sublist.refl _),(IntKind.i64.wrap (s - 1)),D,rfl,?_⟩;simp only[*,go_sem]
   cases h;apply bJ;simp only[go_sem];obtain rfl:=sI D;clear D;have h:=cl;dsimp only[ay] at h;simp only[*,go_sem];refine Qn.intro ⟨_,Le.sub (List.Sublist.refl _),s,h,rfl,?_⟩;simp only[*,go_sem]
  cases h;simp only[*,go_sem];refine bT hJ ?_;apply bJ;simp only[go_sem];obtain rfl:=sI D;clear D;have h:=cl;dsimp only[ay] at h;refine Qn.intro ⟨_,Le.sub (List.Sublist.refl _),s,h,rfl,?_⟩;simp only[*,go_sem]
 rintro oc F' ⟨k,c0,rfl,da,db,dd,df,dk,dp,dq,ds⟩;obtain rfl:=sI c0;clear c0;have h:=hi;dsimp only[ay] at h;clear b2 b3 b4 b5 ca cb cd cf;refine af hJ (af hJ ?_);refine ax hJ fun oi=>?_;apply aj hJ;simp only[*,go_sem];revert h;refine aS hJ (fun hy h=>?_) fun hy h=>?_
 .apply af hJ;refine ax hJ fun oj=>?_;refine eT hJ mixed [13,14,15] (.pure 0 (.pure 1 (.pure 2 (.pure 3 (.pure 4 (.pure 5 (.pure 6 (.rd 7 (.pure 8 (.pure 9 (.pure 10 (.rd 11 (.pure 12 (.last 13 (.pure 14 (.last 15 .done)))))))))))))))) ⟨ro,[(b,Obj.cells f 3)]⟩ (by simp only[*,go_sem]) (by kernel_rfl) ?_;revert h;refine bS fun dt hz h=>?_;obtain ⟨ox,oy,o0,o1⟩:=d.cP hz;revert h;refine bS fun du hA h=>?_;obtain ⟨hB,hD,o2,o4⟩:=d.cP hA;have dv:=d.fZ hB hD dt;revert h;refine bS fun pa hE h=>?_;cases h;obtain ⟨hF,hG,pb,pd⟩:=dv.cP hE;have dC:=dv.fZ hF hG du;simp only[*,go_sem];apply af hJ;obtain ⟨hI,X⟩:∃o,o=(cJ (cJ f (k).toNat [.int .i64 dt]) (c).toNat [.int .i64 du]):=⟨_,rfl⟩
  refine cr (F:=⟨ro,[(b,Obj.cells hI 3)]⟩) hJ (by rw[X];exact Le.refl _) ?_;rw[<-X] at dC;clear X;refine ax hJ fun pf=>?_;apply aj hJ;simp only[*,go_sem];apply aA;simp only[*,go_sem];exact ⟨_,dC,Le.sub (List.Sublist.refl _)⟩
 refine aI hJ (af hJ ?_);refine ax hJ fun ph=>?_;refine eT hJ mixed [13,14,15] (.pure 0 (.pure 1 (.pure 2 (.pure 3 (.pure 4 (.pure 5 (.pure 6 (.rd 7 (.pure 8 (.pure 9 (.pure 10 (.rd 11 (.pure 12 (.last 13 (.pure 14 (.last 15 .done)))))))))))))))) ⟨ro,[(b,Obj.cells f 3)]⟩ (by simp only[*,go_sem]) (by kernel_rfl) ?_;revert h;refine bS fun Y hK h=>?_;obtain ⟨pj,pk,po,pr⟩:=d.cP hK;revert h;refine bS fun Z hL h=>?_;obtain ⟨hM,hN,ps,pt⟩:=d.cP hL;have dE:=d.fZ hM hN Y;revert h;refine bS fun pv hP h=>?_;obtain ⟨hQ,hR,pw,px⟩:=dE.cP hP;have dT:=dE.fZ hQ hR Z;simp only[*,go_sem];apply af hJ;obtain ⟨ea,ab⟩:∃o,o=(cJ (cJ f (g).toNat [.int .i64 Y]) (k).toNat [.int .i64 Z]):=⟨_,rfl⟩
 refine cr (F:=⟨ro,[(b,Obj.cells ea 3)]⟩) hJ (by rw[ab];exact Le.refl _) ?_;rw[<-ab] at dT;clear ab;refine ax hJ fun py=>?_;apply aj hJ;simp only[*,go_sem];apply af hJ;refine ax hJ fun pA=>?_;apply aj hJ;simp only[*,go_sem];revert h;refine bS fun hS h hT=>?_;refine gv hJ (fun a F'=>∃(E:Array Value) (M:Int) (ad:(List Int)),some (Fl.bk (M,ad):Fl (Int×(List Int)) ((Int×Bool)×(List Int)))=some hS/\F'=⟨ro,[(b,Obj.cells E 3)]⟩/\aO rI ro 3 (.slice (some ⟨b,0,none⟩) u0.length c2) ad [(b,Obj.cells E 3)]/\sz a=168/\a.defers=[]/\slot a 0= .slice (some ⟨b,0,none⟩) u0.length c2/\slot a 1= .int .i64 c/\slot a 8= .int .i64 0/\slot a 9= .bool false/\slot a 11= .int .i64 M) ?_ ?_
 .apply aN hJ;revert h;refine bS fun hV N hX=>?_;refine bQ hJ (rg 99 54 [10,11]) (fun m a F'=>∃(e:Array Value) (O:Int) (t:Int) (l:(List Int)),aQ (w8 c) m (O,t,l)=some hV/\F'=⟨ro,[(b,Obj.cells e 3)]⟩/\aO rI ro 3 (.slice (some ⟨b,0,none⟩) u0.length c2) l [(b,Obj.cells e 3)]/\slot a 10= .int .i64 O/\slot a 11= .int .i64 t) fu ?_ ?_
  .refine ⟨ea,(IntKind.i64.wrap (g+1)),(IntKind.i64.wrap (k - 1)),((((u0.set (c).toNat z).set (p).toNat B).set (g).toNat Y).set (k).toNat Z),N,rfl,dT,?_⟩;simp only[*,go_sem]
  rintro ae P F' eb ⟨e,O,t,l,N,rfl,i,ec,ed⟩;obtain ⟨al,ao,ar⟩:=eb.pick [0,1,8,9] (by decide);simp only[*,go_sem] at al ao ar;clear eb da db dd df dk dp dq ds;obtain _|ae:=ae
  .exact absurd N (by simp only[aQ,reduceCtorEq,not_false_eq_true])
  revert N;refine bS fun pB h a0=>?_;unfold w8 at h;try dsimp only at h
  apply aN hJ;revert h;refine bS fun hY h hZ=>?_;refine gv hJ (fun a F'=>∃(j:Int),some (Fl.bk j:Fl Int ((Int×Bool)×(List Int)))=some hY/\F'=⟨ro,[(b,Obj.cells e 3)]⟩/\sz a=168/\a.defers=[]/\cF (rg 99 54 [10,11]) a P/\slot a 0= .slice (some ⟨b,0,none⟩) u0.length c2/\slot a 1= .int .i64 c/\slot a 8= .int .i64 0/\slot a 9= .bool false/\slot a 10= .int .i64 j/\slot a 11= .int .i64 t) ?_ ?_
  .apply aN hJ;revert h;refine bS fun h0 Q eh=>?_;refine bQ hJ (rg 99 16 [10]) (fun m a F'=>∃(u:Int),aQ (w6 c t l) m u=some h0/\F'=⟨ro,[(b,Obj.cells e 3)]⟩/\slot a 10= .int .i64 u) fu ?_ ?_
   .refine ⟨O,Q,rfl,?_⟩;simp only[*,go_sem]
   rintro a2 h1 F' a3 ⟨u,Q,rfl,pC⟩;obtain ⟨h2,h3,h4⟩:=a3.pick [0,1,8,9,11] (by decide);simp only[*,go_sem] at h2 h3 h4;have pD:cF (rg 99 54 [10,11]) h1 P:=(a3.fM (by decide)).trans (by simp only[*,go_sem]);clear a3 al ao ar ec ed;obtain _|a2:=a2
   .exact absurd Q (by simp only[aQ,reduceCtorEq,not_false_eq_true])
   revert Q;refine bS fun pL h H=>?_;unfold w6 at h;(try dsimp only at h);refine af hJ (af hJ ?_);refine ax hJ fun pT=>?_;refine cE hJ mixed 14 1 (by simp only[*,go_sem]) (by kernel_rfl) ?_;revert h;refine cS (fun h5 h=>?_) fun h5 h=>?_
   .revert h;refine bS fun h6 h7 h=>?_;obtain ⟨p0,p1,qe,qk⟩:=i.cP h7;revert h;refine bS fun h8 h9 h=>?_;obtain ⟨q0,q1,ra,rb⟩:=i.cP h9;revert h;refine bS fun re ib h=>?_;simp only[*,go_sem];refine ⟨_,bE hJ fun F V=>jP h6 h8 ib,cc ?_⟩;simp only[*,go_sem];revert h;refine aS hJ (fun ic h=>?_) fun ic h=>?_
    .cases h;refine aI hJ (aN hJ ?_);refine ax hJ fun rh=>?_;apply aj hJ;simp only[*,go_sem];refine ⟨a2,Nat.lt_succ_self _,_,Le.sub (List.Sublist.refl _),(IntKind.i64.wrap (u+1)),H,rfl,?_⟩;simp only[*,go_sem]
    cases h;apply bJ;simp only[go_sem];obtain rfl:=sI H;clear H;have h:=eh;dsimp only[ay] at h;simp only[*,go_sem];refine Qn.intro ⟨_,Le.sub (List.Sublist.refl _),u,h,rfl,?_⟩;simp only[*,go_sem]
   cases h;simp only[*,go_sem];refine bT hJ ?_;apply bJ;simp only[go_sem];obtain rfl:=sI H;clear H;have h:=eh;dsimp only[ay] at h;refine Qn.intro ⟨_,Le.sub (List.Sublist.refl _),u,h,rfl,?_⟩;simp only[*,go_sem]
  rintro rk F' ⟨j,et,rfl,ev,eQ,rl,eS,e0,e1,e2,e3,fa⟩;obtain rfl:=sI et;clear et;have h:=hZ;dsimp only[ay] at h;clear al ao ar ec ed;revert h;refine bS fun ih h ik=>?_;refine gv hJ (fun a F'=>∃(n:Int),some (Fl.bk n:Fl Int ((Int×Bool)×(List Int)))=some ih/\F'=⟨ro,[(b,Obj.cells e 3)]⟩/\sz a=168/\a.defers=[]/\cF (rg 99 54 [10,11]) a P/\slot a 0= .slice (some ⟨b,0,none⟩) u0.length c2/\slot a 1= .int .i64 c/\slot a 8= .int .i64 0/\slot a 9= .bool false/\slot a 10= .int .i64 j/\slot a 11= .int .i64 n) ?_ ?_
  .apply aN hJ;revert h;refine bS fun il R fb=>?_;refine bQ hJ (rg 115 17 [11]) (fun m a F'=>∃(w:Int),aQ (w7 c l j) m w=some il/\F'=⟨ro,[(b,Obj.cells e 3)]⟩/\slot a 11= .int .i64 w) fu ?_ ?_
   .refine ⟨t,R,rfl,?_⟩;simp only[*,go_sem]
   rintro a4 im F' a5 ⟨w,R,rfl,rn⟩;obtain ⟨iv,ix,jC⟩:=a5.pick [0,1,8,9,10] (by decide);simp only[*,go_sem] at iv ix jC;have rp:cF (rg 99 54 [10,11]) im P:=(a5.fM (by decide)).trans (by simp only[*,go_sem]);clear a5 ev eQ eS e0 e1 e2 e3 fa;obtain _|a4:=a4
   .exact absurd R (by simp only[aQ,reduceCtorEq,not_false_eq_true])
   revert R;refine bS fun rr h I=>?_;unfold w7 at h;(try dsimp only at h);refine af hJ (af hJ ?_);refine ax hJ fun rv=>?_;refine cE hJ mixed 15 1 (by simp only[*,go_sem]) (by kernel_rfl) ?_;revert h;refine cS (fun j1 h=>?_) fun j1 h=>?_
   .revert h;refine bS fun j2 kh h=>?_;obtain ⟨rB,rL,sa,sb⟩:=i.cP kh;revert h;refine bS fun kj kk h=>?_;obtain ⟨sc,sf,sg,sh⟩:=i.cP kk;revert h;refine bS fun sl kl h=>?_;simp only[*,go_sem];refine ⟨_,bE hJ fun F V=>jP j2 kj kl,cc ?_⟩;simp only[*,go_sem];revert h;refine aS hJ (fun km h=>?_) fun km h=>?_
    .cases h;refine aI hJ (aN hJ ?_);refine ax hJ fun sm=>?_;apply aj hJ;simp only[*,go_sem];refine ⟨a4,Nat.lt_succ_self _,_,Le.sub (List.Sublist.refl _),(IntKind.i64.wrap (w - 1)),I,rfl,?_⟩;simp only[*,go_sem]
    cases h;apply bJ;simp only[go_sem];obtain rfl:=sI I;clear I;have h:=fb;dsimp only[ay] at h;simp only[*,go_sem];refine Qn.intro ⟨_,Le.sub (List.Sublist.refl _),w,h,rfl,?_⟩;simp only[*,go_sem]
   cases h;simp only[*,go_sem];refine bT hJ ?_;apply bJ;simp only[go_sem];obtain rfl:=sI I;clear I;have h:=fb;dsimp only[ay] at h;refine Qn.intro ⟨_,Le.sub (List.Sublist.refl _),w,h,rfl,?_⟩;simp only[*,go_sem]
  rintro ss F' ⟨n,fg,rfl,sy,sT,ta,tb,te,ti,tk,tl,tm⟩;obtain rfl:=sI fg;clear fg;have h:=ik;dsimp only[ay] at h;clear ev eQ eS e0 e1 e2 e3 fa;refine af hJ (af hJ ?_);refine ax hJ fun tp=>?_;apply aj hJ;simp only[*,go_sem];revert h;refine aS hJ (fun kn h=>?_) fun kn h=>?_
  .cases h;apply bJ;simp only[go_sem];obtain rfl:=sI a0;clear a0;have h:=hX;dsimp only[ay] at h;simp only[*,go_sem];refine Qn.intro ⟨_,Le.sub (List.Sublist.refl _),e,n,l,h,rfl,i,?_⟩;simp only[*,go_sem]
  refine aI hJ (af hJ ?_);refine ax hJ fun ts=>?_;refine eT hJ mixed [13,14,15] (.pure 0 (.pure 1 (.pure 2 (.pure 3 (.pure 4 (.pure 5 (.pure 6 (.rd 7 (.pure 8 (.pure 9 (.pure 10 (.rd 11 (.pure 12 (.last 13 (.pure 14 (.last 15 .done)))))))))))))))) ⟨ro,[(b,Obj.cells e 3)]⟩ (by simp only[*,go_sem]) (by kernel_rfl) ?_;revert h;refine bS fun a6 kp h=>?_;obtain ⟨tt,tx,tz,tI⟩:=i.cP kp;revert h;refine bS fun a7 ks h=>?_;obtain ⟨kt,kv,tM,tW⟩:=i.cP ks;have fi:=i.fZ kt kv a6;revert h;refine bS fun ub kx h=>?_;cases h;obtain ⟨ky,k0,ui,u1⟩:=fi.cP kx;have fp:=fi.fZ ky k0 a7;simp only[*,go_sem];apply af hJ;obtain ⟨fr,a8⟩:∃o,o=(cJ (cJ e (j).toNat [.int .i64 a6]) (n).toNat [.int .i64 a7]):=⟨_,rfl⟩
  refine cr (F:=⟨ro,[(b,Obj.cells fr 3)]⟩) hJ (by rw[a8];exact Le.refl _) ?_;rw[<-a8] at fp;clear a8;refine ax hJ fun u2=>?_;apply aj hJ;simp only[*,go_sem];refine ax hJ fun u3=>?_;apply aj hJ;simp only[*,go_sem];refine ⟨ae,Nat.lt_succ_self _,_,Le.sub (List.Sublist.refl _),fr,(IntKind.i64.wrap (j+1)),(IntKind.i64.wrap (n - 1)),((l.set (j).toNat a6).set (n).toNat a7),a0,rfl,fp,?_⟩;simp only[*,go_sem]
 rintro u4 F' ⟨E,M,ad,fs,rfl,a9,va,vd,vs,vx,vy,v3,wa⟩;obtain rfl:=sI fs;clear fs;have h:=hT;dsimp only[ay] at h;clear da db dd df dk dp dq ds;apply af hJ;refine ax hJ fun wb=>?_;refine eT hJ mixed [13,14,15] (.pure 0 (.pure 1 (.pure 2 (.pure 3 (.pure 4 (.pure 5 (.pure 6 (.rd 7 (.pure 8 (.pure 9 (.pure 10 (.rd 11 (.pure 12 (.last 13 (.pure 14 (.last 15 .done)))))))))))))))) ⟨ro,[(b,Obj.cells E 3)]⟩ (by simp only[*,go_sem]) (by kernel_rfl) ?_;revert h;refine bS fun ft k2 h=>?_;obtain ⟨wc,wi,wx,wy⟩:=a9.cP k2;revert h;refine bS fun fv lb h=>?_;obtain ⟨lh,lj,w0,xa⟩:=a9.cP lb;have fw:=a9.fZ lh lj ft;revert h;refine bS fun xc lk h=>?_;cases h;obtain ⟨ll,ln,xf,xi⟩:=fw.cP lk;have fx:=fw.fZ ll ln fv;simp only[*,go_sem];apply af hJ;obtain ⟨lo,ba⟩:∃o,o=(cJ (cJ E (M).toNat [.int .i64 ft]) (c).toNat [.int .i64 fv]):=⟨_,rfl⟩
 refine cr (F:=⟨ro,[(b,Obj.cells lo 3)]⟩) hJ (by rw[ba];exact Le.refl _) ?_;rw[<-ba] at fx;clear ba;refine ax hJ fun xn=>?_;apply aj hJ;simp only[*,go_sem];apply aA;simp only[*,go_sem];exact ⟨_,fx,Le.sub (List.Sublist.refl _)⟩
def xb (b:Int)(c:Int)(a:(List Int))(st:Int):Option (Fl Int (Int×(List Int))):=
 cond (decide (st<=c)) (ag (aT a b) fun d=>ag (aT a st) fun e=>ag (iK d e) fun f=>cond (!f) (some (.nx (IntKind.i64.wrap (st+1)))) (some (.bk st))) (some (.bk st))
def xd (b:Int)(a:(List Int))(c:Int)(st:Int):Option (Fl Int (Int×(List Int))):=
 cond (decide (c<=st)) (ag (aT a b) fun d=>ag (aT a st) fun e=>ag (iK d e) fun f=>cond (f) (some (.nx (IntKind.i64.wrap (st - 1)))) (some (.bk st))) (some (.bk st))
def xe (c:Int)(st:(Int×Int×(List Int))):Option (Fl (Int×Int×(List Int)) (Int×(List Int))):=
 ag (ag (aQ (xb c st.2.1 st.2.2) fu st.1) fun o=>ay o (fun e=>some (.bk e)) (fun _ _=>none) (fun r=>some (.rt r)):Option (Fl Int (Int×(List Int)))) fun o=>ay o (fun a=>ag (ag (aQ (xd c st.2.2 a) fu st.2.1) fun o=>ay o (fun f=>some (.bk f)) (fun _ _=>none) (fun r=>some (.rt r)):Option (Fl Int (Int×(List Int)))) fun o=>ay o (fun b=>cond (decide (b<a)) (some (.bk (a,b,st.2.2))) (ag (aT st.2.2 b) fun d=>ag (aT st.2.2 a) fun g=>ag (aT (st.2.2.set (a).toNat d) b) fun h=>some (.nx ((IntKind.i64.wrap (a+1)),(IntKind.i64.wrap (b - 1)),((st.2.2.set (a).toNat d).set (b).toNat g))))) (fun _ _=>none) (fun r=>some (.rt r))) (fun _ _=>none) (fun r=>some (.rt r))
def xg (u0:(List Int))(a:Int)(f:Int)(b:Int):Option (Int×(List Int)):=
 cond (List.isEmpty u0) none (ag (aT u0 b) fun c=>ag (aT u0 a) fun g=>ag (aT (u0.set (a).toNat c) b) fun h=>ag (ag (aQ (xe a) fu ((IntKind.i64.wrap (a+1)),(IntKind.i64.wrap (f - 1)),((u0.set (a).toNat c).set (b).toNat g))) fun o=>ay o (fun d=>some (.bk (d.1,d.2.2))) (fun _ _=>none) (fun r=>some (.rt r)):Option (Fl (Int×(List Int)) (Int×(List Int)))) fun o=>ay o (fun e=>some (e.1,e.2)) (fun _ _=>none) (fun r=>some r))
theorem HP {ro:Addr->Option Value}(u0:(List Int)){z:Value}{X:List (Nat×Obj)}(n:aO rI ro 3 z u0 X)(c:Int)(B:Int)(s:Int){r:(Int×(List Int))}(h:xg u0 c B s=some r):aE Tryz.prog 211 #[z,.int .i64 c,.int .i64 B,.int .i64 s] ⟨ro,X⟩ (fun v G=>∃Y,(v= .int .i64 r.1/\aO rI ro 3 z r.2 Y)/\Le ⟨ro,Y⟩ G):=by
 obtain ⟨d1,c2,rfl,fw⟩:=n.len;unfold xg at h;revert h;refine cS (fun Z h=>?_) fun Z h=>?_
 .cases h
 obtain ⟨b,ab,rfl,rfl,fx⟩:=n.iH Z;refine aE.go Tryz.func211 rfl Tryz.ntmps211 Tryz.results211 (by simp) fun main J hJ A ad hd hs=>?_;have ae:=hs 0;have k1:=hs 1;have al:=hs 2;have ao:=hs 3;clear hs;apply af hJ;refine ax hJ fun fz=>?_;apply aj hJ;simp only[*,go_sem];apply af hJ;refine ax hJ fun gg=>?_;refine eT hJ mixed [13,14,15] (.pure 0 (.pure 1 (.pure 2 (.pure 3 (.pure 4 (.pure 5 (.pure 6 (.rd 7 (.pure 8 (.pure 9 (.pure 10 (.rd 11 (.pure 12 (.last 13 (.pure 14 (.last 15 .done)))))))))))))))) ⟨ro,[(b,Obj.cells ab 3)]⟩ (by simp only[*,go_sem]) (by kernel_rfl) ?_;revert h;refine bS fun C b0 h=>?_;obtain ⟨gl,gn,gp,gB⟩:=n.cP b0;revert h;refine bS fun D b1 h=>?_;obtain ⟨b2,b3,gC,gM⟩:=n.cP b1;have ar:=n.fZ b2 b3 C;revert h;refine bS fun gN b4 h=>?_;obtain ⟨b5,ca,gT,gV⟩:=ar.cP b4;have a0:=ar.fZ b5 ca D;simp only[*,go_sem];apply af hJ;obtain ⟨a2,E⟩:∃o,o=(cJ (cJ ab (c).toNat [.int .i64 C]) (s).toNat [.int .i64 D]):=⟨_,rfl⟩
 refine cr (F:=⟨ro,[(b,Obj.cells a2 3)]⟩) hJ (by rw[E];exact Le.refl _) ?_;rw[<-E] at a0;clear E;refine ax hJ fun g0=>?_;apply aj hJ;simp only[*,go_sem];revert h;refine bS fun cb h cd=>?_;refine gv hJ (fun a F'=>∃(H:Array Value) (I:Int) (K:(List Int)),some (Fl.bk (I,K):Fl (Int×(List Int)) (Int×(List Int)))=some cb/\F'=⟨ro,[(b,Obj.cells H 3)]⟩/\aO rI ro 3 (.slice (some ⟨b,0,none⟩) u0.length c2) K [(b,Obj.cells H 3)]/\sz a=84/\a.defers=[]/\slot a 0= .slice (some ⟨b,0,none⟩) u0.length c2/\slot a 8= .int .i64 0/\slot a 9= .int .i64 I) ?_ ?_
 .apply aN hJ;revert h;refine bS fun cf t cl=>?_;refine bQ hJ (rg 29 54 [9,10]) (fun m a F'=>∃(d:Array Value) (u:Int) (i:Int) (g:(List Int)),aQ (xe c) m (u,i,g)=some cf/\F'=⟨ro,[(b,Obj.cells d 3)]⟩/\aO rI ro 3 (.slice (some ⟨b,0,none⟩) u0.length c2) g [(b,Obj.cells d 3)]/\slot a 9= .int .i64 u/\slot a 10= .int .i64 i) fu ?_ ?_
  .refine ⟨a2,(IntKind.i64.wrap (c+1)),(IntKind.i64.wrap (B - 1)),((u0.set (c).toNat C).set (s).toNat D),t,rfl,a0,?_⟩;simp only[*,go_sem]
  rintro L w F' a3 ⟨d,u,i,g,t,rfl,f,a4,a5⟩;obtain ⟨M,N,O⟩:=a3.pick [0,1,8] (by decide);simp only[*,go_sem] at M N O;clear a3 ad hd ae k1 al ao;obtain _|L:=L
  .exact absurd t (by simp only[aQ,reduceCtorEq,not_false_eq_true])
  revert t;refine bS fun g1 h P=>?_;unfold xe at h;try dsimp only at h
  apply aN hJ;revert h;refine bS fun cy h c0=>?_;refine gv hJ (fun a F'=>∃(e:Int),some (Fl.bk e:Fl Int (Int×(List Int)))=some cy/\F'=⟨ro,[(b,Obj.cells d 3)]⟩/\sz a=84/\a.defers=[]/\cF (rg 29 54 [9,10]) a w/\slot a 0= .slice (some ⟨b,0,none⟩) u0.length c2/\slot a 1= .int .i64 c/\slot a 8= .int .i64 0/\slot a 9= .int .i64 e/\slot a 10= .int .i64 i) ?_ ?_
  .apply aN hJ;revert h;refine bS fun da x a6=>?_;refine bQ hJ (rg 29 17 [9]) (fun m a F'=>∃(j:Int),aQ (xb c i g) m j=some da/\F'=⟨ro,[(b,Obj.cells d 3)]⟩/\slot a 9= .int .i64 j) fu ?_ ?_
   .refine ⟨u,x,rfl,?_⟩;simp only[*,go_sem]
   rintro Q db F' R ⟨j,x,rfl,g2⟩;obtain ⟨dd,df,dk⟩:=R.pick [0,1,8,10] (by decide);simp only[*,go_sem] at dd df dk;have g3:cF (rg 29 54 [9,10]) db w:=(R.fM (by decide)).trans (by simp only[*,go_sem]);clear R M N O a4 a5;obtain _|Q:=Q
   .exact absurd x (by simp only[aQ,reduceCtorEq,not_false_eq_true])
   revert x;refine bS fun g4 h p=>?_;unfold xb at h;(try dsimp only at h);refine af hJ (af hJ ?_);refine ax hJ fun ha=>?_;refine cE hJ mixed 15 1 (by simp only[*,go_sem]) (by kernel_rfl) ?_;revert h;refine cS (fun dp h=>?_) fun dp h=>?_
   .revert h;refine bS fun dq ds h=>?_;obtain ⟨hc,hf,hg,hh⟩:=f.cP ds;revert h;refine bS fun dt du h=>?_;obtain ⟨hi,hj,hk,hl⟩:=f.cP du;revert h;refine bS fun hn dv h=>?_;simp only[*,go_sem];refine ⟨_,bE hJ fun F dC=>jP dq dt dv,cc ?_⟩;simp only[*,go_sem];revert h;refine aS hJ (fun dE h=>?_) fun dE h=>?_
    .cases h;refine aI hJ (aN hJ ?_);refine ax hJ fun ho=>?_;apply aj hJ;simp only[*,go_sem];refine ⟨Q,Nat.lt_succ_self _,_,Le.sub (List.Sublist.refl _),(IntKind.i64.wrap (j+1)),p,rfl,?_⟩;simp only[*,go_sem]
    cases h;apply bJ;simp only[go_sem];obtain rfl:=sI p;clear p;have h:=a6;dsimp only[ay] at h;simp only[*,go_sem];refine Qn.intro ⟨_,Le.sub (List.Sublist.refl _),j,h,rfl,?_⟩;simp only[*,go_sem]
   cases h;simp only[*,go_sem];refine bT hJ ?_;apply bJ;simp only[go_sem];obtain rfl:=sI p;clear p;have h:=a6;dsimp only[ay] at h;refine Qn.intro ⟨_,Le.sub (List.Sublist.refl _),j,h,rfl,?_⟩;simp only[*,go_sem]
  rintro hp F' ⟨e,a7,rfl,a8,a9,hq,ba,bb,bc,bd,bj⟩;obtain rfl:=sI a7;clear a7;have h:=c0;dsimp only[ay] at h;clear M N O a4 a5;revert h;refine bS fun dT h ea=>?_;refine gv hJ (fun a F'=>∃(k:Int),some (Fl.bk k:Fl Int (Int×(List Int)))=some dT/\F'=⟨ro,[(b,Obj.cells d 3)]⟩/\sz a=84/\a.defers=[]/\cF (rg 29 54 [9,10]) a w/\slot a 0= .slice (some ⟨b,0,none⟩) u0.length c2/\slot a 1= .int .i64 c/\slot a 8= .int .i64 0/\slot a 9= .int .i64 e/\slot a 10= .int .i64 k) ?_ ?_
  .apply aN hJ;revert h;refine bS fun eb y bl=>?_;refine bQ hJ (rg 46 16 [10]) (fun m a F'=>∃(l:Int),aQ (xd c g e) m l=some eb/\F'=⟨ro,[(b,Obj.cells d 3)]⟩/\slot a 10= .int .i64 l) fu ?_ ?_
   .refine ⟨i,y,rfl,?_⟩;simp only[*,go_sem]
   rintro S ec F' T ⟨l,y,rfl,hr⟩;obtain ⟨ed,eh,et⟩:=T.pick [0,1,8,9] (by decide);simp only[*,go_sem] at ed eh et;have ht:cF (rg 29 54 [9,10]) ec w:=(T.fM (by decide)).trans (by simp only[*,go_sem]);clear T a8 a9 ba bb bc bd bj;obtain _|S:=S
   .exact absurd y (by simp only[aQ,reduceCtorEq,not_false_eq_true])
   revert y;refine bS fun hv h q=>?_;unfold xd at h;(try dsimp only at h);refine af hJ (af hJ ?_);refine ax hJ fun hx=>?_;refine cE hJ mixed 14 1 (by simp only[*,go_sem]) (by kernel_rfl) ?_;revert h;refine cS (fun ev h=>?_) fun ev h=>?_
   .revert h;refine bS fun eQ eS h=>?_;obtain ⟨hy,hz,hA,hB⟩:=f.cP eS;revert h;refine bS fun e0 e1 h=>?_;obtain ⟨hD,hE,hF,hG⟩:=f.cP e1;revert h;refine bS fun hI e2 h=>?_;simp only[*,go_sem];refine ⟨_,bE hJ fun F dC=>jP eQ e0 e2,cc ?_⟩;simp only[*,go_sem];revert h;refine aS hJ (fun e3 h=>?_) fun e3 h=>?_
    .cases h;refine aI hJ (aN hJ ?_);refine ax hJ fun hK=>?_;apply aj hJ;simp only[*,go_sem];refine ⟨S,Nat.lt_succ_self _,_,Le.sub (List.Sublist.refl _),(IntKind.i64.wrap (l - 1)),q,rfl,?_⟩;simp only[*,go_sem]
    cases h;apply bJ;simp only[go_sem];obtain rfl:=sI q;clear q;have h:=bl;dsimp only[ay] at h;simp only[*,go_sem];refine Qn.intro ⟨_,Le.sub (List.Sublist.refl _),l,h,rfl,?_⟩;simp only[*,go_sem]
   cases h;simp only[*,go_sem];refine bT hJ ?_;apply bJ;simp only[go_sem];obtain rfl:=sI q;clear q;have h:=bl;dsimp only[ay] at h;refine Qn.intro ⟨_,Le.sub (List.Sublist.refl _),l,h,rfl,?_⟩;simp only[*,go_sem]
  rintro hL F' ⟨k,bm,rfl,hM,hN,hP,hQ,hR,hS,hT,hV⟩;obtain rfl:=sI bm;clear bm;have h:=ea;dsimp only[ay] at h;clear a8 a9 ba bb bc bd bj;refine af hJ (af hJ ?_);refine ax hJ fun hX=>?_;apply aj hJ;simp only[*,go_sem];revert h;refine aS hJ (fun fa h=>?_) fun fa h=>?_
  .cases h;apply bJ;simp only[go_sem];obtain rfl:=sI P;clear P;have h:=cl;dsimp only[ay] at h;simp only[*,go_sem];refine Qn.intro ⟨_,Le.sub (List.Sublist.refl _),d,e,g,h,rfl,f,?_⟩;simp only[*,go_sem]
  refine aI hJ (af hJ ?_);refine ax hJ fun hY=>?_;refine eT hJ mixed [13,14,15] (.pure 0 (.pure 1 (.pure 2 (.pure 3 (.pure 4 (.pure 5 (.pure 6 (.rd 7 (.pure 8 (.pure 9 (.pure 10 (.rd 11 (.pure 12 (.last 13 (.pure 14 (.last 15 .done)))))))))))))))) ⟨ro,[(b,Obj.cells d 3)]⟩ (by simp only[*,go_sem]) (by kernel_rfl) ?_;revert h;refine bS fun U fb h=>?_;obtain ⟨hZ,h0,h1,h2⟩:=f.cP fb;revert h;refine bS fun V fg h=>?_;obtain ⟨fi,fp,h3,h4⟩:=f.cP fg;have bo:=f.fZ fi fp U;revert h;refine bS fun h5 fr h=>?_;cases h;obtain ⟨fs,ft,h6,h7⟩:=bo.cP fr;have br:=bo.fZ fs ft V;simp only[*,go_sem];apply af hJ;obtain ⟨bs,W⟩:∃o,o=(cJ (cJ d (e).toNat [.int .i64 U]) (k).toNat [.int .i64 V]):=⟨_,rfl⟩
  refine cr (F:=⟨ro,[(b,Obj.cells bs 3)]⟩) hJ (by rw[W];exact Le.refl _) ?_;rw[<-W] at br;clear W;refine ax hJ fun h8=>?_;apply aj hJ;simp only[*,go_sem];refine ax hJ fun h9=>?_;apply aj hJ;simp only[*,go_sem];refine ⟨L,Nat.lt_succ_self _,_,Le.sub (List.Sublist.refl _),bs,(IntKind.i64.wrap (e+1)),(IntKind.i64.wrap (k - 1)),((g.set (e).toNat U).set (k).toNat V),P,rfl,br,?_⟩;simp only[*,go_sem]
 rintro ib F' ⟨H,I,K,bz,rfl,fv,ic,ih,ik,il,im⟩;obtain rfl:=sI bz;clear bz;have h:=cd;dsimp only[ay] at h;cases h;clear ad hd ae k1 al ao;apply af hJ;refine ax hJ fun iv=>?_;apply aj hJ;simp only[*,go_sem];apply aA;simp only[*,go_sem];exact ⟨_,fv,Le.sub (List.Sublist.refl _)⟩
def xh (u0:(List Int))(a:Int)(st:Int):Option (Fl Int (Bool×(List Int))):=
 cond (decide (st<a)) (ag (aT u0 st) fun b=>ag (aT u0 (IntKind.i64.wrap (st - 1))) fun c=>ag (iK b c) fun d=>cond (!d) (some (.nx (IntKind.i64.wrap (st+1)))) (some (.bk st))) (some (.bk st))
def xj (u0:(List Int))(b:Int)(a:Int)(st:(Bool×Int×Int)):Option (Fl (Bool×Int×Int) (Bool×(List Int))):=
 cond (decide (st.2.2<5)) (ag (ag (aQ (xh u0 a) fu st.2.1) fun o=>ay o (fun c=>some (.bk c)) (fun _ _=>none) (fun r=>some (.rt r)):Option (Fl Int (Bool×(List Int)))) fun o=>ay o (fun d=>cond ((d==a)) (some (.rt (true,u0))) (cond (decide ((IntKind.i64.wrap (a - b))<50)) (some (.rt (false,u0))) (none))) (fun _ _=>none) (fun r=>some (.rt r))) (some (.bk (st.1,st.2.1,st.2.2)))
def xk (u0:(List Int))(a:Int)(b:Int):Option (Bool×(List Int)):=
 cond (List.isEmpty u0) none (ag (ag (aQ (xj u0 a b) fu (false,(IntKind.i64.wrap (a+1)),0)) fun o=>ay o (fun c=>some (.bk c.1)) (fun _ _=>none) (fun r=>some (.rt r)):Option (Fl Bool (Bool×(List Int)))) fun o=>ay o (fun d=>some (false,u0)) (fun _ _=>none) (fun r=>some r))
theorem HQ {ro:Addr->Option Value}(u0:(List Int)){p:Value}{C:List (Nat×Obj)}(b:aO rI ro 3 p u0 C)(f:Int)(g:Int){r:(Bool×(List Int))}(h:xk u0 f g=some r):aE Tryz.prog 209 #[p,.int .i64 f,.int .i64 g] ⟨ro,C⟩ (fun v G=>∃D,(v= .bool r.1/\aO rI ro 3 p r.2 D)/\Le ⟨ro,D⟩ G):=by
 obtain ⟨d1,c2,rfl,a8⟩:=b.len;unfold xk at h;revert h;refine cS (fun E h=>?_) fun E h=>?_
 .cases h
 obtain ⟨c,k,rfl,rfl,a9⟩:=b.iH E;refine aE.go Tryz.func209 rfl Tryz.ntmps209 Tryz.results209 (by simp) fun main J hJ A H hd hs=>?_;have I:=hs 0;have k1:=hs 1;have K:=hs 2;clear hs;apply af hJ;refine ax hJ fun ba=>?_;apply aj hJ;simp only[*,go_sem];apply af hJ;refine ax hJ fun bb=>?_;apply aj hJ;simp only[*,go_sem];revert h;refine bS fun U h q=>?_;refine gv hJ (fun a F'=>∃(s:Bool),some (Fl.bk s:Fl Bool (Bool×(List Int)))=some U/\F'=⟨ro,[(c,Obj.cells k 3)]⟩/\sz a=133/\a.defers=[]/\slot a 0= .slice (some ⟨c,0,none⟩) u0.length c2/\slot a 6= .bool s) ?_ ?_
 .apply af hJ;refine ax hJ fun bc=>?_;apply aj hJ;simp only[*,go_sem];apply aN hJ;revert h;refine bS fun V l t=>?_;refine bQ hJ (rg 13 120 [6,7,8,9,10]) (fun m a F'=>∃(i:Bool) (n:Int) (v20:Int),aQ (xj u0 f g) m (i,n,v20)=some V/\F'=⟨ro,[(c,Obj.cells k 3)]⟩/\slot a 6= .bool i/\slot a 7= .int .i64 n/\slot a 8= .int .i64 v20) fu ?_ ?_
  .refine ⟨false,(IntKind.i64.wrap (f+1)),0,l,rfl,?_⟩;simp only[*,go_sem]
  rintro L M F' N ⟨i,n,v20,l,rfl,O,P,Q⟩;obtain ⟨u,w,x⟩:=N.pick [0,1,2] (by decide);simp only[*,go_sem] at u w x;clear N H hd I k1 K;obtain _|L:=L
  .exact absurd l (by simp only[aQ,reduceCtorEq,not_false_eq_true])
  revert l;refine bS fun bd h d=>?_;unfold xj at h;try dsimp only at h
  refine af hJ (af hJ ?_);refine ax hJ fun bj=>?_;apply aj hJ;simp only[*,go_sem];revert h;refine aS hJ (fun W h=>?_) fun W h=>?_
  .refine aI hJ (af hJ ?_);apply aN hJ;revert h;refine bS fun X h Y=>?_;refine gv hJ (fun a F'=>∃(y:Int),some (Fl.bk y:Fl Int (Bool×(List Int)))=some X/\F'=⟨ro,[(c,Obj.cells k 3)]⟩/\sz a=133/\a.defers=[]/\cF (rg 13 120 [6,7,8,9,10]) a M/\slot a 0= .slice (some ⟨c,0,none⟩) u0.length c2/\slot a 1= .int .i64 f/\slot a 2= .int .i64 g/\slot a 6= .bool i/\slot a 7= .int .i64 y/\slot a 8= .int .i64 v20) ?_ ?_
   .apply aN hJ;revert h;refine bS fun Z o R=>?_;refine bQ hJ (rg 17 18 [7]) (fun m a F'=>∃(e:Int),aQ (xh u0 g) m e=some Z/\F'=⟨ro,[(c,Obj.cells k 3)]⟩/\slot a 7= .int .i64 e) fu ?_ ?_
    .refine ⟨n,o,rfl,?_⟩;simp only[*,go_sem]
    rintro z ab F' B ⟨e,o,rfl,bl⟩;obtain ⟨ad,ae,al⟩:=B.pick [0,1,2,6,8,13,14] (by decide);simp only[*,go_sem] at ad ae al;have bm:cF (rg 13 120 [6,7,8,9,10]) ab M:=(B.fM (by decide)).trans (by simp only[*,go_sem]);clear B u w x O P Q;obtain _|z:=z
    .exact absurd o (by simp only[aQ,reduceCtorEq,not_false_eq_true])
    revert o;refine bS fun bo h j=>?_;unfold xh at h;(try dsimp only at h);refine af hJ (af hJ ?_);refine ax hJ fun br=>?_;refine cE hJ mixed 16 1 (by simp only[*,go_sem]) (by kernel_rfl) ?_;revert h;refine cS (fun ao h=>?_) fun ao h=>?_
    .revert h;refine bS fun ar a0 h=>?_;obtain ⟨bs,bz,b0,b1⟩:=b.cP a0;revert h;refine bS fun a2 a3 h=>?_;obtain ⟨b2,b3,b4,b5⟩:=b.cP a3;revert h;refine bS fun ca a4 h=>?_;simp only[*,go_sem];refine ⟨_,bE hJ fun F cb=>jP ar a2 a4,cc ?_⟩;simp only[*,go_sem];revert h;refine aS hJ (fun a5 h=>?_) fun a5 h=>?_
     .cases h;refine aI hJ (aN hJ ?_);refine ax hJ fun cd=>?_;apply aj hJ;simp only[*,go_sem];refine ⟨z,Nat.lt_succ_self _,_,Le.sub (List.Sublist.refl _),(IntKind.i64.wrap (e+1)),j,rfl,?_⟩;simp only[*,go_sem]
     cases h;apply bJ;simp only[go_sem];obtain rfl:=sI j;clear j;have h:=R;dsimp only[ay] at h;simp only[*,go_sem];refine Qn.intro ⟨_,Le.sub (List.Sublist.refl _),e,h,rfl,?_⟩;simp only[*,go_sem]
    cases h;simp only[*,go_sem];refine bT hJ ?_;apply bJ;simp only[go_sem];obtain rfl:=sI j;clear j;have h:=R;dsimp only[ay] at h;refine Qn.intro ⟨_,Le.sub (List.Sublist.refl _),e,h,rfl,?_⟩;simp only[*,go_sem]
   rintro cf F' ⟨y,S,rfl,cl,cy,c0,da,db,dd,df,dk,dp⟩;obtain rfl:=sI S;clear S;have h:=Y;dsimp only[ay] at h;clear u w x O P Q;refine af hJ (af hJ ?_);refine ax hJ fun dq=>?_;apply aj hJ;simp only[*,go_sem];revert h;refine aS hJ (fun a6 h=>?_) fun a6 h=>?_
   .cases h;apply af hJ;refine ax hJ fun ds=>?_;apply aj hJ;simp only[*,go_sem];obtain rfl:=sI d;clear d;have h:=t;dsimp only[ay] at h;cases h;have h:=q;dsimp only[ay] at h;cases h;apply aA;simp only[*,go_sem];exact ⟨_,b,Le.sub (List.Sublist.refl _)⟩
   refine aI hJ (af hJ ?_);apply af hJ;refine ax hJ fun dt=>?_;apply aj hJ;simp only[*,go_sem];revert h;refine aS hJ (fun a7 h=>?_) fun a7 h=>?_
   .cases h;apply af hJ;refine ax hJ fun du=>?_;apply aj hJ;simp only[*,go_sem];obtain rfl:=sI d;clear d;have h:=t;dsimp only[ay] at h;cases h;have h:=q;dsimp only[ay] at h;cases h;apply aA;simp only[*,go_sem];exact ⟨_,b,Le.sub (List.Sublist.refl _)⟩
   cases h
  cases h;apply bJ;simp only[go_sem];obtain rfl:=sI d;clear d;have h:=t;dsimp only[ay] at h;simp only[*,go_sem];refine Qn.intro ⟨_,Le.sub (List.Sublist.refl _),i,h,rfl,?_⟩;simp only[*,go_sem]
 rintro dv F' ⟨s,T,rfl,dC,dE,dT,ea⟩;obtain rfl:=sI T;clear T;have h:=q;dsimp only[ay] at h;cases h;clear H hd I k1 K;apply af hJ;refine ax hJ fun eb=>?_;apply aj hJ;simp only[*,go_sem];apply aA;simp only[*,go_sem];exact ⟨_,b,Le.sub (List.Sublist.refl _)⟩
def xl (st:(Int×Int×Int×Bool×Bool×(List Int))):Option (Fl (Int×Int×Int×Bool×Bool×(List Int)) (Unit×(List Int))):=
 cond (decide ((IntKind.i64.wrap (st.2.1 - st.1))<=12)) (ag (tw st.2.2.2.2.2 st.1 st.2.1) fun j=>some (.rt ((),j.2))) (cond ((st.2.2.1==0)) (none) (ag (cond (!st.2.2.2.1) (ag (wY st.2.2.2.2.2 st.1 st.2.1) fun k=>some (.bk ((IntKind.i64.wrap (st.2.2.1 - 1)),k.2))) (some (.bk (st.2.2.1,st.2.2.2.2.2))):Option (Fl (Int×(List Int)) (Unit×(List Int)))) fun o=>ay o (fun c=>ag (wU c.2 st.1 st.2.1) fun b=>cond ((b.1.2==2)) (none) (ag (cond (st.2.2.2.1) (cond (st.2.2.2.2.1) (cond ((b.1.2==1)) (ag (xk b.2 st.1 st.2.1) fun f=>cond (f.1) (some (.rt ((),f.2))) (some (.bk f.2))) (some (.bk b.2))) (some (.bk b.2))) (some (.bk b.2)):Option (Fl (List Int) (Unit×(List Int)))) fun o=>ay o (fun e=>ag (cond (decide (0<st.1)) (ag (aT e (IntKind.i64.wrap (st.1 - 1))) fun l=>ag (aT e b.1.1) fun m=>ag (iK l m) fun n=>cond (!n) (ag (xg e st.1 st.2.1 b.1.1) fun g=>some (.br 1 (g.1,g.2))) (some (.bk (st.1,e)))) (some (.bk (st.1,e))):Option (Fl (Int×(List Int)) (Unit×(List Int)))) fun o=>ay o (fun d=>ag (w9 d.2 d.1 st.2.1 b.1.1) fun a=>ag (fN (IntKind.i64.wrap (st.2.1 - st.1)) 8) fun h=>cond (decide ((IntKind.i64.wrap (a.1.1 - d.1))<(IntKind.i64.wrap (st.2.1 - a.1.1)))) (ag (tA a.2 d.1 a.1.1 c.1) fun p=>some (.nx ((IntKind.i64.wrap (a.1.1+1)),st.2.1,c.1,(decide (h<=(IntKind.i64.wrap (a.1.1 - d.1)))),a.1.2,p.2))) (ag (tA a.2 (IntKind.i64.wrap (a.1.1+1)) st.2.1 c.1) fun q=>some (.nx (d.1,a.1.1,c.1,(decide (h<=(IntKind.i64.wrap (st.2.1 - a.1.1)))),a.1.2,q.2)))) (fun _ i=>some (.nx (i.1,st.2.1,c.1,st.2.2.2.1,st.2.2.2.2.1,i.2))) (fun r=>some (.rt r))) (fun _ _=>none) (fun r=>some (.rt r)))) (fun _ _=>none) (fun r=>some (.rt r))))
def xm (u0:(List Int))(a:Int)(b:Int)(c:Int):Option (Unit×(List Int)):=
 cond (List.isEmpty u0) none (ag (aQ (xl) fu (a,b,c,true,true,u0)) fun o=>ay o (fun d=>some ((),d.2.2.2.2.2)) (fun _ _=>none) (fun r=>some r))
theorem HR {ro:Addr->Option Value}(u0:(List Int)){H:Value}{T:List (Nat×Obj)}(I:aO rI ro 3 H u0 T)(K:Int)(L:Int)(M:Int){r:(Unit×(List Int))}(h:xm u0 K L M=some r):aE Tryz.prog 189 #[H,.int .i64 K,.int .i64 L,.int .i64 M] ⟨ro,T⟩ (fun v G=>∃d,(v= .tuple #[]/\aO rI ro 3 H r.2 d)/\Le ⟨ro,d⟩ G):=by
 obtain ⟨d1,c2,rfl,gM⟩:=I.len;unfold xm at h;revert h;refine cS (fun U h=>?_) fun U h=>?_
 .cases h
 obtain ⟨b,bd,rfl,rfl,gN⟩:=I.iH U;refine aE.go Tryz.func189 rfl Tryz.ntmps189 Tryz.results189 (by simp) fun main J hJ A bj hd hs=>?_;have bl:=hs 0;have k1:=hs 1;have bm:=hs 2;have bo:=hs 3;clear hs;apply af hJ;refine ax hJ fun gT=>?_;apply aj hJ;simp only[*,go_sem];apply af hJ;refine ax hJ fun gV=>?_;apply aj hJ;simp only[*,go_sem];apply aN hJ;revert h;refine bS fun br z V=>?_;refine bQ hJ (rg 8 126 [1,2,3]) (fun m a F'=>∃(B:Array Value) (e:Int) (c:Int) (t:Int) (l:Bool) (n:Bool) (q:(List Int)),aQ (xl) m (e,c,t,l,n,q)=some br/\F'=⟨ro,[(b,Obj.cells B 3)]⟩/\aO rI ro 3 (.slice (some ⟨b,0,none⟩) u0.length c2) q [(b,Obj.cells B 3)]/\slot a 1= .int .i64 e/\slot a 2= .int .i64 c/\slot a 3= .int .i64 t/\slot a 8= .bool l/\slot a 9= .bool n) fu ?_ ?_
 .refine ⟨bd,K,L,M,true,true,u0,z,rfl,I,?_⟩;simp only[*,go_sem]
 rintro u N F' W ⟨B,e,c,t,l,n,q,z,rfl,O,bs,bz,b0,b1,b2⟩;obtain ⟨X,Y,Z⟩:=W.pick [0] (by decide);simp only[*,go_sem] at X Y Z;clear W bj hd bl k1 bm bo;obtain _|u:=u
 .exact absurd z (by simp only[aQ,reduceCtorEq,not_false_eq_true])
 revert z;refine bS fun g0 h o=>?_;unfold xl at h;try dsimp only at h
 refine aN hJ (af hJ ?_);refine ax hJ fun g1=>?_;apply aj hJ;simp only[*,go_sem];refine af hJ (af hJ ?_);refine ax hJ fun g2=>?_;apply aj hJ;simp only[*,go_sem];revert h;refine aS hJ (fun b3 h=>?_) fun b3 h=>?_
 .apply af hJ;refine ax hJ fun g3=>?_;apply aj hJ;revert h;refine bS fun g4 b4 h=>?_;cases h;simp only[*,go_sem];refine dQ hJ [] [] _ (Bu q O e c b4) (fun ha hc f d g hf=>?_);obtain ⟨rfl,ab⟩:=f;obtain ⟨b5,rfl⟩:=ab.gQ;simp only[aV] at g;subst d;refine ⟨⟨ro,[(b,Obj.cells b5 3)]⟩,Le.refl _,?_⟩;obtain rfl:=sI o;clear o;have h:=V;dsimp only[ay] at h;cases h;apply aA;simp only[*,go_sem];exact ⟨_,ab,Le.sub (List.Sublist.refl _)⟩
 refine aI hJ (af hJ ?_);apply af hJ;refine ax hJ fun hg=>?_;apply aj hJ;simp only[*,go_sem];revert h;refine aS hJ (fun ca h=>?_) fun ca h=>?_
 .cases h
 apply aI hJ;revert h;refine bS fun cb h cd=>?_;refine gv hJ (fun a F'=>∃(P:Array Value) (i:Int) (C:(List Int)),some (Fl.bk (i,C):Fl (Int×(List Int)) (Unit×(List Int)))=some cb/\F'=⟨ro,[(b,Obj.cells P 3)]⟩/\aO rI ro 3 (.slice (some ⟨b,0,none⟩) u0.length c2) C [(b,Obj.cells P 3)]/\sz a=134/\a.defers=[]/\cF (rg 8 126 [1,2,3]) a N/\slot a 0= .slice (some ⟨b,0,none⟩) u0.length c2/\slot a 1= .int .i64 e/\slot a 2= .int .i64 c/\slot a 3= .int .i64 i/\slot a 8= .bool l/\slot a 9= .bool n/\slot a 10= .int .i64 (IntKind.i64.wrap (c - e))) ?_ ?_
 .apply af hJ;refine ax hJ fun hh=>?_;apply aj hJ;simp only[*,go_sem];revert h;refine aS hJ (fun cf h=>?_) fun cf h=>?_
  .apply af hJ;refine ax hJ fun hi=>?_;apply aj hJ;revert h;refine bS fun cl cy h=>?_;simp only[*,go_sem];refine dQ hJ [] [] _ (HN q O e c cy) (fun hj hk f d g hl=>?_);obtain ⟨rfl,ad⟩:=f;obtain ⟨ae,rfl⟩:=ad.gQ;simp only[aV] at g;subst d;refine ⟨⟨ro,[(b,Obj.cells ae 3)]⟩,Le.refl _,?_⟩;refine ax hJ fun hn=>?_;apply aj hJ;simp only[*,go_sem];refine Qn.intro ⟨_,Le.sub (List.Sublist.refl _),ae,(IntKind.i64.wrap (t - 1)),cl.2,h,rfl,ad,?_⟩;simp only[*,go_sem]
  apply aI hJ;simp only[*,go_sem];refine Qn.intro ⟨_,Le.sub (List.Sublist.refl _),B,t,q,h,rfl,O,?_⟩;simp only[*,go_sem]
 rintro ho F' ⟨P,i,C,al,rfl,c0,da,db,hp,dd,df,dk,dp,dq,ds,dt⟩;obtain rfl:=sI al;clear al;have h:=cd;dsimp only[ay] at h;clear X Y Z bs bz b0 b1 b2;apply af hJ;refine ax hJ fun hq=>?_;apply aj hJ;revert h;refine bS fun k du h=>?_;simp only[*,go_sem];refine dQ hJ [] [] _ (HE C c0 e c du) (fun hr ht f d g hv=>?_);obtain ⟨rfl,w⟩:=f;obtain ⟨D,rfl⟩:=w.gQ;simp only[aV] at g;subst d;refine ⟨⟨ro,[(b,Obj.cells D 3)]⟩,Le.refl _,?_⟩;apply aK;simp only[*,go_sem];refine af hJ (af hJ ?_);refine ax hJ fun hx=>?_;apply aj hJ;simp only[*,go_sem];revert h;refine aS hJ (fun dv h=>?_) fun dv h=>?_
 .cases h
 apply aI hJ;revert h;refine bS fun dC h ao=>?_;refine gv hJ (fun a F'=>∃(x:Array Value) (s:(List Int)),some (Fl.bk s:Fl (List Int) (Unit×(List Int)))=some dC/\F'=⟨ro,[(b,Obj.cells x 3)]⟩/\aO rI ro 3 (.slice (some ⟨b,0,none⟩) u0.length c2) s [(b,Obj.cells x 3)]/\sz a=134/\a.defers=[]/\cF (rg 8 126 [1,2,3]) a N/\slot a 0= .slice (some ⟨b,0,none⟩) u0.length c2/\slot a 1= .int .i64 e/\slot a 2= .int .i64 c/\slot a 3= .int .i64 i/\slot a 8= .bool l/\slot a 9= .bool n/\slot a 10= .int .i64 (IntKind.i64.wrap (c - e))/\slot a 11= .int .i64 k.1.1) ?_ ?_
 .apply af hJ;refine ax hJ fun hy=>?_;apply aj hJ;revert h;refine cS (fun dE h=>?_) fun dE h=>?_
  .revert h;refine cS (fun dT h=>?_) fun dT h=>?_
   .simp only[*,go_sem];revert h;refine aS hJ (fun ea h=>?_) fun ea h=>?_
    .apply af hJ;refine ax hJ fun hz=>?_;apply aj hJ;revert h;refine bS fun eb ec h=>?_;simp only[*,go_sem];refine dQ hJ [] [] _ (HQ k.2 w e c ec) (fun hA hB f d g hD=>?_);obtain ⟨rfl,Q⟩:=f;obtain ⟨ar,rfl⟩:=Q.gQ;simp only[aV] at g;subst d;refine ⟨⟨ro,[(b,Obj.cells ar 3)]⟩,Le.refl _,?_⟩;revert h;refine aS hJ (fun ed h=>?_) fun ed h=>?_
     .cases h;have h:=ao;dsimp only[ay] at h;cases h;obtain rfl:=sI o;clear o;have h:=V;dsimp only[ay] at h;cases h;apply aA;simp only[*,go_sem];exact ⟨_,Q,Le.sub (List.Sublist.refl _)⟩
     apply aI hJ;simp only[*,go_sem];refine Qn.intro ⟨_,Le.sub (List.Sublist.refl _),ar,eb.2,h,rfl,Q,?_⟩;simp only[*,go_sem]
    apply aI hJ;simp only[*,go_sem];refine Qn.intro ⟨_,Le.sub (List.Sublist.refl _),D,k.2,h,rfl,w,?_⟩;simp only[*,go_sem]
   simp only[*,go_sem];refine bT hJ ?_;apply aI hJ;refine Qn.intro ⟨_,Le.sub (List.Sublist.refl _),D,k.2,h,rfl,w,?_⟩;simp only[*,go_sem]
  simp only[*,go_sem];refine bT hJ ?_;apply aI hJ;refine Qn.intro ⟨_,Le.sub (List.Sublist.refl _),D,k.2,h,rfl,w,?_⟩;simp only[*,go_sem]
 rintro hE F' ⟨x,s,a0,rfl,y,eh,et,hF,ev,eQ,eS,e0,e1,e2,e3,fa⟩;obtain rfl:=sI a0;clear a0;have h:=ao;dsimp only[ay] at h;clear da db dd df dk dp dq ds dt;revert h;refine bS fun fb h a2=>?_;refine gv hJ (fun a F'=>∃(R:Array Value) (p:Int) (E:(List Int)),some (Fl.bk (p,E):Fl (Int×(List Int)) (Unit×(List Int)))=some fb/\F'=⟨ro,[(b,Obj.cells R 3)]⟩/\aO rI ro 3 (.slice (some ⟨b,0,none⟩) u0.length c2) E [(b,Obj.cells R 3)]/\sz a=134/\a.defers=[]/\cF (rg 8 126 [1,2,3]) a N/\slot a 0= .slice (some ⟨b,0,none⟩) u0.length c2/\slot a 1= .int .i64 p/\slot a 2= .int .i64 c/\slot a 3= .int .i64 i/\slot a 8= .bool l/\slot a 9= .bool n/\slot a 10= .int .i64 (IntKind.i64.wrap (c - e))/\slot a 11= .int .i64 k.1.1) ?_ ?_
 .apply af hJ;refine ax hJ fun hG=>?_;refine cE hJ mixed 15 1 (by simp only[*,go_sem]) (by kernel_rfl) ?_;revert h;refine cS (fun fg h=>?_) fun fg h=>?_
  .revert h;refine bS fun fi fp h=>?_;obtain ⟨hI,hK,hL,hM⟩:=y.cP fp;revert h;refine bS fun fr fs h=>?_;obtain ⟨hN,hP,hQ,hR⟩:=y.cP fs;revert h;refine bS fun hS ft h=>?_;simp only[*,go_sem];refine ⟨_,bE hJ fun F hT=>jP fi fr ft,cc ?_⟩;simp only[*,go_sem];revert h;refine aS hJ (fun fv h=>?_) fun fv h=>?_
   .apply af hJ;refine ax hJ fun hV=>?_;apply aj hJ;revert h;refine bS fun a3 fw h=>?_;cases h;simp only[*,go_sem];refine dQ hJ [] [] _ (HP s y e c k.1.1 fw) (fun hX hY f d g hZ=>?_);obtain ⟨rfl,a4⟩:=f;obtain ⟨a5,rfl⟩:=a4.gQ;simp only[aV] at g;subst d;refine ⟨⟨ro,[(b,Obj.cells a5 3)]⟩,Le.refl _,?_⟩;apply aK;simp only[*,go_sem];apply af hJ;refine ax hJ fun h0=>?_;apply aj hJ;simp only[*,go_sem];apply bJ;simp only[go_sem];have h:=a2;dsimp only[ay] at h;cases h;simp only[*,go_sem];refine ⟨u,Nat.lt_succ_self _,_,Le.sub (List.Sublist.refl _),a5,a3.1,c,i,l,n,a3.2,o,rfl,a4,?_⟩;simp only[*,go_sem]
   apply aI hJ;simp only[*,go_sem];refine Qn.intro ⟨_,Le.sub (List.Sublist.refl _),x,e,s,h,rfl,y,?_⟩;simp only[*,go_sem]
  simp only[*,go_sem];refine bT hJ ?_;apply aI hJ;refine Qn.intro ⟨_,Le.sub (List.Sublist.refl _),x,e,s,h,rfl,y,?_⟩;simp only[*,go_sem]
 rintro h1 F' ⟨R,p,E,a6,rfl,fx,h2,h3,h4,h5,h6,h7,h8,h9,ib,ic,ih⟩;obtain rfl:=sI a6;clear a6;have h:=a2;dsimp only[ay] at h;clear eh et ev eQ eS e0 e1 e2 e3 fa;apply af hJ;refine ax hJ fun ik=>?_;apply aj hJ;revert h;refine bS fun j fz h=>?_;simp only[*,go_sem];refine dQ hJ [] [] _ (HO E fx p c k.1.1 fz) (fun il im f d g iv=>?_);obtain ⟨rfl,S⟩:=f;obtain ⟨gg,rfl⟩:=S.gQ;simp only[aV] at g;subst d;refine ⟨⟨ro,[(b,Obj.cells gg 3)]⟩,Le.refl _,?_⟩;apply aK;simp only[*,go_sem];apply af hJ;refine ax hJ fun ix=>?_;apply aj hJ;simp only[*,go_sem];apply af hJ;refine ax hJ fun jC=>?_;apply aj hJ;simp only[*,go_sem];apply af hJ;refine ax hJ fun j1=>?_;apply aj hJ;revert h;refine bS fun a7 a8 h=>?_;obtain ⟨j2,kh⟩:=j9 a8;clear a8;simp only[*,go_sem];apply af hJ;refine ax hJ fun kj=>?_;apply aj hJ;simp only[*,go_sem];revert h;refine aS hJ (fun gl h=>?_) fun gl h=>?_
 .apply af hJ;refine ax hJ fun kk=>?_;apply aj hJ;simp only[*,go_sem];apply af hJ;refine ax hJ fun kl=>?_;apply aj hJ;revert h;refine bS fun gn gp h=>?_;cases h;simp only[*,go_sem];refine dQ hJ [] [] _ (Bv j.2 S p j.1.1 i gp) (fun km kn f d g kp=>?_);obtain ⟨rfl,a9⟩:=f;obtain ⟨ba,rfl⟩:=a9.gQ;simp only[aV] at g;subst d;refine ⟨⟨ro,[(b,Obj.cells ba 3)]⟩,Le.refl _,?_⟩;refine ax hJ fun ks=>?_;apply aj hJ;simp only[*,go_sem];refine ⟨u,Nat.lt_succ_self _,_,Le.sub (List.Sublist.refl _),ba,(IntKind.i64.wrap (j.1.1+1)),c,i,(decide (a7<=(IntKind.i64.wrap (j.1.1 - p)))),j.1.2,gn.2,o,rfl,a9,?_⟩;simp only[*,go_sem]
 apply af hJ;refine ax hJ fun kt=>?_;apply aj hJ;simp only[*,go_sem];apply af hJ;refine ax hJ fun kv=>?_;apply aj hJ;revert h;refine bS fun gB gC h=>?_;cases h;simp only[*,go_sem];refine dQ hJ [] [] _ (Bv j.2 S (IntKind.i64.wrap (j.1.1+1)) c i gC) (fun kx ky f d g k0=>?_);obtain ⟨rfl,bb⟩:=f;obtain ⟨bc,rfl⟩:=bb.gQ;simp only[aV] at g;subst d;refine ⟨⟨ro,[(b,Obj.cells bc 3)]⟩,Le.refl _,?_⟩;refine ax hJ fun k2=>?_;apply aj hJ;simp only[*,go_sem];refine ⟨u,Nat.lt_succ_self _,_,Le.sub (List.Sublist.refl _),bc,p,j.1.1,i,(decide (a7<=(IntKind.i64.wrap (c - j.1.1)))),j.1.2,gB.2,o,rfl,bb,?_⟩;simp only[*,go_sem]
def qK (u0:(List Int)):Option (Unit×(List Int)):=
 cond (List.isEmpty u0) none (ag (tB (IntKind.u64.wrap (u0.length:Int))) fun a=>ag (xm u0 0 (u0.length:Int) a) fun b=>some ((),b.2))
theorem HS {ro:Addr->Option Value}(u0:(List Int)){b:Value}{d:List (Nat×Obj)}(c:aO rI ro 3 b u0 d){r:(Unit×(List Int))}(h:qK u0=some r):aE Tryz.prog 159 #[b] ⟨ro,d⟩ (fun v G=>∃a,(v= .tuple #[]/\aO rI ro 3 b r.2 a)/\Le ⟨ro,a⟩ G):=by
 obtain ⟨d1,c2,rfl,o⟩:=c.len;unfold qK at h;revert h;refine cS (fun e h=>?_) fun e h=>?_
 .cases h
 obtain ⟨g,p,rfl,rfl,q⟩:=c.iH e;refine aE.go Tryz.func159 rfl Tryz.ntmps159 Tryz.results159 (by simp) fun main J hJ A s hd hs=>?_;have t:=hs 0;clear hs;apply af hJ;refine ax hJ fun u=>?_;apply aj hJ;simp only[*,go_sem,-h];refine ax hJ fun w=>?_;apply aj hJ;revert h;refine bS fun i j h=>?_;simp only[*,go_sem,-h];refine bn hJ _ (Bw (IntKind.u64.wrap (u0.length:Int)) j) (aK ?_);revert h;refine bS fun x k h=>?_;simp only[*,go_sem,-h];refine dQ hJ [] [] _ (HR u0 c 0 (u0.length:Int) i k) (fun y z l a m B=>?_);obtain ⟨rfl,f⟩:=l;obtain ⟨n,rfl⟩:=f.gQ;simp only[aV] at m;subst a;refine ⟨⟨ro,[(g,Obj.cells n 3)]⟩,Le.refl _,?_⟩;cases h;simp only[*,go_sem];exact ⟨_,f,Le.sub (List.Sublist.refl _)⟩
def jQ (x:List Int)(j:Nat):Bool:=j==0||x.getD j 0 != x.getD (j - 1) 0
def gw (x:List Int):Nat->List Int
 |0=>[]
 |n+1=>gw x n++cond (jQ x n) [x.getD n 0] []
theorem tC (x:List Int):∀n,n<=x.length->(∀j,j<n->jQ x j=true)->gw x n=x.take n
 |0,_,_=>by simp[gw]
 |n+1,b,h=>by
  unfold gw
  rw[tC x n (by omega) (fun j c=>h j (by omega)),h n (by omega),List.take_succ]
  congr 1
  have a:n<x.length:=by omega
  simp[a]
theorem Bx (x:List Int){j:Nat}(h:j<1):jQ x j=true:=by
 obtain rfl:j=0:=by omega
 rfl
def tD (u0:List Int):Option (List Int):=cond (List.isEmpty u0) none (some (gw u0 u0.length))
theorem HT {ro:Addr->Option Value}(u0:List Int){Q:Value}{aW:List (Nat×Obj)}(hg:aO rI ro 3 Q u0 aW){r:List Int}(h:tD u0=some r):
  aE Tryz.prog 160 #[Q] ⟨ro,aW⟩ (fun v G=>∃R,aO rI ro 3 v r R/\Le ⟨ro,R⟩ G):=by
 obtain ⟨ad,cap,rfl,le⟩:=hg.len
 unfold tD at h
 have h':=jd h;clear h;rcases h' with ⟨S,h⟩|⟨S,h⟩
 .cases h
 obtain ⟨b,F,rfl,rfl,cf⟩:=hg.iH S
 cases h
 have cl:u0.length<=1000000:=by obtain ⟨_,_,_,h,_⟩:=hg;exact h
 have cy:Tryz.prog.underlying 3=some (.int .i64):=by kernel_rfl
 refine aE.go Tryz.func160 rfl Tryz.ntmps160 Tryz.results160 (by simp) fun main J hJ A a8 hd hs=>?_
 have a9:=hs 0
 clear hs
 repeat refine af hJ ?_
 refine aj hJ ?_
 simp only[*,go_sem]
 repeat refine af hJ ?_
 refine aj hJ ?_
 simp only[*,go_sem]
 repeat refine af hJ ?_
 by_cases cS:u0.length<2
 .refine dW hJ (by simp only[*,go_sem];simp;omega) ?_
  repeat refine af hJ ?_
  refine aj hJ ?_
  simp only[*,go_sem]
  refine aA ?_
  simp only[*,go_sem]
  have e:gw u0 u0.length=u0:=by
   rw[tC u0 _ (Nat.le_refl _) (fun j c=>Bx u0 (by omega)),List.take_length]
  rw[e]
  exact ⟨_,hg,Le.refl _⟩
 refine dO hJ (by simp only[*,go_sem];simp;omega) ?_
 refine aI hJ ?_
 repeat refine af hJ ?_
 refine aj hJ ?_
 simp only[*,go_sem]
 repeat refine af hJ ?_
 refine aN hJ ?_
 refine bQ hJ [3,4,5,10,11,12,13,14,15,16,17,18,19,20,21,22,23,24,25,26,27,28,29,30,31,32,33,34,35,36,37,38,39,40,41,42,43,44,45,46,47,48,49,50,51,52,53,54,55,56,57,58,59] (fun m u F'=>∃k:Nat,1<=k/\k<=u0.length/\u0.length - k<=m/\F'=⟨ro,[(b,Obj.cells F 3)]⟩/\slot u 3= .int .i64 (k:Int)/\∀j,j<k->jQ u0 j=true) u0.length ?_ ?_
 .refine ⟨1,Nat.le_refl _,by omega,by omega,rfl,?_,fun j c=>Bx u0 c⟩
  simp only[*,go_sem]
  rfl
 .rintro ba g F' B ⟨k,c0,T,da,rfl,bb,H⟩
  have bc:sz g=61:=by rw[B.size];simp only[*,go_sem]
  have bd:g.defers=[]:=by rw[B.defers];simp only[*,go_sem]
  have bj:slot g 0= .slice (some ⟨b,0,none⟩) u0.length cap:=by rw[B.dz 0 (by decide)];simp only[*,go_sem]
  clear B a8 hd a9
  repeat refine af hJ ?_
  repeat refine af hJ ?_
  refine aj hJ ?_
  simp only[*,go_sem]
  by_cases U:k<u0.length
  .have hb:decide (((k:Nat):Int)<(u0.length:Int))=true:=decide_eq_true (by omega)
   refine dW hJ (by simp only[*,go_sem]) ?_
   refine aI hJ ?_
   repeat refine af hJ ?_
   refine aN hJ ?_
   repeat refine af hJ ?_
   obtain ⟨p,rfl⟩:∃p,k=p+1:=⟨k - 1,by omega⟩
   have hw:IntKind.i64.wrap (((p+1:Nat):Int) - 1)=(p:Int):=by rw[IntWalk.i64_in _ ⟨by omega,by omega⟩];omega
   refine fC hJ mixed 9 ⟨ro,[(b,Obj.cells F 3)]⟩ (by simp only[*,go_sem]) (by kernel_rfl) ?_
   obtain ⟨l,V⟩:∃x,u0[p+1]?=some x:=⟨u0[p+1],by simp[U]⟩
   obtain ⟨I,K,L⟩:=hg.je V
   obtain rfl:I=[.int .i64 l]:=K
   have W:=L 0 _ rfl
   simp only[go_sem] at W
   have db:=(Array.getElem?_eq_some_iff.1 W).1
   obtain ⟨o,X⟩:∃x,u0[p]?=some x:=⟨u0[p],by simp[Nat.lt_of_succ_lt U]⟩
   obtain ⟨M,N,O⟩:=hg.je X
   obtain rfl:M=[.int .i64 o]:=N
   have Y:=O 0 _ rfl
   simp only[go_sem] at Y
   have dd:=(Array.getElem?_eq_some_iff.1 Y).1
   have df:¬((p+1:Nat):Int)<0:=by omega
   have b2:((p+1:Nat):Int)<(u0.length:Int):=by omega
   have b3:¬(p:Int)<0:=by omega
   have b4:(p:Int)<(u0.length:Int):=by omega
   have b5:(0:Int)<=((p+1:Nat):Int):=by omega
   have dk:(0:Int)<=(p:Int):=by omega
   simp only[*,go_sem]
   have bk:u0.getD (p+1) 0=l:=by rw[List.getD_eq_getElem?_getD,V];rfl
   have bl:u0.getD p 0=o:=by rw[List.getD_eq_getElem?_getD,X];rfl
   have Z:jQ u0 (p+1)=(l != o):=by unfold jQ;rw[bk,Nat.add_sub_cancel,bl];simp
   clear L O
   by_cases P:l=o
   .subst P
    refine dW hJ (by simp only[*,go_sem,beq_self_eq_true]) ?_
    repeat refine af hJ ?_
    refine aj hJ ?_
    have dp:p+1<=u0.length:=T
    have dq:p+1<=cap:=by omega
    have ds:((p+1:Nat):Int)<=(u0.length:Int):=by omega
    have dt:u0.length<=cap:=le
    have du:¬cap=p+1:=by omega
    simp only[*,go_sem]
    have bm:slot g 4=slot g 4:=rfl
    repeat refine af hJ ?_
    refine aj hJ ?_
    simp only[*,go_sem]
    repeat refine af hJ ?_
    refine aN hJ ?_
    have e0:gw u0 (p+2)=u0.take (p+1):=by
     show gw u0 (p+1)++cond (jQ u0 (p+1)) _ _=_
     rw[Z,tC u0 _ T H];simp
    refine bQ hJ [3,5,29,30,31,32,33,34,35,36,37,38,39,40,41,42,43,44,45,46,47,48,49,50,51,52,53] (fun bo u F'=>∃(m w:Nat) (arr:Array Value) (x:List Int),1<=m/\m<=u0.length - (p+1)/\u0.length - (p+1) - m<=bo/\F'=⟨ro,[(b,Obj.cells arr 3)]⟩/\slot u 5= .int .i64 (m:Int)/\slot u 3= .int .i64 (w:Int)/\
     aO rI ro 3 (.slice (some ⟨b,0,none⟩) u0.length cap) x [(b,.cells arr 3)]/\x.length=u0.length/\(gw u0 (p+(1+m))).length=w/\w<=p+m/\x.take w=gw u0 (p+(1+m))/\∀j,p+m<=j->x[j]?=u0[j]?) u0.length ?_ ?_
    .refine ⟨1,p+1,F,u0,Nat.le_refl _,by omega,by omega,rfl,?_,?_,hg,rfl,?_,Nat.le_refl _,e0.symm,fun _ _=>rfl⟩
     .simp only[*,go_sem];rfl
     .simp only[*,go_sem]
     .show (gw u0 (p+2)).length=p+1
      rw[e0,List.length_take];omega
    .rintro ab C F' s ⟨m,w,arr,x,L,O,dv,rfl,dC,dE,d,ae,t,dT,D,E⟩
     have ea:sz C=61:=by rw[s.size];simp only[*,go_sem]
     have eb:C.defers=[]:=by rw[s.defers];simp only[*,go_sem]
     have ec:slot C 0= .slice (some ⟨b,0,none⟩) u0.length cap:=by rw[s.dz 0 (by decide)];simp only[*,go_sem]
     have ed:slot C 4= .slice (some ⟨b,p+1,none⟩) (u0.length - (p+1)) (cap - (p+1)):=by rw[s.dz 4 (by decide)];simp only[*,go_sem]
     clear s bc bd bj bb bm
     repeat refine af hJ ?_
     refine aj hJ ?_
     simp only[*,go_sem]
     by_cases eh:m<u0.length - (p+1)
     .have br:decide (((m:Nat):Int)<((u0.length - (p+1):Nat):Int))=true:=decide_eq_true (by omega)
      refine dW hJ (by simp only[*,go_sem]) ?_
      refine aI hJ ?_
      repeat refine af hJ ?_
      refine aN hJ ?_
      repeat refine af hJ ?_
      obtain ⟨q,rfl⟩:∃q,m=q+1:=⟨m - 1,by omega⟩
      have et:IntKind.i64.wrap (((q+1:Nat):Int) - 1)=(q:Int):=by rw[IntWalk.i64_in _ ⟨by omega,by omega⟩];omega
      refine fC hJ mixed 9 ⟨ro,[(b,Obj.cells arr 3)]⟩ (by simp only[*,go_sem]) (by kernel_rfl) ?_
      obtain ⟨a,al⟩:∃y,u0[p+(1+(q+1))]?=some y:=⟨u0[p+(1+(q+1))]'(by omega),List.getElem?_eq_getElem _⟩
      obtain ⟨I,K,ao⟩:=d.je ((E _ (by omega)).trans al)
      obtain rfl:I=[.int .i64 a]:=K
      have ar:=ao 0 _ rfl
      simp only[go_sem] at ar
      have ev:=(Array.getElem?_eq_some_iff.1 ar).1
      obtain ⟨f,a0⟩:∃y,u0[p+(1+q)]?=some y:=⟨u0[p+(1+q)]'(by omega),List.getElem?_eq_getElem _⟩
      obtain ⟨M,N,a2⟩:=d.je ((E _ (by omega)).trans a0)
      obtain rfl:M=[.int .i64 f]:=N
      have a3:=a2 0 _ rfl
      simp only[go_sem] at a3
      have eQ:=(Array.getElem?_eq_some_iff.1 a3).1
      have c1:¬((q+1:Nat):Int)<0:=by omega
      have c2:((q+1:Nat):Int)<((u0.length - (p+1):Nat):Int):=by omega
      have c3:¬(q:Int)<0:=by omega
      have c4:(q:Int)<((u0.length - (p+1):Nat):Int):=by omega
      have eS:(0:Int)<=((q+1:Nat):Int):=by omega
      have e2:(0:Int)<=(q:Int):=by omega
      simp only[*,go_sem]
      have a4:u0.getD (p+(1+(q+1))) 0=a:=by rw[List.getD_eq_getElem?_getD,al];rfl
      have bs:u0.getD (p+(1+q)) 0=f:=by rw[List.getD_eq_getElem?_getD,a0];rfl
      have bz:jQ u0 (p+(1+(q+1)))=(a != f):=by
       unfold jQ
       have bS:p+(1+(q+1)) - 1=p+(1+q):=by omega
       rw[bS,a4,bs]
       have:(p+(1+(q+1))==0)=false:=by simp
       rw[this,Bool.false_or]
      have e1:gw u0 (p+(1+(q+1+1)))=gw u0 (p+(1+(q+1)))++cond (a != f) [a] []:=by
       show gw u0 (p+(1+(q+1)))++cond (jQ u0 (p+(1+(q+1)))) [u0.getD (p+(1+(q+1))) 0] []=_
       rw[bz,a4]
      have e3:IntKind.i64.wrap (((q+1:Nat):Int)+1)=((q+1+1:Nat):Int):=by rw[IntWalk.i64_in _ ⟨by omega,by omega⟩];omega
      clear ao a2 t
      have t:(gw u0 (p+(1+(q+1)))).length=w:=by rw[<-D,List.length_take];omega
      by_cases a5:a=f
      .subst a5
       simp only[bne_self_eq_false,cond_false,List.append_nil] at e1
       refine dO hJ (by simp only[*,go_sem,bne_self_eq_false]) ?_
       refine aI hJ ?_
       refine aj hJ ?_
       simp only[*,go_sem]
       refine ⟨ab - 1,by omega,_,Le.refl _,q+1+1,w,arr,x,by omega,by omega,by omega,rfl,?_,?_,d,ae,by rw[e1];exact t,by omega,by rw[e1];exact D,fun j c=>E j (by omega)⟩
       .simp only[*,go_sem]
       .simp only[*,go_sem]
      .have b0:(a != f)=true:=by simpa using a5
       rw[b0] at e1
       simp only[cond_true] at e1
       refine dW hJ (by simp only[*,go_sem]) ?_
       repeat refine af hJ ?_
       refine aj hJ ?_
       have d1:(w:Int)<(u0.length:Int):=by omega
       have d2:¬(w:Int)<0:=by omega
       have d3:(0:Int)<=(w:Int):=by omega
       have fa:w<arr.size:=by omega
       simp only[*,go_sem]
       have b1:aO rI ro 3 (.slice (some ⟨b,0,none⟩) u0.length cap) (x.set w a) [(b,Obj.cells (cJ arr w [.int .i64 a]) 3)]:=by
        have hh:=d.sG (i:=w) (y:=a) (by omega) (cs:=[.int .i64 a]) rfl
        simpa only[sL,Nat.mul_one,Nat.add_zero] using hh
       have fb:IntKind.i64.wrap ((w:Int)+1)=((w+1:Nat):Int):=by rw[IntWalk.i64_in _ ⟨by omega,by omega⟩];omega
       refine aj hJ ?_
       simp only[*,go_sem]
       refine aj hJ ?_
       simp only[*,go_sem]
       refine ⟨ab - 1,by omega,_,Le.refl _,q+1+1,w+1,_,x.set w a,by omega,by omega,by omega,rfl,?_,?_,b1,by rw[List.length_set];exact ae,?_,by omega,?_,fun j c=>?_⟩
       .simp only[*,go_sem]
       .simp only[*,go_sem]
       .rw[e1,List.length_append,t];rfl
       .rw[e1,<-D,List.take_succ,List.take_set_of_le (Nat.le_refl _),List.getElem?_set_self (by omega)];rfl
       .rw[List.getElem?_set_ne (by omega)];exact E j (by omega)
     .have br:decide (((m:Nat):Int)<((u0.length - (p+1):Nat):Int))=false:=decide_eq_false (by omega)
      refine dO hJ (by simp only[*,go_sem]) ?_
      refine bJ ?_
      simp only[go_sem]
      have a6:p+(1+m)=u0.length:=by omega
      rw[a6] at t
      have d1:(w:Int)<=(u0.length:Int):=by omega
      have d2:¬(w:Int)<0:=by omega
      have d3:(0:Int)<=(w:Int):=by omega
      have d4:w<=u0.length:=by omega
      have d5:w<=cap:=by omega
      have d6:¬cap=w:=by omega
      have d7:(0:Int)<=(w:Int):=by omega
      have d8:(w:Int)<=(cap:Int):=by omega
      have ca:w+(u0.length - w)<=arr.size:=by
       obtain ⟨ls,cb,fg,-⟩:=id d
       rcases cb with ⟨a7,_,_⟩|⟨fi,fp,fr,a7,cd,hs,hle,_⟩
       .cases a7
       .cases cd
        have:rI.n=1:=rfl
        rw[this,Nat.mul_one] at hs
        omega
      repeat refine af hJ ?_
      refine aj hJ ?_
      simp only[*,go_sem,ite_false,if_false]
      refine Gv (pre:=[]) (bq:=[]) (z:=.int .i64 0) (zc:=.int .i64 0) rfl (by kernel_rfl:Tryz.prog.underlying 35=some (.slice 3)) (by kernel_rfl) rfl rfl (by omega) (by simp[av]) ca ?_
      dsimp only[List.nil_append]
      repeat refine af hJ ?_
      refine aj hJ ?_
      simp only[*,go_sem]
      refine aA ?_
      simp only[*,go_sem]
      refine ⟨_,?_,Le.refl _⟩
      have:=d.clear (k:=w) (by omega)
      rw[D,a6] at this
      simpa only[ite_self,Nat.sub_zero] using this
   .have aD:(l==o)=false:=by simpa using P
    refine dO hJ (by simp only[*,go_sem]) ?_
    refine aI hJ ?_
    refine aj hJ ?_
    have fs:IntKind.i64.wrap (((p+1:Nat):Int)+1)=((p+2:Nat):Int):=by rw[IntWalk.i64_in _ ⟨by omega,by omega⟩];omega
    simp only[*,go_sem]
    refine ⟨ba - 1,by omega,_,Le.refl _,p+2,by omega,by omega,by omega,rfl,by simp only[*,go_sem],fun j c=>?_⟩
    rcases Nat.lt_succ_iff_lt_or_eq.1 c with c|rfl
    .exact H j c
    .rw[Z];simpa using P
  .have hb:decide (((k:Nat):Int)<(u0.length:Int))=false:=decide_eq_false (by omega)
   refine dO hJ (by simp only[*,go_sem]) ?_
   refine bJ ?_
   simp only[go_sem]
   repeat refine af hJ ?_
   refine aj hJ ?_
   simp only[*,go_sem]
   refine aA ?_
   simp only[*,go_sem]
   obtain rfl:k=u0.length:=by omega
   rw[tC u0 _ (Nat.le_refl _) H,List.take_length]
   exact ⟨_,hg,Le.refl _⟩
end Go.Proofs.YtghbphimkgamkaaGreatDoor
end

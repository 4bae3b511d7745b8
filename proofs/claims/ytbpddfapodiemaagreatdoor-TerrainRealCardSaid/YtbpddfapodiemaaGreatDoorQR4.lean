/- A part of the proof: QR4. -/
import Derived.Test.YtbpddfapodiemaaGreatDoorQR3
set_option linter.all false
section
namespace Go.Proofs.YtbpddfapodiemaaGreatDoor
open Go Go.Sep Go.Proofs
set_option maxRecDepth 100000
set_option maxHeartbeats 4000000
def q9 (u0:((List Int)->(List Int)->Option Bool))(i22:Nat)(a:(List Int))(st:(List Int)):Option (Fl (List Int) (List Int)):=
 ai (u0 st a) fun b=>cond (b) (some (.nx a)) (some (.nx st))
def oW (u0:((List Int)->(List Int)->Option Bool))(a:(List Int))(b:(List (List Int))):Option (List Int):=
 ai (bR (q9 u0) 0 b a) fun o=>aJ o (fun c=>some c) (fun _ _=>none) (fun r=>some r)
theorem HD {ro:Addr->Option Value}(u0:((List Int)->(List Int)->Option Bool)){ey:FuncId}{eL eM:Array Value}(G:aR Tryz.prog ey=true/\∀(aW:Addr->Option Value),Ext ro aW->∀(k:(List Int)) (l:Value) (o:(List Int)) (p:Value) (z:Bool),aH rI aW l k->aH rI aW p o->u0 k o=some z->aD Tryz.prog ey (eL++#[l,p]++eM) ⟨aW,[]⟩ (fun v _=>v= .bool z))(g:(List Int)){s1:Value}(q:aH rI ro s1 g)(b:(List (List Int))){s:Value}(t:aH (rL rI) ro s b){r:(List Int)}(h:oW u0 g b=some r):e4 Tryz.prog 109 #[.func (.func ey) eL eM,s1,s] ro (fun v aW=>∃u,v=u/\aH rI aW u r):=by
 obtain ⟨d3,c4,rfl,Y,Z,-⟩:=id q;obtain ⟨d10,ab,rfl,ad,w,-⟩:=id t;unfold oW at h;refine aD.go Tryz.func109 rfl Tryz.ntmps109 Tryz.results109 au fun main J hJ A H hd hs=>?_;have I:=hs 0;have k1:=hs 1;have K:=hs 2;clear hs;apply az hJ _;refine ah hJ (aC hJ ?_);apply ag _;apply aX hJ;revert h;refine bS fun L c M=>?_;refine cc hJ (rg 11 10 [1,8]) (fun m y F'=>∃(i22:Nat) (d16:Option Addr) (e:Nat) (d:(List Int)),m=b.length - i22/\i22<=b.length/\bR (q9 u0) i22 (b.drop i22) d=some L/\F'=⟨ro,[]⟩/\aH rI ro (.slice d16 d.length e) d/\slot y 11= .int .i64 (i22:Int)/\slot y 1= .slice d16 d.length e) b.length ?_ ?_
 .refine ⟨0,d3,c4,g,(Nat.sub_zero _).symm,Nat.zero_le _,c,rfl,q,?_⟩;simp only[*,go_sem]
 rintro ae al F' B ⟨i22,d16,e,d,rfl,ao,c,rfl,f,ar,a0⟩;obtain ⟨a2,a3,-⟩:=f.op;obtain ⟨N,O,P⟩:=B.pick [0,6,9,10] aB;simp only[*,go_sem] at N O P;clear B H hd I k1 K;apply az hJ _;apply ah hJ;rcases Nat.lt_or_ge i22 b.length with Q|C
 .refine cB hJ ?_;apply aP hJ;obtain ⟨D,i⟩:∃x,b[i22]?=some x:=⟨_,List.getElem?_eq_getElem Q⟩
  rw[dK i] at c;revert c;refine bS fun a4 h E=>?_;unfold q9 at h;try dsimp only at h
  obtain ⟨a5,a6,R,S,F⟩:=t.el _ _ i;obtain ⟨a7,rfl,j⟩:=S;obtain ⟨d31,T,rfl,a8,a9,ba⟩:=id j;cases R;have U:=F 0 _ rfl;simp only[go_sem] at U;clear F i;refine ah hJ (aX hJ (ah hJ ?_));apply aM hJ _;apply aC hJ;revert h;refine bS fun bb V h=>?_;apply ag _;refine bf hJ _ (G.2 _ (fun a v h=>bn a v h) d _ D _ _ (f.mono bn) (j.mono bn) V) ?_;revert h;refine bh hJ (fun W h=>?_) fun W h=>?_
  .cases h;apply aM hJ _;have X:=cK (n:=i22) (by have:=w;omega);apply aM hJ _;refine ⟨b.length - (i22+1),aa,_,Le.sub (List.Sublist.refl _),i22+1,d31,T,D,rfl,aa,E,rfl,j,?_⟩;simp only[*,go_sem]
  cases h;apply aP hJ;have X:=cK (n:=i22) (by have:=w;omega);apply aM hJ _;refine ⟨b.length - (i22+1),aa,_,Le.sub (List.Sublist.refl _),i22+1,d16,e,d,rfl,aa,E,rfl,f,?_⟩;simp only[*,go_sem]
 have bc:=Nat.not_lt.2 C;refine cx hJ ?_;rw[List.drop_eq_nil_of_le C] at c;obtain rfl:=sI c;clear c;have h:=M;dsimp only[aJ] at h;cases h;apply b6;simp only[go_sem];apply az hJ _;refine cg ?_;exact ⟨_,Ext.refl _,Le.sub (List.nil_sublist _),_,rfl,f⟩
def xl (u0:(List Int))(a:(List Int))(st:(Bool×Int)):Option (Fl (Bool×Int) Bool):=
 cond (decide (st.2<(u0.length:Int))) (ai (bD u0 st.2) fun b=>ai (bD a st.2) fun c=>cond ((b != c)) (some (.rt false)) (some (.nx (st.1,(IntKind.i64.wrap (st.2+1)))))) (some (.bk (st.1,st.2)))
def xm (u0:(List Int))(a:(List Int)):Option Bool:=
 cond (((u0.length:Int) != (a.length:Int))) (some false) (ai (bp (xl u0 a) fu (false,0)) fun o=>aJ o (fun b=>some true) (fun _ _=>none) (fun r=>some r))
theorem HE {ro:Addr->Option Value}(u0:(List Int)){s1:Value}(g:aH rI ro s1 u0)(e:(List Int)){i:Value}(j:aH rI ro i e){r:Bool}(h:xm u0 e=some r):aD Tryz.prog 12 #[s1,i] ⟨ro,[]⟩ (fun v _=>v= .bool r):=by
 obtain ⟨d3,c4,rfl,R,S,-⟩:=id g;obtain ⟨d10,T,rfl,U,V,-⟩:=id j;unfold xm at h;refine aD.go Tryz.func12 rfl Tryz.ntmps12 Tryz.results12 au fun main J hJ A t hd hs=>?_;have u:=hs 0;have k1:=hs 1;clear hs;apply az hJ _;refine ah hJ (aC hJ ?_);apply ag _;revert h;refine bh hJ (fun w h=>?_) fun w h=>?_
 .cases h;apply az hJ _;apply aQ;simp only[*,go_sem]
 refine aP hJ (ah hJ ?_);apply az hJ _;apply aX hJ;revert h;refine bS fun x b k=>?_;refine cc hJ (rg 11 15 [4,5]) (fun m l F'=>∃(c:Bool) (d:Int),bp (xl u0 e) m (c,d)=some x/\F'=⟨ro,[]⟩/\slot l 4= .bool c/\slot l 5= .int .i64 d) fu ?_ ?_
 .refine ⟨false,0,b,rfl,?_⟩;simp only[*,go_sem]
 rintro f W F' n ⟨c,d,b,rfl,X,Y⟩;obtain ⟨y,z,B⟩:=n.pick [0,1] aB;simp only[*,go_sem] at y z B;clear n t hd u k1;obtain _|f:=f
 .exact absurd b (by simp only[bp,reduceCtorEq,not_false_eq_true])
 revert b;refine bS fun Z h a=>?_;unfold xl at h;try dsimp only at h
 refine ah hJ (aC hJ ?_);apply ag _;revert h;refine bh hJ (fun C h=>?_) fun C h=>?_
 .refine aP hJ (ah hJ ?_);refine aX hJ (ah hJ ?_);refine dh hJ mixed 9 0 aN aj ?_;revert h;refine bS fun D E h=>?_;obtain ⟨ab,ad,o⟩:=cP E;obtain ⟨ae,F,G,H,p⟩:=g.el _ _ o;obtain rfl:F=[.int .i64 D]:=H;cases G;have I:=p 0 _ rfl;simp only[go_sem] at I;clear p o;revert h;refine bS fun K L h=>?_;obtain ⟨al,ao,q⟩:=cP L;obtain ⟨ar,M,N,O,s⟩:=j.el _ _ q;obtain rfl:M=[.int .i64 K]:=O;cases N;have P:=s 0 _ rfl;simp only[go_sem] at P;clear s q;apply ag _;revert h;refine bh hJ (fun Q h=>?_) fun Q h=>?_
  .cases h;apply az hJ _;obtain rfl:=sI a;clear a;have h:=k;dsimp only[aJ] at h;cases h;apply aQ;simp only[*,go_sem]
  cases h;refine aP hJ (aS hJ ?_);apply ag _;refine ⟨f,Nat.lt_succ_self _,_,Le.sub (List.Sublist.refl _),c,(IntKind.i64.wrap (d+1)),a,rfl,?_⟩;simp only[*,go_sem]
 cases h;apply b6;simp only[go_sem];obtain rfl:=sI a;clear a;have h:=k;dsimp only[aJ] at h;cases h;apply az hJ _;apply aQ;simp only[*,go_sem]
def nF (u0:(List Int))(a:(List Int)):Option Bool:=
 ai (xm u0 a) fun b=>some b
theorem rf {ro:Addr->Option Value}(u0:(List Int)){s1:Value}(b:aH rI ro s1 u0)(a:(List Int)){c:Value}(d:aH rI ro c a){r:Bool}(h:nF u0 a=some r):aD Tryz.prog 46 #[s1,c] ⟨ro,[]⟩ (fun v _=>v= .bool r):=by
 obtain ⟨d3,c4,rfl,f,g,-⟩:=id b;obtain ⟨d10,i,rfl,j,k,-⟩:=id d;unfold nF at h;refine aD.go Tryz.func46 rfl Tryz.ntmps46 Tryz.results46 au fun main J hJ A l hd hs=>?_;have m:=hs 0;have k1:=hs 1;clear hs;apply az hJ _;apply aC hJ;revert h;refine bS fun n e h=>?_;cases h;apply ag _;refine bf hJ _ (HE u0 (b.mono bn) a (d.mono bn) e) (aO ?_);apply ag _;apply aQ;simp only[*,go_sem]
def xo (a:bA)(i10:Nat)(b:bA)(st:Int):Option (Fl Int Int):=
 cond (((a.back==b.back)&&(a.high==b.high))) (some (.rt (i10:Int))) (some (.nx st))
def xp (u0:(List bA))(a:bA):Option Int:=
 ai (bR (xo a) 0 u0 0) fun o=>aJ o (fun b=>some (-1)) (fun _ _=>none) (fun r=>some r)
theorem HF {ro:Addr->Option Value}(u0:(List bA)){s1:Value}(g:aH jG ro s1 u0)(b:bA){r:Int}(h:xp u0 b=some r):aD Tryz.prog 150 #[s1,.agg #[.int .i64 b.back,.int .i64 b.high]] ⟨ro,[]⟩ (fun v _=>v= .int .i64 r):=by
 obtain ⟨d3,c4,rfl,K,o,-⟩:=id g;unfold xp at h;refine aD.go Tryz.func150 rfl Tryz.ntmps150 Tryz.results150 au fun main J hJ A p hd hs=>?_;have q:=hs 0;have k1:=hs 1;clear hs;apply az hJ _;refine aA fun s L t=>?_;try simp only[av] at t
 refine ah hJ (aC hJ ?_);apply ag _;apply aX hJ;revert h;refine bS fun u a i=>?_;refine cc hJ (rg 8 11 [4,5]) (fun m j F'=>∃(i10:Nat) (c:Int),m=u0.length - i10/\i10<=u0.length/\bR (xo b) i10 (u0.drop i10) c=some u/\F'=⟨ro,(s,.cells #[.int .i64 b.back,.int .i64 b.high] 101)::[]⟩/\slot j 8= .int .i64 (i10:Int)/\slot j 4= .int .i64 c) u0.length ?_ ?_
 .refine ⟨0,0,(Nat.sub_zero _).symm,Nat.zero_le _,a,rfl,?_⟩;simp only[*,go_sem]
 rintro M N F' k ⟨i10,c,rfl,O,a,rfl,P,Q⟩;obtain ⟨w,y,z⟩:=k.pick [0,3,7] aB;simp only[*,go_sem] at w y z;clear k p hd q k1;apply az hJ _;apply ah hJ;rcases Nat.lt_or_ge i10 u0.length with B|l
 .refine cB hJ ?_;apply aP hJ;obtain ⟨C,d⟩:∃x,u0[i10]?=some x:=⟨_,List.getElem?_eq_getElem B⟩
  rw[dK d] at a;revert a;refine bS fun R h e=>?_;unfold xo at h;try dsimp only at h
  obtain ⟨S,D,E,F,f⟩:=g.el _ _ d;obtain rfl:D=C.cells:=F;cases E;have G:=f 0 _ rfl;simp only[go_sem] at G;have H:=f 1 _ rfl;simp only[go_sem] at H;clear f d;refine ah hJ (aX hJ (ah hJ ?_));apply aM hJ _;apply ah hJ;refine dh hJ mixed 6 1 aN aj ?_;apply ag _;revert h;refine bh hJ (fun I h=>?_) fun I h=>?_
  .cases h;apply az hJ _;obtain rfl:=sI e;clear e;have h:=i;dsimp only[aJ] at h;cases h;apply aQ;simp only[*,go_sem]
  cases h;apply aP hJ;have T:=cK (n:=i10) (by have:=o;omega);apply aM hJ _;refine ⟨u0.length - (i10+1),aa,_,Le.sub (List.Sublist.refl _),i10+1,c,rfl,aa,e,rfl,?_⟩;simp only[*,go_sem]
 have U:=Nat.not_lt.2 l;refine cx hJ ?_;rw[List.drop_eq_nil_of_le l] at a;obtain rfl:=sI a;clear a;have h:=i;dsimp only[aJ] at h;cases h;apply b6;simp only[go_sem];apply az hJ _;apply aQ;simp only[*,go_sem]
def xq (u0:(List bA))(a:bA):Option Bool:=
 ai (xp u0 a) fun b=>some (decide (0<=b))
theorem HG {ro:Addr->Option Value}(u0:(List bA)){s1:Value}(b:aH jG ro s1 u0)(a:bA){r:Bool}(h:xq u0 a=some r):aD Tryz.prog 121 #[s1,.agg #[.int .i64 a.back,.int .i64 a.high]] ⟨ro,[]⟩ (fun v _=>v= .bool r):=by
 obtain ⟨d3,c4,rfl,e,f,-⟩:=id b;unfold xq at h;refine aD.go Tryz.func121 rfl Tryz.ntmps121 Tryz.results121 au fun main J hJ A g hd hs=>?_;have i:=hs 0;have k1:=hs 1;clear hs;apply az hJ _;refine aA fun j k c=>?_;try simp only[av] at c
 apply aC hJ;revert h;refine bS fun l d h=>?_;cases h;apply ag _;refine bf hJ _ (HF u0 (b.mono bn) a d) (aO ?_);apply ag _;apply aQ;simp only[*,go_sem]
def uf (a:(bM->Option Bool))(i9:Nat)(b:bM)(st:Int):Option (Fl Int Int):=
 ai (a b) fun c=>cond (c) (some (.rt (i9:Int))) (some (.nx st))
def ug (u0:(List bM))(a:(bM->Option Bool)):Option Int:=
 ai (bR (uf a) 0 u0 0) fun o=>aJ o (fun b=>some (-1)) (fun _ _=>none) (fun r=>some r)
theorem HH {ro:Addr->Option Value}(u0:(List bM)){s1:Value}(i:aH dG ro s1 u0)(d:(bM->Option Bool)){dg:FuncId}{dL dM:Array Value}(s:aR Tryz.prog dg=true/\∀(aW:Addr->Option Value),Ext ro aW->∀(j:bM) (z:Bool),d j=some z->aD Tryz.prog dg (dL++#[j.v]++dM) ⟨aW,[]⟩ (fun v _=>v= .bool z)){r:Int}(h:ug u0 d=some r):aD Tryz.prog 190 #[s1,.func (.func dg) dL dM] ⟨ro,[]⟩ (fun v _=>v= .int .i64 r):=by
 obtain ⟨d3,c4,rfl,N,t,-⟩:=id i;unfold ug at h;refine aD.go Tryz.func190 rfl Tryz.ntmps190 Tryz.results190 au fun main J hJ A u hd hs=>?_;have w:=hs 0;have k1:=hs 1;clear hs;apply az hJ _;refine ah hJ (aC hJ ?_);apply ag _;apply aX hJ;revert h;refine bS fun y b k=>?_;refine cc hJ (rg 8 11 [4,5]) (fun m l F'=>∃(i9:Nat) (c:Int),m=u0.length - i9/\i9<=u0.length/\bR (uf d) i9 (u0.drop i9) c=some y/\F'=⟨ro,[]⟩/\slot l 8= .int .i64 (i9:Int)/\slot l 4= .int .i64 c) u0.length ?_ ?_
 .refine ⟨0,0,(Nat.sub_zero _).symm,Nat.zero_le _,b,rfl,?_⟩;simp only[*,go_sem]
 rintro O P F' o ⟨i9,c,rfl,Q,b,rfl,R,S⟩;obtain ⟨B,C,D⟩:=o.pick [0,1,7] aB;simp only[*,go_sem] at B C D;clear o u hd w k1;apply az hJ _;apply ah hJ;rcases Nat.lt_or_ge i9 u0.length with E|p
 .refine cB hJ ?_;apply aP hJ;obtain ⟨q,e⟩:∃x,u0[i9]?=some x:=⟨_,List.getElem?_eq_getElem E⟩
  rw[dK e] at b;revert b;refine bS fun T h f=>?_;unfold uf at h;try dsimp only at h
  obtain ⟨U,F,G,H,g⟩:=i.el _ _ e;obtain rfl:F=q.cells:=H;cases G;have I:=g 0 _ rfl;simp only[go_sem] at I;have K:=g 1 _ rfl;simp only[go_sem] at K;clear g e;refine ah hJ (aX hJ (ah hJ ?_));apply aM hJ _;apply aC hJ;revert h;refine bS fun V L h=>?_;apply ag _;refine bf hJ _ (s.2 _ (fun a v h=>bn a v h) q _ L) ?_;revert h;refine bh hJ (fun M h=>?_) fun M h=>?_
  .cases h;apply az hJ _;obtain rfl:=sI f;clear f;have h:=k;dsimp only[aJ] at h;cases h;apply aQ;simp only[*,go_sem]
  cases h;apply aP hJ;have W:=cK (n:=i9) (by have:=t;omega);apply aM hJ _;refine ⟨u0.length - (i9+1),aa,_,Le.sub (List.Sublist.refl _),i9+1,c,rfl,aa,f,rfl,?_⟩;simp only[*,go_sem]
 have X:=Nat.not_lt.2 p;refine cx hJ ?_;rw[List.drop_eq_nil_of_le p] at b;obtain rfl:=sI b;clear b;have h:=k;dsimp only[aJ] at h;cases h;apply b6;simp only[go_sem];apply az hJ _;apply aQ;simp only[*,go_sem]
def ri (u0:(List bM))(a:(bM->Option Bool)):Option Bool:=
 ai (ug u0 a) fun b=>some (decide (0<=b))
theorem HI {ro:Addr->Option Value}(u0:(List bM)){s1:Value}(b:aH dG ro s1 u0)(a:(bM->Option Bool)){dg:FuncId}{dL dM:Array Value}(c:aR Tryz.prog dg=true/\∀(aW:Addr->Option Value),Ext ro aW->∀(d:bM) (z:Bool),a d=some z->aD Tryz.prog dg (dL++#[d.v]++dM) ⟨aW,[]⟩ (fun v _=>v= .bool z)){r:Bool}(h:ri u0 a=some r):aD Tryz.prog 172 #[s1,.func (.func dg) dL dM] ⟨ro,[]⟩ (fun v _=>v= .bool r):=by
 obtain ⟨d3,c4,rfl,g,i,-⟩:=id b;unfold ri at h;refine aD.go Tryz.func172 rfl Tryz.ntmps172 Tryz.results172 au fun main J hJ A j hd hs=>?_;have k:=hs 0;have k1:=hs 1;clear hs;apply az hJ _;apply aC hJ;revert h;refine bS fun l e h=>?_;cases h;apply ag _;refine bf hJ _ (HH (dg:=dg) (dL:=dL) (dM:=dM) u0 (b.mono bn) a ⟨c.1,fun _ f=>c.2 _ (Ext.trans bn f)⟩ e) (aO ?_);apply ag _;apply aQ;simp only[*,go_sem]
def xu (a:(bA->Option Bool))(i9:Nat)(b:bA)(st:Int):Option (Fl Int Int):=
 ai (a b) fun c=>cond (c) (some (.rt (i9:Int))) (some (.nx st))
def xw (u0:(List bA))(a:(bA->Option Bool)):Option Int:=
 ai (bR (xu a) 0 u0 0) fun o=>aJ o (fun b=>some (-1)) (fun _ _=>none) (fun r=>some r)
theorem HJ {ro:Addr->Option Value}(u0:(List bA)){s1:Value}(i:aH jG ro s1 u0)(d:(bA->Option Bool)){dg:FuncId}{dL dM:Array Value}(s:aR Tryz.prog dg=true/\∀(aW:Addr->Option Value),Ext ro aW->∀(j:bA) (z:Bool),d j=some z->aD Tryz.prog dg (dL++#[j.v]++dM) ⟨aW,[]⟩ (fun v _=>v= .bool z)){r:Int}(h:xw u0 d=some r):aD Tryz.prog 184 #[s1,.func (.func dg) dL dM] ⟨ro,[]⟩ (fun v _=>v= .int .i64 r):=by
 obtain ⟨d3,c4,rfl,N,t,-⟩:=id i;unfold xw at h;refine aD.go Tryz.func184 rfl Tryz.ntmps184 Tryz.results184 au fun main J hJ A u hd hs=>?_;have w:=hs 0;have k1:=hs 1;clear hs;apply az hJ _;refine ah hJ (aC hJ ?_);apply ag _;apply aX hJ;revert h;refine bS fun y b k=>?_;refine cc hJ (rg 8 11 [4,5]) (fun m l F'=>∃(i9:Nat) (c:Int),m=u0.length - i9/\i9<=u0.length/\bR (xu d) i9 (u0.drop i9) c=some y/\F'=⟨ro,[]⟩/\slot l 8= .int .i64 (i9:Int)/\slot l 4= .int .i64 c) u0.length ?_ ?_
 .refine ⟨0,0,(Nat.sub_zero _).symm,Nat.zero_le _,b,rfl,?_⟩;simp only[*,go_sem]
 rintro O P F' o ⟨i9,c,rfl,Q,b,rfl,R,S⟩;obtain ⟨B,C,D⟩:=o.pick [0,1,7] aB;simp only[*,go_sem] at B C D;clear o u hd w k1;apply az hJ _;apply ah hJ;rcases Nat.lt_or_ge i9 u0.length with E|p
 .refine cB hJ ?_;apply aP hJ;obtain ⟨q,e⟩:∃x,u0[i9]?=some x:=⟨_,List.getElem?_eq_getElem E⟩
  rw[dK e] at b;revert b;refine bS fun T h f=>?_;unfold xu at h;try dsimp only at h
  obtain ⟨U,F,G,H,g⟩:=i.el _ _ e;obtain rfl:F=q.cells:=H;cases G;have I:=g 0 _ rfl;simp only[go_sem] at I;have K:=g 1 _ rfl;simp only[go_sem] at K;clear g e;refine ah hJ (aX hJ (ah hJ ?_));apply aM hJ _;apply aC hJ;revert h;refine bS fun V L h=>?_;apply ag _;refine bf hJ _ (s.2 _ (fun a v h=>bn a v h) q _ L) ?_;revert h;refine bh hJ (fun M h=>?_) fun M h=>?_
  .cases h;apply az hJ _;obtain rfl:=sI f;clear f;have h:=k;dsimp only[aJ] at h;cases h;apply aQ;simp only[*,go_sem]
  cases h;apply aP hJ;have W:=cK (n:=i9) (by have:=t;omega);apply aM hJ _;refine ⟨u0.length - (i9+1),aa,_,Le.sub (List.Sublist.refl _),i9+1,c,rfl,aa,f,rfl,?_⟩;simp only[*,go_sem]
 have X:=Nat.not_lt.2 p;refine cx hJ ?_;rw[List.drop_eq_nil_of_le p] at b;obtain rfl:=sI b;clear b;have h:=k;dsimp only[aJ] at h;cases h;apply b6;simp only[go_sem];apply az hJ _;apply aQ;simp only[*,go_sem]
def xx (u0:(List bA))(a:(bA->Option Bool)):Option Bool:=
 ai (xw u0 a) fun b=>some (decide (0<=b))
theorem HK {ro:Addr->Option Value}(u0:(List bA)){s1:Value}(b:aH jG ro s1 u0)(a:(bA->Option Bool)){dg:FuncId}{dL dM:Array Value}(c:aR Tryz.prog dg=true/\∀(aW:Addr->Option Value),Ext ro aW->∀(d:bA) (z:Bool),a d=some z->aD Tryz.prog dg (dL++#[d.v]++dM) ⟨aW,[]⟩ (fun v _=>v= .bool z)){r:Bool}(h:xx u0 a=some r):aD Tryz.prog 164 #[s1,.func (.func dg) dL dM] ⟨ro,[]⟩ (fun v _=>v= .bool r):=by
 obtain ⟨d3,c4,rfl,g,i,-⟩:=id b;unfold xx at h;refine aD.go Tryz.func164 rfl Tryz.ntmps164 Tryz.results164 au fun main J hJ A j hd hs=>?_;have k:=hs 0;have k1:=hs 1;clear hs;apply az hJ _;apply aC hJ;revert h;refine bS fun l e h=>?_;cases h;apply ag _;refine bf hJ _ (HJ (dg:=dg) (dL:=dL) (dM:=dM) u0 (b.mono bn) a ⟨c.1,fun _ f=>c.2 _ (Ext.trans bn f)⟩ e) (aO ?_);apply ag _;apply aQ;simp only[*,go_sem]
def rj (a:(bt->Option Bool))(i38:Nat)(b:bt)(st:Int):Option (Fl Int Int):=
 ai (a b) fun c=>cond (c) (some (.nx (IntKind.i64.wrap (st+1)))) (some (.nx st))
def oX (u0:di)(b:(bt->Option Bool)):Option Int:=
 ai (bR (rj b) 0 u0.all 0) fun o=>aJ o (fun a=>cond ((a==(u0.all.length:Int))) (some 1) (cond ((a==0)) (some 2) (some 0))) (fun _ _=>none) (fun r=>some r)
theorem B2 {ro:Addr->Option Value}(u0:di){s1 e f g:Value}(Z:bW ro u0.book s1 e f g){k:Value}(l:aH iK ro k u0.all)(i:(bt->Option Bool)){dg:FuncId}{dL dM:Array Value}(y:aR Tryz.prog dg=true/\∀(aW:Addr->Option Value),Ext ro aW->∀(o:bt) (z:Bool),i o=some z->aD Tryz.prog dg (dL++#[o.v]++dM) ⟨aW,[]⟩ (fun v _=>v= .bool z)){r:Int}(h:oX u0 i=some r):aD Tryz.prog 95 #[.agg #[.int .i64 u0.book.bV,.int .i64 u0.book.bU,.int .i64 u0.book.bq.num,.int .i64 u0.book.bq.den,s1,e,f,g,k],.func (.func dg) dL dM] ⟨ro,[]⟩ (fun v _=>v= .int .i64 r):=by
 obtain ⟨d31,B,rfl,ab,p,-⟩:=id l;unfold oX at h;refine aD.go Tryz.func95 rfl Tryz.ntmps95 Tryz.results95 au fun main J hJ A C hd hs=>?_;have D:=hs 0;have k1:=hs 1;clear hs;apply az hJ _;refine aA fun E ad F=>?_;try simp only[av] at F
 apply az hJ _;refine ah hJ (aC hJ ?_);apply ag _;apply aX hJ;revert h;refine bS fun G b H=>?_;refine cc hJ (rg 11 10 [5,7]) (fun m q F'=>∃(i38:Nat) (c:Int),m=u0.all.length - i38/\i38<=u0.all.length/\bR (rj i) i38 (u0.all.drop i38) c=some G/\F'=⟨ro,(E,kn u0 s1 e f g (sl d31 u0.all B))::[]⟩/\slot q 11= .int .i64 (i38:Int)/\slot q 5= .int .i64 c) u0.all.length ?_ ?_
 .refine ⟨0,0,(Nat.sub_zero _).symm,Nat.zero_le _,b,rfl,?_⟩;simp only[*,go_sem]
 rintro ae al F' s ⟨i38,c,rfl,ao,b,rfl,ar,a0⟩;obtain ⟨I,K,L⟩:=s.pick [1,2,4,9,10] aB;simp only[*,go_sem] at I K L;clear s C hd D k1;apply az hJ _;apply ah hJ;rcases Nat.lt_or_ge i38 u0.all.length with M|t
 .refine cB hJ ?_;apply aP hJ;obtain ⟨u,j⟩:∃x,u0.all[i38]?=some x:=⟨_,List.getElem?_eq_getElem M⟩
  rw[dK j] at b;revert b;refine bS fun a2 h w=>?_;unfold rj at h;try dsimp only at h
  obtain ⟨a3,N,O,P,d⟩:=l.el _ _ j;obtain rfl:N=u.cells:=P;cases O;have Q:=d 0 _ rfl;simp only[go_sem] at Q;have R:=d 1 _ rfl;simp only[go_sem] at R;have S:=d 2 _ rfl;simp only[go_sem] at S;clear d j;refine ah hJ (aX hJ (ah hJ ?_));apply aM hJ _;refine aA fun a4 a5 T=>?_;try simp only[av] at T
  apply aC hJ;revert h;refine bS fun a6 U h=>?_;apply ag _;refine bf hJ _ (y.2 _ (fun a v h=>bn a v h) u _ U) ?_;revert h;refine bh hJ (fun V h=>?_) fun V h=>?_
  .cases h;apply aM hJ _;have W:=cK (n:=i38) (by have:=p;omega);apply aM hJ _;refine ⟨u0.all.length - (i38+1),aa,_,Le.sub (List.Sublist.cons _ (List.Sublist.refl _)),i38+1,(IntKind.i64.wrap (c+1)),rfl,aa,w,rfl,?_⟩;simp only[*,go_sem]
  cases h;apply aP hJ;have W:=cK (n:=i38) (by have:=p;omega);apply aM hJ _;refine ⟨u0.all.length - (i38+1),aa,_,Le.sub (List.Sublist.cons _ (List.Sublist.refl _)),i38+1,c,rfl,aa,w,rfl,?_⟩;simp only[*,go_sem]
 have a7:=Nat.not_lt.2 t;refine cx hJ ?_;rw[List.drop_eq_nil_of_le t] at b;obtain rfl:=sI b;clear b;have h:=H;dsimp only[aJ] at h;apply b6;simp only[go_sem];refine ah hJ (aC hJ ?_);apply ag _;refine aX hJ (ah hJ ?_);apply aM hJ _;revert h;refine bh hJ (fun X h=>?_) fun X h=>?_
 .cases h;apply az hJ _;apply aQ;simp only[*,go_sem]
 apply az hJ _;revert h;refine bh hJ (fun Y h=>?_) fun Y h=>?_
 .cases h;apply az hJ _;apply aQ;simp only[*,go_sem]
 cases h;refine aP hJ (ah hJ ?_);apply aM hJ _;apply aQ;simp only[*,go_sem]
def rm (u0:bM)(a:an)(w1:bt):Option Bool:=
 ai (bt.get w1 u0.aY) fun b=>ai (ig a u0.aY b) fun c=>ai (gU a c) fun d=>some (!(d==u0.bI))
theorem HL {ro:Addr->Option Value}(u0:bM)(a:an){b:Nat}(y:ro ⟨b,0,none⟩=some (.int .i64 a.bV))(z:ro ⟨b,1,none⟩=some (.int .i64 a.bU))(B:ro ⟨b,2,none⟩=some (.int .i64 a.bq.num))(C:ro ⟨b,3,none⟩=some (.int .i64 a.bq.den)){s1:Value}(e:aH fH ro s1 a.aE)(D:ro ⟨b,4,none⟩=some (s1)){j:Value}(f:aH eU ro j a.props)(E:ro ⟨b,5,none⟩=some (j)){k:Value}(g:aH fo ro k a.aF)(G:ro ⟨b,6,none⟩=some (k)){l:Value}(i:aH dG ro l a.told)(H:ro ⟨b,7,none⟩=some (l))(w1:bt){d:Nat}(o:ro ⟨d,0,none⟩=some (.int .i64 w1.e0))(p:ro ⟨d,1,none⟩=some (.int .i64 w1.e1))(q:ro ⟨d,2,none⟩=some (.int .i64 w1.e2)){r:Bool}(h:rm u0 a w1=some r):aD Tryz.prog 173 #[.agg #[.int .i64 u0.aY,.bool u0.bI],.pointer (some ⟨b,0,none⟩),.pointer (some ⟨d,0,none⟩)] ⟨ro,[]⟩ (fun v _=>v= .bool r):=by
 obtain ⟨d3,c4,rfl,I,K,-⟩:=id e;obtain ⟨d10,L,rfl,M,N,-⟩:=id f;obtain ⟨d17,O,rfl,P,Q,-⟩:=id g;obtain ⟨d24,R,rfl,S,T,-⟩:=id i;unfold rm at h;refine aD.go Tryz.func173 rfl Tryz.ntmps173 Tryz.results173 au fun main J hJ A U hd hs=>?_;have V:=hs 0;have k1:=hs 1;have W:=hs 2;clear hs;apply az hJ _;refine aA fun X Y s=>?_;try simp only[av] at s
 apply ah hJ;refine dh hJ mixed 14 1 aN aj ?_;revert h;refine bS fun t m h=>?_;obtain ⟨Z,ab,n⟩:=bt.get_some m;clear n;have n:=bt.Hg m o p q;revert h;refine bS fun u w h=>?_;apply ag _;refine ⟨_,bL hJ fun F c=>nk a ⟨(e.mono (cm c)),(f.mono (cm c)),(g.mono (cm c)),(i.mono (cm c))⟩ u0.aY t w,cr ?_⟩;revert h;refine bS fun ad x h=>?_;cases h;apply ag _;refine ⟨_,bL hJ fun F c=>nE a ⟨(e.mono (cm c)),(f.mono (cm c)),(g.mono (cm c)),(i.mono (cm c))⟩ u x,cr ?_⟩;apply ag _;apply aQ;simp only[*,go_sem]
def oY (u0:an)(a:bt):Option Bool:=
 ai (ri u0.told (fun b=>rm b u0 a)) fun c=>some (!c)
theorem HM {ro:Addr->Option Value}(u0:an){s1 f g i:Value}(b:bW ro u0 s1 f g i)(c:bt){r:Bool}(h:oY u0 c=some r):aD Tryz.prog 138 #[bv u0 s1 f g i,.agg #[.int .i64 c.e0,.int .i64 c.e1,.int .i64 c.e2]] ⟨ro,[]⟩ (fun v _=>v= .bool r):=by
 obtain ⟨d3,c4,rfl,q,s,-⟩:=id b.e;obtain ⟨d10,u,rfl,w,x,-⟩:=id b.p;obtain ⟨d17,z,rfl,B,C,-⟩:=id b.y;obtain ⟨d24,D,rfl,E,F,-⟩:=id b.t;unfold oY at h;refine aD.go Tryz.func138 rfl Tryz.ntmps138 Tryz.results138 au fun main J hJ A G hd hs=>?_;have H:=hs 0;have k1:=hs 1;clear hs;apply az hJ _;refine aA fun j I k=>?_;try simp only[av] at k
 refine aA fun l K m=>?_;try simp only[av] at m
 apply aC hJ;revert h;refine bS fun L n h=>?_;cases h;apply ag _;refine bf hJ _ (HI (dg:=173) (dL:=#[]) (dM:=#[.pointer (some ⟨j,0,none⟩),.pointer (some ⟨l,0,none⟩)]) u0.told (b.t.mono bn) (fun d=>rm d u0 c) ⟨by simp only[go_sem],fun M a d N o=>by simp only[go_sem];exact HL d u0 (a _ _ (by simp only[af.cN,go_sem, *])) (a _ _ (by simp only[af.cN,go_sem, *])) (a _ _ (by simp only[af.cN,go_sem, *])) (a _ _ (by simp only[af.cN,go_sem, *])) ((b.e.mono bn).mono a) (a _ _ (by simp only[af.cN,go_sem, *])) ((b.p.mono bn).mono a) (a _ _ (by simp only[af.cN,go_sem, *])) ((b.y.mono bn).mono a) (a _ _ (by simp only[af.cN,go_sem, *])) ((b.t.mono bn).mono a) (a _ _ (by simp only[af.cN,go_sem, *])) c (a _ _ (by simp only[af.cN,go_sem, *])) (a _ _ (by simp only[af.cN,go_sem, *])) (a _ _ (by simp only[af.cN,go_sem, *])) o⟩ n) (aO ?_);apply ag _;apply aQ;simp only[*,go_sem]
def uh (u0:an)(a:(List bA)):Option Bool:=
 ai (xx a (gU u0)) fun b=>some (!b)
theorem HN {ro:Addr->Option Value}(u0:an){s1 c d f:Value}(a:bW ro u0 s1 c d f)(g:(List bA)){i:Value}(j:aH jG ro i g){r:Bool}(h:uh u0 g=some r):aD Tryz.prog 130 #[bv u0 s1 c d f,i] ⟨ro,[]⟩ (fun v _=>v= .bool r):=by
 obtain ⟨d31,n,rfl,o,q,-⟩:=id j;unfold uh at h;refine aD.go Tryz.func130 rfl Tryz.ntmps130 Tryz.results130 au fun main J hJ A s hd hs=>?_;have u:=hs 0;have k1:=hs 1;clear hs;apply az hJ _;refine aA fun w x k=>?_;try simp only[av] at k
 apply aC hJ;revert h;refine bS fun z l h=>?_;cases h;apply ag _;refine bf hJ _ (HK (dg:=97) (dL:=#[bv u0 s1 c d f]) (dM:=#[]) g (j.mono bn) (gU u0) ⟨by simp only[go_sem],fun B b m _ h=>by simp only[go_sem];exact nE u0 ⟨((a.e.mono bn).mono b),((a.p.mono bn).mono b),((a.y.mono bn).mono b),((a.t.mono bn).mono b)⟩ m h⟩ l) (aO ?_);apply ag _;apply aQ;simp only[*,go_sem]
def kq (u0:bt)(a:di)(w1:Int):Option Bool:=
 ai (bt.get u0 w1) fun b=>ai (ig a.book w1 b) fun c=>ai (gU a.book c) fun d=>some d
theorem HO {ro:Addr->Option Value}(u0:bt)(a:di){b:Nat}(x:ro ⟨b,0,none⟩=some (.int .i64 a.book.bV))(y:ro ⟨b,1,none⟩=some (.int .i64 a.book.bU))(z:ro ⟨b,2,none⟩=some (.int .i64 a.book.bq.num))(B:ro ⟨b,3,none⟩=some (.int .i64 a.book.bq.den)){s1:Value}(d:aH fH ro s1 a.book.aE)(C:ro ⟨b,4,none⟩=some (s1)){i:Value}(e:aH eU ro i a.book.props)(D:ro ⟨b,5,none⟩=some (i)){j:Value}(f:aH fo ro j a.book.aF)(E:ro ⟨b,6,none⟩=some (j)){k:Value}(g:aH dG ro k a.book.told)(G:ro ⟨b,7,none⟩=some (k)){l:Value}(n:aH iK ro l a.all)(H:ro ⟨b,8,none⟩=some (l))(w1:Int){m:Nat}(I:ro ⟨m,0,none⟩=some (.int .i64 w1)){r:Bool}(h:kq u0 a w1=some r):aD Tryz.prog 96 #[.agg #[.int .i64 u0.e0,.int .i64 u0.e1,.int .i64 u0.e2],.pointer (some ⟨b,0,none⟩),.pointer (some ⟨m,0,none⟩)] ⟨ro,[]⟩ (fun v _=>v= .bool r):=by
 obtain ⟨d3,c4,rfl,K,L,-⟩:=id d;obtain ⟨d10,M,rfl,N,O,-⟩:=id e;obtain ⟨d17,P,rfl,Q,R,-⟩:=id f;obtain ⟨d24,S,rfl,T,U,-⟩:=id g;obtain ⟨d31,V,rfl,W,X,-⟩:=id n;unfold kq at h;refine aD.go Tryz.func96 rfl Tryz.ntmps96 Tryz.results96 au fun main J hJ A Y hd hs=>?_;have Z:=hs 0;have k1:=hs 1;have ab:=hs 2;clear hs;apply az hJ _;refine aA fun ad ae o=>?_;try simp only[av] at o
 apply ah hJ;refine dh hJ mixed 11 1 aN aj ?_;revert h;refine bS fun p q h=>?_;obtain ⟨al,ao,s⟩:=bt.get_some q;try simp only[go_sem] at s
 revert h;refine bS fun t u h=>?_;apply ag _;refine ⟨_,bL hJ fun F c=>nk a.book ⟨(d.mono (cm c)),(e.mono (cm c)),(f.mono (cm c)),(g.mono (cm c))⟩ w1 p u,cr ?_⟩;revert h;refine bS fun ar w h=>?_;cases h;apply ag _;refine ⟨_,bL hJ fun F c=>nE a.book ⟨(d.mono (cm c)),(e.mono (cm c)),(f.mono (cm c)),(g.mono (cm c))⟩ t w,cr ?_⟩;apply ag _;apply aQ;simp only[*,go_sem]
def uj (u0:bt)(a:di)(i38:Nat)(e:cq)(st:Bool):Option (Fl Bool Bool):=
 ai (bt.get u0 (i38:Int)) fun b=>ai (ig a.book (i38:Int) b) fun c=>ai (gU a.book c) fun d=>cond (d) (some (.rt false)) (some (.nx st))
def kr (u0:bt)(a:di):Option Bool:=
 ai (bR (uj u0 a) 0 a.book.aF false) fun o=>aJ o (fun b=>some true) (fun _ _=>none) (fun r=>some r)
theorem HP {ro:Addr->Option Value}(u0:bt)(a:di){b:Nat}(ae:ro ⟨b,0,none⟩=some (.int .i64 a.book.bV))(al:ro ⟨b,1,none⟩=some (.int .i64 a.book.bU))(ao:ro ⟨b,2,none⟩=some (.int .i64 a.book.bq.num))(ar:ro ⟨b,3,none⟩=some (.int .i64 a.book.bq.den)){s1:Value}(i:aH fH ro s1 a.book.aE)(a0:ro ⟨b,4,none⟩=some (s1)){p:Value}(j:aH eU ro p a.book.props)(a2:ro ⟨b,5,none⟩=some (p)){q:Value}(e:aH fo ro q a.book.aF)(a3:ro ⟨b,6,none⟩=some (q)){s:Value}(k:aH dG ro s a.book.told)(a4:ro ⟨b,7,none⟩=some (s)){t:Value}(B:aH iK ro t a.all)(a5:ro ⟨b,8,none⟩=some (t)){r:Bool}(h:kr u0 a=some r):aD Tryz.prog 100 #[.agg #[.int .i64 u0.e0,.int .i64 u0.e1,.int .i64 u0.e2],.pointer (some ⟨b,0,none⟩)] ⟨ro,[]⟩ (fun v _=>v= .bool r):=by
 obtain ⟨d3,c4,rfl,a6,a7,-⟩:=id i;obtain ⟨d10,a8,rfl,a9,ba,-⟩:=id j;obtain ⟨d17,bb,rfl,bc,C,-⟩:=id e;obtain ⟨d24,bd,rfl,bj,bk,-⟩:=id k;obtain ⟨d31,bl,rfl,bm,bo,-⟩:=id B;unfold kr at h;refine aD.go Tryz.func100 rfl Tryz.ntmps100 Tryz.results100 au fun main J hJ A D hd hs=>?_;have E:=hs 0;have k1:=hs 1;clear hs;apply az hJ _;refine aA fun G br H=>?_;try simp only[av] at H
 refine ah hJ (aC hJ ?_);apply ag _;apply aX hJ;revert h;refine bS fun I d u=>?_;refine cc hJ (rg 10 14 [3,4]) (fun m w F'=>∃(i38:Nat) (f:Bool),m=a.book.aF.length - i38/\i38<=a.book.aF.length/\bR (uj u0 a) i38 (a.book.aF.drop i38) f=some I/\F'=⟨ro,(G,.cells #[.int .i64 u0.e0,.int .i64 u0.e1,.int .i64 u0.e2] 133)::[]⟩/\slot w 10= .int .i64 (i38:Int)/\slot w 3= .bool f) a.book.aF.length ?_ ?_
 .refine ⟨0,false,(Nat.sub_zero _).symm,Nat.zero_le _,d,rfl,?_⟩;simp only[*,go_sem]
 rintro bs bz F' y ⟨i38,f,rfl,b0,d,rfl,b1,b2⟩;obtain ⟨K,L,M⟩:=y.pick [1,2,9] aB;simp only[*,go_sem] at K L M;clear y D hd E k1;apply az hJ _;apply ah hJ;rcases Nat.lt_or_ge i38 a.book.aF.length with N|z
 .refine cB hJ ?_;apply aP hJ;obtain ⟨O,l⟩:∃x,a.book.aF[i38]?=some x:=⟨_,List.getElem?_eq_getElem N⟩
  rw[dK l] at d;revert d;refine bS fun b3 h o=>?_;unfold uj at h;try dsimp only at h
  obtain ⟨b4,P,Q,R,g⟩:=e.el _ _ l;obtain rfl:P=O.cells:=R;cases Q;have S:=g 0 _ rfl;simp only[go_sem] at S;have T:=g 1 _ rfl;simp only[go_sem] at T;have U:=g 2 _ rfl;simp only[go_sem] at U;clear g l;refine ah hJ (aX hJ (ah hJ ?_));apply aM hJ _;apply ah hJ;refine dh hJ mixed 10 1 aN aj ?_;revert h;refine bS fun V W h=>?_;obtain ⟨b5,ca,X⟩:=bt.get_some W;try simp only[go_sem] at X
  revert h;refine bS fun Y Z h=>?_;apply ag _;refine ⟨_,bL hJ fun F c=>nk a.book ⟨(i.mono (cm c)),(j.mono (cm c)),(e.mono (cm c)),(k.mono (cm c))⟩ (i38:Int) V Z,cr ?_⟩;revert h;refine bS fun cb ab h=>?_;apply ag _;refine ⟨_,bL hJ fun F c=>nE a.book ⟨(i.mono (cm c)),(j.mono (cm c)),(e.mono (cm c)),(k.mono (cm c))⟩ Y ab,?_⟩;revert h;refine bh hJ (fun ad h=>?_) fun ad h=>?_
  .cases h;apply az hJ _;obtain rfl:=sI o;clear o;have h:=u;dsimp only[aJ] at h;cases h;apply aQ;simp only[*,go_sem]
  cases h;apply aP hJ;have cd:=cK (n:=i38) (by have:=C;omega);apply aM hJ _;refine ⟨a.book.aF.length - (i38+1),aa,_,Le.sub (List.Sublist.refl _),i38+1,f,rfl,aa,o,rfl,?_⟩;simp only[*,go_sem]
 have cf:=Nat.not_lt.2 z;refine cx hJ ?_;rw[List.drop_eq_nil_of_le z] at d;obtain rfl:=sI d;clear d;have h:=u;dsimp only[aJ] at h;cases h;apply b6;simp only[go_sem];apply az hJ _;apply aQ;simp only[*,go_sem]
def bt.setAt (h:bt)(i n:Int):Option bt:=if i=0 then some {h with e0:=n} else if i=1 then some {h with e1:=n} else if i=2 then some {h with e2:=n} else none
theorem bt.HQ {h a:bt}{i n:Int}(e:h.setAt i n=some a):(i=0/\a={h with e0:=n})\/(i=1/\a={h with e1:=n})\/(i=2/\a={h with e2:=n}):=by
 unfold bt.setAt at e;split at e
 .exact .inl ⟨‹_›,(Option.some.inj e).symm⟩
 .split at e
  .exact .inr (.inl ⟨‹_›,(Option.some.inj e).symm⟩)
  .split at e
   .exact .inr (.inr ⟨‹_›,(Option.some.inj e).symm⟩)
   .cases e
def jL (f:bt->List (Option bt)×bt)(i hi:Int):Nat->Int->bt->List (Option bt)×bt
 |0,_,h=>([none],h)
 |k+1,n,h=>if n<=hi then match h.setAt i n with
   |none=>([none],h)
   |some a=>((f a).1++(jL f i hi k (IntKind.i64.wrap (n+1)) (f a).2).1,(jL f i hi k (IntKind.i64.wrap (n+1)) (f a).2).2)
  else ([],h)
def fB (b:an):Nat->Int->bt->List (Option bt)×bt
 |0,_,h=>([none],h)
 |fuel+1,i,h=>if i=b.aF.length then ((match oY b h with
   |some true=>[some h]
   |some false=>[]
   |none=>[none]),h)
  else match bD b.aF i with
   |none=>([none],h)
   |some e=>jL (fB b fuel (IntKind.i64.wrap (i+1))) i e.high.high 100 e.high.low h
def mz (b:an):List (Option bt):=(fB b 5 0 ⟨0,0,0⟩).1
theorem HR {H σ:Type}{step:σ->H->Option (Bool×σ)}{l l':List (Option H)}{s s':σ}{c:Bool}(h:fN step (l++l') s=some (c,s')):
  (∃s1,fN step l s=some (true,s1)/\fN step l' s1=some (c,s'))\/(fN step l s=some (false,s')/\c=false):=by
 rw[BM] at h
 split at h
 .rename_i s1 a;exact .inl ⟨s1,a,h⟩
 .rename_i s1 a;simp only[Option.some.injEq,Prod.mk.injEq] at h;obtain ⟨rfl,rfl⟩:=h;exact .inr ⟨a,rfl⟩
 .cases h
theorem rq {H σ:Type}{step:σ->H->Option (Bool×σ)}{s:σ}{r:Bool×σ}(h:fN step [none] s=some r):False:=by cases h
section
variable {ro:Addr->Option Value}{σ:Type}{step:σ->bt->Option (Bool×σ)}{I:σ->List (Nat×Obj)->Prop}{y:Value}
def oZ (b:an)(s1 s2 a c y:Value)(b2 b3 b4 b5:Nat)(h:bt):List (Nat×Obj):=
 [(b5,.cells #[.func (.func 137) #[] #[.pointer (some ⟨b2,0,none⟩),.pointer (some ⟨b4,0,none⟩),.pointer (some ⟨b3,0,none⟩),.pointer (some ⟨b5,0,none⟩)]] 131),
  (b4,.cells #[.int .i64 h.e0,.int .i64 h.e1,.int .i64 h.e2] 133),(b3,.cells #[y] 150),
  (b2,.cells #[.int .i64 b.bV,.int .i64 b.bU,.int .i64 b.bq.num,.int .i64 b.bq.den,s1,s2,a,c] 92)]
theorem HS (u0:an){s1 s2 x z:Value}(F:aH fH ro s1 u0.aE)(G:aH eU ro s2 u0.props)(H:aH fo ro x u0.aF)(K:aH dG ro z u0.told)(W:xe Tryz.prog y bt.v step ro I)
  {b2 b3 b4 b5:Nat} (n1:¬b5=b4) (n2:¬b5=b3) (n3:¬b5=b2) (bc:¬b4=b3) (bd:¬b4=b2) (bj:¬b3=b2) (bk:∀off sp,ro ⟨b5,off,sp⟩=none) (bl:∀off sp,ro ⟨b4,off,sp⟩=none) (bm:∀off sp,ro ⟨b3,off,sp⟩=none) (bo:∀off sp,ro ⟨b2,off,sp⟩=none):
  ∀(fuel:Nat) (i:Int) (b:bt) (s:σ) (c:Bool) (s':σ),fN step (fB u0 fuel i b).1 s=some (c,s')->∀(main:Bool) (J:Goroutine->af->Prop),Closed Tryz.prog main J->∀own,I s own->
   dn Tryz.prog J 137 #[.int .i64 i,.pointer (some ⟨b2,0,none⟩),.pointer (some ⟨b4,0,none⟩),.pointer (some ⟨b3,0,none⟩),.pointer (some ⟨b5,0,none⟩)] ⟨ro,oZ u0 s1 s2 x z y b2 b3 b4 b5 b++own⟩
    (fun v F'=>∃o q,Le ⟨ro,oZ u0 s1 s2 x z y b2 b3 b4 b5 o++q⟩ F'/\v= .bool c/\I s' q/\(c=true->o=(fB u0 fuel i b).2)):=by
 intro fuel
 induction fuel with
 |zero=>intro i b s c s' h;exact (rq h).elim
 |succ fuel ih=>
  intro i b s c s' h main J hJ own j
  obtain ⟨L,M,rfl,br,bs,e1⟩:=id F
  obtain ⟨N,O,rfl,bz,bS,e2⟩:=id G
  obtain ⟨X,P,rfl,b0,b1,Y⟩:=id H
  obtain ⟨Q,R,rfl,ca,cb,cd⟩:=id K
  refine dn.go hJ Tryz.func137 rfl Tryz.ntmps137 Tryz.results137 au fun A Z hd hs=>?_
  have ab:=hs 0
  have k1:=hs 1
  have ad:=hs 2
  have ae:=hs 3
  have al:=hs 4
  clear hs
  unfold fB at h
  have cf:(0:Int)<((3:Nat):Int):=aB
  have cl:(1:Int)<((3:Nat):Int):=aB
  have cy:(2:Int)<((3:Nat):Int):=aB
  repeat apply ah hJ
  apply aS hJ
  apply bY _
  repeat apply ah hJ
  apply aS hJ
  simp only[oZ,go_sem, *,-h]
  repeat apply ah hJ
  by_cases hi:i=(u0.aF.length:Int)
  .rw[if_pos hi] at h
   repeat apply ah hJ
   refine eC hJ dI ?_
   repeat apply ah hJ
   refine aG hJ fun nd=>?_
   repeat apply ah hJ
   apply aS hJ
   apply bY _
   cases f:oY u0 b with
   |none=>rw[f] at h;exact (rq h).elim
   |some r=>
    rw[f] at h
    refine bf hJ _ (HM u0 ⟨(F.mono bn),(G.mono bn),(H.mono bn),(K.mono bn)⟩ b f) (aO ?_)
    cases r with
    |false=>
     cases h
     apply ag _
     repeat apply ah hJ
     apply aQ
     apply ag _
     refine ⟨b,own,Le.refl _,?_⟩
     first|exact ⟨rfl,j,fun _=>by unfold fB;rw[if_pos rfl]⟩|exact ⟨j,fun _=>by unfold fB;rw[if_pos rfl]⟩|exact ⟨j,by unfold fB;rw[if_pos rfl]⟩|exact j
    |true=>
     have ao:step s b=some (c,s'):=by
      simp only[fN] at h
      split at h<;>first|(cases h;assumption)|cases h
     apply bY _
     refine GP hJ (oZ u0 (.slice L u0.aE.length M) (.slice N u0.props.length O) (.slice X u0.aF.length P) (.slice Q u0.told.length R) y b2 b3 b4 b5 b) (fun m ar a0=>W s b c s' ao m ar a0 own j) nd ?_
     rintro v q ⟨rfl,S⟩ cS
     apply aO
     apply bY _
     repeat apply ah hJ
     apply aQ
     apply bY _
     refine ⟨b,q,Le.refl _,?_⟩
     first|exact ⟨rfl,S,fun _=>by unfold fB;rw[if_pos rfl]⟩|exact ⟨S,fun _=>by unfold fB;rw[if_pos rfl]⟩
  .rw[if_neg hi] at h
   have c0:(i==(u0.aF.length:Int))=false:=by simpa using hi
   repeat apply ah hJ
   refine eu hJ dI ?_
   apply aP hJ
   cases f:bD u0.aF i with
   |none=>rw[f] at h;exact (rq h).elim
   |some e=>
    rw[f] at h
    simp only at h
    have a2:=f
    obtain ⟨da,db,T⟩:=cP f
    obtain ⟨a3,cse,a4,a5,t⟩:=Y _ _ T
    obtain rfl:cse=e.cells:=a5
    cases a4
    have a6:=t 0 _ rfl;simp only[go_sem] at a6
    have a7:=t 1 _ rfl;simp only[go_sem] at a7
    have a8:=t 2 _ rfl;simp only[go_sem] at a8
    clear t T
    repeat apply ah hJ
    apply aS hJ
    apply bY _
    repeat apply ah hJ
    apply aX hJ
    refine cc hJ [6,7,31,32,33,34,35,36,37,38,39,40,41,42,43,44,45,46,47,48,49,50] (fun m a9 F'=>∃(n:Int) (h:bt) (s:σ) (own:List (Nat×Obj)),fN step (jL (fB u0 fuel (IntKind.i64.wrap (i+1))) i e.high.high m n h).1 s=some (c,s')/\
     (c=true->(jL (fB u0 fuel (IntKind.i64.wrap (i+1))) i e.high.high m n h).2=(fB u0 (fuel+1) i b).2)/\F'=⟨ro,oZ u0 (.slice L u0.aE.length M) (.slice N u0.props.length O) (.slice (some a3) u0.aF.length P) (.slice Q u0.told.length R) y b2 b3 b4 b5 h++own⟩/\I s own/\slot a9 7= .int .i64 n) 100 ?_ ?_
    .have ba:(fB u0 (fuel+1) i b).2=(jL (fB u0 fuel (IntKind.i64.wrap (i+1))) i e.high.high 100 e.high.low b).2:=by
      rw[fB,if_neg hi,a2]
     exact ⟨e.high.low,b,s,own,h,fun _=>ba.symm,rfl,j,dI⟩
    .rintro m k F' g ⟨n,o,s1,B,a,d,rfl,p,dd⟩
     clear h j
     have df:sz k=51:=by rw[g.size];simp only[*,go_sem]
     have kd:k.defers=[]:=by rw[g.defers];simp only[*,go_sem]
     have dk:slot k 0= .int .i64 i:=by rw[g.eK 0 aB];simp only[*,go_sem]
     have dp:slot k 1= .pointer (some ⟨b2,0,none⟩):=by rw[g.eK 1 aB];simp only[*,go_sem]
     have dq:slot k 2= .pointer (some ⟨b4,0,none⟩):=by rw[g.eK 2 aB];simp only[*,go_sem]
     have ds:slot k 3= .pointer (some ⟨b3,0,none⟩):=by rw[g.eK 3 aB];simp only[*,go_sem]
     have dt:slot k 4= .pointer (some ⟨b5,0,none⟩):=by rw[g.eK 4 aB];simp only[*,go_sem]
     clear g ab k1 ad ae al Z hd
     obtain _|m:=m
     .exact (rq a).elim
     unfold jL at a d
     repeat apply ah hJ
     apply aS hJ
     simp only[oZ,go_sem, *,-a]
     repeat apply ah hJ
     by_cases u:n<=e.high.high
     .rw[if_pos u] at a
      rw[if_pos u] at d
      repeat apply ah hJ
      refine eC hJ (by simp only[*,go_sem,-a]) ?_
      apply aP hJ
      cases C:o.setAt i n with
      |none=>rw[C] at a;exact (rq a).elim
      |some du=>
       rw[C] at a d
       simp only at a d
       repeat apply ah hJ
       apply aX hJ
       repeat apply ah hJ
       refine aG hJ fun nd=>?_
       repeat apply ah hJ
       apply aS hJ
       rcases bt.HQ C with ⟨D,rfl⟩|⟨D,rfl⟩|⟨D,rfl⟩<;>subst D<;>
       (simp only[*,go_sem,-a]
        repeat apply ah hJ
        apply aS hJ
        simp only[*,go_sem,-a]
        have bb:=HR a
        clear a
        rcases bb with ⟨s2,E,a⟩|⟨E,rfl⟩
        .refine dn.less hJ ((ih _ _ _ _ _ E _ J hJ B p).mono ?_)
         rintro v F' ⟨U,V,hle,rfl,l,w⟩
         have w:=w rfl
         subst w
         refine ⟨_,hle,aO ?_⟩
         simp only[*,go_sem,-a]
         repeat apply ah hJ
         refine eu hJ (by simp only[*,go_sem,-a]) ?_
         apply aP hJ
         repeat apply ah hJ
         apply aS hJ
         simp only[*,go_sem,-a]
         exact ⟨m,Nat.lt_succ_self m,_,Le.refl _,_,_,_,_,a,d,rfl,l,by simp only[*,go_sem,-a]⟩
        .refine dn.less hJ ((ih _ _ _ _ _ E _ J hJ B p).mono ?_)
         rintro v F' ⟨U,V,hle,rfl,l,w⟩
         refine ⟨_,hle,aO ?_⟩
         apply ag _
         repeat apply ah hJ
         refine eC hJ aN ?_
         repeat apply ah hJ
         apply aS hJ
         apply ag _
         repeat apply ah hJ
         apply aQ
         apply ag _
         refine ⟨U,V,Le.refl _,?_⟩
         first|exact ⟨rfl,l,fun h=>by cases h⟩|exact ⟨l,fun h=>by cases h⟩|exact l|exact ⟨l,trivial⟩)
     .rw[if_neg u] at a
      rw[if_neg u] at d
      simp only[fN,Option.some.injEq,Prod.mk.injEq] at a
      obtain ⟨rfl,rfl⟩:=a
      repeat apply ah hJ
      refine eu hJ aN ?_
      apply b6
      simp only[go_sem]
      repeat apply ah hJ
      apply aS hJ
      apply ag _
      repeat apply ah hJ
      apply aQ
      apply ag _
      refine ⟨o,B,Le.refl _,?_⟩
      first|exact ⟨rfl,p,fun h=>d h⟩|exact ⟨p,fun h=>d h⟩|exact ⟨p,d rfl⟩
theorem ru (u0:an){s1 s2 j k:Value}(e:aH fH ro s1 u0.aE)(f:aH eU ro s2 u0.props)(g:aH fo ro j u0.aF)(h:aH dG ro k u0.told):
  ni Tryz.prog 81 #[.agg #[.int .i64 u0.bV,.int .i64 u0.bU,.int .i64 u0.bq.num,.int .i64 u0.bq.den,s1,s2,j,k]] #[] bt.v (mz u0) ro:=by
 refine ⟨by simp only[go_sem],fun aW b σ step I r t u l s c s' a main J hJ own m=>?_⟩
 replace e:=e.mono b
 replace f:=f.mono b
 replace g:=g.mono b
 replace h:=h.mono b
 refine dn.go hJ Tryz.func81 rfl Tryz.ntmps81 Tryz.results81 au fun A w hd hs=>?_
 have x:=hs 0
 have k1:=hs 1
 clear hs
 repeat apply ah hJ
 apply aS hJ
 try simp only[*,go_sem,-a]
 intro b2 f2;have r2:=e8 f2;have n2:=gr f2
 intro b3 f3;have r3:=e8 f3;have n3:=gr f3
 simp only[av] at n3
 try simp only[*,go_sem,-a]
 repeat apply ah hJ
 apply aS hJ
 try simp only[*,go_sem,-a]
 intro b4 f4;have n:=e8 f4;have i:=gr f4
 simp only[av] at i
 try simp only[*,go_sem,-a]
 repeat apply ah hJ
 apply aS hJ
 try simp only[*,go_sem,-a]
 intro b5 f5;have o:=e8 f5;have d:=gr f5
 simp only[av] at d
 try simp only[*,go_sem,-a]
 repeat apply ah hJ
 apply aS hJ
 try simp only[*,go_sem,-a]
 repeat apply ah hJ
 apply aS hJ
 try simp only[*,go_sem,-a]
 refine dn.less hJ ((HS u0 e f g h l (b2:=b2) (b3:=b3) (b4:=b4) (b5:=b5) d.1 d.2.1 d.2.2.1 i.1 i.2.1 n3.1 o n r3 r2 5 0 ⟨0,0,0⟩ s c s' a main J hJ own m).mono ?_)
 rintro v F' ⟨y,p,hle,rfl,q,_⟩
 exact ⟨_,hle,p,Le.sub (List.sublist_append_right _ _),q⟩
end
def uk (u0:List bM):Option (List bM):=if u0.length<=1000000 then some u0 else none
theorem xy {ro:Addr->Option Value}(u0:List bM){s1:Value}(b:aH dG ro s1 u0){x:List bM}(h:uk u0=some x):aD Tryz.prog 116 #[s1] ⟨ro,[]⟩ (fun v G=>∃a,bg dG ro 86 v x a/\Le ⟨ro,a⟩ G):=by
 obtain ⟨ad,cap,rfl,le,d,e⟩:=id b;unfold uk at h;split at h
 case isFalse=>cases h
 rename_i hlen;obtain rfl:=Option.some.inj h;clear h;refine aD.go Tryz.func116 rfl Tryz.ntmps116 Tryz.results116 au fun main J hJ A f hd hs=>?_;have g:=hs 0;clear hs;apply az hJ _;cases ad with
 |none=>
  have hu:u0=[]:=by
   cases u0 with
   |nil=>rfl
   |cons x l=>obtain ⟨p,cs,c,_⟩:=e 0 x rfl;cases c
  subst hu;first|refine aC hJ ?_|refine ah hJ (aC hJ ?_)
  apply ag _;refine eC hJ aN ?_;apply az hJ _;refine cg ?_;exact ⟨[],bg.nil _ _ _,Le.refl _⟩
 |some p=>
  first|refine aC hJ ?_|refine ah hJ (aC hJ ?_)
  apply ag _;refine eu hJ aN ?_;apply aP hJ;apply az hJ _;intro i f1;have r1:=e8 f1;try apply ag _
  refine qS r1 trivial rfl hlen b rfl rfl eG eG iH iJ rfl iI aB aB (fun v a hg j=>aO ?_);apply ag _;refine cg ?_;exact ⟨a,hg,Le.refl _⟩
def um (u0:List cq):Option (List cq):=if u0.length<=1000000 then some u0 else none
theorem B3 {ro:Addr->Option Value}(u0:List cq){s1:Value}(b:aH fo ro s1 u0){x:List cq}(h:um u0=some x):aD Tryz.prog 119 #[s1] ⟨ro,[]⟩ (fun v G=>∃a,bg fo ro 66 v x a/\Le ⟨ro,a⟩ G):=by
 obtain ⟨ad,cap,rfl,le,d,e⟩:=id b;unfold um at h;split at h
 case isFalse=>cases h
 rename_i hlen;obtain rfl:=Option.some.inj h;clear h;refine aD.go Tryz.func119 rfl Tryz.ntmps119 Tryz.results119 au fun main J hJ A f hd hs=>?_;have g:=hs 0;clear hs;apply az hJ _;cases ad with
 |none=>
  have hu:u0=[]:=by
   cases u0 with
   |nil=>rfl
   |cons x l=>obtain ⟨p,cs,c,_⟩:=e 0 x rfl;cases c
  subst hu;first|refine aC hJ ?_|refine ah hJ (aC hJ ?_)
  apply ag _;refine eC hJ aN ?_;apply az hJ _;refine cg ?_;exact ⟨[],bg.nil _ _ _,Le.refl _⟩
 |some p=>
  first|refine aC hJ ?_|refine ah hJ (aC hJ ?_)
  apply ag _;refine eu hJ aN ?_;apply aP hJ;apply az hJ _;intro i f1;have r1:=e8 f1;try apply ag _
  refine qS r1 trivial rfl hlen b rfl rfl Bh Bh F6 F8 rfl F7 aB aB (fun v a hg j=>aO ?_);apply ag _;refine cg ?_;exact ⟨a,hg,Le.refl _⟩
def xz (u0:List cv):Option (List cv):=if u0.length<=1000000 then some u0 else none
theorem HT {ro:Addr->Option Value}(u0:List cv){s1:Value}(b:aH fH ro s1 u0){x:List cv}(h:xz u0=some x):aD Tryz.prog 147 #[s1] ⟨ro,[]⟩ (fun v G=>∃a,bg fH ro 125 v x a/\Le ⟨ro,a⟩ G):=by
 obtain ⟨ad,cap,rfl,le,d,e⟩:=id b;unfold xz at h;split at h
 case isFalse=>cases h
 rename_i hlen;obtain rfl:=Option.some.inj h;clear h;refine aD.go Tryz.func147 rfl Tryz.ntmps147 Tryz.results147 au fun main J hJ A f hd hs=>?_;have g:=hs 0;clear hs;apply az hJ _;cases ad with
 |none=>
  have hu:u0=[]:=by
   cases u0 with
   |nil=>rfl
   |cons x l=>obtain ⟨p,cs,c,_⟩:=e 0 x rfl;cases c
  subst hu;first|refine aC hJ ?_|refine ah hJ (aC hJ ?_)
  apply ag _;refine eC hJ aN ?_;apply az hJ _;refine cg ?_;exact ⟨[],bg.nil _ _ _,Le.refl _⟩
 |some p=>
  first|refine aC hJ ?_|refine ah hJ (aC hJ ?_)
  apply ag _;refine eu hJ aN ?_;apply aP hJ;apply az hJ _;intro i f1;have r1:=e8 f1;try apply ag _
  refine qS r1 trivial rfl hlen b rfl rfl Bg Bg Gc wX rfl Gd aB aB (fun v a hg j=>aO ?_);apply ag _;refine cg ?_;exact ⟨a,hg,Le.refl _⟩
def uo (u0:List cF):Option (List cF):=if u0.length<=1000000 then some u0 else none
theorem B4 {ro:Addr->Option Value}(u0:List cF){s1:Value}(b:aH eU ro s1 u0){x:List cF}(h:uo u0=some x):aD Tryz.prog 148 #[s1] ⟨ro,[]⟩ (fun v G=>∃a,bg eU ro 159 v x a/\Le ⟨ro,a⟩ G):=by
 obtain ⟨ad,cap,rfl,le,d,e⟩:=id b;unfold uo at h;split at h
 case isFalse=>cases h
 rename_i hlen;obtain rfl:=Option.some.inj h;clear h;refine aD.go Tryz.func148 rfl Tryz.ntmps148 Tryz.results148 au fun main J hJ A f hd hs=>?_;have g:=hs 0;clear hs;apply az hJ _;cases ad with
 |none=>
  have hu:u0=[]:=by
   cases u0 with
   |nil=>rfl
   |cons x l=>obtain ⟨p,cs,c,_⟩:=e 0 x rfl;cases c
  subst hu;first|refine aC hJ ?_|refine ah hJ (aC hJ ?_)
  apply ag _;refine eC hJ aN ?_;apply az hJ _;refine cg ?_;exact ⟨[],bg.nil _ _ _,Le.refl _⟩
 |some p=>
  first|refine aC hJ ?_|refine ah hJ (aC hJ ?_)
  apply ag _;refine eu hJ aN ?_;apply aP hJ;apply az hJ _;intro i f1;have r1:=e8 f1;try apply ag _
  refine qS r1 trivial rfl hlen b rfl rfl l8 l8 tn tr rfl tq aB aB (fun v a hg j=>aO ?_);apply ag _;refine cg ?_;exact ⟨a,hg,Le.refl _⟩
def uq (u0:List Int):Option (List Int):=if u0.length<=1000000 then some u0 else none
theorem B5 {ro:Addr->Option Value}(u0:List Int){s1:Value}(b:aH rI ro s1 u0){x:List Int}(h:uq u0=some x):aD Tryz.prog 135 #[s1] ⟨ro,[]⟩ (fun v G=>∃a,bg rI ro 3 v x a/\Le ⟨ro,a⟩ G):=by
 obtain ⟨ad,cap,rfl,le,d,e⟩:=id b;unfold uq at h;split at h
 case isFalse=>cases h
 rename_i hlen;obtain rfl:=Option.some.inj h;clear h;refine aD.go Tryz.func135 rfl Tryz.ntmps135 Tryz.results135 au fun main J hJ A f hd hs=>?_;have g:=hs 0;clear hs;apply az hJ _;cases ad with
 |none=>
  have hu:u0=[]:=by
   cases u0 with
   |nil=>rfl
   |cons x l=>obtain ⟨p,cs,c,_⟩:=e 0 x rfl;cases c
  subst hu;first|refine aC hJ ?_|refine ah hJ (aC hJ ?_)
  apply ag _;refine eC hJ aN ?_;apply az hJ _;refine cg ?_;exact ⟨[],bg.nil _ _ _,Le.refl _⟩
 |some p=>
  first|refine aC hJ ?_|refine ah hJ (aC hJ ?_)
  apply ag _;refine eu hJ aN ?_;apply aP hJ;apply az hJ _;intro i f1;have r1:=e8 f1;try apply ag _
  refine qS r1 trivial rfl hlen b rfl rfl fW fW kX kZ rfl kY aB aB (fun v a hg j=>aO ?_);apply ag _;refine cg ?_;exact ⟨a,hg,Le.refl _⟩
def uu (u0:an)(i43:Nat)(b:(an->Option Int))(st:Int):Option (Fl Int (an×Int)):=
 ai (b u0) fun a=>cond ((a != 0)) (some (.rt ((⟨0,0,(⟨0,0⟩:ax),([]:(List cv)),([]:(List cF)),([]:(List cq)),([]:(List bM))⟩:an),a))) (some (.nx st))
def fO (u0:an)(b:(List (an->Option Int))):Option (an×Int):=
 ai (fe u0) fun a=>cond ((a != 0)) (some ((⟨0,0,(⟨0,0⟩:ax),([]:(List cv)),([]:(List cF)),([]:(List cq)),([]:(List bM))⟩:an),a)) (ai (bR (uu u0) 0 b 0) fun o=>aJ o (fun c=>some (u0,0)) (fun _ _=>none) (fun r=>some r))
theorem ku {ro:Addr->Option Value}(D:dH ro)(u0:an){s1 f g i:Value}(b:bW ro u0 s1 f g i)(c:(List (an->Option Int))){o:Value}(q:aH (dw) ro o c){r:(an×Int)}(h:fO u0 c=some r):e4 Tryz.prog 76 #[bv u0 s1 f g i,o] ro (fun v aW=>∃s w1 w2 w3,v= .tuple #[bv r.1 s w1 w2 w3,.int .i64 r.2]/\bW aW r.1 s w1 w2 w3):=by
 obtain ⟨d31,ae,rfl,al,E,-⟩:=id q;unfold fO at h;have F:=b.oc;simp only[bP] at F;refine aD.go Tryz.func76 rfl Tryz.ntmps76 Tryz.results76 au fun main J hJ A G hd hs=>?_;have H:=hs 0;have k1:=hs 1;clear hs;apply az hJ _;refine aA fun I ao K=>?_;try simp only[av] at K
 refine aA fun L ar M=>?_;try simp only[av] at M
 refine ah hJ (aC hJ ?_);revert h;refine bS fun a0 N h=>?_;apply ag _;refine bf hJ _ (BY (D.mono bn) u0 (b.e.mono bn) (b.p.mono bn) (b.y.mono bn) (b.t.mono bn) N) (aO ?_);apply ag _;apply az hJ _;revert h;refine bh hJ (fun O h=>?_) fun O h=>?_
 .cases h;apply az hJ _;refine cg ?_;exact ⟨_,Ext.refl _,Le.sub (List.nil_sublist _),_,_,_,_,rfl,⟨aH.nil _ _,aH.nil _ _,aH.nil _ _,aH.nil _ _⟩⟩
 refine aP hJ (ah hJ ?_);apply aM hJ _;refine aA fun P a2 Q=>?_;try simp only[av] at Q
 refine ah hJ (aC hJ ?_);apply ag _;apply aX hJ;revert h;refine bS fun R d u=>?_;refine cc hJ (rg 21 12 [5,9,10]) (fun m w F'=>∃(i43:Nat) (j:Int),m=c.length - i43/\i43<=c.length/\bR (uu u0) i43 (c.drop i43) j=some R/\F'=⟨ro,(P,bl u0 s1 f g i)::(L,bz 92)::(I,bk u0 s1 f g i)::[]⟩/\slot w 21= .int .i64 (i43:Int)/\slot w 5= .int .i64 j) c.length ?_ ?_
 .refine ⟨0,0,(Nat.sub_zero _).symm,Nat.zero_le _,d,rfl,?_⟩;simp only[*,go_sem]
 rintro a3 a4 F' z ⟨i43,j,rfl,a5,d,rfl,a6,a7⟩;obtain ⟨S,T,U⟩:=z.pick [4,7,19,20] aB;simp only[*,go_sem] at S T U;clear z G hd H k1;apply az hJ _;apply ah hJ;rcases Nat.lt_or_ge i43 c.length with V|B
 .refine cB hJ ?_;apply aP hJ;obtain ⟨a8,k⟩:∃x,c[i43]?=some x:=⟨_,List.getElem?_eq_getElem V⟩
  rw[dK k] at d;revert d;refine bS fun a9 h l=>?_;unfold uu at h;try dsimp only at h
  obtain ⟨ba,bb,W,X,C⟩:=q.el _ _ k;obtain ⟨bc,bd,bj,rfl,Y⟩:=X;cases W;have Z:=C 0 _ rfl;simp only[go_sem] at Z;clear C k;refine ah hJ (aX hJ (ah hJ ?_));apply aM hJ _;apply aC hJ;revert h;refine bS fun bm ab h=>?_;apply ag _;refine bf hJ _ (Y.2 _ (fun a v h=>bn a v h) u0 _ _ _ _ _ (b.e.mono bn) (b.p.mono bn) (b.y.mono bn) (b.t.mono bn) ab) (aO ?_);apply ag _;apply az hJ _;revert h;refine bh hJ (fun ad h=>?_) fun ad h=>?_
  .cases h;apply az hJ _;obtain rfl:=sI l;clear l;have h:=u;dsimp only[aJ] at h;cases h;refine cg ?_;exact ⟨_,Ext.refl _,Le.sub (List.nil_sublist _),_,_,_,_,rfl,⟨aH.nil _ _,aH.nil _ _,aH.nil _ _,aH.nil _ _⟩⟩
  cases h;apply aP hJ;have bo:=cK (n:=i43) (by have:=E;omega);apply aM hJ _;refine ⟨c.length - (i43+1),aa,_,Le.sub (List.Sublist.refl _),i43+1,j,rfl,aa,l,rfl,?_⟩;simp only[*,go_sem]
 have br:=Nat.not_lt.2 B;refine cx hJ ?_;rw[List.drop_eq_nil_of_le B] at d;obtain rfl:=sI d;clear d;have h:=u;dsimp only[aJ] at h;cases h;apply b6;simp only[go_sem];apply az hJ _;refine cg ?_;exact ⟨_,Ext.refl _,Le.sub (List.nil_sublist _),_,_,_,_,rfl,b⟩
def xA (u0:an)(b:Int):Option (ax×Int):=
 ai (fO u0 ([(oP b)])) fun a=>cond ((a.2 != 0)) (some ((⟨0,0⟩:ax),a.2)) (ai (jK a.1 b) fun c=>some (c,0))
theorem HU {ro:Addr->Option Value}(f:dH ro)(u0:an){s1 g i j:Value}(k:bW ro u0 s1 g i j)(a:Int){r:(ax×Int)}(h:xA u0 a=some r):aD Tryz.prog 42 #[bv u0 s1 g i j,.int .i64 a] ⟨ro,[]⟩ (fun v _=>v= .tuple #[r.1.v,.int .i64 r.2]):=by
 unfold xA at h;refine aD.go Tryz.func42 rfl Tryz.ntmps42 Tryz.results42 au fun main J hJ A V hd hs=>?_;have W:=hs 0;have k1:=hs 1;clear hs;apply az hJ _;refine aA fun B C D=>?_;try simp only[av] at D
 refine aA fun E F G=>?_;try simp only[av] at G
 apply ah hJ;refine aG hJ fun H=>?_;apply aS hJ;revert h;refine bS fun I K h=>?_;apply ag _;refine aA fun c m n=>?_;have q:=aZ.cons n H;try simp only[av] at n
 obtain ⟨l,s,u⟩:=fM (b:=c) (o:=(.cells #[.func (.func 112) #[.int .i64 a] #[]] 116)) [] ((E,rt 0 0)::(B,bk u0 s1 g i j)::[]) q m (aK.cons F (aK.cons C (aK.nil _)));have w:aH (dw) (b7 ro c (.cells #[.func (.func 112) #[.int .i64 a] #[]] 116)) (.slice (some ⟨c,0,none⟩) 1 1) [(oP a)]:=(aH.one (r:=(dw)) (e:=116) (cs:=#[.func (.func 112) #[.int .i64 a] #[]]) (x:=(oP a)) (own:=[(c,.cells #[.func (.func 112) #[.int .i64 a] #[]] 116)]) m (by simp[lk]) ⟨112,#[.int .i64 a],#[],rfl,⟨by simp only[go_sem],fun X Y L _ _ _ _ _ M N O P h=>by simp only[go_sem];exact Hs a L ⟨M,N,O,P⟩ h⟩⟩)
 generalize b7 ro c (.cells #[.func (.func 112) #[.int .i64 a] #[]] 116)=Z at w s l u;refine hU hJ u ?_;replace k:=k.mono l;replace f:=f.mono l;simp only[bF] at s;have Q:=aZ.tl q;refine cw hJ _ (ku f u0 k ([(oP a)]) w K) fun v ab ad R S=>?_;obtain ⟨ae,al,ao,ar,rfl,d⟩:=S;simp only[bF] at R;obtain ⟨d41,a0,rfl,a2,a3,-⟩:=id d.e;obtain ⟨d48,a4,rfl,a5,a6,-⟩:=id d.p;obtain ⟨d55,a7,rfl,a8,a9,-⟩:=id d.y;obtain ⟨d62,ba,rfl,bb,bc,-⟩:=id d.t;apply aO;apply ag _;refine aA fun bd bj z=>?_;have bl:=aZ.cons z Q;try simp only[av] at z
 refine ah hJ (aC hJ ?_);apply ag _;revert h;refine bh hJ (fun T h=>?_) fun T h=>?_
 .cases h;apply az hJ _;apply aQ;simp only[*,go_sem]
 refine aP hJ (ah hJ ?_);apply aS hJ;revert h;refine bS fun bm U h=>?_;cases h;apply ag _;refine bf hJ _ (B1 I.1 (d.mono bn) a U) (aO ?_);apply ag _;apply aQ;simp only[*,go_sem]
def xB (u0:an)(b:bA):Option (Int×ax×Int):=
 ai (fO u0 ([(fy b)])) fun a=>cond ((a.2 != 0)) (some (0,(⟨0,0⟩:ax),a.2)) (ai (mw a.1 b) fun c=>some (c.at_,c.high,0))
theorem HV {ro:Addr->Option Value}(k:dH ro)(u0:an){s1 f g i:Value}(j:bW ro u0 s1 f g i)(a:bA){r:(Int×ax×Int)}(h:xB u0 a=some r):aD Tryz.prog 43 #[bv u0 s1 f g i,.agg #[.int .i64 a.back,.int .i64 a.high]] ⟨ro,[]⟩ (fun v _=>v= .tuple #[.int .i64 r.1,r.2.1.v,.int .i64 r.2.2]):=by
 unfold xB at h;have D:=j.oc;simp only[bP] at D;refine aD.go Tryz.func43 rfl Tryz.ntmps43 Tryz.results43 au fun main J hJ A a2 hd hs=>?_;have a3:=hs 0;have k1:=hs 1;clear hs;apply az hJ _;refine aA fun m E F=>?_;try simp only[av] at F
 refine aA fun n G H=>?_;try simp only[av] at H
 refine aA fun I K L=>?_;try simp only[av] at L
 apply ah hJ;refine aG hJ fun M=>?_;apply aS hJ;revert h;refine bS fun p N h=>?_;apply ag _;refine aA fun d q s=>?_;have t:=aZ.cons s M;try simp only[av] at s
 obtain ⟨l,u,w⟩:=fM (b:=d) (o:=(.cells #[.func (.func 107) #[.agg #[.int .i64 a.back,.int .i64 a.high]] #[]] 116)) [] ((I,rt 0 0)::(n,.cells #[.int .i64 a.back,.int .i64 a.high] 61)::(m,bk u0 s1 f g i)::[]) t q (aK.cons K (aK.cons G (aK.cons E (aK.nil _))));have y:aH (dw) (b7 ro d (.cells #[.func (.func 107) #[.agg #[.int .i64 a.back,.int .i64 a.high]] #[]] 116)) (.slice (some ⟨d,0,none⟩) 1 1) [(fy a)]:=(aH.one (r:=(dw)) (e:=116) (cs:=#[.func (.func 107) #[.agg #[.int .i64 a.back,.int .i64 a.high]] #[]]) (x:=(fy a)) (own:=[(d,.cells #[.func (.func 107) #[.agg #[.int .i64 a.back,.int .i64 a.high]] #[]] 116)]) q (by simp[lk]) ⟨107,#[.agg #[.int .i64 a.back,.int .i64 a.high]],#[],rfl,⟨by simp only[go_sem],fun a4 a5 O _ _ _ _ _ P Q R S h=>by simp only[go_sem];exact tO a O ⟨P,Q,R,S⟩ h⟩⟩)
 generalize b7 ro d (.cells #[.func (.func 107) #[.agg #[.int .i64 a.back,.int .i64 a.high]] #[]] 116)=a6 at y u l w;refine hU hJ w ?_;replace j:=j.mono l;replace k:=k.mono l;simp only[bF] at u;have T:=aZ.tl t;refine cw hJ _ (ku k u0 j ([(fy a)]) y N) fun v U a7 V W=>?_;obtain ⟨X,Y,Z,ab,rfl,z⟩:=W;have ad:=z.oc;simp only[bP] at ad;simp only[bF] at V;apply aO;apply ag _;refine aA fun ae a8 B=>?_;have al:=aZ.cons B T;try simp only[av] at B
 refine ah hJ (aC hJ ?_);apply ag _;revert h;refine bh hJ (fun ao h=>?_) fun ao h=>?_
 .cases h;apply az hJ _;apply aQ;simp only[*,go_sem]
 refine aP hJ (ah hJ ?_);apply aS hJ;revert h;refine bS fun c ar h=>?_;cases h;apply ag _;refine bf hJ _ (tZ p.1 (z.mono bn) a ar) (aO ?_);apply ag _;refine aA fun a0 a9 C=>?_;have ba:=aZ.cons C al;try simp only[av] at C
 apply ah hJ;refine eJ hJ mixed 5 ⟨U,[(a0,.cells #[.int .i64 c.spot.aV,.int .i64 c.spot.high.num,.int .i64 c.spot.high.den,.int .i64 c.at_,.int .i64 c.high.num,.int .i64 c.high.den] 105),(ae,bl p.1 X Y Z ab),(n,.cells #[.int .i64 a.back,.int .i64 a.high] 61),(m,bk u0 s1 f g i)]⟩ aN aj ?_;apply ag _;apply aQ;simp only[*,go_sem]
def o3 (u0:an)(b:bA):Option (ax×Int):=
 ai (fO u0 ([(fy b)])) fun a=>cond ((a.2 != 0)) (some ((⟨0,0⟩:ax),a.2)) (ai (nB a.1 b) fun c=>some (c,0))
theorem B6 {ro:Addr->Option Value}(f:dH ro)(u0:an){s1 g i j:Value}(k:bW ro u0 s1 g i j)(a:bA){r:(ax×Int)}(h:o3 u0 a=some r):aD Tryz.prog 32 #[bv u0 s1 g i j,.agg #[.int .i64 a.back,.int .i64 a.high]] ⟨ro,[]⟩ (fun v _=>v= .tuple #[r.1.v,.int .i64 r.2]):=by
 unfold o3 at h;refine aD.go Tryz.func32 rfl Tryz.ntmps32 Tryz.results32 au fun main J hJ A Y hd hs=>?_;have Z:=hs 0;have k1:=hs 1;clear hs;apply az hJ _;refine aA fun B C D=>?_;try simp only[av] at D
 refine aA fun E F G=>?_;try simp only[av] at G
 refine aA fun H I K=>?_;try simp only[av] at K
 apply ah hJ;refine aG hJ fun L=>?_;apply aS hJ;revert h;refine bS fun M N h=>?_;apply ag _;refine aA fun c m n=>?_;have q:=aZ.cons n L;try simp only[av] at n
 obtain ⟨l,s,u⟩:=fM (b:=c) (o:=(.cells #[.func (.func 107) #[.agg #[.int .i64 a.back,.int .i64 a.high]] #[]] 116)) [] ((H,rt 0 0)::(E,.cells #[.int .i64 a.back,.int .i64 a.high] 61)::(B,bk u0 s1 g i j)::[]) q m (aK.cons I (aK.cons F (aK.cons C (aK.nil _))));have w:aH (dw) (b7 ro c (.cells #[.func (.func 107) #[.agg #[.int .i64 a.back,.int .i64 a.high]] #[]] 116)) (.slice (some ⟨c,0,none⟩) 1 1) [(fy a)]:=(aH.one (r:=(dw)) (e:=116) (cs:=#[.func (.func 107) #[.agg #[.int .i64 a.back,.int .i64 a.high]] #[]]) (x:=(fy a)) (own:=[(c,.cells #[.func (.func 107) #[.agg #[.int .i64 a.back,.int .i64 a.high]] #[]] 116)]) m (by simp[lk]) ⟨107,#[.agg #[.int .i64 a.back,.int .i64 a.high]],#[],rfl,⟨by simp only[go_sem],fun ab ad O _ _ _ _ _ P Q R S h=>by simp only[go_sem];exact tO a O ⟨P,Q,R,S⟩ h⟩⟩)
 generalize b7 ro c (.cells #[.func (.func 107) #[.agg #[.int .i64 a.back,.int .i64 a.high]] #[]] 116)=ae at w s l u;refine hU hJ u ?_;replace k:=k.mono l;replace f:=f.mono l;simp only[bF] at s;have T:=aZ.tl q;refine cw hJ _ (ku f u0 k ([(fy a)]) w N) fun v al ao U V=>?_;obtain ⟨ar,a0,a2,a3,rfl,d⟩:=V;simp only[bF] at U;obtain ⟨d42,a4,rfl,a5,a6,-⟩:=id d.e;obtain ⟨d49,a7,rfl,a8,a9,-⟩:=id d.p;obtain ⟨d56,ba,rfl,bb,bc,-⟩:=id d.y;obtain ⟨d63,bd,rfl,bj,bl,-⟩:=id d.t;apply aO;apply ag _;refine aA fun bm bo z=>?_;have br:=aZ.cons z T;try simp only[av] at z
 refine ah hJ (aC hJ ?_);apply ag _;revert h;refine bh hJ (fun W h=>?_) fun W h=>?_
 .cases h;apply az hJ _;apply aQ;simp only[*,go_sem]
 refine aP hJ (ah hJ ?_);apply aS hJ;revert h;refine bS fun bs X h=>?_;cases h;apply ag _;refine bf hJ _ (BZ M.1 (d.mono bn) a X) (aO ?_);apply ag _;apply aQ;simp only[*,go_sem]
def xC (u0:an)(c:bA):Option (ax×Bool×Int):=
 ai (fO u0 ([(fy c)])) fun b=>cond ((b.2 != 0)) (some ((⟨0,0⟩:ax),false,b.2)) (ai (ko b.1 c) fun a=>cond (((a.length:Int)==0)) (some ((⟨0,0⟩:ax),false,0)) (ai (bD a 0) fun d=>ai (iF a 1 (a.length:Int)) fun e=>ai (nq jI d e) fun f=>some (f.high,true,0)))
theorem HW {ro:Addr->Option Value}(l:dH ro)(u0:an){s1 f g i:Value}(j:bW ro u0 s1 f g i)(a:bA){r:(ax×Bool×Int)}(h:xC u0 a=some r):aD Tryz.prog 44 #[bv u0 s1 f g i,.agg #[.int .i64 a.back,.int .i64 a.high]] ⟨ro,[]⟩ (fun v _=>v= .tuple #[r.1.v,.bool r.2.1,.int .i64 r.2.2]):=by
 unfold xC at h;have N:=j.oc;simp only[bP] at N;refine aD.go Tryz.func44 rfl Tryz.ntmps44 Tryz.results44 au fun main J hJ A cy hd hs=>?_;have cS:=hs 0;have k1:=hs 1;clear hs;apply az hJ _;refine aA fun s O P=>?_;try simp only[av] at P
 refine aA fun t Q R=>?_;try simp only[av] at R
 refine aA fun S T U=>?_;try simp only[av] at U
 apply ah hJ;refine aG hJ fun V=>?_;apply aS hJ;revert h;refine bS fun u W h=>?_;apply ag _;refine aA fun d w y=>?_;have z:=aZ.cons y V;try simp only[av] at y
 obtain ⟨m,B,C⟩:=fM (b:=d) (o:=(.cells #[.func (.func 107) #[.agg #[.int .i64 a.back,.int .i64 a.high]] #[]] 116)) [] ((S,rt 0 0)::(t,.cells #[.int .i64 a.back,.int .i64 a.high] 61)::(s,bk u0 s1 f g i)::[]) z w (aK.cons T (aK.cons Q (aK.cons O (aK.nil _))));have D:aH (dw) (b7 ro d (.cells #[.func (.func 107) #[.agg #[.int .i64 a.back,.int .i64 a.high]] #[]] 116)) (.slice (some ⟨d,0,none⟩) 1 1) [(fy a)]:=(aH.one (r:=(dw)) (e:=116) (cs:=#[.func (.func 107) #[.agg #[.int .i64 a.back,.int .i64 a.high]] #[]]) (x:=(fy a)) (own:=[(d,.cells #[.func (.func 107) #[.agg #[.int .i64 a.back,.int .i64 a.high]] #[]] 116)]) w (by simp[lk]) ⟨107,#[.agg #[.int .i64 a.back,.int .i64 a.high]],#[],rfl,⟨by simp only[go_sem],fun X Y n _ _ _ _ _ Z ab ad ae h=>by simp only[go_sem];exact tO a n ⟨Z,ab,ad,ae⟩ h⟩⟩)
 generalize b7 ro d (.cells #[.func (.func 107) #[.agg #[.int .i64 a.back,.int .i64 a.high]] #[]] 116)=c0 at D B m C;refine hU hJ C ?_;replace j:=j.mono m;replace l:=l.mono m;simp only[bF] at B;have al:=aZ.tl z;refine cw hJ _ (ku l u0 j ([(fy a)]) D W) fun v da db ao p=>?_;obtain ⟨ar,a0,a2,a3,rfl,E⟩:=p;have a4:=E.oc;simp only[bP] at a4;simp only[bF] at ao;apply aO;apply ag _;refine aA fun a5 dd G=>?_;have df:=aZ.cons G al;try simp only[av] at G
 refine ah hJ (aC hJ ?_);apply ag _;revert h;refine bh hJ (fun a6 h=>?_) fun a6 h=>?_
 .cases h;apply az hJ _;apply aQ;simp only[*,go_sem]
 refine aP hJ (ah hJ ?_);apply aS hJ;revert h;refine bS fun k a7 h=>?_;apply ag _;refine cw hJ _ (xk u.1 E a a7) fun v a8 dk a9 p=>?_;obtain ⟨dp,rfl,q⟩:=p;simp only[bF] at a9;obtain ⟨d84,ba,rfl,dq,ds,-⟩:=id q;apply aO;apply ag _;refine ah hJ (aC hJ ?_);apply ag _;revert h;refine bh hJ (fun bb h=>?_) fun bb h=>?_
 .cases h;apply az hJ _;apply aQ;simp only[*,go_sem]
 refine aP hJ (ah hJ ?_);refine eJ hJ mixed 7 ⟨a8,[(a5,bl u.1 ar a0 a2 a3),(t,.cells #[.int .i64 a.back,.int .i64 a.high] 61),(s,bk u0 s1 f g i)]⟩ aN aj ?_;revert h;refine bS fun H bc h=>?_;obtain ⟨dt,du,I⟩:=cP bc;obtain ⟨dv,bd,bj,bm,c⟩:=q.el _ _ I;obtain rfl:bd=H.cells:=bm;cases bj;have bo:=c 0 _ rfl;simp only[go_sem] at bo;have br:=c 1 _ rfl;simp only[go_sem] at br;have bs:=c 2 _ rfl;simp only[go_sem] at bs;have bz:=c 3 _ rfl;simp only[go_sem] at bz;have b0:=c 4 _ rfl;simp only[go_sem] at b0;have b1:=c 5 _ rfl;simp only[go_sem] at b1;clear c I;revert h;refine bS fun b2 b3 h=>?_;obtain ⟨dC,dE,dT,K⟩:=qJ b3;have L:(1:Int).toNat<=((k.length:Int)).toNat:=aa;have b4:((k.length:Int)).toNat<=ba:=aa;have ea:0<=((k.length:Int)):=aa;obtain ⟨d94,b5,ca,M⟩:=aH.qN q (1:Int).toNat ((k.length:Int)).toNat L aa K;simp only[go_sem] at b5 ca L b4;obtain ⟨_,_,cb,eb,ec,ed⟩:=id M;cases cb;clear K;revert h;refine bS fun eh cd h=>?_;cases h;apply ag _;refine ⟨_,bL hJ fun F cf=>tR (ey:=57) (eL:=#[]) (eM:=#[]) jI ⟨by simp only[go_sem],fun X Y n cl _ h=>by simp only[go_sem];exact tN n cl h⟩ H b2 (M.mono (cm cf)) cd,cr ?_⟩;apply ag _;apply aQ;simp only[*,go_sem]
def nG (u0:an)(b:bA):Option (ax×Bool×Int):=
 ai (fO u0 ([(fy b)])) fun a=>cond ((a.2 != 0)) (some ((⟨0,0⟩:ax),false,a.2)) (ai (lq a.1 b) fun c=>ai (gU a.1 b) fun d=>some (c,d,0))
theorem xD {ro:Addr->Option Value}(j:dH ro)(u0:an){s1 d f g:Value}(i:bW ro u0 s1 d f g)(a:bA){r:(ax×Bool×Int)}(h:nG u0 a=some r):aD Tryz.prog 37 #[bv u0 s1 d f g,.agg #[.int .i64 a.back,.int .i64 a.high]] ⟨ro,[]⟩ (fun v _=>v= .tuple #[r.1.v,.bool r.2.1,.int .i64 r.2.2]):=by
 unfold nG at h;have C:=i.oc;simp only[bP] at C;refine aD.go Tryz.func37 rfl Tryz.ntmps37 Tryz.results37 au fun main J hJ A a0 hd hs=>?_;have a2:=hs 0;have k1:=hs 1;clear hs;apply az hJ _;refine aA fun p D E=>?_;try simp only[av] at E
 refine aA fun q G H=>?_;try simp only[av] at H
 refine aA fun I K L=>?_;try simp only[av] at L
 apply ah hJ;refine aG hJ fun M=>?_;apply aS hJ;revert h;refine bS fun k N h=>?_;apply ag _;refine aA fun c s t=>?_;have u:=aZ.cons t M;try simp only[av] at t
 obtain ⟨l,w,y⟩:=fM (b:=c) (o:=(.cells #[.func (.func 107) #[.agg #[.int .i64 a.back,.int .i64 a.high]] #[]] 116)) [] ((I,rt 0 0)::(q,.cells #[.int .i64 a.back,.int .i64 a.high] 61)::(p,bk u0 s1 d f g)::[]) u s (aK.cons K (aK.cons G (aK.cons D (aK.nil _))));have z:aH (dw) (b7 ro c (.cells #[.func (.func 107) #[.agg #[.int .i64 a.back,.int .i64 a.high]] #[]] 116)) (.slice (some ⟨c,0,none⟩) 1 1) [(fy a)]:=(aH.one (r:=(dw)) (e:=116) (cs:=#[.func (.func 107) #[.agg #[.int .i64 a.back,.int .i64 a.high]] #[]]) (x:=(fy a)) (own:=[(c,.cells #[.func (.func 107) #[.agg #[.int .i64 a.back,.int .i64 a.high]] #[]] 116)]) s (by simp[lk]) ⟨107,#[.agg #[.int .i64 a.back,.int .i64 a.high]],#[],rfl,⟨by simp only[go_sem],fun a3 a4 O _ _ _ _ _ P Q R S h=>by simp only[go_sem];exact tO a O ⟨P,Q,R,S⟩ h⟩⟩)
 generalize b7 ro c (.cells #[.func (.func 107) #[.agg #[.int .i64 a.back,.int .i64 a.high]] #[]] 116)=a5 at z w l y;refine hU hJ y ?_;replace i:=i.mono l;replace j:=j.mono l;simp only[bF] at w;have T:=aZ.tl u;refine cw hJ _ (ku j u0 i ([(fy a)]) z N) fun v U a6 V W=>?_;obtain ⟨X,Y,Z,ab,rfl,m⟩:=W;have ad:=m.oc;simp only[bP] at ad;simp only[bF] at V;apply aO;apply ag _;refine aA fun ae a7 B=>?_;have a8:=aZ.cons B T;try simp only[av] at B
 refine ah hJ (aC hJ ?_);apply ag _;revert h;refine bh hJ (fun al h=>?_) fun al h=>?_
 .cases h;apply az hJ _;apply aQ;simp only[*,go_sem]
 refine aP hJ (ah hJ ?_);refine eJ hJ mixed 6 ⟨U,[(ae,bl k.1 X Y Z ab),(q,.cells #[.int .i64 a.back,.int .i64 a.high] 61),(p,bk u0 s1 d f g)]⟩ aN aj ?_;revert h;refine bS fun a9 ao h=>?_;apply ag _;refine ⟨_,bL hJ fun F n=>ua k.1 (m.mono (cm n)) a ao,cr ?_⟩;revert h;refine bS fun ba ar h=>?_;cases h;apply ag _;refine ⟨_,bL hJ fun F n=>nE k.1 (m.mono (cm n)) a ar,?_⟩;apply aQ;simp only[*,go_sem]
def xE (a:bt)(st:Bool):Option (Fl Bool Unit):=
 some (.br 1000000000 true)
def o5 (u0:an):Option Bool:=
 ai (ie (xE) (mz u0) false) fun o=>aJ o (fun b=>some false) (fun k a=>cond (k==1000000000) (some a) (none)) (fun _=>none)
theorem B7 {ro:Addr->Option Value}(u0:an){s1 c d g:Value}(k:bW ro u0 s1 c d g){r:Bool}(h:o5 u0=some r):aD Tryz.prog 108 #[bv u0 s1 c d g] ⟨ro,[]⟩ (fun v _=>v= .bool r):=by
 unfold o5 at h;refine aD.tJ Tryz.func108 rfl Tryz.ntmps108 Tryz.results108 au fun main J hJ A D hd hs=>?_;have E:=hs 0;clear hs;apply az hJ _;refine aA fun n x F=>?_;try simp only[av] at F
 refine aA fun l z G=>?_;try simp only[av] at G
 refine ah hJ (aC hJ ?_);apply ag _;revert h;refine bS fun Q H o=>?_;refine tH hJ bt.v aN (ru u0 k.e k.p k.y k.t) aj aj (ρ:=Unit) (fun (I:Bool) K=>K=(l,.cells #[.bool I] 4)::(n,bl u0 s1 c d g)::[]) (f:=xE) H ?_ ?_ aB ?_ ?_
 .exact rfl
 .rintro d33 L q M s u R h main J hJ _ rfl;unfold xE at h;try dsimp only at h
  obtain rfl:=sI h;generalize i:me _ _ _=m;have S:sz m=6:=by rw[<-i,tG];simp only[*,go_sem]
  have T:m.defers=[]:=by rw[<-i];rfl
  have U:slot m 2= .pointer (some ⟨l,0,none⟩):=by rw[<-i,j8];simp only[*,go_sem]
  have V:slot m 5= .agg #[.int .i64 u.e0,.int .i64 u.e1,.int .i64 u.e2]:=by rw[<-i,j8];simp only[*,go_sem]
  clear i D hd E;refine fX hJ fun b a=>?_;replace a:aK ro ((L,.loop q)::(d33,.deferred (some []))::(l,.cells #[.bool s] 4)::(n,bl u0 s1 c d g)::[]):=a;have W:=a.hd;have X:=a.tl.hd;have z:=a.tl.tl.hd;have x:=a.tl.tl.tl.hd;clear a;replace b:=b.nd;simp only[keys,List.map_cons,List.map_nil,List.map_append,List.cons_append,List.nil_append,List.nodup_cons,List.mem_cons,List.mem_append,List.not_mem_nil,or_false,not_or] at b;apply aP hJ;simp only[oM,go_sem];refine ⟨q,aN,M,?_⟩;refine aX hJ (ah hJ ?_);apply aM hJ _;apply aQ;simp only[oL,k7,go_sem];refine ⟨{q with state:=.busy},aN,?_⟩;apply ag _;refine ⟨_,Le.sub (List.Sublist.refl _),rfl,rfl⟩
 .rintro N O P _ s rfl b a;replace a:aK ro ((O,.loop P)::(N,.deferred (some []))::(l,.cells #[.bool s] 4)::(n,bl u0 s1 c d g)::[]):=a;have Y:=a.hd;have Z:=a.tl.hd;have z:=a.tl.tl.hd;have x:=a.tl.tl.tl.hd;clear a;replace b:=b.nd;simp only[keys,List.map_cons,List.map_nil,List.map_append,List.cons_append,List.nil_append,List.nodup_cons,List.mem_cons,List.mem_append,List.not_mem_nil,or_false,not_or] at b;refine ⟨fun j=>?_,fun k1 j=>?_⟩
  .subst j;have h:=o;dsimp only[aJ] at h;obtain rfl:=sI h;apply az hJ _;refine aG hJ fun w=>?_;replace w:=w.nd;(try simp only[keys,List.map_cons,List.map_nil,List.map_append,List.cons_append,List.nil_append,List.nodup_cons,List.mem_cons,List.mem_append,List.not_mem_nil,or_false,not_or] at w);apply aQ;simp only[*,go_sem]
  subst j;have h:=o;dsimp only[aJ] at h;revert h;refine cS (fun B h=>?_) fun B h=>?_
  .obtain rfl:=sI h;obtain rfl:k1=1000000000:=by simpa using B
   unfold tF;rw[if_pos (show (1000000000:Nat)=qU from rfl)];simp only[*,go_sem]
  cases h
 intro k1 ab j;subst j;have h:=o;dsimp only[aJ] at h;revert h;refine cS (fun C h=>?_) fun C h=>?_
 .obtain rfl:k1=1000000000:=by simpa using C
  decide
 cases h
def o6 (a:bt)(st:(List bt)):Option (Fl (List bt) Unit):=
 ai (de st ([a])) fun b=>some (.nx b)
def uv (a:(List (Option bt))):Option (List bt):=
 ai (ie (o6) a ([]:List bt)) fun o=>aJ o (fun b=>some b) (fun k c=>none) (fun _=>none)
theorem HX {ro:Addr->Option Value}(u:(List (Option bt))){dg:FuncId}{dL dM:Array Value}(K:ni Tryz.prog dg dL dM bt.v u ro){r:(List bt)}(h:uv u=some r):e4 Tryz.prog 149 #[.slice none 0 0,.func (.func dg) dL dM] ro (fun v aW=>∃w,v=w/\aH iK aW w r):=by
 unfold uv at h;refine aD.tJ Tryz.func149 rfl Tryz.ntmps149 Tryz.results149 au fun main J hJ A L hd hs=>?_;have M:=hs 0;have k1:=hs 1;clear hs;apply aC hJ;apply bY _;refine aA fun e r1 n1=>?_;try simp only[av] at n1
 refine ah hJ (aC hJ ?_);apply bY _;revert h;refine bS fun ar N o=>?_;have h:=trivial;refine tH hJ bt.v aN K aj aj (ρ:=Unit) (fun (m:(List bt)) O=>∃(d7:Option Addr) (c:Nat) (d:List (Nat×Obj)),O=(e,.cells #[.slice d7 m.length c] 93)::d/\bg iK ro 133 (.slice d7 m.length c) m d/\m.length<=c) (f:=o6) N ?_ ?_ aB ?_ ?_
 .exact ⟨none,0,[],rfl,bg.nil _ _ _,Nat.le_refl _⟩
 .rintro d4 p i P v6 a a0 h main J hJ _ ⟨d7,c,d,rfl,q,Q⟩;unfold o6 at h;try dsimp only at h
  generalize j:me _ _ _=n;have a2:sz n=13:=by rw[<-j,tG];simp only[*,go_sem]
  have a3:n.defers=[]:=by rw[<-j];rfl
  have a4:slot n 2= .pointer (some ⟨e,0,none⟩):=by rw[<-j,j8];simp only[*,go_sem]
  have a5:slot n 7= .agg #[.int .i64 a.e0,.int .i64 a.e1,.int .i64 a.e2]:=by rw[<-j,j8];simp only[*,go_sem]
  clear j L hd M k1;refine fX hJ fun g b=>?_;replace b:aK ro ((p,.loop i)::(d4,.deferred (some []))::(e,.cells #[.slice d7 v6.length c] 93)::d):=b;have r3:=b.hd;have a6:=b.tl.hd;have r1:=b.tl.tl.hd;clear b;replace g:=g.nd;simp only[keys,List.map_cons,List.map_nil,List.map_append,List.cons_append,List.nil_append,List.nodup_cons,List.mem_cons,List.mem_append,List.not_mem_nil,or_false,not_or] at g;refine aG hJ fun R=>?_;apply aS hJ;apply bY _;refine aA fun y a7 z=>?_;have a8:=aZ.cons z R;try simp only[av] at z
  simp only[oM,go_sem];refine ⟨i,aN,P,?_⟩;apply bY _;apply aX hJ;refine aG hJ fun S=>?_;apply aS hJ;revert h;refine bS fun a9 T h=>?_;obtain ⟨U,B⟩:=dQ T;apply bY _;refine aA fun C V D=>?_;have W:=aZ.cons D S;try simp only[av] at D
  refine eD (r:=iK) (l:=v6) (x:=a) (cs:=#[.int .i64 a.e0,.int .i64 a.e1,.int .i64 a.e2]) (e2:=133) [(C,.cells #[.int .i64 a.e0,.int .i64 a.e1,.int .i64 a.e2] 133),(y,.cells #[.int .i64 a.e0,.int .i64 a.e1,.int .i64 a.e2] 133),(p,.loop {i with state:=.busy}),(d4,.deferred (some [])),(e,.cells #[.slice d7 v6.length c] 93)] [] q W U rfl dI V rfl rfl Bi Bi Ge Gg rfl Gf aB aB (fun ba E s d X bb=>?_);simp only[bw] at X;subst d;rw[<-B] at s;clear B;obtain ⟨d28,Y,rfl,Z⟩:=s.len;refine ⟨⟨ro,(C,.cells #[.int .i64 a.e0,.int .i64 a.e1,.int .i64 a.e2] 133)::(y,.cells #[.int .i64 a.e0,.int .i64 a.e1,.int .i64 a.e2] 133)::(p,.loop {i with state:=.busy})::(d4,.deferred (some []))::(e,.cells #[.slice d7 v6.length c] 93)::E⟩,Le.refl _,?_⟩;apply aO;apply bY _;obtain rfl:=sI h;simp only[oL,k7,go_sem];refine ⟨{i with state:=.busy},aN,?_⟩;apply ag _;refine ⟨_,Le.sub (List.Sublist.cons _ (List.Sublist.cons _ (List.Sublist.refl _))),rfl,d28,Y,E,rfl,s,Z⟩
 .rintro d49 F G _ v6 ⟨d7,c,d,rfl,q,Q⟩ g b;replace b:aK ro ((F,.loop G)::(d49,.deferred (some []))::(e,.cells #[.slice d7 v6.length c] 93)::d):=b;have ab:=b.hd;have ad:=b.tl.hd;have r1:=b.tl.tl.hd;clear b;replace g:=g.nd;simp only[keys,List.map_cons,List.map_nil,List.map_append,List.cons_append,List.nil_append,List.nodup_cons,List.mem_cons,List.mem_append,List.not_mem_nil,or_false,not_or] at g;refine ⟨fun k=>?_,fun k1 k=>?_⟩
  .subst k;have h:=o;dsimp only[aJ] at h;apply ah hJ;refine aG hJ fun bc=>?_;apply aS hJ;apply bY _;obtain rfl:=sI h;refine aG hJ fun H=>?_;obtain ⟨bd,ae,al,I,ao⟩:=q.fj [(F,.loop G),(d49,.deferred (some [])),(e,.cells #[.slice d7 v6.length c] 93)] [] H (aK.cons ab (aK.cons ad (aK.cons r1 (aK.nil _))));clear H;refine cO hJ ao ?_;obtain ⟨bj,bk,-⟩:=I.op;simp only[bF] at al;refine aG hJ fun t=>?_;replace t:=t.nd;(try simp only[keys,List.map_cons,List.map_nil,List.map_append,List.cons_append,List.nil_append,List.nodup_cons,List.mem_cons,List.mem_append,List.not_mem_nil,or_false,not_or] at t);refine cg ?_;exact ⟨_,ae,Le.sub (List.nil_sublist _),_,rfl,I⟩
  subst k;have h:=o;dsimp only[aJ] at h;cases h
 intro k1 bl k;subst k;have h:=o;dsimp only[aJ] at h;cases h
def ry (u0:(List (Option bt))):Option (List bt):=
 ai (uv u0) fun a=>some a
theorem B8 {ro:Addr->Option Value}(u0:(List (Option bt))){ey:FuncId}{eL eM:Array Value}(c:ni Tryz.prog ey eL eM bt.v u0 ro){r:(List bt)}(h:ry u0=some r):e4 Tryz.prog 120 #[.func (.func ey) eL eM] ro (fun v aW=>∃a,v=a/\aH iK aW a r):=by
 unfold ry at h;refine aD.go Tryz.func120 rfl Tryz.ntmps120 Tryz.results120 au fun main J hJ A g hd hs=>?_;have i:=hs 0;clear hs;apply az hJ _;apply aC hJ;revert h;refine bS fun j d h=>?_;obtain rfl:=sI h;apply ag _;refine cw hJ _ (HX (dg:=ey) (dL:=eL) (dM:=eM) u0 c d) fun v k e l f=>?_;obtain ⟨m,rfl,b⟩:=f;obtain ⟨d8,n,rfl,o,p,-⟩:=id b;apply aO;apply ag _;refine cg ?_;exact ⟨_,e,Le.sub (List.nil_sublist _),_,rfl,b⟩
def ij (u0:an)(c:(List (an->Option Int))):Option (di×Int):=
 ai (fO u0 c) fun a=>cond ((a.2 != 0)) (some ((⟨(⟨0,0,(⟨0,0⟩:ax),([]:(List cv)),([]:(List cF)),([]:(List cq)),([]:(List bM))⟩:an),([]:(List bt))⟩:di),a.2)) (ai (ry (mz a.1)) fun b=>cond (((b.length:Int)==0)) (some ((⟨(⟨0,0,(⟨0,0⟩:ax),([]:(List cv)),([]:(List cF)),([]:(List cq)),([]:(List bM))⟩:an),([]:(List bt))⟩:di),9)) (some ((⟨a.1,b⟩:di),0)))
theorem kz {ro:Addr->Option Value}(N:dH ro)(u0:an){s1 c d f:Value}(G:bW ro u0 s1 c d f)(B:(List (an->Option Int))){H:Value}(I:aH (dw) ro H B){r:(di×Int)}(h:ij u0 B=some r):e4 Tryz.prog 53 #[bv u0 s1 c d f,H] ro (fun v aW=>∃K w1 w2 w3 w4,v= .tuple #[.agg #[.int .i64 r.1.book.bV,.int .i64 r.1.book.bU,.int .i64 r.1.book.bq.num,.int .i64 r.1.book.bq.den,K,w1,w2,w3,w4],.int .i64 r.2]/\bW aW r.1.book K w1 w2 w3/\aH iK aW w4 r.1.all):=by
 obtain ⟨d31,ae,rfl,al,ao,-⟩:=id I;unfold ij at h;have O:=G.oc;simp only[bP] at O;refine aD.go Tryz.func53 rfl Tryz.ntmps53 Tryz.results53 au fun main J hJ A ar hd hs=>?_;have a0:=hs 0;have k1:=hs 1;clear hs;apply az hJ _;refine aA fun C g P=>?_;try simp only[av] at P
 refine aA fun D i Q=>?_;try simp only[av] at Q
 apply aC hJ;revert h;refine bS fun b R h=>?_;apply ag _;refine cw hJ _ (ku N u0 G B I R) fun v S j E k=>?_;obtain ⟨m,n,o,q,rfl,a⟩:=k;have T:=a.oc;simp only[bP] at T;replace i:=E.hd;replace g:=E.tl.hd;simp only[bF] at E;apply aO;apply ag _;refine aA fun F s U=>?_;try simp only[av] at U
 refine ah hJ (aC hJ ?_);apply ag _;revert h;refine bh hJ (fun V h=>?_) fun V h=>?_
 .obtain rfl:=sI h;apply az hJ _;refine cg ?_;exact ⟨_,j,Le.sub (List.nil_sublist _),_,_,_,_,_,rfl,⟨aH.nil _ _,aH.nil _ _,aH.nil _ _,aH.nil _ _⟩,aH.nil _ _⟩
 refine aP hJ (ah hJ ?_);refine fc hJ mixed [] (.rd 0 (.rd 1 (.pure 2 (.two 3 (.pure 4 (.one 5 (.one 6 .done))) 5 (.one 3 (.pure 4 (.one 6 .done))))))) ⟨S,[(F,bl b.1 m n o q),(D,.cells #[.int .i64 0,.int .i64 0,.int .i64 0,.int .i64 0,.slice none 0 0,.slice none 0 0,.slice none 0 0,.slice none 0 0,.slice none 0 0] 95),(C,bk u0 s1 c d f)]⟩ aN aj ?_;apply ag _;refine k6 ?_ ?_
 .revert h;refine bS fun a2 W h=>?_;apply ag _;refine cw hJ _ (B8 (ey:=81) (eL:=#[bv b.1 m n o q]) (eM:=#[]) (mz b.1) (ru b.1 a.e a.p a.y a.t) W) fun v a3 u w k=>?_;obtain ⟨a4,rfl,L⟩:=k;replace a:=a.mono u;replace s:=w.hd;replace i:=w.tl.hd;replace g:=w.tl.tl.hd;simp only[bF] at w;obtain ⟨d80,a5,rfl,a6,a7,-⟩:=id L;have a8:=fG (l:=[(F,bl b.1 m n o q),(D,.cells #[.int .i64 0,.int .i64 0,.int .i64 0,.int .i64 0,.slice none 0 0,.slice none 0 0,.slice none 0 0,.slice none 0 0,.slice none 0 0] 95),(C,bk u0 s1 c d f)]) u (aK.cons s (aK.cons i (aK.cons g (aK.nil _))));refine ⟨aN,?_⟩;refine cp ?_;apply ag _;refine aA fun a9 ba X=>?_;try simp only[av] at X
  apply ag _;refine ah hJ (aC hJ ?_);apply ag _;revert h;refine bh hJ (fun Y h=>?_) fun Y h=>?_
  .obtain rfl:=sI h;apply az hJ _;refine cg ?_;exact ⟨_,(j).trans u,Le.sub (List.nil_sublist _),_,_,_,_,_,rfl,⟨aH.nil _ _,aH.nil _ _,aH.nil _ _,aH.nil _ _⟩,aH.nil _ _⟩
  obtain rfl:=sI h;refine aP hJ (ah hJ ?_);apply aM hJ _;refine cg ?_;exact ⟨_,(j).trans u,Le.sub (List.nil_sublist _),_,_,_,_,_,rfl,a,L⟩
 revert h;refine bS fun bb Z h=>?_;apply ag _;refine aA fun bc bd ab=>?_;try simp only[av] at ab
 apply ag _;refine cw hJ _ (B8 (ey:=81) (eL:=#[bv b.1 m n o q]) (eM:=#[]) (mz b.1) (ru b.1 a.e a.p a.y a.t) Z) fun v bj x z k=>?_;obtain ⟨bm,rfl,M⟩:=k;replace a:=a.mono x;replace s:=z.tl.hd;replace i:=z.tl.tl.hd;replace g:=z.tl.tl.tl.hd;simp only[bF] at z;obtain ⟨d96,bo,rfl,br,bs,-⟩:=id M;have bz:=fG (l:=[(F,bl b.1 m n o q),(D,.cells #[.int .i64 0,.int .i64 0,.int .i64 0,.int .i64 0,.slice none 0 0,.slice none 0 0,.slice none 0 0,.slice none 0 0,.slice none 0 0] 95),(C,bk u0 s1 c d f)]) x (aK.cons s (aK.cons i (aK.cons g (aK.nil _))));refine ⟨aN,?_⟩;refine cp ?_;apply ag _;refine ah hJ (aC hJ ?_);apply ag _;revert h;refine bh hJ (fun ad h=>?_) fun ad h=>?_
 .obtain rfl:=sI h;apply az hJ _;refine cg ?_;exact ⟨_,(j).trans x,Le.sub (List.nil_sublist _),_,_,_,_,_,rfl,⟨aH.nil _ _,aH.nil _ _,aH.nil _ _,aH.nil _ _⟩,aH.nil _ _⟩
 obtain rfl:=sI h;refine aP hJ (ah hJ ?_);apply aM hJ _;refine cg ?_;exact ⟨_,(j).trans x,Le.sub (List.nil_sublist _),_,_,_,_,_,rfl,a,M⟩
def xF (a:Int)(i56:Nat)(b:Int)(st:(List cF)):Option (Fl (List cF) an):=
 ai (de st ([(⟨b,a⟩:cF)])) fun c=>some (.nx c)
def uw (u0:an)(a:Int)(b:(List Int)):Option an:=
 ai (uo u0.props) fun c=>ai (bR (xF a) 0 b c) fun o=>aJ o (fun d=>some (⟨u0.bV,u0.bU,u0.bq,u0.aE,d,u0.aF,u0.told⟩:an)) (fun _ _=>none) (fun r=>some r)
theorem HY {ro:Addr->Option Value}(u0:an){s1 s b c:Value}(g:bW ro u0 s1 s b c)(i:Int)(d:(List Int)){D:Value}(E:aH rI ro D d){r:an}(h:uw u0 i d=some r):e4 Tryz.prog 129 #[bv u0 s1 s b c,.int .i64 i,D] ro (fun v aW=>∃F w1 w2 w3,v=bv r F w1 w2 w3/\bW aW r F w1 w2 w3):=by
 obtain ⟨d31,b4,rfl,b5,U,-⟩:=id E;unfold uw at h;have V:=g.oc;simp only[bP] at V;refine aD.go Tryz.func129 rfl Tryz.ntmps129 Tryz.results129 au fun main J hJ A W hd hs=>?_;have X:=hs 0;have k1:=hs 1;have Y:=hs 2;clear hs;apply az hJ _;refine aA fun k Z ab=>?_;try simp only[av] at ab
 refine aA fun o ad ae=>?_;try simp only[av] at ae
 apply ah hJ;refine aG hJ fun ca=>?_;apply aS hJ;revert h;refine bS fun al ao h=>?_;apply ag _;refine ew hJ (bx:=[]) [(o,bz 92),(k,bl u0 s1 s b c)] [] _ (B4 u0.props g.p ao) (fun cb G H u w cd=>?_);simp only[bw] at w;subst u;obtain ⟨d45,ar,rfl,a0⟩:=H.len;refine ⟨⟨ro,(o,bz 92)::(k,bl u0 s1 s b c)::G⟩,Le.refl _,?_⟩;apply aO;apply ag _;refine ah hJ (ah hJ ?_);refine aG hJ fun cf=>?_;apply aM hJ _;apply aX hJ;revert h;refine bS fun a2 j a3=>?_;refine cc hJ (rg 17 15 [8]) (fun m a4 F'=>∃(i56:Nat) (d51:Option Addr) (f:Nat) (z:List (Nat×Obj)) (a:(List cF)),m=d.length - i56/\i56<=d.length/\bR (xF i) i56 (d.drop i56) a=some a2/\F'=⟨ro,(o,bz 92)::(k,bl u0 s1 (sl d51 a f) b c)::z⟩/\bg eU ro 159 (.slice d51 a.length f) a z/\a.length<=f/\slot a4 17= .int .i64 (i56:Int)) d.length ?_ ?_
 .refine ⟨0,d45,ar,G,al,(Nat.sub_zero _).symm,Nat.zero_le _,j,rfl,H,a0,?_⟩;simp only[*,go_sem]
 rintro cl cy F' I ⟨i56,d51,f,z,a,rfl,cS,j,rfl,K,c0,da⟩;obtain ⟨a5,a6,a7⟩:=I.pick [1,3,6,15,16] aB;simp only[*,go_sem] at a5 a6 a7;clear I W hd X k1 Y;apply az hJ _;apply ah hJ;rcases Nat.lt_or_ge i56 d.length with a8|L
 .refine cB hJ ?_;apply aP hJ;obtain ⟨q,B⟩:∃x,d[i56]?=some x:=⟨_,List.getElem?_eq_getElem a8⟩
  rw[dK B] at j;revert j;refine bS fun db h a9=>?_;unfold xF at h;try dsimp only at h
  obtain ⟨dd,ba,bb,bc,M⟩:=E.el _ _ B;obtain rfl:ba=[.int .i64 q]:=bc;cases bb;have bd:=M 0 _ rfl;simp only[go_sem] at bd;clear M B;refine ah hJ (aX hJ (ah hJ ?_));refine aG hJ fun df=>?_;apply aM hJ _;refine aG hJ fun bj=>?_;apply aS hJ;revert h;refine bS fun bk bm h=>?_;obtain rfl:=sI h;obtain ⟨bo,N⟩:=dQ bm;apply ag _;refine aA fun O br P=>?_;have bs:=aZ.cons P bj;try simp only[av] at P
  refine eD (r:=eU) (l:=a) (x:=(⟨q,i⟩:cF)) (cs:=#[.int .i64 q,.int .i64 i]) (e2:=159) [(O,.cells #[.int .i64 q,.int .i64 i] 159),(o,bz 92),(k,bl u0 s1 (sl d51 a f) b c)] [] K bs bo rfl aN br rfl rfl l8 l8 tn tr rfl tq aB aB (fun dk Q C u w dp=>?_);simp only[bw] at w;subst u;rw[<-N] at C;clear N;obtain ⟨d74,b0,rfl,b1⟩:=C.len;refine ⟨⟨ro,(O,.cells #[.int .i64 q,.int .i64 i] 159)::(o,bz 92)::(k,bl u0 s1 (sl d51 a f) b c)::Q⟩,Le.refl _,?_⟩;apply aO;apply ag _;have dq:=cK (n:=i56) (by have:=U;omega);apply aM hJ _;refine ⟨d.length - (i56+1),aa,_,Le.sub (List.Sublist.cons _ (List.Sublist.refl _)),i56+1,d74,b0,Q,bk,rfl,aa,a9,rfl,C,b1,?_⟩;simp only[*,go_sem]
 have ds:=Nat.not_lt.2 L;refine cx hJ ?_;rw[List.drop_eq_nil_of_le L] at j;obtain rfl:=sI j;clear j;have h:=a3;dsimp only[aJ] at h;obtain rfl:=sI h;apply b6;simp only[go_sem];apply ah hJ;refine aG hJ fun dt=>?_;apply aM hJ _;refine aG hJ fun R=>?_;obtain ⟨du,S,b2,T,b3⟩:=K.fj [(o,bl u0 s1 (sl d51 a f) b c),(k,bl u0 s1 (sl d51 a f) b c)] [] R (aK.cons ad (aK.cons Z (aK.nil _)));clear R;refine cO hJ b3 ?_;obtain ⟨dv,dC,-⟩:=T.op;replace g:=g.mono S;simp only[bF] at b2;refine cg ?_;exact ⟨_,S,Le.sub (List.nil_sublist _),_,_,_,_,rfl,⟨g.e,T,g.y,g.t⟩⟩
def xG (u0:an)(a:(List Int))(st:((List (List Int))×Int)):Option (Fl ((List (List Int))×Int) (List (List Int))):=
 ai (gR u0 st.2) fun b=>cond (b) (ai (uq a) fun c=>ai (de c ([st.2])) fun d=>ai (de st.1 ([d])) fun e=>some (.nx (e,(IntKind.i64.wrap (st.2+1))))) (some (.bk (st.1,st.2)))
def xH (u0:an)(a:(List Int))(st:((List (List Int))×Int)):Option (Fl ((List (List Int))×Int) (List (List Int))):=
 ai (gR u0 st.2) fun b=>cond (b) (ai (uq a) fun c=>ai (de c ([st.2])) fun d=>ai (de st.1 ([d])) fun e=>some (.nx (e,(IntKind.i64.wrap (st.2+1))))) (some (.bk (st.1,st.2)))
def xI (u0:an)(i47:Nat)(a:(List Int))(st:(List (List Int))):Option (Fl (List (List Int)) (List (List Int))):=
 ai (bD u0.aE 0) fun b=>cond (decide (0<(a.length:Int))) (ai (bD a (IntKind.i64.wrap ((a.length:Int) - 1))) fun c=>ai (bp (xG u0 a) fu (st,(IntKind.i64.wrap (c+1)))) fun o=>aJ o (fun d=>some (.nx d.1)) (fun _ _=>none) (fun r=>some (.rt r))) (ai (bp (xH u0 a) fu (st,b.aV)) fun o=>aJ o (fun e=>some (.nx e.1)) (fun _ _=>none) (fun r=>some (.rt r)))
def uy (u0:an)(a:(List (List Int))):Option (List (List Int)):=
 ai (bR (xI u0) 0 a ([]:List (List Int))) fun o=>aJ o (fun b=>some b) (fun _ _=>none) (fun r=>some r)
theorem B9 {ro:Addr->Option Value}(u0:an){s1 a b c:Value}(j:bW ro u0 s1 a b c)(s:(List (List Int))){bo:Value}(Q:aH (rL rI) ro bo s){r:(List (List Int))}(h:uy u0 s=some r):e4 Tryz.prog 72 #[bv u0 s1 a b c,bo] ro (fun v aW=>∃br,v=br/\aH (rL rI) aW br r):=by
 obtain ⟨d3,c4,rfl,h4,h5,-⟩:=id j.e;obtain ⟨d31,h6,rfl,h7,bs,-⟩:=id Q;unfold uy at h;refine aD.go Tryz.func72 rfl Tryz.ntmps72 Tryz.results72 au fun main J hJ A fa hd hs=>?_;have fb:=hs 0;have k1:=hs 1;clear hs;apply az hJ _;refine aA fun d u ff=>?_;try simp only[av] at ff
 apply az hJ _;refine ah hJ (aC hJ ?_);apply ag _;apply aX hJ;revert h;refine bS fun fg F fi=>?_;refine cc hJ (rg 12 35 [5,7,8,9]) (fun m w F'=>∃(i47:Nat) (y:Addr->Option Value) (d38:Option Addr) (G:Nat) (K:List (Nat×Obj)) (z:(List (List Int))),m=s.length - i47/\i47<=s.length/\bR (xI u0) i47 (s.drop i47) z=some fg/\F'=⟨y,(d,bl u0 (sl d3 u0.aE c4) a b c)::K⟩/\Ext ro y/\bg (rL rI) y 35 (.slice d38 z.length G) z K/\z.length<=G/\slot w 12= .int .i64 (i47:Int)/\slot w 5= .slice d38 z.length G) s.length ?_ ?_
 .refine ⟨0,ro,none,0,[],([]:List (List Int)),(Nat.sub_zero _).symm,Nat.zero_le _,F,rfl,Ext.refl _,bg.nil _ _ _,Nat.le_refl _,?_⟩;simp only[*,go_sem]
 rintro h8 bz F' b0 ⟨i47,y,d38,G,K,z,rfl,h9,F,rfl,L,Z,b1,b2,b3⟩;refine fX hJ fun _ b4=>?_;replace Q:=Q.mono L;replace j:=j.mono L;replace u:=b4.hd;simp only[bF] at b4;obtain ⟨ab,ad,ae⟩:=b0.pick [2,4,10,11] aB;simp only[*,go_sem] at ab ad ae;clear b0 fa hd fb k1;apply az hJ _;apply ah hJ;rcases Nat.lt_or_ge i47 s.length with fl|b5
 .refine cB hJ ?_;apply aP hJ;obtain ⟨R,al⟩:∃x,s[i47]?=some x:=⟨_,List.getElem?_eq_getElem fl⟩
  rw[dK al] at F;revert F;refine bS fun ib h ca=>?_;unfold xI at h;try dsimp only at h
  obtain ⟨ih,ik,fp,fq,cb⟩:=Q.el _ _ al;obtain ⟨il,rfl,t⟩:=fq;obtain ⟨d56,im,rfl,iv,ix,jC⟩:=id t;cases fp;have fr:=cb 0 _ rfl;simp only[go_sem] at fr;clear cb al;refine ah hJ (aX hJ (ah hJ ?_));refine aG hJ fun j1=>?_;apply aM hJ _;apply ah hJ;refine aG hJ fun j2=>?_;apply aS hJ;revert h;refine bS fun cd fs h=>?_;obtain ⟨kh,kj,cf⟩:=cP fs;obtain ⟨f,ft,fv,fw,ao⟩:=j.e.el _ _ cf;obtain rfl:ft=cd.cells:=fw;cases fv;have fx:=ao 0 _ rfl;simp only[go_sem] at fx;have fz:=ao 1 _ rfl;simp only[go_sem] at fz;clear ao cf;apply ag _;refine ah hJ (ah hJ ?_);refine aG hJ fun kk=>?_;apply aM hJ _;revert h;refine bh hJ (fun fP h=>?_) fun fP h=>?_
  .refine aG hJ fun kl=>?_;apply aS hJ;revert h;refine bS fun cl fQ h=>?_;obtain ⟨km,kn,cy⟩:=cP fQ;obtain ⟨kp,fS,fU,gg,cS⟩:=t.el _ _ cy;obtain rfl:fS=[.int .i64 cl]:=gg;cases fU;have gl:=cS 0 _ rfl;simp only[go_sem] at gl;clear cS cy;apply ag _;apply ah hJ;refine aG hJ fun ks=>?_;apply aM hJ _;apply aX hJ;revert h;refine bS fun gn S gp=>?_;refine cc hJ (rg 33 13 [5,9]) (fun m w F'=>∃(H:Addr->Option Value) (d75:Option Addr) (M:Nat) (k:List (Nat×Obj)) (B:(List (List Int))) (g:Int),bp (xG u0 R) m (B,g)=some gn/\F'=⟨H,(d,bl u0 (sl (some f) u0.aE c4) a b c)::k⟩/\Ext y H/\bg (rL rI) H 35 (.slice d75 B.length M) B k/\B.length<=M/\slot w 5= .slice d75 B.length M/\slot w 9= .int .i64 g) fu ?_ ?_
   .refine ⟨y,d38,G,K,z,(IntKind.i64.wrap (cl+1)),S,rfl,Ext.refl _,Z,b1,?_⟩;simp only[*,go_sem]
   rintro ar gB F' a0 ⟨H,d75,M,k,B,g,S,rfl,T,N,gC,kt,kv⟩;refine fX hJ fun _ c0=>?_;replace t:=t.mono T;replace j:=j.mono T;replace u:=c0.hd;simp only[bF] at c0;obtain ⟨gM,gT,gV⟩:=a0.pick [2,4,7,8,10,11,12,13,15,16,17,18,21,22,23,24,25,26,27,28,30,31,32] aB;simp only[*,go_sem] at gM gT gV;have kx:c6 (rg 12 35 [5,7,8,9]) gB bz:=(a0.gN aB).trans aN;clear a0 ab ad ae b3 b2;obtain _|ar:=ar
   .exact absurd S (by simp only[bp,reduceCtorEq,not_false_eq_true])
   revert S;refine bS fun ky h a2=>?_;unfold xG at h;(try dsimp only at h);refine ah hJ (ah hJ ?_);refine aG hJ fun k0=>?_;apply aS hJ;revert h;refine bS fun k2 g0 h=>?_;apply ag _;refine bf hJ _ (tP u0 (j.mono bn) g g0) ?_;revert h;refine bh hJ (fun g1 h=>?_) fun g1 h=>?_
   .refine aP hJ (ah hJ ?_);apply aX hJ;refine aG hJ fun lb=>?_;apply aS hJ;revert h;refine bS fun g2 g3 h=>?_;apply ag _;refine ew hJ (bx:=[]) [(d,bl u0 (sl (some f) u0.aE c4) a b c)] k _ (B5 R t g3) (fun lh g4 da p q ha=>?_);simp only[bw] at q;subst p;obtain ⟨d133,lj,rfl,lk⟩:=da.len;refine ⟨⟨H,(d,bl u0 (sl (some f) u0.aE c4) a b c)::(g4++k)⟩,Le.refl _,?_⟩;apply aO;revert h;refine bS fun U hc h=>?_;obtain ⟨hf,db⟩:=dQ hc;apply ag _;refine aA fun C dd df=>?_;have hg:=aZ.cons df ha;try simp only[av] at df
    refine eD (r:=rI) (l:=g2) (x:=g) (cs:=#[.int .i64 g]) (e2:=3) [(C,ic g),(d,bl u0 (sl (some f) u0.aE c4) a b c)] k da hg hf rfl aN dd rfl rfl fW fW kX kZ rfl kY aB aB (fun ll dk a3 p q dp=>?_);simp only[bw] at q;subst p;rw[<-db] at a3;clear db;obtain ⟨d145,a4,rfl,ln⟩:=a3.len;obtain ⟨a5,V,a6,dq,hh⟩:=a3.fj [(C,ic g),(d,bl u0 (sl (some f) u0.aE c4) a b c)] k dp (aK.cons dd (aK.cons u (N.j5)));have hi:=aZ.sub (l:=(C,ic g)::(d,bl u0 (sl (some f) u0.aE c4) a b c)::k) (l':=(C,ic g)::(d,bl u0 (sl (some f) u0.aE c4) a b c)::(dk++k)) [(C,ic g),(d,bl u0 (sl (some f) u0.aE c4) a b c)] dk k (by first|rfl|simp only[bw]|(simp only[bw];rfl)) (by first|rfl|simp only[bw]|(simp only[bw];rfl)) dp;refine ⟨⟨a5,(C,ic g)::(d,bl u0 (sl (some f) u0.aE c4) a b c)::k⟩,hh,?_⟩;obtain ⟨lo,lr,-⟩:=dq.op;replace t:=t.mono V;replace j:=j.mono V;replace u:=a6.tl.hd;replace N:=N.mono V a6.tl.tl;simp only[bF] at a6;apply aO;revert h;refine bS fun hj hk h=>?_;obtain rfl:=sI h;obtain ⟨hl,ds⟩:=dQ hk;apply ag _;refine aA fun dt hn du=>?_;have ho:=aZ.cons du hi;try simp only[av] at du
    refine eD (r:=(rL rI)) (l:=B) (x:=U) (cs:=#[.slice d145 U.length a4]) (e2:=35) [(dt,.cells #[.slice d145 U.length a4] 35),(C,ic g),(d,bl u0 (sl (some f) u0.aE c4) a b c)] [] N ho hl ⟨_,rfl,dq⟩ aN hn rfl rfl l9 l9 tg tj rfl th aB aB (fun lv dv a7 p q lx=>?_);simp only[bw] at q;subst p;rw[<-ds] at a7;clear ds;obtain ⟨d165,hp,rfl,hq⟩:=a7.len;refine ⟨⟨a5,(dt,.cells #[.slice d145 U.length a4] 35)::(C,ic g)::(d,bl u0 (sl (some f) u0.aE c4) a b c)::dv⟩,Le.refl _,?_⟩;apply aO;apply ag _;refine aG hJ fun ly=>?_;apply aM hJ _;refine ⟨ar,Nat.lt_succ_self _,_,Le.sub (List.Sublist.cons _ (List.Sublist.cons _ (List.Sublist.refl _))),a5,d165,hp,dv,hj,(IntKind.i64.wrap (g+1)),a2,rfl,(T.trans V),a7,hq,?_⟩;simp only[*,go_sem]
   obtain rfl:=sI h;apply b6;simp only[go_sem];obtain rfl:=sI a2;clear a2;have h:=gp;dsimp only[aJ] at h;obtain rfl:=sI h;have hr:=cK (n:=i47) (by have:=bs;omega);apply aM hJ _;refine ⟨s.length - (i47+1),aa,_,Le.sub (List.Sublist.refl _),i47+1,H,d75,M,k,B,rfl,aa,ca,rfl,(L.trans T),N,gC,?_⟩;simp only[*,go_sem]
  refine aP hJ (ah hJ ?_);refine aG hJ fun lL=>?_;apply aM hJ _;apply aX hJ;revert h;refine bS fun ht W hv=>?_;refine cc hJ (rg 33 13 [5,9]) (fun m w F'=>∃(I:Addr->Option Value) (d172:Option Addr) (O:Nat) (o:List (Nat×Obj)) (D:(List (List Int))) (i:Int),bp (xH u0 R) m (D,i)=some ht/\F'=⟨I,(d,bl u0 (sl (some f) u0.aE c4) a b c)::o⟩/\Ext y I/\bg (rL rI) I 35 (.slice d172 D.length O) D o/\D.length<=O/\slot w 5= .slice d172 D.length O/\slot w 9= .int .i64 i) fu ?_ ?_
  .refine ⟨y,d38,G,K,z,cd.aV,W,rfl,Ext.refl _,Z,b1,?_⟩;simp only[*,go_sem]
  rintro a8 hx F' a9 ⟨I,d172,O,o,D,i,W,rfl,X,P,hy,l1,l2⟩;refine fX hJ fun _ dC=>?_;replace t:=t.mono X;replace j:=j.mono X;replace u:=dC.hd;simp only[bF] at dC;obtain ⟨hz,hA,hB⟩:=a9.pick [2,4,7,8,10,11,12,13,15,16,17,18,21,22,23,24,32] aB;simp only[*,go_sem] at hz hA hB;have l3:c6 (rg 12 35 [5,7,8,9]) hx bz:=(a9.gN aB).trans aN;clear a9 ab ad ae b3 b2;obtain _|a8:=a8
  .exact absurd W (by simp only[bp,reduceCtorEq,not_false_eq_true])
  revert W;refine bS fun l4 h ba=>?_;unfold xH at h;try dsimp only at h
  refine ah hJ (ah hJ ?_);refine aG hJ fun ma=>?_;apply aS hJ;revert h;refine bS fun mf hD h=>?_;apply ag _;refine bf hJ _ (tP u0 (j.mono bn) i hD) ?_;revert h;refine bh hJ (fun hE h=>?_) fun hE h=>?_
  .refine aP hJ (ah hJ ?_);apply aX hJ;refine aG hJ fun mi=>?_;apply aS hJ;revert h;refine bS fun hF hG h=>?_;apply ag _;refine ew hJ (bx:=[]) [(d,bl u0 (sl (some f) u0.aE c4) a b c)] o _ (B5 R t hG) (fun ml hI dE p q hK=>?_);simp only[bw] at q;subst p;obtain ⟨d230,mn,rfl,mr⟩:=dE.len;refine ⟨⟨I,(d,bl u0 (sl (some f) u0.aE c4) a b c)::(hI++o)⟩,Le.refl _,?_⟩;apply aO;revert h;refine bS fun Y hL h=>?_;obtain ⟨hM,dT⟩:=dQ hL;apply ag _;refine aA fun E ea eb=>?_;have hN:=aZ.cons eb hK;try simp only[av] at eb
   refine eD (r:=rI) (l:=hF) (x:=i) (cs:=#[.int .i64 i]) (e2:=3) [(E,ic i),(d,bl u0 (sl (some f) u0.aE c4) a b c)] o dE hN hM rfl aN ea rfl rfl fW fW kX kZ rfl kY aB aB (fun mx ec bb p q ed=>?_);simp only[bw] at q;subst p;rw[<-dT] at bb;clear dT;obtain ⟨bc,bd,rfl,my⟩:=bb.len;obtain ⟨bj,eh,bk,et,hP⟩:=bb.fj [(E,ic i),(d,bl u0 (sl (some f) u0.aE c4) a b c)] o ed (aK.cons ea (aK.cons u (P.j5)));have hQ:=aZ.sub (l:=(E,ic i)::(d,bl u0 (sl (some f) u0.aE c4) a b c)::o) (l':=(E,ic i)::(d,bl u0 (sl (some f) u0.aE c4) a b c)::(ec++o)) [(E,ic i),(d,bl u0 (sl (some f) u0.aE c4) a b c)] ec o (by first|rfl|simp only[bw]|(simp only[bw];rfl)) (by first|rfl|simp only[bw]|(simp only[bw];rfl)) ed;refine ⟨⟨bj,(E,ic i)::(d,bl u0 (sl (some f) u0.aE c4) a b c)::o⟩,hP,?_⟩;obtain ⟨m1,m2,-⟩:=et.op;replace u:=bk.tl.hd;replace P:=P.mono eh bk.tl.tl;simp only[bF] at bk;apply aO;revert h;refine bS fun hR hS h=>?_;obtain rfl:=sI h;obtain ⟨hT,ev⟩:=dQ hS;apply ag _;refine aA fun eQ hV eS=>?_;have hX:=aZ.cons eS hQ;try simp only[av] at eS
   refine eD (r:=(rL rI)) (l:=D) (x:=Y) (cs:=#[.slice bc Y.length bd]) (e2:=35) [(eQ,.cells #[.slice bc Y.length bd] 35),(E,ic i),(d,bl u0 (sl (some f) u0.aE c4) a b c)] [] P hX hT ⟨_,rfl,et⟩ aN hV rfl rfl l9 l9 tg tj rfl th aB aB (fun na e0 bm p q nb=>?_);simp only[bw] at q;subst p;rw[<-ev] at bm;clear ev;obtain ⟨hY,hZ,rfl,h0⟩:=bm.len;refine ⟨⟨bj,(eQ,.cells #[.slice bc Y.length bd] 35)::(E,ic i)::(d,bl u0 (sl (some f) u0.aE c4) a b c)::e0⟩,Le.refl _,?_⟩;apply aO;apply ag _;refine aG hJ fun nd=>?_;apply aM hJ _;refine ⟨a8,Nat.lt_succ_self _,_,Le.sub (List.Sublist.cons _ (List.Sublist.cons _ (List.Sublist.refl _))),bj,hY,hZ,e0,hR,(IntKind.i64.wrap (i+1)),ba,rfl,(X.trans eh),bm,h0,?_⟩;simp only[*,go_sem]
  obtain rfl:=sI h;apply b6;simp only[go_sem];obtain rfl:=sI ba;clear ba;have h:=hv;dsimp only[aJ] at h;obtain rfl:=sI h;have hr:=cK (n:=i47) (by have:=bs;omega);apply aM hJ _;refine ⟨s.length - (i47+1),aa,_,Le.sub (List.Sublist.refl _),i47+1,I,d172,O,o,D,rfl,aa,ca,rfl,(L.trans X),P,hy,?_⟩;simp only[*,go_sem]
 have nf:=Nat.not_lt.2 b5;refine cx hJ ?_;rw[List.drop_eq_nil_of_le b5] at F;obtain rfl:=sI F;clear F;have h:=fi;dsimp only[aJ] at h;obtain rfl:=sI h;apply b6;simp only[go_sem];apply ah hJ;refine aG hJ fun nm=>?_;apply aM hJ _;refine aG hJ fun e1=>?_;obtain ⟨nn,h1,h2,e3,h3⟩:=Z.fj [(d,bl u0 (sl d3 u0.aE c4) a b c)] [] e1 (aK.cons u (aK.nil _));clear e1;refine cO hJ h3 ?_;obtain ⟨np,ns,-⟩:=e3.op;simp only[bF] at h2;refine cg ?_;exact ⟨_,(L).trans h1,Le.sub (List.nil_sublist _),_,rfl,e3⟩
def o7 (u0:Int):Option Bool:=
 some (u0 != u0)
theorem uz {ro:Addr->Option Value}(u0:Int){r:Bool}(h:o7 u0=some r):aD Tryz.prog 179 #[.int .i64 u0] ⟨ro,[]⟩ (fun v _=>v= .bool r):=by
 unfold o7 at h;cases h;refine aD.go Tryz.func179 rfl Tryz.ntmps179 Tryz.results179 au fun main J hJ A a hd hs=>?_;have b:=hs 0;clear hs;apply az hJ _;apply az hJ _;apply aQ;simp only[*,go_sem]
def jc (u0:Int)(a:Int):Option Bool:=
 ai (o7 u0) fun b=>cond (b) (ai (o7 a) fun c=>cond (!c) (some true) (some (decide (u0<a)))) (some (decide (u0<a)))
theorem kA {ro:Addr->Option Value}(u0:Int)(a:Int){r:Bool}(h:jc u0 a=some r):aD Tryz.prog 197 #[.int .i64 u0,.int .i64 a] ⟨ro,[]⟩ (fun v _=>v= .bool r):=by
 unfold jc at h;refine aD.go Tryz.func197 rfl Tryz.ntmps197 Tryz.results197 au fun main J hJ A f hd hs=>?_;have g:=hs 0;have k1:=hs 1;clear hs;apply az hJ _;apply aC hJ;revert h;refine bS fun i b h=>?_;apply ag _;refine bf hJ _ (uz u0 b) (aO ?_);revert h;refine cS (fun c h=>?_) fun c h=>?_
 .revert h;refine bS fun j d h=>?_;apply ag _;refine bf hJ _ (uz a d) (aO ?_);revert h;refine cS (fun e h=>?_) fun e h=>?_
  .cases h;apply ag _;apply aQ;simp only[*,go_sem]
  cases h;apply ag _;apply aQ;simp only[*,go_sem]
 cases h;apply ag _;apply aQ;simp only[*,go_sem]
def xJ (c:Int)(st:(Int×(List Int))):Option (Fl (Int×(List Int)) (Unit×(List Int))):=
 cond (decide (c<st.1)) (ai (bD st.2 st.1) fun b=>ai (bD st.2 (IntKind.i64.wrap (st.1 - 1))) fun a=>ai (jc b a) fun d=>cond (d) (ai (bD (st.2.set (st.1).toNat a) (IntKind.i64.wrap (st.1 - 1))) fun e=>some (.nx ((IntKind.i64.wrap (st.1 - 1)),((st.2.set (st.1).toNat a).set (IntKind.i64.wrap (st.1 - 1)).toNat b)))) (some (.bk (st.1,st.2)))) (some (.bk (st.1,st.2)))
def xK (a:Int)(b:Int)(st:(Int×(List Int))):Option (Fl (Int×(List Int)) (Unit×(List Int))):=
 cond (decide (st.1<b)) (ai (bp (xJ a) fu (st.1,st.2)) fun o=>aJ o (fun c=>some (.nx ((IntKind.i64.wrap (st.1+1)),c.2))) (fun _ _=>none) (fun r=>some (.rt r))) (some (.bk (st.1,st.2)))
def uA (u0:(List Int))(a:Int)(b:Int):Option (Unit×(List Int)):=
 cond (List.isEmpty u0) none (ai (bp (xK a b) fu ((IntKind.i64.wrap (a+1)),u0)) fun o=>aJ o (fun c=>some ((),c.2)) (fun _ _=>none) (fun r=>some r))
theorem Ca {ro:Addr->Option Value}(u0:(List Int)){w:Value}{K:List (Nat×Obj)}(x:bg rI ro 3 w u0 K)(k:Int)(z:Int){r:(Unit×(List Int))}(h:uA u0 k z=some r):aD Tryz.prog 191 #[w,.int .i64 k,.int .i64 z] ⟨ro,K⟩ (fun v G=>∃L,(v= .tuple #[]/\bg rI ro 3 w r.2 L)/\Le ⟨ro,L⟩ G):=by
 obtain ⟨d1,c2,rfl,b4⟩:=x.len;unfold uA at h;revert h;refine cS (fun M h=>?_) fun M h=>?_
 .cases h
 obtain ⟨b,ab,rfl,rfl,b5⟩:=x.jb M;refine aD.go Tryz.func191 rfl Tryz.ntmps191 Tryz.results191 au fun main J hJ A ad hd hs=>?_;have ae:=hs 0;have k1:=hs 1;have al:=hs 2;clear hs;apply ah hJ;refine aG hJ fun ca=>?_;apply aM hJ _;apply aX hJ;revert h;refine bS fun ao n ar=>?_;refine cc hJ (rg 10 39 [6,7]) (fun m B F'=>∃(p:Array Value) (j:Int) (q:(List Int)),bp (xK k z) m (j,q)=some ao/\F'=⟨ro,[(b,Obj.cells p 3)]⟩/\bg rI ro 3 (.slice (some ⟨b,0,none⟩) u0.length c2) q [(b,Obj.cells p 3)]/\slot B 6= .int .i64 j) fu ?_ ?_
 .refine ⟨ab,(IntKind.i64.wrap (k+1)),u0,n,rfl,x,?_⟩;simp only[*,go_sem]
 rintro s a0 F' N ⟨p,j,q,n,rfl,O,a2⟩;obtain ⟨P,Q,R⟩:=N.pick [0,1,2] aB;simp only[*,go_sem] at P Q R;clear N ad hd ae k1 al;obtain _|s:=s
 .exact absurd n (by simp only[bp,reduceCtorEq,not_false_eq_true])
 revert n;refine bS fun cb h t=>?_;unfold xK at h;try dsimp only at h
 refine ah hJ (ah hJ ?_);refine aG hJ fun cd=>?_;apply aM hJ _;revert h;refine bh hJ (fun a3 h=>?_) fun a3 h=>?_
 .refine aP hJ (ah hJ ?_);refine aX hJ (ah hJ ?_);refine aG hJ fun cf=>?_;apply aM hJ _;apply aX hJ;revert h;refine bS fun a4 u S=>?_;refine cc hJ (rg 16 33 [7]) (fun m B F'=>∃(d:Array Value) (a:Int) (e:(List Int)),bp (xJ k) m (a,e)=some a4/\F'=⟨ro,[(b,Obj.cells d 3)]⟩/\bg rI ro 3 (.slice (some ⟨b,0,none⟩) u0.length c2) e [(b,Obj.cells d 3)]/\slot B 7= .int .i64 a) fu ?_ ?_
  .refine ⟨p,j,q,u,rfl,O,?_⟩;simp only[*,go_sem]
  rintro C a5 F' D ⟨d,a,e,u,rfl,g,cl⟩;obtain ⟨a6,a7,a8⟩:=D.pick [0,1,2,6,10,11,12,15] aB;simp only[*,go_sem] at a6 a7 a8;have cy:c6 (rg 10 39 [6,7]) a5 a0:=(D.gN aB).trans aN;clear D P Q R a2;obtain _|C:=C
  .exact absurd u (by simp only[bp,reduceCtorEq,not_false_eq_true])
  revert u;refine bS fun c0 h l=>?_;unfold xJ at h;try dsimp only at h
  refine ah hJ (ah hJ ?_);refine aG hJ fun da=>?_;refine dh hJ mixed 15 1 aN aj ?_;revert h;refine cS (fun a9 h=>?_) fun a9 h=>?_
  .revert h;refine bS fun f ba h=>?_;obtain ⟨db,dd,T⟩:=cP ba;have df:a<((u0.length:Nat):Int):=by have:=g.count;omega
   obtain ⟨bb,bc,bd⟩:=g.jF T;obtain rfl:bb=[.int .i64 f]:=bc;have U:=bd 0 _ rfl;simp only[go_sem] at U;have dk:=(Array.getElem?_eq_some_iff.1 U).1;revert h;refine bS fun c bj h=>?_;obtain ⟨dp,dq,bk⟩:=cP bj;have ds:IntKind.i64.wrap (a - 1)<((u0.length:Nat):Int):=by have:=g.count;omega
   obtain ⟨bl,bm,bo⟩:=g.jF bk;obtain rfl:bl=[.int .i64 c]:=bm;have V:=bo 0 _ rfl;simp only[go_sem] at V;have dt:=(Array.getElem?_eq_some_iff.1 V).1;revert h;refine bS fun du br h=>?_;apply ag _;refine ⟨_,bL hJ fun F dv=>kA f c br,cr ?_⟩;apply ag _;revert h;refine bh hJ (fun bs h=>?_) fun bs h=>?_
   .refine aP hJ (ah hJ ?_);apply aX hJ;refine aG hJ fun dC=>?_;refine fc hJ mixed [15,16,17] (.pure 0 (.pure 1 (.pure 2 (.pure 3 (.pure 4 (.pure 5 (.pure 6 (.pure 7 (.pure 8 (.rd 9 (.pure 10 (.pure 11 (.pure 12 (.rd 13 (.pure 14 (.last 15 (.pure 16 (.last 17 .done)))))))))))))))))) ⟨ro,[(b,Obj.cells d 3)]⟩ aN aj ?_;have E:bg rI ro 3 (.slice (some ⟨b,0,none⟩) u0.length c2) (e.set (a).toNat c) [(b,Obj.cells (cZ d (a).toNat [.int .i64 c]) 3)]:=by have H:=g.tD (i:=(a).toNat) (y:=c) (by have:=T;have:=(List.getElem?_eq_some_iff.1 this).1;simpa only[List.length_set] using this) (cs:=[.int .i64 c]) rfl;simpa only[tL,xh,Nat.mul_one,Nat.add_zero] using H
    revert h;refine bS fun bz b0 h=>?_;cases h;obtain ⟨dE,dT,W⟩:=cP b0;have ea:IntKind.i64.wrap (a - 1)<((u0.length:Nat):Int):=by have:=E.count;omega
    obtain ⟨b1,b2,b3⟩:=E.jF W;obtain rfl:b1=[.int .i64 bz]:=b2;have X:=b3 0 _ rfl;simp only[go_sem] at X;have eb:=(Array.getElem?_eq_some_iff.1 X).1;have Y:bg rI ro 3 (.slice (some ⟨b,0,none⟩) u0.length c2) ((e.set (a).toNat c).set (IntKind.i64.wrap (a - 1)).toNat f) [(b,Obj.cells (cZ (cZ d (a).toNat [.int .i64 c]) (IntKind.i64.wrap (a - 1)).toNat [.int .i64 f]) 3)]:=by have H:=E.tD (i:=(IntKind.i64.wrap (a - 1)).toNat) (y:=f) (by have:=W;have:=(List.getElem?_eq_some_iff.1 this).1;simpa only[List.length_set] using this) (cs:=[.int .i64 f]) rfl;simpa only[tL,xh,Nat.mul_one,Nat.add_zero] using H
    apply ag _;obtain ⟨Z,I⟩:∃o,o=(cZ (cZ d (a).toNat [.int .i64 c]) (IntKind.i64.wrap (a - 1)).toNat [.int .i64 f]):=⟨_,rfl⟩
    refine cO (F:=⟨ro,[(b,Obj.cells Z 3)]⟩) hJ (by rw[I];exact Le.refl _) ?_;rw[<-I] at Y;clear I;refine aG hJ fun ec=>?_;apply aM hJ _;refine ⟨C,Nat.lt_succ_self _,_,Le.sub (List.Sublist.refl _),Z,(IntKind.i64.wrap (a - 1)),((e.set (a).toNat c).set (IntKind.i64.wrap (a - 1)).toNat f),l,rfl,Y,?_⟩;simp only[*,go_sem]
   cases h;apply b6;simp only[go_sem];obtain rfl:=sI l;clear l;have h:=S;dsimp only[aJ] at h;cases h;refine aG hJ fun ed=>?_;apply aM hJ _;refine ⟨s,Nat.lt_succ_self _,_,Le.sub (List.Sublist.refl _),d,(IntKind.i64.wrap (j+1)),e,t,rfl,g,?_⟩;simp only[*,go_sem]
  cases h;apply ag _;refine cx hJ ?_;apply b6;simp only[go_sem];obtain rfl:=sI l;clear l;have h:=S;dsimp only[aJ] at h;cases h;refine aG hJ fun eh=>?_;apply aM hJ _;refine ⟨s,Nat.lt_succ_self _,_,Le.sub (List.Sublist.refl _),d,(IntKind.i64.wrap (j+1)),e,t,rfl,g,?_⟩;simp only[*,go_sem]
 cases h;apply b6;simp only[go_sem];obtain rfl:=sI t;clear t;have h:=ar;dsimp only[aJ] at h;cases h;apply ag _;exact ⟨_,O,Le.sub (List.Sublist.refl _)⟩
def xL (u0:(List Int))(st:(Int×Int×Int×Bool×Bool)):Option (Fl (Int×Int×Int×Bool×Bool) (Unit×(List Int))):=
 cond (decide ((IntKind.i64.wrap (st.2.1 - st.1))<=12)) (ai (uA u0 st.1 st.2.1) fun a=>some (.rt ((),a.2))) (none)
def uB (u0:(List Int))(a:Int)(b:Int)(c:Int):Option (Unit×(List Int)):=
 cond (List.isEmpty u0) none (ai (bp (xL u0) fu (a,b,c,true,true)) fun o=>aJ o (fun d=>some ((),u0)) (fun _ _=>none) (fun r=>some r))
theorem Cb {ro:Addr->Option Value}(u0:(List Int)){f:Value}{p:List (Nat×Obj)}(g:bg rI ro 3 f u0 p)(i:Int)(j:Int)(k:Int){r:(Unit×(List Int))}(h:uB u0 i j k=some r):aD Tryz.prog 176 #[f,.int .i64 i,.int .i64 j,.int .i64 k] ⟨ro,p⟩ (fun v G=>∃b,(v= .tuple #[]/\bg rI ro 3 f r.2 b)/\Le ⟨ro,b⟩ G):=by
 obtain ⟨d1,c2,rfl,Q⟩:=g.len;unfold uB at h;revert h;refine cS (fun q h=>?_) fun q h=>?_
 .cases h
 obtain ⟨s,y,rfl,rfl,R⟩:=g.jb q;refine aD.go Tryz.func176 rfl Tryz.ntmps176 Tryz.results176 au fun main J hJ A z hd hs=>?_;have B:=hs 0;have k1:=hs 1;have C:=hs 2;have D:=hs 3;clear hs;apply ah hJ;refine aG hJ fun S=>?_;apply aM hJ _;apply ah hJ;refine aG hJ fun T=>?_;apply aM hJ _;apply aX hJ;revert h;refine bS fun E c F=>?_;refine cc hJ (rg 8 126 [1,2,3]) (fun m a F'=>∃(d:Int) (e:Int) (l:Int) (n:Bool) (o:Bool),bp (xL u0) m (d,e,l,n,o)=some E/\F'=⟨ro,[(s,Obj.cells y 3)]⟩/\slot a 1= .int .i64 d/\slot a 2= .int .i64 e/\slot a 3= .int .i64 l/\slot a 8= .bool n/\slot a 9= .bool o) fu ?_ ?_
 .refine ⟨i,j,k,true,true,c,rfl,?_⟩;simp only[*,go_sem]
 rintro t U F' u ⟨d,e,l,n,o,c,rfl,V,W,X,Y,Z⟩;obtain ⟨H,I,K⟩:=u.pick [0] aB;simp only[*,go_sem] at H I K;clear u z hd B k1 C D;obtain _|t:=t
 .exact absurd c (by simp only[bp,reduceCtorEq,not_false_eq_true])
 revert c;refine bS fun ab h w=>?_;unfold xL at h;try dsimp only at h
 refine aX hJ (ah hJ ?_);refine aG hJ fun ad=>?_;apply aM hJ _;refine ah hJ (ah hJ ?_);refine aG hJ fun ae=>?_;apply aM hJ _;revert h;refine bh hJ (fun L h=>?_) fun L h=>?_
 .apply ah hJ;refine aG hJ fun al=>?_;apply aS hJ;revert h;refine bS fun ao M h=>?_;cases h;apply ag _;refine ew hJ [] [] _ (Ca u0 g d e M) (fun ar a0 N b O a2=>?_);obtain ⟨rfl,x⟩:=N;obtain ⟨P,rfl⟩:=x.ia;simp only[bw] at O;subst b;refine ⟨⟨ro,[(s,Obj.cells P 3)]⟩,Le.refl _,?_⟩;obtain rfl:=sI w;clear w;have h:=F;dsimp only[aJ] at h;cases h;refine cg ?_;exact ⟨_,x,Le.sub (List.Sublist.refl _)⟩
 cases h
def rz (u0:(List Int))(a:Int)(b:Int)(c:Int):Option (((Int×Int)×(List Int))×Int):=
 cond (List.isEmpty u0) none (ai (bD u0 b) fun d=>ai (bD u0 a) fun e=>ai (jc d e) fun f=>cond (f) (some (((b,a),u0),IntKind.i64.wrap (c+1))) (some (((a,b),u0),c)))
theorem xM {ro:Addr->Option Value}(u0:(List Int)){c:Value}{f:List (Nat×Obj)}(a:bg rI ro 3 c u0 f)(d:Int)(e:Int)(g:Int){b:Nat}(I:∀off sp,ro ⟨b,off,sp⟩=none){r:(((Int×Int)×(List Int))×Int)}(h:rz u0 d e g=some r):aD Tryz.prog 214 #[c,.int .i64 d,.int .i64 e,.pointer (some ⟨b,0,none⟩)] ⟨ro,(b,ic g)::f⟩ (fun v G=>∃i,(∃j,i=(b,ic r.2)::j/\v= .tuple #[.int .i64 r.1.1.1,.int .i64 r.1.1.2]/\bg rI ro 3 c r.1.2 j)/\Le ⟨ro,i⟩ G):=by
 obtain ⟨d1,c2,rfl,K⟩:=a.len;unfold rz at h;revert h;refine cS (fun k h=>?_) fun k h=>?_
 .cases h
 obtain ⟨L,M,rfl,rfl,N⟩:=a.jb k;refine aD.go Tryz.func214 rfl Tryz.ntmps214 Tryz.results214 au fun main J hJ A O hd hs=>?_;have P:=hs 0;have k1:=hs 1;have Q:=hs 2;have R:=hs 3;clear hs;refine aG hJ fun p=>?_;have q:=p.nd;simp only[keys,List.map_cons,List.map_nil,List.map_append,List.cons_append,List.nil_append,List.nodup_cons,List.mem_cons,List.mem_append,List.not_mem_nil,or_false,not_or] at q;apply ah hJ;refine aG hJ fun S=>?_;apply aM hJ _;refine ah hJ (ah hJ ?_);refine aG hJ fun T=>?_;refine dh hJ mixed 9 2 aN aj ?_;revert h;refine bS fun l s h=>?_;obtain ⟨U,V,t⟩:=cP s;have W:e<((u0.length:Nat):Int):=by have:=a.count;omega
 obtain ⟨u,w,x⟩:=a.jF t;obtain rfl:u=[.int .i64 l]:=w;have m:=x 0 _ rfl;simp only[go_sem] at m;have X:=(Array.getElem?_eq_some_iff.1 m).1;revert h;refine bS fun n y h=>?_;obtain ⟨Y,Z,z⟩:=cP y;have ab:d<((u0.length:Nat):Int):=by have:=a.count;omega
 obtain ⟨B,C,D⟩:=a.jF z;obtain rfl:B=[.int .i64 n]:=C;have o:=D 0 _ rfl;simp only[go_sem] at o;have ad:=(Array.getElem?_eq_some_iff.1 o).1;revert h;refine bS fun ae E h=>?_;apply ag _;refine ⟨_,bL hJ fun F al=>kA l n E,?_⟩;revert h;refine bh hJ (fun H h=>?_) fun H h=>?_
 .cases h;apply ah hJ;refine aG hJ fun ao=>?_;apply aM hJ _;apply ah hJ;refine aG hJ fun ar=>?_;apply aM hJ _;refine cg ?_;exact ⟨_,⟨_,rfl,a⟩,Le.sub (List.Sublist.refl _)⟩
 cases h;refine aP hJ (ah hJ ?_);refine aG hJ fun a0=>?_;apply aM hJ _;refine cg ?_;exact ⟨_,⟨_,rfl,a⟩,Le.sub (List.Sublist.refl _)⟩
def xN (u0:(List Int))(d:Int)(e:Int)(f:Int)(g:Int):Option ((Int×(List Int))×Int):=
 cond (List.isEmpty u0) none (ai (rz u0 d e g) fun a=>ai (rz a.1.2 a.1.1.2 f a.2) fun b=>ai (rz b.1.2 a.1.1.1 b.1.1.1 b.2) fun c=>some ((c.1.1.2,c.1.2),c.2))
theorem HZ {ro:Addr->Option Value}(u0:(List Int)){g:Value}{p:List (Nat×Obj)}(i:bg rI ro 3 g u0 p)(j:Int)(k:Int)(l:Int)(m:Int){b:Nat}(n:∀off sp,ro ⟨b,off,sp⟩=none){r:((Int×(List Int))×Int)}(h:xN u0 j k l m=some r):aD Tryz.prog 213 #[g,.int .i64 j,.int .i64 k,.int .i64 l,.pointer (some ⟨b,0,none⟩)] ⟨ro,(b,ic m)::p⟩ (fun v G=>∃a,(∃q,a=(b,ic r.2)::q/\v= .int .i64 r.1.1/\bg rI ro 3 g r.1.2 q)/\Le ⟨ro,a⟩ G):=by
 obtain ⟨d1,c2,rfl,S⟩:=i.len;unfold xN at h;revert h;refine cS (fun s h=>?_) fun s h=>?_
 .cases h
 obtain ⟨o,T,rfl,rfl,U⟩:=i.jb s;refine aD.go Tryz.func213 rfl Tryz.ntmps213 Tryz.results213 au fun main J hJ A y hd hs=>?_;have z:=hs 0;have k1:=hs 1;have B:=hs 2;have C:=hs 3;have D:=hs 4;clear hs;refine aG hJ fun E=>?_;have F:=E.nd;simp only[keys,List.map_cons,List.map_nil,List.map_append,List.cons_append,List.nil_append,List.nodup_cons,List.mem_cons,List.mem_append,List.not_mem_nil,or_false,not_or] at F;apply ah hJ;refine aG hJ fun V=>?_;apply aM hJ _;apply ah hJ;refine aG hJ fun W=>?_;apply aS hJ;revert h;refine bS fun c H h=>?_;apply ag _;refine ew hJ [] [] _ (xM u0 i j k m n H) (fun X t d a e Y=>?_);obtain ⟨Z,rfl,rfl,u⟩:=d;obtain ⟨I,rfl⟩:=u.ia;simp only[bw] at e;subst a;refine ⟨⟨ro,(b,ic c.2)::[(o,Obj.cells I 3)]⟩,Le.refl _,?_⟩;apply aO;apply ag _;apply ah hJ;refine aG hJ fun ab=>?_;apply aS hJ;revert h;refine bS fun f K h=>?_;apply ag _;refine ew hJ [] [] _ (xM c.1.2 u c.1.1.2 l c.2 n K) (fun ad t d a e ae=>?_);obtain ⟨al,rfl,rfl,w⟩:=d;obtain ⟨L,rfl⟩:=w.ia;simp only[bw] at e;subst a;refine ⟨⟨ro,(b,ic f.2)::[(o,Obj.cells L 3)]⟩,Le.refl _,?_⟩;apply aO;apply ag _;apply ah hJ;refine aG hJ fun ao=>?_;apply aS hJ;revert h;refine bS fun M N h=>?_;cases h;apply ag _;refine ew hJ [] [] _ (xM f.1.2 w c.1.1.1 f.1.1.1 f.2 n N) (fun ar t d a e a0=>?_);obtain ⟨a2,rfl,rfl,x⟩:=d;obtain ⟨O,rfl⟩:=x.ia;simp only[bw] at e;subst a;refine ⟨⟨ro,(b,ic M.2)::[(o,Obj.cells O 3)]⟩,Le.refl _,?_⟩;apply aO;apply ag _;apply ah hJ;refine fY [0,2,10,12,20,28] fun a3 P Q R=>?_;simp only[*,go_sem] at P Q R;clear y hd z k1 B C D;refine aG hJ fun a4=>?_;apply aM hJ _;refine cg ?_;exact ⟨_,⟨_,rfl,x⟩,Le.sub (List.Sublist.refl _)⟩
def xO (u0:(List Int))(b:Int)(d:Int):Option ((Int×Int)×(List Int)):=
 cond (List.isEmpty u0) none (ai (gu (IntKind.i64.wrap (d - b)) 4) fun c=>cond (decide (8<=(IntKind.i64.wrap (d - b)))) (cond (decide (50<=(IntKind.i64.wrap (d - b)))) (none) (ai (xN u0 (IntKind.i64.wrap (b+(IntKind.i64.wrap (c*1)))) (IntKind.i64.wrap (b+(IntKind.i64.wrap (c*2)))) (IntKind.i64.wrap (b+(IntKind.i64.wrap (c*3)))) 0) fun a=>cond ((a.2==0)) (some ((a.1.1,1),a.1.2)) (cond ((a.2==12)) (some ((a.1.1,2),a.1.2)) (some ((a.1.1,0),a.1.2))))) (some ((IntKind.i64.wrap (b+(IntKind.i64.wrap (c*2))),1),u0)))
theorem H6 {ro:Addr->Option Value}(u0:(List Int)){e:Value}{g:List (Nat×Obj)}(b:bg rI ro 3 e u0 g)(a:Int)(i:Int){r:((Int×Int)×(List Int))}(h:xO u0 a i=some r):aD Tryz.prog 194 #[e,.int .i64 a,.int .i64 i] ⟨ro,g⟩ (fun v G=>∃c,(v= .tuple #[.int .i64 r.1.1,.int .i64 r.1.2]/\bg rI ro 3 e r.2 c)/\Le ⟨ro,c⟩ G):=by
 obtain ⟨d1,c2,rfl,N⟩:=b.len;unfold xO at h;revert h;refine cS (fun j h=>?_) fun j h=>?_
 .cases h
 obtain ⟨p,O,rfl,rfl,P⟩:=b.jb j;refine aD.go Tryz.func194 rfl Tryz.ntmps194 Tryz.results194 au fun main J hJ A k hd hs=>?_;have l:=hs 0;have k1:=hs 1;have m:=hs 2;clear hs;apply ah hJ;refine aG hJ fun Q=>?_;apply aM hJ _;apply ah hJ;refine aG hJ fun R=>?_;apply aM hJ _;apply ah hJ;refine aG hJ fun q=>?_;apply aM hJ _;refine aA fun s t n=>?_;have S:=aZ.cons n q;try simp only[av] at n
 apply ah hJ;refine aG hJ fun T=>?_;apply aS hJ;revert h;refine bS fun f o h=>?_;obtain ⟨U,V⟩:=kV o;clear o;apply ag _;apply ah hJ;refine aG hJ fun W=>?_;apply aM hJ _;apply ah hJ;refine aG hJ fun X=>?_;apply aM hJ _;refine ah hJ (ah hJ ?_);refine aG hJ fun Y=>?_;apply aM hJ _;revert h;refine bh hJ (fun u h=>?_) fun u h=>?_
 .refine ah hJ (ah hJ ?_);refine aG hJ fun Z=>?_;apply aM hJ _;revert h;refine bh hJ (fun w h=>?_) fun w h=>?_
  .cases h
  apply aP hJ;refine aG hJ fun ab=>?_;apply aS hJ;revert h;refine bS fun x y h=>?_;apply ag _;refine ew hJ [] [] _ (HZ u0 b (IntKind.i64.wrap (a+(IntKind.i64.wrap (f*1)))) (IntKind.i64.wrap (a+(IntKind.i64.wrap (f*2)))) (IntKind.i64.wrap (a+(IntKind.i64.wrap (f*3)))) 0 t y) (fun ad ae z c B al=>?_);obtain ⟨ao,rfl,rfl,d⟩:=z;obtain ⟨C,rfl⟩:=d.ia;simp only[bw] at B;subst c;refine ⟨⟨ro,(s,ic x.2)::[(p,Obj.cells C 3)]⟩,Le.refl _,?_⟩;apply aO;apply ag _;apply ah hJ;refine fY [0,6,7,9,11,44] fun ar D E F=>?_;simp only[*,go_sem] at D E F;clear k hd l k1 m;refine aG hJ fun a0=>?_;apply aM hJ _;refine aX hJ (ah hJ ?_);refine aG hJ fun a2=>?_;apply aM hJ _;revert h;refine bh hJ (fun H h=>?_) fun H h=>?_
  .cases h;apply ah hJ;refine aG hJ fun a3=>?_;apply aM hJ _;refine cg ?_;exact ⟨_,d,Le.sub (.cons _ (List.Sublist.refl _))⟩
  apply ah hJ;refine aG hJ fun a4=>?_;apply aM hJ _;revert h;refine bh hJ (fun I h=>?_) fun I h=>?_
  .cases h;apply ah hJ;refine aG hJ fun a5=>?_;apply aM hJ _;refine cg ?_;exact ⟨_,d,Le.sub (.cons _ (List.Sublist.refl _))⟩
  cases h;apply ah hJ;refine aG hJ fun a6=>?_;apply aM hJ _;refine cg ?_;exact ⟨_,d,Le.sub (.cons _ (List.Sublist.refl _))⟩
 cases h;refine aP hJ (ah hJ ?_);refine aG hJ fun a7=>?_;apply aM hJ _;refine aX hJ (ah hJ ?_);refine aG hJ fun a8=>?_;apply aM hJ _;refine cB hJ ?_;apply ah hJ;refine fY [0,6,7,11] fun a9 K L M=>?_;simp only[*,go_sem] at K L M;clear k hd l k1 m;refine aG hJ fun ba=>?_;apply aM hJ _;refine cg ?_;exact ⟨_,b,Le.sub (.cons _ (List.Sublist.refl _))⟩
def mA (m:Nat):Nat:=if m=0 then 0 else m.log2+1
def uC (n:Int):Option Int:=if 0<=n/\n<256 then some ((mA n.toNat:Nat):Int) else none
theorem H7:∀m:Fin 256,mA m.val<=8:=by decide+kernel
theorem H8 {ro:Addr->Option Value}(n:Int)(c:0<=n)(d:n<256):aD Tryz.prog 201 #[.int .u64 n] ⟨ro,[]⟩ (fun v _=>v= .int .i64 ((mA n.toNat:Nat):Int)):=by
 refine aD.go Tryz.func201 rfl Tryz.ntmps201 Tryz.results201 au fun main J hJ A e hd hs=>?_;have f:=hs 0;clear hs;have a1:¬(4294967296:Int)<=n:=aa;have a2:¬(65536:Int)<=n:=aa;have a3:¬(256:Int)<=n:=aa;have g:Tryz.prog.underlying 182=some (.int .u64):=aj;have h:Tryz.prog.underlying 5=some (.int .u8):=aj;have i:Tryz.prog.underlying 3=some (.int .i64):=aj;have j:Tryz.prog.underlying 9=some .string:=aj;have a4:IntKind.u8.wrap n=n:=IntWalk.u8_in n ⟨c,aa⟩;repeat refine ah hJ ?_
 refine aS hJ ?_;apply ag _;repeat refine ah hJ ?_
 refine aS hJ ?_;apply ag _;repeat refine ah hJ ?_
 refine eu hJ (by simp only[*,go_sem,ge_iff_le]) ?_;refine aP hJ ?_;repeat refine ah hJ ?_
 refine aS hJ ?_;apply ag _;repeat refine ah hJ ?_
 refine eu hJ (by simp only[*,go_sem,ge_iff_le]) ?_;refine aP hJ ?_;repeat refine ah hJ ?_
 refine aS hJ ?_;apply ag _;repeat refine ah hJ ?_
 refine eu hJ (by simp only[*,go_sem,ge_iff_le]) ?_;refine aP hJ ?_;repeat refine ah hJ ?_
 refine aS hJ ?_;apply ag _;generalize a:ByteArray.mk _=S;have key:∀m:Fin 256,S[m.val]?=some (UInt8.ofNat (mA m.val)):=by rw[<-a];decide+kernel
 clear a;have b:n.toNat<256:=aa;have hb:=key ⟨n.toNat,b⟩;have hle:=H7 ⟨n.toNat,b⟩;simp only at hb hle;simp only[hb,Option.map_some];refine aQ ?_;apply ag _;have e1:(UInt8.ofNat (mA n.toNat)).toNat=mA n.toNat:=by rw[UInt8.toNat_ofNat'];omega
 rw[e1,IntWalk.i64_in (mA n.toNat:Int) ⟨aa,aa⟩,Int.zero_add,IntWalk.i64_in (mA n.toNat:Int) ⟨aa,aa⟩]
theorem Cc {ro:Addr->Option Value}(n:Int){r:Int}(h:uC n=some r):aD Tryz.prog 177 #[.int .u64 n] ⟨ro,[]⟩ (fun v _=>v= .int .i64 r):=by
 unfold uC at h;split at h
 case isFalse=>cases h
 rename_i a;obtain ⟨b,c⟩:=a;cases h;refine aD.go Tryz.func177 rfl Tryz.ntmps177 Tryz.results177 au fun main J hJ A d hd hs=>?_;have e:=hs 0;clear hs;repeat refine ah hJ ?_
 refine aS hJ ?_;apply ag _;repeat refine ah hJ ?_
 refine eu hJ aN ?_;refine aP hJ ?_;repeat refine ah hJ ?_
 refine aS hJ ?_;apply ag _;refine bf hJ _ (H8 n b c) (aO ?_);apply ag _;refine aQ ?_;simp only[*,go_sem]
theorem H9:Tryz.prog.underlying 3=some (.int .i64):=aj
attribute [go_sem] H9
theorem Ia:Tryz.prog.underlying 182=some (.int .u64):=aj
attribute [go_sem] Ia
theorem Ib:Tryz.prog.underlying 209=some (.int .u64):=aj
attribute [go_sem] Ib
theorem Ic:Tryz.prog.underlying 250=some (.int .u64):=aj
attribute [go_sem] Ic
def xP (u0:Int):Option (Int×Int):=
 ai (qL u0 13) fun a=>ai (wS (iG u0 a) 7) fun b=>ai (qL (iG (iG u0 a) b) 17) fun c=>some ((iG (iG (iG u0 a) b) c),(iG (iG (iG u0 a) b) c))
theorem Ie {ro:Addr->Option Value}(u0:Int){a:Nat}(r1:∀off sp,ro ⟨a,off,sp⟩=none){r:(Int×Int)}(h:xP u0=some r):aD Tryz.prog 211 #[.pointer (some ⟨a,0,none⟩)] ⟨ro,[(a,.cells #[.int .u64 u0] 250)]⟩ (fun v G=>∃b,(v= .int .u64 r.1/\b=[(a,.cells #[.int .u64 r.2] 250)])/\Le ⟨ro,b⟩ G):=by
 unfold xP at h;refine aD.go Tryz.func211 rfl Tryz.ntmps211 Tryz.results211 au fun main J hJ A g hd hs=>?_;have i:=hs 0;clear hs;apply az hJ _;apply ah hJ;refine fc hJ mixed [9] (.pure 0 (.pure 1 (.rd 2 (.pure 3 (.pure 4 (.rd 5 (.pure 6 (.pure 7 (.pure 8 (.last 9 .done)))))))))) ⟨ro,[(a,.cells #[.int .u64 u0] 250)]⟩ aN aj ?_;revert h;refine bS fun c d h=>?_;obtain ⟨q,j⟩:=wR d;clear d;try simp only[go_sem] at j
 apply ag _;apply ah hJ;refine fc hJ mixed [9] (.pure 0 (.pure 1 (.rd 2 (.pure 3 (.pure 4 (.rd 5 (.pure 6 (.pure 7 (.pure 8 (.last 9 .done)))))))))) ⟨ro,[(a,.cells #[.int .u64 (iG u0 c)] 250)]⟩ aN aj ?_;revert h;refine bS fun k e h=>?_;obtain ⟨s,l⟩:=FX e;clear e;try simp only[go_sem] at l
 apply ag _;apply ah hJ;refine fc hJ mixed [9] (.pure 0 (.pure 1 (.rd 2 (.pure 3 (.pure 4 (.rd 5 (.pure 6 (.pure 7 (.pure 8 (.last 9 .done)))))))))) ⟨ro,[(a,.cells #[.int .u64 (iG (iG u0 c) k)] 250)]⟩ aN aj ?_;revert h;refine bS fun t f h=>?_;cases h;obtain ⟨u,m⟩:=wR f;clear f;try simp only[go_sem] at m
 apply ag _;apply ah hJ;refine fY [0,2] fun w n o p=>?_;simp only[*,go_sem] at n o p;clear g hd i;apply aM hJ _;refine cg ?_;exact ⟨_,rfl,Le.sub (List.Sublist.refl _)⟩
def xQ (u0:Int):Option Int:=
 ai (uC (IntKind.u64.wrap u0)) fun a=>ai (qL 1 a) fun b=>some b
theorem Ig {ro:Addr->Option Value}(u0:Int){r:Int}(h:xQ u0=some r):aD Tryz.prog 210 #[.int .i64 u0] ⟨ro,[]⟩ (fun v _=>v= .int .u64 r):=by
 unfold xQ at h;refine aD.go Tryz.func210 rfl Tryz.ntmps210 Tryz.results210 au fun main J hJ A d hd hs=>?_;have e:=hs 0;clear hs;apply az hJ _;apply aC hJ;revert h;refine bS fun f b h=>?_;apply ag _;refine bf hJ _ (Cc (IntKind.u64.wrap u0) b) (aO ?_);revert h;refine bS fun g a h=>?_;cases h;obtain ⟨i,c⟩:=wR a;clear a;try simp only[go_sem] at c
 apply ag _;apply aQ;simp only[*,go_sem]
def xR (a:Int)(e:Int)(c:Int)(h:Int)(st:(Int×(List Int)×Int)):Option (Fl (Int×(List Int)×Int) (Unit×(List Int))):=
 cond (decide (st.1<=(IntKind.i64.wrap ((IntKind.i64.wrap (a+(IntKind.i64.wrap (h*2))))+1)))) (ai (ai (xP st.2.2) fun b=>ai (cond (decide ((IntKind.i64.wrap (e - a))<=(IntKind.i64.wrap (ja b.1 (IntKind.u64.wrap (c - 1)))))) (some (.bk (IntKind.i64.wrap ((IntKind.i64.wrap (ja b.1 (IntKind.u64.wrap (c - 1)))) - (IntKind.i64.wrap (e - a)))))) (some (.bk (IntKind.i64.wrap (ja b.1 (IntKind.u64.wrap (c - 1)))))):Option (Fl Int (Unit×(List Int)))) fun o=>aJ o (fun d=>ai (bD st.2.1 (IntKind.i64.wrap (a+d))) fun f=>ai (bD st.2.1 st.1) fun i=>ai (bD (st.2.1.set (st.1).toNat f) (IntKind.i64.wrap (a+d))) fun j=>some (.bk (((st.2.1.set (st.1).toNat f).set (IntKind.i64.wrap (a+d)).toNat i),b.2))) (fun _ _=>none) (fun r=>some (.rt r)):Option (Fl ((List Int)×Int) (Unit×(List Int)))) fun o=>aJ o (fun g=>some (.nx ((IntKind.i64.wrap (st.1+1)),g.1,g.2))) (fun _ _=>none) (fun r=>some (.rt r))) (some (.bk (st.1,st.2.1,st.2.2)))
def xS (u0:(List Int))(a:Int)(b:Int):Option (Unit×(List Int)):=
 cond (List.isEmpty u0) none (cond (decide (8<=(IntKind.i64.wrap (b - a)))) (ai (xQ (IntKind.i64.wrap (b - a))) fun d=>ai (gu (IntKind.i64.wrap (b - a)) 4) fun c=>ai (bp (xR a b d c) fu ((IntKind.i64.wrap ((IntKind.i64.wrap (a+(IntKind.i64.wrap (c*2)))) - 1)),u0,(IntKind.u64.wrap (IntKind.i64.wrap (b - a))))) fun o=>aJ o (fun e=>some ((),e.2.1)) (fun _ _=>none) (fun r=>some r)) (some ((),u0)))
theorem Ih {ro:Addr->Option Value}(u0:(List Int)){x:Value}{H:List (Nat×Obj)}(l:bg rI ro 3 x u0 H)(b:Int)(d:Int){r:(Unit×(List Int))}(h:xS u0 b d=some r):aD Tryz.prog 193 #[x,.int .i64 b,.int .i64 d] ⟨ro,H⟩ (fun v G=>∃n,(v= .tuple #[]/\bg rI ro 3 x r.2 n)/\Le ⟨ro,n⟩ G):=by
 obtain ⟨d1,c2,rfl,bm⟩:=l.len;unfold xS at h;revert h;refine cS (fun I h=>?_) fun I h=>?_
 .cases h
 obtain ⟨c,T,rfl,rfl,bo⟩:=l.jb I;refine aD.go Tryz.func193 rfl Tryz.ntmps193 Tryz.results193 au fun main J hJ A U hd hs=>?_;have V:=hs 0;have k1:=hs 1;have W:=hs 2;clear hs;apply ah hJ;refine aG hJ fun br=>?_;apply aM hJ _;apply ah hJ;refine aG hJ fun bs=>?_;apply aM hJ _;revert h;refine bh hJ (fun X h=>?_) fun X h=>?_
 .apply ah hJ;refine aG hJ fun Y=>?_;apply aM hJ _;refine aA fun g Z K=>?_;have bz:=aZ.cons K Y;try simp only[av] at K
  apply ah hJ;refine aG hJ fun b0=>?_;apply aS hJ;revert h;refine bS fun j ab h=>?_;apply ag _;refine bf hJ _ (Ig (IntKind.i64.wrap (d - b)) ab) (aO ?_);apply ag _;apply ah hJ;refine aG hJ fun b1=>?_;apply aS hJ;revert h;refine bS fun L M h=>?_;obtain ⟨b2,b3⟩:=kV M;clear M;apply ag _;apply aX hJ;revert h;refine bS fun ad o ae=>?_;refine cc hJ (rg 26 39 [9,10]) (fun m a F'=>∃(e:Array Value) (f:Int) (p:(List Int)) (q:Int),bp (xR b d j L) m (f,p,q)=some ad/\F'=⟨ro,(g,.cells #[.int .u64 q] 250)::[(c,Obj.cells e 3)]⟩/\bg rI ro 3 (.slice (some ⟨c,0,none⟩) u0.length c2) p [(c,Obj.cells e 3)]/\slot a 9= .int .i64 f) fu ?_ ?_
  .refine ⟨T,(IntKind.i64.wrap ((IntKind.i64.wrap (b+(IntKind.i64.wrap (L*2)))) - 1)),u0,(IntKind.u64.wrap (IntKind.i64.wrap (d - b))),o,rfl,l,?_⟩;simp only[*,go_sem]
  rintro y N F' O ⟨e,f,p,q,o,rfl,s,P⟩;obtain ⟨z,B,C⟩:=O.pick [0,1,6,7,8] aB;simp only[*,go_sem] at z B C;clear O U hd V k1 W;obtain _|y:=y
  .exact absurd o (by simp only[bp,reduceCtorEq,not_false_eq_true])
  revert o;refine bS fun b4 h D=>?_;unfold xR at h;try dsimp only at h
  refine ah hJ (ah hJ ?_);refine aG hJ fun b5=>?_;apply aM hJ _;revert h;refine bh hJ (fun al h=>?_) fun al h=>?_
  .apply aP hJ;revert h;refine bS fun ao h ar=>?_;refine gS hJ (fun a F'=>∃(t:Array Value) (u:(List Int)) (w:Int),some (Fl.bk (u,w):Fl ((List Int)×Int) (Unit×(List Int)))=some ao/\F'=⟨ro,(g,.cells #[.int .u64 w] 250)::[(c,Obj.cells t 3)]⟩/\bg rI ro 3 (.slice (some ⟨c,0,none⟩) u0.length c2) u [(c,Obj.cells t 3)]/\sz a=65/\a.defers=[]/\c6 (rg 26 39 [9,10]) a N/\slot a 0= .slice (some ⟨c,0,none⟩) u0.length c2/\slot a 1= .int .i64 b/\slot a 6= .int .i64 (IntKind.i64.wrap (d - b))/\slot a 7= .pointer (some ⟨g,0,none⟩)/\slot a 8= .int .u64 j/\slot a 9= .int .i64 f) ?_ ?_
   .refine aX hJ (ah hJ ?_);refine aG hJ fun ca=>?_;apply aS hJ;revert h;refine bS fun i a0 h=>?_;apply ag _;refine ew hJ [] ([(c,Obj.cells e 3)]) _ (Ie q Z a0) (fun cb cd a2 n a3 cf=>?_);obtain ⟨rfl,rfl⟩:=a2;simp only[bw] at a3;subst n;refine ⟨⟨ro,(g,.cells #[.int .u64 i.2] 250)::[(c,Obj.cells e 3)]⟩,Le.refl _,?_⟩;apply aO;apply ag _;revert h;refine bS fun a4 h a5=>?_;refine gS hJ (fun a F'=>∃(k:Int),some (Fl.bk k:Fl Int (Unit×(List Int)))=some a4/\F'=⟨ro,(g,.cells #[.int .u64 i.2] 250)::[(c,Obj.cells e 3)]⟩/\sz a=65/\a.defers=[]/\c6 (rg 26 39 [9,10]) a N/\slot a 0= .slice (some ⟨c,0,none⟩) u0.length c2/\slot a 1= .int .i64 b/\slot a 6= .int .i64 (IntKind.i64.wrap (d - b))/\slot a 7= .pointer (some ⟨g,0,none⟩)/\slot a 8= .int .u64 j/\slot a 9= .int .i64 f/\slot a 10= .int .i64 k) ?_ ?_
    .apply ah hJ;refine aG hJ fun cl=>?_;apply aM hJ _;revert h;refine bh hJ (fun a6 h=>?_) fun a6 h=>?_
     .refine aG hJ fun cy=>?_;apply aM hJ _;refine Qn.intro ⟨_,Le.sub (List.Sublist.refl _),(IntKind.i64.wrap ((IntKind.i64.wrap (ja i.1 (IntKind.u64.wrap (j - 1)))) - (IntKind.i64.wrap (d - b)))),h,rfl,?_⟩;simp only[*,go_sem]
     apply oH hJ _;refine Qn.intro ⟨_,Le.sub (List.Sublist.refl _),(IntKind.i64.wrap (ja i.1 (IntKind.u64.wrap (j - 1)))),h,rfl,?_⟩;simp only[*,go_sem]
    rintro c0 F' ⟨k,Q,rfl,da,db,dd,df,dk,dp,dq,ds,dt,du⟩;obtain rfl:=sI Q;clear Q;have h:=a5;dsimp only[aJ] at h;clear z B C P;refine aG hJ fun dv=>?_;refine fc hJ mixed [17,18,19] (.pure 0 (.pure 1 (.pure 2 (.pure 3 (.pure 4 (.pure 5 (.pure 6 (.pure 7 (.pure 8 (.pure 9 (.pure 10 (.rd 11 (.pure 12 (.pure 13 (.pure 14 (.rd 15 (.pure 16 (.last 17 (.pure 18 (.last 19 .done)))))))))))))))))))) ⟨ro,[(g,.cells #[.int .u64 i.2] 250),(c,Obj.cells e 3)]⟩ aN aj ?_;revert h;refine bS fun E a7 h=>?_;obtain ⟨dC,dE,dT,ea⟩:=s.dj a7;revert h;refine bS fun F a8 h=>?_;obtain ⟨a9,ba,eb,ec⟩:=s.dj a8;have R:=s.gE a9 ba E;revert h;refine bS fun ed bb h=>?_;obtain ⟨bc,bd,eh,et⟩:=R.dj bb;have bj:=R.gE bc bd F;apply ag _;refine Qn.intro ⟨_,Le.sub (List.Sublist.refl _),(cZ (cZ e (f).toNat [.int .i64 E]) (IntKind.i64.wrap (b+k)).toNat [.int .i64 F]),((p.set (f).toNat E).set (IntKind.i64.wrap (b+k)).toNat F),i.2,h,rfl,bj,?_⟩;simp only[*,go_sem]
   rintro ev F' ⟨t,u,w,S,rfl,bl,eQ,eS,e0,e1,e2,e3,fa,fb,ff⟩;obtain rfl:=sI S;clear S;have h:=ar;dsimp only[aJ] at h;cases h;clear z B C P;refine aG hJ fun fg=>?_;apply aM hJ _;refine ⟨y,Nat.lt_succ_self _,_,Le.sub (List.Sublist.refl _),t,(IntKind.i64.wrap (f+1)),u,w,D,rfl,bl,?_⟩;simp only[*,go_sem]
  cases h;apply b6;simp only[go_sem];obtain rfl:=sI D;clear D;have h:=ae;dsimp only[aJ] at h;cases h;apply ag _;exact ⟨_,s,Le.sub (.cons _ (List.Sublist.refl _))⟩
 cases h;apply oH hJ _;exact ⟨_,l,Le.sub (List.Sublist.refl _)⟩
def xT (u0:(List Int))(a:Int)(e:Int)(b:Int)(c:Int)(d:Int)(st:Int):Option (Fl Int ((Int×Bool)×(List Int))):=
 cond (decide (st<=(IntKind.i64.wrap (e - 1)))) (ai (bD ((u0.set (a).toNat c).set (b).toNat d) st) fun f=>ai (bD ((u0.set (a).toNat c).set (b).toNat d) a) fun g=>ai (jc f g) fun h=>cond (h) (some (.nx (IntKind.i64.wrap (st+1)))) (some (.bk st))) (some (.bk st))
def xU (u0:(List Int))(a:Int)(b:Int)(c:Int)(d:Int)(e:Int)(st:Int):Option (Fl Int ((Int×Bool)×(List Int))):=
 cond (decide (e<=st)) (ai (bD ((u0.set (a).toNat c).set (b).toNat d) st) fun f=>ai (bD ((u0.set (a).toNat c).set (b).toNat d) a) fun g=>ai (jc f g) fun h=>cond (!h) (some (.nx (IntKind.i64.wrap (st - 1)))) (some (.bk st))) (some (.bk st))
def xV (b:Int)(c:Int)(a:(List Int))(st:Int):Option (Fl Int ((Int×Bool)×(List Int))):=
 cond (decide (st<=c)) (ai (bD a st) fun d=>ai (bD a b) fun e=>ai (jc d e) fun f=>cond (f) (some (.nx (IntKind.i64.wrap (st+1)))) (some (.bk st))) (some (.bk st))
def xW (b:Int)(a:(List Int))(c:Int)(st:Int):Option (Fl Int ((Int×Bool)×(List Int))):=
 cond (decide (c<=st)) (ai (bD a st) fun d=>ai (bD a b) fun e=>ai (jc d e) fun f=>cond (!f) (some (.nx (IntKind.i64.wrap (st - 1)))) (some (.bk st))) (some (.bk st))
def xX (c:Int)(st:(Int×Int×(List Int))):Option (Fl (Int×Int×(List Int)) ((Int×Bool)×(List Int))):=
 ai (ai (bp (xV c st.2.1 st.2.2) fu st.1) fun o=>aJ o (fun e=>some (.bk e)) (fun _ _=>none) (fun r=>some (.rt r)):Option (Fl Int ((Int×Bool)×(List Int)))) fun o=>aJ o (fun a=>ai (ai (bp (xW c st.2.2 a) fu st.2.1) fun o=>aJ o (fun f=>some (.bk f)) (fun _ _=>none) (fun r=>some (.rt r)):Option (Fl Int ((Int×Bool)×(List Int)))) fun o=>aJ o (fun b=>cond (decide (b<a)) (some (.bk (a,b,st.2.2))) (ai (bD st.2.2 b) fun d=>ai (bD st.2.2 a) fun g=>ai (bD (st.2.2.set (a).toNat d) b) fun h=>some (.nx ((IntKind.i64.wrap (a+1)),(IntKind.i64.wrap (b - 1)),((st.2.2.set (a).toNat d).set (b).toNat g))))) (fun _ _=>none) (fun r=>some (.rt r))) (fun _ _=>none) (fun r=>some (.rt r))
def xY (u0:(List Int))(a:Int)(h:Int)(b:Int):Option ((Int×Bool)×(List Int)):=
 cond (List.isEmpty u0) none (ai (bD u0 b) fun c=>ai (bD u0 a) fun d=>ai (bD (u0.set (a).toNat c) b) fun t=>ai (ai (bp (xT u0 a h b c d) fu (IntKind.i64.wrap (a+1))) fun o=>aJ o (fun m=>some (.bk m)) (fun _ _=>none) (fun r=>some (.rt r)):Option (Fl Int ((Int×Bool)×(List Int)))) fun o=>aJ o (fun g=>ai (ai (bp (xU u0 a b c d g) fu (IntKind.i64.wrap (h - 1))) fun o=>aJ o (fun n=>some (.bk n)) (fun _ _=>none) (fun r=>some (.rt r)):Option (Fl Int ((Int×Bool)×(List Int)))) fun o=>aJ o (fun e=>cond (decide (e<g)) (ai (bD ((u0.set (a).toNat c).set (b).toNat d) a) fun i=>ai (bD ((u0.set (a).toNat c).set (b).toNat d) e) fun p=>ai (bD (((u0.set (a).toNat c).set (b).toNat d).set (e).toNat i) a) fun u=>some ((e,true),((((u0.set (a).toNat c).set (b).toNat d).set (e).toNat i).set (a).toNat p))) (ai (bD ((u0.set (a).toNat c).set (b).toNat d) e) fun j=>ai (bD ((u0.set (a).toNat c).set (b).toNat d) g) fun q=>ai (bD (((u0.set (a).toNat c).set (b).toNat d).set (g).toNat j) e) fun v=>ai (ai (bp (xX a) fu ((IntKind.i64.wrap (g+1)),(IntKind.i64.wrap (e - 1)),((((u0.set (a).toNat c).set (b).toNat d).set (g).toNat j).set (e).toNat q))) fun o=>aJ o (fun k=>some (.bk (k.2.1,k.2.2))) (fun _ _=>none) (fun r=>some (.rt r)):Option (Fl (Int×(List Int)) ((Int×Bool)×(List Int)))) fun o=>aJ o (fun f=>ai (bD f.2 a) fun l=>ai (bD f.2 f.1) fun s=>ai (bD (f.2.set (f.1).toNat l) a) fun w=>some ((f.1,false),((f.2.set (f.1).toNat l).set (a).toNat s))) (fun _ _=>none) (fun r=>some r))) (fun _ _=>none) (fun r=>some r)) (fun _ _=>none) (fun r=>some r))
theorem Ii {ro:Addr->Option Value}(u0:(List Int)){S:Value}{bb:List (Nat×Obj)}(x:bg rI ro 3 S u0 bb)(c:Int)(y:Int)(p:Int){r:((Int×Bool)×(List Int))}(h:xY u0 c y p=some r):aD Tryz.prog 199 #[S,.int .i64 c,.int .i64 y,.int .i64 p] ⟨ro,bb⟩ (fun v G=>∃bc,(v= .tuple #[.int .i64 r.1.1,.bool r.1.2]/\bg rI ro 3 S r.2 bc)/\Le ⟨ro,bc⟩ G):=by
 obtain ⟨d1,c2,rfl,lh⟩:=x.len;unfold xY at h;revert h;refine cS (fun bd h=>?_) fun bd h=>?_
 .cases h
 obtain ⟨b,bj,rfl,rfl,lj⟩:=x.jb bd;refine aD.go Tryz.func199 rfl Tryz.ntmps199 Tryz.results199 au fun main J hJ A bl hd hs=>?_;have bm:=hs 0;have k1:=hs 1;have bo:=hs 2;have br:=hs 3;clear hs;apply ah hJ;refine aG hJ fun lk=>?_;apply aM hJ _;apply ah hJ;refine aG hJ fun ll=>?_;refine fc hJ mixed [13,14,15] (.pure 0 (.pure 1 (.pure 2 (.pure 3 (.pure 4 (.pure 5 (.pure 6 (.rd 7 (.pure 8 (.pure 9 (.pure 10 (.rd 11 (.pure 12 (.last 13 (.pure 14 (.last 15 .done)))))))))))))))) ⟨ro,[(b,Obj.cells bj 3)]⟩ aN aj ?_;revert h;refine bS fun z fv h=>?_;obtain ⟨ln,lo,lr,lv⟩:=x.dj fv;revert h;refine bS fun B fw h=>?_;obtain ⟨fx,fz,lx,ly⟩:=x.dj fw;have bs:=x.gE fx fz z;revert h;refine bS fun lL fP h=>?_;obtain ⟨fQ,fS,l1,l2⟩:=bs.dj fP;have d:=bs.gE fQ fS B;apply ag _;apply ah hJ;obtain ⟨f,T⟩:∃o,o=(cZ (cZ bj (c).toNat [.int .i64 z]) (p).toNat [.int .i64 B]):=⟨_,rfl⟩
 refine cO (F:=⟨ro,[(b,Obj.cells f 3)]⟩) hJ (by rw[T];exact Le.refl _) ?_;rw[<-T] at d;clear T;refine aG hJ fun l3=>?_;apply aM hJ _;revert h;refine bS fun fU h gg=>?_;refine gS hJ (fun a F'=>∃(g:Int),some (Fl.bk g:Fl Int ((Int×Bool)×(List Int)))=some fU/\F'=⟨ro,[(b,Obj.cells f 3)]⟩/\sz a=168/\a.defers=[]/\slot a 0= .slice (some ⟨b,0,none⟩) u0.length c2/\slot a 1= .int .i64 c/\slot a 8= .int .i64 0/\slot a 9= .bool false/\slot a 10= .int .i64 g/\slot a 11= .int .i64 (IntKind.i64.wrap (y - 1))) ?_ ?_
 .apply aX hJ;revert h;refine bS fun gl K bz=>?_;refine cc hJ (rg 30 16 [10]) (fun m a F'=>∃(q:Int),bp (xT u0 c y p z B) m q=some gl/\F'=⟨ro,[(b,Obj.cells f 3)]⟩/\slot a 10= .int .i64 q) fu ?_ ?_
  .refine ⟨(IntKind.i64.wrap (c+1)),K,rfl,?_⟩;simp only[*,go_sem]
  rintro U l4 F' b0 ⟨q,K,rfl,ma⟩;obtain ⟨gn,gp,gB⟩:=b0.pick [0,1,8,9,11] aB;simp only[*,go_sem] at gn gp gB;clear b0 bl hd bm k1 bo br;obtain _|U:=U
  .exact absurd K (by simp only[bp,reduceCtorEq,not_false_eq_true])
  revert K;refine bS fun mf h C=>?_;unfold xT at h;try dsimp only at h
  refine ah hJ (ah hJ ?_);refine aG hJ fun mi=>?_;refine dh hJ mixed 14 1 aN aj ?_;revert h;refine cS (fun gC h=>?_) fun gC h=>?_
  .revert h;refine bS fun gM gT h=>?_;obtain ⟨ml,mn,mr,mx⟩:=d.dj gT;revert h;refine bS fun gV g0 h=>?_;obtain ⟨my,m1,m2,na⟩:=d.dj g0;revert h;refine bS fun nb g1 h=>?_;apply ag _;refine ⟨_,bL hJ fun F V=>kA gM gV g1,cr ?_⟩;apply ag _;revert h;refine bh hJ (fun g2 h=>?_) fun g2 h=>?_
   .cases h;refine aP hJ (aX hJ ?_);refine aG hJ fun nd=>?_;apply aM hJ _;refine ⟨U,Nat.lt_succ_self _,_,Le.sub (List.Sublist.refl _),(IntKind.i64.wrap (q+1)),C,rfl,?_⟩;simp only[*,go_sem]
   cases h;apply b6;simp only[go_sem];obtain rfl:=sI C;clear C;have h:=bz;dsimp only[aJ] at h;apply ag _;refine Qn.intro ⟨_,Le.sub (List.Sublist.refl _),q,h,rfl,?_⟩;simp only[*,go_sem]
  cases h;apply ag _;refine cx hJ ?_;apply b6;simp only[go_sem];obtain rfl:=sI C;clear C;have h:=bz;dsimp only[aJ] at h;refine Qn.intro ⟨_,Le.sub (List.Sublist.refl _),q,h,rfl,?_⟩;simp only[*,go_sem]
 rintro nf F' ⟨g,b1,rfl,b2,b3,b4,b5,ca,cb,cd,cf⟩;obtain rfl:=sI b1;clear b1;have h:=gg;dsimp only[aJ] at h;clear bl hd bm k1 bo br;revert h;refine bS fun g3 h g4=>?_;refine gS hJ (fun a F'=>∃(k:Int),some (Fl.bk k:Fl Int ((Int×Bool)×(List Int)))=some g3/\F'=⟨ro,[(b,Obj.cells f 3)]⟩/\sz a=168/\a.defers=[]/\slot a 0= .slice (some ⟨b,0,none⟩) u0.length c2/\slot a 1= .int .i64 c/\slot a 8= .int .i64 0/\slot a 9= .bool false/\slot a 10= .int .i64 g/\slot a 11= .int .i64 k) ?_ ?_
 .apply aX hJ;revert h;refine bS fun ha L cl=>?_;refine cc hJ (rg 46 17 [11]) (fun m a F'=>∃(s:Int),bp (xU u0 c p z B g) m s=some ha/\F'=⟨ro,[(b,Obj.cells f 3)]⟩/\slot a 11= .int .i64 s) fu ?_ ?_
  .refine ⟨(IntKind.i64.wrap (y - 1)),L,rfl,?_⟩;simp only[*,go_sem]
  rintro W nm F' cy ⟨s,L,rfl,nn⟩;obtain ⟨hc,hf,hg⟩:=cy.pick [0,1,8,9,10] aB;simp only[*,go_sem] at hc hf hg;clear cy b2 b3 b4 b5 ca cb cd cf;obtain _|W:=W
  .exact absurd L (by simp only[bp,reduceCtorEq,not_false_eq_true])
  revert L;refine bS fun np h D=>?_;unfold xU at h;try dsimp only at h
  refine ah hJ (ah hJ ?_);refine aG hJ fun ns=>?_;refine dh hJ mixed 15 1 aN aj ?_;revert h;refine cS (fun hh h=>?_) fun hh h=>?_
  .revert h;refine bS fun hi hj h=>?_;obtain ⟨nx,nz,nA,nH⟩:=d.dj hj;revert h;refine bS fun hk hl h=>?_;obtain ⟨nI,nK,nQ,nR⟩:=d.dj hl;revert h;refine bS fun nT hn h=>?_;apply ag _;refine ⟨_,bL hJ fun F V=>kA hi hk hn,cr ?_⟩;apply ag _;revert h;refine bh hJ (fun ho h=>?_) fun ho h=>?_
   .cases h;refine aP hJ (aX hJ ?_);refine aG hJ fun nV=>?_;apply aM hJ _;refine ⟨W,Nat.lt_succ_self _,_,Le.sub (List.Sublist.refl _),(IntKind.i64.wrap (s - 1)),D,rfl,?_⟩;simp only[*,go_sem]
   cases h;apply b6;simp only[go_sem];obtain rfl:=sI D;clear D;have h:=cl;dsimp only[aJ] at h;apply ag _;refine Qn.intro ⟨_,Le.sub (List.Sublist.refl _),s,h,rfl,?_⟩;simp only[*,go_sem]
  cases h;apply ag _;refine cx hJ ?_;apply b6;simp only[go_sem];obtain rfl:=sI D;clear D;have h:=cl;dsimp only[aJ] at h;refine Qn.intro ⟨_,Le.sub (List.Sublist.refl _),s,h,rfl,?_⟩;simp only[*,go_sem]
 rintro nX F' ⟨k,c0,rfl,da,db,dd,df,dk,dp,dq,ds⟩;obtain rfl:=sI c0;clear c0;have h:=g4;dsimp only[aJ] at h;clear b2 b3 b4 b5 ca cb cd cf;refine ah hJ (ah hJ ?_);refine aG hJ fun nY=>?_;apply aM hJ _;revert h;refine bh hJ (fun hp h=>?_) fun hp h=>?_
 .apply ah hJ;refine aG hJ fun n0=>?_;refine fc hJ mixed [13,14,15] (.pure 0 (.pure 1 (.pure 2 (.pure 3 (.pure 4 (.pure 5 (.pure 6 (.rd 7 (.pure 8 (.pure 9 (.pure 10 (.rd 11 (.pure 12 (.last 13 (.pure 14 (.last 15 .done)))))))))))))))) ⟨ro,[(b,Obj.cells f 3)]⟩ aN aj ?_;revert h;refine bS fun dt hq h=>?_;obtain ⟨n1,n2,n3,oc⟩:=d.dj hq;revert h;refine bS fun du hr h=>?_;obtain ⟨ht,hv,oi,oj⟩:=d.dj hr;have dv:=d.gE ht hv dt;revert h;refine bS fun ox hx h=>?_;cases h;obtain ⟨hy,hz,oy,o0⟩:=dv.dj hx;have dC:=dv.gE hy hz du;apply ag _;apply ah hJ;obtain ⟨hA,X⟩:∃o,o=(cZ (cZ f (k).toNat [.int .i64 dt]) (c).toNat [.int .i64 du]):=⟨_,rfl⟩
  refine cO (F:=⟨ro,[(b,Obj.cells hA 3)]⟩) hJ (by rw[X];exact Le.refl _) ?_;rw[<-X] at dC;clear X;refine aG hJ fun o1=>?_;apply aM hJ _;refine cg ?_;exact ⟨_,dC,Le.sub (List.Sublist.refl _)⟩
 refine aP hJ (ah hJ ?_);refine aG hJ fun o2=>?_;refine fc hJ mixed [13,14,15] (.pure 0 (.pure 1 (.pure 2 (.pure 3 (.pure 4 (.pure 5 (.pure 6 (.rd 7 (.pure 8 (.pure 9 (.pure 10 (.rd 11 (.pure 12 (.last 13 (.pure 14 (.last 15 .done)))))))))))))))) ⟨ro,[(b,Obj.cells f 3)]⟩ aN aj ?_;revert h;refine bS fun Y hB h=>?_;obtain ⟨o4,pa,pb,pd⟩:=d.dj hB;revert h;refine bS fun Z hD h=>?_;obtain ⟨hE,hF,pf,ph⟩:=d.dj hD;have dE:=d.gE hE hF Y;revert h;refine bS fun pj hG h=>?_;obtain ⟨hI,hK,pk,po⟩:=dE.dj hG;have dT:=dE.gE hI hK Z;apply ag _;apply ah hJ;obtain ⟨ea,ab⟩:∃o,o=(cZ (cZ f (g).toNat [.int .i64 Y]) (k).toNat [.int .i64 Z]):=⟨_,rfl⟩
 refine cO (F:=⟨ro,[(b,Obj.cells ea 3)]⟩) hJ (by rw[ab];exact Le.refl _) ?_;rw[<-ab] at dT;clear ab;refine aG hJ fun pr=>?_;apply aM hJ _;apply ah hJ;refine aG hJ fun ps=>?_;apply aM hJ _;revert h;refine bS fun hL h hM=>?_;refine gS hJ (fun a F'=>∃(E:Array Value) (M:Int) (ad:(List Int)),some (Fl.bk (M,ad):Fl (Int×(List Int)) ((Int×Bool)×(List Int)))=some hL/\F'=⟨ro,[(b,Obj.cells E 3)]⟩/\bg rI ro 3 (.slice (some ⟨b,0,none⟩) u0.length c2) ad [(b,Obj.cells E 3)]/\sz a=168/\a.defers=[]/\slot a 0= .slice (some ⟨b,0,none⟩) u0.length c2/\slot a 1= .int .i64 c/\slot a 8= .int .i64 0/\slot a 9= .bool false/\slot a 11= .int .i64 M) ?_ ?_
 .apply aX hJ;revert h;refine bS fun hN N hP=>?_;refine cc hJ (rg 99 54 [10,11]) (fun m a F'=>∃(e:Array Value) (O:Int) (t:Int) (l:(List Int)),bp (xX c) m (O,t,l)=some hN/\F'=⟨ro,[(b,Obj.cells e 3)]⟩/\bg rI ro 3 (.slice (some ⟨b,0,none⟩) u0.length c2) l [(b,Obj.cells e 3)]/\slot a 10= .int .i64 O/\slot a 11= .int .i64 t) fu ?_ ?_
  .refine ⟨ea,(IntKind.i64.wrap (g+1)),(IntKind.i64.wrap (k - 1)),((((u0.set (c).toNat z).set (p).toNat B).set (g).toNat Y).set (k).toNat Z),N,rfl,dT,?_⟩;simp only[*,go_sem]
  rintro ae P F' eb ⟨e,O,t,l,N,rfl,i,ec,ed⟩;obtain ⟨al,ao,ar⟩:=eb.pick [0,1,8,9] aB;simp only[*,go_sem] at al ao ar;clear eb da db dd df dk dp dq ds;obtain _|ae:=ae
  .exact absurd N (by simp only[bp,reduceCtorEq,not_false_eq_true])
  revert N;refine bS fun pt h a0=>?_;unfold xX at h;try dsimp only at h
  apply aX hJ;revert h;refine bS fun hQ h hR=>?_;refine gS hJ (fun a F'=>∃(j:Int),some (Fl.bk j:Fl Int ((Int×Bool)×(List Int)))=some hQ/\F'=⟨ro,[(b,Obj.cells e 3)]⟩/\sz a=168/\a.defers=[]/\c6 (rg 99 54 [10,11]) a P/\slot a 0= .slice (some ⟨b,0,none⟩) u0.length c2/\slot a 1= .int .i64 c/\slot a 8= .int .i64 0/\slot a 9= .bool false/\slot a 10= .int .i64 j/\slot a 11= .int .i64 t) ?_ ?_
  .apply aX hJ;revert h;refine bS fun hS Q eh=>?_;refine cc hJ (rg 99 16 [10]) (fun m a F'=>∃(u:Int),bp (xV c t l) m u=some hS/\F'=⟨ro,[(b,Obj.cells e 3)]⟩/\slot a 10= .int .i64 u) fu ?_ ?_
   .refine ⟨O,Q,rfl,?_⟩;simp only[*,go_sem]
   rintro a2 hT F' a3 ⟨u,Q,rfl,pv⟩;obtain ⟨hV,hX,hY⟩:=a3.pick [0,1,8,9,11] aB;simp only[*,go_sem] at hV hX hY;have pw:c6 (rg 99 54 [10,11]) hT P:=(a3.gN aB).trans aN;clear a3 al ao ar ec ed;obtain _|a2:=a2
   .exact absurd Q (by simp only[bp,reduceCtorEq,not_false_eq_true])
   revert Q;refine bS fun px h H=>?_;unfold xV at h;(try dsimp only at h);refine ah hJ (ah hJ ?_);refine aG hJ fun py=>?_;refine dh hJ mixed 14 1 aN aj ?_;revert h;refine cS (fun hZ h=>?_) fun hZ h=>?_
   .revert h;refine bS fun h0 h1 h=>?_;obtain ⟨pA,pB,pC,pD⟩:=i.dj h1;revert h;refine bS fun h2 h3 h=>?_;obtain ⟨pL,pT,p0,p1⟩:=i.dj h3;revert h;refine bS fun qe h4 h=>?_;apply ag _;refine ⟨_,bL hJ fun F V=>kA h0 h2 h4,cr ?_⟩;apply ag _;revert h;refine bh hJ (fun h5 h=>?_) fun h5 h=>?_
    .cases h;refine aP hJ (aX hJ ?_);refine aG hJ fun qk=>?_;apply aM hJ _;refine ⟨a2,Nat.lt_succ_self _,_,Le.sub (List.Sublist.refl _),(IntKind.i64.wrap (u+1)),H,rfl,?_⟩;simp only[*,go_sem]
    cases h;apply b6;simp only[go_sem];obtain rfl:=sI H;clear H;have h:=eh;dsimp only[aJ] at h;apply ag _;refine Qn.intro ⟨_,Le.sub (List.Sublist.refl _),u,h,rfl,?_⟩;simp only[*,go_sem]
   cases h;apply ag _;refine cx hJ ?_;apply b6;simp only[go_sem];obtain rfl:=sI H;clear H;have h:=eh;dsimp only[aJ] at h;refine Qn.intro ⟨_,Le.sub (List.Sublist.refl _),u,h,rfl,?_⟩;simp only[*,go_sem]
  rintro q0 F' ⟨j,et,rfl,ev,eQ,q1,eS,e0,e1,e2,e3,fa⟩;obtain rfl:=sI et;clear et;have h:=hR;dsimp only[aJ] at h;clear al ao ar ec ed;revert h;refine bS fun h6 h h7=>?_;refine gS hJ (fun a F'=>∃(n:Int),some (Fl.bk n:Fl Int ((Int×Bool)×(List Int)))=some h6/\F'=⟨ro,[(b,Obj.cells e 3)]⟩/\sz a=168/\a.defers=[]/\c6 (rg 99 54 [10,11]) a P/\slot a 0= .slice (some ⟨b,0,none⟩) u0.length c2/\slot a 1= .int .i64 c/\slot a 8= .int .i64 0/\slot a 9= .bool false/\slot a 10= .int .i64 j/\slot a 11= .int .i64 n) ?_ ?_
  .apply aX hJ;revert h;refine bS fun h8 R fb=>?_;refine cc hJ (rg 115 17 [11]) (fun m a F'=>∃(w:Int),bp (xW c l j) m w=some h8/\F'=⟨ro,[(b,Obj.cells e 3)]⟩/\slot a 11= .int .i64 w) fu ?_ ?_
   .refine ⟨t,R,rfl,?_⟩;simp only[*,go_sem]
   rintro a4 h9 F' a5 ⟨w,R,rfl,ra⟩;obtain ⟨ib,ic,ih⟩:=a5.pick [0,1,8,9,10] aB;simp only[*,go_sem] at ib ic ih;have rb:c6 (rg 99 54 [10,11]) h9 P:=(a5.gN aB).trans aN;clear a5 ev eQ eS e0 e1 e2 e3 fa;obtain _|a4:=a4
   .exact absurd R (by simp only[bp,reduceCtorEq,not_false_eq_true])
   revert R;refine bS fun re h I=>?_;unfold xW at h;(try dsimp only at h);refine ah hJ (ah hJ ?_);refine aG hJ fun rh=>?_;refine dh hJ mixed 15 1 aN aj ?_;revert h;refine cS (fun ik h=>?_) fun ik h=>?_
   .revert h;refine bS fun il im h=>?_;obtain ⟨rk,rl,rn,rp⟩:=i.dj im;revert h;refine bS fun iv ix h=>?_;obtain ⟨rr,rv,rB,rL⟩:=i.dj ix;revert h;refine bS fun sa jC h=>?_;apply ag _;refine ⟨_,bL hJ fun F V=>kA il iv jC,cr ?_⟩;apply ag _;revert h;refine bh hJ (fun j1 h=>?_) fun j1 h=>?_
    .cases h;refine aP hJ (aX hJ ?_);refine aG hJ fun sb=>?_;apply aM hJ _;refine ⟨a4,Nat.lt_succ_self _,_,Le.sub (List.Sublist.refl _),(IntKind.i64.wrap (w - 1)),I,rfl,?_⟩;simp only[*,go_sem]
    cases h;apply b6;simp only[go_sem];obtain rfl:=sI I;clear I;have h:=fb;dsimp only[aJ] at h;apply ag _;refine Qn.intro ⟨_,Le.sub (List.Sublist.refl _),w,h,rfl,?_⟩;simp only[*,go_sem]
   cases h;apply ag _;refine cx hJ ?_;apply b6;simp only[go_sem];obtain rfl:=sI I;clear I;have h:=fb;dsimp only[aJ] at h;refine Qn.intro ⟨_,Le.sub (List.Sublist.refl _),w,h,rfl,?_⟩;simp only[*,go_sem]
  rintro sc F' ⟨n,ff,rfl,sf,sg,sh,sl,sm,ss,sy,sT,ta⟩;obtain rfl:=sI ff;clear ff;have h:=h7;dsimp only[aJ] at h;clear ev eQ eS e0 e1 e2 e3 fa;refine ah hJ (ah hJ ?_);refine aG hJ fun tb=>?_;apply aM hJ _;revert h;refine bh hJ (fun j2 h=>?_) fun j2 h=>?_
  .cases h;apply b6;simp only[go_sem];obtain rfl:=sI a0;clear a0;have h:=hP;dsimp only[aJ] at h;apply ag _;refine Qn.intro ⟨_,Le.sub (List.Sublist.refl _),e,n,l,h,rfl,i,?_⟩;simp only[*,go_sem]
  refine aP hJ (ah hJ ?_);refine aG hJ fun te=>?_;refine fc hJ mixed [13,14,15] (.pure 0 (.pure 1 (.pure 2 (.pure 3 (.pure 4 (.pure 5 (.pure 6 (.rd 7 (.pure 8 (.pure 9 (.pure 10 (.rd 11 (.pure 12 (.last 13 (.pure 14 (.last 15 .done)))))))))))))))) ⟨ro,[(b,Obj.cells e 3)]⟩ aN aj ?_;revert h;refine bS fun a6 kh h=>?_;obtain ⟨ti,tk,tl,tm⟩:=i.dj kh;revert h;refine bS fun a7 kj h=>?_;obtain ⟨kk,kl,tp,ts⟩:=i.dj kj;have fg:=i.gE kk kl a6;revert h;refine bS fun tt km h=>?_;cases h;obtain ⟨kn,kp,tv,tx⟩:=fg.dj km;have fi:=fg.gE kn kp a7;apply ag _;apply ah hJ;obtain ⟨fl,a8⟩:∃o,o=(cZ (cZ e (j).toNat [.int .i64 a6]) (n).toNat [.int .i64 a7]):=⟨_,rfl⟩
  refine cO (F:=⟨ro,[(b,Obj.cells fl 3)]⟩) hJ (by rw[a8];exact Le.refl _) ?_;rw[<-a8] at fi;clear a8;refine aG hJ fun tz=>?_;apply aM hJ _;refine aG hJ fun tI=>?_;apply aM hJ _;refine ⟨ae,Nat.lt_succ_self _,_,Le.sub (List.Sublist.refl _),fl,(IntKind.i64.wrap (j+1)),(IntKind.i64.wrap (n - 1)),((l.set (j).toNat a6).set (n).toNat a7),a0,rfl,fi,?_⟩;simp only[*,go_sem]
 rintro tM F' ⟨E,M,ad,fp,rfl,a9,tW,ub,ui,u1,u2,u3,u4⟩;obtain rfl:=sI fp;clear fp;have h:=hM;dsimp only[aJ] at h;clear da db dd df dk dp dq ds;apply ah hJ;refine aG hJ fun va=>?_;refine fc hJ mixed [13,14,15] (.pure 0 (.pure 1 (.pure 2 (.pure 3 (.pure 4 (.pure 5 (.pure 6 (.rd 7 (.pure 8 (.pure 9 (.pure 10 (.rd 11 (.pure 12 (.last 13 (.pure 14 (.last 15 .done)))))))))))))))) ⟨ro,[(b,Obj.cells E 3)]⟩ aN aj ?_;revert h;refine bS fun fq ks h=>?_;obtain ⟨vd,vs,vx,vy⟩:=a9.dj ks;revert h;refine bS fun fr kt h=>?_;obtain ⟨kv,kx,v3,wa⟩:=a9.dj kt;have fs:=a9.gE kv kx fq;revert h;refine bS fun wb ky h=>?_;cases h;obtain ⟨k0,k2,wc,wi⟩:=fs.dj ky;have ft:=fs.gE k0 k2 fr;apply ag _;apply ah hJ;obtain ⟨lb,ba⟩:∃o,o=(cZ (cZ E (M).toNat [.int .i64 fq]) (c).toNat [.int .i64 fr]):=⟨_,rfl⟩
 refine cO (F:=⟨ro,[(b,Obj.cells lb 3)]⟩) hJ (by rw[ba];exact Le.refl _) ?_;rw[<-ba] at ft;clear ba;refine aG hJ fun wx=>?_;apply aM hJ _;refine cg ?_;exact ⟨_,ft,Le.sub (List.Sublist.refl _)⟩
def xZ (b:Int)(c:Int)(a:(List Int))(st:Int):Option (Fl Int (Int×(List Int))):=
 cond (decide (st<=c)) (ai (bD a b) fun d=>ai (bD a st) fun e=>ai (jc d e) fun f=>cond (!f) (some (.nx (IntKind.i64.wrap (st+1)))) (some (.bk st))) (some (.bk st))
def x2 (b:Int)(a:(List Int))(c:Int)(st:Int):Option (Fl Int (Int×(List Int))):=
 cond (decide (c<=st)) (ai (bD a b) fun d=>ai (bD a st) fun e=>ai (jc d e) fun f=>cond (f) (some (.nx (IntKind.i64.wrap (st - 1)))) (some (.bk st))) (some (.bk st))
def x3 (c:Int)(st:(Int×Int×(List Int))):Option (Fl (Int×Int×(List Int)) (Int×(List Int))):=
 ai (ai (bp (xZ c st.2.1 st.2.2) fu st.1) fun o=>aJ o (fun e=>some (.bk e)) (fun _ _=>none) (fun r=>some (.rt r)):Option (Fl Int (Int×(List Int)))) fun o=>aJ o (fun a=>ai (ai (bp (x2 c st.2.2 a) fu st.2.1) fun o=>aJ o (fun f=>some (.bk f)) (fun _ _=>none) (fun r=>some (.rt r)):Option (Fl Int (Int×(List Int)))) fun o=>aJ o (fun b=>cond (decide (b<a)) (some (.bk (a,b,st.2.2))) (ai (bD st.2.2 b) fun d=>ai (bD st.2.2 a) fun g=>ai (bD (st.2.2.set (a).toNat d) b) fun h=>some (.nx ((IntKind.i64.wrap (a+1)),(IntKind.i64.wrap (b - 1)),((st.2.2.set (a).toNat d).set (b).toNat g))))) (fun _ _=>none) (fun r=>some (.rt r))) (fun _ _=>none) (fun r=>some (.rt r))
def x4 (u0:(List Int))(a:Int)(f:Int)(b:Int):Option (Int×(List Int)):=
 cond (List.isEmpty u0) none (ai (bD u0 b) fun c=>ai (bD u0 a) fun g=>ai (bD (u0.set (a).toNat c) b) fun h=>ai (ai (bp (x3 a) fu ((IntKind.i64.wrap (a+1)),(IntKind.i64.wrap (f - 1)),((u0.set (a).toNat c).set (b).toNat g))) fun o=>aJ o (fun d=>some (.bk (d.1,d.2.2))) (fun _ _=>none) (fun r=>some (.rt r)):Option (Fl (Int×(List Int)) (Int×(List Int)))) fun o=>aJ o (fun e=>some (e.1,e.2)) (fun _ _=>none) (fun r=>some r))
theorem Ij {ro:Addr->Option Value}(u0:(List Int)){z:Value}{X:List (Nat×Obj)}(n:bg rI ro 3 z u0 X)(c:Int)(B:Int)(s:Int){r:(Int×(List Int))}(h:x4 u0 c B s=some r):aD Tryz.prog 198 #[z,.int .i64 c,.int .i64 B,.int .i64 s] ⟨ro,X⟩ (fun v G=>∃Y,(v= .int .i64 r.1/\bg rI ro 3 z r.2 Y)/\Le ⟨ro,Y⟩ G):=by
 obtain ⟨d1,c2,rfl,fs⟩:=n.len;unfold x4 at h;revert h;refine cS (fun Z h=>?_) fun Z h=>?_
 .cases h
 obtain ⟨b,ab,rfl,rfl,ft⟩:=n.jb Z;refine aD.go Tryz.func198 rfl Tryz.ntmps198 Tryz.results198 au fun main J hJ A ad hd hs=>?_;have ae:=hs 0;have k1:=hs 1;have al:=hs 2;have ao:=hs 3;clear hs;apply ah hJ;refine aG hJ fun fv=>?_;apply aM hJ _;apply ah hJ;refine aG hJ fun fw=>?_;refine fc hJ mixed [13,14,15] (.pure 0 (.pure 1 (.pure 2 (.pure 3 (.pure 4 (.pure 5 (.pure 6 (.rd 7 (.pure 8 (.pure 9 (.pure 10 (.rd 11 (.pure 12 (.last 13 (.pure 14 (.last 15 .done)))))))))))))))) ⟨ro,[(b,Obj.cells ab 3)]⟩ aN aj ?_;revert h;refine bS fun C b0 h=>?_;obtain ⟨fx,fz,fP,fQ⟩:=n.dj b0;revert h;refine bS fun D b1 h=>?_;obtain ⟨b2,b3,fS,fU⟩:=n.dj b1;have ar:=n.gE b2 b3 C;revert h;refine bS fun gg b4 h=>?_;obtain ⟨b5,ca,gl,gn⟩:=ar.dj b4;have a0:=ar.gE b5 ca D;apply ag _;apply ah hJ;obtain ⟨a2,E⟩:∃o,o=(cZ (cZ ab (c).toNat [.int .i64 C]) (s).toNat [.int .i64 D]):=⟨_,rfl⟩
 refine cO (F:=⟨ro,[(b,Obj.cells a2 3)]⟩) hJ (by rw[E];exact Le.refl _) ?_;rw[<-E] at a0;clear E;refine aG hJ fun gp=>?_;apply aM hJ _;revert h;refine bS fun cb h cd=>?_;refine gS hJ (fun a F'=>∃(H:Array Value) (I:Int) (K:(List Int)),some (Fl.bk (I,K):Fl (Int×(List Int)) (Int×(List Int)))=some cb/\F'=⟨ro,[(b,Obj.cells H 3)]⟩/\bg rI ro 3 (.slice (some ⟨b,0,none⟩) u0.length c2) K [(b,Obj.cells H 3)]/\sz a=84/\a.defers=[]/\slot a 0= .slice (some ⟨b,0,none⟩) u0.length c2/\slot a 8= .int .i64 0/\slot a 9= .int .i64 I) ?_ ?_
 .apply aX hJ;revert h;refine bS fun cf t cl=>?_;refine cc hJ (rg 29 54 [9,10]) (fun m a F'=>∃(d:Array Value) (u:Int) (i:Int) (g:(List Int)),bp (x3 c) m (u,i,g)=some cf/\F'=⟨ro,[(b,Obj.cells d 3)]⟩/\bg rI ro 3 (.slice (some ⟨b,0,none⟩) u0.length c2) g [(b,Obj.cells d 3)]/\slot a 9= .int .i64 u/\slot a 10= .int .i64 i) fu ?_ ?_
  .refine ⟨a2,(IntKind.i64.wrap (c+1)),(IntKind.i64.wrap (B - 1)),((u0.set (c).toNat C).set (s).toNat D),t,rfl,a0,?_⟩;simp only[*,go_sem]
  rintro L w F' a3 ⟨d,u,i,g,t,rfl,f,a4,a5⟩;obtain ⟨M,N,O⟩:=a3.pick [0,1,8] aB;simp only[*,go_sem] at M N O;clear a3 ad hd ae k1 al ao;obtain _|L:=L
  .exact absurd t (by simp only[bp,reduceCtorEq,not_false_eq_true])
  revert t;refine bS fun gB h P=>?_;unfold x3 at h;try dsimp only at h
  apply aX hJ;revert h;refine bS fun cy h c0=>?_;refine gS hJ (fun a F'=>∃(e:Int),some (Fl.bk e:Fl Int (Int×(List Int)))=some cy/\F'=⟨ro,[(b,Obj.cells d 3)]⟩/\sz a=84/\a.defers=[]/\c6 (rg 29 54 [9,10]) a w/\slot a 0= .slice (some ⟨b,0,none⟩) u0.length c2/\slot a 1= .int .i64 c/\slot a 8= .int .i64 0/\slot a 9= .int .i64 e/\slot a 10= .int .i64 i) ?_ ?_
  .apply aX hJ;revert h;refine bS fun da x a6=>?_;refine cc hJ (rg 29 17 [9]) (fun m a F'=>∃(j:Int),bp (xZ c i g) m j=some da/\F'=⟨ro,[(b,Obj.cells d 3)]⟩/\slot a 9= .int .i64 j) fu ?_ ?_
   .refine ⟨u,x,rfl,?_⟩;simp only[*,go_sem]
   rintro Q db F' R ⟨j,x,rfl,gC⟩;obtain ⟨dd,df,dk⟩:=R.pick [0,1,8,10] aB;simp only[*,go_sem] at dd df dk;have gM:c6 (rg 29 54 [9,10]) db w:=(R.gN aB).trans aN;clear R M N O a4 a5;obtain _|Q:=Q
   .exact absurd x (by simp only[bp,reduceCtorEq,not_false_eq_true])
   revert x;refine bS fun gT h p=>?_;unfold xZ at h;(try dsimp only at h);refine ah hJ (ah hJ ?_);refine aG hJ fun gV=>?_;refine dh hJ mixed 15 1 aN aj ?_;revert h;refine cS (fun dp h=>?_) fun dp h=>?_
   .revert h;refine bS fun dq ds h=>?_;obtain ⟨g0,g1,g2,g3⟩:=f.dj ds;revert h;refine bS fun dt du h=>?_;obtain ⟨g4,ha,hc,hf⟩:=f.dj du;revert h;refine bS fun hg dv h=>?_;apply ag _;refine ⟨_,bL hJ fun F dC=>kA dq dt dv,cr ?_⟩;apply ag _;revert h;refine bh hJ (fun dE h=>?_) fun dE h=>?_
    .cases h;refine aP hJ (aX hJ ?_);refine aG hJ fun hh=>?_;apply aM hJ _;refine ⟨Q,Nat.lt_succ_self _,_,Le.sub (List.Sublist.refl _),(IntKind.i64.wrap (j+1)),p,rfl,?_⟩;simp only[*,go_sem]
    cases h;apply b6;simp only[go_sem];obtain rfl:=sI p;clear p;have h:=a6;dsimp only[aJ] at h;apply ag _;refine Qn.intro ⟨_,Le.sub (List.Sublist.refl _),j,h,rfl,?_⟩;simp only[*,go_sem]
   cases h;apply ag _;refine cx hJ ?_;apply b6;simp only[go_sem];obtain rfl:=sI p;clear p;have h:=a6;dsimp only[aJ] at h;refine Qn.intro ⟨_,Le.sub (List.Sublist.refl _),j,h,rfl,?_⟩;simp only[*,go_sem]
  rintro hi F' ⟨e,a7,rfl,a8,a9,hj,ba,bb,bc,bd,bj⟩;obtain rfl:=sI a7;clear a7;have h:=c0;dsimp only[aJ] at h;clear M N O a4 a5;revert h;refine bS fun dT h ea=>?_;refine gS hJ (fun a F'=>∃(k:Int),some (Fl.bk k:Fl Int (Int×(List Int)))=some dT/\F'=⟨ro,[(b,Obj.cells d 3)]⟩/\sz a=84/\a.defers=[]/\c6 (rg 29 54 [9,10]) a w/\slot a 0= .slice (some ⟨b,0,none⟩) u0.length c2/\slot a 1= .int .i64 c/\slot a 8= .int .i64 0/\slot a 9= .int .i64 e/\slot a 10= .int .i64 k) ?_ ?_
  .apply aX hJ;revert h;refine bS fun eb y bl=>?_;refine cc hJ (rg 46 16 [10]) (fun m a F'=>∃(l:Int),bp (x2 c g e) m l=some eb/\F'=⟨ro,[(b,Obj.cells d 3)]⟩/\slot a 10= .int .i64 l) fu ?_ ?_
   .refine ⟨i,y,rfl,?_⟩;simp only[*,go_sem]
   rintro S ec F' T ⟨l,y,rfl,hk⟩;obtain ⟨ed,eh,et⟩:=T.pick [0,1,8,9] aB;simp only[*,go_sem] at ed eh et;have hl:c6 (rg 29 54 [9,10]) ec w:=(T.gN aB).trans aN;clear T a8 a9 ba bb bc bd bj;obtain _|S:=S
   .exact absurd y (by simp only[bp,reduceCtorEq,not_false_eq_true])
   revert y;refine bS fun hn h q=>?_;unfold x2 at h;(try dsimp only at h);refine ah hJ (ah hJ ?_);refine aG hJ fun ho=>?_;refine dh hJ mixed 14 1 aN aj ?_;revert h;refine cS (fun ev h=>?_) fun ev h=>?_
   .revert h;refine bS fun eQ eS h=>?_;obtain ⟨hp,hq,hr,ht⟩:=f.dj eS;revert h;refine bS fun e0 e1 h=>?_;obtain ⟨hv,hx,hy,hz⟩:=f.dj e1;revert h;refine bS fun hA e2 h=>?_;apply ag _;refine ⟨_,bL hJ fun F dC=>kA eQ e0 e2,cr ?_⟩;apply ag _;revert h;refine bh hJ (fun e3 h=>?_) fun e3 h=>?_
    .cases h;refine aP hJ (aX hJ ?_);refine aG hJ fun hB=>?_;apply aM hJ _;refine ⟨S,Nat.lt_succ_self _,_,Le.sub (List.Sublist.refl _),(IntKind.i64.wrap (l - 1)),q,rfl,?_⟩;simp only[*,go_sem]
    cases h;apply b6;simp only[go_sem];obtain rfl:=sI q;clear q;have h:=bl;dsimp only[aJ] at h;apply ag _;refine Qn.intro ⟨_,Le.sub (List.Sublist.refl _),l,h,rfl,?_⟩;simp only[*,go_sem]
   cases h;apply ag _;refine cx hJ ?_;apply b6;simp only[go_sem];obtain rfl:=sI q;clear q;have h:=bl;dsimp only[aJ] at h;refine Qn.intro ⟨_,Le.sub (List.Sublist.refl _),l,h,rfl,?_⟩;simp only[*,go_sem]
  rintro hD F' ⟨k,bm,rfl,hE,hF,hG,hI,hK,hL,hM,hN⟩;obtain rfl:=sI bm;clear bm;have h:=ea;dsimp only[aJ] at h;clear a8 a9 ba bb bc bd bj;refine ah hJ (ah hJ ?_);refine aG hJ fun hP=>?_;apply aM hJ _;revert h;refine bh hJ (fun fa h=>?_) fun fa h=>?_
  .cases h;apply b6;simp only[go_sem];obtain rfl:=sI P;clear P;have h:=cl;dsimp only[aJ] at h;apply ag _;refine Qn.intro ⟨_,Le.sub (List.Sublist.refl _),d,e,g,h,rfl,f,?_⟩;simp only[*,go_sem]
  refine aP hJ (ah hJ ?_);refine aG hJ fun hQ=>?_;refine fc hJ mixed [13,14,15] (.pure 0 (.pure 1 (.pure 2 (.pure 3 (.pure 4 (.pure 5 (.pure 6 (.rd 7 (.pure 8 (.pure 9 (.pure 10 (.rd 11 (.pure 12 (.last 13 (.pure 14 (.last 15 .done)))))))))))))))) ⟨ro,[(b,Obj.cells d 3)]⟩ aN aj ?_;revert h;refine bS fun U fb h=>?_;obtain ⟨hR,hS,hT,hV⟩:=f.dj fb;revert h;refine bS fun V ff h=>?_;obtain ⟨fg,fi,hX,hY⟩:=f.dj ff;have bo:=f.gE fg fi U;revert h;refine bS fun hZ fl h=>?_;cases h;obtain ⟨fp,fq,h0,h1⟩:=bo.dj fl;have br:=bo.gE fp fq V;apply ag _;apply ah hJ;obtain ⟨bs,W⟩:∃o,o=(cZ (cZ d (e).toNat [.int .i64 U]) (k).toNat [.int .i64 V]):=⟨_,rfl⟩
  refine cO (F:=⟨ro,[(b,Obj.cells bs 3)]⟩) hJ (by rw[W];exact Le.refl _) ?_;rw[<-W] at br;clear W;refine aG hJ fun h2=>?_;apply aM hJ _;refine aG hJ fun h3=>?_;apply aM hJ _;refine ⟨L,Nat.lt_succ_self _,_,Le.sub (List.Sublist.refl _),bs,(IntKind.i64.wrap (e+1)),(IntKind.i64.wrap (k - 1)),((g.set (e).toNat U).set (k).toNat V),P,rfl,br,?_⟩;simp only[*,go_sem]
 rintro h4 F' ⟨H,I,K,bz,rfl,fr,h5,h6,h7,h8,h9⟩;obtain rfl:=sI bz;clear bz;have h:=cd;dsimp only[aJ] at h;cases h;clear ad hd ae k1 al ao;apply ah hJ;refine aG hJ fun ib=>?_;apply aM hJ _;refine cg ?_;exact ⟨_,fr,Le.sub (List.Sublist.refl _)⟩
def x5 (u0:(List Int))(a:Int)(st:Int):Option (Fl Int (Bool×(List Int))):=
 cond (decide (st<a)) (ai (bD u0 st) fun b=>ai (bD u0 (IntKind.i64.wrap (st - 1))) fun c=>ai (jc b c) fun d=>cond (!d) (some (.nx (IntKind.i64.wrap (st+1)))) (some (.bk st))) (some (.bk st))
def x6 (u0:(List Int))(b:Int)(a:Int)(st:(Bool×Int×Int)):Option (Fl (Bool×Int×Int) (Bool×(List Int))):=
 cond (decide (st.2.2<5)) (ai (ai (bp (x5 u0 a) fu st.2.1) fun o=>aJ o (fun c=>some (.bk c)) (fun _ _=>none) (fun r=>some (.rt r)):Option (Fl Int (Bool×(List Int)))) fun o=>aJ o (fun d=>cond ((d==a)) (some (.rt (true,u0))) (cond (decide ((IntKind.i64.wrap (a - b))<50)) (some (.rt (false,u0))) (none))) (fun _ _=>none) (fun r=>some (.rt r))) (some (.bk (st.1,st.2.1,st.2.2)))
def x7 (u0:(List Int))(a:Int)(b:Int):Option (Bool×(List Int)):=
 cond (List.isEmpty u0) none (ai (ai (bp (x6 u0 a b) fu (false,(IntKind.i64.wrap (a+1)),0)) fun o=>aJ o (fun c=>some (.bk c.1)) (fun _ _=>none) (fun r=>some (.rt r)):Option (Fl Bool (Bool×(List Int)))) fun o=>aJ o (fun d=>some (false,u0)) (fun _ _=>none) (fun r=>some r))
theorem Ik {ro:Addr->Option Value}(u0:(List Int)){p:Value}{C:List (Nat×Obj)}(b:bg rI ro 3 p u0 C)(f:Int)(g:Int){r:(Bool×(List Int))}(h:x7 u0 f g=some r):aD Tryz.prog 196 #[p,.int .i64 f,.int .i64 g] ⟨ro,C⟩ (fun v G=>∃D,(v= .bool r.1/\bg rI ro 3 p r.2 D)/\Le ⟨ro,D⟩ G):=by
 obtain ⟨d1,c2,rfl,a8⟩:=b.len;unfold x7 at h;revert h;refine cS (fun E h=>?_) fun E h=>?_
 .cases h
 obtain ⟨c,k,rfl,rfl,a9⟩:=b.jb E;refine aD.go Tryz.func196 rfl Tryz.ntmps196 Tryz.results196 au fun main J hJ A H hd hs=>?_;have I:=hs 0;have k1:=hs 1;have K:=hs 2;clear hs;apply ah hJ;refine aG hJ fun ba=>?_;apply aM hJ _;apply ah hJ;refine aG hJ fun bb=>?_;apply aM hJ _;revert h;refine bS fun U h q=>?_;refine gS hJ (fun a F'=>∃(s:Bool),some (Fl.bk s:Fl Bool (Bool×(List Int)))=some U/\F'=⟨ro,[(c,Obj.cells k 3)]⟩/\sz a=133/\a.defers=[]/\slot a 0= .slice (some ⟨c,0,none⟩) u0.length c2/\slot a 6= .bool s) ?_ ?_
 .apply ah hJ;refine aG hJ fun bc=>?_;apply aM hJ _;apply aX hJ;revert h;refine bS fun V l t=>?_;refine cc hJ (rg 13 120 [6,7,8,9,10]) (fun m a F'=>∃(i:Bool) (n:Int) (v20:Int),bp (x6 u0 f g) m (i,n,v20)=some V/\F'=⟨ro,[(c,Obj.cells k 3)]⟩/\slot a 6= .bool i/\slot a 7= .int .i64 n/\slot a 8= .int .i64 v20) fu ?_ ?_
  .refine ⟨false,(IntKind.i64.wrap (f+1)),0,l,rfl,?_⟩;simp only[*,go_sem]
  rintro L M F' N ⟨i,n,v20,l,rfl,O,P,Q⟩;obtain ⟨u,w,x⟩:=N.pick [0,1,2] aB;simp only[*,go_sem] at u w x;clear N H hd I k1 K;obtain _|L:=L
  .exact absurd l (by simp only[bp,reduceCtorEq,not_false_eq_true])
  revert l;refine bS fun bd h d=>?_;unfold x6 at h;try dsimp only at h
  refine ah hJ (ah hJ ?_);refine aG hJ fun bj=>?_;apply aM hJ _;revert h;refine bh hJ (fun W h=>?_) fun W h=>?_
  .refine aP hJ (ah hJ ?_);apply aX hJ;revert h;refine bS fun X h Y=>?_;refine gS hJ (fun a F'=>∃(y:Int),some (Fl.bk y:Fl Int (Bool×(List Int)))=some X/\F'=⟨ro,[(c,Obj.cells k 3)]⟩/\sz a=133/\a.defers=[]/\c6 (rg 13 120 [6,7,8,9,10]) a M/\slot a 0= .slice (some ⟨c,0,none⟩) u0.length c2/\slot a 1= .int .i64 f/\slot a 2= .int .i64 g/\slot a 6= .bool i/\slot a 7= .int .i64 y/\slot a 8= .int .i64 v20) ?_ ?_
   .apply aX hJ;revert h;refine bS fun Z o R=>?_;refine cc hJ (rg 17 18 [7]) (fun m a F'=>∃(e:Int),bp (x5 u0 g) m e=some Z/\F'=⟨ro,[(c,Obj.cells k 3)]⟩/\slot a 7= .int .i64 e) fu ?_ ?_
    .refine ⟨n,o,rfl,?_⟩;simp only[*,go_sem]
    rintro z ab F' B ⟨e,o,rfl,bl⟩;obtain ⟨ad,ae,al⟩:=B.pick [0,1,2,6,8,13,14] aB;simp only[*,go_sem] at ad ae al;have bm:c6 (rg 13 120 [6,7,8,9,10]) ab M:=(B.gN aB).trans aN;clear B u w x O P Q;obtain _|z:=z
    .exact absurd o (by simp only[bp,reduceCtorEq,not_false_eq_true])
    revert o;refine bS fun bo h j=>?_;unfold x5 at h;(try dsimp only at h);refine ah hJ (ah hJ ?_);refine aG hJ fun br=>?_;refine dh hJ mixed 16 1 aN aj ?_;revert h;refine cS (fun ao h=>?_) fun ao h=>?_
    .revert h;refine bS fun ar a0 h=>?_;obtain ⟨bs,bz,b0,b1⟩:=b.dj a0;revert h;refine bS fun a2 a3 h=>?_;obtain ⟨b2,b3,b4,b5⟩:=b.dj a3;revert h;refine bS fun ca a4 h=>?_;apply ag _;refine ⟨_,bL hJ fun F cb=>kA ar a2 a4,cr ?_⟩;apply ag _;revert h;refine bh hJ (fun a5 h=>?_) fun a5 h=>?_
     .cases h;refine aP hJ (aX hJ ?_);refine aG hJ fun cd=>?_;apply aM hJ _;refine ⟨z,Nat.lt_succ_self _,_,Le.sub (List.Sublist.refl _),(IntKind.i64.wrap (e+1)),j,rfl,?_⟩;simp only[*,go_sem]
     cases h;apply b6;simp only[go_sem];obtain rfl:=sI j;clear j;have h:=R;dsimp only[aJ] at h;apply ag _;refine Qn.intro ⟨_,Le.sub (List.Sublist.refl _),e,h,rfl,?_⟩;simp only[*,go_sem]
    cases h;apply ag _;refine cx hJ ?_;apply b6;simp only[go_sem];obtain rfl:=sI j;clear j;have h:=R;dsimp only[aJ] at h;refine Qn.intro ⟨_,Le.sub (List.Sublist.refl _),e,h,rfl,?_⟩;simp only[*,go_sem]
   rintro cf F' ⟨y,S,rfl,cl,cy,c0,da,db,dd,df,dk,dp⟩;obtain rfl:=sI S;clear S;have h:=Y;dsimp only[aJ] at h;clear u w x O P Q;refine ah hJ (ah hJ ?_);refine aG hJ fun dq=>?_;apply aM hJ _;revert h;refine bh hJ (fun a6 h=>?_) fun a6 h=>?_
   .cases h;apply ah hJ;refine aG hJ fun ds=>?_;apply aM hJ _;obtain rfl:=sI d;clear d;have h:=t;dsimp only[aJ] at h;cases h;have h:=q;dsimp only[aJ] at h;cases h;refine cg ?_;exact ⟨_,b,Le.sub (List.Sublist.refl _)⟩
   refine aP hJ (ah hJ ?_);apply ah hJ;refine aG hJ fun dt=>?_;apply aM hJ _;revert h;refine bh hJ (fun a7 h=>?_) fun a7 h=>?_
   .cases h;apply ah hJ;refine aG hJ fun du=>?_;apply aM hJ _;obtain rfl:=sI d;clear d;have h:=t;dsimp only[aJ] at h;cases h;have h:=q;dsimp only[aJ] at h;cases h;refine cg ?_;exact ⟨_,b,Le.sub (List.Sublist.refl _)⟩
   cases h
  cases h;apply b6;simp only[go_sem];obtain rfl:=sI d;clear d;have h:=t;dsimp only[aJ] at h;apply ag _;refine Qn.intro ⟨_,Le.sub (List.Sublist.refl _),i,h,rfl,?_⟩;simp only[*,go_sem]
 rintro dv F' ⟨s,T,rfl,dC,dE,dT,ea⟩;obtain rfl:=sI T;clear T;have h:=q;dsimp only[aJ] at h;cases h;clear H hd I k1 K;apply ah hJ;refine aG hJ fun eb=>?_;apply aM hJ _;refine cg ?_;exact ⟨_,b,Le.sub (List.Sublist.refl _)⟩
def x8 (st:(Int×Int×Int×Bool×Bool×(List Int))):Option (Fl (Int×Int×Int×Bool×Bool×(List Int)) (Unit×(List Int))):=
 cond (decide ((IntKind.i64.wrap (st.2.1 - st.1))<=12)) (ai (uA st.2.2.2.2.2 st.1 st.2.1) fun j=>some (.rt ((),j.2))) (cond ((st.2.2.1==0)) (none) (ai (cond (!st.2.2.2.1) (ai (xS st.2.2.2.2.2 st.1 st.2.1) fun k=>some (.bk ((IntKind.i64.wrap (st.2.2.1 - 1)),k.2))) (some (.bk (st.2.2.1,st.2.2.2.2.2))):Option (Fl (Int×(List Int)) (Unit×(List Int)))) fun o=>aJ o (fun c=>ai (xO c.2 st.1 st.2.1) fun b=>cond ((b.1.2==2)) (none) (ai (cond (st.2.2.2.1) (cond (st.2.2.2.2.1) (cond ((b.1.2==1)) (ai (x7 b.2 st.1 st.2.1) fun f=>cond (f.1) (some (.rt ((),f.2))) (some (.bk f.2))) (some (.bk b.2))) (some (.bk b.2))) (some (.bk b.2)):Option (Fl (List Int) (Unit×(List Int)))) fun o=>aJ o (fun e=>ai (cond (decide (0<st.1)) (ai (bD e (IntKind.i64.wrap (st.1 - 1))) fun l=>ai (bD e b.1.1) fun m=>ai (jc l m) fun n=>cond (!n) (ai (x4 e st.1 st.2.1 b.1.1) fun g=>some (.br 1 (g.1,g.2))) (some (.bk (st.1,e)))) (some (.bk (st.1,e))):Option (Fl (Int×(List Int)) (Unit×(List Int)))) fun o=>aJ o (fun d=>ai (xY d.2 d.1 st.2.1 b.1.1) fun a=>ai (gu (IntKind.i64.wrap (st.2.1 - st.1)) 8) fun h=>cond (decide ((IntKind.i64.wrap (a.1.1 - d.1))<(IntKind.i64.wrap (st.2.1 - a.1.1)))) (ai (uB a.2 d.1 a.1.1 c.1) fun p=>some (.nx ((IntKind.i64.wrap (a.1.1+1)),st.2.1,c.1,(decide (h<=(IntKind.i64.wrap (a.1.1 - d.1)))),a.1.2,p.2))) (ai (uB a.2 (IntKind.i64.wrap (a.1.1+1)) st.2.1 c.1) fun q=>some (.nx (d.1,a.1.1,c.1,(decide (h<=(IntKind.i64.wrap (st.2.1 - a.1.1)))),a.1.2,q.2)))) (fun _ i=>some (.nx (i.1,st.2.1,c.1,st.2.2.2.1,st.2.2.2.2.1,i.2))) (fun r=>some (.rt r))) (fun _ _=>none) (fun r=>some (.rt r)))) (fun _ _=>none) (fun r=>some (.rt r))))
def x9 (u0:(List Int))(a:Int)(b:Int)(c:Int):Option (Unit×(List Int)):=
 cond (List.isEmpty u0) none (ai (bp (x8) fu (a,b,c,true,true,u0)) fun o=>aJ o (fun d=>some ((),d.2.2.2.2.2)) (fun _ _=>none) (fun r=>some r))
theorem Il {ro:Addr->Option Value}(u0:(List Int)){H:Value}{T:List (Nat×Obj)}(I:bg rI ro 3 H u0 T)(K:Int)(L:Int)(M:Int){r:(Unit×(List Int))}(h:x9 u0 K L M=some r):aD Tryz.prog 176 #[H,.int .i64 K,.int .i64 L,.int .i64 M] ⟨ro,T⟩ (fun v G=>∃d,(v= .tuple #[]/\bg rI ro 3 H r.2 d)/\Le ⟨ro,d⟩ G):=by
 obtain ⟨d1,c2,rfl,fU⟩:=I.len;unfold x9 at h;revert h;refine cS (fun U h=>?_) fun U h=>?_
 .cases h
 obtain ⟨b,bd,rfl,rfl,gg⟩:=I.jb U;refine aD.go Tryz.func176 rfl Tryz.ntmps176 Tryz.results176 au fun main J hJ A bj hd hs=>?_;have bl:=hs 0;have k1:=hs 1;have bm:=hs 2;have bo:=hs 3;clear hs;apply ah hJ;refine aG hJ fun gl=>?_;apply aM hJ _;apply ah hJ;refine aG hJ fun gn=>?_;apply aM hJ _;apply aX hJ;revert h;refine bS fun br z V=>?_;refine cc hJ (rg 8 126 [1,2,3]) (fun m a F'=>∃(B:Array Value) (e:Int) (c:Int) (t:Int) (l:Bool) (n:Bool) (q:(List Int)),bp (x8) m (e,c,t,l,n,q)=some br/\F'=⟨ro,[(b,Obj.cells B 3)]⟩/\bg rI ro 3 (.slice (some ⟨b,0,none⟩) u0.length c2) q [(b,Obj.cells B 3)]/\slot a 1= .int .i64 e/\slot a 2= .int .i64 c/\slot a 3= .int .i64 t/\slot a 8= .bool l/\slot a 9= .bool n) fu ?_ ?_
 .refine ⟨bd,K,L,M,true,true,u0,z,rfl,I,?_⟩;simp only[*,go_sem]
 rintro u N F' W ⟨B,e,c,t,l,n,q,z,rfl,O,bs,bz,b0,b1,b2⟩;obtain ⟨X,Y,Z⟩:=W.pick [0] aB;simp only[*,go_sem] at X Y Z;clear W bj hd bl k1 bm bo;obtain _|u:=u
 .exact absurd z (by simp only[bp,reduceCtorEq,not_false_eq_true])
 revert z;refine bS fun gp h o=>?_;unfold x8 at h;try dsimp only at h
 refine aX hJ (ah hJ ?_);refine aG hJ fun gB=>?_;apply aM hJ _;refine ah hJ (ah hJ ?_);refine aG hJ fun gC=>?_;apply aM hJ _;revert h;refine bh hJ (fun b3 h=>?_) fun b3 h=>?_
 .apply ah hJ;refine aG hJ fun gM=>?_;apply aS hJ;revert h;refine bS fun gT b4 h=>?_;cases h;apply ag _;refine ew hJ [] [] _ (Ca q O e c b4) (fun gV g0 f d g g1=>?_);obtain ⟨rfl,ab⟩:=f;obtain ⟨b5,rfl⟩:=ab.ia;simp only[bw] at g;subst d;refine ⟨⟨ro,[(b,Obj.cells b5 3)]⟩,Le.refl _,?_⟩;obtain rfl:=sI o;clear o;have h:=V;dsimp only[aJ] at h;cases h;refine cg ?_;exact ⟨_,ab,Le.sub (List.Sublist.refl _)⟩
 refine aP hJ (ah hJ ?_);apply ah hJ;refine aG hJ fun g2=>?_;apply aM hJ _;revert h;refine bh hJ (fun ca h=>?_) fun ca h=>?_
 .cases h
 apply aP hJ;revert h;refine bS fun cb h cd=>?_;refine gS hJ (fun a F'=>∃(P:Array Value) (i:Int) (C:(List Int)),some (Fl.bk (i,C):Fl (Int×(List Int)) (Unit×(List Int)))=some cb/\F'=⟨ro,[(b,Obj.cells P 3)]⟩/\bg rI ro 3 (.slice (some ⟨b,0,none⟩) u0.length c2) C [(b,Obj.cells P 3)]/\sz a=134/\a.defers=[]/\c6 (rg 8 126 [1,2,3]) a N/\slot a 0= .slice (some ⟨b,0,none⟩) u0.length c2/\slot a 1= .int .i64 e/\slot a 2= .int .i64 c/\slot a 3= .int .i64 i/\slot a 8= .bool l/\slot a 9= .bool n/\slot a 10= .int .i64 (IntKind.i64.wrap (c - e))) ?_ ?_
 .apply ah hJ;refine aG hJ fun g3=>?_;apply aM hJ _;revert h;refine bh hJ (fun cf h=>?_) fun cf h=>?_
  .apply ah hJ;refine aG hJ fun g4=>?_;apply aS hJ;revert h;refine bS fun cl cy h=>?_;apply ag _;refine ew hJ [] [] _ (Ih q O e c cy) (fun ha hc f d g hf=>?_);obtain ⟨rfl,ad⟩:=f;obtain ⟨ae,rfl⟩:=ad.ia;simp only[bw] at g;subst d;refine ⟨⟨ro,[(b,Obj.cells ae 3)]⟩,Le.refl _,?_⟩;refine aG hJ fun hg=>?_;apply aM hJ _;refine Qn.intro ⟨_,Le.sub (List.Sublist.refl _),ae,(IntKind.i64.wrap (t - 1)),cl.2,h,rfl,ad,?_⟩;simp only[*,go_sem]
  apply oH hJ _;refine Qn.intro ⟨_,Le.sub (List.Sublist.refl _),B,t,q,h,rfl,O,?_⟩;simp only[*,go_sem]
 rintro hh F' ⟨P,i,C,al,rfl,c0,da,db,hi,dd,df,dk,dp,dq,ds,dt⟩;obtain rfl:=sI al;clear al;have h:=cd;dsimp only[aJ] at h;clear X Y Z bs bz b0 b1 b2;apply ah hJ;refine aG hJ fun hj=>?_;apply aS hJ;revert h;refine bS fun k du h=>?_;apply ag _;refine ew hJ [] [] _ (H6 C c0 e c du) (fun hk hl f d g hn=>?_);obtain ⟨rfl,w⟩:=f;obtain ⟨D,rfl⟩:=w.ia;simp only[bw] at g;subst d;refine ⟨⟨ro,[(b,Obj.cells D 3)]⟩,Le.refl _,?_⟩;apply aO;apply ag _;refine ah hJ (ah hJ ?_);refine aG hJ fun ho=>?_;apply aM hJ _;revert h;refine bh hJ (fun dv h=>?_) fun dv h=>?_
 .cases h
 apply aP hJ;revert h;refine bS fun dC h ao=>?_;refine gS hJ (fun a F'=>∃(x:Array Value) (s:(List Int)),some (Fl.bk s:Fl (List Int) (Unit×(List Int)))=some dC/\F'=⟨ro,[(b,Obj.cells x 3)]⟩/\bg rI ro 3 (.slice (some ⟨b,0,none⟩) u0.length c2) s [(b,Obj.cells x 3)]/\sz a=134/\a.defers=[]/\c6 (rg 8 126 [1,2,3]) a N/\slot a 0= .slice (some ⟨b,0,none⟩) u0.length c2/\slot a 1= .int .i64 e/\slot a 2= .int .i64 c/\slot a 3= .int .i64 i/\slot a 8= .bool l/\slot a 9= .bool n/\slot a 10= .int .i64 (IntKind.i64.wrap (c - e))/\slot a 11= .int .i64 k.1.1) ?_ ?_
 .apply ah hJ;refine aG hJ fun hp=>?_;apply aS hJ;revert h;refine cS (fun dE h=>?_) fun dE h=>?_
  .revert h;refine cS (fun dT h=>?_) fun dT h=>?_
   .apply ag _;revert h;refine bh hJ (fun ea h=>?_) fun ea h=>?_
    .apply ah hJ;refine aG hJ fun hq=>?_;apply aS hJ;revert h;refine bS fun eb ec h=>?_;apply ag _;refine ew hJ [] [] _ (Ik k.2 w e c ec) (fun hr ht f d g hv=>?_);obtain ⟨rfl,Q⟩:=f;obtain ⟨ar,rfl⟩:=Q.ia;simp only[bw] at g;subst d;refine ⟨⟨ro,[(b,Obj.cells ar 3)]⟩,Le.refl _,?_⟩;revert h;refine bh hJ (fun ed h=>?_) fun ed h=>?_
     .cases h;have h:=ao;dsimp only[aJ] at h;cases h;obtain rfl:=sI o;clear o;have h:=V;dsimp only[aJ] at h;cases h;refine cg ?_;exact ⟨_,Q,Le.sub (List.Sublist.refl _)⟩
     apply oH hJ _;refine Qn.intro ⟨_,Le.sub (List.Sublist.refl _),ar,eb.2,h,rfl,Q,?_⟩;simp only[*,go_sem]
    apply oH hJ _;refine Qn.intro ⟨_,Le.sub (List.Sublist.refl _),D,k.2,h,rfl,w,?_⟩;simp only[*,go_sem]
   apply ag _;refine cx hJ ?_;apply aP hJ;refine Qn.intro ⟨_,Le.sub (List.Sublist.refl _),D,k.2,h,rfl,w,?_⟩;simp only[*,go_sem]
  apply ag _;refine cx hJ ?_;apply aP hJ;refine Qn.intro ⟨_,Le.sub (List.Sublist.refl _),D,k.2,h,rfl,w,?_⟩;simp only[*,go_sem]
 rintro hx F' ⟨x,s,a0,rfl,y,eh,et,hy,ev,eQ,eS,e0,e1,e2,e3,fa⟩;obtain rfl:=sI a0;clear a0;have h:=ao;dsimp only[aJ] at h;clear da db dd df dk dp dq ds dt;revert h;refine bS fun fb h a2=>?_;refine gS hJ (fun a F'=>∃(R:Array Value) (p:Int) (E:(List Int)),some (Fl.bk (p,E):Fl (Int×(List Int)) (Unit×(List Int)))=some fb/\F'=⟨ro,[(b,Obj.cells R 3)]⟩/\bg rI ro 3 (.slice (some ⟨b,0,none⟩) u0.length c2) E [(b,Obj.cells R 3)]/\sz a=134/\a.defers=[]/\c6 (rg 8 126 [1,2,3]) a N/\slot a 0= .slice (some ⟨b,0,none⟩) u0.length c2/\slot a 1= .int .i64 p/\slot a 2= .int .i64 c/\slot a 3= .int .i64 i/\slot a 8= .bool l/\slot a 9= .bool n/\slot a 10= .int .i64 (IntKind.i64.wrap (c - e))/\slot a 11= .int .i64 k.1.1) ?_ ?_
 .apply ah hJ;refine aG hJ fun hz=>?_;refine dh hJ mixed 15 1 aN aj ?_;revert h;refine cS (fun ff h=>?_) fun ff h=>?_
  .revert h;refine bS fun fg fi h=>?_;obtain ⟨hA,hB,hD,hE⟩:=y.dj fi;revert h;refine bS fun fl fp h=>?_;obtain ⟨hF,hG,hI,hK⟩:=y.dj fp;revert h;refine bS fun hL fq h=>?_;apply ag _;refine ⟨_,bL hJ fun F hM=>kA fg fl fq,cr ?_⟩;apply ag _;revert h;refine bh hJ (fun fr h=>?_) fun fr h=>?_
   .apply ah hJ;refine aG hJ fun hN=>?_;apply aS hJ;revert h;refine bS fun a3 fs h=>?_;cases h;apply ag _;refine ew hJ [] [] _ (Ij s y e c k.1.1 fs) (fun hP hQ f d g hR=>?_);obtain ⟨rfl,a4⟩:=f;obtain ⟨a5,rfl⟩:=a4.ia;simp only[bw] at g;subst d;refine ⟨⟨ro,[(b,Obj.cells a5 3)]⟩,Le.refl _,?_⟩;apply aO;apply ag _;apply ah hJ;refine aG hJ fun hS=>?_;apply aM hJ _;apply b6;simp only[go_sem];have h:=a2;dsimp only[aJ] at h;cases h;apply ag _;refine ⟨u,Nat.lt_succ_self _,_,Le.sub (List.Sublist.refl _),a5,a3.1,c,i,l,n,a3.2,o,rfl,a4,?_⟩;simp only[*,go_sem]
   apply oH hJ _;refine Qn.intro ⟨_,Le.sub (List.Sublist.refl _),x,e,s,h,rfl,y,?_⟩;simp only[*,go_sem]
  apply ag _;refine cx hJ ?_;apply aP hJ;refine Qn.intro ⟨_,Le.sub (List.Sublist.refl _),x,e,s,h,rfl,y,?_⟩;simp only[*,go_sem]
 rintro hT F' ⟨R,p,E,a6,rfl,ft,hV,hX,hY,hZ,h0,h1,h2,h3,h4,h5,h6⟩;obtain rfl:=sI a6;clear a6;have h:=a2;dsimp only[aJ] at h;clear eh et ev eQ eS e0 e1 e2 e3 fa;apply ah hJ;refine aG hJ fun h7=>?_;apply aS hJ;revert h;refine bS fun j fv h=>?_;apply ag _;refine ew hJ [] [] _ (Ii E ft p c k.1.1 fv) (fun h8 h9 f d g ib=>?_);obtain ⟨rfl,S⟩:=f;obtain ⟨fw,rfl⟩:=S.ia;simp only[bw] at g;subst d;refine ⟨⟨ro,[(b,Obj.cells fw 3)]⟩,Le.refl _,?_⟩;apply aO;apply ag _;apply ah hJ;refine aG hJ fun ic=>?_;apply aM hJ _;apply ah hJ;refine aG hJ fun ih=>?_;apply aM hJ _;apply ah hJ;refine aG hJ fun ik=>?_;apply aS hJ;revert h;refine bS fun a7 a8 h=>?_;obtain ⟨il,im⟩:=kV a8;clear a8;apply ag _;apply ah hJ;refine aG hJ fun iv=>?_;apply aM hJ _;revert h;refine bh hJ (fun fx h=>?_) fun fx h=>?_
 .apply ah hJ;refine aG hJ fun ix=>?_;apply aM hJ _;apply ah hJ;refine aG hJ fun jC=>?_;apply aS hJ;revert h;refine bS fun fz fP h=>?_;cases h;apply ag _;refine ew hJ [] [] _ (Cb j.2 S p j.1.1 i fP) (fun j1 j2 f d g kh=>?_);obtain ⟨rfl,a9⟩:=f;obtain ⟨ba,rfl⟩:=a9.ia;simp only[bw] at g;subst d;refine ⟨⟨ro,[(b,Obj.cells ba 3)]⟩,Le.refl _,?_⟩;refine aG hJ fun kj=>?_;apply aM hJ _;refine ⟨u,Nat.lt_succ_self _,_,Le.sub (List.Sublist.refl _),ba,(IntKind.i64.wrap (j.1.1+1)),c,i,(decide (a7<=(IntKind.i64.wrap (j.1.1 - p)))),j.1.2,fz.2,o,rfl,a9,?_⟩;simp only[*,go_sem]
 apply ah hJ;refine aG hJ fun kk=>?_;apply aM hJ _;apply ah hJ;refine aG hJ fun kl=>?_;apply aS hJ;revert h;refine bS fun fQ fS h=>?_;cases h;apply ag _;refine ew hJ [] [] _ (Cb j.2 S (IntKind.i64.wrap (j.1.1+1)) c i fS) (fun km kn f d g kp=>?_);obtain ⟨rfl,bb⟩:=f;obtain ⟨bc,rfl⟩:=bb.ia;simp only[bw] at g;subst d;refine ⟨⟨ro,[(b,Obj.cells bc 3)]⟩,Le.refl _,?_⟩;refine aG hJ fun ks=>?_;apply aM hJ _;refine ⟨u,Nat.lt_succ_self _,_,Le.sub (List.Sublist.refl _),bc,p,j.1.1,i,(decide (a7<=(IntKind.i64.wrap (c - j.1.1)))),j.1.2,fQ.2,o,rfl,bb,?_⟩;simp only[*,go_sem]
def rA (u0:(List Int)):Option (Unit×(List Int)):=
 cond (List.isEmpty u0) none (ai (uC (IntKind.u64.wrap (u0.length:Int))) fun a=>ai (x9 u0 0 (u0.length:Int) a) fun b=>some ((),b.2))
theorem Im {ro:Addr->Option Value}(u0:(List Int)){b:Value}{d:List (Nat×Obj)}(c:bg rI ro 3 b u0 d){r:(Unit×(List Int))}(h:rA u0=some r):aD Tryz.prog 142 #[b] ⟨ro,d⟩ (fun v G=>∃a,(v= .tuple #[]/\bg rI ro 3 b r.2 a)/\Le ⟨ro,a⟩ G):=by
 obtain ⟨d1,c2,rfl,o⟩:=c.len;unfold rA at h;revert h;refine cS (fun e h=>?_) fun e h=>?_
 .cases h
 obtain ⟨g,p,rfl,rfl,q⟩:=c.jb e;refine aD.go Tryz.func142 rfl Tryz.ntmps142 Tryz.results142 au fun main J hJ A s hd hs=>?_;have t:=hs 0;clear hs;apply ah hJ;refine aG hJ fun u=>?_;apply aS hJ;apply bY _;refine aG hJ fun w=>?_;apply aS hJ;revert h;refine bS fun i j h=>?_;apply bY _;refine bf hJ _ (Cc (IntKind.u64.wrap (u0.length:Int)) j) (aO ?_);revert h;refine bS fun x k h=>?_;apply bY _;refine ew hJ [] [] _ (Il u0 c 0 (u0.length:Int) i k) (fun y z l a m B=>?_);obtain ⟨rfl,f⟩:=l;obtain ⟨n,rfl⟩:=f.ia;simp only[bw] at m;subst a;refine ⟨⟨ro,[(g,Obj.cells n 3)]⟩,Le.refl _,?_⟩;cases h;apply ag _;exact ⟨_,f,Le.sub (List.Sublist.refl _)⟩
def kB (x:List Int)(j:Nat):Bool:=j==0||x.getD j 0 != x.getD (j - 1) 0
def gW (x:List Int):Nat->List Int
 |0=>[]
 |n+1=>gW x n++cond (kB x n) [x.getD n 0] []
theorem uD (x:List Int):∀n,n<=x.length->(∀j,j<n->kB x j=true)->gW x n=x.take n
 |0,_,_=>by simp[gW]
 |n+1,b,h=>by
  unfold gW
  rw[uD x n aa (fun j c=>h j aa),h n aa,List.take_succ]
  congr 1
  have a:n<x.length:=aa
  simp[a]
theorem Ce (x:List Int){j:Nat}(h:j<1):kB x j=true:=by
 obtain rfl:j=0:=aa;rfl
def uE (u0:List Int):Option (List Int):=cond (List.isEmpty u0) none (some (gW u0 u0.length))
theorem Io {ro:Addr->Option Value}(u0:List Int){Q:Value}{bx:List (Nat×Obj)}(hg:bg rI ro 3 Q u0 bx){r:List Int}(h:uE u0=some r):
  aD Tryz.prog 143 #[Q] ⟨ro,bx⟩ (fun v G=>∃R,bg rI ro 3 v r R/\Le ⟨ro,R⟩ G):=by
 obtain ⟨ad,cap,rfl,le⟩:=hg.len
 unfold uE at h
 have a8:=jE h;clear h;rcases a8 with ⟨S,h⟩|⟨S,h⟩
 .cases h
 obtain ⟨b,F,rfl,rfl,cy⟩:=hg.jb S
 cases h
 have cS:u0.length<=1000000:=by obtain ⟨_,_,_,h,_⟩:=hg;exact h
 have c0:Tryz.prog.underlying 3=some (.int .i64):=aj
 refine aD.go Tryz.func143 rfl Tryz.ntmps143 Tryz.results143 au fun main J hJ A a9 hd hs=>?_
 have ba:=hs 0
 clear hs
 repeat refine ah hJ ?_
 refine aS hJ ?_
 apply ag _
 repeat refine ah hJ ?_
 refine aS hJ ?_
 apply ag _
 repeat refine ah hJ ?_
 by_cases da:u0.length<2
 .refine eC hJ (by simp only[*,go_sem];simp;omega) ?_
  repeat refine ah hJ ?_
  refine aS hJ ?_
  apply ag _
  refine aQ ?_
  apply ag _
  have e:gW u0 u0.length=u0:=by
   rw[uD u0 _ (Nat.le_refl _) (fun j c=>Ce u0 aa),List.take_length]
  rw[e]
  exact ⟨_,hg,Le.refl _⟩
 refine eu hJ (by simp only[*,go_sem];simp;omega) ?_
 refine aP hJ ?_
 repeat refine ah hJ ?_
 refine aS hJ ?_
 apply ag _
 repeat refine ah hJ ?_
 refine aX hJ ?_
 refine cc hJ [3,4,5,10,11,12,13,14,15,16,17,18,19,20,21,22,23,24,25,26,27,28,29,30,31,32,33,34,35,36,37,38,39,40,41,42,43,44,45,46,47,48,49,50,51,52,53,54,55,56,57,58,59] (fun m u F'=>∃k:Nat,1<=k/\k<=u0.length/\u0.length - k<=m/\F'=⟨ro,[(b,Obj.cells F 3)]⟩/\slot u 3= .int .i64 (k:Int)/\∀j,j<k->kB u0 j=true) u0.length ?_ ?_
 .refine ⟨1,Nat.le_refl _,aa,aa,rfl,?_,fun j c=>Ce u0 c⟩
  apply ag _
  rfl
 .rintro bb g F' B ⟨k,db,T,dd,rfl,bc,H⟩
  have bd:sz g=61:=by rw[B.size];simp only[*,go_sem]
  have bj:g.defers=[]:=by rw[B.defers];simp only[*,go_sem]
  have bk:slot g 0= .slice (some ⟨b,0,none⟩) u0.length cap:=by rw[B.eK 0 aB];simp only[*,go_sem]
  clear B a9 hd ba
  repeat refine ah hJ ?_
  repeat refine ah hJ ?_
  refine aS hJ ?_
  apply ag _
  by_cases U:k<u0.length
  .have hb:decide (((k:Nat):Int)<(u0.length:Int))=true:=decide_eq_true aa
   refine eC hJ aN ?_
   refine aP hJ ?_
   repeat refine ah hJ ?_
   refine aX hJ ?_
   repeat refine ah hJ ?_
   obtain ⟨p,rfl⟩:∃p,k=p+1:=⟨k - 1,aa⟩
   have hw:IntKind.i64.wrap (((p+1:Nat):Int) - 1)=(p:Int):=by rw[IntWalk.i64_in _ ⟨aa,aa⟩];omega
   refine eJ hJ mixed 9 ⟨ro,[(b,Obj.cells F 3)]⟩ aN aj ?_
   obtain ⟨l,V⟩:∃x,u0[p+1]?=some x:=⟨u0[p+1],by simp[U]⟩
   obtain ⟨I,K,L⟩:=hg.jF V
   obtain rfl:I=[.int .i64 l]:=K
   have W:=L 0 _ rfl
   simp only[go_sem] at W
   have df:=(Array.getElem?_eq_some_iff.1 W).1
   obtain ⟨o,X⟩:∃x,u0[p]?=some x:=⟨u0[p],by simp[Nat.lt_of_succ_lt U]⟩
   obtain ⟨M,N,O⟩:=hg.jF X
   obtain rfl:M=[.int .i64 o]:=N
   have Y:=O 0 _ rfl
   simp only[go_sem] at Y
   have dk:=(Array.getElem?_eq_some_iff.1 Y).1
   have dp:¬((p+1:Nat):Int)<0:=aa
   have b2:((p+1:Nat):Int)<(u0.length:Int):=aa
   have b3:¬(p:Int)<0:=aa
   have b4:(p:Int)<(u0.length:Int):=aa
   have b5:(0:Int)<=((p+1:Nat):Int):=aa
   have dq:(0:Int)<=(p:Int):=aa
   apply ag _
   have bl:u0.getD (p+1) 0=l:=by rw[List.getD_eq_getElem?_getD,V];rfl
   have bm:u0.getD p 0=o:=by rw[List.getD_eq_getElem?_getD,X];rfl
   have Z:kB u0 (p+1)=(l != o):=by unfold kB;rw[bl,Nat.add_sub_cancel,bm];simp
   clear L O
   by_cases P:l=o
   .subst P
    refine eC hJ (by simp only[*,go_sem,beq_self_eq_true]) ?_
    repeat refine ah hJ ?_
    refine aS hJ ?_
    have ds:p+1<=u0.length:=T
    have dt:p+1<=cap:=aa
    have du:((p+1:Nat):Int)<=(u0.length:Int):=aa
    have dv:u0.length<=cap:=le
    have dC:¬cap=p+1:=aa
    apply ag _
    have bo:slot g 4=slot g 4:=rfl
    repeat refine ah hJ ?_
    refine aS hJ ?_
    apply ag _
    repeat refine ah hJ ?_
    refine aX hJ ?_
    have e0:gW u0 (p+2)=u0.take (p+1):=by
     show gW u0 (p+1)++cond (kB u0 (p+1)) _ _=_
     rw[Z,uD u0 _ T H];simp
    refine cc hJ [3,5,29,30,31,32,33,34,35,36,37,38,39,40,41,42,43,44,45,46,47,48,49,50,51,52,53] (fun br u F'=>∃(m w:Nat) (arr:Array Value) (x:List Int),1<=m/\m<=u0.length - (p+1)/\u0.length - (p+1) - m<=br/\F'=⟨ro,[(b,Obj.cells arr 3)]⟩/\slot u 5= .int .i64 (m:Int)/\slot u 3= .int .i64 (w:Int)/\
     bg rI ro 3 (.slice (some ⟨b,0,none⟩) u0.length cap) x [(b,.cells arr 3)]/\x.length=u0.length/\(gW u0 (p+(1+m))).length=w/\w<=p+m/\x.take w=gW u0 (p+(1+m))/\∀j,p+m<=j->x[j]?=u0[j]?) u0.length ?_ ?_
    .refine ⟨1,p+1,F,u0,Nat.le_refl _,aa,aa,rfl,?_,?_,hg,rfl,?_,Nat.le_refl _,e0.symm,fun _ _=>rfl⟩
     .apply ag _;rfl
     .simp only[*,go_sem]
     .show (gW u0 (p+2)).length=p+1
      rw[e0,List.length_take];omega
    .rintro ab C F' s ⟨m,w,arr,x,L,O,dE,rfl,dT,ea,d,ae,t,eb,D,E⟩
     have ec:sz C=61:=by rw[s.size];simp only[*,go_sem]
     have ed:C.defers=[]:=by rw[s.defers];simp only[*,go_sem]
     have eh:slot C 0= .slice (some ⟨b,0,none⟩) u0.length cap:=by rw[s.eK 0 aB];simp only[*,go_sem]
     have et:slot C 4= .slice (some ⟨b,p+1,none⟩) (u0.length - (p+1)) (cap - (p+1)):=by rw[s.eK 4 aB];simp only[*,go_sem]
     clear s bd bj bk bc bo
     repeat refine ah hJ ?_
     refine aS hJ ?_
     apply ag _
     by_cases ev:m<u0.length - (p+1)
     .have bs:decide (((m:Nat):Int)<((u0.length - (p+1):Nat):Int))=true:=decide_eq_true aa
      refine eC hJ aN ?_
      refine aP hJ ?_
      repeat refine ah hJ ?_
      refine aX hJ ?_
      repeat refine ah hJ ?_
      obtain ⟨q,rfl⟩:∃q,m=q+1:=⟨m - 1,aa⟩
      have eQ:IntKind.i64.wrap (((q+1:Nat):Int) - 1)=(q:Int):=by rw[IntWalk.i64_in _ ⟨aa,aa⟩];omega
      refine eJ hJ mixed 9 ⟨ro,[(b,Obj.cells arr 3)]⟩ aN aj ?_
      obtain ⟨a,al⟩:∃y,u0[p+(1+(q+1))]?=some y:=⟨u0[p+(1+(q+1))]'aa,List.getElem?_eq_getElem _⟩
      obtain ⟨I,K,ao⟩:=d.jF ((E _ aa).trans al)
      obtain rfl:I=[.int .i64 a]:=K
      have ar:=ao 0 _ rfl
      simp only[go_sem] at ar
      have eS:=(Array.getElem?_eq_some_iff.1 ar).1
      obtain ⟨f,a0⟩:∃y,u0[p+(1+q)]?=some y:=⟨u0[p+(1+q)]'aa,List.getElem?_eq_getElem _⟩
      obtain ⟨M,N,a2⟩:=d.jF ((E _ aa).trans a0)
      obtain rfl:M=[.int .i64 f]:=N
      have a3:=a2 0 _ rfl
      simp only[go_sem] at a3
      have e2:=(Array.getElem?_eq_some_iff.1 a3).1
      have c1:¬((q+1:Nat):Int)<0:=aa
      have c2:((q+1:Nat):Int)<((u0.length - (p+1):Nat):Int):=aa
      have c3:¬(q:Int)<0:=aa
      have c4:(q:Int)<((u0.length - (p+1):Nat):Int):=aa
      have e3:(0:Int)<=((q+1:Nat):Int):=aa
      have fa:(0:Int)<=(q:Int):=aa
      apply ag _
      have a4:u0.getD (p+(1+(q+1))) 0=a:=by rw[List.getD_eq_getElem?_getD,al];rfl
      have bz:u0.getD (p+(1+q)) 0=f:=by rw[List.getD_eq_getElem?_getD,a0];rfl
      have bS:kB u0 (p+(1+(q+1)))=(a != f):=by
       unfold kB
       have b0:p+(1+(q+1)) - 1=p+(1+q):=aa
       rw[b0,a4,bz]
       have:(p+(1+(q+1))==0)=false:=au
       rw[this,Bool.false_or]
      have e1:gW u0 (p+(1+(q+1+1)))=gW u0 (p+(1+(q+1)))++cond (a != f) [a] []:=by
       show gW u0 (p+(1+(q+1)))++cond (kB u0 (p+(1+(q+1)))) [u0.getD (p+(1+(q+1))) 0] []=_
       rw[bS,a4]
      have fb:IntKind.i64.wrap (((q+1:Nat):Int)+1)=((q+1+1:Nat):Int):=by rw[IntWalk.i64_in _ ⟨aa,aa⟩];omega
      clear ao a2 t
      have t:(gW u0 (p+(1+(q+1)))).length=w:=by rw[<-D,List.length_take];omega
      by_cases a5:a=f
      .subst a5
       simp only[bne_self_eq_false,cond_false,List.append_nil] at e1
       refine eu hJ (by simp only[*,go_sem,bne_self_eq_false]) ?_
       refine aP hJ ?_
       refine aS hJ ?_
       apply ag _
       refine ⟨ab - 1,aa,_,Le.refl _,q+1+1,w,arr,x,aa,aa,aa,rfl,?_,?_,d,ae,by rw[e1];exact t,aa,by rw[e1];exact D,fun j c=>E j aa⟩
       .simp only[*,go_sem]
       .simp only[*,go_sem]
      .have b1:(a != f)=true:=by simpa using a5
       rw[b1] at e1
       simp only[cond_true] at e1
       refine eC hJ aN ?_
       repeat refine ah hJ ?_
       refine aS hJ ?_
       have d1:(w:Int)<(u0.length:Int):=aa
       have d2:¬(w:Int)<0:=aa
       have d3:(0:Int)<=(w:Int):=aa
       have ff:w<arr.size:=aa
       apply ag _
       have ca:bg rI ro 3 (.slice (some ⟨b,0,none⟩) u0.length cap) (x.set w a) [(b,Obj.cells (cZ arr w [.int .i64 a]) 3)]:=by
        have cb:=d.tD (i:=w) (y:=a) aa (cs:=[.int .i64 a]) rfl
        simpa only[tL,Nat.mul_one,Nat.add_zero] using cb
       have fg:IntKind.i64.wrap ((w:Int)+1)=((w+1:Nat):Int):=by rw[IntWalk.i64_in _ ⟨aa,aa⟩];omega
       refine aS hJ ?_
       apply ag _
       refine aS hJ ?_
       apply ag _
       refine ⟨ab - 1,aa,_,Le.refl _,q+1+1,w+1,_,x.set w a,aa,aa,aa,rfl,?_,?_,ca,by rw[List.length_set];exact ae,?_,aa,?_,fun j c=>?_⟩
       .simp only[*,go_sem]
       .simp only[*,go_sem]
       .rw[e1,List.length_append,t];rfl
       .rw[e1,<-D,List.take_succ,List.take_set_of_le (Nat.le_refl _),List.getElem?_set_self aa];rfl
       .rw[List.getElem?_set_ne aa];exact E j aa
     .have bs:decide (((m:Nat):Int)<((u0.length - (p+1):Nat):Int))=false:=decide_eq_false aa
      refine eu hJ aN ?_
      refine b6 ?_
      simp only[go_sem]
      have a6:p+(1+m)=u0.length:=aa
      rw[a6] at t
      have d1:(w:Int)<=(u0.length:Int):=aa
      have d2:¬(w:Int)<0:=aa
      have d3:(0:Int)<=(w:Int):=aa
      have d4:w<=u0.length:=aa
      have d5:w<=cap:=aa
      have d6:¬cap=w:=aa
      have d7:(0:Int)<=(w:Int):=aa
      have d8:(w:Int)<=(cap:Int):=aa
      have cd:w+(u0.length - w)<=arr.size:=by
       obtain ⟨ls,cf,fi,-⟩:=id d
       rcases cf with ⟨a7,_,_⟩|⟨fl,fp,fq,a7,cl,hs,hle,_⟩
       .cases a7
       .cases cl
        have:rI.n=1:=rfl
        rw[this,Nat.mul_one] at hs
        omega
      repeat refine ah hJ ?_
      refine aS hJ ?_
      simp only[*,go_sem,ite_false,if_false]
      refine GU (pre:=[]) (bC:=[]) (z:=.int .i64 0) (zc:=.int .i64 0) rfl (by kernel_rfl:Tryz.prog.underlying 35=some (.slice 3)) aj rfl rfl aa (by simp[av]) cd ?_
      dsimp only[List.nil_append]
      repeat refine ah hJ ?_
      refine aS hJ ?_
      apply ag _
      refine aQ ?_
      apply ag _
      refine ⟨_,?_,Le.refl _⟩
      have:=d.clear (k:=w) aa
      rw[D,a6] at this
      simpa only[ite_self,Nat.sub_zero] using this
   .have aL:(l==o)=false:=by simpa using P
    refine eu hJ aN ?_
    refine aP hJ ?_
    refine aS hJ ?_
    have fr:IntKind.i64.wrap (((p+1:Nat):Int)+1)=((p+2:Nat):Int):=by rw[IntWalk.i64_in _ ⟨aa,aa⟩];omega
    apply ag _
    refine ⟨bb - 1,aa,_,Le.refl _,p+2,aa,aa,aa,rfl,aN,fun j c=>?_⟩
    rcases Nat.lt_succ_iff_lt_or_eq.1 c with c|rfl
    .exact H j c
    .rw[Z];simpa using P
  .have hb:decide (((k:Nat):Int)<(u0.length:Int))=false:=decide_eq_false aa
   refine eu hJ aN ?_
   refine b6 ?_
   simp only[go_sem]
   repeat refine ah hJ ?_
   refine aS hJ ?_
   apply ag _
   refine aQ ?_
   apply ag _
   obtain rfl:k=u0.length:=aa
   rw[uD u0 _ (Nat.le_refl _) H,List.take_length]
   exact ⟨_,hg,Le.refl _⟩
def ya (n:Int):Option (List Int):=if 0<=n/\n<=1000 then some [] else none
theorem Ip {ro:Addr->Option Value}{R:Value->af->Prop}{n:Nat}(o:0<n)(p:n<=1000){own:List (Nat×Obj)}
  (h:∀(k b:Nat) (arr:Array Value),n<=k->arr.size=k->eB ⟨ro,own⟩ b->R (.slice (some ⟨b,0,none⟩) n k) ⟨ro,(b,.cells arr 3)::own⟩):
  m6 Tryz.prog #[35,3] (.slice none 0 0) (.int .i64 (n:Int)) R ⟨ro,own⟩:=by
 intro ty
 have c:Tryz.prog.underlying 35=some (.slice 3):=aj
 have d:Tryz.prog.underlying 3=some (.int .i64):=aj
 have e:cj Tryz.prog 3=some 1:=aj
 have f:zeroOf Tryz.prog 3=some (.int .i64 0):=aj
 obtain ⟨info,g,i⟩:∃info,Tryz.prog.info? 3=some info/\info.bytes=8:=⟨_,rfl,aj⟩
 have w1:IntKind.i64.wrap (n:Int)=(n:Int):=IntWalk.i64_in _ ⟨aa,aa⟩
 have c1:¬(n:Int)<0:=aa
 have c2:¬(n:Int)*(8:Nat)>2 ^ 48:=aa
 have c3:¬0+n<=0:=aa
 simp only[Builtin.append_,List.getElem?_toArray,List.getElem?_cons_zero,List.getElem?_cons_succ,bH,dP,c,d,eY,e,bT,AK,if_true,dO,w1,if_neg c1,qv,g,i]
 rw[if_neg c2]
 simp only[Int.toNat_natCast,Nat.zero_add,Bool.not_true,Bool.false_eq_true,if_false]
 have c4:¬n<=0:=aa
 have j:¬((n:Int)>IntKind.i64.max/\(True\/8=0)):=by
  have:IntKind.i64.max=9223372036854775807:=aB
  rw[this];omega
 have l:¬Builtin.nextslicecap n 0*8>2 ^ 48:=by
  unfold Builtin.nextslicecap
  rw[if_pos aa]
  omega
 have m:¬n*1=0:=aa
 rw[if_neg c4,if_neg j,if_neg l]
 rw[v9]
 rw[if_neg (by simp[Question.forced])]
 intro t
 have a:n<=(Question.appendCap n 0 3).cut t:=Nat.le_add_right _ _
 generalize (Question.appendCap n 0 3).cut t=k at a ⊢
 refine wD _ ?_
 simp only[Builtin.firstCells,bT,if_neg m,mW,f,sU,bH]
 intro b hb
 refine ⟨_,Le.refl _,h k b _ a ?_ hb⟩
 simp only[Array.size_append,Builtin.zeroCells,Array.size_map,Array.size_range,Value.cells]
 simp
 omega
theorem Iq {ro:Addr->Option Value}(n:Int){x:List Int}(h:ya n=some x):aD Tryz.prog 125 #[.slice none 0 0,.int .i64 n] ⟨ro,[]⟩ (fun v G=>∃c,bg rI ro 3 v x c/\Le ⟨ro,c⟩ G):=by
 unfold ya at h;split at h
 case isFalse=>cases h
 rename_i g;obtain rfl:=Option.some.inj h;obtain ⟨n,rfl⟩:∃m:Nat,n=m:=⟨n.toNat,aa⟩
 refine aD.go Tryz.func125 rfl Tryz.ntmps125 Tryz.results125 au fun main J hJ A j hd hs=>?_;have l:=hs 0;have k1:=hs 1;clear hs;repeat apply ah hJ
 apply aM hJ _;repeat apply ah hJ
 apply aM hJ _;repeat apply ah hJ
 have o:¬(n:Int)<0:=aa;refine eu hJ (by simp only[*,go_sem,decide_false]) ?_;apply aP hJ;repeat apply ah hJ
 apply aM hJ _;refine BS rfl (by kernel_rfl:Tryz.prog.underlying 35=some (.slice 3)) (aO ?_);have e1:IntKind.i64.wrap (((0:Nat):Int) - ((0:Nat):Int))=0:=aB;have p:IntKind.i64.wrap ((0:Int) - (0:Int))=0:=aB;have e2:IntKind.i64.wrap ((n:Int) - 0)=(n:Int):=by rw[IntWalk.i64_in _ ⟨aa,aa⟩];omega
 apply ag _;repeat apply ah hJ
 apply aM hJ _;repeat apply ah hJ
 by_cases d:0<n
 .have b2:(n:Int)>0:=aa;refine eC hJ (by simp only[*,go_sem,decide_true]) ?_;repeat apply ah hJ
  apply aM hJ _;refine BS rfl (by kernel_rfl:Tryz.prog.underlying 35=some (.slice 3)) (aO ?_);apply ag _;try simp only[Nat.le_refl,Int.le_refl,and_self,if_true,true_and]
  refine Ip d aa fun k b arr q e hb=>aO ?_;have f:∀off sp,ro ⟨b,off,sp⟩=none:=hb.ro;have b3:(0:Int)<=(k:Int):=aa;simp only[*,go_sem,Int.le_refl,and_self,if_true,ite_self,Nat.sub_zero];repeat apply ah hJ
  apply aM hJ _;refine cg ?_;refine ⟨[(b,.cells arr 3)],⟨[],.inr ⟨b,arr,k,rfl,rfl,?_,Nat.zero_le _,?_,fun x a=>(by cases a),f⟩,rfl,Nat.zero_le _,fun i x a=>by simp at a⟩,Le.refl _⟩
  .show arr.size=k*1;rw[e,Nat.mul_one]
  .simp
 .have b2:¬(0:Int)<(n:Int):=aa;refine eu hJ (by simp only[*,go_sem,decide_false]) ?_;apply aP hJ;repeat apply ah hJ
  apply aM hJ _;refine cg ?_;exact ⟨[],bg.nil _ _ _,Le.refl _⟩
end Go.Proofs.YtbpddfapodiemaaGreatDoor
end

/- A part of the proof of a row and its tied card: QM4. -/
import Derived.Test.YtghbphimkgamkaaGreatDoorQM3
set_option linter.all false
section
namespace Go.Proofs.YtghbphimkgamkaaGreatDoor
open Go Go.Sep Go.Proofs
set_option maxRecDepth 100000
set_option maxHeartbeats 4000000
def wC (u0:((List Int)->(List Int)->Option Bool))(i22:Nat)(a:(List Int))(st:(List Int)):Option (Fl (List Int) (List Int)):=
 ag (u0 st a) fun b=>cond (b) (some (.nx a)) (some (.nx st))
def wD (u0:((List Int)->(List Int)->Option Bool))(a:(List Int))(b:(List (List Int))):Option (List Int):=
 ag (bJ (wC u0) 0 b a) fun o=>aF o (fun c=>some c) (fun _ _=>none) (fun r=>some r)
theorem G6 {ro:Addr->Option Value}(u0:((List Int)->(List Int)->Option Bool)){dO:FuncId}{en eo:Array Value}(G:aH Tryz.prog dO=true/\∀(aM:Addr->Option Value),Ext ro aM->∀(k:(List Int)) (l:Value) (o:(List Int)) (p:Value) (z:Bool),aA rI aM l k->aA rI aM p o->u0 k o=some z->aD Tryz.prog dO (en++#[l,p]++eo) ⟨aM,[]⟩ (fun v _=>v= .bool z))(g:(List Int)){s1:Value}(q:aA rI ro s1 g)(b:(List (List Int))){s:Value}(t:aA (rL rI) ro s b){r:(List Int)}(h:wD u0 g b=some r):eM Tryz.prog 115 #[.func (.func dO) en eo,s1,s] ro (fun v aM=>∃u,v=u/\aA rI aM u r):=by
 obtain ⟨d3,c4,rfl,Y,Z,-⟩:=id q;obtain ⟨d10,ab,rfl,ad,w,-⟩:=id t;unfold wD at h;refine aD.go Tryz.func115 rfl Tryz.ntmps115 Tryz.results115 (by simp) fun main J hJ A H hd hs=>?_;have I:=hs 0;have k1:=hs 1;have K:=hs 2;clear hs;refine ah hJ ?_;simp only[*,go_sem];refine af hJ (ah hJ ?_);simp only[*,go_sem];refine aO hJ ?_;revert h;refine bS fun L c M=>?_;refine bU hJ (rg 11 10 [1,8]) (fun m y F'=>∃(i22:Nat) (d16:Option Addr) (e:Nat) (d:(List Int)),m=b.length - i22/\i22<=b.length/\bJ (wC u0) i22 (b.drop i22) d=some L/\F'=⟨ro,[]⟩/\aA rI ro (.slice d16 d.length e) d/\slot y 11= .int .i64 (i22:Int)/\slot y 1= .slice d16 d.length e) b.length ?_ ?_
 .refine ⟨0,d3,c4,g,(Nat.sub_zero _).symm,Nat.zero_le _,c,rfl,q,?_⟩;simp only[*,go_sem]
 rintro ae al F' B ⟨i22,d16,e,d,rfl,ao,c,rfl,f,ar,a0⟩;obtain ⟨a2,a3,-⟩:=f.op;obtain ⟨N,O,P⟩:=B.pick [0,6,9,10] (by decide);simp only[*,go_sem] at N O P;clear B H hd I k1 K;refine ah hJ ?_;simp only[*,go_sem];refine af hJ ?_;rcases Nat.lt_or_ge i22 b.length with Q|C
 .refine b8 hJ ?_;refine aI hJ ?_;obtain ⟨D,i⟩:∃x,b[i22]?=some x:=⟨_,List.getElem?_eq_getElem Q⟩
  rw[dg i] at c;revert c;refine bS fun a4 h E=>?_;unfold wC at h;try dsimp only at h
  obtain ⟨a5,a6,R,S,F⟩:=t.el _ _ i;obtain ⟨a7,rfl,j⟩:=S;obtain ⟨d31,T,rfl,a8,a9,ba⟩:=id j;cases R;have U:=F 0 _ rfl;simp only[go_sem] at U;clear F i;refine af hJ (aO hJ (af hJ ?_));refine ak hJ ?_;simp only[*,go_sem];refine ah hJ ?_;revert h;refine bS fun bb V h=>?_;simp only[*,go_sem];refine aU hJ _ (G.2 _ (fun a v h=>aN a v h) d _ D _ _ (f.mono aN) (j.mono aN) V) ?_;revert h;refine aT hJ (fun W h=>?_) fun W h=>?_
  .obtain rfl:=sI h;refine ak hJ ?_;simp only[*,go_sem];have X:=cv (n:=i22) (by have:=w;omega);refine ak hJ ?_;simp only[*,go_sem];refine ⟨b.length - (i22+1),by omega,_,Le.sub (List.Sublist.refl _),i22+1,d31,T,D,rfl,by omega,E,rfl,j,?_⟩;simp only[*,go_sem]
  obtain rfl:=sI h;refine aI hJ ?_;have X:=cv (n:=i22) (by have:=w;omega);refine ak hJ ?_;simp only[*,go_sem];refine ⟨b.length - (i22+1),by omega,_,Le.sub (List.Sublist.refl _),i22+1,d16,e,d,rfl,by omega,E,rfl,f,?_⟩;simp only[*,go_sem]
 have bc:=Nat.not_lt.2 C;refine b6 hJ ?_;rw[List.drop_eq_nil_of_le C] at c;obtain rfl:=sI c;clear c;have h:=M;dsimp only[aF] at h;obtain rfl:=sI h;refine bO ?_;simp only[go_sem];refine ah hJ ?_;simp only[*,go_sem];refine ax ?_;simp only[*,go_sem];exact ⟨_,Ext.refl _,Le.sub (List.nil_sublist _),_,rfl,f⟩
def wE (u0:(List Int))(a:(List Int))(st:(Bool×Int)):Option (Fl (Bool×Int) Bool):=
 cond (decide (st.2<(u0.length:Int))) (ag (bf u0 st.2) fun b=>ag (bf a st.2) fun c=>cond ((b != c)) (some (.rt false)) (some (.nx (st.1,(IntKind.i64.wrap (st.2+1)))))) (some (.bk (st.1,st.2)))
def wF (u0:(List Int))(a:(List Int)):Option Bool:=
 cond (((u0.length:Int) != (a.length:Int))) (some false) (ag (aZ (wE u0 a) fu (false,0)) fun o=>aF o (fun b=>some true) (fun _ _=>none) (fun r=>some r))
theorem G7 {ro:Addr->Option Value}(u0:(List Int)){s1:Value}(g:aA rI ro s1 u0)(e:(List Int)){i:Value}(j:aA rI ro i e){r:Bool}(h:wF u0 e=some r):aD Tryz.prog 15 #[s1,i] ⟨ro,[]⟩ (fun v _=>v= .bool r):=by
 obtain ⟨d3,c4,rfl,R,S,-⟩:=id g;obtain ⟨d10,T,rfl,U,V,-⟩:=id j;unfold wF at h;refine aD.go Tryz.func15 rfl Tryz.ntmps15 Tryz.results15 (by simp) fun main J hJ A t hd hs=>?_;have u:=hs 0;have k1:=hs 1;clear hs;refine ah hJ ?_;simp only[*,go_sem];refine af hJ (ah hJ ?_);simp only[*,go_sem];revert h;refine aT hJ (fun w h=>?_) fun w h=>?_
 .obtain rfl:=sI h;refine ah hJ ?_;simp only[*,go_sem];refine ax ?_;simp only[*,go_sem]
 refine aI hJ (af hJ ?_);refine ah hJ ?_;simp only[*,go_sem];refine aO hJ ?_;revert h;refine bS fun x b k=>?_;refine bU hJ (rg 11 15 [4,5]) (fun m l F'=>∃(c:Bool) (d:Int),aZ (wE u0 e) m (c,d)=some x/\F'=⟨ro,[]⟩/\slot l 4= .bool c/\slot l 5= .int .i64 d) fu ?_ ?_
 .refine ⟨false,0,b,rfl,?_⟩;simp only[*,go_sem]
 rintro f W F' n ⟨c,d,b,rfl,X,Y⟩;obtain ⟨y,z,B⟩:=n.pick [0,1] (by decide);simp only[*,go_sem] at y z B;clear n t hd u k1;obtain _|f:=f
 .exact absurd b (by simp only[aZ,reduceCtorEq,not_false_eq_true])
 revert b;refine bS fun Z h a=>?_;unfold wE at h;try dsimp only at h
 refine af hJ (ah hJ ?_);simp only[*,go_sem];revert h;refine aT hJ (fun C h=>?_) fun C h=>?_
 .refine aI hJ (af hJ ?_);refine aO hJ (af hJ ?_);refine cP hJ mixed 9 0 (by simp only[*,go_sem]) (by kernel_rfl) ?_;revert h;refine bS fun D E h=>?_;obtain ⟨ab,ad,o⟩:=cG E;obtain ⟨ae,F,G,H,p⟩:=g.el _ _ o;obtain rfl:F=[.int .i64 D]:=H;cases G;have I:=p 0 _ rfl;simp only[go_sem] at I;clear p o;revert h;refine bS fun K L h=>?_;obtain ⟨al,ao,q⟩:=cG L;obtain ⟨ar,M,N,O,s⟩:=j.el _ _ q;obtain rfl:M=[.int .i64 K]:=O;cases N;have P:=s 0 _ rfl;simp only[go_sem] at P;clear s q;simp only[*,go_sem];revert h;refine aT hJ (fun Q h=>?_) fun Q h=>?_
  .obtain rfl:=sI h;refine ah hJ ?_;simp only[*,go_sem];obtain rfl:=sI a;clear a;have h:=k;dsimp only[aF] at h;obtain rfl:=sI h;refine ax ?_;simp only[*,go_sem]
  obtain rfl:=sI h;refine aI hJ (ak hJ ?_);simp only[*,go_sem];refine ⟨f,Nat.lt_succ_self _,_,Le.sub (List.Sublist.refl _),c,(IntKind.i64.wrap (d+1)),a,rfl,?_⟩;simp only[*,go_sem]
 obtain rfl:=sI h;refine bO ?_;simp only[go_sem];obtain rfl:=sI a;clear a;have h:=k;dsimp only[aF] at h;obtain rfl:=sI h;refine ah hJ ?_;simp only[*,go_sem];refine ax ?_;simp only[*,go_sem]
def mU (u0:(List Int))(a:(List Int)):Option Bool:=
 ag (wF u0 a) fun b=>some b
theorem qt {ro:Addr->Option Value}(u0:(List Int)){s1:Value}(b:aA rI ro s1 u0)(a:(List Int)){c:Value}(d:aA rI ro c a){r:Bool}(h:mU u0 a=some r):aD Tryz.prog 64 #[s1,c] ⟨ro,[]⟩ (fun v _=>v= .bool r):=by
 obtain ⟨d3,c4,rfl,f,g,-⟩:=id b;obtain ⟨d10,i,rfl,j,k,-⟩:=id d;unfold mU at h;refine aD.go Tryz.func64 rfl Tryz.ntmps64 Tryz.results64 (by simp) fun main J hJ A l hd hs=>?_;have m:=hs 0;have k1:=hs 1;clear hs;refine ah hJ ?_;simp only[*,go_sem];refine ah hJ ?_;revert h;refine bS fun n e h=>?_;obtain rfl:=sI h;simp only[*,go_sem];refine aU hJ _ (G7 u0 (b.mono aN) a (d.mono aN) e) (aJ ?_);simp only[*,go_sem];refine ax ?_;simp only[*,go_sem]
def wH (a:bn)(i10:Nat)(b:bn)(st:Int):Option (Fl Int Int):=
 cond (((a.back==b.back)&&(a.high==b.high))) (some (.rt (i10:Int))) (some (.nx st))
def wI (u0:(List bn))(a:bn):Option Int:=
 ag (bJ (wH a) 0 u0 0) fun o=>aF o (fun b=>some (-1)) (fun _ _=>none) (fun r=>some r)
theorem G8 {ro:Addr->Option Value}(u0:(List bn)){s1:Value}(g:aA jh ro s1 u0)(b:bn){r:Int}(h:wI u0 b=some r):aD Tryz.prog 165 #[s1,.agg #[.int .i64 b.back,.int .i64 b.high]] ⟨ro,[]⟩ (fun v _=>v= .int .i64 r):=by
 obtain ⟨d3,c4,rfl,K,o,-⟩:=id g;unfold wI at h;refine aD.go Tryz.func165 rfl Tryz.ntmps165 Tryz.results165 (by simp) fun main J hJ A p hd hs=>?_;have q:=hs 0;have k1:=hs 1;clear hs;refine ah hJ ?_;simp only[*,go_sem];refine ay fun s L t=>?_;try simp only[au] at t
 refine af hJ (ah hJ ?_);simp only[*,go_sem];refine aO hJ ?_;revert h;refine bS fun u a i=>?_;refine bU hJ (rg 8 11 [4,5]) (fun m j F'=>∃(i10:Nat) (c:Int),m=u0.length - i10/\i10<=u0.length/\bJ (wH b) i10 (u0.drop i10) c=some u/\F'=⟨ro,(s,.cells #[.int .i64 b.back,.int .i64 b.high] 118)::[]⟩/\slot j 8= .int .i64 (i10:Int)/\slot j 4= .int .i64 c) u0.length ?_ ?_
 .refine ⟨0,0,(Nat.sub_zero _).symm,Nat.zero_le _,a,rfl,?_⟩;simp only[*,go_sem]
 rintro M N F' k ⟨i10,c,rfl,O,a,rfl,P,Q⟩;obtain ⟨w,y,z⟩:=k.pick [0,3,7] (by decide);simp only[*,go_sem] at w y z;clear k p hd q k1;refine ah hJ ?_;simp only[*,go_sem];refine af hJ ?_;rcases Nat.lt_or_ge i10 u0.length with B|l
 .refine b8 hJ ?_;refine aI hJ ?_;obtain ⟨C,d⟩:∃x,u0[i10]?=some x:=⟨_,List.getElem?_eq_getElem B⟩
  rw[dg d] at a;revert a;refine bS fun R h e=>?_;unfold wH at h;try dsimp only at h
  obtain ⟨S,D,E,F,f⟩:=g.el _ _ d;obtain rfl:D=C.cells:=F;cases E;have G:=f 0 _ rfl;simp only[go_sem] at G;have H:=f 1 _ rfl;simp only[go_sem] at H;clear f d;refine af hJ (aO hJ (af hJ ?_));refine ak hJ ?_;simp only[*,go_sem];refine af hJ ?_;refine cP hJ mixed 6 1 (by simp only[*,go_sem]) (by kernel_rfl) ?_;simp only[*,go_sem];revert h;refine aT hJ (fun I h=>?_) fun I h=>?_
  .obtain rfl:=sI h;refine ah hJ ?_;simp only[*,go_sem];obtain rfl:=sI e;clear e;have h:=i;dsimp only[aF] at h;obtain rfl:=sI h;refine ax ?_;simp only[*,go_sem]
  obtain rfl:=sI h;refine aI hJ ?_;have T:=cv (n:=i10) (by have:=o;omega);refine ak hJ ?_;simp only[*,go_sem];refine ⟨u0.length - (i10+1),by omega,_,Le.sub (List.Sublist.refl _),i10+1,c,rfl,by omega,e,rfl,?_⟩;simp only[*,go_sem]
 have U:=Nat.not_lt.2 l;refine b6 hJ ?_;rw[List.drop_eq_nil_of_le l] at a;obtain rfl:=sI a;clear a;have h:=i;dsimp only[aF] at h;obtain rfl:=sI h;refine bO ?_;simp only[go_sem];refine ah hJ ?_;simp only[*,go_sem];refine ax ?_;simp only[*,go_sem]
def wJ (u0:(List bn))(a:bn):Option Bool:=
 ag (wI u0 a) fun b=>some (decide (0<=b))
theorem G9 {ro:Addr->Option Value}(u0:(List bn)){s1:Value}(b:aA jh ro s1 u0)(a:bn){r:Bool}(h:wJ u0 a=some r):aD Tryz.prog 136 #[s1,.agg #[.int .i64 a.back,.int .i64 a.high]] ⟨ro,[]⟩ (fun v _=>v= .bool r):=by
 obtain ⟨d3,c4,rfl,e,f,-⟩:=id b;unfold wJ at h;refine aD.go Tryz.func136 rfl Tryz.ntmps136 Tryz.results136 (by simp) fun main J hJ A g hd hs=>?_;have i:=hs 0;have k1:=hs 1;clear hs;refine ah hJ ?_;simp only[*,go_sem];refine ay fun j k c=>?_;try simp only[au] at c
 refine ah hJ ?_;revert h;refine bS fun l d h=>?_;obtain rfl:=sI h;simp only[*,go_sem];refine aU hJ _ (G8 u0 (b.mono aN) a d) (aJ ?_);simp only[*,go_sem];refine ax ?_;simp only[*,go_sem]
def sW (a:(bG->Option Bool))(i9:Nat)(b:bG)(st:Int):Option (Fl Int Int):=
 ag (a b) fun c=>cond (c) (some (.rt (i9:Int))) (some (.nx st))
def sX (u0:(List bG))(a:(bG->Option Bool)):Option Int:=
 ag (bJ (sW a) 0 u0 0) fun o=>aF o (fun b=>some (-1)) (fun _ _=>none) (fun r=>some r)
theorem He {ro:Addr->Option Value}(u0:(List bG)){s1:Value}(i:aA di ro s1 u0)(d:(bG->Option Bool)){dz:FuncId}{ef eg:Array Value}(s:aH Tryz.prog dz=true/\∀(aM:Addr->Option Value),Ext ro aM->∀(j:bG) (z:Bool),d j=some z->aD Tryz.prog dz (ef++#[j.v]++eg) ⟨aM,[]⟩ (fun v _=>v= .bool z)){r:Int}(h:sX u0 d=some r):aD Tryz.prog 203 #[s1,.func (.func dz) ef eg] ⟨ro,[]⟩ (fun v _=>v= .int .i64 r):=by
 obtain ⟨d3,c4,rfl,N,t,-⟩:=id i;unfold sX at h;refine aD.go Tryz.func203 rfl Tryz.ntmps203 Tryz.results203 (by simp) fun main J hJ A u hd hs=>?_;have w:=hs 0;have k1:=hs 1;clear hs;refine ah hJ ?_;simp only[*,go_sem];refine af hJ (ah hJ ?_);simp only[*,go_sem];refine aO hJ ?_;revert h;refine bS fun y b k=>?_;refine bU hJ (rg 8 11 [4,5]) (fun m l F'=>∃(i9:Nat) (c:Int),m=u0.length - i9/\i9<=u0.length/\bJ (sW d) i9 (u0.drop i9) c=some y/\F'=⟨ro,[]⟩/\slot l 8= .int .i64 (i9:Int)/\slot l 4= .int .i64 c) u0.length ?_ ?_
 .refine ⟨0,0,(Nat.sub_zero _).symm,Nat.zero_le _,b,rfl,?_⟩;simp only[*,go_sem]
 rintro O P F' o ⟨i9,c,rfl,Q,b,rfl,R,S⟩;obtain ⟨B,C,D⟩:=o.pick [0,1,7] (by decide);simp only[*,go_sem] at B C D;clear o u hd w k1;refine ah hJ ?_;simp only[*,go_sem];refine af hJ ?_;rcases Nat.lt_or_ge i9 u0.length with E|p
 .refine b8 hJ ?_;refine aI hJ ?_;obtain ⟨q,e⟩:∃x,u0[i9]?=some x:=⟨_,List.getElem?_eq_getElem E⟩
  rw[dg e] at b;revert b;refine bS fun T h f=>?_;unfold sW at h;try dsimp only at h
  obtain ⟨U,F,G,H,g⟩:=i.el _ _ e;obtain rfl:F=q.cells:=H;cases G;have I:=g 0 _ rfl;simp only[go_sem] at I;have K:=g 1 _ rfl;simp only[go_sem] at K;clear g e;refine af hJ (aO hJ (af hJ ?_));refine ak hJ ?_;simp only[*,go_sem];refine ah hJ ?_;revert h;refine bS fun V L h=>?_;simp only[*,go_sem];refine aU hJ _ (s.2 _ (fun a v h=>aN a v h) q _ L) ?_;revert h;refine aT hJ (fun M h=>?_) fun M h=>?_
  .obtain rfl:=sI h;refine ah hJ ?_;simp only[*,go_sem];obtain rfl:=sI f;clear f;have h:=k;dsimp only[aF] at h;obtain rfl:=sI h;refine ax ?_;simp only[*,go_sem]
  obtain rfl:=sI h;refine aI hJ ?_;have W:=cv (n:=i9) (by have:=t;omega);refine ak hJ ?_;simp only[*,go_sem];refine ⟨u0.length - (i9+1),by omega,_,Le.sub (List.Sublist.refl _),i9+1,c,rfl,by omega,f,rfl,?_⟩;simp only[*,go_sem]
 have X:=Nat.not_lt.2 p;refine b6 hJ ?_;rw[List.drop_eq_nil_of_le p] at b;obtain rfl:=sI b;clear b;have h:=k;dsimp only[aF] at h;obtain rfl:=sI h;refine bO ?_;simp only[go_sem];refine ah hJ ?_;simp only[*,go_sem];refine ax ?_;simp only[*,go_sem]
def qu (u0:(List bG))(a:(bG->Option Bool)):Option Bool:=
 ag (sX u0 a) fun b=>some (decide (0<=b))
theorem Hf {ro:Addr->Option Value}(u0:(List bG)){s1:Value}(b:aA di ro s1 u0)(a:(bG->Option Bool)){dz:FuncId}{ef eg:Array Value}(c:aH Tryz.prog dz=true/\∀(aM:Addr->Option Value),Ext ro aM->∀(d:bG) (z:Bool),a d=some z->aD Tryz.prog dz (ef++#[d.v]++eg) ⟨aM,[]⟩ (fun v _=>v= .bool z)){r:Bool}(h:qu u0 a=some r):aD Tryz.prog 187 #[s1,.func (.func dz) ef eg] ⟨ro,[]⟩ (fun v _=>v= .bool r):=by
 obtain ⟨d3,c4,rfl,g,i,-⟩:=id b;unfold qu at h;refine aD.go Tryz.func187 rfl Tryz.ntmps187 Tryz.results187 (by simp) fun main J hJ A j hd hs=>?_;have k:=hs 0;have k1:=hs 1;clear hs;refine ah hJ ?_;simp only[*,go_sem];refine ah hJ ?_;revert h;refine bS fun l e h=>?_;obtain rfl:=sI h;simp only[*,go_sem];refine aU hJ _ (He (dz:=dz) (ef:=ef) (eg:=eg) u0 (b.mono aN) a ⟨c.1,fun _ f=>c.2 _ (Ext.trans aN f)⟩ e) (aJ ?_);simp only[*,go_sem];refine ax ?_;simp only[*,go_sem]
def wK (a:(bn->Option Bool))(i9:Nat)(b:bn)(st:Int):Option (Fl Int Int):=
 ag (a b) fun c=>cond (c) (some (.rt (i9:Int))) (some (.nx st))
def wL (u0:(List bn))(a:(bn->Option Bool)):Option Int:=
 ag (bJ (wK a) 0 u0 0) fun o=>aF o (fun b=>some (-1)) (fun _ _=>none) (fun r=>some r)
theorem Hg {ro:Addr->Option Value}(u0:(List bn)){s1:Value}(i:aA jh ro s1 u0)(d:(bn->Option Bool)){dz:FuncId}{ef eg:Array Value}(s:aH Tryz.prog dz=true/\∀(aM:Addr->Option Value),Ext ro aM->∀(j:bn) (z:Bool),d j=some z->aD Tryz.prog dz (ef++#[j.v]++eg) ⟨aM,[]⟩ (fun v _=>v= .bool z)){r:Int}(h:wL u0 d=some r):aD Tryz.prog 197 #[s1,.func (.func dz) ef eg] ⟨ro,[]⟩ (fun v _=>v= .int .i64 r):=by
 obtain ⟨d3,c4,rfl,N,t,-⟩:=id i;unfold wL at h;refine aD.go Tryz.func197 rfl Tryz.ntmps197 Tryz.results197 (by simp) fun main J hJ A u hd hs=>?_;have w:=hs 0;have k1:=hs 1;clear hs;refine ah hJ ?_;simp only[*,go_sem];refine af hJ (ah hJ ?_);simp only[*,go_sem];refine aO hJ ?_;revert h;refine bS fun y b k=>?_;refine bU hJ (rg 8 11 [4,5]) (fun m l F'=>∃(i9:Nat) (c:Int),m=u0.length - i9/\i9<=u0.length/\bJ (wK d) i9 (u0.drop i9) c=some y/\F'=⟨ro,[]⟩/\slot l 8= .int .i64 (i9:Int)/\slot l 4= .int .i64 c) u0.length ?_ ?_
 .refine ⟨0,0,(Nat.sub_zero _).symm,Nat.zero_le _,b,rfl,?_⟩;simp only[*,go_sem]
 rintro O P F' o ⟨i9,c,rfl,Q,b,rfl,R,S⟩;obtain ⟨B,C,D⟩:=o.pick [0,1,7] (by decide);simp only[*,go_sem] at B C D;clear o u hd w k1;refine ah hJ ?_;simp only[*,go_sem];refine af hJ ?_;rcases Nat.lt_or_ge i9 u0.length with E|p
 .refine b8 hJ ?_;refine aI hJ ?_;obtain ⟨q,e⟩:∃x,u0[i9]?=some x:=⟨_,List.getElem?_eq_getElem E⟩
  rw[dg e] at b;revert b;refine bS fun T h f=>?_;unfold wK at h;try dsimp only at h
  obtain ⟨U,F,G,H,g⟩:=i.el _ _ e;obtain rfl:F=q.cells:=H;cases G;have I:=g 0 _ rfl;simp only[go_sem] at I;have K:=g 1 _ rfl;simp only[go_sem] at K;clear g e;refine af hJ (aO hJ (af hJ ?_));refine ak hJ ?_;simp only[*,go_sem];refine ah hJ ?_;revert h;refine bS fun V L h=>?_;simp only[*,go_sem];refine aU hJ _ (s.2 _ (fun a v h=>aN a v h) q _ L) ?_;revert h;refine aT hJ (fun M h=>?_) fun M h=>?_
  .obtain rfl:=sI h;refine ah hJ ?_;simp only[*,go_sem];obtain rfl:=sI f;clear f;have h:=k;dsimp only[aF] at h;obtain rfl:=sI h;refine ax ?_;simp only[*,go_sem]
  obtain rfl:=sI h;refine aI hJ ?_;have W:=cv (n:=i9) (by have:=t;omega);refine ak hJ ?_;simp only[*,go_sem];refine ⟨u0.length - (i9+1),by omega,_,Le.sub (List.Sublist.refl _),i9+1,c,rfl,by omega,f,rfl,?_⟩;simp only[*,go_sem]
 have X:=Nat.not_lt.2 p;refine b6 hJ ?_;rw[List.drop_eq_nil_of_le p] at b;obtain rfl:=sI b;clear b;have h:=k;dsimp only[aF] at h;obtain rfl:=sI h;refine bO ?_;simp only[go_sem];refine ah hJ ?_;simp only[*,go_sem];refine ax ?_;simp only[*,go_sem]
def wM (u0:(List bn))(a:(bn->Option Bool)):Option Bool:=
 ag (wL u0 a) fun b=>some (decide (0<=b))
theorem Hh {ro:Addr->Option Value}(u0:(List bn)){s1:Value}(b:aA jh ro s1 u0)(a:(bn->Option Bool)){dz:FuncId}{ef eg:Array Value}(c:aH Tryz.prog dz=true/\∀(aM:Addr->Option Value),Ext ro aM->∀(d:bn) (z:Bool),a d=some z->aD Tryz.prog dz (ef++#[d.v]++eg) ⟨aM,[]⟩ (fun v _=>v= .bool z)){r:Bool}(h:wM u0 a=some r):aD Tryz.prog 179 #[s1,.func (.func dz) ef eg] ⟨ro,[]⟩ (fun v _=>v= .bool r):=by
 obtain ⟨d3,c4,rfl,g,i,-⟩:=id b;unfold wM at h;refine aD.go Tryz.func179 rfl Tryz.ntmps179 Tryz.results179 (by simp) fun main J hJ A j hd hs=>?_;have k:=hs 0;have k1:=hs 1;clear hs;refine ah hJ ?_;simp only[*,go_sem];refine ah hJ ?_;revert h;refine bS fun l e h=>?_;obtain rfl:=sI h;simp only[*,go_sem];refine aU hJ _ (Hg (dz:=dz) (ef:=ef) (eg:=eg) u0 (b.mono aN) a ⟨c.1,fun _ f=>c.2 _ (Ext.trans aN f)⟩ e) (aJ ?_);simp only[*,go_sem];refine ax ?_;simp only[*,go_sem]
def qv (a:(aW->Option Bool))(i38:Nat)(b:aW)(st:Int):Option (Fl Int Int):=
 ag (a b) fun c=>cond (c) (some (.nx (IntKind.i64.wrap (st+1)))) (some (.nx st))
def oe (u0:cT)(b:(aW->Option Bool)):Option Int:=
 ag (bJ (qv b) 0 u0.all 0) fun o=>aF o (fun a=>cond ((a==(u0.all.length:Int))) (some 1) (cond ((a==0)) (some 2) (some 0))) (fun _ _=>none) (fun r=>some r)
theorem Bw {ro:Addr->Option Value}(u0:cT){s1 e f g:Value}(Z:bN ro u0.book s1 e f g){k:Value}(l:aA g7 ro k u0.all)(i:(aW->Option Bool)){dz:FuncId}{ef eg:Array Value}(y:aH Tryz.prog dz=true/\∀(aM:Addr->Option Value),Ext ro aM->∀(o:aW) (z:Bool),i o=some z->aD Tryz.prog dz (ef++#[o.v]++eg) ⟨aM,[]⟩ (fun v _=>v= .bool z)){r:Int}(h:oe u0 i=some r):aD Tryz.prog 90 #[.agg #[.int .i64 u0.book.bH,.int .i64 u0.book.bM,.int .i64 u0.book.aV.num,.int .i64 u0.book.aV.den,s1,e,f,g,k],.func (.func dz) ef eg] ⟨ro,[]⟩ (fun v _=>v= .int .i64 r):=by
 obtain ⟨d31,B,rfl,ab,p,-⟩:=id l;unfold oe at h;refine aD.go Tryz.func90 rfl Tryz.ntmps90 Tryz.results90 (by simp) fun main J hJ A C hd hs=>?_;have D:=hs 0;have k1:=hs 1;clear hs;refine ah hJ ?_;simp only[*,go_sem];refine ay fun E ad F=>?_;try simp only[au] at F
 refine ah hJ ?_;simp only[*,go_sem];refine af hJ (ah hJ ?_);simp only[*,go_sem];refine aO hJ ?_;revert h;refine bS fun G b H=>?_;refine bU hJ (rg 11 10 [5,7]) (fun m q F'=>∃(i38:Nat) (c:Int),m=u0.all.length - i38/\i38<=u0.all.length/\bJ (qv i) i38 (u0.all.drop i38) c=some G/\F'=⟨ro,(E,kn u0 s1 e f g (sl d31 u0.all B))::[]⟩/\slot q 11= .int .i64 (i38:Int)/\slot q 5= .int .i64 c) u0.all.length ?_ ?_
 .refine ⟨0,0,(Nat.sub_zero _).symm,Nat.zero_le _,b,rfl,?_⟩;simp only[*,go_sem]
 rintro ae al F' s ⟨i38,c,rfl,ao,b,rfl,ar,a0⟩;obtain ⟨I,K,L⟩:=s.pick [1,2,4,9,10] (by decide);simp only[*,go_sem] at I K L;clear s C hd D k1;refine ah hJ ?_;simp only[*,go_sem];refine af hJ ?_;rcases Nat.lt_or_ge i38 u0.all.length with M|t
 .refine b8 hJ ?_;refine aI hJ ?_;obtain ⟨u,j⟩:∃x,u0.all[i38]?=some x:=⟨_,List.getElem?_eq_getElem M⟩
  rw[dg j] at b;revert b;refine bS fun a2 h w=>?_;unfold qv at h;try dsimp only at h
  obtain ⟨a3,N,O,P,d⟩:=l.el _ _ j;obtain rfl:N=u.cells:=P;cases O;have Q:=d 0 _ rfl;simp only[go_sem] at Q;have R:=d 1 _ rfl;simp only[go_sem] at R;have S:=d 2 _ rfl;simp only[go_sem] at S;clear d j;refine af hJ (aO hJ (af hJ ?_));refine ak hJ ?_;simp only[*,go_sem];refine ay fun a4 a5 T=>?_;try simp only[au] at T
  refine ah hJ ?_;revert h;refine bS fun a6 U h=>?_;simp only[*,go_sem];refine aU hJ _ (y.2 _ (fun a v h=>aN a v h) u _ U) ?_;revert h;refine aT hJ (fun V h=>?_) fun V h=>?_
  .obtain rfl:=sI h;refine ak hJ ?_;simp only[*,go_sem];have W:=cv (n:=i38) (by have:=p;omega);refine ak hJ ?_;simp only[*,go_sem];refine ⟨u0.all.length - (i38+1),by omega,_,Le.sub (List.Sublist.cons _ (List.Sublist.refl _)),i38+1,(IntKind.i64.wrap (c+1)),rfl,by omega,w,rfl,?_⟩;simp only[*,go_sem]
  obtain rfl:=sI h;refine aI hJ ?_;have W:=cv (n:=i38) (by have:=p;omega);refine ak hJ ?_;simp only[*,go_sem];refine ⟨u0.all.length - (i38+1),by omega,_,Le.sub (List.Sublist.cons _ (List.Sublist.refl _)),i38+1,c,rfl,by omega,w,rfl,?_⟩;simp only[*,go_sem]
 have a7:=Nat.not_lt.2 t;refine b6 hJ ?_;rw[List.drop_eq_nil_of_le t] at b;obtain rfl:=sI b;clear b;have h:=H;dsimp only[aF] at h;refine bO ?_;simp only[go_sem];refine af hJ (ah hJ ?_);simp only[*,go_sem];refine aO hJ (af hJ ?_);refine ak hJ ?_;simp only[*,go_sem];revert h;refine aT hJ (fun X h=>?_) fun X h=>?_
 .obtain rfl:=sI h;refine ah hJ ?_;simp only[*,go_sem];refine ax ?_;simp only[*,go_sem]
 refine ah hJ ?_;simp only[*,go_sem];revert h;refine aT hJ (fun Y h=>?_) fun Y h=>?_
 .obtain rfl:=sI h;refine ah hJ ?_;simp only[*,go_sem];refine ax ?_;simp only[*,go_sem]
 obtain rfl:=sI h;refine aI hJ (af hJ ?_);refine ak hJ ?_;simp only[*,go_sem];refine ax ?_;simp only[*,go_sem]
def qw (u0:bG)(a:aj)(w1:aW):Option Bool:=
 ag (aW.get w1 u0.aR) fun b=>ag (gO a u0.aR b) fun c=>ag (gv a c) fun d=>some (!(d==u0.bq))
theorem Hi {ro:Addr->Option Value}(u0:bG)(a:aj){b:Nat}(y:ro ⟨b,0,none⟩=some (.int .i64 a.bH))(z:ro ⟨b,1,none⟩=some (.int .i64 a.bM))(B:ro ⟨b,2,none⟩=some (.int .i64 a.aV.num))(C:ro ⟨b,3,none⟩=some (.int .i64 a.aV.den)){s1:Value}(e:aA e8 ro s1 a.az)(D:ro ⟨b,4,none⟩=some (s1)){j:Value}(f:aA eF ro j a.props)(E:ro ⟨b,5,none⟩=some (j)){k:Value}(g:aA eG ro k a.av)(G:ro ⟨b,6,none⟩=some (k)){l:Value}(i:aA di ro l a.told)(H:ro ⟨b,7,none⟩=some (l))(w1:aW){d:Nat}(o:ro ⟨d,0,none⟩=some (.int .i64 w1.e0))(p:ro ⟨d,1,none⟩=some (.int .i64 w1.e1))(q:ro ⟨d,2,none⟩=some (.int .i64 w1.e2)){r:Bool}(h:qw u0 a w1=some r):aD Tryz.prog 188 #[.agg #[.int .i64 u0.aR,.bool u0.bq],.pointer (some ⟨b,0,none⟩),.pointer (some ⟨d,0,none⟩)] ⟨ro,[]⟩ (fun v _=>v= .bool r):=by
 obtain ⟨d3,c4,rfl,I,K,-⟩:=id e;obtain ⟨d10,L,rfl,M,N,-⟩:=id f;obtain ⟨d17,O,rfl,P,Q,-⟩:=id g;obtain ⟨d24,R,rfl,S,T,-⟩:=id i;unfold qw at h;refine aD.go Tryz.func188 rfl Tryz.ntmps188 Tryz.results188 (by simp) fun main J hJ A U hd hs=>?_;have V:=hs 0;have k1:=hs 1;have W:=hs 2;clear hs;refine ah hJ ?_;simp only[*,go_sem];refine ay fun X Y s=>?_;try simp only[au] at s
 refine af hJ ?_;refine cP hJ mixed 14 1 (by simp only[*,go_sem]) (by kernel_rfl) ?_;revert h;refine bS fun t m h=>?_;obtain ⟨Z,ab,n⟩:=aW.get_some m;clear n;have n:=aW.GN m o p q;revert h;refine bS fun u w h=>?_;simp only[*,go_sem];refine ⟨_,bD hJ fun F c=>mK a ⟨(e.mono (bY c)),(f.mono (bY c)),(g.mono (bY c)),(i.mono (bY c))⟩ u0.aR t w,cn ?_⟩;revert h;refine bS fun ad x h=>?_;obtain rfl:=sI h;simp only[*,go_sem];refine ⟨_,bD hJ fun F c=>mT a ⟨(e.mono (bY c)),(f.mono (bY c)),(g.mono (bY c)),(i.mono (bY c))⟩ u x,cn ?_⟩;simp only[*,go_sem];refine ax ?_;simp only[*,go_sem]
def og (u0:aj)(a:aW):Option Bool:=
 ag (qu u0.told (fun b=>qw b u0 a)) fun c=>some (!c)
theorem Hj {ro:Addr->Option Value}(u0:aj){s1 f g i:Value}(b:bN ro u0 s1 f g i)(c:aW){r:Bool}(h:og u0 c=some r):aD Tryz.prog 158 #[bv u0 s1 f g i,.agg #[.int .i64 c.e0,.int .i64 c.e1,.int .i64 c.e2]] ⟨ro,[]⟩ (fun v _=>v= .bool r):=by
 obtain ⟨d3,c4,rfl,q,s,-⟩:=id b.e;obtain ⟨d10,u,rfl,w,x,-⟩:=id b.p;obtain ⟨d17,z,rfl,B,C,-⟩:=id b.y;obtain ⟨d24,D,rfl,E,F,-⟩:=id b.t;unfold og at h;refine aD.go Tryz.func158 rfl Tryz.ntmps158 Tryz.results158 (by simp) fun main J hJ A G hd hs=>?_;have H:=hs 0;have k1:=hs 1;clear hs;refine ah hJ ?_;simp only[*,go_sem];refine ay fun j I k=>?_;try simp only[au] at k
 refine ay fun l K m=>?_;try simp only[au] at m
 refine ah hJ ?_;revert h;refine bS fun L n h=>?_;obtain rfl:=sI h;simp only[*,go_sem];refine aU hJ _ (Hf (dz:=188) (ef:=#[]) (eg:=#[.pointer (some ⟨j,0,none⟩),.pointer (some ⟨l,0,none⟩)]) u0.told (b.t.mono aN) (fun d=>qw d u0 c) ⟨by simp only[go_sem],fun M a d N o=>by simp only[go_sem];exact Hi d u0 (a _ _ (by simp only[aa.cx,go_sem, *])) (a _ _ (by simp only[aa.cx,go_sem, *])) (a _ _ (by simp only[aa.cx,go_sem, *])) (a _ _ (by simp only[aa.cx,go_sem, *])) ((b.e.mono aN).mono a) (a _ _ (by simp only[aa.cx,go_sem, *])) ((b.p.mono aN).mono a) (a _ _ (by simp only[aa.cx,go_sem, *])) ((b.y.mono aN).mono a) (a _ _ (by simp only[aa.cx,go_sem, *])) ((b.t.mono aN).mono a) (a _ _ (by simp only[aa.cx,go_sem, *])) c (a _ _ (by simp only[aa.cx,go_sem, *])) (a _ _ (by simp only[aa.cx,go_sem, *])) (a _ _ (by simp only[aa.cx,go_sem, *])) o⟩ n) (aJ ?_);simp only[*,go_sem];refine ax ?_;simp only[*,go_sem]
def sY (u0:aj)(a:(List bn)):Option Bool:=
 ag (wM a (gv u0)) fun b=>some (!b)
theorem Hl {ro:Addr->Option Value}(u0:aj){s1 c d f:Value}(a:bN ro u0 s1 c d f)(g:(List bn)){i:Value}(j:aA jh ro i g){r:Bool}(h:sY u0 g=some r):aD Tryz.prog 145 #[bv u0 s1 c d f,i] ⟨ro,[]⟩ (fun v _=>v= .bool r):=by
 obtain ⟨d31,n,rfl,o,q,-⟩:=id j;unfold sY at h;refine aD.go Tryz.func145 rfl Tryz.ntmps145 Tryz.results145 (by simp) fun main J hJ A s hd hs=>?_;have u:=hs 0;have k1:=hs 1;clear hs;refine ah hJ ?_;simp only[*,go_sem];refine ay fun w x k=>?_;try simp only[au] at k
 refine ah hJ ?_;revert h;refine bS fun z l h=>?_;obtain rfl:=sI h;simp only[*,go_sem];refine aU hJ _ (Hh (dz:=92) (ef:=#[bv u0 s1 c d f]) (eg:=#[]) g (j.mono aN) (gv u0) ⟨by simp only[go_sem],fun B b m _ h=>by simp only[go_sem];exact mT u0 ⟨((a.e.mono aN).mono b),((a.p.mono aN).mono b),((a.y.mono aN).mono b),((a.t.mono aN).mono b)⟩ m h⟩ l) (aJ ?_);simp only[*,go_sem];refine ax ?_;simp only[*,go_sem]
def jR (u0:aW)(a:cT)(w1:Int):Option Bool:=
 ag (aW.get u0 w1) fun b=>ag (gO a.book w1 b) fun c=>ag (gv a.book c) fun d=>some d
theorem Ho {ro:Addr->Option Value}(u0:aW)(a:cT){b:Nat}(x:ro ⟨b,0,none⟩=some (.int .i64 a.book.bH))(y:ro ⟨b,1,none⟩=some (.int .i64 a.book.bM))(z:ro ⟨b,2,none⟩=some (.int .i64 a.book.aV.num))(B:ro ⟨b,3,none⟩=some (.int .i64 a.book.aV.den)){s1:Value}(d:aA e8 ro s1 a.book.az)(C:ro ⟨b,4,none⟩=some (s1)){i:Value}(e:aA eF ro i a.book.props)(D:ro ⟨b,5,none⟩=some (i)){j:Value}(f:aA eG ro j a.book.av)(E:ro ⟨b,6,none⟩=some (j)){k:Value}(g:aA di ro k a.book.told)(G:ro ⟨b,7,none⟩=some (k)){l:Value}(n:aA g7 ro l a.all)(H:ro ⟨b,8,none⟩=some (l))(w1:Int){m:Nat}(I:ro ⟨m,0,none⟩=some (.int .i64 w1)){r:Bool}(h:jR u0 a w1=some r):aD Tryz.prog 126 #[.agg #[.int .i64 u0.e0,.int .i64 u0.e1,.int .i64 u0.e2],.pointer (some ⟨b,0,none⟩),.pointer (some ⟨m,0,none⟩)] ⟨ro,[]⟩ (fun v _=>v= .bool r):=by
 obtain ⟨d3,c4,rfl,K,L,-⟩:=id d;obtain ⟨d10,M,rfl,N,O,-⟩:=id e;obtain ⟨d17,P,rfl,Q,R,-⟩:=id f;obtain ⟨d24,S,rfl,T,U,-⟩:=id g;obtain ⟨d31,V,rfl,W,X,-⟩:=id n;unfold jR at h;refine aD.go Tryz.func126 rfl Tryz.ntmps126 Tryz.results126 (by simp) fun main J hJ A Y hd hs=>?_;have Z:=hs 0;have k1:=hs 1;have ab:=hs 2;clear hs;refine ah hJ ?_;simp only[*,go_sem];refine ay fun ad ae o=>?_;try simp only[au] at o
 refine af hJ ?_;refine cP hJ mixed 11 1 (by simp only[*,go_sem]) (by kernel_rfl) ?_;revert h;refine bS fun p q h=>?_;obtain ⟨al,ao,s⟩:=aW.get_some q;try simp only[go_sem] at s
 revert h;refine bS fun t u h=>?_;simp only[*,go_sem];refine ⟨_,bD hJ fun F c=>mK a.book ⟨(d.mono (bY c)),(e.mono (bY c)),(f.mono (bY c)),(g.mono (bY c))⟩ w1 p u,cn ?_⟩;revert h;refine bS fun ar w h=>?_;obtain rfl:=sI h;simp only[*,go_sem];refine ⟨_,bD hJ fun F c=>mT a.book ⟨(d.mono (bY c)),(e.mono (bY c)),(f.mono (bY c)),(g.mono (bY c))⟩ t w,cn ?_⟩;simp only[*,go_sem];refine ax ?_;simp only[*,go_sem]
def sZ (u0:aW)(a:cT)(i38:Nat)(e:bL)(st:Bool):Option (Fl Bool Bool):=
 ag (aW.get u0 (i38:Int)) fun b=>ag (gO a.book (i38:Int) b) fun c=>ag (gv a.book c) fun d=>cond (d) (some (.rt false)) (some (.nx st))
def jS (u0:aW)(a:cT):Option Bool:=
 ag (bJ (sZ u0 a) 0 a.book.av false) fun o=>aF o (fun b=>some true) (fun _ _=>none) (fun r=>some r)
theorem Hp {ro:Addr->Option Value}(u0:aW)(a:cT){b:Nat}(ae:ro ⟨b,0,none⟩=some (.int .i64 a.book.bH))(al:ro ⟨b,1,none⟩=some (.int .i64 a.book.bM))(ao:ro ⟨b,2,none⟩=some (.int .i64 a.book.aV.num))(ar:ro ⟨b,3,none⟩=some (.int .i64 a.book.aV.den)){s1:Value}(i:aA e8 ro s1 a.book.az)(a0:ro ⟨b,4,none⟩=some (s1)){p:Value}(j:aA eF ro p a.book.props)(a2:ro ⟨b,5,none⟩=some (p)){q:Value}(e:aA eG ro q a.book.av)(a3:ro ⟨b,6,none⟩=some (q)){s:Value}(k:aA di ro s a.book.told)(a4:ro ⟨b,7,none⟩=some (s)){t:Value}(B:aA g7 ro t a.all)(a5:ro ⟨b,8,none⟩=some (t)){r:Bool}(h:jS u0 a=some r):aD Tryz.prog 91 #[.agg #[.int .i64 u0.e0,.int .i64 u0.e1,.int .i64 u0.e2],.pointer (some ⟨b,0,none⟩)] ⟨ro,[]⟩ (fun v _=>v= .bool r):=by
 obtain ⟨d3,c4,rfl,a6,a7,-⟩:=id i;obtain ⟨d10,a8,rfl,a9,ba,-⟩:=id j;obtain ⟨d17,bb,rfl,bc,C,-⟩:=id e;obtain ⟨d24,bd,rfl,bj,bk,-⟩:=id k;obtain ⟨d31,bl,rfl,bm,bo,-⟩:=id B;unfold jS at h;refine aD.go Tryz.func91 rfl Tryz.ntmps91 Tryz.results91 (by simp) fun main J hJ A D hd hs=>?_;have E:=hs 0;have k1:=hs 1;clear hs;refine ah hJ ?_;simp only[*,go_sem];refine ay fun G br H=>?_;try simp only[au] at H
 refine af hJ (ah hJ ?_);simp only[*,go_sem];refine aO hJ ?_;revert h;refine bS fun I d u=>?_;refine bU hJ (rg 10 14 [3,4]) (fun m w F'=>∃(i38:Nat) (f:Bool),m=a.book.av.length - i38/\i38<=a.book.av.length/\bJ (sZ u0 a) i38 (a.book.av.drop i38) f=some I/\F'=⟨ro,(G,.cells #[.int .i64 u0.e0,.int .i64 u0.e1,.int .i64 u0.e2] 144)::[]⟩/\slot w 10= .int .i64 (i38:Int)/\slot w 3= .bool f) a.book.av.length ?_ ?_
 .refine ⟨0,false,(Nat.sub_zero _).symm,Nat.zero_le _,d,rfl,?_⟩;simp only[*,go_sem]
 rintro bs bz F' y ⟨i38,f,rfl,b0,d,rfl,b1,b2⟩;obtain ⟨K,L,M⟩:=y.pick [1,2,9] (by decide);simp only[*,go_sem] at K L M;clear y D hd E k1;refine ah hJ ?_;simp only[*,go_sem];refine af hJ ?_;rcases Nat.lt_or_ge i38 a.book.av.length with N|z
 .refine b8 hJ ?_;refine aI hJ ?_;obtain ⟨O,l⟩:∃x,a.book.av[i38]?=some x:=⟨_,List.getElem?_eq_getElem N⟩
  rw[dg l] at d;revert d;refine bS fun b3 h o=>?_;unfold sZ at h;try dsimp only at h
  obtain ⟨b4,P,Q,R,g⟩:=e.el _ _ l;obtain rfl:P=O.cells:=R;cases Q;have S:=g 0 _ rfl;simp only[go_sem] at S;have T:=g 1 _ rfl;simp only[go_sem] at T;have U:=g 2 _ rfl;simp only[go_sem] at U;clear g l;refine af hJ (aO hJ (af hJ ?_));refine ak hJ ?_;simp only[*,go_sem];refine af hJ ?_;refine cP hJ mixed 10 1 (by simp only[*,go_sem]) (by kernel_rfl) ?_;revert h;refine bS fun V W h=>?_;obtain ⟨b5,ca,X⟩:=aW.get_some W;try simp only[go_sem] at X
  revert h;refine bS fun Y Z h=>?_;simp only[*,go_sem];refine ⟨_,bD hJ fun F c=>mK a.book ⟨(i.mono (bY c)),(j.mono (bY c)),(e.mono (bY c)),(k.mono (bY c))⟩ (i38:Int) V Z,cn ?_⟩;revert h;refine bS fun cb ab h=>?_;simp only[*,go_sem];refine ⟨_,bD hJ fun F c=>mT a.book ⟨(i.mono (bY c)),(j.mono (bY c)),(e.mono (bY c)),(k.mono (bY c))⟩ Y ab,?_⟩;revert h;refine aT hJ (fun ad h=>?_) fun ad h=>?_
  .obtain rfl:=sI h;refine ah hJ ?_;simp only[*,go_sem];obtain rfl:=sI o;clear o;have h:=u;dsimp only[aF] at h;obtain rfl:=sI h;refine ax ?_;simp only[*,go_sem]
  obtain rfl:=sI h;refine aI hJ ?_;have cd:=cv (n:=i38) (by have:=C;omega);refine ak hJ ?_;simp only[*,go_sem];refine ⟨a.book.av.length - (i38+1),by omega,_,Le.sub (List.Sublist.refl _),i38+1,f,rfl,by omega,o,rfl,?_⟩;simp only[*,go_sem]
 have cf:=Nat.not_lt.2 z;refine b6 hJ ?_;rw[List.drop_eq_nil_of_le z] at d;obtain rfl:=sI d;clear d;have h:=u;dsimp only[aF] at h;obtain rfl:=sI h;refine bO ?_;simp only[go_sem];refine ah hJ ?_;simp only[*,go_sem];refine ax ?_;simp only[*,go_sem]
def aW.setAt (h:aW)(i n:Int):Option aW:=if i=0 then some {h with e0:=n} else if i=1 then some {h with e1:=n} else if i=2 then some {h with e2:=n} else none
theorem aW.Hq {h a:aW}{i n:Int}(e:h.setAt i n=some a):(i=0/\a={h with e0:=n})\/(i=1/\a={h with e1:=n})\/(i=2/\a={h with e2:=n}):=by
 unfold aW.setAt at e;split at e
 .exact .inl ⟨‹_›,(Option.some.inj e).symm⟩
 .split at e
  .exact .inr (.inl ⟨‹_›,(Option.some.inj e).symm⟩)
  .split at e
   .exact .inr (.inr ⟨‹_›,(Option.some.inj e).symm⟩)
   .cases e
def jm (f:aW->List (Option aW)×aW)(i hi:Int):Nat->Int->aW->List (Option aW)×aW
 |0,_,h=>([none],h)
 |k+1,n,h=>if n<=hi then match h.setAt i n with
   |none=>([none],h)
   |some a=>((f a).1++(jm f i hi k (IntKind.i64.wrap (n+1)) (f a).2).1,(jm f i hi k (IntKind.i64.wrap (n+1)) (f a).2).2)
  else ([],h)
def eR (b:aj):Nat->Int->aW->List (Option aW)×aW
 |0,_,h=>([none],h)
 |fuel+1,i,h=>if i=b.av.length then ((match og b h with
   |some true=>[some h]
   |some false=>[]
   |none=>[none]),h)
  else match bf b.av i with
   |none=>([none],h)
   |some e=>jm (eR b fuel (IntKind.i64.wrap (i+1))) i e.high.high 100 e.high.low h
def mV (b:aj):List (Option aW):=(eR b 5 0 ⟨0,0,0⟩).1
theorem Hr {H σ:Type}{step:σ->H->Option (Bool×σ)}{l l':List (Option H)}{s s':σ}{c:Bool}(h:e7 step (l++l') s=some (c,s')):
  (∃s1,e7 step l s=some (true,s1)/\e7 step l' s1=some (c,s'))\/(e7 step l s=some (false,s')/\c=false):=by
 rw[Bg] at h
 split at h
 .rename_i s1 a;exact .inl ⟨s1,a,h⟩
 .rename_i s1 a;simp only[Option.some.injEq,Prod.mk.injEq] at h;obtain ⟨rfl,rfl⟩:=h;exact .inr ⟨a,rfl⟩
 .cases h
theorem qx {H σ:Type}{step:σ->H->Option (Bool×σ)}{s:σ}{r:Bool×σ}(h:e7 step [none] s=some r):False:=by cases h
section
variable {ro : Addr → Option Value} {σ : Type} {step : σ → aW → Option (Bool × σ)} {I : σ → List (Nat × Obj) → Prop} {y : Value}
def oh (b:aj)(s1 s2 a c y:Value)(b2 b3 b4 b5:Nat)(h:aW):List (Nat×Obj):=
 [(b5,.cells #[.func (.func 157) #[] #[.pointer (some ⟨b2,0,none⟩),.pointer (some ⟨b4,0,none⟩),.pointer (some ⟨b3,0,none⟩),.pointer (some ⟨b5,0,none⟩)]] 166),
  (b4,.cells #[.int .i64 h.e0,.int .i64 h.e1,.int .i64 h.e2] 144),(b3,.cells #[y] 147),
  (b2,.cells #[.int .i64 b.bH,.int .i64 b.bM,.int .i64 b.aV.num,.int .i64 b.aV.den,s1,s2,a,c] 109)]
theorem Hs (u0:aj){s1 s2 x z:Value}(F:aA e8 ro s1 u0.az)(G:aA eF ro s2 u0.props)(H:aA eG ro x u0.av)(K:aA di ro z u0.told)(W:wj Tryz.prog y aW.v step ro I)
  {b2 b3 b4 b5:Nat} (n1:¬b5=b4) (n2:¬b5=b3) (n3:¬b5=b2) (bc:¬b4=b3) (bd:¬b4=b2) (bj:¬b3=b2) (bk:∀off sp,ro ⟨b5,off,sp⟩=none) (bl:∀off sp,ro ⟨b4,off,sp⟩=none) (bm:∀off sp,ro ⟨b3,off,sp⟩=none) (bo:∀off sp,ro ⟨b2,off,sp⟩=none):
  ∀(fuel:Nat) (i:Int) (b:aW) (s:σ) (c:Bool) (s':σ),e7 step (eR u0 fuel i b).1 s=some (c,s')->∀(main:Bool) (J:Goroutine->aa->Prop),Closed Tryz.prog main J->∀own,I s own->
   cW Tryz.prog J 157 #[.int .i64 i,.pointer (some ⟨b2,0,none⟩),.pointer (some ⟨b4,0,none⟩),.pointer (some ⟨b3,0,none⟩),.pointer (some ⟨b5,0,none⟩)] ⟨ro,oh u0 s1 s2 x z y b2 b3 b4 b5 b++own⟩
    (fun v F'=>∃o q,Le ⟨ro,oh u0 s1 s2 x z y b2 b3 b4 b5 o++q⟩ F'/\v= .bool c/\I s' q/\(c=true->o=(eR u0 fuel i b).2)):=by
 intro fuel
 induction fuel with
 |zero=>intro i b s c s' h;exact (qx h).elim
 |succ fuel ih=>
  intro i b s c s' h main J hJ own j
  obtain ⟨L,M,rfl,br,bs,e1⟩:=id F
  obtain ⟨N,O,rfl,bz,bS,e2⟩:=id G
  obtain ⟨X,P,rfl,b0,b1,Y⟩:=id H
  obtain ⟨Q,R,rfl,ca,cb,cd⟩:=id K
  refine cW.go hJ Tryz.func157 rfl Tryz.ntmps157 Tryz.results157 (by simp) fun A Z hd hs=>?_
  have ab:=hs 0
  have k1:=hs 1
  have ad:=hs 2
  have ae:=hs 3
  have al:=hs 4
  clear hs
  unfold eR at h
  have cf:(0:Int)<((3:Nat):Int):=by decide
  have cl:(1:Int)<((3:Nat):Int):=by decide
  have cu:(2:Int)<((3:Nat):Int):=by decide
  repeat refine af hJ ?_
  refine ak hJ ?_
  simp only[*,go_sem,-h]
  repeat refine af hJ ?_
  refine ak hJ ?_
  simp only[oh,go_sem, *,-h]
  repeat refine af hJ ?_
  by_cases hi:i=(u0.av.length:Int)
  .rw[if_pos hi] at h
   repeat refine af hJ ?_
   refine dU hJ (by simp only[*,go_sem,-h]) ?_
   repeat refine af hJ ?_
   refine aC hJ fun nd=>?_
   repeat refine af hJ ?_
   refine ak hJ ?_
   simp only[*,go_sem,-h]
   cases f:og u0 b with
   |none=>rw[f] at h;exact (qx h).elim
   |some r=>
    rw[f] at h
    refine aU hJ _ (Hj u0 ⟨(F.mono aN),(G.mono aN),(H.mono aN),(K.mono aN)⟩ b f) (aJ ?_)
    cases r with
    |false=>
     cases h
     simp only[*,go_sem]
     repeat refine af hJ ?_
     refine ax ?_
     simp only[*,go_sem]
     refine ⟨b,own,Le.refl _,?_⟩
     first|exact ⟨rfl,j,fun _=>by unfold eR;rw[if_pos rfl]⟩|exact ⟨j,fun _=>by unfold eR;rw[if_pos rfl]⟩|exact ⟨j,by unfold eR;rw[if_pos rfl]⟩|exact j
    |true=>
     have ao:step s b=some (c,s'):=by
      simp only[e7] at h
      split at h<;>first|(cases h;assumption)|cases h
     simp only[*,go_sem,-h]
     refine Gq hJ (oh u0 (.slice L u0.az.length M) (.slice N u0.props.length O) (.slice X u0.av.length P) (.slice Q u0.told.length R) y b2 b3 b4 b5 b) (fun m ar a0=>W s b c s' ao m ar a0 own j) nd ?_
     rintro v q ⟨rfl,S⟩ cy
     refine aJ ?_
     simp only[*,go_sem,-h]
     repeat refine af hJ ?_
     refine ax ?_
     simp only[*,go_sem,-h]
     refine ⟨b,q,Le.refl _,?_⟩
     first|exact ⟨rfl,S,fun _=>by unfold eR;rw[if_pos rfl]⟩|exact ⟨S,fun _=>by unfold eR;rw[if_pos rfl]⟩
  .rw[if_neg hi] at h
   have cS:(i==(u0.av.length:Int))=false:=by simpa using hi
   repeat refine af hJ ?_
   refine dM hJ (by simp only[*,go_sem,-h]) ?_
   refine aI hJ ?_
   cases f:bf u0.av i with
   |none=>rw[f] at h;exact (qx h).elim
   |some e=>
    rw[f] at h
    simp only at h
    have a2:=f
    obtain ⟨c0,da,T⟩:=cG f
    obtain ⟨a3,cse,a4,a5,t⟩:=Y _ _ T
    obtain rfl:cse=e.cells:=a5
    cases a4
    have a6:=t 0 _ rfl;simp only[go_sem] at a6
    have a7:=t 1 _ rfl;simp only[go_sem] at a7
    have a8:=t 2 _ rfl;simp only[go_sem] at a8
    clear t T
    repeat refine af hJ ?_
    refine ak hJ ?_
    simp only[*,go_sem,-h]
    repeat refine af hJ ?_
    refine aO hJ ?_
    refine bU hJ [6,7,31,32,33,34,35,36,37,38,39,40,41,42,43,44,45,46,47,48,49,50] (fun m a9 F'=>∃(n:Int) (h:aW) (s:σ) (own:List (Nat×Obj)),e7 step (jm (eR u0 fuel (IntKind.i64.wrap (i+1))) i e.high.high m n h).1 s=some (c,s')/\
     (c=true->(jm (eR u0 fuel (IntKind.i64.wrap (i+1))) i e.high.high m n h).2=(eR u0 (fuel+1) i b).2)/\F'=⟨ro,oh u0 (.slice L u0.az.length M) (.slice N u0.props.length O) (.slice (some a3) u0.av.length P) (.slice Q u0.told.length R) y b2 b3 b4 b5 h++own⟩/\I s own/\slot a9 7= .int .i64 n) 100 ?_ ?_
    .have ba:(eR u0 (fuel+1) i b).2=(jm (eR u0 fuel (IntKind.i64.wrap (i+1))) i e.high.high 100 e.high.low b).2:=by
      rw[eR,if_neg hi,a2]
     exact ⟨e.high.low,b,s,own,h,fun _=>ba.symm,rfl,j,by simp only[*,go_sem,-h]⟩
    .rintro m k F' g ⟨n,o,s1,B,a,d,rfl,p,db⟩
     clear h j
     have dd:sz k=51:=by rw[g.size];simp only[*,go_sem]
     have kd:k.defers=[]:=by rw[g.defers];simp only[*,go_sem]
     have df:slot k 0= .int .i64 i:=by rw[g.dZ 0 (by decide)];simp only[*,go_sem]
     have dk:slot k 1= .pointer (some ⟨b2,0,none⟩):=by rw[g.dZ 1 (by decide)];simp only[*,go_sem]
     have dp:slot k 2= .pointer (some ⟨b4,0,none⟩):=by rw[g.dZ 2 (by decide)];simp only[*,go_sem]
     have dq:slot k 3= .pointer (some ⟨b3,0,none⟩):=by rw[g.dZ 3 (by decide)];simp only[*,go_sem]
     have ds:slot k 4= .pointer (some ⟨b5,0,none⟩):=by rw[g.dZ 4 (by decide)];simp only[*,go_sem]
     clear g ab k1 ad ae al Z hd
     obtain _|m:=m
     .exact (qx a).elim
     unfold jm at a d
     repeat refine af hJ ?_
     refine ak hJ ?_
     simp only[oh,go_sem, *,-a]
     repeat refine af hJ ?_
     by_cases u:n<=e.high.high
     .rw[if_pos u] at a
      rw[if_pos u] at d
      repeat refine af hJ ?_
      refine dU hJ (by simp only[*,go_sem,-a]) ?_
      refine aI hJ ?_
      cases C:o.setAt i n with
      |none=>rw[C] at a;exact (qx a).elim
      |some dt=>
       rw[C] at a d
       simp only at a d
       repeat refine af hJ ?_
       refine aO hJ ?_
       repeat refine af hJ ?_
       refine aC hJ fun nd=>?_
       repeat refine af hJ ?_
       refine ak hJ ?_
       rcases aW.Hq C with ⟨D,rfl⟩|⟨D,rfl⟩|⟨D,rfl⟩<;>subst D<;>
       (simp only[*,go_sem,-a]
        repeat refine af hJ ?_
        refine ak hJ ?_
        simp only[*,go_sem,-a]
        have bb:=Hr a
        clear a
        rcases bb with ⟨s2,E,a⟩|⟨E,rfl⟩
        .refine cW.less hJ ((ih _ _ _ _ _ E _ J hJ B p).mono ?_)
         rintro v F' ⟨U,V,hle,rfl,l,w⟩
         have w:=w rfl
         subst w
         refine ⟨_,hle,aJ ?_⟩
         simp only[*,go_sem,-a]
         repeat refine af hJ ?_
         refine dM hJ (by simp only[*,go_sem,-a]) ?_
         refine aI hJ ?_
         repeat refine af hJ ?_
         refine ak hJ ?_
         simp only[*,go_sem,-a]
         exact ⟨m,Nat.lt_succ_self m,_,Le.refl _,_,_,_,_,a,d,rfl,l,by simp only[*,go_sem,-a]⟩
        .refine cW.less hJ ((ih _ _ _ _ _ E _ J hJ B p).mono ?_)
         rintro v F' ⟨U,V,hle,rfl,l,w⟩
         refine ⟨_,hle,aJ ?_⟩
         simp only[*,go_sem]
         repeat refine af hJ ?_
         refine dU hJ (by simp only[*,go_sem]) ?_
         repeat refine af hJ ?_
         refine ak hJ ?_
         simp only[*,go_sem]
         repeat refine af hJ ?_
         refine ax ?_
         simp only[*,go_sem]
         refine ⟨U,V,Le.refl _,?_⟩
         first|exact ⟨rfl,l,fun h=>by cases h⟩|exact ⟨l,fun h=>by cases h⟩|exact l|exact ⟨l,trivial⟩)
     .rw[if_neg u] at a
      rw[if_neg u] at d
      simp only[e7,Option.some.injEq,Prod.mk.injEq] at a
      obtain ⟨rfl,rfl⟩:=a
      repeat refine af hJ ?_
      refine dM hJ (by simp only[*,go_sem]) ?_
      refine bO ?_
      simp only[go_sem]
      repeat refine af hJ ?_
      refine ak hJ ?_
      simp only[*,go_sem]
      repeat refine af hJ ?_
      refine ax ?_
      simp only[*,go_sem]
      refine ⟨o,B,Le.refl _,?_⟩
      first|exact ⟨rfl,p,fun h=>d h⟩|exact ⟨p,fun h=>d h⟩|exact ⟨p,d rfl⟩
theorem s0 (u0:aj){s1 s2 j k:Value}(e:aA e8 ro s1 u0.az)(f:aA eF ro s2 u0.props)(g:aA eG ro j u0.av)(h:aA di ro k u0.told):
  mH Tryz.prog 107 #[.agg #[.int .i64 u0.bH,.int .i64 u0.bM,.int .i64 u0.aV.num,.int .i64 u0.aV.den,s1,s2,j,k]] #[] aW.v (mV u0) ro:=by
 refine ⟨by simp only[go_sem],fun aM b σ step I r t u l s c s' a main J hJ own m=>?_⟩
 replace e:=e.mono b
 replace f:=f.mono b
 replace g:=g.mono b
 replace h:=h.mono b
 refine cW.go hJ Tryz.func107 rfl Tryz.ntmps107 Tryz.results107 (by simp) fun A w hd hs=>?_
 have x:=hs 0
 have k1:=hs 1
 clear hs
 repeat refine af hJ ?_
 refine ak hJ ?_
 try simp only[*,go_sem,-a]
 intro b2 f2;have r2:=eK f2;have n2:=fI f2
 intro b3 f3;have r3:=eK f3;have n3:=fI f3
 simp only[au] at n3
 try simp only[*,go_sem,-a]
 repeat refine af hJ ?_
 refine ak hJ ?_
 try simp only[*,go_sem,-a]
 intro b4 f4;have n:=eK f4;have i:=fI f4
 simp only[au] at i
 try simp only[*,go_sem,-a]
 repeat refine af hJ ?_
 refine ak hJ ?_
 try simp only[*,go_sem,-a]
 intro b5 f5;have o:=eK f5;have d:=fI f5
 simp only[au] at d
 try simp only[*,go_sem,-a]
 repeat refine af hJ ?_
 refine ak hJ ?_
 try simp only[*,go_sem,-a]
 repeat refine af hJ ?_
 refine ak hJ ?_
 try simp only[*,go_sem,-a]
 refine cW.less hJ ((Hs u0 e f g h l (b2:=b2) (b3:=b3) (b4:=b4) (b5:=b5) d.1 d.2.1 d.2.2.1 i.1 i.2.1 n3.1 o n r3 r2 5 0 ⟨0,0,0⟩ s c s' a main J hJ own m).mono ?_)
 rintro v F' ⟨y,p,hle,rfl,q,_⟩
 exact ⟨_,hle,p,Le.sub (List.sublist_append_right _ _),q⟩
end
def om (u0:List bG):Option (List bG):=if u0.length<=1000000 then some u0 else none
theorem wN {ro:Addr->Option Value}(u0:List bG){s1:Value}(b:aA di ro s1 u0){x:List bG}(h:om u0=some x):aD Tryz.prog 96 #[s1] ⟨ro,[]⟩ (fun v G=>∃a,aP di ro 54 v x a/\Le ⟨ro,a⟩ G):=by
 obtain ⟨ad,cap,rfl,le,d,e⟩:=id b;unfold om at h;split at h
 case isFalse=>cases h
 rename_i hlen;obtain rfl:=Option.some.inj h;clear h;refine aD.go Tryz.func96 rfl Tryz.ntmps96 Tryz.results96 (by simp) fun main J hJ A f hd hs=>?_;have g:=hs 0;clear hs;refine ah hJ ?_;simp only[*,go_sem];cases ad with
 |none=>
  have hu:u0=[]:=by
   cases u0 with
   |nil=>rfl
   |cons x l=>obtain ⟨p,cs,c,_⟩:=e 0 x rfl;cases c
  subst hu;first|refine ah hJ ?_|refine af hJ (ah hJ ?_)
  simp only[*,go_sem];refine dU hJ (by simp only[*,go_sem]) ?_;refine ah hJ ?_;simp only[*,go_sem];refine ax ?_;simp only[*,go_sem];exact ⟨[],aP.nil _ _ _,Le.refl _⟩
 |some p=>
  first|refine ah hJ ?_|refine af hJ (ah hJ ?_)
  simp only[*,go_sem];refine dM hJ (by simp only[*,go_sem]) ?_;refine aI hJ ?_;refine ah hJ ?_;simp only[*,go_sem];intro i f1;have r1:=eK f1;try simp only[*,go_sem]
  refine qc r1 trivial rfl hlen b rfl rfl ez ez iE iG rfl iF (by decide) (by decide) (fun v a hg j=>aJ ?_);simp only[*,go_sem];refine ax ?_;simp only[*,go_sem];exact ⟨a,hg,Le.refl _⟩
def oo (u0:List bL):Option (List bL):=if u0.length<=1000000 then some u0 else none
theorem Bx {ro:Addr->Option Value}(u0:List bL){s1:Value}(b:aA eG ro s1 u0){x:List bL}(h:oo u0=some x):aD Tryz.prog 104 #[s1] ⟨ro,[]⟩ (fun v G=>∃a,aP eG ro 67 v x a/\Le ⟨ro,a⟩ G):=by
 obtain ⟨ad,cap,rfl,le,d,e⟩:=id b;unfold oo at h;split at h
 case isFalse=>cases h
 rename_i hlen;obtain rfl:=Option.some.inj h;clear h;refine aD.go Tryz.func104 rfl Tryz.ntmps104 Tryz.results104 (by simp) fun main J hJ A f hd hs=>?_;have g:=hs 0;clear hs;refine ah hJ ?_;simp only[*,go_sem];cases ad with
 |none=>
  have hu:u0=[]:=by
   cases u0 with
   |nil=>rfl
   |cons x l=>obtain ⟨p,cs,c,_⟩:=e 0 x rfl;cases c
  subst hu;first|refine ah hJ ?_|refine af hJ (ah hJ ?_)
  simp only[*,go_sem];refine dU hJ (by simp only[*,go_sem]) ?_;refine ah hJ ?_;simp only[*,go_sem];refine ax ?_;simp only[*,go_sem];exact ⟨[],aP.nil _ _ _,Le.refl _⟩
 |some p=>
  first|refine ah hJ ?_|refine af hJ (ah hJ ?_)
  simp only[*,go_sem];refine dM hJ (by simp only[*,go_sem]) ?_;refine aI hJ ?_;refine ah hJ ?_;simp only[*,go_sem];intro i f1;have r1:=eK f1;try simp only[*,go_sem]
  refine qc r1 trivial rfl hlen b rfl rfl si si AK AM rfl AL (by decide) (by decide) (fun v a hg j=>aJ ?_);simp only[*,go_sem];refine ax ?_;simp only[*,go_sem];exact ⟨a,hg,Le.refl _⟩
def s3 (u0:List bT):Option (List bT):=if u0.length<=1000000 then some u0 else none
theorem Ht {ro:Addr->Option Value}(u0:List bT){s1:Value}(b:aA e8 ro s1 u0){x:List bT}(h:s3 u0=some x):aD Tryz.prog 151 #[s1] ⟨ro,[]⟩ (fun v G=>∃a,aP e8 ro 44 v x a/\Le ⟨ro,a⟩ G):=by
 obtain ⟨ad,cap,rfl,le,d,e⟩:=id b;unfold s3 at h;split at h
 case isFalse=>cases h
 rename_i hlen;obtain rfl:=Option.some.inj h;clear h;refine aD.go Tryz.func151 rfl Tryz.ntmps151 Tryz.results151 (by simp) fun main J hJ A f hd hs=>?_;have g:=hs 0;clear hs;refine ah hJ ?_;simp only[*,go_sem];cases ad with
 |none=>
  have hu:u0=[]:=by
   cases u0 with
   |nil=>rfl
   |cons x l=>obtain ⟨p,cs,c,_⟩:=e 0 x rfl;cases c
  subst hu;first|refine ah hJ ?_|refine af hJ (ah hJ ?_)
  simp only[*,go_sem];refine dU hJ (by simp only[*,go_sem]) ?_;refine ah hJ ?_;simp only[*,go_sem];refine ax ?_;simp only[*,go_sem];exact ⟨[],aP.nil _ _ _,Le.refl _⟩
 |some p=>
  first|refine ah hJ ?_|refine af hJ (ah hJ ?_)
  simp only[*,go_sem];refine dM hJ (by simp only[*,go_sem]) ?_;refine aI hJ ?_;refine ah hJ ?_;simp only[*,go_sem];intro i f1;have r1:=eK f1;try simp only[*,go_sem]
  refine qc r1 trivial rfl hlen b rfl rfl AI AI FK AJ rfl FL (by decide) (by decide) (fun v a hg j=>aJ ?_);simp only[*,go_sem];refine ax ?_;simp only[*,go_sem];exact ⟨a,hg,Le.refl _⟩
def qy (u0:List bX):Option (List bX):=if u0.length<=1000000 then some u0 else none
theorem By {ro:Addr->Option Value}(u0:List bX){s1:Value}(b:aA eF ro s1 u0){x:List bX}(h:qy u0=some x):aD Tryz.prog 152 #[s1] ⟨ro,[]⟩ (fun v G=>∃a,aP eF ro 70 v x a/\Le ⟨ro,a⟩ G):=by
 obtain ⟨ad,cap,rfl,le,d,e⟩:=id b;unfold qy at h;split at h
 case isFalse=>cases h
 rename_i hlen;obtain rfl:=Option.some.inj h;clear h;refine aD.go Tryz.func152 rfl Tryz.ntmps152 Tryz.results152 (by simp) fun main J hJ A f hd hs=>?_;have g:=hs 0;clear hs;refine ah hJ ?_;simp only[*,go_sem];cases ad with
 |none=>
  have hu:u0=[]:=by
   cases u0 with
   |nil=>rfl
   |cons x l=>obtain ⟨p,cs,c,_⟩:=e 0 x rfl;cases c
  subst hu;first|refine ah hJ ?_|refine af hJ (ah hJ ?_)
  simp only[*,go_sem];refine dU hJ (by simp only[*,go_sem]) ?_;refine ah hJ ?_;simp only[*,go_sem];refine ax ?_;simp only[*,go_sem];exact ⟨[],aP.nil _ _ _,Le.refl _⟩
 |some p=>
  first|refine ah hJ ?_|refine af hJ (ah hJ ?_)
  simp only[*,go_sem];refine dM hJ (by simp only[*,go_sem]) ?_;refine aI hJ ?_;refine ah hJ ?_;simp only[*,go_sem];intro i f1;have r1:=eK f1;try simp only[*,go_sem]
  refine qc r1 trivial rfl hlen b rfl rfl lu lu so su rfl sr (by decide) (by decide) (fun v a hg j=>aJ ?_);simp only[*,go_sem];refine ax ?_;simp only[*,go_sem];exact ⟨a,hg,Le.refl _⟩
def s4 (u0:List Int):Option (List Int):=if u0.length<=1000000 then some u0 else none
theorem Bz {ro:Addr->Option Value}(u0:List Int){s1:Value}(b:aA rI ro s1 u0){x:List Int}(h:s4 u0=some x):aD Tryz.prog 150 #[s1] ⟨ro,[]⟩ (fun v G=>∃a,aP rI ro 3 v x a/\Le ⟨ro,a⟩ G):=by
 obtain ⟨ad,cap,rfl,le,d,e⟩:=id b;unfold s4 at h;split at h
 case isFalse=>cases h
 rename_i hlen;obtain rfl:=Option.some.inj h;clear h;refine aD.go Tryz.func150 rfl Tryz.ntmps150 Tryz.results150 (by simp) fun main J hJ A f hd hs=>?_;have g:=hs 0;clear hs;refine ah hJ ?_;simp only[*,go_sem];cases ad with
 |none=>
  have hu:u0=[]:=by
   cases u0 with
   |nil=>rfl
   |cons x l=>obtain ⟨p,cs,c,_⟩:=e 0 x rfl;cases c
  subst hu;first|refine ah hJ ?_|refine af hJ (ah hJ ?_)
  simp only[*,go_sem];refine dU hJ (by simp only[*,go_sem]) ?_;refine ah hJ ?_;simp only[*,go_sem];refine ax ?_;simp only[*,go_sem];exact ⟨[],aP.nil _ _ _,Le.refl _⟩
 |some p=>
  first|refine ah hJ ?_|refine af hJ (ah hJ ?_)
  simp only[*,go_sem];refine dM hJ (by simp only[*,go_sem]) ?_;refine aI hJ ?_;refine ah hJ ?_;simp only[*,go_sem];intro i f1;have r1:=eK f1;try simp only[*,go_sem]
  refine qc r1 trivial rfl hlen b rfl rfl fQ fQ lg lq rfl lp (by decide) (by decide) (fun v a hg j=>aJ ?_);simp only[*,go_sem];refine ax ?_;simp only[*,go_sem];exact ⟨a,hg,Le.refl _⟩
def s5 (u0:aj)(i43:Nat)(b:(aj->Option Int))(st:Int):Option (Fl Int (aj×Int)):=
 ag (b u0) fun a=>cond ((a != 0)) (some (.rt ((⟨0,0,(⟨0,0⟩:an),([]:(List bT)),([]:(List bX)),([]:(List bL)),([]:(List bG))⟩:aj),a))) (some (.nx st))
def eZ (u0:aj)(b:(List (aj->Option Int))):Option (aj×Int):=
 ag (dH u0) fun a=>cond ((a != 0)) (some ((⟨0,0,(⟨0,0⟩:an),([]:(List bT)),([]:(List bX)),([]:(List bL)),([]:(List bG))⟩:aj),a)) (ag (bJ (s5 u0) 0 b 0) fun o=>aF o (fun c=>some (u0,0)) (fun _ _=>none) (fun r=>some r))
theorem kL {ro:Addr->Option Value}(D:de ro)(u0:aj){s1 f g i:Value}(b:bN ro u0 s1 f g i)(c:(List (aj->Option Int))){o:Value}(q:aA (c8) ro o c){r:(aj×Int)}(h:eZ u0 c=some r):eM Tryz.prog 101 #[bv u0 s1 f g i,o] ro (fun v aM=>∃s w1 w2 w3,v= .tuple #[bv r.1 s w1 w2 w3,.int .i64 r.2]/\bN aM r.1 s w1 w2 w3):=by
 obtain ⟨d31,ae,rfl,al,E,-⟩:=id q;unfold eZ at h;have F:=b.oc;simp only[bC] at F;refine aD.go Tryz.func101 rfl Tryz.ntmps101 Tryz.results101 (by simp) fun main J hJ A G hd hs=>?_;have H:=hs 0;have k1:=hs 1;clear hs;refine ah hJ ?_;simp only[*,go_sem];refine ay fun I ao K=>?_;try simp only[au] at K
 refine ay fun L ar M=>?_;try simp only[au] at M
 refine af hJ (ah hJ ?_);revert h;refine bS fun a0 N h=>?_;simp only[*,go_sem];refine aU hJ _ (Bt (D.mono aN) u0 (b.e.mono aN) (b.p.mono aN) (b.y.mono aN) (b.t.mono aN) N) (aJ ?_);simp only[*,go_sem];refine ah hJ ?_;simp only[*,go_sem];revert h;refine aT hJ (fun O h=>?_) fun O h=>?_
 .obtain rfl:=sI h;refine ah hJ ?_;simp only[*,go_sem];refine ax ?_;simp only[*,go_sem];exact ⟨_,Ext.refl _,Le.sub (List.nil_sublist _),_,_,_,_,rfl,⟨aA.nil _ _,aA.nil _ _,aA.nil _ _,aA.nil _ _⟩⟩
 refine aI hJ (af hJ ?_);refine ak hJ ?_;simp only[*,go_sem];refine ay fun P a2 Q=>?_;try simp only[au] at Q
 refine af hJ (ah hJ ?_);simp only[*,go_sem];refine aO hJ ?_;revert h;refine bS fun R d u=>?_;refine bU hJ (rg 21 12 [5,9,10]) (fun m w F'=>∃(i43:Nat) (j:Int),m=c.length - i43/\i43<=c.length/\bJ (s5 u0) i43 (c.drop i43) j=some R/\F'=⟨ro,(P,bl u0 s1 f g i)::(L,bz 109)::(I,bk u0 s1 f g i)::[]⟩/\slot w 21= .int .i64 (i43:Int)/\slot w 5= .int .i64 j) c.length ?_ ?_
 .refine ⟨0,0,(Nat.sub_zero _).symm,Nat.zero_le _,d,rfl,?_⟩;simp only[*,go_sem]
 rintro a3 a4 F' z ⟨i43,j,rfl,a5,d,rfl,a6,a7⟩;obtain ⟨S,T,U⟩:=z.pick [4,7,19,20] (by decide);simp only[*,go_sem] at S T U;clear z G hd H k1;refine ah hJ ?_;simp only[*,go_sem];refine af hJ ?_;rcases Nat.lt_or_ge i43 c.length with V|B
 .refine b8 hJ ?_;refine aI hJ ?_;obtain ⟨a8,k⟩:∃x,c[i43]?=some x:=⟨_,List.getElem?_eq_getElem V⟩
  rw[dg k] at d;revert d;refine bS fun a9 h l=>?_;unfold s5 at h;try dsimp only at h
  obtain ⟨ba,bb,W,X,C⟩:=q.el _ _ k;obtain ⟨bc,bd,bj,rfl,Y⟩:=X;cases W;have Z:=C 0 _ rfl;simp only[go_sem] at Z;clear C k;refine af hJ (aO hJ (af hJ ?_));refine ak hJ ?_;simp only[*,go_sem];refine ah hJ ?_;revert h;refine bS fun bm ab h=>?_;simp only[*,go_sem];refine aU hJ _ (Y.2 _ (fun a v h=>aN a v h) u0 _ _ _ _ _ (b.e.mono aN) (b.p.mono aN) (b.y.mono aN) (b.t.mono aN) ab) (aJ ?_);simp only[*,go_sem];refine ah hJ ?_;simp only[*,go_sem];revert h;refine aT hJ (fun ad h=>?_) fun ad h=>?_
  .obtain rfl:=sI h;refine ah hJ ?_;simp only[*,go_sem];obtain rfl:=sI l;clear l;have h:=u;dsimp only[aF] at h;obtain rfl:=sI h;refine ax ?_;simp only[*,go_sem];exact ⟨_,Ext.refl _,Le.sub (List.nil_sublist _),_,_,_,_,rfl,⟨aA.nil _ _,aA.nil _ _,aA.nil _ _,aA.nil _ _⟩⟩
  obtain rfl:=sI h;refine aI hJ ?_;have bo:=cv (n:=i43) (by have:=E;omega);refine ak hJ ?_;simp only[*,go_sem];refine ⟨c.length - (i43+1),by omega,_,Le.sub (List.Sublist.refl _),i43+1,j,rfl,by omega,l,rfl,?_⟩;simp only[*,go_sem]
 have br:=Nat.not_lt.2 B;refine b6 hJ ?_;rw[List.drop_eq_nil_of_le B] at d;obtain rfl:=sI d;clear d;have h:=u;dsimp only[aF] at h;obtain rfl:=sI h;refine bO ?_;simp only[go_sem];refine ah hJ ?_;simp only[*,go_sem];refine ax ?_;simp only[*,go_sem];exact ⟨_,Ext.refl _,Le.sub (List.nil_sublist _),_,_,_,_,rfl,b⟩
def wO (u0:aj)(b:Int):Option (an×Int):=
 ag (eZ u0 ([(n7 b)])) fun a=>cond ((a.2 != 0)) (some ((⟨0,0⟩:an),a.2)) (ag (jl a.1 b) fun c=>some (c,0))
theorem Hu {ro:Addr->Option Value}(f:de ro)(u0:aj){s1 g i j:Value}(k:bN ro u0 s1 g i j)(a:Int){r:(an×Int)}(h:wO u0 a=some r):aD Tryz.prog 61 #[bv u0 s1 g i j,.int .i64 a] ⟨ro,[]⟩ (fun v _=>v= .tuple #[r.1.v,.int .i64 r.2]):=by
 unfold wO at h;refine aD.go Tryz.func61 rfl Tryz.ntmps61 Tryz.results61 (by simp) fun main J hJ A V hd hs=>?_;have W:=hs 0;have k1:=hs 1;clear hs;refine ah hJ ?_;simp only[*,go_sem];refine ay fun B C D=>?_;try simp only[au] at D
 refine ay fun E F G=>?_;try simp only[au] at G
 refine af hJ ?_;refine aC hJ fun H=>?_;refine ak hJ ?_;revert h;refine bS fun I K h=>?_;simp only[*,go_sem];refine ay fun c m n=>?_;have q:=aQ.cons n H;try simp only[au] at n
 obtain ⟨l,s,u⟩:=fS (b:=c) (o:=(.cells #[.func (.func 133) #[.int .i64 a] #[]] 133)) [] ((E,rt 0 0)::(B,bk u0 s1 g i j)::[]) q m (aE.cons F (aE.cons C (aE.nil _)));have w:aA (c8) (bV ro c (.cells #[.func (.func 133) #[.int .i64 a] #[]] 133)) (.slice (some ⟨c,0,none⟩) 1 1) [(n7 a)]:=(aA.one (r:=(c8)) (e:=133) (cs:=#[.func (.func 133) #[.int .i64 a] #[]]) (x:=(n7 a)) (own:=[(c,.cells #[.func (.func 133) #[.int .i64 a] #[]] 133)]) m (by simp[lk]) ⟨133,#[.int .i64 a],#[],rfl,⟨by simp only[go_sem],fun X Y L _ _ _ _ _ M N O P h=>by simp only[go_sem];exact GY a L ⟨M,N,O,P⟩ h⟩⟩)
 generalize bV ro c (.cells #[.func (.func 133) #[.int .i64 a] #[]] 133)=Z at w s l u;refine g6 hJ u ?_;replace k:=k.mono l;replace f:=f.mono l;simp only[bu] at s;have Q:=aQ.tl q;refine b9 hJ _ (kL f u0 k ([(n7 a)]) w K) fun v ab ad R S=>?_;obtain ⟨ae,al,ao,ar,rfl,d⟩:=S;simp only[bu] at R;obtain ⟨d41,a0,rfl,a2,a3,-⟩:=id d.e;obtain ⟨d48,a4,rfl,a5,a6,-⟩:=id d.p;obtain ⟨d55,a7,rfl,a8,a9,-⟩:=id d.y;obtain ⟨d62,ba,rfl,bb,bc,-⟩:=id d.t;refine aJ ?_;simp only[*,go_sem];refine ay fun bd bj z=>?_;have bl:=aQ.cons z Q;try simp only[au] at z
 refine af hJ (ah hJ ?_);simp only[*,go_sem];revert h;refine aT hJ (fun T h=>?_) fun T h=>?_
 .obtain rfl:=sI h;refine ah hJ ?_;simp only[*,go_sem];refine ax ?_;simp only[*,go_sem]
 refine aI hJ (af hJ ?_);refine ak hJ ?_;revert h;refine bS fun bm U h=>?_;obtain rfl:=sI h;simp only[*,go_sem];refine aU hJ _ (Bv I.1 (d.mono aN) a U) (aJ ?_);simp only[*,go_sem];refine ax ?_;simp only[*,go_sem]
def wP (u0:aj)(b:bn):Option (Int×an×Int):=
 ag (eZ u0 ([(fq b)])) fun a=>cond ((a.2 != 0)) (some (0,(⟨0,0⟩:an),a.2)) (ag (lI a.1 b) fun c=>some (c.at_,c.high,0))
theorem Hv {ro:Addr->Option Value}(k:de ro)(u0:aj){s1 f g i:Value}(j:bN ro u0 s1 f g i)(a:bn){r:(Int×an×Int)}(h:wP u0 a=some r):aD Tryz.prog 62 #[bv u0 s1 f g i,.agg #[.int .i64 a.back,.int .i64 a.high]] ⟨ro,[]⟩ (fun v _=>v= .tuple #[.int .i64 r.1,r.2.1.v,.int .i64 r.2.2]):=by
 unfold wP at h;have D:=j.oc;simp only[bC] at D;refine aD.go Tryz.func62 rfl Tryz.ntmps62 Tryz.results62 (by simp) fun main J hJ A a2 hd hs=>?_;have a3:=hs 0;have k1:=hs 1;clear hs;refine ah hJ ?_;simp only[*,go_sem];refine ay fun m E F=>?_;try simp only[au] at F
 refine ay fun n G H=>?_;try simp only[au] at H
 refine ay fun I K L=>?_;try simp only[au] at L
 refine af hJ ?_;refine aC hJ fun M=>?_;refine ak hJ ?_;revert h;refine bS fun p N h=>?_;simp only[*,go_sem];refine ay fun d q s=>?_;have t:=aQ.cons s M;try simp only[au] at s
 obtain ⟨l,u,w⟩:=fS (b:=d) (o:=(.cells #[.func (.func 105) #[.agg #[.int .i64 a.back,.int .i64 a.high]] #[]] 133)) [] ((I,rt 0 0)::(n,.cells #[.int .i64 a.back,.int .i64 a.high] 73)::(m,bk u0 s1 f g i)::[]) t q (aE.cons K (aE.cons G (aE.cons E (aE.nil _))));have y:aA (c8) (bV ro d (.cells #[.func (.func 105) #[.agg #[.int .i64 a.back,.int .i64 a.high]] #[]] 133)) (.slice (some ⟨d,0,none⟩) 1 1) [(fq a)]:=(aA.one (r:=(c8)) (e:=133) (cs:=#[.func (.func 105) #[.agg #[.int .i64 a.back,.int .i64 a.high]] #[]]) (x:=(fq a)) (own:=[(d,.cells #[.func (.func 105) #[.agg #[.int .i64 a.back,.int .i64 a.high]] #[]] 133)]) q (by simp[lk]) ⟨105,#[.agg #[.int .i64 a.back,.int .i64 a.high]],#[],rfl,⟨by simp only[go_sem],fun a4 a5 O _ _ _ _ _ P Q R S h=>by simp only[go_sem];exact sJ a O ⟨P,Q,R,S⟩ h⟩⟩)
 generalize bV ro d (.cells #[.func (.func 105) #[.agg #[.int .i64 a.back,.int .i64 a.high]] #[]] 133)=a6 at y u l w;refine g6 hJ w ?_;replace j:=j.mono l;replace k:=k.mono l;simp only[bu] at u;have T:=aQ.tl t;refine b9 hJ _ (kL k u0 j ([(fq a)]) y N) fun v U a7 V W=>?_;obtain ⟨X,Y,Z,ab,rfl,z⟩:=W;have ad:=z.oc;simp only[bC] at ad;simp only[bu] at V;refine aJ ?_;simp only[*,go_sem];refine ay fun ae a8 B=>?_;have al:=aQ.cons B T;try simp only[au] at B
 refine af hJ (ah hJ ?_);simp only[*,go_sem];revert h;refine aT hJ (fun ao h=>?_) fun ao h=>?_
 .obtain rfl:=sI h;refine ah hJ ?_;simp only[*,go_sem];refine ax ?_;simp only[*,go_sem]
 refine aI hJ (af hJ ?_);refine ak hJ ?_;revert h;refine bS fun c ar h=>?_;obtain rfl:=sI h;simp only[*,go_sem];refine aU hJ _ (sU p.1 (z.mono aN) a ar) (aJ ?_);simp only[*,go_sem];refine ay fun a0 a9 C=>?_;have ba:=aQ.cons C al;try simp only[au] at C
 refine af hJ ?_;refine fl hJ mixed 5 ⟨U,[(a0,.cells #[.int .i64 c.spot.aL,.int .i64 c.spot.high.num,.int .i64 c.spot.high.den,.int .i64 c.at_,.int .i64 c.high.num,.int .i64 c.high.den] 122),(ae,bl p.1 X Y Z ab),(n,.cells #[.int .i64 a.back,.int .i64 a.high] 73),(m,bk u0 s1 f g i)]⟩ (by simp only[*,go_sem]) (by kernel_rfl) ?_;simp only[*,go_sem];refine ax ?_;simp only[*,go_sem]
def wQ (u0:aj)(b:bn):Option (an×Int):=
 ag (eZ u0 ([(fq b)])) fun a=>cond ((a.2 != 0)) (some ((⟨0,0⟩:an),a.2)) (ag (mQ a.1 b) fun c=>some (c,0))
theorem Hw {ro:Addr->Option Value}(f:de ro)(u0:aj){s1 g i j:Value}(k:bN ro u0 s1 g i j)(a:bn){r:(an×Int)}(h:wQ u0 a=some r):aD Tryz.prog 52 #[bv u0 s1 g i j,.agg #[.int .i64 a.back,.int .i64 a.high]] ⟨ro,[]⟩ (fun v _=>v= .tuple #[r.1.v,.int .i64 r.2]):=by
 unfold wQ at h;refine aD.go Tryz.func52 rfl Tryz.ntmps52 Tryz.results52 (by simp) fun main J hJ A Y hd hs=>?_;have Z:=hs 0;have k1:=hs 1;clear hs;refine ah hJ ?_;simp only[*,go_sem];refine ay fun B C D=>?_;try simp only[au] at D
 refine ay fun E F G=>?_;try simp only[au] at G
 refine ay fun H I K=>?_;try simp only[au] at K
 refine af hJ ?_;refine aC hJ fun L=>?_;refine ak hJ ?_;revert h;refine bS fun M N h=>?_;simp only[*,go_sem];refine ay fun c m n=>?_;have q:=aQ.cons n L;try simp only[au] at n
 obtain ⟨l,s,u⟩:=fS (b:=c) (o:=(.cells #[.func (.func 105) #[.agg #[.int .i64 a.back,.int .i64 a.high]] #[]] 133)) [] ((H,rt 0 0)::(E,.cells #[.int .i64 a.back,.int .i64 a.high] 73)::(B,bk u0 s1 g i j)::[]) q m (aE.cons I (aE.cons F (aE.cons C (aE.nil _))));have w:aA (c8) (bV ro c (.cells #[.func (.func 105) #[.agg #[.int .i64 a.back,.int .i64 a.high]] #[]] 133)) (.slice (some ⟨c,0,none⟩) 1 1) [(fq a)]:=(aA.one (r:=(c8)) (e:=133) (cs:=#[.func (.func 105) #[.agg #[.int .i64 a.back,.int .i64 a.high]] #[]]) (x:=(fq a)) (own:=[(c,.cells #[.func (.func 105) #[.agg #[.int .i64 a.back,.int .i64 a.high]] #[]] 133)]) m (by simp[lk]) ⟨105,#[.agg #[.int .i64 a.back,.int .i64 a.high]],#[],rfl,⟨by simp only[go_sem],fun ab ad O _ _ _ _ _ P Q R S h=>by simp only[go_sem];exact sJ a O ⟨P,Q,R,S⟩ h⟩⟩)
 generalize bV ro c (.cells #[.func (.func 105) #[.agg #[.int .i64 a.back,.int .i64 a.high]] #[]] 133)=ae at w s l u;refine g6 hJ u ?_;replace k:=k.mono l;replace f:=f.mono l;simp only[bu] at s;have T:=aQ.tl q;refine b9 hJ _ (kL f u0 k ([(fq a)]) w N) fun v al ao U V=>?_;obtain ⟨ar,a0,a2,a3,rfl,d⟩:=V;simp only[bu] at U;obtain ⟨d42,a4,rfl,a5,a6,-⟩:=id d.e;obtain ⟨d49,a7,rfl,a8,a9,-⟩:=id d.p;obtain ⟨d56,ba,rfl,bb,bc,-⟩:=id d.y;obtain ⟨d63,bd,rfl,bj,bl,-⟩:=id d.t;refine aJ ?_;simp only[*,go_sem];refine ay fun bm bo z=>?_;have br:=aQ.cons z T;try simp only[au] at z
 refine af hJ (ah hJ ?_);simp only[*,go_sem];revert h;refine aT hJ (fun W h=>?_) fun W h=>?_
 .obtain rfl:=sI h;refine ah hJ ?_;simp only[*,go_sem];refine ax ?_;simp only[*,go_sem]
 refine aI hJ (af hJ ?_);refine ak hJ ?_;revert h;refine bS fun bs X h=>?_;obtain rfl:=sI h;simp only[*,go_sem];refine aU hJ _ (Bu M.1 (d.mono aN) a X) (aJ ?_);simp only[*,go_sem];refine ax ?_;simp only[*,go_sem]
def wR (u0:aj)(c:bn):Option (an×Bool×Int):=
 ag (eZ u0 ([(fq c)])) fun b=>cond ((b.2 != 0)) (some ((⟨0,0⟩:an),false,b.2)) (ag (jQ b.1 c) fun a=>cond (((a.length:Int)==0)) (some ((⟨0,0⟩:an),false,0)) (ag (bf a 0) fun d=>ag (jf a 1 (a.length:Int)) fun e=>ag (mL jj d e) fun f=>some (f.high,true,0)))
theorem Hx {ro:Addr->Option Value}(l:de ro)(u0:aj){s1 f g i:Value}(j:bN ro u0 s1 f g i)(a:bn){r:(an×Bool×Int)}(h:wR u0 a=some r):aD Tryz.prog 35 #[bv u0 s1 f g i,.agg #[.int .i64 a.back,.int .i64 a.high]] ⟨ro,[]⟩ (fun v _=>v= .tuple #[r.1.v,.bool r.2.1,.int .i64 r.2.2]):=by
 unfold wR at h;have N:=j.oc;simp only[bC] at N;refine aD.go Tryz.func35 rfl Tryz.ntmps35 Tryz.results35 (by simp) fun main J hJ A cu hd hs=>?_;have cy:=hs 0;have k1:=hs 1;clear hs;refine ah hJ ?_;simp only[*,go_sem];refine ay fun s O P=>?_;try simp only[au] at P
 refine ay fun t Q R=>?_;try simp only[au] at R
 refine ay fun S T U=>?_;try simp only[au] at U
 refine af hJ ?_;refine aC hJ fun V=>?_;refine ak hJ ?_;revert h;refine bS fun u W h=>?_;simp only[*,go_sem];refine ay fun d w y=>?_;have z:=aQ.cons y V;try simp only[au] at y
 obtain ⟨m,B,C⟩:=fS (b:=d) (o:=(.cells #[.func (.func 105) #[.agg #[.int .i64 a.back,.int .i64 a.high]] #[]] 133)) [] ((S,rt 0 0)::(t,.cells #[.int .i64 a.back,.int .i64 a.high] 73)::(s,bk u0 s1 f g i)::[]) z w (aE.cons T (aE.cons Q (aE.cons O (aE.nil _))));have D:aA (c8) (bV ro d (.cells #[.func (.func 105) #[.agg #[.int .i64 a.back,.int .i64 a.high]] #[]] 133)) (.slice (some ⟨d,0,none⟩) 1 1) [(fq a)]:=(aA.one (r:=(c8)) (e:=133) (cs:=#[.func (.func 105) #[.agg #[.int .i64 a.back,.int .i64 a.high]] #[]]) (x:=(fq a)) (own:=[(d,.cells #[.func (.func 105) #[.agg #[.int .i64 a.back,.int .i64 a.high]] #[]] 133)]) w (by simp[lk]) ⟨105,#[.agg #[.int .i64 a.back,.int .i64 a.high]],#[],rfl,⟨by simp only[go_sem],fun X Y n _ _ _ _ _ Z ab ad ae h=>by simp only[go_sem];exact sJ a n ⟨Z,ab,ad,ae⟩ h⟩⟩)
 generalize bV ro d (.cells #[.func (.func 105) #[.agg #[.int .i64 a.back,.int .i64 a.high]] #[]] 133)=cS at D B m C;refine g6 hJ C ?_;replace j:=j.mono m;replace l:=l.mono m;simp only[bu] at B;have al:=aQ.tl z;refine b9 hJ _ (kL l u0 j ([(fq a)]) D W) fun v c0 da ao p=>?_;obtain ⟨ar,a0,a2,a3,rfl,E⟩:=p;have a4:=E.oc;simp only[bC] at a4;simp only[bu] at ao;refine aJ ?_;simp only[*,go_sem];refine ay fun a5 db G=>?_;have dd:=aQ.cons G al;try simp only[au] at G
 refine af hJ (ah hJ ?_);simp only[*,go_sem];revert h;refine aT hJ (fun a6 h=>?_) fun a6 h=>?_
 .obtain rfl:=sI h;refine ah hJ ?_;simp only[*,go_sem];refine ax ?_;simp only[*,go_sem]
 refine aI hJ (af hJ ?_);refine ak hJ ?_;revert h;refine bS fun k a7 h=>?_;simp only[*,go_sem];refine b9 hJ _ (wB u.1 E a a7) fun v a8 df a9 p=>?_;obtain ⟨dk,rfl,q⟩:=p;simp only[bu] at a9;obtain ⟨d84,ba,rfl,dp,dq,-⟩:=id q;refine aJ ?_;simp only[*,go_sem];refine af hJ (ah hJ ?_);simp only[*,go_sem];revert h;refine aT hJ (fun bb h=>?_) fun bb h=>?_
 .obtain rfl:=sI h;refine ah hJ ?_;simp only[*,go_sem];refine ax ?_;simp only[*,go_sem]
 refine aI hJ (af hJ ?_);refine fl hJ mixed 7 ⟨a8,[(a5,bl u.1 ar a0 a2 a3),(t,.cells #[.int .i64 a.back,.int .i64 a.high] 73),(s,bk u0 s1 f g i)]⟩ (by simp only[*,go_sem]) (by kernel_rfl) ?_;revert h;refine bS fun H bc h=>?_;obtain ⟨ds,dt,I⟩:=cG bc;obtain ⟨du,bd,bj,bm,c⟩:=q.el _ _ I;obtain rfl:bd=H.cells:=bm;cases bj;have bo:=c 0 _ rfl;simp only[go_sem] at bo;have br:=c 1 _ rfl;simp only[go_sem] at br;have bs:=c 2 _ rfl;simp only[go_sem] at bs;have bz:=c 3 _ rfl;simp only[go_sem] at bz;have b0:=c 4 _ rfl;simp only[go_sem] at b0;have b1:=c 5 _ rfl;simp only[go_sem] at b1;clear c I;revert h;refine bS fun b2 b3 h=>?_;obtain ⟨dv,dC,dE,K⟩:=pY b3;have L:(1:Int).toNat<=((k.length:Int)).toNat:=by omega
 have b4:((k.length:Int)).toNat<=ba:=by omega
 have dT:0<=((k.length:Int)):=by omega
 obtain ⟨d94,b5,ca,M⟩:=aA.p7 q (1:Int).toNat ((k.length:Int)).toNat L (by omega) K;simp only[go_sem] at b5 ca L b4;obtain ⟨_,_,cb,ea,eb,ec⟩:=id M;cases cb;clear K;revert h;refine bS fun ed cd h=>?_;obtain rfl:=sI h;simp only[*,go_sem];refine ⟨_,bD hJ fun F cf=>sM (dO:=71) (en:=#[]) (eo:=#[]) jj ⟨by simp only[go_sem],fun X Y n cl _ h=>by simp only[go_sem];exact sH n cl h⟩ H b2 (M.mono (bY cf)) cd,cn ?_⟩;simp only[*,go_sem];refine ax ?_;simp only[*,go_sem]
def s6 (u0:aj)(b:bn):Option (an×Bool×Int):=
 ag (eZ u0 ([(fq b)])) fun a=>cond ((a.2 != 0)) (some ((⟨0,0⟩:an),false,a.2)) (ag (kK a.1 b) fun c=>ag (gv a.1 b) fun d=>some (c,d,0))
theorem BA {ro:Addr->Option Value}(j:de ro)(u0:aj){s1 d f g:Value}(i:bN ro u0 s1 d f g)(a:bn){r:(an×Bool×Int)}(h:s6 u0 a=some r):aD Tryz.prog 56 #[bv u0 s1 d f g,.agg #[.int .i64 a.back,.int .i64 a.high]] ⟨ro,[]⟩ (fun v _=>v= .tuple #[r.1.v,.bool r.2.1,.int .i64 r.2.2]):=by
 unfold s6 at h;have C:=i.oc;simp only[bC] at C;refine aD.go Tryz.func56 rfl Tryz.ntmps56 Tryz.results56 (by simp) fun main J hJ A a0 hd hs=>?_;have a2:=hs 0;have k1:=hs 1;clear hs;refine ah hJ ?_;simp only[*,go_sem];refine ay fun p D E=>?_;try simp only[au] at E
 refine ay fun q G H=>?_;try simp only[au] at H
 refine ay fun I K L=>?_;try simp only[au] at L
 refine af hJ ?_;refine aC hJ fun M=>?_;refine ak hJ ?_;revert h;refine bS fun k N h=>?_;simp only[*,go_sem];refine ay fun c s t=>?_;have u:=aQ.cons t M;try simp only[au] at t
 obtain ⟨l,w,y⟩:=fS (b:=c) (o:=(.cells #[.func (.func 105) #[.agg #[.int .i64 a.back,.int .i64 a.high]] #[]] 133)) [] ((I,rt 0 0)::(q,.cells #[.int .i64 a.back,.int .i64 a.high] 73)::(p,bk u0 s1 d f g)::[]) u s (aE.cons K (aE.cons G (aE.cons D (aE.nil _))));have z:aA (c8) (bV ro c (.cells #[.func (.func 105) #[.agg #[.int .i64 a.back,.int .i64 a.high]] #[]] 133)) (.slice (some ⟨c,0,none⟩) 1 1) [(fq a)]:=(aA.one (r:=(c8)) (e:=133) (cs:=#[.func (.func 105) #[.agg #[.int .i64 a.back,.int .i64 a.high]] #[]]) (x:=(fq a)) (own:=[(c,.cells #[.func (.func 105) #[.agg #[.int .i64 a.back,.int .i64 a.high]] #[]] 133)]) s (by simp[lk]) ⟨105,#[.agg #[.int .i64 a.back,.int .i64 a.high]],#[],rfl,⟨by simp only[go_sem],fun a3 a4 O _ _ _ _ _ P Q R S h=>by simp only[go_sem];exact sJ a O ⟨P,Q,R,S⟩ h⟩⟩)
 generalize bV ro c (.cells #[.func (.func 105) #[.agg #[.int .i64 a.back,.int .i64 a.high]] #[]] 133)=a5 at z w l y;refine g6 hJ y ?_;replace i:=i.mono l;replace j:=j.mono l;simp only[bu] at w;have T:=aQ.tl u;refine b9 hJ _ (kL j u0 i ([(fq a)]) z N) fun v U a6 V W=>?_;obtain ⟨X,Y,Z,ab,rfl,m⟩:=W;have ad:=m.oc;simp only[bC] at ad;simp only[bu] at V;refine aJ ?_;simp only[*,go_sem];refine ay fun ae a7 B=>?_;have a8:=aQ.cons B T;try simp only[au] at B
 refine af hJ (ah hJ ?_);simp only[*,go_sem];revert h;refine aT hJ (fun al h=>?_) fun al h=>?_
 .obtain rfl:=sI h;refine ah hJ ?_;simp only[*,go_sem];refine ax ?_;simp only[*,go_sem]
 refine aI hJ (af hJ ?_);refine fl hJ mixed 6 ⟨U,[(ae,bl k.1 X Y Z ab),(q,.cells #[.int .i64 a.back,.int .i64 a.high] 73),(p,bk u0 s1 d f g)]⟩ (by simp only[*,go_sem]) (by kernel_rfl) ?_;revert h;refine bS fun a9 ao h=>?_;simp only[*,go_sem];refine ⟨_,bD hJ fun F n=>sV k.1 (m.mono (bY n)) a ao,cn ?_⟩;revert h;refine bS fun ba ar h=>?_;obtain rfl:=sI h;simp only[*,go_sem];refine ⟨_,bD hJ fun F n=>mT k.1 (m.mono (bY n)) a ar,?_⟩;refine ax ?_;simp only[*,go_sem]
def wS (a:aW)(st:Bool):Option (Fl Bool Unit):=
 some (.br 1000000000 true)
def s7 (u0:aj):Option Bool:=
 ag (gr (wS) (mV u0) false) fun o=>aF o (fun b=>some false) (fun k a=>cond (k==1000000000) (some a) (none)) (fun _=>none)
theorem BB {ro:Addr->Option Value}(u0:aj){s1 c d g:Value}(k:bN ro u0 s1 c d g){r:Bool}(h:s7 u0=some r):aD Tryz.prog 114 #[bv u0 s1 c d g] ⟨ro,[]⟩ (fun v _=>v= .bool r):=by
 unfold s7 at h;refine aD.wu Tryz.func114 rfl Tryz.ntmps114 Tryz.results114 (by simp) fun main J hJ A D hd hs=>?_;have E:=hs 0;clear hs;refine ah hJ ?_;simp only[*,go_sem];refine ay fun n x F=>?_;try simp only[au] at F
 refine ay fun l z G=>?_;try simp only[au] at G
 refine af hJ (ah hJ ?_);simp only[*,go_sem];revert h;refine bS fun Q H o=>?_;refine wq hJ aW.v (by simp only[*,go_sem]) (s0 u0 k.e k.p k.y k.t) (by kernel_rfl) (by kernel_rfl) (ρ:=Unit) (fun (I:Bool) K=>K=(l,.cells #[.bool I] 4)::(n,bl u0 s1 c d g)::[]) (f:=wS) H ?_ ?_ (by decide) ?_ ?_
 .exact rfl
 .rintro d33 L q M s u R h main J hJ _ rfl;unfold wS at h;try dsimp only at h
  obtain rfl:=sI h;generalize i:mJ _ _ _=m;have S:sz m=6:=by rw[<-i,wo];simp only[*,go_sem]
  have T:m.defers=[]:=by rw[<-i];rfl
  have U:slot m 2= .pointer (some ⟨l,0,none⟩):=by rw[<-i,n4];simp only[*,go_sem]
  have V:slot m 5= .agg #[.int .i64 u.e0,.int .i64 u.e1,.int .i64 u.e2]:=by rw[<-i,n4];simp only[*,go_sem]
  clear i D hd E;refine fT hJ fun b a=>?_;replace a:aE ro ((L,.loop q)::(d33,.deferred (some []))::(l,.cells #[.bool s] 4)::(n,bl u0 s1 c d g)::[]):=a;have W:=a.hd;have X:=a.tl.hd;have z:=a.tl.tl.hd;have x:=a.tl.tl.tl.hd;clear a;replace b:=b.nd;simp only[keys,List.map_cons,List.map_nil,List.map_append,List.cons_append,List.nil_append,List.nodup_cons,List.mem_cons,List.mem_append,List.not_mem_nil,or_false,not_or] at b;refine aI hJ ?_;simp only[qf,go_sem];refine ⟨q,by simp only[*,go_sem],M,?_⟩;refine aO hJ (af hJ ?_);refine ak hJ ?_;simp only[*,go_sem];refine ax ?_;simp only[sC,mG,go_sem];refine ⟨{q with state:=.busy},by simp only[*,go_sem],?_⟩;simp only[*,go_sem];refine ⟨_,Le.sub (List.Sublist.refl _),rfl,rfl⟩
 .rintro N O P _ s rfl b a;replace a:aE ro ((O,.loop P)::(N,.deferred (some []))::(l,.cells #[.bool s] 4)::(n,bl u0 s1 c d g)::[]):=a;have Y:=a.hd;have Z:=a.tl.hd;have z:=a.tl.tl.hd;have x:=a.tl.tl.tl.hd;clear a;replace b:=b.nd;simp only[keys,List.map_cons,List.map_nil,List.map_append,List.cons_append,List.nil_append,List.nodup_cons,List.mem_cons,List.mem_append,List.not_mem_nil,or_false,not_or] at b;refine ⟨fun j=>?_,fun k1 j=>?_⟩
  .subst j;have h:=o;dsimp only[aF] at h;obtain rfl:=sI h;refine ah hJ ?_;simp only[*,go_sem];refine aC hJ fun w=>?_;replace w:=w.nd;(try simp only[keys,List.map_cons,List.map_nil,List.map_append,List.cons_append,List.nil_append,List.nodup_cons,List.mem_cons,List.mem_append,List.not_mem_nil,or_false,not_or] at w);refine ax ?_;simp only[*,go_sem]
  subst j;have h:=o;dsimp only[aF] at h;revert h;refine cS (fun B h=>?_) fun B h=>?_
  .obtain rfl:=sI h;obtain rfl:k1=1000000000:=by simpa using B
   unfold wm;rw[if_pos (show (1000000000:Nat)=sE from rfl)];simp only[*,go_sem]
  cases h
 intro k1 ab j;subst j;have h:=o;dsimp only[aF] at h;revert h;refine cS (fun C h=>?_) fun C h=>?_
 .obtain rfl:k1=1000000000:=by simpa using C
  decide
 cases h
def oq (a:aW)(st:(List aW)):Option (Fl (List aW) Unit):=
 ag (dc st ([a])) fun b=>some (.nx b)
def s8 (a:(List (Option aW))):Option (List aW):=
 ag (gr (oq) a ([]:List aW)) fun o=>aF o (fun b=>some b) (fun k c=>none) (fun _=>none)
theorem Hy {ro:Addr->Option Value}(u:(List (Option aW))){dz:FuncId}{ef eg:Array Value}(K:mH Tryz.prog dz ef eg aW.v u ro){r:(List aW)}(h:s8 u=some r):eM Tryz.prog 164 #[.slice none 0 0,.func (.func dz) ef eg] ro (fun v aM=>∃w,v=w/\aA g7 aM w r):=by
 unfold s8 at h;refine aD.wu Tryz.func164 rfl Tryz.ntmps164 Tryz.results164 (by simp) fun main J hJ A L hd hs=>?_;have M:=hs 0;have k1:=hs 1;clear hs;refine ah hJ ?_;simp only[*,go_sem,-h];refine ay fun e r1 n1=>?_;try simp only[au] at n1
 refine af hJ (ah hJ ?_);simp only[*,go_sem,-h];revert h;refine bS fun ar N o=>?_;have h:=trivial;refine wq hJ aW.v (by simp only[*,go_sem]) K (by kernel_rfl) (by kernel_rfl) (ρ:=Unit) (fun (m:(List aW)) O=>∃(d7:Option Addr) (c:Nat) (d:List (Nat×Obj)),O=(e,.cells #[.slice d7 m.length c] 110)::d/\aP g7 ro 144 (.slice d7 m.length c) m d/\m.length<=c) (f:=oq) N ?_ ?_ (by decide) ?_ ?_
 .exact ⟨none,0,[],rfl,aP.nil _ _ _,Nat.le_refl _⟩
 .rintro d4 p i P v6 a a0 h main J hJ _ ⟨d7,c,d,rfl,q,Q⟩;unfold oq at h;try dsimp only at h
  generalize j:mJ _ _ _=n;have a2:sz n=13:=by rw[<-j,wo];simp only[*,go_sem]
  have a3:n.defers=[]:=by rw[<-j];rfl
  have a4:slot n 2= .pointer (some ⟨e,0,none⟩):=by rw[<-j,n4];simp only[*,go_sem]
  have a5:slot n 7= .agg #[.int .i64 a.e0,.int .i64 a.e1,.int .i64 a.e2]:=by rw[<-j,n4];simp only[*,go_sem]
  clear j L hd M k1;refine fT hJ fun g b=>?_;replace b:aE ro ((p,.loop i)::(d4,.deferred (some []))::(e,.cells #[.slice d7 v6.length c] 110)::d):=b;have r3:=b.hd;have a6:=b.tl.hd;have r1:=b.tl.tl.hd;clear b;replace g:=g.nd;simp only[keys,List.map_cons,List.map_nil,List.map_append,List.cons_append,List.nil_append,List.nodup_cons,List.mem_cons,List.mem_append,List.not_mem_nil,or_false,not_or] at g;refine aC hJ fun R=>?_;refine ak hJ ?_;simp only[*,go_sem,-h];refine ay fun y a7 z=>?_;have a8:=aQ.cons z R;try simp only[au] at z
  simp only[qf,go_sem];refine ⟨i,by simp only[*,go_sem],P,?_⟩;simp only[*,go_sem,-h];refine aO hJ ?_;refine aC hJ fun S=>?_;refine ak hJ ?_;revert h;refine bS fun a9 T h=>?_;obtain ⟨U,B⟩:=dr T;simp only[*,go_sem,-h];refine ay fun C V D=>?_;have W:=aQ.cons D S;try simp only[au] at D
  refine ek (r:=g7) (l:=v6) (x:=a) (cs:=#[.int .i64 a.e0,.int .i64 a.e1,.int .i64 a.e2]) (e2:=144) [(C,.cells #[.int .i64 a.e0,.int .i64 a.e1,.int .i64 a.e2] 144),(y,.cells #[.int .i64 a.e0,.int .i64 a.e1,.int .i64 a.e2] 144),(p,.loop {i with state:=.busy}),(d4,.deferred (some [])),(e,.cells #[.slice d7 v6.length c] 110)] [] q W U rfl (by simp only[*,go_sem,-h]) V rfl rfl AN AN FP FR rfl FQ (by decide) (by decide) (fun ba E s d X bb=>?_);simp only[aS] at X;subst d;rw[<-B] at s;clear B;obtain ⟨d28,Y,rfl,Z⟩:=s.len;refine ⟨⟨ro,(C,.cells #[.int .i64 a.e0,.int .i64 a.e1,.int .i64 a.e2] 144)::(y,.cells #[.int .i64 a.e0,.int .i64 a.e1,.int .i64 a.e2] 144)::(p,.loop {i with state:=.busy})::(d4,.deferred (some []))::(e,.cells #[.slice d7 v6.length c] 110)::E⟩,Le.refl _,?_⟩;refine aJ ?_;simp only[*,go_sem,-h];obtain rfl:=sI h;simp only[sC,mG,go_sem];refine ⟨{i with state:=.busy},by simp only[*,go_sem],?_⟩;simp only[*,go_sem];refine ⟨_,Le.sub (List.Sublist.cons _ (List.Sublist.cons _ (List.Sublist.refl _))),rfl,d28,Y,E,rfl,s,Z⟩
 .rintro d49 F G _ v6 ⟨d7,c,d,rfl,q,Q⟩ g b;replace b:aE ro ((F,.loop G)::(d49,.deferred (some []))::(e,.cells #[.slice d7 v6.length c] 110)::d):=b;have ab:=b.hd;have ad:=b.tl.hd;have r1:=b.tl.tl.hd;clear b;replace g:=g.nd;simp only[keys,List.map_cons,List.map_nil,List.map_append,List.cons_append,List.nil_append,List.nodup_cons,List.mem_cons,List.mem_append,List.not_mem_nil,or_false,not_or] at g;refine ⟨fun k=>?_,fun k1 k=>?_⟩
  .subst k;have h:=o;dsimp only[aF] at h;refine af hJ ?_;refine aC hJ fun bc=>?_;refine ak hJ ?_;simp only[*,go_sem,-h];obtain rfl:=sI h;refine aC hJ fun H=>?_;obtain ⟨bd,ae,al,I,ao⟩:=q.eX [(F,.loop G),(d49,.deferred (some [])),(e,.cells #[.slice d7 v6.length c] 110)] [] H (aE.cons ab (aE.cons ad (aE.cons r1 (aE.nil _))));clear H;refine cz hJ ao ?_;obtain ⟨bj,bk,-⟩:=I.op;simp only[bu] at al;refine aC hJ fun t=>?_;replace t:=t.nd;(try simp only[keys,List.map_cons,List.map_nil,List.map_append,List.cons_append,List.nil_append,List.nodup_cons,List.mem_cons,List.mem_append,List.not_mem_nil,or_false,not_or] at t);refine ax ?_;simp only[*,go_sem];exact ⟨_,ae,Le.sub (List.nil_sublist _),_,rfl,I⟩
  subst k;have h:=o;dsimp only[aF] at h;cases h
 intro k1 bl k;subst k;have h:=o;dsimp only[aF] at h;cases h
def qz (u0:(List (Option aW))):Option (List aW):=
 ag (s8 u0) fun a=>some a
theorem BC {ro:Addr->Option Value}(u0:(List (Option aW))){dO:FuncId}{en eo:Array Value}(c:mH Tryz.prog dO en eo aW.v u0 ro){r:(List aW)}(h:qz u0=some r):eM Tryz.prog 135 #[.func (.func dO) en eo] ro (fun v aM=>∃a,v=a/\aA g7 aM a r):=by
 unfold qz at h;refine aD.go Tryz.func135 rfl Tryz.ntmps135 Tryz.results135 (by simp) fun main J hJ A g hd hs=>?_;have i:=hs 0;clear hs;refine ah hJ ?_;simp only[*,go_sem];refine ah hJ ?_;revert h;refine bS fun j d h=>?_;obtain rfl:=sI h;simp only[*,go_sem];refine b9 hJ _ (Hy (dz:=dO) (ef:=en) (eg:=eo) u0 c d) fun v k e l f=>?_;obtain ⟨m,rfl,b⟩:=f;obtain ⟨d8,n,rfl,o,p,-⟩:=id b;refine aJ ?_;simp only[*,go_sem];refine ax ?_;simp only[*,go_sem];exact ⟨_,e,Le.sub (List.nil_sublist _),_,rfl,b⟩
def fW (u0:aj)(c:(List (aj->Option Int))):Option (cT×Int):=
 ag (eZ u0 c) fun a=>cond ((a.2 != 0)) (some ((⟨(⟨0,0,(⟨0,0⟩:an),([]:(List bT)),([]:(List bX)),([]:(List bL)),([]:(List bG))⟩:aj),([]:(List aW))⟩:cT),a.2)) (ag (qz (mV a.1)) fun b=>cond (((b.length:Int)==0)) (some ((⟨(⟨0,0,(⟨0,0⟩:an),([]:(List bT)),([]:(List bX)),([]:(List bL)),([]:(List bG))⟩:aj),([]:(List aW))⟩:cT),9)) (some ((⟨a.1,b⟩:cT),0)))
theorem jT {ro:Addr->Option Value}(N:de ro)(u0:aj){s1 c d f:Value}(G:bN ro u0 s1 c d f)(B:(List (aj->Option Int))){H:Value}(I:aA (c8) ro H B){r:(cT×Int)}(h:fW u0 B=some r):eM Tryz.prog 67 #[bv u0 s1 c d f,H] ro (fun v aM=>∃K w1 w2 w3 w4,v= .tuple #[.agg #[.int .i64 r.1.book.bH,.int .i64 r.1.book.bM,.int .i64 r.1.book.aV.num,.int .i64 r.1.book.aV.den,K,w1,w2,w3,w4],.int .i64 r.2]/\bN aM r.1.book K w1 w2 w3/\aA g7 aM w4 r.1.all):=by
 obtain ⟨d31,ae,rfl,al,ao,-⟩:=id I;unfold fW at h;have O:=G.oc;simp only[bC] at O;refine aD.go Tryz.func67 rfl Tryz.ntmps67 Tryz.results67 (by simp) fun main J hJ A ar hd hs=>?_;have a0:=hs 0;have k1:=hs 1;clear hs;refine ah hJ ?_;simp only[*,go_sem];refine ay fun C g P=>?_;try simp only[au] at P
 refine ay fun D i Q=>?_;try simp only[au] at Q
 refine ah hJ ?_;revert h;refine bS fun b R h=>?_;simp only[*,go_sem];refine b9 hJ _ (kL N u0 G B I R) fun v S j E k=>?_;obtain ⟨m,n,o,q,rfl,a⟩:=k;have T:=a.oc;simp only[bC] at T;replace i:=E.hd;replace g:=E.tl.hd;simp only[bu] at E;refine aJ ?_;simp only[*,go_sem];refine ay fun F s U=>?_;try simp only[au] at U
 refine af hJ (ah hJ ?_);simp only[*,go_sem];revert h;refine aT hJ (fun V h=>?_) fun V h=>?_
 .obtain rfl:=sI h;refine ah hJ ?_;simp only[*,go_sem];refine ax ?_;simp only[*,go_sem];exact ⟨_,j,Le.sub (List.nil_sublist _),_,_,_,_,_,rfl,⟨aA.nil _ _,aA.nil _ _,aA.nil _ _,aA.nil _ _⟩,aA.nil _ _⟩
 refine aI hJ (af hJ ?_);refine eE hJ mixed [] (.rd 0 (.rd 1 (.pure 2 (.two 3 (.pure 4 (.one 5 (.one 6 .done))) 5 (.one 3 (.pure 4 (.one 6 .done))))))) ⟨S,[(F,bl b.1 m n o q),(D,.cells #[.int .i64 0,.int .i64 0,.int .i64 0,.int .i64 0,.slice none 0 0,.slice none 0 0,.slice none 0 0,.slice none 0 0,.slice none 0 0] 112),(C,bk u0 s1 c d f)]⟩ (by simp only[*,go_sem]) (by kernel_rfl) ?_;simp only[*,go_sem];refine kE ?_ ?_
 .revert h;refine bS fun a2 W h=>?_;simp only[*,go_sem];refine b9 hJ _ (BC (dO:=107) (en:=#[bv b.1 m n o q]) (eo:=#[]) (mV b.1) (s0 b.1 a.e a.p a.y a.t) W) fun v a3 u w k=>?_;obtain ⟨a4,rfl,L⟩:=k;replace a:=a.mono u;replace s:=w.hd;replace i:=w.tl.hd;replace g:=w.tl.tl.hd;simp only[bu] at w;obtain ⟨d80,a5,rfl,a6,a7,-⟩:=id L;have a8:=eN (l:=[(F,bl b.1 m n o q),(D,.cells #[.int .i64 0,.int .i64 0,.int .i64 0,.int .i64 0,.slice none 0 0,.slice none 0 0,.slice none 0 0,.slice none 0 0,.slice none 0 0] 112),(C,bk u0 s1 c d f)]) u (aE.cons s (aE.cons i (aE.cons g (aE.nil _))));refine ⟨by simp only[*,go_sem],?_⟩;refine bR ?_;simp only[*,go_sem];refine ay fun a9 ba X=>?_;try simp only[au] at X
  simp only[*,go_sem];refine af hJ (ah hJ ?_);simp only[*,go_sem];revert h;refine aT hJ (fun Y h=>?_) fun Y h=>?_
  .obtain rfl:=sI h;refine ah hJ ?_;simp only[*,go_sem];refine ax ?_;simp only[*,go_sem];exact ⟨_,(j).trans u,Le.sub (List.nil_sublist _),_,_,_,_,_,rfl,⟨aA.nil _ _,aA.nil _ _,aA.nil _ _,aA.nil _ _⟩,aA.nil _ _⟩
  obtain rfl:=sI h;refine aI hJ (af hJ ?_);refine ak hJ ?_;simp only[*,go_sem];refine ax ?_;simp only[*,go_sem];exact ⟨_,(j).trans u,Le.sub (List.nil_sublist _),_,_,_,_,_,rfl,a,L⟩
 revert h;refine bS fun bb Z h=>?_;simp only[*,go_sem];refine ay fun bc bd ab=>?_;try simp only[au] at ab
 simp only[*,go_sem];refine b9 hJ _ (BC (dO:=107) (en:=#[bv b.1 m n o q]) (eo:=#[]) (mV b.1) (s0 b.1 a.e a.p a.y a.t) Z) fun v bj x z k=>?_;obtain ⟨bm,rfl,M⟩:=k;replace a:=a.mono x;replace s:=z.tl.hd;replace i:=z.tl.tl.hd;replace g:=z.tl.tl.tl.hd;simp only[bu] at z;obtain ⟨d96,bo,rfl,br,bs,-⟩:=id M;have bz:=eN (l:=[(F,bl b.1 m n o q),(D,.cells #[.int .i64 0,.int .i64 0,.int .i64 0,.int .i64 0,.slice none 0 0,.slice none 0 0,.slice none 0 0,.slice none 0 0,.slice none 0 0] 112),(C,bk u0 s1 c d f)]) x (aE.cons s (aE.cons i (aE.cons g (aE.nil _))));refine ⟨by simp only[*,go_sem],?_⟩;refine bR ?_;simp only[*,go_sem];refine af hJ (ah hJ ?_);simp only[*,go_sem];revert h;refine aT hJ (fun ad h=>?_) fun ad h=>?_
 .obtain rfl:=sI h;refine ah hJ ?_;simp only[*,go_sem];refine ax ?_;simp only[*,go_sem];exact ⟨_,(j).trans x,Le.sub (List.nil_sublist _),_,_,_,_,_,rfl,⟨aA.nil _ _,aA.nil _ _,aA.nil _ _,aA.nil _ _⟩,aA.nil _ _⟩
 obtain rfl:=sI h;refine aI hJ (af hJ ?_);refine ak hJ ?_;simp only[*,go_sem];refine ax ?_;simp only[*,go_sem];exact ⟨_,(j).trans x,Le.sub (List.nil_sublist _),_,_,_,_,_,rfl,a,M⟩
def wT (a:Int)(i56:Nat)(b:Int)(st:(List bX)):Option (Fl (List bX) aj):=
 ag (dc st ([(⟨b,a⟩:bX)])) fun c=>some (.nx c)
def s9 (u0:aj)(a:Int)(b:(List Int)):Option aj:=
 ag (qy u0.props) fun c=>ag (bJ (wT a) 0 b c) fun o=>aF o (fun d=>some (⟨u0.bH,u0.bM,u0.aV,u0.az,d,u0.av,u0.told⟩:aj)) (fun _ _=>none) (fun r=>some r)
theorem Hz {ro:Addr->Option Value}(u0:aj){s1 s b c:Value}(g:bN ro u0 s1 s b c)(i:Int)(d:(List Int)){D:Value}(E:aA rI ro D d){r:aj}(h:s9 u0 i d=some r):eM Tryz.prog 144 #[bv u0 s1 s b c,.int .i64 i,D] ro (fun v aM=>∃F w1 w2 w3,v=bv r F w1 w2 w3/\bN aM r F w1 w2 w3):=by
 obtain ⟨d31,b4,rfl,b5,U,-⟩:=id E;unfold s9 at h;have V:=g.oc;simp only[bC] at V;refine aD.go Tryz.func144 rfl Tryz.ntmps144 Tryz.results144 (by simp) fun main J hJ A W hd hs=>?_;have X:=hs 0;have k1:=hs 1;have Y:=hs 2;clear hs;refine ah hJ ?_;simp only[*,go_sem];refine ay fun k Z ab=>?_;try simp only[au] at ab
 refine ay fun o ad ae=>?_;try simp only[au] at ae
 refine af hJ ?_;refine aC hJ fun ca=>?_;refine ak hJ ?_;revert h;refine bS fun al ao h=>?_;simp only[*,go_sem];refine dN hJ (aX:=[]) [(o,bz 109),(k,bl u0 s1 s b c)] [] _ (By u0.props g.p ao) (fun cb G H u w cd=>?_);simp only[aS] at w;subst u;obtain ⟨d45,ar,rfl,a0⟩:=H.len;refine ⟨⟨ro,(o,bz 109)::(k,bl u0 s1 s b c)::G⟩,Le.refl _,?_⟩;refine aJ ?_;simp only[*,go_sem];refine af hJ (af hJ ?_);refine aC hJ fun cf=>?_;refine ak hJ ?_;simp only[*,go_sem];refine aO hJ ?_;revert h;refine bS fun a2 j a3=>?_;refine bU hJ (rg 17 15 [8]) (fun m a4 F'=>∃(i56:Nat) (d51:Option Addr) (f:Nat) (z:List (Nat×Obj)) (a:(List bX)),m=d.length - i56/\i56<=d.length/\bJ (wT i) i56 (d.drop i56) a=some a2/\F'=⟨ro,(o,bz 109)::(k,bl u0 s1 (sl d51 a f) b c)::z⟩/\aP eF ro 70 (.slice d51 a.length f) a z/\a.length<=f/\slot a4 17= .int .i64 (i56:Int)) d.length ?_ ?_
 .refine ⟨0,d45,ar,G,al,(Nat.sub_zero _).symm,Nat.zero_le _,j,rfl,H,a0,?_⟩;simp only[*,go_sem]
 rintro cl cu F' I ⟨i56,d51,f,z,a,rfl,cy,j,rfl,K,cS,c0⟩;obtain ⟨a5,a6,a7⟩:=I.pick [1,3,6,15,16] (by decide);simp only[*,go_sem] at a5 a6 a7;clear I W hd X k1 Y;refine ah hJ ?_;simp only[*,go_sem];refine af hJ ?_;rcases Nat.lt_or_ge i56 d.length with a8|L
 .refine b8 hJ ?_;refine aI hJ ?_;obtain ⟨q,B⟩:∃x,d[i56]?=some x:=⟨_,List.getElem?_eq_getElem a8⟩
  rw[dg B] at j;revert j;refine bS fun da h a9=>?_;unfold wT at h;try dsimp only at h
  obtain ⟨db,ba,bb,bc,M⟩:=E.el _ _ B;obtain rfl:ba=[.int .i64 q]:=bc;cases bb;have bd:=M 0 _ rfl;simp only[go_sem] at bd;clear M B;refine af hJ (aO hJ (af hJ ?_));refine aC hJ fun dd=>?_;refine ak hJ ?_;simp only[*,go_sem];refine aC hJ fun bj=>?_;refine ak hJ ?_;revert h;refine bS fun bk bm h=>?_;obtain rfl:=sI h;obtain ⟨bo,N⟩:=dr bm;simp only[*,go_sem];refine ay fun O br P=>?_;have bs:=aQ.cons P bj;try simp only[au] at P
  refine ek (r:=eF) (l:=a) (x:=(⟨q,i⟩:bX)) (cs:=#[.int .i64 q,.int .i64 i]) (e2:=70) [(O,.cells #[.int .i64 q,.int .i64 i] 70),(o,bz 109),(k,bl u0 s1 (sl d51 a f) b c)] [] K bs bo rfl (by simp only[*,go_sem]) br rfl rfl lu lu so su rfl sr (by decide) (by decide) (fun df Q C u w dk=>?_);simp only[aS] at w;subst u;rw[<-N] at C;clear N;obtain ⟨d74,b0,rfl,b1⟩:=C.len;refine ⟨⟨ro,(O,.cells #[.int .i64 q,.int .i64 i] 70)::(o,bz 109)::(k,bl u0 s1 (sl d51 a f) b c)::Q⟩,Le.refl _,?_⟩;refine aJ ?_;simp only[*,go_sem];have dp:=cv (n:=i56) (by have:=U;omega);refine ak hJ ?_;simp only[*,go_sem];refine ⟨d.length - (i56+1),by omega,_,Le.sub (List.Sublist.cons _ (List.Sublist.refl _)),i56+1,d74,b0,Q,bk,rfl,by omega,a9,rfl,C,b1,?_⟩;simp only[*,go_sem]
 have dq:=Nat.not_lt.2 L;refine b6 hJ ?_;rw[List.drop_eq_nil_of_le L] at j;obtain rfl:=sI j;clear j;have h:=a3;dsimp only[aF] at h;obtain rfl:=sI h;refine bO ?_;simp only[go_sem];refine af hJ ?_;refine aC hJ fun ds=>?_;refine ak hJ ?_;simp only[*,go_sem];refine aC hJ fun R=>?_;obtain ⟨dt,S,b2,T,b3⟩:=K.eX [(o,bl u0 s1 (sl d51 a f) b c),(k,bl u0 s1 (sl d51 a f) b c)] [] R (aE.cons ad (aE.cons Z (aE.nil _)));clear R;refine cz hJ b3 ?_;obtain ⟨du,dv,-⟩:=T.op;replace g:=g.mono S;simp only[bu] at b2;refine ax ?_;simp only[*,go_sem];exact ⟨_,S,Le.sub (List.nil_sublist _),_,_,_,_,rfl,⟨g.e,T,g.y,g.t⟩⟩
def wU (u0:aj)(a:(List Int))(st:((List (List Int))×Int)):Option (Fl ((List (List Int))×Int) (List (List Int))):=
 ag (gu u0 st.2) fun b=>cond (b) (ag (s4 a) fun c=>ag (dc c ([st.2])) fun d=>ag (dc st.1 ([d])) fun e=>some (.nx (e,(IntKind.i64.wrap (st.2+1))))) (some (.bk (st.1,st.2)))
def wV (u0:aj)(a:(List Int))(st:((List (List Int))×Int)):Option (Fl ((List (List Int))×Int) (List (List Int))):=
 ag (gu u0 st.2) fun b=>cond (b) (ag (s4 a) fun c=>ag (dc c ([st.2])) fun d=>ag (dc st.1 ([d])) fun e=>some (.nx (e,(IntKind.i64.wrap (st.2+1))))) (some (.bk (st.1,st.2)))
def wW (u0:aj)(i47:Nat)(a:(List Int))(st:(List (List Int))):Option (Fl (List (List Int)) (List (List Int))):=
 ag (bf u0.az 0) fun b=>cond (decide (0<(a.length:Int))) (ag (bf a (IntKind.i64.wrap ((a.length:Int) - 1))) fun c=>ag (aZ (wU u0 a) fu (st,(IntKind.i64.wrap (c+1)))) fun o=>aF o (fun d=>some (.nx d.1)) (fun _ _=>none) (fun r=>some (.rt r))) (ag (aZ (wV u0 a) fu (st,b.aL)) fun o=>aF o (fun e=>some (.nx e.1)) (fun _ _=>none) (fun r=>some (.rt r)))
def tc (u0:aj)(a:(List (List Int))):Option (List (List Int)):=
 ag (bJ (wW u0) 0 a ([]:List (List Int))) fun o=>aF o (fun b=>some b) (fun _ _=>none) (fun r=>some r)
theorem BD {ro:Addr->Option Value}(u0:aj){s1 a b c:Value}(j:bN ro u0 s1 a b c)(s:(List (List Int))){bm:Value}(Q:aA (rL rI) ro bm s){r:(List (List Int))}(h:tc u0 s=some r):eM Tryz.prog 86 #[bv u0 s1 a b c,bm] ro (fun v aM=>∃bo,v=bo/\aA (rL rI) aM bo r):=by
 obtain ⟨d3,c4,rfl,h7,h8,-⟩:=id j.e;obtain ⟨d31,h9,rfl,ib,br,-⟩:=id Q;unfold tc at h;refine aD.go Tryz.func86 rfl Tryz.ntmps86 Tryz.results86 (by simp) fun main J hJ A e0 hd hs=>?_;have e1:=hs 0;have k1:=hs 1;clear hs;refine ah hJ ?_;simp only[*,go_sem];refine ay fun d u e3=>?_;try simp only[au] at e3
 refine ah hJ ?_;simp only[*,go_sem];refine af hJ (ah hJ ?_);simp only[*,go_sem];refine aO hJ ?_;revert h;refine bS fun fa F fb=>?_;refine bU hJ (rg 12 35 [5,7,8,9]) (fun m w F'=>∃(i47:Nat) (y:Addr->Option Value) (d38:Option Addr) (G:Nat) (K:List (Nat×Obj)) (z:(List (List Int))),m=s.length - i47/\i47<=s.length/\bJ (wW u0) i47 (s.drop i47) z=some fa/\F'=⟨y,(d,bl u0 (sl d3 u0.az c4) a b c)::K⟩/\Ext ro y/\aP (rL rI) y 35 (.slice d38 z.length G) z K/\z.length<=G/\slot w 12= .int .i64 (i47:Int)/\slot w 5= .slice d38 z.length G) s.length ?_ ?_
 .refine ⟨0,ro,none,0,[],([]:List (List Int)),(Nat.sub_zero _).symm,Nat.zero_le _,F,rfl,Ext.refl _,aP.nil _ _ _,Nat.le_refl _,?_⟩;simp only[*,go_sem]
 rintro ih bs F' bz ⟨i47,y,d38,G,K,z,rfl,ik,F,rfl,L,Z,b0,b1,b2⟩;refine fT hJ fun _ b3=>?_;replace Q:=Q.mono L;replace j:=j.mono L;replace u:=b3.hd;simp only[bu] at b3;obtain ⟨ab,ad,ae⟩:=bz.pick [2,4,10,11] (by decide);simp only[*,go_sem] at ab ad ae;clear bz e0 hd e1 k1;refine ah hJ ?_;simp only[*,go_sem];refine af hJ ?_;rcases Nat.lt_or_ge i47 s.length with fg|b4
 .refine b8 hJ ?_;refine aI hJ ?_;obtain ⟨R,al⟩:∃x,s[i47]?=some x:=⟨_,List.getElem?_eq_getElem fg⟩
  rw[dg al] at F;revert F;refine bS fun il h b5=>?_;unfold wW at h;try dsimp only at h
  obtain ⟨im,iv,fi,fo,ca⟩:=Q.el _ _ al;obtain ⟨ix,rfl,t⟩:=fo;obtain ⟨d56,jC,rfl,j1,j2,kh⟩:=id t;cases fi;have fp:=ca 0 _ rfl;simp only[go_sem] at fp;clear ca al;refine af hJ (aO hJ (af hJ ?_));refine aC hJ fun kj=>?_;refine ak hJ ?_;simp only[*,go_sem];refine af hJ ?_;refine aC hJ fun kk=>?_;refine ak hJ ?_;revert h;refine bS fun cb fr h=>?_;obtain ⟨kl,km,cd⟩:=cG fr;obtain ⟨f,fs,ft,fv,ao⟩:=j.e.el _ _ cd;obtain rfl:fs=cb.cells:=fv;cases ft;have fw:=ao 0 _ rfl;simp only[go_sem] at fw;have fx:=ao 1 _ rfl;simp only[go_sem] at fx;clear ao cd;simp only[*,go_sem];refine af hJ (af hJ ?_);refine aC hJ fun kn=>?_;refine ak hJ ?_;simp only[*,go_sem];revert h;refine aT hJ (fun fz h=>?_) fun fz h=>?_
  .refine aC hJ fun kp=>?_;refine ak hJ ?_;revert h;refine bS fun cf gg h=>?_;obtain ⟨ks,kt,cl⟩:=cG gg;obtain ⟨kv,gl,gn,gp,cu⟩:=t.el _ _ cl;obtain rfl:gl=[.int .i64 cf]:=gp;cases gn;have gB:=cu 0 _ rfl;simp only[go_sem] at gB;clear cu cl;simp only[*,go_sem];refine af hJ ?_;refine aC hJ fun kx=>?_;refine ak hJ ?_;simp only[*,go_sem];refine aO hJ ?_;revert h;refine bS fun gC S gM=>?_;refine bU hJ (rg 33 13 [5,9]) (fun m w F'=>∃(H:Addr->Option Value) (d75:Option Addr) (M:Nat) (k:List (Nat×Obj)) (B:(List (List Int))) (g:Int),aZ (wU u0 R) m (B,g)=some gC/\F'=⟨H,(d,bl u0 (sl (some f) u0.az c4) a b c)::k⟩/\Ext y H/\aP (rL rI) H 35 (.slice d75 B.length M) B k/\B.length<=M/\slot w 5= .slice d75 B.length M/\slot w 9= .int .i64 g) fu ?_ ?_
   .refine ⟨y,d38,G,K,z,(IntKind.i64.wrap (cf+1)),S,rfl,Ext.refl _,Z,b0,?_⟩;simp only[*,go_sem]
   rintro ar gT F' a0 ⟨H,d75,M,k,B,g,S,rfl,T,N,gV,ky,k0⟩;refine fT hJ fun _ cy=>?_;replace t:=t.mono T;replace j:=j.mono T;replace u:=cy.hd;simp only[bu] at cy;obtain ⟨g0,g1,g2⟩:=a0.pick [2,4,7,8,10,11,12,13,15,16,17,18,21,22,23,24,25,26,27,28,30,31,32] (by decide);simp only[*,go_sem] at g0 g1 g2;have k2:cM (rg 12 35 [5,7,8,9]) gT bs:=(a0.gm (by decide)).trans (by simp only[*,go_sem]);clear a0 ab ad ae b2 b1;obtain _|ar:=ar
   .exact absurd S (by simp only[aZ,reduceCtorEq,not_false_eq_true])
   revert S;refine bS fun lb h a2=>?_;unfold wU at h;(try dsimp only at h);refine af hJ (af hJ ?_);refine aC hJ fun lh=>?_;refine ak hJ ?_;revert h;refine bS fun lj g3 h=>?_;simp only[*,go_sem];refine aU hJ _ (sK u0 (j.mono aN) g g3) ?_;revert h;refine aT hJ (fun g4 h=>?_) fun g4 h=>?_
   .refine aI hJ (af hJ ?_);refine aO hJ ?_;refine aC hJ fun lk=>?_;refine ak hJ ?_;revert h;refine bS fun ha hc h=>?_;simp only[*,go_sem];refine dN hJ (aX:=[]) [(d,bl u0 (sl (some f) u0.az c4) a b c)] k _ (Bz R t hc) (fun ll hf cS p q hg=>?_);simp only[aS] at q;subst p;obtain ⟨d133,ln,rfl,lo⟩:=cS.len;refine ⟨⟨H,(d,bl u0 (sl (some f) u0.az c4) a b c)::(hf++k)⟩,Le.refl _,?_⟩;refine aJ ?_;revert h;refine bS fun U hh h=>?_;obtain ⟨hi,c0⟩:=dr hh;simp only[*,go_sem];refine ay fun C da db=>?_;have hj:=aQ.cons db hg;try simp only[au] at db
    refine ek (r:=rI) (l:=ha) (x:=g) (cs:=#[.int .i64 g]) (e2:=3) [(C,ic g),(d,bl u0 (sl (some f) u0.az c4) a b c)] k cS hj hi rfl (by simp only[*,go_sem]) da rfl rfl fQ fQ lg lq rfl lp (by decide) (by decide) (fun lr dd a3 p q df=>?_);simp only[aS] at q;subst p;rw[<-c0] at a3;clear c0;obtain ⟨d145,a4,rfl,lv⟩:=a3.len;obtain ⟨a5,V,a6,dk,hk⟩:=a3.eX [(C,ic g),(d,bl u0 (sl (some f) u0.az c4) a b c)] k df (aE.cons da (aE.cons u (N.jK)));have hl:=aQ.sub (l:=(C,ic g)::(d,bl u0 (sl (some f) u0.az c4) a b c)::k) (l':=(C,ic g)::(d,bl u0 (sl (some f) u0.az c4) a b c)::(dd++k)) [(C,ic g),(d,bl u0 (sl (some f) u0.az c4) a b c)] dd k (by first|rfl|simp only[aS]|(simp only[aS];rfl)) (by first|rfl|simp only[aS]|(simp only[aS];rfl)) df;refine ⟨⟨a5,(C,ic g)::(d,bl u0 (sl (some f) u0.az c4) a b c)::k⟩,hk,?_⟩;obtain ⟨lx,ly,-⟩:=dk.op;replace t:=t.mono V;replace j:=j.mono V;replace u:=a6.tl.hd;replace N:=N.mono V a6.tl.tl;simp only[bu] at a6;refine aJ ?_;revert h;refine bS fun hn ho h=>?_;obtain rfl:=sI h;obtain ⟨hp,dp⟩:=dr ho;simp only[*,go_sem];refine ay fun dq hq ds=>?_;have hr:=aQ.cons ds hl;try simp only[au] at ds
    refine ek (r:=(rL rI)) (l:=B) (x:=U) (cs:=#[.slice d145 U.length a4]) (e2:=35) [(dq,.cells #[.slice d145 U.length a4] 35),(C,ic g),(d,bl u0 (sl (some f) u0.az c4) a b c)] [] N hr hp ⟨_,rfl,dk⟩ (by simp only[*,go_sem]) hq rfl rfl lz lz sj sn rfl sk (by decide) (by decide) (fun lL dt a7 p q l1=>?_);simp only[aS] at q;subst p;rw[<-dp] at a7;clear dp;obtain ⟨d165,ht,rfl,hv⟩:=a7.len;refine ⟨⟨a5,(dq,.cells #[.slice d145 U.length a4] 35)::(C,ic g)::(d,bl u0 (sl (some f) u0.az c4) a b c)::dt⟩,Le.refl _,?_⟩;refine aJ ?_;simp only[*,go_sem];refine aC hJ fun l2=>?_;refine ak hJ ?_;simp only[*,go_sem];refine ⟨ar,Nat.lt_succ_self _,_,Le.sub (List.Sublist.cons _ (List.Sublist.cons _ (List.Sublist.refl _))),a5,d165,ht,dt,hn,(IntKind.i64.wrap (g+1)),a2,rfl,(T.trans V),a7,hv,?_⟩;simp only[*,go_sem]
   obtain rfl:=sI h;refine bO ?_;simp only[go_sem];obtain rfl:=sI a2;clear a2;have h:=gM;dsimp only[aF] at h;obtain rfl:=sI h;have hx:=cv (n:=i47) (by have:=br;omega);refine ak hJ ?_;simp only[*,go_sem];refine ⟨s.length - (i47+1),by omega,_,Le.sub (List.Sublist.refl _),i47+1,H,d75,M,k,B,rfl,by omega,b5,rfl,(L.trans T),N,gV,?_⟩;simp only[*,go_sem]
  refine aI hJ (af hJ ?_);refine aC hJ fun l3=>?_;refine ak hJ ?_;simp only[*,go_sem];refine aO hJ ?_;revert h;refine bS fun hy W hz=>?_;refine bU hJ (rg 33 13 [5,9]) (fun m w F'=>∃(I:Addr->Option Value) (d172:Option Addr) (O:Nat) (o:List (Nat×Obj)) (D:(List (List Int))) (i:Int),aZ (wV u0 R) m (D,i)=some hy/\F'=⟨I,(d,bl u0 (sl (some f) u0.az c4) a b c)::o⟩/\Ext y I/\aP (rL rI) I 35 (.slice d172 D.length O) D o/\D.length<=O/\slot w 5= .slice d172 D.length O/\slot w 9= .int .i64 i) fu ?_ ?_
  .refine ⟨y,d38,G,K,z,cb.aL,W,rfl,Ext.refl _,Z,b0,?_⟩;simp only[*,go_sem]
  rintro a8 hA F' a9 ⟨I,d172,O,o,D,i,W,rfl,X,P,hB,l4,ma⟩;refine fT hJ fun _ du=>?_;replace t:=t.mono X;replace j:=j.mono X;replace u:=du.hd;simp only[bu] at du;obtain ⟨hD,hE,hF⟩:=a9.pick [2,4,7,8,10,11,12,13,15,16,17,18,21,22,23,24,32] (by decide);simp only[*,go_sem] at hD hE hF;have mb:cM (rg 12 35 [5,7,8,9]) hA bs:=(a9.gm (by decide)).trans (by simp only[*,go_sem]);clear a9 ab ad ae b2 b1;obtain _|a8:=a8
  .exact absurd W (by simp only[aZ,reduceCtorEq,not_false_eq_true])
  revert W;refine bS fun mf h ba=>?_;unfold wV at h;try dsimp only at h
  refine af hJ (af hJ ?_);refine aC hJ fun mi=>?_;refine ak hJ ?_;revert h;refine bS fun ml hG h=>?_;simp only[*,go_sem];refine aU hJ _ (sK u0 (j.mono aN) i hG) ?_;revert h;refine aT hJ (fun hI h=>?_) fun hI h=>?_
  .refine aI hJ (af hJ ?_);refine aO hJ ?_;refine aC hJ fun mn=>?_;refine ak hJ ?_;revert h;refine bS fun hK hL h=>?_;simp only[*,go_sem];refine dN hJ (aX:=[]) [(d,bl u0 (sl (some f) u0.az c4) a b c)] o _ (Bz R t hL) (fun mr hM dv p q hN=>?_);simp only[aS] at q;subst p;obtain ⟨d230,mx,rfl,my⟩:=dv.len;refine ⟨⟨I,(d,bl u0 (sl (some f) u0.az c4) a b c)::(hM++o)⟩,Le.refl _,?_⟩;refine aJ ?_;revert h;refine bS fun Y hP h=>?_;obtain ⟨hQ,dC⟩:=dr hP;simp only[*,go_sem];refine ay fun E dE dT=>?_;have hR:=aQ.cons dT hN;try simp only[au] at dT
   refine ek (r:=rI) (l:=hK) (x:=i) (cs:=#[.int .i64 i]) (e2:=3) [(E,ic i),(d,bl u0 (sl (some f) u0.az c4) a b c)] o dv hR hQ rfl (by simp only[*,go_sem]) dE rfl rfl fQ fQ lg lq rfl lp (by decide) (by decide) (fun m1 ea bb p q eb=>?_);simp only[aS] at q;subst p;rw[<-dC] at bb;clear dC;obtain ⟨d242,bc,rfl,m2⟩:=bb.len;obtain ⟨bd,ec,bj,ed,hS⟩:=bb.eX [(E,ic i),(d,bl u0 (sl (some f) u0.az c4) a b c)] o eb (aE.cons dE (aE.cons u (P.jK)));have hT:=aQ.sub (l:=(E,ic i)::(d,bl u0 (sl (some f) u0.az c4) a b c)::o) (l':=(E,ic i)::(d,bl u0 (sl (some f) u0.az c4) a b c)::(ea++o)) [(E,ic i),(d,bl u0 (sl (some f) u0.az c4) a b c)] ea o (by first|rfl|simp only[aS]|(simp only[aS];rfl)) (by first|rfl|simp only[aS]|(simp only[aS];rfl)) eb;refine ⟨⟨bd,(E,ic i)::(d,bl u0 (sl (some f) u0.az c4) a b c)::o⟩,hS,?_⟩;obtain ⟨na,nb,-⟩:=ed.op;replace u:=bj.tl.hd;replace P:=P.mono ec bj.tl.tl;simp only[bu] at bj;refine aJ ?_;revert h;refine bS fun hV hX h=>?_;obtain rfl:=sI h;obtain ⟨hY,eh⟩:=dr hX;simp only[*,go_sem];refine ay fun et hZ eu=>?_;have h0:=aQ.cons eu hT;try simp only[au] at eu
   refine ek (r:=(rL rI)) (l:=D) (x:=Y) (cs:=#[.slice d242 Y.length bc]) (e2:=35) [(et,.cells #[.slice d242 Y.length bc] 35),(E,ic i),(d,bl u0 (sl (some f) u0.az c4) a b c)] [] P h0 hY ⟨_,rfl,ed⟩ (by simp only[*,go_sem]) hZ rfl rfl lz lz sj sn rfl sk (by decide) (by decide) (fun nd ev bk p q nf=>?_);simp only[aS] at q;subst p;rw[<-eh] at bk;clear eh;obtain ⟨h1,h2,rfl,h3⟩:=bk.len;refine ⟨⟨bd,(et,.cells #[.slice d242 Y.length bc] 35)::(E,ic i)::(d,bl u0 (sl (some f) u0.az c4) a b c)::ev⟩,Le.refl _,?_⟩;refine aJ ?_;simp only[*,go_sem];refine aC hJ fun nm=>?_;refine ak hJ ?_;simp only[*,go_sem];refine ⟨a8,Nat.lt_succ_self _,_,Le.sub (List.Sublist.cons _ (List.Sublist.cons _ (List.Sublist.refl _))),bd,h1,h2,ev,hV,(IntKind.i64.wrap (i+1)),ba,rfl,(X.trans ec),bk,h3,?_⟩;simp only[*,go_sem]
  obtain rfl:=sI h;refine bO ?_;simp only[go_sem];obtain rfl:=sI ba;clear ba;have h:=hz;dsimp only[aF] at h;obtain rfl:=sI h;have hx:=cv (n:=i47) (by have:=br;omega);refine ak hJ ?_;simp only[*,go_sem];refine ⟨s.length - (i47+1),by omega,_,Le.sub (List.Sublist.refl _),i47+1,I,d172,O,o,D,rfl,by omega,b5,rfl,(L.trans X),P,hB,?_⟩;simp only[*,go_sem]
 have nn:=Nat.not_lt.2 b4;refine b6 hJ ?_;rw[List.drop_eq_nil_of_le b4] at F;obtain rfl:=sI F;clear F;have h:=fb;dsimp only[aF] at h;obtain rfl:=sI h;refine bO ?_;simp only[go_sem];refine af hJ ?_;refine aC hJ fun np=>?_;refine ak hJ ?_;simp only[*,go_sem];refine aC hJ fun eQ=>?_;obtain ⟨ns,h4,h5,eS,h6⟩:=Z.eX [(d,bl u0 (sl d3 u0.az c4) a b c)] [] eQ (aE.cons u (aE.nil _));clear eQ;refine cz hJ h6 ?_;obtain ⟨nx,nz,-⟩:=eS.op;simp only[bu] at h5;refine ax ?_;simp only[*,go_sem];exact ⟨_,(L).trans h4,Le.sub (List.nil_sublist _),_,rfl,eS⟩
def ot (u0:Int):Option Bool:=
 some (u0 != u0)
theorem td {ro:Addr->Option Value}(u0:Int){r:Bool}(h:ot u0=some r):aD Tryz.prog 191 #[.int .i64 u0] ⟨ro,[]⟩ (fun v _=>v= .bool r):=by
 unfold ot at h;obtain rfl:=sI h;refine aD.go Tryz.func191 rfl Tryz.ntmps191 Tryz.results191 (by simp) fun main J hJ A a hd hs=>?_;have b:=hs 0;clear hs;refine ah hJ ?_;simp only[*,go_sem];refine ah hJ ?_;simp only[*,go_sem];refine ax ?_;simp only[*,go_sem]
def iI (u0:Int)(a:Int):Option Bool:=
 ag (ot u0) fun b=>cond (b) (ag (ot a) fun c=>cond (!c) (some true) (some (decide (u0<a)))) (some (decide (u0<a)))
theorem jU {ro:Addr->Option Value}(u0:Int)(a:Int){r:Bool}(h:iI u0 a=some r):aD Tryz.prog 210 #[.int .i64 u0,.int .i64 a] ⟨ro,[]⟩ (fun v _=>v= .bool r):=by
 unfold iI at h;refine aD.go Tryz.func210 rfl Tryz.ntmps210 Tryz.results210 (by simp) fun main J hJ A f hd hs=>?_;have g:=hs 0;have k1:=hs 1;clear hs;refine ah hJ ?_;simp only[*,go_sem];refine ah hJ ?_;revert h;refine bS fun i b h=>?_;simp only[*,go_sem];refine aU hJ _ (td u0 b) (aJ ?_);revert h;refine cS (fun c h=>?_) fun c h=>?_
 .revert h;refine bS fun j d h=>?_;simp only[*,go_sem];refine aU hJ _ (td a d) (aJ ?_);revert h;refine cS (fun e h=>?_) fun e h=>?_
  .obtain rfl:=sI h;simp only[*,go_sem];refine ax ?_;simp only[*,go_sem]
  obtain rfl:=sI h;simp only[*,go_sem];refine ax ?_;simp only[*,go_sem]
 obtain rfl:=sI h;simp only[*,go_sem];refine ax ?_;simp only[*,go_sem]
def wX (c:Int)(st:(Int×(List Int))):Option (Fl (Int×(List Int)) (Unit×(List Int))):=
 cond (decide (c<st.1)) (ag (bf st.2 st.1) fun b=>ag (bf st.2 (IntKind.i64.wrap (st.1 - 1))) fun a=>ag (iI b a) fun d=>cond (d) (ag (bf (st.2.set (st.1).toNat a) (IntKind.i64.wrap (st.1 - 1))) fun e=>some (.nx ((IntKind.i64.wrap (st.1 - 1)),((st.2.set (st.1).toNat a).set (IntKind.i64.wrap (st.1 - 1)).toNat b)))) (some (.bk (st.1,st.2)))) (some (.bk (st.1,st.2)))
def wY (a:Int)(b:Int)(st:(Int×(List Int))):Option (Fl (Int×(List Int)) (Unit×(List Int))):=
 cond (decide (st.1<b)) (ag (aZ (wX a) fu (st.1,st.2)) fun o=>aF o (fun c=>some (.nx ((IntKind.i64.wrap (st.1+1)),c.2))) (fun _ _=>none) (fun r=>some (.rt r))) (some (.bk (st.1,st.2)))
def tf (u0:(List Int))(a:Int)(b:Int):Option (Unit×(List Int)):=
 cond (List.isEmpty u0) none (ag (aZ (wY a b) fu ((IntKind.i64.wrap (a+1)),u0)) fun o=>aF o (fun c=>some ((),c.2)) (fun _ _=>none) (fun r=>some r))
theorem BE {ro:Addr->Option Value}(u0:(List Int)){w:Value}{K:List (Nat×Obj)}(x:aP rI ro 3 w u0 K)(k:Int)(z:Int){r:(Unit×(List Int))}(h:tf u0 k z=some r):aD Tryz.prog 204 #[w,.int .i64 k,.int .i64 z] ⟨ro,K⟩ (fun v G=>∃L,(v= .tuple #[]/\aP rI ro 3 w r.2 L)/\Le ⟨ro,L⟩ G):=by
 obtain ⟨d1,c2,rfl,b4⟩:=x.len;unfold tf at h;revert h;refine cS (fun M h=>?_) fun M h=>?_
 .cases h
 obtain ⟨b,ab,rfl,rfl,b5⟩:=x.iH M;refine aD.go Tryz.func204 rfl Tryz.ntmps204 Tryz.results204 (by simp) fun main J hJ A ad hd hs=>?_;have ae:=hs 0;have k1:=hs 1;have al:=hs 2;clear hs;refine af hJ ?_;refine aC hJ fun ca=>?_;refine ak hJ ?_;simp only[*,go_sem];refine aO hJ ?_;revert h;refine bS fun ao n ar=>?_;refine bU hJ (rg 10 39 [6,7]) (fun m B F'=>∃(p:Array Value) (j:Int) (q:(List Int)),aZ (wY k z) m (j,q)=some ao/\F'=⟨ro,[(b,Obj.cells p 3)]⟩/\aP rI ro 3 (.slice (some ⟨b,0,none⟩) u0.length c2) q [(b,Obj.cells p 3)]/\slot B 6= .int .i64 j) fu ?_ ?_
 .refine ⟨ab,(IntKind.i64.wrap (k+1)),u0,n,rfl,x,?_⟩;simp only[*,go_sem]
 rintro s a0 F' N ⟨p,j,q,n,rfl,O,a2⟩;obtain ⟨P,Q,R⟩:=N.pick [0,1,2] (by decide);simp only[*,go_sem] at P Q R;clear N ad hd ae k1 al;obtain _|s:=s
 .exact absurd n (by simp only[aZ,reduceCtorEq,not_false_eq_true])
 revert n;refine bS fun cb h t=>?_;unfold wY at h;try dsimp only at h
 refine af hJ (af hJ ?_);refine aC hJ fun cd=>?_;refine ak hJ ?_;simp only[*,go_sem];revert h;refine aT hJ (fun a3 h=>?_) fun a3 h=>?_
 .refine aI hJ (af hJ ?_);refine aO hJ (af hJ ?_);refine aC hJ fun cf=>?_;refine ak hJ ?_;simp only[*,go_sem];refine aO hJ ?_;revert h;refine bS fun a4 u S=>?_;refine bU hJ (rg 16 33 [7]) (fun m B F'=>∃(d:Array Value) (a:Int) (e:(List Int)),aZ (wX k) m (a,e)=some a4/\F'=⟨ro,[(b,Obj.cells d 3)]⟩/\aP rI ro 3 (.slice (some ⟨b,0,none⟩) u0.length c2) e [(b,Obj.cells d 3)]/\slot B 7= .int .i64 a) fu ?_ ?_
  .refine ⟨p,j,q,u,rfl,O,?_⟩;simp only[*,go_sem]
  rintro C a5 F' D ⟨d,a,e,u,rfl,g,cl⟩;obtain ⟨a6,a7,a8⟩:=D.pick [0,1,2,6,10,11,12,15] (by decide);simp only[*,go_sem] at a6 a7 a8;have cu:cM (rg 10 39 [6,7]) a5 a0:=(D.gm (by decide)).trans (by simp only[*,go_sem]);clear D P Q R a2;obtain _|C:=C
  .exact absurd u (by simp only[aZ,reduceCtorEq,not_false_eq_true])
  revert u;refine bS fun cy h l=>?_;unfold wX at h;try dsimp only at h
  refine af hJ (af hJ ?_);refine aC hJ fun c0=>?_;refine cP hJ mixed 15 1 (by simp only[*,go_sem]) (by kernel_rfl) ?_;revert h;refine cS (fun a9 h=>?_) fun a9 h=>?_
  .revert h;refine bS fun f ba h=>?_;obtain ⟨da,db,T⟩:=cG ba;have dd:a<((u0.length:Nat):Int):=by have:=g.count;omega
   obtain ⟨bb,bc,bd⟩:=g.jg T;obtain rfl:bb=[.int .i64 f]:=bc;have U:=bd 0 _ rfl;simp only[go_sem] at U;have df:=(Array.getElem?_eq_some_iff.1 U).1;revert h;refine bS fun c bj h=>?_;obtain ⟨dk,dp,bk⟩:=cG bj;have dq:IntKind.i64.wrap (a - 1)<((u0.length:Nat):Int):=by have:=g.count;omega
   obtain ⟨bl,bm,bo⟩:=g.jg bk;obtain rfl:bl=[.int .i64 c]:=bm;have V:=bo 0 _ rfl;simp only[go_sem] at V;have ds:=(Array.getElem?_eq_some_iff.1 V).1;revert h;refine bS fun dt br h=>?_;simp only[*,go_sem];refine ⟨_,bD hJ fun F du=>jU f c br,cn ?_⟩;simp only[*,go_sem];revert h;refine aT hJ (fun bs h=>?_) fun bs h=>?_
   .refine aI hJ (af hJ ?_);refine aO hJ ?_;refine aC hJ fun dv=>?_;refine eE hJ mixed [15,16,17] (.pure 0 (.pure 1 (.pure 2 (.pure 3 (.pure 4 (.pure 5 (.pure 6 (.pure 7 (.pure 8 (.rd 9 (.pure 10 (.pure 11 (.pure 12 (.rd 13 (.pure 14 (.last 15 (.pure 16 (.last 17 .done)))))))))))))))))) ⟨ro,[(b,Obj.cells d 3)]⟩ (by simp only[*,go_sem]) (by kernel_rfl) ?_;have E:aP rI ro 3 (.slice (some ⟨b,0,none⟩) u0.length c2) (e.set (a).toNat c) [(b,Obj.cells (cK d (a).toNat [.int .i64 c]) 3)]:=by have H:=g.sB (i:=(a).toNat) (y:=c) (by have:=T;have:=(List.getElem?_eq_some_iff.1 this).1;simpa only[List.length_set] using this) (cs:=[.int .i64 c]) rfl;simpa only[sG,wz,Nat.mul_one,Nat.add_zero] using H
    revert h;refine bS fun bz b0 h=>?_;obtain rfl:=sI h;obtain ⟨dC,dE,W⟩:=cG b0;have dT:IntKind.i64.wrap (a - 1)<((u0.length:Nat):Int):=by have:=E.count;omega
    obtain ⟨b1,b2,b3⟩:=E.jg W;obtain rfl:b1=[.int .i64 bz]:=b2;have X:=b3 0 _ rfl;simp only[go_sem] at X;have ea:=(Array.getElem?_eq_some_iff.1 X).1;have Y:aP rI ro 3 (.slice (some ⟨b,0,none⟩) u0.length c2) ((e.set (a).toNat c).set (IntKind.i64.wrap (a - 1)).toNat f) [(b,Obj.cells (cK (cK d (a).toNat [.int .i64 c]) (IntKind.i64.wrap (a - 1)).toNat [.int .i64 f]) 3)]:=by have H:=E.sB (i:=(IntKind.i64.wrap (a - 1)).toNat) (y:=f) (by have:=W;have:=(List.getElem?_eq_some_iff.1 this).1;simpa only[List.length_set] using this) (cs:=[.int .i64 f]) rfl;simpa only[sG,wz,Nat.mul_one,Nat.add_zero] using H
    simp only[*,go_sem];obtain ⟨Z,I⟩:∃o,o=(cK (cK d (a).toNat [.int .i64 c]) (IntKind.i64.wrap (a - 1)).toNat [.int .i64 f]):=⟨_,rfl⟩
    refine cz (F:=⟨ro,[(b,Obj.cells Z 3)]⟩) hJ (by rw[I];exact Le.refl _) ?_;rw[<-I] at Y;clear I;refine aC hJ fun eb=>?_;refine ak hJ ?_;simp only[*,go_sem];refine ⟨C,Nat.lt_succ_self _,_,Le.sub (List.Sublist.refl _),Z,(IntKind.i64.wrap (a - 1)),((e.set (a).toNat c).set (IntKind.i64.wrap (a - 1)).toNat f),l,rfl,Y,?_⟩;simp only[*,go_sem]
   obtain rfl:=sI h;refine bO ?_;simp only[go_sem];obtain rfl:=sI l;clear l;have h:=S;dsimp only[aF] at h;obtain rfl:=sI h;refine aC hJ fun ec=>?_;refine ak hJ ?_;simp only[*,go_sem];refine ⟨s,Nat.lt_succ_self _,_,Le.sub (List.Sublist.refl _),d,(IntKind.i64.wrap (j+1)),e,t,rfl,g,?_⟩;simp only[*,go_sem]
  obtain rfl:=sI h;simp only[*,go_sem];refine b6 hJ ?_;refine bO ?_;simp only[go_sem];obtain rfl:=sI l;clear l;have h:=S;dsimp only[aF] at h;obtain rfl:=sI h;refine aC hJ fun ed=>?_;refine ak hJ ?_;simp only[*,go_sem];refine ⟨s,Nat.lt_succ_self _,_,Le.sub (List.Sublist.refl _),d,(IntKind.i64.wrap (j+1)),e,t,rfl,g,?_⟩;simp only[*,go_sem]
 obtain rfl:=sI h;refine bO ?_;simp only[go_sem];obtain rfl:=sI t;clear t;have h:=ar;dsimp only[aF] at h;obtain rfl:=sI h;simp only[*,go_sem];exact ⟨_,O,Le.sub (List.Sublist.refl _)⟩
def wZ (u0:(List Int))(st:(Int×Int×Int×Bool×Bool)):Option (Fl (Int×Int×Int×Bool×Bool) (Unit×(List Int))):=
 cond (decide ((IntKind.i64.wrap (st.2.1 - st.1))<=12)) (ag (tf u0 st.1 st.2.1) fun a=>some (.rt ((),a.2))) (none)
def tg (u0:(List Int))(a:Int)(b:Int)(c:Int):Option (Unit×(List Int)):=
 cond (List.isEmpty u0) none (ag (aZ (wZ u0) fu (a,b,c,true,true)) fun o=>aF o (fun d=>some ((),u0)) (fun _ _=>none) (fun r=>some r))
theorem BG {ro:Addr->Option Value}(u0:(List Int)){f:Value}{p:List (Nat×Obj)}(g:aP rI ro 3 f u0 p)(i:Int)(j:Int)(k:Int){r:(Unit×(List Int))}(h:tg u0 i j k=some r):aD Tryz.prog 189 #[f,.int .i64 i,.int .i64 j,.int .i64 k] ⟨ro,p⟩ (fun v G=>∃b,(v= .tuple #[]/\aP rI ro 3 f r.2 b)/\Le ⟨ro,b⟩ G):=by
 obtain ⟨d1,c2,rfl,Q⟩:=g.len;unfold tg at h;revert h;refine cS (fun q h=>?_) fun q h=>?_
 .cases h
 obtain ⟨s,y,rfl,rfl,R⟩:=g.iH q;refine aD.go Tryz.func189 rfl Tryz.ntmps189 Tryz.results189 (by simp) fun main J hJ A z hd hs=>?_;have B:=hs 0;have k1:=hs 1;have C:=hs 2;have D:=hs 3;clear hs;refine af hJ ?_;refine aC hJ fun S=>?_;refine ak hJ ?_;simp only[*,go_sem];refine af hJ ?_;refine aC hJ fun T=>?_;refine ak hJ ?_;simp only[*,go_sem];refine aO hJ ?_;revert h;refine bS fun E c F=>?_;refine bU hJ (rg 8 126 [1,2,3]) (fun m a F'=>∃(d:Int) (e:Int) (l:Int) (n:Bool) (o:Bool),aZ (wZ u0) m (d,e,l,n,o)=some E/\F'=⟨ro,[(s,Obj.cells y 3)]⟩/\slot a 1= .int .i64 d/\slot a 2= .int .i64 e/\slot a 3= .int .i64 l/\slot a 8= .bool n/\slot a 9= .bool o) fu ?_ ?_
 .refine ⟨i,j,k,true,true,c,rfl,?_⟩;simp only[*,go_sem]
 rintro t U F' u ⟨d,e,l,n,o,c,rfl,V,W,X,Y,Z⟩;obtain ⟨H,I,K⟩:=u.pick [0] (by decide);simp only[*,go_sem] at H I K;clear u z hd B k1 C D;obtain _|t:=t
 .exact absurd c (by simp only[aZ,reduceCtorEq,not_false_eq_true])
 revert c;refine bS fun ab h w=>?_;unfold wZ at h;try dsimp only at h
 refine aO hJ (af hJ ?_);refine aC hJ fun ad=>?_;refine ak hJ ?_;simp only[*,go_sem];refine af hJ (af hJ ?_);refine aC hJ fun ae=>?_;refine ak hJ ?_;simp only[*,go_sem];revert h;refine aT hJ (fun L h=>?_) fun L h=>?_
 .refine af hJ ?_;refine aC hJ fun al=>?_;refine ak hJ ?_;revert h;refine bS fun ao M h=>?_;obtain rfl:=sI h;simp only[*,go_sem];refine dN hJ [] [] _ (BE u0 g d e M) (fun ar a0 N b O a2=>?_);obtain ⟨rfl,x⟩:=N;obtain ⟨P,rfl⟩:=x.gL;simp only[aS] at O;subst b;refine ⟨⟨ro,[(s,Obj.cells P 3)]⟩,Le.refl _,?_⟩;obtain rfl:=sI w;clear w;have h:=F;dsimp only[aF] at h;obtain rfl:=sI h;refine ax ?_;simp only[*,go_sem];exact ⟨_,x,Le.sub (List.Sublist.refl _)⟩
 cases h
def qA (u0:(List Int))(a:Int)(b:Int)(c:Int):Option (((Int×Int)×(List Int))×Int):=
 cond (List.isEmpty u0) none (ag (bf u0 b) fun d=>ag (bf u0 a) fun e=>ag (iI d e) fun f=>cond (f) (some (((b,a),u0),IntKind.i64.wrap (c+1))) (some (((a,b),u0),c)))
theorem w5 {ro:Addr->Option Value}(u0:(List Int)){c:Value}{f:List (Nat×Obj)}(a:aP rI ro 3 c u0 f)(d:Int)(e:Int)(g:Int){b:Nat}(I:∀off sp,ro ⟨b,off,sp⟩=none){r:(((Int×Int)×(List Int))×Int)}(h:qA u0 d e g=some r):aD Tryz.prog 227 #[c,.int .i64 d,.int .i64 e,.pointer (some ⟨b,0,none⟩)] ⟨ro,(b,ic g)::f⟩ (fun v G=>∃i,(∃j,i=(b,ic r.2)::j/\v= .tuple #[.int .i64 r.1.1.1,.int .i64 r.1.1.2]/\aP rI ro 3 c r.1.2 j)/\Le ⟨ro,i⟩ G):=by
 obtain ⟨d1,c2,rfl,K⟩:=a.len;unfold qA at h;revert h;refine cS (fun k h=>?_) fun k h=>?_
 .cases h
 obtain ⟨L,M,rfl,rfl,N⟩:=a.iH k;refine aD.go Tryz.func227 rfl Tryz.ntmps227 Tryz.results227 (by simp) fun main J hJ A O hd hs=>?_;have P:=hs 0;have k1:=hs 1;have Q:=hs 2;have R:=hs 3;clear hs;refine aC hJ fun p=>?_;have q:=p.nd;simp only[keys,List.map_cons,List.map_nil,List.map_append,List.cons_append,List.nil_append,List.nodup_cons,List.mem_cons,List.mem_append,List.not_mem_nil,or_false,not_or] at q;refine af hJ ?_;refine aC hJ fun S=>?_;refine ak hJ ?_;simp only[*,go_sem];refine af hJ (af hJ ?_);refine aC hJ fun T=>?_;refine cP hJ mixed 9 2 (by simp only[*,go_sem]) (by kernel_rfl) ?_;revert h;refine bS fun l s h=>?_;obtain ⟨U,V,t⟩:=cG s;have W:e<((u0.length:Nat):Int):=by have:=a.count;omega
 obtain ⟨u,w,x⟩:=a.jg t;obtain rfl:u=[.int .i64 l]:=w;have m:=x 0 _ rfl;simp only[go_sem] at m;have X:=(Array.getElem?_eq_some_iff.1 m).1;revert h;refine bS fun n y h=>?_;obtain ⟨Y,Z,z⟩:=cG y;have ab:d<((u0.length:Nat):Int):=by have:=a.count;omega
 obtain ⟨B,C,D⟩:=a.jg z;obtain rfl:B=[.int .i64 n]:=C;have o:=D 0 _ rfl;simp only[go_sem] at o;have ad:=(Array.getElem?_eq_some_iff.1 o).1;revert h;refine bS fun ae E h=>?_;simp only[*,go_sem];refine ⟨_,bD hJ fun F al=>jU l n E,?_⟩;revert h;refine aT hJ (fun H h=>?_) fun H h=>?_
 .obtain rfl:=sI h;refine af hJ ?_;refine aC hJ fun ao=>?_;refine ak hJ ?_;simp only[*,go_sem];refine af hJ ?_;refine aC hJ fun ar=>?_;refine ak hJ ?_;simp only[*,go_sem];refine ax ?_;simp only[*,go_sem];exact ⟨_,⟨_,rfl,a⟩,Le.sub (List.Sublist.refl _)⟩
 obtain rfl:=sI h;refine aI hJ (af hJ ?_);refine aC hJ fun a0=>?_;refine ak hJ ?_;simp only[*,go_sem];refine ax ?_;simp only[*,go_sem];exact ⟨_,⟨_,rfl,a⟩,Le.sub (List.Sublist.refl _)⟩
def w6 (u0:(List Int))(d:Int)(e:Int)(f:Int)(g:Int):Option ((Int×(List Int))×Int):=
 cond (List.isEmpty u0) none (ag (qA u0 d e g) fun a=>ag (qA a.1.2 a.1.1.2 f a.2) fun b=>ag (qA b.1.2 a.1.1.1 b.1.1.1 b.2) fun c=>some ((c.1.1.2,c.1.2),c.2))
theorem HA {ro:Addr->Option Value}(u0:(List Int)){g:Value}{p:List (Nat×Obj)}(i:aP rI ro 3 g u0 p)(j:Int)(k:Int)(l:Int)(m:Int){b:Nat}(n:∀off sp,ro ⟨b,off,sp⟩=none){r:((Int×(List Int))×Int)}(h:w6 u0 j k l m=some r):aD Tryz.prog 226 #[g,.int .i64 j,.int .i64 k,.int .i64 l,.pointer (some ⟨b,0,none⟩)] ⟨ro,(b,ic m)::p⟩ (fun v G=>∃a,(∃q,a=(b,ic r.2)::q/\v= .int .i64 r.1.1/\aP rI ro 3 g r.1.2 q)/\Le ⟨ro,a⟩ G):=by
 obtain ⟨d1,c2,rfl,S⟩:=i.len;unfold w6 at h;revert h;refine cS (fun s h=>?_) fun s h=>?_
 .cases h
 obtain ⟨o,T,rfl,rfl,U⟩:=i.iH s;refine aD.go Tryz.func226 rfl Tryz.ntmps226 Tryz.results226 (by simp) fun main J hJ A y hd hs=>?_;have z:=hs 0;have k1:=hs 1;have B:=hs 2;have C:=hs 3;have D:=hs 4;clear hs;refine aC hJ fun E=>?_;have F:=E.nd;simp only[keys,List.map_cons,List.map_nil,List.map_append,List.cons_append,List.nil_append,List.nodup_cons,List.mem_cons,List.mem_append,List.not_mem_nil,or_false,not_or] at F;refine af hJ ?_;refine aC hJ fun V=>?_;refine ak hJ ?_;simp only[*,go_sem];refine af hJ ?_;refine aC hJ fun W=>?_;refine ak hJ ?_;revert h;refine bS fun c H h=>?_;simp only[*,go_sem];refine dN hJ [] [] _ (w5 u0 i j k m n H) (fun X t d a e Y=>?_);obtain ⟨Z,rfl,rfl,u⟩:=d;obtain ⟨I,rfl⟩:=u.gL;simp only[aS] at e;subst a;refine ⟨⟨ro,(b,ic c.2)::[(o,Obj.cells I 3)]⟩,Le.refl _,?_⟩;refine aJ ?_;simp only[*,go_sem];refine af hJ ?_;refine aC hJ fun ab=>?_;refine ak hJ ?_;revert h;refine bS fun f K h=>?_;simp only[*,go_sem];refine dN hJ [] [] _ (w5 c.1.2 u c.1.1.2 l c.2 n K) (fun ad t d a e ae=>?_);obtain ⟨al,rfl,rfl,w⟩:=d;obtain ⟨L,rfl⟩:=w.gL;simp only[aS] at e;subst a;refine ⟨⟨ro,(b,ic f.2)::[(o,Obj.cells L 3)]⟩,Le.refl _,?_⟩;refine aJ ?_;simp only[*,go_sem];refine af hJ ?_;refine aC hJ fun ao=>?_;refine ak hJ ?_;revert h;refine bS fun M N h=>?_;obtain rfl:=sI h;simp only[*,go_sem];refine dN hJ [] [] _ (w5 f.1.2 w c.1.1.1 f.1.1.1 f.2 n N) (fun ar t d a e a0=>?_);obtain ⟨a2,rfl,rfl,x⟩:=d;obtain ⟨O,rfl⟩:=x.gL;simp only[aS] at e;subst a;refine ⟨⟨ro,(b,ic M.2)::[(o,Obj.cells O 3)]⟩,Le.refl _,?_⟩;refine aJ ?_;simp only[*,go_sem];refine af hJ ?_;refine eY [0,2,10,12,20,28] fun a3 P Q R=>?_;simp only[*,go_sem] at P Q R;clear y hd z k1 B C D;refine aC hJ fun a4=>?_;refine ak hJ ?_;simp only[*,go_sem];refine ax ?_;simp only[*,go_sem];exact ⟨_,⟨_,rfl,x⟩,Le.sub (List.Sublist.refl _)⟩
def w7 (u0:(List Int))(b:Int)(d:Int):Option ((Int×Int)×(List Int)):=
 cond (List.isEmpty u0) none (ag (fJ (IntKind.i64.wrap (d - b)) 4) fun c=>cond (decide (8<=(IntKind.i64.wrap (d - b)))) (cond (decide (50<=(IntKind.i64.wrap (d - b)))) (none) (ag (w6 u0 (IntKind.i64.wrap (b+(IntKind.i64.wrap (c*1)))) (IntKind.i64.wrap (b+(IntKind.i64.wrap (c*2)))) (IntKind.i64.wrap (b+(IntKind.i64.wrap (c*3)))) 0) fun a=>cond ((a.2==0)) (some ((a.1.1,1),a.1.2)) (cond ((a.2==12)) (some ((a.1.1,2),a.1.2)) (some ((a.1.1,0),a.1.2))))) (some ((IntKind.i64.wrap (b+(IntKind.i64.wrap (c*2))),1),u0)))
theorem HB {ro:Addr->Option Value}(u0:(List Int)){e:Value}{g:List (Nat×Obj)}(b:aP rI ro 3 e u0 g)(a:Int)(i:Int){r:((Int×Int)×(List Int))}(h:w7 u0 a i=some r):aD Tryz.prog 207 #[e,.int .i64 a,.int .i64 i] ⟨ro,g⟩ (fun v G=>∃c,(v= .tuple #[.int .i64 r.1.1,.int .i64 r.1.2]/\aP rI ro 3 e r.2 c)/\Le ⟨ro,c⟩ G):=by
 obtain ⟨d1,c2,rfl,N⟩:=b.len;unfold w7 at h;revert h;refine cS (fun j h=>?_) fun j h=>?_
 .cases h
 obtain ⟨p,O,rfl,rfl,P⟩:=b.iH j;refine aD.go Tryz.func207 rfl Tryz.ntmps207 Tryz.results207 (by simp) fun main J hJ A k hd hs=>?_;have l:=hs 0;have k1:=hs 1;have m:=hs 2;clear hs;refine af hJ ?_;refine aC hJ fun Q=>?_;refine ak hJ ?_;simp only[*,go_sem];refine af hJ ?_;refine aC hJ fun R=>?_;refine ak hJ ?_;simp only[*,go_sem];refine af hJ ?_;refine aC hJ fun q=>?_;refine ak hJ ?_;simp only[*,go_sem];refine ay fun s t n=>?_;have S:=aQ.cons n q;try simp only[au] at n
 refine af hJ ?_;refine aC hJ fun T=>?_;refine ak hJ ?_;revert h;refine bS fun f o h=>?_;obtain ⟨U,V⟩:=kz o;clear o;simp only[*,go_sem];refine af hJ ?_;refine aC hJ fun W=>?_;refine ak hJ ?_;simp only[*,go_sem];refine af hJ ?_;refine aC hJ fun X=>?_;refine ak hJ ?_;simp only[*,go_sem];refine af hJ (af hJ ?_);refine aC hJ fun Y=>?_;refine ak hJ ?_;simp only[*,go_sem];revert h;refine aT hJ (fun u h=>?_) fun u h=>?_
 .refine af hJ (af hJ ?_);refine aC hJ fun Z=>?_;refine ak hJ ?_;simp only[*,go_sem];revert h;refine aT hJ (fun w h=>?_) fun w h=>?_
  .cases h
  refine aI hJ ?_;refine aC hJ fun ab=>?_;refine ak hJ ?_;revert h;refine bS fun x y h=>?_;simp only[*,go_sem];refine dN hJ [] [] _ (HA u0 b (IntKind.i64.wrap (a+(IntKind.i64.wrap (f*1)))) (IntKind.i64.wrap (a+(IntKind.i64.wrap (f*2)))) (IntKind.i64.wrap (a+(IntKind.i64.wrap (f*3)))) 0 t y) (fun ad ae z c B al=>?_);obtain ⟨ao,rfl,rfl,d⟩:=z;obtain ⟨C,rfl⟩:=d.gL;simp only[aS] at B;subst c;refine ⟨⟨ro,(s,ic x.2)::[(p,Obj.cells C 3)]⟩,Le.refl _,?_⟩;refine aJ ?_;simp only[*,go_sem];refine af hJ ?_;refine eY [0,6,7,9,11,44] fun ar D E F=>?_;simp only[*,go_sem] at D E F;clear k hd l k1 m;refine aC hJ fun a0=>?_;refine ak hJ ?_;simp only[*,go_sem];refine aO hJ (af hJ ?_);refine aC hJ fun a2=>?_;refine ak hJ ?_;simp only[*,go_sem];revert h;refine aT hJ (fun H h=>?_) fun H h=>?_
  .obtain rfl:=sI h;refine af hJ ?_;refine aC hJ fun a3=>?_;refine ak hJ ?_;simp only[*,go_sem];refine ax ?_;simp only[*,go_sem];exact ⟨_,d,Le.sub (.cons _ (List.Sublist.refl _))⟩
  refine af hJ ?_;refine aC hJ fun a4=>?_;refine ak hJ ?_;simp only[*,go_sem];revert h;refine aT hJ (fun I h=>?_) fun I h=>?_
  .obtain rfl:=sI h;refine af hJ ?_;refine aC hJ fun a5=>?_;refine ak hJ ?_;simp only[*,go_sem];refine ax ?_;simp only[*,go_sem];exact ⟨_,d,Le.sub (.cons _ (List.Sublist.refl _))⟩
  obtain rfl:=sI h;refine af hJ ?_;refine aC hJ fun a6=>?_;refine ak hJ ?_;simp only[*,go_sem];refine ax ?_;simp only[*,go_sem];exact ⟨_,d,Le.sub (.cons _ (List.Sublist.refl _))⟩
 obtain rfl:=sI h;refine aI hJ (af hJ ?_);refine aC hJ fun a7=>?_;refine ak hJ ?_;simp only[*,go_sem];refine aO hJ (af hJ ?_);refine aC hJ fun a8=>?_;refine ak hJ ?_;simp only[*,go_sem];refine b8 hJ ?_;refine af hJ ?_;refine eY [0,6,7,11] fun a9 K L M=>?_;simp only[*,go_sem] at K L M;clear k hd l k1 m;refine aC hJ fun ba=>?_;refine ak hJ ?_;simp only[*,go_sem];refine ax ?_;simp only[*,go_sem];exact ⟨_,b,Le.sub (.cons _ (List.Sublist.refl _))⟩
end Go.Proofs.YtghbphimkgamkaaGreatDoor
end
section
namespace Go.Sep
open Go Go.Conc
variable {P : Program} {main : Bool} {J : Goroutine → aa → Prop} {Q : Ex → Act → aa → Prop} {a : Act} {F : aa}
def Qn (E:Act->aa->Prop)(Q:Ex->Act->aa->Prop):Ex->Act->aa->Prop
 | .normal,a,F=>∃F0,Le F0 F/\E a F0
 | .exit i,a,F=>Q (.exit i) a F
 | .ret,a,F=>Q .ret a F
theorem HC (E:Act->aa->Prop)(Q:Ex->Act->aa->Prop)(i:Nat)(a:Act)(F:aa):Qn E Q (.exit i) a F=Q (.exit i) a F:=Eq.trans rfl rfl
theorem HD (E:Act->aa->Prop)(Q:Ex->Act->aa->Prop)(a:Act)(F:aa):Qn E Q .ret a F=Q .ret a F:=Eq.trans rfl rfl
attribute [go_sem] HC HD
theorem Qn.intro {E:Act->aa->Prop}(h:∃F0,Le F0 F/\E a F0):Qn E Q .normal a F:=h
theorem gw (hJ:Closed P main J){x y:Code}(E:Act->aa->Prop)(c:Wp J x (Qn E Q) a F)(d:∀a F,E a F->Wp J y Q a F):Wp J (.seq x y) Q a F:=
 af hJ (c.mono fun e a F b=>by
  cases e with
  |normal=>obtain ⟨F0,hle,f⟩:=b;exact cz hJ hle (d a F0 f)
  |exit i=>exact b
  |ret=>exact b)
theorem aP.cU {ro:Addr->Option Value}{e:TypeId}{b n cap:Nat}{l:List Int}{arr:Array Value}(h:aP rI ro e (.slice (some ⟨b,0,none⟩) n cap) l [(b,.cells arr e)]){i x:Int}(q:bf l i=some x):
  0<=i/\i<((n:Nat):Int)/\arr[i.toNat]?=some (.int .i64 x)/\i.toNat<arr.size:=by
 obtain ⟨a,f,c⟩:=cG q
 have g:=h.count
 obtain ⟨cs,d,hm⟩:=h.jg c
 obtain rfl:cs=[.int .i64 x]:=d
 have m:=hm 0 _ rfl
 have m:arr[i.toNat*1+0]?=some (.int .i64 x):=m
 rw[Nat.mul_one,Nat.add_zero] at m
 exact ⟨a,by omega,m,(Array.getElem?_eq_some_iff.1 m).1⟩
theorem aP.fX {ro:Addr->Option Value}{e:TypeId}{b n cap:Nat}{l:List Int}{arr:Array Value}(h:aP rI ro e (.slice (some ⟨b,0,none⟩) n cap) l [(b,.cells arr e)]){i:Int}(a:0<=i)(c:i<((n:Nat):Int))(y:Int):
  aP rI ro e (.slice (some ⟨b,0,none⟩) n cap) (l.set i.toNat y) [(b,.cells (cK arr i.toNat [.int .i64 y]) e)]:=by
 have d:=h.count
 have:=h.sB (i:=i.toNat) (y:=y) (by omega) (cs:=[.int .i64 y]) rfl
 rwa [show i.toNat*rI.n=i.toNat from Nat.mul_one _] at this
end Go.Sep
end
section
namespace Go.Proofs.YtghbphimkgamkaaGreatDoor
open Go Go.Sep Go.Proofs
set_option maxRecDepth 100000
set_option maxHeartbeats 4000000
def lJ (m:Nat):Nat:=if m=0 then 0 else m.log2+1
def th (n:Int):Option Int:=if 0<=n/\n<256 then some ((lJ n.toNat:Nat):Int) else none
theorem HE:∀m:Fin 256,lJ m.val<=8:=by decide+kernel
theorem HF {ro:Addr->Option Value}(n:Int)(c:0<=n)(d:n<256):aD Tryz.prog 214 #[.int .u64 n] ⟨ro,[]⟩ (fun v _=>v= .int .i64 ((lJ n.toNat:Nat):Int)):=by
 refine aD.go Tryz.func214 rfl Tryz.ntmps214 Tryz.results214 (by simp) fun main J hJ A e hd hs=>?_;have f:=hs 0;clear hs;have a1:¬(4294967296:Int)<=n:=by omega
 have a2:¬(65536:Int)<=n:=by omega
 have a3:¬(256:Int)<=n:=by omega
 have g:Tryz.prog.underlying 192=some (.int .u64):=by kernel_rfl
 have h:Tryz.prog.underlying 5=some (.int .u8):=by kernel_rfl
 have i:Tryz.prog.underlying 3=some (.int .i64):=by kernel_rfl
 have j:Tryz.prog.underlying 9=some .string:=by kernel_rfl
 have a4:IntKind.u8.wrap n=n:=IntWalk.u8_in n ⟨c,by omega⟩;repeat refine af hJ ?_
 refine ak hJ ?_;simp only[*,go_sem];repeat refine af hJ ?_
 refine ak hJ ?_;simp only[*,go_sem];repeat refine af hJ ?_
 refine dM hJ (by simp only[*,go_sem,ge_iff_le]) ?_;refine aI hJ ?_;repeat refine af hJ ?_
 refine ak hJ ?_;simp only[*,go_sem];repeat refine af hJ ?_
 refine dM hJ (by simp only[*,go_sem,ge_iff_le]) ?_;refine aI hJ ?_;repeat refine af hJ ?_
 refine ak hJ ?_;simp only[*,go_sem];repeat refine af hJ ?_
 refine dM hJ (by simp only[*,go_sem,ge_iff_le]) ?_;refine aI hJ ?_;repeat refine af hJ ?_
 refine ak hJ ?_;simp only[*,go_sem];generalize a:ByteArray.mk _=S;have key:∀m:Fin 256,S[m.val]?=some (UInt8.ofNat (lJ m.val)):=by rw[<-a];decide+kernel
 clear a;have b:n.toNat<256:=by omega
 have hb:=key ⟨n.toNat,b⟩;have hle:=HE ⟨n.toNat,b⟩;simp only at hb hle;simp only[hb,Option.map_some];refine ax ?_;simp only[*,go_sem];have e1:(UInt8.ofNat (lJ n.toNat)).toNat=lJ n.toNat:=by rw[UInt8.toNat_ofNat'];omega
 rw[e1,IntWalk.i64_in (lJ n.toNat:Int) ⟨by omega,by omega⟩,Int.zero_add,IntWalk.i64_in (lJ n.toNat:Int) ⟨by omega,by omega⟩]
theorem BH {ro:Addr->Option Value}(n:Int){r:Int}(h:th n=some r):aD Tryz.prog 190 #[.int .u64 n] ⟨ro,[]⟩ (fun v _=>v= .int .i64 r):=by
 unfold th at h;split at h
 case isFalse=>cases h
 rename_i a;obtain ⟨b,c⟩:=a;cases h;refine aD.go Tryz.func190 rfl Tryz.ntmps190 Tryz.results190 (by simp) fun main J hJ A d hd hs=>?_;have e:=hs 0;clear hs;repeat refine af hJ ?_
 refine ak hJ ?_;simp only[*,go_sem];repeat refine af hJ ?_
 refine dM hJ (by simp only[*,go_sem]) ?_;refine aI hJ ?_;repeat refine af hJ ?_
 refine ak hJ ?_;simp only[*,go_sem];refine aU hJ _ (HF n b c) (aJ ?_);simp only[*,go_sem];refine ax ?_;simp only[*,go_sem]
theorem HG:Tryz.prog.underlying 3=some (.int .i64):=by kernel_rfl
attribute [go_sem] HG
theorem HH:Tryz.prog.underlying 192=some (.int .u64):=by kernel_rfl
attribute [go_sem] HH
theorem HI:Tryz.prog.underlying 219=some (.int .u64):=by kernel_rfl
attribute [go_sem] HI
theorem HJ:Tryz.prog.underlying 260=some (.int .u64):=by kernel_rfl
attribute [go_sem] HJ
def w8 (u0:Int):Option (Int×Int):=
 ag (p5 u0 13) fun a=>ag (vR (g5 u0 a) 7) fun b=>ag (p5 (g5 (g5 u0 a) b) 17) fun c=>some ((g5 (g5 (g5 u0 a) b) c),(g5 (g5 (g5 u0 a) b) c))
theorem HK {ro:Addr->Option Value}(u0:Int){a:Nat}(r1:∀off sp,ro ⟨a,off,sp⟩=none){r:(Int×Int)}(h:w8 u0=some r):aD Tryz.prog 224 #[.pointer (some ⟨a,0,none⟩)] ⟨ro,[(a,.cells #[.int .u64 u0] 260)]⟩ (fun v G=>∃b,(v= .int .u64 r.1/\b=[(a,.cells #[.int .u64 r.2] 260)])/\Le ⟨ro,b⟩ G):=by
 unfold w8 at h;refine aD.go Tryz.func224 rfl Tryz.ntmps224 Tryz.results224 (by simp) fun main J hJ A g hd hs=>?_;have i:=hs 0;clear hs;refine ah hJ ?_;simp only[*,go_sem];refine af hJ ?_;refine eE hJ mixed [9] (.pure 0 (.pure 1 (.rd 2 (.pure 3 (.pure 4 (.rd 5 (.pure 6 (.pure 7 (.pure 8 (.last 9 .done)))))))))) ⟨ro,[(a,.cells #[.int .u64 u0] 260)]⟩ (by simp only[*,go_sem]) (by kernel_rfl) ?_;revert h;refine bS fun c d h=>?_;obtain ⟨q,j⟩:=vQ d;clear d;try simp only[go_sem] at j
 simp only[*,go_sem];refine af hJ ?_;refine eE hJ mixed [9] (.pure 0 (.pure 1 (.rd 2 (.pure 3 (.pure 4 (.rd 5 (.pure 6 (.pure 7 (.pure 8 (.last 9 .done)))))))))) ⟨ro,[(a,.cells #[.int .u64 (g5 u0 c)] 260)]⟩ (by simp only[*,go_sem]) (by kernel_rfl) ?_;revert h;refine bS fun k e h=>?_;obtain ⟨s,l⟩:=FC e;clear e;try simp only[go_sem] at l
 simp only[*,go_sem];refine af hJ ?_;refine eE hJ mixed [9] (.pure 0 (.pure 1 (.rd 2 (.pure 3 (.pure 4 (.rd 5 (.pure 6 (.pure 7 (.pure 8 (.last 9 .done)))))))))) ⟨ro,[(a,.cells #[.int .u64 (g5 (g5 u0 c) k)] 260)]⟩ (by simp only[*,go_sem]) (by kernel_rfl) ?_;revert h;refine bS fun t f h=>?_;obtain rfl:=sI h;obtain ⟨u,m⟩:=vQ f;clear f;try simp only[go_sem] at m
 simp only[*,go_sem];refine af hJ ?_;refine eY [0,2] fun w n o p=>?_;simp only[*,go_sem] at n o p;clear g hd i;refine ak hJ ?_;simp only[*,go_sem];refine ax ?_;simp only[*,go_sem];exact ⟨_,rfl,Le.sub (List.Sublist.refl _)⟩
def w9 (u0:Int):Option Int:=
 ag (th (IntKind.u64.wrap u0)) fun a=>ag (p5 1 a) fun b=>some b
theorem HL {ro:Addr->Option Value}(u0:Int){r:Int}(h:w9 u0=some r):aD Tryz.prog 223 #[.int .i64 u0] ⟨ro,[]⟩ (fun v _=>v= .int .u64 r):=by
 unfold w9 at h;refine aD.go Tryz.func223 rfl Tryz.ntmps223 Tryz.results223 (by simp) fun main J hJ A d hd hs=>?_;have e:=hs 0;clear hs;refine ah hJ ?_;simp only[*,go_sem];refine ah hJ ?_;revert h;refine bS fun f b h=>?_;simp only[*,go_sem];refine aU hJ _ (BH (IntKind.u64.wrap u0) b) (aJ ?_);revert h;refine bS fun g a h=>?_;obtain rfl:=sI h;obtain ⟨i,c⟩:=vQ a;clear a;try simp only[go_sem] at c
 simp only[*,go_sem];refine ax ?_;simp only[*,go_sem]
def xb (a:Int)(e:Int)(c:Int)(h:Int)(st:(Int×(List Int)×Int)):Option (Fl (Int×(List Int)×Int) (Unit×(List Int))):=
 cond (decide (st.1<=(IntKind.i64.wrap ((IntKind.i64.wrap (a+(IntKind.i64.wrap (h*2))))+1)))) (ag (ag (w8 st.2.2) fun b=>ag (cond (decide ((IntKind.i64.wrap (e - a))<=(IntKind.i64.wrap (iC b.1 (IntKind.u64.wrap (c - 1)))))) (some (.bk (IntKind.i64.wrap ((IntKind.i64.wrap (iC b.1 (IntKind.u64.wrap (c - 1)))) - (IntKind.i64.wrap (e - a)))))) (some (.bk (IntKind.i64.wrap (iC b.1 (IntKind.u64.wrap (c - 1)))))):Option (Fl Int (Unit×(List Int)))) fun o=>aF o (fun d=>ag (bf st.2.1 (IntKind.i64.wrap (a+d))) fun f=>ag (bf st.2.1 st.1) fun i=>ag (bf (st.2.1.set (st.1).toNat f) (IntKind.i64.wrap (a+d))) fun j=>some (.bk (((st.2.1.set (st.1).toNat f).set (IntKind.i64.wrap (a+d)).toNat i),b.2))) (fun _ _=>none) (fun r=>some (.rt r)):Option (Fl ((List Int)×Int) (Unit×(List Int)))) fun o=>aF o (fun g=>some (.nx ((IntKind.i64.wrap (st.1+1)),g.1,g.2))) (fun _ _=>none) (fun r=>some (.rt r))) (some (.bk (st.1,st.2.1,st.2.2)))
def xd (u0:(List Int))(a:Int)(b:Int):Option (Unit×(List Int)):=
 cond (List.isEmpty u0) none (cond (decide (8<=(IntKind.i64.wrap (b - a)))) (ag (w9 (IntKind.i64.wrap (b - a))) fun d=>ag (fJ (IntKind.i64.wrap (b - a)) 4) fun c=>ag (aZ (xb a b d c) fu ((IntKind.i64.wrap ((IntKind.i64.wrap (a+(IntKind.i64.wrap (c*2)))) - 1)),u0,(IntKind.u64.wrap (IntKind.i64.wrap (b - a))))) fun o=>aF o (fun e=>some ((),e.2.1)) (fun _ _=>none) (fun r=>some r)) (some ((),u0)))
theorem HM {ro:Addr->Option Value}(u0:(List Int)){x:Value}{H:List (Nat×Obj)}(l:aP rI ro 3 x u0 H)(b:Int)(d:Int){r:(Unit×(List Int))}(h:xd u0 b d=some r):aD Tryz.prog 206 #[x,.int .i64 b,.int .i64 d] ⟨ro,H⟩ (fun v G=>∃n,(v= .tuple #[]/\aP rI ro 3 x r.2 n)/\Le ⟨ro,n⟩ G):=by
 obtain ⟨d1,c2,rfl,bm⟩:=l.len;unfold xd at h;revert h;refine cS (fun I h=>?_) fun I h=>?_
 .cases h
 obtain ⟨c,T,rfl,rfl,bo⟩:=l.iH I;refine aD.go Tryz.func206 rfl Tryz.ntmps206 Tryz.results206 (by simp) fun main J hJ A U hd hs=>?_;have V:=hs 0;have k1:=hs 1;have W:=hs 2;clear hs;refine af hJ ?_;refine aC hJ fun br=>?_;refine ak hJ ?_;simp only[*,go_sem];refine af hJ ?_;refine aC hJ fun bs=>?_;refine ak hJ ?_;simp only[*,go_sem];revert h;refine aT hJ (fun X h=>?_) fun X h=>?_
 .refine af hJ ?_;refine aC hJ fun Y=>?_;refine ak hJ ?_;simp only[*,go_sem];refine ay fun g Z K=>?_;have bz:=aQ.cons K Y;try simp only[au] at K
  refine af hJ ?_;refine aC hJ fun b0=>?_;refine ak hJ ?_;revert h;refine bS fun j ab h=>?_;simp only[*,go_sem];refine aU hJ _ (HL (IntKind.i64.wrap (d - b)) ab) (aJ ?_);simp only[*,go_sem];refine af hJ ?_;refine aC hJ fun b1=>?_;refine ak hJ ?_;revert h;refine bS fun L M h=>?_;obtain ⟨b2,b3⟩:=kz M;clear M;simp only[*,go_sem];refine aO hJ ?_;revert h;refine bS fun ad o ae=>?_;refine bU hJ (rg 26 39 [9,10]) (fun m a F'=>∃(e:Array Value) (f:Int) (p:(List Int)) (q:Int),aZ (xb b d j L) m (f,p,q)=some ad/\F'=⟨ro,(g,.cells #[.int .u64 q] 260)::[(c,Obj.cells e 3)]⟩/\aP rI ro 3 (.slice (some ⟨c,0,none⟩) u0.length c2) p [(c,Obj.cells e 3)]/\slot a 9= .int .i64 f) fu ?_ ?_
  .refine ⟨T,(IntKind.i64.wrap ((IntKind.i64.wrap (b+(IntKind.i64.wrap (L*2)))) - 1)),u0,(IntKind.u64.wrap (IntKind.i64.wrap (d - b))),o,rfl,l,?_⟩;simp only[*,go_sem]
  rintro y N F' O ⟨e,f,p,q,o,rfl,s,P⟩;obtain ⟨z,B,C⟩:=O.pick [0,1,6,7,8] (by decide);simp only[*,go_sem] at z B C;clear O U hd V k1 W;obtain _|y:=y
  .exact absurd o (by simp only[aZ,reduceCtorEq,not_false_eq_true])
  revert o;refine bS fun b4 h D=>?_;unfold xb at h;try dsimp only at h
  refine af hJ (af hJ ?_);refine aC hJ fun b5=>?_;refine ak hJ ?_;simp only[*,go_sem];revert h;refine aT hJ (fun al h=>?_) fun al h=>?_
  .refine aI hJ ?_;revert h;refine bS fun ao h ar=>?_;refine gw hJ (fun a F'=>∃(t:Array Value) (u:(List Int)) (w:Int),some (Fl.bk (u,w):Fl ((List Int)×Int) (Unit×(List Int)))=some ao/\F'=⟨ro,(g,.cells #[.int .u64 w] 260)::[(c,Obj.cells t 3)]⟩/\aP rI ro 3 (.slice (some ⟨c,0,none⟩) u0.length c2) u [(c,Obj.cells t 3)]/\sz a=65/\a.defers=[]/\cM (rg 26 39 [9,10]) a N/\slot a 0= .slice (some ⟨c,0,none⟩) u0.length c2/\slot a 1= .int .i64 b/\slot a 6= .int .i64 (IntKind.i64.wrap (d - b))/\slot a 7= .pointer (some ⟨g,0,none⟩)/\slot a 8= .int .u64 j/\slot a 9= .int .i64 f) ?_ ?_
   .refine aO hJ (af hJ ?_);refine aC hJ fun ca=>?_;refine ak hJ ?_;revert h;refine bS fun i a0 h=>?_;simp only[*,go_sem];refine dN hJ [] ([(c,Obj.cells e 3)]) _ (HK q Z a0) (fun cb cd a2 n a3 cf=>?_);obtain ⟨rfl,rfl⟩:=a2;simp only[aS] at a3;subst n;refine ⟨⟨ro,(g,.cells #[.int .u64 i.2] 260)::[(c,Obj.cells e 3)]⟩,Le.refl _,?_⟩;refine aJ ?_;simp only[*,go_sem];revert h;refine bS fun a4 h a5=>?_;refine gw hJ (fun a F'=>∃(k:Int),some (Fl.bk k:Fl Int (Unit×(List Int)))=some a4/\F'=⟨ro,(g,.cells #[.int .u64 i.2] 260)::[(c,Obj.cells e 3)]⟩/\sz a=65/\a.defers=[]/\cM (rg 26 39 [9,10]) a N/\slot a 0= .slice (some ⟨c,0,none⟩) u0.length c2/\slot a 1= .int .i64 b/\slot a 6= .int .i64 (IntKind.i64.wrap (d - b))/\slot a 7= .pointer (some ⟨g,0,none⟩)/\slot a 8= .int .u64 j/\slot a 9= .int .i64 f/\slot a 10= .int .i64 k) ?_ ?_
    .refine af hJ ?_;refine aC hJ fun cl=>?_;refine ak hJ ?_;simp only[*,go_sem];revert h;refine aT hJ (fun a6 h=>?_) fun a6 h=>?_
     .refine aC hJ fun cu=>?_;refine ak hJ ?_;simp only[*,go_sem];refine Qn.intro ⟨_,Le.sub (List.Sublist.refl _),(IntKind.i64.wrap ((IntKind.i64.wrap (iC i.1 (IntKind.u64.wrap (j - 1)))) - (IntKind.i64.wrap (d - b)))),h,rfl,?_⟩;simp only[*,go_sem]
     refine aI hJ ?_;simp only[*,go_sem];refine Qn.intro ⟨_,Le.sub (List.Sublist.refl _),(IntKind.i64.wrap (iC i.1 (IntKind.u64.wrap (j - 1)))),h,rfl,?_⟩;simp only[*,go_sem]
    rintro cy F' ⟨k,Q,rfl,c0,da,db,dd,df,dk,dp,dq,ds,dt⟩;obtain rfl:=sI Q;clear Q;have h:=a5;dsimp only[aF] at h;clear z B C P;refine aC hJ fun du=>?_;refine eE hJ mixed [17,18,19] (.pure 0 (.pure 1 (.pure 2 (.pure 3 (.pure 4 (.pure 5 (.pure 6 (.pure 7 (.pure 8 (.pure 9 (.pure 10 (.rd 11 (.pure 12 (.pure 13 (.pure 14 (.rd 15 (.pure 16 (.last 17 (.pure 18 (.last 19 .done)))))))))))))))))))) ⟨ro,[(g,.cells #[.int .u64 i.2] 260),(c,Obj.cells e 3)]⟩ (by simp only[*,go_sem]) (by kernel_rfl) ?_;revert h;refine bS fun E a7 h=>?_;obtain ⟨dv,dC,dE,dT⟩:=s.cU a7;revert h;refine bS fun F a8 h=>?_;obtain ⟨a9,ba,ea,eb⟩:=s.cU a8;have R:=s.fX a9 ba E;revert h;refine bS fun ec bb h=>?_;obtain ⟨bc,bd,ed,eh⟩:=R.cU bb;have bj:=R.fX bc bd F;simp only[*,go_sem];refine Qn.intro ⟨_,Le.sub (List.Sublist.refl _),(cK (cK e (f).toNat [.int .i64 E]) (IntKind.i64.wrap (b+k)).toNat [.int .i64 F]),((p.set (f).toNat E).set (IntKind.i64.wrap (b+k)).toNat F),i.2,h,rfl,bj,?_⟩;simp only[*,go_sem]
   rintro et F' ⟨t,u,w,S,rfl,bl,eu,ev,eQ,eS,e0,e1,e2,e3,fa⟩;obtain rfl:=sI S;clear S;have h:=ar;dsimp only[aF] at h;obtain rfl:=sI h;clear z B C P;refine aC hJ fun fb=>?_;refine ak hJ ?_;simp only[*,go_sem];refine ⟨y,Nat.lt_succ_self _,_,Le.sub (List.Sublist.refl _),t,(IntKind.i64.wrap (f+1)),u,w,D,rfl,bl,?_⟩;simp only[*,go_sem]
  obtain rfl:=sI h;refine bO ?_;simp only[go_sem];obtain rfl:=sI D;clear D;have h:=ae;dsimp only[aF] at h;obtain rfl:=sI h;simp only[*,go_sem];exact ⟨_,s,Le.sub (.cons _ (List.Sublist.refl _))⟩
 obtain rfl:=sI h;refine aI hJ ?_;simp only[*,go_sem];exact ⟨_,l,Le.sub (List.Sublist.refl _)⟩
def xe (u0:(List Int))(a:Int)(e:Int)(b:Int)(c:Int)(d:Int)(st:Int):Option (Fl Int ((Int×Bool)×(List Int))):=
 cond (decide (st<=(IntKind.i64.wrap (e - 1)))) (ag (bf ((u0.set (a).toNat c).set (b).toNat d) st) fun f=>ag (bf ((u0.set (a).toNat c).set (b).toNat d) a) fun g=>ag (iI f g) fun h=>cond (h) (some (.nx (IntKind.i64.wrap (st+1)))) (some (.bk st))) (some (.bk st))
def xg (u0:(List Int))(a:Int)(b:Int)(c:Int)(d:Int)(e:Int)(st:Int):Option (Fl Int ((Int×Bool)×(List Int))):=
 cond (decide (e<=st)) (ag (bf ((u0.set (a).toNat c).set (b).toNat d) st) fun f=>ag (bf ((u0.set (a).toNat c).set (b).toNat d) a) fun g=>ag (iI f g) fun h=>cond (!h) (some (.nx (IntKind.i64.wrap (st - 1)))) (some (.bk st))) (some (.bk st))
def xh (b:Int)(c:Int)(a:(List Int))(st:Int):Option (Fl Int ((Int×Bool)×(List Int))):=
 cond (decide (st<=c)) (ag (bf a st) fun d=>ag (bf a b) fun e=>ag (iI d e) fun f=>cond (f) (some (.nx (IntKind.i64.wrap (st+1)))) (some (.bk st))) (some (.bk st))
def xj (b:Int)(a:(List Int))(c:Int)(st:Int):Option (Fl Int ((Int×Bool)×(List Int))):=
 cond (decide (c<=st)) (ag (bf a st) fun d=>ag (bf a b) fun e=>ag (iI d e) fun f=>cond (!f) (some (.nx (IntKind.i64.wrap (st - 1)))) (some (.bk st))) (some (.bk st))
def xk (c:Int)(st:(Int×Int×(List Int))):Option (Fl (Int×Int×(List Int)) ((Int×Bool)×(List Int))):=
 ag (ag (aZ (xh c st.2.1 st.2.2) fu st.1) fun o=>aF o (fun e=>some (.bk e)) (fun _ _=>none) (fun r=>some (.rt r)):Option (Fl Int ((Int×Bool)×(List Int)))) fun o=>aF o (fun a=>ag (ag (aZ (xj c st.2.2 a) fu st.2.1) fun o=>aF o (fun f=>some (.bk f)) (fun _ _=>none) (fun r=>some (.rt r)):Option (Fl Int ((Int×Bool)×(List Int)))) fun o=>aF o (fun b=>cond (decide (b<a)) (some (.bk (a,b,st.2.2))) (ag (bf st.2.2 b) fun d=>ag (bf st.2.2 a) fun g=>ag (bf (st.2.2.set (a).toNat d) b) fun h=>some (.nx ((IntKind.i64.wrap (a+1)),(IntKind.i64.wrap (b - 1)),((st.2.2.set (a).toNat d).set (b).toNat g))))) (fun _ _=>none) (fun r=>some (.rt r))) (fun _ _=>none) (fun r=>some (.rt r))
def xl (u0:(List Int))(a:Int)(h:Int)(b:Int):Option ((Int×Bool)×(List Int)):=
 cond (List.isEmpty u0) none (ag (bf u0 b) fun c=>ag (bf u0 a) fun d=>ag (bf (u0.set (a).toNat c) b) fun t=>ag (ag (aZ (xe u0 a h b c d) fu (IntKind.i64.wrap (a+1))) fun o=>aF o (fun m=>some (.bk m)) (fun _ _=>none) (fun r=>some (.rt r)):Option (Fl Int ((Int×Bool)×(List Int)))) fun o=>aF o (fun g=>ag (ag (aZ (xg u0 a b c d g) fu (IntKind.i64.wrap (h - 1))) fun o=>aF o (fun n=>some (.bk n)) (fun _ _=>none) (fun r=>some (.rt r)):Option (Fl Int ((Int×Bool)×(List Int)))) fun o=>aF o (fun e=>cond (decide (e<g)) (ag (bf ((u0.set (a).toNat c).set (b).toNat d) a) fun i=>ag (bf ((u0.set (a).toNat c).set (b).toNat d) e) fun p=>ag (bf (((u0.set (a).toNat c).set (b).toNat d).set (e).toNat i) a) fun u=>some ((e,true),((((u0.set (a).toNat c).set (b).toNat d).set (e).toNat i).set (a).toNat p))) (ag (bf ((u0.set (a).toNat c).set (b).toNat d) e) fun j=>ag (bf ((u0.set (a).toNat c).set (b).toNat d) g) fun q=>ag (bf (((u0.set (a).toNat c).set (b).toNat d).set (g).toNat j) e) fun v=>ag (ag (aZ (xk a) fu ((IntKind.i64.wrap (g+1)),(IntKind.i64.wrap (e - 1)),((((u0.set (a).toNat c).set (b).toNat d).set (g).toNat j).set (e).toNat q))) fun o=>aF o (fun k=>some (.bk (k.2.1,k.2.2))) (fun _ _=>none) (fun r=>some (.rt r)):Option (Fl (Int×(List Int)) ((Int×Bool)×(List Int)))) fun o=>aF o (fun f=>ag (bf f.2 a) fun l=>ag (bf f.2 f.1) fun s=>ag (bf (f.2.set (f.1).toNat l) a) fun w=>some ((f.1,false),((f.2.set (f.1).toNat l).set (a).toNat s))) (fun _ _=>none) (fun r=>some r))) (fun _ _=>none) (fun r=>some r)) (fun _ _=>none) (fun r=>some r))
theorem HN {ro:Addr->Option Value}(u0:(List Int)){S:Value}{bb:List (Nat×Obj)}(x:aP rI ro 3 S u0 bb)(c:Int)(y:Int)(p:Int){r:((Int×Bool)×(List Int))}(h:xl u0 c y p=some r):aD Tryz.prog 212 #[S,.int .i64 c,.int .i64 y,.int .i64 p] ⟨ro,bb⟩ (fun v G=>∃bc,(v= .tuple #[.int .i64 r.1.1,.bool r.1.2]/\aP rI ro 3 S r.2 bc)/\Le ⟨ro,bc⟩ G):=by
 obtain ⟨d1,c2,rfl,ln⟩:=x.len;unfold xl at h;revert h;refine cS (fun bd h=>?_) fun bd h=>?_
 .cases h
 obtain ⟨b,bj,rfl,rfl,lo⟩:=x.iH bd;refine aD.go Tryz.func212 rfl Tryz.ntmps212 Tryz.results212 (by simp) fun main J hJ A bl hd hs=>?_;have bm:=hs 0;have k1:=hs 1;have bo:=hs 2;have br:=hs 3;clear hs;refine af hJ ?_;refine aC hJ fun lr=>?_;refine ak hJ ?_;simp only[*,go_sem];refine af hJ ?_;refine aC hJ fun lv=>?_;refine eE hJ mixed [13,14,15] (.pure 0 (.pure 1 (.pure 2 (.pure 3 (.pure 4 (.pure 5 (.pure 6 (.rd 7 (.pure 8 (.pure 9 (.pure 10 (.rd 11 (.pure 12 (.last 13 (.pure 14 (.last 15 .done)))))))))))))))) ⟨ro,[(b,Obj.cells bj 3)]⟩ (by simp only[*,go_sem]) (by kernel_rfl) ?_;revert h;refine bS fun z fv h=>?_;obtain ⟨lx,ly,lL,l1⟩:=x.cU fv;revert h;refine bS fun B fw h=>?_;obtain ⟨fx,fz,l2,l3⟩:=x.cU fw;have bs:=x.fX fx fz z;revert h;refine bS fun l4 gg h=>?_;obtain ⟨gl,gn,ma,mb⟩:=bs.cU gg;have d:=bs.fX gl gn B;simp only[*,go_sem];refine af hJ ?_;obtain ⟨f,T⟩:∃o,o=(cK (cK bj (c).toNat [.int .i64 z]) (p).toNat [.int .i64 B]):=⟨_,rfl⟩
 refine cz (F:=⟨ro,[(b,Obj.cells f 3)]⟩) hJ (by rw[T];exact Le.refl _) ?_;rw[<-T] at d;clear T;refine aC hJ fun mf=>?_;refine ak hJ ?_;simp only[*,go_sem];revert h;refine bS fun gp h gB=>?_;refine gw hJ (fun a F'=>∃(g:Int),some (Fl.bk g:Fl Int ((Int×Bool)×(List Int)))=some gp/\F'=⟨ro,[(b,Obj.cells f 3)]⟩/\sz a=168/\a.defers=[]/\slot a 0= .slice (some ⟨b,0,none⟩) u0.length c2/\slot a 1= .int .i64 c/\slot a 8= .int .i64 0/\slot a 9= .bool false/\slot a 10= .int .i64 g/\slot a 11= .int .i64 (IntKind.i64.wrap (y - 1))) ?_ ?_
 .refine aO hJ ?_;revert h;refine bS fun gC K bz=>?_;refine bU hJ (rg 30 16 [10]) (fun m a F'=>∃(q:Int),aZ (xe u0 c y p z B) m q=some gC/\F'=⟨ro,[(b,Obj.cells f 3)]⟩/\slot a 10= .int .i64 q) fu ?_ ?_
  .refine ⟨(IntKind.i64.wrap (c+1)),K,rfl,?_⟩;simp only[*,go_sem]
  rintro U mi F' b0 ⟨q,K,rfl,ml⟩;obtain ⟨gM,gT,gV⟩:=b0.pick [0,1,8,9,11] (by decide);simp only[*,go_sem] at gM gT gV;clear b0 bl hd bm k1 bo br;obtain _|U:=U
  .exact absurd K (by simp only[aZ,reduceCtorEq,not_false_eq_true])
  revert K;refine bS fun mn h C=>?_;unfold xe at h;try dsimp only at h
  refine af hJ (af hJ ?_);refine aC hJ fun mr=>?_;refine cP hJ mixed 14 1 (by simp only[*,go_sem]) (by kernel_rfl) ?_;revert h;refine cS (fun g0 h=>?_) fun g0 h=>?_
  .revert h;refine bS fun g1 g2 h=>?_;obtain ⟨mx,my,m1,m2⟩:=d.cU g2;revert h;refine bS fun g3 g4 h=>?_;obtain ⟨na,nb,nd,nf⟩:=d.cU g4;revert h;refine bS fun nm ha h=>?_;simp only[*,go_sem];refine ⟨_,bD hJ fun F V=>jU g1 g3 ha,cn ?_⟩;simp only[*,go_sem];revert h;refine aT hJ (fun hc h=>?_) fun hc h=>?_
   .obtain rfl:=sI h;refine aI hJ (aO hJ ?_);refine aC hJ fun nn=>?_;refine ak hJ ?_;simp only[*,go_sem];refine ⟨U,Nat.lt_succ_self _,_,Le.sub (List.Sublist.refl _),(IntKind.i64.wrap (q+1)),C,rfl,?_⟩;simp only[*,go_sem]
   obtain rfl:=sI h;refine bO ?_;simp only[go_sem];obtain rfl:=sI C;clear C;have h:=bz;dsimp only[aF] at h;simp only[*,go_sem];refine Qn.intro ⟨_,Le.sub (List.Sublist.refl _),q,h,rfl,?_⟩;simp only[*,go_sem]
  obtain rfl:=sI h;simp only[*,go_sem];refine b6 hJ ?_;refine bO ?_;simp only[go_sem];obtain rfl:=sI C;clear C;have h:=bz;dsimp only[aF] at h;refine Qn.intro ⟨_,Le.sub (List.Sublist.refl _),q,h,rfl,?_⟩;simp only[*,go_sem]
 rintro np F' ⟨g,b1,rfl,b2,b3,b4,b5,ca,cb,cd,cf⟩;obtain rfl:=sI b1;clear b1;have h:=gB;dsimp only[aF] at h;clear bl hd bm k1 bo br;revert h;refine bS fun hf h hg=>?_;refine gw hJ (fun a F'=>∃(k:Int),some (Fl.bk k:Fl Int ((Int×Bool)×(List Int)))=some hf/\F'=⟨ro,[(b,Obj.cells f 3)]⟩/\sz a=168/\a.defers=[]/\slot a 0= .slice (some ⟨b,0,none⟩) u0.length c2/\slot a 1= .int .i64 c/\slot a 8= .int .i64 0/\slot a 9= .bool false/\slot a 10= .int .i64 g/\slot a 11= .int .i64 k) ?_ ?_
 .refine aO hJ ?_;revert h;refine bS fun hh L cl=>?_;refine bU hJ (rg 46 17 [11]) (fun m a F'=>∃(s:Int),aZ (xg u0 c p z B g) m s=some hh/\F'=⟨ro,[(b,Obj.cells f 3)]⟩/\slot a 11= .int .i64 s) fu ?_ ?_
  .refine ⟨(IntKind.i64.wrap (y - 1)),L,rfl,?_⟩;simp only[*,go_sem]
  rintro W ns F' cu ⟨s,L,rfl,nx⟩;obtain ⟨hi,hj,hk⟩:=cu.pick [0,1,8,9,10] (by decide);simp only[*,go_sem] at hi hj hk;clear cu b2 b3 b4 b5 ca cb cd cf;obtain _|W:=W
  .exact absurd L (by simp only[aZ,reduceCtorEq,not_false_eq_true])
  revert L;refine bS fun nz h D=>?_;unfold xg at h;try dsimp only at h
  refine af hJ (af hJ ?_);refine aC hJ fun nA=>?_;refine cP hJ mixed 15 1 (by simp only[*,go_sem]) (by kernel_rfl) ?_;revert h;refine cS (fun hl h=>?_) fun hl h=>?_
  .revert h;refine bS fun hn ho h=>?_;obtain ⟨nH,nI,nK,nQ⟩:=d.cU ho;revert h;refine bS fun hp hq h=>?_;obtain ⟨nR,nT,nV,nX⟩:=d.cU hq;revert h;refine bS fun nY hr h=>?_;simp only[*,go_sem];refine ⟨_,bD hJ fun F V=>jU hn hp hr,cn ?_⟩;simp only[*,go_sem];revert h;refine aT hJ (fun ht h=>?_) fun ht h=>?_
   .obtain rfl:=sI h;refine aI hJ (aO hJ ?_);refine aC hJ fun n0=>?_;refine ak hJ ?_;simp only[*,go_sem];refine ⟨W,Nat.lt_succ_self _,_,Le.sub (List.Sublist.refl _),(IntKind.i64.wrap (s - 1)),D,rfl,?_⟩;simp only[*,go_sem]
   obtain rfl:=sI h;refine bO ?_;simp only[go_sem];obtain rfl:=sI D;clear D;have h:=cl;dsimp only[aF] at h;simp only[*,go_sem];refine Qn.intro ⟨_,Le.sub (List.Sublist.refl _),s,h,rfl,?_⟩;simp only[*,go_sem]
  obtain rfl:=sI h;simp only[*,go_sem];refine b6 hJ ?_;refine bO ?_;simp only[go_sem];obtain rfl:=sI D;clear D;have h:=cl;dsimp only[aF] at h;refine Qn.intro ⟨_,Le.sub (List.Sublist.refl _),s,h,rfl,?_⟩;simp only[*,go_sem]
 rintro n1 F' ⟨k,cy,rfl,c0,da,db,dd,df,dk,dp,dq⟩;obtain rfl:=sI cy;clear cy;have h:=hg;dsimp only[aF] at h;clear b2 b3 b4 b5 ca cb cd cf;refine af hJ (af hJ ?_);refine aC hJ fun n2=>?_;refine ak hJ ?_;simp only[*,go_sem];revert h;refine aT hJ (fun hv h=>?_) fun hv h=>?_
 .refine af hJ ?_;refine aC hJ fun n3=>?_;refine eE hJ mixed [13,14,15] (.pure 0 (.pure 1 (.pure 2 (.pure 3 (.pure 4 (.pure 5 (.pure 6 (.rd 7 (.pure 8 (.pure 9 (.pure 10 (.rd 11 (.pure 12 (.last 13 (.pure 14 (.last 15 .done)))))))))))))))) ⟨ro,[(b,Obj.cells f 3)]⟩ (by simp only[*,go_sem]) (by kernel_rfl) ?_;revert h;refine bS fun ds hx h=>?_;obtain ⟨oc,oi,oj,ox⟩:=d.cU hx;revert h;refine bS fun dt hy h=>?_;obtain ⟨hz,hA,oy,o0⟩:=d.cU hy;have du:=d.fX hz hA ds;revert h;refine bS fun o1 hB h=>?_;obtain rfl:=sI h;obtain ⟨hD,hE,o2,o4⟩:=du.cU hB;have dv:=du.fX hD hE dt;simp only[*,go_sem];refine af hJ ?_;obtain ⟨hF,X⟩:∃o,o=(cK (cK f (k).toNat [.int .i64 ds]) (c).toNat [.int .i64 dt]):=⟨_,rfl⟩
  refine cz (F:=⟨ro,[(b,Obj.cells hF 3)]⟩) hJ (by rw[X];exact Le.refl _) ?_;rw[<-X] at dv;clear X;refine aC hJ fun pa=>?_;refine ak hJ ?_;simp only[*,go_sem];refine ax ?_;simp only[*,go_sem];exact ⟨_,dv,Le.sub (List.Sublist.refl _)⟩
 refine aI hJ (af hJ ?_);refine aC hJ fun pb=>?_;refine eE hJ mixed [13,14,15] (.pure 0 (.pure 1 (.pure 2 (.pure 3 (.pure 4 (.pure 5 (.pure 6 (.rd 7 (.pure 8 (.pure 9 (.pure 10 (.rd 11 (.pure 12 (.last 13 (.pure 14 (.last 15 .done)))))))))))))))) ⟨ro,[(b,Obj.cells f 3)]⟩ (by simp only[*,go_sem]) (by kernel_rfl) ?_;revert h;refine bS fun Y hG h=>?_;obtain ⟨pd,pf,ph,pj⟩:=d.cU hG;revert h;refine bS fun Z hI h=>?_;obtain ⟨hK,hL,pk,po⟩:=d.cU hI;have dC:=d.fX hK hL Y;revert h;refine bS fun pr hM h=>?_;obtain ⟨hN,hP,ps,pt⟩:=dC.cU hM;have dE:=dC.fX hN hP Z;simp only[*,go_sem];refine af hJ ?_;obtain ⟨dT,ab⟩:∃o,o=(cK (cK f (g).toNat [.int .i64 Y]) (k).toNat [.int .i64 Z]):=⟨_,rfl⟩
 refine cz (F:=⟨ro,[(b,Obj.cells dT 3)]⟩) hJ (by rw[ab];exact Le.refl _) ?_;rw[<-ab] at dE;clear ab;refine aC hJ fun pv=>?_;refine ak hJ ?_;simp only[*,go_sem];refine af hJ ?_;refine aC hJ fun pw=>?_;refine ak hJ ?_;simp only[*,go_sem];revert h;refine bS fun hQ h hR=>?_;refine gw hJ (fun a F'=>∃(E:Array Value) (M:Int) (ad:(List Int)),some (Fl.bk (M,ad):Fl (Int×(List Int)) ((Int×Bool)×(List Int)))=some hQ/\F'=⟨ro,[(b,Obj.cells E 3)]⟩/\aP rI ro 3 (.slice (some ⟨b,0,none⟩) u0.length c2) ad [(b,Obj.cells E 3)]/\sz a=168/\a.defers=[]/\slot a 0= .slice (some ⟨b,0,none⟩) u0.length c2/\slot a 1= .int .i64 c/\slot a 8= .int .i64 0/\slot a 9= .bool false/\slot a 11= .int .i64 M) ?_ ?_
 .refine aO hJ ?_;revert h;refine bS fun hS N hT=>?_;refine bU hJ (rg 99 54 [10,11]) (fun m a F'=>∃(e:Array Value) (O:Int) (t:Int) (l:(List Int)),aZ (xk c) m (O,t,l)=some hS/\F'=⟨ro,[(b,Obj.cells e 3)]⟩/\aP rI ro 3 (.slice (some ⟨b,0,none⟩) u0.length c2) l [(b,Obj.cells e 3)]/\slot a 10= .int .i64 O/\slot a 11= .int .i64 t) fu ?_ ?_
  .refine ⟨dT,(IntKind.i64.wrap (g+1)),(IntKind.i64.wrap (k - 1)),((((u0.set (c).toNat z).set (p).toNat B).set (g).toNat Y).set (k).toNat Z),N,rfl,dE,?_⟩;simp only[*,go_sem]
  rintro ae P F' ea ⟨e,O,t,l,N,rfl,i,eb,ec⟩;obtain ⟨al,ao,ar⟩:=ea.pick [0,1,8,9] (by decide);simp only[*,go_sem] at al ao ar;clear ea c0 da db dd df dk dp dq;obtain _|ae:=ae
  .exact absurd N (by simp only[aZ,reduceCtorEq,not_false_eq_true])
  revert N;refine bS fun px h a0=>?_;unfold xk at h;try dsimp only at h
  refine aO hJ ?_;revert h;refine bS fun hV h hX=>?_;refine gw hJ (fun a F'=>∃(j:Int),some (Fl.bk j:Fl Int ((Int×Bool)×(List Int)))=some hV/\F'=⟨ro,[(b,Obj.cells e 3)]⟩/\sz a=168/\a.defers=[]/\cM (rg 99 54 [10,11]) a P/\slot a 0= .slice (some ⟨b,0,none⟩) u0.length c2/\slot a 1= .int .i64 c/\slot a 8= .int .i64 0/\slot a 9= .bool false/\slot a 10= .int .i64 j/\slot a 11= .int .i64 t) ?_ ?_
  .refine aO hJ ?_;revert h;refine bS fun hY Q ed=>?_;refine bU hJ (rg 99 16 [10]) (fun m a F'=>∃(u:Int),aZ (xh c t l) m u=some hY/\F'=⟨ro,[(b,Obj.cells e 3)]⟩/\slot a 10= .int .i64 u) fu ?_ ?_
   .refine ⟨O,Q,rfl,?_⟩;simp only[*,go_sem]
   rintro a2 hZ F' a3 ⟨u,Q,rfl,py⟩;obtain ⟨h0,h1,h2⟩:=a3.pick [0,1,8,9,11] (by decide);simp only[*,go_sem] at h0 h1 h2;have pA:cM (rg 99 54 [10,11]) hZ P:=(a3.gm (by decide)).trans (by simp only[*,go_sem]);clear a3 al ao ar eb ec;obtain _|a2:=a2
   .exact absurd Q (by simp only[aZ,reduceCtorEq,not_false_eq_true])
   revert Q;refine bS fun pB h H=>?_;unfold xh at h;(try dsimp only at h);refine af hJ (af hJ ?_);refine aC hJ fun pC=>?_;refine cP hJ mixed 14 1 (by simp only[*,go_sem]) (by kernel_rfl) ?_;revert h;refine cS (fun h3 h=>?_) fun h3 h=>?_
   .revert h;refine bS fun h4 h5 h=>?_;obtain ⟨pD,pL,pT,p0⟩:=i.cU h5;revert h;refine bS fun h6 h7 h=>?_;obtain ⟨p1,qe,qk,q0⟩:=i.cU h7;revert h;refine bS fun q1 h8 h=>?_;simp only[*,go_sem];refine ⟨_,bD hJ fun F V=>jU h4 h6 h8,cn ?_⟩;simp only[*,go_sem];revert h;refine aT hJ (fun h9 h=>?_) fun h9 h=>?_
    .obtain rfl:=sI h;refine aI hJ (aO hJ ?_);refine aC hJ fun ra=>?_;refine ak hJ ?_;simp only[*,go_sem];refine ⟨a2,Nat.lt_succ_self _,_,Le.sub (List.Sublist.refl _),(IntKind.i64.wrap (u+1)),H,rfl,?_⟩;simp only[*,go_sem]
    obtain rfl:=sI h;refine bO ?_;simp only[go_sem];obtain rfl:=sI H;clear H;have h:=ed;dsimp only[aF] at h;simp only[*,go_sem];refine Qn.intro ⟨_,Le.sub (List.Sublist.refl _),u,h,rfl,?_⟩;simp only[*,go_sem]
   obtain rfl:=sI h;simp only[*,go_sem];refine b6 hJ ?_;refine bO ?_;simp only[go_sem];obtain rfl:=sI H;clear H;have h:=ed;dsimp only[aF] at h;refine Qn.intro ⟨_,Le.sub (List.Sublist.refl _),u,h,rfl,?_⟩;simp only[*,go_sem]
  rintro rb F' ⟨j,eh,rfl,et,eu,re,ev,eQ,eS,e0,e1,e2⟩;obtain rfl:=sI eh;clear eh;have h:=hX;dsimp only[aF] at h;clear al ao ar eb ec;revert h;refine bS fun ib h ic=>?_;refine gw hJ (fun a F'=>∃(n:Int),some (Fl.bk n:Fl Int ((Int×Bool)×(List Int)))=some ib/\F'=⟨ro,[(b,Obj.cells e 3)]⟩/\sz a=168/\a.defers=[]/\cM (rg 99 54 [10,11]) a P/\slot a 0= .slice (some ⟨b,0,none⟩) u0.length c2/\slot a 1= .int .i64 c/\slot a 8= .int .i64 0/\slot a 9= .bool false/\slot a 10= .int .i64 j/\slot a 11= .int .i64 n) ?_ ?_
  .refine aO hJ ?_;revert h;refine bS fun ih R e3=>?_;refine bU hJ (rg 115 17 [11]) (fun m a F'=>∃(w:Int),aZ (xj c l j) m w=some ih/\F'=⟨ro,[(b,Obj.cells e 3)]⟩/\slot a 11= .int .i64 w) fu ?_ ?_
   .refine ⟨t,R,rfl,?_⟩;simp only[*,go_sem]
   rintro a4 ik F' a5 ⟨w,R,rfl,rh⟩;obtain ⟨il,im,iv⟩:=a5.pick [0,1,8,9,10] (by decide);simp only[*,go_sem] at il im iv;have rk:cM (rg 99 54 [10,11]) ik P:=(a5.gm (by decide)).trans (by simp only[*,go_sem]);clear a5 et eu ev eQ eS e0 e1 e2;obtain _|a4:=a4
   .exact absurd R (by simp only[aZ,reduceCtorEq,not_false_eq_true])
   revert R;refine bS fun rl h I=>?_;unfold xj at h;(try dsimp only at h);refine af hJ (af hJ ?_);refine aC hJ fun rn=>?_;refine cP hJ mixed 15 1 (by simp only[*,go_sem]) (by kernel_rfl) ?_;revert h;refine cS (fun ix h=>?_) fun ix h=>?_
   .revert h;refine bS fun jC j1 h=>?_;obtain ⟨rp,rr,rv,rB⟩:=i.cU j1;revert h;refine bS fun j2 kh h=>?_;obtain ⟨rL,sa,sb,sc⟩:=i.cU kh;revert h;refine bS fun sf kj h=>?_;simp only[*,go_sem];refine ⟨_,bD hJ fun F V=>jU jC j2 kj,cn ?_⟩;simp only[*,go_sem];revert h;refine aT hJ (fun kk h=>?_) fun kk h=>?_
    .obtain rfl:=sI h;refine aI hJ (aO hJ ?_);refine aC hJ fun sg=>?_;refine ak hJ ?_;simp only[*,go_sem];refine ⟨a4,Nat.lt_succ_self _,_,Le.sub (List.Sublist.refl _),(IntKind.i64.wrap (w - 1)),I,rfl,?_⟩;simp only[*,go_sem]
    obtain rfl:=sI h;refine bO ?_;simp only[go_sem];obtain rfl:=sI I;clear I;have h:=e3;dsimp only[aF] at h;simp only[*,go_sem];refine Qn.intro ⟨_,Le.sub (List.Sublist.refl _),w,h,rfl,?_⟩;simp only[*,go_sem]
   obtain rfl:=sI h;simp only[*,go_sem];refine b6 hJ ?_;refine bO ?_;simp only[go_sem];obtain rfl:=sI I;clear I;have h:=e3;dsimp only[aF] at h;refine Qn.intro ⟨_,Le.sub (List.Sublist.refl _),w,h,rfl,?_⟩;simp only[*,go_sem]
  rintro sh F' ⟨n,fa,rfl,sl,sm,ss,sy,sT,ta,tb,te,ti⟩;obtain rfl:=sI fa;clear fa;have h:=ic;dsimp only[aF] at h;clear et eu ev eQ eS e0 e1 e2;refine af hJ (af hJ ?_);refine aC hJ fun tk=>?_;refine ak hJ ?_;simp only[*,go_sem];revert h;refine aT hJ (fun kl h=>?_) fun kl h=>?_
  .obtain rfl:=sI h;refine bO ?_;simp only[go_sem];obtain rfl:=sI a0;clear a0;have h:=hT;dsimp only[aF] at h;simp only[*,go_sem];refine Qn.intro ⟨_,Le.sub (List.Sublist.refl _),e,n,l,h,rfl,i,?_⟩;simp only[*,go_sem]
  refine aI hJ (af hJ ?_);refine aC hJ fun tl=>?_;refine eE hJ mixed [13,14,15] (.pure 0 (.pure 1 (.pure 2 (.pure 3 (.pure 4 (.pure 5 (.pure 6 (.rd 7 (.pure 8 (.pure 9 (.pure 10 (.rd 11 (.pure 12 (.last 13 (.pure 14 (.last 15 .done)))))))))))))))) ⟨ro,[(b,Obj.cells e 3)]⟩ (by simp only[*,go_sem]) (by kernel_rfl) ?_;revert h;refine bS fun a6 km h=>?_;obtain ⟨tm,tp,ts,tt⟩:=i.cU km;revert h;refine bS fun a7 kn h=>?_;obtain ⟨kp,ks,tx,tz⟩:=i.cU kn;have fb:=i.fX kp ks a6;revert h;refine bS fun tI kt h=>?_;obtain rfl:=sI h;obtain ⟨kv,kx,tM,tW⟩:=fb.cU kt;have fg:=fb.fX kv kx a7;simp only[*,go_sem];refine af hJ ?_;obtain ⟨fi,a8⟩:∃o,o=(cK (cK e (j).toNat [.int .i64 a6]) (n).toNat [.int .i64 a7]):=⟨_,rfl⟩
  refine cz (F:=⟨ro,[(b,Obj.cells fi 3)]⟩) hJ (by rw[a8];exact Le.refl _) ?_;rw[<-a8] at fg;clear a8;refine aC hJ fun ub=>?_;refine ak hJ ?_;simp only[*,go_sem];refine aC hJ fun ui=>?_;refine ak hJ ?_;simp only[*,go_sem];refine ⟨ae,Nat.lt_succ_self _,_,Le.sub (List.Sublist.refl _),fi,(IntKind.i64.wrap (j+1)),(IntKind.i64.wrap (n - 1)),((l.set (j).toNat a6).set (n).toNat a7),a0,rfl,fg,?_⟩;simp only[*,go_sem]
 rintro u1 F' ⟨E,M,ad,fo,rfl,a9,u2,u3,u4,va,vd,vs,vx⟩;obtain rfl:=sI fo;clear fo;have h:=hR;dsimp only[aF] at h;clear c0 da db dd df dk dp dq;refine af hJ ?_;refine aC hJ fun vy=>?_;refine eE hJ mixed [13,14,15] (.pure 0 (.pure 1 (.pure 2 (.pure 3 (.pure 4 (.pure 5 (.pure 6 (.rd 7 (.pure 8 (.pure 9 (.pure 10 (.rd 11 (.pure 12 (.last 13 (.pure 14 (.last 15 .done)))))))))))))))) ⟨ro,[(b,Obj.cells E 3)]⟩ (by simp only[*,go_sem]) (by kernel_rfl) ?_;revert h;refine bS fun fp ky h=>?_;obtain ⟨v3,wa,wb,wc⟩:=a9.cU ky;revert h;refine bS fun fr k0 h=>?_;obtain ⟨k2,lb,wi,wx⟩:=a9.cU k0;have fs:=a9.fX k2 lb fp;revert h;refine bS fun wy lh h=>?_;obtain rfl:=sI h;obtain ⟨lj,lk,wG,w0⟩:=fs.cU lh;have ft:=fs.fX lj lk fr;simp only[*,go_sem];refine af hJ ?_;obtain ⟨ll,ba⟩:∃o,o=(cK (cK E (M).toNat [.int .i64 fp]) (c).toNat [.int .i64 fr]):=⟨_,rfl⟩
 refine cz (F:=⟨ro,[(b,Obj.cells ll 3)]⟩) hJ (by rw[ba];exact Le.refl _) ?_;rw[<-ba] at ft;clear ba;refine aC hJ fun xa=>?_;refine ak hJ ?_;simp only[*,go_sem];refine ax ?_;simp only[*,go_sem];exact ⟨_,ft,Le.sub (List.Sublist.refl _)⟩
def xm (b:Int)(c:Int)(a:(List Int))(st:Int):Option (Fl Int (Int×(List Int))):=
 cond (decide (st<=c)) (ag (bf a b) fun d=>ag (bf a st) fun e=>ag (iI d e) fun f=>cond (!f) (some (.nx (IntKind.i64.wrap (st+1)))) (some (.bk st))) (some (.bk st))
def xo (b:Int)(a:(List Int))(c:Int)(st:Int):Option (Fl Int (Int×(List Int))):=
 cond (decide (c<=st)) (ag (bf a b) fun d=>ag (bf a st) fun e=>ag (iI d e) fun f=>cond (f) (some (.nx (IntKind.i64.wrap (st - 1)))) (some (.bk st))) (some (.bk st))
def xp (c:Int)(st:(Int×Int×(List Int))):Option (Fl (Int×Int×(List Int)) (Int×(List Int))):=
 ag (ag (aZ (xm c st.2.1 st.2.2) fu st.1) fun o=>aF o (fun e=>some (.bk e)) (fun _ _=>none) (fun r=>some (.rt r)):Option (Fl Int (Int×(List Int)))) fun o=>aF o (fun a=>ag (ag (aZ (xo c st.2.2 a) fu st.2.1) fun o=>aF o (fun f=>some (.bk f)) (fun _ _=>none) (fun r=>some (.rt r)):Option (Fl Int (Int×(List Int)))) fun o=>aF o (fun b=>cond (decide (b<a)) (some (.bk (a,b,st.2.2))) (ag (bf st.2.2 b) fun d=>ag (bf st.2.2 a) fun g=>ag (bf (st.2.2.set (a).toNat d) b) fun h=>some (.nx ((IntKind.i64.wrap (a+1)),(IntKind.i64.wrap (b - 1)),((st.2.2.set (a).toNat d).set (b).toNat g))))) (fun _ _=>none) (fun r=>some (.rt r))) (fun _ _=>none) (fun r=>some (.rt r))
def xq (u0:(List Int))(a:Int)(f:Int)(b:Int):Option (Int×(List Int)):=
 cond (List.isEmpty u0) none (ag (bf u0 b) fun c=>ag (bf u0 a) fun g=>ag (bf (u0.set (a).toNat c) b) fun h=>ag (ag (aZ (xp a) fu ((IntKind.i64.wrap (a+1)),(IntKind.i64.wrap (f - 1)),((u0.set (a).toNat c).set (b).toNat g))) fun o=>aF o (fun d=>some (.bk (d.1,d.2.2))) (fun _ _=>none) (fun r=>some (.rt r)):Option (Fl (Int×(List Int)) (Int×(List Int)))) fun o=>aF o (fun e=>some (e.1,e.2)) (fun _ _=>none) (fun r=>some r))
theorem HO {ro:Addr->Option Value}(u0:(List Int)){z:Value}{X:List (Nat×Obj)}(n:aP rI ro 3 z u0 X)(c:Int)(B:Int)(s:Int){r:(Int×(List Int))}(h:xq u0 c B s=some r):aD Tryz.prog 211 #[z,.int .i64 c,.int .i64 B,.int .i64 s] ⟨ro,X⟩ (fun v G=>∃Y,(v= .int .i64 r.1/\aP rI ro 3 z r.2 Y)/\Le ⟨ro,Y⟩ G):=by
 obtain ⟨d1,c2,rfl,fs⟩:=n.len;unfold xq at h;revert h;refine cS (fun Z h=>?_) fun Z h=>?_
 .cases h
 obtain ⟨b,ab,rfl,rfl,ft⟩:=n.iH Z;refine aD.go Tryz.func211 rfl Tryz.ntmps211 Tryz.results211 (by simp) fun main J hJ A ad hd hs=>?_;have ae:=hs 0;have k1:=hs 1;have al:=hs 2;have ao:=hs 3;clear hs;refine af hJ ?_;refine aC hJ fun fv=>?_;refine ak hJ ?_;simp only[*,go_sem];refine af hJ ?_;refine aC hJ fun fw=>?_;refine eE hJ mixed [13,14,15] (.pure 0 (.pure 1 (.pure 2 (.pure 3 (.pure 4 (.pure 5 (.pure 6 (.rd 7 (.pure 8 (.pure 9 (.pure 10 (.rd 11 (.pure 12 (.last 13 (.pure 14 (.last 15 .done)))))))))))))))) ⟨ro,[(b,Obj.cells ab 3)]⟩ (by simp only[*,go_sem]) (by kernel_rfl) ?_;revert h;refine bS fun C b0 h=>?_;obtain ⟨fx,fz,gg,gl⟩:=n.cU b0;revert h;refine bS fun D b1 h=>?_;obtain ⟨b2,b3,gn,gp⟩:=n.cU b1;have ar:=n.fX b2 b3 C;revert h;refine bS fun gB b4 h=>?_;obtain ⟨b5,ca,gC,gM⟩:=ar.cU b4;have a0:=ar.fX b5 ca D;simp only[*,go_sem];refine af hJ ?_;obtain ⟨a2,E⟩:∃o,o=(cK (cK ab (c).toNat [.int .i64 C]) (s).toNat [.int .i64 D]):=⟨_,rfl⟩
 refine cz (F:=⟨ro,[(b,Obj.cells a2 3)]⟩) hJ (by rw[E];exact Le.refl _) ?_;rw[<-E] at a0;clear E;refine aC hJ fun gT=>?_;refine ak hJ ?_;simp only[*,go_sem];revert h;refine bS fun cb h cd=>?_;refine gw hJ (fun a F'=>∃(H:Array Value) (I:Int) (K:(List Int)),some (Fl.bk (I,K):Fl (Int×(List Int)) (Int×(List Int)))=some cb/\F'=⟨ro,[(b,Obj.cells H 3)]⟩/\aP rI ro 3 (.slice (some ⟨b,0,none⟩) u0.length c2) K [(b,Obj.cells H 3)]/\sz a=84/\a.defers=[]/\slot a 0= .slice (some ⟨b,0,none⟩) u0.length c2/\slot a 8= .int .i64 0/\slot a 9= .int .i64 I) ?_ ?_
 .refine aO hJ ?_;revert h;refine bS fun cf t cl=>?_;refine bU hJ (rg 29 54 [9,10]) (fun m a F'=>∃(d:Array Value) (u:Int) (i:Int) (g:(List Int)),aZ (xp c) m (u,i,g)=some cf/\F'=⟨ro,[(b,Obj.cells d 3)]⟩/\aP rI ro 3 (.slice (some ⟨b,0,none⟩) u0.length c2) g [(b,Obj.cells d 3)]/\slot a 9= .int .i64 u/\slot a 10= .int .i64 i) fu ?_ ?_
  .refine ⟨a2,(IntKind.i64.wrap (c+1)),(IntKind.i64.wrap (B - 1)),((u0.set (c).toNat C).set (s).toNat D),t,rfl,a0,?_⟩;simp only[*,go_sem]
  rintro L w F' a3 ⟨d,u,i,g,t,rfl,f,a4,a5⟩;obtain ⟨M,N,O⟩:=a3.pick [0,1,8] (by decide);simp only[*,go_sem] at M N O;clear a3 ad hd ae k1 al ao;obtain _|L:=L
  .exact absurd t (by simp only[aZ,reduceCtorEq,not_false_eq_true])
  revert t;refine bS fun gV h P=>?_;unfold xp at h;try dsimp only at h
  refine aO hJ ?_;revert h;refine bS fun cu h cy=>?_;refine gw hJ (fun a F'=>∃(e:Int),some (Fl.bk e:Fl Int (Int×(List Int)))=some cu/\F'=⟨ro,[(b,Obj.cells d 3)]⟩/\sz a=84/\a.defers=[]/\cM (rg 29 54 [9,10]) a w/\slot a 0= .slice (some ⟨b,0,none⟩) u0.length c2/\slot a 1= .int .i64 c/\slot a 8= .int .i64 0/\slot a 9= .int .i64 e/\slot a 10= .int .i64 i) ?_ ?_
  .refine aO hJ ?_;revert h;refine bS fun c0 x a6=>?_;refine bU hJ (rg 29 17 [9]) (fun m a F'=>∃(j:Int),aZ (xm c i g) m j=some c0/\F'=⟨ro,[(b,Obj.cells d 3)]⟩/\slot a 9= .int .i64 j) fu ?_ ?_
   .refine ⟨u,x,rfl,?_⟩;simp only[*,go_sem]
   rintro Q da F' R ⟨j,x,rfl,g0⟩;obtain ⟨db,dd,df⟩:=R.pick [0,1,8,10] (by decide);simp only[*,go_sem] at db dd df;have g1:cM (rg 29 54 [9,10]) da w:=(R.gm (by decide)).trans (by simp only[*,go_sem]);clear R M N O a4 a5;obtain _|Q:=Q
   .exact absurd x (by simp only[aZ,reduceCtorEq,not_false_eq_true])
   revert x;refine bS fun g2 h p=>?_;unfold xm at h;(try dsimp only at h);refine af hJ (af hJ ?_);refine aC hJ fun g3=>?_;refine cP hJ mixed 15 1 (by simp only[*,go_sem]) (by kernel_rfl) ?_;revert h;refine cS (fun dk h=>?_) fun dk h=>?_
   .revert h;refine bS fun dp dq h=>?_;obtain ⟨g4,ha,hc,hf⟩:=f.cU dq;revert h;refine bS fun ds dt h=>?_;obtain ⟨hg,hh,hi,hj⟩:=f.cU dt;revert h;refine bS fun hk du h=>?_;simp only[*,go_sem];refine ⟨_,bD hJ fun F dv=>jU dp ds du,cn ?_⟩;simp only[*,go_sem];revert h;refine aT hJ (fun dC h=>?_) fun dC h=>?_
    .obtain rfl:=sI h;refine aI hJ (aO hJ ?_);refine aC hJ fun hl=>?_;refine ak hJ ?_;simp only[*,go_sem];refine ⟨Q,Nat.lt_succ_self _,_,Le.sub (List.Sublist.refl _),(IntKind.i64.wrap (j+1)),p,rfl,?_⟩;simp only[*,go_sem]
    obtain rfl:=sI h;refine bO ?_;simp only[go_sem];obtain rfl:=sI p;clear p;have h:=a6;dsimp only[aF] at h;simp only[*,go_sem];refine Qn.intro ⟨_,Le.sub (List.Sublist.refl _),j,h,rfl,?_⟩;simp only[*,go_sem]
   obtain rfl:=sI h;simp only[*,go_sem];refine b6 hJ ?_;refine bO ?_;simp only[go_sem];obtain rfl:=sI p;clear p;have h:=a6;dsimp only[aF] at h;refine Qn.intro ⟨_,Le.sub (List.Sublist.refl _),j,h,rfl,?_⟩;simp only[*,go_sem]
  rintro hn F' ⟨e,a7,rfl,a8,a9,ho,ba,bb,bc,bd,bj⟩;obtain rfl:=sI a7;clear a7;have h:=cy;dsimp only[aF] at h;clear M N O a4 a5;revert h;refine bS fun dE h dT=>?_;refine gw hJ (fun a F'=>∃(k:Int),some (Fl.bk k:Fl Int (Int×(List Int)))=some dE/\F'=⟨ro,[(b,Obj.cells d 3)]⟩/\sz a=84/\a.defers=[]/\cM (rg 29 54 [9,10]) a w/\slot a 0= .slice (some ⟨b,0,none⟩) u0.length c2/\slot a 1= .int .i64 c/\slot a 8= .int .i64 0/\slot a 9= .int .i64 e/\slot a 10= .int .i64 k) ?_ ?_
  .refine aO hJ ?_;revert h;refine bS fun ea y bl=>?_;refine bU hJ (rg 46 16 [10]) (fun m a F'=>∃(l:Int),aZ (xo c g e) m l=some ea/\F'=⟨ro,[(b,Obj.cells d 3)]⟩/\slot a 10= .int .i64 l) fu ?_ ?_
   .refine ⟨i,y,rfl,?_⟩;simp only[*,go_sem]
   rintro S eb F' T ⟨l,y,rfl,hp⟩;obtain ⟨ec,ed,eh⟩:=T.pick [0,1,8,9] (by decide);simp only[*,go_sem] at ec ed eh;have hq:cM (rg 29 54 [9,10]) eb w:=(T.gm (by decide)).trans (by simp only[*,go_sem]);clear T a8 a9 ba bb bc bd bj;obtain _|S:=S
   .exact absurd y (by simp only[aZ,reduceCtorEq,not_false_eq_true])
   revert y;refine bS fun hr h q=>?_;unfold xo at h;(try dsimp only at h);refine af hJ (af hJ ?_);refine aC hJ fun ht=>?_;refine cP hJ mixed 14 1 (by simp only[*,go_sem]) (by kernel_rfl) ?_;revert h;refine cS (fun et h=>?_) fun et h=>?_
   .revert h;refine bS fun eu ev h=>?_;obtain ⟨hv,hx,hy,hz⟩:=f.cU ev;revert h;refine bS fun eQ eS h=>?_;obtain ⟨hA,hB,hD,hE⟩:=f.cU eS;revert h;refine bS fun hF e0 h=>?_;simp only[*,go_sem];refine ⟨_,bD hJ fun F dv=>jU eu eQ e0,cn ?_⟩;simp only[*,go_sem];revert h;refine aT hJ (fun e1 h=>?_) fun e1 h=>?_
    .obtain rfl:=sI h;refine aI hJ (aO hJ ?_);refine aC hJ fun hG=>?_;refine ak hJ ?_;simp only[*,go_sem];refine ⟨S,Nat.lt_succ_self _,_,Le.sub (List.Sublist.refl _),(IntKind.i64.wrap (l - 1)),q,rfl,?_⟩;simp only[*,go_sem]
    obtain rfl:=sI h;refine bO ?_;simp only[go_sem];obtain rfl:=sI q;clear q;have h:=bl;dsimp only[aF] at h;simp only[*,go_sem];refine Qn.intro ⟨_,Le.sub (List.Sublist.refl _),l,h,rfl,?_⟩;simp only[*,go_sem]
   obtain rfl:=sI h;simp only[*,go_sem];refine b6 hJ ?_;refine bO ?_;simp only[go_sem];obtain rfl:=sI q;clear q;have h:=bl;dsimp only[aF] at h;refine Qn.intro ⟨_,Le.sub (List.Sublist.refl _),l,h,rfl,?_⟩;simp only[*,go_sem]
  rintro hI F' ⟨k,bm,rfl,hK,hL,hM,hN,hP,hQ,hR,hS⟩;obtain rfl:=sI bm;clear bm;have h:=dT;dsimp only[aF] at h;clear a8 a9 ba bb bc bd bj;refine af hJ (af hJ ?_);refine aC hJ fun hT=>?_;refine ak hJ ?_;simp only[*,go_sem];revert h;refine aT hJ (fun e2 h=>?_) fun e2 h=>?_
  .obtain rfl:=sI h;refine bO ?_;simp only[go_sem];obtain rfl:=sI P;clear P;have h:=cl;dsimp only[aF] at h;simp only[*,go_sem];refine Qn.intro ⟨_,Le.sub (List.Sublist.refl _),d,e,g,h,rfl,f,?_⟩;simp only[*,go_sem]
  refine aI hJ (af hJ ?_);refine aC hJ fun hV=>?_;refine eE hJ mixed [13,14,15] (.pure 0 (.pure 1 (.pure 2 (.pure 3 (.pure 4 (.pure 5 (.pure 6 (.rd 7 (.pure 8 (.pure 9 (.pure 10 (.rd 11 (.pure 12 (.last 13 (.pure 14 (.last 15 .done)))))))))))))))) ⟨ro,[(b,Obj.cells d 3)]⟩ (by simp only[*,go_sem]) (by kernel_rfl) ?_;revert h;refine bS fun U e3 h=>?_;obtain ⟨hX,hY,hZ,h0⟩:=f.cU e3;revert h;refine bS fun V fa h=>?_;obtain ⟨fb,fg,h1,h2⟩:=f.cU fa;have bo:=f.fX fb fg U;revert h;refine bS fun h3 fi h=>?_;obtain rfl:=sI h;obtain ⟨fo,fp,h4,h5⟩:=bo.cU fi;have br:=bo.fX fo fp V;simp only[*,go_sem];refine af hJ ?_;obtain ⟨bs,W⟩:∃o,o=(cK (cK d (e).toNat [.int .i64 U]) (k).toNat [.int .i64 V]):=⟨_,rfl⟩
  refine cz (F:=⟨ro,[(b,Obj.cells bs 3)]⟩) hJ (by rw[W];exact Le.refl _) ?_;rw[<-W] at br;clear W;refine aC hJ fun h6=>?_;refine ak hJ ?_;simp only[*,go_sem];refine aC hJ fun h7=>?_;refine ak hJ ?_;simp only[*,go_sem];refine ⟨L,Nat.lt_succ_self _,_,Le.sub (List.Sublist.refl _),bs,(IntKind.i64.wrap (e+1)),(IntKind.i64.wrap (k - 1)),((g.set (e).toNat U).set (k).toNat V),P,rfl,br,?_⟩;simp only[*,go_sem]
 rintro h8 F' ⟨H,I,K,bz,rfl,fr,h9,ib,ic,ih,ik⟩;obtain rfl:=sI bz;clear bz;have h:=cd;dsimp only[aF] at h;obtain rfl:=sI h;clear ad hd ae k1 al ao;refine af hJ ?_;refine aC hJ fun il=>?_;refine ak hJ ?_;simp only[*,go_sem];refine ax ?_;simp only[*,go_sem];exact ⟨_,fr,Le.sub (List.Sublist.refl _)⟩
def xu (u0:(List Int))(a:Int)(st:Int):Option (Fl Int (Bool×(List Int))):=
 cond (decide (st<a)) (ag (bf u0 st) fun b=>ag (bf u0 (IntKind.i64.wrap (st - 1))) fun c=>ag (iI b c) fun d=>cond (!d) (some (.nx (IntKind.i64.wrap (st+1)))) (some (.bk st))) (some (.bk st))
def xw (u0:(List Int))(b:Int)(a:Int)(st:(Bool×Int×Int)):Option (Fl (Bool×Int×Int) (Bool×(List Int))):=
 cond (decide (st.2.2<5)) (ag (ag (aZ (xu u0 a) fu st.2.1) fun o=>aF o (fun c=>some (.bk c)) (fun _ _=>none) (fun r=>some (.rt r)):Option (Fl Int (Bool×(List Int)))) fun o=>aF o (fun d=>cond ((d==a)) (some (.rt (true,u0))) (cond (decide ((IntKind.i64.wrap (a - b))<50)) (some (.rt (false,u0))) (none))) (fun _ _=>none) (fun r=>some (.rt r))) (some (.bk (st.1,st.2.1,st.2.2)))
def xx (u0:(List Int))(a:Int)(b:Int):Option (Bool×(List Int)):=
 cond (List.isEmpty u0) none (ag (ag (aZ (xw u0 a b) fu (false,(IntKind.i64.wrap (a+1)),0)) fun o=>aF o (fun c=>some (.bk c.1)) (fun _ _=>none) (fun r=>some (.rt r)):Option (Fl Bool (Bool×(List Int)))) fun o=>aF o (fun d=>some (false,u0)) (fun _ _=>none) (fun r=>some r))
theorem HP {ro:Addr->Option Value}(u0:(List Int)){p:Value}{C:List (Nat×Obj)}(b:aP rI ro 3 p u0 C)(f:Int)(g:Int){r:(Bool×(List Int))}(h:xx u0 f g=some r):aD Tryz.prog 209 #[p,.int .i64 f,.int .i64 g] ⟨ro,C⟩ (fun v G=>∃D,(v= .bool r.1/\aP rI ro 3 p r.2 D)/\Le ⟨ro,D⟩ G):=by
 obtain ⟨d1,c2,rfl,a8⟩:=b.len;unfold xx at h;revert h;refine cS (fun E h=>?_) fun E h=>?_
 .cases h
 obtain ⟨c,k,rfl,rfl,a9⟩:=b.iH E;refine aD.go Tryz.func209 rfl Tryz.ntmps209 Tryz.results209 (by simp) fun main J hJ A H hd hs=>?_;have I:=hs 0;have k1:=hs 1;have K:=hs 2;clear hs;refine af hJ ?_;refine aC hJ fun ba=>?_;refine ak hJ ?_;simp only[*,go_sem];refine af hJ ?_;refine aC hJ fun bb=>?_;refine ak hJ ?_;simp only[*,go_sem];revert h;refine bS fun U h q=>?_;refine gw hJ (fun a F'=>∃(s:Bool),some (Fl.bk s:Fl Bool (Bool×(List Int)))=some U/\F'=⟨ro,[(c,Obj.cells k 3)]⟩/\sz a=133/\a.defers=[]/\slot a 0= .slice (some ⟨c,0,none⟩) u0.length c2/\slot a 6= .bool s) ?_ ?_
 .refine af hJ ?_;refine aC hJ fun bc=>?_;refine ak hJ ?_;simp only[*,go_sem];refine aO hJ ?_;revert h;refine bS fun V l t=>?_;refine bU hJ (rg 13 120 [6,7,8,9,10]) (fun m a F'=>∃(i:Bool) (n:Int) (v20:Int),aZ (xw u0 f g) m (i,n,v20)=some V/\F'=⟨ro,[(c,Obj.cells k 3)]⟩/\slot a 6= .bool i/\slot a 7= .int .i64 n/\slot a 8= .int .i64 v20) fu ?_ ?_
  .refine ⟨false,(IntKind.i64.wrap (f+1)),0,l,rfl,?_⟩;simp only[*,go_sem]
  rintro L M F' N ⟨i,n,v20,l,rfl,O,P,Q⟩;obtain ⟨u,w,x⟩:=N.pick [0,1,2] (by decide);simp only[*,go_sem] at u w x;clear N H hd I k1 K;obtain _|L:=L
  .exact absurd l (by simp only[aZ,reduceCtorEq,not_false_eq_true])
  revert l;refine bS fun bd h d=>?_;unfold xw at h;try dsimp only at h
  refine af hJ (af hJ ?_);refine aC hJ fun bj=>?_;refine ak hJ ?_;simp only[*,go_sem];revert h;refine aT hJ (fun W h=>?_) fun W h=>?_
  .refine aI hJ (af hJ ?_);refine aO hJ ?_;revert h;refine bS fun X h Y=>?_;refine gw hJ (fun a F'=>∃(y:Int),some (Fl.bk y:Fl Int (Bool×(List Int)))=some X/\F'=⟨ro,[(c,Obj.cells k 3)]⟩/\sz a=133/\a.defers=[]/\cM (rg 13 120 [6,7,8,9,10]) a M/\slot a 0= .slice (some ⟨c,0,none⟩) u0.length c2/\slot a 1= .int .i64 f/\slot a 2= .int .i64 g/\slot a 6= .bool i/\slot a 7= .int .i64 y/\slot a 8= .int .i64 v20) ?_ ?_
   .refine aO hJ ?_;revert h;refine bS fun Z o R=>?_;refine bU hJ (rg 17 18 [7]) (fun m a F'=>∃(e:Int),aZ (xu u0 g) m e=some Z/\F'=⟨ro,[(c,Obj.cells k 3)]⟩/\slot a 7= .int .i64 e) fu ?_ ?_
    .refine ⟨n,o,rfl,?_⟩;simp only[*,go_sem]
    rintro z ab F' B ⟨e,o,rfl,bl⟩;obtain ⟨ad,ae,al⟩:=B.pick [0,1,2,6,8,13,14] (by decide);simp only[*,go_sem] at ad ae al;have bm:cM (rg 13 120 [6,7,8,9,10]) ab M:=(B.gm (by decide)).trans (by simp only[*,go_sem]);clear B u w x O P Q;obtain _|z:=z
    .exact absurd o (by simp only[aZ,reduceCtorEq,not_false_eq_true])
    revert o;refine bS fun bo h j=>?_;unfold xu at h;(try dsimp only at h);refine af hJ (af hJ ?_);refine aC hJ fun br=>?_;refine cP hJ mixed 16 1 (by simp only[*,go_sem]) (by kernel_rfl) ?_;revert h;refine cS (fun ao h=>?_) fun ao h=>?_
    .revert h;refine bS fun ar a0 h=>?_;obtain ⟨bs,bz,b0,b1⟩:=b.cU a0;revert h;refine bS fun a2 a3 h=>?_;obtain ⟨b2,b3,b4,b5⟩:=b.cU a3;revert h;refine bS fun ca a4 h=>?_;simp only[*,go_sem];refine ⟨_,bD hJ fun F cb=>jU ar a2 a4,cn ?_⟩;simp only[*,go_sem];revert h;refine aT hJ (fun a5 h=>?_) fun a5 h=>?_
     .obtain rfl:=sI h;refine aI hJ (aO hJ ?_);refine aC hJ fun cd=>?_;refine ak hJ ?_;simp only[*,go_sem];refine ⟨z,Nat.lt_succ_self _,_,Le.sub (List.Sublist.refl _),(IntKind.i64.wrap (e+1)),j,rfl,?_⟩;simp only[*,go_sem]
     obtain rfl:=sI h;refine bO ?_;simp only[go_sem];obtain rfl:=sI j;clear j;have h:=R;dsimp only[aF] at h;simp only[*,go_sem];refine Qn.intro ⟨_,Le.sub (List.Sublist.refl _),e,h,rfl,?_⟩;simp only[*,go_sem]
    obtain rfl:=sI h;simp only[*,go_sem];refine b6 hJ ?_;refine bO ?_;simp only[go_sem];obtain rfl:=sI j;clear j;have h:=R;dsimp only[aF] at h;refine Qn.intro ⟨_,Le.sub (List.Sublist.refl _),e,h,rfl,?_⟩;simp only[*,go_sem]
   rintro cf F' ⟨y,S,rfl,cl,cu,cy,c0,da,db,dd,df,dk⟩;obtain rfl:=sI S;clear S;have h:=Y;dsimp only[aF] at h;clear u w x O P Q;refine af hJ (af hJ ?_);refine aC hJ fun dp=>?_;refine ak hJ ?_;simp only[*,go_sem];revert h;refine aT hJ (fun a6 h=>?_) fun a6 h=>?_
   .obtain rfl:=sI h;refine af hJ ?_;refine aC hJ fun dq=>?_;refine ak hJ ?_;simp only[*,go_sem];obtain rfl:=sI d;clear d;have h:=t;dsimp only[aF] at h;obtain rfl:=sI h;have h:=q;dsimp only[aF] at h;obtain rfl:=sI h;refine ax ?_;simp only[*,go_sem];exact ⟨_,b,Le.sub (List.Sublist.refl _)⟩
   refine aI hJ (af hJ ?_);refine af hJ ?_;refine aC hJ fun ds=>?_;refine ak hJ ?_;simp only[*,go_sem];revert h;refine aT hJ (fun a7 h=>?_) fun a7 h=>?_
   .obtain rfl:=sI h;refine af hJ ?_;refine aC hJ fun dt=>?_;refine ak hJ ?_;simp only[*,go_sem];obtain rfl:=sI d;clear d;have h:=t;dsimp only[aF] at h;obtain rfl:=sI h;have h:=q;dsimp only[aF] at h;obtain rfl:=sI h;refine ax ?_;simp only[*,go_sem];exact ⟨_,b,Le.sub (List.Sublist.refl _)⟩
   cases h
  obtain rfl:=sI h;refine bO ?_;simp only[go_sem];obtain rfl:=sI d;clear d;have h:=t;dsimp only[aF] at h;simp only[*,go_sem];refine Qn.intro ⟨_,Le.sub (List.Sublist.refl _),i,h,rfl,?_⟩;simp only[*,go_sem]
 rintro du F' ⟨s,T,rfl,dv,dC,dE,dT⟩;obtain rfl:=sI T;clear T;have h:=q;dsimp only[aF] at h;obtain rfl:=sI h;clear H hd I k1 K;refine af hJ ?_;refine aC hJ fun ea=>?_;refine ak hJ ?_;simp only[*,go_sem];refine ax ?_;simp only[*,go_sem];exact ⟨_,b,Le.sub (List.Sublist.refl _)⟩
def xy (st:(Int×Int×Int×Bool×Bool×(List Int))):Option (Fl (Int×Int×Int×Bool×Bool×(List Int)) (Unit×(List Int))):=
 cond (decide ((IntKind.i64.wrap (st.2.1 - st.1))<=12)) (ag (tf st.2.2.2.2.2 st.1 st.2.1) fun j=>some (.rt ((),j.2))) (cond ((st.2.2.1==0)) (none) (ag (cond (!st.2.2.2.1) (ag (xd st.2.2.2.2.2 st.1 st.2.1) fun k=>some (.bk ((IntKind.i64.wrap (st.2.2.1 - 1)),k.2))) (some (.bk (st.2.2.1,st.2.2.2.2.2))):Option (Fl (Int×(List Int)) (Unit×(List Int)))) fun o=>aF o (fun c=>ag (w7 c.2 st.1 st.2.1) fun b=>cond ((b.1.2==2)) (none) (ag (cond (st.2.2.2.1) (cond (st.2.2.2.2.1) (cond ((b.1.2==1)) (ag (xx b.2 st.1 st.2.1) fun f=>cond (f.1) (some (.rt ((),f.2))) (some (.bk f.2))) (some (.bk b.2))) (some (.bk b.2))) (some (.bk b.2)):Option (Fl (List Int) (Unit×(List Int)))) fun o=>aF o (fun e=>ag (cond (decide (0<st.1)) (ag (bf e (IntKind.i64.wrap (st.1 - 1))) fun l=>ag (bf e b.1.1) fun m=>ag (iI l m) fun n=>cond (!n) (ag (xq e st.1 st.2.1 b.1.1) fun g=>some (.br 1 (g.1,g.2))) (some (.bk (st.1,e)))) (some (.bk (st.1,e))):Option (Fl (Int×(List Int)) (Unit×(List Int)))) fun o=>aF o (fun d=>ag (xl d.2 d.1 st.2.1 b.1.1) fun a=>ag (fJ (IntKind.i64.wrap (st.2.1 - st.1)) 8) fun h=>cond (decide ((IntKind.i64.wrap (a.1.1 - d.1))<(IntKind.i64.wrap (st.2.1 - a.1.1)))) (ag (tg a.2 d.1 a.1.1 c.1) fun p=>some (.nx ((IntKind.i64.wrap (a.1.1+1)),st.2.1,c.1,(decide (h<=(IntKind.i64.wrap (a.1.1 - d.1)))),a.1.2,p.2))) (ag (tg a.2 (IntKind.i64.wrap (a.1.1+1)) st.2.1 c.1) fun q=>some (.nx (d.1,a.1.1,c.1,(decide (h<=(IntKind.i64.wrap (st.2.1 - a.1.1)))),a.1.2,q.2)))) (fun _ i=>some (.nx (i.1,st.2.1,c.1,st.2.2.2.1,st.2.2.2.2.1,i.2))) (fun r=>some (.rt r))) (fun _ _=>none) (fun r=>some (.rt r)))) (fun _ _=>none) (fun r=>some (.rt r))))
def xz (u0:(List Int))(a:Int)(b:Int)(c:Int):Option (Unit×(List Int)):=
 cond (List.isEmpty u0) none (ag (aZ (xy) fu (a,b,c,true,true,u0)) fun o=>aF o (fun d=>some ((),d.2.2.2.2.2)) (fun _ _=>none) (fun r=>some r))
theorem HQ {ro:Addr->Option Value}(u0:(List Int)){H:Value}{T:List (Nat×Obj)}(I:aP rI ro 3 H u0 T)(K:Int)(L:Int)(M:Int){r:(Unit×(List Int))}(h:xz u0 K L M=some r):aD Tryz.prog 189 #[H,.int .i64 K,.int .i64 L,.int .i64 M] ⟨ro,T⟩ (fun v G=>∃d,(v= .tuple #[]/\aP rI ro 3 H r.2 d)/\Le ⟨ro,d⟩ G):=by
 obtain ⟨d1,c2,rfl,gp⟩:=I.len;unfold xz at h;revert h;refine cS (fun U h=>?_) fun U h=>?_
 .cases h
 obtain ⟨b,bd,rfl,rfl,gB⟩:=I.iH U;refine aD.go Tryz.func189 rfl Tryz.ntmps189 Tryz.results189 (by simp) fun main J hJ A bj hd hs=>?_;have bl:=hs 0;have k1:=hs 1;have bm:=hs 2;have bo:=hs 3;clear hs;refine af hJ ?_;refine aC hJ fun gC=>?_;refine ak hJ ?_;simp only[*,go_sem];refine af hJ ?_;refine aC hJ fun gM=>?_;refine ak hJ ?_;simp only[*,go_sem];refine aO hJ ?_;revert h;refine bS fun br z V=>?_;refine bU hJ (rg 8 126 [1,2,3]) (fun m a F'=>∃(B:Array Value) (e:Int) (c:Int) (t:Int) (l:Bool) (n:Bool) (q:(List Int)),aZ (xy) m (e,c,t,l,n,q)=some br/\F'=⟨ro,[(b,Obj.cells B 3)]⟩/\aP rI ro 3 (.slice (some ⟨b,0,none⟩) u0.length c2) q [(b,Obj.cells B 3)]/\slot a 1= .int .i64 e/\slot a 2= .int .i64 c/\slot a 3= .int .i64 t/\slot a 8= .bool l/\slot a 9= .bool n) fu ?_ ?_
 .refine ⟨bd,K,L,M,true,true,u0,z,rfl,I,?_⟩;simp only[*,go_sem]
 rintro u N F' W ⟨B,e,c,t,l,n,q,z,rfl,O,bs,bz,b0,b1,b2⟩;obtain ⟨X,Y,Z⟩:=W.pick [0] (by decide);simp only[*,go_sem] at X Y Z;clear W bj hd bl k1 bm bo;obtain _|u:=u
 .exact absurd z (by simp only[aZ,reduceCtorEq,not_false_eq_true])
 revert z;refine bS fun gT h o=>?_;unfold xy at h;try dsimp only at h
 refine aO hJ (af hJ ?_);refine aC hJ fun gV=>?_;refine ak hJ ?_;simp only[*,go_sem];refine af hJ (af hJ ?_);refine aC hJ fun g0=>?_;refine ak hJ ?_;simp only[*,go_sem];revert h;refine aT hJ (fun b3 h=>?_) fun b3 h=>?_
 .refine af hJ ?_;refine aC hJ fun g1=>?_;refine ak hJ ?_;revert h;refine bS fun g2 b4 h=>?_;obtain rfl:=sI h;simp only[*,go_sem];refine dN hJ [] [] _ (BE q O e c b4) (fun g3 g4 f d g ha=>?_);obtain ⟨rfl,ab⟩:=f;obtain ⟨b5,rfl⟩:=ab.gL;simp only[aS] at g;subst d;refine ⟨⟨ro,[(b,Obj.cells b5 3)]⟩,Le.refl _,?_⟩;obtain rfl:=sI o;clear o;have h:=V;dsimp only[aF] at h;obtain rfl:=sI h;refine ax ?_;simp only[*,go_sem];exact ⟨_,ab,Le.sub (List.Sublist.refl _)⟩
 refine aI hJ (af hJ ?_);refine af hJ ?_;refine aC hJ fun hc=>?_;refine ak hJ ?_;simp only[*,go_sem];revert h;refine aT hJ (fun ca h=>?_) fun ca h=>?_
 .cases h
 refine aI hJ ?_;revert h;refine bS fun cb h cd=>?_;refine gw hJ (fun a F'=>∃(P:Array Value) (i:Int) (C:(List Int)),some (Fl.bk (i,C):Fl (Int×(List Int)) (Unit×(List Int)))=some cb/\F'=⟨ro,[(b,Obj.cells P 3)]⟩/\aP rI ro 3 (.slice (some ⟨b,0,none⟩) u0.length c2) C [(b,Obj.cells P 3)]/\sz a=134/\a.defers=[]/\cM (rg 8 126 [1,2,3]) a N/\slot a 0= .slice (some ⟨b,0,none⟩) u0.length c2/\slot a 1= .int .i64 e/\slot a 2= .int .i64 c/\slot a 3= .int .i64 i/\slot a 8= .bool l/\slot a 9= .bool n/\slot a 10= .int .i64 (IntKind.i64.wrap (c - e))) ?_ ?_
 .refine af hJ ?_;refine aC hJ fun hf=>?_;refine ak hJ ?_;simp only[*,go_sem];revert h;refine aT hJ (fun cf h=>?_) fun cf h=>?_
  .refine af hJ ?_;refine aC hJ fun hg=>?_;refine ak hJ ?_;revert h;refine bS fun cl cu h=>?_;simp only[*,go_sem];refine dN hJ [] [] _ (HM q O e c cu) (fun hh hi f d g hj=>?_);obtain ⟨rfl,ad⟩:=f;obtain ⟨ae,rfl⟩:=ad.gL;simp only[aS] at g;subst d;refine ⟨⟨ro,[(b,Obj.cells ae 3)]⟩,Le.refl _,?_⟩;refine aC hJ fun hk=>?_;refine ak hJ ?_;simp only[*,go_sem];refine Qn.intro ⟨_,Le.sub (List.Sublist.refl _),ae,(IntKind.i64.wrap (t - 1)),cl.2,h,rfl,ad,?_⟩;simp only[*,go_sem]
  refine aI hJ ?_;simp only[*,go_sem];refine Qn.intro ⟨_,Le.sub (List.Sublist.refl _),B,t,q,h,rfl,O,?_⟩;simp only[*,go_sem]
 rintro hl F' ⟨P,i,C,al,rfl,cy,c0,da,hn,db,dd,df,dk,dp,dq,ds⟩;obtain rfl:=sI al;clear al;have h:=cd;dsimp only[aF] at h;clear X Y Z bs bz b0 b1 b2;refine af hJ ?_;refine aC hJ fun ho=>?_;refine ak hJ ?_;revert h;refine bS fun k dt h=>?_;simp only[*,go_sem];refine dN hJ [] [] _ (HB C cy e c dt) (fun hp hq f d g hr=>?_);obtain ⟨rfl,w⟩:=f;obtain ⟨D,rfl⟩:=w.gL;simp only[aS] at g;subst d;refine ⟨⟨ro,[(b,Obj.cells D 3)]⟩,Le.refl _,?_⟩;refine aJ ?_;simp only[*,go_sem];refine af hJ (af hJ ?_);refine aC hJ fun ht=>?_;refine ak hJ ?_;simp only[*,go_sem];revert h;refine aT hJ (fun du h=>?_) fun du h=>?_
 .cases h
 refine aI hJ ?_;revert h;refine bS fun dv h ao=>?_;refine gw hJ (fun a F'=>∃(x:Array Value) (s:(List Int)),some (Fl.bk s:Fl (List Int) (Unit×(List Int)))=some dv/\F'=⟨ro,[(b,Obj.cells x 3)]⟩/\aP rI ro 3 (.slice (some ⟨b,0,none⟩) u0.length c2) s [(b,Obj.cells x 3)]/\sz a=134/\a.defers=[]/\cM (rg 8 126 [1,2,3]) a N/\slot a 0= .slice (some ⟨b,0,none⟩) u0.length c2/\slot a 1= .int .i64 e/\slot a 2= .int .i64 c/\slot a 3= .int .i64 i/\slot a 8= .bool l/\slot a 9= .bool n/\slot a 10= .int .i64 (IntKind.i64.wrap (c - e))/\slot a 11= .int .i64 k.1.1) ?_ ?_
 .refine af hJ ?_;refine aC hJ fun hv=>?_;refine ak hJ ?_;revert h;refine cS (fun dC h=>?_) fun dC h=>?_
  .revert h;refine cS (fun dE h=>?_) fun dE h=>?_
   .simp only[*,go_sem];revert h;refine aT hJ (fun dT h=>?_) fun dT h=>?_
    .refine af hJ ?_;refine aC hJ fun hx=>?_;refine ak hJ ?_;revert h;refine bS fun ea eb h=>?_;simp only[*,go_sem];refine dN hJ [] [] _ (HP k.2 w e c eb) (fun hy hz f d g hA=>?_);obtain ⟨rfl,Q⟩:=f;obtain ⟨ar,rfl⟩:=Q.gL;simp only[aS] at g;subst d;refine ⟨⟨ro,[(b,Obj.cells ar 3)]⟩,Le.refl _,?_⟩;revert h;refine aT hJ (fun ec h=>?_) fun ec h=>?_
     .obtain rfl:=sI h;have h:=ao;dsimp only[aF] at h;obtain rfl:=sI h;obtain rfl:=sI o;clear o;have h:=V;dsimp only[aF] at h;obtain rfl:=sI h;refine ax ?_;simp only[*,go_sem];exact ⟨_,Q,Le.sub (List.Sublist.refl _)⟩
     refine aI hJ ?_;simp only[*,go_sem];refine Qn.intro ⟨_,Le.sub (List.Sublist.refl _),ar,ea.2,h,rfl,Q,?_⟩;simp only[*,go_sem]
    refine aI hJ ?_;simp only[*,go_sem];refine Qn.intro ⟨_,Le.sub (List.Sublist.refl _),D,k.2,h,rfl,w,?_⟩;simp only[*,go_sem]
   simp only[*,go_sem];refine b6 hJ ?_;refine aI hJ ?_;refine Qn.intro ⟨_,Le.sub (List.Sublist.refl _),D,k.2,h,rfl,w,?_⟩;simp only[*,go_sem]
  simp only[*,go_sem];refine b6 hJ ?_;refine aI hJ ?_;refine Qn.intro ⟨_,Le.sub (List.Sublist.refl _),D,k.2,h,rfl,w,?_⟩;simp only[*,go_sem]
 rintro hB F' ⟨x,s,a0,rfl,y,ed,eh,hD,et,eu,ev,eQ,eS,e0,e1,e2⟩;obtain rfl:=sI a0;clear a0;have h:=ao;dsimp only[aF] at h;clear c0 da db dd df dk dp dq ds;revert h;refine bS fun e3 h a2=>?_;refine gw hJ (fun a F'=>∃(R:Array Value) (p:Int) (E:(List Int)),some (Fl.bk (p,E):Fl (Int×(List Int)) (Unit×(List Int)))=some e3/\F'=⟨ro,[(b,Obj.cells R 3)]⟩/\aP rI ro 3 (.slice (some ⟨b,0,none⟩) u0.length c2) E [(b,Obj.cells R 3)]/\sz a=134/\a.defers=[]/\cM (rg 8 126 [1,2,3]) a N/\slot a 0= .slice (some ⟨b,0,none⟩) u0.length c2/\slot a 1= .int .i64 p/\slot a 2= .int .i64 c/\slot a 3= .int .i64 i/\slot a 8= .bool l/\slot a 9= .bool n/\slot a 10= .int .i64 (IntKind.i64.wrap (c - e))/\slot a 11= .int .i64 k.1.1) ?_ ?_
 .refine af hJ ?_;refine aC hJ fun hE=>?_;refine cP hJ mixed 15 1 (by simp only[*,go_sem]) (by kernel_rfl) ?_;revert h;refine cS (fun fa h=>?_) fun fa h=>?_
  .revert h;refine bS fun fb fg h=>?_;obtain ⟨hF,hG,hI,hK⟩:=y.cU fg;revert h;refine bS fun fi fo h=>?_;obtain ⟨hL,hM,hN,hP⟩:=y.cU fo;revert h;refine bS fun hQ fp h=>?_;simp only[*,go_sem];refine ⟨_,bD hJ fun F hR=>jU fb fi fp,cn ?_⟩;simp only[*,go_sem];revert h;refine aT hJ (fun fr h=>?_) fun fr h=>?_
   .refine af hJ ?_;refine aC hJ fun hS=>?_;refine ak hJ ?_;revert h;refine bS fun a3 fs h=>?_;obtain rfl:=sI h;simp only[*,go_sem];refine dN hJ [] [] _ (HO s y e c k.1.1 fs) (fun hT hV f d g hX=>?_);obtain ⟨rfl,a4⟩:=f;obtain ⟨a5,rfl⟩:=a4.gL;simp only[aS] at g;subst d;refine ⟨⟨ro,[(b,Obj.cells a5 3)]⟩,Le.refl _,?_⟩;refine aJ ?_;simp only[*,go_sem];refine af hJ ?_;refine aC hJ fun hY=>?_;refine ak hJ ?_;simp only[*,go_sem];refine bO ?_;simp only[go_sem];have h:=a2;dsimp only[aF] at h;obtain rfl:=sI h;simp only[*,go_sem];refine ⟨u,Nat.lt_succ_self _,_,Le.sub (List.Sublist.refl _),a5,a3.1,c,i,l,n,a3.2,o,rfl,a4,?_⟩;simp only[*,go_sem]
   refine aI hJ ?_;simp only[*,go_sem];refine Qn.intro ⟨_,Le.sub (List.Sublist.refl _),x,e,s,h,rfl,y,?_⟩;simp only[*,go_sem]
  simp only[*,go_sem];refine b6 hJ ?_;refine aI hJ ?_;refine Qn.intro ⟨_,Le.sub (List.Sublist.refl _),x,e,s,h,rfl,y,?_⟩;simp only[*,go_sem]
 rintro hZ F' ⟨R,p,E,a6,rfl,ft,h0,h1,h2,h3,h4,h5,h6,h7,h8,h9,ib⟩;obtain rfl:=sI a6;clear a6;have h:=a2;dsimp only[aF] at h;clear ed eh et eu ev eQ eS e0 e1 e2;refine af hJ ?_;refine aC hJ fun ic=>?_;refine ak hJ ?_;revert h;refine bS fun j fv h=>?_;simp only[*,go_sem];refine dN hJ [] [] _ (HN E ft p c k.1.1 fv) (fun ih ik f d g il=>?_);obtain ⟨rfl,S⟩:=f;obtain ⟨fw,rfl⟩:=S.gL;simp only[aS] at g;subst d;refine ⟨⟨ro,[(b,Obj.cells fw 3)]⟩,Le.refl _,?_⟩;refine aJ ?_;simp only[*,go_sem];refine af hJ ?_;refine aC hJ fun im=>?_;refine ak hJ ?_;simp only[*,go_sem];refine af hJ ?_;refine aC hJ fun iv=>?_;refine ak hJ ?_;simp only[*,go_sem];refine af hJ ?_;refine aC hJ fun ix=>?_;refine ak hJ ?_;revert h;refine bS fun a7 a8 h=>?_;obtain ⟨jC,j1⟩:=kz a8;clear a8;simp only[*,go_sem];refine af hJ ?_;refine aC hJ fun j2=>?_;refine ak hJ ?_;simp only[*,go_sem];revert h;refine aT hJ (fun fx h=>?_) fun fx h=>?_
 .refine af hJ ?_;refine aC hJ fun kh=>?_;refine ak hJ ?_;simp only[*,go_sem];refine af hJ ?_;refine aC hJ fun kj=>?_;refine ak hJ ?_;revert h;refine bS fun fz gg h=>?_;obtain rfl:=sI h;simp only[*,go_sem];refine dN hJ [] [] _ (BG j.2 S p j.1.1 i gg) (fun kk kl f d g km=>?_);obtain ⟨rfl,a9⟩:=f;obtain ⟨ba,rfl⟩:=a9.gL;simp only[aS] at g;subst d;refine ⟨⟨ro,[(b,Obj.cells ba 3)]⟩,Le.refl _,?_⟩;refine aC hJ fun kn=>?_;refine ak hJ ?_;simp only[*,go_sem];refine ⟨u,Nat.lt_succ_self _,_,Le.sub (List.Sublist.refl _),ba,(IntKind.i64.wrap (j.1.1+1)),c,i,(decide (a7<=(IntKind.i64.wrap (j.1.1 - p)))),j.1.2,fz.2,o,rfl,a9,?_⟩;simp only[*,go_sem]
 refine af hJ ?_;refine aC hJ fun kp=>?_;refine ak hJ ?_;simp only[*,go_sem];refine af hJ ?_;refine aC hJ fun ks=>?_;refine ak hJ ?_;revert h;refine bS fun gl gn h=>?_;obtain rfl:=sI h;simp only[*,go_sem];refine dN hJ [] [] _ (BG j.2 S (IntKind.i64.wrap (j.1.1+1)) c i gn) (fun kt kv f d g kx=>?_);obtain ⟨rfl,bb⟩:=f;obtain ⟨bc,rfl⟩:=bb.gL;simp only[aS] at g;subst d;refine ⟨⟨ro,[(b,Obj.cells bc 3)]⟩,Le.refl _,?_⟩;refine aC hJ fun ky=>?_;refine ak hJ ?_;simp only[*,go_sem];refine ⟨u,Nat.lt_succ_self _,_,Le.sub (List.Sublist.refl _),bc,p,j.1.1,i,(decide (a7<=(IntKind.i64.wrap (c - j.1.1)))),j.1.2,gl.2,o,rfl,bb,?_⟩;simp only[*,go_sem]
def qB (u0:(List Int)):Option (Unit×(List Int)):=
 cond (List.isEmpty u0) none (ag (th (IntKind.u64.wrap (u0.length:Int))) fun a=>ag (xz u0 0 (u0.length:Int) a) fun b=>some ((),b.2))
theorem HR {ro:Addr->Option Value}(u0:(List Int)){b:Value}{d:List (Nat×Obj)}(c:aP rI ro 3 b u0 d){r:(Unit×(List Int))}(h:qB u0=some r):aD Tryz.prog 159 #[b] ⟨ro,d⟩ (fun v G=>∃a,(v= .tuple #[]/\aP rI ro 3 b r.2 a)/\Le ⟨ro,a⟩ G):=by
 obtain ⟨d1,c2,rfl,o⟩:=c.len;unfold qB at h;revert h;refine cS (fun e h=>?_) fun e h=>?_
 .cases h
 obtain ⟨g,p,rfl,rfl,q⟩:=c.iH e;refine aD.go Tryz.func159 rfl Tryz.ntmps159 Tryz.results159 (by simp) fun main J hJ A s hd hs=>?_;have t:=hs 0;clear hs;refine af hJ ?_;refine aC hJ fun u=>?_;refine ak hJ ?_;simp only[*,go_sem,-h];refine aC hJ fun w=>?_;refine ak hJ ?_;revert h;refine bS fun i j h=>?_;simp only[*,go_sem,-h];refine aU hJ _ (BH (IntKind.u64.wrap (u0.length:Int)) j) (aJ ?_);revert h;refine bS fun x k h=>?_;simp only[*,go_sem,-h];refine dN hJ [] [] _ (HQ u0 c 0 (u0.length:Int) i k) (fun y z l a m B=>?_);obtain ⟨rfl,f⟩:=l;obtain ⟨n,rfl⟩:=f.gL;simp only[aS] at m;subst a;refine ⟨⟨ro,[(g,Obj.cells n 3)]⟩,Le.refl _,?_⟩;obtain rfl:=sI h;simp only[*,go_sem];exact ⟨_,f,Le.sub (List.Sublist.refl _)⟩
end Go.Proofs.YtghbphimkgamkaaGreatDoor
end

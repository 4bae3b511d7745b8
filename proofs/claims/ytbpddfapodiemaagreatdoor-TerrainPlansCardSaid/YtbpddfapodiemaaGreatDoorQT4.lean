/- A part of the proof: QT4. -/
import Derived.Test.YtbpddfapodiemaaGreatDoorQT3
set_option linter.all false
section
namespace Go.Proofs.YtbpddfapodiemaaGreatDoor
open Go Go.Sep Go.Proofs
set_option maxRecDepth 100000
set_option maxHeartbeats 4000000
def uj (u0:List cn):Option (List cn):=if u0.length<=1000000 then some u0 else none
theorem xw {ro:Addr->Option Value}(u0:List cn){s1:Value}(b:aH dL ro s1 u0){x:List cn}(h:uj u0=some x):aI Tryz.prog 116 #[s1] ⟨ro,[]⟩ (fun v G=>∃a,aZ dL ro 86 v x a/\Le ⟨ro,a⟩ G):=by
 obtain ⟨ad,cap,rfl,le,d,e⟩:=id b;unfold uj at h;split at h
 case isFalse=>cases h
 rename_i hlen;obtain rfl:=Option.some.inj h;clear h;refine aI.go Tryz.func116 rfl Tryz.ntmps116 Tryz.results116 av fun main J hJ A f hd hs=>?_;have g:=hs 0;clear hs;apply aB hJ _;cases ad with
 |none=>
  have hu:u0=[]:=by
   cases u0 with
   |nil=>rfl
   |cons x l=>obtain ⟨p,cs,c,_⟩:=e 0 x rfl;cases c
  subst hu;first|refine aF hJ ?_|refine ah hJ (aF hJ ?_)
  apply ag _;refine eF hJ aL ?_;apply aB hJ _;refine bX ?_;exact ⟨[],aZ.nil _ _ _,Le.refl _⟩
 |some p=>
  first|refine aF hJ ?_|refine ah hJ (aF hJ ?_)
  apply ag _;refine ew hJ aL ?_;apply aN hJ;apply aB hJ _;intro i f1;have r1:=fA f1;try apply ag _
  refine q2 r1 trivial rfl hlen b rfl rfl eZ eZ jd jf rfl je aD aD (fun v a hg j=>aP ?_);apply ag _;refine bX ?_;exact ⟨a,hg,Le.refl _⟩
def uk (u0:List cA):Option (List cA):=if u0.length<=1000000 then some u0 else none
theorem BW {ro:Addr->Option Value}(u0:List cA){s1:Value}(b:aH fN ro s1 u0){x:List cA}(h:uk u0=some x):aI Tryz.prog 119 #[s1] ⟨ro,[]⟩ (fun v G=>∃a,aZ fN ro 66 v x a/\Le ⟨ro,a⟩ G):=by
 obtain ⟨ad,cap,rfl,le,d,e⟩:=id b;unfold uk at h;split at h
 case isFalse=>cases h
 rename_i hlen;obtain rfl:=Option.some.inj h;clear h;refine aI.go Tryz.func119 rfl Tryz.ntmps119 Tryz.results119 av fun main J hJ A f hd hs=>?_;have g:=hs 0;clear hs;apply aB hJ _;cases ad with
 |none=>
  have hu:u0=[]:=by
   cases u0 with
   |nil=>rfl
   |cons x l=>obtain ⟨p,cs,c,_⟩:=e 0 x rfl;cases c
  subst hu;first|refine aF hJ ?_|refine ah hJ (aF hJ ?_)
  apply ag _;refine eF hJ aL ?_;apply aB hJ _;refine bX ?_;exact ⟨[],aZ.nil _ _ _,Le.refl _⟩
 |some p=>
  first|refine aF hJ ?_|refine ah hJ (aF hJ ?_)
  apply ag _;refine ew hJ aL ?_;apply aN hJ;apply aB hJ _;intro i f1;have r1:=fA f1;try apply ag _
  refine q2 r1 trivial rfl hlen b rfl rfl A9 A9 Gv Gx rfl Gw aD aD (fun v a hg j=>aP ?_);apply ag _;refine bX ?_;exact ⟨a,hg,Le.refl _⟩
def xx (u0:List cj):Option (List cj):=if u0.length<=1000000 then some u0 else none
theorem Ij {ro:Addr->Option Value}(u0:List cj){s1:Value}(b:aH fT ro s1 u0){x:List cj}(h:xx u0=some x):aI Tryz.prog 147 #[s1] ⟨ro,[]⟩ (fun v G=>∃a,aZ fT ro 125 v x a/\Le ⟨ro,a⟩ G):=by
 obtain ⟨ad,cap,rfl,le,d,e⟩:=id b;unfold xx at h;split at h
 case isFalse=>cases h
 rename_i hlen;obtain rfl:=Option.some.inj h;clear h;refine aI.go Tryz.func147 rfl Tryz.ntmps147 Tryz.results147 av fun main J hJ A f hd hs=>?_;have g:=hs 0;clear hs;apply aB hJ _;cases ad with
 |none=>
  have hu:u0=[]:=by
   cases u0 with
   |nil=>rfl
   |cons x l=>obtain ⟨p,cs,c,_⟩:=e 0 x rfl;cases c
  subst hu;first|refine aF hJ ?_|refine ah hJ (aF hJ ?_)
  apply ag _;refine eF hJ aL ?_;apply aB hJ _;refine bX ?_;exact ⟨[],aZ.nil _ _ _,Le.refl _⟩
 |some p=>
  first|refine aF hJ ?_|refine ah hJ (aF hJ ?_)
  apply ag _;refine ew hJ aL ?_;apply aN hJ;apply aB hJ _;intro i f1;have r1:=fA f1;try apply ag _
  refine q2 r1 trivial rfl hlen b rfl rfl A8 A8 GB wT rfl GC aD aD (fun v a hg j=>aP ?_);apply ag _;refine bX ?_;exact ⟨a,hg,Le.refl _⟩
def rG (u0:List cm):Option (List cm):=if u0.length<=1000000 then some u0 else none
theorem BX {ro:Addr->Option Value}(u0:List cm){s1:Value}(b:aH fe ro s1 u0){x:List cm}(h:rG u0=some x):aI Tryz.prog 148 #[s1] ⟨ro,[]⟩ (fun v G=>∃a,aZ fe ro 159 v x a/\Le ⟨ro,a⟩ G):=by
 obtain ⟨ad,cap,rfl,le,d,e⟩:=id b;unfold rG at h;split at h
 case isFalse=>cases h
 rename_i hlen;obtain rfl:=Option.some.inj h;clear h;refine aI.go Tryz.func148 rfl Tryz.ntmps148 Tryz.results148 av fun main J hJ A f hd hs=>?_;have g:=hs 0;clear hs;apply aB hJ _;cases ad with
 |none=>
  have hu:u0=[]:=by
   cases u0 with
   |nil=>rfl
   |cons x l=>obtain ⟨p,cs,c,_⟩:=e 0 x rfl;cases c
  subst hu;first|refine aF hJ ?_|refine ah hJ (aF hJ ?_)
  apply ag _;refine eF hJ aL ?_;apply aB hJ _;refine bX ?_;exact ⟨[],aZ.nil _ _ _,Le.refl _⟩
 |some p=>
  first|refine aF hJ ?_|refine ah hJ (aF hJ ?_)
  apply ag _;refine ew hJ aL ?_;apply aN hJ;apply aB hJ _;intro i f1;have r1:=fA f1;try apply ag _
  refine q2 r1 trivial rfl hlen b rfl rfl lY lY tf th rfl tg aD aD (fun v a hg j=>aP ?_);apply ag _;refine bX ?_;exact ⟨a,hg,Le.refl _⟩
def o5 (u0:List Int):Option (List Int):=if u0.length<=1000000 then some u0 else none
theorem BY {ro:Addr->Option Value}(u0:List Int){s1:Value}(b:aH rI ro s1 u0){x:List Int}(h:o5 u0=some x):aI Tryz.prog 135 #[s1] ⟨ro,[]⟩ (fun v G=>∃a,aZ rI ro 3 v x a/\Le ⟨ro,a⟩ G):=by
 obtain ⟨ad,cap,rfl,le,d,e⟩:=id b;unfold o5 at h;split at h
 case isFalse=>cases h
 rename_i hlen;obtain rfl:=Option.some.inj h;clear h;refine aI.go Tryz.func135 rfl Tryz.ntmps135 Tryz.results135 av fun main J hJ A f hd hs=>?_;have g:=hs 0;clear hs;apply aB hJ _;cases ad with
 |none=>
  have hu:u0=[]:=by
   cases u0 with
   |nil=>rfl
   |cons x l=>obtain ⟨p,cs,c,_⟩:=e 0 x rfl;cases c
  subst hu;first|refine aF hJ ?_|refine ah hJ (aF hJ ?_)
  apply ag _;refine eF hJ aL ?_;apply aB hJ _;refine bX ?_;exact ⟨[],aZ.nil _ _ _,Le.refl _⟩
 |some p=>
  first|refine aF hJ ?_|refine ah hJ (aF hJ ?_)
  apply ag _;refine ew hJ aL ?_;apply aN hJ;apply aB hJ _;intro i f1;have r1:=fA f1;try apply ag _
  refine q2 r1 trivial rfl hlen b rfl rfl cZ cZ e8 fc rfl e9 aD aD (fun v a hg j=>aP ?_);apply ag _;refine bX ?_;exact ⟨a,hg,Le.refl _⟩
def nE (u0:an)(i43:Nat)(b:(an->Option Int))(st:Int):Option (Fl Int (an×Int)):=
 ai (b u0) fun a=>cond ((a != 0)) (some (.rt ((⟨0,0,(⟨0,0⟩:au),([]:(List cj)),([]:(List cm)),([]:(List cA)),([]:(List cn))⟩:an),a))) (some (.nx st))
def eJ (u0:an)(b:(List (an->Option Int))):Option (an×Int):=
 ai (gf u0) fun a=>cond ((a != 0)) (some ((⟨0,0,(⟨0,0⟩:au),([]:(List cj)),([]:(List cm)),([]:(List cA)),([]:(List cn))⟩:an),a)) (ai (bM (nE u0) 0 b 0) fun o=>aG o (fun c=>some (u0,0)) (fun _ _=>none) (fun r=>some r))
theorem lu {ro:Addr->Option Value}(D:dM ro)(u0:an){s1 f g i:Value}(b:bR ro u0 s1 f g i)(c:(List (an->Option Int))){o:Value}(q:aH (dG) ro o c){r:(an×Int)}(h:eJ u0 c=some r):eH Tryz.prog 76 #[bv u0 s1 f g i,o] ro (fun v bf=>∃s w1 w2 w3,v= .tuple #[bv r.1 s w1 w2 w3,.int .i64 r.2]/\bR bf r.1 s w1 w2 w3):=by
 obtain ⟨d31,ae,rfl,al,E,-⟩:=id q;unfold eJ at h;have F:=b.oc;simp only[bU] at F;refine aI.go Tryz.func76 rfl Tryz.ntmps76 Tryz.results76 av fun main J hJ A G hd hs=>?_;have H:=hs 0;have k1:=hs 1;clear hs;apply aB hJ _;refine aA fun I ao K=>?_;try simp only[ax] at K
 refine aA fun L ar M=>?_;try simp only[ax] at M
 refine ah hJ (aF hJ ?_);revert h;refine bS fun a0 N h=>?_;apply ag _;refine bn hJ _ (BS (D.mono bq) u0 (b.e.mono bq) (b.p.mono bq) (b.y.mono bq) (b.t.mono bq) N) (aP ?_);apply ag _;apply aB hJ _;revert h;refine aV hJ (fun O h=>?_) fun O h=>?_
 .cases h;apply aB hJ _;refine bX ?_;exact ⟨_,Ext.refl _,Le.sub (List.nil_sublist _),_,_,_,_,rfl,⟨aH.nil _ _,aH.nil _ _,aH.nil _ _,aH.nil _ _⟩⟩
 refine aN hJ (ah hJ ?_);apply aE hJ _;refine aA fun P a2 Q=>?_;try simp only[ax] at Q
 refine ah hJ (aF hJ ?_);apply ag _;apply aW hJ;revert h;refine bS fun R d u=>?_;refine bW hJ (rg 21 12 [5,9,10]) (fun m w F'=>∃(i43:Nat) (j:Int),m=c.length - i43/\i43<=c.length/\bM (nE u0) i43 (c.drop i43) j=some R/\F'=⟨ro,(P,bl u0 s1 f g i)::(L,bz 92)::(I,bk u0 s1 f g i)::[]⟩/\slot w 21= .int .i64 (i43:Int)/\slot w 5= .int .i64 j) c.length ?_ ?_
 .refine ⟨0,0,(Nat.sub_zero _).symm,Nat.zero_le _,d,rfl,?_⟩;simp only[*,go_sem]
 rintro a3 a4 F' z ⟨i43,j,rfl,a5,d,rfl,a6,a7⟩;obtain ⟨S,T,U⟩:=z.pick [4,7,19,20] aD;simp only[*,go_sem] at S T U;clear z G hd H k1;apply aB hJ _;apply ah hJ;rcases Nat.lt_or_ge i43 c.length with V|B
 .refine cW hJ ?_;apply aN hJ;obtain ⟨a8,k⟩:∃x,c[i43]?=some x:=⟨_,List.getElem?_eq_getElem V⟩
  rw[dJ k] at d;revert d;refine bS fun a9 h l=>?_;unfold nE at h;try dsimp only at h
  obtain ⟨ba,bb,W,X,C⟩:=q.el _ _ k;obtain ⟨bc,bd,bj,rfl,Y⟩:=X;cases W;have Z:=C 0 _ rfl;simp only[go_sem] at Z;clear C k;refine ah hJ (aW hJ (ah hJ ?_));apply aE hJ _;apply aF hJ;revert h;refine bS fun bm ab h=>?_;apply ag _;refine bn hJ _ (Y.2 _ (fun a v h=>bq a v h) u0 _ _ _ _ _ (b.e.mono bq) (b.p.mono bq) (b.y.mono bq) (b.t.mono bq) ab) (aP ?_);apply ag _;apply aB hJ _;revert h;refine aV hJ (fun ad h=>?_) fun ad h=>?_
  .cases h;apply aB hJ _;obtain rfl:=sI l;clear l;have h:=u;dsimp only[aG] at h;cases h;refine bX ?_;exact ⟨_,Ext.refl _,Le.sub (List.nil_sublist _),_,_,_,_,rfl,⟨aH.nil _ _,aH.nil _ _,aH.nil _ _,aH.nil _ _⟩⟩
  cases h;apply aN hJ;have bo:=cM (n:=i43) (by have:=E;omega);apply aE hJ _;refine ⟨c.length - (i43+1),aa,_,Le.sub (List.Sublist.refl _),i43+1,j,rfl,aa,l,rfl,?_⟩;simp only[*,go_sem]
 have br:=Nat.not_lt.2 B;refine cJ hJ ?_;rw[List.drop_eq_nil_of_le B] at d;obtain rfl:=sI d;clear d;have h:=u;dsimp only[aG] at h;cases h;apply bP;simp only[go_sem];apply aB hJ _;refine bX ?_;exact ⟨_,Ext.refl _,Le.sub (List.nil_sublist _),_,_,_,_,rfl,b⟩
def xy (u0:an)(b:Int):Option (au×Int):=
 ai (eJ u0 ([(oP b)])) fun a=>cond ((a.2 != 0)) (some ((⟨0,0⟩:au),a.2)) (ai (jQ a.1 b) fun c=>some (c,0))
theorem Ik {ro:Addr->Option Value}(f:dM ro)(u0:an){s1 g i j:Value}(k:bR ro u0 s1 g i j)(a:Int){r:(au×Int)}(h:xy u0 a=some r):aI Tryz.prog 42 #[bv u0 s1 g i j,.int .i64 a] ⟨ro,[]⟩ (fun v _=>v= .tuple #[r.1.v,.int .i64 r.2]):=by
 unfold xy at h;refine aI.go Tryz.func42 rfl Tryz.ntmps42 Tryz.results42 av fun main J hJ A V hd hs=>?_;have W:=hs 0;have k1:=hs 1;clear hs;apply aB hJ _;refine aA fun B C D=>?_;try simp only[ax] at D
 refine aA fun E F G=>?_;try simp only[ax] at G
 apply ah hJ;refine ay hJ fun H=>?_;apply aQ hJ;revert h;refine bS fun I K h=>?_;apply ag _;refine aA fun c m n=>?_;have q:=bg.cons n H;try simp only[ax] at n
 obtain ⟨l,s,u⟩:=fD (b:=c) (o:=(.cells #[.func (.func 112) #[.int .i64 a] #[]] 116)) [] ((E,rt 0 0)::(B,bk u0 s1 g i j)::[]) q m (aJ.cons F (aJ.cons C (aJ.nil _)));have w:aH (dG) (b9 ro c (.cells #[.func (.func 112) #[.int .i64 a] #[]] 116)) (.slice (some ⟨c,0,none⟩) 1 1) [(oP a)]:=(aH.one (r:=(dG)) (e:=116) (cs:=#[.func (.func 112) #[.int .i64 a] #[]]) (x:=(oP a)) (own:=[(c,.cells #[.func (.func 112) #[.int .i64 a] #[]] 116)]) m (by simp[lk]) ⟨112,#[.int .i64 a],#[],rfl,⟨by simp only[go_sem],fun X Y L _ _ _ _ _ M N O P h=>by simp only[go_sem];exact HO a L ⟨M,N,O,P⟩ h⟩⟩)
 generalize b9 ro c (.cells #[.func (.func 112) #[.int .i64 a] #[]] 116)=Z at w s l u;refine gI hJ u ?_;replace k:=k.mono l;replace f:=f.mono l;simp only[bt] at s;have Q:=bg.tl q;refine cc hJ _ (lu f u0 k ([(oP a)]) w K) fun v ab ad R S=>?_;obtain ⟨ae,al,ao,ar,rfl,d⟩:=S;simp only[bt] at R;obtain ⟨d41,a0,rfl,a2,a3,-⟩:=id d.e;obtain ⟨d48,a4,rfl,a5,a6,-⟩:=id d.p;obtain ⟨d55,a7,rfl,a8,a9,-⟩:=id d.y;obtain ⟨d62,ba,rfl,bb,bc,-⟩:=id d.t;apply aP;apply ag _;refine aA fun bd bj z=>?_;have bl:=bg.cons z Q;try simp only[ax] at z
 refine ah hJ (aF hJ ?_);apply ag _;revert h;refine aV hJ (fun T h=>?_) fun T h=>?_
 .cases h;apply aB hJ _;apply aT;simp only[*,go_sem]
 refine aN hJ (ah hJ ?_);apply aQ hJ;revert h;refine bS fun bm U h=>?_;cases h;apply ag _;refine bn hJ _ (BU I.1 (d.mono bq) a U) (aP ?_);apply ag _;apply aT;simp only[*,go_sem]
def xz (u0:an)(b:bh):Option (Int×au×Int):=
 ai (eJ u0 ([(gb b)])) fun a=>cond ((a.2 != 0)) (some (0,(⟨0,0⟩:au),a.2)) (ai (ku a.1 b) fun c=>some (c.at_,c.high,0))
theorem Il {ro:Addr->Option Value}(k:dM ro)(u0:an){s1 f g i:Value}(j:bR ro u0 s1 f g i)(a:bh){r:(Int×au×Int)}(h:xz u0 a=some r):aI Tryz.prog 43 #[bv u0 s1 f g i,.agg #[.int .i64 a.back,.int .i64 a.high]] ⟨ro,[]⟩ (fun v _=>v= .tuple #[.int .i64 r.1,r.2.1.v,.int .i64 r.2.2]):=by
 unfold xz at h;have D:=j.oc;simp only[bU] at D;refine aI.go Tryz.func43 rfl Tryz.ntmps43 Tryz.results43 av fun main J hJ A a2 hd hs=>?_;have a3:=hs 0;have k1:=hs 1;clear hs;apply aB hJ _;refine aA fun m E F=>?_;try simp only[ax] at F
 refine aA fun n G H=>?_;try simp only[ax] at H
 refine aA fun I K L=>?_;try simp only[ax] at L
 apply ah hJ;refine ay hJ fun M=>?_;apply aQ hJ;revert h;refine bS fun p N h=>?_;apply ag _;refine aA fun d q s=>?_;have t:=bg.cons s M;try simp only[ax] at s
 obtain ⟨l,u,w⟩:=fD (b:=d) (o:=(.cells #[.func (.func 107) #[.agg #[.int .i64 a.back,.int .i64 a.high]] #[]] 116)) [] ((I,rt 0 0)::(n,.cells #[.int .i64 a.back,.int .i64 a.high] 61)::(m,bk u0 s1 f g i)::[]) t q (aJ.cons K (aJ.cons G (aJ.cons E (aJ.nil _))));have y:aH (dG) (b9 ro d (.cells #[.func (.func 107) #[.agg #[.int .i64 a.back,.int .i64 a.high]] #[]] 116)) (.slice (some ⟨d,0,none⟩) 1 1) [(gb a)]:=(aH.one (r:=(dG)) (e:=116) (cs:=#[.func (.func 107) #[.agg #[.int .i64 a.back,.int .i64 a.high]] #[]]) (x:=(gb a)) (own:=[(d,.cells #[.func (.func 107) #[.agg #[.int .i64 a.back,.int .i64 a.high]] #[]] 116)]) q (by simp[lk]) ⟨107,#[.agg #[.int .i64 a.back,.int .i64 a.high]],#[],rfl,⟨by simp only[go_sem],fun a4 a5 O _ _ _ _ _ P Q R S h=>by simp only[go_sem];exact tD a O ⟨P,Q,R,S⟩ h⟩⟩)
 generalize b9 ro d (.cells #[.func (.func 107) #[.agg #[.int .i64 a.back,.int .i64 a.high]] #[]] 116)=a6 at y u l w;refine gI hJ w ?_;replace j:=j.mono l;replace k:=k.mono l;simp only[bt] at u;have T:=bg.tl t;refine cc hJ _ (lu k u0 j ([(gb a)]) y N) fun v U a7 V W=>?_;obtain ⟨X,Y,Z,ab,rfl,z⟩:=W;have ad:=z.oc;simp only[bU] at ad;simp only[bt] at V;apply aP;apply ag _;refine aA fun ae a8 B=>?_;have al:=bg.cons B T;try simp only[ax] at B
 refine ah hJ (aF hJ ?_);apply ag _;revert h;refine aV hJ (fun ao h=>?_) fun ao h=>?_
 .cases h;apply aB hJ _;apply aT;simp only[*,go_sem]
 refine aN hJ (ah hJ ?_);apply aQ hJ;revert h;refine bS fun c ar h=>?_;cases h;apply ag _;refine bn hJ _ (tP p.1 (z.mono bq) a ar) (aP ?_);apply ag _;refine aA fun a0 a9 C=>?_;have ba:=bg.cons C al;try simp only[ax] at C
 apply ah hJ;refine eE hJ mixed 5 ⟨U,[(a0,.cells #[.int .i64 c.spot.aU,.int .i64 c.spot.high.num,.int .i64 c.spot.high.den,.int .i64 c.at_,.int .i64 c.high.num,.int .i64 c.high.den] 105),(ae,bl p.1 X Y Z ab),(n,.cells #[.int .i64 a.back,.int .i64 a.high] 61),(m,bk u0 s1 f g i)]⟩ aL aj ?_;apply ag _;apply aT;simp only[*,go_sem]
def xA (u0:an)(b:bh):Option (au×Int):=
 ai (eJ u0 ([(gb b)])) fun a=>cond ((a.2 != 0)) (some ((⟨0,0⟩:au),a.2)) (ai (tQ a.1 b) fun c=>some (c,0))
theorem Im {ro:Addr->Option Value}(f:dM ro)(u0:an){s1 g i j:Value}(k:bR ro u0 s1 g i j)(a:bh){r:(au×Int)}(h:xA u0 a=some r):aI Tryz.prog 32 #[bv u0 s1 g i j,.agg #[.int .i64 a.back,.int .i64 a.high]] ⟨ro,[]⟩ (fun v _=>v= .tuple #[r.1.v,.int .i64 r.2]):=by
 unfold xA at h;refine aI.go Tryz.func32 rfl Tryz.ntmps32 Tryz.results32 av fun main J hJ A Y hd hs=>?_;have Z:=hs 0;have k1:=hs 1;clear hs;apply aB hJ _;refine aA fun B C D=>?_;try simp only[ax] at D
 refine aA fun E F G=>?_;try simp only[ax] at G
 refine aA fun H I K=>?_;try simp only[ax] at K
 apply ah hJ;refine ay hJ fun L=>?_;apply aQ hJ;revert h;refine bS fun M N h=>?_;apply ag _;refine aA fun c m n=>?_;have q:=bg.cons n L;try simp only[ax] at n
 obtain ⟨l,s,u⟩:=fD (b:=c) (o:=(.cells #[.func (.func 107) #[.agg #[.int .i64 a.back,.int .i64 a.high]] #[]] 116)) [] ((H,rt 0 0)::(E,.cells #[.int .i64 a.back,.int .i64 a.high] 61)::(B,bk u0 s1 g i j)::[]) q m (aJ.cons I (aJ.cons F (aJ.cons C (aJ.nil _))));have w:aH (dG) (b9 ro c (.cells #[.func (.func 107) #[.agg #[.int .i64 a.back,.int .i64 a.high]] #[]] 116)) (.slice (some ⟨c,0,none⟩) 1 1) [(gb a)]:=(aH.one (r:=(dG)) (e:=116) (cs:=#[.func (.func 107) #[.agg #[.int .i64 a.back,.int .i64 a.high]] #[]]) (x:=(gb a)) (own:=[(c,.cells #[.func (.func 107) #[.agg #[.int .i64 a.back,.int .i64 a.high]] #[]] 116)]) m (by simp[lk]) ⟨107,#[.agg #[.int .i64 a.back,.int .i64 a.high]],#[],rfl,⟨by simp only[go_sem],fun ab ad O _ _ _ _ _ P Q R S h=>by simp only[go_sem];exact tD a O ⟨P,Q,R,S⟩ h⟩⟩)
 generalize b9 ro c (.cells #[.func (.func 107) #[.agg #[.int .i64 a.back,.int .i64 a.high]] #[]] 116)=ae at w s l u;refine gI hJ u ?_;replace k:=k.mono l;replace f:=f.mono l;simp only[bt] at s;have T:=bg.tl q;refine cc hJ _ (lu f u0 k ([(gb a)]) w N) fun v al ao U V=>?_;obtain ⟨ar,a0,a2,a3,rfl,d⟩:=V;simp only[bt] at U;obtain ⟨d42,a4,rfl,a5,a6,-⟩:=id d.e;obtain ⟨d49,a7,rfl,a8,a9,-⟩:=id d.p;obtain ⟨d56,ba,rfl,bb,bc,-⟩:=id d.y;obtain ⟨d63,bd,rfl,bj,bl,-⟩:=id d.t;apply aP;apply ag _;refine aA fun bm bo z=>?_;have br:=bg.cons z T;try simp only[ax] at z
 refine ah hJ (aF hJ ?_);apply ag _;revert h;refine aV hJ (fun W h=>?_) fun W h=>?_
 .cases h;apply aB hJ _;apply aT;simp only[*,go_sem]
 refine aN hJ (ah hJ ?_);apply aQ hJ;revert h;refine bS fun bs X h=>?_;cases h;apply ag _;refine bn hJ _ (BT M.1 (d.mono bq) a X) (aP ?_);apply ag _;apply aT;simp only[*,go_sem]
def xB (u0:an)(c:bh):Option (au×Bool×Int):=
 ai (eJ u0 ([(gb c)])) fun b=>cond ((b.2 != 0)) (some ((⟨0,0⟩:au),false,b.2)) (ai (kz b.1 c) fun a=>cond (((a.length:Int)==0)) (some ((⟨0,0⟩:au),false,0)) (ai (bu a 0) fun d=>ai (ja a 1 (a.length:Int)) fun e=>ai (jP g5 d e) fun f=>some (f.high,true,0)))
theorem Io {ro:Addr->Option Value}(l:dM ro)(u0:an){s1 f g i:Value}(j:bR ro u0 s1 f g i)(a:bh){r:(au×Bool×Int)}(h:xB u0 a=some r):aI Tryz.prog 44 #[bv u0 s1 f g i,.agg #[.int .i64 a.back,.int .i64 a.high]] ⟨ro,[]⟩ (fun v _=>v= .tuple #[r.1.v,.bool r.2.1,.int .i64 r.2.2]):=by
 unfold xB at h;have N:=j.oc;simp only[bU] at N;refine aI.go Tryz.func44 rfl Tryz.ntmps44 Tryz.results44 av fun main J hJ A cy hd hs=>?_;have cS:=hs 0;have k1:=hs 1;clear hs;apply aB hJ _;refine aA fun s O P=>?_;try simp only[ax] at P
 refine aA fun t Q R=>?_;try simp only[ax] at R
 refine aA fun S T U=>?_;try simp only[ax] at U
 apply ah hJ;refine ay hJ fun V=>?_;apply aQ hJ;revert h;refine bS fun u W h=>?_;apply ag _;refine aA fun d w y=>?_;have z:=bg.cons y V;try simp only[ax] at y
 obtain ⟨m,B,C⟩:=fD (b:=d) (o:=(.cells #[.func (.func 107) #[.agg #[.int .i64 a.back,.int .i64 a.high]] #[]] 116)) [] ((S,rt 0 0)::(t,.cells #[.int .i64 a.back,.int .i64 a.high] 61)::(s,bk u0 s1 f g i)::[]) z w (aJ.cons T (aJ.cons Q (aJ.cons O (aJ.nil _))));have D:aH (dG) (b9 ro d (.cells #[.func (.func 107) #[.agg #[.int .i64 a.back,.int .i64 a.high]] #[]] 116)) (.slice (some ⟨d,0,none⟩) 1 1) [(gb a)]:=(aH.one (r:=(dG)) (e:=116) (cs:=#[.func (.func 107) #[.agg #[.int .i64 a.back,.int .i64 a.high]] #[]]) (x:=(gb a)) (own:=[(d,.cells #[.func (.func 107) #[.agg #[.int .i64 a.back,.int .i64 a.high]] #[]] 116)]) w (by simp[lk]) ⟨107,#[.agg #[.int .i64 a.back,.int .i64 a.high]],#[],rfl,⟨by simp only[go_sem],fun X Y n _ _ _ _ _ Z ab ad ae h=>by simp only[go_sem];exact tD a n ⟨Z,ab,ad,ae⟩ h⟩⟩)
 generalize b9 ro d (.cells #[.func (.func 107) #[.agg #[.int .i64 a.back,.int .i64 a.high]] #[]] 116)=c0 at D B m C;refine gI hJ C ?_;replace j:=j.mono m;replace l:=l.mono m;simp only[bt] at B;have al:=bg.tl z;refine cc hJ _ (lu l u0 j ([(gb a)]) D W) fun v da db ao p=>?_;obtain ⟨ar,a0,a2,a3,rfl,E⟩:=p;have a4:=E.oc;simp only[bU] at a4;simp only[bt] at ao;apply aP;apply ag _;refine aA fun a5 dd G=>?_;have df:=bg.cons G al;try simp only[ax] at G
 refine ah hJ (aF hJ ?_);apply ag _;revert h;refine aV hJ (fun a6 h=>?_) fun a6 h=>?_
 .cases h;apply aB hJ _;apply aT;simp only[*,go_sem]
 refine aN hJ (ah hJ ?_);apply aQ hJ;revert h;refine bS fun k a7 h=>?_;apply ag _;refine cc hJ _ (xl u.1 E a a7) fun v a8 dk a9 p=>?_;obtain ⟨dp,rfl,q⟩:=p;simp only[bt] at a9;obtain ⟨d84,ba,rfl,dq,ds,-⟩:=id q;apply aP;apply ag _;refine ah hJ (aF hJ ?_);apply ag _;revert h;refine aV hJ (fun bb h=>?_) fun bb h=>?_
 .cases h;apply aB hJ _;apply aT;simp only[*,go_sem]
 refine aN hJ (ah hJ ?_);refine eE hJ mixed 7 ⟨a8,[(a5,bl u.1 ar a0 a2 a3),(t,.cells #[.int .i64 a.back,.int .i64 a.high] 61),(s,bk u0 s1 f g i)]⟩ aL aj ?_;revert h;refine bS fun H bc h=>?_;obtain ⟨dt,du,I⟩:=ck bc;obtain ⟨dv,bd,bj,bm,c⟩:=q.el _ _ I;obtain rfl:bd=H.cells:=bm;cases bj;have bo:=c 0 _ rfl;simp only[go_sem] at bo;have br:=c 1 _ rfl;simp only[go_sem] at br;have bs:=c 2 _ rfl;simp only[go_sem] at bs;have bz:=c 3 _ rfl;simp only[go_sem] at bz;have b0:=c 4 _ rfl;simp only[go_sem] at b0;have b1:=c 5 _ rfl;simp only[go_sem] at b1;clear c I;revert h;refine bS fun b2 b3 h=>?_;obtain ⟨dC,dE,dT,K⟩:=qS b3;have L:(1:Int).toNat<=((k.length:Int)).toNat:=aa;have b4:((k.length:Int)).toNat<=ba:=aa;have ea:0<=((k.length:Int)):=aa;obtain ⟨d94,b5,ca,M⟩:=aH.qV q (1:Int).toNat ((k.length:Int)).toNat L aa K;simp only[go_sem] at b5 ca L b4;obtain ⟨_,_,cb,eb,ec,ed⟩:=id M;cases cb;clear K;revert h;refine bS fun eh cd h=>?_;cases h;apply ag _;refine ⟨_,bL hJ fun F cf=>tG (ez:=57) (eT:=#[]) (eU:=#[]) g5 ⟨by simp only[go_sem],fun X Y n cl _ h=>by simp only[go_sem];exact tC n cl h⟩ H b2 (M.mono (cq cf)) cd,cw ?_⟩;apply ag _;apply aT;simp only[*,go_sem]
def um (u0:an)(b:bh):Option (au×Bool×Int):=
 ai (eJ u0 ([(gb b)])) fun a=>cond ((a.2 != 0)) (some ((⟨0,0⟩:au),false,a.2)) (ai (me a.1 b) fun c=>ai (g6 a.1 b) fun d=>some (c,d,0))
theorem BZ {ro:Addr->Option Value}(j:dM ro)(u0:an){s1 d f g:Value}(i:bR ro u0 s1 d f g)(a:bh){r:(au×Bool×Int)}(h:um u0 a=some r):aI Tryz.prog 37 #[bv u0 s1 d f g,.agg #[.int .i64 a.back,.int .i64 a.high]] ⟨ro,[]⟩ (fun v _=>v= .tuple #[r.1.v,.bool r.2.1,.int .i64 r.2.2]):=by
 unfold um at h;have C:=i.oc;simp only[bU] at C;refine aI.go Tryz.func37 rfl Tryz.ntmps37 Tryz.results37 av fun main J hJ A a0 hd hs=>?_;have a2:=hs 0;have k1:=hs 1;clear hs;apply aB hJ _;refine aA fun p D E=>?_;try simp only[ax] at E
 refine aA fun q G H=>?_;try simp only[ax] at H
 refine aA fun I K L=>?_;try simp only[ax] at L
 apply ah hJ;refine ay hJ fun M=>?_;apply aQ hJ;revert h;refine bS fun k N h=>?_;apply ag _;refine aA fun c s t=>?_;have u:=bg.cons t M;try simp only[ax] at t
 obtain ⟨l,w,y⟩:=fD (b:=c) (o:=(.cells #[.func (.func 107) #[.agg #[.int .i64 a.back,.int .i64 a.high]] #[]] 116)) [] ((I,rt 0 0)::(q,.cells #[.int .i64 a.back,.int .i64 a.high] 61)::(p,bk u0 s1 d f g)::[]) u s (aJ.cons K (aJ.cons G (aJ.cons D (aJ.nil _))));have z:aH (dG) (b9 ro c (.cells #[.func (.func 107) #[.agg #[.int .i64 a.back,.int .i64 a.high]] #[]] 116)) (.slice (some ⟨c,0,none⟩) 1 1) [(gb a)]:=(aH.one (r:=(dG)) (e:=116) (cs:=#[.func (.func 107) #[.agg #[.int .i64 a.back,.int .i64 a.high]] #[]]) (x:=(gb a)) (own:=[(c,.cells #[.func (.func 107) #[.agg #[.int .i64 a.back,.int .i64 a.high]] #[]] 116)]) s (by simp[lk]) ⟨107,#[.agg #[.int .i64 a.back,.int .i64 a.high]],#[],rfl,⟨by simp only[go_sem],fun a3 a4 O _ _ _ _ _ P Q R S h=>by simp only[go_sem];exact tD a O ⟨P,Q,R,S⟩ h⟩⟩)
 generalize b9 ro c (.cells #[.func (.func 107) #[.agg #[.int .i64 a.back,.int .i64 a.high]] #[]] 116)=a5 at z w l y;refine gI hJ y ?_;replace i:=i.mono l;replace j:=j.mono l;simp only[bt] at w;have T:=bg.tl u;refine cc hJ _ (lu j u0 i ([(gb a)]) z N) fun v U a6 V W=>?_;obtain ⟨X,Y,Z,ab,rfl,m⟩:=W;have ad:=m.oc;simp only[bU] at ad;simp only[bt] at V;apply aP;apply ag _;refine aA fun ae a7 B=>?_;have a8:=bg.cons B T;try simp only[ax] at B
 refine ah hJ (aF hJ ?_);apply ag _;revert h;refine aV hJ (fun al h=>?_) fun al h=>?_
 .cases h;apply aB hJ _;apply aT;simp only[*,go_sem]
 refine aN hJ (ah hJ ?_);refine eE hJ mixed 6 ⟨U,[(ae,bl k.1 X Y Z ab),(q,.cells #[.int .i64 a.back,.int .i64 a.high] 61),(p,bk u0 s1 d f g)]⟩ aL aj ?_;revert h;refine bS fun a9 ao h=>?_;apply ag _;refine ⟨_,bL hJ fun F n=>tR k.1 (m.mono (cq n)) a ao,cw ?_⟩;revert h;refine bS fun ba ar h=>?_;cases h;apply ag _;refine ⟨_,bL hJ fun F n=>ny k.1 (m.mono (cq n)) a ar,?_⟩;apply aT;simp only[*,go_sem]
def xC (a:bD)(st:Bool):Option (Fl Bool Unit):=
 some (.br 1000000000 true)
def uo (u0:an):Option Bool:=
 ai (jK (xC) (nD u0) false) fun o=>aG o (fun b=>some false) (fun k a=>cond (k==1000000000) (some a) (none)) (fun _=>none)
theorem B1 {ro:Addr->Option Value}(u0:an){s1 c d g:Value}(k:bR ro u0 s1 c d g){r:Bool}(h:uo u0=some r):aI Tryz.prog 108 #[bv u0 s1 c d g] ⟨ro,[]⟩ (fun v _=>v= .bool r):=by
 unfold uo at h;refine aI.xg Tryz.func108 rfl Tryz.ntmps108 Tryz.results108 av fun main J hJ A D hd hs=>?_;have E:=hs 0;clear hs;apply aB hJ _;refine aA fun n x F=>?_;try simp only[ax] at F
 refine aA fun l z G=>?_;try simp only[ax] at G
 refine ah hJ (aF hJ ?_);apply ag _;revert h;refine bS fun Q H o=>?_;refine xe hJ bD.v aL (uh u0 k.e k.p k.y k.t) aj aj (ρ:=Unit) (fun (I:Bool) K=>K=(l,.cells #[.bool I] 4)::(n,bl u0 s1 c d g)::[]) (f:=xC) H ?_ ?_ aD ?_ ?_
 .exact rfl
 .rintro d33 L q M s u R h main J hJ _ rfl;unfold xC at h;try dsimp only at h
  obtain rfl:=sI h;generalize i:ng _ _ _=m;have S:sz m=6:=by rw[<-i,xd];simp only[*,go_sem]
  have T:m.defers=[]:=by rw[<-i];rfl
  have U:slot m 2= .pointer (some ⟨l,0,none⟩):=by rw[<-i,oM];simp only[*,go_sem]
  have V:slot m 5= .agg #[.int .i64 u.e0,.int .i64 u.e1,.int .i64 u.e2]:=by rw[<-i,oM];simp only[*,go_sem]
  clear i D hd E;refine eI hJ fun b a=>?_;replace a:aJ ro ((L,.loop q)::(d33,.deferred (some []))::(l,.cells #[.bool s] 4)::(n,bl u0 s1 c d g)::[]):=a;have W:=a.hd;have X:=a.tl.hd;have z:=a.tl.tl.hd;have x:=a.tl.tl.tl.hd;clear a;replace b:=b.nd;simp only[keys,List.map_cons,List.map_nil,List.map_append,List.cons_append,List.nil_append,List.nodup_cons,List.mem_cons,List.mem_append,List.not_mem_nil,or_false,not_or] at b;apply aN hJ;simp only[q4,go_sem];refine ⟨q,aL,M,?_⟩;refine aW hJ (ah hJ ?_);apply aE hJ _;apply aT;simp only[tv,m8,go_sem];refine ⟨{q with state:=.busy},aL,?_⟩;apply ag _;refine ⟨_,Le.sub (List.Sublist.refl _),rfl,rfl⟩
 .rintro N O P _ s rfl b a;replace a:aJ ro ((O,.loop P)::(N,.deferred (some []))::(l,.cells #[.bool s] 4)::(n,bl u0 s1 c d g)::[]):=a;have Y:=a.hd;have Z:=a.tl.hd;have z:=a.tl.tl.hd;have x:=a.tl.tl.tl.hd;clear a;replace b:=b.nd;simp only[keys,List.map_cons,List.map_nil,List.map_append,List.cons_append,List.nil_append,List.nodup_cons,List.mem_cons,List.mem_append,List.not_mem_nil,or_false,not_or] at b;refine ⟨fun j=>?_,fun k1 j=>?_⟩
  .subst j;have h:=o;dsimp only[aG] at h;obtain rfl:=sI h;apply aB hJ _;refine ay hJ fun w=>?_;replace w:=w.nd;(try simp only[keys,List.map_cons,List.map_nil,List.map_append,List.cons_append,List.nil_append,List.nodup_cons,List.mem_cons,List.mem_append,List.not_mem_nil,or_false,not_or] at w);apply aT;simp only[*,go_sem]
  subst j;have h:=o;dsimp only[aG] at h;revert h;refine cS (fun B h=>?_) fun B h=>?_
  .obtain rfl:=sI h;obtain rfl:k1=1000000000:=by simpa using B
   unfold xb;rw[if_pos (show (1000000000:Nat)=tA from rfl)];simp only[*,go_sem]
  cases h
 intro k1 ab j;subst j;have h:=o;dsimp only[aG] at h;revert h;refine cS (fun C h=>?_) fun C h=>?_
 .obtain rfl:k1=1000000000:=by simpa using C
  decide
 cases h
def o6 (a:bD)(st:(List bD)):Option (Fl (List bD) Unit):=
 ai (cx st ([a])) fun b=>some (.nx b)
def uq (a:(List (Option bD))):Option (List bD):=
 ai (jK (o6) a ([]:List bD)) fun o=>aG o (fun b=>some b) (fun k c=>none) (fun _=>none)
theorem Ip {ro:Addr->Option Value}(u:(List (Option bD))){dY:FuncId}{eN eO:Array Value}(K:m9 Tryz.prog dY eN eO bD.v u ro){r:(List bD)}(h:uq u=some r):eH Tryz.prog 149 #[.slice none 0 0,.func (.func dY) eN eO] ro (fun v bf=>∃w,v=w/\aH iL bf w r):=by
 unfold uq at h;refine aI.xg Tryz.func149 rfl Tryz.ntmps149 Tryz.results149 av fun main J hJ A L hd hs=>?_;have M:=hs 0;have k1:=hs 1;clear hs;apply aF hJ;apply bV _;refine aA fun e r1 n1=>?_;try simp only[ax] at n1
 refine ah hJ (aF hJ ?_);apply bV _;revert h;refine bS fun ar N o=>?_;have h:=trivial;refine xe hJ bD.v aL K aj aj (ρ:=Unit) (fun (m:(List bD)) O=>∃(d7:Option Addr) (c:Nat) (d:List (Nat×Obj)),O=(e,.cells #[.slice d7 m.length c] 93)::d/\aZ iL ro 133 (.slice d7 m.length c) m d/\m.length<=c) (f:=o6) N ?_ ?_ aD ?_ ?_
 .exact ⟨none,0,[],rfl,aZ.nil _ _ _,Nat.le_refl _⟩
 .rintro d4 p i P v6 a a0 h main J hJ _ ⟨d7,c,d,rfl,q,Q⟩;unfold o6 at h;try dsimp only at h
  generalize j:ng _ _ _=n;have a2:sz n=13:=by rw[<-j,xd];simp only[*,go_sem]
  have a3:n.defers=[]:=by rw[<-j];rfl
  have a4:slot n 2= .pointer (some ⟨e,0,none⟩):=by rw[<-j,oM];simp only[*,go_sem]
  have a5:slot n 7= .agg #[.int .i64 a.e0,.int .i64 a.e1,.int .i64 a.e2]:=by rw[<-j,oM];simp only[*,go_sem]
  clear j L hd M k1;refine eI hJ fun g b=>?_;replace b:aJ ro ((p,.loop i)::(d4,.deferred (some []))::(e,.cells #[.slice d7 v6.length c] 93)::d):=b;have r3:=b.hd;have a6:=b.tl.hd;have r1:=b.tl.tl.hd;clear b;replace g:=g.nd;simp only[keys,List.map_cons,List.map_nil,List.map_append,List.cons_append,List.nil_append,List.nodup_cons,List.mem_cons,List.mem_append,List.not_mem_nil,or_false,not_or] at g;refine ay hJ fun R=>?_;apply aQ hJ;apply bV _;refine aA fun y a7 z=>?_;have a8:=bg.cons z R;try simp only[ax] at z
  simp only[q4,go_sem];refine ⟨i,aL,P,?_⟩;apply bV _;apply aW hJ;refine ay hJ fun S=>?_;apply aQ hJ;revert h;refine bS fun a9 T h=>?_;obtain ⟨U,B⟩:=cL T;apply bV _;refine aA fun C V D=>?_;have W:=bg.cons D S;try simp only[ax] at D
  refine dj (r:=iL) (l:=v6) (x:=a) (cs:=#[.int .i64 a.e0,.int .i64 a.e1,.int .i64 a.e2]) (e2:=133) [(C,.cells #[.int .i64 a.e0,.int .i64 a.e1,.int .i64 a.e2] 133),(y,.cells #[.int .i64 a.e0,.int .i64 a.e1,.int .i64 a.e2] 133),(p,.loop {i with state:=.busy}),(d4,.deferred (some [])),(e,.cells #[.slice d7 v6.length c] 93)] [] q W U rfl dH V rfl rfl Ba Ba GD GG rfl GF aD aD (fun ba E s d X bb=>?_);simp only[aY] at X;subst d;rw[<-B] at s;clear B;obtain ⟨d28,Y,rfl,Z⟩:=s.len;refine ⟨⟨ro,(C,.cells #[.int .i64 a.e0,.int .i64 a.e1,.int .i64 a.e2] 133)::(y,.cells #[.int .i64 a.e0,.int .i64 a.e1,.int .i64 a.e2] 133)::(p,.loop {i with state:=.busy})::(d4,.deferred (some []))::(e,.cells #[.slice d7 v6.length c] 93)::E⟩,Le.refl _,?_⟩;apply aP;apply bV _;obtain rfl:=sI h;simp only[tv,m8,go_sem];refine ⟨{i with state:=.busy},aL,?_⟩;apply ag _;refine ⟨_,Le.sub (List.Sublist.cons _ (List.Sublist.cons _ (List.Sublist.refl _))),rfl,d28,Y,E,rfl,s,Z⟩
 .rintro d49 F G _ v6 ⟨d7,c,d,rfl,q,Q⟩ g b;replace b:aJ ro ((F,.loop G)::(d49,.deferred (some []))::(e,.cells #[.slice d7 v6.length c] 93)::d):=b;have ab:=b.hd;have ad:=b.tl.hd;have r1:=b.tl.tl.hd;clear b;replace g:=g.nd;simp only[keys,List.map_cons,List.map_nil,List.map_append,List.cons_append,List.nil_append,List.nodup_cons,List.mem_cons,List.mem_append,List.not_mem_nil,or_false,not_or] at g;refine ⟨fun k=>?_,fun k1 k=>?_⟩
  .subst k;have h:=o;dsimp only[aG] at h;apply ah hJ;refine ay hJ fun bc=>?_;apply aQ hJ;apply bV _;obtain rfl:=sI h;refine ay hJ fun H=>?_;obtain ⟨bd,ae,al,I,ao⟩:=q.dU [(F,.loop G),(d49,.deferred (some [])),(e,.cells #[.slice d7 v6.length c] 93)] [] H (aJ.cons ab (aJ.cons ad (aJ.cons r1 (aJ.nil _))));clear H;refine cB hJ ao ?_;obtain ⟨bj,bk,-⟩:=I.op;simp only[bt] at al;refine ay hJ fun t=>?_;replace t:=t.nd;(try simp only[keys,List.map_cons,List.map_nil,List.map_append,List.cons_append,List.nil_append,List.nodup_cons,List.mem_cons,List.mem_append,List.not_mem_nil,or_false,not_or] at t);refine bX ?_;exact ⟨_,ae,Le.sub (List.nil_sublist _),_,rfl,I⟩
  subst k;have h:=o;dsimp only[aG] at h;cases h
 intro k1 bl k;subst k;have h:=o;dsimp only[aG] at h;cases h
def rH (u0:(List (Option bD))):Option (List bD):=
 ai (uq u0) fun a=>some a
theorem B2 {ro:Addr->Option Value}(u0:(List (Option bD))){ez:FuncId}{eT eU:Array Value}(c:m9 Tryz.prog ez eT eU bD.v u0 ro){r:(List bD)}(h:rH u0=some r):eH Tryz.prog 120 #[.func (.func ez) eT eU] ro (fun v bf=>∃a,v=a/\aH iL bf a r):=by
 unfold rH at h;refine aI.go Tryz.func120 rfl Tryz.ntmps120 Tryz.results120 av fun main J hJ A g hd hs=>?_;have i:=hs 0;clear hs;apply aB hJ _;apply aF hJ;revert h;refine bS fun j d h=>?_;obtain rfl:=sI h;apply ag _;refine cc hJ _ (Ip (dY:=ez) (eN:=eT) (eO:=eU) u0 c d) fun v k e l f=>?_;obtain ⟨m,rfl,b⟩:=f;obtain ⟨d8,n,rfl,o,p,-⟩:=id b;apply aP;apply ag _;refine bX ?_;exact ⟨_,e,Le.sub (List.nil_sublist _),_,rfl,b⟩
def gO (u0:an)(c:(List (an->Option Int))):Option (dn×Int):=
 ai (eJ u0 c) fun a=>cond ((a.2 != 0)) (some ((⟨(⟨0,0,(⟨0,0⟩:au),([]:(List cj)),([]:(List cm)),([]:(List cA)),([]:(List cn))⟩:an),([]:(List bD))⟩:dn),a.2)) (ai (rH (nD a.1)) fun b=>cond (((b.length:Int)==0)) (some ((⟨(⟨0,0,(⟨0,0⟩:au),([]:(List cj)),([]:(List cm)),([]:(List cA)),([]:(List cn))⟩:an),([]:(List bD))⟩:dn),9)) (some ((⟨a.1,b⟩:dn),0)))
theorem kA {ro:Addr->Option Value}(N:dM ro)(u0:an){s1 c d f:Value}(G:bR ro u0 s1 c d f)(B:(List (an->Option Int))){H:Value}(I:aH (dG) ro H B){r:(dn×Int)}(h:gO u0 B=some r):eH Tryz.prog 53 #[bv u0 s1 c d f,H] ro (fun v bf=>∃K w1 w2 w3 w4,v= .tuple #[.agg #[.int .i64 r.1.book.bZ,.int .i64 r.1.book.cg,.int .i64 r.1.book.bp.num,.int .i64 r.1.book.bp.den,K,w1,w2,w3,w4],.int .i64 r.2]/\bR bf r.1.book K w1 w2 w3/\aH iL bf w4 r.1.all):=by
 obtain ⟨d31,ae,rfl,al,ao,-⟩:=id I;unfold gO at h;have O:=G.oc;simp only[bU] at O;refine aI.go Tryz.func53 rfl Tryz.ntmps53 Tryz.results53 av fun main J hJ A ar hd hs=>?_;have a0:=hs 0;have k1:=hs 1;clear hs;apply aB hJ _;refine aA fun C g P=>?_;try simp only[ax] at P
 refine aA fun D i Q=>?_;try simp only[ax] at Q
 apply aF hJ;revert h;refine bS fun b R h=>?_;apply ag _;refine cc hJ _ (lu N u0 G B I R) fun v S j E k=>?_;obtain ⟨m,n,o,q,rfl,a⟩:=k;have T:=a.oc;simp only[bU] at T;replace i:=E.hd;replace g:=E.tl.hd;simp only[bt] at E;apply aP;apply ag _;refine aA fun F s U=>?_;try simp only[ax] at U
 refine ah hJ (aF hJ ?_);apply ag _;revert h;refine aV hJ (fun V h=>?_) fun V h=>?_
 .obtain rfl:=sI h;apply aB hJ _;refine bX ?_;exact ⟨_,j,Le.sub (List.nil_sublist _),_,_,_,_,_,rfl,⟨aH.nil _ _,aH.nil _ _,aH.nil _ _,aH.nil _ _⟩,aH.nil _ _⟩
 refine aN hJ (ah hJ ?_);refine fC hJ mixed [] (.rd 0 (.rd 1 (.pure 2 (.two 3 (.pure 4 (.one 5 (.one 6 .done))) 5 (.one 3 (.pure 4 (.one 6 .done))))))) ⟨S,[(F,bl b.1 m n o q),(D,.cells #[.int .i64 0,.int .i64 0,.int .i64 0,.int .i64 0,.slice none 0 0,.slice none 0 0,.slice none 0 0,.slice none 0 0,.slice none 0 0] 95),(C,bk u0 s1 c d f)]⟩ aL aj ?_;apply ag _;refine k8 ?_ ?_
 .revert h;refine bS fun a2 W h=>?_;apply ag _;refine cc hJ _ (B2 (ez:=81) (eT:=#[bv b.1 m n o q]) (eU:=#[]) (nD b.1) (uh b.1 a.e a.p a.y a.t) W) fun v a3 u w k=>?_;obtain ⟨a4,rfl,L⟩:=k;replace a:=a.mono u;replace s:=w.hd;replace i:=w.tl.hd;replace g:=w.tl.tl.hd;simp only[bt] at w;obtain ⟨d80,a5,rfl,a6,a7,-⟩:=id L;have a8:=fE (l:=[(F,bl b.1 m n o q),(D,.cells #[.int .i64 0,.int .i64 0,.int .i64 0,.int .i64 0,.slice none 0 0,.slice none 0 0,.slice none 0 0,.slice none 0 0,.slice none 0 0] 95),(C,bk u0 s1 c d f)]) u (aJ.cons s (aJ.cons i (aJ.cons g (aJ.nil _))));refine ⟨aL,?_⟩;refine cu ?_;apply ag _;refine aA fun a9 ba X=>?_;try simp only[ax] at X
  apply ag _;refine ah hJ (aF hJ ?_);apply ag _;revert h;refine aV hJ (fun Y h=>?_) fun Y h=>?_
  .obtain rfl:=sI h;apply aB hJ _;refine bX ?_;exact ⟨_,(j).trans u,Le.sub (List.nil_sublist _),_,_,_,_,_,rfl,⟨aH.nil _ _,aH.nil _ _,aH.nil _ _,aH.nil _ _⟩,aH.nil _ _⟩
  obtain rfl:=sI h;refine aN hJ (ah hJ ?_);apply aE hJ _;refine bX ?_;exact ⟨_,(j).trans u,Le.sub (List.nil_sublist _),_,_,_,_,_,rfl,a,L⟩
 revert h;refine bS fun bb Z h=>?_;apply ag _;refine aA fun bc bd ab=>?_;try simp only[ax] at ab
 apply ag _;refine cc hJ _ (B2 (ez:=81) (eT:=#[bv b.1 m n o q]) (eU:=#[]) (nD b.1) (uh b.1 a.e a.p a.y a.t) Z) fun v bj x z k=>?_;obtain ⟨bm,rfl,M⟩:=k;replace a:=a.mono x;replace s:=z.tl.hd;replace i:=z.tl.tl.hd;replace g:=z.tl.tl.tl.hd;simp only[bt] at z;obtain ⟨d96,bo,rfl,br,bs,-⟩:=id M;have bz:=fE (l:=[(F,bl b.1 m n o q),(D,.cells #[.int .i64 0,.int .i64 0,.int .i64 0,.int .i64 0,.slice none 0 0,.slice none 0 0,.slice none 0 0,.slice none 0 0,.slice none 0 0] 95),(C,bk u0 s1 c d f)]) x (aJ.cons s (aJ.cons i (aJ.cons g (aJ.nil _))));refine ⟨aL,?_⟩;refine cu ?_;apply ag _;refine ah hJ (aF hJ ?_);apply ag _;revert h;refine aV hJ (fun ad h=>?_) fun ad h=>?_
 .obtain rfl:=sI h;apply aB hJ _;refine bX ?_;exact ⟨_,(j).trans x,Le.sub (List.nil_sublist _),_,_,_,_,_,rfl,⟨aH.nil _ _,aH.nil _ _,aH.nil _ _,aH.nil _ _⟩,aH.nil _ _⟩
 obtain rfl:=sI h;refine aN hJ (ah hJ ?_);apply aE hJ _;refine bX ?_;exact ⟨_,(j).trans x,Le.sub (List.nil_sublist _),_,_,_,_,_,rfl,a,M⟩
def rJ (a:Int)(i56:Nat)(b:Int)(st:(List cm)):Option (Fl (List cm) an):=
 ai (cx st ([(⟨b,a⟩:cm)])) fun c=>some (.nx c)
def o7 (u0:an)(a:Int)(b:(List Int)):Option an:=
 ai (rG u0.props) fun c=>ai (bM (rJ a) 0 b c) fun o=>aG o (fun d=>some (⟨u0.bZ,u0.cg,u0.bp,u0.az,d,u0.aK,u0.told⟩:an)) (fun _ _=>none) (fun r=>some r)
theorem Iq {ro:Addr->Option Value}(u0:an){s1 s b c:Value}(g:bR ro u0 s1 s b c)(i:Int)(d:(List Int)){D:Value}(E:aH rI ro D d){r:an}(h:o7 u0 i d=some r):eH Tryz.prog 129 #[bv u0 s1 s b c,.int .i64 i,D] ro (fun v bf=>∃F w1 w2 w3,v=bv r F w1 w2 w3/\bR bf r F w1 w2 w3):=by
 obtain ⟨d31,b4,rfl,b5,U,-⟩:=id E;unfold o7 at h;have V:=g.oc;simp only[bU] at V;refine aI.go Tryz.func129 rfl Tryz.ntmps129 Tryz.results129 av fun main J hJ A W hd hs=>?_;have X:=hs 0;have k1:=hs 1;have Y:=hs 2;clear hs;apply aB hJ _;refine aA fun k Z ab=>?_;try simp only[ax] at ab
 refine aA fun o ad ae=>?_;try simp only[ax] at ae
 apply ah hJ;refine ay hJ fun ca=>?_;apply aQ hJ;revert h;refine bS fun al ao h=>?_;apply ag _;refine ey hJ (bw:=[]) [(o,bz 92),(k,bl u0 s1 s b c)] [] _ (BX u0.props g.p ao) (fun cb G H u w cd=>?_);simp only[aY] at w;subst u;obtain ⟨d45,ar,rfl,a0⟩:=H.len;refine ⟨⟨ro,(o,bz 92)::(k,bl u0 s1 s b c)::G⟩,Le.refl _,?_⟩;apply aP;apply ag _;refine ah hJ (ah hJ ?_);refine ay hJ fun cf=>?_;apply aE hJ _;apply aW hJ;revert h;refine bS fun a2 j a3=>?_;refine bW hJ (rg 17 15 [8]) (fun m a4 F'=>∃(i56:Nat) (d51:Option Addr) (f:Nat) (z:List (Nat×Obj)) (a:(List cm)),m=d.length - i56/\i56<=d.length/\bM (rJ i) i56 (d.drop i56) a=some a2/\F'=⟨ro,(o,bz 92)::(k,bl u0 s1 (sl d51 a f) b c)::z⟩/\aZ fe ro 159 (.slice d51 a.length f) a z/\a.length<=f/\slot a4 17= .int .i64 (i56:Int)) d.length ?_ ?_
 .refine ⟨0,d45,ar,G,al,(Nat.sub_zero _).symm,Nat.zero_le _,j,rfl,H,a0,?_⟩;simp only[*,go_sem]
 rintro cl cy F' I ⟨i56,d51,f,z,a,rfl,cS,j,rfl,K,c0,da⟩;obtain ⟨a5,a6,a7⟩:=I.pick [1,3,6,15,16] aD;simp only[*,go_sem] at a5 a6 a7;clear I W hd X k1 Y;apply aB hJ _;apply ah hJ;rcases Nat.lt_or_ge i56 d.length with a8|L
 .refine cW hJ ?_;apply aN hJ;obtain ⟨q,B⟩:∃x,d[i56]?=some x:=⟨_,List.getElem?_eq_getElem a8⟩
  rw[dJ B] at j;revert j;refine bS fun db h a9=>?_;unfold rJ at h;try dsimp only at h
  obtain ⟨dd,ba,bb,bc,M⟩:=E.el _ _ B;obtain rfl:ba=[.int .i64 q]:=bc;cases bb;have bd:=M 0 _ rfl;simp only[go_sem] at bd;clear M B;refine ah hJ (aW hJ (ah hJ ?_));refine ay hJ fun df=>?_;apply aE hJ _;refine ay hJ fun bj=>?_;apply aQ hJ;revert h;refine bS fun bk bm h=>?_;obtain rfl:=sI h;obtain ⟨bo,N⟩:=cL bm;apply ag _;refine aA fun O br P=>?_;have bs:=bg.cons P bj;try simp only[ax] at P
  refine dj (r:=fe) (l:=a) (x:=(⟨q,i⟩:cm)) (cs:=#[.int .i64 q,.int .i64 i]) (e2:=159) [(O,.cells #[.int .i64 q,.int .i64 i] 159),(o,bz 92),(k,bl u0 s1 (sl d51 a f) b c)] [] K bs bo rfl aL br rfl rfl lY lY tf th rfl tg aD aD (fun dk Q C u w dp=>?_);simp only[aY] at w;subst u;rw[<-N] at C;clear N;obtain ⟨d74,b0,rfl,b1⟩:=C.len;refine ⟨⟨ro,(O,.cells #[.int .i64 q,.int .i64 i] 159)::(o,bz 92)::(k,bl u0 s1 (sl d51 a f) b c)::Q⟩,Le.refl _,?_⟩;apply aP;apply ag _;have dq:=cM (n:=i56) (by have:=U;omega);apply aE hJ _;refine ⟨d.length - (i56+1),aa,_,Le.sub (List.Sublist.cons _ (List.Sublist.refl _)),i56+1,d74,b0,Q,bk,rfl,aa,a9,rfl,C,b1,?_⟩;simp only[*,go_sem]
 have ds:=Nat.not_lt.2 L;refine cJ hJ ?_;rw[List.drop_eq_nil_of_le L] at j;obtain rfl:=sI j;clear j;have h:=a3;dsimp only[aG] at h;obtain rfl:=sI h;apply bP;simp only[go_sem];apply ah hJ;refine ay hJ fun dt=>?_;apply aE hJ _;refine ay hJ fun R=>?_;obtain ⟨du,S,b2,T,b3⟩:=K.dU [(o,bl u0 s1 (sl d51 a f) b c),(k,bl u0 s1 (sl d51 a f) b c)] [] R (aJ.cons ad (aJ.cons Z (aJ.nil _)));clear R;refine cB hJ b3 ?_;obtain ⟨dv,dC,-⟩:=T.op;replace g:=g.mono S;simp only[bt] at b2;refine bX ?_;exact ⟨_,S,Le.sub (List.nil_sublist _),_,_,_,_,rfl,⟨g.e,T,g.y,g.t⟩⟩
def uu (u0:an)(a:(List Int))(st:((List (List Int))×Int)):Option (Fl ((List (List Int))×Int) (List (List Int))):=
 ai (fW u0 st.2) fun b=>cond (b) (ai (o5 a) fun c=>ai (cx c ([st.2])) fun d=>ai (cx st.1 ([d])) fun e=>some (.nx (e,(IntKind.i64.wrap (st.2+1))))) (some (.bk (st.1,st.2)))
def uv (u0:an)(a:(List Int))(st:((List (List Int))×Int)):Option (Fl ((List (List Int))×Int) (List (List Int))):=
 ai (fW u0 st.2) fun b=>cond (b) (ai (o5 a) fun c=>ai (cx c ([st.2])) fun d=>ai (cx st.1 ([d])) fun e=>some (.nx (e,(IntKind.i64.wrap (st.2+1))))) (some (.bk (st.1,st.2)))
def o8 (u0:an)(i47:Nat)(a:(List Int))(st:(List (List Int))):Option (Fl (List (List Int)) (List (List Int))):=
 ai (bu u0.az 0) fun b=>cond (decide (0<(a.length:Int))) (ai (bu a (IntKind.i64.wrap ((a.length:Int) - 1))) fun c=>ai (aS (uu u0 a) fu (st,(IntKind.i64.wrap (c+1)))) fun o=>aG o (fun d=>some (.nx d.1)) (fun _ _=>none) (fun r=>some (.rt r))) (ai (aS (uv u0 a) fu (st,b.aU)) fun o=>aG o (fun e=>some (.nx e.1)) (fun _ _=>none) (fun r=>some (.rt r)))
def nF (u0:an)(a:(List (List Int))):Option (List (List Int)):=
 ai (bM (o8 u0) 0 a ([]:List (List Int))) fun o=>aG o (fun b=>some b) (fun _ _=>none) (fun r=>some r)
theorem B3 {ro:Addr->Option Value}(u0:an){s1 a b c:Value}(j:bR ro u0 s1 a b c)(s:(List (List Int))){bo:Value}(Q:aH (rL rI) ro bo s){r:(List (List Int))}(h:nF u0 s=some r):eH Tryz.prog 72 #[bv u0 s1 a b c,bo] ro (fun v bf=>∃br,v=br/\aH (rL rI) bf br r):=by
 obtain ⟨d3,c4,rfl,h9,ib,-⟩:=id j.e;obtain ⟨d31,ih,rfl,ik,bs,-⟩:=id Q;unfold nF at h;refine aI.go Tryz.func72 rfl Tryz.ntmps72 Tryz.results72 av fun main J hJ A e3 hd hs=>?_;have fa:=hs 0;have k1:=hs 1;clear hs;apply aB hJ _;refine aA fun d u fb=>?_;try simp only[ax] at fb
 apply aB hJ _;refine ah hJ (aF hJ ?_);apply ag _;apply aW hJ;revert h;refine bS fun fg F fi=>?_;refine bW hJ (rg 12 35 [5,7,8,9]) (fun m w F'=>∃(i47:Nat) (y:Addr->Option Value) (d38:Option Addr) (G:Nat) (K:List (Nat×Obj)) (z:(List (List Int))),m=s.length - i47/\i47<=s.length/\bM (o8 u0) i47 (s.drop i47) z=some fg/\F'=⟨y,(d,bl u0 (sl d3 u0.az c4) a b c)::K⟩/\Ext ro y/\aZ (rL rI) y 35 (.slice d38 z.length G) z K/\z.length<=G/\slot w 12= .int .i64 (i47:Int)/\slot w 5= .slice d38 z.length G) s.length ?_ ?_
 .refine ⟨0,ro,none,0,[],([]:List (List Int)),(Nat.sub_zero _).symm,Nat.zero_le _,F,rfl,Ext.refl _,aZ.nil _ _ _,Nat.le_refl _,?_⟩;simp only[*,go_sem]
 rintro il bz F' b0 ⟨i47,y,d38,G,K,z,rfl,im,F,rfl,L,Z,b1,b2,b3⟩;refine eI hJ fun _ b4=>?_;replace Q:=Q.mono L;replace j:=j.mono L;replace u:=b4.hd;simp only[bt] at b4;obtain ⟨ab,ad,ae⟩:=b0.pick [2,4,10,11] aD;simp only[*,go_sem] at ab ad ae;clear b0 e3 hd fa k1;apply aB hJ _;apply ah hJ;rcases Nat.lt_or_ge i47 s.length with fp|b5
 .refine cW hJ ?_;apply aN hJ;obtain ⟨R,al⟩:∃x,s[i47]?=some x:=⟨_,List.getElem?_eq_getElem fp⟩
  rw[dJ al] at F;revert F;refine bS fun iv h ca=>?_;unfold o8 at h;try dsimp only at h
  obtain ⟨ix,jC,fr,fs,cb⟩:=Q.el _ _ al;obtain ⟨j1,rfl,t⟩:=fs;obtain ⟨d56,j2,rfl,kh,kj,kk⟩:=id t;cases fr;have ft:=cb 0 _ rfl;simp only[go_sem] at ft;clear cb al;refine ah hJ (aW hJ (ah hJ ?_));refine ay hJ fun kl=>?_;apply aE hJ _;apply ah hJ;refine ay hJ fun km=>?_;apply aQ hJ;revert h;refine bS fun cd fv h=>?_;obtain ⟨kn,kp,cf⟩:=ck fv;obtain ⟨f,fw,fx,fz,ao⟩:=j.e.el _ _ cf;obtain rfl:fw=cd.cells:=fz;cases fx;have gg:=ao 0 _ rfl;simp only[go_sem] at gg;have gl:=ao 1 _ rfl;simp only[go_sem] at gl;clear ao cf;apply ag _;refine ah hJ (ah hJ ?_);refine ay hJ fun ks=>?_;apply aE hJ _;revert h;refine aV hJ (fun gn h=>?_) fun gn h=>?_
  .refine ay hJ fun kt=>?_;apply aQ hJ;revert h;refine bS fun cl gp h=>?_;obtain ⟨kv,kx,cy⟩:=ck gp;obtain ⟨ky,gB,gC,gM,cS⟩:=t.el _ _ cy;obtain rfl:gB=[.int .i64 cl]:=gM;cases gC;have gN:=cS 0 _ rfl;simp only[go_sem] at gN;clear cS cy;apply ag _;apply ah hJ;refine ay hJ fun k0=>?_;apply aE hJ _;apply aW hJ;revert h;refine bS fun gT S gV=>?_;refine bW hJ (rg 33 13 [5,9]) (fun m w F'=>∃(H:Addr->Option Value) (d75:Option Addr) (M:Nat) (k:List (Nat×Obj)) (B:(List (List Int))) (g:Int),aS (uu u0 R) m (B,g)=some gT/\F'=⟨H,(d,bl u0 (sl (some f) u0.az c4) a b c)::k⟩/\Ext y H/\aZ (rL rI) H 35 (.slice d75 B.length M) B k/\B.length<=M/\slot w 5= .slice d75 B.length M/\slot w 9= .int .i64 g) fu ?_ ?_
   .refine ⟨y,d38,G,K,z,(IntKind.i64.wrap (cl+1)),S,rfl,Ext.refl _,Z,b1,?_⟩;simp only[*,go_sem]
   rintro ar g0 F' a0 ⟨H,d75,M,k,B,g,S,rfl,T,N,g1,k2,lb⟩;refine eI hJ fun _ c0=>?_;replace t:=t.mono T;replace j:=j.mono T;replace u:=c0.hd;simp only[bt] at c0;obtain ⟨g2,g3,g4⟩:=a0.pick [2,4,7,8,10,11,12,13,15,16,17,18,21,22,23,24,25,26,27,28,30,31,32] aD;simp only[*,go_sem] at g2 g3 g4;have lh:cF (rg 12 35 [5,7,8,9]) g0 bz:=(a0.eG aD).trans aL;clear a0 ab ad ae b3 b2;obtain _|ar:=ar
   .exact absurd S (by simp only[aS,reduceCtorEq,not_false_eq_true])
   revert S;refine bS fun lj h a2=>?_;unfold uu at h;(try dsimp only at h);refine ah hJ (ah hJ ?_);refine ay hJ fun lk=>?_;apply aQ hJ;revert h;refine bS fun ll ha h=>?_;apply ag _;refine bn hJ _ (tE u0 (j.mono bq) g ha) ?_;revert h;refine aV hJ (fun hc h=>?_) fun hc h=>?_
   .refine aN hJ (ah hJ ?_);apply aW hJ;refine ay hJ fun ln=>?_;apply aQ hJ;revert h;refine bS fun hf hg h=>?_;apply ag _;refine ey hJ (bw:=[]) [(d,bl u0 (sl (some f) u0.az c4) a b c)] k _ (BY R t hg) (fun lo hh da p q hi=>?_);simp only[aY] at q;subst p;obtain ⟨d133,lr,rfl,lv⟩:=da.len;refine ⟨⟨H,(d,bl u0 (sl (some f) u0.az c4) a b c)::(hh++k)⟩,Le.refl _,?_⟩;apply aP;revert h;refine bS fun U hj h=>?_;obtain ⟨hk,db⟩:=cL hj;apply ag _;refine aA fun C dd df=>?_;have hl:=bg.cons df hi;try simp only[ax] at df
    refine dj (r:=rI) (l:=hf) (x:=g) (cs:=#[.int .i64 g]) (e2:=3) [(C,ic g),(d,bl u0 (sl (some f) u0.az c4) a b c)] k da hl hk rfl aL dd rfl rfl cZ cZ e8 fc rfl e9 aD aD (fun lx dk a3 p q dp=>?_);simp only[aY] at q;subst p;rw[<-db] at a3;clear db;obtain ⟨d145,a4,rfl,ly⟩:=a3.len;obtain ⟨a5,V,a6,dq,hn⟩:=a3.dU [(C,ic g),(d,bl u0 (sl (some f) u0.az c4) a b c)] k dp (aJ.cons dd (aJ.cons u (N.gA)));have ho:=bg.sub (l:=(C,ic g)::(d,bl u0 (sl (some f) u0.az c4) a b c)::k) (l':=(C,ic g)::(d,bl u0 (sl (some f) u0.az c4) a b c)::(dk++k)) [(C,ic g),(d,bl u0 (sl (some f) u0.az c4) a b c)] dk k (by first|rfl|simp only[aY]|(simp only[aY];rfl)) (by first|rfl|simp only[aY]|(simp only[aY];rfl)) dp;refine ⟨⟨a5,(C,ic g)::(d,bl u0 (sl (some f) u0.az c4) a b c)::k⟩,hn,?_⟩;obtain ⟨lL,l1,-⟩:=dq.op;replace t:=t.mono V;replace j:=j.mono V;replace u:=a6.tl.hd;replace N:=N.mono V a6.tl.tl;simp only[bt] at a6;apply aP;revert h;refine bS fun hp hq h=>?_;obtain rfl:=sI h;obtain ⟨hr,ds⟩:=cL hq;apply ag _;refine aA fun dt ht du=>?_;have hv:=bg.cons du ho;try simp only[ax] at du
    refine dj (r:=(rL rI)) (l:=B) (x:=U) (cs:=#[.slice d145 U.length a4]) (e2:=35) [(dt,.cells #[.slice d145 U.length a4] 35),(C,ic g),(d,bl u0 (sl (some f) u0.az c4) a b c)] [] N hv hr ⟨_,rfl,dq⟩ aL ht rfl rfl gJ gJ lZ l6 rfl l5 aD aD (fun l2 dv a7 p q l3=>?_);simp only[aY] at q;subst p;rw[<-ds] at a7;clear ds;obtain ⟨d165,hx,rfl,hy⟩:=a7.len;refine ⟨⟨a5,(dt,.cells #[.slice d145 U.length a4] 35)::(C,ic g)::(d,bl u0 (sl (some f) u0.az c4) a b c)::dv⟩,Le.refl _,?_⟩;apply aP;apply ag _;refine ay hJ fun l4=>?_;apply aE hJ _;refine ⟨ar,Nat.lt_succ_self _,_,Le.sub (List.Sublist.cons _ (List.Sublist.cons _ (List.Sublist.refl _))),a5,d165,hx,dv,hp,(IntKind.i64.wrap (g+1)),a2,rfl,(T.trans V),a7,hy,?_⟩;simp only[*,go_sem]
   obtain rfl:=sI h;apply bP;simp only[go_sem];obtain rfl:=sI a2;clear a2;have h:=gV;dsimp only[aG] at h;obtain rfl:=sI h;have hz:=cM (n:=i47) (by have:=bs;omega);apply aE hJ _;refine ⟨s.length - (i47+1),aa,_,Le.sub (List.Sublist.refl _),i47+1,H,d75,M,k,B,rfl,aa,ca,rfl,(L.trans T),N,g1,?_⟩;simp only[*,go_sem]
  refine aN hJ (ah hJ ?_);refine ay hJ fun ma=>?_;apply aE hJ _;apply aW hJ;revert h;refine bS fun hA W hB=>?_;refine bW hJ (rg 33 13 [5,9]) (fun m w F'=>∃(I:Addr->Option Value) (d172:Option Addr) (O:Nat) (o:List (Nat×Obj)) (D:(List (List Int))) (i:Int),aS (uv u0 R) m (D,i)=some hA/\F'=⟨I,(d,bl u0 (sl (some f) u0.az c4) a b c)::o⟩/\Ext y I/\aZ (rL rI) I 35 (.slice d172 D.length O) D o/\D.length<=O/\slot w 5= .slice d172 D.length O/\slot w 9= .int .i64 i) fu ?_ ?_
  .refine ⟨y,d38,G,K,z,cd.aU,W,rfl,Ext.refl _,Z,b1,?_⟩;simp only[*,go_sem]
  rintro a8 hD F' a9 ⟨I,d172,O,o,D,i,W,rfl,X,P,hE,mf,mi⟩;refine eI hJ fun _ dC=>?_;replace t:=t.mono X;replace j:=j.mono X;replace u:=dC.hd;simp only[bt] at dC;obtain ⟨hF,hG,hI⟩:=a9.pick [2,4,7,8,10,11,12,13,15,16,17,18,21,22,23,24,32] aD;simp only[*,go_sem] at hF hG hI;have ml:cF (rg 12 35 [5,7,8,9]) hD bz:=(a9.eG aD).trans aL;clear a9 ab ad ae b3 b2;obtain _|a8:=a8
  .exact absurd W (by simp only[aS,reduceCtorEq,not_false_eq_true])
  revert W;refine bS fun mn h ba=>?_;unfold uv at h;try dsimp only at h
  refine ah hJ (ah hJ ?_);refine ay hJ fun mr=>?_;apply aQ hJ;revert h;refine bS fun mx hK h=>?_;apply ag _;refine bn hJ _ (tE u0 (j.mono bq) i hK) ?_;revert h;refine aV hJ (fun hL h=>?_) fun hL h=>?_
  .refine aN hJ (ah hJ ?_);apply aW hJ;refine ay hJ fun my=>?_;apply aQ hJ;revert h;refine bS fun hM hN h=>?_;apply ag _;refine ey hJ (bw:=[]) [(d,bl u0 (sl (some f) u0.az c4) a b c)] o _ (BY R t hN) (fun m1 hP dE p q hQ=>?_);simp only[aY] at q;subst p;obtain ⟨d230,m2,rfl,na⟩:=dE.len;refine ⟨⟨I,(d,bl u0 (sl (some f) u0.az c4) a b c)::(hP++o)⟩,Le.refl _,?_⟩;apply aP;revert h;refine bS fun Y hR h=>?_;obtain ⟨hS,dT⟩:=cL hR;apply ag _;refine aA fun E ea eb=>?_;have hT:=bg.cons eb hQ;try simp only[ax] at eb
   refine dj (r:=rI) (l:=hM) (x:=i) (cs:=#[.int .i64 i]) (e2:=3) [(E,ic i),(d,bl u0 (sl (some f) u0.az c4) a b c)] o dE hT hS rfl aL ea rfl rfl cZ cZ e8 fc rfl e9 aD aD (fun nb ec bb p q ed=>?_);simp only[aY] at q;subst p;rw[<-dT] at bb;clear dT;obtain ⟨bc,bd,rfl,nd⟩:=bb.len;obtain ⟨bj,eh,bk,et,hV⟩:=bb.dU [(E,ic i),(d,bl u0 (sl (some f) u0.az c4) a b c)] o ed (aJ.cons ea (aJ.cons u (P.gA)));have hX:=bg.sub (l:=(E,ic i)::(d,bl u0 (sl (some f) u0.az c4) a b c)::o) (l':=(E,ic i)::(d,bl u0 (sl (some f) u0.az c4) a b c)::(ec++o)) [(E,ic i),(d,bl u0 (sl (some f) u0.az c4) a b c)] ec o (by first|rfl|simp only[aY]|(simp only[aY];rfl)) (by first|rfl|simp only[aY]|(simp only[aY];rfl)) ed;refine ⟨⟨bj,(E,ic i)::(d,bl u0 (sl (some f) u0.az c4) a b c)::o⟩,hV,?_⟩;obtain ⟨nf,nm,-⟩:=et.op;replace u:=bk.tl.hd;replace P:=P.mono eh bk.tl.tl;simp only[bt] at bk;apply aP;revert h;refine bS fun hY hZ h=>?_;obtain rfl:=sI h;obtain ⟨h0,ev⟩:=cL hZ;apply ag _;refine aA fun eQ h1 eS=>?_;have h2:=bg.cons eS hX;try simp only[ax] at eS
   refine dj (r:=(rL rI)) (l:=D) (x:=Y) (cs:=#[.slice bc Y.length bd]) (e2:=35) [(eQ,.cells #[.slice bc Y.length bd] 35),(E,ic i),(d,bl u0 (sl (some f) u0.az c4) a b c)] [] P h2 h0 ⟨_,rfl,et⟩ aL h1 rfl rfl gJ gJ lZ l6 rfl l5 aD aD (fun nn eV bm p q np=>?_);simp only[aY] at q;subst p;rw[<-ev] at bm;clear ev;obtain ⟨h3,h4,rfl,h5⟩:=bm.len;refine ⟨⟨bj,(eQ,.cells #[.slice bc Y.length bd] 35)::(E,ic i)::(d,bl u0 (sl (some f) u0.az c4) a b c)::eV⟩,Le.refl _,?_⟩;apply aP;apply ag _;refine ay hJ fun ns=>?_;apply aE hJ _;refine ⟨a8,Nat.lt_succ_self _,_,Le.sub (List.Sublist.cons _ (List.Sublist.cons _ (List.Sublist.refl _))),bj,h3,h4,eV,hY,(IntKind.i64.wrap (i+1)),ba,rfl,(X.trans eh),bm,h5,?_⟩;simp only[*,go_sem]
  obtain rfl:=sI h;apply bP;simp only[go_sem];obtain rfl:=sI ba;clear ba;have h:=hB;dsimp only[aG] at h;obtain rfl:=sI h;have hz:=cM (n:=i47) (by have:=bs;omega);apply aE hJ _;refine ⟨s.length - (i47+1),aa,_,Le.sub (List.Sublist.refl _),i47+1,I,d172,O,o,D,rfl,aa,ca,rfl,(L.trans X),P,hE,?_⟩;simp only[*,go_sem]
 have nx:=Nat.not_lt.2 b5;refine cJ hJ ?_;rw[List.drop_eq_nil_of_le b5] at F;obtain rfl:=sI F;clear F;have h:=fi;dsimp only[aG] at h;obtain rfl:=sI h;apply bP;simp only[go_sem];apply ah hJ;refine ay hJ fun nz=>?_;apply aE hJ _;refine ay hJ fun e0=>?_;obtain ⟨nA,h6,h7,e1,h8⟩:=Z.dU [(d,bl u0 (sl d3 u0.az c4) a b c)] [] e0 (aJ.cons u (aJ.nil _));clear e0;refine cB hJ h8 ?_;obtain ⟨nH,nI,-⟩:=e1.op;simp only[bt] at h7;refine bX ?_;exact ⟨_,(L).trans h6,Le.sub (List.nil_sublist _),_,rfl,e1⟩
def o9 (u0:Int):Option Bool:=
 some (u0 != u0)
theorem uw {ro:Addr->Option Value}(u0:Int){r:Bool}(h:o9 u0=some r):aI Tryz.prog 179 #[.int .i64 u0] ⟨ro,[]⟩ (fun v _=>v= .bool r):=by
 unfold o9 at h;cases h;refine aI.go Tryz.func179 rfl Tryz.ntmps179 Tryz.results179 av fun main J hJ A a hd hs=>?_;have b:=hs 0;clear hs;apply aB hJ _;apply aB hJ _;apply aT;simp only[*,go_sem]
def ji (u0:Int)(a:Int):Option Bool:=
 ai (o9 u0) fun b=>cond (b) (ai (o9 a) fun c=>cond (!c) (some true) (some (decide (u0<a)))) (some (decide (u0<a)))
theorem kB {ro:Addr->Option Value}(u0:Int)(a:Int){r:Bool}(h:ji u0 a=some r):aI Tryz.prog 197 #[.int .i64 u0,.int .i64 a] ⟨ro,[]⟩ (fun v _=>v= .bool r):=by
 unfold ji at h;refine aI.go Tryz.func197 rfl Tryz.ntmps197 Tryz.results197 av fun main J hJ A f hd hs=>?_;have g:=hs 0;have k1:=hs 1;clear hs;apply aB hJ _;apply aF hJ;revert h;refine bS fun i b h=>?_;apply ag _;refine bn hJ _ (uw u0 b) (aP ?_);revert h;refine cS (fun c h=>?_) fun c h=>?_
 .revert h;refine bS fun j d h=>?_;apply ag _;refine bn hJ _ (uw a d) (aP ?_);revert h;refine cS (fun e h=>?_) fun e h=>?_
  .cases h;apply ag _;apply aT;simp only[*,go_sem]
  cases h;apply ag _;apply aT;simp only[*,go_sem]
 cases h;apply ag _;apply aT;simp only[*,go_sem]
def xD (c:Int)(st:(Int×(List Int))):Option (Fl (Int×(List Int)) (Unit×(List Int))):=
 cond (decide (c<st.1)) (ai (bu st.2 st.1) fun b=>ai (bu st.2 (IntKind.i64.wrap (st.1 - 1))) fun a=>ai (ji b a) fun d=>cond (d) (ai (bu (st.2.set (st.1).toNat a) (IntKind.i64.wrap (st.1 - 1))) fun e=>some (.nx ((IntKind.i64.wrap (st.1 - 1)),((st.2.set (st.1).toNat a).set (IntKind.i64.wrap (st.1 - 1)).toNat b)))) (some (.bk (st.1,st.2)))) (some (.bk (st.1,st.2)))
def xE (a:Int)(b:Int)(st:(Int×(List Int))):Option (Fl (Int×(List Int)) (Unit×(List Int))):=
 cond (decide (st.1<b)) (ai (aS (xD a) fu (st.1,st.2)) fun o=>aG o (fun c=>some (.nx ((IntKind.i64.wrap (st.1+1)),c.2))) (fun _ _=>none) (fun r=>some (.rt r))) (some (.bk (st.1,st.2)))
def uy (u0:(List Int))(a:Int)(b:Int):Option (Unit×(List Int)):=
 cond (List.isEmpty u0) none (ai (aS (xE a b) fu ((IntKind.i64.wrap (a+1)),u0)) fun o=>aG o (fun c=>some ((),c.2)) (fun _ _=>none) (fun r=>some r))
theorem B4 {ro:Addr->Option Value}(u0:(List Int)){w:Value}{K:List (Nat×Obj)}(x:aZ rI ro 3 w u0 K)(k:Int)(z:Int){r:(Unit×(List Int))}(h:uy u0 k z=some r):aI Tryz.prog 191 #[w,.int .i64 k,.int .i64 z] ⟨ro,K⟩ (fun v G=>∃L,(v= .tuple #[]/\aZ rI ro 3 w r.2 L)/\Le ⟨ro,L⟩ G):=by
 obtain ⟨d1,c2,rfl,b4⟩:=x.len;unfold uy at h;revert h;refine cS (fun M h=>?_) fun M h=>?_
 .cases h
 obtain ⟨b,ab,rfl,rfl,b5⟩:=x.jg M;refine aI.go Tryz.func191 rfl Tryz.ntmps191 Tryz.results191 av fun main J hJ A ad hd hs=>?_;have ae:=hs 0;have k1:=hs 1;have al:=hs 2;clear hs;apply ah hJ;refine ay hJ fun ca=>?_;apply aE hJ _;apply aW hJ;revert h;refine bS fun ao n ar=>?_;refine bW hJ (rg 10 39 [6,7]) (fun m B F'=>∃(p:Array Value) (j:Int) (q:(List Int)),aS (xE k z) m (j,q)=some ao/\F'=⟨ro,[(b,Obj.cells p 3)]⟩/\aZ rI ro 3 (.slice (some ⟨b,0,none⟩) u0.length c2) q [(b,Obj.cells p 3)]/\slot B 6= .int .i64 j) fu ?_ ?_
 .refine ⟨ab,(IntKind.i64.wrap (k+1)),u0,n,rfl,x,?_⟩;simp only[*,go_sem]
 rintro s a0 F' N ⟨p,j,q,n,rfl,O,a2⟩;obtain ⟨P,Q,R⟩:=N.pick [0,1,2] aD;simp only[*,go_sem] at P Q R;clear N ad hd ae k1 al;obtain _|s:=s
 .exact absurd n (by simp only[aS,reduceCtorEq,not_false_eq_true])
 revert n;refine bS fun cb h t=>?_;unfold xE at h;try dsimp only at h
 refine ah hJ (ah hJ ?_);refine ay hJ fun cd=>?_;apply aE hJ _;revert h;refine aV hJ (fun a3 h=>?_) fun a3 h=>?_
 .refine aN hJ (ah hJ ?_);refine aW hJ (ah hJ ?_);refine ay hJ fun cf=>?_;apply aE hJ _;apply aW hJ;revert h;refine bS fun a4 u S=>?_;refine bW hJ (rg 16 33 [7]) (fun m B F'=>∃(d:Array Value) (a:Int) (e:(List Int)),aS (xD k) m (a,e)=some a4/\F'=⟨ro,[(b,Obj.cells d 3)]⟩/\aZ rI ro 3 (.slice (some ⟨b,0,none⟩) u0.length c2) e [(b,Obj.cells d 3)]/\slot B 7= .int .i64 a) fu ?_ ?_
  .refine ⟨p,j,q,u,rfl,O,?_⟩;simp only[*,go_sem]
  rintro C a5 F' D ⟨d,a,e,u,rfl,g,cl⟩;obtain ⟨a6,a7,a8⟩:=D.pick [0,1,2,6,10,11,12,15] aD;simp only[*,go_sem] at a6 a7 a8;have cy:cF (rg 10 39 [6,7]) a5 a0:=(D.eG aD).trans aL;clear D P Q R a2;obtain _|C:=C
  .exact absurd u (by simp only[aS,reduceCtorEq,not_false_eq_true])
  revert u;refine bS fun c0 h l=>?_;unfold xD at h;try dsimp only at h
  refine ah hJ (ah hJ ?_);refine ay hJ fun da=>?_;refine c5 hJ mixed 15 1 aL aj ?_;revert h;refine cS (fun a9 h=>?_) fun a9 h=>?_
  .revert h;refine bS fun f ba h=>?_;obtain ⟨db,dd,T⟩:=ck ba;have df:a<((u0.length:Nat):Int):=by have:=g.count;omega
   obtain ⟨bb,bc,bd⟩:=g.jJ T;obtain rfl:bb=[.int .i64 f]:=bc;have U:=bd 0 _ rfl;simp only[go_sem] at U;have dk:=(Array.getElem?_eq_some_iff.1 U).1;revert h;refine bS fun c bj h=>?_;obtain ⟨dp,dq,bk⟩:=ck bj;have ds:IntKind.i64.wrap (a - 1)<((u0.length:Nat):Int):=by have:=g.count;omega
   obtain ⟨bl,bm,bo⟩:=g.jJ bk;obtain rfl:bl=[.int .i64 c]:=bm;have V:=bo 0 _ rfl;simp only[go_sem] at V;have dt:=(Array.getElem?_eq_some_iff.1 V).1;revert h;refine bS fun du br h=>?_;apply ag _;refine ⟨_,bL hJ fun F dv=>kB f c br,cw ?_⟩;apply ag _;revert h;refine aV hJ (fun bs h=>?_) fun bs h=>?_
   .refine aN hJ (ah hJ ?_);apply aW hJ;refine ay hJ fun dC=>?_;refine fC hJ mixed [15,16,17] (.pure 0 (.pure 1 (.pure 2 (.pure 3 (.pure 4 (.pure 5 (.pure 6 (.pure 7 (.pure 8 (.rd 9 (.pure 10 (.pure 11 (.pure 12 (.rd 13 (.pure 14 (.last 15 (.pure 16 (.last 17 .done)))))))))))))))))) ⟨ro,[(b,Obj.cells d 3)]⟩ aL aj ?_;have E:aZ rI ro 3 (.slice (some ⟨b,0,none⟩) u0.length c2) (e.set (a).toNat c) [(b,Obj.cells (c9 d (a).toNat [.int .i64 c]) 3)]:=by have H:=g.tu (i:=(a).toNat) (y:=c) (by have:=T;have:=(List.getElem?_eq_some_iff.1 this).1;simpa only[List.length_set] using this) (cs:=[.int .i64 c]) rfl;simpa only[tB,xj,Nat.mul_one,Nat.add_zero] using H
    revert h;refine bS fun bz b0 h=>?_;cases h;obtain ⟨dE,dT,W⟩:=ck b0;have ea:IntKind.i64.wrap (a - 1)<((u0.length:Nat):Int):=by have:=E.count;omega
    obtain ⟨b1,b2,b3⟩:=E.jJ W;obtain rfl:b1=[.int .i64 bz]:=b2;have X:=b3 0 _ rfl;simp only[go_sem] at X;have eb:=(Array.getElem?_eq_some_iff.1 X).1;have Y:aZ rI ro 3 (.slice (some ⟨b,0,none⟩) u0.length c2) ((e.set (a).toNat c).set (IntKind.i64.wrap (a - 1)).toNat f) [(b,Obj.cells (c9 (c9 d (a).toNat [.int .i64 c]) (IntKind.i64.wrap (a - 1)).toNat [.int .i64 f]) 3)]:=by have H:=E.tu (i:=(IntKind.i64.wrap (a - 1)).toNat) (y:=f) (by have:=W;have:=(List.getElem?_eq_some_iff.1 this).1;simpa only[List.length_set] using this) (cs:=[.int .i64 f]) rfl;simpa only[tB,xj,Nat.mul_one,Nat.add_zero] using H
    apply ag _;obtain ⟨Z,I⟩:∃o,o=(c9 (c9 d (a).toNat [.int .i64 c]) (IntKind.i64.wrap (a - 1)).toNat [.int .i64 f]):=⟨_,rfl⟩
    refine cB (F:=⟨ro,[(b,Obj.cells Z 3)]⟩) hJ (by rw[I];exact Le.refl _) ?_;rw[<-I] at Y;clear I;refine ay hJ fun ec=>?_;apply aE hJ _;refine ⟨C,Nat.lt_succ_self _,_,Le.sub (List.Sublist.refl _),Z,(IntKind.i64.wrap (a - 1)),((e.set (a).toNat c).set (IntKind.i64.wrap (a - 1)).toNat f),l,rfl,Y,?_⟩;simp only[*,go_sem]
   cases h;apply bP;simp only[go_sem];obtain rfl:=sI l;clear l;have h:=S;dsimp only[aG] at h;cases h;refine ay hJ fun ed=>?_;apply aE hJ _;refine ⟨s,Nat.lt_succ_self _,_,Le.sub (List.Sublist.refl _),d,(IntKind.i64.wrap (j+1)),e,t,rfl,g,?_⟩;simp only[*,go_sem]
  cases h;apply ag _;refine cJ hJ ?_;apply bP;simp only[go_sem];obtain rfl:=sI l;clear l;have h:=S;dsimp only[aG] at h;cases h;refine ay hJ fun eh=>?_;apply aE hJ _;refine ⟨s,Nat.lt_succ_self _,_,Le.sub (List.Sublist.refl _),d,(IntKind.i64.wrap (j+1)),e,t,rfl,g,?_⟩;simp only[*,go_sem]
 cases h;apply bP;simp only[go_sem];obtain rfl:=sI t;clear t;have h:=ar;dsimp only[aG] at h;cases h;apply ag _;exact ⟨_,O,Le.sub (List.Sublist.refl _)⟩
def xF (u0:(List Int))(st:(Int×Int×Int×Bool×Bool)):Option (Fl (Int×Int×Int×Bool×Bool) (Unit×(List Int))):=
 cond (decide ((IntKind.i64.wrap (st.2.1 - st.1))<=12)) (ai (uy u0 st.1 st.2.1) fun a=>some (.rt ((),a.2))) (none)
def uz (u0:(List Int))(a:Int)(b:Int)(c:Int):Option (Unit×(List Int)):=
 cond (List.isEmpty u0) none (ai (aS (xF u0) fu (a,b,c,true,true)) fun o=>aG o (fun d=>some ((),u0)) (fun _ _=>none) (fun r=>some r))
theorem B5 {ro:Addr->Option Value}(u0:(List Int)){f:Value}{p:List (Nat×Obj)}(g:aZ rI ro 3 f u0 p)(i:Int)(j:Int)(k:Int){r:(Unit×(List Int))}(h:uz u0 i j k=some r):aI Tryz.prog 176 #[f,.int .i64 i,.int .i64 j,.int .i64 k] ⟨ro,p⟩ (fun v G=>∃b,(v= .tuple #[]/\aZ rI ro 3 f r.2 b)/\Le ⟨ro,b⟩ G):=by
 obtain ⟨d1,c2,rfl,Q⟩:=g.len;unfold uz at h;revert h;refine cS (fun q h=>?_) fun q h=>?_
 .cases h
 obtain ⟨s,y,rfl,rfl,R⟩:=g.jg q;refine aI.go Tryz.func176 rfl Tryz.ntmps176 Tryz.results176 av fun main J hJ A z hd hs=>?_;have B:=hs 0;have k1:=hs 1;have C:=hs 2;have D:=hs 3;clear hs;apply ah hJ;refine ay hJ fun S=>?_;apply aE hJ _;apply ah hJ;refine ay hJ fun T=>?_;apply aE hJ _;apply aW hJ;revert h;refine bS fun E c F=>?_;refine bW hJ (rg 8 126 [1,2,3]) (fun m a F'=>∃(d:Int) (e:Int) (l:Int) (n:Bool) (o:Bool),aS (xF u0) m (d,e,l,n,o)=some E/\F'=⟨ro,[(s,Obj.cells y 3)]⟩/\slot a 1= .int .i64 d/\slot a 2= .int .i64 e/\slot a 3= .int .i64 l/\slot a 8= .bool n/\slot a 9= .bool o) fu ?_ ?_
 .refine ⟨i,j,k,true,true,c,rfl,?_⟩;simp only[*,go_sem]
 rintro t U F' u ⟨d,e,l,n,o,c,rfl,V,W,X,Y,Z⟩;obtain ⟨H,I,K⟩:=u.pick [0] aD;simp only[*,go_sem] at H I K;clear u z hd B k1 C D;obtain _|t:=t
 .exact absurd c (by simp only[aS,reduceCtorEq,not_false_eq_true])
 revert c;refine bS fun ab h w=>?_;unfold xF at h;try dsimp only at h
 refine aW hJ (ah hJ ?_);refine ay hJ fun ad=>?_;apply aE hJ _;refine ah hJ (ah hJ ?_);refine ay hJ fun ae=>?_;apply aE hJ _;revert h;refine aV hJ (fun L h=>?_) fun L h=>?_
 .apply ah hJ;refine ay hJ fun al=>?_;apply aQ hJ;revert h;refine bS fun ao M h=>?_;cases h;apply ag _;refine ey hJ [] [] _ (B4 u0 g d e M) (fun ar a0 N b O a2=>?_);obtain ⟨rfl,x⟩:=N;obtain ⟨P,rfl⟩:=x.ir;simp only[aY] at O;subst b;refine ⟨⟨ro,[(s,Obj.cells P 3)]⟩,Le.refl _,?_⟩;obtain rfl:=sI w;clear w;have h:=F;dsimp only[aG] at h;cases h;refine bX ?_;exact ⟨_,x,Le.sub (List.Sublist.refl _)⟩
 cases h
def rK (u0:(List Int))(a:Int)(b:Int)(c:Int):Option (((Int×Int)×(List Int))×Int):=
 cond (List.isEmpty u0) none (ai (bu u0 b) fun d=>ai (bu u0 a) fun e=>ai (ji d e) fun f=>cond (f) (some (((b,a),u0),IntKind.i64.wrap (c+1))) (some (((a,b),u0),c)))
theorem xG {ro:Addr->Option Value}(u0:(List Int)){c:Value}{f:List (Nat×Obj)}(a:aZ rI ro 3 c u0 f)(d:Int)(e:Int)(g:Int){b:Nat}(I:∀off sp,ro ⟨b,off,sp⟩=none){r:(((Int×Int)×(List Int))×Int)}(h:rK u0 d e g=some r):aI Tryz.prog 214 #[c,.int .i64 d,.int .i64 e,.pointer (some ⟨b,0,none⟩)] ⟨ro,(b,ic g)::f⟩ (fun v G=>∃i,(∃j,i=(b,ic r.2)::j/\v= .tuple #[.int .i64 r.1.1.1,.int .i64 r.1.1.2]/\aZ rI ro 3 c r.1.2 j)/\Le ⟨ro,i⟩ G):=by
 obtain ⟨d1,c2,rfl,K⟩:=a.len;unfold rK at h;revert h;refine cS (fun k h=>?_) fun k h=>?_
 .cases h
 obtain ⟨L,M,rfl,rfl,N⟩:=a.jg k;refine aI.go Tryz.func214 rfl Tryz.ntmps214 Tryz.results214 av fun main J hJ A O hd hs=>?_;have P:=hs 0;have k1:=hs 1;have Q:=hs 2;have R:=hs 3;clear hs;refine ay hJ fun p=>?_;have q:=p.nd;simp only[keys,List.map_cons,List.map_nil,List.map_append,List.cons_append,List.nil_append,List.nodup_cons,List.mem_cons,List.mem_append,List.not_mem_nil,or_false,not_or] at q;apply ah hJ;refine ay hJ fun S=>?_;apply aE hJ _;refine ah hJ (ah hJ ?_);refine ay hJ fun T=>?_;refine c5 hJ mixed 9 2 aL aj ?_;revert h;refine bS fun l s h=>?_;obtain ⟨U,V,t⟩:=ck s;have W:e<((u0.length:Nat):Int):=by have:=a.count;omega
 obtain ⟨u,w,x⟩:=a.jJ t;obtain rfl:u=[.int .i64 l]:=w;have m:=x 0 _ rfl;simp only[go_sem] at m;have X:=(Array.getElem?_eq_some_iff.1 m).1;revert h;refine bS fun n y h=>?_;obtain ⟨Y,Z,z⟩:=ck y;have ab:d<((u0.length:Nat):Int):=by have:=a.count;omega
 obtain ⟨B,C,D⟩:=a.jJ z;obtain rfl:B=[.int .i64 n]:=C;have o:=D 0 _ rfl;simp only[go_sem] at o;have ad:=(Array.getElem?_eq_some_iff.1 o).1;revert h;refine bS fun ae E h=>?_;apply ag _;refine ⟨_,bL hJ fun F al=>kB l n E,?_⟩;revert h;refine aV hJ (fun H h=>?_) fun H h=>?_
 .cases h;apply ah hJ;refine ay hJ fun ao=>?_;apply aE hJ _;apply ah hJ;refine ay hJ fun ar=>?_;apply aE hJ _;refine bX ?_;exact ⟨_,⟨_,rfl,a⟩,Le.sub (List.Sublist.refl _)⟩
 cases h;refine aN hJ (ah hJ ?_);refine ay hJ fun a0=>?_;apply aE hJ _;refine bX ?_;exact ⟨_,⟨_,rfl,a⟩,Le.sub (List.Sublist.refl _)⟩
def xH (u0:(List Int))(d:Int)(e:Int)(f:Int)(g:Int):Option ((Int×(List Int))×Int):=
 cond (List.isEmpty u0) none (ai (rK u0 d e g) fun a=>ai (rK a.1.2 a.1.1.2 f a.2) fun b=>ai (rK b.1.2 a.1.1.1 b.1.1.1 b.2) fun c=>some ((c.1.1.2,c.1.2),c.2))
theorem Ir {ro:Addr->Option Value}(u0:(List Int)){g:Value}{p:List (Nat×Obj)}(i:aZ rI ro 3 g u0 p)(j:Int)(k:Int)(l:Int)(m:Int){b:Nat}(n:∀off sp,ro ⟨b,off,sp⟩=none){r:((Int×(List Int))×Int)}(h:xH u0 j k l m=some r):aI Tryz.prog 213 #[g,.int .i64 j,.int .i64 k,.int .i64 l,.pointer (some ⟨b,0,none⟩)] ⟨ro,(b,ic m)::p⟩ (fun v G=>∃a,(∃q,a=(b,ic r.2)::q/\v= .int .i64 r.1.1/\aZ rI ro 3 g r.1.2 q)/\Le ⟨ro,a⟩ G):=by
 obtain ⟨d1,c2,rfl,S⟩:=i.len;unfold xH at h;revert h;refine cS (fun s h=>?_) fun s h=>?_
 .cases h
 obtain ⟨o,T,rfl,rfl,U⟩:=i.jg s;refine aI.go Tryz.func213 rfl Tryz.ntmps213 Tryz.results213 av fun main J hJ A y hd hs=>?_;have z:=hs 0;have k1:=hs 1;have B:=hs 2;have C:=hs 3;have D:=hs 4;clear hs;refine ay hJ fun E=>?_;have F:=E.nd;simp only[keys,List.map_cons,List.map_nil,List.map_append,List.cons_append,List.nil_append,List.nodup_cons,List.mem_cons,List.mem_append,List.not_mem_nil,or_false,not_or] at F;apply ah hJ;refine ay hJ fun V=>?_;apply aE hJ _;apply ah hJ;refine ay hJ fun W=>?_;apply aQ hJ;revert h;refine bS fun c H h=>?_;apply ag _;refine ey hJ [] [] _ (xG u0 i j k m n H) (fun X t d a e Y=>?_);obtain ⟨Z,rfl,rfl,u⟩:=d;obtain ⟨I,rfl⟩:=u.ir;simp only[aY] at e;subst a;refine ⟨⟨ro,(b,ic c.2)::[(o,Obj.cells I 3)]⟩,Le.refl _,?_⟩;apply aP;apply ag _;apply ah hJ;refine ay hJ fun ab=>?_;apply aQ hJ;revert h;refine bS fun f K h=>?_;apply ag _;refine ey hJ [] [] _ (xG c.1.2 u c.1.1.2 l c.2 n K) (fun ad t d a e ae=>?_);obtain ⟨al,rfl,rfl,w⟩:=d;obtain ⟨L,rfl⟩:=w.ir;simp only[aY] at e;subst a;refine ⟨⟨ro,(b,ic f.2)::[(o,Obj.cells L 3)]⟩,Le.refl _,?_⟩;apply aP;apply ag _;apply ah hJ;refine ay hJ fun ao=>?_;apply aQ hJ;revert h;refine bS fun M N h=>?_;cases h;apply ag _;refine ey hJ [] [] _ (xG f.1.2 w c.1.1.1 f.1.1.1 f.2 n N) (fun ar t d a e a0=>?_);obtain ⟨a2,rfl,rfl,x⟩:=d;obtain ⟨O,rfl⟩:=x.ir;simp only[aY] at e;subst a;refine ⟨⟨ro,(b,ic M.2)::[(o,Obj.cells O 3)]⟩,Le.refl _,?_⟩;apply aP;apply ag _;apply ah hJ;refine fM [0,2,10,12,20,28] fun a3 P Q R=>?_;simp only[*,go_sem] at P Q R;clear y hd z k1 B C D;refine ay hJ fun a4=>?_;apply aE hJ _;refine bX ?_;exact ⟨_,⟨_,rfl,x⟩,Le.sub (List.Sublist.refl _)⟩
def xI (u0:(List Int))(b:Int)(d:Int):Option ((Int×Int)×(List Int)):=
 cond (List.isEmpty u0) none (ai (gy (IntKind.i64.wrap (d - b)) 4) fun c=>cond (decide (8<=(IntKind.i64.wrap (d - b)))) (cond (decide (50<=(IntKind.i64.wrap (d - b)))) (none) (ai (xH u0 (IntKind.i64.wrap (b+(IntKind.i64.wrap (c*1)))) (IntKind.i64.wrap (b+(IntKind.i64.wrap (c*2)))) (IntKind.i64.wrap (b+(IntKind.i64.wrap (c*3)))) 0) fun a=>cond ((a.2==0)) (some ((a.1.1,1),a.1.2)) (cond ((a.2==12)) (some ((a.1.1,2),a.1.2)) (some ((a.1.1,0),a.1.2))))) (some ((IntKind.i64.wrap (b+(IntKind.i64.wrap (c*2))),1),u0)))
theorem It {ro:Addr->Option Value}(u0:(List Int)){e:Value}{g:List (Nat×Obj)}(b:aZ rI ro 3 e u0 g)(a:Int)(i:Int){r:((Int×Int)×(List Int))}(h:xI u0 a i=some r):aI Tryz.prog 194 #[e,.int .i64 a,.int .i64 i] ⟨ro,g⟩ (fun v G=>∃c,(v= .tuple #[.int .i64 r.1.1,.int .i64 r.1.2]/\aZ rI ro 3 e r.2 c)/\Le ⟨ro,c⟩ G):=by
 obtain ⟨d1,c2,rfl,N⟩:=b.len;unfold xI at h;revert h;refine cS (fun j h=>?_) fun j h=>?_
 .cases h
 obtain ⟨p,O,rfl,rfl,P⟩:=b.jg j;refine aI.go Tryz.func194 rfl Tryz.ntmps194 Tryz.results194 av fun main J hJ A k hd hs=>?_;have l:=hs 0;have k1:=hs 1;have m:=hs 2;clear hs;apply ah hJ;refine ay hJ fun Q=>?_;apply aE hJ _;apply ah hJ;refine ay hJ fun R=>?_;apply aE hJ _;apply ah hJ;refine ay hJ fun q=>?_;apply aE hJ _;refine aA fun s t n=>?_;have S:=bg.cons n q;try simp only[ax] at n
 apply ah hJ;refine ay hJ fun T=>?_;apply aQ hJ;revert h;refine bS fun f o h=>?_;obtain ⟨U,V⟩:=k3 o;clear o;apply ag _;apply ah hJ;refine ay hJ fun W=>?_;apply aE hJ _;apply ah hJ;refine ay hJ fun X=>?_;apply aE hJ _;refine ah hJ (ah hJ ?_);refine ay hJ fun Y=>?_;apply aE hJ _;revert h;refine aV hJ (fun u h=>?_) fun u h=>?_
 .refine ah hJ (ah hJ ?_);refine ay hJ fun Z=>?_;apply aE hJ _;revert h;refine aV hJ (fun w h=>?_) fun w h=>?_
  .cases h
  apply aN hJ;refine ay hJ fun ab=>?_;apply aQ hJ;revert h;refine bS fun x y h=>?_;apply ag _;refine ey hJ [] [] _ (Ir u0 b (IntKind.i64.wrap (a+(IntKind.i64.wrap (f*1)))) (IntKind.i64.wrap (a+(IntKind.i64.wrap (f*2)))) (IntKind.i64.wrap (a+(IntKind.i64.wrap (f*3)))) 0 t y) (fun ad ae z c B al=>?_);obtain ⟨ao,rfl,rfl,d⟩:=z;obtain ⟨C,rfl⟩:=d.ir;simp only[aY] at B;subst c;refine ⟨⟨ro,(s,ic x.2)::[(p,Obj.cells C 3)]⟩,Le.refl _,?_⟩;apply aP;apply ag _;apply ah hJ;refine fM [0,6,7,9,11,44] fun ar D E F=>?_;simp only[*,go_sem] at D E F;clear k hd l k1 m;refine ay hJ fun a0=>?_;apply aE hJ _;refine aW hJ (ah hJ ?_);refine ay hJ fun a2=>?_;apply aE hJ _;revert h;refine aV hJ (fun H h=>?_) fun H h=>?_
  .cases h;apply ah hJ;refine ay hJ fun a3=>?_;apply aE hJ _;refine bX ?_;exact ⟨_,d,Le.sub (.cons _ (List.Sublist.refl _))⟩
  apply ah hJ;refine ay hJ fun a4=>?_;apply aE hJ _;revert h;refine aV hJ (fun I h=>?_) fun I h=>?_
  .cases h;apply ah hJ;refine ay hJ fun a5=>?_;apply aE hJ _;refine bX ?_;exact ⟨_,d,Le.sub (.cons _ (List.Sublist.refl _))⟩
  cases h;apply ah hJ;refine ay hJ fun a6=>?_;apply aE hJ _;refine bX ?_;exact ⟨_,d,Le.sub (.cons _ (List.Sublist.refl _))⟩
 cases h;refine aN hJ (ah hJ ?_);refine ay hJ fun a7=>?_;apply aE hJ _;refine aW hJ (ah hJ ?_);refine ay hJ fun a8=>?_;apply aE hJ _;refine cW hJ ?_;apply ah hJ;refine fM [0,6,7,11] fun a9 K L M=>?_;simp only[*,go_sem] at K L M;clear k hd l k1 m;refine ay hJ fun ba=>?_;apply aE hJ _;refine bX ?_;exact ⟨_,b,Le.sub (.cons _ (List.Sublist.refl _))⟩
end Go.Proofs.YtbpddfapodiemaaGreatDoor
end
section
namespace Go.Sep
open Go Go.Conc
variable {P:Program}{main:Bool}{J:Goroutine->af->Prop}{Q:Ex->Act->af->Prop}{a:Act}{F:af}
def Qn (E:Act->af->Prop)(Q:Ex->Act->af->Prop):Ex->Act->af->Prop
 | .normal,a,F=>∃F0,Le F0 F/\E a F0
 | .exit i,a,F=>Q (.exit i) a F
 | .ret,a,F=>Q .ret a F
theorem Iu (E:Act->af->Prop)(Q:Ex->Act->af->Prop)(i:Nat)(a:Act)(F:af):Qn E Q (.exit i) a F=Q (.exit i) a F:=Eq.trans rfl rfl
theorem Iv (E:Act->af->Prop)(Q:Ex->Act->af->Prop)(a:Act)(F:af):Qn E Q .ret a F=Q .ret a F:=Eq.trans rfl rfl
attribute [go_sem] Iu Iv
theorem Qn.intro {E:Act->af->Prop}(h:∃F0,Le F0 F/\E a F0):Qn E Q .normal a F:=h
theorem g7 (hJ:Closed P main J){x y:Code}(E:Act->af->Prop)(c:Wp J x (Qn E Q) a F)(d:∀a F,E a F->Wp J y Q a F):Wp J (.seq x y) Q a F:=
 ah hJ (c.mono fun e a F b=>by
  cases e with
  |normal=>obtain ⟨F0,hle,f⟩:=b;exact cB hJ hle (d a F0 f)
  |exit i=>exact b
  |ret=>exact b)
theorem aZ.dr {ro:Addr->Option Value}{e:TypeId}{b n cap:Nat}{l:List Int}{arr:Array Value}(h:aZ rI ro e (.slice (some ⟨b,0,none⟩) n cap) l [(b,.cells arr e)]){i x:Int}(q:bu l i=some x):
  0<=i/\i<((n:Nat):Int)/\arr[i.toNat]?=some (.int .i64 x)/\i.toNat<arr.size:=by
 obtain ⟨a,f,c⟩:=ck q
 have g:=h.count
 obtain ⟨cs,d,hm⟩:=h.jJ c
 obtain rfl:cs=[.int .i64 x]:=d
 have m:=hm 0 _ rfl
 have m:arr[i.toNat*1+0]?=some (.int .i64 x):=m
 rw[Nat.mul_one,Nat.add_zero] at m
 exact ⟨a,aa,m,(Array.getElem?_eq_some_iff.1 m).1⟩
theorem aZ.gP {ro:Addr->Option Value}{e:TypeId}{b n cap:Nat}{l:List Int}{arr:Array Value}(h:aZ rI ro e (.slice (some ⟨b,0,none⟩) n cap) l [(b,.cells arr e)]){i:Int}(a:0<=i)(c:i<((n:Nat):Int))(y:Int):
  aZ rI ro e (.slice (some ⟨b,0,none⟩) n cap) (l.set i.toNat y) [(b,.cells (c9 arr i.toNat [.int .i64 y]) e)]:=by
 have d:=h.count
 have:=h.tu (i:=i.toNat) (y:=y) aa (cs:=[.int .i64 y]) rfl
 rwa [show i.toNat*rI.n=i.toNat from Nat.mul_one _] at this
end Go.Sep
end
section
namespace Go.Proofs.YtbpddfapodiemaaGreatDoor
open Go Go.Sep Go.Proofs
set_option maxRecDepth 100000
set_option maxHeartbeats 4000000
def mg (m:Nat):Nat:=if m=0 then 0 else m.log2+1
def uA (n:Int):Option Int:=if 0<=n/\n<256 then some ((mg n.toNat:Nat):Int) else none
theorem Iw:∀m:Fin 256,mg m.val<=8:=by decide+kernel
theorem Ix {ro:Addr->Option Value}(n:Int)(c:0<=n)(d:n<256):aI Tryz.prog 201 #[.int .u64 n] ⟨ro,[]⟩ (fun v _=>v= .int .i64 ((mg n.toNat:Nat):Int)):=by
 refine aI.go Tryz.func201 rfl Tryz.ntmps201 Tryz.results201 av fun main J hJ A e hd hs=>?_;have f:=hs 0;clear hs;have a1:¬(4294967296:Int)<=n:=aa;have a2:¬(65536:Int)<=n:=aa;have a3:¬(256:Int)<=n:=aa;have g:Tryz.prog.underlying 182=some (.int .u64):=aj;have h:Tryz.prog.underlying 5=some (.int .u8):=aj;have i:Tryz.prog.underlying 3=some (.int .i64):=aj;have j:Tryz.prog.underlying 9=some .string:=aj;have a4:IntKind.u8.wrap n=n:=IntWalk.u8_in n ⟨c,aa⟩;repeat refine ah hJ ?_
 refine aQ hJ ?_;apply ag _;repeat refine ah hJ ?_
 refine aQ hJ ?_;apply ag _;repeat refine ah hJ ?_
 refine ew hJ (by simp only[*,go_sem,ge_iff_le]) ?_;refine aN hJ ?_;repeat refine ah hJ ?_
 refine aQ hJ ?_;apply ag _;repeat refine ah hJ ?_
 refine ew hJ (by simp only[*,go_sem,ge_iff_le]) ?_;refine aN hJ ?_;repeat refine ah hJ ?_
 refine aQ hJ ?_;apply ag _;repeat refine ah hJ ?_
 refine ew hJ (by simp only[*,go_sem,ge_iff_le]) ?_;refine aN hJ ?_;repeat refine ah hJ ?_
 refine aQ hJ ?_;apply ag _;generalize a:ByteArray.mk _=S;have key:∀m:Fin 256,S[m.val]?=some (UInt8.ofNat (mg m.val)):=by rw[<-a];decide+kernel
 clear a;have b:n.toNat<256:=aa;have hb:=key ⟨n.toNat,b⟩;have hle:=Iw ⟨n.toNat,b⟩;simp only at hb hle;simp only[hb,Option.map_some];refine aT ?_;apply ag _;have e1:(UInt8.ofNat (mg n.toNat)).toNat=mg n.toNat:=by rw[UInt8.toNat_ofNat'];omega
 rw[e1,IntWalk.i64_in (mg n.toNat:Int) ⟨aa,aa⟩,Int.zero_add,IntWalk.i64_in (mg n.toNat:Int) ⟨aa,aa⟩]
theorem B6 {ro:Addr->Option Value}(n:Int){r:Int}(h:uA n=some r):aI Tryz.prog 177 #[.int .u64 n] ⟨ro,[]⟩ (fun v _=>v= .int .i64 r):=by
 unfold uA at h;split at h
 case isFalse=>cases h
 rename_i a;obtain ⟨b,c⟩:=a;cases h;refine aI.go Tryz.func177 rfl Tryz.ntmps177 Tryz.results177 av fun main J hJ A d hd hs=>?_;have e:=hs 0;clear hs;repeat refine ah hJ ?_
 refine aQ hJ ?_;apply ag _;repeat refine ah hJ ?_
 refine ew hJ aL ?_;refine aN hJ ?_;repeat refine ah hJ ?_
 refine aQ hJ ?_;apply ag _;refine bn hJ _ (Ix n b c) (aP ?_);apply ag _;refine aT ?_;simp only[*,go_sem]
theorem Iy:Tryz.prog.underlying 3=some (.int .i64):=aj
attribute [go_sem] Iy
theorem Iz:Tryz.prog.underlying 182=some (.int .u64):=aj
attribute [go_sem] Iz
theorem IA:Tryz.prog.underlying 209=some (.int .u64):=aj
attribute [go_sem] IA
theorem IB:Tryz.prog.underlying 250=some (.int .u64):=aj
attribute [go_sem] IB
def xJ (u0:Int):Option (Int×Int):=
 ai (qT u0 13) fun a=>ai (wO (iK u0 a) 7) fun b=>ai (qT (iK (iK u0 a) b) 17) fun c=>some ((iK (iK (iK u0 a) b) c),(iK (iK (iK u0 a) b) c))
theorem IC {ro:Addr->Option Value}(u0:Int){a:Nat}(r1:∀off sp,ro ⟨a,off,sp⟩=none){r:(Int×Int)}(h:xJ u0=some r):aI Tryz.prog 211 #[.pointer (some ⟨a,0,none⟩)] ⟨ro,[(a,.cells #[.int .u64 u0] 250)]⟩ (fun v G=>∃b,(v= .int .u64 r.1/\b=[(a,.cells #[.int .u64 r.2] 250)])/\Le ⟨ro,b⟩ G):=by
 unfold xJ at h;refine aI.go Tryz.func211 rfl Tryz.ntmps211 Tryz.results211 av fun main J hJ A g hd hs=>?_;have i:=hs 0;clear hs;apply aB hJ _;apply ah hJ;refine fC hJ mixed [9] (.pure 0 (.pure 1 (.rd 2 (.pure 3 (.pure 4 (.rd 5 (.pure 6 (.pure 7 (.pure 8 (.last 9 .done)))))))))) ⟨ro,[(a,.cells #[.int .u64 u0] 250)]⟩ aL aj ?_;revert h;refine bS fun c d h=>?_;obtain ⟨q,j⟩:=wN d;clear d;try simp only[go_sem] at j
 apply ag _;apply ah hJ;refine fC hJ mixed [9] (.pure 0 (.pure 1 (.rd 2 (.pure 3 (.pure 4 (.rd 5 (.pure 6 (.pure 7 (.pure 8 (.last 9 .done)))))))))) ⟨ro,[(a,.cells #[.int .u64 (iK u0 c)] 250)]⟩ aL aj ?_;revert h;refine bS fun k e h=>?_;obtain ⟨s,l⟩:=Gh e;clear e;try simp only[go_sem] at l
 apply ag _;apply ah hJ;refine fC hJ mixed [9] (.pure 0 (.pure 1 (.rd 2 (.pure 3 (.pure 4 (.rd 5 (.pure 6 (.pure 7 (.pure 8 (.last 9 .done)))))))))) ⟨ro,[(a,.cells #[.int .u64 (iK (iK u0 c) k)] 250)]⟩ aL aj ?_;revert h;refine bS fun t f h=>?_;cases h;obtain ⟨u,m⟩:=wN f;clear f;try simp only[go_sem] at m
 apply ag _;apply ah hJ;refine fM [0,2] fun w n o p=>?_;simp only[*,go_sem] at n o p;clear g hd i;apply aE hJ _;refine bX ?_;exact ⟨_,rfl,Le.sub (List.Sublist.refl _)⟩
def xK (u0:Int):Option Int:=
 ai (uA (IntKind.u64.wrap u0)) fun a=>ai (qT 1 a) fun b=>some b
theorem ID {ro:Addr->Option Value}(u0:Int){r:Int}(h:xK u0=some r):aI Tryz.prog 210 #[.int .i64 u0] ⟨ro,[]⟩ (fun v _=>v= .int .u64 r):=by
 unfold xK at h;refine aI.go Tryz.func210 rfl Tryz.ntmps210 Tryz.results210 av fun main J hJ A d hd hs=>?_;have e:=hs 0;clear hs;apply aB hJ _;apply aF hJ;revert h;refine bS fun f b h=>?_;apply ag _;refine bn hJ _ (B6 (IntKind.u64.wrap u0) b) (aP ?_);revert h;refine bS fun g a h=>?_;cases h;obtain ⟨i,c⟩:=wN a;clear a;try simp only[go_sem] at c
 apply ag _;apply aT;simp only[*,go_sem]
def xL (a:Int)(e:Int)(c:Int)(h:Int)(st:(Int×(List Int)×Int)):Option (Fl (Int×(List Int)×Int) (Unit×(List Int))):=
 cond (decide (st.1<=(IntKind.i64.wrap ((IntKind.i64.wrap (a+(IntKind.i64.wrap (h*2))))+1)))) (ai (ai (xJ st.2.2) fun b=>ai (cond (decide ((IntKind.i64.wrap (e - a))<=(IntKind.i64.wrap (jb b.1 (IntKind.u64.wrap (c - 1)))))) (some (.bk (IntKind.i64.wrap ((IntKind.i64.wrap (jb b.1 (IntKind.u64.wrap (c - 1)))) - (IntKind.i64.wrap (e - a)))))) (some (.bk (IntKind.i64.wrap (jb b.1 (IntKind.u64.wrap (c - 1)))))):Option (Fl Int (Unit×(List Int)))) fun o=>aG o (fun d=>ai (bu st.2.1 (IntKind.i64.wrap (a+d))) fun f=>ai (bu st.2.1 st.1) fun i=>ai (bu (st.2.1.set (st.1).toNat f) (IntKind.i64.wrap (a+d))) fun j=>some (.bk (((st.2.1.set (st.1).toNat f).set (IntKind.i64.wrap (a+d)).toNat i),b.2))) (fun _ _=>none) (fun r=>some (.rt r)):Option (Fl ((List Int)×Int) (Unit×(List Int)))) fun o=>aG o (fun g=>some (.nx ((IntKind.i64.wrap (st.1+1)),g.1,g.2))) (fun _ _=>none) (fun r=>some (.rt r))) (some (.bk (st.1,st.2.1,st.2.2)))
def xM (u0:(List Int))(a:Int)(b:Int):Option (Unit×(List Int)):=
 cond (List.isEmpty u0) none (cond (decide (8<=(IntKind.i64.wrap (b - a)))) (ai (xK (IntKind.i64.wrap (b - a))) fun d=>ai (gy (IntKind.i64.wrap (b - a)) 4) fun c=>ai (aS (xL a b d c) fu ((IntKind.i64.wrap ((IntKind.i64.wrap (a+(IntKind.i64.wrap (c*2)))) - 1)),u0,(IntKind.u64.wrap (IntKind.i64.wrap (b - a))))) fun o=>aG o (fun e=>some ((),e.2.1)) (fun _ _=>none) (fun r=>some r)) (some ((),u0)))
theorem IE {ro:Addr->Option Value}(u0:(List Int)){x:Value}{H:List (Nat×Obj)}(l:aZ rI ro 3 x u0 H)(b:Int)(d:Int){r:(Unit×(List Int))}(h:xM u0 b d=some r):aI Tryz.prog 193 #[x,.int .i64 b,.int .i64 d] ⟨ro,H⟩ (fun v G=>∃n,(v= .tuple #[]/\aZ rI ro 3 x r.2 n)/\Le ⟨ro,n⟩ G):=by
 obtain ⟨d1,c2,rfl,bm⟩:=l.len;unfold xM at h;revert h;refine cS (fun I h=>?_) fun I h=>?_
 .cases h
 obtain ⟨c,T,rfl,rfl,bo⟩:=l.jg I;refine aI.go Tryz.func193 rfl Tryz.ntmps193 Tryz.results193 av fun main J hJ A U hd hs=>?_;have V:=hs 0;have k1:=hs 1;have W:=hs 2;clear hs;apply ah hJ;refine ay hJ fun br=>?_;apply aE hJ _;apply ah hJ;refine ay hJ fun bs=>?_;apply aE hJ _;revert h;refine aV hJ (fun X h=>?_) fun X h=>?_
 .apply ah hJ;refine ay hJ fun Y=>?_;apply aE hJ _;refine aA fun g Z K=>?_;have bz:=bg.cons K Y;try simp only[ax] at K
  apply ah hJ;refine ay hJ fun b0=>?_;apply aQ hJ;revert h;refine bS fun j ab h=>?_;apply ag _;refine bn hJ _ (ID (IntKind.i64.wrap (d - b)) ab) (aP ?_);apply ag _;apply ah hJ;refine ay hJ fun b1=>?_;apply aQ hJ;revert h;refine bS fun L M h=>?_;obtain ⟨b2,b3⟩:=k3 M;clear M;apply ag _;apply aW hJ;revert h;refine bS fun ad o ae=>?_;refine bW hJ (rg 26 39 [9,10]) (fun m a F'=>∃(e:Array Value) (f:Int) (p:(List Int)) (q:Int),aS (xL b d j L) m (f,p,q)=some ad/\F'=⟨ro,(g,.cells #[.int .u64 q] 250)::[(c,Obj.cells e 3)]⟩/\aZ rI ro 3 (.slice (some ⟨c,0,none⟩) u0.length c2) p [(c,Obj.cells e 3)]/\slot a 9= .int .i64 f) fu ?_ ?_
  .refine ⟨T,(IntKind.i64.wrap ((IntKind.i64.wrap (b+(IntKind.i64.wrap (L*2)))) - 1)),u0,(IntKind.u64.wrap (IntKind.i64.wrap (d - b))),o,rfl,l,?_⟩;simp only[*,go_sem]
  rintro y N F' O ⟨e,f,p,q,o,rfl,s,P⟩;obtain ⟨z,B,C⟩:=O.pick [0,1,6,7,8] aD;simp only[*,go_sem] at z B C;clear O U hd V k1 W;obtain _|y:=y
  .exact absurd o (by simp only[aS,reduceCtorEq,not_false_eq_true])
  revert o;refine bS fun b4 h D=>?_;unfold xL at h;try dsimp only at h
  refine ah hJ (ah hJ ?_);refine ay hJ fun b5=>?_;apply aE hJ _;revert h;refine aV hJ (fun al h=>?_) fun al h=>?_
  .apply aN hJ;revert h;refine bS fun ao h ar=>?_;refine g7 hJ (fun a F'=>∃(t:Array Value) (u:(List Int)) (w:Int),some (Fl.bk (u,w):Fl ((List Int)×Int) (Unit×(List Int)))=some ao/\F'=⟨ro,(g,.cells #[.int .u64 w] 250)::[(c,Obj.cells t 3)]⟩/\aZ rI ro 3 (.slice (some ⟨c,0,none⟩) u0.length c2) u [(c,Obj.cells t 3)]/\sz a=65/\a.defers=[]/\cF (rg 26 39 [9,10]) a N/\slot a 0= .slice (some ⟨c,0,none⟩) u0.length c2/\slot a 1= .int .i64 b/\slot a 6= .int .i64 (IntKind.i64.wrap (d - b))/\slot a 7= .pointer (some ⟨g,0,none⟩)/\slot a 8= .int .u64 j/\slot a 9= .int .i64 f) ?_ ?_
   .refine aW hJ (ah hJ ?_);refine ay hJ fun ca=>?_;apply aQ hJ;revert h;refine bS fun i a0 h=>?_;apply ag _;refine ey hJ [] ([(c,Obj.cells e 3)]) _ (IC q Z a0) (fun cb cd a2 n a3 cf=>?_);obtain ⟨rfl,rfl⟩:=a2;simp only[aY] at a3;subst n;refine ⟨⟨ro,(g,.cells #[.int .u64 i.2] 250)::[(c,Obj.cells e 3)]⟩,Le.refl _,?_⟩;apply aP;apply ag _;revert h;refine bS fun a4 h a5=>?_;refine g7 hJ (fun a F'=>∃(k:Int),some (Fl.bk k:Fl Int (Unit×(List Int)))=some a4/\F'=⟨ro,(g,.cells #[.int .u64 i.2] 250)::[(c,Obj.cells e 3)]⟩/\sz a=65/\a.defers=[]/\cF (rg 26 39 [9,10]) a N/\slot a 0= .slice (some ⟨c,0,none⟩) u0.length c2/\slot a 1= .int .i64 b/\slot a 6= .int .i64 (IntKind.i64.wrap (d - b))/\slot a 7= .pointer (some ⟨g,0,none⟩)/\slot a 8= .int .u64 j/\slot a 9= .int .i64 f/\slot a 10= .int .i64 k) ?_ ?_
    .apply ah hJ;refine ay hJ fun cl=>?_;apply aE hJ _;revert h;refine aV hJ (fun a6 h=>?_) fun a6 h=>?_
     .refine ay hJ fun cy=>?_;apply aE hJ _;refine Qn.intro ⟨_,Le.sub (List.Sublist.refl _),(IntKind.i64.wrap ((IntKind.i64.wrap (jb i.1 (IntKind.u64.wrap (j - 1)))) - (IntKind.i64.wrap (d - b)))),h,rfl,?_⟩;simp only[*,go_sem]
     apply oH hJ _;refine Qn.intro ⟨_,Le.sub (List.Sublist.refl _),(IntKind.i64.wrap (jb i.1 (IntKind.u64.wrap (j - 1)))),h,rfl,?_⟩;simp only[*,go_sem]
    rintro c0 F' ⟨k,Q,rfl,da,db,dd,df,dk,dp,dq,ds,dt,du⟩;obtain rfl:=sI Q;clear Q;have h:=a5;dsimp only[aG] at h;clear z B C P;refine ay hJ fun dv=>?_;refine fC hJ mixed [17,18,19] (.pure 0 (.pure 1 (.pure 2 (.pure 3 (.pure 4 (.pure 5 (.pure 6 (.pure 7 (.pure 8 (.pure 9 (.pure 10 (.rd 11 (.pure 12 (.pure 13 (.pure 14 (.rd 15 (.pure 16 (.last 17 (.pure 18 (.last 19 .done)))))))))))))))))))) ⟨ro,[(g,.cells #[.int .u64 i.2] 250),(c,Obj.cells e 3)]⟩ aL aj ?_;revert h;refine bS fun E a7 h=>?_;obtain ⟨dC,dE,dT,ea⟩:=s.dr a7;revert h;refine bS fun F a8 h=>?_;obtain ⟨a9,ba,eb,ec⟩:=s.dr a8;have R:=s.gP a9 ba E;revert h;refine bS fun ed bb h=>?_;obtain ⟨bc,bd,eh,et⟩:=R.dr bb;have bj:=R.gP bc bd F;apply ag _;refine Qn.intro ⟨_,Le.sub (List.Sublist.refl _),(c9 (c9 e (f).toNat [.int .i64 E]) (IntKind.i64.wrap (b+k)).toNat [.int .i64 F]),((p.set (f).toNat E).set (IntKind.i64.wrap (b+k)).toNat F),i.2,h,rfl,bj,?_⟩;simp only[*,go_sem]
   rintro ev F' ⟨t,u,w,S,rfl,bl,eQ,eS,eV,e0,e1,e2,e3,fa,fb⟩;obtain rfl:=sI S;clear S;have h:=ar;dsimp only[aG] at h;cases h;clear z B C P;refine ay hJ fun fg=>?_;apply aE hJ _;refine ⟨y,Nat.lt_succ_self _,_,Le.sub (List.Sublist.refl _),t,(IntKind.i64.wrap (f+1)),u,w,D,rfl,bl,?_⟩;simp only[*,go_sem]
  cases h;apply bP;simp only[go_sem];obtain rfl:=sI D;clear D;have h:=ae;dsimp only[aG] at h;cases h;apply ag _;exact ⟨_,s,Le.sub (.cons _ (List.Sublist.refl _))⟩
 cases h;apply oH hJ _;exact ⟨_,l,Le.sub (List.Sublist.refl _)⟩
def xN (u0:(List Int))(a:Int)(e:Int)(b:Int)(c:Int)(d:Int)(st:Int):Option (Fl Int ((Int×Bool)×(List Int))):=
 cond (decide (st<=(IntKind.i64.wrap (e - 1)))) (ai (bu ((u0.set (a).toNat c).set (b).toNat d) st) fun f=>ai (bu ((u0.set (a).toNat c).set (b).toNat d) a) fun g=>ai (ji f g) fun h=>cond (h) (some (.nx (IntKind.i64.wrap (st+1)))) (some (.bk st))) (some (.bk st))
def xO (u0:(List Int))(a:Int)(b:Int)(c:Int)(d:Int)(e:Int)(st:Int):Option (Fl Int ((Int×Bool)×(List Int))):=
 cond (decide (e<=st)) (ai (bu ((u0.set (a).toNat c).set (b).toNat d) st) fun f=>ai (bu ((u0.set (a).toNat c).set (b).toNat d) a) fun g=>ai (ji f g) fun h=>cond (!h) (some (.nx (IntKind.i64.wrap (st - 1)))) (some (.bk st))) (some (.bk st))
def xP (b:Int)(c:Int)(a:(List Int))(st:Int):Option (Fl Int ((Int×Bool)×(List Int))):=
 cond (decide (st<=c)) (ai (bu a st) fun d=>ai (bu a b) fun e=>ai (ji d e) fun f=>cond (f) (some (.nx (IntKind.i64.wrap (st+1)))) (some (.bk st))) (some (.bk st))
def xQ (b:Int)(a:(List Int))(c:Int)(st:Int):Option (Fl Int ((Int×Bool)×(List Int))):=
 cond (decide (c<=st)) (ai (bu a st) fun d=>ai (bu a b) fun e=>ai (ji d e) fun f=>cond (!f) (some (.nx (IntKind.i64.wrap (st - 1)))) (some (.bk st))) (some (.bk st))
def xR (c:Int)(st:(Int×Int×(List Int))):Option (Fl (Int×Int×(List Int)) ((Int×Bool)×(List Int))):=
 ai (ai (aS (xP c st.2.1 st.2.2) fu st.1) fun o=>aG o (fun e=>some (.bk e)) (fun _ _=>none) (fun r=>some (.rt r)):Option (Fl Int ((Int×Bool)×(List Int)))) fun o=>aG o (fun a=>ai (ai (aS (xQ c st.2.2 a) fu st.2.1) fun o=>aG o (fun f=>some (.bk f)) (fun _ _=>none) (fun r=>some (.rt r)):Option (Fl Int ((Int×Bool)×(List Int)))) fun o=>aG o (fun b=>cond (decide (b<a)) (some (.bk (a,b,st.2.2))) (ai (bu st.2.2 b) fun d=>ai (bu st.2.2 a) fun g=>ai (bu (st.2.2.set (a).toNat d) b) fun h=>some (.nx ((IntKind.i64.wrap (a+1)),(IntKind.i64.wrap (b - 1)),((st.2.2.set (a).toNat d).set (b).toNat g))))) (fun _ _=>none) (fun r=>some (.rt r))) (fun _ _=>none) (fun r=>some (.rt r))
def xS (u0:(List Int))(a:Int)(h:Int)(b:Int):Option ((Int×Bool)×(List Int)):=
 cond (List.isEmpty u0) none (ai (bu u0 b) fun c=>ai (bu u0 a) fun d=>ai (bu (u0.set (a).toNat c) b) fun t=>ai (ai (aS (xN u0 a h b c d) fu (IntKind.i64.wrap (a+1))) fun o=>aG o (fun m=>some (.bk m)) (fun _ _=>none) (fun r=>some (.rt r)):Option (Fl Int ((Int×Bool)×(List Int)))) fun o=>aG o (fun g=>ai (ai (aS (xO u0 a b c d g) fu (IntKind.i64.wrap (h - 1))) fun o=>aG o (fun n=>some (.bk n)) (fun _ _=>none) (fun r=>some (.rt r)):Option (Fl Int ((Int×Bool)×(List Int)))) fun o=>aG o (fun e=>cond (decide (e<g)) (ai (bu ((u0.set (a).toNat c).set (b).toNat d) a) fun i=>ai (bu ((u0.set (a).toNat c).set (b).toNat d) e) fun p=>ai (bu (((u0.set (a).toNat c).set (b).toNat d).set (e).toNat i) a) fun u=>some ((e,true),((((u0.set (a).toNat c).set (b).toNat d).set (e).toNat i).set (a).toNat p))) (ai (bu ((u0.set (a).toNat c).set (b).toNat d) e) fun j=>ai (bu ((u0.set (a).toNat c).set (b).toNat d) g) fun q=>ai (bu (((u0.set (a).toNat c).set (b).toNat d).set (g).toNat j) e) fun v=>ai (ai (aS (xR a) fu ((IntKind.i64.wrap (g+1)),(IntKind.i64.wrap (e - 1)),((((u0.set (a).toNat c).set (b).toNat d).set (g).toNat j).set (e).toNat q))) fun o=>aG o (fun k=>some (.bk (k.2.1,k.2.2))) (fun _ _=>none) (fun r=>some (.rt r)):Option (Fl (Int×(List Int)) ((Int×Bool)×(List Int)))) fun o=>aG o (fun f=>ai (bu f.2 a) fun l=>ai (bu f.2 f.1) fun s=>ai (bu (f.2.set (f.1).toNat l) a) fun w=>some ((f.1,false),((f.2.set (f.1).toNat l).set (a).toNat s))) (fun _ _=>none) (fun r=>some r))) (fun _ _=>none) (fun r=>some r)) (fun _ _=>none) (fun r=>some r))
theorem IF {ro:Addr->Option Value}(u0:(List Int)){S:Value}{bb:List (Nat×Obj)}(x:aZ rI ro 3 S u0 bb)(c:Int)(y:Int)(p:Int){r:((Int×Bool)×(List Int))}(h:xS u0 c y p=some r):aI Tryz.prog 199 #[S,.int .i64 c,.int .i64 y,.int .i64 p] ⟨ro,bb⟩ (fun v G=>∃bc,(v= .tuple #[.int .i64 r.1.1,.bool r.1.2]/\aZ rI ro 3 S r.2 bc)/\Le ⟨ro,bc⟩ G):=by
 obtain ⟨d1,c2,rfl,lo⟩:=x.len;unfold xS at h;revert h;refine cS (fun bd h=>?_) fun bd h=>?_
 .cases h
 obtain ⟨b,bj,rfl,rfl,lr⟩:=x.jg bd;refine aI.go Tryz.func199 rfl Tryz.ntmps199 Tryz.results199 av fun main J hJ A bl hd hs=>?_;have bm:=hs 0;have k1:=hs 1;have bo:=hs 2;have br:=hs 3;clear hs;apply ah hJ;refine ay hJ fun lv=>?_;apply aE hJ _;apply ah hJ;refine ay hJ fun lx=>?_;refine fC hJ mixed [13,14,15] (.pure 0 (.pure 1 (.pure 2 (.pure 3 (.pure 4 (.pure 5 (.pure 6 (.rd 7 (.pure 8 (.pure 9 (.pure 10 (.rd 11 (.pure 12 (.last 13 (.pure 14 (.last 15 .done)))))))))))))))) ⟨ro,[(b,Obj.cells bj 3)]⟩ aL aj ?_;revert h;refine bS fun z fx h=>?_;obtain ⟨ly,lL,l1,l2⟩:=x.dr fx;revert h;refine bS fun B fz h=>?_;obtain ⟨gg,gl,l3,l4⟩:=x.dr fz;have bs:=x.gP gg gl z;revert h;refine bS fun ma gn h=>?_;obtain ⟨gp,gB,mf,mi⟩:=bs.dr gn;have d:=bs.gP gp gB B;apply ag _;apply ah hJ;obtain ⟨f,T⟩:∃o,o=(c9 (c9 bj (c).toNat [.int .i64 z]) (p).toNat [.int .i64 B]):=⟨_,rfl⟩
 refine cB (F:=⟨ro,[(b,Obj.cells f 3)]⟩) hJ (by rw[T];exact Le.refl _) ?_;rw[<-T] at d;clear T;refine ay hJ fun ml=>?_;apply aE hJ _;revert h;refine bS fun gC h gM=>?_;refine g7 hJ (fun a F'=>∃(g:Int),some (Fl.bk g:Fl Int ((Int×Bool)×(List Int)))=some gC/\F'=⟨ro,[(b,Obj.cells f 3)]⟩/\sz a=168/\a.defers=[]/\slot a 0= .slice (some ⟨b,0,none⟩) u0.length c2/\slot a 1= .int .i64 c/\slot a 8= .int .i64 0/\slot a 9= .bool false/\slot a 10= .int .i64 g/\slot a 11= .int .i64 (IntKind.i64.wrap (y - 1))) ?_ ?_
 .apply aW hJ;revert h;refine bS fun gN K bz=>?_;refine bW hJ (rg 30 16 [10]) (fun m a F'=>∃(q:Int),aS (xN u0 c y p z B) m q=some gN/\F'=⟨ro,[(b,Obj.cells f 3)]⟩/\slot a 10= .int .i64 q) fu ?_ ?_
  .refine ⟨(IntKind.i64.wrap (c+1)),K,rfl,?_⟩;simp only[*,go_sem]
  rintro U mn F' b0 ⟨q,K,rfl,mr⟩;obtain ⟨gT,gV,g0⟩:=b0.pick [0,1,8,9,11] aD;simp only[*,go_sem] at gT gV g0;clear b0 bl hd bm k1 bo br;obtain _|U:=U
  .exact absurd K (by simp only[aS,reduceCtorEq,not_false_eq_true])
  revert K;refine bS fun mx h C=>?_;unfold xN at h;try dsimp only at h
  refine ah hJ (ah hJ ?_);refine ay hJ fun my=>?_;refine c5 hJ mixed 14 1 aL aj ?_;revert h;refine cS (fun g1 h=>?_) fun g1 h=>?_
  .revert h;refine bS fun g2 g3 h=>?_;obtain ⟨m1,m2,na,nb⟩:=d.dr g3;revert h;refine bS fun g4 ha h=>?_;obtain ⟨nd,nf,nm,nn⟩:=d.dr ha;revert h;refine bS fun np hc h=>?_;apply ag _;refine ⟨_,bL hJ fun F V=>kB g2 g4 hc,cw ?_⟩;apply ag _;revert h;refine aV hJ (fun hf h=>?_) fun hf h=>?_
   .cases h;refine aN hJ (aW hJ ?_);refine ay hJ fun ns=>?_;apply aE hJ _;refine ⟨U,Nat.lt_succ_self _,_,Le.sub (List.Sublist.refl _),(IntKind.i64.wrap (q+1)),C,rfl,?_⟩;simp only[*,go_sem]
   cases h;apply bP;simp only[go_sem];obtain rfl:=sI C;clear C;have h:=bz;dsimp only[aG] at h;apply ag _;refine Qn.intro ⟨_,Le.sub (List.Sublist.refl _),q,h,rfl,?_⟩;simp only[*,go_sem]
  cases h;apply ag _;refine cJ hJ ?_;apply bP;simp only[go_sem];obtain rfl:=sI C;clear C;have h:=bz;dsimp only[aG] at h;refine Qn.intro ⟨_,Le.sub (List.Sublist.refl _),q,h,rfl,?_⟩;simp only[*,go_sem]
 rintro nx F' ⟨g,b1,rfl,b2,b3,b4,b5,ca,cb,cd,cf⟩;obtain rfl:=sI b1;clear b1;have h:=gM;dsimp only[aG] at h;clear bl hd bm k1 bo br;revert h;refine bS fun hg h hh=>?_;refine g7 hJ (fun a F'=>∃(k:Int),some (Fl.bk k:Fl Int ((Int×Bool)×(List Int)))=some hg/\F'=⟨ro,[(b,Obj.cells f 3)]⟩/\sz a=168/\a.defers=[]/\slot a 0= .slice (some ⟨b,0,none⟩) u0.length c2/\slot a 1= .int .i64 c/\slot a 8= .int .i64 0/\slot a 9= .bool false/\slot a 10= .int .i64 g/\slot a 11= .int .i64 k) ?_ ?_
 .apply aW hJ;revert h;refine bS fun hi L cl=>?_;refine bW hJ (rg 46 17 [11]) (fun m a F'=>∃(s:Int),aS (xO u0 c p z B g) m s=some hi/\F'=⟨ro,[(b,Obj.cells f 3)]⟩/\slot a 11= .int .i64 s) fu ?_ ?_
  .refine ⟨(IntKind.i64.wrap (y - 1)),L,rfl,?_⟩;simp only[*,go_sem]
  rintro W nz F' cy ⟨s,L,rfl,nA⟩;obtain ⟨hj,hk,hl⟩:=cy.pick [0,1,8,9,10] aD;simp only[*,go_sem] at hj hk hl;clear cy b2 b3 b4 b5 ca cb cd cf;obtain _|W:=W
  .exact absurd L (by simp only[aS,reduceCtorEq,not_false_eq_true])
  revert L;refine bS fun nH h D=>?_;unfold xO at h;try dsimp only at h
  refine ah hJ (ah hJ ?_);refine ay hJ fun nI=>?_;refine c5 hJ mixed 15 1 aL aj ?_;revert h;refine cS (fun hn h=>?_) fun hn h=>?_
  .revert h;refine bS fun ho hp h=>?_;obtain ⟨nK,nQ,nR,nT⟩:=d.dr hp;revert h;refine bS fun hq hr h=>?_;obtain ⟨nV,nX,nY,n0⟩:=d.dr hr;revert h;refine bS fun n1 ht h=>?_;apply ag _;refine ⟨_,bL hJ fun F V=>kB ho hq ht,cw ?_⟩;apply ag _;revert h;refine aV hJ (fun hv h=>?_) fun hv h=>?_
   .cases h;refine aN hJ (aW hJ ?_);refine ay hJ fun n2=>?_;apply aE hJ _;refine ⟨W,Nat.lt_succ_self _,_,Le.sub (List.Sublist.refl _),(IntKind.i64.wrap (s - 1)),D,rfl,?_⟩;simp only[*,go_sem]
   cases h;apply bP;simp only[go_sem];obtain rfl:=sI D;clear D;have h:=cl;dsimp only[aG] at h;apply ag _;refine Qn.intro ⟨_,Le.sub (List.Sublist.refl _),s,h,rfl,?_⟩;simp only[*,go_sem]
  cases h;apply ag _;refine cJ hJ ?_;apply bP;simp only[go_sem];obtain rfl:=sI D;clear D;have h:=cl;dsimp only[aG] at h;refine Qn.intro ⟨_,Le.sub (List.Sublist.refl _),s,h,rfl,?_⟩;simp only[*,go_sem]
 rintro n3 F' ⟨k,c0,rfl,da,db,dd,df,dk,dp,dq,ds⟩;obtain rfl:=sI c0;clear c0;have h:=hh;dsimp only[aG] at h;clear b2 b3 b4 b5 ca cb cd cf;refine ah hJ (ah hJ ?_);refine ay hJ fun oc=>?_;apply aE hJ _;revert h;refine aV hJ (fun hx h=>?_) fun hx h=>?_
 .apply ah hJ;refine ay hJ fun oi=>?_;refine fC hJ mixed [13,14,15] (.pure 0 (.pure 1 (.pure 2 (.pure 3 (.pure 4 (.pure 5 (.pure 6 (.rd 7 (.pure 8 (.pure 9 (.pure 10 (.rd 11 (.pure 12 (.last 13 (.pure 14 (.last 15 .done)))))))))))))))) ⟨ro,[(b,Obj.cells f 3)]⟩ aL aj ?_;revert h;refine bS fun dt hy h=>?_;obtain ⟨oj,ox,oy,o0⟩:=d.dr hy;revert h;refine bS fun du hz h=>?_;obtain ⟨hA,hB,o1,o2⟩:=d.dr hz;have dv:=d.gP hA hB dt;revert h;refine bS fun o4 hD h=>?_;cases h;obtain ⟨hE,hF,pa,pb⟩:=dv.dr hD;have dC:=dv.gP hE hF du;apply ag _;apply ah hJ;obtain ⟨hG,X⟩:∃o,o=(c9 (c9 f (k).toNat [.int .i64 dt]) (c).toNat [.int .i64 du]):=⟨_,rfl⟩
  refine cB (F:=⟨ro,[(b,Obj.cells hG 3)]⟩) hJ (by rw[X];exact Le.refl _) ?_;rw[<-X] at dC;clear X;refine ay hJ fun pd=>?_;apply aE hJ _;refine bX ?_;exact ⟨_,dC,Le.sub (List.Sublist.refl _)⟩
 refine aN hJ (ah hJ ?_);refine ay hJ fun pf=>?_;refine fC hJ mixed [13,14,15] (.pure 0 (.pure 1 (.pure 2 (.pure 3 (.pure 4 (.pure 5 (.pure 6 (.rd 7 (.pure 8 (.pure 9 (.pure 10 (.rd 11 (.pure 12 (.last 13 (.pure 14 (.last 15 .done)))))))))))))))) ⟨ro,[(b,Obj.cells f 3)]⟩ aL aj ?_;revert h;refine bS fun Y hI h=>?_;obtain ⟨ph,pj,pk,po⟩:=d.dr hI;revert h;refine bS fun Z hK h=>?_;obtain ⟨hL,hM,pr,ps⟩:=d.dr hK;have dE:=d.gP hL hM Y;revert h;refine bS fun pt hN h=>?_;obtain ⟨hP,hQ,pv,pw⟩:=dE.dr hN;have dT:=dE.gP hP hQ Z;apply ag _;apply ah hJ;obtain ⟨ea,ab⟩:∃o,o=(c9 (c9 f (g).toNat [.int .i64 Y]) (k).toNat [.int .i64 Z]):=⟨_,rfl⟩
 refine cB (F:=⟨ro,[(b,Obj.cells ea 3)]⟩) hJ (by rw[ab];exact Le.refl _) ?_;rw[<-ab] at dT;clear ab;refine ay hJ fun px=>?_;apply aE hJ _;apply ah hJ;refine ay hJ fun py=>?_;apply aE hJ _;revert h;refine bS fun hR h hS=>?_;refine g7 hJ (fun a F'=>∃(E:Array Value) (M:Int) (ad:(List Int)),some (Fl.bk (M,ad):Fl (Int×(List Int)) ((Int×Bool)×(List Int)))=some hR/\F'=⟨ro,[(b,Obj.cells E 3)]⟩/\aZ rI ro 3 (.slice (some ⟨b,0,none⟩) u0.length c2) ad [(b,Obj.cells E 3)]/\sz a=168/\a.defers=[]/\slot a 0= .slice (some ⟨b,0,none⟩) u0.length c2/\slot a 1= .int .i64 c/\slot a 8= .int .i64 0/\slot a 9= .bool false/\slot a 11= .int .i64 M) ?_ ?_
 .apply aW hJ;revert h;refine bS fun hT N hV=>?_;refine bW hJ (rg 99 54 [10,11]) (fun m a F'=>∃(e:Array Value) (O:Int) (t:Int) (l:(List Int)),aS (xR c) m (O,t,l)=some hT/\F'=⟨ro,[(b,Obj.cells e 3)]⟩/\aZ rI ro 3 (.slice (some ⟨b,0,none⟩) u0.length c2) l [(b,Obj.cells e 3)]/\slot a 10= .int .i64 O/\slot a 11= .int .i64 t) fu ?_ ?_
  .refine ⟨ea,(IntKind.i64.wrap (g+1)),(IntKind.i64.wrap (k - 1)),((((u0.set (c).toNat z).set (p).toNat B).set (g).toNat Y).set (k).toNat Z),N,rfl,dT,?_⟩;simp only[*,go_sem]
  rintro ae P F' eb ⟨e,O,t,l,N,rfl,i,ec,ed⟩;obtain ⟨al,ao,ar⟩:=eb.pick [0,1,8,9] aD;simp only[*,go_sem] at al ao ar;clear eb da db dd df dk dp dq ds;obtain _|ae:=ae
  .exact absurd N (by simp only[aS,reduceCtorEq,not_false_eq_true])
  revert N;refine bS fun pA h a0=>?_;unfold xR at h;try dsimp only at h
  apply aW hJ;revert h;refine bS fun hX h hY=>?_;refine g7 hJ (fun a F'=>∃(j:Int),some (Fl.bk j:Fl Int ((Int×Bool)×(List Int)))=some hX/\F'=⟨ro,[(b,Obj.cells e 3)]⟩/\sz a=168/\a.defers=[]/\cF (rg 99 54 [10,11]) a P/\slot a 0= .slice (some ⟨b,0,none⟩) u0.length c2/\slot a 1= .int .i64 c/\slot a 8= .int .i64 0/\slot a 9= .bool false/\slot a 10= .int .i64 j/\slot a 11= .int .i64 t) ?_ ?_
  .apply aW hJ;revert h;refine bS fun hZ Q eh=>?_;refine bW hJ (rg 99 16 [10]) (fun m a F'=>∃(u:Int),aS (xP c t l) m u=some hZ/\F'=⟨ro,[(b,Obj.cells e 3)]⟩/\slot a 10= .int .i64 u) fu ?_ ?_
   .refine ⟨O,Q,rfl,?_⟩;simp only[*,go_sem]
   rintro a2 h0 F' a3 ⟨u,Q,rfl,pB⟩;obtain ⟨h1,h2,h3⟩:=a3.pick [0,1,8,9,11] aD;simp only[*,go_sem] at h1 h2 h3;have pC:cF (rg 99 54 [10,11]) h0 P:=(a3.eG aD).trans aL;clear a3 al ao ar ec ed;obtain _|a2:=a2
   .exact absurd Q (by simp only[aS,reduceCtorEq,not_false_eq_true])
   revert Q;refine bS fun pD h H=>?_;unfold xP at h;(try dsimp only at h);refine ah hJ (ah hJ ?_);refine ay hJ fun pL=>?_;refine c5 hJ mixed 14 1 aL aj ?_;revert h;refine cS (fun h4 h=>?_) fun h4 h=>?_
   .revert h;refine bS fun h5 h6 h=>?_;obtain ⟨pT,p0,p1,qe⟩:=i.dr h6;revert h;refine bS fun h7 h8 h=>?_;obtain ⟨qk,q0,q1,ra⟩:=i.dr h8;revert h;refine bS fun rb h9 h=>?_;apply ag _;refine ⟨_,bL hJ fun F V=>kB h5 h7 h9,cw ?_⟩;apply ag _;revert h;refine aV hJ (fun ib h=>?_) fun ib h=>?_
    .cases h;refine aN hJ (aW hJ ?_);refine ay hJ fun re=>?_;apply aE hJ _;refine ⟨a2,Nat.lt_succ_self _,_,Le.sub (List.Sublist.refl _),(IntKind.i64.wrap (u+1)),H,rfl,?_⟩;simp only[*,go_sem]
    cases h;apply bP;simp only[go_sem];obtain rfl:=sI H;clear H;have h:=eh;dsimp only[aG] at h;apply ag _;refine Qn.intro ⟨_,Le.sub (List.Sublist.refl _),u,h,rfl,?_⟩;simp only[*,go_sem]
   cases h;apply ag _;refine cJ hJ ?_;apply bP;simp only[go_sem];obtain rfl:=sI H;clear H;have h:=eh;dsimp only[aG] at h;refine Qn.intro ⟨_,Le.sub (List.Sublist.refl _),u,h,rfl,?_⟩;simp only[*,go_sem]
  rintro rh F' ⟨j,et,rfl,ev,eQ,rk,eS,eV,e0,e1,e2,e3⟩;obtain rfl:=sI et;clear et;have h:=hY;dsimp only[aG] at h;clear al ao ar ec ed;revert h;refine bS fun ic h ih=>?_;refine g7 hJ (fun a F'=>∃(n:Int),some (Fl.bk n:Fl Int ((Int×Bool)×(List Int)))=some ic/\F'=⟨ro,[(b,Obj.cells e 3)]⟩/\sz a=168/\a.defers=[]/\cF (rg 99 54 [10,11]) a P/\slot a 0= .slice (some ⟨b,0,none⟩) u0.length c2/\slot a 1= .int .i64 c/\slot a 8= .int .i64 0/\slot a 9= .bool false/\slot a 10= .int .i64 j/\slot a 11= .int .i64 n) ?_ ?_
  .apply aW hJ;revert h;refine bS fun ik R fa=>?_;refine bW hJ (rg 115 17 [11]) (fun m a F'=>∃(w:Int),aS (xQ c l j) m w=some ik/\F'=⟨ro,[(b,Obj.cells e 3)]⟩/\slot a 11= .int .i64 w) fu ?_ ?_
   .refine ⟨t,R,rfl,?_⟩;simp only[*,go_sem]
   rintro a4 il F' a5 ⟨w,R,rfl,rl⟩;obtain ⟨im,iv,ix⟩:=a5.pick [0,1,8,9,10] aD;simp only[*,go_sem] at im iv ix;have rn:cF (rg 99 54 [10,11]) il P:=(a5.eG aD).trans aL;clear a5 ev eQ eS eV e0 e1 e2 e3;obtain _|a4:=a4
   .exact absurd R (by simp only[aS,reduceCtorEq,not_false_eq_true])
   revert R;refine bS fun rp h I=>?_;unfold xQ at h;(try dsimp only at h);refine ah hJ (ah hJ ?_);refine ay hJ fun rr=>?_;refine c5 hJ mixed 15 1 aL aj ?_;revert h;refine cS (fun jC h=>?_) fun jC h=>?_
   .revert h;refine bS fun j1 j2 h=>?_;obtain ⟨rv,rB,rL,sa⟩:=i.dr j2;revert h;refine bS fun kh kj h=>?_;obtain ⟨sb,sc,sf,sg⟩:=i.dr kj;revert h;refine bS fun sh kk h=>?_;apply ag _;refine ⟨_,bL hJ fun F V=>kB j1 kh kk,cw ?_⟩;apply ag _;revert h;refine aV hJ (fun kl h=>?_) fun kl h=>?_
    .cases h;refine aN hJ (aW hJ ?_);refine ay hJ fun sl=>?_;apply aE hJ _;refine ⟨a4,Nat.lt_succ_self _,_,Le.sub (List.Sublist.refl _),(IntKind.i64.wrap (w - 1)),I,rfl,?_⟩;simp only[*,go_sem]
    cases h;apply bP;simp only[go_sem];obtain rfl:=sI I;clear I;have h:=fa;dsimp only[aG] at h;apply ag _;refine Qn.intro ⟨_,Le.sub (List.Sublist.refl _),w,h,rfl,?_⟩;simp only[*,go_sem]
   cases h;apply ag _;refine cJ hJ ?_;apply bP;simp only[go_sem];obtain rfl:=sI I;clear I;have h:=fa;dsimp only[aG] at h;refine Qn.intro ⟨_,Le.sub (List.Sublist.refl _),w,h,rfl,?_⟩;simp only[*,go_sem]
  rintro sm F' ⟨n,fb,rfl,ss,sy,sT,ta,tb,te,ti,tk,tl⟩;obtain rfl:=sI fb;clear fb;have h:=ih;dsimp only[aG] at h;clear ev eQ eS eV e0 e1 e2 e3;refine ah hJ (ah hJ ?_);refine ay hJ fun tm=>?_;apply aE hJ _;revert h;refine aV hJ (fun km h=>?_) fun km h=>?_
  .cases h;apply bP;simp only[go_sem];obtain rfl:=sI a0;clear a0;have h:=hV;dsimp only[aG] at h;apply ag _;refine Qn.intro ⟨_,Le.sub (List.Sublist.refl _),e,n,l,h,rfl,i,?_⟩;simp only[*,go_sem]
  refine aN hJ (ah hJ ?_);refine ay hJ fun tp=>?_;refine fC hJ mixed [13,14,15] (.pure 0 (.pure 1 (.pure 2 (.pure 3 (.pure 4 (.pure 5 (.pure 6 (.rd 7 (.pure 8 (.pure 9 (.pure 10 (.rd 11 (.pure 12 (.last 13 (.pure 14 (.last 15 .done)))))))))))))))) ⟨ro,[(b,Obj.cells e 3)]⟩ aL aj ?_;revert h;refine bS fun a6 kn h=>?_;obtain ⟨ts,tt,tx,tz⟩:=i.dr kn;revert h;refine bS fun a7 kp h=>?_;obtain ⟨ks,kt,tI,tM⟩:=i.dr kp;have fg:=i.gP ks kt a6;revert h;refine bS fun tW kv h=>?_;cases h;obtain ⟨kx,ky,ub,ui⟩:=fg.dr kv;have fi:=fg.gP kx ky a7;apply ag _;apply ah hJ;obtain ⟨fp,a8⟩:∃o,o=(c9 (c9 e (j).toNat [.int .i64 a6]) (n).toNat [.int .i64 a7]):=⟨_,rfl⟩
  refine cB (F:=⟨ro,[(b,Obj.cells fp 3)]⟩) hJ (by rw[a8];exact Le.refl _) ?_;rw[<-a8] at fi;clear a8;refine ay hJ fun u1=>?_;apply aE hJ _;refine ay hJ fun u2=>?_;apply aE hJ _;refine ⟨ae,Nat.lt_succ_self _,_,Le.sub (List.Sublist.refl _),fp,(IntKind.i64.wrap (j+1)),(IntKind.i64.wrap (n - 1)),((l.set (j).toNat a6).set (n).toNat a7),a0,rfl,fi,?_⟩;simp only[*,go_sem]
 rintro u3 F' ⟨E,M,ad,fr,rfl,a9,u4,va,vd,vs,vx,vy,v3⟩;obtain rfl:=sI fr;clear fr;have h:=hS;dsimp only[aG] at h;clear da db dd df dk dp dq ds;apply ah hJ;refine ay hJ fun wa=>?_;refine fC hJ mixed [13,14,15] (.pure 0 (.pure 1 (.pure 2 (.pure 3 (.pure 4 (.pure 5 (.pure 6 (.rd 7 (.pure 8 (.pure 9 (.pure 10 (.rd 11 (.pure 12 (.last 13 (.pure 14 (.last 15 .done)))))))))))))))) ⟨ro,[(b,Obj.cells E 3)]⟩ aL aj ?_;revert h;refine bS fun fs k0 h=>?_;obtain ⟨wb,wc,wi,wx⟩:=a9.dr k0;revert h;refine bS fun ft k2 h=>?_;obtain ⟨lb,lh,wy,w0⟩:=a9.dr k2;have fv:=a9.gP lb lh fs;revert h;refine bS fun xa lj h=>?_;cases h;obtain ⟨lk,ll,xc,xf⟩:=fv.dr lj;have fw:=fv.gP lk ll ft;apply ag _;apply ah hJ;obtain ⟨ln,ba⟩:∃o,o=(c9 (c9 E (M).toNat [.int .i64 fs]) (c).toNat [.int .i64 ft]):=⟨_,rfl⟩
 refine cB (F:=⟨ro,[(b,Obj.cells ln 3)]⟩) hJ (by rw[ba];exact Le.refl _) ?_;rw[<-ba] at fw;clear ba;refine ay hJ fun xi=>?_;apply aE hJ _;refine bX ?_;exact ⟨_,fw,Le.sub (List.Sublist.refl _)⟩
def xT (b:Int)(c:Int)(a:(List Int))(st:Int):Option (Fl Int (Int×(List Int))):=
 cond (decide (st<=c)) (ai (bu a b) fun d=>ai (bu a st) fun e=>ai (ji d e) fun f=>cond (!f) (some (.nx (IntKind.i64.wrap (st+1)))) (some (.bk st))) (some (.bk st))
def xU (b:Int)(a:(List Int))(c:Int)(st:Int):Option (Fl Int (Int×(List Int))):=
 cond (decide (c<=st)) (ai (bu a b) fun d=>ai (bu a st) fun e=>ai (ji d e) fun f=>cond (f) (some (.nx (IntKind.i64.wrap (st - 1)))) (some (.bk st))) (some (.bk st))
def xV (c:Int)(st:(Int×Int×(List Int))):Option (Fl (Int×Int×(List Int)) (Int×(List Int))):=
 ai (ai (aS (xT c st.2.1 st.2.2) fu st.1) fun o=>aG o (fun e=>some (.bk e)) (fun _ _=>none) (fun r=>some (.rt r)):Option (Fl Int (Int×(List Int)))) fun o=>aG o (fun a=>ai (ai (aS (xU c st.2.2 a) fu st.2.1) fun o=>aG o (fun f=>some (.bk f)) (fun _ _=>none) (fun r=>some (.rt r)):Option (Fl Int (Int×(List Int)))) fun o=>aG o (fun b=>cond (decide (b<a)) (some (.bk (a,b,st.2.2))) (ai (bu st.2.2 b) fun d=>ai (bu st.2.2 a) fun g=>ai (bu (st.2.2.set (a).toNat d) b) fun h=>some (.nx ((IntKind.i64.wrap (a+1)),(IntKind.i64.wrap (b - 1)),((st.2.2.set (a).toNat d).set (b).toNat g))))) (fun _ _=>none) (fun r=>some (.rt r))) (fun _ _=>none) (fun r=>some (.rt r))
def xW (u0:(List Int))(a:Int)(f:Int)(b:Int):Option (Int×(List Int)):=
 cond (List.isEmpty u0) none (ai (bu u0 b) fun c=>ai (bu u0 a) fun g=>ai (bu (u0.set (a).toNat c) b) fun h=>ai (ai (aS (xV a) fu ((IntKind.i64.wrap (a+1)),(IntKind.i64.wrap (f - 1)),((u0.set (a).toNat c).set (b).toNat g))) fun o=>aG o (fun d=>some (.bk (d.1,d.2.2))) (fun _ _=>none) (fun r=>some (.rt r)):Option (Fl (Int×(List Int)) (Int×(List Int)))) fun o=>aG o (fun e=>some (e.1,e.2)) (fun _ _=>none) (fun r=>some r))
theorem IG {ro:Addr->Option Value}(u0:(List Int)){z:Value}{X:List (Nat×Obj)}(n:aZ rI ro 3 z u0 X)(c:Int)(B:Int)(s:Int){r:(Int×(List Int))}(h:xW u0 c B s=some r):aI Tryz.prog 198 #[z,.int .i64 c,.int .i64 B,.int .i64 s] ⟨ro,X⟩ (fun v G=>∃Y,(v= .int .i64 r.1/\aZ rI ro 3 z r.2 Y)/\Le ⟨ro,Y⟩ G):=by
 obtain ⟨d1,c2,rfl,fv⟩:=n.len;unfold xW at h;revert h;refine cS (fun Z h=>?_) fun Z h=>?_
 .cases h
 obtain ⟨b,ab,rfl,rfl,fw⟩:=n.jg Z;refine aI.go Tryz.func198 rfl Tryz.ntmps198 Tryz.results198 av fun main J hJ A ad hd hs=>?_;have ae:=hs 0;have k1:=hs 1;have al:=hs 2;have ao:=hs 3;clear hs;apply ah hJ;refine ay hJ fun fx=>?_;apply aE hJ _;apply ah hJ;refine ay hJ fun fz=>?_;refine fC hJ mixed [13,14,15] (.pure 0 (.pure 1 (.pure 2 (.pure 3 (.pure 4 (.pure 5 (.pure 6 (.rd 7 (.pure 8 (.pure 9 (.pure 10 (.rd 11 (.pure 12 (.last 13 (.pure 14 (.last 15 .done)))))))))))))))) ⟨ro,[(b,Obj.cells ab 3)]⟩ aL aj ?_;revert h;refine bS fun C b0 h=>?_;obtain ⟨gg,gl,gn,gp⟩:=n.dr b0;revert h;refine bS fun D b1 h=>?_;obtain ⟨b2,b3,gB,gC⟩:=n.dr b1;have ar:=n.gP b2 b3 C;revert h;refine bS fun gM b4 h=>?_;obtain ⟨b5,ca,gN,gT⟩:=ar.dr b4;have a0:=ar.gP b5 ca D;apply ag _;apply ah hJ;obtain ⟨a2,E⟩:∃o,o=(c9 (c9 ab (c).toNat [.int .i64 C]) (s).toNat [.int .i64 D]):=⟨_,rfl⟩
 refine cB (F:=⟨ro,[(b,Obj.cells a2 3)]⟩) hJ (by rw[E];exact Le.refl _) ?_;rw[<-E] at a0;clear E;refine ay hJ fun gV=>?_;apply aE hJ _;revert h;refine bS fun cb h cd=>?_;refine g7 hJ (fun a F'=>∃(H:Array Value) (I:Int) (K:(List Int)),some (Fl.bk (I,K):Fl (Int×(List Int)) (Int×(List Int)))=some cb/\F'=⟨ro,[(b,Obj.cells H 3)]⟩/\aZ rI ro 3 (.slice (some ⟨b,0,none⟩) u0.length c2) K [(b,Obj.cells H 3)]/\sz a=84/\a.defers=[]/\slot a 0= .slice (some ⟨b,0,none⟩) u0.length c2/\slot a 8= .int .i64 0/\slot a 9= .int .i64 I) ?_ ?_
 .apply aW hJ;revert h;refine bS fun cf t cl=>?_;refine bW hJ (rg 29 54 [9,10]) (fun m a F'=>∃(d:Array Value) (u:Int) (i:Int) (g:(List Int)),aS (xV c) m (u,i,g)=some cf/\F'=⟨ro,[(b,Obj.cells d 3)]⟩/\aZ rI ro 3 (.slice (some ⟨b,0,none⟩) u0.length c2) g [(b,Obj.cells d 3)]/\slot a 9= .int .i64 u/\slot a 10= .int .i64 i) fu ?_ ?_
  .refine ⟨a2,(IntKind.i64.wrap (c+1)),(IntKind.i64.wrap (B - 1)),((u0.set (c).toNat C).set (s).toNat D),t,rfl,a0,?_⟩;simp only[*,go_sem]
  rintro L w F' a3 ⟨d,u,i,g,t,rfl,f,a4,a5⟩;obtain ⟨M,N,O⟩:=a3.pick [0,1,8] aD;simp only[*,go_sem] at M N O;clear a3 ad hd ae k1 al ao;obtain _|L:=L
  .exact absurd t (by simp only[aS,reduceCtorEq,not_false_eq_true])
  revert t;refine bS fun g0 h P=>?_;unfold xV at h;try dsimp only at h
  apply aW hJ;revert h;refine bS fun cy h c0=>?_;refine g7 hJ (fun a F'=>∃(e:Int),some (Fl.bk e:Fl Int (Int×(List Int)))=some cy/\F'=⟨ro,[(b,Obj.cells d 3)]⟩/\sz a=84/\a.defers=[]/\cF (rg 29 54 [9,10]) a w/\slot a 0= .slice (some ⟨b,0,none⟩) u0.length c2/\slot a 1= .int .i64 c/\slot a 8= .int .i64 0/\slot a 9= .int .i64 e/\slot a 10= .int .i64 i) ?_ ?_
  .apply aW hJ;revert h;refine bS fun da x a6=>?_;refine bW hJ (rg 29 17 [9]) (fun m a F'=>∃(j:Int),aS (xT c i g) m j=some da/\F'=⟨ro,[(b,Obj.cells d 3)]⟩/\slot a 9= .int .i64 j) fu ?_ ?_
   .refine ⟨u,x,rfl,?_⟩;simp only[*,go_sem]
   rintro Q db F' R ⟨j,x,rfl,g1⟩;obtain ⟨dd,df,dk⟩:=R.pick [0,1,8,10] aD;simp only[*,go_sem] at dd df dk;have g2:cF (rg 29 54 [9,10]) db w:=(R.eG aD).trans aL;clear R M N O a4 a5;obtain _|Q:=Q
   .exact absurd x (by simp only[aS,reduceCtorEq,not_false_eq_true])
   revert x;refine bS fun g3 h p=>?_;unfold xT at h;(try dsimp only at h);refine ah hJ (ah hJ ?_);refine ay hJ fun g4=>?_;refine c5 hJ mixed 15 1 aL aj ?_;revert h;refine cS (fun dp h=>?_) fun dp h=>?_
   .revert h;refine bS fun dq ds h=>?_;obtain ⟨ha,hc,hf,hg⟩:=f.dr ds;revert h;refine bS fun dt du h=>?_;obtain ⟨hh,hi,hj,hk⟩:=f.dr du;revert h;refine bS fun hl dv h=>?_;apply ag _;refine ⟨_,bL hJ fun F dC=>kB dq dt dv,cw ?_⟩;apply ag _;revert h;refine aV hJ (fun dE h=>?_) fun dE h=>?_
    .cases h;refine aN hJ (aW hJ ?_);refine ay hJ fun hn=>?_;apply aE hJ _;refine ⟨Q,Nat.lt_succ_self _,_,Le.sub (List.Sublist.refl _),(IntKind.i64.wrap (j+1)),p,rfl,?_⟩;simp only[*,go_sem]
    cases h;apply bP;simp only[go_sem];obtain rfl:=sI p;clear p;have h:=a6;dsimp only[aG] at h;apply ag _;refine Qn.intro ⟨_,Le.sub (List.Sublist.refl _),j,h,rfl,?_⟩;simp only[*,go_sem]
   cases h;apply ag _;refine cJ hJ ?_;apply bP;simp only[go_sem];obtain rfl:=sI p;clear p;have h:=a6;dsimp only[aG] at h;refine Qn.intro ⟨_,Le.sub (List.Sublist.refl _),j,h,rfl,?_⟩;simp only[*,go_sem]
  rintro ho F' ⟨e,a7,rfl,a8,a9,hp,ba,bb,bc,bd,bj⟩;obtain rfl:=sI a7;clear a7;have h:=c0;dsimp only[aG] at h;clear M N O a4 a5;revert h;refine bS fun dT h ea=>?_;refine g7 hJ (fun a F'=>∃(k:Int),some (Fl.bk k:Fl Int (Int×(List Int)))=some dT/\F'=⟨ro,[(b,Obj.cells d 3)]⟩/\sz a=84/\a.defers=[]/\cF (rg 29 54 [9,10]) a w/\slot a 0= .slice (some ⟨b,0,none⟩) u0.length c2/\slot a 1= .int .i64 c/\slot a 8= .int .i64 0/\slot a 9= .int .i64 e/\slot a 10= .int .i64 k) ?_ ?_
  .apply aW hJ;revert h;refine bS fun eb y bl=>?_;refine bW hJ (rg 46 16 [10]) (fun m a F'=>∃(l:Int),aS (xU c g e) m l=some eb/\F'=⟨ro,[(b,Obj.cells d 3)]⟩/\slot a 10= .int .i64 l) fu ?_ ?_
   .refine ⟨i,y,rfl,?_⟩;simp only[*,go_sem]
   rintro S ec F' T ⟨l,y,rfl,hq⟩;obtain ⟨ed,eh,et⟩:=T.pick [0,1,8,9] aD;simp only[*,go_sem] at ed eh et;have hr:cF (rg 29 54 [9,10]) ec w:=(T.eG aD).trans aL;clear T a8 a9 ba bb bc bd bj;obtain _|S:=S
   .exact absurd y (by simp only[aS,reduceCtorEq,not_false_eq_true])
   revert y;refine bS fun ht h q=>?_;unfold xU at h;(try dsimp only at h);refine ah hJ (ah hJ ?_);refine ay hJ fun hv=>?_;refine c5 hJ mixed 14 1 aL aj ?_;revert h;refine cS (fun ev h=>?_) fun ev h=>?_
   .revert h;refine bS fun eQ eS h=>?_;obtain ⟨hx,hy,hz,hA⟩:=f.dr eS;revert h;refine bS fun eV e0 h=>?_;obtain ⟨hB,hD,hE,hF⟩:=f.dr e0;revert h;refine bS fun hG e1 h=>?_;apply ag _;refine ⟨_,bL hJ fun F dC=>kB eQ eV e1,cw ?_⟩;apply ag _;revert h;refine aV hJ (fun e2 h=>?_) fun e2 h=>?_
    .cases h;refine aN hJ (aW hJ ?_);refine ay hJ fun hI=>?_;apply aE hJ _;refine ⟨S,Nat.lt_succ_self _,_,Le.sub (List.Sublist.refl _),(IntKind.i64.wrap (l - 1)),q,rfl,?_⟩;simp only[*,go_sem]
    cases h;apply bP;simp only[go_sem];obtain rfl:=sI q;clear q;have h:=bl;dsimp only[aG] at h;apply ag _;refine Qn.intro ⟨_,Le.sub (List.Sublist.refl _),l,h,rfl,?_⟩;simp only[*,go_sem]
   cases h;apply ag _;refine cJ hJ ?_;apply bP;simp only[go_sem];obtain rfl:=sI q;clear q;have h:=bl;dsimp only[aG] at h;refine Qn.intro ⟨_,Le.sub (List.Sublist.refl _),l,h,rfl,?_⟩;simp only[*,go_sem]
  rintro hK F' ⟨k,bm,rfl,hL,hM,hN,hP,hQ,hR,hS,hT⟩;obtain rfl:=sI bm;clear bm;have h:=ea;dsimp only[aG] at h;clear a8 a9 ba bb bc bd bj;refine ah hJ (ah hJ ?_);refine ay hJ fun hV=>?_;apply aE hJ _;revert h;refine aV hJ (fun e3 h=>?_) fun e3 h=>?_
  .cases h;apply bP;simp only[go_sem];obtain rfl:=sI P;clear P;have h:=cl;dsimp only[aG] at h;apply ag _;refine Qn.intro ⟨_,Le.sub (List.Sublist.refl _),d,e,g,h,rfl,f,?_⟩;simp only[*,go_sem]
  refine aN hJ (ah hJ ?_);refine ay hJ fun hX=>?_;refine fC hJ mixed [13,14,15] (.pure 0 (.pure 1 (.pure 2 (.pure 3 (.pure 4 (.pure 5 (.pure 6 (.rd 7 (.pure 8 (.pure 9 (.pure 10 (.rd 11 (.pure 12 (.last 13 (.pure 14 (.last 15 .done)))))))))))))))) ⟨ro,[(b,Obj.cells d 3)]⟩ aL aj ?_;revert h;refine bS fun U fa h=>?_;obtain ⟨hY,hZ,h0,h1⟩:=f.dr fa;revert h;refine bS fun V fb h=>?_;obtain ⟨fg,fi,h2,h3⟩:=f.dr fb;have bo:=f.gP fg fi U;revert h;refine bS fun h4 fp h=>?_;cases h;obtain ⟨fr,fs,h5,h6⟩:=bo.dr fp;have br:=bo.gP fr fs V;apply ag _;apply ah hJ;obtain ⟨bs,W⟩:∃o,o=(c9 (c9 d (e).toNat [.int .i64 U]) (k).toNat [.int .i64 V]):=⟨_,rfl⟩
  refine cB (F:=⟨ro,[(b,Obj.cells bs 3)]⟩) hJ (by rw[W];exact Le.refl _) ?_;rw[<-W] at br;clear W;refine ay hJ fun h7=>?_;apply aE hJ _;refine ay hJ fun h8=>?_;apply aE hJ _;refine ⟨L,Nat.lt_succ_self _,_,Le.sub (List.Sublist.refl _),bs,(IntKind.i64.wrap (e+1)),(IntKind.i64.wrap (k - 1)),((g.set (e).toNat U).set (k).toNat V),P,rfl,br,?_⟩;simp only[*,go_sem]
 rintro h9 F' ⟨H,I,K,bz,rfl,ft,ib,ic,ih,ik,il⟩;obtain rfl:=sI bz;clear bz;have h:=cd;dsimp only[aG] at h;cases h;clear ad hd ae k1 al ao;apply ah hJ;refine ay hJ fun im=>?_;apply aE hJ _;refine bX ?_;exact ⟨_,ft,Le.sub (List.Sublist.refl _)⟩
def xX (u0:(List Int))(a:Int)(st:Int):Option (Fl Int (Bool×(List Int))):=
 cond (decide (st<a)) (ai (bu u0 st) fun b=>ai (bu u0 (IntKind.i64.wrap (st - 1))) fun c=>ai (ji b c) fun d=>cond (!d) (some (.nx (IntKind.i64.wrap (st+1)))) (some (.bk st))) (some (.bk st))
def xY (u0:(List Int))(b:Int)(a:Int)(st:(Bool×Int×Int)):Option (Fl (Bool×Int×Int) (Bool×(List Int))):=
 cond (decide (st.2.2<5)) (ai (ai (aS (xX u0 a) fu st.2.1) fun o=>aG o (fun c=>some (.bk c)) (fun _ _=>none) (fun r=>some (.rt r)):Option (Fl Int (Bool×(List Int)))) fun o=>aG o (fun d=>cond ((d==a)) (some (.rt (true,u0))) (cond (decide ((IntKind.i64.wrap (a - b))<50)) (some (.rt (false,u0))) (none))) (fun _ _=>none) (fun r=>some (.rt r))) (some (.bk (st.1,st.2.1,st.2.2)))
def xZ (u0:(List Int))(a:Int)(b:Int):Option (Bool×(List Int)):=
 cond (List.isEmpty u0) none (ai (ai (aS (xY u0 a b) fu (false,(IntKind.i64.wrap (a+1)),0)) fun o=>aG o (fun c=>some (.bk c.1)) (fun _ _=>none) (fun r=>some (.rt r)):Option (Fl Bool (Bool×(List Int)))) fun o=>aG o (fun d=>some (false,u0)) (fun _ _=>none) (fun r=>some r))
theorem II {ro:Addr->Option Value}(u0:(List Int)){p:Value}{C:List (Nat×Obj)}(b:aZ rI ro 3 p u0 C)(f:Int)(g:Int){r:(Bool×(List Int))}(h:xZ u0 f g=some r):aI Tryz.prog 196 #[p,.int .i64 f,.int .i64 g] ⟨ro,C⟩ (fun v G=>∃D,(v= .bool r.1/\aZ rI ro 3 p r.2 D)/\Le ⟨ro,D⟩ G):=by
 obtain ⟨d1,c2,rfl,a8⟩:=b.len;unfold xZ at h;revert h;refine cS (fun E h=>?_) fun E h=>?_
 .cases h
 obtain ⟨c,k,rfl,rfl,a9⟩:=b.jg E;refine aI.go Tryz.func196 rfl Tryz.ntmps196 Tryz.results196 av fun main J hJ A H hd hs=>?_;have I:=hs 0;have k1:=hs 1;have K:=hs 2;clear hs;apply ah hJ;refine ay hJ fun ba=>?_;apply aE hJ _;apply ah hJ;refine ay hJ fun bb=>?_;apply aE hJ _;revert h;refine bS fun U h q=>?_;refine g7 hJ (fun a F'=>∃(s:Bool),some (Fl.bk s:Fl Bool (Bool×(List Int)))=some U/\F'=⟨ro,[(c,Obj.cells k 3)]⟩/\sz a=133/\a.defers=[]/\slot a 0= .slice (some ⟨c,0,none⟩) u0.length c2/\slot a 6= .bool s) ?_ ?_
 .apply ah hJ;refine ay hJ fun bc=>?_;apply aE hJ _;apply aW hJ;revert h;refine bS fun V l t=>?_;refine bW hJ (rg 13 120 [6,7,8,9,10]) (fun m a F'=>∃(i:Bool) (n:Int) (v20:Int),aS (xY u0 f g) m (i,n,v20)=some V/\F'=⟨ro,[(c,Obj.cells k 3)]⟩/\slot a 6= .bool i/\slot a 7= .int .i64 n/\slot a 8= .int .i64 v20) fu ?_ ?_
  .refine ⟨false,(IntKind.i64.wrap (f+1)),0,l,rfl,?_⟩;simp only[*,go_sem]
  rintro L M F' N ⟨i,n,v20,l,rfl,O,P,Q⟩;obtain ⟨u,w,x⟩:=N.pick [0,1,2] aD;simp only[*,go_sem] at u w x;clear N H hd I k1 K;obtain _|L:=L
  .exact absurd l (by simp only[aS,reduceCtorEq,not_false_eq_true])
  revert l;refine bS fun bd h d=>?_;unfold xY at h;try dsimp only at h
  refine ah hJ (ah hJ ?_);refine ay hJ fun bj=>?_;apply aE hJ _;revert h;refine aV hJ (fun W h=>?_) fun W h=>?_
  .refine aN hJ (ah hJ ?_);apply aW hJ;revert h;refine bS fun X h Y=>?_;refine g7 hJ (fun a F'=>∃(y:Int),some (Fl.bk y:Fl Int (Bool×(List Int)))=some X/\F'=⟨ro,[(c,Obj.cells k 3)]⟩/\sz a=133/\a.defers=[]/\cF (rg 13 120 [6,7,8,9,10]) a M/\slot a 0= .slice (some ⟨c,0,none⟩) u0.length c2/\slot a 1= .int .i64 f/\slot a 2= .int .i64 g/\slot a 6= .bool i/\slot a 7= .int .i64 y/\slot a 8= .int .i64 v20) ?_ ?_
   .apply aW hJ;revert h;refine bS fun Z o R=>?_;refine bW hJ (rg 17 18 [7]) (fun m a F'=>∃(e:Int),aS (xX u0 g) m e=some Z/\F'=⟨ro,[(c,Obj.cells k 3)]⟩/\slot a 7= .int .i64 e) fu ?_ ?_
    .refine ⟨n,o,rfl,?_⟩;simp only[*,go_sem]
    rintro z ab F' B ⟨e,o,rfl,bl⟩;obtain ⟨ad,ae,al⟩:=B.pick [0,1,2,6,8,13,14] aD;simp only[*,go_sem] at ad ae al;have bm:cF (rg 13 120 [6,7,8,9,10]) ab M:=(B.eG aD).trans aL;clear B u w x O P Q;obtain _|z:=z
    .exact absurd o (by simp only[aS,reduceCtorEq,not_false_eq_true])
    revert o;refine bS fun bo h j=>?_;unfold xX at h;(try dsimp only at h);refine ah hJ (ah hJ ?_);refine ay hJ fun br=>?_;refine c5 hJ mixed 16 1 aL aj ?_;revert h;refine cS (fun ao h=>?_) fun ao h=>?_
    .revert h;refine bS fun ar a0 h=>?_;obtain ⟨bs,bz,b0,b1⟩:=b.dr a0;revert h;refine bS fun a2 a3 h=>?_;obtain ⟨b2,b3,b4,b5⟩:=b.dr a3;revert h;refine bS fun ca a4 h=>?_;apply ag _;refine ⟨_,bL hJ fun F cb=>kB ar a2 a4,cw ?_⟩;apply ag _;revert h;refine aV hJ (fun a5 h=>?_) fun a5 h=>?_
     .cases h;refine aN hJ (aW hJ ?_);refine ay hJ fun cd=>?_;apply aE hJ _;refine ⟨z,Nat.lt_succ_self _,_,Le.sub (List.Sublist.refl _),(IntKind.i64.wrap (e+1)),j,rfl,?_⟩;simp only[*,go_sem]
     cases h;apply bP;simp only[go_sem];obtain rfl:=sI j;clear j;have h:=R;dsimp only[aG] at h;apply ag _;refine Qn.intro ⟨_,Le.sub (List.Sublist.refl _),e,h,rfl,?_⟩;simp only[*,go_sem]
    cases h;apply ag _;refine cJ hJ ?_;apply bP;simp only[go_sem];obtain rfl:=sI j;clear j;have h:=R;dsimp only[aG] at h;refine Qn.intro ⟨_,Le.sub (List.Sublist.refl _),e,h,rfl,?_⟩;simp only[*,go_sem]
   rintro cf F' ⟨y,S,rfl,cl,cy,c0,da,db,dd,df,dk,dp⟩;obtain rfl:=sI S;clear S;have h:=Y;dsimp only[aG] at h;clear u w x O P Q;refine ah hJ (ah hJ ?_);refine ay hJ fun dq=>?_;apply aE hJ _;revert h;refine aV hJ (fun a6 h=>?_) fun a6 h=>?_
   .cases h;apply ah hJ;refine ay hJ fun ds=>?_;apply aE hJ _;obtain rfl:=sI d;clear d;have h:=t;dsimp only[aG] at h;cases h;have h:=q;dsimp only[aG] at h;cases h;refine bX ?_;exact ⟨_,b,Le.sub (List.Sublist.refl _)⟩
   refine aN hJ (ah hJ ?_);apply ah hJ;refine ay hJ fun dt=>?_;apply aE hJ _;revert h;refine aV hJ (fun a7 h=>?_) fun a7 h=>?_
   .cases h;apply ah hJ;refine ay hJ fun du=>?_;apply aE hJ _;obtain rfl:=sI d;clear d;have h:=t;dsimp only[aG] at h;cases h;have h:=q;dsimp only[aG] at h;cases h;refine bX ?_;exact ⟨_,b,Le.sub (List.Sublist.refl _)⟩
   cases h
  cases h;apply bP;simp only[go_sem];obtain rfl:=sI d;clear d;have h:=t;dsimp only[aG] at h;apply ag _;refine Qn.intro ⟨_,Le.sub (List.Sublist.refl _),i,h,rfl,?_⟩;simp only[*,go_sem]
 rintro dv F' ⟨s,T,rfl,dC,dE,dT,ea⟩;obtain rfl:=sI T;clear T;have h:=q;dsimp only[aG] at h;cases h;clear H hd I k1 K;apply ah hJ;refine ay hJ fun eb=>?_;apply aE hJ _;refine bX ?_;exact ⟨_,b,Le.sub (List.Sublist.refl _)⟩
def x2 (st:(Int×Int×Int×Bool×Bool×(List Int))):Option (Fl (Int×Int×Int×Bool×Bool×(List Int)) (Unit×(List Int))):=
 cond (decide ((IntKind.i64.wrap (st.2.1 - st.1))<=12)) (ai (uy st.2.2.2.2.2 st.1 st.2.1) fun j=>some (.rt ((),j.2))) (cond ((st.2.2.1==0)) (none) (ai (cond (!st.2.2.2.1) (ai (xM st.2.2.2.2.2 st.1 st.2.1) fun k=>some (.bk ((IntKind.i64.wrap (st.2.2.1 - 1)),k.2))) (some (.bk (st.2.2.1,st.2.2.2.2.2))):Option (Fl (Int×(List Int)) (Unit×(List Int)))) fun o=>aG o (fun c=>ai (xI c.2 st.1 st.2.1) fun b=>cond ((b.1.2==2)) (none) (ai (cond (st.2.2.2.1) (cond (st.2.2.2.2.1) (cond ((b.1.2==1)) (ai (xZ b.2 st.1 st.2.1) fun f=>cond (f.1) (some (.rt ((),f.2))) (some (.bk f.2))) (some (.bk b.2))) (some (.bk b.2))) (some (.bk b.2)):Option (Fl (List Int) (Unit×(List Int)))) fun o=>aG o (fun e=>ai (cond (decide (0<st.1)) (ai (bu e (IntKind.i64.wrap (st.1 - 1))) fun l=>ai (bu e b.1.1) fun m=>ai (ji l m) fun n=>cond (!n) (ai (xW e st.1 st.2.1 b.1.1) fun g=>some (.br 1 (g.1,g.2))) (some (.bk (st.1,e)))) (some (.bk (st.1,e))):Option (Fl (Int×(List Int)) (Unit×(List Int)))) fun o=>aG o (fun d=>ai (xS d.2 d.1 st.2.1 b.1.1) fun a=>ai (gy (IntKind.i64.wrap (st.2.1 - st.1)) 8) fun h=>cond (decide ((IntKind.i64.wrap (a.1.1 - d.1))<(IntKind.i64.wrap (st.2.1 - a.1.1)))) (ai (uz a.2 d.1 a.1.1 c.1) fun p=>some (.nx ((IntKind.i64.wrap (a.1.1+1)),st.2.1,c.1,(decide (h<=(IntKind.i64.wrap (a.1.1 - d.1)))),a.1.2,p.2))) (ai (uz a.2 (IntKind.i64.wrap (a.1.1+1)) st.2.1 c.1) fun q=>some (.nx (d.1,a.1.1,c.1,(decide (h<=(IntKind.i64.wrap (st.2.1 - a.1.1)))),a.1.2,q.2)))) (fun _ i=>some (.nx (i.1,st.2.1,c.1,st.2.2.2.1,st.2.2.2.2.1,i.2))) (fun r=>some (.rt r))) (fun _ _=>none) (fun r=>some (.rt r)))) (fun _ _=>none) (fun r=>some (.rt r))))
def x3 (u0:(List Int))(a:Int)(b:Int)(c:Int):Option (Unit×(List Int)):=
 cond (List.isEmpty u0) none (ai (aS (x2) fu (a,b,c,true,true,u0)) fun o=>aG o (fun d=>some ((),d.2.2.2.2.2)) (fun _ _=>none) (fun r=>some r))
theorem IJ {ro:Addr->Option Value}(u0:(List Int)){H:Value}{T:List (Nat×Obj)}(I:aZ rI ro 3 H u0 T)(K:Int)(L:Int)(M:Int){r:(Unit×(List Int))}(h:x3 u0 K L M=some r):aI Tryz.prog 176 #[H,.int .i64 K,.int .i64 L,.int .i64 M] ⟨ro,T⟩ (fun v G=>∃d,(v= .tuple #[]/\aZ rI ro 3 H r.2 d)/\Le ⟨ro,d⟩ G):=by
 obtain ⟨d1,c2,rfl,gC⟩:=I.len;unfold x3 at h;revert h;refine cS (fun U h=>?_) fun U h=>?_
 .cases h
 obtain ⟨b,bd,rfl,rfl,gM⟩:=I.jg U;refine aI.go Tryz.func176 rfl Tryz.ntmps176 Tryz.results176 av fun main J hJ A bj hd hs=>?_;have bl:=hs 0;have k1:=hs 1;have bm:=hs 2;have bo:=hs 3;clear hs;apply ah hJ;refine ay hJ fun gN=>?_;apply aE hJ _;apply ah hJ;refine ay hJ fun gT=>?_;apply aE hJ _;apply aW hJ;revert h;refine bS fun br z V=>?_;refine bW hJ (rg 8 126 [1,2,3]) (fun m a F'=>∃(B:Array Value) (e:Int) (c:Int) (t:Int) (l:Bool) (n:Bool) (q:(List Int)),aS (x2) m (e,c,t,l,n,q)=some br/\F'=⟨ro,[(b,Obj.cells B 3)]⟩/\aZ rI ro 3 (.slice (some ⟨b,0,none⟩) u0.length c2) q [(b,Obj.cells B 3)]/\slot a 1= .int .i64 e/\slot a 2= .int .i64 c/\slot a 3= .int .i64 t/\slot a 8= .bool l/\slot a 9= .bool n) fu ?_ ?_
 .refine ⟨bd,K,L,M,true,true,u0,z,rfl,I,?_⟩;simp only[*,go_sem]
 rintro u N F' W ⟨B,e,c,t,l,n,q,z,rfl,O,bs,bz,b0,b1,b2⟩;obtain ⟨X,Y,Z⟩:=W.pick [0] aD;simp only[*,go_sem] at X Y Z;clear W bj hd bl k1 bm bo;obtain _|u:=u
 .exact absurd z (by simp only[aS,reduceCtorEq,not_false_eq_true])
 revert z;refine bS fun gV h o=>?_;unfold x2 at h;try dsimp only at h
 refine aW hJ (ah hJ ?_);refine ay hJ fun g0=>?_;apply aE hJ _;refine ah hJ (ah hJ ?_);refine ay hJ fun g1=>?_;apply aE hJ _;revert h;refine aV hJ (fun b3 h=>?_) fun b3 h=>?_
 .apply ah hJ;refine ay hJ fun g2=>?_;apply aQ hJ;revert h;refine bS fun g3 b4 h=>?_;cases h;apply ag _;refine ey hJ [] [] _ (B4 q O e c b4) (fun g4 ha f d g hc=>?_);obtain ⟨rfl,ab⟩:=f;obtain ⟨b5,rfl⟩:=ab.ir;simp only[aY] at g;subst d;refine ⟨⟨ro,[(b,Obj.cells b5 3)]⟩,Le.refl _,?_⟩;obtain rfl:=sI o;clear o;have h:=V;dsimp only[aG] at h;cases h;refine bX ?_;exact ⟨_,ab,Le.sub (List.Sublist.refl _)⟩
 refine aN hJ (ah hJ ?_);apply ah hJ;refine ay hJ fun hf=>?_;apply aE hJ _;revert h;refine aV hJ (fun ca h=>?_) fun ca h=>?_
 .cases h
 apply aN hJ;revert h;refine bS fun cb h cd=>?_;refine g7 hJ (fun a F'=>∃(P:Array Value) (i:Int) (C:(List Int)),some (Fl.bk (i,C):Fl (Int×(List Int)) (Unit×(List Int)))=some cb/\F'=⟨ro,[(b,Obj.cells P 3)]⟩/\aZ rI ro 3 (.slice (some ⟨b,0,none⟩) u0.length c2) C [(b,Obj.cells P 3)]/\sz a=134/\a.defers=[]/\cF (rg 8 126 [1,2,3]) a N/\slot a 0= .slice (some ⟨b,0,none⟩) u0.length c2/\slot a 1= .int .i64 e/\slot a 2= .int .i64 c/\slot a 3= .int .i64 i/\slot a 8= .bool l/\slot a 9= .bool n/\slot a 10= .int .i64 (IntKind.i64.wrap (c - e))) ?_ ?_
 .apply ah hJ;refine ay hJ fun hg=>?_;apply aE hJ _;revert h;refine aV hJ (fun cf h=>?_) fun cf h=>?_
  .apply ah hJ;refine ay hJ fun hh=>?_;apply aQ hJ;revert h;refine bS fun cl cy h=>?_;apply ag _;refine ey hJ [] [] _ (IE q O e c cy) (fun hi hj f d g hk=>?_);obtain ⟨rfl,ad⟩:=f;obtain ⟨ae,rfl⟩:=ad.ir;simp only[aY] at g;subst d;refine ⟨⟨ro,[(b,Obj.cells ae 3)]⟩,Le.refl _,?_⟩;refine ay hJ fun hl=>?_;apply aE hJ _;refine Qn.intro ⟨_,Le.sub (List.Sublist.refl _),ae,(IntKind.i64.wrap (t - 1)),cl.2,h,rfl,ad,?_⟩;simp only[*,go_sem]
  apply oH hJ _;refine Qn.intro ⟨_,Le.sub (List.Sublist.refl _),B,t,q,h,rfl,O,?_⟩;simp only[*,go_sem]
 rintro hn F' ⟨P,i,C,al,rfl,c0,da,db,ho,dd,df,dk,dp,dq,ds,dt⟩;obtain rfl:=sI al;clear al;have h:=cd;dsimp only[aG] at h;clear X Y Z bs bz b0 b1 b2;apply ah hJ;refine ay hJ fun hp=>?_;apply aQ hJ;revert h;refine bS fun k du h=>?_;apply ag _;refine ey hJ [] [] _ (It C c0 e c du) (fun hq hr f d g ht=>?_);obtain ⟨rfl,w⟩:=f;obtain ⟨D,rfl⟩:=w.ir;simp only[aY] at g;subst d;refine ⟨⟨ro,[(b,Obj.cells D 3)]⟩,Le.refl _,?_⟩;apply aP;apply ag _;refine ah hJ (ah hJ ?_);refine ay hJ fun hv=>?_;apply aE hJ _;revert h;refine aV hJ (fun dv h=>?_) fun dv h=>?_
 .cases h
 apply aN hJ;revert h;refine bS fun dC h ao=>?_;refine g7 hJ (fun a F'=>∃(x:Array Value) (s:(List Int)),some (Fl.bk s:Fl (List Int) (Unit×(List Int)))=some dC/\F'=⟨ro,[(b,Obj.cells x 3)]⟩/\aZ rI ro 3 (.slice (some ⟨b,0,none⟩) u0.length c2) s [(b,Obj.cells x 3)]/\sz a=134/\a.defers=[]/\cF (rg 8 126 [1,2,3]) a N/\slot a 0= .slice (some ⟨b,0,none⟩) u0.length c2/\slot a 1= .int .i64 e/\slot a 2= .int .i64 c/\slot a 3= .int .i64 i/\slot a 8= .bool l/\slot a 9= .bool n/\slot a 10= .int .i64 (IntKind.i64.wrap (c - e))/\slot a 11= .int .i64 k.1.1) ?_ ?_
 .apply ah hJ;refine ay hJ fun hx=>?_;apply aQ hJ;revert h;refine cS (fun dE h=>?_) fun dE h=>?_
  .revert h;refine cS (fun dT h=>?_) fun dT h=>?_
   .apply ag _;revert h;refine aV hJ (fun ea h=>?_) fun ea h=>?_
    .apply ah hJ;refine ay hJ fun hy=>?_;apply aQ hJ;revert h;refine bS fun eb ec h=>?_;apply ag _;refine ey hJ [] [] _ (II k.2 w e c ec) (fun hz hA f d g hB=>?_);obtain ⟨rfl,Q⟩:=f;obtain ⟨ar,rfl⟩:=Q.ir;simp only[aY] at g;subst d;refine ⟨⟨ro,[(b,Obj.cells ar 3)]⟩,Le.refl _,?_⟩;revert h;refine aV hJ (fun ed h=>?_) fun ed h=>?_
     .cases h;have h:=ao;dsimp only[aG] at h;cases h;obtain rfl:=sI o;clear o;have h:=V;dsimp only[aG] at h;cases h;refine bX ?_;exact ⟨_,Q,Le.sub (List.Sublist.refl _)⟩
     apply oH hJ _;refine Qn.intro ⟨_,Le.sub (List.Sublist.refl _),ar,eb.2,h,rfl,Q,?_⟩;simp only[*,go_sem]
    apply oH hJ _;refine Qn.intro ⟨_,Le.sub (List.Sublist.refl _),D,k.2,h,rfl,w,?_⟩;simp only[*,go_sem]
   apply ag _;refine cJ hJ ?_;apply aN hJ;refine Qn.intro ⟨_,Le.sub (List.Sublist.refl _),D,k.2,h,rfl,w,?_⟩;simp only[*,go_sem]
  apply ag _;refine cJ hJ ?_;apply aN hJ;refine Qn.intro ⟨_,Le.sub (List.Sublist.refl _),D,k.2,h,rfl,w,?_⟩;simp only[*,go_sem]
 rintro hD F' ⟨x,s,a0,rfl,y,eh,et,hE,ev,eQ,eS,eV,e0,e1,e2,e3⟩;obtain rfl:=sI a0;clear a0;have h:=ao;dsimp only[aG] at h;clear da db dd df dk dp dq ds dt;revert h;refine bS fun fa h a2=>?_;refine g7 hJ (fun a F'=>∃(R:Array Value) (p:Int) (E:(List Int)),some (Fl.bk (p,E):Fl (Int×(List Int)) (Unit×(List Int)))=some fa/\F'=⟨ro,[(b,Obj.cells R 3)]⟩/\aZ rI ro 3 (.slice (some ⟨b,0,none⟩) u0.length c2) E [(b,Obj.cells R 3)]/\sz a=134/\a.defers=[]/\cF (rg 8 126 [1,2,3]) a N/\slot a 0= .slice (some ⟨b,0,none⟩) u0.length c2/\slot a 1= .int .i64 p/\slot a 2= .int .i64 c/\slot a 3= .int .i64 i/\slot a 8= .bool l/\slot a 9= .bool n/\slot a 10= .int .i64 (IntKind.i64.wrap (c - e))/\slot a 11= .int .i64 k.1.1) ?_ ?_
 .apply ah hJ;refine ay hJ fun hF=>?_;refine c5 hJ mixed 15 1 aL aj ?_;revert h;refine cS (fun fb h=>?_) fun fb h=>?_
  .revert h;refine bS fun fg fi h=>?_;obtain ⟨hG,hI,hK,hL⟩:=y.dr fi;revert h;refine bS fun fp fr h=>?_;obtain ⟨hM,hN,hP,hQ⟩:=y.dr fr;revert h;refine bS fun hR fs h=>?_;apply ag _;refine ⟨_,bL hJ fun F hS=>kB fg fp fs,cw ?_⟩;apply ag _;revert h;refine aV hJ (fun ft h=>?_) fun ft h=>?_
   .apply ah hJ;refine ay hJ fun hT=>?_;apply aQ hJ;revert h;refine bS fun a3 fv h=>?_;cases h;apply ag _;refine ey hJ [] [] _ (IG s y e c k.1.1 fv) (fun hV hX f d g hY=>?_);obtain ⟨rfl,a4⟩:=f;obtain ⟨a5,rfl⟩:=a4.ir;simp only[aY] at g;subst d;refine ⟨⟨ro,[(b,Obj.cells a5 3)]⟩,Le.refl _,?_⟩;apply aP;apply ag _;apply ah hJ;refine ay hJ fun hZ=>?_;apply aE hJ _;apply bP;simp only[go_sem];have h:=a2;dsimp only[aG] at h;cases h;apply ag _;refine ⟨u,Nat.lt_succ_self _,_,Le.sub (List.Sublist.refl _),a5,a3.1,c,i,l,n,a3.2,o,rfl,a4,?_⟩;simp only[*,go_sem]
   apply oH hJ _;refine Qn.intro ⟨_,Le.sub (List.Sublist.refl _),x,e,s,h,rfl,y,?_⟩;simp only[*,go_sem]
  apply ag _;refine cJ hJ ?_;apply aN hJ;refine Qn.intro ⟨_,Le.sub (List.Sublist.refl _),x,e,s,h,rfl,y,?_⟩;simp only[*,go_sem]
 rintro h0 F' ⟨R,p,E,a6,rfl,fw,h1,h2,h3,h4,h5,h6,h7,h8,h9,ib,ic⟩;obtain rfl:=sI a6;clear a6;have h:=a2;dsimp only[aG] at h;clear eh et ev eQ eS eV e0 e1 e2 e3;apply ah hJ;refine ay hJ fun ih=>?_;apply aQ hJ;revert h;refine bS fun j fx h=>?_;apply ag _;refine ey hJ [] [] _ (IF E fw p c k.1.1 fx) (fun ik il f d g im=>?_);obtain ⟨rfl,S⟩:=f;obtain ⟨fz,rfl⟩:=S.ir;simp only[aY] at g;subst d;refine ⟨⟨ro,[(b,Obj.cells fz 3)]⟩,Le.refl _,?_⟩;apply aP;apply ag _;apply ah hJ;refine ay hJ fun iv=>?_;apply aE hJ _;apply ah hJ;refine ay hJ fun ix=>?_;apply aE hJ _;apply ah hJ;refine ay hJ fun jC=>?_;apply aQ hJ;revert h;refine bS fun a7 a8 h=>?_;obtain ⟨j1,j2⟩:=k3 a8;clear a8;apply ag _;apply ah hJ;refine ay hJ fun kh=>?_;apply aE hJ _;revert h;refine aV hJ (fun gg h=>?_) fun gg h=>?_
 .apply ah hJ;refine ay hJ fun kj=>?_;apply aE hJ _;apply ah hJ;refine ay hJ fun kk=>?_;apply aQ hJ;revert h;refine bS fun gl gn h=>?_;cases h;apply ag _;refine ey hJ [] [] _ (B5 j.2 S p j.1.1 i gn) (fun kl km f d g kn=>?_);obtain ⟨rfl,a9⟩:=f;obtain ⟨ba,rfl⟩:=a9.ir;simp only[aY] at g;subst d;refine ⟨⟨ro,[(b,Obj.cells ba 3)]⟩,Le.refl _,?_⟩;refine ay hJ fun kp=>?_;apply aE hJ _;refine ⟨u,Nat.lt_succ_self _,_,Le.sub (List.Sublist.refl _),ba,(IntKind.i64.wrap (j.1.1+1)),c,i,(decide (a7<=(IntKind.i64.wrap (j.1.1 - p)))),j.1.2,gl.2,o,rfl,a9,?_⟩;simp only[*,go_sem]
 apply ah hJ;refine ay hJ fun ks=>?_;apply aE hJ _;apply ah hJ;refine ay hJ fun kt=>?_;apply aQ hJ;revert h;refine bS fun gp gB h=>?_;cases h;apply ag _;refine ey hJ [] [] _ (B5 j.2 S (IntKind.i64.wrap (j.1.1+1)) c i gB) (fun kv kx f d g ky=>?_);obtain ⟨rfl,bb⟩:=f;obtain ⟨bc,rfl⟩:=bb.ir;simp only[aY] at g;subst d;refine ⟨⟨ro,[(b,Obj.cells bc 3)]⟩,Le.refl _,?_⟩;refine ay hJ fun k0=>?_;apply aE hJ _;refine ⟨u,Nat.lt_succ_self _,_,Le.sub (List.Sublist.refl _),bc,p,j.1.1,i,(decide (a7<=(IntKind.i64.wrap (c - j.1.1)))),j.1.2,gp.2,o,rfl,bb,?_⟩;simp only[*,go_sem]
def rM (u0:(List Int)):Option (Unit×(List Int)):=
 cond (List.isEmpty u0) none (ai (uA (IntKind.u64.wrap (u0.length:Int))) fun a=>ai (x3 u0 0 (u0.length:Int) a) fun b=>some ((),b.2))
theorem IK {ro:Addr->Option Value}(u0:(List Int)){b:Value}{d:List (Nat×Obj)}(c:aZ rI ro 3 b u0 d){r:(Unit×(List Int))}(h:rM u0=some r):aI Tryz.prog 142 #[b] ⟨ro,d⟩ (fun v G=>∃a,(v= .tuple #[]/\aZ rI ro 3 b r.2 a)/\Le ⟨ro,a⟩ G):=by
 obtain ⟨d1,c2,rfl,o⟩:=c.len;unfold rM at h;revert h;refine cS (fun e h=>?_) fun e h=>?_
 .cases h
 obtain ⟨g,p,rfl,rfl,q⟩:=c.jg e;refine aI.go Tryz.func142 rfl Tryz.ntmps142 Tryz.results142 av fun main J hJ A s hd hs=>?_;have t:=hs 0;clear hs;apply ah hJ;refine ay hJ fun u=>?_;apply aQ hJ;apply bV _;refine ay hJ fun w=>?_;apply aQ hJ;revert h;refine bS fun i j h=>?_;apply bV _;refine bn hJ _ (B6 (IntKind.u64.wrap (u0.length:Int)) j) (aP ?_);revert h;refine bS fun x k h=>?_;apply bV _;refine ey hJ [] [] _ (IJ u0 c 0 (u0.length:Int) i k) (fun y z l a m B=>?_);obtain ⟨rfl,f⟩:=l;obtain ⟨n,rfl⟩:=f.ir;simp only[aY] at m;subst a;refine ⟨⟨ro,[(g,Obj.cells n 3)]⟩,Le.refl _,?_⟩;cases h;apply ag _;exact ⟨_,f,Le.sub (List.Sublist.refl _)⟩
def kC (x:List Int)(j:Nat):Bool:=j==0||x.getD j 0 != x.getD (j - 1) 0
def g8 (x:List Int):Nat->List Int
 |0=>[]
 |n+1=>g8 x n++cond (kC x n) [x.getD n 0] []
theorem uB (x:List Int):∀n,n<=x.length->(∀j,j<n->kC x j=true)->g8 x n=x.take n
 |0,_,_=>by simp[g8]
 |n+1,b,h=>by
  unfold g8
  rw[uB x n aa (fun j c=>h j aa),h n aa,List.take_succ]
  congr 1
  have a:n<x.length:=aa
  simp[a]
theorem B7 (x:List Int){j:Nat}(h:j<1):kC x j=true:=by
 obtain rfl:j=0:=aa;rfl
def uC (u0:List Int):Option (List Int):=cond (List.isEmpty u0) none (some (g8 u0 u0.length))
theorem IL {ro:Addr->Option Value}(u0:List Int){Q:Value}{bw:List (Nat×Obj)}(hg:aZ rI ro 3 Q u0 bw){r:List Int}(h:uC u0=some r):
  aI Tryz.prog 143 #[Q] ⟨ro,bw⟩ (fun v G=>∃R,aZ rI ro 3 v r R/\Le ⟨ro,R⟩ G):=by
 obtain ⟨ad,cap,rfl,le⟩:=hg.len
 unfold uC at h
 have a8:=jI h;clear h;rcases a8 with ⟨S,h⟩|⟨S,h⟩
 .cases h
 obtain ⟨b,F,rfl,rfl,cy⟩:=hg.jg S
 cases h
 have cS:u0.length<=1000000:=by obtain ⟨_,_,_,h,_⟩:=hg;exact h
 have c0:Tryz.prog.underlying 3=some (.int .i64):=aj
 refine aI.go Tryz.func143 rfl Tryz.ntmps143 Tryz.results143 av fun main J hJ A a9 hd hs=>?_
 have ba:=hs 0
 clear hs
 repeat refine ah hJ ?_
 refine aQ hJ ?_
 apply ag _
 repeat refine ah hJ ?_
 refine aQ hJ ?_
 apply ag _
 repeat refine ah hJ ?_
 by_cases da:u0.length<2
 .refine eF hJ (by simp only[*,go_sem];simp;omega) ?_
  repeat refine ah hJ ?_
  refine aQ hJ ?_
  apply ag _
  refine aT ?_
  apply ag _
  have e:g8 u0 u0.length=u0:=by
   rw[uB u0 _ (Nat.le_refl _) (fun j c=>B7 u0 aa),List.take_length]
  rw[e]
  exact ⟨_,hg,Le.refl _⟩
 refine ew hJ (by simp only[*,go_sem];simp;omega) ?_
 refine aN hJ ?_
 repeat refine ah hJ ?_
 refine aQ hJ ?_
 apply ag _
 repeat refine ah hJ ?_
 refine aW hJ ?_
 refine bW hJ [3,4,5,10,11,12,13,14,15,16,17,18,19,20,21,22,23,24,25,26,27,28,29,30,31,32,33,34,35,36,37,38,39,40,41,42,43,44,45,46,47,48,49,50,51,52,53,54,55,56,57,58,59] (fun m u F'=>∃k:Nat,1<=k/\k<=u0.length/\u0.length - k<=m/\F'=⟨ro,[(b,Obj.cells F 3)]⟩/\slot u 3= .int .i64 (k:Int)/\∀j,j<k->kC u0 j=true) u0.length ?_ ?_
 .refine ⟨1,Nat.le_refl _,aa,aa,rfl,?_,fun j c=>B7 u0 c⟩
  apply ag _
  rfl
 .rintro bb g F' B ⟨k,db,T,dd,rfl,bc,H⟩
  have bd:sz g=61:=by rw[B.size];simp only[*,go_sem]
  have bj:g.defers=[]:=by rw[B.defers];simp only[*,go_sem]
  have bk:slot g 0= .slice (some ⟨b,0,none⟩) u0.length cap:=by rw[B.ga 0 aD];simp only[*,go_sem]
  clear B a9 hd ba
  repeat refine ah hJ ?_
  repeat refine ah hJ ?_
  refine aQ hJ ?_
  apply ag _
  by_cases U:k<u0.length
  .have hb:decide (((k:Nat):Int)<(u0.length:Int))=true:=decide_eq_true aa
   refine eF hJ aL ?_
   refine aN hJ ?_
   repeat refine ah hJ ?_
   refine aW hJ ?_
   repeat refine ah hJ ?_
   obtain ⟨p,rfl⟩:∃p,k=p+1:=⟨k - 1,aa⟩
   have hw:IntKind.i64.wrap (((p+1:Nat):Int) - 1)=(p:Int):=by rw[IntWalk.i64_in _ ⟨aa,aa⟩];omega
   refine eE hJ mixed 9 ⟨ro,[(b,Obj.cells F 3)]⟩ aL aj ?_
   obtain ⟨l,V⟩:∃x,u0[p+1]?=some x:=⟨u0[p+1],by simp[U]⟩
   obtain ⟨I,K,L⟩:=hg.jJ V
   obtain rfl:I=[.int .i64 l]:=K
   have W:=L 0 _ rfl
   simp only[go_sem] at W
   have df:=(Array.getElem?_eq_some_iff.1 W).1
   obtain ⟨o,X⟩:∃x,u0[p]?=some x:=⟨u0[p],by simp[Nat.lt_of_succ_lt U]⟩
   obtain ⟨M,N,O⟩:=hg.jJ X
   obtain rfl:M=[.int .i64 o]:=N
   have Y:=O 0 _ rfl
   simp only[go_sem] at Y
   have dk:=(Array.getElem?_eq_some_iff.1 Y).1
   have dp:¬((p+1:Nat):Int)<0:=aa
   have b2:((p+1:Nat):Int)<(u0.length:Int):=aa
   have b3:¬(p:Int)<0:=aa
   have b4:(p:Int)<(u0.length:Int):=aa
   have b5:(0:Int)<=((p+1:Nat):Int):=aa
   have dq:(0:Int)<=(p:Int):=aa
   apply ag _
   have bl:u0.getD (p+1) 0=l:=by rw[List.getD_eq_getElem?_getD,V];rfl
   have bm:u0.getD p 0=o:=by rw[List.getD_eq_getElem?_getD,X];rfl
   have Z:kC u0 (p+1)=(l != o):=by unfold kC;rw[bl,Nat.add_sub_cancel,bm];simp
   clear L O
   by_cases P:l=o
   .subst P
    refine eF hJ (by simp only[*,go_sem,beq_self_eq_true]) ?_
    repeat refine ah hJ ?_
    refine aQ hJ ?_
    have ds:p+1<=u0.length:=T
    have dt:p+1<=cap:=aa
    have du:((p+1:Nat):Int)<=(u0.length:Int):=aa
    have dv:u0.length<=cap:=le
    have dC:¬cap=p+1:=aa
    apply ag _
    have bo:slot g 4=slot g 4:=rfl
    repeat refine ah hJ ?_
    refine aQ hJ ?_
    apply ag _
    repeat refine ah hJ ?_
    refine aW hJ ?_
    have e0:g8 u0 (p+2)=u0.take (p+1):=by
     show g8 u0 (p+1)++cond (kC u0 (p+1)) _ _=_
     rw[Z,uB u0 _ T H];simp
    refine bW hJ [3,5,29,30,31,32,33,34,35,36,37,38,39,40,41,42,43,44,45,46,47,48,49,50,51,52,53] (fun br u F'=>∃(m w:Nat) (arr:Array Value) (x:List Int),1<=m/\m<=u0.length - (p+1)/\u0.length - (p+1) - m<=br/\F'=⟨ro,[(b,Obj.cells arr 3)]⟩/\slot u 5= .int .i64 (m:Int)/\slot u 3= .int .i64 (w:Int)/\
     aZ rI ro 3 (.slice (some ⟨b,0,none⟩) u0.length cap) x [(b,.cells arr 3)]/\x.length=u0.length/\(g8 u0 (p+(1+m))).length=w/\w<=p+m/\x.take w=g8 u0 (p+(1+m))/\∀j,p+m<=j->x[j]?=u0[j]?) u0.length ?_ ?_
    .refine ⟨1,p+1,F,u0,Nat.le_refl _,aa,aa,rfl,?_,?_,hg,rfl,?_,Nat.le_refl _,e0.symm,fun _ _=>rfl⟩
     .apply ag _;rfl
     .simp only[*,go_sem]
     .show (g8 u0 (p+2)).length=p+1
      rw[e0,List.length_take];omega
    .rintro ab C F' s ⟨m,w,arr,x,L,O,dE,rfl,dT,ea,d,ae,t,eb,D,E⟩
     have ec:sz C=61:=by rw[s.size];simp only[*,go_sem]
     have ed:C.defers=[]:=by rw[s.defers];simp only[*,go_sem]
     have eh:slot C 0= .slice (some ⟨b,0,none⟩) u0.length cap:=by rw[s.ga 0 aD];simp only[*,go_sem]
     have et:slot C 4= .slice (some ⟨b,p+1,none⟩) (u0.length - (p+1)) (cap - (p+1)):=by rw[s.ga 4 aD];simp only[*,go_sem]
     clear s bd bj bk bc bo
     repeat refine ah hJ ?_
     refine aQ hJ ?_
     apply ag _
     by_cases ev:m<u0.length - (p+1)
     .have bs:decide (((m:Nat):Int)<((u0.length - (p+1):Nat):Int))=true:=decide_eq_true aa
      refine eF hJ aL ?_
      refine aN hJ ?_
      repeat refine ah hJ ?_
      refine aW hJ ?_
      repeat refine ah hJ ?_
      obtain ⟨q,rfl⟩:∃q,m=q+1:=⟨m - 1,aa⟩
      have eQ:IntKind.i64.wrap (((q+1:Nat):Int) - 1)=(q:Int):=by rw[IntWalk.i64_in _ ⟨aa,aa⟩];omega
      refine eE hJ mixed 9 ⟨ro,[(b,Obj.cells arr 3)]⟩ aL aj ?_
      obtain ⟨a,al⟩:∃y,u0[p+(1+(q+1))]?=some y:=⟨u0[p+(1+(q+1))]'aa,List.getElem?_eq_getElem _⟩
      obtain ⟨I,K,ao⟩:=d.jJ ((E _ aa).trans al)
      obtain rfl:I=[.int .i64 a]:=K
      have ar:=ao 0 _ rfl
      simp only[go_sem] at ar
      have eS:=(Array.getElem?_eq_some_iff.1 ar).1
      obtain ⟨f,a0⟩:∃y,u0[p+(1+q)]?=some y:=⟨u0[p+(1+q)]'aa,List.getElem?_eq_getElem _⟩
      obtain ⟨M,N,a2⟩:=d.jJ ((E _ aa).trans a0)
      obtain rfl:M=[.int .i64 f]:=N
      have a3:=a2 0 _ rfl
      simp only[go_sem] at a3
      have eV:=(Array.getElem?_eq_some_iff.1 a3).1
      have c1:¬((q+1:Nat):Int)<0:=aa
      have c2:((q+1:Nat):Int)<((u0.length - (p+1):Nat):Int):=aa
      have c3:¬(q:Int)<0:=aa
      have c4:(q:Int)<((u0.length - (p+1):Nat):Int):=aa
      have e2:(0:Int)<=((q+1:Nat):Int):=aa
      have e3:(0:Int)<=(q:Int):=aa
      apply ag _
      have a4:u0.getD (p+(1+(q+1))) 0=a:=by rw[List.getD_eq_getElem?_getD,al];rfl
      have bz:u0.getD (p+(1+q)) 0=f:=by rw[List.getD_eq_getElem?_getD,a0];rfl
      have bS:kC u0 (p+(1+(q+1)))=(a != f):=by
       unfold kC
       have b0:p+(1+(q+1)) - 1=p+(1+q):=aa
       rw[b0,a4,bz]
       have:(p+(1+(q+1))==0)=false:=av
       rw[this,Bool.false_or]
      have e1:g8 u0 (p+(1+(q+1+1)))=g8 u0 (p+(1+(q+1)))++cond (a != f) [a] []:=by
       show g8 u0 (p+(1+(q+1)))++cond (kC u0 (p+(1+(q+1)))) [u0.getD (p+(1+(q+1))) 0] []=_
       rw[bS,a4]
      have fa:IntKind.i64.wrap (((q+1:Nat):Int)+1)=((q+1+1:Nat):Int):=by rw[IntWalk.i64_in _ ⟨aa,aa⟩];omega
      clear ao a2 t
      have t:(g8 u0 (p+(1+(q+1)))).length=w:=by rw[<-D,List.length_take];omega
      by_cases a5:a=f
      .subst a5
       simp only[bne_self_eq_false,cond_false,List.append_nil] at e1
       refine ew hJ (by simp only[*,go_sem,bne_self_eq_false]) ?_
       refine aN hJ ?_
       refine aQ hJ ?_
       apply ag _
       refine ⟨ab - 1,aa,_,Le.refl _,q+1+1,w,arr,x,aa,aa,aa,rfl,?_,?_,d,ae,by rw[e1];exact t,aa,by rw[e1];exact D,fun j c=>E j aa⟩
       .simp only[*,go_sem]
       .simp only[*,go_sem]
      .have b1:(a != f)=true:=by simpa using a5
       rw[b1] at e1
       simp only[cond_true] at e1
       refine eF hJ aL ?_
       repeat refine ah hJ ?_
       refine aQ hJ ?_
       have d1:(w:Int)<(u0.length:Int):=aa
       have d2:¬(w:Int)<0:=aa
       have d3:(0:Int)<=(w:Int):=aa
       have fb:w<arr.size:=aa
       apply ag _
       have ca:aZ rI ro 3 (.slice (some ⟨b,0,none⟩) u0.length cap) (x.set w a) [(b,Obj.cells (c9 arr w [.int .i64 a]) 3)]:=by
        have cb:=d.tu (i:=w) (y:=a) aa (cs:=[.int .i64 a]) rfl
        simpa only[tB,Nat.mul_one,Nat.add_zero] using cb
       have fg:IntKind.i64.wrap ((w:Int)+1)=((w+1:Nat):Int):=by rw[IntWalk.i64_in _ ⟨aa,aa⟩];omega
       refine aQ hJ ?_
       apply ag _
       refine aQ hJ ?_
       apply ag _
       refine ⟨ab - 1,aa,_,Le.refl _,q+1+1,w+1,_,x.set w a,aa,aa,aa,rfl,?_,?_,ca,by rw[List.length_set];exact ae,?_,aa,?_,fun j c=>?_⟩
       .simp only[*,go_sem]
       .simp only[*,go_sem]
       .rw[e1,List.length_append,t];rfl
       .rw[e1,<-D,List.take_succ,List.take_set_of_le (Nat.le_refl _),List.getElem?_set_self aa];rfl
       .rw[List.getElem?_set_ne aa];exact E j aa
     .have bs:decide (((m:Nat):Int)<((u0.length - (p+1):Nat):Int))=false:=decide_eq_false aa
      refine ew hJ aL ?_
      refine bP ?_
      simp only[go_sem]
      have a6:p+(1+m)=u0.length:=aa
      rw[a6] at t
      have d1:(w:Int)<=(u0.length:Int):=aa
      have d2:¬(w:Int)<0:=aa
      have d3:(0:Int)<=(w:Int):=aa
      have d4:w<=u0.length:=aa
      have d5:w<=cap:=aa
      have d6:¬cap=w:=aa
      have d7:(0:Int)<=(w:Int):=aa
      have d8:(w:Int)<=(cap:Int):=aa
      have cd:w+(u0.length - w)<=arr.size:=by
       obtain ⟨ls,cf,hl,-⟩:=id d
       rcases cf with ⟨a7,_,_⟩|⟨fi,fp,fr,a7,cl,hs,hle,_⟩
       .cases a7
       .cases cl
        have:rI.n=1:=rfl
        rw[this,Nat.mul_one] at hs
        omega
      repeat refine ah hJ ?_
      refine aQ hJ ?_
      simp only[*,go_sem,ite_false,if_false]
      refine Hl (pre:=[]) (bE:=[]) (z:=.int .i64 0) (zc:=.int .i64 0) rfl (by kernel_rfl:Tryz.prog.underlying 35=some (.slice 3)) aj rfl rfl aa (by simp[ax]) cd ?_
      dsimp only[List.nil_append]
      repeat refine ah hJ ?_
      refine aQ hJ ?_
      apply ag _
      refine aT ?_
      apply ag _
      refine ⟨_,?_,Le.refl _⟩
      have:=d.clear (k:=w) aa
      rw[D,a6] at this
      simpa only[ite_self,Nat.sub_zero] using this
   .have aO:(l==o)=false:=by simpa using P
    refine ew hJ aL ?_
    refine aN hJ ?_
    refine aQ hJ ?_
    have fs:IntKind.i64.wrap (((p+1:Nat):Int)+1)=((p+2:Nat):Int):=by rw[IntWalk.i64_in _ ⟨aa,aa⟩];omega
    apply ag _
    refine ⟨bb - 1,aa,_,Le.refl _,p+2,aa,aa,aa,rfl,aL,fun j c=>?_⟩
    rcases Nat.lt_succ_iff_lt_or_eq.1 c with c|rfl
    .exact H j c
    .rw[Z];simpa using P
  .have hb:decide (((k:Nat):Int)<(u0.length:Int))=false:=decide_eq_false aa
   refine ew hJ aL ?_
   refine bP ?_
   simp only[go_sem]
   repeat refine ah hJ ?_
   refine aQ hJ ?_
   apply ag _
   refine aT ?_
   apply ag _
   obtain rfl:k=u0.length:=aa
   rw[uB u0 _ (Nat.le_refl _) H,List.take_length]
   exact ⟨_,hg,Le.refl _⟩
def uD (n:Int):Option (List Int):=if 0<=n/\n<=1000 then some [] else none
theorem IM {ro:Addr->Option Value}{R:Value->af->Prop}{n:Nat}(o:0<n)(p:n<=1000){own:List (Nat×Obj)}
  (h:∀(k b:Nat) (arr:Array Value),n<=k->arr.size=k->eD ⟨ro,own⟩ b->R (.slice (some ⟨b,0,none⟩) n k) ⟨ro,(b,.cells arr 3)::own⟩):
  mY Tryz.prog #[35,3] (.slice none 0 0) (.int .i64 (n:Int)) R ⟨ro,own⟩:=by
 intro ty
 have c:Tryz.prog.underlying 35=some (.slice 3):=aj
 have d:Tryz.prog.underlying 3=some (.int .i64):=aj
 have e:cv Tryz.prog 3=some 1:=aj
 have f:zeroOf Tryz.prog 3=some (.int .i64 0):=aj
 obtain ⟨info,g,i⟩:∃info,Tryz.prog.info? 3=some info/\info.bytes=8:=⟨_,rfl,aj⟩
 have w1:IntKind.i64.wrap (n:Int)=(n:Int):=IntWalk.i64_in _ ⟨aa,aa⟩
 have c1:¬(n:Int)<0:=aa
 have c2:¬(n:Int)*(8:Nat)>2 ^ 48:=aa
 have c3:¬0+n<=0:=aa
 simp only[Builtin.append_,List.getElem?_toArray,List.getElem?_cons_zero,List.getElem?_cons_succ,bG,dR,c,d,fy,e,bQ,AE,if_true,dP,w1,if_neg c1,qF,g,i]
 rw[if_neg c2]
 simp only[Int.toNat_natCast,Nat.zero_add,Bool.not_true,Bool.false_eq_true,if_false]
 have c4:¬n<=0:=aa
 have j:¬((n:Int)>IntKind.i64.max/\(True\/8=0)):=by
  have:IntKind.i64.max=9223372036854775807:=aD
  rw[this];omega
 have l:¬Builtin.nextslicecap n 0*8>2 ^ 48:=by
  unfold Builtin.nextslicecap
  rw[if_pos aa]
  omega
 have m:¬n*1=0:=aa
 rw[if_neg c4,if_neg j,if_neg l]
 rw[vY]
 rw[if_neg (by simp[Question.forced])]
 intro t
 have a:n<=(Question.appendCap n 0 3).cut t:=Nat.le_add_right _ _
 generalize (Question.appendCap n 0 3).cut t=k at a ⊢
 refine wv _ ?_
 simp only[Builtin.firstCells,bQ,if_neg m,mR,f,sU,bG]
 intro b hb
 refine ⟨_,Le.refl _,h k b _ a ?_ hb⟩
 simp only[Array.size_append,Builtin.zeroCells,Array.size_map,Array.size_range,Value.cells]
 simp
 omega
theorem IN {ro:Addr->Option Value}(n:Int){x:List Int}(h:uD n=some x):aI Tryz.prog 125 #[.slice none 0 0,.int .i64 n] ⟨ro,[]⟩ (fun v G=>∃c,aZ rI ro 3 v x c/\Le ⟨ro,c⟩ G):=by
 unfold uD at h;split at h
 case isFalse=>cases h
 rename_i g;obtain rfl:=Option.some.inj h;obtain ⟨n,rfl⟩:∃m:Nat,n=m:=⟨n.toNat,aa⟩
 refine aI.go Tryz.func125 rfl Tryz.ntmps125 Tryz.results125 av fun main J hJ A j hd hs=>?_;have l:=hs 0;have k1:=hs 1;clear hs;repeat apply ah hJ
 apply aE hJ _;repeat apply ah hJ
 apply aE hJ _;repeat apply ah hJ
 have o:¬(n:Int)<0:=aa;refine ew hJ (by simp only[*,go_sem,decide_false]) ?_;apply aN hJ;repeat apply ah hJ
 apply aE hJ _;refine BM rfl (by kernel_rfl:Tryz.prog.underlying 35=some (.slice 3)) (aP ?_);have e1:IntKind.i64.wrap (((0:Nat):Int) - ((0:Nat):Int))=0:=aD;have p:IntKind.i64.wrap ((0:Int) - (0:Int))=0:=aD;have e2:IntKind.i64.wrap ((n:Int) - 0)=(n:Int):=by rw[IntWalk.i64_in _ ⟨aa,aa⟩];omega
 apply ag _;repeat apply ah hJ
 apply aE hJ _;repeat apply ah hJ
 by_cases d:0<n
 .have b2:(n:Int)>0:=aa;refine eF hJ (by simp only[*,go_sem,decide_true]) ?_;repeat apply ah hJ
  apply aE hJ _;refine BM rfl (by kernel_rfl:Tryz.prog.underlying 35=some (.slice 3)) (aP ?_);apply ag _;try simp only[Nat.le_refl,Int.le_refl,and_self,if_true,true_and]
  refine IM d aa fun k b arr hk e hb=>aP ?_;have f:∀off sp,ro ⟨b,off,sp⟩=none:=hb.ro;have b3:(0:Int)<=(k:Int):=aa;simp only[*,go_sem,Int.le_refl,and_self,if_true,ite_self,Nat.sub_zero];repeat apply ah hJ
  apply aE hJ _;refine bX ?_;refine ⟨[(b,.cells arr 3)],⟨[],.inr ⟨b,arr,k,rfl,rfl,?_,Nat.zero_le _,?_,fun x a=>(by cases a),f⟩,rfl,Nat.zero_le _,fun i x a=>by simp at a⟩,Le.refl _⟩
  .show arr.size=k*1;rw[e,Nat.mul_one]
  .simp
 .have b2:¬(0:Int)<(n:Int):=aa;refine ew hJ (by simp only[*,go_sem,decide_false]) ?_;apply aN hJ;repeat apply ah hJ
  apply aE hJ _;refine bX ?_;exact ⟨[],aZ.nil _ _ _,Le.refl _⟩
def uE (u0:an):Option (an×Int):=
 ai (gO u0 ([]:(List (an->Option Int)))) fun a=>cond ((a.2 != 0)) (some ((⟨0,0,(⟨0,0⟩:au),([]:(List cj)),([]:(List cm)),([]:(List cA)),([]:(List cn))⟩:an),a.2)) (ai (xx u0.az) fun b=>ai (rG u0.props) fun c=>ai (uk u0.aK) fun d=>ai (uj u0.told) fun e=>some ((⟨u0.bZ,u0.cg,u0.bp,b,c,d,e⟩:an),0))
theorem x4 {ro:Addr->Option Value}(a6:dM ro)(u0:an){s1 z B C:Value}(E:bR ro u0 s1 z B C){r:(an×Int)}(h:uE u0=some r):eH Tryz.prog 117 #[bv u0 s1 z B C] ro (fun v bf=>∃ao w1 w2 w3,v= .tuple #[bv r.1 ao w1 w2 w3,.int .i64 r.2]/\bR bf r.1 ao w1 w2 w3):=by
 unfold uE at h;have a7:=E.oc;simp only[bU] at a7;refine aI.go Tryz.func117 rfl Tryz.ntmps117 Tryz.results117 av fun main J hJ A a8 hd hs=>?_;have a9:=hs 0;clear hs;apply aB hJ _;refine aA fun a F ba=>?_;try simp only[ax] at ba
 refine aA fun b G bb=>?_;try simp only[ax] at bb
 refine ah hJ (aF hJ ?_);revert h;refine bS fun c bc h=>?_;apply ag _;refine cc hJ _ (kA a6 u0 E ([]:(List (an->Option Int))) (aH.nil _ _) bc) fun v U ae al bd=>?_;obtain ⟨d,f,g,i,j,rfl,bj,bl⟩:=bd;have bm:=bj.oc;simp only[bU] at bm;have bo:=bl.oc;simp only[bU] at bo;replace E:=E.mono ae;replace G:=al.hd;replace F:=al.tl.hd;simp only[bt] at al;apply aP;apply ag _;refine aA fun k K br=>?_;try simp only[ax] at br
 apply aB hJ _;revert h;refine aV hJ (fun bs h=>?_) fun bs h=>?_
 .cases h;apply aB hJ _;refine bX ?_;exact ⟨_,ae,Le.sub (List.nil_sublist _),_,_,_,_,rfl,⟨aH.nil _ _,aH.nil _ _,aH.nil _ _,aH.nil _ _⟩⟩
 refine aN hJ (ah hJ ?_);refine ay hJ fun cS=>?_;refine fC hJ mixed [13,14,15,16,17,18,19] (.pure 0 (.rd 1 (.pure 3 (.rd 4 (.pure 6 (.rd 7 (.pure 9 (.rd 10 (.one 2 (.pure 12 (.one 5 (.one 8 (.one 11 (.last 13 (.pure 14 (.last 15 (.pure 16 (.last 17 (.pure 18 (.last 19 .done)))))))))))))))))))) ⟨U,[(k,kn c.1 d f g i j),(b,bz 29),(a,bk u0 s1 z B C)]⟩ aL aj ?_;revert h;refine bS fun m b0 h=>?_;apply ag _;refine ey hJ (bw:=[]) [(k,kn c.1 d f g i j),(b,bz 29),(a,bk u0 s1 z B C)] [] _ (Ij u0.az E.e b0) (fun c0 L ar M N da=>?_);simp only[aY] at N;subst M;obtain ⟨d158,n,rfl,db⟩:=ar.len;refine ⟨⟨U,(k,kn c.1 d f g i j)::(b,bz 29)::(a,bk u0 s1 z B C)::L⟩,Le.refl _,?_⟩;refine ⟨aL,cu ?_⟩;revert h;refine bS fun o b1 h=>?_;apply ag _;refine ey hJ (bw:=[]) [(k,kn c.1 d f g i j),(b,bz 29),(a,bk u0 s1 z B C)] L _ (BX u0.props E.p b1) (fun dd O V M N df=>?_);simp only[aY] at N;subst M;obtain ⟨d168,q,rfl,dk⟩:=V.len;refine ⟨⟨U,(k,kn c.1 d f g i j)::(b,bz 29)::(a,bk u0 s1 z B C)::(O++L)⟩,Le.refl _,?_⟩;refine ⟨aL,cu ?_⟩;revert h;refine bS fun s b2 h=>?_;apply ag _;refine ey hJ (bw:=[]) [(k,kn c.1 d f g i j),(b,bz 29),(a,bk u0 s1 z B C)] (O++L) _ (BW u0.aK E.y b2) (fun dp P H M N dq=>?_);simp only[aY] at N;subst M;obtain ⟨d178,u,rfl,ds⟩:=H.len;refine ⟨⟨U,(k,kn c.1 d f g i j)::(b,bz 29)::(a,bk u0 s1 z B C)::(P++(O++L))⟩,Le.refl _,?_⟩;refine ⟨aL,cu ?_⟩;revert h;refine bS fun w b3 h=>?_;cases h;apply ag _;refine ey hJ (bw:=[]) [(k,kn c.1 d f g i j),(b,bz 29),(a,bk u0 s1 z B C)] (P++(O++L)) _ (xw u0.told E.t b3) (fun dt Q D M N du=>?_);simp only[aY] at N;subst M;obtain ⟨d188,x,rfl,dv⟩:=D.len;refine ⟨⟨U,(k,kn c.1 d f g i j)::(b,bz 29)::(a,bk u0 s1 z B C)::(Q++(P++(O++L)))⟩,Le.refl _,?_⟩;refine ⟨aL,cu ?_⟩;apply ag _;apply ah hJ;refine fM [1,2,3] fun dC b4 b5 ca=>?_;simp only[*,go_sem] at b4 b5 ca;clear a8 hd a9;refine ay hJ fun dE=>?_;apply aE hJ _;refine ay hJ fun a0=>?_;obtain ⟨dT,X,R,I,cb⟩:=ar.l8 ((k,kn c.1 d f g i j)::(b,bk u0 (sl d158 m n) (sl d168 o q) (sl d178 s u) (sl d188 w x))::(a,bk u0 (sl d158 m n) (sl d168 o q) (sl d178 s u) (sl d188 w x))::(Q++(P++O))) ((k,kn c.1 d f g i j)::(b,bk u0 (sl d158 m n) (sl d168 o q) (sl d178 s u) (sl d188 w x))::(a,bk u0 (sl d158 m n) (sl d168 o q) (sl d178 s u) (sl d188 w x))::(Q++(P++O))) [] (by first|rfl|simp only[aY]|(simp only[aY];rfl)) (by first|rfl|simp only[aY]|(simp only[aY];rfl)) a0 (aJ.cons K (aJ.cons G (aJ.cons F (aJ.app D.gA (aJ.app H.gA (V.gA))))));clear a0;refine cB hJ cb ?_;obtain ⟨ea,eb,-⟩:=I.op;replace K:=R.hd;replace G:=R.tl.hd;replace F:=R.tl.tl.hd;replace D:=D.mono X R.tl.tl.tl.l;replace H:=H.mono X R.tl.tl.tl.r.l;replace V:=V.mono X R.tl.tl.tl.r.r;simp only[bt] at R;refine ay hJ fun a2=>?_;obtain ⟨ec,Y,S,T,cd⟩:=V.l8 ((k,kn c.1 d f g i j)::(b,bk u0 (sl d158 m n) (sl d168 o q) (sl d178 s u) (sl d188 w x))::(a,bk u0 (sl d158 m n) (sl d168 o q) (sl d178 s u) (sl d188 w x))::(Q++P)) ((k,kn c.1 d f g i j)::(b,bk u0 (sl d158 m n) (sl d168 o q) (sl d178 s u) (sl d188 w x))::(a,bk u0 (sl d158 m n) (sl d168 o q) (sl d178 s u) (sl d188 w x))::(Q++P)) [] (by first|rfl|simp only[aY]|(simp only[aY];rfl)) (by first|rfl|simp only[aY]|(simp only[aY];rfl)) a2 (aJ.cons K (aJ.cons G (aJ.cons F (aJ.app D.gA (H.gA)))));clear a2;refine cB hJ cd ?_;obtain ⟨ed,eh,-⟩:=T.op;replace I:=I.mono Y;replace K:=S.hd;replace G:=S.tl.hd;replace F:=S.tl.tl.hd;replace D:=D.mono Y S.tl.tl.tl.l;replace H:=H.mono Y S.tl.tl.tl.r;simp only[bt] at S;refine ay hJ fun a3=>?_;obtain ⟨et,Z,W,ab,cf⟩:=H.l8 ((k,kn c.1 d f g i j)::(b,bk u0 (sl d158 m n) (sl d168 o q) (sl d178 s u) (sl d188 w x))::(a,bk u0 (sl d158 m n) (sl d168 o q) (sl d178 s u) (sl d188 w x))::Q) ((k,kn c.1 d f g i j)::(b,bk u0 (sl d158 m n) (sl d168 o q) (sl d178 s u) (sl d188 w x))::(a,bk u0 (sl d158 m n) (sl d168 o q) (sl d178 s u) (sl d188 w x))::Q) [] (by first|rfl|simp only[aY]|(simp only[aY];rfl)) (by first|rfl|simp only[aY]|(simp only[aY];rfl)) a3 (aJ.cons K (aJ.cons G (aJ.cons F (D.gA))));clear a3;refine cB hJ cf ?_;obtain ⟨ev,eQ,-⟩:=ab.op;replace I:=I.mono Z;replace T:=T.mono Z;replace K:=W.hd;replace G:=W.tl.hd;replace F:=W.tl.tl.hd;replace D:=D.mono Z W.tl.tl.tl;simp only[bt] at W;refine ay hJ fun a4=>?_;obtain ⟨eS,ad,cl,a5,cy⟩:=D.l8 ((k,kn c.1 d f g i j)::(b,bk u0 (sl d158 m n) (sl d168 o q) (sl d178 s u) (sl d188 w x))::(a,bk u0 (sl d158 m n) (sl d168 o q) (sl d178 s u) (sl d188 w x))::[]) [(k,kn c.1 d f g i j),(b,bk u0 (sl d158 m n) (sl d168 o q) (sl d178 s u) (sl d188 w x)),(a,bk u0 (sl d158 m n) (sl d168 o q) (sl d178 s u) (sl d188 w x))] [] (by first|rfl|simp only[aY]|(simp only[aY];rfl)) (by first|rfl|simp only[aY]|(simp only[aY];rfl)) a4 (aJ.cons K (aJ.cons G (aJ.cons F (aJ.nil _))));clear a4;refine cB hJ cy ?_;obtain ⟨eV,e0,-⟩:=a5.op;replace I:=I.mono ad;replace T:=T.mono ad;replace ab:=ab.mono ad;simp only[bt] at cl;refine bX ?_;exact ⟨_,((((ae).trans X).trans Y).trans Z).trans ad,Le.sub (List.nil_sublist _),_,_,_,_,rfl,⟨I,T,ab,a5⟩⟩
def x5 (u0:Int)(a:Int):Option Int:=
 ai (o9 u0) fun c=>ai (o9 a) fun b=>cond (c) (cond (b) (some 0) (some (-1))) (cond (b) (some 1) (cond (decide (u0<a)) (some (-1)) (cond (decide (a<u0)) (some 1) (some 0))))
theorem IP {ro:Addr->Option Value}(u0:Int)(a:Int){r:Int}(h:x5 u0 a=some r):aI Tryz.prog 146 #[.int .i64 u0,.int .i64 a] ⟨ro,[]⟩ (fun v _=>v= .int .i64 r):=by
 unfold x5 at h;refine aI.go Tryz.func146 rfl Tryz.ntmps146 Tryz.results146 av fun main J hJ A j hd hs=>?_;have k:=hs 0;have k1:=hs 1;clear hs;apply aB hJ _;apply aF hJ;revert h;refine bS fun l b h=>?_;apply ag _;refine bn hJ _ (uw u0 b) (aP ?_);apply ag _;apply aF hJ;revert h;refine bS fun m c h=>?_;apply ag _;refine bn hJ _ (uw a c) (aP ?_);apply ag _;refine ah hJ (aF hJ ?_);apply ag _;revert h;refine aV hJ (fun d h=>?_) fun d h=>?_
 .refine ah hJ (aF hJ ?_);apply ag _;revert h;refine aV hJ (fun e h=>?_) fun e h=>?_
  .cases h;apply aB hJ _;apply aT;simp only[*,go_sem]
  cases h;refine aN hJ (ah hJ ?_);apply aE hJ _;apply aT;simp only[*,go_sem]
 refine aN hJ (ah hJ ?_);apply aB hJ _;revert h;refine aV hJ (fun f h=>?_) fun f h=>?_
 .cases h;apply aB hJ _;apply aT;simp only[*,go_sem]
 refine aN hJ (ah hJ ?_);apply aB hJ _;revert h;refine aV hJ (fun g h=>?_) fun g h=>?_
 .cases h;apply aB hJ _;apply aT;simp only[*,go_sem]
 refine aN hJ (ah hJ ?_);apply aB hJ _;revert h;refine aV hJ (fun i h=>?_) fun i h=>?_
 .cases h;apply aB hJ _;apply aT;simp only[*,go_sem]
 cases h;refine aN hJ (ah hJ ?_);apply aE hJ _;apply aT;simp only[*,go_sem]
def x6 (a:(List Int))(i16:Nat)(c:Int)(st:Int):Option (Fl Int Int):=
 cond (decide ((a.length:Int)<=(i16:Int))) (some (.rt 1)) (ai (bu a (i16:Int)) fun d=>ai (x5 c d) fun b=>cond ((b != 0)) (some (.rt b)) (some (.nx st)))
def x7 (u0:(List Int))(a:(List Int)):Option Int:=
 ai (bM (x6 a) 0 u0 0) fun o=>aG o (fun b=>cond (decide ((u0.length:Int)<(a.length:Int))) (some (-1)) (some 0)) (fun _ _=>none) (fun r=>some r)
theorem IQ {ro:Addr->Option Value}(u0:(List Int)){s1:Value}(g:aH rI ro s1 u0)(d:(List Int)){i:Value}(j:aH rI ro i d){r:Int}(h:x7 u0 d=some r):aI Tryz.prog 111 #[s1,i] ⟨ro,[]⟩ (fun v _=>v= .int .i64 r):=by
 obtain ⟨d3,c4,rfl,U,w,-⟩:=id g;obtain ⟨d10,V,rfl,W,X,-⟩:=id j;unfold x7 at h;refine aI.go Tryz.func111 rfl Tryz.ntmps111 Tryz.results111 av fun main J hJ A y hd hs=>?_;have z:=hs 0;have k1:=hs 1;clear hs;apply aB hJ _;refine ah hJ (aF hJ ?_);apply ag _;apply aW hJ;revert h;refine bS fun B a e=>?_;refine bW hJ (rg 11 20 [4,5,6,7,8]) (fun m k F'=>∃(i16:Nat) (c:Int),m=u0.length - i16/\i16<=u0.length/\bM (x6 d) i16 (u0.drop i16) c=some B/\F'=⟨ro,[]⟩/\slot k 11= .int .i64 (i16:Int)/\slot k 4= .int .i64 c) u0.length ?_ ?_
 .refine ⟨0,0,(Nat.sub_zero _).symm,Nat.zero_le _,a,rfl,?_⟩;simp only[*,go_sem]
 rintro Y Z F' l ⟨i16,c,rfl,ab,a,rfl,ad,ae⟩;obtain ⟨C,D,E⟩:=l.pick [0,1,9,10] aD;simp only[*,go_sem] at C D E;clear l y hd z k1;apply aB hJ _;apply ah hJ;rcases Nat.lt_or_ge i16 u0.length with F|o
 .refine cW hJ ?_;apply aN hJ;obtain ⟨p,f⟩:∃x,u0[i16]?=some x:=⟨_,List.getElem?_eq_getElem F⟩
  rw[dJ f] at a;revert a;refine bS fun al h b=>?_;unfold x6 at h;try dsimp only at h
  obtain ⟨ao,G,H,I,q⟩:=g.el _ _ f;obtain rfl:G=[.int .i64 p]:=I;cases H;have K:=q 0 _ rfl;simp only[go_sem] at K;clear q f;refine ah hJ (aW hJ (ah hJ ?_));apply aE hJ _;refine ah hJ (aF hJ ?_);apply ag _;revert h;refine aV hJ (fun L h=>?_) fun L h=>?_
  .cases h;apply aB hJ _;obtain rfl:=sI b;clear b;have h:=e;dsimp only[aG] at h;cases h;apply aT;simp only[*,go_sem]
  refine aN hJ (ah hJ ?_);apply aQ hJ;revert h;refine bS fun s M h=>?_;obtain ⟨ar,a0,t⟩:=ck M;obtain ⟨a2,N,O,P,u⟩:=j.el _ _ t;obtain rfl:N=[.int .i64 s]:=P;cases O;have Q:=u 0 _ rfl;simp only[go_sem] at Q;clear u t;apply ag _;apply aF hJ;revert h;refine bS fun a3 R h=>?_;apply ag _;refine bn hJ _ (IP p s R) (aP ?_);apply ag _;apply aB hJ _;revert h;refine aV hJ (fun S h=>?_) fun S h=>?_
  .cases h;apply aB hJ _;obtain rfl:=sI b;clear b;have h:=e;dsimp only[aG] at h;cases h;apply aT;simp only[*,go_sem]
  cases h;apply aN hJ;have a4:=cM (n:=i16) (by have:=w;omega);apply aE hJ _;refine ⟨u0.length - (i16+1),aa,_,Le.sub (List.Sublist.refl _),i16+1,c,rfl,aa,b,rfl,?_⟩;simp only[*,go_sem]
 have a5:=Nat.not_lt.2 o;refine cJ hJ ?_;rw[List.drop_eq_nil_of_le o] at a;obtain rfl:=sI a;clear a;have h:=e;dsimp only[aG] at h;apply bP;simp only[go_sem];refine ah hJ (aF hJ ?_);apply ag _;revert h;refine aV hJ (fun T h=>?_) fun T h=>?_
 .cases h;apply aB hJ _;apply aT;simp only[*,go_sem]
 cases h;refine aN hJ (ah hJ ?_);apply aE hJ _;apply aT;simp only[*,go_sem]
def uF (u0:(List Int))(a:(List Int)):Option Bool:=
 cond (decide ((a.length:Int)<(u0.length:Int))) (some true) (cond (((a.length:Int)==(u0.length:Int))) (ai (x7 a u0) fun b=>some (decide (b<0))) (some false))
theorem IS {ro:Addr->Option Value}(u0:(List Int)){s1:Value}(d:aH rI ro s1 u0)(a:(List Int)){e:Value}(f:aH rI ro e a){r:Bool}(h:uF u0 a=some r):aI Tryz.prog 110 #[s1,e] ⟨ro,[]⟩ (fun v _=>v= .bool r):=by
 obtain ⟨d3,c4,rfl,i,j,-⟩:=id d;obtain ⟨d10,k,rfl,l,m,-⟩:=id f;unfold uF at h;refine aI.go Tryz.func110 rfl Tryz.ntmps110 Tryz.results110 av fun main J hJ A n hd hs=>?_;have o:=hs 0;have k1:=hs 1;clear hs;apply aB hJ _;apply aF hJ;revert h;refine cS (fun b h=>?_) fun b h=>?_
 .cases h;try simp only[Int.ofNat_lt] at b
  apply ag _;apply aT;simp only[*,go_sem]
 try simp only[Int.ofNat_lt] at b
 revert h;refine cS (fun c h=>?_) fun c h=>?_
 .try simp only[Int.ofNat_lt] at c
  revert h;refine bS fun p g h=>?_;cases h;apply ag _;refine bn hJ _ (IQ a (f.mono bq) u0 (d.mono bq) g) (aP ?_);apply ag _;apply aT;simp only[*,go_sem]
 cases h;try simp only[Int.ofNat_lt] at c
 apply ag _;apply aT;simp only[*,go_sem]
def uG (u0:an)(b:Int):Option (Int×Int):=
 ai (gO u0 ([(gd b)])) fun a=>cond ((a.2 != 0)) (some (0,a.2)) (ai (ua a.1 (fun c=>uf c a.1 b)) fun d=>some (d,0))
theorem B8 {ro:Addr->Option Value}(j:dM ro)(u0:an){s1 k l m:Value}(i:bR ro u0 s1 k l m)(c:Int){r:(Int×Int)}(h:uG u0 c=some r):aI Tryz.prog 23 #[bv u0 s1 k l m,.int .i64 c] ⟨ro,[]⟩ (fun v _=>v= .tuple #[.int .i64 r.1,.int .i64 r.2]):=by
 unfold uG at h;have G:=i.oc;simp only[bU] at G;refine aI.go Tryz.func23 rfl Tryz.ntmps23 Tryz.results23 av fun main J hJ A ae hd hs=>?_;have al:=hs 0;have k1:=hs 1;clear hs;apply aB hJ _;refine aA fun H I K=>?_;try simp only[ax] at K
 refine aA fun u L M=>?_;try simp only[ax] at M
 apply ah hJ;refine ay hJ fun N=>?_;apply aQ hJ;revert h;refine bS fun n O h=>?_;apply ag _;refine aA fun f w z=>?_;have B:=bg.cons z N;try simp only[ax] at z
 obtain ⟨q,C,D⟩:=fD (b:=f) (o:=(.cells #[.func (.func 86) #[.int .i64 c] #[]] 116)) [] ((u,ic c)::(H,bk u0 s1 k l m)::[]) B w (aJ.cons L (aJ.cons I (aJ.nil _)));have E:aH (dG) (b9 ro f (.cells #[.func (.func 86) #[.int .i64 c] #[]] 116)) (.slice (some ⟨f,0,none⟩) 1 1) [(gd c)]:=(aH.one (r:=(dG)) (e:=116) (cs:=#[.func (.func 86) #[.int .i64 c] #[]]) (x:=(gd c)) (own:=[(f,.cells #[.func (.func 86) #[.int .i64 c] #[]] 116)]) w (by simp[lk]) ⟨86,#[.int .i64 c],#[],rfl,⟨by simp only[go_sem],fun P a g _ _ _ _ _ Q R S T h=>by simp only[go_sem];exact tF c g ⟨Q,R,S,T⟩ h⟩⟩)
 generalize b9 ro f (.cells #[.func (.func 86) #[.int .i64 c] #[]] 116)=ao at E C q D;refine gI hJ D ?_;replace i:=i.mono q;replace j:=j.mono q;simp only[bt] at C;have U:=bg.tl B;refine cc hJ _ (kA j u0 i ([(gd c)]) E O) fun v ar a0 V W=>?_;obtain ⟨a2,a3,a4,a5,a6,rfl,d,s⟩:=W;have X:=d.oc;simp only[bU] at X;simp only[bt] at V;obtain ⟨d41,a7,rfl,a8,a9,-⟩:=id d.e;obtain ⟨d48,ba,rfl,bb,bc,-⟩:=id d.p;obtain ⟨d55,bd,rfl,bj,bl,-⟩:=id d.y;obtain ⟨d62,bm,rfl,bo,br,-⟩:=id d.t;obtain ⟨d69,bs,rfl,bz,b0,-⟩:=id s;apply aP;apply ag _;refine aA fun Y b1 F=>?_;have b2:=bg.cons F U;try simp only[ax] at F
 refine ah hJ (aF hJ ?_);apply ag _;revert h;refine aV hJ (fun Z h=>?_) fun Z h=>?_
 .cases h;apply aB hJ _;apply aT;simp only[*,go_sem]
 refine aN hJ (ah hJ ?_);apply aQ hJ;revert h;refine bS fun b3 ab h=>?_;cases h;apply ag _;refine bn hJ _ (BV (dY:=96) (eN:=#[]) (eO:=#[.pointer (some ⟨Y,0,none⟩),.pointer (some ⟨u,0,none⟩)]) n.1 (d.mono bq) (s.mono bq) (fun g=>uf g n.1 c) ⟨by simp only[go_sem],fun P a g b4 ad=>by simp only[go_sem];exact Ic g n.1 (a _ _ (by simp only[af.cO,go_sem, *])) (a _ _ (by simp only[af.cO,go_sem, *])) (a _ _ (by simp only[af.cO,go_sem, *])) (a _ _ (by simp only[af.cO,go_sem, *])) ((d.e.mono bq).mono a) (a _ _ (by simp only[af.cO,go_sem, *])) ((d.p.mono bq).mono a) (a _ _ (by simp only[af.cO,go_sem, *])) ((d.y.mono bq).mono a) (a _ _ (by simp only[af.cO,go_sem, *])) ((d.t.mono bq).mono a) (a _ _ (by simp only[af.cO,go_sem, *])) ((s.mono bq).mono a) (a _ _ (by simp only[af.cO,go_sem, *])) c (a _ _ (by simp only[af.cO,go_sem, *])) ad⟩ ab) (aP ?_);apply ag _;apply aT;simp only[*,go_sem]
def rN (u0:an):Option (Int×Int):=
 ai (gO u0 ([]:(List (an->Option Int)))) fun a=>cond ((a.2 != 0)) (some (0,a.2)) (ai (ua a.1 (fun b=>ug b a.1)) fun c=>some (c,0))
theorem uH {ro:Addr->Option Value}(l:dM ro)(u0:an){s1 g i j:Value}(k:bR ro u0 s1 g i j){r:(Int×Int)}(h:rN u0=some r):aI Tryz.prog 25 #[bv u0 s1 g i j] ⟨ro,[]⟩ (fun v _=>v= .tuple #[.int .i64 r.1,.int .i64 r.2]):=by
 unfold rN at h;have m:=k.oc;simp only[bU] at m;refine aI.go Tryz.func25 rfl Tryz.ntmps25 Tryz.results25 av fun main J hJ A D hd hs=>?_;have E:=hs 0;clear hs;apply aB hJ _;refine aA fun F G n=>?_;try simp only[ax] at n
 apply aF hJ;revert h;refine bS fun c o h=>?_;apply ag _;refine cc hJ _ (kA l u0 k ([]:(List (an->Option Int))) (aH.nil _ _) o) fun v H I q s=>?_;obtain ⟨K,L,M,N,O,rfl,b,d⟩:=s;have u:=b.oc;simp only[bU] at u;simp only[bt] at q;obtain ⟨d37,P,rfl,Q,R,-⟩:=id b.e;obtain ⟨d44,S,rfl,T,U,-⟩:=id b.p;obtain ⟨d51,V,rfl,W,X,-⟩:=id b.y;obtain ⟨d58,Y,rfl,Z,ab,-⟩:=id b.t;obtain ⟨d65,ad,rfl,ae,al,-⟩:=id d;apply aP;apply ag _;refine aA fun w ao x=>?_;try simp only[ax] at x
 refine ah hJ (aF hJ ?_);apply ag _;revert h;refine aV hJ (fun z h=>?_) fun z h=>?_
 .cases h;apply aB hJ _;apply aT;simp only[*,go_sem]
 refine aN hJ (ah hJ ?_);apply aQ hJ;revert h;refine bS fun ar B h=>?_;cases h;apply ag _;refine bn hJ _ (BV (dY:=100) (eN:=#[]) (eO:=#[.pointer (some ⟨w,0,none⟩)]) c.1 (b.mono bq) (d.mono bq) (fun f=>ug f c.1) ⟨by simp only[go_sem],fun a0 a f a2 C=>by simp only[go_sem];exact Ie f c.1 (a _ _ (by simp only[af.cO,go_sem, *])) (a _ _ (by simp only[af.cO,go_sem, *])) (a _ _ (by simp only[af.cO,go_sem, *])) (a _ _ (by simp only[af.cO,go_sem, *])) ((b.e.mono bq).mono a) (a _ _ (by simp only[af.cO,go_sem, *])) ((b.p.mono bq).mono a) (a _ _ (by simp only[af.cO,go_sem, *])) ((b.y.mono bq).mono a) (a _ _ (by simp only[af.cO,go_sem, *])) ((b.t.mono bq).mono a) (a _ _ (by simp only[af.cO,go_sem, *])) ((d.mono bq).mono a) (a _ _ (by simp only[af.cO,go_sem, *])) C⟩ B) (aP ?_);apply ag _;apply aT;simp only[*,go_sem]
def x8 (a:(dn×Int))(i74:Nat)(i83:Nat)(b:bD)(st:Int):Option (Fl Int (Int×Int×Int)):=
 ai (bD.get b (i74:Int)) fun c=>ai (jO a.1.book (i74:Int) c) fun d=>ai (g6 a.1.book d) fun e=>cond (e) (some (.nx (IntKind.i64.wrap (st+1)))) (some (.nx st))
def x9 (b:(dn×Int))(i74:Nat)(c:cA)(st:(Int×Int)):Option (Fl (Int×Int) (Int×Int×Int)):=
 ai (bM (x8 b i74) 0 b.1.all 0) fun o=>aG o (fun a=>cond (decide ((if a<IntKind.i64.wrap ((b.1.all.length:Int) - a) then IntKind.i64.wrap ((b.1.all.length:Int) - a) else a)<st.2)) (some (.nx ((i74:Int),(if a<IntKind.i64.wrap ((b.1.all.length:Int) - a) then IntKind.i64.wrap ((b.1.all.length:Int) - a) else a)))) (some (.nx (st.1,st.2)))) (fun _ _=>none) (fun r=>some (.rt r))
def ya (u0:an):Option (Int×Int×Int):=
 ai (gO u0 ([]:(List (an->Option Int)))) fun a=>cond ((a.2 != 0)) (some (0,0,a.2)) (ai (bM (x9 a) 0 a.1.book.aK ((-1),(a.1.all.length:Int))) fun o=>aG o (fun b=>some (b.1,b.2,0)) (fun _ _=>none) (fun r=>some r))
theorem IT {ro:Addr->Option Value}(V:dM ro)(u0:an){s1 g i j:Value}(w:bR ro u0 s1 g i j){r:(Int×Int×Int)}(h:ya u0=some r):aI Tryz.prog 47 #[bv u0 s1 g i j] ⟨ro,[]⟩ (fun v _=>v= .tuple #[.int .i64 r.1,.int .i64 r.2.1,.int .i64 r.2.2]):=by
 unfold ya at h;have W:=w.oc;simp only[bU] at W;refine aI.go Tryz.func47 rfl Tryz.ntmps47 Tryz.results47 av fun main J hJ A X hd hs=>?_;have Y:=hs 0;clear hs;apply aB hJ _;refine aA fun z dq Z=>?_;try simp only[ax] at Z
 apply aF hJ;revert h;refine bS fun a ab h=>?_;apply ag _;refine cc hJ _ (kA V u0 w ([]:(List (an->Option Int))) (aH.nil _ _) ab) fun v B ds ad ae=>?_;obtain ⟨C,D,dt,E,du,rfl,f,G⟩:=ae;have al:=f.oc;simp only[bU] at al;simp only[bt] at ad;obtain ⟨d51,H,rfl,dv,I,-⟩:=id f.y;obtain ⟨d65,K,rfl,dC,L,-⟩:=id G;apply aP;apply ag _;refine aA fun M dE ao=>?_;try simp only[ax] at ao
 refine ah hJ (aF hJ ?_);apply ag _;revert h;refine aV hJ (fun ar h=>?_) fun ar h=>?_
 .cases h;apply aB hJ _;apply aT;simp only[*,go_sem]
 refine aN hJ (ah hJ ?_);refine c5 hJ mixed 5 2 aL aj ?_;apply ag _;refine ah hJ (aF hJ ?_);apply ag _;apply aW hJ;revert h;refine bS fun a0 c a2=>?_;refine bW hJ (rg 27 36 [2,3,6,7,9,10]) (fun m e F'=>∃(i74:Nat) (k:Int) (l:Int),m=a.1.book.aK.length - i74/\i74<=a.1.book.aK.length/\bM (x9 a) i74 (a.1.book.aK.drop i74) (k,l)=some a0/\F'=⟨B,(M,kn a.1 C D (sl d51 a.1.book.aK H) E (sl d65 a.1.all K))::(z,bk u0 s1 g i j)::[]⟩/\slot e 27= .int .i64 (i74:Int)/\slot e 2= .int .i64 k/\slot e 3= .int .i64 l) a.1.book.aK.length ?_ ?_
 .refine ⟨0,(-1),(a.1.all.length:Int),(Nat.sub_zero _).symm,Nat.zero_le _,c,rfl,?_⟩;simp only[*,go_sem]
 rintro dT a3 F' N ⟨i74,k,l,rfl,ea,c,rfl,a4,a5,a6⟩;obtain ⟨O,P,Q⟩:=N.pick [4,5,26] aD;simp only[*,go_sem] at O P Q;clear N X hd Y;apply aB hJ _;apply ah hJ;rcases Nat.lt_or_ge i74 a.1.book.aK.length with a7|R
 .refine cW hJ ?_;apply aN hJ;obtain ⟨a8,q⟩:∃x,a.1.book.aK[i74]?=some x:=⟨_,List.getElem?_eq_getElem a7⟩
  rw[dJ q] at c;revert c;refine bS fun eb h S=>?_;unfold x9 at h;try dsimp only at h
  obtain ⟨a9,ba,bb,bc,o⟩:=f.y.el _ _ q;obtain rfl:ba=a8.cells:=bc;cases bb;have bd:=o 0 _ rfl;simp only[go_sem] at bd;have bj:=o 1 _ rfl;simp only[go_sem] at bj;have bl:=o 2 _ rfl;simp only[go_sem] at bl;clear o q;refine ah hJ (aW hJ (ah hJ ?_));apply aE hJ _;apply aB hJ _;refine ah hJ (aF hJ ?_);apply ag _;apply aW hJ;revert h;refine bS fun bm d bo=>?_;refine bW hJ (rg 33 17 [7,9]) (fun m e F'=>∃(i83:Nat) (b:Int),m=a.1.all.length - i83/\i83<=a.1.all.length/\bM (x8 a i74) i83 (a.1.all.drop i83) b=some bm/\F'=⟨B,(M,kn a.1 C D (sl (some a9) a.1.book.aK H) E (sl d65 a.1.all K))::(z,bk u0 s1 g i j)::[]⟩/\slot e 33= .int .i64 (i83:Int)/\slot e 7= .int .i64 b) a.1.all.length ?_ ?_
  .refine ⟨0,0,(Nat.sub_zero _).symm,Nat.zero_le _,d,rfl,?_⟩;simp only[*,go_sem]
  rintro ec br F' s ⟨i83,b,rfl,ed,d,rfl,eh,et⟩;obtain ⟨bs,bz,b0⟩:=s.pick [2,3,4,5,6,26,27,28,29,30,31,32] aD;simp only[*,go_sem] at bs bz b0;have ev:cF (rg 27 36 [2,3,6,7,9,10]) br a3:=(s.eG aD).trans aL;clear s O P Q a5 a6 a4;apply aB hJ _;apply ah hJ;rcases Nat.lt_or_ge i83 a.1.all.length with b1|T
  .refine cW hJ ?_;apply aN hJ;obtain ⟨b2,t⟩:∃x,a.1.all[i83]?=some x:=⟨_,List.getElem?_eq_getElem b1⟩
   rw[dJ t] at d;revert d;refine bS fun eQ h U=>?_;unfold x8 at h;(try dsimp only at h);obtain ⟨eS,b3,b4,b5,p⟩:=G.el _ _ t;obtain rfl:b3=b2.cells:=b5;cases b4;have ca:=p 0 _ rfl;simp only[go_sem] at ca;have cb:=p 1 _ rfl;simp only[go_sem] at cb;have cd:=p 2 _ rfl;simp only[go_sem] at cd;clear p t;refine ah hJ (aW hJ (ah hJ ?_));apply aE hJ _;refine aA fun eV e0 cf=>?_;try simp only[ax] at cf
   apply ah hJ;refine c5 hJ mixed 10 3 aL aj ?_;revert h;refine bS fun cl cy h=>?_;obtain ⟨e1,e2,cS⟩:=bD.get_some cy;(try simp only[go_sem] at cS);revert h;refine bS fun c0 da h=>?_;apply ag _;refine ⟨_,bL hJ fun F u=>nh a.1.book (f.mono (cq u)) (i74:Int) cl da,cw ?_⟩;revert h;refine bS fun e3 db h=>?_;apply ag _;refine ⟨_,bL hJ fun F u=>ny a.1.book (f.mono (cq u)) c0 db,?_⟩;revert h;refine aV hJ (fun dd h=>?_) fun dd h=>?_
   .cases h;apply aE hJ _;have df:=cM (n:=i83) (by have:=L;omega);apply aE hJ _;refine ⟨a.1.all.length - (i83+1),aa,_,Le.sub (List.Sublist.cons _ (List.Sublist.refl _)),i83+1,(IntKind.i64.wrap (b+1)),rfl,aa,U,rfl,?_⟩;simp only[*,go_sem]
   cases h;apply aN hJ;have df:=cM (n:=i83) (by have:=L;omega);apply aE hJ _;refine ⟨a.1.all.length - (i83+1),aa,_,Le.sub (List.Sublist.cons _ (List.Sublist.refl _)),i83+1,b,rfl,aa,U,rfl,?_⟩;simp only[*,go_sem]
  have fa:=Nat.not_lt.2 T;refine cJ hJ ?_;rw[List.drop_eq_nil_of_le T] at d;obtain rfl:=sI d;clear d;have h:=bo;dsimp only[aG] at h;apply bP;simp only[go_sem];apply aB hJ _;apply aB hJ _;revert h;refine aV hJ (fun dk h=>?_) fun dk h=>?_
  .cases h;apply aE hJ _;have dp:=cM (n:=i74) (by have:=I;omega);apply aE hJ _;refine ⟨a.1.book.aK.length - (i74+1),aa,_,Le.sub (List.Sublist.refl _),i74+1,(i74:Int),(if b<IntKind.i64.wrap ((a.1.all.length:Int) - b) then IntKind.i64.wrap ((a.1.all.length:Int) - b) else b),rfl,aa,S,rfl,?_⟩;simp only[*,go_sem]
  cases h;apply aN hJ;have dp:=cM (n:=i74) (by have:=I;omega);apply aE hJ _;refine ⟨a.1.book.aK.length - (i74+1),aa,_,Le.sub (List.Sublist.refl _),i74+1,k,l,rfl,aa,S,rfl,?_⟩;simp only[*,go_sem]
 have fb:=Nat.not_lt.2 R;refine cJ hJ ?_;rw[List.drop_eq_nil_of_le R] at c;obtain rfl:=sI c;clear c;have h:=a2;dsimp only[aG] at h;cases h;apply bP;simp only[go_sem];apply aB hJ _;apply aT;simp only[*,go_sem]
def kD (u0:an):Option Int:=
 cond (((u0.props.length:Int)==3)) (some 2) (some 0)
theorem IU {ro:Addr->Option Value}(u0:an){s1 b c d:Value}(a:bR ro u0 s1 b c d){r:Int}(h:kD u0=some r):aI Tryz.prog 69 #[bv u0 s1 b c d] ⟨ro,[]⟩ (fun v _=>v= .int .i64 r):=by
 obtain ⟨d3,c4,rfl,i,j,-⟩:=id a.e;obtain ⟨d10,k,rfl,l,m,-⟩:=id a.p;obtain ⟨d17,n,rfl,o,q,-⟩:=id a.y;obtain ⟨d24,s,rfl,u,w,-⟩:=id a.t;unfold kD at h;refine aI.go Tryz.func69 rfl Tryz.ntmps69 Tryz.results69 av fun main J hJ A x hd hs=>?_;have z:=hs 0;clear hs;apply aB hJ _;refine aA fun B C f=>?_;try simp only[ax] at f
 refine ah hJ (aF hJ ?_);apply ag _;revert h;refine aV hJ (fun g h=>?_) fun g h=>?_
 .cases h;apply aB hJ _;apply aT;simp only[*,go_sem]
 cases h;refine aN hJ (ah hJ ?_);apply aE hJ _;apply aT;simp only[*,go_sem]
def uI (u0:an)(c:cn):Option (an×Int):=
 ai (gf u0) fun a=>cond ((a != 0)) (some ((⟨0,0,(⟨0,0⟩:au),([]:(List cj)),([]:(List cm)),([]:(List cA)),([]:(List cn))⟩:an),a)) (ai (uj u0.told) fun d=>ai (cx d ([c])) fun e=>ai (uE (⟨u0.bZ,u0.cg,u0.bp,u0.az,u0.props,u0.aK,e⟩:an)) fun b=>some (b.1,b.2))
theorem uJ {ro:Addr->Option Value}(k:dM ro)(u0:an){s1 c d f:Value}(b:bR ro u0 s1 c d f)(a:cn){r:(an×Int)}(h:uI u0 a=some r):eH Tryz.prog 48 #[bv u0 s1 c d f,.agg #[.int .i64 a.bA,.bool a.bI]] ro (fun v bf=>∃L w1 w2 w3,v= .tuple #[bv r.1 L w1 w2 w3,.int .i64 r.2]/\bR bf r.1 L w1 w2 w3):=by
 unfold uI at h;refine aI.go Tryz.func48 rfl Tryz.ntmps48 Tryz.results48 av fun main J hJ A ca hd hs=>?_;have cb:=hs 0;have k1:=hs 1;clear hs;apply aB hJ _;refine aA fun g u ab=>?_;try simp only[ax] at ab
 refine aA fun i w ad=>?_;try simp only[ax] at ad
 refine aA fun j z ae=>?_;try simp only[ax] at ae
 refine ah hJ (aF hJ ?_);revert h;refine bS fun cd al h=>?_;apply ag _;refine bn hJ _ (BS (k.mono bq) u0 (b.e.mono bq) (b.p.mono bq) (b.y.mono bq) (b.t.mono bq) al) (aP ?_);apply ag _;apply aB hJ _;revert h;refine aV hJ (fun ao h=>?_) fun ao h=>?_
 .cases h;apply aB hJ _;refine bX ?_;exact ⟨_,Ext.refl _,Le.sub (List.nil_sublist _),_,_,_,_,rfl,⟨aH.nil _ _,aH.nil _ _,aH.nil _ _,aH.nil _ _⟩⟩
 refine aN hJ (ah hJ ?_);refine ay hJ fun ar=>?_;refine fC hJ mixed [7] (.pure 0 (.rd 1 (.rd 3 (.two 2 (.one 4 (.one 5 (.pure 6 (.last 7 .done)))) 4 (.one 2 (.one 5 (.pure 6 (.last 7 .done)))))))) ⟨ro,[(j,bz 29),(i,.cells #[.int .i64 a.bA,.bool a.bI] 86),(g,bk u0 s1 c d f)]⟩ aL aj ?_;apply ag _;refine k8 ?_ ?_
 .revert h;refine bS fun a0 a2 h=>?_;apply ag _;refine ey hJ (bw:=[]) [(j,bz 29),(i,.cells #[.int .i64 a.bA,.bool a.bI] 86),(g,bk u0 s1 c d f)] [] _ (xw u0.told b.t a2) (fun cf a3 M m n a4=>?_);simp only[aY] at n;subst m;obtain ⟨d174,cl,rfl,cy⟩:=M.len;refine ⟨⟨ro,(j,bz 29)::(i,.cells #[.int .i64 a.bA,.bool a.bI] 86)::(g,bk u0 s1 c d f)::a3⟩,Le.refl _,?_⟩;refine ⟨aL,cu ?_⟩;revert h;refine bS fun N a5 h=>?_;obtain ⟨a6,O⟩:=cL a5;apply ag _;refine aA fun D P Q=>?_;have a7:=bg.cons Q a4;try simp only[ax] at Q
  apply ag _;refine dj (r:=dL) (l:=a0) (x:=a) (cs:=#[.int .i64 a.bA,.bool a.bI]) (e2:=86) [(D,.cells #[.int .i64 a.bA,.bool a.bI] 86),(j,bz 29),(i,.cells #[.int .i64 a.bA,.bool a.bI] 86),(g,bk u0 s1 c d f)] [] M a7 a6 rfl aL P rfl rfl eZ eZ jd jf rfl je aD aD (fun cS a8 E m n c0=>?_);simp only[aY] at n;subst m;rw[<-O] at E;clear O;obtain ⟨d186,a9,rfl,da⟩:=E.len;refine ⟨⟨ro,(D,.cells #[.int .i64 a.bA,.bool a.bI] 86)::(j,bz 29)::(i,.cells #[.int .i64 a.bA,.bool a.bI] 86)::(g,bk u0 s1 c d f)::a8⟩,Le.refl _,?_⟩;refine ⟨aL,cu ?_⟩;apply ag _;apply ah hJ;refine ay hJ fun R=>?_;obtain ⟨db,F,B,S,ba⟩:=E.dU [(D,.cells #[.int .i64 a.bA,.bool a.bI] 86),(j,bz 29),(i,.cells #[.int .i64 a.bA,.bool a.bI] 86),(g,bk u0 s1 c d (sl d186 N a9))] [] R (aJ.cons P (aJ.cons z (aJ.cons w (aJ.cons u (aJ.nil _)))));clear R;refine cB hJ ba ?_;obtain ⟨dd,df,-⟩:=S.op;replace b:=b.mono F;replace z:=B.tl.hd;replace w:=B.tl.tl.hd;replace u:=B.tl.tl.tl.hd;replace k:=k.mono F;simp only[bt] at B;apply aQ hJ;revert h;refine bS fun dk bb h=>?_;cases h;apply ag _;refine cc hJ _ (x4 k (⟨u0.bZ,u0.cg,u0.bp,u0.az,u0.props,u0.aK,N⟩:an) ⟨b.e,b.p,b.y,S⟩ bb) fun v dp G C H=>?_;obtain ⟨dq,ds,dt,du,rfl,o⟩:=H;replace b:=b.mono G;replace z:=C.tl.hd;replace w:=C.tl.tl.hd;replace u:=C.tl.tl.tl.hd;replace k:=k.mono G;simp only[bt] at C;obtain ⟨d208,dv,rfl,dC,dE,-⟩:=id o.e;obtain ⟨d215,dT,rfl,ea,eb,-⟩:=id o.p;obtain ⟨d222,ec,rfl,ed,eh,-⟩:=id o.y;obtain ⟨d229,et,rfl,ev,eQ,-⟩:=id o.t;apply aP;apply ag _;refine bX ?_;exact ⟨_,(F).trans G,Le.sub (List.nil_sublist _),_,_,_,_,rfl,o⟩
 revert h;refine bS fun bc bd h=>?_;apply ag _;refine aA fun q T U=>?_;have eS:=bg.cons U ar;try simp only[ax] at U
 apply ag _;refine ey hJ (bw:=[]) [(q,.cells #[.int .i64 a.bA,.bool a.bI] 86),(j,bz 29),(i,.cells #[.int .i64 a.bA,.bool a.bI] 86),(g,bk u0 s1 c d f)] [] _ (xw u0.told b.t bd) (fun eV bj V m n bl=>?_);simp only[aY] at n;subst m;obtain ⟨e0,e1,rfl,e3⟩:=V.len;refine ⟨⟨ro,(q,.cells #[.int .i64 a.bA,.bool a.bI] 86)::(j,bz 29)::(i,.cells #[.int .i64 a.bA,.bool a.bI] 86)::(g,bk u0 s1 c d f)::bj⟩,Le.refl _,?_⟩;refine ⟨aL,cu ?_⟩;revert h;refine bS fun W bm h=>?_;obtain ⟨bo,X⟩:=cL bm;apply ag _;refine dj (r:=dL) (l:=bc) (x:=a) (cs:=#[.int .i64 a.bA,.bool a.bI]) (e2:=86) [(q,.cells #[.int .i64 a.bA,.bool a.bI] 86),(j,bz 29),(i,.cells #[.int .i64 a.bA,.bool a.bI] 86),(g,bk u0 s1 c d f)] [] V bl bo rfl aL T rfl rfl eZ eZ jd jf rfl je aD aD (fun fa br I m n fb=>?_);simp only[aY] at n;subst m;rw[<-X] at I;clear X;obtain ⟨bs,b0,rfl,fg⟩:=I.len;refine ⟨⟨ro,(q,.cells #[.int .i64 a.bA,.bool a.bI] 86)::(j,bz 29)::(i,.cells #[.int .i64 a.bA,.bool a.bI] 86)::(g,bk u0 s1 c d f)::br⟩,Le.refl _,?_⟩;refine ⟨aL,cu ?_⟩;apply ag _;apply ah hJ;refine ay hJ fun Y=>?_;obtain ⟨fi,K,b1,Z,b2⟩:=I.dU [(q,.cells #[.int .i64 a.bA,.bool a.bI] 86),(j,bz 29),(i,.cells #[.int .i64 a.bA,.bool a.bI] 86),(g,bk u0 s1 c d (sl bs W b0))] [] Y (aJ.cons T (aJ.cons z (aJ.cons w (aJ.cons u (aJ.nil _)))));clear Y;refine cB hJ b2 ?_;obtain ⟨fp,fr,-⟩:=Z.op;replace b:=b.mono K;replace k:=k.mono K;simp only[bt] at b1;apply aQ hJ;revert h;refine bS fun fs b3 h=>?_;cases h;apply ag _;refine cc hJ _ (x4 k (⟨u0.bZ,u0.cg,u0.bp,u0.az,u0.props,u0.aK,W⟩:an) ⟨b.e,b.p,b.y,Z⟩ b3) fun v ft b4 b5 H=>?_;obtain ⟨fu,fv,fw,fx,rfl,s⟩:=H;simp only[bt] at b5;obtain ⟨fz,gg,rfl,gl,gn,-⟩:=id s.e;obtain ⟨gp,gB,rfl,gC,gM,-⟩:=id s.p;obtain ⟨gN,gT,rfl,gV,g0,-⟩:=id s.y;obtain ⟨g1,g2,rfl,g3,g4,-⟩:=id s.t;apply aP;apply ag _;refine bX ?_;exact ⟨_,(K).trans b4,Le.sub (List.nil_sublist _),_,_,_,_,rfl,s⟩
def yb (u0:an)(c:Int)(a:dI):Option (an×Int):=
 ai (eJ u0 ([(gd c)])) fun e=>cond ((e.2 != 0)) (some ((⟨0,0,(⟨0,0⟩:au),([]:(List cj)),([]:(List cm)),([]:(List cA)),([]:(List cn))⟩:an),e.2)) (ai (q8 a 0 60) fun g=>cond (!g) (some ((⟨0,0,(⟨0,0⟩:au),([]:(List cj)),([]:(List cm)),([]:(List cA)),([]:(List cn))⟩:an),1)) (ai (uk u0.aK) fun d=>ai (bu d c) fun b=>cond (decide ((if a.high<b.high.high then a.high else b.high.high)<(if b.high.low<a.low then a.low else b.high.low))) (some ((⟨0,0,(⟨0,0⟩:au),([]:(List cj)),([]:(List cm)),([]:(List cA)),([]:(List cn))⟩:an),9)) (ai (bu d c) fun h=>ai (uE (⟨u0.bZ,u0.cg,u0.bp,u0.az,u0.props,(d.set (c).toNat (⟨h.back,(⟨(if b.high.low<a.low then a.low else b.high.low),(if a.high<b.high.high then a.high else b.high.high)⟩:dI)⟩:cA)),u0.told⟩:an)) fun f=>some (f.1,f.2))))
theorem B9 {ro:Addr->Option Value}(g:dM ro)(u0:an){s1 k q l:Value}(f:bR ro u0 s1 k q l)(d:Int)(a:dI){r:(an×Int)}(h:yb u0 d a=some r):eH Tryz.prog 50 #[bv u0 s1 k q l,.int .i64 d,.agg #[.int .i64 a.low,.int .i64 a.high]] ro (fun v bf=>∃U w1 w2 w3,v= .tuple #[bv r.1 U w1 w2 w3,.int .i64 r.2]/\bR bf r.1 U w1 w2 w3):=by
 unfold yb at h;have ba:=f.oc;simp only[bU] at ba;refine aI.go Tryz.func50 rfl Tryz.ntmps50 Tryz.results50 av fun main J hJ A bb hd hs=>?_;have bc:=hs 0;have k1:=hs 1;have bd:=hs 2;clear hs;apply aB hJ _;refine aA fun w z bj=>?_;try simp only[ax] at bj
 refine aA fun B C bm=>?_;try simp only[ax] at bm
 refine aA fun D E bo=>?_;try simp only[ax] at bo
 refine ah hJ (ah hJ ?_);refine ay hJ fun br=>?_;apply aQ hJ;revert h;refine bS fun K bs h=>?_;apply ag _;refine aA fun s V W=>?_;have X:=bg.cons W br;try simp only[ax] at W
 obtain ⟨j,u,Y⟩:=fD (b:=s) (o:=(.cells #[.func (.func 86) #[.int .i64 d] #[]] 116)) [] ((D,bz 29)::(B,.cells #[.int .i64 a.low,.int .i64 a.high] 64)::(w,bk u0 s1 k q l)::[]) X V (aJ.cons E (aJ.cons C (aJ.cons z (aJ.nil _))));have Z:aH (dG) (b9 ro s (.cells #[.func (.func 86) #[.int .i64 d] #[]] 116)) (.slice (some ⟨s,0,none⟩) 1 1) [(gd d)]:=(aH.one (r:=(dG)) (e:=116) (cs:=#[.func (.func 86) #[.int .i64 d] #[]]) (x:=(gd d)) (own:=[(s,.cells #[.func (.func 86) #[.int .i64 d] #[]] 116)]) V (by simp[lk]) ⟨86,#[.int .i64 d],#[],rfl,⟨by simp only[go_sem],fun fa fb b0 _ _ _ _ _ b1 b2 b3 b4 h=>by simp only[go_sem];exact tF d b0 ⟨b1,b2,b3,b4⟩ h⟩⟩)
 generalize b9 ro s (.cells #[.func (.func 86) #[.int .i64 d] #[]] 116)=fg at Z u j Y;refine gI hJ Y ?_;replace f:=f.mono j;replace E:=u.hd;replace C:=u.tl.hd;replace z:=u.tl.tl.hd;replace g:=g.mono j;simp only[bt] at u;have b5:=bg.tl X;refine cc hJ _ (lu g u0 f ([(gd d)]) Z bs) fun v ab m F L=>?_;obtain ⟨M,N,O,P,rfl,ca⟩:=L;have cb:=ca.oc;simp only[bU] at cb;replace f:=f.mono m;replace E:=F.hd;replace C:=F.tl.hd;replace z:=F.tl.tl.hd;replace g:=g.mono m;simp only[bt] at F;apply aP;apply ag _;refine aA fun Q cd ad=>?_;have fi:=bg.cons ad b5;try simp only[ax] at ad
 apply aB hJ _;revert h;refine aV hJ (fun cf h=>?_) fun cf h=>?_
 .cases h;apply aB hJ _;refine bX ?_;exact ⟨_,(j).trans m,Le.sub (List.nil_sublist _),_,_,_,_,rfl,⟨aH.nil _ _,aH.nil _ _,aH.nil _ _,aH.nil _ _⟩⟩
 refine aN hJ (ah hJ ?_);apply aF hJ;revert h;refine bS fun fp cl h=>?_;apply ag _;refine bn hJ _ (BP a 0 60 cl) (aP ?_);apply ag _;revert h;refine aV hJ (fun cy h=>?_) fun cy h=>?_
 .cases h;apply aB hJ _;refine bX ?_;exact ⟨_,(j).trans m,Le.sub (List.nil_sublist _),_,_,_,_,rfl,⟨aH.nil _ _,aH.nil _ _,aH.nil _ _,aH.nil _ _⟩⟩
 refine aN hJ (ah hJ ?_);refine ay hJ fun fr=>?_;apply aQ hJ;revert h;refine bS fun G cS h=>?_;apply ag _;refine ey hJ (bw:=[]) [(Q,bl K.1 M N O P),(D,bz 29),(B,.cells #[.int .i64 a.low,.int .i64 a.high] 64),(w,bk u0 s1 k q l)] [] _ (BW u0.aK f.y cS) (fun fs c0 H da db ft=>?_);simp only[aY] at db;subst da;obtain ⟨d87,ae,rfl,fu⟩:=H.len;refine ⟨⟨ab,(Q,bl K.1 M N O P)::(D,bz 29)::(B,.cells #[.int .i64 a.low,.int .i64 a.high] 64)::(w,bk u0 s1 k q l)::c0⟩,Le.refl _,?_⟩;apply aP;apply ag _;apply ah hJ;refine ay hJ fun al=>?_;apply aQ hJ;revert h;refine bS fun c dd h=>?_;obtain ⟨fv,fw,df⟩:=ck dd;obtain ⟨R,dk,dp,rfl,rfl,fx,dq,S⟩:=H.By df;obtain rfl:dp=c.cells:=dq;have ds:=al.nd;simp only[keys,List.map_cons,List.map_nil,List.map_append,List.cons_append,List.nil_append,List.nodup_cons,List.mem_cons,List.mem_append,List.not_mem_nil,or_false,not_or] at ds;have ao:=S 0 _ rfl;simp only[go_sem] at ao;have fz:=(Array.getElem?_eq_some_iff.1 ao).1;have ar:=S 1 _ rfl;simp only[go_sem] at ar;have gg:=(Array.getElem?_eq_some_iff.1 ar).1;have a0:=S 2 _ rfl;simp only[go_sem] at a0;have gl:=(Array.getElem?_eq_some_iff.1 a0).1;apply ag _;refine aA fun dt du a2=>?_;have gn:=bg.cons a2 al;try simp only[ax] at a2
 apply ah hJ;refine fM [1,3,5,6,7,10] fun gp dv dC dE=>?_;simp only[*,go_sem] at dv dC dE;clear bb hd bc k1 bd;refine ay hJ fun dT=>?_;apply aE hJ _;refine aA fun ea eb a3=>?_;have gB:=bg.cons a3 dT;try simp only[ax] at a3
 refine ah hJ (ah hJ ?_);refine ay hJ fun gC=>?_;apply aE hJ _;revert h;refine aV hJ (fun ec h=>?_) fun ec h=>?_
 .cases h;apply ah hJ;refine ay hJ fun gM=>?_;apply aE hJ _;refine bX ?_;exact ⟨_,(j).trans m,Le.sub (List.nil_sublist _),_,_,_,_,rfl,⟨aH.nil _ _,aH.nil _ _,aH.nil _ _,aH.nil _ _⟩⟩
 refine aN hJ (ah hJ ?_);refine ay hJ fun gN=>?_;apply aQ hJ;revert h;refine bS fun i ed h=>?_;obtain ⟨gT,gV,a4⟩:=ck ed;obtain ⟨eh,et,I⟩:=H.jJ a4;obtain rfl:eh=i.cells:=et;have a5:=I 0 _ rfl;simp only[go_sem] at a5;have g0:=(Array.getElem?_eq_some_iff.1 a5).1;have a6:=I 1 _ rfl;simp only[go_sem] at a6;have g1:=(Array.getElem?_eq_some_iff.1 a6).1;have a7:=I 2 _ rfl;simp only[go_sem] at a7;have g2:=(Array.getElem?_eq_some_iff.1 a7).1;have ev:aZ fN ab 66 (.slice (some ⟨R,0,none⟩) G.length ae) (G.set (d).toNat (⟨i.back,(⟨(if c.high.low<a.low then a.low else c.high.low),(if a.high<c.high.high then a.high else c.high.high)⟩:dI)⟩:cA)) [(R,Obj.cells (c9 dk ((d).toNat*3+1) [.int .i64 (if c.high.low<a.low then a.low else c.high.low),.int .i64 (if a.high<c.high.high then a.high else c.high.high)]) 66)]:=by have eQ:=H.part (y:=(⟨i.back,(⟨(if c.high.low<a.low then a.low else c.high.low),(if a.high<c.high.high then a.high else c.high.high)⟩:dI)⟩:cA)) a4 1 [.int .i64 (if c.high.low<a.low then a.low else c.high.low),.int .i64 (if a.high<c.high.high then a.high else c.high.high)] [.int .i64 i.back,.int .i64 i.high.low,.int .i64 i.high.high] [.int .i64 i.back,.int .i64 (if c.high.low<a.low then a.low else c.high.low),.int .i64 (if a.high<c.high.high then a.high else c.high.high)] I rfl rfl av rfl;exact eQ
 apply ag _;apply ah hJ;refine ay hJ fun a8=>?_;obtain ⟨g3,T,eS,a9,eV⟩:=ev.dU [(ea,.cells #[.int .i64 (if c.high.low<a.low then a.low else c.high.low),.int .i64 (if a.high<c.high.high then a.high else c.high.high)] 64),(dt,.cells #[.int .i64 c.high.low,.int .i64 c.high.high] 64),(Q,bl K.1 M N O P),(D,bz 29),(B,.cells #[.int .i64 a.low,.int .i64 a.high] 64),(w,bk u0 s1 k (sl (some ⟨R,0,none⟩) G ae) l)] [] a8 (aJ.cons eb (aJ.cons du (aJ.cons cd (aJ.cons E (aJ.cons C (aJ.cons z (aJ.nil _)))))));clear a8;refine cB hJ eV ?_;obtain ⟨g4,ha,-⟩:=a9.op;replace f:=f.mono T;replace g:=g.mono T;simp only[bt] at eS;apply aQ hJ;revert h;refine bS fun hc e0 h=>?_;cases h;apply ag _;refine cc hJ _ (x4 g (⟨u0.bZ,u0.cg,u0.bp,u0.az,u0.props,(G.set (d).toNat (⟨i.back,(⟨(if c.high.low<a.low then a.low else c.high.low),(if a.high<c.high.high then a.high else c.high.high)⟩:dI)⟩:cA)),u0.told⟩:an) ⟨f.e,f.p,a9,f.t⟩ e0) fun v hf e1 e2 L=>?_;obtain ⟨hg,hh,hi,hj,rfl,n⟩:=L;have e3:=n.oc;simp only[bU] at e3;simp only[bt] at e2;obtain ⟨d130,hk,rfl,hl,hn,-⟩:=id n.e;obtain ⟨d137,ho,rfl,hp,hq,-⟩:=id n.p;obtain ⟨d144,hr,rfl,ht,hv,-⟩:=id n.y;obtain ⟨d151,hx,rfl,hy,hz,-⟩:=id n.t;apply aP;apply ag _;refine bX ?_;exact ⟨_,(((j).trans m).trans T).trans e1,Le.sub (List.nil_sublist _),_,_,_,_,rfl,n⟩
end Go.Proofs.YtbpddfapodiemaaGreatDoor
end

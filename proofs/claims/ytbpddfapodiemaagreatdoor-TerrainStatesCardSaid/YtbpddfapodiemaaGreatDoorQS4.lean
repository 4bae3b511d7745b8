/- A part of the proof: QS4. -/
import Derived.Test.YtbpddfapodiemaaGreatDoorQS3
set_option linter.all false
section
namespace Go.Proofs.YtbpddfapodiemaaGreatDoor
open Go Go.Sep Go.Proofs
set_option maxRecDepth 100000
set_option maxHeartbeats 4000000
def uf (u0:List cn):Option (List cn):=if u0.length<=1000000 then some u0 else none
theorem xA {ro:Addr->Option Value}(u0:List cn){s1:Value}(b:aI dL ro s1 u0){x:List cn}(h:uf u0=some x):aE Tryz.prog 116 #[s1] ⟨ro,[]⟩ (fun v G=>∃a,bg dL ro 86 v x a/\Le ⟨ro,a⟩ G):=by
 obtain ⟨ad,cap,rfl,le,d,e⟩:=id b;unfold uf at h;split at h
 case isFalse=>cases h
 rename_i hlen;obtain rfl:=Option.some.inj h;clear h;refine aE.go Tryz.func116 rfl Tryz.ntmps116 Tryz.results116 ax fun main J hJ A f hd hs=>?_;have g:=hs 0;clear hs;apply ay hJ _;cases ad with
 |none=>
  have hu:u0=[]:=by
   cases u0 with
   |nil=>rfl
   |cons x l=>obtain ⟨p,cs,c,_⟩:=e 0 x rfl;cases c
  subst hu;first|refine aC hJ ?_|refine ah hJ (aC hJ ?_)
  apply ag _;refine eD hJ aM ?_;apply ay hJ _;refine b9 ?_;exact ⟨[],bg.nil _ _ _,Le.refl _⟩
 |some p=>
  first|refine aC hJ ?_|refine ah hJ (aC hJ ?_)
  apply ag _;refine eu hJ aM ?_;apply aO hJ;apply ay hJ _;intro i f1;have r1:=fj f1;try apply ag _
  refine qV r1 trivial rfl hlen b rfl rfl eV eV iS iU rfl iT aB aB (fun v a hg j=>aP ?_);apply ag _;refine b9 ?_;exact ⟨a,hg,Le.refl _⟩
def ug (u0:List cu):Option (List cu):=if u0.length<=1000000 then some u0 else none
theorem B7 {ro:Addr->Option Value}(u0:List cu){s1:Value}(b:aI fq ro s1 u0){x:List cu}(h:ug u0=some x):aE Tryz.prog 119 #[s1] ⟨ro,[]⟩ (fun v G=>∃a,bg fq ro 66 v x a/\Le ⟨ro,a⟩ G):=by
 obtain ⟨ad,cap,rfl,le,d,e⟩:=id b;unfold ug at h;split at h
 case isFalse=>cases h
 rename_i hlen;obtain rfl:=Option.some.inj h;clear h;refine aE.go Tryz.func119 rfl Tryz.ntmps119 Tryz.results119 ax fun main J hJ A f hd hs=>?_;have g:=hs 0;clear hs;apply ay hJ _;cases ad with
 |none=>
  have hu:u0=[]:=by
   cases u0 with
   |nil=>rfl
   |cons x l=>obtain ⟨p,cs,c,_⟩:=e 0 x rfl;cases c
  subst hu;first|refine aC hJ ?_|refine ah hJ (aC hJ ?_)
  apply ag _;refine eD hJ aM ?_;apply ay hJ _;refine b9 ?_;exact ⟨[],bg.nil _ _ _,Le.refl _⟩
 |some p=>
  first|refine aC hJ ?_|refine ah hJ (aC hJ ?_)
  apply ag _;refine eu hJ aM ?_;apply aO hJ;apply ay hJ _;intro i f1;have r1:=fj f1;try apply ag _
  refine qV r1 trivial rfl hlen b rfl rfl Bl Bl Gj Gl rfl Gk aB aB (fun v a hg j=>aP ?_);apply ag _;refine b9 ?_;exact ⟨a,hg,Le.refl _⟩
def xB (u0:List cx):Option (List cx):=if u0.length<=1000000 then some u0 else none
theorem Ic {ro:Addr->Option Value}(u0:List cx){s1:Value}(b:aI fI ro s1 u0){x:List cx}(h:xB u0=some x):aE Tryz.prog 147 #[s1] ⟨ro,[]⟩ (fun v G=>∃a,bg fI ro 125 v x a/\Le ⟨ro,a⟩ G):=by
 obtain ⟨ad,cap,rfl,le,d,e⟩:=id b;unfold xB at h;split at h
 case isFalse=>cases h
 rename_i hlen;obtain rfl:=Option.some.inj h;clear h;refine aE.go Tryz.func147 rfl Tryz.ntmps147 Tryz.results147 ax fun main J hJ A f hd hs=>?_;have g:=hs 0;clear hs;apply ay hJ _;cases ad with
 |none=>
  have hu:u0=[]:=by
   cases u0 with
   |nil=>rfl
   |cons x l=>obtain ⟨p,cs,c,_⟩:=e 0 x rfl;cases c
  subst hu;first|refine aC hJ ?_|refine ah hJ (aC hJ ?_)
  apply ag _;refine eD hJ aM ?_;apply ay hJ _;refine b9 ?_;exact ⟨[],bg.nil _ _ _,Le.refl _⟩
 |some p=>
  first|refine aC hJ ?_|refine ah hJ (aC hJ ?_)
  apply ag _;refine eu hJ aM ?_;apply aO hJ;apply ay hJ _;intro i f1;have r1:=fj f1;try apply ag _
  refine qV r1 trivial rfl hlen b rfl rfl Bj Bj Gs wZ rfl Gt aB aB (fun v a hg j=>aP ?_);apply ag _;refine b9 ?_;exact ⟨a,hg,Le.refl _⟩
def uh (u0:List cK):Option (List cK):=if u0.length<=1000000 then some u0 else none
theorem B8 {ro:Addr->Option Value}(u0:List cK){s1:Value}(b:aI eY ro s1 u0){x:List cK}(h:uh u0=some x):aE Tryz.prog 148 #[s1] ⟨ro,[]⟩ (fun v G=>∃a,bg eY ro 159 v x a/\Le ⟨ro,a⟩ G):=by
 obtain ⟨ad,cap,rfl,le,d,e⟩:=id b;unfold uh at h;split at h
 case isFalse=>cases h
 rename_i hlen;obtain rfl:=Option.some.inj h;clear h;refine aE.go Tryz.func148 rfl Tryz.ntmps148 Tryz.results148 ax fun main J hJ A f hd hs=>?_;have g:=hs 0;clear hs;apply ay hJ _;cases ad with
 |none=>
  have hu:u0=[]:=by
   cases u0 with
   |nil=>rfl
   |cons x l=>obtain ⟨p,cs,c,_⟩:=e 0 x rfl;cases c
  subst hu;first|refine aC hJ ?_|refine ah hJ (aC hJ ?_)
  apply ag _;refine eD hJ aM ?_;apply ay hJ _;refine b9 ?_;exact ⟨[],bg.nil _ _ _,Le.refl _⟩
 |some p=>
  first|refine aC hJ ?_|refine ah hJ (aC hJ ?_)
  apply ag _;refine eu hJ aM ?_;apply aO hJ;apply ay hJ _;intro i f1;have r1:=fj f1;try apply ag _
  refine qV r1 trivial rfl hlen b rfl rfl lZ lZ tg tj rfl th aB aB (fun v a hg j=>aP ?_);apply ag _;refine b9 ?_;exact ⟨a,hg,Le.refl _⟩
def uj (u0:List Int):Option (List Int):=if u0.length<=1000000 then some u0 else none
theorem B9 {ro:Addr->Option Value}(u0:List Int){s1:Value}(b:aI rI ro s1 u0){x:List Int}(h:uj u0=some x):aE Tryz.prog 135 #[s1] ⟨ro,[]⟩ (fun v G=>∃a,bg rI ro 3 v x a/\Le ⟨ro,a⟩ G):=by
 obtain ⟨ad,cap,rfl,le,d,e⟩:=id b;unfold uj at h;split at h
 case isFalse=>cases h
 rename_i hlen;obtain rfl:=Option.some.inj h;clear h;refine aE.go Tryz.func135 rfl Tryz.ntmps135 Tryz.results135 ax fun main J hJ A f hd hs=>?_;have g:=hs 0;clear hs;apply ay hJ _;cases ad with
 |none=>
  have hu:u0=[]:=by
   cases u0 with
   |nil=>rfl
   |cons x l=>obtain ⟨p,cs,c,_⟩:=e 0 x rfl;cases c
  subst hu;first|refine aC hJ ?_|refine ah hJ (aC hJ ?_)
  apply ag _;refine eD hJ aM ?_;apply ay hJ _;refine b9 ?_;exact ⟨[],bg.nil _ _ _,Le.refl _⟩
 |some p=>
  first|refine aC hJ ?_|refine ah hJ (aC hJ ?_)
  apply ag _;refine eu hJ aM ?_;apply aO hJ;apply ay hJ _;intro i f1;have r1:=fj f1;try apply ag _
  refine qV r1 trivial rfl hlen b rfl rfl dU dU gy gA rfl gz aB aB (fun v a hg j=>aP ?_);apply ag _;refine b9 ?_;exact ⟨a,hg,Le.refl _⟩
def uk (u0:an)(i43:Nat)(b:(an->Option Int))(st:Int):Option (Fl Int (an×Int)):=
 ai (b u0) fun a=>cond ((a != 0)) (some (.rt ((⟨0,0,(⟨0,0⟩:au),([]:(List cx)),([]:(List cK)),([]:(List cu)),([]:(List cn))⟩:an),a))) (some (.nx st))
def fo (u0:an)(b:(List (an->Option Int))):Option (an×Int):=
 ai (fN u0) fun a=>cond ((a != 0)) (some ((⟨0,0,(⟨0,0⟩:au),([]:(List cx)),([]:(List cK)),([]:(List cu)),([]:(List cn))⟩:an),a)) (ai (bU (uk u0) 0 b 0) fun o=>aG o (fun c=>some (u0,0)) (fun _ _=>none) (fun r=>some r))
theorem ki {ro:Addr->Option Value}(D:dM ro)(u0:an){s1 f g i:Value}(b:bO ro u0 s1 f g i)(c:(List (an->Option Int))){o:Value}(q:aI (dx) ro o c){r:(an×Int)}(h:fo u0 c=some r):eJ Tryz.prog 76 #[bv u0 s1 f g i,o] ro (fun v aW=>∃s w1 w2 w3,v= .tuple #[bv r.1 s w1 w2 w3,.int .i64 r.2]/\bO aW r.1 s w1 w2 w3):=by
 obtain ⟨d31,ae,rfl,al,E,-⟩:=id q;unfold fo at h;have F:=b.oc;simp only[bV] at F;refine aE.go Tryz.func76 rfl Tryz.ntmps76 Tryz.results76 ax fun main J hJ A G hd hs=>?_;have H:=hs 0;have k1:=hs 1;clear hs;apply ay hJ _;refine az fun I ao K=>?_;try simp only[av] at K
 refine az fun L ar M=>?_;try simp only[av] at M
 refine ah hJ (aC hJ ?_);revert h;refine bS fun a0 N h=>?_;apply ag _;refine bf hJ _ (B2 (D.mono aZ) u0 (b.e.mono aZ) (b.p.mono aZ) (b.y.mono aZ) (b.t.mono aZ) N) (aP ?_);apply ag _;apply ay hJ _;revert h;refine aT hJ (fun O h=>?_) fun O h=>?_
 .cases h;apply ay hJ _;refine b9 ?_;exact ⟨_,Ext.refl _,Le.sub (List.nil_sublist _),_,_,_,_,rfl,⟨aI.nil _ _,aI.nil _ _,aI.nil _ _,aI.nil _ _⟩⟩
 refine aO hJ (ah hJ ?_);apply aF hJ _;refine az fun P a2 Q=>?_;try simp only[av] at Q
 refine ah hJ (aC hJ ?_);apply ag _;apply aV hJ;revert h;refine bS fun R d u=>?_;refine bY hJ (rg 21 12 [5,9,10]) (fun m w F'=>∃(i43:Nat) (j:Int),m=c.length - i43/\i43<=c.length/\bU (uk u0) i43 (c.drop i43) j=some R/\F'=⟨ro,(P,bl u0 s1 f g i)::(L,bz 92)::(I,bk u0 s1 f g i)::[]⟩/\slot w 21= .int .i64 (i43:Int)/\slot w 5= .int .i64 j) c.length ?_ ?_
 .refine ⟨0,0,(Nat.sub_zero _).symm,Nat.zero_le _,d,rfl,?_⟩;simp only[*,go_sem]
 rintro a3 a4 F' z ⟨i43,j,rfl,a5,d,rfl,a6,a7⟩;obtain ⟨S,T,U⟩:=z.pick [4,7,19,20] aB;simp only[*,go_sem] at S T U;clear z G hd H k1;apply ay hJ _;apply ah hJ;rcases Nat.lt_or_ge i43 c.length with V|B
 .refine cJ hJ ?_;apply aO hJ;obtain ⟨a8,k⟩:∃x,c[i43]?=some x:=⟨_,List.getElem?_eq_getElem V⟩
  rw[dK k] at d;revert d;refine bS fun a9 h l=>?_;unfold uk at h;try dsimp only at h
  obtain ⟨ba,bb,W,X,C⟩:=q.el _ _ k;obtain ⟨bc,bd,bj,rfl,Y⟩:=X;cases W;have Z:=C 0 _ rfl;simp only[go_sem] at Z;clear C k;refine ah hJ (aV hJ (ah hJ ?_));apply aF hJ _;apply aC hJ;revert h;refine bS fun bm ab h=>?_;apply ag _;refine bf hJ _ (Y.2 _ (fun a v h=>aZ a v h) u0 _ _ _ _ _ (b.e.mono aZ) (b.p.mono aZ) (b.y.mono aZ) (b.t.mono aZ) ab) (aP ?_);apply ag _;apply ay hJ _;revert h;refine aT hJ (fun ad h=>?_) fun ad h=>?_
  .cases h;apply ay hJ _;obtain rfl:=sI l;clear l;have h:=u;dsimp only[aG] at h;cases h;refine b9 ?_;exact ⟨_,Ext.refl _,Le.sub (List.nil_sublist _),_,_,_,_,rfl,⟨aI.nil _ _,aI.nil _ _,aI.nil _ _,aI.nil _ _⟩⟩
  cases h;apply aO hJ;have bo:=cI (n:=i43) (by have:=E;omega);apply aF hJ _;refine ⟨c.length - (i43+1),aa,_,Le.sub (List.Sublist.refl _),i43+1,j,rfl,aa,l,rfl,?_⟩;simp only[*,go_sem]
 have br:=Nat.not_lt.2 B;refine cF hJ ?_;rw[List.drop_eq_nil_of_le B] at d;obtain rfl:=sI d;clear d;have h:=u;dsimp only[aG] at h;cases h;apply bR;simp only[go_sem];apply ay hJ _;refine b9 ?_;exact ⟨_,Ext.refl _,Le.sub (List.nil_sublist _),_,_,_,_,rfl,b⟩
def xC (u0:an)(b:Int):Option (au×Int):=
 ai (fo u0 ([(oV b)])) fun a=>cond ((a.2 != 0)) (some ((⟨0,0⟩:au),a.2)) (ai (jH a.1 b) fun c=>some (c,0))
theorem Ie {ro:Addr->Option Value}(f:dM ro)(u0:an){s1 g i j:Value}(k:bO ro u0 s1 g i j)(a:Int){r:(au×Int)}(h:xC u0 a=some r):aE Tryz.prog 42 #[bv u0 s1 g i j,.int .i64 a] ⟨ro,[]⟩ (fun v _=>v= .tuple #[r.1.v,.int .i64 r.2]):=by
 unfold xC at h;refine aE.go Tryz.func42 rfl Tryz.ntmps42 Tryz.results42 ax fun main J hJ A V hd hs=>?_;have W:=hs 0;have k1:=hs 1;clear hs;apply ay hJ _;refine az fun B C D=>?_;try simp only[av] at D
 refine az fun E F G=>?_;try simp only[av] at G
 apply ah hJ;refine aD hJ fun H=>?_;apply aR hJ;revert h;refine bS fun I K h=>?_;apply ag _;refine az fun c m n=>?_;have q:=bh.cons n H;try simp only[av] at n
 obtain ⟨l,s,u⟩:=fG (b:=c) (o:=(.cells #[.func (.func 112) #[.int .i64 a] #[]] 116)) [] ((E,rt 0 0)::(B,bk u0 s1 g i j)::[]) q m (aJ.cons F (aJ.cons C (aJ.nil _)));have w:aI (dx) (b7 ro c (.cells #[.func (.func 112) #[.int .i64 a] #[]] 116)) (.slice (some ⟨c,0,none⟩) 1 1) [(oV a)]:=(aI.one (r:=(dx)) (e:=116) (cs:=#[.func (.func 112) #[.int .i64 a] #[]]) (x:=(oV a)) (own:=[(c,.cells #[.func (.func 112) #[.int .i64 a] #[]] 116)]) m (by simp[lk]) ⟨112,#[.int .i64 a],#[],rfl,⟨by simp only[go_sem],fun X Y L _ _ _ _ _ M N O P h=>by simp only[go_sem];exact HF a L ⟨M,N,O,P⟩ h⟩⟩)
 generalize b7 ro c (.cells #[.func (.func 112) #[.int .i64 a] #[]] 116)=Z at w s l u;refine ie hJ u ?_;replace k:=k.mono l;replace f:=f.mono l;simp only[bE] at s;have Q:=bh.tl q;refine cm hJ _ (ki f u0 k ([(oV a)]) w K) fun v ab ad R S=>?_;obtain ⟨ae,al,ao,ar,rfl,d⟩:=S;simp only[bE] at R;obtain ⟨d41,a0,rfl,a2,a3,-⟩:=id d.e;obtain ⟨d48,a4,rfl,a5,a6,-⟩:=id d.p;obtain ⟨d55,a7,rfl,a8,a9,-⟩:=id d.y;obtain ⟨d62,ba,rfl,bb,bc,-⟩:=id d.t;apply aP;apply ag _;refine az fun bd bj z=>?_;have bl:=bh.cons z Q;try simp only[av] at z
 refine ah hJ (aC hJ ?_);apply ag _;revert h;refine aT hJ (fun T h=>?_) fun T h=>?_
 .cases h;apply ay hJ _;apply aQ;simp only[*,go_sem]
 refine aO hJ (ah hJ ?_);apply aR hJ;revert h;refine bS fun bm U h=>?_;cases h;apply ag _;refine bf hJ _ (B4 I.1 (d.mono aZ) a U) (aP ?_);apply ag _;apply aQ;simp only[*,go_sem]
def xD (u0:an)(b:bx):Option (Int×au×Int):=
 ai (fo u0 ([(fV b)])) fun a=>cond ((a.2 != 0)) (some (0,(⟨0,0⟩:au),a.2)) (ai (mb a.1 b) fun c=>some (c.at_,c.high,0))
theorem Ig {ro:Addr->Option Value}(k:dM ro)(u0:an){s1 f g i:Value}(j:bO ro u0 s1 f g i)(a:bx){r:(Int×au×Int)}(h:xD u0 a=some r):aE Tryz.prog 43 #[bv u0 s1 f g i,.agg #[.int .i64 a.back,.int .i64 a.high]] ⟨ro,[]⟩ (fun v _=>v= .tuple #[.int .i64 r.1,r.2.1.v,.int .i64 r.2.2]):=by
 unfold xD at h;have D:=j.oc;simp only[bV] at D;refine aE.go Tryz.func43 rfl Tryz.ntmps43 Tryz.results43 ax fun main J hJ A a2 hd hs=>?_;have a3:=hs 0;have k1:=hs 1;clear hs;apply ay hJ _;refine az fun m E F=>?_;try simp only[av] at F
 refine az fun n G H=>?_;try simp only[av] at H
 refine az fun I K L=>?_;try simp only[av] at L
 apply ah hJ;refine aD hJ fun M=>?_;apply aR hJ;revert h;refine bS fun p N h=>?_;apply ag _;refine az fun d q s=>?_;have t:=bh.cons s M;try simp only[av] at s
 obtain ⟨l,u,w⟩:=fG (b:=d) (o:=(.cells #[.func (.func 107) #[.agg #[.int .i64 a.back,.int .i64 a.high]] #[]] 116)) [] ((I,rt 0 0)::(n,.cells #[.int .i64 a.back,.int .i64 a.high] 61)::(m,bk u0 s1 f g i)::[]) t q (aJ.cons K (aJ.cons G (aJ.cons E (aJ.nil _))));have y:aI (dx) (b7 ro d (.cells #[.func (.func 107) #[.agg #[.int .i64 a.back,.int .i64 a.high]] #[]] 116)) (.slice (some ⟨d,0,none⟩) 1 1) [(fV a)]:=(aI.one (r:=(dx)) (e:=116) (cs:=#[.func (.func 107) #[.agg #[.int .i64 a.back,.int .i64 a.high]] #[]]) (x:=(fV a)) (own:=[(d,.cells #[.func (.func 107) #[.agg #[.int .i64 a.back,.int .i64 a.high]] #[]] 116)]) q (by simp[lk]) ⟨107,#[.agg #[.int .i64 a.back,.int .i64 a.high]],#[],rfl,⟨by simp only[go_sem],fun a4 a5 O _ _ _ _ _ P Q R S h=>by simp only[go_sem];exact tJ a O ⟨P,Q,R,S⟩ h⟩⟩)
 generalize b7 ro d (.cells #[.func (.func 107) #[.agg #[.int .i64 a.back,.int .i64 a.high]] #[]] 116)=a6 at y u l w;refine ie hJ w ?_;replace j:=j.mono l;replace k:=k.mono l;simp only[bE] at u;have T:=bh.tl t;refine cm hJ _ (ki k u0 j ([(fV a)]) y N) fun v U a7 V W=>?_;obtain ⟨X,Y,Z,ab,rfl,z⟩:=W;have ad:=z.oc;simp only[bV] at ad;simp only[bE] at V;apply aP;apply ag _;refine az fun ae a8 B=>?_;have al:=bh.cons B T;try simp only[av] at B
 refine ah hJ (aC hJ ?_);apply ag _;revert h;refine aT hJ (fun ao h=>?_) fun ao h=>?_
 .cases h;apply ay hJ _;apply aQ;simp only[*,go_sem]
 refine aO hJ (ah hJ ?_);apply aR hJ;revert h;refine bS fun c ar h=>?_;cases h;apply ag _;refine bf hJ _ (tU p.1 (z.mono aZ) a ar) (aP ?_);apply ag _;refine az fun a0 a9 C=>?_;have ba:=bh.cons C al;try simp only[av] at C
 apply ah hJ;refine ef hJ mixed 5 ⟨U,[(a0,.cells #[.int .i64 c.spot.aX,.int .i64 c.spot.high.num,.int .i64 c.spot.high.den,.int .i64 c.at_,.int .i64 c.high.num,.int .i64 c.high.den] 105),(ae,bl p.1 X Y Z ab),(n,.cells #[.int .i64 a.back,.int .i64 a.high] 61),(m,bk u0 s1 f g i)]⟩ aM aj ?_;apply ag _;apply aQ;simp only[*,go_sem]
def xE (u0:an)(b:bx):Option (au×Int):=
 ai (fo u0 ([(fV b)])) fun a=>cond ((a.2 != 0)) (some ((⟨0,0⟩:au),a.2)) (ai (nv a.1 b) fun c=>some (c,0))
theorem Ih {ro:Addr->Option Value}(f:dM ro)(u0:an){s1 g i j:Value}(k:bO ro u0 s1 g i j)(a:bx){r:(au×Int)}(h:xE u0 a=some r):aE Tryz.prog 32 #[bv u0 s1 g i j,.agg #[.int .i64 a.back,.int .i64 a.high]] ⟨ro,[]⟩ (fun v _=>v= .tuple #[r.1.v,.int .i64 r.2]):=by
 unfold xE at h;refine aE.go Tryz.func32 rfl Tryz.ntmps32 Tryz.results32 ax fun main J hJ A Y hd hs=>?_;have Z:=hs 0;have k1:=hs 1;clear hs;apply ay hJ _;refine az fun B C D=>?_;try simp only[av] at D
 refine az fun E F G=>?_;try simp only[av] at G
 refine az fun H I K=>?_;try simp only[av] at K
 apply ah hJ;refine aD hJ fun L=>?_;apply aR hJ;revert h;refine bS fun M N h=>?_;apply ag _;refine az fun c m n=>?_;have q:=bh.cons n L;try simp only[av] at n
 obtain ⟨l,s,u⟩:=fG (b:=c) (o:=(.cells #[.func (.func 107) #[.agg #[.int .i64 a.back,.int .i64 a.high]] #[]] 116)) [] ((H,rt 0 0)::(E,.cells #[.int .i64 a.back,.int .i64 a.high] 61)::(B,bk u0 s1 g i j)::[]) q m (aJ.cons I (aJ.cons F (aJ.cons C (aJ.nil _))));have w:aI (dx) (b7 ro c (.cells #[.func (.func 107) #[.agg #[.int .i64 a.back,.int .i64 a.high]] #[]] 116)) (.slice (some ⟨c,0,none⟩) 1 1) [(fV a)]:=(aI.one (r:=(dx)) (e:=116) (cs:=#[.func (.func 107) #[.agg #[.int .i64 a.back,.int .i64 a.high]] #[]]) (x:=(fV a)) (own:=[(c,.cells #[.func (.func 107) #[.agg #[.int .i64 a.back,.int .i64 a.high]] #[]] 116)]) m (by simp[lk]) ⟨107,#[.agg #[.int .i64 a.back,.int .i64 a.high]],#[],rfl,⟨by simp only[go_sem],fun ab ad O _ _ _ _ _ P Q R S h=>by simp only[go_sem];exact tJ a O ⟨P,Q,R,S⟩ h⟩⟩)
 generalize b7 ro c (.cells #[.func (.func 107) #[.agg #[.int .i64 a.back,.int .i64 a.high]] #[]] 116)=ae at w s l u;refine ie hJ u ?_;replace k:=k.mono l;replace f:=f.mono l;simp only[bE] at s;have T:=bh.tl q;refine cm hJ _ (ki f u0 k ([(fV a)]) w N) fun v al ao U V=>?_;obtain ⟨ar,a0,a2,a3,rfl,d⟩:=V;simp only[bE] at U;obtain ⟨d42,a4,rfl,a5,a6,-⟩:=id d.e;obtain ⟨d49,a7,rfl,a8,a9,-⟩:=id d.p;obtain ⟨d56,ba,rfl,bb,bc,-⟩:=id d.y;obtain ⟨d63,bd,rfl,bj,bl,-⟩:=id d.t;apply aP;apply ag _;refine az fun bm bo z=>?_;have br:=bh.cons z T;try simp only[av] at z
 refine ah hJ (aC hJ ?_);apply ag _;revert h;refine aT hJ (fun W h=>?_) fun W h=>?_
 .cases h;apply ay hJ _;apply aQ;simp only[*,go_sem]
 refine aO hJ (ah hJ ?_);apply aR hJ;revert h;refine bS fun bs X h=>?_;cases h;apply ag _;refine bf hJ _ (B3 M.1 (d.mono aZ) a X) (aP ?_);apply ag _;apply aQ;simp only[*,go_sem]
def xF (u0:an)(c:bx):Option (au×Bool×Int):=
 ai (fo u0 ([(fV c)])) fun b=>cond ((b.2 != 0)) (some ((⟨0,0⟩:au),false,b.2)) (ai (j8 b.1 c) fun a=>cond (((a.length:Int)==0)) (some ((⟨0,0⟩:au),false,0)) (ai (bt a 0) fun d=>ai (jA a 1 (a.length:Int)) fun e=>ai (ni jG d e) fun f=>some (f.high,true,0)))
theorem Ii {ro:Addr->Option Value}(l:dM ro)(u0:an){s1 f g i:Value}(j:bO ro u0 s1 f g i)(a:bx){r:(au×Bool×Int)}(h:xF u0 a=some r):aE Tryz.prog 44 #[bv u0 s1 f g i,.agg #[.int .i64 a.back,.int .i64 a.high]] ⟨ro,[]⟩ (fun v _=>v= .tuple #[r.1.v,.bool r.2.1,.int .i64 r.2.2]):=by
 unfold xF at h;have N:=j.oc;simp only[bV] at N;refine aE.go Tryz.func44 rfl Tryz.ntmps44 Tryz.results44 ax fun main J hJ A cy hd hs=>?_;have cS:=hs 0;have k1:=hs 1;clear hs;apply ay hJ _;refine az fun s O P=>?_;try simp only[av] at P
 refine az fun t Q R=>?_;try simp only[av] at R
 refine az fun S T U=>?_;try simp only[av] at U
 apply ah hJ;refine aD hJ fun V=>?_;apply aR hJ;revert h;refine bS fun u W h=>?_;apply ag _;refine az fun d w y=>?_;have z:=bh.cons y V;try simp only[av] at y
 obtain ⟨m,B,C⟩:=fG (b:=d) (o:=(.cells #[.func (.func 107) #[.agg #[.int .i64 a.back,.int .i64 a.high]] #[]] 116)) [] ((S,rt 0 0)::(t,.cells #[.int .i64 a.back,.int .i64 a.high] 61)::(s,bk u0 s1 f g i)::[]) z w (aJ.cons T (aJ.cons Q (aJ.cons O (aJ.nil _))));have D:aI (dx) (b7 ro d (.cells #[.func (.func 107) #[.agg #[.int .i64 a.back,.int .i64 a.high]] #[]] 116)) (.slice (some ⟨d,0,none⟩) 1 1) [(fV a)]:=(aI.one (r:=(dx)) (e:=116) (cs:=#[.func (.func 107) #[.agg #[.int .i64 a.back,.int .i64 a.high]] #[]]) (x:=(fV a)) (own:=[(d,.cells #[.func (.func 107) #[.agg #[.int .i64 a.back,.int .i64 a.high]] #[]] 116)]) w (by simp[lk]) ⟨107,#[.agg #[.int .i64 a.back,.int .i64 a.high]],#[],rfl,⟨by simp only[go_sem],fun X Y n _ _ _ _ _ Z ab ad ae h=>by simp only[go_sem];exact tJ a n ⟨Z,ab,ad,ae⟩ h⟩⟩)
 generalize b7 ro d (.cells #[.func (.func 107) #[.agg #[.int .i64 a.back,.int .i64 a.high]] #[]] 116)=c0 at D B m C;refine ie hJ C ?_;replace j:=j.mono m;replace l:=l.mono m;simp only[bE] at B;have al:=bh.tl z;refine cm hJ _ (ki l u0 j ([(fV a)]) D W) fun v da db ao p=>?_;obtain ⟨ar,a0,a2,a3,rfl,E⟩:=p;have a4:=E.oc;simp only[bV] at a4;simp only[bE] at ao;apply aP;apply ag _;refine az fun a5 dd G=>?_;have df:=bh.cons G al;try simp only[av] at G
 refine ah hJ (aC hJ ?_);apply ag _;revert h;refine aT hJ (fun a6 h=>?_) fun a6 h=>?_
 .cases h;apply ay hJ _;apply aQ;simp only[*,go_sem]
 refine aO hJ (ah hJ ?_);apply aR hJ;revert h;refine bS fun k a7 h=>?_;apply ag _;refine cm hJ _ (xm u.1 E a a7) fun v a8 dk a9 p=>?_;obtain ⟨dp,rfl,q⟩:=p;simp only[bE] at a9;obtain ⟨d84,ba,rfl,dq,ds,-⟩:=id q;apply aP;apply ag _;refine ah hJ (aC hJ ?_);apply ag _;revert h;refine aT hJ (fun bb h=>?_) fun bb h=>?_
 .cases h;apply ay hJ _;apply aQ;simp only[*,go_sem]
 refine aO hJ (ah hJ ?_);refine ef hJ mixed 7 ⟨a8,[(a5,bl u.1 ar a0 a2 a3),(t,.cells #[.int .i64 a.back,.int .i64 a.high] 61),(s,bk u0 s1 f g i)]⟩ aM aj ?_;revert h;refine bS fun H bc h=>?_;obtain ⟨dt,du,I⟩:=cv bc;obtain ⟨dv,bd,bj,bm,c⟩:=q.el _ _ I;obtain rfl:bd=H.cells:=bm;cases bj;have bo:=c 0 _ rfl;simp only[go_sem] at bo;have br:=c 1 _ rfl;simp only[go_sem] at br;have bs:=c 2 _ rfl;simp only[go_sem] at bs;have bz:=c 3 _ rfl;simp only[go_sem] at bz;have b0:=c 4 _ rfl;simp only[go_sem] at b0;have b1:=c 5 _ rfl;simp only[go_sem] at b1;clear c I;revert h;refine bS fun b2 b3 h=>?_;obtain ⟨dC,dE,dT,K⟩:=qN b3;have L:(1:Int).toNat<=((k.length:Int)).toNat:=aa;have b4:((k.length:Int)).toNat<=ba:=aa;have ea:0<=((k.length:Int)):=aa;obtain ⟨d94,b5,ca,M⟩:=aI.qQ q (1:Int).toNat ((k.length:Int)).toNat L aa K;simp only[go_sem] at b5 ca L b4;obtain ⟨_,_,cb,eb,ec,ed⟩:=id M;cases cb;clear K;revert h;refine bS fun eh cd h=>?_;cases h;apply ag _;refine ⟨_,bI hJ fun F cf=>tN (ey:=57) (eM:=#[]) (eN:=#[]) jG ⟨by simp only[go_sem],fun X Y n cl _ h=>by simp only[go_sem];exact tH n cl h⟩ H b2 (M.mono (cg cf)) cd,ck ?_⟩;apply ag _;apply aQ;simp only[*,go_sem]
def um (u0:an)(b:bx):Option (au×Bool×Int):=
 ai (fo u0 ([(fV b)])) fun a=>cond ((a.2 != 0)) (some ((⟨0,0⟩:au),false,a.2)) (ai (k6 a.1 b) fun c=>ai (gU a.1 b) fun d=>some (c,d,0))
theorem Ca {ro:Addr->Option Value}(j:dM ro)(u0:an){s1 d f g:Value}(i:bO ro u0 s1 d f g)(a:bx){r:(au×Bool×Int)}(h:um u0 a=some r):aE Tryz.prog 37 #[bv u0 s1 d f g,.agg #[.int .i64 a.back,.int .i64 a.high]] ⟨ro,[]⟩ (fun v _=>v= .tuple #[r.1.v,.bool r.2.1,.int .i64 r.2.2]):=by
 unfold um at h;have C:=i.oc;simp only[bV] at C;refine aE.go Tryz.func37 rfl Tryz.ntmps37 Tryz.results37 ax fun main J hJ A a0 hd hs=>?_;have a2:=hs 0;have k1:=hs 1;clear hs;apply ay hJ _;refine az fun p D E=>?_;try simp only[av] at E
 refine az fun q G H=>?_;try simp only[av] at H
 refine az fun I K L=>?_;try simp only[av] at L
 apply ah hJ;refine aD hJ fun M=>?_;apply aR hJ;revert h;refine bS fun k N h=>?_;apply ag _;refine az fun c s t=>?_;have u:=bh.cons t M;try simp only[av] at t
 obtain ⟨l,w,y⟩:=fG (b:=c) (o:=(.cells #[.func (.func 107) #[.agg #[.int .i64 a.back,.int .i64 a.high]] #[]] 116)) [] ((I,rt 0 0)::(q,.cells #[.int .i64 a.back,.int .i64 a.high] 61)::(p,bk u0 s1 d f g)::[]) u s (aJ.cons K (aJ.cons G (aJ.cons D (aJ.nil _))));have z:aI (dx) (b7 ro c (.cells #[.func (.func 107) #[.agg #[.int .i64 a.back,.int .i64 a.high]] #[]] 116)) (.slice (some ⟨c,0,none⟩) 1 1) [(fV a)]:=(aI.one (r:=(dx)) (e:=116) (cs:=#[.func (.func 107) #[.agg #[.int .i64 a.back,.int .i64 a.high]] #[]]) (x:=(fV a)) (own:=[(c,.cells #[.func (.func 107) #[.agg #[.int .i64 a.back,.int .i64 a.high]] #[]] 116)]) s (by simp[lk]) ⟨107,#[.agg #[.int .i64 a.back,.int .i64 a.high]],#[],rfl,⟨by simp only[go_sem],fun a3 a4 O _ _ _ _ _ P Q R S h=>by simp only[go_sem];exact tJ a O ⟨P,Q,R,S⟩ h⟩⟩)
 generalize b7 ro c (.cells #[.func (.func 107) #[.agg #[.int .i64 a.back,.int .i64 a.high]] #[]] 116)=a5 at z w l y;refine ie hJ y ?_;replace i:=i.mono l;replace j:=j.mono l;simp only[bE] at w;have T:=bh.tl u;refine cm hJ _ (ki j u0 i ([(fV a)]) z N) fun v U a6 V W=>?_;obtain ⟨X,Y,Z,ab,rfl,m⟩:=W;have ad:=m.oc;simp only[bV] at ad;simp only[bE] at V;apply aP;apply ag _;refine az fun ae a7 B=>?_;have a8:=bh.cons B T;try simp only[av] at B
 refine ah hJ (aC hJ ?_);apply ag _;revert h;refine aT hJ (fun al h=>?_) fun al h=>?_
 .cases h;apply ay hJ _;apply aQ;simp only[*,go_sem]
 refine aO hJ (ah hJ ?_);refine ef hJ mixed 6 ⟨U,[(ae,bl k.1 X Y Z ab),(q,.cells #[.int .i64 a.back,.int .i64 a.high] 61),(p,bk u0 s1 d f g)]⟩ aM aj ?_;revert h;refine bS fun a9 ao h=>?_;apply ag _;refine ⟨_,bI hJ fun F n=>tV k.1 (m.mono (cg n)) a ao,ck ?_⟩;revert h;refine bS fun ba ar h=>?_;cases h;apply ag _;refine ⟨_,bI hJ fun F n=>nC k.1 (m.mono (cg n)) a ar,?_⟩;apply aQ;simp only[*,go_sem]
def xG (a:bp)(st:Bool):Option (Fl Bool Unit):=
 some (.br 1000000000 true)
def uo (u0:an):Option Bool:=
 ai (fT (xG) (mc u0) false) fun o=>aG o (fun b=>some false) (fun k a=>cond (k==1000000000) (some a) (none)) (fun _=>none)
theorem Cb {ro:Addr->Option Value}(u0:an){s1 c d g:Value}(k:bO ro u0 s1 c d g){r:Bool}(h:uo u0=some r):aE Tryz.prog 108 #[bv u0 s1 c d g] ⟨ro,[]⟩ (fun v _=>v= .bool r):=by
 unfold uo at h;refine aE.tE Tryz.func108 rfl Tryz.ntmps108 Tryz.results108 ax fun main J hJ A D hd hs=>?_;have E:=hs 0;clear hs;apply ay hJ _;refine az fun n x F=>?_;try simp only[av] at F
 refine az fun l z G=>?_;try simp only[av] at G
 refine ah hJ (aC hJ ?_);apply ag _;revert h;refine bS fun Q H o=>?_;refine tD hJ bp.v aM (rA u0 k.e k.p k.y k.t) aj aj (ρ:=Unit) (fun (I:Bool) K=>K=(l,.cells #[.bool I] 4)::(n,bl u0 s1 c d g)::[]) (f:=xG) H ?_ ?_ aB ?_ ?_
 .exact rfl
 .rintro d33 L q M s u R h main J hJ _ rfl;unfold xG at h;try dsimp only at h
  obtain rfl:=sI h;generalize i:l7 _ _ _=m;have S:sz m=6:=by rw[<-i,tC];simp only[*,go_sem]
  have T:m.defers=[]:=by rw[<-i];rfl
  have U:slot m 2= .pointer (some ⟨l,0,none⟩):=by rw[<-i,j4];simp only[*,go_sem]
  have V:slot m 5= .agg #[.int .i64 u.e0,.int .i64 u.e1,.int .i64 u.e2]:=by rw[<-i,j4];simp only[*,go_sem]
  clear i D hd E;refine fH hJ fun b a=>?_;replace a:aJ ro ((L,.loop q)::(d33,.deferred (some []))::(l,.cells #[.bool s] 4)::(n,bl u0 s1 c d g)::[]):=a;have W:=a.hd;have X:=a.tl.hd;have z:=a.tl.tl.hd;have x:=a.tl.tl.tl.hd;clear a;replace b:=b.nd;simp only[keys,List.map_cons,List.map_nil,List.map_append,List.cons_append,List.nil_append,List.nodup_cons,List.mem_cons,List.mem_append,List.not_mem_nil,or_false,not_or] at b;apply aO hJ;simp only[oR,go_sem];refine ⟨q,aM,M,?_⟩;refine aV hJ (ah hJ ?_);apply aF hJ _;apply aQ;simp only[oQ,kX,go_sem];refine ⟨{q with state:=.busy},aM,?_⟩;apply ag _;refine ⟨_,Le.sub (List.Sublist.refl _),rfl,rfl⟩
 .rintro N O P _ s rfl b a;replace a:aJ ro ((O,.loop P)::(N,.deferred (some []))::(l,.cells #[.bool s] 4)::(n,bl u0 s1 c d g)::[]):=a;have Y:=a.hd;have Z:=a.tl.hd;have z:=a.tl.tl.hd;have x:=a.tl.tl.tl.hd;clear a;replace b:=b.nd;simp only[keys,List.map_cons,List.map_nil,List.map_append,List.cons_append,List.nil_append,List.nodup_cons,List.mem_cons,List.mem_append,List.not_mem_nil,or_false,not_or] at b;refine ⟨fun j=>?_,fun k1 j=>?_⟩
  .subst j;have h:=o;dsimp only[aG] at h;obtain rfl:=sI h;apply ay hJ _;refine aD hJ fun w=>?_;replace w:=w.nd;(try simp only[keys,List.map_cons,List.map_nil,List.map_append,List.cons_append,List.nil_append,List.nodup_cons,List.mem_cons,List.mem_append,List.not_mem_nil,or_false,not_or] at w);apply aQ;simp only[*,go_sem]
  subst j;have h:=o;dsimp only[aG] at h;revert h;refine cS (fun B h=>?_) fun B h=>?_
  .obtain rfl:=sI h;obtain rfl:k1=1000000000:=by simpa using B
   unfold tB;rw[if_pos (show (1000000000:Nat)=qX from rfl)];simp only[*,go_sem]
  cases h
 intro k1 ab j;subst j;have h:=o;dsimp only[aG] at h;revert h;refine cS (fun C h=>?_) fun C h=>?_
 .obtain rfl:k1=1000000000:=by simpa using C
  decide
 cases h
def pn (a:bp)(st:(List bp)):Option (Fl (List bp) Unit):=
 ai (dc st ([a])) fun b=>some (.nx b)
def uq (a:(List (Option bp))):Option (List bp):=
 ai (fT (pn) a ([]:List bp)) fun o=>aG o (fun b=>some b) (fun k c=>none) (fun _=>none)
theorem Ij {ro:Addr->Option Value}(u:(List (Option bp))){de:FuncId}{dN dO:Array Value}(K:nc Tryz.prog de dN dO bp.v u ro){r:(List bp)}(h:uq u=some r):eJ Tryz.prog 149 #[.slice none 0 0,.func (.func de) dN dO] ro (fun v aW=>∃w,v=w/\aI iG aW w r):=by
 unfold uq at h;refine aE.tE Tryz.func149 rfl Tryz.ntmps149 Tryz.results149 ax fun main J hJ A L hd hs=>?_;have M:=hs 0;have k1:=hs 1;clear hs;apply aC hJ;apply bW _;refine az fun e r1 n1=>?_;try simp only[av] at n1
 refine ah hJ (aC hJ ?_);apply bW _;revert h;refine bS fun ar N o=>?_;have h:=trivial;refine tD hJ bp.v aM K aj aj (ρ:=Unit) (fun (m:(List bp)) O=>∃(d7:Option Addr) (c:Nat) (d:List (Nat×Obj)),O=(e,.cells #[.slice d7 m.length c] 93)::d/\bg iG ro 133 (.slice d7 m.length c) m d/\m.length<=c) (f:=pn) N ?_ ?_ aB ?_ ?_
 .exact ⟨none,0,[],rfl,bg.nil _ _ _,Nat.le_refl _⟩
 .rintro d4 p i P v6 a a0 h main J hJ _ ⟨d7,c,d,rfl,q,Q⟩;unfold pn at h;try dsimp only at h
  generalize j:l7 _ _ _=n;have a2:sz n=13:=by rw[<-j,tC];simp only[*,go_sem]
  have a3:n.defers=[]:=by rw[<-j];rfl
  have a4:slot n 2= .pointer (some ⟨e,0,none⟩):=by rw[<-j,j4];simp only[*,go_sem]
  have a5:slot n 7= .agg #[.int .i64 a.e0,.int .i64 a.e1,.int .i64 a.e2]:=by rw[<-j,j4];simp only[*,go_sem]
  clear j L hd M k1;refine fH hJ fun g b=>?_;replace b:aJ ro ((p,.loop i)::(d4,.deferred (some []))::(e,.cells #[.slice d7 v6.length c] 93)::d):=b;have r3:=b.hd;have a6:=b.tl.hd;have r1:=b.tl.tl.hd;clear b;replace g:=g.nd;simp only[keys,List.map_cons,List.map_nil,List.map_append,List.cons_append,List.nil_append,List.nodup_cons,List.mem_cons,List.mem_append,List.not_mem_nil,or_false,not_or] at g;refine aD hJ fun R=>?_;apply aR hJ;apply bW _;refine az fun y a7 z=>?_;have a8:=bh.cons z R;try simp only[av] at z
  simp only[oR,go_sem];refine ⟨i,aM,P,?_⟩;apply bW _;apply aV hJ;refine aD hJ fun S=>?_;apply aR hJ;revert h;refine bS fun a9 T h=>?_;obtain ⟨U,B⟩:=dg T;apply bW _;refine az fun C V D=>?_;have W:=bh.cons D S;try simp only[av] at D
  refine dP (r:=iG) (l:=v6) (x:=a) (cs:=#[.int .i64 a.e0,.int .i64 a.e1,.int .i64 a.e2]) (e2:=133) [(C,.cells #[.int .i64 a.e0,.int .i64 a.e1,.int .i64 a.e2] 133),(y,.cells #[.int .i64 a.e0,.int .i64 a.e1,.int .i64 a.e2] 133),(p,.loop {i with state:=.busy}),(d4,.deferred (some [])),(e,.cells #[.slice d7 v6.length c] 93)] [] q W U rfl dG V rfl rfl Bm Bm Gu Gw rfl Gv aB aB (fun ba E s d X bb=>?_);simp only[bn] at X;subst d;rw[<-B] at s;clear B;obtain ⟨d28,Y,rfl,Z⟩:=s.len;refine ⟨⟨ro,(C,.cells #[.int .i64 a.e0,.int .i64 a.e1,.int .i64 a.e2] 133)::(y,.cells #[.int .i64 a.e0,.int .i64 a.e1,.int .i64 a.e2] 133)::(p,.loop {i with state:=.busy})::(d4,.deferred (some []))::(e,.cells #[.slice d7 v6.length c] 93)::E⟩,Le.refl _,?_⟩;apply aP;apply bW _;obtain rfl:=sI h;simp only[oQ,kX,go_sem];refine ⟨{i with state:=.busy},aM,?_⟩;apply ag _;refine ⟨_,Le.sub (List.Sublist.cons _ (List.Sublist.cons _ (List.Sublist.refl _))),rfl,d28,Y,E,rfl,s,Z⟩
 .rintro d49 F G _ v6 ⟨d7,c,d,rfl,q,Q⟩ g b;replace b:aJ ro ((F,.loop G)::(d49,.deferred (some []))::(e,.cells #[.slice d7 v6.length c] 93)::d):=b;have ab:=b.hd;have ad:=b.tl.hd;have r1:=b.tl.tl.hd;clear b;replace g:=g.nd;simp only[keys,List.map_cons,List.map_nil,List.map_append,List.cons_append,List.nil_append,List.nodup_cons,List.mem_cons,List.mem_append,List.not_mem_nil,or_false,not_or] at g;refine ⟨fun k=>?_,fun k1 k=>?_⟩
  .subst k;have h:=o;dsimp only[aG] at h;apply ah hJ;refine aD hJ fun bc=>?_;apply aR hJ;apply bW _;obtain rfl:=sI h;refine aD hJ fun H=>?_;obtain ⟨bd,ae,al,I,ao⟩:=q.eL [(F,.loop G),(d49,.deferred (some [])),(e,.cells #[.slice d7 v6.length c] 93)] [] H (aJ.cons ab (aJ.cons ad (aJ.cons r1 (aJ.nil _))));clear H;refine cH hJ ao ?_;obtain ⟨bj,bk,-⟩:=I.op;simp only[bE] at al;refine aD hJ fun t=>?_;replace t:=t.nd;(try simp only[keys,List.map_cons,List.map_nil,List.map_append,List.cons_append,List.nil_append,List.nodup_cons,List.mem_cons,List.mem_append,List.not_mem_nil,or_false,not_or] at t);refine b9 ?_;exact ⟨_,ae,Le.sub (List.nil_sublist _),_,rfl,I⟩
  subst k;have h:=o;dsimp only[aG] at h;cases h
 intro k1 bl k;subst k;have h:=o;dsimp only[aG] at h;cases h
def rC (u0:(List (Option bp))):Option (List bp):=
 ai (uq u0) fun a=>some a
theorem Cc {ro:Addr->Option Value}(u0:(List (Option bp))){ey:FuncId}{eM eN:Array Value}(c:nc Tryz.prog ey eM eN bp.v u0 ro){r:(List bp)}(h:rC u0=some r):eJ Tryz.prog 120 #[.func (.func ey) eM eN] ro (fun v aW=>∃a,v=a/\aI iG aW a r):=by
 unfold rC at h;refine aE.go Tryz.func120 rfl Tryz.ntmps120 Tryz.results120 ax fun main J hJ A g hd hs=>?_;have i:=hs 0;clear hs;apply ay hJ _;apply aC hJ;revert h;refine bS fun j d h=>?_;obtain rfl:=sI h;apply ag _;refine cm hJ _ (Ij (de:=ey) (dN:=eM) (dO:=eN) u0 c d) fun v k e l f=>?_;obtain ⟨m,rfl,b⟩:=f;obtain ⟨d8,n,rfl,o,p,-⟩:=id b;apply aP;apply ag _;refine b9 ?_;exact ⟨_,e,Le.sub (List.nil_sublist _),_,rfl,b⟩
def fW (u0:an)(c:(List (an->Option Int))):Option (dh×Int):=
 ai (fo u0 c) fun a=>cond ((a.2 != 0)) (some ((⟨(⟨0,0,(⟨0,0⟩:au),([]:(List cx)),([]:(List cK)),([]:(List cu)),([]:(List cn))⟩:an),([]:(List bp))⟩:dh),a.2)) (ai (rC (mc a.1)) fun b=>cond (((b.length:Int)==0)) (some ((⟨(⟨0,0,(⟨0,0⟩:au),([]:(List cx)),([]:(List cK)),([]:(List cu)),([]:(List cn))⟩:an),([]:(List bp))⟩:dh),9)) (some ((⟨a.1,b⟩:dh),0)))
theorem ko {ro:Addr->Option Value}(N:dM ro)(u0:an){s1 c d f:Value}(G:bO ro u0 s1 c d f)(B:(List (an->Option Int))){H:Value}(I:aI (dx) ro H B){r:(dh×Int)}(h:fW u0 B=some r):eJ Tryz.prog 53 #[bv u0 s1 c d f,H] ro (fun v aW=>∃K w1 w2 w3 w4,v= .tuple #[.agg #[.int .i64 r.1.book.bZ,.int .i64 r.1.book.b6,.int .i64 r.1.book.bw.num,.int .i64 r.1.book.bw.den,K,w1,w2,w3,w4],.int .i64 r.2]/\bO aW r.1.book K w1 w2 w3/\aI iG aW w4 r.1.all):=by
 obtain ⟨d31,ae,rfl,al,ao,-⟩:=id I;unfold fW at h;have O:=G.oc;simp only[bV] at O;refine aE.go Tryz.func53 rfl Tryz.ntmps53 Tryz.results53 ax fun main J hJ A ar hd hs=>?_;have a0:=hs 0;have k1:=hs 1;clear hs;apply ay hJ _;refine az fun C g P=>?_;try simp only[av] at P
 refine az fun D i Q=>?_;try simp only[av] at Q
 apply aC hJ;revert h;refine bS fun b R h=>?_;apply ag _;refine cm hJ _ (ki N u0 G B I R) fun v S j E k=>?_;obtain ⟨m,n,o,q,rfl,a⟩:=k;have T:=a.oc;simp only[bV] at T;replace i:=E.hd;replace g:=E.tl.hd;simp only[bE] at E;apply aP;apply ag _;refine az fun F s U=>?_;try simp only[av] at U
 refine ah hJ (aC hJ ?_);apply ag _;revert h;refine aT hJ (fun V h=>?_) fun V h=>?_
 .obtain rfl:=sI h;apply ay hJ _;refine b9 ?_;exact ⟨_,j,Le.sub (List.nil_sublist _),_,_,_,_,_,rfl,⟨aI.nil _ _,aI.nil _ _,aI.nil _ _,aI.nil _ _⟩,aI.nil _ _⟩
 refine aO hJ (ah hJ ?_);refine eW hJ mixed [] (.rd 0 (.rd 1 (.pure 2 (.two 3 (.pure 4 (.one 5 (.one 6 .done))) 5 (.one 3 (.pure 4 (.one 6 .done))))))) ⟨S,[(F,bl b.1 m n o q),(D,.cells #[.int .i64 0,.int .i64 0,.int .i64 0,.int .i64 0,.slice none 0 0,.slice none 0 0,.slice none 0 0,.slice none 0 0,.slice none 0 0] 95),(C,bk u0 s1 c d f)]⟩ aM aj ?_;apply ag _;refine kW ?_ ?_
 .revert h;refine bS fun a2 W h=>?_;apply ag _;refine cm hJ _ (Cc (ey:=81) (eM:=#[bv b.1 m n o q]) (eN:=#[]) (mc b.1) (rA b.1 a.e a.p a.y a.t) W) fun v a3 u w k=>?_;obtain ⟨a4,rfl,L⟩:=k;replace a:=a.mono u;replace s:=w.hd;replace i:=w.tl.hd;replace g:=w.tl.tl.hd;simp only[bE] at w;obtain ⟨d80,a5,rfl,a6,a7,-⟩:=id L;have a8:=e7 (l:=[(F,bl b.1 m n o q),(D,.cells #[.int .i64 0,.int .i64 0,.int .i64 0,.int .i64 0,.slice none 0 0,.slice none 0 0,.slice none 0 0,.slice none 0 0,.slice none 0 0] 95),(C,bk u0 s1 c d f)]) u (aJ.cons s (aJ.cons i (aJ.cons g (aJ.nil _))));refine ⟨aM,?_⟩;refine cj ?_;apply ag _;refine az fun a9 ba X=>?_;try simp only[av] at X
  apply ag _;refine ah hJ (aC hJ ?_);apply ag _;revert h;refine aT hJ (fun Y h=>?_) fun Y h=>?_
  .obtain rfl:=sI h;apply ay hJ _;refine b9 ?_;exact ⟨_,(j).trans u,Le.sub (List.nil_sublist _),_,_,_,_,_,rfl,⟨aI.nil _ _,aI.nil _ _,aI.nil _ _,aI.nil _ _⟩,aI.nil _ _⟩
  obtain rfl:=sI h;refine aO hJ (ah hJ ?_);apply aF hJ _;refine b9 ?_;exact ⟨_,(j).trans u,Le.sub (List.nil_sublist _),_,_,_,_,_,rfl,a,L⟩
 revert h;refine bS fun bb Z h=>?_;apply ag _;refine az fun bc bd ab=>?_;try simp only[av] at ab
 apply ag _;refine cm hJ _ (Cc (ey:=81) (eM:=#[bv b.1 m n o q]) (eN:=#[]) (mc b.1) (rA b.1 a.e a.p a.y a.t) Z) fun v bj x z k=>?_;obtain ⟨bm,rfl,M⟩:=k;replace a:=a.mono x;replace s:=z.tl.hd;replace i:=z.tl.tl.hd;replace g:=z.tl.tl.tl.hd;simp only[bE] at z;obtain ⟨d96,bo,rfl,br,bs,-⟩:=id M;have bz:=e7 (l:=[(F,bl b.1 m n o q),(D,.cells #[.int .i64 0,.int .i64 0,.int .i64 0,.int .i64 0,.slice none 0 0,.slice none 0 0,.slice none 0 0,.slice none 0 0,.slice none 0 0] 95),(C,bk u0 s1 c d f)]) x (aJ.cons s (aJ.cons i (aJ.cons g (aJ.nil _))));refine ⟨aM,?_⟩;refine cj ?_;apply ag _;refine ah hJ (aC hJ ?_);apply ag _;revert h;refine aT hJ (fun ad h=>?_) fun ad h=>?_
 .obtain rfl:=sI h;apply ay hJ _;refine b9 ?_;exact ⟨_,(j).trans x,Le.sub (List.nil_sublist _),_,_,_,_,_,rfl,⟨aI.nil _ _,aI.nil _ _,aI.nil _ _,aI.nil _ _⟩,aI.nil _ _⟩
 obtain rfl:=sI h;refine aO hJ (ah hJ ?_);apply aF hJ _;refine b9 ?_;exact ⟨_,(j).trans x,Le.sub (List.nil_sublist _),_,_,_,_,_,rfl,a,M⟩
def xH (a:Int)(i56:Nat)(b:Int)(st:(List cK)):Option (Fl (List cK) an):=
 ai (dc st ([(⟨b,a⟩:cK)])) fun c=>some (.nx c)
def uu (u0:an)(a:Int)(b:(List Int)):Option an:=
 ai (uh u0.props) fun c=>ai (bU (xH a) 0 b c) fun o=>aG o (fun d=>some (⟨u0.bZ,u0.b6,u0.bw,u0.aK,d,u0.aH,u0.told⟩:an)) (fun _ _=>none) (fun r=>some r)
theorem Ik {ro:Addr->Option Value}(u0:an){s1 s b c:Value}(g:bO ro u0 s1 s b c)(i:Int)(d:(List Int)){D:Value}(E:aI rI ro D d){r:an}(h:uu u0 i d=some r):eJ Tryz.prog 129 #[bv u0 s1 s b c,.int .i64 i,D] ro (fun v aW=>∃F w1 w2 w3,v=bv r F w1 w2 w3/\bO aW r F w1 w2 w3):=by
 obtain ⟨d31,b4,rfl,b5,U,-⟩:=id E;unfold uu at h;have V:=g.oc;simp only[bV] at V;refine aE.go Tryz.func129 rfl Tryz.ntmps129 Tryz.results129 ax fun main J hJ A W hd hs=>?_;have X:=hs 0;have k1:=hs 1;have Y:=hs 2;clear hs;apply ay hJ _;refine az fun k Z ab=>?_;try simp only[av] at ab
 refine az fun o ad ae=>?_;try simp only[av] at ae
 apply ah hJ;refine aD hJ fun ca=>?_;apply aR hJ;revert h;refine bS fun al ao h=>?_;apply ag _;refine ew hJ (bu:=[]) [(o,bz 92),(k,bl u0 s1 s b c)] [] _ (B8 u0.props g.p ao) (fun cb G H u w cd=>?_);simp only[bn] at w;subst u;obtain ⟨d45,ar,rfl,a0⟩:=H.len;refine ⟨⟨ro,(o,bz 92)::(k,bl u0 s1 s b c)::G⟩,Le.refl _,?_⟩;apply aP;apply ag _;refine ah hJ (ah hJ ?_);refine aD hJ fun cf=>?_;apply aF hJ _;apply aV hJ;revert h;refine bS fun a2 j a3=>?_;refine bY hJ (rg 17 15 [8]) (fun m a4 F'=>∃(i56:Nat) (d51:Option Addr) (f:Nat) (z:List (Nat×Obj)) (a:(List cK)),m=d.length - i56/\i56<=d.length/\bU (xH i) i56 (d.drop i56) a=some a2/\F'=⟨ro,(o,bz 92)::(k,bl u0 s1 (sl d51 a f) b c)::z⟩/\bg eY ro 159 (.slice d51 a.length f) a z/\a.length<=f/\slot a4 17= .int .i64 (i56:Int)) d.length ?_ ?_
 .refine ⟨0,d45,ar,G,al,(Nat.sub_zero _).symm,Nat.zero_le _,j,rfl,H,a0,?_⟩;simp only[*,go_sem]
 rintro cl cy F' I ⟨i56,d51,f,z,a,rfl,cS,j,rfl,K,c0,da⟩;obtain ⟨a5,a6,a7⟩:=I.pick [1,3,6,15,16] aB;simp only[*,go_sem] at a5 a6 a7;clear I W hd X k1 Y;apply ay hJ _;apply ah hJ;rcases Nat.lt_or_ge i56 d.length with a8|L
 .refine cJ hJ ?_;apply aO hJ;obtain ⟨q,B⟩:∃x,d[i56]?=some x:=⟨_,List.getElem?_eq_getElem a8⟩
  rw[dK B] at j;revert j;refine bS fun db h a9=>?_;unfold xH at h;try dsimp only at h
  obtain ⟨dd,ba,bb,bc,M⟩:=E.el _ _ B;obtain rfl:ba=[.int .i64 q]:=bc;cases bb;have bd:=M 0 _ rfl;simp only[go_sem] at bd;clear M B;refine ah hJ (aV hJ (ah hJ ?_));refine aD hJ fun df=>?_;apply aF hJ _;refine aD hJ fun bj=>?_;apply aR hJ;revert h;refine bS fun bk bm h=>?_;obtain rfl:=sI h;obtain ⟨bo,N⟩:=dg bm;apply ag _;refine az fun O br P=>?_;have bs:=bh.cons P bj;try simp only[av] at P
  refine dP (r:=eY) (l:=a) (x:=(⟨q,i⟩:cK)) (cs:=#[.int .i64 q,.int .i64 i]) (e2:=159) [(O,.cells #[.int .i64 q,.int .i64 i] 159),(o,bz 92),(k,bl u0 s1 (sl d51 a f) b c)] [] K bs bo rfl aM br rfl rfl lZ lZ tg tj rfl th aB aB (fun dk Q C u w dp=>?_);simp only[bn] at w;subst u;rw[<-N] at C;clear N;obtain ⟨d74,b0,rfl,b1⟩:=C.len;refine ⟨⟨ro,(O,.cells #[.int .i64 q,.int .i64 i] 159)::(o,bz 92)::(k,bl u0 s1 (sl d51 a f) b c)::Q⟩,Le.refl _,?_⟩;apply aP;apply ag _;have dq:=cI (n:=i56) (by have:=U;omega);apply aF hJ _;refine ⟨d.length - (i56+1),aa,_,Le.sub (List.Sublist.cons _ (List.Sublist.refl _)),i56+1,d74,b0,Q,bk,rfl,aa,a9,rfl,C,b1,?_⟩;simp only[*,go_sem]
 have ds:=Nat.not_lt.2 L;refine cF hJ ?_;rw[List.drop_eq_nil_of_le L] at j;obtain rfl:=sI j;clear j;have h:=a3;dsimp only[aG] at h;obtain rfl:=sI h;apply bR;simp only[go_sem];apply ah hJ;refine aD hJ fun dt=>?_;apply aF hJ _;refine aD hJ fun R=>?_;obtain ⟨du,S,b2,T,b3⟩:=K.eL [(o,bl u0 s1 (sl d51 a f) b c),(k,bl u0 s1 (sl d51 a f) b c)] [] R (aJ.cons ad (aJ.cons Z (aJ.nil _)));clear R;refine cH hJ b3 ?_;obtain ⟨dv,dC,-⟩:=T.op;replace g:=g.mono S;simp only[bE] at b2;refine b9 ?_;exact ⟨_,S,Le.sub (List.nil_sublist _),_,_,_,_,rfl,⟨g.e,T,g.y,g.t⟩⟩
def xI (u0:an)(a:(List Int))(st:((List (List Int))×Int)):Option (Fl ((List (List Int))×Int) (List (List Int))):=
 ai (gR u0 st.2) fun b=>cond (b) (ai (uj a) fun c=>ai (dc c ([st.2])) fun d=>ai (dc st.1 ([d])) fun e=>some (.nx (e,(IntKind.i64.wrap (st.2+1))))) (some (.bk (st.1,st.2)))
def xJ (u0:an)(a:(List Int))(st:((List (List Int))×Int)):Option (Fl ((List (List Int))×Int) (List (List Int))):=
 ai (gR u0 st.2) fun b=>cond (b) (ai (uj a) fun c=>ai (dc c ([st.2])) fun d=>ai (dc st.1 ([d])) fun e=>some (.nx (e,(IntKind.i64.wrap (st.2+1))))) (some (.bk (st.1,st.2)))
def xK (u0:an)(i47:Nat)(a:(List Int))(st:(List (List Int))):Option (Fl (List (List Int)) (List (List Int))):=
 ai (bt u0.aK 0) fun b=>cond (decide (0<(a.length:Int))) (ai (bt a (IntKind.i64.wrap ((a.length:Int) - 1))) fun c=>ai (aY (xI u0 a) fu (st,(IntKind.i64.wrap (c+1)))) fun o=>aG o (fun d=>some (.nx d.1)) (fun _ _=>none) (fun r=>some (.rt r))) (ai (aY (xJ u0 a) fu (st,b.aX)) fun o=>aG o (fun e=>some (.nx e.1)) (fun _ _=>none) (fun r=>some (.rt r)))
def uv (u0:an)(a:(List (List Int))):Option (List (List Int)):=
 ai (bU (xK u0) 0 a ([]:List (List Int))) fun o=>aG o (fun b=>some b) (fun _ _=>none) (fun r=>some r)
theorem Cd {ro:Addr->Option Value}(u0:an){s1 a b c:Value}(j:bO ro u0 s1 a b c)(s:(List (List Int))){bo:Value}(Q:aI (rL rI) ro bo s){r:(List (List Int))}(h:uv u0 s=some r):eJ Tryz.prog 72 #[bv u0 s1 a b c,bo] ro (fun v aW=>∃br,v=br/\aI (rL rI) aW br r):=by
 obtain ⟨d3,c4,rfl,ih,ik,-⟩:=id j.e;obtain ⟨d31,il,rfl,im,bs,-⟩:=id Q;unfold uv at h;refine aE.go Tryz.func72 rfl Tryz.ntmps72 Tryz.results72 ax fun main J hJ A fa hd hs=>?_;have fb:=hs 0;have k1:=hs 1;clear hs;apply ay hJ _;refine az fun d u fg=>?_;try simp only[av] at fg
 apply ay hJ _;refine ah hJ (aC hJ ?_);apply ag _;apply aV hJ;revert h;refine bS fun fi F fp=>?_;refine bY hJ (rg 12 35 [5,7,8,9]) (fun m w F'=>∃(i47:Nat) (y:Addr->Option Value) (d38:Option Addr) (G:Nat) (K:List (Nat×Obj)) (z:(List (List Int))),m=s.length - i47/\i47<=s.length/\bU (xK u0) i47 (s.drop i47) z=some fi/\F'=⟨y,(d,bl u0 (sl d3 u0.aK c4) a b c)::K⟩/\Ext ro y/\bg (rL rI) y 35 (.slice d38 z.length G) z K/\z.length<=G/\slot w 12= .int .i64 (i47:Int)/\slot w 5= .slice d38 z.length G) s.length ?_ ?_
 .refine ⟨0,ro,none,0,[],([]:List (List Int)),(Nat.sub_zero _).symm,Nat.zero_le _,F,rfl,Ext.refl _,bg.nil _ _ _,Nat.le_refl _,?_⟩;simp only[*,go_sem]
 rintro iv bz F' b0 ⟨i47,y,d38,G,K,z,rfl,ix,F,rfl,L,Z,b1,b2,b3⟩;refine fH hJ fun _ b4=>?_;replace Q:=Q.mono L;replace j:=j.mono L;replace u:=b4.hd;simp only[bE] at b4;obtain ⟨ab,ad,ae⟩:=b0.pick [2,4,10,11] aB;simp only[*,go_sem] at ab ad ae;clear b0 fa hd fb k1;apply ay hJ _;apply ah hJ;rcases Nat.lt_or_ge i47 s.length with fr|b5
 .refine cJ hJ ?_;apply aO hJ;obtain ⟨R,al⟩:∃x,s[i47]?=some x:=⟨_,List.getElem?_eq_getElem fr⟩
  rw[dK al] at F;revert F;refine bS fun jC h ca=>?_;unfold xK at h;try dsimp only at h
  obtain ⟨j1,j2,fs,ft,cb⟩:=Q.el _ _ al;obtain ⟨kh,rfl,t⟩:=ft;obtain ⟨d56,kj,rfl,kk,kl,km⟩:=id t;cases fs;have fv:=cb 0 _ rfl;simp only[go_sem] at fv;clear cb al;refine ah hJ (aV hJ (ah hJ ?_));refine aD hJ fun kn=>?_;apply aF hJ _;apply ah hJ;refine aD hJ fun kp=>?_;apply aR hJ;revert h;refine bS fun cd fw h=>?_;obtain ⟨ks,kt,cf⟩:=cv fw;obtain ⟨f,fx,fz,gg,ao⟩:=j.e.el _ _ cf;obtain rfl:fx=cd.cells:=gg;cases fz;have gl:=ao 0 _ rfl;simp only[go_sem] at gl;have gn:=ao 1 _ rfl;simp only[go_sem] at gn;clear ao cf;apply ag _;refine ah hJ (ah hJ ?_);refine aD hJ fun kv=>?_;apply aF hJ _;revert h;refine aT hJ (fun gp h=>?_) fun gp h=>?_
  .refine aD hJ fun kx=>?_;apply aR hJ;revert h;refine bS fun cl gB h=>?_;obtain ⟨ky,k0,cy⟩:=cv gB;obtain ⟨k2,gC,gM,gT,cS⟩:=t.el _ _ cy;obtain rfl:gC=[.int .i64 cl]:=gT;cases gM;have gV:=cS 0 _ rfl;simp only[go_sem] at gV;clear cS cy;apply ag _;apply ah hJ;refine aD hJ fun lb=>?_;apply aF hJ _;apply aV hJ;revert h;refine bS fun g0 S g1=>?_;refine bY hJ (rg 33 13 [5,9]) (fun m w F'=>∃(H:Addr->Option Value) (d75:Option Addr) (M:Nat) (k:List (Nat×Obj)) (B:(List (List Int))) (g:Int),aY (xI u0 R) m (B,g)=some g0/\F'=⟨H,(d,bl u0 (sl (some f) u0.aK c4) a b c)::k⟩/\Ext y H/\bg (rL rI) H 35 (.slice d75 B.length M) B k/\B.length<=M/\slot w 5= .slice d75 B.length M/\slot w 9= .int .i64 g) fu ?_ ?_
   .refine ⟨y,d38,G,K,z,(IntKind.i64.wrap (cl+1)),S,rfl,Ext.refl _,Z,b1,?_⟩;simp only[*,go_sem]
   rintro ar g2 F' a0 ⟨H,d75,M,k,B,g,S,rfl,T,N,g3,lh,lj⟩;refine fH hJ fun _ c0=>?_;replace t:=t.mono T;replace j:=j.mono T;replace u:=c0.hd;simp only[bE] at c0;obtain ⟨g4,ha,hc⟩:=a0.pick [2,4,7,8,10,11,12,13,15,16,17,18,21,22,23,24,25,26,27,28,30,31,32] aB;simp only[*,go_sem] at g4 ha hc;have lk:cR (rg 12 35 [5,7,8,9]) g2 bz:=(a0.fE aB).trans aM;clear a0 ab ad ae b3 b2;obtain _|ar:=ar
   .exact absurd S (by simp only[aY,reduceCtorEq,not_false_eq_true])
   revert S;refine bS fun ll h a2=>?_;unfold xI at h;(try dsimp only at h);refine ah hJ (ah hJ ?_);refine aD hJ fun ln=>?_;apply aR hJ;revert h;refine bS fun lo hf h=>?_;apply ag _;refine bf hJ _ (tK u0 (j.mono aZ) g hf) ?_;revert h;refine aT hJ (fun hg h=>?_) fun hg h=>?_
   .refine aO hJ (ah hJ ?_);apply aV hJ;refine aD hJ fun lr=>?_;apply aR hJ;revert h;refine bS fun hh hi h=>?_;apply ag _;refine ew hJ (bu:=[]) [(d,bl u0 (sl (some f) u0.aK c4) a b c)] k _ (B9 R t hi) (fun lv hj da p q hk=>?_);simp only[bn] at q;subst p;obtain ⟨d133,lx,rfl,ly⟩:=da.len;refine ⟨⟨H,(d,bl u0 (sl (some f) u0.aK c4) a b c)::(hj++k)⟩,Le.refl _,?_⟩;apply aP;revert h;refine bS fun U hl h=>?_;obtain ⟨hn,db⟩:=dg hl;apply ag _;refine az fun C dd df=>?_;have ho:=bh.cons df hk;try simp only[av] at df
    refine dP (r:=rI) (l:=hh) (x:=g) (cs:=#[.int .i64 g]) (e2:=3) [(C,ic g),(d,bl u0 (sl (some f) u0.aK c4) a b c)] k da ho hn rfl aM dd rfl rfl dU dU gy gA rfl gz aB aB (fun lL dk a3 p q dp=>?_);simp only[bn] at q;subst p;rw[<-db] at a3;clear db;obtain ⟨d145,a4,rfl,l1⟩:=a3.len;obtain ⟨a5,V,a6,dq,hp⟩:=a3.eL [(C,ic g),(d,bl u0 (sl (some f) u0.aK c4) a b c)] k dp (aJ.cons dd (aJ.cons u (N.jB)));have hq:=bh.sub (l:=(C,ic g)::(d,bl u0 (sl (some f) u0.aK c4) a b c)::k) (l':=(C,ic g)::(d,bl u0 (sl (some f) u0.aK c4) a b c)::(dk++k)) [(C,ic g),(d,bl u0 (sl (some f) u0.aK c4) a b c)] dk k (by first|rfl|simp only[bn]|(simp only[bn];rfl)) (by first|rfl|simp only[bn]|(simp only[bn];rfl)) dp;refine ⟨⟨a5,(C,ic g)::(d,bl u0 (sl (some f) u0.aK c4) a b c)::k⟩,hp,?_⟩;obtain ⟨l2,l3,-⟩:=dq.op;replace t:=t.mono V;replace j:=j.mono V;replace u:=a6.tl.hd;replace N:=N.mono V a6.tl.tl;simp only[bE] at a6;apply aP;revert h;refine bS fun hr ht h=>?_;obtain rfl:=sI h;obtain ⟨hv,ds⟩:=dg ht;apply ag _;refine az fun dt hx du=>?_;have hy:=bh.cons du hq;try simp only[av] at du
    refine dP (r:=(rL rI)) (l:=B) (x:=U) (cs:=#[.slice d145 U.length a4]) (e2:=35) [(dt,.cells #[.slice d145 U.length a4] 35),(C,ic g),(d,bl u0 (sl (some f) u0.aK c4) a b c)] [] N hy hv ⟨_,rfl,dq⟩ aM hx rfl rfl iV iV oL oN rfl oM aB aB (fun l4 dv a7 p q ma=>?_);simp only[bn] at q;subst p;rw[<-ds] at a7;clear ds;obtain ⟨d165,hz,rfl,hA⟩:=a7.len;refine ⟨⟨a5,(dt,.cells #[.slice d145 U.length a4] 35)::(C,ic g)::(d,bl u0 (sl (some f) u0.aK c4) a b c)::dv⟩,Le.refl _,?_⟩;apply aP;apply ag _;refine aD hJ fun mf=>?_;apply aF hJ _;refine ⟨ar,Nat.lt_succ_self _,_,Le.sub (List.Sublist.cons _ (List.Sublist.cons _ (List.Sublist.refl _))),a5,d165,hz,dv,hr,(IntKind.i64.wrap (g+1)),a2,rfl,(T.trans V),a7,hA,?_⟩;simp only[*,go_sem]
   obtain rfl:=sI h;apply bR;simp only[go_sem];obtain rfl:=sI a2;clear a2;have h:=g1;dsimp only[aG] at h;obtain rfl:=sI h;have hB:=cI (n:=i47) (by have:=bs;omega);apply aF hJ _;refine ⟨s.length - (i47+1),aa,_,Le.sub (List.Sublist.refl _),i47+1,H,d75,M,k,B,rfl,aa,ca,rfl,(L.trans T),N,g3,?_⟩;simp only[*,go_sem]
  refine aO hJ (ah hJ ?_);refine aD hJ fun mi=>?_;apply aF hJ _;apply aV hJ;revert h;refine bS fun hD W hE=>?_;refine bY hJ (rg 33 13 [5,9]) (fun m w F'=>∃(I:Addr->Option Value) (d172:Option Addr) (O:Nat) (o:List (Nat×Obj)) (D:(List (List Int))) (i:Int),aY (xJ u0 R) m (D,i)=some hD/\F'=⟨I,(d,bl u0 (sl (some f) u0.aK c4) a b c)::o⟩/\Ext y I/\bg (rL rI) I 35 (.slice d172 D.length O) D o/\D.length<=O/\slot w 5= .slice d172 D.length O/\slot w 9= .int .i64 i) fu ?_ ?_
  .refine ⟨y,d38,G,K,z,cd.aX,W,rfl,Ext.refl _,Z,b1,?_⟩;simp only[*,go_sem]
  rintro a8 hF F' a9 ⟨I,d172,O,o,D,i,W,rfl,X,P,hG,ml,mn⟩;refine fH hJ fun _ dC=>?_;replace t:=t.mono X;replace j:=j.mono X;replace u:=dC.hd;simp only[bE] at dC;obtain ⟨hI,hK,hL⟩:=a9.pick [2,4,7,8,10,11,12,13,15,16,17,18,21,22,23,24,32] aB;simp only[*,go_sem] at hI hK hL;have mr:cR (rg 12 35 [5,7,8,9]) hF bz:=(a9.fE aB).trans aM;clear a9 ab ad ae b3 b2;obtain _|a8:=a8
  .exact absurd W (by simp only[aY,reduceCtorEq,not_false_eq_true])
  revert W;refine bS fun mx h ba=>?_;unfold xJ at h;try dsimp only at h
  refine ah hJ (ah hJ ?_);refine aD hJ fun my=>?_;apply aR hJ;revert h;refine bS fun m1 hM h=>?_;apply ag _;refine bf hJ _ (tK u0 (j.mono aZ) i hM) ?_;revert h;refine aT hJ (fun hN h=>?_) fun hN h=>?_
  .refine aO hJ (ah hJ ?_);apply aV hJ;refine aD hJ fun m2=>?_;apply aR hJ;revert h;refine bS fun hP hQ h=>?_;apply ag _;refine ew hJ (bu:=[]) [(d,bl u0 (sl (some f) u0.aK c4) a b c)] o _ (B9 R t hQ) (fun na hR dE p q hS=>?_);simp only[bn] at q;subst p;obtain ⟨d230,nb,rfl,nd⟩:=dE.len;refine ⟨⟨I,(d,bl u0 (sl (some f) u0.aK c4) a b c)::(hR++o)⟩,Le.refl _,?_⟩;apply aP;revert h;refine bS fun Y hT h=>?_;obtain ⟨hV,dT⟩:=dg hT;apply ag _;refine az fun E ea eb=>?_;have hX:=bh.cons eb hS;try simp only[av] at eb
   refine dP (r:=rI) (l:=hP) (x:=i) (cs:=#[.int .i64 i]) (e2:=3) [(E,ic i),(d,bl u0 (sl (some f) u0.aK c4) a b c)] o dE hX hV rfl aM ea rfl rfl dU dU gy gA rfl gz aB aB (fun nf ec bb p q ed=>?_);simp only[bn] at q;subst p;rw[<-dT] at bb;clear dT;obtain ⟨bc,bd,rfl,nm⟩:=bb.len;obtain ⟨bj,eh,bk,et,hY⟩:=bb.eL [(E,ic i),(d,bl u0 (sl (some f) u0.aK c4) a b c)] o ed (aJ.cons ea (aJ.cons u (P.jB)));have hZ:=bh.sub (l:=(E,ic i)::(d,bl u0 (sl (some f) u0.aK c4) a b c)::o) (l':=(E,ic i)::(d,bl u0 (sl (some f) u0.aK c4) a b c)::(ec++o)) [(E,ic i),(d,bl u0 (sl (some f) u0.aK c4) a b c)] ec o (by first|rfl|simp only[bn]|(simp only[bn];rfl)) (by first|rfl|simp only[bn]|(simp only[bn];rfl)) ed;refine ⟨⟨bj,(E,ic i)::(d,bl u0 (sl (some f) u0.aK c4) a b c)::o⟩,hY,?_⟩;obtain ⟨nn,np,-⟩:=et.op;replace u:=bk.tl.hd;replace P:=P.mono eh bk.tl.tl;simp only[bE] at bk;apply aP;revert h;refine bS fun h0 h1 h=>?_;obtain rfl:=sI h;obtain ⟨h2,ev⟩:=dg h1;apply ag _;refine az fun eQ h3 eS=>?_;have h4:=bh.cons eS hZ;try simp only[av] at eS
   refine dP (r:=(rL rI)) (l:=D) (x:=Y) (cs:=#[.slice bc Y.length bd]) (e2:=35) [(eQ,.cells #[.slice bc Y.length bd] 35),(E,ic i),(d,bl u0 (sl (some f) u0.aK c4) a b c)] [] P h4 h2 ⟨_,rfl,et⟩ aM h3 rfl rfl iV iV oL oN rfl oM aB aB (fun ns e0 bm p q nx=>?_);simp only[bn] at q;subst p;rw[<-ev] at bm;clear ev;obtain ⟨h5,h6,rfl,h7⟩:=bm.len;refine ⟨⟨bj,(eQ,.cells #[.slice bc Y.length bd] 35)::(E,ic i)::(d,bl u0 (sl (some f) u0.aK c4) a b c)::e0⟩,Le.refl _,?_⟩;apply aP;apply ag _;refine aD hJ fun nz=>?_;apply aF hJ _;refine ⟨a8,Nat.lt_succ_self _,_,Le.sub (List.Sublist.cons _ (List.Sublist.cons _ (List.Sublist.refl _))),bj,h5,h6,e0,h0,(IntKind.i64.wrap (i+1)),ba,rfl,(X.trans eh),bm,h7,?_⟩;simp only[*,go_sem]
  obtain rfl:=sI h;apply bR;simp only[go_sem];obtain rfl:=sI ba;clear ba;have h:=hE;dsimp only[aG] at h;obtain rfl:=sI h;have hB:=cI (n:=i47) (by have:=bs;omega);apply aF hJ _;refine ⟨s.length - (i47+1),aa,_,Le.sub (List.Sublist.refl _),i47+1,I,d172,O,o,D,rfl,aa,ca,rfl,(L.trans X),P,hG,?_⟩;simp only[*,go_sem]
 have nA:=Nat.not_lt.2 b5;refine cF hJ ?_;rw[List.drop_eq_nil_of_le b5] at F;obtain rfl:=sI F;clear F;have h:=fp;dsimp only[aG] at h;obtain rfl:=sI h;apply bR;simp only[go_sem];apply ah hJ;refine aD hJ fun nH=>?_;apply aF hJ _;refine aD hJ fun e1=>?_;obtain ⟨nI,h8,h9,e3,ib⟩:=Z.eL [(d,bl u0 (sl d3 u0.aK c4) a b c)] [] e1 (aJ.cons u (aJ.nil _));clear e1;refine cH hJ ib ?_;obtain ⟨nK,nQ,-⟩:=e3.op;simp only[bE] at h9;refine b9 ?_;exact ⟨_,(L).trans h8,Le.sub (List.nil_sublist _),_,rfl,e3⟩
def pq (u0:Int):Option Bool:=
 some (u0 != u0)
theorem uw {ro:Addr->Option Value}(u0:Int){r:Bool}(h:pq u0=some r):aE Tryz.prog 179 #[.int .i64 u0] ⟨ro,[]⟩ (fun v _=>v= .bool r):=by
 unfold pq at h;cases h;refine aE.go Tryz.func179 rfl Tryz.ntmps179 Tryz.results179 ax fun main J hJ A a hd hs=>?_;have b:=hs 0;clear hs;apply ay hJ _;apply ay hJ _;apply aQ;simp only[*,go_sem]
def iX (u0:Int)(a:Int):Option Bool:=
 ai (pq u0) fun b=>cond (b) (ai (pq a) fun c=>cond (!c) (some true) (some (decide (u0<a)))) (some (decide (u0<a)))
theorem kq {ro:Addr->Option Value}(u0:Int)(a:Int){r:Bool}(h:iX u0 a=some r):aE Tryz.prog 197 #[.int .i64 u0,.int .i64 a] ⟨ro,[]⟩ (fun v _=>v= .bool r):=by
 unfold iX at h;refine aE.go Tryz.func197 rfl Tryz.ntmps197 Tryz.results197 ax fun main J hJ A f hd hs=>?_;have g:=hs 0;have k1:=hs 1;clear hs;apply ay hJ _;apply aC hJ;revert h;refine bS fun i b h=>?_;apply ag _;refine bf hJ _ (uw u0 b) (aP ?_);revert h;refine cS (fun c h=>?_) fun c h=>?_
 .revert h;refine bS fun j d h=>?_;apply ag _;refine bf hJ _ (uw a d) (aP ?_);revert h;refine cS (fun e h=>?_) fun e h=>?_
  .cases h;apply ag _;apply aQ;simp only[*,go_sem]
  cases h;apply ag _;apply aQ;simp only[*,go_sem]
 cases h;apply ag _;apply aQ;simp only[*,go_sem]
def xL (c:Int)(st:(Int×(List Int))):Option (Fl (Int×(List Int)) (Unit×(List Int))):=
 cond (decide (c<st.1)) (ai (bt st.2 st.1) fun b=>ai (bt st.2 (IntKind.i64.wrap (st.1 - 1))) fun a=>ai (iX b a) fun d=>cond (d) (ai (bt (st.2.set (st.1).toNat a) (IntKind.i64.wrap (st.1 - 1))) fun e=>some (.nx ((IntKind.i64.wrap (st.1 - 1)),((st.2.set (st.1).toNat a).set (IntKind.i64.wrap (st.1 - 1)).toNat b)))) (some (.bk (st.1,st.2)))) (some (.bk (st.1,st.2)))
def xM (a:Int)(b:Int)(st:(Int×(List Int))):Option (Fl (Int×(List Int)) (Unit×(List Int))):=
 cond (decide (st.1<b)) (ai (aY (xL a) fu (st.1,st.2)) fun o=>aG o (fun c=>some (.nx ((IntKind.i64.wrap (st.1+1)),c.2))) (fun _ _=>none) (fun r=>some (.rt r))) (some (.bk (st.1,st.2)))
def uy (u0:(List Int))(a:Int)(b:Int):Option (Unit×(List Int)):=
 cond (List.isEmpty u0) none (ai (aY (xM a b) fu ((IntKind.i64.wrap (a+1)),u0)) fun o=>aG o (fun c=>some ((),c.2)) (fun _ _=>none) (fun r=>some r))
theorem Ce {ro:Addr->Option Value}(u0:(List Int)){w:Value}{K:List (Nat×Obj)}(x:bg rI ro 3 w u0 K)(k:Int)(z:Int){r:(Unit×(List Int))}(h:uy u0 k z=some r):aE Tryz.prog 191 #[w,.int .i64 k,.int .i64 z] ⟨ro,K⟩ (fun v G=>∃L,(v= .tuple #[]/\bg rI ro 3 w r.2 L)/\Le ⟨ro,L⟩ G):=by
 obtain ⟨d1,c2,rfl,b4⟩:=x.len;unfold uy at h;revert h;refine cS (fun M h=>?_) fun M h=>?_
 .cases h
 obtain ⟨b,ab,rfl,rfl,b5⟩:=x.iW M;refine aE.go Tryz.func191 rfl Tryz.ntmps191 Tryz.results191 ax fun main J hJ A ad hd hs=>?_;have ae:=hs 0;have k1:=hs 1;have al:=hs 2;clear hs;apply ah hJ;refine aD hJ fun ca=>?_;apply aF hJ _;apply aV hJ;revert h;refine bS fun ao n ar=>?_;refine bY hJ (rg 10 39 [6,7]) (fun m B F'=>∃(p:Array Value) (j:Int) (q:(List Int)),aY (xM k z) m (j,q)=some ao/\F'=⟨ro,[(b,Obj.cells p 3)]⟩/\bg rI ro 3 (.slice (some ⟨b,0,none⟩) u0.length c2) q [(b,Obj.cells p 3)]/\slot B 6= .int .i64 j) fu ?_ ?_
 .refine ⟨ab,(IntKind.i64.wrap (k+1)),u0,n,rfl,x,?_⟩;simp only[*,go_sem]
 rintro s a0 F' N ⟨p,j,q,n,rfl,O,a2⟩;obtain ⟨P,Q,R⟩:=N.pick [0,1,2] aB;simp only[*,go_sem] at P Q R;clear N ad hd ae k1 al;obtain _|s:=s
 .exact absurd n (by simp only[aY,reduceCtorEq,not_false_eq_true])
 revert n;refine bS fun cb h t=>?_;unfold xM at h;try dsimp only at h
 refine ah hJ (ah hJ ?_);refine aD hJ fun cd=>?_;apply aF hJ _;revert h;refine aT hJ (fun a3 h=>?_) fun a3 h=>?_
 .refine aO hJ (ah hJ ?_);refine aV hJ (ah hJ ?_);refine aD hJ fun cf=>?_;apply aF hJ _;apply aV hJ;revert h;refine bS fun a4 u S=>?_;refine bY hJ (rg 16 33 [7]) (fun m B F'=>∃(d:Array Value) (a:Int) (e:(List Int)),aY (xL k) m (a,e)=some a4/\F'=⟨ro,[(b,Obj.cells d 3)]⟩/\bg rI ro 3 (.slice (some ⟨b,0,none⟩) u0.length c2) e [(b,Obj.cells d 3)]/\slot B 7= .int .i64 a) fu ?_ ?_
  .refine ⟨p,j,q,u,rfl,O,?_⟩;simp only[*,go_sem]
  rintro C a5 F' D ⟨d,a,e,u,rfl,g,cl⟩;obtain ⟨a6,a7,a8⟩:=D.pick [0,1,2,6,10,11,12,15] aB;simp only[*,go_sem] at a6 a7 a8;have cy:cR (rg 10 39 [6,7]) a5 a0:=(D.fE aB).trans aM;clear D P Q R a2;obtain _|C:=C
  .exact absurd u (by simp only[aY,reduceCtorEq,not_false_eq_true])
  revert u;refine bS fun c0 h l=>?_;unfold xL at h;try dsimp only at h
  refine ah hJ (ah hJ ?_);refine aD hJ fun da=>?_;refine cV hJ mixed 15 1 aM aj ?_;revert h;refine cS (fun a9 h=>?_) fun a9 h=>?_
  .revert h;refine bS fun f ba h=>?_;obtain ⟨db,dd,T⟩:=cv ba;have df:a<((u0.length:Nat):Int):=by have:=g.count;omega
   obtain ⟨bb,bc,bd⟩:=g.jD T;obtain rfl:bb=[.int .i64 f]:=bc;have U:=bd 0 _ rfl;simp only[go_sem] at U;have dk:=(Array.getElem?_eq_some_iff.1 U).1;revert h;refine bS fun c bj h=>?_;obtain ⟨dp,dq,bk⟩:=cv bj;have ds:IntKind.i64.wrap (a - 1)<((u0.length:Nat):Int):=by have:=g.count;omega
   obtain ⟨bl,bm,bo⟩:=g.jD bk;obtain rfl:bl=[.int .i64 c]:=bm;have V:=bo 0 _ rfl;simp only[go_sem] at V;have dt:=(Array.getElem?_eq_some_iff.1 V).1;revert h;refine bS fun du br h=>?_;apply ag _;refine ⟨_,bI hJ fun F dv=>kq f c br,ck ?_⟩;apply ag _;revert h;refine aT hJ (fun bs h=>?_) fun bs h=>?_
   .refine aO hJ (ah hJ ?_);apply aV hJ;refine aD hJ fun dC=>?_;refine eW hJ mixed [15,16,17] (.pure 0 (.pure 1 (.pure 2 (.pure 3 (.pure 4 (.pure 5 (.pure 6 (.pure 7 (.pure 8 (.rd 9 (.pure 10 (.pure 11 (.pure 12 (.rd 13 (.pure 14 (.last 15 (.pure 16 (.last 17 .done)))))))))))))))))) ⟨ro,[(b,Obj.cells d 3)]⟩ aM aj ?_;have E:bg rI ro 3 (.slice (some ⟨b,0,none⟩) u0.length c2) (e.set (a).toNat c) [(b,Obj.cells (cY d (a).toNat [.int .i64 c]) 3)]:=by have H:=g.tw (i:=(a).toNat) (y:=c) (by have:=T;have:=(List.getElem?_eq_some_iff.1 this).1;simpa only[List.length_set] using this) (cs:=[.int .i64 c]) rfl;simpa only[tG,xk,Nat.mul_one,Nat.add_zero] using H
    revert h;refine bS fun bz b0 h=>?_;cases h;obtain ⟨dE,dT,W⟩:=cv b0;have ea:IntKind.i64.wrap (a - 1)<((u0.length:Nat):Int):=by have:=E.count;omega
    obtain ⟨b1,b2,b3⟩:=E.jD W;obtain rfl:b1=[.int .i64 bz]:=b2;have X:=b3 0 _ rfl;simp only[go_sem] at X;have eb:=(Array.getElem?_eq_some_iff.1 X).1;have Y:bg rI ro 3 (.slice (some ⟨b,0,none⟩) u0.length c2) ((e.set (a).toNat c).set (IntKind.i64.wrap (a - 1)).toNat f) [(b,Obj.cells (cY (cY d (a).toNat [.int .i64 c]) (IntKind.i64.wrap (a - 1)).toNat [.int .i64 f]) 3)]:=by have H:=E.tw (i:=(IntKind.i64.wrap (a - 1)).toNat) (y:=f) (by have:=W;have:=(List.getElem?_eq_some_iff.1 this).1;simpa only[List.length_set] using this) (cs:=[.int .i64 f]) rfl;simpa only[tG,xk,Nat.mul_one,Nat.add_zero] using H
    apply ag _;obtain ⟨Z,I⟩:∃o,o=(cY (cY d (a).toNat [.int .i64 c]) (IntKind.i64.wrap (a - 1)).toNat [.int .i64 f]):=⟨_,rfl⟩
    refine cH (F:=⟨ro,[(b,Obj.cells Z 3)]⟩) hJ (by rw[I];exact Le.refl _) ?_;rw[<-I] at Y;clear I;refine aD hJ fun ec=>?_;apply aF hJ _;refine ⟨C,Nat.lt_succ_self _,_,Le.sub (List.Sublist.refl _),Z,(IntKind.i64.wrap (a - 1)),((e.set (a).toNat c).set (IntKind.i64.wrap (a - 1)).toNat f),l,rfl,Y,?_⟩;simp only[*,go_sem]
   cases h;apply bR;simp only[go_sem];obtain rfl:=sI l;clear l;have h:=S;dsimp only[aG] at h;cases h;refine aD hJ fun ed=>?_;apply aF hJ _;refine ⟨s,Nat.lt_succ_self _,_,Le.sub (List.Sublist.refl _),d,(IntKind.i64.wrap (j+1)),e,t,rfl,g,?_⟩;simp only[*,go_sem]
  cases h;apply ag _;refine cF hJ ?_;apply bR;simp only[go_sem];obtain rfl:=sI l;clear l;have h:=S;dsimp only[aG] at h;cases h;refine aD hJ fun eh=>?_;apply aF hJ _;refine ⟨s,Nat.lt_succ_self _,_,Le.sub (List.Sublist.refl _),d,(IntKind.i64.wrap (j+1)),e,t,rfl,g,?_⟩;simp only[*,go_sem]
 cases h;apply bR;simp only[go_sem];obtain rfl:=sI t;clear t;have h:=ar;dsimp only[aG] at h;cases h;apply ag _;exact ⟨_,O,Le.sub (List.Sublist.refl _)⟩
def xN (u0:(List Int))(st:(Int×Int×Int×Bool×Bool)):Option (Fl (Int×Int×Int×Bool×Bool) (Unit×(List Int))):=
 cond (decide ((IntKind.i64.wrap (st.2.1 - st.1))<=12)) (ai (uy u0 st.1 st.2.1) fun a=>some (.rt ((),a.2))) (none)
def uz (u0:(List Int))(a:Int)(b:Int)(c:Int):Option (Unit×(List Int)):=
 cond (List.isEmpty u0) none (ai (aY (xN u0) fu (a,b,c,true,true)) fun o=>aG o (fun d=>some ((),u0)) (fun _ _=>none) (fun r=>some r))
theorem Cf {ro:Addr->Option Value}(u0:(List Int)){f:Value}{p:List (Nat×Obj)}(g:bg rI ro 3 f u0 p)(i:Int)(j:Int)(k:Int){r:(Unit×(List Int))}(h:uz u0 i j k=some r):aE Tryz.prog 176 #[f,.int .i64 i,.int .i64 j,.int .i64 k] ⟨ro,p⟩ (fun v G=>∃b,(v= .tuple #[]/\bg rI ro 3 f r.2 b)/\Le ⟨ro,b⟩ G):=by
 obtain ⟨d1,c2,rfl,Q⟩:=g.len;unfold uz at h;revert h;refine cS (fun q h=>?_) fun q h=>?_
 .cases h
 obtain ⟨s,y,rfl,rfl,R⟩:=g.iW q;refine aE.go Tryz.func176 rfl Tryz.ntmps176 Tryz.results176 ax fun main J hJ A z hd hs=>?_;have B:=hs 0;have k1:=hs 1;have C:=hs 2;have D:=hs 3;clear hs;apply ah hJ;refine aD hJ fun S=>?_;apply aF hJ _;apply ah hJ;refine aD hJ fun T=>?_;apply aF hJ _;apply aV hJ;revert h;refine bS fun E c F=>?_;refine bY hJ (rg 8 126 [1,2,3]) (fun m a F'=>∃(d:Int) (e:Int) (l:Int) (n:Bool) (o:Bool),aY (xN u0) m (d,e,l,n,o)=some E/\F'=⟨ro,[(s,Obj.cells y 3)]⟩/\slot a 1= .int .i64 d/\slot a 2= .int .i64 e/\slot a 3= .int .i64 l/\slot a 8= .bool n/\slot a 9= .bool o) fu ?_ ?_
 .refine ⟨i,j,k,true,true,c,rfl,?_⟩;simp only[*,go_sem]
 rintro t U F' u ⟨d,e,l,n,o,c,rfl,V,W,X,Y,Z⟩;obtain ⟨H,I,K⟩:=u.pick [0] aB;simp only[*,go_sem] at H I K;clear u z hd B k1 C D;obtain _|t:=t
 .exact absurd c (by simp only[aY,reduceCtorEq,not_false_eq_true])
 revert c;refine bS fun ab h w=>?_;unfold xN at h;try dsimp only at h
 refine aV hJ (ah hJ ?_);refine aD hJ fun ad=>?_;apply aF hJ _;refine ah hJ (ah hJ ?_);refine aD hJ fun ae=>?_;apply aF hJ _;revert h;refine aT hJ (fun L h=>?_) fun L h=>?_
 .apply ah hJ;refine aD hJ fun al=>?_;apply aR hJ;revert h;refine bS fun ao M h=>?_;cases h;apply ag _;refine ew hJ [] [] _ (Ce u0 g d e M) (fun ar a0 N b O a2=>?_);obtain ⟨rfl,x⟩:=N;obtain ⟨P,rfl⟩:=x.ig;simp only[bn] at O;subst b;refine ⟨⟨ro,[(s,Obj.cells P 3)]⟩,Le.refl _,?_⟩;obtain rfl:=sI w;clear w;have h:=F;dsimp only[aG] at h;cases h;refine b9 ?_;exact ⟨_,x,Le.sub (List.Sublist.refl _)⟩
 cases h
def rD (u0:(List Int))(a:Int)(b:Int)(c:Int):Option (((Int×Int)×(List Int))×Int):=
 cond (List.isEmpty u0) none (ai (bt u0 b) fun d=>ai (bt u0 a) fun e=>ai (iX d e) fun f=>cond (f) (some (((b,a),u0),IntKind.i64.wrap (c+1))) (some (((a,b),u0),c)))
theorem xO {ro:Addr->Option Value}(u0:(List Int)){c:Value}{f:List (Nat×Obj)}(a:bg rI ro 3 c u0 f)(d:Int)(e:Int)(g:Int){b:Nat}(I:∀off sp,ro ⟨b,off,sp⟩=none){r:(((Int×Int)×(List Int))×Int)}(h:rD u0 d e g=some r):aE Tryz.prog 214 #[c,.int .i64 d,.int .i64 e,.pointer (some ⟨b,0,none⟩)] ⟨ro,(b,ic g)::f⟩ (fun v G=>∃i,(∃j,i=(b,ic r.2)::j/\v= .tuple #[.int .i64 r.1.1.1,.int .i64 r.1.1.2]/\bg rI ro 3 c r.1.2 j)/\Le ⟨ro,i⟩ G):=by
 obtain ⟨d1,c2,rfl,K⟩:=a.len;unfold rD at h;revert h;refine cS (fun k h=>?_) fun k h=>?_
 .cases h
 obtain ⟨L,M,rfl,rfl,N⟩:=a.iW k;refine aE.go Tryz.func214 rfl Tryz.ntmps214 Tryz.results214 ax fun main J hJ A O hd hs=>?_;have P:=hs 0;have k1:=hs 1;have Q:=hs 2;have R:=hs 3;clear hs;refine aD hJ fun p=>?_;have q:=p.nd;simp only[keys,List.map_cons,List.map_nil,List.map_append,List.cons_append,List.nil_append,List.nodup_cons,List.mem_cons,List.mem_append,List.not_mem_nil,or_false,not_or] at q;apply ah hJ;refine aD hJ fun S=>?_;apply aF hJ _;refine ah hJ (ah hJ ?_);refine aD hJ fun T=>?_;refine cV hJ mixed 9 2 aM aj ?_;revert h;refine bS fun l s h=>?_;obtain ⟨U,V,t⟩:=cv s;have W:e<((u0.length:Nat):Int):=by have:=a.count;omega
 obtain ⟨u,w,x⟩:=a.jD t;obtain rfl:u=[.int .i64 l]:=w;have m:=x 0 _ rfl;simp only[go_sem] at m;have X:=(Array.getElem?_eq_some_iff.1 m).1;revert h;refine bS fun n y h=>?_;obtain ⟨Y,Z,z⟩:=cv y;have ab:d<((u0.length:Nat):Int):=by have:=a.count;omega
 obtain ⟨B,C,D⟩:=a.jD z;obtain rfl:B=[.int .i64 n]:=C;have o:=D 0 _ rfl;simp only[go_sem] at o;have ad:=(Array.getElem?_eq_some_iff.1 o).1;revert h;refine bS fun ae E h=>?_;apply ag _;refine ⟨_,bI hJ fun F al=>kq l n E,?_⟩;revert h;refine aT hJ (fun H h=>?_) fun H h=>?_
 .cases h;apply ah hJ;refine aD hJ fun ao=>?_;apply aF hJ _;apply ah hJ;refine aD hJ fun ar=>?_;apply aF hJ _;refine b9 ?_;exact ⟨_,⟨_,rfl,a⟩,Le.sub (List.Sublist.refl _)⟩
 cases h;refine aO hJ (ah hJ ?_);refine aD hJ fun a0=>?_;apply aF hJ _;refine b9 ?_;exact ⟨_,⟨_,rfl,a⟩,Le.sub (List.Sublist.refl _)⟩
def xP (u0:(List Int))(d:Int)(e:Int)(f:Int)(g:Int):Option ((Int×(List Int))×Int):=
 cond (List.isEmpty u0) none (ai (rD u0 d e g) fun a=>ai (rD a.1.2 a.1.1.2 f a.2) fun b=>ai (rD b.1.2 a.1.1.1 b.1.1.1 b.2) fun c=>some ((c.1.1.2,c.1.2),c.2))
theorem Il {ro:Addr->Option Value}(u0:(List Int)){g:Value}{p:List (Nat×Obj)}(i:bg rI ro 3 g u0 p)(j:Int)(k:Int)(l:Int)(m:Int){b:Nat}(n:∀off sp,ro ⟨b,off,sp⟩=none){r:((Int×(List Int))×Int)}(h:xP u0 j k l m=some r):aE Tryz.prog 213 #[g,.int .i64 j,.int .i64 k,.int .i64 l,.pointer (some ⟨b,0,none⟩)] ⟨ro,(b,ic m)::p⟩ (fun v G=>∃a,(∃q,a=(b,ic r.2)::q/\v= .int .i64 r.1.1/\bg rI ro 3 g r.1.2 q)/\Le ⟨ro,a⟩ G):=by
 obtain ⟨d1,c2,rfl,S⟩:=i.len;unfold xP at h;revert h;refine cS (fun s h=>?_) fun s h=>?_
 .cases h
 obtain ⟨o,T,rfl,rfl,U⟩:=i.iW s;refine aE.go Tryz.func213 rfl Tryz.ntmps213 Tryz.results213 ax fun main J hJ A y hd hs=>?_;have z:=hs 0;have k1:=hs 1;have B:=hs 2;have C:=hs 3;have D:=hs 4;clear hs;refine aD hJ fun E=>?_;have F:=E.nd;simp only[keys,List.map_cons,List.map_nil,List.map_append,List.cons_append,List.nil_append,List.nodup_cons,List.mem_cons,List.mem_append,List.not_mem_nil,or_false,not_or] at F;apply ah hJ;refine aD hJ fun V=>?_;apply aF hJ _;apply ah hJ;refine aD hJ fun W=>?_;apply aR hJ;revert h;refine bS fun c H h=>?_;apply ag _;refine ew hJ [] [] _ (xO u0 i j k m n H) (fun X t d a e Y=>?_);obtain ⟨Z,rfl,rfl,u⟩:=d;obtain ⟨I,rfl⟩:=u.ig;simp only[bn] at e;subst a;refine ⟨⟨ro,(b,ic c.2)::[(o,Obj.cells I 3)]⟩,Le.refl _,?_⟩;apply aP;apply ag _;apply ah hJ;refine aD hJ fun ab=>?_;apply aR hJ;revert h;refine bS fun f K h=>?_;apply ag _;refine ew hJ [] [] _ (xO c.1.2 u c.1.1.2 l c.2 n K) (fun ad t d a e ae=>?_);obtain ⟨al,rfl,rfl,w⟩:=d;obtain ⟨L,rfl⟩:=w.ig;simp only[bn] at e;subst a;refine ⟨⟨ro,(b,ic f.2)::[(o,Obj.cells L 3)]⟩,Le.refl _,?_⟩;apply aP;apply ag _;apply ah hJ;refine aD hJ fun ao=>?_;apply aR hJ;revert h;refine bS fun M N h=>?_;cases h;apply ag _;refine ew hJ [] [] _ (xO f.1.2 w c.1.1.1 f.1.1.1 f.2 n N) (fun ar t d a e a0=>?_);obtain ⟨a2,rfl,rfl,x⟩:=d;obtain ⟨O,rfl⟩:=x.ig;simp only[bn] at e;subst a;refine ⟨⟨ro,(b,ic M.2)::[(o,Obj.cells O 3)]⟩,Le.refl _,?_⟩;apply aP;apply ag _;apply ah hJ;refine e8 [0,2,10,12,20,28] fun a3 P Q R=>?_;simp only[*,go_sem] at P Q R;clear y hd z k1 B C D;refine aD hJ fun a4=>?_;apply aF hJ _;refine b9 ?_;exact ⟨_,⟨_,rfl,x⟩,Le.sub (List.Sublist.refl _)⟩
def xQ (u0:(List Int))(b:Int)(d:Int):Option ((Int×Int)×(List Int)):=
 cond (List.isEmpty u0) none (ai (gm (IntKind.i64.wrap (d - b)) 4) fun c=>cond (decide (8<=(IntKind.i64.wrap (d - b)))) (cond (decide (50<=(IntKind.i64.wrap (d - b)))) (none) (ai (xP u0 (IntKind.i64.wrap (b+(IntKind.i64.wrap (c*1)))) (IntKind.i64.wrap (b+(IntKind.i64.wrap (c*2)))) (IntKind.i64.wrap (b+(IntKind.i64.wrap (c*3)))) 0) fun a=>cond ((a.2==0)) (some ((a.1.1,1),a.1.2)) (cond ((a.2==12)) (some ((a.1.1,2),a.1.2)) (some ((a.1.1,0),a.1.2))))) (some ((IntKind.i64.wrap (b+(IntKind.i64.wrap (c*2))),1),u0)))
theorem Im {ro:Addr->Option Value}(u0:(List Int)){e:Value}{g:List (Nat×Obj)}(b:bg rI ro 3 e u0 g)(a:Int)(i:Int){r:((Int×Int)×(List Int))}(h:xQ u0 a i=some r):aE Tryz.prog 194 #[e,.int .i64 a,.int .i64 i] ⟨ro,g⟩ (fun v G=>∃c,(v= .tuple #[.int .i64 r.1.1,.int .i64 r.1.2]/\bg rI ro 3 e r.2 c)/\Le ⟨ro,c⟩ G):=by
 obtain ⟨d1,c2,rfl,N⟩:=b.len;unfold xQ at h;revert h;refine cS (fun j h=>?_) fun j h=>?_
 .cases h
 obtain ⟨p,O,rfl,rfl,P⟩:=b.iW j;refine aE.go Tryz.func194 rfl Tryz.ntmps194 Tryz.results194 ax fun main J hJ A k hd hs=>?_;have l:=hs 0;have k1:=hs 1;have m:=hs 2;clear hs;apply ah hJ;refine aD hJ fun Q=>?_;apply aF hJ _;apply ah hJ;refine aD hJ fun R=>?_;apply aF hJ _;apply ah hJ;refine aD hJ fun q=>?_;apply aF hJ _;refine az fun s t n=>?_;have S:=bh.cons n q;try simp only[av] at n
 apply ah hJ;refine aD hJ fun T=>?_;apply aR hJ;revert h;refine bS fun f o h=>?_;obtain ⟨U,V⟩:=kR o;clear o;apply ag _;apply ah hJ;refine aD hJ fun W=>?_;apply aF hJ _;apply ah hJ;refine aD hJ fun X=>?_;apply aF hJ _;refine ah hJ (ah hJ ?_);refine aD hJ fun Y=>?_;apply aF hJ _;revert h;refine aT hJ (fun u h=>?_) fun u h=>?_
 .refine ah hJ (ah hJ ?_);refine aD hJ fun Z=>?_;apply aF hJ _;revert h;refine aT hJ (fun w h=>?_) fun w h=>?_
  .cases h
  apply aO hJ;refine aD hJ fun ab=>?_;apply aR hJ;revert h;refine bS fun x y h=>?_;apply ag _;refine ew hJ [] [] _ (Il u0 b (IntKind.i64.wrap (a+(IntKind.i64.wrap (f*1)))) (IntKind.i64.wrap (a+(IntKind.i64.wrap (f*2)))) (IntKind.i64.wrap (a+(IntKind.i64.wrap (f*3)))) 0 t y) (fun ad ae z c B al=>?_);obtain ⟨ao,rfl,rfl,d⟩:=z;obtain ⟨C,rfl⟩:=d.ig;simp only[bn] at B;subst c;refine ⟨⟨ro,(s,ic x.2)::[(p,Obj.cells C 3)]⟩,Le.refl _,?_⟩;apply aP;apply ag _;apply ah hJ;refine e8 [0,6,7,9,11,44] fun ar D E F=>?_;simp only[*,go_sem] at D E F;clear k hd l k1 m;refine aD hJ fun a0=>?_;apply aF hJ _;refine aV hJ (ah hJ ?_);refine aD hJ fun a2=>?_;apply aF hJ _;revert h;refine aT hJ (fun H h=>?_) fun H h=>?_
  .cases h;apply ah hJ;refine aD hJ fun a3=>?_;apply aF hJ _;refine b9 ?_;exact ⟨_,d,Le.sub (.cons _ (List.Sublist.refl _))⟩
  apply ah hJ;refine aD hJ fun a4=>?_;apply aF hJ _;revert h;refine aT hJ (fun I h=>?_) fun I h=>?_
  .cases h;apply ah hJ;refine aD hJ fun a5=>?_;apply aF hJ _;refine b9 ?_;exact ⟨_,d,Le.sub (.cons _ (List.Sublist.refl _))⟩
  cases h;apply ah hJ;refine aD hJ fun a6=>?_;apply aF hJ _;refine b9 ?_;exact ⟨_,d,Le.sub (.cons _ (List.Sublist.refl _))⟩
 cases h;refine aO hJ (ah hJ ?_);refine aD hJ fun a7=>?_;apply aF hJ _;refine aV hJ (ah hJ ?_);refine aD hJ fun a8=>?_;apply aF hJ _;refine cJ hJ ?_;apply ah hJ;refine e8 [0,6,7,11] fun a9 K L M=>?_;simp only[*,go_sem] at K L M;clear k hd l k1 m;refine aD hJ fun ba=>?_;apply aF hJ _;refine b9 ?_;exact ⟨_,b,Le.sub (.cons _ (List.Sublist.refl _))⟩
def me (m:Nat):Nat:=if m=0 then 0 else m.log2+1
def uA (n:Int):Option Int:=if 0<=n/\n<256 then some ((me n.toNat:Nat):Int) else none
theorem Io:∀m:Fin 256,me m.val<=8:=by decide+kernel
theorem Ip {ro:Addr->Option Value}(n:Int)(c:0<=n)(d:n<256):aE Tryz.prog 201 #[.int .u64 n] ⟨ro,[]⟩ (fun v _=>v= .int .i64 ((me n.toNat:Nat):Int)):=by
 refine aE.go Tryz.func201 rfl Tryz.ntmps201 Tryz.results201 ax fun main J hJ A e hd hs=>?_;have f:=hs 0;clear hs;have a1:¬(4294967296:Int)<=n:=aa;have a2:¬(65536:Int)<=n:=aa;have a3:¬(256:Int)<=n:=aa;have g:Tryz.prog.underlying 182=some (.int .u64):=aj;have h:Tryz.prog.underlying 5=some (.int .u8):=aj;have i:Tryz.prog.underlying 3=some (.int .i64):=aj;have j:Tryz.prog.underlying 9=some .string:=aj;have a4:IntKind.u8.wrap n=n:=IntWalk.u8_in n ⟨c,aa⟩;repeat refine ah hJ ?_
 refine aR hJ ?_;apply ag _;repeat refine ah hJ ?_
 refine aR hJ ?_;apply ag _;repeat refine ah hJ ?_
 refine eu hJ (by simp only[*,go_sem,ge_iff_le]) ?_;refine aO hJ ?_;repeat refine ah hJ ?_
 refine aR hJ ?_;apply ag _;repeat refine ah hJ ?_
 refine eu hJ (by simp only[*,go_sem,ge_iff_le]) ?_;refine aO hJ ?_;repeat refine ah hJ ?_
 refine aR hJ ?_;apply ag _;repeat refine ah hJ ?_
 refine eu hJ (by simp only[*,go_sem,ge_iff_le]) ?_;refine aO hJ ?_;repeat refine ah hJ ?_
 refine aR hJ ?_;apply ag _;generalize a:ByteArray.mk _=S;have key:∀m:Fin 256,S[m.val]?=some (UInt8.ofNat (me m.val)):=by rw[<-a];decide+kernel
 clear a;have b:n.toNat<256:=aa;have hb:=key ⟨n.toNat,b⟩;have hle:=Io ⟨n.toNat,b⟩;simp only at hb hle;simp only[hb,Option.map_some];refine aQ ?_;apply ag _;have e1:(UInt8.ofNat (me n.toNat)).toNat=me n.toNat:=by rw[UInt8.toNat_ofNat'];omega
 rw[e1,IntWalk.i64_in (me n.toNat:Int) ⟨aa,aa⟩,Int.zero_add,IntWalk.i64_in (me n.toNat:Int) ⟨aa,aa⟩]
theorem Cg {ro:Addr->Option Value}(n:Int){r:Int}(h:uA n=some r):aE Tryz.prog 177 #[.int .u64 n] ⟨ro,[]⟩ (fun v _=>v= .int .i64 r):=by
 unfold uA at h;split at h
 case isFalse=>cases h
 rename_i a;obtain ⟨b,c⟩:=a;cases h;refine aE.go Tryz.func177 rfl Tryz.ntmps177 Tryz.results177 ax fun main J hJ A d hd hs=>?_;have e:=hs 0;clear hs;repeat refine ah hJ ?_
 refine aR hJ ?_;apply ag _;repeat refine ah hJ ?_
 refine eu hJ aM ?_;refine aO hJ ?_;repeat refine ah hJ ?_
 refine aR hJ ?_;apply ag _;refine bf hJ _ (Ip n b c) (aP ?_);apply ag _;refine aQ ?_;simp only[*,go_sem]
theorem Iq:Tryz.prog.underlying 3=some (.int .i64):=aj
attribute [go_sem] Iq
theorem Ir:Tryz.prog.underlying 182=some (.int .u64):=aj
attribute [go_sem] Ir
theorem It:Tryz.prog.underlying 209=some (.int .u64):=aj
attribute [go_sem] It
theorem Iu:Tryz.prog.underlying 250=some (.int .u64):=aj
attribute [go_sem] Iu
def xR (u0:Int):Option (Int×Int):=
 ai (qO u0 13) fun a=>ai (wT (iF u0 a) 7) fun b=>ai (qO (iF (iF u0 a) b) 17) fun c=>some ((iF (iF (iF u0 a) b) c),(iF (iF (iF u0 a) b) c))
theorem Iv {ro:Addr->Option Value}(u0:Int){a:Nat}(r1:∀off sp,ro ⟨a,off,sp⟩=none){r:(Int×Int)}(h:xR u0=some r):aE Tryz.prog 211 #[.pointer (some ⟨a,0,none⟩)] ⟨ro,[(a,.cells #[.int .u64 u0] 250)]⟩ (fun v G=>∃b,(v= .int .u64 r.1/\b=[(a,.cells #[.int .u64 r.2] 250)])/\Le ⟨ro,b⟩ G):=by
 unfold xR at h;refine aE.go Tryz.func211 rfl Tryz.ntmps211 Tryz.results211 ax fun main J hJ A g hd hs=>?_;have i:=hs 0;clear hs;apply ay hJ _;apply ah hJ;refine eW hJ mixed [9] (.pure 0 (.pure 1 (.rd 2 (.pure 3 (.pure 4 (.rd 5 (.pure 6 (.pure 7 (.pure 8 (.last 9 .done)))))))))) ⟨ro,[(a,.cells #[.int .u64 u0] 250)]⟩ aM aj ?_;revert h;refine bS fun c d h=>?_;obtain ⟨q,j⟩:=wS d;clear d;try simp only[go_sem] at j
 apply ag _;apply ah hJ;refine eW hJ mixed [9] (.pure 0 (.pure 1 (.rd 2 (.pure 3 (.pure 4 (.rd 5 (.pure 6 (.pure 7 (.pure 8 (.last 9 .done)))))))))) ⟨ro,[(a,.cells #[.int .u64 (iF u0 c)] 250)]⟩ aM aj ?_;revert h;refine bS fun k e h=>?_;obtain ⟨s,l⟩:=Gb e;clear e;try simp only[go_sem] at l
 apply ag _;apply ah hJ;refine eW hJ mixed [9] (.pure 0 (.pure 1 (.rd 2 (.pure 3 (.pure 4 (.rd 5 (.pure 6 (.pure 7 (.pure 8 (.last 9 .done)))))))))) ⟨ro,[(a,.cells #[.int .u64 (iF (iF u0 c) k)] 250)]⟩ aM aj ?_;revert h;refine bS fun t f h=>?_;cases h;obtain ⟨u,m⟩:=wS f;clear f;try simp only[go_sem] at m
 apply ag _;apply ah hJ;refine e8 [0,2] fun w n o p=>?_;simp only[*,go_sem] at n o p;clear g hd i;apply aF hJ _;refine b9 ?_;exact ⟨_,rfl,Le.sub (List.Sublist.refl _)⟩
def xS (u0:Int):Option Int:=
 ai (uA (IntKind.u64.wrap u0)) fun a=>ai (qO 1 a) fun b=>some b
theorem Iw {ro:Addr->Option Value}(u0:Int){r:Int}(h:xS u0=some r):aE Tryz.prog 210 #[.int .i64 u0] ⟨ro,[]⟩ (fun v _=>v= .int .u64 r):=by
 unfold xS at h;refine aE.go Tryz.func210 rfl Tryz.ntmps210 Tryz.results210 ax fun main J hJ A d hd hs=>?_;have e:=hs 0;clear hs;apply ay hJ _;apply aC hJ;revert h;refine bS fun f b h=>?_;apply ag _;refine bf hJ _ (Cg (IntKind.u64.wrap u0) b) (aP ?_);revert h;refine bS fun g a h=>?_;cases h;obtain ⟨i,c⟩:=wS a;clear a;try simp only[go_sem] at c
 apply ag _;apply aQ;simp only[*,go_sem]
def xT (a:Int)(e:Int)(c:Int)(h:Int)(st:(Int×(List Int)×Int)):Option (Fl (Int×(List Int)×Int) (Unit×(List Int))):=
 cond (decide (st.1<=(IntKind.i64.wrap ((IntKind.i64.wrap (a+(IntKind.i64.wrap (h*2))))+1)))) (ai (ai (xR st.2.2) fun b=>ai (cond (decide ((IntKind.i64.wrap (e - a))<=(IntKind.i64.wrap (iR b.1 (IntKind.u64.wrap (c - 1)))))) (some (.bk (IntKind.i64.wrap ((IntKind.i64.wrap (iR b.1 (IntKind.u64.wrap (c - 1)))) - (IntKind.i64.wrap (e - a)))))) (some (.bk (IntKind.i64.wrap (iR b.1 (IntKind.u64.wrap (c - 1)))))):Option (Fl Int (Unit×(List Int)))) fun o=>aG o (fun d=>ai (bt st.2.1 (IntKind.i64.wrap (a+d))) fun f=>ai (bt st.2.1 st.1) fun i=>ai (bt (st.2.1.set (st.1).toNat f) (IntKind.i64.wrap (a+d))) fun j=>some (.bk (((st.2.1.set (st.1).toNat f).set (IntKind.i64.wrap (a+d)).toNat i),b.2))) (fun _ _=>none) (fun r=>some (.rt r)):Option (Fl ((List Int)×Int) (Unit×(List Int)))) fun o=>aG o (fun g=>some (.nx ((IntKind.i64.wrap (st.1+1)),g.1,g.2))) (fun _ _=>none) (fun r=>some (.rt r))) (some (.bk (st.1,st.2.1,st.2.2)))
def xU (u0:(List Int))(a:Int)(b:Int):Option (Unit×(List Int)):=
 cond (List.isEmpty u0) none (cond (decide (8<=(IntKind.i64.wrap (b - a)))) (ai (xS (IntKind.i64.wrap (b - a))) fun d=>ai (gm (IntKind.i64.wrap (b - a)) 4) fun c=>ai (aY (xT a b d c) fu ((IntKind.i64.wrap ((IntKind.i64.wrap (a+(IntKind.i64.wrap (c*2)))) - 1)),u0,(IntKind.u64.wrap (IntKind.i64.wrap (b - a))))) fun o=>aG o (fun e=>some ((),e.2.1)) (fun _ _=>none) (fun r=>some r)) (some ((),u0)))
theorem Ix {ro:Addr->Option Value}(u0:(List Int)){x:Value}{H:List (Nat×Obj)}(l:bg rI ro 3 x u0 H)(b:Int)(d:Int){r:(Unit×(List Int))}(h:xU u0 b d=some r):aE Tryz.prog 193 #[x,.int .i64 b,.int .i64 d] ⟨ro,H⟩ (fun v G=>∃n,(v= .tuple #[]/\bg rI ro 3 x r.2 n)/\Le ⟨ro,n⟩ G):=by
 obtain ⟨d1,c2,rfl,bm⟩:=l.len;unfold xU at h;revert h;refine cS (fun I h=>?_) fun I h=>?_
 .cases h
 obtain ⟨c,T,rfl,rfl,bo⟩:=l.iW I;refine aE.go Tryz.func193 rfl Tryz.ntmps193 Tryz.results193 ax fun main J hJ A U hd hs=>?_;have V:=hs 0;have k1:=hs 1;have W:=hs 2;clear hs;apply ah hJ;refine aD hJ fun br=>?_;apply aF hJ _;apply ah hJ;refine aD hJ fun bs=>?_;apply aF hJ _;revert h;refine aT hJ (fun X h=>?_) fun X h=>?_
 .apply ah hJ;refine aD hJ fun Y=>?_;apply aF hJ _;refine az fun g Z K=>?_;have bz:=bh.cons K Y;try simp only[av] at K
  apply ah hJ;refine aD hJ fun b0=>?_;apply aR hJ;revert h;refine bS fun j ab h=>?_;apply ag _;refine bf hJ _ (Iw (IntKind.i64.wrap (d - b)) ab) (aP ?_);apply ag _;apply ah hJ;refine aD hJ fun b1=>?_;apply aR hJ;revert h;refine bS fun L M h=>?_;obtain ⟨b2,b3⟩:=kR M;clear M;apply ag _;apply aV hJ;revert h;refine bS fun ad o ae=>?_;refine bY hJ (rg 26 39 [9,10]) (fun m a F'=>∃(e:Array Value) (f:Int) (p:(List Int)) (q:Int),aY (xT b d j L) m (f,p,q)=some ad/\F'=⟨ro,(g,.cells #[.int .u64 q] 250)::[(c,Obj.cells e 3)]⟩/\bg rI ro 3 (.slice (some ⟨c,0,none⟩) u0.length c2) p [(c,Obj.cells e 3)]/\slot a 9= .int .i64 f) fu ?_ ?_
  .refine ⟨T,(IntKind.i64.wrap ((IntKind.i64.wrap (b+(IntKind.i64.wrap (L*2)))) - 1)),u0,(IntKind.u64.wrap (IntKind.i64.wrap (d - b))),o,rfl,l,?_⟩;simp only[*,go_sem]
  rintro y N F' O ⟨e,f,p,q,o,rfl,s,P⟩;obtain ⟨z,B,C⟩:=O.pick [0,1,6,7,8] aB;simp only[*,go_sem] at z B C;clear O U hd V k1 W;obtain _|y:=y
  .exact absurd o (by simp only[aY,reduceCtorEq,not_false_eq_true])
  revert o;refine bS fun b4 h D=>?_;unfold xT at h;try dsimp only at h
  refine ah hJ (ah hJ ?_);refine aD hJ fun b5=>?_;apply aF hJ _;revert h;refine aT hJ (fun al h=>?_) fun al h=>?_
  .apply aO hJ;revert h;refine bS fun ao h ar=>?_;refine gS hJ (fun a F'=>∃(t:Array Value) (u:(List Int)) (w:Int),some (Fl.bk (u,w):Fl ((List Int)×Int) (Unit×(List Int)))=some ao/\F'=⟨ro,(g,.cells #[.int .u64 w] 250)::[(c,Obj.cells t 3)]⟩/\bg rI ro 3 (.slice (some ⟨c,0,none⟩) u0.length c2) u [(c,Obj.cells t 3)]/\sz a=65/\a.defers=[]/\cR (rg 26 39 [9,10]) a N/\slot a 0= .slice (some ⟨c,0,none⟩) u0.length c2/\slot a 1= .int .i64 b/\slot a 6= .int .i64 (IntKind.i64.wrap (d - b))/\slot a 7= .pointer (some ⟨g,0,none⟩)/\slot a 8= .int .u64 j/\slot a 9= .int .i64 f) ?_ ?_
   .refine aV hJ (ah hJ ?_);refine aD hJ fun ca=>?_;apply aR hJ;revert h;refine bS fun i a0 h=>?_;apply ag _;refine ew hJ [] ([(c,Obj.cells e 3)]) _ (Iv q Z a0) (fun cb cd a2 n a3 cf=>?_);obtain ⟨rfl,rfl⟩:=a2;simp only[bn] at a3;subst n;refine ⟨⟨ro,(g,.cells #[.int .u64 i.2] 250)::[(c,Obj.cells e 3)]⟩,Le.refl _,?_⟩;apply aP;apply ag _;revert h;refine bS fun a4 h a5=>?_;refine gS hJ (fun a F'=>∃(k:Int),some (Fl.bk k:Fl Int (Unit×(List Int)))=some a4/\F'=⟨ro,(g,.cells #[.int .u64 i.2] 250)::[(c,Obj.cells e 3)]⟩/\sz a=65/\a.defers=[]/\cR (rg 26 39 [9,10]) a N/\slot a 0= .slice (some ⟨c,0,none⟩) u0.length c2/\slot a 1= .int .i64 b/\slot a 6= .int .i64 (IntKind.i64.wrap (d - b))/\slot a 7= .pointer (some ⟨g,0,none⟩)/\slot a 8= .int .u64 j/\slot a 9= .int .i64 f/\slot a 10= .int .i64 k) ?_ ?_
    .apply ah hJ;refine aD hJ fun cl=>?_;apply aF hJ _;revert h;refine aT hJ (fun a6 h=>?_) fun a6 h=>?_
     .refine aD hJ fun cy=>?_;apply aF hJ _;refine Qn.intro ⟨_,Le.sub (List.Sublist.refl _),(IntKind.i64.wrap ((IntKind.i64.wrap (iR i.1 (IntKind.u64.wrap (j - 1)))) - (IntKind.i64.wrap (d - b)))),h,rfl,?_⟩;simp only[*,go_sem]
     apply oJ hJ _;refine Qn.intro ⟨_,Le.sub (List.Sublist.refl _),(IntKind.i64.wrap (iR i.1 (IntKind.u64.wrap (j - 1)))),h,rfl,?_⟩;simp only[*,go_sem]
    rintro c0 F' ⟨k,Q,rfl,da,db,dd,df,dk,dp,dq,ds,dt,du⟩;obtain rfl:=sI Q;clear Q;have h:=a5;dsimp only[aG] at h;clear z B C P;refine aD hJ fun dv=>?_;refine eW hJ mixed [17,18,19] (.pure 0 (.pure 1 (.pure 2 (.pure 3 (.pure 4 (.pure 5 (.pure 6 (.pure 7 (.pure 8 (.pure 9 (.pure 10 (.rd 11 (.pure 12 (.pure 13 (.pure 14 (.rd 15 (.pure 16 (.last 17 (.pure 18 (.last 19 .done)))))))))))))))))))) ⟨ro,[(g,.cells #[.int .u64 i.2] 250),(c,Obj.cells e 3)]⟩ aM aj ?_;revert h;refine bS fun E a7 h=>?_;obtain ⟨dC,dE,dT,ea⟩:=s.di a7;revert h;refine bS fun F a8 h=>?_;obtain ⟨a9,ba,eb,ec⟩:=s.di a8;have R:=s.gG a9 ba E;revert h;refine bS fun ed bb h=>?_;obtain ⟨bc,bd,eh,et⟩:=R.di bb;have bj:=R.gG bc bd F;apply ag _;refine Qn.intro ⟨_,Le.sub (List.Sublist.refl _),(cY (cY e (f).toNat [.int .i64 E]) (IntKind.i64.wrap (b+k)).toNat [.int .i64 F]),((p.set (f).toNat E).set (IntKind.i64.wrap (b+k)).toNat F),i.2,h,rfl,bj,?_⟩;simp only[*,go_sem]
   rintro ev F' ⟨t,u,w,S,rfl,bl,eQ,eS,e0,e1,e2,e3,fa,fb,fg⟩;obtain rfl:=sI S;clear S;have h:=ar;dsimp only[aG] at h;cases h;clear z B C P;refine aD hJ fun fi=>?_;apply aF hJ _;refine ⟨y,Nat.lt_succ_self _,_,Le.sub (List.Sublist.refl _),t,(IntKind.i64.wrap (f+1)),u,w,D,rfl,bl,?_⟩;simp only[*,go_sem]
  cases h;apply bR;simp only[go_sem];obtain rfl:=sI D;clear D;have h:=ae;dsimp only[aG] at h;cases h;apply ag _;exact ⟨_,s,Le.sub (.cons _ (List.Sublist.refl _))⟩
 cases h;apply oJ hJ _;exact ⟨_,l,Le.sub (List.Sublist.refl _)⟩
def xV (u0:(List Int))(a:Int)(e:Int)(b:Int)(c:Int)(d:Int)(st:Int):Option (Fl Int ((Int×Bool)×(List Int))):=
 cond (decide (st<=(IntKind.i64.wrap (e - 1)))) (ai (bt ((u0.set (a).toNat c).set (b).toNat d) st) fun f=>ai (bt ((u0.set (a).toNat c).set (b).toNat d) a) fun g=>ai (iX f g) fun h=>cond (h) (some (.nx (IntKind.i64.wrap (st+1)))) (some (.bk st))) (some (.bk st))
def xW (u0:(List Int))(a:Int)(b:Int)(c:Int)(d:Int)(e:Int)(st:Int):Option (Fl Int ((Int×Bool)×(List Int))):=
 cond (decide (e<=st)) (ai (bt ((u0.set (a).toNat c).set (b).toNat d) st) fun f=>ai (bt ((u0.set (a).toNat c).set (b).toNat d) a) fun g=>ai (iX f g) fun h=>cond (!h) (some (.nx (IntKind.i64.wrap (st - 1)))) (some (.bk st))) (some (.bk st))
def xX (b:Int)(c:Int)(a:(List Int))(st:Int):Option (Fl Int ((Int×Bool)×(List Int))):=
 cond (decide (st<=c)) (ai (bt a st) fun d=>ai (bt a b) fun e=>ai (iX d e) fun f=>cond (f) (some (.nx (IntKind.i64.wrap (st+1)))) (some (.bk st))) (some (.bk st))
def xY (b:Int)(a:(List Int))(c:Int)(st:Int):Option (Fl Int ((Int×Bool)×(List Int))):=
 cond (decide (c<=st)) (ai (bt a st) fun d=>ai (bt a b) fun e=>ai (iX d e) fun f=>cond (!f) (some (.nx (IntKind.i64.wrap (st - 1)))) (some (.bk st))) (some (.bk st))
def xZ (c:Int)(st:(Int×Int×(List Int))):Option (Fl (Int×Int×(List Int)) ((Int×Bool)×(List Int))):=
 ai (ai (aY (xX c st.2.1 st.2.2) fu st.1) fun o=>aG o (fun e=>some (.bk e)) (fun _ _=>none) (fun r=>some (.rt r)):Option (Fl Int ((Int×Bool)×(List Int)))) fun o=>aG o (fun a=>ai (ai (aY (xY c st.2.2 a) fu st.2.1) fun o=>aG o (fun f=>some (.bk f)) (fun _ _=>none) (fun r=>some (.rt r)):Option (Fl Int ((Int×Bool)×(List Int)))) fun o=>aG o (fun b=>cond (decide (b<a)) (some (.bk (a,b,st.2.2))) (ai (bt st.2.2 b) fun d=>ai (bt st.2.2 a) fun g=>ai (bt (st.2.2.set (a).toNat d) b) fun h=>some (.nx ((IntKind.i64.wrap (a+1)),(IntKind.i64.wrap (b - 1)),((st.2.2.set (a).toNat d).set (b).toNat g))))) (fun _ _=>none) (fun r=>some (.rt r))) (fun _ _=>none) (fun r=>some (.rt r))
def x2 (u0:(List Int))(a:Int)(h:Int)(b:Int):Option ((Int×Bool)×(List Int)):=
 cond (List.isEmpty u0) none (ai (bt u0 b) fun c=>ai (bt u0 a) fun d=>ai (bt (u0.set (a).toNat c) b) fun t=>ai (ai (aY (xV u0 a h b c d) fu (IntKind.i64.wrap (a+1))) fun o=>aG o (fun m=>some (.bk m)) (fun _ _=>none) (fun r=>some (.rt r)):Option (Fl Int ((Int×Bool)×(List Int)))) fun o=>aG o (fun g=>ai (ai (aY (xW u0 a b c d g) fu (IntKind.i64.wrap (h - 1))) fun o=>aG o (fun n=>some (.bk n)) (fun _ _=>none) (fun r=>some (.rt r)):Option (Fl Int ((Int×Bool)×(List Int)))) fun o=>aG o (fun e=>cond (decide (e<g)) (ai (bt ((u0.set (a).toNat c).set (b).toNat d) a) fun i=>ai (bt ((u0.set (a).toNat c).set (b).toNat d) e) fun p=>ai (bt (((u0.set (a).toNat c).set (b).toNat d).set (e).toNat i) a) fun u=>some ((e,true),((((u0.set (a).toNat c).set (b).toNat d).set (e).toNat i).set (a).toNat p))) (ai (bt ((u0.set (a).toNat c).set (b).toNat d) e) fun j=>ai (bt ((u0.set (a).toNat c).set (b).toNat d) g) fun q=>ai (bt (((u0.set (a).toNat c).set (b).toNat d).set (g).toNat j) e) fun v=>ai (ai (aY (xZ a) fu ((IntKind.i64.wrap (g+1)),(IntKind.i64.wrap (e - 1)),((((u0.set (a).toNat c).set (b).toNat d).set (g).toNat j).set (e).toNat q))) fun o=>aG o (fun k=>some (.bk (k.2.1,k.2.2))) (fun _ _=>none) (fun r=>some (.rt r)):Option (Fl (Int×(List Int)) ((Int×Bool)×(List Int)))) fun o=>aG o (fun f=>ai (bt f.2 a) fun l=>ai (bt f.2 f.1) fun s=>ai (bt (f.2.set (f.1).toNat l) a) fun w=>some ((f.1,false),((f.2.set (f.1).toNat l).set (a).toNat s))) (fun _ _=>none) (fun r=>some r))) (fun _ _=>none) (fun r=>some r)) (fun _ _=>none) (fun r=>some r))
theorem Iy {ro:Addr->Option Value}(u0:(List Int)){S:Value}{bb:List (Nat×Obj)}(x:bg rI ro 3 S u0 bb)(c:Int)(y:Int)(p:Int){r:((Int×Bool)×(List Int))}(h:x2 u0 c y p=some r):aE Tryz.prog 199 #[S,.int .i64 c,.int .i64 y,.int .i64 p] ⟨ro,bb⟩ (fun v G=>∃bc,(v= .tuple #[.int .i64 r.1.1,.bool r.1.2]/\bg rI ro 3 S r.2 bc)/\Le ⟨ro,bc⟩ G):=by
 obtain ⟨d1,c2,rfl,lv⟩:=x.len;unfold x2 at h;revert h;refine cS (fun bd h=>?_) fun bd h=>?_
 .cases h
 obtain ⟨b,bj,rfl,rfl,lx⟩:=x.iW bd;refine aE.go Tryz.func199 rfl Tryz.ntmps199 Tryz.results199 ax fun main J hJ A bl hd hs=>?_;have bm:=hs 0;have k1:=hs 1;have bo:=hs 2;have br:=hs 3;clear hs;apply ah hJ;refine aD hJ fun ly=>?_;apply aF hJ _;apply ah hJ;refine aD hJ fun lL=>?_;refine eW hJ mixed [13,14,15] (.pure 0 (.pure 1 (.pure 2 (.pure 3 (.pure 4 (.pure 5 (.pure 6 (.rd 7 (.pure 8 (.pure 9 (.pure 10 (.rd 11 (.pure 12 (.last 13 (.pure 14 (.last 15 .done)))))))))))))))) ⟨ro,[(b,Obj.cells bj 3)]⟩ aM aj ?_;revert h;refine bS fun z fz h=>?_;obtain ⟨l1,l2,l3,l4⟩:=x.di fz;revert h;refine bS fun B gg h=>?_;obtain ⟨gl,gn,ma,mf⟩:=x.di gg;have bs:=x.gG gl gn z;revert h;refine bS fun mi gp h=>?_;obtain ⟨gB,gC,ml,mn⟩:=bs.di gp;have d:=bs.gG gB gC B;apply ag _;apply ah hJ;obtain ⟨f,T⟩:∃o,o=(cY (cY bj (c).toNat [.int .i64 z]) (p).toNat [.int .i64 B]):=⟨_,rfl⟩
 refine cH (F:=⟨ro,[(b,Obj.cells f 3)]⟩) hJ (by rw[T];exact Le.refl _) ?_;rw[<-T] at d;clear T;refine aD hJ fun mr=>?_;apply aF hJ _;revert h;refine bS fun gM h gT=>?_;refine gS hJ (fun a F'=>∃(g:Int),some (Fl.bk g:Fl Int ((Int×Bool)×(List Int)))=some gM/\F'=⟨ro,[(b,Obj.cells f 3)]⟩/\sz a=168/\a.defers=[]/\slot a 0= .slice (some ⟨b,0,none⟩) u0.length c2/\slot a 1= .int .i64 c/\slot a 8= .int .i64 0/\slot a 9= .bool false/\slot a 10= .int .i64 g/\slot a 11= .int .i64 (IntKind.i64.wrap (y - 1))) ?_ ?_
 .apply aV hJ;revert h;refine bS fun gV K bz=>?_;refine bY hJ (rg 30 16 [10]) (fun m a F'=>∃(q:Int),aY (xV u0 c y p z B) m q=some gV/\F'=⟨ro,[(b,Obj.cells f 3)]⟩/\slot a 10= .int .i64 q) fu ?_ ?_
  .refine ⟨(IntKind.i64.wrap (c+1)),K,rfl,?_⟩;simp only[*,go_sem]
  rintro U mx F' b0 ⟨q,K,rfl,my⟩;obtain ⟨g0,g1,g2⟩:=b0.pick [0,1,8,9,11] aB;simp only[*,go_sem] at g0 g1 g2;clear b0 bl hd bm k1 bo br;obtain _|U:=U
  .exact absurd K (by simp only[aY,reduceCtorEq,not_false_eq_true])
  revert K;refine bS fun m1 h C=>?_;unfold xV at h;try dsimp only at h
  refine ah hJ (ah hJ ?_);refine aD hJ fun m2=>?_;refine cV hJ mixed 14 1 aM aj ?_;revert h;refine cS (fun g3 h=>?_) fun g3 h=>?_
  .revert h;refine bS fun g4 ha h=>?_;obtain ⟨na,nb,nd,nf⟩:=d.di ha;revert h;refine bS fun hc hf h=>?_;obtain ⟨nm,nn,np,ns⟩:=d.di hf;revert h;refine bS fun nx hg h=>?_;apply ag _;refine ⟨_,bI hJ fun F V=>kq g4 hc hg,ck ?_⟩;apply ag _;revert h;refine aT hJ (fun hh h=>?_) fun hh h=>?_
   .cases h;refine aO hJ (aV hJ ?_);refine aD hJ fun nz=>?_;apply aF hJ _;refine ⟨U,Nat.lt_succ_self _,_,Le.sub (List.Sublist.refl _),(IntKind.i64.wrap (q+1)),C,rfl,?_⟩;simp only[*,go_sem]
   cases h;apply bR;simp only[go_sem];obtain rfl:=sI C;clear C;have h:=bz;dsimp only[aG] at h;apply ag _;refine Qn.intro ⟨_,Le.sub (List.Sublist.refl _),q,h,rfl,?_⟩;simp only[*,go_sem]
  cases h;apply ag _;refine cF hJ ?_;apply bR;simp only[go_sem];obtain rfl:=sI C;clear C;have h:=bz;dsimp only[aG] at h;refine Qn.intro ⟨_,Le.sub (List.Sublist.refl _),q,h,rfl,?_⟩;simp only[*,go_sem]
 rintro nA F' ⟨g,b1,rfl,b2,b3,b4,b5,ca,cb,cd,cf⟩;obtain rfl:=sI b1;clear b1;have h:=gT;dsimp only[aG] at h;clear bl hd bm k1 bo br;revert h;refine bS fun hi h hj=>?_;refine gS hJ (fun a F'=>∃(k:Int),some (Fl.bk k:Fl Int ((Int×Bool)×(List Int)))=some hi/\F'=⟨ro,[(b,Obj.cells f 3)]⟩/\sz a=168/\a.defers=[]/\slot a 0= .slice (some ⟨b,0,none⟩) u0.length c2/\slot a 1= .int .i64 c/\slot a 8= .int .i64 0/\slot a 9= .bool false/\slot a 10= .int .i64 g/\slot a 11= .int .i64 k) ?_ ?_
 .apply aV hJ;revert h;refine bS fun hk L cl=>?_;refine bY hJ (rg 46 17 [11]) (fun m a F'=>∃(s:Int),aY (xW u0 c p z B g) m s=some hk/\F'=⟨ro,[(b,Obj.cells f 3)]⟩/\slot a 11= .int .i64 s) fu ?_ ?_
  .refine ⟨(IntKind.i64.wrap (y - 1)),L,rfl,?_⟩;simp only[*,go_sem]
  rintro W nH F' cy ⟨s,L,rfl,nI⟩;obtain ⟨hl,hn,ho⟩:=cy.pick [0,1,8,9,10] aB;simp only[*,go_sem] at hl hn ho;clear cy b2 b3 b4 b5 ca cb cd cf;obtain _|W:=W
  .exact absurd L (by simp only[aY,reduceCtorEq,not_false_eq_true])
  revert L;refine bS fun nK h D=>?_;unfold xW at h;try dsimp only at h
  refine ah hJ (ah hJ ?_);refine aD hJ fun nQ=>?_;refine cV hJ mixed 15 1 aM aj ?_;revert h;refine cS (fun hp h=>?_) fun hp h=>?_
  .revert h;refine bS fun hq hr h=>?_;obtain ⟨nR,nT,nV,nX⟩:=d.di hr;revert h;refine bS fun ht hv h=>?_;obtain ⟨nY,n0,n1,n2⟩:=d.di hv;revert h;refine bS fun n3 hx h=>?_;apply ag _;refine ⟨_,bI hJ fun F V=>kq hq ht hx,ck ?_⟩;apply ag _;revert h;refine aT hJ (fun hy h=>?_) fun hy h=>?_
   .cases h;refine aO hJ (aV hJ ?_);refine aD hJ fun oc=>?_;apply aF hJ _;refine ⟨W,Nat.lt_succ_self _,_,Le.sub (List.Sublist.refl _),(IntKind.i64.wrap (s - 1)),D,rfl,?_⟩;simp only[*,go_sem]
   cases h;apply bR;simp only[go_sem];obtain rfl:=sI D;clear D;have h:=cl;dsimp only[aG] at h;apply ag _;refine Qn.intro ⟨_,Le.sub (List.Sublist.refl _),s,h,rfl,?_⟩;simp only[*,go_sem]
  cases h;apply ag _;refine cF hJ ?_;apply bR;simp only[go_sem];obtain rfl:=sI D;clear D;have h:=cl;dsimp only[aG] at h;refine Qn.intro ⟨_,Le.sub (List.Sublist.refl _),s,h,rfl,?_⟩;simp only[*,go_sem]
 rintro oi F' ⟨k,c0,rfl,da,db,dd,df,dk,dp,dq,ds⟩;obtain rfl:=sI c0;clear c0;have h:=hj;dsimp only[aG] at h;clear b2 b3 b4 b5 ca cb cd cf;refine ah hJ (ah hJ ?_);refine aD hJ fun oj=>?_;apply aF hJ _;revert h;refine aT hJ (fun hz h=>?_) fun hz h=>?_
 .apply ah hJ;refine aD hJ fun ox=>?_;refine eW hJ mixed [13,14,15] (.pure 0 (.pure 1 (.pure 2 (.pure 3 (.pure 4 (.pure 5 (.pure 6 (.rd 7 (.pure 8 (.pure 9 (.pure 10 (.rd 11 (.pure 12 (.last 13 (.pure 14 (.last 15 .done)))))))))))))))) ⟨ro,[(b,Obj.cells f 3)]⟩ aM aj ?_;revert h;refine bS fun dt hA h=>?_;obtain ⟨oy,o0,o1,o2⟩:=d.di hA;revert h;refine bS fun du hB h=>?_;obtain ⟨hD,hE,o4,pa⟩:=d.di hB;have dv:=d.gG hD hE dt;revert h;refine bS fun pb hF h=>?_;cases h;obtain ⟨hG,hI,pd,pf⟩:=dv.di hF;have dC:=dv.gG hG hI du;apply ag _;apply ah hJ;obtain ⟨hK,X⟩:∃o,o=(cY (cY f (k).toNat [.int .i64 dt]) (c).toNat [.int .i64 du]):=⟨_,rfl⟩
  refine cH (F:=⟨ro,[(b,Obj.cells hK 3)]⟩) hJ (by rw[X];exact Le.refl _) ?_;rw[<-X] at dC;clear X;refine aD hJ fun ph=>?_;apply aF hJ _;refine b9 ?_;exact ⟨_,dC,Le.sub (List.Sublist.refl _)⟩
 refine aO hJ (ah hJ ?_);refine aD hJ fun pj=>?_;refine eW hJ mixed [13,14,15] (.pure 0 (.pure 1 (.pure 2 (.pure 3 (.pure 4 (.pure 5 (.pure 6 (.rd 7 (.pure 8 (.pure 9 (.pure 10 (.rd 11 (.pure 12 (.last 13 (.pure 14 (.last 15 .done)))))))))))))))) ⟨ro,[(b,Obj.cells f 3)]⟩ aM aj ?_;revert h;refine bS fun Y hL h=>?_;obtain ⟨pk,po,pr,ps⟩:=d.di hL;revert h;refine bS fun Z hM h=>?_;obtain ⟨hN,hP,pt,pv⟩:=d.di hM;have dE:=d.gG hN hP Y;revert h;refine bS fun pw hQ h=>?_;obtain ⟨hR,hS,px,py⟩:=dE.di hQ;have dT:=dE.gG hR hS Z;apply ag _;apply ah hJ;obtain ⟨ea,ab⟩:∃o,o=(cY (cY f (g).toNat [.int .i64 Y]) (k).toNat [.int .i64 Z]):=⟨_,rfl⟩
 refine cH (F:=⟨ro,[(b,Obj.cells ea 3)]⟩) hJ (by rw[ab];exact Le.refl _) ?_;rw[<-ab] at dT;clear ab;refine aD hJ fun pA=>?_;apply aF hJ _;apply ah hJ;refine aD hJ fun pB=>?_;apply aF hJ _;revert h;refine bS fun hT h hV=>?_;refine gS hJ (fun a F'=>∃(E:Array Value) (M:Int) (ad:(List Int)),some (Fl.bk (M,ad):Fl (Int×(List Int)) ((Int×Bool)×(List Int)))=some hT/\F'=⟨ro,[(b,Obj.cells E 3)]⟩/\bg rI ro 3 (.slice (some ⟨b,0,none⟩) u0.length c2) ad [(b,Obj.cells E 3)]/\sz a=168/\a.defers=[]/\slot a 0= .slice (some ⟨b,0,none⟩) u0.length c2/\slot a 1= .int .i64 c/\slot a 8= .int .i64 0/\slot a 9= .bool false/\slot a 11= .int .i64 M) ?_ ?_
 .apply aV hJ;revert h;refine bS fun hX N hY=>?_;refine bY hJ (rg 99 54 [10,11]) (fun m a F'=>∃(e:Array Value) (O:Int) (t:Int) (l:(List Int)),aY (xZ c) m (O,t,l)=some hX/\F'=⟨ro,[(b,Obj.cells e 3)]⟩/\bg rI ro 3 (.slice (some ⟨b,0,none⟩) u0.length c2) l [(b,Obj.cells e 3)]/\slot a 10= .int .i64 O/\slot a 11= .int .i64 t) fu ?_ ?_
  .refine ⟨ea,(IntKind.i64.wrap (g+1)),(IntKind.i64.wrap (k - 1)),((((u0.set (c).toNat z).set (p).toNat B).set (g).toNat Y).set (k).toNat Z),N,rfl,dT,?_⟩;simp only[*,go_sem]
  rintro ae P F' eb ⟨e,O,t,l,N,rfl,i,ec,ed⟩;obtain ⟨al,ao,ar⟩:=eb.pick [0,1,8,9] aB;simp only[*,go_sem] at al ao ar;clear eb da db dd df dk dp dq ds;obtain _|ae:=ae
  .exact absurd N (by simp only[aY,reduceCtorEq,not_false_eq_true])
  revert N;refine bS fun pC h a0=>?_;unfold xZ at h;try dsimp only at h
  apply aV hJ;revert h;refine bS fun hZ h h0=>?_;refine gS hJ (fun a F'=>∃(j:Int),some (Fl.bk j:Fl Int ((Int×Bool)×(List Int)))=some hZ/\F'=⟨ro,[(b,Obj.cells e 3)]⟩/\sz a=168/\a.defers=[]/\cR (rg 99 54 [10,11]) a P/\slot a 0= .slice (some ⟨b,0,none⟩) u0.length c2/\slot a 1= .int .i64 c/\slot a 8= .int .i64 0/\slot a 9= .bool false/\slot a 10= .int .i64 j/\slot a 11= .int .i64 t) ?_ ?_
  .apply aV hJ;revert h;refine bS fun h1 Q eh=>?_;refine bY hJ (rg 99 16 [10]) (fun m a F'=>∃(u:Int),aY (xX c t l) m u=some h1/\F'=⟨ro,[(b,Obj.cells e 3)]⟩/\slot a 10= .int .i64 u) fu ?_ ?_
   .refine ⟨O,Q,rfl,?_⟩;simp only[*,go_sem]
   rintro a2 h2 F' a3 ⟨u,Q,rfl,pD⟩;obtain ⟨h3,h4,h5⟩:=a3.pick [0,1,8,9,11] aB;simp only[*,go_sem] at h3 h4 h5;have pL:cR (rg 99 54 [10,11]) h2 P:=(a3.fE aB).trans aM;clear a3 al ao ar ec ed;obtain _|a2:=a2
   .exact absurd Q (by simp only[aY,reduceCtorEq,not_false_eq_true])
   revert Q;refine bS fun pT h H=>?_;unfold xX at h;(try dsimp only at h);refine ah hJ (ah hJ ?_);refine aD hJ fun p0=>?_;refine cV hJ mixed 14 1 aM aj ?_;revert h;refine cS (fun h6 h=>?_) fun h6 h=>?_
   .revert h;refine bS fun h7 h8 h=>?_;obtain ⟨p1,qe,qk,q0⟩:=i.di h8;revert h;refine bS fun h9 ib h=>?_;obtain ⟨q1,ra,rb,re⟩:=i.di ib;revert h;refine bS fun rh ic h=>?_;apply ag _;refine ⟨_,bI hJ fun F V=>kq h7 h9 ic,ck ?_⟩;apply ag _;revert h;refine aT hJ (fun ih h=>?_) fun ih h=>?_
    .cases h;refine aO hJ (aV hJ ?_);refine aD hJ fun rk=>?_;apply aF hJ _;refine ⟨a2,Nat.lt_succ_self _,_,Le.sub (List.Sublist.refl _),(IntKind.i64.wrap (u+1)),H,rfl,?_⟩;simp only[*,go_sem]
    cases h;apply bR;simp only[go_sem];obtain rfl:=sI H;clear H;have h:=eh;dsimp only[aG] at h;apply ag _;refine Qn.intro ⟨_,Le.sub (List.Sublist.refl _),u,h,rfl,?_⟩;simp only[*,go_sem]
   cases h;apply ag _;refine cF hJ ?_;apply bR;simp only[go_sem];obtain rfl:=sI H;clear H;have h:=eh;dsimp only[aG] at h;refine Qn.intro ⟨_,Le.sub (List.Sublist.refl _),u,h,rfl,?_⟩;simp only[*,go_sem]
  rintro rl F' ⟨j,et,rfl,ev,eQ,rn,eS,e0,e1,e2,e3,fa⟩;obtain rfl:=sI et;clear et;have h:=h0;dsimp only[aG] at h;clear al ao ar ec ed;revert h;refine bS fun ik h il=>?_;refine gS hJ (fun a F'=>∃(n:Int),some (Fl.bk n:Fl Int ((Int×Bool)×(List Int)))=some ik/\F'=⟨ro,[(b,Obj.cells e 3)]⟩/\sz a=168/\a.defers=[]/\cR (rg 99 54 [10,11]) a P/\slot a 0= .slice (some ⟨b,0,none⟩) u0.length c2/\slot a 1= .int .i64 c/\slot a 8= .int .i64 0/\slot a 9= .bool false/\slot a 10= .int .i64 j/\slot a 11= .int .i64 n) ?_ ?_
  .apply aV hJ;revert h;refine bS fun im R fb=>?_;refine bY hJ (rg 115 17 [11]) (fun m a F'=>∃(w:Int),aY (xY c l j) m w=some im/\F'=⟨ro,[(b,Obj.cells e 3)]⟩/\slot a 11= .int .i64 w) fu ?_ ?_
   .refine ⟨t,R,rfl,?_⟩;simp only[*,go_sem]
   rintro a4 iv F' a5 ⟨w,R,rfl,rp⟩;obtain ⟨ix,jC,j1⟩:=a5.pick [0,1,8,9,10] aB;simp only[*,go_sem] at ix jC j1;have rr:cR (rg 99 54 [10,11]) iv P:=(a5.fE aB).trans aM;clear a5 ev eQ eS e0 e1 e2 e3 fa;obtain _|a4:=a4
   .exact absurd R (by simp only[aY,reduceCtorEq,not_false_eq_true])
   revert R;refine bS fun rv h I=>?_;unfold xY at h;(try dsimp only at h);refine ah hJ (ah hJ ?_);refine aD hJ fun rB=>?_;refine cV hJ mixed 15 1 aM aj ?_;revert h;refine cS (fun j2 h=>?_) fun j2 h=>?_
   .revert h;refine bS fun kh kj h=>?_;obtain ⟨rL,sa,sb,sc⟩:=i.di kj;revert h;refine bS fun kk kl h=>?_;obtain ⟨sf,sg,sh,sl⟩:=i.di kl;revert h;refine bS fun sm km h=>?_;apply ag _;refine ⟨_,bI hJ fun F V=>kq kh kk km,ck ?_⟩;apply ag _;revert h;refine aT hJ (fun kn h=>?_) fun kn h=>?_
    .cases h;refine aO hJ (aV hJ ?_);refine aD hJ fun ss=>?_;apply aF hJ _;refine ⟨a4,Nat.lt_succ_self _,_,Le.sub (List.Sublist.refl _),(IntKind.i64.wrap (w - 1)),I,rfl,?_⟩;simp only[*,go_sem]
    cases h;apply bR;simp only[go_sem];obtain rfl:=sI I;clear I;have h:=fb;dsimp only[aG] at h;apply ag _;refine Qn.intro ⟨_,Le.sub (List.Sublist.refl _),w,h,rfl,?_⟩;simp only[*,go_sem]
   cases h;apply ag _;refine cF hJ ?_;apply bR;simp only[go_sem];obtain rfl:=sI I;clear I;have h:=fb;dsimp only[aG] at h;refine Qn.intro ⟨_,Le.sub (List.Sublist.refl _),w,h,rfl,?_⟩;simp only[*,go_sem]
  rintro sy F' ⟨n,fg,rfl,sT,ta,tb,te,ti,tk,tl,tm,tp⟩;obtain rfl:=sI fg;clear fg;have h:=il;dsimp only[aG] at h;clear ev eQ eS e0 e1 e2 e3 fa;refine ah hJ (ah hJ ?_);refine aD hJ fun ts=>?_;apply aF hJ _;revert h;refine aT hJ (fun kp h=>?_) fun kp h=>?_
  .cases h;apply bR;simp only[go_sem];obtain rfl:=sI a0;clear a0;have h:=hY;dsimp only[aG] at h;apply ag _;refine Qn.intro ⟨_,Le.sub (List.Sublist.refl _),e,n,l,h,rfl,i,?_⟩;simp only[*,go_sem]
  refine aO hJ (ah hJ ?_);refine aD hJ fun tt=>?_;refine eW hJ mixed [13,14,15] (.pure 0 (.pure 1 (.pure 2 (.pure 3 (.pure 4 (.pure 5 (.pure 6 (.rd 7 (.pure 8 (.pure 9 (.pure 10 (.rd 11 (.pure 12 (.last 13 (.pure 14 (.last 15 .done)))))))))))))))) ⟨ro,[(b,Obj.cells e 3)]⟩ aM aj ?_;revert h;refine bS fun a6 ks h=>?_;obtain ⟨tx,tz,tI,tM⟩:=i.di ks;revert h;refine bS fun a7 kt h=>?_;obtain ⟨kv,kx,tW,ub⟩:=i.di kt;have fi:=i.gG kv kx a6;revert h;refine bS fun ui ky h=>?_;cases h;obtain ⟨k0,k2,u1,u2⟩:=fi.di ky;have fp:=fi.gG k0 k2 a7;apply ag _;apply ah hJ;obtain ⟨fr,a8⟩:∃o,o=(cY (cY e (j).toNat [.int .i64 a6]) (n).toNat [.int .i64 a7]):=⟨_,rfl⟩
  refine cH (F:=⟨ro,[(b,Obj.cells fr 3)]⟩) hJ (by rw[a8];exact Le.refl _) ?_;rw[<-a8] at fp;clear a8;refine aD hJ fun u3=>?_;apply aF hJ _;refine aD hJ fun u4=>?_;apply aF hJ _;refine ⟨ae,Nat.lt_succ_self _,_,Le.sub (List.Sublist.refl _),fr,(IntKind.i64.wrap (j+1)),(IntKind.i64.wrap (n - 1)),((l.set (j).toNat a6).set (n).toNat a7),a0,rfl,fp,?_⟩;simp only[*,go_sem]
 rintro va F' ⟨E,M,ad,fs,rfl,a9,vd,vs,vx,vy,v3,wa,wb⟩;obtain rfl:=sI fs;clear fs;have h:=hV;dsimp only[aG] at h;clear da db dd df dk dp dq ds;apply ah hJ;refine aD hJ fun wc=>?_;refine eW hJ mixed [13,14,15] (.pure 0 (.pure 1 (.pure 2 (.pure 3 (.pure 4 (.pure 5 (.pure 6 (.rd 7 (.pure 8 (.pure 9 (.pure 10 (.rd 11 (.pure 12 (.last 13 (.pure 14 (.last 15 .done)))))))))))))))) ⟨ro,[(b,Obj.cells E 3)]⟩ aM aj ?_;revert h;refine bS fun ft lb h=>?_;obtain ⟨wi,wx,wy,wG⟩:=a9.di lb;revert h;refine bS fun fv lh h=>?_;obtain ⟨lj,lk,w0,xa⟩:=a9.di lh;have fw:=a9.gG lj lk ft;revert h;refine bS fun xc ll h=>?_;cases h;obtain ⟨ln,lo,xf,xi⟩:=fw.di ll;have fx:=fw.gG ln lo fv;apply ag _;apply ah hJ;obtain ⟨lr,ba⟩:∃o,o=(cY (cY E (M).toNat [.int .i64 ft]) (c).toNat [.int .i64 fv]):=⟨_,rfl⟩
 refine cH (F:=⟨ro,[(b,Obj.cells lr 3)]⟩) hJ (by rw[ba];exact Le.refl _) ?_;rw[<-ba] at fx;clear ba;refine aD hJ fun xn=>?_;apply aF hJ _;refine b9 ?_;exact ⟨_,fx,Le.sub (List.Sublist.refl _)⟩
def x3 (b:Int)(c:Int)(a:(List Int))(st:Int):Option (Fl Int (Int×(List Int))):=
 cond (decide (st<=c)) (ai (bt a b) fun d=>ai (bt a st) fun e=>ai (iX d e) fun f=>cond (!f) (some (.nx (IntKind.i64.wrap (st+1)))) (some (.bk st))) (some (.bk st))
def x4 (b:Int)(a:(List Int))(c:Int)(st:Int):Option (Fl Int (Int×(List Int))):=
 cond (decide (c<=st)) (ai (bt a b) fun d=>ai (bt a st) fun e=>ai (iX d e) fun f=>cond (f) (some (.nx (IntKind.i64.wrap (st - 1)))) (some (.bk st))) (some (.bk st))
def x5 (c:Int)(st:(Int×Int×(List Int))):Option (Fl (Int×Int×(List Int)) (Int×(List Int))):=
 ai (ai (aY (x3 c st.2.1 st.2.2) fu st.1) fun o=>aG o (fun e=>some (.bk e)) (fun _ _=>none) (fun r=>some (.rt r)):Option (Fl Int (Int×(List Int)))) fun o=>aG o (fun a=>ai (ai (aY (x4 c st.2.2 a) fu st.2.1) fun o=>aG o (fun f=>some (.bk f)) (fun _ _=>none) (fun r=>some (.rt r)):Option (Fl Int (Int×(List Int)))) fun o=>aG o (fun b=>cond (decide (b<a)) (some (.bk (a,b,st.2.2))) (ai (bt st.2.2 b) fun d=>ai (bt st.2.2 a) fun g=>ai (bt (st.2.2.set (a).toNat d) b) fun h=>some (.nx ((IntKind.i64.wrap (a+1)),(IntKind.i64.wrap (b - 1)),((st.2.2.set (a).toNat d).set (b).toNat g))))) (fun _ _=>none) (fun r=>some (.rt r))) (fun _ _=>none) (fun r=>some (.rt r))
def x6 (u0:(List Int))(a:Int)(f:Int)(b:Int):Option (Int×(List Int)):=
 cond (List.isEmpty u0) none (ai (bt u0 b) fun c=>ai (bt u0 a) fun g=>ai (bt (u0.set (a).toNat c) b) fun h=>ai (ai (aY (x5 a) fu ((IntKind.i64.wrap (a+1)),(IntKind.i64.wrap (f - 1)),((u0.set (a).toNat c).set (b).toNat g))) fun o=>aG o (fun d=>some (.bk (d.1,d.2.2))) (fun _ _=>none) (fun r=>some (.rt r)):Option (Fl (Int×(List Int)) (Int×(List Int)))) fun o=>aG o (fun e=>some (e.1,e.2)) (fun _ _=>none) (fun r=>some r))
theorem Iz {ro:Addr->Option Value}(u0:(List Int)){z:Value}{X:List (Nat×Obj)}(n:bg rI ro 3 z u0 X)(c:Int)(B:Int)(s:Int){r:(Int×(List Int))}(h:x6 u0 c B s=some r):aE Tryz.prog 198 #[z,.int .i64 c,.int .i64 B,.int .i64 s] ⟨ro,X⟩ (fun v G=>∃Y,(v= .int .i64 r.1/\bg rI ro 3 z r.2 Y)/\Le ⟨ro,Y⟩ G):=by
 obtain ⟨d1,c2,rfl,fw⟩:=n.len;unfold x6 at h;revert h;refine cS (fun Z h=>?_) fun Z h=>?_
 .cases h
 obtain ⟨b,ab,rfl,rfl,fx⟩:=n.iW Z;refine aE.go Tryz.func198 rfl Tryz.ntmps198 Tryz.results198 ax fun main J hJ A ad hd hs=>?_;have ae:=hs 0;have k1:=hs 1;have al:=hs 2;have ao:=hs 3;clear hs;apply ah hJ;refine aD hJ fun fz=>?_;apply aF hJ _;apply ah hJ;refine aD hJ fun gg=>?_;refine eW hJ mixed [13,14,15] (.pure 0 (.pure 1 (.pure 2 (.pure 3 (.pure 4 (.pure 5 (.pure 6 (.rd 7 (.pure 8 (.pure 9 (.pure 10 (.rd 11 (.pure 12 (.last 13 (.pure 14 (.last 15 .done)))))))))))))))) ⟨ro,[(b,Obj.cells ab 3)]⟩ aM aj ?_;revert h;refine bS fun C b0 h=>?_;obtain ⟨gl,gn,gp,gB⟩:=n.di b0;revert h;refine bS fun D b1 h=>?_;obtain ⟨b2,b3,gC,gM⟩:=n.di b1;have ar:=n.gG b2 b3 C;revert h;refine bS fun gT b4 h=>?_;obtain ⟨b5,ca,gV,g0⟩:=ar.di b4;have a0:=ar.gG b5 ca D;apply ag _;apply ah hJ;obtain ⟨a2,E⟩:∃o,o=(cY (cY ab (c).toNat [.int .i64 C]) (s).toNat [.int .i64 D]):=⟨_,rfl⟩
 refine cH (F:=⟨ro,[(b,Obj.cells a2 3)]⟩) hJ (by rw[E];exact Le.refl _) ?_;rw[<-E] at a0;clear E;refine aD hJ fun g1=>?_;apply aF hJ _;revert h;refine bS fun cb h cd=>?_;refine gS hJ (fun a F'=>∃(H:Array Value) (I:Int) (K:(List Int)),some (Fl.bk (I,K):Fl (Int×(List Int)) (Int×(List Int)))=some cb/\F'=⟨ro,[(b,Obj.cells H 3)]⟩/\bg rI ro 3 (.slice (some ⟨b,0,none⟩) u0.length c2) K [(b,Obj.cells H 3)]/\sz a=84/\a.defers=[]/\slot a 0= .slice (some ⟨b,0,none⟩) u0.length c2/\slot a 8= .int .i64 0/\slot a 9= .int .i64 I) ?_ ?_
 .apply aV hJ;revert h;refine bS fun cf t cl=>?_;refine bY hJ (rg 29 54 [9,10]) (fun m a F'=>∃(d:Array Value) (u:Int) (i:Int) (g:(List Int)),aY (x5 c) m (u,i,g)=some cf/\F'=⟨ro,[(b,Obj.cells d 3)]⟩/\bg rI ro 3 (.slice (some ⟨b,0,none⟩) u0.length c2) g [(b,Obj.cells d 3)]/\slot a 9= .int .i64 u/\slot a 10= .int .i64 i) fu ?_ ?_
  .refine ⟨a2,(IntKind.i64.wrap (c+1)),(IntKind.i64.wrap (B - 1)),((u0.set (c).toNat C).set (s).toNat D),t,rfl,a0,?_⟩;simp only[*,go_sem]
  rintro L w F' a3 ⟨d,u,i,g,t,rfl,f,a4,a5⟩;obtain ⟨M,N,O⟩:=a3.pick [0,1,8] aB;simp only[*,go_sem] at M N O;clear a3 ad hd ae k1 al ao;obtain _|L:=L
  .exact absurd t (by simp only[aY,reduceCtorEq,not_false_eq_true])
  revert t;refine bS fun g2 h P=>?_;unfold x5 at h;try dsimp only at h
  apply aV hJ;revert h;refine bS fun cy h c0=>?_;refine gS hJ (fun a F'=>∃(e:Int),some (Fl.bk e:Fl Int (Int×(List Int)))=some cy/\F'=⟨ro,[(b,Obj.cells d 3)]⟩/\sz a=84/\a.defers=[]/\cR (rg 29 54 [9,10]) a w/\slot a 0= .slice (some ⟨b,0,none⟩) u0.length c2/\slot a 1= .int .i64 c/\slot a 8= .int .i64 0/\slot a 9= .int .i64 e/\slot a 10= .int .i64 i) ?_ ?_
  .apply aV hJ;revert h;refine bS fun da x a6=>?_;refine bY hJ (rg 29 17 [9]) (fun m a F'=>∃(j:Int),aY (x3 c i g) m j=some da/\F'=⟨ro,[(b,Obj.cells d 3)]⟩/\slot a 9= .int .i64 j) fu ?_ ?_
   .refine ⟨u,x,rfl,?_⟩;simp only[*,go_sem]
   rintro Q db F' R ⟨j,x,rfl,g3⟩;obtain ⟨dd,df,dk⟩:=R.pick [0,1,8,10] aB;simp only[*,go_sem] at dd df dk;have g4:cR (rg 29 54 [9,10]) db w:=(R.fE aB).trans aM;clear R M N O a4 a5;obtain _|Q:=Q
   .exact absurd x (by simp only[aY,reduceCtorEq,not_false_eq_true])
   revert x;refine bS fun ha h p=>?_;unfold x3 at h;(try dsimp only at h);refine ah hJ (ah hJ ?_);refine aD hJ fun hc=>?_;refine cV hJ mixed 15 1 aM aj ?_;revert h;refine cS (fun dp h=>?_) fun dp h=>?_
   .revert h;refine bS fun dq ds h=>?_;obtain ⟨hf,hg,hh,hi⟩:=f.di ds;revert h;refine bS fun dt du h=>?_;obtain ⟨hj,hk,hl,hn⟩:=f.di du;revert h;refine bS fun ho dv h=>?_;apply ag _;refine ⟨_,bI hJ fun F dC=>kq dq dt dv,ck ?_⟩;apply ag _;revert h;refine aT hJ (fun dE h=>?_) fun dE h=>?_
    .cases h;refine aO hJ (aV hJ ?_);refine aD hJ fun hp=>?_;apply aF hJ _;refine ⟨Q,Nat.lt_succ_self _,_,Le.sub (List.Sublist.refl _),(IntKind.i64.wrap (j+1)),p,rfl,?_⟩;simp only[*,go_sem]
    cases h;apply bR;simp only[go_sem];obtain rfl:=sI p;clear p;have h:=a6;dsimp only[aG] at h;apply ag _;refine Qn.intro ⟨_,Le.sub (List.Sublist.refl _),j,h,rfl,?_⟩;simp only[*,go_sem]
   cases h;apply ag _;refine cF hJ ?_;apply bR;simp only[go_sem];obtain rfl:=sI p;clear p;have h:=a6;dsimp only[aG] at h;refine Qn.intro ⟨_,Le.sub (List.Sublist.refl _),j,h,rfl,?_⟩;simp only[*,go_sem]
  rintro hq F' ⟨e,a7,rfl,a8,a9,hr,ba,bb,bc,bd,bj⟩;obtain rfl:=sI a7;clear a7;have h:=c0;dsimp only[aG] at h;clear M N O a4 a5;revert h;refine bS fun dT h ea=>?_;refine gS hJ (fun a F'=>∃(k:Int),some (Fl.bk k:Fl Int (Int×(List Int)))=some dT/\F'=⟨ro,[(b,Obj.cells d 3)]⟩/\sz a=84/\a.defers=[]/\cR (rg 29 54 [9,10]) a w/\slot a 0= .slice (some ⟨b,0,none⟩) u0.length c2/\slot a 1= .int .i64 c/\slot a 8= .int .i64 0/\slot a 9= .int .i64 e/\slot a 10= .int .i64 k) ?_ ?_
  .apply aV hJ;revert h;refine bS fun eb y bl=>?_;refine bY hJ (rg 46 16 [10]) (fun m a F'=>∃(l:Int),aY (x4 c g e) m l=some eb/\F'=⟨ro,[(b,Obj.cells d 3)]⟩/\slot a 10= .int .i64 l) fu ?_ ?_
   .refine ⟨i,y,rfl,?_⟩;simp only[*,go_sem]
   rintro S ec F' T ⟨l,y,rfl,ht⟩;obtain ⟨ed,eh,et⟩:=T.pick [0,1,8,9] aB;simp only[*,go_sem] at ed eh et;have hv:cR (rg 29 54 [9,10]) ec w:=(T.fE aB).trans aM;clear T a8 a9 ba bb bc bd bj;obtain _|S:=S
   .exact absurd y (by simp only[aY,reduceCtorEq,not_false_eq_true])
   revert y;refine bS fun hx h q=>?_;unfold x4 at h;(try dsimp only at h);refine ah hJ (ah hJ ?_);refine aD hJ fun hy=>?_;refine cV hJ mixed 14 1 aM aj ?_;revert h;refine cS (fun ev h=>?_) fun ev h=>?_
   .revert h;refine bS fun eQ eS h=>?_;obtain ⟨hz,hA,hB,hD⟩:=f.di eS;revert h;refine bS fun e0 e1 h=>?_;obtain ⟨hE,hF,hG,hI⟩:=f.di e1;revert h;refine bS fun hK e2 h=>?_;apply ag _;refine ⟨_,bI hJ fun F dC=>kq eQ e0 e2,ck ?_⟩;apply ag _;revert h;refine aT hJ (fun e3 h=>?_) fun e3 h=>?_
    .cases h;refine aO hJ (aV hJ ?_);refine aD hJ fun hL=>?_;apply aF hJ _;refine ⟨S,Nat.lt_succ_self _,_,Le.sub (List.Sublist.refl _),(IntKind.i64.wrap (l - 1)),q,rfl,?_⟩;simp only[*,go_sem]
    cases h;apply bR;simp only[go_sem];obtain rfl:=sI q;clear q;have h:=bl;dsimp only[aG] at h;apply ag _;refine Qn.intro ⟨_,Le.sub (List.Sublist.refl _),l,h,rfl,?_⟩;simp only[*,go_sem]
   cases h;apply ag _;refine cF hJ ?_;apply bR;simp only[go_sem];obtain rfl:=sI q;clear q;have h:=bl;dsimp only[aG] at h;refine Qn.intro ⟨_,Le.sub (List.Sublist.refl _),l,h,rfl,?_⟩;simp only[*,go_sem]
  rintro hM F' ⟨k,bm,rfl,hN,hP,hQ,hR,hS,hT,hV,hX⟩;obtain rfl:=sI bm;clear bm;have h:=ea;dsimp only[aG] at h;clear a8 a9 ba bb bc bd bj;refine ah hJ (ah hJ ?_);refine aD hJ fun hY=>?_;apply aF hJ _;revert h;refine aT hJ (fun fa h=>?_) fun fa h=>?_
  .cases h;apply bR;simp only[go_sem];obtain rfl:=sI P;clear P;have h:=cl;dsimp only[aG] at h;apply ag _;refine Qn.intro ⟨_,Le.sub (List.Sublist.refl _),d,e,g,h,rfl,f,?_⟩;simp only[*,go_sem]
  refine aO hJ (ah hJ ?_);refine aD hJ fun hZ=>?_;refine eW hJ mixed [13,14,15] (.pure 0 (.pure 1 (.pure 2 (.pure 3 (.pure 4 (.pure 5 (.pure 6 (.rd 7 (.pure 8 (.pure 9 (.pure 10 (.rd 11 (.pure 12 (.last 13 (.pure 14 (.last 15 .done)))))))))))))))) ⟨ro,[(b,Obj.cells d 3)]⟩ aM aj ?_;revert h;refine bS fun U fb h=>?_;obtain ⟨h0,h1,h2,h3⟩:=f.di fb;revert h;refine bS fun V fg h=>?_;obtain ⟨fi,fp,h4,h5⟩:=f.di fg;have bo:=f.gG fi fp U;revert h;refine bS fun h6 fr h=>?_;cases h;obtain ⟨fs,ft,h7,h8⟩:=bo.di fr;have br:=bo.gG fs ft V;apply ag _;apply ah hJ;obtain ⟨bs,W⟩:∃o,o=(cY (cY d (e).toNat [.int .i64 U]) (k).toNat [.int .i64 V]):=⟨_,rfl⟩
  refine cH (F:=⟨ro,[(b,Obj.cells bs 3)]⟩) hJ (by rw[W];exact Le.refl _) ?_;rw[<-W] at br;clear W;refine aD hJ fun h9=>?_;apply aF hJ _;refine aD hJ fun ib=>?_;apply aF hJ _;refine ⟨L,Nat.lt_succ_self _,_,Le.sub (List.Sublist.refl _),bs,(IntKind.i64.wrap (e+1)),(IntKind.i64.wrap (k - 1)),((g.set (e).toNat U).set (k).toNat V),P,rfl,br,?_⟩;simp only[*,go_sem]
 rintro ic F' ⟨H,I,K,bz,rfl,fv,ih,ik,il,im,iv⟩;obtain rfl:=sI bz;clear bz;have h:=cd;dsimp only[aG] at h;cases h;clear ad hd ae k1 al ao;apply ah hJ;refine aD hJ fun ix=>?_;apply aF hJ _;refine b9 ?_;exact ⟨_,fv,Le.sub (List.Sublist.refl _)⟩
def x7 (u0:(List Int))(a:Int)(st:Int):Option (Fl Int (Bool×(List Int))):=
 cond (decide (st<a)) (ai (bt u0 st) fun b=>ai (bt u0 (IntKind.i64.wrap (st - 1))) fun c=>ai (iX b c) fun d=>cond (!d) (some (.nx (IntKind.i64.wrap (st+1)))) (some (.bk st))) (some (.bk st))
def x8 (u0:(List Int))(b:Int)(a:Int)(st:(Bool×Int×Int)):Option (Fl (Bool×Int×Int) (Bool×(List Int))):=
 cond (decide (st.2.2<5)) (ai (ai (aY (x7 u0 a) fu st.2.1) fun o=>aG o (fun c=>some (.bk c)) (fun _ _=>none) (fun r=>some (.rt r)):Option (Fl Int (Bool×(List Int)))) fun o=>aG o (fun d=>cond ((d==a)) (some (.rt (true,u0))) (cond (decide ((IntKind.i64.wrap (a - b))<50)) (some (.rt (false,u0))) (none))) (fun _ _=>none) (fun r=>some (.rt r))) (some (.bk (st.1,st.2.1,st.2.2)))
def x9 (u0:(List Int))(a:Int)(b:Int):Option (Bool×(List Int)):=
 cond (List.isEmpty u0) none (ai (ai (aY (x8 u0 a b) fu (false,(IntKind.i64.wrap (a+1)),0)) fun o=>aG o (fun c=>some (.bk c.1)) (fun _ _=>none) (fun r=>some (.rt r)):Option (Fl Bool (Bool×(List Int)))) fun o=>aG o (fun d=>some (false,u0)) (fun _ _=>none) (fun r=>some r))
theorem IA {ro:Addr->Option Value}(u0:(List Int)){p:Value}{C:List (Nat×Obj)}(b:bg rI ro 3 p u0 C)(f:Int)(g:Int){r:(Bool×(List Int))}(h:x9 u0 f g=some r):aE Tryz.prog 196 #[p,.int .i64 f,.int .i64 g] ⟨ro,C⟩ (fun v G=>∃D,(v= .bool r.1/\bg rI ro 3 p r.2 D)/\Le ⟨ro,D⟩ G):=by
 obtain ⟨d1,c2,rfl,a8⟩:=b.len;unfold x9 at h;revert h;refine cS (fun E h=>?_) fun E h=>?_
 .cases h
 obtain ⟨c,k,rfl,rfl,a9⟩:=b.iW E;refine aE.go Tryz.func196 rfl Tryz.ntmps196 Tryz.results196 ax fun main J hJ A H hd hs=>?_;have I:=hs 0;have k1:=hs 1;have K:=hs 2;clear hs;apply ah hJ;refine aD hJ fun ba=>?_;apply aF hJ _;apply ah hJ;refine aD hJ fun bb=>?_;apply aF hJ _;revert h;refine bS fun U h q=>?_;refine gS hJ (fun a F'=>∃(s:Bool),some (Fl.bk s:Fl Bool (Bool×(List Int)))=some U/\F'=⟨ro,[(c,Obj.cells k 3)]⟩/\sz a=133/\a.defers=[]/\slot a 0= .slice (some ⟨c,0,none⟩) u0.length c2/\slot a 6= .bool s) ?_ ?_
 .apply ah hJ;refine aD hJ fun bc=>?_;apply aF hJ _;apply aV hJ;revert h;refine bS fun V l t=>?_;refine bY hJ (rg 13 120 [6,7,8,9,10]) (fun m a F'=>∃(i:Bool) (n:Int) (v20:Int),aY (x8 u0 f g) m (i,n,v20)=some V/\F'=⟨ro,[(c,Obj.cells k 3)]⟩/\slot a 6= .bool i/\slot a 7= .int .i64 n/\slot a 8= .int .i64 v20) fu ?_ ?_
  .refine ⟨false,(IntKind.i64.wrap (f+1)),0,l,rfl,?_⟩;simp only[*,go_sem]
  rintro L M F' N ⟨i,n,v20,l,rfl,O,P,Q⟩;obtain ⟨u,w,x⟩:=N.pick [0,1,2] aB;simp only[*,go_sem] at u w x;clear N H hd I k1 K;obtain _|L:=L
  .exact absurd l (by simp only[aY,reduceCtorEq,not_false_eq_true])
  revert l;refine bS fun bd h d=>?_;unfold x8 at h;try dsimp only at h
  refine ah hJ (ah hJ ?_);refine aD hJ fun bj=>?_;apply aF hJ _;revert h;refine aT hJ (fun W h=>?_) fun W h=>?_
  .refine aO hJ (ah hJ ?_);apply aV hJ;revert h;refine bS fun X h Y=>?_;refine gS hJ (fun a F'=>∃(y:Int),some (Fl.bk y:Fl Int (Bool×(List Int)))=some X/\F'=⟨ro,[(c,Obj.cells k 3)]⟩/\sz a=133/\a.defers=[]/\cR (rg 13 120 [6,7,8,9,10]) a M/\slot a 0= .slice (some ⟨c,0,none⟩) u0.length c2/\slot a 1= .int .i64 f/\slot a 2= .int .i64 g/\slot a 6= .bool i/\slot a 7= .int .i64 y/\slot a 8= .int .i64 v20) ?_ ?_
   .apply aV hJ;revert h;refine bS fun Z o R=>?_;refine bY hJ (rg 17 18 [7]) (fun m a F'=>∃(e:Int),aY (x7 u0 g) m e=some Z/\F'=⟨ro,[(c,Obj.cells k 3)]⟩/\slot a 7= .int .i64 e) fu ?_ ?_
    .refine ⟨n,o,rfl,?_⟩;simp only[*,go_sem]
    rintro z ab F' B ⟨e,o,rfl,bl⟩;obtain ⟨ad,ae,al⟩:=B.pick [0,1,2,6,8,13,14] aB;simp only[*,go_sem] at ad ae al;have bm:cR (rg 13 120 [6,7,8,9,10]) ab M:=(B.fE aB).trans aM;clear B u w x O P Q;obtain _|z:=z
    .exact absurd o (by simp only[aY,reduceCtorEq,not_false_eq_true])
    revert o;refine bS fun bo h j=>?_;unfold x7 at h;(try dsimp only at h);refine ah hJ (ah hJ ?_);refine aD hJ fun br=>?_;refine cV hJ mixed 16 1 aM aj ?_;revert h;refine cS (fun ao h=>?_) fun ao h=>?_
    .revert h;refine bS fun ar a0 h=>?_;obtain ⟨bs,bz,b0,b1⟩:=b.di a0;revert h;refine bS fun a2 a3 h=>?_;obtain ⟨b2,b3,b4,b5⟩:=b.di a3;revert h;refine bS fun ca a4 h=>?_;apply ag _;refine ⟨_,bI hJ fun F cb=>kq ar a2 a4,ck ?_⟩;apply ag _;revert h;refine aT hJ (fun a5 h=>?_) fun a5 h=>?_
     .cases h;refine aO hJ (aV hJ ?_);refine aD hJ fun cd=>?_;apply aF hJ _;refine ⟨z,Nat.lt_succ_self _,_,Le.sub (List.Sublist.refl _),(IntKind.i64.wrap (e+1)),j,rfl,?_⟩;simp only[*,go_sem]
     cases h;apply bR;simp only[go_sem];obtain rfl:=sI j;clear j;have h:=R;dsimp only[aG] at h;apply ag _;refine Qn.intro ⟨_,Le.sub (List.Sublist.refl _),e,h,rfl,?_⟩;simp only[*,go_sem]
    cases h;apply ag _;refine cF hJ ?_;apply bR;simp only[go_sem];obtain rfl:=sI j;clear j;have h:=R;dsimp only[aG] at h;refine Qn.intro ⟨_,Le.sub (List.Sublist.refl _),e,h,rfl,?_⟩;simp only[*,go_sem]
   rintro cf F' ⟨y,S,rfl,cl,cy,c0,da,db,dd,df,dk,dp⟩;obtain rfl:=sI S;clear S;have h:=Y;dsimp only[aG] at h;clear u w x O P Q;refine ah hJ (ah hJ ?_);refine aD hJ fun dq=>?_;apply aF hJ _;revert h;refine aT hJ (fun a6 h=>?_) fun a6 h=>?_
   .cases h;apply ah hJ;refine aD hJ fun ds=>?_;apply aF hJ _;obtain rfl:=sI d;clear d;have h:=t;dsimp only[aG] at h;cases h;have h:=q;dsimp only[aG] at h;cases h;refine b9 ?_;exact ⟨_,b,Le.sub (List.Sublist.refl _)⟩
   refine aO hJ (ah hJ ?_);apply ah hJ;refine aD hJ fun dt=>?_;apply aF hJ _;revert h;refine aT hJ (fun a7 h=>?_) fun a7 h=>?_
   .cases h;apply ah hJ;refine aD hJ fun du=>?_;apply aF hJ _;obtain rfl:=sI d;clear d;have h:=t;dsimp only[aG] at h;cases h;have h:=q;dsimp only[aG] at h;cases h;refine b9 ?_;exact ⟨_,b,Le.sub (List.Sublist.refl _)⟩
   cases h
  cases h;apply bR;simp only[go_sem];obtain rfl:=sI d;clear d;have h:=t;dsimp only[aG] at h;apply ag _;refine Qn.intro ⟨_,Le.sub (List.Sublist.refl _),i,h,rfl,?_⟩;simp only[*,go_sem]
 rintro dv F' ⟨s,T,rfl,dC,dE,dT,ea⟩;obtain rfl:=sI T;clear T;have h:=q;dsimp only[aG] at h;cases h;clear H hd I k1 K;apply ah hJ;refine aD hJ fun eb=>?_;apply aF hJ _;refine b9 ?_;exact ⟨_,b,Le.sub (List.Sublist.refl _)⟩
def ya (st:(Int×Int×Int×Bool×Bool×(List Int))):Option (Fl (Int×Int×Int×Bool×Bool×(List Int)) (Unit×(List Int))):=
 cond (decide ((IntKind.i64.wrap (st.2.1 - st.1))<=12)) (ai (uy st.2.2.2.2.2 st.1 st.2.1) fun j=>some (.rt ((),j.2))) (cond ((st.2.2.1==0)) (none) (ai (cond (!st.2.2.2.1) (ai (xU st.2.2.2.2.2 st.1 st.2.1) fun k=>some (.bk ((IntKind.i64.wrap (st.2.2.1 - 1)),k.2))) (some (.bk (st.2.2.1,st.2.2.2.2.2))):Option (Fl (Int×(List Int)) (Unit×(List Int)))) fun o=>aG o (fun c=>ai (xQ c.2 st.1 st.2.1) fun b=>cond ((b.1.2==2)) (none) (ai (cond (st.2.2.2.1) (cond (st.2.2.2.2.1) (cond ((b.1.2==1)) (ai (x9 b.2 st.1 st.2.1) fun f=>cond (f.1) (some (.rt ((),f.2))) (some (.bk f.2))) (some (.bk b.2))) (some (.bk b.2))) (some (.bk b.2)):Option (Fl (List Int) (Unit×(List Int)))) fun o=>aG o (fun e=>ai (cond (decide (0<st.1)) (ai (bt e (IntKind.i64.wrap (st.1 - 1))) fun l=>ai (bt e b.1.1) fun m=>ai (iX l m) fun n=>cond (!n) (ai (x6 e st.1 st.2.1 b.1.1) fun g=>some (.br 1 (g.1,g.2))) (some (.bk (st.1,e)))) (some (.bk (st.1,e))):Option (Fl (Int×(List Int)) (Unit×(List Int)))) fun o=>aG o (fun d=>ai (x2 d.2 d.1 st.2.1 b.1.1) fun a=>ai (gm (IntKind.i64.wrap (st.2.1 - st.1)) 8) fun h=>cond (decide ((IntKind.i64.wrap (a.1.1 - d.1))<(IntKind.i64.wrap (st.2.1 - a.1.1)))) (ai (uz a.2 d.1 a.1.1 c.1) fun p=>some (.nx ((IntKind.i64.wrap (a.1.1+1)),st.2.1,c.1,(decide (h<=(IntKind.i64.wrap (a.1.1 - d.1)))),a.1.2,p.2))) (ai (uz a.2 (IntKind.i64.wrap (a.1.1+1)) st.2.1 c.1) fun q=>some (.nx (d.1,a.1.1,c.1,(decide (h<=(IntKind.i64.wrap (st.2.1 - a.1.1)))),a.1.2,q.2)))) (fun _ i=>some (.nx (i.1,st.2.1,c.1,st.2.2.2.1,st.2.2.2.2.1,i.2))) (fun r=>some (.rt r))) (fun _ _=>none) (fun r=>some (.rt r)))) (fun _ _=>none) (fun r=>some (.rt r))))
def yb (u0:(List Int))(a:Int)(b:Int)(c:Int):Option (Unit×(List Int)):=
 cond (List.isEmpty u0) none (ai (aY (ya) fu (a,b,c,true,true,u0)) fun o=>aG o (fun d=>some ((),d.2.2.2.2.2)) (fun _ _=>none) (fun r=>some r))
theorem IB {ro:Addr->Option Value}(u0:(List Int)){H:Value}{T:List (Nat×Obj)}(I:bg rI ro 3 H u0 T)(K:Int)(L:Int)(M:Int){r:(Unit×(List Int))}(h:yb u0 K L M=some r):aE Tryz.prog 176 #[H,.int .i64 K,.int .i64 L,.int .i64 M] ⟨ro,T⟩ (fun v G=>∃d,(v= .tuple #[]/\bg rI ro 3 H r.2 d)/\Le ⟨ro,d⟩ G):=by
 obtain ⟨d1,c2,rfl,gM⟩:=I.len;unfold yb at h;revert h;refine cS (fun U h=>?_) fun U h=>?_
 .cases h
 obtain ⟨b,bd,rfl,rfl,gT⟩:=I.iW U;refine aE.go Tryz.func176 rfl Tryz.ntmps176 Tryz.results176 ax fun main J hJ A bj hd hs=>?_;have bl:=hs 0;have k1:=hs 1;have bm:=hs 2;have bo:=hs 3;clear hs;apply ah hJ;refine aD hJ fun gV=>?_;apply aF hJ _;apply ah hJ;refine aD hJ fun g0=>?_;apply aF hJ _;apply aV hJ;revert h;refine bS fun br z V=>?_;refine bY hJ (rg 8 126 [1,2,3]) (fun m a F'=>∃(B:Array Value) (e:Int) (c:Int) (t:Int) (l:Bool) (n:Bool) (q:(List Int)),aY (ya) m (e,c,t,l,n,q)=some br/\F'=⟨ro,[(b,Obj.cells B 3)]⟩/\bg rI ro 3 (.slice (some ⟨b,0,none⟩) u0.length c2) q [(b,Obj.cells B 3)]/\slot a 1= .int .i64 e/\slot a 2= .int .i64 c/\slot a 3= .int .i64 t/\slot a 8= .bool l/\slot a 9= .bool n) fu ?_ ?_
 .refine ⟨bd,K,L,M,true,true,u0,z,rfl,I,?_⟩;simp only[*,go_sem]
 rintro u N F' W ⟨B,e,c,t,l,n,q,z,rfl,O,bs,bz,b0,b1,b2⟩;obtain ⟨X,Y,Z⟩:=W.pick [0] aB;simp only[*,go_sem] at X Y Z;clear W bj hd bl k1 bm bo;obtain _|u:=u
 .exact absurd z (by simp only[aY,reduceCtorEq,not_false_eq_true])
 revert z;refine bS fun g1 h o=>?_;unfold ya at h;try dsimp only at h
 refine aV hJ (ah hJ ?_);refine aD hJ fun g2=>?_;apply aF hJ _;refine ah hJ (ah hJ ?_);refine aD hJ fun g3=>?_;apply aF hJ _;revert h;refine aT hJ (fun b3 h=>?_) fun b3 h=>?_
 .apply ah hJ;refine aD hJ fun g4=>?_;apply aR hJ;revert h;refine bS fun ha b4 h=>?_;cases h;apply ag _;refine ew hJ [] [] _ (Ce q O e c b4) (fun hc hf f d g hg=>?_);obtain ⟨rfl,ab⟩:=f;obtain ⟨b5,rfl⟩:=ab.ig;simp only[bn] at g;subst d;refine ⟨⟨ro,[(b,Obj.cells b5 3)]⟩,Le.refl _,?_⟩;obtain rfl:=sI o;clear o;have h:=V;dsimp only[aG] at h;cases h;refine b9 ?_;exact ⟨_,ab,Le.sub (List.Sublist.refl _)⟩
 refine aO hJ (ah hJ ?_);apply ah hJ;refine aD hJ fun hh=>?_;apply aF hJ _;revert h;refine aT hJ (fun ca h=>?_) fun ca h=>?_
 .cases h
 apply aO hJ;revert h;refine bS fun cb h cd=>?_;refine gS hJ (fun a F'=>∃(P:Array Value) (i:Int) (C:(List Int)),some (Fl.bk (i,C):Fl (Int×(List Int)) (Unit×(List Int)))=some cb/\F'=⟨ro,[(b,Obj.cells P 3)]⟩/\bg rI ro 3 (.slice (some ⟨b,0,none⟩) u0.length c2) C [(b,Obj.cells P 3)]/\sz a=134/\a.defers=[]/\cR (rg 8 126 [1,2,3]) a N/\slot a 0= .slice (some ⟨b,0,none⟩) u0.length c2/\slot a 1= .int .i64 e/\slot a 2= .int .i64 c/\slot a 3= .int .i64 i/\slot a 8= .bool l/\slot a 9= .bool n/\slot a 10= .int .i64 (IntKind.i64.wrap (c - e))) ?_ ?_
 .apply ah hJ;refine aD hJ fun hi=>?_;apply aF hJ _;revert h;refine aT hJ (fun cf h=>?_) fun cf h=>?_
  .apply ah hJ;refine aD hJ fun hj=>?_;apply aR hJ;revert h;refine bS fun cl cy h=>?_;apply ag _;refine ew hJ [] [] _ (Ix q O e c cy) (fun hk hl f d g hn=>?_);obtain ⟨rfl,ad⟩:=f;obtain ⟨ae,rfl⟩:=ad.ig;simp only[bn] at g;subst d;refine ⟨⟨ro,[(b,Obj.cells ae 3)]⟩,Le.refl _,?_⟩;refine aD hJ fun ho=>?_;apply aF hJ _;refine Qn.intro ⟨_,Le.sub (List.Sublist.refl _),ae,(IntKind.i64.wrap (t - 1)),cl.2,h,rfl,ad,?_⟩;simp only[*,go_sem]
  apply oJ hJ _;refine Qn.intro ⟨_,Le.sub (List.Sublist.refl _),B,t,q,h,rfl,O,?_⟩;simp only[*,go_sem]
 rintro hp F' ⟨P,i,C,al,rfl,c0,da,db,hq,dd,df,dk,dp,dq,ds,dt⟩;obtain rfl:=sI al;clear al;have h:=cd;dsimp only[aG] at h;clear X Y Z bs bz b0 b1 b2;apply ah hJ;refine aD hJ fun hr=>?_;apply aR hJ;revert h;refine bS fun k du h=>?_;apply ag _;refine ew hJ [] [] _ (Im C c0 e c du) (fun ht hv f d g hx=>?_);obtain ⟨rfl,w⟩:=f;obtain ⟨D,rfl⟩:=w.ig;simp only[bn] at g;subst d;refine ⟨⟨ro,[(b,Obj.cells D 3)]⟩,Le.refl _,?_⟩;apply aP;apply ag _;refine ah hJ (ah hJ ?_);refine aD hJ fun hy=>?_;apply aF hJ _;revert h;refine aT hJ (fun dv h=>?_) fun dv h=>?_
 .cases h
 apply aO hJ;revert h;refine bS fun dC h ao=>?_;refine gS hJ (fun a F'=>∃(x:Array Value) (s:(List Int)),some (Fl.bk s:Fl (List Int) (Unit×(List Int)))=some dC/\F'=⟨ro,[(b,Obj.cells x 3)]⟩/\bg rI ro 3 (.slice (some ⟨b,0,none⟩) u0.length c2) s [(b,Obj.cells x 3)]/\sz a=134/\a.defers=[]/\cR (rg 8 126 [1,2,3]) a N/\slot a 0= .slice (some ⟨b,0,none⟩) u0.length c2/\slot a 1= .int .i64 e/\slot a 2= .int .i64 c/\slot a 3= .int .i64 i/\slot a 8= .bool l/\slot a 9= .bool n/\slot a 10= .int .i64 (IntKind.i64.wrap (c - e))/\slot a 11= .int .i64 k.1.1) ?_ ?_
 .apply ah hJ;refine aD hJ fun hz=>?_;apply aR hJ;revert h;refine cS (fun dE h=>?_) fun dE h=>?_
  .revert h;refine cS (fun dT h=>?_) fun dT h=>?_
   .apply ag _;revert h;refine aT hJ (fun ea h=>?_) fun ea h=>?_
    .apply ah hJ;refine aD hJ fun hA=>?_;apply aR hJ;revert h;refine bS fun eb ec h=>?_;apply ag _;refine ew hJ [] [] _ (IA k.2 w e c ec) (fun hB hD f d g hE=>?_);obtain ⟨rfl,Q⟩:=f;obtain ⟨ar,rfl⟩:=Q.ig;simp only[bn] at g;subst d;refine ⟨⟨ro,[(b,Obj.cells ar 3)]⟩,Le.refl _,?_⟩;revert h;refine aT hJ (fun ed h=>?_) fun ed h=>?_
     .cases h;have h:=ao;dsimp only[aG] at h;cases h;obtain rfl:=sI o;clear o;have h:=V;dsimp only[aG] at h;cases h;refine b9 ?_;exact ⟨_,Q,Le.sub (List.Sublist.refl _)⟩
     apply oJ hJ _;refine Qn.intro ⟨_,Le.sub (List.Sublist.refl _),ar,eb.2,h,rfl,Q,?_⟩;simp only[*,go_sem]
    apply oJ hJ _;refine Qn.intro ⟨_,Le.sub (List.Sublist.refl _),D,k.2,h,rfl,w,?_⟩;simp only[*,go_sem]
   apply ag _;refine cF hJ ?_;apply aO hJ;refine Qn.intro ⟨_,Le.sub (List.Sublist.refl _),D,k.2,h,rfl,w,?_⟩;simp only[*,go_sem]
  apply ag _;refine cF hJ ?_;apply aO hJ;refine Qn.intro ⟨_,Le.sub (List.Sublist.refl _),D,k.2,h,rfl,w,?_⟩;simp only[*,go_sem]
 rintro hF F' ⟨x,s,a0,rfl,y,eh,et,hG,ev,eQ,eS,e0,e1,e2,e3,fa⟩;obtain rfl:=sI a0;clear a0;have h:=ao;dsimp only[aG] at h;clear da db dd df dk dp dq ds dt;revert h;refine bS fun fb h a2=>?_;refine gS hJ (fun a F'=>∃(R:Array Value) (p:Int) (E:(List Int)),some (Fl.bk (p,E):Fl (Int×(List Int)) (Unit×(List Int)))=some fb/\F'=⟨ro,[(b,Obj.cells R 3)]⟩/\bg rI ro 3 (.slice (some ⟨b,0,none⟩) u0.length c2) E [(b,Obj.cells R 3)]/\sz a=134/\a.defers=[]/\cR (rg 8 126 [1,2,3]) a N/\slot a 0= .slice (some ⟨b,0,none⟩) u0.length c2/\slot a 1= .int .i64 p/\slot a 2= .int .i64 c/\slot a 3= .int .i64 i/\slot a 8= .bool l/\slot a 9= .bool n/\slot a 10= .int .i64 (IntKind.i64.wrap (c - e))/\slot a 11= .int .i64 k.1.1) ?_ ?_
 .apply ah hJ;refine aD hJ fun hI=>?_;refine cV hJ mixed 15 1 aM aj ?_;revert h;refine cS (fun fg h=>?_) fun fg h=>?_
  .revert h;refine bS fun fi fp h=>?_;obtain ⟨hK,hL,hM,hN⟩:=y.di fp;revert h;refine bS fun fr fs h=>?_;obtain ⟨hP,hQ,hR,hS⟩:=y.di fs;revert h;refine bS fun hT ft h=>?_;apply ag _;refine ⟨_,bI hJ fun F hV=>kq fi fr ft,ck ?_⟩;apply ag _;revert h;refine aT hJ (fun fv h=>?_) fun fv h=>?_
   .apply ah hJ;refine aD hJ fun hX=>?_;apply aR hJ;revert h;refine bS fun a3 fw h=>?_;cases h;apply ag _;refine ew hJ [] [] _ (Iz s y e c k.1.1 fw) (fun hY hZ f d g h0=>?_);obtain ⟨rfl,a4⟩:=f;obtain ⟨a5,rfl⟩:=a4.ig;simp only[bn] at g;subst d;refine ⟨⟨ro,[(b,Obj.cells a5 3)]⟩,Le.refl _,?_⟩;apply aP;apply ag _;apply ah hJ;refine aD hJ fun h1=>?_;apply aF hJ _;apply bR;simp only[go_sem];have h:=a2;dsimp only[aG] at h;cases h;apply ag _;refine ⟨u,Nat.lt_succ_self _,_,Le.sub (List.Sublist.refl _),a5,a3.1,c,i,l,n,a3.2,o,rfl,a4,?_⟩;simp only[*,go_sem]
   apply oJ hJ _;refine Qn.intro ⟨_,Le.sub (List.Sublist.refl _),x,e,s,h,rfl,y,?_⟩;simp only[*,go_sem]
  apply ag _;refine cF hJ ?_;apply aO hJ;refine Qn.intro ⟨_,Le.sub (List.Sublist.refl _),x,e,s,h,rfl,y,?_⟩;simp only[*,go_sem]
 rintro h2 F' ⟨R,p,E,a6,rfl,fx,h3,h4,h5,h6,h7,h8,h9,ib,ic,ih,ik⟩;obtain rfl:=sI a6;clear a6;have h:=a2;dsimp only[aG] at h;clear eh et ev eQ eS e0 e1 e2 e3 fa;apply ah hJ;refine aD hJ fun il=>?_;apply aR hJ;revert h;refine bS fun j fz h=>?_;apply ag _;refine ew hJ [] [] _ (Iy E fx p c k.1.1 fz) (fun im iv f d g ix=>?_);obtain ⟨rfl,S⟩:=f;obtain ⟨gg,rfl⟩:=S.ig;simp only[bn] at g;subst d;refine ⟨⟨ro,[(b,Obj.cells gg 3)]⟩,Le.refl _,?_⟩;apply aP;apply ag _;apply ah hJ;refine aD hJ fun jC=>?_;apply aF hJ _;apply ah hJ;refine aD hJ fun j1=>?_;apply aF hJ _;apply ah hJ;refine aD hJ fun j2=>?_;apply aR hJ;revert h;refine bS fun a7 a8 h=>?_;obtain ⟨kh,kj⟩:=kR a8;clear a8;apply ag _;apply ah hJ;refine aD hJ fun kk=>?_;apply aF hJ _;revert h;refine aT hJ (fun gl h=>?_) fun gl h=>?_
 .apply ah hJ;refine aD hJ fun kl=>?_;apply aF hJ _;apply ah hJ;refine aD hJ fun km=>?_;apply aR hJ;revert h;refine bS fun gn gp h=>?_;cases h;apply ag _;refine ew hJ [] [] _ (Cf j.2 S p j.1.1 i gp) (fun kn kp f d g ks=>?_);obtain ⟨rfl,a9⟩:=f;obtain ⟨ba,rfl⟩:=a9.ig;simp only[bn] at g;subst d;refine ⟨⟨ro,[(b,Obj.cells ba 3)]⟩,Le.refl _,?_⟩;refine aD hJ fun kt=>?_;apply aF hJ _;refine ⟨u,Nat.lt_succ_self _,_,Le.sub (List.Sublist.refl _),ba,(IntKind.i64.wrap (j.1.1+1)),c,i,(decide (a7<=(IntKind.i64.wrap (j.1.1 - p)))),j.1.2,gn.2,o,rfl,a9,?_⟩;simp only[*,go_sem]
 apply ah hJ;refine aD hJ fun kv=>?_;apply aF hJ _;apply ah hJ;refine aD hJ fun kx=>?_;apply aR hJ;revert h;refine bS fun gB gC h=>?_;cases h;apply ag _;refine ew hJ [] [] _ (Cf j.2 S (IntKind.i64.wrap (j.1.1+1)) c i gC) (fun ky k0 f d g k2=>?_);obtain ⟨rfl,bb⟩:=f;obtain ⟨bc,rfl⟩:=bb.ig;simp only[bn] at g;subst d;refine ⟨⟨ro,[(b,Obj.cells bc 3)]⟩,Le.refl _,?_⟩;refine aD hJ fun lb=>?_;apply aF hJ _;refine ⟨u,Nat.lt_succ_self _,_,Le.sub (List.Sublist.refl _),bc,p,j.1.1,i,(decide (a7<=(IntKind.i64.wrap (c - j.1.1)))),j.1.2,gB.2,o,rfl,bb,?_⟩;simp only[*,go_sem]
def rE (u0:(List Int)):Option (Unit×(List Int)):=
 cond (List.isEmpty u0) none (ai (uA (IntKind.u64.wrap (u0.length:Int))) fun a=>ai (yb u0 0 (u0.length:Int) a) fun b=>some ((),b.2))
theorem IC {ro:Addr->Option Value}(u0:(List Int)){b:Value}{d:List (Nat×Obj)}(c:bg rI ro 3 b u0 d){r:(Unit×(List Int))}(h:rE u0=some r):aE Tryz.prog 142 #[b] ⟨ro,d⟩ (fun v G=>∃a,(v= .tuple #[]/\bg rI ro 3 b r.2 a)/\Le ⟨ro,a⟩ G):=by
 obtain ⟨d1,c2,rfl,o⟩:=c.len;unfold rE at h;revert h;refine cS (fun e h=>?_) fun e h=>?_
 .cases h
 obtain ⟨g,p,rfl,rfl,q⟩:=c.iW e;refine aE.go Tryz.func142 rfl Tryz.ntmps142 Tryz.results142 ax fun main J hJ A s hd hs=>?_;have t:=hs 0;clear hs;apply ah hJ;refine aD hJ fun u=>?_;apply aR hJ;apply bW _;refine aD hJ fun w=>?_;apply aR hJ;revert h;refine bS fun i j h=>?_;apply bW _;refine bf hJ _ (Cg (IntKind.u64.wrap (u0.length:Int)) j) (aP ?_);revert h;refine bS fun x k h=>?_;apply bW _;refine ew hJ [] [] _ (IB u0 c 0 (u0.length:Int) i k) (fun y z l a m B=>?_);obtain ⟨rfl,f⟩:=l;obtain ⟨n,rfl⟩:=f.ig;simp only[bn] at m;subst a;refine ⟨⟨ro,[(g,Obj.cells n 3)]⟩,Le.refl _,?_⟩;cases h;apply ag _;exact ⟨_,f,Le.sub (List.Sublist.refl _)⟩
def kr (x:List Int)(j:Nat):Bool:=j==0||x.getD j 0 != x.getD (j - 1) 0
def gW (x:List Int):Nat->List Int
 |0=>[]
 |n+1=>gW x n++cond (kr x n) [x.getD n 0] []
theorem uB (x:List Int):∀n,n<=x.length->(∀j,j<n->kr x j=true)->gW x n=x.take n
 |0,_,_=>by simp[gW]
 |n+1,b,h=>by
  unfold gW
  rw[uB x n aa (fun j c=>h j aa),h n aa,List.take_succ]
  congr 1
  have a:n<x.length:=aa
  simp[a]
theorem Ch (x:List Int){j:Nat}(h:j<1):kr x j=true:=by
 obtain rfl:j=0:=aa;rfl
def uC (u0:List Int):Option (List Int):=cond (List.isEmpty u0) none (some (gW u0 u0.length))
theorem ID {ro:Addr->Option Value}(u0:List Int){Q:Value}{bu:List (Nat×Obj)}(hg:bg rI ro 3 Q u0 bu){r:List Int}(h:uC u0=some r):
  aE Tryz.prog 143 #[Q] ⟨ro,bu⟩ (fun v G=>∃R,bg rI ro 3 v r R/\Le ⟨ro,R⟩ G):=by
 obtain ⟨ad,cap,rfl,le⟩:=hg.len
 unfold uC at h
 have a8:=jz h;clear h;rcases a8 with ⟨S,h⟩|⟨S,h⟩
 .cases h
 obtain ⟨b,F,rfl,rfl,cy⟩:=hg.iW S
 cases h
 have cS:u0.length<=1000000:=by obtain ⟨_,_,_,h,_⟩:=hg;exact h
 have c0:Tryz.prog.underlying 3=some (.int .i64):=aj
 refine aE.go Tryz.func143 rfl Tryz.ntmps143 Tryz.results143 ax fun main J hJ A a9 hd hs=>?_
 have ba:=hs 0
 clear hs
 repeat refine ah hJ ?_
 refine aR hJ ?_
 apply ag _
 repeat refine ah hJ ?_
 refine aR hJ ?_
 apply ag _
 repeat refine ah hJ ?_
 by_cases da:u0.length<2
 .refine eD hJ (by simp only[*,go_sem];simp;omega) ?_
  repeat refine ah hJ ?_
  refine aR hJ ?_
  apply ag _
  refine aQ ?_
  apply ag _
  have e:gW u0 u0.length=u0:=by
   rw[uB u0 _ (Nat.le_refl _) (fun j c=>Ch u0 aa),List.take_length]
  rw[e]
  exact ⟨_,hg,Le.refl _⟩
 refine eu hJ (by simp only[*,go_sem];simp;omega) ?_
 refine aO hJ ?_
 repeat refine ah hJ ?_
 refine aR hJ ?_
 apply ag _
 repeat refine ah hJ ?_
 refine aV hJ ?_
 refine bY hJ [3,4,5,10,11,12,13,14,15,16,17,18,19,20,21,22,23,24,25,26,27,28,29,30,31,32,33,34,35,36,37,38,39,40,41,42,43,44,45,46,47,48,49,50,51,52,53,54,55,56,57,58,59] (fun m u F'=>∃k:Nat,1<=k/\k<=u0.length/\u0.length - k<=m/\F'=⟨ro,[(b,Obj.cells F 3)]⟩/\slot u 3= .int .i64 (k:Int)/\∀j,j<k->kr u0 j=true) u0.length ?_ ?_
 .refine ⟨1,Nat.le_refl _,aa,aa,rfl,?_,fun j c=>Ch u0 c⟩
  apply ag _
  rfl
 .rintro bb g F' B ⟨k,db,T,dd,rfl,bc,H⟩
  have bd:sz g=61:=by rw[B.size];simp only[*,go_sem]
  have bj:g.defers=[]:=by rw[B.defers];simp only[*,go_sem]
  have bk:slot g 0= .slice (some ⟨b,0,none⟩) u0.length cap:=by rw[B.fS 0 aB];simp only[*,go_sem]
  clear B a9 hd ba
  repeat refine ah hJ ?_
  repeat refine ah hJ ?_
  refine aR hJ ?_
  apply ag _
  by_cases U:k<u0.length
  .have hb:decide (((k:Nat):Int)<(u0.length:Int))=true:=decide_eq_true aa
   refine eD hJ aM ?_
   refine aO hJ ?_
   repeat refine ah hJ ?_
   refine aV hJ ?_
   repeat refine ah hJ ?_
   obtain ⟨p,rfl⟩:∃p,k=p+1:=⟨k - 1,aa⟩
   have hw:IntKind.i64.wrap (((p+1:Nat):Int) - 1)=(p:Int):=by rw[IntWalk.i64_in _ ⟨aa,aa⟩];omega
   refine ef hJ mixed 9 ⟨ro,[(b,Obj.cells F 3)]⟩ aM aj ?_
   obtain ⟨l,V⟩:∃x,u0[p+1]?=some x:=⟨u0[p+1],by simp[U]⟩
   obtain ⟨I,K,L⟩:=hg.jD V
   obtain rfl:I=[.int .i64 l]:=K
   have W:=L 0 _ rfl
   simp only[go_sem] at W
   have df:=(Array.getElem?_eq_some_iff.1 W).1
   obtain ⟨o,X⟩:∃x,u0[p]?=some x:=⟨u0[p],by simp[Nat.lt_of_succ_lt U]⟩
   obtain ⟨M,N,O⟩:=hg.jD X
   obtain rfl:M=[.int .i64 o]:=N
   have Y:=O 0 _ rfl
   simp only[go_sem] at Y
   have dk:=(Array.getElem?_eq_some_iff.1 Y).1
   have dp:¬((p+1:Nat):Int)<0:=aa
   have b2:((p+1:Nat):Int)<(u0.length:Int):=aa
   have b3:¬(p:Int)<0:=aa
   have b4:(p:Int)<(u0.length:Int):=aa
   have b5:(0:Int)<=((p+1:Nat):Int):=aa
   have dq:(0:Int)<=(p:Int):=aa
   apply ag _
   have bl:u0.getD (p+1) 0=l:=by rw[List.getD_eq_getElem?_getD,V];rfl
   have bm:u0.getD p 0=o:=by rw[List.getD_eq_getElem?_getD,X];rfl
   have Z:kr u0 (p+1)=(l != o):=by unfold kr;rw[bl,Nat.add_sub_cancel,bm];simp
   clear L O
   by_cases P:l=o
   .subst P
    refine eD hJ (by simp only[*,go_sem,beq_self_eq_true]) ?_
    repeat refine ah hJ ?_
    refine aR hJ ?_
    have ds:p+1<=u0.length:=T
    have dt:p+1<=cap:=aa
    have du:((p+1:Nat):Int)<=(u0.length:Int):=aa
    have dv:u0.length<=cap:=le
    have dC:¬cap=p+1:=aa
    apply ag _
    have bo:slot g 4=slot g 4:=rfl
    repeat refine ah hJ ?_
    refine aR hJ ?_
    apply ag _
    repeat refine ah hJ ?_
    refine aV hJ ?_
    have e0:gW u0 (p+2)=u0.take (p+1):=by
     show gW u0 (p+1)++cond (kr u0 (p+1)) _ _=_
     rw[Z,uB u0 _ T H];simp
    refine bY hJ [3,5,29,30,31,32,33,34,35,36,37,38,39,40,41,42,43,44,45,46,47,48,49,50,51,52,53] (fun br u F'=>∃(m w:Nat) (arr:Array Value) (x:List Int),1<=m/\m<=u0.length - (p+1)/\u0.length - (p+1) - m<=br/\F'=⟨ro,[(b,Obj.cells arr 3)]⟩/\slot u 5= .int .i64 (m:Int)/\slot u 3= .int .i64 (w:Int)/\
     bg rI ro 3 (.slice (some ⟨b,0,none⟩) u0.length cap) x [(b,.cells arr 3)]/\x.length=u0.length/\(gW u0 (p+(1+m))).length=w/\w<=p+m/\x.take w=gW u0 (p+(1+m))/\∀j,p+m<=j->x[j]?=u0[j]?) u0.length ?_ ?_
    .refine ⟨1,p+1,F,u0,Nat.le_refl _,aa,aa,rfl,?_,?_,hg,rfl,?_,Nat.le_refl _,e0.symm,fun _ _=>rfl⟩
     .apply ag _;rfl
     .simp only[*,go_sem]
     .show (gW u0 (p+2)).length=p+1
      rw[e0,List.length_take];omega
    .rintro ab C F' s ⟨m,w,arr,x,L,O,dE,rfl,dT,ea,d,ae,t,eb,D,E⟩
     have ec:sz C=61:=by rw[s.size];simp only[*,go_sem]
     have ed:C.defers=[]:=by rw[s.defers];simp only[*,go_sem]
     have eh:slot C 0= .slice (some ⟨b,0,none⟩) u0.length cap:=by rw[s.fS 0 aB];simp only[*,go_sem]
     have et:slot C 4= .slice (some ⟨b,p+1,none⟩) (u0.length - (p+1)) (cap - (p+1)):=by rw[s.fS 4 aB];simp only[*,go_sem]
     clear s bd bj bk bc bo
     repeat refine ah hJ ?_
     refine aR hJ ?_
     apply ag _
     by_cases ev:m<u0.length - (p+1)
     .have bs:decide (((m:Nat):Int)<((u0.length - (p+1):Nat):Int))=true:=decide_eq_true aa
      refine eD hJ aM ?_
      refine aO hJ ?_
      repeat refine ah hJ ?_
      refine aV hJ ?_
      repeat refine ah hJ ?_
      obtain ⟨q,rfl⟩:∃q,m=q+1:=⟨m - 1,aa⟩
      have eQ:IntKind.i64.wrap (((q+1:Nat):Int) - 1)=(q:Int):=by rw[IntWalk.i64_in _ ⟨aa,aa⟩];omega
      refine ef hJ mixed 9 ⟨ro,[(b,Obj.cells arr 3)]⟩ aM aj ?_
      obtain ⟨a,al⟩:∃y,u0[p+(1+(q+1))]?=some y:=⟨u0[p+(1+(q+1))]'aa,List.getElem?_eq_getElem _⟩
      obtain ⟨I,K,ao⟩:=d.jD ((E _ aa).trans al)
      obtain rfl:I=[.int .i64 a]:=K
      have ar:=ao 0 _ rfl
      simp only[go_sem] at ar
      have eS:=(Array.getElem?_eq_some_iff.1 ar).1
      obtain ⟨f,a0⟩:∃y,u0[p+(1+q)]?=some y:=⟨u0[p+(1+q)]'aa,List.getElem?_eq_getElem _⟩
      obtain ⟨M,N,a2⟩:=d.jD ((E _ aa).trans a0)
      obtain rfl:M=[.int .i64 f]:=N
      have a3:=a2 0 _ rfl
      simp only[go_sem] at a3
      have e2:=(Array.getElem?_eq_some_iff.1 a3).1
      have c1:¬((q+1:Nat):Int)<0:=aa
      have c2:((q+1:Nat):Int)<((u0.length - (p+1):Nat):Int):=aa
      have c3:¬(q:Int)<0:=aa
      have c4:(q:Int)<((u0.length - (p+1):Nat):Int):=aa
      have e3:(0:Int)<=((q+1:Nat):Int):=aa
      have fa:(0:Int)<=(q:Int):=aa
      apply ag _
      have a4:u0.getD (p+(1+(q+1))) 0=a:=by rw[List.getD_eq_getElem?_getD,al];rfl
      have bz:u0.getD (p+(1+q)) 0=f:=by rw[List.getD_eq_getElem?_getD,a0];rfl
      have bS:kr u0 (p+(1+(q+1)))=(a != f):=by
       unfold kr
       have b0:p+(1+(q+1)) - 1=p+(1+q):=aa
       rw[b0,a4,bz]
       have:(p+(1+(q+1))==0)=false:=ax
       rw[this,Bool.false_or]
      have e1:gW u0 (p+(1+(q+1+1)))=gW u0 (p+(1+(q+1)))++cond (a != f) [a] []:=by
       show gW u0 (p+(1+(q+1)))++cond (kr u0 (p+(1+(q+1)))) [u0.getD (p+(1+(q+1))) 0] []=_
       rw[bS,a4]
      have fb:IntKind.i64.wrap (((q+1:Nat):Int)+1)=((q+1+1:Nat):Int):=by rw[IntWalk.i64_in _ ⟨aa,aa⟩];omega
      clear ao a2 t
      have t:(gW u0 (p+(1+(q+1)))).length=w:=by rw[<-D,List.length_take];omega
      by_cases a5:a=f
      .subst a5
       simp only[bne_self_eq_false,cond_false,List.append_nil] at e1
       refine eu hJ (by simp only[*,go_sem,bne_self_eq_false]) ?_
       refine aO hJ ?_
       refine aR hJ ?_
       apply ag _
       refine ⟨ab - 1,aa,_,Le.refl _,q+1+1,w,arr,x,aa,aa,aa,rfl,?_,?_,d,ae,by rw[e1];exact t,aa,by rw[e1];exact D,fun j c=>E j aa⟩
       .simp only[*,go_sem]
       .simp only[*,go_sem]
      .have b1:(a != f)=true:=by simpa using a5
       rw[b1] at e1
       simp only[cond_true] at e1
       refine eD hJ aM ?_
       repeat refine ah hJ ?_
       refine aR hJ ?_
       have d1:(w:Int)<(u0.length:Int):=aa
       have d2:¬(w:Int)<0:=aa
       have d3:(0:Int)<=(w:Int):=aa
       have fg:w<arr.size:=aa
       apply ag _
       have ca:bg rI ro 3 (.slice (some ⟨b,0,none⟩) u0.length cap) (x.set w a) [(b,Obj.cells (cY arr w [.int .i64 a]) 3)]:=by
        have cb:=d.tw (i:=w) (y:=a) aa (cs:=[.int .i64 a]) rfl
        simpa only[tG,Nat.mul_one,Nat.add_zero] using cb
       have fi:IntKind.i64.wrap ((w:Int)+1)=((w+1:Nat):Int):=by rw[IntWalk.i64_in _ ⟨aa,aa⟩];omega
       refine aR hJ ?_
       apply ag _
       refine aR hJ ?_
       apply ag _
       refine ⟨ab - 1,aa,_,Le.refl _,q+1+1,w+1,_,x.set w a,aa,aa,aa,rfl,?_,?_,ca,by rw[List.length_set];exact ae,?_,aa,?_,fun j c=>?_⟩
       .simp only[*,go_sem]
       .simp only[*,go_sem]
       .rw[e1,List.length_append,t];rfl
       .rw[e1,<-D,List.take_succ,List.take_set_of_le (Nat.le_refl _),List.getElem?_set_self aa];rfl
       .rw[List.getElem?_set_ne aa];exact E j aa
     .have bs:decide (((m:Nat):Int)<((u0.length - (p+1):Nat):Int))=false:=decide_eq_false aa
      refine eu hJ aM ?_
      refine bR ?_
      simp only[go_sem]
      have a6:p+(1+m)=u0.length:=aa
      rw[a6] at t
      have d1:(w:Int)<=(u0.length:Int):=aa
      have d2:¬(w:Int)<0:=aa
      have d3:(0:Int)<=(w:Int):=aa
      have d4:w<=u0.length:=aa
      have d5:w<=cap:=aa
      have d6:¬cap=w:=aa
      have d7:(0:Int)<=(w:Int):=aa
      have d8:(w:Int)<=(cap:Int):=aa
      have cd:w+(u0.length - w)<=arr.size:=by
       obtain ⟨ls,cf,fp,-⟩:=id d
       rcases cf with ⟨a7,_,_⟩|⟨fr,fs,ft,a7,cl,hs,hle,_⟩
       .cases a7
       .cases cl
        have:rI.n=1:=rfl
        rw[this,Nat.mul_one] at hs
        omega
      repeat refine ah hJ ?_
      refine aR hJ ?_
      simp only[*,go_sem,ite_false,if_false]
      refine G7 (pre:=[]) (bC:=[]) (z:=.int .i64 0) (zc:=.int .i64 0) rfl (by kernel_rfl:Tryz.prog.underlying 35=some (.slice 3)) aj rfl rfl aa (by simp[av]) cd ?_
      dsimp only[List.nil_append]
      repeat refine ah hJ ?_
      refine aR hJ ?_
      apply ag _
      refine aQ ?_
      apply ag _
      refine ⟨_,?_,Le.refl _⟩
      have:=d.clear (k:=w) aa
      rw[D,a6] at this
      simpa only[ite_self,Nat.sub_zero] using this
   .have aN:(l==o)=false:=by simpa using P
    refine eu hJ aM ?_
    refine aO hJ ?_
    refine aR hJ ?_
    have fu:IntKind.i64.wrap (((p+1:Nat):Int)+1)=((p+2:Nat):Int):=by rw[IntWalk.i64_in _ ⟨aa,aa⟩];omega
    apply ag _
    refine ⟨bb - 1,aa,_,Le.refl _,p+2,aa,aa,aa,rfl,aM,fun j c=>?_⟩
    rcases Nat.lt_succ_iff_lt_or_eq.1 c with c|rfl
    .exact H j c
    .rw[Z];simpa using P
  .have hb:decide (((k:Nat):Int)<(u0.length:Int))=false:=decide_eq_false aa
   refine eu hJ aM ?_
   refine bR ?_
   simp only[go_sem]
   repeat refine ah hJ ?_
   refine aR hJ ?_
   apply ag _
   refine aQ ?_
   apply ag _
   obtain rfl:k=u0.length:=aa
   rw[uB u0 _ (Nat.le_refl _) H,List.take_length]
   exact ⟨_,hg,Le.refl _⟩
def yc (n:Int):Option (List Int):=if 0<=n/\n<=1000 then some [] else none
theorem IE {ro:Addr->Option Value}{R:Value->af->Prop}{n:Nat}(o:0<n)(p:n<=1000){own:List (Nat×Obj)}
  (h:∀(k b:Nat) (arr:Array Value),n<=k->arr.size=k->eC ⟨ro,own⟩ b->R (.slice (some ⟨b,0,none⟩) n k) ⟨ro,(b,.cells arr 3)::own⟩):
  mZ Tryz.prog #[35,3] (.slice none 0 0) (.int .i64 (n:Int)) R ⟨ro,own⟩:=by
 intro ty
 have c:Tryz.prog.underlying 35=some (.slice 3):=aj
 have d:Tryz.prog.underlying 3=some (.int .i64):=aj
 have e:cq Tryz.prog 3=some 1:=aj
 have f:zeroOf Tryz.prog 3=some (.int .i64 0):=aj
 obtain ⟨info,g,i⟩:∃info,Tryz.prog.info? 3=some info/\info.bytes=8:=⟨_,rfl,aj⟩
 have w1:IntKind.i64.wrap (n:Int)=(n:Int):=IntWalk.i64_in _ ⟨aa,aa⟩
 have c1:¬(n:Int)<0:=aa
 have c2:¬(n:Int)*(8:Nat)>2 ^ 48:=aa
 have c3:¬0+n<=0:=aa
 simp only[Builtin.append_,List.getElem?_toArray,List.getElem?_cons_zero,List.getElem?_cons_succ,bH,dS,c,d,e5,e,bT,AO,if_true,dR,w1,if_neg c1,qz,g,i]
 rw[if_neg c2]
 simp only[Int.toNat_natCast,Nat.zero_add,Bool.not_true,Bool.false_eq_true,if_false]
 have c4:¬n<=0:=aa
 have j:¬((n:Int)>IntKind.i64.max/\(True\/8=0)):=by
  have:IntKind.i64.max=9223372036854775807:=aB
  rw[this];omega
 have l:¬Builtin.nextslicecap n 0*8>2 ^ 48:=by
  unfold Builtin.nextslicecap
  rw[if_pos aa]
  omega
 have m:¬n*1=0:=aa
 rw[if_neg c4,if_neg j,if_neg l]
 rw[v8]
 rw[if_neg (by simp[Question.forced])]
 intro t
 have a:n<=(Question.appendCap n 0 3).cut t:=Nat.le_add_right _ _
 generalize (Question.appendCap n 0 3).cut t=k at a ⊢
 refine wC _ ?_
 simp only[Builtin.firstCells,bT,if_neg m,mR,f,sV,bH]
 intro b hb
 refine ⟨_,Le.refl _,h k b _ a ?_ hb⟩
 simp only[Array.size_append,Builtin.zeroCells,Array.size_map,Array.size_range,Value.cells]
 simp
 omega
theorem IF {ro:Addr->Option Value}(n:Int){x:List Int}(h:yc n=some x):aE Tryz.prog 125 #[.slice none 0 0,.int .i64 n] ⟨ro,[]⟩ (fun v G=>∃c,bg rI ro 3 v x c/\Le ⟨ro,c⟩ G):=by
 unfold yc at h;split at h
 case isFalse=>cases h
 rename_i g;obtain rfl:=Option.some.inj h;obtain ⟨n,rfl⟩:∃m:Nat,n=m:=⟨n.toNat,aa⟩
 refine aE.go Tryz.func125 rfl Tryz.ntmps125 Tryz.results125 ax fun main J hJ A j hd hs=>?_;have l:=hs 0;have k1:=hs 1;clear hs;repeat apply ah hJ
 apply aF hJ _;repeat apply ah hJ
 apply aF hJ _;repeat apply ah hJ
 have o:¬(n:Int)<0:=aa;refine eu hJ (by simp only[*,go_sem,decide_false]) ?_;apply aO hJ;repeat apply ah hJ
 apply aF hJ _;refine BV rfl (by kernel_rfl:Tryz.prog.underlying 35=some (.slice 3)) (aP ?_);have e1:IntKind.i64.wrap (((0:Nat):Int) - ((0:Nat):Int))=0:=aB;have p:IntKind.i64.wrap ((0:Int) - (0:Int))=0:=aB;have e2:IntKind.i64.wrap ((n:Int) - 0)=(n:Int):=by rw[IntWalk.i64_in _ ⟨aa,aa⟩];omega
 apply ag _;repeat apply ah hJ
 apply aF hJ _;repeat apply ah hJ
 by_cases d:0<n
 .have b2:(n:Int)>0:=aa;refine eD hJ (by simp only[*,go_sem,decide_true]) ?_;repeat apply ah hJ
  apply aF hJ _;refine BV rfl (by kernel_rfl:Tryz.prog.underlying 35=some (.slice 3)) (aP ?_);apply ag _;try simp only[Nat.le_refl,Int.le_refl,and_self,if_true,true_and]
  refine IE d aa fun k b arr q e hb=>aP ?_;have f:∀off sp,ro ⟨b,off,sp⟩=none:=hb.ro;have b3:(0:Int)<=(k:Int):=aa;simp only[*,go_sem,Int.le_refl,and_self,if_true,ite_self,Nat.sub_zero];repeat apply ah hJ
  apply aF hJ _;refine b9 ?_;refine ⟨[(b,.cells arr 3)],⟨[],.inr ⟨b,arr,k,rfl,rfl,?_,Nat.zero_le _,?_,fun x a=>(by cases a),f⟩,rfl,Nat.zero_le _,fun i x a=>by simp at a⟩,Le.refl _⟩
  .show arr.size=k*1;rw[e,Nat.mul_one]
  .simp
 .have b2:¬(0:Int)<(n:Int):=aa;refine eu hJ (by simp only[*,go_sem,decide_false]) ?_;apply aO hJ;repeat apply ah hJ
  apply aF hJ _;refine b9 ?_;exact ⟨[],bg.nil _ _ _,Le.refl _⟩
def uD (u0:an):Option (an×Int):=
 ai (fW u0 ([]:(List (an->Option Int)))) fun a=>cond ((a.2 != 0)) (some ((⟨0,0,(⟨0,0⟩:au),([]:(List cx)),([]:(List cK)),([]:(List cu)),([]:(List cn))⟩:an),a.2)) (ai (xB u0.aK) fun b=>ai (uh u0.props) fun c=>ai (ug u0.aH) fun d=>ai (uf u0.told) fun e=>some ((⟨u0.bZ,u0.b6,u0.bw,b,c,d,e⟩:an),0))
theorem yd {ro:Addr->Option Value}(a6:dM ro)(u0:an){s1 z B C:Value}(E:bO ro u0 s1 z B C){r:(an×Int)}(h:uD u0=some r):eJ Tryz.prog 117 #[bv u0 s1 z B C] ro (fun v aW=>∃ao w1 w2 w3,v= .tuple #[bv r.1 ao w1 w2 w3,.int .i64 r.2]/\bO aW r.1 ao w1 w2 w3):=by
 unfold uD at h;have a7:=E.oc;simp only[bV] at a7;refine aE.go Tryz.func117 rfl Tryz.ntmps117 Tryz.results117 ax fun main J hJ A a8 hd hs=>?_;have a9:=hs 0;clear hs;apply ay hJ _;refine az fun a F ba=>?_;try simp only[av] at ba
 refine az fun b G bb=>?_;try simp only[av] at bb
 refine ah hJ (aC hJ ?_);revert h;refine bS fun c bc h=>?_;apply ag _;refine cm hJ _ (ko a6 u0 E ([]:(List (an->Option Int))) (aI.nil _ _) bc) fun v U ae al bd=>?_;obtain ⟨d,f,g,i,j,rfl,bj,bl⟩:=bd;have bm:=bj.oc;simp only[bV] at bm;have bo:=bl.oc;simp only[bV] at bo;replace E:=E.mono ae;replace G:=al.hd;replace F:=al.tl.hd;simp only[bE] at al;apply aP;apply ag _;refine az fun k K br=>?_;try simp only[av] at br
 apply ay hJ _;revert h;refine aT hJ (fun bs h=>?_) fun bs h=>?_
 .cases h;apply ay hJ _;refine b9 ?_;exact ⟨_,ae,Le.sub (List.nil_sublist _),_,_,_,_,rfl,⟨aI.nil _ _,aI.nil _ _,aI.nil _ _,aI.nil _ _⟩⟩
 refine aO hJ (ah hJ ?_);refine aD hJ fun cS=>?_;refine eW hJ mixed [13,14,15,16,17,18,19] (.pure 0 (.rd 1 (.pure 3 (.rd 4 (.pure 6 (.rd 7 (.pure 9 (.rd 10 (.one 2 (.pure 12 (.one 5 (.one 8 (.one 11 (.last 13 (.pure 14 (.last 15 (.pure 16 (.last 17 (.pure 18 (.last 19 .done)))))))))))))))))))) ⟨U,[(k,kn c.1 d f g i j),(b,bz 29),(a,bk u0 s1 z B C)]⟩ aM aj ?_;revert h;refine bS fun m b0 h=>?_;apply ag _;refine ew hJ (bu:=[]) [(k,kn c.1 d f g i j),(b,bz 29),(a,bk u0 s1 z B C)] [] _ (Ic u0.aK E.e b0) (fun c0 L ar M N da=>?_);simp only[bn] at N;subst M;obtain ⟨d158,n,rfl,db⟩:=ar.len;refine ⟨⟨U,(k,kn c.1 d f g i j)::(b,bz 29)::(a,bk u0 s1 z B C)::L⟩,Le.refl _,?_⟩;refine ⟨aM,cj ?_⟩;revert h;refine bS fun o b1 h=>?_;apply ag _;refine ew hJ (bu:=[]) [(k,kn c.1 d f g i j),(b,bz 29),(a,bk u0 s1 z B C)] L _ (B8 u0.props E.p b1) (fun dd O V M N df=>?_);simp only[bn] at N;subst M;obtain ⟨d168,q,rfl,dk⟩:=V.len;refine ⟨⟨U,(k,kn c.1 d f g i j)::(b,bz 29)::(a,bk u0 s1 z B C)::(O++L)⟩,Le.refl _,?_⟩;refine ⟨aM,cj ?_⟩;revert h;refine bS fun s b2 h=>?_;apply ag _;refine ew hJ (bu:=[]) [(k,kn c.1 d f g i j),(b,bz 29),(a,bk u0 s1 z B C)] (O++L) _ (B7 u0.aH E.y b2) (fun dp P H M N dq=>?_);simp only[bn] at N;subst M;obtain ⟨d178,u,rfl,ds⟩:=H.len;refine ⟨⟨U,(k,kn c.1 d f g i j)::(b,bz 29)::(a,bk u0 s1 z B C)::(P++(O++L))⟩,Le.refl _,?_⟩;refine ⟨aM,cj ?_⟩;revert h;refine bS fun w b3 h=>?_;cases h;apply ag _;refine ew hJ (bu:=[]) [(k,kn c.1 d f g i j),(b,bz 29),(a,bk u0 s1 z B C)] (P++(O++L)) _ (xA u0.told E.t b3) (fun dt Q D M N du=>?_);simp only[bn] at N;subst M;obtain ⟨d188,x,rfl,dv⟩:=D.len;refine ⟨⟨U,(k,kn c.1 d f g i j)::(b,bz 29)::(a,bk u0 s1 z B C)::(Q++(P++(O++L)))⟩,Le.refl _,?_⟩;refine ⟨aM,cj ?_⟩;apply ag _;apply ah hJ;refine e8 [1,2,3] fun dC b4 b5 ca=>?_;simp only[*,go_sem] at b4 b5 ca;clear a8 hd a9;refine aD hJ fun dE=>?_;apply aF hJ _;refine aD hJ fun a0=>?_;obtain ⟨dT,X,R,I,cb⟩:=ar.l6 ((k,kn c.1 d f g i j)::(b,bk u0 (sl d158 m n) (sl d168 o q) (sl d178 s u) (sl d188 w x))::(a,bk u0 (sl d158 m n) (sl d168 o q) (sl d178 s u) (sl d188 w x))::(Q++(P++O))) ((k,kn c.1 d f g i j)::(b,bk u0 (sl d158 m n) (sl d168 o q) (sl d178 s u) (sl d188 w x))::(a,bk u0 (sl d158 m n) (sl d168 o q) (sl d178 s u) (sl d188 w x))::(Q++(P++O))) [] (by first|rfl|simp only[bn]|(simp only[bn];rfl)) (by first|rfl|simp only[bn]|(simp only[bn];rfl)) a0 (aJ.cons K (aJ.cons G (aJ.cons F (aJ.app D.jB (aJ.app H.jB (V.jB))))));clear a0;refine cH hJ cb ?_;obtain ⟨ea,eb,-⟩:=I.op;replace K:=R.hd;replace G:=R.tl.hd;replace F:=R.tl.tl.hd;replace D:=D.mono X R.tl.tl.tl.l;replace H:=H.mono X R.tl.tl.tl.r.l;replace V:=V.mono X R.tl.tl.tl.r.r;simp only[bE] at R;refine aD hJ fun a2=>?_;obtain ⟨ec,Y,S,T,cd⟩:=V.l6 ((k,kn c.1 d f g i j)::(b,bk u0 (sl d158 m n) (sl d168 o q) (sl d178 s u) (sl d188 w x))::(a,bk u0 (sl d158 m n) (sl d168 o q) (sl d178 s u) (sl d188 w x))::(Q++P)) ((k,kn c.1 d f g i j)::(b,bk u0 (sl d158 m n) (sl d168 o q) (sl d178 s u) (sl d188 w x))::(a,bk u0 (sl d158 m n) (sl d168 o q) (sl d178 s u) (sl d188 w x))::(Q++P)) [] (by first|rfl|simp only[bn]|(simp only[bn];rfl)) (by first|rfl|simp only[bn]|(simp only[bn];rfl)) a2 (aJ.cons K (aJ.cons G (aJ.cons F (aJ.app D.jB (H.jB)))));clear a2;refine cH hJ cd ?_;obtain ⟨ed,eh,-⟩:=T.op;replace I:=I.mono Y;replace K:=S.hd;replace G:=S.tl.hd;replace F:=S.tl.tl.hd;replace D:=D.mono Y S.tl.tl.tl.l;replace H:=H.mono Y S.tl.tl.tl.r;simp only[bE] at S;refine aD hJ fun a3=>?_;obtain ⟨et,Z,W,ab,cf⟩:=H.l6 ((k,kn c.1 d f g i j)::(b,bk u0 (sl d158 m n) (sl d168 o q) (sl d178 s u) (sl d188 w x))::(a,bk u0 (sl d158 m n) (sl d168 o q) (sl d178 s u) (sl d188 w x))::Q) ((k,kn c.1 d f g i j)::(b,bk u0 (sl d158 m n) (sl d168 o q) (sl d178 s u) (sl d188 w x))::(a,bk u0 (sl d158 m n) (sl d168 o q) (sl d178 s u) (sl d188 w x))::Q) [] (by first|rfl|simp only[bn]|(simp only[bn];rfl)) (by first|rfl|simp only[bn]|(simp only[bn];rfl)) a3 (aJ.cons K (aJ.cons G (aJ.cons F (D.jB))));clear a3;refine cH hJ cf ?_;obtain ⟨ev,eQ,-⟩:=ab.op;replace I:=I.mono Z;replace T:=T.mono Z;replace K:=W.hd;replace G:=W.tl.hd;replace F:=W.tl.tl.hd;replace D:=D.mono Z W.tl.tl.tl;simp only[bE] at W;refine aD hJ fun a4=>?_;obtain ⟨eS,ad,cl,a5,cy⟩:=D.l6 ((k,kn c.1 d f g i j)::(b,bk u0 (sl d158 m n) (sl d168 o q) (sl d178 s u) (sl d188 w x))::(a,bk u0 (sl d158 m n) (sl d168 o q) (sl d178 s u) (sl d188 w x))::[]) [(k,kn c.1 d f g i j),(b,bk u0 (sl d158 m n) (sl d168 o q) (sl d178 s u) (sl d188 w x)),(a,bk u0 (sl d158 m n) (sl d168 o q) (sl d178 s u) (sl d188 w x))] [] (by first|rfl|simp only[bn]|(simp only[bn];rfl)) (by first|rfl|simp only[bn]|(simp only[bn];rfl)) a4 (aJ.cons K (aJ.cons G (aJ.cons F (aJ.nil _))));clear a4;refine cH hJ cy ?_;obtain ⟨e0,e1,-⟩:=a5.op;replace I:=I.mono ad;replace T:=T.mono ad;replace ab:=ab.mono ad;simp only[bE] at cl;refine b9 ?_;exact ⟨_,((((ae).trans X).trans Y).trans Z).trans ad,Le.sub (List.nil_sublist _),_,_,_,_,rfl,⟨I,T,ab,a5⟩⟩
def ye (u0:Int)(a:Int):Option Int:=
 ai (pq u0) fun c=>ai (pq a) fun b=>cond (c) (cond (b) (some 0) (some (-1))) (cond (b) (some 1) (cond (decide (u0<a)) (some (-1)) (cond (decide (a<u0)) (some 1) (some 0))))
theorem IG {ro:Addr->Option Value}(u0:Int)(a:Int){r:Int}(h:ye u0 a=some r):aE Tryz.prog 146 #[.int .i64 u0,.int .i64 a] ⟨ro,[]⟩ (fun v _=>v= .int .i64 r):=by
 unfold ye at h;refine aE.go Tryz.func146 rfl Tryz.ntmps146 Tryz.results146 ax fun main J hJ A j hd hs=>?_;have k:=hs 0;have k1:=hs 1;clear hs;apply ay hJ _;apply aC hJ;revert h;refine bS fun l b h=>?_;apply ag _;refine bf hJ _ (uw u0 b) (aP ?_);apply ag _;apply aC hJ;revert h;refine bS fun m c h=>?_;apply ag _;refine bf hJ _ (uw a c) (aP ?_);apply ag _;refine ah hJ (aC hJ ?_);apply ag _;revert h;refine aT hJ (fun d h=>?_) fun d h=>?_
 .refine ah hJ (aC hJ ?_);apply ag _;revert h;refine aT hJ (fun e h=>?_) fun e h=>?_
  .cases h;apply ay hJ _;apply aQ;simp only[*,go_sem]
  cases h;refine aO hJ (ah hJ ?_);apply aF hJ _;apply aQ;simp only[*,go_sem]
 refine aO hJ (ah hJ ?_);apply ay hJ _;revert h;refine aT hJ (fun f h=>?_) fun f h=>?_
 .cases h;apply ay hJ _;apply aQ;simp only[*,go_sem]
 refine aO hJ (ah hJ ?_);apply ay hJ _;revert h;refine aT hJ (fun g h=>?_) fun g h=>?_
 .cases h;apply ay hJ _;apply aQ;simp only[*,go_sem]
 refine aO hJ (ah hJ ?_);apply ay hJ _;revert h;refine aT hJ (fun i h=>?_) fun i h=>?_
 .cases h;apply ay hJ _;apply aQ;simp only[*,go_sem]
 cases h;refine aO hJ (ah hJ ?_);apply aF hJ _;apply aQ;simp only[*,go_sem]
def yf (a:(List Int))(i16:Nat)(c:Int)(st:Int):Option (Fl Int Int):=
 cond (decide ((a.length:Int)<=(i16:Int))) (some (.rt 1)) (ai (bt a (i16:Int)) fun d=>ai (ye c d) fun b=>cond ((b != 0)) (some (.rt b)) (some (.nx st)))
def yg (u0:(List Int))(a:(List Int)):Option Int:=
 ai (bU (yf a) 0 u0 0) fun o=>aG o (fun b=>cond (decide ((u0.length:Int)<(a.length:Int))) (some (-1)) (some 0)) (fun _ _=>none) (fun r=>some r)
theorem II {ro:Addr->Option Value}(u0:(List Int)){s1:Value}(g:aI rI ro s1 u0)(d:(List Int)){i:Value}(j:aI rI ro i d){r:Int}(h:yg u0 d=some r):aE Tryz.prog 111 #[s1,i] ⟨ro,[]⟩ (fun v _=>v= .int .i64 r):=by
 obtain ⟨d3,c4,rfl,U,w,-⟩:=id g;obtain ⟨d10,V,rfl,W,X,-⟩:=id j;unfold yg at h;refine aE.go Tryz.func111 rfl Tryz.ntmps111 Tryz.results111 ax fun main J hJ A y hd hs=>?_;have z:=hs 0;have k1:=hs 1;clear hs;apply ay hJ _;refine ah hJ (aC hJ ?_);apply ag _;apply aV hJ;revert h;refine bS fun B a e=>?_;refine bY hJ (rg 11 20 [4,5,6,7,8]) (fun m k F'=>∃(i16:Nat) (c:Int),m=u0.length - i16/\i16<=u0.length/\bU (yf d) i16 (u0.drop i16) c=some B/\F'=⟨ro,[]⟩/\slot k 11= .int .i64 (i16:Int)/\slot k 4= .int .i64 c) u0.length ?_ ?_
 .refine ⟨0,0,(Nat.sub_zero _).symm,Nat.zero_le _,a,rfl,?_⟩;simp only[*,go_sem]
 rintro Y Z F' l ⟨i16,c,rfl,ab,a,rfl,ad,ae⟩;obtain ⟨C,D,E⟩:=l.pick [0,1,9,10] aB;simp only[*,go_sem] at C D E;clear l y hd z k1;apply ay hJ _;apply ah hJ;rcases Nat.lt_or_ge i16 u0.length with F|o
 .refine cJ hJ ?_;apply aO hJ;obtain ⟨p,f⟩:∃x,u0[i16]?=some x:=⟨_,List.getElem?_eq_getElem F⟩
  rw[dK f] at a;revert a;refine bS fun al h b=>?_;unfold yf at h;try dsimp only at h
  obtain ⟨ao,G,H,I,q⟩:=g.el _ _ f;obtain rfl:G=[.int .i64 p]:=I;cases H;have K:=q 0 _ rfl;simp only[go_sem] at K;clear q f;refine ah hJ (aV hJ (ah hJ ?_));apply aF hJ _;refine ah hJ (aC hJ ?_);apply ag _;revert h;refine aT hJ (fun L h=>?_) fun L h=>?_
  .cases h;apply ay hJ _;obtain rfl:=sI b;clear b;have h:=e;dsimp only[aG] at h;cases h;apply aQ;simp only[*,go_sem]
  refine aO hJ (ah hJ ?_);apply aR hJ;revert h;refine bS fun s M h=>?_;obtain ⟨ar,a0,t⟩:=cv M;obtain ⟨a2,N,O,P,u⟩:=j.el _ _ t;obtain rfl:N=[.int .i64 s]:=P;cases O;have Q:=u 0 _ rfl;simp only[go_sem] at Q;clear u t;apply ag _;apply aC hJ;revert h;refine bS fun a3 R h=>?_;apply ag _;refine bf hJ _ (IG p s R) (aP ?_);apply ag _;apply ay hJ _;revert h;refine aT hJ (fun S h=>?_) fun S h=>?_
  .cases h;apply ay hJ _;obtain rfl:=sI b;clear b;have h:=e;dsimp only[aG] at h;cases h;apply aQ;simp only[*,go_sem]
  cases h;apply aO hJ;have a4:=cI (n:=i16) (by have:=w;omega);apply aF hJ _;refine ⟨u0.length - (i16+1),aa,_,Le.sub (List.Sublist.refl _),i16+1,c,rfl,aa,b,rfl,?_⟩;simp only[*,go_sem]
 have a5:=Nat.not_lt.2 o;refine cF hJ ?_;rw[List.drop_eq_nil_of_le o] at a;obtain rfl:=sI a;clear a;have h:=e;dsimp only[aG] at h;apply bR;simp only[go_sem];refine ah hJ (aC hJ ?_);apply ag _;revert h;refine aT hJ (fun T h=>?_) fun T h=>?_
 .cases h;apply ay hJ _;apply aQ;simp only[*,go_sem]
 cases h;refine aO hJ (ah hJ ?_);apply aF hJ _;apply aQ;simp only[*,go_sem]
def uE (u0:(List Int))(a:(List Int)):Option Bool:=
 cond (decide ((a.length:Int)<(u0.length:Int))) (some true) (cond (((a.length:Int)==(u0.length:Int))) (ai (yg a u0) fun b=>some (decide (b<0))) (some false))
theorem IJ {ro:Addr->Option Value}(u0:(List Int)){s1:Value}(d:aI rI ro s1 u0)(a:(List Int)){e:Value}(f:aI rI ro e a){r:Bool}(h:uE u0 a=some r):aE Tryz.prog 110 #[s1,e] ⟨ro,[]⟩ (fun v _=>v= .bool r):=by
 obtain ⟨d3,c4,rfl,i,j,-⟩:=id d;obtain ⟨d10,k,rfl,l,m,-⟩:=id f;unfold uE at h;refine aE.go Tryz.func110 rfl Tryz.ntmps110 Tryz.results110 ax fun main J hJ A n hd hs=>?_;have o:=hs 0;have k1:=hs 1;clear hs;apply ay hJ _;apply aC hJ;revert h;refine cS (fun b h=>?_) fun b h=>?_
 .cases h;try simp only[Int.ofNat_lt] at b
  apply ag _;apply aQ;simp only[*,go_sem]
 try simp only[Int.ofNat_lt] at b
 revert h;refine cS (fun c h=>?_) fun c h=>?_
 .try simp only[Int.ofNat_lt] at c
  revert h;refine bS fun p g h=>?_;cases h;apply ag _;refine bf hJ _ (II a (f.mono aZ) u0 (d.mono aZ) g) (aP ?_);apply ag _;apply aQ;simp only[*,go_sem]
 cases h;try simp only[Int.ofNat_lt] at c
 apply ag _;apply aQ;simp only[*,go_sem]
def k7 (u0:an)(b:Int):Option (Int×Int):=
 ai (fW u0 ([(e9 b)])) fun a=>cond ((a.2 != 0)) (some (0,a.2)) (ai (o9 a.1 (fun c=>j9 c a.1 b)) fun d=>some (d,0))
theorem yh {ro:Addr->Option Value}(j:dM ro)(u0:an){s1 k l m:Value}(i:bO ro u0 s1 k l m)(c:Int){r:(Int×Int)}(h:k7 u0 c=some r):aE Tryz.prog 23 #[bv u0 s1 k l m,.int .i64 c] ⟨ro,[]⟩ (fun v _=>v= .tuple #[.int .i64 r.1,.int .i64 r.2]):=by
 unfold k7 at h;have G:=i.oc;simp only[bV] at G;refine aE.go Tryz.func23 rfl Tryz.ntmps23 Tryz.results23 ax fun main J hJ A ae hd hs=>?_;have al:=hs 0;have k1:=hs 1;clear hs;apply ay hJ _;refine az fun H I K=>?_;try simp only[av] at K
 refine az fun u L M=>?_;try simp only[av] at M
 apply ah hJ;refine aD hJ fun N=>?_;apply aR hJ;revert h;refine bS fun n O h=>?_;apply ag _;refine az fun f w z=>?_;have B:=bh.cons z N;try simp only[av] at z
 obtain ⟨q,C,D⟩:=fG (b:=f) (o:=(.cells #[.func (.func 86) #[.int .i64 c] #[]] 116)) [] ((u,ic c)::(H,bk u0 s1 k l m)::[]) B w (aJ.cons L (aJ.cons I (aJ.nil _)));have E:aI (dx) (b7 ro f (.cells #[.func (.func 86) #[.int .i64 c] #[]] 116)) (.slice (some ⟨f,0,none⟩) 1 1) [(e9 c)]:=(aI.one (r:=(dx)) (e:=116) (cs:=#[.func (.func 86) #[.int .i64 c] #[]]) (x:=(e9 c)) (own:=[(f,.cells #[.func (.func 86) #[.int .i64 c] #[]] 116)]) w (by simp[lk]) ⟨86,#[.int .i64 c],#[],rfl,⟨by simp only[go_sem],fun P a g _ _ _ _ _ Q R S T h=>by simp only[go_sem];exact tL c g ⟨Q,R,S,T⟩ h⟩⟩)
 generalize b7 ro f (.cells #[.func (.func 86) #[.int .i64 c] #[]] 116)=ao at E C q D;refine ie hJ D ?_;replace i:=i.mono q;replace j:=j.mono q;simp only[bE] at C;have U:=bh.tl B;refine cm hJ _ (ko j u0 i ([(e9 c)]) E O) fun v ar a0 V W=>?_;obtain ⟨a2,a3,a4,a5,a6,rfl,d,s⟩:=W;have X:=d.oc;simp only[bV] at X;simp only[bE] at V;obtain ⟨d41,a7,rfl,a8,a9,-⟩:=id d.e;obtain ⟨d48,ba,rfl,bb,bc,-⟩:=id d.p;obtain ⟨d55,bd,rfl,bj,bl,-⟩:=id d.y;obtain ⟨d62,bm,rfl,bo,br,-⟩:=id d.t;obtain ⟨d69,bs,rfl,bz,b0,-⟩:=id s;apply aP;apply ag _;refine az fun Y b1 F=>?_;have b2:=bh.cons F U;try simp only[av] at F
 refine ah hJ (aC hJ ?_);apply ag _;revert h;refine aT hJ (fun Z h=>?_) fun Z h=>?_
 .cases h;apply ay hJ _;apply aQ;simp only[*,go_sem]
 refine aO hJ (ah hJ ?_);apply aR hJ;revert h;refine bS fun b3 ab h=>?_;cases h;apply ag _;refine bf hJ _ (B6 (de:=96) (dN:=#[]) (dO:=#[.pointer (some ⟨Y,0,none⟩),.pointer (some ⟨u,0,none⟩)]) n.1 (d.mono aZ) (s.mono aZ) (fun g=>j9 g n.1 c) ⟨by simp only[go_sem],fun P a g b4 ad=>by simp only[go_sem];exact H7 g n.1 (a _ _ (by simp only[af.cM,go_sem, *])) (a _ _ (by simp only[af.cM,go_sem, *])) (a _ _ (by simp only[af.cM,go_sem, *])) (a _ _ (by simp only[af.cM,go_sem, *])) ((d.e.mono aZ).mono a) (a _ _ (by simp only[af.cM,go_sem, *])) ((d.p.mono aZ).mono a) (a _ _ (by simp only[af.cM,go_sem, *])) ((d.y.mono aZ).mono a) (a _ _ (by simp only[af.cM,go_sem, *])) ((d.t.mono aZ).mono a) (a _ _ (by simp only[af.cM,go_sem, *])) ((s.mono aZ).mono a) (a _ _ (by simp only[af.cM,go_sem, *])) c (a _ _ (by simp only[af.cM,go_sem, *])) ad⟩ ab) (aP ?_);apply ag _;apply aQ;simp only[*,go_sem]
def ku (u0:an):Option (Int×Int):=
 ai (fW u0 ([]:(List (an->Option Int)))) fun a=>cond ((a.2 != 0)) (some (0,a.2)) (ai (o9 a.1 (fun b=>kg b a.1)) fun c=>some (c,0))
theorem rF {ro:Addr->Option Value}(l:dM ro)(u0:an){s1 g i j:Value}(k:bO ro u0 s1 g i j){r:(Int×Int)}(h:ku u0=some r):aE Tryz.prog 25 #[bv u0 s1 g i j] ⟨ro,[]⟩ (fun v _=>v= .tuple #[.int .i64 r.1,.int .i64 r.2]):=by
 unfold ku at h;have m:=k.oc;simp only[bV] at m;refine aE.go Tryz.func25 rfl Tryz.ntmps25 Tryz.results25 ax fun main J hJ A D hd hs=>?_;have E:=hs 0;clear hs;apply ay hJ _;refine az fun F G n=>?_;try simp only[av] at n
 apply aC hJ;revert h;refine bS fun c o h=>?_;apply ag _;refine cm hJ _ (ko l u0 k ([]:(List (an->Option Int))) (aI.nil _ _) o) fun v H I q s=>?_;obtain ⟨K,L,M,N,O,rfl,b,d⟩:=s;have u:=b.oc;simp only[bV] at u;simp only[bE] at q;obtain ⟨d37,P,rfl,Q,R,-⟩:=id b.e;obtain ⟨d44,S,rfl,T,U,-⟩:=id b.p;obtain ⟨d51,V,rfl,W,X,-⟩:=id b.y;obtain ⟨d58,Y,rfl,Z,ab,-⟩:=id b.t;obtain ⟨d65,ad,rfl,ae,al,-⟩:=id d;apply aP;apply ag _;refine az fun w ao x=>?_;try simp only[av] at x
 refine ah hJ (aC hJ ?_);apply ag _;revert h;refine aT hJ (fun z h=>?_) fun z h=>?_
 .cases h;apply ay hJ _;apply aQ;simp only[*,go_sem]
 refine aO hJ (ah hJ ?_);apply aR hJ;revert h;refine bS fun ar B h=>?_;cases h;apply ag _;refine bf hJ _ (B6 (de:=100) (dN:=#[]) (dO:=#[.pointer (some ⟨w,0,none⟩)]) c.1 (b.mono aZ) (d.mono aZ) (fun f=>kg f c.1) ⟨by simp only[go_sem],fun a0 a f a2 C=>by simp only[go_sem];exact H8 f c.1 (a _ _ (by simp only[af.cM,go_sem, *])) (a _ _ (by simp only[af.cM,go_sem, *])) (a _ _ (by simp only[af.cM,go_sem, *])) (a _ _ (by simp only[af.cM,go_sem, *])) ((b.e.mono aZ).mono a) (a _ _ (by simp only[af.cM,go_sem, *])) ((b.p.mono aZ).mono a) (a _ _ (by simp only[af.cM,go_sem, *])) ((b.y.mono aZ).mono a) (a _ _ (by simp only[af.cM,go_sem, *])) ((b.t.mono aZ).mono a) (a _ _ (by simp only[af.cM,go_sem, *])) ((d.mono aZ).mono a) (a _ _ (by simp only[af.cM,go_sem, *])) C⟩ B) (aP ?_);apply ag _;apply aQ;simp only[*,go_sem]
def yj (a:(dh×Int))(i74:Nat)(i83:Nat)(b:bp)(st:Int):Option (Fl Int (Int×Int×Int)):=
 ai (bp.get b (i74:Int)) fun c=>ai (ij a.1.book (i74:Int) c) fun d=>ai (gU a.1.book d) fun e=>cond (e) (some (.nx (IntKind.i64.wrap (st+1)))) (some (.nx st))
def yl (b:(dh×Int))(i74:Nat)(c:cu)(st:(Int×Int)):Option (Fl (Int×Int) (Int×Int×Int)):=
 ai (bU (yj b i74) 0 b.1.all 0) fun o=>aG o (fun a=>cond (decide ((if a<IntKind.i64.wrap ((b.1.all.length:Int) - a) then IntKind.i64.wrap ((b.1.all.length:Int) - a) else a)<st.2)) (some (.nx ((i74:Int),(if a<IntKind.i64.wrap ((b.1.all.length:Int) - a) then IntKind.i64.wrap ((b.1.all.length:Int) - a) else a)))) (some (.nx (st.1,st.2)))) (fun _ _=>none) (fun r=>some (.rt r))
def ym (u0:an):Option (Int×Int×Int):=
 ai (fW u0 ([]:(List (an->Option Int)))) fun a=>cond ((a.2 != 0)) (some (0,0,a.2)) (ai (bU (yl a) 0 a.1.book.aH ((-1),(a.1.all.length:Int))) fun o=>aG o (fun b=>some (b.1,b.2,0)) (fun _ _=>none) (fun r=>some r))
theorem IK {ro:Addr->Option Value}(V:dM ro)(u0:an){s1 g i j:Value}(w:bO ro u0 s1 g i j){r:(Int×Int×Int)}(h:ym u0=some r):aE Tryz.prog 47 #[bv u0 s1 g i j] ⟨ro,[]⟩ (fun v _=>v= .tuple #[.int .i64 r.1,.int .i64 r.2.1,.int .i64 r.2.2]):=by
 unfold ym at h;have W:=w.oc;simp only[bV] at W;refine aE.go Tryz.func47 rfl Tryz.ntmps47 Tryz.results47 ax fun main J hJ A X hd hs=>?_;have Y:=hs 0;clear hs;apply ay hJ _;refine az fun z dq Z=>?_;try simp only[av] at Z
 apply aC hJ;revert h;refine bS fun a ab h=>?_;apply ag _;refine cm hJ _ (ko V u0 w ([]:(List (an->Option Int))) (aI.nil _ _) ab) fun v B ds ad ae=>?_;obtain ⟨C,D,dt,E,du,rfl,f,G⟩:=ae;have al:=f.oc;simp only[bV] at al;simp only[bE] at ad;obtain ⟨d51,H,rfl,dv,I,-⟩:=id f.y;obtain ⟨d65,K,rfl,dC,L,-⟩:=id G;apply aP;apply ag _;refine az fun M dE ao=>?_;try simp only[av] at ao
 refine ah hJ (aC hJ ?_);apply ag _;revert h;refine aT hJ (fun ar h=>?_) fun ar h=>?_
 .cases h;apply ay hJ _;apply aQ;simp only[*,go_sem]
 refine aO hJ (ah hJ ?_);refine cV hJ mixed 5 2 aM aj ?_;apply ag _;refine ah hJ (aC hJ ?_);apply ag _;apply aV hJ;revert h;refine bS fun a0 c a2=>?_;refine bY hJ (rg 27 36 [2,3,6,7,9,10]) (fun m e F'=>∃(i74:Nat) (k:Int) (l:Int),m=a.1.book.aH.length - i74/\i74<=a.1.book.aH.length/\bU (yl a) i74 (a.1.book.aH.drop i74) (k,l)=some a0/\F'=⟨B,(M,kn a.1 C D (sl d51 a.1.book.aH H) E (sl d65 a.1.all K))::(z,bk u0 s1 g i j)::[]⟩/\slot e 27= .int .i64 (i74:Int)/\slot e 2= .int .i64 k/\slot e 3= .int .i64 l) a.1.book.aH.length ?_ ?_
 .refine ⟨0,(-1),(a.1.all.length:Int),(Nat.sub_zero _).symm,Nat.zero_le _,c,rfl,?_⟩;simp only[*,go_sem]
 rintro dT a3 F' N ⟨i74,k,l,rfl,ea,c,rfl,a4,a5,a6⟩;obtain ⟨O,P,Q⟩:=N.pick [4,5,26] aB;simp only[*,go_sem] at O P Q;clear N X hd Y;apply ay hJ _;apply ah hJ;rcases Nat.lt_or_ge i74 a.1.book.aH.length with a7|R
 .refine cJ hJ ?_;apply aO hJ;obtain ⟨a8,q⟩:∃x,a.1.book.aH[i74]?=some x:=⟨_,List.getElem?_eq_getElem a7⟩
  rw[dK q] at c;revert c;refine bS fun eb h S=>?_;unfold yl at h;try dsimp only at h
  obtain ⟨a9,ba,bb,bc,o⟩:=f.y.el _ _ q;obtain rfl:ba=a8.cells:=bc;cases bb;have bd:=o 0 _ rfl;simp only[go_sem] at bd;have bj:=o 1 _ rfl;simp only[go_sem] at bj;have bl:=o 2 _ rfl;simp only[go_sem] at bl;clear o q;refine ah hJ (aV hJ (ah hJ ?_));apply aF hJ _;apply ay hJ _;refine ah hJ (aC hJ ?_);apply ag _;apply aV hJ;revert h;refine bS fun bm d bo=>?_;refine bY hJ (rg 33 17 [7,9]) (fun m e F'=>∃(i83:Nat) (b:Int),m=a.1.all.length - i83/\i83<=a.1.all.length/\bU (yj a i74) i83 (a.1.all.drop i83) b=some bm/\F'=⟨B,(M,kn a.1 C D (sl (some a9) a.1.book.aH H) E (sl d65 a.1.all K))::(z,bk u0 s1 g i j)::[]⟩/\slot e 33= .int .i64 (i83:Int)/\slot e 7= .int .i64 b) a.1.all.length ?_ ?_
  .refine ⟨0,0,(Nat.sub_zero _).symm,Nat.zero_le _,d,rfl,?_⟩;simp only[*,go_sem]
  rintro ec br F' s ⟨i83,b,rfl,ed,d,rfl,eh,et⟩;obtain ⟨bs,bz,b0⟩:=s.pick [2,3,4,5,6,26,27,28,29,30,31,32] aB;simp only[*,go_sem] at bs bz b0;have ev:cR (rg 27 36 [2,3,6,7,9,10]) br a3:=(s.fE aB).trans aM;clear s O P Q a5 a6 a4;apply ay hJ _;apply ah hJ;rcases Nat.lt_or_ge i83 a.1.all.length with b1|T
  .refine cJ hJ ?_;apply aO hJ;obtain ⟨b2,t⟩:∃x,a.1.all[i83]?=some x:=⟨_,List.getElem?_eq_getElem b1⟩
   rw[dK t] at d;revert d;refine bS fun eQ h U=>?_;unfold yj at h;(try dsimp only at h);obtain ⟨eS,b3,b4,b5,p⟩:=G.el _ _ t;obtain rfl:b3=b2.cells:=b5;cases b4;have ca:=p 0 _ rfl;simp only[go_sem] at ca;have cb:=p 1 _ rfl;simp only[go_sem] at cb;have cd:=p 2 _ rfl;simp only[go_sem] at cd;clear p t;refine ah hJ (aV hJ (ah hJ ?_));apply aF hJ _;refine az fun e0 e1 cf=>?_;try simp only[av] at cf
   apply ah hJ;refine cV hJ mixed 10 3 aM aj ?_;revert h;refine bS fun cl cy h=>?_;obtain ⟨e2,e3,cS⟩:=bp.get_some cy;(try simp only[go_sem] at cS);revert h;refine bS fun c0 da h=>?_;apply ag _;refine ⟨_,bI hJ fun F u=>nh a.1.book (f.mono (cg u)) (i74:Int) cl da,ck ?_⟩;revert h;refine bS fun fa db h=>?_;apply ag _;refine ⟨_,bI hJ fun F u=>nC a.1.book (f.mono (cg u)) c0 db,?_⟩;revert h;refine aT hJ (fun dd h=>?_) fun dd h=>?_
   .cases h;apply aF hJ _;have df:=cI (n:=i83) (by have:=L;omega);apply aF hJ _;refine ⟨a.1.all.length - (i83+1),aa,_,Le.sub (List.Sublist.cons _ (List.Sublist.refl _)),i83+1,(IntKind.i64.wrap (b+1)),rfl,aa,U,rfl,?_⟩;simp only[*,go_sem]
   cases h;apply aO hJ;have df:=cI (n:=i83) (by have:=L;omega);apply aF hJ _;refine ⟨a.1.all.length - (i83+1),aa,_,Le.sub (List.Sublist.cons _ (List.Sublist.refl _)),i83+1,b,rfl,aa,U,rfl,?_⟩;simp only[*,go_sem]
  have fb:=Nat.not_lt.2 T;refine cF hJ ?_;rw[List.drop_eq_nil_of_le T] at d;obtain rfl:=sI d;clear d;have h:=bo;dsimp only[aG] at h;apply bR;simp only[go_sem];apply ay hJ _;apply ay hJ _;revert h;refine aT hJ (fun dk h=>?_) fun dk h=>?_
  .cases h;apply aF hJ _;have dp:=cI (n:=i74) (by have:=I;omega);apply aF hJ _;refine ⟨a.1.book.aH.length - (i74+1),aa,_,Le.sub (List.Sublist.refl _),i74+1,(i74:Int),(if b<IntKind.i64.wrap ((a.1.all.length:Int) - b) then IntKind.i64.wrap ((a.1.all.length:Int) - b) else b),rfl,aa,S,rfl,?_⟩;simp only[*,go_sem]
  cases h;apply aO hJ;have dp:=cI (n:=i74) (by have:=I;omega);apply aF hJ _;refine ⟨a.1.book.aH.length - (i74+1),aa,_,Le.sub (List.Sublist.refl _),i74+1,k,l,rfl,aa,S,rfl,?_⟩;simp only[*,go_sem]
 have fg:=Nat.not_lt.2 R;refine cF hJ ?_;rw[List.drop_eq_nil_of_le R] at c;obtain rfl:=sI c;clear c;have h:=a2;dsimp only[aG] at h;cases h;apply bR;simp only[go_sem];apply ay hJ _;apply aQ;simp only[*,go_sem]
def pz (u0:an):Option Int:=
 cond (((u0.props.length:Int)==3)) (some 2) (some 0)
theorem IL {ro:Addr->Option Value}(u0:an){s1 b c d:Value}(a:bO ro u0 s1 b c d){r:Int}(h:pz u0=some r):aE Tryz.prog 69 #[bv u0 s1 b c d] ⟨ro,[]⟩ (fun v _=>v= .int .i64 r):=by
 obtain ⟨d3,c4,rfl,i,j,-⟩:=id a.e;obtain ⟨d10,k,rfl,l,m,-⟩:=id a.p;obtain ⟨d17,n,rfl,o,q,-⟩:=id a.y;obtain ⟨d24,s,rfl,u,w,-⟩:=id a.t;unfold pz at h;refine aE.go Tryz.func69 rfl Tryz.ntmps69 Tryz.results69 ax fun main J hJ A x hd hs=>?_;have z:=hs 0;clear hs;apply ay hJ _;refine az fun B C f=>?_;try simp only[av] at f
 refine ah hJ (aC hJ ?_);apply ag _;revert h;refine aT hJ (fun g h=>?_) fun g h=>?_
 .cases h;apply ay hJ _;apply aQ;simp only[*,go_sem]
 cases h;refine aO hJ (ah hJ ?_);apply aF hJ _;apply aQ;simp only[*,go_sem]
def uF (u0:an)(c:cn):Option (an×Int):=
 ai (fN u0) fun a=>cond ((a != 0)) (some ((⟨0,0,(⟨0,0⟩:au),([]:(List cx)),([]:(List cK)),([]:(List cu)),([]:(List cn))⟩:an),a)) (ai (uf u0.told) fun d=>ai (dc d ([c])) fun e=>ai (uD (⟨u0.bZ,u0.b6,u0.bw,u0.aK,u0.props,u0.aH,e⟩:an)) fun b=>some (b.1,b.2))
theorem uG {ro:Addr->Option Value}(k:dM ro)(u0:an){s1 c d f:Value}(b:bO ro u0 s1 c d f)(a:cn){r:(an×Int)}(h:uF u0 a=some r):eJ Tryz.prog 48 #[bv u0 s1 c d f,.agg #[.int .i64 a.bA,.bool a.bJ]] ro (fun v aW=>∃L w1 w2 w3,v= .tuple #[bv r.1 L w1 w2 w3,.int .i64 r.2]/\bO aW r.1 L w1 w2 w3):=by
 unfold uF at h;refine aE.go Tryz.func48 rfl Tryz.ntmps48 Tryz.results48 ax fun main J hJ A ca hd hs=>?_;have cb:=hs 0;have k1:=hs 1;clear hs;apply ay hJ _;refine az fun g u ab=>?_;try simp only[av] at ab
 refine az fun i w ad=>?_;try simp only[av] at ad
 refine az fun j z ae=>?_;try simp only[av] at ae
 refine ah hJ (aC hJ ?_);revert h;refine bS fun cd al h=>?_;apply ag _;refine bf hJ _ (B2 (k.mono aZ) u0 (b.e.mono aZ) (b.p.mono aZ) (b.y.mono aZ) (b.t.mono aZ) al) (aP ?_);apply ag _;apply ay hJ _;revert h;refine aT hJ (fun ao h=>?_) fun ao h=>?_
 .cases h;apply ay hJ _;refine b9 ?_;exact ⟨_,Ext.refl _,Le.sub (List.nil_sublist _),_,_,_,_,rfl,⟨aI.nil _ _,aI.nil _ _,aI.nil _ _,aI.nil _ _⟩⟩
 refine aO hJ (ah hJ ?_);refine aD hJ fun ar=>?_;refine eW hJ mixed [7] (.pure 0 (.rd 1 (.rd 3 (.two 2 (.one 4 (.one 5 (.pure 6 (.last 7 .done)))) 4 (.one 2 (.one 5 (.pure 6 (.last 7 .done)))))))) ⟨ro,[(j,bz 29),(i,.cells #[.int .i64 a.bA,.bool a.bJ] 86),(g,bk u0 s1 c d f)]⟩ aM aj ?_;apply ag _;refine kW ?_ ?_
 .revert h;refine bS fun a0 a2 h=>?_;apply ag _;refine ew hJ (bu:=[]) [(j,bz 29),(i,.cells #[.int .i64 a.bA,.bool a.bJ] 86),(g,bk u0 s1 c d f)] [] _ (xA u0.told b.t a2) (fun cf a3 M m n a4=>?_);simp only[bn] at n;subst m;obtain ⟨d174,cl,rfl,cy⟩:=M.len;refine ⟨⟨ro,(j,bz 29)::(i,.cells #[.int .i64 a.bA,.bool a.bJ] 86)::(g,bk u0 s1 c d f)::a3⟩,Le.refl _,?_⟩;refine ⟨aM,cj ?_⟩;revert h;refine bS fun N a5 h=>?_;obtain ⟨a6,O⟩:=dg a5;apply ag _;refine az fun D P Q=>?_;have a7:=bh.cons Q a4;try simp only[av] at Q
  apply ag _;refine dP (r:=dL) (l:=a0) (x:=a) (cs:=#[.int .i64 a.bA,.bool a.bJ]) (e2:=86) [(D,.cells #[.int .i64 a.bA,.bool a.bJ] 86),(j,bz 29),(i,.cells #[.int .i64 a.bA,.bool a.bJ] 86),(g,bk u0 s1 c d f)] [] M a7 a6 rfl aM P rfl rfl eV eV iS iU rfl iT aB aB (fun cS a8 E m n c0=>?_);simp only[bn] at n;subst m;rw[<-O] at E;clear O;obtain ⟨d186,a9,rfl,da⟩:=E.len;refine ⟨⟨ro,(D,.cells #[.int .i64 a.bA,.bool a.bJ] 86)::(j,bz 29)::(i,.cells #[.int .i64 a.bA,.bool a.bJ] 86)::(g,bk u0 s1 c d f)::a8⟩,Le.refl _,?_⟩;refine ⟨aM,cj ?_⟩;apply ag _;apply ah hJ;refine aD hJ fun R=>?_;obtain ⟨db,F,B,S,ba⟩:=E.eL [(D,.cells #[.int .i64 a.bA,.bool a.bJ] 86),(j,bz 29),(i,.cells #[.int .i64 a.bA,.bool a.bJ] 86),(g,bk u0 s1 c d (sl d186 N a9))] [] R (aJ.cons P (aJ.cons z (aJ.cons w (aJ.cons u (aJ.nil _)))));clear R;refine cH hJ ba ?_;obtain ⟨dd,df,-⟩:=S.op;replace b:=b.mono F;replace z:=B.tl.hd;replace w:=B.tl.tl.hd;replace u:=B.tl.tl.tl.hd;replace k:=k.mono F;simp only[bE] at B;apply aR hJ;revert h;refine bS fun dk bb h=>?_;cases h;apply ag _;refine cm hJ _ (yd k (⟨u0.bZ,u0.b6,u0.bw,u0.aK,u0.props,u0.aH,N⟩:an) ⟨b.e,b.p,b.y,S⟩ bb) fun v dp G C H=>?_;obtain ⟨dq,ds,dt,du,rfl,o⟩:=H;replace b:=b.mono G;replace z:=C.tl.hd;replace w:=C.tl.tl.hd;replace u:=C.tl.tl.tl.hd;replace k:=k.mono G;simp only[bE] at C;obtain ⟨d208,dv,rfl,dC,dE,-⟩:=id o.e;obtain ⟨d215,dT,rfl,ea,eb,-⟩:=id o.p;obtain ⟨d222,ec,rfl,ed,eh,-⟩:=id o.y;obtain ⟨d229,et,rfl,ev,eQ,-⟩:=id o.t;apply aP;apply ag _;refine b9 ?_;exact ⟨_,(F).trans G,Le.sub (List.nil_sublist _),_,_,_,_,rfl,o⟩
 revert h;refine bS fun bc bd h=>?_;apply ag _;refine az fun q T U=>?_;have eS:=bh.cons U ar;try simp only[av] at U
 apply ag _;refine ew hJ (bu:=[]) [(q,.cells #[.int .i64 a.bA,.bool a.bJ] 86),(j,bz 29),(i,.cells #[.int .i64 a.bA,.bool a.bJ] 86),(g,bk u0 s1 c d f)] [] _ (xA u0.told b.t bd) (fun e0 bj V m n bl=>?_);simp only[bn] at n;subst m;obtain ⟨e1,e3,rfl,fa⟩:=V.len;refine ⟨⟨ro,(q,.cells #[.int .i64 a.bA,.bool a.bJ] 86)::(j,bz 29)::(i,.cells #[.int .i64 a.bA,.bool a.bJ] 86)::(g,bk u0 s1 c d f)::bj⟩,Le.refl _,?_⟩;refine ⟨aM,cj ?_⟩;revert h;refine bS fun W bm h=>?_;obtain ⟨bo,X⟩:=dg bm;apply ag _;refine dP (r:=dL) (l:=bc) (x:=a) (cs:=#[.int .i64 a.bA,.bool a.bJ]) (e2:=86) [(q,.cells #[.int .i64 a.bA,.bool a.bJ] 86),(j,bz 29),(i,.cells #[.int .i64 a.bA,.bool a.bJ] 86),(g,bk u0 s1 c d f)] [] V bl bo rfl aM T rfl rfl eV eV iS iU rfl iT aB aB (fun fb br I m n fg=>?_);simp only[bn] at n;subst m;rw[<-X] at I;clear X;obtain ⟨bs,b0,rfl,fi⟩:=I.len;refine ⟨⟨ro,(q,.cells #[.int .i64 a.bA,.bool a.bJ] 86)::(j,bz 29)::(i,.cells #[.int .i64 a.bA,.bool a.bJ] 86)::(g,bk u0 s1 c d f)::br⟩,Le.refl _,?_⟩;refine ⟨aM,cj ?_⟩;apply ag _;apply ah hJ;refine aD hJ fun Y=>?_;obtain ⟨fp,K,b1,Z,b2⟩:=I.eL [(q,.cells #[.int .i64 a.bA,.bool a.bJ] 86),(j,bz 29),(i,.cells #[.int .i64 a.bA,.bool a.bJ] 86),(g,bk u0 s1 c d (sl bs W b0))] [] Y (aJ.cons T (aJ.cons z (aJ.cons w (aJ.cons u (aJ.nil _)))));clear Y;refine cH hJ b2 ?_;obtain ⟨fr,fs,-⟩:=Z.op;replace b:=b.mono K;replace k:=k.mono K;simp only[bE] at b1;apply aR hJ;revert h;refine bS fun ft b3 h=>?_;cases h;apply ag _;refine cm hJ _ (yd k (⟨u0.bZ,u0.b6,u0.bw,u0.aK,u0.props,u0.aH,W⟩:an) ⟨b.e,b.p,b.y,Z⟩ b3) fun v fu b4 b5 H=>?_;obtain ⟨fv,fw,fx,fz,rfl,s⟩:=H;simp only[bE] at b5;obtain ⟨gg,gl,rfl,gn,gp,-⟩:=id s.e;obtain ⟨gB,gC,rfl,gM,gT,-⟩:=id s.p;obtain ⟨gV,g0,rfl,g1,g2,-⟩:=id s.y;obtain ⟨g3,g4,rfl,ha,hc,-⟩:=id s.t;apply aP;apply ag _;refine b9 ?_;exact ⟨_,(K).trans b4,Le.sub (List.nil_sublist _),_,_,_,_,rfl,s⟩
def yo (u0:an)(c:Int)(a:dI):Option (an×Int):=
 ai (fo u0 ([(e9 c)])) fun e=>cond ((e.2 != 0)) (some ((⟨0,0,(⟨0,0⟩:au),([]:(List cx)),([]:(List cK)),([]:(List cu)),([]:(List cn))⟩:an),e.2)) (ai (q3 a 0 60) fun g=>cond (!g) (some ((⟨0,0,(⟨0,0⟩:au),([]:(List cx)),([]:(List cK)),([]:(List cu)),([]:(List cn))⟩:an),1)) (ai (ug u0.aH) fun d=>ai (bt d c) fun b=>cond (decide ((if a.high<b.high.high then a.high else b.high.high)<(if b.high.low<a.low then a.low else b.high.low))) (some ((⟨0,0,(⟨0,0⟩:au),([]:(List cx)),([]:(List cK)),([]:(List cu)),([]:(List cn))⟩:an),9)) (ai (bt d c) fun h=>ai (uD (⟨u0.bZ,u0.b6,u0.bw,u0.aK,u0.props,(d.set (c).toNat (⟨h.back,(⟨(if b.high.low<a.low then a.low else b.high.low),(if a.high<b.high.high then a.high else b.high.high)⟩:dI)⟩:cu)),u0.told⟩:an)) fun f=>some (f.1,f.2))))
theorem Ci {ro:Addr->Option Value}(g:dM ro)(u0:an){s1 k q l:Value}(f:bO ro u0 s1 k q l)(d:Int)(a:dI){r:(an×Int)}(h:yo u0 d a=some r):eJ Tryz.prog 50 #[bv u0 s1 k q l,.int .i64 d,.agg #[.int .i64 a.low,.int .i64 a.high]] ro (fun v aW=>∃U w1 w2 w3,v= .tuple #[bv r.1 U w1 w2 w3,.int .i64 r.2]/\bO aW r.1 U w1 w2 w3):=by
 unfold yo at h;have ba:=f.oc;simp only[bV] at ba;refine aE.go Tryz.func50 rfl Tryz.ntmps50 Tryz.results50 ax fun main J hJ A bb hd hs=>?_;have bc:=hs 0;have k1:=hs 1;have bd:=hs 2;clear hs;apply ay hJ _;refine az fun w z bj=>?_;try simp only[av] at bj
 refine az fun B C bm=>?_;try simp only[av] at bm
 refine az fun D E bo=>?_;try simp only[av] at bo
 refine ah hJ (ah hJ ?_);refine aD hJ fun br=>?_;apply aR hJ;revert h;refine bS fun K bs h=>?_;apply ag _;refine az fun s V W=>?_;have X:=bh.cons W br;try simp only[av] at W
 obtain ⟨j,u,Y⟩:=fG (b:=s) (o:=(.cells #[.func (.func 86) #[.int .i64 d] #[]] 116)) [] ((D,bz 29)::(B,.cells #[.int .i64 a.low,.int .i64 a.high] 64)::(w,bk u0 s1 k q l)::[]) X V (aJ.cons E (aJ.cons C (aJ.cons z (aJ.nil _))));have Z:aI (dx) (b7 ro s (.cells #[.func (.func 86) #[.int .i64 d] #[]] 116)) (.slice (some ⟨s,0,none⟩) 1 1) [(e9 d)]:=(aI.one (r:=(dx)) (e:=116) (cs:=#[.func (.func 86) #[.int .i64 d] #[]]) (x:=(e9 d)) (own:=[(s,.cells #[.func (.func 86) #[.int .i64 d] #[]] 116)]) V (by simp[lk]) ⟨86,#[.int .i64 d],#[],rfl,⟨by simp only[go_sem],fun fb fg b0 _ _ _ _ _ b1 b2 b3 b4 h=>by simp only[go_sem];exact tL d b0 ⟨b1,b2,b3,b4⟩ h⟩⟩)
 generalize b7 ro s (.cells #[.func (.func 86) #[.int .i64 d] #[]] 116)=fi at Z u j Y;refine ie hJ Y ?_;replace f:=f.mono j;replace E:=u.hd;replace C:=u.tl.hd;replace z:=u.tl.tl.hd;replace g:=g.mono j;simp only[bE] at u;have b5:=bh.tl X;refine cm hJ _ (ki g u0 f ([(e9 d)]) Z bs) fun v ab m F L=>?_;obtain ⟨M,N,O,P,rfl,ca⟩:=L;have cb:=ca.oc;simp only[bV] at cb;replace f:=f.mono m;replace E:=F.hd;replace C:=F.tl.hd;replace z:=F.tl.tl.hd;replace g:=g.mono m;simp only[bE] at F;apply aP;apply ag _;refine az fun Q cd ad=>?_;have fp:=bh.cons ad b5;try simp only[av] at ad
 apply ay hJ _;revert h;refine aT hJ (fun cf h=>?_) fun cf h=>?_
 .cases h;apply ay hJ _;refine b9 ?_;exact ⟨_,(j).trans m,Le.sub (List.nil_sublist _),_,_,_,_,rfl,⟨aI.nil _ _,aI.nil _ _,aI.nil _ _,aI.nil _ _⟩⟩
 refine aO hJ (ah hJ ?_);apply aC hJ;revert h;refine bS fun fr cl h=>?_;apply ag _;refine bf hJ _ (BY a 0 60 cl) (aP ?_);apply ag _;revert h;refine aT hJ (fun cy h=>?_) fun cy h=>?_
 .cases h;apply ay hJ _;refine b9 ?_;exact ⟨_,(j).trans m,Le.sub (List.nil_sublist _),_,_,_,_,rfl,⟨aI.nil _ _,aI.nil _ _,aI.nil _ _,aI.nil _ _⟩⟩
 refine aO hJ (ah hJ ?_);refine aD hJ fun fs=>?_;apply aR hJ;revert h;refine bS fun G cS h=>?_;apply ag _;refine ew hJ (bu:=[]) [(Q,bl K.1 M N O P),(D,bz 29),(B,.cells #[.int .i64 a.low,.int .i64 a.high] 64),(w,bk u0 s1 k q l)] [] _ (B7 u0.aH f.y cS) (fun ft c0 H da db fu=>?_);simp only[bn] at db;subst da;obtain ⟨d87,ae,rfl,fv⟩:=H.len;refine ⟨⟨ab,(Q,bl K.1 M N O P)::(D,bz 29)::(B,.cells #[.int .i64 a.low,.int .i64 a.high] 64)::(w,bk u0 s1 k q l)::c0⟩,Le.refl _,?_⟩;apply aP;apply ag _;apply ah hJ;refine aD hJ fun al=>?_;apply aR hJ;revert h;refine bS fun c dd h=>?_;obtain ⟨fw,fx,df⟩:=cv dd;obtain ⟨R,dk,dp,rfl,rfl,fz,dq,S⟩:=H.BI df;obtain rfl:dp=c.cells:=dq;have ds:=al.nd;simp only[keys,List.map_cons,List.map_nil,List.map_append,List.cons_append,List.nil_append,List.nodup_cons,List.mem_cons,List.mem_append,List.not_mem_nil,or_false,not_or] at ds;have ao:=S 0 _ rfl;simp only[go_sem] at ao;have gg:=(Array.getElem?_eq_some_iff.1 ao).1;have ar:=S 1 _ rfl;simp only[go_sem] at ar;have gl:=(Array.getElem?_eq_some_iff.1 ar).1;have a0:=S 2 _ rfl;simp only[go_sem] at a0;have gn:=(Array.getElem?_eq_some_iff.1 a0).1;apply ag _;refine az fun dt du a2=>?_;have gp:=bh.cons a2 al;try simp only[av] at a2
 apply ah hJ;refine e8 [1,3,5,6,7,10] fun gB dv dC dE=>?_;simp only[*,go_sem] at dv dC dE;clear bb hd bc k1 bd;refine aD hJ fun dT=>?_;apply aF hJ _;refine az fun ea eb a3=>?_;have gC:=bh.cons a3 dT;try simp only[av] at a3
 refine ah hJ (ah hJ ?_);refine aD hJ fun gM=>?_;apply aF hJ _;revert h;refine aT hJ (fun ec h=>?_) fun ec h=>?_
 .cases h;apply ah hJ;refine aD hJ fun gT=>?_;apply aF hJ _;refine b9 ?_;exact ⟨_,(j).trans m,Le.sub (List.nil_sublist _),_,_,_,_,rfl,⟨aI.nil _ _,aI.nil _ _,aI.nil _ _,aI.nil _ _⟩⟩
 refine aO hJ (ah hJ ?_);refine aD hJ fun gV=>?_;apply aR hJ;revert h;refine bS fun i ed h=>?_;obtain ⟨g0,g1,a4⟩:=cv ed;obtain ⟨eh,et,I⟩:=H.jD a4;obtain rfl:eh=i.cells:=et;have a5:=I 0 _ rfl;simp only[go_sem] at a5;have g2:=(Array.getElem?_eq_some_iff.1 a5).1;have a6:=I 1 _ rfl;simp only[go_sem] at a6;have g3:=(Array.getElem?_eq_some_iff.1 a6).1;have a7:=I 2 _ rfl;simp only[go_sem] at a7;have g4:=(Array.getElem?_eq_some_iff.1 a7).1;have ev:bg fq ab 66 (.slice (some ⟨R,0,none⟩) G.length ae) (G.set (d).toNat (⟨i.back,(⟨(if c.high.low<a.low then a.low else c.high.low),(if a.high<c.high.high then a.high else c.high.high)⟩:dI)⟩:cu)) [(R,Obj.cells (cY dk ((d).toNat*3+1) [.int .i64 (if c.high.low<a.low then a.low else c.high.low),.int .i64 (if a.high<c.high.high then a.high else c.high.high)]) 66)]:=by have eQ:=H.part (y:=(⟨i.back,(⟨(if c.high.low<a.low then a.low else c.high.low),(if a.high<c.high.high then a.high else c.high.high)⟩:dI)⟩:cu)) a4 1 [.int .i64 (if c.high.low<a.low then a.low else c.high.low),.int .i64 (if a.high<c.high.high then a.high else c.high.high)] [.int .i64 i.back,.int .i64 i.high.low,.int .i64 i.high.high] [.int .i64 i.back,.int .i64 (if c.high.low<a.low then a.low else c.high.low),.int .i64 (if a.high<c.high.high then a.high else c.high.high)] I rfl rfl ax rfl;exact eQ
 apply ag _;apply ah hJ;refine aD hJ fun a8=>?_;obtain ⟨ha,T,eS,a9,e0⟩:=ev.eL [(ea,.cells #[.int .i64 (if c.high.low<a.low then a.low else c.high.low),.int .i64 (if a.high<c.high.high then a.high else c.high.high)] 64),(dt,.cells #[.int .i64 c.high.low,.int .i64 c.high.high] 64),(Q,bl K.1 M N O P),(D,bz 29),(B,.cells #[.int .i64 a.low,.int .i64 a.high] 64),(w,bk u0 s1 k (sl (some ⟨R,0,none⟩) G ae) l)] [] a8 (aJ.cons eb (aJ.cons du (aJ.cons cd (aJ.cons E (aJ.cons C (aJ.cons z (aJ.nil _)))))));clear a8;refine cH hJ e0 ?_;obtain ⟨hc,hf,-⟩:=a9.op;replace f:=f.mono T;replace g:=g.mono T;simp only[bE] at eS;apply aR hJ;revert h;refine bS fun hg e1 h=>?_;cases h;apply ag _;refine cm hJ _ (yd g (⟨u0.bZ,u0.b6,u0.bw,u0.aK,u0.props,(G.set (d).toNat (⟨i.back,(⟨(if c.high.low<a.low then a.low else c.high.low),(if a.high<c.high.high then a.high else c.high.high)⟩:dI)⟩:cu)),u0.told⟩:an) ⟨f.e,f.p,a9,f.t⟩ e1) fun v hh e2 e3 L=>?_;obtain ⟨hi,hj,hk,hl,rfl,n⟩:=L;have fa:=n.oc;simp only[bV] at fa;simp only[bE] at e3;obtain ⟨d130,hn,rfl,ho,hp,-⟩:=id n.e;obtain ⟨d137,hq,rfl,hr,ht,-⟩:=id n.p;obtain ⟨d144,hv,rfl,hx,hy,-⟩:=id n.y;obtain ⟨d151,hz,rfl,hA,hB,-⟩:=id n.t;apply aP;apply ag _;refine b9 ?_;exact ⟨_,(((j).trans m).trans T).trans e2,Le.sub (List.nil_sublist _),_,_,_,_,rfl,n⟩
end Go.Proofs.YtbpddfapodiemaaGreatDoor
end

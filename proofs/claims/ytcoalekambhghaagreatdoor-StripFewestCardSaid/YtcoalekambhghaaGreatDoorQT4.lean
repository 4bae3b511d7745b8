/- A part of the proof: QT4. -/
import Derived.Test.YtcoalekambhghaaGreatDoorQT3
set_option linter.all false
section
namespace Go.Proofs.YtcoalekambhghaaGreatDoor
open Go Go.Sep Go.Proofs
set_option maxRecDepth 100000
set_option maxHeartbeats 4000000
def dh (ro:Addr->Option Value):Prop:=
 ro ⟨0,0,none⟩=some (.func (.func 216) #[] #[])/\ro ⟨0,1,none⟩=some (.func (.func 217) #[] #[])/\ro ⟨0,2,none⟩=some (.func (.func 218) #[] #[])
theorem dh.mono {ro aK:Addr->Option Value}(h:dh ro)(a:Ext ro aK):dh aK:=by
 obtain ⟨b,c,d⟩:=h;exact ⟨a _ _ b,a _ _ c,a _ _ d⟩
def qj (_:aL):Option Int:=some 0
def ql (b:aL):Option Int:=ax (lV b) fun x=>cond (x != 0) (some x) (qj b)
def qm (b:aL):Option Int:=ax (lW b) fun x=>cond (x != 0) (some x) (ql b)
def tF (b:aL):Option Int:=ax (nW b) fun x=>cond (x != 0) (some x) (qm b)
def fN (b:aL):Option Int:=tF b
def qn:Nat->aL->Option Int
 |0=>tF|1=>qm|2=>ql|_=>qj
theorem jm {ro:Addr->Option Value}(f:dh ro)(u0:aL){s1:Value}(d:aI bK ro s1 u0.aj){r:Int}(h:fN u0=some r):
  aF Tryz.prog 15 #[.agg #[.int .i64 u0.steps,.int .i64 u0.au,s1]] ⟨ro,[]⟩ (fun v _=>v= .int .i64 r):=by
 obtain ⟨k,l,n⟩:=f
 have g:=d.oc;simp only[eX] at g
 replace h:qn 0 u0=some r:=h
 refine aF.go Tryz.func15 rfl Tryz.ntmps15 Tryz.results15 aB fun main J hJ A j hd hs=>?_
 have o:=hs 0
 clear hs
 first|refine ah hJ ?_|refine bV hJ ?_|refine af hJ (bV hJ ?_)|refine af hJ (af hJ (bV hJ ?_))
 apply bt _
 intro b f1;have r1:=aV f1;have n1:=aW f1;simp only[aQ] at n1
 first|refine ah hJ ?_|refine bV hJ ?_|refine af hJ (bV hJ ?_)|refine af hJ (af hJ (bV hJ ?_))
 apply bt _
 first|refine aY hJ (sE hJ (fun m a F=>∃i:Nat,F=⟨ro,[(b,.cells #[.int .i64 u0.steps,.int .i64 u0.au,s1] 24)]⟩/\m=3 - i/\sz a=18/\a.defers=[]/\slot a 1= .pointer (some ⟨b,0,none⟩)/\slot a 6= .agg #[.func (.func 216) #[] #[],.func (.func 217) #[] #[],.func (.func 218) #[] #[]]/\slot a 7= .int .i64 (i:Int)/\i<=3/\qn i u0=some r) (3) ?_ ?_)|refine af hJ (aY hJ (sE hJ (fun m a F=>∃i:Nat,F=⟨ro,[(b,.cells #[.int .i64 u0.steps,.int .i64 u0.au,s1] 24)]⟩/\m=3 - i/\sz a=18/\a.defers=[]/\slot a 1= .pointer (some ⟨b,0,none⟩)/\slot a 6= .agg #[.func (.func 216) #[] #[],.func (.func 217) #[] #[],.func (.func 218) #[] #[]]/\slot a 7= .int .i64 (i:Int)/\i<=3/\qn i u0=some r) (3) ?_ ?_))|refine af hJ (af hJ (aY hJ (sE hJ (fun m a F=>∃i:Nat,F=⟨ro,[(b,.cells #[.int .i64 u0.steps,.int .i64 u0.au,s1] 24)]⟩/\m=3 - i/\sz a=18/\a.defers=[]/\slot a 1= .pointer (some ⟨b,0,none⟩)/\slot a 6= .agg #[.func (.func 216) #[] #[],.func (.func 217) #[] #[],.func (.func 218) #[] #[]]/\slot a 7= .int .i64 (i:Int)/\i<=3/\qn i u0=some r) (3) ?_ ?_)))
 .refine ⟨0,rfl,rfl,?_⟩
  apply aa _
  first|exact ⟨Nat.zero_le _,h⟩|exact h
 .clear h
  rintro m a F ⟨i,rfl,rfl,j,hd,p,s,t,hi,h⟩
  rcases i with _|_|_|i
  .replace h:ax (nW u0) (fun x=>cond (x != 0) (some x) (qm u0))=some r:=h
   have h':=an h;clear h;obtain ⟨x,q,h⟩:=h'
   have e:((0:Nat):Int)=0:=rfl
   first|refine ah hJ ?_|refine bV hJ ?_|refine af hJ (bV hJ ?_)|refine af hJ (af hJ (bV hJ ?_))
   apply aa _
   apply af hJ
   refine aN hJ ak ?_
   apply aR hJ
   refine af hJ (aY hJ ?_)
   first|refine ah hJ ?_|refine bV hJ ?_|refine af hJ (bV hJ ?_)|refine af hJ (af hJ (bV hJ ?_))
   apply aa _
   first|refine ah hJ ?_|refine bV hJ ?_|refine af hJ (bV hJ ?_)|refine af hJ (af hJ (bV hJ ?_))
   apply aa _
   refine bp hJ _ (DX u0 (d.mono aZ) q) (aS ?_)
   apply aa _
   first|refine ah hJ ?_|refine bV hJ ?_|refine af hJ (bV hJ ?_)|refine af hJ (af hJ (bV hJ ?_))
   apply aa _
   have h':=aD h;clear h;rcases h' with ⟨c,h⟩|⟨c,h⟩
   .refine aN hJ ak ?_
    first|refine ah hJ ?_|refine bV hJ ?_|refine af hJ (bV hJ ?_)|refine af hJ (af hJ (bV hJ ?_))
    apply aa _
    have h':=Option.some.inj h;clear h;subst h'
    apply aG
    simp only[*,go_sem]
   .refine aM hJ ak ?_
    apply aR hJ
    apply ah hJ
    apply aa _
    refine ⟨3 - 1,ai,_,Le.refl _,1,rfl,rfl,?_⟩
    have hw:IntKind.i64.wrap (0+1)=((1:Nat):Int):=av
    apply aa _
    first|exact ⟨ai,h⟩|exact h
  .replace h:ax (lW u0) (fun x=>cond (x != 0) (some x) (ql u0))=some r:=h
   have h':=an h;clear h;obtain ⟨x,q,h⟩:=h'
   have e:((0+1:Nat):Int)=1:=rfl
   first|refine ah hJ ?_|refine bV hJ ?_|refine af hJ (bV hJ ?_)|refine af hJ (af hJ (bV hJ ?_))
   apply aa _
   apply af hJ
   refine aN hJ ak ?_
   apply aR hJ
   refine af hJ (aY hJ ?_)
   first|refine ah hJ ?_|refine bV hJ ?_|refine af hJ (bV hJ ?_)|refine af hJ (af hJ (bV hJ ?_))
   apply aa _
   first|refine ah hJ ?_|refine bV hJ ?_|refine af hJ (bV hJ ?_)|refine af hJ (af hJ (bV hJ ?_))
   apply aa _
   refine bp hJ _ (D2 u0 (d.mono aZ) q) (aS ?_)
   apply aa _
   first|refine ah hJ ?_|refine bV hJ ?_|refine af hJ (bV hJ ?_)|refine af hJ (af hJ (bV hJ ?_))
   apply aa _
   have h':=aD h;clear h;rcases h' with ⟨c,h⟩|⟨c,h⟩
   .refine aN hJ ak ?_
    first|refine ah hJ ?_|refine bV hJ ?_|refine af hJ (bV hJ ?_)|refine af hJ (af hJ (bV hJ ?_))
    apply aa _
    have h':=Option.some.inj h;clear h;subst h'
    apply aG
    simp only[*,go_sem]
   .refine aM hJ ak ?_
    apply aR hJ
    apply ah hJ
    apply aa _
    refine ⟨3 - 2,ai,_,Le.refl _,2,rfl,rfl,?_⟩
    have hw:IntKind.i64.wrap (1+1)=((2:Nat):Int):=av
    apply aa _
    first|exact ⟨ai,h⟩|exact h
  .replace h:ax (lV u0) (fun x=>cond (x != 0) (some x) (qj u0))=some r:=h
   have h':=an h;clear h;obtain ⟨x,q,h⟩:=h'
   have e:((0+1+1:Nat):Int)=2:=rfl
   first|refine ah hJ ?_|refine bV hJ ?_|refine af hJ (bV hJ ?_)|refine af hJ (af hJ (bV hJ ?_))
   apply aa _
   apply af hJ
   refine aN hJ ak ?_
   apply aR hJ
   refine af hJ (aY hJ ?_)
   first|refine ah hJ ?_|refine bV hJ ?_|refine af hJ (bV hJ ?_)|refine af hJ (af hJ (bV hJ ?_))
   apply aa _
   first|refine ah hJ ?_|refine bV hJ ?_|refine af hJ (bV hJ ?_)|refine af hJ (af hJ (bV hJ ?_))
   apply aa _
   refine bp hJ _ (D1 u0 (d.mono aZ) q) (aS ?_)
   apply aa _
   first|refine ah hJ ?_|refine bV hJ ?_|refine af hJ (bV hJ ?_)|refine af hJ (af hJ (bV hJ ?_))
   apply aa _
   have h':=aD h;clear h;rcases h' with ⟨c,h⟩|⟨c,h⟩
   .refine aN hJ ak ?_
    first|refine ah hJ ?_|refine bV hJ ?_|refine af hJ (bV hJ ?_)|refine af hJ (af hJ (bV hJ ?_))
    apply aa _
    have h':=Option.some.inj h;clear h;subst h'
    apply aG
    simp only[*,go_sem]
   .refine aM hJ ak ?_
    apply aR hJ
    apply ah hJ
    apply aa _
    refine ⟨3 - 3,ai,_,Le.refl _,3,rfl,rfl,?_⟩
    have hw:IntKind.i64.wrap (2+1)=((3:Nat):Int):=av
    apply aa _
    first|exact ⟨ai,h⟩|exact h
  .have:i=0:=ai
   subst this
   replace h:some 0=some r:=h
   have e:((0+1+1+1:Nat):Int)=3:=rfl
   first|refine ah hJ ?_|refine bV hJ ?_|refine af hJ (bV hJ ?_)|refine af hJ (af hJ (bV hJ ?_))
   apply aa _
   apply af hJ
   refine aM hJ ak ?_
   apply bI
   simp only[go_sem]
   first|refine ah hJ ?_|refine bV hJ ?_|refine af hJ (bV hJ ?_)|refine af hJ (af hJ (bV hJ ?_))
   apply aa _
   have h':=Option.some.inj h;clear h;subst h'
   apply aG
   simp only[*,go_sem]
end Go.Proofs.YtcoalekambhghaaGreatDoor
end
section
namespace Go.Sep
open Go Go.Conc
theorem qo {H σ:Type}{step:σ->H->Option (Bool×σ)}{l l':List (Option H)}{s s':σ}{c:Bool}(h:de step (l++l') s=some (c,s')):
  (∃s1,de step l s=some (true,s1)/\de step l' s1=some (c,s'))\/(de step l s=some (false,s')/\c=false):=by
 rw[yB] at h
 split at h
 .rename_i s1 a;exact .inl ⟨s1,a,h⟩
 .rename_i s1 a;simp only[Option.some.injEq,Prod.mk.injEq] at h;obtain ⟨rfl,rfl⟩:=h;exact .inr ⟨a,rfl⟩
 .cases h
theorem jO {H σ:Type}{step:σ->H->Option (Bool×σ)}{s:σ}{r:Bool×σ}(h:de step [none] s=some r):False:=by cases h
end Go.Sep
end
section
namespace Go.Proofs.YtcoalekambhghaaGreatDoor
open Go Go.Sep Go.Proofs
set_option maxRecDepth 100000
set_option maxHeartbeats 4000000
def bl.setAt (x:bl)(i n:Int):Option bl:=if i=0 then some {x with e0:=n} else if i=1 then some {x with e1:=n} else if i=2 then some {x with e2:=n} else if i=3 then some {x with e3:=n} else none
def dG (f:bw->List (Option bw))(i hi:Int):Nat->bw->List (Option bw)×bw
 |0,v=>([none],v)
 |k+1,v=>match v.aA.get i with
  |none=>([none],v)
  |some n=>if n<=hi then match v.aA.setAt i (IntKind.i64.wrap (n+1)) with
    |none=>([none],v)
    |some x=>(f v++(dG f i hi k {v with aA:=x}).1,(dG f i hi k {v with aA:=x}).2)
   else ([],v)
def fo (f:bw->List (Option bw))(i hi b a:Int):Nat->bw->List (Option bw)
 |0,_=>[none]
 |k+1,v=>match v.az.get i with
  |none=>[none]
  |some n=>if n<=hi then match v.aA.setAt i b with
    |none=>[none]
    |some x=>(dG f i a 200 {v with aA:=x}).1++match (dG f i a 200 {v with aA:=x}).2.az.setAt i (IntKind.i64.wrap (n+1)) with
     |none=>[none]
     |some y=>fo f i hi b a k {(dG f i a 200 {v with aA:=x}).2 with az:=y}
   else []
def dK (b:aL):Nat->Int->bw->List (Option bw)
 |0,_,_=>[none]
 |fuel+1,i,v=>if i=b.aj.length then (match g9 b v with
   |some true=>[some v]
   |some false=>[]
   |none=>[none])
  else match bM b.aj i with
   |none=>[none]
   |some e=>match v.az.setAt i e.from_.low with
    |none=>[none]
    |some x=>fo (dK b fuel (IntKind.i64.wrap (i+1))) i e.from_.high e.aC.low e.aC.high 200 {v with az:=x}
def n7 (b:aL)(bits:Int):List (Option bw):=dK b 6 0 ⟨⟨0,0,0,0⟩,⟨0,0,0,0⟩,bits⟩
def n8 (b:aL)(bits:Int):Option (List (Option bw)):=some (n7 b bits)
section
variable {ro:Addr->Option Value}{σ:Type}{step:σ->bw->Option (Bool×σ)}{I:σ->List (Nat×Obj)->Prop}{y:Value}
def cn (y:Value)(b2 b3 b4:Nat):List (Nat×Obj):=
 [(b4,.cells #[.func (.func 140) #[] #[.pointer (some ⟨b2,0,none⟩),.pointer (some ⟨b3,0,none⟩),.pointer (some ⟨b4,0,none⟩)]] 112),(b3,.cells #[y] 97)]
theorem bl.yY {x z:bl}{i n:Int}(h:x.setAt i n=some z):i=0\/i=1\/i=2\/i=3:=by
 unfold bl.setAt at h;split at h
 .exact .inl ‹_›
 .split at h
  .exact .inr (.inl ‹_›)
  .split at h
   .exact .inr (.inr (.inl ‹_›))
   .split at h
    .exact .inr (.inr (.inr ‹_›))
    .cases h
theorem D3 (u0:aL){s2:Value}(b1:aI bK ro s2 u0.aj)(cy:sZ Tryz.prog y bw.v step ro I)
  {b2 b3 b4:Nat} (dk:ro ⟨b2,0,none⟩=some (.int .i64 u0.steps)) (dp:ro ⟨b2,1,none⟩=some (.int .i64 u0.au)) (dq:ro ⟨b2,2,none⟩=some s2) (n1:¬b4=b3) (ds:∀off sp,ro ⟨b4,off,sp⟩=none) (dt:∀off sp,ro ⟨b3,off,sp⟩=none):
  ∀(fuel:Nat) (i:Int) (v:bw) (s:σ) (c:Bool) (s':σ),de step (dK u0 fuel i v) s=some (c,s')->∀(main:Bool) (J:Goroutine->ag->Prop),Closed Tryz.prog main J->∀own,I s own->
   c8 Tryz.prog J 140 #[v.v,.int .i64 i,.pointer (some ⟨b2,0,none⟩),.pointer (some ⟨b3,0,none⟩),.pointer (some ⟨b4,0,none⟩)] ⟨ro,cn y b2 b3 b4++own⟩
    (fun r F'=>∃d,Le ⟨ro,cn y b2 b3 b4++d⟩ F'/\r= .bool c/\I s' d):=by
 intro fuel
 induction fuel with
 |zero=>intro i v s c s' h;exact (jO h).elim
 |succ fuel ih=>
  intro i v s c s' h main J hJ own al
  obtain ⟨du,dv,rfl,dC,dE,e1⟩:=id b1
  refine c8.go hJ Tryz.func140 rfl Tryz.ntmps140 Tryz.results140 aB fun A bc hd hs=>?_
  have bd:=hs 0
  have k1:=hs 1
  have bj:=hs 2
  have bk:=hs 3
  have bm:=hs 4
  clear hs
  have dT:(0:Int)<((4:Nat):Int):=av
  have ea:(1:Int)<((4:Nat):Int):=av
  have eb:(2:Int)<((4:Nat):Int):=av
  have ec:(3:Int)<((4:Nat):Int):=av
  unfold dK at h
  repeat refine af hJ ?_
  refine ah hJ ?_
  simp only[cn,go_sem, *,-h]
  intro k f5;have ed:=aV f5;have c0:=aW f5
  simp only[List.cons_append,List.nil_append,aQ] at c0
  try apply aa _
  repeat refine af hJ ?_
  refine ah hJ ?_
  apply aa _
  repeat refine af hJ ?_
  by_cases hi:i=(u0.aj.length:Int)
  .rw[if_pos hi] at h
   refine aN hJ ak ?_
   repeat refine af hJ ?_
   refine aJ hJ fun nd=>?_
   refine ah hJ ?_
   apply aa _
   cases ao:g9 u0 v with
   |none=>rw[ao] at h;exact (jO h).elim
   |some r=>
    rw[ao] at h
    refine bp hJ _ (yX u0 (b1.mono aZ) v ao) (aS ?_)
    cases r with
    |false=>
     cases h
     apply bt _
     repeat refine af hJ ?_
     refine aG ?_
     apply bt _
     exact ⟨own,Le.sub (List.sublist_cons_self _ _),al⟩
    |true=>
     have da:step s v=some (c,s'):=by
      simp only[de] at h
      split at h<;>first|(cases h;assumption)|cases h
     apply aa _
     refine C3 hJ ((k,.cells #[.int .i64 v.az.e0,.int .i64 v.az.e1,.int .i64 v.az.e2,.int .i64 v.az.e3,.int .i64 v.aA.e0,.int .i64 v.aA.e1,.int .i64 v.aA.e2,.int .i64 v.aA.e3,.int .u64 v.au] 84)::cn y b2 b3 b4) (fun m u B=>cy s v c s' da m u B own al) nd ?_
     rintro w d ⟨rfl,C⟩ eh
     refine aS ?_
     apply aa _
     repeat refine af hJ ?_
     refine aG ?_
     apply aa _
     exact ⟨d,Le.sub (List.sublist_cons_self _ _),C⟩
  .rw[if_neg hi] at h
   have et:(i==(u0.aj.length:Int))=false:=by simpa using hi
   refine aM hJ ak ?_
   refine aR hJ ?_
   cases ao:bM u0.aj i with
   |none=>rw[ao] at h;exact (jO h).elim
   |some e=>
    rw[ao] at h
    simp only at h
    have ev:=ao
    obtain ⟨eQ,eS,ca⟩:=dc ao
    obtain ⟨fa,cse,db,dd,ar⟩:=e1 _ _ ca
    obtain ⟨sm,rfl,lm⟩:=dd
    obtain ⟨l,p,rfl,fb,fc,em⟩:=id lm
    cases db
    have cb:=ar 0 _ rfl;simp only[go_sem] at cb
    have cc:=ar 1 _ rfl;simp only[go_sem] at cc
    have m2:=ar 2 _ rfl;simp only[go_sem] at m2
    have cd:=ar 3 _ rfl;simp only[go_sem] at cd
    have cf:=ar 4 _ rfl;simp only[go_sem] at cf
    have ck:=ar 5 _ rfl;simp only[go_sem] at ck
    have cl:=ar 6 _ rfl;simp only[go_sem] at cl
    clear ar ca
    repeat refine af hJ ?_
    refine ah hJ ?_
    apply aa _
    intro q f8;have fg:=aV f8;have df:=aW f8
    simp only[aQ] at df
    try apply aa _
    clear cb cc m2 cd cf ck cl
    cases V:v.az.setAt i e.from_.low with
    |none=>rw[V] at h;exact (jO h).elim
    |some x=>
     rw[V] at h
     simp only at h
     rcases bl.yY V with rfl|rfl|rfl|rfl
     .simp[bl.setAt] at V
      subst V
      repeat refine af hJ ?_
      refine ah hJ ?_
      apply aa _
      repeat refine af hJ ?_
      refine aY hJ ?_
      refine bO hJ [7,36,37,38,39,40,41,42,43,44,45,46,47,48,49,50,51,52,53,54,55,56,57,58,59,60,61,62,63,64,65,66,67,68,69,70,71,72,73,74,75,76,77] (fun m a0 F'=>∃(v1:bw) (s1:σ) (t:List (Nat×Obj)),de step (fo (dK u0 fuel (IntKind.i64.wrap (0+1))) 0 e.from_.high e.aC.low e.aC.high m v1) s1=some (c,s')/\F'=⟨ro,(q,.cells #[.string ⟨⟨e.name⟩⟩,.int .i64 e.from_.low,.int .i64 e.from_.high,.int .i64 e.wide,.int .i64 e.aC.low,.int .i64 e.aC.high,.slice l e.marks.length p] 56)::(k,.cells #[.int .i64 v1.az.e0,.int .i64 v1.az.e1,.int .i64 v1.az.e2,.int .i64 v1.az.e3,.int .i64 v1.aA.e0,.int .i64 v1.aA.e1,.int .i64 v1.aA.e2,.int .i64 v1.aA.e3,.int .u64 v1.au] 84)::(cn y b2 b3 b4++t)⟩/\I s1 t) 200 ?_ ?_
      .exact ⟨_,s,own,h,by first|rfl|simp only[cn,List.cons_append,List.nil_append],al⟩
      .rintro m D F' g ⟨v1,s1,t,a,rfl,E⟩
       clear h al
       have a2:sz D=78:=by rw[g.size];simp only[*,go_sem]
       have a3:D.defers=[]:=by rw[g.defers];simp only[*,go_sem]
       have W:=g.ay 1 av
       have X:=g.ay 2 av
       have Y:=g.ay 3 av
       have Z:=g.ay 4 av
       have ab:=g.ay 5 av
       have ad:=g.ay 8 av
       simp only[*,go_sem] at W X Y Z ab ad
       clear g bd k1 bj bk bm bc hd
       obtain _|m:=m
       .exact (jO a).elim
       unfold fo at a
       obtain ⟨n,F⟩:∃n,v1.az.get 0=some n:=by simp[bl.get]
       rw[F] at a
       simp only at a
       simp[bl.get] at F
       subst F
       repeat refine af hJ ?_
       refine cu hJ mixed 7 ⟨ro,[(q,.cells #[.string ⟨⟨e.name⟩⟩,.int .i64 e.from_.low,.int .i64 e.from_.high,.int .i64 e.wide,.int .i64 e.aC.low,.int .i64 e.aC.high,.slice l e.marks.length p] 56),(k,.cells #[.int .i64 v1.az.e0,.int .i64 v1.az.e1,.int .i64 v1.az.e2,.int .i64 v1.az.e3,.int .i64 v1.aA.e0,.int .i64 v1.aA.e1,.int .i64 v1.aA.e2,.int .i64 v1.aA.e3,.int .u64 v1.au] 84)]⟩ (by simp only[*,go_sem,-a]) aT ?_
       simp only[*,go_sem,-a]
       repeat refine af hJ ?_
       by_cases hn:v1.az.e0<=e.from_.high
       .rw[if_pos hn] at a
        refine aN hJ (by simp only[*,go_sem,-a]) ?_
        refine aR hJ ?_
        obtain ⟨x1,G⟩:∃z,v1.aA.setAt 0 e.aC.low=some z:=by simp[bl.setAt]
        rw[G] at a
        simp only at a
        simp[bl.setAt] at G
        subst G
        repeat refine af hJ ?_
        refine aY hJ ?_
        repeat refine af hJ ?_
        refine ah hJ ?_
        simp only[*,go_sem,-a]
        repeat refine af hJ ?_
        refine aY hJ ?_
        refine bO hJ [7,57,58,59,60,61,62,63,64,65,66,67,68,69,70,71,72,73,74,75,76,77] (fun m2 a0 F'=>∃(v2:bw) (s2:σ) (j:List (Nat×Obj)),de step ((dG (dK u0 fuel (IntKind.i64.wrap (0+1))) 0 e.aC.high m2 v2).1++(match (dG (dK u0 fuel (IntKind.i64.wrap (0+1))) 0 e.aC.high m2 v2).2.az.setAt 0 (IntKind.i64.wrap (v1.az.e0+1)) with|none=>[none]|some y=>fo (dK u0 fuel (IntKind.i64.wrap (0+1))) 0 e.from_.high e.aC.low e.aC.high m {(dG (dK u0 fuel (IntKind.i64.wrap (0+1))) 0 e.aC.high m2 v2).2 with az:=y})) s2=some (c,s')/\v2.az=v1.az/\F'=⟨ro,(q,.cells #[.string ⟨⟨e.name⟩⟩,.int .i64 e.from_.low,.int .i64 e.from_.high,.int .i64 e.wide,.int .i64 e.aC.low,.int .i64 e.aC.high,.slice l e.marks.length p] 56)::(k,.cells #[.int .i64 v2.az.e0,.int .i64 v2.az.e1,.int .i64 v2.az.e2,.int .i64 v2.az.e3,.int .i64 v2.aA.e0,.int .i64 v2.aA.e1,.int .i64 v2.aA.e2,.int .i64 v2.aA.e3,.int .u64 v2.au] 84)::(cn y b2 b3 b4++j)⟩/\I s2 j) 200 ?_ ?_
        .exact ⟨_,s1,t,a,rfl,rfl,E⟩
        .rintro m2 H F' f ⟨v2,s2,j,hM,b,rfl,K⟩
         clear a E
         have bo:cq [7,36,37,38,39,40,41,42,43,44,45,46,47,48,49,50,51,52,53,54,55,56,57,58,59,60,61,62,63,64,65,66,67,68,69,70,71,72,73,74,75,76,77] H D:=(f.cR av).trans (by simp only[go_sem])
         have br:sz H=78:=by rw[f.size];simp only[*,go_sem]
         have bs:H.defers=[]:=by rw[f.defers];simp only[*,go_sem]
         have a4:=f.ay 1 av
         have a5:=f.ay 2 av
         have a6:=f.ay 3 av
         have a7:=f.ay 4 av
         have a8:=f.ay 5 av
         have a9:=f.ay 8 av
         simp only[*,go_sem] at a4 a5 a6 a7 a8 a9
         clear f W X Y Z ab ad a2 a3
         obtain _|m2:=m2
         .simp[dG,de] at hM
         unfold dG at hM
         obtain ⟨b0,L⟩:∃n,v2.aA.get 0=some n:=by simp[bl.get]
         rw[L] at hM
         simp only at hM
         simp[bl.get] at L
         subst L
         repeat refine af hJ ?_
         refine cu hJ mixed 7 ⟨ro,[(q,.cells #[.string ⟨⟨e.name⟩⟩,.int .i64 e.from_.low,.int .i64 e.from_.high,.int .i64 e.wide,.int .i64 e.aC.low,.int .i64 e.aC.high,.slice l e.marks.length p] 56),(k,.cells #[.int .i64 v2.az.e0,.int .i64 v2.az.e1,.int .i64 v2.az.e2,.int .i64 v2.az.e3,.int .i64 v2.aA.e0,.int .i64 v2.aA.e1,.int .i64 v2.aA.e2,.int .i64 v2.aA.e3,.int .u64 v2.au] 84)]⟩ (by simp only[*,go_sem,-hM,-b]) aT ?_
         simp only[*,go_sem,-hM,-b]
         repeat refine af hJ ?_
         by_cases ae:v2.aA.e0<=e.aC.high
         .simp only[if_pos ae] at hM
          refine aN hJ (by simp only[*,go_sem,-hM,-b]) ?_
          refine aR hJ ?_
          obtain ⟨x2,M⟩:∃z,v2.aA.setAt 0 (IntKind.i64.wrap (v2.aA.e0+1))=some z:=by simp[bl.setAt]
          rw[M] at hM
          simp only at hM
          simp[bl.setAt] at M
          subst M
          rw[List.append_assoc] at hM
          have ba:=qo hM
          clear hM
          repeat refine af hJ ?_
          refine aY hJ ?_
          repeat refine af hJ ?_
          refine aJ hJ fun nd=>?_
          refine ah hJ ?_
          simp only[cn,List.cons_append,List.nil_append,go_sem, *,-b]
          rcases ba with ⟨N,O,hM⟩|⟨O,rfl⟩
          .refine dA hJ (bz:=cn y b2 b3 b4++j) [(q,.cells #[.string ⟨⟨e.name⟩⟩,.int .i64 e.from_.low,.int .i64 e.from_.high,.int .i64 e.wide,.int .i64 e.aC.low,.int .i64 e.aC.high,.slice l e.marks.length p] 56),(k,.cells #[.int .i64 v2.az.e0,.int .i64 v2.az.e1,.int .i64 v2.az.e2,.int .i64 v2.az.e3,.int .i64 v2.aA.e0,.int .i64 v2.aA.e1,.int .i64 v2.aA.e2,.int .i64 v2.aA.e3,.int .u64 v2.au] 84)] [] (by simp only[cn,List.append_nil,List.cons_append,List.nil_append]) (fun w o=>∃d:List (Nat×Obj),o=cn y b2 b3 b4++d/\w= .bool true/\I N d) (fun P u B=>(ih (IntKind.i64.wrap (0+1)) v2 s2 true N O P u B j K).mono (by rintro w F' ⟨d,hle,rfl,C⟩;exact ⟨_,⟨d,rfl,rfl,C⟩,hle⟩)) ?_
           rintro w o ⟨Q,rfl,rfl,R⟩ S T bb
           simp only[cn,List.append_nil,List.cons_append,List.nil_append] at T
           subst S
           refine ⟨_,Le.refl _,aS ?_⟩
           simp only[*,go_sem,-hM,-b]
           repeat refine af hJ ?_
           refine aM hJ (by simp only[*,go_sem,-hM,-b]) ?_
           refine aR hJ ?_
           repeat refine af hJ ?_
           refine ah hJ ?_
           simp only[*,go_sem,-hM,-b]
           exact ⟨m2,Nat.lt_succ_self m2,_,Le.refl _,_,N,Q,hM,b,rfl,R⟩
          .refine dA hJ (bz:=cn y b2 b3 b4++j) [(q,.cells #[.string ⟨⟨e.name⟩⟩,.int .i64 e.from_.low,.int .i64 e.from_.high,.int .i64 e.wide,.int .i64 e.aC.low,.int .i64 e.aC.high,.slice l e.marks.length p] 56),(k,.cells #[.int .i64 v2.az.e0,.int .i64 v2.az.e1,.int .i64 v2.az.e2,.int .i64 v2.az.e3,.int .i64 v2.aA.e0,.int .i64 v2.aA.e1,.int .i64 v2.aA.e2,.int .i64 v2.aA.e3,.int .u64 v2.au] 84)] [] (by simp only[cn,List.append_nil,List.cons_append,List.nil_append]) (fun w o=>∃d:List (Nat×Obj),o=cn y b2 b3 b4++d/\w= .bool false/\I s' d) (fun P u B=>(ih (IntKind.i64.wrap (0+1)) v2 s2 false s' O P u B j K).mono (by rintro w F' ⟨d,hle,rfl,C⟩;exact ⟨_,⟨d,rfl,rfl,C⟩,hle⟩)) ?_
           rintro w o ⟨Q,rfl,rfl,R⟩ S T bb
           simp only[cn,List.append_nil,List.cons_append,List.nil_append] at T
           subst S
           refine ⟨_,Le.refl _,aS ?_⟩
           simp only[*,go_sem,-b]
           repeat refine af hJ ?_
           refine aN hJ (by simp only[*,go_sem,-b]) ?_
           repeat refine af hJ ?_
           refine ah hJ ?_
           simp only[*,go_sem,-b]
           repeat refine af hJ ?_
           refine aG ?_
           simp only[*,go_sem,-b]
           exact ⟨Q,Le.sub ((List.sublist_cons_self _ _).trans (List.sublist_cons_self _ _)),R⟩
         .simp only[if_neg ae,List.nil_append] at hM
          rw[<-b] at hM
          refine aM hJ (by simp only[*,go_sem,-hM,-b]) ?_
          refine bI ?_
          simp only[go_sem]
          obtain ⟨x3,U⟩:∃z,v2.az.setAt 0 (IntKind.i64.wrap (v2.az.e0+1))=some z:=by simp[bl.setAt]
          rw[U] at hM
          simp only at hM
          simp[bl.setAt] at U
          subst U
          repeat refine af hJ ?_
          refine ah hJ ?_
          simp only[*,go_sem,-hM,-b]
          exact ⟨m,Nat.lt_succ_self m,_,Le.refl _,_,s2,j,hM,rfl,K⟩
       .rw[if_neg hn] at a
        simp only[de,Option.some.injEq,Prod.mk.injEq] at a
        obtain ⟨rfl,rfl⟩:=a
        refine aM hJ cU ?_
        refine bI ?_
        simp only[go_sem]
        repeat refine af hJ ?_
        refine ah hJ ?_
        apply bt _
        repeat refine af hJ ?_
        refine aG ?_
        apply bt _
        exact ⟨t,Le.sub ((List.sublist_cons_self _ _).trans (List.sublist_cons_self _ _)),E⟩
     .simp[bl.setAt] at V
      subst V
      repeat refine af hJ ?_
      refine ah hJ ?_
      apply aa _
      repeat refine af hJ ?_
      refine aY hJ ?_
      refine bO hJ [7,36,37,38,39,40,41,42,43,44,45,46,47,48,49,50,51,52,53,54,55,56,57,58,59,60,61,62,63,64,65,66,67,68,69,70,71,72,73,74,75,76,77] (fun m a0 F'=>∃(v1:bw) (s1:σ) (t:List (Nat×Obj)),de step (fo (dK u0 fuel (IntKind.i64.wrap (1+1))) 1 e.from_.high e.aC.low e.aC.high m v1) s1=some (c,s')/\F'=⟨ro,(q,.cells #[.string ⟨⟨e.name⟩⟩,.int .i64 e.from_.low,.int .i64 e.from_.high,.int .i64 e.wide,.int .i64 e.aC.low,.int .i64 e.aC.high,.slice l e.marks.length p] 56)::(k,.cells #[.int .i64 v1.az.e0,.int .i64 v1.az.e1,.int .i64 v1.az.e2,.int .i64 v1.az.e3,.int .i64 v1.aA.e0,.int .i64 v1.aA.e1,.int .i64 v1.aA.e2,.int .i64 v1.aA.e3,.int .u64 v1.au] 84)::(cn y b2 b3 b4++t)⟩/\I s1 t) 200 ?_ ?_
      .exact ⟨_,s,own,h,by first|rfl|simp only[cn,List.cons_append,List.nil_append],al⟩
      .rintro m D F' g ⟨v1,s1,t,a,rfl,E⟩
       clear h al
       have a2:sz D=78:=by rw[g.size];simp only[*,go_sem]
       have a3:D.defers=[]:=by rw[g.defers];simp only[*,go_sem]
       have W:=g.ay 1 av
       have X:=g.ay 2 av
       have Y:=g.ay 3 av
       have Z:=g.ay 4 av
       have ab:=g.ay 5 av
       have ad:=g.ay 8 av
       simp only[*,go_sem] at W X Y Z ab ad
       clear g bd k1 bj bk bm bc hd
       obtain _|m:=m
       .exact (jO a).elim
       unfold fo at a
       obtain ⟨n,F⟩:∃n,v1.az.get 1=some n:=by simp[bl.get]
       rw[F] at a
       simp only at a
       simp[bl.get] at F
       subst F
       repeat refine af hJ ?_
       refine cu hJ mixed 7 ⟨ro,[(q,.cells #[.string ⟨⟨e.name⟩⟩,.int .i64 e.from_.low,.int .i64 e.from_.high,.int .i64 e.wide,.int .i64 e.aC.low,.int .i64 e.aC.high,.slice l e.marks.length p] 56),(k,.cells #[.int .i64 v1.az.e0,.int .i64 v1.az.e1,.int .i64 v1.az.e2,.int .i64 v1.az.e3,.int .i64 v1.aA.e0,.int .i64 v1.aA.e1,.int .i64 v1.aA.e2,.int .i64 v1.aA.e3,.int .u64 v1.au] 84)]⟩ (by simp only[*,go_sem,-a]) aT ?_
       simp only[*,go_sem,-a]
       repeat refine af hJ ?_
       by_cases hn:v1.az.e1<=e.from_.high
       .rw[if_pos hn] at a
        refine aN hJ (by simp only[*,go_sem,-a]) ?_
        refine aR hJ ?_
        obtain ⟨x1,G⟩:∃z,v1.aA.setAt 1 e.aC.low=some z:=by simp[bl.setAt]
        rw[G] at a
        simp only at a
        simp[bl.setAt] at G
        subst G
        repeat refine af hJ ?_
        refine aY hJ ?_
        repeat refine af hJ ?_
        refine ah hJ ?_
        simp only[*,go_sem,-a]
        repeat refine af hJ ?_
        refine aY hJ ?_
        refine bO hJ [7,57,58,59,60,61,62,63,64,65,66,67,68,69,70,71,72,73,74,75,76,77] (fun m2 a0 F'=>∃(v2:bw) (s2:σ) (j:List (Nat×Obj)),de step ((dG (dK u0 fuel (IntKind.i64.wrap (1+1))) 1 e.aC.high m2 v2).1++(match (dG (dK u0 fuel (IntKind.i64.wrap (1+1))) 1 e.aC.high m2 v2).2.az.setAt 1 (IntKind.i64.wrap (v1.az.e1+1)) with|none=>[none]|some y=>fo (dK u0 fuel (IntKind.i64.wrap (1+1))) 1 e.from_.high e.aC.low e.aC.high m {(dG (dK u0 fuel (IntKind.i64.wrap (1+1))) 1 e.aC.high m2 v2).2 with az:=y})) s2=some (c,s')/\v2.az=v1.az/\F'=⟨ro,(q,.cells #[.string ⟨⟨e.name⟩⟩,.int .i64 e.from_.low,.int .i64 e.from_.high,.int .i64 e.wide,.int .i64 e.aC.low,.int .i64 e.aC.high,.slice l e.marks.length p] 56)::(k,.cells #[.int .i64 v2.az.e0,.int .i64 v2.az.e1,.int .i64 v2.az.e2,.int .i64 v2.az.e3,.int .i64 v2.aA.e0,.int .i64 v2.aA.e1,.int .i64 v2.aA.e2,.int .i64 v2.aA.e3,.int .u64 v2.au] 84)::(cn y b2 b3 b4++j)⟩/\I s2 j) 200 ?_ ?_
        .exact ⟨_,s1,t,a,rfl,rfl,E⟩
        .rintro m2 H F' f ⟨v2,s2,j,hM,b,rfl,K⟩
         clear a E
         have bo:cq [7,36,37,38,39,40,41,42,43,44,45,46,47,48,49,50,51,52,53,54,55,56,57,58,59,60,61,62,63,64,65,66,67,68,69,70,71,72,73,74,75,76,77] H D:=(f.cR av).trans (by simp only[go_sem])
         have br:sz H=78:=by rw[f.size];simp only[*,go_sem]
         have bs:H.defers=[]:=by rw[f.defers];simp only[*,go_sem]
         have a4:=f.ay 1 av
         have a5:=f.ay 2 av
         have a6:=f.ay 3 av
         have a7:=f.ay 4 av
         have a8:=f.ay 5 av
         have a9:=f.ay 8 av
         simp only[*,go_sem] at a4 a5 a6 a7 a8 a9
         clear f W X Y Z ab ad a2 a3
         obtain _|m2:=m2
         .simp[dG,de] at hM
         unfold dG at hM
         obtain ⟨b0,L⟩:∃n,v2.aA.get 1=some n:=by simp[bl.get]
         rw[L] at hM
         simp only at hM
         simp[bl.get] at L
         subst L
         repeat refine af hJ ?_
         refine cu hJ mixed 7 ⟨ro,[(q,.cells #[.string ⟨⟨e.name⟩⟩,.int .i64 e.from_.low,.int .i64 e.from_.high,.int .i64 e.wide,.int .i64 e.aC.low,.int .i64 e.aC.high,.slice l e.marks.length p] 56),(k,.cells #[.int .i64 v2.az.e0,.int .i64 v2.az.e1,.int .i64 v2.az.e2,.int .i64 v2.az.e3,.int .i64 v2.aA.e0,.int .i64 v2.aA.e1,.int .i64 v2.aA.e2,.int .i64 v2.aA.e3,.int .u64 v2.au] 84)]⟩ (by simp only[*,go_sem,-hM,-b]) aT ?_
         simp only[*,go_sem,-hM,-b]
         repeat refine af hJ ?_
         by_cases ae:v2.aA.e1<=e.aC.high
         .simp only[if_pos ae] at hM
          refine aN hJ (by simp only[*,go_sem,-hM,-b]) ?_
          refine aR hJ ?_
          obtain ⟨x2,M⟩:∃z,v2.aA.setAt 1 (IntKind.i64.wrap (v2.aA.e1+1))=some z:=by simp[bl.setAt]
          rw[M] at hM
          simp only at hM
          simp[bl.setAt] at M
          subst M
          rw[List.append_assoc] at hM
          have ba:=qo hM
          clear hM
          repeat refine af hJ ?_
          refine aY hJ ?_
          repeat refine af hJ ?_
          refine aJ hJ fun nd=>?_
          refine ah hJ ?_
          simp only[cn,List.cons_append,List.nil_append,go_sem, *,-b]
          rcases ba with ⟨N,O,hM⟩|⟨O,rfl⟩
          .refine dA hJ (bz:=cn y b2 b3 b4++j) [(q,.cells #[.string ⟨⟨e.name⟩⟩,.int .i64 e.from_.low,.int .i64 e.from_.high,.int .i64 e.wide,.int .i64 e.aC.low,.int .i64 e.aC.high,.slice l e.marks.length p] 56),(k,.cells #[.int .i64 v2.az.e0,.int .i64 v2.az.e1,.int .i64 v2.az.e2,.int .i64 v2.az.e3,.int .i64 v2.aA.e0,.int .i64 v2.aA.e1,.int .i64 v2.aA.e2,.int .i64 v2.aA.e3,.int .u64 v2.au] 84)] [] (by simp only[cn,List.append_nil,List.cons_append,List.nil_append]) (fun w o=>∃d:List (Nat×Obj),o=cn y b2 b3 b4++d/\w= .bool true/\I N d) (fun P u B=>(ih (IntKind.i64.wrap (1+1)) v2 s2 true N O P u B j K).mono (by rintro w F' ⟨d,hle,rfl,C⟩;exact ⟨_,⟨d,rfl,rfl,C⟩,hle⟩)) ?_
           rintro w o ⟨Q,rfl,rfl,R⟩ S T bb
           simp only[cn,List.append_nil,List.cons_append,List.nil_append] at T
           subst S
           refine ⟨_,Le.refl _,aS ?_⟩
           simp only[*,go_sem,-hM,-b]
           repeat refine af hJ ?_
           refine aM hJ (by simp only[*,go_sem,-hM,-b]) ?_
           refine aR hJ ?_
           repeat refine af hJ ?_
           refine ah hJ ?_
           simp only[*,go_sem,-hM,-b]
           exact ⟨m2,Nat.lt_succ_self m2,_,Le.refl _,_,N,Q,hM,b,rfl,R⟩
          .refine dA hJ (bz:=cn y b2 b3 b4++j) [(q,.cells #[.string ⟨⟨e.name⟩⟩,.int .i64 e.from_.low,.int .i64 e.from_.high,.int .i64 e.wide,.int .i64 e.aC.low,.int .i64 e.aC.high,.slice l e.marks.length p] 56),(k,.cells #[.int .i64 v2.az.e0,.int .i64 v2.az.e1,.int .i64 v2.az.e2,.int .i64 v2.az.e3,.int .i64 v2.aA.e0,.int .i64 v2.aA.e1,.int .i64 v2.aA.e2,.int .i64 v2.aA.e3,.int .u64 v2.au] 84)] [] (by simp only[cn,List.append_nil,List.cons_append,List.nil_append]) (fun w o=>∃d:List (Nat×Obj),o=cn y b2 b3 b4++d/\w= .bool false/\I s' d) (fun P u B=>(ih (IntKind.i64.wrap (1+1)) v2 s2 false s' O P u B j K).mono (by rintro w F' ⟨d,hle,rfl,C⟩;exact ⟨_,⟨d,rfl,rfl,C⟩,hle⟩)) ?_
           rintro w o ⟨Q,rfl,rfl,R⟩ S T bb
           simp only[cn,List.append_nil,List.cons_append,List.nil_append] at T
           subst S
           refine ⟨_,Le.refl _,aS ?_⟩
           simp only[*,go_sem,-b]
           repeat refine af hJ ?_
           refine aN hJ (by simp only[*,go_sem,-b]) ?_
           repeat refine af hJ ?_
           refine ah hJ ?_
           simp only[*,go_sem,-b]
           repeat refine af hJ ?_
           refine aG ?_
           simp only[*,go_sem,-b]
           exact ⟨Q,Le.sub ((List.sublist_cons_self _ _).trans (List.sublist_cons_self _ _)),R⟩
         .simp only[if_neg ae,List.nil_append] at hM
          rw[<-b] at hM
          refine aM hJ (by simp only[*,go_sem,-hM,-b]) ?_
          refine bI ?_
          simp only[go_sem]
          obtain ⟨x3,U⟩:∃z,v2.az.setAt 1 (IntKind.i64.wrap (v2.az.e1+1))=some z:=by simp[bl.setAt]
          rw[U] at hM
          simp only at hM
          simp[bl.setAt] at U
          subst U
          repeat refine af hJ ?_
          refine ah hJ ?_
          simp only[*,go_sem,-hM,-b]
          exact ⟨m,Nat.lt_succ_self m,_,Le.refl _,_,s2,j,hM,rfl,K⟩
       .rw[if_neg hn] at a
        simp only[de,Option.some.injEq,Prod.mk.injEq] at a
        obtain ⟨rfl,rfl⟩:=a
        refine aM hJ cU ?_
        refine bI ?_
        simp only[go_sem]
        repeat refine af hJ ?_
        refine ah hJ ?_
        apply bt _
        repeat refine af hJ ?_
        refine aG ?_
        apply bt _
        exact ⟨t,Le.sub ((List.sublist_cons_self _ _).trans (List.sublist_cons_self _ _)),E⟩
     .simp[bl.setAt] at V
      subst V
      repeat refine af hJ ?_
      refine ah hJ ?_
      apply aa _
      repeat refine af hJ ?_
      refine aY hJ ?_
      refine bO hJ [7,36,37,38,39,40,41,42,43,44,45,46,47,48,49,50,51,52,53,54,55,56,57,58,59,60,61,62,63,64,65,66,67,68,69,70,71,72,73,74,75,76,77] (fun m a0 F'=>∃(v1:bw) (s1:σ) (t:List (Nat×Obj)),de step (fo (dK u0 fuel (IntKind.i64.wrap (2+1))) 2 e.from_.high e.aC.low e.aC.high m v1) s1=some (c,s')/\F'=⟨ro,(q,.cells #[.string ⟨⟨e.name⟩⟩,.int .i64 e.from_.low,.int .i64 e.from_.high,.int .i64 e.wide,.int .i64 e.aC.low,.int .i64 e.aC.high,.slice l e.marks.length p] 56)::(k,.cells #[.int .i64 v1.az.e0,.int .i64 v1.az.e1,.int .i64 v1.az.e2,.int .i64 v1.az.e3,.int .i64 v1.aA.e0,.int .i64 v1.aA.e1,.int .i64 v1.aA.e2,.int .i64 v1.aA.e3,.int .u64 v1.au] 84)::(cn y b2 b3 b4++t)⟩/\I s1 t) 200 ?_ ?_
      .exact ⟨_,s,own,h,by first|rfl|simp only[cn,List.cons_append,List.nil_append],al⟩
      .rintro m D F' g ⟨v1,s1,t,a,rfl,E⟩
       clear h al
       have a2:sz D=78:=by rw[g.size];simp only[*,go_sem]
       have a3:D.defers=[]:=by rw[g.defers];simp only[*,go_sem]
       have W:=g.ay 1 av
       have X:=g.ay 2 av
       have Y:=g.ay 3 av
       have Z:=g.ay 4 av
       have ab:=g.ay 5 av
       have ad:=g.ay 8 av
       simp only[*,go_sem] at W X Y Z ab ad
       clear g bd k1 bj bk bm bc hd
       obtain _|m:=m
       .exact (jO a).elim
       unfold fo at a
       obtain ⟨n,F⟩:∃n,v1.az.get 2=some n:=by simp[bl.get]
       rw[F] at a
       simp only at a
       simp[bl.get] at F
       subst F
       repeat refine af hJ ?_
       refine cu hJ mixed 7 ⟨ro,[(q,.cells #[.string ⟨⟨e.name⟩⟩,.int .i64 e.from_.low,.int .i64 e.from_.high,.int .i64 e.wide,.int .i64 e.aC.low,.int .i64 e.aC.high,.slice l e.marks.length p] 56),(k,.cells #[.int .i64 v1.az.e0,.int .i64 v1.az.e1,.int .i64 v1.az.e2,.int .i64 v1.az.e3,.int .i64 v1.aA.e0,.int .i64 v1.aA.e1,.int .i64 v1.aA.e2,.int .i64 v1.aA.e3,.int .u64 v1.au] 84)]⟩ (by simp only[*,go_sem,-a]) aT ?_
       simp only[*,go_sem,-a]
       repeat refine af hJ ?_
       by_cases hn:v1.az.e2<=e.from_.high
       .rw[if_pos hn] at a
        refine aN hJ (by simp only[*,go_sem,-a]) ?_
        refine aR hJ ?_
        obtain ⟨x1,G⟩:∃z,v1.aA.setAt 2 e.aC.low=some z:=by simp[bl.setAt]
        rw[G] at a
        simp only at a
        simp[bl.setAt] at G
        subst G
        repeat refine af hJ ?_
        refine aY hJ ?_
        repeat refine af hJ ?_
        refine ah hJ ?_
        simp only[*,go_sem,-a]
        repeat refine af hJ ?_
        refine aY hJ ?_
        refine bO hJ [7,57,58,59,60,61,62,63,64,65,66,67,68,69,70,71,72,73,74,75,76,77] (fun m2 a0 F'=>∃(v2:bw) (s2:σ) (j:List (Nat×Obj)),de step ((dG (dK u0 fuel (IntKind.i64.wrap (2+1))) 2 e.aC.high m2 v2).1++(match (dG (dK u0 fuel (IntKind.i64.wrap (2+1))) 2 e.aC.high m2 v2).2.az.setAt 2 (IntKind.i64.wrap (v1.az.e2+1)) with|none=>[none]|some y=>fo (dK u0 fuel (IntKind.i64.wrap (2+1))) 2 e.from_.high e.aC.low e.aC.high m {(dG (dK u0 fuel (IntKind.i64.wrap (2+1))) 2 e.aC.high m2 v2).2 with az:=y})) s2=some (c,s')/\v2.az=v1.az/\F'=⟨ro,(q,.cells #[.string ⟨⟨e.name⟩⟩,.int .i64 e.from_.low,.int .i64 e.from_.high,.int .i64 e.wide,.int .i64 e.aC.low,.int .i64 e.aC.high,.slice l e.marks.length p] 56)::(k,.cells #[.int .i64 v2.az.e0,.int .i64 v2.az.e1,.int .i64 v2.az.e2,.int .i64 v2.az.e3,.int .i64 v2.aA.e0,.int .i64 v2.aA.e1,.int .i64 v2.aA.e2,.int .i64 v2.aA.e3,.int .u64 v2.au] 84)::(cn y b2 b3 b4++j)⟩/\I s2 j) 200 ?_ ?_
        .exact ⟨_,s1,t,a,rfl,rfl,E⟩
        .rintro m2 H F' f ⟨v2,s2,j,hM,b,rfl,K⟩
         clear a E
         have bo:cq [7,36,37,38,39,40,41,42,43,44,45,46,47,48,49,50,51,52,53,54,55,56,57,58,59,60,61,62,63,64,65,66,67,68,69,70,71,72,73,74,75,76,77] H D:=(f.cR av).trans (by simp only[go_sem])
         have br:sz H=78:=by rw[f.size];simp only[*,go_sem]
         have bs:H.defers=[]:=by rw[f.defers];simp only[*,go_sem]
         have a4:=f.ay 1 av
         have a5:=f.ay 2 av
         have a6:=f.ay 3 av
         have a7:=f.ay 4 av
         have a8:=f.ay 5 av
         have a9:=f.ay 8 av
         simp only[*,go_sem] at a4 a5 a6 a7 a8 a9
         clear f W X Y Z ab ad a2 a3
         obtain _|m2:=m2
         .simp[dG,de] at hM
         unfold dG at hM
         obtain ⟨b0,L⟩:∃n,v2.aA.get 2=some n:=by simp[bl.get]
         rw[L] at hM
         simp only at hM
         simp[bl.get] at L
         subst L
         repeat refine af hJ ?_
         refine cu hJ mixed 7 ⟨ro,[(q,.cells #[.string ⟨⟨e.name⟩⟩,.int .i64 e.from_.low,.int .i64 e.from_.high,.int .i64 e.wide,.int .i64 e.aC.low,.int .i64 e.aC.high,.slice l e.marks.length p] 56),(k,.cells #[.int .i64 v2.az.e0,.int .i64 v2.az.e1,.int .i64 v2.az.e2,.int .i64 v2.az.e3,.int .i64 v2.aA.e0,.int .i64 v2.aA.e1,.int .i64 v2.aA.e2,.int .i64 v2.aA.e3,.int .u64 v2.au] 84)]⟩ (by simp only[*,go_sem,-hM,-b]) aT ?_
         simp only[*,go_sem,-hM,-b]
         repeat refine af hJ ?_
         by_cases ae:v2.aA.e2<=e.aC.high
         .simp only[if_pos ae] at hM
          refine aN hJ (by simp only[*,go_sem,-hM,-b]) ?_
          refine aR hJ ?_
          obtain ⟨x2,M⟩:∃z,v2.aA.setAt 2 (IntKind.i64.wrap (v2.aA.e2+1))=some z:=by simp[bl.setAt]
          rw[M] at hM
          simp only at hM
          simp[bl.setAt] at M
          subst M
          rw[List.append_assoc] at hM
          have ba:=qo hM
          clear hM
          repeat refine af hJ ?_
          refine aY hJ ?_
          repeat refine af hJ ?_
          refine aJ hJ fun nd=>?_
          refine ah hJ ?_
          simp only[cn,List.cons_append,List.nil_append,go_sem, *,-b]
          rcases ba with ⟨N,O,hM⟩|⟨O,rfl⟩
          .refine dA hJ (bz:=cn y b2 b3 b4++j) [(q,.cells #[.string ⟨⟨e.name⟩⟩,.int .i64 e.from_.low,.int .i64 e.from_.high,.int .i64 e.wide,.int .i64 e.aC.low,.int .i64 e.aC.high,.slice l e.marks.length p] 56),(k,.cells #[.int .i64 v2.az.e0,.int .i64 v2.az.e1,.int .i64 v2.az.e2,.int .i64 v2.az.e3,.int .i64 v2.aA.e0,.int .i64 v2.aA.e1,.int .i64 v2.aA.e2,.int .i64 v2.aA.e3,.int .u64 v2.au] 84)] [] (by simp only[cn,List.append_nil,List.cons_append,List.nil_append]) (fun w o=>∃d:List (Nat×Obj),o=cn y b2 b3 b4++d/\w= .bool true/\I N d) (fun P u B=>(ih (IntKind.i64.wrap (2+1)) v2 s2 true N O P u B j K).mono (by rintro w F' ⟨d,hle,rfl,C⟩;exact ⟨_,⟨d,rfl,rfl,C⟩,hle⟩)) ?_
           rintro w o ⟨Q,rfl,rfl,R⟩ S T bb
           simp only[cn,List.append_nil,List.cons_append,List.nil_append] at T
           subst S
           refine ⟨_,Le.refl _,aS ?_⟩
           simp only[*,go_sem,-hM,-b]
           repeat refine af hJ ?_
           refine aM hJ (by simp only[*,go_sem,-hM,-b]) ?_
           refine aR hJ ?_
           repeat refine af hJ ?_
           refine ah hJ ?_
           simp only[*,go_sem,-hM,-b]
           exact ⟨m2,Nat.lt_succ_self m2,_,Le.refl _,_,N,Q,hM,b,rfl,R⟩
          .refine dA hJ (bz:=cn y b2 b3 b4++j) [(q,.cells #[.string ⟨⟨e.name⟩⟩,.int .i64 e.from_.low,.int .i64 e.from_.high,.int .i64 e.wide,.int .i64 e.aC.low,.int .i64 e.aC.high,.slice l e.marks.length p] 56),(k,.cells #[.int .i64 v2.az.e0,.int .i64 v2.az.e1,.int .i64 v2.az.e2,.int .i64 v2.az.e3,.int .i64 v2.aA.e0,.int .i64 v2.aA.e1,.int .i64 v2.aA.e2,.int .i64 v2.aA.e3,.int .u64 v2.au] 84)] [] (by simp only[cn,List.append_nil,List.cons_append,List.nil_append]) (fun w o=>∃d:List (Nat×Obj),o=cn y b2 b3 b4++d/\w= .bool false/\I s' d) (fun P u B=>(ih (IntKind.i64.wrap (2+1)) v2 s2 false s' O P u B j K).mono (by rintro w F' ⟨d,hle,rfl,C⟩;exact ⟨_,⟨d,rfl,rfl,C⟩,hle⟩)) ?_
           rintro w o ⟨Q,rfl,rfl,R⟩ S T bb
           simp only[cn,List.append_nil,List.cons_append,List.nil_append] at T
           subst S
           refine ⟨_,Le.refl _,aS ?_⟩
           simp only[*,go_sem,-b]
           repeat refine af hJ ?_
           refine aN hJ (by simp only[*,go_sem,-b]) ?_
           repeat refine af hJ ?_
           refine ah hJ ?_
           simp only[*,go_sem,-b]
           repeat refine af hJ ?_
           refine aG ?_
           simp only[*,go_sem,-b]
           exact ⟨Q,Le.sub ((List.sublist_cons_self _ _).trans (List.sublist_cons_self _ _)),R⟩
         .simp only[if_neg ae,List.nil_append] at hM
          rw[<-b] at hM
          refine aM hJ (by simp only[*,go_sem,-hM,-b]) ?_
          refine bI ?_
          simp only[go_sem]
          obtain ⟨x3,U⟩:∃z,v2.az.setAt 2 (IntKind.i64.wrap (v2.az.e2+1))=some z:=by simp[bl.setAt]
          rw[U] at hM
          simp only at hM
          simp[bl.setAt] at U
          subst U
          repeat refine af hJ ?_
          refine ah hJ ?_
          simp only[*,go_sem,-hM,-b]
          exact ⟨m,Nat.lt_succ_self m,_,Le.refl _,_,s2,j,hM,rfl,K⟩
       .rw[if_neg hn] at a
        simp only[de,Option.some.injEq,Prod.mk.injEq] at a
        obtain ⟨rfl,rfl⟩:=a
        refine aM hJ cU ?_
        refine bI ?_
        simp only[go_sem]
        repeat refine af hJ ?_
        refine ah hJ ?_
        apply bt _
        repeat refine af hJ ?_
        refine aG ?_
        apply bt _
        exact ⟨t,Le.sub ((List.sublist_cons_self _ _).trans (List.sublist_cons_self _ _)),E⟩
     .simp[bl.setAt] at V
      subst V
      repeat refine af hJ ?_
      refine ah hJ ?_
      apply aa _
      repeat refine af hJ ?_
      refine aY hJ ?_
      refine bO hJ [7,36,37,38,39,40,41,42,43,44,45,46,47,48,49,50,51,52,53,54,55,56,57,58,59,60,61,62,63,64,65,66,67,68,69,70,71,72,73,74,75,76,77] (fun m a0 F'=>∃(v1:bw) (s1:σ) (t:List (Nat×Obj)),de step (fo (dK u0 fuel (IntKind.i64.wrap (3+1))) 3 e.from_.high e.aC.low e.aC.high m v1) s1=some (c,s')/\F'=⟨ro,(q,.cells #[.string ⟨⟨e.name⟩⟩,.int .i64 e.from_.low,.int .i64 e.from_.high,.int .i64 e.wide,.int .i64 e.aC.low,.int .i64 e.aC.high,.slice l e.marks.length p] 56)::(k,.cells #[.int .i64 v1.az.e0,.int .i64 v1.az.e1,.int .i64 v1.az.e2,.int .i64 v1.az.e3,.int .i64 v1.aA.e0,.int .i64 v1.aA.e1,.int .i64 v1.aA.e2,.int .i64 v1.aA.e3,.int .u64 v1.au] 84)::(cn y b2 b3 b4++t)⟩/\I s1 t) 200 ?_ ?_
      .exact ⟨_,s,own,h,by first|rfl|simp only[cn,List.cons_append,List.nil_append],al⟩
      .rintro m D F' g ⟨v1,s1,t,a,rfl,E⟩
       clear h al
       have a2:sz D=78:=by rw[g.size];simp only[*,go_sem]
       have a3:D.defers=[]:=by rw[g.defers];simp only[*,go_sem]
       have W:=g.ay 1 av
       have X:=g.ay 2 av
       have Y:=g.ay 3 av
       have Z:=g.ay 4 av
       have ab:=g.ay 5 av
       have ad:=g.ay 8 av
       simp only[*,go_sem] at W X Y Z ab ad
       clear g bd k1 bj bk bm bc hd
       obtain _|m:=m
       .exact (jO a).elim
       unfold fo at a
       obtain ⟨n,F⟩:∃n,v1.az.get 3=some n:=by simp[bl.get]
       rw[F] at a
       simp only at a
       simp[bl.get] at F
       subst F
       repeat refine af hJ ?_
       refine cu hJ mixed 7 ⟨ro,[(q,.cells #[.string ⟨⟨e.name⟩⟩,.int .i64 e.from_.low,.int .i64 e.from_.high,.int .i64 e.wide,.int .i64 e.aC.low,.int .i64 e.aC.high,.slice l e.marks.length p] 56),(k,.cells #[.int .i64 v1.az.e0,.int .i64 v1.az.e1,.int .i64 v1.az.e2,.int .i64 v1.az.e3,.int .i64 v1.aA.e0,.int .i64 v1.aA.e1,.int .i64 v1.aA.e2,.int .i64 v1.aA.e3,.int .u64 v1.au] 84)]⟩ (by simp only[*,go_sem,-a]) aT ?_
       simp only[*,go_sem,-a]
       repeat refine af hJ ?_
       by_cases hn:v1.az.e3<=e.from_.high
       .rw[if_pos hn] at a
        refine aN hJ (by simp only[*,go_sem,-a]) ?_
        refine aR hJ ?_
        obtain ⟨x1,G⟩:∃z,v1.aA.setAt 3 e.aC.low=some z:=by simp[bl.setAt]
        rw[G] at a
        simp only at a
        simp[bl.setAt] at G
        subst G
        repeat refine af hJ ?_
        refine aY hJ ?_
        repeat refine af hJ ?_
        refine ah hJ ?_
        simp only[*,go_sem,-a]
        repeat refine af hJ ?_
        refine aY hJ ?_
        refine bO hJ [7,57,58,59,60,61,62,63,64,65,66,67,68,69,70,71,72,73,74,75,76,77] (fun m2 a0 F'=>∃(v2:bw) (s2:σ) (j:List (Nat×Obj)),de step ((dG (dK u0 fuel (IntKind.i64.wrap (3+1))) 3 e.aC.high m2 v2).1++(match (dG (dK u0 fuel (IntKind.i64.wrap (3+1))) 3 e.aC.high m2 v2).2.az.setAt 3 (IntKind.i64.wrap (v1.az.e3+1)) with|none=>[none]|some y=>fo (dK u0 fuel (IntKind.i64.wrap (3+1))) 3 e.from_.high e.aC.low e.aC.high m {(dG (dK u0 fuel (IntKind.i64.wrap (3+1))) 3 e.aC.high m2 v2).2 with az:=y})) s2=some (c,s')/\v2.az=v1.az/\F'=⟨ro,(q,.cells #[.string ⟨⟨e.name⟩⟩,.int .i64 e.from_.low,.int .i64 e.from_.high,.int .i64 e.wide,.int .i64 e.aC.low,.int .i64 e.aC.high,.slice l e.marks.length p] 56)::(k,.cells #[.int .i64 v2.az.e0,.int .i64 v2.az.e1,.int .i64 v2.az.e2,.int .i64 v2.az.e3,.int .i64 v2.aA.e0,.int .i64 v2.aA.e1,.int .i64 v2.aA.e2,.int .i64 v2.aA.e3,.int .u64 v2.au] 84)::(cn y b2 b3 b4++j)⟩/\I s2 j) 200 ?_ ?_
        .exact ⟨_,s1,t,a,rfl,rfl,E⟩
        .rintro m2 H F' f ⟨v2,s2,j,hM,b,rfl,K⟩
         clear a E
         have bo:cq [7,36,37,38,39,40,41,42,43,44,45,46,47,48,49,50,51,52,53,54,55,56,57,58,59,60,61,62,63,64,65,66,67,68,69,70,71,72,73,74,75,76,77] H D:=(f.cR av).trans (by simp only[go_sem])
         have br:sz H=78:=by rw[f.size];simp only[*,go_sem]
         have bs:H.defers=[]:=by rw[f.defers];simp only[*,go_sem]
         have a4:=f.ay 1 av
         have a5:=f.ay 2 av
         have a6:=f.ay 3 av
         have a7:=f.ay 4 av
         have a8:=f.ay 5 av
         have a9:=f.ay 8 av
         simp only[*,go_sem] at a4 a5 a6 a7 a8 a9
         clear f W X Y Z ab ad a2 a3
         obtain _|m2:=m2
         .simp[dG,de] at hM
         unfold dG at hM
         obtain ⟨b0,L⟩:∃n,v2.aA.get 3=some n:=by simp[bl.get]
         rw[L] at hM
         simp only at hM
         simp[bl.get] at L
         subst L
         repeat refine af hJ ?_
         refine cu hJ mixed 7 ⟨ro,[(q,.cells #[.string ⟨⟨e.name⟩⟩,.int .i64 e.from_.low,.int .i64 e.from_.high,.int .i64 e.wide,.int .i64 e.aC.low,.int .i64 e.aC.high,.slice l e.marks.length p] 56),(k,.cells #[.int .i64 v2.az.e0,.int .i64 v2.az.e1,.int .i64 v2.az.e2,.int .i64 v2.az.e3,.int .i64 v2.aA.e0,.int .i64 v2.aA.e1,.int .i64 v2.aA.e2,.int .i64 v2.aA.e3,.int .u64 v2.au] 84)]⟩ (by simp only[*,go_sem,-hM,-b]) aT ?_
         simp only[*,go_sem,-hM,-b]
         repeat refine af hJ ?_
         by_cases ae:v2.aA.e3<=e.aC.high
         .simp only[if_pos ae] at hM
          refine aN hJ (by simp only[*,go_sem,-hM,-b]) ?_
          refine aR hJ ?_
          obtain ⟨x2,M⟩:∃z,v2.aA.setAt 3 (IntKind.i64.wrap (v2.aA.e3+1))=some z:=by simp[bl.setAt]
          rw[M] at hM
          simp only at hM
          simp[bl.setAt] at M
          subst M
          rw[List.append_assoc] at hM
          have ba:=qo hM
          clear hM
          repeat refine af hJ ?_
          refine aY hJ ?_
          repeat refine af hJ ?_
          refine aJ hJ fun nd=>?_
          refine ah hJ ?_
          simp only[cn,List.cons_append,List.nil_append,go_sem, *,-b]
          rcases ba with ⟨N,O,hM⟩|⟨O,rfl⟩
          .refine dA hJ (bz:=cn y b2 b3 b4++j) [(q,.cells #[.string ⟨⟨e.name⟩⟩,.int .i64 e.from_.low,.int .i64 e.from_.high,.int .i64 e.wide,.int .i64 e.aC.low,.int .i64 e.aC.high,.slice l e.marks.length p] 56),(k,.cells #[.int .i64 v2.az.e0,.int .i64 v2.az.e1,.int .i64 v2.az.e2,.int .i64 v2.az.e3,.int .i64 v2.aA.e0,.int .i64 v2.aA.e1,.int .i64 v2.aA.e2,.int .i64 v2.aA.e3,.int .u64 v2.au] 84)] [] (by simp only[cn,List.append_nil,List.cons_append,List.nil_append]) (fun w o=>∃d:List (Nat×Obj),o=cn y b2 b3 b4++d/\w= .bool true/\I N d) (fun P u B=>(ih (IntKind.i64.wrap (3+1)) v2 s2 true N O P u B j K).mono (by rintro w F' ⟨d,hle,rfl,C⟩;exact ⟨_,⟨d,rfl,rfl,C⟩,hle⟩)) ?_
           rintro w o ⟨Q,rfl,rfl,R⟩ S T bb
           simp only[cn,List.append_nil,List.cons_append,List.nil_append] at T
           subst S
           refine ⟨_,Le.refl _,aS ?_⟩
           simp only[*,go_sem,-hM,-b]
           repeat refine af hJ ?_
           refine aM hJ (by simp only[*,go_sem,-hM,-b]) ?_
           refine aR hJ ?_
           repeat refine af hJ ?_
           refine ah hJ ?_
           simp only[*,go_sem,-hM,-b]
           exact ⟨m2,Nat.lt_succ_self m2,_,Le.refl _,_,N,Q,hM,b,rfl,R⟩
          .refine dA hJ (bz:=cn y b2 b3 b4++j) [(q,.cells #[.string ⟨⟨e.name⟩⟩,.int .i64 e.from_.low,.int .i64 e.from_.high,.int .i64 e.wide,.int .i64 e.aC.low,.int .i64 e.aC.high,.slice l e.marks.length p] 56),(k,.cells #[.int .i64 v2.az.e0,.int .i64 v2.az.e1,.int .i64 v2.az.e2,.int .i64 v2.az.e3,.int .i64 v2.aA.e0,.int .i64 v2.aA.e1,.int .i64 v2.aA.e2,.int .i64 v2.aA.e3,.int .u64 v2.au] 84)] [] (by simp only[cn,List.append_nil,List.cons_append,List.nil_append]) (fun w o=>∃d:List (Nat×Obj),o=cn y b2 b3 b4++d/\w= .bool false/\I s' d) (fun P u B=>(ih (IntKind.i64.wrap (3+1)) v2 s2 false s' O P u B j K).mono (by rintro w F' ⟨d,hle,rfl,C⟩;exact ⟨_,⟨d,rfl,rfl,C⟩,hle⟩)) ?_
           rintro w o ⟨Q,rfl,rfl,R⟩ S T bb
           simp only[cn,List.append_nil,List.cons_append,List.nil_append] at T
           subst S
           refine ⟨_,Le.refl _,aS ?_⟩
           simp only[*,go_sem,-b]
           repeat refine af hJ ?_
           refine aN hJ (by simp only[*,go_sem,-b]) ?_
           repeat refine af hJ ?_
           refine ah hJ ?_
           simp only[*,go_sem,-b]
           repeat refine af hJ ?_
           refine aG ?_
           simp only[*,go_sem,-b]
           exact ⟨Q,Le.sub ((List.sublist_cons_self _ _).trans (List.sublist_cons_self _ _)),R⟩
         .simp only[if_neg ae,List.nil_append] at hM
          rw[<-b] at hM
          refine aM hJ (by simp only[*,go_sem,-hM,-b]) ?_
          refine bI ?_
          simp only[go_sem]
          obtain ⟨x3,U⟩:∃z,v2.az.setAt 3 (IntKind.i64.wrap (v2.az.e3+1))=some z:=by simp[bl.setAt]
          rw[U] at hM
          simp only at hM
          simp[bl.setAt] at U
          subst U
          repeat refine af hJ ?_
          refine ah hJ ?_
          simp only[*,go_sem,-hM,-b]
          exact ⟨m,Nat.lt_succ_self m,_,Le.refl _,_,s2,j,hM,rfl,K⟩
       .rw[if_neg hn] at a
        simp only[de,Option.some.injEq,Prod.mk.injEq] at a
        obtain ⟨rfl,rfl⟩:=a
        refine aM hJ cU ?_
        refine bI ?_
        simp only[go_sem]
        repeat refine af hJ ?_
        refine ah hJ ?_
        apply bt _
        repeat refine af hJ ?_
        refine aG ?_
        apply bt _
        exact ⟨t,Le.sub ((List.sublist_cons_self _ _).trans (List.sublist_cons_self _ _)),E⟩
end
def gO (u0:Int)(a:Int):Option Bool:=
 ax (lS u0) fun x1=>cond (x1) (ax (lS a) fun b=>cond (!b) (some true) (some (decide (u0<a)))) (some (decide (u0<a)))
theorem iO {ro:Addr->Option Value}(u0:Int)(a:Int){r:Bool}(h:gO u0 a=some r):aF Tryz.prog 186 #[.int .i64 u0,.int .i64 a] ⟨ro,[]⟩ (fun v _=>v= .bool r):=by
 unfold gO at h;refine aF.go Tryz.func186 rfl Tryz.ntmps186 Tryz.results186 aB fun main J hJ A f hd hs=>?_;have g:=hs 0;have k1:=hs 1;clear hs;apply af hJ;apply ah hJ;apply aa _;apply af hJ;apply ah hJ;have h':=an h;clear h;obtain ⟨x1,d,h⟩:=h';apply aa _;refine bp hJ _ (pW u0 d) (aS ?_);have h':=aD h;clear h;rcases h' with ⟨b,h⟩|⟨b,h⟩
 .try simp only[Int.ofNat_lt] at b
  have h':=an h;clear h;obtain ⟨i,e,h⟩:=h';try apply aa _
  refine bp hJ _ (pW a e) (aS ?_);have h':=aD h;clear h;rcases h' with ⟨c,h⟩|⟨c,h⟩
  ·(try simp only[Int.ofNat_lt] at c);(try apply aa _);have h':=Option.some.inj h;clear h;subst h';apply aG;simp only[*,go_sem]
  try simp only[Int.ofNat_lt] at c
  try apply aa _
  have h':=Option.some.inj h;clear h;subst h';apply aG;simp only[*,go_sem]
 try simp only[Int.ofNat_lt] at b
 try apply aa _
 have h':=Option.some.inj h;clear h;subst h';apply aG;simp only[*,go_sem]
def tG (c:Int)(st:(Int×(List Int))):Option (Fl (Int×(List Int)) (Unit×(List Int))):=
 cond (decide (c<st.1)) (ax (bM st.2 st.1) fun b=>ax (bM st.2 (IntKind.i64.wrap (st.1 - 1))) fun a=>ax (gO b a) fun d=>cond (d) (ax (bM (st.2.set (st.1).toNat a) (IntKind.i64.wrap (st.1 - 1))) fun e=>some (.nx ((IntKind.i64.wrap (st.1 - 1)),((st.2.set (st.1).toNat a).set (IntKind.i64.wrap (st.1 - 1)).toNat b)))) (some (.bk (st.1,st.2)))) (some (.bk (st.1,st.2)))
def tH (a:Int)(b:Int)(st:(Int×(List Int))):Option (Fl (Int×(List Int)) (Unit×(List Int))):=
 cond (decide (st.1<b)) (ax (bg (tG a) fu (st.1,st.2)) fun o=>aH o (fun c=>some (.nx ((IntKind.i64.wrap (st.1+1)),c.2))) (fun _ _=>none) (fun r=>some (.rt r))) (some (.bk (st.1,st.2)))
def qp (u0:(List Int))(a:Int)(b:Int):Option (Unit×(List Int)):=
 cond (List.isEmpty u0) none (ax (bg (tH a b) fu ((IntKind.i64.wrap (a+1)),u0)) fun o=>aH o (fun c=>some ((),c.2)) (fun _ _=>none) (fun r=>some r))
theorem yZ {ro:Addr->Option Value}(u0:(List Int)){b5:Value}{O:List (Nat×Obj)}(D:bx rI ro 3 b5 u0 O)(l:Int)(p:Int){r:(Unit×(List Int))}(h:qp u0 l p=some r):aF Tryz.prog 180 #[b5,.int .i64 l,.int .i64 p] ⟨ro,O⟩ (fun v G=>∃P,(v= .tuple #[]/\bx rI ro 3 b5 r.2 P)/\Le ⟨ro,P⟩ G):=by
 obtain ⟨d1,c2,rfl,b3⟩:=D.len;unfold qp at h;have h':=aD h;clear h;rcases h' with ⟨Q,h⟩|⟨Q,h⟩
 .cases h
 obtain ⟨b,ab,rfl,rfl,b4⟩:=D.fL Q;refine aF.go Tryz.func180 rfl Tryz.ntmps180 Tryz.results180 aB fun main J hJ A ad hd hs=>?_;have ae:=hs 0;have k1:=hs 1;have al:=hs 2;clear hs;apply af hJ;refine aJ hJ fun ca=>?_;apply ah hJ;apply aa _;apply aY hJ;have h':=an h;clear h;obtain ⟨ao,t,ar⟩:=h';have h:=True.intro;refine bO hJ [6,7,10,11,12,13,14,15,16,17,18,19,20,21,22,23,24,25,26,27,28,29,30,31,32,33,34,35,36,37,38,39,40,41,42,43,44,45,46,47,48] (fun m E F'=>∃(x:Array Value) (g:Int) (z:(List Int)),bg (tH l p) m (g,z)=some ao/\F'=⟨ro,[(b,Obj.cells x 3)]⟩/\bx rI ro 3 (.slice (some ⟨b,0,none⟩) u0.length c2) z [(b,Obj.cells x 3)]/\slot E 6= .int .i64 g) fu ?_ ?_
 .refine ⟨ab,(IntKind.i64.wrap (l+1)),u0,t,rfl,D,?_⟩;simp only[*,go_sem,-h]
 rintro B q F' s ⟨x,g,z,t,rfl,R,a0⟩;have h:=True.intro;have a2:sz q=49:=by rw[s.size];simp only[*,go_sem,-h]
 have a3:q.defers=[]:=by rw[s.defers];simp only[*,go_sem,-h]
 have a4:slot q 0= .slice (some ⟨b,0,none⟩) u0.length c2:=by rw[s.ay 0 av];simp only[*,go_sem,-h]
 have a5:slot q 1= .int .i64 l:=by rw[s.ay 1 av];simp only[*,go_sem,-h]
 have a6:slot q 2= .int .i64 p:=by rw[s.ay 2 av];simp only[*,go_sem,-h]
 clear s ad hd ae k1 al;obtain _|B:=B
 .exact absurd t (by simp only[bg,reduceCtorEq,not_false_eq_true])
 have h':=an t;clear t h;obtain ⟨cb,h,C⟩:=h';unfold tH at h;try dsimp only at h
 apply af hJ;apply af hJ;refine aJ hJ fun cc=>?_;apply ah hJ;apply aa _;have h':=aD h;clear h;rcases h' with ⟨H,h⟩|⟨H,h⟩
 .try simp only[Int.ofNat_lt] at H
  refine aN hJ ak ?_;apply aR hJ;apply af hJ;apply aY hJ;apply af hJ;refine aJ hJ fun cd=>?_;apply ah hJ;apply aa _;apply aY hJ;have h':=an h;clear h;obtain ⟨a7,u,S⟩:=h';have h:=True.intro;refine bO hJ [7,16,17,18,19,20,21,22,23,24,25,26,27,28,29,30,31,32,33,34,35,36,37,38,39,40,41,42,43,44,45,46,47,48] (fun m E F'=>∃(e:Array Value) (a:Int) (j:(List Int)),bg (tG l) m (a,j)=some a7/\F'=⟨ro,[(b,Obj.cells e 3)]⟩/\bx rI ro 3 (.slice (some ⟨b,0,none⟩) u0.length c2) j [(b,Obj.cells e 3)]/\slot E 7= .int .i64 a) fu ?_ ?_
  .refine ⟨x,g,z,u,rfl,R,?_⟩;simp only[*,go_sem,-h]
  rintro m2 d F' c ⟨e,a,j,u,rfl,n,cf⟩;have h:=True.intro;have ck:sz d=49:=by rw[c.size];simp only[*,go_sem,-h]
  have cl:d.defers=[]:=by rw[c.defers];simp only[*,go_sem,-h]
  have cy:slot d 0= .slice (some ⟨b,0,none⟩) u0.length c2:=by rw[c.ay 0 av];simp only[*,go_sem,-h]
  have c0:slot d 1= .int .i64 l:=by rw[c.ay 1 av];simp only[*,go_sem,-h]
  have da:slot d 2= .int .i64 p:=by rw[c.ay 2 av];simp only[*,go_sem,-h]
  have db:slot d 6= .int .i64 g:=by rw[c.ay 6 av];simp only[*,go_sem,-h]
  have dd:slot d 10= .int .i64 g:=by rw[c.ay 10 av];simp only[*,go_sem,-h]
  have df:slot d 11= .int .i64 p:=by rw[c.ay 11 av];simp only[*,go_sem,-h]
  have dk:slot d 12= .bool true:=by rw[c.ay 12 av];simp only[*,go_sem,-h]
  have dp:slot d 15= .int .i64 g:=by rw[c.ay 15 av];simp only[*,go_sem,-h]
  have dq:cq [6,7,10,11,12,13,14,15,16,17,18,19,20,21,22,23,24,25,26,27,28,29,30,31,32,33,34,35,36,37,38,39,40,41,42,43,44,45,46,47,48] d q:=(c.cR av).trans ak;clear c a2 a3 a4 a5 a6 a0;obtain _|m2:=m2
  .exact absurd u (by simp only[bg,reduceCtorEq,not_false_eq_true])
  have h':=an u;clear u h;obtain ⟨ds,h,w⟩:=h';unfold tG at h;try dsimp only at h
  apply af hJ;apply af hJ;refine aJ hJ fun dt=>?_;refine cu hJ mixed 15 ⟨ro,[(b,Obj.cells e 3)]⟩ ak aT ?_;have h':=aD h;clear h;rcases h' with ⟨I,h⟩|⟨I,h⟩
  ·(try simp only[Int.ofNat_lt] at I);have h':=an h;clear h;obtain ⟨k,a8,h⟩:=h';obtain ⟨du,dv,T⟩:=dc a8;have dC:a<((u0.length:Nat):Int):=by have:=n.count;omega
   obtain ⟨a9,ba,bb⟩:=n.eF T;obtain rfl:a9=[.int .i64 k]:=ba;have U:=bb 0 _ rfl;simp only[go_sem] at U;have dE:=(Array.getElem?_eq_some_iff.1 U).1;have h':=an h;clear h;obtain ⟨f,bc,h⟩:=h';obtain ⟨dT,ea,bd⟩:=dc bc;have eb:IntKind.i64.wrap (a - 1)<((u0.length:Nat):Int):=by have:=n.count;omega
   obtain ⟨bj,bk,bm⟩:=n.eF bd;obtain rfl:bj=[.int .i64 f]:=bk;have V:=bm 0 _ rfl;simp only[go_sem] at V;have ec:=(Array.getElem?_eq_some_iff.1 V).1;have h':=an h;clear h;obtain ⟨ed,bo,h⟩:=h';(try apply aa _);refine ⟨_,eo hJ fun F hF=>iO k f bo,e6 ?_⟩;(try apply aa _);have h':=aD h;clear h;rcases h' with ⟨K,h⟩|⟨K,h⟩
   ·(try simp only[Int.ofNat_lt] at K);refine aN hJ ak ?_;apply aR hJ;apply af hJ;apply aY hJ;refine aJ hJ fun eh=>?_;refine eG hJ mixed [15,16,17] (.pure 0 (.pure 1 (.pure 2 (.pure 3 (.pure 4 (.pure 5 (.pure 6 (.pure 7 (.pure 8 (.rd 9 (.pure 10 (.pure 11 (.pure 12 (.rd 13 (.pure 14 (.last 15 (.pure 16 (.last 17 .done)))))))))))))))))) ⟨ro,[(b,Obj.cells e 3)]⟩ ak aT ?_;have L:bx rI ro 3 (.slice (some ⟨b,0,none⟩) u0.length c2) (j.set (a).toNat f) [(b,Obj.cells (bS e (a).toNat [.int .i64 f]) 3)]:=by have M:=n.lD (i:=(a).toNat) (y:=f) (by have:=T;have:=(List.getElem?_eq_some_iff.1 this).1;simpa only[List.length_set] using this) (cs:=[.int .i64 f]) rfl;simpa only[pR,s6,Nat.mul_one,Nat.add_zero] using M
    have h':=an h;clear h;obtain ⟨br,bs,h⟩:=h';obtain ⟨et,ev,W⟩:=dc bs;have eQ:IntKind.i64.wrap (a - 1)<((u0.length:Nat):Int):=by have:=L.count;omega
    obtain ⟨b0,b1,b2⟩:=L.eF W;obtain rfl:b0=[.int .i64 br]:=b1;have X:=b2 0 _ rfl;simp only[go_sem] at X;have eS:=(Array.getElem?_eq_some_iff.1 X).1;have Y:bx rI ro 3 (.slice (some ⟨b,0,none⟩) u0.length c2) ((j.set (a).toNat f).set (IntKind.i64.wrap (a - 1)).toNat k) [(b,Obj.cells (bS (bS e (a).toNat [.int .i64 f]) (IntKind.i64.wrap (a - 1)).toNat [.int .i64 k]) 3)]:=by have M:=L.lD (i:=(IntKind.i64.wrap (a - 1)).toNat) (y:=k) (by have:=W;have:=(List.getElem?_eq_some_iff.1 this).1;simpa only[List.length_set] using this) (cs:=[.int .i64 k]) rfl;simpa only[pR,s6,Nat.mul_one,Nat.add_zero] using M
    (try apply aa _);obtain ⟨Z,N⟩:∃o,o=(bS (bS e (a).toNat [.int .i64 f]) (IntKind.i64.wrap (a - 1)).toNat [.int .i64 k]):=⟨_,rfl⟩
    refine cv (F:=⟨ro,[(b,Obj.cells Z 3)]⟩) hJ (by rw[N];exact Le.refl _) ?_;rw[<-N] at Y;clear N;refine aJ hJ fun e0=>?_;apply ah hJ;apply aa _;have h':=Option.some.inj h;clear h;subst h';have h:=True.intro;(try apply aa _);refine ⟨m2,Nat.lt_succ_self _,_,Le.sub (List.Sublist.refl _),Z,(IntKind.i64.wrap (a - 1)),((j.set (a).toNat f).set (IntKind.i64.wrap (a - 1)).toNat k),w,rfl,Y,?_⟩;simp only[*,go_sem,-h]
   (try simp only[Int.ofNat_lt] at K);refine aM hJ ak ?_;apply bI;simp only[go_sem];have h':=Option.some.inj h;clear h;subst h';have h':=Option.some.inj w;clear w;subst h';have h:=S;dsimp only[aH] at h;refine aJ hJ fun e1=>?_;apply ah hJ;apply aa _;have h':=Option.some.inj h;clear h;subst h';have h:=True.intro;(try apply aa _);refine ⟨B,Nat.lt_succ_self _,_,Le.sub (List.Sublist.refl _),e,(IntKind.i64.wrap (g+1)),j,C,rfl,n,?_⟩;simp only[*,go_sem,-h]
  try simp only[Int.ofNat_lt] at I
  try apply aa _
  refine aM hJ ak ?_;apply bI;simp only[go_sem];have h':=Option.some.inj h;clear h;subst h';have h':=Option.some.inj w;clear w;subst h';have h:=S;dsimp only[aH] at h;refine aJ hJ fun e2=>?_;apply ah hJ;apply aa _;have h':=Option.some.inj h;clear h;subst h';have h:=True.intro;try apply aa _
  refine ⟨B,Nat.lt_succ_self _,_,Le.sub (List.Sublist.refl _),e,(IntKind.i64.wrap (g+1)),j,C,rfl,n,?_⟩;simp only[*,go_sem,-h]
 try simp only[Int.ofNat_lt] at H
 refine aM hJ ak ?_;apply bI;simp only[go_sem];have h':=Option.some.inj h;clear h;subst h';have h':=Option.some.inj C;clear C;subst h';have h:=ar;dsimp only[aH] at h;have h':=Option.some.inj h;clear h;subst h';apply bt _;exact ⟨_,R,Le.sub (List.Sublist.refl _)⟩
def tJ (u0:(List Int))(st:(Int×Int×Int×Bool×Bool)):Option (Fl (Int×Int×Int×Bool×Bool) (Unit×(List Int))):=
 cond (decide ((IntKind.i64.wrap (st.2.1 - st.1))<=12)) (ax (qp u0 st.1 st.2.1) fun a=>some (.rt ((),a.2))) (none)
def qq (u0:(List Int))(a:Int)(b:Int)(c:Int):Option (Unit×(List Int)):=
 cond (List.isEmpty u0) none (ax (bg (tJ u0) fu (a,b,c,true,true)) fun o=>aH o (fun d=>some ((),u0)) (fun _ _=>none) (fun r=>some r))
theorem y2 {ro:Addr->Option Value}(u0:(List Int)){b5:Value}{t:List (Nat×Obj)}(g:bx rI ro 3 b5 u0 t)(i:Int)(j:Int)(k:Int){r:(Unit×(List Int))}(h:qq u0 i j k=some r):aF Tryz.prog 161 #[b5,.int .i64 i,.int .i64 j,.int .i64 k] ⟨ro,t⟩ (fun v G=>∃c,(v= .tuple #[]/\bx rI ro 3 b5 r.2 c)/\Le ⟨ro,c⟩ G):=by
 obtain ⟨d1,c2,rfl,N⟩:=g.len;unfold qq at h;have h':=aD h;clear h;rcases h' with ⟨u,h⟩|⟨u,h⟩
 .cases h
 obtain ⟨l,z,rfl,rfl,O⟩:=g.fL u;refine aF.go Tryz.func161 rfl Tryz.ntmps161 Tryz.results161 aB fun main J hJ A B hd hs=>?_;have C:=hs 0;have k1:=hs 1;have D:=hs 2;have E:=hs 3;clear hs;apply af hJ;refine aJ hJ fun P=>?_;apply ah hJ;apply aa _;apply af hJ;refine aJ hJ fun Q=>?_;apply ah hJ;apply aa _;apply aY hJ;have h':=an h;clear h;obtain ⟨F,a,H⟩:=h';have h:=True.intro;refine bO hJ [1,2,3,8,9,10,11,12,13,14,15,16,17,18,19,20,21,22,23,24,25,26,27,28,29,30,31,32,33,34,35,36,37,38,39,40,41,42,43,44,45,46,47,48,49,50,51,52,53,54,55,56,57,58,59,60,61,62,63,64,65,66,67,68,69,70,71,72,73,74,75,76,77,78,79,80,81,82,83,84,85,86,87,88,89,90,91,92,93,94,95,96,97,98,99,100,101,102,103,104,105,106,107,108,109,110,111,112,113,114,115,116,117,118,119,120,121,122,123,124,125,126,127,128,129,130,131,132,133] (fun m b F'=>∃(d:Int) (e:Int) (n:Int) (o:Bool) (p:Bool),bg (tJ u0) m (d,e,n,o,p)=some F/\F'=⟨ro,[(l,Obj.cells z 3)]⟩/\slot b 1= .int .i64 d/\slot b 2= .int .i64 e/\slot b 3= .int .i64 n/\slot b 8= .bool o/\slot b 9= .bool p) fu ?_ ?_
 .refine ⟨i,j,k,true,true,a,rfl,?_⟩;simp only[*,go_sem,-h]
 rintro w q F' f ⟨d,e,n,o,p,a,rfl,R,S,T,U,V⟩;have h:=True.intro;have W:sz q=134:=by rw[f.size];simp only[*,go_sem,-h]
 have X:q.defers=[]:=by rw[f.defers];simp only[*,go_sem,-h]
 have Y:slot q 0= .slice (some ⟨l,0,none⟩) u0.length c2:=by rw[f.ay 0 av];simp only[*,go_sem,-h]
 clear f B hd C k1 D E;obtain _|w:=w
 .exact absurd a (by simp only[bg,reduceCtorEq,not_false_eq_true])
 have h':=an a;clear a h;obtain ⟨Z,h,x⟩:=h';unfold tJ at h;try dsimp only at h
 apply aY hJ;apply af hJ;refine aJ hJ fun ab=>?_;apply ah hJ;apply aa _;apply af hJ;apply af hJ;refine aJ hJ fun ad=>?_;apply ah hJ;apply aa _;have h':=aD h;clear h;rcases h' with ⟨s,h⟩|⟨s,h⟩
 .try simp only[Int.ofNat_lt] at s
  refine aN hJ ak ?_;apply af hJ;refine aJ hJ fun ae=>?_;apply ah hJ;have h':=an h;clear h;obtain ⟨al,I,h⟩:=h';apply aa _;refine dA hJ [] [] (by first|rfl|simp only[bh]|(simp only[bh];rfl)) _ (yZ u0 g d e I) (fun ao ar K c L a0=>?_);obtain ⟨rfl,y⟩:=K;obtain ⟨M,rfl⟩:=y.fC;simp only[bh] at L;subst c;refine ⟨⟨ro,[(l,Obj.cells M 3)]⟩,Le.refl _,?_⟩;try apply aa _
  have h':=Option.some.inj h;clear h;subst h';have h':=Option.some.inj x;clear x;subst h';have h:=H;dsimp only[aH] at h;have h':=Option.some.inj h;clear h;subst h';refine en ?_;exact ⟨_,y,Le.sub (List.Sublist.refl _)⟩
 try simp only[Int.ofNat_lt] at s
 refine aM hJ ak ?_;cases h
def n9 (u0:(List Int))(a:Int)(b:Int)(c:Int):Option (((Int×Int)×(List Int))×Int):=
 cond (List.isEmpty u0) none (ax (bM u0 b) fun d=>ax (bM u0 a) fun e=>ax (gO d e) fun f=>cond (f) (some (((b,a),u0),IntKind.i64.wrap (c+1))) (some (((a,b),u0),c)))
theorem tK {ro:Addr->Option Value}(u0:(List Int)){b5:Value}{g:List (Nat×Obj)}(a:bx rI ro 3 b5 u0 g)(c:Int)(d:Int)(e:Int){b:Nat}(K:∀off sp,ro ⟨b,off,sp⟩=none){r:(((Int×Int)×(List Int))×Int)}(h:n9 u0 c d e=some r):aF Tryz.prog 199 #[b5,.int .i64 c,.int .i64 d,.pointer (some ⟨b,0,none⟩)] ⟨ro,(b,.cells #[.int .i64 e] 3)::g⟩ (fun v G=>∃i,(∃j,i=(b,.cells #[.int .i64 r.2] 3)::j/\v= .tuple #[.int .i64 r.1.1.1,.int .i64 r.1.1.2]/\bx rI ro 3 b5 r.1.2 j)/\Le ⟨ro,i⟩ G):=by
 obtain ⟨d1,c2,rfl,L⟩:=a.len;unfold n9 at h;have h':=aD h;clear h;rcases h' with ⟨k,h⟩|⟨k,h⟩
 .cases h
 obtain ⟨p,q,rfl,rfl,M⟩:=a.fL k;refine aF.go Tryz.func199 rfl Tryz.ntmps199 Tryz.results199 aB fun main J hJ A N hd hs=>?_;have O:=hs 0;have k1:=hs 1;have P:=hs 2;have Q:=hs 3;clear hs;refine aJ hJ fun s=>?_;have t:=s.nd;simp only[keys,List.map_cons,List.map_nil,List.map_append,List.cons_append,List.nil_append,List.nodup_cons,List.mem_cons,List.mem_append,List.not_mem_nil,or_false,not_or] at t;apply af hJ;refine aJ hJ fun R=>?_;apply ah hJ;apply aa _;apply af hJ;apply af hJ;refine aJ hJ fun S=>?_;refine cu hJ mixed 9 ⟨ro,[(b,.cells #[.int .i64 e] 3),(p,Obj.cells q 3)]⟩ ak aT ?_;have h':=an h;clear h;obtain ⟨l,u,h⟩:=h';obtain ⟨T,U,w⟩:=dc u;have V:d<((u0.length:Nat):Int):=by have:=a.count;omega
 obtain ⟨x,y,z⟩:=a.eF w;obtain rfl:x=[.int .i64 l]:=y;have m:=z 0 _ rfl;simp only[go_sem] at m;have W:=(Array.getElem?_eq_some_iff.1 m).1;have h':=an h;clear h;obtain ⟨n,B,h⟩:=h';obtain ⟨X,Y,C⟩:=dc B;have Z:c<((u0.length:Nat):Int):=by have:=a.count;omega
 obtain ⟨D,E,H⟩:=a.eF C;obtain rfl:D=[.int .i64 n]:=E;have o:=H 0 _ rfl;simp only[go_sem] at o;have ab:=(Array.getElem?_eq_some_iff.1 o).1;have h':=an h;clear h;obtain ⟨ad,I,h⟩:=h';try apply aa _
 refine ⟨_,eo hJ fun F hF=>iO l n I,?_⟩;try apply aa _
 have h':=aD h;clear h;rcases h' with ⟨f,h⟩|⟨f,h⟩
 .try simp only[Int.ofNat_lt] at f
  refine aN hJ ak ?_;apply af hJ;refine aJ hJ fun ae=>?_;apply ah hJ;apply aa _;apply af hJ;refine aJ hJ fun al=>?_;apply ah hJ;apply aa _;have h':=Option.some.inj h;clear h;subst h';refine en ?_;exact ⟨_,⟨_,rfl,a⟩,Le.sub (List.Sublist.refl _)⟩
 try simp only[Int.ofNat_lt] at f
 refine aM hJ ak ?_;apply aR hJ;apply af hJ;refine aJ hJ fun ao=>?_;apply ah hJ;apply aa _;have h':=Option.some.inj h;clear h;subst h';refine en ?_;exact ⟨_,⟨_,rfl,a⟩,Le.sub (List.Sublist.refl _)⟩
def tL (u0:(List Int))(d:Int)(e:Int)(f:Int)(g:Int):Option ((Int×(List Int))×Int):=
 cond (List.isEmpty u0) none (ax (n9 u0 d e g) fun a=>ax (n9 a.1.2 a.1.1.2 f a.2) fun b=>ax (n9 b.1.2 a.1.1.1 b.1.1.1 b.2) fun c=>some ((c.1.1.2,c.1.2),c.2))
theorem D4 {ro:Addr->Option Value}(u0:(List Int)){b5:Value}{q:List (Nat×Obj)}(k:bx rI ro 3 b5 u0 q)(l:Int)(m:Int)(n:Int)(o:Int){d:Nat}(p:∀off sp,ro ⟨d,off,sp⟩=none){r:((Int×(List Int))×Int)}(h:tL u0 l m n o=some r):aF Tryz.prog 197 #[b5,.int .i64 l,.int .i64 m,.int .i64 n,.pointer (some ⟨d,0,none⟩)] ⟨ro,(d,.cells #[.int .i64 o] 3)::q⟩ (fun v G=>∃b,(∃s,b=(d,.cells #[.int .i64 r.2] 3)::s/\v= .int .i64 r.1.1/\bx rI ro 3 b5 r.1.2 s)/\Le ⟨ro,b⟩ G):=by
 obtain ⟨d1,c2,rfl,Q⟩:=k.len;unfold tL at h;have h':=aD h;clear h;rcases h' with ⟨t,h⟩|⟨t,h⟩
 .cases h
 obtain ⟨e,R,rfl,rfl,S⟩:=k.fL t;refine aF.go Tryz.func197 rfl Tryz.ntmps197 Tryz.results197 aB fun main J hJ A B hd hs=>?_;have C:=hs 0;have k1:=hs 1;have D:=hs 2;have E:=hs 3;have F:=hs 4;clear hs;refine aJ hJ fun H=>?_;have I:=H.nd;simp only[keys,List.map_cons,List.map_nil,List.map_append,List.cons_append,List.nil_append,List.nodup_cons,List.mem_cons,List.mem_append,List.not_mem_nil,or_false,not_or] at I;apply af hJ;refine aJ hJ fun T=>?_;apply ah hJ;apply aa _;apply af hJ;refine aJ hJ fun U=>?_;apply ah hJ;have h':=an h;clear h;obtain ⟨f,K,h⟩:=h';apply aa _;refine dA hJ [] [] (by first|rfl|simp only[bh]|(simp only[bh];rfl)) _ (tK u0 k l m o p K) (fun V u g b i W=>?_);obtain ⟨X,rfl,rfl,w⟩:=g;obtain ⟨L,rfl⟩:=w.fC;simp only[bh] at i;subst b;refine ⟨⟨ro,(d,.cells #[.int .i64 f.2] 3)::[(e,Obj.cells L 3)]⟩,Le.refl _,?_⟩;apply aS;try apply aa _
 apply af hJ;refine aJ hJ fun Y=>?_;apply ah hJ;have h':=an h;clear h;obtain ⟨j,M,h⟩:=h';apply aa _;refine dA hJ [] [] (by first|rfl|simp only[bh]|(simp only[bh];rfl)) _ (tK f.1.2 w f.1.1.2 n f.2 p M) (fun Z u g b i ab=>?_);obtain ⟨ad,rfl,rfl,x⟩:=g;obtain ⟨N,rfl⟩:=x.fC;simp only[bh] at i;subst b;refine ⟨⟨ro,(d,.cells #[.int .i64 j.2] 3)::[(e,Obj.cells N 3)]⟩,Le.refl _,?_⟩;apply aS;try apply aa _
 apply af hJ;refine aJ hJ fun ae=>?_;apply ah hJ;have h':=an h;clear h;obtain ⟨y,O,h⟩:=h';apply aa _;refine dA hJ [] [] (by first|rfl|simp only[bh]|(simp only[bh];rfl)) _ (tK j.1.2 x f.1.1.1 j.1.1.1 j.2 p O) (fun al u g b i ao=>?_);obtain ⟨ar,rfl,rfl,z⟩:=g;obtain ⟨P,rfl⟩:=z.fC;simp only[bh] at i;subst b;refine ⟨⟨ro,(d,.cells #[.int .i64 y.2] 3)::[(e,Obj.cells P 3)]⟩,Le.refl _,?_⟩;apply aS;try apply aa _
 apply af hJ;generalize a:bB _ _ _=c;have a0:sz c=36:=by rw[<-a];simp only[*,go_sem,-h,-a]
 have a2:c.defers=[]:=by rw[<-a];simp only[*,go_sem,-h,-a]
 have a3:slot c 0= .slice (some ⟨e,0,none⟩) u0.length c2:=by rw[<-a];simp only[*,go_sem,-h,-a]
 have a4:slot c 2= .int .i64 y.1.1.2:=by rw[<-a];simp only[*,go_sem,-h,-a]
 have a5:slot c 10= .int .i64 0:=by rw[<-a];simp only[*,go_sem,-h,-a]
 have a6:slot c 12= .slice (some ⟨e,0,none⟩) u0.length c2:=by rw[<-a];simp only[*,go_sem,-h,-a]
 have a7:slot c 20= .slice (some ⟨e,0,none⟩) u0.length c2:=by rw[<-a];simp only[*,go_sem,-h,-a]
 have a8:slot c 28= .slice (some ⟨e,0,none⟩) u0.length c2:=by rw[<-a];simp only[*,go_sem,-h,-a]
 clear a B hd C k1 D E F;refine aJ hJ fun a9=>?_;apply ah hJ;apply aa _;have h':=Option.some.inj h;clear h;subst h';refine en ?_;exact ⟨_,⟨_,rfl,z⟩,Le.sub (List.Sublist.refl _)⟩
def tN (u0:(List Int))(b:Int)(d:Int):Option ((Int×Int)×(List Int)):=
 cond (List.isEmpty u0) none (ax (nv (IntKind.i64.wrap (d - b)) 4) fun c=>cond (decide (8<=(IntKind.i64.wrap (d - b)))) (cond (decide (50<=(IntKind.i64.wrap (d - b)))) (none) (ax (tL u0 (IntKind.i64.wrap (b+(IntKind.i64.wrap (c*1)))) (IntKind.i64.wrap (b+(IntKind.i64.wrap (c*2)))) (IntKind.i64.wrap (b+(IntKind.i64.wrap (c*3)))) 0) fun a=>cond ((a.2==0)) (some ((a.1.1,1),a.1.2)) (cond ((a.2==12)) (some ((a.1.1,2),a.1.2)) (some ((a.1.1,0),a.1.2))))) (some ((IntKind.i64.wrap (b+(IntKind.i64.wrap (c*2))),1),u0)))
theorem D5 {ro:Addr->Option Value}(u0:(List Int)){b5:Value}{p:List (Nat×Obj)}(f:bx rI ro 3 b5 u0 p)(d:Int)(q:Int){r:((Int×Int)×(List Int))}(h:tN u0 d q=some r):aF Tryz.prog 183 #[b5,.int .i64 d,.int .i64 q] ⟨ro,p⟩ (fun v G=>∃g,(v= .tuple #[.int .i64 r.1.1,.int .i64 r.1.2]/\bx rI ro 3 b5 r.2 g)/\Le ⟨ro,g⟩ G):=by
 obtain ⟨d1,c2,rfl,K⟩:=f.len;unfold tN at h;have h':=aD h;clear h;rcases h' with ⟨s,h⟩|⟨s,h⟩
 .cases h
 obtain ⟨i,L,rfl,rfl,M⟩:=f.fL s;refine aF.go Tryz.func183 rfl Tryz.ntmps183 Tryz.results183 aB fun main J hJ A t hd hs=>?_;have u:=hs 0;have k1:=hs 1;have w:=hs 2;clear hs;apply af hJ;refine aJ hJ fun N=>?_;apply ah hJ;apply aa _;apply af hJ;refine aJ hJ fun O=>?_;apply ah hJ;apply aa _;apply af hJ;refine aJ hJ fun C=>?_;apply ah hJ;apply aa _;intro x f14;have D:=aV f14;have y:=aW f14;have P:=bP.cons y C;try simp only[aQ] at y
 try apply aa _
 apply af hJ;refine aJ hJ fun Q=>?_;apply ah hJ;have h':=an h;clear h;obtain ⟨j,z,h⟩:=h';obtain ⟨R,S⟩:=sG z;clear z;try apply aa _
 apply af hJ;refine aJ hJ fun T=>?_;apply ah hJ;apply aa _;apply af hJ;refine aJ hJ fun U=>?_;apply ah hJ;apply aa _;apply af hJ;apply af hJ;refine aJ hJ fun V=>?_;apply ah hJ;apply aa _;have h':=aD h;clear h;rcases h' with ⟨l,h⟩|⟨l,h⟩
 .try simp only[Int.ofNat_lt] at l
  refine aN hJ ak ?_;apply af hJ;apply af hJ;refine aJ hJ fun W=>?_;apply ah hJ;apply aa _;have h':=aD h;clear h;rcases h' with ⟨m,h⟩|⟨m,h⟩
  ·(try simp only[Int.ofNat_lt] at m);refine aN hJ ak ?_;cases h
  try simp only[Int.ofNat_lt] at m
  refine aM hJ ak ?_;apply aR hJ;refine aJ hJ fun X=>?_;apply ah hJ;have h':=an h;clear h;obtain ⟨B,E,h⟩:=h';apply aa _;refine dA hJ [] [] (by first|rfl|simp only[bh]|(simp only[bh];rfl)) _ (D4 u0 f (IntKind.i64.wrap (d+(IntKind.i64.wrap (j*1)))) (IntKind.i64.wrap (d+(IntKind.i64.wrap (j*2)))) (IntKind.i64.wrap (d+(IntKind.i64.wrap (j*3)))) 0 D E) (fun Y Z F g H ab=>?_);obtain ⟨ad,rfl,rfl,k⟩:=F;obtain ⟨I,rfl⟩:=k.fC;simp only[bh] at H;subst g;refine ⟨⟨ro,(x,.cells #[.int .i64 B.2] 3)::[(i,Obj.cells I 3)]⟩,Le.refl _,?_⟩;apply aS;try apply aa _
  apply af hJ;generalize a:bB _ _ _=c;have ae:sz c=57:=by rw[<-a];simp only[*,go_sem,-h,-a]
  have al:c.defers=[]:=by rw[<-a];simp only[*,go_sem,-h,-a]
  have ao:slot c 0= .slice (some ⟨i,0,none⟩) u0.length c2:=by rw[<-a];simp only[*,go_sem,-h,-a]
  have ar:slot c 6= .int .i64 0:=by rw[<-a];simp only[*,go_sem,-h,-a]
  have a0:slot c 7= .int .i64 0:=by rw[<-a];simp only[*,go_sem,-h,-a]
  have a2:slot c 9= .pointer (some ⟨x,0,none⟩):=by rw[<-a];simp only[*,go_sem,-h,-a]
  have a3:slot c 11= .int .i64 B.1.1:=by rw[<-a];simp only[*,go_sem,-h,-a]
  have a4:slot c 44= .slice (some ⟨i,0,none⟩) u0.length c2:=by rw[<-a];simp only[*,go_sem,-h,-a]
  clear a t hd u k1 w;refine aJ hJ fun a5=>?_;apply ah hJ;apply aa _;apply aY hJ;apply af hJ;refine aJ hJ fun a6=>?_;apply ah hJ;apply aa _;have h':=aD h;clear h;rcases h' with ⟨n,h⟩|⟨n,h⟩
  ·(try simp only[Int.ofNat_lt] at n);refine aN hJ ak ?_;apply af hJ;refine aJ hJ fun a7=>?_;apply ah hJ;apply aa _;have h':=Option.some.inj h;clear h;subst h';refine en ?_;exact ⟨_,k,Le.sub (.cons _ (List.Sublist.refl _))⟩
  try simp only[Int.ofNat_lt] at n
  refine aM hJ ak ?_;apply af hJ;refine aJ hJ fun a8=>?_;apply ah hJ;apply aa _;have h':=aD h;clear h;rcases h' with ⟨o,h⟩|⟨o,h⟩
  ·(try simp only[Int.ofNat_lt] at o);refine aN hJ ak ?_;apply af hJ;refine aJ hJ fun a9=>?_;apply ah hJ;apply aa _;have h':=Option.some.inj h;clear h;subst h';refine en ?_;exact ⟨_,k,Le.sub (.cons _ (List.Sublist.refl _))⟩
  try simp only[Int.ofNat_lt] at o
  refine aM hJ ak ?_;apply af hJ;refine aJ hJ fun ba=>?_;apply ah hJ;apply aa _;have h':=Option.some.inj h;clear h;subst h';refine en ?_;exact ⟨_,k,Le.sub (.cons _ (List.Sublist.refl _))⟩
 try simp only[Int.ofNat_lt] at l
 refine aM hJ ak ?_;apply aR hJ;apply af hJ;refine aJ hJ fun bb=>?_;apply ah hJ;apply aa _;apply aY hJ;apply af hJ;refine aJ hJ fun bc=>?_;apply ah hJ;apply aa _;refine aN hJ ak ?_;apply af hJ;generalize b:bB _ _ _=e;have bd:sz e=57:=by rw[<-b];simp only[*,go_sem,-h,-b]
 have bj:e.defers=[]:=by rw[<-b];simp only[*,go_sem,-h,-b]
 have bk:slot e 0= .slice (some ⟨i,0,none⟩) u0.length c2:=by rw[<-b];simp only[*,go_sem,-h,-b]
 have bm:slot e 6= .int .i64 0:=by rw[<-b];simp only[*,go_sem,-h,-b]
 have bo:slot e 7= .int .i64 0:=by rw[<-b];simp only[*,go_sem,-h,-b]
 have br:slot e 11= .int .i64 (IntKind.i64.wrap (d+(IntKind.i64.wrap (j*2)))):=by rw[<-b];simp only[*,go_sem,-h,-b]
 clear b t hd u k1 w;refine aJ hJ fun bs=>?_;apply ah hJ;apply aa _;have h':=Option.some.inj h;clear h;subst h';refine en ?_;exact ⟨_,f,Le.sub (.cons _ (List.Sublist.refl _))⟩
end Go.Proofs.YtcoalekambhghaaGreatDoor
end
section
namespace Go.Sep
open Go Go.Conc
variable {P:Program}{main:Bool}{J:Goroutine->ag->Prop}{Q:Ex->Act->ag->Prop}{a:Act}{F:ag}
def Qn (E:Act->ag->Prop)(Q:Ex->Act->ag->Prop):Ex->Act->ag->Prop
 | .normal,a,F=>∃F0,Le F0 F/\E a F0
 | .exit i,a,F=>Q (.exit i) a F
 | .ret,a,F=>Q .ret a F
theorem D6 (E:Act->ag->Prop)(Q:Ex->Act->ag->Prop)(i:Nat)(a:Act)(F:ag):Qn E Q (.exit i) a F=Q (.exit i) a F:=Eq.trans rfl rfl
theorem D7 (E:Act->ag->Prop)(Q:Ex->Act->ag->Prop)(a:Act)(F:ag):Qn E Q .ret a F=Q .ret a F:=Eq.trans rfl rfl
attribute [go_sem] D6 D7
theorem Qn.intro {E:Act->ag->Prop}(h:∃F0,Le F0 F/\E a F0):Qn E Q .normal a F:=h
theorem fO (hJ:Closed P main J){x y:Code}(E:Act->ag->Prop)(c:Wp J x (Qn E Q) a F)(d:∀a F,E a F->Wp J y Q a F):Wp J (.seq x y) Q a F:=
 af hJ (c.mono fun e a F b=>by
  cases e with
  |normal=>obtain ⟨F0,hle,f⟩:=b;exact cv hJ hle (d a F0 f)
  |exit i=>exact b
  |ret=>exact b)
theorem bx.cK {ro:Addr->Option Value}{e:TypeId}{b n cap:Nat}{l:List Int}{arr:Array Value}(h:bx rI ro e (.slice (some ⟨b,0,none⟩) n cap) l [(b,.cells arr e)]){i x:Int}(q:bM l i=some x):
  0<=i/\i<((n:Nat):Int)/\arr[i.toNat]?=some (.int .i64 x)/\i.toNat<arr.size:=by
 obtain ⟨a,f,c⟩:=dc q
 have g:=h.count
 obtain ⟨cs,d,hm⟩:=h.eF c
 obtain rfl:cs=[.int .i64 x]:=d
 have m:=hm 0 _ rfl
 have m:arr[i.toNat*1+0]?=some (.int .i64 x):=m
 rw[Nat.mul_one,Nat.add_zero] at m
 exact ⟨a,ai,m,(Array.getElem?_eq_some_iff.1 m).1⟩
theorem bx.fE {ro:Addr->Option Value}{e:TypeId}{b n cap:Nat}{l:List Int}{arr:Array Value}(h:bx rI ro e (.slice (some ⟨b,0,none⟩) n cap) l [(b,.cells arr e)]){i:Int}(a:0<=i)(c:i<((n:Nat):Int))(y:Int):
  bx rI ro e (.slice (some ⟨b,0,none⟩) n cap) (l.set i.toNat y) [(b,.cells (bS arr i.toNat [.int .i64 y]) e)]:=by
 have d:=h.count
 have:=h.lD (i:=i.toNat) (y:=y) ai (cs:=[.int .i64 y]) rfl
 rwa [show i.toNat*rI.n=i.toNat from Nat.mul_one _] at this
end Go.Sep
end
section
namespace Go.Proofs.YtcoalekambhghaaGreatDoor
open Go Go.Sep Go.Proofs
set_option maxRecDepth 100000
set_option maxHeartbeats 4000000
def eI (m:Nat):Nat:=if m=0 then 0 else m.log2+1
def jP (n:Int):Option Int:=if 0<=n/\n<65536 then some ((eI n.toNat:Nat):Int) else none
theorem y3:∀m:Fin 256,eI m.val<=8:=by decide+kernel
theorem D8 {m:Nat}(h:256<=m):eI m=eI (m/256)+8:=by
 have e:∀k,k≠0->eI k=eI (k/2)+1:=fun k b=>by
  unfold eI;rw[if_neg b];rcases Nat.lt_or_ge k 2 with a|a
  .obtain rfl:k=1:=ai;decide
  .rw[if_neg (show ¬k/2=0 by omega),Nat.log2_def,if_pos a]
 rw[e m ai,e (m/2) ai,e (m/2/2) ai,e (m/2/2/2) ai,e (m/2/2/2/2) ai,e (m/2/2/2/2/2) ai,e (m/2/2/2/2/2/2) ai,e (m/2/2/2/2/2/2/2) ai];simp only[Nat.div_div_eq_div_mul,Nat.reduceMul]
theorem D9 {ro:Addr->Option Value}(n:Int)(b:0<=n)(d:n<65536):aF Tryz.prog 171 #[.int .u64 n] ⟨ro,[]⟩ (fun v _=>v= .int .i64 ((eI n.toNat:Nat):Int)):=by
 refine aF.go Tryz.func171 rfl Tryz.ntmps171 Tryz.results171 aB fun main J hJ A e hd hs=>?_;have f:=hs 0;clear hs;have a1:¬(4294967296:Int)<=n:=ai;have g:¬(65536:Int)<=n:=ai;have h:Tryz.prog.underlying 155=some (.int .u64):=aT;have i:Tryz.prog.underlying 5=some (.int .u8):=aT;have j:Tryz.prog.underlying 3=some (.int .i64):=aT;have k:Tryz.prog.underlying 9=some .string:=aT;repeat refine af hJ ?_
 refine ah hJ ?_;apply bt _;repeat refine af hJ ?_
 refine ah hJ ?_;apply bt _;repeat refine af hJ ?_
 refine aM hJ (by simp only[*,go_sem,ge_iff_le]) ?_;refine aR hJ ?_;repeat refine af hJ ?_
 refine ah hJ ?_;apply bt _;repeat refine af hJ ?_
 refine aM hJ (by simp only[*,go_sem,ge_iff_le]) ?_;refine aR hJ ?_;repeat refine af hJ ?_
 refine ah hJ ?_;apply bt _;repeat refine af hJ ?_
 by_cases l:(256:Int)<=n
 .refine aN hJ (by simp only[*,go_sem,ge_iff_le]) ?_;repeat refine af hJ ?_
  refine ah hJ ?_;apply bt _;obtain ⟨m,hm⟩:∃m,n.fdiv (2 ^ min 8 64)=m:=⟨_,rfl⟩
  have em:m=n/256:=by rw[<-hm];show n.fdiv 256=_;rw[Int.fdiv_eq_ediv_of_nonneg _ av]
  rw[hm];clear hm;have c:IntKind.u8.wrap m=m:=IntWalk.u8_in m ⟨ai,ai⟩;have o:eI n.toNat=eI m.toNat+8:=by
   rw[D8 ai];congr 2;omega
  have p:0<=m:=ai;have q:m<256:=ai;clear em;refine ah hJ ?_;apply bt _;repeat refine af hJ ?_
  refine ah hJ ?_;apply bt _;generalize a:List.append _ _=S;have key:∀m:Fin 256,S[m.val]?=some (UInt8.ofNat (eI m.val)):=by rw[<-a];decide+kernel
  clear a;have hn:m.toNat<256:=ai;have hb:=key ⟨m.toNat,hn⟩;have hle:=y3 ⟨m.toNat,hn⟩;simp only at hb hle;simp only[hb,Option.map_some];refine aG ?_;apply bt _;have e1:(UInt8.ofNat (eI m.toNat)).toNat=eI m.toNat:=by rw[UInt8.toNat_ofNat'];omega
  rw[e1,IntWalk.i64_in (eI m.toNat:Int) ⟨ai,ai⟩];rw[IntWalk.i64_in (0+8) ⟨ai,ai⟩,IntWalk.i64_in _ ⟨ai,ai⟩];congr 1;omega
 .refine aM hJ (by simp only[*,go_sem,ge_iff_le]) ?_;have c:IntKind.u8.wrap n=n:=IntWalk.u8_in n ⟨b,ai⟩;refine aR hJ ?_;repeat refine af hJ ?_
  refine ah hJ ?_;apply bt _;generalize a:List.append _ _=S;have key:∀m:Fin 256,S[m.val]?=some (UInt8.ofNat (eI m.val)):=by rw[<-a];decide+kernel
  clear a;have hn:n.toNat<256:=ai;have hb:=key ⟨n.toNat,hn⟩;have hle:=y3 ⟨n.toNat,hn⟩;simp only at hb hle;simp only[hb,Option.map_some];refine aG ?_;apply bt _;have e1:(UInt8.ofNat (eI n.toNat)).toNat=eI n.toNat:=by rw[UInt8.toNat_ofNat'];omega
  rw[e1,IntWalk.i64_in (eI n.toNat:Int) ⟨ai,ai⟩,Int.zero_add,IntWalk.i64_in (eI n.toNat:Int) ⟨ai,ai⟩]
theorem qs {ro:Addr->Option Value}(n:Int){r:Int}(h:jP n=some r):aF Tryz.prog 136 #[.int .u64 n] ⟨ro,[]⟩ (fun v _=>v= .int .i64 r):=by
 unfold jP at h;split at h
 case isFalse=>cases h
 rename_i hn;obtain ⟨a,b⟩:=hn;cases h;refine aF.go Tryz.func136 rfl Tryz.ntmps136 Tryz.results136 aB fun main J hJ A c hd hs=>?_;have d:=hs 0;clear hs;repeat refine af hJ ?_
 refine ah hJ ?_;apply bt _;repeat refine af hJ ?_
 refine aM hJ cU ?_;refine aR hJ ?_;repeat refine af hJ ?_
 refine ah hJ ?_;apply bt _;refine bp hJ _ (D9 n a b) (aS ?_);apply bt _;refine aG ?_;simp only[*,go_sem]
theorem Ea:Tryz.prog.underlying 3=some (.int .i64):=aT
attribute [go_sem] Ea
theorem Eb:Tryz.prog.underlying 82=some (.int .u64):=aT
attribute [go_sem] Eb
theorem Ec:Tryz.prog.underlying 155=some (.int .u64):=aT
attribute [go_sem] Ec
theorem Ed:Tryz.prog.underlying 218=some (.int .u64):=aT
attribute [go_sem] Ed
def tO (u0:Int):Option (Int×Int):=
 ax (ji u0 13) fun a=>ax (lu (gz u0 a) 7) fun b=>ax (ji (gz (gz u0 a) b) 17) fun c=>some ((gz (gz (gz u0 a) b) c),(gz (gz (gz u0 a) b) c))
theorem Ee {ro:Addr->Option Value}(u0:Int){b:Nat}(r1:∀off sp,ro ⟨b,off,sp⟩=none){r:(Int×Int)}(h:tO u0=some r):aF Tryz.prog 191 #[.pointer (some ⟨b,0,none⟩)] ⟨ro,[(b,.cells #[.int .u64 u0] 218)]⟩ (fun v G=>∃d,(v= .int .u64 r.1/\d=[(b,.cells #[.int .u64 r.2] 218)])/\Le ⟨ro,d⟩ G):=by
 unfold tO at h;refine aF.go Tryz.func191 rfl Tryz.ntmps191 Tryz.results191 aB fun main J hJ A j hd hs=>?_;have k:=hs 0;clear hs;apply af hJ;apply ah hJ;apply aa _;apply af hJ;refine eG hJ mixed [9] (.pure 0 (.pure 1 (.rd 2 (.pure 3 (.pure 4 (.rd 5 (.pure 6 (.pure 7 (.pure 8 (.last 9 .done)))))))))) ⟨ro,[(b,.cells #[.int .u64 u0] 218)]⟩ ak aT ?_;have h':=an h;clear h;obtain ⟨e,f,h⟩:=h';obtain ⟨p,l⟩:=lq f;clear f;try simp only[go_sem] at l
 try apply aa _
 apply af hJ;refine eG hJ mixed [9] (.pure 0 (.pure 1 (.rd 2 (.pure 3 (.pure 4 (.rd 5 (.pure 6 (.pure 7 (.pure 8 (.last 9 .done)))))))))) ⟨ro,[(b,.cells #[.int .u64 (gz u0 e)] 218)]⟩ ak aT ?_;have h':=an h;clear h;obtain ⟨m,g,h⟩:=h';obtain ⟨q,n⟩:=sI g;clear g;try simp only[go_sem] at n
 try apply aa _
 apply af hJ;refine eG hJ mixed [9] (.pure 0 (.pure 1 (.rd 2 (.pure 3 (.pure 4 (.rd 5 (.pure 6 (.pure 7 (.pure 8 (.last 9 .done)))))))))) ⟨ro,[(b,.cells #[.int .u64 (gz (gz u0 e) m)] 218)]⟩ ak aT ?_;have h':=an h;clear h;obtain ⟨s,i,h⟩:=h';obtain ⟨t,o⟩:=lq i;clear i;try simp only[go_sem] at o
 try apply aa _
 apply af hJ;generalize a:bB _ _ _=c;have u:sz c=33:=by rw[<-a];simp only[*,go_sem,-h,-a]
 have w:c.defers=[]:=by rw[<-a];simp only[*,go_sem,-h,-a]
 have x:slot c 0= .pointer (some ⟨b,0,none⟩):=by rw[<-a];simp only[*,go_sem,-h,-a]
 have y:slot c 2= .int .u64 0:=by rw[<-a];simp only[*,go_sem,-h,-a]
 clear a j hd k;apply ah hJ;apply aa _;have h':=Option.some.inj h;clear h;subst h';refine en ?_;exact ⟨_,rfl,Le.sub (List.Sublist.refl _)⟩
def tP (u0:Int):Option Int:=
 ax (jP (IntKind.u64.wrap u0)) fun x1=>ax (ji 1 x1) fun x3=>some x3
theorem Ef {ro:Addr->Option Value}(u0:Int){r:Int}(h:tP u0=some r):aF Tryz.prog 190 #[.int .i64 u0] ⟨ro,[]⟩ (fun v _=>v= .int .u64 r):=by
 unfold tP at h;refine aF.go Tryz.func190 rfl Tryz.ntmps190 Tryz.results190 aB fun main J hJ A d hd hs=>?_;have e:=hs 0;clear hs;apply af hJ;apply ah hJ;apply aa _;apply af hJ;apply ah hJ;have h':=an h;clear h;obtain ⟨x1,b,h⟩:=h';apply aa _;refine bp hJ _ (qs (IntKind.u64.wrap u0) b) (aS ?_);have h':=an h;clear h;obtain ⟨x3,a,h⟩:=h';obtain ⟨f,c⟩:=lq a;clear a;try simp only[go_sem] at c
 try apply aa _
 have h':=Option.some.inj h;clear h;subst h';apply aG;simp only[*,go_sem]
def tQ (a:Int)(e:Int)(c:Int)(h:Int)(st:(Int×(List Int)×Int)):Option (Fl (Int×(List Int)×Int) (Unit×(List Int))):=
 cond (decide (st.1<=(IntKind.i64.wrap ((IntKind.i64.wrap (a+(IntKind.i64.wrap (h*2))))+1)))) (ax (ax (tO st.2.2) fun b=>ax (cond (decide ((IntKind.i64.wrap (e - a))<=(IntKind.i64.wrap (e7 b.1 (IntKind.u64.wrap (c - 1)))))) (some (.bk (IntKind.i64.wrap ((IntKind.i64.wrap (e7 b.1 (IntKind.u64.wrap (c - 1)))) - (IntKind.i64.wrap (e - a)))))) (some (.bk (IntKind.i64.wrap (e7 b.1 (IntKind.u64.wrap (c - 1)))))):Option (Fl Int (Unit×(List Int)))) fun o=>aH o (fun d=>ax (bM st.2.1 (IntKind.i64.wrap (a+d))) fun f=>ax (bM st.2.1 st.1) fun i=>ax (bM (st.2.1.set (st.1).toNat f) (IntKind.i64.wrap (a+d))) fun j=>some (.bk (((st.2.1.set (st.1).toNat f).set (IntKind.i64.wrap (a+d)).toNat i),b.2))) (fun _ _=>none) (fun r=>some (.rt r)):Option (Fl ((List Int)×Int) (Unit×(List Int)))) fun o=>aH o (fun g=>some (.nx ((IntKind.i64.wrap (st.1+1)),g.1,g.2))) (fun _ _=>none) (fun r=>some (.rt r))) (some (.bk (st.1,st.2.1,st.2.2)))
def tR (u0:(List Int))(a:Int)(b:Int):Option (Unit×(List Int)):=
 cond (List.isEmpty u0) none (cond (decide (8<=(IntKind.i64.wrap (b - a)))) (ax (tP (IntKind.i64.wrap (b - a))) fun d=>ax (nv (IntKind.i64.wrap (b - a)) 4) fun c=>ax (bg (tQ a b d c) fu ((IntKind.i64.wrap ((IntKind.i64.wrap (a+(IntKind.i64.wrap (c*2)))) - 1)),u0,(IntKind.u64.wrap (IntKind.i64.wrap (b - a))))) fun o=>aH o (fun e=>some ((),e.2.1)) (fun _ _=>none) (fun r=>some r)) (some ((),u0)))
theorem Eg {ro:Addr->Option Value}(u0:(List Int)){b5:Value}{I:List (Nat×Obj)}(p:bx rI ro 3 b5 u0 I)(b:Int)(d:Int){r:(Unit×(List Int))}(h:tR u0 b d=some r):aF Tryz.prog 182 #[b5,.int .i64 b,.int .i64 d] ⟨ro,I⟩ (fun v G=>∃q,(v= .tuple #[]/\bx rI ro 3 b5 r.2 q)/\Le ⟨ro,q⟩ G):=by
 obtain ⟨d1,c2,rfl,b0⟩:=p.len;unfold tR at h;have h':=aD h;clear h;rcases h' with ⟨K,h⟩|⟨K,h⟩
 .cases h
 obtain ⟨c,Z,rfl,rfl,b1⟩:=p.fL K;refine aF.go Tryz.func182 rfl Tryz.ntmps182 Tryz.results182 aB fun main J hJ A ab hd hs=>?_;have ad:=hs 0;have k1:=hs 1;have ae:=hs 2;clear hs;apply af hJ;refine aJ hJ fun b2=>?_;apply ah hJ;apply aa _;apply af hJ;refine aJ hJ fun b3=>?_;apply ah hJ;apply aa _;have h':=aD h;clear h;rcases h' with ⟨z,h⟩|⟨z,h⟩
 .try simp only[Int.ofNat_lt] at z
  refine aN hJ ak ?_;apply af hJ;refine aJ hJ fun al=>?_;apply ah hJ;apply aa _;intro f f15;have ao:=aV f15;have L:=aW f15;have b4:=bP.cons L al;try simp only[aQ] at L
  try apply aa _
  apply af hJ;refine aJ hJ fun ca=>?_;apply ah hJ;have h':=an h;clear h;obtain ⟨k,ar,h⟩:=h';apply aa _;refine bp hJ _ (Ef (IntKind.i64.wrap (d - b)) ar) (aS ?_);try apply aa _
  apply af hJ;refine aJ hJ fun cb=>?_;apply ah hJ;have h':=an h;clear h;obtain ⟨M,N,h⟩:=h';obtain ⟨cc,cd⟩:=sG N;clear N;try apply aa _
  apply aY hJ;have h':=an h;clear h;obtain ⟨a0,n,a2⟩:=h';have h:=True.intro;refine bO hJ [9,10,26,27,28,29,30,31,32,33,34,35,36,37,38,39,40,41,42,43,44,45,46,47,48,49,50,51,52,53,54,55,56,57,58,59,60,61,62,63,64] (fun m a F'=>∃(g:Array Value) (i:Int) (s:(List Int)) (t:Int),bg (tQ b d k M) m (i,s,t)=some a0/\F'=⟨ro,(f,.cells #[.int .u64 t] 218)::[(c,Obj.cells g 3)]⟩/\bx rI ro 3 (.slice (some ⟨c,0,none⟩) u0.length c2) s [(c,Obj.cells g 3)]/\slot a 9= .int .i64 i) fu ?_ ?_
  .refine ⟨Z,(IntKind.i64.wrap ((IntKind.i64.wrap (b+(IntKind.i64.wrap (M*2)))) - 1)),u0,(IntKind.u64.wrap (IntKind.i64.wrap (d - b))),n,rfl,p,?_⟩;simp only[*,go_sem,-h]
  rintro B e F' j ⟨g,i,s,t,n,rfl,u,O⟩;have h:=True.intro;have P:sz e=65:=by rw[j.size];simp only[*,go_sem,-h]
  have Q:e.defers=[]:=by rw[j.defers];simp only[*,go_sem,-h]
  have R:slot e 0= .slice (some ⟨c,0,none⟩) u0.length c2:=by rw[j.ay 0 av];simp only[*,go_sem,-h]
  have S:slot e 1= .int .i64 b:=by rw[j.ay 1 av];simp only[*,go_sem,-h]
  have T:slot e 6= .int .i64 (IntKind.i64.wrap (d - b)):=by rw[j.ay 6 av];simp only[*,go_sem,-h]
  have U:slot e 7= .pointer (some ⟨f,0,none⟩):=by rw[j.ay 7 av];simp only[*,go_sem,-h]
  have V:slot e 8= .int .u64 k:=by rw[j.ay 8 av];simp only[*,go_sem,-h]
  clear j ab hd ad k1 ae;obtain _|B:=B
  .exact absurd n (by simp only[bg,reduceCtorEq,not_false_eq_true])
  have h':=an n;clear n h;obtain ⟨cf,h,C⟩:=h';unfold tQ at h;try dsimp only at h
  apply af hJ;apply af hJ;refine aJ hJ fun ck=>?_;apply ah hJ;apply aa _;have h':=aD h;clear h;rcases h' with ⟨D,h⟩|⟨D,h⟩
  ·(try simp only[Int.ofNat_lt] at D);refine aN hJ ak ?_;apply aR hJ;have h':=an h;clear h;obtain ⟨a3,h,a4⟩:=h';refine fO hJ (fun a F'=>∃(w:Array Value) (x:(List Int)) (y:Int),some (Fl.bk (x,y):Fl ((List Int)×Int) (Unit×(List Int)))=some a3/\F'=⟨ro,(f,.cells #[.int .u64 y] 218)::[(c,Obj.cells w 3)]⟩/\bx rI ro 3 (.slice (some ⟨c,0,none⟩) u0.length c2) x [(c,Obj.cells w 3)]/\sz a=65/\a.defers=[]/\cq [9,10,26,27,28,29,30,31,32,33,34,35,36,37,38,39,40,41,42,43,44,45,46,47,48,49,50,51,52,53,54,55,56,57,58,59,60,61,62,63,64] a e/\slot a 0= .slice (some ⟨c,0,none⟩) u0.length c2/\slot a 1= .int .i64 b/\slot a 6= .int .i64 (IntKind.i64.wrap (d - b))/\slot a 7= .pointer (some ⟨f,0,none⟩)/\slot a 8= .int .u64 k/\slot a 9= .int .i64 i) ?_ ?_
   .apply aY hJ;apply af hJ;refine aJ hJ fun cl=>?_;apply ah hJ;have h':=an h;clear h;obtain ⟨l,a5,h⟩:=h';apply aa _;refine dA hJ [] ([(c,Obj.cells g 3)]) (by first|rfl|simp only[bh]|(simp only[bh];rfl)) _ (Ee t ao a5) (fun cy c0 a6 q a7 da=>?_);obtain ⟨rfl,rfl⟩:=a6;simp only[bh] at a7;subst q;refine ⟨⟨ro,(f,.cells #[.int .u64 l.2] 218)::[(c,Obj.cells g 3)]⟩,Le.refl _,?_⟩;apply aS;(try apply aa _);have h':=an h;clear h;obtain ⟨a8,h,a9⟩:=h';refine fO hJ (fun a F'=>∃(o:Int),some (Fl.bk o:Fl Int (Unit×(List Int)))=some a8/\F'=⟨ro,(f,.cells #[.int .u64 l.2] 218)::[(c,Obj.cells g 3)]⟩/\sz a=65/\a.defers=[]/\cq [9,10,26,27,28,29,30,31,32,33,34,35,36,37,38,39,40,41,42,43,44,45,46,47,48,49,50,51,52,53,54,55,56,57,58,59,60,61,62,63,64] a e/\slot a 0= .slice (some ⟨c,0,none⟩) u0.length c2/\slot a 1= .int .i64 b/\slot a 6= .int .i64 (IntKind.i64.wrap (d - b))/\slot a 7= .pointer (some ⟨f,0,none⟩)/\slot a 8= .int .u64 k/\slot a 9= .int .i64 i/\slot a 10= .int .i64 o) ?_ ?_
    .apply af hJ;refine aJ hJ fun db=>?_;apply ah hJ;apply aa _;have h':=aD h;clear h;rcases h' with ⟨E,h⟩|⟨E,h⟩
     ·(try simp only[Int.ofNat_lt] at E);refine aN hJ ak ?_;refine aJ hJ fun dd=>?_;apply ah hJ;apply aa _;(try apply aa _);refine Qn.intro ⟨_,Le.sub (List.Sublist.refl _),(IntKind.i64.wrap ((IntKind.i64.wrap (e7 l.1 (IntKind.u64.wrap (k - 1)))) - (IntKind.i64.wrap (d - b)))),h,rfl,?_⟩;simp only[*,go_sem,-h]
     (try simp only[Int.ofNat_lt] at E);refine aM hJ ak ?_;apply aR hJ;(try apply aa _);refine Qn.intro ⟨_,Le.sub (List.Sublist.refl _),(IntKind.i64.wrap (e7 l.1 (IntKind.u64.wrap (k - 1)))),h,rfl,?_⟩;simp only[*,go_sem,-h]
    rintro df F' ⟨o,W,rfl,dk,dp,dq,ds,dt,du,dv,dC,dE,dT⟩;have h':=Option.some.inj W;clear W;subst h';have h:=a9;dsimp only[aH] at h;clear P Q R S T U V O;refine aJ hJ fun ea=>?_;refine eG hJ mixed [17,18,19] (.pure 0 (.pure 1 (.pure 2 (.pure 3 (.pure 4 (.pure 5 (.pure 6 (.pure 7 (.pure 8 (.pure 9 (.pure 10 (.rd 11 (.pure 12 (.pure 13 (.pure 14 (.rd 15 (.pure 16 (.last 17 (.pure 18 (.last 19 .done)))))))))))))))))))) ⟨ro,[(f,.cells #[.int .u64 l.2] 218),(c,Obj.cells g 3)]⟩ ak aT ?_;have h':=an h;clear h;obtain ⟨F,ba,h⟩:=h';obtain ⟨eb,ec,ed,eh⟩:=u.cK ba;have h':=an h;clear h;obtain ⟨H,bb,h⟩:=h';obtain ⟨bc,bd,et,ev⟩:=u.cK bb;have X:=u.fE bc bd F;have h':=an h;clear h;obtain ⟨eQ,bj,h⟩:=h';obtain ⟨bm,bo,eS,e0⟩:=X.cK bj;have br:=X.fE bm bo H;(try apply aa _);(try apply aa _);refine Qn.intro ⟨_,Le.sub (List.Sublist.refl _),(bS (bS g (i).toNat [.int .i64 F]) (IntKind.i64.wrap (b+o)).toNat [.int .i64 H]),((s.set (i).toNat F).set (IntKind.i64.wrap (b+o)).toNat H),l.2,h,rfl,br,?_⟩;simp only[*,go_sem,-h]
   rintro e1 F' ⟨w,x,y,Y,rfl,bs,e2,e3,fa,fb,fc,fg,fh,fi,fj⟩;have h':=Option.some.inj Y;clear Y;subst h';have h:=a4;dsimp only[aH] at h;clear P Q R S T U V O;refine aJ hJ fun fl=>?_;apply ah hJ;apply aa _;have h':=Option.some.inj h;clear h;subst h';have h:=True.intro;(try apply aa _);refine ⟨B,Nat.lt_succ_self _,_,Le.sub (List.Sublist.refl _),w,(IntKind.i64.wrap (i+1)),x,y,C,rfl,bs,?_⟩;simp only[*,go_sem,-h]
  try simp only[Int.ofNat_lt] at D
  refine aM hJ ak ?_;apply bI;simp only[go_sem];have h':=Option.some.inj h;clear h;subst h';have h':=Option.some.inj C;clear C;subst h';have h:=a2;dsimp only[aH] at h;have h':=Option.some.inj h;clear h;subst h';apply bt _;exact ⟨_,u,Le.sub (.cons _ (List.Sublist.refl _))⟩
 try simp only[Int.ofNat_lt] at z
 refine aM hJ ak ?_;apply aR hJ;have h':=Option.some.inj h;clear h;subst h';apply bt _;exact ⟨_,p,Le.sub (List.Sublist.refl _)⟩
def tS (u0:(List Int))(a:Int)(e:Int)(b:Int)(c:Int)(d:Int)(st:Int):Option (Fl Int ((Int×Bool)×(List Int))):=
 cond (decide (st<=(IntKind.i64.wrap (e - 1)))) (ax (bM ((u0.set (a).toNat c).set (b).toNat d) st) fun f=>ax (bM ((u0.set (a).toNat c).set (b).toNat d) a) fun g=>ax (gO f g) fun h=>cond (h) (some (.nx (IntKind.i64.wrap (st+1)))) (some (.bk st))) (some (.bk st))
def tT (u0:(List Int))(a:Int)(b:Int)(c:Int)(d:Int)(e:Int)(st:Int):Option (Fl Int ((Int×Bool)×(List Int))):=
 cond (decide (e<=st)) (ax (bM ((u0.set (a).toNat c).set (b).toNat d) st) fun f=>ax (bM ((u0.set (a).toNat c).set (b).toNat d) a) fun g=>ax (gO f g) fun h=>cond (!h) (some (.nx (IntKind.i64.wrap (st - 1)))) (some (.bk st))) (some (.bk st))
def tU (b:Int)(c:Int)(a:(List Int))(st:Int):Option (Fl Int ((Int×Bool)×(List Int))):=
 cond (decide (st<=c)) (ax (bM a st) fun d=>ax (bM a b) fun e=>ax (gO d e) fun f=>cond (f) (some (.nx (IntKind.i64.wrap (st+1)))) (some (.bk st))) (some (.bk st))
def tV (b:Int)(a:(List Int))(c:Int)(st:Int):Option (Fl Int ((Int×Bool)×(List Int))):=
 cond (decide (c<=st)) (ax (bM a st) fun d=>ax (bM a b) fun e=>ax (gO d e) fun f=>cond (!f) (some (.nx (IntKind.i64.wrap (st - 1)))) (some (.bk st))) (some (.bk st))
def tX (c:Int)(st:(Int×Int×(List Int))):Option (Fl (Int×Int×(List Int)) ((Int×Bool)×(List Int))):=
 ax (ax (bg (tU c st.2.1 st.2.2) fu st.1) fun o=>aH o (fun e=>some (.bk e)) (fun _ _=>none) (fun r=>some (.rt r)):Option (Fl Int ((Int×Bool)×(List Int)))) fun o=>aH o (fun a=>ax (ax (bg (tV c st.2.2 a) fu st.2.1) fun o=>aH o (fun f=>some (.bk f)) (fun _ _=>none) (fun r=>some (.rt r)):Option (Fl Int ((Int×Bool)×(List Int)))) fun o=>aH o (fun b=>cond (decide (b<a)) (some (.bk (a,b,st.2.2))) (ax (bM st.2.2 b) fun d=>ax (bM st.2.2 a) fun g=>ax (bM (st.2.2.set (a).toNat d) b) fun h=>some (.nx ((IntKind.i64.wrap (a+1)),(IntKind.i64.wrap (b - 1)),((st.2.2.set (a).toNat d).set (b).toNat g))))) (fun _ _=>none) (fun r=>some (.rt r))) (fun _ _=>none) (fun r=>some (.rt r))
def tY (u0:(List Int))(a:Int)(h:Int)(b:Int):Option ((Int×Bool)×(List Int)):=
 cond (List.isEmpty u0) none (ax (bM u0 b) fun c=>ax (bM u0 a) fun d=>ax (bM (u0.set (a).toNat c) b) fun t=>ax (ax (bg (tS u0 a h b c d) fu (IntKind.i64.wrap (a+1))) fun o=>aH o (fun m=>some (.bk m)) (fun _ _=>none) (fun r=>some (.rt r)):Option (Fl Int ((Int×Bool)×(List Int)))) fun o=>aH o (fun g=>ax (ax (bg (tT u0 a b c d g) fu (IntKind.i64.wrap (h - 1))) fun o=>aH o (fun n=>some (.bk n)) (fun _ _=>none) (fun r=>some (.rt r)):Option (Fl Int ((Int×Bool)×(List Int)))) fun o=>aH o (fun e=>cond (decide (e<g)) (ax (bM ((u0.set (a).toNat c).set (b).toNat d) a) fun i=>ax (bM ((u0.set (a).toNat c).set (b).toNat d) e) fun p=>ax (bM (((u0.set (a).toNat c).set (b).toNat d).set (e).toNat i) a) fun u=>some ((e,true),((((u0.set (a).toNat c).set (b).toNat d).set (e).toNat i).set (a).toNat p))) (ax (bM ((u0.set (a).toNat c).set (b).toNat d) e) fun j=>ax (bM ((u0.set (a).toNat c).set (b).toNat d) g) fun q=>ax (bM (((u0.set (a).toNat c).set (b).toNat d).set (g).toNat j) e) fun v=>ax (ax (bg (tX a) fu ((IntKind.i64.wrap (g+1)),(IntKind.i64.wrap (e - 1)),((((u0.set (a).toNat c).set (b).toNat d).set (g).toNat j).set (e).toNat q))) fun o=>aH o (fun k=>some (.bk (k.2.1,k.2.2))) (fun _ _=>none) (fun r=>some (.rt r)):Option (Fl (Int×(List Int)) ((Int×Bool)×(List Int)))) fun o=>aH o (fun f=>ax (bM f.2 a) fun l=>ax (bM f.2 f.1) fun s=>ax (bM (f.2.set (f.1).toNat l) a) fun w=>some ((f.1,false),((f.2.set (f.1).toNat l).set (a).toNat s))) (fun _ _=>none) (fun r=>some r))) (fun _ _=>none) (fun r=>some r)) (fun _ _=>none) (fun r=>some r))
theorem Eh {ro:Addr->Option Value}(u0:(List Int)){b5:Value}{b3:List (Nat×Obj)}(M:bx rI ro 3 b5 u0 b3)(c:Int)(D:Int)(E:Int){r:((Int×Bool)×(List Int))}(h:tY u0 c D E=some r):aF Tryz.prog 188 #[b5,.int .i64 c,.int .i64 D,.int .i64 E] ⟨ro,b3⟩ (fun v G=>∃b4,(v= .tuple #[.int .i64 r.1.1,.bool r.1.2]/\bx rI ro 3 b5 r.2 b4)/\Le ⟨ro,b4⟩ G):=by
 obtain ⟨d1,c2,rfl,k0⟩:=M.len;unfold tY at h;have h':=aD h;clear h;rcases h' with ⟨ca,h⟩|⟨ca,h⟩
 .cases h
 obtain ⟨b,cb,rfl,rfl,k2⟩:=M.fL ca;refine aF.go Tryz.func188 rfl Tryz.ntmps188 Tryz.results188 aB fun main J hJ A cc hd hs=>?_;have cd:=hs 0;have k1:=hs 1;have cf:=hs 2;have ck:=hs 3;clear hs;apply af hJ;refine aJ hJ fun lb=>?_;apply ah hJ;apply aa _;apply af hJ;refine aJ hJ fun lh=>?_;refine eG hJ mixed [13,14,15] (.pure 0 (.pure 1 (.pure 2 (.pure 3 (.pure 4 (.pure 5 (.pure 6 (.rd 7 (.pure 8 (.pure 9 (.pure 10 (.rd 11 (.pure 12 (.last 13 (.pure 14 (.last 15 .done)))))))))))))))) ⟨ro,[(b,Obj.cells cb 3)]⟩ ak aT ?_;have h':=an h;clear h;obtain ⟨N,g4,h⟩:=h';obtain ⟨lj,lk,ll,ln⟩:=M.cK g4;have h':=an h;clear h;obtain ⟨O,g7,h⟩:=h';obtain ⟨ha,hc,lr,lv⟩:=M.cK g7;have cl:=M.fE ha hc N;have h':=an h;clear h;obtain ⟨lx,hf,h⟩:=h';obtain ⟨hg,hh,ly,lL⟩:=cl.cK hf;have e:=cl.fE hg hh O;try apply aa _
 apply af hJ;obtain ⟨f,ad⟩:∃o,o=(bS (bS cb (c).toNat [.int .i64 N]) (E).toNat [.int .i64 O]):=⟨_,rfl⟩
 refine cv (F:=⟨ro,[(b,Obj.cells f 3)]⟩) hJ (by rw[ad];exact Le.refl _) ?_;rw[<-ad] at e;clear ad;refine aJ hJ fun l1=>?_;apply ah hJ;apply aa _;have h':=an h;clear h;obtain ⟨hi,h,hj⟩:=h';refine fO hJ (fun a F'=>∃(i:Int),some (Fl.bk i:Fl Int ((Int×Bool)×(List Int)))=some hi/\F'=⟨ro,[(b,Obj.cells f 3)]⟩/\sz a=168/\a.defers=[]/\slot a 0= .slice (some ⟨b,0,none⟩) u0.length c2/\slot a 1= .int .i64 c/\slot a 8= .int .i64 0/\slot a 9= .bool false/\slot a 10= .int .i64 i/\slot a 11= .int .i64 (IntKind.i64.wrap (D - 1))) ?_ ?_
 .apply aY hJ;have h':=an h;clear h;obtain ⟨hk,P,cy⟩:=h';have h:=True.intro;refine bO hJ [10,30,31,32,33,34,35,36,37,38,39,40,41,42,43,44,45] (fun m a F'=>∃(H:Int),bg (tS u0 c D E N O) m H=some hk/\F'=⟨ro,[(b,Obj.cells f 3)]⟩/\slot a 10= .int .i64 H) fu ?_ ?_
  .refine ⟨(IntKind.i64.wrap (c+1)),P,rfl,?_⟩;simp only[*,go_sem,-h]
  rintro m2 u F' n ⟨H,P,rfl,l2⟩;have h:=True.intro;have l3:sz u=168:=by rw[n.size];simp only[*,go_sem,-h]
  have l4:u.defers=[]:=by rw[n.defers];simp only[*,go_sem,-h]
  have ma:slot u 0= .slice (some ⟨b,0,none⟩) u0.length c2:=by rw[n.ay 0 av];simp only[*,go_sem,-h]
  have mf:slot u 1= .int .i64 c:=by rw[n.ay 1 av];simp only[*,go_sem,-h]
  have mi:slot u 8= .int .i64 0:=by rw[n.ay 8 av];simp only[*,go_sem,-h]
  have ml:slot u 9= .bool false:=by rw[n.ay 9 av];simp only[*,go_sem,-h]
  have mn:slot u 11= .int .i64 (IntKind.i64.wrap (D - 1)):=by rw[n.ay 11 av];simp only[*,go_sem,-h]
  clear n cc hd cd k1 cf ck;obtain _|m2:=m2
  .exact absurd P (by simp only[bg,reduceCtorEq,not_false_eq_true])
  have h':=an P;clear P h;obtain ⟨mr,h,Q⟩:=h';unfold tS at h;try dsimp only at h
  apply af hJ;apply af hJ;refine aJ hJ fun mx=>?_;refine cu hJ mixed 14 ⟨ro,[(b,Obj.cells f 3)]⟩ ak aT ?_;have h':=aD h;clear h;rcases h' with ⟨ae,h⟩|⟨ae,h⟩
  ·(try simp only[Int.ofNat_lt] at ae);have h':=an h;clear h;obtain ⟨hl,hn,h⟩:=h';obtain ⟨my,m1,na,nb⟩:=e.cK hn;have h':=an h;clear h;obtain ⟨ho,hp,h⟩:=h';obtain ⟨nc,nd,nf,nh⟩:=e.cK hp;have h':=an h;clear h;obtain ⟨nm,hq,h⟩:=h';(try apply aa _);refine ⟨_,eo hJ fun F hF=>iO hl ho hq,e6 ?_⟩;(try apply aa _);have h':=aD h;clear h;rcases h' with ⟨al,h⟩|⟨al,h⟩
   ·(try simp only[Int.ofNat_lt] at al);refine aN hJ ak ?_;apply aR hJ;apply aY hJ;refine aJ hJ fun nn=>?_;apply ah hJ;apply aa _;have h':=Option.some.inj h;clear h;subst h';have h:=True.intro;(try apply aa _);refine ⟨m2,Nat.lt_succ_self _,_,Le.sub (List.Sublist.refl _),(IntKind.i64.wrap (H+1)),Q,rfl,?_⟩;simp only[*,go_sem,-h]
   (try simp only[Int.ofNat_lt] at al);refine aM hJ ak ?_;apply bI;simp only[go_sem];have h':=Option.some.inj h;clear h;subst h';have h':=Option.some.inj Q;clear Q;subst h';have h:=cy;dsimp only[aH] at h;(try apply aa _);refine Qn.intro ⟨_,Le.sub (List.Sublist.refl _),H,h,rfl,?_⟩;simp only[*,go_sem,-h]
  try simp only[Int.ofNat_lt] at ae
  try apply aa _
  refine aM hJ ak ?_;apply bI;simp only[go_sem];have h':=Option.some.inj h;clear h;subst h';have h':=Option.some.inj Q;clear Q;subst h';have h:=cy;dsimp only[aH] at h;try apply aa _
  refine Qn.intro ⟨_,Le.sub (List.Sublist.refl _),H,h,rfl,?_⟩;simp only[*,go_sem,-h]
 rintro np F' ⟨i,c0,rfl,da,db,dd,df,dk,dp,dq,ds⟩;have h':=Option.some.inj c0;clear c0;subst h';have h:=hj;dsimp only[aH] at h;clear cc hd cd k1 cf ck;have h':=an h;clear h;obtain ⟨hr,h,ht⟩:=h';refine fO hJ (fun a F'=>∃(w:Int),some (Fl.bk w:Fl Int ((Int×Bool)×(List Int)))=some hr/\F'=⟨ro,[(b,Obj.cells f 3)]⟩/\sz a=168/\a.defers=[]/\slot a 0= .slice (some ⟨b,0,none⟩) u0.length c2/\slot a 1= .int .i64 c/\slot a 8= .int .i64 0/\slot a 9= .bool false/\slot a 10= .int .i64 i/\slot a 11= .int .i64 w) ?_ ?_
 .apply aY hJ;have h':=an h;clear h;obtain ⟨hv,R,dt⟩:=h';have h:=True.intro;refine bO hJ [11,46,47,48,49,50,51,52,53,54,55,56,57,58,59,60,61,62] (fun m a F'=>∃(I:Int),bg (tT u0 c E N O i) m I=some hv/\F'=⟨ro,[(b,Obj.cells f 3)]⟩/\slot a 11= .int .i64 I) fu ?_ ?_
  .refine ⟨(IntKind.i64.wrap (D - 1)),R,rfl,?_⟩;simp only[*,go_sem,-h]
  rintro ao x F' p ⟨I,R,rfl,ns⟩;have h:=True.intro;have nx:sz x=168:=by rw[p.size];simp only[*,go_sem,-h]
  have nz:x.defers=[]:=by rw[p.defers];simp only[*,go_sem,-h]
  have nA:slot x 0= .slice (some ⟨b,0,none⟩) u0.length c2:=by rw[p.ay 0 av];simp only[*,go_sem,-h]
  have nH:slot x 1= .int .i64 c:=by rw[p.ay 1 av];simp only[*,go_sem,-h]
  have nI:slot x 8= .int .i64 0:=by rw[p.ay 8 av];simp only[*,go_sem,-h]
  have nK:slot x 9= .bool false:=by rw[p.ay 9 av];simp only[*,go_sem,-h]
  have nQ:slot x 10= .int .i64 i:=by rw[p.ay 10 av];simp only[*,go_sem,-h]
  clear p da db dd df dk dp dq ds;obtain _|ao:=ao
  .exact absurd R (by simp only[bg,reduceCtorEq,not_false_eq_true])
  have h':=an R;clear R h;obtain ⟨nR,h,S⟩:=h';unfold tT at h;try dsimp only at h
  apply af hJ;apply af hJ;refine aJ hJ fun nT=>?_;refine cu hJ mixed 15 ⟨ro,[(b,Obj.cells f 3)]⟩ ak aT ?_;have h':=aD h;clear h;rcases h' with ⟨ar,h⟩|⟨ar,h⟩
  ·(try simp only[Int.ofNat_lt] at ar);have h':=an h;clear h;obtain ⟨hx,hy,h⟩:=h';obtain ⟨nV,nX,nY,n0⟩:=e.cK hy;have h':=an h;clear h;obtain ⟨hz,hA,h⟩:=h';obtain ⟨n1,n2,n3,oc⟩:=e.cK hA;have h':=an h;clear h;obtain ⟨oi,hB,h⟩:=h';(try apply aa _);refine ⟨_,eo hJ fun F hF=>iO hx hz hB,e6 ?_⟩;(try apply aa _);have h':=aD h;clear h;rcases h' with ⟨a0,h⟩|⟨a0,h⟩
   ·(try simp only[Int.ofNat_lt] at a0);refine aN hJ ak ?_;apply aR hJ;apply aY hJ;refine aJ hJ fun oj=>?_;apply ah hJ;apply aa _;have h':=Option.some.inj h;clear h;subst h';have h:=True.intro;(try apply aa _);refine ⟨ao,Nat.lt_succ_self _,_,Le.sub (List.Sublist.refl _),(IntKind.i64.wrap (I - 1)),S,rfl,?_⟩;simp only[*,go_sem,-h]
   (try simp only[Int.ofNat_lt] at a0);refine aM hJ ak ?_;apply bI;simp only[go_sem];have h':=Option.some.inj h;clear h;subst h';have h':=Option.some.inj S;clear S;subst h';have h:=dt;dsimp only[aH] at h;(try apply aa _);refine Qn.intro ⟨_,Le.sub (List.Sublist.refl _),I,h,rfl,?_⟩;simp only[*,go_sem,-h]
  try simp only[Int.ofNat_lt] at ar
  try apply aa _
  refine aM hJ ak ?_;apply bI;simp only[go_sem];have h':=Option.some.inj h;clear h;subst h';have h':=Option.some.inj S;clear S;subst h';have h:=dt;dsimp only[aH] at h;try apply aa _
  refine Qn.intro ⟨_,Le.sub (List.Sublist.refl _),I,h,rfl,?_⟩;simp only[*,go_sem,-h]
 rintro ox F' ⟨w,du,rfl,dv,dC,dE,dT,ea,eb,ec,ed⟩;have h':=Option.some.inj du;clear du;subst h';have h:=ht;dsimp only[aH] at h;clear da db dd df dk dp dq ds;apply af hJ;apply af hJ;refine aJ hJ fun oy=>?_;apply ah hJ;apply aa _;have h':=aD h;clear h;rcases h' with ⟨a2,h⟩|⟨a2,h⟩
 .try simp only[Int.ofNat_lt] at a2
  refine aN hJ ak ?_;apply af hJ;refine aJ hJ fun o0=>?_;refine eG hJ mixed [13,14,15] (.pure 0 (.pure 1 (.pure 2 (.pure 3 (.pure 4 (.pure 5 (.pure 6 (.rd 7 (.pure 8 (.pure 9 (.pure 10 (.rd 11 (.pure 12 (.last 13 (.pure 14 (.last 15 .done)))))))))))))))) ⟨ro,[(b,Obj.cells f 3)]⟩ ak aT ?_;have h':=an h;clear h;obtain ⟨eh,hD,h⟩:=h';obtain ⟨o1,o2,pa,pb⟩:=e.cK hD;have h':=an h;clear h;obtain ⟨et,hE,h⟩:=h';obtain ⟨hG,hH,pd,pf⟩:=e.cK hE;have ev:=e.fE hG hH eh;have h':=an h;clear h;obtain ⟨pj,hI,h⟩:=h';obtain ⟨hK,hL,pk,po⟩:=ev.cK hI;have eQ:=ev.fE hK hL et;try apply aa _
  apply af hJ;obtain ⟨hM,a3⟩:∃o,o=(bS (bS f (w).toNat [.int .i64 eh]) (c).toNat [.int .i64 et]):=⟨_,rfl⟩
  refine cv (F:=⟨ro,[(b,Obj.cells hM 3)]⟩) hJ (by rw[a3];exact Le.refl _) ?_;rw[<-a3] at eQ;clear a3;refine aJ hJ fun pr=>?_;apply ah hJ;apply aa _;have h':=Option.some.inj h;clear h;subst h';refine en ?_;exact ⟨_,eQ,Le.sub (List.Sublist.refl _)⟩
 try simp only[Int.ofNat_lt] at a2
 refine aM hJ ak ?_;apply aR hJ;apply af hJ;refine aJ hJ fun ps=>?_;refine eG hJ mixed [13,14,15] (.pure 0 (.pure 1 (.pure 2 (.pure 3 (.pure 4 (.pure 5 (.pure 6 (.rd 7 (.pure 8 (.pure 9 (.pure 10 (.rd 11 (.pure 12 (.last 13 (.pure 14 (.last 15 .done)))))))))))))))) ⟨ro,[(b,Obj.cells f 3)]⟩ ak aT ?_;have h':=an h;clear h;obtain ⟨a4,hN,h⟩:=h';obtain ⟨pt,pv,pw,px⟩:=e.cK hN;have h':=an h;clear h;obtain ⟨a5,hP,h⟩:=h';obtain ⟨hQ,hR,py,pA⟩:=e.cK hP;have eS:=e.fE hQ hR a4;have h':=an h;clear h;obtain ⟨pB,hS,h⟩:=h';obtain ⟨hT,hV,pC,pD⟩:=eS.cK hS;have e0:=eS.fE hT hV a5;try apply aa _
 apply af hJ;obtain ⟨e1,a6⟩:∃o,o=(bS (bS f (i).toNat [.int .i64 a4]) (w).toNat [.int .i64 a5]):=⟨_,rfl⟩
 refine cv (F:=⟨ro,[(b,Obj.cells e1 3)]⟩) hJ (by rw[a6];exact Le.refl _) ?_;rw[<-a6] at e0;clear a6;refine aJ hJ fun pT=>?_;apply ah hJ;apply aa _;apply af hJ;refine aJ hJ fun p0=>?_;apply ah hJ;apply aa _;have h':=an h;clear h;obtain ⟨hX,h,hY⟩:=h';refine fO hJ (fun a F'=>∃(T:Array Value) (Z:Int) (a7:(List Int)),some (Fl.bk (Z,a7):Fl (Int×(List Int)) ((Int×Bool)×(List Int)))=some hX/\F'=⟨ro,[(b,Obj.cells T 3)]⟩/\bx rI ro 3 (.slice (some ⟨b,0,none⟩) u0.length c2) a7 [(b,Obj.cells T 3)]/\sz a=168/\a.defers=[]/\slot a 0= .slice (some ⟨b,0,none⟩) u0.length c2/\slot a 1= .int .i64 c/\slot a 8= .int .i64 0/\slot a 9= .bool false/\slot a 11= .int .i64 Z) ?_ ?_
 .apply aY hJ;have h':=an h;clear h;obtain ⟨hZ,U,h0⟩:=h';have h:=True.intro;refine bO hJ [10,11,99,100,101,102,103,104,105,106,107,108,109,110,111,112,113,114,115,116,117,118,119,120,121,122,123,124,125,126,127,128,129,130,131,132,133,134,135,136,137,138,139,140,141,142,143,144,145,146,147,148,149,150,151,152] (fun m a F'=>∃(d:Array Value) (ab:Int) (y:Int) (z:(List Int)),bg (tX c) m (ab,y,z)=some hZ/\F'=⟨ro,[(b,Obj.cells d 3)]⟩/\bx rI ro 3 (.slice (some ⟨b,0,none⟩) u0.length c2) z [(b,Obj.cells d 3)]/\slot a 10= .int .i64 ab/\slot a 11= .int .i64 y) fu ?_ ?_
  .refine ⟨e1,(IntKind.i64.wrap (i+1)),(IntKind.i64.wrap (w - 1)),((((u0.set (c).toNat N).set (E).toNat O).set (i).toNat a4).set (w).toNat a5),U,rfl,e0,?_⟩;simp only[*,go_sem,-h]
  rintro a8 g F' B ⟨d,ab,y,z,U,rfl,q,e2,e3⟩;have h:=True.intro;have fa:sz g=168:=by rw[B.size];simp only[*,go_sem,-h]
  have fb:g.defers=[]:=by rw[B.defers];simp only[*,go_sem,-h]
  have fc:slot g 0= .slice (some ⟨b,0,none⟩) u0.length c2:=by rw[B.ay 0 av];simp only[*,go_sem,-h]
  have fg:slot g 1= .int .i64 c:=by rw[B.ay 1 av];simp only[*,go_sem,-h]
  have fh:slot g 8= .int .i64 0:=by rw[B.ay 8 av];simp only[*,go_sem,-h]
  have fi:slot g 9= .bool false:=by rw[B.ay 9 av];simp only[*,go_sem,-h]
  clear B dv dC dE dT ea eb ec ed;obtain _|a8:=a8
  .exact absurd U (by simp only[bg,reduceCtorEq,not_false_eq_true])
  have h':=an U;clear U h;obtain ⟨p1,h,a9⟩:=h';unfold tX at h;try dsimp only at h
  apply aY hJ;have h':=an h;clear h;obtain ⟨h1,h,h2⟩:=h';refine fO hJ (fun a F'=>∃(j:Int),some (Fl.bk j:Fl Int ((Int×Bool)×(List Int)))=some h1/\F'=⟨ro,[(b,Obj.cells d 3)]⟩/\sz a=168/\a.defers=[]/\cq [10,11,99,100,101,102,103,104,105,106,107,108,109,110,111,112,113,114,115,116,117,118,119,120,121,122,123,124,125,126,127,128,129,130,131,132,133,134,135,136,137,138,139,140,141,142,143,144,145,146,147,148,149,150,151,152] a g/\slot a 0= .slice (some ⟨b,0,none⟩) u0.length c2/\slot a 1= .int .i64 c/\slot a 8= .int .i64 0/\slot a 9= .bool false/\slot a 10= .int .i64 j/\slot a 11= .int .i64 y) ?_ ?_
  .apply aY hJ;have h':=an h;clear h;obtain ⟨h3,V,fj⟩:=h';have h:=True.intro;refine bO hJ [10,99,100,101,102,103,104,105,106,107,108,109,110,111,112,113,114] (fun m a F'=>∃(K:Int),bg (tU c y z) m K=some h3/\F'=⟨ro,[(b,Obj.cells d 3)]⟩/\slot a 10= .int .i64 K) fu ?_ ?_
   .refine ⟨ab,V,rfl,?_⟩;simp only[*,go_sem,-h]
   rintro ba s F' k ⟨K,V,rfl,qe⟩;have h:=True.intro;have qk:sz s=168:=by rw[k.size];simp only[*,go_sem,-h]
   have q0:s.defers=[]:=by rw[k.defers];simp only[*,go_sem,-h]
   have q1:slot s 0= .slice (some ⟨b,0,none⟩) u0.length c2:=by rw[k.ay 0 av];simp only[*,go_sem,-h]
   have ra:slot s 1= .int .i64 c:=by rw[k.ay 1 av];simp only[*,go_sem,-h]
   have rb:slot s 8= .int .i64 0:=by rw[k.ay 8 av];simp only[*,go_sem,-h]
   have re:slot s 9= .bool false:=by rw[k.ay 9 av];simp only[*,go_sem,-h]
   have rh:slot s 11= .int .i64 y:=by rw[k.ay 11 av];simp only[*,go_sem,-h]
   have rk:cq [10,11,99,100,101,102,103,104,105,106,107,108,109,110,111,112,113,114,115,116,117,118,119,120,121,122,123,124,125,126,127,128,129,130,131,132,133,134,135,136,137,138,139,140,141,142,143,144,145,146,147,148,149,150,151,152] s g:=(k.cR av).trans ak;clear k fa fb fc fg fh fi e2 e3;obtain _|ba:=ba
   .exact absurd V (by simp only[bg,reduceCtorEq,not_false_eq_true])
   have h':=an V;clear V h;obtain ⟨rl,h,W⟩:=h';unfold tU at h;(try dsimp only at h);apply af hJ;apply af hJ;refine aJ hJ fun rn=>?_;refine cu hJ mixed 14 ⟨ro,[(b,Obj.cells d 3)]⟩ ak aT ?_;have h':=aD h;clear h;rcases h' with ⟨bb,h⟩|⟨bb,h⟩
   ·(try simp only[Int.ofNat_lt] at bb);have h':=an h;clear h;obtain ⟨h4,h5,h⟩:=h';obtain ⟨rp,rr,rv,rB⟩:=q.cK h5;have h':=an h;clear h;obtain ⟨h6,h7,h⟩:=h';obtain ⟨rL,sa,sb,sc⟩:=q.cK h7;have h':=an h;clear h;obtain ⟨sf,h8,h⟩:=h';(try apply aa _);refine ⟨_,eo hJ fun F hF=>iO h4 h6 h8,e6 ?_⟩;(try apply aa _);have h':=aD h;clear h;rcases h' with ⟨bc,h⟩|⟨bc,h⟩
    ·(try simp only[Int.ofNat_lt] at bc);refine aN hJ ak ?_;apply aR hJ;apply aY hJ;refine aJ hJ fun sg=>?_;apply ah hJ;apply aa _;have h':=Option.some.inj h;clear h;subst h';have h:=True.intro;(try apply aa _);refine ⟨ba,Nat.lt_succ_self _,_,Le.sub (List.Sublist.refl _),(IntKind.i64.wrap (K+1)),W,rfl,?_⟩;simp only[*,go_sem,-h]
    (try simp only[Int.ofNat_lt] at bc);refine aM hJ ak ?_;apply bI;simp only[go_sem];have h':=Option.some.inj h;clear h;subst h';have h':=Option.some.inj W;clear W;subst h';have h:=fj;dsimp only[aH] at h;(try apply aa _);refine Qn.intro ⟨_,Le.sub (List.Sublist.refl _),K,h,rfl,?_⟩;simp only[*,go_sem,-h]
   (try simp only[Int.ofNat_lt] at bb);(try apply aa _);refine aM hJ ak ?_;apply bI;simp only[go_sem];have h':=Option.some.inj h;clear h;subst h';have h':=Option.some.inj W;clear W;subst h';have h:=fj;dsimp only[aH] at h;(try apply aa _);refine Qn.intro ⟨_,Le.sub (List.Sublist.refl _),K,h,rfl,?_⟩;simp only[*,go_sem,-h]
  rintro sh F' ⟨j,fl,rfl,fp,fr,sl,fs,ft,fv,fw,fx,fz⟩;have h':=Option.some.inj fl;clear fl;subst h';have h:=h2;dsimp only[aH] at h;clear fa fb fc fg fh fi e2 e3;have h':=an h;clear h;obtain ⟨h9,h,ib⟩:=h';refine fO hJ (fun a F'=>∃(C:Int),some (Fl.bk C:Fl Int ((Int×Bool)×(List Int)))=some h9/\F'=⟨ro,[(b,Obj.cells d 3)]⟩/\sz a=168/\a.defers=[]/\cq [10,11,99,100,101,102,103,104,105,106,107,108,109,110,111,112,113,114,115,116,117,118,119,120,121,122,123,124,125,126,127,128,129,130,131,132,133,134,135,136,137,138,139,140,141,142,143,144,145,146,147,148,149,150,151,152] a g/\slot a 0= .slice (some ⟨b,0,none⟩) u0.length c2/\slot a 1= .int .i64 c/\slot a 8= .int .i64 0/\slot a 9= .bool false/\slot a 10= .int .i64 j/\slot a 11= .int .i64 C) ?_ ?_
  .apply aY hJ;have h':=an h;clear h;obtain ⟨ih,X,gg⟩:=h';have h:=True.intro;refine bO hJ [11,115,116,117,118,119,120,121,122,123,124,125,126,127,128,129,130,131] (fun m a F'=>∃(L:Int),bg (tV c z j) m L=some ih/\F'=⟨ro,[(b,Obj.cells d 3)]⟩/\slot a 11= .int .i64 L) fu ?_ ?_
   .refine ⟨y,X,rfl,?_⟩;simp only[*,go_sem,-h]
   rintro bd t F' l ⟨L,X,rfl,sm⟩;have h:=True.intro;have sn:sz t=168:=by rw[l.size];simp only[*,go_sem,-h]
   have ss:t.defers=[]:=by rw[l.defers];simp only[*,go_sem,-h]
   have sy:slot t 0= .slice (some ⟨b,0,none⟩) u0.length c2:=by rw[l.ay 0 av];simp only[*,go_sem,-h]
   have sT:slot t 1= .int .i64 c:=by rw[l.ay 1 av];simp only[*,go_sem,-h]
   have ta:slot t 8= .int .i64 0:=by rw[l.ay 8 av];simp only[*,go_sem,-h]
   have tb:slot t 9= .bool false:=by rw[l.ay 9 av];simp only[*,go_sem,-h]
   have te:slot t 10= .int .i64 j:=by rw[l.ay 10 av];simp only[*,go_sem,-h]
   have ti:cq [10,11,99,100,101,102,103,104,105,106,107,108,109,110,111,112,113,114,115,116,117,118,119,120,121,122,123,124,125,126,127,128,129,130,131,132,133,134,135,136,137,138,139,140,141,142,143,144,145,146,147,148,149,150,151,152] t g:=(l.cR av).trans ak;clear l fp fr fs ft fv fw fx fz;obtain _|bd:=bd
   .exact absurd X (by simp only[bg,reduceCtorEq,not_false_eq_true])
   have h':=an X;clear X h;obtain ⟨tk,h,Y⟩:=h';unfold tV at h;(try dsimp only at h);apply af hJ;apply af hJ;refine aJ hJ fun tl=>?_;refine cu hJ mixed 15 ⟨ro,[(b,Obj.cells d 3)]⟩ ak aT ?_;have h':=aD h;clear h;rcases h' with ⟨bj,h⟩|⟨bj,h⟩
   ·(try simp only[Int.ofNat_lt] at bj);have h':=an h;clear h;obtain ⟨ik,il,h⟩:=h';obtain ⟨tm,tp,ts,tt⟩:=q.cK il;have h':=an h;clear h;obtain ⟨im,iv,h⟩:=h';obtain ⟨tx,tz,tI,tM⟩:=q.cK iv;have h':=an h;clear h;obtain ⟨tW,ix,h⟩:=h';(try apply aa _);refine ⟨_,eo hJ fun F hF=>iO ik im ix,e6 ?_⟩;(try apply aa _);have h':=aD h;clear h;rcases h' with ⟨bm,h⟩|⟨bm,h⟩
    ·(try simp only[Int.ofNat_lt] at bm);refine aN hJ ak ?_;apply aR hJ;apply aY hJ;refine aJ hJ fun ub=>?_;apply ah hJ;apply aa _;have h':=Option.some.inj h;clear h;subst h';have h:=True.intro;(try apply aa _);refine ⟨bd,Nat.lt_succ_self _,_,Le.sub (List.Sublist.refl _),(IntKind.i64.wrap (L - 1)),Y,rfl,?_⟩;simp only[*,go_sem,-h]
    (try simp only[Int.ofNat_lt] at bm);refine aM hJ ak ?_;apply bI;simp only[go_sem];have h':=Option.some.inj h;clear h;subst h';have h':=Option.some.inj Y;clear Y;subst h';have h:=gg;dsimp only[aH] at h;(try apply aa _);refine Qn.intro ⟨_,Le.sub (List.Sublist.refl _),L,h,rfl,?_⟩;simp only[*,go_sem,-h]
   (try simp only[Int.ofNat_lt] at bj);(try apply aa _);refine aM hJ ak ?_;apply bI;simp only[go_sem];have h':=Option.some.inj h;clear h;subst h';have h':=Option.some.inj Y;clear Y;subst h';have h:=gg;dsimp only[aH] at h;(try apply aa _);refine Qn.intro ⟨_,Le.sub (List.Sublist.refl _),L,h,rfl,?_⟩;simp only[*,go_sem,-h]
  rintro ui F' ⟨C,gj,rfl,u1,u2,u3,u4,va,vd,vf,vs,vx⟩;have h':=Option.some.inj gj;clear gj;subst h';have h:=ib;dsimp only[aH] at h;clear fp fr fs ft fv fw fx fz;apply af hJ;apply af hJ;refine aJ hJ fun vy=>?_;apply ah hJ;apply aa _;have h':=aD h;clear h;rcases h' with ⟨bo,h⟩|⟨bo,h⟩
  ·(try simp only[Int.ofNat_lt] at bo);refine aN hJ ak ?_;apply bI;simp only[go_sem];have h':=Option.some.inj h;clear h;subst h';have h':=Option.some.inj a9;clear a9;subst h';have h:=h0;dsimp only[aH] at h;(try apply aa _);refine Qn.intro ⟨_,Le.sub (List.Sublist.refl _),d,C,z,h,rfl,q,?_⟩;simp only[*,go_sem,-h]
  try simp only[Int.ofNat_lt] at bo
  refine aM hJ ak ?_;apply aR hJ;apply af hJ;refine aJ hJ fun vP=>?_;refine eG hJ mixed [13,14,15] (.pure 0 (.pure 1 (.pure 2 (.pure 3 (.pure 4 (.pure 5 (.pure 6 (.rd 7 (.pure 8 (.pure 9 (.pure 10 (.rd 11 (.pure 12 (.last 13 (.pure 14 (.last 15 .done)))))))))))))))) ⟨ro,[(b,Obj.cells d 3)]⟩ ak aT ?_;have h':=an h;clear h;obtain ⟨br,j1,h⟩:=h';obtain ⟨v3,wa,wb,wc⟩:=q.cK j1;have h':=an h;clear h;obtain ⟨bs,j2,h⟩:=h';obtain ⟨kh,kj,wi,wx⟩:=q.cK j2;have gl:=q.fE kh kj br;have h':=an h;clear h;obtain ⟨wy,kk,h⟩:=h';obtain ⟨kl,km,w0,xa⟩:=gl.cK kk;have gn:=gl.fE kl km bs;try apply aa _
  apply af hJ;obtain ⟨gp,b0⟩:∃o,o=(bS (bS d (j).toNat [.int .i64 br]) (C).toNat [.int .i64 bs]):=⟨_,rfl⟩
  refine cv (F:=⟨ro,[(b,Obj.cells gp 3)]⟩) hJ (by rw[b0];exact Le.refl _) ?_;rw[<-b0] at gn;clear b0;refine aJ hJ fun xc=>?_;apply ah hJ;apply aa _;refine aJ hJ fun xf=>?_;apply ah hJ;apply aa _;have h':=Option.some.inj h;clear h;subst h';have h:=True.intro;try apply aa _
  refine ⟨a8,Nat.lt_succ_self _,_,Le.sub (List.Sublist.refl _),gp,(IntKind.i64.wrap (j+1)),(IntKind.i64.wrap (C - 1)),((z.set (j).toNat br).set (C).toNat bs),a9,rfl,gn,?_⟩;simp only[*,go_sem,-h]
 rintro xi F' ⟨T,Z,a7,gy,rfl,b1,xn,xr,xt,xv,x0,x1,x2⟩;have h':=Option.some.inj gy;clear gy;subst h';have h:=hY;dsimp only[aH] at h;clear dv dC dE dT ea eb ec ed;apply af hJ;refine aJ hJ fun x3=>?_;refine eG hJ mixed [13,14,15] (.pure 0 (.pure 1 (.pure 2 (.pure 3 (.pure 4 (.pure 5 (.pure 6 (.rd 7 (.pure 8 (.pure 9 (.pure 10 (.rd 11 (.pure 12 (.last 13 (.pure 14 (.last 15 .done)))))))))))))))) ⟨ro,[(b,Obj.cells T 3)]⟩ ak aT ?_;have h':=an h;clear h;obtain ⟨g0,kn,h⟩:=h';obtain ⟨yi,yk,yn,yr⟩:=b1.cK kn;have h':=an h;clear h;obtain ⟨g1,kp,h⟩:=h';obtain ⟨kq,ks,ys,yv⟩:=b1.cK kp;have g2:=b1.fE kq ks g0;have h':=an h;clear h;obtain ⟨y0,kt,h⟩:=h';obtain ⟨kv,kx,y1,zc⟩:=g2.cK kt;have g3:=g2.fE kv kx g1;try apply aa _
 apply af hJ;obtain ⟨ky,b2⟩:∃o,o=(bS (bS T (Z).toNat [.int .i64 g0]) (c).toNat [.int .i64 g1]):=⟨_,rfl⟩
 refine cv (F:=⟨ro,[(b,Obj.cells ky 3)]⟩) hJ (by rw[b2];exact Le.refl _) ?_;rw[<-b2] at g3;clear b2;refine aJ hJ fun zd=>?_;apply ah hJ;apply aa _;have h':=Option.some.inj h;clear h;subst h';refine en ?_;exact ⟨_,g3,Le.sub (List.Sublist.refl _)⟩
def tZ (b:Int)(c:Int)(a:(List Int))(st:Int):Option (Fl Int (Int×(List Int))):=
 cond (decide (st<=c)) (ax (bM a b) fun d=>ax (bM a st) fun e=>ax (gO d e) fun f=>cond (!f) (some (.nx (IntKind.i64.wrap (st+1)))) (some (.bk st))) (some (.bk st))
def ua (b:Int)(a:(List Int))(c:Int)(st:Int):Option (Fl Int (Int×(List Int))):=
 cond (decide (c<=st)) (ax (bM a b) fun d=>ax (bM a st) fun e=>ax (gO d e) fun f=>cond (f) (some (.nx (IntKind.i64.wrap (st - 1)))) (some (.bk st))) (some (.bk st))
def uf (c:Int)(st:(Int×Int×(List Int))):Option (Fl (Int×Int×(List Int)) (Int×(List Int))):=
 ax (ax (bg (tZ c st.2.1 st.2.2) fu st.1) fun o=>aH o (fun e=>some (.bk e)) (fun _ _=>none) (fun r=>some (.rt r)):Option (Fl Int (Int×(List Int)))) fun o=>aH o (fun a=>ax (ax (bg (ua c st.2.2 a) fu st.2.1) fun o=>aH o (fun f=>some (.bk f)) (fun _ _=>none) (fun r=>some (.rt r)):Option (Fl Int (Int×(List Int)))) fun o=>aH o (fun b=>cond (decide (b<a)) (some (.bk (a,b,st.2.2))) (ax (bM st.2.2 b) fun d=>ax (bM st.2.2 a) fun g=>ax (bM (st.2.2.set (a).toNat d) b) fun h=>some (.nx ((IntKind.i64.wrap (a+1)),(IntKind.i64.wrap (b - 1)),((st.2.2.set (a).toNat d).set (b).toNat g))))) (fun _ _=>none) (fun r=>some (.rt r))) (fun _ _=>none) (fun r=>some (.rt r))
def ug (u0:(List Int))(a:Int)(f:Int)(b:Int):Option (Int×(List Int)):=
 cond (List.isEmpty u0) none (ax (bM u0 b) fun c=>ax (bM u0 a) fun g=>ax (bM (u0.set (a).toNat c) b) fun h=>ax (ax (bg (uf a) fu ((IntKind.i64.wrap (a+1)),(IntKind.i64.wrap (f - 1)),((u0.set (a).toNat c).set (b).toNat g))) fun o=>aH o (fun d=>some (.bk (d.1,d.2.2))) (fun _ _=>none) (fun r=>some (.rt r)):Option (Fl (Int×(List Int)) (Int×(List Int)))) fun o=>aH o (fun e=>some (e.1,e.2)) (fun _ _=>none) (fun r=>some r))
theorem Ei {ro:Addr->Option Value}(u0:(List Int)){b5:Value}{ab:List (Nat×Obj)}(w:bx rI ro 3 b5 u0 ab)(c:Int)(H:Int)(D:Int){r:(Int×(List Int))}(h:ug u0 c H D=some r):aF Tryz.prog 187 #[b5,.int .i64 c,.int .i64 H,.int .i64 D] ⟨ro,ab⟩ (fun v G=>∃ad,(v= .int .i64 r.1/\bx rI ro 3 b5 r.2 ad)/\Le ⟨ro,ad⟩ G):=by
 obtain ⟨d1,c2,rfl,fg⟩:=w.len;unfold ug at h;have h':=aD h;clear h;rcases h' with ⟨ae,h⟩|⟨ae,h⟩
 .cases h
 obtain ⟨b,al,rfl,rfl,fh⟩:=w.fL ae;refine aF.go Tryz.func187 rfl Tryz.ntmps187 Tryz.results187 aB fun main J hJ A ao hd hs=>?_;have ar:=hs 0;have k1:=hs 1;have a0:=hs 2;have a2:=hs 3;clear hs;apply af hJ;refine aJ hJ fun fi=>?_;apply ah hJ;apply aa _;apply af hJ;refine aJ hJ fun fj=>?_;refine eG hJ mixed [13,14,15] (.pure 0 (.pure 1 (.pure 2 (.pure 3 (.pure 4 (.pure 5 (.pure 6 (.rd 7 (.pure 8 (.pure 9 (.pure 10 (.rd 11 (.pure 12 (.last 13 (.pure 14 (.last 15 .done)))))))))))))))) ⟨ro,[(b,Obj.cells al 3)]⟩ ak aT ?_;have h':=an h;clear h;obtain ⟨I,cf,h⟩:=h';obtain ⟨fl,fp,fr,fs⟩:=w.cK cf;have h':=an h;clear h;obtain ⟨K,ck,h⟩:=h';obtain ⟨cl,cy,ft,fv⟩:=w.cK ck;have a3:=w.fE cl cy I;have h':=an h;clear h;obtain ⟨fw,c0,h⟩:=h';obtain ⟨da,db,fx,fz⟩:=a3.cK c0;have a4:=a3.fE da db K;try apply aa _
 apply af hJ;obtain ⟨a5,L⟩:∃o,o=(bS (bS al (c).toNat [.int .i64 I]) (D).toNat [.int .i64 K]):=⟨_,rfl⟩
 refine cv (F:=⟨ro,[(b,Obj.cells a5 3)]⟩) hJ (by rw[L];exact Le.refl _) ?_;rw[<-L] at a4;clear L;refine aJ hJ fun gg=>?_;apply ah hJ;apply aa _;have h':=an h;clear h;obtain ⟨dd,h,df⟩:=h';refine fO hJ (fun a F'=>∃(M:Array Value) (N:Int) (O:(List Int)),some (Fl.bk (N,O):Fl (Int×(List Int)) (Int×(List Int)))=some dd/\F'=⟨ro,[(b,Obj.cells M 3)]⟩/\bx rI ro 3 (.slice (some ⟨b,0,none⟩) u0.length c2) O [(b,Obj.cells M 3)]/\sz a=84/\a.defers=[]/\slot a 0= .slice (some ⟨b,0,none⟩) u0.length c2/\slot a 8= .int .i64 0/\slot a 9= .int .i64 N) ?_ ?_
 .apply aY hJ;have h':=an h;clear h;obtain ⟨dk,x,dp⟩:=h';have h:=True.intro;refine bO hJ [9,10,29,30,31,32,33,34,35,36,37,38,39,40,41,42,43,44,45,46,47,48,49,50,51,52,53,54,55,56,57,58,59,60,61,62,63,64,65,66,67,68,69,70,71,72,73,74,75,76,77,78,79,80,81,82] (fun m a F'=>∃(d:Array Value) (E:Int) (k:Int) (l:(List Int)),bg (uf c) m (E,k,l)=some dk/\F'=⟨ro,[(b,Obj.cells d 3)]⟩/\bx rI ro 3 (.slice (some ⟨b,0,none⟩) u0.length c2) l [(b,Obj.cells d 3)]/\slot a 9= .int .i64 E/\slot a 10= .int .i64 k) fu ?_ ?_
  .refine ⟨a5,(IntKind.i64.wrap (c+1)),(IntKind.i64.wrap (H - 1)),((u0.set (c).toNat I).set (D).toNat K),x,rfl,a4,?_⟩;simp only[*,go_sem,-h]
  rintro m2 f F' q ⟨d,E,k,l,x,rfl,g,a6,a7⟩;have h:=True.intro;have a8:sz f=84:=by rw[q.size];simp only[*,go_sem,-h]
  have a9:f.defers=[]:=by rw[q.defers];simp only[*,go_sem,-h]
  have ba:slot f 0= .slice (some ⟨b,0,none⟩) u0.length c2:=by rw[q.ay 0 av];simp only[*,go_sem,-h]
  have bb:slot f 1= .int .i64 c:=by rw[q.ay 1 av];simp only[*,go_sem,-h]
  have bc:slot f 8= .int .i64 0:=by rw[q.ay 8 av];simp only[*,go_sem,-h]
  clear q ao hd ar k1 a0 a2;obtain _|m2:=m2
  .exact absurd x (by simp only[bg,reduceCtorEq,not_false_eq_true])
  have h':=an x;clear x h;obtain ⟨gj,h,P⟩:=h';unfold uf at h;try dsimp only at h
  apply aY hJ;have h':=an h;clear h;obtain ⟨dq,h,ds⟩:=h';refine fO hJ (fun a F'=>∃(e:Int),some (Fl.bk e:Fl Int (Int×(List Int)))=some dq/\F'=⟨ro,[(b,Obj.cells d 3)]⟩/\sz a=84/\a.defers=[]/\cq [9,10,29,30,31,32,33,34,35,36,37,38,39,40,41,42,43,44,45,46,47,48,49,50,51,52,53,54,55,56,57,58,59,60,61,62,63,64,65,66,67,68,69,70,71,72,73,74,75,76,77,78,79,80,81,82] a f/\slot a 0= .slice (some ⟨b,0,none⟩) u0.length c2/\slot a 1= .int .i64 c/\slot a 8= .int .i64 0/\slot a 9= .int .i64 e/\slot a 10= .int .i64 k) ?_ ?_
  .apply aY hJ;have h':=an h;clear h;obtain ⟨dt,y,bd⟩:=h';have h:=True.intro;refine bO hJ [9,29,30,31,32,33,34,35,36,37,38,39,40,41,42,43,44,45] (fun m a F'=>∃(s:Int),bg (tZ c k l) m s=some dt/\F'=⟨ro,[(b,Obj.cells d 3)]⟩/\slot a 9= .int .i64 s) fu ?_ ?_
   .refine ⟨E,y,rfl,?_⟩;simp only[*,go_sem,-h]
   rintro Q n F' i ⟨s,y,rfl,gl⟩;have h:=True.intro;have gn:sz n=84:=by rw[i.size];simp only[*,go_sem,-h]
   have gp:n.defers=[]:=by rw[i.defers];simp only[*,go_sem,-h]
   have gy:slot n 0= .slice (some ⟨b,0,none⟩) u0.length c2:=by rw[i.ay 0 av];simp only[*,go_sem,-h]
   have g0:slot n 1= .int .i64 c:=by rw[i.ay 1 av];simp only[*,go_sem,-h]
   have g1:slot n 8= .int .i64 0:=by rw[i.ay 8 av];simp only[*,go_sem,-h]
   have g2:slot n 10= .int .i64 k:=by rw[i.ay 10 av];simp only[*,go_sem,-h]
   have g3:cq [9,10,29,30,31,32,33,34,35,36,37,38,39,40,41,42,43,44,45,46,47,48,49,50,51,52,53,54,55,56,57,58,59,60,61,62,63,64,65,66,67,68,69,70,71,72,73,74,75,76,77,78,79,80,81,82] n f:=(i.cR av).trans ak;clear i a8 a9 ba bb bc a6 a7;obtain _|Q:=Q
   .exact absurd y (by simp only[bg,reduceCtorEq,not_false_eq_true])
   have h':=an y;clear y h;obtain ⟨g4,h,z⟩:=h';unfold tZ at h;(try dsimp only at h);apply af hJ;apply af hJ;refine aJ hJ fun g7=>?_;refine cu hJ mixed 15 ⟨ro,[(b,Obj.cells d 3)]⟩ ak aT ?_;have h':=aD h;clear h;rcases h' with ⟨R,h⟩|⟨R,h⟩
   ·(try simp only[Int.ofNat_lt] at R);have h':=an h;clear h;obtain ⟨du,dv,h⟩:=h';obtain ⟨ha,hc,hf,hg⟩:=g.cK dv;have h':=an h;clear h;obtain ⟨dC,dE,h⟩:=h';obtain ⟨hh,hi,hj,hk⟩:=g.cK dE;have h':=an h;clear h;obtain ⟨hl,dT,h⟩:=h';(try apply aa _);refine ⟨_,eo hJ fun F hF=>iO du dC dT,e6 ?_⟩;(try apply aa _);have h':=aD h;clear h;rcases h' with ⟨S,h⟩|⟨S,h⟩
    ·(try simp only[Int.ofNat_lt] at S);refine aN hJ ak ?_;apply aR hJ;apply aY hJ;refine aJ hJ fun hn=>?_;apply ah hJ;apply aa _;have h':=Option.some.inj h;clear h;subst h';have h:=True.intro;(try apply aa _);refine ⟨Q,Nat.lt_succ_self _,_,Le.sub (List.Sublist.refl _),(IntKind.i64.wrap (s+1)),z,rfl,?_⟩;simp only[*,go_sem,-h]
    (try simp only[Int.ofNat_lt] at S);refine aM hJ ak ?_;apply bI;simp only[go_sem];have h':=Option.some.inj h;clear h;subst h';have h':=Option.some.inj z;clear z;subst h';have h:=bd;dsimp only[aH] at h;(try apply aa _);refine Qn.intro ⟨_,Le.sub (List.Sublist.refl _),s,h,rfl,?_⟩;simp only[*,go_sem,-h]
   (try simp only[Int.ofNat_lt] at R);(try apply aa _);refine aM hJ ak ?_;apply bI;simp only[go_sem];have h':=Option.some.inj h;clear h;subst h';have h':=Option.some.inj z;clear z;subst h';have h:=bd;dsimp only[aH] at h;(try apply aa _);refine Qn.intro ⟨_,Le.sub (List.Sublist.refl _),s,h,rfl,?_⟩;simp only[*,go_sem,-h]
  rintro ho F' ⟨e,bj,rfl,bm,bo,hp,br,bs,b0,b1,b2⟩;have h':=Option.some.inj bj;clear bj;subst h';have h:=ds;dsimp only[aH] at h;clear a8 a9 ba bb bc a6 a7;have h':=an h;clear h;obtain ⟨ea,h,eb⟩:=h';refine fO hJ (fun a F'=>∃(t:Int),some (Fl.bk t:Fl Int (Int×(List Int)))=some ea/\F'=⟨ro,[(b,Obj.cells d 3)]⟩/\sz a=84/\a.defers=[]/\cq [9,10,29,30,31,32,33,34,35,36,37,38,39,40,41,42,43,44,45,46,47,48,49,50,51,52,53,54,55,56,57,58,59,60,61,62,63,64,65,66,67,68,69,70,71,72,73,74,75,76,77,78,79,80,81,82] a f/\slot a 0= .slice (some ⟨b,0,none⟩) u0.length c2/\slot a 1= .int .i64 c/\slot a 8= .int .i64 0/\slot a 9= .int .i64 e/\slot a 10= .int .i64 t) ?_ ?_
  .apply aY hJ;have h':=an h;clear h;obtain ⟨ec,B,b3⟩:=h';have h:=True.intro;refine bO hJ [10,46,47,48,49,50,51,52,53,54,55,56,57,58,59,60,61] (fun m a F'=>∃(u:Int),bg (ua c l e) m u=some ec/\F'=⟨ro,[(b,Obj.cells d 3)]⟩/\slot a 10= .int .i64 u) fu ?_ ?_
   .refine ⟨k,B,rfl,?_⟩;simp only[*,go_sem,-h]
   rintro T p F' j ⟨u,B,rfl,hq⟩;have h:=True.intro;have hr:sz p=84:=by rw[j.size];simp only[*,go_sem,-h]
   have ht:p.defers=[]:=by rw[j.defers];simp only[*,go_sem,-h]
   have hv:slot p 0= .slice (some ⟨b,0,none⟩) u0.length c2:=by rw[j.ay 0 av];simp only[*,go_sem,-h]
   have hx:slot p 1= .int .i64 c:=by rw[j.ay 1 av];simp only[*,go_sem,-h]
   have hy:slot p 8= .int .i64 0:=by rw[j.ay 8 av];simp only[*,go_sem,-h]
   have hz:slot p 9= .int .i64 e:=by rw[j.ay 9 av];simp only[*,go_sem,-h]
   have hA:cq [9,10,29,30,31,32,33,34,35,36,37,38,39,40,41,42,43,44,45,46,47,48,49,50,51,52,53,54,55,56,57,58,59,60,61,62,63,64,65,66,67,68,69,70,71,72,73,74,75,76,77,78,79,80,81,82] p f:=(j.cR av).trans ak;clear j bm bo br bs b0 b1 b2;obtain _|T:=T
   .exact absurd B (by simp only[bg,reduceCtorEq,not_false_eq_true])
   have h':=an B;clear B h;obtain ⟨hB,h,C⟩:=h';unfold ua at h;(try dsimp only at h);apply af hJ;apply af hJ;refine aJ hJ fun hD=>?_;refine cu hJ mixed 14 ⟨ro,[(b,Obj.cells d 3)]⟩ ak aT ?_;have h':=aD h;clear h;rcases h' with ⟨U,h⟩|⟨U,h⟩
   ·(try simp only[Int.ofNat_lt] at U);have h':=an h;clear h;obtain ⟨ed,eh,h⟩:=h';obtain ⟨hE,hG,hH,hI⟩:=g.cK eh;have h':=an h;clear h;obtain ⟨et,ev,h⟩:=h';obtain ⟨hK,hL,hM,hN⟩:=g.cK ev;have h':=an h;clear h;obtain ⟨hP,eQ,h⟩:=h';(try apply aa _);refine ⟨_,eo hJ fun F hF=>iO ed et eQ,e6 ?_⟩;(try apply aa _);have h':=aD h;clear h;rcases h' with ⟨V,h⟩|⟨V,h⟩
    ·(try simp only[Int.ofNat_lt] at V);refine aN hJ ak ?_;apply aR hJ;apply aY hJ;refine aJ hJ fun hQ=>?_;apply ah hJ;apply aa _;have h':=Option.some.inj h;clear h;subst h';have h:=True.intro;(try apply aa _);refine ⟨T,Nat.lt_succ_self _,_,Le.sub (List.Sublist.refl _),(IntKind.i64.wrap (u - 1)),C,rfl,?_⟩;simp only[*,go_sem,-h]
    (try simp only[Int.ofNat_lt] at V);refine aM hJ ak ?_;apply bI;simp only[go_sem];have h':=Option.some.inj h;clear h;subst h';have h':=Option.some.inj C;clear C;subst h';have h:=b3;dsimp only[aH] at h;(try apply aa _);refine Qn.intro ⟨_,Le.sub (List.Sublist.refl _),u,h,rfl,?_⟩;simp only[*,go_sem,-h]
   (try simp only[Int.ofNat_lt] at U);(try apply aa _);refine aM hJ ak ?_;apply bI;simp only[go_sem];have h':=Option.some.inj h;clear h;subst h';have h':=Option.some.inj C;clear C;subst h';have h:=b3;dsimp only[aH] at h;(try apply aa _);refine Qn.intro ⟨_,Le.sub (List.Sublist.refl _),u,h,rfl,?_⟩;simp only[*,go_sem,-h]
  rintro hR F' ⟨t,b4,rfl,hS,hT,hV,hX,hY,hZ,h0,h1⟩;have h':=Option.some.inj b4;clear b4;subst h';have h:=eb;dsimp only[aH] at h;clear bm bo br bs b0 b1 b2;apply af hJ;apply af hJ;refine aJ hJ fun h2=>?_;apply ah hJ;apply aa _;have h':=aD h;clear h;rcases h' with ⟨W,h⟩|⟨W,h⟩
  ·(try simp only[Int.ofNat_lt] at W);refine aN hJ ak ?_;apply bI;simp only[go_sem];have h':=Option.some.inj h;clear h;subst h';have h':=Option.some.inj P;clear P;subst h';have h:=dp;dsimp only[aH] at h;(try apply aa _);refine Qn.intro ⟨_,Le.sub (List.Sublist.refl _),d,e,l,h,rfl,g,?_⟩;simp only[*,go_sem,-h]
  try simp only[Int.ofNat_lt] at W
  refine aM hJ ak ?_;apply aR hJ;apply af hJ;refine aJ hJ fun h3=>?_;refine eG hJ mixed [13,14,15] (.pure 0 (.pure 1 (.pure 2 (.pure 3 (.pure 4 (.pure 5 (.pure 6 (.rd 7 (.pure 8 (.pure 9 (.pure 10 (.rd 11 (.pure 12 (.last 13 (.pure 14 (.last 15 .done)))))))))))))))) ⟨ro,[(b,Obj.cells d 3)]⟩ ak aT ?_;have h':=an h;clear h;obtain ⟨X,eS,h⟩:=h';obtain ⟨h4,h5,h6,h7⟩:=g.cK eS;have h':=an h;clear h;obtain ⟨Y,e0,h⟩:=h';obtain ⟨e1,e2,h8,h9⟩:=g.cK e0;have ca:=g.fE e1 e2 X;have h':=an h;clear h;obtain ⟨ib,e3,h⟩:=h';obtain ⟨fa,fb,ih,ik⟩:=ca.cK e3;have cb:=ca.fE fa fb Y;try apply aa _
  apply af hJ;obtain ⟨cc,Z⟩:∃o,o=(bS (bS d (e).toNat [.int .i64 X]) (t).toNat [.int .i64 Y]):=⟨_,rfl⟩
  refine cv (F:=⟨ro,[(b,Obj.cells cc 3)]⟩) hJ (by rw[Z];exact Le.refl _) ?_;rw[<-Z] at cb;clear Z;refine aJ hJ fun il=>?_;apply ah hJ;apply aa _;refine aJ hJ fun im=>?_;apply ah hJ;apply aa _;have h':=Option.some.inj h;clear h;subst h';have h:=True.intro;try apply aa _
  refine ⟨m2,Nat.lt_succ_self _,_,Le.sub (List.Sublist.refl _),cc,(IntKind.i64.wrap (e+1)),(IntKind.i64.wrap (t - 1)),((l.set (e).toNat X).set (t).toNat Y),P,rfl,cb,?_⟩;simp only[*,go_sem,-h]
 rintro iv F' ⟨M,N,O,cd,rfl,fc,ix,j1,j2,kh,kj⟩;have h':=Option.some.inj cd;clear cd;subst h';have h:=df;dsimp only[aH] at h;clear ao hd ar k1 a0 a2;apply af hJ;refine aJ hJ fun kk=>?_;apply ah hJ;apply aa _;have h':=Option.some.inj h;clear h;subst h';refine en ?_;exact ⟨_,fc,Le.sub (List.Sublist.refl _)⟩
def uh (u0:(List Int))(a:Int)(st:Int):Option (Fl Int (Bool×(List Int))):=
 cond (decide (st<a)) (ax (bM u0 st) fun b=>ax (bM u0 (IntKind.i64.wrap (st - 1))) fun c=>ax (gO b c) fun d=>cond (!d) (some (.nx (IntKind.i64.wrap (st+1)))) (some (.bk st))) (some (.bk st))
def uj (u0:(List Int))(b:Int)(a:Int)(st:(Bool×Int×Int)):Option (Fl (Bool×Int×Int) (Bool×(List Int))):=
 cond (decide (st.2.2<5)) (ax (ax (bg (uh u0 a) fu st.2.1) fun o=>aH o (fun c=>some (.bk c)) (fun _ _=>none) (fun r=>some (.rt r)):Option (Fl Int (Bool×(List Int)))) fun o=>aH o (fun d=>cond ((d==a)) (some (.rt (true,u0))) (cond (decide ((IntKind.i64.wrap (a - b))<50)) (some (.rt (false,u0))) (none))) (fun _ _=>none) (fun r=>some (.rt r))) (some (.bk (st.1,st.2.1,st.2.2)))
def uk (u0:(List Int))(a:Int)(b:Int):Option (Bool×(List Int)):=
 cond (List.isEmpty u0) none (ax (ax (bg (uj u0 a b) fu (false,(IntKind.i64.wrap (a+1)),0)) fun o=>aH o (fun c=>some (.bk c.1)) (fun _ _=>none) (fun r=>some (.rt r)):Option (Fl Bool (Bool×(List Int)))) fun o=>aH o (fun d=>some (false,u0)) (fun _ _=>none) (fun r=>some r))
theorem Ej {ro:Addr->Option Value}(u0:(List Int)){b5:Value}{H:List (Nat×Obj)}(e:bx rI ro 3 b5 u0 H)(f:Int)(g:Int){r:(Bool×(List Int))}(h:uk u0 f g=some r):aF Tryz.prog 185 #[b5,.int .i64 f,.int .i64 g] ⟨ro,H⟩ (fun v G=>∃I,(v= .bool r.1/\bx rI ro 3 b5 r.2 I)/\Le ⟨ro,I⟩ G):=by
 obtain ⟨d1,c2,rfl,a5⟩:=e.len;unfold uk at h;have h':=aD h;clear h;rcases h' with ⟨K,h⟩|⟨K,h⟩
 .cases h
 obtain ⟨d,o,rfl,rfl,a6⟩:=e.fL K;refine aF.go Tryz.func185 rfl Tryz.ntmps185 Tryz.results185 aB fun main J hJ A L hd hs=>?_;have M:=hs 0;have k1:=hs 1;have N:=hs 2;clear hs;apply af hJ;refine aJ hJ fun a7=>?_;apply ah hJ;apply aa _;apply af hJ;refine aJ hJ fun a8=>?_;apply ah hJ;apply aa _;have h':=an h;clear h;obtain ⟨ab,h,u⟩:=h';refine fO hJ (fun a F'=>∃(w:Bool),some (Fl.bk w:Fl Bool (Bool×(List Int)))=some ab/\F'=⟨ro,[(d,Obj.cells o 3)]⟩/\sz a=133/\a.defers=[]/\slot a 0= .slice (some ⟨d,0,none⟩) u0.length c2/\slot a 6= .bool w) ?_ ?_
 .apply af hJ;refine aJ hJ fun a9=>?_;apply ah hJ;apply aa _;apply aY hJ;have h':=an h;clear h;obtain ⟨ad,p,x⟩:=h';have h:=True.intro;refine bO hJ [6,7,8,9,10,13,14,15,16,17,18,19,20,21,22,23,24,25,26,27,28,29,30,31,32,33,34,35,36,37,38,39,40,41,42,43,44,45,46,47,48,49,50,51,52,53,54,55,56,57,58,59,60,61,62,63,64,65,66,67,68,69,70,71,72,73,74,75,76,77,78,79,80,81,82,83,84,85,86,87,88,89,90,91,92,93,94,95,96,97,98,99,100,101,102,103,104,105,106,107,108,109,110,111,112,113,114,115,116,117,118,119,120,121,122,123,124,125,126,127,128,129,130,131,132] (fun m a F'=>∃(j:Bool) (t:Int) (v20:Int),bg (uj u0 f g) m (j,t,v20)=some ad/\F'=⟨ro,[(d,Obj.cells o 3)]⟩/\slot a 6= .bool j/\slot a 7= .int .i64 t/\slot a 8= .int .i64 v20) fu ?_ ?_
  .refine ⟨false,(IntKind.i64.wrap (f+1)),0,p,rfl,?_⟩;simp only[*,go_sem,-h]
  rintro m2 i F' k ⟨j,t,v20,p,rfl,O,P,Q⟩;have h:=True.intro;have R:sz i=133:=by rw[k.size];simp only[*,go_sem,-h]
  have S:i.defers=[]:=by rw[k.defers];simp only[*,go_sem,-h]
  have T:slot i 0= .slice (some ⟨d,0,none⟩) u0.length c2:=by rw[k.ay 0 av];simp only[*,go_sem,-h]
  have U:slot i 1= .int .i64 f:=by rw[k.ay 1 av];simp only[*,go_sem,-h]
  have V:slot i 2= .int .i64 g:=by rw[k.ay 2 av];simp only[*,go_sem,-h]
  clear k L hd M k1 N;obtain _|m2:=m2
  .exact absurd p (by simp only[bg,reduceCtorEq,not_false_eq_true])
  have h':=an p;clear p h;obtain ⟨ba,h,l⟩:=h';unfold uj at h;try dsimp only at h
  apply af hJ;apply af hJ;refine aJ hJ fun bb=>?_;apply ah hJ;apply aa _;have h':=aD h;clear h;rcases h' with ⟨y,h⟩|⟨y,h⟩
  ·(try simp only[Int.ofNat_lt] at y);refine aN hJ ak ?_;apply aR hJ;apply af hJ;apply aY hJ;have h':=an h;clear h;obtain ⟨ae,h,al⟩:=h';refine fO hJ (fun a F'=>∃(z:Int),some (Fl.bk z:Fl Int (Bool×(List Int)))=some ae/\F'=⟨ro,[(d,Obj.cells o 3)]⟩/\sz a=133/\a.defers=[]/\cq [6,7,8,9,10,13,14,15,16,17,18,19,20,21,22,23,24,25,26,27,28,29,30,31,32,33,34,35,36,37,38,39,40,41,42,43,44,45,46,47,48,49,50,51,52,53,54,55,56,57,58,59,60,61,62,63,64,65,66,67,68,69,70,71,72,73,74,75,76,77,78,79,80,81,82,83,84,85,86,87,88,89,90,91,92,93,94,95,96,97,98,99,100,101,102,103,104,105,106,107,108,109,110,111,112,113,114,115,116,117,118,119,120,121,122,123,124,125,126,127,128,129,130,131,132] a i/\slot a 0= .slice (some ⟨d,0,none⟩) u0.length c2/\slot a 1= .int .i64 f/\slot a 2= .int .i64 g/\slot a 6= .bool j/\slot a 7= .int .i64 z/\slot a 8= .int .i64 v20) ?_ ?_
   .apply aY hJ;have h':=an h;clear h;obtain ⟨ao,q,W⟩:=h';have h:=True.intro;refine bO hJ [7,17,18,19,20,21,22,23,24,25,26,27,28,29,30,31,32,33,34] (fun m a F'=>∃(n:Int),bg (uh u0 g) m n=some ao/\F'=⟨ro,[(d,Obj.cells o 3)]⟩/\slot a 7= .int .i64 n) fu ?_ ?_
    .refine ⟨t,q,rfl,?_⟩;simp only[*,go_sem,-h]
    rintro B c F' b ⟨n,q,rfl,bc⟩;have h:=True.intro;have bd:sz c=133:=by rw[b.size];simp only[*,go_sem,-h]
    have bj:c.defers=[]:=by rw[b.defers];simp only[*,go_sem,-h]
    have bm:slot c 0= .slice (some ⟨d,0,none⟩) u0.length c2:=by rw[b.ay 0 av];simp only[*,go_sem,-h]
    have bo:slot c 1= .int .i64 f:=by rw[b.ay 1 av];simp only[*,go_sem,-h]
    have br:slot c 2= .int .i64 g:=by rw[b.ay 2 av];simp only[*,go_sem,-h]
    have bs:slot c 6= .bool j:=by rw[b.ay 6 av];simp only[*,go_sem,-h]
    have b0:slot c 8= .int .i64 v20:=by rw[b.ay 8 av];simp only[*,go_sem,-h]
    have b1:slot c 13= .int .i64 v20:=by rw[b.ay 13 av];simp only[*,go_sem,-h]
    have b2:slot c 14= .bool true:=by rw[b.ay 14 av];simp only[*,go_sem,-h]
    have b3:cq [6,7,8,9,10,13,14,15,16,17,18,19,20,21,22,23,24,25,26,27,28,29,30,31,32,33,34,35,36,37,38,39,40,41,42,43,44,45,46,47,48,49,50,51,52,53,54,55,56,57,58,59,60,61,62,63,64,65,66,67,68,69,70,71,72,73,74,75,76,77,78,79,80,81,82,83,84,85,86,87,88,89,90,91,92,93,94,95,96,97,98,99,100,101,102,103,104,105,106,107,108,109,110,111,112,113,114,115,116,117,118,119,120,121,122,123,124,125,126,127,128,129,130,131,132] c i:=(b.cR av).trans ak;clear b R S T U V O P Q;obtain _|B:=B
    .exact absurd q (by simp only[bg,reduceCtorEq,not_false_eq_true])
    have h':=an q;clear q h;obtain ⟨b4,h,s⟩:=h';unfold uh at h;(try dsimp only at h);apply af hJ;apply af hJ;refine aJ hJ fun ca=>?_;refine cu hJ mixed 16 ⟨ro,[(d,Obj.cells o 3)]⟩ ak aT ?_;have h':=aD h;clear h;rcases h' with ⟨C,h⟩|⟨C,h⟩
    ·(try simp only[Int.ofNat_lt] at C);have h':=an h;clear h;obtain ⟨ar,a0,h⟩:=h';obtain ⟨cb,cc,cd,cf⟩:=e.cK a0;have h':=an h;clear h;obtain ⟨a2,a3,h⟩:=h';obtain ⟨ck,cl,cy,c0⟩:=e.cK a3;have h':=an h;clear h;obtain ⟨da,a4,h⟩:=h';(try apply aa _);refine ⟨_,eo hJ fun F hF=>iO ar a2 a4,e6 ?_⟩;(try apply aa _);have h':=aD h;clear h;rcases h' with ⟨D,h⟩|⟨D,h⟩
     ·(try simp only[Int.ofNat_lt] at D);refine aN hJ ak ?_;apply aR hJ;apply aY hJ;refine aJ hJ fun db=>?_;apply ah hJ;apply aa _;have h':=Option.some.inj h;clear h;subst h';have h:=True.intro;(try apply aa _);refine ⟨B,Nat.lt_succ_self _,_,Le.sub (List.Sublist.refl _),(IntKind.i64.wrap (n+1)),s,rfl,?_⟩;simp only[*,go_sem,-h]
     (try simp only[Int.ofNat_lt] at D);refine aM hJ ak ?_;apply bI;simp only[go_sem];have h':=Option.some.inj h;clear h;subst h';have h':=Option.some.inj s;clear s;subst h';have h:=W;dsimp only[aH] at h;(try apply aa _);refine Qn.intro ⟨_,Le.sub (List.Sublist.refl _),n,h,rfl,?_⟩;simp only[*,go_sem,-h]
    (try simp only[Int.ofNat_lt] at C);(try apply aa _);refine aM hJ ak ?_;apply bI;simp only[go_sem];have h':=Option.some.inj h;clear h;subst h';have h':=Option.some.inj s;clear s;subst h';have h:=W;dsimp only[aH] at h;(try apply aa _);refine Qn.intro ⟨_,Le.sub (List.Sublist.refl _),n,h,rfl,?_⟩;simp only[*,go_sem,-h]
   rintro dd F' ⟨z,X,rfl,df,dk,dp,dq,ds,dt,du,dv,dC⟩;have h':=Option.some.inj X;clear X;subst h';have h:=al;dsimp only[aH] at h;clear R S T U V O P Q;apply af hJ;apply af hJ;refine aJ hJ fun dE=>?_;apply ah hJ;apply aa _;have h':=aD h;clear h;rcases h' with ⟨E,h⟩|⟨E,h⟩
   ·(try simp only[Int.ofNat_lt] at E);refine aN hJ ak ?_;apply af hJ;refine aJ hJ fun dT=>?_;apply ah hJ;apply aa _;have h':=Option.some.inj h;clear h;subst h';have h':=Option.some.inj l;clear l;subst h';have h:=x;dsimp only[aH] at h;have h':=Option.some.inj h;clear h;subst h';have h:=u;dsimp only[aH] at h;have h':=Option.some.inj h;clear h;subst h';refine en ?_;exact ⟨_,e,Le.sub (List.Sublist.refl _)⟩
   (try simp only[Int.ofNat_lt] at E);refine aM hJ ak ?_;apply aR hJ;apply af hJ;apply af hJ;refine aJ hJ fun ea=>?_;apply ah hJ;apply aa _;have h':=aD h;clear h;rcases h' with ⟨Y,h⟩|⟨Y,h⟩
   ·(try simp only[Int.ofNat_lt] at Y);refine aN hJ ak ?_;apply af hJ;refine aJ hJ fun eb=>?_;apply ah hJ;apply aa _;have h':=Option.some.inj h;clear h;subst h';have h':=Option.some.inj l;clear l;subst h';have h:=x;dsimp only[aH] at h;have h':=Option.some.inj h;clear h;subst h';have h:=u;dsimp only[aH] at h;have h':=Option.some.inj h;clear h;subst h';refine en ?_;exact ⟨_,e,Le.sub (List.Sublist.refl _)⟩
   cases h
  try simp only[Int.ofNat_lt] at y
  refine aM hJ ak ?_;apply bI;simp only[go_sem];have h':=Option.some.inj h;clear h;subst h';have h':=Option.some.inj l;clear l;subst h';have h:=x;dsimp only[aH] at h;try apply aa _
  refine Qn.intro ⟨_,Le.sub (List.Sublist.refl _),j,h,rfl,?_⟩;simp only[*,go_sem,-h]
 rintro ec F' ⟨w,Z,rfl,ed,eh,et,ev⟩;have h':=Option.some.inj Z;clear Z;subst h';have h:=u;dsimp only[aH] at h;clear L hd M k1 N;apply af hJ;refine aJ hJ fun eQ=>?_;apply ah hJ;apply aa _;have h':=Option.some.inj h;clear h;subst h';refine en ?_;exact ⟨_,e,Le.sub (List.Sublist.refl _)⟩
def um (st:(Int×Int×Int×Bool×Bool×(List Int))):Option (Fl (Int×Int×Int×Bool×Bool×(List Int)) (Unit×(List Int))):=
 cond (decide ((IntKind.i64.wrap (st.2.1 - st.1))<=12)) (ax (qp st.2.2.2.2.2 st.1 st.2.1) fun j=>some (.rt ((),j.2))) (cond ((st.2.2.1==0)) (none) (ax (cond (!st.2.2.2.1) (ax (tR st.2.2.2.2.2 st.1 st.2.1) fun k=>some (.bk ((IntKind.i64.wrap (st.2.2.1 - 1)),k.2))) (some (.bk (st.2.2.1,st.2.2.2.2.2))):Option (Fl (Int×(List Int)) (Unit×(List Int)))) fun o=>aH o (fun c=>ax (tN c.2 st.1 st.2.1) fun b=>cond ((b.1.2==2)) (none) (ax (cond (st.2.2.2.1) (cond (st.2.2.2.2.1) (cond ((b.1.2==1)) (ax (uk b.2 st.1 st.2.1) fun f=>cond (f.1) (some (.rt ((),f.2))) (some (.bk f.2))) (some (.bk b.2))) (some (.bk b.2))) (some (.bk b.2)):Option (Fl (List Int) (Unit×(List Int)))) fun o=>aH o (fun e=>ax (cond (decide (0<st.1)) (ax (bM e (IntKind.i64.wrap (st.1 - 1))) fun l=>ax (bM e b.1.1) fun m=>ax (gO l m) fun n=>cond (!n) (ax (ug e st.1 st.2.1 b.1.1) fun g=>some (.br 1 (g.1,g.2))) (some (.bk (st.1,e)))) (some (.bk (st.1,e))):Option (Fl (Int×(List Int)) (Unit×(List Int)))) fun o=>aH o (fun d=>ax (tY d.2 d.1 st.2.1 b.1.1) fun a=>ax (nv (IntKind.i64.wrap (st.2.1 - st.1)) 8) fun h=>cond (decide ((IntKind.i64.wrap (a.1.1 - d.1))<(IntKind.i64.wrap (st.2.1 - a.1.1)))) (ax (qq a.2 d.1 a.1.1 c.1) fun p=>some (.nx ((IntKind.i64.wrap (a.1.1+1)),st.2.1,c.1,(decide (h<=(IntKind.i64.wrap (a.1.1 - d.1)))),a.1.2,p.2))) (ax (qq a.2 (IntKind.i64.wrap (a.1.1+1)) st.2.1 c.1) fun q=>some (.nx (d.1,a.1.1,c.1,(decide (h<=(IntKind.i64.wrap (st.2.1 - a.1.1)))),a.1.2,q.2)))) (fun _ i=>some (.nx (i.1,st.2.1,c.1,st.2.2.2.1,st.2.2.2.2.1,i.2))) (fun r=>some (.rt r))) (fun _ _=>none) (fun r=>some (.rt r)))) (fun _ _=>none) (fun r=>some (.rt r))))
def uo (u0:(List Int))(a:Int)(b:Int)(c:Int):Option (Unit×(List Int)):=
 cond (List.isEmpty u0) none (ax (bg (um) fu (a,b,c,true,true,u0)) fun o=>aH o (fun d=>some ((),d.2.2.2.2.2)) (fun _ _=>none) (fun r=>some r))
theorem Ek {ro:Addr->Option Value}(u0:(List Int)){b5:Value}{ao:List (Nat×Obj)}(K:bx rI ro 3 b5 u0 ao)(L:Int)(M:Int)(N:Int){r:(Unit×(List Int))}(h:uo u0 L M N=some r):aF Tryz.prog 161 #[b5,.int .i64 L,.int .i64 M,.int .i64 N] ⟨ro,ao⟩ (fun v G=>∃d,(v= .tuple #[]/\bx rI ro 3 b5 r.2 d)/\Le ⟨ro,d⟩ G):=by
 obtain ⟨d1,c2,rfl,gl⟩:=K.len;unfold uo at h;have h':=aD h;clear h;rcases h' with ⟨ar,h⟩|⟨ar,h⟩
 .cases h
 obtain ⟨b,b1,rfl,rfl,gn⟩:=K.fL ar;refine aF.go Tryz.func161 rfl Tryz.ntmps161 Tryz.results161 aB fun main J hJ A b2 hd hs=>?_;have b3:=hs 0;have k1:=hs 1;have b4:=hs 2;have ca:=hs 3;clear hs;apply af hJ;refine aJ hJ fun gp=>?_;apply ah hJ;apply aa _;apply af hJ;refine aJ hJ fun gy=>?_;apply ah hJ;apply aa _;apply aY hJ;have h':=an h;clear h;obtain ⟨cb,w,a0⟩:=h';have h:=True.intro;refine bO hJ [1,2,3,8,9,10,11,12,13,14,15,16,17,18,19,20,21,22,23,24,25,26,27,28,29,30,31,32,33,34,35,36,37,38,39,40,41,42,43,44,45,46,47,48,49,50,51,52,53,54,55,56,57,58,59,60,61,62,63,64,65,66,67,68,69,70,71,72,73,74,75,76,77,78,79,80,81,82,83,84,85,86,87,88,89,90,91,92,93,94,95,96,97,98,99,100,101,102,103,104,105,106,107,108,109,110,111,112,113,114,115,116,117,118,119,120,121,122,123,124,125,126,127,128,129,130,131,132,133] (fun m a F'=>∃(C:Array Value) (e:Int) (c:Int) (x:Int) (l:Bool) (n:Bool) (q:(List Int)),bg (um) m (e,c,x,l,n,q)=some cb/\F'=⟨ro,[(b,Obj.cells C 3)]⟩/\bx rI ro 3 (.slice (some ⟨b,0,none⟩) u0.length c2) q [(b,Obj.cells C 3)]/\slot a 1= .int .i64 e/\slot a 2= .int .i64 c/\slot a 3= .int .i64 x/\slot a 8= .bool l/\slot a 9= .bool n) fu ?_ ?_
 .refine ⟨b1,L,M,N,true,true,u0,w,rfl,K,?_⟩;simp only[*,go_sem,-h]
 rintro y s F' D ⟨C,e,c,x,l,n,q,w,rfl,O,cc,cd,cf,ck,cl⟩;have h:=True.intro;have cy:sz s=134:=by rw[D.size];simp only[*,go_sem,-h]
 have c0:s.defers=[]:=by rw[D.defers];simp only[*,go_sem,-h]
 have da:slot s 0= .slice (some ⟨b,0,none⟩) u0.length c2:=by rw[D.ay 0 av];simp only[*,go_sem,-h]
 clear D b2 hd b3 k1 b4 ca;obtain _|y:=y
 .exact absurd w (by simp only[bg,reduceCtorEq,not_false_eq_true])
 have h':=an w;clear w h;obtain ⟨g0,h,o⟩:=h';unfold um at h;try dsimp only at h
 apply aY hJ;apply af hJ;refine aJ hJ fun g1=>?_;apply ah hJ;apply aa _;apply af hJ;apply af hJ;refine aJ hJ fun g2=>?_;apply ah hJ;apply aa _;have h':=aD h;clear h;rcases h' with ⟨P,h⟩|⟨P,h⟩
 .try simp only[Int.ofNat_lt] at P
  refine aN hJ ak ?_;apply af hJ;refine aJ hJ fun g3=>?_;apply ah hJ;have h':=an h;clear h;obtain ⟨g4,db,h⟩:=h';apply aa _;refine dA hJ [] [] (by first|rfl|simp only[bh]|(simp only[bh];rfl)) _ (yZ q O e c db) (fun g7 ha f d g hc=>?_);obtain ⟨rfl,a2⟩:=f;obtain ⟨dd,rfl⟩:=a2.fC;simp only[bh] at g;subst d;refine ⟨⟨ro,[(b,Obj.cells dd 3)]⟩,Le.refl _,?_⟩;try apply aa _
  have h':=Option.some.inj h;clear h;subst h';have h':=Option.some.inj o;clear o;subst h';have h:=a0;dsimp only[aH] at h;have h':=Option.some.inj h;clear h;subst h';refine en ?_;exact ⟨_,a2,Le.sub (List.Sublist.refl _)⟩
 try simp only[Int.ofNat_lt] at P
 refine aM hJ ak ?_;apply aR hJ;apply af hJ;apply af hJ;refine aJ hJ fun hf=>?_;apply ah hJ;apply aa _;have h':=aD h;clear h;rcases h' with ⟨Q,h⟩|⟨Q,h⟩
 .try simp only[Int.ofNat_lt] at Q
  refine aN hJ ak ?_;cases h
 try simp only[Int.ofNat_lt] at Q
 refine aM hJ ak ?_;apply aR hJ;have h':=an h;clear h;obtain ⟨df,h,dk⟩:=h';refine fO hJ (fun a F'=>∃(R:Array Value) (i:Int) (E:(List Int)),some (Fl.bk (i,E):Fl (Int×(List Int)) (Unit×(List Int)))=some df/\F'=⟨ro,[(b,Obj.cells R 3)]⟩/\bx rI ro 3 (.slice (some ⟨b,0,none⟩) u0.length c2) E [(b,Obj.cells R 3)]/\sz a=134/\a.defers=[]/\cq [1,2,3,8,9,10,11,12,13,14,15,16,17,18,19,20,21,22,23,24,25,26,27,28,29,30,31,32,33,34,35,36,37,38,39,40,41,42,43,44,45,46,47,48,49,50,51,52,53,54,55,56,57,58,59,60,61,62,63,64,65,66,67,68,69,70,71,72,73,74,75,76,77,78,79,80,81,82,83,84,85,86,87,88,89,90,91,92,93,94,95,96,97,98,99,100,101,102,103,104,105,106,107,108,109,110,111,112,113,114,115,116,117,118,119,120,121,122,123,124,125,126,127,128,129,130,131,132,133] a s/\slot a 0= .slice (some ⟨b,0,none⟩) u0.length c2/\slot a 1= .int .i64 e/\slot a 2= .int .i64 c/\slot a 3= .int .i64 i/\slot a 8= .bool l/\slot a 9= .bool n/\slot a 10= .int .i64 (IntKind.i64.wrap (c - e))) ?_ ?_
 .apply af hJ;refine aJ hJ fun hg=>?_;apply ah hJ;apply aa _;have h':=aD h;clear h;rcases h' with ⟨S,h⟩|⟨S,h⟩
  ·(try simp only[Int.ofNat_lt] at S);refine aN hJ ak ?_;apply af hJ;refine aJ hJ fun hh=>?_;apply ah hJ;have h':=an h;clear h;obtain ⟨dp,dq,h⟩:=h';apply aa _;refine dA hJ [] [] (by first|rfl|simp only[bh]|(simp only[bh];rfl)) _ (Eg q O e c dq) (fun hi hj f d g hk=>?_);obtain ⟨rfl,a3⟩:=f;obtain ⟨a4,rfl⟩:=a3.fC;simp only[bh] at g;subst d;refine ⟨⟨ro,[(b,Obj.cells a4 3)]⟩,Le.refl _,?_⟩;(try apply aa _);refine aJ hJ fun hl=>?_;apply ah hJ;apply aa _;(try apply aa _);refine Qn.intro ⟨_,Le.sub (List.Sublist.refl _),a4,(IntKind.i64.wrap (x - 1)),dp.2,h,rfl,a3,?_⟩;simp only[*,go_sem,-h]
  try simp only[Int.ofNat_lt] at S
  refine aM hJ ak ?_;apply aR hJ;try apply aa _
  refine Qn.intro ⟨_,Le.sub (List.Sublist.refl _),C,x,q,h,rfl,O,?_⟩;simp only[*,go_sem,-h]
 rintro hn F' ⟨R,i,E,a5,rfl,ds,dt,du,ho,dv,dC,dE,dT,ea,eb,ec⟩;have h':=Option.some.inj a5;clear a5;subst h';have h:=dk;dsimp only[aH] at h;clear cy c0 da cc cd cf ck cl;apply af hJ;refine aJ hJ fun hp=>?_;apply ah hJ;have h':=an h;clear h;obtain ⟨k,ed,h⟩:=h';apply aa _;refine dA hJ [] [] (by first|rfl|simp only[bh]|(simp only[bh];rfl)) _ (D5 E ds e c ed) (fun hq hr f d g ht=>?_);obtain ⟨rfl,z⟩:=f;obtain ⟨H,rfl⟩:=z.fC;simp only[bh] at g;subst d;refine ⟨⟨ro,[(b,Obj.cells H 3)]⟩,Le.refl _,?_⟩;apply aS;try apply aa _
 apply af hJ;apply af hJ;refine aJ hJ fun hv=>?_;apply ah hJ;apply aa _;have h':=aD h;clear h;rcases h' with ⟨T,h⟩|⟨T,h⟩
 .try simp only[Int.ofNat_lt] at T
  refine aN hJ ak ?_;cases h
 try simp only[Int.ofNat_lt] at T
 refine aM hJ ak ?_;apply aR hJ;have h':=an h;clear h;obtain ⟨eh,h,a6⟩:=h';refine fO hJ (fun a F'=>∃(t:Array Value) (u:(List Int)),some (Fl.bk u:Fl (List Int) (Unit×(List Int)))=some eh/\F'=⟨ro,[(b,Obj.cells t 3)]⟩/\bx rI ro 3 (.slice (some ⟨b,0,none⟩) u0.length c2) u [(b,Obj.cells t 3)]/\sz a=134/\a.defers=[]/\cq [1,2,3,8,9,10,11,12,13,14,15,16,17,18,19,20,21,22,23,24,25,26,27,28,29,30,31,32,33,34,35,36,37,38,39,40,41,42,43,44,45,46,47,48,49,50,51,52,53,54,55,56,57,58,59,60,61,62,63,64,65,66,67,68,69,70,71,72,73,74,75,76,77,78,79,80,81,82,83,84,85,86,87,88,89,90,91,92,93,94,95,96,97,98,99,100,101,102,103,104,105,106,107,108,109,110,111,112,113,114,115,116,117,118,119,120,121,122,123,124,125,126,127,128,129,130,131,132,133] a s/\slot a 0= .slice (some ⟨b,0,none⟩) u0.length c2/\slot a 1= .int .i64 e/\slot a 2= .int .i64 c/\slot a 3= .int .i64 i/\slot a 8= .bool l/\slot a 9= .bool n/\slot a 10= .int .i64 (IntKind.i64.wrap (c - e))/\slot a 11= .int .i64 k.1.1) ?_ ?_
 .apply af hJ;refine aJ hJ fun hx=>?_;apply ah hJ;have h':=aD h;clear h;rcases h' with ⟨U,h⟩|⟨U,h⟩
  ·(try simp only[Int.ofNat_lt] at U);have h':=aD h;clear h;rcases h' with ⟨V,h⟩|⟨V,h⟩
   ·(try simp only[Int.ofNat_lt] at V);(try apply aa _);have h':=aD h;clear h;rcases h' with ⟨W,h⟩|⟨W,h⟩
    ·(try simp only[Int.ofNat_lt] at W);refine aN hJ ak ?_;apply af hJ;refine aJ hJ fun hy=>?_;apply ah hJ;have h':=an h;clear h;obtain ⟨et,ev,h⟩:=h';apply aa _;refine dA hJ [] [] (by first|rfl|simp only[bh]|(simp only[bh];rfl)) _ (Ej k.2 z e c ev) (fun hz hA f d g hB=>?_);obtain ⟨rfl,X⟩:=f;obtain ⟨a7,rfl⟩:=X.fC;simp only[bh] at g;subst d;refine ⟨⟨ro,[(b,Obj.cells a7 3)]⟩,Le.refl _,?_⟩;(try apply aa _);have h':=aD h;clear h;rcases h' with ⟨Y,h⟩|⟨Y,h⟩
     ·(try simp only[Int.ofNat_lt] at Y);refine aN hJ ak ?_;have h':=Option.some.inj h;clear h;subst h';have h:=a6;dsimp only[aH] at h;have h':=Option.some.inj h;clear h;subst h';have h':=Option.some.inj o;clear o;subst h';have h:=a0;dsimp only[aH] at h;have h':=Option.some.inj h;clear h;subst h';refine en ?_;exact ⟨_,X,Le.sub (List.Sublist.refl _)⟩
     (try simp only[Int.ofNat_lt] at Y);refine aM hJ ak ?_;apply aR hJ;(try apply aa _);refine Qn.intro ⟨_,Le.sub (List.Sublist.refl _),a7,et.2,h,rfl,X,?_⟩;simp only[*,go_sem,-h]
    (try simp only[Int.ofNat_lt] at W);refine aM hJ ak ?_;apply aR hJ;(try apply aa _);refine Qn.intro ⟨_,Le.sub (List.Sublist.refl _),H,k.2,h,rfl,z,?_⟩;simp only[*,go_sem,-h]
   (try simp only[Int.ofNat_lt] at V);(try apply aa _);refine aM hJ ak ?_;apply aR hJ;(try apply aa _);refine Qn.intro ⟨_,Le.sub (List.Sublist.refl _),H,k.2,h,rfl,z,?_⟩;simp only[*,go_sem,-h]
  try simp only[Int.ofNat_lt] at U
  try apply aa _
  refine aM hJ ak ?_;apply aR hJ;try apply aa _
  refine Qn.intro ⟨_,Le.sub (List.Sublist.refl _),H,k.2,h,rfl,z,?_⟩;simp only[*,go_sem,-h]
 rintro hD F' ⟨t,u,a8,rfl,B,eQ,eS,hE,e0,e1,e2,e3,fa,fb,fc,fg⟩;have h':=Option.some.inj a8;clear a8;subst h';have h:=a6;dsimp only[aH] at h;clear dt du dv dC dE dT ea eb ec;have h':=an h;clear h;obtain ⟨fh,h,a9⟩:=h';refine fO hJ (fun a F'=>∃(Z:Array Value) (p:Int) (I:(List Int)),some (Fl.bk (p,I):Fl (Int×(List Int)) (Unit×(List Int)))=some fh/\F'=⟨ro,[(b,Obj.cells Z 3)]⟩/\bx rI ro 3 (.slice (some ⟨b,0,none⟩) u0.length c2) I [(b,Obj.cells Z 3)]/\sz a=134/\a.defers=[]/\cq [1,2,3,8,9,10,11,12,13,14,15,16,17,18,19,20,21,22,23,24,25,26,27,28,29,30,31,32,33,34,35,36,37,38,39,40,41,42,43,44,45,46,47,48,49,50,51,52,53,54,55,56,57,58,59,60,61,62,63,64,65,66,67,68,69,70,71,72,73,74,75,76,77,78,79,80,81,82,83,84,85,86,87,88,89,90,91,92,93,94,95,96,97,98,99,100,101,102,103,104,105,106,107,108,109,110,111,112,113,114,115,116,117,118,119,120,121,122,123,124,125,126,127,128,129,130,131,132,133] a s/\slot a 0= .slice (some ⟨b,0,none⟩) u0.length c2/\slot a 1= .int .i64 p/\slot a 2= .int .i64 c/\slot a 3= .int .i64 i/\slot a 8= .bool l/\slot a 9= .bool n/\slot a 10= .int .i64 (IntKind.i64.wrap (c - e))/\slot a 11= .int .i64 k.1.1) ?_ ?_
 .apply af hJ;refine aJ hJ fun hG=>?_;refine cu hJ mixed 15 ⟨ro,[(b,Obj.cells t 3)]⟩ ak aT ?_;have h':=aD h;clear h;rcases h' with ⟨ab,h⟩|⟨ab,h⟩
  ·(try simp only[Int.ofNat_lt] at ab);have h':=an h;clear h;obtain ⟨fi,fj,h⟩:=h';obtain ⟨hH,hI,hK,hL⟩:=B.cK fj;have h':=an h;clear h;obtain ⟨fl,fp,h⟩:=h';obtain ⟨hM,hN,hP,hQ⟩:=B.cK fp;have h':=an h;clear h;obtain ⟨hR,fr,h⟩:=h';(try apply aa _);refine ⟨_,eo hJ fun F hF=>iO fi fl fr,e6 ?_⟩;(try apply aa _);have h':=aD h;clear h;rcases h' with ⟨ad,h⟩|⟨ad,h⟩
   ·(try simp only[Int.ofNat_lt] at ad);refine aN hJ ak ?_;apply af hJ;refine aJ hJ fun hS=>?_;apply ah hJ;have h':=an h;clear h;obtain ⟨ba,fs,h⟩:=h';apply aa _;refine dA hJ [] [] (by first|rfl|simp only[bh]|(simp only[bh];rfl)) _ (Ei u B e c k.1.1 fs) (fun hT hV f d g hX=>?_);obtain ⟨rfl,bb⟩:=f;obtain ⟨bc,rfl⟩:=bb.fC;simp only[bh] at g;subst d;refine ⟨⟨ro,[(b,Obj.cells bc 3)]⟩,Le.refl _,?_⟩;apply aS;(try apply aa _);apply af hJ;refine aJ hJ fun hY=>?_;apply ah hJ;apply aa _;apply bI;simp only[go_sem];have h':=Option.some.inj h;clear h;subst h';have h:=a9;dsimp only[aH] at h;have h':=Option.some.inj h;clear h;subst h';have h:=True.intro;(try apply aa _);refine ⟨y,Nat.lt_succ_self _,_,Le.sub (List.Sublist.refl _),bc,ba.1,c,i,l,n,ba.2,o,rfl,bb,?_⟩;simp only[*,go_sem,-h]
   (try simp only[Int.ofNat_lt] at ad);refine aM hJ ak ?_;apply aR hJ;(try apply aa _);refine Qn.intro ⟨_,Le.sub (List.Sublist.refl _),t,e,u,h,rfl,B,?_⟩;simp only[*,go_sem,-h]
  try simp only[Int.ofNat_lt] at ab
  try apply aa _
  refine aM hJ ak ?_;apply aR hJ;try apply aa _
  refine Qn.intro ⟨_,Le.sub (List.Sublist.refl _),t,e,u,h,rfl,B,?_⟩;simp only[*,go_sem,-h]
 rintro hZ F' ⟨Z,p,I,bd,rfl,ft,h0,h1,h2,h3,h4,h5,h6,h7,h8,h9,ib⟩;have h':=Option.some.inj bd;clear bd;subst h';have h:=a9;dsimp only[aH] at h;clear eQ eS e0 e1 e2 e3 fa fb fc fg;apply af hJ;refine aJ hJ fun ih=>?_;apply ah hJ;have h':=an h;clear h;obtain ⟨j,fv,h⟩:=h';apply aa _;refine dA hJ [] [] (by first|rfl|simp only[bh]|(simp only[bh];rfl)) _ (Eh I ft p c k.1.1 fv) (fun ik il f d g im=>?_);obtain ⟨rfl,ae⟩:=f;obtain ⟨fw,rfl⟩:=ae.fC;simp only[bh] at g;subst d;refine ⟨⟨ro,[(b,Obj.cells fw 3)]⟩,Le.refl _,?_⟩;apply aS;try apply aa _
 apply af hJ;refine aJ hJ fun iv=>?_;apply ah hJ;apply aa _;apply af hJ;refine aJ hJ fun ix=>?_;apply ah hJ;apply aa _;apply af hJ;refine aJ hJ fun j1=>?_;apply ah hJ;have h':=an h;clear h;obtain ⟨bj,bm,h⟩:=h';obtain ⟨j2,kh⟩:=sG bm;clear bm;try apply aa _
 apply af hJ;refine aJ hJ fun kj=>?_;apply ah hJ;apply aa _;have h':=aD h;clear h;rcases h' with ⟨al,h⟩|⟨al,h⟩
 .try simp only[Int.ofNat_lt] at al
  refine aN hJ ak ?_;apply af hJ;refine aJ hJ fun kk=>?_;apply ah hJ;apply aa _;apply af hJ;refine aJ hJ fun kl=>?_;apply ah hJ;have h':=an h;clear h;obtain ⟨fx,fz,h⟩:=h';apply aa _;refine dA hJ [] [] (by first|rfl|simp only[bh]|(simp only[bh];rfl)) _ (y2 j.2 ae p j.1.1 i fz) (fun km kn f d g kp=>?_);obtain ⟨rfl,bo⟩:=f;obtain ⟨br,rfl⟩:=bo.fC;simp only[bh] at g;subst d;refine ⟨⟨ro,[(b,Obj.cells br 3)]⟩,Le.refl _,?_⟩;try apply aa _
  refine aJ hJ fun kq=>?_;apply ah hJ;apply aa _;have h':=Option.some.inj h;clear h;subst h';have h:=True.intro;try apply aa _
  refine ⟨y,Nat.lt_succ_self _,_,Le.sub (List.Sublist.refl _),br,(IntKind.i64.wrap (j.1.1+1)),c,i,(decide (bj<=(IntKind.i64.wrap (j.1.1 - p)))),j.1.2,fx.2,o,rfl,bo,?_⟩;simp only[*,go_sem,-h]
 try simp only[Int.ofNat_lt] at al
 refine aM hJ ak ?_;apply af hJ;refine aJ hJ fun ks=>?_;apply ah hJ;apply aa _;apply af hJ;refine aJ hJ fun kt=>?_;apply ah hJ;have h':=an h;clear h;obtain ⟨gg,gj,h⟩:=h';apply aa _;refine dA hJ [] [] (by first|rfl|simp only[bh]|(simp only[bh];rfl)) _ (y2 j.2 ae (IntKind.i64.wrap (j.1.1+1)) c i gj) (fun kv kx f d g ky=>?_);obtain ⟨rfl,bs⟩:=f;obtain ⟨b0,rfl⟩:=bs.fC;simp only[bh] at g;subst d;refine ⟨⟨ro,[(b,Obj.cells b0 3)]⟩,Le.refl _,?_⟩;try apply aa _
 refine aJ hJ fun k0=>?_;apply ah hJ;apply aa _;have h':=Option.some.inj h;clear h;subst h';have h:=True.intro;try apply aa _
 refine ⟨y,Nat.lt_succ_self _,_,Le.sub (List.Sublist.refl _),b0,p,j.1.1,i,(decide (bj<=(IntKind.i64.wrap (c - j.1.1)))),j.1.2,gg.2,o,rfl,bs,?_⟩;simp only[*,go_sem,-h]
def uq (u0:(List Int)):Option (Unit×(List Int)):=
 cond (List.isEmpty u0) none (ax (jP (IntKind.u64.wrap (u0.length:Int))) fun a=>ax (uo u0 0 (u0.length:Int) a) fun b=>some ((),b.2))
theorem El {ro:Addr->Option Value}(u0:(List Int)){b5:Value}{c:List (Nat×Obj)}(b:bx rI ro 3 b5 u0 c){r:(Unit×(List Int))}(h:uq u0=some r):aF Tryz.prog 132 #[b5] ⟨ro,c⟩ (fun v G=>∃a,(v= .tuple #[]/\bx rI ro 3 b5 r.2 a)/\Le ⟨ro,a⟩ G):=by
 obtain ⟨d1,c2,rfl,n⟩:=b.len;unfold uq at h;have h':=aD h;clear h;rcases h' with ⟨d,h⟩|⟨d,h⟩
 .cases h
 obtain ⟨f,o,rfl,rfl,p⟩:=b.fL d;refine aF.go Tryz.func132 rfl Tryz.ntmps132 Tryz.results132 aB fun main J hJ A q hd hs=>?_;have s:=hs 0;clear hs;apply af hJ;refine aJ hJ fun t=>?_;apply ah hJ;apply aa _;refine aJ hJ fun u=>?_;apply ah hJ;have h':=an h;clear h;obtain ⟨g,i,h⟩:=h';apply aa _;refine bp hJ _ (qs (IntKind.u64.wrap (u0.length:Int)) i) (aS ?_);have h':=an h;clear h;obtain ⟨w,j,h⟩:=h';try apply aa _
 refine dA hJ [] [] (by first|rfl|simp only[bh]|(simp only[bh];rfl)) _ (Ek u0 b 0 (u0.length:Int) g j) (fun x y k a l z=>?_);obtain ⟨rfl,e⟩:=k;obtain ⟨m,rfl⟩:=e.fC;simp only[bh] at l;subst a;refine ⟨⟨ro,[(f,Obj.cells m 3)]⟩,Le.refl _,?_⟩;try apply aa _
 have h':=Option.some.inj h;clear h;subst h';apply bt _;exact ⟨_,e,Le.sub (List.Sublist.refl _)⟩
def iP (x:List Int)(j:Nat):Bool:=j==0||x.getD j 0 != x.getD (j - 1) 0
def fP (x:List Int):Nat->List Int
 |0=>[]
 |n+1=>fP x n++cond (iP x n) [x.getD n 0] []
theorem qt (x:List Int):∀n,n<=x.length->(∀j,j<n->iP x j=true)->fP x n=x.take n
 |0,_,_=>by simp[fP]
 |n+1,hn,h=>by
  unfold fP
  rw[qt x n ai (fun j b=>h j ai),h n ai,List.take_succ]
  congr 1
  have a:n<x.length:=ai
  simp[a]
theorem y4 (x:List Int){j:Nat}(h:j<1):iP x j=true:=by
 obtain rfl:j=0:=ai;rfl
def uu (u0:List Int):Option (List Int):=cond (List.isEmpty u0) none (some (fP u0 u0.length))
theorem Em {ro:Addr->Option Value}(u0:List Int){b5:Value}{bz:List (Nat×Obj)}(hg:bx rI ro 3 b5 u0 bz){r:List Int}(h:uu u0=some r):
  aF Tryz.prog 133 #[b5] ⟨ro,bz⟩ (fun v G=>∃O,bx rI ro 3 v r O/\Le ⟨ro,O⟩ G):=by
 obtain ⟨ad,cap,rfl,le⟩:=hg.len
 unfold uu at h
 have h':=aD h;clear h;rcases h' with ⟨P,h⟩|⟨P,h⟩
 .cases h
 obtain ⟨b,D,rfl,rfl,cc⟩:=hg.fL P
 cases h
 have cd:u0.length<=1000000:=by obtain ⟨_,_,_,h,_⟩:=hg;exact h
 have cf:Tryz.prog.underlying 3=some (.int .i64):=aT
 refine aF.go Tryz.func133 rfl Tryz.ntmps133 Tryz.results133 aB fun main J hJ A a3 hd hs=>?_
 have a4:=hs 0
 clear hs
 repeat refine af hJ ?_
 refine ah hJ ?_
 apply bt _
 repeat refine af hJ ?_
 refine ah hJ ?_
 apply bt _
 repeat refine af hJ ?_
 by_cases ck:u0.length<2
 .refine aN hJ (by simp only[*,go_sem];simp;omega) ?_
  repeat refine af hJ ?_
  refine ah hJ ?_
  apply bt _
  refine aG ?_
  apply bt _
  have e:fP u0 u0.length=u0:=by
   rw[qt u0 _ (Nat.le_refl _) (fun j c=>y4 u0 ai),List.take_length]
  rw[e]
  exact ⟨_,hg,Le.refl _⟩
 refine aM hJ (by simp only[*,go_sem];simp;omega) ?_
 refine aR hJ ?_
 repeat refine af hJ ?_
 refine ah hJ ?_
 apply bt _
 repeat refine af hJ ?_
 refine aY hJ ?_
 refine bO hJ [3,4,5,10,11,12,13,14,15,16,17,18,19,20,21,22,23,24,25,26,27,28,29,30,31,32,33,34,35,36,37,38,39,40,41,42,43,44,45,46,47,48,49,50,51,52,53,54,55,56,57,58,59] (fun m s F'=>∃k:Nat,1<=k/\k<=u0.length/\u0.length - k<=m/\F'=⟨ro,[(b,Obj.cells D 3)]⟩/\slot s 3= .int .i64 (k:Int)/\∀j,j<k->iP u0 j=true) u0.length ?_ ?_
 .refine ⟨1,Nat.le_refl _,ai,ai,rfl,?_,fun j c=>y4 u0 c⟩
  apply bt _
  rfl
 .rintro a5 g F' t ⟨k,cl,Q,cy,rfl,a6,E⟩
  have a7:sz g=61:=by rw[t.size];simp only[*,go_sem]
  have a8:g.defers=[]:=by rw[t.defers];simp only[*,go_sem]
  have a9:slot g 0= .slice (some ⟨b,0,none⟩) u0.length cap:=by rw[t.ay 0 av];simp only[*,go_sem]
  clear t a3 hd a4
  repeat refine af hJ ?_
  repeat refine af hJ ?_
  refine ah hJ ?_
  apply bt _
  by_cases R:k<u0.length
  .have hb:decide (((k:Nat):Int)<(u0.length:Int))=true:=decide_eq_true ai
   refine aN hJ cU ?_
   refine aR hJ ?_
   repeat refine af hJ ?_
   refine aY hJ ?_
   repeat refine af hJ ?_
   obtain ⟨p,rfl⟩:∃p,k=p+1:=⟨k - 1,ai⟩
   have hw:IntKind.i64.wrap (((p+1:Nat):Int) - 1)=(p:Int):=by rw[IntWalk.i64_in _ ⟨ai,ai⟩];omega
   refine cu hJ mixed 9 ⟨ro,[(b,Obj.cells D 3)]⟩ cU aT ?_
   obtain ⟨x1,S⟩:∃x,u0[p+1]?=some x:=⟨u0[p+1],by simp[R]⟩
   obtain ⟨F,H,I⟩:=hg.eF S
   obtain rfl:F=[.int .i64 x1]:=H
   have T:=I 0 _ rfl
   simp only[go_sem] at T
   have c0:=(Array.getElem?_eq_some_iff.1 T).1
   obtain ⟨x2,U⟩:∃x,u0[p]?=some x:=⟨u0[p],by simp[Nat.lt_of_succ_lt R]⟩
   obtain ⟨K,L,M⟩:=hg.eF U
   obtain rfl:K=[.int .i64 x2]:=L
   have V:=M 0 _ rfl
   simp only[go_sem] at V
   have da:=(Array.getElem?_eq_some_iff.1 V).1
   have db:¬((p+1:Nat):Int)<0:=ai
   have b2:((p+1:Nat):Int)<(u0.length:Int):=ai
   have b3:¬(p:Int)<0:=ai
   have b4:(p:Int)<(u0.length:Int):=ai
   have dd:(0:Int)<=((p+1:Nat):Int):=ai
   have df:(0:Int)<=(p:Int):=ai
   apply bt _
   have ba:u0.getD (p+1) 0=x1:=by rw[List.getD_eq_getElem?_getD,S];rfl
   have bb:u0.getD p 0=x2:=by rw[List.getD_eq_getElem?_getD,U];rfl
   have W:iP u0 (p+1)=(x1 != x2):=by unfold iP;rw[ba,Nat.add_sub_cancel,bb];simp
   clear I M
   by_cases N:x1=x2
   .subst N
    refine aN hJ (by simp only[*,go_sem,beq_self_eq_true]) ?_
    repeat refine af hJ ?_
    refine ah hJ ?_
    have dk:p+1<=u0.length:=Q
    have dp:p+1<=cap:=ai
    have dq:((p+1:Nat):Int)<=(u0.length:Int):=ai
    have ds:u0.length<=cap:=le
    have dt:¬cap=p+1:=ai
    apply bt _
    have bc:slot g 4=slot g 4:=rfl
    repeat refine af hJ ?_
    refine ah hJ ?_
    apply bt _
    repeat refine af hJ ?_
    refine aY hJ ?_
    have e0:fP u0 (p+2)=u0.take (p+1):=by
     show fP u0 (p+1)++cond (iP u0 (p+1)) _ _=_
     rw[W,qt u0 _ Q E];simp
    refine bO hJ [3,5,29,30,31,32,33,34,35,36,37,38,39,40,41,42,43,44,45,46,47,48,49,50,51,52,53] (fun bd s F'=>∃(m w:Nat) (arr:Array Value) (x:List Int),1<=m/\m<=u0.length - (p+1)/\u0.length - (p+1) - m<=bd/\F'=⟨ro,[(b,Obj.cells arr 3)]⟩/\slot s 5= .int .i64 (m:Int)/\slot s 3= .int .i64 (w:Int)/\
     bx rI ro 3 (.slice (some ⟨b,0,none⟩) u0.length cap) x [(b,.cells arr 3)]/\x.length=u0.length/\(fP u0 (p+(1+m))).length=w/\w<=p+m/\x.take w=fP u0 (p+(1+m))/\∀j,p+m<=j->x[j]?=u0[j]?) u0.length ?_ ?_
    .refine ⟨1,p+1,D,u0,Nat.le_refl _,ai,ai,rfl,?_,?_,hg,rfl,?_,Nat.le_refl _,e0.symm,fun _ _=>rfl⟩
     .apply bt _;rfl
     .simp only[*,go_sem]
     .show (fP u0 (p+2)).length=p+1
      rw[e0,List.length_take];omega
    .rintro m2 u F' l ⟨m,w,arr,x,I,M,du,rfl,dv,dC,d,X,o,dE,B,C⟩
     have dT:sz u=61:=by rw[l.size];simp only[*,go_sem]
     have ea:u.defers=[]:=by rw[l.defers];simp only[*,go_sem]
     have eb:slot u 0= .slice (some ⟨b,0,none⟩) u0.length cap:=by rw[l.ay 0 av];simp only[*,go_sem]
     have ec:slot u 4= .slice (some ⟨b,p+1,none⟩) (u0.length - (p+1)) (cap - (p+1)):=by rw[l.ay 4 av];simp only[*,go_sem]
     clear l a7 a8 a9 a6 bc
     repeat refine af hJ ?_
     refine ah hJ ?_
     apply bt _
     by_cases ed:m<u0.length - (p+1)
     .have bj:decide (((m:Nat):Int)<((u0.length - (p+1):Nat):Int))=true:=decide_eq_true ai
      refine aN hJ cU ?_
      refine aR hJ ?_
      repeat refine af hJ ?_
      refine aY hJ ?_
      repeat refine af hJ ?_
      obtain ⟨q,rfl⟩:∃q,m=q+1:=⟨m - 1,ai⟩
      have eh:IntKind.i64.wrap (((q+1:Nat):Int) - 1)=(q:Int):=by rw[IntWalk.i64_in _ ⟨ai,ai⟩];omega
      refine cu hJ mixed 9 ⟨ro,[(b,Obj.cells arr 3)]⟩ cU aT ?_
      obtain ⟨a,Y⟩:∃y,u0[p+(1+(q+1))]?=some y:=⟨u0[p+(1+(q+1))]'ai,List.getElem?_eq_getElem _⟩
      obtain ⟨F,H,Z⟩:=d.eF ((C _ ai).trans Y)
      obtain rfl:F=[.int .i64 a]:=H
      have ab:=Z 0 _ rfl
      simp only[go_sem] at ab
      have et:=(Array.getElem?_eq_some_iff.1 ab).1
      obtain ⟨f,ae⟩:∃y,u0[p+(1+q)]?=some y:=⟨u0[p+(1+q)]'ai,List.getElem?_eq_getElem _⟩
      obtain ⟨K,L,al⟩:=d.eF ((C _ ai).trans ae)
      obtain rfl:K=[.int .i64 f]:=L
      have ao:=al 0 _ rfl
      simp only[go_sem] at ao
      have ev:=(Array.getElem?_eq_some_iff.1 ao).1
      have c1:¬((q+1:Nat):Int)<0:=ai
      have c2:((q+1:Nat):Int)<((u0.length - (p+1):Nat):Int):=ai
      have c3:¬(q:Int)<0:=ai
      have c4:(q:Int)<((u0.length - (p+1):Nat):Int):=ai
      have eQ:(0:Int)<=((q+1:Nat):Int):=ai
      have eS:(0:Int)<=(q:Int):=ai
      apply bt _
      have ar:u0.getD (p+(1+(q+1))) 0=a:=by rw[List.getD_eq_getElem?_getD,Y];rfl
      have bk:u0.getD (p+(1+q)) 0=f:=by rw[List.getD_eq_getElem?_getD,ae];rfl
      have bm:iP u0 (p+(1+(q+1)))=(a != f):=by
       unfold iP
       have bo:p+(1+(q+1)) - 1=p+(1+q):=ai
       rw[bo,ar,bk]
       have:(p+(1+(q+1))==0)=false:=aB
       rw[this,Bool.false_or]
      have e1:fP u0 (p+(1+(q+1+1)))=fP u0 (p+(1+(q+1)))++cond (a != f) [a] []:=by
       show fP u0 (p+(1+(q+1)))++cond (iP u0 (p+(1+(q+1)))) [u0.getD (p+(1+(q+1))) 0] []=_
       rw[bm,ar]
      have e2:IntKind.i64.wrap (((q+1:Nat):Int)+1)=((q+1+1:Nat):Int):=by rw[IntWalk.i64_in _ ⟨ai,ai⟩];omega
      clear Z al o
      have o:(fP u0 (p+(1+(q+1)))).length=w:=by rw[<-B,List.length_take];omega
      by_cases a0:a=f
      .subst a0
       simp only[bne_self_eq_false,cond_false,List.append_nil] at e1
       refine aM hJ (by simp only[*,go_sem,bne_self_eq_false]) ?_
       refine aR hJ ?_
       refine ah hJ ?_
       apply bt _
       refine ⟨m2 - 1,ai,_,Le.refl _,q+1+1,w,arr,x,ai,ai,ai,rfl,?_,?_,d,X,by rw[e1];exact o,ai,by rw[e1];exact B,fun j c=>C j ai⟩
       .simp only[*,go_sem]
       .simp only[*,go_sem]
      .have br:(a != f)=true:=by simpa using a0
       rw[br] at e1
       simp only[cond_true] at e1
       refine aN hJ cU ?_
       repeat refine af hJ ?_
       refine ah hJ ?_
       have d1:(w:Int)<(u0.length:Int):=ai
       have d2:¬(w:Int)<0:=ai
       have d3:(0:Int)<=(w:Int):=ai
       have e3:w<arr.size:=ai
       apply bt _
       have bs:bx rI ro 3 (.slice (some ⟨b,0,none⟩) u0.length cap) (x.set w a) [(b,Obj.cells (bS arr w [.int .i64 a]) 3)]:=by
        have b0:=d.lD (i:=w) (y:=a) ai (cs:=[.int .i64 a]) rfl
        simpa only[pR,Nat.mul_one,Nat.add_zero] using b0
       have fa:IntKind.i64.wrap ((w:Int)+1)=((w+1:Nat):Int):=by rw[IntWalk.i64_in _ ⟨ai,ai⟩];omega
       refine ah hJ ?_
       apply bt _
       refine ah hJ ?_
       apply bt _
       refine ⟨m2 - 1,ai,_,Le.refl _,q+1+1,w+1,_,x.set w a,ai,ai,ai,rfl,?_,?_,bs,by rw[List.length_set];exact X,?_,ai,?_,fun j c=>?_⟩
       .simp only[*,go_sem]
       .simp only[*,go_sem]
       .rw[e1,List.length_append,o];rfl
       .rw[e1,<-B,List.take_succ,List.take_set_of_le (Nat.le_refl _),List.getElem?_set_self ai];rfl
       .rw[List.getElem?_set_ne ai];exact C j ai
     .have bj:decide (((m:Nat):Int)<((u0.length - (p+1):Nat):Int))=false:=decide_eq_false ai
      refine aM hJ cU ?_
      refine bI ?_
      simp only[go_sem]
      have a2:p+(1+m)=u0.length:=ai
      rw[a2] at o
      have d1:(w:Int)<=(u0.length:Int):=ai
      have d2:¬(w:Int)<0:=ai
      have d3:(0:Int)<=(w:Int):=ai
      have d4:w<=u0.length:=ai
      have d5:w<=cap:=ai
      have d6:¬cap=w:=ai
      have d7:(0:Int)<=(w:Int):=ai
      have d8:(w:Int)<=(cap:Int):=ai
      have b1:w+(u0.length - w)<=arr.size:=by
       obtain ⟨ls,ca,fb,-⟩:=id d
       rcases ca with ⟨hv,_,_⟩|⟨fc,fg,fh,hv,cb,hs,hle,_⟩
       .cases hv
       .cases cb
        have:rI.n=1:=rfl
        rw[this,Nat.mul_one] at hs
        omega
      repeat refine af hJ ?_
      refine ah hJ ?_
      simp only[*,go_sem,ite_false,if_false]
      refine C6 (pre:=[]) (bC:=[]) (z:=.int .i64 0) (zc:=.int .i64 0) rfl (by kernel_rfl:Tryz.prog.underlying 25=some (.slice 3)) aT rfl rfl ai (by simp[aQ]) b1 ?_
      dsimp only[List.nil_append]
      repeat refine af hJ ?_
      refine ah hJ ?_
      apply bt _
      refine aG ?_
      apply bt _
      refine ⟨_,?_,Le.refl _⟩
      have:=d.clear (k:=w) ai
      rw[B,a2] at this
      simpa only[ite_self,Nat.sub_zero] using this
   .have fi:(x1==x2)=false:=by simpa using N
    refine aM hJ cU ?_
    refine aR hJ ?_
    refine ah hJ ?_
    have fj:IntKind.i64.wrap (((p+1:Nat):Int)+1)=((p+2:Nat):Int):=by rw[IntWalk.i64_in _ ⟨ai,ai⟩];omega
    apply bt _
    refine ⟨a5 - 1,ai,_,Le.refl _,p+2,ai,ai,ai,rfl,cU,fun j c=>?_⟩
    rcases Nat.lt_succ_iff_lt_or_eq.1 c with c|rfl
    .exact E j c
    .rw[W];simpa using N
  .have hb:decide (((k:Nat):Int)<(u0.length:Int))=false:=decide_eq_false ai
   refine aM hJ cU ?_
   refine bI ?_
   simp only[go_sem]
   repeat refine af hJ ?_
   refine ah hJ ?_
   apply bt _
   refine aG ?_
   apply bt _
   obtain rfl:k=u0.length:=ai
   rw[qt u0 _ (Nat.le_refl _) E,List.take_length]
   exact ⟨_,hg,Le.refl _⟩
end Go.Proofs.YtcoalekambhghaaGreatDoor
end
section
namespace Go.Sep
open Go Go.Conc
variable {P:Program}
theorem y5 {ro:Addr->Option Value}{pre bC:List (Nat×Obj)}{argTypes:Array TypeId}{t e ty j:TypeId}{R:Value->ag->Prop}{b c:Nat}{ad:Option Addr}{l:List Int}{d n1 f n3:Int}(pc g:List Value)(off:Nat)(u:off=pc.length)(ht:argTypes[0]?=some t)(hu:P.underlying t=some (.slice e))(hs:cm P e=some 1)
  (A:aI rI ro (.slice ad l.length c) l) (B:aQ pre b)
  (h:R (.int .i64 ((Nat.min l.length 4:Nat):Int)) ⟨ro,pre++((b,.cells (pc++([Value.int .i64 (l.getD 0 d),Value.int .i64 (l.getD 1 n1),Value.int .i64 (l.getD 2 f),Value.int .i64 (l.getD 3 n3)]++g)).toArray j)::bC)⟩):
  cE P (Builtin.copy_ argTypes ty #[.slice (some ⟨b,off,none⟩) 4 4,.slice ad l.length c]) R ⟨ro,pre++((b,.cells (pc++([Value.int .i64 d,Value.int .i64 n1,Value.int .i64 f,Value.int .i64 n3]++g)).toArray j)::bC)⟩:=by
 subst u
 unfold cE
 have key:∀i x,l[i]?=some x->∃p,ad=some p/\ro (p.add i)=some (.int .i64 x):=by
  obtain ⟨I,J,C,_,_,D⟩:=A
  cases C
  intro i x hi
  obtain ⟨p,cs,m,o,E⟩:=D i x hi
  obtain rfl:cs=[.int .i64 x]:=o
  refine ⟨p,m,?_⟩
  have:=E 0 _ rfl
  have e1:(p.add (i*rI.n)).add 0=p.add i:=by
   show p.add (i*1)=_
   rw[Nat.mul_one]
  rwa [e1] at this
 have st:∀(vs:List Value),(∀v∈vs,eX v=true)->vs.length<=4->(⟨ro,pre++((b,.cells (pc++([Value.int .i64 d,Value.int .i64 n1,Value.int .i64 f,Value.int .i64 n3]++g)).toArray j)::bC)⟩:ag).gY ⟨b,pc.length,none⟩ 0 vs=some ⟨ro,pre++((b,.cells (bS (pc++([Value.int .i64 d,Value.int .i64 n1,Value.int .i64 f,Value.int .i64 n3]++g)).toArray pc.length vs) j)::bC)⟩:=by
  intro vs hv hlen
  have:=pJ (ro:=ro) (bC:=bC) (e:=j) B pc.length vs (pc++([Value.int .i64 d,Value.int .i64 n1,Value.int .i64 f,Value.int .i64 n3]++g)).toArray 0 hv (by simp;omega)
  simpa using this
 simp only[Builtin.copy_,ht,List.getElem?_toArray,List.getElem?_cons_zero,List.getElem?_cons_succ,bE,cW,hu,ez,hs,bF,Builtin.lenOf]
 have ld:∀(k:Nat) (vs:List Value) (Q:Array Value->ag->Prop) (F:ag),F.ro=ro->k=Nat.min l.length 4->vs=(l.take 4).map (fun x=>Value.int .i64 x)->Q vs.toArray F->bA P (Builtin.firstCells 1 k (.slice ad l.length c)) Q F:=by
  intro k vs Q F hF G r s
  cases ad with
  |none=>
   cases l with
   |nil=>subst r;exact s
   |cons x l=>obtain ⟨p,m,_⟩:=key 0 x rfl;cases m
  |some p=>
   have H:∀i x,l[i]?=some x->F.get (p.add i)=some (.int .i64 x):=by
    intro i x hi
    obtain ⟨p',m,o⟩:=key i x hi
    cases m
    simp only[ag.get,hF,o]
   show bA P (loadCells p (k*1)) Q F
   refine xM p (vs:=vs) ?_ s
   subst G r
   match l,H with
   |[],_=>rfl
   |[x],k=>simp[ag.cX,k 0 x rfl]
   |[x,y],k=>simp[ag.cX,k 0 x rfl,k 1 y rfl]
   |[x,y,z],k=>simp[ag.cX,k 0 x rfl,k 1 y rfl,k 2 z rfl]
   |x::y::z::w::l,k=>simp[ag.cX,k 0 x rfl,k 1 y rfl,k 2 z rfl,k 3 w rfl,show Nat.min (l.length+1+1+1+1) 4=4 from Nat.min_eq_right ai]
 refine ld _ _ _ _ rfl rfl rfl ?_
 refine mZ _ _ 0 _ _ (st _ (fun v hv=>?_) ?_) ?_
 .obtain ⟨x,_,rfl⟩:=List.mem_map.1 (show v∈(l.take 4).map (fun x=>Value.int .i64 x) from hv);rfl
 .simp;omega
 .simp only[bF,goInt]
  have K:∀(a:Value) (vs:List Value) (xs:List Value) (i:Nat) (y:Value) (q:List Value),i=xs.length->bS (xs++y::q).toArray i (a::vs)=bS ((xs++[a])++q).toArray (xs++[a]).length vs:=by
   intro a vs xs i y q hi
   subst hi
   simp[bS]
  have e1:bS (pc++([Value.int .i64 d,Value.int .i64 n1,Value.int .i64 f,Value.int .i64 n3]++g)).toArray pc.length ((l.take 4).map (fun x=>Value.int .i64 x))=(pc++([Value.int .i64 (l.getD 0 d),Value.int .i64 (l.getD 1 n1),Value.int .i64 (l.getD 2 f),Value.int .i64 (l.getD 3 n3)]++g)).toArray:=by
   match l with
   |[]=>rfl
   |[x]=>simp[bS,Nat.add_assoc,List.set_append_right]
   |[x,y]=>simp[bS,Nat.add_assoc,List.set_append_right]
   |[x,y,z]=>simp[bS,Nat.add_assoc,List.set_append_right]
   |x::y::z::w::l=>simp[bS,Nat.add_assoc,List.set_append_right]
  rw[e1]
  exact h
end Go.Sep
end
section
namespace Go.Proofs.YtcoalekambhghaaGreatDoor
open Go Go.Sep Go.Proofs
set_option maxRecDepth 100000
theorem bl.y6 {x y:bl}{i n:Int}(h:x.setAt i n=some y)(pre post:List Value){k:Nat}(a:k=pre.length+i.toNat):
  ((pre++([Value.int .i64 x.e0,Value.int .i64 x.e1,Value.int .i64 x.e2,Value.int .i64 x.e3]++post)).set k (.int .i64 n)).toArray=(pre++([Value.int .i64 y.e0,Value.int .i64 y.e1,Value.int .i64 y.e2,Value.int .i64 y.e3]++post)).toArray:=by
 subst a
 have b:=bl.yY h
 unfold bl.setAt at h
 rcases b with rfl|rfl|rfl|rfl<;>simp at h<;>subst h<;>simp[List.set_append_right]
end Go.Proofs.YtcoalekambhghaaGreatDoor
end
section
namespace Go.Proofs.YtcoalekambhghaaGreatDoor
open Go Go.Sep Go.Proofs
set_option maxRecDepth 100000
set_option maxHeartbeats 4000000
def oa (u0:List bu):Option (List bu):=if u0.length<=1000000 then some u0 else none
theorem y7 {ro:Addr->Option Value}(u0:List bu){s1:Value}(b:aI dJ ro s1 u0){x:List bu}(h:oa u0=some x):aF Tryz.prog 81 #[s1] ⟨ro,[]⟩ (fun v G=>∃a,bx dJ ro 92 v x a/\Le ⟨ro,a⟩ G):=by
 obtain ⟨ad,cap,rfl,le,d,e⟩:=id b;unfold oa at h;split at h
 case isFalse=>cases h
 rename_i hlen;obtain rfl:=Option.some.inj h;clear h;refine aF.go Tryz.func81 rfl Tryz.ntmps81 Tryz.results81 aB fun main J hJ A f hd hs=>?_;have g:=hs 0;clear hs;apply lp hJ _;cases ad with
 |none=>
  have hu:u0=[]:=by
   cases u0 with
   |nil=>rfl
   |cons x l=>obtain ⟨p,cs,c,_⟩:=e 0 x rfl;cases c
  subst hu;first|refine bV hJ ?_|refine af hJ (bV hJ ?_)
  apply bt _;refine aN hJ cU ?_;apply lp hJ _;refine en ?_;exact ⟨[],bx.nil _ _ _,Le.refl _⟩
 |some p=>
  first|refine bV hJ ?_|refine af hJ (bV hJ ?_)
  apply bt _;refine aM hJ cU ?_;apply aR hJ;apply lp hJ _;intro i f1;have r1:=aV f1;try apply bt _
  refine yh r1 trivial rfl hlen b rfl rfl x8 x8 CD CF rfl CE av av (fun v a hg j=>aS ?_);apply bt _;refine en ?_;exact ⟨a,hg,Le.refl _⟩
theorem En {ro:Addr->Option Value}(u0:List bu){s1:Value}(b:aI dJ ro s1 u0){x:List bu}(h:oa u0=some x):ee Tryz.prog 81 #[s1] ro (fun v aK=>∃a,v=a/\aI dJ aK a x):=
 (y7 u0 b h).mono fun v G c=>by
  obtain ⟨i,hg,hle⟩:=c
  obtain ⟨d,e,j,f,g⟩:=hg.sK [] (fun _ _ h=>by cases h) rfl (fun _ h=>by cases h)
  exact ⟨d,e,g.trans hle,_,rfl,f⟩
def uv (u0:List bf):Option (List bf):=if u0.length<=1000000 then some u0 else none
theorem Eo {ro:Addr->Option Value}(u0:List bf){s1:Value}(b:aI bK ro s1 u0){x:List bf}(h:uv u0=some x):aF Tryz.prog 130 #[s1] ⟨ro,[]⟩ (fun v G=>∃a,bx bK ro 56 v x a/\Le ⟨ro,a⟩ G):=by
 obtain ⟨ad,cap,rfl,le,d,e⟩:=id b;unfold uv at h;split at h
 case isFalse=>cases h
 rename_i hlen;obtain rfl:=Option.some.inj h;clear h;refine aF.go Tryz.func130 rfl Tryz.ntmps130 Tryz.results130 aB fun main J hJ A f hd hs=>?_;have g:=hs 0;clear hs;apply lp hJ _;cases ad with
 |none=>
  have hu:u0=[]:=by
   cases u0 with
   |nil=>rfl
   |cons x l=>obtain ⟨p,cs,c,_⟩:=e 0 x rfl;cases c
  subst hu;first|refine bV hJ ?_|refine af hJ (bV hJ ?_)
  apply bt _;refine aN hJ cU ?_;apply lp hJ _;refine en ?_;exact ⟨[],bx.nil _ _ _,Le.refl _⟩
 |some p=>
  first|refine bV hJ ?_|refine af hJ (bV hJ ?_)
  apply bt _;refine aM hJ cU ?_;apply aR hJ;apply lp hJ _;intro i f1;have r1:=aV f1;try apply bt _
  refine yh r1 trivial rfl hlen b rfl rfl lC lC sL sN rfl sM av av (fun v a hg j=>aS ?_);apply bt _;refine en ?_;exact ⟨a,hg,Le.refl _⟩
end Go.Proofs.YtcoalekambhghaaGreatDoor
end
section
namespace Go.Sep
open Go Go.Conc
section
variable {P:Program}{main:Bool}{J:Goroutine->ag->Prop}
theorem y8 (hJ:Closed P main J){f:FuncId}{args:Array Value}{ro:Addr->Option Value}{own:List (Nat×Obj)}{K:Value->ag->Prop}(R:Value->(Addr->Option Value)->List (Nat×Obj)->Prop)
  (h:aF P f args ⟨ro,[]⟩ (fun v G=>∃aK d,Ext ro aK/\Le ⟨aK,d⟩ G/\R v aK d))
  (pre bC:List (Nat×Obj)) (n:own=pre++bC)
  (B:∀v aK d,Ext ro aK->(∀b∈keys own,∀off sp,aK ⟨b,off,sp⟩=none)->R v aK d->∀p,p=pre++(d++bC)->bP (keys p)->K v ⟨aK,p⟩):c8 P J f args ⟨ro,own⟩ K:=by
 intro c cs hK
 by_cases hw:∃w,Has ⟨ro,own⟩ w
 .obtain ⟨q,r⟩:=hw
  let F:ag:=⟨fun _=>none,own⟩
  have s:∀w,Has ⟨ro,own⟩ w->Has F w:=fun w hw=>⟨fun a v h=>(by cases h),hw.own,hw.nodup,fun a v h=>(by cases h)⟩
  have t:∀w,Has ⟨ro,own⟩ w->Has ⟨ro,[]⟩ w:=fun w hw=>⟨hw.ro,fun b o hb=>(by cases hb),List.nodup_nil,fun a v i hm=>(by cases hm)⟩
  have u:Fits F ⟨ro,[]⟩:=⟨⟨q,t q r,s q r⟩,fun b hb=>(by cases hb),fun a g hm=>(by cases hm)⟩
  have C:jI F ⟨ro,[]⟩:=fun a g hm=>by
   obtain ⟨v,hv⟩:=Option.isSome_iff_exists.1 g
   exact r.apart a v hv hm
  have n:pE J F (G (Frame.enter P f args .normal) (c::cs)) ⟨ro,[]⟩:=by
   refine h main _ (sF hJ F) c cs fun v G hR j hn=>?_
   obtain ⟨aK,d,D,hle,hR⟩:=hR
   have y:∀a,(aK a).isSome=true->a.block∉keys own:=fun a g=>(hle.ro a g).elim (hn a) (j.own _)
   have k:(d++own).Perm (pre++(d++bC)):=by
    subst n
    rw[<-List.append_assoc,<-List.append_assoc]
    exact List.Perm.append_right bC List.perm_append_comm
   have A:∀w,Has (G.star F) w->Has ⟨aK,pre++(d++bC)⟩ w:=fun w hw=>by
    have l:=hle.has w (j.right hw)
    have hF:=j.left hw
    refine ⟨l.ro,fun b o hb=>(List.mem_append.1 (k.symm.subset hb)).elim (l.own b o) (hF.own b o),?_,fun a v i hm=>?_⟩
    .refine (k.map _).nodup_iff.1 ?_
     rw[List.map_append]
     exact List.nodup_append.2 ⟨l.nodup,hF.nodup,fun a g b hb e=>j.own a (hle.own a g) (e▸hb)⟩
    .replace hm:=(k.symm.map _).subset hm
     rw[List.map_append] at hm
     exact (List.mem_append.1 hm).elim (l.apart a v i) (y a (by simp only at i;simp[i]))
   have E:∃fr cs',Go.Conc.G (c.finish v) cs=Go.Conc.G fr cs':=⟨_,_,rfl⟩
   obtain ⟨fr,cs',H⟩:=E
   by_cases m:∃w,Has (G.star F) w
   .obtain ⟨w1,m⟩:=m
    refine hJ.mono (F:=⟨aK,pre++(d++bC)⟩) ⟨A,fun b hb=>?_,fun a g=>?_⟩ (hK v ⟨aK,pre++(d++bC)⟩ (B v aK d D (fun b hb off sp=>?_) hR _ rfl ⟨(A w1 m).nodup⟩))
    .replace hb:=(k.symm.map _).subset hb
     rw[List.map_append] at hb
     simp only[b8,ag.star,List.mem_append] at hb ⊢
     exact hb.imp (hle.own b) id
    .rcases hle.ro a g with x|x
     .exact (fH (.inr x)).imp id (fun z=>by simp only[ag.star,b8,List.mem_append];exact .inr z)
     .exact .inr (by simp only[ag.star,b8,List.mem_append];exact .inl x)
    .cases i:aK ⟨b,off,sp⟩ with
     |none=>rfl
     |some v=>exact absurd hb (y ⟨b,off,sp⟩ (by simp[i]))
   .rw[H]
    exact hJ.step fun w hF=>absurd ⟨w,hF⟩ m
  refine hJ.mono ⟨fun w hw=>u.both (t w hw) (s w hw),fun b hb=>?_,fun a g=>?_⟩ (n u C)
  .simpa [ag.star,F] using hb
  .rcases iB g with x|x
   .cases x
   .exact .inl x
 .exact hJ.step fun w hF=>absurd ⟨w,hF⟩ hw
end
structure qu {K:Type}[BEq K](P:Program)(kt:TypeId)(kd:TypeDesc)(fk:K->Value):Prop where
 eq:∀(a b:K) (Q:Bool->ag->Prop) (F:ag),Q (a==b) F->bA P (Op.equal kt (fk a) (fk b)) Q F
 none:∀(a b:K),Instr.sameNow kd (fk a) (fk b)=none
 bits:∀a b,(a==b)=true->Instr.sameBits 10000 (fk b) (fk a)=true/\fk b=fk a
 plain:∀(e:Bool) (k:K) (Q:Unit->ag->Prop) (F:ag),Q () F->bA P (Instr.checkKey e 10000 kt (fk k)) Q F
section
variable {K V:Type}[BEq K]{fk:K->Value}{fv:V->Value}{kd:TypeDesc}{P:Program}{kt:TypeId}
theorem y9 (a:qu P kt kd fk)(k:K)(v:V):∀(l:List (K×V)) (i j:Nat),∃r:Option (Nat×Value),(∀(Q:Option (Nat×Value)->ag->Prop) (F:ag),Q r F->bA P (Instr.findAsking kt (fk k) (cp fk fv i l) j) Q F)/\
  ((r=none/\cw l k v=l++[(k,v)])\/(∃n y old,r=some (j+n,y)/\((cp fk fv i l)[n]?).map (·.key)=some (fk old)/\(k==old)=true/\cp fk fv i (cw l k v)=(cp fk fv i l).modify n (fun e=>{e with key:=fk k,val:=fv v})/\(cw l k v).length=l.length))
 |[],i,j=>⟨none,fun Q F h=>h,.inl ⟨rfl,rfl⟩⟩
 |e::l,i,j=>by
  obtain ⟨r,c,d⟩:=y9 a k v l (i+1) (j+1)
  simp only[cp,Instr.findAsking,cw]
  cases h:k==e.1 with
  |true=>exact ⟨some (j,fv e.2),fun Q F b=>by
    rw[bE]
    refine a.eq _ _ _ _ ?_
    rw[h]
    exact b,.inr ⟨0,fv e.2,e.1,aB,aB,h,by simp[cp],aB⟩⟩
  |false=>
   refine ⟨r,fun Q F b=>by
    rw[bE]
    refine a.eq _ _ _ _ ?_
    rw[h]
    exact c Q F b,?_⟩
   rcases d with ⟨e1,e2⟩|⟨n,y,old,e1,e2,e3,f,g⟩
   .exact .inl ⟨e1,by simp[e2]⟩
   .exact .inr ⟨n+1,y,old,by rw[e1];congr 2;omega,by simpa using e2,e3,by simp[cp,f],by simp[g]⟩
theorem Ep (a:qu P kt kd fk)(b:P.underlying kt=some kd)(k:K){l:List (K×V)}{r:Option (Nat×Value)}{Q:Option (Nat×Value)->ag->Prop}{F:ag}(h:bA P (Instr.findAsking kt (fk k) (cp fk fv 0 l) 0) Q F):bA P (Instr.findKey kt (fk k) (cp fk fv 0 l)) Q F:=by
 unfold Instr.findKey;simp only[bE,cW,b];cases l with
 |nil=>exact h
 |cons e l=>simpa only[cp,Instr.findNow,a.none] using h
theorem Er {t d:TypeId}{b:Nat}{l:List (K×V)}{k:K}{v:V}{own:List (Nat×Obj)}{ro:Addr->Option Value}{R:Value->ag->Prop}(a:qu P kt kd fk)(hu:P.underlying t=some (.map kt d))(f:P.underlying kt=some kd)(g:lk own b=some (dg fk fv l))
  (h:R undef ⟨ro,eM own b (dg fk fv (cw l k v))⟩):cE P (Instr.mapUpdate t (.map (some b)) (fk k) (fv v)>>= fun _=>pure undef) R ⟨ro,own⟩:=by
 unfold cE
 have ho:ag.cY ⟨ro,own⟩ b=some (dg fk fv l):=by
  unfold ag.cY
  rw[g]
  rfl
 have c:(ag.cY ⟨ro,own⟩ b).isSome=true:=by rw[ho];rfl
 simp only[Instr.mapUpdate,bE,cW,hu,gL]
 refine ⟨_,ho,?_⟩
 simp only[dg,bE]
 refine a.plain _ k _ _ ?_
 obtain ⟨r,i,j⟩:=y9 (fv:=fv) a k v l 0 0
 refine Ep a f k (r:=r) (i _ _ ?_)
 rcases j with ⟨rfl,e2⟩|⟨n,y,old,rfl,e2,e3,m,o⟩
 .simp only[iC,bF]
  refine ⟨rfl,c,?_⟩
  have e:dg fk fv (cw l k v)= .map ((cp fk fv 0 l).toArray.push {key:=fk k,val:=fv v,born:=l.length}) (l.length+1):=by
   simp only[dg,e2,s4,List.length_append,List.length_singleton]
   simp
  rw[e] at h
  exact h
 .obtain ⟨p,b2⟩:=a.bits k old e3
  have q:(((cp fk fv 0 l).toArray[0+n]?).map (·.key)).getD (fk k)=fk old:=by
   simp only[Nat.zero_add,List.getElem?_toArray,e2,Option.getD_some]
  simp only[bE,q]
  unfold Instr.keyThatStays
  rw[dn,if_pos p]
  simp only[bF,iC]
  refine ⟨rfl,c,?_⟩
  have e:dg fk fv (cw l k v)= .map ((cp fk fv 0 l).toArray.modify (0+n) fun e=>{e with key:=fk k,val:=fv v}) l.length:=by
   simp only[dg,m,o,Nat.zero_add]
   congr 1
   rw[<-Array.toList_inj]
   simp
  rw[e] at h
  exact h
theorem uw (fk:K->Value)(fv:V->Value):∀(l:List (K×V)) (i j:Nat),(cp fk fv i l)[j]?=(l[j]?).map fun e=>{key:=fk e.1,val:=fv e.2,born:=i+j}
 |[],i,j=>by simp[cp]
 |e::l,i,0=>by simp[cp]
 |e::l,i,j+1=>by
  simp only[cp,List.getElem?_cons_succ,uw fk fv l (i+1) j]
  cases l[j]?<;>simp
  omega
theorem uy {fk:K->Value}{fv:V->Value}{l:List (K×V)}{e:MapEntry}(h:e∈cp fk fv 0 l):∃j x,l[j]?=some x/\e={key:=fk x.1,val:=fv x.2,born:=j}:=by
 obtain ⟨j,a⟩:=List.mem_iff_getElem?.1 h;rw[uw] at a;obtain ⟨x,b,rfl⟩:=Option.map_eq_some_iff.1 a;exact ⟨j,x,b,aB⟩
theorem Es {t a:TypeId}{b:Nat}{l:List (K×V)}{own:List (Nat×Obj)}{ro:Addr->Option Value}{R:Value->ag->Prop}(fk:K->Value)(fv:V->Value)(hu:P.underlying t=some (.map kt a))(d:lk own b=some (dg fk fv l))
  (h:∀c,dP ⟨ro,own⟩ c->R (.pointer (some ⟨c,0,none⟩)) ⟨ro,(c,.mapIter (some b) l.length #[] l.length)::own⟩):cE P (Instr.range t (.map (some b))) R ⟨ro,own⟩:=by
 unfold cE
 have ho:ag.cY ⟨ro,own⟩ b=some (dg fk fv l):=by
  unfold ag.cY
  rw[d]
  rfl
 simp only[Instr.range,bE,cW,hu,gL]
 refine ⟨_,ho,?_⟩
 simp only[dg,bF,mY]
 exact ⟨rfl,fun c e=>h c e⟩
theorem Et {t:TypeId}{b c:Nat}{l:List (K×V)}{seen:Array Nat}{own:List (Nat×Obj)}{ro:Addr->Option Value}{R:Value->ag->Prop}(fk:K->Value)(fv:V->Value)(hb:lk own b=some (dg fk fv l))(m:lk own c=some (.mapIter (some b) l.length seen l.length))
  (n:(∀i,i<l.length->i∈seen)->R (.tuple #[.bool false]) ⟨ro,own⟩)
  (o:∀i x,l[i]?=some x->i∉seen->R (.tuple #[.bool true,fk x.1,fv x.2]) ⟨ro,eM own c (.mapIter (some b) l.length (seen.push i) l.length)⟩):cE P (Instr.next (.pointer (some ⟨c,0,none⟩)) false t) R ⟨ro,own⟩:=by
 unfold cE
 have p:ag.cY ⟨ro,own⟩ b=some (dg fk fv l):=by
  unfold ag.cY
  rw[hb]
  rfl
 have g:ag.cY ⟨ro,own⟩ c=some (.mapIter (some b) l.length seen l.length):=by
  unfold ag.cY
  rw[m]
  rfl
 have q:(ag.cY ⟨ro,own⟩ c).isSome=true:=by rw[g];rfl
 unfold Instr.next
 simp only[bE,gL]
 refine ⟨_,g,?_⟩
 simp only[bE,gL]
 refine ⟨_,p,?_⟩
 simp only[dg]
 have r:(!seen.isEmpty&&!(cp fk fv 0 l).toArray.isEmpty&&(cp fk fv 0 l).toArray.all (fun e=>decide (e.born≥l.length)))=false:=by
  cases l with
  |nil=>simp[cp]
  |cons e l=>
   have:(cp fk fv 0 (e::l)).toArray.all (fun x=>decide (x.born≥(e::l).length))=false:=by
    rw[<-Bool.not_eq_true]
    intro d
    simp[cp] at d
   rw[this,Bool.and_false]
 simp only[r,Bool.false_eq_true,if_false,bE,xB]
 have s:((cp fk fv 0 l).toArray.filter (fun e=>!seen.contains e.born)).filter (fun e=>decide (e.born≥l.length))=#[]:=by
  rw[<-Array.toList_inj]
  simp only[Array.toList_filter,List.filter_eq_nil_iff,List.mem_filter,decide_eq_true_eq]
  rintro e ⟨he,-⟩
  obtain ⟨j,x,a,rfl⟩:=uy he
  have:=(List.getElem?_eq_some_iff.1 a).1
  show ¬l.length<=j
  omega
 have hold:((cp fk fv 0 l).toArray.filter (fun e=>!seen.contains e.born)).filter (fun e=>decide (e.born<l.length))=(cp fk fv 0 l).toArray.filter (fun e=>!seen.contains e.born):=by
  rw[<-Array.toList_inj]
  simp only[Array.toList_filter,List.filter_eq_self,List.mem_filter,decide_eq_true_eq]
  rintro e ⟨he,-⟩
  obtain ⟨j,x,a,rfl⟩:=uy he
  exact (List.getElem?_eq_some_iff.1 a).1
 rw[s,hold]
 generalize h:(cp fk fv 0 l).toArray.filter (fun e=>!seen.contains e.born)=L
 have u:∀e∈L,∃j x,l[j]?=some x/\e={key:=fk x.1,val:=fv x.2,born:=j}/\j∉seen:=fun e he=>by
  rw[<-h,Array.mem_filter] at he
  obtain ⟨j,x,a,rfl⟩:=uy (List.mem_toArray.1 he.1)
  exact ⟨j,x,a,rfl,by simpa using he.2⟩
 have key:∀t,t<(((if L.isEmpty=true then #[none] else #[])++(L++#[]).map some:Array (Option MapEntry))).size->
   bA P (match (((if L.isEmpty=true then #[none] else #[])++(L++#[]).map some:Array (Option MapEntry)))[t]? with
    |some (some e)=>do
     setObj c (.mapIter (some b) l.length (seen.push e.born) l.length)
     pure (.tuple #[.bool true,e.key,e.val])
    |some none=>pure (.tuple #[.bool false])
    |none=>stuck "Next: no such candidate") R ⟨ro,own⟩:=by
  intro t ht
  by_cases he:L.isEmpty=true
  .obtain rfl:L=#[]:=by simpa using he
   simp at ht
   subst ht
   simp only[Array.isEmpty_empty,if_true]
   have e0:(#[none]++Array.map some ((#[]:Array MapEntry)++#[]):Array (Option MapEntry))[0]?=some none:=aB
   rw[e0]
   show R (.tuple #[.bool false]) ⟨ro,own⟩
   refine n fun i hi=>?_
   have:({key:=fk (l[i]).1,val:=fv (l[i]).2,born:=i}:MapEntry)∈(cp fk fv 0 l).toArray:=by
    rw[List.mem_toArray]
    refine List.mem_iff_getElem?.2 ⟨i,?_⟩
    rw[uw,List.getElem?_eq_getElem hi]
    simp
   by_cases hs:i∈seen
   .exact hs
   .have d:({key:=fk (l[i]).1,val:=fv (l[i]).2,born:=i}:MapEntry)∈(cp fk fv 0 l).toArray.filter (fun e=>!seen.contains e.born):=Array.mem_filter.2 ⟨this,by simpa using hs⟩
    rw[h] at d
    simp at d
  .rw[if_neg he] at ht ⊢
   have k:t<L.size:=by simpa using ht
   have v:((#[]:Array (Option MapEntry))++(L++#[]).map some)[t]?=some (some L[t]):=by
    simp[k]
   rw[v]
   obtain ⟨j,x,a,w,y⟩:=u L[t] (Array.getElem_mem k)
   simp only[w,bE,iC,bF]
   exact ⟨rfl,q,o j x a y⟩
 have f:0<(((if L.isEmpty=true then #[none] else #[])++(L++#[]).map some:Array (Option MapEntry))).size:=by
  by_cases he:L.isEmpty=true
  .rw[if_pos he];simp;omega
  .rw[if_neg he]
   have:L≠#[]:=by simpa using he
   have:=Array.size_pos_iff.2 this
   simpa using this
 generalize hC:((if L.isEmpty=true then #[none] else #[])++(L++#[]).map some:Array (Option MapEntry))=C at key f ⊢
 split
 .exact key 0 f
 .exact fun t=>key _ (Nat.mod_lt _ f)
theorem Eu {b c i:Nat}{l:List (K×V)}{x:K×V}{seen:Array Nat}{own:List (Nat×Obj)}{ro:Addr->Option Value}{R:Value->ag->Prop}(fk:K->Value)(fv:V->Value)(hb:lk own b=some (dg fk fv l))(a:lk own c=some (.mapIter (some b) l.length (seen.push i) l.length))(hi:l[i]?=some x)
  (h:R (.tuple #[fk x.1,fv x.2]) ⟨ro,own⟩):cE P (Instr.entry (.pointer (some ⟨c,0,none⟩))) R ⟨ro,own⟩:=by
 unfold cE
 have d:ag.cY ⟨ro,own⟩ b=some (dg fk fv l):=by
  unfold ag.cY
  rw[hb]
  rfl
 have f:ag.cY ⟨ro,own⟩ c=some (.mapIter (some b) l.length (seen.push i) l.length):=by
  unfold ag.cY
  rw[a]
  rfl
 unfold Instr.entry
 simp only[bE,gL]
 refine ⟨_,f,?_⟩
 simp only[Array.back?_push,bE,gL]
 refine ⟨_,d,?_⟩
 simp only[dg,bne_self_eq_false,Bool.false_eq_true,if_false]
 have g:(cp fk fv 0 l).toArray.find? (fun e=>e.born==i)=some {key:=fk x.1,val:=fv x.2,born:=i}:=by
  rw[List.find?_toArray]
  have k:=(List.getElem?_eq_some_iff.1 hi).1
  have:∀(l:List (K×V)) (j i:Nat) (x:K×V),l[i]?=some x->(cp fk fv j l).find? (fun e=>e.born==j+i)=some {key:=fk x.1,val:=fv x.2,born:=j+i}:=by
   intro l
   induction l with
   |nil=>intro j i x h;simp at h
   |cons e l ih=>
    intro j i x h
    cases i with
    |zero=>
     simp at h
     subst h
     simp[cp]
    |succ i=>
     simp only[cp,List.find?_cons,show (j==j+(i+1))=false by simp]
     have:=ih (j+1) i x (by simpa using h)
     rw[show j+1+i=j+(i+1) by omega] at this
     exact this
  have:=this l 0 i x hi
  simpa using this
 rw[g]
 simp only[bE,bF]
 exact h
end
def gP (P:Program)(J:Goroutine->ag->Prop)(ops:Array Oper)(F0:ag)(Q:Act->ag->Prop):List Oper->Bool->Act->ag->Prop
 |[],_,a,F=>Q a F
 |o::rest,_,a,F=>match cx ops o a with
  |some true=>cT P J o (fun v F'=>Knows F0 F'/\gP P J ops F0 Q rest (!Oper.calls o) (bB a o.dst v) F') a F
  |some false=>gP P J ops F0 Q rest true (bB a o.dst undef) F
  |none=>False
theorem Ev {P:Program}{J:Goroutine->ag->Prop}{ops:Array Oper}{F0:ag}{Q:Act->ag->Prop}{go:Bool}{a:Act}{F:ag}:gP P J ops F0 Q [] go a F=Q a F:=rfl
theorem Ew {P:Program}{J:Goroutine->ag->Prop}{ops:Array Oper}{F0:ag}{Q:Act->ag->Prop}{o:Oper}{rest:List Oper}{a:Act}{F:ag}:gP P J ops F0 Q (o::rest) true a F=match cx ops o a with
  |some true=>cT P J o (fun v F'=>Knows F0 F'/\gP P J ops F0 Q rest (!Oper.calls o) (bB a o.dst v) F') a F
  |some false=>gP P J ops F0 Q rest true (bB a o.dst undef) F
  |none=>False:=(Eq.refl _).trans (Eq.refl _)
theorem qv {P:Program}{J:Goroutine->ag->Prop}{ops:Array Oper}{F0:ag}{Q:Act->ag->Prop}:∀{l:List Oper} {go:Bool} {a:Act} {F:ag},gP P J ops F0 Q l true a F->gP P J ops F0 Q l go a F
 |[],_,_,_,h=>h
 |_::_,_,_,_,h=>h
section
variable {P:Program}{main:Bool}{J:Goroutine->ag->Prop}{ops:Array Oper}{Q:Act->ag->Prop}{F0:ag}
theorem uz (m:Nat)(c:∀j,j<ops.size - m->Region.ready .any ops (c9 ops.size (m+j))=[m+j])(d:Region.ready .any ops (c9 ops.size ops.size)=[]):
  ∀(l:List Oper) (k:Nat) (go:Bool) (a:Act) (F:ag),Knows F0 F->m<=k->k<=ops.size->ops.toList.drop k=l->gP P J ops F0 Q l go a F->dX P J ops Q (Knows F0) (ops.size - k) (c9 ops.size k) a F
 |[],k,_,a,F,_,p,q,b,h=>by
  have:k=ops.size:=by
   have:=congrArg List.length b
   simp at this
   omega
  subst this
  exact xj d h _
 |o::rest,k,_,a,F,hF,p,q,b,h=>by
  have g:k<ops.size:=by
   rcases Nat.lt_or_ge k ops.size with x|x
   .exact x
   .rw[List.drop_eq_nil_of_le (by simpa using x)] at b;cases b
  have ho:ops[k]?=some o:=by
   have:=congrArg List.head? b
   simpa [List.head?_drop] using this
  have i:ops.toList.drop (k+1)=rest:=by
   have:=congrArg List.tail b
   simpa [List.tail_drop] using this
  have e:ops.size - k=(ops.size - (k+1))+1:=ai
  have f:=c (k - m) ai
  rw[show m+(k - m)=k by omega] at f
  rw[e]
  unfold gP at h
  split at h
  .rename_i hg
   refine xP k ho f hg ?_
   refine nu.pz ?_ h
   rintro v F' ⟨n,r⟩
   refine ⟨n,?_⟩
   rw[pn g]
   exact uz m c d rest (k+1) _ _ F' n ai ai i r
  .rename_i hg
   refine xh k f ?_
   unfold dD
   simp only[ho]
   rw[cr hg]
   refine ⟨hF,?_⟩
   rw[pn g]
   exact uz m c d rest (k+1) _ _ F hF ai ai i h
  .exact h.elim
theorem Ey {Q:Ex->Act->ag->Prop}(hJ:Closed P main J)(e:P.follows .mixedOrders=true)(m n:Nat){id:Nat}{a:Act}{F:ag}(hF:Knows ⟨F.ro,F.own.take n⟩ F)(f:pg ops m=true)
  (h:eO P J ops ⟨F.ro,F.own.take n⟩ (fun b=>gP P J ops ⟨F.ro,F.own.take n⟩ (Q .normal) (ops.toList.drop m) true b F) (ops.toList.take m) true a):Wp J (.region id ops true) Q a F:=by
 have c:=xT f
 simp only[nk,Bool.and_eq_true,decide_eq_true_eq,List.all_eq_true,List.mem_range] at c
 obtain ⟨⟨⟨⟨g,d⟩,j⟩,k⟩,l⟩:=c
 refine xp hJ (Knows ⟨F.ro,F.own.take n⟩) e ?_
 rw[<-xU]
 have:=pq (P:=P) (J:=J) (Q:=Q .normal) m d g (fun i hi=>by have:=j i hi;simpa using this) hF (fun b o=>uz m k l _ m _ b F hF (Nat.le_refl _) d rfl o) _ 0 true a aB (Nat.zero_le _) h
 simpa using this
end
attribute [irreducible] gP
attribute [go_sem] Ev Ew
end Go.Sep
end

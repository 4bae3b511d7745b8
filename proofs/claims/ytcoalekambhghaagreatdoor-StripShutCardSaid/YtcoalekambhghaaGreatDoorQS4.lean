/- A part of the proof: QS4. -/
import Derived.Test.YtcoalekambhghaaGreatDoorQS3
set_option linter.all false
section
namespace Go.Proofs.YtcoalekambhghaaGreatDoor
open Go Go.Sep Go.Proofs
set_option maxRecDepth 100000
set_option maxHeartbeats 4000000
def dB (ro:Addr->Option Value):Prop:=
 ro ⟨0,0,none⟩=some (.func (.func 216) #[] #[])/\ro ⟨0,1,none⟩=some (.func (.func 217) #[] #[])/\ro ⟨0,2,none⟩=some (.func (.func 218) #[] #[])
theorem dB.mono {ro aK:Addr->Option Value}(h:dB ro)(a:Ext ro aK):dB aK:=by
 obtain ⟨b,c,d⟩:=h;exact ⟨a _ _ b,a _ _ c,a _ _ d⟩
def qG (_:aH):Option Int:=some 0
def qH (b:aH):Option Int:=ak (me b) fun x=>cond (x != 0) (some x) (qG b)
def qI (b:aH):Option Int:=ak (mg b) fun x=>cond (x != 0) (some x) (qH b)
def ua (b:aH):Option Int:=ak (oH b) fun x=>cond (x != 0) (some x) (qI b)
def fE (b:aH):Option Int:=ua b
def qJ:Nat->aH->Option Int
 |0=>ua|1=>qI|2=>qH|_=>qG
theorem jv {ro:Addr->Option Value}(f:dB ro)(u0:aH){s1:Value}(d:aG bJ ro s1 u0.aj){r:Int}(h:fE u0=some r):
  aF Tryz.prog 15 #[.agg #[.int .i64 u0.steps,.int .i64 u0.an,s1]] ⟨ro,[]⟩ (fun v _=>v= .int .i64 r):=by
 obtain ⟨k,l,n⟩:=f
 have g:=d.oc;simp only[e8] at g
 replace h:qJ 0 u0=some r:=h
 refine aF.go Tryz.func15 rfl Tryz.ntmps15 Tryz.results15 aB fun main J hJ A j hd hs=>?_
 have o:=hs 0
 clear hs
 first|refine ah hJ ?_|refine bW hJ ?_|refine af hJ (bW hJ ?_)|refine af hJ (af hJ (bW hJ ?_))
 apply bw _
 intro b f1;have r1:=aT f1;have n1:=aU f1;simp only[aN] at n1
 first|refine ah hJ ?_|refine bW hJ ?_|refine af hJ (bW hJ ?_)|refine af hJ (af hJ (bW hJ ?_))
 apply bw _
 first|refine bf hJ (s5 hJ (fun m a F=>∃i:Nat,F=⟨ro,[(b,.cells #[.int .i64 u0.steps,.int .i64 u0.an,s1] 24)]⟩/\m=3 - i/\sz a=18/\a.defers=[]/\slot a 1= .pointer (some ⟨b,0,none⟩)/\slot a 6= .agg #[.func (.func 216) #[] #[],.func (.func 217) #[] #[],.func (.func 218) #[] #[]]/\slot a 7= .int .i64 (i:Int)/\i<=3/\qJ i u0=some r) (3) ?_ ?_)|refine af hJ (bf hJ (s5 hJ (fun m a F=>∃i:Nat,F=⟨ro,[(b,.cells #[.int .i64 u0.steps,.int .i64 u0.an,s1] 24)]⟩/\m=3 - i/\sz a=18/\a.defers=[]/\slot a 1= .pointer (some ⟨b,0,none⟩)/\slot a 6= .agg #[.func (.func 216) #[] #[],.func (.func 217) #[] #[],.func (.func 218) #[] #[]]/\slot a 7= .int .i64 (i:Int)/\i<=3/\qJ i u0=some r) (3) ?_ ?_))|refine af hJ (af hJ (bf hJ (s5 hJ (fun m a F=>∃i:Nat,F=⟨ro,[(b,.cells #[.int .i64 u0.steps,.int .i64 u0.an,s1] 24)]⟩/\m=3 - i/\sz a=18/\a.defers=[]/\slot a 1= .pointer (some ⟨b,0,none⟩)/\slot a 6= .agg #[.func (.func 216) #[] #[],.func (.func 217) #[] #[],.func (.func 218) #[] #[]]/\slot a 7= .int .i64 (i:Int)/\i<=3/\qJ i u0=some r) (3) ?_ ?_)))
 .refine ⟨0,rfl,rfl,?_⟩
  apply aa _
  first|exact ⟨Nat.zero_le _,h⟩|exact h
 .clear h
  rintro m a F ⟨i,rfl,rfl,j,hd,p,s,t,hi,h⟩
  rcases i with _|_|_|i
  .replace h:ak (oH u0) (fun x=>cond (x != 0) (some x) (qI u0))=some r:=h
   have h':=av h;clear h;obtain ⟨x,q,h⟩:=h'
   have e:((0:Nat):Int)=0:=rfl
   first|refine ah hJ ?_|refine bW hJ ?_|refine af hJ (bW hJ ?_)|refine af hJ (af hJ (bW hJ ?_))
   apply aa _
   apply af hJ
   refine aL hJ au ?_
   apply aR hJ
   refine af hJ (bf hJ ?_)
   first|refine ah hJ ?_|refine bW hJ ?_|refine af hJ (bW hJ ?_)|refine af hJ (af hJ (bW hJ ?_))
   apply aa _
   first|refine ah hJ ?_|refine bW hJ ?_|refine af hJ (bW hJ ?_)|refine af hJ (af hJ (bW hJ ?_))
   apply aa _
   refine bl hJ _ (Em u0 (d.mono aX) q) (aQ ?_)
   apply aa _
   first|refine ah hJ ?_|refine bW hJ ?_|refine af hJ (bW hJ ?_)|refine af hJ (af hJ (bW hJ ?_))
   apply aa _
   have h':=aD h;clear h;rcases h' with ⟨c,h⟩|⟨c,h⟩
   .refine aL hJ au ?_
    first|refine ah hJ ?_|refine bW hJ ?_|refine af hJ (bW hJ ?_)|refine af hJ (af hJ (bW hJ ?_))
    apply aa _
    have h':=Option.some.inj h;clear h;subst h'
    apply aI
    simp only[*,go_sem]
   .refine aM hJ au ?_
    apply aR hJ
    apply ah hJ
    apply aa _
    refine ⟨3 - 1,ai,_,Le.refl _,1,rfl,rfl,?_⟩
    have hw:IntKind.i64.wrap (0+1)=((1:Nat):Int):=ay
    apply aa _
    first|exact ⟨ai,h⟩|exact h
  .replace h:ak (mg u0) (fun x=>cond (x != 0) (some x) (qH u0))=some r:=h
   have h':=av h;clear h;obtain ⟨x,q,h⟩:=h'
   have e:((0+1:Nat):Int)=1:=rfl
   first|refine ah hJ ?_|refine bW hJ ?_|refine af hJ (bW hJ ?_)|refine af hJ (af hJ (bW hJ ?_))
   apply aa _
   apply af hJ
   refine aL hJ au ?_
   apply aR hJ
   refine af hJ (bf hJ ?_)
   first|refine ah hJ ?_|refine bW hJ ?_|refine af hJ (bW hJ ?_)|refine af hJ (af hJ (bW hJ ?_))
   apply aa _
   first|refine ah hJ ?_|refine bW hJ ?_|refine af hJ (bW hJ ?_)|refine af hJ (af hJ (bW hJ ?_))
   apply aa _
   refine bl hJ _ (Er u0 (d.mono aX) q) (aQ ?_)
   apply aa _
   first|refine ah hJ ?_|refine bW hJ ?_|refine af hJ (bW hJ ?_)|refine af hJ (af hJ (bW hJ ?_))
   apply aa _
   have h':=aD h;clear h;rcases h' with ⟨c,h⟩|⟨c,h⟩
   .refine aL hJ au ?_
    first|refine ah hJ ?_|refine bW hJ ?_|refine af hJ (bW hJ ?_)|refine af hJ (af hJ (bW hJ ?_))
    apply aa _
    have h':=Option.some.inj h;clear h;subst h'
    apply aI
    simp only[*,go_sem]
   .refine aM hJ au ?_
    apply aR hJ
    apply ah hJ
    apply aa _
    refine ⟨3 - 2,ai,_,Le.refl _,2,rfl,rfl,?_⟩
    have hw:IntKind.i64.wrap (1+1)=((2:Nat):Int):=ay
    apply aa _
    first|exact ⟨ai,h⟩|exact h
  .replace h:ak (me u0) (fun x=>cond (x != 0) (some x) (qG u0))=some r:=h
   have h':=av h;clear h;obtain ⟨x,q,h⟩:=h'
   have e:((0+1+1:Nat):Int)=2:=rfl
   first|refine ah hJ ?_|refine bW hJ ?_|refine af hJ (bW hJ ?_)|refine af hJ (af hJ (bW hJ ?_))
   apply aa _
   apply af hJ
   refine aL hJ au ?_
   apply aR hJ
   refine af hJ (bf hJ ?_)
   first|refine ah hJ ?_|refine bW hJ ?_|refine af hJ (bW hJ ?_)|refine af hJ (af hJ (bW hJ ?_))
   apply aa _
   first|refine ah hJ ?_|refine bW hJ ?_|refine af hJ (bW hJ ?_)|refine af hJ (af hJ (bW hJ ?_))
   apply aa _
   refine bl hJ _ (Ep u0 (d.mono aX) q) (aQ ?_)
   apply aa _
   first|refine ah hJ ?_|refine bW hJ ?_|refine af hJ (bW hJ ?_)|refine af hJ (af hJ (bW hJ ?_))
   apply aa _
   have h':=aD h;clear h;rcases h' with ⟨c,h⟩|⟨c,h⟩
   .refine aL hJ au ?_
    first|refine ah hJ ?_|refine bW hJ ?_|refine af hJ (bW hJ ?_)|refine af hJ (af hJ (bW hJ ?_))
    apply aa _
    have h':=Option.some.inj h;clear h;subst h'
    apply aI
    simp only[*,go_sem]
   .refine aM hJ au ?_
    apply aR hJ
    apply ah hJ
    apply aa _
    refine ⟨3 - 3,ai,_,Le.refl _,3,rfl,rfl,?_⟩
    have hw:IntKind.i64.wrap (2+1)=((3:Nat):Int):=ay
    apply aa _
    first|exact ⟨ai,h⟩|exact h
  .have:i=0:=ai
   subst this
   replace h:some 0=some r:=h
   have e:((0+1+1+1:Nat):Int)=3:=rfl
   first|refine ah hJ ?_|refine bW hJ ?_|refine af hJ (bW hJ ?_)|refine af hJ (af hJ (bW hJ ?_))
   apply aa _
   apply af hJ
   refine aM hJ au ?_
   apply bM
   simp only[go_sem]
   first|refine ah hJ ?_|refine bW hJ ?_|refine af hJ (bW hJ ?_)|refine af hJ (af hJ (bW hJ ?_))
   apply aa _
   have h':=Option.some.inj h;clear h;subst h'
   apply aI
   simp only[*,go_sem]
end Go.Proofs.YtcoalekambhghaaGreatDoor
end
section
namespace Go.Sep
open Go Go.Conc
theorem qK {H σ:Type}{step:σ->H->Option (Bool×σ)}{l l':List (Option H)}{s s':σ}{c:Bool}(h:dg step (l++l') s=some (c,s')):
  (∃s1,dg step l s=some (true,s1)/\dg step l' s1=some (c,s'))\/(dg step l s=some (false,s')/\c=false):=by
 rw[yO] at h
 split at h
 .rename_i s1 a;exact .inl ⟨s1,a,h⟩
 .rename_i s1 a;simp only[Option.some.injEq,Prod.mk.injEq] at h;obtain ⟨rfl,rfl⟩:=h;exact .inr ⟨a,rfl⟩
 .cases h
theorem jX {H σ:Type}{step:σ->H->Option (Bool×σ)}{s:σ}{r:Bool×σ}(h:dg step [none] s=some r):False:=by cases h
end Go.Sep
end
section
namespace Go.Proofs.YtcoalekambhghaaGreatDoor
open Go Go.Sep Go.Proofs
set_option maxRecDepth 100000
set_option maxHeartbeats 4000000
def bh.setAt (x:bh)(i n:Int):Option bh:=if i=0 then some {x with e0:=n} else if i=1 then some {x with e1:=n} else if i=2 then some {x with e2:=n} else if i=3 then some {x with e3:=n} else none
def dJ (f:bg->List (Option bg))(i hi:Int):Nat->bg->List (Option bg)×bg
 |0,v=>([none],v)
 |k+1,v=>match v.az.get i with
  |none=>([none],v)
  |some n=>if n<=hi then match v.az.setAt i (IntKind.i64.wrap (n+1)) with
    |none=>([none],v)
    |some x=>(f v++(dJ f i hi k {v with az:=x}).1,(dJ f i hi k {v with az:=x}).2)
   else ([],v)
def fF (f:bg->List (Option bg))(i hi b a:Int):Nat->bg->List (Option bg)
 |0,_=>[none]
 |k+1,v=>match v.ax.get i with
  |none=>[none]
  |some n=>if n<=hi then match v.az.setAt i b with
    |none=>[none]
    |some x=>(dJ f i a 200 {v with az:=x}).1++match (dJ f i a 200 {v with az:=x}).2.ax.setAt i (IntKind.i64.wrap (n+1)) with
     |none=>[none]
     |some y=>fF f i hi b a k {(dJ f i a 200 {v with az:=x}).2 with ax:=y}
   else []
def dP (b:aH):Nat->Int->bg->List (Option bg)
 |0,_,_=>[none]
 |fuel+1,i,v=>if i=b.aj.length then (match iy b v with
   |some true=>[some v]
   |some false=>[]
   |none=>[none])
  else match bI b.aj i with
   |none=>[none]
   |some e=>match v.ax.setAt i e.from_.low with
    |none=>[none]
    |some x=>fF (dP b fuel (IntKind.i64.wrap (i+1))) i e.from_.high e.aC.low e.aC.high 200 {v with ax:=x}
def oM (b:aH)(bits:Int):List (Option bg):=dP b 6 0 ⟨⟨0,0,0,0⟩,⟨0,0,0,0⟩,bits⟩
def qL (b:aH)(bits:Int):Option (List (Option bg)):=some (oM b bits)
section
variable {ro:Addr->Option Value}{σ:Type}{step:σ->bg->Option (Bool×σ)}{I:σ->List (Nat×Obj)->Prop}{y:Value}
def cw (y:Value)(b2 b3 b4:Nat):List (Nat×Obj):=
 [(b4,.cells #[.func (.func 140) #[] #[.pointer (some ⟨b2,0,none⟩),.pointer (some ⟨b3,0,none⟩),.pointer (some ⟨b4,0,none⟩)]] 112),(b3,.cells #[y] 97)]
theorem bh.zf {x z:bh}{i n:Int}(h:x.setAt i n=some z):i=0\/i=1\/i=2\/i=3:=by
 unfold bh.setAt at h;split at h
 .exact .inl ‹_›
 .split at h
  .exact .inr (.inl ‹_›)
  .split at h
   .exact .inr (.inr (.inl ‹_›))
   .split at h
    .exact .inr (.inr (.inr ‹_›))
    .cases h
theorem Es (u0:aH){s2:Value}(b1:aG bJ ro s2 u0.aj)(cv:tE Tryz.prog y bg.v step ro I)
  {b2 b3 b4:Nat} (df:ro ⟨b2,0,none⟩=some (.int .i64 u0.steps)) (dk:ro ⟨b2,1,none⟩=some (.int .i64 u0.an)) (dp:ro ⟨b2,2,none⟩=some s2) (n1:¬b4=b3) (dq:∀off sp,ro ⟨b4,off,sp⟩=none) (ds:∀off sp,ro ⟨b3,off,sp⟩=none):
  ∀(fuel:Nat) (i:Int) (v:bg) (s:σ) (c:Bool) (s':σ),dg step (dP u0 fuel i v) s=some (c,s')->∀(main:Bool) (J:Goroutine->ag->Prop),Closed Tryz.prog main J->∀own,I s own->
   de Tryz.prog J 140 #[v.v,.int .i64 i,.pointer (some ⟨b2,0,none⟩),.pointer (some ⟨b3,0,none⟩),.pointer (some ⟨b4,0,none⟩)] ⟨ro,cw y b2 b3 b4++own⟩
    (fun r F'=>∃d,Le ⟨ro,cw y b2 b3 b4++d⟩ F'/\r= .bool c/\I s' d):=by
 intro fuel
 induction fuel with
 |zero=>intro i v s c s' h;exact (jX h).elim
 |succ fuel ih=>
  intro i v s c s' h main J hJ own al
  obtain ⟨dt,du,rfl,dv,dC,e1⟩:=id b1
  refine de.go hJ Tryz.func140 rfl Tryz.ntmps140 Tryz.results140 aB fun A bc hd hs=>?_
  have bd:=hs 0
  have k1:=hs 1
  have bj:=hs 2
  have bk:=hs 3
  have bm:=hs 4
  clear hs
  have dE:(0:Int)<((4:Nat):Int):=ay
  have dT:(1:Int)<((4:Nat):Int):=ay
  have ea:(2:Int)<((4:Nat):Int):=ay
  have eb:(3:Int)<((4:Nat):Int):=ay
  unfold dP at h
  repeat refine af hJ ?_
  refine ah hJ ?_
  simp only[cw,go_sem, *,-h]
  intro k f5;have ec:=aT f5;have cy:=aU f5
  simp only[List.cons_append,List.nil_append,aN] at cy
  try apply aa _
  repeat refine af hJ ?_
  refine ah hJ ?_
  apply aa _
  repeat refine af hJ ?_
  by_cases hi:i=(u0.aj.length:Int)
  .rw[if_pos hi] at h
   refine aL hJ au ?_
   repeat refine af hJ ?_
   refine aO hJ fun nd=>?_
   refine ah hJ ?_
   apply aa _
   cases ao:iy u0 v with
   |none=>rw[ao] at h;exact (jX h).elim
   |some r=>
    rw[ao] at h
    refine bl hJ _ (ze u0 (b1.mono aX) v ao) (aQ ?_)
    cases r with
    |false=>
     cases h
     apply bw _
     repeat refine af hJ ?_
     refine aI ?_
     apply bw _
     exact ⟨own,Le.sub (List.sublist_cons_self _ _),al⟩
    |true=>
     have c0:step s v=some (c,s'):=by
      simp only[dg] at h
      split at h<;>first|(cases h;assumption)|cases h
     apply aa _
     refine Dq hJ ((k,.cells #[.int .i64 v.ax.e0,.int .i64 v.ax.e1,.int .i64 v.ax.e2,.int .i64 v.ax.e3,.int .i64 v.az.e0,.int .i64 v.az.e1,.int .i64 v.az.e2,.int .i64 v.az.e3,.int .u64 v.an] 84)::cw y b2 b3 b4) (fun m u B=>cv s v c s' c0 m u B own al) nd ?_
     rintro w d ⟨rfl,C⟩ ed
     refine aQ ?_
     apply aa _
     repeat refine af hJ ?_
     refine aI ?_
     apply aa _
     exact ⟨d,Le.sub (List.sublist_cons_self _ _),C⟩
  .rw[if_neg hi] at h
   have eh:(i==(u0.aj.length:Int))=false:=by simpa using hi
   refine aM hJ au ?_
   refine aR hJ ?_
   cases ao:bI u0.aj i with
   |none=>rw[ao] at h;exact (jX h).elim
   |some e=>
    rw[ao] at h
    simp only at h
    have et:=ao
    obtain ⟨ev,eQ,ca⟩:=cI ao
    obtain ⟨eS,cse,da,db,ar⟩:=e1 _ _ ca
    obtain ⟨sm,rfl,lm⟩:=db
    obtain ⟨l,p,rfl,fa,fb,em⟩:=id lm
    cases da
    have cb:=ar 0 _ rfl;simp only[go_sem] at cb
    have cc:=ar 1 _ rfl;simp only[go_sem] at cc
    have m2:=ar 2 _ rfl;simp only[go_sem] at m2
    have cd:=ar 3 _ rfl;simp only[go_sem] at cd
    have cf:=ar 4 _ rfl;simp only[go_sem] at cf
    have ck:=ar 5 _ rfl;simp only[go_sem] at ck
    have cl:=ar 6 _ rfl;simp only[go_sem] at cl
    clear ar ca
    repeat refine af hJ ?_
    refine ah hJ ?_
    apply aa _
    intro q f8;have fc:=aT f8;have dd:=aU f8
    simp only[aN] at dd
    try apply aa _
    clear cb cc m2 cd cf ck cl
    cases V:v.ax.setAt i e.from_.low with
    |none=>rw[V] at h;exact (jX h).elim
    |some x=>
     rw[V] at h
     simp only at h
     rcases bh.zf V with rfl|rfl|rfl|rfl
     .simp[bh.setAt] at V
      subst V
      repeat refine af hJ ?_
      refine ah hJ ?_
      apply aa _
      repeat refine af hJ ?_
      refine bf hJ ?_
      refine bO hJ [7,36,37,38,39,40,41,42,43,44,45,46,47,48,49,50,51,52,53,54,55,56,57,58,59,60,61,62,63,64,65,66,67,68,69,70,71,72,73,74,75,76,77] (fun m a0 F'=>∃(v1:bg) (s1:σ) (t:List (Nat×Obj)),dg step (fF (dP u0 fuel (IntKind.i64.wrap (0+1))) 0 e.from_.high e.aC.low e.aC.high m v1) s1=some (c,s')/\F'=⟨ro,(q,.cells #[.string ⟨⟨e.name⟩⟩,.int .i64 e.from_.low,.int .i64 e.from_.high,.int .i64 e.wide,.int .i64 e.aC.low,.int .i64 e.aC.high,.slice l e.marks.length p] 56)::(k,.cells #[.int .i64 v1.ax.e0,.int .i64 v1.ax.e1,.int .i64 v1.ax.e2,.int .i64 v1.ax.e3,.int .i64 v1.az.e0,.int .i64 v1.az.e1,.int .i64 v1.az.e2,.int .i64 v1.az.e3,.int .u64 v1.an] 84)::(cw y b2 b3 b4++t)⟩/\I s1 t) 200 ?_ ?_
      .exact ⟨_,s,own,h,by first|rfl|simp only[cw,List.cons_append,List.nil_append],al⟩
      .rintro m D F' g ⟨v1,s1,t,a,rfl,E⟩
       clear h al
       have a2:sz D=78:=by rw[g.size];simp only[*,go_sem]
       have a3:D.defers=[]:=by rw[g.defers];simp only[*,go_sem]
       have W:=g.aA 1 ay
       have X:=g.aA 2 ay
       have Y:=g.aA 3 ay
       have Z:=g.aA 4 ay
       have ab:=g.aA 5 ay
       have ad:=g.aA 8 ay
       simp only[*,go_sem] at W X Y Z ab ad
       clear g bd k1 bj bk bm bc hd
       obtain _|m:=m
       .exact (jX a).elim
       unfold fF at a
       obtain ⟨n,F⟩:∃n,v1.ax.get 0=some n:=by simp[bh.get]
       rw[F] at a
       simp only at a
       simp[bh.get] at F
       subst F
       repeat refine af hJ ?_
       refine cB hJ mixed 7 ⟨ro,[(q,.cells #[.string ⟨⟨e.name⟩⟩,.int .i64 e.from_.low,.int .i64 e.from_.high,.int .i64 e.wide,.int .i64 e.aC.low,.int .i64 e.aC.high,.slice l e.marks.length p] 56),(k,.cells #[.int .i64 v1.ax.e0,.int .i64 v1.ax.e1,.int .i64 v1.ax.e2,.int .i64 v1.ax.e3,.int .i64 v1.az.e0,.int .i64 v1.az.e1,.int .i64 v1.az.e2,.int .i64 v1.az.e3,.int .u64 v1.an] 84)]⟩ (by simp only[*,go_sem,-a]) aS ?_
       simp only[*,go_sem,-a]
       repeat refine af hJ ?_
       by_cases hn:v1.ax.e0<=e.from_.high
       .rw[if_pos hn] at a
        refine aL hJ (by simp only[*,go_sem,-a]) ?_
        refine aR hJ ?_
        obtain ⟨x1,G⟩:∃z,v1.az.setAt 0 e.aC.low=some z:=by simp[bh.setAt]
        rw[G] at a
        simp only at a
        simp[bh.setAt] at G
        subst G
        repeat refine af hJ ?_
        refine bf hJ ?_
        repeat refine af hJ ?_
        refine ah hJ ?_
        simp only[*,go_sem,-a]
        repeat refine af hJ ?_
        refine bf hJ ?_
        refine bO hJ [7,57,58,59,60,61,62,63,64,65,66,67,68,69,70,71,72,73,74,75,76,77] (fun m2 a0 F'=>∃(v2:bg) (s2:σ) (j:List (Nat×Obj)),dg step ((dJ (dP u0 fuel (IntKind.i64.wrap (0+1))) 0 e.aC.high m2 v2).1++(match (dJ (dP u0 fuel (IntKind.i64.wrap (0+1))) 0 e.aC.high m2 v2).2.ax.setAt 0 (IntKind.i64.wrap (v1.ax.e0+1)) with|none=>[none]|some y=>fF (dP u0 fuel (IntKind.i64.wrap (0+1))) 0 e.from_.high e.aC.low e.aC.high m {(dJ (dP u0 fuel (IntKind.i64.wrap (0+1))) 0 e.aC.high m2 v2).2 with ax:=y})) s2=some (c,s')/\v2.ax=v1.ax/\F'=⟨ro,(q,.cells #[.string ⟨⟨e.name⟩⟩,.int .i64 e.from_.low,.int .i64 e.from_.high,.int .i64 e.wide,.int .i64 e.aC.low,.int .i64 e.aC.high,.slice l e.marks.length p] 56)::(k,.cells #[.int .i64 v2.ax.e0,.int .i64 v2.ax.e1,.int .i64 v2.ax.e2,.int .i64 v2.ax.e3,.int .i64 v2.az.e0,.int .i64 v2.az.e1,.int .i64 v2.az.e2,.int .i64 v2.az.e3,.int .u64 v2.an] 84)::(cw y b2 b3 b4++j)⟩/\I s2 j) 200 ?_ ?_
        .exact ⟨_,s1,t,a,rfl,rfl,E⟩
        .rintro m2 H F' f ⟨v2,s2,j,hM,b,rfl,K⟩
         clear a E
         have bo:cq [7,36,37,38,39,40,41,42,43,44,45,46,47,48,49,50,51,52,53,54,55,56,57,58,59,60,61,62,63,64,65,66,67,68,69,70,71,72,73,74,75,76,77] H D:=(f.eg ay).trans (by simp only[go_sem])
         have br:sz H=78:=by rw[f.size];simp only[*,go_sem]
         have bs:H.defers=[]:=by rw[f.defers];simp only[*,go_sem]
         have a4:=f.aA 1 ay
         have a5:=f.aA 2 ay
         have a6:=f.aA 3 ay
         have a7:=f.aA 4 ay
         have a8:=f.aA 5 ay
         have a9:=f.aA 8 ay
         simp only[*,go_sem] at a4 a5 a6 a7 a8 a9
         clear f W X Y Z ab ad a2 a3
         obtain _|m2:=m2
         .simp[dJ,dg] at hM
         unfold dJ at hM
         obtain ⟨b0,L⟩:∃n,v2.az.get 0=some n:=by simp[bh.get]
         rw[L] at hM
         simp only at hM
         simp[bh.get] at L
         subst L
         repeat refine af hJ ?_
         refine cB hJ mixed 7 ⟨ro,[(q,.cells #[.string ⟨⟨e.name⟩⟩,.int .i64 e.from_.low,.int .i64 e.from_.high,.int .i64 e.wide,.int .i64 e.aC.low,.int .i64 e.aC.high,.slice l e.marks.length p] 56),(k,.cells #[.int .i64 v2.ax.e0,.int .i64 v2.ax.e1,.int .i64 v2.ax.e2,.int .i64 v2.ax.e3,.int .i64 v2.az.e0,.int .i64 v2.az.e1,.int .i64 v2.az.e2,.int .i64 v2.az.e3,.int .u64 v2.an] 84)]⟩ (by simp only[*,go_sem,-hM,-b]) aS ?_
         simp only[*,go_sem,-hM,-b]
         repeat refine af hJ ?_
         by_cases ae:v2.az.e0<=e.aC.high
         .simp only[if_pos ae] at hM
          refine aL hJ (by simp only[*,go_sem,-hM,-b]) ?_
          refine aR hJ ?_
          obtain ⟨x2,M⟩:∃z,v2.az.setAt 0 (IntKind.i64.wrap (v2.az.e0+1))=some z:=by simp[bh.setAt]
          rw[M] at hM
          simp only at hM
          simp[bh.setAt] at M
          subst M
          rw[List.append_assoc] at hM
          have ba:=qK hM
          clear hM
          repeat refine af hJ ?_
          refine bf hJ ?_
          repeat refine af hJ ?_
          refine aO hJ fun nd=>?_
          refine ah hJ ?_
          simp only[cw,List.cons_append,List.nil_append,go_sem, *,-b]
          rcases ba with ⟨N,O,hM⟩|⟨O,rfl⟩
          .refine dA hJ (bz:=cw y b2 b3 b4++j) [(q,.cells #[.string ⟨⟨e.name⟩⟩,.int .i64 e.from_.low,.int .i64 e.from_.high,.int .i64 e.wide,.int .i64 e.aC.low,.int .i64 e.aC.high,.slice l e.marks.length p] 56),(k,.cells #[.int .i64 v2.ax.e0,.int .i64 v2.ax.e1,.int .i64 v2.ax.e2,.int .i64 v2.ax.e3,.int .i64 v2.az.e0,.int .i64 v2.az.e1,.int .i64 v2.az.e2,.int .i64 v2.az.e3,.int .u64 v2.an] 84)] [] (by simp only[cw,List.append_nil,List.cons_append,List.nil_append]) (fun w o=>∃d:List (Nat×Obj),o=cw y b2 b3 b4++d/\w= .bool true/\I N d) (fun P u B=>(ih (IntKind.i64.wrap (0+1)) v2 s2 true N O P u B j K).mono (by rintro w F' ⟨d,hle,rfl,C⟩;exact ⟨_,⟨d,rfl,rfl,C⟩,hle⟩)) ?_
           rintro w o ⟨Q,rfl,rfl,R⟩ S T bb
           simp only[cw,List.append_nil,List.cons_append,List.nil_append] at T
           subst S
           refine ⟨_,Le.refl _,aQ ?_⟩
           simp only[*,go_sem,-hM,-b]
           repeat refine af hJ ?_
           refine aM hJ (by simp only[*,go_sem,-hM,-b]) ?_
           refine aR hJ ?_
           repeat refine af hJ ?_
           refine ah hJ ?_
           simp only[*,go_sem,-hM,-b]
           exact ⟨m2,Nat.lt_succ_self m2,_,Le.refl _,_,N,Q,hM,b,rfl,R⟩
          .refine dA hJ (bz:=cw y b2 b3 b4++j) [(q,.cells #[.string ⟨⟨e.name⟩⟩,.int .i64 e.from_.low,.int .i64 e.from_.high,.int .i64 e.wide,.int .i64 e.aC.low,.int .i64 e.aC.high,.slice l e.marks.length p] 56),(k,.cells #[.int .i64 v2.ax.e0,.int .i64 v2.ax.e1,.int .i64 v2.ax.e2,.int .i64 v2.ax.e3,.int .i64 v2.az.e0,.int .i64 v2.az.e1,.int .i64 v2.az.e2,.int .i64 v2.az.e3,.int .u64 v2.an] 84)] [] (by simp only[cw,List.append_nil,List.cons_append,List.nil_append]) (fun w o=>∃d:List (Nat×Obj),o=cw y b2 b3 b4++d/\w= .bool false/\I s' d) (fun P u B=>(ih (IntKind.i64.wrap (0+1)) v2 s2 false s' O P u B j K).mono (by rintro w F' ⟨d,hle,rfl,C⟩;exact ⟨_,⟨d,rfl,rfl,C⟩,hle⟩)) ?_
           rintro w o ⟨Q,rfl,rfl,R⟩ S T bb
           simp only[cw,List.append_nil,List.cons_append,List.nil_append] at T
           subst S
           refine ⟨_,Le.refl _,aQ ?_⟩
           simp only[*,go_sem,-b]
           repeat refine af hJ ?_
           refine aL hJ (by simp only[*,go_sem,-b]) ?_
           repeat refine af hJ ?_
           refine ah hJ ?_
           simp only[*,go_sem,-b]
           repeat refine af hJ ?_
           refine aI ?_
           simp only[*,go_sem,-b]
           exact ⟨Q,Le.sub ((List.sublist_cons_self _ _).trans (List.sublist_cons_self _ _)),R⟩
         .simp only[if_neg ae,List.nil_append] at hM
          rw[<-b] at hM
          refine aM hJ (by simp only[*,go_sem,-hM,-b]) ?_
          refine bM ?_
          simp only[go_sem]
          obtain ⟨x3,U⟩:∃z,v2.ax.setAt 0 (IntKind.i64.wrap (v2.ax.e0+1))=some z:=by simp[bh.setAt]
          rw[U] at hM
          simp only at hM
          simp[bh.setAt] at U
          subst U
          repeat refine af hJ ?_
          refine ah hJ ?_
          simp only[*,go_sem,-hM,-b]
          exact ⟨m,Nat.lt_succ_self m,_,Le.refl _,_,s2,j,hM,rfl,K⟩
       .rw[if_neg hn] at a
        simp only[dg,Option.some.injEq,Prod.mk.injEq] at a
        obtain ⟨rfl,rfl⟩:=a
        refine aM hJ cY ?_
        refine bM ?_
        simp only[go_sem]
        repeat refine af hJ ?_
        refine ah hJ ?_
        apply bw _
        repeat refine af hJ ?_
        refine aI ?_
        apply bw _
        exact ⟨t,Le.sub ((List.sublist_cons_self _ _).trans (List.sublist_cons_self _ _)),E⟩
     .simp[bh.setAt] at V
      subst V
      repeat refine af hJ ?_
      refine ah hJ ?_
      apply aa _
      repeat refine af hJ ?_
      refine bf hJ ?_
      refine bO hJ [7,36,37,38,39,40,41,42,43,44,45,46,47,48,49,50,51,52,53,54,55,56,57,58,59,60,61,62,63,64,65,66,67,68,69,70,71,72,73,74,75,76,77] (fun m a0 F'=>∃(v1:bg) (s1:σ) (t:List (Nat×Obj)),dg step (fF (dP u0 fuel (IntKind.i64.wrap (1+1))) 1 e.from_.high e.aC.low e.aC.high m v1) s1=some (c,s')/\F'=⟨ro,(q,.cells #[.string ⟨⟨e.name⟩⟩,.int .i64 e.from_.low,.int .i64 e.from_.high,.int .i64 e.wide,.int .i64 e.aC.low,.int .i64 e.aC.high,.slice l e.marks.length p] 56)::(k,.cells #[.int .i64 v1.ax.e0,.int .i64 v1.ax.e1,.int .i64 v1.ax.e2,.int .i64 v1.ax.e3,.int .i64 v1.az.e0,.int .i64 v1.az.e1,.int .i64 v1.az.e2,.int .i64 v1.az.e3,.int .u64 v1.an] 84)::(cw y b2 b3 b4++t)⟩/\I s1 t) 200 ?_ ?_
      .exact ⟨_,s,own,h,by first|rfl|simp only[cw,List.cons_append,List.nil_append],al⟩
      .rintro m D F' g ⟨v1,s1,t,a,rfl,E⟩
       clear h al
       have a2:sz D=78:=by rw[g.size];simp only[*,go_sem]
       have a3:D.defers=[]:=by rw[g.defers];simp only[*,go_sem]
       have W:=g.aA 1 ay
       have X:=g.aA 2 ay
       have Y:=g.aA 3 ay
       have Z:=g.aA 4 ay
       have ab:=g.aA 5 ay
       have ad:=g.aA 8 ay
       simp only[*,go_sem] at W X Y Z ab ad
       clear g bd k1 bj bk bm bc hd
       obtain _|m:=m
       .exact (jX a).elim
       unfold fF at a
       obtain ⟨n,F⟩:∃n,v1.ax.get 1=some n:=by simp[bh.get]
       rw[F] at a
       simp only at a
       simp[bh.get] at F
       subst F
       repeat refine af hJ ?_
       refine cB hJ mixed 7 ⟨ro,[(q,.cells #[.string ⟨⟨e.name⟩⟩,.int .i64 e.from_.low,.int .i64 e.from_.high,.int .i64 e.wide,.int .i64 e.aC.low,.int .i64 e.aC.high,.slice l e.marks.length p] 56),(k,.cells #[.int .i64 v1.ax.e0,.int .i64 v1.ax.e1,.int .i64 v1.ax.e2,.int .i64 v1.ax.e3,.int .i64 v1.az.e0,.int .i64 v1.az.e1,.int .i64 v1.az.e2,.int .i64 v1.az.e3,.int .u64 v1.an] 84)]⟩ (by simp only[*,go_sem,-a]) aS ?_
       simp only[*,go_sem,-a]
       repeat refine af hJ ?_
       by_cases hn:v1.ax.e1<=e.from_.high
       .rw[if_pos hn] at a
        refine aL hJ (by simp only[*,go_sem,-a]) ?_
        refine aR hJ ?_
        obtain ⟨x1,G⟩:∃z,v1.az.setAt 1 e.aC.low=some z:=by simp[bh.setAt]
        rw[G] at a
        simp only at a
        simp[bh.setAt] at G
        subst G
        repeat refine af hJ ?_
        refine bf hJ ?_
        repeat refine af hJ ?_
        refine ah hJ ?_
        simp only[*,go_sem,-a]
        repeat refine af hJ ?_
        refine bf hJ ?_
        refine bO hJ [7,57,58,59,60,61,62,63,64,65,66,67,68,69,70,71,72,73,74,75,76,77] (fun m2 a0 F'=>∃(v2:bg) (s2:σ) (j:List (Nat×Obj)),dg step ((dJ (dP u0 fuel (IntKind.i64.wrap (1+1))) 1 e.aC.high m2 v2).1++(match (dJ (dP u0 fuel (IntKind.i64.wrap (1+1))) 1 e.aC.high m2 v2).2.ax.setAt 1 (IntKind.i64.wrap (v1.ax.e1+1)) with|none=>[none]|some y=>fF (dP u0 fuel (IntKind.i64.wrap (1+1))) 1 e.from_.high e.aC.low e.aC.high m {(dJ (dP u0 fuel (IntKind.i64.wrap (1+1))) 1 e.aC.high m2 v2).2 with ax:=y})) s2=some (c,s')/\v2.ax=v1.ax/\F'=⟨ro,(q,.cells #[.string ⟨⟨e.name⟩⟩,.int .i64 e.from_.low,.int .i64 e.from_.high,.int .i64 e.wide,.int .i64 e.aC.low,.int .i64 e.aC.high,.slice l e.marks.length p] 56)::(k,.cells #[.int .i64 v2.ax.e0,.int .i64 v2.ax.e1,.int .i64 v2.ax.e2,.int .i64 v2.ax.e3,.int .i64 v2.az.e0,.int .i64 v2.az.e1,.int .i64 v2.az.e2,.int .i64 v2.az.e3,.int .u64 v2.an] 84)::(cw y b2 b3 b4++j)⟩/\I s2 j) 200 ?_ ?_
        .exact ⟨_,s1,t,a,rfl,rfl,E⟩
        .rintro m2 H F' f ⟨v2,s2,j,hM,b,rfl,K⟩
         clear a E
         have bo:cq [7,36,37,38,39,40,41,42,43,44,45,46,47,48,49,50,51,52,53,54,55,56,57,58,59,60,61,62,63,64,65,66,67,68,69,70,71,72,73,74,75,76,77] H D:=(f.eg ay).trans (by simp only[go_sem])
         have br:sz H=78:=by rw[f.size];simp only[*,go_sem]
         have bs:H.defers=[]:=by rw[f.defers];simp only[*,go_sem]
         have a4:=f.aA 1 ay
         have a5:=f.aA 2 ay
         have a6:=f.aA 3 ay
         have a7:=f.aA 4 ay
         have a8:=f.aA 5 ay
         have a9:=f.aA 8 ay
         simp only[*,go_sem] at a4 a5 a6 a7 a8 a9
         clear f W X Y Z ab ad a2 a3
         obtain _|m2:=m2
         .simp[dJ,dg] at hM
         unfold dJ at hM
         obtain ⟨b0,L⟩:∃n,v2.az.get 1=some n:=by simp[bh.get]
         rw[L] at hM
         simp only at hM
         simp[bh.get] at L
         subst L
         repeat refine af hJ ?_
         refine cB hJ mixed 7 ⟨ro,[(q,.cells #[.string ⟨⟨e.name⟩⟩,.int .i64 e.from_.low,.int .i64 e.from_.high,.int .i64 e.wide,.int .i64 e.aC.low,.int .i64 e.aC.high,.slice l e.marks.length p] 56),(k,.cells #[.int .i64 v2.ax.e0,.int .i64 v2.ax.e1,.int .i64 v2.ax.e2,.int .i64 v2.ax.e3,.int .i64 v2.az.e0,.int .i64 v2.az.e1,.int .i64 v2.az.e2,.int .i64 v2.az.e3,.int .u64 v2.an] 84)]⟩ (by simp only[*,go_sem,-hM,-b]) aS ?_
         simp only[*,go_sem,-hM,-b]
         repeat refine af hJ ?_
         by_cases ae:v2.az.e1<=e.aC.high
         .simp only[if_pos ae] at hM
          refine aL hJ (by simp only[*,go_sem,-hM,-b]) ?_
          refine aR hJ ?_
          obtain ⟨x2,M⟩:∃z,v2.az.setAt 1 (IntKind.i64.wrap (v2.az.e1+1))=some z:=by simp[bh.setAt]
          rw[M] at hM
          simp only at hM
          simp[bh.setAt] at M
          subst M
          rw[List.append_assoc] at hM
          have ba:=qK hM
          clear hM
          repeat refine af hJ ?_
          refine bf hJ ?_
          repeat refine af hJ ?_
          refine aO hJ fun nd=>?_
          refine ah hJ ?_
          simp only[cw,List.cons_append,List.nil_append,go_sem, *,-b]
          rcases ba with ⟨N,O,hM⟩|⟨O,rfl⟩
          .refine dA hJ (bz:=cw y b2 b3 b4++j) [(q,.cells #[.string ⟨⟨e.name⟩⟩,.int .i64 e.from_.low,.int .i64 e.from_.high,.int .i64 e.wide,.int .i64 e.aC.low,.int .i64 e.aC.high,.slice l e.marks.length p] 56),(k,.cells #[.int .i64 v2.ax.e0,.int .i64 v2.ax.e1,.int .i64 v2.ax.e2,.int .i64 v2.ax.e3,.int .i64 v2.az.e0,.int .i64 v2.az.e1,.int .i64 v2.az.e2,.int .i64 v2.az.e3,.int .u64 v2.an] 84)] [] (by simp only[cw,List.append_nil,List.cons_append,List.nil_append]) (fun w o=>∃d:List (Nat×Obj),o=cw y b2 b3 b4++d/\w= .bool true/\I N d) (fun P u B=>(ih (IntKind.i64.wrap (1+1)) v2 s2 true N O P u B j K).mono (by rintro w F' ⟨d,hle,rfl,C⟩;exact ⟨_,⟨d,rfl,rfl,C⟩,hle⟩)) ?_
           rintro w o ⟨Q,rfl,rfl,R⟩ S T bb
           simp only[cw,List.append_nil,List.cons_append,List.nil_append] at T
           subst S
           refine ⟨_,Le.refl _,aQ ?_⟩
           simp only[*,go_sem,-hM,-b]
           repeat refine af hJ ?_
           refine aM hJ (by simp only[*,go_sem,-hM,-b]) ?_
           refine aR hJ ?_
           repeat refine af hJ ?_
           refine ah hJ ?_
           simp only[*,go_sem,-hM,-b]
           exact ⟨m2,Nat.lt_succ_self m2,_,Le.refl _,_,N,Q,hM,b,rfl,R⟩
          .refine dA hJ (bz:=cw y b2 b3 b4++j) [(q,.cells #[.string ⟨⟨e.name⟩⟩,.int .i64 e.from_.low,.int .i64 e.from_.high,.int .i64 e.wide,.int .i64 e.aC.low,.int .i64 e.aC.high,.slice l e.marks.length p] 56),(k,.cells #[.int .i64 v2.ax.e0,.int .i64 v2.ax.e1,.int .i64 v2.ax.e2,.int .i64 v2.ax.e3,.int .i64 v2.az.e0,.int .i64 v2.az.e1,.int .i64 v2.az.e2,.int .i64 v2.az.e3,.int .u64 v2.an] 84)] [] (by simp only[cw,List.append_nil,List.cons_append,List.nil_append]) (fun w o=>∃d:List (Nat×Obj),o=cw y b2 b3 b4++d/\w= .bool false/\I s' d) (fun P u B=>(ih (IntKind.i64.wrap (1+1)) v2 s2 false s' O P u B j K).mono (by rintro w F' ⟨d,hle,rfl,C⟩;exact ⟨_,⟨d,rfl,rfl,C⟩,hle⟩)) ?_
           rintro w o ⟨Q,rfl,rfl,R⟩ S T bb
           simp only[cw,List.append_nil,List.cons_append,List.nil_append] at T
           subst S
           refine ⟨_,Le.refl _,aQ ?_⟩
           simp only[*,go_sem,-b]
           repeat refine af hJ ?_
           refine aL hJ (by simp only[*,go_sem,-b]) ?_
           repeat refine af hJ ?_
           refine ah hJ ?_
           simp only[*,go_sem,-b]
           repeat refine af hJ ?_
           refine aI ?_
           simp only[*,go_sem,-b]
           exact ⟨Q,Le.sub ((List.sublist_cons_self _ _).trans (List.sublist_cons_self _ _)),R⟩
         .simp only[if_neg ae,List.nil_append] at hM
          rw[<-b] at hM
          refine aM hJ (by simp only[*,go_sem,-hM,-b]) ?_
          refine bM ?_
          simp only[go_sem]
          obtain ⟨x3,U⟩:∃z,v2.ax.setAt 1 (IntKind.i64.wrap (v2.ax.e1+1))=some z:=by simp[bh.setAt]
          rw[U] at hM
          simp only at hM
          simp[bh.setAt] at U
          subst U
          repeat refine af hJ ?_
          refine ah hJ ?_
          simp only[*,go_sem,-hM,-b]
          exact ⟨m,Nat.lt_succ_self m,_,Le.refl _,_,s2,j,hM,rfl,K⟩
       .rw[if_neg hn] at a
        simp only[dg,Option.some.injEq,Prod.mk.injEq] at a
        obtain ⟨rfl,rfl⟩:=a
        refine aM hJ cY ?_
        refine bM ?_
        simp only[go_sem]
        repeat refine af hJ ?_
        refine ah hJ ?_
        apply bw _
        repeat refine af hJ ?_
        refine aI ?_
        apply bw _
        exact ⟨t,Le.sub ((List.sublist_cons_self _ _).trans (List.sublist_cons_self _ _)),E⟩
     .simp[bh.setAt] at V
      subst V
      repeat refine af hJ ?_
      refine ah hJ ?_
      apply aa _
      repeat refine af hJ ?_
      refine bf hJ ?_
      refine bO hJ [7,36,37,38,39,40,41,42,43,44,45,46,47,48,49,50,51,52,53,54,55,56,57,58,59,60,61,62,63,64,65,66,67,68,69,70,71,72,73,74,75,76,77] (fun m a0 F'=>∃(v1:bg) (s1:σ) (t:List (Nat×Obj)),dg step (fF (dP u0 fuel (IntKind.i64.wrap (2+1))) 2 e.from_.high e.aC.low e.aC.high m v1) s1=some (c,s')/\F'=⟨ro,(q,.cells #[.string ⟨⟨e.name⟩⟩,.int .i64 e.from_.low,.int .i64 e.from_.high,.int .i64 e.wide,.int .i64 e.aC.low,.int .i64 e.aC.high,.slice l e.marks.length p] 56)::(k,.cells #[.int .i64 v1.ax.e0,.int .i64 v1.ax.e1,.int .i64 v1.ax.e2,.int .i64 v1.ax.e3,.int .i64 v1.az.e0,.int .i64 v1.az.e1,.int .i64 v1.az.e2,.int .i64 v1.az.e3,.int .u64 v1.an] 84)::(cw y b2 b3 b4++t)⟩/\I s1 t) 200 ?_ ?_
      .exact ⟨_,s,own,h,by first|rfl|simp only[cw,List.cons_append,List.nil_append],al⟩
      .rintro m D F' g ⟨v1,s1,t,a,rfl,E⟩
       clear h al
       have a2:sz D=78:=by rw[g.size];simp only[*,go_sem]
       have a3:D.defers=[]:=by rw[g.defers];simp only[*,go_sem]
       have W:=g.aA 1 ay
       have X:=g.aA 2 ay
       have Y:=g.aA 3 ay
       have Z:=g.aA 4 ay
       have ab:=g.aA 5 ay
       have ad:=g.aA 8 ay
       simp only[*,go_sem] at W X Y Z ab ad
       clear g bd k1 bj bk bm bc hd
       obtain _|m:=m
       .exact (jX a).elim
       unfold fF at a
       obtain ⟨n,F⟩:∃n,v1.ax.get 2=some n:=by simp[bh.get]
       rw[F] at a
       simp only at a
       simp[bh.get] at F
       subst F
       repeat refine af hJ ?_
       refine cB hJ mixed 7 ⟨ro,[(q,.cells #[.string ⟨⟨e.name⟩⟩,.int .i64 e.from_.low,.int .i64 e.from_.high,.int .i64 e.wide,.int .i64 e.aC.low,.int .i64 e.aC.high,.slice l e.marks.length p] 56),(k,.cells #[.int .i64 v1.ax.e0,.int .i64 v1.ax.e1,.int .i64 v1.ax.e2,.int .i64 v1.ax.e3,.int .i64 v1.az.e0,.int .i64 v1.az.e1,.int .i64 v1.az.e2,.int .i64 v1.az.e3,.int .u64 v1.an] 84)]⟩ (by simp only[*,go_sem,-a]) aS ?_
       simp only[*,go_sem,-a]
       repeat refine af hJ ?_
       by_cases hn:v1.ax.e2<=e.from_.high
       .rw[if_pos hn] at a
        refine aL hJ (by simp only[*,go_sem,-a]) ?_
        refine aR hJ ?_
        obtain ⟨x1,G⟩:∃z,v1.az.setAt 2 e.aC.low=some z:=by simp[bh.setAt]
        rw[G] at a
        simp only at a
        simp[bh.setAt] at G
        subst G
        repeat refine af hJ ?_
        refine bf hJ ?_
        repeat refine af hJ ?_
        refine ah hJ ?_
        simp only[*,go_sem,-a]
        repeat refine af hJ ?_
        refine bf hJ ?_
        refine bO hJ [7,57,58,59,60,61,62,63,64,65,66,67,68,69,70,71,72,73,74,75,76,77] (fun m2 a0 F'=>∃(v2:bg) (s2:σ) (j:List (Nat×Obj)),dg step ((dJ (dP u0 fuel (IntKind.i64.wrap (2+1))) 2 e.aC.high m2 v2).1++(match (dJ (dP u0 fuel (IntKind.i64.wrap (2+1))) 2 e.aC.high m2 v2).2.ax.setAt 2 (IntKind.i64.wrap (v1.ax.e2+1)) with|none=>[none]|some y=>fF (dP u0 fuel (IntKind.i64.wrap (2+1))) 2 e.from_.high e.aC.low e.aC.high m {(dJ (dP u0 fuel (IntKind.i64.wrap (2+1))) 2 e.aC.high m2 v2).2 with ax:=y})) s2=some (c,s')/\v2.ax=v1.ax/\F'=⟨ro,(q,.cells #[.string ⟨⟨e.name⟩⟩,.int .i64 e.from_.low,.int .i64 e.from_.high,.int .i64 e.wide,.int .i64 e.aC.low,.int .i64 e.aC.high,.slice l e.marks.length p] 56)::(k,.cells #[.int .i64 v2.ax.e0,.int .i64 v2.ax.e1,.int .i64 v2.ax.e2,.int .i64 v2.ax.e3,.int .i64 v2.az.e0,.int .i64 v2.az.e1,.int .i64 v2.az.e2,.int .i64 v2.az.e3,.int .u64 v2.an] 84)::(cw y b2 b3 b4++j)⟩/\I s2 j) 200 ?_ ?_
        .exact ⟨_,s1,t,a,rfl,rfl,E⟩
        .rintro m2 H F' f ⟨v2,s2,j,hM,b,rfl,K⟩
         clear a E
         have bo:cq [7,36,37,38,39,40,41,42,43,44,45,46,47,48,49,50,51,52,53,54,55,56,57,58,59,60,61,62,63,64,65,66,67,68,69,70,71,72,73,74,75,76,77] H D:=(f.eg ay).trans (by simp only[go_sem])
         have br:sz H=78:=by rw[f.size];simp only[*,go_sem]
         have bs:H.defers=[]:=by rw[f.defers];simp only[*,go_sem]
         have a4:=f.aA 1 ay
         have a5:=f.aA 2 ay
         have a6:=f.aA 3 ay
         have a7:=f.aA 4 ay
         have a8:=f.aA 5 ay
         have a9:=f.aA 8 ay
         simp only[*,go_sem] at a4 a5 a6 a7 a8 a9
         clear f W X Y Z ab ad a2 a3
         obtain _|m2:=m2
         .simp[dJ,dg] at hM
         unfold dJ at hM
         obtain ⟨b0,L⟩:∃n,v2.az.get 2=some n:=by simp[bh.get]
         rw[L] at hM
         simp only at hM
         simp[bh.get] at L
         subst L
         repeat refine af hJ ?_
         refine cB hJ mixed 7 ⟨ro,[(q,.cells #[.string ⟨⟨e.name⟩⟩,.int .i64 e.from_.low,.int .i64 e.from_.high,.int .i64 e.wide,.int .i64 e.aC.low,.int .i64 e.aC.high,.slice l e.marks.length p] 56),(k,.cells #[.int .i64 v2.ax.e0,.int .i64 v2.ax.e1,.int .i64 v2.ax.e2,.int .i64 v2.ax.e3,.int .i64 v2.az.e0,.int .i64 v2.az.e1,.int .i64 v2.az.e2,.int .i64 v2.az.e3,.int .u64 v2.an] 84)]⟩ (by simp only[*,go_sem,-hM,-b]) aS ?_
         simp only[*,go_sem,-hM,-b]
         repeat refine af hJ ?_
         by_cases ae:v2.az.e2<=e.aC.high
         .simp only[if_pos ae] at hM
          refine aL hJ (by simp only[*,go_sem,-hM,-b]) ?_
          refine aR hJ ?_
          obtain ⟨x2,M⟩:∃z,v2.az.setAt 2 (IntKind.i64.wrap (v2.az.e2+1))=some z:=by simp[bh.setAt]
          rw[M] at hM
          simp only at hM
          simp[bh.setAt] at M
          subst M
          rw[List.append_assoc] at hM
          have ba:=qK hM
          clear hM
          repeat refine af hJ ?_
          refine bf hJ ?_
          repeat refine af hJ ?_
          refine aO hJ fun nd=>?_
          refine ah hJ ?_
          simp only[cw,List.cons_append,List.nil_append,go_sem, *,-b]
          rcases ba with ⟨N,O,hM⟩|⟨O,rfl⟩
          .refine dA hJ (bz:=cw y b2 b3 b4++j) [(q,.cells #[.string ⟨⟨e.name⟩⟩,.int .i64 e.from_.low,.int .i64 e.from_.high,.int .i64 e.wide,.int .i64 e.aC.low,.int .i64 e.aC.high,.slice l e.marks.length p] 56),(k,.cells #[.int .i64 v2.ax.e0,.int .i64 v2.ax.e1,.int .i64 v2.ax.e2,.int .i64 v2.ax.e3,.int .i64 v2.az.e0,.int .i64 v2.az.e1,.int .i64 v2.az.e2,.int .i64 v2.az.e3,.int .u64 v2.an] 84)] [] (by simp only[cw,List.append_nil,List.cons_append,List.nil_append]) (fun w o=>∃d:List (Nat×Obj),o=cw y b2 b3 b4++d/\w= .bool true/\I N d) (fun P u B=>(ih (IntKind.i64.wrap (2+1)) v2 s2 true N O P u B j K).mono (by rintro w F' ⟨d,hle,rfl,C⟩;exact ⟨_,⟨d,rfl,rfl,C⟩,hle⟩)) ?_
           rintro w o ⟨Q,rfl,rfl,R⟩ S T bb
           simp only[cw,List.append_nil,List.cons_append,List.nil_append] at T
           subst S
           refine ⟨_,Le.refl _,aQ ?_⟩
           simp only[*,go_sem,-hM,-b]
           repeat refine af hJ ?_
           refine aM hJ (by simp only[*,go_sem,-hM,-b]) ?_
           refine aR hJ ?_
           repeat refine af hJ ?_
           refine ah hJ ?_
           simp only[*,go_sem,-hM,-b]
           exact ⟨m2,Nat.lt_succ_self m2,_,Le.refl _,_,N,Q,hM,b,rfl,R⟩
          .refine dA hJ (bz:=cw y b2 b3 b4++j) [(q,.cells #[.string ⟨⟨e.name⟩⟩,.int .i64 e.from_.low,.int .i64 e.from_.high,.int .i64 e.wide,.int .i64 e.aC.low,.int .i64 e.aC.high,.slice l e.marks.length p] 56),(k,.cells #[.int .i64 v2.ax.e0,.int .i64 v2.ax.e1,.int .i64 v2.ax.e2,.int .i64 v2.ax.e3,.int .i64 v2.az.e0,.int .i64 v2.az.e1,.int .i64 v2.az.e2,.int .i64 v2.az.e3,.int .u64 v2.an] 84)] [] (by simp only[cw,List.append_nil,List.cons_append,List.nil_append]) (fun w o=>∃d:List (Nat×Obj),o=cw y b2 b3 b4++d/\w= .bool false/\I s' d) (fun P u B=>(ih (IntKind.i64.wrap (2+1)) v2 s2 false s' O P u B j K).mono (by rintro w F' ⟨d,hle,rfl,C⟩;exact ⟨_,⟨d,rfl,rfl,C⟩,hle⟩)) ?_
           rintro w o ⟨Q,rfl,rfl,R⟩ S T bb
           simp only[cw,List.append_nil,List.cons_append,List.nil_append] at T
           subst S
           refine ⟨_,Le.refl _,aQ ?_⟩
           simp only[*,go_sem,-b]
           repeat refine af hJ ?_
           refine aL hJ (by simp only[*,go_sem,-b]) ?_
           repeat refine af hJ ?_
           refine ah hJ ?_
           simp only[*,go_sem,-b]
           repeat refine af hJ ?_
           refine aI ?_
           simp only[*,go_sem,-b]
           exact ⟨Q,Le.sub ((List.sublist_cons_self _ _).trans (List.sublist_cons_self _ _)),R⟩
         .simp only[if_neg ae,List.nil_append] at hM
          rw[<-b] at hM
          refine aM hJ (by simp only[*,go_sem,-hM,-b]) ?_
          refine bM ?_
          simp only[go_sem]
          obtain ⟨x3,U⟩:∃z,v2.ax.setAt 2 (IntKind.i64.wrap (v2.ax.e2+1))=some z:=by simp[bh.setAt]
          rw[U] at hM
          simp only at hM
          simp[bh.setAt] at U
          subst U
          repeat refine af hJ ?_
          refine ah hJ ?_
          simp only[*,go_sem,-hM,-b]
          exact ⟨m,Nat.lt_succ_self m,_,Le.refl _,_,s2,j,hM,rfl,K⟩
       .rw[if_neg hn] at a
        simp only[dg,Option.some.injEq,Prod.mk.injEq] at a
        obtain ⟨rfl,rfl⟩:=a
        refine aM hJ cY ?_
        refine bM ?_
        simp only[go_sem]
        repeat refine af hJ ?_
        refine ah hJ ?_
        apply bw _
        repeat refine af hJ ?_
        refine aI ?_
        apply bw _
        exact ⟨t,Le.sub ((List.sublist_cons_self _ _).trans (List.sublist_cons_self _ _)),E⟩
     .simp[bh.setAt] at V
      subst V
      repeat refine af hJ ?_
      refine ah hJ ?_
      apply aa _
      repeat refine af hJ ?_
      refine bf hJ ?_
      refine bO hJ [7,36,37,38,39,40,41,42,43,44,45,46,47,48,49,50,51,52,53,54,55,56,57,58,59,60,61,62,63,64,65,66,67,68,69,70,71,72,73,74,75,76,77] (fun m a0 F'=>∃(v1:bg) (s1:σ) (t:List (Nat×Obj)),dg step (fF (dP u0 fuel (IntKind.i64.wrap (3+1))) 3 e.from_.high e.aC.low e.aC.high m v1) s1=some (c,s')/\F'=⟨ro,(q,.cells #[.string ⟨⟨e.name⟩⟩,.int .i64 e.from_.low,.int .i64 e.from_.high,.int .i64 e.wide,.int .i64 e.aC.low,.int .i64 e.aC.high,.slice l e.marks.length p] 56)::(k,.cells #[.int .i64 v1.ax.e0,.int .i64 v1.ax.e1,.int .i64 v1.ax.e2,.int .i64 v1.ax.e3,.int .i64 v1.az.e0,.int .i64 v1.az.e1,.int .i64 v1.az.e2,.int .i64 v1.az.e3,.int .u64 v1.an] 84)::(cw y b2 b3 b4++t)⟩/\I s1 t) 200 ?_ ?_
      .exact ⟨_,s,own,h,by first|rfl|simp only[cw,List.cons_append,List.nil_append],al⟩
      .rintro m D F' g ⟨v1,s1,t,a,rfl,E⟩
       clear h al
       have a2:sz D=78:=by rw[g.size];simp only[*,go_sem]
       have a3:D.defers=[]:=by rw[g.defers];simp only[*,go_sem]
       have W:=g.aA 1 ay
       have X:=g.aA 2 ay
       have Y:=g.aA 3 ay
       have Z:=g.aA 4 ay
       have ab:=g.aA 5 ay
       have ad:=g.aA 8 ay
       simp only[*,go_sem] at W X Y Z ab ad
       clear g bd k1 bj bk bm bc hd
       obtain _|m:=m
       .exact (jX a).elim
       unfold fF at a
       obtain ⟨n,F⟩:∃n,v1.ax.get 3=some n:=by simp[bh.get]
       rw[F] at a
       simp only at a
       simp[bh.get] at F
       subst F
       repeat refine af hJ ?_
       refine cB hJ mixed 7 ⟨ro,[(q,.cells #[.string ⟨⟨e.name⟩⟩,.int .i64 e.from_.low,.int .i64 e.from_.high,.int .i64 e.wide,.int .i64 e.aC.low,.int .i64 e.aC.high,.slice l e.marks.length p] 56),(k,.cells #[.int .i64 v1.ax.e0,.int .i64 v1.ax.e1,.int .i64 v1.ax.e2,.int .i64 v1.ax.e3,.int .i64 v1.az.e0,.int .i64 v1.az.e1,.int .i64 v1.az.e2,.int .i64 v1.az.e3,.int .u64 v1.an] 84)]⟩ (by simp only[*,go_sem,-a]) aS ?_
       simp only[*,go_sem,-a]
       repeat refine af hJ ?_
       by_cases hn:v1.ax.e3<=e.from_.high
       .rw[if_pos hn] at a
        refine aL hJ (by simp only[*,go_sem,-a]) ?_
        refine aR hJ ?_
        obtain ⟨x1,G⟩:∃z,v1.az.setAt 3 e.aC.low=some z:=by simp[bh.setAt]
        rw[G] at a
        simp only at a
        simp[bh.setAt] at G
        subst G
        repeat refine af hJ ?_
        refine bf hJ ?_
        repeat refine af hJ ?_
        refine ah hJ ?_
        simp only[*,go_sem,-a]
        repeat refine af hJ ?_
        refine bf hJ ?_
        refine bO hJ [7,57,58,59,60,61,62,63,64,65,66,67,68,69,70,71,72,73,74,75,76,77] (fun m2 a0 F'=>∃(v2:bg) (s2:σ) (j:List (Nat×Obj)),dg step ((dJ (dP u0 fuel (IntKind.i64.wrap (3+1))) 3 e.aC.high m2 v2).1++(match (dJ (dP u0 fuel (IntKind.i64.wrap (3+1))) 3 e.aC.high m2 v2).2.ax.setAt 3 (IntKind.i64.wrap (v1.ax.e3+1)) with|none=>[none]|some y=>fF (dP u0 fuel (IntKind.i64.wrap (3+1))) 3 e.from_.high e.aC.low e.aC.high m {(dJ (dP u0 fuel (IntKind.i64.wrap (3+1))) 3 e.aC.high m2 v2).2 with ax:=y})) s2=some (c,s')/\v2.ax=v1.ax/\F'=⟨ro,(q,.cells #[.string ⟨⟨e.name⟩⟩,.int .i64 e.from_.low,.int .i64 e.from_.high,.int .i64 e.wide,.int .i64 e.aC.low,.int .i64 e.aC.high,.slice l e.marks.length p] 56)::(k,.cells #[.int .i64 v2.ax.e0,.int .i64 v2.ax.e1,.int .i64 v2.ax.e2,.int .i64 v2.ax.e3,.int .i64 v2.az.e0,.int .i64 v2.az.e1,.int .i64 v2.az.e2,.int .i64 v2.az.e3,.int .u64 v2.an] 84)::(cw y b2 b3 b4++j)⟩/\I s2 j) 200 ?_ ?_
        .exact ⟨_,s1,t,a,rfl,rfl,E⟩
        .rintro m2 H F' f ⟨v2,s2,j,hM,b,rfl,K⟩
         clear a E
         have bo:cq [7,36,37,38,39,40,41,42,43,44,45,46,47,48,49,50,51,52,53,54,55,56,57,58,59,60,61,62,63,64,65,66,67,68,69,70,71,72,73,74,75,76,77] H D:=(f.eg ay).trans (by simp only[go_sem])
         have br:sz H=78:=by rw[f.size];simp only[*,go_sem]
         have bs:H.defers=[]:=by rw[f.defers];simp only[*,go_sem]
         have a4:=f.aA 1 ay
         have a5:=f.aA 2 ay
         have a6:=f.aA 3 ay
         have a7:=f.aA 4 ay
         have a8:=f.aA 5 ay
         have a9:=f.aA 8 ay
         simp only[*,go_sem] at a4 a5 a6 a7 a8 a9
         clear f W X Y Z ab ad a2 a3
         obtain _|m2:=m2
         .simp[dJ,dg] at hM
         unfold dJ at hM
         obtain ⟨b0,L⟩:∃n,v2.az.get 3=some n:=by simp[bh.get]
         rw[L] at hM
         simp only at hM
         simp[bh.get] at L
         subst L
         repeat refine af hJ ?_
         refine cB hJ mixed 7 ⟨ro,[(q,.cells #[.string ⟨⟨e.name⟩⟩,.int .i64 e.from_.low,.int .i64 e.from_.high,.int .i64 e.wide,.int .i64 e.aC.low,.int .i64 e.aC.high,.slice l e.marks.length p] 56),(k,.cells #[.int .i64 v2.ax.e0,.int .i64 v2.ax.e1,.int .i64 v2.ax.e2,.int .i64 v2.ax.e3,.int .i64 v2.az.e0,.int .i64 v2.az.e1,.int .i64 v2.az.e2,.int .i64 v2.az.e3,.int .u64 v2.an] 84)]⟩ (by simp only[*,go_sem,-hM,-b]) aS ?_
         simp only[*,go_sem,-hM,-b]
         repeat refine af hJ ?_
         by_cases ae:v2.az.e3<=e.aC.high
         .simp only[if_pos ae] at hM
          refine aL hJ (by simp only[*,go_sem,-hM,-b]) ?_
          refine aR hJ ?_
          obtain ⟨x2,M⟩:∃z,v2.az.setAt 3 (IntKind.i64.wrap (v2.az.e3+1))=some z:=by simp[bh.setAt]
          rw[M] at hM
          simp only at hM
          simp[bh.setAt] at M
          subst M
          rw[List.append_assoc] at hM
          have ba:=qK hM
          clear hM
          repeat refine af hJ ?_
          refine bf hJ ?_
          repeat refine af hJ ?_
          refine aO hJ fun nd=>?_
          refine ah hJ ?_
          simp only[cw,List.cons_append,List.nil_append,go_sem, *,-b]
          rcases ba with ⟨N,O,hM⟩|⟨O,rfl⟩
          .refine dA hJ (bz:=cw y b2 b3 b4++j) [(q,.cells #[.string ⟨⟨e.name⟩⟩,.int .i64 e.from_.low,.int .i64 e.from_.high,.int .i64 e.wide,.int .i64 e.aC.low,.int .i64 e.aC.high,.slice l e.marks.length p] 56),(k,.cells #[.int .i64 v2.ax.e0,.int .i64 v2.ax.e1,.int .i64 v2.ax.e2,.int .i64 v2.ax.e3,.int .i64 v2.az.e0,.int .i64 v2.az.e1,.int .i64 v2.az.e2,.int .i64 v2.az.e3,.int .u64 v2.an] 84)] [] (by simp only[cw,List.append_nil,List.cons_append,List.nil_append]) (fun w o=>∃d:List (Nat×Obj),o=cw y b2 b3 b4++d/\w= .bool true/\I N d) (fun P u B=>(ih (IntKind.i64.wrap (3+1)) v2 s2 true N O P u B j K).mono (by rintro w F' ⟨d,hle,rfl,C⟩;exact ⟨_,⟨d,rfl,rfl,C⟩,hle⟩)) ?_
           rintro w o ⟨Q,rfl,rfl,R⟩ S T bb
           simp only[cw,List.append_nil,List.cons_append,List.nil_append] at T
           subst S
           refine ⟨_,Le.refl _,aQ ?_⟩
           simp only[*,go_sem,-hM,-b]
           repeat refine af hJ ?_
           refine aM hJ (by simp only[*,go_sem,-hM,-b]) ?_
           refine aR hJ ?_
           repeat refine af hJ ?_
           refine ah hJ ?_
           simp only[*,go_sem,-hM,-b]
           exact ⟨m2,Nat.lt_succ_self m2,_,Le.refl _,_,N,Q,hM,b,rfl,R⟩
          .refine dA hJ (bz:=cw y b2 b3 b4++j) [(q,.cells #[.string ⟨⟨e.name⟩⟩,.int .i64 e.from_.low,.int .i64 e.from_.high,.int .i64 e.wide,.int .i64 e.aC.low,.int .i64 e.aC.high,.slice l e.marks.length p] 56),(k,.cells #[.int .i64 v2.ax.e0,.int .i64 v2.ax.e1,.int .i64 v2.ax.e2,.int .i64 v2.ax.e3,.int .i64 v2.az.e0,.int .i64 v2.az.e1,.int .i64 v2.az.e2,.int .i64 v2.az.e3,.int .u64 v2.an] 84)] [] (by simp only[cw,List.append_nil,List.cons_append,List.nil_append]) (fun w o=>∃d:List (Nat×Obj),o=cw y b2 b3 b4++d/\w= .bool false/\I s' d) (fun P u B=>(ih (IntKind.i64.wrap (3+1)) v2 s2 false s' O P u B j K).mono (by rintro w F' ⟨d,hle,rfl,C⟩;exact ⟨_,⟨d,rfl,rfl,C⟩,hle⟩)) ?_
           rintro w o ⟨Q,rfl,rfl,R⟩ S T bb
           simp only[cw,List.append_nil,List.cons_append,List.nil_append] at T
           subst S
           refine ⟨_,Le.refl _,aQ ?_⟩
           simp only[*,go_sem,-b]
           repeat refine af hJ ?_
           refine aL hJ (by simp only[*,go_sem,-b]) ?_
           repeat refine af hJ ?_
           refine ah hJ ?_
           simp only[*,go_sem,-b]
           repeat refine af hJ ?_
           refine aI ?_
           simp only[*,go_sem,-b]
           exact ⟨Q,Le.sub ((List.sublist_cons_self _ _).trans (List.sublist_cons_self _ _)),R⟩
         .simp only[if_neg ae,List.nil_append] at hM
          rw[<-b] at hM
          refine aM hJ (by simp only[*,go_sem,-hM,-b]) ?_
          refine bM ?_
          simp only[go_sem]
          obtain ⟨x3,U⟩:∃z,v2.ax.setAt 3 (IntKind.i64.wrap (v2.ax.e3+1))=some z:=by simp[bh.setAt]
          rw[U] at hM
          simp only at hM
          simp[bh.setAt] at U
          subst U
          repeat refine af hJ ?_
          refine ah hJ ?_
          simp only[*,go_sem,-hM,-b]
          exact ⟨m,Nat.lt_succ_self m,_,Le.refl _,_,s2,j,hM,rfl,K⟩
       .rw[if_neg hn] at a
        simp only[dg,Option.some.injEq,Prod.mk.injEq] at a
        obtain ⟨rfl,rfl⟩:=a
        refine aM hJ cY ?_
        refine bM ?_
        simp only[go_sem]
        repeat refine af hJ ?_
        refine ah hJ ?_
        apply bw _
        repeat refine af hJ ?_
        refine aI ?_
        apply bw _
        exact ⟨t,Le.sub ((List.sublist_cons_self _ _).trans (List.sublist_cons_self _ _)),E⟩
end
def g5 (u0:Int)(a:Int):Option Bool:=
 ak (l7 u0) fun x1=>cond (x1) (ak (l7 a) fun b=>cond (!b) (some true) (some (decide (u0<a)))) (some (decide (u0<a)))
theorem iS {ro:Addr->Option Value}(u0:Int)(a:Int){r:Bool}(h:g5 u0 a=some r):aF Tryz.prog 186 #[.int .i64 u0,.int .i64 a] ⟨ro,[]⟩ (fun v _=>v= .bool r):=by
 unfold g5 at h;refine aF.go Tryz.func186 rfl Tryz.ntmps186 Tryz.results186 aB fun main J hJ A f hd hs=>?_;have g:=hs 0;have k1:=hs 1;clear hs;apply af hJ;apply ah hJ;apply aa _;apply af hJ;apply ah hJ;have h':=av h;clear h;obtain ⟨x1,d,h⟩:=h';apply aa _;refine bl hJ _ (qs u0 d) (aQ ?_);have h':=aD h;clear h;rcases h' with ⟨b,h⟩|⟨b,h⟩
 .try simp only[Int.ofNat_lt] at b
  have h':=av h;clear h;obtain ⟨i,e,h⟩:=h';try apply aa _
  refine bl hJ _ (qs a e) (aQ ?_);have h':=aD h;clear h;rcases h' with ⟨c,h⟩|⟨c,h⟩
  ·(try simp only[Int.ofNat_lt] at c);(try apply aa _);have h':=Option.some.inj h;clear h;subst h';apply aI;simp only[*,go_sem]
  try simp only[Int.ofNat_lt] at c
  try apply aa _
  have h':=Option.some.inj h;clear h;subst h';apply aI;simp only[*,go_sem]
 try simp only[Int.ofNat_lt] at b
 try apply aa _
 have h':=Option.some.inj h;clear h;subst h';apply aI;simp only[*,go_sem]
def uf (c:Int)(st:(Int×(List Int))):Option (Fl (Int×(List Int)) (Unit×(List Int))):=
 cond (decide (c<st.1)) (ak (bI st.2 st.1) fun b=>ak (bI st.2 (IntKind.i64.wrap (st.1 - 1))) fun a=>ak (g5 b a) fun d=>cond (d) (ak (bI (st.2.set (st.1).toNat a) (IntKind.i64.wrap (st.1 - 1))) fun e=>some (.nx ((IntKind.i64.wrap (st.1 - 1)),((st.2.set (st.1).toNat a).set (IntKind.i64.wrap (st.1 - 1)).toNat b)))) (some (.bk (st.1,st.2)))) (some (.bk (st.1,st.2)))
def ug (a:Int)(b:Int)(st:(Int×(List Int))):Option (Fl (Int×(List Int)) (Unit×(List Int))):=
 cond (decide (st.1<b)) (ak (aZ (uf a) fu (st.1,st.2)) fun o=>aJ o (fun c=>some (.nx ((IntKind.i64.wrap (st.1+1)),c.2))) (fun _ _=>none) (fun r=>some (.rt r))) (some (.bk (st.1,st.2)))
def qM (u0:(List Int))(a:Int)(b:Int):Option (Unit×(List Int)):=
 cond (List.isEmpty u0) none (ak (aZ (ug a b) fu ((IntKind.i64.wrap (a+1)),u0)) fun o=>aJ o (fun c=>some ((),c.2)) (fun _ _=>none) (fun r=>some r))
theorem zg {ro:Addr->Option Value}(u0:(List Int)){b8:Value}{O:List (Nat×Obj)}(D:bA rI ro 3 b8 u0 O)(l:Int)(p:Int){r:(Unit×(List Int))}(h:qM u0 l p=some r):aF Tryz.prog 180 #[b8,.int .i64 l,.int .i64 p] ⟨ro,O⟩ (fun v G=>∃P,(v= .tuple #[]/\bA rI ro 3 b8 r.2 P)/\Le ⟨ro,P⟩ G):=by
 obtain ⟨d1,c2,rfl,b3⟩:=D.len;unfold qM at h;have h':=aD h;clear h;rcases h' with ⟨Q,h⟩|⟨Q,h⟩
 .cases h
 obtain ⟨b,ab,rfl,rfl,b4⟩:=D.fX Q;refine aF.go Tryz.func180 rfl Tryz.ntmps180 Tryz.results180 aB fun main J hJ A ad hd hs=>?_;have ae:=hs 0;have k1:=hs 1;have al:=hs 2;clear hs;apply af hJ;refine aO hJ fun ca=>?_;apply ah hJ;apply aa _;apply bf hJ;have h':=av h;clear h;obtain ⟨ao,t,ar⟩:=h';have h:=True.intro;refine bO hJ [6,7,10,11,12,13,14,15,16,17,18,19,20,21,22,23,24,25,26,27,28,29,30,31,32,33,34,35,36,37,38,39,40,41,42,43,44,45,46,47,48] (fun m E F'=>∃(x:Array Value) (g:Int) (z:(List Int)),aZ (ug l p) m (g,z)=some ao/\F'=⟨ro,[(b,Obj.cells x 3)]⟩/\bA rI ro 3 (.slice (some ⟨b,0,none⟩) u0.length c2) z [(b,Obj.cells x 3)]/\slot E 6= .int .i64 g) fu ?_ ?_
 .refine ⟨ab,(IntKind.i64.wrap (l+1)),u0,t,rfl,D,?_⟩;simp only[*,go_sem,-h]
 rintro B q F' s ⟨x,g,z,t,rfl,R,a0⟩;have h:=True.intro;have a2:sz q=49:=by rw[s.size];simp only[*,go_sem,-h]
 have a3:q.defers=[]:=by rw[s.defers];simp only[*,go_sem,-h]
 have a4:slot q 0= .slice (some ⟨b,0,none⟩) u0.length c2:=by rw[s.aA 0 ay];simp only[*,go_sem,-h]
 have a5:slot q 1= .int .i64 l:=by rw[s.aA 1 ay];simp only[*,go_sem,-h]
 have a6:slot q 2= .int .i64 p:=by rw[s.aA 2 ay];simp only[*,go_sem,-h]
 clear s ad hd ae k1 al;obtain _|B:=B
 .exact absurd t (by simp only[aZ,reduceCtorEq,not_false_eq_true])
 have h':=av t;clear t h;obtain ⟨cb,h,C⟩:=h';unfold ug at h;try dsimp only at h
 apply af hJ;apply af hJ;refine aO hJ fun cc=>?_;apply ah hJ;apply aa _;have h':=aD h;clear h;rcases h' with ⟨H,h⟩|⟨H,h⟩
 .try simp only[Int.ofNat_lt] at H
  refine aL hJ au ?_;apply aR hJ;apply af hJ;apply bf hJ;apply af hJ;refine aO hJ fun cd=>?_;apply ah hJ;apply aa _;apply bf hJ;have h':=av h;clear h;obtain ⟨a7,u,S⟩:=h';have h:=True.intro;refine bO hJ [7,16,17,18,19,20,21,22,23,24,25,26,27,28,29,30,31,32,33,34,35,36,37,38,39,40,41,42,43,44,45,46,47,48] (fun m E F'=>∃(e:Array Value) (a:Int) (j:(List Int)),aZ (uf l) m (a,j)=some a7/\F'=⟨ro,[(b,Obj.cells e 3)]⟩/\bA rI ro 3 (.slice (some ⟨b,0,none⟩) u0.length c2) j [(b,Obj.cells e 3)]/\slot E 7= .int .i64 a) fu ?_ ?_
  .refine ⟨x,g,z,u,rfl,R,?_⟩;simp only[*,go_sem,-h]
  rintro m2 d F' c ⟨e,a,j,u,rfl,n,cf⟩;have h:=True.intro;have ck:sz d=49:=by rw[c.size];simp only[*,go_sem,-h]
  have cl:d.defers=[]:=by rw[c.defers];simp only[*,go_sem,-h]
  have cv:slot d 0= .slice (some ⟨b,0,none⟩) u0.length c2:=by rw[c.aA 0 ay];simp only[*,go_sem,-h]
  have cy:slot d 1= .int .i64 l:=by rw[c.aA 1 ay];simp only[*,go_sem,-h]
  have c0:slot d 2= .int .i64 p:=by rw[c.aA 2 ay];simp only[*,go_sem,-h]
  have da:slot d 6= .int .i64 g:=by rw[c.aA 6 ay];simp only[*,go_sem,-h]
  have db:slot d 10= .int .i64 g:=by rw[c.aA 10 ay];simp only[*,go_sem,-h]
  have dd:slot d 11= .int .i64 p:=by rw[c.aA 11 ay];simp only[*,go_sem,-h]
  have df:slot d 12= .bool true:=by rw[c.aA 12 ay];simp only[*,go_sem,-h]
  have dk:slot d 15= .int .i64 g:=by rw[c.aA 15 ay];simp only[*,go_sem,-h]
  have dp:cq [6,7,10,11,12,13,14,15,16,17,18,19,20,21,22,23,24,25,26,27,28,29,30,31,32,33,34,35,36,37,38,39,40,41,42,43,44,45,46,47,48] d q:=(c.eg ay).trans au;clear c a2 a3 a4 a5 a6 a0;obtain _|m2:=m2
  .exact absurd u (by simp only[aZ,reduceCtorEq,not_false_eq_true])
  have h':=av u;clear u h;obtain ⟨dq,h,w⟩:=h';unfold uf at h;try dsimp only at h
  apply af hJ;apply af hJ;refine aO hJ fun ds=>?_;refine cB hJ mixed 15 ⟨ro,[(b,Obj.cells e 3)]⟩ au aS ?_;have h':=aD h;clear h;rcases h' with ⟨I,h⟩|⟨I,h⟩
  ·(try simp only[Int.ofNat_lt] at I);have h':=av h;clear h;obtain ⟨k,a8,h⟩:=h';obtain ⟨dt,du,T⟩:=cI a8;have dv:a<((u0.length:Nat):Int):=by have:=n.count;omega
   obtain ⟨a9,ba,bb⟩:=n.eL T;obtain rfl:a9=[.int .i64 k]:=ba;have U:=bb 0 _ rfl;simp only[go_sem] at U;have dC:=(Array.getElem?_eq_some_iff.1 U).1;have h':=av h;clear h;obtain ⟨f,bc,h⟩:=h';obtain ⟨dE,dT,bd⟩:=cI bc;have ea:IntKind.i64.wrap (a - 1)<((u0.length:Nat):Int):=by have:=n.count;omega
   obtain ⟨bj,bk,bm⟩:=n.eL bd;obtain rfl:bj=[.int .i64 f]:=bk;have V:=bm 0 _ rfl;simp only[go_sem] at V;have eb:=(Array.getElem?_eq_some_iff.1 V).1;have h':=av h;clear h;obtain ⟨ec,bo,h⟩:=h';(try apply aa _);refine ⟨_,dI hJ fun F hF=>iS k f bo,ef ?_⟩;(try apply aa _);have h':=aD h;clear h;rcases h' with ⟨K,h⟩|⟨K,h⟩
   ·(try simp only[Int.ofNat_lt] at K);refine aL hJ au ?_;apply aR hJ;apply af hJ;apply bf hJ;refine aO hJ fun ed=>?_;refine fC hJ mixed [15,16,17] (.pure 0 (.pure 1 (.pure 2 (.pure 3 (.pure 4 (.pure 5 (.pure 6 (.pure 7 (.pure 8 (.rd 9 (.pure 10 (.pure 11 (.pure 12 (.rd 13 (.pure 14 (.last 15 (.pure 16 (.last 17 .done)))))))))))))))))) ⟨ro,[(b,Obj.cells e 3)]⟩ au aS ?_;have L:bA rI ro 3 (.slice (some ⟨b,0,none⟩) u0.length c2) (j.set (a).toNat f) [(b,Obj.cells (bR e (a).toNat [.int .i64 f]) 3)]:=by have M:=n.lO (i:=(a).toNat) (y:=f) (by have:=T;have:=(List.getElem?_eq_some_iff.1 this).1;simpa only[List.length_set] using this) (cs:=[.int .i64 f]) rfl;simpa only[ql,Nat.mul_one,Nat.add_zero] using M
    have h':=av h;clear h;obtain ⟨br,bs,h⟩:=h';obtain ⟨eh,et,W⟩:=cI bs;have ev:IntKind.i64.wrap (a - 1)<((u0.length:Nat):Int):=by have:=L.count;omega
    obtain ⟨b0,b1,b2⟩:=L.eL W;obtain rfl:b0=[.int .i64 br]:=b1;have X:=b2 0 _ rfl;simp only[go_sem] at X;have eQ:=(Array.getElem?_eq_some_iff.1 X).1;have Y:bA rI ro 3 (.slice (some ⟨b,0,none⟩) u0.length c2) ((j.set (a).toNat f).set (IntKind.i64.wrap (a - 1)).toNat k) [(b,Obj.cells (bR (bR e (a).toNat [.int .i64 f]) (IntKind.i64.wrap (a - 1)).toNat [.int .i64 k]) 3)]:=by have M:=L.lO (i:=(IntKind.i64.wrap (a - 1)).toNat) (y:=k) (by have:=W;have:=(List.getElem?_eq_some_iff.1 this).1;simpa only[List.length_set] using this) (cs:=[.int .i64 k]) rfl;simpa only[ql,Nat.mul_one,Nat.add_zero] using M
    (try apply aa _);obtain ⟨Z,N⟩:∃o,o=(bR (bR e (a).toNat [.int .i64 f]) (IntKind.i64.wrap (a - 1)).toNat [.int .i64 k]):=⟨_,rfl⟩
    refine cG (F:=⟨ro,[(b,Obj.cells Z 3)]⟩) hJ (by rw[N];exact Le.refl _) ?_;rw[<-N] at Y;clear N;refine aO hJ fun eS=>?_;apply ah hJ;apply aa _;have h':=Option.some.inj h;clear h;subst h';have h:=True.intro;(try apply aa _);refine ⟨m2,Nat.lt_succ_self _,_,Le.sub (List.Sublist.refl _),Z,(IntKind.i64.wrap (a - 1)),((j.set (a).toNat f).set (IntKind.i64.wrap (a - 1)).toNat k),w,rfl,Y,?_⟩;simp only[*,go_sem,-h]
   (try simp only[Int.ofNat_lt] at K);refine aM hJ au ?_;apply bM;simp only[go_sem];have h':=Option.some.inj h;clear h;subst h';have h':=Option.some.inj w;clear w;subst h';have h:=S;dsimp only[aJ] at h;refine aO hJ fun e0=>?_;apply ah hJ;apply aa _;have h':=Option.some.inj h;clear h;subst h';have h:=True.intro;(try apply aa _);refine ⟨B,Nat.lt_succ_self _,_,Le.sub (List.Sublist.refl _),e,(IntKind.i64.wrap (g+1)),j,C,rfl,n,?_⟩;simp only[*,go_sem,-h]
  try simp only[Int.ofNat_lt] at I
  try apply aa _
  refine aM hJ au ?_;apply bM;simp only[go_sem];have h':=Option.some.inj h;clear h;subst h';have h':=Option.some.inj w;clear w;subst h';have h:=S;dsimp only[aJ] at h;refine aO hJ fun e1=>?_;apply ah hJ;apply aa _;have h':=Option.some.inj h;clear h;subst h';have h:=True.intro;try apply aa _
  refine ⟨B,Nat.lt_succ_self _,_,Le.sub (List.Sublist.refl _),e,(IntKind.i64.wrap (g+1)),j,C,rfl,n,?_⟩;simp only[*,go_sem,-h]
 try simp only[Int.ofNat_lt] at H
 refine aM hJ au ?_;apply bM;simp only[go_sem];have h':=Option.some.inj h;clear h;subst h';have h':=Option.some.inj C;clear C;subst h';have h:=ar;dsimp only[aJ] at h;have h':=Option.some.inj h;clear h;subst h';apply bw _;exact ⟨_,R,Le.sub (List.Sublist.refl _)⟩
def uh (u0:(List Int))(st:(Int×Int×Int×Bool×Bool)):Option (Fl (Int×Int×Int×Bool×Bool) (Unit×(List Int))):=
 cond (decide ((IntKind.i64.wrap (st.2.1 - st.1))<=12)) (ak (qM u0 st.1 st.2.1) fun a=>some (.rt ((),a.2))) (none)
def qN (u0:(List Int))(a:Int)(b:Int)(c:Int):Option (Unit×(List Int)):=
 cond (List.isEmpty u0) none (ak (aZ (uh u0) fu (a,b,c,true,true)) fun o=>aJ o (fun d=>some ((),u0)) (fun _ _=>none) (fun r=>some r))
theorem zh {ro:Addr->Option Value}(u0:(List Int)){b8:Value}{t:List (Nat×Obj)}(g:bA rI ro 3 b8 u0 t)(i:Int)(j:Int)(k:Int){r:(Unit×(List Int))}(h:qN u0 i j k=some r):aF Tryz.prog 161 #[b8,.int .i64 i,.int .i64 j,.int .i64 k] ⟨ro,t⟩ (fun v G=>∃c,(v= .tuple #[]/\bA rI ro 3 b8 r.2 c)/\Le ⟨ro,c⟩ G):=by
 obtain ⟨d1,c2,rfl,N⟩:=g.len;unfold qN at h;have h':=aD h;clear h;rcases h' with ⟨u,h⟩|⟨u,h⟩
 .cases h
 obtain ⟨l,z,rfl,rfl,O⟩:=g.fX u;refine aF.go Tryz.func161 rfl Tryz.ntmps161 Tryz.results161 aB fun main J hJ A B hd hs=>?_;have C:=hs 0;have k1:=hs 1;have D:=hs 2;have E:=hs 3;clear hs;apply af hJ;refine aO hJ fun P=>?_;apply ah hJ;apply aa _;apply af hJ;refine aO hJ fun Q=>?_;apply ah hJ;apply aa _;apply bf hJ;have h':=av h;clear h;obtain ⟨F,a,H⟩:=h';have h:=True.intro;refine bO hJ [1,2,3,8,9,10,11,12,13,14,15,16,17,18,19,20,21,22,23,24,25,26,27,28,29,30,31,32,33,34,35,36,37,38,39,40,41,42,43,44,45,46,47,48,49,50,51,52,53,54,55,56,57,58,59,60,61,62,63,64,65,66,67,68,69,70,71,72,73,74,75,76,77,78,79,80,81,82,83,84,85,86,87,88,89,90,91,92,93,94,95,96,97,98,99,100,101,102,103,104,105,106,107,108,109,110,111,112,113,114,115,116,117,118,119,120,121,122,123,124,125,126,127,128,129,130,131,132,133] (fun m b F'=>∃(d:Int) (e:Int) (n:Int) (o:Bool) (p:Bool),aZ (uh u0) m (d,e,n,o,p)=some F/\F'=⟨ro,[(l,Obj.cells z 3)]⟩/\slot b 1= .int .i64 d/\slot b 2= .int .i64 e/\slot b 3= .int .i64 n/\slot b 8= .bool o/\slot b 9= .bool p) fu ?_ ?_
 .refine ⟨i,j,k,true,true,a,rfl,?_⟩;simp only[*,go_sem,-h]
 rintro w q F' f ⟨d,e,n,o,p,a,rfl,R,S,T,U,V⟩;have h:=True.intro;have W:sz q=134:=by rw[f.size];simp only[*,go_sem,-h]
 have X:q.defers=[]:=by rw[f.defers];simp only[*,go_sem,-h]
 have Y:slot q 0= .slice (some ⟨l,0,none⟩) u0.length c2:=by rw[f.aA 0 ay];simp only[*,go_sem,-h]
 clear f B hd C k1 D E;obtain _|w:=w
 .exact absurd a (by simp only[aZ,reduceCtorEq,not_false_eq_true])
 have h':=av a;clear a h;obtain ⟨Z,h,x⟩:=h';unfold uh at h;try dsimp only at h
 apply bf hJ;apply af hJ;refine aO hJ fun ab=>?_;apply ah hJ;apply aa _;apply af hJ;apply af hJ;refine aO hJ fun ad=>?_;apply ah hJ;apply aa _;have h':=aD h;clear h;rcases h' with ⟨s,h⟩|⟨s,h⟩
 .try simp only[Int.ofNat_lt] at s
  refine aL hJ au ?_;apply af hJ;refine aO hJ fun ae=>?_;apply ah hJ;have h':=av h;clear h;obtain ⟨al,I,h⟩:=h';apply aa _;refine dA hJ [] [] (by first|rfl|simp only[bE]|(simp only[bE];rfl)) _ (zg u0 g d e I) (fun ao ar K c L a0=>?_);obtain ⟨rfl,y⟩:=K;obtain ⟨M,rfl⟩:=y.fN;simp only[bE] at L;subst c;refine ⟨⟨ro,[(l,Obj.cells M 3)]⟩,Le.refl _,?_⟩;try apply aa _
  have h':=Option.some.inj h;clear h;subst h';have h':=Option.some.inj x;clear x;subst h';have h:=H;dsimp only[aJ] at h;have h':=Option.some.inj h;clear h;subst h';refine eu ?_;exact ⟨_,y,Le.sub (List.Sublist.refl _)⟩
 try simp only[Int.ofNat_lt] at s
 refine aM hJ au ?_;cases h
def oN (u0:(List Int))(a:Int)(b:Int)(c:Int):Option (((Int×Int)×(List Int))×Int):=
 cond (List.isEmpty u0) none (ak (bI u0 b) fun d=>ak (bI u0 a) fun e=>ak (g5 d e) fun f=>cond (f) (some (((b,a),u0),IntKind.i64.wrap (c+1))) (some (((a,b),u0),c)))
theorem uj {ro:Addr->Option Value}(u0:(List Int)){b8:Value}{g:List (Nat×Obj)}(a:bA rI ro 3 b8 u0 g)(c:Int)(d:Int)(e:Int){b:Nat}(K:∀off sp,ro ⟨b,off,sp⟩=none){r:(((Int×Int)×(List Int))×Int)}(h:oN u0 c d e=some r):aF Tryz.prog 199 #[b8,.int .i64 c,.int .i64 d,.pointer (some ⟨b,0,none⟩)] ⟨ro,(b,.cells #[.int .i64 e] 3)::g⟩ (fun v G=>∃i,(∃j,i=(b,.cells #[.int .i64 r.2] 3)::j/\v= .tuple #[.int .i64 r.1.1.1,.int .i64 r.1.1.2]/\bA rI ro 3 b8 r.1.2 j)/\Le ⟨ro,i⟩ G):=by
 obtain ⟨d1,c2,rfl,L⟩:=a.len;unfold oN at h;have h':=aD h;clear h;rcases h' with ⟨k,h⟩|⟨k,h⟩
 .cases h
 obtain ⟨p,q,rfl,rfl,M⟩:=a.fX k;refine aF.go Tryz.func199 rfl Tryz.ntmps199 Tryz.results199 aB fun main J hJ A N hd hs=>?_;have O:=hs 0;have k1:=hs 1;have P:=hs 2;have Q:=hs 3;clear hs;refine aO hJ fun s=>?_;have t:=s.nd;simp only[keys,List.map_cons,List.map_nil,List.map_append,List.cons_append,List.nil_append,List.nodup_cons,List.mem_cons,List.mem_append,List.not_mem_nil,or_false,not_or] at t;apply af hJ;refine aO hJ fun R=>?_;apply ah hJ;apply aa _;apply af hJ;apply af hJ;refine aO hJ fun S=>?_;refine cB hJ mixed 9 ⟨ro,[(b,.cells #[.int .i64 e] 3),(p,Obj.cells q 3)]⟩ au aS ?_;have h':=av h;clear h;obtain ⟨l,u,h⟩:=h';obtain ⟨T,U,w⟩:=cI u;have V:d<((u0.length:Nat):Int):=by have:=a.count;omega
 obtain ⟨x,y,z⟩:=a.eL w;obtain rfl:x=[.int .i64 l]:=y;have m:=z 0 _ rfl;simp only[go_sem] at m;have W:=(Array.getElem?_eq_some_iff.1 m).1;have h':=av h;clear h;obtain ⟨n,B,h⟩:=h';obtain ⟨X,Y,C⟩:=cI B;have Z:c<((u0.length:Nat):Int):=by have:=a.count;omega
 obtain ⟨D,E,H⟩:=a.eL C;obtain rfl:D=[.int .i64 n]:=E;have o:=H 0 _ rfl;simp only[go_sem] at o;have ab:=(Array.getElem?_eq_some_iff.1 o).1;have h':=av h;clear h;obtain ⟨ad,I,h⟩:=h';try apply aa _
 refine ⟨_,dI hJ fun F hF=>iS l n I,?_⟩;try apply aa _
 have h':=aD h;clear h;rcases h' with ⟨f,h⟩|⟨f,h⟩
 .try simp only[Int.ofNat_lt] at f
  refine aL hJ au ?_;apply af hJ;refine aO hJ fun ae=>?_;apply ah hJ;apply aa _;apply af hJ;refine aO hJ fun al=>?_;apply ah hJ;apply aa _;have h':=Option.some.inj h;clear h;subst h';refine eu ?_;exact ⟨_,⟨_,rfl,a⟩,Le.sub (List.Sublist.refl _)⟩
 try simp only[Int.ofNat_lt] at f
 refine aM hJ au ?_;apply aR hJ;apply af hJ;refine aO hJ fun ao=>?_;apply ah hJ;apply aa _;have h':=Option.some.inj h;clear h;subst h';refine eu ?_;exact ⟨_,⟨_,rfl,a⟩,Le.sub (List.Sublist.refl _)⟩
def uk (u0:(List Int))(d:Int)(e:Int)(f:Int)(g:Int):Option ((Int×(List Int))×Int):=
 cond (List.isEmpty u0) none (ak (oN u0 d e g) fun a=>ak (oN a.1.2 a.1.1.2 f a.2) fun b=>ak (oN b.1.2 a.1.1.1 b.1.1.1 b.2) fun c=>some ((c.1.1.2,c.1.2),c.2))
theorem Et {ro:Addr->Option Value}(u0:(List Int)){b8:Value}{q:List (Nat×Obj)}(k:bA rI ro 3 b8 u0 q)(l:Int)(m:Int)(n:Int)(o:Int){d:Nat}(p:∀off sp,ro ⟨d,off,sp⟩=none){r:((Int×(List Int))×Int)}(h:uk u0 l m n o=some r):aF Tryz.prog 197 #[b8,.int .i64 l,.int .i64 m,.int .i64 n,.pointer (some ⟨d,0,none⟩)] ⟨ro,(d,.cells #[.int .i64 o] 3)::q⟩ (fun v G=>∃b,(∃s,b=(d,.cells #[.int .i64 r.2] 3)::s/\v= .int .i64 r.1.1/\bA rI ro 3 b8 r.1.2 s)/\Le ⟨ro,b⟩ G):=by
 obtain ⟨d1,c2,rfl,Q⟩:=k.len;unfold uk at h;have h':=aD h;clear h;rcases h' with ⟨t,h⟩|⟨t,h⟩
 .cases h
 obtain ⟨e,R,rfl,rfl,S⟩:=k.fX t;refine aF.go Tryz.func197 rfl Tryz.ntmps197 Tryz.results197 aB fun main J hJ A B hd hs=>?_;have C:=hs 0;have k1:=hs 1;have D:=hs 2;have E:=hs 3;have F:=hs 4;clear hs;refine aO hJ fun H=>?_;have I:=H.nd;simp only[keys,List.map_cons,List.map_nil,List.map_append,List.cons_append,List.nil_append,List.nodup_cons,List.mem_cons,List.mem_append,List.not_mem_nil,or_false,not_or] at I;apply af hJ;refine aO hJ fun T=>?_;apply ah hJ;apply aa _;apply af hJ;refine aO hJ fun U=>?_;apply ah hJ;have h':=av h;clear h;obtain ⟨f,K,h⟩:=h';apply aa _;refine dA hJ [] [] (by first|rfl|simp only[bE]|(simp only[bE];rfl)) _ (uj u0 k l m o p K) (fun V u g b i W=>?_);obtain ⟨X,rfl,rfl,w⟩:=g;obtain ⟨L,rfl⟩:=w.fN;simp only[bE] at i;subst b;refine ⟨⟨ro,(d,.cells #[.int .i64 f.2] 3)::[(e,Obj.cells L 3)]⟩,Le.refl _,?_⟩;apply aQ;try apply aa _
 apply af hJ;refine aO hJ fun Y=>?_;apply ah hJ;have h':=av h;clear h;obtain ⟨j,M,h⟩:=h';apply aa _;refine dA hJ [] [] (by first|rfl|simp only[bE]|(simp only[bE];rfl)) _ (uj f.1.2 w f.1.1.2 n f.2 p M) (fun Z u g b i ab=>?_);obtain ⟨ad,rfl,rfl,x⟩:=g;obtain ⟨N,rfl⟩:=x.fN;simp only[bE] at i;subst b;refine ⟨⟨ro,(d,.cells #[.int .i64 j.2] 3)::[(e,Obj.cells N 3)]⟩,Le.refl _,?_⟩;apply aQ;try apply aa _
 apply af hJ;refine aO hJ fun ae=>?_;apply ah hJ;have h':=av h;clear h;obtain ⟨y,O,h⟩:=h';apply aa _;refine dA hJ [] [] (by first|rfl|simp only[bE]|(simp only[bE];rfl)) _ (uj j.1.2 x f.1.1.1 j.1.1.1 j.2 p O) (fun al u g b i ao=>?_);obtain ⟨ar,rfl,rfl,z⟩:=g;obtain ⟨P,rfl⟩:=z.fN;simp only[bE] at i;subst b;refine ⟨⟨ro,(d,.cells #[.int .i64 y.2] 3)::[(e,Obj.cells P 3)]⟩,Le.refl _,?_⟩;apply aQ;try apply aa _
 apply af hJ;generalize a:bt _ _ _=c;have a0:sz c=36:=by rw[<-a];simp only[*,go_sem,-h,-a]
 have a2:c.defers=[]:=by rw[<-a];simp only[*,go_sem,-h,-a]
 have a3:slot c 0= .slice (some ⟨e,0,none⟩) u0.length c2:=by rw[<-a];simp only[*,go_sem,-h,-a]
 have a4:slot c 2= .int .i64 y.1.1.2:=by rw[<-a];simp only[*,go_sem,-h,-a]
 have a5:slot c 10= .int .i64 0:=by rw[<-a];simp only[*,go_sem,-h,-a]
 have a6:slot c 12= .slice (some ⟨e,0,none⟩) u0.length c2:=by rw[<-a];simp only[*,go_sem,-h,-a]
 have a7:slot c 20= .slice (some ⟨e,0,none⟩) u0.length c2:=by rw[<-a];simp only[*,go_sem,-h,-a]
 have a8:slot c 28= .slice (some ⟨e,0,none⟩) u0.length c2:=by rw[<-a];simp only[*,go_sem,-h,-a]
 clear a B hd C k1 D E F;refine aO hJ fun a9=>?_;apply ah hJ;apply aa _;have h':=Option.some.inj h;clear h;subst h';refine eu ?_;exact ⟨_,⟨_,rfl,z⟩,Le.sub (List.Sublist.refl _)⟩
def um (u0:(List Int))(b:Int)(d:Int):Option ((Int×Int)×(List Int)):=
 cond (List.isEmpty u0) none (ak (ob (IntKind.i64.wrap (d - b)) 4) fun c=>cond (decide (8<=(IntKind.i64.wrap (d - b)))) (cond (decide (50<=(IntKind.i64.wrap (d - b)))) (none) (ak (uk u0 (IntKind.i64.wrap (b+(IntKind.i64.wrap (c*1)))) (IntKind.i64.wrap (b+(IntKind.i64.wrap (c*2)))) (IntKind.i64.wrap (b+(IntKind.i64.wrap (c*3)))) 0) fun a=>cond ((a.2==0)) (some ((a.1.1,1),a.1.2)) (cond ((a.2==12)) (some ((a.1.1,2),a.1.2)) (some ((a.1.1,0),a.1.2))))) (some ((IntKind.i64.wrap (b+(IntKind.i64.wrap (c*2))),1),u0)))
theorem Eu {ro:Addr->Option Value}(u0:(List Int)){b8:Value}{p:List (Nat×Obj)}(f:bA rI ro 3 b8 u0 p)(d:Int)(q:Int){r:((Int×Int)×(List Int))}(h:um u0 d q=some r):aF Tryz.prog 183 #[b8,.int .i64 d,.int .i64 q] ⟨ro,p⟩ (fun v G=>∃g,(v= .tuple #[.int .i64 r.1.1,.int .i64 r.1.2]/\bA rI ro 3 b8 r.2 g)/\Le ⟨ro,g⟩ G):=by
 obtain ⟨d1,c2,rfl,K⟩:=f.len;unfold um at h;have h':=aD h;clear h;rcases h' with ⟨s,h⟩|⟨s,h⟩
 .cases h
 obtain ⟨i,L,rfl,rfl,M⟩:=f.fX s;refine aF.go Tryz.func183 rfl Tryz.ntmps183 Tryz.results183 aB fun main J hJ A t hd hs=>?_;have u:=hs 0;have k1:=hs 1;have w:=hs 2;clear hs;apply af hJ;refine aO hJ fun N=>?_;apply ah hJ;apply aa _;apply af hJ;refine aO hJ fun O=>?_;apply ah hJ;apply aa _;apply af hJ;refine aO hJ fun C=>?_;apply ah hJ;apply aa _;intro x f14;have D:=aT f14;have y:=aU f14;have P:=bT.cons y C;try simp only[aN] at y
 try apply aa _
 apply af hJ;refine aO hJ fun Q=>?_;apply ah hJ;have h':=av h;clear h;obtain ⟨j,z,h⟩:=h';obtain ⟨R,S⟩:=s7 z;clear z;try apply aa _
 apply af hJ;refine aO hJ fun T=>?_;apply ah hJ;apply aa _;apply af hJ;refine aO hJ fun U=>?_;apply ah hJ;apply aa _;apply af hJ;apply af hJ;refine aO hJ fun V=>?_;apply ah hJ;apply aa _;have h':=aD h;clear h;rcases h' with ⟨l,h⟩|⟨l,h⟩
 .try simp only[Int.ofNat_lt] at l
  refine aL hJ au ?_;apply af hJ;apply af hJ;refine aO hJ fun W=>?_;apply ah hJ;apply aa _;have h':=aD h;clear h;rcases h' with ⟨m,h⟩|⟨m,h⟩
  ·(try simp only[Int.ofNat_lt] at m);refine aL hJ au ?_;cases h
  try simp only[Int.ofNat_lt] at m
  refine aM hJ au ?_;apply aR hJ;refine aO hJ fun X=>?_;apply ah hJ;have h':=av h;clear h;obtain ⟨B,E,h⟩:=h';apply aa _;refine dA hJ [] [] (by first|rfl|simp only[bE]|(simp only[bE];rfl)) _ (Et u0 f (IntKind.i64.wrap (d+(IntKind.i64.wrap (j*1)))) (IntKind.i64.wrap (d+(IntKind.i64.wrap (j*2)))) (IntKind.i64.wrap (d+(IntKind.i64.wrap (j*3)))) 0 D E) (fun Y Z F g H ab=>?_);obtain ⟨ad,rfl,rfl,k⟩:=F;obtain ⟨I,rfl⟩:=k.fN;simp only[bE] at H;subst g;refine ⟨⟨ro,(x,.cells #[.int .i64 B.2] 3)::[(i,Obj.cells I 3)]⟩,Le.refl _,?_⟩;apply aQ;try apply aa _
  apply af hJ;generalize a:bt _ _ _=c;have ae:sz c=57:=by rw[<-a];simp only[*,go_sem,-h,-a]
  have al:c.defers=[]:=by rw[<-a];simp only[*,go_sem,-h,-a]
  have ao:slot c 0= .slice (some ⟨i,0,none⟩) u0.length c2:=by rw[<-a];simp only[*,go_sem,-h,-a]
  have ar:slot c 6= .int .i64 0:=by rw[<-a];simp only[*,go_sem,-h,-a]
  have a0:slot c 7= .int .i64 0:=by rw[<-a];simp only[*,go_sem,-h,-a]
  have a2:slot c 9= .pointer (some ⟨x,0,none⟩):=by rw[<-a];simp only[*,go_sem,-h,-a]
  have a3:slot c 11= .int .i64 B.1.1:=by rw[<-a];simp only[*,go_sem,-h,-a]
  have a4:slot c 44= .slice (some ⟨i,0,none⟩) u0.length c2:=by rw[<-a];simp only[*,go_sem,-h,-a]
  clear a t hd u k1 w;refine aO hJ fun a5=>?_;apply ah hJ;apply aa _;apply bf hJ;apply af hJ;refine aO hJ fun a6=>?_;apply ah hJ;apply aa _;have h':=aD h;clear h;rcases h' with ⟨n,h⟩|⟨n,h⟩
  ·(try simp only[Int.ofNat_lt] at n);refine aL hJ au ?_;apply af hJ;refine aO hJ fun a7=>?_;apply ah hJ;apply aa _;have h':=Option.some.inj h;clear h;subst h';refine eu ?_;exact ⟨_,k,Le.sub (.cons _ (List.Sublist.refl _))⟩
  try simp only[Int.ofNat_lt] at n
  refine aM hJ au ?_;apply af hJ;refine aO hJ fun a8=>?_;apply ah hJ;apply aa _;have h':=aD h;clear h;rcases h' with ⟨o,h⟩|⟨o,h⟩
  ·(try simp only[Int.ofNat_lt] at o);refine aL hJ au ?_;apply af hJ;refine aO hJ fun a9=>?_;apply ah hJ;apply aa _;have h':=Option.some.inj h;clear h;subst h';refine eu ?_;exact ⟨_,k,Le.sub (.cons _ (List.Sublist.refl _))⟩
  try simp only[Int.ofNat_lt] at o
  refine aM hJ au ?_;apply af hJ;refine aO hJ fun ba=>?_;apply ah hJ;apply aa _;have h':=Option.some.inj h;clear h;subst h';refine eu ?_;exact ⟨_,k,Le.sub (.cons _ (List.Sublist.refl _))⟩
 try simp only[Int.ofNat_lt] at l
 refine aM hJ au ?_;apply aR hJ;apply af hJ;refine aO hJ fun bb=>?_;apply ah hJ;apply aa _;apply bf hJ;apply af hJ;refine aO hJ fun bc=>?_;apply ah hJ;apply aa _;refine aL hJ au ?_;apply af hJ;generalize b:bt _ _ _=e;have bd:sz e=57:=by rw[<-b];simp only[*,go_sem,-h,-b]
 have bj:e.defers=[]:=by rw[<-b];simp only[*,go_sem,-h,-b]
 have bk:slot e 0= .slice (some ⟨i,0,none⟩) u0.length c2:=by rw[<-b];simp only[*,go_sem,-h,-b]
 have bm:slot e 6= .int .i64 0:=by rw[<-b];simp only[*,go_sem,-h,-b]
 have bo:slot e 7= .int .i64 0:=by rw[<-b];simp only[*,go_sem,-h,-b]
 have br:slot e 11= .int .i64 (IntKind.i64.wrap (d+(IntKind.i64.wrap (j*2)))):=by rw[<-b];simp only[*,go_sem,-h,-b]
 clear b t hd u k1 w;refine aO hJ fun bs=>?_;apply ah hJ;apply aa _;have h':=Option.some.inj h;clear h;subst h';refine eu ?_;exact ⟨_,f,Le.sub (.cons _ (List.Sublist.refl _))⟩
end Go.Proofs.YtcoalekambhghaaGreatDoor
end
section
namespace Go.Sep
open Go Go.Conc
variable {P:Program}{main:Bool}{J:Goroutine->ag->Prop}{Q:Ex->Act->ag->Prop}{a:Act}{F:ag}
def Qn (E:Act->ag->Prop)(Q:Ex->Act->ag->Prop):Ex->Act->ag->Prop
 | .normal,a,F=>∃F0,Le F0 F/\E a F0
 | .exit i,a,F=>Q (.exit i) a F
 | .ret,a,F=>Q .ret a F
theorem Ev (E:Act->ag->Prop)(Q:Ex->Act->ag->Prop)(i:Nat)(a:Act)(F:ag):Qn E Q (.exit i) a F=Q (.exit i) a F:=Eq.trans rfl rfl
theorem Ew (E:Act->ag->Prop)(Q:Ex->Act->ag->Prop)(a:Act)(F:ag):Qn E Q .ret a F=Q .ret a F:=Eq.trans rfl rfl
attribute [go_sem] Ev Ew
theorem Qn.intro {E:Act->ag->Prop}(h:∃F0,Le F0 F/\E a F0):Qn E Q .normal a F:=h
theorem fY (hJ:Closed P main J){x y:Code}(E:Act->ag->Prop)(c:Wp J x (Qn E Q) a F)(d:∀a F,E a F->Wp J y Q a F):Wp J (.seq x y) Q a F:=
 af hJ (c.mono fun e a F b=>by
  cases e with
  |normal=>obtain ⟨F0,hle,f⟩:=b;exact cG hJ hle (d a F0 f)
  |exit i=>exact b
  |ret=>exact b)
theorem bA.cP {ro:Addr->Option Value}{e:TypeId}{b n cap:Nat}{l:List Int}{arr:Array Value}(h:bA rI ro e (.slice (some ⟨b,0,none⟩) n cap) l [(b,.cells arr e)]){i x:Int}(q:bI l i=some x):
  0<=i/\i<((n:Nat):Int)/\arr[i.toNat]?=some (.int .i64 x)/\i.toNat<arr.size:=by
 obtain ⟨a,f,c⟩:=cI q
 have g:=h.count
 obtain ⟨cs,d,hm⟩:=h.eL c
 obtain rfl:cs=[.int .i64 x]:=d
 have m:=hm 0 _ rfl
 have m:arr[i.toNat*1+0]?=some (.int .i64 x):=m
 rw[Nat.mul_one,Nat.add_zero] at m
 exact ⟨a,ai,m,(Array.getElem?_eq_some_iff.1 m).1⟩
theorem bA.fP {ro:Addr->Option Value}{e:TypeId}{b n cap:Nat}{l:List Int}{arr:Array Value}(h:bA rI ro e (.slice (some ⟨b,0,none⟩) n cap) l [(b,.cells arr e)]){i:Int}(a:0<=i)(c:i<((n:Nat):Int))(y:Int):
  bA rI ro e (.slice (some ⟨b,0,none⟩) n cap) (l.set i.toNat y) [(b,.cells (bR arr i.toNat [.int .i64 y]) e)]:=by
 have d:=h.count
 have:=h.lO (i:=i.toNat) (y:=y) ai (cs:=[.int .i64 y]) rfl
 rwa [show i.toNat*rI.n=i.toNat from Nat.mul_one _] at this
end Go.Sep
end
section
namespace Go.Proofs.YtcoalekambhghaaGreatDoor
open Go Go.Sep Go.Proofs
set_option maxRecDepth 100000
set_option maxHeartbeats 4000000
def eO (m:Nat):Nat:=if m=0 then 0 else m.log2+1
def jY (n:Int):Option Int:=if 0<=n/\n<65536 then some ((eO n.toNat:Nat):Int) else none
theorem zi:∀m:Fin 256,eO m.val<=8:=by decide+kernel
theorem Ey {m:Nat}(h:256<=m):eO m=eO (m/256)+8:=by
 have e:∀k,k≠0->eO k=eO (k/2)+1:=fun k b=>by
  unfold eO;rw[if_neg b];rcases Nat.lt_or_ge k 2 with a|a
  .obtain rfl:k=1:=ai;decide
  .rw[if_neg (show ¬k/2=0 by omega),Nat.log2_def,if_pos a]
 rw[e m ai,e (m/2) ai,e (m/2/2) ai,e (m/2/2/2) ai,e (m/2/2/2/2) ai,e (m/2/2/2/2/2) ai,e (m/2/2/2/2/2/2) ai,e (m/2/2/2/2/2/2/2) ai];simp only[Nat.div_div_eq_div_mul,Nat.reduceMul]
theorem Ez {ro:Addr->Option Value}(n:Int)(b:0<=n)(d:n<65536):aF Tryz.prog 171 #[.int .u64 n] ⟨ro,[]⟩ (fun v _=>v= .int .i64 ((eO n.toNat:Nat):Int)):=by
 refine aF.go Tryz.func171 rfl Tryz.ntmps171 Tryz.results171 aB fun main J hJ A e hd hs=>?_;have f:=hs 0;clear hs;have a1:¬(4294967296:Int)<=n:=ai;have g:¬(65536:Int)<=n:=ai;have h:Tryz.prog.underlying 155=some (.int .u64):=aS;have i:Tryz.prog.underlying 5=some (.int .u8):=aS;have j:Tryz.prog.underlying 3=some (.int .i64):=aS;have k:Tryz.prog.underlying 9=some .string:=aS;repeat refine af hJ ?_
 refine ah hJ ?_;apply bw _;repeat refine af hJ ?_
 refine ah hJ ?_;apply bw _;repeat refine af hJ ?_
 refine aM hJ (by simp only[*,go_sem,ge_iff_le]) ?_;refine aR hJ ?_;repeat refine af hJ ?_
 refine ah hJ ?_;apply bw _;repeat refine af hJ ?_
 refine aM hJ (by simp only[*,go_sem,ge_iff_le]) ?_;refine aR hJ ?_;repeat refine af hJ ?_
 refine ah hJ ?_;apply bw _;repeat refine af hJ ?_
 by_cases l:(256:Int)<=n
 .refine aL hJ (by simp only[*,go_sem,ge_iff_le]) ?_;repeat refine af hJ ?_
  refine ah hJ ?_;apply bw _;obtain ⟨m,hm⟩:∃m,n.fdiv (2 ^ min 8 64)=m:=⟨_,rfl⟩
  have em:m=n/256:=by rw[<-hm];show n.fdiv 256=_;rw[Int.fdiv_eq_ediv_of_nonneg _ ay]
  rw[hm];clear hm;have c:IntKind.u8.wrap m=m:=IntWalk.u8_in m ⟨ai,ai⟩;have o:eO n.toNat=eO m.toNat+8:=by
   rw[Ey ai];congr 2;omega
  have p:0<=m:=ai;have q:m<256:=ai;clear em;refine ah hJ ?_;apply bw _;repeat refine af hJ ?_
  refine ah hJ ?_;apply bw _;generalize a:List.append _ _=S;have key:∀m:Fin 256,S[m.val]?=some (UInt8.ofNat (eO m.val)):=by rw[<-a];decide+kernel
  clear a;have hn:m.toNat<256:=ai;have hb:=key ⟨m.toNat,hn⟩;have hle:=zi ⟨m.toNat,hn⟩;simp only at hb hle;simp only[hb,Option.map_some];refine aI ?_;apply bw _;have e1:(UInt8.ofNat (eO m.toNat)).toNat=eO m.toNat:=by rw[UInt8.toNat_ofNat'];omega
  rw[e1,IntWalk.i64_in (eO m.toNat:Int) ⟨ai,ai⟩];rw[IntWalk.i64_in (0+8) ⟨ai,ai⟩,IntWalk.i64_in _ ⟨ai,ai⟩];congr 1;omega
 .refine aM hJ (by simp only[*,go_sem,ge_iff_le]) ?_;have c:IntKind.u8.wrap n=n:=IntWalk.u8_in n ⟨b,ai⟩;refine aR hJ ?_;repeat refine af hJ ?_
  refine ah hJ ?_;apply bw _;generalize a:List.append _ _=S;have key:∀m:Fin 256,S[m.val]?=some (UInt8.ofNat (eO m.val)):=by rw[<-a];decide+kernel
  clear a;have hn:n.toNat<256:=ai;have hb:=key ⟨n.toNat,hn⟩;have hle:=zi ⟨n.toNat,hn⟩;simp only at hb hle;simp only[hb,Option.map_some];refine aI ?_;apply bw _;have e1:(UInt8.ofNat (eO n.toNat)).toNat=eO n.toNat:=by rw[UInt8.toNat_ofNat'];omega
  rw[e1,IntWalk.i64_in (eO n.toNat:Int) ⟨ai,ai⟩,Int.zero_add,IntWalk.i64_in (eO n.toNat:Int) ⟨ai,ai⟩]
theorem qO {ro:Addr->Option Value}(n:Int){r:Int}(h:jY n=some r):aF Tryz.prog 136 #[.int .u64 n] ⟨ro,[]⟩ (fun v _=>v= .int .i64 r):=by
 unfold jY at h;split at h
 case isFalse=>cases h
 rename_i hn;obtain ⟨a,b⟩:=hn;cases h;refine aF.go Tryz.func136 rfl Tryz.ntmps136 Tryz.results136 aB fun main J hJ A c hd hs=>?_;have d:=hs 0;clear hs;repeat refine af hJ ?_
 refine ah hJ ?_;apply bw _;repeat refine af hJ ?_
 refine aM hJ cY ?_;refine aR hJ ?_;repeat refine af hJ ?_
 refine ah hJ ?_;apply bw _;refine bl hJ _ (Ez n a b) (aQ ?_);apply bw _;refine aI ?_;simp only[*,go_sem]
theorem EA:Tryz.prog.underlying 3=some (.int .i64):=aS
attribute [go_sem] EA
theorem EB:Tryz.prog.underlying 82=some (.int .u64):=aS
attribute [go_sem] EB
theorem EC:Tryz.prog.underlying 155=some (.int .u64):=aS
attribute [go_sem] EC
theorem ED:Tryz.prog.underlying 218=some (.int .u64):=aS
attribute [go_sem] ED
def uo (u0:Int):Option (Int×Int):=
 ak (jl u0 13) fun a=>ak (lI (gK u0 a) 7) fun b=>ak (jl (gK (gK u0 a) b) 17) fun c=>some ((gK (gK (gK u0 a) b) c),(gK (gK (gK u0 a) b) c))
theorem EE {ro:Addr->Option Value}(u0:Int){b:Nat}(r1:∀off sp,ro ⟨b,off,sp⟩=none){r:(Int×Int)}(h:uo u0=some r):aF Tryz.prog 191 #[.pointer (some ⟨b,0,none⟩)] ⟨ro,[(b,.cells #[.int .u64 u0] 218)]⟩ (fun v G=>∃d,(v= .int .u64 r.1/\d=[(b,.cells #[.int .u64 r.2] 218)])/\Le ⟨ro,d⟩ G):=by
 unfold uo at h;refine aF.go Tryz.func191 rfl Tryz.ntmps191 Tryz.results191 aB fun main J hJ A j hd hs=>?_;have k:=hs 0;clear hs;apply af hJ;apply ah hJ;apply aa _;apply af hJ;refine fC hJ mixed [9] (.pure 0 (.pure 1 (.rd 2 (.pure 3 (.pure 4 (.rd 5 (.pure 6 (.pure 7 (.pure 8 (.last 9 .done)))))))))) ⟨ro,[(b,.cells #[.int .u64 u0] 218)]⟩ au aS ?_;have h':=av h;clear h;obtain ⟨e,f,h⟩:=h';obtain ⟨p,l⟩:=lH f;clear f;try simp only[go_sem] at l
 try apply aa _
 apply af hJ;refine fC hJ mixed [9] (.pure 0 (.pure 1 (.rd 2 (.pure 3 (.pure 4 (.rd 5 (.pure 6 (.pure 7 (.pure 8 (.last 9 .done)))))))))) ⟨ro,[(b,.cells #[.int .u64 (gK u0 e)] 218)]⟩ au aS ?_;have h':=av h;clear h;obtain ⟨m,g,h⟩:=h';obtain ⟨q,n⟩:=s9 g;clear g;try simp only[go_sem] at n
 try apply aa _
 apply af hJ;refine fC hJ mixed [9] (.pure 0 (.pure 1 (.rd 2 (.pure 3 (.pure 4 (.rd 5 (.pure 6 (.pure 7 (.pure 8 (.last 9 .done)))))))))) ⟨ro,[(b,.cells #[.int .u64 (gK (gK u0 e) m)] 218)]⟩ au aS ?_;have h':=av h;clear h;obtain ⟨s,i,h⟩:=h';obtain ⟨t,o⟩:=lH i;clear i;try simp only[go_sem] at o
 try apply aa _
 apply af hJ;generalize a:bt _ _ _=c;have u:sz c=33:=by rw[<-a];simp only[*,go_sem,-h,-a]
 have w:c.defers=[]:=by rw[<-a];simp only[*,go_sem,-h,-a]
 have x:slot c 0= .pointer (some ⟨b,0,none⟩):=by rw[<-a];simp only[*,go_sem,-h,-a]
 have y:slot c 2= .int .u64 0:=by rw[<-a];simp only[*,go_sem,-h,-a]
 clear a j hd k;apply ah hJ;apply aa _;have h':=Option.some.inj h;clear h;subst h';refine eu ?_;exact ⟨_,rfl,Le.sub (List.Sublist.refl _)⟩
def uq (u0:Int):Option Int:=
 ak (jY (IntKind.u64.wrap u0)) fun x1=>ak (jl 1 x1) fun x3=>some x3
theorem EF {ro:Addr->Option Value}(u0:Int){r:Int}(h:uq u0=some r):aF Tryz.prog 190 #[.int .i64 u0] ⟨ro,[]⟩ (fun v _=>v= .int .u64 r):=by
 unfold uq at h;refine aF.go Tryz.func190 rfl Tryz.ntmps190 Tryz.results190 aB fun main J hJ A d hd hs=>?_;have e:=hs 0;clear hs;apply af hJ;apply ah hJ;apply aa _;apply af hJ;apply ah hJ;have h':=av h;clear h;obtain ⟨x1,b,h⟩:=h';apply aa _;refine bl hJ _ (qO (IntKind.u64.wrap u0) b) (aQ ?_);have h':=av h;clear h;obtain ⟨x3,a,h⟩:=h';obtain ⟨f,c⟩:=lH a;clear a;try simp only[go_sem] at c
 try apply aa _
 have h':=Option.some.inj h;clear h;subst h';apply aI;simp only[*,go_sem]
def uu (a:Int)(e:Int)(c:Int)(h:Int)(st:(Int×(List Int)×Int)):Option (Fl (Int×(List Int)×Int) (Unit×(List Int))):=
 cond (decide (st.1<=(IntKind.i64.wrap ((IntKind.i64.wrap (a+(IntKind.i64.wrap (h*2))))+1)))) (ak (ak (uo st.2.2) fun b=>ak (cond (decide ((IntKind.i64.wrap (e - a))<=(IntKind.i64.wrap (fq b.1 (IntKind.u64.wrap (c - 1)))))) (some (.bk (IntKind.i64.wrap ((IntKind.i64.wrap (fq b.1 (IntKind.u64.wrap (c - 1)))) - (IntKind.i64.wrap (e - a)))))) (some (.bk (IntKind.i64.wrap (fq b.1 (IntKind.u64.wrap (c - 1)))))):Option (Fl Int (Unit×(List Int)))) fun o=>aJ o (fun d=>ak (bI st.2.1 (IntKind.i64.wrap (a+d))) fun f=>ak (bI st.2.1 st.1) fun i=>ak (bI (st.2.1.set (st.1).toNat f) (IntKind.i64.wrap (a+d))) fun j=>some (.bk (((st.2.1.set (st.1).toNat f).set (IntKind.i64.wrap (a+d)).toNat i),b.2))) (fun _ _=>none) (fun r=>some (.rt r)):Option (Fl ((List Int)×Int) (Unit×(List Int)))) fun o=>aJ o (fun g=>some (.nx ((IntKind.i64.wrap (st.1+1)),g.1,g.2))) (fun _ _=>none) (fun r=>some (.rt r))) (some (.bk (st.1,st.2.1,st.2.2)))
def uv (u0:(List Int))(a:Int)(b:Int):Option (Unit×(List Int)):=
 cond (List.isEmpty u0) none (cond (decide (8<=(IntKind.i64.wrap (b - a)))) (ak (uq (IntKind.i64.wrap (b - a))) fun d=>ak (ob (IntKind.i64.wrap (b - a)) 4) fun c=>ak (aZ (uu a b d c) fu ((IntKind.i64.wrap ((IntKind.i64.wrap (a+(IntKind.i64.wrap (c*2)))) - 1)),u0,(IntKind.u64.wrap (IntKind.i64.wrap (b - a))))) fun o=>aJ o (fun e=>some ((),e.2.1)) (fun _ _=>none) (fun r=>some r)) (some ((),u0)))
theorem EG {ro:Addr->Option Value}(u0:(List Int)){b8:Value}{I:List (Nat×Obj)}(p:bA rI ro 3 b8 u0 I)(b:Int)(d:Int){r:(Unit×(List Int))}(h:uv u0 b d=some r):aF Tryz.prog 182 #[b8,.int .i64 b,.int .i64 d] ⟨ro,I⟩ (fun v G=>∃q,(v= .tuple #[]/\bA rI ro 3 b8 r.2 q)/\Le ⟨ro,q⟩ G):=by
 obtain ⟨d1,c2,rfl,b0⟩:=p.len;unfold uv at h;have h':=aD h;clear h;rcases h' with ⟨K,h⟩|⟨K,h⟩
 .cases h
 obtain ⟨c,Z,rfl,rfl,b1⟩:=p.fX K;refine aF.go Tryz.func182 rfl Tryz.ntmps182 Tryz.results182 aB fun main J hJ A ab hd hs=>?_;have ad:=hs 0;have k1:=hs 1;have ae:=hs 2;clear hs;apply af hJ;refine aO hJ fun b2=>?_;apply ah hJ;apply aa _;apply af hJ;refine aO hJ fun b3=>?_;apply ah hJ;apply aa _;have h':=aD h;clear h;rcases h' with ⟨z,h⟩|⟨z,h⟩
 .try simp only[Int.ofNat_lt] at z
  refine aL hJ au ?_;apply af hJ;refine aO hJ fun al=>?_;apply ah hJ;apply aa _;intro f f15;have ao:=aT f15;have L:=aU f15;have b4:=bT.cons L al;try simp only[aN] at L
  try apply aa _
  apply af hJ;refine aO hJ fun ca=>?_;apply ah hJ;have h':=av h;clear h;obtain ⟨k,ar,h⟩:=h';apply aa _;refine bl hJ _ (EF (IntKind.i64.wrap (d - b)) ar) (aQ ?_);try apply aa _
  apply af hJ;refine aO hJ fun cb=>?_;apply ah hJ;have h':=av h;clear h;obtain ⟨M,N,h⟩:=h';obtain ⟨cc,cd⟩:=s7 N;clear N;try apply aa _
  apply bf hJ;have h':=av h;clear h;obtain ⟨a0,n,a2⟩:=h';have h:=True.intro;refine bO hJ [9,10,26,27,28,29,30,31,32,33,34,35,36,37,38,39,40,41,42,43,44,45,46,47,48,49,50,51,52,53,54,55,56,57,58,59,60,61,62,63,64] (fun m a F'=>∃(g:Array Value) (i:Int) (s:(List Int)) (t:Int),aZ (uu b d k M) m (i,s,t)=some a0/\F'=⟨ro,(f,.cells #[.int .u64 t] 218)::[(c,Obj.cells g 3)]⟩/\bA rI ro 3 (.slice (some ⟨c,0,none⟩) u0.length c2) s [(c,Obj.cells g 3)]/\slot a 9= .int .i64 i) fu ?_ ?_
  .refine ⟨Z,(IntKind.i64.wrap ((IntKind.i64.wrap (b+(IntKind.i64.wrap (M*2)))) - 1)),u0,(IntKind.u64.wrap (IntKind.i64.wrap (d - b))),n,rfl,p,?_⟩;simp only[*,go_sem,-h]
  rintro B e F' j ⟨g,i,s,t,n,rfl,u,O⟩;have h:=True.intro;have P:sz e=65:=by rw[j.size];simp only[*,go_sem,-h]
  have Q:e.defers=[]:=by rw[j.defers];simp only[*,go_sem,-h]
  have R:slot e 0= .slice (some ⟨c,0,none⟩) u0.length c2:=by rw[j.aA 0 ay];simp only[*,go_sem,-h]
  have S:slot e 1= .int .i64 b:=by rw[j.aA 1 ay];simp only[*,go_sem,-h]
  have T:slot e 6= .int .i64 (IntKind.i64.wrap (d - b)):=by rw[j.aA 6 ay];simp only[*,go_sem,-h]
  have U:slot e 7= .pointer (some ⟨f,0,none⟩):=by rw[j.aA 7 ay];simp only[*,go_sem,-h]
  have V:slot e 8= .int .u64 k:=by rw[j.aA 8 ay];simp only[*,go_sem,-h]
  clear j ab hd ad k1 ae;obtain _|B:=B
  .exact absurd n (by simp only[aZ,reduceCtorEq,not_false_eq_true])
  have h':=av n;clear n h;obtain ⟨cf,h,C⟩:=h';unfold uu at h;try dsimp only at h
  apply af hJ;apply af hJ;refine aO hJ fun ck=>?_;apply ah hJ;apply aa _;have h':=aD h;clear h;rcases h' with ⟨D,h⟩|⟨D,h⟩
  ·(try simp only[Int.ofNat_lt] at D);refine aL hJ au ?_;apply aR hJ;have h':=av h;clear h;obtain ⟨a3,h,a4⟩:=h';refine fY hJ (fun a F'=>∃(w:Array Value) (x:(List Int)) (y:Int),some (Fl.bk (x,y):Fl ((List Int)×Int) (Unit×(List Int)))=some a3/\F'=⟨ro,(f,.cells #[.int .u64 y] 218)::[(c,Obj.cells w 3)]⟩/\bA rI ro 3 (.slice (some ⟨c,0,none⟩) u0.length c2) x [(c,Obj.cells w 3)]/\sz a=65/\a.defers=[]/\cq [9,10,26,27,28,29,30,31,32,33,34,35,36,37,38,39,40,41,42,43,44,45,46,47,48,49,50,51,52,53,54,55,56,57,58,59,60,61,62,63,64] a e/\slot a 0= .slice (some ⟨c,0,none⟩) u0.length c2/\slot a 1= .int .i64 b/\slot a 6= .int .i64 (IntKind.i64.wrap (d - b))/\slot a 7= .pointer (some ⟨f,0,none⟩)/\slot a 8= .int .u64 k/\slot a 9= .int .i64 i) ?_ ?_
   .apply bf hJ;apply af hJ;refine aO hJ fun cl=>?_;apply ah hJ;have h':=av h;clear h;obtain ⟨l,a5,h⟩:=h';apply aa _;refine dA hJ [] ([(c,Obj.cells g 3)]) (by first|rfl|simp only[bE]|(simp only[bE];rfl)) _ (EE t ao a5) (fun cv cy a6 q a7 c0=>?_);obtain ⟨rfl,rfl⟩:=a6;simp only[bE] at a7;subst q;refine ⟨⟨ro,(f,.cells #[.int .u64 l.2] 218)::[(c,Obj.cells g 3)]⟩,Le.refl _,?_⟩;apply aQ;(try apply aa _);have h':=av h;clear h;obtain ⟨a8,h,a9⟩:=h';refine fY hJ (fun a F'=>∃(o:Int),some (Fl.bk o:Fl Int (Unit×(List Int)))=some a8/\F'=⟨ro,(f,.cells #[.int .u64 l.2] 218)::[(c,Obj.cells g 3)]⟩/\sz a=65/\a.defers=[]/\cq [9,10,26,27,28,29,30,31,32,33,34,35,36,37,38,39,40,41,42,43,44,45,46,47,48,49,50,51,52,53,54,55,56,57,58,59,60,61,62,63,64] a e/\slot a 0= .slice (some ⟨c,0,none⟩) u0.length c2/\slot a 1= .int .i64 b/\slot a 6= .int .i64 (IntKind.i64.wrap (d - b))/\slot a 7= .pointer (some ⟨f,0,none⟩)/\slot a 8= .int .u64 k/\slot a 9= .int .i64 i/\slot a 10= .int .i64 o) ?_ ?_
    .apply af hJ;refine aO hJ fun da=>?_;apply ah hJ;apply aa _;have h':=aD h;clear h;rcases h' with ⟨E,h⟩|⟨E,h⟩
     ·(try simp only[Int.ofNat_lt] at E);refine aL hJ au ?_;refine aO hJ fun db=>?_;apply ah hJ;apply aa _;(try apply aa _);refine Qn.intro ⟨_,Le.sub (List.Sublist.refl _),(IntKind.i64.wrap ((IntKind.i64.wrap (fq l.1 (IntKind.u64.wrap (k - 1)))) - (IntKind.i64.wrap (d - b)))),h,rfl,?_⟩;simp only[*,go_sem,-h]
     (try simp only[Int.ofNat_lt] at E);refine aM hJ au ?_;apply aR hJ;(try apply aa _);refine Qn.intro ⟨_,Le.sub (List.Sublist.refl _),(IntKind.i64.wrap (fq l.1 (IntKind.u64.wrap (k - 1)))),h,rfl,?_⟩;simp only[*,go_sem,-h]
    rintro dd F' ⟨o,W,rfl,df,dk,dp,dq,ds,dt,du,dv,dC,dE⟩;have h':=Option.some.inj W;clear W;subst h';have h:=a9;dsimp only[aJ] at h;clear P Q R S T U V O;refine aO hJ fun dT=>?_;refine fC hJ mixed [17,18,19] (.pure 0 (.pure 1 (.pure 2 (.pure 3 (.pure 4 (.pure 5 (.pure 6 (.pure 7 (.pure 8 (.pure 9 (.pure 10 (.rd 11 (.pure 12 (.pure 13 (.pure 14 (.rd 15 (.pure 16 (.last 17 (.pure 18 (.last 19 .done)))))))))))))))))))) ⟨ro,[(f,.cells #[.int .u64 l.2] 218),(c,Obj.cells g 3)]⟩ au aS ?_;have h':=av h;clear h;obtain ⟨F,ba,h⟩:=h';obtain ⟨ea,eb,ec,ed⟩:=u.cP ba;have h':=av h;clear h;obtain ⟨H,bb,h⟩:=h';obtain ⟨bc,bd,eh,et⟩:=u.cP bb;have X:=u.fP bc bd F;have h':=av h;clear h;obtain ⟨ev,bj,h⟩:=h';obtain ⟨bm,bo,eQ,eS⟩:=X.cP bj;have br:=X.fP bm bo H;(try apply aa _);(try apply aa _);refine Qn.intro ⟨_,Le.sub (List.Sublist.refl _),(bR (bR g (i).toNat [.int .i64 F]) (IntKind.i64.wrap (b+o)).toNat [.int .i64 H]),((s.set (i).toNat F).set (IntKind.i64.wrap (b+o)).toNat H),l.2,h,rfl,br,?_⟩;simp only[*,go_sem,-h]
   rintro e0 F' ⟨w,x,y,Y,rfl,bs,e1,e2,e3,fa,fb,fc,fg,fh,fi⟩;have h':=Option.some.inj Y;clear Y;subst h';have h:=a4;dsimp only[aJ] at h;clear P Q R S T U V O;refine aO hJ fun fj=>?_;apply ah hJ;apply aa _;have h':=Option.some.inj h;clear h;subst h';have h:=True.intro;(try apply aa _);refine ⟨B,Nat.lt_succ_self _,_,Le.sub (List.Sublist.refl _),w,(IntKind.i64.wrap (i+1)),x,y,C,rfl,bs,?_⟩;simp only[*,go_sem,-h]
  try simp only[Int.ofNat_lt] at D
  refine aM hJ au ?_;apply bM;simp only[go_sem];have h':=Option.some.inj h;clear h;subst h';have h':=Option.some.inj C;clear C;subst h';have h:=a2;dsimp only[aJ] at h;have h':=Option.some.inj h;clear h;subst h';apply bw _;exact ⟨_,u,Le.sub (.cons _ (List.Sublist.refl _))⟩
 try simp only[Int.ofNat_lt] at z
 refine aM hJ au ?_;apply aR hJ;have h':=Option.some.inj h;clear h;subst h';apply bw _;exact ⟨_,p,Le.sub (List.Sublist.refl _)⟩
def uw (u0:(List Int))(a:Int)(e:Int)(b:Int)(c:Int)(d:Int)(st:Int):Option (Fl Int ((Int×Bool)×(List Int))):=
 cond (decide (st<=(IntKind.i64.wrap (e - 1)))) (ak (bI ((u0.set (a).toNat c).set (b).toNat d) st) fun f=>ak (bI ((u0.set (a).toNat c).set (b).toNat d) a) fun g=>ak (g5 f g) fun h=>cond (h) (some (.nx (IntKind.i64.wrap (st+1)))) (some (.bk st))) (some (.bk st))
def uy (u0:(List Int))(a:Int)(b:Int)(c:Int)(d:Int)(e:Int)(st:Int):Option (Fl Int ((Int×Bool)×(List Int))):=
 cond (decide (e<=st)) (ak (bI ((u0.set (a).toNat c).set (b).toNat d) st) fun f=>ak (bI ((u0.set (a).toNat c).set (b).toNat d) a) fun g=>ak (g5 f g) fun h=>cond (!h) (some (.nx (IntKind.i64.wrap (st - 1)))) (some (.bk st))) (some (.bk st))
def uz (b:Int)(c:Int)(a:(List Int))(st:Int):Option (Fl Int ((Int×Bool)×(List Int))):=
 cond (decide (st<=c)) (ak (bI a st) fun d=>ak (bI a b) fun e=>ak (g5 d e) fun f=>cond (f) (some (.nx (IntKind.i64.wrap (st+1)))) (some (.bk st))) (some (.bk st))
def uA (b:Int)(a:(List Int))(c:Int)(st:Int):Option (Fl Int ((Int×Bool)×(List Int))):=
 cond (decide (c<=st)) (ak (bI a st) fun d=>ak (bI a b) fun e=>ak (g5 d e) fun f=>cond (!f) (some (.nx (IntKind.i64.wrap (st - 1)))) (some (.bk st))) (some (.bk st))
def uB (c:Int)(st:(Int×Int×(List Int))):Option (Fl (Int×Int×(List Int)) ((Int×Bool)×(List Int))):=
 ak (ak (aZ (uz c st.2.1 st.2.2) fu st.1) fun o=>aJ o (fun e=>some (.bk e)) (fun _ _=>none) (fun r=>some (.rt r)):Option (Fl Int ((Int×Bool)×(List Int)))) fun o=>aJ o (fun a=>ak (ak (aZ (uA c st.2.2 a) fu st.2.1) fun o=>aJ o (fun f=>some (.bk f)) (fun _ _=>none) (fun r=>some (.rt r)):Option (Fl Int ((Int×Bool)×(List Int)))) fun o=>aJ o (fun b=>cond (decide (b<a)) (some (.bk (a,b,st.2.2))) (ak (bI st.2.2 b) fun d=>ak (bI st.2.2 a) fun g=>ak (bI (st.2.2.set (a).toNat d) b) fun h=>some (.nx ((IntKind.i64.wrap (a+1)),(IntKind.i64.wrap (b - 1)),((st.2.2.set (a).toNat d).set (b).toNat g))))) (fun _ _=>none) (fun r=>some (.rt r))) (fun _ _=>none) (fun r=>some (.rt r))
def uC (u0:(List Int))(a:Int)(h:Int)(b:Int):Option ((Int×Bool)×(List Int)):=
 cond (List.isEmpty u0) none (ak (bI u0 b) fun c=>ak (bI u0 a) fun d=>ak (bI (u0.set (a).toNat c) b) fun t=>ak (ak (aZ (uw u0 a h b c d) fu (IntKind.i64.wrap (a+1))) fun o=>aJ o (fun m=>some (.bk m)) (fun _ _=>none) (fun r=>some (.rt r)):Option (Fl Int ((Int×Bool)×(List Int)))) fun o=>aJ o (fun g=>ak (ak (aZ (uy u0 a b c d g) fu (IntKind.i64.wrap (h - 1))) fun o=>aJ o (fun n=>some (.bk n)) (fun _ _=>none) (fun r=>some (.rt r)):Option (Fl Int ((Int×Bool)×(List Int)))) fun o=>aJ o (fun e=>cond (decide (e<g)) (ak (bI ((u0.set (a).toNat c).set (b).toNat d) a) fun i=>ak (bI ((u0.set (a).toNat c).set (b).toNat d) e) fun p=>ak (bI (((u0.set (a).toNat c).set (b).toNat d).set (e).toNat i) a) fun u=>some ((e,true),((((u0.set (a).toNat c).set (b).toNat d).set (e).toNat i).set (a).toNat p))) (ak (bI ((u0.set (a).toNat c).set (b).toNat d) e) fun j=>ak (bI ((u0.set (a).toNat c).set (b).toNat d) g) fun q=>ak (bI (((u0.set (a).toNat c).set (b).toNat d).set (g).toNat j) e) fun v=>ak (ak (aZ (uB a) fu ((IntKind.i64.wrap (g+1)),(IntKind.i64.wrap (e - 1)),((((u0.set (a).toNat c).set (b).toNat d).set (g).toNat j).set (e).toNat q))) fun o=>aJ o (fun k=>some (.bk (k.2.1,k.2.2))) (fun _ _=>none) (fun r=>some (.rt r)):Option (Fl (Int×(List Int)) ((Int×Bool)×(List Int)))) fun o=>aJ o (fun f=>ak (bI f.2 a) fun l=>ak (bI f.2 f.1) fun s=>ak (bI (f.2.set (f.1).toNat l) a) fun w=>some ((f.1,false),((f.2.set (f.1).toNat l).set (a).toNat s))) (fun _ _=>none) (fun r=>some r))) (fun _ _=>none) (fun r=>some r)) (fun _ _=>none) (fun r=>some r))
theorem EH {ro:Addr->Option Value}(u0:(List Int)){b8:Value}{b3:List (Nat×Obj)}(M:bA rI ro 3 b8 u0 b3)(c:Int)(D:Int)(E:Int){r:((Int×Bool)×(List Int))}(h:uC u0 c D E=some r):aF Tryz.prog 188 #[b8,.int .i64 c,.int .i64 D,.int .i64 E] ⟨ro,b3⟩ (fun v G=>∃b4,(v= .tuple #[.int .i64 r.1.1,.bool r.1.2]/\bA rI ro 3 b8 r.2 b4)/\Le ⟨ro,b4⟩ G):=by
 obtain ⟨d1,c2,rfl,ky⟩:=M.len;unfold uC at h;have h':=aD h;clear h;rcases h' with ⟨ca,h⟩|⟨ca,h⟩
 .cases h
 obtain ⟨b,cb,rfl,rfl,k0⟩:=M.fX ca;refine aF.go Tryz.func188 rfl Tryz.ntmps188 Tryz.results188 aB fun main J hJ A cc hd hs=>?_;have cd:=hs 0;have k1:=hs 1;have cf:=hs 2;have ck:=hs 3;clear hs;apply af hJ;refine aO hJ fun k2=>?_;apply ah hJ;apply aa _;apply af hJ;refine aO hJ fun lb=>?_;refine fC hJ mixed [13,14,15] (.pure 0 (.pure 1 (.pure 2 (.pure 3 (.pure 4 (.pure 5 (.pure 6 (.rd 7 (.pure 8 (.pure 9 (.pure 10 (.rd 11 (.pure 12 (.last 13 (.pure 14 (.last 15 .done)))))))))))))))) ⟨ro,[(b,Obj.cells cb 3)]⟩ au aS ?_;have h':=av h;clear h;obtain ⟨N,g3,h⟩:=h';obtain ⟨lh,lj,lk,ll⟩:=M.cP g3;have h':=av h;clear h;obtain ⟨O,g4,h⟩:=h';obtain ⟨g7,ha,ln,lr⟩:=M.cP g4;have cl:=M.fP g7 ha N;have h':=av h;clear h;obtain ⟨lv,hc,h⟩:=h';obtain ⟨hf,hg,lx,ly⟩:=cl.cP hc;have e:=cl.fP hf hg O;try apply aa _
 apply af hJ;obtain ⟨f,ad⟩:∃o,o=(bR (bR cb (c).toNat [.int .i64 N]) (E).toNat [.int .i64 O]):=⟨_,rfl⟩
 refine cG (F:=⟨ro,[(b,Obj.cells f 3)]⟩) hJ (by rw[ad];exact Le.refl _) ?_;rw[<-ad] at e;clear ad;refine aO hJ fun lL=>?_;apply ah hJ;apply aa _;have h':=av h;clear h;obtain ⟨hh,h,hi⟩:=h';refine fY hJ (fun a F'=>∃(i:Int),some (Fl.bk i:Fl Int ((Int×Bool)×(List Int)))=some hh/\F'=⟨ro,[(b,Obj.cells f 3)]⟩/\sz a=168/\a.defers=[]/\slot a 0= .slice (some ⟨b,0,none⟩) u0.length c2/\slot a 1= .int .i64 c/\slot a 8= .int .i64 0/\slot a 9= .bool false/\slot a 10= .int .i64 i/\slot a 11= .int .i64 (IntKind.i64.wrap (D - 1))) ?_ ?_
 .apply bf hJ;have h':=av h;clear h;obtain ⟨hj,P,cv⟩:=h';have h:=True.intro;refine bO hJ [10,30,31,32,33,34,35,36,37,38,39,40,41,42,43,44,45] (fun m a F'=>∃(H:Int),aZ (uw u0 c D E N O) m H=some hj/\F'=⟨ro,[(b,Obj.cells f 3)]⟩/\slot a 10= .int .i64 H) fu ?_ ?_
  .refine ⟨(IntKind.i64.wrap (c+1)),P,rfl,?_⟩;simp only[*,go_sem,-h]
  rintro m2 u F' n ⟨H,P,rfl,l1⟩;have h:=True.intro;have l2:sz u=168:=by rw[n.size];simp only[*,go_sem,-h]
  have l3:u.defers=[]:=by rw[n.defers];simp only[*,go_sem,-h]
  have l4:slot u 0= .slice (some ⟨b,0,none⟩) u0.length c2:=by rw[n.aA 0 ay];simp only[*,go_sem,-h]
  have ma:slot u 1= .int .i64 c:=by rw[n.aA 1 ay];simp only[*,go_sem,-h]
  have mf:slot u 8= .int .i64 0:=by rw[n.aA 8 ay];simp only[*,go_sem,-h]
  have mi:slot u 9= .bool false:=by rw[n.aA 9 ay];simp only[*,go_sem,-h]
  have ml:slot u 11= .int .i64 (IntKind.i64.wrap (D - 1)):=by rw[n.aA 11 ay];simp only[*,go_sem,-h]
  clear n cc hd cd k1 cf ck;obtain _|m2:=m2
  .exact absurd P (by simp only[aZ,reduceCtorEq,not_false_eq_true])
  have h':=av P;clear P h;obtain ⟨mn,h,Q⟩:=h';unfold uw at h;try dsimp only at h
  apply af hJ;apply af hJ;refine aO hJ fun mr=>?_;refine cB hJ mixed 14 ⟨ro,[(b,Obj.cells f 3)]⟩ au aS ?_;have h':=aD h;clear h;rcases h' with ⟨ae,h⟩|⟨ae,h⟩
  ·(try simp only[Int.ofNat_lt] at ae);have h':=av h;clear h;obtain ⟨hk,hl,h⟩:=h';obtain ⟨mx,my,m1,na⟩:=e.cP hl;have h':=av h;clear h;obtain ⟨hn,ho,h⟩:=h';obtain ⟨nb,nc,nd,nf⟩:=e.cP ho;have h':=av h;clear h;obtain ⟨nh,hp,h⟩:=h';(try apply aa _);refine ⟨_,dI hJ fun F hF=>iS hk hn hp,ef ?_⟩;(try apply aa _);have h':=aD h;clear h;rcases h' with ⟨al,h⟩|⟨al,h⟩
   ·(try simp only[Int.ofNat_lt] at al);refine aL hJ au ?_;apply aR hJ;apply bf hJ;refine aO hJ fun nm=>?_;apply ah hJ;apply aa _;have h':=Option.some.inj h;clear h;subst h';have h:=True.intro;(try apply aa _);refine ⟨m2,Nat.lt_succ_self _,_,Le.sub (List.Sublist.refl _),(IntKind.i64.wrap (H+1)),Q,rfl,?_⟩;simp only[*,go_sem,-h]
   (try simp only[Int.ofNat_lt] at al);refine aM hJ au ?_;apply bM;simp only[go_sem];have h':=Option.some.inj h;clear h;subst h';have h':=Option.some.inj Q;clear Q;subst h';have h:=cv;dsimp only[aJ] at h;(try apply aa _);refine Qn.intro ⟨_,Le.sub (List.Sublist.refl _),H,h,rfl,?_⟩;simp only[*,go_sem,-h]
  try simp only[Int.ofNat_lt] at ae
  try apply aa _
  refine aM hJ au ?_;apply bM;simp only[go_sem];have h':=Option.some.inj h;clear h;subst h';have h':=Option.some.inj Q;clear Q;subst h';have h:=cv;dsimp only[aJ] at h;try apply aa _
  refine Qn.intro ⟨_,Le.sub (List.Sublist.refl _),H,h,rfl,?_⟩;simp only[*,go_sem,-h]
 rintro nn F' ⟨i,cy,rfl,c0,da,db,dd,df,dk,dp,dq⟩;have h':=Option.some.inj cy;clear cy;subst h';have h:=hi;dsimp only[aJ] at h;clear cc hd cd k1 cf ck;have h':=av h;clear h;obtain ⟨hq,h,hr⟩:=h';refine fY hJ (fun a F'=>∃(w:Int),some (Fl.bk w:Fl Int ((Int×Bool)×(List Int)))=some hq/\F'=⟨ro,[(b,Obj.cells f 3)]⟩/\sz a=168/\a.defers=[]/\slot a 0= .slice (some ⟨b,0,none⟩) u0.length c2/\slot a 1= .int .i64 c/\slot a 8= .int .i64 0/\slot a 9= .bool false/\slot a 10= .int .i64 i/\slot a 11= .int .i64 w) ?_ ?_
 .apply bf hJ;have h':=av h;clear h;obtain ⟨ht,R,ds⟩:=h';have h:=True.intro;refine bO hJ [11,46,47,48,49,50,51,52,53,54,55,56,57,58,59,60,61,62] (fun m a F'=>∃(I:Int),aZ (uy u0 c E N O i) m I=some ht/\F'=⟨ro,[(b,Obj.cells f 3)]⟩/\slot a 11= .int .i64 I) fu ?_ ?_
  .refine ⟨(IntKind.i64.wrap (D - 1)),R,rfl,?_⟩;simp only[*,go_sem,-h]
  rintro ao x F' p ⟨I,R,rfl,np⟩;have h:=True.intro;have ns:sz x=168:=by rw[p.size];simp only[*,go_sem,-h]
  have nx:x.defers=[]:=by rw[p.defers];simp only[*,go_sem,-h]
  have nz:slot x 0= .slice (some ⟨b,0,none⟩) u0.length c2:=by rw[p.aA 0 ay];simp only[*,go_sem,-h]
  have nA:slot x 1= .int .i64 c:=by rw[p.aA 1 ay];simp only[*,go_sem,-h]
  have nH:slot x 8= .int .i64 0:=by rw[p.aA 8 ay];simp only[*,go_sem,-h]
  have nI:slot x 9= .bool false:=by rw[p.aA 9 ay];simp only[*,go_sem,-h]
  have nK:slot x 10= .int .i64 i:=by rw[p.aA 10 ay];simp only[*,go_sem,-h]
  clear p c0 da db dd df dk dp dq;obtain _|ao:=ao
  .exact absurd R (by simp only[aZ,reduceCtorEq,not_false_eq_true])
  have h':=av R;clear R h;obtain ⟨nQ,h,S⟩:=h';unfold uy at h;try dsimp only at h
  apply af hJ;apply af hJ;refine aO hJ fun nR=>?_;refine cB hJ mixed 15 ⟨ro,[(b,Obj.cells f 3)]⟩ au aS ?_;have h':=aD h;clear h;rcases h' with ⟨ar,h⟩|⟨ar,h⟩
  ·(try simp only[Int.ofNat_lt] at ar);have h':=av h;clear h;obtain ⟨hv,hx,h⟩:=h';obtain ⟨nT,nV,nX,nY⟩:=e.cP hx;have h':=av h;clear h;obtain ⟨hy,hz,h⟩:=h';obtain ⟨n0,n1,n2,n3⟩:=e.cP hz;have h':=av h;clear h;obtain ⟨oc,hA,h⟩:=h';(try apply aa _);refine ⟨_,dI hJ fun F hF=>iS hv hy hA,ef ?_⟩;(try apply aa _);have h':=aD h;clear h;rcases h' with ⟨a0,h⟩|⟨a0,h⟩
   ·(try simp only[Int.ofNat_lt] at a0);refine aL hJ au ?_;apply aR hJ;apply bf hJ;refine aO hJ fun oi=>?_;apply ah hJ;apply aa _;have h':=Option.some.inj h;clear h;subst h';have h:=True.intro;(try apply aa _);refine ⟨ao,Nat.lt_succ_self _,_,Le.sub (List.Sublist.refl _),(IntKind.i64.wrap (I - 1)),S,rfl,?_⟩;simp only[*,go_sem,-h]
   (try simp only[Int.ofNat_lt] at a0);refine aM hJ au ?_;apply bM;simp only[go_sem];have h':=Option.some.inj h;clear h;subst h';have h':=Option.some.inj S;clear S;subst h';have h:=ds;dsimp only[aJ] at h;(try apply aa _);refine Qn.intro ⟨_,Le.sub (List.Sublist.refl _),I,h,rfl,?_⟩;simp only[*,go_sem,-h]
  try simp only[Int.ofNat_lt] at ar
  try apply aa _
  refine aM hJ au ?_;apply bM;simp only[go_sem];have h':=Option.some.inj h;clear h;subst h';have h':=Option.some.inj S;clear S;subst h';have h:=ds;dsimp only[aJ] at h;try apply aa _
  refine Qn.intro ⟨_,Le.sub (List.Sublist.refl _),I,h,rfl,?_⟩;simp only[*,go_sem,-h]
 rintro oj F' ⟨w,dt,rfl,du,dv,dC,dE,dT,ea,eb,ec⟩;have h':=Option.some.inj dt;clear dt;subst h';have h:=hr;dsimp only[aJ] at h;clear c0 da db dd df dk dp dq;apply af hJ;apply af hJ;refine aO hJ fun ox=>?_;apply ah hJ;apply aa _;have h':=aD h;clear h;rcases h' with ⟨a2,h⟩|⟨a2,h⟩
 .try simp only[Int.ofNat_lt] at a2
  refine aL hJ au ?_;apply af hJ;refine aO hJ fun oy=>?_;refine fC hJ mixed [13,14,15] (.pure 0 (.pure 1 (.pure 2 (.pure 3 (.pure 4 (.pure 5 (.pure 6 (.rd 7 (.pure 8 (.pure 9 (.pure 10 (.rd 11 (.pure 12 (.last 13 (.pure 14 (.last 15 .done)))))))))))))))) ⟨ro,[(b,Obj.cells f 3)]⟩ au aS ?_;have h':=av h;clear h;obtain ⟨ed,hB,h⟩:=h';obtain ⟨o0,o1,o2,pa⟩:=e.cP hB;have h':=av h;clear h;obtain ⟨eh,hD,h⟩:=h';obtain ⟨hE,hG,pb,pd⟩:=e.cP hD;have et:=e.fP hE hG ed;have h':=av h;clear h;obtain ⟨pf,hH,h⟩:=h';obtain ⟨hI,hK,pj,pk⟩:=et.cP hH;have ev:=et.fP hI hK eh;try apply aa _
  apply af hJ;obtain ⟨hL,a3⟩:∃o,o=(bR (bR f (w).toNat [.int .i64 ed]) (c).toNat [.int .i64 eh]):=⟨_,rfl⟩
  refine cG (F:=⟨ro,[(b,Obj.cells hL 3)]⟩) hJ (by rw[a3];exact Le.refl _) ?_;rw[<-a3] at ev;clear a3;refine aO hJ fun po=>?_;apply ah hJ;apply aa _;have h':=Option.some.inj h;clear h;subst h';refine eu ?_;exact ⟨_,ev,Le.sub (List.Sublist.refl _)⟩
 try simp only[Int.ofNat_lt] at a2
 refine aM hJ au ?_;apply aR hJ;apply af hJ;refine aO hJ fun pr=>?_;refine fC hJ mixed [13,14,15] (.pure 0 (.pure 1 (.pure 2 (.pure 3 (.pure 4 (.pure 5 (.pure 6 (.rd 7 (.pure 8 (.pure 9 (.pure 10 (.rd 11 (.pure 12 (.last 13 (.pure 14 (.last 15 .done)))))))))))))))) ⟨ro,[(b,Obj.cells f 3)]⟩ au aS ?_;have h':=av h;clear h;obtain ⟨a4,hM,h⟩:=h';obtain ⟨ps,pt,pv,pw⟩:=e.cP hM;have h':=av h;clear h;obtain ⟨a5,hN,h⟩:=h';obtain ⟨hP,hQ,px,py⟩:=e.cP hN;have eQ:=e.fP hP hQ a4;have h':=av h;clear h;obtain ⟨pA,hR,h⟩:=h';obtain ⟨hS,hT,pB,pC⟩:=eQ.cP hR;have eS:=eQ.fP hS hT a5;try apply aa _
 apply af hJ;obtain ⟨e0,a6⟩:∃o,o=(bR (bR f (i).toNat [.int .i64 a4]) (w).toNat [.int .i64 a5]):=⟨_,rfl⟩
 refine cG (F:=⟨ro,[(b,Obj.cells e0 3)]⟩) hJ (by rw[a6];exact Le.refl _) ?_;rw[<-a6] at eS;clear a6;refine aO hJ fun pD=>?_;apply ah hJ;apply aa _;apply af hJ;refine aO hJ fun pT=>?_;apply ah hJ;apply aa _;have h':=av h;clear h;obtain ⟨hV,h,hX⟩:=h';refine fY hJ (fun a F'=>∃(T:Array Value) (Z:Int) (a7:(List Int)),some (Fl.bk (Z,a7):Fl (Int×(List Int)) ((Int×Bool)×(List Int)))=some hV/\F'=⟨ro,[(b,Obj.cells T 3)]⟩/\bA rI ro 3 (.slice (some ⟨b,0,none⟩) u0.length c2) a7 [(b,Obj.cells T 3)]/\sz a=168/\a.defers=[]/\slot a 0= .slice (some ⟨b,0,none⟩) u0.length c2/\slot a 1= .int .i64 c/\slot a 8= .int .i64 0/\slot a 9= .bool false/\slot a 11= .int .i64 Z) ?_ ?_
 .apply bf hJ;have h':=av h;clear h;obtain ⟨hY,U,hZ⟩:=h';have h:=True.intro;refine bO hJ [10,11,99,100,101,102,103,104,105,106,107,108,109,110,111,112,113,114,115,116,117,118,119,120,121,122,123,124,125,126,127,128,129,130,131,132,133,134,135,136,137,138,139,140,141,142,143,144,145,146,147,148,149,150,151,152] (fun m a F'=>∃(d:Array Value) (ab:Int) (y:Int) (z:(List Int)),aZ (uB c) m (ab,y,z)=some hY/\F'=⟨ro,[(b,Obj.cells d 3)]⟩/\bA rI ro 3 (.slice (some ⟨b,0,none⟩) u0.length c2) z [(b,Obj.cells d 3)]/\slot a 10= .int .i64 ab/\slot a 11= .int .i64 y) fu ?_ ?_
  .refine ⟨e0,(IntKind.i64.wrap (i+1)),(IntKind.i64.wrap (w - 1)),((((u0.set (c).toNat N).set (E).toNat O).set (i).toNat a4).set (w).toNat a5),U,rfl,eS,?_⟩;simp only[*,go_sem,-h]
  rintro a8 g F' B ⟨d,ab,y,z,U,rfl,q,e1,e2⟩;have h:=True.intro;have e3:sz g=168:=by rw[B.size];simp only[*,go_sem,-h]
  have fa:g.defers=[]:=by rw[B.defers];simp only[*,go_sem,-h]
  have fb:slot g 0= .slice (some ⟨b,0,none⟩) u0.length c2:=by rw[B.aA 0 ay];simp only[*,go_sem,-h]
  have fc:slot g 1= .int .i64 c:=by rw[B.aA 1 ay];simp only[*,go_sem,-h]
  have fg:slot g 8= .int .i64 0:=by rw[B.aA 8 ay];simp only[*,go_sem,-h]
  have fh:slot g 9= .bool false:=by rw[B.aA 9 ay];simp only[*,go_sem,-h]
  clear B du dv dC dE dT ea eb ec;obtain _|a8:=a8
  .exact absurd U (by simp only[aZ,reduceCtorEq,not_false_eq_true])
  have h':=av U;clear U h;obtain ⟨p0,h,a9⟩:=h';unfold uB at h;try dsimp only at h
  apply bf hJ;have h':=av h;clear h;obtain ⟨h0,h,h1⟩:=h';refine fY hJ (fun a F'=>∃(j:Int),some (Fl.bk j:Fl Int ((Int×Bool)×(List Int)))=some h0/\F'=⟨ro,[(b,Obj.cells d 3)]⟩/\sz a=168/\a.defers=[]/\cq [10,11,99,100,101,102,103,104,105,106,107,108,109,110,111,112,113,114,115,116,117,118,119,120,121,122,123,124,125,126,127,128,129,130,131,132,133,134,135,136,137,138,139,140,141,142,143,144,145,146,147,148,149,150,151,152] a g/\slot a 0= .slice (some ⟨b,0,none⟩) u0.length c2/\slot a 1= .int .i64 c/\slot a 8= .int .i64 0/\slot a 9= .bool false/\slot a 10= .int .i64 j/\slot a 11= .int .i64 y) ?_ ?_
  .apply bf hJ;have h':=av h;clear h;obtain ⟨h2,V,fi⟩:=h';have h:=True.intro;refine bO hJ [10,99,100,101,102,103,104,105,106,107,108,109,110,111,112,113,114] (fun m a F'=>∃(K:Int),aZ (uz c y z) m K=some h2/\F'=⟨ro,[(b,Obj.cells d 3)]⟩/\slot a 10= .int .i64 K) fu ?_ ?_
   .refine ⟨ab,V,rfl,?_⟩;simp only[*,go_sem,-h]
   rintro ba s F' k ⟨K,V,rfl,p1⟩;have h:=True.intro;have qe:sz s=168:=by rw[k.size];simp only[*,go_sem,-h]
   have qk:s.defers=[]:=by rw[k.defers];simp only[*,go_sem,-h]
   have q0:slot s 0= .slice (some ⟨b,0,none⟩) u0.length c2:=by rw[k.aA 0 ay];simp only[*,go_sem,-h]
   have q1:slot s 1= .int .i64 c:=by rw[k.aA 1 ay];simp only[*,go_sem,-h]
   have ra:slot s 8= .int .i64 0:=by rw[k.aA 8 ay];simp only[*,go_sem,-h]
   have rb:slot s 9= .bool false:=by rw[k.aA 9 ay];simp only[*,go_sem,-h]
   have re:slot s 11= .int .i64 y:=by rw[k.aA 11 ay];simp only[*,go_sem,-h]
   have rh:cq [10,11,99,100,101,102,103,104,105,106,107,108,109,110,111,112,113,114,115,116,117,118,119,120,121,122,123,124,125,126,127,128,129,130,131,132,133,134,135,136,137,138,139,140,141,142,143,144,145,146,147,148,149,150,151,152] s g:=(k.eg ay).trans au;clear k e3 fa fb fc fg fh e1 e2;obtain _|ba:=ba
   .exact absurd V (by simp only[aZ,reduceCtorEq,not_false_eq_true])
   have h':=av V;clear V h;obtain ⟨rk,h,W⟩:=h';unfold uz at h;(try dsimp only at h);apply af hJ;apply af hJ;refine aO hJ fun rl=>?_;refine cB hJ mixed 14 ⟨ro,[(b,Obj.cells d 3)]⟩ au aS ?_;have h':=aD h;clear h;rcases h' with ⟨bb,h⟩|⟨bb,h⟩
   ·(try simp only[Int.ofNat_lt] at bb);have h':=av h;clear h;obtain ⟨h3,h4,h⟩:=h';obtain ⟨rn,rp,rr,rv⟩:=q.cP h4;have h':=av h;clear h;obtain ⟨h5,h6,h⟩:=h';obtain ⟨rL,sa,sb,sc⟩:=q.cP h6;have h':=av h;clear h;obtain ⟨sf,h7,h⟩:=h';(try apply aa _);refine ⟨_,dI hJ fun F hF=>iS h3 h5 h7,ef ?_⟩;(try apply aa _);have h':=aD h;clear h;rcases h' with ⟨bc,h⟩|⟨bc,h⟩
    ·(try simp only[Int.ofNat_lt] at bc);refine aL hJ au ?_;apply aR hJ;apply bf hJ;refine aO hJ fun sg=>?_;apply ah hJ;apply aa _;have h':=Option.some.inj h;clear h;subst h';have h:=True.intro;(try apply aa _);refine ⟨ba,Nat.lt_succ_self _,_,Le.sub (List.Sublist.refl _),(IntKind.i64.wrap (K+1)),W,rfl,?_⟩;simp only[*,go_sem,-h]
    (try simp only[Int.ofNat_lt] at bc);refine aM hJ au ?_;apply bM;simp only[go_sem];have h':=Option.some.inj h;clear h;subst h';have h':=Option.some.inj W;clear W;subst h';have h:=fi;dsimp only[aJ] at h;(try apply aa _);refine Qn.intro ⟨_,Le.sub (List.Sublist.refl _),K,h,rfl,?_⟩;simp only[*,go_sem,-h]
   (try simp only[Int.ofNat_lt] at bb);(try apply aa _);refine aM hJ au ?_;apply bM;simp only[go_sem];have h':=Option.some.inj h;clear h;subst h';have h':=Option.some.inj W;clear W;subst h';have h:=fi;dsimp only[aJ] at h;(try apply aa _);refine Qn.intro ⟨_,Le.sub (List.Sublist.refl _),K,h,rfl,?_⟩;simp only[*,go_sem,-h]
  rintro sh F' ⟨j,fj,rfl,fl,fp,sl,fr,fs,ft,fv,fw,fx⟩;have h':=Option.some.inj fj;clear fj;subst h';have h:=h1;dsimp only[aJ] at h;clear e3 fa fb fc fg fh e1 e2;have h':=av h;clear h;obtain ⟨h8,h,h9⟩:=h';refine fY hJ (fun a F'=>∃(C:Int),some (Fl.bk C:Fl Int ((Int×Bool)×(List Int)))=some h8/\F'=⟨ro,[(b,Obj.cells d 3)]⟩/\sz a=168/\a.defers=[]/\cq [10,11,99,100,101,102,103,104,105,106,107,108,109,110,111,112,113,114,115,116,117,118,119,120,121,122,123,124,125,126,127,128,129,130,131,132,133,134,135,136,137,138,139,140,141,142,143,144,145,146,147,148,149,150,151,152] a g/\slot a 0= .slice (some ⟨b,0,none⟩) u0.length c2/\slot a 1= .int .i64 c/\slot a 8= .int .i64 0/\slot a 9= .bool false/\slot a 10= .int .i64 j/\slot a 11= .int .i64 C) ?_ ?_
  .apply bf hJ;have h':=av h;clear h;obtain ⟨ib,X,fz⟩:=h';have h:=True.intro;refine bO hJ [11,115,116,117,118,119,120,121,122,123,124,125,126,127,128,129,130,131] (fun m a F'=>∃(L:Int),aZ (uA c z j) m L=some ib/\F'=⟨ro,[(b,Obj.cells d 3)]⟩/\slot a 11= .int .i64 L) fu ?_ ?_
   .refine ⟨y,X,rfl,?_⟩;simp only[*,go_sem,-h]
   rintro bd t F' l ⟨L,X,rfl,sm⟩;have h:=True.intro;have sn:sz t=168:=by rw[l.size];simp only[*,go_sem,-h]
   have ss:t.defers=[]:=by rw[l.defers];simp only[*,go_sem,-h]
   have sy:slot t 0= .slice (some ⟨b,0,none⟩) u0.length c2:=by rw[l.aA 0 ay];simp only[*,go_sem,-h]
   have sT:slot t 1= .int .i64 c:=by rw[l.aA 1 ay];simp only[*,go_sem,-h]
   have ta:slot t 8= .int .i64 0:=by rw[l.aA 8 ay];simp only[*,go_sem,-h]
   have tb:slot t 9= .bool false:=by rw[l.aA 9 ay];simp only[*,go_sem,-h]
   have te:slot t 10= .int .i64 j:=by rw[l.aA 10 ay];simp only[*,go_sem,-h]
   have ti:cq [10,11,99,100,101,102,103,104,105,106,107,108,109,110,111,112,113,114,115,116,117,118,119,120,121,122,123,124,125,126,127,128,129,130,131,132,133,134,135,136,137,138,139,140,141,142,143,144,145,146,147,148,149,150,151,152] t g:=(l.eg ay).trans au;clear l fl fp fr fs ft fv fw fx;obtain _|bd:=bd
   .exact absurd X (by simp only[aZ,reduceCtorEq,not_false_eq_true])
   have h':=av X;clear X h;obtain ⟨tk,h,Y⟩:=h';unfold uA at h;(try dsimp only at h);apply af hJ;apply af hJ;refine aO hJ fun tl=>?_;refine cB hJ mixed 15 ⟨ro,[(b,Obj.cells d 3)]⟩ au aS ?_;have h':=aD h;clear h;rcases h' with ⟨bj,h⟩|⟨bj,h⟩
   ·(try simp only[Int.ofNat_lt] at bj);have h':=av h;clear h;obtain ⟨ih,ik,h⟩:=h';obtain ⟨tm,tp,ts,tt⟩:=q.cP ik;have h':=av h;clear h;obtain ⟨il,im,h⟩:=h';obtain ⟨tx,tz,tI,tM⟩:=q.cP im;have h':=av h;clear h;obtain ⟨tW,iv,h⟩:=h';(try apply aa _);refine ⟨_,dI hJ fun F hF=>iS ih il iv,ef ?_⟩;(try apply aa _);have h':=aD h;clear h;rcases h' with ⟨bm,h⟩|⟨bm,h⟩
    ·(try simp only[Int.ofNat_lt] at bm);refine aL hJ au ?_;apply aR hJ;apply bf hJ;refine aO hJ fun ub=>?_;apply ah hJ;apply aa _;have h':=Option.some.inj h;clear h;subst h';have h:=True.intro;(try apply aa _);refine ⟨bd,Nat.lt_succ_self _,_,Le.sub (List.Sublist.refl _),(IntKind.i64.wrap (L - 1)),Y,rfl,?_⟩;simp only[*,go_sem,-h]
    (try simp only[Int.ofNat_lt] at bm);refine aM hJ au ?_;apply bM;simp only[go_sem];have h':=Option.some.inj h;clear h;subst h';have h':=Option.some.inj Y;clear Y;subst h';have h:=fz;dsimp only[aJ] at h;(try apply aa _);refine Qn.intro ⟨_,Le.sub (List.Sublist.refl _),L,h,rfl,?_⟩;simp only[*,go_sem,-h]
   (try simp only[Int.ofNat_lt] at bj);(try apply aa _);refine aM hJ au ?_;apply bM;simp only[go_sem];have h':=Option.some.inj h;clear h;subst h';have h':=Option.some.inj Y;clear Y;subst h';have h:=fz;dsimp only[aJ] at h;(try apply aa _);refine Qn.intro ⟨_,Le.sub (List.Sublist.refl _),L,h,rfl,?_⟩;simp only[*,go_sem,-h]
  rintro ui F' ⟨C,gg,rfl,u1,u2,u3,u4,va,vd,vf,vs,vx⟩;have h':=Option.some.inj gg;clear gg;subst h';have h:=h9;dsimp only[aJ] at h;clear fl fp fr fs ft fv fw fx;apply af hJ;apply af hJ;refine aO hJ fun vy=>?_;apply ah hJ;apply aa _;have h':=aD h;clear h;rcases h' with ⟨bo,h⟩|⟨bo,h⟩
  ·(try simp only[Int.ofNat_lt] at bo);refine aL hJ au ?_;apply bM;simp only[go_sem];have h':=Option.some.inj h;clear h;subst h';have h':=Option.some.inj a9;clear a9;subst h';have h:=hZ;dsimp only[aJ] at h;(try apply aa _);refine Qn.intro ⟨_,Le.sub (List.Sublist.refl _),d,C,z,h,rfl,q,?_⟩;simp only[*,go_sem,-h]
  try simp only[Int.ofNat_lt] at bo
  refine aM hJ au ?_;apply aR hJ;apply af hJ;refine aO hJ fun vP=>?_;refine fC hJ mixed [13,14,15] (.pure 0 (.pure 1 (.pure 2 (.pure 3 (.pure 4 (.pure 5 (.pure 6 (.rd 7 (.pure 8 (.pure 9 (.pure 10 (.rd 11 (.pure 12 (.last 13 (.pure 14 (.last 15 .done)))))))))))))))) ⟨ro,[(b,Obj.cells d 3)]⟩ au aS ?_;have h':=av h;clear h;obtain ⟨br,ix,h⟩:=h';obtain ⟨v3,wa,wb,wc⟩:=q.cP ix;have h':=av h;clear h;obtain ⟨bs,j1,h⟩:=h';obtain ⟨j2,kh,wi,wv⟩:=q.cP j1;have gj:=q.fP j2 kh br;have h':=av h;clear h;obtain ⟨wx,kj,h⟩:=h';obtain ⟨kk,kl,wy,w0⟩:=gj.cP kj;have gl:=gj.fP kk kl bs;try apply aa _
  apply af hJ;obtain ⟨gn,b0⟩:∃o,o=(bR (bR d (j).toNat [.int .i64 br]) (C).toNat [.int .i64 bs]):=⟨_,rfl⟩
  refine cG (F:=⟨ro,[(b,Obj.cells gn 3)]⟩) hJ (by rw[b0];exact Le.refl _) ?_;rw[<-b0] at gl;clear b0;refine aO hJ fun xa=>?_;apply ah hJ;apply aa _;refine aO hJ fun xc=>?_;apply ah hJ;apply aa _;have h':=Option.some.inj h;clear h;subst h';have h:=True.intro;try apply aa _
  refine ⟨a8,Nat.lt_succ_self _,_,Le.sub (List.Sublist.refl _),gn,(IntKind.i64.wrap (j+1)),(IntKind.i64.wrap (C - 1)),((z.set (j).toNat br).set (C).toNat bs),a9,rfl,gl,?_⟩;simp only[*,go_sem,-h]
 rintro xf F' ⟨T,Z,a7,gp,rfl,b1,xi,xn,xr,xt,xv,x0,x1⟩;have h':=Option.some.inj gp;clear gp;subst h';have h:=hX;dsimp only[aJ] at h;clear du dv dC dE dT ea eb ec;apply af hJ;refine aO hJ fun x2=>?_;refine fC hJ mixed [13,14,15] (.pure 0 (.pure 1 (.pure 2 (.pure 3 (.pure 4 (.pure 5 (.pure 6 (.rd 7 (.pure 8 (.pure 9 (.pure 10 (.rd 11 (.pure 12 (.last 13 (.pure 14 (.last 15 .done)))))))))))))))) ⟨ro,[(b,Obj.cells T 3)]⟩ au aS ?_;have h':=av h;clear h;obtain ⟨gy,km,h⟩:=h';obtain ⟨x3,yi,yk,yn⟩:=b1.cP km;have h':=av h;clear h;obtain ⟨g0,kn,h⟩:=h';obtain ⟨kp,kq,yr,ys⟩:=b1.cP kn;have g1:=b1.fP kp kq gy;have h':=av h;clear h;obtain ⟨yv,ks,h⟩:=h';obtain ⟨kt,kv,y0,y1⟩:=g1.cP ks;have g2:=g1.fP kt kv g0;try apply aa _
 apply af hJ;obtain ⟨kx,b2⟩:∃o,o=(bR (bR T (Z).toNat [.int .i64 gy]) (c).toNat [.int .i64 g0]):=⟨_,rfl⟩
 refine cG (F:=⟨ro,[(b,Obj.cells kx 3)]⟩) hJ (by rw[b2];exact Le.refl _) ?_;rw[<-b2] at g2;clear b2;refine aO hJ fun zc=>?_;apply ah hJ;apply aa _;have h':=Option.some.inj h;clear h;subst h';refine eu ?_;exact ⟨_,g2,Le.sub (List.Sublist.refl _)⟩
def uD (b:Int)(c:Int)(a:(List Int))(st:Int):Option (Fl Int (Int×(List Int))):=
 cond (decide (st<=c)) (ak (bI a b) fun d=>ak (bI a st) fun e=>ak (g5 d e) fun f=>cond (!f) (some (.nx (IntKind.i64.wrap (st+1)))) (some (.bk st))) (some (.bk st))
def uE (b:Int)(a:(List Int))(c:Int)(st:Int):Option (Fl Int (Int×(List Int))):=
 cond (decide (c<=st)) (ak (bI a b) fun d=>ak (bI a st) fun e=>ak (g5 d e) fun f=>cond (f) (some (.nx (IntKind.i64.wrap (st - 1)))) (some (.bk st))) (some (.bk st))
def uF (c:Int)(st:(Int×Int×(List Int))):Option (Fl (Int×Int×(List Int)) (Int×(List Int))):=
 ak (ak (aZ (uD c st.2.1 st.2.2) fu st.1) fun o=>aJ o (fun e=>some (.bk e)) (fun _ _=>none) (fun r=>some (.rt r)):Option (Fl Int (Int×(List Int)))) fun o=>aJ o (fun a=>ak (ak (aZ (uE c st.2.2 a) fu st.2.1) fun o=>aJ o (fun f=>some (.bk f)) (fun _ _=>none) (fun r=>some (.rt r)):Option (Fl Int (Int×(List Int)))) fun o=>aJ o (fun b=>cond (decide (b<a)) (some (.bk (a,b,st.2.2))) (ak (bI st.2.2 b) fun d=>ak (bI st.2.2 a) fun g=>ak (bI (st.2.2.set (a).toNat d) b) fun h=>some (.nx ((IntKind.i64.wrap (a+1)),(IntKind.i64.wrap (b - 1)),((st.2.2.set (a).toNat d).set (b).toNat g))))) (fun _ _=>none) (fun r=>some (.rt r))) (fun _ _=>none) (fun r=>some (.rt r))
def uG (u0:(List Int))(a:Int)(f:Int)(b:Int):Option (Int×(List Int)):=
 cond (List.isEmpty u0) none (ak (bI u0 b) fun c=>ak (bI u0 a) fun g=>ak (bI (u0.set (a).toNat c) b) fun h=>ak (ak (aZ (uF a) fu ((IntKind.i64.wrap (a+1)),(IntKind.i64.wrap (f - 1)),((u0.set (a).toNat c).set (b).toNat g))) fun o=>aJ o (fun d=>some (.bk (d.1,d.2.2))) (fun _ _=>none) (fun r=>some (.rt r)):Option (Fl (Int×(List Int)) (Int×(List Int)))) fun o=>aJ o (fun e=>some (e.1,e.2)) (fun _ _=>none) (fun r=>some r))
theorem EI {ro:Addr->Option Value}(u0:(List Int)){b8:Value}{ab:List (Nat×Obj)}(w:bA rI ro 3 b8 u0 ab)(c:Int)(H:Int)(D:Int){r:(Int×(List Int))}(h:uG u0 c H D=some r):aF Tryz.prog 187 #[b8,.int .i64 c,.int .i64 H,.int .i64 D] ⟨ro,ab⟩ (fun v G=>∃ad,(v= .int .i64 r.1/\bA rI ro 3 b8 r.2 ad)/\Le ⟨ro,ad⟩ G):=by
 obtain ⟨d1,c2,rfl,fc⟩:=w.len;unfold uG at h;have h':=aD h;clear h;rcases h' with ⟨ae,h⟩|⟨ae,h⟩
 .cases h
 obtain ⟨b,al,rfl,rfl,fg⟩:=w.fX ae;refine aF.go Tryz.func187 rfl Tryz.ntmps187 Tryz.results187 aB fun main J hJ A ao hd hs=>?_;have ar:=hs 0;have k1:=hs 1;have a0:=hs 2;have a2:=hs 3;clear hs;apply af hJ;refine aO hJ fun fh=>?_;apply ah hJ;apply aa _;apply af hJ;refine aO hJ fun fi=>?_;refine fC hJ mixed [13,14,15] (.pure 0 (.pure 1 (.pure 2 (.pure 3 (.pure 4 (.pure 5 (.pure 6 (.rd 7 (.pure 8 (.pure 9 (.pure 10 (.rd 11 (.pure 12 (.last 13 (.pure 14 (.last 15 .done)))))))))))))))) ⟨ro,[(b,Obj.cells al 3)]⟩ au aS ?_;have h':=av h;clear h;obtain ⟨I,cf,h⟩:=h';obtain ⟨fj,fl,fp,fr⟩:=w.cP cf;have h':=av h;clear h;obtain ⟨K,ck,h⟩:=h';obtain ⟨cl,cv,fs,ft⟩:=w.cP ck;have a3:=w.fP cl cv I;have h':=av h;clear h;obtain ⟨fv,cy,h⟩:=h';obtain ⟨c0,da,fw,fx⟩:=a3.cP cy;have a4:=a3.fP c0 da K;try apply aa _
 apply af hJ;obtain ⟨a5,L⟩:∃o,o=(bR (bR al (c).toNat [.int .i64 I]) (D).toNat [.int .i64 K]):=⟨_,rfl⟩
 refine cG (F:=⟨ro,[(b,Obj.cells a5 3)]⟩) hJ (by rw[L];exact Le.refl _) ?_;rw[<-L] at a4;clear L;refine aO hJ fun fz=>?_;apply ah hJ;apply aa _;have h':=av h;clear h;obtain ⟨db,h,dd⟩:=h';refine fY hJ (fun a F'=>∃(M:Array Value) (N:Int) (O:(List Int)),some (Fl.bk (N,O):Fl (Int×(List Int)) (Int×(List Int)))=some db/\F'=⟨ro,[(b,Obj.cells M 3)]⟩/\bA rI ro 3 (.slice (some ⟨b,0,none⟩) u0.length c2) O [(b,Obj.cells M 3)]/\sz a=84/\a.defers=[]/\slot a 0= .slice (some ⟨b,0,none⟩) u0.length c2/\slot a 8= .int .i64 0/\slot a 9= .int .i64 N) ?_ ?_
 .apply bf hJ;have h':=av h;clear h;obtain ⟨df,x,dk⟩:=h';have h:=True.intro;refine bO hJ [9,10,29,30,31,32,33,34,35,36,37,38,39,40,41,42,43,44,45,46,47,48,49,50,51,52,53,54,55,56,57,58,59,60,61,62,63,64,65,66,67,68,69,70,71,72,73,74,75,76,77,78,79,80,81,82] (fun m a F'=>∃(d:Array Value) (E:Int) (k:Int) (l:(List Int)),aZ (uF c) m (E,k,l)=some df/\F'=⟨ro,[(b,Obj.cells d 3)]⟩/\bA rI ro 3 (.slice (some ⟨b,0,none⟩) u0.length c2) l [(b,Obj.cells d 3)]/\slot a 9= .int .i64 E/\slot a 10= .int .i64 k) fu ?_ ?_
  .refine ⟨a5,(IntKind.i64.wrap (c+1)),(IntKind.i64.wrap (H - 1)),((u0.set (c).toNat I).set (D).toNat K),x,rfl,a4,?_⟩;simp only[*,go_sem,-h]
  rintro m2 f F' q ⟨d,E,k,l,x,rfl,g,a6,a7⟩;have h:=True.intro;have a8:sz f=84:=by rw[q.size];simp only[*,go_sem,-h]
  have a9:f.defers=[]:=by rw[q.defers];simp only[*,go_sem,-h]
  have ba:slot f 0= .slice (some ⟨b,0,none⟩) u0.length c2:=by rw[q.aA 0 ay];simp only[*,go_sem,-h]
  have bb:slot f 1= .int .i64 c:=by rw[q.aA 1 ay];simp only[*,go_sem,-h]
  have bc:slot f 8= .int .i64 0:=by rw[q.aA 8 ay];simp only[*,go_sem,-h]
  clear q ao hd ar k1 a0 a2;obtain _|m2:=m2
  .exact absurd x (by simp only[aZ,reduceCtorEq,not_false_eq_true])
  have h':=av x;clear x h;obtain ⟨gg,h,P⟩:=h';unfold uF at h;try dsimp only at h
  apply bf hJ;have h':=av h;clear h;obtain ⟨dp,h,dq⟩:=h';refine fY hJ (fun a F'=>∃(e:Int),some (Fl.bk e:Fl Int (Int×(List Int)))=some dp/\F'=⟨ro,[(b,Obj.cells d 3)]⟩/\sz a=84/\a.defers=[]/\cq [9,10,29,30,31,32,33,34,35,36,37,38,39,40,41,42,43,44,45,46,47,48,49,50,51,52,53,54,55,56,57,58,59,60,61,62,63,64,65,66,67,68,69,70,71,72,73,74,75,76,77,78,79,80,81,82] a f/\slot a 0= .slice (some ⟨b,0,none⟩) u0.length c2/\slot a 1= .int .i64 c/\slot a 8= .int .i64 0/\slot a 9= .int .i64 e/\slot a 10= .int .i64 k) ?_ ?_
  .apply bf hJ;have h':=av h;clear h;obtain ⟨ds,y,bd⟩:=h';have h:=True.intro;refine bO hJ [9,29,30,31,32,33,34,35,36,37,38,39,40,41,42,43,44,45] (fun m a F'=>∃(s:Int),aZ (uD c k l) m s=some ds/\F'=⟨ro,[(b,Obj.cells d 3)]⟩/\slot a 9= .int .i64 s) fu ?_ ?_
   .refine ⟨E,y,rfl,?_⟩;simp only[*,go_sem,-h]
   rintro Q n F' i ⟨s,y,rfl,gj⟩;have h:=True.intro;have gl:sz n=84:=by rw[i.size];simp only[*,go_sem,-h]
   have gn:n.defers=[]:=by rw[i.defers];simp only[*,go_sem,-h]
   have gp:slot n 0= .slice (some ⟨b,0,none⟩) u0.length c2:=by rw[i.aA 0 ay];simp only[*,go_sem,-h]
   have gy:slot n 1= .int .i64 c:=by rw[i.aA 1 ay];simp only[*,go_sem,-h]
   have g0:slot n 8= .int .i64 0:=by rw[i.aA 8 ay];simp only[*,go_sem,-h]
   have g1:slot n 10= .int .i64 k:=by rw[i.aA 10 ay];simp only[*,go_sem,-h]
   have g2:cq [9,10,29,30,31,32,33,34,35,36,37,38,39,40,41,42,43,44,45,46,47,48,49,50,51,52,53,54,55,56,57,58,59,60,61,62,63,64,65,66,67,68,69,70,71,72,73,74,75,76,77,78,79,80,81,82] n f:=(i.eg ay).trans au;clear i a8 a9 ba bb bc a6 a7;obtain _|Q:=Q
   .exact absurd y (by simp only[aZ,reduceCtorEq,not_false_eq_true])
   have h':=av y;clear y h;obtain ⟨g3,h,z⟩:=h';unfold uD at h;(try dsimp only at h);apply af hJ;apply af hJ;refine aO hJ fun g4=>?_;refine cB hJ mixed 15 ⟨ro,[(b,Obj.cells d 3)]⟩ au aS ?_;have h':=aD h;clear h;rcases h' with ⟨R,h⟩|⟨R,h⟩
   ·(try simp only[Int.ofNat_lt] at R);have h':=av h;clear h;obtain ⟨dt,du,h⟩:=h';obtain ⟨g7,ha,hc,hf⟩:=g.cP du;have h':=av h;clear h;obtain ⟨dv,dC,h⟩:=h';obtain ⟨hg,hh,hi,hj⟩:=g.cP dC;have h':=av h;clear h;obtain ⟨hk,dE,h⟩:=h';(try apply aa _);refine ⟨_,dI hJ fun F hF=>iS dt dv dE,ef ?_⟩;(try apply aa _);have h':=aD h;clear h;rcases h' with ⟨S,h⟩|⟨S,h⟩
    ·(try simp only[Int.ofNat_lt] at S);refine aL hJ au ?_;apply aR hJ;apply bf hJ;refine aO hJ fun hl=>?_;apply ah hJ;apply aa _;have h':=Option.some.inj h;clear h;subst h';have h:=True.intro;(try apply aa _);refine ⟨Q,Nat.lt_succ_self _,_,Le.sub (List.Sublist.refl _),(IntKind.i64.wrap (s+1)),z,rfl,?_⟩;simp only[*,go_sem,-h]
    (try simp only[Int.ofNat_lt] at S);refine aM hJ au ?_;apply bM;simp only[go_sem];have h':=Option.some.inj h;clear h;subst h';have h':=Option.some.inj z;clear z;subst h';have h:=bd;dsimp only[aJ] at h;(try apply aa _);refine Qn.intro ⟨_,Le.sub (List.Sublist.refl _),s,h,rfl,?_⟩;simp only[*,go_sem,-h]
   (try simp only[Int.ofNat_lt] at R);(try apply aa _);refine aM hJ au ?_;apply bM;simp only[go_sem];have h':=Option.some.inj h;clear h;subst h';have h':=Option.some.inj z;clear z;subst h';have h:=bd;dsimp only[aJ] at h;(try apply aa _);refine Qn.intro ⟨_,Le.sub (List.Sublist.refl _),s,h,rfl,?_⟩;simp only[*,go_sem,-h]
  rintro hn F' ⟨e,bj,rfl,bm,bo,ho,br,bs,b0,b1,b2⟩;have h':=Option.some.inj bj;clear bj;subst h';have h:=dq;dsimp only[aJ] at h;clear a8 a9 ba bb bc a6 a7;have h':=av h;clear h;obtain ⟨dT,h,ea⟩:=h';refine fY hJ (fun a F'=>∃(t:Int),some (Fl.bk t:Fl Int (Int×(List Int)))=some dT/\F'=⟨ro,[(b,Obj.cells d 3)]⟩/\sz a=84/\a.defers=[]/\cq [9,10,29,30,31,32,33,34,35,36,37,38,39,40,41,42,43,44,45,46,47,48,49,50,51,52,53,54,55,56,57,58,59,60,61,62,63,64,65,66,67,68,69,70,71,72,73,74,75,76,77,78,79,80,81,82] a f/\slot a 0= .slice (some ⟨b,0,none⟩) u0.length c2/\slot a 1= .int .i64 c/\slot a 8= .int .i64 0/\slot a 9= .int .i64 e/\slot a 10= .int .i64 t) ?_ ?_
  .apply bf hJ;have h':=av h;clear h;obtain ⟨eb,B,b3⟩:=h';have h:=True.intro;refine bO hJ [10,46,47,48,49,50,51,52,53,54,55,56,57,58,59,60,61] (fun m a F'=>∃(u:Int),aZ (uE c l e) m u=some eb/\F'=⟨ro,[(b,Obj.cells d 3)]⟩/\slot a 10= .int .i64 u) fu ?_ ?_
   .refine ⟨k,B,rfl,?_⟩;simp only[*,go_sem,-h]
   rintro T p F' j ⟨u,B,rfl,hp⟩;have h:=True.intro;have hq:sz p=84:=by rw[j.size];simp only[*,go_sem,-h]
   have hr:p.defers=[]:=by rw[j.defers];simp only[*,go_sem,-h]
   have ht:slot p 0= .slice (some ⟨b,0,none⟩) u0.length c2:=by rw[j.aA 0 ay];simp only[*,go_sem,-h]
   have hv:slot p 1= .int .i64 c:=by rw[j.aA 1 ay];simp only[*,go_sem,-h]
   have hx:slot p 8= .int .i64 0:=by rw[j.aA 8 ay];simp only[*,go_sem,-h]
   have hy:slot p 9= .int .i64 e:=by rw[j.aA 9 ay];simp only[*,go_sem,-h]
   have hz:cq [9,10,29,30,31,32,33,34,35,36,37,38,39,40,41,42,43,44,45,46,47,48,49,50,51,52,53,54,55,56,57,58,59,60,61,62,63,64,65,66,67,68,69,70,71,72,73,74,75,76,77,78,79,80,81,82] p f:=(j.eg ay).trans au;clear j bm bo br bs b0 b1 b2;obtain _|T:=T
   .exact absurd B (by simp only[aZ,reduceCtorEq,not_false_eq_true])
   have h':=av B;clear B h;obtain ⟨hA,h,C⟩:=h';unfold uE at h;(try dsimp only at h);apply af hJ;apply af hJ;refine aO hJ fun hB=>?_;refine cB hJ mixed 14 ⟨ro,[(b,Obj.cells d 3)]⟩ au aS ?_;have h':=aD h;clear h;rcases h' with ⟨U,h⟩|⟨U,h⟩
   ·(try simp only[Int.ofNat_lt] at U);have h':=av h;clear h;obtain ⟨ec,ed,h⟩:=h';obtain ⟨hD,hE,hG,hH⟩:=g.cP ed;have h':=av h;clear h;obtain ⟨eh,et,h⟩:=h';obtain ⟨hI,hK,hL,hM⟩:=g.cP et;have h':=av h;clear h;obtain ⟨hN,ev,h⟩:=h';(try apply aa _);refine ⟨_,dI hJ fun F hF=>iS ec eh ev,ef ?_⟩;(try apply aa _);have h':=aD h;clear h;rcases h' with ⟨V,h⟩|⟨V,h⟩
    ·(try simp only[Int.ofNat_lt] at V);refine aL hJ au ?_;apply aR hJ;apply bf hJ;refine aO hJ fun hP=>?_;apply ah hJ;apply aa _;have h':=Option.some.inj h;clear h;subst h';have h:=True.intro;(try apply aa _);refine ⟨T,Nat.lt_succ_self _,_,Le.sub (List.Sublist.refl _),(IntKind.i64.wrap (u - 1)),C,rfl,?_⟩;simp only[*,go_sem,-h]
    (try simp only[Int.ofNat_lt] at V);refine aM hJ au ?_;apply bM;simp only[go_sem];have h':=Option.some.inj h;clear h;subst h';have h':=Option.some.inj C;clear C;subst h';have h:=b3;dsimp only[aJ] at h;(try apply aa _);refine Qn.intro ⟨_,Le.sub (List.Sublist.refl _),u,h,rfl,?_⟩;simp only[*,go_sem,-h]
   (try simp only[Int.ofNat_lt] at U);(try apply aa _);refine aM hJ au ?_;apply bM;simp only[go_sem];have h':=Option.some.inj h;clear h;subst h';have h':=Option.some.inj C;clear C;subst h';have h:=b3;dsimp only[aJ] at h;(try apply aa _);refine Qn.intro ⟨_,Le.sub (List.Sublist.refl _),u,h,rfl,?_⟩;simp only[*,go_sem,-h]
  rintro hQ F' ⟨t,b4,rfl,hR,hS,hT,hV,hX,hY,hZ,h0⟩;have h':=Option.some.inj b4;clear b4;subst h';have h:=ea;dsimp only[aJ] at h;clear bm bo br bs b0 b1 b2;apply af hJ;apply af hJ;refine aO hJ fun h1=>?_;apply ah hJ;apply aa _;have h':=aD h;clear h;rcases h' with ⟨W,h⟩|⟨W,h⟩
  ·(try simp only[Int.ofNat_lt] at W);refine aL hJ au ?_;apply bM;simp only[go_sem];have h':=Option.some.inj h;clear h;subst h';have h':=Option.some.inj P;clear P;subst h';have h:=dk;dsimp only[aJ] at h;(try apply aa _);refine Qn.intro ⟨_,Le.sub (List.Sublist.refl _),d,e,l,h,rfl,g,?_⟩;simp only[*,go_sem,-h]
  try simp only[Int.ofNat_lt] at W
  refine aM hJ au ?_;apply aR hJ;apply af hJ;refine aO hJ fun h2=>?_;refine fC hJ mixed [13,14,15] (.pure 0 (.pure 1 (.pure 2 (.pure 3 (.pure 4 (.pure 5 (.pure 6 (.rd 7 (.pure 8 (.pure 9 (.pure 10 (.rd 11 (.pure 12 (.last 13 (.pure 14 (.last 15 .done)))))))))))))))) ⟨ro,[(b,Obj.cells d 3)]⟩ au aS ?_;have h':=av h;clear h;obtain ⟨X,eQ,h⟩:=h';obtain ⟨h3,h4,h5,h6⟩:=g.cP eQ;have h':=av h;clear h;obtain ⟨Y,eS,h⟩:=h';obtain ⟨e0,e1,h7,h8⟩:=g.cP eS;have ca:=g.fP e0 e1 X;have h':=av h;clear h;obtain ⟨h9,e2,h⟩:=h';obtain ⟨e3,fa,ib,ih⟩:=ca.cP e2;have cb:=ca.fP e3 fa Y;try apply aa _
  apply af hJ;obtain ⟨cc,Z⟩:∃o,o=(bR (bR d (e).toNat [.int .i64 X]) (t).toNat [.int .i64 Y]):=⟨_,rfl⟩
  refine cG (F:=⟨ro,[(b,Obj.cells cc 3)]⟩) hJ (by rw[Z];exact Le.refl _) ?_;rw[<-Z] at cb;clear Z;refine aO hJ fun ik=>?_;apply ah hJ;apply aa _;refine aO hJ fun il=>?_;apply ah hJ;apply aa _;have h':=Option.some.inj h;clear h;subst h';have h:=True.intro;try apply aa _
  refine ⟨m2,Nat.lt_succ_self _,_,Le.sub (List.Sublist.refl _),cc,(IntKind.i64.wrap (e+1)),(IntKind.i64.wrap (t - 1)),((l.set (e).toNat X).set (t).toNat Y),P,rfl,cb,?_⟩;simp only[*,go_sem,-h]
 rintro im F' ⟨M,N,O,cd,rfl,fb,iv,ix,j1,j2,kh⟩;have h':=Option.some.inj cd;clear cd;subst h';have h:=dd;dsimp only[aJ] at h;clear ao hd ar k1 a0 a2;apply af hJ;refine aO hJ fun kj=>?_;apply ah hJ;apply aa _;have h':=Option.some.inj h;clear h;subst h';refine eu ?_;exact ⟨_,fb,Le.sub (List.Sublist.refl _)⟩
def uH (u0:(List Int))(a:Int)(st:Int):Option (Fl Int (Bool×(List Int))):=
 cond (decide (st<a)) (ak (bI u0 st) fun b=>ak (bI u0 (IntKind.i64.wrap (st - 1))) fun c=>ak (g5 b c) fun d=>cond (!d) (some (.nx (IntKind.i64.wrap (st+1)))) (some (.bk st))) (some (.bk st))
def uI (u0:(List Int))(b:Int)(a:Int)(st:(Bool×Int×Int)):Option (Fl (Bool×Int×Int) (Bool×(List Int))):=
 cond (decide (st.2.2<5)) (ak (ak (aZ (uH u0 a) fu st.2.1) fun o=>aJ o (fun c=>some (.bk c)) (fun _ _=>none) (fun r=>some (.rt r)):Option (Fl Int (Bool×(List Int)))) fun o=>aJ o (fun d=>cond ((d==a)) (some (.rt (true,u0))) (cond (decide ((IntKind.i64.wrap (a - b))<50)) (some (.rt (false,u0))) (none))) (fun _ _=>none) (fun r=>some (.rt r))) (some (.bk (st.1,st.2.1,st.2.2)))
def uJ (u0:(List Int))(a:Int)(b:Int):Option (Bool×(List Int)):=
 cond (List.isEmpty u0) none (ak (ak (aZ (uI u0 a b) fu (false,(IntKind.i64.wrap (a+1)),0)) fun o=>aJ o (fun c=>some (.bk c.1)) (fun _ _=>none) (fun r=>some (.rt r)):Option (Fl Bool (Bool×(List Int)))) fun o=>aJ o (fun d=>some (false,u0)) (fun _ _=>none) (fun r=>some r))
theorem EJ {ro:Addr->Option Value}(u0:(List Int)){b8:Value}{H:List (Nat×Obj)}(e:bA rI ro 3 b8 u0 H)(f:Int)(g:Int){r:(Bool×(List Int))}(h:uJ u0 f g=some r):aF Tryz.prog 185 #[b8,.int .i64 f,.int .i64 g] ⟨ro,H⟩ (fun v G=>∃I,(v= .bool r.1/\bA rI ro 3 b8 r.2 I)/\Le ⟨ro,I⟩ G):=by
 obtain ⟨d1,c2,rfl,a5⟩:=e.len;unfold uJ at h;have h':=aD h;clear h;rcases h' with ⟨K,h⟩|⟨K,h⟩
 .cases h
 obtain ⟨d,o,rfl,rfl,a6⟩:=e.fX K;refine aF.go Tryz.func185 rfl Tryz.ntmps185 Tryz.results185 aB fun main J hJ A L hd hs=>?_;have M:=hs 0;have k1:=hs 1;have N:=hs 2;clear hs;apply af hJ;refine aO hJ fun a7=>?_;apply ah hJ;apply aa _;apply af hJ;refine aO hJ fun a8=>?_;apply ah hJ;apply aa _;have h':=av h;clear h;obtain ⟨ab,h,u⟩:=h';refine fY hJ (fun a F'=>∃(w:Bool),some (Fl.bk w:Fl Bool (Bool×(List Int)))=some ab/\F'=⟨ro,[(d,Obj.cells o 3)]⟩/\sz a=133/\a.defers=[]/\slot a 0= .slice (some ⟨d,0,none⟩) u0.length c2/\slot a 6= .bool w) ?_ ?_
 .apply af hJ;refine aO hJ fun a9=>?_;apply ah hJ;apply aa _;apply bf hJ;have h':=av h;clear h;obtain ⟨ad,p,x⟩:=h';have h:=True.intro;refine bO hJ [6,7,8,9,10,13,14,15,16,17,18,19,20,21,22,23,24,25,26,27,28,29,30,31,32,33,34,35,36,37,38,39,40,41,42,43,44,45,46,47,48,49,50,51,52,53,54,55,56,57,58,59,60,61,62,63,64,65,66,67,68,69,70,71,72,73,74,75,76,77,78,79,80,81,82,83,84,85,86,87,88,89,90,91,92,93,94,95,96,97,98,99,100,101,102,103,104,105,106,107,108,109,110,111,112,113,114,115,116,117,118,119,120,121,122,123,124,125,126,127,128,129,130,131,132] (fun m a F'=>∃(j:Bool) (t:Int) (v20:Int),aZ (uI u0 f g) m (j,t,v20)=some ad/\F'=⟨ro,[(d,Obj.cells o 3)]⟩/\slot a 6= .bool j/\slot a 7= .int .i64 t/\slot a 8= .int .i64 v20) fu ?_ ?_
  .refine ⟨false,(IntKind.i64.wrap (f+1)),0,p,rfl,?_⟩;simp only[*,go_sem,-h]
  rintro m2 i F' k ⟨j,t,v20,p,rfl,O,P,Q⟩;have h:=True.intro;have R:sz i=133:=by rw[k.size];simp only[*,go_sem,-h]
  have S:i.defers=[]:=by rw[k.defers];simp only[*,go_sem,-h]
  have T:slot i 0= .slice (some ⟨d,0,none⟩) u0.length c2:=by rw[k.aA 0 ay];simp only[*,go_sem,-h]
  have U:slot i 1= .int .i64 f:=by rw[k.aA 1 ay];simp only[*,go_sem,-h]
  have V:slot i 2= .int .i64 g:=by rw[k.aA 2 ay];simp only[*,go_sem,-h]
  clear k L hd M k1 N;obtain _|m2:=m2
  .exact absurd p (by simp only[aZ,reduceCtorEq,not_false_eq_true])
  have h':=av p;clear p h;obtain ⟨ba,h,l⟩:=h';unfold uI at h;try dsimp only at h
  apply af hJ;apply af hJ;refine aO hJ fun bb=>?_;apply ah hJ;apply aa _;have h':=aD h;clear h;rcases h' with ⟨y,h⟩|⟨y,h⟩
  ·(try simp only[Int.ofNat_lt] at y);refine aL hJ au ?_;apply aR hJ;apply af hJ;apply bf hJ;have h':=av h;clear h;obtain ⟨ae,h,al⟩:=h';refine fY hJ (fun a F'=>∃(z:Int),some (Fl.bk z:Fl Int (Bool×(List Int)))=some ae/\F'=⟨ro,[(d,Obj.cells o 3)]⟩/\sz a=133/\a.defers=[]/\cq [6,7,8,9,10,13,14,15,16,17,18,19,20,21,22,23,24,25,26,27,28,29,30,31,32,33,34,35,36,37,38,39,40,41,42,43,44,45,46,47,48,49,50,51,52,53,54,55,56,57,58,59,60,61,62,63,64,65,66,67,68,69,70,71,72,73,74,75,76,77,78,79,80,81,82,83,84,85,86,87,88,89,90,91,92,93,94,95,96,97,98,99,100,101,102,103,104,105,106,107,108,109,110,111,112,113,114,115,116,117,118,119,120,121,122,123,124,125,126,127,128,129,130,131,132] a i/\slot a 0= .slice (some ⟨d,0,none⟩) u0.length c2/\slot a 1= .int .i64 f/\slot a 2= .int .i64 g/\slot a 6= .bool j/\slot a 7= .int .i64 z/\slot a 8= .int .i64 v20) ?_ ?_
   .apply bf hJ;have h':=av h;clear h;obtain ⟨ao,q,W⟩:=h';have h:=True.intro;refine bO hJ [7,17,18,19,20,21,22,23,24,25,26,27,28,29,30,31,32,33,34] (fun m a F'=>∃(n:Int),aZ (uH u0 g) m n=some ao/\F'=⟨ro,[(d,Obj.cells o 3)]⟩/\slot a 7= .int .i64 n) fu ?_ ?_
    .refine ⟨t,q,rfl,?_⟩;simp only[*,go_sem,-h]
    rintro B c F' b ⟨n,q,rfl,bc⟩;have h:=True.intro;have bd:sz c=133:=by rw[b.size];simp only[*,go_sem,-h]
    have bj:c.defers=[]:=by rw[b.defers];simp only[*,go_sem,-h]
    have bm:slot c 0= .slice (some ⟨d,0,none⟩) u0.length c2:=by rw[b.aA 0 ay];simp only[*,go_sem,-h]
    have bo:slot c 1= .int .i64 f:=by rw[b.aA 1 ay];simp only[*,go_sem,-h]
    have br:slot c 2= .int .i64 g:=by rw[b.aA 2 ay];simp only[*,go_sem,-h]
    have bs:slot c 6= .bool j:=by rw[b.aA 6 ay];simp only[*,go_sem,-h]
    have b0:slot c 8= .int .i64 v20:=by rw[b.aA 8 ay];simp only[*,go_sem,-h]
    have b1:slot c 13= .int .i64 v20:=by rw[b.aA 13 ay];simp only[*,go_sem,-h]
    have b2:slot c 14= .bool true:=by rw[b.aA 14 ay];simp only[*,go_sem,-h]
    have b3:cq [6,7,8,9,10,13,14,15,16,17,18,19,20,21,22,23,24,25,26,27,28,29,30,31,32,33,34,35,36,37,38,39,40,41,42,43,44,45,46,47,48,49,50,51,52,53,54,55,56,57,58,59,60,61,62,63,64,65,66,67,68,69,70,71,72,73,74,75,76,77,78,79,80,81,82,83,84,85,86,87,88,89,90,91,92,93,94,95,96,97,98,99,100,101,102,103,104,105,106,107,108,109,110,111,112,113,114,115,116,117,118,119,120,121,122,123,124,125,126,127,128,129,130,131,132] c i:=(b.eg ay).trans au;clear b R S T U V O P Q;obtain _|B:=B
    .exact absurd q (by simp only[aZ,reduceCtorEq,not_false_eq_true])
    have h':=av q;clear q h;obtain ⟨b4,h,s⟩:=h';unfold uH at h;(try dsimp only at h);apply af hJ;apply af hJ;refine aO hJ fun ca=>?_;refine cB hJ mixed 16 ⟨ro,[(d,Obj.cells o 3)]⟩ au aS ?_;have h':=aD h;clear h;rcases h' with ⟨C,h⟩|⟨C,h⟩
    ·(try simp only[Int.ofNat_lt] at C);have h':=av h;clear h;obtain ⟨ar,a0,h⟩:=h';obtain ⟨cb,cc,cd,cf⟩:=e.cP a0;have h':=av h;clear h;obtain ⟨a2,a3,h⟩:=h';obtain ⟨ck,cl,cv,cy⟩:=e.cP a3;have h':=av h;clear h;obtain ⟨c0,a4,h⟩:=h';(try apply aa _);refine ⟨_,dI hJ fun F hF=>iS ar a2 a4,ef ?_⟩;(try apply aa _);have h':=aD h;clear h;rcases h' with ⟨D,h⟩|⟨D,h⟩
     ·(try simp only[Int.ofNat_lt] at D);refine aL hJ au ?_;apply aR hJ;apply bf hJ;refine aO hJ fun da=>?_;apply ah hJ;apply aa _;have h':=Option.some.inj h;clear h;subst h';have h:=True.intro;(try apply aa _);refine ⟨B,Nat.lt_succ_self _,_,Le.sub (List.Sublist.refl _),(IntKind.i64.wrap (n+1)),s,rfl,?_⟩;simp only[*,go_sem,-h]
     (try simp only[Int.ofNat_lt] at D);refine aM hJ au ?_;apply bM;simp only[go_sem];have h':=Option.some.inj h;clear h;subst h';have h':=Option.some.inj s;clear s;subst h';have h:=W;dsimp only[aJ] at h;(try apply aa _);refine Qn.intro ⟨_,Le.sub (List.Sublist.refl _),n,h,rfl,?_⟩;simp only[*,go_sem,-h]
    (try simp only[Int.ofNat_lt] at C);(try apply aa _);refine aM hJ au ?_;apply bM;simp only[go_sem];have h':=Option.some.inj h;clear h;subst h';have h':=Option.some.inj s;clear s;subst h';have h:=W;dsimp only[aJ] at h;(try apply aa _);refine Qn.intro ⟨_,Le.sub (List.Sublist.refl _),n,h,rfl,?_⟩;simp only[*,go_sem,-h]
   rintro db F' ⟨z,X,rfl,dd,df,dk,dp,dq,ds,dt,du,dv⟩;have h':=Option.some.inj X;clear X;subst h';have h:=al;dsimp only[aJ] at h;clear R S T U V O P Q;apply af hJ;apply af hJ;refine aO hJ fun dC=>?_;apply ah hJ;apply aa _;have h':=aD h;clear h;rcases h' with ⟨E,h⟩|⟨E,h⟩
   ·(try simp only[Int.ofNat_lt] at E);refine aL hJ au ?_;apply af hJ;refine aO hJ fun dE=>?_;apply ah hJ;apply aa _;have h':=Option.some.inj h;clear h;subst h';have h':=Option.some.inj l;clear l;subst h';have h:=x;dsimp only[aJ] at h;have h':=Option.some.inj h;clear h;subst h';have h:=u;dsimp only[aJ] at h;have h':=Option.some.inj h;clear h;subst h';refine eu ?_;exact ⟨_,e,Le.sub (List.Sublist.refl _)⟩
   (try simp only[Int.ofNat_lt] at E);refine aM hJ au ?_;apply aR hJ;apply af hJ;apply af hJ;refine aO hJ fun dT=>?_;apply ah hJ;apply aa _;have h':=aD h;clear h;rcases h' with ⟨Y,h⟩|⟨Y,h⟩
   ·(try simp only[Int.ofNat_lt] at Y);refine aL hJ au ?_;apply af hJ;refine aO hJ fun ea=>?_;apply ah hJ;apply aa _;have h':=Option.some.inj h;clear h;subst h';have h':=Option.some.inj l;clear l;subst h';have h:=x;dsimp only[aJ] at h;have h':=Option.some.inj h;clear h;subst h';have h:=u;dsimp only[aJ] at h;have h':=Option.some.inj h;clear h;subst h';refine eu ?_;exact ⟨_,e,Le.sub (List.Sublist.refl _)⟩
   cases h
  try simp only[Int.ofNat_lt] at y
  refine aM hJ au ?_;apply bM;simp only[go_sem];have h':=Option.some.inj h;clear h;subst h';have h':=Option.some.inj l;clear l;subst h';have h:=x;dsimp only[aJ] at h;try apply aa _
  refine Qn.intro ⟨_,Le.sub (List.Sublist.refl _),j,h,rfl,?_⟩;simp only[*,go_sem,-h]
 rintro eb F' ⟨w,Z,rfl,ec,ed,eh,et⟩;have h':=Option.some.inj Z;clear Z;subst h';have h:=u;dsimp only[aJ] at h;clear L hd M k1 N;apply af hJ;refine aO hJ fun ev=>?_;apply ah hJ;apply aa _;have h':=Option.some.inj h;clear h;subst h';refine eu ?_;exact ⟨_,e,Le.sub (List.Sublist.refl _)⟩
def uK (st:(Int×Int×Int×Bool×Bool×(List Int))):Option (Fl (Int×Int×Int×Bool×Bool×(List Int)) (Unit×(List Int))):=
 cond (decide ((IntKind.i64.wrap (st.2.1 - st.1))<=12)) (ak (qM st.2.2.2.2.2 st.1 st.2.1) fun j=>some (.rt ((),j.2))) (cond ((st.2.2.1==0)) (none) (ak (cond (!st.2.2.2.1) (ak (uv st.2.2.2.2.2 st.1 st.2.1) fun k=>some (.bk ((IntKind.i64.wrap (st.2.2.1 - 1)),k.2))) (some (.bk (st.2.2.1,st.2.2.2.2.2))):Option (Fl (Int×(List Int)) (Unit×(List Int)))) fun o=>aJ o (fun c=>ak (um c.2 st.1 st.2.1) fun b=>cond ((b.1.2==2)) (none) (ak (cond (st.2.2.2.1) (cond (st.2.2.2.2.1) (cond ((b.1.2==1)) (ak (uJ b.2 st.1 st.2.1) fun f=>cond (f.1) (some (.rt ((),f.2))) (some (.bk f.2))) (some (.bk b.2))) (some (.bk b.2))) (some (.bk b.2)):Option (Fl (List Int) (Unit×(List Int)))) fun o=>aJ o (fun e=>ak (cond (decide (0<st.1)) (ak (bI e (IntKind.i64.wrap (st.1 - 1))) fun l=>ak (bI e b.1.1) fun m=>ak (g5 l m) fun n=>cond (!n) (ak (uG e st.1 st.2.1 b.1.1) fun g=>some (.br 1 (g.1,g.2))) (some (.bk (st.1,e)))) (some (.bk (st.1,e))):Option (Fl (Int×(List Int)) (Unit×(List Int)))) fun o=>aJ o (fun d=>ak (uC d.2 d.1 st.2.1 b.1.1) fun a=>ak (ob (IntKind.i64.wrap (st.2.1 - st.1)) 8) fun h=>cond (decide ((IntKind.i64.wrap (a.1.1 - d.1))<(IntKind.i64.wrap (st.2.1 - a.1.1)))) (ak (qN a.2 d.1 a.1.1 c.1) fun p=>some (.nx ((IntKind.i64.wrap (a.1.1+1)),st.2.1,c.1,(decide (h<=(IntKind.i64.wrap (a.1.1 - d.1)))),a.1.2,p.2))) (ak (qN a.2 (IntKind.i64.wrap (a.1.1+1)) st.2.1 c.1) fun q=>some (.nx (d.1,a.1.1,c.1,(decide (h<=(IntKind.i64.wrap (st.2.1 - a.1.1)))),a.1.2,q.2)))) (fun _ i=>some (.nx (i.1,st.2.1,c.1,st.2.2.2.1,st.2.2.2.2.1,i.2))) (fun r=>some (.rt r))) (fun _ _=>none) (fun r=>some (.rt r)))) (fun _ _=>none) (fun r=>some (.rt r))))
def uL (u0:(List Int))(a:Int)(b:Int)(c:Int):Option (Unit×(List Int)):=
 cond (List.isEmpty u0) none (ak (aZ (uK) fu (a,b,c,true,true,u0)) fun o=>aJ o (fun d=>some ((),d.2.2.2.2.2)) (fun _ _=>none) (fun r=>some r))
theorem EK {ro:Addr->Option Value}(u0:(List Int)){b8:Value}{ao:List (Nat×Obj)}(K:bA rI ro 3 b8 u0 ao)(L:Int)(M:Int)(N:Int){r:(Unit×(List Int))}(h:uL u0 L M N=some r):aF Tryz.prog 161 #[b8,.int .i64 L,.int .i64 M,.int .i64 N] ⟨ro,ao⟩ (fun v G=>∃d,(v= .tuple #[]/\bA rI ro 3 b8 r.2 d)/\Le ⟨ro,d⟩ G):=by
 obtain ⟨d1,c2,rfl,gj⟩:=K.len;unfold uL at h;have h':=aD h;clear h;rcases h' with ⟨ar,h⟩|⟨ar,h⟩
 .cases h
 obtain ⟨b,b1,rfl,rfl,gl⟩:=K.fX ar;refine aF.go Tryz.func161 rfl Tryz.ntmps161 Tryz.results161 aB fun main J hJ A b2 hd hs=>?_;have b3:=hs 0;have k1:=hs 1;have b4:=hs 2;have ca:=hs 3;clear hs;apply af hJ;refine aO hJ fun gn=>?_;apply ah hJ;apply aa _;apply af hJ;refine aO hJ fun gp=>?_;apply ah hJ;apply aa _;apply bf hJ;have h':=av h;clear h;obtain ⟨cb,w,a0⟩:=h';have h:=True.intro;refine bO hJ [1,2,3,8,9,10,11,12,13,14,15,16,17,18,19,20,21,22,23,24,25,26,27,28,29,30,31,32,33,34,35,36,37,38,39,40,41,42,43,44,45,46,47,48,49,50,51,52,53,54,55,56,57,58,59,60,61,62,63,64,65,66,67,68,69,70,71,72,73,74,75,76,77,78,79,80,81,82,83,84,85,86,87,88,89,90,91,92,93,94,95,96,97,98,99,100,101,102,103,104,105,106,107,108,109,110,111,112,113,114,115,116,117,118,119,120,121,122,123,124,125,126,127,128,129,130,131,132,133] (fun m a F'=>∃(C:Array Value) (e:Int) (c:Int) (x:Int) (l:Bool) (n:Bool) (q:(List Int)),aZ (uK) m (e,c,x,l,n,q)=some cb/\F'=⟨ro,[(b,Obj.cells C 3)]⟩/\bA rI ro 3 (.slice (some ⟨b,0,none⟩) u0.length c2) q [(b,Obj.cells C 3)]/\slot a 1= .int .i64 e/\slot a 2= .int .i64 c/\slot a 3= .int .i64 x/\slot a 8= .bool l/\slot a 9= .bool n) fu ?_ ?_
 .refine ⟨b1,L,M,N,true,true,u0,w,rfl,K,?_⟩;simp only[*,go_sem,-h]
 rintro y s F' D ⟨C,e,c,x,l,n,q,w,rfl,O,cc,cd,cf,ck,cl⟩;have h:=True.intro;have cv:sz s=134:=by rw[D.size];simp only[*,go_sem,-h]
 have cy:s.defers=[]:=by rw[D.defers];simp only[*,go_sem,-h]
 have c0:slot s 0= .slice (some ⟨b,0,none⟩) u0.length c2:=by rw[D.aA 0 ay];simp only[*,go_sem,-h]
 clear D b2 hd b3 k1 b4 ca;obtain _|y:=y
 .exact absurd w (by simp only[aZ,reduceCtorEq,not_false_eq_true])
 have h':=av w;clear w h;obtain ⟨gy,h,o⟩:=h';unfold uK at h;try dsimp only at h
 apply bf hJ;apply af hJ;refine aO hJ fun g0=>?_;apply ah hJ;apply aa _;apply af hJ;apply af hJ;refine aO hJ fun g1=>?_;apply ah hJ;apply aa _;have h':=aD h;clear h;rcases h' with ⟨P,h⟩|⟨P,h⟩
 .try simp only[Int.ofNat_lt] at P
  refine aL hJ au ?_;apply af hJ;refine aO hJ fun g2=>?_;apply ah hJ;have h':=av h;clear h;obtain ⟨g3,da,h⟩:=h';apply aa _;refine dA hJ [] [] (by first|rfl|simp only[bE]|(simp only[bE];rfl)) _ (zg q O e c da) (fun g4 g7 f d g ha=>?_);obtain ⟨rfl,a2⟩:=f;obtain ⟨db,rfl⟩:=a2.fN;simp only[bE] at g;subst d;refine ⟨⟨ro,[(b,Obj.cells db 3)]⟩,Le.refl _,?_⟩;try apply aa _
  have h':=Option.some.inj h;clear h;subst h';have h':=Option.some.inj o;clear o;subst h';have h:=a0;dsimp only[aJ] at h;have h':=Option.some.inj h;clear h;subst h';refine eu ?_;exact ⟨_,a2,Le.sub (List.Sublist.refl _)⟩
 try simp only[Int.ofNat_lt] at P
 refine aM hJ au ?_;apply aR hJ;apply af hJ;apply af hJ;refine aO hJ fun hc=>?_;apply ah hJ;apply aa _;have h':=aD h;clear h;rcases h' with ⟨Q,h⟩|⟨Q,h⟩
 .try simp only[Int.ofNat_lt] at Q
  refine aL hJ au ?_;cases h
 try simp only[Int.ofNat_lt] at Q
 refine aM hJ au ?_;apply aR hJ;have h':=av h;clear h;obtain ⟨dd,h,df⟩:=h';refine fY hJ (fun a F'=>∃(R:Array Value) (i:Int) (E:(List Int)),some (Fl.bk (i,E):Fl (Int×(List Int)) (Unit×(List Int)))=some dd/\F'=⟨ro,[(b,Obj.cells R 3)]⟩/\bA rI ro 3 (.slice (some ⟨b,0,none⟩) u0.length c2) E [(b,Obj.cells R 3)]/\sz a=134/\a.defers=[]/\cq [1,2,3,8,9,10,11,12,13,14,15,16,17,18,19,20,21,22,23,24,25,26,27,28,29,30,31,32,33,34,35,36,37,38,39,40,41,42,43,44,45,46,47,48,49,50,51,52,53,54,55,56,57,58,59,60,61,62,63,64,65,66,67,68,69,70,71,72,73,74,75,76,77,78,79,80,81,82,83,84,85,86,87,88,89,90,91,92,93,94,95,96,97,98,99,100,101,102,103,104,105,106,107,108,109,110,111,112,113,114,115,116,117,118,119,120,121,122,123,124,125,126,127,128,129,130,131,132,133] a s/\slot a 0= .slice (some ⟨b,0,none⟩) u0.length c2/\slot a 1= .int .i64 e/\slot a 2= .int .i64 c/\slot a 3= .int .i64 i/\slot a 8= .bool l/\slot a 9= .bool n/\slot a 10= .int .i64 (IntKind.i64.wrap (c - e))) ?_ ?_
 .apply af hJ;refine aO hJ fun hf=>?_;apply ah hJ;apply aa _;have h':=aD h;clear h;rcases h' with ⟨S,h⟩|⟨S,h⟩
  ·(try simp only[Int.ofNat_lt] at S);refine aL hJ au ?_;apply af hJ;refine aO hJ fun hg=>?_;apply ah hJ;have h':=av h;clear h;obtain ⟨dk,dp,h⟩:=h';apply aa _;refine dA hJ [] [] (by first|rfl|simp only[bE]|(simp only[bE];rfl)) _ (EG q O e c dp) (fun hh hi f d g hj=>?_);obtain ⟨rfl,a3⟩:=f;obtain ⟨a4,rfl⟩:=a3.fN;simp only[bE] at g;subst d;refine ⟨⟨ro,[(b,Obj.cells a4 3)]⟩,Le.refl _,?_⟩;(try apply aa _);refine aO hJ fun hk=>?_;apply ah hJ;apply aa _;(try apply aa _);refine Qn.intro ⟨_,Le.sub (List.Sublist.refl _),a4,(IntKind.i64.wrap (x - 1)),dk.2,h,rfl,a3,?_⟩;simp only[*,go_sem,-h]
  try simp only[Int.ofNat_lt] at S
  refine aM hJ au ?_;apply aR hJ;try apply aa _
  refine Qn.intro ⟨_,Le.sub (List.Sublist.refl _),C,x,q,h,rfl,O,?_⟩;simp only[*,go_sem,-h]
 rintro hl F' ⟨R,i,E,a5,rfl,dq,ds,dt,hn,du,dv,dC,dE,dT,ea,eb⟩;have h':=Option.some.inj a5;clear a5;subst h';have h:=df;dsimp only[aJ] at h;clear cv cy c0 cc cd cf ck cl;apply af hJ;refine aO hJ fun ho=>?_;apply ah hJ;have h':=av h;clear h;obtain ⟨k,ec,h⟩:=h';apply aa _;refine dA hJ [] [] (by first|rfl|simp only[bE]|(simp only[bE];rfl)) _ (Eu E dq e c ec) (fun hp hq f d g hr=>?_);obtain ⟨rfl,z⟩:=f;obtain ⟨H,rfl⟩:=z.fN;simp only[bE] at g;subst d;refine ⟨⟨ro,[(b,Obj.cells H 3)]⟩,Le.refl _,?_⟩;apply aQ;try apply aa _
 apply af hJ;apply af hJ;refine aO hJ fun ht=>?_;apply ah hJ;apply aa _;have h':=aD h;clear h;rcases h' with ⟨T,h⟩|⟨T,h⟩
 .try simp only[Int.ofNat_lt] at T
  refine aL hJ au ?_;cases h
 try simp only[Int.ofNat_lt] at T
 refine aM hJ au ?_;apply aR hJ;have h':=av h;clear h;obtain ⟨ed,h,a6⟩:=h';refine fY hJ (fun a F'=>∃(t:Array Value) (u:(List Int)),some (Fl.bk u:Fl (List Int) (Unit×(List Int)))=some ed/\F'=⟨ro,[(b,Obj.cells t 3)]⟩/\bA rI ro 3 (.slice (some ⟨b,0,none⟩) u0.length c2) u [(b,Obj.cells t 3)]/\sz a=134/\a.defers=[]/\cq [1,2,3,8,9,10,11,12,13,14,15,16,17,18,19,20,21,22,23,24,25,26,27,28,29,30,31,32,33,34,35,36,37,38,39,40,41,42,43,44,45,46,47,48,49,50,51,52,53,54,55,56,57,58,59,60,61,62,63,64,65,66,67,68,69,70,71,72,73,74,75,76,77,78,79,80,81,82,83,84,85,86,87,88,89,90,91,92,93,94,95,96,97,98,99,100,101,102,103,104,105,106,107,108,109,110,111,112,113,114,115,116,117,118,119,120,121,122,123,124,125,126,127,128,129,130,131,132,133] a s/\slot a 0= .slice (some ⟨b,0,none⟩) u0.length c2/\slot a 1= .int .i64 e/\slot a 2= .int .i64 c/\slot a 3= .int .i64 i/\slot a 8= .bool l/\slot a 9= .bool n/\slot a 10= .int .i64 (IntKind.i64.wrap (c - e))/\slot a 11= .int .i64 k.1.1) ?_ ?_
 .apply af hJ;refine aO hJ fun hv=>?_;apply ah hJ;have h':=aD h;clear h;rcases h' with ⟨U,h⟩|⟨U,h⟩
  ·(try simp only[Int.ofNat_lt] at U);have h':=aD h;clear h;rcases h' with ⟨V,h⟩|⟨V,h⟩
   ·(try simp only[Int.ofNat_lt] at V);(try apply aa _);have h':=aD h;clear h;rcases h' with ⟨W,h⟩|⟨W,h⟩
    ·(try simp only[Int.ofNat_lt] at W);refine aL hJ au ?_;apply af hJ;refine aO hJ fun hx=>?_;apply ah hJ;have h':=av h;clear h;obtain ⟨eh,et,h⟩:=h';apply aa _;refine dA hJ [] [] (by first|rfl|simp only[bE]|(simp only[bE];rfl)) _ (EJ k.2 z e c et) (fun hy hz f d g hA=>?_);obtain ⟨rfl,X⟩:=f;obtain ⟨a7,rfl⟩:=X.fN;simp only[bE] at g;subst d;refine ⟨⟨ro,[(b,Obj.cells a7 3)]⟩,Le.refl _,?_⟩;(try apply aa _);have h':=aD h;clear h;rcases h' with ⟨Y,h⟩|⟨Y,h⟩
     ·(try simp only[Int.ofNat_lt] at Y);refine aL hJ au ?_;have h':=Option.some.inj h;clear h;subst h';have h:=a6;dsimp only[aJ] at h;have h':=Option.some.inj h;clear h;subst h';have h':=Option.some.inj o;clear o;subst h';have h:=a0;dsimp only[aJ] at h;have h':=Option.some.inj h;clear h;subst h';refine eu ?_;exact ⟨_,X,Le.sub (List.Sublist.refl _)⟩
     (try simp only[Int.ofNat_lt] at Y);refine aM hJ au ?_;apply aR hJ;(try apply aa _);refine Qn.intro ⟨_,Le.sub (List.Sublist.refl _),a7,eh.2,h,rfl,X,?_⟩;simp only[*,go_sem,-h]
    (try simp only[Int.ofNat_lt] at W);refine aM hJ au ?_;apply aR hJ;(try apply aa _);refine Qn.intro ⟨_,Le.sub (List.Sublist.refl _),H,k.2,h,rfl,z,?_⟩;simp only[*,go_sem,-h]
   (try simp only[Int.ofNat_lt] at V);(try apply aa _);refine aM hJ au ?_;apply aR hJ;(try apply aa _);refine Qn.intro ⟨_,Le.sub (List.Sublist.refl _),H,k.2,h,rfl,z,?_⟩;simp only[*,go_sem,-h]
  try simp only[Int.ofNat_lt] at U
  try apply aa _
  refine aM hJ au ?_;apply aR hJ;try apply aa _
  refine Qn.intro ⟨_,Le.sub (List.Sublist.refl _),H,k.2,h,rfl,z,?_⟩;simp only[*,go_sem,-h]
 rintro hB F' ⟨t,u,a8,rfl,B,ev,eQ,hD,eS,e0,e1,e2,e3,fa,fb,fc⟩;have h':=Option.some.inj a8;clear a8;subst h';have h:=a6;dsimp only[aJ] at h;clear ds dt du dv dC dE dT ea eb;have h':=av h;clear h;obtain ⟨fg,h,a9⟩:=h';refine fY hJ (fun a F'=>∃(Z:Array Value) (p:Int) (I:(List Int)),some (Fl.bk (p,I):Fl (Int×(List Int)) (Unit×(List Int)))=some fg/\F'=⟨ro,[(b,Obj.cells Z 3)]⟩/\bA rI ro 3 (.slice (some ⟨b,0,none⟩) u0.length c2) I [(b,Obj.cells Z 3)]/\sz a=134/\a.defers=[]/\cq [1,2,3,8,9,10,11,12,13,14,15,16,17,18,19,20,21,22,23,24,25,26,27,28,29,30,31,32,33,34,35,36,37,38,39,40,41,42,43,44,45,46,47,48,49,50,51,52,53,54,55,56,57,58,59,60,61,62,63,64,65,66,67,68,69,70,71,72,73,74,75,76,77,78,79,80,81,82,83,84,85,86,87,88,89,90,91,92,93,94,95,96,97,98,99,100,101,102,103,104,105,106,107,108,109,110,111,112,113,114,115,116,117,118,119,120,121,122,123,124,125,126,127,128,129,130,131,132,133] a s/\slot a 0= .slice (some ⟨b,0,none⟩) u0.length c2/\slot a 1= .int .i64 p/\slot a 2= .int .i64 c/\slot a 3= .int .i64 i/\slot a 8= .bool l/\slot a 9= .bool n/\slot a 10= .int .i64 (IntKind.i64.wrap (c - e))/\slot a 11= .int .i64 k.1.1) ?_ ?_
 .apply af hJ;refine aO hJ fun hE=>?_;refine cB hJ mixed 15 ⟨ro,[(b,Obj.cells t 3)]⟩ au aS ?_;have h':=aD h;clear h;rcases h' with ⟨ab,h⟩|⟨ab,h⟩
  ·(try simp only[Int.ofNat_lt] at ab);have h':=av h;clear h;obtain ⟨fh,fi,h⟩:=h';obtain ⟨hG,hH,hI,hK⟩:=B.cP fi;have h':=av h;clear h;obtain ⟨fj,fl,h⟩:=h';obtain ⟨hL,hM,hN,hP⟩:=B.cP fl;have h':=av h;clear h;obtain ⟨hQ,fp,h⟩:=h';(try apply aa _);refine ⟨_,dI hJ fun F hF=>iS fh fj fp,ef ?_⟩;(try apply aa _);have h':=aD h;clear h;rcases h' with ⟨ad,h⟩|⟨ad,h⟩
   ·(try simp only[Int.ofNat_lt] at ad);refine aL hJ au ?_;apply af hJ;refine aO hJ fun hR=>?_;apply ah hJ;have h':=av h;clear h;obtain ⟨ba,fr,h⟩:=h';apply aa _;refine dA hJ [] [] (by first|rfl|simp only[bE]|(simp only[bE];rfl)) _ (EI u B e c k.1.1 fr) (fun hS hT f d g hV=>?_);obtain ⟨rfl,bb⟩:=f;obtain ⟨bc,rfl⟩:=bb.fN;simp only[bE] at g;subst d;refine ⟨⟨ro,[(b,Obj.cells bc 3)]⟩,Le.refl _,?_⟩;apply aQ;(try apply aa _);apply af hJ;refine aO hJ fun hX=>?_;apply ah hJ;apply aa _;apply bM;simp only[go_sem];have h':=Option.some.inj h;clear h;subst h';have h:=a9;dsimp only[aJ] at h;have h':=Option.some.inj h;clear h;subst h';have h:=True.intro;(try apply aa _);refine ⟨y,Nat.lt_succ_self _,_,Le.sub (List.Sublist.refl _),bc,ba.1,c,i,l,n,ba.2,o,rfl,bb,?_⟩;simp only[*,go_sem,-h]
   (try simp only[Int.ofNat_lt] at ad);refine aM hJ au ?_;apply aR hJ;(try apply aa _);refine Qn.intro ⟨_,Le.sub (List.Sublist.refl _),t,e,u,h,rfl,B,?_⟩;simp only[*,go_sem,-h]
  try simp only[Int.ofNat_lt] at ab
  try apply aa _
  refine aM hJ au ?_;apply aR hJ;try apply aa _
  refine Qn.intro ⟨_,Le.sub (List.Sublist.refl _),t,e,u,h,rfl,B,?_⟩;simp only[*,go_sem,-h]
 rintro hY F' ⟨Z,p,I,bd,rfl,fs,hZ,h0,h1,h2,h3,h4,h5,h6,h7,h8,h9⟩;have h':=Option.some.inj bd;clear bd;subst h';have h:=a9;dsimp only[aJ] at h;clear ev eQ eS e0 e1 e2 e3 fa fb fc;apply af hJ;refine aO hJ fun ib=>?_;apply ah hJ;have h':=av h;clear h;obtain ⟨j,ft,h⟩:=h';apply aa _;refine dA hJ [] [] (by first|rfl|simp only[bE]|(simp only[bE];rfl)) _ (EH I fs p c k.1.1 ft) (fun ih ik f d g il=>?_);obtain ⟨rfl,ae⟩:=f;obtain ⟨fv,rfl⟩:=ae.fN;simp only[bE] at g;subst d;refine ⟨⟨ro,[(b,Obj.cells fv 3)]⟩,Le.refl _,?_⟩;apply aQ;try apply aa _
 apply af hJ;refine aO hJ fun im=>?_;apply ah hJ;apply aa _;apply af hJ;refine aO hJ fun iv=>?_;apply ah hJ;apply aa _;apply af hJ;refine aO hJ fun ix=>?_;apply ah hJ;have h':=av h;clear h;obtain ⟨bj,bm,h⟩:=h';obtain ⟨j1,j2⟩:=s7 bm;clear bm;try apply aa _
 apply af hJ;refine aO hJ fun kh=>?_;apply ah hJ;apply aa _;have h':=aD h;clear h;rcases h' with ⟨al,h⟩|⟨al,h⟩
 .try simp only[Int.ofNat_lt] at al
  refine aL hJ au ?_;apply af hJ;refine aO hJ fun kj=>?_;apply ah hJ;apply aa _;apply af hJ;refine aO hJ fun kk=>?_;apply ah hJ;have h':=av h;clear h;obtain ⟨fw,fx,h⟩:=h';apply aa _;refine dA hJ [] [] (by first|rfl|simp only[bE]|(simp only[bE];rfl)) _ (zh j.2 ae p j.1.1 i fx) (fun kl km f d g kn=>?_);obtain ⟨rfl,bo⟩:=f;obtain ⟨br,rfl⟩:=bo.fN;simp only[bE] at g;subst d;refine ⟨⟨ro,[(b,Obj.cells br 3)]⟩,Le.refl _,?_⟩;try apply aa _
  refine aO hJ fun kp=>?_;apply ah hJ;apply aa _;have h':=Option.some.inj h;clear h;subst h';have h:=True.intro;try apply aa _
  refine ⟨y,Nat.lt_succ_self _,_,Le.sub (List.Sublist.refl _),br,(IntKind.i64.wrap (j.1.1+1)),c,i,(decide (bj<=(IntKind.i64.wrap (j.1.1 - p)))),j.1.2,fw.2,o,rfl,bo,?_⟩;simp only[*,go_sem,-h]
 try simp only[Int.ofNat_lt] at al
 refine aM hJ au ?_;apply af hJ;refine aO hJ fun kq=>?_;apply ah hJ;apply aa _;apply af hJ;refine aO hJ fun ks=>?_;apply ah hJ;have h':=av h;clear h;obtain ⟨fz,gg,h⟩:=h';apply aa _;refine dA hJ [] [] (by first|rfl|simp only[bE]|(simp only[bE];rfl)) _ (zh j.2 ae (IntKind.i64.wrap (j.1.1+1)) c i gg) (fun kt kv f d g kx=>?_);obtain ⟨rfl,bs⟩:=f;obtain ⟨b0,rfl⟩:=bs.fN;simp only[bE] at g;subst d;refine ⟨⟨ro,[(b,Obj.cells b0 3)]⟩,Le.refl _,?_⟩;try apply aa _
 refine aO hJ fun ky=>?_;apply ah hJ;apply aa _;have h':=Option.some.inj h;clear h;subst h';have h:=True.intro;try apply aa _
 refine ⟨y,Nat.lt_succ_self _,_,Le.sub (List.Sublist.refl _),b0,p,j.1.1,i,(decide (bj<=(IntKind.i64.wrap (c - j.1.1)))),j.1.2,fz.2,o,rfl,bs,?_⟩;simp only[*,go_sem,-h]
def uM (u0:(List Int)):Option (Unit×(List Int)):=
 cond (List.isEmpty u0) none (ak (jY (IntKind.u64.wrap (u0.length:Int))) fun a=>ak (uL u0 0 (u0.length:Int) a) fun b=>some ((),b.2))
theorem EL {ro:Addr->Option Value}(u0:(List Int)){b8:Value}{c:List (Nat×Obj)}(b:bA rI ro 3 b8 u0 c){r:(Unit×(List Int))}(h:uM u0=some r):aF Tryz.prog 132 #[b8] ⟨ro,c⟩ (fun v G=>∃a,(v= .tuple #[]/\bA rI ro 3 b8 r.2 a)/\Le ⟨ro,a⟩ G):=by
 obtain ⟨d1,c2,rfl,n⟩:=b.len;unfold uM at h;have h':=aD h;clear h;rcases h' with ⟨d,h⟩|⟨d,h⟩
 .cases h
 obtain ⟨f,o,rfl,rfl,p⟩:=b.fX d;refine aF.go Tryz.func132 rfl Tryz.ntmps132 Tryz.results132 aB fun main J hJ A q hd hs=>?_;have s:=hs 0;clear hs;apply af hJ;refine aO hJ fun t=>?_;apply ah hJ;apply aa _;refine aO hJ fun u=>?_;apply ah hJ;have h':=av h;clear h;obtain ⟨g,i,h⟩:=h';apply aa _;refine bl hJ _ (qO (IntKind.u64.wrap (u0.length:Int)) i) (aQ ?_);have h':=av h;clear h;obtain ⟨w,j,h⟩:=h';try apply aa _
 refine dA hJ [] [] (by first|rfl|simp only[bE]|(simp only[bE];rfl)) _ (EK u0 b 0 (u0.length:Int) g j) (fun x y k a l z=>?_);obtain ⟨rfl,e⟩:=k;obtain ⟨m,rfl⟩:=e.fN;simp only[bE] at l;subst a;refine ⟨⟨ro,[(f,Obj.cells m 3)]⟩,Le.refl _,?_⟩;try apply aa _
 have h':=Option.some.inj h;clear h;subst h';apply bw _;exact ⟨_,e,Le.sub (List.Sublist.refl _)⟩
def iT (x:List Int)(j:Nat):Bool:=j==0||x.getD j 0 != x.getD (j - 1) 0
def fZ (x:List Int):Nat->List Int
 |0=>[]
 |n+1=>fZ x n++cond (iT x n) [x.getD n 0] []
theorem qP (x:List Int):∀n,n<=x.length->(∀j,j<n->iT x j=true)->fZ x n=x.take n
 |0,_,_=>by simp[fZ]
 |n+1,hn,h=>by
  unfold fZ
  rw[qP x n ai (fun j b=>h j ai),h n ai,List.take_succ]
  congr 1
  have a:n<x.length:=ai
  simp[a]
theorem zk (x:List Int){j:Nat}(h:j<1):iT x j=true:=by
 obtain rfl:j=0:=ai;rfl
def uN (u0:List Int):Option (List Int):=cond (List.isEmpty u0) none (some (fZ u0 u0.length))
theorem EM {ro:Addr->Option Value}(u0:List Int){b8:Value}{bz:List (Nat×Obj)}(hg:bA rI ro 3 b8 u0 bz){r:List Int}(h:uN u0=some r):
  aF Tryz.prog 133 #[b8] ⟨ro,bz⟩ (fun v G=>∃O,bA rI ro 3 v r O/\Le ⟨ro,O⟩ G):=by
 obtain ⟨ad,cap,rfl,le⟩:=hg.len
 unfold uN at h
 have h':=aD h;clear h;rcases h' with ⟨P,h⟩|⟨P,h⟩
 .cases h
 obtain ⟨b,D,rfl,rfl,cc⟩:=hg.fX P
 cases h
 have cd:u0.length<=1000000:=by obtain ⟨_,_,_,h,_⟩:=hg;exact h
 have cf:Tryz.prog.underlying 3=some (.int .i64):=aS
 refine aF.go Tryz.func133 rfl Tryz.ntmps133 Tryz.results133 aB fun main J hJ A a3 hd hs=>?_
 have a4:=hs 0
 clear hs
 repeat refine af hJ ?_
 refine ah hJ ?_
 apply bw _
 repeat refine af hJ ?_
 refine ah hJ ?_
 apply bw _
 repeat refine af hJ ?_
 by_cases ck:u0.length<2
 .refine aL hJ (by simp only[*,go_sem];simp;omega) ?_
  repeat refine af hJ ?_
  refine ah hJ ?_
  apply bw _
  refine aI ?_
  apply bw _
  have e:fZ u0 u0.length=u0:=by
   rw[qP u0 _ (Nat.le_refl _) (fun j c=>zk u0 ai),List.take_length]
  rw[e]
  exact ⟨_,hg,Le.refl _⟩
 refine aM hJ (by simp only[*,go_sem];simp;omega) ?_
 refine aR hJ ?_
 repeat refine af hJ ?_
 refine ah hJ ?_
 apply bw _
 repeat refine af hJ ?_
 refine bf hJ ?_
 refine bO hJ [3,4,5,10,11,12,13,14,15,16,17,18,19,20,21,22,23,24,25,26,27,28,29,30,31,32,33,34,35,36,37,38,39,40,41,42,43,44,45,46,47,48,49,50,51,52,53,54,55,56,57,58,59] (fun m s F'=>∃k:Nat,1<=k/\k<=u0.length/\u0.length - k<=m/\F'=⟨ro,[(b,Obj.cells D 3)]⟩/\slot s 3= .int .i64 (k:Int)/\∀j,j<k->iT u0 j=true) u0.length ?_ ?_
 .refine ⟨1,Nat.le_refl _,ai,ai,rfl,?_,fun j c=>zk u0 c⟩
  apply bw _
  rfl
 .rintro a5 g F' t ⟨k,cl,Q,cv,rfl,a6,E⟩
  have a7:sz g=61:=by rw[t.size];simp only[*,go_sem]
  have a8:g.defers=[]:=by rw[t.defers];simp only[*,go_sem]
  have a9:slot g 0= .slice (some ⟨b,0,none⟩) u0.length cap:=by rw[t.aA 0 ay];simp only[*,go_sem]
  clear t a3 hd a4
  repeat refine af hJ ?_
  repeat refine af hJ ?_
  refine ah hJ ?_
  apply bw _
  by_cases R:k<u0.length
  .have hb:decide (((k:Nat):Int)<(u0.length:Int))=true:=decide_eq_true ai
   refine aL hJ cY ?_
   refine aR hJ ?_
   repeat refine af hJ ?_
   refine bf hJ ?_
   repeat refine af hJ ?_
   obtain ⟨p,rfl⟩:∃p,k=p+1:=⟨k - 1,ai⟩
   have hw:IntKind.i64.wrap (((p+1:Nat):Int) - 1)=(p:Int):=by rw[IntWalk.i64_in _ ⟨ai,ai⟩];omega
   refine cB hJ mixed 9 ⟨ro,[(b,Obj.cells D 3)]⟩ cY aS ?_
   obtain ⟨x1,S⟩:∃x,u0[p+1]?=some x:=⟨u0[p+1],by simp[R]⟩
   obtain ⟨F,H,I⟩:=hg.eL S
   obtain rfl:F=[.int .i64 x1]:=H
   have T:=I 0 _ rfl
   simp only[go_sem] at T
   have cy:=(Array.getElem?_eq_some_iff.1 T).1
   obtain ⟨x2,U⟩:∃x,u0[p]?=some x:=⟨u0[p],by simp[Nat.lt_of_succ_lt R]⟩
   obtain ⟨K,L,M⟩:=hg.eL U
   obtain rfl:K=[.int .i64 x2]:=L
   have V:=M 0 _ rfl
   simp only[go_sem] at V
   have c0:=(Array.getElem?_eq_some_iff.1 V).1
   have da:¬((p+1:Nat):Int)<0:=ai
   have b2:((p+1:Nat):Int)<(u0.length:Int):=ai
   have b3:¬(p:Int)<0:=ai
   have b4:(p:Int)<(u0.length:Int):=ai
   have db:(0:Int)<=((p+1:Nat):Int):=ai
   have dd:(0:Int)<=(p:Int):=ai
   apply bw _
   have ba:u0.getD (p+1) 0=x1:=by rw[List.getD_eq_getElem?_getD,S];rfl
   have bb:u0.getD p 0=x2:=by rw[List.getD_eq_getElem?_getD,U];rfl
   have W:iT u0 (p+1)=(x1 != x2):=by unfold iT;rw[ba,Nat.add_sub_cancel,bb];simp
   clear I M
   by_cases N:x1=x2
   .subst N
    refine aL hJ (by simp only[*,go_sem,beq_self_eq_true]) ?_
    repeat refine af hJ ?_
    refine ah hJ ?_
    have df:p+1<=u0.length:=Q
    have dk:p+1<=cap:=ai
    have dp:((p+1:Nat):Int)<=(u0.length:Int):=ai
    have dq:u0.length<=cap:=le
    have ds:¬cap=p+1:=ai
    apply bw _
    have bc:slot g 4=slot g 4:=rfl
    repeat refine af hJ ?_
    refine ah hJ ?_
    apply bw _
    repeat refine af hJ ?_
    refine bf hJ ?_
    have e0:fZ u0 (p+2)=u0.take (p+1):=by
     show fZ u0 (p+1)++cond (iT u0 (p+1)) _ _=_
     rw[W,qP u0 _ Q E];simp
    refine bO hJ [3,5,29,30,31,32,33,34,35,36,37,38,39,40,41,42,43,44,45,46,47,48,49,50,51,52,53] (fun bd s F'=>∃(m w:Nat) (arr:Array Value) (x:List Int),1<=m/\m<=u0.length - (p+1)/\u0.length - (p+1) - m<=bd/\F'=⟨ro,[(b,Obj.cells arr 3)]⟩/\slot s 5= .int .i64 (m:Int)/\slot s 3= .int .i64 (w:Int)/\
     bA rI ro 3 (.slice (some ⟨b,0,none⟩) u0.length cap) x [(b,.cells arr 3)]/\x.length=u0.length/\(fZ u0 (p+(1+m))).length=w/\w<=p+m/\x.take w=fZ u0 (p+(1+m))/\∀j,p+m<=j->x[j]?=u0[j]?) u0.length ?_ ?_
    .refine ⟨1,p+1,D,u0,Nat.le_refl _,ai,ai,rfl,?_,?_,hg,rfl,?_,Nat.le_refl _,e0.symm,fun _ _=>rfl⟩
     .apply bw _;rfl
     .simp only[*,go_sem]
     .show (fZ u0 (p+2)).length=p+1
      rw[e0,List.length_take];omega
    .rintro m2 u F' l ⟨m,w,arr,x,I,M,dt,rfl,du,dv,d,X,o,dC,B,C⟩
     have dE:sz u=61:=by rw[l.size];simp only[*,go_sem]
     have dT:u.defers=[]:=by rw[l.defers];simp only[*,go_sem]
     have ea:slot u 0= .slice (some ⟨b,0,none⟩) u0.length cap:=by rw[l.aA 0 ay];simp only[*,go_sem]
     have eb:slot u 4= .slice (some ⟨b,p+1,none⟩) (u0.length - (p+1)) (cap - (p+1)):=by rw[l.aA 4 ay];simp only[*,go_sem]
     clear l a7 a8 a9 a6 bc
     repeat refine af hJ ?_
     refine ah hJ ?_
     apply bw _
     by_cases ec:m<u0.length - (p+1)
     .have bj:decide (((m:Nat):Int)<((u0.length - (p+1):Nat):Int))=true:=decide_eq_true ai
      refine aL hJ cY ?_
      refine aR hJ ?_
      repeat refine af hJ ?_
      refine bf hJ ?_
      repeat refine af hJ ?_
      obtain ⟨q,rfl⟩:∃q,m=q+1:=⟨m - 1,ai⟩
      have ed:IntKind.i64.wrap (((q+1:Nat):Int) - 1)=(q:Int):=by rw[IntWalk.i64_in _ ⟨ai,ai⟩];omega
      refine cB hJ mixed 9 ⟨ro,[(b,Obj.cells arr 3)]⟩ cY aS ?_
      obtain ⟨a,Y⟩:∃y,u0[p+(1+(q+1))]?=some y:=⟨u0[p+(1+(q+1))]'ai,List.getElem?_eq_getElem _⟩
      obtain ⟨F,H,Z⟩:=d.eL ((C _ ai).trans Y)
      obtain rfl:F=[.int .i64 a]:=H
      have ab:=Z 0 _ rfl
      simp only[go_sem] at ab
      have eh:=(Array.getElem?_eq_some_iff.1 ab).1
      obtain ⟨f,ae⟩:∃y,u0[p+(1+q)]?=some y:=⟨u0[p+(1+q)]'ai,List.getElem?_eq_getElem _⟩
      obtain ⟨K,L,al⟩:=d.eL ((C _ ai).trans ae)
      obtain rfl:K=[.int .i64 f]:=L
      have ao:=al 0 _ rfl
      simp only[go_sem] at ao
      have et:=(Array.getElem?_eq_some_iff.1 ao).1
      have c1:¬((q+1:Nat):Int)<0:=ai
      have c2:((q+1:Nat):Int)<((u0.length - (p+1):Nat):Int):=ai
      have c3:¬(q:Int)<0:=ai
      have c4:(q:Int)<((u0.length - (p+1):Nat):Int):=ai
      have ev:(0:Int)<=((q+1:Nat):Int):=ai
      have eQ:(0:Int)<=(q:Int):=ai
      apply bw _
      have ar:u0.getD (p+(1+(q+1))) 0=a:=by rw[List.getD_eq_getElem?_getD,Y];rfl
      have bk:u0.getD (p+(1+q)) 0=f:=by rw[List.getD_eq_getElem?_getD,ae];rfl
      have bm:iT u0 (p+(1+(q+1)))=(a != f):=by
       unfold iT
       have bo:p+(1+(q+1)) - 1=p+(1+q):=ai
       rw[bo,ar,bk]
       have:(p+(1+(q+1))==0)=false:=aB
       rw[this,Bool.false_or]
      have e1:fZ u0 (p+(1+(q+1+1)))=fZ u0 (p+(1+(q+1)))++cond (a != f) [a] []:=by
       show fZ u0 (p+(1+(q+1)))++cond (iT u0 (p+(1+(q+1)))) [u0.getD (p+(1+(q+1))) 0] []=_
       rw[bm,ar]
      have eS:IntKind.i64.wrap (((q+1:Nat):Int)+1)=((q+1+1:Nat):Int):=by rw[IntWalk.i64_in _ ⟨ai,ai⟩];omega
      clear Z al o
      have o:(fZ u0 (p+(1+(q+1)))).length=w:=by rw[<-B,List.length_take];omega
      by_cases a0:a=f
      .subst a0
       simp only[bne_self_eq_false,cond_false,List.append_nil] at e1
       refine aM hJ (by simp only[*,go_sem,bne_self_eq_false]) ?_
       refine aR hJ ?_
       refine ah hJ ?_
       apply bw _
       refine ⟨m2 - 1,ai,_,Le.refl _,q+1+1,w,arr,x,ai,ai,ai,rfl,?_,?_,d,X,by rw[e1];exact o,ai,by rw[e1];exact B,fun j c=>C j ai⟩
       .simp only[*,go_sem]
       .simp only[*,go_sem]
      .have br:(a != f)=true:=by simpa using a0
       rw[br] at e1
       simp only[cond_true] at e1
       refine aL hJ cY ?_
       repeat refine af hJ ?_
       refine ah hJ ?_
       have d1:(w:Int)<(u0.length:Int):=ai
       have d2:¬(w:Int)<0:=ai
       have d3:(0:Int)<=(w:Int):=ai
       have e2:w<arr.size:=ai
       apply bw _
       have bs:bA rI ro 3 (.slice (some ⟨b,0,none⟩) u0.length cap) (x.set w a) [(b,Obj.cells (bR arr w [.int .i64 a]) 3)]:=by
        have b0:=d.lO (i:=w) (y:=a) ai (cs:=[.int .i64 a]) rfl
        simpa only[ql,Nat.mul_one,Nat.add_zero] using b0
       have e3:IntKind.i64.wrap ((w:Int)+1)=((w+1:Nat):Int):=by rw[IntWalk.i64_in _ ⟨ai,ai⟩];omega
       refine ah hJ ?_
       apply bw _
       refine ah hJ ?_
       apply bw _
       refine ⟨m2 - 1,ai,_,Le.refl _,q+1+1,w+1,_,x.set w a,ai,ai,ai,rfl,?_,?_,bs,by rw[List.length_set];exact X,?_,ai,?_,fun j c=>?_⟩
       .simp only[*,go_sem]
       .simp only[*,go_sem]
       .rw[e1,List.length_append,o];rfl
       .rw[e1,<-B,List.take_succ,List.take_set_of_le (Nat.le_refl _),List.getElem?_set_self ai];rfl
       .rw[List.getElem?_set_ne ai];exact C j ai
     .have bj:decide (((m:Nat):Int)<((u0.length - (p+1):Nat):Int))=false:=decide_eq_false ai
      refine aM hJ cY ?_
      refine bM ?_
      simp only[go_sem]
      have a2:p+(1+m)=u0.length:=ai
      rw[a2] at o
      have d1:(w:Int)<=(u0.length:Int):=ai
      have d2:¬(w:Int)<0:=ai
      have d3:(0:Int)<=(w:Int):=ai
      have d4:w<=u0.length:=ai
      have d5:w<=cap:=ai
      have d6:¬cap=w:=ai
      have d7:(0:Int)<=(w:Int):=ai
      have d8:(w:Int)<=(cap:Int):=ai
      have b1:w+(u0.length - w)<=arr.size:=by
       obtain ⟨ls,ca,fa,-⟩:=id d
       rcases ca with ⟨hv,_,_⟩|⟨fb,fc,fg,hv,cb,hs,hle,_⟩
       .cases hv
       .cases cb
        have:rI.n=1:=rfl
        rw[this,Nat.mul_one] at hs
        omega
      repeat refine af hJ ?_
      refine ah hJ ?_
      simp only[*,go_sem,ite_false,if_false]
      refine Dt (pre:=[]) (bD:=[]) (z:=.int .i64 0) (zc:=.int .i64 0) rfl (by kernel_rfl:Tryz.prog.underlying 25=some (.slice 3)) aS rfl rfl ai (by simp[aN]) b1 ?_
      dsimp only[List.nil_append]
      repeat refine af hJ ?_
      refine ah hJ ?_
      apply bw _
      refine aI ?_
      apply bw _
      refine ⟨_,?_,Le.refl _⟩
      have:=d.clear (k:=w) ai
      rw[B,a2] at this
      simpa only[ite_self,Nat.sub_zero] using this
   .have fh:(x1==x2)=false:=by simpa using N
    refine aM hJ cY ?_
    refine aR hJ ?_
    refine ah hJ ?_
    have fi:IntKind.i64.wrap (((p+1:Nat):Int)+1)=((p+2:Nat):Int):=by rw[IntWalk.i64_in _ ⟨ai,ai⟩];omega
    apply bw _
    refine ⟨a5 - 1,ai,_,Le.refl _,p+2,ai,ai,ai,rfl,cY,fun j c=>?_⟩
    rcases Nat.lt_succ_iff_lt_or_eq.1 c with c|rfl
    .exact E j c
    .rw[W];simpa using N
  .have hb:decide (((k:Nat):Int)<(u0.length:Int))=false:=decide_eq_false ai
   refine aM hJ cY ?_
   refine bM ?_
   simp only[go_sem]
   repeat refine af hJ ?_
   refine ah hJ ?_
   apply bw _
   refine aI ?_
   apply bw _
   obtain rfl:k=u0.length:=ai
   rw[qP u0 _ (Nat.le_refl _) E,List.take_length]
   exact ⟨_,hg,Le.refl _⟩
end Go.Proofs.YtcoalekambhghaaGreatDoor
end
section
namespace Go.Sep
open Go Go.Conc
variable {P:Program}
theorem zl {ro:Addr->Option Value}{pre bD:List (Nat×Obj)}{argTypes:Array TypeId}{t e ty j:TypeId}{R:Value->ag->Prop}{b c:Nat}{ad:Option Addr}{l:List Int}{d n1 f n3:Int}(pc g:List Value)(off:Nat)(u:off=pc.length)(ht:argTypes[0]?=some t)(hu:P.underlying t=some (.slice e))(hs:cp P e=some 1)
  (A:aG rI ro (.slice ad l.length c) l) (B:aN pre b)
  (h:R (.int .i64 ((Nat.min l.length 4:Nat):Int)) ⟨ro,pre++((b,.cells (pc++([Value.int .i64 (l.getD 0 d),Value.int .i64 (l.getD 1 n1),Value.int .i64 (l.getD 2 f),Value.int .i64 (l.getD 3 n3)]++g)).toArray j)::bD)⟩):
  cJ P (Builtin.copy_ argTypes ty #[.slice (some ⟨b,off,none⟩) 4 4,.slice ad l.length c]) R ⟨ro,pre++((b,.cells (pc++([Value.int .i64 d,Value.int .i64 n1,Value.int .i64 f,Value.int .i64 n3]++g)).toArray j)::bD)⟩:=by
 subst u
 unfold cJ
 have key:∀i x,l[i]?=some x->∃p,ad=some p/\ro (p.add i)=some (.int .i64 x):=by
  obtain ⟨I,J,C,_,_,D⟩:=A
  cases C
  intro i x hi
  obtain ⟨p,cs,m,o,E⟩:=D i x hi
  obtain rfl:cs=[.int .i64 x]:=o
  refine ⟨p,m,?_⟩
  have:=E 0 _ rfl
  have e1:(p.add (i*rI.n)).add 0=p.add i:=by
   show p.add (i*1)=_
   rw[Nat.mul_one]
  rwa [e1] at this
 have st:∀(vs:List Value),(∀v∈vs,e8 v=true)->vs.length<=4->(⟨ro,pre++((b,.cells (pc++([Value.int .i64 d,Value.int .i64 n1,Value.int .i64 f,Value.int .i64 n3]++g)).toArray j)::bD)⟩:ag).ig ⟨b,pc.length,none⟩ 0 vs=some ⟨ro,pre++((b,.cells (bR (pc++([Value.int .i64 d,Value.int .i64 n1,Value.int .i64 f,Value.int .i64 n3]++g)).toArray pc.length vs) j)::bD)⟩:=by
  intro vs hv hlen
  have:=qb (ro:=ro) (bD:=bD) (e:=j) B pc.length vs (pc++([Value.int .i64 d,Value.int .i64 n1,Value.int .i64 f,Value.int .i64 n3]++g)).toArray 0 hv (by simp;omega)
  simpa using this
 simp only[Builtin.copy_,ht,List.getElem?_toArray,List.getElem?_cons_zero,List.getElem?_cons_succ,bC,c5,hu,eC,hs,bF,Builtin.lenOf]
 have ld:∀(k:Nat) (vs:List Value) (Q:Array Value->ag->Prop) (F:ag),F.ro=ro->k=Nat.min l.length 4->vs=(l.take 4).map (fun x=>Value.int .i64 x)->Q vs.toArray F->bx P (Builtin.firstCells 1 k (.slice ad l.length c)) Q F:=by
  intro k vs Q F hF G r s
  cases ad with
  |none=>
   cases l with
   |nil=>subst r;exact s
   |cons x l=>obtain ⟨p,m,_⟩:=key 0 x rfl;cases m
  |some p=>
   have H:∀i x,l[i]?=some x->F.get (p.add i)=some (.int .i64 x):=by
    intro i x hi
    obtain ⟨p',m,o⟩:=key i x hi
    cases m
    simp only[ag.get,hF,o]
   show bx P (loadCells p (k*1)) Q F
   refine xW p (vs:=vs) ?_ s
   subst G r
   match l,H with
   |[],_=>rfl
   |[x],k=>simp[ag.c6,k 0 x rfl]
   |[x,y],k=>simp[ag.c6,k 0 x rfl,k 1 y rfl]
   |[x,y,z],k=>simp[ag.c6,k 0 x rfl,k 1 y rfl,k 2 z rfl]
   |x::y::z::w::l,k=>simp[ag.c6,k 0 x rfl,k 1 y rfl,k 2 z rfl,k 3 w rfl,show Nat.min (l.length+1+1+1+1) 4=4 from Nat.min_eq_right ai]
 refine ld _ _ _ _ rfl rfl rfl ?_
 refine nL _ _ 0 _ _ (st _ (fun v hv=>?_) ?_) ?_
 .obtain ⟨x,_,rfl⟩:=List.mem_map.1 (show v∈(l.take 4).map (fun x=>Value.int .i64 x) from hv);rfl
 .simp;omega
 .simp only[bF,goInt]
  have K:∀(a:Value) (vs:List Value) (xs:List Value) (i:Nat) (y:Value) (q:List Value),i=xs.length->bR (xs++y::q).toArray i (a::vs)=bR ((xs++[a])++q).toArray (xs++[a]).length vs:=by
   intro a vs xs i y q hi
   subst hi
   simp[bR]
  have e1:bR (pc++([Value.int .i64 d,Value.int .i64 n1,Value.int .i64 f,Value.int .i64 n3]++g)).toArray pc.length ((l.take 4).map (fun x=>Value.int .i64 x))=(pc++([Value.int .i64 (l.getD 0 d),Value.int .i64 (l.getD 1 n1),Value.int .i64 (l.getD 2 f),Value.int .i64 (l.getD 3 n3)]++g)).toArray:=by
   match l with
   |[]=>rfl
   |[x]=>simp[bR,Nat.add_assoc,List.set_append_right]
   |[x,y]=>simp[bR,Nat.add_assoc,List.set_append_right]
   |[x,y,z]=>simp[bR,Nat.add_assoc,List.set_append_right]
   |x::y::z::w::l=>simp[bR,Nat.add_assoc,List.set_append_right]
  rw[e1]
  exact h
end Go.Sep
end
section
namespace Go.Proofs.YtcoalekambhghaaGreatDoor
open Go Go.Sep Go.Proofs
set_option maxRecDepth 100000
theorem bh.zm {x y:bh}{i n:Int}(h:x.setAt i n=some y)(pre post:List Value){k:Nat}(a:k=pre.length+i.toNat):
  ((pre++([Value.int .i64 x.e0,Value.int .i64 x.e1,Value.int .i64 x.e2,Value.int .i64 x.e3]++post)).set k (.int .i64 n)).toArray=(pre++([Value.int .i64 y.e0,Value.int .i64 y.e1,Value.int .i64 y.e2,Value.int .i64 y.e3]++post)).toArray:=by
 subst a
 have b:=bh.zf h
 unfold bh.setAt at h
 rcases b with rfl|rfl|rfl|rfl<;>simp at h<;>subst h<;>simp[List.set_append_right]
end Go.Proofs.YtcoalekambhghaaGreatDoor
end
section
namespace Go.Proofs.YtcoalekambhghaaGreatDoor
open Go Go.Sep Go.Proofs
set_option maxRecDepth 100000
set_option maxHeartbeats 4000000
def oO (u0:List bu):Option (List bu):=if u0.length<=1000000 then some u0 else none
theorem zn {ro:Addr->Option Value}(u0:List bu){s1:Value}(b:aG dO ro s1 u0){x:List bu}(h:oO u0=some x):aF Tryz.prog 81 #[s1] ⟨ro,[]⟩ (fun v G=>∃a,bA dO ro 92 v x a/\Le ⟨ro,a⟩ G):=by
 obtain ⟨ad,cap,rfl,le,d,e⟩:=id b;unfold oO at h;split at h
 case isFalse=>cases h
 rename_i hlen;obtain rfl:=Option.some.inj h;clear h;refine aF.go Tryz.func81 rfl Tryz.ntmps81 Tryz.results81 aB fun main J hJ A f hd hs=>?_;have g:=hs 0;clear hs;apply lF hJ _;cases ad with
 |none=>
  have hu:u0=[]:=by
   cases u0 with
   |nil=>rfl
   |cons x l=>obtain ⟨p,cs,c,_⟩:=e 0 x rfl;cases c
  subst hu;first|refine bW hJ ?_|refine af hJ (bW hJ ?_)
  apply bw _;refine aL hJ cY ?_;apply lF hJ _;refine eu ?_;exact ⟨[],bA.nil _ _ _,Le.refl _⟩
 |some p=>
  first|refine bW hJ ?_|refine af hJ (bW hJ ?_)
  apply bw _;refine aM hJ cY ?_;apply aR hJ;apply lF hJ _;intro i f1;have r1:=aT f1;try apply bw _
  refine yC r1 trivial rfl hlen b rfl rfl yj yj CX CZ rfl CY ay ay (fun v a hg j=>aQ ?_);apply bw _;refine eu ?_;exact ⟨a,hg,Le.refl _⟩
theorem EN {ro:Addr->Option Value}(u0:List bu){s1:Value}(b:aG dO ro s1 u0){x:List bu}(h:oO u0=some x):eK Tryz.prog 81 #[s1] ro (fun v aK=>∃a,v=a/\aG dO aK a x):=
 (zn u0 b h).mono fun v G c=>by
  obtain ⟨i,hg,hle⟩:=c
  obtain ⟨d,e,j,f,g⟩:=hg.tf [] (fun _ _ h=>by cases h) rfl (fun _ h=>by cases h)
  exact ⟨d,e,g.trans hle,_,rfl,f⟩
def uO (u0:List bp):Option (List bp):=if u0.length<=1000000 then some u0 else none
theorem EO {ro:Addr->Option Value}(u0:List bp){s1:Value}(b:aG bJ ro s1 u0){x:List bp}(h:uO u0=some x):aF Tryz.prog 130 #[s1] ⟨ro,[]⟩ (fun v G=>∃a,bA bJ ro 56 v x a/\Le ⟨ro,a⟩ G):=by
 obtain ⟨ad,cap,rfl,le,d,e⟩:=id b;unfold uO at h;split at h
 case isFalse=>cases h
 rename_i hlen;obtain rfl:=Option.some.inj h;clear h;refine aF.go Tryz.func130 rfl Tryz.ntmps130 Tryz.results130 aB fun main J hJ A f hd hs=>?_;have g:=hs 0;clear hs;apply lF hJ _;cases ad with
 |none=>
  have hu:u0=[]:=by
   cases u0 with
   |nil=>rfl
   |cons x l=>obtain ⟨p,cs,c,_⟩:=e 0 x rfl;cases c
  subst hu;first|refine bW hJ ?_|refine af hJ (bW hJ ?_)
  apply bw _;refine aL hJ cY ?_;apply lF hJ _;refine eu ?_;exact ⟨[],bA.nil _ _ _,Le.refl _⟩
 |some p=>
  first|refine bW hJ ?_|refine af hJ (bW hJ ?_)
  apply bw _;refine aM hJ cY ?_;apply aR hJ;apply lF hJ _;intro i f1;have r1:=aT f1;try apply bw _
  refine yC r1 trivial rfl hlen b rfl rfl p9 p9 yl yo rfl ym ay ay (fun v a hg j=>aQ ?_);apply bw _;refine eu ?_;exact ⟨a,hg,Le.refl _⟩
end Go.Proofs.YtcoalekambhghaaGreatDoor
end
section
namespace Go.Sep
open Go Go.Conc
section
variable {P:Program}{main:Bool}{J:Goroutine->ag->Prop}
theorem zo (hJ:Closed P main J){f:FuncId}{args:Array Value}{ro:Addr->Option Value}{own:List (Nat×Obj)}{K:Value->ag->Prop}(R:Value->(Addr->Option Value)->List (Nat×Obj)->Prop)
  (h:aF P f args ⟨ro,[]⟩ (fun v G=>∃aK d,Ext ro aK/\Le ⟨aK,d⟩ G/\R v aK d))
  (pre bD:List (Nat×Obj)) (n:own=pre++bD)
  (B:∀v aK d,Ext ro aK->(∀b∈keys own,∀off sp,aK ⟨b,off,sp⟩=none)->R v aK d->∀p,p=pre++(d++bD)->bT (keys p)->K v ⟨aK,p⟩):de P J f args ⟨ro,own⟩ K:=by
 intro c cs hK
 by_cases hw:∃w,Has ⟨ro,own⟩ w
 .obtain ⟨q,r⟩:=hw
  let F:ag:=⟨fun _=>none,own⟩
  have s:∀w,Has ⟨ro,own⟩ w->Has F w:=fun w hw=>⟨fun a v h=>(by cases h),hw.own,hw.nodup,fun a v h=>(by cases h)⟩
  have t:∀w,Has ⟨ro,own⟩ w->Has ⟨ro,[]⟩ w:=fun w hw=>⟨hw.ro,fun b o hb=>(by cases hb),List.nodup_nil,fun a v i hm=>(by cases hm)⟩
  have u:Fits F ⟨ro,[]⟩:=⟨⟨q,t q r,s q r⟩,fun b hb=>(by cases hb),fun a g hm=>(by cases hm)⟩
  have C:jO F ⟨ro,[]⟩:=fun a g hm=>by
   obtain ⟨v,hv⟩:=Option.isSome_iff_exists.1 g
   exact r.apart a v hv hm
  have n:p7 J F (G (Frame.enter P f args .normal) (c::cs)) ⟨ro,[]⟩:=by
   refine h main _ (s6 hJ F) c cs fun v G hR j hn=>?_
   obtain ⟨aK,d,D,hle,hR⟩:=hR
   have y:∀a,(aK a).isSome=true->a.block∉keys own:=fun a g=>(hle.ro a g).elim (hn a) (j.own _)
   have k:(d++own).Perm (pre++(d++bD)):=by
    subst n
    rw[<-List.append_assoc,<-List.append_assoc]
    exact List.Perm.append_right bD List.perm_append_comm
   have A:∀w,Has (G.star F) w->Has ⟨aK,pre++(d++bD)⟩ w:=fun w hw=>by
    have l:=hle.has w (j.right hw)
    have hF:=j.left hw
    refine ⟨l.ro,fun b o hb=>(List.mem_append.1 (k.symm.subset hb)).elim (l.own b o) (hF.own b o),?_,fun a v i hm=>?_⟩
    .refine (k.map _).nodup_iff.1 ?_
     rw[List.map_append]
     exact List.nodup_append.2 ⟨l.nodup,hF.nodup,fun a g b hb e=>j.own a (hle.own a g) (e▸hb)⟩
    .replace hm:=(k.symm.map _).subset hm
     rw[List.map_append] at hm
     exact (List.mem_append.1 hm).elim (l.apart a v i) (y a (by simp only at i;simp[i]))
   have E:∃fr cs',Go.Conc.G (c.finish v) cs=Go.Conc.G fr cs':=⟨_,_,rfl⟩
   obtain ⟨fr,cs',H⟩:=E
   by_cases m:∃w,Has (G.star F) w
   .obtain ⟨w1,m⟩:=m
    refine hJ.mono (F:=⟨aK,pre++(d++bD)⟩) ⟨A,fun b hb=>?_,fun a g=>?_⟩ (hK v ⟨aK,pre++(d++bD)⟩ (B v aK d D (fun b hb off sp=>?_) hR _ rfl ⟨(A w1 m).nodup⟩))
    .replace hb:=(k.symm.map _).subset hb
     rw[List.map_append] at hb
     simp only[cj,ag.star,List.mem_append] at hb ⊢
     exact hb.imp (hle.own b) id
    .rcases hle.ro a g with x|x
     .exact (fS (.inr x)).imp id (fun z=>by simp only[ag.star,cj,List.mem_append];exact .inr z)
     .exact .inr (by simp only[ag.star,cj,List.mem_append];exact .inl x)
    .cases i:aK ⟨b,off,sp⟩ with
     |none=>rfl
     |some v=>exact absurd hb (y ⟨b,off,sp⟩ (by simp[i]))
   .rw[H]
    exact hJ.step fun w hF=>absurd ⟨w,hF⟩ m
  refine hJ.mono ⟨fun w hw=>u.both (t w hw) (s w hw),fun b hb=>?_,fun a g=>?_⟩ (n u C)
  .simpa [ag.star,F] using hb
  .rcases iJ g with x|x
   .cases x
   .exact .inl x
 .exact hJ.step fun w hF=>absurd ⟨w,hF⟩ hw
end
structure qQ {K:Type}[BEq K](P:Program)(kt:TypeId)(kd:TypeDesc)(fk:K->Value):Prop where
 eq:∀(a b:K) (Q:Bool->ag->Prop) (F:ag),Q (a==b) F->bx P (Op.equal kt (fk a) (fk b)) Q F
 none:∀(a b:K),Instr.sameNow kd (fk a) (fk b)=none
 bits:∀a b,(a==b)=true->Instr.sameBits 10000 (fk b) (fk a)=true/\fk b=fk a
 plain:∀(e:Bool) (k:K) (Q:Unit->ag->Prop) (F:ag),Q () F->bx P (Instr.checkKey e 10000 kt (fk k)) Q F
section
variable {K V:Type}[BEq K]{fk:K->Value}{fv:V->Value}{kd:TypeDesc}{P:Program}{kt:TypeId}
theorem zq (a:qQ P kt kd fk)(k:K)(v:V):∀(l:List (K×V)) (i j:Nat),∃r:Option (Nat×Value),(∀(Q:Option (Nat×Value)->ag->Prop) (F:ag),Q r F->bx P (Instr.findAsking kt (fk k) (cz fk fv i l) j) Q F)/\
  ((r=none/\cC l k v=l++[(k,v)])\/(∃n y old,r=some (j+n,y)/\((cz fk fv i l)[n]?).map (·.key)=some (fk old)/\(k==old)=true/\cz fk fv i (cC l k v)=(cz fk fv i l).modify n (fun e=>{e with key:=fk k,val:=fv v})/\(cC l k v).length=l.length))
 |[],i,j=>⟨none,fun Q F h=>h,.inl ⟨rfl,rfl⟩⟩
 |e::l,i,j=>by
  obtain ⟨r,c,d⟩:=zq a k v l (i+1) (j+1)
  simp only[cz,Instr.findAsking,cC]
  cases h:k==e.1 with
  |true=>exact ⟨some (j,fv e.2),fun Q F b=>by
    rw[bC]
    refine a.eq _ _ _ _ ?_
    rw[h]
    exact b,.inr ⟨0,fv e.2,e.1,aB,aB,h,by simp[cz],aB⟩⟩
  |false=>
   refine ⟨r,fun Q F b=>by
    rw[bC]
    refine a.eq _ _ _ _ ?_
    rw[h]
    exact c Q F b,?_⟩
   rcases d with ⟨e1,e2⟩|⟨n,y,old,e1,e2,e3,f,g⟩
   .exact .inl ⟨e1,by simp[e2]⟩
   .exact .inr ⟨n+1,y,old,by rw[e1];congr 2;omega,by simpa using e2,e3,by simp[cz,f],by simp[g]⟩
theorem EP (a:qQ P kt kd fk)(b:P.underlying kt=some kd)(k:K){l:List (K×V)}{r:Option (Nat×Value)}{Q:Option (Nat×Value)->ag->Prop}{F:ag}(h:bx P (Instr.findAsking kt (fk k) (cz fk fv 0 l) 0) Q F):bx P (Instr.findKey kt (fk k) (cz fk fv 0 l)) Q F:=by
 unfold Instr.findKey;simp only[bC,c5,b];cases l with
 |nil=>exact h
 |cons e l=>simpa only[cz,Instr.findNow,a.none] using h
theorem ER {t d:TypeId}{b:Nat}{l:List (K×V)}{k:K}{v:V}{own:List (Nat×Obj)}{ro:Addr->Option Value}{R:Value->ag->Prop}(a:qQ P kt kd fk)(hu:P.underlying t=some (.map kt d))(f:P.underlying kt=some kd)(g:lk own b=some (dh fk fv l))
  (h:R undef ⟨ro,eU own b (dh fk fv (cC l k v))⟩):cJ P (Instr.mapUpdate t (.map (some b)) (fk k) (fv v)>>= fun _=>pure undef) R ⟨ro,own⟩:=by
 unfold cJ
 have ho:ag.c7 ⟨ro,own⟩ b=some (dh fk fv l):=by
  unfold ag.c7
  rw[g]
  rfl
 have c:(ag.c7 ⟨ro,own⟩ b).isSome=true:=by rw[ho];rfl
 simp only[Instr.mapUpdate,bC,c5,hu,gW]
 refine ⟨_,ho,?_⟩
 simp only[dh,bC]
 refine a.plain _ k _ _ ?_
 obtain ⟨r,i,j⟩:=zq (fv:=fv) a k v l 0 0
 refine EP a f k (r:=r) (i _ _ ?_)
 rcases j with ⟨rfl,e2⟩|⟨n,y,old,rfl,e2,e3,m,o⟩
 .simp only[iK,bF]
  refine ⟨rfl,c,?_⟩
  have e:dh fk fv (cC l k v)= .map ((cz fk fv 0 l).toArray.push {key:=fk k,val:=fv v,born:=l.length}) (l.length+1):=by
   simp only[dh,e2,tH,List.length_append,List.length_singleton]
   simp
  rw[e] at h
  exact h
 .obtain ⟨p,b2⟩:=a.bits k old e3
  have q:(((cz fk fv 0 l).toArray[0+n]?).map (·.key)).getD (fk k)=fk old:=by
   simp only[Nat.zero_add,List.getElem?_toArray,e2,Option.getD_some]
  simp only[bC,q]
  unfold Instr.keyThatStays
  rw[dm,if_pos p]
  simp only[bF,iK]
  refine ⟨rfl,c,?_⟩
  have e:dh fk fv (cC l k v)= .map ((cz fk fv 0 l).toArray.modify (0+n) fun e=>{e with key:=fk k,val:=fv v}) l.length:=by
   simp only[dh,m,o,Nat.zero_add]
   congr 1
   rw[<-Array.toList_inj]
   simp
  rw[e] at h
  exact h
theorem uP (fk:K->Value)(fv:V->Value):∀(l:List (K×V)) (i j:Nat),(cz fk fv i l)[j]?=(l[j]?).map fun e=>{key:=fk e.1,val:=fv e.2,born:=i+j}
 |[],i,j=>by simp[cz]
 |e::l,i,0=>by simp[cz]
 |e::l,i,j+1=>by
  simp only[cz,List.getElem?_cons_succ,uP fk fv l (i+1) j]
  cases l[j]?<;>simp
  omega
theorem uQ {fk:K->Value}{fv:V->Value}{l:List (K×V)}{e:MapEntry}(h:e∈cz fk fv 0 l):∃j x,l[j]?=some x/\e={key:=fk x.1,val:=fv x.2,born:=j}:=by
 obtain ⟨j,a⟩:=List.mem_iff_getElem?.1 h;rw[uP] at a;obtain ⟨x,b,rfl⟩:=Option.map_eq_some_iff.1 a;exact ⟨j,x,b,aB⟩
theorem ES {t a:TypeId}{b:Nat}{l:List (K×V)}{own:List (Nat×Obj)}{ro:Addr->Option Value}{R:Value->ag->Prop}(fk:K->Value)(fv:V->Value)(hu:P.underlying t=some (.map kt a))(d:lk own b=some (dh fk fv l))
  (h:∀c,dx ⟨ro,own⟩ c->R (.pointer (some ⟨c,0,none⟩)) ⟨ro,(c,.mapIter (some b) l.length #[] l.length)::own⟩):cJ P (Instr.range t (.map (some b))) R ⟨ro,own⟩:=by
 unfold cJ
 have ho:ag.c7 ⟨ro,own⟩ b=some (dh fk fv l):=by
  unfold ag.c7
  rw[d]
  rfl
 simp only[Instr.range,bC,c5,hu,gW]
 refine ⟨_,ho,?_⟩
 simp only[dh,bF,nJ]
 exact ⟨rfl,fun c e=>h c e⟩
theorem ET {t:TypeId}{b c:Nat}{l:List (K×V)}{seen:Array Nat}{own:List (Nat×Obj)}{ro:Addr->Option Value}{R:Value->ag->Prop}(fk:K->Value)(fv:V->Value)(hb:lk own b=some (dh fk fv l))(m:lk own c=some (.mapIter (some b) l.length seen l.length))
  (n:(∀i,i<l.length->i∈seen)->R (.tuple #[.bool false]) ⟨ro,own⟩)
  (o:∀i x,l[i]?=some x->i∉seen->R (.tuple #[.bool true,fk x.1,fv x.2]) ⟨ro,eU own c (.mapIter (some b) l.length (seen.push i) l.length)⟩):cJ P (Instr.next (.pointer (some ⟨c,0,none⟩)) false t) R ⟨ro,own⟩:=by
 unfold cJ
 have p:ag.c7 ⟨ro,own⟩ b=some (dh fk fv l):=by
  unfold ag.c7
  rw[hb]
  rfl
 have g:ag.c7 ⟨ro,own⟩ c=some (.mapIter (some b) l.length seen l.length):=by
  unfold ag.c7
  rw[m]
  rfl
 have q:(ag.c7 ⟨ro,own⟩ c).isSome=true:=by rw[g];rfl
 unfold Instr.next
 simp only[bC,gW]
 refine ⟨_,g,?_⟩
 simp only[bC,gW]
 refine ⟨_,p,?_⟩
 simp only[dh]
 have r:(!seen.isEmpty&&!(cz fk fv 0 l).toArray.isEmpty&&(cz fk fv 0 l).toArray.all (fun e=>decide (e.born≥l.length)))=false:=by
  cases l with
  |nil=>simp[cz]
  |cons e l=>
   have:(cz fk fv 0 (e::l)).toArray.all (fun x=>decide (x.born≥(e::l).length))=false:=by
    rw[<-Bool.not_eq_true]
    intro d
    simp[cz] at d
   rw[this,Bool.and_false]
 simp only[r,Bool.false_eq_true,if_false,bC,xL]
 have s:((cz fk fv 0 l).toArray.filter (fun e=>!seen.contains e.born)).filter (fun e=>decide (e.born≥l.length))=#[]:=by
  rw[<-Array.toList_inj]
  simp only[Array.toList_filter,List.filter_eq_nil_iff,List.mem_filter,decide_eq_true_eq]
  rintro e ⟨he,-⟩
  obtain ⟨j,x,a,rfl⟩:=uQ he
  have:=(List.getElem?_eq_some_iff.1 a).1
  show ¬l.length<=j
  omega
 have hold:((cz fk fv 0 l).toArray.filter (fun e=>!seen.contains e.born)).filter (fun e=>decide (e.born<l.length))=(cz fk fv 0 l).toArray.filter (fun e=>!seen.contains e.born):=by
  rw[<-Array.toList_inj]
  simp only[Array.toList_filter,List.filter_eq_self,List.mem_filter,decide_eq_true_eq]
  rintro e ⟨he,-⟩
  obtain ⟨j,x,a,rfl⟩:=uQ he
  exact (List.getElem?_eq_some_iff.1 a).1
 rw[s,hold]
 generalize h:(cz fk fv 0 l).toArray.filter (fun e=>!seen.contains e.born)=L
 have u:∀e∈L,∃j x,l[j]?=some x/\e={key:=fk x.1,val:=fv x.2,born:=j}/\j∉seen:=fun e he=>by
  rw[<-h,Array.mem_filter] at he
  obtain ⟨j,x,a,rfl⟩:=uQ (List.mem_toArray.1 he.1)
  exact ⟨j,x,a,rfl,by simpa using he.2⟩
 have key:∀t,t<(((if L.isEmpty=true then #[none] else #[])++(L++#[]).map some:Array (Option MapEntry))).size->
   bx P (match (((if L.isEmpty=true then #[none] else #[])++(L++#[]).map some:Array (Option MapEntry)))[t]? with
    |some (some e)=>do
     setObj c (.mapIter (some b) l.length (seen.push e.born) l.length)
     pure (.tuple #[.bool true,e.key,e.val])
    |some none=>pure (.tuple #[.bool false])
    |none=>stuck "Next: no such candidate") R ⟨ro,own⟩:=by
  intro t ht
  by_cases he:L.isEmpty=true
  .obtain rfl:L=#[]:=by simpa using he
   simp at ht
   subst ht
   simp only[Array.isEmpty_empty,if_true]
   have e0:(#[none]++Array.map some ((#[]:Array MapEntry)++#[]):Array (Option MapEntry))[0]?=some none:=aB
   rw[e0]
   show R (.tuple #[.bool false]) ⟨ro,own⟩
   refine n fun i hi=>?_
   have:({key:=fk (l[i]).1,val:=fv (l[i]).2,born:=i}:MapEntry)∈(cz fk fv 0 l).toArray:=by
    rw[List.mem_toArray]
    refine List.mem_iff_getElem?.2 ⟨i,?_⟩
    rw[uP,List.getElem?_eq_getElem hi]
    simp
   by_cases hs:i∈seen
   .exact hs
   .have d:({key:=fk (l[i]).1,val:=fv (l[i]).2,born:=i}:MapEntry)∈(cz fk fv 0 l).toArray.filter (fun e=>!seen.contains e.born):=Array.mem_filter.2 ⟨this,by simpa using hs⟩
    rw[h] at d
    simp at d
  .rw[if_neg he] at ht ⊢
   have k:t<L.size:=by simpa using ht
   have v:((#[]:Array (Option MapEntry))++(L++#[]).map some)[t]?=some (some L[t]):=by
    simp[k]
   rw[v]
   obtain ⟨j,x,a,w,y⟩:=u L[t] (Array.getElem_mem k)
   simp only[w,bC,iK,bF]
   exact ⟨rfl,q,o j x a y⟩
 have f:0<(((if L.isEmpty=true then #[none] else #[])++(L++#[]).map some:Array (Option MapEntry))).size:=by
  by_cases he:L.isEmpty=true
  .rw[if_pos he];simp;omega
  .rw[if_neg he]
   have:L≠#[]:=by simpa using he
   have:=Array.size_pos_iff.2 this
   simpa using this
 generalize hC:((if L.isEmpty=true then #[none] else #[])++(L++#[]).map some:Array (Option MapEntry))=C at key f ⊢
 split
 .exact key 0 f
 .exact fun t=>key _ (Nat.mod_lt _ f)
theorem EU {b c i:Nat}{l:List (K×V)}{x:K×V}{seen:Array Nat}{own:List (Nat×Obj)}{ro:Addr->Option Value}{R:Value->ag->Prop}(fk:K->Value)(fv:V->Value)(hb:lk own b=some (dh fk fv l))(a:lk own c=some (.mapIter (some b) l.length (seen.push i) l.length))(hi:l[i]?=some x)
  (h:R (.tuple #[fk x.1,fv x.2]) ⟨ro,own⟩):cJ P (Instr.entry (.pointer (some ⟨c,0,none⟩))) R ⟨ro,own⟩:=by
 unfold cJ
 have d:ag.c7 ⟨ro,own⟩ b=some (dh fk fv l):=by
  unfold ag.c7
  rw[hb]
  rfl
 have f:ag.c7 ⟨ro,own⟩ c=some (.mapIter (some b) l.length (seen.push i) l.length):=by
  unfold ag.c7
  rw[a]
  rfl
 unfold Instr.entry
 simp only[bC,gW]
 refine ⟨_,f,?_⟩
 simp only[Array.back?_push,bC,gW]
 refine ⟨_,d,?_⟩
 simp only[dh,bne_self_eq_false,Bool.false_eq_true,if_false]
 have g:(cz fk fv 0 l).toArray.find? (fun e=>e.born==i)=some {key:=fk x.1,val:=fv x.2,born:=i}:=by
  rw[List.find?_toArray]
  have k:=(List.getElem?_eq_some_iff.1 hi).1
  have:∀(l:List (K×V)) (j i:Nat) (x:K×V),l[i]?=some x->(cz fk fv j l).find? (fun e=>e.born==j+i)=some {key:=fk x.1,val:=fv x.2,born:=j+i}:=by
   intro l
   induction l with
   |nil=>intro j i x h;simp at h
   |cons e l ih=>
    intro j i x h
    cases i with
    |zero=>
     simp at h
     subst h
     simp[cz]
    |succ i=>
     simp only[cz,List.find?_cons,show (j==j+(i+1))=false by simp]
     have:=ih (j+1) i x (by simpa using h)
     rw[show j+1+i=j+(i+1) by omega] at this
     exact this
  have:=this l 0 i x hi
  simpa using this
 rw[g]
 simp only[bC,bF]
 exact h
end
def kS (P:Program)(J:Goroutine->ag->Prop)(ops:Array Oper)(F0:ag)(Q:Act->ag->Prop):List Oper->Bool->Act->ag->Prop
 |[],_,a,F=>Q a F
 |o::rest,_,a,F=>match cA ops o a with
  |some true=>cL P J o (fun v F'=>Knows F0 F'/\kS P J ops F0 Q rest (!Oper.calls o) (bt a o.dst v) F') a F
  |some false=>kS P J ops F0 Q rest true (bt a o.dst undef) F
  |none=>False
theorem EV {P:Program}{J:Goroutine->ag->Prop}{ops:Array Oper}{F0:ag}{Q:Act->ag->Prop}{go:Bool}{a:Act}{F:ag}:kS P J ops F0 Q [] go a F=Q a F:=rfl
theorem EW {P:Program}{J:Goroutine->ag->Prop}{ops:Array Oper}{F0:ag}{Q:Act->ag->Prop}{o:Oper}{rest:List Oper}{a:Act}{F:ag}:kS P J ops F0 Q (o::rest) true a F=match cA ops o a with
  |some true=>cL P J o (fun v F'=>Knows F0 F'/\kS P J ops F0 Q rest (!Oper.calls o) (bt a o.dst v) F') a F
  |some false=>kS P J ops F0 Q rest true (bt a o.dst undef) F
  |none=>False:=(Eq.refl _).trans (Eq.refl _)
attribute [irreducible] kS
attribute [go_sem] EV EW
end Go.Sep
end

/- A part of the proof: QT4. -/
import Derived.Test.YtlchekhkopimhaaGreatDoorQT3
set_option linter.all false
section
namespace Go.Proofs.YtlchekhkopimhaaGreatDoor
open Go Go.Sep Go.Proofs
set_option maxRecDepth 100000
set_option maxHeartbeats 4000000
def aZ.setAt (x:aZ)(i n:Int):Option aZ:=if i=0 then some {x with e0:=n} else if i=1 then some {x with e1:=n} else if i=2 then some {x with e2:=n} else if i=3 then some {x with e3:=n} else none
def eg (f:aT->List (Option aT))(i hi:Int):Nat->aT->List (Option aT)×aT
 |0,v=>([none],v)
 |k+1,v=>match v.av.get i with
  |none=>([none],v)
  |some n=>if n<=hi then match v.av.setAt i (IntKind.i64.wrap (n+1)) with
    |none=>([none],v)
    |some x=>(f v++(eg f i hi k {v with av:=x}).1,(eg f i hi k {v with av:=x}).2)
   else ([],v)
def gi (f:aT->List (Option aT))(i hi b a:Int):Nat->aT->List (Option aT)
 |0,_=>[none]
 |k+1,v=>match v.au.get i with
  |none=>[none]
  |some n=>if n<=hi then match v.av.setAt i b with
    |none=>[none]
    |some x=>(eg f i a 200 {v with av:=x}).1++match (eg f i a 200 {v with av:=x}).2.au.setAt i (IntKind.i64.wrap (n+1)) with
     |none=>[none]
     |some y=>gi f i hi b a k {(eg f i a 200 {v with av:=x}).2 with au:=y}
   else []
def ep (b:ax):Nat->Int->aT->List (Option aT)
 |0,_,_=>[none]
 |fuel+1,i,v=>if i=b.ak.length then (match jm b v with
   |some true=>[some v]
   |some false=>[]
   |none=>[none])
  else match bD b.ak i with
   |none=>[none]
   |some e=>match v.au.setAt i e.from_.low with
    |none=>[none]
    |some x=>gi (ep b fuel (IntKind.i64.wrap (i+1))) i e.from_.high e.aD.low e.aD.high 200 {v with au:=x}
def qC (b:ax)(bits:Int):List (Option aT):=ep b 6 0 ⟨⟨0,0,0,0⟩,⟨0,0,0,0⟩,bits⟩
def qD (b:ax)(bits:Int):Option (List (Option aT)):=some (qC b bits)
section
variable {ro:Addr->Option Value}{σ:Type}{step:σ->aT->Option (Bool×σ)}{I:σ->List (Nat×Obj)->Prop}{y:Value}
def cB (y:Value)(b2 b3 b4:Nat):List (Nat×Obj):=
 [(b4,.cells #[.func (.func 169) #[] #[.pointer (some ⟨b2,0,none⟩),.pointer (some ⟨b3,0,none⟩),.pointer (some ⟨b4,0,none⟩)]] 118),(b3,.cells #[y] 115)]
theorem aZ.AK {x z:aZ}{i n:Int}(h:x.setAt i n=some z):i=0\/i=1\/i=2\/i=3:=by
 unfold aZ.setAt at h;split at h
 .exact .inl ‹_›
 .split at h
  .exact .inr (.inl ‹_›)
  .split at h
   .exact .inr (.inr (.inl ‹_›))
   .split at h
    .exact .inr (.inr (.inr ‹_›))
    .cases h
theorem GG (u0:ax){s2:Value}(b0:aH bK ro s2 u0.ak)(cl:vE Tryz.prog y aT.v step ro I)
  {b2 b3 b4:Nat} (db:ro ⟨b2,0,none⟩=some (.int .i64 u0.steps)) (dd:ro ⟨b2,1,none⟩=some (.int .i64 u0.aR)) (df:ro ⟨b2,2,none⟩=some s2) (n1:¬b4=b3) (dk:∀off sp,ro ⟨b4,off,sp⟩=none) (dp:∀off sp,ro ⟨b3,off,sp⟩=none):
  ∀(fuel:Nat) (i:Int) (v:aT) (s:σ) (c:Bool) (s':σ),dA step (ep u0 fuel i v) s=some (c,s')->∀(main:Bool) (J:Goroutine->af->Prop),Closed Tryz.prog main J->∀own,I s own->
   dh Tryz.prog J 169 #[v.v,.int .i64 i,.pointer (some ⟨b2,0,none⟩),.pointer (some ⟨b3,0,none⟩),.pointer (some ⟨b4,0,none⟩)] ⟨ro,cB y b2 b3 b4++own⟩
    (fun r F'=>∃d,Le ⟨ro,cB y b2 b3 b4++d⟩ F'/\r= .bool c/\I s' d):=by
 intro fuel
 induction fuel with
 |zero=>intro i v s c s' h;exact (kV h).elim
 |succ fuel ih=>
  intro i v s c s' h main J hJ own al
  obtain ⟨dq,ds,rfl,dt,du,e1⟩:=id b0
  refine dh.go hJ Tryz.func169 rfl Tryz.ntmps169 Tryz.results169 an fun A bc hd hs=>?_
  have bd:=hs 0
  have k1:=hs 1
  have bj:=hs 2
  have bk:=hs 3
  have bm:=hs 4
  clear hs
  have dv:(0:Int)<((4:Nat):Int):=aL
  have dC:(1:Int)<((4:Nat):Int):=aL
  have dE:(2:Int)<((4:Nat):Int):=aL
  have dT:(3:Int)<((4:Nat):Int):=aL
  unfold ep at h
  repeat refine ah hJ ?_
  refine aG hJ ?_
  simp only[cB,go_sem, *,-h]
  intro k f5;have ea:=cT f5;have cv:=cY f5
  simp only[List.cons_append,List.nil_append,aN] at cv
  try apply bu _
  repeat refine ah hJ ?_
  refine aG hJ ?_
  apply bu _
  repeat refine ah hJ ?_
  by_cases hi:i=(u0.ak.length:Int)
  .rw[if_pos hi] at h
   refine dn hJ dz ?_
   repeat refine ah hJ ?_
   refine aC hJ fun nd=>?_
   refine aG hJ ?_
   apply bu _
   cases ao:jm u0 v with
   |none=>rw[ao] at h;exact (kV h).elim
   |some r=>
    rw[ao] at h
    refine bh hJ _ (AJ u0 (b0.mono aY) v ao) (aJ ?_)
    cases r with
    |false=>
     cases h
     apply ag _
     repeat refine ah hJ ?_
     refine aO ?_
     apply ag _
     exact ⟨own,Le.sub (List.sublist_cons_self _ _),al⟩
    |true=>
     have cy:step s v=some (c,s'):=by
      simp only[dA] at h
      split at h<;>first|(cases h;assumption)|cases h
     apply bu _
     refine Fq hJ ((k,.cells #[.int .i64 v.au.e0,.int .i64 v.au.e1,.int .i64 v.au.e2,.int .i64 v.au.e3,.int .i64 v.av.e0,.int .i64 v.av.e1,.int .i64 v.av.e2,.int .i64 v.av.e3,.int .u64 v.aR] 114)::cB y b2 b3 b4) (fun m u B=>cl s v c s' cy m u B own al) nd ?_
     rintro w d ⟨rfl,C⟩ eb
     refine aJ ?_
     apply bu _
     repeat refine ah hJ ?_
     refine aO ?_
     apply bu _
     exact ⟨d,Le.sub (List.sublist_cons_self _ _),C⟩
  .rw[if_neg hi] at h
   have ec:(i==(u0.ak.length:Int))=false:=by simpa using hi
   refine dr hJ dz ?_
   refine aK hJ ?_
   cases ao:bD u0.ak i with
   |none=>rw[ao] at h;exact (kV h).elim
   |some e=>
    rw[ao] at h
    simp only at h
    have ed:=ao
    obtain ⟨eh,et,b1⟩:=cG ao
    obtain ⟨ev,cse,cS,c0,ar⟩:=e1 _ _ b1
    obtain ⟨sm,rfl,lm⟩:=c0
    obtain ⟨l,p,rfl,eQ,eS,em⟩:=id lm
    cases cS
    have ca:=ar 0 _ rfl;simp only[go_sem] at ca
    have cb:=ar 1 _ rfl;simp only[go_sem] at cb
    have m2:=ar 2 _ rfl;simp only[go_sem] at m2
    have cc:=ar 3 _ rfl;simp only[go_sem] at cc
    have cd:=ar 4 _ rfl;simp only[go_sem] at cd
    have cf:=ar 5 _ rfl;simp only[go_sem] at cf
    have ck:=ar 6 _ rfl;simp only[go_sem] at ck
    clear ar b1
    repeat refine ah hJ ?_
    refine aG hJ ?_
    apply bu _
    intro q f8;have fa:=cT f8;have da:=cY f8
    simp only[aN] at da
    try apply bu _
    clear ca cb m2 cc cd cf ck
    cases V:v.au.setAt i e.from_.low with
    |none=>rw[V] at h;exact (kV h).elim
    |some x=>
     rw[V] at h
     simp only at h
     rcases aZ.AK V with rfl|rfl|rfl|rfl
     .simp[aZ.setAt] at V
      subst V
      repeat refine ah hJ ?_
      refine aG hJ ?_
      apply bu _
      repeat refine ah hJ ?_
      refine aU hJ ?_
      refine bP hJ [7,36,37,38,39,40,41,42,43,44,45,46,47,48,49,50,51,52,53,54,55,56,57,58,59,60,61,62,63,64,65,66,67,68,69,70,71,72,73,74,75,76,77] (fun m a0 F'=>∃(v1:aT) (s1:σ) (t:List (Nat×Obj)),dA step (gi (ep u0 fuel (IntKind.i64.wrap (0+1))) 0 e.from_.high e.aD.low e.aD.high m v1) s1=some (c,s')/\F'=⟨ro,(q,.cells #[.string ⟨⟨e.name⟩⟩,.int .i64 e.from_.low,.int .i64 e.from_.high,.int .i64 e.wide,.int .i64 e.aD.low,.int .i64 e.aD.high,.slice l e.marks.length p] 31)::(k,.cells #[.int .i64 v1.au.e0,.int .i64 v1.au.e1,.int .i64 v1.au.e2,.int .i64 v1.au.e3,.int .i64 v1.av.e0,.int .i64 v1.av.e1,.int .i64 v1.av.e2,.int .i64 v1.av.e3,.int .u64 v1.aR] 114)::(cB y b2 b3 b4++t)⟩/\I s1 t) 200 ?_ ?_
      .exact ⟨_,s,own,h,by first|rfl|simp only[cB,List.cons_append,List.nil_append],al⟩
      .rintro m D F' g ⟨v1,s1,t,a,rfl,E⟩
       clear h al
       have a2:sz D=78:=by rw[g.size];simp only[*,go_sem]
       have a3:D.defers=[]:=by rw[g.defers];simp only[*,go_sem]
       have W:=g.bM 1 aL
       have X:=g.bM 2 aL
       have Y:=g.bM 3 aL
       have Z:=g.bM 4 aL
       have ab:=g.bM 5 aL
       have ad:=g.bM 8 aL
       simp only[*,go_sem] at W X Y Z ab ad
       clear g bd k1 bj bk bm bc hd
       obtain _|m:=m
       .exact (kV a).elim
       unfold gi at a
       obtain ⟨n,F⟩:∃n,v1.au.get 0=some n:=by simp[aZ.get]
       rw[F] at a
       simp only at a
       simp[aZ.get] at F
       subst F
       repeat refine ah hJ ?_
       refine eN hJ mixed 7 ⟨ro,[(q,.cells #[.string ⟨⟨e.name⟩⟩,.int .i64 e.from_.low,.int .i64 e.from_.high,.int .i64 e.wide,.int .i64 e.aD.low,.int .i64 e.aD.high,.slice l e.marks.length p] 31),(k,.cells #[.int .i64 v1.au.e0,.int .i64 v1.au.e1,.int .i64 v1.au.e2,.int .i64 v1.au.e3,.int .i64 v1.av.e0,.int .i64 v1.av.e1,.int .i64 v1.av.e2,.int .i64 v1.av.e3,.int .u64 v1.aR] 114)]⟩ (by simp only[*,go_sem,-a]) aj ?_
       simp only[*,go_sem,-a]
       repeat refine ah hJ ?_
       by_cases hn:v1.au.e0<=e.from_.high
       .rw[if_pos hn] at a
        refine dn hJ (by simp only[*,go_sem,-a]) ?_
        refine aK hJ ?_
        obtain ⟨x1,G⟩:∃z,v1.av.setAt 0 e.aD.low=some z:=by simp[aZ.setAt]
        rw[G] at a
        simp only at a
        simp[aZ.setAt] at G
        subst G
        repeat refine ah hJ ?_
        refine aU hJ ?_
        repeat refine ah hJ ?_
        refine aG hJ ?_
        simp only[*,go_sem,-a]
        repeat refine ah hJ ?_
        refine aU hJ ?_
        refine bP hJ [7,57,58,59,60,61,62,63,64,65,66,67,68,69,70,71,72,73,74,75,76,77] (fun m2 a0 F'=>∃(v2:aT) (s2:σ) (j:List (Nat×Obj)),dA step ((eg (ep u0 fuel (IntKind.i64.wrap (0+1))) 0 e.aD.high m2 v2).1++(match (eg (ep u0 fuel (IntKind.i64.wrap (0+1))) 0 e.aD.high m2 v2).2.au.setAt 0 (IntKind.i64.wrap (v1.au.e0+1)) with|none=>[none]|some y=>gi (ep u0 fuel (IntKind.i64.wrap (0+1))) 0 e.from_.high e.aD.low e.aD.high m {(eg (ep u0 fuel (IntKind.i64.wrap (0+1))) 0 e.aD.high m2 v2).2 with au:=y})) s2=some (c,s')/\v2.au=v1.au/\F'=⟨ro,(q,.cells #[.string ⟨⟨e.name⟩⟩,.int .i64 e.from_.low,.int .i64 e.from_.high,.int .i64 e.wide,.int .i64 e.aD.low,.int .i64 e.aD.high,.slice l e.marks.length p] 31)::(k,.cells #[.int .i64 v2.au.e0,.int .i64 v2.au.e1,.int .i64 v2.au.e2,.int .i64 v2.au.e3,.int .i64 v2.av.e0,.int .i64 v2.av.e1,.int .i64 v2.av.e2,.int .i64 v2.av.e3,.int .u64 v2.aR] 114)::(cB y b2 b3 b4++j)⟩/\I s2 j) 200 ?_ ?_
        .exact ⟨_,s1,t,a,rfl,rfl,E⟩
        .rintro m2 H F' f ⟨v2,s2,j,hM,b,rfl,K⟩
         clear a E
         have bo:cj [7,36,37,38,39,40,41,42,43,44,45,46,47,48,49,50,51,52,53,54,55,56,57,58,59,60,61,62,63,64,65,66,67,68,69,70,71,72,73,74,75,76,77] H D:=(f.eC aL).trans (by simp only[go_sem])
         have br:sz H=78:=by rw[f.size];simp only[*,go_sem]
         have bs:H.defers=[]:=by rw[f.defers];simp only[*,go_sem]
         have a4:=f.bM 1 aL
         have a5:=f.bM 2 aL
         have a6:=f.bM 3 aL
         have a7:=f.bM 4 aL
         have a8:=f.bM 5 aL
         have a9:=f.bM 8 aL
         simp only[*,go_sem] at a4 a5 a6 a7 a8 a9
         clear f W X Y Z ab ad a2 a3
         obtain _|m2:=m2
         .simp[eg,dA] at hM
         unfold eg at hM
         obtain ⟨bS,L⟩:∃n,v2.av.get 0=some n:=by simp[aZ.get]
         rw[L] at hM
         simp only at hM
         simp[aZ.get] at L
         subst L
         repeat refine ah hJ ?_
         refine eN hJ mixed 7 ⟨ro,[(q,.cells #[.string ⟨⟨e.name⟩⟩,.int .i64 e.from_.low,.int .i64 e.from_.high,.int .i64 e.wide,.int .i64 e.aD.low,.int .i64 e.aD.high,.slice l e.marks.length p] 31),(k,.cells #[.int .i64 v2.au.e0,.int .i64 v2.au.e1,.int .i64 v2.au.e2,.int .i64 v2.au.e3,.int .i64 v2.av.e0,.int .i64 v2.av.e1,.int .i64 v2.av.e2,.int .i64 v2.av.e3,.int .u64 v2.aR] 114)]⟩ (by simp only[*,go_sem,-hM,-b]) aj ?_
         simp only[*,go_sem,-hM,-b]
         repeat refine ah hJ ?_
         by_cases ae:v2.av.e0<=e.aD.high
         .simp only[if_pos ae] at hM
          refine dn hJ (by simp only[*,go_sem,-hM,-b]) ?_
          refine aK hJ ?_
          obtain ⟨x2,M⟩:∃z,v2.av.setAt 0 (IntKind.i64.wrap (v2.av.e0+1))=some z:=by simp[aZ.setAt]
          rw[M] at hM
          simp only at hM
          simp[aZ.setAt] at M
          subst M
          rw[List.append_assoc] at hM
          have ba:=sQ hM
          clear hM
          repeat refine ah hJ ?_
          refine aU hJ ?_
          repeat refine ah hJ ?_
          refine aC hJ fun nd=>?_
          refine aG hJ ?_
          simp only[cB,List.cons_append,List.nil_append,go_sem, *,-b]
          rcases ba with ⟨N,O,hM⟩|⟨O,rfl⟩
          .refine iw hJ (bn:=cB y b2 b3 b4++j) [(q,.cells #[.string ⟨⟨e.name⟩⟩,.int .i64 e.from_.low,.int .i64 e.from_.high,.int .i64 e.wide,.int .i64 e.aD.low,.int .i64 e.aD.high,.slice l e.marks.length p] 31),(k,.cells #[.int .i64 v2.au.e0,.int .i64 v2.au.e1,.int .i64 v2.au.e2,.int .i64 v2.au.e3,.int .i64 v2.av.e0,.int .i64 v2.av.e1,.int .i64 v2.av.e2,.int .i64 v2.av.e3,.int .u64 v2.aR] 114)] [] (by simp only[cB,List.append_nil,List.cons_append,List.nil_append]) (fun w o=>∃d:List (Nat×Obj),o=cB y b2 b3 b4++d/\w= .bool true/\I N d) (fun P u B=>(ih (IntKind.i64.wrap (0+1)) v2 s2 true N O P u B j K).mono (by rintro w F' ⟨d,hle,rfl,C⟩;exact ⟨_,⟨d,rfl,rfl,C⟩,hle⟩)) ?_
           rintro w o ⟨Q,rfl,rfl,R⟩ S T bb
           simp only[cB,List.append_nil,List.cons_append,List.nil_append] at T
           subst S
           refine ⟨_,Le.refl _,aJ ?_⟩
           simp only[*,go_sem,-hM,-b]
           repeat refine ah hJ ?_
           refine dr hJ (by simp only[*,go_sem,-hM,-b]) ?_
           refine aK hJ ?_
           repeat refine ah hJ ?_
           refine aG hJ ?_
           simp only[*,go_sem,-hM,-b]
           exact ⟨m2,Nat.lt_succ_self m2,_,Le.refl _,_,N,Q,hM,b,rfl,R⟩
          .refine iw hJ (bn:=cB y b2 b3 b4++j) [(q,.cells #[.string ⟨⟨e.name⟩⟩,.int .i64 e.from_.low,.int .i64 e.from_.high,.int .i64 e.wide,.int .i64 e.aD.low,.int .i64 e.aD.high,.slice l e.marks.length p] 31),(k,.cells #[.int .i64 v2.au.e0,.int .i64 v2.au.e1,.int .i64 v2.au.e2,.int .i64 v2.au.e3,.int .i64 v2.av.e0,.int .i64 v2.av.e1,.int .i64 v2.av.e2,.int .i64 v2.av.e3,.int .u64 v2.aR] 114)] [] (by simp only[cB,List.append_nil,List.cons_append,List.nil_append]) (fun w o=>∃d:List (Nat×Obj),o=cB y b2 b3 b4++d/\w= .bool false/\I s' d) (fun P u B=>(ih (IntKind.i64.wrap (0+1)) v2 s2 false s' O P u B j K).mono (by rintro w F' ⟨d,hle,rfl,C⟩;exact ⟨_,⟨d,rfl,rfl,C⟩,hle⟩)) ?_
           rintro w o ⟨Q,rfl,rfl,R⟩ S T bb
           simp only[cB,List.append_nil,List.cons_append,List.nil_append] at T
           subst S
           refine ⟨_,Le.refl _,aJ ?_⟩
           simp only[*,go_sem,-b]
           repeat refine ah hJ ?_
           refine dn hJ (by simp only[*,go_sem,-b]) ?_
           repeat refine ah hJ ?_
           refine aG hJ ?_
           simp only[*,go_sem,-b]
           repeat refine ah hJ ?_
           refine aO ?_
           simp only[*,go_sem,-b]
           exact ⟨Q,Le.sub ((List.sublist_cons_self _ _).trans (List.sublist_cons_self _ _)),R⟩
         .simp only[if_neg ae,List.nil_append] at hM
          rw[<-b] at hM
          refine dr hJ (by simp only[*,go_sem,-hM,-b]) ?_
          refine bJ ?_
          simp only[go_sem]
          obtain ⟨x3,U⟩:∃z,v2.au.setAt 0 (IntKind.i64.wrap (v2.au.e0+1))=some z:=by simp[aZ.setAt]
          rw[U] at hM
          simp only at hM
          simp[aZ.setAt] at U
          subst U
          repeat refine ah hJ ?_
          refine aG hJ ?_
          simp only[*,go_sem,-hM,-b]
          exact ⟨m,Nat.lt_succ_self m,_,Le.refl _,_,s2,j,hM,rfl,K⟩
       .rw[if_neg hn] at a
        simp only[dA,Option.some.injEq,Prod.mk.injEq] at a
        obtain ⟨rfl,rfl⟩:=a
        refine dr hJ bx ?_
        refine bJ ?_
        simp only[go_sem]
        repeat refine ah hJ ?_
        refine aG hJ ?_
        apply ag _
        repeat refine ah hJ ?_
        refine aO ?_
        apply ag _
        exact ⟨t,Le.sub ((List.sublist_cons_self _ _).trans (List.sublist_cons_self _ _)),E⟩
     .simp[aZ.setAt] at V
      subst V
      repeat refine ah hJ ?_
      refine aG hJ ?_
      apply bu _
      repeat refine ah hJ ?_
      refine aU hJ ?_
      refine bP hJ [7,36,37,38,39,40,41,42,43,44,45,46,47,48,49,50,51,52,53,54,55,56,57,58,59,60,61,62,63,64,65,66,67,68,69,70,71,72,73,74,75,76,77] (fun m a0 F'=>∃(v1:aT) (s1:σ) (t:List (Nat×Obj)),dA step (gi (ep u0 fuel (IntKind.i64.wrap (1+1))) 1 e.from_.high e.aD.low e.aD.high m v1) s1=some (c,s')/\F'=⟨ro,(q,.cells #[.string ⟨⟨e.name⟩⟩,.int .i64 e.from_.low,.int .i64 e.from_.high,.int .i64 e.wide,.int .i64 e.aD.low,.int .i64 e.aD.high,.slice l e.marks.length p] 31)::(k,.cells #[.int .i64 v1.au.e0,.int .i64 v1.au.e1,.int .i64 v1.au.e2,.int .i64 v1.au.e3,.int .i64 v1.av.e0,.int .i64 v1.av.e1,.int .i64 v1.av.e2,.int .i64 v1.av.e3,.int .u64 v1.aR] 114)::(cB y b2 b3 b4++t)⟩/\I s1 t) 200 ?_ ?_
      .exact ⟨_,s,own,h,by first|rfl|simp only[cB,List.cons_append,List.nil_append],al⟩
      .rintro m D F' g ⟨v1,s1,t,a,rfl,E⟩
       clear h al
       have a2:sz D=78:=by rw[g.size];simp only[*,go_sem]
       have a3:D.defers=[]:=by rw[g.defers];simp only[*,go_sem]
       have W:=g.bM 1 aL
       have X:=g.bM 2 aL
       have Y:=g.bM 3 aL
       have Z:=g.bM 4 aL
       have ab:=g.bM 5 aL
       have ad:=g.bM 8 aL
       simp only[*,go_sem] at W X Y Z ab ad
       clear g bd k1 bj bk bm bc hd
       obtain _|m:=m
       .exact (kV a).elim
       unfold gi at a
       obtain ⟨n,F⟩:∃n,v1.au.get 1=some n:=by simp[aZ.get]
       rw[F] at a
       simp only at a
       simp[aZ.get] at F
       subst F
       repeat refine ah hJ ?_
       refine eN hJ mixed 7 ⟨ro,[(q,.cells #[.string ⟨⟨e.name⟩⟩,.int .i64 e.from_.low,.int .i64 e.from_.high,.int .i64 e.wide,.int .i64 e.aD.low,.int .i64 e.aD.high,.slice l e.marks.length p] 31),(k,.cells #[.int .i64 v1.au.e0,.int .i64 v1.au.e1,.int .i64 v1.au.e2,.int .i64 v1.au.e3,.int .i64 v1.av.e0,.int .i64 v1.av.e1,.int .i64 v1.av.e2,.int .i64 v1.av.e3,.int .u64 v1.aR] 114)]⟩ (by simp only[*,go_sem,-a]) aj ?_
       simp only[*,go_sem,-a]
       repeat refine ah hJ ?_
       by_cases hn:v1.au.e1<=e.from_.high
       .rw[if_pos hn] at a
        refine dn hJ (by simp only[*,go_sem,-a]) ?_
        refine aK hJ ?_
        obtain ⟨x1,G⟩:∃z,v1.av.setAt 1 e.aD.low=some z:=by simp[aZ.setAt]
        rw[G] at a
        simp only at a
        simp[aZ.setAt] at G
        subst G
        repeat refine ah hJ ?_
        refine aU hJ ?_
        repeat refine ah hJ ?_
        refine aG hJ ?_
        simp only[*,go_sem,-a]
        repeat refine ah hJ ?_
        refine aU hJ ?_
        refine bP hJ [7,57,58,59,60,61,62,63,64,65,66,67,68,69,70,71,72,73,74,75,76,77] (fun m2 a0 F'=>∃(v2:aT) (s2:σ) (j:List (Nat×Obj)),dA step ((eg (ep u0 fuel (IntKind.i64.wrap (1+1))) 1 e.aD.high m2 v2).1++(match (eg (ep u0 fuel (IntKind.i64.wrap (1+1))) 1 e.aD.high m2 v2).2.au.setAt 1 (IntKind.i64.wrap (v1.au.e1+1)) with|none=>[none]|some y=>gi (ep u0 fuel (IntKind.i64.wrap (1+1))) 1 e.from_.high e.aD.low e.aD.high m {(eg (ep u0 fuel (IntKind.i64.wrap (1+1))) 1 e.aD.high m2 v2).2 with au:=y})) s2=some (c,s')/\v2.au=v1.au/\F'=⟨ro,(q,.cells #[.string ⟨⟨e.name⟩⟩,.int .i64 e.from_.low,.int .i64 e.from_.high,.int .i64 e.wide,.int .i64 e.aD.low,.int .i64 e.aD.high,.slice l e.marks.length p] 31)::(k,.cells #[.int .i64 v2.au.e0,.int .i64 v2.au.e1,.int .i64 v2.au.e2,.int .i64 v2.au.e3,.int .i64 v2.av.e0,.int .i64 v2.av.e1,.int .i64 v2.av.e2,.int .i64 v2.av.e3,.int .u64 v2.aR] 114)::(cB y b2 b3 b4++j)⟩/\I s2 j) 200 ?_ ?_
        .exact ⟨_,s1,t,a,rfl,rfl,E⟩
        .rintro m2 H F' f ⟨v2,s2,j,hM,b,rfl,K⟩
         clear a E
         have bo:cj [7,36,37,38,39,40,41,42,43,44,45,46,47,48,49,50,51,52,53,54,55,56,57,58,59,60,61,62,63,64,65,66,67,68,69,70,71,72,73,74,75,76,77] H D:=(f.eC aL).trans (by simp only[go_sem])
         have br:sz H=78:=by rw[f.size];simp only[*,go_sem]
         have bs:H.defers=[]:=by rw[f.defers];simp only[*,go_sem]
         have a4:=f.bM 1 aL
         have a5:=f.bM 2 aL
         have a6:=f.bM 3 aL
         have a7:=f.bM 4 aL
         have a8:=f.bM 5 aL
         have a9:=f.bM 8 aL
         simp only[*,go_sem] at a4 a5 a6 a7 a8 a9
         clear f W X Y Z ab ad a2 a3
         obtain _|m2:=m2
         .simp[eg,dA] at hM
         unfold eg at hM
         obtain ⟨bS,L⟩:∃n,v2.av.get 1=some n:=by simp[aZ.get]
         rw[L] at hM
         simp only at hM
         simp[aZ.get] at L
         subst L
         repeat refine ah hJ ?_
         refine eN hJ mixed 7 ⟨ro,[(q,.cells #[.string ⟨⟨e.name⟩⟩,.int .i64 e.from_.low,.int .i64 e.from_.high,.int .i64 e.wide,.int .i64 e.aD.low,.int .i64 e.aD.high,.slice l e.marks.length p] 31),(k,.cells #[.int .i64 v2.au.e0,.int .i64 v2.au.e1,.int .i64 v2.au.e2,.int .i64 v2.au.e3,.int .i64 v2.av.e0,.int .i64 v2.av.e1,.int .i64 v2.av.e2,.int .i64 v2.av.e3,.int .u64 v2.aR] 114)]⟩ (by simp only[*,go_sem,-hM,-b]) aj ?_
         simp only[*,go_sem,-hM,-b]
         repeat refine ah hJ ?_
         by_cases ae:v2.av.e1<=e.aD.high
         .simp only[if_pos ae] at hM
          refine dn hJ (by simp only[*,go_sem,-hM,-b]) ?_
          refine aK hJ ?_
          obtain ⟨x2,M⟩:∃z,v2.av.setAt 1 (IntKind.i64.wrap (v2.av.e1+1))=some z:=by simp[aZ.setAt]
          rw[M] at hM
          simp only at hM
          simp[aZ.setAt] at M
          subst M
          rw[List.append_assoc] at hM
          have ba:=sQ hM
          clear hM
          repeat refine ah hJ ?_
          refine aU hJ ?_
          repeat refine ah hJ ?_
          refine aC hJ fun nd=>?_
          refine aG hJ ?_
          simp only[cB,List.cons_append,List.nil_append,go_sem, *,-b]
          rcases ba with ⟨N,O,hM⟩|⟨O,rfl⟩
          .refine iw hJ (bn:=cB y b2 b3 b4++j) [(q,.cells #[.string ⟨⟨e.name⟩⟩,.int .i64 e.from_.low,.int .i64 e.from_.high,.int .i64 e.wide,.int .i64 e.aD.low,.int .i64 e.aD.high,.slice l e.marks.length p] 31),(k,.cells #[.int .i64 v2.au.e0,.int .i64 v2.au.e1,.int .i64 v2.au.e2,.int .i64 v2.au.e3,.int .i64 v2.av.e0,.int .i64 v2.av.e1,.int .i64 v2.av.e2,.int .i64 v2.av.e3,.int .u64 v2.aR] 114)] [] (by simp only[cB,List.append_nil,List.cons_append,List.nil_append]) (fun w o=>∃d:List (Nat×Obj),o=cB y b2 b3 b4++d/\w= .bool true/\I N d) (fun P u B=>(ih (IntKind.i64.wrap (1+1)) v2 s2 true N O P u B j K).mono (by rintro w F' ⟨d,hle,rfl,C⟩;exact ⟨_,⟨d,rfl,rfl,C⟩,hle⟩)) ?_
           rintro w o ⟨Q,rfl,rfl,R⟩ S T bb
           simp only[cB,List.append_nil,List.cons_append,List.nil_append] at T
           subst S
           refine ⟨_,Le.refl _,aJ ?_⟩
           simp only[*,go_sem,-hM,-b]
           repeat refine ah hJ ?_
           refine dr hJ (by simp only[*,go_sem,-hM,-b]) ?_
           refine aK hJ ?_
           repeat refine ah hJ ?_
           refine aG hJ ?_
           simp only[*,go_sem,-hM,-b]
           exact ⟨m2,Nat.lt_succ_self m2,_,Le.refl _,_,N,Q,hM,b,rfl,R⟩
          .refine iw hJ (bn:=cB y b2 b3 b4++j) [(q,.cells #[.string ⟨⟨e.name⟩⟩,.int .i64 e.from_.low,.int .i64 e.from_.high,.int .i64 e.wide,.int .i64 e.aD.low,.int .i64 e.aD.high,.slice l e.marks.length p] 31),(k,.cells #[.int .i64 v2.au.e0,.int .i64 v2.au.e1,.int .i64 v2.au.e2,.int .i64 v2.au.e3,.int .i64 v2.av.e0,.int .i64 v2.av.e1,.int .i64 v2.av.e2,.int .i64 v2.av.e3,.int .u64 v2.aR] 114)] [] (by simp only[cB,List.append_nil,List.cons_append,List.nil_append]) (fun w o=>∃d:List (Nat×Obj),o=cB y b2 b3 b4++d/\w= .bool false/\I s' d) (fun P u B=>(ih (IntKind.i64.wrap (1+1)) v2 s2 false s' O P u B j K).mono (by rintro w F' ⟨d,hle,rfl,C⟩;exact ⟨_,⟨d,rfl,rfl,C⟩,hle⟩)) ?_
           rintro w o ⟨Q,rfl,rfl,R⟩ S T bb
           simp only[cB,List.append_nil,List.cons_append,List.nil_append] at T
           subst S
           refine ⟨_,Le.refl _,aJ ?_⟩
           simp only[*,go_sem,-b]
           repeat refine ah hJ ?_
           refine dn hJ (by simp only[*,go_sem,-b]) ?_
           repeat refine ah hJ ?_
           refine aG hJ ?_
           simp only[*,go_sem,-b]
           repeat refine ah hJ ?_
           refine aO ?_
           simp only[*,go_sem,-b]
           exact ⟨Q,Le.sub ((List.sublist_cons_self _ _).trans (List.sublist_cons_self _ _)),R⟩
         .simp only[if_neg ae,List.nil_append] at hM
          rw[<-b] at hM
          refine dr hJ (by simp only[*,go_sem,-hM,-b]) ?_
          refine bJ ?_
          simp only[go_sem]
          obtain ⟨x3,U⟩:∃z,v2.au.setAt 1 (IntKind.i64.wrap (v2.au.e1+1))=some z:=by simp[aZ.setAt]
          rw[U] at hM
          simp only at hM
          simp[aZ.setAt] at U
          subst U
          repeat refine ah hJ ?_
          refine aG hJ ?_
          simp only[*,go_sem,-hM,-b]
          exact ⟨m,Nat.lt_succ_self m,_,Le.refl _,_,s2,j,hM,rfl,K⟩
       .rw[if_neg hn] at a
        simp only[dA,Option.some.injEq,Prod.mk.injEq] at a
        obtain ⟨rfl,rfl⟩:=a
        refine dr hJ bx ?_
        refine bJ ?_
        simp only[go_sem]
        repeat refine ah hJ ?_
        refine aG hJ ?_
        apply ag _
        repeat refine ah hJ ?_
        refine aO ?_
        apply ag _
        exact ⟨t,Le.sub ((List.sublist_cons_self _ _).trans (List.sublist_cons_self _ _)),E⟩
     .simp[aZ.setAt] at V
      subst V
      repeat refine ah hJ ?_
      refine aG hJ ?_
      apply bu _
      repeat refine ah hJ ?_
      refine aU hJ ?_
      refine bP hJ [7,36,37,38,39,40,41,42,43,44,45,46,47,48,49,50,51,52,53,54,55,56,57,58,59,60,61,62,63,64,65,66,67,68,69,70,71,72,73,74,75,76,77] (fun m a0 F'=>∃(v1:aT) (s1:σ) (t:List (Nat×Obj)),dA step (gi (ep u0 fuel (IntKind.i64.wrap (2+1))) 2 e.from_.high e.aD.low e.aD.high m v1) s1=some (c,s')/\F'=⟨ro,(q,.cells #[.string ⟨⟨e.name⟩⟩,.int .i64 e.from_.low,.int .i64 e.from_.high,.int .i64 e.wide,.int .i64 e.aD.low,.int .i64 e.aD.high,.slice l e.marks.length p] 31)::(k,.cells #[.int .i64 v1.au.e0,.int .i64 v1.au.e1,.int .i64 v1.au.e2,.int .i64 v1.au.e3,.int .i64 v1.av.e0,.int .i64 v1.av.e1,.int .i64 v1.av.e2,.int .i64 v1.av.e3,.int .u64 v1.aR] 114)::(cB y b2 b3 b4++t)⟩/\I s1 t) 200 ?_ ?_
      .exact ⟨_,s,own,h,by first|rfl|simp only[cB,List.cons_append,List.nil_append],al⟩
      .rintro m D F' g ⟨v1,s1,t,a,rfl,E⟩
       clear h al
       have a2:sz D=78:=by rw[g.size];simp only[*,go_sem]
       have a3:D.defers=[]:=by rw[g.defers];simp only[*,go_sem]
       have W:=g.bM 1 aL
       have X:=g.bM 2 aL
       have Y:=g.bM 3 aL
       have Z:=g.bM 4 aL
       have ab:=g.bM 5 aL
       have ad:=g.bM 8 aL
       simp only[*,go_sem] at W X Y Z ab ad
       clear g bd k1 bj bk bm bc hd
       obtain _|m:=m
       .exact (kV a).elim
       unfold gi at a
       obtain ⟨n,F⟩:∃n,v1.au.get 2=some n:=by simp[aZ.get]
       rw[F] at a
       simp only at a
       simp[aZ.get] at F
       subst F
       repeat refine ah hJ ?_
       refine eN hJ mixed 7 ⟨ro,[(q,.cells #[.string ⟨⟨e.name⟩⟩,.int .i64 e.from_.low,.int .i64 e.from_.high,.int .i64 e.wide,.int .i64 e.aD.low,.int .i64 e.aD.high,.slice l e.marks.length p] 31),(k,.cells #[.int .i64 v1.au.e0,.int .i64 v1.au.e1,.int .i64 v1.au.e2,.int .i64 v1.au.e3,.int .i64 v1.av.e0,.int .i64 v1.av.e1,.int .i64 v1.av.e2,.int .i64 v1.av.e3,.int .u64 v1.aR] 114)]⟩ (by simp only[*,go_sem,-a]) aj ?_
       simp only[*,go_sem,-a]
       repeat refine ah hJ ?_
       by_cases hn:v1.au.e2<=e.from_.high
       .rw[if_pos hn] at a
        refine dn hJ (by simp only[*,go_sem,-a]) ?_
        refine aK hJ ?_
        obtain ⟨x1,G⟩:∃z,v1.av.setAt 2 e.aD.low=some z:=by simp[aZ.setAt]
        rw[G] at a
        simp only at a
        simp[aZ.setAt] at G
        subst G
        repeat refine ah hJ ?_
        refine aU hJ ?_
        repeat refine ah hJ ?_
        refine aG hJ ?_
        simp only[*,go_sem,-a]
        repeat refine ah hJ ?_
        refine aU hJ ?_
        refine bP hJ [7,57,58,59,60,61,62,63,64,65,66,67,68,69,70,71,72,73,74,75,76,77] (fun m2 a0 F'=>∃(v2:aT) (s2:σ) (j:List (Nat×Obj)),dA step ((eg (ep u0 fuel (IntKind.i64.wrap (2+1))) 2 e.aD.high m2 v2).1++(match (eg (ep u0 fuel (IntKind.i64.wrap (2+1))) 2 e.aD.high m2 v2).2.au.setAt 2 (IntKind.i64.wrap (v1.au.e2+1)) with|none=>[none]|some y=>gi (ep u0 fuel (IntKind.i64.wrap (2+1))) 2 e.from_.high e.aD.low e.aD.high m {(eg (ep u0 fuel (IntKind.i64.wrap (2+1))) 2 e.aD.high m2 v2).2 with au:=y})) s2=some (c,s')/\v2.au=v1.au/\F'=⟨ro,(q,.cells #[.string ⟨⟨e.name⟩⟩,.int .i64 e.from_.low,.int .i64 e.from_.high,.int .i64 e.wide,.int .i64 e.aD.low,.int .i64 e.aD.high,.slice l e.marks.length p] 31)::(k,.cells #[.int .i64 v2.au.e0,.int .i64 v2.au.e1,.int .i64 v2.au.e2,.int .i64 v2.au.e3,.int .i64 v2.av.e0,.int .i64 v2.av.e1,.int .i64 v2.av.e2,.int .i64 v2.av.e3,.int .u64 v2.aR] 114)::(cB y b2 b3 b4++j)⟩/\I s2 j) 200 ?_ ?_
        .exact ⟨_,s1,t,a,rfl,rfl,E⟩
        .rintro m2 H F' f ⟨v2,s2,j,hM,b,rfl,K⟩
         clear a E
         have bo:cj [7,36,37,38,39,40,41,42,43,44,45,46,47,48,49,50,51,52,53,54,55,56,57,58,59,60,61,62,63,64,65,66,67,68,69,70,71,72,73,74,75,76,77] H D:=(f.eC aL).trans (by simp only[go_sem])
         have br:sz H=78:=by rw[f.size];simp only[*,go_sem]
         have bs:H.defers=[]:=by rw[f.defers];simp only[*,go_sem]
         have a4:=f.bM 1 aL
         have a5:=f.bM 2 aL
         have a6:=f.bM 3 aL
         have a7:=f.bM 4 aL
         have a8:=f.bM 5 aL
         have a9:=f.bM 8 aL
         simp only[*,go_sem] at a4 a5 a6 a7 a8 a9
         clear f W X Y Z ab ad a2 a3
         obtain _|m2:=m2
         .simp[eg,dA] at hM
         unfold eg at hM
         obtain ⟨bS,L⟩:∃n,v2.av.get 2=some n:=by simp[aZ.get]
         rw[L] at hM
         simp only at hM
         simp[aZ.get] at L
         subst L
         repeat refine ah hJ ?_
         refine eN hJ mixed 7 ⟨ro,[(q,.cells #[.string ⟨⟨e.name⟩⟩,.int .i64 e.from_.low,.int .i64 e.from_.high,.int .i64 e.wide,.int .i64 e.aD.low,.int .i64 e.aD.high,.slice l e.marks.length p] 31),(k,.cells #[.int .i64 v2.au.e0,.int .i64 v2.au.e1,.int .i64 v2.au.e2,.int .i64 v2.au.e3,.int .i64 v2.av.e0,.int .i64 v2.av.e1,.int .i64 v2.av.e2,.int .i64 v2.av.e3,.int .u64 v2.aR] 114)]⟩ (by simp only[*,go_sem,-hM,-b]) aj ?_
         simp only[*,go_sem,-hM,-b]
         repeat refine ah hJ ?_
         by_cases ae:v2.av.e2<=e.aD.high
         .simp only[if_pos ae] at hM
          refine dn hJ (by simp only[*,go_sem,-hM,-b]) ?_
          refine aK hJ ?_
          obtain ⟨x2,M⟩:∃z,v2.av.setAt 2 (IntKind.i64.wrap (v2.av.e2+1))=some z:=by simp[aZ.setAt]
          rw[M] at hM
          simp only at hM
          simp[aZ.setAt] at M
          subst M
          rw[List.append_assoc] at hM
          have ba:=sQ hM
          clear hM
          repeat refine ah hJ ?_
          refine aU hJ ?_
          repeat refine ah hJ ?_
          refine aC hJ fun nd=>?_
          refine aG hJ ?_
          simp only[cB,List.cons_append,List.nil_append,go_sem, *,-b]
          rcases ba with ⟨N,O,hM⟩|⟨O,rfl⟩
          .refine iw hJ (bn:=cB y b2 b3 b4++j) [(q,.cells #[.string ⟨⟨e.name⟩⟩,.int .i64 e.from_.low,.int .i64 e.from_.high,.int .i64 e.wide,.int .i64 e.aD.low,.int .i64 e.aD.high,.slice l e.marks.length p] 31),(k,.cells #[.int .i64 v2.au.e0,.int .i64 v2.au.e1,.int .i64 v2.au.e2,.int .i64 v2.au.e3,.int .i64 v2.av.e0,.int .i64 v2.av.e1,.int .i64 v2.av.e2,.int .i64 v2.av.e3,.int .u64 v2.aR] 114)] [] (by simp only[cB,List.append_nil,List.cons_append,List.nil_append]) (fun w o=>∃d:List (Nat×Obj),o=cB y b2 b3 b4++d/\w= .bool true/\I N d) (fun P u B=>(ih (IntKind.i64.wrap (2+1)) v2 s2 true N O P u B j K).mono (by rintro w F' ⟨d,hle,rfl,C⟩;exact ⟨_,⟨d,rfl,rfl,C⟩,hle⟩)) ?_
           rintro w o ⟨Q,rfl,rfl,R⟩ S T bb
           simp only[cB,List.append_nil,List.cons_append,List.nil_append] at T
           subst S
           refine ⟨_,Le.refl _,aJ ?_⟩
           simp only[*,go_sem,-hM,-b]
           repeat refine ah hJ ?_
           refine dr hJ (by simp only[*,go_sem,-hM,-b]) ?_
           refine aK hJ ?_
           repeat refine ah hJ ?_
           refine aG hJ ?_
           simp only[*,go_sem,-hM,-b]
           exact ⟨m2,Nat.lt_succ_self m2,_,Le.refl _,_,N,Q,hM,b,rfl,R⟩
          .refine iw hJ (bn:=cB y b2 b3 b4++j) [(q,.cells #[.string ⟨⟨e.name⟩⟩,.int .i64 e.from_.low,.int .i64 e.from_.high,.int .i64 e.wide,.int .i64 e.aD.low,.int .i64 e.aD.high,.slice l e.marks.length p] 31),(k,.cells #[.int .i64 v2.au.e0,.int .i64 v2.au.e1,.int .i64 v2.au.e2,.int .i64 v2.au.e3,.int .i64 v2.av.e0,.int .i64 v2.av.e1,.int .i64 v2.av.e2,.int .i64 v2.av.e3,.int .u64 v2.aR] 114)] [] (by simp only[cB,List.append_nil,List.cons_append,List.nil_append]) (fun w o=>∃d:List (Nat×Obj),o=cB y b2 b3 b4++d/\w= .bool false/\I s' d) (fun P u B=>(ih (IntKind.i64.wrap (2+1)) v2 s2 false s' O P u B j K).mono (by rintro w F' ⟨d,hle,rfl,C⟩;exact ⟨_,⟨d,rfl,rfl,C⟩,hle⟩)) ?_
           rintro w o ⟨Q,rfl,rfl,R⟩ S T bb
           simp only[cB,List.append_nil,List.cons_append,List.nil_append] at T
           subst S
           refine ⟨_,Le.refl _,aJ ?_⟩
           simp only[*,go_sem,-b]
           repeat refine ah hJ ?_
           refine dn hJ (by simp only[*,go_sem,-b]) ?_
           repeat refine ah hJ ?_
           refine aG hJ ?_
           simp only[*,go_sem,-b]
           repeat refine ah hJ ?_
           refine aO ?_
           simp only[*,go_sem,-b]
           exact ⟨Q,Le.sub ((List.sublist_cons_self _ _).trans (List.sublist_cons_self _ _)),R⟩
         .simp only[if_neg ae,List.nil_append] at hM
          rw[<-b] at hM
          refine dr hJ (by simp only[*,go_sem,-hM,-b]) ?_
          refine bJ ?_
          simp only[go_sem]
          obtain ⟨x3,U⟩:∃z,v2.au.setAt 2 (IntKind.i64.wrap (v2.au.e2+1))=some z:=by simp[aZ.setAt]
          rw[U] at hM
          simp only at hM
          simp[aZ.setAt] at U
          subst U
          repeat refine ah hJ ?_
          refine aG hJ ?_
          simp only[*,go_sem,-hM,-b]
          exact ⟨m,Nat.lt_succ_self m,_,Le.refl _,_,s2,j,hM,rfl,K⟩
       .rw[if_neg hn] at a
        simp only[dA,Option.some.injEq,Prod.mk.injEq] at a
        obtain ⟨rfl,rfl⟩:=a
        refine dr hJ bx ?_
        refine bJ ?_
        simp only[go_sem]
        repeat refine ah hJ ?_
        refine aG hJ ?_
        apply ag _
        repeat refine ah hJ ?_
        refine aO ?_
        apply ag _
        exact ⟨t,Le.sub ((List.sublist_cons_self _ _).trans (List.sublist_cons_self _ _)),E⟩
     .simp[aZ.setAt] at V
      subst V
      repeat refine ah hJ ?_
      refine aG hJ ?_
      apply bu _
      repeat refine ah hJ ?_
      refine aU hJ ?_
      refine bP hJ [7,36,37,38,39,40,41,42,43,44,45,46,47,48,49,50,51,52,53,54,55,56,57,58,59,60,61,62,63,64,65,66,67,68,69,70,71,72,73,74,75,76,77] (fun m a0 F'=>∃(v1:aT) (s1:σ) (t:List (Nat×Obj)),dA step (gi (ep u0 fuel (IntKind.i64.wrap (3+1))) 3 e.from_.high e.aD.low e.aD.high m v1) s1=some (c,s')/\F'=⟨ro,(q,.cells #[.string ⟨⟨e.name⟩⟩,.int .i64 e.from_.low,.int .i64 e.from_.high,.int .i64 e.wide,.int .i64 e.aD.low,.int .i64 e.aD.high,.slice l e.marks.length p] 31)::(k,.cells #[.int .i64 v1.au.e0,.int .i64 v1.au.e1,.int .i64 v1.au.e2,.int .i64 v1.au.e3,.int .i64 v1.av.e0,.int .i64 v1.av.e1,.int .i64 v1.av.e2,.int .i64 v1.av.e3,.int .u64 v1.aR] 114)::(cB y b2 b3 b4++t)⟩/\I s1 t) 200 ?_ ?_
      .exact ⟨_,s,own,h,by first|rfl|simp only[cB,List.cons_append,List.nil_append],al⟩
      .rintro m D F' g ⟨v1,s1,t,a,rfl,E⟩
       clear h al
       have a2:sz D=78:=by rw[g.size];simp only[*,go_sem]
       have a3:D.defers=[]:=by rw[g.defers];simp only[*,go_sem]
       have W:=g.bM 1 aL
       have X:=g.bM 2 aL
       have Y:=g.bM 3 aL
       have Z:=g.bM 4 aL
       have ab:=g.bM 5 aL
       have ad:=g.bM 8 aL
       simp only[*,go_sem] at W X Y Z ab ad
       clear g bd k1 bj bk bm bc hd
       obtain _|m:=m
       .exact (kV a).elim
       unfold gi at a
       obtain ⟨n,F⟩:∃n,v1.au.get 3=some n:=by simp[aZ.get]
       rw[F] at a
       simp only at a
       simp[aZ.get] at F
       subst F
       repeat refine ah hJ ?_
       refine eN hJ mixed 7 ⟨ro,[(q,.cells #[.string ⟨⟨e.name⟩⟩,.int .i64 e.from_.low,.int .i64 e.from_.high,.int .i64 e.wide,.int .i64 e.aD.low,.int .i64 e.aD.high,.slice l e.marks.length p] 31),(k,.cells #[.int .i64 v1.au.e0,.int .i64 v1.au.e1,.int .i64 v1.au.e2,.int .i64 v1.au.e3,.int .i64 v1.av.e0,.int .i64 v1.av.e1,.int .i64 v1.av.e2,.int .i64 v1.av.e3,.int .u64 v1.aR] 114)]⟩ (by simp only[*,go_sem,-a]) aj ?_
       simp only[*,go_sem,-a]
       repeat refine ah hJ ?_
       by_cases hn:v1.au.e3<=e.from_.high
       .rw[if_pos hn] at a
        refine dn hJ (by simp only[*,go_sem,-a]) ?_
        refine aK hJ ?_
        obtain ⟨x1,G⟩:∃z,v1.av.setAt 3 e.aD.low=some z:=by simp[aZ.setAt]
        rw[G] at a
        simp only at a
        simp[aZ.setAt] at G
        subst G
        repeat refine ah hJ ?_
        refine aU hJ ?_
        repeat refine ah hJ ?_
        refine aG hJ ?_
        simp only[*,go_sem,-a]
        repeat refine ah hJ ?_
        refine aU hJ ?_
        refine bP hJ [7,57,58,59,60,61,62,63,64,65,66,67,68,69,70,71,72,73,74,75,76,77] (fun m2 a0 F'=>∃(v2:aT) (s2:σ) (j:List (Nat×Obj)),dA step ((eg (ep u0 fuel (IntKind.i64.wrap (3+1))) 3 e.aD.high m2 v2).1++(match (eg (ep u0 fuel (IntKind.i64.wrap (3+1))) 3 e.aD.high m2 v2).2.au.setAt 3 (IntKind.i64.wrap (v1.au.e3+1)) with|none=>[none]|some y=>gi (ep u0 fuel (IntKind.i64.wrap (3+1))) 3 e.from_.high e.aD.low e.aD.high m {(eg (ep u0 fuel (IntKind.i64.wrap (3+1))) 3 e.aD.high m2 v2).2 with au:=y})) s2=some (c,s')/\v2.au=v1.au/\F'=⟨ro,(q,.cells #[.string ⟨⟨e.name⟩⟩,.int .i64 e.from_.low,.int .i64 e.from_.high,.int .i64 e.wide,.int .i64 e.aD.low,.int .i64 e.aD.high,.slice l e.marks.length p] 31)::(k,.cells #[.int .i64 v2.au.e0,.int .i64 v2.au.e1,.int .i64 v2.au.e2,.int .i64 v2.au.e3,.int .i64 v2.av.e0,.int .i64 v2.av.e1,.int .i64 v2.av.e2,.int .i64 v2.av.e3,.int .u64 v2.aR] 114)::(cB y b2 b3 b4++j)⟩/\I s2 j) 200 ?_ ?_
        .exact ⟨_,s1,t,a,rfl,rfl,E⟩
        .rintro m2 H F' f ⟨v2,s2,j,hM,b,rfl,K⟩
         clear a E
         have bo:cj [7,36,37,38,39,40,41,42,43,44,45,46,47,48,49,50,51,52,53,54,55,56,57,58,59,60,61,62,63,64,65,66,67,68,69,70,71,72,73,74,75,76,77] H D:=(f.eC aL).trans (by simp only[go_sem])
         have br:sz H=78:=by rw[f.size];simp only[*,go_sem]
         have bs:H.defers=[]:=by rw[f.defers];simp only[*,go_sem]
         have a4:=f.bM 1 aL
         have a5:=f.bM 2 aL
         have a6:=f.bM 3 aL
         have a7:=f.bM 4 aL
         have a8:=f.bM 5 aL
         have a9:=f.bM 8 aL
         simp only[*,go_sem] at a4 a5 a6 a7 a8 a9
         clear f W X Y Z ab ad a2 a3
         obtain _|m2:=m2
         .simp[eg,dA] at hM
         unfold eg at hM
         obtain ⟨bS,L⟩:∃n,v2.av.get 3=some n:=by simp[aZ.get]
         rw[L] at hM
         simp only at hM
         simp[aZ.get] at L
         subst L
         repeat refine ah hJ ?_
         refine eN hJ mixed 7 ⟨ro,[(q,.cells #[.string ⟨⟨e.name⟩⟩,.int .i64 e.from_.low,.int .i64 e.from_.high,.int .i64 e.wide,.int .i64 e.aD.low,.int .i64 e.aD.high,.slice l e.marks.length p] 31),(k,.cells #[.int .i64 v2.au.e0,.int .i64 v2.au.e1,.int .i64 v2.au.e2,.int .i64 v2.au.e3,.int .i64 v2.av.e0,.int .i64 v2.av.e1,.int .i64 v2.av.e2,.int .i64 v2.av.e3,.int .u64 v2.aR] 114)]⟩ (by simp only[*,go_sem,-hM,-b]) aj ?_
         simp only[*,go_sem,-hM,-b]
         repeat refine ah hJ ?_
         by_cases ae:v2.av.e3<=e.aD.high
         .simp only[if_pos ae] at hM
          refine dn hJ (by simp only[*,go_sem,-hM,-b]) ?_
          refine aK hJ ?_
          obtain ⟨x2,M⟩:∃z,v2.av.setAt 3 (IntKind.i64.wrap (v2.av.e3+1))=some z:=by simp[aZ.setAt]
          rw[M] at hM
          simp only at hM
          simp[aZ.setAt] at M
          subst M
          rw[List.append_assoc] at hM
          have ba:=sQ hM
          clear hM
          repeat refine ah hJ ?_
          refine aU hJ ?_
          repeat refine ah hJ ?_
          refine aC hJ fun nd=>?_
          refine aG hJ ?_
          simp only[cB,List.cons_append,List.nil_append,go_sem, *,-b]
          rcases ba with ⟨N,O,hM⟩|⟨O,rfl⟩
          .refine iw hJ (bn:=cB y b2 b3 b4++j) [(q,.cells #[.string ⟨⟨e.name⟩⟩,.int .i64 e.from_.low,.int .i64 e.from_.high,.int .i64 e.wide,.int .i64 e.aD.low,.int .i64 e.aD.high,.slice l e.marks.length p] 31),(k,.cells #[.int .i64 v2.au.e0,.int .i64 v2.au.e1,.int .i64 v2.au.e2,.int .i64 v2.au.e3,.int .i64 v2.av.e0,.int .i64 v2.av.e1,.int .i64 v2.av.e2,.int .i64 v2.av.e3,.int .u64 v2.aR] 114)] [] (by simp only[cB,List.append_nil,List.cons_append,List.nil_append]) (fun w o=>∃d:List (Nat×Obj),o=cB y b2 b3 b4++d/\w= .bool true/\I N d) (fun P u B=>(ih (IntKind.i64.wrap (3+1)) v2 s2 true N O P u B j K).mono (by rintro w F' ⟨d,hle,rfl,C⟩;exact ⟨_,⟨d,rfl,rfl,C⟩,hle⟩)) ?_
           rintro w o ⟨Q,rfl,rfl,R⟩ S T bb
           simp only[cB,List.append_nil,List.cons_append,List.nil_append] at T
           subst S
           refine ⟨_,Le.refl _,aJ ?_⟩
           simp only[*,go_sem,-hM,-b]
           repeat refine ah hJ ?_
           refine dr hJ (by simp only[*,go_sem,-hM,-b]) ?_
           refine aK hJ ?_
           repeat refine ah hJ ?_
           refine aG hJ ?_
           simp only[*,go_sem,-hM,-b]
           exact ⟨m2,Nat.lt_succ_self m2,_,Le.refl _,_,N,Q,hM,b,rfl,R⟩
          .refine iw hJ (bn:=cB y b2 b3 b4++j) [(q,.cells #[.string ⟨⟨e.name⟩⟩,.int .i64 e.from_.low,.int .i64 e.from_.high,.int .i64 e.wide,.int .i64 e.aD.low,.int .i64 e.aD.high,.slice l e.marks.length p] 31),(k,.cells #[.int .i64 v2.au.e0,.int .i64 v2.au.e1,.int .i64 v2.au.e2,.int .i64 v2.au.e3,.int .i64 v2.av.e0,.int .i64 v2.av.e1,.int .i64 v2.av.e2,.int .i64 v2.av.e3,.int .u64 v2.aR] 114)] [] (by simp only[cB,List.append_nil,List.cons_append,List.nil_append]) (fun w o=>∃d:List (Nat×Obj),o=cB y b2 b3 b4++d/\w= .bool false/\I s' d) (fun P u B=>(ih (IntKind.i64.wrap (3+1)) v2 s2 false s' O P u B j K).mono (by rintro w F' ⟨d,hle,rfl,C⟩;exact ⟨_,⟨d,rfl,rfl,C⟩,hle⟩)) ?_
           rintro w o ⟨Q,rfl,rfl,R⟩ S T bb
           simp only[cB,List.append_nil,List.cons_append,List.nil_append] at T
           subst S
           refine ⟨_,Le.refl _,aJ ?_⟩
           simp only[*,go_sem,-b]
           repeat refine ah hJ ?_
           refine dn hJ (by simp only[*,go_sem,-b]) ?_
           repeat refine ah hJ ?_
           refine aG hJ ?_
           simp only[*,go_sem,-b]
           repeat refine ah hJ ?_
           refine aO ?_
           simp only[*,go_sem,-b]
           exact ⟨Q,Le.sub ((List.sublist_cons_self _ _).trans (List.sublist_cons_self _ _)),R⟩
         .simp only[if_neg ae,List.nil_append] at hM
          rw[<-b] at hM
          refine dr hJ (by simp only[*,go_sem,-hM,-b]) ?_
          refine bJ ?_
          simp only[go_sem]
          obtain ⟨x3,U⟩:∃z,v2.au.setAt 3 (IntKind.i64.wrap (v2.au.e3+1))=some z:=by simp[aZ.setAt]
          rw[U] at hM
          simp only at hM
          simp[aZ.setAt] at U
          subst U
          repeat refine ah hJ ?_
          refine aG hJ ?_
          simp only[*,go_sem,-hM,-b]
          exact ⟨m,Nat.lt_succ_self m,_,Le.refl _,_,s2,j,hM,rfl,K⟩
       .rw[if_neg hn] at a
        simp only[dA,Option.some.injEq,Prod.mk.injEq] at a
        obtain ⟨rfl,rfl⟩:=a
        refine dr hJ bx ?_
        refine bJ ?_
        simp only[go_sem]
        repeat refine ah hJ ?_
        refine aG hJ ?_
        apply ag _
        repeat refine ah hJ ?_
        refine aO ?_
        apply ag _
        exact ⟨t,Le.sub ((List.sublist_cons_self _ _).trans (List.sublist_cons_self _ _)),E⟩
end
def e7 (u0:Int)(a:Int):Option Bool:=
 ai (l8 u0) fun x1=>cond (x1) (ai (l8 a) fun b=>cond (!b) (some true) (some (decide (u0<a)))) (some (decide (u0<a)))
theorem gx {ro:Addr->Option Value}(u0:Int)(a:Int){r:Bool}(h:e7 u0 a=some r):aE Tryz.prog 207 #[.int .i64 u0,.int .i64 a] ⟨ro,[]⟩ (fun v _=>v= .bool r):=by
 unfold e7 at h;refine aE.go Tryz.func207 rfl Tryz.ntmps207 Tryz.results207 an fun main J hJ A f hd hs=>?_;have g:=hs 0;have k1:=hs 1;clear hs;apply aB hJ _;apply aA hJ;revert h;refine bS fun x1 b h=>?_;apply ag _;refine bh hJ _ (sC u0 b) (aJ ?_);revert h;refine cS (fun c h=>?_) fun c h=>?_
 .revert h;refine bS fun i d h=>?_;apply ag _;refine bh hJ _ (sC a d) (aJ ?_);revert h;refine cS (fun e h=>?_) fun e h=>?_
  .cases h;apply ag _;apply aO;simp only[*,go_sem]
  cases h;apply ag _;apply aO;simp only[*,go_sem]
 cases h;apply ag _;apply aO;simp only[*,go_sem]
def kW (c:Int)(st:(Int×(List Int))):Option (Fl (Int×(List Int)) (Unit×(List Int))):=
 cond (decide (c<st.1)) (ai (bD st.2 st.1) fun b=>ai (bD st.2 (IntKind.i64.wrap (st.1 - 1))) fun a=>ai (e7 b a) fun d=>cond (d) (ai (bD (st.2.set (st.1).toNat a) (IntKind.i64.wrap (st.1 - 1))) fun e=>some (.nx ((IntKind.i64.wrap (st.1 - 1)),((st.2.set (st.1).toNat a).set (IntKind.i64.wrap (st.1 - 1)).toNat b)))) (some (.bk (st.1,st.2)))) (some (.bk (st.1,st.2)))
def mj (a:Int)(b:Int)(st:(Int×(List Int))):Option (Fl (Int×(List Int)) (Unit×(List Int))):=
 cond (decide (st.1<b)) (ai (aQ (kW a) fu (st.1,st.2)) fun o=>az o (fun c=>some (.nx ((IntKind.i64.wrap (st.1+1)),c.2))) (fun _ _=>none) (fun r=>some (.rt r))) (some (.bk (st.1,st.2)))
def qE (u0:(List Int))(a:Int)(b:Int):Option (Unit×(List Int)):=
 cond (List.isEmpty u0) none (ai (aQ (mj a b) fu ((IntKind.i64.wrap (a+1)),u0)) fun o=>az o (fun c=>some ((),c.2)) (fun _ _=>none) (fun r=>some r))
theorem GH {ro:Addr->Option Value}(u0:(List Int)){bT:Value}{H:List (Nat×Obj)}(w:aW rI ro 3 bT u0 H)(k:Int)(x:Int){r:(Unit×(List Int))}(h:qE u0 k x=some r):aE Tryz.prog 201 #[bT,.int .i64 k,.int .i64 x] ⟨ro,H⟩ (fun v G=>∃I,(v= .tuple #[]/\aW rI ro 3 bT r.2 I)/\Le ⟨ro,I⟩ G):=by
 obtain ⟨d1,c2,rfl,b4⟩:=w.len;unfold qE at h;revert h;refine cS (fun K h=>?_) fun K h=>?_
 .cases h
 obtain ⟨b,Y,rfl,rfl,ca⟩:=w.fN K;refine aE.go Tryz.func201 rfl Tryz.ntmps201 Tryz.results201 an fun main J hJ A Z hd hs=>?_;have ab:=hs 0;have k1:=hs 1;have ad:=hs 2;clear hs;apply ah hJ;refine aC hJ fun cb=>?_;apply aM hJ _;apply aU hJ;revert h;refine bS fun ae n al=>?_;refine bP hJ (rg 10 39 [6,7]) (fun m z F'=>∃(p:Array Value) (j:Int) (q:(List Int)),aQ (mj k x) m (j,q)=some ae/\F'=⟨ro,[(b,Obj.cells p 3)]⟩/\aW rI ro 3 (.slice (some ⟨b,0,none⟩) u0.length c2) q [(b,Obj.cells p 3)]/\slot z 6= .int .i64 j) fu ?_ ?_
 .refine ⟨Y,(IntKind.i64.wrap (k+1)),u0,n,rfl,w,?_⟩;simp only[*,go_sem]
 rintro s ao F' L ⟨p,j,q,n,rfl,M,ar⟩;obtain ⟨N,O,P⟩:=L.pick [0,1,2] aL;simp only[*,go_sem] at N O P;clear L Z hd ab k1 ad;obtain _|s:=s
 .exact absurd n (by simp only[aQ,reduceCtorEq,not_false_eq_true])
 revert n;refine bS fun cc h t=>?_;unfold mj at h;try dsimp only at h
 refine ah hJ (ah hJ ?_);refine aC hJ fun cd=>?_;apply aM hJ _;revert h;refine aV hJ (fun a0 h=>?_) fun a0 h=>?_
 .refine aK hJ (ah hJ ?_);refine aU hJ (ah hJ ?_);refine aC hJ fun cf=>?_;apply aM hJ _;apply aU hJ;revert h;refine bS fun a2 u Q=>?_;refine bP hJ (rg 16 33 [7]) (fun m z F'=>∃(d:Array Value) (a:Int) (e:(List Int)),aQ (kW k) m (a,e)=some a2/\F'=⟨ro,[(b,Obj.cells d 3)]⟩/\aW rI ro 3 (.slice (some ⟨b,0,none⟩) u0.length c2) e [(b,Obj.cells d 3)]/\slot z 7= .int .i64 a) fu ?_ ?_
  .refine ⟨p,j,q,u,rfl,M,?_⟩;simp only[*,go_sem]
  rintro m2 a3 F' B ⟨d,a,e,u,rfl,g,ck⟩;obtain ⟨a4,a5,a6⟩:=B.pick [0,1,2,6,10,11,12,15] aL;simp only[*,go_sem] at a4 a5 a6;have cl:cj (rg 10 39 [6,7]) a3 ao:=(B.eC aL).trans bx;clear B N O P ar;obtain _|m2:=m2
  .exact absurd u (by simp only[aQ,reduceCtorEq,not_false_eq_true])
  revert u;refine bS fun cv h l=>?_;unfold kW at h;try dsimp only at h
  refine ah hJ (ah hJ ?_);refine aC hJ fun cy=>?_;refine dR hJ mixed 15 1 bx aj ?_;revert h;refine cS (fun a7 h=>?_) fun a7 h=>?_
  .revert h;refine bS fun f a8 h=>?_;obtain ⟨c0,da,R⟩:=cG a8;have db:a<((u0.length:Nat):Int):=by have:=g.count;omega
   obtain ⟨a9,ba,bb⟩:=g.dL R;obtain rfl:a9=[.int .i64 f]:=ba;have S:=bb 0 _ rfl;simp only[go_sem] at S;have dd:=(Array.getElem?_eq_some_iff.1 S).1;revert h;refine bS fun c bc h=>?_;obtain ⟨df,dk,bd⟩:=cG bc;have dp:IntKind.i64.wrap (a - 1)<((u0.length:Nat):Int):=by have:=g.count;omega
   obtain ⟨bj,bk,bm⟩:=g.dL bd;obtain rfl:bj=[.int .i64 c]:=bk;have T:=bm 0 _ rfl;simp only[go_sem] at T;have dq:=(Array.getElem?_eq_some_iff.1 T).1;revert h;refine bS fun ds bo h=>?_;apply ag _;refine ⟨_,dW hJ fun F hF=>gx f c bo,eB ?_⟩;apply ag _;revert h;refine aV hJ (fun br h=>?_) fun br h=>?_
   .refine aK hJ (ah hJ ?_);apply aU hJ;refine aC hJ fun dt=>?_;refine ey hJ mixed [15,16,17] (.pure 0 (.pure 1 (.pure 2 (.pure 3 (.pure 4 (.pure 5 (.pure 6 (.pure 7 (.pure 8 (.rd 9 (.pure 10 (.pure 11 (.pure 12 (.rd 13 (.pure 14 (.last 15 (.pure 16 (.last 17 .done)))))))))))))))))) ⟨ro,[(b,Obj.cells d 3)]⟩ bx aj ?_;have C:aW rI ro 3 (.slice (some ⟨b,0,none⟩) u0.length c2) (e.set (a).toNat c) [(b,Obj.cells (bI d (a).toNat [.int .i64 c]) 3)]:=by have D:=g.gS (i:=(a).toNat) (y:=c) (by have:=R;have:=(List.getElem?_eq_some_iff.1 this).1;simpa only[List.length_set] using this) (cs:=[.int .i64 c]) rfl;simpa only[iP,ji,Nat.mul_one,Nat.add_zero] using D
    revert h;refine bS fun bs b0 h=>?_;cases h;obtain ⟨du,dv,U⟩:=cG b0;have dC:IntKind.i64.wrap (a - 1)<((u0.length:Nat):Int):=by have:=C.count;omega
    obtain ⟨b1,b2,b3⟩:=C.dL U;obtain rfl:b1=[.int .i64 bs]:=b2;have V:=b3 0 _ rfl;simp only[go_sem] at V;have dE:=(Array.getElem?_eq_some_iff.1 V).1;have W:aW rI ro 3 (.slice (some ⟨b,0,none⟩) u0.length c2) ((e.set (a).toNat c).set (IntKind.i64.wrap (a - 1)).toNat f) [(b,Obj.cells (bI (bI d (a).toNat [.int .i64 c]) (IntKind.i64.wrap (a - 1)).toNat [.int .i64 f]) 3)]:=by have D:=C.gS (i:=(IntKind.i64.wrap (a - 1)).toNat) (y:=f) (by have:=U;have:=(List.getElem?_eq_some_iff.1 this).1;simpa only[List.length_set] using this) (cs:=[.int .i64 f]) rfl;simpa only[iP,ji,Nat.mul_one,Nat.add_zero] using D
    apply ag _;obtain ⟨X,E⟩:∃o,o=(bI (bI d (a).toNat [.int .i64 c]) (IntKind.i64.wrap (a - 1)).toNat [.int .i64 f]):=⟨_,rfl⟩
    refine cq (F:=⟨ro,[(b,Obj.cells X 3)]⟩) hJ (by rw[E];exact Le.refl _) ?_;rw[<-E] at W;clear E;refine aC hJ fun dT=>?_;apply aM hJ _;refine ⟨m2,Nat.lt_succ_self _,_,Le.sub (List.Sublist.refl _),X,(IntKind.i64.wrap (a - 1)),((e.set (a).toNat c).set (IntKind.i64.wrap (a - 1)).toNat f),l,rfl,W,?_⟩;simp only[*,go_sem]
   cases h;apply bJ;simp only[go_sem];obtain rfl:=sI l;clear l;have h:=Q;dsimp only[az] at h;cases h;refine aC hJ fun ea=>?_;apply aM hJ _;refine ⟨s,Nat.lt_succ_self _,_,Le.sub (List.Sublist.refl _),d,(IntKind.i64.wrap (j+1)),e,t,rfl,g,?_⟩;simp only[*,go_sem]
  cases h;apply ag _;refine cE hJ ?_;apply bJ;simp only[go_sem];obtain rfl:=sI l;clear l;have h:=Q;dsimp only[az] at h;cases h;refine aC hJ fun eb=>?_;apply aM hJ _;refine ⟨s,Nat.lt_succ_self _,_,Le.sub (List.Sublist.refl _),d,(IntKind.i64.wrap (j+1)),e,t,rfl,g,?_⟩;simp only[*,go_sem]
 cases h;apply bJ;simp only[go_sem];obtain rfl:=sI t;clear t;have h:=al;dsimp only[az] at h;cases h;apply ag _;exact ⟨_,M,Le.sub (List.Sublist.refl _)⟩
end Go.Proofs.YtlchekhkopimhaaGreatDoor
end
section
namespace Go.Sep
open Go Go.Conc
variable {P:Program}{main:Bool}{J:Goroutine->af->Prop}{Q:Ex->Act->af->Prop}{a:Act}{F:af}
def Qn (E:Act->af->Prop)(Q:Ex->Act->af->Prop):Ex->Act->af->Prop
 | .normal,a,F=>∃F0,Le F0 F/\E a F0
 | .exit i,a,F=>Q (.exit i) a F
 | .ret,a,F=>Q .ret a F
theorem GI (E:Act->af->Prop)(Q:Ex->Act->af->Prop)(i:Nat)(a:Act)(F:af):Qn E Q (.exit i) a F=Q (.exit i) a F:=Eq.trans rfl rfl
theorem GK (E:Act->af->Prop)(Q:Ex->Act->af->Prop)(a:Act)(F:af):Qn E Q .ret a F=Q .ret a F:=Eq.trans rfl rfl
attribute [go_sem] GI GK
theorem Qn.intro {E:Act->af->Prop}(h:∃F0,Le F0 F/\E a F0):Qn E Q .normal a F:=h
theorem fo (hJ:Closed P main J){x y:Code}(E:Act->af->Prop)(c:Wp J x (Qn E Q) a F)(d:∀a F,E a F->Wp J y Q a F):Wp J (.seq x y) Q a F:=
 ah hJ (c.mono fun e a F b=>by
  cases e with
  |normal=>obtain ⟨F0,hle,f⟩:=b;exact cq hJ hle (d a F0 f)
  |exit i=>exact b
  |ret=>exact b)
theorem aW.cC {ro:Addr->Option Value}{e:TypeId}{b n cap:Nat}{l:List Int}{arr:Array Value}(h:aW rI ro e (.slice (some ⟨b,0,none⟩) n cap) l [(b,.cells arr e)]){i x:Int}(q:bD l i=some x):
  0<=i/\i<((n:Nat):Int)/\arr[i.toNat]?=some (.int .i64 x)/\i.toNat<arr.size:=by
 obtain ⟨a,f,c⟩:=cG q
 have g:=h.count
 obtain ⟨cs,d,hm⟩:=h.dL c
 obtain rfl:cs=[.int .i64 x]:=d
 have m:=hm 0 _ rfl
 have m:arr[i.toNat*1+0]?=some (.int .i64 x):=m
 rw[Nat.mul_one,Nat.add_zero] at m
 exact ⟨a,aa,m,(Array.getElem?_eq_some_iff.1 m).1⟩
theorem aW.eK {ro:Addr->Option Value}{e:TypeId}{b n cap:Nat}{l:List Int}{arr:Array Value}(h:aW rI ro e (.slice (some ⟨b,0,none⟩) n cap) l [(b,.cells arr e)]){i:Int}(a:0<=i)(c:i<((n:Nat):Int))(y:Int):
  aW rI ro e (.slice (some ⟨b,0,none⟩) n cap) (l.set i.toNat y) [(b,.cells (bI arr i.toNat [.int .i64 y]) e)]:=by
 have d:=h.count
 have:=h.gS (i:=i.toNat) (y:=y) aa (cs:=[.int .i64 y]) rfl
 rwa [show i.toNat*rI.n=i.toNat from Nat.mul_one _] at this
end Go.Sep
end
section
namespace Go.Proofs.YtlchekhkopimhaaGreatDoor
open Go Go.Sep Go.Proofs
set_option maxRecDepth 100000
set_option maxHeartbeats 4000000
def iR (e:Int)(a:Int)(st:(Int×(List Int))):Option (Fl (Int×(List Int)) (Unit×(List Int))):=
 cond (decide (e<=(IntKind.i64.wrap ((IntKind.i64.wrap (2*st.1))+1)))) (some (.bk (st.1,st.2))) (cond (decide ((IntKind.i64.wrap ((IntKind.i64.wrap ((IntKind.i64.wrap (2*st.1))+1))+1))<e)) (ai (bD st.2 (IntKind.i64.wrap (a+(IntKind.i64.wrap ((IntKind.i64.wrap (2*st.1))+1))))) fun b=>ai (bD st.2 (IntKind.i64.wrap ((IntKind.i64.wrap (a+(IntKind.i64.wrap ((IntKind.i64.wrap (2*st.1))+1))))+1))) fun i=>ai (e7 b i) fun j=>cond (j) (ai (bD st.2 (IntKind.i64.wrap (a+st.1))) fun f=>ai (bD st.2 (IntKind.i64.wrap (a+(IntKind.i64.wrap ((IntKind.i64.wrap ((IntKind.i64.wrap (2*st.1))+1))+1))))) fun c=>ai (e7 f c) fun k=>cond (!k) (some (.rt ((),st.2))) (ai (bD (st.2.set (IntKind.i64.wrap (a+st.1)).toNat c) (IntKind.i64.wrap (a+(IntKind.i64.wrap ((IntKind.i64.wrap ((IntKind.i64.wrap (2*st.1))+1))+1))))) fun n=>some (.nx ((IntKind.i64.wrap ((IntKind.i64.wrap ((IntKind.i64.wrap (2*st.1))+1))+1)),((st.2.set (IntKind.i64.wrap (a+st.1)).toNat c).set (IntKind.i64.wrap (a+(IntKind.i64.wrap ((IntKind.i64.wrap ((IntKind.i64.wrap (2*st.1))+1))+1)))).toNat f))))) (ai (bD st.2 (IntKind.i64.wrap (a+st.1))) fun g=>ai (e7 g b) fun l=>cond (!l) (some (.rt ((),st.2))) (ai (bD (st.2.set (IntKind.i64.wrap (a+st.1)).toNat b) (IntKind.i64.wrap (a+(IntKind.i64.wrap ((IntKind.i64.wrap (2*st.1))+1))))) fun o=>some (.nx ((IntKind.i64.wrap ((IntKind.i64.wrap (2*st.1))+1)),((st.2.set (IntKind.i64.wrap (a+st.1)).toNat b).set (IntKind.i64.wrap (a+(IntKind.i64.wrap ((IntKind.i64.wrap (2*st.1))+1)))).toNat g)))))) (ai (bD st.2 (IntKind.i64.wrap (a+st.1))) fun h=>ai (bD st.2 (IntKind.i64.wrap (a+(IntKind.i64.wrap ((IntKind.i64.wrap (2*st.1))+1))))) fun d=>ai (e7 h d) fun m=>cond (!m) (some (.rt ((),st.2))) (ai (bD (st.2.set (IntKind.i64.wrap (a+st.1)).toNat d) (IntKind.i64.wrap (a+(IntKind.i64.wrap ((IntKind.i64.wrap (2*st.1))+1))))) fun p=>some (.nx ((IntKind.i64.wrap ((IntKind.i64.wrap (2*st.1))+1)),((st.2.set (IntKind.i64.wrap (a+st.1)).toNat d).set (IntKind.i64.wrap (a+(IntKind.i64.wrap ((IntKind.i64.wrap (2*st.1))+1)))).toNat h))))))
def mm (u0:(List Int))(a:Int)(b:Int)(c:Int):Option (Unit×(List Int)):=
 cond (List.isEmpty u0) none (ai (aQ (iR b c) fu (a,u0)) fun o=>az o (fun d=>some ((),d.2)) (fun _ _=>none) (fun r=>some r))
theorem AL {ro:Addr->Option Value}(u0:(List Int)){bT:Value}{L:List (Nat×Obj)}(x:aW rI ro 3 bT u0 L)(z:Int)(B:Int)(b:Int){r:(Unit×(List Int))}(h:mm u0 z B b=some r):aE Tryz.prog 221 #[bT,.int .i64 z,.int .i64 B,.int .i64 b] ⟨ro,L⟩ (fun v G=>∃M,(v= .tuple #[]/\aW rI ro 3 bT r.2 M)/\Le ⟨ro,M⟩ G):=by
 obtain ⟨d1,c2,rfl,fv⟩:=x.len;unfold mm at h;revert h;refine cS (fun N h=>?_) fun N h=>?_
 .cases h
 obtain ⟨c,a7,rfl,rfl,fw⟩:=x.fN N;refine aE.go Tryz.func221 rfl Tryz.ntmps221 Tryz.results221 an fun main J hJ A a8 hd hs=>?_;have a9:=hs 0;have k1:=hs 1;have ba:=hs 2;have bb:=hs 3;clear hs;apply ah hJ;refine aC hJ fun fx=>?_;apply aM hJ _;apply aU hJ;revert h;refine bS fun bc u w=>?_;refine bP hJ (rg 11 65 [8,9]) (fun m bd F'=>∃(e:Array Value) (a:Int) (f:(List Int)),aQ (iR B b) m (a,f)=some bc/\F'=⟨ro,[(c,Obj.cells e 3)]⟩/\aW rI ro 3 (.slice (some ⟨c,0,none⟩) u0.length c2) f [(c,Obj.cells e 3)]/\slot bd 8= .int .i64 a) fu ?_ ?_
 .refine ⟨a7,z,u0,u,rfl,x,?_⟩;simp only[*,go_sem]
 rintro t fz F' O ⟨e,a,f,u,rfl,d,gg⟩;obtain ⟨bj,bk,bm⟩:=O.pick [0,2,3] aL;simp only[*,go_sem] at bj bk bm;clear O a8 hd a9 k1 ba bb;obtain _|t:=t
 .exact absurd u (by simp only[aQ,reduceCtorEq,not_false_eq_true])
 revert u;refine bS fun gj h g=>?_;unfold iR at h;try dsimp only at h
 refine aU hJ (ah hJ ?_);refine aC hJ fun gl=>?_;apply aM hJ _;refine ah hJ (ah hJ ?_);refine aC hJ fun gn=>?_;apply aM hJ _;revert h;refine aV hJ (fun bo h=>?_) fun bo h=>?_
 .cases h;apply bJ;simp only[go_sem];obtain rfl:=sI g;clear g;have h:=w;dsimp only[az] at h;cases h;apply ag _;exact ⟨_,d,Le.sub (List.Sublist.refl _)⟩
 refine aK hJ (ah hJ ?_);apply ah hJ;refine aC hJ fun gp=>?_;refine dR hJ mixed 20 1 bx aj ?_;revert h;refine cS (fun br h=>?_) fun br h=>?_
 .revert h;refine bS fun j bs h=>?_;obtain ⟨gy,g0,b0⟩:=cG bs;have g1:IntKind.i64.wrap (b+(IntKind.i64.wrap ((IntKind.i64.wrap (2*a))+1)))<((u0.length:Nat):Int):=by have:=d.count;omega
  obtain ⟨b1,b2,b3⟩:=d.dL b0;obtain rfl:b1=[.int .i64 j]:=b2;have P:=b3 0 _ rfl;simp only[go_sem] at P;have g2:=(Array.getElem?_eq_some_iff.1 P).1;revert h;refine bS fun Q b4 h=>?_;obtain ⟨g3,g4,ca⟩:=cG b4;have g7:IntKind.i64.wrap ((IntKind.i64.wrap (b+(IntKind.i64.wrap ((IntKind.i64.wrap (2*a))+1))))+1)<((u0.length:Nat):Int):=by have:=d.count;omega
  obtain ⟨cb,cc,cd⟩:=d.dL ca;obtain rfl:cb=[.int .i64 Q]:=cc;have R:=cd 0 _ rfl;simp only[go_sem] at R;have ha:=(Array.getElem?_eq_some_iff.1 R).1;revert h;refine bS fun hc cf h=>?_;try apply ag _
  refine ⟨_,dW hJ fun F hF=>gx j Q cf,eB ?_⟩;try apply ag _
  revert h;refine aV hJ (fun ck h=>?_) fun ck h=>?_
  .refine aC hJ fun hf=>?_;apply aM hJ _;refine ah hJ (ah hJ ?_);refine aC hJ fun hg=>?_;refine dR hJ mixed 14 1 bx aj ?_;revert h;refine bS fun p cl h=>?_;obtain ⟨hh,hi,S⟩:=cG cl;have hj:IntKind.i64.wrap (b+a)<((u0.length:Nat):Int):=by have:=d.count;omega
   obtain ⟨cv,cy,c0⟩:=d.dL S;obtain rfl:cv=[.int .i64 p]:=cy;have T:=c0 0 _ rfl;simp only[go_sem] at T;have hk:=(Array.getElem?_eq_some_iff.1 T).1;revert h;refine bS fun l da h=>?_;obtain ⟨hl,hn,db⟩:=cG da;have ho:IntKind.i64.wrap (b+(IntKind.i64.wrap ((IntKind.i64.wrap ((IntKind.i64.wrap (2*a))+1))+1)))<((u0.length:Nat):Int):=by have:=d.count;omega
   obtain ⟨dd,df,dk⟩:=d.dL db;obtain rfl:dd=[.int .i64 l]:=df;have U:=dk 0 _ rfl;simp only[go_sem] at U;have hp:=(Array.getElem?_eq_some_iff.1 U).1;revert h;refine bS fun hq dp h=>?_;(try apply ag _);refine ⟨_,dW hJ fun F hF=>gx p l dp,eB ?_⟩;(try apply ag _);revert h;refine aV hJ (fun dq h=>?_) fun dq h=>?_
   .cases h;obtain rfl:=sI g;clear g;have h:=w;dsimp only[az] at h;cases h;refine b5 ?_;exact ⟨_,d,Le.sub (List.Sublist.refl _)⟩
   refine aK hJ (ah hJ ?_);refine aC hJ fun hr=>?_;refine ey hJ mixed [21,22,23] (.pure 0 (.pure 1 (.pure 2 (.pure 3 (.pure 4 (.pure 5 (.pure 6 (.pure 7 (.pure 8 (.pure 9 (.pure 10 (.pure 11 (.pure 12 (.rd 13 (.pure 14 (.pure 15 (.pure 16 (.pure 17 (.pure 18 (.rd 19 (.pure 20 (.last 21 (.pure 22 (.last 23 .done)))))))))))))))))))))))) ⟨ro,[(c,Obj.cells e 3)]⟩ bx aj ?_;have C:aW rI ro 3 (.slice (some ⟨c,0,none⟩) u0.length c2) (f.set (IntKind.i64.wrap (b+a)).toNat l) [(c,Obj.cells (bI e (IntKind.i64.wrap (b+a)).toNat [.int .i64 l]) 3)]:=by have k:=d.gS (i:=(IntKind.i64.wrap (b+a)).toNat) (y:=l) (by have:=S;have:=(List.getElem?_eq_some_iff.1 this).1;simpa only[List.length_set] using this) (cs:=[.int .i64 l]) rfl;simpa only[iP,ji,Nat.mul_one,Nat.add_zero] using k
   revert h;refine bS fun ds dt h=>?_;cases h;obtain ⟨ht,hv,V⟩:=cG dt;have hx:IntKind.i64.wrap (b+(IntKind.i64.wrap ((IntKind.i64.wrap ((IntKind.i64.wrap (2*a))+1))+1)))<((u0.length:Nat):Int):=by have:=C.count;omega
   obtain ⟨du,dv,dC⟩:=C.dL V;obtain rfl:du=[.int .i64 ds]:=dv;have W:=dC 0 _ rfl;simp only[go_sem] at W;have hy:=(Array.getElem?_eq_some_iff.1 W).1;have X:aW rI ro 3 (.slice (some ⟨c,0,none⟩) u0.length c2) ((f.set (IntKind.i64.wrap (b+a)).toNat l).set (IntKind.i64.wrap (b+(IntKind.i64.wrap ((IntKind.i64.wrap ((IntKind.i64.wrap (2*a))+1))+1)))).toNat p) [(c,Obj.cells (bI (bI e (IntKind.i64.wrap (b+a)).toNat [.int .i64 l]) (IntKind.i64.wrap (b+(IntKind.i64.wrap ((IntKind.i64.wrap ((IntKind.i64.wrap (2*a))+1))+1)))).toNat [.int .i64 p]) 3)]:=by have k:=C.gS (i:=(IntKind.i64.wrap (b+(IntKind.i64.wrap ((IntKind.i64.wrap ((IntKind.i64.wrap (2*a))+1))+1)))).toNat) (y:=p) (by have:=V;have:=(List.getElem?_eq_some_iff.1 this).1;simpa only[List.length_set] using this) (cs:=[.int .i64 p]) rfl;simpa only[iP,ji,Nat.mul_one,Nat.add_zero] using k
   (try apply ag _);obtain ⟨Y,D⟩:∃o,o=(bI (bI e (IntKind.i64.wrap (b+a)).toNat [.int .i64 l]) (IntKind.i64.wrap (b+(IntKind.i64.wrap ((IntKind.i64.wrap ((IntKind.i64.wrap (2*a))+1))+1)))).toNat [.int .i64 p]):=⟨_,rfl⟩
   refine cq (F:=⟨ro,[(c,Obj.cells Y 3)]⟩) hJ (by rw[D];exact Le.refl _) ?_;rw[<-D] at X;clear D;refine aC hJ fun hz=>?_;apply aM hJ _;(try apply ag _);refine ⟨t,Nat.lt_succ_self _,_,Le.sub (List.Sublist.refl _),Y,(IntKind.i64.wrap ((IntKind.i64.wrap ((IntKind.i64.wrap (2*a))+1))+1)),((f.set (IntKind.i64.wrap (b+a)).toNat l).set (IntKind.i64.wrap (b+(IntKind.i64.wrap ((IntKind.i64.wrap ((IntKind.i64.wrap (2*a))+1))+1)))).toNat p),g,rfl,X,?_⟩;simp only[*,go_sem]
  refine aK hJ (ah hJ ?_);apply ah hJ;refine aC hJ fun hA=>?_;refine dR hJ mixed 14 1 bx aj ?_;revert h;refine bS fun q dE h=>?_;obtain ⟨hB,hD,Z⟩:=cG dE;have hE:IntKind.i64.wrap (b+a)<((u0.length:Nat):Int):=by have:=d.count;omega
  obtain ⟨dT,ea,eb⟩:=d.dL Z;obtain rfl:dT=[.int .i64 q]:=ea;have ab:=eb 0 _ rfl;simp only[go_sem] at ab;have hG:=(Array.getElem?_eq_some_iff.1 ab).1;revert h;refine bS fun hH ec h=>?_;try apply ag _
  refine ⟨_,dW hJ fun F hF=>gx q j ec,eB ?_⟩;try apply ag _
  revert h;refine aV hJ (fun ed h=>?_) fun ed h=>?_
  .cases h;obtain rfl:=sI g;clear g;have h:=w;dsimp only[az] at h;cases h;refine b5 ?_;exact ⟨_,d,Le.sub (List.Sublist.refl _)⟩
  refine aK hJ (ah hJ ?_);refine aC hJ fun hI=>?_;refine ey hJ mixed [21,22,23] (.pure 0 (.pure 1 (.pure 2 (.pure 3 (.pure 4 (.pure 5 (.pure 6 (.pure 7 (.pure 8 (.pure 9 (.pure 10 (.pure 11 (.pure 12 (.rd 13 (.pure 14 (.pure 15 (.pure 16 (.pure 17 (.pure 18 (.rd 19 (.pure 20 (.last 21 (.pure 22 (.last 23 .done)))))))))))))))))))))))) ⟨ro,[(c,Obj.cells e 3)]⟩ bx aj ?_;have E:aW rI ro 3 (.slice (some ⟨c,0,none⟩) u0.length c2) (f.set (IntKind.i64.wrap (b+a)).toNat j) [(c,Obj.cells (bI e (IntKind.i64.wrap (b+a)).toNat [.int .i64 j]) 3)]:=by have k:=d.gS (i:=(IntKind.i64.wrap (b+a)).toNat) (y:=j) (by have:=Z;have:=(List.getElem?_eq_some_iff.1 this).1;simpa only[List.length_set] using this) (cs:=[.int .i64 j]) rfl;simpa only[iP,ji,Nat.mul_one,Nat.add_zero] using k
  revert h;refine bS fun eh et h=>?_;cases h;obtain ⟨hK,hL,ad⟩:=cG et;have hM:IntKind.i64.wrap (b+(IntKind.i64.wrap ((IntKind.i64.wrap (2*a))+1)))<((u0.length:Nat):Int):=by have:=E.count;omega
  obtain ⟨ev,eQ,eS⟩:=E.dL ad;obtain rfl:ev=[.int .i64 eh]:=eQ;have ae:=eS 0 _ rfl;simp only[go_sem] at ae;have hN:=(Array.getElem?_eq_some_iff.1 ae).1;have al:aW rI ro 3 (.slice (some ⟨c,0,none⟩) u0.length c2) ((f.set (IntKind.i64.wrap (b+a)).toNat j).set (IntKind.i64.wrap (b+(IntKind.i64.wrap ((IntKind.i64.wrap (2*a))+1)))).toNat q) [(c,Obj.cells (bI (bI e (IntKind.i64.wrap (b+a)).toNat [.int .i64 j]) (IntKind.i64.wrap (b+(IntKind.i64.wrap ((IntKind.i64.wrap (2*a))+1)))).toNat [.int .i64 q]) 3)]:=by have k:=E.gS (i:=(IntKind.i64.wrap (b+(IntKind.i64.wrap ((IntKind.i64.wrap (2*a))+1)))).toNat) (y:=q) (by have:=ad;have:=(List.getElem?_eq_some_iff.1 this).1;simpa only[List.length_set] using this) (cs:=[.int .i64 q]) rfl;simpa only[iP,ji,Nat.mul_one,Nat.add_zero] using k
  try apply ag _
  obtain ⟨ao,H⟩:∃o,o=(bI (bI e (IntKind.i64.wrap (b+a)).toNat [.int .i64 j]) (IntKind.i64.wrap (b+(IntKind.i64.wrap ((IntKind.i64.wrap (2*a))+1)))).toNat [.int .i64 q]):=⟨_,rfl⟩
  refine cq (F:=⟨ro,[(c,Obj.cells ao 3)]⟩) hJ (by rw[H];exact Le.refl _) ?_;rw[<-H] at al;clear H;refine aC hJ fun hP=>?_;apply aM hJ _;try apply ag _
  refine ⟨t,Nat.lt_succ_self _,_,Le.sub (List.Sublist.refl _),ao,(IntKind.i64.wrap ((IntKind.i64.wrap (2*a))+1)),((f.set (IntKind.i64.wrap (b+a)).toNat j).set (IntKind.i64.wrap (b+(IntKind.i64.wrap ((IntKind.i64.wrap (2*a))+1)))).toNat q),g,rfl,al,?_⟩;simp only[*,go_sem]
 try apply ag _
 refine cE hJ ?_;refine aK hJ (ah hJ ?_);apply ah hJ;refine aC hJ fun hQ=>?_;refine dR hJ mixed 14 1 bx aj ?_;revert h;refine bS fun s e0 h=>?_;obtain ⟨hR,hS,ar⟩:=cG e0;have hT:IntKind.i64.wrap (b+a)<((u0.length:Nat):Int):=by have:=d.count;omega
 obtain ⟨e1,e2,e3⟩:=d.dL ar;obtain rfl:e1=[.int .i64 s]:=e2;have a0:=e3 0 _ rfl;simp only[go_sem] at a0;have hV:=(Array.getElem?_eq_some_iff.1 a0).1;revert h;refine bS fun n fa h=>?_;obtain ⟨hX,hY,fb⟩:=cG fa;have hZ:IntKind.i64.wrap (b+(IntKind.i64.wrap ((IntKind.i64.wrap (2*a))+1)))<((u0.length:Nat):Int):=by have:=d.count;omega
 obtain ⟨fc,fg,fh⟩:=d.dL fb;obtain rfl:fc=[.int .i64 n]:=fg;have a2:=fh 0 _ rfl;simp only[go_sem] at a2;have h0:=(Array.getElem?_eq_some_iff.1 a2).1;revert h;refine bS fun h1 fi h=>?_;try apply ag _
 refine ⟨_,dW hJ fun F hF=>gx s n fi,eB ?_⟩;try apply ag _
 revert h;refine aV hJ (fun fj h=>?_) fun fj h=>?_
 .cases h;obtain rfl:=sI g;clear g;have h:=w;dsimp only[az] at h;cases h;refine b5 ?_;exact ⟨_,d,Le.sub (List.Sublist.refl _)⟩
 refine aK hJ (ah hJ ?_);refine aC hJ fun h2=>?_;refine ey hJ mixed [21,22,23] (.pure 0 (.pure 1 (.pure 2 (.pure 3 (.pure 4 (.pure 5 (.pure 6 (.pure 7 (.pure 8 (.pure 9 (.pure 10 (.pure 11 (.pure 12 (.rd 13 (.pure 14 (.pure 15 (.pure 16 (.pure 17 (.pure 18 (.rd 19 (.pure 20 (.last 21 (.pure 22 (.last 23 .done)))))))))))))))))))))))) ⟨ro,[(c,Obj.cells e 3)]⟩ bx aj ?_;have I:aW rI ro 3 (.slice (some ⟨c,0,none⟩) u0.length c2) (f.set (IntKind.i64.wrap (b+a)).toNat n) [(c,Obj.cells (bI e (IntKind.i64.wrap (b+a)).toNat [.int .i64 n]) 3)]:=by have k:=d.gS (i:=(IntKind.i64.wrap (b+a)).toNat) (y:=n) (by have:=ar;have:=(List.getElem?_eq_some_iff.1 this).1;simpa only[List.length_set] using this) (cs:=[.int .i64 n]) rfl;simpa only[iP,ji,Nat.mul_one,Nat.add_zero] using k
 revert h;refine bS fun fl fp h=>?_;cases h;obtain ⟨h3,h4,a3⟩:=cG fp;have h5:IntKind.i64.wrap (b+(IntKind.i64.wrap ((IntKind.i64.wrap (2*a))+1)))<((u0.length:Nat):Int):=by have:=I.count;omega
 obtain ⟨fr,fs,ft⟩:=I.dL a3;obtain rfl:fr=[.int .i64 fl]:=fs;have a4:=ft 0 _ rfl;simp only[go_sem] at a4;have h6:=(Array.getElem?_eq_some_iff.1 a4).1;have a5:aW rI ro 3 (.slice (some ⟨c,0,none⟩) u0.length c2) ((f.set (IntKind.i64.wrap (b+a)).toNat n).set (IntKind.i64.wrap (b+(IntKind.i64.wrap ((IntKind.i64.wrap (2*a))+1)))).toNat s) [(c,Obj.cells (bI (bI e (IntKind.i64.wrap (b+a)).toNat [.int .i64 n]) (IntKind.i64.wrap (b+(IntKind.i64.wrap ((IntKind.i64.wrap (2*a))+1)))).toNat [.int .i64 s]) 3)]:=by have k:=I.gS (i:=(IntKind.i64.wrap (b+(IntKind.i64.wrap ((IntKind.i64.wrap (2*a))+1)))).toNat) (y:=s) (by have:=a3;have:=(List.getElem?_eq_some_iff.1 this).1;simpa only[List.length_set] using this) (cs:=[.int .i64 s]) rfl;simpa only[iP,ji,Nat.mul_one,Nat.add_zero] using k
 try apply ag _
 obtain ⟨a6,K⟩:∃o,o=(bI (bI e (IntKind.i64.wrap (b+a)).toNat [.int .i64 n]) (IntKind.i64.wrap (b+(IntKind.i64.wrap ((IntKind.i64.wrap (2*a))+1)))).toNat [.int .i64 s]):=⟨_,rfl⟩
 refine cq (F:=⟨ro,[(c,Obj.cells a6 3)]⟩) hJ (by rw[K];exact Le.refl _) ?_;rw[<-K] at a5;clear K;refine aC hJ fun h7=>?_;apply aM hJ _;try apply ag _
 refine ⟨t,Nat.lt_succ_self _,_,Le.sub (List.Sublist.refl _),a6,(IntKind.i64.wrap ((IntKind.i64.wrap (2*a))+1)),((f.set (IntKind.i64.wrap (b+a)).toNat n).set (IntKind.i64.wrap (b+(IntKind.i64.wrap ((IntKind.i64.wrap (2*a))+1)))).toNat s),g,rfl,a5,?_⟩;simp only[*,go_sem]
def AM (a:Int)(st:(Int×(List Int))):Option (Fl (Int×(List Int)) (Unit×(List Int))):=
 cond (decide (0<=st.1)) (ai (bD st.2 (IntKind.i64.wrap (a+st.1))) fun b=>ai (bD st.2 a) fun c=>ai (bD (st.2.set (a).toNat b) (IntKind.i64.wrap (a+st.1))) fun e=>ai (mm ((st.2.set (a).toNat b).set (IntKind.i64.wrap (a+st.1)).toNat c) 0 st.1 a) fun d=>some (.nx ((IntKind.i64.wrap (st.1 - 1)),d.2))) (some (.bk (st.1,st.2)))
def mo (a:Int)(b:Int)(st:(Int×(List Int))):Option (Fl (Int×(List Int)) (Unit×(List Int))):=
 cond (decide (0<=st.1)) (ai (mm st.2 st.1 (IntKind.i64.wrap (b - a)) a) fun c=>some (.nx ((IntKind.i64.wrap (st.1 - 1)),c.2))) (some (.bk (st.1,st.2)))
def qF (a:Int)(st:(Int×(List Int))):Option (Fl (Int×(List Int)) (Unit×(List Int))):=
 cond (decide (0<=st.1)) (ai (bD st.2 (IntKind.i64.wrap (a+st.1))) fun b=>ai (bD st.2 a) fun c=>ai (bD (st.2.set (a).toNat b) (IntKind.i64.wrap (a+st.1))) fun e=>ai (mm ((st.2.set (a).toNat b).set (IntKind.i64.wrap (a+st.1)).toNat c) 0 st.1 a) fun d=>some (.nx ((IntKind.i64.wrap (st.1 - 1)),d.2))) (some (.bk (st.1,st.2)))
def qG (u0:(List Int))(a:Int)(b:Int):Option (Unit×(List Int)):=
 cond (List.isEmpty u0) none (ai (gR (IntKind.i64.wrap ((IntKind.i64.wrap (b - a)) - 1)) 2) fun c=>ai (aQ (mo a b) fu (c,u0)) fun o=>az o (fun d=>ai (aQ (qF a) fu ((IntKind.i64.wrap ((IntKind.i64.wrap (b - a)) - 1)),d.2)) fun o=>az o (fun e=>some ((),e.2)) (fun _ _=>none) (fun r=>some r)) (fun _ _=>none) (fun r=>some r))
theorem GL {ro:Addr->Option Value}(u0:(List Int)){bT:Value}{K:List (Nat×Obj)}(u:aW rI ro 3 bT u0 K)(a:Int)(l:Int){r:(Unit×(List Int))}(h:qG u0 a l=some r):aE Tryz.prog 202 #[bT,.int .i64 a,.int .i64 l] ⟨ro,K⟩ (fun v G=>∃g,(v= .tuple #[]/\aW rI ro 3 bT r.2 g)/\Le ⟨ro,g⟩ G):=by
 obtain ⟨d1,c2,rfl,cv⟩:=u.len;unfold qG at h;revert h;refine cS (fun L h=>?_) fun L h=>?_
 .cases h
 obtain ⟨b,al,rfl,rfl,cy⟩:=u.fN L;refine aE.go Tryz.func202 rfl Tryz.ntmps202 Tryz.results202 an fun main J hJ A ao hd hs=>?_;have ar:=hs 0;have k1:=hs 1;have a0:=hs 2;clear hs;apply ah hJ;refine aC hJ fun c0=>?_;apply aM hJ _;apply ah hJ;refine aC hJ fun da=>?_;apply aM hJ _;apply ah hJ;refine aC hJ fun db=>?_;apply aM hJ _;refine ah hJ (ah hJ ?_);refine aC hJ fun dd=>?_;apply aG hJ;revert h;refine bS fun a2 M h=>?_;obtain ⟨df,dk⟩:=r6 M;clear M;try apply ag _
 apply aU hJ;revert h;refine bS fun a3 q a4=>?_;refine bP hJ (rg 18 9 [9]) (fun m w F'=>∃(s:Array Value) (n:Int) (p:(List Int)),aQ (mo a l) m (n,p)=some a3/\F'=⟨ro,[(b,Obj.cells s 3)]⟩/\aW rI ro 3 (.slice (some ⟨b,0,none⟩) u0.length c2) p [(b,Obj.cells s 3)]/\slot w 9= .int .i64 n) fu ?_ ?_
 .refine ⟨al,a2,u0,q,rfl,u,?_⟩;simp only[*,go_sem]
 rintro x dp F' N ⟨s,n,p,q,rfl,O,a5⟩;obtain ⟨P,Q,R⟩:=N.pick [0,6,7,8] aL;simp only[*,go_sem] at P Q R;clear N ao hd ar k1 a0;obtain _|x:=x
 .exact absurd q (by simp only[aQ,reduceCtorEq,not_false_eq_true])
 revert q;refine bS fun dq h z=>?_;unfold mo at h;try dsimp only at h
 refine ah hJ (ah hJ ?_);refine aC hJ fun ds=>?_;apply aM hJ _;revert h;refine aV hJ (fun a6 h=>?_) fun a6 h=>?_
 .refine aK hJ (ah hJ ?_);apply aU hJ;refine aC hJ fun dt=>?_;apply aG hJ;revert h;refine bS fun a7 a8 h=>?_;cases h;apply ag _;refine en hJ [] [] _ (AL p O n (IntKind.i64.wrap (l - a)) a a8) (fun du dv B g C dC=>?_);obtain ⟨rfl,S⟩:=B;obtain ⟨T,rfl⟩:=S.eI;simp only[bN] at C;subst g;refine ⟨⟨ro,[(b,Obj.cells T 3)]⟩,Le.refl _,?_⟩;try apply ag _
  refine aC hJ fun dE=>?_;apply aM hJ _;try apply ag _
  refine ⟨x,Nat.lt_succ_self _,_,Le.sub (List.Sublist.refl _),T,(IntKind.i64.wrap (n - 1)),a7.2,z,rfl,S,?_⟩;simp only[*,go_sem]
 cases h;apply bJ;simp only[go_sem];obtain rfl:=sI z;clear z;have h:=a4;dsimp only[az] at h;apply ah hJ;refine aC hJ fun dT=>?_;apply aM hJ _;apply aU hJ;revert h;refine bS fun a9 t ba=>?_;refine bP hJ (rg 29 27 [10]) (fun m w F'=>∃(e:Array Value) (c:Int) (j:(List Int)),aQ (AM a) m (c,j)=some a9/\F'=⟨ro,[(b,Obj.cells e 3)]⟩/\aW rI ro 3 (.slice (some ⟨b,0,none⟩) u0.length c2) j [(b,Obj.cells e 3)]/\slot w 10= .int .i64 c) fu ?_ ?_
 .refine ⟨s,(IntKind.i64.wrap ((IntKind.i64.wrap (l - a)) - 1)),p,t,rfl,O,?_⟩;simp only[*,go_sem]
 rintro m2 ea F' U ⟨e,c,j,t,rfl,k,eb⟩;obtain ⟨bb,bc,bd⟩:=U.pick [0,6,7] aL;simp only[*,go_sem] at bb bc bd;clear U P Q R a5;obtain _|m2:=m2
 .exact absurd t (by simp only[aQ,reduceCtorEq,not_false_eq_true])
 revert t;refine bS fun ec h D=>?_;unfold AM at h;try dsimp only at h
 refine ah hJ (ah hJ ?_);refine aC hJ fun ed=>?_;apply aM hJ _;revert h;refine aV hJ (fun bj h=>?_) fun bj h=>?_
 .refine aK hJ (ah hJ ?_);refine aU hJ (ah hJ ?_);refine aC hJ fun eh=>?_;refine ey hJ mixed [17,18,19] (.pure 0 (.pure 1 (.pure 2 (.pure 3 (.pure 4 (.pure 5 (.pure 6 (.pure 7 (.pure 8 (.pure 9 (.pure 10 (.rd 11 (.pure 12 (.pure 13 (.pure 14 (.rd 15 (.pure 16 (.last 17 (.pure 18 (.last 19 .done)))))))))))))))))))) ⟨ro,[(b,Obj.cells e 3)]⟩ bx aj ?_;revert h;refine bS fun d bk h=>?_;obtain ⟨et,ev,bm⟩:=cG bk;have eQ:IntKind.i64.wrap (a+c)<((u0.length:Nat):Int):=by have:=k.count;omega
  obtain ⟨bo,br,bs⟩:=k.dL bm;obtain rfl:bo=[.int .i64 d]:=br;have V:=bs 0 _ rfl;simp only[go_sem] at V;have eS:=(Array.getElem?_eq_some_iff.1 V).1;revert h;refine bS fun f b0 h=>?_;obtain ⟨e0,e1,W⟩:=cG b0;have e2:a<((u0.length:Nat):Int):=by have:=k.count;omega
  obtain ⟨b1,b2,b3⟩:=k.dL W;obtain rfl:b1=[.int .i64 f]:=b2;have X:=b3 0 _ rfl;simp only[go_sem] at X;have e3:=(Array.getElem?_eq_some_iff.1 X).1;have E:aW rI ro 3 (.slice (some ⟨b,0,none⟩) u0.length c2) (j.set (a).toNat d) [(b,Obj.cells (bI e (a).toNat [.int .i64 d]) 3)]:=by have H:=k.gS (i:=(a).toNat) (y:=d) (by have:=W;have:=(List.getElem?_eq_some_iff.1 this).1;simpa only[List.length_set] using this) (cs:=[.int .i64 d]) rfl;simpa only[iP,ji,Nat.mul_one,Nat.add_zero] using H
  revert h;refine bS fun b4 ca h=>?_;obtain ⟨fa,fb,Y⟩:=cG ca;have fc:IntKind.i64.wrap (a+c)<((u0.length:Nat):Int):=by have:=E.count;omega
  obtain ⟨cb,cc,cd⟩:=E.dL Y;obtain rfl:cb=[.int .i64 b4]:=cc;have Z:=cd 0 _ rfl;simp only[go_sem] at Z;have fg:=(Array.getElem?_eq_some_iff.1 Z).1;have ab:aW rI ro 3 (.slice (some ⟨b,0,none⟩) u0.length c2) ((j.set (a).toNat d).set (IntKind.i64.wrap (a+c)).toNat f) [(b,Obj.cells (bI (bI e (a).toNat [.int .i64 d]) (IntKind.i64.wrap (a+c)).toNat [.int .i64 f]) 3)]:=by have H:=E.gS (i:=(IntKind.i64.wrap (a+c)).toNat) (y:=f) (by have:=Y;have:=(List.getElem?_eq_some_iff.1 this).1;simpa only[List.length_set] using this) (cs:=[.int .i64 f]) rfl;simpa only[iP,ji,Nat.mul_one,Nat.add_zero] using H
  try apply ag _
  obtain ⟨cf,I⟩:∃o,o=(bI (bI e (a).toNat [.int .i64 d]) (IntKind.i64.wrap (a+c)).toNat [.int .i64 f]):=⟨_,rfl⟩
  refine cq (F:=⟨ro,[(b,Obj.cells cf 3)]⟩) hJ (by rw[I];exact Le.refl _) ?_;rw[<-I] at ab;clear I;refine aC hJ fun fh=>?_;apply aG hJ;revert h;refine bS fun ck cl h=>?_;cases h;apply ag _;refine en hJ [] [] _ (AL ((j.set (a).toNat d).set (IntKind.i64.wrap (a+c)).toNat f) ab 0 c a cl) (fun fi fj B g C fl=>?_);obtain ⟨rfl,ad⟩:=B;obtain ⟨ae,rfl⟩:=ad.eI;simp only[bN] at C;subst g;refine ⟨⟨ro,[(b,Obj.cells ae 3)]⟩,Le.refl _,?_⟩;try apply ag _
  refine aC hJ fun fp=>?_;apply aM hJ _;try apply ag _
  refine ⟨m2,Nat.lt_succ_self _,_,Le.sub (List.Sublist.refl _),ae,(IntKind.i64.wrap (c - 1)),ck.2,D,rfl,ad,?_⟩;simp only[*,go_sem]
 cases h;apply bJ;simp only[go_sem];obtain rfl:=sI D;clear D;have h:=ba;dsimp only[az] at h;cases h;apply ag _;exact ⟨_,k,Le.sub (List.Sublist.refl _)⟩
def kX (st:(Int×Int×(List Int))):Option (Fl (Int×Int×(List Int)) (Unit×(List Int))):=
 cond (decide (st.1<st.2.1)) (ai (bD st.2.2 st.2.1) fun a=>ai (bD st.2.2 st.1) fun b=>ai (bD (st.2.2.set (st.1).toNat a) st.2.1) fun c=>some (.nx ((IntKind.i64.wrap (st.1+1)),(IntKind.i64.wrap (st.2.1 - 1)),((st.2.2.set (st.1).toNat a).set (st.2.1).toNat b)))) (some (.bk (st.1,st.2.1,st.2.2)))
def ot (u0:(List Int))(a:Int)(b:Int):Option (Unit×(List Int)):=
 cond (List.isEmpty u0) none (ai (aQ (kX) fu (a,(IntKind.i64.wrap (b - 1)),u0)) fun o=>az o (fun c=>some ((),c.2.2)) (fun _ _=>none) (fun r=>some r))
theorem GM {ro:Addr->Option Value}(u0:(List Int)){bT:Value}{t:List (Nat×Obj)}(i:aW rI ro 3 bT u0 t)(j:Int)(k:Int){r:(Unit×(List Int))}(h:ot u0 j k=some r):aE Tryz.prog 205 #[bT,.int .i64 j,.int .i64 k] ⟨ro,t⟩ (fun v G=>∃u,(v= .tuple #[]/\aW rI ro 3 bT r.2 u)/\Le ⟨ro,u⟩ G):=by
 obtain ⟨d1,c2,rfl,X⟩:=i.len;unfold ot at h;revert h;refine cS (fun w h=>?_) fun w h=>?_
 .cases h
 obtain ⟨c,D,rfl,rfl,Y⟩:=i.fN w;refine aE.go Tryz.func205 rfl Tryz.ntmps205 Tryz.results205 an fun main J hJ A E hd hs=>?_;have H:=hs 0;have k1:=hs 1;have I:=hs 2;clear hs;apply ah hJ;refine aC hJ fun Z=>?_;apply aM hJ _;apply ah hJ;refine aC hJ fun ab=>?_;apply aM hJ _;apply aU hJ;revert h;refine bS fun K e L=>?_;refine bP hJ (rg 11 21 [6,7]) (fun m x F'=>∃(d:Array Value) (a:Int) (b:Int) (f:(List Int)),aQ (kX) m (a,b,f)=some K/\F'=⟨ro,[(c,Obj.cells d 3)]⟩/\aW rI ro 3 (.slice (some ⟨c,0,none⟩) u0.length c2) f [(c,Obj.cells d 3)]/\slot x 6= .int .i64 a/\slot x 7= .int .i64 b) fu ?_ ?_
 .refine ⟨D,j,(IntKind.i64.wrap (k - 1)),u0,e,rfl,i,?_⟩;simp only[*,go_sem]
 rintro l ad F' y ⟨d,a,b,f,e,rfl,g,ae,al⟩;obtain ⟨M,N,O⟩:=y.pick [0] aL;simp only[*,go_sem] at M N O;clear y E hd H k1 I;obtain _|l:=l
 .exact absurd e (by simp only[aQ,reduceCtorEq,not_false_eq_true])
 revert e;refine bS fun ao h n=>?_;unfold kX at h;try dsimp only at h
 refine ah hJ (ah hJ ?_);refine aC hJ fun ar=>?_;apply aM hJ _;revert h;refine aV hJ (fun P h=>?_) fun P h=>?_
 .refine aK hJ (aU hJ ?_);apply ah hJ;refine aC hJ fun a0=>?_;refine ey hJ mixed [13,14,15] (.pure 0 (.pure 1 (.pure 2 (.pure 3 (.pure 4 (.pure 5 (.pure 6 (.rd 7 (.pure 8 (.pure 9 (.pure 10 (.rd 11 (.pure 12 (.last 13 (.pure 14 (.last 15 .done)))))))))))))))) ⟨ro,[(c,Obj.cells d 3)]⟩ bx aj ?_;revert h;refine bS fun p Q h=>?_;obtain ⟨a2,a3,a4,a5⟩:=g.cC Q;revert h;refine bS fun q R h=>?_;obtain ⟨S,T,a6,a7⟩:=g.cC R;have z:=g.eK S T p;revert h;refine bS fun a8 U h=>?_;cases h;obtain ⟨V,W,a9,ba⟩:=z.cC U;have B:=z.eK V W q;try apply ag _
  apply ah hJ;obtain ⟨C,s⟩:∃o,o=(bI (bI d (a).toNat [.int .i64 p]) (b).toNat [.int .i64 q]):=⟨_,rfl⟩
  refine cq (F:=⟨ro,[(c,Obj.cells C 3)]⟩) hJ (by rw[s];exact Le.refl _) ?_;rw[<-s] at B;clear s;refine aC hJ fun bb=>?_;apply aM hJ _;refine aC hJ fun bc=>?_;apply aM hJ _;try apply ag _
  refine ⟨l,Nat.lt_succ_self _,_,Le.sub (List.Sublist.refl _),C,(IntKind.i64.wrap (a+1)),(IntKind.i64.wrap (b - 1)),((f.set (a).toNat p).set (b).toNat q),n,rfl,B,?_⟩;simp only[*,go_sem]
 cases h;apply bJ;simp only[go_sem];obtain rfl:=sI n;clear n;have h:=L;dsimp only[az] at h;cases h;apply ag _;exact ⟨_,g,Le.sub (List.Sublist.refl _)⟩
def mq (u0:(List Int))(a:Int)(b:Int)(c:Int):Option (((Int×Int)×(List Int))×Int):=
 cond (List.isEmpty u0) none (ai (bD u0 b) fun d=>ai (bD u0 a) fun e=>ai (e7 d e) fun f=>cond (f) (some (((b,a),u0),IntKind.i64.wrap (c+1))) (some (((a,b),u0),c)))
theorem wz {ro:Addr->Option Value}(u0:(List Int)){bT:Value}{e:List (Nat×Obj)}(a:aW rI ro 3 bT u0 e)(c:Int)(d:Int)(f:Int){b:Nat}(H:∀off sp,ro ⟨b,off,sp⟩=none){r:(((Int×Int)×(List Int))×Int)}(h:mq u0 c d f=some r):aE Tryz.prog 226 #[bT,.int .i64 c,.int .i64 d,.pointer (some ⟨b,0,none⟩)] ⟨ro,(b,.cells #[.int .i64 f] 3)::e⟩ (fun v G=>∃g,(∃i,g=(b,.cells #[.int .i64 r.2] 3)::i/\v= .tuple #[.int .i64 r.1.1.1,.int .i64 r.1.1.2]/\aW rI ro 3 bT r.1.2 i)/\Le ⟨ro,g⟩ G):=by
 obtain ⟨d1,c2,rfl,I⟩:=a.len;unfold mq at h;revert h;refine cS (fun j h=>?_) fun j h=>?_
 .cases h
 obtain ⟨K,L,rfl,rfl,M⟩:=a.fN j;refine aE.go Tryz.func226 rfl Tryz.ntmps226 Tryz.results226 an fun main J hJ A N hd hs=>?_;have O:=hs 0;have k1:=hs 1;have P:=hs 2;have Q:=hs 3;clear hs;refine aC hJ fun o=>?_;have p:=o.nd;simp only[keys,List.map_cons,List.map_nil,List.map_append,List.cons_append,List.nil_append,List.nodup_cons,List.mem_cons,List.mem_append,List.not_mem_nil,or_false,not_or] at p;apply ah hJ;refine aC hJ fun R=>?_;apply aM hJ _;refine ah hJ (ah hJ ?_);refine aC hJ fun S=>?_;refine dR hJ mixed 9 2 bx aj ?_;revert h;refine bS fun k q h=>?_;obtain ⟨T,U,s⟩:=cG q;have V:d<((u0.length:Nat):Int):=by have:=a.count;omega
 obtain ⟨t,u,w⟩:=a.dL s;obtain rfl:t=[.int .i64 k]:=u;have l:=w 0 _ rfl;simp only[go_sem] at l;have W:=(Array.getElem?_eq_some_iff.1 l).1;revert h;refine bS fun m x h=>?_;obtain ⟨X,Y,y⟩:=cG x;have Z:c<((u0.length:Nat):Int):=by have:=a.count;omega
 obtain ⟨z,B,C⟩:=a.dL y;obtain rfl:z=[.int .i64 m]:=B;have n:=C 0 _ rfl;simp only[go_sem] at n;have ab:=(Array.getElem?_eq_some_iff.1 n).1;revert h;refine bS fun ad D h=>?_;apply ag _;refine ⟨_,dW hJ fun F hF=>gx k m D,?_⟩;revert h;refine aV hJ (fun E h=>?_) fun E h=>?_
 .cases h;apply ah hJ;refine aC hJ fun ae=>?_;apply aM hJ _;apply ah hJ;refine aC hJ fun al=>?_;apply aM hJ _;refine b5 ?_;exact ⟨_,⟨_,rfl,a⟩,Le.sub (List.Sublist.refl _)⟩
 cases h;refine aK hJ (ah hJ ?_);refine aC hJ fun ao=>?_;apply aM hJ _;refine b5 ?_;exact ⟨_,⟨_,rfl,a⟩,Le.sub (List.Sublist.refl _)⟩
def mw (u0:(List Int))(d:Int)(e:Int)(f:Int)(g:Int):Option ((Int×(List Int))×Int):=
 cond (List.isEmpty u0) none (ai (mq u0 d e g) fun a=>ai (mq a.1.2 a.1.1.2 f a.2) fun b=>ai (mq b.1.2 a.1.1.1 b.1.1.1 b.2) fun c=>some ((c.1.1.2,c.1.2),c.2))
theorem wA {ro:Addr->Option Value}(u0:(List Int)){bT:Value}{o:List (Nat×Obj)}(g:aW rI ro 3 bT u0 o)(i:Int)(j:Int)(k:Int)(l:Int){b:Nat}(m:∀off sp,ro ⟨b,off,sp⟩=none){r:((Int×(List Int))×Int)}(h:mw u0 i j k l=some r):aE Tryz.prog 223 #[bT,.int .i64 i,.int .i64 j,.int .i64 k,.pointer (some ⟨b,0,none⟩)] ⟨ro,(b,.cells #[.int .i64 l] 3)::o⟩ (fun v G=>∃a,(∃p,a=(b,.cells #[.int .i64 r.2] 3)::p/\v= .int .i64 r.1.1/\aW rI ro 3 bT r.1.2 p)/\Le ⟨ro,a⟩ G):=by
 obtain ⟨d1,c2,rfl,R⟩:=g.len;unfold mw at h;revert h;refine cS (fun q h=>?_) fun q h=>?_
 .cases h
 obtain ⟨n,S,rfl,rfl,T⟩:=g.fN q;refine aE.go Tryz.func223 rfl Tryz.ntmps223 Tryz.results223 an fun main J hJ A x hd hs=>?_;have y:=hs 0;have k1:=hs 1;have z:=hs 2;have B:=hs 3;have C:=hs 4;clear hs;refine aC hJ fun D=>?_;have E:=D.nd;simp only[keys,List.map_cons,List.map_nil,List.map_append,List.cons_append,List.nil_append,List.nodup_cons,List.mem_cons,List.mem_append,List.not_mem_nil,or_false,not_or] at E;apply ah hJ;refine aC hJ fun U=>?_;apply aM hJ _;apply ah hJ;refine aC hJ fun V=>?_;apply aG hJ;revert h;refine bS fun c F h=>?_;apply ag _;refine en hJ [] [] _ (wz u0 g i j l m F) (fun W s d a e X=>?_);obtain ⟨Y,rfl,rfl,t⟩:=d;obtain ⟨H,rfl⟩:=t.eI;simp only[bN] at e;subst a;refine ⟨⟨ro,(b,.cells #[.int .i64 c.2] 3)::[(n,Obj.cells H 3)]⟩,Le.refl _,?_⟩;apply aJ;apply ag _;apply ah hJ;refine aC hJ fun Z=>?_;apply aG hJ;revert h;refine bS fun f I h=>?_;apply ag _;refine en hJ [] [] _ (wz c.1.2 t c.1.1.2 k c.2 m I) (fun ab s d a e ad=>?_);obtain ⟨ae,rfl,rfl,u⟩:=d;obtain ⟨K,rfl⟩:=u.eI;simp only[bN] at e;subst a;refine ⟨⟨ro,(b,.cells #[.int .i64 f.2] 3)::[(n,Obj.cells K 3)]⟩,Le.refl _,?_⟩;apply aJ;apply ag _;apply ah hJ;refine aC hJ fun al=>?_;apply aG hJ;revert h;refine bS fun L M h=>?_;cases h;apply ag _;refine en hJ [] [] _ (wz f.1.2 u c.1.1.1 f.1.1.1 f.2 m M) (fun ao s d a e ar=>?_);obtain ⟨a0,rfl,rfl,w⟩:=d;obtain ⟨N,rfl⟩:=w.eI;simp only[bN] at e;subst a;refine ⟨⟨ro,(b,.cells #[.int .i64 L.2] 3)::[(n,Obj.cells N 3)]⟩,Le.refl _,?_⟩;apply aJ;apply ag _;apply ah hJ;refine e5 [0,2,10,12,20,28] fun a2 O P Q=>?_;simp only[*,go_sem] at O P Q;clear x hd y k1 z B C;refine aC hJ fun a3=>?_;apply aM hJ _;refine b5 ?_;exact ⟨_,⟨_,rfl,w⟩,Le.sub (List.Sublist.refl _)⟩
def mz (u0:(List Int))(a:Int)(c:Int):Option ((Int×(List Int))×Int):=
 cond (List.isEmpty u0) none (ai (mw u0 (IntKind.i64.wrap (a - 1)) a (IntKind.i64.wrap (a+1)) c) fun b=>some ((b.1.1,b.1.2),b.2))
theorem wB {ro:Addr->Option Value}(u0:(List Int)){bT:Value}{f:List (Nat×Obj)}(d:aW rI ro 3 bT u0 f)(a:Int)(e:Int){b:Nat}(k:∀off sp,ro ⟨b,off,sp⟩=none){r:((Int×(List Int))×Int)}(h:mz u0 a e=some r):aE Tryz.prog 222 #[bT,.int .i64 a,.pointer (some ⟨b,0,none⟩)] ⟨ro,(b,.cells #[.int .i64 e] 3)::f⟩ (fun v G=>∃c,(∃g,c=(b,.cells #[.int .i64 r.2] 3)::g/\v= .int .i64 r.1.1/\aW rI ro 3 bT r.1.2 g)/\Le ⟨ro,c⟩ G):=by
 obtain ⟨d1,c2,rfl,u⟩:=d.len;unfold mz at h;revert h;refine cS (fun i h=>?_) fun i h=>?_
 .cases h
 obtain ⟨l,w,rfl,rfl,x⟩:=d.fN i;refine aE.go Tryz.func222 rfl Tryz.ntmps222 Tryz.results222 an fun main J hJ A y hd hs=>?_;have z:=hs 0;have k1:=hs 1;have B:=hs 2;clear hs;refine aC hJ fun m=>?_;have n:=m.nd;simp only[keys,List.map_cons,List.map_nil,List.map_append,List.cons_append,List.nil_append,List.nodup_cons,List.mem_cons,List.mem_append,List.not_mem_nil,or_false,not_or] at n;apply ah hJ;refine aC hJ fun C=>?_;apply aM hJ _;apply ah hJ;refine aC hJ fun D=>?_;apply aG hJ;revert h;refine bS fun o p h=>?_;cases h;apply ag _;refine en hJ [] [] _ (wA u0 d (IntKind.i64.wrap (a - 1)) a (IntKind.i64.wrap (a+1)) e k p) (fun E F q c s H=>?_);obtain ⟨I,rfl,rfl,j⟩:=q;obtain ⟨t,rfl⟩:=j.eI;simp only[bN] at s;subst c;refine ⟨⟨ro,(b,.cells #[.int .i64 o.2] 3)::[(l,Obj.cells t 3)]⟩,Le.refl _,?_⟩;apply aJ;try apply ag _
 refine b5 ?_;exact ⟨_,⟨_,rfl,j⟩,Le.sub (List.Sublist.refl _)⟩
def qH (u0:(List Int))(a:Int)(e:Int):Option ((Int×Int)×(List Int)):=
 cond (List.isEmpty u0) none (ai (gR (IntKind.i64.wrap (e - a)) 4) fun d=>cond (decide (8<=(IntKind.i64.wrap (e - a)))) (cond (decide (50<=(IntKind.i64.wrap (e - a)))) (ai (mz u0 (IntKind.i64.wrap (a+(IntKind.i64.wrap (d*1)))) 0) fun f=>ai (mz f.1.2 (IntKind.i64.wrap (a+(IntKind.i64.wrap (d*2)))) f.2) fun g=>ai (mz g.1.2 (IntKind.i64.wrap (a+(IntKind.i64.wrap (d*3)))) g.2) fun h=>ai (mw h.1.2 f.1.1 g.1.1 h.1.1 h.2) fun b=>cond ((b.2==0)) (some ((b.1.1,1),b.1.2)) (cond ((b.2==12)) (some ((b.1.1,2),b.1.2)) (some ((b.1.1,0),b.1.2)))) (ai (mw u0 (IntKind.i64.wrap (a+(IntKind.i64.wrap (d*1)))) (IntKind.i64.wrap (a+(IntKind.i64.wrap (d*2)))) (IntKind.i64.wrap (a+(IntKind.i64.wrap (d*3)))) 0) fun c=>cond ((c.2==0)) (some ((c.1.1,1),c.1.2)) (cond ((c.2==12)) (some ((c.1.1,2),c.1.2)) (some ((c.1.1,0),c.1.2))))) (some ((IntKind.i64.wrap (a+(IntKind.i64.wrap (d*2))),1),u0)))
theorem GN {ro:Addr->Option Value}(u0:(List Int)){bT:Value}{u:List (Nat×Obj)}(f:aW rI ro 3 bT u0 u)(d:Int)(w:Int){r:((Int×Int)×(List Int))}(h:qH u0 d w=some r):aE Tryz.prog 204 #[bT,.int .i64 d,.int .i64 w] ⟨ro,u⟩ (fun v G=>∃a,(v= .tuple #[.int .i64 r.1.1,.int .i64 r.1.2]/\aW rI ro 3 bT r.2 a)/\Le ⟨ro,a⟩ G):=by
 obtain ⟨d1,c2,rfl,a3⟩:=f.len;unfold qH at h;revert h;refine cS (fun x h=>?_) fun x h=>?_
 .cases h
 obtain ⟨g,a4,rfl,rfl,a5⟩:=f.fN x;refine aE.go Tryz.func204 rfl Tryz.ntmps204 Tryz.results204 an fun main J hJ A q hd hs=>?_;have s:=hs 0;have k1:=hs 1;have t:=hs 2;clear hs;apply ah hJ;refine aC hJ fun a6=>?_;apply aM hJ _;apply ah hJ;refine aC hJ fun a7=>?_;apply aM hJ _;apply ah hJ;refine aC hJ fun E=>?_;apply aM hJ _;refine bf fun i j y=>?_;have a8:=bO.cons y E;try simp only[aN] at y
 try apply ag _
 apply ah hJ;refine aC hJ fun a9=>?_;apply aG hJ;revert h;refine bS fun e z h=>?_;obtain ⟨ba,bb⟩:=r6 z;clear z;try apply ag _
 apply ah hJ;refine aC hJ fun bc=>?_;apply aM hJ _;apply ah hJ;refine aC hJ fun bd=>?_;apply aM hJ _;refine ah hJ (ah hJ ?_);refine aC hJ fun bj=>?_;apply aM hJ _;revert h;refine aV hJ (fun F h=>?_) fun F h=>?_
 .refine ah hJ (ah hJ ?_);refine aC hJ fun bk=>?_;apply aM hJ _;revert h;refine aV hJ (fun H h=>?_) fun H h=>?_
  .apply ah hJ;refine aC hJ fun bm=>?_;apply aG hJ;revert h;refine bS fun k I h=>?_;apply ag _;refine en hJ [] [] _ (wB u0 f (IntKind.i64.wrap (d+(IntKind.i64.wrap (e*1)))) 0 j I) (fun bo l b a c br=>?_);obtain ⟨bs,rfl,rfl,B⟩:=b;obtain ⟨K,rfl⟩:=B.eI;simp only[bN] at c;subst a;refine ⟨⟨ro,(i,.cells #[.int .i64 k.2] 3)::[(g,Obj.cells K 3)]⟩,Le.refl _,?_⟩;apply aJ;(try apply ag _);apply ah hJ;refine e5 [0,6,7,9,10,11,12,35] fun b0 L M N=>?_;simp only[*,go_sem] at L M N;clear q hd s k1 t;refine aC hJ fun b1=>?_;apply aG hJ;revert h;refine bS fun m O h=>?_;apply ag _;refine en hJ [] [] _ (wB k.1.2 B (IntKind.i64.wrap (d+(IntKind.i64.wrap (e*2)))) k.2 j O) (fun b2 l b a c b3=>?_);obtain ⟨b4,rfl,rfl,C⟩:=b;obtain ⟨P,rfl⟩:=C.eI;simp only[bN] at c;subst a;refine ⟨⟨ro,(i,.cells #[.int .i64 m.2] 3)::[(g,Obj.cells P 3)]⟩,Le.refl _,?_⟩;apply aJ;(try apply ag _);refine aC hJ fun ca=>?_;apply aG hJ;revert h;refine bS fun n Q h=>?_;apply ag _;refine en hJ [] [] _ (wB m.1.2 C (IntKind.i64.wrap (d+(IntKind.i64.wrap (e*3)))) m.2 j Q) (fun cb l b a c cc=>?_);obtain ⟨cd,rfl,rfl,D⟩:=b;obtain ⟨R,rfl⟩:=D.eI;simp only[bN] at c;subst a;refine ⟨⟨ro,(i,.cells #[.int .i64 n.2] 3)::[(g,Obj.cells R 3)]⟩,Le.refl _,?_⟩;apply aJ;(try apply ag _);refine aC hJ fun cf=>?_;apply aG hJ;revert h;refine bS fun S T h=>?_;apply ag _;refine en hJ [] [] _ (wA n.1.2 D k.1.1 m.1.1 n.1.1 n.2 j T) (fun ck l b a c cl=>?_);obtain ⟨cv,rfl,rfl,o⟩:=b;obtain ⟨U,rfl⟩:=o.eI;simp only[bN] at c;subst a;refine ⟨⟨ro,(i,.cells #[.int .i64 S.2] 3)::[(g,Obj.cells U 3)]⟩,Le.refl _,?_⟩;apply aJ;(try apply ag _);apply ah hJ;refine aC hJ fun cy=>?_;apply aM hJ _;refine aU hJ (ah hJ ?_);refine aC hJ fun c0=>?_;apply aM hJ _;revert h;refine aV hJ (fun V h=>?_) fun V h=>?_
   .cases h;apply ah hJ;refine aC hJ fun da=>?_;apply aM hJ _;refine b5 ?_;exact ⟨_,o,Le.sub (.cons _ (List.Sublist.refl _))⟩
   apply ah hJ;refine aC hJ fun db=>?_;apply aM hJ _;revert h;refine aV hJ (fun W h=>?_) fun W h=>?_
   .cases h;apply ah hJ;refine aC hJ fun dd=>?_;apply aM hJ _;refine b5 ?_;exact ⟨_,o,Le.sub (.cons _ (List.Sublist.refl _))⟩
   cases h;apply ah hJ;refine aC hJ fun df=>?_;apply aM hJ _;refine b5 ?_;exact ⟨_,o,Le.sub (.cons _ (List.Sublist.refl _))⟩
  apply aK hJ;refine aC hJ fun dk=>?_;apply aG hJ;revert h;refine bS fun X Y h=>?_;apply ag _;refine en hJ [] [] _ (wA u0 f (IntKind.i64.wrap (d+(IntKind.i64.wrap (e*1)))) (IntKind.i64.wrap (d+(IntKind.i64.wrap (e*2)))) (IntKind.i64.wrap (d+(IntKind.i64.wrap (e*3)))) 0 j Y) (fun dp l b a c dq=>?_);obtain ⟨ds,rfl,rfl,p⟩:=b;obtain ⟨Z,rfl⟩:=p.eI;simp only[bN] at c;subst a;refine ⟨⟨ro,(i,.cells #[.int .i64 X.2] 3)::[(g,Obj.cells Z 3)]⟩,Le.refl _,?_⟩;apply aJ;try apply ag _
  apply ah hJ;refine e5 [0,6,7,9,11,44] fun dt ab ad ae=>?_;simp only[*,go_sem] at ab ad ae;clear q hd s k1 t;refine aC hJ fun du=>?_;apply aM hJ _;refine aU hJ (ah hJ ?_);refine aC hJ fun dv=>?_;apply aM hJ _;revert h;refine aV hJ (fun al h=>?_) fun al h=>?_
  .cases h;apply ah hJ;refine aC hJ fun dC=>?_;apply aM hJ _;refine b5 ?_;exact ⟨_,p,Le.sub (.cons _ (List.Sublist.refl _))⟩
  apply ah hJ;refine aC hJ fun dE=>?_;apply aM hJ _;revert h;refine aV hJ (fun ao h=>?_) fun ao h=>?_
  .cases h;apply ah hJ;refine aC hJ fun dT=>?_;apply aM hJ _;refine b5 ?_;exact ⟨_,p,Le.sub (.cons _ (List.Sublist.refl _))⟩
  cases h;apply ah hJ;refine aC hJ fun ea=>?_;apply aM hJ _;refine b5 ?_;exact ⟨_,p,Le.sub (.cons _ (List.Sublist.refl _))⟩
 cases h;refine aK hJ (ah hJ ?_);refine aC hJ fun eb=>?_;apply aM hJ _;refine aU hJ (ah hJ ?_);refine aC hJ fun ec=>?_;apply aM hJ _;refine cO hJ ?_;apply ah hJ;refine e5 [0,6,7,11] fun ed ar a0 a2=>?_;simp only[*,go_sem] at ar a0 a2;clear q hd s k1 t;refine aC hJ fun eh=>?_;apply aM hJ _;refine b5 ?_;exact ⟨_,f,Le.sub (.cons _ (List.Sublist.refl _))⟩
def e8 (m:Nat):Nat:=if m=0 then 0 else m.log2+1
def jP (n:Int):Option Int:=if 0<=n/\n<65536 then some ((e8 n.toNat:Nat):Int) else none
theorem AN:∀m:Fin 256,e8 m.val<=8:=by decide+kernel
theorem GO {m:Nat}(h:256<=m):e8 m=e8 (m/256)+8:=by
 have e:∀k,k≠0->e8 k=e8 (k/2)+1:=fun k b=>by
  unfold e8;rw[if_neg b];rcases Nat.lt_or_ge k 2 with a|a
  .obtain rfl:k=1:=aa;decide
  .rw[if_neg (show ¬k/2=0 by omega),Nat.log2_def,if_pos a]
 rw[e m aa,e (m/2) aa,e (m/2/2) aa,e (m/2/2/2) aa,e (m/2/2/2/2) aa,e (m/2/2/2/2/2) aa,e (m/2/2/2/2/2/2) aa,e (m/2/2/2/2/2/2/2) aa];simp only[Nat.div_div_eq_div_mul,Nat.reduceMul]
theorem GP {ro:Addr->Option Value}(n:Int)(b:0<=n)(d:n<65536):aE Tryz.prog 199 #[.int .u64 n] ⟨ro,[]⟩ (fun v _=>v= .int .i64 ((e8 n.toNat:Nat):Int)):=by
 refine aE.go Tryz.func199 rfl Tryz.ntmps199 Tryz.results199 an fun main J hJ A e hd hs=>?_;have f:=hs 0;clear hs;have a1:¬(4294967296:Int)<=n:=aa;have g:¬(65536:Int)<=n:=aa;have h:Tryz.prog.underlying 174=some (.int .u64):=aj;have i:Tryz.prog.underlying 5=some (.int .u8):=aj;have j:Tryz.prog.underlying 3=some (.int .i64):=aj;have k:Tryz.prog.underlying 9=some .string:=aj;repeat refine ah hJ ?_
 refine aG hJ ?_;apply ag _;repeat refine ah hJ ?_
 refine aG hJ ?_;apply ag _;repeat refine ah hJ ?_
 refine dr hJ (by simp only[*,go_sem,ge_iff_le]) ?_;refine aK hJ ?_;repeat refine ah hJ ?_
 refine aG hJ ?_;apply ag _;repeat refine ah hJ ?_
 refine dr hJ (by simp only[*,go_sem,ge_iff_le]) ?_;refine aK hJ ?_;repeat refine ah hJ ?_
 refine aG hJ ?_;apply ag _;repeat refine ah hJ ?_
 by_cases l:(256:Int)<=n
 .refine dn hJ (by simp only[*,go_sem,ge_iff_le]) ?_;repeat refine ah hJ ?_
  refine aG hJ ?_;apply ag _;obtain ⟨m,hm⟩:∃m,n.fdiv (2 ^ min 8 64)=m:=⟨_,rfl⟩
  have em:m=n/256:=by rw[<-hm];show n.fdiv 256=_;rw[Int.fdiv_eq_ediv_of_nonneg _ aL]
  rw[hm];clear hm;have c:IntKind.u8.wrap m=m:=IntWalk.u8_in m ⟨aa,aa⟩;have o:e8 n.toNat=e8 m.toNat+8:=by
   rw[GO aa];congr 2;omega
  have p:0<=m:=aa;have q:m<256:=aa;clear em;refine aG hJ ?_;apply ag _;repeat refine ah hJ ?_
  refine aG hJ ?_;apply ag _;generalize a:List.append _ _=S;have key:∀m:Fin 256,S[m.val]?=some (UInt8.ofNat (e8 m.val)):=by rw[<-a];decide+kernel
  clear a;have hn:m.toNat<256:=aa;have hb:=key ⟨m.toNat,hn⟩;have hle:=AN ⟨m.toNat,hn⟩;simp only at hb hle;simp only[hb,Option.map_some];refine aO ?_;apply ag _;have e1:(UInt8.ofNat (e8 m.toNat)).toNat=e8 m.toNat:=by rw[UInt8.toNat_ofNat'];omega
  rw[e1,IntWalk.i64_in (e8 m.toNat:Int) ⟨aa,aa⟩];rw[IntWalk.i64_in (0+8) ⟨aa,aa⟩,IntWalk.i64_in _ ⟨aa,aa⟩];congr 1;omega
 .refine dr hJ (by simp only[*,go_sem,ge_iff_le]) ?_;have c:IntKind.u8.wrap n=n:=IntWalk.u8_in n ⟨b,aa⟩;refine aK hJ ?_;repeat refine ah hJ ?_
  refine aG hJ ?_;apply ag _;generalize a:List.append _ _=S;have key:∀m:Fin 256,S[m.val]?=some (UInt8.ofNat (e8 m.val)):=by rw[<-a];decide+kernel
  clear a;have hn:n.toNat<256:=aa;have hb:=key ⟨n.toNat,hn⟩;have hle:=AN ⟨n.toNat,hn⟩;simp only at hb hle;simp only[hb,Option.map_some];refine aO ?_;apply ag _;have e1:(UInt8.ofNat (e8 n.toNat)).toNat=e8 n.toNat:=by rw[UInt8.toNat_ofNat'];omega
  rw[e1,IntWalk.i64_in (e8 n.toNat:Int) ⟨aa,aa⟩,Int.zero_add,IntWalk.i64_in (e8 n.toNat:Int) ⟨aa,aa⟩]
theorem sR {ro:Addr->Option Value}(n:Int){r:Int}(h:jP n=some r):aE Tryz.prog 159 #[.int .u64 n] ⟨ro,[]⟩ (fun v _=>v= .int .i64 r):=by
 unfold jP at h;split at h
 case isFalse=>cases h
 rename_i hn;obtain ⟨a,b⟩:=hn;cases h;refine aE.go Tryz.func159 rfl Tryz.ntmps159 Tryz.results159 an fun main J hJ A c hd hs=>?_;have d:=hs 0;clear hs;repeat refine ah hJ ?_
 refine aG hJ ?_;apply ag _;repeat refine ah hJ ?_
 refine dr hJ bx ?_;refine aK hJ ?_;repeat refine ah hJ ?_
 refine aG hJ ?_;apply ag _;refine bh hJ _ (GP n a b) (aJ ?_);apply ag _;refine aO ?_;simp only[*,go_sem]
def qI (u0:Int):Option (Int×Int):=
 ai (iO u0 13) fun a=>ai (kP (gI u0 a) 7) fun b=>ai (iO (gI (gI u0 a) b) 17) fun c=>some ((gI (gI (gI u0 a) b) c),(gI (gI (gI u0 a) b) c))
theorem GQ {ro:Addr->Option Value}(u0:Int){a:Nat}(r1:∀off sp,ro ⟨a,off,sp⟩=none){r:(Int×Int)}(h:qI u0=some r):aE Tryz.prog 218 #[.pointer (some ⟨a,0,none⟩)] ⟨ro,[(a,.cells #[.int .u64 u0] 236)]⟩ (fun v G=>∃b,(v= .int .u64 r.1/\b=[(a,.cells #[.int .u64 r.2] 236)])/\Le ⟨ro,b⟩ G):=by
 unfold qI at h;refine aE.go Tryz.func218 rfl Tryz.ntmps218 Tryz.results218 an fun main J hJ A g hd hs=>?_;have i:=hs 0;clear hs;apply aB hJ _;apply ah hJ;refine ey hJ mixed [9] (.pure 0 (.pure 1 (.rd 2 (.pure 3 (.pure 4 (.rd 5 (.pure 6 (.pure 7 (.pure 8 (.last 9 .done)))))))))) ⟨ro,[(a,.cells #[.int .u64 u0] 236)]⟩ bx aj ?_;revert h;refine bS fun c d h=>?_;obtain ⟨q,j⟩:=nG d;clear d;try simp only[go_sem] at j
 apply ag _;apply ah hJ;refine ey hJ mixed [9] (.pure 0 (.pure 1 (.rd 2 (.pure 3 (.pure 4 (.rd 5 (.pure 6 (.pure 7 (.pure 8 (.last 9 .done)))))))))) ⟨ro,[(a,.cells #[.int .u64 (gI u0 c)] 236)]⟩ bx aj ?_;revert h;refine bS fun k e h=>?_;obtain ⟨s,l⟩:=vp e;clear e;try simp only[go_sem] at l
 apply ag _;apply ah hJ;refine ey hJ mixed [9] (.pure 0 (.pure 1 (.rd 2 (.pure 3 (.pure 4 (.rd 5 (.pure 6 (.pure 7 (.pure 8 (.last 9 .done)))))))))) ⟨ro,[(a,.cells #[.int .u64 (gI (gI u0 c) k)] 236)]⟩ bx aj ?_;revert h;refine bS fun t f h=>?_;cases h;obtain ⟨u,m⟩:=nG f;clear f;try simp only[go_sem] at m
 apply ag _;apply ah hJ;refine e5 [0,2] fun w n o p=>?_;simp only[*,go_sem] at n o p;clear g hd i;apply aM hJ _;refine b5 ?_;exact ⟨_,rfl,Le.sub (List.Sublist.refl _)⟩
def qJ (u0:Int):Option Int:=
 ai (jP (IntKind.u64.wrap u0)) fun x1=>ai (iO 1 x1) fun x3=>some x3
theorem GR {ro:Addr->Option Value}(u0:Int){r:Int}(h:qJ u0=some r):aE Tryz.prog 217 #[.int .i64 u0] ⟨ro,[]⟩ (fun v _=>v= .int .u64 r):=by
 unfold qJ at h;refine aE.go Tryz.func217 rfl Tryz.ntmps217 Tryz.results217 an fun main J hJ A d hd hs=>?_;have e:=hs 0;clear hs;apply aB hJ _;apply aA hJ;revert h;refine bS fun x1 b h=>?_;apply ag _;refine bh hJ _ (sR (IntKind.u64.wrap u0) b) (aJ ?_);revert h;refine bS fun x3 a h=>?_;cases h;obtain ⟨f,c⟩:=nG a;clear a;try simp only[go_sem] at c
 apply ag _;apply aO;simp only[*,go_sem]
def kY (a:Int)(e:Int)(c:Int)(h:Int)(st:(Int×(List Int)×Int)):Option (Fl (Int×(List Int)×Int) (Unit×(List Int))):=
 cond (decide (st.1<=(IntKind.i64.wrap ((IntKind.i64.wrap (a+(IntKind.i64.wrap (h*2))))+1)))) (ai (ai (qI st.2.2) fun b=>ai (cond (decide ((IntKind.i64.wrap (e - a))<=(IntKind.i64.wrap (fE b.1 (IntKind.u64.wrap (c - 1)))))) (some (.bk (IntKind.i64.wrap ((IntKind.i64.wrap (fE b.1 (IntKind.u64.wrap (c - 1)))) - (IntKind.i64.wrap (e - a)))))) (some (.bk (IntKind.i64.wrap (fE b.1 (IntKind.u64.wrap (c - 1)))))):Option (Fl Int (Unit×(List Int)))) fun o=>az o (fun d=>ai (bD st.2.1 (IntKind.i64.wrap (a+d))) fun f=>ai (bD st.2.1 st.1) fun i=>ai (bD (st.2.1.set (st.1).toNat f) (IntKind.i64.wrap (a+d))) fun j=>some (.bk (((st.2.1.set (st.1).toNat f).set (IntKind.i64.wrap (a+d)).toNat i),b.2))) (fun _ _=>none) (fun r=>some (.rt r)):Option (Fl ((List Int)×Int) (Unit×(List Int)))) fun o=>az o (fun g=>some (.nx ((IntKind.i64.wrap (st.1+1)),g.1,g.2))) (fun _ _=>none) (fun r=>some (.rt r))) (some (.bk (st.1,st.2.1,st.2.2)))
def ou (u0:(List Int))(a:Int)(b:Int):Option (Unit×(List Int)):=
 cond (List.isEmpty u0) none (cond (decide (8<=(IntKind.i64.wrap (b - a)))) (ai (qJ (IntKind.i64.wrap (b - a))) fun d=>ai (gR (IntKind.i64.wrap (b - a)) 4) fun c=>ai (aQ (kY a b d c) fu ((IntKind.i64.wrap ((IntKind.i64.wrap (a+(IntKind.i64.wrap (c*2)))) - 1)),u0,(IntKind.u64.wrap (IntKind.i64.wrap (b - a))))) fun o=>az o (fun e=>some ((),e.2.1)) (fun _ _=>none) (fun r=>some r)) (some ((),u0)))
theorem GU {ro:Addr->Option Value}(u0:(List Int)){bT:Value}{I:List (Nat×Obj)}(p:aW rI ro 3 bT u0 I)(b:Int)(d:Int){r:(Unit×(List Int))}(h:ou u0 b d=some r):aE Tryz.prog 203 #[bT,.int .i64 b,.int .i64 d] ⟨ro,I⟩ (fun v G=>∃q,(v= .tuple #[]/\aW rI ro 3 bT r.2 q)/\Le ⟨ro,q⟩ G):=by
 obtain ⟨d1,c2,rfl,bS⟩:=p.len;unfold ou at h;revert h;refine cS (fun K h=>?_) fun K h=>?_
 .cases h
 obtain ⟨c,Z,rfl,rfl,b0⟩:=p.fN K;refine aE.go Tryz.func203 rfl Tryz.ntmps203 Tryz.results203 an fun main J hJ A ab hd hs=>?_;have ad:=hs 0;have k1:=hs 1;have ae:=hs 2;clear hs;apply ah hJ;refine aC hJ fun b1=>?_;apply aG hJ;apply bu _;apply ah hJ;refine aC hJ fun b2=>?_;apply aG hJ;apply bu _;revert h;refine cS (fun z h=>?_) fun z h=>?_
 .try simp only[Int.ofNat_lt] at z
  refine dn hJ dz ?_;apply ah hJ;refine aC hJ fun al=>?_;apply aG hJ;apply bu _;intro f f15;have ao:=cT f15;have L:=cY f15;have b3:=bO.cons L al;try simp only[aN] at L
  try apply bu _
  apply ah hJ;refine aC hJ fun b4=>?_;apply aG hJ;have h':=eu h;clear h;obtain ⟨k,ar,h⟩:=h';apply bu _;refine bh hJ _ (GR (IntKind.i64.wrap (d - b)) ar) (aJ ?_);try apply bu _
  apply ah hJ;refine aC hJ fun ca=>?_;apply aG hJ;have h':=eu h;clear h;obtain ⟨M,N,h⟩:=h';obtain ⟨cb,cc⟩:=r6 N;clear N;try apply bu _
  apply aU hJ;have h':=eu h;clear h;obtain ⟨a0,n,a2⟩:=h';have h:=True.intro;refine bP hJ [9,10,26,27,28,29,30,31,32,33,34,35,36,37,38,39,40,41,42,43,44,45,46,47,48,49,50,51,52,53,54,55,56,57,58,59,60,61,62,63,64] (fun m a F'=>∃(g:Array Value) (i:Int) (s:(List Int)) (t:Int),aQ (kY b d k M) m (i,s,t)=some a0/\F'=⟨ro,(f,.cells #[.int .u64 t] 236)::[(c,Obj.cells g 3)]⟩/\aW rI ro 3 (.slice (some ⟨c,0,none⟩) u0.length c2) s [(c,Obj.cells g 3)]/\slot a 9= .int .i64 i) fu ?_ ?_
  .refine ⟨Z,(IntKind.i64.wrap ((IntKind.i64.wrap (b+(IntKind.i64.wrap (M*2)))) - 1)),u0,(IntKind.u64.wrap (IntKind.i64.wrap (d - b))),n,rfl,p,?_⟩;simp only[*,go_sem,-h]
  rintro B e F' j ⟨g,i,s,t,n,rfl,u,O⟩;have h:=True.intro;have P:sz e=65:=by rw[j.size];simp only[*,go_sem,-h]
  have Q:e.defers=[]:=by rw[j.defers];simp only[*,go_sem,-h]
  have R:slot e 0= .slice (some ⟨c,0,none⟩) u0.length c2:=by rw[j.bM 0 aL];simp only[*,go_sem,-h]
  have S:slot e 1= .int .i64 b:=by rw[j.bM 1 aL];simp only[*,go_sem,-h]
  have T:slot e 6= .int .i64 (IntKind.i64.wrap (d - b)):=by rw[j.bM 6 aL];simp only[*,go_sem,-h]
  have U:slot e 7= .pointer (some ⟨f,0,none⟩):=by rw[j.bM 7 aL];simp only[*,go_sem,-h]
  have V:slot e 8= .int .u64 k:=by rw[j.bM 8 aL];simp only[*,go_sem,-h]
  clear j ab hd ad k1 ae;obtain _|B:=B
  .exact absurd n (by simp only[aQ,reduceCtorEq,not_false_eq_true])
  have h':=eu n;clear n h;obtain ⟨cd,h,C⟩:=h';unfold kY at h;try dsimp only at h
  apply ah hJ;apply ah hJ;refine aC hJ fun cf=>?_;apply aG hJ;apply bu _;revert h;refine cS (fun D h=>?_) fun D h=>?_
  ·(try simp only[Int.ofNat_lt] at D);refine dn hJ dz ?_;apply aK hJ;have h':=eu h;clear h;obtain ⟨a3,h,a4⟩:=h';refine fo hJ (fun a F'=>∃(w:Array Value) (x:(List Int)) (y:Int),some (Fl.bk (x,y):Fl ((List Int)×Int) (Unit×(List Int)))=some a3/\F'=⟨ro,(f,.cells #[.int .u64 y] 236)::[(c,Obj.cells w 3)]⟩/\aW rI ro 3 (.slice (some ⟨c,0,none⟩) u0.length c2) x [(c,Obj.cells w 3)]/\sz a=65/\a.defers=[]/\cj [9,10,26,27,28,29,30,31,32,33,34,35,36,37,38,39,40,41,42,43,44,45,46,47,48,49,50,51,52,53,54,55,56,57,58,59,60,61,62,63,64] a e/\slot a 0= .slice (some ⟨c,0,none⟩) u0.length c2/\slot a 1= .int .i64 b/\slot a 6= .int .i64 (IntKind.i64.wrap (d - b))/\slot a 7= .pointer (some ⟨f,0,none⟩)/\slot a 8= .int .u64 k/\slot a 9= .int .i64 i) ?_ ?_
   .apply aU hJ;apply ah hJ;refine aC hJ fun ck=>?_;apply aG hJ;have h':=eu h;clear h;obtain ⟨l,a5,h⟩:=h';apply bu _;refine iw hJ [] ([(c,Obj.cells g 3)]) (by first|rfl|simp only[bN]|(simp only[bN];rfl)) _ (GQ t ao a5) (fun cl cv a6 q a7 cy=>?_);obtain ⟨rfl,rfl⟩:=a6;simp only[bN] at a7;subst q;refine ⟨⟨ro,(f,.cells #[.int .u64 l.2] 236)::[(c,Obj.cells g 3)]⟩,Le.refl _,?_⟩;apply aJ;(try apply bu _);have h':=eu h;clear h;obtain ⟨a8,h,a9⟩:=h';refine fo hJ (fun a F'=>∃(o:Int),some (Fl.bk o:Fl Int (Unit×(List Int)))=some a8/\F'=⟨ro,(f,.cells #[.int .u64 l.2] 236)::[(c,Obj.cells g 3)]⟩/\sz a=65/\a.defers=[]/\cj [9,10,26,27,28,29,30,31,32,33,34,35,36,37,38,39,40,41,42,43,44,45,46,47,48,49,50,51,52,53,54,55,56,57,58,59,60,61,62,63,64] a e/\slot a 0= .slice (some ⟨c,0,none⟩) u0.length c2/\slot a 1= .int .i64 b/\slot a 6= .int .i64 (IntKind.i64.wrap (d - b))/\slot a 7= .pointer (some ⟨f,0,none⟩)/\slot a 8= .int .u64 k/\slot a 9= .int .i64 i/\slot a 10= .int .i64 o) ?_ ?_
    .apply ah hJ;refine aC hJ fun c0=>?_;apply aG hJ;apply bu _;revert h;refine cS (fun E h=>?_) fun E h=>?_
     ·(try simp only[Int.ofNat_lt] at E);refine dn hJ dz ?_;refine aC hJ fun da=>?_;apply aG hJ;apply bu _;(try apply bu _);refine Qn.intro ⟨_,Le.sub (List.Sublist.refl _),(IntKind.i64.wrap ((IntKind.i64.wrap (fE l.1 (IntKind.u64.wrap (k - 1)))) - (IntKind.i64.wrap (d - b)))),h,rfl,?_⟩;simp only[*,go_sem,-h]
     (try simp only[Int.ofNat_lt] at E);refine dr hJ dz ?_;apply aK hJ;(try apply bu _);refine Qn.intro ⟨_,Le.sub (List.Sublist.refl _),(IntKind.i64.wrap (fE l.1 (IntKind.u64.wrap (k - 1)))),h,rfl,?_⟩;simp only[*,go_sem,-h]
    rintro db F' ⟨o,W,rfl,dd,df,dk,dp,dq,ds,dt,du,dv,dC⟩;have h':=Option.some.inj W;clear W;subst h';have h:=a9;dsimp only[az] at h;clear P Q R S T U V O;refine aC hJ fun dE=>?_;refine ey hJ mixed [17,18,19] (.pure 0 (.pure 1 (.pure 2 (.pure 3 (.pure 4 (.pure 5 (.pure 6 (.pure 7 (.pure 8 (.pure 9 (.pure 10 (.rd 11 (.pure 12 (.pure 13 (.pure 14 (.rd 15 (.pure 16 (.last 17 (.pure 18 (.last 19 .done)))))))))))))))))))) ⟨ro,[(f,.cells #[.int .u64 l.2] 236),(c,Obj.cells g 3)]⟩ dz aj ?_;have h':=eu h;clear h;obtain ⟨F,ba,h⟩:=h';obtain ⟨dT,ea,eb,ec⟩:=u.cC ba;have h':=eu h;clear h;obtain ⟨H,bb,h⟩:=h';obtain ⟨bc,bd,ed,eh⟩:=u.cC bb;have X:=u.eK bc bd F;have h':=eu h;clear h;obtain ⟨et,bj,h⟩:=h';obtain ⟨bm,bo,ev,eQ⟩:=X.cC bj;have br:=X.eK bm bo H;(try apply bu _);(try apply bu _);refine Qn.intro ⟨_,Le.sub (List.Sublist.refl _),(bI (bI g (i).toNat [.int .i64 F]) (IntKind.i64.wrap (b+o)).toNat [.int .i64 H]),((s.set (i).toNat F).set (IntKind.i64.wrap (b+o)).toNat H),l.2,h,rfl,br,?_⟩;simp only[*,go_sem,-h]
   rintro eS F' ⟨w,x,y,Y,rfl,bs,e0,e1,e2,e3,fa,fb,fc,fg,fh⟩;have h':=Option.some.inj Y;clear Y;subst h';have h:=a4;dsimp only[az] at h;clear P Q R S T U V O;refine aC hJ fun fi=>?_;apply aG hJ;apply bu _;have h':=Option.some.inj h;clear h;subst h';have h:=True.intro;(try apply bu _);refine ⟨B,Nat.lt_succ_self _,_,Le.sub (List.Sublist.refl _),w,(IntKind.i64.wrap (i+1)),x,y,C,rfl,bs,?_⟩;simp only[*,go_sem,-h]
  try simp only[Int.ofNat_lt] at D
  refine dr hJ dz ?_;apply bJ;simp only[go_sem];have h':=Option.some.inj h;clear h;subst h';have h':=Option.some.inj C;clear C;subst h';have h:=a2;dsimp only[az] at h;have h':=Option.some.inj h;clear h;subst h';apply ag _;exact ⟨_,u,Le.sub (.cons _ (List.Sublist.refl _))⟩
 try simp only[Int.ofNat_lt] at z
 refine dr hJ dz ?_;apply aK hJ;have h':=Option.some.inj h;clear h;subst h';apply ag _;exact ⟨_,p,Le.sub (List.Sublist.refl _)⟩
def qK (u0:(List Int))(a:Int)(e:Int)(b:Int)(c:Int)(d:Int)(st:Int):Option (Fl Int ((Int×Bool)×(List Int))):=
 cond (decide (st<=(IntKind.i64.wrap (e - 1)))) (ai (bD ((u0.set (a).toNat c).set (b).toNat d) st) fun f=>ai (bD ((u0.set (a).toNat c).set (b).toNat d) a) fun g=>ai (e7 f g) fun h=>cond (h) (some (.nx (IntKind.i64.wrap (st+1)))) (some (.bk st))) (some (.bk st))
def qL (u0:(List Int))(a:Int)(b:Int)(c:Int)(d:Int)(e:Int)(st:Int):Option (Fl Int ((Int×Bool)×(List Int))):=
 cond (decide (e<=st)) (ai (bD ((u0.set (a).toNat c).set (b).toNat d) st) fun f=>ai (bD ((u0.set (a).toNat c).set (b).toNat d) a) fun g=>ai (e7 f g) fun h=>cond (!h) (some (.nx (IntKind.i64.wrap (st - 1)))) (some (.bk st))) (some (.bk st))
def kZ (b:Int)(c:Int)(a:(List Int))(st:Int):Option (Fl Int ((Int×Bool)×(List Int))):=
 cond (decide (st<=c)) (ai (bD a st) fun d=>ai (bD a b) fun e=>ai (e7 d e) fun f=>cond (f) (some (.nx (IntKind.i64.wrap (st+1)))) (some (.bk st))) (some (.bk st))
def k3 (b:Int)(a:(List Int))(c:Int)(st:Int):Option (Fl Int ((Int×Bool)×(List Int))):=
 cond (decide (c<=st)) (ai (bD a st) fun d=>ai (bD a b) fun e=>ai (e7 d e) fun f=>cond (!f) (some (.nx (IntKind.i64.wrap (st - 1)))) (some (.bk st))) (some (.bk st))
def k4 (c:Int)(st:(Int×Int×(List Int))):Option (Fl (Int×Int×(List Int)) ((Int×Bool)×(List Int))):=
 ai (ai (aQ (kZ c st.2.1 st.2.2) fu st.1) fun o=>az o (fun e=>some (.bk e)) (fun _ _=>none) (fun r=>some (.rt r)):Option (Fl Int ((Int×Bool)×(List Int)))) fun o=>az o (fun a=>ai (ai (aQ (k3 c st.2.2 a) fu st.2.1) fun o=>az o (fun f=>some (.bk f)) (fun _ _=>none) (fun r=>some (.rt r)):Option (Fl Int ((Int×Bool)×(List Int)))) fun o=>az o (fun b=>cond (decide (b<a)) (some (.bk (a,b,st.2.2))) (ai (bD st.2.2 b) fun d=>ai (bD st.2.2 a) fun g=>ai (bD (st.2.2.set (a).toNat d) b) fun h=>some (.nx ((IntKind.i64.wrap (a+1)),(IntKind.i64.wrap (b - 1)),((st.2.2.set (a).toNat d).set (b).toNat g))))) (fun _ _=>none) (fun r=>some (.rt r))) (fun _ _=>none) (fun r=>some (.rt r))
def qM (u0:(List Int))(a:Int)(h:Int)(b:Int):Option ((Int×Bool)×(List Int)):=
 cond (List.isEmpty u0) none (ai (bD u0 b) fun c=>ai (bD u0 a) fun d=>ai (bD (u0.set (a).toNat c) b) fun t=>ai (ai (aQ (qK u0 a h b c d) fu (IntKind.i64.wrap (a+1))) fun o=>az o (fun m=>some (.bk m)) (fun _ _=>none) (fun r=>some (.rt r)):Option (Fl Int ((Int×Bool)×(List Int)))) fun o=>az o (fun g=>ai (ai (aQ (qL u0 a b c d g) fu (IntKind.i64.wrap (h - 1))) fun o=>az o (fun n=>some (.bk n)) (fun _ _=>none) (fun r=>some (.rt r)):Option (Fl Int ((Int×Bool)×(List Int)))) fun o=>az o (fun e=>cond (decide (e<g)) (ai (bD ((u0.set (a).toNat c).set (b).toNat d) a) fun i=>ai (bD ((u0.set (a).toNat c).set (b).toNat d) e) fun p=>ai (bD (((u0.set (a).toNat c).set (b).toNat d).set (e).toNat i) a) fun u=>some ((e,true),((((u0.set (a).toNat c).set (b).toNat d).set (e).toNat i).set (a).toNat p))) (ai (bD ((u0.set (a).toNat c).set (b).toNat d) e) fun j=>ai (bD ((u0.set (a).toNat c).set (b).toNat d) g) fun q=>ai (bD (((u0.set (a).toNat c).set (b).toNat d).set (g).toNat j) e) fun v=>ai (ai (aQ (k4 a) fu ((IntKind.i64.wrap (g+1)),(IntKind.i64.wrap (e - 1)),((((u0.set (a).toNat c).set (b).toNat d).set (g).toNat j).set (e).toNat q))) fun o=>az o (fun k=>some (.bk (k.2.1,k.2.2))) (fun _ _=>none) (fun r=>some (.rt r)):Option (Fl (Int×(List Int)) ((Int×Bool)×(List Int)))) fun o=>az o (fun f=>ai (bD f.2 a) fun l=>ai (bD f.2 f.1) fun s=>ai (bD (f.2.set (f.1).toNat l) a) fun w=>some ((f.1,false),((f.2.set (f.1).toNat l).set (a).toNat s))) (fun _ _=>none) (fun r=>some r))) (fun _ _=>none) (fun r=>some r)) (fun _ _=>none) (fun r=>some r))
theorem GV {ro:Addr->Option Value}(u0:(List Int)){bT:Value}{a8:List (Nat×Obj)}(x:aW rI ro 3 bT u0 a8)(c:Int)(y:Int)(p:Int){r:((Int×Bool)×(List Int))}(h:qM u0 c y p=some r):aE Tryz.prog 209 #[bT,.int .i64 c,.int .i64 y,.int .i64 p] ⟨ro,a8⟩ (fun v G=>∃a9,(v= .tuple #[.int .i64 r.1.1,.bool r.1.2]/\aW rI ro 3 bT r.2 a9)/\Le ⟨ro,a9⟩ G):=by
 obtain ⟨d1,c2,rfl,lk⟩:=x.len;unfold qM at h;revert h;refine cS (fun ba h=>?_) fun ba h=>?_
 .cases h
 obtain ⟨b,bb,rfl,rfl,ll⟩:=x.fN ba;refine aE.go Tryz.func209 rfl Tryz.ntmps209 Tryz.results209 an fun main J hJ A bc hd hs=>?_;have bd:=hs 0;have k1:=hs 1;have bj:=hs 2;have bm:=hs 3;clear hs;apply ah hJ;refine aC hJ fun ln=>?_;apply aM hJ _;apply ah hJ;refine aC hJ fun lr=>?_;refine ey hJ mixed [13,14,15] (.pure 0 (.pure 1 (.pure 2 (.pure 3 (.pure 4 (.pure 5 (.pure 6 (.rd 7 (.pure 8 (.pure 9 (.pure 10 (.rd 11 (.pure 12 (.last 13 (.pure 14 (.last 15 .done)))))))))))))))) ⟨ro,[(b,Obj.cells bb 3)]⟩ bx aj ?_;revert h;refine bS fun z fp h=>?_;obtain ⟨lv,lx,ly,lL⟩:=x.cC fp;revert h;refine bS fun B fr h=>?_;obtain ⟨fs,ft,l1,l2⟩:=x.cC fr;have bo:=x.eK fs ft z;revert h;refine bS fun l3 fv h=>?_;obtain ⟨fw,fx,l4,ma⟩:=bo.cC fv;have d:=bo.eK fw fx B;apply ag _;apply ah hJ;obtain ⟨f,S⟩:∃o,o=(bI (bI bb (c).toNat [.int .i64 z]) (p).toNat [.int .i64 B]):=⟨_,rfl⟩
 refine cq (F:=⟨ro,[(b,Obj.cells f 3)]⟩) hJ (by rw[S];exact Le.refl _) ?_;rw[<-S] at d;clear S;refine aC hJ fun mf=>?_;apply aM hJ _;revert h;refine bS fun fz h gg=>?_;refine fo hJ (fun a F'=>∃(g:Int),some (Fl.bk g:Fl Int ((Int×Bool)×(List Int)))=some fz/\F'=⟨ro,[(b,Obj.cells f 3)]⟩/\sz a=168/\a.defers=[]/\slot a 0= .slice (some ⟨b,0,none⟩) u0.length c2/\slot a 1= .int .i64 c/\slot a 8= .int .i64 0/\slot a 9= .bool false/\slot a 10= .int .i64 g/\slot a 11= .int .i64 (IntKind.i64.wrap (y - 1))) ?_ ?_
 .apply aU hJ;revert h;refine bS fun gj K br=>?_;refine bP hJ (rg 30 16 [10]) (fun m a F'=>∃(q:Int),aQ (qK u0 c y p z B) m q=some gj/\F'=⟨ro,[(b,Obj.cells f 3)]⟩/\slot a 10= .int .i64 q) fu ?_ ?_
  .refine ⟨(IntKind.i64.wrap (c+1)),K,rfl,?_⟩;simp only[*,go_sem]
  rintro m2 mi F' bs ⟨q,K,rfl,ml⟩;obtain ⟨gl,gn,gp⟩:=bs.pick [0,1,8,9,11] aL;simp only[*,go_sem] at gl gn gp;clear bs bc hd bd k1 bj bm;obtain _|m2:=m2
  .exact absurd K (by simp only[aQ,reduceCtorEq,not_false_eq_true])
  revert K;refine bS fun mn h C=>?_;unfold qK at h;try dsimp only at h
  refine ah hJ (ah hJ ?_);refine aC hJ fun mr=>?_;refine dR hJ mixed 14 1 bx aj ?_;revert h;refine cS (fun gy h=>?_) fun gy h=>?_
  .revert h;refine bS fun g0 g1 h=>?_;obtain ⟨mx,my,m1,na⟩:=d.cC g1;revert h;refine bS fun g2 g3 h=>?_;obtain ⟨nb,nc,nd,nf⟩:=d.cC g3;revert h;refine bS fun nh g4 h=>?_;apply ag _;refine ⟨_,dW hJ fun F hF=>gx g0 g2 g4,eB ?_⟩;apply ag _;revert h;refine aV hJ (fun g7 h=>?_) fun g7 h=>?_
   .cases h;refine aK hJ (aU hJ ?_);refine aC hJ fun nm=>?_;apply aM hJ _;refine ⟨m2,Nat.lt_succ_self _,_,Le.sub (List.Sublist.refl _),(IntKind.i64.wrap (q+1)),C,rfl,?_⟩;simp only[*,go_sem]
   cases h;apply bJ;simp only[go_sem];obtain rfl:=sI C;clear C;have h:=br;dsimp only[az] at h;apply ag _;refine Qn.intro ⟨_,Le.sub (List.Sublist.refl _),q,h,rfl,?_⟩;simp only[*,go_sem]
  cases h;apply ag _;refine cE hJ ?_;apply bJ;simp only[go_sem];obtain rfl:=sI C;clear C;have h:=br;dsimp only[az] at h;refine Qn.intro ⟨_,Le.sub (List.Sublist.refl _),q,h,rfl,?_⟩;simp only[*,go_sem]
 rintro nn F' ⟨g,b0,rfl,b1,b2,b3,b4,ca,cb,cc,cd⟩;obtain rfl:=sI b0;clear b0;have h:=gg;dsimp only[az] at h;clear bc hd bd k1 bj bm;revert h;refine bS fun ha h hc=>?_;refine fo hJ (fun a F'=>∃(k:Int),some (Fl.bk k:Fl Int ((Int×Bool)×(List Int)))=some ha/\F'=⟨ro,[(b,Obj.cells f 3)]⟩/\sz a=168/\a.defers=[]/\slot a 0= .slice (some ⟨b,0,none⟩) u0.length c2/\slot a 1= .int .i64 c/\slot a 8= .int .i64 0/\slot a 9= .bool false/\slot a 10= .int .i64 g/\slot a 11= .int .i64 k) ?_ ?_
 .apply aU hJ;revert h;refine bS fun hf L cf=>?_;refine bP hJ (rg 46 17 [11]) (fun m a F'=>∃(s:Int),aQ (qL u0 c p z B g) m s=some hf/\F'=⟨ro,[(b,Obj.cells f 3)]⟩/\slot a 11= .int .i64 s) fu ?_ ?_
  .refine ⟨(IntKind.i64.wrap (y - 1)),L,rfl,?_⟩;simp only[*,go_sem]
  rintro T np F' ck ⟨s,L,rfl,ns⟩;obtain ⟨hg,hh,hi⟩:=ck.pick [0,1,8,9,10] aL;simp only[*,go_sem] at hg hh hi;clear ck b1 b2 b3 b4 ca cb cc cd;obtain _|T:=T
  .exact absurd L (by simp only[aQ,reduceCtorEq,not_false_eq_true])
  revert L;refine bS fun nx h D=>?_;unfold qL at h;try dsimp only at h
  refine ah hJ (ah hJ ?_);refine aC hJ fun nz=>?_;refine dR hJ mixed 15 1 bx aj ?_;revert h;refine cS (fun hj h=>?_) fun hj h=>?_
  .revert h;refine bS fun hk hl h=>?_;obtain ⟨nA,nH,nI,nK⟩:=d.cC hl;revert h;refine bS fun hn ho h=>?_;obtain ⟨nQ,nR,nT,nV⟩:=d.cC ho;revert h;refine bS fun nX hp h=>?_;apply ag _;refine ⟨_,dW hJ fun F hF=>gx hk hn hp,eB ?_⟩;apply ag _;revert h;refine aV hJ (fun hq h=>?_) fun hq h=>?_
   .cases h;refine aK hJ (aU hJ ?_);refine aC hJ fun nY=>?_;apply aM hJ _;refine ⟨T,Nat.lt_succ_self _,_,Le.sub (List.Sublist.refl _),(IntKind.i64.wrap (s - 1)),D,rfl,?_⟩;simp only[*,go_sem]
   cases h;apply bJ;simp only[go_sem];obtain rfl:=sI D;clear D;have h:=cf;dsimp only[az] at h;apply ag _;refine Qn.intro ⟨_,Le.sub (List.Sublist.refl _),s,h,rfl,?_⟩;simp only[*,go_sem]
  cases h;apply ag _;refine cE hJ ?_;apply bJ;simp only[go_sem];obtain rfl:=sI D;clear D;have h:=cf;dsimp only[az] at h;refine Qn.intro ⟨_,Le.sub (List.Sublist.refl _),s,h,rfl,?_⟩;simp only[*,go_sem]
 rintro n0 F' ⟨k,cl,rfl,cv,cy,c0,da,db,dd,df,dk⟩;obtain rfl:=sI cl;clear cl;have h:=hc;dsimp only[az] at h;clear b1 b2 b3 b4 ca cb cc cd;refine ah hJ (ah hJ ?_);refine aC hJ fun n1=>?_;apply aM hJ _;revert h;refine aV hJ (fun hr h=>?_) fun hr h=>?_
 .apply ah hJ;refine aC hJ fun n2=>?_;refine ey hJ mixed [13,14,15] (.pure 0 (.pure 1 (.pure 2 (.pure 3 (.pure 4 (.pure 5 (.pure 6 (.rd 7 (.pure 8 (.pure 9 (.pure 10 (.rd 11 (.pure 12 (.last 13 (.pure 14 (.last 15 .done)))))))))))))))) ⟨ro,[(b,Obj.cells f 3)]⟩ bx aj ?_;revert h;refine bS fun dp ht h=>?_;obtain ⟨n3,oc,oi,oj⟩:=d.cC ht;revert h;refine bS fun dq hv h=>?_;obtain ⟨hx,hy,ox,oy⟩:=d.cC hv;have ds:=d.eK hx hy dp;revert h;refine bS fun o0 hz h=>?_;cases h;obtain ⟨hA,hB,o1,o2⟩:=ds.cC hz;have dt:=ds.eK hA hB dq;apply ag _;apply ah hJ;obtain ⟨hD,U⟩:∃o,o=(bI (bI f (k).toNat [.int .i64 dp]) (c).toNat [.int .i64 dq]):=⟨_,rfl⟩
  refine cq (F:=⟨ro,[(b,Obj.cells hD 3)]⟩) hJ (by rw[U];exact Le.refl _) ?_;rw[<-U] at dt;clear U;refine aC hJ fun pa=>?_;apply aM hJ _;refine b5 ?_;exact ⟨_,dt,Le.sub (List.Sublist.refl _)⟩
 refine aK hJ (ah hJ ?_);refine aC hJ fun pb=>?_;refine ey hJ mixed [13,14,15] (.pure 0 (.pure 1 (.pure 2 (.pure 3 (.pure 4 (.pure 5 (.pure 6 (.rd 7 (.pure 8 (.pure 9 (.pure 10 (.rd 11 (.pure 12 (.last 13 (.pure 14 (.last 15 .done)))))))))))))))) ⟨ro,[(b,Obj.cells f 3)]⟩ bx aj ?_;revert h;refine bS fun V hE h=>?_;obtain ⟨pd,pf,pj,pk⟩:=d.cC hE;revert h;refine bS fun W hG h=>?_;obtain ⟨hH,hI,po,pr⟩:=d.cC hG;have du:=d.eK hH hI V;revert h;refine bS fun ps hK h=>?_;obtain ⟨hL,hM,pt,pv⟩:=du.cC hK;have dv:=du.eK hL hM W;apply ag _;apply ah hJ;obtain ⟨dC,X⟩:∃o,o=(bI (bI f (g).toNat [.int .i64 V]) (k).toNat [.int .i64 W]):=⟨_,rfl⟩
 refine cq (F:=⟨ro,[(b,Obj.cells dC 3)]⟩) hJ (by rw[X];exact Le.refl _) ?_;rw[<-X] at dv;clear X;refine aC hJ fun pw=>?_;apply aM hJ _;apply ah hJ;refine aC hJ fun px=>?_;apply aM hJ _;revert h;refine bS fun hN h hP=>?_;refine fo hJ (fun a F'=>∃(E:Array Value) (M:Int) (Y:(List Int)),some (Fl.bk (M,Y):Fl (Int×(List Int)) ((Int×Bool)×(List Int)))=some hN/\F'=⟨ro,[(b,Obj.cells E 3)]⟩/\aW rI ro 3 (.slice (some ⟨b,0,none⟩) u0.length c2) Y [(b,Obj.cells E 3)]/\sz a=168/\a.defers=[]/\slot a 0= .slice (some ⟨b,0,none⟩) u0.length c2/\slot a 1= .int .i64 c/\slot a 8= .int .i64 0/\slot a 9= .bool false/\slot a 11= .int .i64 M) ?_ ?_
 .apply aU hJ;revert h;refine bS fun hQ N hR=>?_;refine bP hJ (rg 99 54 [10,11]) (fun m a F'=>∃(e:Array Value) (O:Int) (t:Int) (l:(List Int)),aQ (k4 c) m (O,t,l)=some hQ/\F'=⟨ro,[(b,Obj.cells e 3)]⟩/\aW rI ro 3 (.slice (some ⟨b,0,none⟩) u0.length c2) l [(b,Obj.cells e 3)]/\slot a 10= .int .i64 O/\slot a 11= .int .i64 t) fu ?_ ?_
  .refine ⟨dC,(IntKind.i64.wrap (g+1)),(IntKind.i64.wrap (k - 1)),((((u0.set (c).toNat z).set (p).toNat B).set (g).toNat V).set (k).toNat W),N,rfl,dv,?_⟩;simp only[*,go_sem]
  rintro Z P F' dE ⟨e,O,t,l,N,rfl,i,dT,ea⟩;obtain ⟨ab,ad,ae⟩:=dE.pick [0,1,8,9] aL;simp only[*,go_sem] at ab ad ae;clear dE cv cy c0 da db dd df dk;obtain _|Z:=Z
  .exact absurd N (by simp only[aQ,reduceCtorEq,not_false_eq_true])
  revert N;refine bS fun py h al=>?_;unfold k4 at h;try dsimp only at h
  apply aU hJ;revert h;refine bS fun hS h hT=>?_;refine fo hJ (fun a F'=>∃(j:Int),some (Fl.bk j:Fl Int ((Int×Bool)×(List Int)))=some hS/\F'=⟨ro,[(b,Obj.cells e 3)]⟩/\sz a=168/\a.defers=[]/\cj (rg 99 54 [10,11]) a P/\slot a 0= .slice (some ⟨b,0,none⟩) u0.length c2/\slot a 1= .int .i64 c/\slot a 8= .int .i64 0/\slot a 9= .bool false/\slot a 10= .int .i64 j/\slot a 11= .int .i64 t) ?_ ?_
  .apply aU hJ;revert h;refine bS fun hV Q eb=>?_;refine bP hJ (rg 99 16 [10]) (fun m a F'=>∃(u:Int),aQ (kZ c t l) m u=some hV/\F'=⟨ro,[(b,Obj.cells e 3)]⟩/\slot a 10= .int .i64 u) fu ?_ ?_
   .refine ⟨O,Q,rfl,?_⟩;simp only[*,go_sem]
   rintro ao hX F' ar ⟨u,Q,rfl,pA⟩;obtain ⟨hY,hZ,h0⟩:=ar.pick [0,1,8,9,11] aL;simp only[*,go_sem] at hY hZ h0;have pB:cj (rg 99 54 [10,11]) hX P:=(ar.eC aL).trans bx;clear ar ab ad ae dT ea;obtain _|ao:=ao
   .exact absurd Q (by simp only[aQ,reduceCtorEq,not_false_eq_true])
   revert Q;refine bS fun pC h H=>?_;unfold kZ at h;(try dsimp only at h);refine ah hJ (ah hJ ?_);refine aC hJ fun pD=>?_;refine dR hJ mixed 14 1 bx aj ?_;revert h;refine cS (fun h1 h=>?_) fun h1 h=>?_
   .revert h;refine bS fun h2 h3 h=>?_;obtain ⟨pT,p0,p1,qe⟩:=i.cC h3;revert h;refine bS fun h4 h5 h=>?_;obtain ⟨qk,q0,q1,ra⟩:=i.cC h5;revert h;refine bS fun rb h6 h=>?_;apply ag _;refine ⟨_,dW hJ fun F hF=>gx h2 h4 h6,eB ?_⟩;apply ag _;revert h;refine aV hJ (fun h7 h=>?_) fun h7 h=>?_
    .cases h;refine aK hJ (aU hJ ?_);refine aC hJ fun re=>?_;apply aM hJ _;refine ⟨ao,Nat.lt_succ_self _,_,Le.sub (List.Sublist.refl _),(IntKind.i64.wrap (u+1)),H,rfl,?_⟩;simp only[*,go_sem]
    cases h;apply bJ;simp only[go_sem];obtain rfl:=sI H;clear H;have h:=eb;dsimp only[az] at h;apply ag _;refine Qn.intro ⟨_,Le.sub (List.Sublist.refl _),u,h,rfl,?_⟩;simp only[*,go_sem]
   cases h;apply ag _;refine cE hJ ?_;apply bJ;simp only[go_sem];obtain rfl:=sI H;clear H;have h:=eb;dsimp only[az] at h;refine Qn.intro ⟨_,Le.sub (List.Sublist.refl _),u,h,rfl,?_⟩;simp only[*,go_sem]
  rintro rh F' ⟨j,ec,rfl,ed,eh,rk,et,ev,eQ,eS,e0,e1⟩;obtain rfl:=sI ec;clear ec;have h:=hT;dsimp only[az] at h;clear ab ad ae dT ea;revert h;refine bS fun h8 h h9=>?_;refine fo hJ (fun a F'=>∃(n:Int),some (Fl.bk n:Fl Int ((Int×Bool)×(List Int)))=some h8/\F'=⟨ro,[(b,Obj.cells e 3)]⟩/\sz a=168/\a.defers=[]/\cj (rg 99 54 [10,11]) a P/\slot a 0= .slice (some ⟨b,0,none⟩) u0.length c2/\slot a 1= .int .i64 c/\slot a 8= .int .i64 0/\slot a 9= .bool false/\slot a 10= .int .i64 j/\slot a 11= .int .i64 n) ?_ ?_
  .apply aU hJ;revert h;refine bS fun ib R e2=>?_;refine bP hJ (rg 115 17 [11]) (fun m a F'=>∃(w:Int),aQ (k3 c l j) m w=some ib/\F'=⟨ro,[(b,Obj.cells e 3)]⟩/\slot a 11= .int .i64 w) fu ?_ ?_
   .refine ⟨t,R,rfl,?_⟩;simp only[*,go_sem]
   rintro a0 ih F' a2 ⟨w,R,rfl,rl⟩;obtain ⟨ik,il,im⟩:=a2.pick [0,1,8,9,10] aL;simp only[*,go_sem] at ik il im;have rn:cj (rg 99 54 [10,11]) ih P:=(a2.eC aL).trans bx;clear a2 ed eh et ev eQ eS e0 e1;obtain _|a0:=a0
   .exact absurd R (by simp only[aQ,reduceCtorEq,not_false_eq_true])
   revert R;refine bS fun rp h I=>?_;unfold k3 at h;(try dsimp only at h);refine ah hJ (ah hJ ?_);refine aC hJ fun rr=>?_;refine dR hJ mixed 15 1 bx aj ?_;revert h;refine cS (fun iv h=>?_) fun iv h=>?_
   .revert h;refine bS fun ix jC h=>?_;obtain ⟨rv,rB,rL,sa⟩:=i.cC jC;revert h;refine bS fun j1 j2 h=>?_;obtain ⟨sb,sc,sf,sg⟩:=i.cC j2;revert h;refine bS fun sh kh h=>?_;apply ag _;refine ⟨_,dW hJ fun F hF=>gx ix j1 kh,eB ?_⟩;apply ag _;revert h;refine aV hJ (fun kj h=>?_) fun kj h=>?_
    .cases h;refine aK hJ (aU hJ ?_);refine aC hJ fun sk=>?_;apply aM hJ _;refine ⟨a0,Nat.lt_succ_self _,_,Le.sub (List.Sublist.refl _),(IntKind.i64.wrap (w - 1)),I,rfl,?_⟩;simp only[*,go_sem]
    cases h;apply bJ;simp only[go_sem];obtain rfl:=sI I;clear I;have h:=e2;dsimp only[az] at h;apply ag _;refine Qn.intro ⟨_,Le.sub (List.Sublist.refl _),w,h,rfl,?_⟩;simp only[*,go_sem]
   cases h;apply ag _;refine cE hJ ?_;apply bJ;simp only[go_sem];obtain rfl:=sI I;clear I;have h:=e2;dsimp only[az] at h;refine Qn.intro ⟨_,Le.sub (List.Sublist.refl _),w,h,rfl,?_⟩;simp only[*,go_sem]
  rintro sl F' ⟨n,e3,rfl,sm,sn,ss,sy,sT,ta,tb,te,ti⟩;obtain rfl:=sI e3;clear e3;have h:=h9;dsimp only[az] at h;clear ed eh et ev eQ eS e0 e1;refine ah hJ (ah hJ ?_);refine aC hJ fun tk=>?_;apply aM hJ _;revert h;refine aV hJ (fun kk h=>?_) fun kk h=>?_
  .cases h;apply bJ;simp only[go_sem];obtain rfl:=sI al;clear al;have h:=hR;dsimp only[az] at h;apply ag _;refine Qn.intro ⟨_,Le.sub (List.Sublist.refl _),e,n,l,h,rfl,i,?_⟩;simp only[*,go_sem]
  refine aK hJ (ah hJ ?_);refine aC hJ fun tl=>?_;refine ey hJ mixed [13,14,15] (.pure 0 (.pure 1 (.pure 2 (.pure 3 (.pure 4 (.pure 5 (.pure 6 (.rd 7 (.pure 8 (.pure 9 (.pure 10 (.rd 11 (.pure 12 (.last 13 (.pure 14 (.last 15 .done)))))))))))))))) ⟨ro,[(b,Obj.cells e 3)]⟩ bx aj ?_;revert h;refine bS fun a3 kl h=>?_;obtain ⟨tm,tp,ts,tt⟩:=i.cC kl;revert h;refine bS fun a4 km h=>?_;obtain ⟨kn,kp,tx,tz⟩:=i.cC km;have fa:=i.eK kn kp a3;revert h;refine bS fun tI kq h=>?_;cases h;obtain ⟨ks,kt,tM,tW⟩:=fa.cC kq;have fb:=fa.eK ks kt a4;apply ag _;apply ah hJ;obtain ⟨fc,a5⟩:∃o,o=(bI (bI e (j).toNat [.int .i64 a3]) (n).toNat [.int .i64 a4]):=⟨_,rfl⟩
  refine cq (F:=⟨ro,[(b,Obj.cells fc 3)]⟩) hJ (by rw[a5];exact Le.refl _) ?_;rw[<-a5] at fb;clear a5;refine aC hJ fun ub=>?_;apply aM hJ _;refine aC hJ fun ui=>?_;apply aM hJ _;refine ⟨Z,Nat.lt_succ_self _,_,Le.sub (List.Sublist.refl _),fc,(IntKind.i64.wrap (j+1)),(IntKind.i64.wrap (n - 1)),((l.set (j).toNat a3).set (n).toNat a4),al,rfl,fb,?_⟩;simp only[*,go_sem]
 rintro u1 F' ⟨E,M,Y,fg,rfl,a6,u2,u3,u4,va,vd,vf,vs⟩;obtain rfl:=sI fg;clear fg;have h:=hP;dsimp only[az] at h;clear cv cy c0 da db dd df dk;apply ah hJ;refine aC hJ fun vx=>?_;refine ey hJ mixed [13,14,15] (.pure 0 (.pure 1 (.pure 2 (.pure 3 (.pure 4 (.pure 5 (.pure 6 (.rd 7 (.pure 8 (.pure 9 (.pure 10 (.rd 11 (.pure 12 (.last 13 (.pure 14 (.last 15 .done)))))))))))))))) ⟨ro,[(b,Obj.cells E 3)]⟩ bx aj ?_;revert h;refine bS fun fh kv h=>?_;obtain ⟨vy,vP,v3,wa⟩:=a6.cC kv;revert h;refine bS fun fi kx h=>?_;obtain ⟨ky,k0,wb,wc⟩:=a6.cC kx;have fj:=a6.eK ky k0 fh;revert h;refine bS fun wi k2 h=>?_;cases h;obtain ⟨lb,lh,wv,wx⟩:=fj.cC k2;have fl:=fj.eK lb lh fi;apply ag _;apply ah hJ;obtain ⟨lj,a7⟩:∃o,o=(bI (bI E (M).toNat [.int .i64 fh]) (c).toNat [.int .i64 fi]):=⟨_,rfl⟩
 refine cq (F:=⟨ro,[(b,Obj.cells lj 3)]⟩) hJ (by rw[a7];exact Le.refl _) ?_;rw[<-a7] at fl;clear a7;refine aC hJ fun wy=>?_;apply aM hJ _;refine b5 ?_;exact ⟨_,fl,Le.sub (List.Sublist.refl _)⟩
def ov (b:Int)(c:Int)(a:(List Int))(st:Int):Option (Fl Int (Int×(List Int))):=
 cond (decide (st<=c)) (ai (bD a b) fun d=>ai (bD a st) fun e=>ai (e7 d e) fun f=>cond (!f) (some (.nx (IntKind.i64.wrap (st+1)))) (some (.bk st))) (some (.bk st))
def ow (b:Int)(a:(List Int))(c:Int)(st:Int):Option (Fl Int (Int×(List Int))):=
 cond (decide (c<=st)) (ai (bD a b) fun d=>ai (bD a st) fun e=>ai (e7 d e) fun f=>cond (f) (some (.nx (IntKind.i64.wrap (st - 1)))) (some (.bk st))) (some (.bk st))
def k5 (c:Int)(st:(Int×Int×(List Int))):Option (Fl (Int×Int×(List Int)) (Int×(List Int))):=
 ai (ai (aQ (ov c st.2.1 st.2.2) fu st.1) fun o=>az o (fun e=>some (.bk e)) (fun _ _=>none) (fun r=>some (.rt r)):Option (Fl Int (Int×(List Int)))) fun o=>az o (fun a=>ai (ai (aQ (ow c st.2.2 a) fu st.2.1) fun o=>az o (fun f=>some (.bk f)) (fun _ _=>none) (fun r=>some (.rt r)):Option (Fl Int (Int×(List Int)))) fun o=>az o (fun b=>cond (decide (b<a)) (some (.bk (a,b,st.2.2))) (ai (bD st.2.2 b) fun d=>ai (bD st.2.2 a) fun g=>ai (bD (st.2.2.set (a).toNat d) b) fun h=>some (.nx ((IntKind.i64.wrap (a+1)),(IntKind.i64.wrap (b - 1)),((st.2.2.set (a).toNat d).set (b).toNat g))))) (fun _ _=>none) (fun r=>some (.rt r))) (fun _ _=>none) (fun r=>some (.rt r))
def oz (u0:(List Int))(a:Int)(f:Int)(b:Int):Option (Int×(List Int)):=
 cond (List.isEmpty u0) none (ai (bD u0 b) fun c=>ai (bD u0 a) fun g=>ai (bD (u0.set (a).toNat c) b) fun h=>ai (ai (aQ (k5 a) fu ((IntKind.i64.wrap (a+1)),(IntKind.i64.wrap (f - 1)),((u0.set (a).toNat c).set (b).toNat g))) fun o=>az o (fun d=>some (.bk (d.1,d.2.2))) (fun _ _=>none) (fun r=>some (.rt r)):Option (Fl (Int×(List Int)) (Int×(List Int)))) fun o=>az o (fun e=>some (e.1,e.2)) (fun _ _=>none) (fun r=>some r))
theorem GW {ro:Addr->Option Value}(u0:(List Int)){bT:Value}{V:List (Nat×Obj)}(n:aW rI ro 3 bT u0 V)(c:Int)(z:Int)(s:Int){r:(Int×(List Int))}(h:oz u0 c z s=some r):aE Tryz.prog 208 #[bT,.int .i64 c,.int .i64 z,.int .i64 s] ⟨ro,V⟩ (fun v G=>∃W,(v= .int .i64 r.1/\aW rI ro 3 bT r.2 W)/\Le ⟨ro,W⟩ G):=by
 obtain ⟨d1,c2,rfl,fj⟩:=n.len;unfold oz at h;revert h;refine cS (fun X h=>?_) fun X h=>?_
 .cases h
 obtain ⟨b,Y,rfl,rfl,fl⟩:=n.fN X;refine aE.go Tryz.func208 rfl Tryz.ntmps208 Tryz.results208 an fun main J hJ A Z hd hs=>?_;have ab:=hs 0;have k1:=hs 1;have ad:=hs 2;have ae:=hs 3;clear hs;apply ah hJ;refine aC hJ fun fp=>?_;apply aM hJ _;apply ah hJ;refine aC hJ fun fr=>?_;refine ey hJ mixed [13,14,15] (.pure 0 (.pure 1 (.pure 2 (.pure 3 (.pure 4 (.pure 5 (.pure 6 (.rd 7 (.pure 8 (.pure 9 (.pure 10 (.rd 11 (.pure 12 (.last 13 (.pure 14 (.last 15 .done)))))))))))))))) ⟨ro,[(b,Obj.cells Y 3)]⟩ bx aj ?_;revert h;refine bS fun B b0 h=>?_;obtain ⟨fs,ft,fv,fw⟩:=n.cC b0;revert h;refine bS fun C b1 h=>?_;obtain ⟨b2,b3,fx,fz⟩:=n.cC b1;have al:=n.eK b2 b3 B;revert h;refine bS fun gg b4 h=>?_;obtain ⟨ca,cb,gj,gl⟩:=al.cC b4;have ao:=al.eK ca cb C;apply ag _;apply ah hJ;obtain ⟨ar,D⟩:∃o,o=(bI (bI Y (c).toNat [.int .i64 B]) (s).toNat [.int .i64 C]):=⟨_,rfl⟩
 refine cq (F:=⟨ro,[(b,Obj.cells ar 3)]⟩) hJ (by rw[D];exact Le.refl _) ?_;rw[<-D] at ao;clear D;refine aC hJ fun gn=>?_;apply aM hJ _;revert h;refine bS fun cc h cd=>?_;refine fo hJ (fun a F'=>∃(E:Array Value) (H:Int) (I:(List Int)),some (Fl.bk (H,I):Fl (Int×(List Int)) (Int×(List Int)))=some cc/\F'=⟨ro,[(b,Obj.cells E 3)]⟩/\aW rI ro 3 (.slice (some ⟨b,0,none⟩) u0.length c2) I [(b,Obj.cells E 3)]/\sz a=84/\a.defers=[]/\slot a 0= .slice (some ⟨b,0,none⟩) u0.length c2/\slot a 8= .int .i64 0/\slot a 9= .int .i64 H) ?_ ?_
 .apply aU hJ;revert h;refine bS fun cf t ck=>?_;refine bP hJ (rg 29 54 [9,10]) (fun m a F'=>∃(d:Array Value) (u:Int) (i:Int) (g:(List Int)),aQ (k5 c) m (u,i,g)=some cf/\F'=⟨ro,[(b,Obj.cells d 3)]⟩/\aW rI ro 3 (.slice (some ⟨b,0,none⟩) u0.length c2) g [(b,Obj.cells d 3)]/\slot a 9= .int .i64 u/\slot a 10= .int .i64 i) fu ?_ ?_
  .refine ⟨ar,(IntKind.i64.wrap (c+1)),(IntKind.i64.wrap (z - 1)),((u0.set (c).toNat B).set (s).toNat C),t,rfl,ao,?_⟩;simp only[*,go_sem]
  rintro m2 w F' a0 ⟨d,u,i,g,t,rfl,f,a2,a3⟩;obtain ⟨K,L,M⟩:=a0.pick [0,1,8] aL;simp only[*,go_sem] at K L M;clear a0 Z hd ab k1 ad ae;obtain _|m2:=m2
  .exact absurd t (by simp only[aQ,reduceCtorEq,not_false_eq_true])
  revert t;refine bS fun gp h N=>?_;unfold k5 at h;try dsimp only at h
  apply aU hJ;revert h;refine bS fun cl h cv=>?_;refine fo hJ (fun a F'=>∃(e:Int),some (Fl.bk e:Fl Int (Int×(List Int)))=some cl/\F'=⟨ro,[(b,Obj.cells d 3)]⟩/\sz a=84/\a.defers=[]/\cj (rg 29 54 [9,10]) a w/\slot a 0= .slice (some ⟨b,0,none⟩) u0.length c2/\slot a 1= .int .i64 c/\slot a 8= .int .i64 0/\slot a 9= .int .i64 e/\slot a 10= .int .i64 i) ?_ ?_
  .apply aU hJ;revert h;refine bS fun cy x a4=>?_;refine bP hJ (rg 29 17 [9]) (fun m a F'=>∃(j:Int),aQ (ov c i g) m j=some cy/\F'=⟨ro,[(b,Obj.cells d 3)]⟩/\slot a 9= .int .i64 j) fu ?_ ?_
   .refine ⟨u,x,rfl,?_⟩;simp only[*,go_sem]
   rintro O c0 F' P ⟨j,x,rfl,gy⟩;obtain ⟨da,db,dd⟩:=P.pick [0,1,8,10] aL;simp only[*,go_sem] at da db dd;have g0:cj (rg 29 54 [9,10]) c0 w:=(P.eC aL).trans bx;clear P K L M a2 a3;obtain _|O:=O
   .exact absurd x (by simp only[aQ,reduceCtorEq,not_false_eq_true])
   revert x;refine bS fun g1 h p=>?_;unfold ov at h;(try dsimp only at h);refine ah hJ (ah hJ ?_);refine aC hJ fun g2=>?_;refine dR hJ mixed 15 1 bx aj ?_;revert h;refine cS (fun df h=>?_) fun df h=>?_
   .revert h;refine bS fun dk dp h=>?_;obtain ⟨g3,g4,g7,ha⟩:=f.cC dp;revert h;refine bS fun dq ds h=>?_;obtain ⟨hc,hf,hg,hh⟩:=f.cC ds;revert h;refine bS fun hi dt h=>?_;apply ag _;refine ⟨_,dW hJ fun F hF=>gx dk dq dt,eB ?_⟩;apply ag _;revert h;refine aV hJ (fun du h=>?_) fun du h=>?_
    .cases h;refine aK hJ (aU hJ ?_);refine aC hJ fun hj=>?_;apply aM hJ _;refine ⟨O,Nat.lt_succ_self _,_,Le.sub (List.Sublist.refl _),(IntKind.i64.wrap (j+1)),p,rfl,?_⟩;simp only[*,go_sem]
    cases h;apply bJ;simp only[go_sem];obtain rfl:=sI p;clear p;have h:=a4;dsimp only[az] at h;apply ag _;refine Qn.intro ⟨_,Le.sub (List.Sublist.refl _),j,h,rfl,?_⟩;simp only[*,go_sem]
   cases h;apply ag _;refine cE hJ ?_;apply bJ;simp only[go_sem];obtain rfl:=sI p;clear p;have h:=a4;dsimp only[az] at h;refine Qn.intro ⟨_,Le.sub (List.Sublist.refl _),j,h,rfl,?_⟩;simp only[*,go_sem]
  rintro hk F' ⟨e,a5,rfl,a6,a7,hl,a8,a9,ba,bb,bc⟩;obtain rfl:=sI a5;clear a5;have h:=cv;dsimp only[az] at h;clear K L M a2 a3;revert h;refine bS fun dv h dC=>?_;refine fo hJ (fun a F'=>∃(k:Int),some (Fl.bk k:Fl Int (Int×(List Int)))=some dv/\F'=⟨ro,[(b,Obj.cells d 3)]⟩/\sz a=84/\a.defers=[]/\cj (rg 29 54 [9,10]) a w/\slot a 0= .slice (some ⟨b,0,none⟩) u0.length c2/\slot a 1= .int .i64 c/\slot a 8= .int .i64 0/\slot a 9= .int .i64 e/\slot a 10= .int .i64 k) ?_ ?_
  .apply aU hJ;revert h;refine bS fun dE y bd=>?_;refine bP hJ (rg 46 16 [10]) (fun m a F'=>∃(l:Int),aQ (ow c g e) m l=some dE/\F'=⟨ro,[(b,Obj.cells d 3)]⟩/\slot a 10= .int .i64 l) fu ?_ ?_
   .refine ⟨i,y,rfl,?_⟩;simp only[*,go_sem]
   rintro Q dT F' R ⟨l,y,rfl,hn⟩;obtain ⟨ea,eb,ec⟩:=R.pick [0,1,8,9] aL;simp only[*,go_sem] at ea eb ec;have ho:cj (rg 29 54 [9,10]) dT w:=(R.eC aL).trans bx;clear R a6 a7 a8 a9 ba bb bc;obtain _|Q:=Q
   .exact absurd y (by simp only[aQ,reduceCtorEq,not_false_eq_true])
   revert y;refine bS fun hp h q=>?_;unfold ow at h;(try dsimp only at h);refine ah hJ (ah hJ ?_);refine aC hJ fun hq=>?_;refine dR hJ mixed 14 1 bx aj ?_;revert h;refine cS (fun ed h=>?_) fun ed h=>?_
   .revert h;refine bS fun eh et h=>?_;obtain ⟨hr,ht,hv,hx⟩:=f.cC et;revert h;refine bS fun ev eQ h=>?_;obtain ⟨hy,hz,hA,hB⟩:=f.cC eQ;revert h;refine bS fun hD eS h=>?_;apply ag _;refine ⟨_,dW hJ fun F hF=>gx eh ev eS,eB ?_⟩;apply ag _;revert h;refine aV hJ (fun e0 h=>?_) fun e0 h=>?_
    .cases h;refine aK hJ (aU hJ ?_);refine aC hJ fun hE=>?_;apply aM hJ _;refine ⟨Q,Nat.lt_succ_self _,_,Le.sub (List.Sublist.refl _),(IntKind.i64.wrap (l - 1)),q,rfl,?_⟩;simp only[*,go_sem]
    cases h;apply bJ;simp only[go_sem];obtain rfl:=sI q;clear q;have h:=bd;dsimp only[az] at h;apply ag _;refine Qn.intro ⟨_,Le.sub (List.Sublist.refl _),l,h,rfl,?_⟩;simp only[*,go_sem]
   cases h;apply ag _;refine cE hJ ?_;apply bJ;simp only[go_sem];obtain rfl:=sI q;clear q;have h:=bd;dsimp only[az] at h;refine Qn.intro ⟨_,Le.sub (List.Sublist.refl _),l,h,rfl,?_⟩;simp only[*,go_sem]
  rintro hG F' ⟨k,bj,rfl,hH,hI,hK,hL,hM,hN,hP,hQ⟩;obtain rfl:=sI bj;clear bj;have h:=dC;dsimp only[az] at h;clear a6 a7 a8 a9 ba bb bc;refine ah hJ (ah hJ ?_);refine aC hJ fun hR=>?_;apply aM hJ _;revert h;refine aV hJ (fun e1 h=>?_) fun e1 h=>?_
  .cases h;apply bJ;simp only[go_sem];obtain rfl:=sI N;clear N;have h:=ck;dsimp only[az] at h;apply ag _;refine Qn.intro ⟨_,Le.sub (List.Sublist.refl _),d,e,g,h,rfl,f,?_⟩;simp only[*,go_sem]
  refine aK hJ (ah hJ ?_);refine aC hJ fun hS=>?_;refine ey hJ mixed [13,14,15] (.pure 0 (.pure 1 (.pure 2 (.pure 3 (.pure 4 (.pure 5 (.pure 6 (.rd 7 (.pure 8 (.pure 9 (.pure 10 (.rd 11 (.pure 12 (.last 13 (.pure 14 (.last 15 .done)))))))))))))))) ⟨ro,[(b,Obj.cells d 3)]⟩ bx aj ?_;revert h;refine bS fun S e2 h=>?_;obtain ⟨hT,hV,hX,hY⟩:=f.cC e2;revert h;refine bS fun T e3 h=>?_;obtain ⟨fa,fb,hZ,h0⟩:=f.cC e3;have bm:=f.eK fa fb S;revert h;refine bS fun h1 fc h=>?_;cases h;obtain ⟨fg,fh,h2,h3⟩:=bm.cC fc;have bo:=bm.eK fg fh T;apply ag _;apply ah hJ;obtain ⟨br,U⟩:∃o,o=(bI (bI d (e).toNat [.int .i64 S]) (k).toNat [.int .i64 T]):=⟨_,rfl⟩
  refine cq (F:=⟨ro,[(b,Obj.cells br 3)]⟩) hJ (by rw[U];exact Le.refl _) ?_;rw[<-U] at bo;clear U;refine aC hJ fun h4=>?_;apply aM hJ _;refine aC hJ fun h5=>?_;apply aM hJ _;refine ⟨m2,Nat.lt_succ_self _,_,Le.sub (List.Sublist.refl _),br,(IntKind.i64.wrap (e+1)),(IntKind.i64.wrap (k - 1)),((g.set (e).toNat S).set (k).toNat T),N,rfl,bo,?_⟩;simp only[*,go_sem]
 rintro h6 F' ⟨E,H,I,bs,rfl,fi,h7,h8,h9,ib,ih⟩;obtain rfl:=sI bs;clear bs;have h:=cd;dsimp only[az] at h;cases h;clear Z hd ab k1 ad ae;apply ah hJ;refine aC hJ fun ik=>?_;apply aM hJ _;refine b5 ?_;exact ⟨_,fi,Le.sub (List.Sublist.refl _)⟩
def mA (b:Int)(a:(List Int))(st:Int):Option (Fl Int (Bool×(List Int))):=
 cond (decide (st<b)) (ai (bD a st) fun c=>ai (bD a (IntKind.i64.wrap (st - 1))) fun d=>ai (e7 c d) fun e=>cond (!e) (some (.nx (IntKind.i64.wrap (st+1)))) (some (.bk st))) (some (.bk st))
def mB (st:(Int×(List Int))):Option (Fl (Int×(List Int)) (Bool×(List Int))):=
 cond (decide (1<=st.1)) (ai (ai (bD st.2 st.1) fun b=>ai (bD st.2 (IntKind.i64.wrap (st.1 - 1))) fun a=>ai (e7 b a) fun c=>cond (!c) (some (.br 4 st.2)) (ai (bD (st.2.set (st.1).toNat a) (IntKind.i64.wrap (st.1 - 1))) fun f=>some (.bk ((st.2.set (st.1).toNat a).set (IntKind.i64.wrap (st.1 - 1)).toNat b))):Option (Fl (List Int) (Bool×(List Int)))) fun o=>az o (fun d=>some (.nx ((IntKind.i64.wrap (st.1 - 1)),d))) (fun _ e=>some (.bk (st.1,e))) (fun r=>some (.rt r))) (some (.bk (st.1,st.2)))
def mC (c:Int)(st:(Int×(List Int))):Option (Fl (Int×(List Int)) (Bool×(List Int))):=
 cond (decide (st.1<c)) (ai (ai (bD st.2 st.1) fun b=>ai (bD st.2 (IntKind.i64.wrap (st.1 - 1))) fun a=>ai (e7 b a) fun d=>cond (!d) (some (.br 6 st.2)) (ai (bD (st.2.set (st.1).toNat a) (IntKind.i64.wrap (st.1 - 1))) fun g=>some (.bk ((st.2.set (st.1).toNat a).set (IntKind.i64.wrap (st.1 - 1)).toNat b))):Option (Fl (List Int) (Bool×(List Int)))) fun o=>az o (fun e=>some (.nx ((IntKind.i64.wrap (st.1+1)),e))) (fun _ f=>some (.bk (st.1,f))) (fun r=>some (.rt r))) (some (.bk (st.1,st.2)))
def jo (e:Int)(b:Int)(st:(Bool×Int×Int×(List Int))):Option (Fl (Bool×Int×Int×(List Int)) (Bool×(List Int))):=
 cond (decide (st.2.2.1<5)) (ai (ai (ai (aQ (mA b st.2.2.2) fu st.2.1) fun o=>az o (fun h=>some (.bk h)) (fun _ _=>none) (fun r=>some (.rt r)):Option (Fl Int (Bool×(List Int)))) fun o=>az o (fun a=>cond ((a==b)) (some (.rt (true,st.2.2.2))) (cond (decide ((IntKind.i64.wrap (b - e))<50)) (some (.rt (false,st.2.2.2))) (ai (bD st.2.2.2 (IntKind.i64.wrap (a - 1))) fun c=>ai (bD st.2.2.2 a) fun f=>ai (bD (st.2.2.2.set (a).toNat c) (IntKind.i64.wrap (a - 1))) fun k=>ai (cond (decide (2<=(IntKind.i64.wrap (a - e)))) (ai (aQ (mB) fu ((IntKind.i64.wrap (a - 1)),((st.2.2.2.set (a).toNat c).set (IntKind.i64.wrap (a - 1)).toNat f))) fun o=>az o (fun i=>some (.bk i.2)) (fun _ _=>none) (fun r=>some (.rt r))) (some (.bk ((st.2.2.2.set (a).toNat c).set (IntKind.i64.wrap (a - 1)).toNat f))):Option (Fl (List Int) (Bool×(List Int)))) fun o=>az o (fun g=>cond (decide (2<=(IntKind.i64.wrap (b - a)))) (ai (aQ (mC b) fu ((IntKind.i64.wrap (a+1)),g)) fun o=>az o (fun j=>some (.bk (st.1,a,j.2))) (fun _ _=>none) (fun r=>some (.rt r))) (some (.bk (st.1,a,g)))) (fun _ _=>none) (fun r=>some (.rt r))))) (fun _ _=>none) (fun r=>some (.rt r)):Option (Fl (Bool×Int×(List Int)) (Bool×(List Int)))) fun o=>az o (fun d=>some (.nx (d.1,d.2.1,(IntKind.i64.wrap (st.2.2.1+1)),d.2.2))) (fun _ _=>none) (fun r=>some (.rt r))) (some (.bk (st.1,st.2.1,st.2.2.1,st.2.2.2)))
def oA (u0:(List Int))(a:Int)(c:Int):Option (Bool×(List Int)):=
 cond (List.isEmpty u0) none (ai (ai (aQ (jo a c) fu (false,(IntKind.i64.wrap (a+1)),0,u0)) fun o=>az o (fun b=>some (.bk (b.1,b.2.2.2))) (fun _ _=>none) (fun r=>some (.rt r)):Option (Fl (Bool×(List Int)) (Bool×(List Int)))) fun o=>az o (fun d=>some (false,d.2)) (fun _ _=>none) (fun r=>some r))
theorem GX {ro:Addr->Option Value}(u0:(List Int)){bT:Value}{b0:List (Nat×Obj)}(ar:aW rI ro 3 bT u0 b0)(f:Int)(e:Int){r:(Bool×(List Int))}(h:oA u0 f e=some r):aE Tryz.prog 206 #[bT,.int .i64 f,.int .i64 e] ⟨ro,b0⟩ (fun v G=>∃b1,(v= .bool r.1/\aW rI ro 3 bT r.2 b1)/\Le ⟨ro,b1⟩ G):=by
 obtain ⟨d1,c2,rfl,h1⟩:=ar.len;unfold oA at h;revert h;refine cS (fun b2 h=>?_) fun b2 h=>?_
 .cases h
 obtain ⟨b,e0,rfl,rfl,h2⟩:=ar.fN b2;refine aE.go Tryz.func206 rfl Tryz.ntmps206 Tryz.results206 an fun main J hJ A b3 hd hs=>?_;have b4:=hs 0;have k1:=hs 1;have ca:=hs 2;clear hs;apply ah hJ;refine aC hJ fun h3=>?_;apply aM hJ _;apply ah hJ;refine aC hJ fun h4=>?_;apply aM hJ _;revert h;refine bS fun e1 h a0=>?_;refine fo hJ (fun a F'=>∃(a2:Array Value) (a3:Bool) (a4:(List Int)),some (Fl.bk (a3,a4):Fl (Bool×(List Int)) (Bool×(List Int)))=some e1/\F'=⟨ro,[(b,Obj.cells a2 3)]⟩/\aW rI ro 3 (.slice (some ⟨b,0,none⟩) u0.length c2) a4 [(b,Obj.cells a2 3)]/\sz a=133/\a.defers=[]/\slot a 0= .slice (some ⟨b,0,none⟩) u0.length c2/\slot a 6= .bool a3) ?_ ?_
 .apply ah hJ;refine aC hJ fun h5=>?_;apply aM hJ _;apply aU hJ;revert h;refine bS fun e2 I a5=>?_;refine bP hJ (rg 13 120 [6,7,8,9,10]) (fun m a F'=>∃(k:Array Value) (d:Bool) (K:Int) (g:Int) (p:(List Int)),aQ (jo f e) m (d,K,g,p)=some e2/\F'=⟨ro,[(b,Obj.cells k 3)]⟩/\aW rI ro 3 (.slice (some ⟨b,0,none⟩) u0.length c2) p [(b,Obj.cells k 3)]/\slot a 6= .bool d/\slot a 7= .int .i64 K/\slot a 8= .int .i64 g) fu ?_ ?_
  .refine ⟨e0,false,(IntKind.i64.wrap (f+1)),0,u0,I,rfl,ar,?_⟩;simp only[*,go_sem]
  rintro m2 l F' cb ⟨k,d,K,g,p,I,rfl,n,a6,a7,a8⟩;obtain ⟨L,M,N⟩:=cb.pick [0,1,2] aL;simp only[*,go_sem] at L M N;clear cb b3 hd b4 k1 ca;obtain _|m2:=m2
  .exact absurd I (by simp only[aQ,reduceCtorEq,not_false_eq_true])
  revert I;refine bS fun h6 h q=>?_;unfold jo at h;try dsimp only at h
  refine ah hJ (ah hJ ?_);refine aC hJ fun h7=>?_;apply aM hJ _;revert h;refine aV hJ (fun e3 h=>?_) fun e3 h=>?_
  .apply aK hJ;revert h;refine bS fun fa h a9=>?_;refine fo hJ (fun a F'=>∃(O:Array Value) (P:Bool) (Q:Int) (R:(List Int)),some (Fl.bk (P,Q,R):Fl (Bool×Int×(List Int)) (Bool×(List Int)))=some fa/\F'=⟨ro,[(b,Obj.cells O 3)]⟩/\aW rI ro 3 (.slice (some ⟨b,0,none⟩) u0.length c2) R [(b,Obj.cells O 3)]/\sz a=133/\a.defers=[]/\cj (rg 13 120 [6,7,8,9,10]) a l/\slot a 0= .slice (some ⟨b,0,none⟩) u0.length c2/\slot a 1= .int .i64 f/\slot a 2= .int .i64 e/\slot a 6= .bool P/\slot a 7= .int .i64 Q/\slot a 8= .int .i64 g) ?_ ?_
   .apply aU hJ;revert h;refine bS fun fb h fc=>?_;refine fo hJ (fun a F'=>∃(c:Int),some (Fl.bk c:Fl Int (Bool×(List Int)))=some fb/\F'=⟨ro,[(b,Obj.cells k 3)]⟩/\sz a=133/\a.defers=[]/\cj (rg 13 120 [6,7,8,9,10]) a l/\slot a 0= .slice (some ⟨b,0,none⟩) u0.length c2/\slot a 1= .int .i64 f/\slot a 2= .int .i64 e/\slot a 6= .bool d/\slot a 7= .int .i64 c/\slot a 8= .int .i64 g) ?_ ?_
    .apply aU hJ;revert h;refine bS fun fg S cc=>?_;refine bP hJ (rg 17 18 [7]) (fun m a F'=>∃(u:Int),aQ (mA e p) m u=some fg/\F'=⟨ro,[(b,Obj.cells k 3)]⟩/\slot a 7= .int .i64 u) fu ?_ ?_
     .refine ⟨K,S,rfl,?_⟩;simp only[*,go_sem]
     rintro ba fh F' bb ⟨u,S,rfl,h8⟩;obtain ⟨fi,fj,fl⟩:=bb.pick [0,1,2,6,8,13,14] aL;simp only[*,go_sem] at fi fj fl;have h9:cj (rg 13 120 [6,7,8,9,10]) fh l:=(bb.eC aL).trans bx;clear bb L M N a6 a7 a8;obtain _|ba:=ba
     .exact absurd S (by simp only[aQ,reduceCtorEq,not_false_eq_true])
     revert S;refine bS fun ib h y=>?_;unfold mA at h;(try dsimp only at h);refine ah hJ (ah hJ ?_);refine aC hJ fun ih=>?_;refine dR hJ mixed 16 1 bx aj ?_;revert h;refine cS (fun fp h=>?_) fun fp h=>?_
     .revert h;refine bS fun fr fs h=>?_;obtain ⟨ik,il,im,iv⟩:=n.cC fs;revert h;refine bS fun ft fv h=>?_;obtain ⟨ix,jC,j1,j2⟩:=n.cC fv;revert h;refine bS fun kh fw h=>?_;(try apply ag _);refine ⟨_,dW hJ fun F hF=>gx fr ft fw,eB ?_⟩;(try apply ag _);revert h;refine aV hJ (fun fx h=>?_) fun fx h=>?_
      .cases h;refine aK hJ (aU hJ ?_);refine aC hJ fun kj=>?_;apply aM hJ _;(try apply ag _);refine ⟨ba,Nat.lt_succ_self _,_,Le.sub (List.Sublist.refl _),(IntKind.i64.wrap (u+1)),y,rfl,?_⟩;simp only[*,go_sem]
      cases h;apply bJ;simp only[go_sem];obtain rfl:=sI y;clear y;have h:=cc;dsimp only[az] at h;(try apply ag _);refine Qn.intro ⟨_,Le.sub (List.Sublist.refl _),u,h,rfl,?_⟩;simp only[*,go_sem]
     cases h;(try apply ag _);refine cE hJ ?_;apply bJ;simp only[go_sem];obtain rfl:=sI y;clear y;have h:=cc;dsimp only[az] at h;(try apply ag _);refine Qn.intro ⟨_,Le.sub (List.Sublist.refl _),u,h,rfl,?_⟩;simp only[*,go_sem]
    rintro kk F' ⟨c,cd,rfl,cf,ck,kl,cl,cv,cy,c0,da,db⟩;obtain rfl:=sI cd;clear cd;have h:=fc;dsimp only[az] at h;clear L M N a6 a7 a8;refine ah hJ (ah hJ ?_);refine aC hJ fun km=>?_;apply aM hJ _;revert h;refine aV hJ (fun fz h=>?_) fun fz h=>?_
    .cases h;apply ah hJ;refine aC hJ fun kn=>?_;apply aM hJ _;have h:=a9;dsimp only[az] at h;cases h;obtain rfl:=sI q;clear q;have h:=a5;dsimp only[az] at h;cases h;have h:=a0;dsimp only[az] at h;cases h;refine b5 ?_;exact ⟨_,n,Le.sub (List.Sublist.refl _)⟩
    refine aK hJ (ah hJ ?_);apply ah hJ;refine aC hJ fun kp=>?_;apply aM hJ _;revert h;refine aV hJ (fun gg h=>?_) fun gg h=>?_
    .cases h;apply ah hJ;refine aC hJ fun kq=>?_;apply aM hJ _;have h:=a9;dsimp only[az] at h;cases h;obtain rfl:=sI q;clear q;have h:=a5;dsimp only[az] at h;cases h;have h:=a0;dsimp only[az] at h;cases h;refine b5 ?_;exact ⟨_,n,Le.sub (List.Sublist.refl _)⟩
    refine aK hJ (ah hJ ?_);refine aC hJ fun ks=>?_;refine ey hJ mixed [15,16,17] (.pure 0 (.pure 1 (.pure 2 (.pure 3 (.pure 4 (.pure 5 (.pure 6 (.pure 7 (.pure 8 (.rd 9 (.pure 10 (.pure 11 (.pure 12 (.rd 13 (.pure 14 (.last 15 (.pure 16 (.last 17 .done)))))))))))))))))) ⟨ro,[(b,Obj.cells k 3)]⟩ bx aj ?_;revert h;refine bS fun T gj h=>?_;obtain ⟨kt,kv,kx,ky⟩:=n.cC gj;revert h;refine bS fun U gl h=>?_;obtain ⟨gn,gp,k0,k2⟩:=n.cC gl;have dd:=n.eK gn gp T;revert h;refine bS fun lb gy h=>?_;obtain ⟨g0,g1,lh,lj⟩:=dd.cC gy;have bc:=dd.eK g0 g1 U;(try apply ag _);revert h;refine bS fun g2 h g3=>?_;refine fo hJ (fun a F'=>∃(z:Array Value) (B:(List Int)),some (Fl.bk B:Fl (List Int) (Bool×(List Int)))=some g2/\F'=⟨ro,[(b,Obj.cells z 3)]⟩/\aW rI ro 3 (.slice (some ⟨b,0,none⟩) u0.length c2) B [(b,Obj.cells z 3)]/\sz a=133/\a.defers=[]/\cj (rg 13 120 [6,7,8,9,10]) a l/\slot a 0= .slice (some ⟨b,0,none⟩) u0.length c2/\slot a 1= .int .i64 f/\slot a 2= .int .i64 e/\slot a 6= .bool d/\slot a 7= .int .i64 c/\slot a 8= .int .i64 g) ?_ ?_
    .apply ah hJ;obtain ⟨bd,bj⟩:∃o,o=(bI (bI k (c).toNat [.int .i64 T]) (IntKind.i64.wrap (c - 1)).toNat [.int .i64 U]):=⟨_,rfl⟩
     refine cq (F:=⟨ro,[(b,Obj.cells bd 3)]⟩) hJ (by rw[bj];exact Le.refl _) ?_;rw[<-bj] at bc;clear bj;refine aC hJ fun lk=>?_;apply aM hJ _;revert h;refine aV hJ (fun g4 h=>?_) fun g4 h=>?_
     .apply ah hJ;refine aC hJ fun ll=>?_;apply aM hJ _;apply aU hJ;revert h;refine bS fun g7 V df=>?_;refine bP hJ (rg 64 31 [9]) (fun m a F'=>∃(s:Array Value) (i:Int) (w:(List Int)),aQ (mB) m (i,w)=some g7/\F'=⟨ro,[(b,Obj.cells s 3)]⟩/\aW rI ro 3 (.slice (some ⟨b,0,none⟩) u0.length c2) w [(b,Obj.cells s 3)]/\slot a 9= .int .i64 i) fu ?_ ?_
      .refine ⟨bd,(IntKind.i64.wrap (c - 1)),((p.set (c).toNat T).set (IntKind.i64.wrap (c - 1)).toNat U),V,rfl,bc,?_⟩;simp only[*,go_sem]
      rintro bm dk F' bo ⟨s,i,w,V,rfl,C,ha⟩;obtain ⟨dp,dq,ds⟩:=bo.pick [0,1,2,6,7,8,35,36,37,38,39,40,41,42,43,44,45,46,47,48,49,51,52,53,55,58,59,60,61,62,63] aL;simp only[*,go_sem] at dp dq ds;have ln:cj (rg 13 120 [6,7,8,9,10]) dk l:=(bo.eC aL).trans bx;clear bo cf ck cl cv cy c0 da db;obtain _|bm:=bm
      .exact absurd V (by simp only[aQ,reduceCtorEq,not_false_eq_true])
      revert V;refine bS fun lr h D=>?_;unfold mB at h;(try dsimp only at h);refine ah hJ (ah hJ ?_);refine aC hJ fun lv=>?_;apply aM hJ _;revert h;refine aV hJ (fun hc h=>?_) fun hc h=>?_
      .apply aK hJ;revert h;refine bS fun hf h dt=>?_;refine fo hJ (fun a F'=>∃(W:Array Value) (X:(List Int)),some (Fl.bk X:Fl (List Int) (Bool×(List Int)))=some hf/\F'=⟨ro,[(b,Obj.cells W 3)]⟩/\aW rI ro 3 (.slice (some ⟨b,0,none⟩) u0.length c2) X [(b,Obj.cells W 3)]/\sz a=133/\a.defers=[]/\cj (rg 13 120 [6,7,8,9,10]) a l/\cj (rg 64 31 [9]) a dk/\slot a 0= .slice (some ⟨b,0,none⟩) u0.length c2/\slot a 1= .int .i64 f/\slot a 2= .int .i64 e/\slot a 6= .bool d/\slot a 7= .int .i64 c/\slot a 8= .int .i64 g/\slot a 9= .int .i64 i) ?_ ?_
       .refine aU hJ (ah hJ ?_);apply ah hJ;refine aC hJ fun lx=>?_;refine dR hJ mixed 11 1 bx aj ?_;revert h;refine bS fun Y hg h=>?_;obtain ⟨hh,hi,ly,lL⟩:=C.cC hg;revert h;refine bS fun Z hj h=>?_;obtain ⟨l1,l2,l3,l4⟩:=C.cC hj;revert h;refine bS fun ma hk h=>?_;(try apply ag _);refine ⟨_,dW hJ fun F hF=>gx Y Z hk,eB ?_⟩;(try apply ag _);revert h;refine aV hJ (fun hl h=>?_) fun hl h=>?_
        .cases h;apply bJ;simp only[go_sem];have h:=dt;dsimp only[az] at h;cases h;obtain rfl:=sI D;clear D;have h:=df;dsimp only[az] at h;(try apply ag _);refine Qn.intro ⟨_,Le.sub (List.Sublist.refl _),s,w,h,rfl,C,?_⟩;simp only[*,go_sem]
        apply aK hJ;refine aC hJ fun mf=>?_;refine ey hJ mixed [15,16,17] (.pure 0 (.pure 1 (.pure 2 (.pure 3 (.pure 4 (.pure 5 (.pure 6 (.pure 7 (.pure 8 (.rd 9 (.pure 10 (.pure 11 (.pure 12 (.rd 13 (.pure 14 (.last 15 (.pure 16 (.last 17 .done)))))))))))))))))) ⟨ro,[(b,Obj.cells s 3)]⟩ bx aj ?_;have du:=C.eK hh hi Z;revert h;refine bS fun mi hn h=>?_;obtain ⟨ho,hp,ml,mn⟩:=du.cC hn;have hq:=du.eK ho hp Y;(try apply ag _);(try apply ag _);refine Qn.intro ⟨_,Le.sub (List.Sublist.refl _),(bI (bI s (i).toNat [.int .i64 Z]) (IntKind.i64.wrap (i - 1)).toNat [.int .i64 Y]),((w.set (i).toNat Z).set (IntKind.i64.wrap (i - 1)).toNat Y),h,rfl,hq,?_⟩;simp only[*,go_sem]
       rintro mr F' ⟨W,X,dv,rfl,hr,mx,my,m1,na,nb,nc,nd,nf,nh,nm,nn⟩;obtain rfl:=sI dv;clear dv;have h:=dt;dsimp only[az] at h;cases h;clear dp dq ds ha;refine aC hJ fun np=>?_;apply aM hJ _;(try apply ag _);refine ⟨bm,Nat.lt_succ_self _,_,Le.sub (List.Sublist.refl _),W,(IntKind.i64.wrap (i - 1)),X,D,rfl,hr,?_⟩;simp only[*,go_sem]
      cases h;apply bJ;simp only[go_sem];obtain rfl:=sI D;clear D;have h:=df;dsimp only[az] at h;(try apply ag _);refine Qn.intro ⟨_,Le.sub (List.Sublist.refl _),s,w,h,rfl,C,?_⟩;simp only[*,go_sem]
     apply aK hJ;(try apply ag _);refine Qn.intro ⟨_,Le.sub (List.Sublist.refl _),bd,((p.set (c).toNat T).set (IntKind.i64.wrap (c - 1)).toNat U),h,rfl,bc,?_⟩;simp only[*,go_sem]
    rintro ns F' ⟨z,B,dC,rfl,dE,ht,hv,nx,hx,hy,hz,hA,hB,hD⟩;obtain rfl:=sI dC;clear dC;have h:=g3;dsimp only[az] at h;clear cf ck cl cv cy c0 da db;apply ah hJ;refine aC hJ fun nz=>?_;apply aM hJ _;revert h;refine aV hJ (fun hE h=>?_) fun hE h=>?_
    .apply ah hJ;refine aC hJ fun nA=>?_;apply aM hJ _;apply aU hJ;revert h;refine bS fun hG ab dT=>?_;refine bP hJ (rg 101 32 [10]) (fun m a F'=>∃(t:Array Value) (j:Int) (x:(List Int)),aQ (mC e) m (j,x)=some hG/\F'=⟨ro,[(b,Obj.cells t 3)]⟩/\aW rI ro 3 (.slice (some ⟨b,0,none⟩) u0.length c2) x [(b,Obj.cells t 3)]/\slot a 10= .int .i64 j) fu ?_ ?_
     .refine ⟨z,(IntKind.i64.wrap (c+1)),B,ab,rfl,dE,?_⟩;simp only[*,go_sem]
     rintro br ea F' bs ⟨t,j,x,ab,rfl,E,hH⟩;obtain ⟨eb,ec,ed⟩:=bs.pick [0,1,2,6,7,8,95,96,97,98,99,100] aL;simp only[*,go_sem] at eb ec ed;have nH:cj (rg 13 120 [6,7,8,9,10]) ea l:=(bs.eC aL).trans bx;clear bs ht hv hx hy hz hA hB hD;obtain _|br:=br
     .exact absurd ab (by simp only[aQ,reduceCtorEq,not_false_eq_true])
     revert ab;refine bS fun nI h H=>?_;unfold mC at h;(try dsimp only at h);refine ah hJ (ah hJ ?_);refine aC hJ fun nK=>?_;apply aM hJ _;revert h;refine aV hJ (fun hI h=>?_) fun hI h=>?_
     .apply aK hJ;revert h;refine bS fun hK h eh=>?_;refine fo hJ (fun a F'=>∃(ad:Array Value) (ae:(List Int)),some (Fl.bk ae:Fl (List Int) (Bool×(List Int)))=some hK/\F'=⟨ro,[(b,Obj.cells ad 3)]⟩/\aW rI ro 3 (.slice (some ⟨b,0,none⟩) u0.length c2) ae [(b,Obj.cells ad 3)]/\sz a=133/\a.defers=[]/\cj (rg 13 120 [6,7,8,9,10]) a l/\cj (rg 101 32 [10]) a ea/\slot a 0= .slice (some ⟨b,0,none⟩) u0.length c2/\slot a 1= .int .i64 f/\slot a 2= .int .i64 e/\slot a 6= .bool d/\slot a 7= .int .i64 c/\slot a 8= .int .i64 g/\slot a 10= .int .i64 j) ?_ ?_
      .refine aU hJ (ah hJ ?_);apply ah hJ;refine aC hJ fun nQ=>?_;refine dR hJ mixed 11 1 bx aj ?_;revert h;refine bS fun al hL h=>?_;obtain ⟨hM,hN,nR,nT⟩:=E.cC hL;revert h;refine bS fun ao hP h=>?_;obtain ⟨nV,nX,nY,n0⟩:=E.cC hP;revert h;refine bS fun n1 hQ h=>?_;(try apply ag _);refine ⟨_,dW hJ fun F hF=>gx al ao hQ,eB ?_⟩;(try apply ag _);revert h;refine aV hJ (fun hR h=>?_) fun hR h=>?_
       .cases h;apply bJ;simp only[go_sem];have h:=eh;dsimp only[az] at h;cases h;obtain rfl:=sI H;clear H;have h:=dT;dsimp only[az] at h;(try apply ag _);refine Qn.intro ⟨_,Le.sub (List.Sublist.refl _),t,d,c,x,h,rfl,E,?_⟩;simp only[*,go_sem]
       apply aK hJ;refine aC hJ fun n2=>?_;refine ey hJ mixed [15,16,17] (.pure 0 (.pure 1 (.pure 2 (.pure 3 (.pure 4 (.pure 5 (.pure 6 (.pure 7 (.pure 8 (.rd 9 (.pure 10 (.pure 11 (.pure 12 (.rd 13 (.pure 14 (.last 15 (.pure 16 (.last 17 .done)))))))))))))))))) ⟨ro,[(b,Obj.cells t 3)]⟩ bx aj ?_;have et:=E.eK hM hN ao;revert h;refine bS fun n3 hS h=>?_;obtain ⟨hT,hV,oc,oi⟩:=et.cC hS;have hX:=et.eK hT hV al;(try apply ag _);(try apply ag _);refine Qn.intro ⟨_,Le.sub (List.Sublist.refl _),(bI (bI t (j).toNat [.int .i64 ao]) (IntKind.i64.wrap (j - 1)).toNat [.int .i64 al]),((x.set (j).toNat ao).set (IntKind.i64.wrap (j - 1)).toNat al),h,rfl,hX,?_⟩;simp only[*,go_sem]
      rintro oj F' ⟨ad,ae,ev,rfl,hY,ox,oy,o0,o1,o2,pa,pb,pd,pf,pj,pk⟩;obtain rfl:=sI ev;clear ev;have h:=eh;dsimp only[az] at h;cases h;clear eb ec ed hH;refine aC hJ fun po=>?_;apply aM hJ _;(try apply ag _);refine ⟨br,Nat.lt_succ_self _,_,Le.sub (List.Sublist.refl _),ad,(IntKind.i64.wrap (j+1)),ae,H,rfl,hY,?_⟩;simp only[*,go_sem]
     cases h;apply bJ;simp only[go_sem];obtain rfl:=sI H;clear H;have h:=dT;dsimp only[az] at h;(try apply ag _);refine Qn.intro ⟨_,Le.sub (List.Sublist.refl _),t,d,c,x,h,rfl,E,?_⟩;simp only[*,go_sem]
    apply aK hJ;(try apply ag _);refine Qn.intro ⟨_,Le.sub (List.Sublist.refl _),z,d,c,B,h,rfl,dE,?_⟩;simp only[*,go_sem]
   rintro pr F' ⟨O,P,Q,R,eQ,rfl,hZ,ps,pt,pv,pw,px,py,pA,pB,pC⟩;obtain rfl:=sI eQ;clear eQ;have h:=a9;dsimp only[az] at h;cases h;clear L M N a6 a7 a8;refine aC hJ fun pD=>?_;apply aM hJ _;(try apply ag _);refine ⟨m2,Nat.lt_succ_self _,_,Le.sub (List.Sublist.refl _),O,P,Q,(IntKind.i64.wrap (g+1)),R,q,rfl,hZ,?_⟩;simp only[*,go_sem]
  cases h;apply bJ;simp only[go_sem];obtain rfl:=sI q;clear q;have h:=a5;dsimp only[az] at h;try apply ag _
  refine Qn.intro ⟨_,Le.sub (List.Sublist.refl _),k,d,p,h,rfl,n,?_⟩;simp only[*,go_sem]
 rintro pT F' ⟨a2,a3,a4,eS,rfl,h0,p0,p1,qe,qk⟩;obtain rfl:=sI eS;clear eS;have h:=a0;dsimp only[az] at h;cases h;clear b3 hd b4 k1 ca;apply ah hJ;refine aC hJ fun q0=>?_;apply aM hJ _;refine b5 ?_;exact ⟨_,h0,Le.sub (List.Sublist.refl _)⟩
def iB (q:List Int->Int->Int->Int->Option (Unit×List Int))(st:(Int×Int×Int×Bool×Bool×(List Int))):Option (Fl (Int×Int×Int×Bool×Bool×(List Int)) (Unit×(List Int))):=
 cond (decide ((IntKind.i64.wrap (st.2.1 - st.1))<=12)) (ai (qE st.2.2.2.2.2 st.1 st.2.1) fun k=>some (.rt ((),k.2))) (cond ((st.2.2.1==0)) (ai (qG st.2.2.2.2.2 st.1 st.2.1) fun l=>some (.rt ((),l.2))) (ai (cond (!st.2.2.2.1) (ai (ou st.2.2.2.2.2 st.1 st.2.1) fun m=>some (.bk ((IntKind.i64.wrap (st.2.2.1 - 1)),m.2))) (some (.bk (st.2.2.1,st.2.2.2.2.2))):Option (Fl (Int×(List Int)) (Unit×(List Int)))) fun o=>az o (fun c=>ai (qH c.2 st.1 st.2.1) fun d=>ai (cond ((d.1.2==2)) (ai (ot d.2 st.1 st.2.1) fun n=>some (.bk ((IntKind.i64.wrap ((IntKind.i64.wrap (st.2.1 - 1)) - (IntKind.i64.wrap (d.1.1 - st.1)))),1,n.2))) (some (.bk (d.1.1,d.1.2,d.2))):Option (Fl (Int×Int×(List Int)) (Unit×(List Int)))) fun o=>az o (fun b=>ai (cond (st.2.2.2.1) (cond (st.2.2.2.2.1) (cond ((b.2.1==1)) (ai (oA b.2.2 st.1 st.2.1) fun g=>cond (g.1) (some (.rt ((),g.2))) (some (.bk g.2))) (some (.bk b.2.2))) (some (.bk b.2.2))) (some (.bk b.2.2)):Option (Fl (List Int) (Unit×(List Int)))) fun o=>az o (fun f=>ai (cond (decide (0<st.1)) (ai (bD f (IntKind.i64.wrap (st.1 - 1))) fun p=>ai (bD f b.1) fun s=>ai (e7 p s) fun t=>cond (!t) (ai (oz f st.1 st.2.1 b.1) fun h=>some (.br 1 (h.1,h.2))) (some (.bk (st.1,f)))) (some (.bk (st.1,f))):Option (Fl (Int×(List Int)) (Unit×(List Int)))) fun o=>az o (fun e=>ai (qM e.2 e.1 st.2.1 b.1) fun a=>ai (gR (IntKind.i64.wrap (st.2.1 - st.1)) 8) fun i=>cond (decide ((IntKind.i64.wrap (a.1.1 - e.1))<(IntKind.i64.wrap (st.2.1 - a.1.1)))) (ai (q a.2 e.1 a.1.1 c.1) fun u=>some (.nx ((IntKind.i64.wrap (a.1.1+1)),st.2.1,c.1,(decide (i<=(IntKind.i64.wrap (a.1.1 - e.1)))),a.1.2,u.2))) (ai (q a.2 (IntKind.i64.wrap (a.1.1+1)) st.2.1 c.1) fun v=>some (.nx (e.1,a.1.1,c.1,(decide (i<=(IntKind.i64.wrap (st.2.1 - a.1.1)))),a.1.2,v.2)))) (fun _ j=>some (.nx (j.1,st.2.1,c.1,st.2.2.2.1,st.2.2.2.2.1,j.2))) (fun r=>some (.rt r))) (fun _ _=>none) (fun r=>some (.rt r))) (fun _ _=>none) (fun r=>some (.rt r))) (fun _ _=>none) (fun r=>some (.rt r))))
def qN (q:List Int->Int->Int->Int->Option (Unit×List Int))(u0:(List Int))(a:Int)(b:Int)(c:Int):Option (Unit×(List Int)):=
 cond (List.isEmpty u0) none (ai (aQ (iB q) fu (a,b,c,true,true,u0)) fun o=>az o (fun d=>some ((),d.2.2.2.2.2)) (fun _ _=>none) (fun r=>some r))
theorem GY (q:List Int->Int->Int->Int->Option (Unit×List Int))(Z:∀{ro:Addr->Option Value} (u0:(List Int)) {bT:Value} {B:List (Nat×Obj)} (K:aW rI ro 3 bT u0 B) (u:Int) (w:Int) (x:Int) {r:(Unit×(List Int))} (h:q u0 u w x=some r),aE Tryz.prog 167 #[bT,.int .i64 u,.int .i64 w,.int .i64 x] ⟨ro,B⟩ (fun v G=>∃c,(v= .tuple #[]/\aW rI ro 3 bT r.2 c)/\Le ⟨ro,c⟩ G)){ro:Addr->Option Value}(u0:(List Int)){bT:Value}{B:List (Nat×Obj)}(K:aW rI ro 3 bT u0 B)(u:Int)(w:Int)(x:Int){r:(Unit×(List Int))}(h:qN q u0 u w x=some r):aE Tryz.prog 167 #[bT,.int .i64 u,.int .i64 w,.int .i64 x] ⟨ro,B⟩ (fun v G=>∃c,(v= .tuple #[]/\aW rI ro 3 bT r.2 c)/\Le ⟨ro,c⟩ G):=by
 obtain ⟨d1,c2,rfl,hy⟩:=K.len;unfold qN at h;revert h;refine cS (fun ab h=>?_) fun ab h=>?_
 .cases h
 obtain ⟨b,b4,rfl,rfl,hz⟩:=K.fN ab;refine aE.go Tryz.func167 rfl Tryz.ntmps167 Tryz.results167 an fun main J hJ A ca hd hs=>?_;have cb:=hs 0;have k1:=hs 1;have cc:=hs 2;have cd:=hs 3;clear hs;apply ah hJ;refine aC hJ fun hA=>?_;apply aM hJ _;apply ah hJ;refine aC hJ fun hB=>?_;apply aM hJ _;apply aU hJ;revert h;refine bS fun cf L S=>?_;refine bP hJ (rg 8 126 [1,2,3]) (fun m a F'=>∃(M:Array Value) (e:Int) (d:Int) (C:Int) (l:Bool) (n:Bool) (o:(List Int)),aQ (iB q) m (e,d,C,l,n,o)=some cf/\F'=⟨ro,[(b,Obj.cells M 3)]⟩/\aW rI ro 3 (.slice (some ⟨b,0,none⟩) u0.length c2) o [(b,Obj.cells M 3)]/\slot a 1= .int .i64 e/\slot a 2= .int .i64 d/\slot a 3= .int .i64 C/\slot a 8= .bool l/\slot a 9= .bool n) fu ?_ ?_
 .refine ⟨b4,u,w,x,true,true,u0,L,rfl,K,?_⟩;simp only[*,go_sem]
 rintro D N F' ad ⟨M,e,d,C,l,n,o,L,rfl,O,ck,cl,cv,cy,c0⟩;obtain ⟨ae,al,ao⟩:=ad.pick [0] aL;simp only[*,go_sem] at ae al ao;clear ad ca hd cb k1 cc cd;obtain _|D:=D
 .exact absurd L (by simp only[aQ,reduceCtorEq,not_false_eq_true])
 revert L;refine bS fun hD h k=>?_;unfold iB at h;try dsimp only at h
 refine aU hJ (ah hJ ?_);refine aC hJ fun hE=>?_;apply aM hJ _;refine ah hJ (ah hJ ?_);refine aC hJ fun hG=>?_;apply aM hJ _;revert h;refine aV hJ (fun da h=>?_) fun da h=>?_
 .apply ah hJ;refine aC hJ fun hH=>?_;apply aG hJ;revert h;refine bS fun hI db h=>?_;cases h;apply ag _;refine en hJ [] [] _ (GH o O e d db) (fun hK hL f c g hM=>?_);obtain ⟨rfl,ar⟩:=f;obtain ⟨dd,rfl⟩:=ar.eI;simp only[bN] at g;subst c;refine ⟨⟨ro,[(b,Obj.cells dd 3)]⟩,Le.refl _,?_⟩;try apply ag _
  obtain rfl:=sI k;clear k;have h:=S;dsimp only[az] at h;cases h;refine b5 ?_;exact ⟨_,ar,Le.sub (List.Sublist.refl _)⟩
 refine aK hJ (ah hJ ?_);apply ah hJ;refine aC hJ fun hN=>?_;apply aM hJ _;revert h;refine aV hJ (fun df h=>?_) fun df h=>?_
 .apply ah hJ;refine aC hJ fun hP=>?_;apply aG hJ;revert h;refine bS fun hQ dk h=>?_;cases h;apply ag _;refine en hJ [] [] _ (GL o O e d dk) (fun hR hS f c g hT=>?_);obtain ⟨rfl,a0⟩:=f;obtain ⟨dp,rfl⟩:=a0.eI;simp only[bN] at g;subst c;refine ⟨⟨ro,[(b,Obj.cells dp 3)]⟩,Le.refl _,?_⟩;try apply ag _
  obtain rfl:=sI k;clear k;have h:=S;dsimp only[az] at h;cases h;refine b5 ?_;exact ⟨_,a0,Le.sub (List.Sublist.refl _)⟩
 apply aK hJ;revert h;refine bS fun dq h ds=>?_;refine fo hJ (fun a F'=>∃(T:Array Value) (i:Int) (P:(List Int)),some (Fl.bk (i,P):Fl (Int×(List Int)) (Unit×(List Int)))=some dq/\F'=⟨ro,[(b,Obj.cells T 3)]⟩/\aW rI ro 3 (.slice (some ⟨b,0,none⟩) u0.length c2) P [(b,Obj.cells T 3)]/\sz a=134/\a.defers=[]/\cj (rg 8 126 [1,2,3]) a N/\slot a 0= .slice (some ⟨b,0,none⟩) u0.length c2/\slot a 1= .int .i64 e/\slot a 2= .int .i64 d/\slot a 3= .int .i64 i/\slot a 8= .bool l/\slot a 9= .bool n/\slot a 10= .int .i64 (IntKind.i64.wrap (d - e))) ?_ ?_
 .apply ah hJ;refine aC hJ fun hV=>?_;apply aM hJ _;revert h;refine aV hJ (fun dt h=>?_) fun dt h=>?_
  .apply ah hJ;refine aC hJ fun hX=>?_;apply aG hJ;revert h;refine bS fun du dv h=>?_;apply ag _;refine en hJ [] [] _ (GU o O e d dv) (fun hY hZ f c g h0=>?_);obtain ⟨rfl,a2⟩:=f;obtain ⟨a3,rfl⟩:=a2.eI;simp only[bN] at g;subst c;refine ⟨⟨ro,[(b,Obj.cells a3 3)]⟩,Le.refl _,?_⟩;(try apply ag _);refine aC hJ fun h1=>?_;apply aM hJ _;(try apply ag _);refine Qn.intro ⟨_,Le.sub (List.Sublist.refl _),a3,(IntKind.i64.wrap (C - 1)),du.2,h,rfl,a2,?_⟩;simp only[*,go_sem]
  apply aK hJ;try apply ag _
  refine Qn.intro ⟨_,Le.sub (List.Sublist.refl _),M,C,o,h,rfl,O,?_⟩;simp only[*,go_sem]
 rintro h2 F' ⟨T,i,P,a4,rfl,dC,dE,dT,h3,ea,eb,ec,ed,eh,et,ev⟩;obtain rfl:=sI a4;clear a4;have h:=ds;dsimp only[az] at h;clear ae al ao ck cl cv cy c0;apply ah hJ;refine aC hJ fun h4=>?_;apply aG hJ;revert h;refine bS fun E eQ h=>?_;apply ag _;refine en hJ [] [] _ (GN P dC e d eQ) (fun h5 h6 f c g h7=>?_);obtain ⟨rfl,U⟩:=f;obtain ⟨a5,rfl⟩:=U.eI;simp only[bN] at g;subst c;refine ⟨⟨ro,[(b,Obj.cells a5 3)]⟩,Le.refl _,?_⟩;apply aJ;try apply ag _
 revert h;refine bS fun eS h e0=>?_;refine fo hJ (fun a F'=>∃(y:Array Value) (p:Int) (V:Int) (s:(List Int)),some (Fl.bk (p,V,s):Fl (Int×Int×(List Int)) (Unit×(List Int)))=some eS/\F'=⟨ro,[(b,Obj.cells y 3)]⟩/\aW rI ro 3 (.slice (some ⟨b,0,none⟩) u0.length c2) s [(b,Obj.cells y 3)]/\sz a=134/\a.defers=[]/\cj (rg 8 126 [1,2,3]) a N/\slot a 0= .slice (some ⟨b,0,none⟩) u0.length c2/\slot a 1= .int .i64 e/\slot a 2= .int .i64 d/\slot a 3= .int .i64 i/\slot a 8= .bool l/\slot a 9= .bool n/\slot a 10= .int .i64 (IntKind.i64.wrap (d - e))/\slot a 11= .int .i64 p/\slot a 12= .int .i64 V) ?_ ?_
 .apply ah hJ;refine aC hJ fun h8=>?_;apply aM hJ _;revert h;refine aV hJ (fun e1 h=>?_) fun e1 h=>?_
  .apply ah hJ;refine aC hJ fun h9=>?_;apply aG hJ;revert h;refine bS fun e2 e3 h=>?_;apply ag _;refine en hJ [] [] _ (GM E.2 U e d e3) (fun ib ih f c g ik=>?_);obtain ⟨rfl,a6⟩:=f;obtain ⟨a7,rfl⟩:=a6.eI;simp only[bN] at g;subst c;refine ⟨⟨ro,[(b,Obj.cells a7 3)]⟩,Le.refl _,?_⟩;(try apply ag _);apply ah hJ;refine aC hJ fun il=>?_;apply aM hJ _;refine aC hJ fun im=>?_;apply aM hJ _;(try apply ag _);refine Qn.intro ⟨_,Le.sub (List.Sublist.refl _),a7,(IntKind.i64.wrap ((IntKind.i64.wrap (d - 1)) - (IntKind.i64.wrap (E.1.1 - e)))),1,e2.2,h,rfl,a6,?_⟩;simp only[*,go_sem]
  apply aK hJ;try apply ag _
  refine Qn.intro ⟨_,Le.sub (List.Sublist.refl _),a5,E.1.1,E.1.2,E.2,h,rfl,U,?_⟩;simp only[*,go_sem]
 rintro iv F' ⟨y,p,V,s,a8,rfl,Q,fa,fb,ix,fc,fg,fh,fi,fj,fl,fp,fr,fs⟩;obtain rfl:=sI a8;clear a8;have h:=e0;dsimp only[az] at h;clear dE dT ea eb ec ed eh et ev;revert h;refine bS fun ft h a9=>?_;refine fo hJ (fun a F'=>∃(H:Array Value) (z:(List Int)),some (Fl.bk z:Fl (List Int) (Unit×(List Int)))=some ft/\F'=⟨ro,[(b,Obj.cells H 3)]⟩/\aW rI ro 3 (.slice (some ⟨b,0,none⟩) u0.length c2) z [(b,Obj.cells H 3)]/\sz a=134/\a.defers=[]/\cj (rg 8 126 [1,2,3]) a N/\slot a 0= .slice (some ⟨b,0,none⟩) u0.length c2/\slot a 1= .int .i64 e/\slot a 2= .int .i64 d/\slot a 3= .int .i64 i/\slot a 8= .bool l/\slot a 9= .bool n/\slot a 10= .int .i64 (IntKind.i64.wrap (d - e))/\slot a 11= .int .i64 p) ?_ ?_
 .apply ah hJ;refine aC hJ fun jC=>?_;apply aG hJ;revert h;refine cS (fun fv h=>?_) fun fv h=>?_
  .revert h;refine cS (fun fw h=>?_) fun fw h=>?_
   ·(try apply ag _);revert h;refine aV hJ (fun fx h=>?_) fun fx h=>?_
    .apply ah hJ;refine aC hJ fun j1=>?_;apply aG hJ;revert h;refine bS fun fz gg h=>?_;apply ag _;refine en hJ [] [] _ (GX s Q e d gg) (fun j2 kh f c g kj=>?_);obtain ⟨rfl,W⟩:=f;obtain ⟨ba,rfl⟩:=W.eI;simp only[bN] at g;subst c;refine ⟨⟨ro,[(b,Obj.cells ba 3)]⟩,Le.refl _,?_⟩;(try apply ag _);revert h;refine aV hJ (fun gj h=>?_) fun gj h=>?_
     .cases h;have h:=a9;dsimp only[az] at h;cases h;obtain rfl:=sI k;clear k;have h:=S;dsimp only[az] at h;cases h;refine b5 ?_;exact ⟨_,W,Le.sub (List.Sublist.refl _)⟩
     apply aK hJ;(try apply ag _);refine Qn.intro ⟨_,Le.sub (List.Sublist.refl _),ba,fz.2,h,rfl,W,?_⟩;simp only[*,go_sem]
    apply aK hJ;(try apply ag _);refine Qn.intro ⟨_,Le.sub (List.Sublist.refl _),y,s,h,rfl,Q,?_⟩;simp only[*,go_sem]
   (try apply ag _);refine cE hJ ?_;apply aK hJ;(try apply ag _);refine Qn.intro ⟨_,Le.sub (List.Sublist.refl _),y,s,h,rfl,Q,?_⟩;simp only[*,go_sem]
  try apply ag _
  refine cE hJ ?_;apply aK hJ;try apply ag _
  refine Qn.intro ⟨_,Le.sub (List.Sublist.refl _),y,s,h,rfl,Q,?_⟩;simp only[*,go_sem]
 rintro kk F' ⟨H,z,bb,rfl,I,gl,gn,kl,gp,gy,g0,g1,g2,g3,g4,g7⟩;obtain rfl:=sI bb;clear bb;have h:=a9;dsimp only[az] at h;clear fa fb fc fg fh fi fj fl fp fr fs;revert h;refine bS fun ha h bc=>?_;refine fo hJ (fun a F'=>∃(X:Array Value) (t:Int) (R:(List Int)),some (Fl.bk (t,R):Fl (Int×(List Int)) (Unit×(List Int)))=some ha/\F'=⟨ro,[(b,Obj.cells X 3)]⟩/\aW rI ro 3 (.slice (some ⟨b,0,none⟩) u0.length c2) R [(b,Obj.cells X 3)]/\sz a=134/\a.defers=[]/\cj (rg 8 126 [1,2,3]) a N/\slot a 0= .slice (some ⟨b,0,none⟩) u0.length c2/\slot a 1= .int .i64 t/\slot a 2= .int .i64 d/\slot a 3= .int .i64 i/\slot a 8= .bool l/\slot a 9= .bool n/\slot a 10= .int .i64 (IntKind.i64.wrap (d - e))/\slot a 11= .int .i64 p) ?_ ?_
 .apply ah hJ;refine aC hJ fun km=>?_;refine dR hJ mixed 15 1 bx aj ?_;revert h;refine cS (fun hc h=>?_) fun hc h=>?_
  .revert h;refine bS fun hf hg h=>?_;obtain ⟨kn,kp,kq,ks⟩:=I.cC hg;revert h;refine bS fun hh hi h=>?_;obtain ⟨kt,kv,kx,ky⟩:=I.cC hi;revert h;refine bS fun k0 hj h=>?_;(try apply ag _);refine ⟨_,dW hJ fun F hF=>gx hf hh hj,eB ?_⟩;(try apply ag _);revert h;refine aV hJ (fun hk h=>?_) fun hk h=>?_
   .apply ah hJ;refine aC hJ fun k2=>?_;apply aG hJ;revert h;refine bS fun bd hl h=>?_;cases h;apply ag _;refine en hJ [] [] _ (GW z I e d p hl) (fun lb lh f c g lj=>?_);obtain ⟨rfl,bj⟩:=f;obtain ⟨bm,rfl⟩:=bj.eI;simp only[bN] at g;subst c;refine ⟨⟨ro,[(b,Obj.cells bm 3)]⟩,Le.refl _,?_⟩;apply aJ;(try apply ag _);apply ah hJ;refine aC hJ fun lk=>?_;apply aM hJ _;apply bJ;simp only[go_sem];have h:=bc;dsimp only[az] at h;cases h;(try apply ag _);refine ⟨D,Nat.lt_succ_self _,_,Le.sub (List.Sublist.refl _),bm,bd.1,d,i,l,n,bd.2,k,rfl,bj,?_⟩;simp only[*,go_sem]
   apply aK hJ;(try apply ag _);refine Qn.intro ⟨_,Le.sub (List.Sublist.refl _),H,e,z,h,rfl,I,?_⟩;simp only[*,go_sem]
  try apply ag _
  refine cE hJ ?_;apply aK hJ;try apply ag _
  refine Qn.intro ⟨_,Le.sub (List.Sublist.refl _),H,e,z,h,rfl,I,?_⟩;simp only[*,go_sem]
 rintro ll F' ⟨X,t,R,bo,rfl,hn,ln,lr,lv,lx,ly,lL,l1,l2,l3,l4,ma⟩;obtain rfl:=sI bo;clear bo;have h:=bc;dsimp only[az] at h;clear gl gn gp gy g0 g1 g2 g3 g4 g7;apply ah hJ;refine aC hJ fun mf=>?_;apply aG hJ;revert h;refine bS fun j ho h=>?_;apply ag _;refine en hJ [] [] _ (GV R hn t d p ho) (fun mi ml f c g mn=>?_);obtain ⟨rfl,Y⟩:=f;obtain ⟨hp,rfl⟩:=Y.eI;simp only[bN] at g;subst c;refine ⟨⟨ro,[(b,Obj.cells hp 3)]⟩,Le.refl _,?_⟩;apply aJ;try apply ag _
 apply ah hJ;refine aC hJ fun mr=>?_;apply aM hJ _;apply ah hJ;refine aC hJ fun mx=>?_;apply aM hJ _;apply ah hJ;refine aC hJ fun my=>?_;apply aG hJ;revert h;refine bS fun br bs h=>?_;obtain ⟨m1,m2⟩:=r6 bs;clear bs;try apply ag _
 apply ah hJ;refine aC hJ fun na=>?_;apply aM hJ _;revert h;refine aV hJ (fun hq h=>?_) fun hq h=>?_
 .apply ah hJ;refine aC hJ fun nb=>?_;apply aM hJ _;apply ah hJ;refine aC hJ fun nc=>?_;apply aG hJ;revert h;refine bS fun hr ht h=>?_;cases h;apply ag _;refine en hJ [] [] _ (Z j.2 Y t j.1.1 i ht) (fun nd nf f c g nh=>?_);obtain ⟨rfl,b0⟩:=f;obtain ⟨b1,rfl⟩:=b0.eI;simp only[bN] at g;subst c;refine ⟨⟨ro,[(b,Obj.cells b1 3)]⟩,Le.refl _,?_⟩;try apply ag _
  refine aC hJ fun nm=>?_;apply aM hJ _;try apply ag _
  refine ⟨D,Nat.lt_succ_self _,_,Le.sub (List.Sublist.refl _),b1,(IntKind.i64.wrap (j.1.1+1)),d,i,(decide (br<=(IntKind.i64.wrap (j.1.1 - t)))),j.1.2,hr.2,k,rfl,b0,?_⟩;simp only[*,go_sem]
 apply ah hJ;refine aC hJ fun nn=>?_;apply aM hJ _;apply ah hJ;refine aC hJ fun np=>?_;apply aG hJ;revert h;refine bS fun hv hx h=>?_;cases h;apply ag _;refine en hJ [] [] _ (Z j.2 Y (IntKind.i64.wrap (j.1.1+1)) d i hx) (fun ns nx f c g nz=>?_);obtain ⟨rfl,b2⟩:=f;obtain ⟨b3,rfl⟩:=b2.eI;simp only[bN] at g;subst c;refine ⟨⟨ro,[(b,Obj.cells b3 3)]⟩,Le.refl _,?_⟩;try apply ag _
 refine aC hJ fun nA=>?_;apply aM hJ _;try apply ag _
 refine ⟨D,Nat.lt_succ_self _,_,Le.sub (List.Sublist.refl _),b3,t,j.1.1,i,(decide (br<=(IntKind.i64.wrap (d - j.1.1)))),j.1.2,hv.2,k,rfl,b2,?_⟩;simp only[*,go_sem]
def mD:Nat->List Int->Int->Int->Int->Option (Unit×List Int)
 |0=>fun _ _ _ _=>none
 |n+1=>qN (mD n)
theorem AO:∀n:Nat,∀{ro:Addr->Option Value} (u0:(List Int)) {bT:Value} {a:List (Nat×Obj)} (f:aW rI ro 3 bT u0 a) (b:Int) (c:Int) (d:Int) {r:(Unit×(List Int))} (h:mD n u0 b c d=some r),aE Tryz.prog 167 #[bT,.int .i64 b,.int .i64 c,.int .i64 d] ⟨ro,a⟩ (fun v G=>∃e,(v= .tuple #[]/\aW rI ro 3 bT r.2 e)/\Le ⟨ro,e⟩ G)
 |0=>by intro _ _ _ _ _ _ _ _ h;cases h
 |n+1=>GY (mD n) (AO n)
def qO (u0:(List Int)):Option (Unit×(List Int)):=
 cond (List.isEmpty u0) none (ai (jP (IntKind.u64.wrap (u0.length:Int))) fun a=>ai (mD 64 u0 0 (u0.length:Int) a) fun b=>some ((),b.2))
theorem GZ {ro:Addr->Option Value}(u0:(List Int)){bT:Value}{c:List (Nat×Obj)}(b:aW rI ro 3 bT u0 c){r:(Unit×(List Int))}(h:qO u0=some r):aE Tryz.prog 143 #[bT] ⟨ro,c⟩ (fun v G=>∃a,(v= .tuple #[]/\aW rI ro 3 bT r.2 a)/\Le ⟨ro,a⟩ G):=by
 obtain ⟨d1,c2,rfl,n⟩:=b.len;unfold qO at h;revert h;refine cS (fun d h=>?_) fun d h=>?_
 .cases h
 obtain ⟨f,o,rfl,rfl,p⟩:=b.fN d;refine aE.go Tryz.func143 rfl Tryz.ntmps143 Tryz.results143 an fun main J hJ A q hd hs=>?_;have s:=hs 0;clear hs;apply ah hJ;refine aC hJ fun t=>?_;apply aG hJ;apply bu _;refine aC hJ fun u=>?_;apply aG hJ;revert h;refine bS fun g i h=>?_;apply bu _;refine bh hJ _ (sR (IntKind.u64.wrap (u0.length:Int)) i) (aJ ?_);revert h;refine bS fun w j h=>?_;apply bu _;refine en hJ [] [] _ (AO 64 u0 b 0 (u0.length:Int) g j) (fun x y k a l z=>?_);obtain ⟨rfl,e⟩:=k;obtain ⟨m,rfl⟩:=e.eI;simp only[bN] at l;subst a;refine ⟨⟨ro,[(f,Obj.cells m 3)]⟩,Le.refl _,?_⟩;cases h;apply ag _;exact ⟨_,e,Le.sub (List.Sublist.refl _)⟩
def iC (x:List Int)(j:Nat):Bool:=j==0||x.getD j 0 != x.getD (j - 1) 0
def fF (x:List Int):Nat->List Int
 |0=>[]
 |n+1=>fF x n++cond (iC x n) [x.getD n 0] []
theorem sS (x:List Int):∀n,n<=x.length->(∀j,j<n->iC x j=true)->fF x n=x.take n
 |0,_,_=>by simp[fF]
 |n+1,hn,h=>by
  unfold fF
  rw[sS x n aa (fun j b=>h j aa),h n aa,List.take_succ]
  congr 1
  have a:n<x.length:=aa
  simp[a]
theorem AP (x:List Int){j:Nat}(h:j<1):iC x j=true:=by
 obtain rfl:j=0:=aa;rfl
def sU (u0:List Int):Option (List Int):=cond (List.isEmpty u0) none (some (fF u0 u0.length))
theorem G0 {ro:Addr->Option Value}(u0:List Int){bT:Value}{bn:List (Nat×Obj)}(hg:aW rI ro 3 bT u0 bn){r:List Int}(h:sU u0=some r):
  aE Tryz.prog 144 #[bT] ⟨ro,bn⟩ (fun v G=>∃O,aW rI ro 3 v r O/\Le ⟨ro,O⟩ G):=by
 obtain ⟨ad,cap,rfl,le⟩:=hg.len
 unfold sU at h
 have h':=nE h;clear h;rcases h' with ⟨P,h⟩|⟨P,h⟩
 .cases h
 obtain ⟨b,D,rfl,rfl,cb⟩:=hg.fN P
 cases h
 have cc:u0.length<=1000000:=by obtain ⟨_,_,_,h,_⟩:=hg;exact h
 have cd:Tryz.prog.underlying 3=some (.int .i64):=aj
 refine aE.go Tryz.func144 rfl Tryz.ntmps144 Tryz.results144 an fun main J hJ A a3 hd hs=>?_
 have a4:=hs 0
 clear hs
 repeat refine ah hJ ?_
 refine aG hJ ?_
 apply ag _
 repeat refine ah hJ ?_
 refine aG hJ ?_
 apply ag _
 repeat refine ah hJ ?_
 by_cases cf:u0.length<2
 .refine dn hJ (by simp only[*,go_sem];simp;omega) ?_
  repeat refine ah hJ ?_
  refine aG hJ ?_
  apply ag _
  refine aO ?_
  apply ag _
  have e:fF u0 u0.length=u0:=by
   rw[sS u0 _ (Nat.le_refl _) (fun j c=>AP u0 aa),List.take_length]
  rw[e]
  exact ⟨_,hg,Le.refl _⟩
 refine dr hJ (by simp only[*,go_sem];simp;omega) ?_
 refine aK hJ ?_
 repeat refine ah hJ ?_
 refine aG hJ ?_
 apply ag _
 repeat refine ah hJ ?_
 refine aU hJ ?_
 refine bP hJ [3,4,5,10,11,12,13,14,15,16,17,18,19,20,21,22,23,24,25,26,27,28,29,30,31,32,33,34,35,36,37,38,39,40,41,42,43,44,45,46,47,48,49,50,51,52,53,54,55,56,57,58,59] (fun m s F'=>∃k:Nat,1<=k/\k<=u0.length/\u0.length - k<=m/\F'=⟨ro,[(b,Obj.cells D 3)]⟩/\slot s 3= .int .i64 (k:Int)/\∀j,j<k->iC u0 j=true) u0.length ?_ ?_
 .refine ⟨1,Nat.le_refl _,aa,aa,rfl,?_,fun j c=>AP u0 c⟩
  apply ag _
  rfl
 .rintro a5 g F' t ⟨k,ck,Q,cl,rfl,a6,E⟩
  have a7:sz g=61:=by rw[t.size];simp only[*,go_sem]
  have a8:g.defers=[]:=by rw[t.defers];simp only[*,go_sem]
  have a9:slot g 0= .slice (some ⟨b,0,none⟩) u0.length cap:=by rw[t.bM 0 aL];simp only[*,go_sem]
  clear t a3 hd a4
  repeat refine ah hJ ?_
  repeat refine ah hJ ?_
  refine aG hJ ?_
  apply ag _
  by_cases R:k<u0.length
  .have hb:decide (((k:Nat):Int)<(u0.length:Int))=true:=decide_eq_true aa
   refine dn hJ bx ?_
   refine aK hJ ?_
   repeat refine ah hJ ?_
   refine aU hJ ?_
   repeat refine ah hJ ?_
   obtain ⟨p,rfl⟩:∃p,k=p+1:=⟨k - 1,aa⟩
   have hw:IntKind.i64.wrap (((p+1:Nat):Int) - 1)=(p:Int):=by rw[IntWalk.i64_in _ ⟨aa,aa⟩];omega
   refine eN hJ mixed 9 ⟨ro,[(b,Obj.cells D 3)]⟩ bx aj ?_
   obtain ⟨x1,S⟩:∃x,u0[p+1]?=some x:=⟨u0[p+1],by simp[R]⟩
   obtain ⟨F,H,I⟩:=hg.dL S
   obtain rfl:F=[.int .i64 x1]:=H
   have T:=I 0 _ rfl
   simp only[go_sem] at T
   have cv:=(Array.getElem?_eq_some_iff.1 T).1
   obtain ⟨x2,U⟩:∃x,u0[p]?=some x:=⟨u0[p],by simp[Nat.lt_of_succ_lt R]⟩
   obtain ⟨K,L,M⟩:=hg.dL U
   obtain rfl:K=[.int .i64 x2]:=L
   have V:=M 0 _ rfl
   simp only[go_sem] at V
   have cy:=(Array.getElem?_eq_some_iff.1 V).1
   have cS:¬((p+1:Nat):Int)<0:=aa
   have b2:((p+1:Nat):Int)<(u0.length:Int):=aa
   have b3:¬(p:Int)<0:=aa
   have b4:(p:Int)<(u0.length:Int):=aa
   have c0:(0:Int)<=((p+1:Nat):Int):=aa
   have da:(0:Int)<=(p:Int):=aa
   apply ag _
   have ba:u0.getD (p+1) 0=x1:=by rw[List.getD_eq_getElem?_getD,S];rfl
   have bb:u0.getD p 0=x2:=by rw[List.getD_eq_getElem?_getD,U];rfl
   have W:iC u0 (p+1)=(x1 != x2):=by unfold iC;rw[ba,Nat.add_sub_cancel,bb];simp
   clear I M
   by_cases N:x1=x2
   .subst N
    refine dn hJ (by simp only[*,go_sem,beq_self_eq_true]) ?_
    repeat refine ah hJ ?_
    refine aG hJ ?_
    have db:p+1<=u0.length:=Q
    have dd:p+1<=cap:=aa
    have df:((p+1:Nat):Int)<=(u0.length:Int):=aa
    have dk:u0.length<=cap:=le
    have dp:¬cap=p+1:=aa
    apply ag _
    have bc:slot g 4=slot g 4:=rfl
    repeat refine ah hJ ?_
    refine aG hJ ?_
    apply ag _
    repeat refine ah hJ ?_
    refine aU hJ ?_
    have e0:fF u0 (p+2)=u0.take (p+1):=by
     show fF u0 (p+1)++cond (iC u0 (p+1)) _ _=_
     rw[W,sS u0 _ Q E];simp
    refine bP hJ [3,5,29,30,31,32,33,34,35,36,37,38,39,40,41,42,43,44,45,46,47,48,49,50,51,52,53] (fun bd s F'=>∃(m w:Nat) (arr:Array Value) (x:List Int),1<=m/\m<=u0.length - (p+1)/\u0.length - (p+1) - m<=bd/\F'=⟨ro,[(b,Obj.cells arr 3)]⟩/\slot s 5= .int .i64 (m:Int)/\slot s 3= .int .i64 (w:Int)/\
     aW rI ro 3 (.slice (some ⟨b,0,none⟩) u0.length cap) x [(b,.cells arr 3)]/\x.length=u0.length/\(fF u0 (p+(1+m))).length=w/\w<=p+m/\x.take w=fF u0 (p+(1+m))/\∀j,p+m<=j->x[j]?=u0[j]?) u0.length ?_ ?_
    .refine ⟨1,p+1,D,u0,Nat.le_refl _,aa,aa,rfl,?_,?_,hg,rfl,?_,Nat.le_refl _,e0.symm,fun _ _=>rfl⟩
     .apply ag _;rfl
     .simp only[*,go_sem]
     .show (fF u0 (p+2)).length=p+1
      rw[e0,List.length_take];omega
    .rintro m2 u F' l ⟨m,w,arr,x,I,M,dq,rfl,ds,dt,d,X,o,du,B,C⟩
     have dv:sz u=61:=by rw[l.size];simp only[*,go_sem]
     have dC:u.defers=[]:=by rw[l.defers];simp only[*,go_sem]
     have dE:slot u 0= .slice (some ⟨b,0,none⟩) u0.length cap:=by rw[l.bM 0 aL];simp only[*,go_sem]
     have dT:slot u 4= .slice (some ⟨b,p+1,none⟩) (u0.length - (p+1)) (cap - (p+1)):=by rw[l.bM 4 aL];simp only[*,go_sem]
     clear l a7 a8 a9 a6 bc
     repeat refine ah hJ ?_
     refine aG hJ ?_
     apply ag _
     by_cases ea:m<u0.length - (p+1)
     .have bj:decide (((m:Nat):Int)<((u0.length - (p+1):Nat):Int))=true:=decide_eq_true aa
      refine dn hJ bx ?_
      refine aK hJ ?_
      repeat refine ah hJ ?_
      refine aU hJ ?_
      repeat refine ah hJ ?_
      obtain ⟨q,rfl⟩:∃q,m=q+1:=⟨m - 1,aa⟩
      have eb:IntKind.i64.wrap (((q+1:Nat):Int) - 1)=(q:Int):=by rw[IntWalk.i64_in _ ⟨aa,aa⟩];omega
      refine eN hJ mixed 9 ⟨ro,[(b,Obj.cells arr 3)]⟩ bx aj ?_
      obtain ⟨a,Y⟩:∃y,u0[p+(1+(q+1))]?=some y:=⟨u0[p+(1+(q+1))]'aa,List.getElem?_eq_getElem _⟩
      obtain ⟨F,H,Z⟩:=d.dL ((C _ aa).trans Y)
      obtain rfl:F=[.int .i64 a]:=H
      have ab:=Z 0 _ rfl
      simp only[go_sem] at ab
      have ec:=(Array.getElem?_eq_some_iff.1 ab).1
      obtain ⟨f,ae⟩:∃y,u0[p+(1+q)]?=some y:=⟨u0[p+(1+q)]'aa,List.getElem?_eq_getElem _⟩
      obtain ⟨K,L,al⟩:=d.dL ((C _ aa).trans ae)
      obtain rfl:K=[.int .i64 f]:=L
      have ao:=al 0 _ rfl
      simp only[go_sem] at ao
      have ed:=(Array.getElem?_eq_some_iff.1 ao).1
      have c1:¬((q+1:Nat):Int)<0:=aa
      have c2:((q+1:Nat):Int)<((u0.length - (p+1):Nat):Int):=aa
      have c3:¬(q:Int)<0:=aa
      have c4:(q:Int)<((u0.length - (p+1):Nat):Int):=aa
      have eh:(0:Int)<=((q+1:Nat):Int):=aa
      have et:(0:Int)<=(q:Int):=aa
      apply ag _
      have ar:u0.getD (p+(1+(q+1))) 0=a:=by rw[List.getD_eq_getElem?_getD,Y];rfl
      have bk:u0.getD (p+(1+q)) 0=f:=by rw[List.getD_eq_getElem?_getD,ae];rfl
      have bm:iC u0 (p+(1+(q+1)))=(a != f):=by
       unfold iC
       have bo:p+(1+(q+1)) - 1=p+(1+q):=aa
       rw[bo,ar,bk]
       have:(p+(1+(q+1))==0)=false:=an
       rw[this,Bool.false_or]
      have e1:fF u0 (p+(1+(q+1+1)))=fF u0 (p+(1+(q+1)))++cond (a != f) [a] []:=by
       show fF u0 (p+(1+(q+1)))++cond (iC u0 (p+(1+(q+1)))) [u0.getD (p+(1+(q+1))) 0] []=_
       rw[bm,ar]
      have ev:IntKind.i64.wrap (((q+1:Nat):Int)+1)=((q+1+1:Nat):Int):=by rw[IntWalk.i64_in _ ⟨aa,aa⟩];omega
      clear Z al o
      have o:(fF u0 (p+(1+(q+1)))).length=w:=by rw[<-B,List.length_take];omega
      by_cases a0:a=f
      .subst a0
       simp only[bne_self_eq_false,cond_false,List.append_nil] at e1
       refine dr hJ (by simp only[*,go_sem,bne_self_eq_false]) ?_
       refine aK hJ ?_
       refine aG hJ ?_
       apply ag _
       refine ⟨m2 - 1,aa,_,Le.refl _,q+1+1,w,arr,x,aa,aa,aa,rfl,?_,?_,d,X,by rw[e1];exact o,aa,by rw[e1];exact B,fun j c=>C j aa⟩
       .simp only[*,go_sem]
       .simp only[*,go_sem]
      .have br:(a != f)=true:=by simpa using a0
       rw[br] at e1
       simp only[cond_true] at e1
       refine dn hJ bx ?_
       repeat refine ah hJ ?_
       refine aG hJ ?_
       have d1:(w:Int)<(u0.length:Int):=aa
       have d2:¬(w:Int)<0:=aa
       have d3:(0:Int)<=(w:Int):=aa
       have eQ:w<arr.size:=aa
       apply ag _
       have bs:aW rI ro 3 (.slice (some ⟨b,0,none⟩) u0.length cap) (x.set w a) [(b,Obj.cells (bI arr w [.int .i64 a]) 3)]:=by
        have bS:=d.gS (i:=w) (y:=a) aa (cs:=[.int .i64 a]) rfl
        simpa only[iP,Nat.mul_one,Nat.add_zero] using bS
       have eS:IntKind.i64.wrap ((w:Int)+1)=((w+1:Nat):Int):=by rw[IntWalk.i64_in _ ⟨aa,aa⟩];omega
       refine aG hJ ?_
       apply ag _
       refine aG hJ ?_
       apply ag _
       refine ⟨m2 - 1,aa,_,Le.refl _,q+1+1,w+1,_,x.set w a,aa,aa,aa,rfl,?_,?_,bs,by rw[List.length_set];exact X,?_,aa,?_,fun j c=>?_⟩
       .simp only[*,go_sem]
       .simp only[*,go_sem]
       .rw[e1,List.length_append,o];rfl
       .rw[e1,<-B,List.take_succ,List.take_set_of_le (Nat.le_refl _),List.getElem?_set_self aa];rfl
       .rw[List.getElem?_set_ne aa];exact C j aa
     .have bj:decide (((m:Nat):Int)<((u0.length - (p+1):Nat):Int))=false:=decide_eq_false aa
      refine dr hJ bx ?_
      refine bJ ?_
      simp only[go_sem]
      have a2:p+(1+m)=u0.length:=aa
      rw[a2] at o
      have d1:(w:Int)<=(u0.length:Int):=aa
      have d2:¬(w:Int)<0:=aa
      have d3:(0:Int)<=(w:Int):=aa
      have d4:w<=u0.length:=aa
      have d5:w<=cap:=aa
      have d6:¬cap=w:=aa
      have d7:(0:Int)<=(w:Int):=aa
      have d8:(w:Int)<=(cap:Int):=aa
      have b0:w+(u0.length - w)<=arr.size:=by
       obtain ⟨ls,b1,e2,-⟩:=id d
       rcases b1 with ⟨hv,_,_⟩|⟨e3,fa,fb,hv,ca,hs,hle,_⟩
       .cases hv
       .cases ca
        have:rI.n=1:=rfl
        rw[this,Nat.mul_one] at hs
        omega
      repeat refine ah hJ ?_
      refine aG hJ ?_
      simp only[*,go_sem,ite_false,if_false]
      refine Fu (pre:=[]) (bq:=[]) (z:=.int .i64 0) (zc:=.int .i64 0) rfl (by kernel_rfl:Tryz.prog.underlying 36=some (.slice 3)) aj rfl rfl aa (by simp[aN]) b0 ?_
      dsimp only[List.nil_append]
      repeat refine ah hJ ?_
      refine aG hJ ?_
      apply ag _
      refine aO ?_
      apply ag _
      refine ⟨_,?_,Le.refl _⟩
      have:=d.clear (k:=w) aa
      rw[B,a2] at this
      simpa only[ite_self,Nat.sub_zero] using this
   .have fc:(x1==x2)=false:=by simpa using N
    refine dr hJ bx ?_
    refine aK hJ ?_
    refine aG hJ ?_
    have fg:IntKind.i64.wrap (((p+1:Nat):Int)+1)=((p+2:Nat):Int):=by rw[IntWalk.i64_in _ ⟨aa,aa⟩];omega
    apply ag _
    refine ⟨a5 - 1,aa,_,Le.refl _,p+2,aa,aa,aa,rfl,bx,fun j c=>?_⟩
    rcases Nat.lt_succ_iff_lt_or_eq.1 c with c|rfl
    .exact E j c
    .rw[W];simpa using N
  .have hb:decide (((k:Nat):Int)<(u0.length:Int))=false:=decide_eq_false aa
   refine dr hJ bx ?_
   refine bJ ?_
   simp only[go_sem]
   repeat refine ah hJ ?_
   refine aG hJ ?_
   apply ag _
   refine aO ?_
   apply ag _
   obtain rfl:k=u0.length:=aa
   rw[sS u0 _ (Nat.le_refl _) E,List.take_length]
   exact ⟨_,hg,Le.refl _⟩
end Go.Proofs.YtlchekhkopimhaaGreatDoor
end
section
namespace Go.Sep
open Go Go.Conc
variable {P:Program}
theorem AQ {ro:Addr->Option Value}{pre bq:List (Nat×Obj)}{argTypes:Array TypeId}{t e ty j:TypeId}{R:Value->af->Prop}{b c:Nat}{ad:Option Addr}{l:List Int}{d n1 f n3:Int}(pc g:List Value)(off:Nat)(u:off=pc.length)(ht:argTypes[0]?=some t)(hu:P.underlying t=some (.slice e))(hs:cw P e=some 1)
  (A:aH rI ro (.slice ad l.length c) l) (B:aN pre b)
  (h:R (.int .i64 ((Nat.min l.length 4:Nat):Int)) ⟨ro,pre++((b,.cells (pc++([Value.int .i64 (l.getD 0 d),Value.int .i64 (l.getD 1 n1),Value.int .i64 (l.getD 2 f),Value.int .i64 (l.getD 3 n3)]++g)).toArray j)::bq)⟩):
  cR P (Builtin.copy_ argTypes ty #[.slice (some ⟨b,off,none⟩) 4 4,.slice ad l.length c]) R ⟨ro,pre++((b,.cells (pc++([Value.int .i64 d,Value.int .i64 n1,Value.int .i64 f,Value.int .i64 n3]++g)).toArray j)::bq)⟩:=by
 subst u
 unfold cR
 have key:∀i x,l[i]?=some x->∃p,ad=some p/\ro (p.add i)=some (.int .i64 x):=by
  obtain ⟨I,J,C,_,_,D⟩:=A
  cases C
  intro i x hi
  obtain ⟨p,cs,m,o,E⟩:=D i x hi
  obtain rfl:cs=[.int .i64 x]:=o
  refine ⟨p,m,?_⟩
  have:=E 0 _ rfl
  have e1:(p.add (i*rI.n)).add 0=p.add i:=by
   show p.add (i*1)=_
   rw[Nat.mul_one]
  rwa [e1] at this
 have st:∀(vs:List Value),(∀v∈vs,dP v=true)->vs.length<=4->(⟨ro,pre++((b,.cells (pc++([Value.int .i64 d,Value.int .i64 n1,Value.int .i64 f,Value.int .i64 n3]++g)).toArray j)::bq)⟩:af).jb ⟨b,pc.length,none⟩ 0 vs=some ⟨ro,pre++((b,.cells (bI (pc++([Value.int .i64 d,Value.int .i64 n1,Value.int .i64 f,Value.int .i64 n3]++g)).toArray pc.length vs) j)::bq)⟩:=by
  intro vs hv hlen
  have:=r8 (ro:=ro) (bq:=bq) (e:=j) B pc.length vs (pc++([Value.int .i64 d,Value.int .i64 n1,Value.int .i64 f,Value.int .i64 n3]++g)).toArray 0 hv (by simp;omega)
  simpa using this
 simp only[Builtin.copy_,ht,List.getElem?_toArray,List.getElem?_cons_zero,List.getElem?_cons_succ,bA,di,hu,ff,hs,bG,Builtin.lenOf]
 have ld:∀(k:Nat) (vs:List Value) (Q:Array Value->af->Prop) (F:af),F.ro=ro->k=Nat.min l.length 4->vs=(l.take 4).map (fun x=>Value.int .i64 x)->Q vs.toArray F->bw P (Builtin.firstCells 1 k (.slice ad l.length c)) Q F:=by
  intro k vs Q F hF G r s
  cases ad with
  |none=>
   cases l with
   |nil=>subst r;exact s
   |cons x l=>obtain ⟨p,m,_⟩:=key 0 x rfl;cases m
  |some p=>
   have H:∀i x,l[i]?=some x->F.get (p.add i)=some (.int .i64 x):=by
    intro i x hi
    obtain ⟨p',m,o⟩:=key i x hi
    cases m
    simp only[af.get,hF,o]
   show bw P (loadCells p (k*1)) Q F
   refine zJ p (vs:=vs) ?_ s
   subst G r
   match l,H with
   |[],_=>rfl
   |[x],k=>simp[af.dj,k 0 x rfl]
   |[x,y],k=>simp[af.dj,k 0 x rfl,k 1 y rfl]
   |[x,y,z],k=>simp[af.dj,k 0 x rfl,k 1 y rfl,k 2 z rfl]
   |x::y::z::w::l,k=>simp[af.dj,k 0 x rfl,k 1 y rfl,k 2 z rfl,k 3 w rfl,show Nat.min (l.length+1+1+1+1) 4=4 from Nat.min_eq_right aa]
 refine ld _ _ _ _ rfl rfl rfl ?_
 refine pW _ _ 0 _ _ (st _ (fun v hv=>?_) ?_) ?_
 .obtain ⟨x,_,rfl⟩:=List.mem_map.1 (show v∈(l.take 4).map (fun x=>Value.int .i64 x) from hv);rfl
 .simp;omega
 .simp only[bG,goInt]
  have K:∀(a:Value) (vs:List Value) (xs:List Value) (i:Nat) (y:Value) (q:List Value),i=xs.length->bI (xs++y::q).toArray i (a::vs)=bI ((xs++[a])++q).toArray (xs++[a]).length vs:=by
   intro a vs xs i y q hi
   subst hi
   simp[bI]
  have e1:bI (pc++([Value.int .i64 d,Value.int .i64 n1,Value.int .i64 f,Value.int .i64 n3]++g)).toArray pc.length ((l.take 4).map (fun x=>Value.int .i64 x))=(pc++([Value.int .i64 (l.getD 0 d),Value.int .i64 (l.getD 1 n1),Value.int .i64 (l.getD 2 f),Value.int .i64 (l.getD 3 n3)]++g)).toArray:=by
   match l with
   |[]=>rfl
   |[x]=>simp[bI,Nat.add_assoc,List.set_append_right]
   |[x,y]=>simp[bI,Nat.add_assoc,List.set_append_right]
   |[x,y,z]=>simp[bI,Nat.add_assoc,List.set_append_right]
   |x::y::z::w::l=>simp[bI,Nat.add_assoc,List.set_append_right]
  rw[e1]
  exact h
end Go.Sep
end
section
namespace Go.Proofs.YtlchekhkopimhaaGreatDoor
open Go Go.Sep Go.Proofs
set_option maxRecDepth 100000
theorem aZ.AR {x y:aZ}{i n:Int}(h:x.setAt i n=some y)(pre post:List Value){k:Nat}(a:k=pre.length+i.toNat):
  ((pre++([Value.int .i64 x.e0,Value.int .i64 x.e1,Value.int .i64 x.e2,Value.int .i64 x.e3]++post)).set k (.int .i64 n)).toArray=(pre++([Value.int .i64 y.e0,Value.int .i64 y.e1,Value.int .i64 y.e2,Value.int .i64 y.e3]++post)).toArray:=by
 subst a
 have b:=aZ.AK h
 unfold aZ.setAt at h
 rcases b with rfl|rfl|rfl|rfl<;>simp at h<;>subst h<;>simp[List.set_append_right]
end Go.Proofs.YtlchekhkopimhaaGreatDoor
end
section
namespace Go.Proofs.YtlchekhkopimhaaGreatDoor
open Go Go.Sep Go.Proofs
set_option maxRecDepth 100000
set_option maxHeartbeats 4000000
def qP (u0:List bE):Option (List bE):=if u0.length<=1000000 then some u0 else none
theorem AS {ro:Addr->Option Value}(u0:List bE){s1:Value}(b:aH eo ro s1 u0){x:List bE}(h:qP u0=some x):aE Tryz.prog 121 #[s1] ⟨ro,[]⟩ (fun v G=>∃a,aW eo ro 71 v x a/\Le ⟨ro,a⟩ G):=by
 obtain ⟨ad,cap,rfl,le,d,e⟩:=id b;unfold qP at h;split at h
 case isFalse=>cases h
 rename_i hlen;obtain rfl:=Option.some.inj h;clear h;refine aE.go Tryz.func121 rfl Tryz.ntmps121 Tryz.results121 an fun main J hJ A f hd hs=>?_;have g:=hs 0;clear hs;apply aB hJ _;cases ad with
 |none=>
  have hu:u0=[]:=by
   cases u0 with
   |nil=>rfl
   |cons x l=>obtain ⟨p,cs,c,_⟩:=e 0 x rfl;cases c
  subst hu;first|refine aA hJ ?_|refine ah hJ (aA hJ ?_)
  apply ag _;refine dn hJ bx ?_;apply aB hJ _;refine b5 ?_;exact ⟨[],aW.nil _ _ _,Le.refl _⟩
 |some p=>
  first|refine aA hJ ?_|refine ah hJ (aA hJ ?_)
  apply ag _;refine dr hJ bx ?_;apply aK hJ;apply aB hJ _;intro i f1;have r1:=cT f1;try apply ag _
  refine z0 r1 trivial rfl hlen b rfl rfl Am Am FC FE rfl FD aL aL (fun v a hg j=>aJ ?_);apply ag _;refine b5 ?_;exact ⟨a,hg,Le.refl _⟩
theorem G1 {ro:Addr->Option Value}(u0:List bE){s1:Value}(b:aH eo ro s1 u0){x:List bE}(h:qP u0=some x):eZ Tryz.prog 121 #[s1] ro (fun v aF=>∃a,v=a/\aH eo aF a x):=
 (AS u0 b h).mono fun v G c=>by
  obtain ⟨i,hg,hle⟩:=c
  obtain ⟨d,e,j,f,g⟩:=hg.vt [] (fun _ _ h=>by cases h) rfl (fun _ h=>by cases h)
  exact ⟨d,e,g.trans hle,_,rfl,f⟩
def wC (u0:List aS):Option (List aS):=if u0.length<=1000000 then some u0 else none
theorem G2 {ro:Addr->Option Value}(u0:List aS){s1:Value}(b:aH bK ro s1 u0){x:List aS}(h:wC u0=some x):aE Tryz.prog 160 #[s1] ⟨ro,[]⟩ (fun v G=>∃a,aW bK ro 31 v x a/\Le ⟨ro,a⟩ G):=by
 obtain ⟨ad,cap,rfl,le,d,e⟩:=id b;unfold wC at h;split at h
 case isFalse=>cases h
 rename_i hlen;obtain rfl:=Option.some.inj h;clear h;refine aE.go Tryz.func160 rfl Tryz.ntmps160 Tryz.results160 an fun main J hJ A f hd hs=>?_;have g:=hs 0;clear hs;apply aB hJ _;cases ad with
 |none=>
  have hu:u0=[]:=by
   cases u0 with
   |nil=>rfl
   |cons x l=>obtain ⟨p,cs,c,_⟩:=e 0 x rfl;cases c
  subst hu;first|refine aA hJ ?_|refine ah hJ (aA hJ ?_)
  apply ag _;refine dn hJ bx ?_;apply aB hJ _;refine b5 ?_;exact ⟨[],aW.nil _ _ _,Le.refl _⟩
 |some p=>
  first|refine aA hJ ?_|refine ah hJ (aA hJ ?_)
  apply ag _;refine dr hJ bx ?_;apply aK hJ;apply aB hJ _;intro i f1;have r1:=cT f1;try apply ag _
  refine z0 r1 trivial rfl hlen b rfl rfl nU nU vJ vL rfl vK aL aL (fun v a hg j=>aJ ?_);apply ag _;refine b5 ?_;exact ⟨a,hg,Le.refl _⟩
end Go.Proofs.YtlchekhkopimhaaGreatDoor
end
section
namespace Go.Sep
open Go Go.Conc
section
variable {P:Program}{main:Bool}{J:Goroutine->af->Prop}
theorem AT (hJ:Closed P main J){f:FuncId}{args:Array Value}{ro:Addr->Option Value}{own:List (Nat×Obj)}{K:Value->af->Prop}(R:Value->(Addr->Option Value)->List (Nat×Obj)->Prop)
  (h:aE P f args ⟨ro,[]⟩ (fun v G=>∃aF d,Ext ro aF/\Le ⟨aF,d⟩ G/\R v aF d))
  (pre bq:List (Nat×Obj)) (n:own=pre++bq)
  (B:∀v aF d,Ext ro aF->(∀b∈keys own,∀off sp,aF ⟨b,off,sp⟩=none)->R v aF d->∀p,p=pre++(d++bq)->bO (keys p)->K v ⟨aF,p⟩):dh P J f args ⟨ro,own⟩ K:=by
 intro c cs hK
 by_cases hw:∃w,Has ⟨ro,own⟩ w
 .obtain ⟨q,r⟩:=hw
  let F:af:=⟨fun _=>none,own⟩
  have s:∀w,Has ⟨ro,own⟩ w->Has F w:=fun w hw=>⟨fun a v h=>(by cases h),hw.own,hw.nodup,fun a v h=>(by cases h)⟩
  have t:∀w,Has ⟨ro,own⟩ w->Has ⟨ro,[]⟩ w:=fun w hw=>⟨hw.ro,fun b o hb=>(by cases hb),List.nodup_nil,fun a v i hm=>(by cases hm)⟩
  have u:Fits F ⟨ro,[]⟩:=⟨⟨q,t q r,s q r⟩,fun b hb=>(by cases hb),fun a g hm=>(by cases hm)⟩
  have C:kO F ⟨ro,[]⟩:=fun a g hm=>by
   obtain ⟨v,hv⟩:=Option.isSome_iff_exists.1 g
   exact r.apart a v hv hm
  have n:r5 J F (G (Frame.enter P f args .normal) (c::cs)) ⟨ro,[]⟩:=by
   refine h main _ (vo hJ F) c cs fun v G hR j hn=>?_
   obtain ⟨aF,d,D,hle,hR⟩:=hR
   have y:∀a,(aF a).isSome=true->a.block∉keys own:=fun a g=>(hle.ro a g).elim (hn a) (j.own _)
   have k:(d++own).Perm (pre++(d++bq)):=by
    subst n
    rw[<-List.append_assoc,<-List.append_assoc]
    exact List.Perm.append_right bq List.perm_append_comm
   have A:∀w,Has (G.star F) w->Has ⟨aF,pre++(d++bq)⟩ w:=fun w hw=>by
    have l:=hle.has w (j.right hw)
    have hF:=j.left hw
    refine ⟨l.ro,fun b o hb=>(List.mem_append.1 (k.symm.subset hb)).elim (l.own b o) (hF.own b o),?_,fun a v i hm=>?_⟩
    .refine (k.map _).nodup_iff.1 ?_
     rw[List.map_append]
     exact List.nodup_append.2 ⟨l.nodup,hF.nodup,fun a g b hb e=>j.own a (hle.own a g) (e▸hb)⟩
    .replace hm:=(k.symm.map _).subset hm
     rw[List.map_append] at hm
     exact (List.mem_append.1 hm).elim (l.apart a v i) (y a (by simp only at i;simp[i]))
   have E:∃fr cs',Go.Conc.G (c.finish v) cs=Go.Conc.G fr cs':=⟨_,_,rfl⟩
   obtain ⟨fr,cs',H⟩:=E
   by_cases m:∃w,Has (G.star F) w
   .obtain ⟨w1,m⟩:=m
    refine hJ.mono (F:=⟨aF,pre++(d++bq)⟩) ⟨A,fun b hb=>?_,fun a g=>?_⟩ (hK v ⟨aF,pre++(d++bq)⟩ (B v aF d D (fun b hb off sp=>?_) hR _ rfl ⟨(A w1 m).nodup⟩))
    .replace hb:=(k.symm.map _).subset hb
     rw[List.map_append] at hb
     simp only[cu,af.star,List.mem_append] at hb ⊢
     exact hb.imp (hle.own b) id
    .rcases hle.ro a g with x|x
     .exact (gE (.inr x)).imp id (fun z=>by simp only[af.star,cu,List.mem_append];exact .inr z)
     .exact .inr (by simp only[af.star,cu,List.mem_append];exact .inl x)
    .cases i:aF ⟨b,off,sp⟩ with
     |none=>rfl
     |some v=>exact absurd hb (y ⟨b,off,sp⟩ (by simp[i]))
   .rw[H]
    exact hJ.step fun w hF=>absurd ⟨w,hF⟩ m
  refine hJ.mono ⟨fun w hw=>u.both (t w hw) (s w hw),fun b hb=>?_,fun a g=>?_⟩ (n u C)
  .simpa [af.star,F] using hb
  .rcases jF g with x|x
   .cases x
   .exact .inl x
 .exact hJ.step fun w hF=>absurd ⟨w,hF⟩ hw
end
end Go.Sep
end

/- A part of the proof: QT12. -/
import Derived.Test.YtbpddfapodiemaaGreatDoorQT11
set_option linter.all false
section
namespace Go.Proofs.YtbpddfapodiemaaGreatDoor
open Go Go.Sep Go.Proofs
def vF (u0:an)(c:Int):Option Bool:=
 ai (nL u0) fun h=>cond (h) (ai (qs) fun i=>some i) (ai (jS u0) fun a=>ai (mq u0) fun b=>ai (lO u0 c) fun f=>ai (jV u0 c) fun g=>cond (!((a.1.num==b.1.num)&&(a.1.den==b.1.den))) (some false) (cond (!((a.2.1.num==b.2.1.num)&&(a.2.1.den==b.2.1.den))) (some false) (cond (!(a.2.2.1==b.2.2.1)) (some false) (cond ((a.2.2.2 != b.2.2.2)) (some false) (ai (nB f.1 g.1) fun j=>cond (!j) (some false) (cond ((f.2 != g.2)) (some false) (ai (lP u0 c) fun d=>ai (kF u0 c) fun e=>ai (nB d.1 e.1) fun k=>cond (k) (cond ((d.2.1==e.2.1)) (cond ((d.2.2==e.2.2)) (ai (qs) fun l=>some l) (some false)) (some false)) (some false))))))))
end Go.Proofs.YtbpddfapodiemaaGreatDoor
end
section
namespace Go.Proofs.YtbpddfapodiemaaGreatDoor
open Go Go.Sep Go.Proofs
set_option maxRecDepth 100000
set_option maxHeartbeats 4000000
theorem Mm {ro:Addr->Option Value}(a:dM ro)(u0:an){s1 i j k:Value}(b:bR ro u0 s1 i j k)(d:Int){r:Bool}(y:r=true)(h:vF u0 d=some r):m7 Tryz.prog 3 #[bv u0 s1 i j k,.int .i64 d] ⟨ro,[]⟩ (fun v _=>v= .bool r):=by
 subst y;unfold vF at h;refine m7.go Tryz.func3 rfl Tryz.ntmps3 Tryz.results3 av aj fun Φ hJ A z hd hs=>?_;have B:=hs 0;have k1:=hs 1;clear hs;apply aB hJ _;refine aA fun a5 a6 C=>?_;try simp only[ax] at C
 try apply ag _
 refine ah hJ (aF hJ ?_);revert h;refine bS fun a7 D h=>?_;apply ag _;refine bn hJ _ (I3 u0 (b.mono bq) D) ?_;try apply ag _
 revert h;refine aV hJ (fun E h=>?_) fun E h=>?_
 .apply aF hJ;revert h;refine bS fun a8 F h=>?_;cases h;apply ag _;refine A5 _ (EF a F) (aP ?_);try apply ag _
  apply aT;simp only[*,go_sem]
 refine aN hJ (ah hJ ?_);apply aQ hJ;revert h;refine bS fun a9 G h=>?_;apply ag _;refine bn hJ _ (Cd (a.mono bq) u0 (b.mono bq) G) (aP ?_);try apply ag _
 refine aA fun ba bb H=>?_;try simp only[ax] at H
 refine aA fun bc bd I=>?_;try simp only[ax] at I
 try apply ag _
 apply aF hJ;revert h;refine bS fun bj J h=>?_;apply ag _;refine bn hJ _ (Jd u0 (b.mono bq) J) (aP ?_);try apply ag _
 refine aA fun bk bl K=>?_;try simp only[ax] at K
 refine aA fun bm bo L=>?_;try simp only[ax] at L
 try apply ag _
 apply ah hJ;refine fM [1,2,4,5,6,7,8,9,10,11,12] fun br l m n=>?_;simp only[*,go_sem] at l m n;clear z hd B k1;apply aQ hJ;revert h;refine bS fun M N h=>?_;apply ag _;refine oN _ (EC a u0 b d N) fun v bs o O c=>?_;obtain ⟨bz,rfl,f⟩:=c;replace b:=b.mono o;replace a:=a.mono o;simp only[bt] at O;apply aP;try apply ag _
 apply aF hJ;revert h;refine bS fun P Q h=>?_;apply ag _;refine cc hJ _ (Je u0 b d Q) fun v b0 g R c=>?_;obtain ⟨b1,rfl,S⟩:=c;replace b:=b.mono g;replace f:=f.mono g;replace a:=a.mono g;simp only[bt] at R;apply aP;try apply ag _
 refine ah hJ (aF hJ ?_);revert h;refine cS (fun p h=>?_) fun p h=>?_
 .cases h
 rw[Bool.not_eq_false'] at p;revert h;refine cS (fun q h=>?_) fun q h=>?_
 .cases h
 rw[Bool.not_eq_false'] at q;revert h;refine cS (fun s h=>?_) fun s h=>?_
 .cases h
 rw[Bool.not_eq_false'] at s;revert h;refine cS (fun T h=>?_) fun T h=>?_
 .cases h
 revert h;refine bS fun b2 U h=>?_;try apply ag _
 refine bn hJ _ (xp M.1 (f.mono bq) P.1 (S.mono bq) U) (aP ?_);revert h;refine cS (fun t h=>?_) fun t h=>?_
 .cases h
 rw[Bool.not_eq_false'] at t;try apply ag _
 revert h;refine aV hJ (fun V h=>?_) fun V h=>?_
 .cases h
 refine aN hJ (ah hJ ?_);refine fM [1,2,4,7,8,11,12,13,15] fun b3 W X Y=>?_;simp only[*,go_sem] at W X Y;clear l m n;apply aQ hJ;revert h;refine bS fun Z ab h=>?_;apply ag _;refine oN _ (ED a u0 b d ab) fun v b4 u ad c=>?_;obtain ⟨b5,rfl,e⟩:=c;replace b:=b.mono u;replace a:=a.mono u;simp only[bt] at ad;obtain ⟨d90,ca,rfl,cb,cd,-⟩:=id e;apply aP;try apply ag _
 apply aF hJ;revert h;refine bS fun ae al h=>?_;apply ag _;refine cc hJ _ (Jf u0 b d al) fun v cf w ao c=>?_;obtain ⟨cl,rfl,x⟩:=c;replace e:=e.mono w;replace a:=a.mono w;simp only[bt] at ao;obtain ⟨d102,cy,rfl,c0,da,-⟩:=id x;apply aP;try apply ag _
 apply aF hJ;revert h;refine bS fun db ar h=>?_;apply ag _;refine bn hJ _ (xp Z.1 (e.mono bq) ae.1 (x.mono bq) ar) (aP ?_);revert h;refine cS (fun a0 h=>?_) fun a0 h=>?_
 .revert h;refine cS (fun a2 h=>?_) fun a2 h=>?_
  .revert h;refine cS (fun a3 h=>?_) fun a3 h=>?_
   .revert h;refine bS fun dd a4 h=>?_;cases h;(try apply ag _);refine A5 _ (EF a a4) (aP ?_);(try apply ag _);apply aT;simp only[*,go_sem]
   cases h
  cases h
 cases h
theorem Mn {u:an}(h:nL u=some false):sx u:=by
 unfold nL at h;rcases jI h with ⟨a,h⟩|⟨a,h⟩
 .cases h
 rcases jI h with ⟨b,h⟩|⟨b,h⟩
 .cases h
 rcases jI h with ⟨c,h⟩|⟨c,h⟩
 .cases h
 have d:=Option.some.inj h;simp only[decide_eq_false_iff_not] at a b c d;exact ⟨aa,aa,aa,aa⟩
theorem zQ {a b:au}{A B C D:Nat}(c:Sm a A B)(hb:Sm b C D):Sm (hH a b) (A*D+C*B) (B*D)/\∃n d,0<d/\hH a b=bO n d:=by
 have e:=dZ c.num (show b.den.natAbs<=D by have:=hb.den;omega);have f:=dZ hb.num (show a.den.natAbs<=B by have:=c.den;omega);have g:=dZ (show a.den.natAbs<=B by have:=c.den;omega) (show b.den.natAbs<=D by have:=hb.den;omega);have h:0<a.den*b.den:=Int.mul_pos c.den.1 hb.den.1;have:=kJ (a.num*b.den - b.num*a.den) (a.den*b.den).toNat aa;refine ⟨?_,_,_,aa,rfl⟩;unfold hH;exact ⟨Nat.le_trans this.num aa,this.den.1,by have:=this.den.2;omega⟩
theorem EG {α ρ:Type}:∀(l:List α) (i:Nat),iA (fun _ _=>(none:Option ρ)) i l=none
 |[],_=>rfl
 |x::l,i=>by unfold iA;exact EG l (i+1)
section
variable {u:an}{s:bh}(F:Fit u)(hs:(1<=s.back/\s.back<=20)/\0<=s.high/\s.high<=60)
include F hs
theorem qt:Sm (de u s).2 10000 100/\∃n d,0<d/\(de u s).2=bO n d:=by
 obtain ⟨n,p,e,a,-⟩:=JC F hs;have b:=F.kI n p a;rw[e];exact ⟨CL u F s hs n p a,_,_,aa,rfl⟩
end
abbrev Lw (x:au):Prop:=∃n d,0<d/\x=bO n d
theorem Lw.more {a b:au}(c:Lw a)(hb:Lw b):Lw (cP a b):=by
 unfold cP;cases bY a b;exact c;exact hb
section
variable {u:an}{s:bh}(F:Fit u)(hs:(1<=s.back/\s.back<=20)/\0<=s.high/\s.high<=60)
include F hs
theorem EH:Sm u.bp 20 20:=⟨by have:=F.num;omega,by have:=F.den;omega,by have:=F.den;omega⟩
end
def fQ (a b:au):au:=cond (bY b a) b a
section
variable {u:an}(F:Fit u)(h:gf u = some 0){i:Nat}{e:cA}(he:u.aK[i]? = some e)
include F h he
omit h in
theorem mL {n:Int}(a:n∈dQ u i e):(1<=e.back/\e.back<=20)/\0<=n/\n<=60:=by
 obtain ⟨c1,c2,c3,c4,b⟩:=F.bA _ _ he;have:=sr.1 (List.mem_filter.1 a).1;exact ⟨c1,aa,aa⟩
end
abbrev Bd (s:bh):Prop:=(1<=s.back/\s.back<=20)/\0<=s.high/\s.high<=60
section
variable {u:an}(F:Fit u)
include F
omit F in
theorem vG {i:Nat}{e:cA}(he:u.aK[i]?=some e)(n:Int):bT u i n=⟨e.back,n⟩:=by unfold bT;rw[he];rfl
def qu (u:an)(k:Nat)(i:Nat)(m:Int):Prop:=i<k/\∃e,u.aK[i]?=some e/\m∈dQ u i e
omit F in
theorem zR {α:Type}{l:List α}{j:Nat}{x y:α}(h:l[j]?=some x):y∈l.take (j+1)↔y∈l.take j\/y=x:=by
 rw[List.take_add_one,h];simp
end
theorem Mo (l:List bh)(x:bh):rC l x=some (l.any fun y=>x.back==y.back&&x.high==y.high):=by
 unfold rC tT
 rw[uY (t:=fun i y=>if (x.back==y.back&&x.high==y.high) then some (i:Int) else none) l 0 0 fun j y s c=>by
  unfold tS
  cases (x.back==y.back&&x.high==y.high)<;>rfl]
 obtain ⟨r,a,b⟩:=uZ (g:=fun y=>x.back==y.back&&x.high==y.high) l 0;rw[a,<-b];cases r with
 |none=>rfl
 |some n=>simp[ai,aG,lC]
theorem Mq (l:List bh)(x:bh):(l.any fun y=>x.back==y.back&&x.high==y.high)=true↔x∈l:=by
 rw[List.any_eq_true];constructor
 .rintro ⟨y,a,e⟩;simp only[Bool.and_eq_true,beq_iff_eq] at e;obtain ⟨e1,e2⟩:=e;cases x;cases y;simp only at e1 e2;subst e1;subst e2;exact a
 .exact fun h=>⟨x,h,av⟩
def Sg (u:an)(D:Nat->Int->Prop)(m:Nat)(l:List bh):Prop:=l.length<=m/\∀s,s∈l↔∃i n,D i n/\s=bT u i n
section
variable {u:an}(F:Fit u)(aO:b6 u ≠ [])
theorem EI {D E:Nat->Int->Prop}{m k:Nat}{l:List bh}(h:∀i m,D i m↔E i m)(hk:m<=k)(W:Sg u D m l):Sg u E k l:=by
 have:D=E:=by funext i m;exact propext (h i m)
 rw[<-this];exact ⟨Nat.le_trans W.1 hk,W.2⟩
include F aO
theorem EJ {i:Nat}{e:cA}(he:u.aK[i]?=some e):1<=(dQ u i e).length/\(dQ u i e).length<=3:=by
 obtain ⟨c,T,d,a,b⟩:=y4 F aO he;rw[b,List.length_map];exact Dx a
theorem Mr {k:Nat}{e:cA}(he:u.aK[k]?=some e){l:List bh}(W:Sg u (qu u k) (3*k) l):
  ∃r,bM (mj ⟨u,(b6 u).map dV⟩ k) 0 (dQ u k e) l=some (.nx r)/\Sg u (qu u (k+1)) (3*(k+1)) r:=by
 have hl:=(EJ F aO he).2
 have hk:k<u.aK.length:=(List.getElem?_eq_some_iff.1 he).1
 have o:=F.aK
 have key:=iT (f:=mj ⟨u,(b6 u).map dV⟩ k) (ρ:=List bh) (g:=fun _ n (l:List bh)=>cond (!(l.any fun y=>e.back==y.back&&n==y.high)) (l++[⟨e.back,n⟩]) l)
  (I:=fun j l=>j<=3/\Sg u (fun i m=>qu u k i m\/(i=k/\m∈(dQ u k e).take j)) (3*k+j) l) (dQ u k e) 0 l
  ⟨aa,EI (fun i m=>av) aa W⟩
  (fun j n l d p=>by
   have x:j<(dQ u k e).length:=(List.getElem?_eq_some_iff.1 d).1
   have t:=Mq l ⟨e.back,n⟩
   have v:=Mo l ⟨e.back,n⟩
   have q:=p.2.1
   rw[Nat.zero_add] at p q ⊢
   refine ⟨?_,aa,?_,fun s=>?_⟩
   .unfold mj jO
    simp only[eB he,ai,v]
    cases (l.any fun y=>e.back==y.back&&n==y.high) with
    |true=>rfl
    |false=>
     simp only[Bool.not_false,cond_true]
     unfold cx
     rw[if_pos (by simp;omega)]
   .cases (l.any fun y=>e.back==y.back&&n==y.high)<;>simp<;>omega
   .have key:s∈(cond (!(l.any fun y=>e.back==y.back&&n==y.high)) (l++[⟨e.back,n⟩]) l)↔s∈l\/s=⟨e.back,n⟩:=by
     cases c:(l.any fun y=>e.back==y.back&&n==y.high) with
     |true=>
      simp only[Bool.not_true,cond_false]
      have:=t.1 c
      constructor
      .exact fun h=>.inl h
      .rintro (h|rfl)
       .exact h
       .exact this
     |false=>simp
    rw[key,p.2.2 s]
    constructor
    .rintro (⟨i,m,h,rfl⟩|rfl)
     .refine ⟨i,m,?_,rfl⟩
      rcases h with h|⟨h,a⟩
      .exact .inl h
      .exact .inr ⟨h,(zR d).2 (.inl a)⟩
     .exact ⟨k,n,.inr ⟨rfl,(zR d).2 (.inr rfl)⟩,(vG he n).symm⟩
    .rintro ⟨i,m,h,rfl⟩
     rcases h with h|⟨rfl,a⟩
     .exact .inl ⟨i,m,.inl h,rfl⟩
     .rcases (zR d).1 a with a|rfl
      .exact .inl ⟨i,m,.inr ⟨rfl,a⟩,rfl⟩
      .exact .inr (vG he m))
 refine ⟨_,key.1,EI (fun i m=>?_) aa key.2.2⟩
 rw[Nat.zero_add,List.take_length]
 unfold qu
 constructor
 .rintro (⟨q,b⟩|⟨rfl,h⟩)
  .exact ⟨aa,b⟩
  .exact ⟨aa,e,he,h⟩
 .rintro ⟨q,w,b,o⟩
  by_cases c:i=k
  .subst c
   rw[he] at b;cases b
   exact .inr ⟨rfl,o⟩
  .exact .inl ⟨aa,w,b,o⟩
theorem EK:∃l,pg ⟨u,(b6 u).map dV⟩=some l/\l≠[]/\l.length<=9/\∀s,s∈l↔∃i e n,u.aK[i]?=some e/\n∈dQ u i e/\s=⟨e.back,n⟩:=by
 have o:=F.aK;have key:=iT (f:=rQ ⟨u,(b6 u).map dV⟩) (ρ:=List bh)
  (g:=fun i e l=>match bM (mj ⟨u,(b6 u).map dV⟩ i) 0 (dQ u i e) l with|some (.nx s)=>s|_=>l)
  (I:=fun i l=>Sg u (qu u i) (3*i) l) u.aK 0 [] ⟨av,fun s=>⟨fun h=>by simp at h,fun ⟨i,n,h,_⟩=>absurd h.1 aa⟩⟩
  (fun j e l he b=>by
   rw[Nat.zero_add] at b ⊢;obtain ⟨s1,k1,d⟩:=Mr F aO he b;simp only[k1];refine ⟨?_,d⟩;unfold rQ
   simp only[J4 F aO he,ai,k1,aG])
 obtain ⟨k1,d,m⟩:=key;have hm:∀s,s∈(foldI (fun i e l=>match bM (mj ⟨u,(b6 u).map dV⟩ i) 0 (dQ u i e) l with|some (.nx s)=>s|_=>l) 0 u.aK [])↔∃i e n,u.aK[i]?=some e/\n∈dQ u i e/\s=⟨e.back,n⟩:=fun s=>by
  rw[m s];unfold qu;constructor
  .rintro ⟨i,n,⟨_,e,he,a⟩,rfl⟩;exact ⟨i,e,n,he,a,vG he n⟩
  .rintro ⟨i,e,n,he,a,rfl⟩;exact ⟨i,n,⟨by have:=(List.getElem?_eq_some_iff.1 he).1;omega,e,he,a⟩,(vG he n).symm⟩
 refine ⟨_,?_,?_,aa,hm⟩
 .unfold pg;simp only[k1,ai,aG]
 .have k:u.aK[0]?=some (u.aK[0]'aa):=List.getElem?_eq_getElem _;obtain ⟨f1,-⟩:=EJ F aO k;obtain ⟨n,a⟩:=List.exists_mem_of_length_pos (l:=dQ u 0 (u.aK[0]'aa)) aa;intro c;have:=(hm ⟨_,n⟩).2 ⟨0,_,n,k,a,rfl⟩;rw[c] at this;cases this
end
def dm (u o:an):Bool:=(List.range u.aK.length).all fun i=>match u.aK[i]? with
 |some e=>(dQ u i e).all fun n=>!fH o ⟨e.back,n⟩
 |none=>true
theorem EL {u o:an}:dm u o=true↔∀i e n,u.aK[i]?=some e->n∈dQ u i e->fH o ⟨e.back,n⟩=false:=by
 unfold dm;rw[List.all_eq_true];constructor
 .intro a i e n he b;have:=a i (by rw[List.mem_range];exact (List.getElem?_eq_some_iff.1 he).1);rw[he] at this;have:=List.all_eq_true.1 this n b;simpa using this
 .intro a i hi;have hi:i<u.aK.length:=by simpa using hi
  have he:u.aK[i]?=some u.aK[i]:=List.getElem?_eq_getElem hi;rw[he];refine List.all_eq_true.2 fun n b=>?_;simpa using a i _ n he b
def pr (u:an)(h:Int)(P:List Int):an:=wp u (u.props++P.map fun p=>⟨p,h⟩)
def dO (u:an):Int:=((u.az[0]?).getD (⟨0,0⟩:cj)).aU
def cR (u:an):Int:=((u.az[u.az.length - 1]?).getD (⟨0,0⟩:cj)).aU
section
variable {u:an}(F:Fit u)
include F
theorem iW:∃a z,u.az[0]?=some a/\u.az[u.az.length - 1]?=some z/\dO u=a.aU/\cR u=z.aU/\0<=a.aU/\a.aU<z.aU/\z.aU<=59:=by
 have hl:=F.az;have e:=F.bZ;have b:u.az[0]?=some (u.az[0]'aa):=List.getElem?_eq_getElem _;have c:u.az[u.az.length - 1]?=some (u.az[u.az.length - 1]'aa):=List.getElem?_eq_getElem _;have f:=F.kI _ _ b;have g:=F.kI _ _ c;have d:=C6 F (u.az.length - 2) 0 _ _ b (by rw[<-c];congr 1;omega);exact ⟨_,_,b,c,by unfold dO;rw[b];rfl,by unfold cR;rw[c];rfl,aa,d,aa⟩
theorem zS (p:Int):fW u p=some (b7 p (dO u) (cR u)):=by
 obtain ⟨a,z,d,e,e1,e2,-⟩:=iW F;obtain ⟨f,g,b,c,k1,h⟩:=CI u F p;rw[d] at b;cases b;rw[e] at c;cases c;rw[k1,e1,e2]
theorem Ms {p:Int}(h:dO u<=p/\p<=cR u):fW u p=some true:=by
 rw[zS F,sA h.1 h.2]
theorem EM {h:Int}{P:List Int}(a:1<=h/\h<=20)(b:∀p,p∈P->dO u<=p/\p<=cR u)(hl:u.props.length+P.length<=3):Fit (pr u h P):=by
 refine JD F (by simp;omega) fun x c=>?_;rcases List.mem_append.1 c with m|m
 .obtain ⟨i,hi⟩:=List.mem_iff_getElem?.1 m;exact F.prop i x hi
 .rw[List.mem_map] at m;obtain ⟨p,d,rfl⟩:=m;exact ⟨Ms F (b p d),a⟩
end
theorem Mt {u:an}(h:Int)(P:List Int)(hl:u.props.length+P.length<=1000):o7 u h P=some (pr u h P):=by
 unfold o7 rG;rw[if_pos aa];have key:=iT (f:=rJ h) (ρ:=an) (g:=fun _ p (s:List cm)=>s++[(⟨p,h⟩:cm)]) (I:=fun j s=>s.length<=u.props.length+j) P 0 u.props aa
  (fun j p s a b=>by
   have c:=(List.getElem?_eq_some_iff.1 a).1;refine ⟨?_,by simp only[List.length_append,List.length_singleton];omega⟩;unfold rJ
   simp only[ai,fl (l:=s) (xs:=[(⟨p,h⟩:cm)]) (by simp only[List.length_singleton];omega)])
 have e:foldI (fun _ p (s:List cm)=>s++[(⟨p,h⟩:cm)]) 0 P u.props=u.props++P.map fun p=>⟨p,h⟩:=by
  rw[show (fun _ p (s:List cm)=>s++[(⟨p,h⟩:cm)])=(fun _ p (s:List cm)=>s++(fun p=>[(⟨p,h⟩:cm)]) p) from rfl,p5,ve]
 simp only[ai,key.1,aG,e];rfl
theorem EN {u:an}(h:Int)(P:List Int)(hl:u.props.length+P.length<=1000):jU u P h=some (pr u h P):=by
 unfold jU
 obtain ⟨s,k1,b⟩:=mD (f:=pI P h) (ρ:=an) (fun i (s:List cm)=>s=u.props++(P.take i).map fun p=>⟨p,h⟩) (fun s i=>(i,s)) P aa (fun i x s a c=>by
  have d:=(List.getElem?_eq_some_iff.1 a).1;refine ⟨s++[⟨x,h⟩],?_,by rw[c,List.take_add_one,a];simp⟩;have hs:s.length<=u.props.length+i:=by rw[c];simp;omega
  unfold pI;rw[show decide ((((i:Int),s):Int×List cm).1<(P.length:Int))=true by simp;omega];simp only[cond_true,eB a,ai,fl (l:=s) (xs:=[(⟨x,h⟩:cm)]) (by simp only[List.length_singleton];omega)];rw[cE (n:=(i:Int)+1) aa]
  rfl) (fun s=>by
  unfold pI
  simp) u.props av
 rw[List.take_length] at b;rw[fl (l:=([]:List cm)) (xs:=u.props) (by simp;omega),List.nil_append];simp only[ai,k1,aG,b];rfl
theorem Mv {o:an}(L:List bh)(h:∀s,s∈L->g6 o s=some (fH o s)):oZ o L=some (!L.any (fH o)):=by
 unfold oZ tZ tY
 rw[uY (t:=fun i x=>if fH o x then some (i:Int) else none) L 0 0 fun j x s a=>by
  unfold tX;rw[h x (List.mem_of_getElem? a)]
  cases fH o x<;>rfl]
 obtain ⟨r,b,c⟩:=uZ (g:=fH o) L 0;rw[b,<-c];cases r<;>rfl
def kS (u:an)(P:List Int):Prop:=(∀p,p∈P->dO u<=p/\p<=cR u)/\u.props.length+P.length<=3
theorem EO {f:List Int->Option Bool}{g:List Int->Bool}:∀(l:List (List Int)),(∀x,x∈l->f x=some (g x))->ov f l=some (l.map g)
 |[],_=>rfl
 |x::l,h=>by
  unfold ov
  rw[h x av,EO l fun y a=>h y (by simp[a])]
  rfl
section
variable {u:an}(F:Fit u)(aO:b6 u ≠ [])
include F aO
theorem Mw {h:Int}(d:1<=h/\h<=20){L:List bh}(hL:∀s,s∈L↔∃i e n,u.aK[i]?=some e/\n∈dQ u i e/\s=⟨e.back,n⟩){P:List Int}(c:kS u P)(all:List bD):
  vE ⟨u,all⟩ h L P=some (dm u (pr u h P)):=by
 have G:=EM F d c.1 c.2
 unfold vE
 simp only[Mt (u:=u) h P (by have:=c.2;omega),ai]
 rw[Mv L fun s hs=>by
  obtain ⟨i,e,n,he,b,rfl⟩:=(hL s).1 hs
  exact (u5 G (mL F he b)).1]
 refine congrArg some ?_
 rw[Bool.eq_iff_iff,EL,Bool.not_eq_true',List.any_eq_false]
 constructor
 .intro a i e n he b
  have:=a _ ((hL _).2 ⟨i,e,n,he,b,rfl⟩)
  simpa using this
 .intro a s hs
  obtain ⟨i,e,n,he,b,rfl⟩:=(hL s).1 hs
  simp[a i e n he b]
theorem EP {h:Int}(b:1<=h/\h<=20){S:List (List Int)}(c:∀P,P∈S->kS u P)(hl:S.length<=1000000):
  ow ⟨u,(b6 u).map dV⟩ h S=some (S.filter fun P=>dm u (pr u h P)):=by
 obtain ⟨L,k1,o,p,d⟩:=EK F aO
 have k:=EO (f:=vE ⟨u,(b6 u).map dV⟩ h L) (g:=fun P=>dm u (pr u h P)) S fun P m=>Mw F aO b d (c P m) _
 have key:=iT (f:=sJ (S.map fun P=>dm u (pr u h P))) (ρ:=List (List Int)) (g:=fun _ P s=>if dm u (pr u h P) then s++[P] else s) (I:=fun j s=>s.length<=j) S 0 [] av
  (fun j P s a n=>by
   have q:=(List.getElem?_eq_some_iff.1 a).1
   have hg:(S.map fun P=>dm u (pr u h P))[0+j]?=some (dm u (pr u h P)):=by rw[Nat.zero_add,List.getElem?_map,a];rfl
   rw[Nat.zero_add] at hg n ⊢
   unfold sJ
   simp only[eB hg,ai]
   cases dm u (pr u h P) with
   |false=>exact ⟨rfl,by simp only[Bool.false_eq_true,if_false];omega⟩
   |true=>exact ⟨by simp only[cond_true,fl (l:=s) (xs:=[P]) (by simp only[List.length_singleton];omega),if_true],by simp only[if_true,List.length_append,List.length_singleton];omega⟩)
 have e:∀(l:List (List Int)) (i:Nat) (s:List (List Int)),foldI (fun _ P s=>if dm u (pr u h P) then s++[P] else s) i l s=s++l.filter fun P=>dm u (pr u h P):=by
  intro l
  induction l with
  |nil=>intro i s;simp[foldI]
  |cons P l ih=>
   intro i s
   unfold foldI
   rw[ih]
   cases hb:dm u (pr u h P)<;>simp[List.filter,hb]
 unfold ow
 rw[decide_eq_true (show S.length<1048576 by omega)]
 simp only[cond_true,k1,ai,k,key.1,aG,e,List.nil_append]
end
section
variable {u:an}(F:Fit u)
include F
def fq (u:an)(P:List Int):Int:=match P.getLast? with
 |some p=>p+1
 |none=>dO u
def dX (u:an)(P:List Int):List (List Int):=(cY ⟨fq u P,cR u⟩).map fun p=>P++[p]
theorem zT (f:List Int->List (List Int)×Int->Option (Fl (List (List Int)×Int) (List (List Int))))
  (b:∀P st,f P st=ai (fW u st.2) fun x=>cond x (ai (o5 P) fun y=>ai (cx y ([st.2])) fun z=>ai (cx st.1 ([z])) fun w=>some (.nx (w,IntKind.i64.wrap (st.2+1)))) (some (.bk (st.1,st.2))))
  {P:List Int} (e:P.length<=1000):∀(k n:Nat) (p:Int) (s:List (List Int)),dO u<=p->(cR u+1 - p).toNat=k->k<n->s.length+k<=1000000->
  ∃q,aS (f P) n (s,p)=some (.nx (s++(cY ⟨p,cR u⟩).map (fun p=>P++[p]),q))
 |0,n+1,p,s,d,hk,_,_=>by
  obtain ⟨a,z,-,-,e1,e2,g,b2,b3⟩:=iW F
  refine ⟨p,?_⟩
  unfold aS
  rw[b,zS F,show b7 p (dO u) (cR u)=false by cases c:b7 p (dO u) (cR u) with|false=>rfl|true=>have:=gh.1 c;omega,p6 aa]
  simp[ai]
 |k+1,n+1,p,s,d,hk,h,hs=>by
  obtain ⟨a,z,-,-,e1,e2,g,b2,b3⟩:=iW F
  obtain ⟨q,ih⟩:=zT f b e k n (p+1) (s++[P++[p]]) aa aa aa (by simp only[List.length_append,List.length_singleton];omega)
  refine ⟨q,?_⟩
  unfold aS
  rw[b,zS F,sA d aa]
  unfold o5
  simp only[ai,cond_true,if_pos (show P.length<=1000000 by omega),fl (l:=P) (xs:=[p]) (by simp only[List.length_singleton];omega),fl (l:=s) (xs:=[P++[p]]) (by simp only[List.length_singleton];omega)]
  rw[cE (n:=p+1) aa,ih,sw (show p<=cR u by omega)]
  simp
theorem ER {S:List (List Int)}(j:∀P,P∈S->kS u P)(hl:(S.flatMap (dX u)).length<=1000000)(t:S.length<=1000000):nF u S=some (S.flatMap (dX u)):=by
 obtain ⟨a,z,k,-,e1,e2,v,b2,b3⟩:=iW F;have key:∀(T:List (List Int)) (i:Nat) (s:List (List Int)),(∀P,P∈T->kS u P)->s.length+(T.flatMap (dX u)).length<=1000000->bM (o8 u) i T s=some (.nx (s++T.flatMap (dX u))):=by
  intro T
  induction T with
  |nil=>intro i s _ _;simp[bM]
  |cons P T ih=>
   intro i s f hs;rw[List.flatMap_cons,List.length_append] at hs;have g:=f P av;have hlen:(dX u P).length=(cR u+1 - fq u P).toNat:=by unfold dX;rw[List.length_map,lE];show (cR u - fq u P+1).toNat=_;congr 1;omega
   have one:o8 u i P s=some (.nx (s++dX u P)):=by
    unfold o8;simp only[show bu u.az 0=some a from eB k,ai];cases c:P with
    |nil=>
     obtain ⟨q,b⟩:=zT F (uv u) (fun _ _=>rfl) (P:=[]) av (cR u+1 - dO u).toNat fu (dO u) s aa rfl (by unfold fu;omega) (by rw[hlen,c] at hs;have:fq u []=dO u:=rfl;rw[this] at hs;omega);rw[e1] at b;rw[show decide (0<((([]:List Int).length:Nat):Int))=false from rfl];simp only[cond_false,b,aG];rw[show dX u []=(cY ⟨dO u,cR u⟩).map (fun p=>[]++[p]) from rfl,e1]
    |cons x r=>
     have d:P≠[]:=by rw[c];simp
     obtain ⟨p,e⟩:∃p,P.getLast?=some p:=by
      cases l:P.getLast? with
      |none=>exact absurd (List.getLast?_eq_none_iff.1 l) d
      |some p=>exact ⟨p,rfl⟩
     have hm:p∈P:=List.mem_of_getLast? e;have hb:=g.1 p hm;have h:fq u P=p+1:=by unfold fq;rw[e]
     have w:=g.2;have hi:bu P (IntKind.i64.wrap ((P.length:Int) - 1))=some p:=by
      have:0<P.length:=List.length_pos_iff.2 d;rw[cE aa];have m:P[P.length - 1]?=some p:=by rw[<-List.getLast?_eq_getElem?];exact e
      have:=eB m
      rwa [show (((P.length - 1:Nat)):Int)=(P.length:Int) - 1 by omega] at this
     obtain ⟨q,b⟩:=zT F (uu u) (fun _ _=>rfl) (P:=P) aa (cR u+1 - (p+1)).toNat fu (p+1) s aa rfl (by unfold fu;omega) (by rw[hlen,h] at hs;omega);rw[<-c];rw[decide_eq_true (show (0:Int)<(P.length:Int) by have:0<P.length:=List.length_pos_iff.2 d;omega)];simp only[cond_true,hi];rw[cE (n:=p+1) aa];simp only[b,aG];unfold dX;rw[h]
   unfold bM;rw[one];simp only[ai];rw[ih (i+1) (s++dX u P) (fun Q o=>f Q (by simp[o])) (by rw[List.length_append];omega),List.flatMap_cons,List.append_assoc]
 unfold nF;rw[key S 0 [] j (by simpa using hl)];simp[ai,aG]
end
theorem ES {S:List (List Int)}(j:Nat):(S.take j).flatten.length<=S.flatten.length:=by
 have:S.flatten=(S.take j).flatten++(S.drop j).flatten:=by rw[<-List.flatten_append,List.take_append_drop]
 rw[this,List.length_append];omega
theorem ET {S:List (List Int)}{j:Nat}{x:List Int}(h:S[j]?=some x):(S.take (j+1)).flatten=(S.take j).flatten++x:=by
 rw[List.take_add_one,h];simp
theorem Mx {S:List (List Int)}(h:S.flatten.length<=1000):rP S=some S.flatten:=by
 obtain ⟨n,k1,d⟩:=y6 (f:=rO) (ρ:=List Int) (I:=fun j (s:Int)=>s=((S.take j).flatten.length:Int)) S 0 0 av (fun j x s c a=>by
  rw[Nat.zero_add] at a ⊢;have t:=ET c;have b:=ES (S:=S) (j+1);rw[t,List.length_append] at b;refine ⟨s+x.length,?_,by rw[a,t,List.length_append];omega⟩;unfold rO;rw[cE (n:=s+x.length) aa,decide_eq_false (show ¬s+(x.length:Int)<0 by omega)]
  rfl)
 obtain ⟨r,g,e⟩:=y6 (f:=yc) (ρ:=List Int) (I:=fun j (s:List Int)=>s=(S.take j).flatten) S 0 [] av (fun j x s c a=>by
  rw[Nat.zero_add] at a ⊢;have t:=ET c;have b:=ES (S:=S) (j+1);rw[t,List.length_append] at b;refine ⟨s++x,?_,by rw[a,t]⟩;unfold yc;rw[fl (l:=s) (xs:=x) (by rw[a];omega)]
  rfl)
 rw[Nat.zero_add,List.take_length] at d e;unfold rP uD;simp only[k1,ai,aG,d,if_pos (show (0:Int)<=(S.flatten.length:Int)/\(S.flatten.length:Int)<=1000 by omega),g,e]
theorem My {u:an}{f g:an->Option Int}(h:gf u=some 0)(a:f u=some 0)(hg:g u=some 0):eJ u [f,g]=some (u,0):=by
 unfold eJ;rw[h];simp only[ai,bne_self_eq_false,cond_false];unfold bM nE;simp only[a,ai,bne_self_eq_false,cond_false];unfold bM;simp only[hg,ai,bne_self_eq_false,cond_false];rfl
theorem EU {u:an}{k:Int}(hk:1<=k/\k<=20):fV k u=some 0:=by
 unfold fV;rw[kG,fO,sA hk.1 hk.2];rfl
theorem zU:∀l:List Int,(l.map fun p=>[p]).flatten=l
 |[]=>rfl
 |a::l=>by rw[List.map_cons,List.flatten_cons,zU l];rfl
theorem Mz {u:an}(F:Fit u)(h:gf u=some 0)(hl:u.props.length<3){k:Int}(hk:1<=k/\k<=20):
  lO u k=some (if (b6 u).isEmpty then ([],9) else ((cY ⟨dO u,cR u⟩).filter fun p=>dm u (pr u k [p]),0)):=by
 have s1:kD u=some 0:=by
  unfold kD
  rw[show ((u.props.length:Int)==3)=false by rw[beq_eq_false_iff_ne];omega]
  rfl
 unfold lO
 rw[u7 F (My h (EU hk) s1)]
 cases hs:(b6 u).isEmpty with
 |true=>rfl
 |false=>
  have aO:b6 u≠[]:=by intro c;rw[c] at hs;cases hs
  obtain ⟨a,z,-,-,e1,e2,m,b2,b3⟩:=iW F
  have hlen:(cY ⟨dO u,cR u⟩).length<=60:=by rw[lE];show (cR u - dO u+1).toNat<=60;omega
  have g:∀P,P∈[([]:List Int)]->kS u P:=fun P b=>by
   rw[List.mem_singleton] at b;subst b
   exact ⟨fun p d=>(by cases d),(by simp;omega)⟩
  have e:[([]:List Int)].flatMap (dX u)=(cY ⟨dO u,cR u⟩).map fun p=>[p]:=by
   rw[List.flatMap_cons,List.flatMap_nil,List.append_nil];rfl
  have lv:=ER F g (by rw[e,List.length_map];omega) av
  rw[e] at lv
  have i:∀P,P∈(cY ⟨dO u,cR u⟩).map (fun p=>[p])->kS u P:=fun P b=>by
   rw[List.mem_map] at b
   obtain ⟨p,d,rfl⟩:=b
   have:=sr.1 d
   exact ⟨fun q j=>by rw[List.mem_singleton.1 j];exact this,by simp;omega⟩
  have f:=EP F aO hk i (by rw[List.length_map];omega)
  rw[List.filter_map] at f
  have l:(((cY ⟨dO u,cR u⟩).filter ((fun P=>dm u (pr u k P)) ∘ fun p=>[p])).map fun p=>[p]).flatten.length<=1000:=by
   rw[zU]
   exact Nat.le_trans (List.length_filter_le ..) aa
  simp only[ai,Bool.false_eq_true,if_false,bne_self_eq_false,cond_false,lv,f,Mx l,zU]
  rfl
theorem MA (b:dI):(cY b).Pairwise (· <·):=by
 unfold cY;rw[List.pairwise_map];refine List.Pairwise.imp ?_ List.pairwise_lt_range;intro x y h;omega
def qv (f:Nat->Nat):Nat->Nat
 |0=>0
 |m+1=>qv f m+f m
theorem MB (f:Nat->Nat){m n:Nat}(h:m<=n):qv f m<=qv f n:=by
 induction h with
 |refl=>exact Nat.le_refl _
 |step _ ih=>exact Nat.le_trans ih (Nat.le_add_right _ _)
def gN:Nat->Nat->Nat
 |0=>fun _=>1
 |k+1=>qv (gN k)
theorem MC (k:Nat){m n:Nat}(h:m<=n):gN k m<=gN k n:=by
 cases k with
 |zero=>exact Nat.le_refl _
 |succ k=>exact MB _ h
theorem MD:gN 4 60<=1000000:=by decide+kernel
theorem ME:gN 3 60<=1000000:=by decide+kernel
def cN (u:an):Nat->List (List Int)
 |0=>[[]]
 |n+1=>(cN u n).flatMap (dX u)
def j7 (u:an)(P:List Int):Nat:=(cR u+1 - fq u P).toNat
theorem EV (f:Nat->Nat)(hi:Int):∀(m:Nat) (a:Int),(hi+1 - a).toNat=m->((cY ⟨a,hi⟩).map fun p=>f (hi - p).toNat).sum=qv f m
 |0,a,h=>by rw[p6 aa];rfl
 |m+1,a,h=>by
  rw[sw aa,List.map_cons,List.sum_cons,EV f hi m (a+1) aa,show (hi - a).toNat=m by omega]
  exact Nat.add_comm _ _
theorem vH (u:an)(P:List Int)(p:Int):fq u (P++[p])=p+1:=by
 unfold fq;rw[List.getLast?_append];rfl
def iD (u:an)(k:Nat)(S:List (List Int)):Nat:=(S.map fun P=>gN k (j7 u P)).sum
theorem MF (u:an)(k:Nat)(P:List Int):iD u k (dX u P)=gN (k+1) (j7 u P):=by
 unfold iD dX;rw[List.map_map,<-show qv (gN k) (j7 u P)=gN (k+1) (j7 u P) from rfl,<-EV (gN k) (cR u) (j7 u P) (fq u P) rfl];congr 1;refine List.map_congr_left fun p _=>?_;show gN k (j7 u (P++[p]))=_;unfold j7;rw[vH];congr 2;omega
theorem MG (u:an)(k:Nat)(S T:List (List Int)):iD u k (S++T)=iD u k S+iD u k T:=by
 unfold iD;rw[List.map_append,List.sum_append]
theorem EW (u:an)(k:Nat):∀S:List (List Int),iD u k (S.flatMap (dX u))=iD u (k+1) S
 |[]=>rfl
 |P::S=>by
  rw[List.flatMap_cons,MG,EW u k S,MF]
  unfold iD;rw[List.map_cons,List.sum_cons]
theorem EX (u:an):∀n k:Nat,iD u k (cN u n)=gN (k+n) (j7 u [])
 |0,k=>by unfold cN iD;simp
 |n+1,k=>by
  show iD u k ((cN u n).flatMap (dX u))=_
  rw[EW,EX u n (k+1),show k+1+n=k+(n+1) by omega]
theorem EY (u:an):∀S:List (List Int),iD u 0 S=S.length
 |[]=>rfl
 |P::S=>by
  have:=EY u S
  unfold iD at this ⊢
  rw[List.map_cons,List.sum_cons,this,List.length_cons]
  exact Nat.add_comm _ _
theorem MH (u:an)(n:Nat):(cN u n).length=gN n (j7 u []):=by
 rw[<-EY u,EX,Nat.zero_add]
theorem qw {u:an}(F:Fit u){n:Nat}(h:n<=4):(cN u n).length<=1000000:=by
 obtain ⟨a,z,-,-,e1,e2,b,b2,b3⟩:=iW F;rw[MH];have:j7 u []<=60:=by unfold j7;show (cR u+1 - dO u).toNat<=60;omega
 refine Nat.le_trans (MC n this) ?_
 match n,h with
 |0,_=>decide+kernel
 |1,_=>decide+kernel
 |2,_=>decide+kernel
 |3,_=>exact ME
 |4,_=>exact MD
theorem zV {P:List Int}{y:Int}(h:P.getLast?=some y):∃Q,P=Q++[y]:=by
 obtain ⟨Q,a⟩:=List.getLast?_eq_some_iff.1 h;exact ⟨Q,a⟩
theorem MI {u:an}{P:List Int}(c:P.Pairwise (· <·)){x:Int}(b:x∈P):x<fq u P:=by
 cases h:P.getLast? with
 |none=>rw[List.getLast?_eq_none_iff.1 h] at b;cases b
 |some y=>
  obtain ⟨Q,rfl⟩:=zV h;rw[vH];rw[List.pairwise_append] at c;rcases List.mem_append.1 b with a|a
  .have:=c.2.2 x a y av;omega
  .have:x=y:=by simpa using a
   omega
theorem EZ {u:an}{P:List Int}(a:∀p,p∈P->dO u<=p):dO u<=fq u P:=by
 cases h:P.getLast? with
 |none=>unfold fq;rw[h];exact Int.le_refl _
 |some y=>
  obtain ⟨Q,rfl⟩:=zV h;rw[vH];have:=a y av;omega
theorem MJ {u:an}{P:List Int}{p:Int}(a:∀x,x∈P->x<p)(b:dO u<=p):fq u P<=p:=by
 cases h:P.getLast? with
 |none=>unfold fq;rw[h];exact b
 |some y=>
  obtain ⟨Q,rfl⟩:=zV h;rw[vH];have:=a y av;omega
theorem oz {u:an}:∀(n:Nat) (P:List Int),P∈cN u n↔P.length=n/\P.Pairwise (· <·)/\∀p,p∈P->dO u<=p/\p<=cR u
 |0,P=>by
  show P∈[[]]↔_
  rw[List.mem_singleton]
  refine ⟨fun h=>by subst h;exact ⟨rfl,.nil,fun p h=>by cases h⟩,fun h=>List.length_eq_zero_iff.1 h.1⟩
 |n+1,P=>by
  show P∈(cN u n).flatMap (dX u)↔_
  rw[List.mem_flatMap]
  constructor
  .rintro ⟨Q,f,d⟩
   obtain ⟨a1,a2,a3⟩:=(oz n Q).1 f
   unfold dX at d
   obtain ⟨p,c,rfl⟩:=List.mem_map.1 d
   obtain ⟨e,b2⟩:=sr.1 c
   refine ⟨by simp[a1],?_,fun x b=>?_⟩
   .rw[List.pairwise_append]
    refine ⟨a2,List.pairwise_singleton _ _,fun x b y g=>?_⟩
    have:y=p:=by simpa using g
    have:=MI (u:=u) a2 b
    show x<y
    have i:fq u Q<=p:=e
    omega
   .rcases List.mem_append.1 b with a|a
    .exact a3 x a
    .have:x=p:=by simpa using a
     have:=EZ (u:=u) (P:=Q) fun p c=>(a3 p c).1
     have i:fq u Q<=p:=e
     have j:p<=cR u:=b2
     omega
  .rintro ⟨a1,a2,a3⟩
   have aO:P≠[]:=by intro h;subst h;cases a1
   obtain ⟨Q,p,rfl⟩:∃Q p,P=Q++[p]:=⟨P.dropLast,P.getLast aO,(List.dropLast_concat_getLast aO).symm⟩
   rw[List.pairwise_append] at a2
   have c:=a3 p av
   refine ⟨Q,(oz n Q).2 ⟨by simpa using a1,a2.1,fun x b=>a3 x (by simp[b])⟩,?_⟩
   unfold dX
   exact List.mem_map.2 ⟨p,sr.2 ⟨MJ (fun x b=>a2.2.2 x b p av) c.1,c.2⟩,rfl⟩
def lexB:List Int->List Int->Bool
 |[],y=>decide (0<y.length)
 |_::_,[]=>false
 |x::r,y::s=>if x=y then lexB r s else decide (x<y)
theorem E0 (x y:List Int):∀P:List Int,lexB (P++x) (P++y)=lexB x y
 |[]=>rfl
 |a::P=>by
  show (if a=a then lexB (P++x) (P++y) else _)=_
  rw[if_pos rfl];exact E0 x y P
theorem E1 (x y:List Int):∀P Q:List Int,P.length=Q.length->lexB P Q=true->lexB (P++x) (Q++y)=true
 |[],[],_,h=>by cases h
 |a::P,b::Q,hl,h=>by
  show (if a=b then lexB (P++x) (Q++y) else decide (a<b))=true
  have c:(if a=b then lexB P Q else decide (a<b))=true:=h
  split at c
  .rename_i e;rw[if_pos e];exact E1 x y P Q (by simpa using hl) c
  .rename_i e;rw[if_neg e];exact c
theorem E2:∀P Q:List Int,lexB P Q=true->lexB Q P=false
 |[],[],h=>by cases h
 |[],b::Q,_=>rfl
 |a::P,[],h=>by cases h
 |a::P,b::Q,h=>by
  have d:(if a=b then lexB P Q else decide (a<b))=true:=h
  show (if b=a then lexB Q P else decide (b<a))=false
  split at d
  .rename_i e;rw[if_pos e.symm];exact E2 P Q d
  .rename_i e;rw[if_neg (fun c=>e c.symm)]
   have:=of_decide_eq_true d
   exact decide_eq_false aa
theorem zW {u:an}:∀n:Nat,(cN u n).Pairwise fun P Q=>lexB P Q=true
 |0=>List.pairwise_singleton _ _
 |n+1=>by
  show ((cN u n).flatMap (dX u)).Pairwise _
  rw[List.pairwise_flatMap]
  refine ⟨fun P _=>?_,?_⟩
  .unfold dX
   rw[List.pairwise_map]
   refine (MA _).imp fun {p q} h=>?_
   rw[E0]
   show (if p=q then lexB [] [] else decide (p<q))=true
   rw[if_neg aa];exact decide_eq_true h
  .refine List.Pairwise.imp_of_mem (fun {P Q} c d h X a Y b=>?_) (zW n)
   unfold dX at a b
   obtain ⟨p,_,rfl⟩:=List.mem_map.1 a
   obtain ⟨q,_,rfl⟩:=List.mem_map.1 b
   exact E1 _ _ _ _ (((oz n P).1 c).1.trans ((oz n Q).1 d).1.symm) h
theorem MK {u:an}{f:an->Option Int}(h:gf u=some 0)(a:f u=some 0):eJ u [f]=some (u,0):=by
 unfold eJ;rw[h];simp only[ai,bne_self_eq_false,cond_false];unfold bM nE;simp only[a,ai,bne_self_eq_false,cond_false];rfl
def qx (u:an)(k:Int)(r:List Int×Bool×Int):Prop:=
 (∃n P,n+u.props.length<=3/\P∈cN u n/\dm u (pr u k P)=true/\(∀i,i<n->∀Q,Q∈cN u i->dm u (pr u k Q)=false)/\(∀Q,Q∈cN u n->dm u (pr u k Q)=true->Q=P\/lexB P Q=true)/\r=(P,true,0))\/
 ((∀i,i+u.props.length<=3->∀Q,Q∈cN u i->dm u (pr u k Q)=false)/\r=([],false,0))
theorem E3 {u:an}{n:Nat}(h:n+u.props.length<=3):∀P,P∈cN u n->kS u P:=fun P d=>by
 obtain ⟨a,b,c⟩:=(oz n P).1 d
 exact ⟨c,aa⟩
theorem ML {u:an}(F:Fit u)(aO:b6 u≠[]){k:Int}(hk:1<=k/\k<=20)(b:Bool):∀(j n t:Nat),n+j+u.props.length=4->j<t->(∀i,i<n->∀Q,Q∈cN u i->dm u (pr u k Q)=false)->
  ∃r,qx u k r/\ai (aS (qq u k (⟨u,(b6 u).map dV⟩,0)) t (b,0,cN u n,(n:Int))) (fun o=>aG o (fun _=>some (([]:List Int),false,0)) (fun _ _=>none) (fun r=>some r))=some r:=by
 intro j
 have x:=F.props
 have w1:IntKind.i64.wrap (IntKind.i64.wrap (3 - (u.props.length:Int))+1)=4 - (u.props.length:Int):=by
  rw[cE (n:=3 - (u.props.length:Int)) aa,cE aa];omega
 induction j with
 |zero=>
  intro n t q ht c
  obtain ⟨t,rfl⟩:∃m,t=m+1:=⟨t - 1,aa⟩
  refine ⟨([],false,0),.inr ⟨fun i hi=>c i aa,rfl⟩,?_⟩
  unfold aS qq
  rw[w1,show decide ((n:Int)<4 - (u.props.length:Int))=false from decide_eq_false aa]
  rfl
 |succ j ih=>
  intro n t q ht c
  obtain ⟨t,rfl⟩:∃m,t=m+1:=⟨t - 1,aa⟩
  have g:=EP F aO hk (E3 (u:=u) (n:=n) aa) (qw F (n:=n) aa)
  unfold aS
  rw[show qq u k (⟨u,(b6 u).map dV⟩,0) (b,0,cN u n,(n:Int))=cond (decide ((n:Int)<(IntKind.i64.wrap ((IntKind.i64.wrap (3 - (u.props.length:Int)))+1)))) (ai (ow ⟨u,(b6 u).map dV⟩ k (cN u n)) fun h=>cond (decide (0<(h.length:Int))) (ai (bu h 0) fun s=>some (.rt (s,true,0))) (ai (nF u (cN u n)) fun v=>some (.nx (b,0,v,(IntKind.i64.wrap ((n:Int)+1)))))) (some (.bk (b,0,cN u n,(n:Int)))) from rfl]
  rw[w1,show decide ((n:Int)<4 - (u.props.length:Int))=true from decide_eq_true aa,g]
  simp only[cond_true,ai]
  cases f:(cN u n).filter fun P=>dm u (pr u k P) with
  |nil=>
   rw[show decide (0<((([]:List (List Int)).length:Nat):Int))=false from rfl]
   have lv:=ER F (E3 (u:=u) (n:=n) aa) (qw F (n:=n+1) aa) (qw F (n:=n) aa)
   simp only[cond_false,lv,ai]
   rw[cE (n:=(n:Int)+1) aa]
   exact ih (n+1) t aa aa fun i hi Q d=>by
    by_cases e:i=n
    .subst e
     have:=List.filter_eq_nil_iff.1 f Q d
     simpa using this
    .exact c i aa Q d
  |cons P T=>
   rw[show decide (0<(((P::T).length:Nat):Int))=true from decide_eq_true (by rw[List.length_cons];omega)]
   have hm:P∈(cN u n).filter fun P=>dm u (pr u k P):=by rw[f];exact List.mem_cons_self
   rw[List.mem_filter] at hm
   refine ⟨(P,true,0),.inl ⟨n,P,aa,hm.1,hm.2,c,fun Q d w=>?_,rfl⟩,?_⟩
   .have l:Q∈(cN u n).filter fun P=>dm u (pr u k P):=List.mem_filter.2 ⟨d,w⟩
    have p:=(zW (u:=u) n).filter fun P=>dm u (pr u k P)
    rw[f] at l p
    rcases List.mem_cons.1 l with a|a
    .exact .inl a
    .exact .inr ((List.pairwise_cons.1 p).1 Q a)
   .simp only[cond_true,show bu (P::T) (0:Int)=some P from rfl,ai,aG]
theorem MM {u:an}(F:Fit u)(h:gf u=some 0){k:Int}(hk:1<=k/\k<=20):
  ∃r,lP u k=some r/\(b6 u=[]/\r=([],false,9)\/b6 u≠[]/\qx u k r):=by
 unfold lP
 rw[u7 F (MK h (EU hk))]
 cases hs:(b6 u).isEmpty with
 |true=>exact ⟨_,rfl,.inl ⟨List.isEmpty_iff.1 hs,rfl⟩⟩
 |false=>
  have aO:b6 u≠[]:=by intro c;rw[c] at hs;cases hs
  obtain ⟨r,a,b⟩:=ML F aO hk false (4 - u.props.length) 0 fu (by have:=F.props;omega) (by unfold fu;omega) fun i hi=>aa
  refine ⟨r,?_,.inr ⟨aO,a⟩⟩
  simp only[ai,Bool.false_eq_true,if_false,bne_self_eq_false,cond_false]
  exact b
theorem E4 {V:List Int}(h:V.Pairwise (· <·)){i j:Nat}{a b:Int}(c:i<j)(d:V[i]?=some a)(hb:V[j]?=some b):a<b:=by
 obtain ⟨e,rfl⟩:=List.getElem?_eq_some_iff.1 d;obtain ⟨f,rfl⟩:=List.getElem?_eq_some_iff.1 hb;exact List.pairwise_iff_getElem.1 h i j e f c
theorem MN {V:List Int}{i:Nat}{y:Int}(h:y∈V.take i):∃j,j<i/\V[j]?=some y:=by
 obtain ⟨j,a⟩:=List.mem_iff_getElem?.1 h;rw[List.getElem?_take] at a;split at a
 .exact ⟨j,by assumption,a⟩
 .cases a
def zX (V:List Int)(x:Int)(i:Nat)(s:List Int×Bool):Prop:=
 (s.2=false->s.1=V.take i/\∀w,w∈V.take i->w<x)/\
 (s.2=true->s.1.Pairwise (· <·)/\(∀y,y∈s.1↔y=x\/y∈V.take i)/\s.1.length<=i+1/\∃j w,j<i/\V[j]?=some w/\x<=w)
theorem MO {V u:List Int}(k:V.Pairwise (· <·))(hl:V.length<=100){n:Int}{x:Int}(t:bu u n=some x)(i:Nat)(w:Int)(s:List Int×Bool)(hw:V[i]?=some w)(m:zX V x i s):
  ∃s',nO u V n (s.1,s.2,(i:Int))=some (.nx (s'.1,s'.2,((i+1:Nat):Int)))/\zX V x (i+1) s':=by
 have hi:=(List.getElem?_eq_some_iff.1 hw).1
 have ht:V.take (i+1)=V.take i++[w]:=by rw[List.take_succ,hw];rfl
 have oa:∀y,y∈V.take i->y<w:=fun y g=>by
  obtain ⟨j,a,b⟩:=MN g
  exact E4 k a b hw
 have D:(V.take i).length=i:=by rw[List.length_take];omega
 obtain ⟨acc,pl⟩:=s
 unfold nO
 simp only[decide_eq_true (show ((i:Nat):Int)<(V.length:Int) by omega),cond_true,eB hw,t,ai,(show IntKind.i64.wrap ((i:Int)+1)=((i+1:Nat):Int) from (cE (n:=(i:Int)+1) aa).trans aa)]
 have ci:((i:Nat):Int)+1=((i+1:Nat):Int):=aa
 cases pl with
 |false=>
  obtain ⟨e,o⟩:=m.1 rfl
  replace e:acc=V.take i:=e
  subst e
  simp only[Bool.not_false,cond_true]
  by_cases c:x<=w
  .simp only[decide_eq_true c,cond_true,fl (l:=V.take i) (xs:=[x]) (by simp only[List.length_singleton];omega)]
   have p:(V.take i++[x]).Pairwise (· <·):=by
    rw[List.pairwise_append]
    exact ⟨k.sublist (List.take_sublist _ _),List.pairwise_singleton _ _,fun a f b hb=>by rw[List.mem_singleton.1 hb];exact o a f⟩
   by_cases d:w=x
   .refine ⟨(V.take i++[x],true),?_,⟨fun h=>(by cases h),fun _=>⟨p,fun y=>?_,by simp only[List.length_append,List.length_singleton];omega,i,w,aa,hw,c⟩⟩⟩
    .rw[show (w != x)=false by simp[d]];simp only[cond_false]
    .rw[ht,d];simp[or_comm]
   .refine ⟨(V.take i++[x]++[w],true),?_,⟨fun h=>(by cases h),fun _=>⟨?_,fun y=>?_,by simp only[List.length_append,List.length_singleton];omega,i,w,aa,hw,c⟩⟩⟩
    .rw[show (w != x)=true by simp[d]]
     simp only[cond_true,fl (l:=V.take i++[x]) (xs:=[w]) (by simp only[List.length_append,List.length_singleton];omega),ai]
    .rw[List.pairwise_append]
     refine ⟨p,List.pairwise_singleton _ _,fun a f b hb=>?_⟩
     rw[List.mem_singleton.1 hb]
     rcases List.mem_append.1 f with a1|a1
     .exact oa a a1
     .rw[List.mem_singleton.1 a1];show x<w;omega
    .rw[ht];simp[or_left_comm]
  .refine ⟨(V.take i++[w],false),?_,⟨fun _=>⟨ht.symm,fun y g=>?_⟩,fun h=>by cases h⟩⟩
   .rw[show (w != x)=true by simp;omega]
    simp only[decide_eq_false c,cond_false,cond_true,fl (l:=V.take i) (xs:=[w]) (by simp only[List.length_singleton];omega)]
   .rw[ht] at g
    rcases List.mem_append.1 g with a|a
    .exact o y a
    .rw[List.mem_singleton.1 a];omega
 |true=>
  obtain ⟨z,q,A,j,v,B,r,hle⟩:=m.2 rfl
  simp only[Bool.not_true,cond_false]
  have C:x<w:=by have:=E4 k B r hw;omega
  have E:acc.length<=i+1:=A
  refine ⟨(acc++[w],true),?_,⟨fun h=>(by cases h),fun _=>⟨?_,fun y=>?_,by simp only[List.length_append,List.length_singleton];omega,j,v,aa,r,hle⟩⟩⟩
  .rw[show (w != x)=true by simp;omega]
   simp only[cond_true,fl (l:=acc) (xs:=[w]) (by simp only[List.length_singleton];omega)]
  .show (acc++[w]).Pairwise _
   rw[List.pairwise_append]
   refine ⟨z,List.pairwise_singleton _ _,fun a f b hb=>?_⟩
   rw[List.mem_singleton.1 hb]
   rcases (q a).1 f with a1|a1
   .rw[a1];exact C
   .exact oa a a1
  .rw[ht,List.mem_append,q];simp[or_assoc]
theorem MP {l:List Int}(i:Nat)(x:Int)(V:List Int)(c:l[i]?=some x)(o:V.Pairwise (· <·)/\(∀y,y∈V↔y∈l.take i)/\V.length<=i)(hi:i<=99):
  ∃d,nP l (V,(i:Int))=some (.nx (d,((i+1:Nat):Int)))/\d.Pairwise (· <·)/\(∀y,y∈d↔y∈l.take (i+1))/\d.length<=i+1:=by
 have u:=(List.getElem?_eq_some_iff.1 c).1
 obtain ⟨a1,a2,a3⟩:=o
 have ht:l.take (i+1)=l.take i++[x]:=by rw[List.take_succ,c];rfl
 obtain ⟨s,k1,g⟩:=mD (f:=nO l V (i:Int)) (zX V x) (fun s j=>(s.1,s.2,j)) V aa (fun j w s hw p=>MO a1 aa (eB c) j w s hw p)
  (fun s=>by unfold nO;rw[show decide ((V.length:Int)<(V.length:Int))=false from decide_eq_false aa];rfl) (([]:List Int),false) ⟨fun _=>⟨rfl,fun w hw=>(by cases hw)⟩,fun h=>by cases h⟩
 unfold nP
 simp only[decide_eq_true (show ((i:Nat):Int)<(l.length:Int) by omega),cond_true,ai,k1,aG,eB c,(show IntKind.i64.wrap ((i:Int)+1)=((i+1:Nat):Int) from (cE (n:=(i:Int)+1) aa).trans aa)]
 obtain ⟨acc,pl⟩:=s
 cases pl with
 |false=>
  obtain ⟨e,k⟩:=g.1 rfl
  rw[List.take_length] at e k
  replace e:acc=V:=e
  subst e
  refine ⟨acc++[x],?_,?_,fun y=>?_,by simp only[List.length_append,List.length_singleton];omega⟩
  .simp only[Bool.not_false,cond_true,fl (l:=acc) (xs:=[x]) (by simp only[List.length_singleton];omega)]
  .rw[List.pairwise_append]
   exact ⟨a1,List.pairwise_singleton _ _,fun a q b hb=>by rw[List.mem_singleton.1 hb];exact k a q⟩
  .rw[ht,List.mem_append,List.mem_append,a2]
 |true=>
  obtain ⟨r,m,t,-⟩:=g.2 rfl
  rw[List.take_length] at m
  refine ⟨acc,?_,r,fun y=>?_,by have v:acc.length<=V.length+1:=t;omega⟩
  .simp only[Bool.not_true,cond_false]
  .rw[show y∈acc↔y=x\/y∈V from m y,a2,ht,List.mem_append,List.mem_singleton,or_comm]
theorem MQ {l:List Int}(hl:l.length<=100):∃r,rV l=some r/\r.Pairwise (· <·)/\(∀y,y∈r↔y∈l)/\r.length<=l.length:=by
 obtain ⟨V,k1,a⟩:=mD (f:=nP l) (fun i (V:List Int)=>V.Pairwise (· <·)/\(∀y,y∈V↔y∈l.take i)/\V.length<=i) (fun V j=>(V,j)) l aa (fun i x V b c=>MP i x V b c (by have:=(List.getElem?_eq_some_iff.1 b).1;omega))
  (fun s=>by unfold nP;rw[show decide ((l.length:Int)<(l.length:Int))=false from decide_eq_false aa];rfl) ([]:List Int) ⟨.nil,fun y=>av,av⟩
 rw[List.take_length] at a;refine ⟨V,?_,a⟩;unfold rV;simp only[k1,ai,aG]
theorem MR {S:List (List Int)}{i:Nat}(hl:S.length<=100)(d:∀h,h∈S->∃n,h[i]?=some n):aS (n7 S (i:Int)) fu (([]:List Int),0)=some (.nx (S.map (fun h=>h[i]?.getD 0),(S.length:Int))):=by
 obtain ⟨s,k1,a⟩:=mD (f:=n7 S (i:Int)) (ρ:=List bh) (fun k (s:List Int)=>s=(S.take k).map fun h=>h[i]?.getD 0) (fun s k=>(s,k)) S aa (fun k h s hk b=>by
  have e:=(List.getElem?_eq_some_iff.1 hk).1;obtain ⟨n,c⟩:=d h (List.mem_of_getElem? hk);refine ⟨s++[n],?_,by rw[b,List.take_add_one,hk];simp[c]⟩;have hs:s.length<=k:=by rw[b];simp;omega
  unfold n7;rw[show decide (((s,(k:Int)):List Int×Int).2<(S.length:Int))=true by simp;omega];simp only[cond_true,eB hk,eB c,ai,fl (l:=s) (xs:=[n]) (by simp only[List.length_singleton];omega)];rw[cE (n:=(k:Int)+1) aa]
  rfl) (fun s=>by
  unfold n7
  simp) ([]:List Int) av
 rw[List.take_length] at a;rw[k1,a]
section
variable {u:an}(F:Fit u)
include F
theorem MS {i:Nat}{e:cA}(he:u.aK[i]?=some e){V:List Int}(c:V.length<=100){L:List bh}(hL:L.length<=1000):aS (r6 u (i:Int) V) fu (L,0)=some (.nx (L++V.map (fun n=>⟨e.back,n⟩),(V.length:Int))):=by
 obtain ⟨s,k1,a⟩:=mD (f:=r6 u (i:Int) V) (ρ:=List bh) (fun k (s:List bh)=>s=L++(V.take k).map fun n=>(⟨e.back,n⟩:bh)) (fun s k=>(s,k)) V aa (fun k n s hk b=>by
  have d:=(List.getElem?_eq_some_iff.1 hk).1;refine ⟨s++[⟨e.back,n⟩],?_,by rw[b,List.take_add_one,hk];simp⟩;have hs:s.length<=1000+k:=by rw[b];simp;omega
  unfold r6 lA;rw[show decide (((s,(k:Int)):List bh×Int).2<(V.length:Int))=true by simp;omega];simp only[cond_true,eB hk,eB he,ai,fl (l:=s) (xs:=[(⟨e.back,n⟩:bh)]) (by simp only[List.length_singleton];omega)];rw[cE (n:=(k:Int)+1) aa]
  rfl) (fun s=>by
  unfold r6
  simp) L av
 rw[List.take_length] at a;rw[k1,a]
theorem E5 (aO:b6 u≠[]):∃L,mw u (b6 u)=some L/\L.length<=1000/\∀s,s∈L↔∃i e n,u.aK[i]?=some e/\n∈dQ u i e/\s=⟨e.back,n⟩:=by
 have hl:=(su F).2;have v:=F.aK
 obtain ⟨L,k1,w,p⟩:=mD (f:=pU u (b6 u)) (ρ:=List bh) (fun k (L:List bh)=>L.length<=100*k/\∀s,s∈L↔∃i e n,i<k/\u.aK[i]?=some e/\n∈dQ u i e/\s=⟨e.back,n⟩) (fun L k=>(L,k)) u.aK aa (fun i e L he r=>by
  have hi:=(List.getElem?_eq_some_iff.1 he).1;have m:∀h,h∈b6 u->∃n,h[i]?=some n:=fun h hm=>by
   obtain ⟨n,g,-⟩:=(vc hm).1.u6 i e he;exact ⟨n,g⟩
  obtain ⟨V,v1,-,v2,t⟩:=MQ (l:=(b6 u).map fun h=>h[i]?.getD 0) (by rw[List.length_map];omega);rw[List.length_map] at t;have o:∀n,n∈V↔n∈dQ u i e:=fun n=>by
   rw[v2,y5 F aO he,List.mem_map];constructor
   .rintro ⟨h,hm,rfl⟩;obtain ⟨n,g⟩:=m h hm;exact ⟨h,hm,by rw[g];rfl⟩
   .rintro ⟨h,hm,g⟩;exact ⟨h,hm,by rw[g];rfl⟩
  refine ⟨L++V.map fun n=>⟨e.back,n⟩,?_,by rw[List.length_append,List.length_map];omega,fun s=>?_⟩
  .unfold pU;rw[show decide (((L,(i:Int)):List bh×Int).2<(u.aK.length:Int))=true by simp;omega];simp only[cond_true,ai,MR (show (b6 u).length<=100 by omega) m,aG,v1,MS F he (V:=V) aa (L:=L) aa];rw[cE (n:=(i:Int)+1) aa];rfl
  .rw[List.mem_append,r.2,List.mem_map];constructor
   .rintro (⟨j,x,n,a,b,c,d⟩|⟨n,a,b⟩)
    .exact ⟨j,x,n,aa,b,c,d⟩
    .exact ⟨i,e,n,aa,he,(o n).1 a,b.symm⟩
   .rintro ⟨j,x,n,a,b,c,d⟩;by_cases q:j=i
    .subst q;rw[he] at b;cases b;exact .inr ⟨n,(o n).2 c,d.symm⟩
    .exact .inl ⟨j,x,n,aa,b,c,d⟩) (fun s=>by
  unfold pU
  simp) ([]:List bh) ⟨av,fun s=>⟨fun h=>(by cases h),fun ⟨i,_,_,h,_⟩=>aa⟩⟩
 refine ⟨L,?_,aa,fun s=>(p s).trans ⟨fun ⟨i,e,n,_,a⟩=>⟨i,e,n,a⟩,fun ⟨i,e,n,a,b⟩=>⟨i,e,n,(List.getElem?_eq_some_iff.1 a).1,a,b⟩⟩⟩;unfold mw;simp only[k1,ai,aG]
end
theorem E6 {α:Type}{g:α->Bool}:∀(l:List α) (i:Nat),iA (fun _ x=>if g x then some false else none) i l=if l.any g then some false else none
 |[],i=>rfl
 |x::l,i=>by
  unfold iA
  rw[E6 l]
  cases h:g x<;>simp[h]
theorem MT {o:an}{L:List bh}(hl:L.length<=1000)(h:∀s,s∈L->mo o s=some (fH o s)):iQ o L=some (!L.any (fH o)):=by
 have key:=yQ (f:=pQ o L) (t:=fun _ s=>if fH o s then some false else none) L hl (fun i s b hs=>by
  have a:=(List.getElem?_eq_some_iff.1 hs).1;unfold pQ;rw[show decide (((b,(i:Int)):Bool×Int).2<(L.length:Int))=true by simp;omega];simp only[cond_true,eB hs,h s (List.mem_of_getElem? hs),ai];cases fH o s with
  |true=>rfl
  |false=>
   simp only[cond_false,lC,Bool.false_eq_true,if_false];rw[cE (n:=(i:Int)+1) aa]
   rfl) (fun s=>by
  unfold pQ
  simp) false
 unfold iQ;rw[key,E6];cases L.any (fH o)<;>rfl
section
variable {u:an}(F:Fit u)
include F
theorem zY {k:Int}(hk:1<=k/\k<=20){L:List bh}(hl:L.length<=1000)(hL:∀s,s∈L↔∃i e n,u.aK[i]?=some e/\n∈dQ u i e/\s=⟨e.back,n⟩){P:List Int}(c:kS u P):iQ (pr u k P) L=some (dm u (pr u k P)):=by
 have G:=EM F hk c.1 c.2
 rw[MT hl fun s hs=>by
  obtain ⟨i,e,n,he,b,rfl⟩:=(hL s).1 hs
  exact (u5 G (mL F he b)).2]
 refine congrArg some ?_;rw[Bool.eq_iff_iff,EL,Bool.not_eq_true',List.any_eq_false];constructor
 .intro a i e n he b;have:=a _ ((hL _).2 ⟨i,e,n,he,b,rfl⟩);simpa using this
 .intro a s hs;obtain ⟨i,e,n,he,b,rfl⟩:=(hL s).1 hs;simp[a i e n he b]
end
def jw (k:Int):Bool:=b7 k 1 20
theorem kT (k:Int)(u:an):fV k u=some (cond (jw k) 0 1)/\pG k=some (cond (jw k) 0 1):=by
 constructor
 .unfold fV;rw[show fU k 1 20=some (jw k) from by unfold fU jw b7;cases decide (1<=k)<;>cases decide (k<=20)<;>rfl];cases jw k<;>rfl
 .unfold pG;rw[fO];show ai (some (jw k)) _=_;cases jw k<;>rfl
theorem zZ {u:an}{c:Int}(a:List (an->Option Int))(h:gf u=some c)(b:c≠0):eJ u a=some (ob,c):=by
 unfold eJ;rw[h];simp only[ai,show (c != 0)=true by simpa using b,cond_true];rfl
theorem E7 {u:an}{c:Int}{f:an->Option Int}(a:List (an->Option Int))(h:gf u=some 0)(b:f u=some c)(d:c≠0):eJ u (f::a)=some (ob,c):=by
 unfold eJ;rw[h];simp only[ai,bne_self_eq_false,cond_false];unfold bM nE;simp only[b,ai,show (c != 0)=true by simpa using d,cond_true];rfl
theorem MU {u:an}{c:Int}{f g:an->Option Int}(h:gf u=some 0)(a:f u=some 0)(hg:g u=some c)(b:c≠0):eJ u [f,g]=some (ob,c):=by
 unfold eJ;rw[h];simp only[ai,bne_self_eq_false,cond_false];unfold bM nE;simp only[a,ai,bne_self_eq_false,cond_false];unfold bM;simp only[hg,ai,show (c != 0)=true by simpa using b,cond_true];rfl
section
variable {u:an}(F:Fit u)
include F
theorem z0:∃z,bu u.az (IntKind.i64.wrap ((u.az.length:Int) - 1))=some z/\z.aU=cR u:=by
 obtain ⟨a,z,c,b,e1,e2,d,b2,b3⟩:=iW F;have hl:=F.az;refine ⟨z,?_,e2.symm⟩;rw[cE aa];have:=eB b
 rwa [show (((u.az.length - 1:Nat)):Int)=(u.az.length:Int) - 1 by omega] at this
theorem z1 {k:Int}(hk:1<=k/\k<=20)(d:u.props.length<3){L:List bh}(hl:L.length<=1000)(hL:∀s,s∈L↔∃i e n,u.aK[i]?=some e/\n∈dQ u i e/\s=⟨e.back,n⟩):∀(j n:Nat) (p:Int) (s:List Int),dO u<=p->(cR u+1 - p).toNat=j->j<n->s.length+j<=1000->
  ∃q,aS (n8 u k L) n (s,p)=some (.nx (s++(cY ⟨p,cR u⟩).filter (fun p=>dm u (pr u k [p])),q))
 |0,n+1,p,s,f,g,_,_=>by
  obtain ⟨z,b,c⟩:=z0 F
  refine ⟨p,?_⟩
  unfold aS n8
  rw[b,p6 aa]
  simp only[ai,c,decide_eq_false (show ¬p<=cR u by omega),cond_false]
  simp
 |j+1,n+1,p,s,f,g,r,hs=>by
  obtain ⟨a,t,-,-,e1,e2,v,b2,b3⟩:=iW F
  obtain ⟨z,b,c⟩:=z0 F
  have h:kS u [p]:=⟨fun q m=>by rw[List.mem_singleton.1 m];omega,by simp;omega⟩
  have o:=zY F hk hl hL h
  have st:n8 u k L (s,p)=cond (dm u (pr u k [p])) (ai (cx s [p]) fun x=>some (.nx (x,p+1))) (some (.nx (s,p+1))):=by
   unfold n8
   rw[b]
   simp only[ai,c,decide_eq_true (show p<=cR u by omega),cond_true,EN (u:=u) k [p] (by simp;omega),o]
   rw[cE (n:=p+1) aa]
  unfold aS
  rw[st,sw (show p<=cR u by omega),List.filter_cons]
  cases w:dm u (pr u k [p]) with
  |true=>
   obtain ⟨q,ih⟩:=z1 hk d hl hL j n (p+1) (s++[p]) aa aa aa (by simp only[List.length_append,List.length_singleton];omega)
   refine ⟨q,?_⟩
   simp only[cond_true,fl (l:=s) (xs:=[p]) (by simp only[List.length_singleton];omega),ai,ih,if_true]
   simp
  |false=>
   obtain ⟨q,ih⟩:=z1 hk d hl hL j n (p+1) s aa aa aa aa
   refine ⟨q,?_⟩
   simp only[cond_false,ai,ih,Bool.false_eq_true,if_false]
theorem MV (h:iP u=some 0)(b:u.props.length<3){k:Int}(hk:1<=k/\k<=20):
  jV u k=some (if (b6 u).isEmpty then ([],9) else ((cY ⟨dO u,cR u⟩).filter fun p=>dm u (pr u k [p]),0)):=by
 unfold jV
 rw[(kT k u).2,show jw k=true from sA hk.1 hk.2]
 simp only[ai,cond_true,beq_self_eq_true,decide_eq_false (show ¬(3:Int)<=(u.props.length:Int) by omega),cond_false,u9 F h]
 cases hs:(b6 u).isEmpty with
 |true=>rfl
 |false=>
  have aO:b6 u≠[]:=by intro c;rw[c] at hs;cases hs
  obtain ⟨L,d,e,f⟩:=E5 F aO
  obtain ⟨a,i,g,-,e1,e2,j,b2,b3⟩:=iW F
  obtain ⟨q,k1⟩:=z1 F hk b e f (cR u+1 - dO u).toNat fu (dO u) [] aa rfl (by unfold fu;omega) (by simp;omega)
  simp only[Bool.false_eq_true,if_false,bne_self_eq_false,cond_false,d,show bu u.az 0=some a from eB g,<-e1,k1,aG,List.nil_append]
end
theorem MW {u:an}(L:sx u)(k:Int):∃r,lO u k=some r/\jV u k=some r/\r.1.length<=1000:=by
 obtain ⟨c,d,f⟩:=bars L;have bad:∀c:Int,c≠0->eJ u [fV k,kD]=some (ob,c)->jV u k=some ([],c)->∃r,lO u k=some r/\jV u k=some r/\r.1.length<=1000:=fun c b h i=>by
  refine ⟨([],c),?_,i,av⟩;unfold lO;rw[yV h b];simp only[ai,show (c != 0)=true by simpa using b,cond_true]
 by_cases b:c=0
 .subst b;have F:=yC u L.e d;cases ht:jw k with
  |false=>
   refine bad 1 aD (E7 _ d (by rw[(kT k u).1,ht];rfl) aD) ?_;unfold jV;rw[(kT k u).2,ht];simp only[ai,cond_false,show ((1:Int)==0)=false from rfl,yX f (show (1:Int)≠0 by decide),show ((1:Int) != 0)=true from rfl,cond_true]
  |true=>
   have hk:=gh.1 ht;by_cases g:u.props.length<3
   .refine ⟨_,Mz F d g hk,MV F f g hk,?_⟩;obtain ⟨a,l,-,-,e1,e2,m,b2,b3⟩:=iW F;cases (b6 u).isEmpty with
    |true=>simp
    |false=>
     refine Nat.le_trans (List.length_filter_le ..) ?_;rw[lE];show (cR u - dO u+1).toNat<=1000;omega
   .have n:=F.props;have j:u.props.length=3:=aa;refine bad 2 aD (MU d (by rw[(kT k u).1,ht];rfl) (by unfold kD;rw[j];rfl) aD) ?_;unfold jV;rw[(kT k u).2,ht];simp only[ai,cond_true,beq_self_eq_true,decide_eq_true (show (3:Int)<=(u.props.length:Int) by omega),yX f (show (2:Int)≠0 by decide),show ((2:Int) != 0)=true from rfl]
 .refine bad c b (zZ _ d b) ?_;unfold jV;rw[(kT k u).2];cases jw k<;>cases decide (3<=(u.props.length:Int))<;>simp only[ai,cond_true,cond_false,beq_self_eq_true,show ((1:Int)==0)=false from rfl,yW f b,show (c != 0)=true by simpa using b]
theorem MX {u:an}{k:Int}{r b:List Int×Bool×Int}(h:qx u k r)(e:qx u k b):r=b:=by
 rcases h with ⟨n,P,a1,a2,a3,a4,a5,rfl⟩|⟨a1,rfl⟩<;>rcases e with ⟨m,Q,a,b2,b3,b4,b5,rfl⟩|⟨a,rfl⟩
 .have f:n=m:=by
   rcases Nat.lt_trichotomy n m with c|c|c
   .rw[b4 n c P a2] at a3;cases a3
   .exact c
   .rw[a4 m c Q b2] at b3;cases b3
  subst f;rcases a5 Q b2 b3 with c|c
  .rw[c]
  .rcases b5 P a2 a3 with d|d
   .rw[d]
   .rw[E2 _ _ c] at d;cases d
 .rw[a n a1 P a2] at a3;cases a3
 .rw[a1 m a Q b2] at b3;cases b3
 .rfl
abbrev mM:=Bool×Int×List (List Int)×Int
abbrev z2:=List Int×Bool×Int
section
variable {u:an}(F:Fit u){k:Int}(hk:1<=k/\k<=20){L:List bh}(hl:L.length<=1000)(hL:∀ s, s ∈ L ↔ ∃ i e n, u.aK[i]? = some e/\n ∈ dQ u i e/\s = ⟨e.back, n⟩)
def z3 (u:an)(k:Int)(T:List (List Int))(s:List (List Int))(b:Bool)(m:Int)(o:Fl mM z2):Prop:=
 (T.filter (fun P=>dm u (pr u k P))=[]/\∃q,o= .nx (b,m,s++T,q))\/∃P R,T.filter (fun P=>dm u (pr u k P))=P::R/\o= .rt (P,true,0)
include F hk hl hL
theorem E8 (f:mM->Option (Fl mM z2)){P:List Int}(e:∀b m s p,s.length<=100000000->f (b,m,s,p)=cond (decide (p<=cR u)) (ai (iQ (pr u k (P++[p])) L) fun x=>cond x (some (.rt (P++[p],true,0))) (ai (cx s [P++[p]]) fun w=>some (.nx (b,m,w,IntKind.i64.wrap (p+1))))) (some (.bk (b,m,s,p))))
  (g:(∀p,p∈P->dO u<=p/\p<=cR u)/\u.props.length+P.length<3) (b:Bool) (m:Int):∀(j n:Nat) (p:Int) (s:List (List Int)),dO u<=p->(cR u+1 - p).toNat=j->j<n->s.length+j<=1000000->
  ∃o,aS f n (b,m,s,p)=some o/\z3 u k ((cY ⟨p,cR u⟩).map fun p=>P++[p]) s b m o
 |0,n+1,p,s,i,r,_,_=>by
  refine ⟨.nx (b,m,s,p),?_,.inl ⟨?_,p,?_⟩⟩
  .unfold aS
   rw[e b m s p aa,decide_eq_false (show ¬p<=cR u by omega)]
   rfl
  .rw[p6 aa];rfl
  .rw[p6 aa];simp
 |j+1,n+1,p,s,i,r,z,hs=>by
  obtain ⟨a,A,-,-,e1,e2,B,b2,b3⟩:=iW F
  have t:kS u (P++[p]):=⟨fun q v=>by
   rcases List.mem_append.1 v with c|c
   .exact g.1 q c
   .rw[List.mem_singleton.1 c];omega,by have:=g.2;simp;omega⟩
  have h:=zY F hk hl hL t
  rw[sw (show p<=cR u by omega),List.map_cons]
  cases d:dm u (pr u k (P++[p])) with
  |true=>
   refine ⟨.rt (P++[p],true,0),?_,.inr ⟨P++[p],_,by rw[List.filter_cons,if_pos d],rfl⟩⟩
   unfold aS
   rw[e b m s p aa,decide_eq_true (show p<=cR u by omega)]
   simp only[cond_true,h,d,ai]
  |false=>
   obtain ⟨o,k1,y⟩:=E8 f e g b m j n (p+1) (s++[P++[p]]) aa aa aa (by simp only[List.length_append,List.length_singleton];omega)
   refine ⟨o,?_,?_⟩
   .unfold aS
    rw[e b m s p aa,decide_eq_true (show p<=cR u by omega)]
    simp only[cond_true,cond_false,h,d,ai,fl (l:=s) (xs:=[P++[p]]) (by simp only[List.length_singleton];omega)]
    rw[cE (n:=p+1) aa]
    exact k1
   .rcases y with ⟨c1,q,c2⟩|⟨Q,R,c1,c2⟩
    .exact .inl ⟨by rw[List.filter_cons,if_neg (by rw[d];simp)];exact c1,q,by rw[c2];simp⟩
    .exact .inr ⟨Q,R,by rw[List.filter_cons,if_neg (by rw[d];simp)];exact c1,c2⟩
theorem E9 {n:Nat}(B:n+u.props.length<3){a z:cj}(j:a.aU=dO u)(e:z.aU=cR u)(b:Bool)(m:Int):∀(T:List (List Int)) (i t:Nat) (s:List (List Int)),(cN u n).drop i=T->T.length<t->s.length+(T.flatMap (dX u)).length<=1000000->
  ∃o,aS (jW u k L a z (cN u n) (n:Int)) t (b,m,s,(i:Int))=some o/\z3 u k (T.flatMap (dX u)) s b m o
 |[],i,t+1,s,hd,_,_=>by
  have hi:(cN u n).length<=i:=List.drop_eq_nil_iff.1 hd
  refine ⟨.nx (b,m,s,(i:Int)),?_,.inl ⟨rfl,i,av⟩⟩
  unfold aS jW
  rw[show decide (((b,m,s,(i:Int)):mM).2.2.2<((cN u n).length:Int))=false from decide_eq_false (by simp;omega)]
  rfl
 |P::T,i,t+1,s,hd,ht,hs=>by
  have hi:(cN u n)[i]?=some P:=by
   have:=congrArg List.head? hd
   rwa [List.head?_drop] at this
  have C:(cN u n).drop (i+1)=T:=by
   have:=congrArg List.tail hd
   rwa [List.tail_drop] at this
  have U:=(List.getElem?_eq_some_iff.1 hi).1
  have hle:=qw F (n:=n) aa
  obtain ⟨g,V,h⟩:=(oz n P).1 (List.mem_of_getElem? hi)
  obtain ⟨x,y,-,-,e1,e2,W,b2,b3⟩:=iW F
  rw[List.flatMap_cons,List.length_append] at hs
  have hlen:(dX u P).length=(cR u+1 - fq u P).toNat:=by unfold dX;rw[List.length_map,lE];show (cR u - fq u P+1).toNat=_;congr 1;omega
  have D:=EZ (u:=u) (P:=P) fun p c=>(h p c).1
  have l:cx ([]:List Int) P=some P:=by rw[fl (by simp;omega)];rfl
  have gen:∀(f:mM->Option (Fl mM z2)),(∀b m s p,s.length<=100000000->f (b,m,s,p)=cond (decide (p<=cR u)) (ai (iQ (pr u k (P++[p])) L) fun x=>cond x (some (.rt (P++[p],true,0))) (ai (cx s [P++[p]]) fun w=>some (.nx (b,m,w,IntKind.i64.wrap (p+1))))) (some (.bk (b,m,s,p))))->
    jW u k L a z (cN u n) (n:Int) (b,m,s,(i:Int))=(ai (aS f fu (b,m,s,fq u P)) fun o=>aG o (fun st=>some (.nx (st.1,st.2.1,st.2.2.1,(IntKind.i64.wrap ((i:Int)+1))))) (fun _ _=>none) (fun r=>some (.rt r)))->
    ∃o,aS (jW u k L a z (cN u n) (n:Int)) (t+1) (b,m,s,(i:Int))=some o/\z3 u k ((P::T).flatMap (dX u)) s b m o:=fun f E G=>by
   obtain ⟨o,k1,H⟩:=E8 F hk hl hL f E ⟨h,aa⟩ b m (dX u P).length fu (fq u P) s D hlen.symm (by unfold fu;omega) aa
   rw[List.flatMap_cons]
   unfold aS
   rw[G,k1]
   rcases H with ⟨c1,q,c2⟩|⟨Q,R,c1,c2⟩
   .subst c2
    obtain ⟨o,I,J⟩:=E9 B j e b m T (i+1) t (s++dX u P) C (by simp only[List.length_cons] at ht;omega) (by rw[List.length_append];omega)
    refine ⟨o,?_,?_⟩
    .simp only[ai,aG]
     rw[cE (n:=(i:Int)+1) aa]
     exact I
    .have d:(dX u P).filter (fun P=>dm u (pr u k P))=[]:=c1
     rcases J with ⟨d1,K,d2⟩|⟨Q,R,d1,d2⟩
     .exact .inl ⟨by rw[List.filter_append,d,d1];rfl,K,by rw[d2];simp⟩
     .exact .inr ⟨Q,R,by rw[List.filter_append,d,d1];rfl,d2⟩
   .subst c2
    have d:(dX u P).filter (fun P=>dm u (pr u k P))=Q::R:=c1
    exact ⟨.rt (Q,true,0),rfl,.inr ⟨Q,_,by rw[List.filter_append,d];rfl,rfl⟩⟩
  have step:∀(s:List (List Int)) (p:Int),cx P [p]=some (P++[p]):=fun s p=>fl (by simp only[List.length_singleton];omega)
  have v:∀p,jU u (P++[p]) k=some (pr u k (P++[p])):=fun p=>EN k _ (by simp;omega)
  have A:decide (((b,m,s,(i:Int)):mM).2.2.2<((cN u n).length:Int))=true:=decide_eq_true (by simp;omega)
  cases n with
  |zero=>
   obtain rfl:P=[]:=List.length_eq_zero_iff.1 g
   refine gen (r8 u k L z (cN u 0) (i:Int)) (fun b m s p hs=>?_) ?_
   .unfold r8
    simp only[e,eB hi,ai,l,step s p,v]
   .unfold jW
    rw[A,show decide (0<(((0:Nat)):Int))=false from rfl]
    simp only[cond_true,cond_false,j]
    rfl
  |succ n=>
   obtain ⟨p,c⟩:∃p,P.getLast?=some p:=by
    cases M:P.getLast? with
    |none=>rw[List.getLast?_eq_none_iff.1 M] at g;simp at g
    |some p=>exact ⟨p,rfl⟩
   have hb:=h p (List.mem_of_getLast? c)
   have N:fq u P=p+1:=by unfold fq;rw[c]
   have O:bu P (IntKind.i64.wrap (((n+1:Nat):Int) - 1))=some p:=by
    rw[cE aa]
    have S:P[P.length - 1]?=some p:=by rw[<-List.getLast?_eq_getElem?];exact c
    have:=eB S
    rwa [show (((P.length - 1:Nat)):Int)=((n+1:Nat):Int) - 1 by omega] at this
   refine gen (r7 u k L z P) (fun b m s p hs=>?_) ?_
   .unfold r7
    simp only[e,ai,l,step s p,v]
   .unfold jW
    rw[A,show decide (0<(((n+1:Nat)):Int))=true from decide_eq_true aa]
    simp only[cond_true,eB hi,ai,O]
    rw[cE (n:=p+1) aa,N]
theorem MY {a z:cj}(l:a.aU=dO u)(p:z.aU=cR u)(b:Bool)(m:Int):∀(j n t:Nat),n+j+u.props.length=3->j<t->(∀i,i<=n->∀Q,Q∈cN u i->dm u (pr u k Q)=false)->
  ∃r,qx u k r/\ai (aS (pV u k L a z) t (b,m,cN u n,(n:Int))) (fun o=>aG o (fun _=>some (([]:List Int),false,0)) (fun _ _=>none) (fun r=>some r))=some r:=by
 intro j
 have x:=F.props
 have w1:IntKind.i64.wrap (3 - (u.props.length:Int))=3 - (u.props.length:Int):=cE aa
 induction j with
 |zero=>
  intro n t s ht c
  obtain ⟨t,rfl⟩:∃m,t=m+1:=⟨t - 1,aa⟩
  refine ⟨([],false,0),.inr ⟨fun i hi=>c i aa,rfl⟩,?_⟩
  unfold aS pV
  rw[w1,show decide (((b,m,cN u n,(n:Int)):mM).2.2.2<3 - (u.props.length:Int))=false from decide_eq_false (by simp;omega)]
  rfl
 |succ j ih=>
  intro n t s ht c
  obtain ⟨t,rfl⟩:∃m,t=m+1:=⟨t - 1,aa⟩
  obtain ⟨o,k1,v⟩:=E9 F hk hl hL (n:=n) aa l p b m (cN u n) 0 fu [] rfl (by have:=qw F (n:=n) aa;unfold fu;omega) (by have:=qw F (n:=n+1) aa;rw[show cN u (n+1)=(cN u n).flatMap (dX u) from rfl] at this;simpa using this)
  unfold aS
  rw[show pV u k L a z (b,m,cN u n,(n:Int))=cond (decide ((n:Int)<(IntKind.i64.wrap (3 - (u.props.length:Int))))) (ai (aS (jW u k L a z (cN u n) (n:Int)) fu (b,m,([]:List (List Int)),0)) fun o=>aG o (fun f=>some (.nx (f.1,f.2.1,f.2.2.1,(IntKind.i64.wrap ((n:Int)+1))))) (fun _ _=>none) (fun r=>some (.rt r))) (some (.bk (b,m,cN u n,(n:Int)))) from rfl]
  rw[w1,show decide ((n:Int)<3 - (u.props.length:Int))=true from decide_eq_true aa]
  simp only[cond_true]
  rw[show aS (jW u k L a z (cN u n) (n:Int)) fu (b,m,([]:List (List Int)),0)=some o from k1]
  rcases v with ⟨c1,q,c2⟩|⟨P,T,c1,c2⟩
  .subst c2
   simp only[ai,aG,List.nil_append]
   rw[cE (n:=(n:Int)+1) aa]
   exact ih (n+1) t aa aa fun i hi Q d=>by
    by_cases e:i=n+1
    .subst e
     have:=List.filter_eq_nil_iff.1 c1 Q d
     simpa using this
    .exact c i aa Q d
  .subst c2
   have hm:P∈(cN u (n+1)).filter fun P=>dm u (pr u k P):=by rw[show (cN u (n+1)).filter (fun P=>dm u (pr u k P))=P::T from c1];exact List.mem_cons_self
   rw[List.mem_filter] at hm
   refine ⟨(P,true,0),.inl ⟨n+1,P,aa,hm.1,hm.2,fun i hi=>c i aa,fun Q d w=>?_,rfl⟩,rfl⟩
   have g:Q∈(cN u (n+1)).filter fun P=>dm u (pr u k P):=List.mem_filter.2 ⟨d,w⟩
   have h:=(zW (u:=u) (n+1)).filter fun P=>dm u (pr u k P)
   rw[show (cN u (n+1)).filter (fun P=>dm u (pr u k P))=P::T from c1] at g h
   rcases List.mem_cons.1 g with a|a
   .exact .inl a
   .exact .inr ((List.pairwise_cons.1 h).1 Q a)
end
theorem z4 (u:an)(k:Int):pr u k []=u:=by
 show wp u (u.props++[])=u;rw[List.append_nil];rfl
theorem MZ {u:an}(F:Fit u)(h:iP u=some 0){k:Int}(hk:1<=k/\k<=20):
  ∃r,kF u k=some r/\(b6 u=[]/\r=([],false,9)\/b6 u≠[]/\qx u k r):=by
 unfold kF
 rw[(kT k u).2,show jw k=true from sA hk.1 hk.2]
 simp only[ai,cond_true,u9 F h]
 cases hs:(b6 u).isEmpty with
 |true=>exact ⟨_,rfl,.inl ⟨List.isEmpty_iff.1 hs,rfl⟩⟩
 |false=>
  have aO:b6 u≠[]:=by intro c;rw[c] at hs;cases hs
  obtain ⟨L,j,d,e⟩:=E5 F aO
  obtain ⟨a,s,l,-,e1,e2,t,b2,b3⟩:=iW F
  obtain ⟨z,m,n⟩:=z0 F
  have f:=zY F hk d e (P:=[]) ⟨fun p o=>(by cases o),by have:=F.props;simp;omega⟩
  rw[z4] at f
  simp only[Bool.false_eq_true,if_false,bne_self_eq_false,cond_false,j,f]
  cases g:dm u u with
  |true=>
   refine ⟨([],true,0),rfl,.inr ⟨aO,.inl ⟨0,[],by have:=F.props;omega,by simp[cN],by rw[z4];exact g,fun i hi=>aa,fun Q b _=>.inl ?_,rfl⟩⟩⟩
   simpa [cN] using b
  |false=>
   obtain ⟨r,k1,q⟩:=MY F hk d e e1.symm n false 0 (3 - u.props.length) 0 fu (by have:=F.props;omega) (by unfold fu;omega) fun i hi Q b=>by
    obtain rfl:i=0:=aa
    have:Q=[]:=by simpa [cN] using b
    rw[this,z4];exact g
   refine ⟨r,?_,.inr ⟨aO,k1⟩⟩
   simp only[cond_false,show bu u.az 0=some a from eB l,m]
   exact q
theorem M0 {u:an}(L:sx u)(k:Int):∃r,lP u k=some r/\kF u k=some r/\r.1.length<=1000:=by
 obtain ⟨c,g,h⟩:=bars L;have bad:∀c:Int,c≠0->eJ u [fV k]=some (ob,c)->kF u k=some ([],false,c)->∃r,lP u k=some r/\kF u k=some r/\r.1.length<=1000:=fun c f i j=>by
  refine ⟨([],false,c),?_,j,av⟩;unfold lP;rw[yV i f];simp only[ai,show (c != 0)=true by simpa using f,cond_true]
 by_cases f:c=0
 .subst f;have F:=yC u L.e g;cases ht:jw k with
  |false=>
   refine bad 1 aD (E7 _ g (by rw[(kT k u).1,ht];rfl) aD) ?_;unfold kF;rw[(kT k u).2,ht];simp only[ai,cond_false,yX h (show (1:Int)≠0 by decide),show ((1:Int) != 0)=true from rfl,cond_true]
  |true=>
   have hk:=gh.1 ht;obtain ⟨r,a1,a2⟩:=MM F g hk;obtain ⟨l,m,b2⟩:=MZ F h hk;have e:r=l:=by
    rcases a2 with ⟨c,rfl⟩|⟨c,a⟩<;>rcases b2 with ⟨d,rfl⟩|⟨d,b⟩
    .rfl
    .exact absurd c d
    .exact absurd d c
    .exact MX a b
   subst e;refine ⟨r,a1,m,?_⟩;rcases a2 with ⟨c,rfl⟩|⟨c,⟨n,P,o,p2,-,-,-,rfl⟩|⟨-,rfl⟩⟩
   .simp
   .have:=((oz n P).1 p2).1;show P.length<=1000;omega
   .simp
 .refine bad c f (zZ _ g f) ?_;unfold kF;rw[(kT k u).2];simp only[ai,yW h f,show (c != 0)=true by simpa using f,cond_true]
theorem Fa:∀(l:List au) (i:Nat) (a:au),(∀x,x∈a::l->0<x.den)->foldI (fun _ y st=>fQ st y) i l a∈a::l/\∀y,y∈a::l->bY y (foldI (fun _ y st=>fQ st y) i l a)=false
 |[],i,a,h=>⟨List.mem_singleton.2 rfl,fun y d=>by rw[List.mem_singleton.1 d];exact gE _⟩
 |b::l,i,a,h=>by
  have n:=h a av
  have hb:=h b av
  unfold foldI
  have hm:fQ a b=a\/fQ a b=b:=by unfold fQ;cases bY b a<;>simp
  have hd:0<(fQ a b).den:=by rcases hm with e|e<;>rw[e]<;>assumption
  obtain ⟨g,j⟩:=Fa l (i+1) (fQ a b) fun x f=>by
   rcases List.mem_cons.1 f with rfl|f
   .exact hd
   .exact h x (by simp[f])
  have k:0<(foldI (fun _ y st=>fQ st y) (i+1) l (fQ a b)).den:=by
   rcases List.mem_cons.1 g with e|e
   .rw[e];exact hd
   .exact h _ (by simp[e])
  refine ⟨?_,fun y d=>?_⟩
  .rcases List.mem_cons.1 g with e|e
   .rw[e];rcases hm with e|e<;>rw[e]<;>simp
   .simp[e]
  .have m:=j _ (List.mem_cons_self ..)
   rcases List.mem_cons.1 d with rfl|d
   .refine pY n hd k ?_ m
    unfold fQ
    cases c:bY b y
    .exact gE _
    .exact yL c
   rcases List.mem_cons.1 d with rfl|d
   .refine pY hb hd k ?_ m
    unfold fQ
    cases c:bY y a
    .exact c
    .exact gE _
   .exact j y (by simp[d])
theorem Fb:∀(l:List au) (i:Nat) (a:au),(∀x,x∈a::l->0<x.den)->foldI (fun _ y st=>cP st y) i l a∈a::l/\∀y,y∈a::l->bY (foldI (fun _ y st=>cP st y) i l a) y=false
 |[],i,a,h=>⟨List.mem_singleton.2 rfl,fun y d=>by rw[List.mem_singleton.1 d];exact gE _⟩
 |b::l,i,a,h=>by
  have n:=h a av
  have hb:=h b av
  unfold foldI
  have hm:cP a b=a\/cP a b=b:=by unfold cP;cases bY a b<;>simp
  have hd:0<(cP a b).den:=by rcases hm with e|e<;>rw[e]<;>assumption
  obtain ⟨g,j⟩:=Fb l (i+1) (cP a b) fun x f=>by
   rcases List.mem_cons.1 f with rfl|f
   .exact hd
   .exact h x (by simp[f])
  have k:0<(foldI (fun _ y st=>cP st y) (i+1) l (cP a b)).den:=by
   rcases List.mem_cons.1 g with e|e
   .rw[e];exact hd
   .exact h _ (by simp[e])
  refine ⟨?_,fun y d=>?_⟩
  .rcases List.mem_cons.1 g with e|e
   .rw[e];rcases hm with e|e<;>rw[e]<;>simp
   .simp[e]
  .have m:=j _ (List.mem_cons_self ..)
   rcases List.mem_cons.1 d with rfl|d
   .refine pY k hd n m ?_
    unfold cP
    cases c:bY y b
    .exact gE _
    .exact yL c
   rcases List.mem_cons.1 d with rfl|d
   .refine pY k hd hb m ?_
    unfold cP
    cases c:bY a y
    .exact c
    .exact gE _
   .exact j y (by simp[d])
def iE (a b:au):au:=bO (a.num*b.den+b.num*a.den) (a.den*b.den).toNat
theorem Fc {a b:au}{A B C D:Nat}(c:Sm a A B)(hb:Sm b C D):Sm (iE a b) (A*D+C*B) (B*D)/\Lw (iE a b):=by
 have d:Sm (⟨-b.num,b.den⟩:au) C D:=⟨by have:=hb.num;show (-b.num).natAbs<=C;omega,hb.den⟩
 have:=zQ c d;have e:hH a ⟨-b.num,b.den⟩=iE a b:=by
  unfold hH iE;simp only[Int.neg_mul];rw[Int.sub_neg]
 rw[e] at this;exact this
def qy (i:Nat)(x:bH)(st:bH):bH:=cond (bY x.high st.high) x st
theorem Fe:∀(l:List bH) (i:Nat) (c:bH),(foldI qy i l c).high=foldI (fun _ (x:bH) st=>fQ st x.high) i l c.high
 |[],_,_=>rfl
 |x::l,i,c=>by
  unfold foldI
  rw[Fe l (i+1)]
  congr 1
  unfold qy fQ
  cases bY x.high c.high<;>rfl
theorem M1 {c:bH}{l:List bH}(h:∀x,x∈c::l->SR x.high):∃m,jP g5 c l=some m/\m.high=foldI (fun _ y st=>cP st y) 0 (l.map (·.high)) c.high:=by
 have hg:=iT (f:=lq g5) (ρ:=bH) (g:=gC) (I:=fun _ c=>SR c.high) l 0 c (h c (List.mem_cons_self ..)) (fun j x st d a=>by
  have b:SR x.high:=h x (List.mem_cons_of_mem _ (List.mem_of_getElem? d));refine ⟨?_,?_⟩
  .unfold lq g5 gC;simp only[(kK a b).2,ai];cases bY st.high x.high<;>rfl
  .unfold gC;cases bY st.high x.high
   .exact a
   .exact b)
 refine ⟨foldI gC 0 l c,?_,by rw[yO,vb]⟩;unfold jP;rw[hg.1];rfl
theorem M3 {c:bH}{l:List bH}(h:∀x,x∈c::l->SR x.high):∃m,jP ni c l=some m/\m.high=foldI (fun _ y st=>fQ st y) 0 (l.map (·.high)) c.high:=by
 have hg:=iT (f:=lq ni) (ρ:=bH) (g:=qy) (I:=fun _ c=>SR c.high) l 0 c (h c (List.mem_cons_self ..)) (fun j x st d a=>by
  have b:SR x.high:=h x (List.mem_cons_of_mem _ (List.mem_of_getElem? d));refine ⟨?_,?_⟩
  .unfold lq ni g5 qy;simp only[(kK b a).2,ai];cases bY x.high st.high<;>rfl
  .unfold qy;cases bY x.high st.high
   .exact a
   .exact b)
 refine ⟨foldI qy 0 l c,?_,by rw[Fe,vb]⟩;unfold jP;rw[hg.1];rfl
theorem M4 {α:Type}(c:α)(l:List α):ja (c::l) 1 (((c::l).length:Nat):Int)=some l:=by
 unfold ja;rw[if_pos (by simp only[List.length_cons];omega)];simp
def gq (u:an)(s:bh):bH:=(ku u s).getD ⟨⟨0,⟨0,0⟩⟩,0,⟨0,0⟩⟩
section
variable {u:an}(F:Fit u)
include F
theorem vI {s:bh}(hs:Bd s):ku u s=some (gq u s)/\(gq u s).high=(de u s).2/\SR (gq u s).high:=by
 obtain ⟨c,a,b,d,-⟩:=uW F hs;have e:gq u s=c:=by unfold gq;rw[a];rfl
 rw[e];exact ⟨a,by rw[<-b],d⟩
theorem M5 {l:List bh}(hl:l.length<=9)(hb:∀s,s∈l->Bd s)(K:dn)(hK:K.book=u):bM (pn (K,0)) 0 l []=some (.nx (l.map (gq u))):=by
 have key:=iT (f:=pn (K,0)) (ρ:=au×au×Bool×Int) (g:=fun _ s (r:List bH)=>r++(fun s=>[gq u s]) s) (I:=fun j r=>r.length<=j/\j<=9) l 0 [] ⟨av,aa⟩
  (fun j s r hs a=>by
   have b:j<l.length:=(List.getElem?_eq_some_iff.1 hs).1;refine ⟨?_,?_⟩
   .unfold pn;simp only[hK,ai,(vI F (hb s (List.mem_of_getElem? hs))).1];unfold cx;rw[if_pos (by simp;omega)]
   .simp only[List.length_append,List.length_singleton];omega)
 rw[key.1,p5,List.nil_append,ve]
theorem M6 (h:gf u=some 0):((b6 u).isEmpty=true/\jS u=some (⟨0,0⟩,⟨0,0⟩,false,9))\/
  ((b6 u).isEmpty=false/\∃M m,(∃i e n,u.aK[i]?=some e/\n∈dQ u i e/\M=(de u ⟨e.back,n⟩).2)/\(∃i e n,u.aK[i]?=some e/\n∈dQ u i e/\m=(de u ⟨e.back,n⟩).2)/\
   (∀i e n,u.aK[i]?=some e->n∈dQ u i e->bY M (de u ⟨e.back,n⟩).2=false/\bY (de u ⟨e.back,n⟩).2 m=false)/\
   jS u=some (if bY (iE m u.bp) (hH M u.bp) then (⟨0,0⟩,⟨0,0⟩,false,0) else (hH M u.bp,iE m u.bp,true,0))):=by
 cases hs:(b6 u).isEmpty with
 |true=>
  left
  refine ⟨rfl,?_⟩
  unfold jS
  rw[u7 F (Dh h),hs]
  rfl
 |false=>
  right
  have aO:b6 u≠[]:=by intro c;rw[c] at hs;cases hs
  obtain ⟨L,k1,D,E,k⟩:=EK F aO
  have g:∀s,s∈L->Bd s:=fun s hs=>by
   obtain ⟨i,e,n,he,o,rfl⟩:=(k s).1 hs
   exact mL F he o
  have G:=M5 F E g ⟨u,(b6 u).map dV⟩ rfl
  obtain ⟨d,r,rfl⟩:∃a l,L=a::l:=by
   cases L with
   |nil=>exact absurd rfl D
   |cons a l=>exact ⟨a,l,rfl⟩
  have t:∀x,x∈gq u d::r.map (gq u)->SR x.high:=fun x j=>by
   rw[<-List.map_cons,List.mem_map] at j
   obtain ⟨s,hs,rfl⟩:=j
   exact (vI F (g s hs)).2.2
  obtain ⟨a,a1,a2⟩:=M1 t
  obtain ⟨b,H,b2⟩:=M3 t
  have I:(r.map (gq u)).map (·.high)=r.map fun s=>(de u s).2:=by
   rw[List.map_map]
   exact List.map_congr_left fun s hs=>(vI F (g s (List.mem_cons_of_mem _ hs))).2.1
  have e0:(gq u d).high=(de u d).2:=(vI F (g d (List.mem_cons_self ..))).2.1
  rw[I,e0] at a2 b2
  have hd:∀x,x∈(de u d).2::r.map (fun s=>(de u s).2)->0<x.den:=fun x j=>by
   rw[<-List.map_cons (f:=fun s=>(de u s).2),List.mem_map] at j
   obtain ⟨s,hs,rfl⟩:=j
   exact (yJ F (g s hs)).den.1
  obtain ⟨p,p2⟩:=Fb _ 0 _ hd
  obtain ⟨q,v⟩:=Fa _ 0 _ hd
  rw[<-a2] at p p2
  rw[<-b2] at q v
  rw[<-List.map_cons (f:=fun s=>(de u s).2),List.mem_map] at p q
  obtain ⟨sp,w,z⟩:=p
  obtain ⟨sq,A,eq⟩:=q
  obtain ⟨i1,e1,n1,J,K,N⟩:=(k sp).1 w
  obtain ⟨i2,e2,n2,O,P,Q⟩:=(k sq).1 A
  refine ⟨rfl,a.high,b.high,⟨i1,e1,n1,J,K,by rw[<-z,N]⟩,⟨i2,e2,n2,O,P,by rw[<-eq,Q]⟩,fun i e n he o=>?_,?_⟩
  .have hm:(de u ⟨e.back,n⟩).2∈(de u d).2::r.map (fun s=>(de u s).2):=by
    rw[<-List.map_cons (f:=fun s=>(de u s).2)]
    exact List.mem_map.2 ⟨_,(k _).2 ⟨i,e,n,he,o,rfl⟩,rfl⟩
   exact ⟨p2 _ hm,v _ hm⟩
  .have f:=EH F (g d (List.mem_cons_self ..))
   have B:Sm a.high 10000 100:=by rw[<-z];exact (qt F (g sp w)).1
   have C:Sm b.high 10000 100:=by rw[<-eq];exact (qt F (g sq A)).1
   have v1:jN a.high u.bp=some (hH a.high u.bp):=yF B f aD aD aD
   have v2:jM b.high u.bp=some (iE b.high u.bp):=si C f aD aD
   have R:ff (iE b.high u.bp) (hH a.high u.bp)=some (bY (iE b.high u.bp) (hH a.high u.bp)):=(sk (Fc C f).1 (zQ B f).1 aD aD).2
   unfold jS
   rw[u7 F (Dh h),hs]
   simp only[ai,Bool.false_eq_true,if_false,bne_self_eq_false,cond_false,k1,G,aG]
   have y:ja ((d::r).map (gq u)) 1 ((((d::r).map (gq u)).length:Nat):Int)=some (r.map (gq u)):=M4 (gq u d) (r.map (gq u))
   simp only[show bu ((d::r).map (gq u)) 0=some (gq u d) from rfl,y,a1,H,v1,v2,R]
   cases bY (iE b.high u.bp) (hH a.high u.bp)<;>rfl
end
theorem Ff {a b:au}(g:Lw a)(hb:Lw b)(i:0<a.den)(j:0<b.den)(e:bY a b=false)(f:bY b a=false):a=b:=by
 obtain ⟨n,d,hd,e1⟩:=g;obtain ⟨m,c,h,e2⟩:=hb;have i1:bO a.num a.den.toNat=a:=by rw[e1];exact C5 n d hd
 have i2:bO b.num b.den.toNat=b:=by rw[e2];exact C5 m c h
 rw[<-i1,<-i2];unfold bY at e f;simp only[decide_eq_false_iff_not] at e f;refine yG aa aa ?_;rw[show ((a.den.toNat:Nat):Int)=a.den by omega,show ((b.den.toNat:Nat):Int)=b.den by omega];omega
structure PI (X:au->Prop)(M m:au):Prop where
 hi:X M
 lo:X m
 all:∀x,X x->bY M x=false/\bY x m=false
theorem PI.one (x:au):PI (fun y=>y=x) x x:=⟨rfl,rfl,fun y h=>by subst h;exact ⟨gE _,gE _⟩⟩
theorem PI.congr {X Y:au->Prop}{M m:au}(h:∀x,X x↔Y x)(p:PI X M m):PI Y M m:=⟨(h _).1 p.hi,(h _).1 p.lo,fun x a=>p.all x ((h x).2 a)⟩
theorem PI.step {X:au->Prop}{M m x:au}(b:∀y,X y->0<y.den)(d:0<x.den)(p:PI X M m):PI (fun y=>X y\/y=x) (cP M x) (fQ m x):=by
 have e:=b _ p.hi;have f:=b _ p.lo;refine ⟨?_,?_,fun y a=>⟨?_,?_⟩⟩
 .unfold cP;cases bY M x;exact .inl p.hi;exact .inr rfl
 .unfold fQ;cases bY x m;exact .inl p.lo;exact .inr rfl
 .unfold cP;cases h:bY M x with
  |false=>rcases a with a|rfl;exact (p.all y a).1;exact h
  |true=>rcases a with a|rfl;exact yK (b y a) e d (p.all y a).1 h;exact gE _
 .unfold fQ;cases h:bY x m with
  |false=>rcases a with a|rfl;exact (p.all y a).2;exact h
  |true=>
   rcases a with a|rfl
   .show bY y x=false;cases c:bY y x with
    |false=>rfl
    |true=>have:=CV (b y a) d f c h;rw[(p.all y a).2] at this;cases this
   .exact gE _
theorem PI.uniq {X:au->Prop}{M m b c:au}(a:∀y,X y->Lw y/\0<y.den)(p:PI X M m)(q:PI X b c):M=b/\m=c:=
 ⟨Ff (a _ p.hi).1 (a _ q.hi).1 (a _ p.hi).2 (a _ q.hi).2 (p.all _ q.hi).1 (q.all _ p.hi).1,Ff (a _ p.lo).1 (a _ q.lo).1 (a _ p.lo).2 (a _ q.lo).2 (q.all _ p.lo).2 (p.all _ q.lo).2⟩
def eV (u:an)(k:Nat)(h:List Int):au:=(de u (bT u k (h[k]?.getD 0))).2
def sK (u:an)(i k:Nat)(x:au):Prop:=∃j l h,(j<i\/j=i/\l<k)/\l<u.aK.length/\(b6 u)[j]?=some h/\x=eV u l h
def VI (u:an)(i k:Nat)(s:au×au):Prop:=(i=0/\k=0)\/PI (sK u i k) s.1 s.2
section
variable {u:an}(F:Fit u)
include F
theorem vJ {k:Nat}(hk:k<u.aK.length){h:List Int}(hm:h∈b6 u):∃e n,u.aK[k]?=some e/\h[k]?=some n/\Bd ⟨e.back,n⟩/\bT u k n=⟨e.back,n⟩/\eV u k h=(de u ⟨e.back,n⟩).2:=by
 have he:u.aK[k]?=some u.aK[k]:=List.getElem?_eq_getElem hk;obtain ⟨e,n,e1,e2,a,b⟩:=yS (vc hm).1 (i:=(k:Int)) aa aa F;rw[Int.toNat_natCast] at e1 e2 a;exact ⟨e,n,e1,e2,b,a,by unfold eV;rw[e2];show (de u (bT u k n)).2=_;rw[a]⟩
theorem Fg {k:Nat}(hk:k<u.aK.length){h:List Int}(hm:h∈b6 u):Lw (eV u k h)/\SR (eV u k h):=by
 obtain ⟨e,n,-,-,hb,-,q⟩:=vJ F hk hm;rw[q];exact ⟨(qt F hb).2,yJ F hb⟩
theorem z5 {i k:Nat}{x:au}(h:sK u i k x):Lw x/\SR x:=by
 obtain ⟨j,l,h,-,a,b,rfl⟩:=h;exact Fg F a (List.mem_of_getElem? b)
theorem Fh {i k:Nat}{h:List Int}(hi:(b6 u)[i]?=some h)(hk:k<u.aK.length)(x:au):(sK u i k x\/x=eV u k h)↔sK u i (k+1) x:=by
 constructor
 .rintro (⟨j,l,g,a,b,c,d⟩|rfl)
  .exact ⟨j,l,g,aa,b,c,d⟩
  .exact ⟨i,k,h,aa,hk,hi,rfl⟩
 .rintro ⟨j,l,g,a,b,c,d⟩;by_cases q:j=i/\l=k
  .obtain ⟨rfl,rfl⟩:=q;rw[hi] at c;cases c;exact .inr d
  .exact .inl ⟨j,l,g,aa,b,c,d⟩
theorem M7 {i:Nat}{h:List Int}(hi:(b6 u)[i]?=some h)(z:i<1000){s:au×au}(hs:VI u i 0 s):
  ∃s':au×au,aS (n5 u (b6 u,0) (i:Int)) fu (0,s.1,s.2)=some (.nx ((u.aK.length:Int),s'.1,s'.2))/\VI u (i+1) 0 s':=by
 have A:=F.aK
 have hm:=List.mem_of_getElem? hi
 obtain ⟨s',k1,p⟩:=mD (f:=n5 u (b6 u,0) (i:Int)) (ρ:=au×au×Bool×Int) (fun k (s:au×au)=>VI u i k s) (fun s k=>(k,s.1,s.2)) u.aK aa (fun k e s he m=>by
  have hk:=(List.getElem?_eq_some_iff.1 he).1
  obtain ⟨B,n,e1,e2,hb,C,q⟩:=vJ F hk hm
  rw[he] at e1;cases e1
  obtain ⟨c,-,-,-,ce⟩:=uW F hb
  have o:SR (eV u k h):=(Fg F hk hm).2
  unfold n5 lA
  rw[show decide ((((k:Int),s.1,s.2):Int×au×au).1<(u.aK.length:Int))=true by simp;omega]
  simp only[cond_true,eB hi,eB e2,eB he,ai,ce,<-q]
  have w1:IntKind.i64.wrap ((k:Int)+1)=((k+1:Nat):Int):=by rw[cE aa];rfl
  have gen:PI (sK u i k) s.1 s.2->SR s.1->SR s.2->ai (gQ (eV u k h) s.2) (fun r=>cond (r) (ai (fh s.1 (eV u k h)) fun t=>(some (.nx (IntKind.i64.wrap ((k:Int)+1),t,eV u k h)):Option (Fl (Int×au×au) (au×au×Bool×Int)))) (ai (fh s.1 (eV u k h)) fun v=>some (.nx (IntKind.i64.wrap ((k:Int)+1),v,s.2))))=some (.nx (((k+1:Nat):Int),(cP s.1 (eV u k h)),fQ s.2 (eV u k h))):=fun _ s1 s2=>by
   rw[(kK o s2).1,sn s1 o,w1]
   unfold fQ
   cases bY (eV u k h) s.2<;>rfl
  rcases m with ⟨rfl,rfl⟩|m
  .refine ⟨(eV u 0 h,eV u 0 h),?_,.inr ((PI.one (eV u 0 h)).congr fun x=>?_)⟩
   .simp only[(kK o o).1,sn o o,ai,gE,cond_false,cond_true,w1,show ((((0:Nat)):Int)==0)=true from rfl]
    unfold cP
    rw[gE]
    rfl
   .rw[<-Fh F hi hk]
    refine ⟨.inr,fun a=>a.elim (fun ⟨j,l,g,a,_⟩=>aa) id⟩
  .have s1:=(z5 F m.hi).2
   have s2:=(z5 F m.lo).2
   have g:=gen m s1 s2
   refine ⟨(cP s.1 (eV u k h),fQ s.2 (eV u k h)),?_,.inr ((PI.step (fun y w=>(z5 F w).2.den.1) o.den.1 m).congr fun x=>Fh F hi hk x)⟩
   cases c1:((i:Int)==0) with
   |false=>simp only[cond_false];exact g
   |true=>
    have c2:((k:Int)==0)=false:=by
     obtain ⟨j,l,g,a,_⟩:=m.hi
     rw[beq_eq_false_iff_ne]
     have:i=0:=by simpa using c1
     omega
    simp only[cond_true,c2,cond_false]
    exact g) (fun s=>by
  unfold n5
  rw[show decide ((((u.aK.length:Int),s.1,s.2):Int×au×au).1<(u.aK.length:Int))=false by simp]
  rfl) s hs
 refine ⟨s',k1,?_⟩
 rcases p with ⟨_,b⟩|p
 .omega
 .refine .inr (p.congr fun x=>⟨fun ⟨j,l,g,a,b,c,d⟩=>⟨j,l,g,aa,b,c,d⟩,fun ⟨j,l,g,a,b,c,d⟩=>⟨j,l,g,aa,b,c,d⟩⟩)
theorem M8 (aO:b6 u≠[]):∃s:au×au,aS (n6 u (b6 u,0)) fu (0,⟨0,0⟩,⟨0,0⟩)=some (.nx (((b6 u).length:Int),s.1,s.2))/\PI (fun y=>∃i e n,u.aK[i]?=some e/\n∈dQ u i e/\y=(de u ⟨e.back,n⟩).2) s.1 s.2:=by
 have hl:=(su F).2
 obtain ⟨s,k1,c⟩:=mD (f:=n6 u (b6 u,0)) (ρ:=au×au×Bool×Int) (fun i (s:au×au)=>VI u i 0 s) (fun s i=>(i,s.1,s.2)) (b6 u) aa (fun i h s hi o=>by
  have v:=(List.getElem?_eq_some_iff.1 hi).1;obtain ⟨s',k1,c⟩:=M7 F hi aa o;refine ⟨s',?_,c⟩;unfold n6;rw[show decide ((((i:Int),s.1,s.2):Int×au×au).1<((((b6 u,(0:Int)):List (List Int)×Int).1).length:Int))=true by simp;omega];simp only[cond_true,k1,ai,aG];rw[cE (n:=(i:Int)+1) aa]
  rfl) (fun s=>by
  unfold n6;rw[show decide (((((b6 u).length:Int),s.1,s.2):Int×au×au).1<((((b6 u,(0:Int)):List (List Int)×Int).1).length:Int))=false by simp]
  rfl) (⟨0,0⟩,⟨0,0⟩) (.inl ⟨rfl,rfl⟩)
 refine ⟨s,k1,?_⟩;have w:0<(b6 u).length:=List.length_pos_iff.2 aO;rcases c with ⟨a,_⟩|c
 .omega
 .refine c.congr fun x=>⟨?_,?_⟩
  .rintro ⟨j,l,h,_,a,b,rfl⟩;obtain ⟨e,n,e1,e2,z,A,p⟩:=vJ F a (List.mem_of_getElem? b);exact ⟨l,e,n,e1,(y5 F aO e1).2 ⟨h,List.mem_of_getElem? b,e2⟩,p⟩
  .rintro ⟨l,e,n,e1,q,rfl⟩;obtain ⟨h,hm,r⟩:=(y5 F aO e1).1 q;obtain ⟨j,d⟩:=List.mem_iff_getElem?.1 hm;have g:=(List.getElem?_eq_some_iff.1 e1).1;obtain ⟨B,C,k,m,D,E,t⟩:=vJ F g hm;rw[e1] at k;cases k;rw[r] at m;cases m;exact ⟨j,l,h,.inl (List.getElem?_eq_some_iff.1 d).1,g,d,t.symm⟩
theorem M9 {a b:au}{A B C D:Nat}(c:Sm a A B)(hb:Sm b C D)(h:A*D+C*B<=900000000000000000)(hd:B*D<=800000000000000000):
  iw (IntKind.i64.wrap ((IntKind.i64.wrap (a.num*b.den))+(IntKind.i64.wrap (b.num*a.den)))) (IntKind.i64.wrap (a.den*b.den))=some (iE a b):=by
 have d:=dZ c.num (show b.den.natAbs<=D by have:=hb.den;omega)
 have f:=dZ hb.num (show a.den.natAbs<=B by have:=c.den;omega)
 have g:=dZ (show a.den.natAbs<=B by have:=c.den;omega) (show b.den.natAbs<=D by have:=hb.den;omega)
 have i:0<a.den*b.den:=Int.mul_pos c.den.1 hb.den.1
 rw[eo (n:=a.num*b.den) aa,eo (n:=b.num*a.den) aa,eo (n:=a.den*b.den) aa,eo aa]
 have e:a.den*b.den=(((a.den*b.den).toNat:Nat):Int):=aa
 have:=pW (a.num*b.den+b.num*a.den) (a.den*b.den).toNat aa aa aa
 rw[<-e] at this
 exact this
theorem Na (h:gf u=some 0)(b:iP u=some 0):∃r,jS u=some r/\mq u=some r:=by
 rcases M6 F h with ⟨hs,v⟩|⟨hs,M,m,⟨i1,e1,n1,a1,a2,rfl⟩,⟨i2,e2,n2,d,b2,rfl⟩,k,v⟩
 .refine ⟨_,v,?_⟩;unfold mq;rw[u9 F b,hs];rfl
 .refine ⟨_,v,?_⟩;have aO:b6 u≠[]:=by intro c;rw[c] at hs;cases hs
  obtain ⟨s,k1,l⟩:=M8 F aO;have o:PI (fun y=>∃i e n,u.aK[i]?=some e/\n∈dQ u i e/\y=(de u ⟨e.back,n⟩).2) (de u ⟨e1.back,n1⟩).2 (de u ⟨e2.back,n2⟩).2:=⟨⟨_,_,_,a1,a2,rfl⟩,⟨_,_,_,d,b2,rfl⟩,fun x p=>by obtain ⟨i,e,n,he,a,rfl⟩:=p;exact k i e n he a⟩
  obtain ⟨d1,d2⟩:=PI.uniq (fun y ⟨i,e,n,he,a,q⟩=>by rw[q];exact ⟨(qt F (s:=⟨e.back,n⟩) (mL F he a)).2,(yJ F (s:=⟨e.back,n⟩) (mL F he a)).den.1⟩) o l;have f:=EH F (s:=⟨e1.back,n1⟩) (mL F a1 a2);have g:=(qt F (s:=⟨e1.back,n1⟩) (mL F a1 a2)).1;have j:=(qt F (s:=⟨e2.back,n2⟩) (mL F d b2)).1;unfold mq;rw[u9 F b,hs];simp only[ai,Bool.false_eq_true,if_false,bne_self_eq_false,cond_false,k1,aG,<-d1,<-d2];rw[show jT (de u ⟨e1.back,n1⟩).2 u.bp=some (hH (de u ⟨e1.back,n1⟩).2 u.bp) from CF g f aD aD,M9 F j f aD aD];simp only[ai];rw[show gQ (iE (de u ⟨e2.back,n2⟩).2 u.bp) (hH (de u ⟨e1.back,n1⟩).2 u.bp)=some (bY (iE (de u ⟨e2.back,n2⟩).2 u.bp) (hH (de u ⟨e1.back,n1⟩).2 u.bp)) from (sk (Fc j f).1 (zQ g f).1 aD aD).1];simp only[ai];cases bY (iE (de u ⟨e2.back,n2⟩).2 u.bp) (hH (de u ⟨e1.back,n1⟩).2 u.bp)<;>rfl
end
theorem Nb {u:an}(L:sx u):∃r,jS u=some r/\mq u=some r:=by
 obtain ⟨c,b,d⟩:=bars L;by_cases a:c=0
 .subst a;exact Na (yC u L.e b) b d
 .refine ⟨(⟨0,0⟩,⟨0,0⟩,false,c),?_,?_⟩
  .unfold jS;rw[yV (zZ _ b a) a];simp only[ai,show (c != 0)=true by simpa using a,cond_true]
  .unfold mq;rw[yW d a];simp only[ai,show (c != 0)=true by simpa using a,cond_true]
theorem alike {α:Type}(l:List α)(hl:l.length<=1000){f:Bool×Int->Option (Fl (Bool×Int) Bool)}(h:∀(i:Nat) x s,l[i]?=some x->i<l.length->f (s,(i:Int))=some (.nx (s,IntKind.i64.wrap ((i:Int)+1))))(b:∀s,f (s,(l.length:Int))=some (.bk (s,(l.length:Int))))(s:Bool):
  aS f fu (s,0)=some (.nx (s,(l.length:Int))):=by
 have:=yQ (t:=fun _ _=>(none:Option Bool)) l hl (f:=f) (fun i x s a=>by
  have c:=(List.getElem?_eq_some_iff.1 a).1
  rw[h i x s a c,cE aa]
  rfl) b s
 rw[EG] at this
 exact this
theorem Fi (l:List Int)(hl:l.length<=1000):nB l l=some true:=by
 unfold nB;rw[show ((l.length:Int) != (l.length:Int))=false by simp];simp only[cond_false]
 rw[alike l hl (fun i x s a b=>by
  unfold rz;rw[show decide ((s,(i:Int)).2<(l.length:Int))=true by simp;omega]
  simp only[cond_true,eB a,ai,bne_self_eq_false,cond_false]) (fun s=>by
  unfold rz;rw[show decide ((s,(l.length:Int)).2<(l.length:Int))=false by simp]
  rfl)]
 rfl
theorem Nc (u:an):∃b,nL u=some b:=by
 unfold nL;cases decide (20<(u.az.length:Int))<;>cases decide (20<(u.props.length:Int))<;>cases decide (20<(u.aK.length:Int))<;>exact ⟨_,rfl⟩
theorem Nf (u:an)(k:Int):vF u k=some true:=by
 unfold vF;obtain ⟨b,hb⟩:=Nc u;rw[hb];cases b with
 |true=>simp only[ai,cond_true,zP]
 |false=>
  have L:=Mn hb;obtain ⟨a,a1,a2⟩:=Nb L;obtain ⟨c,c1,c2,c3⟩:=MW L k;obtain ⟨d,d1,d2,d3⟩:=M0 L k;simp only[ai,cond_false,a1,a2,c1,c2,d1,d2,Fi c.1 c3,Fi d.1 d3,bne_self_eq_false,beq_self_eq_true,Bool.and_self,Bool.not_true,cond_true,zP]
end Go.Proofs.YtbpddfapodiemaaGreatDoor
end

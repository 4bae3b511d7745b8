/- A part of the proof of a row and its tied card: QN5. -/
import Derived.Test.YtpgcmoanfifglaaGreatDoorQN4
set_option linter.all false
section
namespace Go.Proofs.YtpgcmoanfifglaaGreatDoor
open Go Go.Sep Go.Proofs
set_option maxRecDepth 100000
set_option maxHeartbeats 4000000
def dx {α:Type}(t:Nat->α->Option Int):Nat->List α->Option Int
 |_,[]=>none
 |i,x::l=>match t i x with
  |some r=>some r
  |none=>dx t (i+1) l
def gU {σ:Type}(o:Option Int)(s:σ):Fl σ Int:=match o with
 |some r=>.rt r
 |none=>.nx s
theorem qy {α σ:Type}{f:Nat->α->σ->Option (Fl σ Int)}{t:Nat->α->Option Int}:∀(l:List α) (i:Nat) (s:σ),(∀j x s,l[j]?=some x->f (i+j) x s=some (gU (t (i+j) x) s))->bB f i l s=some (gU (dx t i l) s)
 |[],i,s,_=>rfl
 |x::l,i,s,h=>by
  have a:=h 0 x s rfl
  simp only[Nat.add_zero] at a
  unfold bB dx
  rw[a]
  cases ht:t i x with
  |some r=>rfl
  |none=>
   show bB f (i+1) l s=_
   exact qy l (i+1) s fun j y s b=>by
    have:=h (j+1) y s (by simpa using b)
    rwa [show i+(j+1)=i+1+j by omega] at this
theorem Bc {α σ:Type}{f:σ×Int->Option (Fl (σ×Int) Int)}{t:Nat->α->Option Int}(l:List α)(h:∀(i:Nat) x s,l[i]?=some x->f (s,(i:Int))=some (gU (t i x) (s,((i+1:Nat):Int))))(a:∀s,f (s,(l.length:Int))=some (.bk (s,(l.length:Int)))):
  ∀(k i n:Nat) (s:σ),i+k=l.length->k<n->aR f n (s,(i:Int))=some (gU (dx t i (l.drop i)) (s,(l.length:Int)))
 |0,i,n+1,s,hi,_=>by
  obtain rfl:i=l.length:=by omega
  unfold aR
  rw[a,List.drop_length]
  rfl
 |k+1,i,n+1,s,hi,d=>by
  have b:i<l.length:=by omega
  have c:l[i]?=some l[i]:=List.getElem?_eq_getElem b
  unfold aR
  rw[h i _ s c,List.drop_eq_getElem_cons b]
  unfold dx
  cases ht:t i l[i] with
  |some r=>rfl
  |none=>exact Bc l h a k (i+1) n s (by omega) (by omega)
theorem td {α σ:Type}{f:σ×Int->Option (Fl (σ×Int) Int)}{t:Nat->α->Option Int}(l:List α)(a:l.length<=1000)(h:∀(i:Nat) x s,l[i]?=some x->f (s,(i:Int))=some (gU (t i x) (s,((i+1:Nat):Int))))(b:∀s,f (s,(l.length:Int))=some (.bk (s,(l.length:Int))))(s:σ):
  aR f fu (s,0)=some (gU (dx t 0 l) (s,(l.length:Int))):=by
 have:=Bc l h b l.length 0 fu s (by omega) (Nat.lt_of_le_of_lt a (by decide))
 simpa using this
theorem jB:fG=eA:=rfl
theorem HB:pS=mB:=rfl
def bI (a lo hi:Int):Bool:=decide (lo<=a)&&decide (a<=hi)
theorem eM (a lo hi:Int):eA a lo hi=some (bI a lo hi):=by
 unfold eA bI;cases decide (lo<=a)<;>rfl
def ki (b:c6)(lo hi:Int):Bool:=decide (lo<=b.low)&&(decide (b.low<=b.high)&&decide (b.high<=hi))
theorem Be (b:c6)(lo hi:Int):mB b lo hi=some (ki b lo hi):=by
 unfold mB ki;cases decide (lo<=b.low)<;>cases decide (b.low<=b.high)<;>rfl
theorem cc {n:Int}(h: -9223372036854775808<=n/\n<9223372036854775808):IntKind.i64.wrap n=n:=IntWalk.i64_in _ (by constructor<;>omega)
def gk (u:ak)(i:Nat)(x:bY):Option Int:=
 cond (bI x.aH 0 (IntKind.i64.wrap (u.bG - 1))) (cond (bI x.high 0 60) (match i with
  |0=>none
  |j+1=>match u.av[j]? with
   |some y=>cond (decide (x.aH<=y.aH)) (some 7) none
   |none=>none) (some 1)) (some 1)
theorem xo (u:ak)(g:u.av.length<=20):kT u=some (cond (bI u.av.length 2 5) ((dx (gk u) 0 u.av).getD 0) 2)/\mE u=kT u:=by
 have key:kT u=some (cond (bI u.av.length 2 5) ((dx (gk u) 0 u.av).getD 0) 2):=by
  unfold kT;rw[jB,eM];show cond (!bI (u.av.length:Int) 2 5) _ _=_;cases bI (u.av.length:Int) 2 5 with
  |false=>rfl
  |true=>
   show ag (bB _ 0 u.av 0) _=_;rw[qy (t:=gk u) u.av 0 0 ?_]
   ·show aB (gU _ _) _ _ _=_;cases dx (gk u) 0 u.av<;>rfl
   ·intro j x s b;rw[Nat.zero_add];unfold si gk;rw[jB,eM,eM];show cond (!bI x.aH 0 _) _ _=_;cases bI x.aH 0 (IntKind.i64.wrap (u.bG - 1)) with
    |false=>rfl
    |true=>
     show cond (!bI x.high 0 60) _ _=_;cases bI x.high 0 60 with
     |false=>rfl
     |true=>
      cases j with
      |zero=>rfl
      |succ j=>
       have d:=(List.getElem?_eq_some_iff.1 b).1;have a:u.av[j]?=some u.av[j]:=List.getElem?_eq_getElem (by omega);have hw:IntKind.i64.wrap (((j+1:Nat):Int) - 1)=(j:Int):=by rw[cc (by omega)];omega
       have hd:decide (0<((j+1:Nat):Int))=true:=decide_eq_true (by omega);show cond (decide (0<((j+1:Nat):Int))) _ _=_;rw[hd,hw];have hi:bf u.av (j:Int)=some u.av[j]:=by unfold bf;rw[if_pos (by omega),Int.toNat_natCast,a]
       show ag (bf u.av (j:Int)) _=_;rw[hi];simp only[a];show cond (decide (x.aH<=u.av[j].aH)) _ _=_;cases decide (x.aH<=u.av[j].aH)<;>rfl
 refine ⟨key,?_⟩;rw[key];unfold mE;rw[eM];show cond (!bI (u.av.length:Int) 2 5) _ _=_;cases bI (u.av.length:Int) 2 5 with
 |false=>rfl
 |true=>
  show ag (aR _ fu (0,0)) _=_;rw[td (t:=gk u) u.av (by omega) ?_ ?_ 0]
  ·show aB (gU _ _) _ _ _=_;cases dx (gk u) 0 u.av<;>rfl
  ·intro j x s b;unfold qo gk;have d:=(List.getElem?_eq_some_iff.1 b).1;have c:decide ((j:Int)<(u.av.length:Int))=true:=decide_eq_true (by omega);have e:bf u.av (j:Int)=some x:=by unfold bf;rw[if_pos (by omega),Int.toNat_natCast,b]
   have f:IntKind.i64.wrap ((j:Int)+1)=((j+1:Nat):Int):=by rw[cc (by omega)];omega
   show cond (decide ((j:Int)<(u.av.length:Int))) (ag (bf u.av (j:Int)) _) _=_;rw[c,e,cond_true];show ag (eA x.aH 0 (IntKind.i64.wrap (u.bG - 1))) _=_;rw[eM];show cond (!bI x.aH 0 _) _ (ag (eA x.high 0 60) _)=_;rw[eM];cases bI x.aH 0 (IntKind.i64.wrap (u.bG - 1)) with
   |false=>rfl
   |true=>
    show cond (!bI x.high 0 60) _ _=_;cases bI x.high 0 60 with
    |false=>rfl
    |true=>
     cases j with
     |zero=>rfl
     |succ j=>
      have a:u.av[j]?=some u.av[j]:=List.getElem?_eq_getElem (by omega);have hw:IntKind.i64.wrap (((j+1:Nat):Int) - 1)=(j:Int):=by rw[cc (by omega)];omega
      have hd:decide (0<((j+1:Nat):Int))=true:=decide_eq_true (by omega);have hi:bf u.av (j:Int)=some u.av[j]:=by unfold bf;rw[if_pos (by omega),Int.toNat_natCast,a]
      dsimp only;simp only[hd,hw,hi,f,a,ag,cond_true,Bool.not_true,cond_false];cases decide (x.aH<=u.av[j].aH)<;>rfl
  ·intro s;unfold qo;have c:decide ((u.av.length:Int)<(u.av.length:Int))=false:=decide_eq_false (by omega);show cond (decide ((u.av.length:Int)<(u.av.length:Int))) _ _=_;rw[c];rfl
theorem Bf {ρ:Type}{f:Int×Int->Option (Fl (Int×Int) ρ)}(d:∀a b:Nat,a<9223372036854775808->b<9223372036854775808->b≠0->f ((a:Int),(b:Int))=some (.nx ((b:Int),((a % b:Nat):Int))))(e:∀a:Nat,f ((a:Int),0)=some (.bk ((a:Int),0))):
  ∀(b a k:Nat),a<9223372036854775808->b<9223372036854775808->b<k->aR f k ((a:Int),(b:Int))=some (.nx (((Nat.gcd a b:Nat):Int),0)):=by
 intro b
 induction b using Nat.strongRecOn with
 |ind b ih=>
  intro a k g hb h
  obtain ⟨k,rfl⟩:∃m,k=m+1:=⟨k - 1,by omega⟩
  unfold aR
  by_cases c:b=0
  ·subst c
   have:=e a
   rw[show ((0:Nat):Int)=0 from rfl,this,Nat.gcd_zero_right]
   rfl
  ·rw[d a b g hb c]
   show aR f k ((b:Int),((a % b:Nat):Int))=_
   have hm:a % b<b:=Nat.mod_lt _ (by omega)
   rw[ih (a % b) hm b k hb (by omega) (by omega),Nat.gcd_comm a b,Nat.gcd_rec b a,Nat.gcd_comm]
theorem Bg (a b:Nat)(d:a<9223372036854775808)(hb:b<9223372036854775808)(h:b≠0):ga (a:Int) (b:Int)=some ((a % b:Nat):Int):=by
 unfold ga;have c:¬(b:Int)=0:=by omega
 rw[if_neg c];have e:((a:Int).tmod (b:Int))=((a % b:Nat):Int):=by
  rw[Int.tmod_eq_emod_of_nonneg (by omega)];rfl
 rw[e]
theorem HC (a k:Nat)(b:Nat)(c:a<9223372036854775808)(hb:b<9223372036854775808)(d:b<k):aR pU k ((a:Int),(b:Int))=some (.nx (((Nat.gcd a b:Nat):Int),0)):=by
 refine Bf (fun a b c hb e=>?_) (fun a=>rfl) b a k c hb d;unfold pU;have:(((b:Nat):Int) != 0)=true:=by simp;omega
 dsimp only;rw[this,Bg a b c hb e];rfl
theorem HD (a k:Nat)(b:Nat)(c:a<9223372036854775808)(hb:b<9223372036854775808)(d:b<k):aR nS k ((a:Int),(b:Int))=some (.nx (((Nat.gcd a b:Nat):Int),0)):=by
 refine Bf (fun a b c hb e=>?_) (fun a=>rfl) b a k c hb d;unfold nS;have:decide (0<((b:Nat):Int))=true:=decide_eq_true (by omega);dsimp only;rw[this,Bg a b c hb e];rfl
def bH (n:Int)(d:Nat):an:=⟨n.tdiv (Nat.gcd n.natAbs d:Nat),(d:Int).tdiv (Nat.gcd n.natAbs d:Nat)⟩
theorem tf (a b:Int)(hb:0<b)(c: -9000000000000000000<=a/\a<=9000000000000000000):fD a b=some (a.tdiv b):=by
 unfold fD;rw[if_neg (by omega)];congr 1;have d:(a.tdiv b).natAbs<=a.natAbs:=by rw[Int.natAbs_tdiv];exact Nat.div_le_self _ _
 exact cc (by omega)
theorem Bh (n:Int)(h: -9000000000000000000<=n/\n<=9000000000000000000):(if n<IntKind.i64.wrap (0 - n) then IntKind.i64.wrap (0 - n) else n)=(n.natAbs:Int):=by
 rw[cc (by omega)];split<;>omega
theorem qz (n:Int)(d:Nat)(a: -9000000000000000000<=n/\n<=9000000000000000000)(hd:0<d)(b:d<900000000000000000):j3 n d=some (bH n d):=by
 unfold j3;rw[Bh n a,HC n.natAbs fu d (by omega) (by omega) (Nat.lt_trans b (by decide))];have hg:0<Nat.gcd n.natAbs d:=Nat.gcd_pos_of_pos_right _ hd;show ag (fD n _) (fun x=>ag (fD d _) fun y=>_)=_;rw[tf n _ (by omega) a,tf d _ (by omega) (by omega)];rfl
theorem qA (n:Int)(d:Nat)(a: -9000000000000000000<=n/\n<=9000000000000000000)(hd:0<d)(b:d<900000000000000000):ir n d=some (bH n d):=by
 unfold ir;have:decide ((d:Int)<0)=false:=decide_eq_false (by omega);rw[this];show ag (aR nS fu _) _=_;rw[Bh n a,HD n.natAbs fu d (by omega) (by omega) (Nat.lt_trans b (by decide))];have hg:0<Nat.gcd n.natAbs d:=Nat.gcd_pos_of_pos_right _ hd;show ag (fD n _) (fun x=>ag (fD d _) fun y=>_)=_;rw[tf n _ (by omega) a,tf d _ (by omega) (by omega)];rfl
def gW (u:ak)(f:Int->Bool)(_:Nat)(x:bN):Option Int:=cond (f x.place) (cond (bI x.di 1 20) none (some 1)) (some 6)
def gX (_:Nat)(x:b6):Option Int:=cond (bI x.back 1 20) (cond (ki x.high 0 60) (cond (decide (3<=IntKind.i64.wrap (x.high.high - x.high.low))) (some 1) none) (some 1)) (some 1)
def gY (u:ak)(i:Int):Bool:=bI i 0 (IntKind.i64.wrap ((u.aG.length:Int) - 1))
def iY (u:ak)(_:Nat)(x:bU):Option Int:=cond (gY u x.aW) none (some 6)
theorem xp (u:ak)(i:Int):nP u i=some (gY u i)/\nh u i=some (gY u i):=by
 constructor
 ·unfold nP;rw[eM];rfl
 ·unfold nh;rw[jB,eM];rfl
theorem HE (u:ak)(h:Int):gf h u=some (cond (bI h 1 20) 0 1):=by
 unfold gf;rw[jB,eM];show cond (!bI h 1 20) _ _=_;cases bI h 1 20<;>rfl
theorem xq (u:ak)(h:0<u.av.length)(c:u.av.length<=20):∃f:Int->Bool,∀p,ef u p=some (f p)/\mz u p=some (f p):=by
 have a:u.av[0]?=some u.av[0]:=List.getElem?_eq_getElem h;have b:u.av[u.av.length - 1]?=some (u.av[u.av.length - 1]'(by omega)):=List.getElem?_eq_getElem _;have hw:IntKind.i64.wrap ((u.av.length:Int) - 1)=((u.av.length - 1:Nat):Int):=by rw[cc (by omega)];omega
 have e0:bf u.av 0=some u.av[0]:=a;have e1:bf u.av ((u.av.length - 1:Nat):Int)=some (u.av[u.av.length - 1]'(by omega)):=by unfold bf;rw[if_pos (by omega),Int.toNat_natCast,b]
 refine ⟨fun p=>bI p (u.av[0]).aH (u.av[u.av.length - 1]'(by omega)).aH,fun p=>?_⟩;have k:ef u p=some (bI p (u.av[0]).aH (u.av[u.av.length - 1]'(by omega)).aH):=by
  unfold ef;rw[hw,e0,e1,jB];simp only[ag,eM]
 exact ⟨k,k⟩
def gV (u:ak):Int:=cond (bI u.bG 2 60) (cond (bI u.bO 0 60) (cond (bI u.aY.den 1 20) (cond (bI u.aY.num 0 20) (cond (((bH u.aY.num u.aY.den.toNat).num==u.aY.num)&&((bH u.aY.num u.aY.den.toNat).den==u.aY.den)) 0 3) 1) 1) 1) 1
theorem dP {a lo hi:Int}:bI a lo hi=true↔lo<=a/\a<=hi:=by unfold bI;simp
theorem tg (u:ak):nk u=some (gV u):=by
 unfold nk gV;rw[jB];simp only[eM,ag];cases c:bI u.bG 2 60 with
 |false=>rfl
 |true=>
  cases d:bI u.bO 0 60 with
  |false=>rfl
  |true=>
   cases a:bI u.aY.den 1 20 with
   |false=>rfl
   |true=>
    cases b:bI u.aY.num 0 20 with
    |false=>rfl
    |true=>
     rw[dP] at a b;have hd:u.aY.den=(u.aY.den.toNat:Int):=by omega
     have:=qz u.aY.num u.aY.den.toNat (by omega) (by omega) (by omega);rw[<-hd] at this;simp only[this,cond_true,Bool.not_true,cond_false];cases (((bH u.aY.num u.aY.den.toNat).num==u.aY.num)&&((bH u.aY.num u.aY.den.toNat).den==u.aY.den))<;>rfl
theorem HF (u:ak):mG u=cond (gV u != 0) (some (gV u)) (ag (mE u) fun x=>cond (x != 0) (some x) (mF u)):=by
 unfold mG gV;simp only[eM,ag];cases c:bI u.bG 2 60 with
 |false=>rfl
 |true=>
  cases d:bI u.bO 0 60 with
  |false=>rfl
  |true=>
   cases a:bI u.aY.den 1 20 with
   |false=>rfl
   |true=>
    cases b:bI u.aY.num 0 20 with
    |false=>rfl
    |true=>
     rw[dP] at a b;have hd:u.aY.den=(u.aY.den.toNat:Int):=by omega
     have:=qA u.aY.num u.aY.den.toNat (by omega) (by omega) (by omega);rw[<-hd] at this;simp only[this,cond_true,Bool.not_true,cond_false];cases (((bH u.aY.num u.aY.den.toNat).num==u.aY.num)&&((bH u.aY.num u.aY.den.toNat).den==u.aY.den)) with
     |false=>rfl
     |true=>
      simp only[Bool.not_true,cond_false,cond_true,bne_self_eq_false];cases mE u with
      |none=>rfl
      |some x=>
       dsimp only;cases mF u<;>rfl
theorem th (u:ak):mb u=some (cond (decide (3<(u.told.length:Int))) 2 ((dx (iY u) 0 u.told).getD 0)):=by
 unfold mb;cases decide (3<(u.told.length:Int)) with
 |true=>rfl
 |false=>
  show ag (bB _ 0 u.told 0) _=_;rw[qy (t:=iY u) u.told 0 0 ?_]
  ·show aB (gU _ _) _ _ _=_;cases dx (iY u) 0 u.told<;>rfl
  ·intro j x s a;unfold r9 iY;simp only[xp,ag];cases gY u x.aW<;>rfl
theorem tj (u:ak):mc u=some (cond (bI u.aG.length 1 3) ((dx gX 0 u.aG).getD 0) 2):=by
 unfold mc;rw[jB,eM];simp only[ag];cases bI (u.aG.length:Int) 1 3 with
 |false=>rfl
 |true=>
  simp only[Bool.not_true,cond_false,cond_true];rw[qy (t:=gX) u.aG 0 0 ?_]
  ·show aB (gU _ _) _ _ _=_;cases dx gX 0 u.aG<;>rfl
  ·intro j x s a;unfold sd gX;simp only[jB,HB,eM,Be,ag];cases bI x.back 1 20 with
   |false=>rfl
   |true=>
    cases ki x.high 0 60 with
    |false=>rfl
    |true=>
     simp only[Bool.not_true,cond_false,cond_true];cases decide (3<=IntKind.i64.wrap (x.high.high - x.high.low))<;>rfl
theorem tn (u:ak)(f:Int->Bool)(a:∀p,ef u p=some (f p)/\mz u p=some (f p)):me u=some (cond (decide (3<(u.props.length:Int))) 2 ((dx (gW u f) 0 u.props).getD 0)):=by
 unfold me;cases decide (3<(u.props.length:Int)) with
 |true=>rfl
 |false=>
  show ag (bB _ 0 u.props 0) _=_;rw[qy (t:=gW u f) u.props 0 0 ?_]
  ·show aB (gU _ _) _ _ _=_;cases dx (gW u f) 0 u.props<;>rfl
  ·intro j x s b;unfold se gW;simp only[(a x.place).1,HE,ag];cases f x.place with
   |false=>rfl
   |true=>
    cases bI x.di 1 20<;>rfl
theorem mH {α:Type}{t:Nat->α->Option Int}(h:∀i x r,t i x=some r->r≠0):∀(l:List α) (i:Nat) (r:Int),dx t i l=some r->r≠0
 |[],i,r,e=>by cases e
 |x::l,i,r,e=>by
  unfold dx at e
  cases ht:t i x with
  |some a=>rw[ht] at e;cases e;exact h i x _ ht
  |none=>rw[ht] at e;exact mH h l (i+1) r e
theorem Bi (u:ak)(f:Int->Bool)(i:Nat)(x:bN)(r:Int)(h:gW u f i x=some r):r≠0:=by
 unfold gW at h;revert h;cases f x.place<;>cases bI x.di 1 20<;>intro h<;>cases h<;>decide
theorem Bj (i:Nat)(x:b6)(r:Int)(h:gX i x=some r):r≠0:=by
 unfold gX at h;revert h;cases bI x.back 1 20<;>cases ki x.high 0 60<;>cases decide (3<=IntKind.i64.wrap (x.high.high - x.high.low))<;>intro h<;>cases h<;>decide
theorem HG (u:ak)(i:Nat)(x:bU)(r:Int)(h:iY u i x=some r):r≠0:=by
 unfold iY at h;revert h;cases gY u x.aW<;>intro h<;>cases h<;>decide
theorem Bl {o:Option Int}(h:∀r,o=some r->r≠0):(o.getD 0 != 0)=o.isSome:=by
 cases o with
 |none=>rfl
 |some r=>simpa using h r rfl
theorem HH (u:ak)(f:Int->Bool)(e:∀p,ef u p=some (f p)/\mz u p=some (f p))(h:u.props.length<=20)(i:u.aG.length<=20)(k:u.told.length<=20):
  mF u=ag (me u) fun x=>cond (x != 0) (some x) (ag (mc u) fun y=>cond (y != 0) (some y) (mb u)):=by
 rw[tn u f e,tj,th]
 unfold mF
 simp only[ag]
 cases l:decide (3<(u.props.length:Int)) with
 |true=>rfl
 |false=>
  simp only[cond_false]
  rw[td (t:=gW u f) u.props (by omega) ?_ ?_ 0]
  ·rw[Bl (mH (Bi u f) u.props 0)]
   cases dx (gW u f) 0 u.props with
   |some r=>rfl
   |none=>
    simp only[gU,aB,Option.isSome_none,cond_false,eM]
    cases m:bI (u.aG.length:Int) 1 3 with
    |false=>rfl
    |true=>
     simp only[Bool.not_true,cond_false,cond_true]
     rw[td (t:=gX) u.aG (by omega) ?_ ?_ 0]
     ·rw[Bl (mH Bj u.aG 0)]
      cases dx gX 0 u.aG with
      |some r=>rfl
      |none=>
       simp only[gU,aB,Option.isSome_none,cond_false]
       cases n:decide (3<(u.told.length:Int)) with
       |true=>rfl
       |false=>
        simp only[cond_false]
        rw[td (t:=iY u) u.told (by omega) ?_ ?_ 0]
        ·cases dx (iY u) 0 u.told<;>rfl
        ·intro j x s b
         have g:=(List.getElem?_eq_some_iff.1 b).1
         have a:decide ((j:Int)<(u.told.length:Int))=true:=decide_eq_true (by omega)
         have c:bf u.told (j:Int)=some x:=by unfold bf;rw[if_pos (by omega),Int.toNat_natCast,b]
         have d:IntKind.i64.wrap ((j:Int)+1)=((j+1:Nat):Int):=by rw[cc (by omega)];omega
         unfold xh iY
         simp only[a,c,d,ag,xp,cond_true]
         cases gY u x.aW<;>rfl
        ·intro s
         have a:decide ((u.told.length:Int)<(u.told.length:Int))=false:=decide_eq_false (by omega)
         unfold xh
         simp only[a,cond_false]
     ·intro j x s b
      have g:=(List.getElem?_eq_some_iff.1 b).1
      have a:decide ((j:Int)<(u.aG.length:Int))=true:=decide_eq_true (by omega)
      have c:bf u.aG (j:Int)=some x:=by unfold bf;rw[if_pos (by omega),Int.toNat_natCast,b]
      have d:IntKind.i64.wrap ((j:Int)+1)=((j+1:Nat):Int):=by rw[cc (by omega)];omega
      unfold xg gX
      simp only[a,c,d,ag,eM,Be,cond_true]
      cases bI x.back 1 20<;>cases ki x.high 0 60<;>cases decide (3<=IntKind.i64.wrap (x.high.high - x.high.low))<;>rfl
     ·intro s
      have a:decide ((u.aG.length:Int)<(u.aG.length:Int))=false:=decide_eq_false (by omega)
      unfold xg
      simp only[a,cond_false]
  ·intro j x s b
   have g:=(List.getElem?_eq_some_iff.1 b).1
   have a:decide ((j:Int)<(u.props.length:Int))=true:=decide_eq_true (by omega)
   have c:bf u.props (j:Int)=some x:=by unfold bf;rw[if_pos (by omega),Int.toNat_natCast,b]
   have d:IntKind.i64.wrap ((j:Int)+1)=((j+1:Nat):Int):=by rw[cc (by omega)];omega
   unfold qp gW
   simp only[a,c,d,ag,eM,(e x.place).2,cond_true]
   cases f x.place<;>cases bI x.di 1 20<;>rfl
  ·intro s
   have a:decide ((u.props.length:Int)<(u.props.length:Int))=false:=decide_eq_false (by omega)
   unfold qp
   simp only[a,cond_false]
theorem Bm (x:Int):cond (x != 0) (some x) (some 0)=some x:=by
 cases h:(x != 0) with
 |true=>rfl
 |false=>
  have:x=0:=by simpa using h
  rw[this];rfl
theorem HI (u:ak)(a:u.av.length<=20)(d:u.props.length<=20)(e:u.aG.length<=20)(g:u.told.length<=20):e4 u=mG u/\∃r,e4 u=some r:=by
 obtain ⟨he,h⟩:=xo u a;rw[HF,h];show iV u=_/\∃r,iV u=some r;unfold iV;rw[tg];simp only[ag];cases hg:(gV u != 0) with
 |true=>exact ⟨rfl,_,rfl⟩
 |false=>
  simp only[cond_false];unfold kX;rw[he];simp only[ag];cases b:((cond (bI u.av.length 2 5) ((dx (gk u) 0 u.av).getD 0) 2) != 0) with
  |true=>exact ⟨rfl,_,rfl⟩
  |false=>
   simp only[cond_false];have hb:bI u.av.length 2 5=true:=by
    cases hb:bI (u.av.length:Int) 2 5 with
    |true=>rfl
    |false=>rw[hb] at b;cases b
   have i:=dP.1 hb;obtain ⟨f,c⟩:=xq u (by omega) a;rw[HH u f c d e g];unfold kW;rw[tn u f c];simp only[ag];cases j:((cond (decide (3<(u.props.length:Int))) 2 ((dx (gW u f) 0 u.props).getD 0)) != 0) with
   |true=>exact ⟨rfl,_,rfl⟩
   |false=>
    simp only[cond_false];unfold kV;rw[tj];simp only[ag];cases k:((cond (bI u.aG.length 1 3) ((dx gX 0 u.aG).getD 0) 2) != 0) with
    |true=>exact ⟨rfl,_,rfl⟩
    |false=>
     simp only[cond_false];unfold kU nq;rw[th];simp only[ag];rw[Bm];exact ⟨rfl,_,rfl⟩
theorem qB {α:Type}{t:Nat->α->Option Int}:∀(l:List α) (i:Nat),dx t i l=none->∀j x,l[j]?=some x->t (i+j) x=none
 |[],i,_,j,x,a=>by simp at a
 |y::l,i,h,j,x,a=>by
  unfold dx at h
  cases ht:t i y with
  |some r=>rw[ht] at h;cases h
  |none=>
   rw[ht] at h
   cases j with
   |zero=>simp at a;subst a;exact ht
   |succ j=>
    have:=qB l (i+1) h j x (by simpa using a)
    rwa [show i+1+j=i+(j+1) by omega] at this
structure Fit (u:ak):Prop where
 bG:2<=u.bG/\u.bG<=60
 bO:0<=u.bO/\u.bO<=60
 den:1<=u.aY.den/\u.aY.den<=20
 num:0<=u.aY.num/\u.aY.num<=20
 av:2<=u.av.length/\u.av.length<=5
 gm:∀(i:Nat) x,u.av[i]?=some x->(0<=x.aH/\x.aH<=u.bG - 1)/\0<=x.high/\x.high<=60
 qC:∀(i:Nat) x y,u.av[i]?=some x->u.av[i+1]?=some y->x.aH<y.aH
 props:u.props.length<=3
 prop:∀(i:Nat) x,u.props[i]?=some x->ef u x.place=some true/\1<=x.di/\x.di<=20
 aG:1<=u.aG.length/\u.aG.length<=3
 aW:∀(i:Nat) x,u.aG[i]?=some x->(1<=x.back/\x.back<=20)/\0<=x.high.low/\x.high.low<=x.high.high/\x.high.high<=60/\x.high.high - x.high.low<3
 told:u.told.length<=3
 qD:∀(i:Nat) x,u.told[i]?=some x->0<=x.aW/\x.aW<u.aG.length
theorem tq {o:Option Int}(h:∀r,o=some r->r≠0)(a:o.getD 0=0):o=none:=by
 cases o with
 |none=>rfl
 |some r=>exact absurd a (h r rfl)
theorem HJ (u:ak)(i:Nat)(x:bY)(r:Int)(h:gk u i x=some r):r≠0:=by
 unfold gk at h;revert h;cases bI x.aH 0 (IntKind.i64.wrap (u.bG - 1))<;>cases bI x.high 0 60<;>try (intro h;cases h;decide)
 cases i with
 |zero=>intro h;cases h
 |succ j=>
  simp only[cond_true];cases u.av[j]? with
  |none=>intro h;cases h
  |some y=>dsimp only;cases decide (x.aH<=y.aH)<;>intro h<;>cases h<;>decide
theorem HK (u:ak)(n:u.av.length<=20)(h:e4 u=some 0):Fit u:=by
 have hh:iV u=some 0:=h;clear h;unfold iV at hh;rw[tg] at hh;simp only[ag] at hh;have hg:gV u=0:=by
  cases hg:(gV u != 0) with
  |true=>rw[hg] at hh;exact Option.some.inj hh
  |false=>simpa using hg
 rw[hg] at hh;have hh:kX u=some 0:=hh;unfold kX at hh;rw[(xo u n).1] at hh;simp only[ag] at hh;generalize e:cond (bI (u.av.length:Int) 2 5) ((dx (gk u) 0 u.av).getD 0) 2=E at hh;have w:E=0:=by
  cases c:(E != 0) with
  |true=>rw[c] at hh;exact Option.some.inj hh
  |false=>simpa using c
 rw[w] at hh e;have hh:kW u=some 0:=hh;have hb:bI (u.av.length:Int) 2 5=true:=by
  cases hb:bI (u.av.length:Int) 2 5 with
  |true=>rfl
  |false=>rw[hb] at e;cases e
 rw[hb] at e;have L:=dP.1 hb;have o:=qB u.av 0 (tq (mH (HJ u) u.av 0) e);obtain ⟨f,p⟩:=xq u (by omega) n;unfold kW at hh;rw[tn u f p] at hh;simp only[ag] at hh;generalize g:cond (decide (3<(u.props.length:Int))) 2 ((dx (gW u f) 0 u.props).getD 0)=q at hh;have z:q=0:=by
  cases c:(q != 0) with
  |true=>rw[c] at hh;exact Option.some.inj hh
  |false=>simpa using c
 rw[z] at hh g;have hh:kV u=some 0:=hh;have r:decide (3<(u.props.length:Int))=false:=by
  cases hb:decide (3<(u.props.length:Int)) with
  |false=>rfl
  |true=>rw[hb] at g;cases g
 rw[r] at g;have A:=qB u.props 0 (tq (mH (Bi u f) u.props 0) g);unfold kV at hh;rw[tj] at hh;simp only[ag] at hh;generalize j:cond (bI (u.aG.length:Int) 1 3) ((dx gX 0 u.aG).getD 0) 2=s at hh;have B:s=0:=by
  cases c:(s != 0) with
  |true=>rw[c] at hh;exact Option.some.inj hh
  |false=>simpa using c
 rw[B] at hh j;have hh:kU u=some 0:=hh;have t:bI (u.aG.length:Int) 1 3=true:=by
  cases hb:bI (u.aG.length:Int) 1 3 with
  |true=>rfl
  |false=>rw[hb] at j;cases j
 rw[t] at j;have M:=dP.1 t;have C:=qB u.aG 0 (tq (mH Bj u.aG 0) j);unfold kU nq at hh;rw[th] at hh;simp only[ag] at hh;rw[Bm] at hh;have k:=Option.some.inj hh;have v:decide (3<(u.told.length:Int))=false:=by
  cases hb:decide (3<(u.told.length:Int)) with
  |false=>rfl
  |true=>rw[hb] at k;cases k
 rw[v] at k;have D:=qB u.told 0 (tq (mH (HG u) u.told 0) k);have N:=of_decide_eq_false r;have O:=of_decide_eq_false v;clear hh e g j k;have G:(2<=u.bG/\u.bG<=60)/\(0<=u.bO/\u.bO<=60)/\(1<=u.aY.den/\u.aY.den<=20)/\(0<=u.aY.num/\u.aY.num<=20):=by
  unfold gV at hg;refine ⟨dP.1 ?_,dP.1 ?_,dP.1 ?_,dP.1 ?_⟩<;>revert hg<;>cases bI u.bG 2 60<;>cases bI u.bO 0 60<;>cases bI u.aY.den 1 20<;>cases bI u.aY.num 0 20<;>intro hg<;>first|rfl|cases hg
 obtain ⟨F,H,I,J⟩:=G;have hw:IntKind.i64.wrap (u.bG - 1)=u.bG - 1:=cc (by omega);have l:∀(i:Nat) x,u.av[i]?=some x->bI x.aH 0 (u.bG - 1)=true/\bI x.high 0 60=true:=by
  intro i x a;have:=o i x a;unfold gk at this;rw[hw] at this;revert this;cases bI x.aH 0 (u.bG - 1)<;>cases bI x.high 0 60<;>intro h<;>first|exact ⟨rfl,rfl⟩|cases h
 refine ⟨F,H,I,J,by omega,fun i x a=>⟨dP.1 (l i x a).1,dP.1 (l i x a).2⟩,fun i x y a m=>?_,by omega,fun i x a=>?_,by omega,fun i x a=>?_,by omega,fun i x a=>?_⟩
 ·have:=o (i+1) y m;rw[Nat.zero_add] at this;unfold gk at this;rw[hw,(l _ _ m).1,(l _ _ m).2] at this;simp only[cond_true,a] at this;cases hd:decide (y.aH<=x.aH) with
  |true=>rw[hd] at this;cases this
  |false=>have:=of_decide_eq_false hd;omega
 ·have:=A i x a;unfold gW at this;revert this;rw[(p x.place).1];cases f x.place<;>cases hb:bI x.di 1 20<;>intro h<;>first|exact ⟨rfl,dP.1 hb⟩|cases h
 ·have:=C i x a;unfold gX at this;cases b:bI x.back 1 20 with
  |false=>rw[b] at this;cases this
  |true=>
   cases d:ki x.high 0 60 with
   |false=>rw[b,d] at this;cases this
   |true=>
    rw[b,d] at this;unfold ki at d;simp only[Bool.and_eq_true,decide_eq_true_eq] at d;refine ⟨dP.1 b,d.1,d.2.1,d.2.2,?_⟩;cases hd:decide (3<=IntKind.i64.wrap (x.high.high - x.high.low)) with
    |true=>rw[hd] at this;cases this
    |false=>
     have K:=of_decide_eq_false hd;rw[cc (by omega)] at K;omega
 ·have:=D i x a;unfold iY at this;cases b:gY u x.aW with
  |false=>rw[b] at this;cases this
  |true=>
   unfold gY at b;rw[cc (by omega)] at b;have:=dP.1 b;omega
theorem xu (g:Nat)(hg:0<g)(n:Int)(d:Nat):bH ((g:Int)*n) (g*d)=bH n d:=by
 unfold bH;have e1:((g:Int)*n).natAbs=g*n.natAbs:=by rw[Int.natAbs_mul,Int.natAbs_natCast]
 rw[e1,Nat.gcd_mul_left];have a:(0:Int)<(g:Int):=by omega
 congr 1
 ·rw[Int.natCast_mul,Int.mul_tdiv_mul_of_pos _ _ a]
 ·rw[Int.natCast_mul,Int.natCast_mul,Int.mul_tdiv_mul_of_pos _ _ a]
theorem xw (n:Int)(d:Nat)(hd:0<d):∃g a:Nat,0<g/\0<a/\d=g*a/\n=(g:Int)*(bH n d).num/\(bH n d).den=(a:Int):=by
 have hg:0<Nat.gcd n.natAbs d:=Nat.gcd_pos_of_pos_right _ hd;obtain ⟨a,b⟩:=Nat.gcd_dvd_right n.natAbs d;refine ⟨Nat.gcd n.natAbs d,a,hg,?_,b,?_,?_⟩
 ·rcases Nat.eq_zero_or_pos a with h|h
  ·rw[h,Nat.mul_zero] at b;omega
  ·exact h
 ·have c:((Nat.gcd n.natAbs d:Nat):Int) ∣ n:=Int.ofNat_dvd_left.2 (Nat.gcd_dvd_left _ _);unfold bH;exact (Int.mul_tdiv_cancel' c).symm
 ·have:(d:Int)=((Nat.gcd n.natAbs d:Nat):Int)*(a:Int):=by rw[<-Int.natCast_mul];exact congrArg _ b
  show (d:Int).tdiv ((Nat.gcd n.natAbs d:Nat):Int)=_;have e:((Nat.gcd n.natAbs d:Nat):Int)≠0:=by omega
  calc (d:Int).tdiv ((Nat.gcd n.natAbs d:Nat):Int)=(((Nat.gcd n.natAbs d:Nat):Int)*(a:Int)).tdiv ((Nat.gcd n.natAbs d:Nat):Int):=congrArg (fun z=>Int.tdiv z _) this
   _=(a:Int):=Int.mul_tdiv_cancel_left _ e
theorem dy {x y:Int}{A B:Nat}(a:x.natAbs<=A)(b:y.natAbs<=B):(x*y).natAbs<=A*B:=by
 rw[Int.natAbs_mul];exact Nat.mul_le_mul a b
theorem ej {n:Int}(h:n.natAbs<=9000000000000000000):IntKind.i64.wrap n=n:=cc (by omega)
structure Sm (r:an)(A B:Nat):Prop where
 num:r.num.natAbs<=A
 den:0<r.den/\r.den<=B
theorem tr {a b:an}{A B C D:Nat}(c:Sm a A B)(hb:Sm b C D)(h:A*D+C*B<=900000000000000000)(hd:B*D<=800000000000000000):
  jv a b=some (bH (a.num*b.den+b.num*a.den) (a.den*b.den).toNat):=by
 have d:=dy c.num (show b.den.natAbs<=D by have:=hb.den;omega)
 have f:=dy hb.num (show a.den.natAbs<=B by have:=c.den;omega)
 have g:=dy (show a.den.natAbs<=B by have:=c.den;omega) (show b.den.natAbs<=D by have:=hb.den;omega)
 have i:0<a.den*b.den:=Int.mul_pos c.den.1 hb.den.1
 unfold jv
 rw[ej (n:=a.num*b.den) (by omega),ej (n:=b.num*a.den) (by omega),ej (n:=a.den*b.den) (by omega),ej (by omega)]
 have e:a.den*b.den=(((a.den*b.den).toNat:Nat):Int):=by omega
 have:=qz (a.num*b.den+b.num*a.den) (a.den*b.den).toNat (by omega) (by omega) (by omega)
 rw[<-e] at this
 rw[this]
 rfl
theorem Bn {a b:an}{A B C D:Nat}(c:Sm a A B)(hb:Sm b C D)(h:A*D+C*B<=900000000000000000)(hd:B*D<=800000000000000000):
  j8 a b=some (bH (a.num*b.den - b.num*a.den) (a.den*b.den).toNat):=by
 have d:=dy c.num (show b.den.natAbs<=D by have:=hb.den;omega)
 have f:=dy hb.num (show a.den.natAbs<=B by have:=c.den;omega)
 have g:=dy (show a.den.natAbs<=B by have:=c.den;omega) (show b.den.natAbs<=D by have:=hb.den;omega)
 have i:0<a.den*b.den:=Int.mul_pos c.den.1 hb.den.1
 unfold j8
 rw[ej (n:=a.num*b.den) (by omega),ej (n:=b.num*a.den) (by omega),ej (n:=a.den*b.den) (by omega),ej (by omega)]
 have e:a.den*b.den=(((a.den*b.den).toNat:Nat):Int):=by omega
 have:=qA (a.num*b.den - b.num*a.den) (a.den*b.den).toNat (by omega) (by omega) (by omega)
 rw[<-e] at this
 rw[this]
 rfl
theorem Bo {a b:an}{A B C D:Nat}(c:Sm a A B)(hb:Sm b C D)(h:A*D+C*B<=900000000000000000)(hd:B*D<=800000000000000000)(hC:C<=9000000000000000000):
  jw a b=some (bH (a.num*b.den - b.num*a.den) (a.den*b.den).toNat):=by
 unfold jw
 have e:=hb.num
 rw[ej (by omega)]
 have d:Sm (⟨0 - b.num,b.den⟩:an) C D:=⟨by show (0 - b.num).natAbs<=C;omega,hb.den⟩
 rw[tr c d h hd]
 show some (bH (a.num*b.den+(0 - b.num)*a.den) (a.den*b.den).toNat)=_
 rw[show a.num*b.den+(0 - b.num)*a.den=a.num*b.den - b.num*a.den by rw[Int.zero_sub,Int.neg_mul];omega]
def tu (x y:bY)(p:Int):Option an:=
 ir (IntKind.i64.wrap ((IntKind.i64.wrap (x.high*(IntKind.i64.wrap (y.aH - x.aH))))+(IntKind.i64.wrap ((IntKind.i64.wrap (y.high - x.high))*(IntKind.i64.wrap (p - x.aH)))))) (IntKind.i64.wrap (y.aH - x.aH))
theorem qE {α:Type}{l:List α}{i:Nat}{x:α}(h:l[i]?=some x):bf l (i:Int)=some x:=by unfold bf;rw[if_pos (by omega),Int.toNat_natCast,h]
theorem Bp (i:Nat)(h:i<1000):IntKind.i64.wrap ((i:Int)+1)=((i+1:Nat):Int):=by rw[cc (by omega)];omega
theorem piece (u:ak)(p:Int)(g:u.av.length<=5)(z:bY)(b:u.av[u.av.length - 1]?=some z)(h:p<=z.aH):∀(m i n:Nat) (x y:bY),i+1+m=u.av.length - 1->m<n->u.av[i]?=some x->u.av[i+1]?=some y->
  ∃(k:Nat) (x y:bY),i<=k/\u.av[k]?=some x/\u.av[k+1]?=some y/\p<=y.aH/\(k=i\/x.aH<p)/\aR (nu u p) n ((i+1:Nat):Int)=some (.nx ((k+1:Nat):Int))/\
   aR (s9 u p) n (i:Int)=ag (tu x y p) fun r=>some (.rt r)
 |m,i,n+1,x,y,v,w,f,a=>by
  have A:i+1<u.av.length:=(List.getElem?_eq_some_iff.1 a).1
  have d1:decide (((i+1:Nat):Int)<(u.av.length:Int))=true:=decide_eq_true (by omega)
  unfold aR nu s9
  rw[Bp i (by omega),Bp (i+1) (by omega),qE f,qE a,d1]
  simp only[ag,cond_true]
  by_cases c:y.aH<p
  ·have e1:decide (y.aH<p)=true:=decide_eq_true c
   have e2:decide (p<=y.aH)=false:=decide_eq_false (by omega)
   rw[e1,e2]
   simp only[cond_true,cond_false]
   cases m with
   |zero=>
    have:u.av.length - 1=i+1:=by omega
    rw[this,a] at b
    cases b
    omega
   |succ m=>
    have j:i+1+1<u.av.length:=by omega
    obtain ⟨k,l,y',B,d,o,q,e,s,t⟩:=piece u p g z b h m (i+1) n y (u.av[i+1+1]) (by omega) (by omega) a (List.getElem?_eq_getElem j)
    refine ⟨k,l,y',by omega,d,o,q,?_,s,t⟩
    rcases e with rfl|e
    ·rw[a] at d;cases d;exact .inr c
    ·exact .inr e
  ·have e1:decide (y.aH<p)=false:=decide_eq_false c
   have e2:decide (p<=y.aH)=true:=decide_eq_true (by omega)
   rw[e1,e2]
   refine ⟨i,x,y,Nat.le_refl _,f,a,by omega,.inl rfl,rfl,?_⟩
   simp only[cond_true]
   unfold tu
   cases ir _ _<;>rfl
theorem iZ (n:Int)(d:Nat)(hd:0<d):Sm (bH n d) n.natAbs d:=by
 obtain ⟨g,a,hg,c,e1,e2,b⟩:=xw n d hd;refine ⟨?_,?_⟩
 ·have:n.natAbs=g*(bH n d).num.natAbs:=by
   have:=congrArg Int.natAbs e2
   rwa [Int.natAbs_mul,Int.natAbs_natCast] at this
  rw[this];exact Nat.le_mul_of_pos_left _ hg
 ·rw[b];have:a<=d:=by rw[e1];exact Nat.le_mul_of_pos_left _ hg
  omega
theorem Bq (h:Int)(n:Int)(d:Nat)(hd:0<d):bH (h*(bH n d).den+(bH n d).num) ((bH n d).den).toNat=bH (h*d+n) d:=by
 obtain ⟨g,a,hg,f,e1,e2,b⟩:=xw n d hd;have k1:h*(d:Int)+n=(g:Int)*(h*(a:Int)+(bH n d).num):=by
  rw[Int.mul_add,<-e2,e1,Int.natCast_mul,Int.mul_left_comm]
 rw[b];have c:((a:Nat):Int).toNat=a:=Int.toNat_natCast a;rw[c,k1];have e:bH ((g:Int)*(h*(a:Int)+(bH n d).num)) d=bH ((g:Int)*(h*(a:Int)+(bH n d).num)) (g*a):=congrArg _ e1;rw[e,xu g hg]
theorem HL (u:ak)(F:Fit u)(p:Int)(a z:bY)(g:u.av[0]?=some a)(j:u.av[u.av.length - 1]?=some z)(l:a.aH<=p)(m:p<=z.aH):
  ∃r,iW u p=some r/\qw u p=some r/\Sm r 7200 60/\∃(k:Nat) (x y:bY) (d:Nat),u.av[k]?=some x/\u.av[k+1]?=some y/\x.aH<=p/\p<=y.aH/\y.aH - x.aH=d/\0<d/\r=bH (x.high*d+(y.high - x.high)*(p - x.aH)) d:=by
 have o:=F.av
 obtain ⟨k,x,y,-,b,e,q,h,t,v⟩:=piece u p o.2 z j m (u.av.length - 2) 0 fu a (u.av[1]'(by omega)) (by omega) (Nat.lt_of_le_of_lt (show u.av.length - 2<=5 by omega) (by decide)) g (List.getElem?_eq_getElem _)
 have H:k+1<u.av.length:=(List.getElem?_eq_some_iff.1 e).1
 have I:=F.gm k x b
 have J:=F.gm (k+1) y e
 have K:=F.qC k x y b e
 have L:=F.bG
 have w:x.aH<=p:=by
  rcases h with rfl|h
  ·rw[g] at b;cases b;exact l
  ·omega
 have A:IntKind.i64.wrap (((k+1:Nat):Int) - 1)=(k:Int):=by rw[cc (by omega)];omega
 have w1:IntKind.i64.wrap (y.high - x.high)=y.high - x.high:=cc (by omega)
 have w2:IntKind.i64.wrap (p - x.aH)=p - x.aH:=cc (by omega)
 have w3:IntKind.i64.wrap (y.aH - x.aH)=y.aH - x.aH:=cc (by omega)
 have B:((y.high - x.high)*(p - x.aH)).natAbs<=60*60:=dy (by omega) (by omega)
 have i:(x.high*(y.aH - x.aH)).natAbs<=60*60:=dy (by omega) (by omega)
 obtain ⟨d,hd⟩:∃d:Nat,y.aH - x.aH=d:=⟨(y.aH - x.aH).toNat,by omega⟩
 generalize f:(y.high - x.high)*(p - x.aH)=n at B
 have c:0<d:=by omega
 have M:d<=60:=by omega
 have s1:=iZ n d c
 have C:Sm (bH n d) 3600 60:=⟨Nat.le_trans s1.num (by omega),s1.den.1,by have:=s1.den.2;omega⟩
 have D:Sm (⟨x.high,1⟩:an) 60 1:=⟨by show x.high.natAbs<=60;omega,by show (0:Int)<1;omega,by show (1:Int)<=((1:Nat):Int);omega⟩
 refine ⟨bH (x.high*d+n) d,?_,?_,?_,k,x,y,d,b,e,w,q,hd,c,by rw[f]⟩
 ·unfold iW
  have E:aR (nu u p) fu 1=some (.nx ((k+1:Nat):Int)):=t
  rw[E]
  simp only[ag,aB]
  rw[A,qE b,qE e]
  simp only[gd]
  rw[w1,w2,w3,f,hd,ej (by omega),qz n d (by omega) c (by omega)]
  simp only
  rw[tr D C (by omega) (by omega)]
  show some (bH (x.high*(bH n d).den+(bH n d).num*1) (1*(bH n d).den).toNat)=_
  rw[Int.mul_one,Int.one_mul,Bq x.high n d c]
 ·unfold qw
  have G:aR (s9 u p) fu 0=ag (tu x y p) fun r=>some (.rt r):=v
  rw[G]
  unfold tu
  rw[w1,w2,w3,ej (n:=x.high*(y.aH - x.aH)) (by omega),f,ej (n:=n) (by omega),hd]
  rw[hd] at i
  rw[ej (n:=x.high*(d:Int)+n) (by omega),qA (x.high*d+n) d (by omega) c (by omega)]
  rfl
 ·have s:=iZ (x.high*d+n) d c
  rw[hd] at i
  exact ⟨Nat.le_trans s.num (by omega),s.den.1,by have:=s.den.2;omega⟩
theorem Br (u:ak)(F:Fit u)(p:Int)(a z:bY)(b:u.av[0]?=some a)(c:u.av[u.av.length - 1]?=some z)(d:a.aH<=p)(e:p<=z.aH):
  ∃r,iW u p=some r/\qw u p=some r/\Sm r 7200 60:=by
 obtain ⟨r,f,g,h,-⟩:=HL u F p a z b c d e
 exact ⟨r,f,g,h⟩
def Bs:ak:=⟨0,0,(⟨0,0⟩:an),([]:List bY),([]:List bN),([]:List b6),([]:List bU)⟩
theorem Bt {u:ak}{f:ak->Option Int}{x:Int}(h:e4 u=some 0)(a:f u=some x):eU u [f]=some (cond (x != 0) (Bs,x) (u,0)):=by
 unfold eU;rw[h];simp only[ag,bne_self_eq_false,cond_false];unfold bB qd;simp only[a,ag];cases (x != 0)<;>rfl
theorem qF (u:ak)(F:Fit u)(p:Int):∃a z,u.av[0]?=some a/\u.av[u.av.length - 1]?=some z/\ef u p=some (bI p a.aH z.aH)/\mz u p=some (bI p a.aH z.aH):=by
 have d:=F.av;have b:u.av[0]?=some (u.av[0]'(by omega)):=List.getElem?_eq_getElem _;have c:u.av[u.av.length - 1]?=some (u.av[u.av.length - 1]'(by omega)):=List.getElem?_eq_getElem _;have hw:IntKind.i64.wrap ((u.av.length:Int) - 1)=((u.av.length - 1:Nat):Int):=by rw[cc (by omega)];omega
 refine ⟨_,_,b,c,?_⟩;have k:ef u p=some (bI p (u.av[0]'(by omega)).aH (u.av[u.av.length - 1]'(by omega)).aH):=by
  unfold ef;have e0:bf u.av 0=some (u.av[0]'(by omega)):=b;rw[hw,e0,qE c,jB];simp only[ag,eM]
 exact ⟨k,k⟩
theorem HM {n m:Int}{d e:Nat}(hd:0<d)(he:0<e)(h:n*(e:Int)=m*(d:Int)):bH n d=bH m e:=by
 have a:=xu e he n d;have b:=xu d hd m e;rw[<-a,<-b];have e1:(e:Int)*n=(d:Int)*m:=by rw[Int.mul_comm,h,Int.mul_comm]
 rw[e1,Nat.mul_comm e d]
theorem oa (n:Int)(d:Nat)(hd:0<d):(bH n d).num*(d:Int)=n*(bH n d).den/\0<(bH n d).den:=by
 obtain ⟨g,a,hg,c,e1,e2,b⟩:=xw n d hd;refine ⟨?_,by rw[b];omega⟩;rw[b];have k1:(d:Int)=(g:Int)*(a:Int):=by rw[<-Int.natCast_mul];exact congrArg _ e1
 calc (bH n d).num*(d:Int)=(bH n d).num*((g:Int)*(a:Int)):=by rw[<-k1]
  _=((g:Int)*(bH n d).num)*(a:Int):=by rw[<-Int.mul_assoc,Int.mul_comm (bH n d).num]
  _=n*(a:Int):=by rw[<-e2]
theorem qG {a b:an}{A B C D:Nat}(c:Sm a A B)(hb:Sm b C D)(h:A*D<=9000000000000000000)(h':C*B<=9000000000000000000):k6 a b=some (decide (a.num*b.den<b.num*a.den))/\eF a b=some (decide (a.num*b.den<b.num*a.den)):=by
 have d:=dy c.num (show b.den.natAbs<=D by have:=hb.den;omega);have e:=dy hb.num (show a.den.natAbs<=B by have:=c.den;omega);have k:k6 a b=some (decide (a.num*b.den<b.num*a.den)):=by
  unfold k6;rw[ej (n:=a.num*b.den) (by omega),ej (n:=b.num*a.den) (by omega)]
 exact ⟨k,k⟩
theorem HN {h md a d e b f c N:Int}(g:d*b=N*md)(i:e*f=c*a):(h*(md*a)+d*e)*(b*f)=(h*b*f+N*c)*(md*a):=by
 grind
theorem Bu (u:ak)(F:Fit u)(s:aQ)(hs:(1<=s.back/\s.back<=20)/\0<=s.high/\s.high<=60)(at_:Int)(aH:Int)(H:0<=aH/\aH<=60)(e:an)(he:Sm e 10000 100):
  ∃c,j4 u s at_ ⟨aH,e⟩=some ⟨⟨aH,e⟩,at_,c⟩/\mA u s aH e=some c/\c=bH (s.high*e.den*(aH+s.back)+(e.num - s.high*e.den)*(u.bG+s.back)) (e.den*(aH+s.back)).toNat:=by
 have I:=F.bG
 have w1:IntKind.i64.wrap (u.bG+s.back)=u.bG+s.back:=cc (by omega)
 have w2:IntKind.i64.wrap (aH+s.back)=aH+s.back:=cc (by omega)
 obtain ⟨f,b⟩:∃f:Nat,aH+s.back=f:=⟨(aH+s.back).toNat,by omega⟩
 have d:0<f:=by omega
 have J:f<=80:=by omega
 generalize m:u.bG+s.back=c at*
 have o:c.natAbs<=80:=by omega
 have p:Sm (⟨s.high,1⟩:an) 60 1:=⟨by show s.high.natAbs<=60;omega,by show (0:Int)<1;omega,by show (1:Int)<=((1:Nat):Int);omega⟩
 obtain ⟨a,j⟩:∃n:Nat,e.den=n:=⟨e.den.toNat,by have:=he.den;omega⟩
 have g:0<a:=by have:=he.den;omega
 have K:a<=100:=by have:=he.den;omega
 have A:(s.high*e.den).natAbs<=60*100:=dy (by omega) (by omega)
 have b2:(e.num - s.high*e.den).natAbs<=16000:=by have:=he.num;omega
 have q:=Bo he p (by omega) (by omega) (by omega)
 have e1:e.num*(1:Int) - s.high*e.den=e.num - s.high*e.den:=by rw[Int.mul_one]
 have e2:(e.den*(1:Int)).toNat=a:=by rw[Int.mul_one,j,Int.toNat_natCast]
 rw[show ((⟨s.high,1⟩:an).den)=(1:Int) from rfl,show ((⟨s.high,1⟩:an).num)=s.high from rfl,e1,e2] at q
 generalize B:e.num - s.high*e.den=N at*
 have sm:=iZ N a g
 have r:=iZ c f d
 have t:=oa N a g
 have v:=oa c f d
 have L:((bH N a).num*(bH c f).num).natAbs<=16000*80:=dy (Nat.le_trans sm.num b2) (Nat.le_trans r.num o)
 have O:((bH N a).den*(bH c f).den).natAbs<=100*80:=dy (by have:=sm.den;omega) (by have:=r.den;omega)
 have P:0<(bH N a).den*(bH c f).den:=Int.mul_pos t.2 v.2
 obtain ⟨M,w⟩:∃M:Nat,(bH N a).den*(bH c f).den=M:=⟨((bH N a).den*(bH c f).den).toNat,by omega⟩
 have h:0<M:=by omega
 have C:=qz c f (by omega) d (by omega)
 have D:=qz ((bH N a).num*(bH c f).num) M (by omega) h (by omega)
 have sq:=iZ ((bH N a).num*(bH c f).num) M h
 have E:Sm (bH ((bH N a).num*(bH c f).num) M) 1280000 8000:=⟨Nat.le_trans sq.num (by omega),sq.den.1,by have:=sq.den.2;omega⟩
 have x:=tr p E (by omega) (by omega)
 have G:s.high*(bH ((bH N a).num*(bH c f).num) M).den+(bH ((bH N a).num*(bH c f).num) M).num*1=s.high*(bH ((bH N a).num*(bH c f).num) M).den+(bH ((bH N a).num*(bH c f).num) M).num:=by rw[Int.mul_one]
 rw[show ((⟨s.high,1⟩:an).den)=(1:Int) from rfl,show ((⟨s.high,1⟩:an).num)=s.high from rfl,G,Int.one_mul,Bq s.high _ M h] at x
 have k:e.den*(aH+s.back)=((a*f:Nat):Int):=by rw[j,b,Int.natCast_mul]
 have i:(e.den*(aH+s.back)).toNat=a*f:=by rw[k,Int.toNat_natCast]
 have y:bH (s.high*(M:Int)+(bH N a).num*(bH c f).num) M=bH (s.high*e.den*(aH+s.back)+N*c) (a*f):=by
  refine HM h (Nat.mul_pos g d) ?_
  rw[Int.natCast_mul,<-w,b,j]
  exact HN (by rw[t.1]) (by rw[v.1])
 refine ⟨_,?_,?_,rfl⟩
 ·unfold j4
  have l:IntKind.i64.wrap (f:Int)=f:=cc (by omega)
  simp only[gd,ag,q,m,w1,b,l,C]
  rw[ej (by omega),ej (n:=(bH N a).den*(bH c f).den) (by omega),w,D]
  simp only[x]
  rw[b] at i y
  rw[i,y]
 ·unfold mA
  have l:IntKind.i64.wrap (f:Int)=f:=cc (by omega)
  have Q:(s.high*e.den*(f:Int)).natAbs<=6000*80:=dy A (by omega)
  have p2:(N*c).natAbs<=16000*80:=dy b2 o
  have p3:(e.den*(f:Int)).natAbs<=100*80:=dy (by omega) (by omega)
  simp only[m,w1,b,l]
  rw[ej (n:=s.high*e.den) (by omega),B,ej (n:=N) (by omega),ej (n:=s.high*e.den*(f:Int)) (by omega),ej (n:=N*c) (by omega),ej (n:=s.high*e.den*(f:Int)+N*c) (by omega),ej (n:=e.den*(f:Int)) (by omega)]
  rw[b] at k i
  have z:=qA (s.high*e.den*(f:Int)+N*c) (a*f) (by omega) (Nat.mul_pos g d) (by omega)
  rw[i]
  rw[<-k] at z
  rw[z]
  rfl
theorem HO (s:aQ)(u:ak):eJ s u=xj s:=rfl
def xx (s:aQ):Int:=cond (bI s.back 1 20) (cond (bI s.high 0 60) 0 1) 1
theorem HP (s:aQ):xj s=some (xx s):=by
 unfold xj xx;simp only[eM,ag];cases bI s.back 1 20<;>cases bI s.high 0 60<;>rfl
def dL (u:ak)(s:aQ)(x:bY):an:=bH (s.high*1*(x.aH+s.back)+(x.high - s.high*1)*(u.bG+s.back)) (1*(x.aH+s.back)).toNat
theorem Bv (u:ak)(F:Fit u)(s:aQ)(hs:(1<=s.back/\s.back<=20)/\0<=s.high/\s.high<=60)(i:Nat)(x:bY)(a:u.av[i]?=some x)(at_:Int):
  j4 u s at_ ⟨x.aH,⟨x.high,1⟩⟩=some ⟨⟨x.aH,⟨x.high,1⟩⟩,at_,dL u s x⟩/\mA u s x.aH ⟨x.high,1⟩=some (dL u s x):=by
 have p:=F.gm i x a
 have f:=F.bG
 have he:Sm (⟨x.high,1⟩:an) 10000 100:=⟨by show x.high.natAbs<=10000;omega,by show (0:Int)<1;omega,by show (1:Int)<=((100:Nat):Int);omega⟩
 obtain ⟨c,b,d,e⟩:=Bu u F s hs at_ x.aH (by omega) ⟨x.high,1⟩ he
 have:c=dL u s x:=e
 subst this
 exact ⟨b,d⟩
theorem Bw (u:ak)(F:Fit u)(s:aQ)(hs:(1<=s.back/\s.back<=20)/\0<=s.high/\s.high<=60)(i:Nat)(x:bY)(a:u.av[i]?=some x):Sm (dL u s x) 10000 100:=by
 have p:=F.gm i x a;have b:=F.bG;unfold dL;rw[Int.mul_one,Int.one_mul];have c:(s.high*(x.aH+s.back)).natAbs<=60*79:=dy (by omega) (by omega);have b2:((x.high - s.high)*(u.bG+s.back)).natAbs<=60*80:=dy (by omega) (by omega);have h:=iZ (s.high*(x.aH+s.back)+(x.high - s.high)*(u.bG+s.back)) (x.aH+s.back).toNat (by omega);exact ⟨Nat.le_trans h.num (by omega),h.den.1,by have:=h.den.2;omega⟩
def foldI {α σ:Type}(g:Nat->α->σ->σ):Nat->List α->σ->σ
 |_,[],s=>s
 |i,x::l,s=>foldI g (i+1) l (g i x s)
theorem jD {α σ ρ:Type}{f:Nat->α->σ->Option (Fl σ ρ)}{g:Nat->α->σ->σ}{I:Nat->σ->Prop}:∀(l:List α) (i:Nat) (s:σ),I i s->(∀j x s,l[j]?=some x->I (i+j) s->f (i+j) x s=some (.nx (g (i+j) x s))/\I (i+j+1) (g (i+j) x s))->
  bB f i l s=some (.nx (foldI g i l s))/\I (i+l.length) (foldI g i l s)
 |[],i,s,hs,_=>⟨rfl,hs⟩
 |x::l,i,s,hs,h=>by
  obtain ⟨a,b⟩:=h 0 x s rfl hs
  simp only[Nat.add_zero] at a b
  unfold bB foldI
  rw[a]
  have:=jD l (i+1) _ b fun j y s c hs=>by
   have:=h (j+1) y s (by simpa using c) (by rwa [show i+(j+1)=i+1+j by omega])
   rwa [show i+(j+1)=i+1+j by omega] at this
  rwa [show i+1+l.length=i+(x::l).length by simp;omega] at this
theorem Bx {α σ τ ρ:Type}{f:τ->Option (Fl τ ρ)}{g:Nat->α->σ->σ}{I:Nat->σ->Prop}(e:σ->Int->τ)(l:List α)(h:∀(i:Nat) x s,l[i]?=some x->I i s->f (e s (i:Int))=some (.nx (e (g i x s) ((i+1:Nat):Int)))/\I (i+1) (g i x s))(a:∀s,f (e s (l.length:Int))=some (.bk (e s (l.length:Int)))):
  ∀(k i n:Nat) (s:σ),I i s->i+k=l.length->k<n->aR f n (e s (i:Int))=some (.nx (e (foldI g i (l.drop i) s) (l.length:Int)))/\I l.length (foldI g i (l.drop i) s)
 |0,i,n+1,s,hs,hi,_=>by
  obtain rfl:i=l.length:=by omega
  unfold aR
  rw[a,List.drop_length]
  exact ⟨rfl,hs⟩
 |k+1,i,n+1,s,hs,hi,m=>by
  have b:i<l.length:=by omega
  have c:l[i]?=some l[i]:=List.getElem?_eq_getElem b
  obtain ⟨d,j⟩:=h i _ s c hs
  unfold aR
  rw[d,List.drop_eq_getElem_cons b]
  unfold foldI
  exact Bx e l h a k (i+1) n _ j (by omega) (by omega)
theorem ob {α σ τ ρ:Type}{f:τ->Option (Fl τ ρ)}{g:Nat->α->σ->σ}{I:Nat->σ->Prop}(e:σ->Int->τ)(l:List α)(a:l.length<=1000)(h:∀(i:Nat) x s,l[i]?=some x->I i s->f (e s (i:Int))=some (.nx (e (g i x s) ((i+1:Nat):Int)))/\I (i+1) (g i x s))(b:∀s,f (e s (l.length:Int))=some (.bk (e s (l.length:Int))))(s:σ)(hs:I 0 s):
  aR f fu (e s 0)=some (.nx (e (foldI g 0 l s) (l.length:Int)))/\I l.length (foldI g 0 l s):=by
 have:=Bx e l h b l.length 0 fu s hs (by omega) (Nat.lt_of_le_of_lt a (by decide))
 simpa using this
theorem By {α σ:Type}{g g':Nat->α->σ->σ}:∀(l:List α) (i:Nat) (s:σ),(∀j x s,i<=j->g j x s=g' j x s)->foldI g i l s=foldI g' i l s
 |[],_,_,_=>rfl
 |x::l,i,s,h=>by
  unfold foldI
  rw[h i x s (Nat.le_refl _)]
  exact By l (i+1) _ fun j x s a=>h j x s (by omega)
def bA (a b:an):Bool:=decide (a.num*b.den<b.num*a.den)
abbrev SR (r:an):Prop:=Sm r 2000000 8000
theorem Sm.mono {r:an}{A B a b:Nat}(h:Sm r A B)(c:A<=a)(hb:B<=b):Sm r a b:=⟨Nat.le_trans h.num c,h.den.1,by have:=h.den.2;omega⟩
theorem tv (u:ak)(F:Fit u)(s:aQ)(hs:(1<=s.back/\s.back<=20)/\0<=s.high/\s.high<=60)(i:Nat)(x:bY)(a:u.av[i]?=some x):SR (dL u s x):=(Bw u F s hs i x a).mono (by decide) (by decide)
theorem mI {a b:an}(c:SR a)(hb:SR b):k6 a b=some (bA a b)/\eF a b=some (bA a b):=qG c hb (by decide) (by decide)
def gB (u:ak)(s:aQ)(i:Nat)(x:bY)(st:Int×an):Int×an:=cond (bA st.2 (dL u s x)) ((i:Int),dL u s x) st
def iu (u:ak)(s:aQ)(i:Nat)(x:bY):bC:=⟨⟨x.aH,⟨x.high,1⟩⟩,(i:Int),dL u s x⟩
def fh (u:ak)(s:aQ):Nat->List bY->List bC
 |_,[]=>[]
 |i,x::l=>iu u s i x::fh u s (i+1) l
theorem Bz (u:ak)(s:aQ):∀(l:List bY) (i:Nat) (a:List bC),foldI (fun i x st=>st++[iu u s i x]) i l a=a++fh u s i l
 |[],i,a=>by simp[foldI,fh]
 |x::l,i,a=>by simp[foldI,fh,Bz u s l (i+1)]
def gC (i:Nat)(x:bC)(st:bC):bC:=cond (bA st.high x.high) x st
theorem BA (u:ak)(s:aQ):∀(l:List bY) (i j:Nat) (c:bC),let r:=foldI gC j (fh u s i l) c;(r.at_,r.high)=foldI (gB u s) i l (c.at_,c.high)
 |[],i,j,c=>rfl
 |x::l,i,j,c=>by
  simp only[fh,foldI]
  have:=BA u s l (i+1) (j+1) (gC j (iu u s i x) c)
  simp only at this
  rw[this]
  congr 1
  unfold gC gB iu
  cases bA c.high (dL u s x)<;>rfl
theorem xy (n:Int):gd n=some ⟨n,1⟩:=rfl
def eG (u:ak)(s:aQ):Int×an:=match u.av with
 |[]=>(0,⟨0,0⟩)
 |x::l=>foldI (gB u s) 1 l (0,dL u s x)
section
variable {u : ak} {s : aQ} (F : Fit u) (hs : (1 ≤ s.back ∧ s.back ≤ 20) ∧ 0 ≤ s.high ∧ s.high ≤ 60)
include F hs
theorem HQ:bB (nt u s) 0 u.av ([]:List bC)=some (.nx (fh u s 0 u.av)):=by
 have c:=F.av;have:=jD (f:=nt u s) (ρ:=bC) (g:=fun i x st=>st++[iu u s i x]) (I:=fun i st=>st.length=i) u.av 0 [] rfl (fun j x st a b=>?_)
 ·rw[this.1,Bz];rfl
 ·have d:j<u.av.length:=(List.getElem?_eq_some_iff.1 a).1;refine ⟨?_,by simp[b]⟩;unfold nt;rw[Nat.zero_add] at b ⊢;simp only[xy,ag,(Bv u F s hs j x a (j:Int)).1];unfold cY;rw[if_pos (by simp;omega)];rfl
theorem BB:∀(l:List bY) (i:Nat),(∀(j:Nat) x,l[j]?=some x->u.av[i+j]?=some x)->∀(j:Nat) c,(fh u s i l)[j]?=some c->SR c.high
 |[],_,_,j,c,h=>by simp[fh] at h
 |x::l,i,a,0,c,h=>by
  simp[fh] at h
  subst h
  exact tv u F s hs i x (a 0 x rfl)
 |x::l,i,a,j+1,c,h=>BB l (i+1) (fun j y b=>by have:=a (j+1) y (by simpa using b);rwa [show i+(j+1)=i+1+j by omega] at this) j c (by simpa [fh] using h)
theorem xz:∃c,kY u s=some c/\(c.at_,c.high)=eG u s/\SR c.high/\xk u s=some (eG u s):=by
 have d:=F.av;have p:=HQ F hs;obtain ⟨a,rest,he⟩:∃x l,u.av=x::l:=by
  cases h:u.av with
  |nil=>rw[h] at d;simp at d
  |cons x l=>exact ⟨x,l,rfl⟩
 have q:u.av[0]?=some a:=by rw[he];rfl
 have r:∀(j:Nat) x,rest[j]?=some x->u.av[1+j]?=some x:=fun j x h=>by rw[he,Nat.add_comm];simpa using h
 have w:rest.length<=4:=by rw[he] at d;simp at d;omega
 have t:SR (dL u s a):=tv u F s hs 0 a q
 have hg:=jD (f:=pY iT) (ρ:=bC) (g:=gC) (I:=fun _ c=>SR c.high) (fh u s 1 rest) 0 (iu u s 0 a) t (fun j c st n e=>by
  have b:=BB F hs rest 1 r j c n;refine ⟨?_,?_⟩
  ·unfold pY iT gC;simp only[(mI e b).2,ag];cases bA st.high c.high<;>rfl
  ·unfold gC;cases bA st.high c.high
   ·exact e
   ·exact b)
 refine ⟨foldI gC 0 (fh u s 1 rest) (iu u s 0 a),?_,?_,hg.2,?_⟩
 ·unfold kY;rw[p,he];simp only[ag,aB,fh];rw[show bf (iu u s 0 a::fh u s (0+1) rest) 0=some (iu u s 0 a) from rfl];simp only;have:jS (iu u s 0 a::fh u s (0+1) rest) 1 (((iu u s 0 a::fh u s (0+1) rest).length:Nat):Int)=some (fh u s 1 rest):=by
   unfold jS;rw[if_pos (by simp only[List.length_cons];omega)];simp
  rw[this];simp only;unfold l9;rw[hg.1];rfl
 ·have:=BA u s rest 1 0 (iu u s 0 a);simp only at this;rw[this];unfold eG;rw[he];rfl
 ·unfold xk;have v:=ob (f:=s8 u s) (g:=fun i x st=>if i=0 then ((0:Int),dL u s x) else gB u s i x st) (I:=fun i st=>i=0\/SR st.2) (fun st i=>(st.1,i,st.2)) u.av (by omega) (fun i x st k e=>?_) (fun st=>?_) ((0:Int),(⟨0,0⟩:an)) (.inl rfl)
  ·rw[v.1,he];simp only[ag,aB,foldI,if_pos];rw[By (g':=gB u s) rest (0+1) _ (fun j x st n=>if_neg (by omega))];unfold eG;rw[he]
  ·have y:i<u.av.length:=(List.getElem?_eq_some_iff.1 k).1;have b:=tv u F s hs i x k;unfold s8;simp only;rw[show decide ((i:Int)<(u.av.length:Int))=true by simp;omega];simp only[cond_true];rw[show bf u.av (i:Int)=some x by unfold bf;rw[if_pos (by omega)];simpa using k];simp only[ag,(Bv u F s hs i x k 0).2];have hw:IntKind.i64.wrap ((i:Int)+1)=((i+1:Nat):Int):=by rw[cc (by omega)];rfl
   rw[hw];by_cases m:i=0
   ·subst m;exact ⟨rfl,.inr b⟩
   ·have o:SR st.2:=e.resolve_left m;rw[show (((i:Nat):Int)==0)=false by simp;omega];simp only[cond_false,(mI o b).1,if_neg m];unfold gB;cases bA st.2 (dL u s x)
    ·exact ⟨rfl,.inr o⟩
    ·exact ⟨rfl,.inr b⟩
  ·unfold s8;simp
end
section
variable {u : ak} {s : aQ} (F : Fit u) (hs : (1 ≤ s.back ∧ s.back ≤ 20) ∧ 0 ≤ s.high ∧ s.high ≤ 60)
include F hs
theorem xA:Sm (⟨u.bO,1⟩:an) 60 1:=⟨by have:=F.bO;show u.bO.natAbs<=60;omega,by show (0:Int)<1;omega,by show (1:Int)<=((1:Nat):Int);omega⟩
theorem xB:SR (eG u s).2:=by
 obtain ⟨c,d,a,b,e⟩:=xz F hs;rw[<-a];exact b
end
theorem BC {a b c:an}(d:0<a.den)(hb:0<b.den)(h:0<c.den)(e:bA b a=false)(f:bA b c=true):bA c a=false:=by
 unfold bA at*;simp only[decide_eq_false_iff_not,decide_eq_true_eq,Int.not_lt] at*;have k1:a.num*b.den*c.den<=b.num*a.den*c.den:=Int.mul_le_mul_of_nonneg_right e (by omega);have i:b.num*c.den*a.den<c.num*b.den*a.den:=Int.mul_lt_mul_of_pos_right f d;have g:b.den*(a.num*c.den)<b.den*(c.num*a.den):=by
  have e1:b.den*(a.num*c.den)=a.num*b.den*c.den:=by grind
  have e2:b.den*(c.num*a.den)=c.num*b.den*a.den:=by grind
  have j:b.num*a.den*c.den=b.num*c.den*a.den:=by grind
  omega
 exact Int.le_of_lt (Int.lt_of_mul_lt_mul_left g (by omega))
theorem k8 (a:an):bA a a=false:=by unfold bA;simp
theorem BD {a b:an}(h:bA a b=true):bA b a=false:=by
 unfold bA at*;simp only[decide_eq_false_iff_not,decide_eq_true_eq,Int.not_lt] at*;omega
def od (u:ak)(s:aQ)(aH:Int)(e:an):an:=bH (s.high*e.den*(aH+s.back)+(e.num - s.high*e.den)*(u.bG+s.back)) (e.den*(aH+s.back)).toNat
def cX (u:ak)(x:bN):an:=match iW u x.place with
 |some r=>bH (r.num+x.di*r.den) r.den.toNat
 |none=>⟨0,0⟩
def dX (u:ak)(s:aQ)(x:bN):an:=od u s x.place (cX u x)
section
variable {u : ak} {s : aQ} (F : Fit u) (hs : (1 ≤ s.back ∧ s.back ≤ 20) ∧ 0 ≤ s.high ∧ s.high ≤ 60)
include F hs
theorem xC {i:Nat}{x:bN}(t:u.props[i]?=some x):∃r,iW u x.place=some r/\qw u x.place=some r/\jv r ⟨x.di,1⟩=some (cX u x)/\
  ir (IntKind.i64.wrap (r.num+IntKind.i64.wrap (x.di*r.den))) r.den=some (cX u x)/\(∀at_,j4 u s at_ ⟨x.place,cX u x⟩=some ⟨⟨x.place,cX u x⟩,at_,dX u s x⟩)/\mA u s x.place (cX u x)=some (dX u s x)/\SR (dX u s x):=by
 obtain ⟨v,p2,p3⟩:=F.prop i x t
 obtain ⟨a,z,j,k,l,H⟩:=qF u F x.place
 rw[v] at l
 have hb:bI x.place a.aH z.aH=true:=(Option.some.inj l).symm
 unfold bI at hb
 simp only[Bool.and_eq_true,decide_eq_true_eq] at hb
 have I:=F.gm _ a j
 have J:=F.gm _ z k
 have K:=F.bG
 obtain ⟨r,m,w,b⟩:=Br u F x.place a z j k hb.1 hb.2
 have sh:Sm (⟨x.di,1⟩:an) 20 1:=⟨by show x.di.natAbs<=20;omega,by show (0:Int)<1;omega,by show (1:Int)<=((1:Nat):Int);omega⟩
 have L:(x.di*r.den).natAbs<=20*60:=dy (by omega) (by have:=b.den;omega)
 obtain ⟨d,hd⟩:∃d:Nat,r.den=d:=⟨r.den.toNat,by have:=b.den;omega⟩
 have o:0<d:=by have:=b.den;omega
 have M:d<=60:=by have:=b.den;omega
 have N:=b.num
 have h:cX u x=bH (r.num+x.di*r.den) d:=by
  unfold cX
  rw[m]
  simp only
  rw[hd,Int.toNat_natCast]
 have e:Sm (cX u x) 10000 100:=by
  rw[h]
  have:=iZ (r.num+x.di*r.den) d o
  exact ⟨Nat.le_trans this.num (by omega),this.den.1,by have:=this.den.2;omega⟩
 have y:=tr b sh (by decide) (by decide)
 have p:=qA (r.num+x.di*r.den) d (by omega) o (by omega)
 have q:∀at_,j4 u s at_ ⟨x.place,cX u x⟩=some ⟨⟨x.place,cX u x⟩,at_,dX u s x⟩/\mA u s x.place (cX u x)=some (dX u s x):=fun at_=>by
  obtain ⟨c,c1,c2,c3⟩:=Bu u F s hs at_ x.place ⟨by omega,by omega⟩ (cX u x) e
  subst c3
  exact ⟨c1,c2⟩
 refine ⟨r,m,w,?_,?_,fun at_=>(q at_).1,(q 0).2,?_⟩
 ·rw[y,h]
  show some (bH (r.num*1+x.di*r.den) (r.den*1).toNat)=_
  rw[Int.mul_one,Int.mul_one,hd,Int.toNat_natCast]
 ·rw[ej (n:=x.di*r.den) (by omega),ej (by omega),h]
  rw[hd] at p ⊢
  exact p
 ·unfold dX od
  obtain ⟨f,A⟩:∃f:Nat,x.place+s.back=f:=⟨(x.place+s.back).toNat,by omega⟩
  obtain ⟨g,B⟩:∃n:Nat,(cX u x).den=n:=⟨(cX u x).den.toNat,by have:=e.den;omega⟩
  have C:0<g:=by have:=e.den;omega
  have D:g<=100:=by have:=e.den;omega
  have O:=e.num
  have E:(s.high*(cX u x).den).natAbs<=60*100:=dy (by omega) (by omega)
  have b2:(s.high*(cX u x).den*(x.place+s.back)).natAbs<=6000*80:=dy E (by omega)
  have b3:(((cX u x).num - s.high*(cX u x).den)*(u.bG+s.back)).natAbs<=16000*80:=dy (by omega) (by omega)
  have G:((cX u x).den*(x.place+s.back)).toNat=g*f:=by rw[B,A,<-Int.natCast_mul,Int.toNat_natCast]
  rw[G]
  have:=iZ (s.high*(cX u x).den*(x.place+s.back)+((cX u x).num - s.high*(cX u x).den)*(u.bG+s.back)) (g*f) (Nat.mul_pos C (by omega))
  have P:g*f<=100*80:=Nat.mul_le_mul D (by omega)
  exact ⟨Nat.le_trans this.num (by omega),this.den.1,by have:=this.den.2;omega⟩
end
def same (x:bN)(e:an)(y:bC):Bool:=(y.spot.aH==x.place)&&((y.spot.high.num==e.num)&&(y.spot.high.den==e.den))
def gT (u:ak)(s:aQ)(i:Nat)(x:bN)(st:List bC):List bC:=cond (st.any (same x (cX u x))) st (st++[⟨⟨x.place,cX u x⟩,(i:Int),dX u s x⟩])
def cm (a b:an):an:=cond (bA a b) b a
def gM (u:ak)(s:aQ)(i:Nat)(x:bN)(b:an):an:=if i=0 then dX u s x else cm b (dX u s x)
theorem BE (x:bN)(e:an):∀(l:List bC) (i:Nat),bB (p5 x e) i l ()=some (cond (l.any (same x e)) (.br 1 ()) (.nx ()):Fl Unit (List bC))
 |[],i=>rfl
 |y::l,i=>by
  unfold bB p5
  rw[show ((y.spot.aH==x.place)&&((y.spot.high.num==e.num)&&(y.spot.high.den==e.den)))=same x e y from rfl,List.any_cons]
  cases same x e y
  ·simp only[cond_false,ag,Bool.false_or]
   exact BE x e l (i+1)
  ·rfl
theorem qH {a b:an}(c:SR a)(hb:SR b):fS a b=some (cm a b):=by
 unfold fS cm;simp only[(mI c hb).1,ag];cases bA a b<;>rfl
theorem k9 {a b:an}(c:SR a)(hb:SR b):SR (cm a b):=by unfold cm;cases bA a b;exact c;exact hb
def tw:List bC->an
 |[]=>⟨0,0⟩
 |c::l=>(foldI gC 0 l c).high
theorem BG {α σ:Type}{g:Nat->α->σ->σ}:∀(l:List α) (i:Nat) (y:α) (s:σ),foldI g i (l++[y]) s=g (i+l.length) y (foldI g i l s)
 |[],i,y,s=>rfl
 |x::l,i,y,s=>by
  simp only[List.cons_append,foldI,List.length_cons]
  rw[BG l (i+1) y]
  congr 1
  omega
theorem HR (c:bC)(l:List bC)(y:bC):tw (c::l++[y])=cm (tw (c::l)) y.high:=by
 show (foldI gC 0 (l++[y]) c).high=_;rw[BG];show (cond (bA (foldI gC 0 l c).high y.high) y (foldI gC 0 l c)).high=cond (bA (foldI gC 0 l c).high y.high) y.high (foldI gC 0 l c).high;cases bA (foldI gC 0 l c).high y.high<;>rfl
structure Tp (u:ak)(s:aQ)(st:List bC)(b:an):Prop where
 ne:st≠[]
 BH:b=tw st
 sm:SR b
 le:∀y∈st,bA b y.high=false/\SR y.high/\y.high=od u s y.spot.aH y.spot.high
theorem Tp.step {u:ak}{s:aQ}{st:List bC}{b:an}(h:Tp u s st b){x:bN}(f:SR (dX u s x))(i:Nat):Tp u s (gT u s i x st) (cm b (dX u s x)):=by
 unfold gT;cases m:st.any (same x (cX u x)) with
 |true=>
  simp only[cond_true];obtain ⟨y,a,g⟩:=List.any_eq_true.1 m;have d:=h.le y a;have e:y.high=dX u s x:=by
   rw[d.2.2];unfold same at g;simp only[Bool.and_eq_true,beq_iff_eq] at g;obtain ⟨e1,e2,j⟩:=g;unfold dX;have:y.spot.high=cX u x:=by
    cases n:y.spot.high;cases o:cX u x;rw[n,o] at e2 j;simp only at e2 j;rw[e2,j]
   rw[e1,this]
  have:cm b (dX u s x)=b:=by
   unfold cm;rw[<-e,d.1];rfl
  rw[this];exact h
 |false=>
  simp only[cond_false];obtain ⟨c,l,rfl⟩:∃c l,st=c::l:=by
   cases st with
   |nil=>exact absurd rfl h.ne
   |cons c l=>exact ⟨c,l,rfl⟩
  refine ⟨by simp,?_,k9 h.sm f,fun y a=>?_⟩
  ·rw[HR,<-h.BH]
  ·rcases List.mem_append.1 a with a|a
   ·have d:=h.le y a;refine ⟨?_,d.2⟩;unfold cm;cases k:bA b (dX u s x) with
    |false=>exact d.1
    |true=>exact BC d.2.1.den.1 h.sm.den.1 f.den.1 d.1 k
   ·simp at a;subst a;refine ⟨?_,f,rfl⟩;unfold cm;cases k:bA b (dX u s x) with
    |false=>exact k
    |true=>exact k8 _
theorem Tp.fold {u:ak}{s:aQ}:∀(l:List bN) (i:Nat) (st:List bC) (b:an),1<=i->(∀x∈l,SR (dX u s x))->Tp u s st b->Tp u s (foldI (gT u s) i l st) (foldI (gM u s) i l b)
 |[],_,_,_,_,_,h=>h
 |x::l,i,st,b,hi,a,h=>by
  unfold foldI
  have e:gM u s i x b=cm b (dX u s x):=if_neg (by omega)
  rw[e]
  exact Tp.fold l (i+1) _ _ (by omega) (fun y c=>a y (List.mem_cons_of_mem _ c)) (h.step (a x (List.mem_cons_self ..)) i)
theorem Tp.all {u:ak}{s:aQ}(x:bN)(l:List bN)(b:∀y∈x::l,SR (dX u s y)):Tp u s (foldI (gT u s) 0 (x::l) []) (foldI (gM u s) 0 (x::l) ⟨0,0⟩):=by
 unfold foldI;have c:=b x (List.mem_cons_self ..);refine Tp.fold l 1 _ _ (Nat.le_refl _) (fun y a=>b y (List.mem_cons_of_mem _ a)) ⟨by simp[gT],?_,?_,?_⟩
 ·simp[gT,gM,tw,foldI]
 ·exact c
 ·intro y a;simp[gT] at a;subst a;exact ⟨by simp[gM];exact k8 _,c,rfl⟩
section
variable {u : ak} {s : aQ} (F : Fit u) (hs : (1 ≤ s.back ∧ s.back ≤ 20) ∧ 0 ≤ s.high ∧ s.high ≤ 60)
include F hs
theorem HS:∀x∈u.props,SR (dX u s x):=fun x a=>by
 obtain ⟨i,hi,rfl⟩:=List.getElem_of_mem a
 obtain ⟨r,_,_,_,_,_,_,h⟩:=xC F hs (i:=i) (List.getElem?_eq_getElem hi)
 exact h
theorem HT:jx u s=some (foldI (gT u s) 0 u.props []):=by
 have h:=F.props;unfold jx
 have:=jD (f:=p6 u s) (ρ:=List bC) (g:=gT u s) (I:=fun i st=>st.length<=i) u.props 0 [] (Nat.le_refl _) (fun j x st a b=>by
  have k:j<u.props.length:=(List.getElem?_eq_some_iff.1 a).1;obtain ⟨r,c,l,d,m,e,n,o⟩:=xC F hs a;rw[Nat.zero_add] at b ⊢;unfold p6;simp only[c,ag,xy,d,BE];unfold gT;cases p:st.any (same x (cX u x)) with
  |true=>exact ⟨rfl,by simp only[cond_true];omega⟩
  |false=>
   simp only[cond_false,aB,ag,e];unfold cY;rw[if_pos (by simp;omega)]
   exact ⟨rfl,by simp;omega⟩)
 rw[this.1];rfl
theorem xD:k7 u s=some (foldI (gM u s) 0 u.props ⟨0,0⟩,decide (0<(u.props.length:Int))):=by
 have m:=F.props;unfold k7
 have:=ob (f:=ta u s) (g:=gM u s) (I:=fun i b=>i=0\/SR b) (fun b i=>(i,b)) u.props (by omega) (fun i x b c h=>by
  have n:i<u.props.length:=(List.getElem?_eq_some_iff.1 c).1;obtain ⟨r,o,j,p,k,q,l,a⟩:=xC F hs c;unfold ta;simp only;rw[show decide ((i:Int)<(u.props.length:Int))=true by simp;omega];simp only[cond_true];rw[show bf u.props (i:Int)=some x by unfold bf;rw[if_pos (by omega)];simpa using c];have hw:IntKind.i64.wrap ((i:Int)+1)=((i+1:Nat):Int):=by rw[cc (by omega)];rfl
  simp only[ag,j,k,l,hw];unfold gM;by_cases d:i=0
  ·subst d;have e:cm (dX u s x) (dX u s x)=dX u s x:=by unfold cm;rw[k8];rfl
   rw[show (((0:Nat):Int)==0)=true from rfl];simp only[cond_true,qH a a,e,if_pos];exact ⟨trivial,.inr a⟩
  ·have hb:SR b:=h.resolve_left d;rw[show (((i:Nat):Int)==0)=false by simp;omega];simp only[cond_false,qH hb a,if_neg d]
   exact ⟨trivial,.inr (k9 hb a)⟩) (fun b=>by unfold ta;simp) (⟨0,0⟩:an) (.inl rfl)
 rw[this.1];rfl
theorem BI:(u.props=[]/\jx u s=some []/\k7 u s=some (⟨0,0⟩,false))\/
  ∃st b,jx u s=some st/\k7 u s=some (b,true)/\Tp u s st b:=by
 have a:=HT F hs
 have c:=xD F hs
 have d:=HS F hs
 cases e:u.props with
 |nil=>
  rw[e] at a c
  exact .inl ⟨rfl,a,c⟩
 |cons x l=>
  rw[e] at a c d
  refine .inr ⟨_,_,a,?_,Tp.all x l d⟩
  rw[c]
  rw[show decide (0<((x::l).length:Int))=true by simp]
end
theorem oe {a b c:an}(e:0<a.den)(hb:0<b.den)(f:0<c.den)(d:bA a b=false)(g:bA b c=false):bA a c=false:=by
 cases h:bA a c with
 |false=>rfl
 |true=>
  have:=BC hb e f d h;unfold bA at*;simp only[decide_eq_false_iff_not,decide_eq_true_eq,Int.not_lt] at*;have k1:b.num*a.den*c.den<=a.num*b.den*c.den:=Int.mul_le_mul_of_nonneg_right d (by omega);have i:a.num*c.den*b.den<c.num*a.den*b.den:=Int.mul_lt_mul_of_pos_right h hb;have j:c.num*b.den*a.den<=b.num*c.den*a.den:=Int.mul_le_mul_of_nonneg_right g (by omega);have e1:a.num*b.den*c.den=a.num*c.den*b.den:=by grind
  have e2:c.num*b.den*a.den=c.num*a.den*b.den:=by grind
  have k:b.num*c.den*a.den=b.num*a.den*c.den:=by grind
  omega
theorem HU {a b c:an}(d:0<a.den)(hb:0<b.den)(e:0<c.den)(f:bA a b=true)(g:bA b c=true):bA a c=true:=by
 unfold bA at*;simp only[decide_eq_true_eq] at*;have k1:a.num*b.den*c.den<b.num*a.den*c.den:=Int.mul_lt_mul_of_pos_right f e;have i:b.num*c.den*a.den<c.num*b.den*a.den:=Int.mul_lt_mul_of_pos_right g d;have h:b.den*(a.num*c.den)<b.den*(c.num*a.den):=by
  have e1:b.den*(a.num*c.den)=a.num*b.den*c.den:=by grind
  have e2:b.den*(c.num*a.den)=c.num*b.den*a.den:=by grind
  have j:b.num*a.den*c.den=b.num*c.den*a.den:=by grind
  omega
 exact Int.lt_of_mul_lt_mul_left h (by omega)
theorem BJ {e y:an}(he:SR e)(a:SR y):∀(l:List bC) (b:an),(∀x∈l,SR x.high)->SR b->∀(i j:Nat),
  foldI (fun _ (x:bC) st=>cm st x.high) i l (cm e b)=cm e (foldI (fun _ (x:bC) st=>cm st x.high) j l b)
 |[],b,_,_,i,j=>rfl
 |x::l,b,g,hb,i,j=>by
  unfold foldI
  have c:=g x (List.mem_cons_self ..)
  have key:cm (cm e b) x.high=cm e (cm b x.high):=by
   unfold cm
   cases d:bA e b<;>cases f:bA b x.high<;>simp only[cond_true,cond_false,d,f]
   ·have:=oe he.den.1 hb.den.1 c.den.1 d f
    rw[this];rfl
   ·rw[HU he.den.1 hb.den.1 c.den.1 d f]
    rfl
  rw[key]
  exact BJ he a l _ (fun y a=>g y (List.mem_cons_of_mem _ a)) (k9 hb c) (i+1) (j+1)
theorem BK:∀(l:List bC) (i:Nat) (c:bC),(foldI gC i l c).high=foldI (fun _ (x:bC) st=>cm st x.high) i l c.high
 |[],_,_=>rfl
 |x::l,i,c=>by
  unfold foldI
  rw[BK l (i+1)]
  congr 1
  unfold gC cm
  cases bA c.high x.high<;>rfl
theorem BL {a b:an}(c:SR a)(hb:SR b):ij eF a [b]=some (cm a b):=by
 unfold ij bB pZ;simp only[(mI c hb).2,ag];unfold cm;cases bA a b<;>rfl
theorem HV {f:Nat->bC->an->Option (Fl an an)}(c:f=mg\/f=mh){st:List bC}(d:∀x∈st,SR x.high){e:an}(he:SR e):
  bB f 0 st e=some (.nx (foldI (fun _ (x:bC) st=>cm st x.high) 0 st e))/\SR (foldI (fun _ (x:bC) st=>cm st x.high) 0 st e):=
 jD (I:=fun _ r=>SR r) st 0 e he (fun j x r g a=>by
  have b:=d x (List.mem_of_getElem? g)
  rcases c with rfl|rfl
  ·unfold mg
   simp only[BL a b,ag]
   exact ⟨trivial,k9 a b⟩
  ·unfold mh
   simp only[BL a b,ag]
   exact ⟨trivial,k9 a b⟩)
section
variable {u : ak} {s : aQ} (F : Fit u) (hs : (1 ≤ s.back ∧ s.back ≤ 20) ∧ 0 ≤ s.high ∧ s.high ≤ 60)
include F hs
theorem BM {a b:an}(c:SR a)(hb:SR b):∃d,jw a b=some d/\j8 a b=some d/\Sm d 40000000000 64000000:=by
 have e:=Bo c hb (by decide) (by decide) (by decide);have f:=Bn c hb (by decide) (by decide);refine ⟨_,e,f,?_⟩;have g:=dy c.num (show b.den.natAbs<=8000 by have:=hb.den;omega);have h:=dy hb.num (show a.den.natAbs<=8000 by have:=c.den;omega);have i:=dy (show a.den.natAbs<=8000 by have:=c.den;omega) (show b.den.natAbs<=8000 by have:=hb.den;omega);have j:0<a.den*b.den:=Int.mul_pos c.den.1 hb.den.1;have:=iZ (a.num*b.den - b.num*a.den) (a.den*b.den).toNat (by omega);exact ⟨Nat.le_trans this.num (by omega),this.den.1,by have:=this.den.2;omega⟩
theorem BN:Sm (⟨0,1⟩:an) 1 1:=⟨by decide,by decide,by decide⟩
theorem BO {d:an}(hd:Sm d 40000000000 64000000):∃m,ij eF d [⟨0,1⟩]=some m/\fS d ⟨0,1⟩=some m/\Sm m 40000000000 64000000:=by
 have a:=qG hd (BN F hs) (by decide) (by decide);refine ⟨cond (bA d ⟨0,1⟩) ⟨0,1⟩ d,?_,?_,?_⟩
 ·unfold ij bB pZ;simp only[a.2,ag];unfold bA;cases decide (d.num*(⟨0,1⟩:an).den<(⟨0,1⟩:an).num*d.den)<;>rfl
 ·unfold fS;simp only[a.1,ag];unfold bA;cases decide (d.num*(⟨0,1⟩:an).den<(⟨0,1⟩:an).num*d.den)<;>rfl
 ·cases bA d ⟨0,1⟩
  ·exact hd
  ·exact (BN F hs).mono (by decide) (by decide)
theorem BP {f:Nat->bC->an->Option (Fl an an)}(k:f=mg\/f=mh){e:an}(he:SR e):
  ∃st m,jx u s=some st/\bB f 0 st e=some (.nx m)/\SR m/\((k7 u s=some (⟨0,0⟩,false)/\m=e)\/∃b,k7 u s=some (b,true)/\fS e b=some m):=by
 rcases BI F hs with ⟨_,d,g⟩|⟨st,b,d,g,a⟩
 ·exact ⟨[],e,d,rfl,he,.inl ⟨g,rfl⟩⟩
 ·have h:∀x∈st,SR x.high:=fun x i=>(a.le x i).2.1
  obtain ⟨k1,n⟩:=HV k h he
  refine ⟨st,_,d,k1,n,.inr ⟨b,g,?_⟩⟩
  rw[qH he a.sm]
  obtain ⟨c,l,rfl⟩:∃c l,st=c::l:=by
   cases st with
   |nil=>exact absurd rfl a.ne
   |cons c l=>exact ⟨c,l,rfl⟩
  have j:=h c (List.mem_cons_self ..)
  have e1:b=foldI (fun _ (x:bC) st=>cm st x.high) 0 l c.high:=by rw[a.BH];exact BK l 0 c
  have e2:=BJ he j l c.high (fun x i=>h x (List.mem_cons_of_mem _ i)) j 1 0
  congr 1
  rw[e1,<-e2]
  rfl
theorem xE:∃r,j5 u s=some r/\qx u s=some r/\Sm r 40000000000 64000000:=by
 obtain ⟨c,j,k,g,l⟩:=xz F hs;have e2:c.high=(eG u s).2:=by rw[<-k]
 have p:SR (⟨u.bO,1⟩:an):=(xA F hs).mono (by decide) (by decide);unfold j5 qx;rw[j,l];simp only[ag,xy,<-e2,(mI g p).1,(mI g p).2];cases bA c.high ⟨u.bO,1⟩ with
 |true=>
  simp only[cond_true];obtain ⟨st,m,t1,t2,t3,t4⟩:=BP F hs (.inl rfl) (f:=mg) g;obtain ⟨d,d1,d2,d3⟩:=BM F hs p t3;obtain ⟨z,h,a,e⟩:=BO F hs d3;simp only[t1,t2,aB,d1,h];rcases t4 with ⟨k1,rfl⟩|⟨b,k1,i⟩
  ·simp only[k1,cond_false,d2,a];exact ⟨z,rfl,rfl,e⟩
  ·simp only[k1,cond_true,i,d2,a];exact ⟨z,rfl,rfl,e⟩
 |false=>
  simp only[cond_false];obtain ⟨st,m,t1,t2,t3,t4⟩:=BP F hs (.inr rfl) (f:=mh) p;obtain ⟨d,d1,d2,d3⟩:=BM F hs g t3;obtain ⟨z,h,a,e⟩:=BO F hs d3;simp only[t1,t2,aB,d1,h];rcases t4 with ⟨k1,rfl⟩|⟨b,k1,i⟩
  ·simp only[k1,cond_false,d2,a];exact ⟨z,rfl,rfl,e⟩
  ·simp only[k1,cond_true,i,d2,a];exact ⟨z,rfl,rfl,e⟩
theorem HW:∃b,fQ u s=some b/\tc u s=some b:=by
 obtain ⟨r,c,d,e⟩:=xE F hs;have f:Sm u.aY 20 20:=⟨by have:=F.num;omega,by have:=F.den;omega,by have:=F.den;omega⟩
 have a:=qG f e (by decide) (by decide);unfold fQ tc;simp only[c,d,a.1,a.2,ag];exact ⟨_,rfl,rfl⟩
end
def qI (a:(List (List Int)))(b:Int)(c:b6)(st:((List (List Int))×Int)):Option (Fl ((List (List Int))×Int) (List (List Int))):=
 cond (decide (st.2<=c.high.high)) (ag (bf a b) fun d=>ag (cY ([]:List Int) d) fun e=>ag (cY e ([st.2])) fun f=>ag (cY st.1 ([f])) fun g=>some (.nx (g,(IntKind.i64.wrap (st.2+1))))) (some (.bk (st.1,st.2)))
def qJ (u0:ak)(a:(List (List Int)))(c:Int)(st:((List (List Int))×Int)):Option (Fl ((List (List Int))×Int) (List (List Int))):=
 cond (decide (st.2<(a.length:Int))) (ag (bf u0.aG c) fun b=>ag (aR (qI a st.2 b) fu (st.1,b.high.low)) fun o=>aB o (fun d=>some (.nx (d.1,(IntKind.i64.wrap (st.2+1))))) (fun _ _=>none) (fun r=>some (.rt r))) (some (.bk (st.1,st.2)))
def tA (u0:ak)(st:((List (List Int))×Int)):Option (Fl ((List (List Int))×Int) (List (List Int))):=
 cond (decide (st.2<(u0.aG.length:Int))) (ag (aR (qJ u0 st.1 st.2) fu (([]:List (List Int)),0)) fun o=>aB o (fun a=>some (.nx (a.1,(IntKind.i64.wrap (st.2+1))))) (fun _ _=>none) (fun r=>some (.rt r))) (some (.bk (st.1,st.2)))
def tB (u0:ak)(a:(List (List Int)))(st:((List (List Int))×Int)):Option (Fl ((List (List Int))×Int) (List (List Int))):=
 cond (decide (st.2<(a.length:Int))) (ag (bf a st.2) fun b=>ag (xm u0 b) fun c=>cond (c) (ag (cY st.1 ([b])) fun d=>some (.nx (d,(IntKind.i64.wrap (st.2+1))))) (some (.nx (st.1,(IntKind.i64.wrap (st.2+1)))))) (some (.bk (st.1,st.2)))
def BQ (u0:ak):Option (List (List Int)):=
 ag (aR (tA u0) fu (([([]:(List Int))]),0)) fun o=>aB o (fun a=>ag (aR (tB u0 a.1) fu (([]:List (List Int)),0)) fun o=>aB o (fun b=>some b.1) (fun _ _=>none) (fun r=>some r)) (fun _ _=>none) (fun r=>some r)
def fH {α ρ:Type}(t:Nat->α->Option ρ):Nat->List α->Option ρ
 |_,[]=>none
 |i,x::l=>match t i x with
  |some r=>some r
  |none=>fH t (i+1) l
def ko {σ ρ:Type}(o:Option ρ)(s:σ):Fl σ ρ:=match o with
 |some r=>.rt r
 |none=>.nx s
theorem tC {α σ ρ:Type}{f:Nat->α->σ->Option (Fl σ ρ)}{t:Nat->α->Option ρ}:∀(l:List α) (i:Nat) (s:σ),(∀j x s,l[j]?=some x->f (i+j) x s=some (ko (t (i+j) x) s))->bB f i l s=some (ko (fH t i l) s)
 |[],i,s,_=>rfl
 |x::l,i,s,h=>by
  have a:=h 0 x s rfl
  simp only[Nat.add_zero] at a
  unfold bB fH
  rw[a]
  cases ht:t i x with
  |some r=>rfl
  |none=>
   show bB f (i+1) l s=_
   exact tC l (i+1) s fun j y s b=>by
    have:=h (j+1) y s (by simpa using b)
    rwa [show i+(j+1)=i+1+j by omega] at this
theorem BR {α σ ρ:Type}{f:σ×Int->Option (Fl (σ×Int) ρ)}{t:Nat->α->Option ρ}(l:List α)(h:∀(i:Nat) x s,l[i]?=some x->f (s,(i:Int))=some (ko (t i x) (s,((i+1:Nat):Int))))(a:∀s,f (s,(l.length:Int))=some (.bk (s,(l.length:Int)))):
  ∀(k i n:Nat) (s:σ),i+k=l.length->k<n->aR f n (s,(i:Int))=some (ko (fH t i (l.drop i)) (s,(l.length:Int)))
 |0,i,n+1,s,hi,_=>by
  obtain rfl:i=l.length:=by omega
  unfold aR
  rw[a,List.drop_length]
  rfl
 |k+1,i,n+1,s,hi,d=>by
  have b:i<l.length:=by omega
  have c:l[i]?=some l[i]:=List.getElem?_eq_getElem b
  unfold aR
  rw[h i _ s c,List.drop_eq_getElem_cons b]
  unfold fH
  cases ht:t i l[i] with
  |some r=>rfl
  |none=>exact BR l h a k (i+1) n s (by omega) (by omega)
theorem og {α σ ρ:Type}{f:σ×Int->Option (Fl (σ×Int) ρ)}{t:Nat->α->Option ρ}(l:List α)(a:l.length<=1000)(h:∀(i:Nat) x s,l[i]?=some x->f (s,(i:Int))=some (ko (t i x) (s,((i+1:Nat):Int))))(b:∀s,f (s,(l.length:Int))=some (.bk (s,(l.length:Int))))(s:σ):
  aR f fu (s,0)=some (ko (fH t 0 l) (s,(l.length:Int))):=by
 have:=BR l h b l.length 0 fu s (by omega) (Nat.lt_of_le_of_lt a (by decide))
 simpa using this
theorem BS {α ρ:Type}{g:α->Bool}{r:ρ}:∀(l:List α) (i:Nat),fH (fun _ x=>if g x then none else some r) i l=if l.all g then none else some r
 |[],_=>rfl
 |x::l,i=>by
  unfold fH
  cases h:g x with
  |false=>simp[h]
  |true=>
   simp only[h,if_true,List.all_cons,Bool.true_and]
   exact BS l (i+1)
theorem tD {α:Type}{g:α->Bool}:∀(l:List α) (i:Nat),∃r,fH (fun i x=>if g x then some (i:Int) else none) i l=r/\decide (0<=r.getD (-1))=l.any g
 |[],_=>⟨none,rfl,rfl⟩
 |x::l,i=>by
  unfold fH
  cases h:g x with
  |true=>exact ⟨_,rfl,by simp[h]⟩
  |false=>
   obtain ⟨r,a,b⟩:=tD l (i+1) (g:=g)
   exact ⟨r,by simpa using a,by simpa [h] using b⟩
theorem fj {α:Type}{l:List α}{i:Nat}{x:α}(h:l[i]?=some x):bf l (i:Int)=some x:=by
 unfold bf;rw[if_pos (by omega)];simpa using h
theorem xF {α:Type}{l:List α}{i:Int}{x:α}(a:0<=i)(h:l[i.toNat]?=some x):bf l i=some x:=by
 unfold bf;rw[if_pos a,h]
theorem contains_eq {f:bU->Option Bool}{g:bU->Bool}(l:List bU)(h:∀x,x∈l->f x=some (g x)):p9 l f=some (l.any g):=by
 unfold p9 sx
 rw[tC (t:=fun i x=>if g x then some (i:Int) else none) l 0 0 fun j x s a=>by
  unfold sw;rw[h x (List.mem_of_getElem? a)]
  cases g x<;>rfl]
 obtain ⟨r,b,c⟩:=tD (g:=g) l 0;rw[b,<-c];cases r<;>rfl
def dz (u:ak)(s:aQ):Bool:=(fQ u s).getD false
theorem tE {u:ak}(F:Fit u){s:aQ}(hs:(1<=s.back/\s.back<=20)/\0<=s.high/\s.high<=60):fQ u s=some (dz u s)/\tc u s=some (dz u s):=by
 obtain ⟨b,a,c⟩:=HW F hs;have e:dz u s=b:=by unfold dz;rw[a];rfl
 rw[e];exact ⟨a,c⟩
def ja (u:ak)(i:Nat)(n:Int):aQ:=⟨(u.aG[i]?.map (·.back)).getD 0,n⟩
structure oh (u:ak)(h:List Int):Prop where
 len:h.length=u.aG.length
 BT:∀(i:Nat) e,u.aG[i]?=some e->∃n,h[i]?=some n/\e.high.low<=n/\n<=e.high.high
def kq (u:ak)(h:List Int)(t:bU):Bool:=dz u (ja u t.aW.toNat (h[t.aW.toNat]?.getD 0))==t.bt
def fI (u:ak)(h:List Int):Bool:=u.told.all (kq u h)
theorem BU {u:ak}{h:List Int}(H:oh u h){i:Int}(f:0<=i)(g:i<u.aG.length)(F:Fit u):∃e n,u.aG[i.toNat]?=some e/\h[i.toNat]?=some n/\ja u i.toNat n=⟨e.back,n⟩/\(1<=e.back/\e.back<=20)/\0<=n/\n<=60:=by
 have c:u.aG[i.toNat]?=some (u.aG[i.toNat]'(by omega)):=List.getElem?_eq_getElem _;obtain ⟨n,d,a,b⟩:=H.BT _ _ c;obtain ⟨c1,c2,c3,c4,j⟩:=F.aW _ _ c;refine ⟨_,n,c,d,?_,c1,by omega,by omega⟩;unfold ja;rw[c];rfl
theorem HX {u:ak}(F:Fit u){h:List Int}(H:oh u h):xm u h=some (fI u h):=by
 unfold xm;rw[og (t:=fun _ x=>if kq u h x then none else some false) u.told (by have:=F.told;omega) (s:=false) (fun i x s c=>?_) (fun s=>?_)]
 ·rw[BS];unfold fI;cases u.told.all (kq u h)<;>rfl
 ·obtain ⟨a,b⟩:=F.qD i x c;obtain ⟨e,n,f,d,g,j,k⟩:=BU H a b F;have l:i<u.told.length:=(List.getElem?_eq_some_iff.1 c).1;have ht:=F.told;unfold xl A7;rw[show decide (((i:Nat):Int)<(u.told.length:Int))=true by simp;omega];simp only[cond_true,fj c,ag,xF a f,xF a d,(tE F (s:=⟨e.back,n⟩) ⟨j,k⟩).2];rw[cc (n:=(i:Int)+1) (by omega)];unfold kq;rw[d];show _=some (ko (if dz u (ja u x.aW.toNat n)==x.bt then none else some false) (s,((i+1:Nat):Int)));rw[g];cases dz u ⟨e.back,n⟩==x.bt<;>rfl
 ·unfold xl;rw[show decide ((u.told.length:Int)<(u.told.length:Int))=false by simp];rfl
def dc (l:List Int):aX:=⟨l[0]?.getD 0,l[1]?.getD 0,l[2]?.getD 0⟩
theorem xG {l:List Int}{i:Int}{n:Int}(a:0<=i)(b:i<3)(h:l[i.toNat]?=some n):aX.get (dc l) i=some n:=by
 unfold aX.get dc;rcases (show i=0\/i=1\/i=2 by omega) with rfl|rfl|rfl<;>simp at h<;>simp[h]
theorem HY {u:ak}(F:Fit u){h:List Int}(H:oh u h):nv u (dc h)=some (fI u h):=by
 unfold nv
 rw[contains_eq (g:=fun t=>!kq u h t) u.told fun x d=>by
  obtain ⟨i,hi⟩:=List.mem_iff_getElem?.1 d;obtain ⟨a,b⟩:=F.qD i x hi;obtain ⟨e,n,f,c,j,k,l⟩:=BU H a b F;have:=F.aG;unfold qa iU;simp only[xG a (by omega) c,ag,xF a f,(tE F (s:=⟨e.back,n⟩) ⟨k,l⟩).1];unfold kq;rw[c];show _=some (!(dz u (ja u x.aW.toNat n)==x.bt))
  rw[j]]
 simp only[ag];unfold fI;rw[show (u.told.any fun t=>!kq u h t)=!(u.told.all (kq u h)) by rw[List.all_eq_not_any_not];simp];simp
theorem xH {α σ ρ:Type}{f:Nat->α->σ->Option (Fl σ ρ)}{I:Nat->σ->Prop}:∀(l:List α) (i:Nat) (s:σ),I i s->(∀j x s,l[j]?=some x->I (i+j) s->∃s',f (i+j) x s=some (.nx s')/\I (i+j+1) s')->
  ∃s',bB f i l s=some (.nx s')/\I (i+l.length) s'
 |[],i,s,hs,_=>⟨s,rfl,hs⟩
 |x::l,i,s,hs,h=>by
  obtain ⟨s1,a,b⟩:=h 0 x s rfl hs
  simp only[Nat.add_zero] at a b
  unfold bB
  rw[a]
  have:=xH l (i+1) _ b fun j y s c hs=>by
   have:=h (j+1) y s (by simpa using c) (by rwa [show i+(j+1)=i+1+j by omega])
   rwa [show i+(j+1)=i+1+j by omega] at this
  rwa [show i+1+l.length=i+(x::l).length by simp;omega] at this
theorem BV {α σ τ ρ:Type}{f:τ->Option (Fl τ ρ)}{I:Nat->σ->Prop}(e:σ->Int->τ)(l:List α)(h:∀(i:Nat) x s,l[i]?=some x->I i s->∃s',f (e s (i:Int))=some (.nx (e s' ((i+1:Nat):Int)))/\I (i+1) s')(a:∀s,f (e s (l.length:Int))=some (.bk (e s (l.length:Int)))):
  ∀(k i n:Nat) (s:σ),I i s->i+k=l.length->k<n->∃s',aR f n (e s (i:Int))=some (.nx (e s' (l.length:Int)))/\I l.length s'
 |0,i,n+1,s,hs,hi,_=>by
  obtain rfl:i=l.length:=by omega
  unfold aR
  rw[a]
  exact ⟨s,rfl,hs⟩
 |k+1,i,n+1,s,hs,hi,j=>by
  have b:i<l.length:=by omega
  have c:l[i]?=some l[i]:=List.getElem?_eq_getElem b
  obtain ⟨s1,d,g⟩:=h i _ s c hs
  unfold aR
  rw[d]
  exact BV e l h a k (i+1) n _ g (by omega) (by omega)
theorem HZ {α σ τ ρ:Type}{f:τ->Option (Fl τ ρ)}(I:Nat->σ->Prop)(e:σ->Int->τ)(l:List α)(a:l.length<=1000)(h:∀(i:Nat) x s,l[i]?=some x->I i s->∃s',f (e s (i:Int))=some (.nx (e s' ((i+1:Nat):Int)))/\I (i+1) s')(b:∀s,f (e s (l.length:Int))=some (.bk (e s (l.length:Int))))(s:σ)(hs:I 0 s):
  ∃s',aR f fu (e s 0)=some (.nx (e s' (l.length:Int)))/\I l.length s':=
 BV e l h b l.length 0 fu s hs (by omega) (Nat.lt_of_le_of_lt a (by decide))
theorem BW {a b c:an}(d:0<a.den)(hb:0<b.den)(e:0<c.den)(f:bA b a=false)(g:bA b c=true):bA a c=true:=by
 cases h:bA a c with
 |true=>rfl
 |false=>
  have:=oe hb d e f h;rw[g] at this;cases this
section
variable {u : ak} {s : aQ} (F : Fit u) (hs : (1 ≤ s.back ∧ s.back ≤ 20) ∧ 0 ≤ s.high ∧ s.high ≤ 60)
include F hs
structure xI (u:ak)(s:aQ)(i:Nat)(st:Int×an):Prop where
 there:∃(n:Nat) (p:bY),n<i/\st=((n:Int),dL u s p)/\u.av[n]?=some p/\∀(j:Nat) q,j<n->u.av[j]?=some q->bA (dL u s q) (dL u s p)=true
 Ry:∀(j:Nat) q,j<i->u.av[j]?=some q->bA st.2 (dL u s q)=false
theorem BX:∀(l:List bY) (i:Nat) (st:Int×an),(∀(j:Nat) x,l[j]?=some x->u.av[i+j]?=some x)->xI u s i st->xI u s (i+l.length) (foldI (gB u s) i l st)
 |[],i,st,_,h=>h
 |x::l,i,st,g,h=>by
  have b:u.av[i]?=some x:=g 0 x rfl
  have hd:∀(j:Nat) q,u.av[j]?=some q->0<(dL u s q).den:=fun j q a=>(tv u F s hs j q a).den.1
  unfold foldI
  have key:xI u s (i+1) (gB u s i x st):=by
   obtain ⟨⟨n,p,o,e,d,k⟩,hm⟩:=h
   subst e
   unfold gB
   cases c:bA (dL u s p) (dL u s x) with
   |true=>
    simp only[c,cond_true]
    refine ⟨⟨i,x,by omega,rfl,b,fun j q f a=>?_⟩,fun j q f a=>?_⟩
    ·exact BW (hd j q a) (hd n p d) (hd i x b) (hm j q f a) c
    ·by_cases e:j=i
     ·subst e;rw[b] at a;cases a;exact k8 _
     ·exact BD (BW (hd j q a) (hd n p d) (hd i x b) (hm j q (by omega) a) c)
   |false=>
    simp only[c,cond_false]
    refine ⟨⟨n,p,by omega,rfl,d,k⟩,fun j q f a=>?_⟩
    by_cases e:j=i
    ·subst e;rw[b] at a;cases a;exact c
    ·exact hm j q (by omega) a
  have:=BX l (i+1) _ (fun j y m=>by have:=g (j+1) y (by simpa using m);rwa [show i+(j+1)=i+1+j by omega] at this) key
  rwa [show i+1+l.length=i+(x::l).length by simp;omega] at this
theorem H6:∃(n:Nat) (p:bY),eG u s=((n:Int),dL u s p)/\u.av[n]?=some p/\(∀(j:Nat) q,u.av[j]?=some q->bA (dL u s p) (dL u s q)=false)/\∀(j:Nat) q,j<n->u.av[j]?=some q->bA (dL u s q) (dL u s p)=true:=by
 have c:=F.av;cases he:u.av with
 |nil=>rw[he] at c;simp at c
 |cons x l=>
  have d:u.av[0]?=some x:=by rw[he];rfl
  have hb:=BX F hs l 1 (0,dL u s x) (fun j y f=>by rw[he,Nat.add_comm];simpa using f)
   ⟨⟨0,x,by omega,rfl,d,fun j q b=>absurd b (by omega)⟩,fun j q b a=>by
    obtain rfl:j=0:=by omega
    rw[d] at a;cases a;exact k8 _⟩
  have ev:eG u s=foldI (gB u s) 1 l (0,dL u s x):=by unfold eG;rw[he]
  obtain ⟨⟨n,p,i,e,g,h⟩,hm⟩:=hb;rw[e] at hm ev;refine ⟨n,p,ev,by rw[<-he];exact g,fun j q a=>?_,fun j q b a=>h j q b (by rw[he];exact a)⟩;refine hm j q ?_ (by rw[he];exact a);have:=(List.getElem?_eq_some_iff.1 a).1;simp at this;omega
end
theorem xJ {u:ak}(F:Fit u):∀(n i:Nat) (x y:bY),u.av[i]?=some x->u.av[i+1+n]?=some y->x.aH<y.aH
 |0,i,x,y,b,a=>F.qC i x y b a
 |n+1,i,x,y,b,a=>by
  have c:i+1+(n+1)<u.av.length:=(List.getElem?_eq_some_iff.1 a).1
  have hm:u.av[i+1+n]?=some (u.av[i+1+n]'(by omega)):=List.getElem?_eq_getElem _
  have d:=xJ F n i x _ b hm
  have e:=F.qC _ _ y hm (by rw[<-a];congr 1)
  omega
def fT (a b:an):an:=bH (a.num*b.den - b.num*a.den) (a.den*b.den).toNat
def lf (u:ak)(s:aQ):an:=foldI (gM u s) 0 u.props ⟨0,0⟩
def gZ (u:ak)(s:aQ):an:=cond (bA (eG u s).2 ⟨u.bO,1⟩) ⟨u.bO,1⟩ (eG u s).2
def om (u:ak)(s:aQ):an:=cond (bA (eG u s).2 ⟨u.bO,1⟩) (eG u s).2 ⟨u.bO,1⟩
def gE (u:ak)(s:aQ):an:=cond (decide (0<(u.props.length:Int))) (cm (om u s) (lf u s)) (om u s)
def gF (u:ak)(s:aQ):an:=cm (fT (gZ u s) (gE u s)) ⟨0,1⟩
theorem H7:Sm (⟨0,1⟩:an) 1 1:=⟨by decide,by decide,by decide⟩
theorem BY {a b:an}(c:SR a)(hb:SR b):Sm (fT a b) 40000000000 64000000:=by
 have d:=dy c.num (show b.den.natAbs<=8000 by have:=hb.den;omega);have e:=dy hb.num (show a.den.natAbs<=8000 by have:=c.den;omega);have f:=dy (show a.den.natAbs<=8000 by have:=c.den;omega) (show b.den.natAbs<=8000 by have:=hb.den;omega);have g:0<a.den*b.den:=Int.mul_pos c.den.1 hb.den.1;have:=iZ (a.num*b.den - b.num*a.den) (a.den*b.den).toNat (by omega);unfold fT;exact ⟨Nat.le_trans this.num (by omega),this.den.1,by have:=this.den.2;omega⟩
theorem H8 {a b:an}(c:SR a)(hb:SR b):j8 a b=some (fT a b):=Bn c hb (by decide) (by decide)
theorem H9 {d:an}(hd:Sm d 40000000000 64000000):fS d ⟨0,1⟩=some (cm d ⟨0,1⟩):=by
 have a:=qG hd H7 (by decide) (by decide);unfold fS;simp only[a.1,ag];unfold cm bA;cases decide (d.num*(⟨0,1⟩:an).den<(⟨0,1⟩:an).num*d.den)<;>rfl
section
variable {u : ak} {s : aQ} (F : Fit u) (hs : (1 ≤ s.back ∧ s.back ≤ 20) ∧ 0 ≤ s.high ∧ s.high ≤ 60)
include F hs
theorem xK:SR (⟨u.bO,1⟩:an):=(xA F hs).mono (by decide) (by decide)
theorem xL:SR (gZ u s):=by
 unfold gZ;cases bA (eG u s).2 ⟨u.bO,1⟩
 ·exact xB F hs
 ·exact xK F hs
theorem xM:SR (om u s):=by
 unfold om;cases bA (eG u s).2 ⟨u.bO,1⟩
 ·exact xK F hs
 ·exact xB F hs
theorem qK (h:u.props≠[]):SR (lf u s):=by
 rcases BI F hs with ⟨c,_,_⟩|⟨st,b,_,a,d⟩
 ·exact absurd c h
 ·rw[xD F hs] at a;have e:lf u s=b:=(Prod.mk.inj (Option.some.inj a)).1;rw[e];exact d.sm
theorem qL:SR (gE u s):=by
 unfold gE;cases h:decide (0<(u.props.length:Int)) with
 |false=>exact xM F hs
 |true=>
  refine k9 (xM F hs) (qK F hs fun e=>?_);rw[e] at h;simp at h
theorem Ia:qx u s=some (gF u s):=by
 obtain ⟨c,h,i,j,g⟩:=xz F hs;have es:SR (eG u s).2:=xB F hs;have ps:=xK F hs;unfold qx;rw[g,xD F hs];simp only[ag,(mI es ps).1];have k:=qL F hs;have l:=xL F hs;have key:∀a b:an,SR a->SR b->ag (j8 a b) (fun x=>ag (fS x ⟨0,1⟩) fun y=>some y)=some (cm (fT a b) ⟨0,1⟩):=fun a b f hb=>by
  rw[H8 f hb];simp only[ag];rw[H9 (BY f hb)]
 simp only[ag] at key;unfold gF gE gZ om;cases m:bA (eG u s).2 ⟨u.bO,1⟩ with
 |true=>
  simp only[cond_true];cases d:decide (0<(u.props.length:Int)) with
  |true=>
   have cs:=qK F hs (fun e=>by rw[e] at d;simp at d);simp only[cond_true];rw[show foldI (gM u s) 0 u.props ⟨0,0⟩=lf u s from rfl,qH es cs];exact key _ _ ps (k9 es cs)
  |false=>exact key _ _ ps es
 |false=>
  simp only[cond_false];cases d:decide (0<(u.props.length:Int)) with
  |true=>
   have cs:=qK F hs (fun e=>by rw[e] at d;simp at d);simp only[cond_true];rw[show foldI (gM u s) 0 u.props ⟨0,0⟩=lf u s from rfl,qH ps cs];exact key _ _ es (k9 ps cs)
  |false=>exact key _ _ es ps
theorem xN:j5 u s=some (gF u s):=by
 obtain ⟨r,b,a,_⟩:=xE F hs;rw[Ia F hs] at a;rw[b,<-a]
end
structure Vl (r:an)(n d:Int):Prop where
 eq:r.num*d=n*r.den
 d:0<d
 den:0<r.den
theorem lt_mul {a b c:Int}(d:0<c):(a*c<b*c)↔a<b:=Int.mul_lt_mul_right d
theorem Vl.lt {r a:an}{n d c b:Int}(h:Vl r n d)(h':Vl a c b):bA r a=decide (n*b<c*d):=by
 unfold bA;rw[decide_eq_decide];have e1:r.num*a.den*(d*b)=n*b*(r.den*a.den):=by have:=h.eq;have:=h'.eq;grind
 have e2:a.num*r.den*(d*b)=c*d*(r.den*a.den):=by have:=h.eq;have:=h'.eq;grind
 rw[<-lt_mul (Int.mul_pos h.d h'.d),e1,e2,lt_mul (Int.mul_pos h.den h'.den)]
theorem BZ {a b:an}(c:0<a.den)(hb:0<b.den):Vl (fT a b) (a.num*b.den - b.num*a.den) (a.den*b.den):=by
 have hd:0<a.den*b.den:=Int.mul_pos c hb;have h:=oa (a.num*b.den - b.num*a.den) (a.den*b.den).toNat (by omega);rw[show (((a.den*b.den).toNat:Nat):Int)=a.den*b.den by omega] at h;exact ⟨h.1,hd,h.2⟩
theorem B1 {d:an}(hd:0<d.den):cm d ⟨0,1⟩=if d.num<0 then ⟨0,1⟩ else d:=by
 unfold cm bA;simp only[Int.mul_one,Int.zero_mul];by_cases h:d.num<0<;>simp[h]
theorem B2 {a b:an}:bA (cm a b) a=false:=by
 unfold cm;cases h:bA a b with
 |false=>exact k8 a
 |true=>exact BD h
theorem B3 {a b:an}:bA (cm a b) b=false:=by
 unfold cm;cases h:bA a b with
 |false=>exact h
 |true=>exact k8 b
theorem qM {a b:an}(c:0<a.den)(hb:0<b.den):0<(cm a b).den:=by unfold cm;cases bA a b<;>assumption
theorem Ib {a b d:an}(f:0<a.den)(hb:0<b.den)(e:0<d.den)(h:bA d b=false):bA (cm a d) (cm a b)=false:=by
 have hm:=qM f e;unfold cm;cases c:bA a b with
 |false=>exact B2
 |true=>exact oe hm e hb B3 h
theorem Ic {a b d:an}(c:0<a.den)(hb:0<b.den)(e:0<d.den)(h:bA d b=false):bA (fT a b) (fT a d)=false:=by
 rw[(BZ c hb).lt (BZ c e),decide_eq_false_iff_not,Int.not_lt];unfold bA at h;rw[decide_eq_false_iff_not,Int.not_lt] at h;have:=Int.mul_le_mul_of_nonneg_right h (Int.le_of_lt (Int.mul_pos c c));grind
theorem Vl.neg {r:an}{n d:Int}(h:Vl r n d):r.num<0↔n<0:=by
 have a:Vl ⟨0,1⟩ 0 1:=⟨rfl,by decide,by decide⟩
 have:=h.lt a;unfold bA at this;simpa [decide_eq_decide] using this
section
variable {u : ak} {s : aQ} (F : Fit u) (hs : (1 ≤ s.back ∧ s.back ≤ 20) ∧ 0 ≤ s.high ∧ s.high ≤ 60)
include F hs
theorem B4:0<(fT (gZ u s) (gE u s)).den:=(BY (xL F hs) (qL F hs)).den.1
end
theorem Ie {u o:ak}{s:aQ}(F:Fit u)(G:Fit o)(hs:(1<=s.back/\s.back<=20)/\0<=s.high/\s.high<=60)(hh:gZ o s=gZ u s)(h:bA (gE o s) (gE u s)=false):bA (gF u s) (gF o s)=false:=by
 have m:=Ic (xL F hs).den.1 (qL F hs).den.1 (qL G hs).den.1 h;have d1:=B4 F hs;have d2:=B4 G hs;rw[hh] at d2;unfold gF;rw[hh,B1 d1,B1 d2];by_cases c:(fT (gZ u s) (gE u s)).num<0
 ·rw[if_pos c];have c2:(fT (gZ u s) (gE o s)).num<0:=by
   unfold bA at m;rw[decide_eq_false_iff_not,Int.not_lt] at m;rcases Int.lt_or_le (fT (gZ u s) (gE o s)).num 0 with x|x
   ·exact x
   ·have a:=Int.mul_nonneg x (Int.le_of_lt d1);have b:=Int.mul_neg_of_neg_of_pos c d2;omega
  rw[if_pos c2];rfl
 ·rw[if_neg c];split
  ·unfold bA;rw[decide_eq_false_iff_not,Int.not_lt];show 0*_<=_*1;omega
  ·exact m
theorem qN {α:Type}{t:Nat->α->Option Int}:∀(l:List α) (i:Nat),(∀j x,l[j]?=some x->t (i+j) x=none)->dx t i l=none
 |[],i,_=>rfl
 |y::l,i,h=>by
  unfold dx
  have a:=h 0 y rfl
  rw[Nat.add_zero] at a
  rw[a]
  exact qN l (i+1) fun j x b=>by
   have:=h (j+1) x (by simpa using b)
   rwa [show i+(j+1)=i+1+j by omega] at this
theorem Ig {u:ak}(h:e4 u=some 0):gV u=0:=by
 have hh:iV u=some 0:=h;unfold iV at hh;rw[tg] at hh;simp only[ag] at hh;cases hg:(gV u != 0) with
 |true=>rw[hg] at hh;exact Option.some.inj hh
 |false=>simpa using hg
theorem Ih {u:ak}(hg:gV u=0)(F:Fit u):e4 u=some 0:=by
 have h:=F.av;have i:=F.bG;have k:=F.props;have l:=F.aG;have m:=F.told;show iV u=some 0;unfold iV;rw[tg,hg];show kX u=some 0;unfold kX;rw[(xo u (by omega)).1,qN u.av 0 fun j x c=>?_,dP.2 (show (2:Int)<=(u.av.length:Int)/\(u.av.length:Int)<=5 by omega)]
 ·show kW u=some 0;unfold kW;obtain ⟨f,d⟩:=xq u (by omega) (by omega);rw[tn u f d,qN u.props 0 fun j x c=>?_,show decide (3<(u.props.length:Int))=false by simp;omega]
  ·show kV u=some 0;unfold kV;rw[tj,qN u.aG 0 fun j x c=>?_,dP.2 (show (1:Int)<=(u.aG.length:Int)/\(u.aG.length:Int)<=3 by omega)]
   ·show kU u=some 0;unfold kU nq;rw[th,qN u.told 0 fun j x c=>?_,show decide (3<(u.told.length:Int))=false by simp;omega]
    ·rfl
    ·obtain ⟨a,b⟩:=F.qD j x c;unfold iY gY;rw[cc (by omega),dP.2 ⟨a,by omega⟩];rfl
   ·obtain ⟨a,g,b2,b3,b4⟩:=F.aW j x c;unfold gX ki;rw[dP.2 a,cc (by omega),show decide (3<=x.high.high - x.high.low)=false by simp;omega,decide_eq_true g,decide_eq_true b2,decide_eq_true b3];rfl
  ·obtain ⟨a,b⟩:=F.prop j x c;have:=(d x.place).1;rw[a] at this;unfold gW;rw[<-Option.some.inj this,dP.2 b];rfl
 ·obtain ⟨a,b⟩:=F.gm j x c;unfold gk;rw[cc (by omega),dP.2 a,dP.2 b];simp only[cond_true,Nat.zero_add];cases j with
  |zero=>rfl
  |succ j=>
   have n:=(List.getElem?_eq_some_iff.1 c).1;have e:u.av[j]?=some (u.av[j]'(by omega)):=List.getElem?_eq_getElem _;have:=F.qC j _ x e c;simp only[e];rw[show decide (x.aH<=(u.av[j]'(by omega)).aH)=false by simp;omega];rfl
def wp (u:ak)(P:List bN):ak:=⟨u.bG,u.bO,u.aY,u.av,P,u.aG,u.told⟩
theorem Ii {u:ak}(F:Fit u){P:List bN}(a:P.length<=3)(h:∀x,x∈P->ef u x.place=some true/\1<=x.di/\x.di<=20):Fit (wp u P):=
 ⟨F.bG,F.bO,F.den,F.num,F.av,F.gm,F.qC,a,fun i x b=>h x (List.mem_of_getElem? b),F.aG,F.aW,F.told,F.qD⟩
theorem xO (u:ak)(P:List bN)(s:aQ):∀(l:List bN) (i:Nat) (b:an),foldI (gM (wp u P) s) i l b=foldI (gM u s) i l b
 |[],_,_=>rfl
 |x::l,i,b=>by
  unfold foldI
  exact xO u P s l (i+1) _
section
variable {u : ak} {s : aQ} (F : Fit u) (hs : (1 ≤ s.back ∧ s.back ≤ 20) ∧ 0 ≤ s.high ∧ s.high ≤ 60)
include F hs
theorem B5 {p h h':Int}(c:ef u p=some true)(hh:h<=h'):bA (cX u ⟨p,h'⟩) (cX u ⟨p,h⟩)=false/\0<(cX u ⟨p,h⟩).den/\0<(cX u ⟨p,h'⟩).den:=by
 obtain ⟨a,z,d,e,b,-⟩:=qF u F p;rw[c] at b;have hb:=dP.1 (Option.some.inj b).symm;obtain ⟨r,f,-,g⟩:=Br u F p a z d e hb.1 hb.2;have hd:=g.den.1;have key:∀k:Int,cX u ⟨p,k⟩=bH (r.num+k*r.den) r.den.toNat:=fun k=>by unfold cX;simp only[f]
 have v:∀k:Int,Vl (cX u ⟨p,k⟩) (r.num+k*r.den) r.den:=fun k=>by
  have:=oa (r.num+k*r.den) r.den.toNat (by omega);rw[<-key k,show ((r.den.toNat:Nat):Int)=r.den by omega] at this;exact ⟨this.1,hd,this.2⟩
 refine ⟨?_,(v h).den,(v h').den⟩;rw[(v h').lt (v h),decide_eq_false_iff_not,Int.not_lt];have:=Int.mul_le_mul_of_nonneg_right hh (Int.le_of_lt (Int.mul_pos hd hd));grind
theorem Ij {aH:Int}(d:0<=aH){e a:an}(he:0<e.den)(b:0<a.den)(h:bA a e=false):bA (od u s aH a) (od u s aH e)=false:=by
 have f:=F.bG;have v:∀e:an,0<e.den->Vl (od u s aH e) (s.high*e.den*(aH+s.back)+(e.num - s.high*e.den)*(u.bG+s.back)) (e.den*(aH+s.back)):=fun e he=>by
  have hd:0<e.den*(aH+s.back):=Int.mul_pos he (by omega);have:=oa (s.high*e.den*(aH+s.back)+(e.num - s.high*e.den)*(u.bG+s.back)) (e.den*(aH+s.back)).toNat (by omega);rw[show (((e.den*(aH+s.back)).toNat:Nat):Int)=e.den*(aH+s.back) by omega] at this;exact ⟨this.1,hd,this.2⟩
 rw[(v a b).lt (v e he),decide_eq_false_iff_not,Int.not_lt];unfold bA at h;rw[decide_eq_false_iff_not,Int.not_lt] at h;have c:0<(aH+s.back)*(u.bG+s.back):=Int.mul_pos (by omega) (by omega);have:=Int.mul_le_mul_of_nonneg_right h (Int.le_of_lt c);have:=Int.mul_le_mul_of_nonneg_right this (show (0:Int)<=1 by decide);grind
theorem B6 {p h:Int}(b:ef u p=some true):0<(dX u s ⟨p,h⟩).den:=by
 obtain ⟨-,d,-⟩:=B5 F hs b (Int.le_refl h);obtain ⟨a,z,e,f,c,-⟩:=qF u F p;rw[b] at c;have hb:=dP.1 (Option.some.inj c).symm;have:=F.gm 0 a e;have g:0<=p:=by omega
 have hd:0<(cX u ⟨p,h⟩).den*(p+s.back):=Int.mul_pos d (by omega);exact (oa _ ((cX u ⟨p,h⟩).den*(p+s.back)).toNat (by omega)).2
theorem Ik {p h h':Int}(b:ef u p=some true)(hh:h<=h'):bA (dX u s ⟨p,h'⟩) (dX u s ⟨p,h⟩)=false:=by
 obtain ⟨d,e,f⟩:=B5 F hs b hh;obtain ⟨a,z,g,j,c,-⟩:=qF u F p;rw[b] at c;have hb:=dP.1 (Option.some.inj c).symm;have:=F.gm 0 a g;have i:0<=p:=by omega
 exact Ij F hs (aH:=p) i e f d
end
def cA (b:c6):List Int:=(List.range (b.high - b.low+1).toNat).map fun k=>b.low+(k:Nat)
theorem Il {b:c6}{i:Nat}{x:Int}(h:(cA b)[i]?=some x):x=b.low+i/\b.low+i<=b.high:=by
 unfold cA at h;rw[List.getElem?_map,Option.map_eq_some_iff] at h;obtain ⟨k,c,rfl⟩:=h;obtain ⟨d,a⟩:=List.getElem?_eq_some_iff.1 c;simp at d a;subst a;exact ⟨rfl,by omega⟩
theorem lg (b:c6):(cA b).length=(b.high - b.low+1).toNat:=by simp[cA]
theorem oo {b:c6}{x:Int}:x∈cA b↔b.low<=x/\x<=b.high:=by
 unfold cA;rw[List.mem_map];constructor
 ·rintro ⟨k,a,rfl⟩;rw[List.mem_range] at a;omega
 ·rintro ⟨c,d⟩;exact ⟨(x - b.low).toNat,by rw[List.mem_range];omega,by omega⟩
def kr (b:c6)(all:List (List Int)):List (List Int):=all.flatMap fun p=>(cA b).map fun n=>p++[n]
def dM (p:List Int):List b6->List (List Int)
 |[]=>[p]
 |e::l=>(cA e.high).flatMap fun n=>dM (p++[n]) l
def cn (u:ak):List (List Int):=(dM [] u.aG).filter (fI u)
theorem qO {α β:Type}(g:α->List β):∀(l:List α) (i:Nat) (s:List β),foldI (fun _ x s=>s++g x) i l s=s++l.flatMap g
 |[],_,s=>by simp[foldI]
 |x::l,i,s=>by
  unfold foldI
  rw[qO g l]
  simp[List.flatMap_cons]
theorem B7:∀(l:List b6) (i:Nat) (all:List (List Int)),foldI (fun _ (e:b6) all=>kr e.high all) i l all=all.flatMap fun p=>dM p l
 |[],_,all=>by
  unfold foldI
  show all=all.flatMap fun p=>[p]
  induction all with
  |nil=>rfl
  |cons a l ih=>rw[List.flatMap_cons,<-ih];rfl
 |e::l,i,all=>by
  unfold foldI
  rw[B7 l]
  unfold kr
  rw[List.flatMap_assoc]
  congr 1
  funext p
  rw[List.flatMap_map]
  rfl
theorem xP:∀(l:List b6) (p h:List Int),h∈dM p l->h.length=p.length+l.length/\(∀(j:Nat) e,l[j]?=some e->∃n,h[p.length+j]?=some n/\e.high.low<=n/\n<=e.high.high)/\∀j,j<p.length->h[j]?=p[j]?
 |[],p,h,hm=>by
  simp only[dM,List.mem_singleton] at hm
  subst hm
  exact ⟨rfl,fun j e he=>by simp at he,fun _ _=>rfl⟩
 |e::l,p,h,hm=>by
  unfold dM at hm
  rw[List.mem_flatMap] at hm
  obtain ⟨n,d,hm⟩:=hm
  obtain ⟨f,c,a⟩:=xP l _ _ hm
  rw[List.length_append,List.length_singleton] at f c a
  refine ⟨by simp;omega,fun j x b=>?_,fun j g=>?_⟩
  ·cases j with
   |zero=>
    simp at b;subst b
    refine ⟨n,?_,oo.1 d⟩
    rw[Nat.add_zero,a _ (by omega),List.getElem?_append_right (Nat.le_refl _)]
    simp
   |succ j=>
    obtain ⟨m,hm,hb⟩:=c j x (by simpa using b)
    exact ⟨m,by rw[<-hm];congr 1;omega,hb⟩
  ·rw[a j (by omega),List.getElem?_append_left g]
theorem xQ {u:ak}{h:List Int}(hm:h∈dM [] u.aG):oh u h:=by
 obtain ⟨a,b,_⟩:=xP _ _ _ hm;exact ⟨by simpa using a,fun i e he=>by simpa using b i e he⟩
theorem B8 {b:c6}(hb:b.high - b.low<3):∀(all:List (List Int)),(kr b all).length<=all.length*3
 |[]=>by simp[kr]
 |p::all=>by
  have:=B8 hb all
  unfold kr at this ⊢
  rw[List.flatMap_cons,List.length_append,List.length_map,lg,List.length_cons]
  omega
theorem iw {α:Type}{l xs:List α}(h:l.length+xs.length<=1000000):cY l xs=some (l++xs):=by
 unfold cY;rw[if_pos h]
theorem Im {all:List (List Int)}{k:Nat}{p:List Int}{e:b6}(b:all[k]?=some p)(d:p.length<=100)(he:0<=e.high.low/\e.high.low<=e.high.high/\e.high.high<=60/\e.high.high - e.high.low<3)(s:List (List Int))(hs:s.length<=1000):
  aR (qI all (k:Int) e) fu (s,e.high.low)=some (.nx (s++(cA e.high).map (fun n=>p++[n]),e.high.high+1)):=by
 have key:=ob (f:=qI all (k:Int) e) (g:=fun _ x s=>s++[p++[x]]) (I:=fun i s=>s.length<=1000+i) (fun s i=>(s,e.high.low+i)) (cA e.high) (by rw[lg];omega)
  (fun i x s c h=>by
   obtain ⟨rfl,hb⟩:=Il c
   refine ⟨?_,by simp;omega⟩
   unfold qI
   rw[show decide ((s,e.high.low+(i:Int)).2<=e.high.high)=true by simpa using hb]
   simp only[cond_true,fj b,ag,iw (l:=([]:List Int)) (xs:=p) (by simp;omega),List.nil_append,iw (l:=p) (xs:=[e.high.low+(i:Int)]) (by simp;omega),iw (l:=s) (xs:=[p++[e.high.low+(i:Int)]]) (by simp;omega)]
   rw[cc (n:=e.high.low+(i:Int)+1) (by omega)]
   simp;omega)
  (fun s=>by
   unfold qI
   rw[show decide ((s,e.high.low+((cA e.high).length:Int)).2<=e.high.high)=false by rw[lg];simp;omega]
   rfl) s (by omega)
 have:=key.1
 rw[qO (fun x=>[p++[x]])] at this
 simp only[Int.add_zero] at this
 rw[this]
 congr 2
 refine Prod.ext ?_ ?_
 ·simp only[List.append_cancel_left_eq]
  induction cA e.high with
  |nil=>rfl
  |cons a l ih=>simp[ih]
 ·simp only[lg];omega
theorem Io {u:ak}{all:List (List Int)}{i:Nat}{e:b6}(hi:u.aG[i]?=some e)(b:∀p∈all,p.length<=100)(c:all.length<=100)(he:0<=e.high.low/\e.high.low<=e.high.high/\e.high.high<=60/\e.high.high - e.high.low<3):
  aR (qJ u all (i:Int)) fu (([]:List (List Int)),0)=some (.nx (kr e.high all,(all.length:Int))):=by
 have key:=ob (f:=qJ u all (i:Int)) (g:=fun _ p s=>s++(cA e.high).map fun n=>p++[n]) (I:=fun i s=>s.length<=3*i/\i<=all.length) (fun s i=>(s,i)) all (by omega)
  (fun k p s a d=>by
   have h:k<all.length:=(List.getElem?_eq_some_iff.1 a).1
   refine ⟨?_,by simp[lg];omega,by omega⟩
   unfold qJ
   rw[show decide ((s,(k:Int)).2<(all.length:Int))=true by simp;omega]
   simp only[cond_true,fj hi,ag,Im a (b p (List.mem_of_getElem? a)) he s (by omega),aB]
   rw[cc (n:=(k:Int)+1) (by omega)]
   rfl)
  (fun s=>by
   unfold qJ
   rw[show decide ((s,(all.length:Int)).2<(all.length:Int))=false by simp]
   rfl) ([]:List (List Int)) ⟨by simp,by omega⟩
 have:=key.1
 rw[qO (fun p=>(cA e.high).map fun n=>p++[n])] at this
 simpa [kr] using this
theorem B9 {u:ak}:∀(l:List (List Int)) (i:Nat) (s:List (List Int)),foldI (fun _ x s=>if fI u x then s++[x] else s) i l s=s++l.filter (fI u)
 |[],_,s=>by simp[foldI]
 |x::l,i,s=>by
  unfold foldI
  rw[B9 l]
  cases h:fI u x<;>simp[h]
theorem three (i:Nat)(h:i<=3):3 ^ i<=27:=by
 rcases (show i=0\/i=1\/i=2\/i=3 by omega) with rfl|rfl|rfl|rfl<;>decide
theorem Ca {u:ak}(F:Fit u):BQ u=some (cn u)/\(cn u).length<=27:=by
 have r:=F.aG;have key:=ob (f:=tA u) (g:=fun _ (e:b6) all=>kr e.high all) (I:=fun i all=>(∀p∈all,p.length=i)/\all.length<=3 ^ i/\i<=u.aG.length) (fun s i=>(s,i)) u.aG (by omega)
  (fun i e all hi c=>by
   obtain ⟨d,t,v⟩:=c;have k:i<u.aG.length:=(List.getElem?_eq_some_iff.1 hi).1;have he:=(F.aW i e hi).2;have w:=three i (by omega);have hs:=B8 he.2.2.2 all;refine ⟨?_,fun p a=>?_,by rw[Nat.pow_succ];omega,by omega⟩
   ·unfold tA;rw[show decide ((all,(i:Int)).2<(u.aG.length:Int))=true by simp;omega];simp only[cond_true,Io hi (fun p a=>by have:=d p a;omega) (by omega) he,ag,aB];rw[cc (n:=(i:Int)+1) (by omega)];rfl
   ·unfold kr at a;rw[List.mem_flatMap] at a;obtain ⟨q,m,a⟩:=a;rw[List.mem_map] at a;obtain ⟨n,_,rfl⟩:=a
    simp[d q m])
  (fun s=>by
   unfold tA;rw[show decide ((s,(u.aG.length:Int)).2<(u.aG.length:Int))=false by simp]
   rfl) [[]] ⟨by simp,by simp,by omega⟩
 obtain ⟨k1,b⟩:=key;rw[B7] at k1 b;simp only[List.flatMap_cons,List.flatMap_nil,List.append_nil] at k1 b;have hlen:(dM [] u.aG).length<=27:=Nat.le_trans b.2.1 (three _ (by omega));have j:=ob (f:=tB u (dM [] u.aG)) (g:=fun _ x s=>if fI u x then s++[x] else s) (I:=fun i s=>s.length<=i/\i<=(dM [] u.aG).length) (fun s i=>(s,i)) (dM [] u.aG) (by omega)
  (fun i h s hi c=>by
   have k:i<(dM [] u.aG).length:=(List.getElem?_eq_some_iff.1 hi).1;have o:=HX F (xQ (List.mem_of_getElem? hi));refine ⟨?_,by cases fI u h<;>simp<;>omega,by omega⟩;unfold tB;rw[show decide ((s,(i:Int)).2<((dM [] u.aG).length:Int))=true by simp;omega];simp only[cond_true,fj hi,ag,o];rw[cc (n:=(i:Int)+1) (by omega)];cases fI u h with
   |false=>rfl
   |true=>simp only[cond_true,iw (l:=s) (xs:=[h]) (by simp;omega)];rfl)
  (fun s=>by
   unfold tB;rw[show decide ((s,((dM [] u.aG).length:Int)).2<((dM [] u.aG).length:Int))=false by simp]
   rfl) ([]:List (List Int)) ⟨by simp,by omega⟩
 rw[B9] at j;refine ⟨?_,Nat.le_trans (List.length_filter_le _ _) hlen⟩;unfold BQ;rw[k1];simp only[ag,aB];rw[j.1];simp only[List.nil_append];rfl
def co (h:aX)(j:Nat):Int:=if j=0 then h.e0 else if j=1 then h.e1 else if j=2 then h.e2 else 0
theorem Ip (h:aX){j:Nat}(d:j<3)(n:Int):∃a,h.setAt (j:Int) n=some a/\∀i,co a i=if i=j then n else co h i:=by
 rcases (show j=0\/j=1\/j=2 by omega) with rfl|rfl|rfl
 ·refine ⟨{h with e0:=n},rfl,fun i=>?_⟩;unfold co;split<;>rfl
 ·refine ⟨{h with e1:=n},rfl,fun i=>?_⟩;unfold co;by_cases b:i=0<;>by_cases a:i=1<;>simp[b,a]<;>omega
 ·refine ⟨{h with e2:=n},rfl,fun i=>?_⟩;unfold co;by_cases b:i=0<;>by_cases a:i=1<;>by_cases c:i=2<;>simp[b,a,c]<;>omega
structure Ag (u:ak)(p:List Int)(h:aX):Prop where
 at_:∀(j:Nat) n,p[j]?=some n->co h j=n
 no:∀j,u.aG.length<=j->co h j=0
theorem Ag.dc {u:ak}{p:List Int}{h:aX}(H:Ag u p h)(a:p.length=u.aG.length):h=dc p:=by
 have key:∀j,co h j=p[j]?.getD 0:=fun j=>by
  cases e:p[j]? with
  |some n=>exact H.at_ j n e
  |none=>exact H.no j (by rw[<-a];exact List.getElem?_eq_none_iff.1 e)
 have b:=key 0;have k1:=key 1;have c:=key 2;cases h;unfold Go.Proofs.YtpgcmoanfifglaaGreatDoor.dc;rw[<-b,<-k1,<-c];rfl
theorem Ag.set {u:ak}{p:List Int}{h:aX}(H:Ag u p h)(c:p.length<u.aG.length)(d:u.aG.length<=3)(n:Int):∃a,h.setAt (p.length:Int) n=some a/\Ag u (p++[n]) a:=by
 obtain ⟨a,e1,e2⟩:=Ip h (j:=p.length) (by omega) n;refine ⟨a,e1,fun j m hm=>?_,fun j b=>?_⟩
 ·rw[e2];by_cases e:j=p.length
  ·subst e;rw[if_pos rfl];simpa using hm
  ·rw[if_neg e];refine H.at_ j m ?_;rw[<-hm,List.getElem?_append_left];have:=(List.getElem?_eq_some_iff.1 hm).1;simp at this;omega
 ·rw[e2,if_neg (by omega)];exact H.no j b
theorem Ag.cut {u:ak}{p:List Int}{n:Int}{h:aX}(H:Ag u (p++[n]) h):Ag u p h:=
 ⟨fun j m hm=>H.at_ j m (by rw[List.getElem?_append_left (List.getElem?_eq_some_iff.1 hm).1];exact hm),H.no⟩
theorem Cb {a b:Int}(h:a<=b):cA ⟨a,b⟩=a::cA ⟨a+1,b⟩:=by
 unfold cA;simp only;rw[show (b - a+1).toNat=(b - (a+1)+1).toNat+1 by omega,List.range_succ_eq_map];simp only[List.map_cons,List.map_map,Function.comp_def];congr 1
 ·simp
 ·apply List.map_congr_left;intro k _;simp only[Nat.succ_eq_add_one];omega
theorem Cc {a b:Int}(h:¬a<=b):cA ⟨a,b⟩=[]:=by
 unfold cA;simp only;rw[show (b - a+1).toNat=0 by omega];rfl
theorem Cd {u:ak}{p:List Int}(a:p.length<u.aG.length)(b:u.aG.length<=3){f:aX->List (Option aX)×aX}{G:Int->List (Option aX)}{lo hi:Int}(hb:0<=lo/\hi<=60)
  (d:∀n,lo<=n->n<=hi->∀h,Ag u (p++[n]) h->(f h).1=G n/\Ag u (p++[n]) (f h).2):
  ∀(k:Nat) (n:Int) (h:aX),Ag u p h->lo<=n->n<=61->61 - n<k->(iX f (p.length:Int) hi k n h).1=(cA ⟨n,hi⟩).flatMap G/\Ag u p (iX f (p.length:Int) hi k n h).2
 |0,n,h,H,e,g,i=>by omega
 |k+1,n,h,H,e,g,i=>by
  unfold iX
  by_cases c:n<=hi
  ·rw[if_pos c,Cb c]
   obtain ⟨x,e1,e2⟩:=H.set a b n
   rw[e1]
   obtain ⟨j,l⟩:=d n e c x e2
   have w:IntKind.i64.wrap (n+1)=n+1:=cc (by omega)
   obtain ⟨r1,r2⟩:=Cd a b hb d k (n+1) (f x).2 l.cut (by omega) (by omega) (by omega)
   simp only[w]
   exact ⟨by rw[j,r1,List.flatMap_cons],r2⟩
  ·rw[if_neg c,Cc c]
   exact ⟨rfl,H⟩
theorem Ce {u:ak}(F:Fit u):∀(l:List b6) (p:List Int) (fuel:Nat) (h:aX),u.aG.drop p.length=l->p.length+l.length=u.aG.length->l.length<fuel->
  (∀(j:Nat) e,u.aG[j]?=some e->j<p.length->∃n,p[j]?=some n/\e.high.low<=n/\n<=e.high.high)->Ag u p h->
  (eL u fuel (p.length:Int) h).1=((dM p l).filter (fI u)).map (fun x=>some (dc x))/\Ag u p (eL u fuel (p.length:Int) h).2
 |l,p,0,h,hd,a,b,hb,H=>by omega
 |[],p,fuel+1,h,hd,a,b,hb,H=>by
  have a:p.length=u.aG.length:=by simpa using a
  unfold eL
  rw[if_pos (by omega)]
  obtain rfl:=H.dc a
  have R:=HY F (h:=p) ⟨a,fun i e he=>hb i e he (by have:=(List.getElem?_eq_some_iff.1 he).1;omega)⟩
  refine ⟨?_,H⟩
  rw[R]
  unfold dM
  cases e:fI u p<;>simp[e]
 |e::l,p,fuel+1,h,hd,a,b,hb,H=>by
  simp only[List.length_cons] at a b
  have he:u.aG[p.length]?=some e:=by
   have:=congrArg List.head? hd
   simpa [List.head?_drop] using this
  have k:u.aG.drop (p.length+1)=l:=by
   have:=congrArg List.tail hd
   simpa [List.tail_drop] using this
  have o:=F.aG
  have g:=(F.aW _ _ he).2
  unfold eL
  rw[if_neg (by omega),fj he]
  have w:IntKind.i64.wrap ((p.length:Int)+1)=((p.length+1:Nat):Int):=by rw[cc (by omega)];omega
  simp only[w]
  have key:=Cd (u:=u) (p:=p) (by omega) o.2 (f:=eL u fuel ((p.length+1:Nat):Int)) (G:=fun n=>((dM (p++[n]) l).filter (fI u)).map (fun x=>some (dc x))) (lo:=e.high.low) (hi:=e.high.high) ⟨g.1,g.2.2.1⟩
   (fun n n1 n2 x q=>by
    have:=Ce F l (p++[n]) fuel x (by simpa using k) (by simp;omega) (by omega) (fun j y d r=>by
     by_cases c:j<p.length
     ·obtain ⟨m,hm,s⟩:=hb j y d c
      exact ⟨m,by rw[List.getElem?_append_left c];exact hm,s⟩
     ·simp at r
      obtain rfl:j=p.length:=by omega
      rw[he] at d;cases d
      exact ⟨n,by simp,n1,n2⟩) q
    simpa using this) 100 e.high.low h H (Int.le_refl _) (by omega) (by omega)
  refine ⟨?_,key.2⟩
  rw[key.1,show dM p (e::l)=(cA e.high).flatMap fun n=>dM (p++[n]) l from rfl,List.filter_flatMap,List.map_flatMap]
theorem Iq (j:Nat):co ⟨0,0,0⟩ j=0:=by
 unfold co;split
 ·rfl
 ·split
  ·rfl
  ·split<;>rfl
theorem Cf {u:ak}(F:Fit u):mo u=(cn u).map (fun x=>some (dc x)):=by
 have c:=F.aG;exact (Ce F u.aG [] 5 ⟨0,0,0⟩ rfl (by simp) (by omega) (fun j e _ a=>absurd a (by simp)) ⟨fun j n b=>by simp at b,fun j _=>Iq j⟩).1
theorem Cg:∀(l:List aX) (s:List aX),s.length+l.length<=1000000->gb nD (l.map some) s=some (.nx (s++l))
 |[],s,_=>by simp[gb]
 |x::l,s,h=>by
  simp only[List.length_cons] at h
  simp only[List.map_cons]
  have:=Cg l (s++[x]) (by simp;omega)
  rw[show s++x::l=s++[x]++l by simp,<-this]
  have e:nD x s=some (.nx (s++[x])):=by
   unfold nD
   rw[iw (by simp;omega)]
   rfl
  show gb _ (some x::l.map some) s=_
  rw[gb,e]
  rfl
theorem Ir {l:List aX}(h:l.length<=1000):qe (l.map some)=some l:=by
 unfold qe sL;rw[Cg l [] (by simp;omega)];simp[ag,aB]
def It:cR:=⟨Bs,[]⟩
theorem Ch {u:ak}(F:Fit u){b:List (ak->Option Int)}(h:eU u b=some (u,0)):gD u b=some (if (cn u).isEmpty then (It,9) else (⟨u,(cn u).map dc⟩,0)):=by
 unfold gD;rw[h];simp only[ag];rw[show ((0:Int) != 0)=false by decide];simp only[cond_false];have c:=(Ca F).2;rw[Cf F,show (cn u).map (fun x=>some (dc x))=((cn u).map dc).map some by simp,Ir (by simp;omega)];simp only[ag];cases cn u with
 |nil=>rfl
 |cons a l=>
  rw[show ((((a::l).map dc).length:Int)==0)=false by simp;omega];rfl
structure xR (u:ak):Prop where
 e:u.av.length<=20
 p:u.props.length<=20
 y:u.aG.length<=20
 t:u.told.length<=20
theorem bars {u:ak}(L:xR u):∃c,e4 u=some c/\mG u=some c:=by
 obtain ⟨b,c,a⟩:=HI u L.e L.p L.y L.t;exact ⟨c,a,b▸a⟩
theorem Iu {u:ak}(h:e4 u=some 0):eU u []=some (u,0):=by
 unfold eU;rw[h];rfl
theorem Iv (u:ak)(n:Int):eK n u=some (cond (gY u n) 0 6):=by
 unfold eK;rw[(xp u n).2];simp only[ag];cases gY u n<;>rfl
theorem Iw {u:ak}(F:Fit u){n:Int}:gY u n=true↔0<=n/\n<u.aG.length:=by
 have:=F.aG;unfold gY;rw[cc (by omega),dP];omega
theorem Ci {α β σ:Type}(f:α->β)(g:Nat->β->σ->σ):∀(l:List α) (i:Nat) (s:σ),foldI g i (l.map f) s=foldI (fun i x s=>g i (f x) s) i l s
 |[],_,_=>rfl
 |x::l,i,s=>by
  simp only[List.map_cons]
  unfold foldI
  exact Ci f g l (i+1) _
theorem Cj {α σ:Type}{g g':Nat->α->σ->σ}:∀(l:List α) (i:Nat) (s:σ),(∀j x s,x∈l->g j x s=g' j x s)->foldI g i l s=foldI g' i l s
 |[],_,_,_=>rfl
 |x::l,i,s,h=>by
  unfold foldI
  rw[h i x s (List.mem_cons_self ..)]
  exact Cj l (i+1) _ fun j y s a=>h j y s (List.mem_cons_of_mem _ a)
theorem xS {u:ak}{h:List Int}(hm:h∈cn u):oh u h/\fI u h=true:=by
 obtain ⟨a,b⟩:=List.mem_filter.1 hm;exact ⟨xQ a,b⟩
section
variable {u : ak} (F : Fit u) {i : Nat} {e : b6} (he : u.aG[i]? = some e)
include F he
theorem Ck {h:List Int}(hm:h∈cn u):∃n,h[i]?=some n/\ja u i (h[i]?.getD 0)=⟨e.back,n⟩/\(1<=e.back/\e.back<=20)/\0<=n/\n<=60:=by
 obtain ⟨n,c,a,b⟩:=(xS hm).1.BT i e he;obtain ⟨c1,c2,c3,c4,d⟩:=F.aW _ _ he;refine ⟨n,c,?_,c1,by omega,by omega⟩;rw[c];unfold ja;rw[he];rfl
end
end Go.Proofs.YtpgcmoanfifglaaGreatDoor
end
section
namespace Go.Sep
open Go Go.Conc
def mJ (P:Program)(J:Goroutine->aa->Prop)(ops:Array Oper)(F0:aa)(Q:Act->aa->Prop):List Oper->Bool->Act->aa->Prop
 |[],_,a,F=>Q a F
 |o::rest,_,a,F=>match cz ops o a with
  |some true=>cJ P J o (fun v F'=>Knows F0 F'/\mJ P J ops F0 Q rest (!Oper.calls o) (bg a o.dst v) F') a F
  |some false=>mJ P J ops F0 Q rest true (bg a o.dst undef) F
  |none=>False
theorem Ix {P:Program}{J:Goroutine->aa->Prop}{ops:Array Oper}{F0:aa}{Q:Act->aa->Prop}{go:Bool}{a:Act}{F:aa}:mJ P J ops F0 Q [] go a F=Q a F:=rfl
theorem Iy {P:Program}{J:Goroutine->aa->Prop}{ops:Array Oper}{F0:aa}{Q:Act->aa->Prop}{o:Oper}{rest:List Oper}{a:Act}{F:aa}:mJ P J ops F0 Q (o::rest) true a F=match cz ops o a with
  |some true=>cJ P J o (fun v F'=>Knows F0 F'/\mJ P J ops F0 Q rest (!Oper.calls o) (bg a o.dst v) F') a F
  |some false=>mJ P J ops F0 Q rest true (bg a o.dst undef) F
  |none=>False:=(Eq.refl _).trans (Eq.refl _)
attribute [irreducible] mJ
attribute [go_sem] Ix Iy
end Go.Sep
end
section
namespace Go.Proofs.YtpgcmoanfifglaaGreatDoor
open Go Go.Sep Go.Proofs
set_option maxRecDepth 100000
set_option maxHeartbeats 4000000
theorem Iz {s:List aX}{y:aX}:j7 s y=true↔y∈s:=by
 rw[xb,List.mem_map];constructor
 ·rintro ⟨z,a,h⟩;obtain rfl:=w9 h;exact a
 ·exact fun h=>⟨y,h,rfl⟩
theorem Cl:∀(l s:List aX),(s++l).Nodup->gb nN (l.map some) s=some (.nx (s++l))
 |[],s,_=>by simp[gb]
 |x::l,s,h=>by
  have e:nN x s=some (.nx (s++[x])):=by
   unfold nN
   have:j7 s x=false:=by
    cases c:j7 s x with
    |false=>rfl
    |true=>
     have a:=(List.nodup_append.1 h).2.2
     exact absurd rfl (a x (Iz.1 c) x (List.mem_cons_self ..))
   rw[this];rfl
  show gb nN (some x::l.map some) s=_
  rw[gb,e]
  have:=Cl l (s++[x]) (by simpa using h)
  rw[show s++x::l=s++[x]++l by simp]
  exact this
theorem Cm:∀(l:List b6) (p h:List Int),h∈dM p l->∀j,j<p.length->h[j]?=p[j]?:=fun l p h hm=>(xP l p h hm).2.2
theorem IA (b:c6):(cA b).Nodup:=by
 unfold cA;refine List.Pairwise.map _ ?_ (List.nodup_range (n:=(b.high - b.low+1).toNat));intro a c h e;exact h (by omega)
theorem Cn:∀(l:List b6) (p:List Int),(dM p l).Nodup
 |[],p=>by simp[dM]
 |e::l,p=>by
  unfold dM
  rw[List.flatMap_def]
  unfold List.Nodup
  rw[List.pairwise_flatten]
  refine ⟨fun x d=>?_,?_⟩
  ·rw[List.mem_map] at d
   obtain ⟨n,_,rfl⟩:=d
   exact Cn l _
  ·rw[List.pairwise_map]
   refine (IA e.high).imp ?_
   intro a b f x g y h i
   subst i
   have j:=Cm l _ _ g p.length (by simp)
   have c:=Cm l _ _ h p.length (by simp)
   rw[j] at c
   simp at c
   exact f c
theorem IB {l m:List Int}(h:l.length=m.length)(a:l.length<=3)(e:dc l=dc m):l=m:=by
 unfold dc at e;rw[aX.mk.injEq] at e;obtain ⟨e0,e1,e2⟩:=e;refine List.ext_getElem? fun i=>?_;by_cases hi:i<l.length
 ·have hm:i<m.length:=by omega
  have key:l[i]?.getD 0=m[i]?.getD 0:=by
   rcases (show i=0\/i=1\/i=2 by omega) with rfl|rfl|rfl<;>assumption
  rw[List.getElem?_eq_getElem hi,List.getElem?_eq_getElem hm] at key ⊢;simpa using key
 ·rw[List.getElem?_eq_none (by omega),List.getElem?_eq_none (by omega)]
theorem IC {u:ak}(F:Fit u):((cn u).map dc).Nodup:=by
 have c:(cn u).Nodup:=(Cn u.aG []).filter _;unfold List.Nodup at c ⊢;rw[List.pairwise_map];refine List.Pairwise.imp_of_mem ?_ c;intro a b d hb f e;have g:=(xS d).1.len;have h:=(xS hb).1.len;have:=F.aG;exact f (IB (by omega) (by omega) e)
theorem ID {u:ak}(F:Fit u)(h:e4 u=some 0):nO u=some (((cn u).length:Int),0):=by
 unfold nO;rw[Iu h];simp only[ag];rw[show ((0:Int) != 0)=false by decide];simp only[cond_false];rw[Cf F,show (cn u).map (fun x=>some (dc x))=((cn u).map dc).map some by simp,Cl _ [] (by simpa using IC F)];simp[aB]
theorem tF {u:ak}{s:aQ}(F:Fit u)(hs:(1<=s.back/\s.back<=20)/\0<=s.high/\s.high<=60):dz u s=bA u.aY (gF u s):=by
 obtain ⟨r,a,e,b⟩:=xE F hs;rw[xN F hs] at a;obtain rfl:=Option.some.inj a;have c:Sm u.aY 20 20:=⟨by have:=F.num;omega,by have:=F.den;omega,by have:=F.den;omega⟩
 have d:=qG c b (by decide) (by decide);unfold dz fQ;rw[xN F hs];simp only[ag,d.2];rfl
structure Rz (u o:ak):Prop where
 bG:o.bG=u.bG
 bO:o.bO=u.bO
 aY:o.aY=u.aY
 props:o.props=u.props
 aG:o.aG=u.aG
 told:o.told=u.told
 di:∀x,x∈u.props->iW o x.place=iW u x.place
 xT:∀s:aQ,(1<=s.back/\s.back<=20)/\0<=s.high/\s.high<=60->(eG o s).2=(eG u s).2
theorem oq {n a b:Int}(c:a<=n)(d:n<=b):bI n a b=true:=dP.2 ⟨c,d⟩
section
variable {u : ak} {s : aQ} (F : Fit u) (h : e4 u = some 0) (hs : (1 ≤ s.back ∧ s.back ≤ 20) ∧ 0 ≤ s.high ∧ s.high ≤ 60)
include F h hs
theorem IE:eU u [eJ s]=some (u,0):=by
 have hb:eJ s u=some 0:=by
  rw[HO,HP];unfold xx;rw[oq hs.1.1 hs.1.2,oq hs.2.1 hs.2.2];rfl
 rw[Bt h hb];rfl
theorem IF:mq u s=some (gF u s,bA u.aY (gF u s),0):=by
 unfold mq;have e1:=(tE F hs).1;rw[tF F hs] at e1;simp only[IE F h hs,ag,bne_self_eq_false,cond_false,xN F hs,e1]
end
def ot (o:Nat)(S:List Int)(i:Nat):List Int:=(List.replicate o (S.flatMap fun n=>List.replicate i n)).flatten
def ou:List (List Int):=[[0],[0,1],[0,2],[0,1,2]]
def mK:List (Nat×Nat):=[(1,1),(1,2),(1,3),(1,4),(1,6),(1,9),(2,1),(3,1),(4,1),(6,1),(9,1),(2,2),(2,3),(3,2),(3,3)]
def xU (l:List Int):Option (List Int):=ag (qh l) fun x=>sU x.2
def ov (c:Nat):Bool:=mK.all fun p=>ou.all fun S=>xU (ot p.1 (S.map (· +(c:Int))) p.2)==some (S.map (· +(c:Int)))
theorem IG:∀c:Fin 16,ov c.val=true:=by decide+kernel
theorem II:∀c:Fin 16,ov (16+c.val)=true:=by decide+kernel
theorem IJ:∀c:Fin 16,ov (32+c.val)=true:=by decide+kernel
theorem IK:∀c:Fin 13,ov (48+c.val)=true:=by decide+kernel
theorem IL {c:Nat}(h:c<=60):ov c=true:=by
 rcases Nat.lt_or_ge c 16 with x|x
 ·exact IG ⟨c,x⟩
 rcases Nat.lt_or_ge c 32 with y|y
 ·have:=II ⟨c - 16,by omega⟩
  rwa [show 16+(c - 16)=c by omega] at this
 rcases Nat.lt_or_ge c 48 with z|z
 ·have:=IJ ⟨c - 32,by omega⟩
  rwa [show 32+(c - 32)=c by omega] at this
 ·have:=IK ⟨c - 48,by omega⟩
  rwa [show 48+(c - 48)=c by omega] at this
theorem IM {c:Nat}(h:c<=60){p:Nat×Nat}(a:p∈mK){S:List Int}(b:S∈ou):xU (ot p.1 (S.map (· +(c:Int))) p.2)=some (S.map (· +(c:Int))):=by
 have:=IL h;unfold ov at this;rw[List.all_eq_true] at this;have:=this p a;rw[List.all_eq_true] at this;simpa using this S b
def ow (u:ak)(i:Nat)(n:Int):Bool:=u.told.all fun t=>t.aW != (i:Int)||(dz u (ja u i n)==t.bt)
def pL:List (List Int)->List (List Int)
 |[]=>[[]]
 |s::r=>s.flatMap fun n=>(pL r).map (n::·)
def jE (P:Nat->Int->Bool):Nat->List Int->Bool
 |_,[]=>true
 |i,x::r=>P i x&&jE P (i+1) r
def g5 (P:Nat->Int->Bool):Nat->List (List Int)->List (List Int)
 |_,[]=>[]
 |i,s::r=>s.filter (P i)::g5 P (i+1) r
def lp (u:ak):List (List Int):=g5 (ow u) 0 (u.aG.map fun e=>cA e.high)
theorem Co:∀(l:List b6) (p:List Int),dM p l=(pL (l.map fun e=>cA e.high)).map (p++·)
 |[],p=>by simp[dM,pL]
 |e::l,p=>by
  unfold dM
  rw[List.map_cons]
  unfold pL
  rw[List.map_flatMap]
  congr 1
  funext n
  rw[Co l (p++[n]),List.map_map]
  refine List.map_congr_left fun q _=>?_
  simp
theorem Cp {α β:Type}(p:α->Bool)(f:α->List β):∀l:List α,(l.filter p).flatMap f=l.flatMap fun x=>if p x then f x else []
 |[]=>rfl
 |x::l=>by
  rw[List.flatMap_cons,<-Cp p f l,List.filter_cons]
  cases p x<;>simp
theorem Cq (P:Nat->Int->Bool):∀(S:List (List Int)) (i:Nat),(pL S).filter (jE P i)=pL (g5 P i S)
 |[],i=>rfl
 |s::r,i=>by
  rw[show g5 P i (s::r)=s.filter (P i)::g5 P (i+1) r from rfl,show pL (s::r)=s.flatMap fun n=>(pL r).map (n::·) from rfl,
   show pL (s.filter (P i)::g5 P (i+1) r)=(s.filter (P i)).flatMap fun n=>(pL (g5 P (i+1) r)).map (n::·) from rfl]
  rw[Cp,List.filter_flatMap]
  congr 1
  funext n
  rw[List.filter_map]
  cases h:P i n with
  |false=>
   rw[show (jE P i ∘ fun x=>n::x)=fun _=>false by funext q;simp[jE,h]]
   simp
  |true=>
   rw[show (jE P i ∘ fun x=>n::x)=jE P (i+1) by funext q;simp[jE,h],Cq P r (i+1)]
   rfl
theorem Cr (P:Nat->Int->Bool):∀(h:List Int) (i:Nat),jE P i h=(List.range h.length).all fun j=>P (i+j) (h[j]?.getD 0)
 |[],i=>rfl
 |x::r,i=>by
  unfold jE
  rw[Cr P r (i+1),List.length_cons,List.range_succ_eq_map,List.all_cons,List.all_map]
  congr 1
  refine congrArg (fun f=>List.all _ f) ?_
  funext j
  simp only[Function.comp]
  rw[show i+1+j=i+(j+1) by omega]
  rfl
theorem IN {u:ak}(F:Fit u){h:List Int}(H:oh u h):fI u h=jE (ow u) 0 h:=by
 rw[Cr,Bool.eq_iff_iff];unfold fI;rw[List.all_eq_true,List.all_eq_true];constructor
 ·intro a j d;rw[Nat.zero_add];unfold ow;rw[List.all_eq_true];intro t ht;by_cases c:t.aW=(j:Int)
  ·have:=a t ht;unfold kq at this;rw[c,Int.toNat_natCast] at this;rw[this,Bool.or_true]
  ·rw[show (t.aW != (j:Int))=true by simpa using c,Bool.true_or]
 ·intro a t ht;obtain ⟨k,b⟩:=List.mem_iff_getElem?.1 ht;obtain ⟨e,b2⟩:=F.qD k t b;have f:=H.len;have:=a t.aW.toNat (by rw[List.mem_range];omega);rw[Nat.zero_add] at this;unfold ow at this;rw[List.all_eq_true] at this;have:=this t ht;rw[show (t.aW != (t.aW.toNat:Int))=false by rw[bne_eq_false_iff_eq];omega,Bool.false_or] at this;exact this
theorem Cs {u:ak}(F:Fit u):cn u=pL (lp u):=by
 unfold cn lp;rw[<-Cq];have e:dM [] u.aG=pL (u.aG.map fun e=>cA e.high):=by rw[Co];simp
 rw[<-e];refine List.filter_congr fun h hm=>?_;exact IN F (xQ hm)
theorem Ct:∀S:List (List Int),(pL S).length=(S.map List.length).foldr (· *·) 1
 |[]=>rfl
 |s::r=>by
  unfold pL
  rw[List.length_flatMap,List.map_cons,List.foldr_cons,<-Ct r]
  simp only[List.length_map]
  rw[List.map_const',List.sum_replicate_nat]
theorem Cu {α:Type}(x:List α)(m:Nat):∀o:Nat,(List.replicate o (List.replicate m x).flatten).flatten=(List.replicate (o*m) x).flatten
 |0=>by simp
 |o+1=>by
  rw[List.replicate_succ,List.flatten_cons,Cu x m o,<-List.flatten_append,List.replicate_append_replicate]
  congr 2
  rw[Nat.add_mul];omega
theorem Cv {α β:Type}(x:List β):∀l:List α,l.flatMap (fun _=>x)=(List.replicate l.length x).flatten
 |[]=>rfl
 |a::l=>by rw[List.flatMap_cons,Cv x l,List.length_cons,List.replicate_succ,List.flatten_cons]
theorem Cw:∀(S:List (List Int)) (i:Nat) (s:List Int),S[i]?=some s->(pL S).map (fun h=>h[i]?.getD 0)=ot (((S.take i).map List.length).foldr (· *·) 1) s (((S.drop (i+1)).map List.length).foldr (· *·) 1)
 |[],i,s,h=>by simp at h
 |a::r,0,s,h=>by
  have h:a=s:=by simpa using h
  subst h
  unfold pL ot
  rw[List.map_flatMap]
  simp only[List.take_zero,List.map_nil,List.foldr_nil,List.replicate_one,List.flatten_cons,List.flatten_nil,List.append_nil,Nat.zero_add,List.drop_succ_cons,List.drop_zero]
  rw[<-Ct]
  congr 1
  funext n
  rw[List.map_map,show ((fun h:List Int=>h[0]?.getD 0) ∘ fun x=>n::x)=fun _=>n from rfl,List.map_const']
 |a::r,i+1,s,h=>by
  have h:r[i]?=some s:=by simpa using h
  have ih:=Cw r i s h
  unfold pL
  rw[List.map_flatMap]
  have e:(fun n:Int=>List.map (fun h:List Int=>h[i+1]?.getD 0) (List.map (fun x=>n::x) (pL r)))=fun _=>(pL r).map fun h=>h[i]?.getD 0:=by
   funext n
   rw[List.map_map]
   rfl
  rw[e,ih,Cv]
  unfold ot
  rw[Cu]
  congr 2
theorem Cx (P:Nat->Int->Bool):∀(S:List (List Int)) (i j:Nat),(g5 P i S)[j]?=S[j]?.map (List.filter (P (i+j)))
 |[],i,j=>by simp[g5]
 |s::r,i,0=>by simp[g5]
 |s::r,i,j+1=>by
  have:=Cx P r (i+1) j
  rw[show i+1+j=i+(j+1) by omega] at this
  simpa [g5] using this
theorem Cz (P:Nat->Int->Bool):∀(S:List (List Int)) (i:Nat),(g5 P i S).length=S.length
 |[],i=>rfl
 |s::r,i=>by simp[g5,Cz P r (i+1)]
def dj (u:ak)(i:Nat)(e:b6):List Int:=(cA e.high).filter (ow u i)
theorem xV {u:ak}{i:Nat}{e:b6}(he:u.aG[i]?=some e):(lp u)[i]?=some (dj u i e):=by
 unfold lp;rw[Cx,List.getElem?_map,he];simp[dj]
theorem xW (u:ak):(lp u).length=u.aG.length:=by unfold lp;rw[Cz,List.length_map]
theorem IP (P:Int->Bool){b:c6}(f:0<=b.low)(g:b.low<=b.high)(i:b.high<=60)(j:b.high - b.low<3):
  (cA b).filter P=[]\/∃(c:Nat) (T:List Int),c<=60/\T∈ou/\(cA b).filter P=T.map (· +(c:Int)):=by
 obtain ⟨c,d⟩:∃c:Nat,b.low=(c:Int):=⟨b.low.toNat,by omega⟩
 rcases (show b.high=c\/b.high=c+1\/b.high=c+2 by omega) with h|h|h
 ·have e:cA b=[(c:Int)]:=by unfold cA;rw[h,d,show ((c:Int) - c+1).toNat=1 by omega];simp[List.range,List.range.loop]
  rw[e]
  cases p0:P c
  ·left;simp[List.filter,p0]
  ·right;exact ⟨c,[0],by omega,by decide,by simp[List.filter,p0]⟩
 ·have e:cA b=[(c:Int),c+1]:=by unfold cA;rw[h,d,show ((c:Int)+1 - c+1).toNat=2 by omega];simp[List.range,List.range.loop]
  rw[e]
  cases p0:P c<;>cases a:P (c+1)
  ·left;simp[List.filter,p0,a]
  ·right;exact ⟨c+1,[0],by omega,by decide,by simp[List.filter,p0,a]⟩
  ·right;exact ⟨c,[0],by omega,by decide,by simp[List.filter,p0,a]⟩
  ·right;exact ⟨c,[0,1],by omega,by decide,by simp[List.filter,p0,a];omega⟩
 ·have e:cA b=[(c:Int),c+1,c+2]:=by unfold cA;rw[h,d,show ((c:Int)+2 - c+1).toNat=3 by omega];simp[List.range,List.range.loop]
  rw[e]
  cases p0:P c<;>cases a:P (c+1)<;>cases p2:P (c+2)
  ·left;simp[List.filter,p0,a,p2]
  ·right;exact ⟨c+2,[0],by omega,by decide,by simp[List.filter,p0,a,p2]⟩
  ·right;exact ⟨c+1,[0],by omega,by decide,by simp[List.filter,p0,a,p2]⟩
  ·right;exact ⟨c+1,[0,1],by omega,by decide,by simp[List.filter,p0,a,p2];omega⟩
  ·right;exact ⟨c,[0],by omega,by decide,by simp[List.filter,p0,a,p2]⟩
  ·right;exact ⟨c,[0,2],by omega,by decide,by simp[List.filter,p0,a,p2];omega⟩
  ·right;exact ⟨c,[0,1],by omega,by decide,by simp[List.filter,p0,a,p2];omega⟩
  ·right;exact ⟨c,[0,1,2],by omega,by decide,by simp[List.filter,p0,a,p2];omega⟩
theorem CA:∀{S:List (List Int)},pL S≠[]->∀s,s∈S->s≠[]
 |[],_,s,h=>by simp at h
 |a::r,b,s,h=>by
  have e:pL (a::r)=a.flatMap fun n=>(pL r).map (n::·):=rfl
  rcases List.mem_cons.1 h with rfl|h
  ·intro he;rw[e,he] at b;exact b rfl
  ·refine CA (S:=r) (fun he=>?_) s h
   rw[e,he] at b
   exact b (by simp)
def mL (l:List Nat):Nat:=l.foldr (· *·) 1
theorem IQ {L:List Nat}(d:L.length<=3)(h:∀x,x∈L->1<=x/\x<=3){i:Nat}(hi:i<L.length):(mL (L.take i),mL (L.drop (i+1)))∈mK:=by
 match L,d,h,hi with
 |[a],_,h,hi=>
  obtain rfl:i=0:=by simpa using hi
  show (1,1)∈mK;decide
 |[a,b],_,h,hi=>
  have e:=h a (by simp);have hb:=h b (by simp);rcases (show a=1\/a=2\/a=3 by omega) with rfl|rfl|rfl<;>rcases (show b=1\/b=2\/b=3 by omega) with rfl|rfl|rfl<;>rcases (show i=0\/i=1 by simp at hi;omega) with rfl|rfl<;>decide
 |[a,b,c],_,h,hi=>
  have e:=h a (by simp);have hb:=h b (by simp);have f:=h c (by simp);rcases (show a=1\/a=2\/a=3 by omega) with rfl|rfl|rfl<;>rcases (show b=1\/b=2\/b=3 by omega) with rfl|rfl|rfl<;>rcases (show c=1\/c=2\/c=3 by omega) with rfl|rfl|rfl<;>rcases (show i=0\/i=1\/i=2 by simp at hi;omega) with rfl|rfl|rfl<;>decide
theorem xX {α β:Type}(f:α->β):∀l:List α,(l.flatMap fun x=>[f x])=l.map f
 |[]=>rfl
 |a::l=>by rw[List.flatMap_cons,xX f l];rfl
theorem CB {T:List Int}(h:T∈ou):1<=T.length/\T.length<=3:=by
 unfold ou at h;simp only[List.mem_cons,List.not_mem_nil,or_false] at h;rcases h with rfl|rfl|rfl|rfl<;>decide
variable {u : ak} (F : Fit u) (aF : cn u ≠ []) {i : Nat} {e : b6} (he : u.aG[i]? = some e)
include F aF he
theorem xY:∃(c:Nat) (T:List Int),c<=60/\T∈ou/\dj u i e=T.map (· +(c:Int)):=by
 obtain ⟨c1,c2,c3,c4,a⟩:=F.aW _ _ he;rcases IP (ow u i) (b:=e.high) c2 c3 c4 a with h|h
 ·rw[Cs F] at aF;exact absurd h (CA aF _ (List.mem_of_getElem? (xV he)))
 ·exact h
theorem IS:∃p,p∈mK/\1<=p.1/\1<=p.2/\(cn u).map (fun h=>h[i]?.getD 0)=ot p.1 (dj u i e) p.2:=by
 have hi:i<u.aG.length:=(List.getElem?_eq_some_iff.1 he).1;have o:=F.aG;have m:∀x,x∈(lp u).map List.length->1<=x/\x<=3:=fun x f=>by
  rw[List.mem_map] at f;obtain ⟨s,hs,rfl⟩:=f;obtain ⟨j,g⟩:=List.mem_iff_getElem?.1 hs;have k:j<u.aG.length:=by rw[<-xW u];exact (List.getElem?_eq_some_iff.1 g).1
  have l:=xV (u:=u) (List.getElem?_eq_getElem k);rw[g] at l;obtain ⟨c,T,-,n,e2⟩:=xY F aF (List.getElem?_eq_getElem k);rw[Option.some.inj l,e2,List.length_map];exact CB n
 have d:=IQ (L:=(lp u).map List.length) (by simp[xW];omega) m (i:=i) (by simp[xW];omega);refine ⟨_,d,?_,?_,?_⟩
 ·revert d;generalize mL _=a;generalize mL _=b;intro d;have:∀q,q∈mK->1<=q.1:=by decide
  exact this _ d
 ·revert d;generalize mL _=a;generalize mL _=b;intro d;have:∀q,q∈mK->1<=q.2:=by decide
  exact this _ d
 ·rw[Cs F,Cw _ i _ (xV he)];unfold mL;rw[List.map_take,List.map_drop]
theorem IT:bB (nL (i:Int)) 0 ((cn u).map dc) []=some (.nx ((cn u).map fun h=>h[i]?.getD 0)):=by
 have hi:i<u.aG.length:=(List.getElem?_eq_some_iff.1 he).1;have d:=F.aG;have e:=(Ca F).2;have key:=jD (f:=nL (i:Int)) (g:=fun _ x (s:List Int)=>s++[(aX.get x (i:Int)).getD 0]) (I:=fun j s=>s.length<=j/\j<=(cn u).length) ((cn u).map dc) 0 [] ⟨by simp,by omega⟩
  (fun j x s a k=>by
   rw[List.getElem?_map,Option.map_eq_some_iff] at a;obtain ⟨h,b,rfl⟩:=a;have l:j<(cn u).length:=(List.getElem?_eq_some_iff.1 b).1;obtain ⟨m,hm,hs,hb⟩:=Ck F he (List.mem_of_getElem? b);have hg:aX.get (dc h) (i:Int)=some m:=xG (by omega) (by omega) (by simpa using hm);refine ⟨?_,?_⟩
   ·unfold nL;simp only[hg,ag,Option.getD_some];unfold cY;rw[if_pos (by simp;omega)]
   ·simp only[List.length_append,List.length_singleton];omega)
 rw[key.1,Ci];congr 2;have e1:foldI (fun n x s=>s++[((dc x).get (i:Int)).getD 0]) 0 (cn u) []=foldI (fun _ x (s:List Int)=>s++(fun x:List Int=>[x[i]?.getD 0]) x) 0 (cn u) []:=by
  refine Cj _ _ _ fun j h s hm=>?_;obtain ⟨m,c,hs,hb⟩:=Ck F he hm;have hg:aX.get (dc h) (i:Int)=some m:=xG (by omega) (by omega) (by simpa using c);rw[hg];show _=s++[h[i]?.getD 0];rw[c]
 rw[e1,qO,List.nil_append];exact xX _ _
theorem CC:k4 ⟨u,(cn u).map dc⟩ (i:Int)=some (dj u i e):=by
 obtain ⟨p,a,j,p2,b⟩:=IS F aF he;obtain ⟨c,T,d,f,g⟩:=xY F aF he;have hs:=IM d a f;rw[<-g,<-b] at hs;unfold k4;rw[IT F aF he];unfold xU at hs;simp only[ag,aB] at hs ⊢;cases h:qh ((cn u).map fun h=>h[i]?.getD 0) with
 |none=>rw[h] at hs;cases hs
 |some x=>
  rw[h] at hs;simp only at hs ⊢;rw[hs]
end Go.Proofs.YtpgcmoanfifglaaGreatDoor
end

/- A part of the proof of a row and its tied card: QO6. -/
import Derived.Test.YtghbphimkgamkaaGreatDoorQO5
set_option linter.all false
section
namespace Go.Proofs.YtghbphimkgamkaaGreatDoor
open Go Go.Sep Go.Proofs
set_option maxRecDepth 100000
set_option maxHeartbeats 4000000
def dF {α:Type}(t:Nat->α->Option Int):Nat->List α->Option Int
 |_,[]=>none
 |i,x::l=>match t i x with
  |some r=>some r
  |none=>dF t (i+1) l
def ij {σ:Type}(o:Option Int)(s:σ):Fl σ Int:=match o with
 |some r=>.rt r
 |none=>.nx s
theorem qX {α σ:Type}{f:Nat->α->σ->Option (Fl σ Int)}{t:Nat->α->Option Int}:∀(l:List α) (i:Nat) (s:σ),(∀j x s,l[j]?=some x->f (i+j) x s=some (ij (t (i+j) x) s))->bD f i l s=some (ij (dF t i l) s)
 |[],i,s,_=>rfl
 |x::l,i,s,h=>by
  have a:=h 0 x s rfl
  simp only[Nat.add_zero] at a
  unfold bD dF
  rw[a]
  cases ht:t i x with
  |some r=>rfl
  |none=>
   show bD f (i+1) l s=_
   exact qX l (i+1) s fun j y s b=>by
    have:=h (j+1) y s (by simpa using b)
    rwa [show i+(j+1)=i+1+j by omega] at this
theorem BP {α σ:Type}{f:σ×Int->Option (Fl (σ×Int) Int)}{t:Nat->α->Option Int}(l:List α)(h:∀(i:Nat) x s,l[i]?=some x->f (s,(i:Int))=some (ij (t i x) (s,((i+1:Nat):Int))))(a:∀s,f (s,(l.length:Int))=some (.bk (s,(l.length:Int)))):
  ∀(k i n:Nat) (s:σ),i+k=l.length->k<n->aQ f n (s,(i:Int))=some (ij (dF t i (l.drop i)) (s,(l.length:Int)))
 |0,i,n+1,s,hi,_=>by
  obtain rfl:i=l.length:=by omega
  unfold aQ
  rw[a,List.drop_length]
  rfl
 |k+1,i,n+1,s,hi,d=>by
  have b:i<l.length:=by omega
  have c:l[i]?=some l[i]:=List.getElem?_eq_getElem b
  unfold aQ
  rw[h i _ s c,List.drop_eq_getElem_cons b]
  unfold dF
  cases ht:t i l[i] with
  |some r=>rfl
  |none=>exact BP l h a k (i+1) n s (by omega) (by omega)
theorem tU {α σ:Type}{f:σ×Int->Option (Fl (σ×Int) Int)}{t:Nat->α->Option Int}(l:List α)(a:l.length<=1000)(h:∀(i:Nat) x s,l[i]?=some x->f (s,(i:Int))=some (ij (t i x) (s,((i+1:Nat):Int))))(b:∀s,f (s,(l.length:Int))=some (.bk (s,(l.length:Int))))(s:σ):
  aQ f fu (s,0)=some (ij (dF t 0 l) (s,(l.length:Int))):=by
 have:=BP l h b l.length 0 fu s (by omega) (Nat.lt_of_le_of_lt a (by decide))
 simpa using this
theorem jR:fQ=eC:=rfl
theorem Iv:qp=mR:=rfl
def bK (a lo hi:Int):Bool:=decide (lo<=a)&&decide (a<=hi)
theorem eO (a lo hi:Int):eC a lo hi=some (bK a lo hi):=by
 unfold eC bK;cases decide (lo<=a)<;>rfl
def kI (b:de)(lo hi:Int):Bool:=decide (lo<=b.low)&&(decide (b.low<=b.high)&&decide (b.high<=hi))
theorem BQ (b:de)(lo hi:Int):mR b lo hi=some (kI b lo hi):=by
 unfold mR kI;cases decide (lo<=b.low)<;>cases decide (b.low<=b.high)<;>rfl
theorem bU {n:Int}(h: -9223372036854775808<=n/\n<9223372036854775808):IntKind.i64.wrap n=n:=IntWalk.i64_in _ (by constructor<;>omega)
def gy (u:ak)(i:Nat)(x:bN):Option Int:=
 cond (bK x.aH 0 (IntKind.i64.wrap (u.bH - 1))) (cond (bK x.high 0 60) (match i with
  |0=>none
  |j+1=>match u.an[j]? with
   |some y=>cond (decide (x.aH<=y.aH)) (some 7) none
   |none=>none) (some 1)) (some 1)
theorem xV (u:ak)(g:u.an.length<=20):lg u=some (cond (bK u.an.length 2 5) ((dF (gy u) 0 u.an).getD 0) 2)/\mW u=lg u:=by
 have key:lg u=some (cond (bK u.an.length 2 5) ((dF (gy u) 0 u.an).getD 0) 2):=by
  unfold lg;rw[jR,eO];show cond (!bK (u.an.length:Int) 2 5) _ _=_;cases bK (u.an.length:Int) 2 5 with
  |false=>rfl
  |true=>
   show ag (bD _ 0 u.an 0) _=_;rw[qX (t:=gy u) u.an 0 0 ?_]
   .show ay (ij _ _) _ _ _=_;cases dF (gy u) 0 u.an<;>rfl
   .intro j x s b;rw[Nat.zero_add];unfold sX gy;rw[jR,eO,eO];show cond (!bK x.aH 0 _) _ _=_;cases bK x.aH 0 (IntKind.i64.wrap (u.bH - 1)) with
    |false=>rfl
    |true=>
     show cond (!bK x.high 0 60) _ _=_;cases bK x.high 0 60 with
     |false=>rfl
     |true=>
      cases j with
      |zero=>rfl
      |succ j=>
       have d:=(List.getElem?_eq_some_iff.1 b).1;have a:u.an[j]?=some u.an[j]:=List.getElem?_eq_getElem (by omega);have hw:IntKind.i64.wrap (((j+1:Nat):Int) - 1)=(j:Int):=by rw[bU (by omega)];omega
       have hd:decide (0<((j+1:Nat):Int))=true:=decide_eq_true (by omega);show cond (decide (0<((j+1:Nat):Int))) _ _=_;rw[hd,hw];have hi:aT u.an (j:Int)=some u.an[j]:=by unfold aT;rw[if_pos (by omega),Int.toNat_natCast,a]
       show ag (aT u.an (j:Int)) _=_;rw[hi];simp only[a];show cond (decide (x.aH<=u.an[j].aH)) _ _=_;cases decide (x.aH<=u.an[j].aH)<;>rfl
 refine ⟨key,?_⟩;rw[key];unfold mW;rw[eO];show cond (!bK (u.an.length:Int) 2 5) _ _=_;cases bK (u.an.length:Int) 2 5 with
 |false=>rfl
 |true=>
  show ag (aQ _ fu (0,0)) _=_;rw[tU (t:=gy u) u.an (by omega) ?_ ?_ 0]
  .show ay (ij _ _) _ _ _=_;cases dF (gy u) 0 u.an<;>rfl
  .intro j x s b;unfold qR gy;have d:=(List.getElem?_eq_some_iff.1 b).1;have c:decide ((j:Int)<(u.an.length:Int))=true:=decide_eq_true (by omega);have e:aT u.an (j:Int)=some x:=by unfold aT;rw[if_pos (by omega),Int.toNat_natCast,b]
   have f:IntKind.i64.wrap ((j:Int)+1)=((j+1:Nat):Int):=by rw[bU (by omega)];omega
   show cond (decide ((j:Int)<(u.an.length:Int))) (ag (aT u.an (j:Int)) _) _=_;rw[c,e,cond_true];show ag (eC x.aH 0 (IntKind.i64.wrap (u.bH - 1))) _=_;rw[eO];show cond (!bK x.aH 0 _) _ (ag (eC x.high 0 60) _)=_;rw[eO];cases bK x.aH 0 (IntKind.i64.wrap (u.bH - 1)) with
   |false=>rfl
   |true=>
    show cond (!bK x.high 0 60) _ _=_;cases bK x.high 0 60 with
    |false=>rfl
    |true=>
     cases j with
     |zero=>rfl
     |succ j=>
      have a:u.an[j]?=some u.an[j]:=List.getElem?_eq_getElem (by omega);have hw:IntKind.i64.wrap (((j+1:Nat):Int) - 1)=(j:Int):=by rw[bU (by omega)];omega
      have hd:decide (0<((j+1:Nat):Int))=true:=decide_eq_true (by omega);have hi:aT u.an (j:Int)=some u.an[j]:=by unfold aT;rw[if_pos (by omega),Int.toNat_natCast,a]
      dsimp only;simp only[hd,hw,hi,f,a,ag,cond_true,Bool.not_true,cond_false];cases decide (x.aH<=u.an[j].aH)<;>rfl
  .intro s;unfold qR;have c:decide ((u.an.length:Int)<(u.an.length:Int))=false:=decide_eq_false (by omega);show cond (decide ((u.an.length:Int)<(u.an.length:Int))) _ _=_;rw[c];rfl
theorem BR {ρ:Type}{f:Int×Int->Option (Fl (Int×Int) ρ)}(d:∀a b:Nat,a<9223372036854775808->b<9223372036854775808->b≠0->f ((a:Int),(b:Int))=some (.nx ((b:Int),((a % b:Nat):Int))))(e:∀a:Nat,f ((a:Int),0)=some (.bk ((a:Int),0))):
  ∀(b a k:Nat),a<9223372036854775808->b<9223372036854775808->b<k->aQ f k ((a:Int),(b:Int))=some (.nx (((Nat.gcd a b:Nat):Int),0)):=by
 intro b
 induction b using Nat.strongRecOn with
 |ind b ih=>
  intro a k g hb h
  obtain ⟨k,rfl⟩:∃m,k=m+1:=⟨k - 1,by omega⟩
  unfold aQ
  by_cases c:b=0
  .subst c
   have:=e a
   rw[show ((0:Nat):Int)=0 from rfl,this,Nat.gcd_zero_right]
   rfl
  .rw[d a b g hb c]
   show aQ f k ((b:Int),((a % b:Nat):Int))=_
   have hm:a % b<b:=Nat.mod_lt _ (by omega)
   rw[ih (a % b) hm b k hb (by omega) (by omega),Nat.gcd_comm a b,Nat.gcd_rec b a,Nat.gcd_comm]
theorem BS (a b:Nat)(d:a<9223372036854775808)(hb:b<9223372036854775808)(h:b≠0):gq (a:Int) (b:Int)=some ((a % b:Nat):Int):=by
 unfold gq;have c:¬(b:Int)=0:=by omega
 rw[if_neg c];have e:((a:Int).tmod (b:Int))=((a % b:Nat):Int):=by
  rw[Int.tmod_eq_emod_of_nonneg (by omega)];rfl
 rw[e]
theorem Iw (a k:Nat)(b:Nat)(c:a<9223372036854775808)(hb:b<9223372036854775808)(d:b<k):aQ qq k ((a:Int),(b:Int))=some (.nx (((Nat.gcd a b:Nat):Int),0)):=by
 refine BR (fun a b c hb e=>?_) (fun a=>rfl) b a k c hb d;unfold qq;have:(((b:Nat):Int) != 0)=true:=by simp;omega
 dsimp only;rw[this,BS a b c hb e];rfl
theorem Ix (a k:Nat)(b:Nat)(c:a<9223372036854775808)(hb:b<9223372036854775808)(d:b<k):aQ oC k ((a:Int),(b:Int))=some (.nx (((Nat.gcd a b:Nat):Int),0)):=by
 refine BR (fun a b c hb e=>?_) (fun a=>rfl) b a k c hb d;unfold oC;have:decide (0<((b:Nat):Int))=true:=decide_eq_true (by omega);dsimp only;rw[this,BS a b c hb e];rfl
def bI (n:Int)(d:Nat):au:=⟨n.tdiv (Nat.gcd n.natAbs d:Nat),(d:Int).tdiv (Nat.gcd n.natAbs d:Nat)⟩
theorem tV (a b:Int)(hb:0<b)(c: -9000000000000000000<=a/\a<=9000000000000000000):fN a b=some (a.tdiv b):=by
 unfold fN;rw[if_neg (by omega)];congr 1;have d:(a.tdiv b).natAbs<=a.natAbs:=by rw[Int.natAbs_tdiv];exact Nat.div_le_self _ _
 exact bU (by omega)
theorem BT (n:Int)(h: -9000000000000000000<=n/\n<=9000000000000000000):(if n<IntKind.i64.wrap (0 - n) then IntKind.i64.wrap (0 - n) else n)=(n.natAbs:Int):=by
 rw[bU (by omega)];split<;>omega
theorem qY (n:Int)(d:Nat)(a: -9000000000000000000<=n/\n<=9000000000000000000)(hd:0<d)(b:d<900000000000000000):kA n d=some (bI n d):=by
 unfold kA;rw[BT n a,Iw n.natAbs fu d (by omega) (by omega) (Nat.lt_trans b (by decide))];have hg:0<Nat.gcd n.natAbs d:=Nat.gcd_pos_of_pos_right _ hd;show ag (fN n _) (fun x=>ag (fN d _) fun y=>_)=_;rw[tV n _ (by omega) a,tV d _ (by omega) (by omega)];rfl
theorem qZ (n:Int)(d:Nat)(a: -9000000000000000000<=n/\n<=9000000000000000000)(hd:0<d)(b:d<900000000000000000):iL n d=some (bI n d):=by
 unfold iL;have:decide ((d:Int)<0)=false:=decide_eq_false (by omega);rw[this];show ag (aQ oC fu _) _=_;rw[BT n a,Ix n.natAbs fu d (by omega) (by omega) (Nat.lt_trans b (by decide))];have hg:0<Nat.gcd n.natAbs d:=Nat.gcd_pos_of_pos_right _ hd;show ag (fN n _) (fun x=>ag (fN d _) fun y=>_)=_;rw[tV n _ (by omega) a,tV d _ (by omega) (by omega)];rfl
def iq (u:ak)(f:Int->Bool)(_:Nat)(x:bO):Option Int:=cond (f x.place) (cond (bK x.dr 1 20) none (some 1)) (some 6)
def ir (_:Nat)(x:b9):Option Int:=cond (bK x.back 1 20) (cond (kI x.high 0 60) (cond (decide (3<=IntKind.i64.wrap (x.high.high - x.high.low))) (some 1) none) (some 1)) (some 1)
def iu (u:ak)(i:Int):Bool:=bK i 0 (IntKind.i64.wrap ((u.aG.length:Int) - 1))
def jm (u:ak)(_:Nat)(x:bV):Option Int:=cond (iu u x.aY) none (some 6)
theorem xW (u:ak)(i:Int):oB u i=some (iu u i)/\n4 u i=some (iu u i):=by
 constructor
 .unfold oB;rw[eO];rfl
 .unfold n4;rw[jR,eO];rfl
theorem Iy (u:ak)(h:Int):gu h u=some (cond (bK h 1 20) 0 1):=by
 unfold gu;rw[jR,eO];show cond (!bK h 1 20) _ _=_;cases bK h 1 20<;>rfl
theorem xX (u:ak)(h:0<u.an.length)(c:u.an.length<=20):∃f:Int->Bool,∀p,eo u p=some (f p)/\mP u p=some (f p):=by
 have a:u.an[0]?=some u.an[0]:=List.getElem?_eq_getElem h;have b:u.an[u.an.length - 1]?=some (u.an[u.an.length - 1]'(by omega)):=List.getElem?_eq_getElem _;have hw:IntKind.i64.wrap ((u.an.length:Int) - 1)=((u.an.length - 1:Nat):Int):=by rw[bU (by omega)];omega
 have e0:aT u.an 0=some u.an[0]:=a;have e1:aT u.an ((u.an.length - 1:Nat):Int)=some (u.an[u.an.length - 1]'(by omega)):=by unfold aT;rw[if_pos (by omega),Int.toNat_natCast,b]
 refine ⟨fun p=>bK p (u.an[0]).aH (u.an[u.an.length - 1]'(by omega)).aH,fun p=>?_⟩;have k:eo u p=some (bK p (u.an[0]).aH (u.an[u.an.length - 1]'(by omega)).aH):=by
  unfold eo;rw[hw,e0,e1,jR];simp only[ag,eO]
 exact ⟨k,k⟩
def gV (u:ak):Int:=cond (bK u.bH 2 60) (cond (bK u.bP 0 60) (cond (bK u.bf.den 1 20) (cond (bK u.bf.num 0 20) (cond (((bI u.bf.num u.bf.den.toNat).num==u.bf.num)&&((bI u.bf.num u.bf.den.toNat).den==u.bf.den)) 0 3) 1) 1) 1) 1
theorem dX {a lo hi:Int}:bK a lo hi=true↔lo<=a/\a<=hi:=by unfold bK;simp
theorem tX (u:ak):n7 u=some (gV u):=by
 unfold n7 gV;rw[jR];simp only[eO,ag];cases c:bK u.bH 2 60 with
 |false=>rfl
 |true=>
  cases d:bK u.bP 0 60 with
  |false=>rfl
  |true=>
   cases a:bK u.bf.den 1 20 with
   |false=>rfl
   |true=>
    cases b:bK u.bf.num 0 20 with
    |false=>rfl
    |true=>
     rw[dX] at a b;have hd:u.bf.den=(u.bf.den.toNat:Int):=by omega
     have:=qY u.bf.num u.bf.den.toNat (by omega) (by omega) (by omega);rw[<-hd] at this;simp only[this,cond_true,Bool.not_true,cond_false];cases (((bI u.bf.num u.bf.den.toNat).num==u.bf.num)&&((bI u.bf.num u.bf.den.toNat).den==u.bf.den))<;>rfl
theorem Iz (u:ak):mY u=cond (gV u != 0) (some (gV u)) (ag (mW u) fun x=>cond (x != 0) (some x) (mX u)):=by
 unfold mY gV;simp only[eO,ag];cases c:bK u.bH 2 60 with
 |false=>rfl
 |true=>
  cases d:bK u.bP 0 60 with
  |false=>rfl
  |true=>
   cases a:bK u.bf.den 1 20 with
   |false=>rfl
   |true=>
    cases b:bK u.bf.num 0 20 with
    |false=>rfl
    |true=>
     rw[dX] at a b;have hd:u.bf.den=(u.bf.den.toNat:Int):=by omega
     have:=qZ u.bf.num u.bf.den.toNat (by omega) (by omega) (by omega);rw[<-hd] at this;simp only[this,cond_true,Bool.not_true,cond_false];cases (((bI u.bf.num u.bf.den.toNat).num==u.bf.num)&&((bI u.bf.num u.bf.den.toNat).den==u.bf.den)) with
     |false=>rfl
     |true=>
      simp only[Bool.not_true,cond_false,cond_true,bne_self_eq_false];cases mW u with
      |none=>rfl
      |some x=>
       dsimp only;cases mX u<;>rfl
theorem tY (u:ak):mE u=some (cond (decide (3<(u.told.length:Int))) 2 ((dF (jm u) 0 u.told).getD 0)):=by
 unfold mE;cases decide (3<(u.told.length:Int)) with
 |true=>rfl
 |false=>
  show ag (bD _ 0 u.told 0) _=_;rw[qX (t:=jm u) u.told 0 0 ?_]
  .show ay (ij _ _) _ _ _=_;cases dF (jm u) 0 u.told<;>rfl
  .intro j x s a;unfold sU jm;simp only[xW,ag];cases iu u x.aY<;>rfl
theorem tZ (u:ak):mF u=some (cond (bK u.aG.length 1 3) ((dF ir 0 u.aG).getD 0) 2):=by
 unfold mF;rw[jR,eO];simp only[ag];cases bK (u.aG.length:Int) 1 3 with
 |false=>rfl
 |true=>
  simp only[Bool.not_true,cond_false,cond_true];rw[qX (t:=ir) u.aG 0 0 ?_]
  .show ay (ij _ _) _ _ _=_;cases dF ir 0 u.aG<;>rfl
  .intro j x s a;unfold sV ir;simp only[jR,Iv,eO,BQ,ag];cases bK x.back 1 20 with
   |false=>rfl
   |true=>
    cases kI x.high 0 60 with
    |false=>rfl
    |true=>
     simp only[Bool.not_true,cond_false,cond_true];cases decide (3<=IntKind.i64.wrap (x.high.high - x.high.low))<;>rfl
theorem ua (u:ak)(f:Int->Bool)(a:∀p,eo u p=some (f p)/\mP u p=some (f p)):mG u=some (cond (decide (3<(u.props.length:Int))) 2 ((dF (iq u f) 0 u.props).getD 0)):=by
 unfold mG;cases decide (3<(u.props.length:Int)) with
 |true=>rfl
 |false=>
  show ag (bD _ 0 u.props 0) _=_;rw[qX (t:=iq u f) u.props 0 0 ?_]
  .show ay (ij _ _) _ _ _=_;cases dF (iq u f) 0 u.props<;>rfl
  .intro j x s b;unfold sW iq;simp only[(a x.place).1,Iy,ag];cases f x.place with
   |false=>rfl
   |true=>
    cases bK x.dr 1 20<;>rfl
theorem m3 {α:Type}{t:Nat->α->Option Int}(h:∀i x r,t i x=some r->r≠0):∀(l:List α) (i:Nat) (r:Int),dF t i l=some r->r≠0
 |[],i,r,e=>by cases e
 |x::l,i,r,e=>by
  unfold dF at e
  cases ht:t i x with
  |some a=>rw[ht] at e;cases e;exact h i x _ ht
  |none=>rw[ht] at e;exact m3 h l (i+1) r e
theorem BU (u:ak)(f:Int->Bool)(i:Nat)(x:bO)(r:Int)(h:iq u f i x=some r):r≠0:=by
 unfold iq at h;revert h;cases f x.place<;>cases bK x.dr 1 20<;>intro h<;>cases h<;>decide
theorem BV (i:Nat)(x:b9)(r:Int)(h:ir i x=some r):r≠0:=by
 unfold ir at h;revert h;cases bK x.back 1 20<;>cases kI x.high 0 60<;>cases decide (3<=IntKind.i64.wrap (x.high.high - x.high.low))<;>intro h<;>cases h<;>decide
theorem IA (u:ak)(i:Nat)(x:bV)(r:Int)(h:jm u i x=some r):r≠0:=by
 unfold jm at h;revert h;cases iu u x.aY<;>intro h<;>cases h<;>decide
theorem BW {o:Option Int}(h:∀r,o=some r->r≠0):(o.getD 0 != 0)=o.isSome:=by
 cases o with
 |none=>rfl
 |some r=>simpa using h r rfl
theorem IB (u:ak)(f:Int->Bool)(e:∀p,eo u p=some (f p)/\mP u p=some (f p))(h:u.props.length<=20)(i:u.aG.length<=20)(k:u.told.length<=20):
  mX u=ag (mG u) fun x=>cond (x != 0) (some x) (ag (mF u) fun y=>cond (y != 0) (some y) (mE u)):=by
 rw[ua u f e,tZ,tY]
 unfold mX
 simp only[ag]
 cases l:decide (3<(u.props.length:Int)) with
 |true=>rfl
 |false=>
  simp only[cond_false]
  rw[tU (t:=iq u f) u.props (by omega) ?_ ?_ 0]
  .rw[BW (m3 (BU u f) u.props 0)]
   cases dF (iq u f) 0 u.props with
   |some r=>rfl
   |none=>
    simp only[ij,ay,Option.isSome_none,cond_false,eO]
    cases m:bK (u.aG.length:Int) 1 3 with
    |false=>rfl
    |true=>
     simp only[Bool.not_true,cond_false,cond_true]
     rw[tU (t:=ir) u.aG (by omega) ?_ ?_ 0]
     .rw[BW (m3 BV u.aG 0)]
      cases dF ir 0 u.aG with
      |some r=>rfl
      |none=>
       simp only[ij,ay,Option.isSome_none,cond_false]
       cases n:decide (3<(u.told.length:Int)) with
       |true=>rfl
       |false=>
        simp only[cond_false]
        rw[tU (t:=jm u) u.told (by omega) ?_ ?_ 0]
        .cases dF (jm u) 0 u.told<;>rfl
        .intro j x s b
         have g:=(List.getElem?_eq_some_iff.1 b).1
         have a:decide ((j:Int)<(u.told.length:Int))=true:=decide_eq_true (by omega)
         have c:aT u.told (j:Int)=some x:=by unfold aT;rw[if_pos (by omega),Int.toNat_natCast,b]
         have d:IntKind.i64.wrap ((j:Int)+1)=((j+1:Nat):Int):=by rw[bU (by omega)];omega
         unfold xQ jm
         simp only[a,c,d,ag,xW,cond_true]
         cases iu u x.aY<;>rfl
        .intro s
         have a:decide ((u.told.length:Int)<(u.told.length:Int))=false:=decide_eq_false (by omega)
         unfold xQ
         simp only[a,cond_false]
     .intro j x s b
      have g:=(List.getElem?_eq_some_iff.1 b).1
      have a:decide ((j:Int)<(u.aG.length:Int))=true:=decide_eq_true (by omega)
      have c:aT u.aG (j:Int)=some x:=by unfold aT;rw[if_pos (by omega),Int.toNat_natCast,b]
      have d:IntKind.i64.wrap ((j:Int)+1)=((j+1:Nat):Int):=by rw[bU (by omega)];omega
      unfold xP ir
      simp only[a,c,d,ag,eO,BQ,cond_true]
      cases bK x.back 1 20<;>cases kI x.high 0 60<;>cases decide (3<=IntKind.i64.wrap (x.high.high - x.high.low))<;>rfl
     .intro s
      have a:decide ((u.aG.length:Int)<(u.aG.length:Int))=false:=decide_eq_false (by omega)
      unfold xP
      simp only[a,cond_false]
  .intro j x s b
   have g:=(List.getElem?_eq_some_iff.1 b).1
   have a:decide ((j:Int)<(u.props.length:Int))=true:=decide_eq_true (by omega)
   have c:aT u.props (j:Int)=some x:=by unfold aT;rw[if_pos (by omega),Int.toNat_natCast,b]
   have d:IntKind.i64.wrap ((j:Int)+1)=((j+1:Nat):Int):=by rw[bU (by omega)];omega
   unfold qS iq
   simp only[a,c,d,ag,eO,(e x.place).2,cond_true]
   cases f x.place<;>cases bK x.dr 1 20<;>rfl
  .intro s
   have a:decide ((u.props.length:Int)<(u.props.length:Int))=false:=decide_eq_false (by omega)
   unfold qS
   simp only[a,cond_false]
theorem BX (x:Int):cond (x != 0) (some x) (some 0)=some x:=by
 cases h:(x != 0) with
 |true=>rfl
 |false=>
  have:x=0:=by simpa using h
  rw[this];rfl
theorem IC (u:ak)(a:u.an.length<=20)(d:u.props.length<=20)(e:u.aG.length<=20)(g:u.told.length<=20):e9 u=mY u/\∃r,e9 u=some r:=by
 obtain ⟨he,h⟩:=xV u a;rw[Iz,h];show jj u=_/\∃r,jj u=some r;unfold jj;rw[tX];simp only[ag];cases hg:(gV u != 0) with
 |true=>exact ⟨rfl,_,rfl⟩
 |false=>
  simp only[cond_false];unfold lz;rw[he];simp only[ag];cases b:((cond (bK u.an.length 2 5) ((dF (gy u) 0 u.an).getD 0) 2) != 0) with
  |true=>exact ⟨rfl,_,rfl⟩
  |false=>
   simp only[cond_false];have hb:bK u.an.length 2 5=true:=by
    cases hb:bK (u.an.length:Int) 2 5 with
    |true=>rfl
    |false=>rw[hb] at b;cases b
   have i:=dX.1 hb;obtain ⟨f,c⟩:=xX u (by omega) a;rw[IB u f c d e g];unfold lu;rw[ua u f c];simp only[ag];cases j:((cond (decide (3<(u.props.length:Int))) 2 ((dF (iq u f) 0 u.props).getD 0)) != 0) with
   |true=>exact ⟨rfl,_,rfl⟩
   |false=>
    simp only[cond_false];unfold lq;rw[tZ];simp only[ag];cases k:((cond (bK u.aG.length 1 3) ((dF ir 0 u.aG).getD 0) 2) != 0) with
    |true=>exact ⟨rfl,_,rfl⟩
    |false=>
     simp only[cond_false];unfold lp n8;rw[tY];simp only[ag];rw[BX];exact ⟨rfl,_,rfl⟩
theorem q2 {α:Type}{t:Nat->α->Option Int}:∀(l:List α) (i:Nat),dF t i l=none->∀j x,l[j]?=some x->t (i+j) x=none
 |[],i,_,j,x,a=>by simp at a
 |y::l,i,h,j,x,a=>by
  unfold dF at h
  cases ht:t i y with
  |some r=>rw[ht] at h;cases h
  |none=>
   rw[ht] at h
   cases j with
   |zero=>simp at a;subst a;exact ht
   |succ j=>
    have:=q2 l (i+1) h j x (by simpa using a)
    rwa [show i+1+j=i+(j+1) by omega] at this
structure Fit (u:ak):Prop where
 bH:2<=u.bH/\u.bH<=60
 bP:0<=u.bP/\u.bP<=60
 den:1<=u.bf.den/\u.bf.den<=20
 num:0<=u.bf.num/\u.bf.num<=20
 an:2<=u.an.length/\u.an.length<=5
 gz:∀(i:Nat) x,u.an[i]?=some x->(0<=x.aH/\x.aH<=u.bH - 1)/\0<=x.high/\x.high<=60
 lG:∀(i:Nat) x y,u.an[i]?=some x->u.an[i+1]?=some y->x.aH<y.aH
 props:u.props.length<=3
 prop:∀(i:Nat) x,u.props[i]?=some x->eo u x.place=some true/\1<=x.dr/\x.dr<=20
 aG:1<=u.aG.length/\u.aG.length<=3
 aY:∀(i:Nat) x,u.aG[i]?=some x->(1<=x.back/\x.back<=20)/\0<=x.high.low/\x.high.low<=x.high.high/\x.high.high<=60/\x.high.high - x.high.low<3
 told:u.told.length<=3
 q3:∀(i:Nat) x,u.told[i]?=some x->0<=x.aY/\x.aY<u.aG.length
theorem uf {o:Option Int}(h:∀r,o=some r->r≠0)(a:o.getD 0=0):o=none:=by
 cases o with
 |none=>rfl
 |some r=>exact absurd a (h r rfl)
theorem ID (u:ak)(i:Nat)(x:bN)(r:Int)(h:gy u i x=some r):r≠0:=by
 unfold gy at h;revert h;cases bK x.aH 0 (IntKind.i64.wrap (u.bH - 1))<;>cases bK x.high 0 60<;>try (intro h;cases h;decide)
 cases i with
 |zero=>intro h;cases h
 |succ j=>
  simp only[cond_true];cases u.an[j]? with
  |none=>intro h;cases h
  |some y=>dsimp only;cases decide (x.aH<=y.aH)<;>intro h<;>cases h<;>decide
theorem IE (u:ak)(n:u.an.length<=20)(h:e9 u=some 0):Fit u:=by
 have hh:jj u=some 0:=h;clear h;unfold jj at hh;rw[tX] at hh;simp only[ag] at hh;have hg:gV u=0:=by
  cases hg:(gV u != 0) with
  |true=>rw[hg] at hh;exact Option.some.inj hh
  |false=>simpa using hg
 rw[hg] at hh;have hh:lz u=some 0:=hh;unfold lz at hh;rw[(xV u n).1] at hh;simp only[ag] at hh;generalize e:cond (bK (u.an.length:Int) 2 5) ((dF (gy u) 0 u.an).getD 0) 2=E at hh;have w:E=0:=by
  cases c:(E != 0) with
  |true=>rw[c] at hh;exact Option.some.inj hh
  |false=>simpa using c
 rw[w] at hh e;have hh:lu u=some 0:=hh;have hb:bK (u.an.length:Int) 2 5=true:=by
  cases hb:bK (u.an.length:Int) 2 5 with
  |true=>rfl
  |false=>rw[hb] at e;cases e
 rw[hb] at e;have L:=dX.1 hb;have o:=q2 u.an 0 (uf (m3 (ID u) u.an 0) e);obtain ⟨f,p⟩:=xX u (by omega) n;unfold lu at hh;rw[ua u f p] at hh;simp only[ag] at hh;generalize g:cond (decide (3<(u.props.length:Int))) 2 ((dF (iq u f) 0 u.props).getD 0)=q at hh;have z:q=0:=by
  cases c:(q != 0) with
  |true=>rw[c] at hh;exact Option.some.inj hh
  |false=>simpa using c
 rw[z] at hh g;have hh:lq u=some 0:=hh;have r:decide (3<(u.props.length:Int))=false:=by
  cases hb:decide (3<(u.props.length:Int)) with
  |false=>rfl
  |true=>rw[hb] at g;cases g
 rw[r] at g;have A:=q2 u.props 0 (uf (m3 (BU u f) u.props 0) g);unfold lq at hh;rw[tZ] at hh;simp only[ag] at hh;generalize j:cond (bK (u.aG.length:Int) 1 3) ((dF ir 0 u.aG).getD 0) 2=s at hh;have B:s=0:=by
  cases c:(s != 0) with
  |true=>rw[c] at hh;exact Option.some.inj hh
  |false=>simpa using c
 rw[B] at hh j;have hh:lp u=some 0:=hh;have t:bK (u.aG.length:Int) 1 3=true:=by
  cases hb:bK (u.aG.length:Int) 1 3 with
  |true=>rfl
  |false=>rw[hb] at j;cases j
 rw[t] at j;have M:=dX.1 t;have C:=q2 u.aG 0 (uf (m3 BV u.aG 0) j);unfold lp n8 at hh;rw[tY] at hh;simp only[ag] at hh;rw[BX] at hh;have k:=Option.some.inj hh;have v:decide (3<(u.told.length:Int))=false:=by
  cases hb:decide (3<(u.told.length:Int)) with
  |false=>rfl
  |true=>rw[hb] at k;cases k
 rw[v] at k;have D:=q2 u.told 0 (uf (m3 (IA u) u.told 0) k);have N:=of_decide_eq_false r;have O:=of_decide_eq_false v;clear hh e g j k;have G:(2<=u.bH/\u.bH<=60)/\(0<=u.bP/\u.bP<=60)/\(1<=u.bf.den/\u.bf.den<=20)/\(0<=u.bf.num/\u.bf.num<=20):=by
  unfold gV at hg;refine ⟨dX.1 ?_,dX.1 ?_,dX.1 ?_,dX.1 ?_⟩<;>revert hg<;>cases bK u.bH 2 60<;>cases bK u.bP 0 60<;>cases bK u.bf.den 1 20<;>cases bK u.bf.num 0 20<;>intro hg<;>first|rfl|cases hg
 obtain ⟨F,H,I,J⟩:=G;have hw:IntKind.i64.wrap (u.bH - 1)=u.bH - 1:=bU (by omega);have l:∀(i:Nat) x,u.an[i]?=some x->bK x.aH 0 (u.bH - 1)=true/\bK x.high 0 60=true:=by
  intro i x a;have:=o i x a;unfold gy at this;rw[hw] at this;revert this;cases bK x.aH 0 (u.bH - 1)<;>cases bK x.high 0 60<;>intro h<;>first|exact ⟨rfl,rfl⟩|cases h
 refine ⟨F,H,I,J,by omega,fun i x a=>⟨dX.1 (l i x a).1,dX.1 (l i x a).2⟩,fun i x y a m=>?_,by omega,fun i x a=>?_,by omega,fun i x a=>?_,by omega,fun i x a=>?_⟩
 .have:=o (i+1) y m;rw[Nat.zero_add] at this;unfold gy at this;rw[hw,(l _ _ m).1,(l _ _ m).2] at this;simp only[cond_true,a] at this;cases hd:decide (y.aH<=x.aH) with
  |true=>rw[hd] at this;cases this
  |false=>have:=of_decide_eq_false hd;omega
 .have:=A i x a;unfold iq at this;revert this;rw[(p x.place).1];cases f x.place<;>cases hb:bK x.dr 1 20<;>intro h<;>first|exact ⟨rfl,dX.1 hb⟩|cases h
 .have:=C i x a;unfold ir at this;cases b:bK x.back 1 20 with
  |false=>rw[b] at this;cases this
  |true=>
   cases d:kI x.high 0 60 with
   |false=>rw[b,d] at this;cases this
   |true=>
    rw[b,d] at this;unfold kI at d;simp only[Bool.and_eq_true,decide_eq_true_eq] at d;refine ⟨dX.1 b,d.1,d.2.1,d.2.2,?_⟩;cases hd:decide (3<=IntKind.i64.wrap (x.high.high - x.high.low)) with
    |true=>rw[hd] at this;cases this
    |false=>
     have K:=of_decide_eq_false hd;rw[bU (by omega)] at K;omega
 .have:=D i x a;unfold jm at this;cases b:iu u x.aY with
  |false=>rw[b] at this;cases this
  |true=>
   unfold iu at b;rw[bU (by omega)] at b;have:=dX.1 b;omega
theorem xY (g:Nat)(hg:0<g)(n:Int)(d:Nat):bI ((g:Int)*n) (g*d)=bI n d:=by
 unfold bI;have e1:((g:Int)*n).natAbs=g*n.natAbs:=by rw[Int.natAbs_mul,Int.natAbs_natCast]
 rw[e1,Nat.gcd_mul_left];have a:(0:Int)<(g:Int):=by omega
 congr 1
 .rw[Int.natCast_mul,Int.mul_tdiv_mul_of_pos _ _ a]
 .rw[Int.natCast_mul,Int.natCast_mul,Int.mul_tdiv_mul_of_pos _ _ a]
theorem xZ (n:Int)(d:Nat)(hd:0<d):∃g a:Nat,0<g/\0<a/\d=g*a/\n=(g:Int)*(bI n d).num/\(bI n d).den=(a:Int):=by
 have hg:0<Nat.gcd n.natAbs d:=Nat.gcd_pos_of_pos_right _ hd;obtain ⟨a,b⟩:=Nat.gcd_dvd_right n.natAbs d;refine ⟨Nat.gcd n.natAbs d,a,hg,?_,b,?_,?_⟩
 .rcases Nat.eq_zero_or_pos a with h|h
  .rw[h,Nat.mul_zero] at b;omega
  .exact h
 .have c:((Nat.gcd n.natAbs d:Nat):Int) ∣ n:=Int.ofNat_dvd_left.2 (Nat.gcd_dvd_left _ _);unfold bI;exact (Int.mul_tdiv_cancel' c).symm
 .have:(d:Int)=((Nat.gcd n.natAbs d:Nat):Int)*(a:Int):=by rw[<-Int.natCast_mul];exact congrArg _ b
  show (d:Int).tdiv ((Nat.gcd n.natAbs d:Nat):Int)=_;have e:((Nat.gcd n.natAbs d:Nat):Int)≠0:=by omega
  calc (d:Int).tdiv ((Nat.gcd n.natAbs d:Nat):Int)=(((Nat.gcd n.natAbs d:Nat):Int)*(a:Int)).tdiv ((Nat.gcd n.natAbs d:Nat):Int):=congrArg (fun z=>Int.tdiv z _) this
   _=(a:Int):=Int.mul_tdiv_cancel_left _ e
theorem dG {x y:Int}{A B:Nat}(a:x.natAbs<=A)(b:y.natAbs<=B):(x*y).natAbs<=A*B:=by
 rw[Int.natAbs_mul];exact Nat.mul_le_mul a b
theorem eu {n:Int}(h:n.natAbs<=9000000000000000000):IntKind.i64.wrap n=n:=bU (by omega)
structure Sm (r:au)(A B:Nat):Prop where
 num:r.num.natAbs<=A
 den:0<r.den/\r.den<=B
theorem ug {a b:au}{A B C D:Nat}(c:Sm a A B)(hb:Sm b C D)(h:A*D+C*B<=900000000000000000)(hd:B*D<=800000000000000000):
  jK a b=some (bI (a.num*b.den+b.num*a.den) (a.den*b.den).toNat):=by
 have d:=dG c.num (show b.den.natAbs<=D by have:=hb.den;omega)
 have f:=dG hb.num (show a.den.natAbs<=B by have:=c.den;omega)
 have g:=dG (show a.den.natAbs<=B by have:=c.den;omega) (show b.den.natAbs<=D by have:=hb.den;omega)
 have i:0<a.den*b.den:=Int.mul_pos c.den.1 hb.den.1
 unfold jK
 rw[eu (n:=a.num*b.den) (by omega),eu (n:=b.num*a.den) (by omega),eu (n:=a.den*b.den) (by omega),eu (by omega)]
 have e:a.den*b.den=(((a.den*b.den).toNat:Nat):Int):=by omega
 have:=qY (a.num*b.den+b.num*a.den) (a.den*b.den).toNat (by omega) (by omega) (by omega)
 rw[<-e] at this
 rw[this]
 rfl
theorem BY {a b:au}{A B C D:Nat}(c:Sm a A B)(hb:Sm b C D)(h:A*D+C*B<=900000000000000000)(hd:B*D<=800000000000000000):
  kF a b=some (bI (a.num*b.den - b.num*a.den) (a.den*b.den).toNat):=by
 have d:=dG c.num (show b.den.natAbs<=D by have:=hb.den;omega)
 have f:=dG hb.num (show a.den.natAbs<=B by have:=c.den;omega)
 have g:=dG (show a.den.natAbs<=B by have:=c.den;omega) (show b.den.natAbs<=D by have:=hb.den;omega)
 have i:0<a.den*b.den:=Int.mul_pos c.den.1 hb.den.1
 unfold kF
 rw[eu (n:=a.num*b.den) (by omega),eu (n:=b.num*a.den) (by omega),eu (n:=a.den*b.den) (by omega),eu (by omega)]
 have e:a.den*b.den=(((a.den*b.den).toNat:Nat):Int):=by omega
 have:=qZ (a.num*b.den - b.num*a.den) (a.den*b.den).toNat (by omega) (by omega) (by omega)
 rw[<-e] at this
 rw[this]
 rfl
theorem BZ {a b:au}{A B C D:Nat}(c:Sm a A B)(hb:Sm b C D)(h:A*D+C*B<=900000000000000000)(hd:B*D<=800000000000000000)(hC:C<=9000000000000000000):
  jL a b=some (bI (a.num*b.den - b.num*a.den) (a.den*b.den).toNat):=by
 unfold jL
 have e:=hb.num
 rw[eu (by omega)]
 have d:Sm (⟨0 - b.num,b.den⟩:au) C D:=⟨by show (0 - b.num).natAbs<=C;omega,hb.den⟩
 rw[ug c d h hd]
 show some (bI (a.num*b.den+(0 - b.num)*a.den) (a.den*b.den).toNat)=_
 rw[show a.num*b.den+(0 - b.num)*a.den=a.num*b.den - b.num*a.den by rw[Int.zero_sub,Int.neg_mul];omega]
def uh (x y:bN)(p:Int):Option au:=
 iL (IntKind.i64.wrap ((IntKind.i64.wrap (x.high*(IntKind.i64.wrap (y.aH - x.aH))))+(IntKind.i64.wrap ((IntKind.i64.wrap (y.high - x.high))*(IntKind.i64.wrap (p - x.aH)))))) (IntKind.i64.wrap (y.aH - x.aH))
theorem q4 {α:Type}{l:List α}{i:Nat}{x:α}(h:l[i]?=some x):aT l (i:Int)=some x:=by unfold aT;rw[if_pos (by omega),Int.toNat_natCast,h]
theorem B1 (i:Nat)(h:i<1000):IntKind.i64.wrap ((i:Int)+1)=((i+1:Nat):Int):=by rw[bU (by omega)];omega
theorem piece (u:ak)(p:Int)(g:u.an.length<=5)(z:bN)(b:u.an[u.an.length - 1]?=some z)(h:p<=z.aH):∀(m i n:Nat) (x y:bN),i+1+m=u.an.length - 1->m<n->u.an[i]?=some x->u.an[i+1]?=some y->
  ∃(k:Nat) (x y:bN),i<=k/\u.an[k]?=some x/\u.an[k+1]?=some y/\p<=y.aH/\(k=i\/x.aH<p)/\aQ (ob u p) n ((i+1:Nat):Int)=some (.nx ((k+1:Nat):Int))/\
   aQ (tR u p) n (i:Int)=ag (uh x y p) fun r=>some (.rt r)
 |m,i,n+1,x,y,v,w,f,a=>by
  have A:i+1<u.an.length:=(List.getElem?_eq_some_iff.1 a).1
  have d1:decide (((i+1:Nat):Int)<(u.an.length:Int))=true:=decide_eq_true (by omega)
  unfold aQ ob tR
  rw[B1 i (by omega),B1 (i+1) (by omega),q4 f,q4 a,d1]
  simp only[ag,cond_true]
  by_cases c:y.aH<p
  .have e1:decide (y.aH<p)=true:=decide_eq_true c
   have e2:decide (p<=y.aH)=false:=decide_eq_false (by omega)
   rw[e1,e2]
   simp only[cond_true,cond_false]
   cases m with
   |zero=>
    have:u.an.length - 1=i+1:=by omega
    rw[this,a] at b
    cases b
    omega
   |succ m=>
    have j:i+1+1<u.an.length:=by omega
    obtain ⟨k,l,y',B,d,o,q,e,s,t⟩:=piece u p g z b h m (i+1) n y (u.an[i+1+1]) (by omega) (by omega) a (List.getElem?_eq_getElem j)
    refine ⟨k,l,y',by omega,d,o,q,?_,s,t⟩
    rcases e with rfl|e
    .rw[a] at d;cases d;exact .inr c
    .exact .inr e
  .have e1:decide (y.aH<p)=false:=decide_eq_false c
   have e2:decide (p<=y.aH)=true:=decide_eq_true (by omega)
   rw[e1,e2]
   refine ⟨i,x,y,Nat.le_refl _,f,a,by omega,.inl rfl,rfl,?_⟩
   simp only[cond_true]
   unfold uh
   cases iL _ _<;>rfl
theorem jo (n:Int)(d:Nat)(hd:0<d):Sm (bI n d) n.natAbs d:=by
 obtain ⟨g,a,hg,c,e1,e2,b⟩:=xZ n d hd;refine ⟨?_,?_⟩
 .have:n.natAbs=g*(bI n d).num.natAbs:=by
   have:=congrArg Int.natAbs e2
   rwa [Int.natAbs_mul,Int.natAbs_natCast] at this
  rw[this];exact Nat.le_mul_of_pos_left _ hg
 .rw[b];have:a<=d:=by rw[e1];exact Nat.le_mul_of_pos_left _ hg
  omega
theorem B2 (h:Int)(n:Int)(d:Nat)(hd:0<d):bI (h*(bI n d).den+(bI n d).num) ((bI n d).den).toNat=bI (h*d+n) d:=by
 obtain ⟨g,a,hg,f,e1,e2,b⟩:=xZ n d hd;have k1:h*(d:Int)+n=(g:Int)*(h*(a:Int)+(bI n d).num):=by
  rw[Int.mul_add,<-e2,e1,Int.natCast_mul,Int.mul_left_comm]
 rw[b];have c:((a:Nat):Int).toNat=a:=Int.toNat_natCast a;rw[c,k1];have e:bI ((g:Int)*(h*(a:Int)+(bI n d).num)) d=bI ((g:Int)*(h*(a:Int)+(bI n d).num)) (g*a):=congrArg _ e1;rw[e,xY g hg]
theorem IF (u:ak)(F:Fit u)(p:Int)(a z:bN)(g:u.an[0]?=some a)(j:u.an[u.an.length - 1]?=some z)(l:a.aH<=p)(m:p<=z.aH):
  ∃r,jk u p=some r/\qV u p=some r/\Sm r 7200 60/\∃(k:Nat) (x y:bN) (d:Nat),u.an[k]?=some x/\u.an[k+1]?=some y/\x.aH<=p/\p<=y.aH/\y.aH - x.aH=d/\0<d/\r=bI (x.high*d+(y.high - x.high)*(p - x.aH)) d:=by
 have o:=F.an
 obtain ⟨k,x,y,-,b,e,q,h,t,v⟩:=piece u p o.2 z j m (u.an.length - 2) 0 fu a (u.an[1]'(by omega)) (by omega) (Nat.lt_of_le_of_lt (show u.an.length - 2<=5 by omega) (by decide)) g (List.getElem?_eq_getElem _)
 have H:k+1<u.an.length:=(List.getElem?_eq_some_iff.1 e).1
 have I:=F.gz k x b
 have J:=F.gz (k+1) y e
 have K:=F.lG k x y b e
 have L:=F.bH
 have w:x.aH<=p:=by
  rcases h with rfl|h
  .rw[g] at b;cases b;exact l
  .omega
 have A:IntKind.i64.wrap (((k+1:Nat):Int) - 1)=(k:Int):=by rw[bU (by omega)];omega
 have w1:IntKind.i64.wrap (y.high - x.high)=y.high - x.high:=bU (by omega)
 have w2:IntKind.i64.wrap (p - x.aH)=p - x.aH:=bU (by omega)
 have w3:IntKind.i64.wrap (y.aH - x.aH)=y.aH - x.aH:=bU (by omega)
 have B:((y.high - x.high)*(p - x.aH)).natAbs<=60*60:=dG (by omega) (by omega)
 have i:(x.high*(y.aH - x.aH)).natAbs<=60*60:=dG (by omega) (by omega)
 obtain ⟨d,hd⟩:∃d:Nat,y.aH - x.aH=d:=⟨(y.aH - x.aH).toNat,by omega⟩
 generalize f:(y.high - x.high)*(p - x.aH)=n at B
 have c:0<d:=by omega
 have M:d<=60:=by omega
 have s1:=jo n d c
 have C:Sm (bI n d) 3600 60:=⟨Nat.le_trans s1.num (by omega),s1.den.1,by have:=s1.den.2;omega⟩
 have D:Sm (⟨x.high,1⟩:au) 60 1:=⟨by show x.high.natAbs<=60;omega,by show (0:Int)<1;omega,by show (1:Int)<=((1:Nat):Int);omega⟩
 refine ⟨bI (x.high*d+n) d,?_,?_,?_,k,x,y,d,b,e,w,q,hd,c,by rw[f]⟩
 .unfold jk
  have E:aQ (ob u p) fu 1=some (.nx ((k+1:Nat):Int)):=t
  rw[E]
  simp only[ag,ay]
  rw[A,q4 b,q4 e]
  simp only[gr]
  rw[w1,w2,w3,f,hd,eu (by omega),qY n d (by omega) c (by omega)]
  simp only
  rw[ug D C (by omega) (by omega)]
  show some (bI (x.high*(bI n d).den+(bI n d).num*1) (1*(bI n d).den).toNat)=_
  rw[Int.mul_one,Int.one_mul,B2 x.high n d c]
 .unfold qV
  have G:aQ (tR u p) fu 0=ag (uh x y p) fun r=>some (.rt r):=v
  rw[G]
  unfold uh
  rw[w1,w2,w3,eu (n:=x.high*(y.aH - x.aH)) (by omega),f,eu (n:=n) (by omega),hd]
  rw[hd] at i
  rw[eu (n:=x.high*(d:Int)+n) (by omega),qZ (x.high*d+n) d (by omega) c (by omega)]
  rfl
 .have s:=jo (x.high*d+n) d c
  rw[hd] at i
  exact ⟨Nat.le_trans s.num (by omega),s.den.1,by have:=s.den.2;omega⟩
theorem B3 (u:ak)(F:Fit u)(p:Int)(a z:bN)(b:u.an[0]?=some a)(c:u.an[u.an.length - 1]?=some z)(d:a.aH<=p)(e:p<=z.aH):
  ∃r,jk u p=some r/\qV u p=some r/\Sm r 7200 60:=by
 obtain ⟨r,f,g,h,-⟩:=IF u F p a z b c d e
 exact ⟨r,f,g,h⟩
def B4:ak:=⟨0,0,(⟨0,0⟩:au),([]:List bN),([]:List bO),([]:List b9),([]:List bV)⟩
theorem B5 {u:ak}{f:ak->Option Int}{x:Int}(h:e9 u=some 0)(a:f u=some x):fc u [f]=some (cond (x != 0) (B4,x) (u,0)):=by
 unfold fc;rw[h];simp only[ag,bne_self_eq_false,cond_false];unfold bD qG;simp only[a,ag];cases (x != 0)<;>rfl
theorem q5 (u:ak)(F:Fit u)(p:Int):∃a z,u.an[0]?=some a/\u.an[u.an.length - 1]?=some z/\eo u p=some (bK p a.aH z.aH)/\mP u p=some (bK p a.aH z.aH):=by
 have d:=F.an;have b:u.an[0]?=some (u.an[0]'(by omega)):=List.getElem?_eq_getElem _;have c:u.an[u.an.length - 1]?=some (u.an[u.an.length - 1]'(by omega)):=List.getElem?_eq_getElem _;have hw:IntKind.i64.wrap ((u.an.length:Int) - 1)=((u.an.length - 1:Nat):Int):=by rw[bU (by omega)];omega
 refine ⟨_,_,b,c,?_⟩;have k:eo u p=some (bK p (u.an[0]'(by omega)).aH (u.an[u.an.length - 1]'(by omega)).aH):=by
  unfold eo;have e0:aT u.an 0=some (u.an[0]'(by omega)):=b;rw[hw,e0,q4 c,jR];simp only[ag,eO]
 exact ⟨k,k⟩
theorem IG {n m:Int}{d e:Nat}(hd:0<d)(he:0<e)(h:n*(e:Int)=m*(d:Int)):bI n d=bI m e:=by
 have a:=xY e he n d;have b:=xY d hd m e;rw[<-a,<-b];have e1:(e:Int)*n=(d:Int)*m:=by rw[Int.mul_comm,h,Int.mul_comm]
 rw[e1,Nat.mul_comm e d]
theorem oL (n:Int)(d:Nat)(hd:0<d):(bI n d).num*(d:Int)=n*(bI n d).den/\0<(bI n d).den:=by
 obtain ⟨g,a,hg,c,e1,e2,b⟩:=xZ n d hd;refine ⟨?_,by rw[b];omega⟩;rw[b];have k1:(d:Int)=(g:Int)*(a:Int):=by rw[<-Int.natCast_mul];exact congrArg _ e1
 calc (bI n d).num*(d:Int)=(bI n d).num*((g:Int)*(a:Int)):=by rw[<-k1]
  _=((g:Int)*(bI n d).num)*(a:Int):=by rw[<-Int.mul_assoc,Int.mul_comm (bI n d).num]
  _=n*(a:Int):=by rw[<-e2]
theorem q6 {a b:au}{A B C D:Nat}(c:Sm a A B)(hb:Sm b C D)(h:A*D<=9000000000000000000)(h':C*B<=9000000000000000000):lE a b=some (decide (a.num*b.den<b.num*a.den))/\eN a b=some (decide (a.num*b.den<b.num*a.den)):=by
 have d:=dG c.num (show b.den.natAbs<=D by have:=hb.den;omega);have e:=dG hb.num (show a.den.natAbs<=B by have:=c.den;omega);have k:lE a b=some (decide (a.num*b.den<b.num*a.den)):=by
  unfold lE;rw[eu (n:=a.num*b.den) (by omega),eu (n:=b.num*a.den) (by omega)]
 exact ⟨k,k⟩
theorem II {h md a d e b f c N:Int}(g:d*b=N*md)(i:e*f=c*a):(h*(md*a)+d*e)*(b*f)=(h*b*f+N*c)*(md*a):=by
 grind
theorem B6 (u:ak)(F:Fit u)(s:aU)(hs:(1<=s.back/\s.back<=20)/\0<=s.high/\s.high<=60)(at_:Int)(aH:Int)(H:0<=aH/\aH<=60)(e:au)(he:Sm e 10000 100):
  ∃c,kB u s at_ ⟨aH,e⟩=some ⟨⟨aH,e⟩,at_,c⟩/\mQ u s aH e=some c/\c=bI (s.high*e.den*(aH+s.back)+(e.num - s.high*e.den)*(u.bH+s.back)) (e.den*(aH+s.back)).toNat:=by
 have I:=F.bH
 have w1:IntKind.i64.wrap (u.bH+s.back)=u.bH+s.back:=bU (by omega)
 have w2:IntKind.i64.wrap (aH+s.back)=aH+s.back:=bU (by omega)
 obtain ⟨f,b⟩:∃f:Nat,aH+s.back=f:=⟨(aH+s.back).toNat,by omega⟩
 have d:0<f:=by omega
 have J:f<=80:=by omega
 generalize m:u.bH+s.back=c at*
 have o:c.natAbs<=80:=by omega
 have p:Sm (⟨s.high,1⟩:au) 60 1:=⟨by show s.high.natAbs<=60;omega,by show (0:Int)<1;omega,by show (1:Int)<=((1:Nat):Int);omega⟩
 obtain ⟨a,j⟩:∃n:Nat,e.den=n:=⟨e.den.toNat,by have:=he.den;omega⟩
 have g:0<a:=by have:=he.den;omega
 have K:a<=100:=by have:=he.den;omega
 have A:(s.high*e.den).natAbs<=60*100:=dG (by omega) (by omega)
 have b2:(e.num - s.high*e.den).natAbs<=16000:=by have:=he.num;omega
 have q:=BZ he p (by omega) (by omega) (by omega)
 have e1:e.num*(1:Int) - s.high*e.den=e.num - s.high*e.den:=by rw[Int.mul_one]
 have e2:(e.den*(1:Int)).toNat=a:=by rw[Int.mul_one,j,Int.toNat_natCast]
 rw[show ((⟨s.high,1⟩:au).den)=(1:Int) from rfl,show ((⟨s.high,1⟩:au).num)=s.high from rfl,e1,e2] at q
 generalize B:e.num - s.high*e.den=N at*
 have sm:=jo N a g
 have r:=jo c f d
 have t:=oL N a g
 have v:=oL c f d
 have L:((bI N a).num*(bI c f).num).natAbs<=16000*80:=dG (Nat.le_trans sm.num b2) (Nat.le_trans r.num o)
 have O:((bI N a).den*(bI c f).den).natAbs<=100*80:=dG (by have:=sm.den;omega) (by have:=r.den;omega)
 have P:0<(bI N a).den*(bI c f).den:=Int.mul_pos t.2 v.2
 obtain ⟨M,w⟩:∃M:Nat,(bI N a).den*(bI c f).den=M:=⟨((bI N a).den*(bI c f).den).toNat,by omega⟩
 have h:0<M:=by omega
 have C:=qY c f (by omega) d (by omega)
 have D:=qY ((bI N a).num*(bI c f).num) M (by omega) h (by omega)
 have sq:=jo ((bI N a).num*(bI c f).num) M h
 have E:Sm (bI ((bI N a).num*(bI c f).num) M) 1280000 8000:=⟨Nat.le_trans sq.num (by omega),sq.den.1,by have:=sq.den.2;omega⟩
 have x:=ug p E (by omega) (by omega)
 have G:s.high*(bI ((bI N a).num*(bI c f).num) M).den+(bI ((bI N a).num*(bI c f).num) M).num*1=s.high*(bI ((bI N a).num*(bI c f).num) M).den+(bI ((bI N a).num*(bI c f).num) M).num:=by rw[Int.mul_one]
 rw[show ((⟨s.high,1⟩:au).den)=(1:Int) from rfl,show ((⟨s.high,1⟩:au).num)=s.high from rfl,G,Int.one_mul,B2 s.high _ M h] at x
 have k:e.den*(aH+s.back)=((a*f:Nat):Int):=by rw[j,b,Int.natCast_mul]
 have i:(e.den*(aH+s.back)).toNat=a*f:=by rw[k,Int.toNat_natCast]
 have y:bI (s.high*(M:Int)+(bI N a).num*(bI c f).num) M=bI (s.high*e.den*(aH+s.back)+N*c) (a*f):=by
  refine IG h (Nat.mul_pos g d) ?_
  rw[Int.natCast_mul,<-w,b,j]
  exact II (by rw[t.1]) (by rw[v.1])
 refine ⟨_,?_,?_,rfl⟩
 .unfold kB
  have l:IntKind.i64.wrap (f:Int)=f:=bU (by omega)
  simp only[gr,ag,q,m,w1,b,l,C]
  rw[eu (by omega),eu (n:=(bI N a).den*(bI c f).den) (by omega),w,D]
  simp only[x]
  rw[b] at i y
  rw[i,y]
 .unfold mQ
  have l:IntKind.i64.wrap (f:Int)=f:=bU (by omega)
  have Q:(s.high*e.den*(f:Int)).natAbs<=6000*80:=dG A (by omega)
  have p2:(N*c).natAbs<=16000*80:=dG b2 o
  have p3:(e.den*(f:Int)).natAbs<=100*80:=dG (by omega) (by omega)
  simp only[m,w1,b,l]
  rw[eu (n:=s.high*e.den) (by omega),B,eu (n:=N) (by omega),eu (n:=s.high*e.den*(f:Int)) (by omega),eu (n:=N*c) (by omega),eu (n:=s.high*e.den*(f:Int)+N*c) (by omega),eu (n:=e.den*(f:Int)) (by omega)]
  rw[b] at k i
  have z:=qZ (s.high*e.den*(f:Int)+N*c) (a*f) (by omega) (Nat.mul_pos g d) (by omega)
  rw[i]
  rw[<-k] at z
  rw[z]
  rfl
theorem IJ (s:aU)(u:ak):eU s u=xR s:=rfl
def x2 (s:aU):Int:=cond (bK s.back 1 20) (cond (bK s.high 0 60) 0 1) 1
theorem IK (s:aU):xR s=some (x2 s):=by
 unfold xR x2;simp only[eO,ag];cases bK s.back 1 20<;>cases bK s.high 0 60<;>rfl
def dS (u:ak)(s:aU)(x:bN):au:=bI (s.high*1*(x.aH+s.back)+(x.high - s.high*1)*(u.bH+s.back)) (1*(x.aH+s.back)).toNat
theorem B7 (u:ak)(F:Fit u)(s:aU)(hs:(1<=s.back/\s.back<=20)/\0<=s.high/\s.high<=60)(i:Nat)(x:bN)(a:u.an[i]?=some x)(at_:Int):
  kB u s at_ ⟨x.aH,⟨x.high,1⟩⟩=some ⟨⟨x.aH,⟨x.high,1⟩⟩,at_,dS u s x⟩/\mQ u s x.aH ⟨x.high,1⟩=some (dS u s x):=by
 have p:=F.gz i x a
 have f:=F.bH
 have he:Sm (⟨x.high,1⟩:au) 10000 100:=⟨by show x.high.natAbs<=10000;omega,by show (0:Int)<1;omega,by show (1:Int)<=((100:Nat):Int);omega⟩
 obtain ⟨c,b,d,e⟩:=B6 u F s hs at_ x.aH (by omega) ⟨x.high,1⟩ he
 have:c=dS u s x:=e
 subst this
 exact ⟨b,d⟩
theorem B8 (u:ak)(F:Fit u)(s:aU)(hs:(1<=s.back/\s.back<=20)/\0<=s.high/\s.high<=60)(i:Nat)(x:bN)(a:u.an[i]?=some x):Sm (dS u s x) 10000 100:=by
 have p:=F.gz i x a;have b:=F.bH;unfold dS;rw[Int.mul_one,Int.one_mul];have c:(s.high*(x.aH+s.back)).natAbs<=60*79:=dG (by omega) (by omega);have b2:((x.high - s.high)*(u.bH+s.back)).natAbs<=60*80:=dG (by omega) (by omega);have h:=jo (s.high*(x.aH+s.back)+(x.high - s.high)*(u.bH+s.back)) (x.aH+s.back).toNat (by omega);exact ⟨Nat.le_trans h.num (by omega),h.den.1,by have:=h.den.2;omega⟩
def foldI {α σ:Type}(g:Nat->α->σ->σ):Nat->List α->σ->σ
 |_,[],s=>s
 |i,x::l,s=>foldI g (i+1) l (g i x s)
theorem jq {α σ ρ:Type}{f:Nat->α->σ->Option (Fl σ ρ)}{g:Nat->α->σ->σ}{I:Nat->σ->Prop}:∀(l:List α) (i:Nat) (s:σ),I i s->(∀j x s,l[j]?=some x->I (i+j) s->f (i+j) x s=some (.nx (g (i+j) x s))/\I (i+j+1) (g (i+j) x s))->
  bD f i l s=some (.nx (foldI g i l s))/\I (i+l.length) (foldI g i l s)
 |[],i,s,hs,_=>⟨rfl,hs⟩
 |x::l,i,s,hs,h=>by
  obtain ⟨a,b⟩:=h 0 x s rfl hs
  simp only[Nat.add_zero] at a b
  unfold bD foldI
  rw[a]
  have:=jq l (i+1) _ b fun j y s c hs=>by
   have:=h (j+1) y s (by simpa using c) (by rwa [show i+(j+1)=i+1+j by omega])
   rwa [show i+(j+1)=i+1+j by omega] at this
  rwa [show i+1+l.length=i+(x::l).length by simp;omega] at this
theorem B9 {α σ τ ρ:Type}{f:τ->Option (Fl τ ρ)}{g:Nat->α->σ->σ}{I:Nat->σ->Prop}(e:σ->Int->τ)(l:List α)(h:∀(i:Nat) x s,l[i]?=some x->I i s->f (e s (i:Int))=some (.nx (e (g i x s) ((i+1:Nat):Int)))/\I (i+1) (g i x s))(a:∀s,f (e s (l.length:Int))=some (.bk (e s (l.length:Int)))):
  ∀(k i n:Nat) (s:σ),I i s->i+k=l.length->k<n->aQ f n (e s (i:Int))=some (.nx (e (foldI g i (l.drop i) s) (l.length:Int)))/\I l.length (foldI g i (l.drop i) s)
 |0,i,n+1,s,hs,hi,_=>by
  obtain rfl:i=l.length:=by omega
  unfold aQ
  rw[a,List.drop_length]
  exact ⟨rfl,hs⟩
 |k+1,i,n+1,s,hs,hi,m=>by
  have b:i<l.length:=by omega
  have c:l[i]?=some l[i]:=List.getElem?_eq_getElem b
  obtain ⟨d,j⟩:=h i _ s c hs
  unfold aQ
  rw[d,List.drop_eq_getElem_cons b]
  unfold foldI
  exact B9 e l h a k (i+1) n _ j (by omega) (by omega)
theorem oM {α σ τ ρ:Type}{f:τ->Option (Fl τ ρ)}{g:Nat->α->σ->σ}{I:Nat->σ->Prop}(e:σ->Int->τ)(l:List α)(a:l.length<=1000)(h:∀(i:Nat) x s,l[i]?=some x->I i s->f (e s (i:Int))=some (.nx (e (g i x s) ((i+1:Nat):Int)))/\I (i+1) (g i x s))(b:∀s,f (e s (l.length:Int))=some (.bk (e s (l.length:Int))))(s:σ)(hs:I 0 s):
  aQ f fu (e s 0)=some (.nx (e (foldI g 0 l s) (l.length:Int)))/\I l.length (foldI g 0 l s):=by
 have:=B9 e l h b l.length 0 fu s hs (by omega) (Nat.lt_of_le_of_lt a (by decide))
 simpa using this
theorem Ca {α σ:Type}{g g':Nat->α->σ->σ}:∀(l:List α) (i:Nat) (s:σ),(∀j x s,i<=j->g j x s=g' j x s)->foldI g i l s=foldI g' i l s
 |[],_,_,_=>rfl
 |x::l,i,s,h=>by
  unfold foldI
  rw[h i x s (Nat.le_refl _)]
  exact Ca l (i+1) _ fun j x s a=>h j x s (by omega)
def bB (a b:au):Bool:=decide (a.num*b.den<b.num*a.den)
abbrev SR (r:au):Prop:=Sm r 2000000 8000
theorem Sm.mono {r:au}{A B a b:Nat}(h:Sm r A B)(c:A<=a)(hb:B<=b):Sm r a b:=⟨Nat.le_trans h.num c,h.den.1,by have:=h.den.2;omega⟩
theorem uj (u:ak)(F:Fit u)(s:aU)(hs:(1<=s.back/\s.back<=20)/\0<=s.high/\s.high<=60)(i:Nat)(x:bN)(a:u.an[i]?=some x):SR (dS u s x):=(B8 u F s hs i x a).mono (by decide) (by decide)
theorem m4 {a b:au}(c:SR a)(hb:SR b):lE a b=some (bB a b)/\eN a b=some (bB a b):=q6 c hb (by decide) (by decide)
def gB (u:ak)(s:aU)(i:Nat)(x:bN)(st:Int×au):Int×au:=cond (bB st.2 (dS u s x)) ((i:Int),dS u s x) st
def iM (u:ak)(s:aU)(i:Nat)(x:bN):bC:=⟨⟨x.aH,⟨x.high,1⟩⟩,(i:Int),dS u s x⟩
def fD (u:ak)(s:aU):Nat->List bN->List bC
 |_,[]=>[]
 |i,x::l=>iM u s i x::fD u s (i+1) l
theorem Cb (u:ak)(s:aU):∀(l:List bN) (i:Nat) (a:List bC),foldI (fun i x st=>st++[iM u s i x]) i l a=a++fD u s i l
 |[],i,a=>by simp[foldI,fD]
 |x::l,i,a=>by simp[foldI,fD,Cb u s l (i+1)]
def gC (i:Nat)(x:bC)(st:bC):bC:=cond (bB st.high x.high) x st
theorem Cc (u:ak)(s:aU):∀(l:List bN) (i j:Nat) (c:bC),let r:=foldI gC j (fD u s i l) c;(r.at_,r.high)=foldI (gB u s) i l (c.at_,c.high)
 |[],i,j,c=>rfl
 |x::l,i,j,c=>by
  simp only[fD,foldI]
  have:=Cc u s l (i+1) (j+1) (gC j (iM u s i x) c)
  simp only at this
  rw[this]
  congr 1
  unfold gC gB iM
  cases bB c.high (dS u s x)<;>rfl
theorem x3 (n:Int):gr n=some ⟨n,1⟩:=rfl
def eP (u:ak)(s:aU):Int×au:=match u.an with
 |[]=>(0,⟨0,0⟩)
 |x::l=>foldI (gB u s) 1 l (0,dS u s x)
section
variable {u : ak} {s : aU} (F : Fit u) (hs : (1 ≤ s.back ∧ s.back ≤ 20) ∧ 0 ≤ s.high ∧ s.high ≤ 60)
include F hs
theorem IL:bD (oa u s) 0 u.an ([]:List bC)=some (.nx (fD u s 0 u.an)):=by
 have c:=F.an;have:=jq (f:=oa u s) (ρ:=bC) (g:=fun i x st=>st++[iM u s i x]) (I:=fun i st=>st.length=i) u.an 0 [] rfl (fun j x st a b=>?_)
 .rw[this.1,Cb];rfl
 .have d:j<u.an.length:=(List.getElem?_eq_some_iff.1 a).1;refine ⟨?_,by simp[b]⟩;unfold oa;rw[Nat.zero_add] at b ⊢;simp only[x3,ag,(B7 u F s hs j x a (j:Int)).1];unfold cL;rw[if_pos (by simp;omega)];rfl
theorem Cd:∀(l:List bN) (i:Nat),(∀(j:Nat) x,l[j]?=some x->u.an[i+j]?=some x)->∀(j:Nat) c,(fD u s i l)[j]?=some c->SR c.high
 |[],_,_,j,c,h=>by simp[fD] at h
 |x::l,i,a,0,c,h=>by
  simp[fD] at h
  subst h
  exact uj u F s hs i x (a 0 x rfl)
 |x::l,i,a,j+1,c,h=>Cd l (i+1) (fun j y b=>by have:=a (j+1) y (by simpa using b);rwa [show i+(j+1)=i+1+j by omega] at this) j c (by simpa [fD] using h)
theorem x4:∃c,lA u s=some c/\(c.at_,c.high)=eP u s/\SR c.high/\xS u s=some (eP u s):=by
 have d:=F.an;have p:=IL F hs;obtain ⟨a,rest,he⟩:∃x l,u.an=x::l:=by
  cases h:u.an with
  |nil=>rw[h] at d;simp at d
  |cons x l=>exact ⟨x,l,rfl⟩
 have q:u.an[0]?=some a:=by rw[he];rfl
 have r:∀(j:Nat) x,rest[j]?=some x->u.an[1+j]?=some x:=fun j x h=>by rw[he,Nat.add_comm];simpa using h
 have w:rest.length<=4:=by rw[he] at d;simp at d;omega
 have t:SR (dS u s a):=uj u F s hs 0 a q
 have hg:=jq (f:=qv ji) (ρ:=bC) (g:=gC) (I:=fun _ c=>SR c.high) (fD u s 1 rest) 0 (iM u s 0 a) t (fun j c st n e=>by
  have b:=Cd F hs rest 1 r j c n;refine ⟨?_,?_⟩
  .unfold qv ji gC;simp only[(m4 e b).2,ag];cases bB st.high c.high<;>rfl
  .unfold gC;cases bB st.high c.high
   .exact e
   .exact b)
 refine ⟨foldI gC 0 (fD u s 1 rest) (iM u s 0 a),?_,?_,hg.2,?_⟩
 .unfold lA;rw[p,he];simp only[ag,ay,fD];rw[show aT (iM u s 0 a::fD u s (0+1) rest) 0=some (iM u s 0 a) from rfl];simp only;have:j8 (iM u s 0 a::fD u s (0+1) rest) 1 (((iM u s 0 a::fD u s (0+1) rest).length:Nat):Int)=some (fD u s 1 rest):=by
   unfold j8;rw[if_pos (by simp only[List.length_cons];omega)];simp
  rw[this];simp only;unfold mD;rw[hg.1];rfl
 .have:=Cc u s rest 1 0 (iM u s 0 a);simp only at this;rw[this];unfold eP;rw[he];rfl
 .unfold xS;have v:=oM (f:=tQ u s) (g:=fun i x st=>if i=0 then ((0:Int),dS u s x) else gB u s i x st) (I:=fun i st=>i=0\/SR st.2) (fun st i=>(st.1,i,st.2)) u.an (by omega) (fun i x st k e=>?_) (fun st=>?_) ((0:Int),(⟨0,0⟩:au)) (.inl rfl)
  .rw[v.1,he];simp only[ag,ay,foldI,if_pos];rw[Ca (g':=gB u s) rest (0+1) _ (fun j x st n=>if_neg (by omega))];unfold eP;rw[he]
  .have y:i<u.an.length:=(List.getElem?_eq_some_iff.1 k).1;have b:=uj u F s hs i x k;unfold tQ;simp only;rw[show decide ((i:Int)<(u.an.length:Int))=true by simp;omega];simp only[cond_true];rw[show aT u.an (i:Int)=some x by unfold aT;rw[if_pos (by omega)];simpa using k];simp only[ag,(B7 u F s hs i x k 0).2];have hw:IntKind.i64.wrap ((i:Int)+1)=((i+1:Nat):Int):=by rw[bU (by omega)];rfl
   rw[hw];by_cases m:i=0
   .subst m;exact ⟨rfl,.inr b⟩
   .have o:SR st.2:=e.resolve_left m;rw[show (((i:Nat):Int)==0)=false by simp;omega];simp only[cond_false,(m4 o b).1,if_neg m];unfold gB;cases bB st.2 (dS u s x)
    .exact ⟨rfl,.inr o⟩
    .exact ⟨rfl,.inr b⟩
  .unfold tQ;simp
end
section
variable {u : ak} {s : aU} (F : Fit u) (hs : (1 ≤ s.back ∧ s.back ≤ 20) ∧ 0 ≤ s.high ∧ s.high ≤ 60)
include F hs
theorem x5:Sm (⟨u.bP,1⟩:au) 60 1:=⟨by have:=F.bP;show u.bP.natAbs<=60;omega,by show (0:Int)<1;omega,by show (1:Int)<=((1:Nat):Int);omega⟩
theorem x6:SR (eP u s).2:=by
 obtain ⟨c,d,a,b,e⟩:=x4 F hs;rw[<-a];exact b
end
theorem Ce {a b c:au}(d:0<a.den)(hb:0<b.den)(h:0<c.den)(e:bB b a=false)(f:bB b c=true):bB c a=false:=by
 unfold bB at*;simp only[decide_eq_false_iff_not,decide_eq_true_eq,Int.not_lt] at*;have k1:a.num*b.den*c.den<=b.num*a.den*c.den:=Int.mul_le_mul_of_nonneg_right e (by omega);have i:b.num*c.den*a.den<c.num*b.den*a.den:=Int.mul_lt_mul_of_pos_right f d;have g:b.den*(a.num*c.den)<b.den*(c.num*a.den):=by
  have e1:b.den*(a.num*c.den)=a.num*b.den*c.den:=by grind
  have e2:b.den*(c.num*a.den)=c.num*b.den*a.den:=by grind
  have j:b.num*a.den*c.den=b.num*c.den*a.den:=by grind
  omega
 exact Int.le_of_lt (Int.lt_of_mul_lt_mul_left g (by omega))
theorem lH (a:au):bB a a=false:=by unfold bB;simp
theorem Cf {a b:au}(h:bB a b=true):bB b a=false:=by
 unfold bB at*;simp only[decide_eq_false_iff_not,decide_eq_true_eq,Int.not_lt] at*;omega
def oN (u:ak)(s:aU)(aH:Int)(e:au):au:=bI (s.high*e.den*(aH+s.back)+(e.num - s.high*e.den)*(u.bH+s.back)) (e.den*(aH+s.back)).toNat
def c7 (u:ak)(x:bO):au:=match jk u x.place with
 |some r=>bI (r.num+x.dr*r.den) r.den.toNat
 |none=>⟨0,0⟩
def ej (u:ak)(s:aU)(x:bO):au:=oN u s x.place (c7 u x)
section
variable {u : ak} {s : aU} (F : Fit u) (hs : (1 ≤ s.back ∧ s.back ≤ 20) ∧ 0 ≤ s.high ∧ s.high ≤ 60)
include F hs
theorem x7 {i:Nat}{x:bO}(t:u.props[i]?=some x):∃r,jk u x.place=some r/\qV u x.place=some r/\jK r ⟨x.dr,1⟩=some (c7 u x)/\
  iL (IntKind.i64.wrap (r.num+IntKind.i64.wrap (x.dr*r.den))) r.den=some (c7 u x)/\(∀at_,kB u s at_ ⟨x.place,c7 u x⟩=some ⟨⟨x.place,c7 u x⟩,at_,ej u s x⟩)/\mQ u s x.place (c7 u x)=some (ej u s x)/\SR (ej u s x):=by
 obtain ⟨v,p2,p3⟩:=F.prop i x t
 obtain ⟨a,z,j,k,l,H⟩:=q5 u F x.place
 rw[v] at l
 have hb:bK x.place a.aH z.aH=true:=(Option.some.inj l).symm
 unfold bK at hb
 simp only[Bool.and_eq_true,decide_eq_true_eq] at hb
 have I:=F.gz _ a j
 have J:=F.gz _ z k
 have K:=F.bH
 obtain ⟨r,m,w,b⟩:=B3 u F x.place a z j k hb.1 hb.2
 have sh:Sm (⟨x.dr,1⟩:au) 20 1:=⟨by show x.dr.natAbs<=20;omega,by show (0:Int)<1;omega,by show (1:Int)<=((1:Nat):Int);omega⟩
 have L:(x.dr*r.den).natAbs<=20*60:=dG (by omega) (by have:=b.den;omega)
 obtain ⟨d,hd⟩:∃d:Nat,r.den=d:=⟨r.den.toNat,by have:=b.den;omega⟩
 have o:0<d:=by have:=b.den;omega
 have M:d<=60:=by have:=b.den;omega
 have N:=b.num
 have h:c7 u x=bI (r.num+x.dr*r.den) d:=by
  unfold c7
  rw[m]
  simp only
  rw[hd,Int.toNat_natCast]
 have e:Sm (c7 u x) 10000 100:=by
  rw[h]
  have:=jo (r.num+x.dr*r.den) d o
  exact ⟨Nat.le_trans this.num (by omega),this.den.1,by have:=this.den.2;omega⟩
 have y:=ug b sh (by decide) (by decide)
 have p:=qZ (r.num+x.dr*r.den) d (by omega) o (by omega)
 have q:∀at_,kB u s at_ ⟨x.place,c7 u x⟩=some ⟨⟨x.place,c7 u x⟩,at_,ej u s x⟩/\mQ u s x.place (c7 u x)=some (ej u s x):=fun at_=>by
  obtain ⟨c,c1,c2,c3⟩:=B6 u F s hs at_ x.place ⟨by omega,by omega⟩ (c7 u x) e
  subst c3
  exact ⟨c1,c2⟩
 refine ⟨r,m,w,?_,?_,fun at_=>(q at_).1,(q 0).2,?_⟩
 .rw[y,h]
  show some (bI (r.num*1+x.dr*r.den) (r.den*1).toNat)=_
  rw[Int.mul_one,Int.mul_one,hd,Int.toNat_natCast]
 .rw[eu (n:=x.dr*r.den) (by omega),eu (by omega),h]
  rw[hd] at p ⊢
  exact p
 .unfold ej oN
  obtain ⟨f,A⟩:∃f:Nat,x.place+s.back=f:=⟨(x.place+s.back).toNat,by omega⟩
  obtain ⟨g,B⟩:∃n:Nat,(c7 u x).den=n:=⟨(c7 u x).den.toNat,by have:=e.den;omega⟩
  have C:0<g:=by have:=e.den;omega
  have D:g<=100:=by have:=e.den;omega
  have O:=e.num
  have E:(s.high*(c7 u x).den).natAbs<=60*100:=dG (by omega) (by omega)
  have b2:(s.high*(c7 u x).den*(x.place+s.back)).natAbs<=6000*80:=dG E (by omega)
  have b3:(((c7 u x).num - s.high*(c7 u x).den)*(u.bH+s.back)).natAbs<=16000*80:=dG (by omega) (by omega)
  have G:((c7 u x).den*(x.place+s.back)).toNat=g*f:=by rw[B,A,<-Int.natCast_mul,Int.toNat_natCast]
  rw[G]
  have:=jo (s.high*(c7 u x).den*(x.place+s.back)+((c7 u x).num - s.high*(c7 u x).den)*(u.bH+s.back)) (g*f) (Nat.mul_pos C (by omega))
  have P:g*f<=100*80:=Nat.mul_le_mul D (by omega)
  exact ⟨Nat.le_trans this.num (by omega),this.den.1,by have:=this.den.2;omega⟩
end
def same (x:bO)(e:au)(y:bC):Bool:=(y.spot.aH==x.place)&&((y.spot.high.num==e.num)&&(y.spot.high.den==e.den))
def gT (u:ak)(s:aU)(i:Nat)(x:bO)(st:List bC):List bC:=cond (st.any (same x (c7 u x))) st (st++[⟨⟨x.place,c7 u x⟩,(i:Int),ej u s x⟩])
def cu (a b:au):au:=cond (bB a b) b a
def gM (u:ak)(s:aU)(i:Nat)(x:bO)(b:au):au:=if i=0 then ej u s x else cu b (ej u s x)
theorem Cg (x:bO)(e:au):∀(l:List bC) (i:Nat),bD (qx x e) i l ()=some (cond (l.any (same x e)) (.br 1 ()) (.nx ()):Fl Unit (List bC))
 |[],i=>rfl
 |y::l,i=>by
  unfold bD qx
  rw[show ((y.spot.aH==x.place)&&((y.spot.high.num==e.num)&&(y.spot.high.den==e.den)))=same x e y from rfl,List.any_cons]
  cases same x e y
  .simp only[cond_false,ag,Bool.false_or]
   exact Cg x e l (i+1)
  .rfl
theorem q7 {a b:au}(c:SR a)(hb:SR b):gb a b=some (cu a b):=by
 unfold gb cu;simp only[(m4 c hb).1,ag];cases bB a b<;>rfl
theorem lI {a b:au}(c:SR a)(hb:SR b):SR (cu a b):=by unfold cu;cases bB a b;exact c;exact hb
def uk:List bC->au
 |[]=>⟨0,0⟩
 |c::l=>(foldI gC 0 l c).high
theorem Ch {α σ:Type}{g:Nat->α->σ->σ}:∀(l:List α) (i:Nat) (y:α) (s:σ),foldI g i (l++[y]) s=g (i+l.length) y (foldI g i l s)
 |[],i,y,s=>rfl
 |x::l,i,y,s=>by
  simp only[List.cons_append,foldI,List.length_cons]
  rw[Ch l (i+1) y]
  congr 1
  omega
theorem IM (c:bC)(l:List bC)(y:bC):uk (c::l++[y])=cu (uk (c::l)) y.high:=by
 show (foldI gC 0 (l++[y]) c).high=_;rw[Ch];show (cond (bB (foldI gC 0 l c).high y.high) y (foldI gC 0 l c)).high=cond (bB (foldI gC 0 l c).high y.high) y.high (foldI gC 0 l c).high;cases bB (foldI gC 0 l c).high y.high<;>rfl
structure Tp (u:ak)(s:aU)(st:List bC)(b:au):Prop where
 ne:st≠[]
 Ci:b=uk st
 sm:SR b
 le:∀y∈st,bB b y.high=false/\SR y.high/\y.high=oN u s y.spot.aH y.spot.high
theorem Tp.step {u:ak}{s:aU}{st:List bC}{b:au}(h:Tp u s st b){x:bO}(f:SR (ej u s x))(i:Nat):Tp u s (gT u s i x st) (cu b (ej u s x)):=by
 unfold gT;cases m:st.any (same x (c7 u x)) with
 |true=>
  simp only[cond_true];obtain ⟨y,a,g⟩:=List.any_eq_true.1 m;have d:=h.le y a;have e:y.high=ej u s x:=by
   rw[d.2.2];unfold same at g;simp only[Bool.and_eq_true,beq_iff_eq] at g;obtain ⟨e1,e2,j⟩:=g;unfold ej;have:y.spot.high=c7 u x:=by
    cases n:y.spot.high;cases o:c7 u x;rw[n,o] at e2 j;simp only at e2 j;rw[e2,j]
   rw[e1,this]
  have:cu b (ej u s x)=b:=by
   unfold cu;rw[<-e,d.1];rfl
  rw[this];exact h
 |false=>
  simp only[cond_false];obtain ⟨c,l,rfl⟩:∃c l,st=c::l:=by
   cases st with
   |nil=>exact absurd rfl h.ne
   |cons c l=>exact ⟨c,l,rfl⟩
  refine ⟨by simp,?_,lI h.sm f,fun y a=>?_⟩
  .rw[IM,<-h.Ci]
  .rcases List.mem_append.1 a with a|a
   .have d:=h.le y a;refine ⟨?_,d.2⟩;unfold cu;cases k:bB b (ej u s x) with
    |false=>exact d.1
    |true=>exact Ce d.2.1.den.1 h.sm.den.1 f.den.1 d.1 k
   .simp at a;subst a;refine ⟨?_,f,rfl⟩;unfold cu;cases k:bB b (ej u s x) with
    |false=>exact k
    |true=>exact lH _
theorem Tp.fold {u:ak}{s:aU}:∀(l:List bO) (i:Nat) (st:List bC) (b:au),1<=i->(∀x∈l,SR (ej u s x))->Tp u s st b->Tp u s (foldI (gT u s) i l st) (foldI (gM u s) i l b)
 |[],_,_,_,_,_,h=>h
 |x::l,i,st,b,hi,a,h=>by
  unfold foldI
  have e:gM u s i x b=cu b (ej u s x):=if_neg (by omega)
  rw[e]
  exact Tp.fold l (i+1) _ _ (by omega) (fun y c=>a y (List.mem_cons_of_mem _ c)) (h.step (a x (List.mem_cons_self ..)) i)
theorem Tp.all {u:ak}{s:aU}(x:bO)(l:List bO)(b:∀y∈x::l,SR (ej u s y)):Tp u s (foldI (gT u s) 0 (x::l) []) (foldI (gM u s) 0 (x::l) ⟨0,0⟩):=by
 unfold foldI;have c:=b x (List.mem_cons_self ..);refine Tp.fold l 1 _ _ (Nat.le_refl _) (fun y a=>b y (List.mem_cons_of_mem _ a)) ⟨by simp[gT],?_,?_,?_⟩
 .simp[gT,gM,uk,foldI]
 .exact c
 .intro y a;simp[gT] at a;subst a;exact ⟨by simp[gM];exact lH _,c,rfl⟩
section
variable {u : ak} {s : aU} (F : Fit u) (hs : (1 ≤ s.back ∧ s.back ≤ 20) ∧ 0 ≤ s.high ∧ s.high ≤ 60)
include F hs
theorem IN:∀x∈u.props,SR (ej u s x):=fun x a=>by
 obtain ⟨i,hi,rfl⟩:=List.getElem_of_mem a
 obtain ⟨r,_,_,_,_,_,_,h⟩:=x7 F hs (i:=i) (List.getElem?_eq_getElem hi)
 exact h
theorem IP:jM u s=some (foldI (gT u s) 0 u.props []):=by
 have h:=F.props;unfold jM
 have:=jq (f:=qy u s) (ρ:=List bC) (g:=gT u s) (I:=fun i st=>st.length<=i) u.props 0 [] (Nat.le_refl _) (fun j x st a b=>by
  have k:j<u.props.length:=(List.getElem?_eq_some_iff.1 a).1;obtain ⟨r,c,l,d,m,e,n,o⟩:=x7 F hs a;rw[Nat.zero_add] at b ⊢;unfold qy;simp only[c,ag,x3,d,Cg];unfold gT;cases p:st.any (same x (c7 u x)) with
  |true=>exact ⟨rfl,by simp only[cond_true];omega⟩
  |false=>
   simp only[cond_false,ay,ag,e];unfold cL;rw[if_pos (by simp;omega)]
   exact ⟨rfl,by simp;omega⟩)
 rw[this.1];rfl
theorem x8:lF u s=some (foldI (gM u s) 0 u.props ⟨0,0⟩,decide (0<(u.props.length:Int))):=by
 have m:=F.props;unfold lF
 have:=oM (f:=tS u s) (g:=gM u s) (I:=fun i b=>i=0\/SR b) (fun b i=>(i,b)) u.props (by omega) (fun i x b c h=>by
  have n:i<u.props.length:=(List.getElem?_eq_some_iff.1 c).1;obtain ⟨r,o,j,p,k,q,l,a⟩:=x7 F hs c;unfold tS;simp only;rw[show decide ((i:Int)<(u.props.length:Int))=true by simp;omega];simp only[cond_true];rw[show aT u.props (i:Int)=some x by unfold aT;rw[if_pos (by omega)];simpa using c];have hw:IntKind.i64.wrap ((i:Int)+1)=((i+1:Nat):Int):=by rw[bU (by omega)];rfl
  simp only[ag,j,k,l,hw];unfold gM;by_cases d:i=0
  .subst d;have e:cu (ej u s x) (ej u s x)=ej u s x:=by unfold cu;rw[lH];rfl
   rw[show (((0:Nat):Int)==0)=true from rfl];simp only[cond_true,q7 a a,e,if_pos];exact ⟨trivial,.inr a⟩
  .have hb:SR b:=h.resolve_left d;rw[show (((i:Nat):Int)==0)=false by simp;omega];simp only[cond_false,q7 hb a,if_neg d]
   exact ⟨trivial,.inr (lI hb a)⟩) (fun b=>by unfold tS;simp) (⟨0,0⟩:au) (.inl rfl)
 rw[this.1];rfl
theorem Cj:(u.props=[]/\jM u s=some []/\lF u s=some (⟨0,0⟩,false))\/
  ∃st b,jM u s=some st/\lF u s=some (b,true)/\Tp u s st b:=by
 have a:=IP F hs
 have c:=x8 F hs
 have d:=IN F hs
 cases e:u.props with
 |nil=>
  rw[e] at a c
  exact .inl ⟨rfl,a,c⟩
 |cons x l=>
  rw[e] at a c d
  refine .inr ⟨_,_,a,?_,Tp.all x l d⟩
  rw[c]
  rw[show decide (0<((x::l).length:Int))=true by simp]
end
theorem oO {a b c:au}(e:0<a.den)(hb:0<b.den)(f:0<c.den)(d:bB a b=false)(g:bB b c=false):bB a c=false:=by
 cases h:bB a c with
 |false=>rfl
 |true=>
  have:=Ce hb e f d h;unfold bB at*;simp only[decide_eq_false_iff_not,decide_eq_true_eq,Int.not_lt] at*;have k1:b.num*a.den*c.den<=a.num*b.den*c.den:=Int.mul_le_mul_of_nonneg_right d (by omega);have i:a.num*c.den*b.den<c.num*a.den*b.den:=Int.mul_lt_mul_of_pos_right h hb;have j:c.num*b.den*a.den<=b.num*c.den*a.den:=Int.mul_le_mul_of_nonneg_right g (by omega);have e1:a.num*b.den*c.den=a.num*c.den*b.den:=by grind
  have e2:c.num*b.den*a.den=c.num*a.den*b.den:=by grind
  have k:b.num*c.den*a.den=b.num*a.den*c.den:=by grind
  omega
theorem IQ {a b c:au}(d:0<a.den)(hb:0<b.den)(e:0<c.den)(f:bB a b=true)(g:bB b c=true):bB a c=true:=by
 unfold bB at*;simp only[decide_eq_true_eq] at*;have k1:a.num*b.den*c.den<b.num*a.den*c.den:=Int.mul_lt_mul_of_pos_right f e;have i:b.num*c.den*a.den<c.num*b.den*a.den:=Int.mul_lt_mul_of_pos_right g d;have h:b.den*(a.num*c.den)<b.den*(c.num*a.den):=by
  have e1:b.den*(a.num*c.den)=a.num*b.den*c.den:=by grind
  have e2:b.den*(c.num*a.den)=c.num*b.den*a.den:=by grind
  have j:b.num*a.den*c.den=b.num*c.den*a.den:=by grind
  omega
 exact Int.lt_of_mul_lt_mul_left h (by omega)
theorem Ck {e y:au}(he:SR e)(a:SR y):∀(l:List bC) (b:au),(∀x∈l,SR x.high)->SR b->∀(i j:Nat),
  foldI (fun _ (x:bC) st=>cu st x.high) i l (cu e b)=cu e (foldI (fun _ (x:bC) st=>cu st x.high) j l b)
 |[],b,_,_,i,j=>rfl
 |x::l,b,g,hb,i,j=>by
  unfold foldI
  have c:=g x (List.mem_cons_self ..)
  have key:cu (cu e b) x.high=cu e (cu b x.high):=by
   unfold cu
   cases d:bB e b<;>cases f:bB b x.high<;>simp only[cond_true,cond_false,d,f]
   .have:=oO he.den.1 hb.den.1 c.den.1 d f
    rw[this];rfl
   .rw[IQ he.den.1 hb.den.1 c.den.1 d f]
    rfl
  rw[key]
  exact Ck he a l _ (fun y a=>g y (List.mem_cons_of_mem _ a)) (lI hb c) (i+1) (j+1)
theorem Cl:∀(l:List bC) (i:Nat) (c:bC),(foldI gC i l c).high=foldI (fun _ (x:bC) st=>cu st x.high) i l c.high
 |[],_,_=>rfl
 |x::l,i,c=>by
  unfold foldI
  rw[Cl l (i+1)]
  congr 1
  unfold gC cu
  cases bB c.high x.high<;>rfl
theorem Cm {a b:au}(c:SR a)(hb:SR b):iJ eN a [b]=some (cu a b):=by
 unfold iJ bD qw;simp only[(m4 c hb).2,ag];unfold cu;cases bB a b<;>rfl
theorem IS {f:Nat->bC->au->Option (Fl au au)}(c:f=mH\/f=mI){st:List bC}(d:∀x∈st,SR x.high){e:au}(he:SR e):
  bD f 0 st e=some (.nx (foldI (fun _ (x:bC) st=>cu st x.high) 0 st e))/\SR (foldI (fun _ (x:bC) st=>cu st x.high) 0 st e):=
 jq (I:=fun _ r=>SR r) st 0 e he (fun j x r g a=>by
  have b:=d x (List.mem_of_getElem? g)
  rcases c with rfl|rfl
  .unfold mH
   simp only[Cm a b,ag]
   exact ⟨trivial,lI a b⟩
  .unfold mI
   simp only[Cm a b,ag]
   exact ⟨trivial,lI a b⟩)
section
variable {u : ak} {s : aU} (F : Fit u) (hs : (1 ≤ s.back ∧ s.back ≤ 20) ∧ 0 ≤ s.high ∧ s.high ≤ 60)
include F hs
theorem Cn {a b:au}(c:SR a)(hb:SR b):∃d,jL a b=some d/\kF a b=some d/\Sm d 40000000000 64000000:=by
 have e:=BZ c hb (by decide) (by decide) (by decide);have f:=BY c hb (by decide) (by decide);refine ⟨_,e,f,?_⟩;have g:=dG c.num (show b.den.natAbs<=8000 by have:=hb.den;omega);have h:=dG hb.num (show a.den.natAbs<=8000 by have:=c.den;omega);have i:=dG (show a.den.natAbs<=8000 by have:=c.den;omega) (show b.den.natAbs<=8000 by have:=hb.den;omega);have j:0<a.den*b.den:=Int.mul_pos c.den.1 hb.den.1;have:=jo (a.num*b.den - b.num*a.den) (a.den*b.den).toNat (by omega);exact ⟨Nat.le_trans this.num (by omega),this.den.1,by have:=this.den.2;omega⟩
theorem Co:Sm (⟨0,1⟩:au) 1 1:=⟨by decide,by decide,by decide⟩
theorem Cp {d:au}(hd:Sm d 40000000000 64000000):∃m,iJ eN d [⟨0,1⟩]=some m/\gb d ⟨0,1⟩=some m/\Sm m 40000000000 64000000:=by
 have a:=q6 hd (Co F hs) (by decide) (by decide);refine ⟨cond (bB d ⟨0,1⟩) ⟨0,1⟩ d,?_,?_,?_⟩
 .unfold iJ bD qw;simp only[a.2,ag];unfold bB;cases decide (d.num*(⟨0,1⟩:au).den<(⟨0,1⟩:au).num*d.den)<;>rfl
 .unfold gb;simp only[a.1,ag];unfold bB;cases decide (d.num*(⟨0,1⟩:au).den<(⟨0,1⟩:au).num*d.den)<;>rfl
 .cases bB d ⟨0,1⟩
  .exact hd
  .exact (Co F hs).mono (by decide) (by decide)
theorem Cq {f:Nat->bC->au->Option (Fl au au)}(k:f=mH\/f=mI){e:au}(he:SR e):
  ∃st m,jM u s=some st/\bD f 0 st e=some (.nx m)/\SR m/\((lF u s=some (⟨0,0⟩,false)/\m=e)\/∃b,lF u s=some (b,true)/\gb e b=some m):=by
 rcases Cj F hs with ⟨_,d,g⟩|⟨st,b,d,g,a⟩
 .exact ⟨[],e,d,rfl,he,.inl ⟨g,rfl⟩⟩
 .have h:∀x∈st,SR x.high:=fun x i=>(a.le x i).2.1
  obtain ⟨k1,n⟩:=IS k h he
  refine ⟨st,_,d,k1,n,.inr ⟨b,g,?_⟩⟩
  rw[q7 he a.sm]
  obtain ⟨c,l,rfl⟩:∃c l,st=c::l:=by
   cases st with
   |nil=>exact absurd rfl a.ne
   |cons c l=>exact ⟨c,l,rfl⟩
  have j:=h c (List.mem_cons_self ..)
  have e1:b=foldI (fun _ (x:bC) st=>cu st x.high) 0 l c.high:=by rw[a.Ci];exact Cl l 0 c
  have e2:=Ck he j l c.high (fun x i=>h x (List.mem_cons_of_mem _ i)) j 1 0
  congr 1
  rw[e1,<-e2]
  rfl
theorem x9:∃r,kC u s=some r/\qW u s=some r/\Sm r 40000000000 64000000:=by
 obtain ⟨c,j,k,g,l⟩:=x4 F hs;have e2:c.high=(eP u s).2:=by rw[<-k]
 have p:SR (⟨u.bP,1⟩:au):=(x5 F hs).mono (by decide) (by decide);unfold kC qW;rw[j,l];simp only[ag,x3,<-e2,(m4 g p).1,(m4 g p).2];cases bB c.high ⟨u.bP,1⟩ with
 |true=>
  simp only[cond_true];obtain ⟨st,m,t1,t2,t3,t4⟩:=Cq F hs (.inl rfl) (f:=mH) g;obtain ⟨d,d1,d2,d3⟩:=Cn F hs p t3;obtain ⟨z,h,a,e⟩:=Cp F hs d3;simp only[t1,t2,ay,d1,h];rcases t4 with ⟨k1,rfl⟩|⟨b,k1,i⟩
  .simp only[k1,cond_false,d2,a];exact ⟨z,rfl,rfl,e⟩
  .simp only[k1,cond_true,i,d2,a];exact ⟨z,rfl,rfl,e⟩
 |false=>
  simp only[cond_false];obtain ⟨st,m,t1,t2,t3,t4⟩:=Cq F hs (.inr rfl) (f:=mI) p;obtain ⟨d,d1,d2,d3⟩:=Cn F hs g t3;obtain ⟨z,h,a,e⟩:=Cp F hs d3;simp only[t1,t2,ay,d1,h];rcases t4 with ⟨k1,rfl⟩|⟨b,k1,i⟩
  .simp only[k1,cond_false,d2,a];exact ⟨z,rfl,rfl,e⟩
  .simp only[k1,cond_true,i,d2,a];exact ⟨z,rfl,rfl,e⟩
theorem IT:∃b,ga u s=some b/\tT u s=some b:=by
 obtain ⟨r,c,d,e⟩:=x9 F hs;have f:Sm u.bf 20 20:=⟨by have:=F.num;omega,by have:=F.den;omega,by have:=F.den;omega⟩
 have a:=q6 f e (by decide) (by decide);unfold ga tT;simp only[c,d,a.1,a.2,ag];exact ⟨_,rfl,rfl⟩
end
theorem Cr {a b c:au}(d:0<a.den)(hb:0<b.den)(e:0<c.den)(f:bB b a=false)(g:bB b c=true):bB a c=true:=by
 cases h:bB a c with
 |true=>rfl
 |false=>
  have:=oO hb d e f h;rw[g] at this;cases this
section
variable {u : ak} {s : aU} (F : Fit u) (hs : (1 ≤ s.back ∧ s.back ≤ 20) ∧ 0 ≤ s.high ∧ s.high ≤ 60)
include F hs
structure ya (u:ak)(s:aU)(i:Nat)(st:Int×au):Prop where
 there:∃(n:Nat) (p:bN),n<i/\st=((n:Int),dS u s p)/\u.an[n]?=some p/\∀(j:Nat) q,j<n->u.an[j]?=some q->bB (dS u s q) (dS u s p)=true
 S8:∀(j:Nat) q,j<i->u.an[j]?=some q->bB st.2 (dS u s q)=false
theorem Cs:∀(l:List bN) (i:Nat) (st:Int×au),(∀(j:Nat) x,l[j]?=some x->u.an[i+j]?=some x)->ya u s i st->ya u s (i+l.length) (foldI (gB u s) i l st)
 |[],i,st,_,h=>h
 |x::l,i,st,g,h=>by
  have b:u.an[i]?=some x:=g 0 x rfl
  have hd:∀(j:Nat) q,u.an[j]?=some q->0<(dS u s q).den:=fun j q a=>(uj u F s hs j q a).den.1
  unfold foldI
  have key:ya u s (i+1) (gB u s i x st):=by
   obtain ⟨⟨n,p,o,e,d,k⟩,hm⟩:=h
   subst e
   unfold gB
   cases c:bB (dS u s p) (dS u s x) with
   |true=>
    simp only[c,cond_true]
    refine ⟨⟨i,x,by omega,rfl,b,fun j q f a=>?_⟩,fun j q f a=>?_⟩
    .exact Cr (hd j q a) (hd n p d) (hd i x b) (hm j q f a) c
    .by_cases e:j=i
     .subst e;rw[b] at a;cases a;exact lH _
     .exact Cf (Cr (hd j q a) (hd n p d) (hd i x b) (hm j q (by omega) a) c)
   |false=>
    simp only[c,cond_false]
    refine ⟨⟨n,p,by omega,rfl,d,k⟩,fun j q f a=>?_⟩
    by_cases e:j=i
    .subst e;rw[b] at a;cases a;exact c
    .exact hm j q (by omega) a
  have:=Cs l (i+1) _ (fun j y m=>by have:=g (j+1) y (by simpa using m);rwa [show i+(j+1)=i+1+j by omega] at this) key
  rwa [show i+1+l.length=i+(x::l).length by simp;omega] at this
theorem IU:∃(n:Nat) (p:bN),eP u s=((n:Int),dS u s p)/\u.an[n]?=some p/\(∀(j:Nat) q,u.an[j]?=some q->bB (dS u s p) (dS u s q)=false)/\∀(j:Nat) q,j<n->u.an[j]?=some q->bB (dS u s q) (dS u s p)=true:=by
 have c:=F.an;cases he:u.an with
 |nil=>rw[he] at c;simp at c
 |cons x l=>
  have d:u.an[0]?=some x:=by rw[he];rfl
  have hb:=Cs F hs l 1 (0,dS u s x) (fun j y f=>by rw[he,Nat.add_comm];simpa using f)
   ⟨⟨0,x,by omega,rfl,d,fun j q b=>absurd b (by omega)⟩,fun j q b a=>by
    obtain rfl:j=0:=by omega
    rw[d] at a;cases a;exact lH _⟩
  have ev:eP u s=foldI (gB u s) 1 l (0,dS u s x):=by unfold eP;rw[he]
  obtain ⟨⟨n,p,i,e,g,h⟩,hm⟩:=hb;rw[e] at hm ev;refine ⟨n,p,ev,by rw[<-he];exact g,fun j q a=>?_,fun j q b a=>h j q b (by rw[he];exact a)⟩;refine hm j q ?_ (by rw[he];exact a);have:=(List.getElem?_eq_some_iff.1 a).1;simp at this;omega
end
theorem yb {u:ak}(F:Fit u):∀(n i:Nat) (x y:bN),u.an[i]?=some x->u.an[i+1+n]?=some y->x.aH<y.aH
 |0,i,x,y,b,a=>F.lG i x y b a
 |n+1,i,x,y,b,a=>by
  have c:i+1+(n+1)<u.an.length:=(List.getElem?_eq_some_iff.1 a).1
  have hm:u.an[i+1+n]?=some (u.an[i+1+n]'(by omega)):=List.getElem?_eq_getElem _
  have d:=yb F n i x _ b hm
  have e:=F.lG _ _ y hm (by rw[<-a];congr 1)
  omega
def gd (a b:au):au:=bI (a.num*b.den - b.num*a.den) (a.den*b.den).toNat
def lJ (u:ak)(s:aU):au:=foldI (gM u s) 0 u.props ⟨0,0⟩
def iw (u:ak)(s:aU):au:=cond (bB (eP u s).2 ⟨u.bP,1⟩) ⟨u.bP,1⟩ (eP u s).2
def oP (u:ak)(s:aU):au:=cond (bB (eP u s).2 ⟨u.bP,1⟩) (eP u s).2 ⟨u.bP,1⟩
def gW (u:ak)(s:aU):au:=cond (decide (0<(u.props.length:Int))) (cu (oP u s) (lJ u s)) (oP u s)
def gX (u:ak)(s:aU):au:=cu (gd (iw u s) (gW u s)) ⟨0,1⟩
theorem IV:Sm (⟨0,1⟩:au) 1 1:=⟨by decide,by decide,by decide⟩
theorem Ct {a b:au}(c:SR a)(hb:SR b):Sm (gd a b) 40000000000 64000000:=by
 have d:=dG c.num (show b.den.natAbs<=8000 by have:=hb.den;omega);have e:=dG hb.num (show a.den.natAbs<=8000 by have:=c.den;omega);have f:=dG (show a.den.natAbs<=8000 by have:=c.den;omega) (show b.den.natAbs<=8000 by have:=hb.den;omega);have g:0<a.den*b.den:=Int.mul_pos c.den.1 hb.den.1;have:=jo (a.num*b.den - b.num*a.den) (a.den*b.den).toNat (by omega);unfold gd;exact ⟨Nat.le_trans this.num (by omega),this.den.1,by have:=this.den.2;omega⟩
theorem IW {a b:au}(c:SR a)(hb:SR b):kF a b=some (gd a b):=BY c hb (by decide) (by decide)
theorem IX {d:au}(hd:Sm d 40000000000 64000000):gb d ⟨0,1⟩=some (cu d ⟨0,1⟩):=by
 have a:=q6 hd IV (by decide) (by decide);unfold gb;simp only[a.1,ag];unfold cu bB;cases decide (d.num*(⟨0,1⟩:au).den<(⟨0,1⟩:au).num*d.den)<;>rfl
section
variable {u : ak} {s : aU} (F : Fit u) (hs : (1 ≤ s.back ∧ s.back ≤ 20) ∧ 0 ≤ s.high ∧ s.high ≤ 60)
include F hs
theorem yc:SR (⟨u.bP,1⟩:au):=(x5 F hs).mono (by decide) (by decide)
theorem yd:SR (iw u s):=by
 unfold iw;cases bB (eP u s).2 ⟨u.bP,1⟩
 .exact x6 F hs
 .exact yc F hs
theorem ye:SR (oP u s):=by
 unfold oP;cases bB (eP u s).2 ⟨u.bP,1⟩
 .exact yc F hs
 .exact x6 F hs
theorem q8 (h:u.props≠[]):SR (lJ u s):=by
 rcases Cj F hs with ⟨c,_,_⟩|⟨st,b,_,a,d⟩
 .exact absurd c h
 .rw[x8 F hs] at a;have e:lJ u s=b:=(Prod.mk.inj (Option.some.inj a)).1;rw[e];exact d.sm
theorem q9:SR (gW u s):=by
 unfold gW;cases h:decide (0<(u.props.length:Int)) with
 |false=>exact ye F hs
 |true=>
  refine lI (ye F hs) (q8 F hs fun e=>?_);rw[e] at h;simp at h
theorem IY:qW u s=some (gX u s):=by
 obtain ⟨c,h,i,j,g⟩:=x4 F hs;have es:SR (eP u s).2:=x6 F hs;have ps:=yc F hs;unfold qW;rw[g,x8 F hs];simp only[ag,(m4 es ps).1];have k:=q9 F hs;have l:=yd F hs;have key:∀a b:au,SR a->SR b->ag (kF a b) (fun x=>ag (gb x ⟨0,1⟩) fun y=>some y)=some (cu (gd a b) ⟨0,1⟩):=fun a b f hb=>by
  rw[IW f hb];simp only[ag];rw[IX (Ct f hb)]
 simp only[ag] at key;unfold gX gW iw oP;cases m:bB (eP u s).2 ⟨u.bP,1⟩ with
 |true=>
  simp only[cond_true];cases d:decide (0<(u.props.length:Int)) with
  |true=>
   have cs:=q8 F hs (fun e=>by rw[e] at d;simp at d);simp only[cond_true];rw[show foldI (gM u s) 0 u.props ⟨0,0⟩=lJ u s from rfl,q7 es cs];exact key _ _ ps (lI es cs)
  |false=>exact key _ _ ps es
 |false=>
  simp only[cond_false];cases d:decide (0<(u.props.length:Int)) with
  |true=>
   have cs:=q8 F hs (fun e=>by rw[e] at d;simp at d);simp only[cond_true];rw[show foldI (gM u s) 0 u.props ⟨0,0⟩=lJ u s from rfl,q7 ps cs];exact key _ _ es (lI ps cs)
  |false=>exact key _ _ es ps
theorem yf:kC u s=some (gX u s):=by
 obtain ⟨r,b,a,_⟩:=x9 F hs;rw[IY F hs] at a;rw[b,<-a]
end
structure Vl (r:au)(n d:Int):Prop where
 eq:r.num*d=n*r.den
 d:0<d
 den:0<r.den
theorem lt_mul {a b c:Int}(d:0<c):(a*c<b*c)↔a<b:=Int.mul_lt_mul_right d
theorem Vl.lt {r a:au}{n d c b:Int}(h:Vl r n d)(h':Vl a c b):bB r a=decide (n*b<c*d):=by
 unfold bB;rw[decide_eq_decide];have e1:r.num*a.den*(d*b)=n*b*(r.den*a.den):=by have:=h.eq;have:=h'.eq;grind
 have e2:a.num*r.den*(d*b)=c*d*(r.den*a.den):=by have:=h.eq;have:=h'.eq;grind
 rw[<-lt_mul (Int.mul_pos h.d h'.d),e1,e2,lt_mul (Int.mul_pos h.den h'.den)]
theorem Cu {a b:au}(c:0<a.den)(hb:0<b.den):Vl (gd a b) (a.num*b.den - b.num*a.den) (a.den*b.den):=by
 have hd:0<a.den*b.den:=Int.mul_pos c hb;have h:=oL (a.num*b.den - b.num*a.den) (a.den*b.den).toNat (by omega);rw[show (((a.den*b.den).toNat:Nat):Int)=a.den*b.den by omega] at h;exact ⟨h.1,hd,h.2⟩
theorem Cv {d:au}(hd:0<d.den):cu d ⟨0,1⟩=if d.num<0 then ⟨0,1⟩ else d:=by
 unfold cu bB;simp only[Int.mul_one,Int.zero_mul];by_cases h:d.num<0<;>simp[h]
theorem Cw {a b:au}:bB (cu a b) a=false:=by
 unfold cu;cases h:bB a b with
 |false=>exact lH a
 |true=>exact Cf h
theorem Cx {a b:au}:bB (cu a b) b=false:=by
 unfold cu;cases h:bB a b with
 |false=>exact h
 |true=>exact lH b
theorem rf {a b:au}(c:0<a.den)(hb:0<b.den):0<(cu a b).den:=by unfold cu;cases bB a b<;>assumption
theorem IZ {a b d:au}(f:0<a.den)(hb:0<b.den)(e:0<d.den)(h:bB d b=false):bB (cu a d) (cu a b)=false:=by
 have hm:=rf f e;unfold cu;cases c:bB a b with
 |false=>exact Cw
 |true=>exact oO hm e hb Cx h
theorem I0 {a b d:au}(c:0<a.den)(hb:0<b.den)(e:0<d.den)(h:bB d b=false):bB (gd a b) (gd a d)=false:=by
 rw[(Cu c hb).lt (Cu c e),decide_eq_false_iff_not,Int.not_lt];unfold bB at h;rw[decide_eq_false_iff_not,Int.not_lt] at h;have:=Int.mul_le_mul_of_nonneg_right h (Int.le_of_lt (Int.mul_pos c c));grind
theorem Vl.neg {r:au}{n d:Int}(h:Vl r n d):r.num<0↔n<0:=by
 have a:Vl ⟨0,1⟩ 0 1:=⟨rfl,by decide,by decide⟩
 have:=h.lt a;unfold bB at this;simpa [decide_eq_decide] using this
section
variable {u : ak} {s : aU} (F : Fit u) (hs : (1 ≤ s.back ∧ s.back ≤ 20) ∧ 0 ≤ s.high ∧ s.high ≤ 60)
include F hs
theorem Cz:0<(gd (iw u s) (gW u s)).den:=(Ct (yd F hs) (q9 F hs)).den.1
end
theorem I1 {u o:ak}{s:aU}(F:Fit u)(G:Fit o)(hs:(1<=s.back/\s.back<=20)/\0<=s.high/\s.high<=60)(hh:iw o s=iw u s)(h:bB (gW o s) (gW u s)=false):bB (gX u s) (gX o s)=false:=by
 have m:=I0 (yd F hs).den.1 (q9 F hs).den.1 (q9 G hs).den.1 h;have d1:=Cz F hs;have d2:=Cz G hs;rw[hh] at d2;unfold gX;rw[hh,Cv d1,Cv d2];by_cases c:(gd (iw u s) (gW u s)).num<0
 .rw[if_pos c];have c2:(gd (iw u s) (gW o s)).num<0:=by
   unfold bB at m;rw[decide_eq_false_iff_not,Int.not_lt] at m;rcases Int.lt_or_le (gd (iw u s) (gW o s)).num 0 with x|x
   .exact x
   .have a:=Int.mul_nonneg x (Int.le_of_lt d1);have b:=Int.mul_neg_of_neg_of_pos c d2;omega
  rw[if_pos c2];rfl
 .rw[if_neg c];split
  .unfold bB;rw[decide_eq_false_iff_not,Int.not_lt];show 0*_<=_*1;omega
  .exact m
theorem ri {α:Type}{t:Nat->α->Option Int}:∀(l:List α) (i:Nat),(∀j x,l[j]?=some x->t (i+j) x=none)->dF t i l=none
 |[],i,_=>rfl
 |y::l,i,h=>by
  unfold dF
  have a:=h 0 y rfl
  rw[Nat.add_zero] at a
  rw[a]
  exact ri l (i+1) fun j x b=>by
   have:=h (j+1) x (by simpa using b)
   rwa [show i+(j+1)=i+1+j by omega] at this
theorem I2 {u:ak}(h:e9 u=some 0):gV u=0:=by
 have hh:jj u=some 0:=h;unfold jj at hh;rw[tX] at hh;simp only[ag] at hh;cases hg:(gV u != 0) with
 |true=>rw[hg] at hh;exact Option.some.inj hh
 |false=>simpa using hg
theorem I3 {u:ak}(hg:gV u=0)(F:Fit u):e9 u=some 0:=by
 have h:=F.an;have i:=F.bH;have k:=F.props;have l:=F.aG;have m:=F.told;show jj u=some 0;unfold jj;rw[tX,hg];show lz u=some 0;unfold lz;rw[(xV u (by omega)).1,ri u.an 0 fun j x c=>?_,dX.2 (show (2:Int)<=(u.an.length:Int)/\(u.an.length:Int)<=5 by omega)]
 .show lu u=some 0;unfold lu;obtain ⟨f,d⟩:=xX u (by omega) (by omega);rw[ua u f d,ri u.props 0 fun j x c=>?_,show decide (3<(u.props.length:Int))=false by simp;omega]
  .show lq u=some 0;unfold lq;rw[tZ,ri u.aG 0 fun j x c=>?_,dX.2 (show (1:Int)<=(u.aG.length:Int)/\(u.aG.length:Int)<=3 by omega)]
   .show lp u=some 0;unfold lp n8;rw[tY,ri u.told 0 fun j x c=>?_,show decide (3<(u.told.length:Int))=false by simp;omega]
    .rfl
    .obtain ⟨a,b⟩:=F.q3 j x c;unfold jm iu;rw[bU (by omega),dX.2 ⟨a,by omega⟩];rfl
   .obtain ⟨a,g,b2,b3,b4⟩:=F.aY j x c;unfold ir kI;rw[dX.2 a,bU (by omega),show decide (3<=x.high.high - x.high.low)=false by simp;omega,decide_eq_true g,decide_eq_true b2,decide_eq_true b3];rfl
  .obtain ⟨a,b⟩:=F.prop j x c;have:=(d x.place).1;rw[a] at this;unfold iq;rw[<-Option.some.inj this,dX.2 b];rfl
 .obtain ⟨a,b⟩:=F.gz j x c;unfold gy;rw[bU (by omega),dX.2 a,dX.2 b];simp only[cond_true,Nat.zero_add];cases j with
  |zero=>rfl
  |succ j=>
   have n:=(List.getElem?_eq_some_iff.1 c).1;have e:u.an[j]?=some (u.an[j]'(by omega)):=List.getElem?_eq_getElem _;have:=F.lG j _ x e c;simp only[e];rw[show decide (x.aH<=(u.an[j]'(by omega)).aH)=false by simp;omega];rfl
def wp (u:ak)(P:List bO):ak:=⟨u.bH,u.bP,u.bf,u.an,P,u.aG,u.told⟩
theorem I4 {u:ak}(F:Fit u){P:List bO}(a:P.length<=3)(h:∀x,x∈P->eo u x.place=some true/\1<=x.dr/\x.dr<=20):Fit (wp u P):=
 ⟨F.bH,F.bP,F.den,F.num,F.an,F.gz,F.lG,a,fun i x b=>h x (List.mem_of_getElem? b),F.aG,F.aY,F.told,F.q3⟩
theorem yg (u:ak)(P:List bO)(s:aU):∀(l:List bO) (i:Nat) (b:au),foldI (gM (wp u P) s) i l b=foldI (gM u s) i l b
 |[],_,_=>rfl
 |x::l,i,b=>by
  unfold foldI
  exact yg u P s l (i+1) _
section
variable {u : ak} {s : aU} (F : Fit u) (hs : (1 ≤ s.back ∧ s.back ≤ 20) ∧ 0 ≤ s.high ∧ s.high ≤ 60)
include F hs
theorem CA {p h h':Int}(c:eo u p=some true)(hh:h<=h'):bB (c7 u ⟨p,h'⟩) (c7 u ⟨p,h⟩)=false/\0<(c7 u ⟨p,h⟩).den/\0<(c7 u ⟨p,h'⟩).den:=by
 obtain ⟨a,z,d,e,b,-⟩:=q5 u F p;rw[c] at b;have hb:=dX.1 (Option.some.inj b).symm;obtain ⟨r,f,-,g⟩:=B3 u F p a z d e hb.1 hb.2;have hd:=g.den.1;have key:∀k:Int,c7 u ⟨p,k⟩=bI (r.num+k*r.den) r.den.toNat:=fun k=>by unfold c7;simp only[f]
 have v:∀k:Int,Vl (c7 u ⟨p,k⟩) (r.num+k*r.den) r.den:=fun k=>by
  have:=oL (r.num+k*r.den) r.den.toNat (by omega);rw[<-key k,show ((r.den.toNat:Nat):Int)=r.den by omega] at this;exact ⟨this.1,hd,this.2⟩
 refine ⟨?_,(v h).den,(v h').den⟩;rw[(v h').lt (v h),decide_eq_false_iff_not,Int.not_lt];have:=Int.mul_le_mul_of_nonneg_right hh (Int.le_of_lt (Int.mul_pos hd hd));grind
theorem I5 {aH:Int}(d:0<=aH){e a:au}(he:0<e.den)(b:0<a.den)(h:bB a e=false):bB (oN u s aH a) (oN u s aH e)=false:=by
 have f:=F.bH;have v:∀e:au,0<e.den->Vl (oN u s aH e) (s.high*e.den*(aH+s.back)+(e.num - s.high*e.den)*(u.bH+s.back)) (e.den*(aH+s.back)):=fun e he=>by
  have hd:0<e.den*(aH+s.back):=Int.mul_pos he (by omega);have:=oL (s.high*e.den*(aH+s.back)+(e.num - s.high*e.den)*(u.bH+s.back)) (e.den*(aH+s.back)).toNat (by omega);rw[show (((e.den*(aH+s.back)).toNat:Nat):Int)=e.den*(aH+s.back) by omega] at this;exact ⟨this.1,hd,this.2⟩
 rw[(v a b).lt (v e he),decide_eq_false_iff_not,Int.not_lt];unfold bB at h;rw[decide_eq_false_iff_not,Int.not_lt] at h;have c:0<(aH+s.back)*(u.bH+s.back):=Int.mul_pos (by omega) (by omega);have:=Int.mul_le_mul_of_nonneg_right h (Int.le_of_lt c);have:=Int.mul_le_mul_of_nonneg_right this (show (0:Int)<=1 by decide);grind
theorem CB {p h:Int}(b:eo u p=some true):0<(ej u s ⟨p,h⟩).den:=by
 obtain ⟨-,d,-⟩:=CA F hs b (Int.le_refl h);obtain ⟨a,z,e,f,c,-⟩:=q5 u F p;rw[b] at c;have hb:=dX.1 (Option.some.inj c).symm;have:=F.gz 0 a e;have g:0<=p:=by omega
 have hd:0<(c7 u ⟨p,h⟩).den*(p+s.back):=Int.mul_pos d (by omega);exact (oL _ ((c7 u ⟨p,h⟩).den*(p+s.back)).toNat (by omega)).2
theorem I6 {p h h':Int}(b:eo u p=some true)(hh:h<=h'):bB (ej u s ⟨p,h'⟩) (ej u s ⟨p,h⟩)=false:=by
 obtain ⟨d,e,f⟩:=CA F hs b hh;obtain ⟨a,z,g,j,c,-⟩:=q5 u F p;rw[b] at c;have hb:=dX.1 (Option.some.inj c).symm;have:=F.gz 0 a g;have i:0<=p:=by omega
 exact I5 F hs (aH:=p) i e f d
end
def rj (a:(List (List Int)))(b:Int)(c:b9)(st:((List (List Int))×Int)):Option (Fl ((List (List Int))×Int) (List (List Int))):=
 cond (decide (st.2<=c.high.high)) (ag (aT a b) fun d=>ag (cL ([]:List Int) d) fun e=>ag (cL e ([st.2])) fun f=>ag (cL st.1 ([f])) fun g=>some (.nx (g,(IntKind.i64.wrap (st.2+1))))) (some (.bk (st.1,st.2)))
def rm (u0:ak)(a:(List (List Int)))(c:Int)(st:((List (List Int))×Int)):Option (Fl ((List (List Int))×Int) (List (List Int))):=
 cond (decide (st.2<(a.length:Int))) (ag (aT u0.aG c) fun b=>ag (aQ (rj a st.2 b) fu (st.1,b.high.low)) fun o=>ay o (fun d=>some (.nx (d.1,(IntKind.i64.wrap (st.2+1))))) (fun _ _=>none) (fun r=>some (.rt r))) (some (.bk (st.1,st.2)))
def um (u0:ak)(st:((List (List Int))×Int)):Option (Fl ((List (List Int))×Int) (List (List Int))):=
 cond (decide (st.2<(u0.aG.length:Int))) (ag (aQ (rm u0 st.1 st.2) fu (([]:List (List Int)),0)) fun o=>ay o (fun a=>some (.nx (a.1,(IntKind.i64.wrap (st.2+1))))) (fun _ _=>none) (fun r=>some (.rt r))) (some (.bk (st.1,st.2)))
def uo (u0:ak)(a:(List (List Int)))(st:((List (List Int))×Int)):Option (Fl ((List (List Int))×Int) (List (List Int))):=
 cond (decide (st.2<(a.length:Int))) (ag (aT a st.2) fun b=>ag (xU u0 b) fun c=>cond (c) (ag (cL st.1 ([b])) fun d=>some (.nx (d,(IntKind.i64.wrap (st.2+1))))) (some (.nx (st.1,(IntKind.i64.wrap (st.2+1)))))) (some (.bk (st.1,st.2)))
def CC (u0:ak):Option (List (List Int)):=
 ag (aQ (um u0) fu (([([]:(List Int))]),0)) fun o=>ay o (fun a=>ag (aQ (uo u0 a.1) fu (([]:List (List Int)),0)) fun o=>ay o (fun b=>some b.1) (fun _ _=>none) (fun r=>some r)) (fun _ _=>none) (fun r=>some r)
def fl {α ρ:Type}(t:Nat->α->Option ρ):Nat->List α->Option ρ
 |_,[]=>none
 |i,x::l=>match t i x with
  |some r=>some r
  |none=>fl t (i+1) l
def kJ {σ ρ:Type}(o:Option ρ)(s:σ):Fl σ ρ:=match o with
 |some r=>.rt r
 |none=>.nx s
theorem rq {α σ ρ:Type}{f:Nat->α->σ->Option (Fl σ ρ)}{t:Nat->α->Option ρ}:∀(l:List α) (i:Nat) (s:σ),(∀j x s,l[j]?=some x->f (i+j) x s=some (kJ (t (i+j) x) s))->bD f i l s=some (kJ (fl t i l) s)
 |[],i,s,_=>rfl
 |x::l,i,s,h=>by
  have a:=h 0 x s rfl
  simp only[Nat.add_zero] at a
  unfold bD fl
  rw[a]
  cases ht:t i x with
  |some r=>rfl
  |none=>
   show bD f (i+1) l s=_
   exact rq l (i+1) s fun j y s b=>by
    have:=h (j+1) y s (by simpa using b)
    rwa [show i+(j+1)=i+1+j by omega] at this
theorem CD {α σ ρ:Type}{f:σ×Int->Option (Fl (σ×Int) ρ)}{t:Nat->α->Option ρ}(l:List α)(h:∀(i:Nat) x s,l[i]?=some x->f (s,(i:Int))=some (kJ (t i x) (s,((i+1:Nat):Int))))(a:∀s,f (s,(l.length:Int))=some (.bk (s,(l.length:Int)))):
  ∀(k i n:Nat) (s:σ),i+k=l.length->k<n->aQ f n (s,(i:Int))=some (kJ (fl t i (l.drop i)) (s,(l.length:Int)))
 |0,i,n+1,s,hi,_=>by
  obtain rfl:i=l.length:=by omega
  unfold aQ
  rw[a,List.drop_length]
  rfl
 |k+1,i,n+1,s,hi,d=>by
  have b:i<l.length:=by omega
  have c:l[i]?=some l[i]:=List.getElem?_eq_getElem b
  unfold aQ
  rw[h i _ s c,List.drop_eq_getElem_cons b]
  unfold fl
  cases ht:t i l[i] with
  |some r=>rfl
  |none=>exact CD l h a k (i+1) n s (by omega) (by omega)
theorem uq {α σ ρ:Type}{f:σ×Int->Option (Fl (σ×Int) ρ)}{t:Nat->α->Option ρ}(l:List α)(a:l.length<=1000)(h:∀(i:Nat) x s,l[i]?=some x->f (s,(i:Int))=some (kJ (t i x) (s,((i+1:Nat):Int))))(b:∀s,f (s,(l.length:Int))=some (.bk (s,(l.length:Int))))(s:σ):
  aQ f fu (s,0)=some (kJ (fl t 0 l) (s,(l.length:Int))):=by
 have:=CD l h b l.length 0 fu s (by omega) (Nat.lt_of_le_of_lt a (by decide))
 simpa using this
theorem CE {α ρ:Type}{g:α->Bool}{r:ρ}:∀(l:List α) (i:Nat),fl (fun _ x=>if g x then none else some r) i l=if l.all g then none else some r
 |[],_=>rfl
 |x::l,i=>by
  unfold fl
  cases h:g x with
  |false=>simp[h]
  |true=>
   simp only[h,if_true,List.all_cons,Bool.true_and]
   exact CE l (i+1)
theorem uu {α:Type}{g:α->Bool}:∀(l:List α) (i:Nat),∃r,fl (fun i x=>if g x then some (i:Int) else none) i l=r/\decide (0<=r.getD (-1))=l.any g
 |[],_=>⟨none,rfl,rfl⟩
 |x::l,i=>by
  unfold fl
  cases h:g x with
  |true=>exact ⟨_,rfl,by simp[h]⟩
  |false=>
   obtain ⟨r,a,b⟩:=uu l (i+1) (g:=g)
   exact ⟨r,by simpa using a,by simpa [h] using b⟩
theorem dK {α:Type}{l:List α}{i:Nat}{x:α}(h:l[i]?=some x):aT l (i:Int)=some x:=by
 unfold aT;rw[if_pos (by omega)];simpa using h
theorem yh {α:Type}{l:List α}{i:Int}{x:α}(a:0<=i)(h:l[i.toNat]?=some x):aT l i=some x:=by
 unfold aT;rw[if_pos a,h]
theorem contains_eq {f:bV->Option Bool}{g:bV->Bool}(l:List bV)(h:∀x,x∈l->f x=some (g x)):qB l f=some (l.any g):=by
 unfold qB s7
 rw[rq (t:=fun i x=>if g x then some (i:Int) else none) l 0 0 fun j x s a=>by
  unfold s6;rw[h x (List.mem_of_getElem? a)]
  cases g x<;>rfl]
 obtain ⟨r,b,c⟩:=uu (g:=g) l 0;rw[b,<-c];cases r<;>rfl
def cQ (u:ak)(s:aU):Bool:=(ga u s).getD false
theorem ru {u:ak}(F:Fit u){s:aU}(hs:(1<=s.back/\s.back<=20)/\0<=s.high/\s.high<=60):ga u s=some (cQ u s)/\tT u s=some (cQ u s):=by
 obtain ⟨b,a,c⟩:=IT F hs;have e:cQ u s=b:=by unfold cQ;rw[a];rfl
 rw[e];exact ⟨a,c⟩
def eX (u:ak)(i:Nat)(n:Int):aU:=⟨(u.aG[i]?.map (·.back)).getD 0,n⟩
structure oQ (u:ak)(h:List Int):Prop where
 len:h.length=u.aG.length
 oR:∀(i:Nat) e,u.aG[i]?=some e->∃n,h[i]?=some n/\e.high.low<=n/\n<=e.high.high
def kK (u:ak)(h:List Int)(t:bV):Bool:=cQ u (eX u t.aY.toNat (h[t.aY.toNat]?.getD 0))==t.bw
def fR (u:ak)(h:List Int):Bool:=u.told.all (kK u h)
theorem CF {u:ak}{h:List Int}(H:oQ u h){i:Int}(f:0<=i)(g:i<u.aG.length)(F:Fit u):∃e n,u.aG[i.toNat]?=some e/\h[i.toNat]?=some n/\eX u i.toNat n=⟨e.back,n⟩/\(1<=e.back/\e.back<=20)/\0<=n/\n<=60:=by
 have c:u.aG[i.toNat]?=some (u.aG[i.toNat]'(by omega)):=List.getElem?_eq_getElem _;obtain ⟨n,d,a,b⟩:=H.oR _ _ c;obtain ⟨c1,c2,c3,c4,j⟩:=F.aY _ _ c;refine ⟨_,n,c,d,?_,c1,by omega,by omega⟩;unfold eX;rw[c];rfl
theorem I7 {u:ak}(F:Fit u){h:List Int}(H:oQ u h):xU u h=some (fR u h):=by
 unfold xU;rw[uq (t:=fun _ x=>if kK u h x then none else some false) u.told (by have:=F.told;omega) (s:=false) (fun i x s c=>?_) (fun s=>?_)]
 .rw[CE];unfold fR;cases u.told.all (kK u h)<;>rfl
 .obtain ⟨a,b⟩:=F.q3 i x c;obtain ⟨e,n,f,d,g,j,k⟩:=CF H a b F;have l:i<u.told.length:=(List.getElem?_eq_some_iff.1 c).1;have ht:=F.told;unfold xT BI;rw[show decide (((i:Nat):Int)<(u.told.length:Int))=true by simp;omega];simp only[cond_true,dK c,ag,yh a f,yh a d,(ru F (s:=⟨e.back,n⟩) ⟨j,k⟩).2];rw[bU (n:=(i:Int)+1) (by omega)];unfold kK;rw[d];show _=some (kJ (if cQ u (eX u x.aY.toNat n)==x.bw then none else some false) (s,((i+1:Nat):Int)));rw[g];cases cQ u ⟨e.back,n⟩==x.bw<;>rfl
 .unfold xT;rw[show decide ((u.told.length:Int)<(u.told.length:Int))=false by simp];rfl
def cR (l:List Int):aZ:=⟨l[0]?.getD 0,l[1]?.getD 0,l[2]?.getD 0⟩
theorem uv {l:List Int}{i:Int}{n:Int}(a:0<=i)(b:i<3)(h:l[i.toNat]?=some n):aZ.get (cR l) i=some n:=by
 unfold aZ.get cR;rcases (show i=0\/i=1\/i=2 by omega) with rfl|rfl|rfl<;>simp at h<;>simp[h]
theorem I8 {u:ak}(F:Fit u){h:List Int}(H:oQ u h):oe u (cR h)=some (fR u h):=by
 unfold oe
 rw[contains_eq (g:=fun t=>!kK u h t) u.told fun x d=>by
  obtain ⟨i,hi⟩:=List.mem_iff_getElem?.1 d;obtain ⟨a,b⟩:=F.q3 i x hi;obtain ⟨e,n,f,c,j,k,l⟩:=CF H a b F;have:=F.aG;unfold qD iI;simp only[uv a (by omega) c,ag,yh a f,(ru F (s:=⟨e.back,n⟩) ⟨k,l⟩).1];unfold kK;rw[c];show _=some (!(cQ u (eX u x.aY.toNat n)==x.bw))
  rw[j]]
 simp only[ag];unfold fR;rw[show (u.told.any fun t=>!kK u h t)=!(u.told.all (kK u h)) by rw[List.all_eq_not_any_not];simp];simp
def cW (b:de):List Int:=(List.range (b.high - b.low+1).toNat).map fun k=>b.low+(k:Nat)
theorem I9 {b:de}{i:Nat}{x:Int}(h:(cW b)[i]?=some x):x=b.low+i/\b.low+i<=b.high:=by
 unfold cW at h;rw[List.getElem?_map,Option.map_eq_some_iff] at h;obtain ⟨k,c,rfl⟩:=h;obtain ⟨d,a⟩:=List.getElem?_eq_some_iff.1 c;simp at d a;subst a;exact ⟨rfl,by omega⟩
theorem oS (b:de):(cW b).length=(b.high - b.low+1).toNat:=by simp[cW]
theorem uw {b:de}{x:Int}:x∈cW b↔b.low<=x/\x<=b.high:=by
 unfold cW;rw[List.mem_map];constructor
 .rintro ⟨k,a,rfl⟩;rw[List.mem_range] at a;omega
 .rintro ⟨c,d⟩;exact ⟨(x - b.low).toNat,by rw[List.mem_range];omega,by omega⟩
def kL (b:de)(all:List (List Int)):List (List Int):=all.flatMap fun p=>(cW b).map fun n=>p++[n]
def eD (p:List Int):List b9->List (List Int)
 |[]=>[p]
 |e::l=>(cW e.high).flatMap fun n=>eD (p++[n]) l
def b6 (u:ak):List (List Int):=(eD [] u.aG).filter (fR u)
theorem ry {α β:Type}(g:α->List β):∀(l:List α) (i:Nat) (s:List β),foldI (fun _ x s=>s++g x) i l s=s++l.flatMap g
 |[],_,s=>by simp[foldI]
 |x::l,i,s=>by
  unfold foldI
  rw[ry g l]
  simp[List.flatMap_cons]
theorem CG:∀(l:List b9) (i:Nat) (all:List (List Int)),foldI (fun _ (e:b9) all=>kL e.high all) i l all=all.flatMap fun p=>eD p l
 |[],_,all=>by
  unfold foldI
  show all=all.flatMap fun p=>[p]
  induction all with
  |nil=>rfl
  |cons a l ih=>rw[List.flatMap_cons,<-ih];rfl
 |e::l,i,all=>by
  unfold foldI
  rw[CG l]
  unfold kL
  rw[List.flatMap_assoc]
  congr 1
  funext p
  rw[List.flatMap_map]
  rfl
theorem CH:∀(l:List b9) (p h:List Int),h∈eD p l->h.length=p.length+l.length/\(∀(j:Nat) e,l[j]?=some e->∃n,h[p.length+j]?=some n/\e.high.low<=n/\n<=e.high.high)/\∀j,j<p.length->h[j]?=p[j]?
 |[],p,h,hm=>by
  simp only[eD,List.mem_singleton] at hm
  subst hm
  exact ⟨rfl,fun j e he=>by simp at he,fun _ _=>rfl⟩
 |e::l,p,h,hm=>by
  unfold eD at hm
  rw[List.mem_flatMap] at hm
  obtain ⟨n,d,hm⟩:=hm
  obtain ⟨f,c,a⟩:=CH l _ _ hm
  rw[List.length_append,List.length_singleton] at f c a
  refine ⟨by simp;omega,fun j x b=>?_,fun j g=>?_⟩
  .cases j with
   |zero=>
    simp at b;subst b
    refine ⟨n,?_,uw.1 d⟩
    rw[Nat.add_zero,a _ (by omega),List.getElem?_append_right (Nat.le_refl _)]
    simp
   |succ j=>
    obtain ⟨m,hm,hb⟩:=c j x (by simpa using b)
    exact ⟨m,by rw[<-hm];congr 1;omega,hb⟩
  .rw[a j (by omega),List.getElem?_append_left g]
theorem yj {u:ak}{h:List Int}(hm:h∈eD [] u.aG):oQ u h:=by
 obtain ⟨a,b,_⟩:=CH _ _ _ hm;exact ⟨by simpa using a,fun i e he=>by simpa using b i e he⟩
theorem CI {b:de}(hb:b.high - b.low<3):∀(all:List (List Int)),(kL b all).length<=all.length*3
 |[]=>by simp[kL]
 |p::all=>by
  have:=CI hb all
  unfold kL at this ⊢
  rw[List.flatMap_cons,List.length_append,List.length_map,oS,List.length_cons]
  omega
theorem fS {α:Type}{l xs:List α}(h:l.length+xs.length<=1000000):cL l xs=some (l++xs):=by
 unfold cL;rw[if_pos h]
theorem Ja {all:List (List Int)}{k:Nat}{p:List Int}{e:b9}(b:all[k]?=some p)(d:p.length<=100)(he:0<=e.high.low/\e.high.low<=e.high.high/\e.high.high<=60/\e.high.high - e.high.low<3)(s:List (List Int))(hs:s.length<=1000):
  aQ (rj all (k:Int) e) fu (s,e.high.low)=some (.nx (s++(cW e.high).map (fun n=>p++[n]),e.high.high+1)):=by
 have key:=oM (f:=rj all (k:Int) e) (g:=fun _ x s=>s++[p++[x]]) (I:=fun i s=>s.length<=1000+i) (fun s i=>(s,e.high.low+i)) (cW e.high) (by rw[oS];omega)
  (fun i x s c h=>by
   obtain ⟨rfl,hb⟩:=I9 c
   refine ⟨?_,by simp;omega⟩
   unfold rj
   rw[show decide ((s,e.high.low+(i:Int)).2<=e.high.high)=true by simpa using hb]
   simp only[cond_true,dK b,ag,fS (l:=([]:List Int)) (xs:=p) (by simp;omega),List.nil_append,fS (l:=p) (xs:=[e.high.low+(i:Int)]) (by simp;omega),fS (l:=s) (xs:=[p++[e.high.low+(i:Int)]]) (by simp;omega)]
   rw[bU (n:=e.high.low+(i:Int)+1) (by omega)]
   simp;omega)
  (fun s=>by
   unfold rj
   rw[show decide ((s,e.high.low+((cW e.high).length:Int)).2<=e.high.high)=false by rw[oS];simp;omega]
   rfl) s (by omega)
 have:=key.1
 rw[ry (fun x=>[p++[x]])] at this
 simp only[Int.add_zero] at this
 rw[this]
 congr 2
 refine Prod.ext ?_ ?_
 .simp only[List.append_cancel_left_eq]
  induction cW e.high with
  |nil=>rfl
  |cons a l ih=>simp[ih]
 .simp only[oS];omega
theorem Jb {u:ak}{all:List (List Int)}{i:Nat}{e:b9}(hi:u.aG[i]?=some e)(b:∀p∈all,p.length<=100)(c:all.length<=100)(he:0<=e.high.low/\e.high.low<=e.high.high/\e.high.high<=60/\e.high.high - e.high.low<3):
  aQ (rm u all (i:Int)) fu (([]:List (List Int)),0)=some (.nx (kL e.high all,(all.length:Int))):=by
 have key:=oM (f:=rm u all (i:Int)) (g:=fun _ p s=>s++(cW e.high).map fun n=>p++[n]) (I:=fun i s=>s.length<=3*i/\i<=all.length) (fun s i=>(s,i)) all (by omega)
  (fun k p s a d=>by
   have h:k<all.length:=(List.getElem?_eq_some_iff.1 a).1
   refine ⟨?_,by simp[oS];omega,by omega⟩
   unfold rm
   rw[show decide ((s,(k:Int)).2<(all.length:Int))=true by simp;omega]
   simp only[cond_true,dK hi,ag,Ja a (b p (List.mem_of_getElem? a)) he s (by omega),ay]
   rw[bU (n:=(k:Int)+1) (by omega)]
   rfl)
  (fun s=>by
   unfold rm
   rw[show decide ((s,(all.length:Int)).2<(all.length:Int))=false by simp]
   rfl) ([]:List (List Int)) ⟨by simp,by omega⟩
 have:=key.1
 rw[ry (fun p=>(cW e.high).map fun n=>p++[n])] at this
 simpa [kL] using this
theorem CJ {u:ak}:∀(l:List (List Int)) (i:Nat) (s:List (List Int)),foldI (fun _ x s=>if fR u x then s++[x] else s) i l s=s++l.filter (fR u)
 |[],_,s=>by simp[foldI]
 |x::l,i,s=>by
  unfold foldI
  rw[CJ l]
  cases h:fR u x<;>simp[h]
theorem three (i:Nat)(h:i<=3):3 ^ i<=27:=by
 rcases (show i=0\/i=1\/i=2\/i=3 by omega) with rfl|rfl|rfl|rfl<;>decide
theorem yl {u:ak}(F:Fit u):CC u=some (b6 u)/\(b6 u).length<=27:=by
 have r:=F.aG;have key:=oM (f:=um u) (g:=fun _ (e:b9) all=>kL e.high all) (I:=fun i all=>(∀p∈all,p.length=i)/\all.length<=3 ^ i/\i<=u.aG.length) (fun s i=>(s,i)) u.aG (by omega)
  (fun i e all hi c=>by
   obtain ⟨d,t,v⟩:=c;have k:i<u.aG.length:=(List.getElem?_eq_some_iff.1 hi).1;have he:=(F.aY i e hi).2;have w:=three i (by omega);have hs:=CI he.2.2.2 all;refine ⟨?_,fun p a=>?_,by rw[Nat.pow_succ];omega,by omega⟩
   .unfold um;rw[show decide ((all,(i:Int)).2<(u.aG.length:Int))=true by simp;omega];simp only[cond_true,Jb hi (fun p a=>by have:=d p a;omega) (by omega) he,ag,ay];rw[bU (n:=(i:Int)+1) (by omega)];rfl
   .unfold kL at a;rw[List.mem_flatMap] at a;obtain ⟨q,m,a⟩:=a;rw[List.mem_map] at a;obtain ⟨n,_,rfl⟩:=a
    simp[d q m])
  (fun s=>by
   unfold um;rw[show decide ((s,(u.aG.length:Int)).2<(u.aG.length:Int))=false by simp]
   rfl) [[]] ⟨by simp,by simp,by omega⟩
 obtain ⟨k1,b⟩:=key;rw[CG] at k1 b;simp only[List.flatMap_cons,List.flatMap_nil,List.append_nil] at k1 b;have hlen:(eD [] u.aG).length<=27:=Nat.le_trans b.2.1 (three _ (by omega));have j:=oM (f:=uo u (eD [] u.aG)) (g:=fun _ x s=>if fR u x then s++[x] else s) (I:=fun i s=>s.length<=i/\i<=(eD [] u.aG).length) (fun s i=>(s,i)) (eD [] u.aG) (by omega)
  (fun i h s hi c=>by
   have k:i<(eD [] u.aG).length:=(List.getElem?_eq_some_iff.1 hi).1;have o:=I7 F (yj (List.mem_of_getElem? hi));refine ⟨?_,by cases fR u h<;>simp<;>omega,by omega⟩;unfold uo;rw[show decide ((s,(i:Int)).2<((eD [] u.aG).length:Int))=true by simp;omega];simp only[cond_true,dK hi,ag,o];rw[bU (n:=(i:Int)+1) (by omega)];cases fR u h with
   |false=>rfl
   |true=>simp only[cond_true,fS (l:=s) (xs:=[h]) (by simp;omega)];rfl)
  (fun s=>by
   unfold uo;rw[show decide ((s,((eD [] u.aG).length:Int)).2<((eD [] u.aG).length:Int))=false by simp]
   rfl) ([]:List (List Int)) ⟨by simp,by omega⟩
 rw[CJ] at j;refine ⟨?_,Nat.le_trans (List.length_filter_le _ _) hlen⟩;unfold CC;rw[k1];simp only[ag,ay];rw[j.1];simp only[List.nil_append];rfl
def co (h:aZ)(j:Nat):Int:=if j=0 then h.e0 else if j=1 then h.e1 else if j=2 then h.e2 else 0
theorem Jc (h:aZ){j:Nat}(d:j<3)(n:Int):∃a,h.setAt (j:Int) n=some a/\∀i,co a i=if i=j then n else co h i:=by
 rcases (show j=0\/j=1\/j=2 by omega) with rfl|rfl|rfl
 .refine ⟨{h with e0:=n},rfl,fun i=>?_⟩;unfold co;split<;>rfl
 .refine ⟨{h with e1:=n},rfl,fun i=>?_⟩;unfold co;by_cases b:i=0<;>by_cases a:i=1<;>simp[b,a]<;>omega
 .refine ⟨{h with e2:=n},rfl,fun i=>?_⟩;unfold co;by_cases b:i=0<;>by_cases a:i=1<;>by_cases c:i=2<;>simp[b,a,c]<;>omega
structure Ag (u:ak)(p:List Int)(h:aZ):Prop where
 at_:∀(j:Nat) n,p[j]?=some n->co h j=n
 no:∀j,u.aG.length<=j->co h j=0
theorem Ag.cR {u:ak}{p:List Int}{h:aZ}(H:Ag u p h)(a:p.length=u.aG.length):h=cR p:=by
 have key:∀j,co h j=p[j]?.getD 0:=fun j=>by
  cases e:p[j]? with
  |some n=>exact H.at_ j n e
  |none=>exact H.no j (by rw[<-a];exact List.getElem?_eq_none_iff.1 e)
 have b:=key 0;have k1:=key 1;have c:=key 2;cases h;unfold Go.Proofs.YtghbphimkgamkaaGreatDoor.cR;rw[<-b,<-k1,<-c];rfl
theorem Ag.set {u:ak}{p:List Int}{h:aZ}(H:Ag u p h)(c:p.length<u.aG.length)(d:u.aG.length<=3)(n:Int):∃a,h.setAt (p.length:Int) n=some a/\Ag u (p++[n]) a:=by
 obtain ⟨a,e1,e2⟩:=Jc h (j:=p.length) (by omega) n;refine ⟨a,e1,fun j m hm=>?_,fun j b=>?_⟩
 .rw[e2];by_cases e:j=p.length
  .subst e;rw[if_pos rfl];simpa using hm
  .rw[if_neg e];refine H.at_ j m ?_;rw[<-hm,List.getElem?_append_left];have:=(List.getElem?_eq_some_iff.1 hm).1;simp at this;omega
 .rw[e2,if_neg (by omega)];exact H.no j b
theorem Ag.cut {u:ak}{p:List Int}{n:Int}{h:aZ}(H:Ag u (p++[n]) h):Ag u p h:=
 ⟨fun j m hm=>H.at_ j m (by rw[List.getElem?_append_left (List.getElem?_eq_some_iff.1 hm).1];exact hm),H.no⟩
theorem ym {a b:Int}(h:a<=b):cW ⟨a,b⟩=a::cW ⟨a+1,b⟩:=by
 unfold cW;simp only;rw[show (b - a+1).toNat=(b - (a+1)+1).toNat+1 by omega,List.range_succ_eq_map];simp only[List.map_cons,List.map_map,Function.comp_def];congr 1
 .simp
 .apply List.map_congr_left;intro k _;simp only[Nat.succ_eq_add_one];omega
theorem yo {a b:Int}(h:¬a<=b):cW ⟨a,b⟩=[]:=by
 unfold cW;simp only;rw[show (b - a+1).toNat=0 by omega];rfl
theorem CK {u:ak}{p:List Int}(a:p.length<u.aG.length)(b:u.aG.length<=3){f:aZ->List (Option aZ)×aZ}{G:Int->List (Option aZ)}{lo hi:Int}(hb:0<=lo/\hi<=60)
  (d:∀n,lo<=n->n<=hi->∀h,Ag u (p++[n]) h->(f h).1=G n/\Ag u (p++[n]) (f h).2):
  ∀(k:Nat) (n:Int) (h:aZ),Ag u p h->lo<=n->n<=61->61 - n<k->(jl f (p.length:Int) hi k n h).1=(cW ⟨n,hi⟩).flatMap G/\Ag u p (jl f (p.length:Int) hi k n h).2
 |0,n,h,H,e,g,i=>by omega
 |k+1,n,h,H,e,g,i=>by
  unfold jl
  by_cases c:n<=hi
  .rw[if_pos c,ym c]
   obtain ⟨x,e1,e2⟩:=H.set a b n
   rw[e1]
   obtain ⟨j,l⟩:=d n e c x e2
   have w:IntKind.i64.wrap (n+1)=n+1:=bU (by omega)
   obtain ⟨r1,r2⟩:=CK a b hb d k (n+1) (f x).2 l.cut (by omega) (by omega) (by omega)
   simp only[w]
   exact ⟨by rw[j,r1,List.flatMap_cons],r2⟩
  .rw[if_neg c,yo c]
   exact ⟨rfl,H⟩
theorem CL {u:ak}(F:Fit u):∀(l:List b9) (p:List Int) (fuel:Nat) (h:aZ),u.aG.drop p.length=l->p.length+l.length=u.aG.length->l.length<fuel->
  (∀(j:Nat) e,u.aG[j]?=some e->j<p.length->∃n,p[j]?=some n/\e.high.low<=n/\n<=e.high.high)->Ag u p h->
  (eW u fuel (p.length:Int) h).1=((eD p l).filter (fR u)).map (fun x=>some (cR x))/\Ag u p (eW u fuel (p.length:Int) h).2
 |l,p,0,h,hd,a,b,hb,H=>by omega
 |[],p,fuel+1,h,hd,a,b,hb,H=>by
  have a:p.length=u.aG.length:=by simpa using a
  unfold eW
  rw[if_pos (by omega)]
  obtain rfl:=H.cR a
  have R:=I8 F (h:=p) ⟨a,fun i e he=>hb i e he (by have:=(List.getElem?_eq_some_iff.1 he).1;omega)⟩
  refine ⟨?_,H⟩
  rw[R]
  unfold eD
  cases e:fR u p<;>simp[e]
 |e::l,p,fuel+1,h,hd,a,b,hb,H=>by
  simp only[List.length_cons] at a b
  have he:u.aG[p.length]?=some e:=by
   have:=congrArg List.head? hd
   simpa [List.head?_drop] using this
  have k:u.aG.drop (p.length+1)=l:=by
   have:=congrArg List.tail hd
   simpa [List.tail_drop] using this
  have o:=F.aG
  have g:=(F.aY _ _ he).2
  unfold eW
  rw[if_neg (by omega),dK he]
  have w:IntKind.i64.wrap ((p.length:Int)+1)=((p.length+1:Nat):Int):=by rw[bU (by omega)];omega
  simp only[w]
  have key:=CK (u:=u) (p:=p) (by omega) o.2 (f:=eW u fuel ((p.length+1:Nat):Int)) (G:=fun n=>((eD (p++[n]) l).filter (fR u)).map (fun x=>some (cR x))) (lo:=e.high.low) (hi:=e.high.high) ⟨g.1,g.2.2.1⟩
   (fun n n1 n2 x q=>by
    have:=CL F l (p++[n]) fuel x (by simpa using k) (by simp;omega) (by omega) (fun j y d r=>by
     by_cases c:j<p.length
     .obtain ⟨m,hm,s⟩:=hb j y d c
      exact ⟨m,by rw[List.getElem?_append_left c];exact hm,s⟩
     .simp at r
      obtain rfl:j=p.length:=by omega
      rw[he] at d;cases d
      exact ⟨n,by simp,n1,n2⟩) q
    simpa using this) 100 e.high.low h H (Int.le_refl _) (by omega) (by omega)
  refine ⟨?_,key.2⟩
  rw[key.1,show eD p (e::l)=(cW e.high).flatMap fun n=>eD (p++[n]) l from rfl,List.filter_flatMap,List.map_flatMap]
theorem Jd (j:Nat):co ⟨0,0,0⟩ j=0:=by
 unfold co;split
 .rfl
 .split
  .rfl
  .split<;>rfl
theorem Je {u:ak}(F:Fit u):mL u=(b6 u).map (fun x=>some (cR x)):=by
 have c:=F.aG;exact (CL F u.aG [] 5 ⟨0,0,0⟩ rfl (by simp) (by omega) (fun j e _ a=>absurd a (by simp)) ⟨fun j n b=>by simp at b,fun j _=>Jd j⟩).1
theorem CM:∀(l:List aZ) (s:List aZ),s.length+l.length<=1000000->jf oo (l.map some) s=some (.nx (s++l))
 |[],s,_=>by simp[jf]
 |x::l,s,h=>by
  simp only[List.length_cons] at h
  simp only[List.map_cons]
  have:=CM l (s++[x]) (by simp;omega)
  rw[show s++x::l=s++[x]++l by simp,<-this]
  have e:oo x s=some (.nx (s++[x])):=by
   unfold oo
   rw[fS (by simp;omega)]
   rfl
  show jf _ (some x::l.map some) s=_
  rw[jf,e]
  rfl
theorem Jf {l:List aZ}(h:l.length<=1000):qH (l.map some)=some l:=by
 unfold qH tq;rw[CM l [] (by simp;omega)];simp[ag,ay]
def Jg:cO:=⟨B4,[]⟩
theorem yp {u:ak}(F:Fit u){b:List (ak->Option Int)}(h:fc u b=some (u,0)):gS u b=some (if (b6 u).isEmpty then (Jg,9) else (⟨u,(b6 u).map cR⟩,0)):=by
 unfold gS;rw[h];simp only[ag];rw[show ((0:Int) != 0)=false by decide];simp only[cond_false];have c:=(yl F).2;rw[Je F,show (b6 u).map (fun x=>some (cR x))=((b6 u).map cR).map some by simp,Jf (by simp;omega)];simp only[ag];cases b6 u with
 |nil=>rfl
 |cons a l=>
  rw[show ((((a::l).map cR).length:Int)==0)=false by simp;omega];rfl
structure yq (u:ak):Prop where
 e:u.an.length<=20
 p:u.props.length<=20
 y:u.aG.length<=20
 t:u.told.length<=20
theorem bars {u:ak}(L:yq u):∃c,e9 u=some c/\mY u=some c:=by
 obtain ⟨b,c,a⟩:=IC u L.e L.p L.y L.t;exact ⟨c,a,b▸a⟩
theorem Jh {u:ak}(h:e9 u=some 0):fc u []=some (u,0):=by
 unfold fc;rw[h];rfl
theorem Ji (u:ak)(n:Int):eV n u=some (cond (iu u n) 0 6):=by
 unfold eV;rw[(xW u n).2];simp only[ag];cases iu u n<;>rfl
theorem Jj {u:ak}(F:Fit u){n:Int}:iu u n=true↔0<=n/\n<u.aG.length:=by
 have:=F.aG;unfold iu;rw[bU (by omega),dX];omega
theorem CN {α β σ:Type}(f:α->β)(g:Nat->β->σ->σ):∀(l:List α) (i:Nat) (s:σ),foldI g i (l.map f) s=foldI (fun i x s=>g i (f x) s) i l s
 |[],_,_=>rfl
 |x::l,i,s=>by
  simp only[List.map_cons]
  unfold foldI
  exact CN f g l (i+1) _
theorem CO {α σ:Type}{g g':Nat->α->σ->σ}:∀(l:List α) (i:Nat) (s:σ),(∀j x s,x∈l->g j x s=g' j x s)->foldI g i l s=foldI g' i l s
 |[],_,_,_=>rfl
 |x::l,i,s,h=>by
  unfold foldI
  rw[h i x s (List.mem_cons_self ..)]
  exact CO l (i+1) _ fun j y s a=>h j y s (List.mem_cons_of_mem _ a)
theorem rz {u:ak}{h:List Int}(hm:h∈b6 u):oQ u h/\fR u h=true:=by
 obtain ⟨a,b⟩:=List.mem_filter.1 hm;exact ⟨yj a,b⟩
section
variable {u : ak} (F : Fit u) {i : Nat} {e : b9} (he : u.aG[i]? = some e)
include F he
theorem yt {h:List Int}(hm:h∈b6 u):∃n,h[i]?=some n/\eX u i (h[i]?.getD 0)=⟨e.back,n⟩/\(1<=e.back/\e.back<=20)/\0<=n/\n<=60:=by
 obtain ⟨n,c,a,b⟩:=(rz hm).1.oR i e he;obtain ⟨c1,c2,c3,c4,d⟩:=F.aY _ _ he;refine ⟨n,c,?_,c1,by omega,by omega⟩;rw[c];unfold eX;rw[he];rfl
end
end Go.Proofs.YtghbphimkgamkaaGreatDoor
end
section
namespace Go.Sep
open Go Go.Conc
def m5 (P:Program)(J:Goroutine->aa->Prop)(ops:Array Oper)(F0:aa)(Q:Act->aa->Prop):List Oper->Bool->Act->aa->Prop
 |[],_,a,F=>Q a F
 |o::rest,_,a,F=>match cC ops o a with
  |some true=>cK P J o (fun v F'=>Knows F0 F'/\m5 P J ops F0 Q rest (!Oper.calls o) (bg a o.dst v) F') a F
  |some false=>m5 P J ops F0 Q rest true (bg a o.dst undef) F
  |none=>False
theorem Jk {P:Program}{J:Goroutine->aa->Prop}{ops:Array Oper}{F0:aa}{Q:Act->aa->Prop}{go:Bool}{a:Act}{F:aa}:m5 P J ops F0 Q [] go a F=Q a F:=rfl
theorem Jl {P:Program}{J:Goroutine->aa->Prop}{ops:Array Oper}{F0:aa}{Q:Act->aa->Prop}{o:Oper}{rest:List Oper}{a:Act}{F:aa}:m5 P J ops F0 Q (o::rest) true a F=match cC ops o a with
  |some true=>cK P J o (fun v F'=>Knows F0 F'/\m5 P J ops F0 Q rest (!Oper.calls o) (bg a o.dst v) F') a F
  |some false=>m5 P J ops F0 Q rest true (bg a o.dst undef) F
  |none=>False:=(Eq.refl _).trans (Eq.refl _)
attribute [irreducible] m5
attribute [go_sem] Jk Jl
end Go.Sep
end
section
namespace Go.Proofs.YtghbphimkgamkaaGreatDoor
open Go Go.Sep Go.Proofs
set_option maxRecDepth 100000
set_option maxHeartbeats 4000000
def lK (u:ak)(h:List Int):Bool:=(List.range u.aG.length).all fun i=>!cQ u (eX u i (h[i]?.getD 0))
theorem CP {α:Type}{g:Nat->Bool}:∀(l:List α) (i:Nat),fl (fun i _=>if g i then none else some false) i l=if (List.range' i l.length).all g then none else some false
 |[],_=>rfl
 |x::l,i=>by
  unfold fl
  rw[List.length_cons,List.range'_succ,List.all_cons]
  cases h:g i with
  |false=>simp[h]
  |true=>
   simp only[h,if_true,Bool.true_and]
   exact CP l (i+1)
theorem CQ {u:ak}(F:Fit u){h:List Int}(hm:h∈b6 u)(all:List aZ):jN (cR h) ⟨u,all⟩=some (lK u h):=by
 have b:=F.aG;unfold jN
 rw[rq (t:=fun i _=>if !cQ u (eX u i (h[i]?.getD 0)) then none else some false) u.aG 0 false fun j e s he=>by
  rw[Nat.zero_add];have c:j<u.aG.length:=(List.getElem?_eq_some_iff.1 he).1;obtain ⟨m,a,hs,hb⟩:=yt F he hm;have hg:aZ.get (cR h) (j:Int)=some m:=uv (by omega) (by omega) (by simpa using a);unfold tf iI;simp only[hg,ag,dK he,(ru F (s:=⟨e.back,m⟩) hb).1,hs]
  cases cQ u ⟨e.back,m⟩<;>rfl]
 rw[CP (g:=fun i=>!cQ u (eX u i (h[i]?.getD 0)))];simp only[ag];unfold lK;rw[List.range_eq_range'];cases (List.range' 0 u.aG.length).all fun i=>!cQ u (eX u i (h[i]?.getD 0))<;>rfl
def m6 (n m:Nat):Int:=if n=m then 1 else if n=0 then 2 else 0
theorem Jm {k:cO}{f:aZ->Option Bool}{g:aZ->Bool}(e:k.all.length<=1000)(h:∀x,x∈k.all->f x=some (g x)):od k f=some (m6 (k.all.countP g) k.all.length):=by
 have key:=jq (f:=qC f) (ρ:=Int) (g:=fun _ x (n:Int)=>cond (g x) (n+1) n) (I:=fun j n=>0<=n/\n<=j/\j<=k.all.length) k.all 0 0 ⟨by omega,by omega,by omega⟩
  (fun j x n a i=>by
   have m:j<k.all.length:=(List.getElem?_eq_some_iff.1 a).1;refine ⟨?_,by cases g x<;>simp<;>omega⟩;unfold qC;rw[h x (List.mem_of_getElem? a)];simp only[ag];rw[bU (n:=n+1) (by omega)]
   cases g x<;>rfl)
 have b:∀(l:List aZ) (j:Nat) (n:Int),foldI (fun _ x (n:Int)=>cond (g x) (n+1) n) j l n=n+(l.countP g:Nat):=by
  intro l
  induction l with
  |nil=>intro j n;simp[foldI]
  |cons x l ih=>
   intro j n;unfold foldI;rw[ih,List.countP_cons];cases g x<;>simp<;>omega
 rw[b] at key;unfold od;rw[key.1];simp only[ag,ay,Int.zero_add];unfold m6;by_cases c:k.all.countP g=k.all.length
 .rw[if_pos c,show (((k.all.countP g:Nat):Int)==(k.all.length:Int))=true by rw[c];simp];rfl
 .rw[if_neg c,show (((k.all.countP g:Nat):Int)==(k.all.length:Int))=false by simp;omega];simp only[cond_false];by_cases d:k.all.countP g=0
  .rw[if_pos d,d];rfl
  .rw[if_neg d,show (((k.all.countP g:Nat):Int)==0)=false by rw[beq_eq_false_iff_ne];omega];rfl
theorem CR {u:ak}(F:Fit u)(h:e9 u=some 0):kE u=some (if (b6 u).isEmpty then (0,9) else (m6 ((b6 u).countP (lK u)) (b6 u).length,0)):=by
 have c:=(yl F).2;unfold kE;rw[yp F (Jh h)];simp only[ag];cases hs:(b6 u).isEmpty with
 |true=>rfl
 |false=>
  simp only[Bool.false_eq_true,if_false];rw[show ((0:Int) != 0)=false by decide];simp only[cond_false];have key:∀x,x∈(b6 u).map cR->jN x ⟨u,(b6 u).map cR⟩=some ((jN x ⟨u,(b6 u).map cR⟩).getD false):=fun x b=>by
   rw[List.mem_map] at b;obtain ⟨y,a,rfl⟩:=b;rw[CQ F a];rfl
  rw[Jm (k:=⟨u,(b6 u).map cR⟩) (g:=fun x=>(jN x ⟨u,(b6 u).map cR⟩).getD false) (by simp;omega) key];simp only[List.countP_map,List.length_map];have e:(b6 u).countP ((fun x=>(jN x ⟨u,(b6 u).map cR⟩).getD false) ∘ cR)=(b6 u).countP (lK u):=List.countP_congr fun y a=>by
   simp only[Function.comp];rw[CQ F a];rfl
  rw[e]
theorem uy {u:ak}{s:aU}(F:Fit u)(hs:(1<=s.back/\s.back<=20)/\0<=s.high/\s.high<=60):cQ u s=bB u.bf (gX u s):=by
 obtain ⟨r,a,e,b⟩:=x9 F hs;rw[yf F hs] at a;obtain rfl:=Option.some.inj a;have c:Sm u.bf 20 20:=⟨by have:=F.num;omega,by have:=F.den;omega,by have:=F.den;omega⟩
 have d:=q6 c b (by decide) (by decide);unfold cQ ga;rw[yf F hs];simp only[ag,d.2];rfl
structure S9 (u o:ak):Prop where
 bH:o.bH=u.bH
 bP:o.bP=u.bP
 bf:o.bf=u.bf
 props:o.props=u.props
 aG:o.aG=u.aG
 told:o.told=u.told
 dr:∀x,x∈u.props->jk o x.place=jk u x.place
 yu:∀s:aU,(1<=s.back/\s.back<=20)/\0<=s.high/\s.high<=60->(eP o s).2=(eP u s).2
theorem m7 {n a b:Int}(c:a<=n)(d:n<=b):bK n a b=true:=dX.2 ⟨c,d⟩
section
variable {u : ak} {s : aU} (F : Fit u) (h : e9 u = some 0) (hs : (1 ≤ s.back ∧ s.back ≤ 20) ∧ 0 ≤ s.high ∧ s.high ≤ 60)
include F h hs
theorem Jn:fc u [eU s]=some (u,0):=by
 have hb:eU s u=some 0:=by
  rw[IJ,IK];unfold x2;rw[m7 hs.1.1 hs.1.2,m7 hs.2.1 hs.2.2];rfl
 rw[B5 h hb];rfl
theorem Jo:mM u s=some (gX u s,bB u.bf (gX u s),0):=by
 unfold mM;have e1:=(ru F hs).1;rw[uy F hs] at e1;simp only[Jn F h hs,ag,bne_self_eq_false,cond_false,yf F hs,e1]
end
def lM (o:Nat)(S:List Int)(i:Nat):List Int:=(List.replicate o (S.flatMap fun n=>List.replicate i n)).flatten
def oT:List (List Int):=[[0],[0,1],[0,2],[0,1,2]]
def m8:List (Nat×Nat):=[(1,1),(1,2),(1,3),(1,4),(1,6),(1,9),(2,1),(3,1),(4,1),(6,1),(9,1),(2,2),(2,3),(3,2),(3,3)]
def yw (l:List Int):Option (List Int):=ag (qK l) fun x=>tD x.2
def oU (c:Nat):Bool:=m8.all fun p=>oT.all fun S=>yw (lM p.1 (S.map (· +(c:Int))) p.2)==some (S.map (· +(c:Int)))
theorem Jp:∀c:Fin 16,oU c.val=true:=by decide+kernel
theorem Jq:∀c:Fin 16,oU (16+c.val)=true:=by decide+kernel
theorem Jr:∀c:Fin 16,oU (32+c.val)=true:=by decide+kernel
theorem Js:∀c:Fin 13,oU (48+c.val)=true:=by decide+kernel
theorem Jt {c:Nat}(h:c<=60):oU c=true:=by
 rcases Nat.lt_or_ge c 16 with x|x
 .exact Jp ⟨c,x⟩
 rcases Nat.lt_or_ge c 32 with y|y
 .have:=Jq ⟨c - 16,by omega⟩
  rwa [show 16+(c - 16)=c by omega] at this
 rcases Nat.lt_or_ge c 48 with z|z
 .have:=Jr ⟨c - 32,by omega⟩
  rwa [show 32+(c - 32)=c by omega] at this
 .have:=Js ⟨c - 48,by omega⟩
  rwa [show 48+(c - 48)=c by omega] at this
theorem Ju {c:Nat}(h:c<=60){p:Nat×Nat}(a:p∈m8){S:List Int}(b:S∈oT):yw (lM p.1 (S.map (· +(c:Int))) p.2)=some (S.map (· +(c:Int))):=by
 have:=Jt h;unfold oU at this;rw[List.all_eq_true] at this;have:=this p a;rw[List.all_eq_true] at this;simpa using this S b
def oV (u:ak)(i:Nat)(n:Int):Bool:=u.told.all fun t=>t.aY != (i:Int)||(cQ u (eX u i n)==t.bw)
def pL:List (List Int)->List (List Int)
 |[]=>[[]]
 |s::r=>s.flatMap fun n=>(pL r).map (n::·)
def jS (P:Nat->Int->Bool):Nat->List Int->Bool
 |_,[]=>true
 |i,x::r=>P i x&&jS P (i+1) r
def iy (P:Nat->Int->Bool):Nat->List (List Int)->List (List Int)
 |_,[]=>[]
 |i,s::r=>s.filter (P i)::iy P (i+1) r
def kM (u:ak):List (List Int):=iy (oV u) 0 (u.aG.map fun e=>cW e.high)
theorem CS:∀(l:List b9) (p:List Int),eD p l=(pL (l.map fun e=>cW e.high)).map (p++·)
 |[],p=>by simp[eD,pL]
 |e::l,p=>by
  unfold eD
  rw[List.map_cons]
  unfold pL
  rw[List.map_flatMap]
  congr 1
  funext n
  rw[CS l (p++[n]),List.map_map]
  refine List.map_congr_left fun q _=>?_
  simp
theorem CU {α β:Type}(p:α->Bool)(f:α->List β):∀l:List α,(l.filter p).flatMap f=l.flatMap fun x=>if p x then f x else []
 |[]=>rfl
 |x::l=>by
  rw[List.flatMap_cons,<-CU p f l,List.filter_cons]
  cases p x<;>simp
theorem CV (P:Nat->Int->Bool):∀(S:List (List Int)) (i:Nat),(pL S).filter (jS P i)=pL (iy P i S)
 |[],i=>rfl
 |s::r,i=>by
  rw[show iy P i (s::r)=s.filter (P i)::iy P (i+1) r from rfl,show pL (s::r)=s.flatMap fun n=>(pL r).map (n::·) from rfl,
   show pL (s.filter (P i)::iy P (i+1) r)=(s.filter (P i)).flatMap fun n=>(pL (iy P (i+1) r)).map (n::·) from rfl]
  rw[CU,List.filter_flatMap]
  congr 1
  funext n
  rw[List.filter_map]
  cases h:P i n with
  |false=>
   rw[show (jS P i ∘ fun x=>n::x)=fun _=>false by funext q;simp[jS,h]]
   simp
  |true=>
   rw[show (jS P i ∘ fun x=>n::x)=jS P (i+1) by funext q;simp[jS,h],CV P r (i+1)]
   rfl
theorem CW (P:Nat->Int->Bool):∀(h:List Int) (i:Nat),jS P i h=(List.range h.length).all fun j=>P (i+j) (h[j]?.getD 0)
 |[],i=>rfl
 |x::r,i=>by
  unfold jS
  rw[CW P r (i+1),List.length_cons,List.range_succ_eq_map,List.all_cons,List.all_map]
  congr 1
  refine congrArg (fun f=>List.all _ f) ?_
  funext j
  simp only[Function.comp]
  rw[show i+1+j=i+(j+1) by omega]
  rfl
theorem Jv {u:ak}(F:Fit u){h:List Int}(H:oQ u h):fR u h=jS (oV u) 0 h:=by
 rw[CW,Bool.eq_iff_iff];unfold fR;rw[List.all_eq_true,List.all_eq_true];constructor
 .intro a j d;rw[Nat.zero_add];unfold oV;rw[List.all_eq_true];intro t ht;by_cases c:t.aY=(j:Int)
  .have:=a t ht;unfold kK at this;rw[c,Int.toNat_natCast] at this;rw[this,Bool.or_true]
  .rw[show (t.aY != (j:Int))=true by simpa using c,Bool.true_or]
 .intro a t ht;obtain ⟨k,b⟩:=List.mem_iff_getElem?.1 ht;obtain ⟨e,b2⟩:=F.q3 k t b;have f:=H.len;have:=a t.aY.toNat (by rw[List.mem_range];omega);rw[Nat.zero_add] at this;unfold oV at this;rw[List.all_eq_true] at this;have:=this t ht;rw[show (t.aY != (t.aY.toNat:Int))=false by rw[bne_eq_false_iff_eq];omega,Bool.false_or] at this;exact this
theorem yx {u:ak}(F:Fit u):b6 u=pL (kM u):=by
 unfold b6 kM;rw[<-CV];have e:eD [] u.aG=pL (u.aG.map fun e=>cW e.high):=by rw[CS];simp
 rw[<-e];refine List.filter_congr fun h hm=>?_;exact Jv F (yj hm)
theorem CX:∀S:List (List Int),(pL S).length=(S.map List.length).foldr (· *·) 1
 |[]=>rfl
 |s::r=>by
  unfold pL
  rw[List.length_flatMap,List.map_cons,List.foldr_cons,<-CX r]
  simp only[List.length_map]
  rw[List.map_const',List.sum_replicate_nat]
theorem CZ {α:Type}(x:List α)(m:Nat):∀o:Nat,(List.replicate o (List.replicate m x).flatten).flatten=(List.replicate (o*m) x).flatten
 |0=>by simp
 |o+1=>by
  rw[List.replicate_succ,List.flatten_cons,CZ x m o,<-List.flatten_append,List.replicate_append_replicate]
  congr 2
  rw[Nat.add_mul];omega
theorem C0 {α β:Type}(x:List β):∀l:List α,l.flatMap (fun _=>x)=(List.replicate l.length x).flatten
 |[]=>rfl
 |a::l=>by rw[List.flatMap_cons,C0 x l,List.length_cons,List.replicate_succ,List.flatten_cons]
theorem C1:∀(S:List (List Int)) (i:Nat) (s:List Int),S[i]?=some s->(pL S).map (fun h=>h[i]?.getD 0)=lM (((S.take i).map List.length).foldr (· *·) 1) s (((S.drop (i+1)).map List.length).foldr (· *·) 1)
 |[],i,s,h=>by simp at h
 |a::r,0,s,h=>by
  have h:a=s:=by simpa using h
  subst h
  unfold pL lM
  rw[List.map_flatMap]
  simp only[List.take_zero,List.map_nil,List.foldr_nil,List.replicate_one,List.flatten_cons,List.flatten_nil,List.append_nil,Nat.zero_add,List.drop_succ_cons,List.drop_zero]
  rw[<-CX]
  congr 1
  funext n
  rw[List.map_map,show ((fun h:List Int=>h[0]?.getD 0) ∘ fun x=>n::x)=fun _=>n from rfl,List.map_const']
 |a::r,i+1,s,h=>by
  have h:r[i]?=some s:=by simpa using h
  have ih:=C1 r i s h
  unfold pL
  rw[List.map_flatMap]
  have e:(fun n:Int=>List.map (fun h:List Int=>h[i+1]?.getD 0) (List.map (fun x=>n::x) (pL r)))=fun _=>(pL r).map fun h=>h[i]?.getD 0:=by
   funext n
   rw[List.map_map]
   rfl
  rw[e,ih,C0]
  unfold lM
  rw[CZ]
  congr 2
end Go.Proofs.YtghbphimkgamkaaGreatDoor
end
section
namespace Go.Proofs.YtghbphimkgamkaaGreatDoor
open Go Go.Sep Go.Proofs
set_option maxRecDepth 100000
set_option maxHeartbeats 4000000
set_option linter.all false
theorem C2 (P:Nat->Int->Bool):∀(S:List (List Int)) (i j:Nat),(iy P i S)[j]?=S[j]?.map (List.filter (P (i+j)))
 |[],i,j=>by simp[iy]
 |s::r,i,0=>by simp[iy]
 |s::r,i,j+1=>by
  have:=C2 P r (i+1) j
  rw[show i+1+j=i+(j+1) by omega] at this
  simpa [iy] using this
theorem C3 (P:Nat->Int->Bool):∀(S:List (List Int)) (i:Nat),(iy P i S).length=S.length
 |[],i=>rfl
 |s::r,i=>by simp[iy,C3 P r (i+1)]
def dg (u:ak)(i:Nat)(e:b9):List Int:=(cW e.high).filter (oV u i)
theorem uz {u:ak}{i:Nat}{e:b9}(he:u.aG[i]?=some e):(kM u)[i]?=some (dg u i e):=by
 unfold kM;rw[C2,List.getElem?_map,he];simp[dg]
theorem uA (u:ak):(kM u).length=u.aG.length:=by unfold kM;rw[C3,List.length_map]
theorem Jw (P:Int->Bool){b:de}(f:0<=b.low)(g:b.low<=b.high)(i:b.high<=60)(j:b.high - b.low<3):
  (cW b).filter P=[]\/∃(c:Nat) (T:List Int),c<=60/\T∈oT/\(cW b).filter P=T.map (· +(c:Int)):=by
 obtain ⟨c,d⟩:∃c:Nat,b.low=(c:Int):=⟨b.low.toNat,by omega⟩
 rcases (show b.high=c\/b.high=c+1\/b.high=c+2 by omega) with h|h|h
 .have e:cW b=[(c:Int)]:=by unfold cW;rw[h,d,show ((c:Int) - c+1).toNat=1 by omega];simp[List.range,List.range.loop]
  rw[e]
  cases p0:P c
  .left;simp[List.filter,p0]
  .right;exact ⟨c,[0],by omega,by decide,by simp[List.filter,p0]⟩
 .have e:cW b=[(c:Int),c+1]:=by unfold cW;rw[h,d,show ((c:Int)+1 - c+1).toNat=2 by omega];simp[List.range,List.range.loop]
  rw[e]
  cases p0:P c<;>cases a:P (c+1)
  .left;simp[List.filter,p0,a]
  .right;exact ⟨c+1,[0],by omega,by decide,by simp[List.filter,p0,a]⟩
  .right;exact ⟨c,[0],by omega,by decide,by simp[List.filter,p0,a]⟩
  .right;exact ⟨c,[0,1],by omega,by decide,by simp[List.filter,p0,a];omega⟩
 .have e:cW b=[(c:Int),c+1,c+2]:=by unfold cW;rw[h,d,show ((c:Int)+2 - c+1).toNat=3 by omega];simp[List.range,List.range.loop]
  rw[e]
  cases p0:P c<;>cases a:P (c+1)<;>cases p2:P (c+2)
  .left;simp[List.filter,p0,a,p2]
  .right;exact ⟨c+2,[0],by omega,by decide,by simp[List.filter,p0,a,p2]⟩
  .right;exact ⟨c+1,[0],by omega,by decide,by simp[List.filter,p0,a,p2]⟩
  .right;exact ⟨c+1,[0,1],by omega,by decide,by simp[List.filter,p0,a,p2];omega⟩
  .right;exact ⟨c,[0],by omega,by decide,by simp[List.filter,p0,a,p2]⟩
  .right;exact ⟨c,[0,2],by omega,by decide,by simp[List.filter,p0,a,p2];omega⟩
  .right;exact ⟨c,[0,1],by omega,by decide,by simp[List.filter,p0,a,p2];omega⟩
  .right;exact ⟨c,[0,1,2],by omega,by decide,by simp[List.filter,p0,a,p2];omega⟩
theorem C4:∀{S:List (List Int)},pL S≠[]->∀s,s∈S->s≠[]
 |[],_,s,h=>by simp at h
 |a::r,b,s,h=>by
  have e:pL (a::r)=a.flatMap fun n=>(pL r).map (n::·):=rfl
  rcases List.mem_cons.1 h with rfl|h
  .intro he;rw[e,he] at b;exact b rfl
  .refine C4 (S:=r) (fun he=>?_) s h
   rw[e,he] at b
   exact b (by simp)
theorem Jx {o k:Nat}(d:1<=o)(e:1<=k){s:List Int}{n:Int}:n∈lM o s k↔n∈s:=by
 unfold lM;rw[List.mem_flatten];constructor
 .rintro ⟨l,b,a⟩;rw[List.mem_replicate] at b;rw[b.2,List.mem_flatMap] at a;obtain ⟨m,hm,c⟩:=a;rw[(List.mem_replicate.1 c).2];exact hm
 .intro a;exact ⟨_,List.mem_replicate.2 ⟨by omega,rfl⟩,List.mem_flatMap.2 ⟨n,a,List.mem_replicate.2 ⟨by omega,rfl⟩⟩⟩
def m9 (l:List Nat):Nat:=l.foldr (· *·) 1
theorem Jy {L:List Nat}(d:L.length<=3)(h:∀x,x∈L->1<=x/\x<=3){i:Nat}(hi:i<L.length):(m9 (L.take i),m9 (L.drop (i+1)))∈m8:=by
 match L,d,h,hi with
 |[a],_,h,hi=>
  obtain rfl:i=0:=by simpa using hi
  show (1,1)∈m8;decide
 |[a,b],_,h,hi=>
  have e:=h a (by simp);have hb:=h b (by simp);rcases (show a=1\/a=2\/a=3 by omega) with rfl|rfl|rfl<;>rcases (show b=1\/b=2\/b=3 by omega) with rfl|rfl|rfl<;>rcases (show i=0\/i=1 by simp at hi;omega) with rfl|rfl<;>decide
 |[a,b,c],_,h,hi=>
  have e:=h a (by simp);have hb:=h b (by simp);have f:=h c (by simp);rcases (show a=1\/a=2\/a=3 by omega) with rfl|rfl|rfl<;>rcases (show b=1\/b=2\/b=3 by omega) with rfl|rfl|rfl<;>rcases (show c=1\/c=2\/c=3 by omega) with rfl|rfl|rfl<;>rcases (show i=0\/i=1\/i=2 by simp at hi;omega) with rfl|rfl|rfl<;>decide
theorem yy {α β:Type}(f:α->β):∀l:List α,(l.flatMap fun x=>[f x])=l.map f
 |[]=>rfl
 |a::l=>by rw[List.flatMap_cons,yy f l];rfl
theorem C5 {T:List Int}(h:T∈oT):1<=T.length/\T.length<=3:=by
 unfold oT at h;simp only[List.mem_cons,List.not_mem_nil,or_false] at h;rcases h with rfl|rfl|rfl|rfl<;>decide
variable {u : ak} (F : Fit u) (aD : b6 u ≠ []) {i : Nat} {e : b9} (he : u.aG[i]? = some e)
include F aD he
theorem yz:∃(c:Nat) (T:List Int),c<=60/\T∈oT/\dg u i e=T.map (· +(c:Int)):=by
 obtain ⟨c1,c2,c3,c4,a⟩:=F.aY _ _ he;rcases Jw (oV u i) (b:=e.high) c2 c3 c4 a with h|h
 .rw[yx F] at aD;exact absurd h (C4 aD _ (List.mem_of_getElem? (uz he)))
 .exact h
theorem C6:∃p,p∈m8/\1<=p.1/\1<=p.2/\(b6 u).map (fun h=>h[i]?.getD 0)=lM p.1 (dg u i e) p.2:=by
 have hi:i<u.aG.length:=(List.getElem?_eq_some_iff.1 he).1;have o:=F.aG;have m:∀x,x∈(kM u).map List.length->1<=x/\x<=3:=fun x f=>by
  rw[List.mem_map] at f;obtain ⟨s,hs,rfl⟩:=f;obtain ⟨j,g⟩:=List.mem_iff_getElem?.1 hs;have k:j<u.aG.length:=by rw[<-uA u];exact (List.getElem?_eq_some_iff.1 g).1
  have l:=uz (u:=u) (List.getElem?_eq_getElem k);rw[g] at l;obtain ⟨c,T,-,n,e2⟩:=yz F aD (List.getElem?_eq_getElem k);rw[Option.some.inj l,e2,List.length_map];exact C5 n
 have d:=Jy (L:=(kM u).map List.length) (by simp[uA];omega) m (i:=i) (by simp[uA];omega);refine ⟨_,d,?_,?_,?_⟩
 .revert d;generalize m9 _=a;generalize m9 _=b;intro d;have:∀q,q∈m8->1<=q.1:=by decide
  exact this _ d
 .revert d;generalize m9 _=a;generalize m9 _=b;intro d;have:∀q,q∈m8->1<=q.2:=by decide
  exact this _ d
 .rw[yx F,C1 _ i _ (uz he)];unfold m9;rw[List.map_take,List.map_drop]
theorem yA {n:Int}:n∈dg u i e↔∃h,h∈b6 u/\h[i]?=some n:=by
 obtain ⟨p,f,a,p2,b⟩:=C6 F aD he;rw[<-Jx a p2,<-b,List.mem_map];constructor
 .rintro ⟨h,hm,rfl⟩;obtain ⟨m,c,_⟩:=(rz hm).1.oR i e he;exact ⟨h,hm,by rw[c];rfl⟩
 .rintro ⟨h,hm,d⟩;exact ⟨h,hm,by rw[d];rfl⟩
theorem Jz:bD (ow (i:Int)) 0 ((b6 u).map cR) []=some (.nx ((b6 u).map fun h=>h[i]?.getD 0)):=by
 have hi:i<u.aG.length:=(List.getElem?_eq_some_iff.1 he).1;have d:=F.aG;have e:=(yl F).2;have key:=jq (f:=ow (i:Int)) (g:=fun _ x (s:List Int)=>s++[(aZ.get x (i:Int)).getD 0]) (I:=fun j s=>s.length<=j/\j<=(b6 u).length) ((b6 u).map cR) 0 [] ⟨by simp,by omega⟩
  (fun j x s a k=>by
   rw[List.getElem?_map,Option.map_eq_some_iff] at a;obtain ⟨h,b,rfl⟩:=a;have l:j<(b6 u).length:=(List.getElem?_eq_some_iff.1 b).1;obtain ⟨m,hm,hs,hb⟩:=yt F he (List.mem_of_getElem? b);have hg:aZ.get (cR h) (i:Int)=some m:=uv (by omega) (by omega) (by simpa using hm);refine ⟨?_,?_⟩
   .unfold ow;simp only[hg,ag,Option.getD_some];unfold cL;rw[if_pos (by simp;omega)]
   .simp only[List.length_append,List.length_singleton];omega)
 rw[key.1,CN];congr 2;have e1:foldI (fun n x s=>s++[((cR x).get (i:Int)).getD 0]) 0 (b6 u) []=foldI (fun _ x (s:List Int)=>s++(fun x:List Int=>[x[i]?.getD 0]) x) 0 (b6 u) []:=by
  refine CO _ _ _ fun j h s hm=>?_;obtain ⟨m,c,hs,hb⟩:=yt F he hm;have hg:aZ.get (cR h) (i:Int)=some m:=uv (by omega) (by omega) (by simpa using c);rw[hg];show _=s++[h[i]?.getD 0];rw[c]
 rw[e1,ry,List.nil_append];exact yy _ _
theorem C7:lC ⟨u,(b6 u).map cR⟩ (i:Int)=some (dg u i e):=by
 obtain ⟨p,a,j,p2,b⟩:=C6 F aD he;obtain ⟨c,T,d,f,g⟩:=yz F aD he;have hs:=Ju d a f;rw[<-g,<-b] at hs;unfold lC;rw[Jz F aD he];unfold yw at hs;simp only[ag,ay] at hs ⊢;cases h:qK ((b6 u).map fun h=>h[i]?.getD 0) with
 |none=>rw[h] at hs;cases hs
 |some x=>
  rw[h] at hs;simp only at hs ⊢;rw[hs]
end Go.Proofs.YtghbphimkgamkaaGreatDoor
end
section
namespace Go.Proofs.YtghbphimkgamkaaGreatDoor
open Go Go.Sep Go.Proofs
set_option maxRecDepth 100000
set_option maxHeartbeats 4000000
theorem C8 {α σ τ ρ:Type}{f:τ->Option (Fl τ ρ)}{I:Nat->σ->Prop}(e:σ->Int->τ)(l:List α)(h:∀(i:Nat) x s,l[i]?=some x->I i s->∃s',f (e s (i:Int))=some (.nx (e s' ((i+1:Nat):Int)))/\I (i+1) s')(a:∀s,f (e s (l.length:Int))=some (.bk (e s (l.length:Int)))):
  ∀(k i n:Nat) (s:σ),I i s->i+k=l.length->k<n->∃s',aQ f n (e s (i:Int))=some (.nx (e s' (l.length:Int)))/\I l.length s'
 |0,i,n+1,s,hs,hi,_=>by
  obtain rfl:i=l.length:=by omega
  unfold aQ
  rw[a]
  exact ⟨s,rfl,hs⟩
 |k+1,i,n+1,s,hs,hi,j=>by
  have b:i<l.length:=by omega
  have c:l[i]?=some l[i]:=List.getElem?_eq_getElem b
  obtain ⟨s1,d,g⟩:=h i _ s c hs
  unfold aQ
  rw[d]
  exact C8 e l h a k (i+1) n _ g (by omega) (by omega)
theorem rA {α σ τ ρ:Type}{f:τ->Option (Fl τ ρ)}(I:Nat->σ->Prop)(e:σ->Int->τ)(l:List α)(a:l.length<=1000)(h:∀(i:Nat) x s,l[i]?=some x->I i s->∃s',f (e s (i:Int))=some (.nx (e s' ((i+1:Nat):Int)))/\I (i+1) s')(b:∀s,f (e s (l.length:Int))=some (.bk (e s (l.length:Int))))(s:σ)(hs:I 0 s):
  ∃s',aQ f fu (e s 0)=some (.nx (e s' (l.length:Int)))/\I l.length s':=
 C8 e l h b l.length 0 fu s hs (by omega) (Nat.lt_of_le_of_lt a (by decide))
end Go.Proofs.YtghbphimkgamkaaGreatDoor
end

/- A part of the proof of a row and its tied card: QI5. -/
import Derived.Test.YtpgcmoanfifglaaGreatDoorQI4
set_option linter.all false
section
namespace Go.Proofs.YtpgcmoanfifglaaGreatDoor
open Go Go.Sep Go.Proofs
set_option maxRecDepth 100000
set_option maxHeartbeats 4000000
def s5 (u0:aj)(c:bf)(st:(Int×Int×an)):Option (Fl (Int×Int×an) (Int×an)):=
 cond (decide (st.2.1<(u0.ax.length:Int))) (ag (aY u0.ax st.2.1) fun b=>ag (mR u0 c b.aL (⟨b.high,1⟩:an)) fun a=>cond ((st.2.1==0)) (some (.nx (st.2.1,(IntKind.i64.wrap (st.2.1+1)),a))) (ag (lD st.2.2 a) fun d=>cond (d) (some (.nx (st.2.1,(IntKind.i64.wrap (st.2.1+1)),a))) (some (.nx (st.1,(IntKind.i64.wrap (st.2.1+1)),st.2.2))))) (some (.bk (st.1,st.2.1,st.2.2)))
def s6 (u0:aj)(b:bf):Option (Int×an):=
 ag (aU (s5 u0 b) fu (0,0,(⟨0,0⟩:an))) fun o=>aD o (fun a=>some (a.1,a.2.2)) (fun _ _=>none) (fun r=>some r)
def s7 (u0:aj)(c:Int)(st:Int):Option (Fl Int an):=
 cond (decide ((IntKind.i64.wrap (st+1))<(u0.ax.length:Int))) (ag (aY u0.ax st) fun a=>ag (aY u0.ax (IntKind.i64.wrap (st+1))) fun b=>cond (decide (c<=b.aL)) (ag (iz (IntKind.i64.wrap ((IntKind.i64.wrap (a.high*(IntKind.i64.wrap (b.aL - a.aL))))+(IntKind.i64.wrap ((IntKind.i64.wrap (b.high - a.high))*(IntKind.i64.wrap (c - a.aL)))))) (IntKind.i64.wrap (b.aL - a.aL))) fun d=>some (.rt d)) (some (.nx (IntKind.i64.wrap (st+1))))) (some (.bk st))
def qo (u0:aj)(a:Int):Option an:=
 ag (aU (s7 u0 a) fu 0) fun o=>aD o (fun b=>some (⟨0,0⟩:an)) (fun _ _=>none) (fun r=>some r)
def s8 (u0:aj)(a:bf):Option an:=
 ag (s6 u0 a) fun b=>ag (jJ (⟨u0.bK,1⟩:an) b.2) fun c=>some c
def s9 (u0:aj)(d:bf)(st:(Int×an)):Option (Fl (Int×an) (an×Bool)):=
 cond (decide (st.1<(u0.props.length:Int))) (ag (aY u0.props st.1) fun a=>ag (qo u0 a.place) fun b=>ag (iz (IntKind.i64.wrap (b.num+(IntKind.i64.wrap (a.de*b.den)))) b.den) fun e=>ag (mR u0 d a.place e) fun c=>cond ((st.1==0)) (ag (fR c c) fun f=>some (.nx ((IntKind.i64.wrap (st.1+1)),f))) (ag (fR st.2 c) fun g=>some (.nx ((IntKind.i64.wrap (st.1+1)),g)))) (some (.bk (st.1,st.2)))
def lF (u0:aj)(a:bf):Option (an×Bool):=
 ag (aU (s9 u0 a) fu (0,(⟨0,0⟩:an))) fun o=>aD o (fun b=>some (b.2,decide (0<(u0.props.length:Int)))) (fun _ _=>none) (fun r=>some r)
def qp (u0:aj)(b:bf):Option an:=
 ag (s6 u0 b) fun a=>ag (lD a.2 (⟨u0.bK,1⟩:an)) fun e=>cond (e) (ag (lF u0 b) fun c=>cond (c.2) (ag (fR a.2 c.1) fun f=>ag (jJ (⟨u0.bK,1⟩:an) f) fun g=>ag (fR g (⟨0,1⟩:an)) fun h=>some h) (ag (jJ (⟨u0.bK,1⟩:an) a.2) fun i=>ag (fR i (⟨0,1⟩:an)) fun j=>some j)) (ag (lF u0 b) fun d=>cond (d.2) (ag (fR (⟨u0.bK,1⟩:an) d.1) fun k=>ag (jJ a.2 k) fun l=>ag (fR l (⟨0,1⟩:an)) fun m=>some m) (ag (jJ a.2 (⟨u0.bK,1⟩:an)) fun n=>ag (fR n (⟨0,1⟩:an)) fun o=>some o))
def ta (u0:aj)(a:bf):Option Bool:=
 ag (qp u0 a) fun b=>ag (lD u0.aS b) fun c=>some c
def xI (u0:aj)(b:(List Int))(st:(Bool×Int)):Option (Fl (Bool×Int) Bool):=
 cond (decide (st.2<(u0.told.length:Int))) (ag (aY u0.told st.2) fun a=>ag (aY b a.aQ) fun c=>ag (Bg u0 a.aQ c) fun d=>ag (ta u0 d) fun e=>cond (!(e==a.bt)) (some (.rt false)) (some (.nx (st.1,(IntKind.i64.wrap (st.2+1)))))) (some (.bk (st.1,st.2)))
def xJ (u0:aj)(a:(List Int)):Option Bool:=
 ag (aU (xI u0 a) fu (false,0)) fun o=>aD o (fun b=>some true) (fun _ _=>none) (fun r=>some r)
def dx {α:Type}(t:Nat->α->Option Int):Nat->List α->Option Int
 |_,[]=>none
 |i,x::l=>match t i x with
  |some r=>some r
  |none=>dx t (i+1) l
def g5 {σ:Type}(o:Option Int)(s:σ):Fl σ Int:=match o with
 |some r=>.rt r
 |none=>.nx s
theorem qq {α σ:Type}{f:Nat->α->σ->Option (Fl σ Int)}{t:Nat->α->Option Int}:∀(l:List α) (i:Nat) (s:σ),(∀j x s,l[j]?=some x->f (i+j) x s=some (g5 (t (i+j) x) s))->bJ f i l s=some (g5 (dx t i l) s)
 |[],i,s,_=>rfl
 |x::l,i,s,h=>by
  have a:=h 0 x s rfl
  simp only[Nat.add_zero] at a
  unfold bJ dx
  rw[a]
  cases ht:t i x with
  |some r=>rfl
  |none=>
   show bJ f (i+1) l s=_
   exact qq l (i+1) s fun j y s b=>by
    have:=h (j+1) y s (by simpa using b)
    rwa [show i+(j+1)=i+1+j by omega] at this
theorem Bo {α σ:Type}{f:σ×Int->Option (Fl (σ×Int) Int)}{t:Nat->α->Option Int}(l:List α)(h:∀(i:Nat) x s,l[i]?=some x->f (s,(i:Int))=some (g5 (t i x) (s,((i+1:Nat):Int))))(a:∀s,f (s,(l.length:Int))=some (.bk (s,(l.length:Int)))):
  ∀(k i n:Nat) (s:σ),i+k=l.length->k<n->aU f n (s,(i:Int))=some (g5 (dx t i (l.drop i)) (s,(l.length:Int)))
 |0,i,n+1,s,hi,_=>by
  obtain rfl:i=l.length:=by omega
  unfold aU
  rw[a,List.drop_length]
  rfl
 |k+1,i,n+1,s,hi,d=>by
  have b:i<l.length:=by omega
  have c:l[i]?=some l[i]:=List.getElem?_eq_getElem b
  unfold aU
  rw[h i _ s c,List.drop_eq_getElem_cons b]
  unfold dx
  cases ht:t i l[i] with
  |some r=>rfl
  |none=>exact Bo l h a k (i+1) n s (by omega) (by omega)
theorem tc {α σ:Type}{f:σ×Int->Option (Fl (σ×Int) Int)}{t:Nat->α->Option Int}(l:List α)(a:l.length<=1000)(h:∀(i:Nat) x s,l[i]?=some x->f (s,(i:Int))=some (g5 (t i x) (s,((i+1:Nat):Int))))(b:∀s,f (s,(l.length:Int))=some (.bk (s,(l.length:Int))))(s:σ):
  aU f fu (s,0)=some (g5 (dx t 0 l) (s,(l.length:Int))):=by
 have:=Bo l h b l.length 0 fu s (by omega) (Nat.lt_of_le_of_lt a (by decide))
 simpa using this
theorem kC:fF=eB:=rfl
theorem Bp:pU=lE:=rfl
def bM (a lo hi:Int):Bool:=decide (lo<=a)&&decide (a<=hi)
theorem eW (a lo hi:Int):eB a lo hi=some (bM a lo hi):=by
 unfold eB bM;cases decide (lo<=a)<;>rfl
def gm (b:cC)(lo hi:Int):Bool:=decide (lo<=b.low)&&(decide (b.low<=b.high)&&decide (b.high<=hi))
theorem td (b:cC)(lo hi:Int):lE b lo hi=some (gm b lo hi):=by
 unfold lE gm;cases decide (lo<=b.low)<;>cases decide (b.low<=b.high)<;>rfl
theorem cI {n:Int}(h: -9223372036854775808<=n/\n<9223372036854775808):IntKind.i64.wrap n=n:=IntWalk.i64_in _ (by constructor<;>omega)
def gq (u:aj)(i:Nat)(x:bX):Option Int:=
 cond (bM x.aL 0 (IntKind.i64.wrap (u.bH - 1))) (cond (bM x.high 0 60) (match i with
  |0=>none
  |j+1=>match u.ax[j]? with
   |some y=>cond (decide (x.aL<=y.aL)) (some 7) none
   |none=>none) (some 1)) (some 1)
theorem xK (u:aj)(g:u.ax.length<=20):k9 u=some (cond (bM u.ax.length 2 5) ((dx (gq u) 0 u.ax).getD 0) 2)/\mW u=k9 u:=by
 have key:k9 u=some (cond (bM u.ax.length 2 5) ((dx (gq u) 0 u.ax).getD 0) 2):=by
  unfold k9;rw[kC,eW];show cond (!bM (u.ax.length:Int) 2 5) _ _=_;cases bM (u.ax.length:Int) 2 5 with
  |false=>rfl
  |true=>
   show ag (bJ _ 0 u.ax 0) _=_;rw[qq (t:=gq u) u.ax 0 0 ?_]
   ·show aD (g5 _ _) _ _ _=_;cases dx (gq u) 0 u.ax<;>rfl
   ·intro j x s b;rw[Nat.zero_add];unfold su gq;rw[kC,eW,eW];show cond (!bM x.aL 0 _) _ _=_;cases bM x.aL 0 (IntKind.i64.wrap (u.bH - 1)) with
    |false=>rfl
    |true=>
     show cond (!bM x.high 0 60) _ _=_;cases bM x.high 0 60 with
     |false=>rfl
     |true=>
      cases j with
      |zero=>rfl
      |succ j=>
       have d:=(List.getElem?_eq_some_iff.1 b).1;have a:u.ax[j]?=some u.ax[j]:=List.getElem?_eq_getElem (by omega);have hw:IntKind.i64.wrap (((j+1:Nat):Int) - 1)=(j:Int):=by rw[cI (by omega)];omega
       have hd:decide (0<((j+1:Nat):Int))=true:=decide_eq_true (by omega);show cond (decide (0<((j+1:Nat):Int))) _ _=_;rw[hd,hw];have hi:aY u.ax (j:Int)=some u.ax[j]:=by unfold aY;rw[if_pos (by omega),Int.toNat_natCast,a]
       show ag (aY u.ax (j:Int)) _=_;rw[hi];simp only[a];show cond (decide (x.aL<=u.ax[j].aL)) _ _=_;cases decide (x.aL<=u.ax[j].aL)<;>rfl
 refine ⟨key,?_⟩;rw[key];unfold mW;rw[eW];show cond (!bM (u.ax.length:Int) 2 5) _ _=_;cases bM (u.ax.length:Int) 2 5 with
 |false=>rfl
 |true=>
  show ag (aU _ fu (0,0)) _=_;rw[tc (t:=gq u) u.ax (by omega) ?_ ?_ 0]
  ·show aD (g5 _ _) _ _ _=_;cases dx (gq u) 0 u.ax<;>rfl
  ·intro j x s b;unfold qk gq;have d:=(List.getElem?_eq_some_iff.1 b).1;have c:decide ((j:Int)<(u.ax.length:Int))=true:=decide_eq_true (by omega);have e:aY u.ax (j:Int)=some x:=by unfold aY;rw[if_pos (by omega),Int.toNat_natCast,b]
   have f:IntKind.i64.wrap ((j:Int)+1)=((j+1:Nat):Int):=by rw[cI (by omega)];omega
   show cond (decide ((j:Int)<(u.ax.length:Int))) (ag (aY u.ax (j:Int)) _) _=_;rw[c,e,cond_true];show ag (eB x.aL 0 (IntKind.i64.wrap (u.bH - 1))) _=_;rw[eW];show cond (!bM x.aL 0 _) _ (ag (eB x.high 0 60) _)=_;rw[eW];cases bM x.aL 0 (IntKind.i64.wrap (u.bH - 1)) with
   |false=>rfl
   |true=>
    show cond (!bM x.high 0 60) _ _=_;cases bM x.high 0 60 with
    |false=>rfl
    |true=>
     cases j with
     |zero=>rfl
     |succ j=>
      have a:u.ax[j]?=some u.ax[j]:=List.getElem?_eq_getElem (by omega);have hw:IntKind.i64.wrap (((j+1:Nat):Int) - 1)=(j:Int):=by rw[cI (by omega)];omega
      have hd:decide (0<((j+1:Nat):Int))=true:=decide_eq_true (by omega);have hi:aY u.ax (j:Int)=some u.ax[j]:=by unfold aY;rw[if_pos (by omega),Int.toNat_natCast,a]
      dsimp only;simp only[hd,hw,hi,f,a,ag,cond_true,Bool.not_true,cond_false];cases decide (x.aL<=u.ax[j].aL)<;>rfl
  ·intro s;unfold qk;have c:decide ((u.ax.length:Int)<(u.ax.length:Int))=false:=decide_eq_false (by omega);show cond (decide ((u.ax.length:Int)<(u.ax.length:Int))) _ _=_;rw[c];rfl
theorem Bq {ρ:Type}{f:Int×Int->Option (Fl (Int×Int) ρ)}(d:∀a b:Nat,a<9223372036854775808->b<9223372036854775808->b≠0->f ((a:Int),(b:Int))=some (.nx ((b:Int),((a % b:Nat):Int))))(e:∀a:Nat,f ((a:Int),0)=some (.bk ((a:Int),0))):
  ∀(b a k:Nat),a<9223372036854775808->b<9223372036854775808->b<k->aU f k ((a:Int),(b:Int))=some (.nx (((Nat.gcd a b:Nat):Int),0)):=by
 intro b
 induction b using Nat.strongRecOn with
 |ind b ih=>
  intro a k g hb h
  obtain ⟨k,rfl⟩:∃m,k=m+1:=⟨k - 1,by omega⟩
  unfold aU
  by_cases c:b=0
  ·subst c
   have:=e a
   rw[show ((0:Nat):Int)=0 from rfl,this,Nat.gcd_zero_right]
   rfl
  ·rw[d a b g hb c]
   show aU f k ((b:Int),((a % b:Nat):Int))=_
   have hm:a % b<b:=Nat.mod_lt _ (by omega)
   rw[ih (a % b) hm b k hb (by omega) (by omega),Nat.gcd_comm a b,Nat.gcd_rec b a,Nat.gcd_comm]
theorem Br (a b:Nat)(d:a<9223372036854775808)(hb:b<9223372036854775808)(h:b≠0):gP (a:Int) (b:Int)=some ((a % b:Nat):Int):=by
 unfold gP;have c:¬(b:Int)=0:=by omega
 rw[if_neg c];have e:((a:Int).tmod (b:Int))=((a % b:Nat):Int):=by
  rw[Int.tmod_eq_emod_of_nonneg (by omega)];rfl
 rw[e]
theorem HO (a k:Nat)(b:Nat)(c:a<9223372036854775808)(hb:b<9223372036854775808)(d:b<k):aU pV k ((a:Int),(b:Int))=some (.nx (((Nat.gcd a b:Nat):Int),0)):=by
 refine Bq (fun a b c hb e=>?_) (fun a=>rfl) b a k c hb d;unfold pV;have:(((b:Nat):Int) != 0)=true:=by simp;omega
 dsimp only;rw[this,Br a b c hb e];rfl
theorem HP (a k:Nat)(b:Nat)(c:a<9223372036854775808)(hb:b<9223372036854775808)(d:b<k):aU og k ((a:Int),(b:Int))=some (.nx (((Nat.gcd a b:Nat):Int),0)):=by
 refine Bq (fun a b c hb e=>?_) (fun a=>rfl) b a k c hb d;unfold og;have:decide (0<((b:Nat):Int))=true:=decide_eq_true (by omega);dsimp only;rw[this,Br a b c hb e];rfl
def bI (n:Int)(d:Nat):an:=⟨n.tdiv (Nat.gcd n.natAbs d:Nat),(d:Int).tdiv (Nat.gcd n.natAbs d:Nat)⟩
theorem tf (a b:Int)(hb:0<b)(c: -9000000000000000000<=a/\a<=9000000000000000000):fC a b=some (a.tdiv b):=by
 unfold fC;rw[if_neg (by omega)];congr 1;have d:(a.tdiv b).natAbs<=a.natAbs:=by rw[Int.natAbs_tdiv];exact Nat.div_le_self _ _
 exact cI (by omega)
theorem Bs (n:Int)(h: -9000000000000000000<=n/\n<=9000000000000000000):(if n<IntKind.i64.wrap (0 - n) then IntKind.i64.wrap (0 - n) else n)=(n.natAbs:Int):=by
 rw[cI (by omega)];split<;>omega
theorem qs (n:Int)(d:Nat)(a: -9000000000000000000<=n/\n<=9000000000000000000)(hd:0<d)(b:d<900000000000000000):ki n d=some (bI n d):=by
 unfold ki;rw[Bs n a,HO n.natAbs fu d (by omega) (by omega) (Nat.lt_trans b (by decide))];have hg:0<Nat.gcd n.natAbs d:=Nat.gcd_pos_of_pos_right _ hd;show ag (fC n _) (fun x=>ag (fC d _) fun y=>_)=_;rw[tf n _ (by omega) a,tf d _ (by omega) (by omega)];rfl
theorem qt (n:Int)(d:Nat)(a: -9000000000000000000<=n/\n<=9000000000000000000)(hd:0<d)(b:d<900000000000000000):iz n d=some (bI n d):=by
 unfold iz;have:decide ((d:Int)<0)=false:=decide_eq_false (by omega);rw[this];show ag (aU og fu _) _=_;rw[Bs n a,HP n.natAbs fu d (by omega) (by omega) (Nat.lt_trans b (by decide))];have hg:0<Nat.gcd n.natAbs d:=Nat.gcd_pos_of_pos_right _ hd;show ag (fC n _) (fun x=>ag (fC d _) fun y=>_)=_;rw[tf n _ (by omega) a,tf d _ (by omega) (by omega)];rfl
def g6 (u:aj)(f:Int->Bool)(_:Nat)(x:cc):Option Int:=cond (f x.place) (cond (bM x.de 1 20) none (some 1)) (some 6)
def g7 (_:Nat)(x:bO):Option Int:=cond (bM x.back 1 20) (cond (gm x.high 0 60) (cond (decide (3<=IntKind.i64.wrap (x.high.high - x.high.low))) (some 1) none) (some 1)) (some 1)
def gE (u:aj)(i:Int):Bool:=bM i 0 (IntKind.i64.wrap ((u.av.length:Int) - 1))
def jc (u:aj)(_:Nat)(x:bR):Option Int:=cond (gE u x.aQ) none (some 6)
theorem qu (u:aj)(i:Int):mQ u i=some (gE u i)/\nJ u i=some (gE u i):=by
 constructor
 ·unfold mQ;rw[eW];rfl
 ·unfold nJ;rw[kC,eW];rfl
theorem HQ (u:aj)(h:Int):gW h u=some (cond (bM h 1 20) 0 1):=by
 unfold gW;rw[kC,eW];show cond (!bM h 1 20) _ _=_;cases bM h 1 20<;>rfl
theorem xL (u:aj)(h:0<u.ax.length)(c:u.ax.length<=20):∃f:Int->Bool,∀p,gf u p=some (f p)/\mP u p=some (f p):=by
 have a:u.ax[0]?=some u.ax[0]:=List.getElem?_eq_getElem h;have b:u.ax[u.ax.length - 1]?=some (u.ax[u.ax.length - 1]'(by omega)):=List.getElem?_eq_getElem _;have hw:IntKind.i64.wrap ((u.ax.length:Int) - 1)=((u.ax.length - 1:Nat):Int):=by rw[cI (by omega)];omega
 have e0:aY u.ax 0=some u.ax[0]:=a;have e1:aY u.ax ((u.ax.length - 1:Nat):Int)=some (u.ax[u.ax.length - 1]'(by omega)):=by unfold aY;rw[if_pos (by omega),Int.toNat_natCast,b]
 refine ⟨fun p=>bM p (u.ax[0]).aL (u.ax[u.ax.length - 1]'(by omega)).aL,fun p=>?_⟩;have k:gf u p=some (bM p (u.ax[0]).aL (u.ax[u.ax.length - 1]'(by omega)).aL):=by
  unfold gf;rw[hw,e0,e1,kC];simp only[ag,eW]
 exact ⟨k,k⟩
def gV (u:aj):Int:=cond (bM u.bH 2 60) (cond (bM u.bK 0 60) (cond (bM u.aS.den 1 20) (cond (bM u.aS.num 0 20) (cond (((bI u.aS.num u.aS.den.toNat).num==u.aS.num)&&((bI u.aS.num u.aS.den.toNat).den==u.aS.den)) 0 3) 1) 1) 1) 1
theorem ew {a lo hi:Int}:bM a lo hi=true↔lo<=a/\a<=hi:=by unfold bM;simp
theorem tg (u:aj):nN u=some (gV u):=by
 unfold nN gV;rw[kC];simp only[eW,ag];cases c:bM u.bH 2 60 with
 |false=>rfl
 |true=>
  cases d:bM u.bK 0 60 with
  |false=>rfl
  |true=>
   cases a:bM u.aS.den 1 20 with
   |false=>rfl
   |true=>
    cases b:bM u.aS.num 0 20 with
    |false=>rfl
    |true=>
     rw[ew] at a b;have hd:u.aS.den=(u.aS.den.toNat:Int):=by omega
     have:=qs u.aS.num u.aS.den.toNat (by omega) (by omega) (by omega);rw[<-hd] at this;simp only[this,cond_true,Bool.not_true,cond_false];cases (((bI u.aS.num u.aS.den.toNat).num==u.aS.num)&&((bI u.aS.num u.aS.den.toNat).den==u.aS.den))<;>rfl
theorem HR (u:aj):jb u=cond (gV u != 0) (some (gV u)) (ag (mW u) fun x=>cond (x != 0) (some x) (mX u)):=by
 unfold jb gV;simp only[eW,ag];cases c:bM u.bH 2 60 with
 |false=>rfl
 |true=>
  cases d:bM u.bK 0 60 with
  |false=>rfl
  |true=>
   cases a:bM u.aS.den 1 20 with
   |false=>rfl
   |true=>
    cases b:bM u.aS.num 0 20 with
    |false=>rfl
    |true=>
     rw[ew] at a b;have hd:u.aS.den=(u.aS.den.toNat:Int):=by omega
     have:=qt u.aS.num u.aS.den.toNat (by omega) (by omega) (by omega);rw[<-hd] at this;simp only[this,cond_true,Bool.not_true,cond_false];cases (((bI u.aS.num u.aS.den.toNat).num==u.aS.num)&&((bI u.aS.num u.aS.den.toNat).den==u.aS.den)) with
     |false=>rfl
     |true=>
      simp only[Bool.not_true,cond_false,cond_true,bne_self_eq_false];cases mW u with
      |none=>rfl
      |some x=>
       dsimp only;cases mX u<;>rfl
theorem th (u:aj):mE u=some (cond (decide (3<(u.told.length:Int))) 2 ((dx (jc u) 0 u.told).getD 0)):=by
 unfold mE;cases decide (3<(u.told.length:Int)) with
 |true=>rfl
 |false=>
  show ag (bJ _ 0 u.told 0) _=_;rw[qq (t:=jc u) u.told 0 0 ?_]
  ·show aD (g5 _ _) _ _ _=_;cases dx (jc u) 0 u.told<;>rfl
  ·intro j x s a;unfold sn jc;simp only[qu,ag];cases gE u x.aQ<;>rfl
theorem tj (u:aj):mF u=some (cond (bM u.av.length 1 3) ((dx g7 0 u.av).getD 0) 2):=by
 unfold mF;rw[kC,eW];simp only[ag];cases bM (u.av.length:Int) 1 3 with
 |false=>rfl
 |true=>
  simp only[Bool.not_true,cond_false,cond_true];rw[qq (t:=g7) u.av 0 0 ?_]
  ·show aD (g5 _ _) _ _ _=_;cases dx g7 0 u.av<;>rfl
  ·intro j x s a;unfold so g7;simp only[kC,Bp,eW,td,ag];cases bM x.back 1 20 with
   |false=>rfl
   |true=>
    cases gm x.high 0 60 with
    |false=>rfl
    |true=>
     simp only[Bool.not_true,cond_false,cond_true];cases decide (3<=IntKind.i64.wrap (x.high.high - x.high.low))<;>rfl
theorem tn (u:aj)(f:Int->Bool)(a:∀p,gf u p=some (f p)/\mP u p=some (f p)):mG u=some (cond (decide (3<(u.props.length:Int))) 2 ((dx (g6 u f) 0 u.props).getD 0)):=by
 unfold mG;cases decide (3<(u.props.length:Int)) with
 |true=>rfl
 |false=>
  show ag (bJ _ 0 u.props 0) _=_;rw[qq (t:=g6 u f) u.props 0 0 ?_]
  ·show aD (g5 _ _) _ _ _=_;cases dx (g6 u f) 0 u.props<;>rfl
  ·intro j x s b;unfold sr g6;simp only[(a x.place).1,HQ,ag];cases f x.place with
   |false=>rfl
   |true=>
    cases bM x.de 1 20<;>rfl
theorem mZ {α:Type}{t:Nat->α->Option Int}(h:∀i x r,t i x=some r->r≠0):∀(l:List α) (i:Nat) (r:Int),dx t i l=some r->r≠0
 |[],i,r,e=>by cases e
 |x::l,i,r,e=>by
  unfold dx at e
  cases ht:t i x with
  |some a=>rw[ht] at e;cases e;exact h i x _ ht
  |none=>rw[ht] at e;exact mZ h l (i+1) r e
theorem Bt (u:aj)(f:Int->Bool)(i:Nat)(x:cc)(r:Int)(h:g6 u f i x=some r):r≠0:=by
 unfold g6 at h;revert h;cases f x.place<;>cases bM x.de 1 20<;>intro h<;>cases h<;>decide
theorem Bu (i:Nat)(x:bO)(r:Int)(h:g7 i x=some r):r≠0:=by
 unfold g7 at h;revert h;cases bM x.back 1 20<;>cases gm x.high 0 60<;>cases decide (3<=IntKind.i64.wrap (x.high.high - x.high.low))<;>intro h<;>cases h<;>decide
theorem HS (u:aj)(i:Nat)(x:bR)(r:Int)(h:jc u i x=some r):r≠0:=by
 unfold jc at h;revert h;cases gE u x.aQ<;>intro h<;>cases h<;>decide
theorem Bv {o:Option Int}(h:∀r,o=some r->r≠0):(o.getD 0 != 0)=o.isSome:=by
 cases o with
 |none=>rfl
 |some r=>simpa using h r rfl
theorem HT (u:aj)(f:Int->Bool)(e:∀p,gf u p=some (f p)/\mP u p=some (f p))(h:u.props.length<=20)(i:u.av.length<=20)(k:u.told.length<=20):
  mX u=ag (mG u) fun x=>cond (x != 0) (some x) (ag (mF u) fun y=>cond (y != 0) (some y) (mE u)):=by
 rw[tn u f e,tj,th]
 unfold mX
 simp only[ag]
 cases l:decide (3<(u.props.length:Int)) with
 |true=>rfl
 |false=>
  simp only[cond_false]
  rw[tc (t:=g6 u f) u.props (by omega) ?_ ?_ 0]
  ·rw[Bv (mZ (Bt u f) u.props 0)]
   cases dx (g6 u f) 0 u.props with
   |some r=>rfl
   |none=>
    simp only[g5,aD,Option.isSome_none,cond_false,eW]
    cases m:bM (u.av.length:Int) 1 3 with
    |false=>rfl
    |true=>
     simp only[Bool.not_true,cond_false,cond_true]
     rw[tc (t:=g7) u.av (by omega) ?_ ?_ 0]
     ·rw[Bv (mZ Bu u.av 0)]
      cases dx g7 0 u.av with
      |some r=>rfl
      |none=>
       simp only[g5,aD,Option.isSome_none,cond_false]
       cases n:decide (3<(u.told.length:Int)) with
       |true=>rfl
       |false=>
        simp only[cond_false]
        rw[tc (t:=jc u) u.told (by omega) ?_ ?_ 0]
        ·cases dx (jc u) 0 u.told<;>rfl
        ·intro j x s b
         have g:=(List.getElem?_eq_some_iff.1 b).1
         have a:decide ((j:Int)<(u.told.length:Int))=true:=decide_eq_true (by omega)
         have c:aY u.told (j:Int)=some x:=by unfold aY;rw[if_pos (by omega),Int.toNat_natCast,b]
         have d:IntKind.i64.wrap ((j:Int)+1)=((j+1:Nat):Int):=by rw[cI (by omega)];omega
         unfold xF jc
         simp only[a,c,d,ag,qu,cond_true]
         cases gE u x.aQ<;>rfl
        ·intro s
         have a:decide ((u.told.length:Int)<(u.told.length:Int))=false:=decide_eq_false (by omega)
         unfold xF
         simp only[a,cond_false]
     ·intro j x s b
      have g:=(List.getElem?_eq_some_iff.1 b).1
      have a:decide ((j:Int)<(u.av.length:Int))=true:=decide_eq_true (by omega)
      have c:aY u.av (j:Int)=some x:=by unfold aY;rw[if_pos (by omega),Int.toNat_natCast,b]
      have d:IntKind.i64.wrap ((j:Int)+1)=((j+1:Nat):Int):=by rw[cI (by omega)];omega
      unfold xE g7
      simp only[a,c,d,ag,eW,td,cond_true]
      cases bM x.back 1 20<;>cases gm x.high 0 60<;>cases decide (3<=IntKind.i64.wrap (x.high.high - x.high.low))<;>rfl
     ·intro s
      have a:decide ((u.av.length:Int)<(u.av.length:Int))=false:=decide_eq_false (by omega)
      unfold xE
      simp only[a,cond_false]
  ·intro j x s b
   have g:=(List.getElem?_eq_some_iff.1 b).1
   have a:decide ((j:Int)<(u.props.length:Int))=true:=decide_eq_true (by omega)
   have c:aY u.props (j:Int)=some x:=by unfold aY;rw[if_pos (by omega),Int.toNat_natCast,b]
   have d:IntKind.i64.wrap ((j:Int)+1)=((j+1:Nat):Int):=by rw[cI (by omega)];omega
   unfold ql g6
   simp only[a,c,d,ag,eW,(e x.place).2,cond_true]
   cases f x.place<;>cases bM x.de 1 20<;>rfl
  ·intro s
   have a:decide ((u.props.length:Int)<(u.props.length:Int))=false:=decide_eq_false (by omega)
   unfold ql
   simp only[a,cond_false]
theorem Bw (x:Int):cond (x != 0) (some x) (some 0)=some x:=by
 cases h:(x != 0) with
 |true=>rfl
 |false=>
  have:x=0:=by simpa using h
  rw[this];rfl
theorem HU (u:aj)(a:u.ax.length<=20)(d:u.props.length<=20)(e:u.av.length<=20)(g:u.told.length<=20):er u=jb u/\∃r,er u=some r:=by
 obtain ⟨he,h⟩:=xK u a;rw[HR,h];show iY u=_/\∃r,iY u=some r;unfold iY;rw[tg];simp only[ag];cases hg:(gV u != 0) with
 |true=>exact ⟨rfl,_,rfl⟩
 |false=>
  simp only[cond_false];unfold lq;rw[he];simp only[ag];cases b:((cond (bM u.ax.length 2 5) ((dx (gq u) 0 u.ax).getD 0) 2) != 0) with
  |true=>exact ⟨rfl,_,rfl⟩
  |false=>
   simp only[cond_false];have hb:bM u.ax.length 2 5=true:=by
    cases hb:bM (u.ax.length:Int) 2 5 with
    |true=>rfl
    |false=>rw[hb] at b;cases b
   have i:=ew.1 hb;obtain ⟨f,c⟩:=xL u (by omega) a;rw[HT u f c d e g];unfold lp;rw[tn u f c];simp only[ag];cases j:((cond (decide (3<(u.props.length:Int))) 2 ((dx (g6 u f) 0 u.props).getD 0)) != 0) with
   |true=>exact ⟨rfl,_,rfl⟩
   |false=>
    simp only[cond_false];unfold lg;rw[tj];simp only[ag];cases k:((cond (bM u.av.length 1 3) ((dx g7 0 u.av).getD 0) 2) != 0) with
    |true=>exact ⟨rfl,_,rfl⟩
    |false=>
     simp only[cond_false];unfold lf nO;rw[th];simp only[ag];rw[Bw];exact ⟨rfl,_,rfl⟩
theorem qv {α:Type}{t:Nat->α->Option Int}:∀(l:List α) (i:Nat),dx t i l=none->∀j x,l[j]?=some x->t (i+j) x=none
 |[],i,_,j,x,a=>by simp at a
 |y::l,i,h,j,x,a=>by
  unfold dx at h
  cases ht:t i y with
  |some r=>rw[ht] at h;cases h
  |none=>
   rw[ht] at h
   cases j with
   |zero=>simp at a;subst a;exact ht
   |succ j=>
    have:=qv l (i+1) h j x (by simpa using a)
    rwa [show i+1+j=i+(j+1) by omega] at this
structure Fit (u:aj):Prop where
 bH:2<=u.bH/\u.bH<=60
 bK:0<=u.bK/\u.bK<=60
 den:1<=u.aS.den/\u.aS.den<=20
 num:0<=u.aS.num/\u.aS.num<=20
 ax:2<=u.ax.length/\u.ax.length<=5
 kD:∀(i:Nat) x,u.ax[i]?=some x->(0<=x.aL/\x.aL<=u.bH - 1)/\0<=x.high/\x.high<=60
 xM:∀(i:Nat) x y,u.ax[i]?=some x->u.ax[i+1]?=some y->x.aL<y.aL
 props:u.props.length<=3
 prop:∀(i:Nat) x,u.props[i]?=some x->gf u x.place=some true/\1<=x.de/\x.de<=20
 av:1<=u.av.length/\u.av.length<=3
 aQ:∀(i:Nat) x,u.av[i]?=some x->(1<=x.back/\x.back<=20)/\0<=x.high.low/\x.high.low<=x.high.high/\x.high.high<=60/\x.high.high - x.high.low<3
 told:u.told.length<=3
 qw:∀(i:Nat) x,u.told[i]?=some x->0<=x.aQ/\x.aQ<u.av.length
theorem tq {o:Option Int}(h:∀r,o=some r->r≠0)(a:o.getD 0=0):o=none:=by
 cases o with
 |none=>rfl
 |some r=>exact absurd a (h r rfl)
theorem HV (u:aj)(i:Nat)(x:bX)(r:Int)(h:gq u i x=some r):r≠0:=by
 unfold gq at h;revert h;cases bM x.aL 0 (IntKind.i64.wrap (u.bH - 1))<;>cases bM x.high 0 60<;>try (intro h;cases h;decide)
 cases i with
 |zero=>intro h;cases h
 |succ j=>
  simp only[cond_true];cases u.ax[j]? with
  |none=>intro h;cases h
  |some y=>dsimp only;cases decide (x.aL<=y.aL)<;>intro h<;>cases h<;>decide
theorem xN (u:aj)(o:u.ax.length<=20)(h:er u=some 0):Fit u:=by
 have a:iY u=some 0:=h;clear h;unfold iY at a;rw[tg] at a;simp only[ag] at a;have hg:gV u=0:=by
  cases hg:(gV u != 0) with
  |true=>rw[hg] at a;exact Option.some.inj a
  |false=>simpa using hg
 rw[hg] at a;have a:lq u=some 0:=a;unfold lq at a;rw[(xK u o).1] at a;simp only[ag] at a;generalize g:cond (bM (u.ax.length:Int) 2 5) ((dx (gq u) 0 u.ax).getD 0) 2=E at a;have z:E=0:=by
  cases d:(E != 0) with
  |true=>rw[d] at a;exact Option.some.inj a
  |false=>simpa using d
 rw[z] at a g;have a:lp u=some 0:=a;have hb:bM (u.ax.length:Int) 2 5=true:=by
  cases hb:bM (u.ax.length:Int) 2 5 with
  |true=>rfl
  |false=>rw[hb] at g;cases g
 rw[hb] at g;have M:=ew.1 hb;have p:=qv u.ax 0 (tq (mZ (HV u) u.ax 0) g);obtain ⟨f,q⟩:=xL u (by omega) o;unfold lp at a;rw[tn u f q] at a;simp only[ag] at a;generalize j:cond (decide (3<(u.props.length:Int))) 2 ((dx (g6 u f) 0 u.props).getD 0)=r at a;have A:r=0:=by
  cases d:(r != 0) with
  |true=>rw[d] at a;exact Option.some.inj a
  |false=>simpa using d
 rw[A] at a j;have a:lg u=some 0:=a;have s:decide (3<(u.props.length:Int))=false:=by
  cases hb:decide (3<(u.props.length:Int)) with
  |false=>rfl
  |true=>rw[hb] at j;cases j
 rw[s] at j;have B:=qv u.props 0 (tq (mZ (Bt u f) u.props 0) j);unfold lg at a;rw[tj] at a;simp only[ag] at a;generalize k:cond (bM (u.av.length:Int) 1 3) ((dx g7 0 u.av).getD 0) 2=t at a;have C:t=0:=by
  cases d:(t != 0) with
  |true=>rw[d] at a;exact Option.some.inj a
  |false=>simpa using d
 rw[C] at a k;have a:lf u=some 0:=a;have v:bM (u.av.length:Int) 1 3=true:=by
  cases hb:bM (u.av.length:Int) 1 3 with
  |true=>rfl
  |false=>rw[hb] at k;cases k
 rw[v] at k;have N:=ew.1 v;have D:=qv u.av 0 (tq (mZ Bu u.av 0) k);unfold lf nO at a;rw[th] at a;simp only[ag] at a;rw[Bw] at a;have l:=Option.some.inj a;have w:decide (3<(u.told.length:Int))=false:=by
  cases hb:decide (3<(u.told.length:Int)) with
  |false=>rfl
  |true=>rw[hb] at l;cases l
 rw[w] at l;have F:=qv u.told 0 (tq (mZ (HS u) u.told 0) l);have O:=of_decide_eq_false s;have P:=of_decide_eq_false w;clear a g j k l;have G:(2<=u.bH/\u.bH<=60)/\(0<=u.bK/\u.bK<=60)/\(1<=u.aS.den/\u.aS.den<=20)/\(0<=u.aS.num/\u.aS.num<=20):=by
  unfold gV at hg;refine ⟨ew.1 ?_,ew.1 ?_,ew.1 ?_,ew.1 ?_⟩<;>revert hg<;>cases bM u.bH 2 60<;>cases bM u.bK 0 60<;>cases bM u.aS.den 1 20<;>cases bM u.aS.num 0 20<;>intro hg<;>first|rfl|cases hg
 obtain ⟨H,I,J,K⟩:=G;have hw:IntKind.i64.wrap (u.bH - 1)=u.bH - 1:=cI (by omega);have m:∀(i:Nat) x,u.ax[i]?=some x->bM x.aL 0 (u.bH - 1)=true/\bM x.high 0 60=true:=by
  intro i x b;have:=p i x b;unfold gq at this;rw[hw] at this;revert this;cases bM x.aL 0 (u.bH - 1)<;>cases bM x.high 0 60<;>intro h<;>first|exact ⟨rfl,rfl⟩|cases h
 refine ⟨H,I,J,K,by omega,fun i x b=>⟨ew.1 (m i x b).1,ew.1 (m i x b).2⟩,fun i x y b n=>?_,by omega,fun i x b=>?_,by omega,fun i x b=>?_,by omega,fun i x b=>?_⟩
 ·have:=p (i+1) y n;rw[Nat.zero_add] at this;unfold gq at this;rw[hw,(m _ _ n).1,(m _ _ n).2] at this;simp only[cond_true,b] at this;cases hd:decide (y.aL<=x.aL) with
  |true=>rw[hd] at this;cases this
  |false=>have:=of_decide_eq_false hd;omega
 ·have:=B i x b;unfold g6 at this;revert this;rw[(q x.place).1];cases f x.place<;>cases hb:bM x.de 1 20<;>intro h<;>first|exact ⟨rfl,ew.1 hb⟩|cases h
 ·have:=D i x b;unfold g7 at this;cases c:bM x.back 1 20 with
  |false=>rw[c] at this;cases this
  |true=>
   cases e:gm x.high 0 60 with
   |false=>rw[c,e] at this;cases this
   |true=>
    rw[c,e] at this;unfold gm at e;simp only[Bool.and_eq_true,decide_eq_true_eq] at e;refine ⟨ew.1 c,e.1,e.2.1,e.2.2,?_⟩;cases hd:decide (3<=IntKind.i64.wrap (x.high.high - x.high.low)) with
    |true=>rw[hd] at this;cases this
    |false=>
     have L:=of_decide_eq_false hd;rw[cI (by omega)] at L;omega
 ·have:=F i x b;unfold jc at this;cases c:gE u x.aQ with
  |false=>rw[c] at this;cases this
  |true=>
   unfold gE at c;rw[cI (by omega)] at c;have:=ew.1 c;omega
theorem xO (g:Nat)(hg:0<g)(n:Int)(d:Nat):bI ((g:Int)*n) (g*d)=bI n d:=by
 unfold bI;have e1:((g:Int)*n).natAbs=g*n.natAbs:=by rw[Int.natAbs_mul,Int.natAbs_natCast]
 rw[e1,Nat.gcd_mul_left];have a:(0:Int)<(g:Int):=by omega
 congr 1
 ·rw[Int.natCast_mul,Int.mul_tdiv_mul_of_pos _ _ a]
 ·rw[Int.natCast_mul,Int.natCast_mul,Int.mul_tdiv_mul_of_pos _ _ a]
theorem xP (n:Int)(d:Nat)(hd:0<d):∃g a:Nat,0<g/\0<a/\d=g*a/\n=(g:Int)*(bI n d).num/\(bI n d).den=(a:Int):=by
 have hg:0<Nat.gcd n.natAbs d:=Nat.gcd_pos_of_pos_right _ hd;obtain ⟨a,b⟩:=Nat.gcd_dvd_right n.natAbs d;refine ⟨Nat.gcd n.natAbs d,a,hg,?_,b,?_,?_⟩
 ·rcases Nat.eq_zero_or_pos a with h|h
  ·rw[h,Nat.mul_zero] at b;omega
  ·exact h
 ·have c:((Nat.gcd n.natAbs d:Nat):Int) ∣ n:=Int.ofNat_dvd_left.2 (Nat.gcd_dvd_left _ _);unfold bI;exact (Int.mul_tdiv_cancel' c).symm
 ·have:(d:Int)=((Nat.gcd n.natAbs d:Nat):Int)*(a:Int):=by rw[<-Int.natCast_mul];exact congrArg _ b
  show (d:Int).tdiv ((Nat.gcd n.natAbs d:Nat):Int)=_;have e:((Nat.gcd n.natAbs d:Nat):Int)≠0:=by omega
  calc (d:Int).tdiv ((Nat.gcd n.natAbs d:Nat):Int)=(((Nat.gcd n.natAbs d:Nat):Int)*(a:Int)).tdiv ((Nat.gcd n.natAbs d:Nat):Int):=congrArg (fun z=>Int.tdiv z _) this
   _=(a:Int):=Int.mul_tdiv_cancel_left _ e
theorem dy {x y:Int}{A B:Nat}(a:x.natAbs<=A)(b:y.natAbs<=B):(x*y).natAbs<=A*B:=by
 rw[Int.natAbs_mul];exact Nat.mul_le_mul a b
theorem eg {n:Int}(h:n.natAbs<=9000000000000000000):IntKind.i64.wrap n=n:=cI (by omega)
structure Sm (r:an)(A B:Nat):Prop where
 num:r.num.natAbs<=A
 den:0<r.den/\r.den<=B
theorem tr {a b:an}{A B C D:Nat}(c:Sm a A B)(hb:Sm b C D)(h:A*D+C*B<=900000000000000000)(hd:B*D<=800000000000000000):
  jz a b=some (bI (a.num*b.den+b.num*a.den) (a.den*b.den).toNat):=by
 have d:=dy c.num (show b.den.natAbs<=D by have:=hb.den;omega)
 have f:=dy hb.num (show a.den.natAbs<=B by have:=c.den;omega)
 have g:=dy (show a.den.natAbs<=B by have:=c.den;omega) (show b.den.natAbs<=D by have:=hb.den;omega)
 have i:0<a.den*b.den:=Int.mul_pos c.den.1 hb.den.1
 unfold jz
 rw[eg (n:=a.num*b.den) (by omega),eg (n:=b.num*a.den) (by omega),eg (n:=a.den*b.den) (by omega),eg (by omega)]
 have e:a.den*b.den=(((a.den*b.den).toNat:Nat):Int):=by omega
 have:=qs (a.num*b.den+b.num*a.den) (a.den*b.den).toNat (by omega) (by omega) (by omega)
 rw[<-e] at this
 rw[this]
 rfl
theorem xQ {a b:an}{A B C D:Nat}(c:Sm a A B)(hb:Sm b C D)(h:A*D+C*B<=900000000000000000)(hd:B*D<=800000000000000000):
  jJ a b=some (bI (a.num*b.den - b.num*a.den) (a.den*b.den).toNat):=by
 have d:=dy c.num (show b.den.natAbs<=D by have:=hb.den;omega)
 have f:=dy hb.num (show a.den.natAbs<=B by have:=c.den;omega)
 have g:=dy (show a.den.natAbs<=B by have:=c.den;omega) (show b.den.natAbs<=D by have:=hb.den;omega)
 have i:0<a.den*b.den:=Int.mul_pos c.den.1 hb.den.1
 unfold jJ
 rw[eg (n:=a.num*b.den) (by omega),eg (n:=b.num*a.den) (by omega),eg (n:=a.den*b.den) (by omega),eg (by omega)]
 have e:a.den*b.den=(((a.den*b.den).toNat:Nat):Int):=by omega
 have:=qt (a.num*b.den - b.num*a.den) (a.den*b.den).toNat (by omega) (by omega) (by omega)
 rw[<-e] at this
 rw[this]
 rfl
theorem xR {a b:an}{A B C D:Nat}(c:Sm a A B)(hb:Sm b C D)(h:A*D+C*B<=900000000000000000)(hd:B*D<=800000000000000000)(hC:C<=9000000000000000000):
  jA a b=some (bI (a.num*b.den - b.num*a.den) (a.den*b.den).toNat):=by
 unfold jA
 have e:=hb.num
 rw[eg (by omega)]
 have d:Sm (⟨0 - b.num,b.den⟩:an) C D:=⟨by show (0 - b.num).natAbs<=C;omega,hb.den⟩
 rw[tr c d h hd]
 show some (bI (a.num*b.den+(0 - b.num)*a.den) (a.den*b.den).toNat)=_
 rw[show a.num*b.den+(0 - b.num)*a.den=a.num*b.den - b.num*a.den by rw[Int.zero_sub,Int.neg_mul];omega]
def tu (x y:bX)(p:Int):Option an:=
 iz (IntKind.i64.wrap ((IntKind.i64.wrap (x.high*(IntKind.i64.wrap (y.aL - x.aL))))+(IntKind.i64.wrap ((IntKind.i64.wrap (y.high - x.high))*(IntKind.i64.wrap (p - x.aL)))))) (IntKind.i64.wrap (y.aL - x.aL))
theorem qx {α:Type}{l:List α}{i:Nat}{x:α}(h:l[i]?=some x):aY l (i:Int)=some x:=by unfold aY;rw[if_pos (by omega),Int.toNat_natCast,h]
theorem Bx (i:Nat)(h:i<1000):IntKind.i64.wrap ((i:Int)+1)=((i+1:Nat):Int):=by rw[cI (by omega)];omega
theorem piece (u:aj)(p:Int)(g:u.ax.length<=5)(z:bX)(b:u.ax[u.ax.length - 1]?=some z)(h:p<=z.aL):∀(m i n:Nat) (x y:bX),i+1+m=u.ax.length - 1->m<n->u.ax[i]?=some x->u.ax[i+1]?=some y->
  ∃(k:Nat) (x y:bX),i<=k/\u.ax[k]?=some x/\u.ax[k+1]?=some y/\p<=y.aL/\(k=i\/x.aL<p)/\aU (nS u p) n ((i+1:Nat):Int)=some (.nx ((k+1:Nat):Int))/\
   aU (s7 u p) n (i:Int)=ag (tu x y p) fun r=>some (.rt r)
 |m,i,n+1,x,y,v,w,f,a=>by
  have A:i+1<u.ax.length:=(List.getElem?_eq_some_iff.1 a).1
  have d1:decide (((i+1:Nat):Int)<(u.ax.length:Int))=true:=decide_eq_true (by omega)
  unfold aU nS s7
  rw[Bx i (by omega),Bx (i+1) (by omega),qx f,qx a,d1]
  simp only[ag,cond_true]
  by_cases c:y.aL<p
  ·have e1:decide (y.aL<p)=true:=decide_eq_true c
   have e2:decide (p<=y.aL)=false:=decide_eq_false (by omega)
   rw[e1,e2]
   simp only[cond_true,cond_false]
   cases m with
   |zero=>
    have:u.ax.length - 1=i+1:=by omega
    rw[this,a] at b
    cases b
    omega
   |succ m=>
    have j:i+1+1<u.ax.length:=by omega
    obtain ⟨k,l,y',B,d,o,q,e,s,t⟩:=piece u p g z b h m (i+1) n y (u.ax[i+1+1]) (by omega) (by omega) a (List.getElem?_eq_getElem j)
    refine ⟨k,l,y',by omega,d,o,q,?_,s,t⟩
    rcases e with rfl|e
    ·rw[a] at d;cases d;exact .inr c
    ·exact .inr e
  ·have e1:decide (y.aL<p)=false:=decide_eq_false c
   have e2:decide (p<=y.aL)=true:=decide_eq_true (by omega)
   rw[e1,e2]
   refine ⟨i,x,y,Nat.le_refl _,f,a,by omega,.inl rfl,rfl,?_⟩
   simp only[cond_true]
   unfold tu
   cases iz _ _<;>rfl
theorem jd (n:Int)(d:Nat)(hd:0<d):Sm (bI n d) n.natAbs d:=by
 obtain ⟨g,a,hg,c,e1,e2,b⟩:=xP n d hd;refine ⟨?_,?_⟩
 ·have:n.natAbs=g*(bI n d).num.natAbs:=by
   have:=congrArg Int.natAbs e2
   rwa [Int.natAbs_mul,Int.natAbs_natCast] at this
  rw[this];exact Nat.le_mul_of_pos_left _ hg
 ·rw[b];have:a<=d:=by rw[e1];exact Nat.le_mul_of_pos_left _ hg
  omega
theorem By (h:Int)(n:Int)(d:Nat)(hd:0<d):bI (h*(bI n d).den+(bI n d).num) ((bI n d).den).toNat=bI (h*d+n) d:=by
 obtain ⟨g,a,hg,f,e1,e2,b⟩:=xP n d hd;have k1:h*(d:Int)+n=(g:Int)*(h*(a:Int)+(bI n d).num):=by
  rw[Int.mul_add,<-e2,e1,Int.natCast_mul,Int.mul_left_comm]
 rw[b];have c:((a:Nat):Int).toNat=a:=Int.toNat_natCast a;rw[c,k1];have e:bI ((g:Int)*(h*(a:Int)+(bI n d).num)) d=bI ((g:Int)*(h*(a:Int)+(bI n d).num)) (g*a):=congrArg _ e1;rw[e,xO g hg]
theorem HW (u:aj)(F:Fit u)(p:Int)(a z:bX)(g:u.ax[0]?=some a)(j:u.ax[u.ax.length - 1]?=some z)(l:a.aL<=p)(m:p<=z.aL):
  ∃r,iZ u p=some r/\qo u p=some r/\Sm r 7200 60/\∃(k:Nat) (x y:bX) (d:Nat),u.ax[k]?=some x/\u.ax[k+1]?=some y/\x.aL<=p/\p<=y.aL/\y.aL - x.aL=d/\0<d/\r=bI (x.high*d+(y.high - x.high)*(p - x.aL)) d:=by
 have o:=F.ax
 obtain ⟨k,x,y,-,b,e,q,h,t,v⟩:=piece u p o.2 z j m (u.ax.length - 2) 0 fu a (u.ax[1]'(by omega)) (by omega) (Nat.lt_of_le_of_lt (show u.ax.length - 2<=5 by omega) (by decide)) g (List.getElem?_eq_getElem _)
 have H:k+1<u.ax.length:=(List.getElem?_eq_some_iff.1 e).1
 have I:=F.kD k x b
 have J:=F.kD (k+1) y e
 have K:=F.xM k x y b e
 have L:=F.bH
 have w:x.aL<=p:=by
  rcases h with rfl|h
  ·rw[g] at b;cases b;exact l
  ·omega
 have A:IntKind.i64.wrap (((k+1:Nat):Int) - 1)=(k:Int):=by rw[cI (by omega)];omega
 have w1:IntKind.i64.wrap (y.high - x.high)=y.high - x.high:=cI (by omega)
 have w2:IntKind.i64.wrap (p - x.aL)=p - x.aL:=cI (by omega)
 have w3:IntKind.i64.wrap (y.aL - x.aL)=y.aL - x.aL:=cI (by omega)
 have B:((y.high - x.high)*(p - x.aL)).natAbs<=60*60:=dy (by omega) (by omega)
 have i:(x.high*(y.aL - x.aL)).natAbs<=60*60:=dy (by omega) (by omega)
 obtain ⟨d,hd⟩:∃d:Nat,y.aL - x.aL=d:=⟨(y.aL - x.aL).toNat,by omega⟩
 generalize f:(y.high - x.high)*(p - x.aL)=n at B
 have c:0<d:=by omega
 have M:d<=60:=by omega
 have s1:=jd n d c
 have C:Sm (bI n d) 3600 60:=⟨Nat.le_trans s1.num (by omega),s1.den.1,by have:=s1.den.2;omega⟩
 have D:Sm (⟨x.high,1⟩:an) 60 1:=⟨by show x.high.natAbs<=60;omega,by show (0:Int)<1;omega,by show (1:Int)<=((1:Nat):Int);omega⟩
 refine ⟨bI (x.high*d+n) d,?_,?_,?_,k,x,y,d,b,e,w,q,hd,c,by rw[f]⟩
 ·unfold iZ
  have E:aU (nS u p) fu 1=some (.nx ((k+1:Nat):Int)):=t
  rw[E]
  simp only[ag,aD]
  rw[A,qx b,qx e]
  simp only[gd]
  rw[w1,w2,w3,f,hd,eg (by omega),qs n d (by omega) c (by omega)]
  simp only
  rw[tr D C (by omega) (by omega)]
  show some (bI (x.high*(bI n d).den+(bI n d).num*1) (1*(bI n d).den).toNat)=_
  rw[Int.mul_one,Int.one_mul,By x.high n d c]
 ·unfold qo
  have G:aU (s7 u p) fu 0=ag (tu x y p) fun r=>some (.rt r):=v
  rw[G]
  unfold tu
  rw[w1,w2,w3,eg (n:=x.high*(y.aL - x.aL)) (by omega),f,eg (n:=n) (by omega),hd]
  rw[hd] at i
  rw[eg (n:=x.high*(d:Int)+n) (by omega),qt (x.high*d+n) d (by omega) c (by omega)]
  rfl
 ·have s:=jd (x.high*d+n) d c
  rw[hd] at i
  exact ⟨Nat.le_trans s.num (by omega),s.den.1,by have:=s.den.2;omega⟩
theorem HX (u:aj)(F:Fit u)(p:Int)(a z:bX)(b:u.ax[0]?=some a)(c:u.ax[u.ax.length - 1]?=some z)(d:a.aL<=p)(e:p<=z.aL):
  ∃r,iZ u p=some r/\qo u p=some r/\Sm r 7200 60:=by
 obtain ⟨r,f,g,h,-⟩:=HW u F p a z b c d e
 exact ⟨r,f,g,h⟩
def g8:aj:=⟨0,0,(⟨0,0⟩:an),([]:List bX),([]:List cc),([]:List bO),([]:List bR)⟩
theorem Bz {u:aj}{c:Int}(a:List (aj->Option Int))(h:er u=some c)(b:c≠0):eP u a=some (g8,c):=by
 unfold eP;rw[h];have:(c != 0)=true:=by simpa using b
 simp only[ag,this,cond_true];rfl
theorem xS {u:aj}{f:aj->Option Int}{x:Int}(h:er u=some 0)(a:f u=some x):eP u [f]=some (cond (x != 0) (g8,x) (u,0)):=by
 unfold eP;rw[h];simp only[ag,bne_self_eq_false,cond_false];unfold bJ sJ;simp only[a,ag];cases (x != 0)<;>rfl
theorem HY (u:aj)(F:Fit u)(p:Int):∃a z,u.ax[0]?=some a/\u.ax[u.ax.length - 1]?=some z/\gf u p=some (bM p a.aL z.aL)/\mP u p=some (bM p a.aL z.aL):=by
 have d:=F.ax;have b:u.ax[0]?=some (u.ax[0]'(by omega)):=List.getElem?_eq_getElem _;have c:u.ax[u.ax.length - 1]?=some (u.ax[u.ax.length - 1]'(by omega)):=List.getElem?_eq_getElem _;have hw:IntKind.i64.wrap ((u.ax.length:Int) - 1)=((u.ax.length - 1:Nat):Int):=by rw[cI (by omega)];omega
 refine ⟨_,_,b,c,?_⟩;have k:gf u p=some (bM p (u.ax[0]'(by omega)).aL (u.ax[u.ax.length - 1]'(by omega)).aL):=by
  unfold gf;have e0:aY u.ax 0=some (u.ax[0]'(by omega)):=b;rw[hw,e0,qx c,kC];simp only[ag,eW]
 exact ⟨k,k⟩
theorem HZ {n m:Int}{d e:Nat}(hd:0<d)(he:0<e)(h:n*(e:Int)=m*(d:Int)):bI n d=bI m e:=by
 have a:=xO e he n d;have b:=xO d hd m e;rw[<-a,<-b];have e1:(e:Int)*n=(d:Int)*m:=by rw[Int.mul_comm,h,Int.mul_comm]
 rw[e1,Nat.mul_comm e d]
theorem BA (n:Int)(d:Nat)(hd:0<d):(bI n d).num*(d:Int)=n*(bI n d).den/\0<(bI n d).den:=by
 obtain ⟨g,a,hg,c,e1,e2,b⟩:=xP n d hd;refine ⟨?_,by rw[b];omega⟩;rw[b];have k1:(d:Int)=(g:Int)*(a:Int):=by rw[<-Int.natCast_mul];exact congrArg _ e1
 calc (bI n d).num*(d:Int)=(bI n d).num*((g:Int)*(a:Int)):=by rw[<-k1]
  _=((g:Int)*(bI n d).num)*(a:Int):=by rw[<-Int.mul_assoc,Int.mul_comm (bI n d).num]
  _=n*(a:Int):=by rw[<-e2]
theorem qy {a b:an}{A B C D:Nat}(c:Sm a A B)(hb:Sm b C D)(h:A*D<=9000000000000000000)(d:C*B<=9000000000000000000):lD a b=some (decide (a.num*b.den<b.num*a.den))/\ep a b=some (decide (a.num*b.den<b.num*a.den)):=by
 have e:=dy c.num (show b.den.natAbs<=D by have:=hb.den;omega);have f:=dy hb.num (show a.den.natAbs<=B by have:=c.den;omega);have k:lD a b=some (decide (a.num*b.den<b.num*a.den)):=by
  unfold lD;rw[eg (n:=a.num*b.den) (by omega),eg (n:=b.num*a.den) (by omega)]
 exact ⟨k,k⟩
theorem H6 {h md a d e b f c N:Int}(g:d*b=N*md)(i:e*f=c*a):(h*(md*a)+d*e)*(b*f)=(h*b*f+N*c)*(md*a):=by
 grind
theorem BB (u:aj)(F:Fit u)(s:bf)(hs:(1<=s.back/\s.back<=20)/\0<=s.high/\s.high<=60)(at_:Int)(aL:Int)(H:0<=aL/\aL<=60)(e:an)(he:Sm e 10000 100):
  ∃c,ko u s at_ ⟨aL,e⟩=some ⟨⟨aL,e⟩,at_,c⟩/\mR u s aL e=some c/\c=bI (s.high*e.den*(aL+s.back)+(e.num - s.high*e.den)*(u.bH+s.back)) (e.den*(aL+s.back)).toNat:=by
 have I:=F.bH
 have w1:IntKind.i64.wrap (u.bH+s.back)=u.bH+s.back:=cI (by omega)
 have w2:IntKind.i64.wrap (aL+s.back)=aL+s.back:=cI (by omega)
 obtain ⟨f,b⟩:∃f:Nat,aL+s.back=f:=⟨(aL+s.back).toNat,by omega⟩
 have d:0<f:=by omega
 have J:f<=80:=by omega
 generalize m:u.bH+s.back=c at*
 have o:c.natAbs<=80:=by omega
 have p:Sm (⟨s.high,1⟩:an) 60 1:=⟨by show s.high.natAbs<=60;omega,by show (0:Int)<1;omega,by show (1:Int)<=((1:Nat):Int);omega⟩
 obtain ⟨a,j⟩:∃n:Nat,e.den=n:=⟨e.den.toNat,by have:=he.den;omega⟩
 have g:0<a:=by have:=he.den;omega
 have K:a<=100:=by have:=he.den;omega
 have A:(s.high*e.den).natAbs<=60*100:=dy (by omega) (by omega)
 have b2:(e.num - s.high*e.den).natAbs<=16000:=by have:=he.num;omega
 have q:=xR he p (by omega) (by omega) (by omega)
 have e1:e.num*(1:Int) - s.high*e.den=e.num - s.high*e.den:=by rw[Int.mul_one]
 have e2:(e.den*(1:Int)).toNat=a:=by rw[Int.mul_one,j,Int.toNat_natCast]
 rw[show ((⟨s.high,1⟩:an).den)=(1:Int) from rfl,show ((⟨s.high,1⟩:an).num)=s.high from rfl,e1,e2] at q
 generalize B:e.num - s.high*e.den=N at*
 have sm:=jd N a g
 have r:=jd c f d
 have t:=BA N a g
 have v:=BA c f d
 have L:((bI N a).num*(bI c f).num).natAbs<=16000*80:=dy (Nat.le_trans sm.num b2) (Nat.le_trans r.num o)
 have O:((bI N a).den*(bI c f).den).natAbs<=100*80:=dy (by have:=sm.den;omega) (by have:=r.den;omega)
 have P:0<(bI N a).den*(bI c f).den:=Int.mul_pos t.2 v.2
 obtain ⟨M,w⟩:∃M:Nat,(bI N a).den*(bI c f).den=M:=⟨((bI N a).den*(bI c f).den).toNat,by omega⟩
 have h:0<M:=by omega
 have C:=qs c f (by omega) d (by omega)
 have D:=qs ((bI N a).num*(bI c f).num) M (by omega) h (by omega)
 have sq:=jd ((bI N a).num*(bI c f).num) M h
 have E:Sm (bI ((bI N a).num*(bI c f).num) M) 1280000 8000:=⟨Nat.le_trans sq.num (by omega),sq.den.1,by have:=sq.den.2;omega⟩
 have x:=tr p E (by omega) (by omega)
 have G:s.high*(bI ((bI N a).num*(bI c f).num) M).den+(bI ((bI N a).num*(bI c f).num) M).num*1=s.high*(bI ((bI N a).num*(bI c f).num) M).den+(bI ((bI N a).num*(bI c f).num) M).num:=by rw[Int.mul_one]
 rw[show ((⟨s.high,1⟩:an).den)=(1:Int) from rfl,show ((⟨s.high,1⟩:an).num)=s.high from rfl,G,Int.one_mul,By s.high _ M h] at x
 have k:e.den*(aL+s.back)=((a*f:Nat):Int):=by rw[j,b,Int.natCast_mul]
 have i:(e.den*(aL+s.back)).toNat=a*f:=by rw[k,Int.toNat_natCast]
 have y:bI (s.high*(M:Int)+(bI N a).num*(bI c f).num) M=bI (s.high*e.den*(aL+s.back)+N*c) (a*f):=by
  refine HZ h (Nat.mul_pos g d) ?_
  rw[Int.natCast_mul,<-w,b,j]
  exact H6 (by rw[t.1]) (by rw[v.1])
 refine ⟨_,?_,?_,rfl⟩
 ·unfold ko
  have l:IntKind.i64.wrap (f:Int)=f:=cI (by omega)
  simp only[gd,ag,q,m,w1,b,l,C]
  rw[eg (by omega),eg (n:=(bI N a).den*(bI c f).den) (by omega),w,D]
  simp only[x]
  rw[b] at i y
  rw[i,y]
 ·unfold mR
  have l:IntKind.i64.wrap (f:Int)=f:=cI (by omega)
  have Q:(s.high*e.den*(f:Int)).natAbs<=6000*80:=dy A (by omega)
  have p2:(N*c).natAbs<=16000*80:=dy b2 o
  have p3:(e.den*(f:Int)).natAbs<=100*80:=dy (by omega) (by omega)
  simp only[m,w1,b,l]
  rw[eg (n:=s.high*e.den) (by omega),B,eg (n:=N) (by omega),eg (n:=s.high*e.den*(f:Int)) (by omega),eg (n:=N*c) (by omega),eg (n:=s.high*e.den*(f:Int)+N*c) (by omega),eg (n:=e.den*(f:Int)) (by omega)]
  rw[b] at k i
  have z:=qt (s.high*e.den*(f:Int)+N*c) (a*f) (by omega) (Nat.mul_pos g d) (by omega)
  rw[i]
  rw[<-k] at z
  rw[z]
  rfl
theorem H7 (s:bf)(u:aj):eM s u=xG s:=rfl
def xT (s:bf):Int:=cond (bM s.back 1 20) (cond (bM s.high 0 60) 0 1) 1
theorem H8 (s:bf):xG s=some (xT s):=by
 unfold xG xT;simp only[eW,ag];cases bM s.back 1 20<;>cases bM s.high 0 60<;>rfl
def dL (u:aj)(s:bf)(x:bX):an:=bI (s.high*1*(x.aL+s.back)+(x.high - s.high*1)*(u.bH+s.back)) (1*(x.aL+s.back)).toNat
theorem BC (u:aj)(F:Fit u)(s:bf)(hs:(1<=s.back/\s.back<=20)/\0<=s.high/\s.high<=60)(i:Nat)(x:bX)(a:u.ax[i]?=some x)(at_:Int):
  ko u s at_ ⟨x.aL,⟨x.high,1⟩⟩=some ⟨⟨x.aL,⟨x.high,1⟩⟩,at_,dL u s x⟩/\mR u s x.aL ⟨x.high,1⟩=some (dL u s x):=by
 have p:=F.kD i x a
 have f:=F.bH
 have he:Sm (⟨x.high,1⟩:an) 10000 100:=⟨by show x.high.natAbs<=10000;omega,by show (0:Int)<1;omega,by show (1:Int)<=((100:Nat):Int);omega⟩
 obtain ⟨c,b,d,e⟩:=BB u F s hs at_ x.aL (by omega) ⟨x.high,1⟩ he
 have:c=dL u s x:=e
 subst this
 exact ⟨b,d⟩
theorem BD (u:aj)(F:Fit u)(s:bf)(hs:(1<=s.back/\s.back<=20)/\0<=s.high/\s.high<=60)(i:Nat)(x:bX)(a:u.ax[i]?=some x):Sm (dL u s x) 10000 100:=by
 have p:=F.kD i x a;have b:=F.bH;unfold dL;rw[Int.mul_one,Int.one_mul];have c:(s.high*(x.aL+s.back)).natAbs<=60*79:=dy (by omega) (by omega);have b2:((x.high - s.high)*(u.bH+s.back)).natAbs<=60*80:=dy (by omega) (by omega);have h:=jd (s.high*(x.aL+s.back)+(x.high - s.high)*(u.bH+s.back)) (x.aL+s.back).toNat (by omega);exact ⟨Nat.le_trans h.num (by omega),h.den.1,by have:=h.den.2;omega⟩
def foldI {α σ:Type}(g:Nat->α->σ->σ):Nat->List α->σ->σ
 |_,[],s=>s
 |i,x::l,s=>foldI g (i+1) l (g i x s)
theorem jL {α σ ρ:Type}{f:Nat->α->σ->Option (Fl σ ρ)}{g:Nat->α->σ->σ}{I:Nat->σ->Prop}:∀(l:List α) (i:Nat) (s:σ),I i s->(∀j x s,l[j]?=some x->I (i+j) s->f (i+j) x s=some (.nx (g (i+j) x s))/\I (i+j+1) (g (i+j) x s))->
  bJ f i l s=some (.nx (foldI g i l s))/\I (i+l.length) (foldI g i l s)
 |[],i,s,hs,_=>⟨rfl,hs⟩
 |x::l,i,s,hs,h=>by
  obtain ⟨a,b⟩:=h 0 x s rfl hs
  simp only[Nat.add_zero] at a b
  unfold bJ foldI
  rw[a]
  have:=jL l (i+1) _ b fun j y s c hs=>by
   have:=h (j+1) y s (by simpa using c) (by rwa [show i+(j+1)=i+1+j by omega])
   rwa [show i+(j+1)=i+1+j by omega] at this
  rwa [show i+1+l.length=i+(x::l).length by simp;omega] at this
theorem BE {α σ τ ρ:Type}{f:τ->Option (Fl τ ρ)}{g:Nat->α->σ->σ}{I:Nat->σ->Prop}(e:σ->Int->τ)(l:List α)(h:∀(i:Nat) x s,l[i]?=some x->I i s->f (e s (i:Int))=some (.nx (e (g i x s) ((i+1:Nat):Int)))/\I (i+1) (g i x s))(a:∀s,f (e s (l.length:Int))=some (.bk (e s (l.length:Int)))):
  ∀(k i n:Nat) (s:σ),I i s->i+k=l.length->k<n->aU f n (e s (i:Int))=some (.nx (e (foldI g i (l.drop i) s) (l.length:Int)))/\I l.length (foldI g i (l.drop i) s)
 |0,i,n+1,s,hs,hi,_=>by
  obtain rfl:i=l.length:=by omega
  unfold aU
  rw[a,List.drop_length]
  exact ⟨rfl,hs⟩
 |k+1,i,n+1,s,hs,hi,m=>by
  have b:i<l.length:=by omega
  have c:l[i]?=some l[i]:=List.getElem?_eq_getElem b
  obtain ⟨d,j⟩:=h i _ s c hs
  unfold aU
  rw[d,List.drop_eq_getElem_cons b]
  unfold foldI
  exact BE e l h a k (i+1) n _ j (by omega) (by omega)
theorem oo {α σ τ ρ:Type}{f:τ->Option (Fl τ ρ)}{g:Nat->α->σ->σ}{I:Nat->σ->Prop}(e:σ->Int->τ)(l:List α)(a:l.length<=1000)(h:∀(i:Nat) x s,l[i]?=some x->I i s->f (e s (i:Int))=some (.nx (e (g i x s) ((i+1:Nat):Int)))/\I (i+1) (g i x s))(b:∀s,f (e s (l.length:Int))=some (.bk (e s (l.length:Int))))(s:σ)(hs:I 0 s):
  aU f fu (e s 0)=some (.nx (e (foldI g 0 l s) (l.length:Int)))/\I l.length (foldI g 0 l s):=by
 have:=BE e l h b l.length 0 fu s hs (by omega) (Nat.lt_of_le_of_lt a (by decide))
 simpa using this
theorem BG {α σ:Type}{g g':Nat->α->σ->σ}:∀(l:List α) (i:Nat) (s:σ),(∀j x s,i<=j->g j x s=g' j x s)->foldI g i l s=foldI g' i l s
 |[],_,_,_=>rfl
 |x::l,i,s,h=>by
  unfold foldI
  rw[h i x s (Nat.le_refl _)]
  exact BG l (i+1) _ fun j x s a=>h j x s (by omega)
def bQ (a b:an):Bool:=decide (a.num*b.den<b.num*a.den)
abbrev SR (r:an):Prop:=Sm r 2000000 8000
theorem Sm.mono {r:an}{A B a b:Nat}(h:Sm r A B)(c:A<=a)(hb:B<=b):Sm r a b:=⟨Nat.le_trans h.num c,h.den.1,by have:=h.den.2;omega⟩
theorem tv (u:aj)(F:Fit u)(s:bf)(hs:(1<=s.back/\s.back<=20)/\0<=s.high/\s.high<=60)(i:Nat)(x:bX)(a:u.ax[i]?=some x):SR (dL u s x):=(BD u F s hs i x a).mono (by decide) (by decide)
theorem kE {a b:an}(c:SR a)(hb:SR b):lD a b=some (bQ a b)/\ep a b=some (bQ a b):=qy c hb (by decide) (by decide)
def gB (u:aj)(s:bf)(i:Nat)(x:bX)(st:Int×an):Int×an:=cond (bQ st.2 (dL u s x)) ((i:Int),dL u s x) st
def iA (u:aj)(s:bf)(i:Nat)(x:bX):bB:=⟨⟨x.aL,⟨x.high,1⟩⟩,(i:Int),dL u s x⟩
def ff (u:aj)(s:bf):Nat->List bX->List bB
 |_,[]=>[]
 |i,x::l=>iA u s i x::ff u s (i+1) l
theorem BH (u:aj)(s:bf):∀(l:List bX) (i:Nat) (a:List bB),foldI (fun i x st=>st++[iA u s i x]) i l a=a++ff u s i l
 |[],i,a=>by simp[foldI,ff]
 |x::l,i,a=>by simp[foldI,ff,BH u s l (i+1)]
def gC (i:Nat)(x:bB)(st:bB):bB:=cond (bQ st.high x.high) x st
theorem BI (u:aj)(s:bf):∀(l:List bX) (i j:Nat) (c:bB),let r:=foldI gC j (ff u s i l) c;(r.at_,r.high)=foldI (gB u s) i l (c.at_,c.high)
 |[],i,j,c=>rfl
 |x::l,i,j,c=>by
  simp only[ff,foldI]
  have:=BI u s l (i+1) (j+1) (gC j (iA u s i x) c)
  simp only at this
  rw[this]
  congr 1
  unfold gC gB iA
  cases bQ c.high (dL u s x)<;>rfl
theorem tw (n:Int):gd n=some ⟨n,1⟩:=rfl
def dM (u:aj)(s:bf):Int×an:=match u.ax with
 |[]=>(0,⟨0,0⟩)
 |x::l=>foldI (gB u s) 1 l (0,dL u s x)
section
variable {u : aj} {s : bf} (F : Fit u) (hs : (1 ≤ s.back ∧ s.back ≤ 20) ∧ 0 ≤ s.high ∧ s.high ≤ 60)
include F hs
theorem H9:bJ (nP u s) 0 u.ax ([]:List bB)=some (.nx (ff u s 0 u.ax)):=by
 have c:=F.ax;have:=jL (f:=nP u s) (ρ:=bB) (g:=fun i x st=>st++[iA u s i x]) (I:=fun i st=>st.length=i) u.ax 0 [] rfl (fun j x st a b=>?_)
 ·rw[this.1,BH];rfl
 ·have d:j<u.ax.length:=(List.getElem?_eq_some_iff.1 a).1;refine ⟨?_,by simp[b]⟩;unfold nP;rw[Nat.zero_add] at b ⊢;simp only[tw,ag,(BC u F s hs j x a (j:Int)).1];unfold c8;rw[if_pos (by simp;omega)];rfl
theorem BJ:∀(l:List bX) (i:Nat),(∀(j:Nat) x,l[j]?=some x->u.ax[i+j]?=some x)->∀(j:Nat) c,(ff u s i l)[j]?=some c->SR c.high
 |[],_,_,j,c,h=>by simp[ff] at h
 |x::l,i,a,0,c,h=>by
  simp[ff] at h
  subst h
  exact tv u F s hs i x (a 0 x rfl)
 |x::l,i,a,j+1,c,h=>BJ l (i+1) (fun j y b=>by have:=a (j+1) y (by simpa using b);rwa [show i+(j+1)=i+1+j by omega] at this) j c (by simpa [ff] using h)
theorem oq:∃c,lu u s=some c/\(c.at_,c.high)=dM u s/\SR c.high/\s6 u s=some (dM u s):=by
 have d:=F.ax;have p:=H9 F hs;obtain ⟨a,rest,he⟩:∃x l,u.ax=x::l:=by
  cases h:u.ax with
  |nil=>rw[h] at d;simp at d
  |cons x l=>exact ⟨x,l,rfl⟩
 have q:u.ax[0]?=some a:=by rw[he];rfl
 have r:∀(j:Nat) x,rest[j]?=some x->u.ax[1+j]?=some x:=fun j x h=>by rw[he,Nat.add_comm];simpa using h
 have w:rest.length<=4:=by rw[he] at d;simp at d;omega
 have t:SR (dL u s a):=tv u F s hs 0 a q
 have hg:=jL (f:=pZ iX) (ρ:=bB) (g:=gC) (I:=fun _ c=>SR c.high) (ff u s 1 rest) 0 (iA u s 0 a) t (fun j c st n e=>by
  have b:=BJ F hs rest 1 r j c n;refine ⟨?_,?_⟩
  ·unfold pZ iX gC;simp only[(kE e b).2,ag];cases bQ st.high c.high<;>rfl
  ·unfold gC;cases bQ st.high c.high
   ·exact e
   ·exact b)
 refine ⟨foldI gC 0 (ff u s 1 rest) (iA u s 0 a),?_,?_,hg.2,?_⟩
 ·unfold lu;rw[p,he];simp only[ag,aD,ff];rw[show aY (iA u s 0 a::ff u s (0+1) rest) 0=some (iA u s 0 a) from rfl];simp only;have:iT (iA u s 0 a::ff u s (0+1) rest) 1 (((iA u s 0 a::ff u s (0+1) rest).length:Nat):Int)=some (ff u s 1 rest):=by
   unfold iT;rw[if_pos (by simp only[List.length_cons];omega)];simp
  rw[this];simp only;unfold mC;rw[hg.1];rfl
 ·have:=BI u s rest 1 0 (iA u s 0 a);simp only at this;rw[this];unfold dM;rw[he];rfl
 ·unfold s6;have v:=oo (f:=s5 u s) (g:=fun i x st=>if i=0 then ((0:Int),dL u s x) else gB u s i x st) (I:=fun i st=>i=0\/SR st.2) (fun st i=>(st.1,i,st.2)) u.ax (by omega) (fun i x st k e=>?_) (fun st=>?_) ((0:Int),(⟨0,0⟩:an)) (.inl rfl)
  ·rw[v.1,he];simp only[ag,aD,foldI,if_pos];rw[BG (g':=gB u s) rest (0+1) _ (fun j x st n=>if_neg (by omega))];unfold dM;rw[he]
  ·have y:i<u.ax.length:=(List.getElem?_eq_some_iff.1 k).1;have b:=tv u F s hs i x k;unfold s5;simp only;rw[show decide ((i:Int)<(u.ax.length:Int))=true by simp;omega];simp only[cond_true];rw[show aY u.ax (i:Int)=some x by unfold aY;rw[if_pos (by omega)];simpa using k];simp only[ag,(BC u F s hs i x k 0).2];have hw:IntKind.i64.wrap ((i:Int)+1)=((i+1:Nat):Int):=by rw[cI (by omega)];rfl
   rw[hw];by_cases m:i=0
   ·subst m;exact ⟨rfl,.inr b⟩
   ·have o:SR st.2:=e.resolve_left m;rw[show (((i:Nat):Int)==0)=false by simp;omega];simp only[cond_false,(kE o b).1,if_neg m];unfold gB;cases bQ st.2 (dL u s x)
    ·exact ⟨rfl,.inr o⟩
    ·exact ⟨rfl,.inr b⟩
  ·unfold s5;simp
end
section
variable {u : aj} {s : bf} (F : Fit u) (hs : (1 ≤ s.back ∧ s.back ≤ 20) ∧ 0 ≤ s.high ∧ s.high ≤ 60)
include F hs
theorem tA:Sm (⟨u.bK,1⟩:an) 60 1:=⟨by have:=F.bK;show u.bK.natAbs<=60;omega,by show (0:Int)<1;omega,by show (1:Int)<=((1:Nat):Int);omega⟩
theorem qz:SR (dM u s).2:=by
 obtain ⟨c,d,a,b,e⟩:=oq F hs;rw[<-a];exact b
theorem BK:∃r,mH u s=some r/\s8 u s=some r:=by
 obtain ⟨c,b,d,a,e⟩:=oq F hs;have e2:c.high=(dM u s).2:=by rw[<-d]
 have p:=tA F hs;have f:=xR p a (by decide) (by decide) (by decide);have g:=xQ p a (by decide) (by decide);unfold mH s8;rw[b,e];simp only[ag,tw,f,<-e2,g];exact ⟨_,rfl,rfl⟩
end
theorem BL {a b c:an}(d:0<a.den)(hb:0<b.den)(h:0<c.den)(e:bQ b a=false)(f:bQ b c=true):bQ c a=false:=by
 unfold bQ at*;simp only[decide_eq_false_iff_not,decide_eq_true_eq,Int.not_lt] at*;have k1:a.num*b.den*c.den<=b.num*a.den*c.den:=Int.mul_le_mul_of_nonneg_right e (by omega);have i:b.num*c.den*a.den<c.num*b.den*a.den:=Int.mul_lt_mul_of_pos_right f d;have g:b.den*(a.num*c.den)<b.den*(c.num*a.den):=by
  have e1:b.den*(a.num*c.den)=a.num*b.den*c.den:=by grind
  have e2:b.den*(c.num*a.den)=c.num*b.den*a.den:=by grind
  have j:b.num*a.den*c.den=b.num*c.den*a.den:=by grind
  omega
 exact Int.le_of_lt (Int.lt_of_mul_lt_mul_left g (by omega))
theorem je (a:an):bQ a a=false:=by unfold bQ;simp
theorem xU {a b:an}(h:bQ a b=true):bQ b a=false:=by
 unfold bQ at*;simp only[decide_eq_false_iff_not,decide_eq_true_eq,Int.not_lt] at*;omega
def xV (u:aj)(s:bf)(aL:Int)(e:an):an:=bI (s.high*e.den*(aL+s.back)+(e.num - s.high*e.den)*(u.bH+s.back)) (e.den*(aL+s.back)).toNat
def dG (u:aj)(x:cc):an:=match iZ u x.place with
 |some r=>bI (r.num+x.de*r.den) r.den.toNat
 |none=>⟨0,0⟩
def eC (u:aj)(s:bf)(x:cc):an:=xV u s x.place (dG u x)
section
variable {u : aj} {s : bf} (F : Fit u) (hs : (1 ≤ s.back ∧ s.back ≤ 20) ∧ 0 ≤ s.high ∧ s.high ≤ 60)
include F hs
theorem xW {i:Nat}{x:cc}(t:u.props[i]?=some x):∃r,iZ u x.place=some r/\qo u x.place=some r/\jz r ⟨x.de,1⟩=some (dG u x)/\
  iz (IntKind.i64.wrap (r.num+IntKind.i64.wrap (x.de*r.den))) r.den=some (dG u x)/\(∀at_,ko u s at_ ⟨x.place,dG u x⟩=some ⟨⟨x.place,dG u x⟩,at_,eC u s x⟩)/\mR u s x.place (dG u x)=some (eC u s x)/\SR (eC u s x):=by
 obtain ⟨v,p2,p3⟩:=F.prop i x t
 obtain ⟨a,z,j,k,l,H⟩:=HY u F x.place
 rw[v] at l
 have hb:bM x.place a.aL z.aL=true:=(Option.some.inj l).symm
 unfold bM at hb
 simp only[Bool.and_eq_true,decide_eq_true_eq] at hb
 have I:=F.kD _ a j
 have J:=F.kD _ z k
 have K:=F.bH
 obtain ⟨r,m,w,b⟩:=HX u F x.place a z j k hb.1 hb.2
 have sh:Sm (⟨x.de,1⟩:an) 20 1:=⟨by show x.de.natAbs<=20;omega,by show (0:Int)<1;omega,by show (1:Int)<=((1:Nat):Int);omega⟩
 have L:(x.de*r.den).natAbs<=20*60:=dy (by omega) (by have:=b.den;omega)
 obtain ⟨d,hd⟩:∃d:Nat,r.den=d:=⟨r.den.toNat,by have:=b.den;omega⟩
 have o:0<d:=by have:=b.den;omega
 have M:d<=60:=by have:=b.den;omega
 have N:=b.num
 have h:dG u x=bI (r.num+x.de*r.den) d:=by
  unfold dG
  rw[m]
  simp only
  rw[hd,Int.toNat_natCast]
 have e:Sm (dG u x) 10000 100:=by
  rw[h]
  have:=jd (r.num+x.de*r.den) d o
  exact ⟨Nat.le_trans this.num (by omega),this.den.1,by have:=this.den.2;omega⟩
 have y:=tr b sh (by decide) (by decide)
 have p:=qt (r.num+x.de*r.den) d (by omega) o (by omega)
 have q:∀at_,ko u s at_ ⟨x.place,dG u x⟩=some ⟨⟨x.place,dG u x⟩,at_,eC u s x⟩/\mR u s x.place (dG u x)=some (eC u s x):=fun at_=>by
  obtain ⟨c,c1,c2,c3⟩:=BB u F s hs at_ x.place ⟨by omega,by omega⟩ (dG u x) e
  subst c3
  exact ⟨c1,c2⟩
 refine ⟨r,m,w,?_,?_,fun at_=>(q at_).1,(q 0).2,?_⟩
 ·rw[y,h]
  show some (bI (r.num*1+x.de*r.den) (r.den*1).toNat)=_
  rw[Int.mul_one,Int.mul_one,hd,Int.toNat_natCast]
 ·rw[eg (n:=x.de*r.den) (by omega),eg (by omega),h]
  rw[hd] at p ⊢
  exact p
 ·unfold eC xV
  obtain ⟨f,A⟩:∃f:Nat,x.place+s.back=f:=⟨(x.place+s.back).toNat,by omega⟩
  obtain ⟨g,B⟩:∃n:Nat,(dG u x).den=n:=⟨(dG u x).den.toNat,by have:=e.den;omega⟩
  have C:0<g:=by have:=e.den;omega
  have D:g<=100:=by have:=e.den;omega
  have O:=e.num
  have E:(s.high*(dG u x).den).natAbs<=60*100:=dy (by omega) (by omega)
  have b2:(s.high*(dG u x).den*(x.place+s.back)).natAbs<=6000*80:=dy E (by omega)
  have b3:(((dG u x).num - s.high*(dG u x).den)*(u.bH+s.back)).natAbs<=16000*80:=dy (by omega) (by omega)
  have G:((dG u x).den*(x.place+s.back)).toNat=g*f:=by rw[B,A,<-Int.natCast_mul,Int.toNat_natCast]
  rw[G]
  have:=jd (s.high*(dG u x).den*(x.place+s.back)+((dG u x).num - s.high*(dG u x).den)*(u.bH+s.back)) (g*f) (Nat.mul_pos C (by omega))
  have P:g*f<=100*80:=Nat.mul_le_mul D (by omega)
  exact ⟨Nat.le_trans this.num (by omega),this.den.1,by have:=this.den.2;omega⟩
end
def same (x:cc)(e:an)(y:bB):Bool:=(y.spot.aL==x.place)&&((y.spot.high.num==e.num)&&(y.spot.high.den==e.den))
def gT (u:aj)(s:bf)(i:Nat)(x:cc)(st:List bB):List bB:=cond (st.any (same x (dG u x))) st (st++[⟨⟨x.place,dG u x⟩,(i:Int),eC u s x⟩])
def cw (a b:an):an:=cond (bQ a b) b a
def gM (u:aj)(s:bf)(i:Nat)(x:cc)(b:an):an:=if i=0 then eC u s x else cw b (eC u s x)
theorem BM (x:cc)(e:an):∀(l:List bB) (i:Nat),bJ (p5 x e) i l ()=some (cond (l.any (same x e)) (.br 1 ()) (.nx ()):Fl Unit (List bB))
 |[],i=>rfl
 |y::l,i=>by
  unfold bJ p5
  rw[show ((y.spot.aL==x.place)&&((y.spot.high.num==e.num)&&(y.spot.high.den==e.den)))=same x e y from rfl,List.any_cons]
  cases same x e y
  ·simp only[cond_false,ag,Bool.false_or]
   exact BM x e l (i+1)
  ·rfl
theorem qA {a b:an}(c:SR a)(hb:SR b):fR a b=some (cw a b):=by
 unfold fR cw;simp only[(kE c hb).1,ag];cases bQ a b<;>rfl
theorem kF {a b:an}(c:SR a)(hb:SR b):SR (cw a b):=by unfold cw;cases bQ a b;exact c;exact hb
def tB:List bB->an
 |[]=>⟨0,0⟩
 |c::l=>(foldI gC 0 l c).high
theorem BN {α σ:Type}{g:Nat->α->σ->σ}:∀(l:List α) (i:Nat) (y:α) (s:σ),foldI g i (l++[y]) s=g (i+l.length) y (foldI g i l s)
 |[],i,y,s=>rfl
 |x::l,i,y,s=>by
  simp only[List.cons_append,foldI,List.length_cons]
  rw[BN l (i+1) y]
  congr 1
  omega
theorem Ia (c:bB)(l:List bB)(y:bB):tB (c::l++[y])=cw (tB (c::l)) y.high:=by
 show (foldI gC 0 (l++[y]) c).high=_;rw[BN];show (cond (bQ (foldI gC 0 l c).high y.high) y (foldI gC 0 l c)).high=cond (bQ (foldI gC 0 l c).high y.high) y.high (foldI gC 0 l c).high;cases bQ (foldI gC 0 l c).high y.high<;>rfl
structure Tp (u:aj)(s:bf)(st:List bB)(b:an):Prop where
 ne:st≠[]
 BO:b=tB st
 sm:SR b
 le:∀y∈st,bQ b y.high=false/\SR y.high/\y.high=xV u s y.spot.aL y.spot.high
theorem Tp.step {u:aj}{s:bf}{st:List bB}{b:an}(h:Tp u s st b){x:cc}(f:SR (eC u s x))(i:Nat):Tp u s (gT u s i x st) (cw b (eC u s x)):=by
 unfold gT;cases m:st.any (same x (dG u x)) with
 |true=>
  simp only[cond_true];obtain ⟨y,a,g⟩:=List.any_eq_true.1 m;have d:=h.le y a;have e:y.high=eC u s x:=by
   rw[d.2.2];unfold same at g;simp only[Bool.and_eq_true,beq_iff_eq] at g;obtain ⟨e1,e2,j⟩:=g;unfold eC;have:y.spot.high=dG u x:=by
    cases n:y.spot.high;cases o:dG u x;rw[n,o] at e2 j;simp only at e2 j;rw[e2,j]
   rw[e1,this]
  have:cw b (eC u s x)=b:=by
   unfold cw;rw[<-e,d.1];rfl
  rw[this];exact h
 |false=>
  simp only[cond_false];obtain ⟨c,l,rfl⟩:∃c l,st=c::l:=by
   cases st with
   |nil=>exact absurd rfl h.ne
   |cons c l=>exact ⟨c,l,rfl⟩
  refine ⟨by simp,?_,kF h.sm f,fun y a=>?_⟩
  ·rw[Ia,<-h.BO]
  ·rcases List.mem_append.1 a with a|a
   ·have d:=h.le y a;refine ⟨?_,d.2⟩;unfold cw;cases k:bQ b (eC u s x) with
    |false=>exact d.1
    |true=>exact BL d.2.1.den.1 h.sm.den.1 f.den.1 d.1 k
   ·simp at a;subst a;refine ⟨?_,f,rfl⟩;unfold cw;cases k:bQ b (eC u s x) with
    |false=>exact k
    |true=>exact je _
theorem Tp.fold {u:aj}{s:bf}:∀(l:List cc) (i:Nat) (st:List bB) (b:an),1<=i->(∀x∈l,SR (eC u s x))->Tp u s st b->Tp u s (foldI (gT u s) i l st) (foldI (gM u s) i l b)
 |[],_,_,_,_,_,h=>h
 |x::l,i,st,b,hi,a,h=>by
  unfold foldI
  have e:gM u s i x b=cw b (eC u s x):=if_neg (by omega)
  rw[e]
  exact Tp.fold l (i+1) _ _ (by omega) (fun y c=>a y (List.mem_cons_of_mem _ c)) (h.step (a x (List.mem_cons_self ..)) i)
theorem Tp.all {u:aj}{s:bf}(x:cc)(l:List cc)(b:∀y∈x::l,SR (eC u s y)):Tp u s (foldI (gT u s) 0 (x::l) []) (foldI (gM u s) 0 (x::l) ⟨0,0⟩):=by
 unfold foldI;have c:=b x (List.mem_cons_self ..);refine Tp.fold l 1 _ _ (Nat.le_refl _) (fun y a=>b y (List.mem_cons_of_mem _ a)) ⟨by simp[gT],?_,?_,?_⟩
 ·simp[gT,gM,tB,foldI]
 ·exact c
 ·intro y a;simp[gT] at a;subst a;exact ⟨by simp[gM];exact je _,c,rfl⟩
section
variable {u : aj} {s : bf} (F : Fit u) (hs : (1 ≤ s.back ∧ s.back ≤ 20) ∧ 0 ≤ s.high ∧ s.high ≤ 60)
include F hs
theorem Ib:∀x∈u.props,SR (eC u s x):=fun x a=>by
 obtain ⟨i,hi,rfl⟩:=List.getElem_of_mem a
 obtain ⟨r,_,_,_,_,_,_,h⟩:=xW F hs (i:=i) (List.getElem?_eq_getElem hi)
 exact h
theorem Ic:jB u s=some (foldI (gT u s) 0 u.props []):=by
 have h:=F.props;unfold jB
 have:=jL (f:=p6 u s) (ρ:=List bB) (g:=gT u s) (I:=fun i st=>st.length<=i) u.props 0 [] (Nat.le_refl _) (fun j x st a b=>by
  have k:j<u.props.length:=(List.getElem?_eq_some_iff.1 a).1;obtain ⟨r,c,l,d,m,e,n,o⟩:=xW F hs a;rw[Nat.zero_add] at b ⊢;unfold p6;simp only[c,ag,tw,d,BM];unfold gT;cases p:st.any (same x (dG u x)) with
  |true=>exact ⟨rfl,by simp only[cond_true];omega⟩
  |false=>
   simp only[cond_false,aD,ag,e];unfold c8;rw[if_pos (by simp;omega)]
   exact ⟨rfl,by simp;omega⟩)
 rw[this.1];rfl
theorem xX:lF u s=some (foldI (gM u s) 0 u.props ⟨0,0⟩,decide (0<(u.props.length:Int))):=by
 have m:=F.props;unfold lF
 have:=oo (f:=s9 u s) (g:=gM u s) (I:=fun i b=>i=0\/SR b) (fun b i=>(i,b)) u.props (by omega) (fun i x b c h=>by
  have n:i<u.props.length:=(List.getElem?_eq_some_iff.1 c).1;obtain ⟨r,o,j,p,k,q,l,a⟩:=xW F hs c;unfold s9;simp only;rw[show decide ((i:Int)<(u.props.length:Int))=true by simp;omega];simp only[cond_true];rw[show aY u.props (i:Int)=some x by unfold aY;rw[if_pos (by omega)];simpa using c];have hw:IntKind.i64.wrap ((i:Int)+1)=((i+1:Nat):Int):=by rw[cI (by omega)];rfl
  simp only[ag,j,k,l,hw];unfold gM;by_cases d:i=0
  ·subst d;have e:cw (eC u s x) (eC u s x)=eC u s x:=by unfold cw;rw[je];rfl
   rw[show (((0:Nat):Int)==0)=true from rfl];simp only[cond_true,qA a a,e,if_pos];exact ⟨trivial,.inr a⟩
  ·have hb:SR b:=h.resolve_left d;rw[show (((i:Nat):Int)==0)=false by simp;omega];simp only[cond_false,qA hb a,if_neg d]
   exact ⟨trivial,.inr (kF hb a)⟩) (fun b=>by unfold s9;simp) (⟨0,0⟩:an) (.inl rfl)
 rw[this.1];rfl
theorem BP:(u.props=[]/\jB u s=some []/\lF u s=some (⟨0,0⟩,false))\/
  ∃st b,jB u s=some st/\lF u s=some (b,true)/\Tp u s st b:=by
 have a:=Ic F hs
 have c:=xX F hs
 have d:=Ib F hs
 cases e:u.props with
 |nil=>
  rw[e] at a c
  exact .inl ⟨rfl,a,c⟩
 |cons x l=>
  rw[e] at a c d
  refine .inr ⟨_,_,a,?_,Tp.all x l d⟩
  rw[c]
  rw[show decide (0<((x::l).length:Int))=true by simp]
end
theorem ot {a b c:an}(e:0<a.den)(hb:0<b.den)(f:0<c.den)(d:bQ a b=false)(g:bQ b c=false):bQ a c=false:=by
 cases h:bQ a c with
 |false=>rfl
 |true=>
  have:=BL hb e f d h;unfold bQ at*;simp only[decide_eq_false_iff_not,decide_eq_true_eq,Int.not_lt] at*;have k1:b.num*a.den*c.den<=a.num*b.den*c.den:=Int.mul_le_mul_of_nonneg_right d (by omega);have i:a.num*c.den*b.den<c.num*a.den*b.den:=Int.mul_lt_mul_of_pos_right h hb;have j:c.num*b.den*a.den<=b.num*c.den*a.den:=Int.mul_le_mul_of_nonneg_right g (by omega);have e1:a.num*b.den*c.den=a.num*c.den*b.den:=by grind
  have e2:c.num*b.den*a.den=c.num*a.den*b.den:=by grind
  have k:b.num*c.den*a.den=b.num*a.den*c.den:=by grind
  omega
theorem Ie {a b c:an}(d:0<a.den)(hb:0<b.den)(e:0<c.den)(f:bQ a b=true)(g:bQ b c=true):bQ a c=true:=by
 unfold bQ at*;simp only[decide_eq_true_eq] at*;have k1:a.num*b.den*c.den<b.num*a.den*c.den:=Int.mul_lt_mul_of_pos_right f e;have i:b.num*c.den*a.den<c.num*b.den*a.den:=Int.mul_lt_mul_of_pos_right g d;have h:b.den*(a.num*c.den)<b.den*(c.num*a.den):=by
  have e1:b.den*(a.num*c.den)=a.num*b.den*c.den:=by grind
  have e2:b.den*(c.num*a.den)=c.num*b.den*a.den:=by grind
  have j:b.num*a.den*c.den=b.num*c.den*a.den:=by grind
  omega
 exact Int.lt_of_mul_lt_mul_left h (by omega)
theorem BQ {e y:an}(he:SR e)(a:SR y):∀(l:List bB) (b:an),(∀x∈l,SR x.high)->SR b->∀(i j:Nat),
  foldI (fun _ (x:bB) st=>cw st x.high) i l (cw e b)=cw e (foldI (fun _ (x:bB) st=>cw st x.high) j l b)
 |[],b,_,_,i,j=>rfl
 |x::l,b,g,hb,i,j=>by
  unfold foldI
  have c:=g x (List.mem_cons_self ..)
  have key:cw (cw e b) x.high=cw e (cw b x.high):=by
   unfold cw
   cases d:bQ e b<;>cases f:bQ b x.high<;>simp only[cond_true,cond_false,d,f]
   ·have:=ot he.den.1 hb.den.1 c.den.1 d f
    rw[this];rfl
   ·rw[Ie he.den.1 hb.den.1 c.den.1 d f]
    rfl
  rw[key]
  exact BQ he a l _ (fun y a=>g y (List.mem_cons_of_mem _ a)) (kF hb c) (i+1) (j+1)
theorem BR:∀(l:List bB) (i:Nat) (c:bB),(foldI gC i l c).high=foldI (fun _ (x:bB) st=>cw st x.high) i l c.high
 |[],_,_=>rfl
 |x::l,i,c=>by
  unfold foldI
  rw[BR l (i+1)]
  congr 1
  unfold gC cw
  cases bQ c.high x.high<;>rfl
theorem BS {a b:an}(c:SR a)(hb:SR b):fO ep a [b]=some (cw a b):=by
 unfold fO bJ kq;simp only[(kE c hb).2,ag];unfold cw;cases bQ a b<;>rfl
theorem Ig {f:Nat->bB->an->Option (Fl an an)}(c:f=mI\/f=mJ){st:List bB}(d:∀x∈st,SR x.high){e:an}(he:SR e):
  bJ f 0 st e=some (.nx (foldI (fun _ (x:bB) st=>cw st x.high) 0 st e))/\SR (foldI (fun _ (x:bB) st=>cw st x.high) 0 st e):=
 jL (I:=fun _ r=>SR r) st 0 e he (fun j x r g a=>by
  have b:=d x (List.mem_of_getElem? g)
  rcases c with rfl|rfl
  ·unfold mI
   simp only[BS a b,ag]
   exact ⟨trivial,kF a b⟩
  ·unfold mJ
   simp only[BS a b,ag]
   exact ⟨trivial,kF a b⟩)
section
variable {u : aj} {s : bf} (F : Fit u) (hs : (1 ≤ s.back ∧ s.back ≤ 20) ∧ 0 ≤ s.high ∧ s.high ≤ 60)
include F hs
theorem BT {a b:an}(c:SR a)(hb:SR b):∃d,jA a b=some d/\jJ a b=some d/\Sm d 40000000000 64000000:=by
 have e:=xR c hb (by decide) (by decide) (by decide);have f:=xQ c hb (by decide) (by decide);refine ⟨_,e,f,?_⟩;have g:=dy c.num (show b.den.natAbs<=8000 by have:=hb.den;omega);have h:=dy hb.num (show a.den.natAbs<=8000 by have:=c.den;omega);have i:=dy (show a.den.natAbs<=8000 by have:=c.den;omega) (show b.den.natAbs<=8000 by have:=hb.den;omega);have j:0<a.den*b.den:=Int.mul_pos c.den.1 hb.den.1;have:=jd (a.num*b.den - b.num*a.den) (a.den*b.den).toNat (by omega);exact ⟨Nat.le_trans this.num (by omega),this.den.1,by have:=this.den.2;omega⟩
theorem BU:Sm (⟨0,1⟩:an) 1 1:=⟨by decide,by decide,by decide⟩
theorem BV {d:an}(hd:Sm d 40000000000 64000000):∃m,fO ep d [⟨0,1⟩]=some m/\fR d ⟨0,1⟩=some m/\Sm m 40000000000 64000000:=by
 have a:=qy hd (BU F hs) (by decide) (by decide);refine ⟨cond (bQ d ⟨0,1⟩) ⟨0,1⟩ d,?_,?_,?_⟩
 ·unfold fO bJ kq;simp only[a.2,ag];unfold bQ;cases decide (d.num*(⟨0,1⟩:an).den<(⟨0,1⟩:an).num*d.den)<;>rfl
 ·unfold fR;simp only[a.1,ag];unfold bQ;cases decide (d.num*(⟨0,1⟩:an).den<(⟨0,1⟩:an).num*d.den)<;>rfl
 ·cases bQ d ⟨0,1⟩
  ·exact hd
  ·exact (BU F hs).mono (by decide) (by decide)
theorem BW {f:Nat->bB->an->Option (Fl an an)}(k:f=mI\/f=mJ){e:an}(he:SR e):
  ∃st m,jB u s=some st/\bJ f 0 st e=some (.nx m)/\SR m/\((lF u s=some (⟨0,0⟩,false)/\m=e)\/∃b,lF u s=some (b,true)/\fR e b=some m):=by
 rcases BP F hs with ⟨_,d,g⟩|⟨st,b,d,g,a⟩
 ·exact ⟨[],e,d,rfl,he,.inl ⟨g,rfl⟩⟩
 ·have h:∀x∈st,SR x.high:=fun x i=>(a.le x i).2.1
  obtain ⟨k1,n⟩:=Ig k h he
  refine ⟨st,_,d,k1,n,.inr ⟨b,g,?_⟩⟩
  rw[qA he a.sm]
  obtain ⟨c,l,rfl⟩:∃c l,st=c::l:=by
   cases st with
   |nil=>exact absurd rfl a.ne
   |cons c l=>exact ⟨c,l,rfl⟩
  have j:=h c (List.mem_cons_self ..)
  have e1:b=foldI (fun _ (x:bB) st=>cw st x.high) 0 l c.high:=by rw[a.BO];exact BR l 0 c
  have e2:=BQ he j l c.high (fun x i=>h x (List.mem_cons_of_mem _ i)) j 1 0
  congr 1
  rw[e1,<-e2]
  rfl
theorem xY:∃r,kr u s=some r/\qp u s=some r/\Sm r 40000000000 64000000:=by
 obtain ⟨c,j,k,g,l⟩:=oq F hs;have e2:c.high=(dM u s).2:=by rw[<-k]
 have p:SR (⟨u.bK,1⟩:an):=(tA F hs).mono (by decide) (by decide);unfold kr qp;rw[j,l];simp only[ag,tw,<-e2,(kE g p).1,(kE g p).2];cases bQ c.high ⟨u.bK,1⟩ with
 |true=>
  simp only[cond_true];obtain ⟨st,m,t1,t2,t3,t4⟩:=BW F hs (.inl rfl) (f:=mI) g;obtain ⟨d,d1,d2,d3⟩:=BT F hs p t3;obtain ⟨z,h,a,e⟩:=BV F hs d3;simp only[t1,t2,aD,d1,h];rcases t4 with ⟨k1,rfl⟩|⟨b,k1,i⟩
  ·simp only[k1,cond_false,d2,a];exact ⟨z,rfl,rfl,e⟩
  ·simp only[k1,cond_true,i,d2,a];exact ⟨z,rfl,rfl,e⟩
 |false=>
  simp only[cond_false];obtain ⟨st,m,t1,t2,t3,t4⟩:=BW F hs (.inr rfl) (f:=mJ) p;obtain ⟨d,d1,d2,d3⟩:=BT F hs g t3;obtain ⟨z,h,a,e⟩:=BV F hs d3;simp only[t1,t2,aD,d1,h];rcases t4 with ⟨k1,rfl⟩|⟨b,k1,i⟩
  ·simp only[k1,cond_false,d2,a];exact ⟨z,rfl,rfl,e⟩
  ·simp only[k1,cond_true,i,d2,a];exact ⟨z,rfl,rfl,e⟩
theorem Ih:∃b,gh u s=some b/\ta u s=some b:=by
 obtain ⟨r,c,d,e⟩:=xY F hs;have f:Sm u.aS 20 20:=⟨by have:=F.num;omega,by have:=F.den;omega,by have:=F.den;omega⟩
 have a:=qy f e (by decide) (by decide);unfold gh ta;simp only[c,d,a.1,a.2,ag];exact ⟨_,rfl,rfl⟩
end
def qB (a:(List (List Int)))(b:Int)(c:bO)(st:((List (List Int))×Int)):Option (Fl ((List (List Int))×Int) (List (List Int))):=
 cond (decide (st.2<=c.high.high)) (ag (aY a b) fun d=>ag (c8 ([]:List Int) d) fun e=>ag (c8 e ([st.2])) fun f=>ag (c8 st.1 ([f])) fun g=>some (.nx (g,(IntKind.i64.wrap (st.2+1))))) (some (.bk (st.1,st.2)))
def qC (u0:aj)(a:(List (List Int)))(c:Int)(st:((List (List Int))×Int)):Option (Fl ((List (List Int))×Int) (List (List Int))):=
 cond (decide (st.2<(a.length:Int))) (ag (aY u0.av c) fun b=>ag (aU (qB a st.2 b) fu (st.1,b.high.low)) fun o=>aD o (fun d=>some (.nx (d.1,(IntKind.i64.wrap (st.2+1))))) (fun _ _=>none) (fun r=>some (.rt r))) (some (.bk (st.1,st.2)))
def tC (u0:aj)(st:((List (List Int))×Int)):Option (Fl ((List (List Int))×Int) (List (List Int))):=
 cond (decide (st.2<(u0.av.length:Int))) (ag (aU (qC u0 st.1 st.2) fu (([]:List (List Int)),0)) fun o=>aD o (fun a=>some (.nx (a.1,(IntKind.i64.wrap (st.2+1))))) (fun _ _=>none) (fun r=>some (.rt r))) (some (.bk (st.1,st.2)))
def tD (u0:aj)(a:(List (List Int)))(st:((List (List Int))×Int)):Option (Fl ((List (List Int))×Int) (List (List Int))):=
 cond (decide (st.2<(a.length:Int))) (ag (aY a st.2) fun b=>ag (xJ u0 b) fun c=>cond (c) (ag (c8 st.1 ([b])) fun d=>some (.nx (d,(IntKind.i64.wrap (st.2+1))))) (some (.nx (st.1,(IntKind.i64.wrap (st.2+1)))))) (some (.bk (st.1,st.2)))
def xZ (u0:aj):Option (List (List Int)):=
 ag (aU (tC u0) fu (([([]:(List Int))]),0)) fun o=>aD o (fun a=>ag (aU (tD u0 a.1) fu (([]:List (List Int)),0)) fun o=>aD o (fun b=>some b.1) (fun _ _=>none) (fun r=>some r)) (fun _ _=>none) (fun r=>some r)
def qD (u0:aj)(a:Int):Option ((List (List Int))×Int):=
 ag (jb u0) fun b=>cond ((b != 0)) (some (([]:(List (List Int))),b)) (cond ((a != 0)) (some (([]:(List (List Int))),a)) (ag (xZ u0) fun c=>cond (((c.length:Int)==0)) (some (([]:(List (List Int))),9)) (some (c,0))))
def tE (u0:aj):Option (aj×Int):=
 ag (qD u0 0) fun a=>cond ((a.2 != 0)) (some ((⟨0,0,(⟨0,0⟩:an),([]:(List bX)),([]:(List cc)),([]:(List bO)),([]:(List bR))⟩:aj),a.2)) (some (u0,0))
def x2 (u0:aj)(a:Int)(c:cC):Option (aj×Int):=
 ag (jb u0) fun d=>cond ((d != 0)) (some ((⟨0,0,(⟨0,0⟩:an),([]:(List bX)),([]:(List cc)),([]:(List bO)),([]:(List bR))⟩:aj),d)) (ag (mQ u0 a) fun f=>cond (!f) (some ((⟨0,0,(⟨0,0⟩:an),([]:(List bX)),([]:(List cc)),([]:(List bO)),([]:(List bR))⟩:aj),6)) (ag (lE c 0 60) fun g=>cond (!g) (some ((⟨0,0,(⟨0,0⟩:an),([]:(List bX)),([]:(List cc)),([]:(List bO)),([]:(List bR))⟩:aj),1)) (ag (aY u0.av a) fun h=>ag (xz h.high c) fun b=>cond (decide (b.high<b.low)) (some ((⟨0,0,(⟨0,0⟩:an),([]:(List bX)),([]:(List cc)),([]:(List bO)),([]:(List bR))⟩:aj),9)) (ag (xC u0 a b) fun i=>ag (tE i) fun e=>some (e.1,e.2)))))
def gF {α ρ:Type}(t:Nat->α->Option ρ):Nat->List α->Option ρ
 |_,[]=>none
 |i,x::l=>match t i x with
  |some r=>some r
  |none=>gF t (i+1) l
def m0 {σ ρ:Type}(o:Option ρ)(s:σ):Fl σ ρ:=match o with
 |some r=>.rt r
 |none=>.nx s
theorem x3 {α σ ρ:Type}{f:Nat->α->σ->Option (Fl σ ρ)}{t:Nat->α->Option ρ}:∀(l:List α) (i:Nat) (s:σ),(∀j x s,l[j]?=some x->f (i+j) x s=some (m0 (t (i+j) x) s))->bJ f i l s=some (m0 (gF t i l) s)
 |[],i,s,_=>rfl
 |x::l,i,s,h=>by
  have a:=h 0 x s rfl
  simp only[Nat.add_zero] at a
  unfold bJ gF
  rw[a]
  cases ht:t i x with
  |some r=>rfl
  |none=>
   show bJ f (i+1) l s=_
   exact x3 l (i+1) s fun j y s b=>by
    have:=h (j+1) y s (by simpa using b)
    rwa [show i+(j+1)=i+1+j by omega] at this
theorem BX {α σ ρ:Type}{f:σ×Int->Option (Fl (σ×Int) ρ)}{t:Nat->α->Option ρ}(l:List α)(h:∀(i:Nat) x s,l[i]?=some x->f (s,(i:Int))=some (m0 (t i x) (s,((i+1:Nat):Int))))(a:∀s,f (s,(l.length:Int))=some (.bk (s,(l.length:Int)))):
  ∀(k i n:Nat) (s:σ),i+k=l.length->k<n->aU f n (s,(i:Int))=some (m0 (gF t i (l.drop i)) (s,(l.length:Int)))
 |0,i,n+1,s,hi,_=>by
  obtain rfl:i=l.length:=by omega
  unfold aU
  rw[a,List.drop_length]
  rfl
 |k+1,i,n+1,s,hi,d=>by
  have b:i<l.length:=by omega
  have c:l[i]?=some l[i]:=List.getElem?_eq_getElem b
  unfold aU
  rw[h i _ s c,List.drop_eq_getElem_cons b]
  unfold gF
  cases ht:t i l[i] with
  |some r=>rfl
  |none=>exact BX l h a k (i+1) n s (by omega) (by omega)
theorem BY {α σ ρ:Type}{f:σ×Int->Option (Fl (σ×Int) ρ)}{t:Nat->α->Option ρ}(l:List α)(a:l.length<=1000)(h:∀(i:Nat) x s,l[i]?=some x->f (s,(i:Int))=some (m0 (t i x) (s,((i+1:Nat):Int))))(b:∀s,f (s,(l.length:Int))=some (.bk (s,(l.length:Int))))(s:σ):
  aU f fu (s,0)=some (m0 (gF t 0 l) (s,(l.length:Int))):=by
 have:=BX l h b l.length 0 fu s (by omega) (Nat.lt_of_le_of_lt a (by decide))
 simpa using this
theorem BZ {α ρ:Type}{g:α->Bool}{r:ρ}:∀(l:List α) (i:Nat),gF (fun _ x=>if g x then none else some r) i l=if l.all g then none else some r
 |[],_=>rfl
 |x::l,i=>by
  unfold gF
  cases h:g x with
  |false=>simp[h]
  |true=>
   simp only[h,if_true,List.all_cons,Bool.true_and]
   exact BZ l (i+1)
theorem B1 {α:Type}{g:α->Bool}:∀(l:List α) (i:Nat),∃r,gF (fun i x=>if g x then some (i:Int) else none) i l=r/\decide (0<=r.getD (-1))=l.any g
 |[],_=>⟨none,rfl,rfl⟩
 |x::l,i=>by
  unfold gF
  cases h:g x with
  |true=>exact ⟨_,rfl,by simp[h]⟩
  |false=>
   obtain ⟨r,a,b⟩:=B1 l (i+1) (g:=g)
   exact ⟨r,by simpa using a,by simpa [h] using b⟩
theorem g9 {α:Type}{l:List α}{i:Nat}{x:α}(h:l[i]?=some x):aY l (i:Int)=some x:=by
 unfold aY;rw[if_pos (by omega)];simpa using h
theorem qE {α:Type}{l:List α}{i:Int}{x:α}(a:0<=i)(h:l[i.toNat]?=some x):aY l i=some x:=by
 unfold aY;rw[if_pos a,h]
theorem contains_eq {f:bR->Option Bool}{g:bR->Bool}(l:List bR)(h:∀x,x∈l->f x=some (g x)):p8 l f=some (l.any g):=by
 unfold p8 sC
 rw[x3 (t:=fun i x=>if g x then some (i:Int) else none) l 0 0 fun j x s a=>by
  unfold sB;rw[h x (List.mem_of_getElem? a)]
  cases g x<;>rfl]
 obtain ⟨r,b,c⟩:=B1 (g:=g) l 0;rw[b,<-c];cases r<;>rfl
def eI (u:aj)(s:bf):Bool:=(gh u s).getD false
theorem qF {u:aj}(F:Fit u){s:bf}(hs:(1<=s.back/\s.back<=20)/\0<=s.high/\s.high<=60):gh u s=some (eI u s)/\ta u s=some (eI u s):=by
 obtain ⟨b,a,c⟩:=Ih F hs;have e:eI u s=b:=by unfold eI;rw[a];rfl
 rw[e];exact ⟨a,c⟩
def dX (u:aj)(i:Nat)(n:Int):bf:=⟨(u.av[i]?.map (·.back)).getD 0,n⟩
structure ou (u:aj)(h:List Int):Prop where
 len:h.length=u.av.length
 qG:∀(i:Nat) e,u.av[i]?=some e->∃n,h[i]?=some n/\e.high.low<=n/\n<=e.high.high
def kG (u:aj)(h:List Int)(t:bR):Bool:=eI u (dX u t.aQ.toNat (h[t.aQ.toNat]?.getD 0))==t.bt
def fG (u:aj)(h:List Int):Bool:=u.told.all (kG u h)
theorem B2 {u:aj}{h:List Int}(H:ou u h){i:Int}(f:0<=i)(g:i<u.av.length)(F:Fit u):∃e n,u.av[i.toNat]?=some e/\h[i.toNat]?=some n/\dX u i.toNat n=⟨e.back,n⟩/\(1<=e.back/\e.back<=20)/\0<=n/\n<=60:=by
 have c:u.av[i.toNat]?=some (u.av[i.toNat]'(by omega)):=List.getElem?_eq_getElem _;obtain ⟨n,d,a,b⟩:=H.qG _ _ c;obtain ⟨c1,c2,c3,c4,j⟩:=F.aQ _ _ c;refine ⟨_,n,c,d,?_,c1,by omega,by omega⟩;unfold dX;rw[c];rfl
theorem Ii {u:aj}(F:Fit u){h:List Int}(H:ou u h):xJ u h=some (fG u h):=by
 unfold xJ;rw[BY (t:=fun _ x=>if kG u h x then none else some false) u.told (by have:=F.told;omega) (s:=false) (fun i x s c=>?_) (fun s=>?_)]
 ·rw[BZ];unfold fG;cases u.told.all (kG u h)<;>rfl
 ·obtain ⟨a,b⟩:=F.qw i x c;obtain ⟨e,n,f,d,g,j,k⟩:=B2 H a b F;have l:i<u.told.length:=(List.getElem?_eq_some_iff.1 c).1;have ht:=F.told;unfold xI Bg;rw[show decide (((i:Nat):Int)<(u.told.length:Int))=true by simp;omega];simp only[cond_true,g9 c,ag,qE a f,qE a d,(qF F (s:=⟨e.back,n⟩) ⟨j,k⟩).2];rw[cI (n:=(i:Int)+1) (by omega)];unfold kG;rw[d];show _=some (m0 (if eI u (dX u x.aQ.toNat n)==x.bt then none else some false) (s,((i+1:Nat):Int)));rw[g];cases eI u ⟨e.back,n⟩==x.bt<;>rfl
 ·unfold xI;rw[show decide ((u.told.length:Int)<(u.told.length:Int))=false by simp];rfl
def cF (l:List Int):aT:=⟨l[0]?.getD 0,l[1]?.getD 0,l[2]?.getD 0⟩
theorem qH {l:List Int}{i:Int}{n:Int}(a:0<=i)(b:i<3)(h:l[i.toNat]?=some n):aT.get (cF l) i=some n:=by
 unfold aT.get cF;rcases (show i=0\/i=1\/i=2 by omega) with rfl|rfl|rfl<;>simp at h<;>simp[h]
theorem Ij {u:aj}(F:Fit u){h:List Int}(H:ou u h):nW u (cF h)=some (fG u h):=by
 unfold nW
 rw[contains_eq (g:=fun t=>!kG u h t) u.told fun x d=>by
  obtain ⟨i,hi⟩:=List.mem_iff_getElem?.1 d;obtain ⟨a,b⟩:=F.qw i x hi;obtain ⟨e,n,f,c,j,k,l⟩:=B2 H a b F;have:=F.av;unfold qa gX;simp only[qH a (by omega) c,ag,qE a f,(qF F (s:=⟨e.back,n⟩) ⟨k,l⟩).1];unfold kG;rw[c];show _=some (!(eI u (dX u x.aQ.toNat n)==x.bt))
  rw[j]]
 simp only[ag];unfold fG;rw[show (u.told.any fun t=>!kG u h t)=!(u.told.all (kG u h)) by rw[List.all_eq_not_any_not];simp];simp
theorem B3 {α σ τ ρ:Type}{f:τ->Option (Fl τ ρ)}{I:Nat->σ->Prop}(e:σ->Int->τ)(l:List α)(h:∀(i:Nat) x s,l[i]?=some x->I i s->∃s',f (e s (i:Int))=some (.nx (e s' ((i+1:Nat):Int)))/\I (i+1) s')(a:∀s,f (e s (l.length:Int))=some (.bk (e s (l.length:Int)))):
  ∀(k i n:Nat) (s:σ),I i s->i+k=l.length->k<n->∃s',aU f n (e s (i:Int))=some (.nx (e s' (l.length:Int)))/\I l.length s'
 |0,i,n+1,s,hs,hi,_=>by
  obtain rfl:i=l.length:=by omega
  unfold aU
  rw[a]
  exact ⟨s,rfl,hs⟩
 |k+1,i,n+1,s,hs,hi,j=>by
  have b:i<l.length:=by omega
  have c:l[i]?=some l[i]:=List.getElem?_eq_getElem b
  obtain ⟨s1,d,g⟩:=h i _ s c hs
  unfold aU
  rw[d]
  exact B3 e l h a k (i+1) n _ g (by omega) (by omega)
theorem B4 {α σ τ ρ:Type}{f:τ->Option (Fl τ ρ)}(I:Nat->σ->Prop)(e:σ->Int->τ)(l:List α)(a:l.length<=1000)(h:∀(i:Nat) x s,l[i]?=some x->I i s->∃s',f (e s (i:Int))=some (.nx (e s' ((i+1:Nat):Int)))/\I (i+1) s')(b:∀s,f (e s (l.length:Int))=some (.bk (e s (l.length:Int))))(s:σ)(hs:I 0 s):
  ∃s',aU f fu (e s 0)=some (.nx (e s' (l.length:Int)))/\I l.length s':=
 B3 e l h b l.length 0 fu s hs (by omega) (Nat.lt_of_le_of_lt a (by decide))
theorem B5 {a b c:an}(d:0<a.den)(hb:0<b.den)(e:0<c.den)(f:bQ b a=false)(g:bQ b c=true):bQ a c=true:=by
 cases h:bQ a c with
 |true=>rfl
 |false=>
  have:=ot hb d e f h;rw[g] at this;cases this
section
variable {u : aj} {s : bf} (F : Fit u) (hs : (1 ≤ s.back ∧ s.back ≤ 20) ∧ 0 ≤ s.high ∧ s.high ≤ 60)
include F hs
structure x4 (u:aj)(s:bf)(i:Nat)(st:Int×an):Prop where
 there:∃(n:Nat) (p:bX),n<i/\st=((n:Int),dL u s p)/\u.ax[n]?=some p/\∀(j:Nat) q,j<n->u.ax[j]?=some q->bQ (dL u s q) (dL u s p)=true
 RP:∀(j:Nat) q,j<i->u.ax[j]?=some q->bQ st.2 (dL u s q)=false
theorem B6:∀(l:List bX) (i:Nat) (st:Int×an),(∀(j:Nat) x,l[j]?=some x->u.ax[i+j]?=some x)->x4 u s i st->x4 u s (i+l.length) (foldI (gB u s) i l st)
 |[],i,st,_,h=>h
 |x::l,i,st,g,h=>by
  have b:u.ax[i]?=some x:=g 0 x rfl
  have hd:∀(j:Nat) q,u.ax[j]?=some q->0<(dL u s q).den:=fun j q a=>(tv u F s hs j q a).den.1
  unfold foldI
  have key:x4 u s (i+1) (gB u s i x st):=by
   obtain ⟨⟨n,p,o,e,d,k⟩,hm⟩:=h
   subst e
   unfold gB
   cases c:bQ (dL u s p) (dL u s x) with
   |true=>
    simp only[c,cond_true]
    refine ⟨⟨i,x,by omega,rfl,b,fun j q f a=>?_⟩,fun j q f a=>?_⟩
    ·exact B5 (hd j q a) (hd n p d) (hd i x b) (hm j q f a) c
    ·by_cases e:j=i
     ·subst e;rw[b] at a;cases a;exact je _
     ·exact xU (B5 (hd j q a) (hd n p d) (hd i x b) (hm j q (by omega) a) c)
   |false=>
    simp only[c,cond_false]
    refine ⟨⟨n,p,by omega,rfl,d,k⟩,fun j q f a=>?_⟩
    by_cases e:j=i
    ·subst e;rw[b] at a;cases a;exact c
    ·exact hm j q (by omega) a
  have:=B6 l (i+1) _ (fun j y m=>by have:=g (j+1) y (by simpa using m);rwa [show i+(j+1)=i+1+j by omega] at this) key
  rwa [show i+1+l.length=i+(x::l).length by simp;omega] at this
theorem Ik:∃(n:Nat) (p:bX),dM u s=((n:Int),dL u s p)/\u.ax[n]?=some p/\(∀(j:Nat) q,u.ax[j]?=some q->bQ (dL u s p) (dL u s q)=false)/\∀(j:Nat) q,j<n->u.ax[j]?=some q->bQ (dL u s q) (dL u s p)=true:=by
 have c:=F.ax;cases he:u.ax with
 |nil=>rw[he] at c;simp at c
 |cons x l=>
  have d:u.ax[0]?=some x:=by rw[he];rfl
  have hb:=B6 F hs l 1 (0,dL u s x) (fun j y f=>by rw[he,Nat.add_comm];simpa using f)
   ⟨⟨0,x,by omega,rfl,d,fun j q b=>absurd b (by omega)⟩,fun j q b a=>by
    obtain rfl:j=0:=by omega
    rw[d] at a;cases a;exact je _⟩
  have ev:dM u s=foldI (gB u s) 1 l (0,dL u s x):=by unfold dM;rw[he]
  obtain ⟨⟨n,p,i,e,g,h⟩,hm⟩:=hb;rw[e] at hm ev;refine ⟨n,p,ev,by rw[<-he];exact g,fun j q a=>?_,fun j q b a=>h j q b (by rw[he];exact a)⟩;refine hm j q ?_ (by rw[he];exact a);have:=(List.getElem?_eq_some_iff.1 a).1;simp at this;omega
end
def gG (a b:an):an:=bI (a.num*b.den - b.num*a.den) (a.den*b.den).toNat
def qI (u:aj)(s:bf):an:=foldI (gM u s) 0 u.props ⟨0,0⟩
def tF (u:aj)(s:bf):an:=cond (bQ (dM u s).2 ⟨u.bK,1⟩) ⟨u.bK,1⟩ (dM u s).2
def qJ (u:aj)(s:bf):an:=cond (bQ (dM u s).2 ⟨u.bK,1⟩) (dM u s).2 ⟨u.bK,1⟩
def tG (u:aj)(s:bf):an:=cond (decide (0<(u.props.length:Int))) (cw (qJ u s) (qI u s)) (qJ u s)
def kH (u:aj)(s:bf):an:=cw (gG (tF u s) (tG u s)) ⟨0,1⟩
theorem Il:Sm (⟨0,1⟩:an) 1 1:=⟨by decide,by decide,by decide⟩
theorem Im {a b:an}(c:SR a)(hb:SR b):Sm (gG a b) 40000000000 64000000:=by
 have d:=dy c.num (show b.den.natAbs<=8000 by have:=hb.den;omega);have e:=dy hb.num (show a.den.natAbs<=8000 by have:=c.den;omega);have f:=dy (show a.den.natAbs<=8000 by have:=c.den;omega) (show b.den.natAbs<=8000 by have:=hb.den;omega);have g:0<a.den*b.den:=Int.mul_pos c.den.1 hb.den.1;have:=jd (a.num*b.den - b.num*a.den) (a.den*b.den).toNat (by omega);unfold gG;exact ⟨Nat.le_trans this.num (by omega),this.den.1,by have:=this.den.2;omega⟩
theorem x5 {a b:an}(c:SR a)(hb:SR b):jJ a b=some (gG a b):=xQ c hb (by decide) (by decide)
theorem Io {d:an}(hd:Sm d 40000000000 64000000):fR d ⟨0,1⟩=some (cw d ⟨0,1⟩):=by
 have a:=qy hd Il (by decide) (by decide);unfold fR;simp only[a.1,ag];unfold cw bQ;cases decide (d.num*(⟨0,1⟩:an).den<(⟨0,1⟩:an).num*d.den)<;>rfl
section
variable {u : aj} {s : bf} (F : Fit u) (hs : (1 ≤ s.back ∧ s.back ≤ 20) ∧ 0 ≤ s.high ∧ s.high ≤ 60)
include F hs
theorem qK:SR (⟨u.bK,1⟩:an):=(tA F hs).mono (by decide) (by decide)
theorem Ip:SR (tF u s):=by
 unfold tF;cases bQ (dM u s).2 ⟨u.bK,1⟩
 ·exact qz F hs
 ·exact qK F hs
theorem B7:SR (qJ u s):=by
 unfold qJ;cases bQ (dM u s).2 ⟨u.bK,1⟩
 ·exact qK F hs
 ·exact qz F hs
theorem x6 (h:u.props≠[]):SR (qI u s):=by
 rcases BP F hs with ⟨c,_,_⟩|⟨st,b,_,a,d⟩
 ·exact absurd c h
 ·rw[xX F hs] at a;have e:qI u s=b:=(Prod.mk.inj (Option.some.inj a)).1;rw[e];exact d.sm
theorem Iq:SR (tG u s):=by
 unfold tG;cases h:decide (0<(u.props.length:Int)) with
 |false=>exact B7 F hs
 |true=>
  refine kF (B7 F hs) (x6 F hs fun e=>?_);rw[e] at h;simp at h
theorem Ir:qp u s=some (kH u s):=by
 obtain ⟨c,h,i,j,g⟩:=oq F hs;have es:SR (dM u s).2:=qz F hs;have ps:=qK F hs;unfold qp;rw[g,xX F hs];simp only[ag,(kE es ps).1];have k:=Iq F hs;have l:=Ip F hs;have key:∀a b:an,SR a->SR b->ag (jJ a b) (fun x=>ag (fR x ⟨0,1⟩) fun y=>some y)=some (cw (gG a b) ⟨0,1⟩):=fun a b f hb=>by
  rw[x5 f hb];simp only[ag];rw[Io (Im f hb)]
 simp only[ag] at key;unfold kH tG tF qJ;cases m:bQ (dM u s).2 ⟨u.bK,1⟩ with
 |true=>
  simp only[cond_true];cases d:decide (0<(u.props.length:Int)) with
  |true=>
   have cs:=x6 F hs (fun e=>by rw[e] at d;simp at d);simp only[cond_true];rw[show foldI (gM u s) 0 u.props ⟨0,0⟩=qI u s from rfl,qA es cs];exact key _ _ ps (kF es cs)
  |false=>exact key _ _ ps es
 |false=>
  simp only[cond_false];cases d:decide (0<(u.props.length:Int)) with
  |true=>
   have cs:=x6 F hs (fun e=>by rw[e] at d;simp at d);simp only[cond_true];rw[show foldI (gM u s) 0 u.props ⟨0,0⟩=qI u s from rfl,qA ps cs];exact key _ _ es (kF ps cs)
  |false=>exact key _ _ es ps
theorem x7:kr u s=some (kH u s):=by
 obtain ⟨r,b,a,_⟩:=xY F hs;rw[Ir F hs] at a;rw[b,<-a]
end
theorem qL {α:Type}{t:Nat->α->Option Int}:∀(l:List α) (i:Nat),(∀j x,l[j]?=some x->t (i+j) x=none)->dx t i l=none
 |[],i,_=>rfl
 |y::l,i,h=>by
  unfold dx
  have a:=h 0 y rfl
  rw[Nat.add_zero] at a
  rw[a]
  exact qL l (i+1) fun j x b=>by
   have:=h (j+1) x (by simpa using b)
   rwa [show i+(j+1)=i+1+j by omega] at this
theorem It {u:aj}(h:er u=some 0):gV u=0:=by
 have a:iY u=some 0:=h;unfold iY at a;rw[tg] at a;simp only[ag] at a;cases hg:(gV u != 0) with
 |true=>rw[hg] at a;exact Option.some.inj a
 |false=>simpa using hg
theorem Iu {u:aj}(hg:gV u=0)(F:Fit u):er u=some 0:=by
 have h:=F.ax;have i:=F.bH;have k:=F.props;have l:=F.av;have m:=F.told;show iY u=some 0;unfold iY;rw[tg,hg];show lq u=some 0;unfold lq;rw[(xK u (by omega)).1,qL u.ax 0 fun j x c=>?_,ew.2 (show (2:Int)<=(u.ax.length:Int)/\(u.ax.length:Int)<=5 by omega)]
 ·show lp u=some 0;unfold lp;obtain ⟨f,d⟩:=xL u (by omega) (by omega);rw[tn u f d,qL u.props 0 fun j x c=>?_,show decide (3<(u.props.length:Int))=false by simp;omega]
  ·show lg u=some 0;unfold lg;rw[tj,qL u.av 0 fun j x c=>?_,ew.2 (show (1:Int)<=(u.av.length:Int)/\(u.av.length:Int)<=3 by omega)]
   ·show lf u=some 0;unfold lf nO;rw[th,qL u.told 0 fun j x c=>?_,show decide (3<(u.told.length:Int))=false by simp;omega]
    ·rfl
    ·obtain ⟨a,b⟩:=F.qw j x c;unfold jc gE;rw[cI (by omega),ew.2 ⟨a,by omega⟩];rfl
   ·obtain ⟨a,g,b2,b3,b4⟩:=F.aQ j x c;unfold g7 gm;rw[ew.2 a,cI (by omega),show decide (3<=x.high.high - x.high.low)=false by simp;omega,decide_eq_true g,decide_eq_true b2,decide_eq_true b3];rfl
  ·obtain ⟨a,b⟩:=F.prop j x c;have:=(d x.place).1;rw[a] at this;unfold g6;rw[<-Option.some.inj this,ew.2 b];rfl
 ·obtain ⟨a,b⟩:=F.kD j x c;unfold gq;rw[cI (by omega),ew.2 a,ew.2 b];simp only[cond_true,Nat.zero_add];cases j with
  |zero=>rfl
  |succ j=>
   have n:=(List.getElem?_eq_some_iff.1 c).1;have e:u.ax[j]?=some (u.ax[j]'(by omega)):=List.getElem?_eq_getElem _;have:=F.xM j _ x e c;simp only[e];rw[show decide (x.aL<=(u.ax[j]'(by omega)).aL)=false by simp;omega];rfl
def cm (b:cC):List Int:=(List.range (b.high - b.low+1).toNat).map fun k=>b.low+(k:Nat)
theorem Iv {b:cC}{i:Nat}{x:Int}(h:(cm b)[i]?=some x):x=b.low+i/\b.low+i<=b.high:=by
 unfold cm at h;rw[List.getElem?_map,Option.map_eq_some_iff] at h;obtain ⟨k,c,rfl⟩:=h;obtain ⟨d,a⟩:=List.getElem?_eq_some_iff.1 c;simp at d a;subst a;exact ⟨rfl,by omega⟩
theorem qM (b:cC):(cm b).length=(b.high - b.low+1).toNat:=by simp[cm]
theorem tH {b:cC}{x:Int}:x∈cm b↔b.low<=x/\x<=b.high:=by
 unfold cm;rw[List.mem_map];constructor
 ·rintro ⟨k,a,rfl⟩;rw[List.mem_range] at a;omega
 ·rintro ⟨c,d⟩;exact ⟨(x - b.low).toNat,by rw[List.mem_range];omega,by omega⟩
def kI (b:cC)(all:List (List Int)):List (List Int):=all.flatMap fun p=>(cm b).map fun n=>p++[n]
def dN (p:List Int):List bO->List (List Int)
 |[]=>[p]
 |e::l=>(cm e.high).flatMap fun n=>dN (p++[n]) l
def bw (u:aj):List (List Int):=(dN [] u.av).filter (fG u)
theorem qN {α β:Type}(g:α->List β):∀(l:List α) (i:Nat) (s:List β),foldI (fun _ x s=>s++g x) i l s=s++l.flatMap g
 |[],_,s=>by simp[foldI]
 |x::l,i,s=>by
  unfold foldI
  rw[qN g l]
  simp[List.flatMap_cons]
theorem B8:∀(l:List bO) (i:Nat) (all:List (List Int)),foldI (fun _ (e:bO) all=>kI e.high all) i l all=all.flatMap fun p=>dN p l
 |[],_,all=>by
  unfold foldI
  show all=all.flatMap fun p=>[p]
  induction all with
  |nil=>rfl
  |cons a l ih=>rw[List.flatMap_cons,<-ih];rfl
 |e::l,i,all=>by
  unfold foldI
  rw[B8 l]
  unfold kI
  rw[List.flatMap_assoc]
  congr 1
  funext p
  rw[List.flatMap_map]
  rfl
theorem x8:∀(l:List bO) (p h:List Int),h∈dN p l->h.length=p.length+l.length/\(∀(j:Nat) e,l[j]?=some e->∃n,h[p.length+j]?=some n/\e.high.low<=n/\n<=e.high.high)/\∀j,j<p.length->h[j]?=p[j]?
 |[],p,h,hm=>by
  simp only[dN,List.mem_singleton] at hm
  subst hm
  exact ⟨rfl,fun j e he=>by simp at he,fun _ _=>rfl⟩
 |e::l,p,h,hm=>by
  unfold dN at hm
  rw[List.mem_flatMap] at hm
  obtain ⟨n,d,hm⟩:=hm
  obtain ⟨f,c,a⟩:=x8 l _ _ hm
  rw[List.length_append,List.length_singleton] at f c a
  refine ⟨by simp;omega,fun j x b=>?_,fun j g=>?_⟩
  ·cases j with
   |zero=>
    simp at b;subst b
    refine ⟨n,?_,tH.1 d⟩
    rw[Nat.add_zero,a _ (by omega),List.getElem?_append_right (Nat.le_refl _)]
    simp
   |succ j=>
    obtain ⟨m,hm,hb⟩:=c j x (by simpa using b)
    exact ⟨m,by rw[<-hm];congr 1;omega,hb⟩
  ·rw[a j (by omega),List.getElem?_append_left g]
theorem x9 {u:aj}{h:List Int}(hm:h∈dN [] u.av):ou u h:=by
 obtain ⟨a,b,_⟩:=x8 _ _ _ hm;exact ⟨by simpa using a,fun i e he=>by simpa using b i e he⟩
theorem B9 {b:cC}(hb:b.high - b.low<3):∀(all:List (List Int)),(kI b all).length<=all.length*3
 |[]=>by simp[kI]
 |p::all=>by
  have:=B9 hb all
  unfold kI at this ⊢
  rw[List.flatMap_cons,List.length_append,List.length_map,qM,List.length_cons]
  omega
theorem m3 {α:Type}{l xs:List α}(h:l.length+xs.length<=1000000):c8 l xs=some (l++xs):=by
 unfold c8;rw[if_pos h]
theorem Iw {all:List (List Int)}{k:Nat}{p:List Int}{e:bO}(b:all[k]?=some p)(d:p.length<=100)(he:0<=e.high.low/\e.high.low<=e.high.high/\e.high.high<=60/\e.high.high - e.high.low<3)(s:List (List Int))(hs:s.length<=1000):
  aU (qB all (k:Int) e) fu (s,e.high.low)=some (.nx (s++(cm e.high).map (fun n=>p++[n]),e.high.high+1)):=by
 have key:=oo (f:=qB all (k:Int) e) (g:=fun _ x s=>s++[p++[x]]) (I:=fun i s=>s.length<=1000+i) (fun s i=>(s,e.high.low+i)) (cm e.high) (by rw[qM];omega)
  (fun i x s c h=>by
   obtain ⟨rfl,hb⟩:=Iv c
   refine ⟨?_,by simp;omega⟩
   unfold qB
   rw[show decide ((s,e.high.low+(i:Int)).2<=e.high.high)=true by simpa using hb]
   simp only[cond_true,g9 b,ag,m3 (l:=([]:List Int)) (xs:=p) (by simp;omega),List.nil_append,m3 (l:=p) (xs:=[e.high.low+(i:Int)]) (by simp;omega),m3 (l:=s) (xs:=[p++[e.high.low+(i:Int)]]) (by simp;omega)]
   rw[cI (n:=e.high.low+(i:Int)+1) (by omega)]
   simp;omega)
  (fun s=>by
   unfold qB
   rw[show decide ((s,e.high.low+((cm e.high).length:Int)).2<=e.high.high)=false by rw[qM];simp;omega]
   rfl) s (by omega)
 have:=key.1
 rw[qN (fun x=>[p++[x]])] at this
 simp only[Int.add_zero] at this
 rw[this]
 congr 2
 refine Prod.ext ?_ ?_
 ·simp only[List.append_cancel_left_eq]
  induction cm e.high with
  |nil=>rfl
  |cons a l ih=>simp[ih]
 ·simp only[qM];omega
theorem Ix {u:aj}{all:List (List Int)}{i:Nat}{e:bO}(hi:u.av[i]?=some e)(b:∀p∈all,p.length<=100)(c:all.length<=100)(he:0<=e.high.low/\e.high.low<=e.high.high/\e.high.high<=60/\e.high.high - e.high.low<3):
  aU (qC u all (i:Int)) fu (([]:List (List Int)),0)=some (.nx (kI e.high all,(all.length:Int))):=by
 have key:=oo (f:=qC u all (i:Int)) (g:=fun _ p s=>s++(cm e.high).map fun n=>p++[n]) (I:=fun i s=>s.length<=3*i/\i<=all.length) (fun s i=>(s,i)) all (by omega)
  (fun k p s a d=>by
   have h:k<all.length:=(List.getElem?_eq_some_iff.1 a).1
   refine ⟨?_,by simp[qM];omega,by omega⟩
   unfold qC
   rw[show decide ((s,(k:Int)).2<(all.length:Int))=true by simp;omega]
   simp only[cond_true,g9 hi,ag,Iw a (b p (List.mem_of_getElem? a)) he s (by omega),aD]
   rw[cI (n:=(k:Int)+1) (by omega)]
   rfl)
  (fun s=>by
   unfold qC
   rw[show decide ((s,(all.length:Int)).2<(all.length:Int))=false by simp]
   rfl) ([]:List (List Int)) ⟨by simp,by omega⟩
 have:=key.1
 rw[qN (fun p=>(cm e.high).map fun n=>p++[n])] at this
 simpa [kI] using this
theorem Ca {u:aj}:∀(l:List (List Int)) (i:Nat) (s:List (List Int)),foldI (fun _ x s=>if fG u x then s++[x] else s) i l s=s++l.filter (fG u)
 |[],_,s=>by simp[foldI]
 |x::l,i,s=>by
  unfold foldI
  rw[Ca l]
  cases h:fG u x<;>simp[h]
theorem three (i:Nat)(h:i<=3):3 ^ i<=27:=by
 rcases (show i=0\/i=1\/i=2\/i=3 by omega) with rfl|rfl|rfl|rfl<;>decide
theorem qO {u:aj}(F:Fit u):xZ u=some (bw u)/\(bw u).length<=27:=by
 have r:=F.av;have key:=oo (f:=tC u) (g:=fun _ (e:bO) all=>kI e.high all) (I:=fun i all=>(∀p∈all,p.length=i)/\all.length<=3 ^ i/\i<=u.av.length) (fun s i=>(s,i)) u.av (by omega)
  (fun i e all hi c=>by
   obtain ⟨d,t,v⟩:=c;have k:i<u.av.length:=(List.getElem?_eq_some_iff.1 hi).1;have he:=(F.aQ i e hi).2;have w:=three i (by omega);have hs:=B9 he.2.2.2 all;refine ⟨?_,fun p a=>?_,by rw[Nat.pow_succ];omega,by omega⟩
   ·unfold tC;rw[show decide ((all,(i:Int)).2<(u.av.length:Int))=true by simp;omega];simp only[cond_true,Ix hi (fun p a=>by have:=d p a;omega) (by omega) he,ag,aD];rw[cI (n:=(i:Int)+1) (by omega)];rfl
   ·unfold kI at a;rw[List.mem_flatMap] at a;obtain ⟨q,m,a⟩:=a;rw[List.mem_map] at a;obtain ⟨n,_,rfl⟩:=a
    simp[d q m])
  (fun s=>by
   unfold tC;rw[show decide ((s,(u.av.length:Int)).2<(u.av.length:Int))=false by simp]
   rfl) [[]] ⟨by simp,by simp,by omega⟩
 obtain ⟨k1,b⟩:=key;rw[B8] at k1 b;simp only[List.flatMap_cons,List.flatMap_nil,List.append_nil] at k1 b;have hlen:(dN [] u.av).length<=27:=Nat.le_trans b.2.1 (three _ (by omega));have j:=oo (f:=tD u (dN [] u.av)) (g:=fun _ x s=>if fG u x then s++[x] else s) (I:=fun i s=>s.length<=i/\i<=(dN [] u.av).length) (fun s i=>(s,i)) (dN [] u.av) (by omega)
  (fun i h s hi c=>by
   have k:i<(dN [] u.av).length:=(List.getElem?_eq_some_iff.1 hi).1;have o:=Ii F (x9 (List.mem_of_getElem? hi));refine ⟨?_,by cases fG u h<;>simp<;>omega,by omega⟩;unfold tD;rw[show decide ((s,(i:Int)).2<((dN [] u.av).length:Int))=true by simp;omega];simp only[cond_true,g9 hi,ag,o];rw[cI (n:=(i:Int)+1) (by omega)];cases fG u h with
   |false=>rfl
   |true=>simp only[cond_true,m3 (l:=s) (xs:=[h]) (by simp;omega)];rfl)
  (fun s=>by
   unfold tD;rw[show decide ((s,((dN [] u.av).length:Int)).2<((dN [] u.av).length:Int))=false by simp]
   rfl) ([]:List (List Int)) ⟨by simp,by omega⟩
 rw[Ca] at j;refine ⟨?_,Nat.le_trans (List.length_filter_le _ _) hlen⟩;unfold xZ;rw[k1];simp only[ag,aD];rw[j.1];simp only[List.nil_append];rfl
def co (h:aT)(j:Nat):Int:=if j=0 then h.e0 else if j=1 then h.e1 else if j=2 then h.e2 else 0
theorem Iy (h:aT){j:Nat}(d:j<3)(n:Int):∃a,h.setAt (j:Int) n=some a/\∀i,co a i=if i=j then n else co h i:=by
 rcases (show j=0\/j=1\/j=2 by omega) with rfl|rfl|rfl
 ·refine ⟨{h with e0:=n},rfl,fun i=>?_⟩;unfold co;split<;>rfl
 ·refine ⟨{h with e1:=n},rfl,fun i=>?_⟩;unfold co;by_cases b:i=0<;>by_cases a:i=1<;>simp[b,a]<;>omega
 ·refine ⟨{h with e2:=n},rfl,fun i=>?_⟩;unfold co;by_cases b:i=0<;>by_cases a:i=1<;>by_cases c:i=2<;>simp[b,a,c]<;>omega
structure Ag (u:aj)(p:List Int)(h:aT):Prop where
 at_:∀(j:Nat) n,p[j]?=some n->co h j=n
 no:∀j,u.av.length<=j->co h j=0
theorem Ag.cF {u:aj}{p:List Int}{h:aT}(H:Ag u p h)(a:p.length=u.av.length):h=cF p:=by
 have key:∀j,co h j=p[j]?.getD 0:=fun j=>by
  cases e:p[j]? with
  |some n=>exact H.at_ j n e
  |none=>exact H.no j (by rw[<-a];exact List.getElem?_eq_none_iff.1 e)
 have b:=key 0;have k1:=key 1;have c:=key 2;cases h;unfold Go.Proofs.YtpgcmoanfifglaaGreatDoor.cF;rw[<-b,<-k1,<-c];rfl
theorem Ag.set {u:aj}{p:List Int}{h:aT}(H:Ag u p h)(c:p.length<u.av.length)(d:u.av.length<=3)(n:Int):∃a,h.setAt (p.length:Int) n=some a/\Ag u (p++[n]) a:=by
 obtain ⟨a,e1,e2⟩:=Iy h (j:=p.length) (by omega) n;refine ⟨a,e1,fun j m hm=>?_,fun j b=>?_⟩
 ·rw[e2];by_cases e:j=p.length
  ·subst e;rw[if_pos rfl];simpa using hm
  ·rw[if_neg e];refine H.at_ j m ?_;rw[<-hm,List.getElem?_append_left];have:=(List.getElem?_eq_some_iff.1 hm).1;simp at this;omega
 ·rw[e2,if_neg (by omega)];exact H.no j b
theorem Ag.cut {u:aj}{p:List Int}{n:Int}{h:aT}(H:Ag u (p++[n]) h):Ag u p h:=
 ⟨fun j m hm=>H.at_ j m (by rw[List.getElem?_append_left (List.getElem?_eq_some_iff.1 hm).1];exact hm),H.no⟩
theorem tJ {a b:Int}(h:a<=b):cm ⟨a,b⟩=a::cm ⟨a+1,b⟩:=by
 unfold cm;simp only;rw[show (b - a+1).toNat=(b - (a+1)+1).toNat+1 by omega,List.range_succ_eq_map];simp only[List.map_cons,List.map_map,Function.comp_def];congr 1
 ·simp
 ·apply List.map_congr_left;intro k _;simp only[Nat.succ_eq_add_one];omega
theorem qP {a b:Int}(h:¬a<=b):cm ⟨a,b⟩=[]:=by
 unfold cm;simp only;rw[show (b - a+1).toNat=0 by omega];rfl
theorem Cb {u:aj}{p:List Int}(a:p.length<u.av.length)(b:u.av.length<=3){f:aT->List (Option aT)×aT}{G:Int->List (Option aT)}{lo hi:Int}(hb:0<=lo/\hi<=60)
  (d:∀n,lo<=n->n<=hi->∀h,Ag u (p++[n]) h->(f h).1=G n/\Ag u (p++[n]) (f h).2):
  ∀(k:Nat) (n:Int) (h:aT),Ag u p h->lo<=n->n<=61->61 - n<k->(ja f (p.length:Int) hi k n h).1=(cm ⟨n,hi⟩).flatMap G/\Ag u p (ja f (p.length:Int) hi k n h).2
 |0,n,h,H,e,g,i=>by omega
 |k+1,n,h,H,e,g,i=>by
  unfold ja
  by_cases c:n<=hi
  ·rw[if_pos c,tJ c]
   obtain ⟨x,e1,e2⟩:=H.set a b n
   rw[e1]
   obtain ⟨j,l⟩:=d n e c x e2
   have w:IntKind.i64.wrap (n+1)=n+1:=cI (by omega)
   obtain ⟨r1,r2⟩:=Cb a b hb d k (n+1) (f x).2 l.cut (by omega) (by omega) (by omega)
   simp only[w]
   exact ⟨by rw[j,r1,List.flatMap_cons],r2⟩
  ·rw[if_neg c,qP c]
   exact ⟨rfl,H⟩
theorem Cc {u:aj}(F:Fit u):∀(l:List bO) (p:List Int) (fuel:Nat) (h:aT),u.av.drop p.length=l->p.length+l.length=u.av.length->l.length<fuel->
  (∀(j:Nat) e,u.av[j]?=some e->j<p.length->∃n,p[j]?=some n/\e.high.low<=n/\n<=e.high.high)->Ag u p h->
  (eO u fuel (p.length:Int) h).1=((dN p l).filter (fG u)).map (fun x=>some (cF x))/\Ag u p (eO u fuel (p.length:Int) h).2
 |l,p,0,h,hd,a,b,hb,H=>by omega
 |[],p,fuel+1,h,hd,a,b,hb,H=>by
  have a:p.length=u.av.length:=by simpa using a
  unfold eO
  rw[if_pos (by omega)]
  obtain rfl:=H.cF a
  have R:=Ij F (h:=p) ⟨a,fun i e he=>hb i e he (by have:=(List.getElem?_eq_some_iff.1 he).1;omega)⟩
  refine ⟨?_,H⟩
  rw[R]
  unfold dN
  cases e:fG u p<;>simp[e]
 |e::l,p,fuel+1,h,hd,a,b,hb,H=>by
  simp only[List.length_cons] at a b
  have he:u.av[p.length]?=some e:=by
   have:=congrArg List.head? hd
   simpa [List.head?_drop] using this
  have k:u.av.drop (p.length+1)=l:=by
   have:=congrArg List.tail hd
   simpa [List.tail_drop] using this
  have o:=F.av
  have g:=(F.aQ _ _ he).2
  unfold eO
  rw[if_neg (by omega),g9 he]
  have w:IntKind.i64.wrap ((p.length:Int)+1)=((p.length+1:Nat):Int):=by rw[cI (by omega)];omega
  simp only[w]
  have key:=Cb (u:=u) (p:=p) (by omega) o.2 (f:=eO u fuel ((p.length+1:Nat):Int)) (G:=fun n=>((dN (p++[n]) l).filter (fG u)).map (fun x=>some (cF x))) (lo:=e.high.low) (hi:=e.high.high) ⟨g.1,g.2.2.1⟩
   (fun n n1 n2 x q=>by
    have:=Cc F l (p++[n]) fuel x (by simpa using k) (by simp;omega) (by omega) (fun j y d r=>by
     by_cases c:j<p.length
     ·obtain ⟨m,hm,s⟩:=hb j y d c
      exact ⟨m,by rw[List.getElem?_append_left c];exact hm,s⟩
     ·simp at r
      obtain rfl:j=p.length:=by omega
      rw[he] at d;cases d
      exact ⟨n,by simp,n1,n2⟩) q
    simpa using this) 100 e.high.low h H (Int.le_refl _) (by omega) (by omega)
  refine ⟨?_,key.2⟩
  rw[key.1,show dN p (e::l)=(cm e.high).flatMap fun n=>dN (p++[n]) l from rfl,List.filter_flatMap,List.map_flatMap]
theorem Iz (j:Nat):co ⟨0,0,0⟩ j=0:=by
 unfold co;split
 ·rfl
 ·split
  ·rfl
  ·split<;>rfl
theorem Cd {u:aj}(F:Fit u):mM u=(bw u).map (fun x=>some (cF x)):=by
 have c:=F.av;exact (Cc F u.av [] 5 ⟨0,0,0⟩ rfl (by simp) (by omega) (fun j e _ a=>absurd a (by simp)) ⟨fun j n b=>by simp at b,fun j _=>Iz j⟩).1
theorem Ce:∀(l:List aT) (s:List aT),s.length+l.length<=1000000->gb n6 (l.map some) s=some (.nx (s++l))
 |[],s,_=>by simp[gb]
 |x::l,s,h=>by
  simp only[List.length_cons] at h
  simp only[List.map_cons]
  have:=Ce l (s++[x]) (by simp;omega)
  rw[show s++x::l=s++[x]++l by simp,<-this]
  have e:n6 x s=some (.nx (s++[x])):=by
   unfold n6
   rw[m3 (by simp;omega)]
   rfl
  show gb _ (some x::l.map some) s=_
  rw[gb,e]
  rfl
theorem IA {l:List aT}(h:l.length<=1000):qe (l.map some)=some l:=by
 unfold qe sL;rw[Ce l [] (by simp;omega)];simp[ag,aD]
def Cf:cR:=⟨g8,[]⟩
theorem IB {u:aj}{a:List (aj->Option Int)}{c:Int}(h:eP u a=some (g8,c))(b:c≠0):fP u a=some (Cf,c):=by
 unfold fP;rw[h];simp only[ag];rw[show (c != 0)=true by simpa using b];rfl
theorem qQ {u:aj}(F:Fit u){b:List (aj->Option Int)}(h:eP u b=some (u,0)):fP u b=some (if (bw u).isEmpty then (Cf,9) else (⟨u,(bw u).map cF⟩,0)):=by
 unfold fP;rw[h];simp only[ag];rw[show ((0:Int) != 0)=false by decide];simp only[cond_false];have c:=(qO F).2;rw[Cd F,show (bw u).map (fun x=>some (cF x))=((bw u).map cF).map some by simp,IA (by simp;omega)];simp only[ag];cases bw u with
 |nil=>rfl
 |cons a l=>
  rw[show ((((a::l).map cF).length:Int)==0)=false by simp;omega];rfl
structure kJ (u:aj):Prop where
 e:u.ax.length<=20
 p:u.props.length<=20
 y:u.av.length<=20
 t:u.told.length<=20
theorem bars {u:aj}(L:kJ u):∃c,er u=some c/\jb u=some c:=by
 obtain ⟨b,c,a⟩:=HU u L.e L.p L.y L.t;exact ⟨c,a,b▸a⟩
theorem ya {u:aj}(h:er u=some 0):eP u []=some (u,0):=by
 unfold eP;rw[h];rfl
theorem IC {u:aj}{a c:Int}(h:jb u=some c)(b:c≠0):qD u a=some ([],c):=by
 unfold qD;rw[h];simp only[ag];rw[show (c != 0)=true by simpa using b];rfl
theorem Cg {u:aj}(F:Fit u)(h:jb u=some 0):qD u 0=some (if (bw u).isEmpty then ([],9) else (bw u,0)):=by
 unfold qD;rw[h,(qO F).1];simp only[ag];rw[show ((0:Int) != 0)=false by decide];simp only[cond_false];cases bw u with
 |nil=>rfl
 |cons a l=>
  rw[show (((a::l).length:Int)==0)=false by simp;omega];rfl
theorem ov:kJ g8:=⟨by decide,by decide,by decide,by decide⟩
theorem ID {u:aj}(L:kJ u):∃r,n8 u=some r/\tE u=some r/\kJ r.1:=by
 obtain ⟨c,d,f⟩:=bars L;unfold n8 tE;by_cases b:c=0
 ·subst b;have F:=xN u L.e d;rw[qQ F (ya d),Cg F f];simp only[ag];cases bw u with
  |nil=>exact ⟨_,rfl,rfl,ov⟩
  |cons a l=>
   have:=L.e;have:=L.p;have:=L.y;have:=L.t;simp only[List.isEmpty_cons,Bool.false_eq_true,if_false];rw[show ((0:Int) != 0)=false by decide];simp only[cond_false];unfold sG qd n4 qc;rw[if_pos (by omega),if_pos (by omega),if_pos (by omega),if_pos (by omega)];exact ⟨_,rfl,rfl,L⟩
 ·rw[IB (Bz [] d b) b,IC f b];simp only[ag];rw[show (c != 0)=true by simpa using b];exact ⟨_,rfl,rfl,ov⟩
theorem Ch (u:aj)(n:Int):eN n u=some (cond (gE u n) 0 6):=by
 unfold eN;rw[(qu u n).2];simp only[ag];cases gE u n<;>rfl
theorem yb {u:aj}(F:Fit u){n:Int}:gE u n=true↔0<=n/\n<u.av.length:=by
 have:=F.av;unfold gE;rw[cI (by omega),ew];omega
theorem IE {u:aj}(L:kJ u)(n:Int)(x:cC):∃r,lB u n x=some r/\x2 u n x=some r/\kJ r.1:=by
 obtain ⟨c,a,f⟩:=bars L;unfold lB x2;by_cases b:c=0
 ·subst b;have F:=xN u L.e a;have he:=F.av;rw[xS a (Ch u n),f,(qu u n).1];simp only[ag];rw[show ((0:Int) != 0)=false by decide];simp only[cond_false];cases h:gE u n with
  |false=>exact ⟨_,rfl,rfl,ov⟩
  |true=>
   obtain ⟨g,k⟩:=(yb F).1 h;have d:u.av[n.toNat]?=some (u.av[n.toNat]'(by omega)):=List.getElem?_eq_getElem _;generalize u.av[n.toNat]'(by omega)=e at d;simp only[cond_true];rw[show ((0:Int) != 0)=false by decide];simp only[cond_false,Bool.not_true,Bp,td];cases gm x 0 60 with
   |false=>exact ⟨_,rfl,rfl,ov⟩
   |true=>
    unfold n4 xz xC;rw[if_pos (by omega)];simp only[Bool.not_true,cond_false,qE g d];cases decide ((if x.high<e.high.high then x.high else e.high.high)<(if e.high.low<x.low then x.low else e.high.low)) with
    |true=>exact ⟨_,rfl,rfl,ov⟩
    |false=>
     simp only[cond_false,ag,m3 (l:=([]:List bO)) (xs:=u.av) (by simp;omega),List.nil_append,qE g d];obtain ⟨r,k1,i,j⟩:=ID (u:=⟨u.bH,u.bK,u.aS,u.ax,u.props,u.av.set n.toNat ⟨e.back,⟨(if e.high.low<x.low then x.low else e.high.low),(if x.high<e.high.high then x.high else e.high.high)⟩⟩,u.told⟩) ⟨L.e,L.p,by simp;omega,L.t⟩;rw[k1,i];exact ⟨_,rfl,rfl,j⟩
 ·rw[Bz _ a b,f];simp only[ag];rw[show (c != 0)=true by simpa using b];exact ⟨_,rfl,rfl,ov⟩
theorem Ci {α β σ:Type}(f:α->β)(g:Nat->β->σ->σ):∀(l:List α) (i:Nat) (s:σ),foldI g i (l.map f) s=foldI (fun i x s=>g i (f x) s) i l s
 |[],_,_=>rfl
 |x::l,i,s=>by
  simp only[List.map_cons]
  unfold foldI
  exact Ci f g l (i+1) _
theorem Cj {α σ:Type}{g g':Nat->α->σ->σ}:∀(l:List α) (i:Nat) (s:σ),(∀j x s,x∈l->g j x s=g' j x s)->foldI g i l s=foldI g' i l s
 |[],_,_,_=>rfl
 |x::l,i,s,h=>by
  unfold foldI
  rw[h i x s (List.mem_cons_self ..)]
  exact Cj l (i+1) _ fun j y s a=>h j y s (List.mem_cons_of_mem _ a)
theorem ow {u:aj}{h:List Int}(hm:h∈bw u):ou u h/\fG u h=true:=by
 obtain ⟨a,b⟩:=List.mem_filter.1 hm;exact ⟨x9 a,b⟩
section
variable {u : aj} (F : Fit u) {i : Nat} {e : bO} (he : u.av[i]? = some e)
include F he
theorem tK {h:List Int}(hm:h∈bw u):∃n,h[i]?=some n/\dX u i (h[i]?.getD 0)=⟨e.back,n⟩/\(1<=e.back/\e.back<=20)/\0<=n/\n<=60:=by
 obtain ⟨n,c,a,b⟩:=(ow hm).1.qG i e he;obtain ⟨c1,c2,c3,c4,d⟩:=F.aQ _ _ he;refine ⟨n,c,?_,c1,by omega,by omega⟩;rw[c];unfold dX;rw[he];rfl
end
end Go.Proofs.YtpgcmoanfifglaaGreatDoor
end
section
namespace Go.Sep
open Go Go.Conc
def m4 (P:Program)(J:Goroutine->aa->Prop)(ops:Array Oper)(F0:aa)(Q:Act->aa->Prop):List Oper->Bool->Act->aa->Prop
 |[],_,a,F=>Q a F
 |o::rest,_,a,F=>match cB ops o a with
  |some true=>cN P J o (fun v F'=>Knows F0 F'/\m4 P J ops F0 Q rest (!Oper.calls o) (bg a o.dst v) F') a F
  |some false=>m4 P J ops F0 Q rest true (bg a o.dst undef) F
  |none=>False
theorem IF {P:Program}{J:Goroutine->aa->Prop}{ops:Array Oper}{F0:aa}{Q:Act->aa->Prop}{go:Bool}{a:Act}{F:aa}:m4 P J ops F0 Q [] go a F=Q a F:=rfl
theorem IG {P:Program}{J:Goroutine->aa->Prop}{ops:Array Oper}{F0:aa}{Q:Act->aa->Prop}{o:Oper}{rest:List Oper}{a:Act}{F:aa}:m4 P J ops F0 Q (o::rest) true a F=match cB ops o a with
  |some true=>cN P J o (fun v F'=>Knows F0 F'/\m4 P J ops F0 Q rest (!Oper.calls o) (bg a o.dst v) F') a F
  |some false=>m4 P J ops F0 Q rest true (bg a o.dst undef) F
  |none=>False:=(Eq.refl _).trans (Eq.refl _)
attribute [irreducible] m4
attribute [go_sem] IF IG
end Go.Sep
end
section
namespace Go.Proofs.YtpgcmoanfifglaaGreatDoor
open Go Go.Sep Go.Proofs
set_option maxRecDepth 100000
set_option maxHeartbeats 4000000
theorem II {s:List aT}{y:aT}:kA s y=true↔y∈s:=by
 rw[xx,List.mem_map];constructor
 ·rintro ⟨z,a,h⟩;obtain rfl:=xw h;exact a
 ·exact fun h=>⟨y,h,rfl⟩
theorem Ck:∀(l s:List aT),(s++l).Nodup->gb od (l.map some) s=some (.nx (s++l))
 |[],s,_=>by simp[gb]
 |x::l,s,h=>by
  have e:od x s=some (.nx (s++[x])):=by
   unfold od
   have:kA s x=false:=by
    cases c:kA s x with
    |false=>rfl
    |true=>
     have a:=(List.nodup_append.1 h).2.2
     exact absurd rfl (a x (II.1 c) x (List.mem_cons_self ..))
   rw[this];rfl
  show gb od (some x::l.map some) s=_
  rw[gb,e]
  have:=Ck l (s++[x]) (by simpa using h)
  rw[show s++x::l=s++[x]++l by simp]
  exact this
theorem Cl:∀(l:List bO) (p h:List Int),h∈dN p l->∀j,j<p.length->h[j]?=p[j]?:=fun l p h hm=>(x8 l p h hm).2.2
theorem IJ (b:cC):(cm b).Nodup:=by
 unfold cm;refine List.Pairwise.map _ ?_ (List.nodup_range (n:=(b.high - b.low+1).toNat));intro a c h e;exact h (by omega)
theorem Cm:∀(l:List bO) (p:List Int),(dN p l).Nodup
 |[],p=>by simp[dN]
 |e::l,p=>by
  unfold dN
  rw[List.flatMap_def]
  unfold List.Nodup
  rw[List.pairwise_flatten]
  refine ⟨fun x d=>?_,?_⟩
  ·rw[List.mem_map] at d
   obtain ⟨n,_,rfl⟩:=d
   exact Cm l _
  ·rw[List.pairwise_map]
   refine (IJ e.high).imp ?_
   intro a b f x g y h i
   subst i
   have j:=Cl l _ _ g p.length (by simp)
   have c:=Cl l _ _ h p.length (by simp)
   rw[j] at c
   simp at c
   exact f c
theorem IK {l m:List Int}(h:l.length=m.length)(a:l.length<=3)(e:cF l=cF m):l=m:=by
 unfold cF at e;rw[aT.mk.injEq] at e;obtain ⟨e0,e1,e2⟩:=e;refine List.ext_getElem? fun i=>?_;by_cases hi:i<l.length
 ·have hm:i<m.length:=by omega
  have key:l[i]?.getD 0=m[i]?.getD 0:=by
   rcases (show i=0\/i=1\/i=2 by omega) with rfl|rfl|rfl<;>assumption
  rw[List.getElem?_eq_getElem hi,List.getElem?_eq_getElem hm] at key ⊢;simpa using key
 ·rw[List.getElem?_eq_none (by omega),List.getElem?_eq_none (by omega)]
theorem IL {u:aj}(F:Fit u):((bw u).map cF).Nodup:=by
 have c:(bw u).Nodup:=(Cm u.av []).filter _;unfold List.Nodup at c ⊢;rw[List.pairwise_map];refine List.Pairwise.imp_of_mem ?_ c;intro a b d hb f e;have g:=(ow d).1.len;have h:=(ow hb).1.len;have:=F.av;exact f (IK (by omega) (by omega) e)
theorem IM {u:aj}(F:Fit u)(h:er u=some 0):oe u=some (((bw u).length:Int),0):=by
 unfold oe;rw[ya h];simp only[ag];rw[show ((0:Int) != 0)=false by decide];simp only[cond_false];rw[Cd F,show (bw u).map (fun x=>some (cF x))=((bw u).map cF).map some by simp,Ck _ [] (by simpa using IL F)];simp[aD]
def kK (u:aj)(h:List Int):Bool:=(List.range u.av.length).all fun i=>!eI u (dX u i (h[i]?.getD 0))
theorem Cn {α:Type}{g:Nat->Bool}:∀(l:List α) (i:Nat),gF (fun i _=>if g i then none else some false) i l=if (List.range' i l.length).all g then none else some false
 |[],_=>rfl
 |x::l,i=>by
  unfold gF
  rw[List.length_cons,List.range'_succ,List.all_cons]
  cases h:g i with
  |false=>simp[h]
  |true=>
   simp only[h,if_true,Bool.true_and]
   exact Cn l (i+1)
theorem Co {u:aj}(F:Fit u){h:List Int}(hm:h∈bw u)(all:List aT):jE (cF h) ⟨u,all⟩=some (kK u h):=by
 have b:=F.av;unfold jE
 rw[x3 (t:=fun i _=>if !eI u (dX u i (h[i]?.getD 0)) then none else some false) u.av 0 false fun j e s he=>by
  rw[Nat.zero_add];have c:j<u.av.length:=(List.getElem?_eq_some_iff.1 he).1;obtain ⟨m,a,hs,hb⟩:=tK F he hm;have hg:aT.get (cF h) (j:Int)=some m:=qH (by omega) (by omega) (by simpa using a);unfold sE gX;simp only[hg,ag,g9 he,(qF F (s:=⟨e.back,m⟩) hb).1,hs]
  cases eI u ⟨e.back,m⟩<;>rfl]
 rw[Cn (g:=fun i=>!eI u (dX u i (h[i]?.getD 0)))];simp only[ag];unfold kK;rw[List.range_eq_range'];cases (List.range' 0 u.av.length).all fun i=>!eI u (dX u i (h[i]?.getD 0))<;>rfl
def iB (n m:Nat):Int:=if n=m then 1 else if n=0 then 2 else 0
theorem Cp {k:cR}{f:aT->Option Bool}{g:aT->Bool}(e:k.all.length<=1000)(h:∀x,x∈k.all->f x=some (g x)):nU k f=some (iB (k.all.countP g) k.all.length):=by
 have key:=jL (f:=p9 f) (ρ:=Int) (g:=fun _ x (n:Int)=>cond (g x) (n+1) n) (I:=fun j n=>0<=n/\n<=j/\j<=k.all.length) k.all 0 0 ⟨by omega,by omega,by omega⟩
  (fun j x n a i=>by
   have m:j<k.all.length:=(List.getElem?_eq_some_iff.1 a).1;refine ⟨?_,by cases g x<;>simp<;>omega⟩;unfold p9;rw[h x (List.mem_of_getElem? a)];simp only[ag];rw[cI (n:=n+1) (by omega)]
   cases g x<;>rfl)
 have b:∀(l:List aT) (j:Nat) (n:Int),foldI (fun _ x (n:Int)=>cond (g x) (n+1) n) j l n=n+(l.countP g:Nat):=by
  intro l
  induction l with
  |nil=>intro j n;simp[foldI]
  |cons x l ih=>
   intro j n;unfold foldI;rw[ih,List.countP_cons];cases g x<;>simp<;>omega
 rw[b] at key;unfold nU;rw[key.1];simp only[ag,aD,Int.zero_add];unfold iB;by_cases c:k.all.countP g=k.all.length
 ·rw[if_pos c,show (((k.all.countP g:Nat):Int)==(k.all.length:Int))=true by rw[c];simp];rfl
 ·rw[if_neg c,show (((k.all.countP g:Nat):Int)==(k.all.length:Int))=false by simp;omega];simp only[cond_false];by_cases d:k.all.countP g=0
  ·rw[if_pos d,d];rfl
  ·rw[if_neg d,show (((k.all.countP g:Nat):Int)==0)=false by rw[beq_eq_false_iff_ne];omega];rfl
theorem Cq {u:aj}(F:Fit u)(h:er u=some 0):kz u=some (if (bw u).isEmpty then (0,9) else (iB ((bw u).countP (kK u)) (bw u).length,0)):=by
 have c:=(qO F).2;unfold kz;rw[qQ F (ya h)];simp only[ag];cases hs:(bw u).isEmpty with
 |true=>rfl
 |false=>
  simp only[Bool.false_eq_true,if_false];rw[show ((0:Int) != 0)=false by decide];simp only[cond_false];have key:∀x,x∈(bw u).map cF->jE x ⟨u,(bw u).map cF⟩=some ((jE x ⟨u,(bw u).map cF⟩).getD false):=fun x b=>by
   rw[List.mem_map] at b;obtain ⟨y,a,rfl⟩:=b;rw[Co F a];rfl
  rw[Cp (k:=⟨u,(bw u).map cF⟩) (g:=fun x=>(jE x ⟨u,(bw u).map cF⟩).getD false) (by simp;omega) key];simp only[List.countP_map,List.length_map];have e:(bw u).countP ((fun x=>(jE x ⟨u,(bw u).map cF⟩).getD false) ∘ cF)=(bw u).countP (kK u):=List.countP_congr fun y a=>by
   simp only[Function.comp];rw[Co F a];rfl
  rw[e]
theorem Cr {u:aj}{s:bf}(F:Fit u)(hs:(1<=s.back/\s.back<=20)/\0<=s.high/\s.high<=60):eI u s=bQ u.aS (kH u s):=by
 obtain ⟨r,a,e,b⟩:=xY F hs;rw[x7 F hs] at a;obtain rfl:=Option.some.inj a;have c:Sm u.aS 20 20:=⟨by have:=F.num;omega,by have:=F.den;omega,by have:=F.den;omega⟩
 have d:=qy c b (by decide) (by decide);unfold eI gh;rw[x7 F hs];simp only[ag,d.2];rfl
structure RQ (u o:aj):Prop where
 bH:o.bH=u.bH
 bK:o.bK=u.bK
 aS:o.aS=u.aS
 props:o.props=u.props
 av:o.av=u.av
 told:o.told=u.told
 de:∀x,x∈u.props->iZ o x.place=iZ u x.place
 yc:∀s:bf,(1<=s.back/\s.back<=20)/\0<=s.high/\s.high<=60->(dM o s).2=(dM u s).2
theorem Cs {n a b:Int}(c:a<=n)(d:n<=b):bM n a b=true:=ew.2 ⟨c,d⟩
section
variable {u : aj} {s : bf} (F : Fit u) (h : er u = some 0) (hs : (1 ≤ s.back ∧ s.back ≤ 20) ∧ 0 ≤ s.high ∧ s.high ≤ 60)
include F h hs
theorem Ct:eP u [eM s]=some (u,0):=by
 have hb:eM s u=some 0:=by
  rw[H7,H8];unfold xT;rw[Cs hs.1.1 hs.1.2,Cs hs.2.1 hs.2.2];rfl
 rw[xS h hb];rfl
theorem IN:n5 u s=some (gG ⟨u.bK,1⟩ (dM u s).2,0):=by
 unfold n5;obtain ⟨r,k1,a⟩:=BK F hs;obtain ⟨c,-,e2,d,b⟩:=oq F hs;have e:r=gG ⟨u.bK,1⟩ (dM u s).2:=by
  unfold s8 at a;rw[b] at a;simp only[ag,x5 (qK F hs) (qz F hs)] at a;exact (Option.some.inj a).symm
 simp only[Ct F h hs,ag,bne_self_eq_false,cond_false,k1,e]
theorem IP:mN u s=some (kH u s,bQ u.aS (kH u s),0):=by
 unfold mN;have e1:=(qF F hs).1;rw[Cr F hs] at e1;simp only[Ct F h hs,ag,bne_self_eq_false,cond_false,x7 F hs,e1]
end
def lG (o:Nat)(S:List Int)(i:Nat):List Int:=(List.replicate o (S.flatMap fun n=>List.replicate i n)).flatten
def oz:List (List Int):=[[0],[0,1],[0,2],[0,1,2]]
def m5:List (Nat×Nat):=[(1,1),(1,2),(1,3),(1,4),(1,6),(1,9),(2,1),(3,1),(4,1),(6,1),(9,1),(2,2),(2,3),(3,2),(3,3)]
def yd (l:List Int):Option (List Int):=ag (qg l) fun x=>sU x.2
def oA (c:Nat):Bool:=m5.all fun p=>oz.all fun S=>yd (lG p.1 (S.map (· +(c:Int))) p.2)==some (S.map (· +(c:Int)))
theorem IQ:∀c:Fin 16,oA c.val=true:=by decide+kernel
theorem IS:∀c:Fin 16,oA (16+c.val)=true:=by decide+kernel
theorem IT:∀c:Fin 16,oA (32+c.val)=true:=by decide+kernel
theorem IU:∀c:Fin 13,oA (48+c.val)=true:=by decide+kernel
theorem IV {c:Nat}(h:c<=60):oA c=true:=by
 rcases Nat.lt_or_ge c 16 with x|x
 ·exact IQ ⟨c,x⟩
 rcases Nat.lt_or_ge c 32 with y|y
 ·have:=IS ⟨c - 16,by omega⟩
  rwa [show 16+(c - 16)=c by omega] at this
 rcases Nat.lt_or_ge c 48 with z|z
 ·have:=IT ⟨c - 32,by omega⟩
  rwa [show 32+(c - 32)=c by omega] at this
 ·have:=IU ⟨c - 48,by omega⟩
  rwa [show 48+(c - 48)=c by omega] at this
theorem IW {c:Nat}(h:c<=60){p:Nat×Nat}(a:p∈m5){S:List Int}(b:S∈oz):yd (lG p.1 (S.map (· +(c:Int))) p.2)=some (S.map (· +(c:Int))):=by
 have:=IV h;unfold oA at this;rw[List.all_eq_true] at this;have:=this p a;rw[List.all_eq_true] at this;simpa using this S b
def fH (u:aj)(i:Nat)(n:Int):Bool:=u.told.all fun t=>t.aQ != (i:Int)||(eI u (dX u i n)==t.bt)
def pL:List (List Int)->List (List Int)
 |[]=>[[]]
 |s::r=>s.flatMap fun n=>(pL r).map (n::·)
def jM (P:Nat->Int->Bool):Nat->List Int->Bool
 |_,[]=>true
 |i,x::r=>P i x&&jM P (i+1) r
def hH (P:Nat->Int->Bool):Nat->List (List Int)->List (List Int)
 |_,[]=>[]
 |i,s::r=>s.filter (P i)::hH P (i+1) r
def eJ (u:aj):List (List Int):=hH (fH u) 0 (u.av.map fun e=>cm e.high)
theorem Cu:∀(l:List bO) (p:List Int),dN p l=(pL (l.map fun e=>cm e.high)).map (p++·)
 |[],p=>by simp[dN,pL]
 |e::l,p=>by
  unfold dN
  rw[List.map_cons]
  unfold pL
  rw[List.map_flatMap]
  congr 1
  funext n
  rw[Cu l (p++[n]),List.map_map]
  refine List.map_congr_left fun q _=>?_
  simp
theorem Cv {α β:Type}(p:α->Bool)(f:α->List β):∀l:List α,(l.filter p).flatMap f=l.flatMap fun x=>if p x then f x else []
 |[]=>rfl
 |x::l=>by
  rw[List.flatMap_cons,<-Cv p f l,List.filter_cons]
  cases p x<;>simp
theorem Cw (P:Nat->Int->Bool):∀(S:List (List Int)) (i:Nat),(pL S).filter (jM P i)=pL (hH P i S)
 |[],i=>rfl
 |s::r,i=>by
  rw[show hH P i (s::r)=s.filter (P i)::hH P (i+1) r from rfl,show pL (s::r)=s.flatMap fun n=>(pL r).map (n::·) from rfl,
   show pL (s.filter (P i)::hH P (i+1) r)=(s.filter (P i)).flatMap fun n=>(pL (hH P (i+1) r)).map (n::·) from rfl]
  rw[Cv,List.filter_flatMap]
  congr 1
  funext n
  rw[List.filter_map]
  cases h:P i n with
  |false=>
   rw[show (jM P i ∘ fun x=>n::x)=fun _=>false by funext q;simp[jM,h]]
   simp
  |true=>
   rw[show (jM P i ∘ fun x=>n::x)=jM P (i+1) by funext q;simp[jM,h],Cw P r (i+1)]
   rfl
theorem Cx (P:Nat->Int->Bool):∀(h:List Int) (i:Nat),jM P i h=(List.range h.length).all fun j=>P (i+j) (h[j]?.getD 0)
 |[],i=>rfl
 |x::r,i=>by
  unfold jM
  rw[Cx P r (i+1),List.length_cons,List.range_succ_eq_map,List.all_cons,List.all_map]
  congr 1
  refine congrArg (fun f=>List.all _ f) ?_
  funext j
  simp only[Function.comp]
  rw[show i+1+j=i+(j+1) by omega]
  rfl
theorem IX {u:aj}(F:Fit u){h:List Int}(H:ou u h):fG u h=jM (fH u) 0 h:=by
 rw[Cx,Bool.eq_iff_iff];unfold fG;rw[List.all_eq_true,List.all_eq_true];constructor
 ·intro a j d;rw[Nat.zero_add];unfold fH;rw[List.all_eq_true];intro t ht;by_cases c:t.aQ=(j:Int)
  ·have:=a t ht;unfold kG at this;rw[c,Int.toNat_natCast] at this;rw[this,Bool.or_true]
  ·rw[show (t.aQ != (j:Int))=true by simpa using c,Bool.true_or]
 ·intro a t ht;obtain ⟨k,b⟩:=List.mem_iff_getElem?.1 ht;obtain ⟨e,b2⟩:=F.qw k t b;have f:=H.len;have:=a t.aQ.toNat (by rw[List.mem_range];omega);rw[Nat.zero_add] at this;unfold fH at this;rw[List.all_eq_true] at this;have:=this t ht;rw[show (t.aQ != (t.aQ.toNat:Int))=false by rw[bne_eq_false_iff_eq];omega,Bool.false_or] at this;exact this
theorem m6 {u:aj}(F:Fit u):bw u=pL (eJ u):=by
 unfold bw eJ;rw[<-Cw];have e:dN [] u.av=pL (u.av.map fun e=>cm e.high):=by rw[Cu];simp
 rw[<-e];refine List.filter_congr fun h hm=>?_;exact IX F (x9 hm)
theorem lH:∀S:List (List Int),(pL S).length=(S.map List.length).foldr (· *·) 1
 |[]=>rfl
 |s::r=>by
  unfold pL
  rw[List.length_flatMap,List.map_cons,List.foldr_cons,<-lH r]
  simp only[List.length_map]
  rw[List.map_const',List.sum_replicate_nat]
theorem Cz {α:Type}(x:List α)(m:Nat):∀o:Nat,(List.replicate o (List.replicate m x).flatten).flatten=(List.replicate (o*m) x).flatten
 |0=>by simp
 |o+1=>by
  rw[List.replicate_succ,List.flatten_cons,Cz x m o,<-List.flatten_append,List.replicate_append_replicate]
  congr 2
  rw[Nat.add_mul];omega
theorem CA {α β:Type}(x:List β):∀l:List α,l.flatMap (fun _=>x)=(List.replicate l.length x).flatten
 |[]=>rfl
 |a::l=>by rw[List.flatMap_cons,CA x l,List.length_cons,List.replicate_succ,List.flatten_cons]
theorem CB:∀(S:List (List Int)) (i:Nat) (s:List Int),S[i]?=some s->(pL S).map (fun h=>h[i]?.getD 0)=lG (((S.take i).map List.length).foldr (· *·) 1) s (((S.drop (i+1)).map List.length).foldr (· *·) 1)
 |[],i,s,h=>by simp at h
 |a::r,0,s,h=>by
  have h:a=s:=by simpa using h
  subst h
  unfold pL lG
  rw[List.map_flatMap]
  simp only[List.take_zero,List.map_nil,List.foldr_nil,List.replicate_one,List.flatten_cons,List.flatten_nil,List.append_nil,Nat.zero_add,List.drop_succ_cons,List.drop_zero]
  rw[<-lH]
  congr 1
  funext n
  rw[List.map_map,show ((fun h:List Int=>h[0]?.getD 0) ∘ fun x=>n::x)=fun _=>n from rfl,List.map_const']
 |a::r,i+1,s,h=>by
  have h:r[i]?=some s:=by simpa using h
  have ih:=CB r i s h
  unfold pL
  rw[List.map_flatMap]
  have e:(fun n:Int=>List.map (fun h:List Int=>h[i+1]?.getD 0) (List.map (fun x=>n::x) (pL r)))=fun _=>(pL r).map fun h=>h[i]?.getD 0:=by
   funext n
   rw[List.map_map]
   rfl
  rw[e,ih,CA]
  unfold lG
  rw[Cz]
  congr 2
theorem CC (P:Nat->Int->Bool):∀(S:List (List Int)) (i j:Nat),(hH P i S)[j]?=S[j]?.map (List.filter (P (i+j)))
 |[],i,j=>by simp[hH]
 |s::r,i,0=>by simp[hH]
 |s::r,i,j+1=>by
  have:=CC P r (i+1) j
  rw[show i+1+j=i+(j+1) by omega] at this
  simpa [hH] using this
theorem CD (P:Nat->Int->Bool):∀(S:List (List Int)) (i:Nat),(hH P i S).length=S.length
 |[],i=>rfl
 |s::r,i=>by simp[hH,CD P r (i+1)]
def cJ (u:aj)(i:Nat)(e:bO):List Int:=(cm e.high).filter (fH u i)
theorem lI {u:aj}{i:Nat}{e:bO}(he:u.av[i]?=some e):(eJ u)[i]?=some (cJ u i e):=by
 unfold eJ;rw[CC,List.getElem?_map,he];simp[cJ]
theorem lJ (u:aj):(eJ u).length=u.av.length:=by unfold eJ;rw[CD,List.length_map]
theorem IY (P:Int->Bool){b:cC}(f:0<=b.low)(g:b.low<=b.high)(i:b.high<=60)(j:b.high - b.low<3):
  (cm b).filter P=[]\/∃(c:Nat) (T:List Int),c<=60/\T∈oz/\(cm b).filter P=T.map (· +(c:Int)):=by
 obtain ⟨c,d⟩:∃c:Nat,b.low=(c:Int):=⟨b.low.toNat,by omega⟩
 rcases (show b.high=c\/b.high=c+1\/b.high=c+2 by omega) with h|h|h
 ·have e:cm b=[(c:Int)]:=by unfold cm;rw[h,d,show ((c:Int) - c+1).toNat=1 by omega];simp[List.range,List.range.loop]
  rw[e]
  cases p0:P c
  ·left;simp[List.filter,p0]
  ·right;exact ⟨c,[0],by omega,by decide,by simp[List.filter,p0]⟩
 ·have e:cm b=[(c:Int),c+1]:=by unfold cm;rw[h,d,show ((c:Int)+1 - c+1).toNat=2 by omega];simp[List.range,List.range.loop]
  rw[e]
  cases p0:P c<;>cases a:P (c+1)
  ·left;simp[List.filter,p0,a]
  ·right;exact ⟨c+1,[0],by omega,by decide,by simp[List.filter,p0,a]⟩
  ·right;exact ⟨c,[0],by omega,by decide,by simp[List.filter,p0,a]⟩
  ·right;exact ⟨c,[0,1],by omega,by decide,by simp[List.filter,p0,a];omega⟩
 ·have e:cm b=[(c:Int),c+1,c+2]:=by unfold cm;rw[h,d,show ((c:Int)+2 - c+1).toNat=3 by omega];simp[List.range,List.range.loop]
  rw[e]
  cases p0:P c<;>cases a:P (c+1)<;>cases p2:P (c+2)
  ·left;simp[List.filter,p0,a,p2]
  ·right;exact ⟨c+2,[0],by omega,by decide,by simp[List.filter,p0,a,p2]⟩
  ·right;exact ⟨c+1,[0],by omega,by decide,by simp[List.filter,p0,a,p2]⟩
  ·right;exact ⟨c+1,[0,1],by omega,by decide,by simp[List.filter,p0,a,p2];omega⟩
  ·right;exact ⟨c,[0],by omega,by decide,by simp[List.filter,p0,a,p2]⟩
  ·right;exact ⟨c,[0,2],by omega,by decide,by simp[List.filter,p0,a,p2];omega⟩
  ·right;exact ⟨c,[0,1],by omega,by decide,by simp[List.filter,p0,a,p2];omega⟩
  ·right;exact ⟨c,[0,1,2],by omega,by decide,by simp[List.filter,p0,a,p2];omega⟩
theorem ye:∀{S:List (List Int)},pL S≠[]->∀s,s∈S->s≠[]
 |[],_,s,h=>by simp at h
 |a::r,b,s,h=>by
  have e:pL (a::r)=a.flatMap fun n=>(pL r).map (n::·):=rfl
  rcases List.mem_cons.1 h with rfl|h
  ·intro he;rw[e,he] at b;exact b rfl
  ·refine ye (S:=r) (fun he=>?_) s h
   rw[e,he] at b
   exact b (by simp)
theorem IZ {o k:Nat}(d:1<=o)(e:1<=k){s:List Int}{n:Int}:n∈lG o s k↔n∈s:=by
 unfold lG;rw[List.mem_flatten];constructor
 ·rintro ⟨l,b,a⟩;rw[List.mem_replicate] at b;rw[b.2,List.mem_flatMap] at a;obtain ⟨m,hm,c⟩:=a;rw[(List.mem_replicate.1 c).2];exact hm
 ·intro a;exact ⟨_,List.mem_replicate.2 ⟨by omega,rfl⟩,List.mem_flatMap.2 ⟨n,a,List.mem_replicate.2 ⟨by omega,rfl⟩⟩⟩
def m7 (l:List Nat):Nat:=l.foldr (· *·) 1
theorem I0 {L:List Nat}(d:L.length<=3)(h:∀x,x∈L->1<=x/\x<=3){i:Nat}(hi:i<L.length):(m7 (L.take i),m7 (L.drop (i+1)))∈m5:=by
 match L,d,h,hi with
 |[a],_,h,hi=>
  obtain rfl:i=0:=by simpa using hi
  show (1,1)∈m5;decide
 |[a,b],_,h,hi=>
  have e:=h a (by simp);have hb:=h b (by simp);rcases (show a=1\/a=2\/a=3 by omega) with rfl|rfl|rfl<;>rcases (show b=1\/b=2\/b=3 by omega) with rfl|rfl|rfl<;>rcases (show i=0\/i=1 by simp at hi;omega) with rfl|rfl<;>decide
 |[a,b,c],_,h,hi=>
  have e:=h a (by simp);have hb:=h b (by simp);have f:=h c (by simp);rcases (show a=1\/a=2\/a=3 by omega) with rfl|rfl|rfl<;>rcases (show b=1\/b=2\/b=3 by omega) with rfl|rfl|rfl<;>rcases (show c=1\/c=2\/c=3 by omega) with rfl|rfl|rfl<;>rcases (show i=0\/i=1\/i=2 by simp at hi;omega) with rfl|rfl|rfl<;>decide
theorem yf {α β:Type}(f:α->β):∀l:List α,(l.flatMap fun x=>[f x])=l.map f
 |[]=>rfl
 |a::l=>by rw[List.flatMap_cons,yf f l];rfl
theorem tL {T:List Int}(h:T∈oz):1<=T.length/\T.length<=3:=by
 unfold oz at h;simp only[List.mem_cons,List.not_mem_nil,or_false] at h;rcases h with rfl|rfl|rfl|rfl<;>decide
variable {u : aj} (F : Fit u) (aF : bw u ≠ []) {i : Nat} {e : bO} (he : u.av[i]? = some e)
include F aF he
theorem qR:∃(c:Nat) (T:List Int),c<=60/\T∈oz/\cJ u i e=T.map (· +(c:Int)):=by
 obtain ⟨c1,c2,c3,c4,a⟩:=F.aQ _ _ he;rcases IY (fH u i) (b:=e.high) c2 c3 c4 a with h|h
 ·rw[m6 F] at aF;exact absurd h (ye aF _ (List.mem_of_getElem? (lI he)))
 ·exact h
theorem CE:∃p,p∈m5/\1<=p.1/\1<=p.2/\(bw u).map (fun h=>h[i]?.getD 0)=lG p.1 (cJ u i e) p.2:=by
 have hi:i<u.av.length:=(List.getElem?_eq_some_iff.1 he).1;have o:=F.av;have m:∀x,x∈(eJ u).map List.length->1<=x/\x<=3:=fun x f=>by
  rw[List.mem_map] at f;obtain ⟨s,hs,rfl⟩:=f;obtain ⟨j,g⟩:=List.mem_iff_getElem?.1 hs;have k:j<u.av.length:=by rw[<-lJ u];exact (List.getElem?_eq_some_iff.1 g).1
  have l:=lI (u:=u) (List.getElem?_eq_getElem k);rw[g] at l;obtain ⟨c,T,-,n,e2⟩:=qR F aF (List.getElem?_eq_getElem k);rw[Option.some.inj l,e2,List.length_map];exact tL n
 have d:=I0 (L:=(eJ u).map List.length) (by simp[lJ];omega) m (i:=i) (by simp[lJ];omega);refine ⟨_,d,?_,?_,?_⟩
 ·revert d;generalize m7 _=a;generalize m7 _=b;intro d;have:∀q,q∈m5->1<=q.1:=by decide
  exact this _ d
 ·revert d;generalize m7 _=a;generalize m7 _=b;intro d;have:∀q,q∈m5->1<=q.2:=by decide
  exact this _ d
 ·rw[m6 F,CB _ i _ (lI he)];unfold m7;rw[List.map_take,List.map_drop]
theorem oB {n:Int}:n∈cJ u i e↔∃h,h∈bw u/\h[i]?=some n:=by
 obtain ⟨p,f,a,p2,b⟩:=CE F aF he;rw[<-IZ a p2,<-b,List.mem_map];constructor
 ·rintro ⟨h,hm,rfl⟩;obtain ⟨m,c,_⟩:=(ow hm).1.qG i e he;exact ⟨h,hm,by rw[c];rfl⟩
 ·rintro ⟨h,hm,d⟩;exact ⟨h,hm,by rw[d];rfl⟩
theorem I1:bJ (oa (i:Int)) 0 ((bw u).map cF) []=some (.nx ((bw u).map fun h=>h[i]?.getD 0)):=by
 have hi:i<u.av.length:=(List.getElem?_eq_some_iff.1 he).1;have d:=F.av;have e:=(qO F).2;have key:=jL (f:=oa (i:Int)) (g:=fun _ x (s:List Int)=>s++[(aT.get x (i:Int)).getD 0]) (I:=fun j s=>s.length<=j/\j<=(bw u).length) ((bw u).map cF) 0 [] ⟨by simp,by omega⟩
  (fun j x s a k=>by
   rw[List.getElem?_map,Option.map_eq_some_iff] at a;obtain ⟨h,b,rfl⟩:=a;have l:j<(bw u).length:=(List.getElem?_eq_some_iff.1 b).1;obtain ⟨m,hm,hs,hb⟩:=tK F he (List.mem_of_getElem? b);have hg:aT.get (cF h) (i:Int)=some m:=qH (by omega) (by omega) (by simpa using hm);refine ⟨?_,?_⟩
   ·unfold oa;simp only[hg,ag,Option.getD_some];unfold c8;rw[if_pos (by simp;omega)]
   ·simp only[List.length_append,List.length_singleton];omega)
 rw[key.1,Ci];congr 2;have e1:foldI (fun n x s=>s++[((cF x).get (i:Int)).getD 0]) 0 (bw u) []=foldI (fun _ x (s:List Int)=>s++(fun x:List Int=>[x[i]?.getD 0]) x) 0 (bw u) []:=by
  refine Cj _ _ _ fun j h s hm=>?_;obtain ⟨m,c,hs,hb⟩:=tK F he hm;have hg:aT.get (cF h) (i:Int)=some m:=qH (by omega) (by omega) (by simpa using c);rw[hg];show _=s++[h[i]?.getD 0];rw[c]
 rw[e1,qN,List.nil_append];exact yf _ _
theorem CF:lC ⟨u,(bw u).map cF⟩ (i:Int)=some (cJ u i e):=by
 obtain ⟨p,a,j,p2,b⟩:=CE F aF he;obtain ⟨c,T,d,f,g⟩:=qR F aF he;have hs:=IW d a f;rw[<-g,<-b] at hs;unfold lC;rw[I1 F aF he];unfold yd at hs;simp only[ag,aD] at hs ⊢;cases h:qg ((bw u).map fun h=>h[i]?.getD 0) with
 |none=>rw[h] at hs;cases hs
 |some x=>
  rw[h] at hs;simp only at hs ⊢;rw[hs]
end Go.Proofs.YtpgcmoanfifglaaGreatDoor
end

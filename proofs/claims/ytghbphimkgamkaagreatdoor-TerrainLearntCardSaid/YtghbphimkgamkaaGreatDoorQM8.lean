/- A part of the proof of a row and its tied card: QM8. -/
import Derived.Test.YtghbphimkgamkaaGreatDoorQM7
set_option linter.all false
section
namespace Go.Proofs.YtghbphimkgamkaaGreatDoor
open Go Go.Sep Go.Proofs
set_option maxRecDepth 100000
set_option maxHeartbeats 4000000
def tB (u0:aj)(c:bn)(st:(Int×Int×an)):Option (Fl (Int×Int×an) (Int×an)):=
 cond (decide (st.2.1<(u0.az.length:Int))) (ag (bf u0.az st.2.1) fun b=>ag (m3 u0 c b.aL (⟨b.high,1⟩:an)) fun a=>cond ((st.2.1==0)) (some (.nx (st.2.1,(IntKind.i64.wrap (st.2.1+1)),a))) (ag (fN st.2.2 a) fun d=>cond (d) (some (.nx (st.2.1,(IntKind.i64.wrap (st.2.1+1)),a))) (some (.nx (st.1,(IntKind.i64.wrap (st.2.1+1)),st.2.2))))) (some (.bk (st.1,st.2.1,st.2.2)))
def tC (u0:aj)(b:bn):Option (Int×an):=
 ag (aZ (tB u0 b) fu (0,0,(⟨0,0⟩:an))) fun o=>aF o (fun a=>some (a.1,a.2.2)) (fun _ _=>none) (fun r=>some r)
def tD (u0:aj)(c:Int)(st:Int):Option (Fl Int an):=
 cond (decide ((IntKind.i64.wrap (st+1))<(u0.az.length:Int))) (ag (bf u0.az st) fun a=>ag (bf u0.az (IntKind.i64.wrap (st+1))) fun b=>cond (decide (c<=b.aL)) (ag (iJ (IntKind.i64.wrap ((IntKind.i64.wrap (a.high*(IntKind.i64.wrap (b.aL - a.aL))))+(IntKind.i64.wrap ((IntKind.i64.wrap (b.high - a.high))*(IntKind.i64.wrap (c - a.aL)))))) (IntKind.i64.wrap (b.aL - a.aL))) fun d=>some (.rt d)) (some (.nx (IntKind.i64.wrap (st+1))))) (some (.bk st))
def qN (u0:aj)(a:Int):Option an:=
 ag (aZ (tD u0 a) fu 0) fun o=>aF o (fun b=>some (⟨0,0⟩:an)) (fun _ _=>none) (fun r=>some r)
def x8 (u0:aj)(a:bn):Option an:=
 ag (tC u0 a) fun b=>ag (jZ (⟨u0.bM,1⟩:an) b.2) fun c=>some c
def tE (u0:aj)(d:bn)(st:(Int×an)):Option (Fl (Int×an) (an×Bool)):=
 cond (decide (st.1<(u0.props.length:Int))) (ag (bf u0.props st.1) fun a=>ag (qN u0 a.place) fun b=>ag (iJ (IntKind.i64.wrap (b.num+(IntKind.i64.wrap (a.dh*b.den)))) b.den) fun e=>ag (m3 u0 d a.place e) fun c=>cond ((st.1==0)) (ag (fY c c) fun f=>some (.nx ((IntKind.i64.wrap (st.1+1)),f))) (ag (fY st.2 c) fun g=>some (.nx ((IntKind.i64.wrap (st.1+1)),g)))) (some (.bk (st.1,st.2)))
def lP (u0:aj)(a:bn):Option (an×Bool):=
 ag (aZ (tE u0 a) fu (0,(⟨0,0⟩:an))) fun o=>aF o (fun b=>some (b.2,decide (0<(u0.props.length:Int)))) (fun _ _=>none) (fun r=>some r)
def qO (u0:aj)(b:bn):Option an:=
 ag (tC u0 b) fun a=>ag (fN a.2 (⟨u0.bM,1⟩:an)) fun e=>cond (e) (ag (lP u0 b) fun c=>cond (c.2) (ag (fY a.2 c.1) fun f=>ag (jZ (⟨u0.bM,1⟩:an) f) fun g=>ag (fY g (⟨0,1⟩:an)) fun h=>some h) (ag (jZ (⟨u0.bM,1⟩:an) a.2) fun i=>ag (fY i (⟨0,1⟩:an)) fun j=>some j)) (ag (lP u0 b) fun d=>cond (d.2) (ag (fY (⟨u0.bM,1⟩:an) d.1) fun k=>ag (jZ a.2 k) fun l=>ag (fY l (⟨0,1⟩:an)) fun m=>some m) (ag (jZ a.2 (⟨u0.bM,1⟩:an)) fun n=>ag (fY n (⟨0,1⟩:an)) fun o=>some o))
def tF (u0:aj)(a:bn):Option Bool:=
 ag (qO u0 a) fun b=>ag (fN u0.aV b) fun c=>some c
def x9 (u0:aj)(b:(List Int))(st:(Bool×Int)):Option (Fl (Bool×Int) Bool):=
 cond (decide (st.2<(u0.told.length:Int))) (ag (bf u0.told st.2) fun a=>ag (bf b a.aR) fun c=>ag (BM u0 a.aR c) fun d=>ag (tF u0 d) fun e=>cond (!(e==a.bq)) (some (.rt false)) (some (.nx (st.1,(IntKind.i64.wrap (st.2+1)))))) (some (.bk (st.1,st.2)))
def ya (u0:aj)(a:(List Int)):Option Bool:=
 ag (aZ (x9 u0 a) fu (false,0)) fun o=>aF o (fun b=>some true) (fun _ _=>none) (fun r=>some r)
def qP (a:(List (List Int)))(b:Int)(c:bL)(st:((List (List Int))×Int)):Option (Fl ((List (List Int))×Int) (List (List Int))):=
 cond (decide (st.2<=c.high.high)) (ag (bf a b) fun d=>ag (dc ([]:List Int) d) fun e=>ag (dc e ([st.2])) fun f=>ag (dc st.1 ([f])) fun g=>some (.nx (g,(IntKind.i64.wrap (st.2+1))))) (some (.bk (st.1,st.2)))
def qQ (u0:aj)(a:(List (List Int)))(c:Int)(st:((List (List Int))×Int)):Option (Fl ((List (List Int))×Int) (List (List Int))):=
 cond (decide (st.2<(a.length:Int))) (ag (bf u0.av c) fun b=>ag (aZ (qP a st.2 b) fu (st.1,b.high.low)) fun o=>aF o (fun d=>some (.nx (d.1,(IntKind.i64.wrap (st.2+1))))) (fun _ _=>none) (fun r=>some (.rt r))) (some (.bk (st.1,st.2)))
def tG (u0:aj)(st:((List (List Int))×Int)):Option (Fl ((List (List Int))×Int) (List (List Int))):=
 cond (decide (st.2<(u0.av.length:Int))) (ag (aZ (qQ u0 st.1 st.2) fu (([]:List (List Int)),0)) fun o=>aF o (fun a=>some (.nx (a.1,(IntKind.i64.wrap (st.2+1))))) (fun _ _=>none) (fun r=>some (.rt r))) (some (.bk (st.1,st.2)))
def tH (u0:aj)(a:(List (List Int)))(st:((List (List Int))×Int)):Option (Fl ((List (List Int))×Int) (List (List Int))):=
 cond (decide (st.2<(a.length:Int))) (ag (bf a st.2) fun b=>ag (ya u0 b) fun c=>cond (c) (ag (dc st.1 ([b])) fun d=>some (.nx (d,(IntKind.i64.wrap (st.2+1))))) (some (.nx (st.1,(IntKind.i64.wrap (st.2+1)))))) (some (.bk (st.1,st.2)))
def yb (u0:aj):Option (List (List Int)):=
 ag (aZ (tG u0) fu (([([]:(List Int))]),0)) fun o=>aF o (fun a=>ag (aZ (tH u0 a.1) fu (([]:List (List Int)),0)) fun o=>aF o (fun b=>some b.1) (fun _ _=>none) (fun r=>some r)) (fun _ _=>none) (fun r=>some r)
def qR (u0:aj)(a:Int):Option ((List (List Int))×Int):=
 ag (fZ u0) fun b=>cond ((b != 0)) (some (([]:(List (List Int))),b)) (cond ((a != 0)) (some (([]:(List (List Int))),a)) (ag (yb u0) fun c=>cond (((c.length:Int)==0)) (some (([]:(List (List Int))),9)) (some (c,0))))
def ng (u0:aj):Option (aj×Int):=
 ag (qR u0 0) fun a=>cond ((a.2 != 0)) (some ((⟨0,0,(⟨0,0⟩:an),([]:(List bT)),([]:(List bX)),([]:(List bL)),([]:(List bG))⟩:aj),a.2)) (some (u0,0))
def yc (u0:aj)(c:bG):Option (aj×Int):=
 ag (fZ u0) fun a=>cond ((a != 0)) (some ((⟨0,0,(⟨0,0⟩:an),([]:(List bT)),([]:(List bX)),([]:(List bL)),([]:(List bG))⟩:aj),a)) (ag (jr u0 c) fun d=>ag (ng d) fun b=>some (b.1,b.2))
def yd (u0:aj)(a:Int)(c:cj):Option (aj×Int):=
 ag (fZ u0) fun d=>cond ((d != 0)) (some ((⟨0,0,(⟨0,0⟩:an),([]:(List bT)),([]:(List bX)),([]:(List bL)),([]:(List bG))⟩:aj),d)) (ag (m0 u0 a) fun f=>cond (!f) (some ((⟨0,0,(⟨0,0⟩:an),([]:(List bT)),([]:(List bX)),([]:(List bL)),([]:(List bG))⟩:aj),6)) (ag (lN c 0 60) fun g=>cond (!g) (some ((⟨0,0,(⟨0,0⟩:an),([]:(List bT)),([]:(List bX)),([]:(List bL)),([]:(List bG))⟩:aj),1)) (ag (bf u0.av a) fun h=>ag (m4 h.high c) fun b=>cond (decide (b.high<b.low)) (some ((⟨0,0,(⟨0,0⟩:an),([]:(List bT)),([]:(List bX)),([]:(List bL)),([]:(List bG))⟩:aj),9)) (ag (lO u0 a b) fun i=>ag (ng i) fun e=>some (e.1,e.2)))))
def dA {α:Type}(t:Nat->α->Option Int):Nat->List α->Option Int
 |_,[]=>none
 |i,x::l=>match t i x with
  |some r=>some r
  |none=>dA t (i+1) l
def ia {σ:Type}(o:Option Int)(s:σ):Fl σ Int:=match o with
 |some r=>.rt r
 |none=>.nx s
theorem qS {α σ:Type}{f:Nat->α->σ->Option (Fl σ Int)}{t:Nat->α->Option Int}:∀(l:List α) (i:Nat) (s:σ),(∀j x s,l[j]?=some x->f (i+j) x s=some (ia (t (i+j) x) s))->bJ f i l s=some (ia (dA t i l) s)
 |[],i,s,_=>rfl
 |x::l,i,s,h=>by
  have a:=h 0 x s rfl
  simp only[Nat.add_zero] at a
  unfold bJ dA
  rw[a]
  cases ht:t i x with
  |some r=>rfl
  |none=>
   show bJ f (i+1) l s=_
   exact qS l (i+1) s fun j y s b=>by
    have:=h (j+1) y s (by simpa using b)
    rwa [show i+(j+1)=i+1+j by omega] at this
theorem BU {α σ:Type}{f:σ×Int->Option (Fl (σ×Int) Int)}{t:Nat->α->Option Int}(l:List α)(h:∀(i:Nat) x s,l[i]?=some x->f (s,(i:Int))=some (ia (t i x) (s,((i+1:Nat):Int))))(a:∀s,f (s,(l.length:Int))=some (.bk (s,(l.length:Int)))):
  ∀(k i n:Nat) (s:σ),i+k=l.length->k<n->aZ f n (s,(i:Int))=some (ia (dA t i (l.drop i)) (s,(l.length:Int)))
 |0,i,n+1,s,hi,_=>by
  obtain rfl:i=l.length:=by omega
  unfold aZ
  rw[a,List.drop_length]
  rfl
 |k+1,i,n+1,s,hi,d=>by
  have b:i<l.length:=by omega
  have c:l[i]?=some l[i]:=List.getElem?_eq_getElem b
  unfold aZ
  rw[h i _ s c,List.drop_eq_getElem_cons b]
  unfold dA
  cases ht:t i l[i] with
  |some r=>rfl
  |none=>exact BU l h a k (i+1) n s (by omega) (by omega)
theorem tJ {α σ:Type}{f:σ×Int->Option (Fl (σ×Int) Int)}{t:Nat->α->Option Int}(l:List α)(a:l.length<=1000)(h:∀(i:Nat) x s,l[i]?=some x->f (s,(i:Int))=some (ia (t i x) (s,((i+1:Nat):Int))))(b:∀s,f (s,(l.length:Int))=some (.bk (s,(l.length:Int))))(s:σ):
  aZ f fu (s,0)=some (ia (dA t 0 l) (s,(l.length:Int))):=by
 have:=BU l h b l.length 0 fu s (by omega) (Nat.lt_of_le_of_lt a (by decide))
 simpa using this
theorem kO:fM=eT:=rfl
theorem BV:qj=lN:=rfl
def bQ (a lo hi:Int):Bool:=decide (lo<=a)&&decide (a<=hi)
theorem e9 (a lo hi:Int):eT a lo hi=some (bQ a lo hi):=by
 unfold eT bQ;cases decide (lo<=a)<;>rfl
def gz (b:cj)(lo hi:Int):Bool:=decide (lo<=b.low)&&(decide (b.low<=b.high)&&decide (b.high<=hi))
theorem tK (b:cj)(lo hi:Int):lN b lo hi=some (gz b lo hi):=by
 unfold lN gz;cases decide (lo<=b.low)<;>cases decide (b.low<=b.high)<;>rfl
theorem cQ {n:Int}(h: -9223372036854775808<=n/\n<9223372036854775808):IntKind.i64.wrap n=n:=IntWalk.i64_in _ (by constructor<;>omega)
def gA (u:aj)(i:Nat)(x:bT):Option Int:=
 cond (bQ x.aL 0 (IntKind.i64.wrap (u.bH - 1))) (cond (bQ x.high 0 60) (match i with
  |0=>none
  |j+1=>match u.az[j]? with
   |some y=>cond (decide (x.aL<=y.aL)) (some 7) none
   |none=>none) (some 1)) (some 1)
theorem ye (u:aj)(g:u.az.length<=20):lD u=some (cond (bQ u.az.length 2 5) ((dA (gA u) 0 u.az).getD 0) 2)/\m9 u=lD u:=by
 have key:lD u=some (cond (bQ u.az.length 2 5) ((dA (gA u) 0 u.az).getD 0) 2):=by
  unfold lD;rw[kO,e9];show cond (!bQ (u.az.length:Int) 2 5) _ _=_;cases bQ (u.az.length:Int) 2 5 with
  |false=>rfl
  |true=>
   show ag (bJ _ 0 u.az 0) _=_;rw[qS (t:=gA u) u.az 0 0 ?_]
   .show aF (ia _ _) _ _ _=_;cases dA (gA u) 0 u.az<;>rfl
   .intro j x s b;rw[Nat.zero_add];unfold sR gA;rw[kO,e9,e9];show cond (!bQ x.aL 0 _) _ _=_;cases bQ x.aL 0 (IntKind.i64.wrap (u.bH - 1)) with
    |false=>rfl
    |true=>
     show cond (!bQ x.high 0 60) _ _=_;cases bQ x.high 0 60 with
     |false=>rfl
     |true=>
      cases j with
      |zero=>rfl
      |succ j=>
       have d:=(List.getElem?_eq_some_iff.1 b).1;have a:u.az[j]?=some u.az[j]:=List.getElem?_eq_getElem (by omega);have hw:IntKind.i64.wrap (((j+1:Nat):Int) - 1)=(j:Int):=by rw[cQ (by omega)];omega
       have hd:decide (0<((j+1:Nat):Int))=true:=decide_eq_true (by omega);show cond (decide (0<((j+1:Nat):Int))) _ _=_;rw[hd,hw];have hi:bf u.az (j:Int)=some u.az[j]:=by unfold bf;rw[if_pos (by omega),Int.toNat_natCast,a]
       show ag (bf u.az (j:Int)) _=_;rw[hi];simp only[a];show cond (decide (x.aL<=u.az[j].aL)) _ _=_;cases decide (x.aL<=u.az[j].aL)<;>rfl
 refine ⟨key,?_⟩;rw[key];unfold m9;rw[e9];show cond (!bQ (u.az.length:Int) 2 5) _ _=_;cases bQ (u.az.length:Int) 2 5 with
 |false=>rfl
 |true=>
  show ag (aZ _ fu (0,0)) _=_;rw[tJ (t:=gA u) u.az (by omega) ?_ ?_ 0]
  .show aF (ia _ _) _ _ _=_;cases dA (gA u) 0 u.az<;>rfl
  .intro j x s b;unfold qH gA;have d:=(List.getElem?_eq_some_iff.1 b).1;have c:decide ((j:Int)<(u.az.length:Int))=true:=decide_eq_true (by omega);have e:bf u.az (j:Int)=some x:=by unfold bf;rw[if_pos (by omega),Int.toNat_natCast,b]
   have f:IntKind.i64.wrap ((j:Int)+1)=((j+1:Nat):Int):=by rw[cQ (by omega)];omega
   show cond (decide ((j:Int)<(u.az.length:Int))) (ag (bf u.az (j:Int)) _) _=_;rw[c,e,cond_true];show ag (eT x.aL 0 (IntKind.i64.wrap (u.bH - 1))) _=_;rw[e9];show cond (!bQ x.aL 0 _) _ (ag (eT x.high 0 60) _)=_;rw[e9];cases bQ x.aL 0 (IntKind.i64.wrap (u.bH - 1)) with
   |false=>rfl
   |true=>
    show cond (!bQ x.high 0 60) _ _=_;cases bQ x.high 0 60 with
    |false=>rfl
    |true=>
     cases j with
     |zero=>rfl
     |succ j=>
      have a:u.az[j]?=some u.az[j]:=List.getElem?_eq_getElem (by omega);have hw:IntKind.i64.wrap (((j+1:Nat):Int) - 1)=(j:Int):=by rw[cQ (by omega)];omega
      have hd:decide (0<((j+1:Nat):Int))=true:=decide_eq_true (by omega);have hi:bf u.az (j:Int)=some u.az[j]:=by unfold bf;rw[if_pos (by omega),Int.toNat_natCast,a]
      dsimp only;simp only[hd,hw,hi,f,a,ag,cond_true,Bool.not_true,cond_false];cases decide (x.aL<=u.az[j].aL)<;>rfl
  .intro s;unfold qH;have c:decide ((u.az.length:Int)<(u.az.length:Int))=false:=decide_eq_false (by omega);show cond (decide ((u.az.length:Int)<(u.az.length:Int))) _ _=_;rw[c];rfl
theorem BW {ρ:Type}{f:Int×Int->Option (Fl (Int×Int) ρ)}(d:∀a b:Nat,a<9223372036854775808->b<9223372036854775808->b≠0->f ((a:Int),(b:Int))=some (.nx ((b:Int),((a % b:Nat):Int))))(e:∀a:Nat,f ((a:Int),0)=some (.bk ((a:Int),0))):
  ∀(b a k:Nat),a<9223372036854775808->b<9223372036854775808->b<k->aZ f k ((a:Int),(b:Int))=some (.nx (((Nat.gcd a b:Nat):Int),0)):=by
 intro b
 induction b using Nat.strongRecOn with
 |ind b ih=>
  intro a k g hb h
  obtain ⟨k,rfl⟩:∃m,k=m+1:=⟨k - 1,by omega⟩
  unfold aZ
  by_cases c:b=0
  .subst c
   have:=e a
   rw[show ((0:Nat):Int)=0 from rfl,this,Nat.gcd_zero_right]
   rfl
  .rw[d a b g hb c]
   show aZ f k ((b:Int),((a % b:Nat):Int))=_
   have hm:a % b<b:=Nat.mod_lt _ (by omega)
   rw[ih (a % b) hm b k hb (by omega) (by omega),Nat.gcd_comm a b,Nat.gcd_rec b a,Nat.gcd_comm]
theorem BX (a b:Nat)(d:a<9223372036854775808)(hb:b<9223372036854775808)(h:b≠0):iB (a:Int) (b:Int)=some ((a % b:Nat):Int):=by
 unfold iB;have c:¬(b:Int)=0:=by omega
 rw[if_neg c];have e:((a:Int).tmod (b:Int))=((a % b:Nat):Int):=by
  rw[Int.tmod_eq_emod_of_nonneg (by omega)];rfl
 rw[e]
theorem Iv (a k:Nat)(b:Nat)(c:a<9223372036854775808)(hb:b<9223372036854775808)(d:b<k):aZ ql k ((a:Int),(b:Int))=some (.nx (((Nat.gcd a b:Nat):Int),0)):=by
 refine BW (fun a b c hb e=>?_) (fun a=>rfl) b a k c hb d;unfold ql;have:(((b:Nat):Int) != 0)=true:=by simp;omega
 dsimp only;rw[this,BX a b c hb e];rfl
theorem Iw (a k:Nat)(b:Nat)(c:a<9223372036854775808)(hb:b<9223372036854775808)(d:b<k):aZ oD k ((a:Int),(b:Int))=some (.nx (((Nat.gcd a b:Nat):Int),0)):=by
 refine BW (fun a b c hb e=>?_) (fun a=>rfl) b a k c hb d;unfold oD;have:decide (0<((b:Nat):Int))=true:=decide_eq_true (by omega);dsimp only;rw[this,BX a b c hb e];rfl
def bK (n:Int)(d:Nat):an:=⟨n.tdiv (Nat.gcd n.natAbs d:Nat),(d:Int).tdiv (Nat.gcd n.natAbs d:Nat)⟩
theorem tL (a b:Int)(hb:0<b)(c: -9000000000000000000<=a/\a<=9000000000000000000):fJ a b=some (a.tdiv b):=by
 unfold fJ;rw[if_neg (by omega)];congr 1;have d:(a.tdiv b).natAbs<=a.natAbs:=by rw[Int.natAbs_tdiv];exact Nat.div_le_self _ _
 exact cQ (by omega)
theorem BY (n:Int)(h: -9000000000000000000<=n/\n<=9000000000000000000):(if n<IntKind.i64.wrap (0 - n) then IntKind.i64.wrap (0 - n) else n)=(n.natAbs:Int):=by
 rw[cQ (by omega)];split<;>omega
theorem qT (n:Int)(d:Nat)(a: -9000000000000000000<=n/\n<=9000000000000000000)(hd:0<d)(b:d<900000000000000000):kH n d=some (bK n d):=by
 unfold kH;rw[BY n a,Iv n.natAbs fu d (by omega) (by omega) (Nat.lt_trans b (by decide))];have hg:0<Nat.gcd n.natAbs d:=Nat.gcd_pos_of_pos_right _ hd;show ag (fJ n _) (fun x=>ag (fJ d _) fun y=>_)=_;rw[tL n _ (by omega) a,tL d _ (by omega) (by omega)];rfl
theorem qU (n:Int)(d:Nat)(a: -9000000000000000000<=n/\n<=9000000000000000000)(hd:0<d)(b:d<900000000000000000):iJ n d=some (bK n d):=by
 unfold iJ;have:decide ((d:Int)<0)=false:=decide_eq_false (by omega);rw[this];show ag (aZ oD fu _) _=_;rw[BY n a,Iw n.natAbs fu d (by omega) (by omega) (Nat.lt_trans b (by decide))];have hg:0<Nat.gcd n.natAbs d:=Nat.gcd_pos_of_pos_right _ hd;show ag (fJ n _) (fun x=>ag (fJ d _) fun y=>_)=_;rw[tL n _ (by omega) a,tL d _ (by omega) (by omega)];rfl
def ie (u:aj)(f:Int->Bool)(_:Nat)(x:bX):Option Int:=cond (f x.place) (cond (bQ x.dh 1 20) none (some 1)) (some 6)
def ig (_:Nat)(x:bL):Option Int:=cond (bQ x.back 1 20) (cond (gz x.high 0 60) (cond (decide (3<=IntKind.i64.wrap (x.high.high - x.high.low))) (some 1) none) (some 1)) (some 1)
def gP (u:aj)(i:Int):Bool:=bQ i 0 (IntKind.i64.wrap ((u.av.length:Int) - 1))
def js (u:aj)(_:Nat)(x:bG):Option Int:=cond (gP u x.aR) none (some 6)
theorem qV (u:aj)(i:Int):m0 u i=some (gP u i)/\n6 u i=some (gP u i):=by
 constructor
 .unfold m0;rw[e9];rfl
 .unfold n6;rw[kO,e9];rfl
theorem Ix (u:aj)(h:Int):g9 h u=some (cond (bQ h 1 20) 0 1):=by
 unfold g9;rw[kO,e9];show cond (!bQ h 1 20) _ _=_;cases bQ h 1 20<;>rfl
theorem yf (u:aj)(h:0<u.az.length)(c:u.az.length<=20):∃f:Int->Bool,∀p,gu u p=some (f p)/\mZ u p=some (f p):=by
 have a:u.az[0]?=some u.az[0]:=List.getElem?_eq_getElem h;have b:u.az[u.az.length - 1]?=some (u.az[u.az.length - 1]'(by omega)):=List.getElem?_eq_getElem _;have hw:IntKind.i64.wrap ((u.az.length:Int) - 1)=((u.az.length - 1:Nat):Int):=by rw[cQ (by omega)];omega
 have e0:bf u.az 0=some u.az[0]:=a;have e1:bf u.az ((u.az.length - 1:Nat):Int)=some (u.az[u.az.length - 1]'(by omega)):=by unfold bf;rw[if_pos (by omega),Int.toNat_natCast,b]
 refine ⟨fun p=>bQ p (u.az[0]).aL (u.az[u.az.length - 1]'(by omega)).aL,fun p=>?_⟩;have k:gu u p=some (bQ p (u.az[0]).aL (u.az[u.az.length - 1]'(by omega)).aL):=by
  unfold gu;rw[hw,e0,e1,kO];simp only[ag,e9]
 exact ⟨k,k⟩
def gV (u:aj):Int:=cond (bQ u.bH 2 60) (cond (bQ u.bM 0 60) (cond (bQ u.aV.den 1 20) (cond (bQ u.aV.num 0 20) (cond (((bK u.aV.num u.aV.den.toNat).num==u.aV.num)&&((bK u.aV.num u.aV.den.toNat).den==u.aV.den)) 0 3) 1) 1) 1) 1
theorem eH {a lo hi:Int}:bQ a lo hi=true↔lo<=a/\a<=hi:=by unfold bQ;simp
theorem tN (u:aj):n9 u=some (gV u):=by
 unfold n9 gV;rw[kO];simp only[e9,ag];cases c:bQ u.bH 2 60 with
 |false=>rfl
 |true=>
  cases d:bQ u.bM 0 60 with
  |false=>rfl
  |true=>
   cases a:bQ u.aV.den 1 20 with
   |false=>rfl
   |true=>
    cases b:bQ u.aV.num 0 20 with
    |false=>rfl
    |true=>
     rw[eH] at a b;have hd:u.aV.den=(u.aV.den.toNat:Int):=by omega
     have:=qT u.aV.num u.aV.den.toNat (by omega) (by omega) (by omega);rw[<-hd] at this;simp only[this,cond_true,Bool.not_true,cond_false];cases (((bK u.aV.num u.aV.den.toNat).num==u.aV.num)&&((bK u.aV.num u.aV.den.toNat).den==u.aV.den))<;>rfl
theorem Iy (u:aj):fZ u=cond (gV u != 0) (some (gV u)) (ag (m9 u) fun x=>cond (x != 0) (some x) (nc u)):=by
 unfold fZ gV;simp only[e9,ag];cases c:bQ u.bH 2 60 with
 |false=>rfl
 |true=>
  cases d:bQ u.bM 0 60 with
  |false=>rfl
  |true=>
   cases a:bQ u.aV.den 1 20 with
   |false=>rfl
   |true=>
    cases b:bQ u.aV.num 0 20 with
    |false=>rfl
    |true=>
     rw[eH] at a b;have hd:u.aV.den=(u.aV.den.toNat:Int):=by omega
     have:=qU u.aV.num u.aV.den.toNat (by omega) (by omega) (by omega);rw[<-hd] at this;simp only[this,cond_true,Bool.not_true,cond_false];cases (((bK u.aV.num u.aV.den.toNat).num==u.aV.num)&&((bK u.aV.num u.aV.den.toNat).den==u.aV.den)) with
     |false=>rfl
     |true=>
      simp only[Bool.not_true,cond_false,cond_true,bne_self_eq_false];cases m9 u with
      |none=>rfl
      |some x=>
       dsimp only;cases nc u<;>rfl
theorem tO (u:aj):mN u=some (cond (decide (3<(u.told.length:Int))) 2 ((dA (js u) 0 u.told).getD 0)):=by
 unfold mN;cases decide (3<(u.told.length:Int)) with
 |true=>rfl
 |false=>
  show ag (bJ _ 0 u.told 0) _=_;rw[qS (t:=js u) u.told 0 0 ?_]
  .show aF (ia _ _) _ _ _=_;cases dA (js u) 0 u.told<;>rfl
  .intro j x s a;unfold sO js;simp only[qV,ag];cases gP u x.aR<;>rfl
theorem tP (u:aj):mO u=some (cond (bQ u.av.length 1 3) ((dA ig 0 u.av).getD 0) 2):=by
 unfold mO;rw[kO,e9];simp only[ag];cases bQ (u.av.length:Int) 1 3 with
 |false=>rfl
 |true=>
  simp only[Bool.not_true,cond_false,cond_true];rw[qS (t:=ig) u.av 0 0 ?_]
  .show aF (ia _ _) _ _ _=_;cases dA ig 0 u.av<;>rfl
  .intro j x s a;unfold sP ig;simp only[kO,BV,e9,tK,ag];cases bQ x.back 1 20 with
   |false=>rfl
   |true=>
    cases gz x.high 0 60 with
    |false=>rfl
    |true=>
     simp only[Bool.not_true,cond_false,cond_true];cases decide (3<=IntKind.i64.wrap (x.high.high - x.high.low))<;>rfl
theorem tQ (u:aj)(f:Int->Bool)(a:∀p,gu u p=some (f p)/\mZ u p=some (f p)):mP u=some (cond (decide (3<(u.props.length:Int))) 2 ((dA (ie u f) 0 u.props).getD 0)):=by
 unfold mP;cases decide (3<(u.props.length:Int)) with
 |true=>rfl
 |false=>
  show ag (bJ _ 0 u.props 0) _=_;rw[qS (t:=ie u f) u.props 0 0 ?_]
  .show aF (ia _ _) _ _ _=_;cases dA (ie u f) 0 u.props<;>rfl
  .intro j x s b;unfold sQ ie;simp only[(a x.place).1,Ix,ag];cases f x.place with
   |false=>rfl
   |true=>
    cases bQ x.dh 1 20<;>rfl
theorem nh {α:Type}{t:Nat->α->Option Int}(h:∀i x r,t i x=some r->r≠0):∀(l:List α) (i:Nat) (r:Int),dA t i l=some r->r≠0
 |[],i,r,e=>by cases e
 |x::l,i,r,e=>by
  unfold dA at e
  cases ht:t i x with
  |some a=>rw[ht] at e;cases e;exact h i x _ ht
  |none=>rw[ht] at e;exact nh h l (i+1) r e
theorem BZ (u:aj)(f:Int->Bool)(i:Nat)(x:bX)(r:Int)(h:ie u f i x=some r):r≠0:=by
 unfold ie at h;revert h;cases f x.place<;>cases bQ x.dh 1 20<;>intro h<;>cases h<;>decide
theorem B1 (i:Nat)(x:bL)(r:Int)(h:ig i x=some r):r≠0:=by
 unfold ig at h;revert h;cases bQ x.back 1 20<;>cases gz x.high 0 60<;>cases decide (3<=IntKind.i64.wrap (x.high.high - x.high.low))<;>intro h<;>cases h<;>decide
theorem Iz (u:aj)(i:Nat)(x:bG)(r:Int)(h:js u i x=some r):r≠0:=by
 unfold js at h;revert h;cases gP u x.aR<;>intro h<;>cases h<;>decide
theorem B2 {o:Option Int}(h:∀r,o=some r->r≠0):(o.getD 0 != 0)=o.isSome:=by
 cases o with
 |none=>rfl
 |some r=>simpa using h r rfl
theorem IA (u:aj)(f:Int->Bool)(e:∀p,gu u p=some (f p)/\mZ u p=some (f p))(h:u.props.length<=20)(i:u.av.length<=20)(k:u.told.length<=20):
  nc u=ag (mP u) fun x=>cond (x != 0) (some x) (ag (mO u) fun y=>cond (y != 0) (some y) (mN u)):=by
 rw[tQ u f e,tP,tO]
 unfold nc
 simp only[ag]
 cases l:decide (3<(u.props.length:Int)) with
 |true=>rfl
 |false=>
  simp only[cond_false]
  rw[tJ (t:=ie u f) u.props (by omega) ?_ ?_ 0]
  .rw[B2 (nh (BZ u f) u.props 0)]
   cases dA (ie u f) 0 u.props with
   |some r=>rfl
   |none=>
    simp only[ia,aF,Option.isSome_none,cond_false,e9]
    cases m:bQ (u.av.length:Int) 1 3 with
    |false=>rfl
    |true=>
     simp only[Bool.not_true,cond_false,cond_true]
     rw[tJ (t:=ig) u.av (by omega) ?_ ?_ 0]
     .rw[B2 (nh B1 u.av 0)]
      cases dA ig 0 u.av with
      |some r=>rfl
      |none=>
       simp only[ia,aF,Option.isSome_none,cond_false]
       cases n:decide (3<(u.told.length:Int)) with
       |true=>rfl
       |false=>
        simp only[cond_false]
        rw[tJ (t:=js u) u.told (by omega) ?_ ?_ 0]
        .cases dA (js u) 0 u.told<;>rfl
        .intro j x s b
         have g:=(List.getElem?_eq_some_iff.1 b).1
         have a:decide ((j:Int)<(u.told.length:Int))=true:=decide_eq_true (by omega)
         have c:bf u.told (j:Int)=some x:=by unfold bf;rw[if_pos (by omega),Int.toNat_natCast,b]
         have d:IntKind.i64.wrap ((j:Int)+1)=((j+1:Nat):Int):=by rw[cQ (by omega)];omega
         unfold x3 js
         simp only[a,c,d,ag,qV,cond_true]
         cases gP u x.aR<;>rfl
        .intro s
         have a:decide ((u.told.length:Int)<(u.told.length:Int))=false:=decide_eq_false (by omega)
         unfold x3
         simp only[a,cond_false]
     .intro j x s b
      have g:=(List.getElem?_eq_some_iff.1 b).1
      have a:decide ((j:Int)<(u.av.length:Int))=true:=decide_eq_true (by omega)
      have c:bf u.av (j:Int)=some x:=by unfold bf;rw[if_pos (by omega),Int.toNat_natCast,b]
      have d:IntKind.i64.wrap ((j:Int)+1)=((j+1:Nat):Int):=by rw[cQ (by omega)];omega
      unfold x2 ig
      simp only[a,c,d,ag,e9,tK,cond_true]
      cases bQ x.back 1 20<;>cases gz x.high 0 60<;>cases decide (3<=IntKind.i64.wrap (x.high.high - x.high.low))<;>rfl
     .intro s
      have a:decide ((u.av.length:Int)<(u.av.length:Int))=false:=decide_eq_false (by omega)
      unfold x2
      simp only[a,cond_false]
  .intro j x s b
   have g:=(List.getElem?_eq_some_iff.1 b).1
   have a:decide ((j:Int)<(u.props.length:Int))=true:=decide_eq_true (by omega)
   have c:bf u.props (j:Int)=some x:=by unfold bf;rw[if_pos (by omega),Int.toNat_natCast,b]
   have d:IntKind.i64.wrap ((j:Int)+1)=((j+1:Nat):Int):=by rw[cQ (by omega)];omega
   unfold qI ie
   simp only[a,c,d,ag,e9,(e x.place).2,cond_true]
   cases f x.place<;>cases bQ x.dh 1 20<;>rfl
  .intro s
   have a:decide ((u.props.length:Int)<(u.props.length:Int))=false:=decide_eq_false (by omega)
   unfold qI
   simp only[a,cond_false]
theorem B3 (x:Int):cond (x != 0) (some x) (some 0)=some x:=by
 cases h:(x != 0) with
 |true=>rfl
 |false=>
  have:x=0:=by simpa using h
  rw[this];rfl
theorem IB (u:aj)(a:u.az.length<=20)(d:u.props.length<=20)(e:u.av.length<=20)(g:u.told.length<=20):dH u=fZ u/\∃r,dH u=some r:=by
 obtain ⟨he,h⟩:=ye u a;rw[Iy,h];show jk u=_/\∃r,jk u=some r;unfold jk;rw[tN];simp only[ag];cases hg:(gV u != 0) with
 |true=>exact ⟨rfl,_,rfl⟩
 |false=>
  simp only[cond_false];unfold lH;rw[he];simp only[ag];cases b:((cond (bQ u.az.length 2 5) ((dA (gA u) 0 u.az).getD 0) 2) != 0) with
  |true=>exact ⟨rfl,_,rfl⟩
  |false=>
   simp only[cond_false];have hb:bQ u.az.length 2 5=true:=by
    cases hb:bQ (u.az.length:Int) 2 5 with
    |true=>rfl
    |false=>rw[hb] at b;cases b
   have i:=eH.1 hb;obtain ⟨f,c⟩:=yf u (by omega) a;rw[IA u f c d e g];unfold lG;rw[tQ u f c];simp only[ag];cases j:((cond (decide (3<(u.props.length:Int))) 2 ((dA (ie u f) 0 u.props).getD 0)) != 0) with
   |true=>exact ⟨rfl,_,rfl⟩
   |false=>
    simp only[cond_false];unfold lF;rw[tP];simp only[ag];cases k:((cond (bQ u.av.length 1 3) ((dA ig 0 u.av).getD 0) 2) != 0) with
    |true=>exact ⟨rfl,_,rfl⟩
    |false=>
     simp only[cond_false];unfold lE oa;rw[tO];simp only[ag];rw[B3];exact ⟨rfl,_,rfl⟩
theorem qW {α:Type}{t:Nat->α->Option Int}:∀(l:List α) (i:Nat),dA t i l=none->∀j x,l[j]?=some x->t (i+j) x=none
 |[],i,_,j,x,a=>by simp at a
 |y::l,i,h,j,x,a=>by
  unfold dA at h
  cases ht:t i y with
  |some r=>rw[ht] at h;cases h
  |none=>
   rw[ht] at h
   cases j with
   |zero=>simp at a;subst a;exact ht
   |succ j=>
    have:=qW l (i+1) h j x (by simpa using a)
    rwa [show i+1+j=i+(j+1) by omega] at this
structure Fit (u:aj):Prop where
 bH:2<=u.bH/\u.bH<=60
 bM:0<=u.bM/\u.bM<=60
 den:1<=u.aV.den/\u.aV.den<=20
 num:0<=u.aV.num/\u.aV.num<=20
 az:2<=u.az.length/\u.az.length<=5
 kP:∀(i:Nat) x,u.az[i]?=some x->(0<=x.aL/\x.aL<=u.bH - 1)/\0<=x.high/\x.high<=60
 yg:∀(i:Nat) x y,u.az[i]?=some x->u.az[i+1]?=some y->x.aL<y.aL
 props:u.props.length<=3
 prop:∀(i:Nat) x,u.props[i]?=some x->gu u x.place=some true/\1<=x.dh/\x.dh<=20
 av:1<=u.av.length/\u.av.length<=3
 aR:∀(i:Nat) x,u.av[i]?=some x->(1<=x.back/\x.back<=20)/\0<=x.high.low/\x.high.low<=x.high.high/\x.high.high<=60/\x.high.high - x.high.low<3
 told:u.told.length<=3
 qX:∀(i:Nat) x,u.told[i]?=some x->0<=x.aR/\x.aR<u.av.length
theorem tR {o:Option Int}(h:∀r,o=some r->r≠0)(a:o.getD 0=0):o=none:=by
 cases o with
 |none=>rfl
 |some r=>exact absurd a (h r rfl)
theorem IC (u:aj)(i:Nat)(x:bT)(r:Int)(h:gA u i x=some r):r≠0:=by
 unfold gA at h;revert h;cases bQ x.aL 0 (IntKind.i64.wrap (u.bH - 1))<;>cases bQ x.high 0 60<;>try (intro h;cases h;decide)
 cases i with
 |zero=>intro h;cases h
 |succ j=>
  simp only[cond_true];cases u.az[j]? with
  |none=>intro h;cases h
  |some y=>dsimp only;cases decide (x.aL<=y.aL)<;>intro h<;>cases h<;>decide
theorem oJ (u:aj)(o:u.az.length<=20)(h:dH u=some 0):Fit u:=by
 have a:jk u=some 0:=h;clear h;unfold jk at a;rw[tN] at a;simp only[ag] at a;have hg:gV u=0:=by
  cases hg:(gV u != 0) with
  |true=>rw[hg] at a;exact Option.some.inj a
  |false=>simpa using hg
 rw[hg] at a;have a:lH u=some 0:=a;unfold lH at a;rw[(ye u o).1] at a;simp only[ag] at a;generalize g:cond (bQ (u.az.length:Int) 2 5) ((dA (gA u) 0 u.az).getD 0) 2=E at a;have z:E=0:=by
  cases d:(E != 0) with
  |true=>rw[d] at a;exact Option.some.inj a
  |false=>simpa using d
 rw[z] at a g;have a:lG u=some 0:=a;have hb:bQ (u.az.length:Int) 2 5=true:=by
  cases hb:bQ (u.az.length:Int) 2 5 with
  |true=>rfl
  |false=>rw[hb] at g;cases g
 rw[hb] at g;have M:=eH.1 hb;have p:=qW u.az 0 (tR (nh (IC u) u.az 0) g);obtain ⟨f,q⟩:=yf u (by omega) o;unfold lG at a;rw[tQ u f q] at a;simp only[ag] at a;generalize j:cond (decide (3<(u.props.length:Int))) 2 ((dA (ie u f) 0 u.props).getD 0)=r at a;have A:r=0:=by
  cases d:(r != 0) with
  |true=>rw[d] at a;exact Option.some.inj a
  |false=>simpa using d
 rw[A] at a j;have a:lF u=some 0:=a;have s:decide (3<(u.props.length:Int))=false:=by
  cases hb:decide (3<(u.props.length:Int)) with
  |false=>rfl
  |true=>rw[hb] at j;cases j
 rw[s] at j;have B:=qW u.props 0 (tR (nh (BZ u f) u.props 0) j);unfold lF at a;rw[tP] at a;simp only[ag] at a;generalize k:cond (bQ (u.av.length:Int) 1 3) ((dA ig 0 u.av).getD 0) 2=t at a;have C:t=0:=by
  cases d:(t != 0) with
  |true=>rw[d] at a;exact Option.some.inj a
  |false=>simpa using d
 rw[C] at a k;have a:lE u=some 0:=a;have v:bQ (u.av.length:Int) 1 3=true:=by
  cases hb:bQ (u.av.length:Int) 1 3 with
  |true=>rfl
  |false=>rw[hb] at k;cases k
 rw[v] at k;have N:=eH.1 v;have D:=qW u.av 0 (tR (nh B1 u.av 0) k);unfold lE oa at a;rw[tO] at a;simp only[ag] at a;rw[B3] at a;have l:=Option.some.inj a;have w:decide (3<(u.told.length:Int))=false:=by
  cases hb:decide (3<(u.told.length:Int)) with
  |false=>rfl
  |true=>rw[hb] at l;cases l
 rw[w] at l;have F:=qW u.told 0 (tR (nh (Iz u) u.told 0) l);have O:=of_decide_eq_false s;have P:=of_decide_eq_false w;clear a g j k l;have G:(2<=u.bH/\u.bH<=60)/\(0<=u.bM/\u.bM<=60)/\(1<=u.aV.den/\u.aV.den<=20)/\(0<=u.aV.num/\u.aV.num<=20):=by
  unfold gV at hg;refine ⟨eH.1 ?_,eH.1 ?_,eH.1 ?_,eH.1 ?_⟩<;>revert hg<;>cases bQ u.bH 2 60<;>cases bQ u.bM 0 60<;>cases bQ u.aV.den 1 20<;>cases bQ u.aV.num 0 20<;>intro hg<;>first|rfl|cases hg
 obtain ⟨H,I,J,K⟩:=G;have hw:IntKind.i64.wrap (u.bH - 1)=u.bH - 1:=cQ (by omega);have m:∀(i:Nat) x,u.az[i]?=some x->bQ x.aL 0 (u.bH - 1)=true/\bQ x.high 0 60=true:=by
  intro i x b;have:=p i x b;unfold gA at this;rw[hw] at this;revert this;cases bQ x.aL 0 (u.bH - 1)<;>cases bQ x.high 0 60<;>intro h<;>first|exact ⟨rfl,rfl⟩|cases h
 refine ⟨H,I,J,K,by omega,fun i x b=>⟨eH.1 (m i x b).1,eH.1 (m i x b).2⟩,fun i x y b n=>?_,by omega,fun i x b=>?_,by omega,fun i x b=>?_,by omega,fun i x b=>?_⟩
 .have:=p (i+1) y n;rw[Nat.zero_add] at this;unfold gA at this;rw[hw,(m _ _ n).1,(m _ _ n).2] at this;simp only[cond_true,b] at this;cases hd:decide (y.aL<=x.aL) with
  |true=>rw[hd] at this;cases this
  |false=>have:=of_decide_eq_false hd;omega
 .have:=B i x b;unfold ie at this;revert this;rw[(q x.place).1];cases f x.place<;>cases hb:bQ x.dh 1 20<;>intro h<;>first|exact ⟨rfl,eH.1 hb⟩|cases h
 .have:=D i x b;unfold ig at this;cases c:bQ x.back 1 20 with
  |false=>rw[c] at this;cases this
  |true=>
   cases e:gz x.high 0 60 with
   |false=>rw[c,e] at this;cases this
   |true=>
    rw[c,e] at this;unfold gz at e;simp only[Bool.and_eq_true,decide_eq_true_eq] at e;refine ⟨eH.1 c,e.1,e.2.1,e.2.2,?_⟩;cases hd:decide (3<=IntKind.i64.wrap (x.high.high - x.high.low)) with
    |true=>rw[hd] at this;cases this
    |false=>
     have L:=of_decide_eq_false hd;rw[cQ (by omega)] at L;omega
 .have:=F i x b;unfold js at this;cases c:gP u x.aR with
  |false=>rw[c] at this;cases this
  |true=>
   unfold gP at c;rw[cQ (by omega)] at c;have:=eH.1 c;omega
theorem yh (g:Nat)(hg:0<g)(n:Int)(d:Nat):bK ((g:Int)*n) (g*d)=bK n d:=by
 unfold bK;have e1:((g:Int)*n).natAbs=g*n.natAbs:=by rw[Int.natAbs_mul,Int.natAbs_natCast]
 rw[e1,Nat.gcd_mul_left];have a:(0:Int)<(g:Int):=by omega
 congr 1
 .rw[Int.natCast_mul,Int.mul_tdiv_mul_of_pos _ _ a]
 .rw[Int.natCast_mul,Int.natCast_mul,Int.mul_tdiv_mul_of_pos _ _ a]
theorem yj (n:Int)(d:Nat)(hd:0<d):∃g a:Nat,0<g/\0<a/\d=g*a/\n=(g:Int)*(bK n d).num/\(bK n d).den=(a:Int):=by
 have hg:0<Nat.gcd n.natAbs d:=Nat.gcd_pos_of_pos_right _ hd;obtain ⟨a,b⟩:=Nat.gcd_dvd_right n.natAbs d;refine ⟨Nat.gcd n.natAbs d,a,hg,?_,b,?_,?_⟩
 .rcases Nat.eq_zero_or_pos a with h|h
  .rw[h,Nat.mul_zero] at b;omega
  .exact h
 .have c:((Nat.gcd n.natAbs d:Nat):Int) ∣ n:=Int.ofNat_dvd_left.2 (Nat.gcd_dvd_left _ _);unfold bK;exact (Int.mul_tdiv_cancel' c).symm
 .have:(d:Int)=((Nat.gcd n.natAbs d:Nat):Int)*(a:Int):=by rw[<-Int.natCast_mul];exact congrArg _ b
  show (d:Int).tdiv ((Nat.gcd n.natAbs d:Nat):Int)=_;have e:((Nat.gcd n.natAbs d:Nat):Int)≠0:=by omega
  calc (d:Int).tdiv ((Nat.gcd n.natAbs d:Nat):Int)=(((Nat.gcd n.natAbs d:Nat):Int)*(a:Int)).tdiv ((Nat.gcd n.natAbs d:Nat):Int):=congrArg (fun z=>Int.tdiv z _) this
   _=(a:Int):=Int.mul_tdiv_cancel_left _ e
theorem dB {x y:Int}{A B:Nat}(a:x.natAbs<=A)(b:y.natAbs<=B):(x*y).natAbs<=A*B:=by
 rw[Int.natAbs_mul];exact Nat.mul_le_mul a b
theorem ep {n:Int}(h:n.natAbs<=9000000000000000000):IntKind.i64.wrap n=n:=cQ (by omega)
structure Sm (r:an)(A B:Nat):Prop where
 num:r.num.natAbs<=A
 den:0<r.den/\r.den<=B
theorem tS {a b:an}{A B C D:Nat}(c:Sm a A B)(hb:Sm b C D)(h:A*D+C*B<=900000000000000000)(hd:B*D<=800000000000000000):
  jO a b=some (bK (a.num*b.den+b.num*a.den) (a.den*b.den).toNat):=by
 have d:=dB c.num (show b.den.natAbs<=D by have:=hb.den;omega)
 have f:=dB hb.num (show a.den.natAbs<=B by have:=c.den;omega)
 have g:=dB (show a.den.natAbs<=B by have:=c.den;omega) (show b.den.natAbs<=D by have:=hb.den;omega)
 have i:0<a.den*b.den:=Int.mul_pos c.den.1 hb.den.1
 unfold jO
 rw[ep (n:=a.num*b.den) (by omega),ep (n:=b.num*a.den) (by omega),ep (n:=a.den*b.den) (by omega),ep (by omega)]
 have e:a.den*b.den=(((a.den*b.den).toNat:Nat):Int):=by omega
 have:=qT (a.num*b.den+b.num*a.den) (a.den*b.den).toNat (by omega) (by omega) (by omega)
 rw[<-e] at this
 rw[this]
 rfl
theorem yl {a b:an}{A B C D:Nat}(c:Sm a A B)(hb:Sm b C D)(h:A*D+C*B<=900000000000000000)(hd:B*D<=800000000000000000):
  jZ a b=some (bK (a.num*b.den - b.num*a.den) (a.den*b.den).toNat):=by
 have d:=dB c.num (show b.den.natAbs<=D by have:=hb.den;omega)
 have f:=dB hb.num (show a.den.natAbs<=B by have:=c.den;omega)
 have g:=dB (show a.den.natAbs<=B by have:=c.den;omega) (show b.den.natAbs<=D by have:=hb.den;omega)
 have i:0<a.den*b.den:=Int.mul_pos c.den.1 hb.den.1
 unfold jZ
 rw[ep (n:=a.num*b.den) (by omega),ep (n:=b.num*a.den) (by omega),ep (n:=a.den*b.den) (by omega),ep (by omega)]
 have e:a.den*b.den=(((a.den*b.den).toNat:Nat):Int):=by omega
 have:=qU (a.num*b.den - b.num*a.den) (a.den*b.den).toNat (by omega) (by omega) (by omega)
 rw[<-e] at this
 rw[this]
 rfl
theorem ym {a b:an}{A B C D:Nat}(c:Sm a A B)(hb:Sm b C D)(h:A*D+C*B<=900000000000000000)(hd:B*D<=800000000000000000)(hC:C<=9000000000000000000):
  jP a b=some (bK (a.num*b.den - b.num*a.den) (a.den*b.den).toNat):=by
 unfold jP
 have e:=hb.num
 rw[ep (by omega)]
 have d:Sm (⟨0 - b.num,b.den⟩:an) C D:=⟨by show (0 - b.num).natAbs<=C;omega,hb.den⟩
 rw[tS c d h hd]
 show some (bK (a.num*b.den+(0 - b.num)*a.den) (a.den*b.den).toNat)=_
 rw[show a.num*b.den+(0 - b.num)*a.den=a.num*b.den - b.num*a.den by rw[Int.zero_sub,Int.neg_mul];omega]
def tT (x y:bT)(p:Int):Option an:=
 iJ (IntKind.i64.wrap ((IntKind.i64.wrap (x.high*(IntKind.i64.wrap (y.aL - x.aL))))+(IntKind.i64.wrap ((IntKind.i64.wrap (y.high - x.high))*(IntKind.i64.wrap (p - x.aL)))))) (IntKind.i64.wrap (y.aL - x.aL))
theorem qY {α:Type}{l:List α}{i:Nat}{x:α}(h:l[i]?=some x):bf l (i:Int)=some x:=by unfold bf;rw[if_pos (by omega),Int.toNat_natCast,h]
theorem B4 (i:Nat)(h:i<1000):IntKind.i64.wrap ((i:Int)+1)=((i+1:Nat):Int):=by rw[cQ (by omega)];omega
theorem piece (u:aj)(p:Int)(g:u.az.length<=5)(z:bT)(b:u.az[u.az.length - 1]?=some z)(h:p<=z.aL):∀(m i n:Nat) (x y:bT),i+1+m=u.az.length - 1->m<n->u.az[i]?=some x->u.az[i+1]?=some y->
  ∃(k:Nat) (x y:bT),i<=k/\u.az[k]?=some x/\u.az[k+1]?=some y/\p<=y.aL/\(k=i\/x.aL<p)/\aZ (od u p) n ((i+1:Nat):Int)=some (.nx ((k+1:Nat):Int))/\
   aZ (tD u p) n (i:Int)=ag (tT x y p) fun r=>some (.rt r)
 |m,i,n+1,x,y,v,w,f,a=>by
  have A:i+1<u.az.length:=(List.getElem?_eq_some_iff.1 a).1
  have d1:decide (((i+1:Nat):Int)<(u.az.length:Int))=true:=decide_eq_true (by omega)
  unfold aZ od tD
  rw[B4 i (by omega),B4 (i+1) (by omega),qY f,qY a,d1]
  simp only[ag,cond_true]
  by_cases c:y.aL<p
  .have e1:decide (y.aL<p)=true:=decide_eq_true c
   have e2:decide (p<=y.aL)=false:=decide_eq_false (by omega)
   rw[e1,e2]
   simp only[cond_true,cond_false]
   cases m with
   |zero=>
    have:u.az.length - 1=i+1:=by omega
    rw[this,a] at b
    cases b
    omega
   |succ m=>
    have j:i+1+1<u.az.length:=by omega
    obtain ⟨k,l,y',B,d,o,q,e,s,t⟩:=piece u p g z b h m (i+1) n y (u.az[i+1+1]) (by omega) (by omega) a (List.getElem?_eq_getElem j)
    refine ⟨k,l,y',by omega,d,o,q,?_,s,t⟩
    rcases e with rfl|e
    .rw[a] at d;cases d;exact .inr c
    .exact .inr e
  .have e1:decide (y.aL<p)=false:=decide_eq_false c
   have e2:decide (p<=y.aL)=true:=decide_eq_true (by omega)
   rw[e1,e2]
   refine ⟨i,x,y,Nat.le_refl _,f,a,by omega,.inl rfl,rfl,?_⟩
   simp only[cond_true]
   unfold tT
   cases iJ _ _<;>rfl
theorem ju (n:Int)(d:Nat)(hd:0<d):Sm (bK n d) n.natAbs d:=by
 obtain ⟨g,a,hg,c,e1,e2,b⟩:=yj n d hd;refine ⟨?_,?_⟩
 .have:n.natAbs=g*(bK n d).num.natAbs:=by
   have:=congrArg Int.natAbs e2
   rwa [Int.natAbs_mul,Int.natAbs_natCast] at this
  rw[this];exact Nat.le_mul_of_pos_left _ hg
 .rw[b];have:a<=d:=by rw[e1];exact Nat.le_mul_of_pos_left _ hg
  omega
theorem B5 (h:Int)(n:Int)(d:Nat)(hd:0<d):bK (h*(bK n d).den+(bK n d).num) ((bK n d).den).toNat=bK (h*d+n) d:=by
 obtain ⟨g,a,hg,f,e1,e2,b⟩:=yj n d hd;have k1:h*(d:Int)+n=(g:Int)*(h*(a:Int)+(bK n d).num):=by
  rw[Int.mul_add,<-e2,e1,Int.natCast_mul,Int.mul_left_comm]
 rw[b];have c:((a:Nat):Int).toNat=a:=Int.toNat_natCast a;rw[c,k1];have e:bK ((g:Int)*(h*(a:Int)+(bK n d).num)) d=bK ((g:Int)*(h*(a:Int)+(bK n d).num)) (g*a):=congrArg _ e1;rw[e,yh g hg]
theorem ID (u:aj)(F:Fit u)(p:Int)(a z:bT)(g:u.az[0]?=some a)(j:u.az[u.az.length - 1]?=some z)(l:a.aL<=p)(m:p<=z.aL):
  ∃r,jl u p=some r/\qN u p=some r/\Sm r 7200 60/\∃(k:Nat) (x y:bT) (d:Nat),u.az[k]?=some x/\u.az[k+1]?=some y/\x.aL<=p/\p<=y.aL/\y.aL - x.aL=d/\0<d/\r=bK (x.high*d+(y.high - x.high)*(p - x.aL)) d:=by
 have o:=F.az
 obtain ⟨k,x,y,-,b,e,q,h,t,v⟩:=piece u p o.2 z j m (u.az.length - 2) 0 fu a (u.az[1]'(by omega)) (by omega) (Nat.lt_of_le_of_lt (show u.az.length - 2<=5 by omega) (by decide)) g (List.getElem?_eq_getElem _)
 have H:k+1<u.az.length:=(List.getElem?_eq_some_iff.1 e).1
 have I:=F.kP k x b
 have J:=F.kP (k+1) y e
 have K:=F.yg k x y b e
 have L:=F.bH
 have w:x.aL<=p:=by
  rcases h with rfl|h
  .rw[g] at b;cases b;exact l
  .omega
 have A:IntKind.i64.wrap (((k+1:Nat):Int) - 1)=(k:Int):=by rw[cQ (by omega)];omega
 have w1:IntKind.i64.wrap (y.high - x.high)=y.high - x.high:=cQ (by omega)
 have w2:IntKind.i64.wrap (p - x.aL)=p - x.aL:=cQ (by omega)
 have w3:IntKind.i64.wrap (y.aL - x.aL)=y.aL - x.aL:=cQ (by omega)
 have B:((y.high - x.high)*(p - x.aL)).natAbs<=60*60:=dB (by omega) (by omega)
 have i:(x.high*(y.aL - x.aL)).natAbs<=60*60:=dB (by omega) (by omega)
 obtain ⟨d,hd⟩:∃d:Nat,y.aL - x.aL=d:=⟨(y.aL - x.aL).toNat,by omega⟩
 generalize f:(y.high - x.high)*(p - x.aL)=n at B
 have c:0<d:=by omega
 have M:d<=60:=by omega
 have s1:=ju n d c
 have C:Sm (bK n d) 3600 60:=⟨Nat.le_trans s1.num (by omega),s1.den.1,by have:=s1.den.2;omega⟩
 have D:Sm (⟨x.high,1⟩:an) 60 1:=⟨by show x.high.natAbs<=60;omega,by show (0:Int)<1;omega,by show (1:Int)<=((1:Nat):Int);omega⟩
 refine ⟨bK (x.high*d+n) d,?_,?_,?_,k,x,y,d,b,e,w,q,hd,c,by rw[f]⟩
 .unfold jl
  have E:aZ (od u p) fu 1=some (.nx ((k+1:Nat):Int)):=t
  rw[E]
  simp only[ag,aF]
  rw[A,qY b,qY e]
  simp only[fU]
  rw[w1,w2,w3,f,hd,ep (by omega),qT n d (by omega) c (by omega)]
  simp only
  rw[tS D C (by omega) (by omega)]
  show some (bK (x.high*(bK n d).den+(bK n d).num*1) (1*(bK n d).den).toNat)=_
  rw[Int.mul_one,Int.one_mul,B5 x.high n d c]
 .unfold qN
  have G:aZ (tD u p) fu 0=ag (tT x y p) fun r=>some (.rt r):=v
  rw[G]
  unfold tT
  rw[w1,w2,w3,ep (n:=x.high*(y.aL - x.aL)) (by omega),f,ep (n:=n) (by omega),hd]
  rw[hd] at i
  rw[ep (n:=x.high*(d:Int)+n) (by omega),qU (x.high*d+n) d (by omega) c (by omega)]
  rfl
 .have s:=ju (x.high*d+n) d c
  rw[hd] at i
  exact ⟨Nat.le_trans s.num (by omega),s.den.1,by have:=s.den.2;omega⟩
theorem IE (u:aj)(F:Fit u)(p:Int)(a z:bT)(b:u.az[0]?=some a)(c:u.az[u.az.length - 1]?=some z)(d:a.aL<=p)(e:p<=z.aL):
  ∃r,jl u p=some r/\qN u p=some r/\Sm r 7200 60:=by
 obtain ⟨r,f,g,h,-⟩:=ID u F p a z b c d e
 exact ⟨r,f,g,h⟩
def ga:aj:=⟨0,0,(⟨0,0⟩:an),([]:List bT),([]:List bX),([]:List bL),([]:List bG)⟩
theorem B6 {u:aj}{c:Int}(a:List (aj->Option Int))(h:dH u=some c)(b:c≠0):eZ u a=some (ga,c):=by
 unfold eZ;rw[h];have:(c != 0)=true:=by simpa using b
 simp only[ag,this,cond_true];rfl
theorem B7 {u:aj}{f:aj->Option Int}{x:Int}(h:dH u=some 0)(a:f u=some x):eZ u [f]=some (cond (x != 0) (ga,x) (u,0)):=by
 unfold eZ;rw[h];simp only[ag,bne_self_eq_false,cond_false];unfold bJ s5;simp only[a,ag];cases (x != 0)<;>rfl
theorem IF (u:aj)(F:Fit u)(p:Int):∃a z,u.az[0]?=some a/\u.az[u.az.length - 1]?=some z/\gu u p=some (bQ p a.aL z.aL)/\mZ u p=some (bQ p a.aL z.aL):=by
 have d:=F.az;have b:u.az[0]?=some (u.az[0]'(by omega)):=List.getElem?_eq_getElem _;have c:u.az[u.az.length - 1]?=some (u.az[u.az.length - 1]'(by omega)):=List.getElem?_eq_getElem _;have hw:IntKind.i64.wrap ((u.az.length:Int) - 1)=((u.az.length - 1:Nat):Int):=by rw[cQ (by omega)];omega
 refine ⟨_,_,b,c,?_⟩;have k:gu u p=some (bQ p (u.az[0]'(by omega)).aL (u.az[u.az.length - 1]'(by omega)).aL):=by
  unfold gu;have e0:bf u.az 0=some (u.az[0]'(by omega)):=b;rw[hw,e0,qY c,kO];simp only[ag,e9]
 exact ⟨k,k⟩
theorem IG {n m:Int}{d e:Nat}(hd:0<d)(he:0<e)(h:n*(e:Int)=m*(d:Int)):bK n d=bK m e:=by
 have a:=yh e he n d;have b:=yh d hd m e;rw[<-a,<-b];have e1:(e:Int)*n=(d:Int)*m:=by rw[Int.mul_comm,h,Int.mul_comm]
 rw[e1,Nat.mul_comm e d]
theorem B8 (n:Int)(d:Nat)(hd:0<d):(bK n d).num*(d:Int)=n*(bK n d).den/\0<(bK n d).den:=by
 obtain ⟨g,a,hg,c,e1,e2,b⟩:=yj n d hd;refine ⟨?_,by rw[b];omega⟩;rw[b];have k1:(d:Int)=(g:Int)*(a:Int):=by rw[<-Int.natCast_mul];exact congrArg _ e1
 calc (bK n d).num*(d:Int)=(bK n d).num*((g:Int)*(a:Int)):=by rw[<-k1]
  _=((g:Int)*(bK n d).num)*(a:Int):=by rw[<-Int.mul_assoc,Int.mul_comm (bK n d).num]
  _=n*(a:Int):=by rw[<-e2]
theorem kQ {a b:an}{A B C D:Nat}(c:Sm a A B)(hb:Sm b C D)(h:A*D<=9000000000000000000)(d:C*B<=9000000000000000000):fN a b=some (decide (a.num*b.den<b.num*a.den))/\eB a b=some (decide (a.num*b.den<b.num*a.den)):=by
 have e:=dB c.num (show b.den.natAbs<=D by have:=hb.den;omega);have f:=dB hb.num (show a.den.natAbs<=B by have:=c.den;omega);have k:fN a b=some (decide (a.num*b.den<b.num*a.den)):=by
  unfold fN;rw[ep (n:=a.num*b.den) (by omega),ep (n:=b.num*a.den) (by omega)]
 exact ⟨k,k⟩
theorem II {h md a d e b f c N:Int}(g:d*b=N*md)(i:e*f=c*a):(h*(md*a)+d*e)*(b*f)=(h*b*f+N*c)*(md*a):=by
 grind
theorem B9 (u:aj)(F:Fit u)(s:bn)(hs:(1<=s.back/\s.back<=20)/\0<=s.high/\s.high<=60)(at_:Int)(aL:Int)(H:0<=aL/\aL<=60)(e:an)(he:Sm e 10000 100):
  ∃c,kI u s at_ ⟨aL,e⟩=some ⟨⟨aL,e⟩,at_,c⟩/\m3 u s aL e=some c/\c=bK (s.high*e.den*(aL+s.back)+(e.num - s.high*e.den)*(u.bH+s.back)) (e.den*(aL+s.back)).toNat:=by
 have I:=F.bH
 have w1:IntKind.i64.wrap (u.bH+s.back)=u.bH+s.back:=cQ (by omega)
 have w2:IntKind.i64.wrap (aL+s.back)=aL+s.back:=cQ (by omega)
 obtain ⟨f,b⟩:∃f:Nat,aL+s.back=f:=⟨(aL+s.back).toNat,by omega⟩
 have d:0<f:=by omega
 have J:f<=80:=by omega
 generalize m:u.bH+s.back=c at*
 have o:c.natAbs<=80:=by omega
 have p:Sm (⟨s.high,1⟩:an) 60 1:=⟨by show s.high.natAbs<=60;omega,by show (0:Int)<1;omega,by show (1:Int)<=((1:Nat):Int);omega⟩
 obtain ⟨a,j⟩:∃n:Nat,e.den=n:=⟨e.den.toNat,by have:=he.den;omega⟩
 have g:0<a:=by have:=he.den;omega
 have K:a<=100:=by have:=he.den;omega
 have A:(s.high*e.den).natAbs<=60*100:=dB (by omega) (by omega)
 have b2:(e.num - s.high*e.den).natAbs<=16000:=by have:=he.num;omega
 have q:=ym he p (by omega) (by omega) (by omega)
 have e1:e.num*(1:Int) - s.high*e.den=e.num - s.high*e.den:=by rw[Int.mul_one]
 have e2:(e.den*(1:Int)).toNat=a:=by rw[Int.mul_one,j,Int.toNat_natCast]
 rw[show ((⟨s.high,1⟩:an).den)=(1:Int) from rfl,show ((⟨s.high,1⟩:an).num)=s.high from rfl,e1,e2] at q
 generalize B:e.num - s.high*e.den=N at*
 have sm:=ju N a g
 have r:=ju c f d
 have t:=B8 N a g
 have v:=B8 c f d
 have L:((bK N a).num*(bK c f).num).natAbs<=16000*80:=dB (Nat.le_trans sm.num b2) (Nat.le_trans r.num o)
 have O:((bK N a).den*(bK c f).den).natAbs<=100*80:=dB (by have:=sm.den;omega) (by have:=r.den;omega)
 have P:0<(bK N a).den*(bK c f).den:=Int.mul_pos t.2 v.2
 obtain ⟨M,w⟩:∃M:Nat,(bK N a).den*(bK c f).den=M:=⟨((bK N a).den*(bK c f).den).toNat,by omega⟩
 have h:0<M:=by omega
 have C:=qT c f (by omega) d (by omega)
 have D:=qT ((bK N a).num*(bK c f).num) M (by omega) h (by omega)
 have sq:=ju ((bK N a).num*(bK c f).num) M h
 have E:Sm (bK ((bK N a).num*(bK c f).num) M) 1280000 8000:=⟨Nat.le_trans sq.num (by omega),sq.den.1,by have:=sq.den.2;omega⟩
 have x:=tS p E (by omega) (by omega)
 have G:s.high*(bK ((bK N a).num*(bK c f).num) M).den+(bK ((bK N a).num*(bK c f).num) M).num*1=s.high*(bK ((bK N a).num*(bK c f).num) M).den+(bK ((bK N a).num*(bK c f).num) M).num:=by rw[Int.mul_one]
 rw[show ((⟨s.high,1⟩:an).den)=(1:Int) from rfl,show ((⟨s.high,1⟩:an).num)=s.high from rfl,G,Int.one_mul,B5 s.high _ M h] at x
 have k:e.den*(aL+s.back)=((a*f:Nat):Int):=by rw[j,b,Int.natCast_mul]
 have i:(e.den*(aL+s.back)).toNat=a*f:=by rw[k,Int.toNat_natCast]
 have y:bK (s.high*(M:Int)+(bK N a).num*(bK c f).num) M=bK (s.high*e.den*(aL+s.back)+N*c) (a*f):=by
  refine IG h (Nat.mul_pos g d) ?_
  rw[Int.natCast_mul,<-w,b,j]
  exact II (by rw[t.1]) (by rw[v.1])
 refine ⟨_,?_,?_,rfl⟩
 .unfold kI
  have l:IntKind.i64.wrap (f:Int)=f:=cQ (by omega)
  simp only[fU,ag,q,m,w1,b,l,C]
  rw[ep (by omega),ep (n:=(bK N a).den*(bK c f).den) (by omega),w,D]
  simp only[x]
  rw[b] at i y
  rw[i,y]
 .unfold m3
  have l:IntKind.i64.wrap (f:Int)=f:=cQ (by omega)
  have Q:(s.high*e.den*(f:Int)).natAbs<=6000*80:=dB A (by omega)
  have p2:(N*c).natAbs<=16000*80:=dB b2 o
  have p3:(e.den*(f:Int)).natAbs<=100*80:=dB (by omega) (by omega)
  simp only[m,w1,b,l]
  rw[ep (n:=s.high*e.den) (by omega),B,ep (n:=N) (by omega),ep (n:=s.high*e.den*(f:Int)) (by omega),ep (n:=N*c) (by omega),ep (n:=s.high*e.den*(f:Int)+N*c) (by omega),ep (n:=e.den*(f:Int)) (by omega)]
  rw[b] at k i
  have z:=qU (s.high*e.den*(f:Int)+N*c) (a*f) (by omega) (Nat.mul_pos g d) (by omega)
  rw[i]
  rw[<-k] at z
  rw[z]
  rfl
def dP (u:aj)(s:bn)(x:bT):an:=bK (s.high*1*(x.aL+s.back)+(x.high - s.high*1)*(u.bH+s.back)) (1*(x.aL+s.back)).toNat
theorem Ca (u:aj)(F:Fit u)(s:bn)(hs:(1<=s.back/\s.back<=20)/\0<=s.high/\s.high<=60)(i:Nat)(x:bT)(a:u.az[i]?=some x)(at_:Int):
  kI u s at_ ⟨x.aL,⟨x.high,1⟩⟩=some ⟨⟨x.aL,⟨x.high,1⟩⟩,at_,dP u s x⟩/\m3 u s x.aL ⟨x.high,1⟩=some (dP u s x):=by
 have p:=F.kP i x a
 have f:=F.bH
 have he:Sm (⟨x.high,1⟩:an) 10000 100:=⟨by show x.high.natAbs<=10000;omega,by show (0:Int)<1;omega,by show (1:Int)<=((100:Nat):Int);omega⟩
 obtain ⟨c,b,d,e⟩:=B9 u F s hs at_ x.aL (by omega) ⟨x.high,1⟩ he
 have:c=dP u s x:=e
 subst this
 exact ⟨b,d⟩
theorem Cb (u:aj)(F:Fit u)(s:bn)(hs:(1<=s.back/\s.back<=20)/\0<=s.high/\s.high<=60)(i:Nat)(x:bT)(a:u.az[i]?=some x):Sm (dP u s x) 10000 100:=by
 have p:=F.kP i x a;have b:=F.bH;unfold dP;rw[Int.mul_one,Int.one_mul];have c:(s.high*(x.aL+s.back)).natAbs<=60*79:=dB (by omega) (by omega);have b2:((x.high - s.high)*(u.bH+s.back)).natAbs<=60*80:=dB (by omega) (by omega);have h:=ju (s.high*(x.aL+s.back)+(x.high - s.high)*(u.bH+s.back)) (x.aL+s.back).toNat (by omega);exact ⟨Nat.le_trans h.num (by omega),h.den.1,by have:=h.den.2;omega⟩
def foldI {α σ:Type}(g:Nat->α->σ->σ):Nat->List α->σ->σ
 |_,[],s=>s
 |i,x::l,s=>foldI g (i+1) l (g i x s)
theorem iK {α σ ρ:Type}{f:Nat->α->σ->Option (Fl σ ρ)}{g:Nat->α->σ->σ}{I:Nat->σ->Prop}:∀(l:List α) (i:Nat) (s:σ),I i s->(∀j x s,l[j]?=some x->I (i+j) s->f (i+j) x s=some (.nx (g (i+j) x s))/\I (i+j+1) (g (i+j) x s))->
  bJ f i l s=some (.nx (foldI g i l s))/\I (i+l.length) (foldI g i l s)
 |[],i,s,hs,_=>⟨rfl,hs⟩
 |x::l,i,s,hs,h=>by
  obtain ⟨a,b⟩:=h 0 x s rfl hs
  simp only[Nat.add_zero] at a b
  unfold bJ foldI
  rw[a]
  have:=iK l (i+1) _ b fun j y s c hs=>by
   have:=h (j+1) y s (by simpa using c) (by rwa [show i+(j+1)=i+1+j by omega])
   rwa [show i+(j+1)=i+1+j by omega] at this
  rwa [show i+1+l.length=i+(x::l).length by simp;omega] at this
theorem Cc {α σ τ ρ:Type}{f:τ->Option (Fl τ ρ)}{g:Nat->α->σ->σ}{I:Nat->σ->Prop}(e:σ->Int->τ)(l:List α)(h:∀(i:Nat) x s,l[i]?=some x->I i s->f (e s (i:Int))=some (.nx (e (g i x s) ((i+1:Nat):Int)))/\I (i+1) (g i x s))(a:∀s,f (e s (l.length:Int))=some (.bk (e s (l.length:Int)))):
  ∀(k i n:Nat) (s:σ),I i s->i+k=l.length->k<n->aZ f n (e s (i:Int))=some (.nx (e (foldI g i (l.drop i) s) (l.length:Int)))/\I l.length (foldI g i (l.drop i) s)
 |0,i,n+1,s,hs,hi,_=>by
  obtain rfl:i=l.length:=by omega
  unfold aZ
  rw[a,List.drop_length]
  exact ⟨rfl,hs⟩
 |k+1,i,n+1,s,hs,hi,m=>by
  have b:i<l.length:=by omega
  have c:l[i]?=some l[i]:=List.getElem?_eq_getElem b
  obtain ⟨d,j⟩:=h i _ s c hs
  unfold aZ
  rw[d,List.drop_eq_getElem_cons b]
  unfold foldI
  exact Cc e l h a k (i+1) n _ j (by omega) (by omega)
theorem oK {α σ τ ρ:Type}{f:τ->Option (Fl τ ρ)}{g:Nat->α->σ->σ}{I:Nat->σ->Prop}(e:σ->Int->τ)(l:List α)(a:l.length<=1000)(h:∀(i:Nat) x s,l[i]?=some x->I i s->f (e s (i:Int))=some (.nx (e (g i x s) ((i+1:Nat):Int)))/\I (i+1) (g i x s))(b:∀s,f (e s (l.length:Int))=some (.bk (e s (l.length:Int))))(s:σ)(hs:I 0 s):
  aZ f fu (e s 0)=some (.nx (e (foldI g 0 l s) (l.length:Int)))/\I l.length (foldI g 0 l s):=by
 have:=Cc e l h b l.length 0 fu s hs (by omega) (Nat.lt_of_le_of_lt a (by decide))
 simpa using this
theorem Cd {α σ:Type}{g g':Nat->α->σ->σ}:∀(l:List α) (i:Nat) (s:σ),(∀j x s,i<=j->g j x s=g' j x s)->foldI g i l s=foldI g' i l s
 |[],_,_,_=>rfl
 |x::l,i,s,h=>by
  unfold foldI
  rw[h i x s (Nat.le_refl _)]
  exact Cd l (i+1) _ fun j x s a=>h j x s (by omega)
def bF (a b:an):Bool:=decide (a.num*b.den<b.num*a.den)
abbrev SR (r:an):Prop:=Sm r 2000000 8000
theorem Sm.mono {r:an}{A B a b:Nat}(h:Sm r A B)(c:A<=a)(hb:B<=b):Sm r a b:=⟨Nat.le_trans h.num c,h.den.1,by have:=h.den.2;omega⟩
theorem tU (u:aj)(F:Fit u)(s:bn)(hs:(1<=s.back/\s.back<=20)/\0<=s.high/\s.high<=60)(i:Nat)(x:bT)(a:u.az[i]?=some x):SR (dP u s x):=(Cb u F s hs i x a).mono (by decide) (by decide)
theorem kR {a b:an}(c:SR a)(hb:SR b):fN a b=some (bF a b)/\eB a b=some (bF a b):=kQ c hb (by decide) (by decide)
def gB (u:aj)(s:bn)(i:Nat)(x:bT)(st:Int×an):Int×an:=cond (bF st.2 (dP u s x)) ((i:Int),dP u s x) st
def iL (u:aj)(s:bn)(i:Nat)(x:bT):bE:=⟨⟨x.aL,⟨x.high,1⟩⟩,(i:Int),dP u s x⟩
def fy (u:aj)(s:bn):Nat->List bT->List bE
 |_,[]=>[]
 |i,x::l=>iL u s i x::fy u s (i+1) l
theorem Ce (u:aj)(s:bn):∀(l:List bT) (i:Nat) (a:List bE),foldI (fun i x st=>st++[iL u s i x]) i l a=a++fy u s i l
 |[],i,a=>by simp[foldI,fy]
 |x::l,i,a=>by simp[foldI,fy,Ce u s l (i+1)]
def gC (i:Nat)(x:bE)(st:bE):bE:=cond (bF st.high x.high) x st
theorem Cf (u:aj)(s:bn):∀(l:List bT) (i j:Nat) (c:bE),let r:=foldI gC j (fy u s i l) c;(r.at_,r.high)=foldI (gB u s) i l (c.at_,c.high)
 |[],i,j,c=>rfl
 |x::l,i,j,c=>by
  simp only[fy,foldI]
  have:=Cf u s l (i+1) (j+1) (gC j (iL u s i x) c)
  simp only at this
  rw[this]
  congr 1
  unfold gC gB iL
  cases bF c.high (dP u s x)<;>rfl
theorem tV (n:Int):fU n=some ⟨n,1⟩:=rfl
def ei (u:aj)(s:bn):Int×an:=match u.az with
 |[]=>(0,⟨0,0⟩)
 |x::l=>foldI (gB u s) 1 l (0,dP u s x)
section
variable {u : aj} {s : bn} (F : Fit u) (hs : (1 ≤ s.back ∧ s.back ≤ 20) ∧ 0 ≤ s.high ∧ s.high ≤ 60)
include F hs
theorem IJ:bJ (ob u s) 0 u.az ([]:List bE)=some (.nx (fy u s 0 u.az)):=by
 have c:=F.az;have:=iK (f:=ob u s) (ρ:=bE) (g:=fun i x st=>st++[iL u s i x]) (I:=fun i st=>st.length=i) u.az 0 [] rfl (fun j x st a b=>?_)
 .rw[this.1,Ce];rfl
 .have d:j<u.az.length:=(List.getElem?_eq_some_iff.1 a).1;refine ⟨?_,by simp[b]⟩;unfold ob;rw[Nat.zero_add] at b ⊢;simp only[tV,ag,(Ca u F s hs j x a (j:Int)).1];unfold dc;rw[if_pos (by simp;omega)];rfl
theorem Cg:∀(l:List bT) (i:Nat),(∀(j:Nat) x,l[j]?=some x->u.az[i+j]?=some x)->∀(j:Nat) c,(fy u s i l)[j]?=some c->SR c.high
 |[],_,_,j,c,h=>by simp[fy] at h
 |x::l,i,a,0,c,h=>by
  simp[fy] at h
  subst h
  exact tU u F s hs i x (a 0 x rfl)
 |x::l,i,a,j+1,c,h=>Cg l (i+1) (fun j y b=>by have:=a (j+1) y (by simpa using b);rwa [show i+(j+1)=i+1+j by omega] at this) j c (by simpa [fy] using h)
theorem qZ:∃c,lI u s=some c/\(c.at_,c.high)=ei u s/\SR c.high/\tC u s=some (ei u s):=by
 have d:=F.az;have p:=IJ F hs;obtain ⟨a,rest,he⟩:∃x l,u.az=x::l:=by
  cases h:u.az with
  |nil=>rw[h] at d;simp at d
  |cons x l=>exact ⟨x,l,rfl⟩
 have q:u.az[0]?=some a:=by rw[he];rfl
 have r:∀(j:Nat) x,rest[j]?=some x->u.az[1+j]?=some x:=fun j x h=>by rw[he,Nat.add_comm];simpa using h
 have w:rest.length<=4:=by rw[he] at d;simp at d;omega
 have t:SR (dP u s a):=tU u F s hs 0 a q
 have hg:=iK (f:=qp jj) (ρ:=bE) (g:=gC) (I:=fun _ c=>SR c.high) (fy u s 1 rest) 0 (iL u s 0 a) t (fun j c st n e=>by
  have b:=Cg F hs rest 1 r j c n;refine ⟨?_,?_⟩
  .unfold qp jj gC;simp only[(kR e b).2,ag];cases bF st.high c.high<;>rfl
  .unfold gC;cases bF st.high c.high
   .exact e
   .exact b)
 refine ⟨foldI gC 0 (fy u s 1 rest) (iL u s 0 a),?_,?_,hg.2,?_⟩
 .unfold lI;rw[p,he];simp only[ag,aF,fy];rw[show bf (iL u s 0 a::fy u s (0+1) rest) 0=some (iL u s 0 a) from rfl];simp only;have:jf (iL u s 0 a::fy u s (0+1) rest) 1 (((iL u s 0 a::fy u s (0+1) rest).length:Nat):Int)=some (fy u s 1 rest):=by
   unfold jf;rw[if_pos (by simp only[List.length_cons];omega)];simp
  rw[this];simp only;unfold mL;rw[hg.1];rfl
 .have:=Cf u s rest 1 0 (iL u s 0 a);simp only at this;rw[this];unfold ei;rw[he];rfl
 .unfold tC;have v:=oK (f:=tB u s) (g:=fun i x st=>if i=0 then ((0:Int),dP u s x) else gB u s i x st) (I:=fun i st=>i=0\/SR st.2) (fun st i=>(st.1,i,st.2)) u.az (by omega) (fun i x st k e=>?_) (fun st=>?_) ((0:Int),(⟨0,0⟩:an)) (.inl rfl)
  .rw[v.1,he];simp only[ag,aF,foldI,if_pos];rw[Cd (g':=gB u s) rest (0+1) _ (fun j x st n=>if_neg (by omega))];unfold ei;rw[he]
  .have y:i<u.az.length:=(List.getElem?_eq_some_iff.1 k).1;have b:=tU u F s hs i x k;unfold tB;simp only;rw[show decide ((i:Int)<(u.az.length:Int))=true by simp;omega];simp only[cond_true];rw[show bf u.az (i:Int)=some x by unfold bf;rw[if_pos (by omega)];simpa using k];simp only[ag,(Ca u F s hs i x k 0).2];have hw:IntKind.i64.wrap ((i:Int)+1)=((i+1:Nat):Int):=by rw[cQ (by omega)];rfl
   rw[hw];by_cases m:i=0
   .subst m;exact ⟨rfl,.inr b⟩
   .have o:SR st.2:=e.resolve_left m;rw[show (((i:Nat):Int)==0)=false by simp;omega];simp only[cond_false,(kR o b).1,if_neg m];unfold gB;cases bF st.2 (dP u s x)
    .exact ⟨rfl,.inr o⟩
    .exact ⟨rfl,.inr b⟩
  .unfold tB;simp
end
section
variable {u : aj} {s : bn} (F : Fit u) (hs : (1 ≤ s.back ∧ s.back ≤ 20) ∧ 0 ≤ s.high ∧ s.high ≤ 60)
include F hs
theorem q2:Sm (⟨u.bM,1⟩:an) 60 1:=⟨by have:=F.bM;show u.bM.natAbs<=60;omega,by show (0:Int)<1;omega,by show (1:Int)<=((1:Nat):Int);omega⟩
theorem tX:SR (ei u s).2:=by
 obtain ⟨c,d,a,b,e⟩:=qZ F hs;rw[<-a];exact b
theorem IK:∃r,mQ u s=some r/\x8 u s=some r:=by
 obtain ⟨c,b,d,a,e⟩:=qZ F hs;have e2:c.high=(ei u s).2:=by rw[<-d]
 have p:=q2 F hs;have f:=ym p a (by decide) (by decide) (by decide);have g:=yl p a (by decide) (by decide);unfold mQ x8;rw[b,e];simp only[ag,tV,f,<-e2,g];exact ⟨_,rfl,rfl⟩
end
theorem yo {a b c:an}(d:0<a.den)(hb:0<b.den)(h:0<c.den)(e:bF b a=false)(f:bF b c=true):bF c a=false:=by
 unfold bF at*;simp only[decide_eq_false_iff_not,decide_eq_true_eq,Int.not_lt] at*;have k1:a.num*b.den*c.den<=b.num*a.den*c.den:=Int.mul_le_mul_of_nonneg_right e (by omega);have i:b.num*c.den*a.den<c.num*b.den*a.den:=Int.mul_lt_mul_of_pos_right f d;have g:b.den*(a.num*c.den)<b.den*(c.num*a.den):=by
  have e1:b.den*(a.num*c.den)=a.num*b.den*c.den:=by grind
  have e2:b.den*(c.num*a.den)=c.num*b.den*a.den:=by grind
  have j:b.num*a.den*c.den=b.num*c.den*a.den:=by grind
  omega
 exact Int.le_of_lt (Int.lt_of_mul_lt_mul_left g (by omega))
theorem ij (a:an):bF a a=false:=by unfold bF;simp
theorem yp {a b:an}(h:bF a b=true):bF b a=false:=by
 unfold bF at*;simp only[decide_eq_false_iff_not,decide_eq_true_eq,Int.not_lt] at*;omega
def yq (u:aj)(s:bn)(aL:Int)(e:an):an:=bK (s.high*e.den*(aL+s.back)+(e.num - s.high*e.den)*(u.bH+s.back)) (e.den*(aL+s.back)).toNat
def dK (u:aj)(x:bX):an:=match jl u x.place with
 |some r=>bK (r.num+x.dh*r.den) r.den.toNat
 |none=>⟨0,0⟩
def eI (u:aj)(s:bn)(x:bX):an:=yq u s x.place (dK u x)
section
variable {u : aj} {s : bn} (F : Fit u) (hs : (1 ≤ s.back ∧ s.back ≤ 20) ∧ 0 ≤ s.high ∧ s.high ≤ 60)
include F hs
theorem yt {i:Nat}{x:bX}(t:u.props[i]?=some x):∃r,jl u x.place=some r/\qN u x.place=some r/\jO r ⟨x.dh,1⟩=some (dK u x)/\
  iJ (IntKind.i64.wrap (r.num+IntKind.i64.wrap (x.dh*r.den))) r.den=some (dK u x)/\(∀at_,kI u s at_ ⟨x.place,dK u x⟩=some ⟨⟨x.place,dK u x⟩,at_,eI u s x⟩)/\m3 u s x.place (dK u x)=some (eI u s x)/\SR (eI u s x):=by
 obtain ⟨v,p2,p3⟩:=F.prop i x t
 obtain ⟨a,z,j,k,l,H⟩:=IF u F x.place
 rw[v] at l
 have hb:bQ x.place a.aL z.aL=true:=(Option.some.inj l).symm
 unfold bQ at hb
 simp only[Bool.and_eq_true,decide_eq_true_eq] at hb
 have I:=F.kP _ a j
 have J:=F.kP _ z k
 have K:=F.bH
 obtain ⟨r,m,w,b⟩:=IE u F x.place a z j k hb.1 hb.2
 have sh:Sm (⟨x.dh,1⟩:an) 20 1:=⟨by show x.dh.natAbs<=20;omega,by show (0:Int)<1;omega,by show (1:Int)<=((1:Nat):Int);omega⟩
 have L:(x.dh*r.den).natAbs<=20*60:=dB (by omega) (by have:=b.den;omega)
 obtain ⟨d,hd⟩:∃d:Nat,r.den=d:=⟨r.den.toNat,by have:=b.den;omega⟩
 have o:0<d:=by have:=b.den;omega
 have M:d<=60:=by have:=b.den;omega
 have N:=b.num
 have h:dK u x=bK (r.num+x.dh*r.den) d:=by
  unfold dK
  rw[m]
  simp only
  rw[hd,Int.toNat_natCast]
 have e:Sm (dK u x) 10000 100:=by
  rw[h]
  have:=ju (r.num+x.dh*r.den) d o
  exact ⟨Nat.le_trans this.num (by omega),this.den.1,by have:=this.den.2;omega⟩
 have y:=tS b sh (by decide) (by decide)
 have p:=qU (r.num+x.dh*r.den) d (by omega) o (by omega)
 have q:∀at_,kI u s at_ ⟨x.place,dK u x⟩=some ⟨⟨x.place,dK u x⟩,at_,eI u s x⟩/\m3 u s x.place (dK u x)=some (eI u s x):=fun at_=>by
  obtain ⟨c,c1,c2,c3⟩:=B9 u F s hs at_ x.place ⟨by omega,by omega⟩ (dK u x) e
  subst c3
  exact ⟨c1,c2⟩
 refine ⟨r,m,w,?_,?_,fun at_=>(q at_).1,(q 0).2,?_⟩
 .rw[y,h]
  show some (bK (r.num*1+x.dh*r.den) (r.den*1).toNat)=_
  rw[Int.mul_one,Int.mul_one,hd,Int.toNat_natCast]
 .rw[ep (n:=x.dh*r.den) (by omega),ep (by omega),h]
  rw[hd] at p ⊢
  exact p
 .unfold eI yq
  obtain ⟨f,A⟩:∃f:Nat,x.place+s.back=f:=⟨(x.place+s.back).toNat,by omega⟩
  obtain ⟨g,B⟩:∃n:Nat,(dK u x).den=n:=⟨(dK u x).den.toNat,by have:=e.den;omega⟩
  have C:0<g:=by have:=e.den;omega
  have D:g<=100:=by have:=e.den;omega
  have O:=e.num
  have E:(s.high*(dK u x).den).natAbs<=60*100:=dB (by omega) (by omega)
  have b2:(s.high*(dK u x).den*(x.place+s.back)).natAbs<=6000*80:=dB E (by omega)
  have b3:(((dK u x).num - s.high*(dK u x).den)*(u.bH+s.back)).natAbs<=16000*80:=dB (by omega) (by omega)
  have G:((dK u x).den*(x.place+s.back)).toNat=g*f:=by rw[B,A,<-Int.natCast_mul,Int.toNat_natCast]
  rw[G]
  have:=ju (s.high*(dK u x).den*(x.place+s.back)+((dK u x).num - s.high*(dK u x).den)*(u.bH+s.back)) (g*f) (Nat.mul_pos C (by omega))
  have P:g*f<=100*80:=Nat.mul_le_mul D (by omega)
  exact ⟨Nat.le_trans this.num (by omega),this.den.1,by have:=this.den.2;omega⟩
end
def same (x:bX)(e:an)(y:bE):Bool:=(y.spot.aL==x.place)&&((y.spot.high.num==e.num)&&(y.spot.high.den==e.den))
def gT (u:aj)(s:bn)(i:Nat)(x:bX)(st:List bE):List bE:=cond (st.any (same x (dK u x))) st (st++[⟨⟨x.place,dK u x⟩,(i:Int),eI u s x⟩])
def cp (a b:an):an:=cond (bF a b) b a
def gM (u:aj)(s:bn)(i:Nat)(x:bX)(b:an):an:=if i=0 then eI u s x else cp b (eI u s x)
theorem Ch (x:bX)(e:an):∀(l:List bE) (i:Nat),bJ (qq x e) i l ()=some (cond (l.any (same x e)) (.br 1 ()) (.nx ()):Fl Unit (List bE))
 |[],i=>rfl
 |y::l,i=>by
  unfold bJ qq
  rw[show ((y.spot.aL==x.place)&&((y.spot.high.num==e.num)&&(y.spot.high.den==e.den)))=same x e y from rfl,List.any_cons]
  cases same x e y
  .simp only[cond_false,ag,Bool.false_or]
   exact Ch x e l (i+1)
  .rfl
theorem q3 {a b:an}(c:SR a)(hb:SR b):fY a b=some (cp a b):=by
 unfold fY cp;simp only[(kR c hb).1,ag];cases bF a b<;>rfl
theorem kS {a b:an}(c:SR a)(hb:SR b):SR (cp a b):=by unfold cp;cases bF a b;exact c;exact hb
def tY:List bE->an
 |[]=>⟨0,0⟩
 |c::l=>(foldI gC 0 l c).high
theorem Ci {α σ:Type}{g:Nat->α->σ->σ}:∀(l:List α) (i:Nat) (y:α) (s:σ),foldI g i (l++[y]) s=g (i+l.length) y (foldI g i l s)
 |[],i,y,s=>rfl
 |x::l,i,y,s=>by
  simp only[List.cons_append,foldI,List.length_cons]
  rw[Ci l (i+1) y]
  congr 1
  omega
theorem IL (c:bE)(l:List bE)(y:bE):tY (c::l++[y])=cp (tY (c::l)) y.high:=by
 show (foldI gC 0 (l++[y]) c).high=_;rw[Ci];show (cond (bF (foldI gC 0 l c).high y.high) y (foldI gC 0 l c)).high=cond (bF (foldI gC 0 l c).high y.high) y.high (foldI gC 0 l c).high;cases bF (foldI gC 0 l c).high y.high<;>rfl
structure Tp (u:aj)(s:bn)(st:List bE)(b:an):Prop where
 ne:st≠[]
 Cj:b=tY st
 sm:SR b
 le:∀y∈st,bF b y.high=false/\SR y.high/\y.high=yq u s y.spot.aL y.spot.high
theorem Tp.step {u:aj}{s:bn}{st:List bE}{b:an}(h:Tp u s st b){x:bX}(f:SR (eI u s x))(i:Nat):Tp u s (gT u s i x st) (cp b (eI u s x)):=by
 unfold gT;cases m:st.any (same x (dK u x)) with
 |true=>
  simp only[cond_true];obtain ⟨y,a,g⟩:=List.any_eq_true.1 m;have d:=h.le y a;have e:y.high=eI u s x:=by
   rw[d.2.2];unfold same at g;simp only[Bool.and_eq_true,beq_iff_eq] at g;obtain ⟨e1,e2,j⟩:=g;unfold eI;have:y.spot.high=dK u x:=by
    cases n:y.spot.high;cases o:dK u x;rw[n,o] at e2 j;simp only at e2 j;rw[e2,j]
   rw[e1,this]
  have:cp b (eI u s x)=b:=by
   unfold cp;rw[<-e,d.1];rfl
  rw[this];exact h
 |false=>
  simp only[cond_false];obtain ⟨c,l,rfl⟩:∃c l,st=c::l:=by
   cases st with
   |nil=>exact absurd rfl h.ne
   |cons c l=>exact ⟨c,l,rfl⟩
  refine ⟨by simp,?_,kS h.sm f,fun y a=>?_⟩
  .rw[IL,<-h.Cj]
  .rcases List.mem_append.1 a with a|a
   .have d:=h.le y a;refine ⟨?_,d.2⟩;unfold cp;cases k:bF b (eI u s x) with
    |false=>exact d.1
    |true=>exact yo d.2.1.den.1 h.sm.den.1 f.den.1 d.1 k
   .simp at a;subst a;refine ⟨?_,f,rfl⟩;unfold cp;cases k:bF b (eI u s x) with
    |false=>exact k
    |true=>exact ij _
theorem Tp.fold {u:aj}{s:bn}:∀(l:List bX) (i:Nat) (st:List bE) (b:an),1<=i->(∀x∈l,SR (eI u s x))->Tp u s st b->Tp u s (foldI (gT u s) i l st) (foldI (gM u s) i l b)
 |[],_,_,_,_,_,h=>h
 |x::l,i,st,b,hi,a,h=>by
  unfold foldI
  have e:gM u s i x b=cp b (eI u s x):=if_neg (by omega)
  rw[e]
  exact Tp.fold l (i+1) _ _ (by omega) (fun y c=>a y (List.mem_cons_of_mem _ c)) (h.step (a x (List.mem_cons_self ..)) i)
theorem Tp.all {u:aj}{s:bn}(x:bX)(l:List bX)(b:∀y∈x::l,SR (eI u s y)):Tp u s (foldI (gT u s) 0 (x::l) []) (foldI (gM u s) 0 (x::l) ⟨0,0⟩):=by
 unfold foldI;have c:=b x (List.mem_cons_self ..);refine Tp.fold l 1 _ _ (Nat.le_refl _) (fun y a=>b y (List.mem_cons_of_mem _ a)) ⟨by simp[gT],?_,?_,?_⟩
 .simp[gT,gM,tY,foldI]
 .exact c
 .intro y a;simp[gT] at a;subst a;exact ⟨by simp[gM];exact ij _,c,rfl⟩
section
variable {u : aj} {s : bn} (F : Fit u) (hs : (1 ≤ s.back ∧ s.back ≤ 20) ∧ 0 ≤ s.high ∧ s.high ≤ 60)
include F hs
theorem IM:∀x∈u.props,SR (eI u s x):=fun x a=>by
 obtain ⟨i,hi,rfl⟩:=List.getElem_of_mem a
 obtain ⟨r,_,_,_,_,_,_,h⟩:=yt F hs (i:=i) (List.getElem?_eq_getElem hi)
 exact h
theorem IN:jQ u s=some (foldI (gT u s) 0 u.props []):=by
 have h:=F.props;unfold jQ
 have:=iK (f:=qs u s) (ρ:=List bE) (g:=gT u s) (I:=fun i st=>st.length<=i) u.props 0 [] (Nat.le_refl _) (fun j x st a b=>by
  have k:j<u.props.length:=(List.getElem?_eq_some_iff.1 a).1;obtain ⟨r,c,l,d,m,e,n,o⟩:=yt F hs a;rw[Nat.zero_add] at b ⊢;unfold qs;simp only[c,ag,tV,d,Ch];unfold gT;cases p:st.any (same x (dK u x)) with
  |true=>exact ⟨rfl,by simp only[cond_true];omega⟩
  |false=>
   simp only[cond_false,aF,ag,e];unfold dc;rw[if_pos (by simp;omega)]
   exact ⟨rfl,by simp;omega⟩)
 rw[this.1];rfl
theorem yu:lP u s=some (foldI (gM u s) 0 u.props ⟨0,0⟩,decide (0<(u.props.length:Int))):=by
 have m:=F.props;unfold lP
 have:=oK (f:=tE u s) (g:=gM u s) (I:=fun i b=>i=0\/SR b) (fun b i=>(i,b)) u.props (by omega) (fun i x b c h=>by
  have n:i<u.props.length:=(List.getElem?_eq_some_iff.1 c).1;obtain ⟨r,o,j,p,k,q,l,a⟩:=yt F hs c;unfold tE;simp only;rw[show decide ((i:Int)<(u.props.length:Int))=true by simp;omega];simp only[cond_true];rw[show bf u.props (i:Int)=some x by unfold bf;rw[if_pos (by omega)];simpa using c];have hw:IntKind.i64.wrap ((i:Int)+1)=((i+1:Nat):Int):=by rw[cQ (by omega)];rfl
  simp only[ag,j,k,l,hw];unfold gM;by_cases d:i=0
  .subst d;have e:cp (eI u s x) (eI u s x)=eI u s x:=by unfold cp;rw[ij];rfl
   rw[show (((0:Nat):Int)==0)=true from rfl];simp only[cond_true,q3 a a,e,if_pos];exact ⟨trivial,.inr a⟩
  .have hb:SR b:=h.resolve_left d;rw[show (((i:Nat):Int)==0)=false by simp;omega];simp only[cond_false,q3 hb a,if_neg d]
   exact ⟨trivial,.inr (kS hb a)⟩) (fun b=>by unfold tE;simp) (⟨0,0⟩:an) (.inl rfl)
 rw[this.1];rfl
theorem Ck:(u.props=[]/\jQ u s=some []/\lP u s=some (⟨0,0⟩,false))\/
  ∃st b,jQ u s=some st/\lP u s=some (b,true)/\Tp u s st b:=by
 have a:=IN F hs
 have c:=yu F hs
 have d:=IM F hs
 cases e:u.props with
 |nil=>
  rw[e] at a c
  exact .inl ⟨rfl,a,c⟩
 |cons x l=>
  rw[e] at a c d
  refine .inr ⟨_,_,a,?_,Tp.all x l d⟩
  rw[c]
  rw[show decide (0<((x::l).length:Int))=true by simp]
end
theorem oL {a b c:an}(e:0<a.den)(hb:0<b.den)(f:0<c.den)(d:bF a b=false)(g:bF b c=false):bF a c=false:=by
 cases h:bF a c with
 |false=>rfl
 |true=>
  have:=yo hb e f d h;unfold bF at*;simp only[decide_eq_false_iff_not,decide_eq_true_eq,Int.not_lt] at*;have k1:b.num*a.den*c.den<=a.num*b.den*c.den:=Int.mul_le_mul_of_nonneg_right d (by omega);have i:a.num*c.den*b.den<c.num*a.den*b.den:=Int.mul_lt_mul_of_pos_right h hb;have j:c.num*b.den*a.den<=b.num*c.den*a.den:=Int.mul_le_mul_of_nonneg_right g (by omega);have e1:a.num*b.den*c.den=a.num*c.den*b.den:=by grind
  have e2:c.num*b.den*a.den=c.num*a.den*b.den:=by grind
  have k:b.num*c.den*a.den=b.num*a.den*c.den:=by grind
  omega
theorem IP {a b c:an}(d:0<a.den)(hb:0<b.den)(e:0<c.den)(f:bF a b=true)(g:bF b c=true):bF a c=true:=by
 unfold bF at*;simp only[decide_eq_true_eq] at*;have k1:a.num*b.den*c.den<b.num*a.den*c.den:=Int.mul_lt_mul_of_pos_right f e;have i:b.num*c.den*a.den<c.num*b.den*a.den:=Int.mul_lt_mul_of_pos_right g d;have h:b.den*(a.num*c.den)<b.den*(c.num*a.den):=by
  have e1:b.den*(a.num*c.den)=a.num*b.den*c.den:=by grind
  have e2:b.den*(c.num*a.den)=c.num*b.den*a.den:=by grind
  have j:b.num*a.den*c.den=b.num*c.den*a.den:=by grind
  omega
 exact Int.lt_of_mul_lt_mul_left h (by omega)
theorem Cl {e y:an}(he:SR e)(a:SR y):∀(l:List bE) (b:an),(∀x∈l,SR x.high)->SR b->∀(i j:Nat),
  foldI (fun _ (x:bE) st=>cp st x.high) i l (cp e b)=cp e (foldI (fun _ (x:bE) st=>cp st x.high) j l b)
 |[],b,_,_,i,j=>rfl
 |x::l,b,g,hb,i,j=>by
  unfold foldI
  have c:=g x (List.mem_cons_self ..)
  have key:cp (cp e b) x.high=cp e (cp b x.high):=by
   unfold cp
   cases d:bF e b<;>cases f:bF b x.high<;>simp only[cond_true,cond_false,d,f]
   .have:=oL he.den.1 hb.den.1 c.den.1 d f
    rw[this];rfl
   .rw[IP he.den.1 hb.den.1 c.den.1 d f]
    rfl
  rw[key]
  exact Cl he a l _ (fun y a=>g y (List.mem_cons_of_mem _ a)) (kS hb c) (i+1) (j+1)
theorem Cm:∀(l:List bE) (i:Nat) (c:bE),(foldI gC i l c).high=foldI (fun _ (x:bE) st=>cp st x.high) i l c.high
 |[],_,_=>rfl
 |x::l,i,c=>by
  unfold foldI
  rw[Cm l (i+1)]
  congr 1
  unfold gC cp
  cases bF c.high x.high<;>rfl
theorem Cn {a b:an}(c:SR a)(hb:SR b):fV eB a [b]=some (cp a b):=by
 unfold fV bJ kJ;simp only[(kR c hb).2,ag];unfold cp;cases bF a b<;>rfl
theorem IQ {f:Nat->bE->an->Option (Fl an an)}(c:f=mR\/f=mS){st:List bE}(d:∀x∈st,SR x.high){e:an}(he:SR e):
  bJ f 0 st e=some (.nx (foldI (fun _ (x:bE) st=>cp st x.high) 0 st e))/\SR (foldI (fun _ (x:bE) st=>cp st x.high) 0 st e):=
 iK (I:=fun _ r=>SR r) st 0 e he (fun j x r g a=>by
  have b:=d x (List.mem_of_getElem? g)
  rcases c with rfl|rfl
  .unfold mR
   simp only[Cn a b,ag]
   exact ⟨trivial,kS a b⟩
  .unfold mS
   simp only[Cn a b,ag]
   exact ⟨trivial,kS a b⟩)
section
variable {u : aj} {s : bn} (F : Fit u) (hs : (1 ≤ s.back ∧ s.back ≤ 20) ∧ 0 ≤ s.high ∧ s.high ≤ 60)
include F hs
theorem Co {a b:an}(c:SR a)(hb:SR b):∃d,jP a b=some d/\jZ a b=some d/\Sm d 40000000000 64000000:=by
 have e:=ym c hb (by decide) (by decide) (by decide);have f:=yl c hb (by decide) (by decide);refine ⟨_,e,f,?_⟩;have g:=dB c.num (show b.den.natAbs<=8000 by have:=hb.den;omega);have h:=dB hb.num (show a.den.natAbs<=8000 by have:=c.den;omega);have i:=dB (show a.den.natAbs<=8000 by have:=c.den;omega) (show b.den.natAbs<=8000 by have:=hb.den;omega);have j:0<a.den*b.den:=Int.mul_pos c.den.1 hb.den.1;have:=ju (a.num*b.den - b.num*a.den) (a.den*b.den).toNat (by omega);exact ⟨Nat.le_trans this.num (by omega),this.den.1,by have:=this.den.2;omega⟩
theorem Cp:Sm (⟨0,1⟩:an) 1 1:=⟨by decide,by decide,by decide⟩
theorem Cq {d:an}(hd:Sm d 40000000000 64000000):∃m,fV eB d [⟨0,1⟩]=some m/\fY d ⟨0,1⟩=some m/\Sm m 40000000000 64000000:=by
 have a:=kQ hd (Cp F hs) (by decide) (by decide);refine ⟨cond (bF d ⟨0,1⟩) ⟨0,1⟩ d,?_,?_,?_⟩
 .unfold fV bJ kJ;simp only[a.2,ag];unfold bF;cases decide (d.num*(⟨0,1⟩:an).den<(⟨0,1⟩:an).num*d.den)<;>rfl
 .unfold fY;simp only[a.1,ag];unfold bF;cases decide (d.num*(⟨0,1⟩:an).den<(⟨0,1⟩:an).num*d.den)<;>rfl
 .cases bF d ⟨0,1⟩
  .exact hd
  .exact (Cp F hs).mono (by decide) (by decide)
theorem Cr {f:Nat->bE->an->Option (Fl an an)}(k:f=mR\/f=mS){e:an}(he:SR e):
  ∃st m,jQ u s=some st/\bJ f 0 st e=some (.nx m)/\SR m/\((lP u s=some (⟨0,0⟩,false)/\m=e)\/∃b,lP u s=some (b,true)/\fY e b=some m):=by
 rcases Ck F hs with ⟨_,d,g⟩|⟨st,b,d,g,a⟩
 .exact ⟨[],e,d,rfl,he,.inl ⟨g,rfl⟩⟩
 .have h:∀x∈st,SR x.high:=fun x i=>(a.le x i).2.1
  obtain ⟨k1,n⟩:=IQ k h he
  refine ⟨st,_,d,k1,n,.inr ⟨b,g,?_⟩⟩
  rw[q3 he a.sm]
  obtain ⟨c,l,rfl⟩:∃c l,st=c::l:=by
   cases st with
   |nil=>exact absurd rfl a.ne
   |cons c l=>exact ⟨c,l,rfl⟩
  have j:=h c (List.mem_cons_self ..)
  have e1:b=foldI (fun _ (x:bE) st=>cp st x.high) 0 l c.high:=by rw[a.Cj];exact Cm l 0 c
  have e2:=Cl he j l c.high (fun x i=>h x (List.mem_cons_of_mem _ i)) j 1 0
  congr 1
  rw[e1,<-e2]
  rfl
theorem yw:∃r,kK u s=some r/\qO u s=some r/\Sm r 40000000000 64000000:=by
 obtain ⟨c,j,k,g,l⟩:=qZ F hs;have e2:c.high=(ei u s).2:=by rw[<-k]
 have p:SR (⟨u.bM,1⟩:an):=(q2 F hs).mono (by decide) (by decide);unfold kK qO;rw[j,l];simp only[ag,tV,<-e2,(kR g p).1,(kR g p).2];cases bF c.high ⟨u.bM,1⟩ with
 |true=>
  simp only[cond_true];obtain ⟨st,m,t1,t2,t3,t4⟩:=Cr F hs (.inl rfl) (f:=mR) g;obtain ⟨d,d1,d2,d3⟩:=Co F hs p t3;obtain ⟨z,h,a,e⟩:=Cq F hs d3;simp only[t1,t2,aF,d1,h];rcases t4 with ⟨k1,rfl⟩|⟨b,k1,i⟩
  .simp only[k1,cond_false,d2,a];exact ⟨z,rfl,rfl,e⟩
  .simp only[k1,cond_true,i,d2,a];exact ⟨z,rfl,rfl,e⟩
 |false=>
  simp only[cond_false];obtain ⟨st,m,t1,t2,t3,t4⟩:=Cr F hs (.inr rfl) (f:=mS) p;obtain ⟨d,d1,d2,d3⟩:=Co F hs g t3;obtain ⟨z,h,a,e⟩:=Cq F hs d3;simp only[t1,t2,aF,d1,h];rcases t4 with ⟨k1,rfl⟩|⟨b,k1,i⟩
  .simp only[k1,cond_false,d2,a];exact ⟨z,rfl,rfl,e⟩
  .simp only[k1,cond_true,i,d2,a];exact ⟨z,rfl,rfl,e⟩
theorem IS:∃b,gv u s=some b/\tF u s=some b:=by
 obtain ⟨r,c,d,e⟩:=yw F hs;have f:Sm u.aV 20 20:=⟨by have:=F.num;omega,by have:=F.den;omega,by have:=F.den;omega⟩
 have a:=kQ f e (by decide) (by decide);unfold gv tF;simp only[c,d,a.1,a.2,ag];exact ⟨_,rfl,rfl⟩
end
def gb {α ρ:Type}(t:Nat->α->Option ρ):Nat->List α->Option ρ
 |_,[]=>none
 |i,x::l=>match t i x with
  |some r=>some r
  |none=>gb t (i+1) l
def ni {σ ρ:Type}(o:Option ρ)(s:σ):Fl σ ρ:=match o with
 |some r=>.rt r
 |none=>.nx s
theorem yx {α σ ρ:Type}{f:Nat->α->σ->Option (Fl σ ρ)}{t:Nat->α->Option ρ}:∀(l:List α) (i:Nat) (s:σ),(∀j x s,l[j]?=some x->f (i+j) x s=some (ni (t (i+j) x) s))->bJ f i l s=some (ni (gb t i l) s)
 |[],i,s,_=>rfl
 |x::l,i,s,h=>by
  have a:=h 0 x s rfl
  simp only[Nat.add_zero] at a
  unfold bJ gb
  rw[a]
  cases ht:t i x with
  |some r=>rfl
  |none=>
   show bJ f (i+1) l s=_
   exact yx l (i+1) s fun j y s b=>by
    have:=h (j+1) y s (by simpa using b)
    rwa [show i+(j+1)=i+1+j by omega] at this
theorem Cs {α σ ρ:Type}{f:σ×Int->Option (Fl (σ×Int) ρ)}{t:Nat->α->Option ρ}(l:List α)(h:∀(i:Nat) x s,l[i]?=some x->f (s,(i:Int))=some (ni (t i x) (s,((i+1:Nat):Int))))(a:∀s,f (s,(l.length:Int))=some (.bk (s,(l.length:Int)))):
  ∀(k i n:Nat) (s:σ),i+k=l.length->k<n->aZ f n (s,(i:Int))=some (ni (gb t i (l.drop i)) (s,(l.length:Int)))
 |0,i,n+1,s,hi,_=>by
  obtain rfl:i=l.length:=by omega
  unfold aZ
  rw[a,List.drop_length]
  rfl
 |k+1,i,n+1,s,hi,d=>by
  have b:i<l.length:=by omega
  have c:l[i]?=some l[i]:=List.getElem?_eq_getElem b
  unfold aZ
  rw[h i _ s c,List.drop_eq_getElem_cons b]
  unfold gb
  cases ht:t i l[i] with
  |some r=>rfl
  |none=>exact Cs l h a k (i+1) n s (by omega) (by omega)
theorem tZ {α σ ρ:Type}{f:σ×Int->Option (Fl (σ×Int) ρ)}{t:Nat->α->Option ρ}(l:List α)(a:l.length<=1000)(h:∀(i:Nat) x s,l[i]?=some x->f (s,(i:Int))=some (ni (t i x) (s,((i+1:Nat):Int))))(b:∀s,f (s,(l.length:Int))=some (.bk (s,(l.length:Int))))(s:σ):
  aZ f fu (s,0)=some (ni (gb t 0 l) (s,(l.length:Int))):=by
 have:=Cs l h b l.length 0 fu s (by omega) (Nat.lt_of_le_of_lt a (by decide))
 simpa using this
theorem Ct {α ρ:Type}{g:α->Bool}{r:ρ}:∀(l:List α) (i:Nat),gb (fun _ x=>if g x then none else some r) i l=if l.all g then none else some r
 |[],_=>rfl
 |x::l,i=>by
  unfold gb
  cases h:g x with
  |false=>simp[h]
  |true=>
   simp only[h,if_true,List.all_cons,Bool.true_and]
   exact Ct l (i+1)
theorem Cu {α:Type}{g:α->Bool}:∀(l:List α) (i:Nat),∃r,gb (fun i x=>if g x then some (i:Int) else none) i l=r/\decide (0<=r.getD (-1))=l.any g
 |[],_=>⟨none,rfl,rfl⟩
 |x::l,i=>by
  unfold gb
  cases h:g x with
  |true=>exact ⟨_,rfl,by simp[h]⟩
  |false=>
   obtain ⟨r,a,b⟩:=Cu l (i+1) (g:=g)
   exact ⟨r,by simpa using a,by simpa [h] using b⟩
theorem fc {α:Type}{l:List α}{i:Nat}{x:α}(h:l[i]?=some x):bf l (i:Int)=some x:=by
 unfold bf;rw[if_pos (by omega)];simpa using h
theorem q4 {α:Type}{l:List α}{i:Int}{x:α}(a:0<=i)(h:l[i.toNat]?=some x):bf l i=some x:=by
 unfold bf;rw[if_pos a,h]
theorem contains_eq {f:bG->Option Bool}{g:bG->Bool}(l:List bG)(h:∀x,x∈l->f x=some (g x)):qu l f=some (l.any g):=by
 unfold qu sX
 rw[yx (t:=fun i x=>if g x then some (i:Int) else none) l 0 0 fun j x s a=>by
  unfold sW;rw[h x (List.mem_of_getElem? a)]
  cases g x<;>rfl]
 obtain ⟨r,b,c⟩:=Cu (g:=g) l 0;rw[b,<-c];cases r<;>rfl
def dw (u:aj)(s:bn):Bool:=(gv u s).getD false
theorem q5 {u:aj}(F:Fit u){s:bn}(hs:(1<=s.back/\s.back<=20)/\0<=s.high/\s.high<=60):gv u s=some (dw u s)/\tF u s=some (dw u s):=by
 obtain ⟨b,a,c⟩:=IS F hs;have e:dw u s=b:=by unfold dw;rw[a];rfl
 rw[e];exact ⟨a,c⟩
def cA (u:aj)(i:Nat)(n:Int):bn:=⟨(u.av[i]?.map (·.back)).getD 0,n⟩
structure oM (u:aj)(h:List Int):Prop where
 len:h.length=u.av.length
 yy:∀(i:Nat) e,u.av[i]?=some e->∃n,h[i]?=some n/\e.high.low<=n/\n<=e.high.high
def gQ (u:aj)(h:List Int)(t:bG):Bool:=dw u (cA u t.aR.toNat (h[t.aR.toNat]?.getD 0))==t.bq
def e4 (u:aj)(h:List Int):Bool:=u.told.all (gQ u h)
theorem Cv {u:aj}{h:List Int}(H:oM u h){i:Int}(f:0<=i)(g:i<u.av.length)(F:Fit u):∃e n,u.av[i.toNat]?=some e/\h[i.toNat]?=some n/\cA u i.toNat n=⟨e.back,n⟩/\(1<=e.back/\e.back<=20)/\0<=n/\n<=60:=by
 have c:u.av[i.toNat]?=some (u.av[i.toNat]'(by omega)):=List.getElem?_eq_getElem _;obtain ⟨n,d,a,b⟩:=H.yy _ _ c;obtain ⟨c1,c2,c3,c4,j⟩:=F.aR _ _ c;refine ⟨_,n,c,d,?_,c1,by omega,by omega⟩;unfold cA;rw[c];rfl
theorem IT {u:aj}(F:Fit u){h:List Int}(H:oM u h):ya u h=some (e4 u h):=by
 unfold ya;rw[tZ (t:=fun _ x=>if gQ u h x then none else some false) u.told (by have:=F.told;omega) (s:=false) (fun i x s c=>?_) (fun s=>?_)]
 .rw[Ct];unfold e4;cases u.told.all (gQ u h)<;>rfl
 .obtain ⟨a,b⟩:=F.qX i x c;obtain ⟨e,n,f,d,g,j,k⟩:=Cv H a b F;have l:i<u.told.length:=(List.getElem?_eq_some_iff.1 c).1;have ht:=F.told;unfold x9 BM;rw[show decide (((i:Nat):Int)<(u.told.length:Int))=true by simp;omega];simp only[cond_true,fc c,ag,q4 a f,q4 a d,(q5 F (s:=⟨e.back,n⟩) ⟨j,k⟩).2];rw[cQ (n:=(i:Int)+1) (by omega)];unfold gQ;rw[d];show _=some (ni (if dw u (cA u x.aR.toNat n)==x.bq then none else some false) (s,((i+1:Nat):Int)));rw[g];cases dw u ⟨e.back,n⟩==x.bq<;>rfl
 .unfold x9;rw[show decide ((u.told.length:Int)<(u.told.length:Int))=false by simp];rfl
def cw (l:List Int):aW:=⟨l[0]?.getD 0,l[1]?.getD 0,l[2]?.getD 0⟩
theorem q6 {l:List Int}{i:Int}{n:Int}(a:0<=i)(b:i<3)(h:l[i.toNat]?=some n):aW.get (cw l) i=some n:=by
 unfold aW.get cw;rcases (show i=0\/i=1\/i=2 by omega) with rfl|rfl|rfl<;>simp at h<;>simp[h]
theorem IU {u:aj}(F:Fit u){h:List Int}(H:oM u h):og u (cw h)=some (e4 u h):=by
 unfold og
 rw[contains_eq (g:=fun t=>!gQ u h t) u.told fun x d=>by
  obtain ⟨i,hi⟩:=List.mem_iff_getElem?.1 d;obtain ⟨a,b⟩:=F.qX i x hi;obtain ⟨e,n,f,c,j,k,l⟩:=Cv H a b F;have:=F.av;unfold qw gO;simp only[q6 a (by omega) c,ag,q4 a f,(q5 F (s:=⟨e.back,n⟩) ⟨k,l⟩).1];unfold gQ;rw[c];show _=some (!(dw u (cA u x.aR.toNat n)==x.bq))
  rw[j]]
 simp only[ag];unfold e4;rw[show (u.told.any fun t=>!gQ u h t)=!(u.told.all (gQ u h)) by rw[List.all_eq_not_any_not];simp];simp
theorem yz {a b c:an}(d:0<a.den)(hb:0<b.den)(e:0<c.den)(f:bF b a=false)(g:bF b c=true):bF a c=true:=by
 cases h:bF a c with
 |true=>rfl
 |false=>
  have:=oL hb d e f h;rw[g] at this;cases this
section
variable {u : aj} {s : bn} (F : Fit u) (hs : (1 ≤ s.back ∧ s.back ≤ 20) ∧ 0 ≤ s.high ∧ s.high ≤ 60)
include F hs
structure yA (u:aj)(s:bn)(i:Nat)(st:Int×an):Prop where
 there:∃(n:Nat) (p:bT),n<i/\st=((n:Int),dP u s p)/\u.az[n]?=some p/\∀(j:Nat) q,j<n->u.az[j]?=some q->bF (dP u s q) (dP u s p)=true
 SL:∀(j:Nat) q,j<i->u.az[j]?=some q->bF st.2 (dP u s q)=false
theorem Cw:∀(l:List bT) (i:Nat) (st:Int×an),(∀(j:Nat) x,l[j]?=some x->u.az[i+j]?=some x)->yA u s i st->yA u s (i+l.length) (foldI (gB u s) i l st)
 |[],i,st,_,h=>h
 |x::l,i,st,g,h=>by
  have b:u.az[i]?=some x:=g 0 x rfl
  have hd:∀(j:Nat) q,u.az[j]?=some q->0<(dP u s q).den:=fun j q a=>(tU u F s hs j q a).den.1
  unfold foldI
  have key:yA u s (i+1) (gB u s i x st):=by
   obtain ⟨⟨n,p,o,e,d,k⟩,hm⟩:=h
   subst e
   unfold gB
   cases c:bF (dP u s p) (dP u s x) with
   |true=>
    simp only[c,cond_true]
    refine ⟨⟨i,x,by omega,rfl,b,fun j q f a=>?_⟩,fun j q f a=>?_⟩
    .exact yz (hd j q a) (hd n p d) (hd i x b) (hm j q f a) c
    .by_cases e:j=i
     .subst e;rw[b] at a;cases a;exact ij _
     .exact yp (yz (hd j q a) (hd n p d) (hd i x b) (hm j q (by omega) a) c)
   |false=>
    simp only[c,cond_false]
    refine ⟨⟨n,p,by omega,rfl,d,k⟩,fun j q f a=>?_⟩
    by_cases e:j=i
    .subst e;rw[b] at a;cases a;exact c
    .exact hm j q (by omega) a
  have:=Cw l (i+1) _ (fun j y m=>by have:=g (j+1) y (by simpa using m);rwa [show i+(j+1)=i+1+j by omega] at this) key
  rwa [show i+1+l.length=i+(x::l).length by simp;omega] at this
theorem IV:∃(n:Nat) (p:bT),ei u s=((n:Int),dP u s p)/\u.az[n]?=some p/\(∀(j:Nat) q,u.az[j]?=some q->bF (dP u s p) (dP u s q)=false)/\∀(j:Nat) q,j<n->u.az[j]?=some q->bF (dP u s q) (dP u s p)=true:=by
 have c:=F.az;cases he:u.az with
 |nil=>rw[he] at c;simp at c
 |cons x l=>
  have d:u.az[0]?=some x:=by rw[he];rfl
  have hb:=Cw F hs l 1 (0,dP u s x) (fun j y f=>by rw[he,Nat.add_comm];simpa using f)
   ⟨⟨0,x,by omega,rfl,d,fun j q b=>absurd b (by omega)⟩,fun j q b a=>by
    obtain rfl:j=0:=by omega
    rw[d] at a;cases a;exact ij _⟩
  have ev:ei u s=foldI (gB u s) 1 l (0,dP u s x):=by unfold ei;rw[he]
  obtain ⟨⟨n,p,i,e,g,h⟩,hm⟩:=hb;rw[e] at hm ev;refine ⟨n,p,ev,by rw[<-he];exact g,fun j q a=>?_,fun j q b a=>h j q b (by rw[he];exact a)⟩;refine hm j q ?_ (by rw[he];exact a);have:=(List.getElem?_eq_some_iff.1 a).1;simp at this;omega
end
def iq (a b:an):an:=bK (a.num*b.den - b.num*a.den) (a.den*b.den).toNat
def q7 (u:aj)(s:bn):an:=foldI (gM u s) 0 u.props ⟨0,0⟩
def lQ (u:aj)(s:bn):an:=cond (bF (ei u s).2 ⟨u.bM,1⟩) ⟨u.bM,1⟩ (ei u s).2
def q8 (u:aj)(s:bn):an:=cond (bF (ei u s).2 ⟨u.bM,1⟩) (ei u s).2 ⟨u.bM,1⟩
def oN (u:aj)(s:bn):an:=cond (decide (0<(u.props.length:Int))) (cp (q8 u s) (q7 u s)) (q8 u s)
def dW (u:aj)(s:bn):an:=cp (iq (lQ u s) (oN u s)) ⟨0,1⟩
theorem IW:Sm (⟨0,1⟩:an) 1 1:=⟨by decide,by decide,by decide⟩
theorem Cx {a b:an}(c:SR a)(hb:SR b):Sm (iq a b) 40000000000 64000000:=by
 have d:=dB c.num (show b.den.natAbs<=8000 by have:=hb.den;omega);have e:=dB hb.num (show a.den.natAbs<=8000 by have:=c.den;omega);have f:=dB (show a.den.natAbs<=8000 by have:=c.den;omega) (show b.den.natAbs<=8000 by have:=hb.den;omega);have g:0<a.den*b.den:=Int.mul_pos c.den.1 hb.den.1;have:=ju (a.num*b.den - b.num*a.den) (a.den*b.den).toNat (by omega);unfold iq;exact ⟨Nat.le_trans this.num (by omega),this.den.1,by have:=this.den.2;omega⟩
theorem Cz {a b:an}(c:SR a)(hb:SR b):jZ a b=some (iq a b):=yl c hb (by decide) (by decide)
theorem IX {d:an}(hd:Sm d 40000000000 64000000):fY d ⟨0,1⟩=some (cp d ⟨0,1⟩):=by
 have a:=kQ hd IW (by decide) (by decide);unfold fY;simp only[a.1,ag];unfold cp bF;cases decide (d.num*(⟨0,1⟩:an).den<(⟨0,1⟩:an).num*d.den)<;>rfl
section
variable {u : aj} {s : bn} (F : Fit u) (hs : (1 ≤ s.back ∧ s.back ≤ 20) ∧ 0 ≤ s.high ∧ s.high ≤ 60)
include F hs
theorem ua:SR (⟨u.bM,1⟩:an):=(q2 F hs).mono (by decide) (by decide)
theorem CA:SR (lQ u s):=by
 unfold lQ;cases bF (ei u s).2 ⟨u.bM,1⟩
 .exact tX F hs
 .exact ua F hs
theorem CB:SR (q8 u s):=by
 unfold q8;cases bF (ei u s).2 ⟨u.bM,1⟩
 .exact ua F hs
 .exact tX F hs
theorem yB (h:u.props≠[]):SR (q7 u s):=by
 rcases Ck F hs with ⟨c,_,_⟩|⟨st,b,_,a,d⟩
 .exact absurd c h
 .rw[yu F hs] at a;have e:q7 u s=b:=(Prod.mk.inj (Option.some.inj a)).1;rw[e];exact d.sm
theorem yC:SR (oN u s):=by
 unfold oN;cases h:decide (0<(u.props.length:Int)) with
 |false=>exact CB F hs
 |true=>
  refine kS (CB F hs) (yB F hs fun e=>?_);rw[e] at h;simp at h
theorem IY:qO u s=some (dW u s):=by
 obtain ⟨c,h,i,j,g⟩:=qZ F hs;have es:SR (ei u s).2:=tX F hs;have ps:=ua F hs;unfold qO;rw[g,yu F hs];simp only[ag,(kR es ps).1];have k:=yC F hs;have l:=CA F hs;have key:∀a b:an,SR a->SR b->ag (jZ a b) (fun x=>ag (fY x ⟨0,1⟩) fun y=>some y)=some (cp (iq a b) ⟨0,1⟩):=fun a b f hb=>by
  rw[Cz f hb];simp only[ag];rw[IX (Cx f hb)]
 simp only[ag] at key;unfold dW oN lQ q8;cases m:bF (ei u s).2 ⟨u.bM,1⟩ with
 |true=>
  simp only[cond_true];cases d:decide (0<(u.props.length:Int)) with
  |true=>
   have cs:=yB F hs (fun e=>by rw[e] at d;simp at d);simp only[cond_true];rw[show foldI (gM u s) 0 u.props ⟨0,0⟩=q7 u s from rfl,q3 es cs];exact key _ _ ps (kS es cs)
  |false=>exact key _ _ ps es
 |false=>
  simp only[cond_false];cases d:decide (0<(u.props.length:Int)) with
  |true=>
   have cs:=yB F hs (fun e=>by rw[e] at d;simp at d);simp only[cond_true];rw[show foldI (gM u s) 0 u.props ⟨0,0⟩=q7 u s from rfl,q3 ps cs];exact key _ _ es (kS ps cs)
  |false=>exact key _ _ es ps
theorem yD:kK u s=some (dW u s):=by
 obtain ⟨r,b,a,_⟩:=yw F hs;rw[IY F hs] at a;rw[b,<-a]
end
theorem IZ {d:an}(hd:0<d.den):cp d ⟨0,1⟩=if d.num<0 then ⟨0,1⟩ else d:=by
 unfold cp bF;simp only[Int.mul_one,Int.zero_mul];by_cases h:d.num<0<;>simp[h]
section
variable {u : aj} {s : bn} (F : Fit u) (hs : (1 ≤ s.back ∧ s.back ≤ 20) ∧ 0 ≤ s.high ∧ s.high ≤ 60)
include F hs
theorem I0:0<(iq (lQ u s) (oN u s)).den:=(Cx (CA F hs) (yC F hs)).den.1
theorem I1:0<=(dW u s).num:=by
 unfold dW;rw[IZ (I0 F hs)];split
 .exact Int.le_refl 0
 .omega
end
theorem q9 {α:Type}{t:Nat->α->Option Int}:∀(l:List α) (i:Nat),(∀j x,l[j]?=some x->t (i+j) x=none)->dA t i l=none
 |[],i,_=>rfl
 |y::l,i,h=>by
  unfold dA
  have a:=h 0 y rfl
  rw[Nat.add_zero] at a
  rw[a]
  exact q9 l (i+1) fun j x b=>by
   have:=h (j+1) x (by simpa using b)
   rwa [show i+(j+1)=i+1+j by omega] at this
theorem I2 {u:aj}(h:dH u=some 0):gV u=0:=by
 have a:jk u=some 0:=h;unfold jk at a;rw[tN] at a;simp only[ag] at a;cases hg:(gV u != 0) with
 |true=>rw[hg] at a;exact Option.some.inj a
 |false=>simpa using hg
theorem I3 {u:aj}(hg:gV u=0)(F:Fit u):dH u=some 0:=by
 have h:=F.az;have i:=F.bH;have k:=F.props;have l:=F.av;have m:=F.told;show jk u=some 0;unfold jk;rw[tN,hg];show lH u=some 0;unfold lH;rw[(ye u (by omega)).1,q9 u.az 0 fun j x c=>?_,eH.2 (show (2:Int)<=(u.az.length:Int)/\(u.az.length:Int)<=5 by omega)]
 .show lG u=some 0;unfold lG;obtain ⟨f,d⟩:=yf u (by omega) (by omega);rw[tQ u f d,q9 u.props 0 fun j x c=>?_,show decide (3<(u.props.length:Int))=false by simp;omega]
  .show lF u=some 0;unfold lF;rw[tP,q9 u.av 0 fun j x c=>?_,eH.2 (show (1:Int)<=(u.av.length:Int)/\(u.av.length:Int)<=3 by omega)]
   .show lE u=some 0;unfold lE oa;rw[tO,q9 u.told 0 fun j x c=>?_,show decide (3<(u.told.length:Int))=false by simp;omega]
    .rfl
    .obtain ⟨a,b⟩:=F.qX j x c;unfold js gP;rw[cQ (by omega),eH.2 ⟨a,by omega⟩];rfl
   .obtain ⟨a,g,b2,b3,b4⟩:=F.aR j x c;unfold ig gz;rw[eH.2 a,cQ (by omega),show decide (3<=x.high.high - x.high.low)=false by simp;omega,decide_eq_true g,decide_eq_true b2,decide_eq_true b3];rfl
  .obtain ⟨a,b⟩:=F.prop j x c;have:=(d x.place).1;rw[a] at this;unfold ie;rw[<-Option.some.inj this,eH.2 b];rfl
 .obtain ⟨a,b⟩:=F.kP j x c;unfold gA;rw[cQ (by omega),eH.2 a,eH.2 b];simp only[cond_true,Nat.zero_add];cases j with
  |zero=>rfl
  |succ j=>
   have n:=(List.getElem?_eq_some_iff.1 c).1;have e:u.az[j]?=some (u.az[j]'(by omega)):=List.getElem?_eq_getElem _;have:=F.yg j _ x e c;simp only[e];rw[show decide (x.aL<=(u.az[j]'(by omega)).aL)=false by simp;omega];rfl
def cB (b:cj):List Int:=(List.range (b.high - b.low+1).toNat).map fun k=>b.low+(k:Nat)
theorem I4 {b:cj}{i:Nat}{x:Int}(h:(cB b)[i]?=some x):x=b.low+i/\b.low+i<=b.high:=by
 unfold cB at h;rw[List.getElem?_map,Option.map_eq_some_iff] at h;obtain ⟨k,c,rfl⟩:=h;obtain ⟨d,a⟩:=List.getElem?_eq_some_iff.1 c;simp at d a;subst a;exact ⟨rfl,by omega⟩
theorem rf (b:cj):(cB b).length=(b.high - b.low+1).toNat:=by simp[cB]
theorem CC {b:cj}{x:Int}:x∈cB b↔b.low<=x/\x<=b.high:=by
 unfold cB;rw[List.mem_map];constructor
 .rintro ⟨k,a,rfl⟩;rw[List.mem_range] at a;omega
 .rintro ⟨c,d⟩;exact ⟨(x - b.low).toNat,by rw[List.mem_range];omega,by omega⟩
def kT (b:cj)(all:List (List Int)):List (List Int):=all.flatMap fun p=>(cB b).map fun n=>p++[n]
def dQ (p:List Int):List bL->List (List Int)
 |[]=>[p]
 |e::l=>(cB e.high).flatMap fun n=>dQ (p++[n]) l
def bt (u:aj):List (List Int):=(dQ [] u.av).filter (e4 u)
theorem ri {α β:Type}(g:α->List β):∀(l:List α) (i:Nat) (s:List β),foldI (fun _ x s=>s++g x) i l s=s++l.flatMap g
 |[],_,s=>by simp[foldI]
 |x::l,i,s=>by
  unfold foldI
  rw[ri g l]
  simp[List.flatMap_cons]
theorem CD:∀(l:List bL) (i:Nat) (all:List (List Int)),foldI (fun _ (e:bL) all=>kT e.high all) i l all=all.flatMap fun p=>dQ p l
 |[],_,all=>by
  unfold foldI
  show all=all.flatMap fun p=>[p]
  induction all with
  |nil=>rfl
  |cons a l ih=>rw[List.flatMap_cons,<-ih];rfl
 |e::l,i,all=>by
  unfold foldI
  rw[CD l]
  unfold kT
  rw[List.flatMap_assoc]
  congr 1
  funext p
  rw[List.flatMap_map]
  rfl
theorem yE:∀(l:List bL) (p h:List Int),h∈dQ p l->h.length=p.length+l.length/\(∀(j:Nat) e,l[j]?=some e->∃n,h[p.length+j]?=some n/\e.high.low<=n/\n<=e.high.high)/\∀j,j<p.length->h[j]?=p[j]?
 |[],p,h,hm=>by
  simp only[dQ,List.mem_singleton] at hm
  subst hm
  exact ⟨rfl,fun j e he=>by simp at he,fun _ _=>rfl⟩
 |e::l,p,h,hm=>by
  unfold dQ at hm
  rw[List.mem_flatMap] at hm
  obtain ⟨n,d,hm⟩:=hm
  obtain ⟨f,c,a⟩:=yE l _ _ hm
  rw[List.length_append,List.length_singleton] at f c a
  refine ⟨by simp;omega,fun j x b=>?_,fun j g=>?_⟩
  .cases j with
   |zero=>
    simp at b;subst b
    refine ⟨n,?_,CC.1 d⟩
    rw[Nat.add_zero,a _ (by omega),List.getElem?_append_right (Nat.le_refl _)]
    simp
   |succ j=>
    obtain ⟨m,hm,hb⟩:=c j x (by simpa using b)
    exact ⟨m,by rw[<-hm];congr 1;omega,hb⟩
  .rw[a j (by omega),List.getElem?_append_left g]
theorem yF {u:aj}{h:List Int}(hm:h∈dQ [] u.av):oM u h:=by
 obtain ⟨a,b,_⟩:=yE _ _ _ hm;exact ⟨by simpa using a,fun i e he=>by simpa using b i e he⟩
theorem CE {b:cj}(hb:b.high - b.low<3):∀(all:List (List Int)),(kT b all).length<=all.length*3
 |[]=>by simp[kT]
 |p::all=>by
  have:=CE hb all
  unfold kT at this ⊢
  rw[List.flatMap_cons,List.length_append,List.length_map,rf,List.length_cons]
  omega
theorem iM {α:Type}{l xs:List α}(h:l.length+xs.length<=1000000):dc l xs=some (l++xs):=by
 unfold dc;rw[if_pos h]
theorem I5 {all:List (List Int)}{k:Nat}{p:List Int}{e:bL}(b:all[k]?=some p)(d:p.length<=100)(he:0<=e.high.low/\e.high.low<=e.high.high/\e.high.high<=60/\e.high.high - e.high.low<3)(s:List (List Int))(hs:s.length<=1000):
  aZ (qP all (k:Int) e) fu (s,e.high.low)=some (.nx (s++(cB e.high).map (fun n=>p++[n]),e.high.high+1)):=by
 have key:=oK (f:=qP all (k:Int) e) (g:=fun _ x s=>s++[p++[x]]) (I:=fun i s=>s.length<=1000+i) (fun s i=>(s,e.high.low+i)) (cB e.high) (by rw[rf];omega)
  (fun i x s c h=>by
   obtain ⟨rfl,hb⟩:=I4 c
   refine ⟨?_,by simp;omega⟩
   unfold qP
   rw[show decide ((s,e.high.low+(i:Int)).2<=e.high.high)=true by simpa using hb]
   simp only[cond_true,fc b,ag,iM (l:=([]:List Int)) (xs:=p) (by simp;omega),List.nil_append,iM (l:=p) (xs:=[e.high.low+(i:Int)]) (by simp;omega),iM (l:=s) (xs:=[p++[e.high.low+(i:Int)]]) (by simp;omega)]
   rw[cQ (n:=e.high.low+(i:Int)+1) (by omega)]
   simp;omega)
  (fun s=>by
   unfold qP
   rw[show decide ((s,e.high.low+((cB e.high).length:Int)).2<=e.high.high)=false by rw[rf];simp;omega]
   rfl) s (by omega)
 have:=key.1
 rw[ri (fun x=>[p++[x]])] at this
 simp only[Int.add_zero] at this
 rw[this]
 congr 2
 refine Prod.ext ?_ ?_
 .simp only[List.append_cancel_left_eq]
  induction cB e.high with
  |nil=>rfl
  |cons a l ih=>simp[ih]
 .simp only[rf];omega
theorem I6 {u:aj}{all:List (List Int)}{i:Nat}{e:bL}(hi:u.av[i]?=some e)(b:∀p∈all,p.length<=100)(c:all.length<=100)(he:0<=e.high.low/\e.high.low<=e.high.high/\e.high.high<=60/\e.high.high - e.high.low<3):
  aZ (qQ u all (i:Int)) fu (([]:List (List Int)),0)=some (.nx (kT e.high all,(all.length:Int))):=by
 have key:=oK (f:=qQ u all (i:Int)) (g:=fun _ p s=>s++(cB e.high).map fun n=>p++[n]) (I:=fun i s=>s.length<=3*i/\i<=all.length) (fun s i=>(s,i)) all (by omega)
  (fun k p s a d=>by
   have h:k<all.length:=(List.getElem?_eq_some_iff.1 a).1
   refine ⟨?_,by simp[rf];omega,by omega⟩
   unfold qQ
   rw[show decide ((s,(k:Int)).2<(all.length:Int))=true by simp;omega]
   simp only[cond_true,fc hi,ag,I5 a (b p (List.mem_of_getElem? a)) he s (by omega),aF]
   rw[cQ (n:=(k:Int)+1) (by omega)]
   rfl)
  (fun s=>by
   unfold qQ
   rw[show decide ((s,(all.length:Int)).2<(all.length:Int))=false by simp]
   rfl) ([]:List (List Int)) ⟨by simp,by omega⟩
 have:=key.1
 rw[ri (fun p=>(cB e.high).map fun n=>p++[n])] at this
 simpa [kT] using this
theorem CF {u:aj}:∀(l:List (List Int)) (i:Nat) (s:List (List Int)),foldI (fun _ x s=>if e4 u x then s++[x] else s) i l s=s++l.filter (e4 u)
 |[],_,s=>by simp[foldI]
 |x::l,i,s=>by
  unfold foldI
  rw[CF l]
  cases h:e4 u x<;>simp[h]
theorem three (i:Nat)(h:i<=3):3 ^ i<=27:=by
 rcases (show i=0\/i=1\/i=2\/i=3 by omega) with rfl|rfl|rfl|rfl<;>decide
theorem rj {u:aj}(F:Fit u):yb u=some (bt u)/\(bt u).length<=27:=by
 have r:=F.av;have key:=oK (f:=tG u) (g:=fun _ (e:bL) all=>kT e.high all) (I:=fun i all=>(∀p∈all,p.length=i)/\all.length<=3 ^ i/\i<=u.av.length) (fun s i=>(s,i)) u.av (by omega)
  (fun i e all hi c=>by
   obtain ⟨d,t,v⟩:=c;have k:i<u.av.length:=(List.getElem?_eq_some_iff.1 hi).1;have he:=(F.aR i e hi).2;have w:=three i (by omega);have hs:=CE he.2.2.2 all;refine ⟨?_,fun p a=>?_,by rw[Nat.pow_succ];omega,by omega⟩
   .unfold tG;rw[show decide ((all,(i:Int)).2<(u.av.length:Int))=true by simp;omega];simp only[cond_true,I6 hi (fun p a=>by have:=d p a;omega) (by omega) he,ag,aF];rw[cQ (n:=(i:Int)+1) (by omega)];rfl
   .unfold kT at a;rw[List.mem_flatMap] at a;obtain ⟨q,m,a⟩:=a;rw[List.mem_map] at a;obtain ⟨n,_,rfl⟩:=a
    simp[d q m])
  (fun s=>by
   unfold tG;rw[show decide ((s,(u.av.length:Int)).2<(u.av.length:Int))=false by simp]
   rfl) [[]] ⟨by simp,by simp,by omega⟩
 obtain ⟨k1,b⟩:=key;rw[CD] at k1 b;simp only[List.flatMap_cons,List.flatMap_nil,List.append_nil] at k1 b;have hlen:(dQ [] u.av).length<=27:=Nat.le_trans b.2.1 (three _ (by omega));have j:=oK (f:=tH u (dQ [] u.av)) (g:=fun _ x s=>if e4 u x then s++[x] else s) (I:=fun i s=>s.length<=i/\i<=(dQ [] u.av).length) (fun s i=>(s,i)) (dQ [] u.av) (by omega)
  (fun i h s hi c=>by
   have k:i<(dQ [] u.av).length:=(List.getElem?_eq_some_iff.1 hi).1;have o:=IT F (yF (List.mem_of_getElem? hi));refine ⟨?_,by cases e4 u h<;>simp<;>omega,by omega⟩;unfold tH;rw[show decide ((s,(i:Int)).2<((dQ [] u.av).length:Int))=true by simp;omega];simp only[cond_true,fc hi,ag,o];rw[cQ (n:=(i:Int)+1) (by omega)];cases e4 u h with
   |false=>rfl
   |true=>simp only[cond_true,iM (l:=s) (xs:=[h]) (by simp;omega)];rfl)
  (fun s=>by
   unfold tH;rw[show decide ((s,((dQ [] u.av).length:Int)).2<((dQ [] u.av).length:Int))=false by simp]
   rfl) ([]:List (List Int)) ⟨by simp,by omega⟩
 rw[CF] at j;refine ⟨?_,Nat.le_trans (List.length_filter_le _ _) hlen⟩;unfold yb;rw[k1];simp only[ag,aF];rw[j.1];simp only[List.nil_append];rfl
def co (h:aW)(j:Nat):Int:=if j=0 then h.e0 else if j=1 then h.e1 else if j=2 then h.e2 else 0
theorem I7 (h:aW){j:Nat}(d:j<3)(n:Int):∃a,h.setAt (j:Int) n=some a/\∀i,co a i=if i=j then n else co h i:=by
 rcases (show j=0\/j=1\/j=2 by omega) with rfl|rfl|rfl
 .refine ⟨{h with e0:=n},rfl,fun i=>?_⟩;unfold co;split<;>rfl
 .refine ⟨{h with e1:=n},rfl,fun i=>?_⟩;unfold co;by_cases b:i=0<;>by_cases a:i=1<;>simp[b,a]<;>omega
 .refine ⟨{h with e2:=n},rfl,fun i=>?_⟩;unfold co;by_cases b:i=0<;>by_cases a:i=1<;>by_cases c:i=2<;>simp[b,a,c]<;>omega
structure Ag (u:aj)(p:List Int)(h:aW):Prop where
 at_:∀(j:Nat) n,p[j]?=some n->co h j=n
 no:∀j,u.av.length<=j->co h j=0
theorem Ag.cw {u:aj}{p:List Int}{h:aW}(H:Ag u p h)(a:p.length=u.av.length):h=cw p:=by
 have key:∀j,co h j=p[j]?.getD 0:=fun j=>by
  cases e:p[j]? with
  |some n=>exact H.at_ j n e
  |none=>exact H.no j (by rw[<-a];exact List.getElem?_eq_none_iff.1 e)
 have b:=key 0;have k1:=key 1;have c:=key 2;cases h;unfold Go.Proofs.YtghbphimkgamkaaGreatDoor.cw;rw[<-b,<-k1,<-c];rfl
theorem Ag.set {u:aj}{p:List Int}{h:aW}(H:Ag u p h)(c:p.length<u.av.length)(d:u.av.length<=3)(n:Int):∃a,h.setAt (p.length:Int) n=some a/\Ag u (p++[n]) a:=by
 obtain ⟨a,e1,e2⟩:=I7 h (j:=p.length) (by omega) n;refine ⟨a,e1,fun j m hm=>?_,fun j b=>?_⟩
 .rw[e2];by_cases e:j=p.length
  .subst e;rw[if_pos rfl];simpa using hm
  .rw[if_neg e];refine H.at_ j m ?_;rw[<-hm,List.getElem?_append_left];have:=(List.getElem?_eq_some_iff.1 hm).1;simp at this;omega
 .rw[e2,if_neg (by omega)];exact H.no j b
theorem Ag.cut {u:aj}{p:List Int}{n:Int}{h:aW}(H:Ag u (p++[n]) h):Ag u p h:=
 ⟨fun j m hm=>H.at_ j m (by rw[List.getElem?_append_left (List.getElem?_eq_some_iff.1 hm).1];exact hm),H.no⟩
theorem CG {a b:Int}(h:a<=b):cB ⟨a,b⟩=a::cB ⟨a+1,b⟩:=by
 unfold cB;simp only;rw[show (b - a+1).toNat=(b - (a+1)+1).toNat+1 by omega,List.range_succ_eq_map];simp only[List.map_cons,List.map_map,Function.comp_def];congr 1
 .simp
 .apply List.map_congr_left;intro k _;simp only[Nat.succ_eq_add_one];omega
theorem yG {a b:Int}(h:¬a<=b):cB ⟨a,b⟩=[]:=by
 unfold cB;simp only;rw[show (b - a+1).toNat=0 by omega];rfl
theorem CH {u:aj}{p:List Int}(a:p.length<u.av.length)(b:u.av.length<=3){f:aW->List (Option aW)×aW}{G:Int->List (Option aW)}{lo hi:Int}(hb:0<=lo/\hi<=60)
  (d:∀n,lo<=n->n<=hi->∀h,Ag u (p++[n]) h->(f h).1=G n/\Ag u (p++[n]) (f h).2):
  ∀(k:Nat) (n:Int) (h:aW),Ag u p h->lo<=n->n<=61->61 - n<k->(jm f (p.length:Int) hi k n h).1=(cB ⟨n,hi⟩).flatMap G/\Ag u p (jm f (p.length:Int) hi k n h).2
 |0,n,h,H,e,g,i=>by omega
 |k+1,n,h,H,e,g,i=>by
  unfold jm
  by_cases c:n<=hi
  .rw[if_pos c,CG c]
   obtain ⟨x,e1,e2⟩:=H.set a b n
   rw[e1]
   obtain ⟨j,l⟩:=d n e c x e2
   have w:IntKind.i64.wrap (n+1)=n+1:=cQ (by omega)
   obtain ⟨r1,r2⟩:=CH a b hb d k (n+1) (f x).2 l.cut (by omega) (by omega) (by omega)
   simp only[w]
   exact ⟨by rw[j,r1,List.flatMap_cons],r2⟩
  .rw[if_neg c,yG c]
   exact ⟨rfl,H⟩
theorem CI {u:aj}(F:Fit u):∀(l:List bL) (p:List Int) (fuel:Nat) (h:aW),u.av.drop p.length=l->p.length+l.length=u.av.length->l.length<fuel->
  (∀(j:Nat) e,u.av[j]?=some e->j<p.length->∃n,p[j]?=some n/\e.high.low<=n/\n<=e.high.high)->Ag u p h->
  (eR u fuel (p.length:Int) h).1=((dQ p l).filter (e4 u)).map (fun x=>some (cw x))/\Ag u p (eR u fuel (p.length:Int) h).2
 |l,p,0,h,hd,a,b,hb,H=>by omega
 |[],p,fuel+1,h,hd,a,b,hb,H=>by
  have a:p.length=u.av.length:=by simpa using a
  unfold eR
  rw[if_pos (by omega)]
  obtain rfl:=H.cw a
  have R:=IU F (h:=p) ⟨a,fun i e he=>hb i e he (by have:=(List.getElem?_eq_some_iff.1 he).1;omega)⟩
  refine ⟨?_,H⟩
  rw[R]
  unfold dQ
  cases e:e4 u p<;>simp[e]
 |e::l,p,fuel+1,h,hd,a,b,hb,H=>by
  simp only[List.length_cons] at a b
  have he:u.av[p.length]?=some e:=by
   have:=congrArg List.head? hd
   simpa [List.head?_drop] using this
  have k:u.av.drop (p.length+1)=l:=by
   have:=congrArg List.tail hd
   simpa [List.tail_drop] using this
  have o:=F.av
  have g:=(F.aR _ _ he).2
  unfold eR
  rw[if_neg (by omega),fc he]
  have w:IntKind.i64.wrap ((p.length:Int)+1)=((p.length+1:Nat):Int):=by rw[cQ (by omega)];omega
  simp only[w]
  have key:=CH (u:=u) (p:=p) (by omega) o.2 (f:=eR u fuel ((p.length+1:Nat):Int)) (G:=fun n=>((dQ (p++[n]) l).filter (e4 u)).map (fun x=>some (cw x))) (lo:=e.high.low) (hi:=e.high.high) ⟨g.1,g.2.2.1⟩
   (fun n n1 n2 x q=>by
    have:=CI F l (p++[n]) fuel x (by simpa using k) (by simp;omega) (by omega) (fun j y d r=>by
     by_cases c:j<p.length
     .obtain ⟨m,hm,s⟩:=hb j y d c
      exact ⟨m,by rw[List.getElem?_append_left c];exact hm,s⟩
     .simp at r
      obtain rfl:j=p.length:=by omega
      rw[he] at d;cases d
      exact ⟨n,by simp,n1,n2⟩) q
    simpa using this) 100 e.high.low h H (Int.le_refl _) (by omega) (by omega)
  refine ⟨?_,key.2⟩
  rw[key.1,show dQ p (e::l)=(cB e.high).flatMap fun n=>dQ (p++[n]) l from rfl,List.filter_flatMap,List.map_flatMap]
theorem I8 (j:Nat):co ⟨0,0,0⟩ j=0:=by
 unfold co;split
 .rfl
 .split
  .rfl
  .split<;>rfl
theorem CJ {u:aj}(F:Fit u):mV u=(bt u).map (fun x=>some (cw x)):=by
 have c:=F.av;exact (CI F u.av [] 5 ⟨0,0,0⟩ rfl (by simp) (by omega) (fun j e _ a=>absurd a (by simp)) ⟨fun j n b=>by simp at b,fun j _=>I8 j⟩).1
theorem CK:∀(l:List aW) (s:List aW),s.length+l.length<=1000000->gr oq (l.map some) s=some (.nx (s++l))
 |[],s,_=>by simp[gr]
 |x::l,s,h=>by
  simp only[List.length_cons] at h
  simp only[List.map_cons]
  have:=CK l (s++[x]) (by simp;omega)
  rw[show s++x::l=s++[x]++l by simp,<-this]
  have e:oq x s=some (.nx (s++[x])):=by
   unfold oq
   rw[iM (by simp;omega)]
   rfl
  show gr _ (some x::l.map some) s=_
  rw[gr,e]
  rfl
theorem I9 {l:List aW}(h:l.length<=1000):qz (l.map some)=some l:=by
 unfold qz s8;rw[CK l [] (by simp;omega)];simp[ag,aF]
def CL:cT:=⟨ga,[]⟩
theorem Ja {u:aj}{a:List (aj->Option Int)}{c:Int}(h:eZ u a=some (ga,c))(b:c≠0):fW u a=some (CL,c):=by
 unfold fW;rw[h];simp only[ag];rw[show (c != 0)=true by simpa using b];rfl
theorem oO {u:aj}(F:Fit u){b:List (aj->Option Int)}(h:eZ u b=some (u,0)):fW u b=some (if (bt u).isEmpty then (CL,9) else (⟨u,(bt u).map cw⟩,0)):=by
 unfold fW;rw[h];simp only[ag];rw[show ((0:Int) != 0)=false by decide];simp only[cond_false];have c:=(rj F).2;rw[CJ F,show (bt u).map (fun x=>some (cw x))=((bt u).map cw).map some by simp,I9 (by simp;omega)];simp only[ag];cases bt u with
 |nil=>rfl
 |cons a l=>
  rw[show ((((a::l).map cw).length:Int)==0)=false by simp;omega];rfl
structure fA (u:aj):Prop where
 e:u.az.length<=20
 p:u.props.length<=20
 y:u.av.length<=20
 t:u.told.length<=20
theorem bars {u:aj}(L:fA u):∃c,dH u=some c/\fZ u=some c:=by
 obtain ⟨b,c,a⟩:=IB u L.e L.p L.y L.t;exact ⟨c,a,b▸a⟩
theorem uf {u:aj}(h:dH u=some 0):eZ u []=some (u,0):=by
 unfold eZ;rw[h];rfl
theorem CM {u:aj}{a c:Int}(h:fZ u=some c)(b:c≠0):qR u a=some ([],c):=by
 unfold qR;rw[h];simp only[ag];rw[show (c != 0)=true by simpa using b];rfl
theorem yH {u:aj}(F:Fit u)(h:fZ u=some 0):qR u 0=some (if (bt u).isEmpty then ([],9) else (bt u,0)):=by
 unfold qR;rw[h,(rj F).1];simp only[ag];rw[show ((0:Int) != 0)=false by decide];simp only[cond_false];cases bt u with
 |nil=>rfl
 |cons a l=>
  rw[show (((a::l).length:Int)==0)=false by simp;omega];rfl
theorem nj:fA ga:=⟨by decide,by decide,by decide,by decide⟩
theorem CN {u:aj}(L:fA u):∃r,ou u=some r/\ng u=some r/\fA r.1:=by
 obtain ⟨c,d,f⟩:=bars L;unfold ou ng;by_cases b:c=0
 .subst b;have F:=oJ u L.e d;rw[oO F (uf d),yH F f];simp only[ag];cases bt u with
  |nil=>exact ⟨_,rfl,rfl,nj⟩
  |cons a l=>
   have:=L.e;have:=L.p;have:=L.y;have:=L.t;simp only[List.isEmpty_cons,Bool.false_eq_true,if_false];rw[show ((0:Int) != 0)=false by decide];simp only[cond_false];unfold s3 qy oo om;rw[if_pos (by omega),if_pos (by omega),if_pos (by omega),if_pos (by omega)];exact ⟨_,rfl,rfl,L⟩
 .rw[Ja (B6 [] d b) b,CM f b];simp only[ag];rw[show (c != 0)=true by simpa using b];exact ⟨_,rfl,rfl,nj⟩
theorem Jb {u:aj}(L:fA u)(t:bG):∃r,lK u t=some r/\yc u t=some r/\fA r.1:=by
 obtain ⟨c,a,d⟩:=bars L;unfold lK yc;rw[a,d];simp only[ag];by_cases b:c=0
 .subst b;have F:=oJ u L.e a;have ht:=F.told;have f:fA ⟨u.bH,u.bM,u.aV,u.az,u.props,u.av,u.told++[t]⟩:=⟨L.e,L.p,L.y,by simp;omega⟩
  obtain ⟨r,k1,g,h⟩:=CN f;rw[show ((0:Int) != 0)=false by decide];simp only[cond_false];unfold om jr;rw[if_pos (by omega),iM (l:=([]:List bG)) (xs:=u.told) (by simp;omega),List.nil_append];simp only[ag,iM (l:=u.told) (xs:=[t]) (by simp;omega),k1,g];exact ⟨_,rfl,rfl,h⟩
 .rw[show (c != 0)=true by simpa using b];exact ⟨_,rfl,rfl,nj⟩
theorem CO (u:aj)(n:Int):eP n u=some (cond (gP u n) 0 6):=by
 unfold eP;rw[(qV u n).2];simp only[ag];cases gP u n<;>rfl
theorem yI {u:aj}(F:Fit u){n:Int}:gP u n=true↔0<=n/\n<u.av.length:=by
 have:=F.av;unfold gP;rw[cQ (by omega),eH];omega
theorem Jc {u:aj}(L:fA u)(n:Int)(x:cj):∃r,mW u n x=some r/\yd u n x=some r/\fA r.1:=by
 obtain ⟨c,a,f⟩:=bars L;unfold mW yd;by_cases b:c=0
 .subst b;have F:=oJ u L.e a;have he:=F.av;rw[B7 a (CO u n),f,(qV u n).1];simp only[ag];rw[show ((0:Int) != 0)=false by decide];simp only[cond_false];cases h:gP u n with
  |false=>exact ⟨_,rfl,rfl,nj⟩
  |true=>
   obtain ⟨g,k⟩:=(yI F).1 h;have d:u.av[n.toNat]?=some (u.av[n.toNat]'(by omega)):=List.getElem?_eq_getElem _;generalize u.av[n.toNat]'(by omega)=e at d;simp only[cond_true];rw[show ((0:Int) != 0)=false by decide];simp only[cond_false,Bool.not_true,BV,tK];cases gz x 0 60 with
   |false=>exact ⟨_,rfl,rfl,nj⟩
   |true=>
    unfold oo m4 lO;rw[if_pos (by omega)];simp only[Bool.not_true,cond_false,q4 g d];cases decide ((if x.high<e.high.high then x.high else e.high.high)<(if e.high.low<x.low then x.low else e.high.low)) with
    |true=>exact ⟨_,rfl,rfl,nj⟩
    |false=>
     simp only[cond_false,ag,iM (l:=([]:List bL)) (xs:=u.av) (by simp;omega),List.nil_append,q4 g d];obtain ⟨r,k1,i,j⟩:=CN (u:=⟨u.bH,u.bM,u.aV,u.az,u.props,u.av.set n.toNat ⟨e.back,⟨(if e.high.low<x.low then x.low else e.high.low),(if x.high<e.high.high then x.high else e.high.high)⟩⟩,u.told⟩) ⟨L.e,L.p,by simp;omega,L.t⟩;rw[k1,i];exact ⟨_,rfl,rfl,j⟩
 .rw[B6 _ a b,f];simp only[ag];rw[show (c != 0)=true by simpa using b];exact ⟨_,rfl,rfl,nj⟩
theorem CP {α β σ:Type}(f:α->β)(g:Nat->β->σ->σ):∀(l:List α) (i:Nat) (s:σ),foldI g i (l.map f) s=foldI (fun i x s=>g i (f x) s) i l s
 |[],_,_=>rfl
 |x::l,i,s=>by
  simp only[List.map_cons]
  unfold foldI
  exact CP f g l (i+1) _
theorem CQ {α σ:Type}{g g':Nat->α->σ->σ}:∀(l:List α) (i:Nat) (s:σ),(∀j x s,x∈l->g j x s=g' j x s)->foldI g i l s=foldI g' i l s
 |[],_,_,_=>rfl
 |x::l,i,s,h=>by
  unfold foldI
  rw[h i x s (List.mem_cons_self ..)]
  exact CQ l (i+1) _ fun j y s a=>h j y s (List.mem_cons_of_mem _ a)
theorem ug {u:aj}{h:List Int}(hm:h∈bt u):oM u h/\e4 u h=true:=by
 obtain ⟨a,b⟩:=List.mem_filter.1 hm;exact ⟨yF a,b⟩
section
variable {u : aj} (F : Fit u) {i : Nat} {e : bL} (he : u.av[i]? = some e)
include F he
theorem uh {h:List Int}(hm:h∈bt u):∃n,h[i]?=some n/\cA u i (h[i]?.getD 0)=⟨e.back,n⟩/\(1<=e.back/\e.back<=20)/\0<=n/\n<=60:=by
 obtain ⟨n,c,a,b⟩:=(ug hm).1.yy i e he;obtain ⟨c1,c2,c3,c4,d⟩:=F.aR _ _ he;refine ⟨n,c,?_,c1,by omega,by omega⟩;rw[c];unfold cA;rw[he];rfl
end
end Go.Proofs.YtghbphimkgamkaaGreatDoor
end
section
namespace Go.Sep
open Go Go.Conc
def nk (P:Program)(J:Goroutine->aa->Prop)(ops:Array Oper)(F0:aa)(Q:Act->aa->Prop):List Oper->Bool->Act->aa->Prop
 |[],_,a,F=>Q a F
 |o::rest,_,a,F=>match cF ops o a with
  |some true=>cN P J o (fun v F'=>Knows F0 F'/\nk P J ops F0 Q rest (!Oper.calls o) (bg a o.dst v) F') a F
  |some false=>nk P J ops F0 Q rest true (bg a o.dst undef) F
  |none=>False
theorem Jd {P:Program}{J:Goroutine->aa->Prop}{ops:Array Oper}{F0:aa}{Q:Act->aa->Prop}{go:Bool}{a:Act}{F:aa}:nk P J ops F0 Q [] go a F=Q a F:=rfl
theorem Je {P:Program}{J:Goroutine->aa->Prop}{ops:Array Oper}{F0:aa}{Q:Act->aa->Prop}{o:Oper}{rest:List Oper}{a:Act}{F:aa}:nk P J ops F0 Q (o::rest) true a F=match cF ops o a with
  |some true=>cN P J o (fun v F'=>Knows F0 F'/\nk P J ops F0 Q rest (!Oper.calls o) (bg a o.dst v) F') a F
  |some false=>nk P J ops F0 Q rest true (bg a o.dst undef) F
  |none=>False:=(Eq.refl _).trans (Eq.refl _)
attribute [irreducible] nk
attribute [go_sem] Jd Je
end Go.Sep
end
section
namespace Go.Proofs.YtghbphimkgamkaaGreatDoor
open Go Go.Sep Go.Proofs
set_option maxRecDepth 100000
set_option maxHeartbeats 4000000
def wt (u:aj)(S:List bG):aj:=⟨u.bH,u.bM,u.aV,u.az,u.props,u.av,S⟩
theorem Jf {s:List aW}{y:aW}:kM s y=true↔y∈s:=by
 rw[xU,List.mem_map];constructor
 .rintro ⟨z,a,h⟩;obtain rfl:=xT h;exact a
 .exact fun h=>⟨y,h,rfl⟩
theorem CR:∀(l s:List aW),(s++l).Nodup->gr oB (l.map some) s=some (.nx (s++l))
 |[],s,_=>by simp[gr]
 |x::l,s,h=>by
  have e:oB x s=some (.nx (s++[x])):=by
   unfold oB
   have:kM s x=false:=by
    cases c:kM s x with
    |false=>rfl
    |true=>
     have a:=(List.nodup_append.1 h).2.2
     exact absurd rfl (a x (Jf.1 c) x (List.mem_cons_self ..))
   rw[this];rfl
  show gr oB (some x::l.map some) s=_
  rw[gr,e]
  have:=CR l (s++[x]) (by simpa using h)
  rw[show s++x::l=s++[x]++l by simp]
  exact this
theorem CS:∀(l:List bL) (p h:List Int),h∈dQ p l->∀j,j<p.length->h[j]?=p[j]?:=fun l p h hm=>(yE l p h hm).2.2
theorem Jg (b:cj):(cB b).Nodup:=by
 unfold cB;refine List.Pairwise.map _ ?_ (List.nodup_range (n:=(b.high - b.low+1).toNat));intro a c h e;exact h (by omega)
theorem CU:∀(l:List bL) (p:List Int),(dQ p l).Nodup
 |[],p=>by simp[dQ]
 |e::l,p=>by
  unfold dQ
  rw[List.flatMap_def]
  unfold List.Nodup
  rw[List.pairwise_flatten]
  refine ⟨fun x d=>?_,?_⟩
  .rw[List.mem_map] at d
   obtain ⟨n,_,rfl⟩:=d
   exact CU l _
  .rw[List.pairwise_map]
   refine (Jg e.high).imp ?_
   intro a b f x g y h i
   subst i
   have j:=CS l _ _ g p.length (by simp)
   have c:=CS l _ _ h p.length (by simp)
   rw[j] at c
   simp at c
   exact f c
theorem Jh {l m:List Int}(h:l.length=m.length)(a:l.length<=3)(e:cw l=cw m):l=m:=by
 unfold cw at e;rw[aW.mk.injEq] at e;obtain ⟨e0,e1,e2⟩:=e;refine List.ext_getElem? fun i=>?_;by_cases hi:i<l.length
 .have hm:i<m.length:=by omega
  have key:l[i]?.getD 0=m[i]?.getD 0:=by
   rcases (show i=0\/i=1\/i=2 by omega) with rfl|rfl|rfl<;>assumption
  rw[List.getElem?_eq_getElem hi,List.getElem?_eq_getElem hm] at key ⊢;simpa using key
 .rw[List.getElem?_eq_none (by omega),List.getElem?_eq_none (by omega)]
theorem Ji {u:aj}(F:Fit u):((bt u).map cw).Nodup:=by
 have c:(bt u).Nodup:=(CU u.av []).filter _;unfold List.Nodup at c ⊢;rw[List.pairwise_map];refine List.Pairwise.imp_of_mem ?_ c;intro a b d hb f e;have g:=(ug d).1.len;have h:=(ug hb).1.len;have:=F.av;exact f (Jh (by omega) (by omega) e)
theorem CV {u:aj}(F:Fit u)(h:dH u=some 0):mY u=some (((bt u).length:Int),0):=by
 unfold mY;rw[uf h];simp only[ag];rw[show ((0:Int) != 0)=false by decide];simp only[cond_false];rw[CJ F,show (bt u).map (fun x=>some (cw x))=((bt u).map cw).map some by simp,CR _ [] (by simpa using Ji F)];simp[aF]
theorem Jj (u:aj)(t:bG)(h:List Int):e4 (wt u (u.told++[t])) h=(e4 u h&&gQ u h t):=by
 unfold e4;show (u.told++[t]).all (gQ (wt u (u.told++[t])) h)=_;rw[List.all_append];have e:gQ (wt u (u.told++[t])) h=gQ u h:=rfl;rw[e];simp
theorem Jk (u:aj)(t:bG):bt (wt u (u.told++[t]))=(bt u).filter fun h=>gQ u h t:=by
 unfold bt;rw[List.filter_filter];congr 1;funext h;rw[Jj,Bool.and_comm]
def kU (u:aj)(h:List Int):Bool:=(List.range u.av.length).all fun i=>!dw u (cA u i (h[i]?.getD 0))
theorem CW {α:Type}{g:Nat->Bool}:∀(l:List α) (i:Nat),gb (fun i _=>if g i then none else some false) i l=if (List.range' i l.length).all g then none else some false
 |[],_=>rfl
 |x::l,i=>by
  unfold gb
  rw[List.length_cons,List.range'_succ,List.all_cons]
  cases h:g i with
  |false=>simp[h]
  |true=>
   simp only[h,if_true,Bool.true_and]
   exact CW l (i+1)
theorem CX {u:aj}(F:Fit u){h:List Int}(hm:h∈bt u)(all:List aW):jS (cw h) ⟨u,all⟩=some (kU u h):=by
 have b:=F.av;unfold jS
 rw[yx (t:=fun i _=>if !dw u (cA u i (h[i]?.getD 0)) then none else some false) u.av 0 false fun j e s he=>by
  rw[Nat.zero_add];have c:j<u.av.length:=(List.getElem?_eq_some_iff.1 he).1;obtain ⟨m,a,hs,hb⟩:=uh F he hm;have hg:aW.get (cw h) (j:Int)=some m:=q6 (by omega) (by omega) (by simpa using a);unfold sZ gO;simp only[hg,ag,fc he,(q5 F (s:=⟨e.back,m⟩) hb).1,hs]
  cases dw u ⟨e.back,m⟩<;>rfl]
 rw[CW (g:=fun i=>!dw u (cA u i (h[i]?.getD 0)))];simp only[ag];unfold kU;rw[List.range_eq_range'];cases (List.range' 0 u.av.length).all fun i=>!dw u (cA u i (h[i]?.getD 0))<;>rfl
def lR (n m:Nat):Int:=if n=m then 1 else if n=0 then 2 else 0
theorem CZ {k:cT}{f:aW->Option Bool}{g:aW->Bool}(e:k.all.length<=1000)(h:∀x,x∈k.all->f x=some (g x)):oe k f=some (lR (k.all.countP g) k.all.length):=by
 have key:=iK (f:=qv f) (ρ:=Int) (g:=fun _ x (n:Int)=>cond (g x) (n+1) n) (I:=fun j n=>0<=n/\n<=j/\j<=k.all.length) k.all 0 0 ⟨by omega,by omega,by omega⟩
  (fun j x n a i=>by
   have m:j<k.all.length:=(List.getElem?_eq_some_iff.1 a).1;refine ⟨?_,by cases g x<;>simp<;>omega⟩;unfold qv;rw[h x (List.mem_of_getElem? a)];simp only[ag];rw[cQ (n:=n+1) (by omega)]
   cases g x<;>rfl)
 have b:∀(l:List aW) (j:Nat) (n:Int),foldI (fun _ x (n:Int)=>cond (g x) (n+1) n) j l n=n+(l.countP g:Nat):=by
  intro l
  induction l with
  |nil=>intro j n;simp[foldI]
  |cons x l ih=>
   intro j n;unfold foldI;rw[ih,List.countP_cons];cases g x<;>simp<;>omega
 rw[b] at key;unfold oe;rw[key.1];simp only[ag,aF,Int.zero_add];unfold lR;by_cases c:k.all.countP g=k.all.length
 .rw[if_pos c,show (((k.all.countP g:Nat):Int)==(k.all.length:Int))=true by rw[c];simp];rfl
 .rw[if_neg c,show (((k.all.countP g:Nat):Int)==(k.all.length:Int))=false by simp;omega];simp only[cond_false];by_cases d:k.all.countP g=0
  .rw[if_pos d,d];rfl
  .rw[if_neg d,show (((k.all.countP g:Nat):Int)==0)=false by rw[beq_eq_false_iff_ne];omega];rfl
theorem C0 {u:aj}(F:Fit u)(h:dH u=some 0):jo u=some (if (bt u).isEmpty then (0,9) else (lR ((bt u).countP (kU u)) (bt u).length,0)):=by
 have c:=(rj F).2;unfold jo;rw[oO F (uf h)];simp only[ag];cases hs:(bt u).isEmpty with
 |true=>rfl
 |false=>
  simp only[Bool.false_eq_true,if_false];rw[show ((0:Int) != 0)=false by decide];simp only[cond_false];have key:∀x,x∈(bt u).map cw->jS x ⟨u,(bt u).map cw⟩=some ((jS x ⟨u,(bt u).map cw⟩).getD false):=fun x b=>by
   rw[List.mem_map] at b;obtain ⟨y,a,rfl⟩:=b;rw[CX F a];rfl
  rw[CZ (k:=⟨u,(bt u).map cw⟩) (g:=fun x=>(jS x ⟨u,(bt u).map cw⟩).getD false) (by simp;omega) key];simp only[List.countP_map,List.length_map];have e:(bt u).countP ((fun x=>(jS x ⟨u,(bt u).map cw⟩).getD false) ∘ cw)=(bt u).countP (kU u):=List.countP_congr fun y a=>by
   simp only[Function.comp];rw[CX F a];rfl
  rw[e]
theorem Jl {u:aj}{s:bn}(F:Fit u)(hs:(1<=s.back/\s.back<=20)/\0<=s.high/\s.high<=60):dw u s=bF u.aV (dW u s):=by
 obtain ⟨r,a,e,b⟩:=yw F hs;rw[yD F hs] at a;obtain rfl:=Option.some.inj a;have c:Sm u.aV 20 20:=⟨by have:=F.num;omega,by have:=F.den;omega,by have:=F.den;omega⟩
 have d:=kQ c b (by decide) (by decide);unfold dw gv;rw[yD F hs];simp only[ag,d.2];rfl
structure SM (u o:aj):Prop where
 bH:o.bH=u.bH
 bM:o.bM=u.bM
 aV:o.aV=u.aV
 props:o.props=u.props
 av:o.av=u.av
 told:o.told=u.told
 dh:∀x,x∈u.props->jl o x.place=jl u x.place
 yJ:∀s:bn,(1<=s.back/\s.back<=20)/\0<=s.high/\s.high<=60->(ei o s).2=(ei u s).2
theorem Jm {n a b:Int}(c:a<=n)(d:n<=b):bQ n a b=true:=eH.2 ⟨c,d⟩
def lS (o:Nat)(S:List Int)(i:Nat):List Int:=(List.replicate o (S.flatMap fun n=>List.replicate i n)).flatten
def oP:List (List Int):=[[0],[0,1],[0,2],[0,1,2]]
def nq:List (Nat×Nat):=[(1,1),(1,2),(1,3),(1,4),(1,6),(1,9),(2,1),(3,1),(4,1),(6,1),(9,1),(2,2),(2,3),(3,2),(3,3)]
def yK (l:List Int):Option (List Int):=ag (qB l) fun x=>tn x.2
def oQ (c:Nat):Bool:=nq.all fun p=>oP.all fun S=>yK (lS p.1 (S.map (· +(c:Int))) p.2)==some (S.map (· +(c:Int)))
theorem Jn:∀c:Fin 16,oQ c.val=true:=by decide+kernel
theorem Jo:∀c:Fin 16,oQ (16+c.val)=true:=by decide+kernel
theorem Jp:∀c:Fin 16,oQ (32+c.val)=true:=by decide+kernel
theorem Jq:∀c:Fin 13,oQ (48+c.val)=true:=by decide+kernel
theorem Jr {c:Nat}(h:c<=60):oQ c=true:=by
 rcases Nat.lt_or_ge c 16 with x|x
 .exact Jn ⟨c,x⟩
 rcases Nat.lt_or_ge c 32 with y|y
 .have:=Jo ⟨c - 16,by omega⟩
  rwa [show 16+(c - 16)=c by omega] at this
 rcases Nat.lt_or_ge c 48 with z|z
 .have:=Jp ⟨c - 32,by omega⟩
  rwa [show 32+(c - 32)=c by omega] at this
 .have:=Jq ⟨c - 48,by omega⟩
  rwa [show 48+(c - 48)=c by omega] at this
theorem Js {c:Nat}(h:c<=60){p:Nat×Nat}(a:p∈nq){S:List Int}(b:S∈oP):yK (lS p.1 (S.map (· +(c:Int))) p.2)=some (S.map (· +(c:Int))):=by
 have:=Jr h;unfold oQ at this;rw[List.all_eq_true] at this;have:=this p a;rw[List.all_eq_true] at this;simpa using this S b
def jv (u:aj)(i:Nat)(n:Int):Bool:=u.told.all fun t=>t.aR != (i:Int)||(dw u (cA u i n)==t.bq)
def pL:List (List Int)->List (List Int)
 |[]=>[[]]
 |s::r=>s.flatMap fun n=>(pL r).map (n::·)
def j0 (P:Nat->Int->Bool):Nat->List Int->Bool
 |_,[]=>true
 |i,x::r=>P i x&&j0 P (i+1) r
def ir (P:Nat->Int->Bool):Nat->List (List Int)->List (List Int)
 |_,[]=>[]
 |i,s::r=>s.filter (P i)::ir P (i+1) r
def j3 (u:aj):List (List Int):=ir (jv u) 0 (u.av.map fun e=>cB e.high)
theorem C1:∀(l:List bL) (p:List Int),dQ p l=(pL (l.map fun e=>cB e.high)).map (p++·)
 |[],p=>by simp[dQ,pL]
 |e::l,p=>by
  unfold dQ
  rw[List.map_cons]
  unfold pL
  rw[List.map_flatMap]
  congr 1
  funext n
  rw[C1 l (p++[n]),List.map_map]
  refine List.map_congr_left fun q _=>?_
  simp
theorem C2 {α β:Type}(p:α->Bool)(f:α->List β):∀l:List α,(l.filter p).flatMap f=l.flatMap fun x=>if p x then f x else []
 |[]=>rfl
 |x::l=>by
  rw[List.flatMap_cons,<-C2 p f l,List.filter_cons]
  cases p x<;>simp
theorem C3 (P:Nat->Int->Bool):∀(S:List (List Int)) (i:Nat),(pL S).filter (j0 P i)=pL (ir P i S)
 |[],i=>rfl
 |s::r,i=>by
  rw[show ir P i (s::r)=s.filter (P i)::ir P (i+1) r from rfl,show pL (s::r)=s.flatMap fun n=>(pL r).map (n::·) from rfl,
   show pL (s.filter (P i)::ir P (i+1) r)=(s.filter (P i)).flatMap fun n=>(pL (ir P (i+1) r)).map (n::·) from rfl]
  rw[C2,List.filter_flatMap]
  congr 1
  funext n
  rw[List.filter_map]
  cases h:P i n with
  |false=>
   rw[show (j0 P i ∘ fun x=>n::x)=fun _=>false by funext q;simp[j0,h]]
   simp
  |true=>
   rw[show (j0 P i ∘ fun x=>n::x)=j0 P (i+1) by funext q;simp[j0,h],C3 P r (i+1)]
   rfl
theorem C4 (P:Nat->Int->Bool):∀(h:List Int) (i:Nat),j0 P i h=(List.range h.length).all fun j=>P (i+j) (h[j]?.getD 0)
 |[],i=>rfl
 |x::r,i=>by
  unfold j0
  rw[C4 P r (i+1),List.length_cons,List.range_succ_eq_map,List.all_cons,List.all_map]
  congr 1
  refine congrArg (fun f=>List.all _ f) ?_
  funext j
  simp only[Function.comp]
  rw[show i+1+j=i+(j+1) by omega]
  rfl
theorem Jt {u:aj}(F:Fit u){h:List Int}(H:oM u h):e4 u h=j0 (jv u) 0 h:=by
 rw[C4,Bool.eq_iff_iff];unfold e4;rw[List.all_eq_true,List.all_eq_true];constructor
 .intro a j d;rw[Nat.zero_add];unfold jv;rw[List.all_eq_true];intro t ht;by_cases c:t.aR=(j:Int)
  .have:=a t ht;unfold gQ at this;rw[c,Int.toNat_natCast] at this;rw[this,Bool.or_true]
  .rw[show (t.aR != (j:Int))=true by simpa using c,Bool.true_or]
 .intro a t ht;obtain ⟨k,b⟩:=List.mem_iff_getElem?.1 ht;obtain ⟨e,b2⟩:=F.qX k t b;have f:=H.len;have:=a t.aR.toNat (by rw[List.mem_range];omega);rw[Nat.zero_add] at this;unfold jv at this;rw[List.all_eq_true] at this;have:=this t ht;rw[show (t.aR != (t.aR.toNat:Int))=false by rw[bne_eq_false_iff_eq];omega,Bool.false_or] at this;exact this
theorem uj {u:aj}(F:Fit u):bt u=pL (j3 u):=by
 unfold bt j3;rw[<-C3];have e:dQ [] u.av=pL (u.av.map fun e=>cB e.high):=by rw[C1];simp
 rw[<-e];refine List.filter_congr fun h hm=>?_;exact Jt F (yF hm)
theorem C5:∀S:List (List Int),(pL S).length=(S.map List.length).foldr (· *·) 1
 |[]=>rfl
 |s::r=>by
  unfold pL
  rw[List.length_flatMap,List.map_cons,List.foldr_cons,<-C5 r]
  simp only[List.length_map]
  rw[List.map_const',List.sum_replicate_nat]
theorem C6 {α:Type}(x:List α)(m:Nat):∀o:Nat,(List.replicate o (List.replicate m x).flatten).flatten=(List.replicate (o*m) x).flatten
 |0=>by simp
 |o+1=>by
  rw[List.replicate_succ,List.flatten_cons,C6 x m o,<-List.flatten_append,List.replicate_append_replicate]
  congr 2
  rw[Nat.add_mul];omega
theorem C7 {α β:Type}(x:List β):∀l:List α,l.flatMap (fun _=>x)=(List.replicate l.length x).flatten
 |[]=>rfl
 |a::l=>by rw[List.flatMap_cons,C7 x l,List.length_cons,List.replicate_succ,List.flatten_cons]
theorem C8:∀(S:List (List Int)) (i:Nat) (s:List Int),S[i]?=some s->(pL S).map (fun h=>h[i]?.getD 0)=lS (((S.take i).map List.length).foldr (· *·) 1) s (((S.drop (i+1)).map List.length).foldr (· *·) 1)
 |[],i,s,h=>by simp at h
 |a::r,0,s,h=>by
  have h:a=s:=by simpa using h
  subst h
  unfold pL lS
  rw[List.map_flatMap]
  simp only[List.take_zero,List.map_nil,List.foldr_nil,List.replicate_one,List.flatten_cons,List.flatten_nil,List.append_nil,Nat.zero_add,List.drop_succ_cons,List.drop_zero]
  rw[<-C5]
  congr 1
  funext n
  rw[List.map_map,show ((fun h:List Int=>h[0]?.getD 0) ∘ fun x=>n::x)=fun _=>n from rfl,List.map_const']
 |a::r,i+1,s,h=>by
  have h:r[i]?=some s:=by simpa using h
  have ih:=C8 r i s h
  unfold pL
  rw[List.map_flatMap]
  have e:(fun n:Int=>List.map (fun h:List Int=>h[i+1]?.getD 0) (List.map (fun x=>n::x) (pL r)))=fun _=>(pL r).map fun h=>h[i]?.getD 0:=by
   funext n
   rw[List.map_map]
   rfl
  rw[e,ih,C7]
  unfold lS
  rw[C6]
  congr 2
end Go.Proofs.YtghbphimkgamkaaGreatDoor
end
section
namespace Go.Proofs.YtghbphimkgamkaaGreatDoor
open Go Go.Sep Go.Proofs
set_option maxRecDepth 100000
set_option maxHeartbeats 4000000
set_option linter.all false
theorem C9 (P:Nat->Int->Bool):∀(S:List (List Int)) (i j:Nat),(ir P i S)[j]?=S[j]?.map (List.filter (P (i+j)))
 |[],i,j=>by simp[ir]
 |s::r,i,0=>by simp[ir]
 |s::r,i,j+1=>by
  have:=C9 P r (i+1) j
  rw[show i+1+j=i+(j+1) by omega] at this
  simpa [ir] using this
theorem Da (P:Nat->Int->Bool):∀(S:List (List Int)) (i:Nat),(ir P i S).length=S.length
 |[],i=>rfl
 |s::r,i=>by simp[ir,Da P r (i+1)]
def c7 (u:aj)(i:Nat)(e:bL):List Int:=(cB e.high).filter (jv u i)
theorem nt {u:aj}{i:Nat}{e:bL}(he:u.av[i]?=some e):(j3 u)[i]?=some (c7 u i e):=by
 unfold j3;rw[C9,List.getElem?_map,he];simp[c7]
theorem oR (u:aj):(j3 u).length=u.av.length:=by unfold j3;rw[Da,List.length_map]
theorem Ju (P:Int->Bool){b:cj}(f:0<=b.low)(g:b.low<=b.high)(i:b.high<=60)(j:b.high - b.low<3):
  (cB b).filter P=[]\/∃(c:Nat) (T:List Int),c<=60/\T∈oP/\(cB b).filter P=T.map (· +(c:Int)):=by
 obtain ⟨c,d⟩:∃c:Nat,b.low=(c:Int):=⟨b.low.toNat,by omega⟩
 rcases (show b.high=c\/b.high=c+1\/b.high=c+2 by omega) with h|h|h
 .have e:cB b=[(c:Int)]:=by unfold cB;rw[h,d,show ((c:Int) - c+1).toNat=1 by omega];simp[List.range,List.range.loop]
  rw[e]
  cases p0:P c
  .left;simp[List.filter,p0]
  .right;exact ⟨c,[0],by omega,by decide,by simp[List.filter,p0]⟩
 .have e:cB b=[(c:Int),c+1]:=by unfold cB;rw[h,d,show ((c:Int)+1 - c+1).toNat=2 by omega];simp[List.range,List.range.loop]
  rw[e]
  cases p0:P c<;>cases a:P (c+1)
  .left;simp[List.filter,p0,a]
  .right;exact ⟨c+1,[0],by omega,by decide,by simp[List.filter,p0,a]⟩
  .right;exact ⟨c,[0],by omega,by decide,by simp[List.filter,p0,a]⟩
  .right;exact ⟨c,[0,1],by omega,by decide,by simp[List.filter,p0,a];omega⟩
 .have e:cB b=[(c:Int),c+1,c+2]:=by unfold cB;rw[h,d,show ((c:Int)+2 - c+1).toNat=3 by omega];simp[List.range,List.range.loop]
  rw[e]
  cases p0:P c<;>cases a:P (c+1)<;>cases p2:P (c+2)
  .left;simp[List.filter,p0,a,p2]
  .right;exact ⟨c+2,[0],by omega,by decide,by simp[List.filter,p0,a,p2]⟩
  .right;exact ⟨c+1,[0],by omega,by decide,by simp[List.filter,p0,a,p2]⟩
  .right;exact ⟨c+1,[0,1],by omega,by decide,by simp[List.filter,p0,a,p2];omega⟩
  .right;exact ⟨c,[0],by omega,by decide,by simp[List.filter,p0,a,p2]⟩
  .right;exact ⟨c,[0,2],by omega,by decide,by simp[List.filter,p0,a,p2];omega⟩
  .right;exact ⟨c,[0,1],by omega,by decide,by simp[List.filter,p0,a,p2];omega⟩
  .right;exact ⟨c,[0,1,2],by omega,by decide,by simp[List.filter,p0,a,p2];omega⟩
theorem Db:∀{S:List (List Int)},pL S≠[]->∀s,s∈S->s≠[]
 |[],_,s,h=>by simp at h
 |a::r,b,s,h=>by
  have e:pL (a::r)=a.flatMap fun n=>(pL r).map (n::·):=rfl
  rcases List.mem_cons.1 h with rfl|h
  .intro he;rw[e,he] at b;exact b rfl
  .refine Db (S:=r) (fun he=>?_) s h
   rw[e,he] at b
   exact b (by simp)
theorem Jv {o k:Nat}(d:1<=o)(e:1<=k){s:List Int}{n:Int}:n∈lS o s k↔n∈s:=by
 unfold lS;rw[List.mem_flatten];constructor
 .rintro ⟨l,b,a⟩;rw[List.mem_replicate] at b;rw[b.2,List.mem_flatMap] at a;obtain ⟨m,hm,c⟩:=a;rw[(List.mem_replicate.1 c).2];exact hm
 .intro a;exact ⟨_,List.mem_replicate.2 ⟨by omega,rfl⟩,List.mem_flatMap.2 ⟨n,a,List.mem_replicate.2 ⟨by omega,rfl⟩⟩⟩
def nu (l:List Nat):Nat:=l.foldr (· *·) 1
theorem Jw {L:List Nat}(d:L.length<=3)(h:∀x,x∈L->1<=x/\x<=3){i:Nat}(hi:i<L.length):(nu (L.take i),nu (L.drop (i+1)))∈nq:=by
 match L,d,h,hi with
 |[a],_,h,hi=>
  obtain rfl:i=0:=by simpa using hi
  show (1,1)∈nq;decide
 |[a,b],_,h,hi=>
  have e:=h a (by simp);have hb:=h b (by simp);rcases (show a=1\/a=2\/a=3 by omega) with rfl|rfl|rfl<;>rcases (show b=1\/b=2\/b=3 by omega) with rfl|rfl|rfl<;>rcases (show i=0\/i=1 by simp at hi;omega) with rfl|rfl<;>decide
 |[a,b,c],_,h,hi=>
  have e:=h a (by simp);have hb:=h b (by simp);have f:=h c (by simp);rcases (show a=1\/a=2\/a=3 by omega) with rfl|rfl|rfl<;>rcases (show b=1\/b=2\/b=3 by omega) with rfl|rfl|rfl<;>rcases (show c=1\/c=2\/c=3 by omega) with rfl|rfl|rfl<;>rcases (show i=0\/i=1\/i=2 by simp at hi;omega) with rfl|rfl|rfl<;>decide
theorem yL {α β:Type}(f:α->β):∀l:List α,(l.flatMap fun x=>[f x])=l.map f
 |[]=>rfl
 |a::l=>by rw[List.flatMap_cons,yL f l];rfl
theorem uk {T:List Int}(h:T∈oP):1<=T.length/\T.length<=3:=by
 unfold oP at h;simp only[List.mem_cons,List.not_mem_nil,or_false] at h;rcases h with rfl|rfl|rfl|rfl<;>decide
variable {u : aj} (F : Fit u) (aG : bt u ≠ []) {i : Nat} {e : bL} (he : u.av[i]? = some e)
include F aG he
theorem rm:∃(c:Nat) (T:List Int),c<=60/\T∈oP/\c7 u i e=T.map (· +(c:Int)):=by
 obtain ⟨c1,c2,c3,c4,a⟩:=F.aR _ _ he;rcases Ju (jv u i) (b:=e.high) c2 c3 c4 a with h|h
 .rw[uj F] at aG;exact absurd h (Db aG _ (List.mem_of_getElem? (nt he)))
 .exact h
theorem Dc:∃p,p∈nq/\1<=p.1/\1<=p.2/\(bt u).map (fun h=>h[i]?.getD 0)=lS p.1 (c7 u i e) p.2:=by
 have hi:i<u.av.length:=(List.getElem?_eq_some_iff.1 he).1;have o:=F.av;have m:∀x,x∈(j3 u).map List.length->1<=x/\x<=3:=fun x f=>by
  rw[List.mem_map] at f;obtain ⟨s,hs,rfl⟩:=f;obtain ⟨j,g⟩:=List.mem_iff_getElem?.1 hs;have k:j<u.av.length:=by rw[<-oR u];exact (List.getElem?_eq_some_iff.1 g).1
  have l:=nt (u:=u) (List.getElem?_eq_getElem k);rw[g] at l;obtain ⟨c,T,-,n,e2⟩:=rm F aG (List.getElem?_eq_getElem k);rw[Option.some.inj l,e2,List.length_map];exact uk n
 have d:=Jw (L:=(j3 u).map List.length) (by simp[oR];omega) m (i:=i) (by simp[oR];omega);refine ⟨_,d,?_,?_,?_⟩
 .revert d;generalize nu _=a;generalize nu _=b;intro d;have:∀q,q∈nq->1<=q.1:=by decide
  exact this _ d
 .revert d;generalize nu _=a;generalize nu _=b;intro d;have:∀q,q∈nq->1<=q.2:=by decide
  exact this _ d
 .rw[uj F,C8 _ i _ (nt he)];unfold nu;rw[List.map_take,List.map_drop]
theorem Dd {n:Int}:n∈c7 u i e↔∃h,h∈bt u/\h[i]?=some n:=by
 obtain ⟨p,f,a,p2,b⟩:=Dc F aG he;rw[<-Jv a p2,<-b,List.mem_map];constructor
 .rintro ⟨h,hm,rfl⟩;obtain ⟨m,c,_⟩:=(ug hm).1.yy i e he;exact ⟨h,hm,by rw[c];rfl⟩
 .rintro ⟨h,hm,d⟩;exact ⟨h,hm,by rw[d];rfl⟩
theorem Jx:bJ (oz (i:Int)) 0 ((bt u).map cw) []=some (.nx ((bt u).map fun h=>h[i]?.getD 0)):=by
 have hi:i<u.av.length:=(List.getElem?_eq_some_iff.1 he).1;have d:=F.av;have e:=(rj F).2;have key:=iK (f:=oz (i:Int)) (g:=fun _ x (s:List Int)=>s++[(aW.get x (i:Int)).getD 0]) (I:=fun j s=>s.length<=j/\j<=(bt u).length) ((bt u).map cw) 0 [] ⟨by simp,by omega⟩
  (fun j x s a k=>by
   rw[List.getElem?_map,Option.map_eq_some_iff] at a;obtain ⟨h,b,rfl⟩:=a;have l:j<(bt u).length:=(List.getElem?_eq_some_iff.1 b).1;obtain ⟨m,hm,hs,hb⟩:=uh F he (List.mem_of_getElem? b);have hg:aW.get (cw h) (i:Int)=some m:=q6 (by omega) (by omega) (by simpa using hm);refine ⟨?_,?_⟩
   .unfold oz;simp only[hg,ag,Option.getD_some];unfold dc;rw[if_pos (by simp;omega)]
   .simp only[List.length_append,List.length_singleton];omega)
 rw[key.1,CP];congr 2;have e1:foldI (fun n x s=>s++[((cw x).get (i:Int)).getD 0]) 0 (bt u) []=foldI (fun _ x (s:List Int)=>s++(fun x:List Int=>[x[i]?.getD 0]) x) 0 (bt u) []:=by
  refine CQ _ _ _ fun j h s hm=>?_;obtain ⟨m,c,hs,hb⟩:=uh F he hm;have hg:aW.get (cw h) (i:Int)=some m:=q6 (by omega) (by omega) (by simpa using c);rw[hg];show _=s++[h[i]?.getD 0];rw[c]
 rw[e1,ri,List.nil_append];exact yL _ _
theorem yM:lM ⟨u,(bt u).map cw⟩ (i:Int)=some (c7 u i e):=by
 obtain ⟨p,a,j,p2,b⟩:=Dc F aG he;obtain ⟨c,T,d,f,g⟩:=rm F aG he;have hs:=Js d a f;rw[<-g,<-b] at hs;unfold lM;rw[Jx F aG he];unfold yK at hs;simp only[ag,aF] at hs ⊢;cases h:qB ((bt u).map fun h=>h[i]?.getD 0) with
 |none=>rw[h] at hs;cases hs
 |some x=>
  rw[h] at hs;simp only at hs ⊢;rw[hs]
end Go.Proofs.YtghbphimkgamkaaGreatDoor
end
section
namespace Go.Proofs.YtghbphimkgamkaaGreatDoor
open Go Go.Sep Go.Proofs
set_option maxRecDepth 100000
set_option maxHeartbeats 4000000
end Go.Proofs.YtghbphimkgamkaaGreatDoor
end

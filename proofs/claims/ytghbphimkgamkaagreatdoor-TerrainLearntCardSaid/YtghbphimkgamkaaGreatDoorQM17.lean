/- A part of the proof of a row and its tied card: QM17. -/
import Derived.Test.YtghbphimkgamkaaGreatDoorQM16
set_option linter.all false
section
namespace Go.Proofs.YtghbphimkgamkaaGreatDoor
open Go Go.Sep Go.Proofs
set_option maxRecDepth 100000
set_option maxHeartbeats 4000000
theorem LV {u:aj}(h:m5 u=some false):fA u:=by
 unfold m5 at h;rcases je h with ⟨a,h⟩|⟨a,h⟩
 .cases h
 rcases je h with ⟨b,h⟩|⟨b,h⟩
 .cases h
 rcases je h with ⟨c,h⟩|⟨c,h⟩
 .cases h
 have d:=Option.some.inj h;simp only[decide_eq_false_iff_not] at a b c d;exact ⟨by omega,by omega,by omega,by omega⟩
theorem LW (u:aj):∃b,m5 u=some b:=by
 unfold m5;cases decide (20<(u.az.length:Int))<;>cases decide (20<(u.props.length:Int))<;>cases decide (20<(u.av.length:Int))<;>exact ⟨_,rfl⟩
theorem LX (u:aj):oE u=some false\/(oE u=some true/\fA u/\dH u=some 0/\Fit u):=by
 unfold oE;obtain ⟨b,hb⟩:=LW u;rw[hb];cases b with
 |true=>exact .inl rfl
 |false=>
  have L:=LV hb;obtain ⟨c,a,d⟩:=bars L;simp only[ag,Bool.not_false,cond_true,d];cases f:(c==0) with
  |false=>exact .inl rfl
  |true=>
   have e:c=0:=by simpa using f
   subst e;exact .inr ⟨rfl,L,a,oJ u L.e a⟩
theorem LY {a b:Int}(hb:0<b):iB a b=some (a.tmod b):=by
 unfold iB;rw[if_neg (by omega)]
theorem LZ {a b:Int}(c:0<=a)(hb:0<b):0<=a.tmod b/\a.tmod b<b:=⟨Int.tmod_nonneg _ c,Int.tmod_lt_of_pos _ hb⟩
theorem Eg {a b:an}{A B C D:Nat}(c:Sm a A B)(hb:Sm b C D):Sm (iq a b) (A*D+C*B) (B*D)/\∃n d,0<d/\iq a b=bK n d:=by
 have e:=dB c.num (show b.den.natAbs<=D by have:=hb.den;omega);have f:=dB hb.num (show a.den.natAbs<=B by have:=c.den;omega);have g:=dB (show a.den.natAbs<=B by have:=c.den;omega) (show b.den.natAbs<=D by have:=hb.den;omega);have h:0<a.den*b.den:=Int.mul_pos c.den.1 hb.den.1;have:=ju (a.num*b.den - b.num*a.den) (a.den*b.den).toNat (by omega);refine ⟨?_,_,_,by omega,rfl⟩;unfold iq;exact ⟨Nat.le_trans this.num (by omega),this.den.1,by have:=this.den.2;omega⟩
theorem zB {α ρ:Type}:∀(l:List α) (i:Nat),gb (fun _ _=>(none:Option ρ)) i l=none
 |[],_=>rfl
 |x::l,i=>by unfold gb;exact zB l (i+1)
section
variable {u : aj} {s : bn} (F : Fit u) (hs : (1 ≤ s.back ∧ s.back ≤ 20) ∧ 0 ≤ s.high ∧ s.high ≤ 60)
include F hs
theorem Eh:Sm (ei u s).2 10000 100/\∃n d,0<d/\(ei u s).2=bK n d:=by
 obtain ⟨n,p,e,a,-⟩:=IV F hs;have b:=F.kP n p a;rw[e];exact ⟨Cb u F s hs n p a,_,_,by omega,rfl⟩
theorem L0:Sm (iq ⟨u.bM,1⟩ (ei u s).2) 16000 100/\∃n d,0<d/\iq ⟨u.bM,1⟩ (ei u s).2=bK n d:=by
 obtain ⟨a,b⟩:=Eg (q2 F hs) (Eh F hs).1;exact ⟨a.mono (by decide) (by decide),b⟩
end
abbrev Lw (x:an):Prop:=∃n d,0<d/\x=bK n d
theorem Lw.more {a b:an}(c:Lw a)(hb:Lw b):Lw (cp a b):=by
 unfold cp;cases bF a b;exact c;exact hb
theorem Ei:Lw ⟨0,1⟩:=⟨0,1,by decide,by decide⟩
section
variable {u : aj} {s : bn} (F : Fit u) (hs : (1 ≤ s.back ∧ s.back ≤ 20) ∧ 0 ≤ s.high ∧ s.high ≤ 60)
include F hs
theorem L1:Sm (lQ u s) 10000 100:=by
 unfold lQ;cases bF (ei u s).2 ⟨u.bM,1⟩
 .exact (Eh F hs).1
 .exact (q2 F hs).mono (by decide) (by decide)
theorem zC:Sm (dW u s) 300000000 800000/\Lw (dW u s):=by
 obtain ⟨a,b⟩:=Eg (L1 F hs) (yC F hs);unfold dW;refine ⟨?_,Lw.more b Ei⟩;have z:Sm (⟨0,1⟩:an) 300000000 800000:=⟨by decide,by decide,by decide⟩
 have c:=a.mono (show _<=300000000 by decide) (show _<=800000 by decide);unfold cp;cases bF (iq (lQ u s) (oN u s)) ⟨0,1⟩
 .exact c
 .exact z
end
theorem Ej {α ρ:Type}{g:α->Bool}{r:ρ}:∀(l:List α) (i:Nat),gb (fun _ x=>if g x then some r else none) i l=if l.any g then some r else none
 |[],_=>rfl
 |x::l,i=>by
  unfold gb
  cases h:g x with
  |true=>simp[h]
  |false=>
   simp only[h,Bool.false_eq_true,if_false,List.any_cons,Bool.false_or]
   exact Ej l (i+1)
theorem L2 {l:List Int}(b:l.length<=1000)(n:Int):qK l n=some (l.any (· ==n)):=by
 unfold qK
 rw[tZ (t:=fun _ x=>if x==n then some true else none) l b (fun i x s a=>by
  have c:=(List.getElem?_eq_some_iff.1 a).1;unfold qJ;rw[show decide ((s,(i:Int)).2<(l.length:Int))=true by simp;omega];simp only[cond_true,fc a,ag];rw[cQ (n:=(i:Int)+1) (by omega)]
  cases (x==n)<;>rfl) (fun s=>by
  unfold qJ
  simp) false,Ej]
 cases l.any (· ==n)<;>rfl
theorem any_eq {l:List Int}{n:Int}:l.any (· ==n)=true↔n∈l:=by
 rw[List.any_eq_true];constructor
 .rintro ⟨y,a,e⟩;have:y=n:=by simpa using e
  rw[<-this];exact a
 .exact fun h=>⟨n,h,by simp⟩
theorem L3 {l m:List Int}(b:l.length<=1000)(hm:m.length<=1000)(h:∀n,n∈l->n∈m):qL l m=some true:=by
 unfold qL
 have:=tZ (t:=fun _ _=>(none:Option Bool)) l b (f:=oF l m) (fun i x s a=>by
  have c:=(List.getElem?_eq_some_iff.1 a).1;unfold oF;rw[show decide ((s,(i:Int)).2<(l.length:Int))=true by simp;omega];simp only[cond_true,fc a,ag,L2 hm,any_eq.2 (h x (List.mem_of_getElem? a)),Bool.not_true,cond_false];rw[cQ (n:=(i:Int)+1) (by omega)]
  rfl) (fun s=>by
  unfold oF
  simp) false
 rw[this,zB];rfl
theorem Ek {x p q:an}{A B:Nat}(b:Sm x A B)(c:Sm p A B)(d:Sm q A B)(a:A*B<=9000000000000000000):oG x p q=some (!bF x p&&!bF q x):=by
 have e:=(kQ b c a a).1;have f:=(kQ d b a a).1;unfold oG;simp only[decide_eq_true b.den.1,decide_eq_true c.den.1,decide_eq_true d.den.1,cond_true,e,f,ag];unfold bF;cases decide (x.num*p.den<p.num*x.den)<;>rfl
theorem El:hU ga ga=some true:=by decide+kernel
def gG (u:aj)(s:bn):an:=iq ⟨u.bM,1⟩ (ei u s).2
def gj (a b:an):an:=cond (bF b a) b a
section
variable {u : aj} {s : bn} (F : Fit u) (hs : (1 ≤ s.back ∧ s.back ≤ 20) ∧ 0 ≤ s.high ∧ s.high ≤ 60)
include F hs
theorem L4:mQ u s=some (gG u s):=by
 obtain ⟨r,k1,a⟩:=IK F hs;obtain ⟨c,-,e2,d,b⟩:=qZ F hs;unfold x8 at a;rw[b] at a;simp only[ag,Cz (ua F hs) (tX F hs)] at a;rw[k1,<-a];rfl
theorem pg:SR (gG u s):=(L0 F hs).1.mono (by decide) (by decide)
end
section
variable {u : aj} (F : Fit u) (h : dH u = some 0) {i : Nat} {e : bL} (he : u.av[i]? = some e)
include F h he
theorem zD:eZ u [eP (i:Int)]=some (u,0):=by
 have hi:i<u.av.length:=(List.getElem?_eq_some_iff.1 he).1;rw[B7 h (CO u i),(yI F).2 ⟨by omega,by omega⟩];rfl
theorem uS:jX u (i:Int)=some (if (bt u).isEmpty then ([],9) else (c7 u i e,0)):=by
 unfold jX;rw[oO F (zD F h he)];cases hs:(bt u).isEmpty with
 |true=>rfl
 |false=>
  simp only[ag,Bool.false_eq_true,if_false,bne_self_eq_false,cond_false];rw[yM F (by intro c;rw[c] at hs;cases hs) he]
omit h in
theorem iU {n:Int}(a:n∈c7 u i e):(1<=e.back/\e.back<=20)/\0<=n/\n<=60:=by
 obtain ⟨c1,c2,c3,c4,b⟩:=F.aR _ _ he;have:=CC.1 (List.mem_filter.1 a).1;exact ⟨c1,by omega,by omega⟩
theorem Em:jW u (i:Int)=some (if (bt u).isEmpty then (0,9) else (lR ((bt u).countP fun l=>dw u (cA u i (l[i]?.getD 0))) (bt u).length,0)):=by
 have c:=(rj F).2;have hi:i<u.av.length:=(List.getElem?_eq_some_iff.1 he).1;have d:=F.av;unfold jW;rw[oO F (zD F h he)];simp only[ag];cases hs:(bt u).isEmpty with
 |true=>rfl
 |false=>
  simp only[Bool.false_eq_true,if_false];rw[show ((0:Int) != 0)=false by decide];simp only[cond_false];have one:∀y,y∈bt u->jR (cw y) ⟨u,(bt u).map cw⟩ (i:Int)=some (dw u (cA u i (y[i]?.getD 0))):=fun y a=>by
   obtain ⟨m,hm,hs,hb⟩:=uh F he a;have hg:aW.get (cw y) (i:Int)=some m:=q6 (by omega) (by omega) (by simpa using hm);unfold jR gO;simp only[hg,ag,fc he,(q5 F (s:=⟨e.back,m⟩) hb).1,hs]
  have key:∀x,x∈(bt u).map cw->jR x ⟨u,(bt u).map cw⟩ (i:Int)=some ((jR x ⟨u,(bt u).map cw⟩ (i:Int)).getD false):=fun x b=>by
   rw[List.mem_map] at b;obtain ⟨y,a,rfl⟩:=b;rw[one y a];rfl
  rw[CZ (k:=⟨u,(bt u).map cw⟩) (g:=fun x=>(jR x ⟨u,(bt u).map cw⟩ (i:Int)).getD false) (by simp;omega) key];simp only[List.countP_map,List.length_map];have e:(bt u).countP ((fun x=>(jR x ⟨u,(bt u).map cw⟩ (i:Int)).getD false) ∘ cw)=(bt u).countP (fun l=>dw u (cA u i (l[i]?.getD 0))):=List.countP_congr fun y a=>by
   simp only[Function.comp];rw[one y a];rfl
  rw[e]
omit h in
theorem L5 (aG:bt u≠[]):bJ (oA (i:Int) (⟨u,(bt u).map cw⟩,0)) 0 (c7 u i e) []=some (.nx ((c7 u i e).map fun n=>gG u ⟨e.back,n⟩)):=by
 have hlen:(c7 u i e).length<=3:=by
  obtain ⟨c,T,h,b,d⟩:=rm F aG he;rw[d,List.length_map];exact (uk b).2
 have key:=iK (f:=oA (i:Int) (⟨u,(bt u).map cw⟩,0)) (g:=fun _ n (s:List an)=>s++(fun n:Int=>[gG u ⟨e.back,n⟩]) n) (I:=fun j s=>s.length<=j/\j<=3) (c7 u i e) 0 [] ⟨by simp,by omega⟩
  (fun j n s a k=>by
   have l:j<(c7 u i e).length:=(List.getElem?_eq_some_iff.1 a).1;have hb:=iU F he (List.mem_of_getElem? a);refine ⟨?_,?_⟩
   .unfold oA gO;simp only[ag,fc he,L4 F (s:=⟨e.back,n⟩) hb];unfold dc;rw[if_pos (by simp;omega)]
   .simp only[List.length_append,List.length_singleton];omega)
 rw[key.1,ri,List.nil_append,yL]
theorem L6:∀(l:List an) (a:an),SR a->(∀x,x∈l->SR x)->fV eB a l=some (foldI (fun _ y st=>cp st y) 0 l a):=fun l a d e=>by
 unfold fV
 rw[(iK (f:=kJ eB) (ρ:=an) (g:=fun _ y st=>cp st y) (I:=fun _ st=>SR st) l 0 a d fun j x st h b=>by
  have c:=e x (List.mem_of_getElem? h)
  refine ⟨?_,kS b c⟩
  unfold kJ
  simp only[(kR b c).2,ag]
  unfold cp
  cases bF st x<;>rfl).1]
 rfl
theorem L7:∀(l:List an) (a:an),SR a->(∀x,x∈l->SR x)->fV mM a l=some (foldI (fun _ y st=>gj st y) 0 l a):=fun l a d e=>by
 unfold fV
 rw[(iK (f:=kJ mM) (ρ:=an) (g:=fun _ y st=>gj st y) (I:=fun _ st=>SR st) l 0 a d fun j x st h b=>by
  have c:=e x (List.mem_of_getElem? h)
  refine ⟨?_,by unfold gj;cases bF x st;exact b;exact c⟩
  unfold kJ mM
  simp only[(kR c b).2,ag]
  unfold gj
  cases bF x st<;>rfl).1]
 rfl
theorem L8 (hs:(bt u).isEmpty=false):∃a l,(c7 u i e).map (fun n=>gG u ⟨e.back,n⟩)=a::l/\jY u (i:Int)=some (foldI (fun _ y st=>gj st y) 0 l a,foldI (fun _ y st=>cp st y) 0 l a,0):=by
 have aG:bt u≠[]:=by intro c;rw[c] at hs;cases hs
 unfold jY;rw[oO F (zD F h he),hs];simp only[ag,Bool.false_eq_true,if_false,bne_self_eq_false,cond_false];rw[yM F aG he];simp only[L5 F he aG,aF];have b:∀x,x∈(c7 u i e).map (fun n=>gG u ⟨e.back,n⟩)->SR x:=fun x d=>by
  rw[List.mem_map] at d;obtain ⟨n,j,rfl⟩:=d;exact pg F (iU F he j)
 have f:(c7 u i e).map (fun n=>gG u ⟨e.back,n⟩)≠[]:=by
  obtain ⟨c,T,o,g,k⟩:=rm F aG he;have:=(uk g).1;intro m;have:=congrArg List.length m;rw[List.length_map,k,List.length_map] at this;simp at this;rw[this] at g;revert g;decide
 revert b f;generalize (c7 u i e).map (fun n=>gG u ⟨e.back,n⟩)=L;intro b f
 match L,f with
 |a::l,_=>
  have y:jf (a::l) 1 (((a::l).length:Nat):Int)=some l:=by
   unfold jf;rw[if_pos (by simp only[List.length_cons];omega)];simp
  simp only[show bf (a::l) 0=some a from rfl,y,L6 F h he l a (b a (by simp)) (fun x d=>b x (by simp[d])),L7 F h he l a (b a (by simp)) (fun x d=>b x (by simp[d]))];exact ⟨a,l,rfl,rfl⟩
end
abbrev Bd (s:bn):Prop:=(1<=s.back/\s.back<=20)/\0<=s.high/\s.high<=60
def wG (u:aj)(i:Nat)(n:Int)(st:Int×an):Int×an:=
 cond (dw u (cA u i n)) (cond (bF st.2 (dW u (cA u i n))) ((i:Int),dW u (cA u i n)) st) st
def Ws (u:aj)(D:Nat->Int->Prop)(st:Int×an):Prop:=
 (st.1= -1/\st.2=⟨0,1⟩/\∀i n,D i n->dw u (cA u i n)=false)\/
 ∃j n,D j n/\st.1=(j:Nat)/\st.2=dW u (cA u j n)/\dw u (cA u j n)=true/\
  ∀i m,D i m->dw u (cA u i m)=true->bF st.2 (dW u (cA u i m))=false/\(i<j->bF (dW u (cA u i m)) st.2=true)
section
variable {u : aj} (F : Fit u)
include F
theorem pn {s:bn}(hs:Bd s):0<(dW u s).den:=(zC F hs).1.den.1
theorem L9 {s:bn}(hs:Bd s)(h:dw u s=true):bF ⟨0,1⟩ (dW u s)=true:=by
 rw[Jl F hs] at h;have:=F.num;have hd:=F.den;have b:=pn F hs;unfold bF at*;simp only[decide_eq_true_eq,Int.zero_mul,Int.mul_one] at*;have c:0<=u.aV.num*(dW u s).den:=Int.mul_nonneg this.1 (by omega);have a:0<(dW u s).num*u.aV.den:=by omega
 exact Int.pos_of_mul_pos_left a (by omega)
theorem Ma {k:Nat}{n:Int}{D:Nat->Int->Prop}(f:∀i m,D i m->i<=k/\Bd (cA u i m))(hb:Bd (cA u k n)){st:Int×an}(W:Ws u D st):Ws u (fun i m=>D i m\/(i=k/\m=n)) (wG u k n st):=by
 unfold wG;cases hs:dw u (cA u k n) with
 |false=>
  simp only[cond_false];rcases W with ⟨w1,w2,w3⟩|⟨j,m,w1,w2,w3,w4,e⟩
  .exact .inl ⟨w1,w2,fun i m h=>by rcases h with h|⟨rfl,rfl⟩;exact w3 i m h;exact hs⟩
  .exact .inr ⟨j,m,.inl w1,w2,w3,w4,fun i d h a=>by
    rcases h with h|⟨rfl,rfl⟩
    .exact e i d h a
    .rw[hs] at a;cases a⟩
 |true=>
  simp only[cond_true];have key:bF st.2 (dW u (cA u k n))=true->(∀i m,D i m->dw u (cA u i m)=true->bF st.2 (dW u (cA u i m))=false)->0<st.2.den->Ws u (fun i m=>D i m\/(i=k/\m=n)) ((k:Int),dW u (cA u k n)):=fun b g l=>
   .inr ⟨k,n,.inr ⟨rfl,rfl⟩,rfl,rfl,hs,fun i m h a=>by
    rcases h with h|⟨rfl,rfl⟩
    .have hi:=f i m h;exact ⟨yo (pn F hi.2) l (pn F hb) (g i m h a) b,fun _=>yz (pn F hi.2) l (pn F hb) (g i m h a) b⟩
    .exact ⟨ij _,fun c=>absurd c (by omega)⟩⟩
  rcases W with ⟨w1,w2,w3⟩|⟨j,m,w1,w2,w3,w4,e⟩
  .have b:bF st.2 (dW u (cA u k n))=true:=by rw[w2];exact L9 F hb hs
   rw[b];refine key b (fun i m h a=>?_) (by rw[w2];decide);rw[w3 i m h] at a;cases a
  .cases b:bF st.2 (dW u (cA u k n)) with
   |true=>exact key b (fun i d h a=>(e i d h a).1) (by rw[w3];exact pn F (f j m w1).2)
   |false=>
    refine .inr ⟨j,m,.inl w1,w2,w3,w4,fun i d h a=>?_⟩;rcases h with h|⟨rfl,rfl⟩
    .exact e i d h a
    .exact ⟨b,fun c=>absurd (f j m w1).1 (by omega)⟩
omit F in
theorem uT {D E:Nat->Int->Prop}{st:Int×an}(h:∀i m,D i m↔E i m)(W:Ws u D st):Ws u E st:=by
 have:D=E:=by funext i m;exact propext (h i m)
 rw[<-this];exact W
omit F in
theorem pq {i:Nat}{e:bL}(he:u.av[i]?=some e)(n:Int):cA u i n=⟨e.back,n⟩:=by unfold cA;rw[he];rfl
def l7 (u:aj)(k:Nat)(i:Nat)(m:Int):Prop:=i<k/\∃e,u.av[i]?=some e/\m∈c7 u i e
theorem zE {st:Int×an}{D:Nat->Int->Prop}(a:∀i m,D i m->Bd (cA u i m))(W:Ws u D st):Sm st.2 300000000 800000/\Lw st.2:=by
 rcases W with ⟨w1,w2,w3⟩|⟨j,m,w1,w2,w3,w4,b⟩
 .rw[w2];exact ⟨⟨by decide,by decide,by decide⟩,Ei⟩
 .rw[w3];exact zC F (a j m w1)
omit F in
theorem Mb {α:Type}{l:List α}{j:Nat}{x y:α}(h:l[j]?=some x):y∈l.take (j+1)↔y∈l.take j\/y=x:=by
 rw[List.take_add_one,h];simp
theorem Mc (aG:bt u≠[]){k:Nat}{e:bL}(he:u.av[k]?=some e){st:Int×an}(W:Ws u (l7 u k) st):
  ∃l,bJ (mX (⟨u,(bt u).map cw⟩,0) k) 0 (c7 u k e) (st.1,st.2)=some (.nx l)/\Ws u (l7 u (k+1)) l:=by
 have t:∀i m,l7 u k i m->Bd (cA u i m):=fun i m h=>by
  obtain ⟨b,o,a,d⟩:=h
  rw[pq a];exact iU F a d
 have key:=iK (f:=mX (⟨u,(bt u).map cw⟩,0) k) (ρ:=Int×an×Int) (g:=fun _ n st=>wG u k n st) (I:=fun j st=>Ws u (fun i m=>l7 u k i m\/(i=k/\m∈(c7 u k e).take j)) st) (c7 u k e) 0 st
  (uT (fun i m=>by simp) W)
  (fun j n st p q=>by
   have hm:=List.mem_of_getElem? p
   have hb:Bd ⟨e.back,n⟩:=iU F he hm
   have v:Bd (cA u k n):=by rw[pq he];exact hb
   have r:∀i m,l7 u k i m\/(i=k/\m∈(c7 u k e).take (0+j))->i<=k/\Bd (cA u i m):=fun i m h=>by
    rcases h with h|⟨rfl,h⟩
    .exact ⟨by have:=h.1;omega,t i m h⟩
    .exact ⟨Nat.le_refl _,by rw[pq he];exact iU F he (List.mem_of_mem_take h)⟩
   have w:=kQ (zE F (fun i m h=>(r i m h).2) q).1 (zC F (s:=⟨e.back,n⟩) hb).1 (by decide) (by decide)
   refine ⟨?_,uT (fun i m=>?_) (Ma F r v q)⟩
   .unfold mX gO
    simp only[fc he,ag,(q5 F (s:=⟨e.back,n⟩) hb).1,yD F hb,w.2]
    unfold wG
    rw[pq he]
    cases dw u ⟨e.back,n⟩ with
    |false=>rfl
    |true=>
     simp only[cond_true]
     unfold bF
     cases decide (st.2.num*(dW u ⟨e.back,n⟩).den<(dW u ⟨e.back,n⟩).num*st.2.den)<;>rfl
   .rw[Nat.zero_add,Mb p]
    constructor
    .rintro ((h|⟨b,a⟩)|⟨b,a⟩)
     .exact .inl h
     .exact .inr ⟨b,.inl a⟩
     .exact .inr ⟨b,.inr a⟩
    .rintro (h|⟨b,a|a⟩)
     .exact .inl (.inl h)
     .exact .inl (.inr ⟨b,a⟩)
     .exact .inr ⟨b,a⟩)
 refine ⟨_,key.1,uT (fun i m=>?_) key.2⟩
 rw[Nat.zero_add,List.take_length]
 unfold l7
 constructor
 .rintro (⟨b,a⟩|⟨rfl,h⟩)
  .exact ⟨by omega,a⟩
  .exact ⟨by omega,e,he,h⟩
 .rintro ⟨b,o,a,d⟩
  by_cases c:i=k
  .subst c
   rw[he] at a;cases a
   exact .inr ⟨rfl,d⟩
  .exact .inl ⟨by omega,o,a,d⟩
theorem En (h:dH u=some 0):((bt u).isEmpty=true/\jq u=some (0,⟨0,0⟩,9))\/
  ((bt u).isEmpty=false/\∃st,jq u=some (st.1,st.2,0)/\Ws u (fun i m=>∃e,u.av[i]?=some e/\m∈c7 u i e) st):=by
 unfold jq
 rw[oO F (uf h)]
 cases hs:(bt u).isEmpty with
 |true=>exact .inl ⟨rfl,rfl⟩
 |false=>
  right
  have aG:bt u≠[]:=by intro c;rw[c] at hs;cases hs
  refine ⟨rfl,?_⟩
  simp only[ag,Bool.false_eq_true,if_false,bne_self_eq_false,cond_false]
  have key:=iK (f:=qE (⟨u,(bt u).map cw⟩,0)) (ρ:=Int×an×Int)
   (g:=fun i e st=>match bJ (mX (⟨u,(bt u).map cw⟩,0) i) 0 (c7 u i e) (st.1,st.2) with|some (.nx s)=>s|_=>st)
   (I:=fun i st=>Ws u (l7 u i) st) u.av 0 (-1,⟨0,1⟩) (.inl ⟨rfl,rfl,fun i n b=>absurd b.1 (by omega)⟩)
   (fun j e st he a=>by
    rw[Nat.zero_add] at a ⊢
    obtain ⟨s1,k1,d⟩:=Mc F aG he a
    simp only[k1]
    refine ⟨?_,d⟩
    unfold qE
    simp only[yM F aG he,ag,k1,aF])
  refine ⟨_,?_,uT (fun i m=>?_) key.2⟩
  .unfold fU
   simp only[key.1,aF]
  .rw[Nat.zero_add]
   unfold l7
   constructor
   .exact fun x=>x.2
   .rintro ⟨e,he,hm⟩
    exact ⟨(List.getElem?_eq_some_iff.1 he).1,e,he,hm⟩
end
def mb (u:aj)(i:Nat)(e:bL)(b:cj):aj:=⟨u.bH,u.bM,u.aV,u.az,u.props,u.av.set i ⟨e.back,b⟩,u.told⟩
section
variable {u : aj} {i : Nat} {e : bL} (he : u.av[i]? = some e) (b : cj)
include he
theorem rF (j:Nat):(mb u i e b).av[j]?=if j=i then some ⟨e.back,b⟩ else u.av[j]?:=by
 show (u.av.set i ⟨e.back,b⟩)[j]?=_;rw[List.getElem?_set];have hi:i<u.av.length:=(List.getElem?_eq_some_iff.1 he).1;by_cases c:j=i
 .rw[if_pos c.symm,if_pos c,if_pos (by omega)]
 .rw[if_neg (fun h=>c h.symm),if_neg c]
theorem Md (j:Nat)(n:Int):cA (mb u i e b) j n=cA u j n:=by
 unfold cA;rw[rF he b];by_cases c:j=i
 .subst c;rw[if_pos rfl,he];rfl
 .rw[if_neg c]
theorem Eo (j:Nat)(n:Int):jv (mb u i e b) j n=jv u j n:=by
 unfold jv;rw[Md he b];rfl
theorem Me:c7 (mb u i e b) i ⟨e.back,b⟩=(cB b).filter (jv u i):=by
 unfold c7;exact congrArg (fun f=>List.filter f (cB b)) (funext fun n=>Eo he b i n)
theorem Mf {j:Nat}(x:bL):c7 (mb u i e b) j x=c7 u j x:=by
 unfold c7;exact congrArg (fun f=>List.filter f (cB x.high)) (funext fun n=>Eo he b j n)
theorem zF (F:Fit u)(f:0<=b.low)(g:b.low<=b.high)(h:b.high<=60)(k:b.high - b.low<3):Fit (mb u i e b):=by
 have d:(mb u i e b).av.length=u.av.length:=List.length_set ..;refine ⟨F.bH,F.bM,F.den,F.num,F.az,F.kP,F.yg,F.props,F.prop,by rw[d];exact F.av,fun j x a=>?_,F.told,fun j x a=>by rw[d];exact F.qX j x a⟩;rw[rF he b] at a;by_cases c:j=i
 .rw[if_pos c] at a;cases a;exact ⟨(F.aR i e he).1,f,g,h,k⟩
 .rw[if_neg c] at a;exact F.aR j x a
theorem Ep (F:Fit u)(h:dH u=some 0)(a:0<=b.low)(c:b.low<=b.high)(d:b.high<=60)(f:b.high - b.low<3):dH (mb u i e b)=some 0:=
 I3 (u:=mb u i e b) (show gV u=0 from I2 h) (zF he b F a c d f)
theorem Mg:j3 (mb u i e b)=(j3 u).set i ((cB b).filter (jv u i)):=by
 refine List.ext_getElem? fun j=>?_;have hi:i<u.av.length:=(List.getElem?_eq_some_iff.1 he).1;rw[List.getElem?_set];by_cases c:i=j
 .subst c;rw[if_pos rfl,if_pos (by rw[oR];exact hi),nt (e:=⟨e.back,b⟩) (by rw[rF he b,if_pos rfl]),Me he b]
 .rw[if_neg c];by_cases d:j<u.av.length
  .have a:u.av[j]?=some u.av[j]:=List.getElem?_eq_getElem d;rw[nt a,nt (e:=u.av[j]) (by rw[rF he b,if_neg (fun h=>c h.symm)];exact a),Mf he b]
  .rw[List.getElem?_eq_none (by rw[oR];show (u.av.set i ⟨e.back,b⟩).length<=j;rw[List.length_set];omega),List.getElem?_eq_none (by rw[oR];omega)]
end
theorem Mh {u:aj}(L:fA u)(F:Fit u)(h:dH u=some 0){i:Nat}{e:bL}(he:u.av[i]?=some e)(x:cj):
  mW u (i:Int) x=some (if gz x 0 60 then
   let b:cj:=⟨if e.high.low<x.low then x.low else e.high.low,if x.high<e.high.high then x.high else e.high.high⟩
   if b.high<b.low then (ga,9) else if (bt (mb u i e b)).isEmpty then (ga,9) else (mb u i e b,0)
  else (ga,1)):=by
 have hi:i<u.av.length:=(List.getElem?_eq_some_iff.1 he).1
 have y:=F.av
 obtain ⟨c1,c2,c3,c4,z⟩:=F.aR i e he
 obtain ⟨c,k1,o⟩:=bars L
 rw[h] at k1
 obtain rfl:=Option.some.inj k1
 obtain ⟨r,q,s,-⟩:=Jc L (i:Int) x
 rw[q,<-s]
 unfold yd
 rw[o,(qV u i).1,(yI F).2 ⟨by omega,by omega⟩]
 simp only[ag,bne_self_eq_false,cond_false,Bool.not_true,tK]
 cases g:gz x 0 60 with
 |false=>rfl
 |true=>
  unfold gz at g
  simp only[Bool.and_eq_true,decide_eq_true_eq] at g
  unfold m4 lO
  simp only[Bool.not_true,cond_false,fc he,if_true]
  by_cases f:(if x.high<e.high.high then x.high else e.high.high)<(if e.high.low<x.low then x.low else e.high.low)
  .rw[if_pos f,show decide ((if x.high<e.high.high then x.high else e.high.high)<(if e.high.low<x.low then x.low else e.high.low))=true from decide_eq_true f]
   rfl
  .rw[if_neg f,show decide ((if x.high<e.high.high then x.high else e.high.high)<(if e.high.low<x.low then x.low else e.high.low))=false from decide_eq_false f]
   simp only[cond_false,ag,iM (l:=([]:List bL)) (xs:=u.av) (by simp;omega),List.nil_append,fc he,Int.toNat_natCast]
   have j:0<=(if e.high.low<x.low then x.low else e.high.low):=by split<;>omega
   have k:(if x.high<e.high.high then x.high else e.high.high)<=60:=by split<;>omega
   have m:(if x.high<e.high.high then x.high else e.high.high) - (if e.high.low<x.low then x.low else e.high.low)<3:=by split<;>split<;>omega
   generalize (if x.high<e.high.high then x.high else e.high.high)=a at*
   generalize (if e.high.low<x.low then x.low else e.high.low)=d at*
   have G:=zF he ⟨d,a⟩ F j (by simp only;omega) k m
   have v:=Ep he ⟨d,a⟩ F h j (by simp only;omega) k m
   obtain ⟨A,n,w⟩:=bars (u:=mb u i e ⟨d,a⟩) ⟨L.e,L.p,by show (u.av.set i _).length<=20;rw[List.length_set];omega,L.t⟩
   rw[v] at n
   obtain rfl:=Option.some.inj n
   rw[show (⟨u.bH,u.bM,u.aV,u.az,u.props,u.av.set i ⟨e.back,⟨d,a⟩⟩,u.told⟩:aj)=mb u i e ⟨d,a⟩ from rfl]
   unfold ng
   rw[yH G w]
   simp only[ag]
   cases (bt (mb u i e ⟨d,a⟩)).isEmpty<;>rfl
structure Nw (u o:aj):Prop where
 fu:Fit u
 fo:Fit o
 cu:dH u=some 0
 co:dH o=some 0
 len:o.av.length=u.av.length
 back:∀(i:Nat) e,o.av[i]?=some e->∃d,u.av[i]?=some d/\d.back=e.back
 uU:∀s,dw o s=dw u s
 sh:∀s,dW o s=dW u s
 uV:∀s,gG o s=gG u s
 st:(bt o).Sublist (bt u)\/∀h,h∈bt o->h∈bt u
 le:(bt o).length<=(bt u).length
 ne:(bt o).isEmpty=false
theorem Er {n m a b:Nat}(f:n=m->a=b)(e:n=0->a=0)(hm:0<m)(g:0<b):lR n m=0\/lR n m=lR a b:=by
 unfold lR;by_cases c:n=m
 .right;rw[if_pos c,if_pos (f c)]
 .rw[if_neg c];by_cases d:n=0
  .right;rw[if_pos d,if_neg (by have:=e d;omega),if_pos (e d)]
  .left;rw[if_neg d]
section
variable {u o : aj} (K : Nw u o)
include K
theorem Nw.mem {h:List Int}(hm:h∈bt o):h∈bt u:=by
 rcases K.st with s|s
 .exact s.subset hm
 .exact s h hm
theorem Nw.uW:bt o≠[]:=by have:=K.ne;intro c;rw[c] at this;cases this
theorem Nw.uX:bt u≠[]:=by
 have h:=K.uW
 match e:bt o,h with
 |a::l,_=>intro c;have:=K.mem (h:=a) (by rw[e];exact List.mem_cons_self ..);rw[c] at this;cases this
theorem Nw.eu:(bt u).isEmpty=false:=by
 have:=K.uX;cases e:bt u with
 |nil=>exact absurd e this
 |cons a l=>rfl
theorem Nw.rG {i:Nat}(hi:i<u.av.length)(n:Int):cA o i n=cA u i n:=by
 have h:o.av[i]?=some (o.av[i]'(by rw[K.len];exact hi)):=List.getElem?_eq_getElem _;obtain ⟨d,a,b⟩:=K.back i _ h;unfold cA;rw[h,a];simp[b]
theorem Nw.pz {i:Nat}{e d:bL}(he:o.av[i]?=some e)(hd:u.av[i]?=some d){n:Int}(a:n∈c7 o i e):n∈c7 u i d:=by
 obtain ⟨h,b,c⟩:=(Dd K.fo K.uW he).1 a;exact (Dd K.fu K.uX hd).2 ⟨h,K.mem b,c⟩
omit K in
theorem Mi {α:Type}{p:α->Bool}{l:List α}:l.countP p=l.length↔∀x,x∈l->p x=true:=List.countP_eq_length
theorem Nw.count {p q:List Int->Bool}(b:∀h,h∈bt o->q h=p h):((bt u).countP p=(bt u).length->(bt o).countP q=(bt o).length)/\((bt u).countP p=0->(bt o).countP q=0):=by
 refine ⟨fun h=>?_,fun h=>?_⟩
 .rw[Mi] at h ⊢;exact fun x a=>by rw[b x a];exact h x (K.mem a)
 .rw[List.countP_eq_zero] at h ⊢;exact fun x a=>by rw[b x a];exact h x (K.mem a)
theorem Nw.pos:0<(bt u).length/\0<(bt o).length:=⟨List.length_pos_iff.2 K.uX,List.length_pos_iff.2 K.uW⟩
theorem Nw.Mj {i:Nat}(hi:i<u.av.length):∃a b,jW u (i:Int)=some (a,0)/\jW o (i:Int)=some (b,0)/\(a=0\/a=b):=by
 have hu:=Em K.fu K.cu (List.getElem?_eq_getElem hi);have c:=Em K.fo K.co (List.getElem?_eq_getElem (by rw[K.len];exact hi:i<o.av.length));rw[K.eu] at hu;rw[K.ne] at c;refine ⟨_,_,hu,c,?_⟩;obtain ⟨c1,c2⟩:=K.count (p:=fun l=>dw u (cA u i (l[i]?.getD 0))) (q:=fun l=>dw o (cA o i (l[i]?.getD 0))) fun h _=>by rw[K.rG hi,K.uU]
 exact Er c1 c2 K.pos.1 K.pos.2
theorem Nw.Mk {h:List Int}:kU o h=kU u h:=by
 unfold kU;rw[K.len,Bool.eq_iff_iff,List.all_eq_true,List.all_eq_true];constructor
 .intro a j b;have:=a j b
  rwa [K.rG (by simpa using b),K.uU] at this
 .intro a j b;have:=a j b
  rwa [K.rG (by simpa using b),K.uU]
theorem Nw.Good:∃a b,jo u=some (a,0)/\jo o=some (b,0)/\(a=0\/a=b):=by
 have hu:=C0 K.fu K.cu;have c:=C0 K.fo K.co;rw[K.eu] at hu;rw[K.ne] at c;refine ⟨_,_,hu,c,?_⟩;obtain ⟨c1,c2⟩:=K.count (p:=kU u) (q:=kU o) fun h _=>K.Mk;exact Er c1 c2 K.pos.1 K.pos.2
theorem Nw.aW {i:Nat}(hi:i<u.av.length):∃l k,jX u (i:Int)=some (l,0)/\jX o (i:Int)=some (k,0)/\∀n,n∈k->n∈l:=by
 have e1:u.av[i]?=some u.av[i]:=List.getElem?_eq_getElem hi;have e2:o.av[i]?=some (o.av[i]'(by rw[K.len];exact hi)):=List.getElem?_eq_getElem _;have hu:=uS K.fu K.cu e1;have a:=uS K.fo K.co e2;rw[K.eu] at hu;rw[K.ne] at a;exact ⟨_,_,hu,a,fun n b=>K.pz e2 e1 b⟩
theorem Nw.Ml:∃a e b f,jq u=some (a,e,0)/\jq o=some (b,f,0)/\(Sm e 300000000 800000/\Lw e)/\(Sm f 300000000 800000/\Lw f)/\bF e f=false:=by
 rcases En K.fu K.cu with ⟨c,-⟩|⟨-,s,hs,W⟩
 .rw[K.eu] at c;cases c
 rcases En K.fo K.co with ⟨c,-⟩|⟨-,t,ht,V⟩
 .rw[K.ne] at c;cases c
 have l:∀i m,(∃e,u.av[i]?=some e/\m∈c7 u i e)->Bd (cA u i m):=fun i m ⟨e,d,g⟩=>by rw[pq d];exact iU K.fu d g
 have w:∀i m,(∃e,o.av[i]?=some e/\m∈c7 o i e)->Bd (cA o i m):=fun i m ⟨e,d,g⟩=>by rw[pq d];exact iU K.fo d g
 refine ⟨_,_,_,_,hs,ht,zE K.fu l W,zE K.fo w V,?_⟩;rcases V with ⟨v1,v2,p⟩|⟨j,n,⟨e,he,h⟩,v2,p,v4,x⟩
 .rw[v2];rcases W with ⟨w1,w2,w3⟩|⟨i,m,w1,w2,w3,w4,q⟩
  .rw[w2];exact ij _
  .have h:=I1 K.fu (l i m w1);rw[w3];unfold bF;simp only[Int.mul_one,Int.zero_mul,decide_eq_false_iff_not,Int.not_lt];exact h
 .have k:j<u.av.length:=by rw[<-K.len];exact (List.getElem?_eq_some_iff.1 he).1
  have e1:u.av[j]?=some u.av[j]:=List.getElem?_eq_getElem k;have r:dw u (cA u j n)=true:=by rw[<-K.rG k,<-K.uU];exact v4
  have v:=K.pz he e1 h;rw[p,K.sh,K.rG k];rcases W with ⟨w1,w2,w3⟩|⟨i,m,w1,w2,w3,w4,q⟩
  .have:=w3 j n ⟨_,e1,v⟩;rw[r] at this;cases this
  .exact (q j n ⟨_,e1,v⟩ r).1
end
theorem Es:∀(l:List an) (i:Nat) (a:an),(∀x,x∈a::l->0<x.den)->foldI (fun _ y st=>gj st y) i l a∈a::l/\∀y,y∈a::l->bF y (foldI (fun _ y st=>gj st y) i l a)=false
 |[],i,a,h=>⟨List.mem_singleton.2 rfl,fun y d=>by rw[List.mem_singleton.1 d];exact ij _⟩
 |b::l,i,a,h=>by
  have n:=h a (by simp)
  have hb:=h b (by simp)
  unfold foldI
  have hm:gj a b=a\/gj a b=b:=by unfold gj;cases bF b a<;>simp
  have hd:0<(gj a b).den:=by rcases hm with e|e<;>rw[e]<;>assumption
  obtain ⟨g,j⟩:=Es l (i+1) (gj a b) fun x f=>by
   rcases List.mem_cons.1 f with rfl|f
   .exact hd
   .exact h x (by simp[f])
  have k:0<(foldI (fun _ y st=>gj st y) (i+1) l (gj a b)).den:=by
   rcases List.mem_cons.1 g with e|e
   .rw[e];exact hd
   .exact h _ (by simp[e])
  refine ⟨?_,fun y d=>?_⟩
  .rcases List.mem_cons.1 g with e|e
   .rw[e];rcases hm with e|e<;>rw[e]<;>simp
   .simp[e]
  .have m:=j _ (List.mem_cons_self ..)
   rcases List.mem_cons.1 d with rfl|d
   .refine oL n hd k ?_ m
    unfold gj
    cases c:bF b y
    .exact ij _
    .exact yp c
   rcases List.mem_cons.1 d with rfl|d
   .refine oL hb hd k ?_ m
    unfold gj
    cases c:bF y a
    .exact c
    .exact ij _
   .exact j y (by simp[d])
theorem Et:∀(l:List an) (i:Nat) (a:an),(∀x,x∈a::l->0<x.den)->foldI (fun _ y st=>cp st y) i l a∈a::l/\∀y,y∈a::l->bF (foldI (fun _ y st=>cp st y) i l a) y=false
 |[],i,a,h=>⟨List.mem_singleton.2 rfl,fun y d=>by rw[List.mem_singleton.1 d];exact ij _⟩
 |b::l,i,a,h=>by
  have n:=h a (by simp)
  have hb:=h b (by simp)
  unfold foldI
  have hm:cp a b=a\/cp a b=b:=by unfold cp;cases bF a b<;>simp
  have hd:0<(cp a b).den:=by rcases hm with e|e<;>rw[e]<;>assumption
  obtain ⟨g,j⟩:=Et l (i+1) (cp a b) fun x f=>by
   rcases List.mem_cons.1 f with rfl|f
   .exact hd
   .exact h x (by simp[f])
  have k:0<(foldI (fun _ y st=>cp st y) (i+1) l (cp a b)).den:=by
   rcases List.mem_cons.1 g with e|e
   .rw[e];exact hd
   .exact h _ (by simp[e])
  refine ⟨?_,fun y d=>?_⟩
  .rcases List.mem_cons.1 g with e|e
   .rw[e];rcases hm with e|e<;>rw[e]<;>simp
   .simp[e]
  .have m:=j _ (List.mem_cons_self ..)
   rcases List.mem_cons.1 d with rfl|d
   .refine oL k hd n m ?_
    unfold cp
    cases c:bF y b
    .exact ij _
    .exact yp c
   rcases List.mem_cons.1 d with rfl|d
   .refine oL k hd hb m ?_
    unfold cp
    cases c:bF a y
    .exact c
    .exact ij _
   .exact j y (by simp[d])
theorem Eu {u:aj}(F:Fit u)(h:dH u=some 0){i:Nat}{e:bL}(he:u.av[i]?=some e)(hs:(bt u).isEmpty=false):
  ∃p q,jY u (i:Int)=some (p,q,0)/\(∃n,n∈c7 u i e/\p=gG u ⟨e.back,n⟩)/\(∃n,n∈c7 u i e/\q=gG u ⟨e.back,n⟩)/\∀n,n∈c7 u i e->bF (gG u ⟨e.back,n⟩) p=false/\bF q (gG u ⟨e.back,n⟩)=false:=by
 obtain ⟨a,l,c,j⟩:=L8 F h he hs
 have hd:∀x,x∈a::l->0<x.den:=fun x d=>by
  rw[<-c,List.mem_map] at d
  obtain ⟨n,b,rfl⟩:=d
  exact (pg F (iU F he b)).den.1
 obtain ⟨f,p2⟩:=Es l 0 a hd
 obtain ⟨g,k⟩:=Et l 0 a hd
 refine ⟨_,_,j,?_,?_,fun n b=>?_⟩
 .rw[<-c,List.mem_map] at f
  obtain ⟨n,b,e⟩:=f
  exact ⟨n,b,e.symm⟩
 .rw[<-c,List.mem_map] at g
  obtain ⟨n,b,e⟩:=g
  exact ⟨n,b,e.symm⟩
 .have:gG u ⟨e.back,n⟩∈a::l:=by rw[<-c];exact List.mem_map.2 ⟨n,b,rfl⟩
  exact ⟨p2 _ this,k _ this⟩
section
variable {u o : aj} (K : Nw u o)
include K
theorem Nw.Mm {i:Nat}(hi:i<u.av.length):∃p q x y,jY u (i:Int)=some (p,q,0)/\jY o (i:Int)=some (x,y,0)/\
  (SR p/\SR q/\SR x/\SR y)/\bF x p=false/\bF q x=false/\bF y p=false/\bF q y=false:=by
 have e1:u.av[i]?=some u.av[i]:=List.getElem?_eq_getElem hi
 have e2:o.av[i]?=some (o.av[i]'(by rw[K.len];exact hi)):=List.getElem?_eq_getElem _
 obtain ⟨p,q,g,⟨n1,h,r1⟩,⟨n2,j,r2⟩,a⟩:=Eu K.fu K.cu e1 K.eu
 obtain ⟨x,y,k,⟨n3,b,r3⟩,⟨f,c,e⟩,-⟩:=Eu K.fo K.co e2 K.ne
 obtain ⟨d,hd,hb⟩:=K.back i _ e2
 rw[e1] at hd
 have hd:=Option.some.inj hd
 refine ⟨p,q,x,y,g,k,⟨?_,?_,?_,?_⟩,?_,?_,?_,?_⟩
 .rw[r1];exact pg K.fu (iU K.fu e1 h)
 .rw[r2];exact pg K.fu (iU K.fu e1 j)
 .rw[r3];exact pg K.fo (iU K.fo e2 b)
 .rw[e];exact pg K.fo (iU K.fo e2 c)
 .rw[r3,K.uV,<-hb,<-hd];exact (a n3 (K.pz e2 e1 b)).1
 .rw[r3,K.uV,<-hb,<-hd];exact (a n3 (K.pz e2 e1 b)).2
 .rw[e,K.uV,<-hb,<-hd];exact (a f (K.pz e2 e1 c)).1
 .rw[e,K.uV,<-hb,<-hd];exact (a f (K.pz e2 e1 c)).2
end
theorem uY {α β:Type}{f g:α->List β}(h:∀n,(f n).Sublist (g n)):∀{s t:List α},s.Sublist t->(s.flatMap f).Sublist (t.flatMap g)
 |_,_,.slnil=>.slnil
 |_,_,.cons a hs=>by rw[List.flatMap_cons];exact (uY h hs).trans (List.sublist_append_right ..)
 |_,_,.cons_cons a hs=>by rw[List.flatMap_cons,List.flatMap_cons];exact (h a).append (uY h hs)
theorem Ev:∀{S:List (List Int)} {i:Nat} {s t:List Int},S[i]?=some s->t.Sublist s->(pL (S.set i t)).Sublist (pL S)
 |[],i,s,t,h,_=>by simp at h
 |a::r,0,s,t,h,hs=>by
  have:a=s:=by simpa using h
  subst this
  show (t.flatMap fun n=>(pL r).map (n::·)).Sublist (a.flatMap fun n=>(pL r).map (n::·))
  exact uY (fun n=>List.Sublist.refl _) hs
 |a::r,i+1,s,t,h,hs=>by
  show (a.flatMap fun n=>(pL (r.set i t)).map (n::·)).Sublist (a.flatMap fun n=>(pL r).map (n::·))
  exact uY (fun n=>(Ev (S:=r) (by simpa using h) hs).map _) (List.Sublist.refl _)
theorem Mn (lo hi:Int):(cB ⟨lo+1,hi⟩).Sublist (cB ⟨lo,hi⟩):=by
 by_cases h:lo<=hi
 .rw[CG h];exact List.sublist_cons_self ..
 .rw[yG h,yG (by omega)];exact List.Sublist.refl _
theorem Mo (lo hi:Int):(cB ⟨lo,hi⟩).Sublist (cB ⟨lo,hi+1⟩):=by
 unfold cB;simp only;by_cases h:lo<=hi+1
 .rw[show (hi+1 - lo+1).toNat=(hi - lo+1).toNat+1 by omega,List.range_succ,List.map_append];exact List.sublist_append_left ..
 .rw[show (hi+1 - lo+1).toNat=0 by omega,show (hi - lo+1).toNat=0 by omega];exact List.Sublist.refl _
theorem Mq {b c:cj}(f:c.low<=b.low)(g:b.high<=c.high):(cB b).Sublist (cB c):=by
 have k1:∀k:Nat,(cB ⟨c.low+k,b.high⟩).Sublist (cB ⟨c.low,b.high⟩):=by
  intro k
  induction k with
  |zero=>simp
  |succ k ih=>
   refine List.Sublist.trans ?_ ih;rw[show c.low+((k+1:Nat):Int)=c.low+k+1 by omega];exact Mn _ _
 have e:∀k:Nat,(cB ⟨c.low,b.high⟩).Sublist (cB ⟨c.low,b.high+k⟩):=by
  intro k
  induction k with
  |zero=>simp
  |succ k ih=>
   refine ih.trans ?_;rw[show b.high+((k+1:Nat):Int)=b.high+k+1 by omega];exact Mo _ _
 have a:=k1 (b.low - c.low).toNat;have d:=e (c.high - b.high).toNat;rw[show c.low+((b.low - c.low).toNat:Int)=b.low by omega] at a;rw[show b.high+((c.high - b.high).toNat:Int)=c.high by omega] at d;exact a.trans d
theorem Mr {u:aj}(F:Fit u)(h:dH u=some 0){i:Nat}{e:bL}(he:u.av[i]?=some e){b:cj}(f:e.high.low<=b.low)(d:b.low<=b.high)(g:b.high<=e.high.high)
  (k:(bt (mb u i e b)).isEmpty=false):Nw u (mb u i e b):=by
 obtain ⟨c1,c2,c3,c4,l⟩:=F.aR i e he
 have G:=zF he b F (by omega) d (by omega) (by omega)
 have hs:(bt (mb u i e b)).Sublist (bt u):=by
  rw[uj F,uj G,Mg he b]
  exact Ev (nt he) ((Mq f g).filter _)
 refine ⟨F,G,h,Ep he b F h (by omega) d (by omega) (by omega),by show (u.av.set i _).length=_;rw[List.length_set],fun j x a=>?_,fun s=>rfl,fun s=>rfl,fun s=>rfl,.inl hs,hs.length_le,k⟩
 rw[rF he b] at a
 by_cases c:j=i
 .rw[if_pos c] at a
  cases a
  exact ⟨e,by rw[c];exact he,rfl⟩
 .rw[if_neg c] at a
  exact ⟨x,a,rfl⟩
theorem Ms {u:aj}(F:Fit u)(h:dH u=some 0){t:bG}(G:Fit (wt u (u.told++[t])))(a:dH (wt u (u.told++[t]))=some 0)
  (b:(bt (wt u (u.told++[t]))).isEmpty=false):Nw u (wt u (u.told++[t])):=by
 have hs:(bt (wt u (u.told++[t]))).Sublist (bt u):=by rw[Jk];exact List.filter_sublist
 exact ⟨F,G,h,a,rfl,fun j x c=>⟨x,c,rfl⟩,fun s=>rfl,fun s=>rfl,fun s=>rfl,.inl hs,hs.length_le,b⟩
theorem Mt {o:aj}(L:fA o):∃c,dH o=some c/\fZ o=some c/\ng o=some (if c=0 then (if (bt o).isEmpty then (ga,9) else (o,0)) else (ga,c)):=by
 obtain ⟨c,d,b⟩:=bars L;refine ⟨c,d,b,?_⟩;unfold ng;by_cases a:c=0
 .subst a;rw[yH (oJ o L.e d) b,if_pos rfl];simp only[ag];cases (bt o).isEmpty<;>rfl
 .rw[CM b a,if_neg a];simp only[ag];rw[show (c != 0)=true by simpa using a];rfl
theorem Mv {u:aj}(L:fA u)(F:Fit u)(h:dH u=some 0)(t:bG):∃c,dH (wt u (u.told++[t]))=some c/\fZ (wt u (u.told++[t]))=some c/\jr u t=some (wt u (u.told++[t]))/\
  lK u t=some (if c=0 then (if (bt (wt u (u.told++[t]))).isEmpty then (ga,9) else (wt u (u.told++[t]),0)) else (ga,c)):=by
 have k:=F.told
 obtain ⟨c,k1,d,f⟩:=Mt (o:=wt u (u.told++[t])) ⟨L.e,L.p,L.y,by show (u.told++[t]).length<=20;simp;omega⟩
 obtain ⟨m,a,g⟩:=bars L
 rw[h] at a
 obtain rfl:=Option.some.inj a
 obtain ⟨r,i,j,-⟩:=Jb L t
 have b:jr u t=some (wt u (u.told++[t])):=by
  unfold jr
  simp only[iM (l:=([]:List bG)) (xs:=u.told) (by simp;omega),List.nil_append,ag,iM (l:=u.told) (xs:=[t]) (by simp;omega)]
  rfl
 refine ⟨c,k1,d,b,?_⟩
 rw[i,<-j]
 unfold yc
 rw[g,b]
 simp only[ag,bne_self_eq_false,cond_false]
 rw[f]
theorem alike {α:Type}(l:List α)(b:l.length<=1000){f:Bool×Int->Option (Fl (Bool×Int) Bool)}(h:∀(i:Nat) x s,l[i]?=some x->i<l.length->f (s,(i:Int))=some (.nx (s,IntKind.i64.wrap ((i:Int)+1))))(c:∀s,f (s,(l.length:Int))=some (.bk (s,(l.length:Int))))(s:Bool):
  aZ f fu (s,0)=some (.nx (s,(l.length:Int))):=by
 have:=tZ (t:=fun _ _=>(none:Option Bool)) l b (f:=f) (fun i x s a=>by
  have d:=(List.getElem?_eq_some_iff.1 a).1
  rw[h i x s a d,cQ (by omega)]
  rfl) c s
 rw[zB] at this
 exact this
theorem Ew {u:aj}(L:fA u):hU u u=some true:=by
 unfold hU;simp only[bne_self_eq_false,beq_self_eq_true,Bool.and_self,Bool.not_true,cond_false]
 rw[alike u.az (by have:=L.e;omega) (fun i x s a b=>by
  unfold qM;rw[show decide ((s,(i:Int)).2<(u.az.length:Int))=true by simp;omega]
  simp only[cond_true,fc a,ag,beq_self_eq_true,Bool.and_self,Bool.not_true,cond_false]) (fun s=>by
  unfold qM;rw[show decide ((s,(u.az.length:Int)).2<(u.az.length:Int))=false by simp]
  rfl)]
 simp only[ag,aF]
 rw[alike u.props (by have:=L.p;omega) (fun i x s a b=>by
  unfold x5;rw[show decide ((s,(i:Int)).2<(u.props.length:Int))=true by simp;omega]
  simp only[cond_true,fc a,ag,beq_self_eq_true,Bool.and_self,Bool.not_true,cond_false]) (fun s=>by
  unfold x5;rw[show decide ((s,(u.props.length:Int)).2<(u.props.length:Int))=false by simp]
  rfl)]
 simp only[ag,aF]
 rw[alike u.av (by have:=L.y;omega) (fun i x s a b=>by
  unfold x6;rw[show decide ((s,(i:Int)).2<(u.av.length:Int))=true by simp;omega]
  simp only[cond_true,fc a,ag,beq_self_eq_true,Bool.and_self,Bool.not_true,cond_false]) (fun s=>by
  unfold x6;rw[show decide ((s,(u.av.length:Int)).2<(u.av.length:Int))=false by simp]
  rfl)]
 simp only[ag,aF]
 rw[alike u.told (by have:=L.t;omega) (fun i x s a b=>by
  unfold x7;rw[show decide ((s,(i:Int)).2<(u.told.length:Int))=true by simp;omega]
  simp only[cond_true,fc a,ag,beq_self_eq_true,Bool.and_self,Bool.not_true,cond_false]) (fun s=>by
  unfold x7;rw[show decide ((s,(u.told.length:Int)).2<(u.told.length:Int))=false by simp]
  rfl)]
section
variable {u : aj} (F : Fit u) (aG : bt u ≠ [])
include F aG
theorem Ey {i:Nat}{e:bL}(he:u.av[i]?=some e):1<=(c7 u i e).length/\(c7 u i e).length<=3:=by
 obtain ⟨c,T,d,a,b⟩:=rm F aG he;rw[b,List.length_map];exact uk a
end
theorem Ez {e:an}{A B:Nat}(h:Sm e A B):decide (0<e.den)=true:=decide_eq_true h.den.1
theorem EA {u o:aj}(K:Nw u o){i:Nat}(hi:i<u.av.length):oI u o (i:Int)=some true:=by
 have s1:=CV K.fu K.cu;have s2:=CV K.fo K.co;obtain ⟨l,k,a,b,h⟩:=K.aW hi;obtain ⟨p,q,x,y,j,b2,⟨r1,r2,r3,m⟩,b3,b4,b5,n⟩:=K.Mm hi;obtain ⟨c,A,w1,w2,w3⟩:=K.Mj hi;obtain ⟨d,B,r,s,g⟩:=K.Good;obtain ⟨a1,e,a2,f,c1,c2,⟨c3,-⟩,⟨c4,-⟩,t⟩:=K.Ml;have e1:u.av[i]?=some u.av[i]:=List.getElem?_eq_getElem hi;have e2:o.av[i]?=some (o.av[i]'(by rw[K.len];exact hi)):=List.getElem?_eq_getElem _;have w:l.length<=1000:=by
  have v:=uS K.fu K.cu e1;rw[K.eu,if_neg (by decide),a] at v;have:=(Ey K.fu K.uX e1).2;rw[<-(Prod.mk.inj (Option.some.inj v)).1] at this;omega
 have z:k.length<=1000:=by
  have v:=uS K.fo K.co e2;rw[K.ne,if_neg (by decide),b] at v;have:=(Ey K.fo K.uW e2).2;rw[<-(Prod.mk.inj (Option.some.inj v)).1] at this;omega
 have t1:bQ ((bt o).length:Int) 1 ((bt u).length:Int)=true:=Jm (by have:=K.pos.2;omega) (by have:=K.le;omega);have t2:=L3 z w h;have t3:=Ek r3 r1 r2 (by decide);have t4:=Ek m r1 r2 (by decide);rw[b3,b4] at t3;rw[b5,n] at t4;have t5:fN e f=some false:=(kQ c3 c4 (by decide) (by decide)).1.trans (congrArg some t);have d1:=Ez c3;have d2:=Ez c4;unfold oI;simp only[s1,s2,a,b,j,b2,ag,bne_self_eq_false,cond_false,e9,t1,Bool.not_true,t2,t3,t4,Bool.not_false,Bool.and_self,w1,w2,r,s,g,c1,c2,beq_self_eq_true,cond_true,d1,d2,t5];rcases w3 with rfl|rfl<;>rcases g with rfl|rfl
 .simp
 .cases (d==0)<;>simp
 .cases (c==0)<;>simp
 .cases (c==0)<;>cases (d==0)<;>simp
theorem Mw {u:aj}{t:bG}(L:fA (wt u (u.told++[t])))(h:dH (wt u (u.told++[t]))=some 0):Fit (wt u (u.told++[t])):=oJ _ L.e h
theorem Mx (u:aj)(t:bG)(a:Int)(C:0<=a/\a<=255)(b:Int)(hb:0<=b/\b<=255)(x:cj):uQ u t a b x=some true:=by
 unfold uQ;rcases LX u with k|⟨k,L,h,F⟩
 .simp only[k,ag,Bool.not_false,cond_true,pe]
 have Q:=F.av;have pick:∀c:Int,0<=c/\c<=255->∃i:Nat,i<u.av.length/\iB (IntKind.i64.wrap c) (u.av.length:Int)=some (i:Int):=fun c f=>by
  obtain ⟨k1,r⟩:=LZ (a:=c) (b:=u.av.length) f.1 (by omega);refine ⟨(c.tmod u.av.length).toNat,by omega,?_⟩;rw[cQ (by omega),LY (by omega)];congr 1;omega
 obtain ⟨i,hi,D⟩:=pick a C;obtain ⟨j,s,E⟩:=pick b hb;obtain ⟨e,he⟩:∃e,u.av[i]?=some e:=⟨_,List.getElem?_eq_getElem hi⟩
 obtain ⟨c1,c2,c3,c4,R⟩:=F.aR i e he;have S:=F.told;have v:fA (wt u (u.told++[t])):=⟨L.e,L.p,L.y,by show (u.told++[t]).length<=20;simp;omega⟩
 have n:∀c:Int,hU (ga,c).1 ⟨0,0,(⟨0,0⟩:an),[],[],[],[]⟩=some true:=fun _=>El;have G:hU ga ⟨0,0,(⟨0,0⟩:an),[],[],[],[]⟩=some true:=El;have o:l6 u x (i:Int) (j:Int)=some true:=by
  have d:=Mh L F h he x;unfold l6;cases q:gz x 0 60 with
  |false=>
   rw[q,if_neg (by decide)] at d;simp only[d,ag,n,pe];rfl
  |true=>
   rw[q,if_pos rfl] at d;simp only at d;by_cases w:(if x.high<e.high.high then x.high else e.high.high)<(if e.high.low<x.low then x.low else e.high.low)
   .rw[if_pos w] at d;simp only[d,ag,n,pe];rfl
   .rw[if_neg w] at d;have z:=q;unfold gz at z;simp only[Bool.and_eq_true,decide_eq_true_eq] at z;have H:m4 e.high x=some ⟨if e.high.low<x.low then x.low else e.high.low,if x.high<e.high.high then x.high else e.high.high⟩:=rfl;have I:e.high.low<=(if e.high.low<x.low then x.low else e.high.low):=by split<;>omega
    have b2:(if x.high<e.high.high then x.high else e.high.high)<=e.high.high:=by split<;>omega
    generalize (if x.high<e.high.high then x.high else e.high.high)=g at*;generalize (if e.high.low<x.low then x.low else e.high.low)=m at*;cases hs:(bt (mb u i e ⟨m,g⟩)).isEmpty with
    |true=>
     rw[hs,if_pos rfl] at d;simp only[d,ag,n,pe];rfl
    |false=>
     rw[hs,if_neg (by decide)] at d;have K:=Mr F h he (b:=⟨m,g⟩) I (by simp only;omega) b2 hs;have A:fA (mb u i e ⟨m,g⟩):=⟨L.e,L.p,by show (u.av.set i _).length<=20;rw[List.length_set];omega,L.t⟩
     have hm:lO u (i:Int) ⟨m,g⟩=some (mb u i e ⟨m,g⟩):=by
      unfold lO;simp only[ag,iM (l:=([]:List bL)) (xs:=u.av) (by simp;omega),List.nil_append,fc he,Int.toNat_natCast];rfl
     obtain ⟨T,B,J⟩:=bars A;rw[K.co] at B;obtain rfl:=Option.some.inj B;simp only[d,ag,bne_self_eq_false,cond_false,fc he,H,hm,Ew A,cond_true,J,beq_self_eq_true,EA K s,pe]
 obtain ⟨c,k1,r,M,N⟩:=Mv L F h t;simp only[k,ag,Bool.not_true,cond_false,D,E,N,M];by_cases f:c=0
 .subst f;rw[if_pos rfl];cases hs:(bt (wt u (u.told++[t]))).isEmpty with
  |true=>
   rw[if_pos rfl];simp only[n,Bool.not_true,cond_false,o];rfl
  |false=>
   rw[if_neg (by decide)];have K:=Ms F h (Mw v k1) k1 hs;simp only[beq_self_eq_true,cond_true,Ew v,Bool.not_true,cond_false,r,bne_self_eq_false,EA K s,o]
 .rw[if_neg f];have O:(c==0)=false:=by rw[beq_eq_false_iff_ne];exact f
  have P:(c != 0)=true:=by rw[bne_iff_ne];exact f
  simp only[O,P,cond_false,cond_true,G,Bool.not_true,o]
end Go.Proofs.YtghbphimkgamkaaGreatDoor
end

/- A part of the proof: QR14. -/
import Derived.Test.YtbpddfapodiemaaGreatDoorQR13
set_option linter.all false
section
namespace Go.Proofs.YtbpddfapodiemaaGreatDoor
open Go Go.Sep Go.Proofs
set_option maxRecDepth 100000
set_option maxHeartbeats 4000000
theorem M1 {u:an}(h:nW u=some false):si u:=by
 unfold nW at h;rcases jE h with ⟨a,h⟩|⟨a,h⟩
 .cases h
 rcases jE h with ⟨b,h⟩|⟨b,h⟩
 .cases h
 rcases jE h with ⟨c,h⟩|⟨c,h⟩
 .cases h
 have d:=Option.some.inj h;simp only[decide_eq_false_iff_not] at a b c d;exact ⟨aa,aa,aa,aa⟩
theorem M3 (u:an):∃b,nW u=some b:=by
 unfold nW;cases decide (20<(u.aE.length:Int))<;>cases decide (20<(u.props.length:Int))<;>cases decide (20<(u.aF.length:Int))<;>exact ⟨_,rfl⟩
theorem M4 (u:an):pF u=some false\/(pF u=some true/\si u/\fe u=some 0/\Fit u):=by
 unfold pF;obtain ⟨b,hb⟩:=M3 u;rw[hb];cases b with
 |true=>exact .inl rfl
 |false=>
  have L:=M1 hb;obtain ⟨c,a,d⟩:=bars L;simp only[ai,Bool.not_false,cond_true,d];cases hc:(c==0) with
  |false=>exact .inl rfl
  |true=>
   have e:c=0:=by simpa using hc
   subst e;exact .inr ⟨rfl,L,a,Jo u L.e a⟩
theorem EI {a b:Int}(hb:0<b):iZ a b=some (a.tmod b):=by
 unfold iZ;rw[if_neg aa]
theorem EJ {a b:Int}(c:0<=a)(hb:0<b):0<=a.tmod b/\a.tmod b<b:=⟨Int.tmod_nonneg _ c,Int.tmod_lt_of_pos _ hb⟩
theorem EK {a b:ax}{A B C D:Nat}(c:Sm a A B)(hb:Sm b C D):Sm (gF a b) (A*D+C*B) (B*D)/\∃n d,0<d/\gF a b=bX n d:=by
 have e:=dX c.num (show b.den.natAbs<=D by have:=hb.den;omega);have f:=dX hb.num (show a.den.natAbs<=B by have:=c.den;omega);have g:=dX (show a.den.natAbs<=B by have:=c.den;omega) (show b.den.natAbs<=D by have:=hb.den;omega);have h:0<a.den*b.den:=Int.mul_pos c.den.1 hb.den.1;have:=jO (a.num*b.den - b.num*a.den) (a.den*b.den).toNat aa;refine ⟨?_,_,_,aa,rfl⟩;unfold gF;exact ⟨Nat.le_trans this.num aa,this.den.1,by have:=this.den.2;omega⟩
section
variable {u:an}{s:bA}(F:Fit u)(hs:(1<=s.back/\s.back<=20)/\0<=s.high/\s.high<=60)
include F hs
theorem EL:Sm (ef u s).2 10000 100/\∃n d,0<d/\(ef u s).2=bX n d:=by
 obtain ⟨n,p,e,a,-⟩:=Kn F hs;have fp:=F.kG n p a;rw[e];exact ⟨CH u F s hs n p a,_,_,aa,rfl⟩
theorem M5:Sm (gF ⟨u.bU,1⟩ (ef u s).2) 16000 100/\∃n d,0<d/\gF ⟨u.bU,1⟩ (ef u s).2=bX n d:=by
 obtain ⟨a,b⟩:=EK (rY F hs) (EL F hs).1;exact ⟨a.mono aB aB,b⟩
end
abbrev Lw (x:ax):Prop:=∃n d,0<d/\x=bX n d
theorem Lw.more {a b:ax}(c:Lw a)(hb:Lw b):Lw (cJ a b):=by
 unfold cJ;cases bQ a b;exact c;exact hb
theorem EM:Lw ⟨0,1⟩:=⟨0,1,aB,aB⟩
section
variable {u:an}{s:bA}(F:Fit u)(hs:(1<=s.back/\s.back<=20)/\0<=s.high/\s.high<=60)
include F hs
theorem M6:Sm (oo u s) 10000 100:=by
 unfold oo;cases bQ (ef u s).2 ⟨u.bU,1⟩
 .exact (EL F hs).1
 .exact (rY F hs).mono aB aB
theorem vO:Sm (dU u s) 300000000 800000/\Lw (dU u s):=by
 obtain ⟨a,b⟩:=EK (M6 F hs) (Du F hs);unfold dU;refine ⟨?_,Lw.more b EM⟩;have z:Sm (⟨0,1⟩:ax) 300000000 800000:=⟨aB,aB,aB⟩
 have c:=a.mono (show _<=300000000 by decide) (show _<=800000 by decide);unfold cJ;cases bQ (gF (oo u s) (sr u s)) ⟨0,1⟩
 .exact c
 .exact z
end
def iy (u:an)(s:bA):ax:=gF ⟨u.bU,1⟩ (ef u s).2
def gK (a b:ax):ax:=cond (bQ b a) b a
section
variable {u:an}{s:bA}(F:Fit u)(hs:(1<=s.back/\s.back<=20)/\0<=s.high/\s.high<=60)
include F hs
theorem M7:nB u s=some (iy u s):=by
 obtain ⟨r,k1,a⟩:=CN F hs;obtain ⟨c,-,e2,d,b⟩:=pR F hs;unfold uN at a;rw[b] at a;simp only[ai,zi (su F hs) (rZ F hs)] at a;rw[k1,<-a];rfl
theorem sK:SR (iy u s):=(M5 F hs).1.mono aB aB
end
section
variable {u:an}(F:Fit u)(h:fe u = some 0){i:Nat}{e:cq}(he:u.aF[i]? = some e)
include F h he
theorem z9:fO u [fA (i:Int)]=some (u,0):=by
 have hi:i<u.aF.length:=(List.getElem?_eq_some_iff.1 he).1;rw[yR h (JO u i),(JP F).2 ⟨aa,aa⟩];rfl
theorem M8:nL u (i:Int)=some (if (bO u).isEmpty then ([],9) else (dx u i e,0)):=by
 unfold nL;rw[se F (z9 F h he)];cases hs:(bO u).isEmpty with
 |true=>rfl
 |false=>
  simp only[ai,Bool.false_eq_true,if_false,bne_self_eq_false,cond_false];rw[zf F (by intro c;rw[c] at hs;cases hs) he]
omit h in
theorem jZ {n:Int}(a:n∈dx u i e):(1<=e.back/\e.back<=20)/\0<=n/\n<=60:=by
 obtain ⟨c1,c2,c3,c4,b⟩:=F.aY _ _ he;have:=y3.1 (List.mem_filter.1 a).1;exact ⟨c1,aa,aa⟩
theorem EN:mB u (i:Int)=some (if (bO u).isEmpty then (0,9) else (jj ((bO u).countP fun l=>c8 u (cI u i (l[i]?.getD 0))) (bO u).length,0)):=by
 have c:=(pU F).2;have hi:i<u.aF.length:=(List.getElem?_eq_some_iff.1 he).1;have d:=F.aF;unfold mB;rw[se F (z9 F h he)];simp only[ai];cases hs:(bO u).isEmpty with
 |true=>rfl
 |false=>
  simp only[Bool.false_eq_true,if_false];rw[show ((0:Int) != 0)=false by decide];simp only[cond_false];have one:∀y,y∈bO u->kq (cG y) ⟨u,(bO u).map cG⟩ (i:Int)=some (c8 u (cI u i (y[i]?.getD 0))):=fun y a=>by
   obtain ⟨m,hm,hs,hb⟩:=vg F he a;have hg:bt.get (cG y) (i:Int)=some m:=r8 aa aa (by simpa using hm);unfold kq ig;simp only[hg,ai,gd he,(oe F (s:=⟨e.back,m⟩) hb).1,hs]
  have key:∀x,x∈(bO u).map cG->kq x ⟨u,(bO u).map cG⟩ (i:Int)=some ((kq x ⟨u,(bO u).map cG⟩ (i:Int)).getD false):=fun x b=>by
   rw[List.mem_map] at b;obtain ⟨y,a,rfl⟩:=b;rw[one y a];rfl
  rw[Dx (k:=⟨u,(bO u).map cG⟩) (g:=fun x=>(kq x ⟨u,(bO u).map cG⟩ (i:Int)).getD false) (by simp;omega) key];simp only[List.countP_map,List.length_map];have e:(bO u).countP ((fun x=>(kq x ⟨u,(bO u).map cG⟩ (i:Int)).getD false) ∘ cG)=(bO u).countP (fun l=>c8 u (cI u i (l[i]?.getD 0))):=List.countP_congr fun y a=>by
   simp only[Function.comp];rw[one y a];rfl
  rw[e]
omit h in
theorem M9 (aL:bO u≠[]):bR (pe (i:Int) (⟨u,(bO u).map cG⟩,0)) 0 (dx u i e) []=some (.nx ((dx u i e).map fun n=>iy u ⟨e.back,n⟩)):=by
 have hlen:(dx u i e).length<=3:=by
  obtain ⟨c,T,h,b,d⟩:=sk F aL he;rw[d,List.length_map];exact (vj b).2
 have key:=iS (f:=pe (i:Int) (⟨u,(bO u).map cG⟩,0)) (g:=fun _ n (s:List ax)=>s++(fun n:Int=>[iy u ⟨e.back,n⟩]) n) (I:=fun j s=>s.length<=j/\j<=3) (dx u i e) 0 [] ⟨au,aa⟩
  (fun j n s a k=>by
   have l:j<(dx u i e).length:=(List.getElem?_eq_some_iff.1 a).1;have hb:=jZ F he (List.mem_of_getElem? a);refine ⟨?_,?_⟩
   .unfold pe ig;simp only[ai,gd he,M7 F (s:=⟨e.back,n⟩) hb];unfold de;rw[if_pos (by simp;omega)]
   .simp only[List.length_append,List.length_singleton];omega)
 rw[key.1,sd,List.nil_append,ze]
theorem Na:∀(l:List ax) (a:ax),SR a->(∀x,x∈l->SR x)->gD eV a l=some (foldI (fun _ y st=>cJ st y) 0 l a):=fun l a d e=>by
 unfold gD
 rw[(iS (f:=lp eV) (ρ:=ax) (g:=fun _ y st=>cJ st y) (I:=fun _ st=>SR st) l 0 a d fun j x st h b=>by
  have c:=e x (List.mem_of_getElem? h)
  refine ⟨?_,lH b c⟩
  unfold lp
  simp only[(lG b c).2,ai]
  unfold cJ
  cases bQ st x<;>rfl).1]
 rfl
theorem Nb:∀(l:List ax) (a:ax),SR a->(∀x,x∈l->SR x)->gD nt a l=some (foldI (fun _ y st=>gK st y) 0 l a):=fun l a d e=>by
 unfold gD
 rw[(iS (f:=lp nt) (ρ:=ax) (g:=fun _ y st=>gK st y) (I:=fun _ st=>SR st) l 0 a d fun j x st h b=>by
  have c:=e x (List.mem_of_getElem? h)
  refine ⟨?_,by unfold gK;cases bQ x st;exact b;exact c⟩
  unfold lp nt
  simp only[(lG c b).2,ai]
  unfold gK
  cases bQ x st<;>rfl).1]
 rfl
theorem Nc (hs:(bO u).isEmpty=false):∃a l,(dx u i e).map (fun n=>iy u ⟨e.back,n⟩)=a::l/\nN u (i:Int)=some (foldI (fun _ y st=>gK st y) 0 l a,foldI (fun _ y st=>cJ st y) 0 l a,0):=by
 have aL:bO u≠[]:=by intro c;rw[c] at hs;cases hs
 unfold nN;rw[se F (z9 F h he),hs];simp only[ai,Bool.false_eq_true,if_false,bne_self_eq_false,cond_false];rw[zf F aL he];simp only[M9 F he aL,aJ];have b:∀x,x∈(dx u i e).map (fun n=>iy u ⟨e.back,n⟩)->SR x:=fun x d=>by
  rw[List.mem_map] at d;obtain ⟨n,j,rfl⟩:=d;exact sK F (jZ F he j)
 have f:(dx u i e).map (fun n=>iy u ⟨e.back,n⟩)≠[]:=by
  obtain ⟨c,T,m,g,k⟩:=sk F aL he;have:=(vj g).1;intro hc;have:=congrArg List.length hc;rw[List.length_map,k,List.length_map] at this;simp at this;rw[this] at g;revert g;decide
 revert b f;generalize (dx u i e).map (fun n=>iy u ⟨e.back,n⟩)=L;intro b f
 match L,f with
 |a::l,_=>
  have y:iF (a::l) 1 (((a::l).length:Nat):Int)=some l:=by
   unfold iF;rw[if_pos (by simp only[List.length_cons];omega)];simp
  simp only[show bD (a::l) 0=some a from rfl,y,Na F h he l a (b a au) (fun x d=>b x (by simp[d])),Nb F h he l a (b a au) (fun x d=>b x (by simp[d]))];exact ⟨a,l,rfl,rfl⟩
end
abbrev Bd (s:bA):Prop:=(1<=s.back/\s.back<=20)/\0<=s.high/\s.high<=60
def wG (u:an)(i:Nat)(n:Int)(st:Int×ax):Int×ax:=
 cond (c8 u (cI u i n)) (cond (bQ st.2 (dU u (cI u i n))) ((i:Int),dU u (cI u i n)) st) st
def Ws (u:an)(D:Nat->Int->Prop)(st:Int×ax):Prop:=
 (st.1= -1/\st.2=⟨0,1⟩/\∀i n,D i n->c8 u (cI u i n)=false)\/
 ∃j n,D j n/\st.1=(j:Nat)/\st.2=dU u (cI u j n)/\c8 u (cI u j n)=true/\
  ∀i m,D i m->c8 u (cI u i m)=true->bQ st.2 (dU u (cI u i m))=false/\(i<j->bQ (dU u (cI u i m)) st.2=true)
section
variable {u:an}(F:Fit u)
include F
theorem qm {s:bA}(hs:Bd s):0<(dU u s).den:=(vO F hs).1.den.1
theorem Nf {s:bA}(hs:Bd s)(h:c8 u s=true):bQ ⟨0,1⟩ (dU u s)=true:=by
 rw[zk F hs] at h;have:=F.num;have hd:=F.den;have b:=qm F hs;unfold bQ at*;simp only[decide_eq_true_eq,Int.zero_mul,Int.mul_one] at*;have c:0<=u.bq.num*(dU u s).den:=Int.mul_nonneg this.1 aa;have a:0<(dU u s).num*u.bq.den:=aa;exact Int.pos_of_mul_pos_left a aa
theorem Ng {k:Nat}{n:Int}{D:Nat->Int->Prop}(f:∀i m,D i m->i<=k/\Bd (cI u i m))(hb:Bd (cI u k n)){st:Int×ax}(W:Ws u D st):Ws u (fun i m=>D i m\/(i=k/\m=n)) (wG u k n st):=by
 unfold wG;cases hs:c8 u (cI u k n) with
 |false=>
  simp only[cond_false];rcases W with ⟨w1,w2,w3⟩|⟨j,m,w1,w2,w3,w4,e⟩
  .exact .inl ⟨w1,w2,fun i m h=>by rcases h with h|⟨rfl,rfl⟩;exact w3 i m h;exact hs⟩
  .exact .inr ⟨j,m,.inl w1,w2,w3,w4,fun i d h a=>by
    rcases h with h|⟨rfl,rfl⟩
    .exact e i d h a
    .rw[hs] at a;cases a⟩
 |true=>
  simp only[cond_true];have key:bQ st.2 (dU u (cI u k n))=true->(∀i m,D i m->c8 u (cI u i m)=true->bQ st.2 (dU u (cI u i m))=false)->0<st.2.den->Ws u (fun i m=>D i m\/(i=k/\m=n)) ((k:Int),dU u (cI u k n)):=fun b g l=>
   .inr ⟨k,n,.inr ⟨rfl,rfl⟩,rfl,rfl,hs,fun i m h a=>by
    rcases h with h|⟨rfl,rfl⟩
    .have hi:=f i m h;exact ⟨yT (qm F hi.2) l (qm F hb) (g i m h a) b,fun _=>zg (qm F hi.2) l (qm F hb) (g i m h a) b⟩
    .exact ⟨ji _,fun c=>absurd c aa⟩⟩
  rcases W with ⟨w1,w2,w3⟩|⟨j,m,w1,w2,w3,w4,e⟩
  .have b:bQ st.2 (dU u (cI u k n))=true:=by rw[w2];exact Nf F hb hs
   rw[b];refine key b (fun i m h a=>?_) (by rw[w2];decide);rw[w3 i m h] at a;cases a
  .cases b:bQ st.2 (dU u (cI u k n)) with
   |true=>exact key b (fun i d h a=>(e i d h a).1) (by rw[w3];exact qm F (f j m w1).2)
   |false=>
    refine .inr ⟨j,m,.inl w1,w2,w3,w4,fun i d h a=>?_⟩;rcases h with h|⟨rfl,rfl⟩
    .exact e i d h a
    .exact ⟨b,fun c=>absurd (f j m w1).1 aa⟩
omit F in
theorem vP {D E:Nat->Int->Prop}{st:Int×ax}(h:∀i m,D i m↔E i m)(W:Ws u D st):Ws u E st:=by
 have:D=E:=by funext i m;exact propext (h i m)
 rw[<-this];exact W
omit F in
theorem qn {i:Nat}{e:cq}(he:u.aF[i]?=some e)(n:Int):cI u i n=⟨e.back,n⟩:=by unfold cI;rw[he];rfl
def mR (u:an)(k:Nat)(i:Nat)(m:Int):Prop:=i<k/\∃e,u.aF[i]?=some e/\m∈dx u i e
theorem EO {st:Int×ax}{D:Nat->Int->Prop}(a:∀i m,D i m->Bd (cI u i m))(W:Ws u D st):Sm st.2 300000000 800000/\Lw st.2:=by
 rcases W with ⟨w1,w2,w3⟩|⟨j,m,w1,w2,w3,w4,b⟩
 .rw[w2];exact ⟨⟨aB,aB,aB⟩,EM⟩
 .rw[w3];exact vO F (a j m w1)
omit F in
theorem Nh {α:Type}{l:List α}{j:Nat}{x y:α}(h:l[j]?=some x):y∈l.take (j+1)↔y∈l.take j\/y=x:=by
 rw[List.take_add_one,h];simp
theorem Ni (aL:bO u≠[]){k:Nat}{e:cq}(he:u.aF[k]?=some e){st:Int×ax}(W:Ws u (mR u k) st):
  ∃l,bR (nM (⟨u,(bO u).map cG⟩,0) k) 0 (dx u k e) (st.1,st.2)=some (.nx l)/\Ws u (mR u (k+1)) l:=by
 have t:∀i m,mR u k i m->Bd (cI u i m):=fun i m h=>by
  obtain ⟨b,o,a,d⟩:=h
  rw[qn a];exact jZ F a d
 have key:=iS (f:=nM (⟨u,(bO u).map cG⟩,0) k) (ρ:=Int×ax×Int) (g:=fun _ n st=>wG u k n st) (I:=fun j st=>Ws u (fun i m=>mR u k i m\/(i=k/\m∈(dx u k e).take j)) st) (dx u k e) 0 st
  (vP (fun i m=>au) W)
  (fun j n st p q=>by
   have hm:=List.mem_of_getElem? p
   have hb:Bd ⟨e.back,n⟩:=jZ F he hm
   have v:Bd (cI u k n):=by rw[qn he];exact hb
   have r:∀i m,mR u k i m\/(i=k/\m∈(dx u k e).take (0+j))->i<=k/\Bd (cI u i m):=fun i m h=>by
    rcases h with h|⟨rfl,h⟩
    .exact ⟨by have:=h.1;omega,t i m h⟩
    .exact ⟨Nat.le_refl _,by rw[qn he];exact jZ F he (List.mem_of_mem_take h)⟩
   have w:=lF (EO F (fun i m h=>(r i m h).2) q).1 (vO F (s:=⟨e.back,n⟩) hb).1 aB aB
   refine ⟨?_,vP (fun i m=>?_) (Ng F r v q)⟩
   .unfold nM ig
    simp only[gd he,ai,(oe F (s:=⟨e.back,n⟩) hb).1,vk F hb,w.2]
    unfold wG
    rw[qn he]
    cases c8 u ⟨e.back,n⟩ with
    |false=>rfl
    |true=>
     simp only[cond_true]
     unfold bQ
     cases decide (st.2.num*(dU u ⟨e.back,n⟩).den<(dU u ⟨e.back,n⟩).num*st.2.den)<;>rfl
   .rw[Nat.zero_add,Nh p]
    constructor
    .rintro ((h|⟨b,a⟩)|⟨b,a⟩)
     .exact .inl h
     .exact .inr ⟨b,.inl a⟩
     .exact .inr ⟨b,.inr a⟩
    .rintro (h|⟨b,a|a⟩)
     .exact .inl (.inl h)
     .exact .inl (.inr ⟨b,a⟩)
     .exact .inr ⟨b,a⟩)
 refine ⟨_,key.1,vP (fun i m=>?_) key.2⟩
 rw[Nat.zero_add,List.take_length]
 unfold mR
 constructor
 .rintro (⟨b,a⟩|⟨rfl,h⟩)
  .exact ⟨aa,a⟩
  .exact ⟨aa,e,he,h⟩
 .rintro ⟨b,o,a,d⟩
  by_cases c:i=k
  .subst c
   rw[he] at a;cases a
   exact .inr ⟨rfl,d⟩
  .exact .inl ⟨aa,o,a,d⟩
theorem Nj (h:fe u=some 0):((bO u).isEmpty=true/\lz u=some (0,⟨0,0⟩,9))\/
  ((bO u).isEmpty=false/\∃st,lz u=some (st.1,st.2,0)/\Ws u (fun i m=>∃e,u.aF[i]?=some e/\m∈dx u i e) st):=by
 unfold lz
 rw[se F (vf h)]
 cases hs:(bO u).isEmpty with
 |true=>exact .inl ⟨rfl,rfl⟩
 |false=>
  right
  have aL:bO u≠[]:=by intro c;rw[c] at hs;cases hs
  refine ⟨rfl,?_⟩
  simp only[ai,Bool.false_eq_true,if_false,bne_self_eq_false,cond_false]
  have key:=iS (f:=rE (⟨u,(bO u).map cG⟩,0)) (ρ:=Int×ax×Int)
   (g:=fun i e st=>match bR (nM (⟨u,(bO u).map cG⟩,0) i) 0 (dx u i e) (st.1,st.2) with|some (.nx s)=>s|_=>st)
   (I:=fun i st=>Ws u (mR u i) st) u.aF 0 (-1,⟨0,1⟩) (.inl ⟨rfl,rfl,fun i n b=>absurd b.1 aa⟩)
   (fun j e st he a=>by
    rw[Nat.zero_add] at a ⊢
    obtain ⟨s1,k1,d⟩:=Ni F aL he a
    simp only[k1]
    refine ⟨?_,d⟩
    unfold rE
    simp only[zf F aL he,ai,k1,aJ])
  refine ⟨_,?_,vP (fun i m=>?_) key.2⟩
  .unfold gA
   simp only[key.1,aJ]
  .rw[Nat.zero_add]
   unfold mR
   constructor
   .exact fun x=>x.2
   .rintro ⟨e,he,hm⟩
    exact ⟨(List.getElem?_eq_some_iff.1 he).1,e,he,hm⟩
end
section
variable {u:an}(F:Fit u)(aL:bO u ≠ [])
include F aL
theorem Nk {i:Nat}{e:cq}(he:u.aF[i]?=some e):1<=(dx u i e).length/\(dx u i e).length<=3:=by
 obtain ⟨c,T,d,a,b⟩:=sk F aL he;rw[b,List.length_map];exact vj a
end
theorem EP {α ρ:Type}{g:α->Bool}{r:ρ}:∀(l:List α) (i:Nat),ir (fun _ x=>if g x then some r else none) i l=if l.any g then some r else none
 |[],_=>rfl
 |x::l,i=>by
  unfold ir
  cases h:g x with
  |true=>simp[h]
  |false=>
   simp only[h,Bool.false_eq_true,if_false,List.any_cons,Bool.false_or]
   exact EP l (i+1)
theorem Nl {l:List Int}(b:l.length<=1000)(n:Int):pG l n=some (l.any (· ==n)):=by
 unfold pG
 rw[C2 (t:=fun _ x=>if x==n then some true else none) l b (fun i x s a=>by
  have c:=(List.getElem?_eq_some_iff.1 a).1;unfold rM;rw[show decide ((s,(i:Int)).2<(l.length:Int))=true by simp;omega];simp only[cond_true,gd a,ai];rw[cU (n:=(i:Int)+1) aa]
  cases (x==n)<;>rfl) (fun s=>by
  unfold rM
  simp) false,EP]
 cases l.any (· ==n)<;>rfl
theorem any_eq {l:List Int}{n:Int}:l.any (· ==n)=true↔n∈l:=by
 rw[List.any_eq_true];constructor
 .rintro ⟨y,a,e⟩;have:y=n:=by simpa using e
  rw[<-this];exact a
 .exact fun h=>⟨n,h,au⟩
theorem Nm {x p q:ax}{A B:Nat}(b:Sm x A B)(c:Sm p A B)(d:Sm q A B)(a:A*B<=9000000000000000000):pH x p q=some (!bQ x p&&!bQ q x):=by
 have e:=(lF b c a a).1;have f:=(lF d b a a).1;unfold pH;simp only[decide_eq_true b.den.1,decide_eq_true c.den.1,decide_eq_true d.den.1,cond_true,e,f,ai];unfold bQ;cases decide (x.num*p.den<p.num*x.den)<;>rfl
theorem ER {n m:Nat}(hm:0<m):jj n m=2↔n=0:=by
 unfold jj;by_cases c:n=m
 .rw[if_pos c];constructor
  .intro h;exact absurd h aB
  .intro h;omega
 .rw[if_neg c];by_cases d:n=0
  .simp[d]
  .rw[if_neg d];constructor
   .intro h;exact absurd h aB
   .intro h;exact absurd h d
theorem ES {n m:Nat}:jj n m=1↔n=m:=by
 unfold jj;by_cases c:n=m
 .simp[c]
 .rw[if_neg c];by_cases d:n=0
  .rw[if_pos d];constructor
   .intro h;exact absurd h aB
   .intro h;exact absurd h c
  .rw[if_neg d];constructor
   .intro h;exact absurd h aB
   .intro h;exact absurd h c
theorem ET (P:Nat->Int->Prop):∀(S:List (List Int)) (k:Nat),(∀i s,S[i]?=some s->∃n,n∈s/\P (k+i) n)->∃h,h∈pL S/\∀i n,h[i]?=some n->P (k+i) n
 |[],k,_=>⟨[],by simp[pL],fun i n h=>by simp at h⟩
 |s::r,k,a=>by
  obtain ⟨n,b,c⟩:=a 0 s rfl
  obtain ⟨h,hm,d⟩:=ET P r (k+1) fun i t ht=>by
   have:=a (i+1) t (by simpa using ht)
   rwa [show k+1+i=k+(i+1) by omega]
  refine ⟨n::h,?_,fun i m hi=>?_⟩
  .show n::h∈s.flatMap fun n=>(pL r).map (n::·)
   exact List.mem_flatMap.2 ⟨n,b,List.mem_map.2 ⟨h,hm,rfl⟩⟩
  .cases i with
   |zero=>
    have:n=m:=by simpa using hi
    rw[<-this];exact c
   |succ i=>
    have:=d i m (by simpa using hi)
    rwa [show k+1+i=k+(i+1) by omega] at this
section
variable {u:an}(F:Fit u)(h:fe u = some 0)(aL:bO u ≠ [])
include F h aL
omit F h in
theorem Aa:(bO u).isEmpty=false:=by
 cases e:bO u with
 |nil=>exact absurd e aL
 |cons a l=>rfl
theorem Nn {i:Nat}{e:cq}(he:u.aF[i]?=some e):∃w,mB u (i:Int)=some (w,0)/\(w=1↔∀n,n∈dx u i e->c8 u (cI u i n)=true)/\(w=2↔∀n,n∈dx u i e->c8 u (cI u i n)=false):=by
 have d:=EN F h he;rw[Aa aL] at d;refine ⟨_,d,?_,?_⟩
 .rw[ES,List.countP_eq_length];constructor
  .intro a n c;obtain ⟨l,b,hg⟩:=(jQ F aL he).1 c;have:=a l b
   rwa [hg] at this
  .intro a l b;obtain ⟨m,hm,-,-⟩:=(lK b).1.gZ i _ he;rw[hm];exact a m ((jQ F aL he).2 ⟨l,b,hm⟩)
 .rw[ER (List.length_pos_iff.2 aL),List.countP_eq_zero];constructor
  .intro a n c;obtain ⟨l,b,hg⟩:=(jQ F aL he).1 c;have:=a l b;rw[hg] at this;simpa using this
  .intro a l b;obtain ⟨m,hm,-,-⟩:=(lK b).1.gZ i _ he;rw[hm];have:=a m ((jQ F aL he).2 ⟨l,b,hm⟩);simp[this]
theorem No:∃w,lu u=some (w,0)/\(w=1↔∀i e n,u.aF[i]?=some e->n∈dx u i e->c8 u (cI u i n)=false)/\(w=2↔∃i e,u.aF[i]?=some e/\∀n,n∈dx u i e->c8 u (cI u i n)=true):=by
 have g:=Dy F h;rw[Aa aL] at g;refine ⟨_,g,?_,?_⟩
 .rw[ES,List.countP_eq_length];constructor
  .intro a i e n he f;obtain ⟨l,b,hg⟩:=(jQ F aL he).1 f;have:=a l b;unfold mI at this;rw[List.all_eq_true] at this;have:=this i (by rw[List.mem_range];exact (List.getElem?_eq_some_iff.1 he).1);rw[hg] at this;simpa using this
  .intro a l b;unfold mI;rw[List.all_eq_true];intro i hi;have hi:i<u.aF.length:=by simpa using hi
   have he:u.aF[i]?=some u.aF[i]:=List.getElem?_eq_getElem hi;obtain ⟨m,hm,-,-⟩:=(lK b).1.gZ i _ he;rw[hm];have:=a i _ m he ((jQ F aL he).2 ⟨l,b,hm⟩);simp[this]
 .rw[ER (List.length_pos_iff.2 aL),List.countP_eq_zero];constructor
  .intro a;refine Classical.byContradiction fun c=>?_;obtain ⟨l,b,j⟩:=ET (fun i n=>c8 u (cI u i n)=false) (lM u) 0 fun i s hs=>by
    have hi:i<u.aF.length:=by rw[<-vi u];exact (List.getElem?_eq_some_iff.1 hs).1
    have he:u.aF[i]?=some u.aF[i]:=List.getElem?_eq_getElem hi;rw[vh he] at hs;cases hs;refine Classical.byContradiction fun d=>c ⟨i,_,he,fun n f=>?_⟩;cases hb:c8 u (cI u i n) with
    |true=>rfl
    |false=>exact absurd ⟨n,f,by rw[Nat.zero_add];exact hb⟩ d
   rw[<-zb F] at b;refine a l b ?_;unfold mI;rw[List.all_eq_true];intro i hi;have hi:i<u.aF.length:=by simpa using hi
   have he:u.aF[i]?=some u.aF[i]:=List.getElem?_eq_getElem hi;obtain ⟨m,hm,-,-⟩:=(lK b).1.gZ i _ he;have:=j i m hm;rw[Nat.zero_add] at this;rw[hm];simp[this]
  .rintro ⟨i,e,he,a⟩ l b hg;unfold mI at hg;rw[List.all_eq_true] at hg;have:=hg i (by rw[List.mem_range];exact (List.getElem?_eq_some_iff.1 he).1);obtain ⟨m,hm,-,-⟩:=(lK b).1.gZ i _ he;rw[hm] at this;have k:=a m ((jQ F aL he).2 ⟨l,b,hm⟩);simp[k] at this
end
theorem EU:∀(S:List (List Int)) (h:List Int),h.length=S.length->(∀(i:Nat) s,S[i]?=some s->∃n,h[i]?=some n/\n∈s)->h∈pL S
 |[],[],_,_=>by simp[pL]
 |[],_::_,a,_=>by simp at a
 |s::r,[],a,_=>by simp at a
 |s::r,n::h,a,b=>by
  obtain ⟨m,c,d⟩:=b 0 s rfl
  obtain rfl:n=m:=by simpa using c
  show n::h∈s.flatMap fun n=>(pL r).map (n::·)
  exact List.mem_flatMap.2 ⟨n,d,List.mem_map.2 ⟨h,EU r h (by simpa using a) fun i t ht=>by
   have:=b (i+1) t (by simpa using ht)
   simpa using this,rfl⟩⟩
theorem Np {u:an}{h:List Int}(H:kH u h)(a:fJ u h=true):h∈bO u:=by
 refine List.mem_filter.2 ⟨?_,a⟩;rw[za];refine List.mem_map.2 ⟨h,EU _ _ (by rw[List.length_map];exact H.len) fun i s hs=>?_,rfl⟩;rw[List.getElem?_map,Option.map_eq_some_iff] at hs;obtain ⟨e,he,rfl⟩:=hs;obtain ⟨n,b,c⟩:=H.gZ i e he;exact ⟨n,b,y3.2 c⟩
theorem Nq {f:Int->Option Bool}{g:Int->Bool}(l:List Int)(h:∀x,x∈l->f x=some (g x)):rS l f=some (l.any g):=by
 unfold rS uP
 rw[ve (t:=fun i x=>if g x then some (i:Int) else none) l 0 0 fun j x s a=>by
  unfold uO;rw[h x (List.mem_of_getElem? a)]
  cases g x<;>rfl]
 obtain ⟨r,b,c⟩:=yZ (g:=g) l 0;rw[b,<-c];cases r<;>rfl
def lU (u:an)(h:List Int):Int:=cond ((h.length:Int) != (u.aF.length:Int)) 2 (cond (h.any fun n=>!bZ n 0 60) 1 0)
theorem Nr (u v:an)(h:List Int):lD v h u=some (lU u h):=by
 unfold lD lU;cases hc:((h.length:Int) != (u.aF.length:Int)) with
 |true=>rfl
 |false=>
  simp only[cond_false];rw[Nq (g:=fun n=>!bZ n 0 60) h fun x _=>by unfold rR;rw[kF,fI];rfl];cases h.any (fun n=>!bZ n 0 60)<;>rfl
def oA (h:List Int)(x:bt):Bool:=(x.e0==h.getD 0 0)&&((x.e1==h.getD 1 0)&&(x.e2==h.getD 2 0))
theorem Ab (h:List Int):∀l:List bt,ie (pP h) (l.map some) (0,false)=some (cond (l.any (oA h)) (.br 1000000000 (0,true)) (.nx (0,false)))
 |[]=>rfl
 |x::l=>by
  have ih:=Ab h l
  unfold ie at ih ⊢
  show ai (pP h x (0,false)) _=_
  unfold pP
  rw[List.any_cons]
  show ai (cond (oA h x) _ _) _=_
  cases a:oA h x with
  |true=>rfl
  |false=>exact Ab h l
theorem EV {h x:List Int}(a:h.length=x.length)(b:h.length<=3):oA h (cG x)=true↔x=h:=by
 constructor
 .intro c;unfold oA at c;simp only[Bool.and_eq_true,beq_iff_eq] at c;refine Kv aa aa ?_;show cG x=⟨h.getD 0 0,h.getD 1 0,h.getD 2 0⟩;rw[<-c.1,<-c.2.1,<-c.2.2]
 .rintro rfl;unfold oA cG;simp[List.getD_eq_getElem?_getD]
section
variable {u:an}(F:Fit u)(hc:fe u = some 0)
include F hc
theorem Ns (h:List Int):pQ u h=some (cond (lU u h != 0) (false,lU u h) (decide (h∈bO u),0)):=by
 unfold pQ;rw[yR (f:=fun d=>lD d h u) hc (Nr u u h)];cases hb:(lU u h != 0) with
 |true=>
  simp only[cond_true,ai,hb]
 |false=>
  have a:lU u h=0:=by simpa using hb
  have hlen:h.length=u.aF.length:=by
   unfold lU at a;cases c:((h.length:Int) != (u.aF.length:Int)) with
   |true=>rw[c] at a;cases a
   |false=>
    have:(h.length:Int)=u.aF.length:=by simpa using c
    omega
  have g:=F.aF;simp only[cond_false,ai,bne_self_eq_false,y5 F];rw[show ((bO u).map fun x=>some (cG x))=((bO u).map cG).map some by rw[List.map_map];rfl,Ab];have e1:((bO u).map cG).any (oA h)=decide (h∈bO u):=by
   rw[Bool.eq_iff_iff,List.any_eq_true,decide_eq_true_iff];constructor
   .rintro ⟨y,e,hs⟩;obtain ⟨x,b,rfl⟩:=List.mem_map.1 e;rw[(EV (by rw[hlen,(lK b).1.len]) aa).1 hs] at b;exact b
   .intro hm;exact ⟨cG h,List.mem_map.2 ⟨h,hm,rfl⟩,(EV rfl aa).2 rfl⟩
  rw[e1];cases decide (h∈bO u)<;>rfl
theorem Nt {h:List Int}(hm:h∈bO u):pQ u h=some (true,0):=by
 have H:=(lK hm).1;have c:lU u h=0:=by
  unfold lU;rw[show ((h.length:Int) != (u.aF.length:Int))=false by rw[H.len];simp];rw[show (h.any fun n=>!bZ n 0 60)=false from ?_]
  .rfl
  .rw[List.any_eq_false];intro n d;obtain ⟨i,hi⟩:=List.mem_iff_getElem?.1 d;have a:i<u.aF.length:=by rw[<-H.len];exact (List.getElem?_eq_some_iff.1 hi).1
   obtain ⟨m,b,e⟩:=H.gZ i _ (List.getElem?_eq_getElem a);rw[hi] at b;cases b;obtain ⟨_,c2,c3,c4,_⟩:=F.aY i _ (List.getElem?_eq_getElem a);rw[eW.2 ⟨aa,aa⟩];simp
 rw[Ns F hc,c,decide_eq_true hm];rfl
end
theorem EW:∀(l:List ax) (i:Nat) (a:ax),(∀x,x∈a::l->0<x.den)->foldI (fun _ y st=>gK st y) i l a∈a::l/\∀y,y∈a::l->bQ y (foldI (fun _ y st=>gK st y) i l a)=false
 |[],i,a,h=>⟨List.mem_singleton.2 rfl,fun y d=>by rw[List.mem_singleton.1 d];exact ji _⟩
 |b::l,i,a,h=>by
  have n:=h a au
  have hb:=h b au
  unfold foldI
  have hm:gK a b=a\/gK a b=b:=by unfold gK;cases bQ b a<;>simp
  have hd:0<(gK a b).den:=by rcases hm with e|e<;>rw[e]<;>assumption
  obtain ⟨g,j⟩:=EW l (i+1) (gK a b) fun x f=>by
   rcases List.mem_cons.1 f with rfl|f
   .exact hd
   .exact h x (by simp[f])
  have k:0<(foldI (fun _ y st=>gK st y) (i+1) l (gK a b)).den:=by
   rcases List.mem_cons.1 g with e|e
   .rw[e];exact hd
   .exact h _ (by simp[e])
  refine ⟨?_,fun y d=>?_⟩
  .rcases List.mem_cons.1 g with e|e
   .rw[e];rcases hm with e|e<;>rw[e]<;>simp
   .simp[e]
  .have m:=j _ (List.mem_cons_self ..)
   rcases List.mem_cons.1 d with rfl|d
   .refine pS n hd k ?_ m
    unfold gK
    cases c:bQ b y
    .exact ji _
    .exact yU c
   rcases List.mem_cons.1 d with rfl|d
   .refine pS hb hd k ?_ m
    unfold gK
    cases c:bQ y a
    .exact c
    .exact ji _
   .exact j y (by simp[d])
theorem EX:∀(l:List ax) (i:Nat) (a:ax),(∀x,x∈a::l->0<x.den)->foldI (fun _ y st=>cJ st y) i l a∈a::l/\∀y,y∈a::l->bQ (foldI (fun _ y st=>cJ st y) i l a) y=false
 |[],i,a,h=>⟨List.mem_singleton.2 rfl,fun y d=>by rw[List.mem_singleton.1 d];exact ji _⟩
 |b::l,i,a,h=>by
  have n:=h a au
  have hb:=h b au
  unfold foldI
  have hm:cJ a b=a\/cJ a b=b:=by unfold cJ;cases bQ a b<;>simp
  have hd:0<(cJ a b).den:=by rcases hm with e|e<;>rw[e]<;>assumption
  obtain ⟨g,j⟩:=EX l (i+1) (cJ a b) fun x f=>by
   rcases List.mem_cons.1 f with rfl|f
   .exact hd
   .exact h x (by simp[f])
  have k:0<(foldI (fun _ y st=>cJ st y) (i+1) l (cJ a b)).den:=by
   rcases List.mem_cons.1 g with e|e
   .rw[e];exact hd
   .exact h _ (by simp[e])
  refine ⟨?_,fun y d=>?_⟩
  .rcases List.mem_cons.1 g with e|e
   .rw[e];rcases hm with e|e<;>rw[e]<;>simp
   .simp[e]
  .have m:=j _ (List.mem_cons_self ..)
   rcases List.mem_cons.1 d with rfl|d
   .refine pS k hd n m ?_
    unfold cJ
    cases c:bQ y b
    .exact ji _
    .exact yU c
   rcases List.mem_cons.1 d with rfl|d
   .refine pS k hd hb m ?_
    unfold cJ
    cases c:bQ a y
    .exact c
    .exact ji _
   .exact j y (by simp[d])
theorem Nu {u:an}(F:Fit u)(h:fe u=some 0){i:Nat}{e:cq}(he:u.aF[i]?=some e)(hs:(bO u).isEmpty=false):
  ∃p q,nN u (i:Int)=some (p,q,0)/\(∃n,n∈dx u i e/\p=iy u ⟨e.back,n⟩)/\(∃n,n∈dx u i e/\q=iy u ⟨e.back,n⟩)/\∀n,n∈dx u i e->bQ (iy u ⟨e.back,n⟩) p=false/\bQ q (iy u ⟨e.back,n⟩)=false:=by
 obtain ⟨a,l,c,j⟩:=Nc F h he hs
 have hd:∀x,x∈a::l->0<x.den:=fun x d=>by
  rw[<-c,List.mem_map] at d
  obtain ⟨n,b,rfl⟩:=d
  exact (sK F (jZ F he b)).den.1
 obtain ⟨f,p2⟩:=EW l 0 a hd
 obtain ⟨g,k⟩:=EX l 0 a hd
 refine ⟨_,_,j,?_,?_,fun n b=>?_⟩
 .rw[<-c,List.mem_map] at f
  obtain ⟨n,b,e⟩:=f
  exact ⟨n,b,e.symm⟩
 .rw[<-c,List.mem_map] at g
  obtain ⟨n,b,e⟩:=g
  exact ⟨n,b,e.symm⟩
 .have:iy u ⟨e.back,n⟩∈a::l:=by rw[<-c];exact List.mem_map.2 ⟨n,b,rfl⟩
  exact ⟨p2 _ this,k _ this⟩
theorem Nv {w:List Int}(hw:∀x,x∈w->0<=x/\x<=65535)(k:Nat):∃c,rN w (k:Int)=some c/\0<=c/\c<=65535:=by
 unfold rN;rw[decide_eq_false (show ¬(k:Int)<0 by omega)];by_cases b:w.length<=k
 .rw[decide_eq_true (show (w.length:Int)<=(k:Int) by omega)];exact ⟨0,rfl,aB,aB⟩
 .rw[decide_eq_false (show ¬(w.length:Int)<=(k:Int) by omega)];have a:w[k]?=some (w[k]'aa):=List.getElem?_eq_getElem _;have hb:=hw _ (List.mem_of_getElem? a);rw[gd a];simp only[cond_false,ai,cU (n:=w[k]'aa) aa];exact ⟨_,rfl,hb⟩
theorem Nw {b:dF}(a:0<=b.low)(d:b.low<=b.high)(e:b.high<=60){c:Int}(hc:0<=c):∃n,rO b c=some n/\b.low<=n/\n<=b.high:=by
 unfold rO;rw[cU (n:=b.high - b.low) aa,cU (n:=b.high - b.low+1) aa,EI aa];have f:=EJ (b:=b.high - b.low+1) hc aa;simp only[ai];rw[cU aa];exact ⟨_,rfl,aa,aa⟩
theorem Ny {u:an}(F:Fit u){w:List Int}(hw:∀x,x∈w->0<=x/\x<=65535):∃h,rP u w=some h/\kH u h:=by
 have z:=F.aF;have key:=zm (f:=pN u w) (fun j (s:List Int)=>s.length=j/\∀(i:Nat) e,i<j->u.aF[i]?=some e->∃n,s[i]?=some n/\e.high.low<=n/\n<=e.high.high) (fun s k=>(s,k)) u.aF aa
  (fun j e s he a=>by
   have A:=(List.getElem?_eq_some_iff.1 he).1;obtain ⟨c1,c2,c3,c4,B⟩:=F.aY j e he;obtain ⟨c,g,o,C⟩:=Nv hw j;obtain ⟨n,p,q,r⟩:=Nw c2 c3 c4 o;refine ⟨s++[n],?_,by simp[a.1],fun i t hi b=>?_⟩
   .unfold pN;rw[decide_eq_true (show ((s,(j:Int)):List Int×Int).2<(u.aF.length:Int) by simp only;omega)];simp only[cond_true,gd he,ai,g,p,mF (l:=s) (xs:=[n]) (by rw[a.1];simp;omega)];rw[cU aa];rfl
   .by_cases v:i=j
    .subst v;rw[he] at b;cases b;exact ⟨n,by rw[List.getElem?_append_right aa,a.1,Nat.sub_self];rfl,q,r⟩
    .obtain ⟨m,k1,d⟩:=a.2 i t aa b
     exact ⟨m,by rw[List.getElem?_append_left (by rw[a.1];omega)];exact k1,d⟩)
  (fun s=>by
   unfold pN
   simp) [] ⟨rfl,fun i e hi=>absurd hi aa⟩
 obtain ⟨s,k1,d,y⟩:=key;refine ⟨s,?_,d,fun i e he=>y i e (List.getElem?_eq_some_iff.1 he).1 he⟩;unfold rP;rw[k1];rfl
def tv (u:an)(h:List Int):an:=⟨u.bV,u.bU,u.bq,u.aE,u.props,u.aF,u.told.map fun t=>⟨t.aY,c8 u (cI u t.aY.toNat (h[t.aY.toNat]?.getD 0))⟩⟩
section
variable {u:an}(F:Fit u){h:List Int}(H:kH u h)
include F H
theorem Nz:rQ u h=some (tv u h):=by
 have g:=F.told;have key:=zm (f:=pO u h) (fun j (s:List bM)=>s=(u.told.take j).map fun t=>⟨t.aY,c8 u (cI u t.aY.toNat (h[t.aY.toNat]?.getD 0))⟩) (fun s k=>(k,s)) u.told aa
  (fun j t s ht b=>by
   have i:=(List.getElem?_eq_some_iff.1 ht).1;obtain ⟨e1,e2⟩:=F.ob j t ht;obtain ⟨e,n,k1,a,c,d⟩:=y2 H e1 e2 F;have ks:=(oe F (s:=⟨e.back,n⟩) d).2;refine ⟨s++[⟨t.aY,c8 u ⟨e.back,n⟩⟩],?_,?_⟩
   .unfold pO;rw[decide_eq_true (show (((j:Int),s):Int×List bM).1<(u.told.length:Int) by simp only;omega)];have hs:nU u t.aY n=some ⟨e.back,n⟩:=by
     unfold nU;rw[r7 e1 k1];rfl
    simp only[cond_true,gd ht,ai,r7 e1 a,hs,ks,mF (l:=s) (xs:=[(⟨t.aY,c8 u ⟨e.back,n⟩⟩:bM)]) (by rw[b];simp;omega)];rw[cU aa];rfl
   .rw[List.take_add_one,ht,b,List.map_append];simp only[Option.toList_some,List.map_cons,List.map_nil];rw[a]
    simp only[Option.getD_some,c])
  (fun s=>by
   unfold pO
   simp) [] rfl
 obtain ⟨s,k1,a⟩:=key;unfold rQ;rw[k1,a,List.take_length];rfl
theorem NA:Fit (tv u h):=⟨F.bV,F.bU,F.den,F.num,F.aE,F.kG,F.uW,F.props,F.prop,F.aF,F.aY,by show (u.told.map _).length<=3;rw[List.length_map];exact F.told,fun i x a=>by
 change (u.told.map _)[i]?=some x at a
 rw[List.getElem?_map,Option.map_eq_some_iff] at a
 obtain ⟨t,ht,rfl⟩:=a
 exact F.ob i t ht⟩
theorem NB:h∈bO (tv u h):=by
 refine Np (u:=tv u h) ⟨H.len,H.gZ⟩ ?_;unfold fJ;rw[List.all_eq_true];intro x a;obtain ⟨t,_,rfl⟩:=List.mem_map.1 (show x∈u.told.map _ from a);show (_==_)=true;exact beq_self_eq_true _
end
theorem EY (n m:Nat):jj n m=0\/jj n m=1\/jj n m=2:=by
 unfold jj;split
 .exact .inr (.inl rfl)
 .split
  .exact .inr (.inr rfl)
  .exact .inl rfl
theorem NC (u:an)(w:List Int)(hw:∀x,x∈w->0<=x/\x<=65535)(a:Int)(ae:0<=a/\a<=255):vN u w a=some true:=by
 unfold vN;rcases M4 u with k|⟨k,L,hc,F⟩
 .simp only[k,ai,Bool.not_false,cond_true,z8]
 obtain ⟨h,O,H⟩:=Ny F hw;have al:=F.aF;have G:=NA F H;have hm:=NB F H;have o:fe (tv u h)=some 0:=Ku (show gV u=0 from Kt hc) G;have ao:si (tv u h):=by
  obtain ⟨ar,a0,a3,a4⟩:=L;exact ⟨ar,a0,a3,by show (u.told.map _).length<=20;rw[List.length_map];exact a4⟩
 simp only[k,ai,Bool.not_true,cond_false];unfold vM;simp only[ai,O,Nz F H];generalize P:tv u h=v at*;have D:v.aF=u.aF:=by rw[<-P];rfl
 have t:kH v h:=⟨by rw[D];exact H.len,by rw[D];exact H.gZ⟩
 rw[<-D] at al;clear O H F P D hc k L hw w;have aL:bO v≠[]:=by intro c;rw[c] at hm;cases hm
 have hs:=Aa aL;obtain ⟨k1,a5⟩:=EJ (a:=a) (b:=v.aF.length) ae.1 aa;have Q:iZ (IntKind.i64.wrap a) (v.aF.length:Int)=some (a.tmod v.aF.length):=by rw[cU aa];exact EI aa
 obtain ⟨i,hi⟩:∃i:Nat,a.tmod v.aF.length=(i:Int):=⟨(a.tmod v.aF.length).toNat,aa⟩
 rw[hi] at Q k1 a5;have a6:i<v.aF.length:=aa;obtain ⟨e,he⟩:∃e,v.aF[i]?=some e:=⟨_,List.getElem?_eq_getElem a6⟩
 obtain ⟨n,R,n1,n2⟩:=t.gZ i e he;have E:n∈dx v i e:=(jQ G aL he).2 ⟨h,hm,R⟩;have S:Bd ⟨e.back,n⟩:=jZ G he E;have T:=M8 G o he;rw[hs,if_neg aB] at T;have a7:(dx v i e).length<=1000:=by have:=(Nk G aL he).2;omega
 have hold:pG (dx v i e) n=some true:=by rw[Nl a7,any_eq.2 E]
 obtain ⟨p,q,a8,⟨a9,p2,p3⟩,⟨ba,bb,bc⟩,U⟩:=Nu G o he hs;have bd:pH (gF ⟨v.bU,1⟩ (ef v ⟨e.back,n⟩).2) p q=some true:=by
  have I:=sK G S;have J:=sK G (s:=⟨e.back,a9⟩) (jZ G he p2);have K:=sK G (s:=⟨e.back,ba⟩) (jZ G he bb);rw[<-p3] at J;rw[<-bc] at K;rw[show gF ⟨v.bU,1⟩ (ef v ⟨e.back,n⟩).2=iy v ⟨e.back,n⟩ from rfl,Nm I J K aB,(U n E).1,(U n E).2];rfl
 obtain ⟨w,s1,s2,bj⟩:=Nn G o aL he;have w3:w=0\/w=1\/w=2:=by
  have v:=EN G o he;rw[hs,if_neg aB,s1] at v;rw[(Prod.mk.inj (Option.some.inj v)).1];exact EY _ _
 obtain ⟨g,I,J,K⟩:=No G o aL;have V:g=0\/g=1\/g=2:=by
  have v:=Dy G o;rw[hs,if_neg aB,I] at v;rw[(Prod.mk.inj (Option.some.inj v)).1];exact EY _ _
 obtain ⟨st,bk,W⟩:∃st,lz v=some (st.1,st.2,0)/\Ws v (fun i m=>∃e,v.aF[i]?=some e/\m∈dx v i e) st:=by
  rcases Nj G o with ⟨c,_⟩|⟨_,c⟩
  .rw[hs] at c;cases c
  .exact c
 have bl:∀i m,(∃e,v.aF[i]?=some e/\m∈dx v i e)->Bd (cI v i m):=fun i m ⟨e,he,hm⟩=>by
  rw[qn he];exact jZ G he hm
 obtain ⟨X,-⟩:=EO G bl W;have hC:kC v=some ([],0):=by
  rcases KC G o ao with ⟨_,c⟩|⟨c,_⟩
  .exact c
  .rw[hs] at c;cases c
 have key:=zm (f:=ql h v (i:Int) (w,0) (st.1,st.2,0)) (fun j (s:Bool×Bool)=>s.2=true↔∃k:Nat,k<j/\c8 v (cI v k (h[k]?.getD 0))=true) (fun s k=>(s.1,s.2,k)) h (by rw[t.len];omega)
  (fun j m s y bm=>by
   have bo:=(List.getElem?_eq_some_iff.1 y).1;have hle:j<v.aF.length:=by rw[<-t.len];exact bo
   obtain ⟨d,l⟩:∃e,v.aF[j]?=some e:=⟨_,List.getElem?_eq_getElem hle⟩
   have z:m∈dx v j d:=(jQ G aL l).2 ⟨h,hm,y⟩;have N:Bd ⟨d.back,m⟩:=jZ G l z;have es:cI v j m=⟨d.back,m⟩:=qn l m;have A:c8 v ⟨d.back,m⟩=bQ v.bq (dU v ⟨d.back,m⟩):=zk G N;have w1:IntKind.i64.wrap ((j:Int)+1)=((j+1:Nat):Int):=by rw[cU aa];rfl
   have br:decide (((s.1,s.2,(j:Int)):Bool×Bool×Int).2.2<(h.length:Int))=true:=by simp;omega
   have M:(i:Nat)=j->lC w (bQ v.bq (dU v ⟨d.back,m⟩))=some true:=fun bs=>by
    subst bs;rw[he] at l;cases l;unfold lC;cases r:bQ v.bq (dU v ⟨e.back,m⟩) with
    |true=>
     rcases w3 with rfl|rfl|rfl
     .rfl
     .rfl
     .have:=bj.1 rfl m z;rw[es,A,r] at this;cases this
    |false=>
     rcases w3 with rfl|rfl|rfl
     .rfl
     .have:=s2.1 rfl m z;rw[es,A,r] at this;cases this
     .rfl
   have inv:∀b:Bool,b=(s.2||bQ v.bq (dU v ⟨d.back,m⟩))->(b=true↔∃k:Nat,k<j+1/\c8 v (cI v k (h[k]?.getD 0))=true):=fun b hb=>by
    rw[hb,Bool.or_eq_true,bm];constructor
    .rintro (⟨k,a1,a2⟩|r)
     .exact ⟨k,aa,a2⟩
     .exact ⟨j,aa,by rw[y];show c8 v (cI v j m)=true;rw[es,A,r]⟩
    .rintro ⟨k,a1,a2⟩;by_cases B:k=j
     .subst B;rw[y] at a2;replace a2:c8 v (cI v k m)=true:=a2;rw[es,A] at a2;exact .inr a2
     .exact .inl ⟨k,aa,a2⟩
   refine ⟨(s.1,s.2||bQ v.bq (dU v ⟨d.back,m⟩)),?_,inv _ rfl⟩;unfold ql;rw[br];simp only[cond_true,gd l,gd y,ai,show jM d.back m=some ⟨d.back,m⟩ from rfl,Kx G o N,bne_self_eq_false,cond_false,w1];have bz:((j:Int)==(i:Int))=decide (i=j):=by
    by_cases c:i=j
    .subst c;simp
    .rw[decide_eq_false c];simp;omega
   rw[bz];cases r:bQ v.bq (dU v ⟨d.back,m⟩) with
   |false=>
    rw[r] at M;by_cases c:i=j
    .rw[decide_eq_true c];simp only[cond_true,cond_false,M c,Bool.not_true];cases s.2<;>rfl
    .rw[decide_eq_false c];simp only[cond_false];cases s.2<;>rfl
   |true=>
    rw[r] at M;have Y:c8 v (cI v j m)=true:=by rw[es,A,r]
    rcases W with ⟨c1,c2,c3⟩|⟨b5,nw,c1,c2,c3,c4,bS⟩
    .have:=c3 j m ⟨d,l,z⟩;rw[Y] at this;cases this
    .have Z:=(bS j m ⟨d,l,z⟩ Y).1;rw[es] at Z;have b0:iq st.2 (dU v ⟨d.back,m⟩)=some false:=(lF X (vO G N).1 aB aB).1.trans (congrArg some Z);rw[decide_eq_false (show ¬st.1<0 by rw[c2];omega)];simp only[cond_true,cond_false,b0];by_cases c:i=j
     .rw[decide_eq_true c];simp only[cond_true,cond_false,M c,Bool.not_true];cases s.2<;>rfl
     .rw[decide_eq_false c];simp only[cond_false]
      cases s.2<;>rfl)
  (fun s=>by
   unfold ql
   simp) (false,false) ⟨fun c=>(by cases c),fun ⟨k,c,_⟩=>absurd c aa⟩
 obtain ⟨s,b1,ab⟩:=key;have b2:lC g (!s.2)=some true:=by
  unfold lC;cases r:s.2 with
  |true=>
   rcases V with rfl|rfl|rfl
   .rfl
   .obtain ⟨k,a1,a2⟩:=ab.1 r;have B:k<v.aF.length:=by rw[<-t.len];exact a1
    obtain ⟨d,l⟩:∃e,v.aF[k]?=some e:=⟨_,List.getElem?_eq_getElem B⟩
    obtain ⟨m,C,_⟩:=t.gZ k d l;rw[C] at a2;have:=J.1 rfl k d m l ((jQ G aL l).2 ⟨h,hm,C⟩);rw[show (some m).getD 0=m from rfl,this] at a2;cases a2
   .rfl
  |false=>
   rcases V with rfl|rfl|rfl
   .rfl
   .rfl
   .obtain ⟨k,d,l,b3⟩:=K.1 rfl;have B:=(List.getElem?_eq_some_iff.1 l).1;obtain ⟨m,C,_⟩:=t.gZ k d l;have:=b3 m ((jQ G aL l).2 ⟨h,hm,C⟩);have ad:s.2=true:=ab.2 ⟨k,by rw[t.len];exact B,by rw[C];exact this⟩;rw[r] at ad;cases ad
 have b4:sJ h v (i:Int) (w,0) (g,0) (st.1,st.2,0)=some true:=by
  unfold sJ;simp only[b1,aJ,ai,b2,cond_true,z8]
 have hd:decide (st.2.den<1)=false:=decide_eq_false (by have:=X.den.1;omega);simp only[Q,Nt G o hm,T,a8,gd he,gd R,show jM e.back n=some ⟨e.back,n⟩ from rfl,Kw G o S,s1,I,bk,hC,bne_self_eq_false,cond_false,Bool.not_true,hold,bd,List.length_nil,hd,ai];exact b4
end Go.Proofs.YtbpddfapodiemaaGreatDoor
end

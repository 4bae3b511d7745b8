/- A part of the proof: QQ15. -/
import Derived.Test.YtnaejeiofbpbkaaGreatDoorQQ14
set_option linter.all false
section
namespace Go.Proofs.YtnaejeiofbpbkaaGreatDoor
open Go Go.Sep Go.Proofs
set_option maxRecDepth 100000
set_option maxHeartbeats 4000000
theorem MZ {u:aj}(h:nJ u=some false):pM u:=by
 unfold nJ at h;rcases jB h with ⟨a,h⟩|⟨a,h⟩
 .cases h
 rcases jB h with ⟨b,h⟩|⟨b,h⟩
 .cases h
 rcases jB h with ⟨c,h⟩|⟨c,h⟩
 .cases h
 have d:=Option.some.inj h;simp only[decide_eq_false_iff_not] at a b c d;exact ⟨by omega,by omega,by omega,by omega⟩
theorem M0 (u:aj):∃b,nJ u=some b:=by
 unfold nJ;cases decide (20<(u.ax.length:Int))<;>cases decide (20<(u.props.length:Int))<;>cases decide (20<(u.an.length:Int))<;>exact ⟨_,rfl⟩
theorem M1 (u:aj):pG u=some false\/(pG u=some true/\pM u/\dZ u=some 0/\Fit u):=by
 unfold pG;obtain ⟨b,hb⟩:=M0 u;rw[hb];cases b with
 |true=>exact .inl rfl
 |false=>
  have L:=MZ hb;obtain ⟨c,h1,h2⟩:=bars L;simp only[af,Bool.not_false,cond_true,h2];cases a:(c==0) with
  |false=>exact .inl rfl
  |true=>
   have e:c=0:=by simpa using a
   subst e;exact .inr ⟨rfl,L,h1,CR u L.e h1⟩
theorem vR {a b:Int}(hb:0<b):gI a b=some (a.tmod b):=by
 unfold gI;rw[if_neg (by omega)]
theorem vS {a b:Int}(c:0<=a)(hb:0<b):0<=a.tmod b/\a.tmod b<b:=⟨Int.tmod_nonneg _ c,Int.tmod_lt_of_pos _ hb⟩
theorem M3 {a b:Int}(c:0<=a/\a<=255)(hb:0<=b/\b<=255):∃s,rO a b=some s/\(1<=s.back/\s.back<=20)/\0<=s.high/\s.high<=60:=by
 unfold rO;rw[b9 (n:=a) (by omega),b9 (n:=b) (by omega),vR (by decide),vR (by decide)];have h1:=vS (b:=20) c.1 (by decide);have h2:=vS (b:=61) hb.1 (by decide);simp only[af];rw[b9 (n:=1+a.tmod 20) (by omega)];exact ⟨⟨1+a.tmod 20,b.tmod 61⟩,rfl,⟨by simp only;omega,by simp only;omega⟩,by simp only;omega,by simp only;omega⟩
theorem vT {a b:au}{A B C D:Nat}(c:Sm a A B)(hb:Sm b C D):Sm (e4 a b) (A*D+C*B) (B*D)/\∃n d,0<d/\e4 a b=bF n d:=by
 have h1:=dL c.num (show b.den.natAbs<=D by have:=hb.den;omega);have h2:=dL hb.num (show a.den.natAbs<=B by have:=c.den;omega);have h3:=dL (show a.den.natAbs<=B by have:=c.den;omega) (show b.den.natAbs<=D by have:=hb.den;omega);have e:0<a.den*b.den:=Int.mul_pos c.den.1 hb.den.1;have:=jQ (a.num*b.den - b.num*a.den) (a.den*b.den).toNat (by omega);refine ⟨?_,_,_,by omega,rfl⟩;unfold e4;exact ⟨Nat.le_trans this.num (by omega),this.den.1,by have:=this.den.2;omega⟩
theorem E2 {α ρ:Type}:∀(l:List α) (i:Nat),je (fun _ _=>(none:Option ρ)) i l=none
 |[],_=>rfl
 |x::l,i=>by unfold je;exact E2 l (i+1)
section
variable {u:aj}{s:aP}(F:Fit u)(hs:(1<=s.back/\s.back<=20)/\0<=s.high/\s.high<=60)
include F hs
theorem sE:Sm (cE u s).2 10000 100/\∃n d,0<d/\(cE u s).2=bF n d:=by
 obtain ⟨n,p,e,a,-⟩:=JD F hs;have fp:=F.gQ n p a;rw[e];exact ⟨C0 u F s hs n p a,_,_,by omega,rfl⟩
theorem M4:Sm (e4 ⟨u.bH,1⟩ (cE u s).2) 16000 100/\∃n d,0<d/\e4 ⟨u.bH,1⟩ (cE u s).2=bF n d:=by
 obtain ⟨h1,h2⟩:=vT (rY F hs) (sE F hs).1;exact ⟨h1.mono (by decide) (by decide),h2⟩
end
abbrev Lw (x:au):Prop:=∃n d,0<d/\x=bF n d
theorem Lw.more {a b:au}(c:Lw a)(hb:Lw b):Lw (cj a b):=by
 unfold cj;cases bC a b;exact c;exact hb
theorem E3:Lw ⟨0,1⟩:=⟨0,1,by decide,by decide⟩
section
variable {u:aj}{s:aP}(F:Fit u)(hs:(1<=s.back/\s.back<=20)/\0<=s.high/\s.high<=60)
include F hs
theorem M5 {i:Nat}{x:bL}(d:u.props[i]?=some x):Lw (dj u s x):=by
 obtain ⟨b,p2,p3⟩:=F.prop i x d;obtain ⟨-,h2,-⟩:=Ds F hs b (Int.le_refl x.dg);obtain ⟨a,z,e,f,c,-⟩:=rX u F x.place;rw[b] at c;have hb:=dR.1 (Option.some.inj c).symm;have:=F.gQ 0 a e;have hd:0<(c6 u x).den*(x.place+s.back):=Int.mul_pos h2 (by omega);exact ⟨_,_,by omega,rfl⟩
theorem E4 (h:u.props≠[]):Lw (gx u s):=by
 have key:∀(l:List bL) (i:Nat) (b:au),(∀x,x∈l->Lw (dj u s x))->(i=0/\l≠[]\/Lw b)->Lw (foldI (gM u s) i l b):=by
  intro l
  induction l with
  |nil=>intro i b _ hb;rcases hb with ⟨_,hb⟩|hb;exact absurd rfl hb;exact hb
  |cons x l ih=>
   intro i b d hb;unfold foldI;refine ih (i+1) _ (fun y e=>d y (List.mem_cons_of_mem _ e)) (.inr ?_);have a:=d x (List.mem_cons_self ..);unfold gM;by_cases c:i=0
   .rw[if_pos c];exact a
   .rw[if_neg c];exact Lw.more (hb.resolve_left fun y=>c y.1) a
 refine key u.props 0 ⟨0,0⟩ (fun x a=>?_) (.inl ⟨rfl,h⟩);obtain ⟨i,hi⟩:=List.mem_iff_getElem?.1 a;exact M5 F hs hi
theorem M6:Sm (nW u s) 10000 100:=by
 unfold nW;cases bC (cE u s).2 ⟨u.bH,1⟩
 .exact (sE F hs).1
 .exact (rY F hs).mono (by decide) (by decide)
theorem z9:Sm (dD u s) 300000000 800000/\Lw (dD u s):=by
 obtain ⟨h1,h2⟩:=vT (M6 F hs) (Dq F hs);unfold dD;refine ⟨?_,Lw.more h2 E3⟩;have z:Sm (⟨0,1⟩:au) 300000000 800000:=⟨by decide,by decide,by decide⟩
 have h3:=h1.mono (show _<=300000000 by decide) (show _<=800000 by decide);unfold cj;cases bC (e4 (nW u s) (mz u s)) ⟨0,1⟩
 .exact h3
 .exact z
theorem M7:Sm u.aO 20 20:=⟨by have:=F.num;omega,by have:=F.den;omega,by have:=F.den;omega⟩
end
theorem alike {α:Type}(l:List α)(b:l.length<=1000){f:Bool×Int->Option (Fl (Bool×Int) Bool)}(h:∀(i:Nat) x s,l[i]?=some x->i<l.length->f (s,(i:Int))=some (.nx (s,IntKind.i64.wrap ((i:Int)+1))))(c:∀s,f (s,(l.length:Int))=some (.bk (s,(l.length:Int))))(s:Bool):
  aU f fu (s,0)=some (.nx (s,(l.length:Int))):=by
 have:=Dg (t:=fun _ _=>(none:Option Bool)) l b (f:=f) (fun i x s a=>by
  have d:=(List.getElem?_eq_some_iff.1 a).1
  rw[h i x s a d,b9 (by omega)]
  rfl) c s
 rw[E2] at this
 exact this
theorem E5 (l:List Int)(a:l.length<=1000):nu l l=some true:=by
 unfold nu;rw[show ((l.length:Int) != (l.length:Int))=false by simp];simp only[cond_false]
 rw[alike l a (fun i x s b c=>by
  unfold q7;rw[show decide ((s,(i:Int)).2<(l.length:Int))=true by simp;omega]
  simp only[cond_true,gw b,af,bne_self_eq_false,cond_false]) (fun s=>by
  unfold q7;rw[show decide ((s,(l.length:Int)).2<(l.length:Int))=false by simp]
  rfl)]
 rfl
def kO (u:aj)(s:aP):au:=e4 ⟨u.bH,1⟩ (cE u s).2
def fA (a b:au):au:=cond (bC b a) b a
section
variable {u:aj}{s:aP}(F:Fit u)(hs:(1<=s.back/\s.back<=20)/\0<=s.high/\s.high<=60)
include F hs
theorem M8:nj u s=some (kO u s):=by
 obtain ⟨r,k1,a⟩:=Js F hs;obtain ⟨c,-,e2,h3,b⟩:=pI F hs;unfold yI at a;rw[b] at a;simp only[af,Dn (vg F hs) (rZ F hs)] at a;rw[k1,<-a];rfl
theorem M9:SR (kO u s):=(M4 F hs).1.mono (by decide) (by decide)
end
section
variable {u:aj}(F:Fit u)(h:dZ u = some 0){i:Nat}{e:bO}(he:u.an[i]? = some e)
include F h he
theorem Aa:ek u [eY (i:Int)]=some (u,0):=by
 have hi:i<u.an.length:=(List.getElem?_eq_some_iff.1 he).1;rw[yR h (JV u i),(JW F).2 ⟨by omega,by omega⟩];rfl
theorem Ab:jM u (i:Int)=some (if (bM u).isEmpty then ([],9) else (cq u i e,0)):=by
 unfold jM;rw[n4 F (Aa F h he)];cases hs:(bM u).isEmpty with
 |true=>rfl
 |false=>
  simp only[af,Bool.false_eq_true,if_false,bne_self_eq_false,cond_false];rw[vl F (by intro c;rw[c] at hs;cases hs) he]
omit h in
theorem jo {n:Int}(a:n∈cq u i e):(1<=e.back/\e.back<=20)/\0<=n/\n<=60:=by
 obtain ⟨c1,c2,c3,c4,b⟩:=F.aS _ _ he;have:=r9.1 (List.mem_filter.1 a).1;exact ⟨c1,by omega,by omega⟩
omit h in
theorem Na (aG:bM u≠[]):bE (pg (i:Int) (⟨u,(bM u).map cR⟩,0)) 0 (cq u i e) []=some (.nx ((cq u i e).map fun n=>kO u ⟨e.back,n⟩)):=by
 have hlen:(cq u i e).length<=3:=by
  obtain ⟨c,T,h1,h2,h3⟩:=sn F aG he;rw[h3,List.length_map];exact (vk h2).2
 have key:=fe (f:=pg (i:Int) (⟨u,(bM u).map cR⟩,0)) (g:=fun _ n (s:List au)=>s++(fun n:Int=>[kO u ⟨e.back,n⟩]) n) (I:=fun j s=>s.length<=j/\j<=3) (cq u i e) 0 [] ⟨by simp,by omega⟩
  (fun j n s a b=>by
   have d:j<(cq u i e).length:=(List.getElem?_eq_some_iff.1 a).1;have hb:=jo F he (List.mem_of_getElem? a);refine ⟨?_,?_⟩
   .unfold pg iC;simp only[af,gw he,M8 F (s:=⟨e.back,n⟩) hb];unfold cG;rw[if_pos (by simp;omega)]
   .simp only[List.length_append,List.length_singleton];omega)
 rw[key.1,nZ,List.nil_append,sk]
theorem Nb:∀(l:List au) (a:au),SR a->(∀x,x∈l->SR x)->gm eB a l=some (foldI (fun _ y st=>cj st y) 0 l a):=fun l a d e=>by
 unfold gm
 rw[(fe (f:=k9 eB) (ρ:=au) (g:=fun _ y st=>cj st y) (I:=fun _ st=>SR st) l 0 a d fun j x st h b=>by
  have c:=e x (List.mem_of_getElem? h)
  refine ⟨?_,lC b c⟩
  unfold k9
  simp only[(jb b c).2,af]
  unfold cj
  cases bC st x<;>rfl).1]
 rfl
theorem Nc:∀(l:List au) (a:au),SR a->(∀x,x∈l->SR x)->gm nc a l=some (foldI (fun _ y st=>fA st y) 0 l a):=fun l a d e=>by
 unfold gm
 rw[(fe (f:=k9 nc) (ρ:=au) (g:=fun _ y st=>fA st y) (I:=fun _ st=>SR st) l 0 a d fun j x st h b=>by
  have c:=e x (List.mem_of_getElem? h)
  refine ⟨?_,by unfold fA;cases bC x st;exact b;exact c⟩
  unfold k9 nc
  simp only[(jb c b).2,af]
  unfold fA
  cases bC x st<;>rfl).1]
 rfl
theorem Ac (hs:(bM u).isEmpty=true):iY u (i:Int)=some (⟨0,0⟩,⟨0,0⟩,9):=by
 unfold iY;rw[n4 F (Aa F h he),hs];rfl
theorem Ad (hs:(bM u).isEmpty=false):∃a l,(cq u i e).map (fun n=>kO u ⟨e.back,n⟩)=a::l/\iY u (i:Int)=some (foldI (fun _ y st=>fA st y) 0 l a,foldI (fun _ y st=>cj st y) 0 l a,0):=by
 have aG:bM u≠[]:=by intro c;rw[c] at hs;cases hs
 unfold iY;rw[n4 F (Aa F h he),hs];simp only[af,Bool.false_eq_true,if_false,bne_self_eq_false,cond_false];rw[vl F aG he];simp only[Na F he aG,aC];have b:∀x,x∈(cq u i e).map (fun n=>kO u ⟨e.back,n⟩)->SR x:=fun x d=>by
  rw[List.mem_map] at d;obtain ⟨n,g,rfl⟩:=d;exact M9 F (jo F he g)
 have f:(cq u i e).map (fun n=>kO u ⟨e.back,n⟩)≠[]:=by
  obtain ⟨c,T,h1,h2,h3⟩:=sn F aG he;have:=(vk h2).1;intro j;have:=congrArg List.length j;rw[List.length_map,h3,List.length_map] at this;simp at this;rw[this] at h2;revert h2;decide
 revert b f;generalize (cq u i e).map (fun n=>kO u ⟨e.back,n⟩)=L;intro b f
 match L,f with
 |a::l,_=>
  have y:e8 (a::l) 1 (((a::l).length:Nat):Int)=some l:=by
   unfold e8;rw[if_pos (by simp only[List.length_cons];omega)];simp
  simp only[show bh (a::l) 0=some a from rfl,y,Nb F h he l a (b a (by simp)) (fun x d=>b x (by simp[d])),Nc F h he l a (b a (by simp)) (fun x d=>b x (by simp[d]))];exact ⟨a,l,rfl,rfl⟩
end
abbrev Bd (s:aP):Prop:=(1<=s.back/\s.back<=20)/\0<=s.high/\s.high<=60
def wG (u:aj)(i:Nat)(n:Int)(st:Int×au):Int×au:=
 cond (dB u (cQ u i n)) (cond (bC st.2 (dD u (cQ u i n))) ((i:Int),dD u (cQ u i n)) st) st
def Ws (u:aj)(D:Nat->Int->Prop)(st:Int×au):Prop:=
 (st.1= -1/\st.2=⟨0,1⟩/\∀i n,D i n->dB u (cQ u i n)=false)\/
 ∃j n,D j n/\st.1=(j:Nat)/\st.2=dD u (cQ u j n)/\dB u (cQ u j n)=true/\
  ∀i m,D i m->dB u (cQ u i m)=true->bC st.2 (dD u (cQ u i m))=false/\(i<j->bC (dD u (cQ u i m)) st.2=true)
section
variable {u:aj}(F:Fit u)
include F
theorem qg {s:aP}(hs:Bd s):0<(dD u s).den:=(z9 F hs).1.den.1
theorem Nf {s:aP}(hs:Bd s)(h:dB u s=true):bC ⟨0,1⟩ (dD u s)=true:=by
 rw[se F hs] at h;have:=F.num;have hd:=F.den;have a:=qg F hs;unfold bC at*;simp only[decide_eq_true_eq,Int.zero_mul,Int.mul_one] at*;have h1:0<=u.aO.num*(dD u s).den:=Int.mul_nonneg this.1 (by omega);have h2:0<(dD u s).num*u.aO.den:=by omega
 exact Int.pos_of_mul_pos_left h2 (by omega)
theorem Ng {k:Nat}{n:Int}{D:Nat->Int->Prop}(f:∀i m,D i m->i<=k/\Bd (cQ u i m))(hb:Bd (cQ u k n)){st:Int×au}(W:Ws u D st):Ws u (fun i m=>D i m\/(i=k/\m=n)) (wG u k n st):=by
 unfold wG;cases hs:dB u (cQ u k n) with
 |false=>
  simp only[cond_false];rcases W with ⟨w1,w2,w3⟩|⟨j,m,w1,w2,w3,w4,e⟩
  .exact .inl ⟨w1,w2,fun i m h=>by rcases h with h|⟨rfl,rfl⟩;exact w3 i m h;exact hs⟩
  .exact .inr ⟨j,m,.inl w1,w2,w3,w4,fun i d h a=>by
    rcases h with h|⟨rfl,rfl⟩
    .exact e i d h a
    .rw[hs] at a;cases a⟩
 |true=>
  simp only[cond_true];have key:bC st.2 (dD u (cQ u k n))=true->(∀i m,D i m->dB u (cQ u i m)=true->bC st.2 (dD u (cQ u i m))=false)->0<st.2.den->Ws u (fun i m=>D i m\/(i=k/\m=n)) ((k:Int),dD u (cQ u k n)):=fun b g l=>
   .inr ⟨k,n,.inr ⟨rfl,rfl⟩,rfl,rfl,hs,fun i m h a=>by
    rcases h with h|⟨rfl,rfl⟩
    .have hi:=f i m h;exact ⟨yU (qg F hi.2) l (qg F hb) (g i m h a) b,fun _=>y6 (qg F hi.2) l (qg F hb) (g i m h a) b⟩
    .exact ⟨jd _,fun c=>absurd c (by omega)⟩⟩
  rcases W with ⟨w1,w2,w3⟩|⟨j,m,w1,w2,w3,w4,e⟩
  .have b:bC st.2 (dD u (cQ u k n))=true:=by rw[w2];exact Nf F hb hs
   rw[b];refine key b (fun i m h a=>?_) (by rw[w2];decide);rw[w3 i m h] at a;cases a
  .cases b:bC st.2 (dD u (cQ u k n)) with
   |true=>exact key b (fun i d h a=>(e i d h a).1) (by rw[w3];exact qg F (f j m w1).2)
   |false=>
    refine .inr ⟨j,m,.inl w1,w2,w3,w4,fun i d h a=>?_⟩;rcases h with h|⟨rfl,rfl⟩
    .exact e i d h a
    .exact ⟨b,fun c=>absurd (f j m w1).1 (by omega)⟩
omit F in
theorem vU {D E:Nat->Int->Prop}{st:Int×au}(h:∀i m,D i m↔E i m)(W:Ws u D st):Ws u E st:=by
 have:D=E:=by funext i m;exact propext (h i m)
 rw[<-this];exact W
omit F in
theorem gE {i:Nat}{e:bO}(he:u.an[i]?=some e)(n:Int):cQ u i n=⟨e.back,n⟩:=by unfold cQ;rw[he];rfl
def hU (u:aj)(k:Nat)(i:Nat)(m:Int):Prop:=i<k/\∃e,u.an[i]?=some e/\m∈cq u i e
theorem Ae {st:Int×au}{D:Nat->Int->Prop}(a:∀i m,D i m->Bd (cQ u i m))(W:Ws u D st):Sm st.2 300000000 800000/\Lw st.2:=by
 rcases W with ⟨w1,w2,w3⟩|⟨j,m,w1,w2,w3,w4,b⟩
 .rw[w2];exact ⟨⟨by decide,by decide,by decide⟩,E3⟩
 .rw[w3];exact z9 F (a j m w1)
omit F in
theorem vV {α:Type}{l:List α}{j:Nat}{x y:α}(h:l[j]?=some x):y∈l.take (j+1)↔y∈l.take j\/y=x:=by
 rw[List.take_add_one,h];simp
theorem Nh (aG:bM u≠[]){k:Nat}{e:bO}(he:u.an[k]?=some e){st:Int×au}(W:Ws u (hU u k) st):
  ∃a,bE (nC (⟨u,(bM u).map cR⟩,0) k) 0 (cq u k e) (st.1,st.2)=some (.nx a)/\Ws u (hU u (k+1)) a:=by
 have p:∀i m,hU u k i m->Bd (cQ u i m):=fun i m h=>by
  obtain ⟨h1,b,h2,h3⟩:=h
  rw[gE h2];exact jo F h2 h3
 have key:=fe (f:=nC (⟨u,(bM u).map cR⟩,0) k) (ρ:=Int×au×Int) (g:=fun _ n st=>wG u k n st) (I:=fun j st=>Ws u (fun i m=>hU u k i m\/(i=k/\m∈(cq u k e).take j)) st) (cq u k e) 0 st
  (vU (fun i m=>by simp) W)
  (fun j n st d l=>by
   have hm:=List.mem_of_getElem? d
   have hb:Bd ⟨e.back,n⟩:=jo F he hm
   have q:Bd (cQ u k n):=by rw[gE he];exact hb
   have o:∀i m,hU u k i m\/(i=k/\m∈(cq u k e).take (0+j))->i<=k/\Bd (cQ u i m):=fun i m h=>by
    rcases h with h|⟨rfl,h⟩
    .exact ⟨by have:=h.1;omega,p i m h⟩
    .exact ⟨Nat.le_refl _,by rw[gE he];exact jo F he (List.mem_of_mem_take h)⟩
   have r:=nU (Ae F (fun i m h=>(o i m h).2) l).1 (z9 F (s:=⟨e.back,n⟩) hb).1 (by decide) (by decide)
   refine ⟨?_,vU (fun i m=>?_) (Ng F o q l)⟩
   .unfold nC iC
    simp only[gw he,af,(vf F (s:=⟨e.back,n⟩) hb).1,y9 F hb,r.2]
    unfold wG
    rw[gE he]
    cases dB u ⟨e.back,n⟩ with
    |false=>rfl
    |true=>
     simp only[cond_true]
     unfold bC
     cases decide (st.2.num*(dD u ⟨e.back,n⟩).den<(dD u ⟨e.back,n⟩).num*st.2.den)<;>rfl
   .rw[Nat.zero_add,vV d]
    constructor
    .rintro ((h|⟨h1,h2⟩)|⟨h1,h2⟩)
     .exact .inl h
     .exact .inr ⟨h1,.inl h2⟩
     .exact .inr ⟨h1,.inr h2⟩
    .rintro (h|⟨h1,h2|h2⟩)
     .exact .inl (.inl h)
     .exact .inl (.inr ⟨h1,h2⟩)
     .exact .inr ⟨h1,h2⟩)
 refine ⟨_,key.1,vU (fun i m=>?_) key.2⟩
 rw[Nat.zero_add,List.take_length]
 unfold hU
 constructor
 .rintro (⟨h1,h2⟩|⟨rfl,h⟩)
  .exact ⟨by omega,h2⟩
  .exact ⟨by omega,e,he,h⟩
 .rintro ⟨h1,b,h2,h3⟩
  by_cases c:i=k
  .subst c
   rw[he] at h2;cases h2
   exact .inr ⟨rfl,h3⟩
  .exact .inl ⟨by omega,b,h2,h3⟩
theorem Af (h:dZ u=some 0):((bM u).isEmpty=true/\jN u=some (0,⟨0,0⟩,9))\/
  ((bM u).isEmpty=false/\∃st,jN u=some (st.1,st.2,0)/\Ws u (fun i m=>∃e,u.an[i]?=some e/\m∈cq u i e) st):=by
 unfold jN
 rw[n4 F (pN h)]
 cases hs:(bM u).isEmpty with
 |true=>exact .inl ⟨rfl,rfl⟩
 |false=>
  right
  have aG:bM u≠[]:=by intro c;rw[c] at hs;cases hs
  refine ⟨rfl,?_⟩
  simp only[af,Bool.false_eq_true,if_false,bne_self_eq_false,cond_false]
  have key:=fe (f:=rH (⟨u,(bM u).map cR⟩,0)) (ρ:=Int×au×Int)
   (g:=fun i e st=>match bE (nC (⟨u,(bM u).map cR⟩,0) i) 0 (cq u i e) (st.1,st.2) with|some (.nx s)=>s|_=>st)
   (I:=fun i st=>Ws u (hU u i) st) u.an 0 (-1,⟨0,1⟩) (.inl ⟨rfl,rfl,fun i n b=>absurd b.1 (by omega)⟩)
   (fun j e st he a=>by
    rw[Nat.zero_add] at a ⊢
    obtain ⟨s1,k1,d⟩:=Nh F aG he a
    simp only[k1]
    refine ⟨?_,d⟩
    unfold rH
    simp only[vl F aG he,af,k1,aC])
  refine ⟨_,?_,vU (fun i m=>?_) key.2⟩
  .unfold gk
   simp only[key.1,aC]
  .rw[Nat.zero_add]
   unfold hU
   constructor
   .exact fun x=>x.2
   .rintro ⟨e,he,hm⟩
    exact ⟨(List.getElem?_eq_some_iff.1 he).1,e,he,hm⟩
end
theorem Ni (l:List aP)(x:aP):q9 l x=some (l.any fun y=>x.back==y.back&&x.high==y.high):=by
 unfold q9 tO
 rw[vc (t:=fun i y=>if (x.back==y.back&&x.high==y.high) then some (i:Int) else none) l 0 0 fun j y s a=>by
  unfold tN
  cases (x.back==y.back&&x.high==y.high)<;>rfl]
 obtain ⟨r,h1,h2⟩:=ve (g:=fun y=>x.back==y.back&&x.high==y.high) l 0;rw[h1,<-h2];cases r with
 |none=>rfl
 |some n=>simp[af,aC,mw]
theorem Nj (l:List aP)(x:aP):(l.any fun y=>x.back==y.back&&x.high==y.high)=true↔x∈l:=by
 rw[List.any_eq_true];constructor
 .rintro ⟨y,a,e⟩;simp only[Bool.and_eq_true,beq_iff_eq] at e;obtain ⟨e1,e2⟩:=e;cases x;cases y;simp only at e1 e2;subst e1;subst e2;exact a
 .exact fun h=>⟨x,h,by simp⟩
def Sg (u:aj)(D:Nat->Int->Prop)(m:Nat)(l:List aP):Prop:=l.length<=m/\∀s,s∈l↔∃i n,D i n/\s=cQ u i n
section
variable {u:aj}(F:Fit u)(aG:bM u ≠ [])
theorem E6 {D E:Nat->Int->Prop}{m k:Nat}{l:List aP}(h:∀i m,D i m↔E i m)(a:m<=k)(W:Sg u D m l):Sg u E k l:=by
 have:D=E:=by funext i m;exact propext (h i m)
 rw[<-this];exact ⟨Nat.le_trans W.1 a,W.2⟩
include F aG
theorem Ah {i:Nat}{e:bO}(he:u.an[i]?=some e):1<=(cq u i e).length/\(cq u i e).length<=3:=by
 obtain ⟨c,T,h1,h2,h3⟩:=sn F aG he;rw[h3,List.length_map];exact vk h2
theorem Nk {k:Nat}{e:bO}(he:u.an[k]?=some e){l:List aP}(W:Sg u (hU u k) (3*k) l):
  ∃o,bE (mh ⟨u,(bM u).map cR⟩ k) 0 (cq u k e) l=some (.nx o)/\Sg u (hU u (k+1)) (3*(k+1)) o:=by
 have t:=(Ah F aG he).2
 have v:k<u.an.length:=(List.getElem?_eq_some_iff.1 he).1
 have h3:=F.an
 have key:=fe (f:=mh ⟨u,(bM u).map cR⟩ k) (ρ:=List aP) (g:=fun _ n (l:List aP)=>cond (!(l.any fun y=>e.back==y.back&&n==y.high)) (l++[⟨e.back,n⟩]) l)
  (I:=fun j l=>j<=3/\Sg u (fun i m=>hU u k i m\/(i=k/\m∈(cq u k e).take j)) (3*k+j) l) (cq u k e) 0 l
  ⟨by omega,E6 (fun i m=>by simp) (by omega) W⟩
  (fun j n l b d=>by
   have w:j<(cq u k e).length:=(List.getElem?_eq_some_iff.1 b).1
   have p:=Nj l ⟨e.back,n⟩
   have q:=Ni l ⟨e.back,n⟩
   have h1:=d.2.1
   rw[Nat.zero_add] at d h1 ⊢
   refine ⟨?_,by omega,?_,fun s=>?_⟩
   .unfold mh iC
    simp only[gw he,af,q]
    cases (l.any fun y=>e.back==y.back&&n==y.high) with
    |true=>rfl
    |false=>
     simp only[Bool.not_false,cond_true]
     unfold cG
     rw[if_pos (by simp;omega)]
   .cases (l.any fun y=>e.back==y.back&&n==y.high)<;>simp<;>omega
   .have key:s∈(cond (!(l.any fun y=>e.back==y.back&&n==y.high)) (l++[⟨e.back,n⟩]) l)↔s∈l\/s=⟨e.back,n⟩:=by
     cases c:(l.any fun y=>e.back==y.back&&n==y.high) with
     |true=>
      simp only[Bool.not_true,cond_false]
      have:=p.1 c
      constructor
      .exact fun h=>.inl h
      .rintro (h|rfl)
       .exact h
       .exact this
     |false=>simp
    rw[key,d.2.2 s]
    constructor
    .rintro (⟨i,m,h,rfl⟩|rfl)
     .refine ⟨i,m,?_,rfl⟩
      rcases h with h|⟨h,a⟩
      .exact .inl h
      .exact .inr ⟨h,(vV b).2 (.inl a)⟩
     .exact ⟨k,n,.inr ⟨rfl,(vV b).2 (.inr rfl)⟩,(gE he n).symm⟩
    .rintro ⟨i,m,h,rfl⟩
     rcases h with h|⟨rfl,a⟩
     .exact .inl ⟨i,m,.inl h,rfl⟩
     .rcases (vV b).1 a with a|rfl
      .exact .inl ⟨i,m,.inr ⟨rfl,a⟩,rfl⟩
      .exact .inr (gE he m))
 refine ⟨_,key.1,E6 (fun i m=>?_) (by omega) key.2.2⟩
 rw[Nat.zero_add,List.take_length]
 unfold hU
 constructor
 .rintro (⟨h1,h2⟩|⟨rfl,h⟩)
  .exact ⟨by omega,h2⟩
  .exact ⟨by omega,e,he,h⟩
 .rintro ⟨h1,r,h2,h3⟩
  by_cases c:i=k
  .subst c
   rw[he] at h2;cases h2
   exact .inr ⟨rfl,h3⟩
  .exact .inl ⟨by omega,r,h2,h3⟩
theorem E7:∃l,o9 ⟨u,(bM u).map cR⟩=some l/\l≠[]/\l.length<=9/\∀s,s∈l↔∃i e n,u.an[i]?=some e/\n∈cq u i e/\s=⟨e.back,n⟩:=by
 have h3:=F.an;have key:=fe (f:=rE ⟨u,(bM u).map cR⟩) (ρ:=List aP)
  (g:=fun i e l=>match bE (mh ⟨u,(bM u).map cR⟩ i) 0 (cq u i e) l with|some (.nx s)=>s|_=>l)
  (I:=fun i l=>Sg u (hU u i) (3*i) l) u.an 0 [] ⟨by simp,fun s=>⟨fun h=>by simp at h,fun ⟨i,n,h,_⟩=>absurd h.1 (by omega)⟩⟩
  (fun j e l he b=>by
   rw[Nat.zero_add] at b ⊢;obtain ⟨s1,k1,d⟩:=Nk F aG he b;simp only[k1];refine ⟨?_,d⟩;unfold rE
   simp only[vl F aG he,af,k1,aC])
 obtain ⟨k1,d,k⟩:=key;have hm:∀s,s∈(foldI (fun i e l=>match bE (mh ⟨u,(bM u).map cR⟩ i) 0 (cq u i e) l with|some (.nx s)=>s|_=>l) 0 u.an [])↔∃i e n,u.an[i]?=some e/\n∈cq u i e/\s=⟨e.back,n⟩:=fun s=>by
  rw[k s];unfold hU;constructor
  .rintro ⟨i,n,⟨_,e,he,a⟩,rfl⟩;exact ⟨i,e,n,he,a,gE he n⟩
  .rintro ⟨i,e,n,he,a,rfl⟩;exact ⟨i,n,⟨by have:=(List.getElem?_eq_some_iff.1 he).1;omega,e,he,a⟩,(gE he n).symm⟩
 refine ⟨_,?_,?_,by omega,hm⟩
 .unfold o9;simp only[k1,af,aC]
 .have h0:u.an[0]?=some (u.an[0]'(by omega)):=List.getElem?_eq_getElem _;obtain ⟨f1,-⟩:=Ah F aG h0;obtain ⟨n,a⟩:=List.exists_mem_of_length_pos (l:=cq u 0 (u.an[0]'(by omega))) (by omega);intro c;have:=(hm ⟨_,n⟩).2 ⟨0,_,n,h0,a,rfl⟩;rw[c] at this;cases this
end
def gb (u o:aj):Bool:=(List.range u.an.length).all fun i=>match u.an[i]? with
 |some e=>(cq u i e).all fun n=>!dB o ⟨e.back,n⟩
 |none=>true
theorem Ai {u o:aj}:gb u o=true↔∀i e n,u.an[i]?=some e->n∈cq u i e->dB o ⟨e.back,n⟩=false:=by
 unfold gb;rw[List.all_eq_true];constructor
 .intro a i e n he b;have:=a i (by rw[List.mem_range];exact (List.getElem?_eq_some_iff.1 he).1);rw[he] at this;have:=List.all_eq_true.1 this n b;simpa using this
 .intro a i hi;have hi:i<u.an.length:=by simpa using hi
  have he:u.an[i]?=some u.an[i]:=List.getElem?_eq_getElem hi;rw[he];refine List.all_eq_true.2 fun n b=>?_;simpa using a i _ n he b
def pr (u:aj)(h:Int)(P:List Int):aj:=wp u (u.props++P.map fun p=>⟨p,h⟩)
def ey (u:aj):Int:=((u.ax[0]?).getD (⟨0,0⟩:bY)).aM
def dS (u:aj):Int:=((u.ax[u.ax.length - 1]?).getD (⟨0,0⟩:bY)).aM
section
variable {u:aj}(F:Fit u)
include F
theorem qh:∃a z,u.ax[0]?=some a/\u.ax[u.ax.length - 1]?=some z/\ey u=a.aM/\dS u=z.aM/\0<=a.aM/\a.aM<z.aM/\z.aM<=59:=by
 have e:=F.ax;have f:=F.bB;have b:u.ax[0]?=some (u.ax[0]'(by omega)):=List.getElem?_eq_getElem _;have c:u.ax[u.ax.length - 1]?=some (u.ax[u.ax.length - 1]'(by omega)):=List.getElem?_eq_getElem _;have g:=F.gQ _ _ b;have h:=F.gQ _ _ c;have d:=Dm F (u.ax.length - 2) 0 _ _ b (by rw[<-c];congr 1;omega);exact ⟨_,_,b,c,by unfold ey;rw[b];rfl,by unfold dS;rw[c];rfl,by omega,d,by omega⟩
theorem Aj (p:Int):eL u p=some (bN p (ey u) (dS u)):=by
 obtain ⟨a,z,d,e,e1,e2,-⟩:=qh F;obtain ⟨f,g,b,c,k1,h⟩:=rX u F p;rw[d] at b;cases b;rw[e] at c;cases c;rw[k1,e1,e2]
theorem E8 {p:Int}(h:ey u<=p/\p<=dS u):eL u p=some true:=by
 rw[Aj F,si h.1 h.2]
theorem Ak {h:Int}{P:List Int}(a:1<=h/\h<=20)(b:∀p,p∈P->ey u<=p/\p<=dS u)(e:u.props.length+P.length<=3):Fit (pr u h P):=by
 refine vh F (by simp;omega) fun x c=>?_;rcases List.mem_append.1 c with m|m
 .obtain ⟨i,hi⟩:=List.mem_iff_getElem?.1 m;exact F.prop i x hi
 .rw[List.mem_map] at m;obtain ⟨p,d,rfl⟩:=m;exact ⟨E8 F (b p d),a⟩
end
theorem E9:∀(l:List au) (i:Nat) (a:au),(∀x,x∈a::l->0<x.den)->foldI (fun _ y st=>fA st y) i l a∈a::l/\∀y,y∈a::l->bC y (foldI (fun _ y st=>fA st y) i l a)=false
 |[],i,a,h=>⟨List.mem_singleton.2 rfl,fun y d=>by rw[List.mem_singleton.1 d];exact jd _⟩
 |b::l,i,a,h=>by
  have j:=h a (by simp)
  have hb:=h b (by simp)
  unfold foldI
  have hm:fA a b=a\/fA a b=b:=by unfold fA;cases bC b a<;>simp
  have hd:0<(fA a b).den:=by rcases hm with e|e<;>rw[e]<;>assumption
  obtain ⟨h1,h2⟩:=E9 l (i+1) (fA a b) fun x f=>by
   rcases List.mem_cons.1 f with rfl|f
   .exact hd
   .exact h x (by simp[f])
  have g:0<(foldI (fun _ y st=>fA st y) (i+1) l (fA a b)).den:=by
   rcases List.mem_cons.1 h1 with e|e
   .rw[e];exact hd
   .exact h _ (by simp[e])
  refine ⟨?_,fun y d=>?_⟩
  .rcases List.mem_cons.1 h1 with e|e
   .rw[e];rcases hm with e|e<;>rw[e]<;>simp
   .simp[e]
  .have h0:=h2 _ (List.mem_cons_self ..)
   rcases List.mem_cons.1 d with rfl|d
   .refine pJ j hd g ?_ h0
    unfold fA
    cases c:bC b y
    .exact jd _
    .exact yV c
   rcases List.mem_cons.1 d with rfl|d
   .refine pJ hb hd g ?_ h0
    unfold fA
    cases c:bC y a
    .exact c
    .exact jd _
   .exact h2 y (by simp[d])
theorem Al:∀(l:List au) (i:Nat) (a:au),(∀x,x∈a::l->0<x.den)->foldI (fun _ y st=>cj st y) i l a∈a::l/\∀y,y∈a::l->bC (foldI (fun _ y st=>cj st y) i l a) y=false
 |[],i,a,h=>⟨List.mem_singleton.2 rfl,fun y d=>by rw[List.mem_singleton.1 d];exact jd _⟩
 |b::l,i,a,h=>by
  have j:=h a (by simp)
  have hb:=h b (by simp)
  unfold foldI
  have hm:cj a b=a\/cj a b=b:=by unfold cj;cases bC a b<;>simp
  have hd:0<(cj a b).den:=by rcases hm with e|e<;>rw[e]<;>assumption
  obtain ⟨h1,h2⟩:=Al l (i+1) (cj a b) fun x f=>by
   rcases List.mem_cons.1 f with rfl|f
   .exact hd
   .exact h x (by simp[f])
  have g:0<(foldI (fun _ y st=>cj st y) (i+1) l (cj a b)).den:=by
   rcases List.mem_cons.1 h1 with e|e
   .rw[e];exact hd
   .exact h _ (by simp[e])
  refine ⟨?_,fun y d=>?_⟩
  .rcases List.mem_cons.1 h1 with e|e
   .rw[e];rcases hm with e|e<;>rw[e]<;>simp
   .simp[e]
  .have h0:=h2 _ (List.mem_cons_self ..)
   rcases List.mem_cons.1 d with rfl|d
   .refine pJ g hd j h0 ?_
    unfold cj
    cases c:bC y b
    .exact jd _
    .exact yV c
   rcases List.mem_cons.1 d with rfl|d
   .refine pJ g hd hb h0 ?_
    unfold cj
    cases c:bC a y
    .exact c
    .exact jd _
   .exact h2 y (by simp[d])
section
variable {u:aj}{s:aP}(F:Fit u)(hs:Bd s)
include F hs
theorem Fa {P:List bL}(f:∀x,x∈P->eL u x.place=some true)(aG:P≠[]):
  (∃x,x∈P/\gx (wp u P) s=dj u s x)/\∀x,x∈P->bC (gx (wp u P) s) (dj u s x)=false:=by
 cases P with
 |nil=>exact absurd rfl aG
 |cons y P=>
  have e:gx (wp u (y::P)) s=foldI (fun _ z st=>cj st z) 1 (P.map (dj u s)) (dj u s y):=by
   unfold gx
   rw[Dr,pO]
   show foldI (gM u s) 1 P (dj u s y)=_
   have key:∀(l:List bL) (i:Nat) (b:au),0<i->foldI (gM u s) i l b=foldI (fun _ x st=>cj st (dj u s x)) i l b:=by
    intro l
    induction l with
    |nil=>intro i b _;rfl
    |cons x l ih=>
     intro i b hi
     unfold foldI
     rw[show gM u s i x b=cj b (dj u s x) by unfold gM;rw[if_neg (by omega)]]
     exact ih (i+1) _ (by omega)
   exact key P 1 _ (by omega)
  have hd:∀x,x∈dj u s y::P.map (dj u s)->0<x.den:=fun x a=>by
   rw[<-List.map_cons,List.mem_map] at a
   obtain ⟨z,c,rfl⟩:=a
   exact JM F hs (p:=z.place) (h:=z.dg) (f z c)
  obtain ⟨k1,d⟩:=Al (P.map (dj u s)) 1 (dj u s y) hd
  rw[<-e] at k1 d
  rw[<-List.map_cons,List.mem_map] at k1
  obtain ⟨z,c,g⟩:=k1
  exact ⟨⟨z,c,g.symm⟩,fun x a=>d _ (by rw[<-List.map_cons];exact List.mem_map.2 ⟨x,a,rfl⟩)⟩
theorem Fb {P Q:List bL}(G:Fit (wp u P))(g:Fit (wp u Q))(h:∀x,x∈P↔x∈Q):gx (wp u P) s=gx (wp u Q) s:=by
 by_cases c:P=[]
 .subst c;have:Q=[]:=List.eq_nil_iff_forall_not_mem.2 fun x d=>by have:=(h x).2 d;cases this
  rw[this]
 .have e:Q≠[]:=fun q=>c (List.eq_nil_iff_forall_not_mem.2 fun x d=>by have:=(h x).1 d;rw[q] at this;cases this);have f:∀x,x∈P->eL u x.place=some true:=fun x d=>by
   obtain ⟨i,hi⟩:=List.mem_iff_getElem?.1 d;exact (G.prop i x hi).1
  have j:∀x,x∈Q->eL u x.place=some true:=fun x d=>f x ((h x).2 d);obtain ⟨⟨x,d,ex⟩,a⟩:=Fa F hs f c;obtain ⟨⟨y,k,l⟩,b⟩:=Fa F hs j e;refine vm (E4 G hs c) (E4 g hs e) ?_ ?_
  .rw[l];exact a y ((h y).2 k)
  .rw[ex];exact b x ((h x).1 d)
theorem Fc {P Q:List bL}(G:Fit (wp u P))(a:Fit (wp u Q))(h:∀x,x∈P↔x∈Q)(b:P.length=Q.length):dD (wp u P) s=dD (wp u Q) s:=by
 have e:=Fb F hs G a h;have e2:mz (wp u P) s=mz (wp u Q) s:=by
  unfold mz;rw[show (wp u P).props.length=(wp u Q).props.length from b,e];rfl
 unfold dD;rw[e2];rfl
end
def rv (u:aj):aj:=⟨u.bB,u.bH,u.aO,u.ax,u.props.reverse,u.an.reverse,(u.told.map fun t=>(⟨(u.an.length:Int) - 1 - t.aS,t.bt⟩:bA)).reverse⟩
section
variable {u:aj}(F:Fit u)
theorem kP {i:Nat}(hi:i<u.an.length):(rv u).an[u.an.length - 1 - i]?=u.an[i]?:=by
 show u.an.reverse[u.an.length - 1 - i]?=_;rw[List.getElem?_reverse (by omega)];congr 1;omega
include F
theorem fM:Fit (rv u):=by
 have c:(rv u).an.length=u.an.length:=List.length_reverse ..;refine ⟨F.bB,F.bH,F.den,F.num,F.ax,F.gQ,F.nP,?_,fun i x a=>?_,by rw[c];exact F.an,fun i x a=>?_,?_,fun i x a=>?_⟩
 .show u.props.reverse.length<=3;rw[List.length_reverse];exact F.props
 .have:x∈u.props:=List.mem_reverse.1 (List.mem_of_getElem? (show u.props.reverse[i]?=some x from a));obtain ⟨j,b⟩:=List.mem_iff_getElem?.1 this;exact F.prop j x b
 .have:x∈u.an:=List.mem_reverse.1 (List.mem_of_getElem? (show u.an.reverse[i]?=some x from a));obtain ⟨j,b⟩:=List.mem_iff_getElem?.1 this;exact F.aS j x b
 .show (List.reverse _).length<=3;rw[List.length_reverse,List.length_map];exact F.told
 .have:x∈(u.told.map fun t=>(⟨(u.an.length:Int) - 1 - t.aS,t.bt⟩:bA)):=List.mem_reverse.1 (List.mem_of_getElem? a);rw[List.mem_map] at this;obtain ⟨t,ht,rfl⟩:=this;obtain ⟨j,b⟩:=List.mem_iff_getElem?.1 ht;have:=F.lB j t b;rw[c];exact ⟨by show 0<=(u.an.length:Int) - 1 - t.aS;omega,by show (u.an.length:Int) - 1 - t.aS<_;omega⟩
theorem jq (h:dZ u=some 0):dZ (rv u)=some 0:=
 JL (u:=rv u) (show gV u=0 from JK h) (fM F)
theorem Nl {s:aP}(hs:Bd s):gx (rv u) s=gx u s:=
 Fb F hs (P:=u.props.reverse) (Q:=u.props) (vh F (by rw[List.length_reverse];exact F.props) fun x a=>by
  obtain ⟨j,b⟩:=List.mem_iff_getElem?.1 (List.mem_reverse.1 a)
  exact F.prop j x b) F fun x=>List.mem_reverse
theorem Am {s:aP}(hs:Bd s):dD (rv u) s=dD u s:=
 Fc F hs (P:=u.props.reverse) (Q:=u.props) (vh F (by rw[List.length_reverse];exact F.props) fun x a=>by
  obtain ⟨j,b⟩:=List.mem_iff_getElem?.1 (List.mem_reverse.1 a)
  exact F.prop j x b) F (fun x=>List.mem_reverse) (List.length_reverse ..)
theorem vW {s:aP}(hs:Bd s):dB (rv u) s=dB u s:=by
 rw[se (fM F) hs,se F hs,Am F hs];rfl
theorem Nm {i:Nat}{e:bO}(he:u.an[i]?=some e){n:Int}(b:0<=n/\n<=60):lF (rv u) (u.an.length - 1 - i) n=lF u i n:=by
 have hi:i<u.an.length:=(List.getElem?_eq_some_iff.1 he).1;have hb:Bd ⟨e.back,n⟩:=⟨(F.aS i e he).1,b⟩
 have c:(rv u).an[u.an.length - 1 - i]?=some e:=by rw[kP hi,he]
 unfold lF;show (List.reverse (u.told.map _)).all _=_;rw[List.all_reverse,List.all_map];have e1:cQ (rv u) (u.an.length - 1 - i) n=⟨e.back,n⟩:=gE c n;have e2:cQ u i n=⟨e.back,n⟩:=gE he n;have one:∀t,t∈u.told->(((u.an.length:Int) - 1 - t.aS) != (((u.an.length - 1 - i:Nat)):Int))=(t.aS != (i:Int)):=fun t ht=>by
  obtain ⟨j,d⟩:=List.mem_iff_getElem?.1 ht;have ht:=F.lB j t d;rw[Bool.eq_iff_iff,bne_iff_ne,bne_iff_ne];omega
 rw[Bool.eq_iff_iff,List.all_eq_true,List.all_eq_true];simp only[Function.comp,e1,e2,vW F hb];constructor
 .intro a t ht;have:=a t ht
  rwa [one t ht] at this
 .intro a t ht;rw[one t ht];exact a t ht
theorem ot {i:Nat}{e:bO}(he:u.an[i]?=some e):cq (rv u) (u.an.length - 1 - i) e=cq u i e:=by
 unfold cq;refine List.filter_congr fun n a=>?_;have:=r9.1 a;obtain ⟨c1,c2,c3,c4,b⟩:=F.aS i e he;exact Nm F he ⟨by omega,by omega⟩
theorem Nn:kG (rv u)=(kG u).reverse:=by
 have a:(rv u).an.length=u.an.length:=List.length_reverse ..;refine List.ext_getElem? fun j=>?_;by_cases c:j<u.an.length
 .rw[List.getElem?_reverse (by rw[n7];exact c),n7];have hi:u.an.length - 1 - j<u.an.length:=by omega
  have he:u.an[u.an.length - 1 - j]?=some (u.an[u.an.length - 1 - j]'hi):=List.getElem?_eq_getElem hi;have b:(rv u).an[j]?=some (u.an[u.an.length - 1 - j]'hi):=by
   have:=kP hi;rw[show u.an.length - 1 - (u.an.length - 1 - j)=j by omega] at this;rw[this,he]
  have k:=ot F he;rw[show u.an.length - 1 - (u.an.length - 1 - j)=j by omega] at k;rw[sj b,sj he,k]
 .rw[List.getElem?_eq_none (by rw[n7,a];omega),List.getElem?_eq_none (by rw[List.length_reverse,n7];omega)]
omit F in
theorem Fe (x:List Int):∀S:List (List Int),(pL (S++[x])).length=(pL S).length*x.length
 |[]=>by rw[List.nil_append,kH,kH];simp
 |a::r=>by
  have:=Fe x r
  rw[kH,kH] at this
  rw[List.cons_append,kH,kH,List.map_cons,List.foldr_cons,this,List.map_cons,List.foldr_cons,Nat.mul_assoc]
omit F in
theorem Ff:∀S:List (List Int),(pL S.reverse).length=(pL S).length
 |[]=>rfl
 |a::r=>by
  rw[List.reverse_cons,Fe,Ff r,kH (a::r),List.map_cons,List.foldr_cons,<-kH,Nat.mul_comm]
theorem Fg:(bM (rv u)).length=(bM u).length:=by
 rw[vj F,vj (fM F),Nn F,Ff]
theorem jZ:(bM (rv u)).isEmpty=(bM u).isEmpty:=by
 have:=Fg F;cases h1:bM u<;>cases h2:bM (rv u)<;>rw[h1,h2] at this<;>simp at this<;>rfl
end
theorem No {u:aj}(h:Int)(P:List Int)(b:u.props.length+P.length<=1000):o3 u h P=some (pr u h P):=by
 unfold o3 rm;rw[if_pos (by omega)];have key:=fe (f:=ru h) (ρ:=aj) (g:=fun _ p (s:List bL)=>s++[(⟨p,h⟩:bL)]) (I:=fun j s=>s.length<=u.props.length+j) P 0 u.props (by omega)
  (fun j p s a c=>by
   have d:=(List.getElem?_eq_some_iff.1 a).1;refine ⟨?_,by simp only[List.length_append,List.length_singleton];omega⟩;unfold ru
   simp only[af,g8 (l:=s) (xs:=[(⟨p,h⟩:bL)]) (by simp only[List.length_singleton];omega)])
 have e:foldI (fun _ p (s:List bL)=>s++[(⟨p,h⟩:bL)]) 0 P u.props=u.props++P.map fun p=>⟨p,h⟩:=by
  rw[show (fun _ p (s:List bL)=>s++[(⟨p,h⟩:bL)])=(fun _ p (s:List bL)=>s++(fun p=>[(⟨p,h⟩:bL)]) p) from rfl,nZ,sk]
 simp only[af,key.1,aC,e];rfl
theorem Np {o:aj}(L:List aP)(h:∀s,s∈L->gq o s=some (dB o s)):oU o L=some (!L.any (dB o)):=by
 unfold oU tT tS
 rw[vc (t:=fun i x=>if dB o x then some (i:Int) else none) L 0 0 fun j x s a=>by
  unfold tR;rw[h x (List.mem_of_getElem? a)]
  cases dB o x<;>rfl]
 obtain ⟨r,h1,h2⟩:=ve (g:=dB o) L 0;rw[h1,<-h2];cases r<;>rfl
def qi (u:aj)(P:List Int):Prop:=(∀p,p∈P->ey u<=p/\p<=dS u)/\u.props.length+P.length<=3
theorem Fh {f:List Int->Option Bool}{g:List Int->Bool}:∀(l:List (List Int)),(∀x,x∈l->f x=some (g x))->oh f l=some (l.map g)
 |[],_=>rfl
 |x::l,h=>by
  unfold oh
  rw[h x (by simp),Fh l fun y a=>h y (by simp[a])]
  rfl
section
variable {u:aj}(F:Fit u)(aG:bM u ≠ [])
include F aG
theorem Nq {h:Int}(f:1<=h/\h<=20){L:List aP}(c:∀s,s∈L↔∃i e n,u.an[i]?=some e/\n∈cq u i e/\s=⟨e.back,n⟩){P:List Int}(d:qi u P)(all:List aZ):
  vM ⟨u,all⟩ h L P=some (gb u (pr u h P)):=by
 have G:=Ak F f d.1 d.2
 unfold vM
 simp only[No (u:=u) h P (by have:=d.2;omega),af]
 rw[Np L fun s hs=>by
  obtain ⟨i,e,n,he,b,rfl⟩:=(c s).1 hs
  exact (vf G (jo F he b)).1]
 refine congrArg some ?_
 rw[Bool.eq_iff_iff,Ai,Bool.not_eq_true',List.any_eq_false]
 constructor
 .intro a i e n he b
  have:=a _ ((c _).2 ⟨i,e,n,he,b,rfl⟩)
  simpa using this
 .intro a s hs
  obtain ⟨i,e,n,he,b,rfl⟩:=(c s).1 hs
  simp[a i e n he b]
theorem Nr {h:Int}(b:1<=h/\h<=20){S:List (List Int)}(c:∀P,P∈S->qi u P)(o:S.length<=1000000):
  qd ⟨u,(bM u).map cR⟩ h S=some (S.filter fun P=>gb u (pr u h P)):=by
 obtain ⟨L,k1,p,q,d⟩:=E7 F aG
 have k:=Fh (f:=vM ⟨u,(bM u).map cR⟩ h L) (g:=fun P=>gb u (pr u h P)) S fun P m=>Nq F aG b d (c P m) _
 have key:=fe (f:=sD (S.map fun P=>gb u (pr u h P))) (ρ:=List (List Int)) (g:=fun _ P s=>if gb u (pr u h P) then s++[P] else s) (I:=fun j s=>s.length<=j) S 0 [] (by simp)
  (fun j P s a n=>by
   have r:=(List.getElem?_eq_some_iff.1 a).1
   have hg:(S.map fun P=>gb u (pr u h P))[0+j]?=some (gb u (pr u h P)):=by rw[Nat.zero_add,List.getElem?_map,a];rfl
   rw[Nat.zero_add] at hg n ⊢
   unfold sD
   simp only[gw hg,af]
   cases gb u (pr u h P) with
   |false=>exact ⟨rfl,by simp only[Bool.false_eq_true,if_false];omega⟩
   |true=>exact ⟨by simp only[cond_true,g8 (l:=s) (xs:=[P]) (by simp only[List.length_singleton];omega),if_true],by simp only[if_true,List.length_append,List.length_singleton];omega⟩)
 have e:∀(l:List (List Int)) (i:Nat) (s:List (List Int)),foldI (fun _ P s=>if gb u (pr u h P) then s++[P] else s) i l s=s++l.filter fun P=>gb u (pr u h P):=by
  intro l
  induction l with
  |nil=>intro i s;simp[foldI]
  |cons P l ih=>
   intro i s
   unfold foldI
   rw[ih]
   cases hb:gb u (pr u h P)<;>simp[List.filter,hb]
 unfold qd
 rw[decide_eq_true (show S.length<1048576 by omega)]
 simp only[cond_true,k1,af,k,key.1,aC,e,List.nil_append]
end
section
variable {u:aj}(F:Fit u)
include F
def qj (u:aj)(P:List Int):Int:=match P.getLast? with
 |some p=>p+1
 |none=>ey u
def j0 (u:aj)(P:List Int):List (List Int):=(cH ⟨qj u P,dS u⟩).map fun p=>P++[p]
theorem An (f:List Int->List (List Int)×Int->Option (Fl (List (List Int)×Int) (List (List Int))))
  (b:∀P st,f P st=af (eL u st.2) fun x=>cond x (af (oW P) fun y=>af (cG y ([st.2])) fun z=>af (cG st.1 ([z])) fun w=>some (.nx (w,IntKind.i64.wrap (st.2+1)))) (some (.bk (st.1,st.2))))
  {P:List Int} (d:P.length<=1000):∀(k n:Nat) (p:Int) (s:List (List Int)),ey u<=p->(dS u+1 - p).toNat=k->k<n->s.length+k<=1000000->
  ∃q,aU (f P) n (s,p)=some (.nx (s++(cH ⟨p,dS u⟩).map (fun p=>P++[p]),q))
 |0,n+1,p,s,h0,e,_,_=>by
  obtain ⟨a,z,-,-,e1,e2,g,b2,b3⟩:=qh F
  refine ⟨p,?_⟩
  unfold aU
  rw[b,Aj F,show bN p (ey u) (dS u)=false by cases c:bN p (ey u) (dS u) with|false=>rfl|true=>have:=dR.1 c;omega,Dw (by omega)]
  simp[af]
 |k+1,n+1,p,s,h0,e,h,hs=>by
  obtain ⟨a,z,-,-,e1,e2,g,b2,b3⟩:=qh F
  obtain ⟨q,ih⟩:=An f b d k n (p+1) (s++[P++[p]]) (by omega) (by omega) (by omega) (by simp only[List.length_append,List.length_singleton];omega)
  refine ⟨q,?_⟩
  unfold aU
  rw[b,Aj F,si h0 (by omega)]
  unfold oW
  simp only[af,cond_true,if_pos (show P.length<=1000000 by omega),g8 (l:=P) (xs:=[p]) (by simp only[List.length_singleton];omega),g8 (l:=s) (xs:=[P++[p]]) (by simp only[List.length_singleton];omega)]
  rw[b9 (n:=p+1) (by omega),ih,ze (show p<=dS u by omega)]
  simp
theorem Ns {S:List (List Int)}(j:∀P,P∈S->qi u P)(k:(S.flatMap (j0 u)).length<=1000000)(h1:S.length<=1000000):o6 u S=some (S.flatMap (j0 u)):=by
 obtain ⟨a,z,l,-,e1,e2,t,b2,b3⟩:=qh F;have key:∀(T:List (List Int)) (i:Nat) (s:List (List Int)),(∀P,P∈T->qi u P)->s.length+(T.flatMap (j0 u)).length<=1000000->bE (o5 u) i T s=some (.nx (s++T.flatMap (j0 u))):=by
  intro T
  induction T with
  |nil=>intro i s _ _;simp[bE]
  |cons P T ih=>
   intro i s f hs;rw[List.flatMap_cons,List.length_append] at hs;have g:=f P (by simp);have hlen:(j0 u P).length=(dS u+1 - qj u P).toNat:=by unfold j0;rw[List.length_map,mA];show (dS u - qj u P+1).toNat=_;congr 1;omega
   have one:o5 u i P s=some (.nx (s++j0 u P)):=by
    unfold o5;simp only[show bh u.ax 0=some a from gw l,af];cases c:P with
    |nil=>
     obtain ⟨q,b⟩:=An F (uj u) (fun _ _=>rfl) (P:=[]) (by simp) (dS u+1 - ey u).toNat fu (ey u) s (by omega) rfl (by unfold fu;omega) (by rw[hlen,c] at hs;have:qj u []=ey u:=rfl;rw[this] at hs;omega);rw[e1] at b;rw[show decide (0<((([]:List Int).length:Nat):Int))=false from rfl];simp only[cond_false,b,aC];rw[show j0 u []=(cH ⟨ey u,dS u⟩).map (fun p=>[]++[p]) from rfl,e1]
    |cons x r=>
     have d:P≠[]:=by rw[c];simp
     obtain ⟨p,e⟩:∃p,P.getLast?=some p:=by
      cases m:P.getLast? with
      |none=>exact absurd (List.getLast?_eq_none_iff.1 m) d
      |some p=>exact ⟨p,rfl⟩
     have hm:p∈P:=List.mem_of_getLast? e;have hb:=g.1 p hm;have h:qj u P=p+1:=by unfold qj;rw[e]
     have v:=g.2;have hi:bh P (IntKind.i64.wrap ((P.length:Int) - 1))=some p:=by
      have:0<P.length:=List.length_pos_iff.2 d;rw[b9 (by omega)];have h2:P[P.length - 1]?=some p:=by rw[<-List.getLast?_eq_getElem?];exact e
      have:=gw h2
      rwa [show (((P.length - 1:Nat)):Int)=(P.length:Int) - 1 by omega] at this
     obtain ⟨q,b⟩:=An F (uh u) (fun _ _=>rfl) (P:=P) (by omega) (dS u+1 - (p+1)).toNat fu (p+1) s (by omega) rfl (by unfold fu;omega) (by rw[hlen,h] at hs;omega);rw[<-c];rw[decide_eq_true (show (0:Int)<(P.length:Int) by have:0<P.length:=List.length_pos_iff.2 d;omega)];simp only[cond_true,hi];rw[b9 (n:=p+1) (by omega)];simp only[b,aC];unfold j0;rw[h]
   unfold bE;rw[one];simp only[af];rw[ih (i+1) (s++j0 u P) (fun Q o=>f Q (by simp[o])) (by rw[List.length_append];omega),List.flatMap_cons,List.append_assoc]
 unfold o6;rw[key S 0 [] j (by simpa using k)];simp[af,aC]
end
theorem Fi {S:List (List Int)}(j:Nat):(S.take j).flatten.length<=S.flatten.length:=by
 have:S.flatten=(S.take j).flatten++(S.drop j).flatten:=by rw[<-List.flatten_append,List.take_append_drop]
 rw[this,List.length_append];omega
theorem Fj {S:List (List Int)}{j:Nat}{x:List Int}(h:S[j]?=some x):(S.take (j+1)).flatten=(S.take j).flatten++x:=by
 rw[List.take_add_one,h];simp
theorem Nt {S:List (List Int)}(h:S.flatten.length<=1000):rD S=some S.flatten:=by
 obtain ⟨n,k1,d⟩:=y5 (f:=rC) (ρ:=List Int) (I:=fun j (s:Int)=>s=((S.take j).flatten.length:Int)) S 0 0 (by simp) (fun j x s c a=>by
  rw[Nat.zero_add] at a ⊢;have t:=Fj c;have b:=Fi (S:=S) (j+1);rw[t,List.length_append] at b;refine ⟨s+x.length,?_,by rw[a,t,List.length_append];omega⟩;unfold rC;rw[b9 (n:=s+x.length) (by omega),decide_eq_false (show ¬s+(x.length:Int)<0 by omega)]
  rfl)
 obtain ⟨r,g,e⟩:=y5 (f:=yu) (ρ:=List Int) (I:=fun j (s:List Int)=>s=(S.take j).flatten) S 0 [] (by simp) (fun j x s c a=>by
  rw[Nat.zero_add] at a ⊢;have t:=Fj c;have b:=Fi (S:=S) (j+1);rw[t,List.length_append] at b;refine ⟨s++x,?_,by rw[a,t]⟩;unfold yu;rw[g8 (l:=s) (xs:=x) (by rw[a];omega)]
  rfl)
 rw[Nat.zero_add,List.take_length] at d e;unfold rD uw;simp only[k1,af,aC,d,if_pos (show (0:Int)<=(S.flatten.length:Int)/\(S.flatten.length:Int)<=1000 by omega),g,e]
theorem Nu {u:aj}{f g:aj->Option Int}(h:dZ u=some 0)(a:f u=some 0)(hg:g u=some 0):ek u [f,g]=some (u,0):=by
 unfold ek;rw[h];simp only[af,bne_self_eq_false,cond_false];unfold bE oX;simp only[a,af,bne_self_eq_false,cond_false];unfold bE;simp only[hg,af,bne_self_eq_false,cond_false];rfl
theorem Fo {u:aj}{k:Int}(a:1<=k/\k<=20):gK k u=some 0:=by
 unfold gK;rw[kE,fc,si a.1 a.2];rfl
theorem Ao:∀l:List Int,(l.map fun p=>[p]).flatten=l
 |[]=>rfl
 |a::l=>by rw[List.map_cons,List.flatten_cons,Ao l];rfl
theorem Ap {u:aj}(F:Fit u)(h:dZ u=some 0)(m:u.props.length<3){k:Int}(e:1<=k/\k<=20):
  jm u k=some (if (bM u).isEmpty then ([],9) else ((cH ⟨ey u,dS u⟩).filter fun p=>gb u (pr u k [p]),0)):=by
 have s1:kB u=some 0:=by
  unfold kB
  rw[show ((u.props.length:Int)==3)=false by rw[beq_eq_false_iff_ne];omega]
  rfl
 unfold jm
 rw[n4 F (Nu h (Fo e) s1)]
 cases hs:(bM u).isEmpty with
 |true=>rfl
 |false=>
  have aG:bM u≠[]:=by intro c;rw[c] at hs;cases hs
  obtain ⟨a,z,-,-,e1,e2,n,b2,b3⟩:=qh F
  have hlen:(cH ⟨ey u,dS u⟩).length<=60:=by rw[mA];show (dS u - ey u+1).toNat<=60;omega
  have i:∀P,P∈[([]:List Int)]->qi u P:=fun P b=>by
   rw[List.mem_singleton] at b;subst b
   exact ⟨fun p d=>(by cases d),(by simp;omega)⟩
  have f:[([]:List Int)].flatMap (j0 u)=(cH ⟨ey u,dS u⟩).map fun p=>[p]:=by
   rw[List.flatMap_cons,List.flatMap_nil,List.append_nil];rfl
  have lv:=Ns F i (by rw[f,List.length_map];omega) (by simp)
  rw[f] at lv
  have zm:∀P,P∈(cH ⟨ey u,dS u⟩).map (fun p=>[p])->qi u P:=fun P b=>by
   rw[List.mem_map] at b
   obtain ⟨p,d,rfl⟩:=b
   have:=r9.1 d
   exact ⟨fun q j=>by rw[List.mem_singleton.1 j];exact this,by simp;omega⟩
  have g:=Nr F aG e zm (by rw[List.length_map];omega)
  rw[List.filter_map] at g
  have l:(((cH ⟨ey u,dS u⟩).filter ((fun P=>gb u (pr u k P)) ∘ fun p=>[p])).map fun p=>[p]).flatten.length<=1000:=by
   rw[Ao]
   exact Nat.le_trans (List.length_filter_le ..) (by omega)
  simp only[af,Bool.false_eq_true,if_false,bne_self_eq_false,cond_false,lv,g,Nt l,Ao]
  rfl
def j3 (a b:au):au:=bF (a.num*b.den+b.num*a.den) (a.den*b.den).toNat
theorem Nv {a b:au}{A B C D:Nat}(c:Sm a A B)(hb:Sm b C D):Sm (j3 a b) (A*D+C*B) (B*D)/\Lw (j3 a b):=by
 have d:Sm (⟨-b.num,b.den⟩:au) C D:=⟨by have:=hb.num;show (-b.num).natAbs<=C;omega,hb.den⟩
 have:=vT c d;have e:e4 a ⟨-b.num,b.den⟩=j3 a b:=by
  unfold e4 j3;simp only[Int.neg_mul];rw[Int.sub_neg]
 rw[e] at this;exact this
def ql (i:Nat)(x:bw)(st:bw):bw:=cond (bC x.high st.high) x st
theorem Fp:∀(l:List bw) (i:Nat) (c:bw),(foldI ql i l c).high=foldI (fun _ (x:bw) st=>fA st x.high) i l c.high
 |[],_,_=>rfl
 |x::l,i,c=>by
  unfold foldI
  rw[Fp l (i+1)]
  congr 1
  unfold ql fA
  cases bC x.high c.high<;>rfl
theorem Nw {c:bw}{l:List bw}(h:∀x,x∈c::l->SR x.high):∃m,iD fG c l=some m/\m.high=foldI (fun _ y st=>cj st y) 0 (l.map (·.high)) c.high:=by
 have hg:=fe (f:=jI fG) (ρ:=bw) (g:=gC) (I:=fun _ c=>SR c.high) l 0 c (h c (List.mem_cons_self ..)) (fun j x st d a=>by
  have b:SR x.high:=h x (List.mem_cons_of_mem _ (List.mem_of_getElem? d));refine ⟨?_,?_⟩
  .unfold jI fG gC;simp only[(jb a b).2,af];cases bC st.high x.high<;>rfl
  .unfold gC;cases bC st.high x.high
   .exact a
   .exact b)
 refine ⟨foldI gC 0 l c,?_,by rw[yZ,pO]⟩;unfold iD;rw[hg.1];rfl
theorem Ny {c:bw}{l:List bw}(h:∀x,x∈c::l->SR x.high):∃m,iD m9 c l=some m/\m.high=foldI (fun _ y st=>fA st y) 0 (l.map (·.high)) c.high:=by
 have hg:=fe (f:=jI m9) (ρ:=bw) (g:=ql) (I:=fun _ c=>SR c.high) l 0 c (h c (List.mem_cons_self ..)) (fun j x st d a=>by
  have b:SR x.high:=h x (List.mem_cons_of_mem _ (List.mem_of_getElem? d));refine ⟨?_,?_⟩
  .unfold jI m9 fG ql;simp only[(jb b a).2,af];cases bC x.high st.high<;>rfl
  .unfold ql;cases bC x.high st.high
   .exact a
   .exact b)
 refine ⟨foldI ql 0 l c,?_,by rw[Fp,pO]⟩;unfold iD;rw[hg.1];rfl
theorem Nz {α:Type}(c:α)(l:List α):e8 (c::l) 1 (((c::l).length:Nat):Int)=some l:=by
 unfold e8;rw[if_pos (by simp only[List.length_cons];omega)];simp
def fN (u:aj)(s:aP):bw:=(kq u s).getD ⟨⟨0,⟨0,0⟩⟩,0,⟨0,0⟩⟩
section
variable {u:aj}(F:Fit u)
include F
theorem vX {s:aP}(hs:Bd s):kq u s=some (fN u s)/\(fN u s).high=(cE u s).2/\SR (fN u s).high:=by
 obtain ⟨c,h1,h2,h3,-⟩:=pI F hs;have e:fN u s=c:=by unfold fN;rw[h1];rfl
 rw[e];exact ⟨h1,by rw[<-h2],h3⟩
theorem NA {l:List aP}(b:l.length<=9)(hb:∀s,s∈l->Bd s)(K:cV)(a:K.book=u):bE (pe (K,0)) 0 l []=some (.nx (l.map (fN u))):=by
 have key:=fe (f:=pe (K,0)) (ρ:=au×au×Bool×Int) (g:=fun _ s (r:List bw)=>r++(fun s=>[fN u s]) s) (I:=fun j r=>r.length<=j/\j<=9) l 0 [] ⟨by simp,by omega⟩
  (fun j s r hs c=>by
   have d:j<l.length:=(List.getElem?_eq_some_iff.1 hs).1;refine ⟨?_,?_⟩
   .unfold pe;simp only[a,af,(vX F (hb s (List.mem_of_getElem? hs))).1];unfold cG;rw[if_pos (by simp;omega)]
   .simp only[List.length_append,List.length_singleton];omega)
 rw[key.1,nZ,List.nil_append,sk]
theorem vY (h:dZ u=some 0):((bM u).isEmpty=true/\iX u=some (⟨0,0⟩,⟨0,0⟩,false,9))\/
  ((bM u).isEmpty=false/\∃M m,(∃i e n,u.an[i]?=some e/\n∈cq u i e/\M=(cE u ⟨e.back,n⟩).2)/\(∃i e n,u.an[i]?=some e/\n∈cq u i e/\m=(cE u ⟨e.back,n⟩).2)/\
   (∀i e n,u.an[i]?=some e->n∈cq u i e->bC M (cE u ⟨e.back,n⟩).2=false/\bC (cE u ⟨e.back,n⟩).2 m=false)/\
   iX u=some (if bC (j3 m u.aO) (e4 M u.aO) then (⟨0,0⟩,⟨0,0⟩,false,0) else (e4 M u.aO,j3 m u.aO,true,0))):=by
 cases hs:(bM u).isEmpty with
 |true=>
  left
  refine ⟨rfl,?_⟩
  unfold iX
  rw[n4 F (pN h),hs]
  rfl
 |false=>
  right
  have aG:bM u≠[]:=by intro c;rw[c] at hs;cases hs
  obtain ⟨L,k1,D,E,k⟩:=E7 F aG
  have g:∀s,s∈L->Bd s:=fun s hs=>by
   obtain ⟨i,e,n,he,o,rfl⟩:=(k s).1 hs
   exact jo F he o
  have G:=NA F E g ⟨u,(bM u).map cR⟩ rfl
  obtain ⟨d,r,rfl⟩:∃a l,L=a::l:=by
   cases L with
   |nil=>exact absurd rfl D
   |cons a l=>exact ⟨a,l,rfl⟩
  have t:∀x,x∈fN u d::r.map (fN u)->SR x.high:=fun x j=>by
   rw[<-List.map_cons,List.mem_map] at j
   obtain ⟨s,hs,rfl⟩:=j
   exact (vX F (g s hs)).2.2
  obtain ⟨a,a1,a2⟩:=Nw t
  obtain ⟨b,H,b2⟩:=Ny t
  have I:(r.map (fN u)).map (·.high)=r.map fun s=>(cE u s).2:=by
   rw[List.map_map]
   exact List.map_congr_left fun s hs=>(vX F (g s (List.mem_cons_of_mem _ hs))).2.1
  have e0:(fN u d).high=(cE u d).2:=(vX F (g d (List.mem_cons_self ..))).2.1
  rw[I,e0] at a2 b2
  have hd:∀x,x∈(cE u d).2::r.map (fun s=>(cE u s).2)->0<x.den:=fun x j=>by
   rw[<-List.map_cons (f:=fun s=>(cE u s).2),List.mem_map] at j
   obtain ⟨s,hs,rfl⟩:=j
   exact (rZ F (g s hs)).den.1
  obtain ⟨p,p2⟩:=Al _ 0 _ hd
  obtain ⟨q,v⟩:=E9 _ 0 _ hd
  rw[<-a2] at p p2
  rw[<-b2] at q v
  rw[<-List.map_cons (f:=fun s=>(cE u s).2),List.mem_map] at p q
  obtain ⟨sp,w,z⟩:=p
  obtain ⟨sq,A,eq⟩:=q
  obtain ⟨i1,e1,n1,J,K,N⟩:=(k sp).1 w
  obtain ⟨i2,e2,n2,O,P,Q⟩:=(k sq).1 A
  refine ⟨rfl,a.high,b.high,⟨i1,e1,n1,J,K,by rw[<-z,N]⟩,⟨i2,e2,n2,O,P,by rw[<-eq,Q]⟩,fun i e n he o=>?_,?_⟩
  .have hm:(cE u ⟨e.back,n⟩).2∈(cE u d).2::r.map (fun s=>(cE u s).2):=by
    rw[<-List.map_cons (f:=fun s=>(cE u s).2)]
    exact List.mem_map.2 ⟨_,(k _).2 ⟨i,e,n,he,o,rfl⟩,rfl⟩
   exact ⟨p2 _ hm,v _ hm⟩
  .have f:=M7 F (g d (List.mem_cons_self ..))
   have B:Sm a.high 10000 100:=by rw[<-z];exact (sE F (g sp w)).1
   have C:Sm b.high 10000 100:=by rw[<-eq];exact (sE F (g sq A)).1
   have v1:jH a.high u.aO=some (e4 a.high u.aO):=uV B f (by decide) (by decide) (by decide)
   have v2:jG b.high u.aO=some (j3 b.high u.aO):=rV C f (by decide) (by decide)
   have R:eB (j3 b.high u.aO) (e4 a.high u.aO)=some (bC (j3 b.high u.aO) (e4 a.high u.aO)):=(nU (Nv C f).1 (vT B f).1 (by decide) (by decide)).2
   unfold iX
   rw[n4 F (pN h),hs]
   simp only[af,Bool.false_eq_true,if_false,bne_self_eq_false,cond_false,k1,G,aC]
   have y:e8 ((d::r).map (fN u)) 1 ((((d::r).map (fN u)).length:Nat):Int)=some (r.map (fN u)):=Nz (fN u d) (r.map (fN u))
   simp only[show bh ((d::r).map (fN u)) 0=some (fN u d) from rfl,y,a1,H,v1,v2,R]
   cases bC (j3 b.high u.aO) (e4 a.high u.aO)<;>rfl
end
section
variable {u:aj}(F:Fit u)(h:dZ u = some 0)
include F h
theorem NB {i:Nat}{e:bO}(he:u.an[i]?=some e):jM (rv u) ((u.an.length - 1 - i:Nat):Int)=jM u (i:Int):=by
 have hi:i<u.an.length:=(List.getElem?_eq_some_iff.1 he).1;have a:(rv u).an[u.an.length - 1 - i]?=some e:=by rw[kP hi,he]
 rw[Ab (fM F) (jq F h) a,Ab F h he,jZ F,ot F he]
theorem NC {i:Nat}{e:bO}(he:u.an[i]?=some e):iY (rv u) ((u.an.length - 1 - i:Nat):Int)=iY u (i:Int):=by
 have hi:i<u.an.length:=(List.getElem?_eq_some_iff.1 he).1;have c:(rv u).an[u.an.length - 1 - i]?=some e:=by rw[kP hi,he]
 cases hs:(bM u).isEmpty with
 |true=>rw[Ac (fM F) (jq F h) c (by rw[jZ F];exact hs),Ac F h he hs]
 |false=>
  obtain ⟨a,l,k1,d⟩:=Ad (fM F) (jq F h) c (by rw[jZ F];exact hs);obtain ⟨b,m,f,g⟩:=Ad F h he hs;rw[ot F he] at k1;have e1:(fun n=>kO (rv u) ⟨e.back,n⟩)=fun n=>kO u ⟨e.back,n⟩:=rfl;rw[e1,f] at k1;obtain ⟨rfl,rfl⟩:=List.cons.inj k1;rw[d,g]
omit h in
theorem Fq {i:Nat}{n:Int}:(∃e,(rv u).an[i]?=some e/\n∈cq (rv u) i e)↔i<u.an.length/\∃e,u.an[u.an.length - 1 - i]?=some e/\n∈cq u (u.an.length - 1 - i) e:=by
 have c:(rv u).an.length=u.an.length:=List.length_reverse ..;constructor
 .rintro ⟨e,he,b⟩;have hi:i<u.an.length:=by rw[<-c];exact (List.getElem?_eq_some_iff.1 he).1
  have a:u.an[u.an.length - 1 - i]?=some e:=by
   have:=kP (u:=u) (i:=u.an.length - 1 - i) (by omega);rw[show u.an.length - 1 - (u.an.length - 1 - i)=i by omega,he] at this;exact this.symm
  have k:=ot F a;rw[show u.an.length - 1 - (u.an.length - 1 - i)=i by omega] at k;rw[k] at b;exact ⟨hi,e,a,b⟩
 .rintro ⟨hi,e,he,b⟩;have a:=kP (u:=u) (i:=u.an.length - 1 - i) (by omega);have k:=ot F he;rw[show u.an.length - 1 - (u.an.length - 1 - i)=i by omega] at a k;exact ⟨e,by rw[a,he],by rw[k];exact b⟩
omit h in
theorem sF {P:aP->Prop}:(∃i e n,(rv u).an[i]?=some e/\n∈cq (rv u) i e/\P ⟨e.back,n⟩)↔∃i e n,u.an[i]?=some e/\n∈cq u i e/\P ⟨e.back,n⟩:=by
 have d:(rv u).an.length=u.an.length:=List.length_reverse ..;constructor
 .rintro ⟨i,e,n,he,a,b⟩;have hi:i<u.an.length:=by rw[<-d];exact (List.getElem?_eq_some_iff.1 he).1
  obtain ⟨-,g,c,f⟩:=(Fq F).1 ⟨e,he,a⟩;have:=kP (u:=u) (i:=u.an.length - 1 - i) (by omega);rw[show u.an.length - 1 - (u.an.length - 1 - i)=i by omega,he,c] at this;obtain rfl:=Option.some.inj this;exact ⟨_,e,n,c,f,b⟩
 .rintro ⟨i,e,n,he,a,b⟩;have hi:i<u.an.length:=(List.getElem?_eq_some_iff.1 he).1;exact ⟨u.an.length - 1 - i,e,n,by rw[kP hi,he],by rw[ot F he];exact a,b⟩
theorem ND:iX (rv u)=iX u:=by
 rcases vY F h with ⟨c,k⟩|⟨c,M,m,⟨i1,e1,n1,a1,o,r1⟩,⟨i2,e2,n2,a2,b2,r2⟩,g,k⟩
 .rcases vY (fM F) (jq F h) with ⟨-,d⟩|⟨a,-⟩
  .rw[k,d]
  .rw[jZ F,c] at a;cases a
 .rcases vY (fM F) (jq F h) with ⟨a,-⟩|⟨-,f,j,⟨i3,t,n3,a3,b3,r3⟩,⟨i4,v,w,a4,b4,x⟩,g',d⟩
  .rw[jZ F,c] at a;cases a
  .have y:∀s,(cE (rv u) s).2=(cE u s).2:=fun s=>rfl;have all:∀i e n,u.an[i]?=some e->n∈cq u i e->bC f (cE u ⟨e.back,n⟩).2=false/\bC (cE u ⟨e.back,n⟩).2 j=false:=fun i e n he l=>by
    obtain ⟨z,A,B,C,D,b⟩:=(sF F (P:=fun s=>s=⟨e.back,n⟩)).2 ⟨i,e,n,he,l,rfl⟩;have:=g' z A B C D;rw[y,b] at this;exact this
   obtain ⟨G,f3,p3,b,p,q⟩:=(sF F (P:=fun s=>f=(cE u s).2)).1 ⟨i3,t,n3,a3,b3,r3⟩;obtain ⟨H,f4,p4,r,o4,v4⟩:=(sF F (P:=fun s=>j=(cE u s).2)).1 ⟨i4,v,w,a4,b4,x⟩;have sm:∀i e n,u.an[i]?=some e->n∈cq u i e->Lw (cE u ⟨e.back,n⟩).2:=fun i e n he l=>(sE F (s:=⟨e.back,n⟩) (jo F he l)).2;have E:M=f:=by
    refine vm (by rw[r1];exact sm _ _ _ a1 o) (by rw[q];exact sm _ _ _ b p) ?_ ?_
    .rw[q];exact (g _ _ _ b p).1
    .rw[r1];exact (all _ _ _ a1 o).1
   have em:m=j:=by
    refine vm (by rw[r2];exact sm _ _ _ a2 b2) (by rw[v4];exact sm _ _ _ r o4) ?_ ?_
    .rw[r2];exact (all _ _ _ a2 b2).2
    .rw[v4];exact (g _ _ _ r o4).2
   rw[k,d,E,em];rfl
theorem NF:∃a b e r,jN u=some (a,e,r)/\jN (rv u)=some (b,e,r):=by
 rcases Af F h with ⟨c,k⟩|⟨c,s,k,W⟩
 .rcases Af (fM F) (jq F h) with ⟨-,o⟩|⟨d,-⟩
  .exact ⟨_,_,_,_,k,o⟩
  .rw[jZ F,c] at d;cases d
 .rcases Af (fM F) (jq F h) with ⟨d,-⟩|⟨-,t,o,V⟩
  .rw[jZ F,c] at d;cases d
  .have v:∀i m,(∃e,u.an[i]?=some e/\m∈cq u i e)->Bd (cQ u i m):=fun i m ⟨e,h1,h2⟩=>by rw[gE h1];exact jo F h1 h2
   have g:∀i m,(∃e,(rv u).an[i]?=some e/\m∈cq (rv u) i e)->Bd (cQ (rv u) i m):=fun i m ⟨e,h1,h2⟩=>by rw[gE h1];exact jo (fM F) h1 h2
   have A:=Ae F v W;have sv:=Ae (fM F) g V;have to:∀i m,(∃e,u.an[i]?=some e/\m∈cq u i e)->∃j,(∃e,(rv u).an[j]?=some e/\m∈cq (rv u) j e)/\cQ (rv u) j m=cQ u i m:=fun i m ⟨e,h1,h2⟩=>by
    have hi:i<u.an.length:=(List.getElem?_eq_some_iff.1 h1).1;have w:(rv u).an[u.an.length - 1 - i]?=some e:=by rw[kP hi,h1]
    exact ⟨u.an.length - 1 - i,⟨e,w,by rw[ot F h1];exact h2⟩,by rw[gE w,gE h1]⟩
   have ez:∀i m,(∃e,(rv u).an[i]?=some e/\m∈cq (rv u) i e)->∃j,(∃e,u.an[j]?=some e/\m∈cq u j e)/\cQ u j m=cQ (rv u) i m:=fun i m hd=>by
    obtain ⟨hi,e,he,B⟩:=(Fq F).1 hd;obtain ⟨e2,x,-⟩:=hd;refine ⟨_,⟨e,he,B⟩,?_⟩;have:=kP (u:=u) (i:=u.an.length - 1 - i) (by omega);rw[show u.an.length - 1 - (u.an.length - 1 - i)=i by omega,x,he] at this;obtain rfl:=Option.some.inj this;rw[gE he,gE x]
   have key:s.2=t.2:=by
    rcases W with ⟨w1,w2,w3⟩|⟨j,n,w1,w2,w3,w4,C⟩
    .rcases V with ⟨v1,v2,f⟩|⟨D,p,v1,v2,f,v4,y⟩
     .rw[w2,v2]
     .obtain ⟨i,hi,l⟩:=ez _ _ v1;have:=w3 i p hi;rw[l,<-vW F (g _ _ v1),v4] at this;cases this
    .obtain ⟨i,hi,l⟩:=to _ _ w1;have hb:=v _ _ w1;have q:dB (rv u) (cQ (rv u) i n)=true:=by rw[l,vW F hb];exact w4
     rcases V with ⟨v1,v2,f⟩|⟨D,p,v1,v2,f,v4,y⟩
     .rw[f i n hi] at q;cases q
     .refine vm A.2 sv.2 ?_ ?_
      .obtain ⟨E,G,z⟩:=ez _ _ v1;rw[f,Am F (g _ _ v1),<-z];exact (C E p G (by rw[z,<-vW F (g _ _ v1)];exact v4)).1
      .have:=(y i n hi q).1;rw[l,Am F hb] at this;rw[w3];exact this
   exact ⟨_,_,_,_,k,by rw[o,key]⟩
end
theorem NG {u:aj}{f g:aj->Option Int}{c:Int}(h:dZ u=some 0)(a:f u=some 0)(hg:g u=some c)(b:c≠0):ek u [f,g]=some (pH,c):=by
 have z:(c != 0)=true:=by simpa using b
 unfold ek;rw[h];simp only[af,bne_self_eq_false,cond_false];unfold bE oX;simp only[a,af,bne_self_eq_false,cond_false];unfold bE;simp only[hg,af,z,cond_true];rfl
theorem Aq {u:aj}(h:dZ u=some 0)(a:u.props.length=3){k:Int}(b:1<=k/\k<=20):jm u k=some ([],2):=by
 have s1:kB u=some 2:=by
  unfold kB;rw[a];rfl
 unfold jm;rw[JU (NG h (Fo b) s1 (by decide)) (by decide)];rfl
def lO (n:Nat)(l:List Int):List Int:=(l.map fun i=>(n:Int) - 1 - i).reverse
theorem Fs:∀n:Fin 4,∀l,l∈iM n.val->lO n.val l∈iM n.val/\(lO n.val l).length=l.length/\lO n.val (lO n.val l)=l:=by decide+kernel
theorem NH {f:bA->bA}:∀(T:List bA),T.length<=3->∀l,l∈iM T.length->g9 (T.map f).reverse (lO T.length l)=((g9 T l).map f).reverse:=by
 intro T e l h;rcases T with _|⟨a,_|⟨b,_|⟨c,_|⟨d,T⟩⟩⟩⟩
 .have h:l∈[[]]:=h;simp only[List.mem_cons,List.not_mem_nil,or_false] at h;subst h;rfl
 .have h:l∈[[],[0]]:=h;simp only[List.mem_cons,List.not_mem_nil,or_false] at h;rcases h with rfl|rfl;all_goals show (_:List bA)=_;kernel_rfl
 .have h:l∈[[],[0],[1],[0,1]]:=h;simp only[List.mem_cons,List.not_mem_nil,or_false] at h;rcases h with rfl|rfl|rfl|rfl;all_goals show (_:List bA)=_;kernel_rfl
 .have h:l∈[[],[0],[1],[0,1],[2],[0,2],[1,2],[0,1,2]]:=h;simp only[List.mem_cons,List.not_mem_nil,or_false] at h;rcases h with rfl|rfl|rfl|rfl|rfl|rfl|rfl|rfl;all_goals show (_:List bA)=_;kernel_rfl
 .simp only[List.length_cons] at e;omega
theorem NI {T:List bA}{l:List Int}:∀t,t∈g9 T l->t∈T:=fun t ht=>by
 unfold g9 at ht
 rw[List.mem_filterMap] at ht
 obtain ⟨i,_,hi⟩:=ht
 exact List.mem_of_getElem? hi
theorem NJ:∀n:Fin 4,∀l,l∈iM n.val->l.length<=3:=by decide+kernel
theorem NK {u v:aj}(s:aP)(h1:u.bB=v.bB)(h2:u.bH=v.bH)(h3:u.ax=v.ax)(a:u.props=v.props):dD u s=dD v s:=by
 obtain ⟨c,p,f,e,P,y,t⟩:=u;obtain ⟨b,d,g,h,i,y',j⟩:=v;simp only at h1 h2 h3 a;subst h1 h2 h3 a;rfl
section
variable {u:aj}(F:Fit u)(h:dZ u = some 0)
include F h
theorem NL {k:Int}(b:1<=k/\k<=20):jm (rv u) k=jm u k:=by
 have f:(rv u).props.length=u.props.length:=List.length_reverse ..;by_cases y:u.props.length<3
 .rw[Ap (fM F) (jq F h) (by rw[f];exact y) b,Ap F h y b,jZ F];have el:ey (rv u)=ey u:=rfl;have z:dS (rv u)=dS u:=rfl;rw[el,z];have:(cH ⟨ey u,dS u⟩).filter (fun p=>gb (rv u) (pr (rv u) k [p]))=(cH ⟨ey u,dS u⟩).filter (fun p=>gb u (pr u k [p])):=by
   refine List.filter_congr fun p c=>?_;have c:=r9.1 c;have G:=Ak F b (P:=[p]) (fun q g=>by rw[List.mem_singleton.1 g];exact c) (by simp;omega);have A:=Ak (fM F) b (P:=[p]) (fun q g=>by rw[List.mem_singleton.1 g];exact c) (by rw[f];simp;omega);have same:∀s,Bd s->dB (pr (rv u) k [p]) s=dB (pr u k [p]) s:=fun s hs=>by
    have e0:dD (pr (rv u) k [p]) s=dD (wp u (u.props.reverse++[⟨p,k⟩])) s:=NK s rfl rfl rfl rfl;have B:Fit (wp u (u.props.reverse++[⟨p,k⟩])):=vh F (by simp;omega) fun x C=>by
     rcases List.mem_append.1 C with m|m
     .obtain ⟨j,D⟩:=List.mem_iff_getElem?.1 (List.mem_reverse.1 m);exact F.prop j x D
     .rw[List.mem_singleton.1 m];exact ⟨E8 F c,b⟩
    have e:=Fc F hs (P:=u.props.reverse++[⟨p,k⟩]) (Q:=u.props++[(⟨p,k⟩:bL)]) B (show Fit (wp u (u.props++[(⟨p,k⟩:bL)])) from G) (fun x=>by simp) (by simp);rw[se A hs,se G hs,e0,e];rfl
   rw[Bool.eq_iff_iff,Ai,Ai];constructor
   .intro a i e n he d;cases E:dB (pr u k [p]) ⟨e.back,n⟩ with
    |false=>rfl
    |true=>
     obtain ⟨l,o,r,t,v,w⟩:=(sF F (P:=fun s=>s=⟨e.back,n⟩)).2 ⟨i,e,n,he,d,rfl⟩;have:=a l o r t v;rw[w,same _ (jo F he d),E] at this;cases this
   .intro a i e n he d;obtain ⟨l,o,r,t,v,w⟩:=(sF F (P:=fun s=>s=⟨e.back,n⟩)).1 ⟨i,e,n,he,d,rfl⟩;have:=a l o r t v;rw[w] at this;rw[same _ (jo (fM F) he d)];exact this
  rw[this]
 .have h3:=F.props;rw[Aq (jq F h) (by rw[f];omega) b,Aq h (by omega) b]
theorem Ft {l:List Int}(hm:l∈iM u.told.length):b7 (rv u) (g9 (rv u).told (lO u.told.length l))=b7 u (g9 u.told l):=by
 have a:=F.told;have b:=NJ ⟨u.told.length,by omega⟩ l hm;have h3:(g9 u.told l).length<=3:=Nat.le_trans (List.length_filterMap_le ..) b;have G:=zi F (S:=g9 u.told l) NI h3;have e:g9 (rv u).told (lO u.told.length l)=(rv (wt u (g9 u.told l))).told:=NH u.told a l hm;unfold b7;rw[e];exact jZ G
theorem NM (L:pM u):∃l l' r,iW u=some (l,r)/\iW (rv u)=some (l',r)/\l.length=l'.length:=by
 have j:=F.told;have ht:(rv u).told.length=u.told.length:=by show (List.reverse _).length=_;rw[List.length_reverse,List.length_map]
 have g:pM (rv u):=⟨L.e,by show u.props.reverse.length<=20;rw[List.length_reverse];exact L.p,by show u.an.reverse.length<=20;rw[List.length_reverse];exact L.y,by rw[ht];exact L.t⟩
 rcases zo F h L with ⟨c,k⟩|⟨c,l,k,M⟩
 .rcases zo (fM F) (jq F h) g with ⟨-,b⟩|⟨a,-⟩
  .exact ⟨_,_,_,k,b,rfl⟩
  .rw[jZ F,c] at a;cases a
 .rcases zo (fM F) (jq F h) g with ⟨a,-⟩|⟨-,l',b,d⟩
  .rw[jZ F,c] at a;cases a
  .refine ⟨_,_,_,k,b,?_⟩;have sm:∀x y:List Int,x.length<y.length->iJ x y=true:=fun x y m=>by
    unfold iJ nL;rw[decide_eq_true (show (x.length:Int)<(y.length:Int) by omega)];rfl
   obtain ⟨a1,a2,a3⟩:=Fs ⟨u.told.length,by omega⟩ l M.mem;have i:=d.mem;rw[ht] at i;obtain ⟨f,b2,b3⟩:=Fs ⟨u.told.length,by omega⟩ l' i;simp only at a1 a2 a3 f b2 b3;have n:¬(lO u.told.length l).length<l'.length:=fun q=>by
    have:=d.least _ (by rw[ht];exact a1) (by rw[Ft F h M.mem];exact M.D1);rw[sm _ _ q] at this;cases this
   have p2:¬(lO u.told.length l').length<l.length:=fun q=>by
    have o:=Ft F h f;rw[b3,d.D1] at o;have:=M.least _ f o.symm;rw[sm _ _ q] at this;cases this
   omega
end
theorem vZ {α β ρ:Type}{f:Int×List β->Option (Fl (Int×List β) ρ)}(g:α->β)(l:List α)(h:∀(i:Nat) x s,l[i]?=some x->s.length<=100->f ((i:Int),s)=some (.nx ((i:Int) - 1,s++[g x])))(a:∀s,f (-1,s)=some (.bk (-1,s))):
  ∀(k n:Nat) (s:List β),k<=l.length->k<n->s.length+k<=100->aU f n ((k:Int) - 1,s)=some (.nx (-1,s++((l.take k).map g).reverse))
 |0,n+1,s,_,_,_=>by
  unfold aU
  rw[show ((0:Nat):Int) - 1= -1 from rfl,a]
  simp[af]
 |k+1,n+1,s,c,d,hs=>by
  have b:l[k]?=some (l[k]'(by omega)):=List.getElem?_eq_getElem _
  unfold aU
  rw[show (((k+1:Nat)):Int) - 1=(k:Int) by omega,h k _ s b (by omega)]
  simp only[af]
  rw[vZ g l h a k n _ (by omega) (by omega) (by simp only[List.length_append,List.length_singleton];omega)]
  have e:((l.take (k+1)).map g).reverse=g (l[k]'(by omega))::((l.take k).map g).reverse:=by
   rw[List.take_add_one,b,List.map_append,List.reverse_append];rfl
  rw[e,List.append_assoc]
  rfl
section
variable {u:aj}(F:Fit u)
include F
theorem NN:aU (oq u) fu (IntKind.i64.wrap ((u.props.length:Int) - 1),([]:List bL))=some (.nx (-1,u.props.reverse)):=by
 have h3:=F.props
 have key:=vZ (f:=oq u) (ρ:=Bool) (fun x=>x) u.props (fun i x s a hs=>by
  have b:=(List.getElem?_eq_some_iff.1 a).1;unfold oq;rw[show decide (0<=(((i:Int),s):Int×List bL).1)=true by simp];simp only[cond_true,gw a,af,g8 (l:=s) (xs:=[x]) (by simp only[List.length_singleton];omega)]
  rw[b9 (n:=(i:Int) - 1) (by omega)]) (fun s=>by
  unfold oq
  rfl) u.props.length fu [] (Nat.le_refl _) (by unfold fu;omega) (by simp;omega)
 rw[b9 (by omega),key,List.take_length,List.map_id',List.nil_append]
theorem NO:aU (oo u) fu (IntKind.i64.wrap ((u.an.length:Int) - 1),([]:List bO))=some (.nx (-1,u.an.reverse)):=by
 have h3:=F.an
 have key:=vZ (f:=oo u) (ρ:=Bool) (fun x=>x) u.an (fun i x s a hs=>by
  have b:=(List.getElem?_eq_some_iff.1 a).1;unfold oo;rw[show decide (0<=(((i:Int),s):Int×List bO).1)=true by simp];simp only[cond_true,gw a,af,g8 (l:=s) (xs:=[x]) (by simp only[List.length_singleton];omega)]
  rw[b9 (n:=(i:Int) - 1) (by omega)]) (fun s=>by
  unfold oo
  rfl) u.an.length fu [] (Nat.le_refl _) (by unfold fu;omega) (by simp;omega)
 rw[b9 (by omega),key,List.take_length,List.map_id',List.nil_append]
theorem NP:aU (om u) fu (IntKind.i64.wrap ((u.told.length:Int) - 1),([]:List bA))=some (.nx (-1,(u.told.map fun t=>(⟨(u.an.length:Int) - 1 - t.aS,t.bt⟩:bA)).reverse)):=by
 have h3:=F.told;have d:=F.an
 have key:=vZ (f:=om u) (ρ:=Bool) (fun t=>(⟨(u.an.length:Int) - 1 - t.aS,t.bt⟩:bA)) u.told (fun i x s c hs=>by
  have e:=(List.getElem?_eq_some_iff.1 c).1;have g:=F.lB i x c;unfold om;rw[show decide (0<=(((i:Int),s):Int×List bA).1)=true by simp];have w:IntKind.i64.wrap ((IntKind.i64.wrap ((u.an.length:Int) - 1)) - x.aS)=(u.an.length:Int) - 1 - x.aS:=by rw[b9 (n:=(u.an.length:Int) - 1) (by omega),b9 (by omega)]
  simp only[cond_true,gw c,af,w,show ∀a b,lu a b=some ⟨a,b⟩ from fun _ _=>rfl]
  rw[g8 (l:=s) (xs:=[(⟨(u.an.length:Int) - 1 - x.aS,x.bt⟩:bA)]) (by simp only[List.length_singleton];omega),b9 (n:=(i:Int) - 1) (by omega)]) (fun s=>by
  unfold om
  rfl) u.told.length fu [] (Nat.le_refl _) (by unfold fu;omega) (by simp;omega)
 rw[b9 (by omega),key,List.take_length,List.nil_append]
end
theorem NQ (u:aj)(a:Int)(E:0<=a/\a<=255)(b:Int)(hb:0<=b/\b<=255)(c:Int)(H:0<=c/\c<=255)(d:Int)(hd:0<=d/\d<=255):vQ u a b c d=some true:=by
 unfold vQ;rcases M1 u with k|⟨k,L,h,F⟩
 .simp only[k,af,Bool.not_false,cond_true,z8]
 simp only[k,af,Bool.not_true,cond_false,NN F,aC];unfold vP;simp only[af,NO F,aC];unfold vO;simp only[af,NP F,aC];unfold vN;have S:=F.an;obtain ⟨k1,I⟩:=vS (a:=a) (b:=u.an.length) E.1 (by omega);have f:gI (IntKind.i64.wrap a) (u.an.length:Int)=some (a.tmod u.an.length):=by rw[b9 (by omega)];exact vR (by omega)
 obtain ⟨i,hi⟩:∃i:Nat,a.tmod u.an.length=(i:Int):=⟨(a.tmod u.an.length).toNat,by omega⟩
 rw[hi] at f k1 I;have J:i<u.an.length:=by omega
 obtain ⟨e,he⟩:∃e,u.an[i]?=some e:=⟨_,List.getElem?_eq_getElem J⟩
 obtain ⟨s,es,hs⟩:=M3 hb H;have t1:=vS (a:=d) (b:=20) hd.1 (by decide);have g:gI (IntKind.i64.wrap d) 20=some (d.tmod 20):=by rw[b9 (by omega)];exact vR (by decide)
 generalize d.tmod 20=t at g t1;have w1:IntKind.i64.wrap (1+t)=1+t:=b9 (by omega);have w2:IntKind.i64.wrap ((IntKind.i64.wrap ((u.an.length:Int) - 1)) - (i:Int))=((u.an.length - 1 - i:Nat):Int):=by rw[b9 (n:=(u.an.length:Int) - 1) (by omega),b9 (by omega)];omega
 rw[show (⟨u.bB,u.bH,u.aO,u.ax,u.props.reverse,u.an.reverse,(u.told.map fun t=>(⟨(u.an.length:Int) - 1 - t.aS,t.bt⟩:bA)).reverse⟩:aj)=rv u from rfl];have G:=fM F;have j:=jq F h;have v1:=DN F h hs;have v2:=DN G j hs;rw[Nl F hs,show (rv u).props.length=u.props.length from List.length_reverse ..] at v2;have K:=DL F h;have v4:=DL G j;rw[Fg F] at v4;obtain ⟨N,T,o,v6⟩:∃l r,jM u (i:Int)=some (l,r)/\l.length<=1000:=by
  have v:=Ab F h he;cases hs:(bM u).isEmpty with
  |true=>rw[hs,if_pos rfl] at v;exact ⟨_,_,v,by simp⟩
  |false=>
   rw[hs,if_neg (by decide)] at v;have:=(Ah F (by intro c;rw[c] at hs;cases hs) he).2;exact ⟨_,_,v,by omega⟩
 have w:=NB F h he;rw[o] at w;obtain ⟨p,q,br,x⟩:∃p q r,iY u (i:Int)=some (p,q,r):=by
  cases hs:(bM u).isEmpty with
  |true=>exact ⟨_,_,_,Ac F h he hs⟩
  |false=>
   obtain ⟨_,_,_,v⟩:=Ad F h he hs;exact ⟨_,_,_,v⟩
 have y:=NC F h he;rw[x] at y;obtain ⟨U,V,W,X,v10,v11⟩:=NF F h;obtain ⟨Y,Z,ab,ad,z⟩:∃a b c d,iX u=some (a,b,c,d):=by
  rcases vY F h with ⟨-,v⟩|⟨-,M,m,-,-,-,v⟩
  .exact ⟨_,_,_,_,v⟩
  .cases A:bC (j3 m u.aO) (e4 M u.aO) with
   |true=>rw[A,if_pos rfl] at v;exact ⟨_,_,_,_,v⟩
   |false=>rw[A,if_neg (by decide)] at v;exact ⟨_,_,_,_,v⟩
 have B:=ND F h;rw[z] at B;obtain ⟨sl,ae,C,O⟩:∃l r,jm u (1+t)=some (l,r)/\l.length<=1000:=by
  by_cases h3:u.props.length<3
  .have v:=Ap F h h3 (k:=1+t) (by omega);cases hs:(bM u).isEmpty with
   |true=>rw[hs,if_pos rfl] at v;exact ⟨_,_,v,by simp⟩
   |false=>
    rw[hs,if_neg (by decide)] at v;obtain ⟨al,ao,-,-,e1,e2,ar,b2,b3⟩:=qh F;have hlen:(cH ⟨ey u,dS u⟩).length<=60:=by rw[mA];show (dS u - ey u+1).toNat<=60;omega
    exact ⟨_,_,v,Nat.le_trans (List.length_filter_le ..) (by omega)⟩
  .have a0:=F.props;exact ⟨_,_,Aq h (by omega) (by omega),by simp⟩
 have D:=NL F h (k:=1+t) (by omega);rw[C] at D;obtain ⟨c1,c2,c3,P,Q,R⟩:=NM F h L;simp only[af,f,es,g,v1,v2,K,v4,o,w2,w,x,y,bne_self_eq_false,cond_false,beq_self_eq_true,Bool.and_self,Bool.not_true,E5 N v6,v10,v11,z,B,w1,C,D,P,Q,cond_true,E5 sl O,R,z8]
end Go.Proofs.YtnaejeiofbpbkaaGreatDoor
end

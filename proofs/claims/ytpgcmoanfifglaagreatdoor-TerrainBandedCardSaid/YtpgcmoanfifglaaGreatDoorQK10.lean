/- A part of the proof of a row and its tied card: QK10. -/
import Derived.Test.YtpgcmoanfifglaaGreatDoorQK9
set_option linter.all false
section
namespace Go.Proofs.YtpgcmoanfifglaaGreatDoor
open Go Go.Sep Go.Proofs
set_option maxRecDepth 100000
set_option maxHeartbeats 4000000
abbrev Bd (s:aY):Prop:=(1<=s.back/\s.back<=20)/\0<=s.high/\s.high<=60
section
variable {u : ak} (F : Fit u)
include F
omit F in
theorem tK {i:Nat}{e:b6}(he:u.aH[i]?=some e)(n:Int):ff u i n=⟨e.back,n⟩:=by unfold ff;rw[he];rfl
def oI (u:ak)(k:Nat)(i:Nat)(m:Int):Prop:=i<k/\∃e,u.aH[i]?=some e/\m∈de u i e
omit F in
theorem gH {α:Type}{l:List α}{j:Nat}{x y:α}(h:l[j]?=some x):y∈l.take (j+1)↔y∈l.take j\/y=x:=by
 rw[List.take_add_one,h];simp
end
theorem KG (l:List aY)(x:aY):pX l x=some (l.any fun y=>x.back==y.back&&x.high==y.high):=by
 unfold pX rT
 rw[s0 (t:=fun i y=>if (x.back==y.back&&x.high==y.high) then some (i:Int) else none) l 0 0 fun j y s hx=>by
  unfold rS
  cases (x.back==y.back&&x.high==y.high)<;>rfl]
 obtain ⟨r,a,b⟩:=xw (g:=fun y=>x.back==y.back&&x.high==y.high) l 0;rw[a,<-b];cases r with
 |none=>rfl
 |some n=>simp[ag,aA,lq]
theorem KH (l:List aY)(x:aY):(l.any fun y=>x.back==y.back&&x.high==y.high)=true↔x∈l:=by
 rw[List.any_eq_true];constructor
 ·rintro ⟨y,a,e⟩;simp only[Bool.and_eq_true,beq_iff_eq] at e;obtain ⟨e1,e2⟩:=e;cases x;cases y;simp only at e1 e2;subst e1;subst e2;exact a
 ·exact fun h=>⟨x,h,by simp⟩
def Sg (u:ak)(D:Nat->Int->Prop)(m:Nat)(l:List aY):Prop:=l.length<=m/\∀s,s∈l↔∃i n,D i n/\s=ff u i n
section
variable {u : ak} (F : Fit u) (aG : bQ u ≠ [])
theorem C9 {D E:Nat->Int->Prop}{m k:Nat}{l:List aY}(h:∀i m,D i m↔E i m)(a:m<=k)(W:Sg u D m l):Sg u E k l:=by
 have:D=E:=by funext i m;exact propext (h i m)
 rw[<-this];exact ⟨Nat.le_trans W.1 a,W.2⟩
include F aG
theorem tL {i:Nat}{e:b6}(he:u.aH[i]?=some e):1<=(de u i e).length/\(de u i e).length<=3:=by
 obtain ⟨c,T,d,a,b⟩:=xM F aG he;rw[b,List.length_map];exact B4 a
theorem KI {k:Nat}{e:b6}(he:u.aH[k]?=some e){l:List aY}(W:Sg u (oI u k) (3*k) l):
  ∃r,bE (k5 ⟨u,(bQ u).map c9⟩ k) 0 (de u k e) l=some (.nx r)/\Sg u (oI u (k+1)) (3*(k+1)) r:=by
 have hl:=(tL F aG he).2
 have x:k<u.aH.length:=(List.getElem?_eq_some_iff.1 he).1
 have o:=F.aH
 have key:=iB (f:=k5 ⟨u,(bQ u).map c9⟩ k) (ρ:=List aY) (g:=fun _ n (l:List aY)=>cond (!(l.any fun y=>e.back==y.back&&n==y.high)) (l++[⟨e.back,n⟩]) l)
  (I:=fun j l=>j<=3/\Sg u (fun i m=>oI u k i m\/(i=k/\m∈(de u k e).take j)) (3*k+j) l) (de u k e) 0 l
  ⟨by omega,C9 (fun i m=>by simp) (by omega) W⟩
  (fun j n l d p=>by
   have z:j<(de u k e).length:=(List.getElem?_eq_some_iff.1 d).1
   have t:=KH l ⟨e.back,n⟩
   have v:=KG l ⟨e.back,n⟩
   have q:=p.2.1
   rw[Nat.zero_add] at p q ⊢
   refine ⟨?_,by omega,?_,fun s=>?_⟩
   ·unfold k5 ir
    simp only[iE he,ag,v]
    cases (l.any fun y=>e.back==y.back&&n==y.high) with
    |true=>rfl
    |false=>
     simp only[Bool.not_false,cond_true]
     unfold cZ
     rw[if_pos (by simp;omega)]
   ·cases (l.any fun y=>e.back==y.back&&n==y.high)<;>simp<;>omega
   ·have key:s∈(cond (!(l.any fun y=>e.back==y.back&&n==y.high)) (l++[⟨e.back,n⟩]) l)↔s∈l\/s=⟨e.back,n⟩:=by
     cases c:(l.any fun y=>e.back==y.back&&n==y.high) with
     |true=>
      simp only[Bool.not_true,cond_false]
      have:=t.1 c
      constructor
      ·exact fun h=>.inl h
      ·rintro (h|rfl)
       ·exact h
       ·exact this
     |false=>simp
    rw[key,p.2.2 s]
    constructor
    ·rintro (⟨i,m,h,rfl⟩|rfl)
     ·refine ⟨i,m,?_,rfl⟩
      rcases h with h|⟨h,a⟩
      ·exact .inl h
      ·exact .inr ⟨h,(gH d).2 (.inl a)⟩
     ·exact ⟨k,n,.inr ⟨rfl,(gH d).2 (.inr rfl)⟩,(tK he n).symm⟩
    ·rintro ⟨i,m,h,rfl⟩
     rcases h with h|⟨rfl,a⟩
     ·exact .inl ⟨i,m,.inl h,rfl⟩
     ·rcases (gH d).1 a with a|rfl
      ·exact .inl ⟨i,m,.inr ⟨rfl,a⟩,rfl⟩
      ·exact .inr (tK he m))
 refine ⟨_,key.1,C9 (fun i m=>?_) (by omega) key.2.2⟩
 rw[Nat.zero_add,List.take_length]
 unfold oI
 constructor
 ·rintro (⟨q,b⟩|⟨rfl,h⟩)
  ·exact ⟨by omega,b⟩
  ·exact ⟨by omega,e,he,h⟩
 ·rintro ⟨q,w,b,o⟩
  by_cases c:i=k
  ·subst c
   rw[he] at b;cases b
   exact .inr ⟨rfl,o⟩
  ·exact .inl ⟨by omega,w,b,o⟩
theorem KJ:∃l,nW ⟨u,(bQ u).map c9⟩=some l/\l≠[]/\l.length<=9/\∀s,s∈l↔∃i e n,u.aH[i]?=some e/\n∈de u i e/\s=⟨e.back,n⟩:=by
 have o:=F.aH;have key:=iB (f:=qa ⟨u,(bQ u).map c9⟩) (ρ:=List aY)
  (g:=fun i e l=>match bE (k5 ⟨u,(bQ u).map c9⟩ i) 0 (de u i e) l with|some (.nx s)=>s|_=>l)
  (I:=fun i l=>Sg u (oI u i) (3*i) l) u.aH 0 [] ⟨by simp,fun s=>⟨fun h=>by simp at h,fun ⟨i,n,h,_⟩=>absurd h.1 (by omega)⟩⟩
  (fun j e l he b=>by
   rw[Nat.zero_add] at b ⊢;obtain ⟨s1,k1,d⟩:=KI F aG he b;simp only[k1];refine ⟨?_,d⟩;unfold qa
   simp only[B7 F aG he,ag,k1,aA])
 obtain ⟨k1,d,m⟩:=key;have hm:∀s,s∈(foldI (fun i e l=>match bE (k5 ⟨u,(bQ u).map c9⟩ i) 0 (de u i e) l with|some (.nx s)=>s|_=>l) 0 u.aH [])↔∃i e n,u.aH[i]?=some e/\n∈de u i e/\s=⟨e.back,n⟩:=fun s=>by
  rw[m s];unfold oI;constructor
  ·rintro ⟨i,n,⟨_,e,he,a⟩,rfl⟩;exact ⟨i,e,n,he,a,tK he n⟩
  ·rintro ⟨i,e,n,he,a,rfl⟩;exact ⟨i,n,⟨by have:=(List.getElem?_eq_some_iff.1 he).1;omega,e,he,a⟩,(tK he n).symm⟩
 refine ⟨_,?_,?_,by omega,hm⟩
 ·unfold nW;simp only[k1,ag,aA]
 ·have k:u.aH[0]?=some (u.aH[0]'(by omega)):=List.getElem?_eq_getElem _;obtain ⟨f1,-⟩:=tL F aG k;obtain ⟨n,a⟩:=List.exists_mem_of_length_pos (l:=de u 0 (u.aH[0]'(by omega))) (by omega);intro c;have:=(hm ⟨_,n⟩).2 ⟨0,_,n,k,a,rfl⟩;rw[c] at this;cases this
end
theorem KL {n m a b:Nat}(f:n=m->a=b)(e:n=0->a=0)(hm:0<m)(g:0<b):mN n m=0\/mN n m=mN a b:=by
 unfold mN;by_cases c:n=m
 ·right;rw[if_pos c,if_pos (f c)]
 ·rw[if_neg c];by_cases d:n=0
  ·right;rw[if_pos d,if_neg (by have:=e d;omega),if_pos (e d)]
  ·left;rw[if_neg d]
theorem Dc:∀(l:List an) (i:Nat) (a:an),(∀x,x∈a::l->0<x.den)->foldI (fun _ y st=>gG st y) i l a∈a::l/\∀y,y∈a::l->bA y (foldI (fun _ y st=>gG st y) i l a)=false
 |[],i,a,h=>⟨List.mem_singleton.2 rfl,fun y d=>by rw[List.mem_singleton.1 d];exact jg _⟩
 |b::l,i,a,h=>by
  have m:=h a (by simp)
  have hb:=h b (by simp)
  unfold foldI
  have hm:gG a b=a\/gG a b=b:=by unfold gG;cases bA b a<;>simp
  have hd:0<(gG a b).den:=by rcases hm with e|e<;>rw[e]<;>assumption
  obtain ⟨f,g⟩:=Dc l (i+1) (gG a b) fun x hx=>by
   rcases List.mem_cons.1 hx with rfl|hx
   ·exact hd
   ·exact h x (by simp[hx])
  have j:0<(foldI (fun _ y st=>gG st y) (i+1) l (gG a b)).den:=by
   rcases List.mem_cons.1 f with e|e
   ·rw[e];exact hd
   ·exact h _ (by simp[e])
  refine ⟨?_,fun y d=>?_⟩
  ·rcases List.mem_cons.1 f with e|e
   ·rw[e];rcases hm with e|e<;>rw[e]<;>simp
   ·simp[e]
  ·have k:=g _ (List.mem_cons_self ..)
   rcases List.mem_cons.1 d with rfl|d
   ·refine lp m hd j ?_ k
    unfold gG
    cases c:bA b y
    ·exact jg _
    ·exact xm c
   rcases List.mem_cons.1 d with rfl|d
   ·refine lp hb hd j ?_ k
    unfold gG
    cases c:bA y a
    ·exact c
    ·exact jg _
   ·exact g y (by simp[d])
theorem Dd:∀(l:List an) (i:Nat) (a:an),(∀x,x∈a::l->0<x.den)->foldI (fun _ y st=>cG st y) i l a∈a::l/\∀y,y∈a::l->bA (foldI (fun _ y st=>cG st y) i l a) y=false
 |[],i,a,h=>⟨List.mem_singleton.2 rfl,fun y d=>by rw[List.mem_singleton.1 d];exact jg _⟩
 |b::l,i,a,h=>by
  have m:=h a (by simp)
  have hb:=h b (by simp)
  unfold foldI
  have hm:cG a b=a\/cG a b=b:=by unfold cG;cases bA a b<;>simp
  have hd:0<(cG a b).den:=by rcases hm with e|e<;>rw[e]<;>assumption
  obtain ⟨f,g⟩:=Dd l (i+1) (cG a b) fun x hx=>by
   rcases List.mem_cons.1 hx with rfl|hx
   ·exact hd
   ·exact h x (by simp[hx])
  have j:0<(foldI (fun _ y st=>cG st y) (i+1) l (cG a b)).den:=by
   rcases List.mem_cons.1 f with e|e
   ·rw[e];exact hd
   ·exact h _ (by simp[e])
  refine ⟨?_,fun y d=>?_⟩
  ·rcases List.mem_cons.1 f with e|e
   ·rw[e];rcases hm with e|e<;>rw[e]<;>simp
   ·simp[e]
  ·have k:=g _ (List.mem_cons_self ..)
   rcases List.mem_cons.1 d with rfl|d
   ·refine lp j hd m k ?_
    unfold cG
    cases c:bA y b
    ·exact jg _
    ·exact xm c
   rcases List.mem_cons.1 d with rfl|d
   ·refine lp j hd hb k ?_
    unfold cG
    cases c:bA a y
    ·exact c
    ·exact jg _
   ·exact g y (by simp[d])
def cY (a b:an):an:=bw (a.num*b.den+b.num*a.den) (a.den*b.den).toNat
theorem m0 {a b:an}(c:0<a.den)(hb:0<b.den):Vl (cY a b) (a.num*b.den+b.num*a.den) (a.den*b.den):=by
 have hd:0<a.den*b.den:=Int.mul_pos c hb;have h:=lf (a.num*b.den+b.num*a.den) (a.den*b.den).toNat (by omega);rw[show (((a.den*b.den).toNat:Nat):Int)=a.den*b.den by omega] at h;exact ⟨h.1,hd,h.2⟩
theorem De {a b:an}{A B C D:Nat}(c:Sm a A B)(hb:Sm b C D):Sm (cY a b) (A*D+C*B) (B*D)/\Lw (cY a b):=by
 have d:Sm (⟨-b.num,b.den⟩:an) C D:=⟨by have:=hb.num;show (-b.num).natAbs<=C;omega,hb.den⟩
 have:=oH c d;have e:bO a ⟨-b.num,b.den⟩=cY a b:=by
  unfold bO cY;simp only[Int.neg_mul];rw[Int.sub_neg]
 rw[e] at this;exact this
def oJ (i:Nat)(x:bt)(st:bt):bt:=cond (bA x.high st.high) x st
theorem Df:∀(l:List bt) (i:Nat) (c:bt),(foldI oJ i l c).high=foldI (fun _ (x:bt) st=>gG st x.high) i l c.high
 |[],_,_=>rfl
 |x::l,i,c=>by
  unfold foldI
  rw[Df l (i+1)]
  congr 1
  unfold oJ gG
  cases bA x.high c.high<;>rfl
theorem KQ {c:bt}{l:List bt}(h:∀x,x∈c::l->SR x.high):∃m,jc ga c l=some m/\m.high=foldI (fun _ y st=>cG st y) 0 (l.map (·.high)) c.high:=by
 have hg:=iB (f:=j9 ga) (ρ:=bt) (g:=gC) (I:=fun _ c=>SR c.high) l 0 c (h c (List.mem_cons_self ..)) (fun j x st d a=>by
  have b:SR x.high:=h x (List.mem_cons_of_mem _ (List.mem_of_getElem? d));refine ⟨?_,?_⟩
  ·unfold j9 ga gC;simp only[(lg a b).2,ag];cases bA st.high x.high<;>rfl
  ·unfold gC;cases bA st.high x.high
   ·exact a
   ·exact b)
 refine ⟨foldI gC 0 l c,?_,by rw[xu,s5]⟩;unfold jc;rw[hg.1];rfl
theorem KR {c:bt}{l:List bt}(h:∀x,x∈c::l->SR x.high):∃m,jc me c l=some m/\m.high=foldI (fun _ y st=>gG st y) 0 (l.map (·.high)) c.high:=by
 have hg:=iB (f:=j9 me) (ρ:=bt) (g:=oJ) (I:=fun _ c=>SR c.high) l 0 c (h c (List.mem_cons_self ..)) (fun j x st d a=>by
  have b:SR x.high:=h x (List.mem_cons_of_mem _ (List.mem_of_getElem? d));refine ⟨?_,?_⟩
  ·unfold j9 me ga oJ;simp only[(lg b a).2,ag];cases bA x.high st.high<;>rfl
  ·unfold oJ;cases bA x.high st.high
   ·exact a
   ·exact b)
 refine ⟨foldI oJ 0 l c,?_,by rw[Df,s5]⟩;unfold jc;rw[hg.1];rfl
theorem KS {α:Type}(c:α)(l:List α):hH (c::l) 1 (((c::l).length:Nat):Int)=some l:=by
 unfold hH;rw[if_pos (by simp only[List.length_cons];omega)];simp
def fq (u:ak)(s:aY):bt:=(jA u s).getD ⟨⟨0,⟨0,0⟩⟩,0,⟨0,0⟩⟩
section
variable {u : ak} (F : Fit u)
include F
theorem tN {s:aY}(hs:Bd s):jA u s=some (fq u s)/\(fq u s).high=(c6 u s).2/\SR (fq u s).high:=by
 obtain ⟨c,a,b,d,-⟩:=sW F hs;have e:fq u s=c:=by unfold fq;rw[a];rfl
 rw[e];exact ⟨a,by rw[<-b],d⟩
theorem KT {l:List aY}(hl:l.length<=9)(hb:∀s,s∈l->Bd s)(K:cM)(a:K.book=u):bE (nZ (K,0)) 0 l []=some (.nx (l.map (fq u))):=by
 have key:=iB (f:=nZ (K,0)) (ρ:=an×an×Bool×Int) (g:=fun _ s (r:List bt)=>r++(fun s=>[fq u s]) s) (I:=fun j r=>r.length<=j/\j<=9) l 0 [] ⟨by simp,by omega⟩
  (fun j s r hs b=>by
   have c:j<l.length:=(List.getElem?_eq_some_iff.1 hs).1;refine ⟨?_,?_⟩
   ·unfold nZ;simp only[a,ag,(tN F (hb s (List.mem_of_getElem? hs))).1];unfold cZ;rw[if_pos (by simp;omega)]
   ·simp only[List.length_append,List.length_singleton];omega)
 rw[key.1,qq,List.nil_append,xL]
theorem KU (h:e8 u=some 0):((bQ u).isEmpty=true/\k6 u=some (⟨0,0⟩,⟨0,0⟩,false,9))\/
  ((bQ u).isEmpty=false/\∃M m,(∃i e n,u.aH[i]?=some e/\n∈de u i e/\M=(c6 u ⟨e.back,n⟩).2)/\(∃i e n,u.aH[i]?=some e/\n∈de u i e/\m=(c6 u ⟨e.back,n⟩).2)/\
   (∀i e n,u.aH[i]?=some e->n∈de u i e->bA M (c6 u ⟨e.back,n⟩).2=false/\bA (c6 u ⟨e.back,n⟩).2 m=false)/\
   k6 u=some (if bA (cY m u.aF) (bO M u.aF) then (⟨0,0⟩,⟨0,0⟩,false,0) else (bO M u.aF,cY m u.aF,true,0))):=by
 cases hs:(bQ u).isEmpty with
 |true=>
  left
  refine ⟨rfl,?_⟩
  unfold k6
  rw[s4 F (xF h),hs]
  rfl
 |false=>
  right
  have aG:bQ u≠[]:=by intro c;rw[c] at hs;cases hs
  obtain ⟨L,k1,C,D,j⟩:=KJ F aG
  have g:∀s,s∈L->Bd s:=fun s hs=>by
   obtain ⟨i,e,n,he,k,rfl⟩:=(j s).1 hs
   exact yD F he k
  have E:=KT F D g ⟨u,(bQ u).map c9⟩ rfl
  obtain ⟨d,r,rfl⟩:∃a l,L=a::l:=by
   cases L with
   |nil=>exact absurd rfl C
   |cons a l=>exact ⟨a,l,rfl⟩
  have q:∀x,x∈fq u d::r.map (fq u)->SR x.high:=fun x hx=>by
   rw[<-List.map_cons,List.mem_map] at hx
   obtain ⟨s,hs,rfl⟩:=hx
   exact (tN F (g s hs)).2.2
  obtain ⟨a,a1,a2⟩:=KQ q
  obtain ⟨b,G,b2⟩:=KR q
  have H:(r.map (fq u)).map (·.high)=r.map fun s=>(c6 u s).2:=by
   rw[List.map_map]
   exact List.map_congr_left fun s hs=>(tN F (g s (List.mem_cons_of_mem _ hs))).2.1
  have e0:(fq u d).high=(c6 u d).2:=(tN F (g d (List.mem_cons_self ..))).2.1
  rw[H,e0] at a2 b2
  have hd:∀x,x∈(c6 u d).2::r.map (fun s=>(c6 u s).2)->0<x.den:=fun x hx=>by
   rw[<-List.map_cons (f:=fun s=>(c6 u s).2),List.mem_map] at hx
   obtain ⟨s,hs,rfl⟩:=hx
   exact (Hp F (g s hs)).den.1
  obtain ⟨o,p2⟩:=Dd _ 0 _ hd
  obtain ⟨p,t⟩:=Dc _ 0 _ hd
  rw[<-a2] at o p2
  rw[<-b2] at p t
  rw[<-List.map_cons (f:=fun s=>(c6 u s).2),List.mem_map] at o p
  obtain ⟨sp,v,w⟩:=o
  obtain ⟨sq,z,eq⟩:=p
  obtain ⟨i1,e1,n1,I,J,K⟩:=(j sp).1 v
  obtain ⟨i2,e2,n2,N,O,P⟩:=(j sq).1 z
  refine ⟨rfl,a.high,b.high,⟨i1,e1,n1,I,J,by rw[<-w,K]⟩,⟨i2,e2,n2,N,O,by rw[<-eq,P]⟩,fun i e n he k=>?_,?_⟩
  ·have hm:(c6 u ⟨e.back,n⟩).2∈(c6 u d).2::r.map (fun s=>(c6 u s).2):=by
    rw[<-List.map_cons (f:=fun s=>(c6 u s).2)]
    exact List.mem_map.2 ⟨_,(j _).2 ⟨i,e,n,he,k,rfl⟩,rfl⟩
   exact ⟨p2 _ hm,t _ hm⟩
  ·have f:=C8 F (g d (List.mem_cons_self ..))
   have A:Sm a.high 10000 100:=by rw[<-w];exact (tJ F (g sp v)).1
   have B:Sm b.high 10000 100:=by rw[<-eq];exact (tJ F (g sq z)).1
   have v1:jb a.high u.aF=some (bO a.high u.aF):=xh A f (by decide) (by decide) (by decide)
   have v2:ja b.high u.aF=some (cY b.high u.aF):=qj B f (by decide) (by decide)
   have Q:eA (cY b.high u.aF) (bO a.high u.aF)=some (bA (cY b.high u.aF) (bO a.high u.aF)):=(mL (De B f).1 (oH A f).1 (by decide) (by decide)).2
   unfold k6
   rw[s4 F (xF h),hs]
   simp only[ag,Bool.false_eq_true,if_false,bne_self_eq_false,cond_false,k1,E,aA]
   have y:hH ((d::r).map (fq u)) 1 ((((d::r).map (fq u)).length:Nat):Int)=some (r.map (fq u)):=KS (fq u d) (r.map (fq u))
   simp only[show bh ((d::r).map (fq u)) 0=some (fq u d) from rfl,y,a1,G,v1,v2,Q]
   cases bA (cY b.high u.aF) (bO a.high u.aF)<;>rfl
end
section
variable {u : ak} (F : Fit u) (h : e8 u = some 0) (aG : bQ u ≠ [])
include F h aG
omit F h in
theorem KV:(bQ u).isEmpty=false:=by
 cases e:bQ u with
 |nil=>exact absurd e aG
 |cons a l=>rfl
end
theorem oK {f:an}(hf:0<f.den):Vl f f.num f.den:=⟨rfl,hf,hf⟩
theorem KW {a b f:an}(c:0<a.den)(hb:0<b.den)(hf:0<f.den):bA (cY a f) (cY b f)=bA a b:=by
 rw[(m0 c hf).lt (m0 hb hf)];unfold bA;rw[decide_eq_decide];have e1:(a.num*f.den+f.num*a.den)*(b.den*f.den)=a.num*b.den*(f.den*f.den)+f.num*a.den*b.den*f.den:=by grind
 have e2:(b.num*f.den+f.num*b.den)*(a.den*f.den)=b.num*a.den*(f.den*f.den)+f.num*a.den*b.den*f.den:=by grind
 rw[e1,e2,<-lt_mul (Int.mul_pos hf hf) (a:=a.num*b.den)];omega
theorem KX {a b f:an}(c:0<a.den)(hb:0<b.den)(hf:0<f.den):bA (bO a f) (bO b f)=bA a b:=by
 rw[(kB c hf).lt (kB hb hf)];unfold bA;rw[decide_eq_decide];have e1:(a.num*f.den - f.num*a.den)*(b.den*f.den)=a.num*b.den*(f.den*f.den) - f.num*a.den*b.den*f.den:=by grind
 have e2:(b.num*f.den - f.num*b.den)*(a.den*f.den)=b.num*a.den*(f.den*f.den) - f.num*a.den*b.den*f.den:=by grind
 rw[e1,e2,<-lt_mul (Int.mul_pos hf hf) (a:=a.num*b.den)];omega
theorem KY {r:an}{a b n d e c A B:Int}(h:r.num*(A*B)=(a*B - b*A)*r.den)(f:a*d=n*A)(hb:b*c=e*B)(hA:0<A)(g:0<B):r.num*(d*c)=(n*c - e*d)*r.den:=by
 have key:r.num*(d*c)*(A*B)=(n*c - e*d)*r.den*(A*B):=by
  have e1:r.num*(d*c)*(A*B)=r.num*(A*B)*(d*c):=by grind
  have e2:(a*B - b*A)*r.den*(d*c)=(a*d)*(B*c)*r.den - (b*c)*(A*d)*r.den:=by grind
  have i:(n*c - e*d)*r.den*(A*B)=(n*A)*(B*c)*r.den - (e*B)*(A*d)*r.den:=by grind
  rw[e1,h,e2,f,hb,i]
 exact Int.eq_of_mul_eq_mul_right (by have:=Int.mul_pos hA g;omega) key
theorem Vl.minus {x y:an}{n d c b:Int}(hx:Vl x n d)(a:Vl y c b):Vl (bO x y) (n*b - c*d) (d*b):=by
 have v:=kB hx.den a.den;exact ⟨KY v.eq hx.eq a.eq hx.den a.den,Int.mul_pos hx.d a.d,v.den⟩
section
variable {M m x f : an} (hM : 0 < M.den) (hm : 0 < m.den) (hx : 0 < x.den) (hf : 0 < f.den)
theorem KZ (hM:0<M.den)(hx:0<x.den)(hf:0<f.den):bA f (bO x (bO M f))=bA M x:=by
 rw[(oK hf).lt ((oK hx).minus (kB hM hf))];unfold bA;rw[decide_eq_decide];have e1:f.num*(x.den*(M.den*f.den))=f.num*x.den*M.den*f.den:=by grind
 have e2:(x.num*(M.den*f.den) - (M.num*f.den - f.num*M.den)*x.den)*f.den=(x.num*M.den)*(f.den*f.den) - (M.num*x.den)*(f.den*f.den)+f.num*x.den*M.den*f.den:=by grind
 rw[e1,e2,<-lt_mul (Int.mul_pos hf hf) (a:=M.num*x.den)];omega
theorem K0 (hm:0<m.den)(hx:0<x.den)(hf:0<f.den):bA f (bO (cY m f) x)=bA x m:=by
 rw[(oK hf).lt ((m0 hm hf).minus (oK hx))];unfold bA;rw[decide_eq_decide];have e1:f.num*(m.den*f.den*x.den)=f.num*x.den*m.den*f.den:=by grind
 have e2:((m.num*f.den+f.num*m.den)*x.den - x.num*(m.den*f.den))*f.den=(m.num*x.den)*(f.den*f.den) - (x.num*m.den)*(f.den*f.den)+f.num*x.den*m.den*f.den:=by grind
 rw[e1,e2,<-lt_mul (Int.mul_pos hf hf) (a:=x.num*m.den)];omega
theorem K1 (hM:0<M.den)(hf:0<f.den)(hl:Lw f)(a:Lw (bO M (bO M f))):bO M (bO M f)=f:=by
 refine B8 a hl ?_;have v:=((oK hM).minus (kB hM hf)).eq;have b:0<M.den*(M.den*f.den):=Int.mul_pos hM (Int.mul_pos hM hf);have key:(bO M (bO M f)).num*f.den*(M.den*M.den)=f.num*(bO M (bO M f)).den*(M.den*M.den):=by
  have e1:(bO M (bO M f)).num*f.den*(M.den*M.den)=(bO M (bO M f)).num*(M.den*(M.den*f.den)):=by grind
  rw[e1,v];grind
 exact Int.eq_of_mul_eq_mul_right (by have:=Int.mul_pos hM hM;omega) key
theorem K2 (hm:0<m.den)(hf:0<f.den)(hl:Lw f)(a:Lw (bO (cY m f) m)):bO (cY m f) m=f:=by
 refine B8 a hl ?_;have v:=((m0 hm hf).minus (oK hm)).eq;have key:(bO (cY m f) m).num*f.den*(m.den*m.den)=f.num*(bO (cY m f) m).den*(m.den*m.den):=by
  have e1:(bO (cY m f) m).num*f.den*(m.den*m.den)=(bO (cY m f) m).num*(m.den*f.den*m.den):=by grind
  rw[e1,v];grind
 exact Int.eq_of_mul_eq_mul_right (by have:=Int.mul_pos hm hm;omega) key
theorem Dg {r:an}(hM:0<M.den)(hm:0<m.den)(hf:0<f.den)(a:Vl r (2*f.num) f.den):bA r (bO M m)=bA (cY m f) (bO M f):=by
 rw[a.lt (kB hM hm),(m0 hm hf).lt (kB hM hf),decide_eq_decide];have e1:(m.num*f.den+f.num*m.den)*(M.den*f.den)=(m.num*M.den*f.den+f.num*m.den*M.den)*f.den:=by grind
 have e2:(M.num*f.den - f.num*M.den)*(m.den*f.den)=(M.num*m.den*f.den - f.num*m.den*M.den)*f.den:=by grind
 have b:2*f.num*(M.den*m.den)=2*(f.num*m.den*M.den):=by grind
 have c:(M.num*m.den - m.num*M.den)*f.den=M.num*m.den*f.den - m.num*M.den*f.den:=by grind
 rw[e1,e2,lt_mul hf,b,c];omega
end
theorem K3 {u:ak}(h:e8 u=some 0)(F:Fit u):Lw u.aF:=by
 have g:=HD h;unfold gV at g;rw[mO F.bH.1 F.bH.2,mO F.bV.1 F.bV.2,mO F.den.1 F.den.2,mO F.num.1 F.num.2] at g;have a:(((bw u.aF.num u.aF.den.toNat).num==u.aF.num)&&((bw u.aF.num u.aF.den.toNat).den==u.aF.den))=true:=by
  cases b:(((bw u.aF.num u.aF.den.toNat).num==u.aF.num)&&((bw u.aF.num u.aF.den.toNat).den==u.aF.den)) with
  |true=>rfl
  |false=>
   rw[b] at g;simp at g
 rw[Bool.and_eq_true,beq_iff_eq,beq_iff_eq] at a;refine ⟨u.aF.num,u.aF.den.toNat,by have:=F.den;omega,?_⟩;have e:∀r:an,r=⟨r.num,r.den⟩:=fun r=>rfl;rw[e (bw u.aF.num u.aF.den.toNat),a.1,a.2]
section
variable {u : ak} (F : Fit u) (h : e8 u = some 0)
def Cv (u:ak)(x:an):Prop:=∃i e n,u.aH[i]?=some e/\n∈de u i e/\x=(c6 u ⟨e.back,n⟩).2
include F
theorem K4 {x:an}(hx:Cv u x):Sm x 10000 100:=by
 obtain ⟨i,e,n,he,a,rfl⟩:=hx;exact (tJ F (s:=⟨e.back,n⟩) (yD F he a)).1
include h
theorem K5 (aG:bQ u≠[]){i:Nat}{e:b6}(he:u.aH[i]?=some e)(d:Bool)(A:List an)(hA:A.length<=100):
  ∃s:Bool×List an,aS (mX u (i:Int) (de u i e,0)) fu (d,A,0)=some (.nx (s.1,s.2,((de u i e).length:Int)))/\s.2=A++(de u i e).map fun n=>(c6 u ⟨e.back,n⟩).2:=by
 have hl:=(tL F aG he).2
 obtain ⟨s,k1,b⟩:=qo (f:=mX u (i:Int) (de u i e,0)) (ρ:=Bool) (fun j (s:Bool×List an)=>s.2=A++((de u i e).take j).map fun n=>(c6 u ⟨e.back,n⟩).2) (fun s k=>(s.1,s.2,k)) (de u i e) (by omega) (fun j n s a c=>by
  have m:=(List.getElem?_eq_some_iff.1 a).1
  have hb:Bd ⟨e.back,n⟩:=yD F he (List.mem_of_getElem? a)
  have w1:IntKind.i64.wrap ((j:Int)+1)=((j+1:Nat):Int):=by rw[cP (by omega)];rfl
  have hs:s.2.length<=200:=by rw[c,List.length_append,List.length_map];have:=List.length_take_le j (de u i e);omega
  have g:decide (((s.1,s.2,(j:Int)):Bool×List an×Int).2.2<(((de u i e,(0:Int)):List Int×Int).1.length:Int))=true:=by simp;omega
  refine ⟨(s.1,s.2++[(c6 u ⟨e.back,n⟩).2]),?_,by rw[c,List.take_add_one,a];simp⟩
  unfold mX
  rw[g]
  simp only[cond_true,iE he,iE a,ag,show kr e.back n=some ⟨e.back,n⟩ from rfl,HU F h hb,bne_self_eq_false,cond_false,KE F hb,Bool.not_true,oe (l:=s.2) (xs:=[(c6 u ⟨e.back,n⟩).2]) (by simp only[List.length_singleton];omega),w1]) (fun s=>by
  unfold mX
  simp) (d,A) (by simp)
 rw[List.take_length] at b
 exact ⟨s,k1,b⟩
theorem K6 (aG:bQ u≠[]):∃s:Bool×List an,aS (mZ u) fu (false,[],0)=some (.nx (s.1,s.2,(u.aH.length:Int)))/\s.2.length<=9/\∀x,x∈s.2↔Cv u x:=by
 have p:=F.aH
 obtain ⟨s,k1,r,w,l⟩:=qo (f:=mZ u) (ρ:=Bool) (fun j (s:Bool×List an)=>s.2.length<=3*j/\j<=3/\∀x,x∈s.2↔∃i e n,i<j/\u.aH[i]?=some e/\n∈de u i e/\x=(c6 u ⟨e.back,n⟩).2) (fun s k=>(s.1,s.2,k)) u.aH (by omega) (fun j e s he m=>by
  have y:=(List.getElem?_eq_some_iff.1 he).1;have v:=yC F h he;rw[KV aG,if_neg (by decide)] at v;obtain ⟨t,t1,t2⟩:=K5 F h aG he s.1 s.2 (by omega);have w1:IntKind.i64.wrap ((j:Int)+1)=((j+1:Nat):Int):=by rw[cP (by omega)];rfl
  have o:decide (((s.1,s.2,(j:Int)):Bool×List an×Int).2.2<(u.aH.length:Int))=true:=by simp;omega
  refine ⟨t,?_,?_,by omega,fun x=>?_⟩
  ·unfold mZ;rw[o];simp only[cond_true,v,ag,bne_self_eq_false,cond_false,t1,aA,w1]
  ·rw[t2,List.length_append,List.length_map];have:=(tL F aG he).2;omega
  ·rw[t2,List.mem_append,m.2.2,List.mem_map];constructor
   ·rintro (⟨i,d,n,hi,a⟩|⟨n,b,rfl⟩)
    ·exact ⟨i,d,n,by omega,a⟩
    ·exact ⟨j,e,n,by omega,he,b,rfl⟩
   ·rintro ⟨i,d,n,hi,g,b,rfl⟩;by_cases c:i=j
    ·subst c;rw[he] at g;cases g;exact .inr ⟨n,b,rfl⟩
    ·exact .inl ⟨i,d,n,by omega,g,b,rfl⟩) (fun s=>by
  unfold mZ
  simp) (false,[]) ⟨by simp,by omega,fun x=>⟨fun q=>(by cases q),fun ⟨i,e,n,q,_⟩=>absurd q (by omega)⟩⟩
 refine ⟨s,k1,by omega,fun x=>?_⟩;rw[l];exact ⟨fun ⟨i,e,n,_,q⟩=>⟨i,e,n,q⟩,fun ⟨i,e,n,he,q⟩=>⟨i,e,n,(List.getElem?_eq_some_iff.1 he).1,he,q⟩⟩
end
def g5 (u:ak):an:=bw (2*u.aF.num) u.aF.den.toNat
section
variable {u : ak} (F : Fit u)
include F
theorem K7:Sm (g5 u) 40 20:=by
 have a:=F.num;have b:=F.den;have:Sm (g5 u) (2*u.aF.num).natAbs u.aF.den.toNat:=jf (2*u.aF.num) u.aF.den.toNat (by omega);exact ⟨Nat.le_trans this.num (by omega),this.den.1,by have:=this.den.2;omega⟩
theorem Dh:Vl (g5 u) (2*u.aF.num) u.aF.den:=by
 have a:=F.den;have h:=lf (2*u.aF.num) u.aF.den.toNat (by omega);rw[show ((u.aF.den.toNat:Nat):Int)=u.aF.den by omega] at h;exact ⟨h.1,by omega,h.2⟩
theorem K8:fR (IntKind.i64.wrap (2*u.aF.num)) u.aF.den=some (g5 u):=by
 have a:=F.num;have b:=F.den;have:=mI (2*u.aF.num) u.aF.den.toNat (by omega) (by omega) (by omega);rw[show ((u.aF.den.toNat:Nat):Int)=u.aF.den by omega] at this;rw[cP (by omega),this];rfl
theorem K9:Sm u.aF 20 20:=C8 F (s:=⟨1,0⟩) ⟨⟨by decide,by decide⟩,by decide,by decide⟩
theorem Di {A:List an}(hA:∀x,x∈A->Sm x 10000 100)(hl:A.length<=9){i:Nat}{x:an}(hx:A[i]?=some x)(b:Bool):
  ∃s:Bool,aS (mY u A (i:Int)) fu (b,0)=some (.nx (s,(A.length:Int)))/\(s=true↔b=true/\∀y,y∈A->bA (g5 u) (bO x y)=false):=by
 have h:=hA x (List.mem_of_getElem? hx)
 obtain ⟨s,k1,l⟩:=qo (f:=mY u A (i:Int)) (ρ:=Bool) (fun j (s:Bool)=>s=true↔b=true/\∀y,y∈A.take j->bA (g5 u) (bO x y)=false) (fun s k=>(s,k)) A (by omega) (fun j y s a m=>by
  have o:=(List.getElem?_eq_some_iff.1 a).1
  have sy:=hA y (List.mem_of_getElem? a)
  have w1:IntKind.i64.wrap ((j:Int)+1)=((j+1:Nat):Int):=by rw[cP (by omega)];rfl
  have hm:fc x y=some (bO x y):=sS h sy (by decide) (by decide)
  have hl:=(mL (K7 F) (oH h sy).1 (by decide) (by decide)).1
  have n:(∀z,z∈A.take (j+1)->bA (g5 u) (bO x z)=false)↔(∀z,z∈A.take j->bA (g5 u) (bO x z)=false)/\bA (g5 u) (bO x y)=false:=by
   constructor
   ·exact fun q=>⟨fun z c=>q z ((gH a).2 (.inl c)),q y ((gH a).2 (.inr rfl))⟩
   ·rintro ⟨d,e⟩ z c
    rcases (gH a).1 c with c|rfl
    ·exact d z c
    ·exact e
  refine ⟨s&&!bA (g5 u) (bO x y),?_,?_⟩
  ·unfold mY
   rw[show decide ((s,(j:Int)).2<(A.length:Int))=true by simp;omega]
   simp only[cond_true,K8 F,iE hx,iE a,ag,hm,hl,w1]
   cases s<;>rfl
  ·rw[n,Bool.and_eq_true,m,Bool.not_eq_true']
   exact ⟨fun ⟨⟨d,e⟩,g⟩=>⟨d,e,g⟩,fun ⟨d,e,g⟩=>⟨⟨d,e⟩,g⟩⟩) (fun s=>by
  unfold mY
  simp) b (by simp)
 rw[List.take_length] at l
 exact ⟨s,k1,l⟩
end
section
variable {u : ak} (F : Fit u) (hw : Lw u.aF) {M m : an} {A : List an} (hA : ∀ x, x ∈ A → Sm x 10000 100) (hl : A.length ≤ 9) (hM : M ∈ A) (hm : m ∈ A) (en : ∀ x, x ∈ A → bA M x = false ∧ bA x m = false)
include F hA hM hm en
theorem La:(∀x,x∈A->∀y,y∈A->bA (g5 u) (bO x y)=false)↔bA (cY m u.aF) (bO M u.aF)=false:=by
 have hf:0<u.aF.den:=by have:=F.den;omega
 have d:∀x,x∈A->0<x.den:=fun x hx=>(hA x hx).den.1;constructor
 ·intro a;rw[<-Dg (d M hM) (d m hm) hf (Dh F)];exact a M hM m hm
 ·intro a x hx y b;rw[Dg (d x hx) (d y b) hf (Dh F)];have c:bA (cY y u.aF) (cY m u.aF)=false:=by rw[KW (d y b) (d m hm) hf];exact (en y b).2
  have p2:bA (bO M u.aF) (bO x u.aF)=false:=by rw[KX (d M hM) (d x hx) hf];exact (en x hx).1
  have v1:=(m0 (d y b) hf).den;have v2:=(m0 (d m hm) hf).den;have e:=(kB (d M hM) hf).den;have v4:=(kB (d x hx) hf).den;exact lp v1 v2 v4 c (lp v2 e v4 a p2)
include hl hw
theorem Lb {P:an×an×Bool×Int}(l:P=if bA (cY m u.aF) (bO M u.aF) then (⟨0,0⟩,⟨0,0⟩,false,0) else (bO M u.aF,cY m u.aF,true,0))(b:Bool):qB u P b A=some true:=by
 have hf:0<u.aF.den:=by have:=F.den;omega
 have f:=K9 F;have d:∀x,x∈A->0<x.den:=fun x hx=>(hA x hx).den.1;have w:=hA M hM;have sm:=hA m hm;have sl:=oH w f;have sh:=De sm f;have iff:=La F hA hM hm en;have seen:∀x,x∈A->x∈A:=fun _ q=>q;unfold qB;cases n:bA (cY m u.aF) (bO M u.aF) with
 |true=>
  rw[n,if_pos rfl] at l;subst l
  obtain ⟨s,k1,c⟩:=qo (f:=jr u (⟨0,0⟩,⟨0,0⟩,false,0) A) (ρ:=Bool) (fun j (s:Bool×Bool×Bool×Bool)=>s.2.1=true↔∀x,x∈A.take j->∀y,y∈A->bA (g5 u) (bO x y)=false) (fun s k=>(s.1,s.2.1,s.2.2.1,s.2.2.2,k)) A (by omega) (fun j x s hx g=>by
   have B:=(List.getElem?_eq_some_iff.1 hx).1;obtain ⟨t,t1,t2⟩:=Di F hA hl hx s.2.1;have w1:IntKind.i64.wrap ((j:Int)+1)=((j+1:Nat):Int):=by rw[cP (by omega)];rfl
   refine ⟨(s.1,t,s.2.2.1,s.2.2.2),?_,?_⟩
   ·unfold jr;rw[show decide (((s.1,s.2.1,s.2.2.1,s.2.2.2,(j:Int)):Bool×Bool×Bool×Bool×Int).2.2.2.2<(A.length:Int))=true by simp;omega];simp only[cond_true,t1,ag,aA,cond_false,w1]
   ·simp only;rw[t2,g];constructor
    ·rintro ⟨h,i⟩ z a;rcases (gH hx).1 a with a|rfl
     ·exact h z a
     ·exact i
    ·exact fun q=>⟨fun z a=>q z ((gH hx).2 (.inl a)),q x ((gH hx).2 (.inr rfl))⟩) (fun s=>by
   unfold jr
   simp) (b,true,false,false) (by simp)
  rw[List.take_length,iff,n] at c;have e:s.2.1=false:=by
   cases q:s.2.1 with
   |false=>rfl
   |true=>exact absurd (c.1 q) (by decide)
  have o:aS (jr u (⟨0,0⟩,⟨0,0⟩,false,0) A) fu (b,true,false,false,0)=some (.nx (s.1,s.2.1,s.2.2.1,s.2.2.2,(A.length:Int))):=k1;simp only[o,ag,aA,e,beq_self_eq_true,cond_true,Bool.not_false,qA]
 |false=>
  rw[n,if_neg (by decide)] at l;subst l;have h:=yB (sl.1.mono (by decide) (by decide)) sl.2;have i:=yB (sh.1.mono (by decide) (by decide)) sh.2;have low:∀x,x∈A->fc x (bO M u.aF)=some (bO x (bO M u.aF))/\gh u.aF (bO x (bO M u.aF))=some false/\Lw (bO x (bO M u.aF)):=fun x hx=>by
   have s1:=oH (hA x hx) sl.1;refine ⟨sS (hA x hx) sl.1 (by decide) (by decide),?_,s1.2⟩;rw[(mL f s1.1 (by decide) (by decide)).1];refine congrArg some ?_;have:=KZ (d M hM) (d x hx) hf (M:=M) (x:=x) (f:=u.aF);rw[(en x hx).1] at this;exact this
  have high:∀x,x∈A->fc (cY m u.aF) x=some (bO (cY m u.aF) x)/\gh u.aF (bO (cY m u.aF) x)=some false/\Lw (bO (cY m u.aF) x):=fun x hx=>by
   have s1:=oH sh.1 (hA x hx);refine ⟨sS sh.1 (hA x hx) (by decide) (by decide),?_,s1.2⟩;rw[(mL f s1.1 (by decide) (by decide)).1];refine congrArg some ?_;have:=K0 (d m hm) (d x hx) hf (m:=m) (x:=x) (f:=u.aF);rw[(en x hx).2] at this;exact this
  have C:bO M (bO M u.aF)=u.aF:=K1 (d M hM) hf hw (low M hM).2.2;have D:bO (cY m u.aF) m=u.aF:=K2 (d m hm) hf hw (high m hm).2.2
  obtain ⟨s,k1,c,p,r⟩:=qo (f:=jr u (bO M u.aF,cY m u.aF,true,0) A) (ρ:=Bool) (fun j (s:Bool×Bool×Bool×Bool)=>(s.2.1=true↔∀x,x∈A.take j->∀y,y∈A->bA (g5 u) (bO x y)=false)/\(M∈A.take j->s.2.2.1=true)/\(m∈A.take j->s.2.2.2=true)) (fun s k=>(s.1,s.2.1,s.2.2.1,s.2.2.2,k)) A (by omega) (fun j x s hx g=>by
   have B:=(List.getElem?_eq_some_iff.1 hx).1;have v:=List.mem_of_getElem? hx;obtain ⟨t,t1,t2⟩:=Di F hA hl hx s.2.1;obtain ⟨E,G,-⟩:=low x v;obtain ⟨H,I,-⟩:=high x v;have w1:IntKind.i64.wrap ((j:Int)+1)=((j+1:Nat):Int):=by rw[cP (by omega)];rfl
   refine ⟨(s.1,t,s.2.2.1||(((bO x (bO M u.aF)).num==u.aF.num)&&((bO x (bO M u.aF)).den==u.aF.den)),s.2.2.2||(((bO (cY m u.aF) x).num==u.aF.num)&&((bO (cY m u.aF) x).den==u.aF.den))),?_,?_,?_,?_⟩
   ·unfold jr;rw[show decide (((s.1,s.2.1,s.2.2.1,s.2.2.2,(j:Int)):Bool×Bool×Bool×Bool×Int).2.2.2.2<(A.length:Int))=true by simp;omega];simp only[cond_true,t1,ag,aA,h,i,Bool.not_true,cond_false,iE hx,E,G,H,I,w1];cases s.2.2.1<;>cases s.2.2.2<;>rfl
   ·simp only;rw[t2,g.1];constructor
    ·rintro ⟨h,i⟩ z a;rcases (gH hx).1 a with a|rfl
     ·exact h z a
     ·exact i
    ·exact fun q=>⟨fun z a=>q z ((gH hx).2 (.inl a)),q x ((gH hx).2 (.inr rfl))⟩
   ·intro a;rcases (gH hx).1 a with a|rfl
    ·simp only[g.2.1 a,Bool.true_or]
    ·simp only[C,beq_self_eq_true,Bool.and_self,Bool.or_true]
   ·intro a;rcases (gH hx).1 a with a|rfl
    ·simp only[g.2.2 a,Bool.true_or]
    ·simp only[D,beq_self_eq_true,Bool.and_self,Bool.or_true]) (fun s=>by
   unfold jr
   simp) (b,true,false,false) ⟨by simp,by simp,by simp⟩
  rw[List.take_length] at c p r;have e:s.2.1=true:=c.2 (iff.2 n);have o:aS (jr u (bO M u.aF,cY m u.aF,true,0) A) fu (b,true,false,false,0)=some (.nx (s.1,s.2.1,s.2.2.1,s.2.2.2,(A.length:Int))):=k1;simp only[o,ag,aA,e,p hM,r hm,beq_self_eq_true,cond_true,Bool.not_true,cond_false,qA]
end
theorem Lc (u:ak):tH u=some true:=by
 unfold tH;rcases KD u with k|⟨k,L,h,F⟩
 ·simp only[k,ag,Bool.not_false,cond_true,qA]
 rcases KU F h with ⟨-,b⟩|⟨hs,M,m,hM,hm,en,b⟩
 ·simp only[k,ag,Bool.not_true,cond_false,b,qA];rfl
 ·have aG:bQ u≠[]:=by intro c;rw[c] at hs;cases hs
  obtain ⟨s,k1,d,a⟩:=K6 F h aG
  have key:=Lb F (K3 h F) (M:=M) (m:=m) (A:=s.2) (fun x hx=>K4 F ((a x).1 hx)) d ((a M).2 hM) ((a m).2 hm) (fun x hx=>by
   obtain ⟨i,e,n,he,f,rfl⟩:=(a x).1 hx
   exact en i e n he f) rfl s.1
  have e0:(if bA (cY m u.aF) (bO M u.aF) then ((⟨0,0⟩,⟨0,0⟩,false,0):an×an×Bool×Int) else (bO M u.aF,cY m u.aF,true,0)).2.2.2=0:=by split<;>rfl
  simp only[k,ag,Bool.not_true,cond_false,b,e0,bne_self_eq_false,k1,aA,key]
end Go.Proofs.YtpgcmoanfifglaaGreatDoor
end

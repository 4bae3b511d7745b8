/- A part of the proof of a row and its tied card: QN10. -/
import Derived.Test.YtpgcmoanfifglaaGreatDoorQN9
set_option linter.all false
section
namespace Go.Proofs.YtpgcmoanfifglaaGreatDoor
open Go Go.Sep Go.Proofs
set_option maxRecDepth 100000
set_option maxHeartbeats 4000000
theorem Lz {u:ak}(h:Int)(P:List Int)(b:u.props.length+P.length<=1000):nE u h P=some (pr u h P):=by
 unfold nE qc;rw[if_pos (by omega)];have key:=jD (f:=qf h) (ρ:=ak) (g:=fun _ p (s:List bN)=>s++[(⟨p,h⟩:bN)]) (I:=fun j s=>s.length<=u.props.length+j) P 0 u.props (by omega)
  (fun j p s a c=>by
   have d:=(List.getElem?_eq_some_iff.1 a).1;refine ⟨?_,by simp only[List.length_append,List.length_singleton];omega⟩;unfold qf
   simp only[ag,iw (l:=s) (xs:=[(⟨p,h⟩:bN)]) (by simp only[List.length_singleton];omega)])
 have e:foldI (fun _ p (s:List bN)=>s++[(⟨p,h⟩:bN)]) 0 P u.props=u.props++P.map fun p=>⟨p,h⟩:=by
  rw[show (fun _ p (s:List bN)=>s++[(⟨p,h⟩:bN)])=(fun _ p (s:List bN)=>s++(fun p=>[(⟨p,h⟩:bN)]) p) from rfl,qO,xX]
 simp only[ag,key.1,aB,e];rfl
theorem LA {u:ak}(h:Int)(P:List Int)(d:u.props.length+P.length<=1000):n4 u P h=some (pr u h P):=by
 unfold n4
 obtain ⟨s,k1,b⟩:=HZ (f:=nZ P h) (ρ:=ak) (fun i (s:List bN)=>s=u.props++(P.take i).map fun p=>⟨p,h⟩) (fun s i=>(i,s)) P (by omega) (fun i x s a c=>by
  have e:=(List.getElem?_eq_some_iff.1 a).1;refine ⟨s++[⟨x,h⟩],?_,by rw[c,List.take_add_one,a];simp⟩;have hs:s.length<=u.props.length+i:=by rw[c];simp;omega
  unfold nZ;rw[show decide ((((i:Int),s):Int×List bN).1<(P.length:Int))=true by simp;omega];simp only[cond_true,fj a,ag,iw (l:=s) (xs:=[(⟨x,h⟩:bN)]) (by simp only[List.length_singleton];omega)];rw[cc (n:=(i:Int)+1) (by omega)]
  rfl) (fun s=>by
  unfold nZ
  simp) u.props (by simp)
 rw[List.take_length] at b;rw[iw (l:=([]:List bN)) (xs:=u.props) (by simp;omega),List.nil_append];simp only[ag,k1,aB,b];rfl
theorem LB {o:ak}(L:List aQ)(h:∀s,s∈L->fQ o s=some (dz o s)):ny o L=some (!L.any (dz o)):=by
 unfold ny sC sB
 rw[tC (t:=fun i x=>if dz o x then some (i:Int) else none) L 0 0 fun j x s a=>by
  unfold sA;rw[h x (List.mem_of_getElem? a)]
  cases dz o x<;>rfl]
 obtain ⟨r,b,c⟩:=tD (g:=dz o) L 0;rw[b,<-c];cases r<;>rfl
def lF (u:ak)(P:List Int):Prop:=(∀p,p∈P->dS u<=p/\p<=dG u)/\u.props.length+P.length<=3
theorem DI {f:List Int->Option Bool}{g:List Int->Bool}:∀(l:List (List Int)),(∀x,x∈l->f x=some (g x))->mS f l=some (l.map g)
 |[],_=>rfl
 |x::l,h=>by
  unfold mS
  rw[h x (by simp),DI l fun y a=>h y (by simp[a])]
  rfl
section
variable {u : ak} (F : Fit u) (aF : cn u ≠ [])
include F aF
theorem LC {h:Int}(hh:1<=h/\h<=20){L:List aQ}(c:∀s,s∈L↔∃i e n,u.aG[i]?=some e/\n∈dj u i e/\s=⟨e.back,n⟩){P:List Int}(d:lF u P)(all:List aX):
  uk ⟨u,all⟩ h L P=some (ep u (pr u h P)):=by
 have G:=uv F hh d.1 d.2
 unfold uk
 simp only[Lz (u:=u) h P (by have:=d.2;omega),ag]
 rw[LB L fun s hs=>by
  obtain ⟨i,e,n,he,b,rfl⟩:=(c s).1 hs
  exact (tE G (yQ F he b)).1]
 refine congrArg some ?_
 rw[Bool.eq_iff_iff,uu,Bool.not_eq_true',List.any_eq_false]
 constructor
 ·intro a i e n he b
  have:=a _ ((c _).2 ⟨i,e,n,he,b,rfl⟩)
  simpa using this
 ·intro a s hs
  obtain ⟨i,e,n,he,b,rfl⟩:=(c s).1 hs
  simp[a i e n he b]
theorem LD {h:Int}(hh:1<=h/\h<=20){S:List (List Int)}(b:∀P,P∈S->lF u P)(n:S.length<=1000000):
  oN ⟨u,(cn u).map dc⟩ h S=some (S.filter fun P=>ep u (pr u h P)):=by
 obtain ⟨L,k1,o,p,c⟩:=Lu F aF
 have d:=DI (f:=uk ⟨u,(cn u).map dc⟩ h L) (g:=fun P=>ep u (pr u h P)) S fun P k=>LC F aF hh c (b P k) _
 have key:=jD (f:=qW (S.map fun P=>ep u (pr u h P))) (ρ:=List (List Int)) (g:=fun _ P s=>if ep u (pr u h P) then s++[P] else s) (I:=fun j s=>s.length<=j) S 0 [] (by simp)
  (fun j P s a m=>by
   have q:=(List.getElem?_eq_some_iff.1 a).1
   have hg:(S.map fun P=>ep u (pr u h P))[0+j]?=some (ep u (pr u h P)):=by rw[Nat.zero_add,List.getElem?_map,a];rfl
   rw[Nat.zero_add] at hg m ⊢
   unfold qW
   simp only[fj hg,ag]
   cases ep u (pr u h P) with
   |false=>exact ⟨rfl,by simp only[Bool.false_eq_true,if_false];omega⟩
   |true=>exact ⟨by simp only[cond_true,iw (l:=s) (xs:=[P]) (by simp only[List.length_singleton];omega),if_true],by simp only[if_true,List.length_append,List.length_singleton];omega⟩)
 have e:∀(l:List (List Int)) (i:Nat) (s:List (List Int)),foldI (fun _ P s=>if ep u (pr u h P) then s++[P] else s) i l s=s++l.filter fun P=>ep u (pr u h P):=by
  intro l
  induction l with
  |nil=>intro i s;simp[foldI]
  |cons P l ih=>
   intro i s
   unfold foldI
   rw[ih]
   cases hb:ep u (pr u h P)<;>simp[List.filter,hb]
 unfold oN
 rw[decide_eq_true (show S.length<1048576 by omega)]
 simp only[cond_true,k1,ag,d,key.1,aB,e,List.nil_append]
end
section
variable {u : ak} (F : Fit u)
include F
def oQ (u:ak)(P:List Int):Int:=match P.getLast? with
 |some p=>p+1
 |none=>dS u
def jj (u:ak)(P:List Int):List (List Int):=(cA ⟨oQ u P,dG u⟩).map fun p=>P++[p]
theorem yU (f:List Int->List (List Int)×Int->Option (Fl (List (List Int)×Int) (List (List Int))))
  (b:∀P st,f P st=ag (ef u st.2) fun x=>cond x (ag (nC P) fun y=>ag (cY y ([st.2])) fun z=>ag (cY st.1 ([z])) fun w=>some (.nx (w,IntKind.i64.wrap (st.2+1)))) (some (.bk (st.1,st.2))))
  {P:List Int} (e:P.length<=1000):∀(k n:Nat) (p:Int) (s:List (List Int)),dS u<=p->(dG u+1 - p).toNat=k->k<n->s.length+k<=1000000->
  ∃q,aR (f P) n (s,p)=some (.nx (s++(cA ⟨p,dG u⟩).map (fun p=>P++[p]),q))
 |0,n+1,p,s,d,g,_,_=>by
  obtain ⟨a,z,-,-,e1,e2,h,b2,b3⟩:=oP F
  refine ⟨p,?_⟩
  unfold aR
  rw[b,yT F,show bI p (dS u) (dG u)=false by cases c:bI p (dS u) (dG u) with|false=>rfl|true=>have:=dP.1 c;omega,Cc (by omega)]
  simp[ag]
 |k+1,n+1,p,s,d,g,i,hs=>by
  obtain ⟨a,z,-,-,e1,e2,h,b2,b3⟩:=oP F
  obtain ⟨q,ih⟩:=yU f b e k n (p+1) (s++[P++[p]]) (by omega) (by omega) (by omega) (by simp only[List.length_append,List.length_singleton];omega)
  refine ⟨q,?_⟩
  unfold aR
  rw[b,yT F,oq d (by omega)]
  unfold nC
  simp only[ag,cond_true,if_pos (show P.length<=1000000 by omega),iw (l:=P) (xs:=[p]) (by simp only[List.length_singleton];omega),iw (l:=s) (xs:=[P++[p]]) (by simp only[List.length_singleton];omega)]
  rw[cc (n:=p+1) (by omega),ih,Cb (show p<=dG u by omega)]
  simp
theorem LF {S:List (List Int)}(j:∀P,P∈S->lF u P)(k:(S.flatMap (jj u)).length<=1000000)(t:S.length<=1000000):nG u S=some (S.flatMap (jj u)):=by
 obtain ⟨a,z,l,-,e1,e2,v,b2,b3⟩:=oP F;have key:∀(T:List (List Int)) (i:Nat) (s:List (List Int)),(∀P,P∈T->lF u P)->s.length+(T.flatMap (jj u)).length<=1000000->bB (nF u) i T s=some (.nx (s++T.flatMap (jj u))):=by
  intro T
  induction T with
  |nil=>intro i s _ _;simp[bB]
  |cons P T ih=>
   intro i s f hs;rw[List.flatMap_cons,List.length_append] at hs;have g:=f P (by simp);have hlen:(jj u P).length=(dG u+1 - oQ u P).toNat:=by unfold jj;rw[List.length_map,lg];show (dG u - oQ u P+1).toNat=_;congr 1;omega
   have one:nF u i P s=some (.nx (s++jj u P)):=by
    unfold nF;simp only[show bf u.av 0=some a from fj l,ag];cases c:P with
    |nil=>
     obtain ⟨q,b⟩:=yU F (sN u) (fun _ _=>rfl) (P:=[]) (by simp) (dG u+1 - dS u).toNat fu (dS u) s (by omega) rfl (by unfold fu;omega) (by rw[hlen,c] at hs;have:oQ u []=dS u:=rfl;rw[this] at hs;omega);rw[e1] at b;rw[show decide (0<((([]:List Int).length:Nat):Int))=false from rfl];simp only[cond_false,b,aB];rw[show jj u []=(cA ⟨dS u,dG u⟩).map (fun p=>[]++[p]) from rfl,e1]
    |cons x r=>
     have d:P≠[]:=by rw[c];simp
     obtain ⟨p,e⟩:∃p,P.getLast?=some p:=by
      cases hh:P.getLast? with
      |none=>exact absurd (List.getLast?_eq_none_iff.1 hh) d
      |some p=>exact ⟨p,rfl⟩
     have hm:p∈P:=List.mem_of_getLast? e;have hb:=g.1 p hm;have h:oQ u P=p+1:=by unfold oQ;rw[e]
     have w:=g.2;have hi:bf P (IntKind.i64.wrap ((P.length:Int) - 1))=some p:=by
      have:0<P.length:=List.length_pos_iff.2 d;rw[cc (by omega)];have m:P[P.length - 1]?=some p:=by rw[<-List.getLast?_eq_getElem?];exact e
      have:=fj m
      rwa [show (((P.length - 1:Nat)):Int)=(P.length:Int) - 1 by omega] at this
     obtain ⟨q,b⟩:=yU F (sM u) (fun _ _=>rfl) (P:=P) (by omega) (dG u+1 - (p+1)).toNat fu (p+1) s (by omega) rfl (by unfold fu;omega) (by rw[hlen,h] at hs;omega);rw[<-c];rw[decide_eq_true (show (0:Int)<(P.length:Int) by have:0<P.length:=List.length_pos_iff.2 d;omega)];simp only[cond_true,hi];rw[cc (n:=p+1) (by omega)];simp only[b,aB];unfold jj;rw[h]
   unfold bB;rw[one];simp only[ag];rw[ih (i+1) (s++jj u P) (fun Q o=>f Q (by simp[o])) (by rw[List.length_append];omega),List.flatMap_cons,List.append_assoc]
 unfold nG;rw[key S 0 [] j (by simpa using k)];simp[ag,aB]
end
theorem DJ {S:List (List Int)}(j:Nat):(S.take j).flatten.length<=S.flatten.length:=by
 have:S.flatten=(S.take j).flatten++(S.drop j).flatten:=by rw[<-List.flatten_append,List.take_append_drop]
 rw[this,List.length_append];omega
theorem DK {S:List (List Int)}{j:Nat}{x:List Int}(h:S[j]?=some x):(S.take (j+1)).flatten=(S.take j).flatten++x:=by
 rw[List.take_add_one,h];simp
theorem LG {S:List (List Int)}(h:S.flatten.length<=1000):qk S=some S.flatten:=by
 obtain ⟨n,k1,d⟩:=xH (f:=qj) (ρ:=List Int) (I:=fun j (s:Int)=>s=((S.take j).flatten.length:Int)) S 0 0 (by simp) (fun j x s c a=>by
  rw[Nat.zero_add] at a ⊢;have t:=DK c;have b:=DJ (S:=S) (j+1);rw[t,List.length_append] at b;refine ⟨s+x.length,?_,by rw[a,t,List.length_append];omega⟩;unfold qj;rw[cc (n:=s+x.length) (by omega),decide_eq_false (show ¬s+(x.length:Int)<0 by omega)]
  rfl)
 obtain ⟨r,g,e⟩:=xH (f:=wU) (ρ:=List Int) (I:=fun j (s:List Int)=>s=(S.take j).flatten) S 0 [] (by simp) (fun j x s c a=>by
  rw[Nat.zero_add] at a ⊢;have t:=DK c;have b:=DJ (S:=S) (j+1);rw[t,List.length_append] at b;refine ⟨s++x,?_,by rw[a,t]⟩;unfold wU;rw[iw (l:=s) (xs:=x) (by rw[a];omega)]
  rfl)
 rw[Nat.zero_add,List.take_length] at d e;unfold qk sV;simp only[k1,ag,aB,d,if_pos (show (0:Int)<=(S.flatten.length:Int)/\(S.flatten.length:Int)<=1000 by omega),g,e]
theorem LH {u:ak}{f g:ak->Option Int}(h:e4 u=some 0)(a:f u=some 0)(hg:g u=some 0):eU u [f,g]=some (u,0):=by
 unfold eU;rw[h];simp only[ag,bne_self_eq_false,cond_false];unfold bB qd;simp only[a,ag,bne_self_eq_false,cond_false];unfold bB;simp only[hg,ag,bne_self_eq_false,cond_false];rfl
theorem LI {u:ak}{k:Int}(a:1<=k/\k<=20):gf k u=some 0:=by
 unfold gf;rw[jB,eM,oq a.1 a.2];rfl
theorem yV:∀l:List Int,(l.map fun p=>[p]).flatten=l
 |[]=>rfl
 |a::l=>by rw[List.map_cons,List.flatten_cons,yV l];rfl
theorem DL {u:ak}(F:Fit u)(h:e4 u=some 0)(n:u.props.length<3){k:Int}(e:1<=k/\k<=20):
  mT u k=some (if (cn u).isEmpty then ([],9) else ((cA ⟨dS u,dG u⟩).filter fun p=>ep u (pr u k [p]),0)):=by
 have s1:k3 u=some 0:=by
  unfold k3
  rw[show ((u.props.length:Int)==3)=false by rw[beq_eq_false_iff_ne];omega]
  rfl
 unfold mT
 rw[Ch F (LH h (LI e) s1)]
 cases hs:(cn u).isEmpty with
 |true=>rfl
 |false=>
  have aF:cn u≠[]:=by intro c;rw[c] at hs;cases hs
  obtain ⟨a,z,-,-,e1,e2,o,b2,b3⟩:=oP F
  have hlen:(cA ⟨dS u,dG u⟩).length<=60:=by rw[lg];show (dG u - dS u+1).toNat<=60;omega
  have i:∀P,P∈[([]:List Int)]->lF u P:=fun P b=>by
   rw[List.mem_singleton] at b;subst b
   exact ⟨fun p d=>(by cases d),(by simp;omega)⟩
  have f:[([]:List Int)].flatMap (jj u)=(cA ⟨dS u,dG u⟩).map fun p=>[p]:=by
   rw[List.flatMap_cons,List.flatMap_nil,List.append_nil];rfl
  have lv:=LF F i (by rw[f,List.length_map];omega) (by simp)
  rw[f] at lv
  have j:∀P,P∈(cA ⟨dS u,dG u⟩).map (fun p=>[p])->lF u P:=fun P b=>by
   rw[List.mem_map] at b
   obtain ⟨p,d,rfl⟩:=b
   have:=oo.1 d
   exact ⟨fun q l=>by rw[List.mem_singleton.1 l];exact this,by simp;omega⟩
  have g:=LD F aF e j (by rw[List.length_map];omega)
  rw[List.filter_map] at g
  have m:(((cA ⟨dS u,dG u⟩).filter ((fun P=>ep u (pr u k P)) ∘ fun p=>[p])).map fun p=>[p]).flatten.length<=1000:=by
   rw[yV]
   exact Nat.le_trans (List.length_filter_le ..) (by omega)
  simp only[ag,Bool.false_eq_true,if_false,bne_self_eq_false,cond_false,lv,g,LG m,yV]
  rfl
theorem LJ {l:List Int}{n:Int}(d:l.length<=1000)(m:0<=n/\n<=1000)(hb:∀x,x∈l->0<=x/\x<n)(e:l.Pairwise (· <·)):qq l n=some 0:=by
 unfold qq
 have:=og (t:=fun _ _=>(none:Option Int)) l d (f:=n6 l n) (fun i x s a=>by
  have b:=(List.getElem?_eq_some_iff.1 a).1;have g:=hb x (List.mem_of_getElem? a);unfold n6;rw[show decide ((s,(i:Int)).2<(l.length:Int))=true by simp;omega];simp only[cond_true,fj a,ag,eM,cc (n:=n - 1) (by omega),oq g.1 (show x<=n - 1 by omega),Bool.not_true,cond_false];rw[cc (n:=(i:Int)+1) (by omega)];by_cases c:i=0
  ·subst c;rfl
  ·obtain ⟨j,rfl⟩:∃j,i=j+1:=⟨i - 1,by omega⟩
   have h:l[j]?=some (l[j]'(by omega)):=List.getElem?_eq_getElem _;have o:l[j]'(by omega)<x:=by
    have k:l[j+1]'b=x:=by have:=List.getElem?_eq_getElem b;rw[a] at this;exact (Option.some.inj this).symm
    rw[<-k];exact List.pairwise_iff_getElem.1 e j (j+1) (by omega) b (by omega)
   rw[decide_eq_true (show (0:Int)<(((j+1:Nat)):Int) by omega),show IntKind.i64.wrap ((((j+1:Nat)):Int) - 1)=(j:Int) by rw[cc (by omega)];omega];simp only[cond_true,fj h,decide_eq_false (show ¬x<=l[j]'(by omega) by omega),cond_false]
   rfl) (fun s=>by
  unfold n6
  simp) 0
 rw[this,yO];rfl
theorem DN {α ρ:Type}{t:Nat->α->Option ρ}{r:ρ}:∀(l:List α) (i:Nat),(∀j x,l[j]?=some x->t (i+j) x=none\/t (i+j) x=some r)->
  (fH t i l=none/\∀j x,l[j]?=some x->t (i+j) x=none)\/(fH t i l=some r/\∃j x,l[j]?=some x/\t (i+j) x=some r)
 |[],i,_=>.inl ⟨rfl,fun j x h=>by simp at h⟩
 |y::l,i,h=>by
  unfold fH
  have d:=h 0 y rfl
  rw[Nat.add_zero] at d
  rcases d with e|e
  ·rw[e]
   simp only
   rcases DN l (i+1) (fun j x c=>by have:=h (j+1) x (by simpa using c);rwa [show i+(j+1)=i+1+j by omega] at this) with ⟨a,b⟩|⟨a,j,x,c,b⟩
   ·refine .inl ⟨a,fun j x c=>?_⟩
    cases j with
    |zero=>
     have:y=x:=by simpa using c
     rw[Nat.add_zero,<-this];exact e
    |succ j=>have:=b j x (by simpa using c);rwa [show i+1+j=i+(j+1) by omega] at this
   ·exact .inr ⟨a,j+1,x,by simpa using c,by rwa [show i+1+j=i+(j+1) by omega] at b⟩
  ·rw[e]
   exact .inr ⟨rfl,0,y,rfl,by rw[Nat.add_zero];exact e⟩
section
variable {u : ak} (F : Fit u) (h : e4 u = some 0) (aF : cn u ≠ [])
include F h aF
theorem LK {k:Int}(l:1<=k/\k<=20){P:List Int}(g:lF u P):qv u P k=some (ep u (pr u k P)):=by
 have G:=uv F l g.1 g.2;have f:=Ih (u:=pr u k P) (show gV u=0 from Ig h) G;have q:=F.aG;have inner:∀(i:Nat) (e:b6) (d:Bool),u.aG[i]?=some e->aR (n9 u (pr u k P) (i:Int) (dj u i e,0)) fu (d,0)=some (ko (if (dj u i e).any (fun n=>dz (pr u k P) ⟨e.back,n⟩) then some false else none) (d,((dj u i e).length:Int))):=fun i e d he=>by
  have w:=(yS F aF he).2
  rw[og (t:=fun _ n=>if dz (pr u k P) ⟨e.back,n⟩ then some false else none) (dj u i e) (by omega) (fun j n s c=>by
   have m:=(List.getElem?_eq_some_iff.1 c).1;have hb:Bd ⟨e.back,n⟩:=yQ F he (List.mem_of_getElem? c);have sv:=IF G f hb;have o:dz (pr u k P) ⟨e.back,n⟩=bA u.aY (gF (pr u k P) ⟨e.back,n⟩):=tF G hb;unfold n9;rw[show decide ((s,(j:Int)).2<(((dj u i e,(0:Int)):List Int×Int).1.length:Int))=true by simp;omega];simp only[cond_true,fj he,fj c,ag,show j9 e.back n=some ⟨e.back,n⟩ from rfl,sv,bne_self_eq_false,cond_false];rw[show bA (pr u k P).aY (gF (pr u k P) ⟨e.back,n⟩)=dz (pr u k P) ⟨e.back,n⟩ from o.symm,cc (n:=(j:Int)+1) (by omega)]
   cases dz (pr u k P) ⟨e.back,n⟩<;>rfl) (fun s=>by
   unfold n9
   simp) d,yP]
 unfold qv;rw[LA (u:=u) k P (by have:=g.2;omega)];simp only[ag]
 rw[og (t:=fun i e=>if (dj u i e).any (fun n=>dz (pr u k P) ⟨e.back,n⟩) then some false else none) u.aG (by omega) (fun i e s he=>by
  have m:=(List.getElem?_eq_some_iff.1 he).1;have v:=Lq F h he;rw[Ly aF,if_neg (by decide)] at v;unfold qu;rw[show decide ((s,(i:Int)).2<(u.aG.length:Int))=true by simp;omega];simp only[cond_true,v,ag,bne_self_eq_false,cond_false,inner i e s he];rw[cc (n:=(i:Int)+1) (by omega)]
  cases (dj u i e).any (fun n=>dz (pr u k P) ⟨e.back,n⟩)<;>rfl) (fun s=>by
  unfold qu
  simp) false]
 rcases DN (t:=fun i e=>if (dj u i e).any (fun n=>dz (pr u k P) ⟨e.back,n⟩) then some false else none) (r:=false) u.aG 0 (fun j x _=>by
  cases (dj u (0+j) x).any (fun n=>dz (pr u k P) ⟨x.back,n⟩)<;>simp) with ⟨a,b⟩|⟨a,j,x,p,b⟩
 ·rw[a];have:ep u (pr u k P)=true:=by
   rw[uu];intro i e n he c;have:=b i e he;rw[Nat.zero_add] at this;cases f:dz (pr u k P) ⟨e.back,n⟩ with
   |false=>rfl
   |true=>rw[if_pos (List.any_eq_true.2 ⟨n,c,f⟩)] at this;cases this
  rw[this];rfl
 ·rw[a];have:ep u (pr u k P)=false:=by
   cases hh:ep u (pr u k P) with
   |false=>rfl
   |true=>
    rw[uu] at hh;rw[Nat.zero_add] at b;cases f:(dj u j x).any (fun n=>dz (pr u k P) ⟨x.back,n⟩) with
    |false=>rw[f] at b;cases b
    |true=>
     obtain ⟨n,c,hs⟩:=List.any_eq_true.1 f;rw[hh j x n p c] at hs;cases hs
  rw[this];rfl
end
theorem LL (b:c6):(cA b).Pairwise (· <·):=by
 unfold cA;rw[List.pairwise_map];refine List.Pairwise.imp ?_ List.pairwise_lt_range;intro x y h;omega
theorem LM (u:ak)(a:Int)(H:0<=a/\a<=255)(b:Int)(hb:0<=b/\b<=255)(c:Int)(I:0<=c/\c<=255):uo u a b c=some true:=by
 unfold uo;rcases Lc u with k|⟨k,L,h,F⟩
 ·simp only[k,ag,Bool.not_false,cond_true,qX]
 by_cases l:u.props.length<3
 ·obtain ⟨x,z,J,K,o,s,r,v,N,k1,w⟩:=Ld F hb;obtain ⟨T,U,A,B,e1,e2,V,b2,b3⟩:=oP F;rw[J] at A;cases A;rw[K] at B;cases B;have t1:=yN (a:=a) (b:=20) H.1 (by decide);have t2:=yN (a:=c) (b:=5) I.1 (by decide);have d:ga (IntKind.i64.wrap a) 20=some (a.tmod 20):=by rw[cc (by omega)];exact yM (by decide)
  have em:ga (IntKind.i64.wrap c) 5=some (c.tmod 5):=by rw[cc (by omega)];exact yM (by decide)
  generalize a.tmod 20=t at d t1;generalize c.tmod 5=m at em t2;have w1:IntKind.i64.wrap (1+t)=1+t:=cc (by omega);have w2:IntKind.i64.wrap (1+t+m)=1+t+m:=cc (by omega);obtain ⟨M,e⟩:∃M,(if 1+t+m<20 then 1+t+m else 20)=M:=⟨_,rfl⟩
  have C:1+t<=M/\M<=20:=by rw[<-e];split<;>omega
  have v1:=DL F h l (k:=1+t) (by omega);have v2:=DL F h l (k:=M) (by omega);have f:=ID F h;have d3:decide ((3:Int)<=(u.props.length:Int))=false:=decide_eq_false (by omega);cases hs:(cn u).isEmpty with
  |true=>
   have D:(cn u).length=0:=by simpa using hs
   rw[hs,if_pos rfl] at v1 v2;rw[D] at f;simp only[k,ag,Bool.not_true,cond_false,d3,d,o,s,v,w1,em,w2,e,v1,v2,f,qX];rfl
  |false=>
   have aF:cn u≠[]:=by intro q;rw[q] at hs;cases hs
   have D:0<(cn u).length:=List.length_pos_iff.2 aF;rw[hs,if_neg (by decide)] at v1 v2;have O:lF u [x.aH+r]:=⟨fun p g=>by rw[List.mem_singleton.1 g,e1,e2];exact ⟨k1,w⟩,by simp;omega⟩
   have sv:=LK F h aF (k:=1+t) (by omega) O;have hlen:(cA ⟨dS u,dG u⟩).length<=60:=by rw[lg];show (dG u - dS u+1).toNat<=60;omega
   have i:((cA ⟨dS u,dG u⟩).filter fun p=>ep u (pr u (1+t) [p])).length<=1000:=Nat.le_trans (List.length_filter_le ..) (by omega);have P:((cA ⟨dS u,dG u⟩).filter fun p=>ep u (pr u M [p])).length<=1000:=Nat.le_trans (List.length_filter_le ..) (by omega)
   have Q:=LJ (n:=60) i (by omega) (fun y j=>by
    have:=oo.1 (List.mem_filter.1 j).1;simp only at this
    omega) ((LL _).filter _)
   have R:=Lj i P fun y j=>by
    obtain ⟨E,S⟩:=List.mem_filter.1 j;have:=oo.1 E;exact List.mem_filter.2 ⟨E,Lx F (by omega) C.1 C.2 (fun p g=>by rw[List.mem_singleton.1 g];exact this) (by simp;omega) S⟩
   have G:=DF i (x.aH+r);have heq:(((cA ⟨dS u,dG u⟩).filter fun p=>ep u (pr u (1+t) [p])).any (· ==x.aH+r))=ep u (pr u (1+t) [x.aH+r]):=by
    rw[Bool.eq_iff_iff,any_eq,List.mem_filter];exact ⟨fun q=>q.2,fun q=>⟨oo.2 (by rw[e1,e2];exact ⟨k1,w⟩),q⟩⟩
   rw[heq] at G;simp only[k,ag,Bool.not_true,cond_false,d3,d,o,s,v,w1,em,w2,e,v1,v2,f,bne_self_eq_false,beq_self_eq_true,decide_eq_true (show (0:Int)<((cn u).length:Int) by omega),Q,cond_true,R,N,G,sv,qX]
 ·have d3:decide ((3:Int)<=(u.props.length:Int))=true:=decide_eq_true (by omega);simp only[k,ag,Bool.not_true,cond_false,d3,cond_true,qX]
end Go.Proofs.YtpgcmoanfifglaaGreatDoor
end

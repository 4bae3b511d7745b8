/- A part of the proof of a row and its tied card: QI10. -/
import Derived.Test.YtpgcmoanfifglaaGreatDoorQI9
set_option linter.all false
section
namespace Go.Proofs.YtpgcmoanfifglaaGreatDoor
open Go Go.Sep Go.Proofs
set_option maxRecDepth 100000
set_option maxHeartbeats 4000000
theorem LB9 {u:aj}{i:Nat}{e:bO}(he:u.av[i]?=some e)(n:Int):dX u i n=⟨e.back,n⟩:=by unfold dX;rw[he];rfl
def mb (u:aj)(i:Nat)(e:bO)(b:cC):aj:=⟨u.bH,u.bK,u.aS,u.ax,u.props,u.av.set i ⟨e.back,b⟩,u.told⟩
section
variable {u : aj} {i : Nat} {e : bO} (he : u.av[i]? = some e) (b : cC)
theorem LC (s:bf):fW (mb u i e b) s=fW u s:=rfl
include he
theorem q4 (j:Nat):(mb u i e b).av[j]?=if j=i then some ⟨e.back,b⟩ else u.av[j]?:=by
 show (u.av.set i ⟨e.back,b⟩)[j]?=_;rw[List.getElem?_set];have hi:i<u.av.length:=(List.getElem?_eq_some_iff.1 he).1;by_cases c:j=i
 ·rw[if_pos c.symm,if_pos c,if_pos (by omega)]
 ·rw[if_neg (fun h=>c h.symm),if_neg c]
theorem LD (j:Nat)(n:Int):dX (mb u i e b) j n=dX u j n:=by
 unfold dX;rw[q4 he b];by_cases c:j=i
 ·subst c;rw[if_pos rfl,he];rfl
 ·rw[if_neg c]
theorem DN (j:Nat)(n:Int):fH (mb u i e b) j n=fH u j n:=by
 unfold fH;rw[LD he b];rfl
theorem DO:cJ (mb u i e b) i ⟨e.back,b⟩=(cm b).filter (fH u i):=by
 unfold cJ;exact congrArg (fun f=>List.filter f (cm b)) (funext fun n=>DN he b i n)
theorem LF {j:Nat}(x:bO):cJ (mb u i e b) j x=cJ u j x:=by
 unfold cJ;exact congrArg (fun f=>List.filter f (cm x.high)) (funext fun n=>DN he b j n)
theorem q5 (F:Fit u)(f:0<=b.low)(g:b.low<=b.high)(h:b.high<=60)(k:b.high - b.low<3):Fit (mb u i e b):=by
 have d:(mb u i e b).av.length=u.av.length:=List.length_set ..;refine ⟨F.bH,F.bK,F.den,F.num,F.ax,F.kD,F.xM,F.props,F.prop,by rw[d];exact F.av,fun j x a=>?_,F.told,fun j x a=>by rw[d];exact F.qw j x a⟩;rw[q4 he b] at a;by_cases c:j=i
 ·rw[if_pos c] at a;cases a;exact ⟨(F.aQ i e he).1,f,g,h,k⟩
 ·rw[if_neg c] at a;exact F.aQ j x a
theorem DQ (F:Fit u)(h:er u=some 0)(a:0<=b.low)(c:b.low<=b.high)(d:b.high<=60)(f:b.high - b.low<3):er (mb u i e b)=some 0:=
 Iu (u:=mb u i e b) (show gV u=0 from It h) (q5 he b F a c d f)
theorem DR:eJ (mb u i e b)=(eJ u).set i ((cm b).filter (fH u i)):=by
 refine List.ext_getElem? fun j=>?_;have hi:i<u.av.length:=(List.getElem?_eq_some_iff.1 he).1;rw[List.getElem?_set];by_cases c:i=j
 ·subst c;rw[if_pos rfl,if_pos (by rw[lJ];exact hi),lI (e:=⟨e.back,b⟩) (by rw[q4 he b,if_pos rfl]),DO he b]
 ·rw[if_neg c];by_cases d:j<u.av.length
  ·have a:u.av[j]?=some u.av[j]:=List.getElem?_eq_getElem d;rw[lI a,lI (e:=u.av[j]) (by rw[q4 he b,if_neg (fun h=>c h.symm)];exact a),LF he b]
  ·rw[List.getElem?_eq_none (by rw[lJ];show (u.av.set i ⟨e.back,b⟩).length<=j;rw[List.length_set];omega),List.getElem?_eq_none (by rw[lJ];omega)]
end
theorem LG {u:aj}(L:kJ u)(F:Fit u)(h:er u=some 0){i:Nat}{e:bO}(he:u.av[i]?=some e)(x:cC):
  lB u (i:Int) x=some (if gm x 0 60 then
   let b:cC:=⟨if e.high.low<x.low then x.low else e.high.low,if x.high<e.high.high then x.high else e.high.high⟩
   if b.high<b.low then (g8,9) else if (bw (mb u i e b)).isEmpty then (g8,9) else (mb u i e b,0)
  else (g8,1)):=by
 have hi:i<u.av.length:=(List.getElem?_eq_some_iff.1 he).1
 have y:=F.av
 obtain ⟨c1,c2,c3,c4,z⟩:=F.aQ i e he
 obtain ⟨c,k1,o⟩:=bars L
 rw[h] at k1
 obtain rfl:=Option.some.inj k1
 obtain ⟨r,q,s,-⟩:=IE L (i:Int) x
 rw[q,<-s]
 unfold x2
 rw[o,(qu u i).1,(yb F).2 ⟨by omega,by omega⟩]
 simp only[ag,bne_self_eq_false,cond_false,Bool.not_true,td]
 cases g:gm x 0 60 with
 |false=>rfl
 |true=>
  unfold gm at g
  simp only[Bool.and_eq_true,decide_eq_true_eq] at g
  unfold xz xC
  simp only[Bool.not_true,cond_false,g9 he,if_true]
  by_cases f:(if x.high<e.high.high then x.high else e.high.high)<(if e.high.low<x.low then x.low else e.high.low)
  ·rw[if_pos f,show decide ((if x.high<e.high.high then x.high else e.high.high)<(if e.high.low<x.low then x.low else e.high.low))=true from decide_eq_true f]
   rfl
  ·rw[if_neg f,show decide ((if x.high<e.high.high then x.high else e.high.high)<(if e.high.low<x.low then x.low else e.high.low))=false from decide_eq_false f]
   simp only[cond_false,ag,m3 (l:=([]:List bO)) (xs:=u.av) (by simp;omega),List.nil_append,g9 he,Int.toNat_natCast]
   have j:0<=(if e.high.low<x.low then x.low else e.high.low):=by split<;>omega
   have k:(if x.high<e.high.high then x.high else e.high.high)<=60:=by split<;>omega
   have m:(if x.high<e.high.high then x.high else e.high.high) - (if e.high.low<x.low then x.low else e.high.low)<3:=by split<;>split<;>omega
   generalize (if x.high<e.high.high then x.high else e.high.high)=a at*
   generalize (if e.high.low<x.low then x.low else e.high.low)=d at*
   have G:=q5 he ⟨d,a⟩ F j (by simp only;omega) k m
   have v:=DQ he ⟨d,a⟩ F h j (by simp only;omega) k m
   obtain ⟨A,n,w⟩:=bars (u:=mb u i e ⟨d,a⟩) ⟨L.e,L.p,by show (u.av.set i _).length<=20;rw[List.length_set];omega,L.t⟩
   rw[v] at n
   obtain rfl:=Option.some.inj n
   rw[show (⟨u.bH,u.bK,u.aS,u.ax,u.props,u.av.set i ⟨e.back,⟨d,a⟩⟩,u.told⟩:aj)=mb u i e ⟨d,a⟩ from rfl]
   unfold tE
   rw[Cg G w]
   simp only[ag]
   cases (bw (mb u i e ⟨d,a⟩)).isEmpty<;>rfl
theorem LH {n m a b:Nat}(f:n=m->a=b)(e:n=0->a=0)(hm:0<m)(g:0<b):iB n m=0\/iB n m=iB a b:=by
 unfold iB;by_cases c:n=m
 ·right;rw[if_pos c,if_pos (f c)]
 ·rw[if_neg c];by_cases d:n=0
  ·right;rw[if_pos d,if_neg (by have:=e d;omega),if_pos (e d)]
  ·left;rw[if_neg d]
theorem DU:∀(l:List an) (i:Nat) (a:an),(∀x,x∈a::l->0<x.den)->foldI (fun _ y st=>fX st y) i l a∈a::l/\∀y,y∈a::l->bQ y (foldI (fun _ y st=>fX st y) i l a)=false
 |[],i,a,h=>⟨List.mem_singleton.2 rfl,fun y d=>by rw[List.mem_singleton.1 d];exact je _⟩
 |b::l,i,a,h=>by
  have n:=h a (by simp)
  have hb:=h b (by simp)
  unfold foldI
  have hm:fX a b=a\/fX a b=b:=by unfold fX;cases bQ b a<;>simp
  have hd:0<(fX a b).den:=by rcases hm with e|e<;>rw[e]<;>assumption
  obtain ⟨g,j⟩:=DU l (i+1) (fX a b) fun x f=>by
   rcases List.mem_cons.1 f with rfl|f
   ·exact hd
   ·exact h x (by simp[f])
  have k:0<(foldI (fun _ y st=>fX st y) (i+1) l (fX a b)).den:=by
   rcases List.mem_cons.1 g with e|e
   ·rw[e];exact hd
   ·exact h _ (by simp[e])
  refine ⟨?_,fun y d=>?_⟩
  ·rcases List.mem_cons.1 g with e|e
   ·rw[e];rcases hm with e|e<;>rw[e]<;>simp
   ·simp[e]
  ·have m:=j _ (List.mem_cons_self ..)
   rcases List.mem_cons.1 d with rfl|d
   ·refine ot n hd k ?_ m
    unfold fX
    cases c:bQ b y
    ·exact je _
    ·exact xU c
   rcases List.mem_cons.1 d with rfl|d
   ·refine ot hb hd k ?_ m
    unfold fX
    cases c:bQ y a
    ·exact c
    ·exact je _
   ·exact j y (by simp[d])
theorem DV:∀(l:List an) (i:Nat) (a:an),(∀x,x∈a::l->0<x.den)->foldI (fun _ y st=>cw st y) i l a∈a::l/\∀y,y∈a::l->bQ (foldI (fun _ y st=>cw st y) i l a) y=false
 |[],i,a,h=>⟨List.mem_singleton.2 rfl,fun y d=>by rw[List.mem_singleton.1 d];exact je _⟩
 |b::l,i,a,h=>by
  have n:=h a (by simp)
  have hb:=h b (by simp)
  unfold foldI
  have hm:cw a b=a\/cw a b=b:=by unfold cw;cases bQ a b<;>simp
  have hd:0<(cw a b).den:=by rcases hm with e|e<;>rw[e]<;>assumption
  obtain ⟨g,j⟩:=DV l (i+1) (cw a b) fun x f=>by
   rcases List.mem_cons.1 f with rfl|f
   ·exact hd
   ·exact h x (by simp[f])
  have k:0<(foldI (fun _ y st=>cw st y) (i+1) l (cw a b)).den:=by
   rcases List.mem_cons.1 g with e|e
   ·rw[e];exact hd
   ·exact h _ (by simp[e])
  refine ⟨?_,fun y d=>?_⟩
  ·rcases List.mem_cons.1 g with e|e
   ·rw[e];rcases hm with e|e<;>rw[e]<;>simp
   ·simp[e]
  ·have m:=j _ (List.mem_cons_self ..)
   rcases List.mem_cons.1 d with rfl|d
   ·refine ot k hd n m ?_
    unfold cw
    cases c:bQ y b
    ·exact je _
    ·exact xU c
   rcases List.mem_cons.1 d with rfl|d
   ·refine ot k hd hb m ?_
    unfold cw
    cases c:bQ a y
    ·exact c
    ·exact je _
   ·exact j y (by simp[d])
theorem LM {u:aj}(F:Fit u)(h:er u=some 0){i:Nat}{e:bO}(he:u.av[i]?=some e)(hs:(bw u).isEmpty=false):
  ∃p q,mO u (i:Int)=some (p,q,0)/\(∃n,n∈cJ u i e/\p=fW u ⟨e.back,n⟩)/\(∃n,n∈cJ u i e/\q=fW u ⟨e.back,n⟩)/\∀n,n∈cJ u i e->bQ (fW u ⟨e.back,n⟩) p=false/\bQ q (fW u ⟨e.back,n⟩)=false:=by
 obtain ⟨a,l,c,j⟩:=LA F h he hs
 have hd:∀x,x∈a::l->0<x.den:=fun x d=>by
  rw[<-c,List.mem_map] at d
  obtain ⟨n,b,rfl⟩:=d
  exact (DL F (uA F he b)).den.1
 obtain ⟨f,p2⟩:=DU l 0 a hd
 obtain ⟨g,k⟩:=DV l 0 a hd
 refine ⟨_,_,j,?_,?_,fun n b=>?_⟩
 ·rw[<-c,List.mem_map] at f
  obtain ⟨n,b,e⟩:=f
  exact ⟨n,b,e.symm⟩
 ·rw[<-c,List.mem_map] at g
  obtain ⟨n,b,e⟩:=g
  exact ⟨n,b,e.symm⟩
 ·have:fW u ⟨e.back,n⟩∈a::l:=by rw[<-c];exact List.mem_map.2 ⟨n,b,rfl⟩
  exact ⟨p2 _ this,k _ this⟩
theorem uB {α β:Type}{f g:α->List β}(h:∀n,(f n).Sublist (g n)):∀{s t:List α},s.Sublist t->(s.flatMap f).Sublist (t.flatMap g)
 |_,_,.slnil=>.slnil
 |_,_,.cons a hs=>by rw[List.flatMap_cons];exact (uB h hs).trans (List.sublist_append_right ..)
 |_,_,.cons_cons a hs=>by rw[List.flatMap_cons,List.flatMap_cons];exact (h a).append (uB h hs)
theorem DW:∀{S:List (List Int)} {i:Nat} {s t:List Int},S[i]?=some s->t.Sublist s->(pL (S.set i t)).Sublist (pL S)
 |[],i,s,t,h,_=>by simp at h
 |a::r,0,s,t,h,hs=>by
  have:a=s:=by simpa using h
  subst this
  show (t.flatMap fun n=>(pL r).map (n::·)).Sublist (a.flatMap fun n=>(pL r).map (n::·))
  exact uB (fun n=>List.Sublist.refl _) hs
 |a::r,i+1,s,t,h,hs=>by
  show (a.flatMap fun n=>(pL (r.set i t)).map (n::·)).Sublist (a.flatMap fun n=>(pL r).map (n::·))
  exact uB (fun n=>(DW (S:=r) (by simpa using h) hs).map _) (List.Sublist.refl _)
theorem LN (lo hi:Int):(cm ⟨lo+1,hi⟩).Sublist (cm ⟨lo,hi⟩):=by
 by_cases h:lo<=hi
 ·rw[tJ h];exact List.sublist_cons_self ..
 ·rw[qP h,qP (by omega)];exact List.Sublist.refl _
theorem LO (lo hi:Int):(cm ⟨lo,hi⟩).Sublist (cm ⟨lo,hi+1⟩):=by
 unfold cm;simp only;by_cases h:lo<=hi+1
 ·rw[show (hi+1 - lo+1).toNat=(hi - lo+1).toNat+1 by omega,List.range_succ,List.map_append];exact List.sublist_append_left ..
 ·rw[show (hi+1 - lo+1).toNat=0 by omega,show (hi - lo+1).toNat=0 by omega];exact List.Sublist.refl _
theorem LP {b c:cC}(f:c.low<=b.low)(g:b.high<=c.high):(cm b).Sublist (cm c):=by
 have k1:∀k:Nat,(cm ⟨c.low+k,b.high⟩).Sublist (cm ⟨c.low,b.high⟩):=by
  intro k
  induction k with
  |zero=>simp
  |succ k ih=>
   refine List.Sublist.trans ?_ ih;rw[show c.low+((k+1:Nat):Int)=c.low+k+1 by omega];exact LN _ _
 have e:∀k:Nat,(cm ⟨c.low,b.high⟩).Sublist (cm ⟨c.low,b.high+k⟩):=by
  intro k
  induction k with
  |zero=>simp
  |succ k ih=>
   refine ih.trans ?_;rw[show b.high+((k+1:Nat):Int)=b.high+k+1 by omega];exact LO _ _
 have a:=k1 (b.low - c.low).toNat;have d:=e (c.high - b.high).toNat;rw[show c.low+((b.low - c.low).toNat:Int)=b.low by omega] at a;rw[show b.high+((c.high - b.high).toNat:Int)=c.high by omega] at d;exact a.trans d
theorem uC:∀{S:List (List Int)},pL S=[]↔∃s,s∈S/\s=[]
 |[]=>by simp[pL]
 |a::r=>by
  show (a.flatMap fun n=>(pL r).map (n::·))=[]↔_
  rw[List.flatMap_eq_nil_iff]
  constructor
  ·intro h
   cases a with
   |nil=>exact ⟨[],by simp,rfl⟩
   |cons x a=>
    have:=h x (by simp)
    rw[List.map_eq_nil_iff] at this
    obtain ⟨s,hs,e⟩:=uC.1 this
    exact ⟨s,by simp[hs],e⟩
  ·rintro ⟨s,hs,e⟩ n b
   rcases List.mem_cons.1 hs with rfl|hs
   ·rw[e] at b;cases b
   ·rw[List.map_eq_nil_iff];exact uC.2 ⟨s,hs,e⟩
section
variable {u : aj} (F : Fit u) (h : er u = some 0) {i : Nat} {e : bO} (he : u.av[i]? = some e)
include F he
theorem DX (aF:bw u≠[]){k:Int}(d:e.high.low<=k)(f:k<=e.high.high):(bw (mb u i e ⟨k,k⟩)).isEmpty=false↔k∈cJ u i e:=by
 obtain ⟨c1,c2,c3,c4,m⟩:=F.aQ i e he;have G:=q5 he ⟨k,k⟩ F (by simp only;omega) (by simp only;omega) (by simp only;omega) (by simp only;omega);have hb:cm ⟨k,k⟩=[k]:=by rw[tJ (Int.le_refl k),qP (by omega)]
 have hi:i<(eJ u).length:=by rw[lJ];exact (List.getElem?_eq_some_iff.1 he).1
 have g:k∈cJ u i e↔fH u i k=true:=by
  unfold cJ;rw[List.mem_filter,tH];exact ⟨fun x=>x.2,fun x=>⟨⟨d,f⟩,x⟩⟩
 rw[m6 G,DR he,hb,g];rw[m6 F] at aF;have h:=ye aF;cases b:fH u i k with
 |false=>
  have:pL ((eJ u).set i (List.filter (fH u i) [k]))=[]:=uC.2 ⟨List.filter (fH u i) [k],List.mem_iff_getElem?.2 ⟨i,by rw[List.getElem?_set,if_pos rfl,if_pos hi]⟩,by simp[b]⟩;rw[this];simp
 |true=>
  have:pL ((eJ u).set i (List.filter (fH u i) [k]))≠[]:=fun c=>by
   obtain ⟨s,hs,e2⟩:=uC.1 c;rcases List.mem_or_eq_of_mem_set hs with hs|rfl
   ·exact h s hs e2
   ·simp[b] at e2
  cases j:pL ((eJ u).set i (List.filter (fH u i) [k])) with
  |nil=>exact absurd j this
  |cons a l=>simp
theorem LQ {k:Int}(a:k∈cJ u i e):cJ (mb u i e ⟨k,k⟩) i ⟨e.back,⟨k,k⟩⟩=[k]:=by
 have hb:cm ⟨k,k⟩=[k]:=by rw[tJ (Int.le_refl k),qP (by omega)]
 unfold cJ at a;rw[DO he,hb];simp[(List.mem_filter.1 a).2]
end
theorem LR {n m:Nat}(hm:0<m):iB n m=2↔n=0:=by
 unfold iB;by_cases c:n=m
 ·rw[if_pos c];constructor
  ·intro h;exact absurd h (by decide)
  ·intro h;omega
 ·rw[if_neg c];by_cases d:n=0
  ·simp[d]
  ·rw[if_neg d];constructor
   ·intro h;exact absurd h (by decide)
   ·intro h;exact absurd h d
theorem LS {n m:Nat}:iB n m=1↔n=m:=by
 unfold iB;by_cases c:n=m
 ·simp[c]
 ·rw[if_neg c];by_cases d:n=0
  ·rw[if_pos d];constructor
   ·intro h;exact absurd h (by decide)
   ·intro h;exact absurd h c
  ·rw[if_neg d];constructor
   ·intro h;exact absurd h (by decide)
   ·intro h;exact absurd h c
section
variable {u : aj} (F : Fit u) (h : er u = some 0) (aF : bw u ≠ [])
include F h aF
omit F h in
theorem DY:(bw u).isEmpty=false:=by
 cases e:bw u with
 |nil=>exact absurd e aF
 |cons a l=>rfl
theorem LU {i:Nat}{e:bO}(he:u.av[i]?=some e):∃w,lA u (i:Int)=some (w,0)/\(w=1↔∀n,n∈cJ u i e->eI u (dX u i n)=true)/\(w=2↔∀n,n∈cJ u i e->eI u (dX u i n)=false):=by
 have d:=Lv F h he;rw[DY aF] at d;refine ⟨_,d,?_,?_⟩
 ·rw[LS,List.countP_eq_length];constructor
  ·intro a n c;obtain ⟨l,b,hg⟩:=(oB F aF he).1 c;have:=a l b
   rwa [hg] at this
  ·intro a l b;obtain ⟨m,hm,-,-⟩:=(ow b).1.qG i _ he;rw[hm];exact a m ((oB F aF he).2 ⟨l,b,hm⟩)
 ·rw[LR (List.length_pos_iff.2 aF),List.countP_eq_zero];constructor
  ·intro a n c;obtain ⟨l,b,hg⟩:=(oB F aF he).1 c;have:=a l b;rw[hg] at this;simpa using this
  ·intro a l b;obtain ⟨m,hm,-,-⟩:=(ow b).1.qG i _ he;rw[hm];have:=a m ((oB F aF he).2 ⟨l,b,hm⟩);simp[this]
end
section
variable {u : aj} (F : Fit u) (aF : bw u ≠ [])
include F aF
theorem DZ {i:Nat}{e:bO}(he:u.av[i]?=some e):1<=(cJ u i e).length/\(cJ u i e).length<=3:=by
 obtain ⟨c,T,d,a,b⟩:=qR F aF he;rw[b,List.length_map];exact tL a
end
theorem y6 (x:List Int):∀S:List (List Int),(pL (S++[x])).length=(pL S).length*x.length
 |[]=>by rw[List.nil_append,lH,lH];simp
 |a::r=>by
  have:=y6 x r
  rw[lH,lH] at this
  rw[List.cons_append,lH,lH,List.map_cons,List.foldr_cons,this,List.map_cons,List.foldr_cons,Nat.mul_assoc]
theorem LV {u:aj}(F:Fit u){i:Nat}{e:bO}(he:u.av[i]?=some e){b:cC}(G:Fit (mb u i e b))(a:e.high.low<=b.low)(c:b.high<=e.high.high):(bw (mb u i e b)).Sublist (bw u):=by
 rw[m6 F,m6 G,DR he b];exact DW (lI he) ((LP a c).filter _)
section
variable {u : aj} (F : Fit u) (h : er u = some 0)
include F h
theorem LW:∃d,aU (jT u (((bw u).length:Int),0)) fu (false,1,0)=some (.nx (d,((bw u).length:Int),(u.av.length:Int))):=by
 have o:=F.av;cases hs:(bw u).isEmpty with
 |true=>
  have l:(bw u).length=0:=by simpa using hs
  rw[l];have key:=B4 (f:=jT u (((0:Nat):Int),0)) (fun j (s:Bool×Int)=>(j=0->s.2=1)/\(0<j->s.2=0)) (fun s k=>(s.1,s.2,k)) u.av (by omega)
   (fun j e s he a=>by
    have m:=(List.getElem?_eq_some_iff.1 he).1;have v:=q3 F h he;rw[hs,if_pos rfl] at v;have w1:IntKind.i64.wrap ((j:Int)+1)=((j+1:Nat):Int):=by rw[cI (by omega)];rfl
    have g:decide (((s.1,s.2,(j:Int)):Bool×Int×Int).2.2<(u.av.length:Int))=true:=by simp;omega
    refine ⟨(s.1,0),?_,fun c=>absurd c (by omega),fun _=>rfl⟩;unfold jT;rw[g];simp only[cond_true,v,ag,w1,List.length_nil,Int.natCast_zero,Int.mul_zero]
    rfl)
   (fun s=>by
    unfold jT
    simp) (false,1) ⟨fun _=>rfl,fun c=>absurd c (by omega)⟩
  obtain ⟨s,k1,b⟩:=key;have:=b.2 (by omega);exact ⟨s.1,by rw[k1,this];rfl⟩
 |false=>
  have aF:bw u≠[]:=by intro c;rw[c] at hs;cases hs
  have p:0<(bw u).length:=List.length_pos_iff.2 aF;have key:=B4 (f:=jT u (((bw u).length:Int),0)) (fun j (s:Bool×Int)=>s.2=((pL ((eJ u).take j)).length:Int)/\(pL ((eJ u).take j)).length<=3 ^ j/\j<=3) (fun s k=>(s.1,s.2,k)) u.av (by omega)
   (fun j e s he a=>by
    have m:=(List.getElem?_eq_some_iff.1 he).1;have v:=q3 F h he;rw[hs,if_neg (by decide)] at v;have w1:IntKind.i64.wrap ((j:Int)+1)=((j+1:Nat):Int):=by rw[cI (by omega)];rfl
    have g:decide (((s.1,s.2,(j:Int)):Bool×Int×Int).2.2<(u.av.length:Int))=true:=by simp;omega
    have n:=(DZ F aF he).2;have q:=three j a.2.2;have i:(eJ u).take (j+1)=(eJ u).take j++[cJ u j e]:=by rw[List.take_add_one,lI he];rfl
    have em:s.2*((cJ u j e).length:Int)=(((pL ((eJ u).take (j+1))).length:Nat):Int):=by rw[i,y6,a.1,Int.natCast_mul]
    have hb:(pL ((eJ u).take (j+1))).length<=3 ^ (j+1):=by
     rw[i,y6,Nat.pow_succ];exact Nat.mul_le_mul a.2.1 n
    have r:3 ^ (j+1)<=81:=by rw[Nat.pow_succ];omega
    have w2:IntKind.i64.wrap (s.2*((cJ u j e).length:Int))=(((pL ((eJ u).take (j+1))).length:Nat):Int):=by rw[em];exact cI (by omega)
    refine ⟨(s.1,((pL ((eJ u).take (j+1))).length:Int)),?_,rfl,hb,by omega⟩;unfold jT;rw[g]
    simp only[cond_true,v,ag,w1,w2,bne_self_eq_false,cond_false,beq_self_eq_true,decide_eq_true (show (0:Int)<((bw u).length:Int) by omega),Bool.not_true])
   (fun s=>by
    unfold jT
    simp) (false,1) ⟨by simp[pL],by simp[pL],by omega⟩
  obtain ⟨s,k1,b,-⟩:=key;rw[List.take_of_length_le (by rw[lJ];exact Nat.le_refl _),<-m6 F] at b;exact ⟨s.1,by rw[k1,b]⟩
end
theorem LX (u:aj)(a:Int)(O:0<=a/\a<=255)(b:Int)(hb:0<=b/\b<=255):uz u a b=some true:=by
 unfold uz;rcases Lp u with k|⟨k,L,h,F⟩
 ·simp only[k,ag,Bool.not_false,cond_true,q2]
 have ad:=F.av;have P:=IM F h;obtain ⟨k1,Q⟩:=DI (a:=a) (b:=u.av.length) O.1 (by omega);have A:gP (IntKind.i64.wrap a) (u.av.length:Int)=some (a.tmod u.av.length):=by rw[cI (by omega)];exact DH (by omega)
 obtain ⟨i,hi⟩:∃i:Nat,a.tmod u.av.length=(i:Int):=⟨(a.tmod u.av.length).toNat,by omega⟩
 rw[hi] at A k1 Q;have R:i<u.av.length:=by omega
 obtain ⟨e,he⟩:∃e,u.av[i]?=some e:=⟨_,List.getElem?_eq_getElem R⟩
 obtain ⟨c1,c2,c3,c4,ae⟩:=F.aQ i e he;obtain ⟨d,hw⟩:=LW F h;simp only[k,ag,Bool.not_true,cond_false,A,P,hw,aD];unfold uy;have t1:=DI (a:=b) (b:=4) hb.1 (by decide);have B:gP (IntKind.i64.wrap b) 4=some (b.tmod 4):=by rw[cI (by omega)];exact DH (by decide)
 generalize b.tmod 4=r at B t1;obtain ⟨n,S⟩:∃n:Int,n=e.high.low+r - 1:=⟨_,rfl⟩
 have w1:IntKind.i64.wrap ((IntKind.i64.wrap (e.high.low+r)) - 1)=n:=by rw[cI (n:=e.high.low+r) (by omega),cI (by omega),S]
 simp only[bne_self_eq_false,cond_false,g9 he,B,ag,w1,eW];cases T:bM n 0 60 with
 |false=>simp only[Bool.not_false,cond_true,q2]
 |true=>
  obtain ⟨U,n1⟩:=ew.1 T;have V:gm ⟨n,n⟩ 0 60=true:=by unfold gm;simp[U,n1]
  have j:=LG L F h he ⟨n,n⟩;rw[if_pos V] at j;have s:=q3 F h he;have C:mT n n=some ⟨n,n⟩:=rfl;have t:(if (bw u).isEmpty then (([]:List Int),(9:Int)) else (cJ u i e,0)).1.length<=1000:=by
   cases hs:(bw u).isEmpty with
   |true=>simp
   |false=>
    have:=(DZ F (by intro c;rw[c] at hs;cases hs) he).2;simp;omega
  by_cases v:bw u≠[]/\n∈cJ u i e
  ·obtain ⟨aF,l⟩:=v;have hs:(bw u).isEmpty=false:=DY aF;have f:=tH.1 (List.mem_filter.1 l).1;have o:=(DX F he aF f.1 f.2).2 l;have e1:(if e.high.low<n then n else e.high.low)=n:=by split<;>omega
   have e2:(if n<e.high.high then n else e.high.high)=n:=by split<;>omega
   simp only[e1,e2] at j;rw[if_neg (by omega),o,if_neg (by decide)] at j;rw[hs,if_neg (by decide)] at s t;have hold:mY (cJ u i e) n=some true:=by rw[DK t,any_eq.2 l]
   have G:=q5 he ⟨n,n⟩ F (by simp only;omega) (by simp only;omega) (by simp only;omega) (by simp only;omega);have g:=DQ he ⟨n,n⟩ F h (by simp only;omega) (by simp only;omega) (by simp only;omega) (by simp only;omega);have x:(mb u i e ⟨n,n⟩).av[i]?=some ⟨e.back,⟨n,n⟩⟩:=by rw[q4 he,if_pos rfl]
   have D:=LQ F he l;have W:bw (mb u i e ⟨n,n⟩)≠[]:=by intro c;rw[c] at o;cases o
   obtain ⟨p,q,X,⟨al,p2,p3⟩,⟨ao,E,H⟩,-⟩:=LM G g x o;rw[D,List.mem_singleton] at p2 E;rw[p2] at p3;rw[E] at H;obtain ⟨w,s1,s2,I⟩:=LU G g W x;rw[D] at s2 I;have y:Bd ⟨e.back,n⟩:=uA F he l;have J:dX (mb u i e ⟨n,n⟩) i n=⟨e.back,n⟩:=LB9 x n;have K:eI (mb u i e ⟨n,n⟩) ⟨e.back,n⟩=bQ u.aS (kH u ⟨e.back,n⟩):=Cr G y;have M:(w==1)=bQ u.aS (kH u ⟨e.back,n⟩)/\(w != 0)=true:=by
    cases N:bQ u.aS (kH u ⟨e.back,n⟩) with
    |true=>
     have:w=1:=s2.2 fun m hm=>by rw[List.mem_singleton.1 hm,J,K,N]
     subst this;exact ⟨rfl,rfl⟩
    |false=>
     have:w=2:=I.2 fun m hm=>by rw[List.mem_singleton.1 hm,J,K,N]
     subst this;exact ⟨rfl,rfl⟩
   have Y:gG ⟨u.bK,1⟩ (dM u ⟨e.back,n⟩).2=fW u ⟨e.back,n⟩:=rfl;simp only[Bool.not_true,cond_false,s,C,j,hold,beq_self_eq_true,bne_self_eq_false,cond_true];unfold lT;simp only[bne_self_eq_false,cond_false,X,ag,w1,g9 he,show jK e.back n=some ⟨e.back,n⟩ from rfl,IN F h y,s1,IP F h y,beq_self_eq_true,cond_true,p3,H,LC,Y,Bool.and_self,M.1,M.2,q2]
  ·have Z:lB u (i:Int) ⟨n,n⟩=some (g8,9):=by
    rw[j];refine congrArg some ?_;simp only;by_cases z:(if n<e.high.high then n else e.high.high)<(if e.high.low<n then n else e.high.low)
    ·rw[if_pos z]
    ·rw[if_neg z];have f:e.high.low<=n/\n<=e.high.high:=by
      revert z;split<;>split<;>omega
     have e1:(if e.high.low<n then n else e.high.low)=n:=by split<;>omega
     have e2:(if n<e.high.high then n else e.high.high)=n:=by split<;>omega
     rw[e1,e2];have G:=q5 he ⟨n,n⟩ F (by simp only;omega) (by simp only;omega) (by simp only;omega) (by simp only;omega);have:(bw (mb u i e ⟨n,n⟩)).isEmpty=true:=by
      by_cases aF:bw u=[]
      ·have:=LV F he G f.1 f.2;rw[aF] at this;rw[List.sublist_nil.1 this];rfl
      ·cases g:(bw (mb u i e ⟨n,n⟩)).isEmpty with
       |true=>rfl
       |false=>exact absurd ⟨aF,(DX F he aF f.1 f.2).1 g⟩ v
     rw[this,if_pos rfl]
   have hold:mY (if (bw u).isEmpty then (([]:List Int),(9:Int)) else (cJ u i e,0)).1 n=some false:=by
    rw[DK t];refine congrArg some ?_;cases hs:(bw u).isEmpty with
    |true=>rfl
    |false=>
     simp only[Bool.false_eq_true,if_false];cases g:(cJ u i e).any (· ==n) with
     |false=>rfl
     |true=>exact absurd ⟨(by intro c;rw[c] at hs;cases hs),any_eq.1 g⟩ v
   have ab:lT u (i:Int) e r (g8,9)=some true:=by
    unfold lT;rw[show qn (g8,(9:Int)).1 ⟨0,0,(⟨0,0⟩:an),[],[],[],[]⟩=some true from Lt];simp only[ag,q2];rfl
   simp only[Bool.not_true,cond_false,s,C,Z,hold,ab];cases (bw u).isEmpty<;>rfl
end Go.Proofs.YtpgcmoanfifglaaGreatDoor
end

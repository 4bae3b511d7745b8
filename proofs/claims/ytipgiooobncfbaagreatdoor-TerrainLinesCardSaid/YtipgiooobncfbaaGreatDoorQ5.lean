/- A part of the proof of a row and its tied card: part 5. -/
import Derived.Test.YtipgiooobncfbaaGreatDoorQ4
set_option linter.all false
section
namespace Go.Proofs.YtipgiooobncfbaaGreatDoor
open Go Go.Sep Go.Proofs
set_option maxRecDepth 100000
set_option maxHeartbeats 4000000
set_option linter.all false
def same (x:b7)(e:ak)(y:bq):Bool:=(y.spot.aG==x.place)&&((y.spot.high.num==e.num)&&(y.spot.high.den==e.den))
def gT (u:an)(s:aP)(i:Nat)(x:b7)(st:List bq):List bq:=cond (st.any (same x (dg u x))) st (st++[⟨⟨x.place,dg u x⟩,(i:Int),dY u s x⟩])
def c7 (a b:ak):ak:=cond (cv a b) b a
def gM (u:an)(s:aP)(i:Nat)(x:b7)(b:ak):ak:=if i=0 then dY u s x else c7 b (dY u s x)
theorem zp (x:b7)(e:ak):∀(l:List bq) (i:Nat),bB (n7 x e) i l ()=some (cond (l.any (same x e)) (.br 1 ()) (.nx ()):Fl Unit (List bq))
 |[],i=>rfl
 |y::l,i=>by
  unfold bB n7
  rw[show ((y.spot.aG==x.place)&&((y.spot.high.num==e.num)&&(y.spot.high.den==e.den)))=same x e y from rfl,List.any_cons]
  cases same x e y
  ·simp only[cond_false,ah,Bool.false_or]
   exact zp x e l (i+1)
  ·rfl
theorem u9 {a b:ak}(c:SR a)(hb:SR b):fA a b=some (c7 a b):=by
 unfold fA c7
 simp only[(lz c hb).1,ah]
 cases cv a b<;>rfl
theorem oI {a b:ak}(c:SR a)(hb:SR b):SR (c7 a b):=by unfold c7;cases cv a b;exact c;exact hb
def qS:List bq->ak
 |[]=>⟨0,0⟩
 |c::l=>(foldI gC 0 l c).high
theorem zq {α σ:Type}{g:Nat->α->σ->σ}:∀(l:List α) (i:Nat) (y:α) (s:σ),foldI g i (l++[y]) s=g (i+l.length) y (foldI g i l s)
 |[],i,y,s=>rfl
 |x::l,i,y,s=>by
  simp only[List.cons_append,foldI,List.length_cons]
  rw[zq l (i+1) y]
  congr 1
  omega
theorem Ea (c:bq)(l:List bq)(y:bq):qS (c::l++[y])=c7 (qS (c::l)) y.high:=by
 show (foldI gC 0 (l++[y]) c).high=_
 rw[zq]
 show (cond (cv (foldI gC 0 l c).high y.high) y (foldI gC 0 l c)).high=cond (cv (foldI gC 0 l c).high y.high) y.high (foldI gC 0 l c).high
 cases cv (foldI gC 0 l c).high y.high<;>rfl
structure Tp (u:an)(s:aP)(st:List bq)(b:ak):Prop where
 ne:st≠[]
 vb:b=qS st
 sm:SR b
 le:∀y∈st,cv b y.high=false/\SR y.high/\y.high=u6 u s y.spot.aG y.spot.high
theorem Tp.step {u:an}{s:aP}{st:List bq}{b:ak}(h:Tp u s st b){x:b7}(f:SR (dY u s x))(i:Nat):Tp u s (gT u s i x st) (c7 b (dY u s x)):=by
 unfold gT
 cases m:st.any (same x (dg u x)) with
 |true=>
  simp only[cond_true]
  obtain ⟨y,a,g⟩:=List.any_eq_true.1 m
  have d:=h.le y a
  have e:y.high=dY u s x:=by
   rw[d.2.2]
   unfold same at g
   simp only[Bool.and_eq_true,beq_iff_eq] at g
   obtain ⟨e1,e2,j⟩:=g
   unfold dY
   have:y.spot.high=dg u x:=by
    cases n:y.spot.high;cases o:dg u x
    rw[n,o] at e2 j
    simp only at e2 j
    rw[e2,j]
   rw[e1,this]
  have:c7 b (dY u s x)=b:=by
   unfold c7
   rw[<-e,d.1]
   rfl
  rw[this]
  exact h
 |false=>
  simp only[cond_false]
  obtain ⟨c,l,rfl⟩:∃c l,st=c::l:=by
   cases st with
   |nil=>exact absurd rfl h.ne
   |cons c l=>exact ⟨c,l,rfl⟩
  refine ⟨by simp,?_,oI h.sm f,fun y a=>?_⟩
  ·rw[Ea,<-h.vb]
  ·rcases List.mem_append.1 a with a|a
   ·have d:=h.le y a
    refine ⟨?_,d.2⟩
    unfold c7
    cases k:cv b (dY u s x) with
    |false=>exact d.1
    |true=>exact zo d.2.1.den.1 h.sm.den.1 f.den.1 d.1 k
   ·simp at a
    subst a
    refine ⟨?_,f,rfl⟩
    unfold c7
    cases k:cv b (dY u s x) with
    |false=>exact k
    |true=>exact u5 _
theorem Tp.fold {u:an}{s:aP}:∀(l:List b7) (i:Nat) (st:List bq) (b:ak),1<=i->(∀x∈l,SR (dY u s x))->Tp u s st b->Tp u s (foldI (gT u s) i l st) (foldI (gM u s) i l b)
 |[],_,_,_,_,_,h=>h
 |x::l,i,st,b,d,a,h=>by
  unfold foldI
  have e:gM u s i x b=c7 b (dY u s x):=if_neg (by omega)
  rw[e]
  exact Tp.fold l (i+1) _ _ (by omega) (fun y c=>a y (List.mem_cons_of_mem _ c)) (h.step (a x (List.mem_cons_self ..)) i)
theorem Tp.all {u:an}{s:aP}(x:b7)(l:List b7)(b:∀y∈x::l,SR (dY u s y)):Tp u s (foldI (gT u s) 0 (x::l) []) (foldI (gM u s) 0 (x::l) ⟨0,0⟩):=by
 unfold foldI
 have c:=b x (List.mem_cons_self ..)
 refine Tp.fold l 1 _ _ (Nat.le_refl _) (fun y a=>b y (List.mem_cons_of_mem _ a)) ⟨by simp[gT],?_,?_,?_⟩
 ·simp[gT,gM,qS,foldI]
 ·exact c
 ·intro y a
  simp[gT] at a
  subst a
  exact ⟨by simp[gM];exact u5 _,c,rfl⟩
end Go.Proofs.YtipgiooobncfbaaGreatDoor
end
section
namespace Go.Proofs.YtipgiooobncfbaaGreatDoor
open Go Go.Sep Go.Proofs
set_option maxRecDepth 100000
set_option maxHeartbeats 4000000
set_option linter.all false
section
variable {u : an} {s : aP} (F : Fit u) (hs : (1 ≤ s.back ∧ s.back ≤ 20) ∧ 0 ≤ s.high ∧ s.high ≤ 60)
include F hs
theorem Eb:∀x∈u.props,SR (dY u s x):=fun x a=>by
 obtain ⟨i,b,rfl⟩:=List.getElem_of_mem a
 obtain ⟨r,_,_,_,_,_,_,h⟩:=u7 F hs (i:=i) (List.getElem?_eq_getElem b)
 exact h
theorem Ec:iC u s=some (foldI (gT u s) 0 u.props []):=by
 have d:=F.props
 unfold iC
 have:=mI (f:=n8 u s) (ρ:=List bq) (g:=gT u s) (I:=fun i st=>st.length<=i) u.props 0 [] (Nat.le_refl _) (fun j x st a b=>by
  have e:j<u.props.length:=(List.getElem?_eq_some_iff.1 a).1
  obtain ⟨r,h1,h2,h3,h,c,k,l⟩:=u7 F hs a
  rw[Nat.zero_add] at b ⊢
  unfold n8
  simp only[h1,ah,qR,h3,zp]
  unfold gT
  cases m:st.any (same x (dg u x)) with
  |true=>exact ⟨rfl,by simp only[cond_true];omega⟩
  |false=>
   simp only[cond_false,aK,ah,c]
   unfold dr
   rw[if_pos (by simp;omega)]
   exact ⟨rfl,by simp;omega⟩)
 rw[this.1]
 rfl
theorem Ed:g6 u s=some (foldI (gM u s) 0 u.props ⟨0,0⟩,decide (0<(u.props.length:Int))):=by
 have k:=F.props
 unfold g6
 have:=zi (f:=mE u s) (g:=gM u s) (I:=fun i b=>i=0\/SR b) (fun b i=>(i,b)) u.props (by omega) (fun i x b c d=>by
  have l:i<u.props.length:=(List.getElem?_eq_some_iff.1 c).1
  obtain ⟨r,h1,h2,h3,h,m,j,a⟩:=u7 F hs c
  unfold mE
  simp only
  rw[show decide ((i:Int)<(u.props.length:Int))=true by simp;omega]
  simp only[cond_true]
  rw[show bL u.props (i:Int)=some x by unfold bL;rw[if_pos (by omega)];simpa using c]
  have hw:IntKind.i64.wrap ((i:Int)+1)=((i+1:Nat):Int):=by rw[dL (by omega)];rfl
  simp only[ah,h2,h,j,hw]
  unfold gM
  by_cases h0:i=0
  ·subst h0
   have e:c7 (dY u s x) (dY u s x)=dY u s x:=by unfold c7;rw[u5];rfl
   rw[show (((0:Nat):Int)==0)=true from rfl]
   simp only[cond_true,u9 a a,e,if_pos]
   exact ⟨trivial,.inr a⟩
  ·have hb:SR b:=d.resolve_left h0
   rw[show (((i:Nat):Int)==0)=false by simp;omega]
   simp only[cond_false,u9 hb a,if_neg h0]
   exact ⟨trivial,.inr (oI hb a)⟩) (fun b=>by unfold mE;simp) (⟨0,0⟩:ak) (.inl rfl)
 rw[this.1]
 rfl
theorem zu:(u.props=[]/\iC u s=some []/\g6 u s=some (⟨0,0⟩,false))\/
  ∃st b,iC u s=some st/\g6 u s=some (b,true)/\Tp u s st b:=by
 have h1:=Ec F hs
 have h2:=Ed F hs
 have h3:=Eb F hs
 cases a:u.props with
 |nil=>
  rw[a] at h1 h2
  exact .inl ⟨rfl,h1,h2⟩
 |cons x l=>
  rw[a] at h1 h2 h3
  refine .inr ⟨_,_,h1,?_,Tp.all x l h3⟩
  rw[h2]
  rw[show decide (0<((x::l).length:Int))=true by simp]
theorem Ee {st:List bq}{b:ak}(h:Tp u s st b):∃c l,st=c::l/\∃m,jg fM c l=some m/\m.high=b:=by
 obtain ⟨c,l,rfl⟩:∃c l,st=c::l:=by
  cases st with
  |nil=>exact absurd rfl h.ne
  |cons c l=>exact ⟨c,l,rfl⟩
 refine ⟨c,l,rfl,?_⟩
 have hg:=mI (f:=kS fM) (ρ:=bq) (g:=gC) (I:=fun _ c=>SR c.high) l 0 c (h.le c (List.mem_cons_self ..)).2.1 (fun j x st e a=>by
  have d:SR x.high:=(h.le x (List.mem_cons_of_mem _ (List.mem_of_getElem? e))).2.1
  refine ⟨?_,?_⟩
  ·unfold kS fM gC
   simp only[(lz a d).2,ah]
   cases cv st.high x.high<;>rfl
  ·unfold gC
   cases cv st.high x.high
   ·exact a
   ·exact d)
 refine ⟨foldI gC 0 l c,?_,h.vb.symm⟩
 unfold jg
 rw[hg.1]
 rfl
end
end Go.Proofs.YtipgiooobncfbaaGreatDoor
end
section
namespace Go.Proofs.YtipgiooobncfbaaGreatDoor
open Go Go.Sep Go.Proofs
set_option maxRecDepth 100000
set_option maxHeartbeats 4000000
set_option linter.all false
theorem Ef {a b c:ak}(d:0<a.den)(hb:0<b.den)(e:0<c.den)(h1:cv a b=false)(h2:cv b c=false):cv a c=false:=by
 cases h:cv a c with
 |false=>rfl
 |true=>
  have:=zo hb d e h1 h
  unfold cv at*
  simp only[decide_eq_false_iff_not,decide_eq_true_eq,Int.not_lt] at*
  have k1:b.num*a.den*c.den<=a.num*b.den*c.den:=Int.mul_le_mul_of_nonneg_right h1 (by omega)
  have f:a.num*c.den*b.den<c.num*a.den*b.den:=Int.mul_lt_mul_of_pos_right h hb
  have g:c.num*b.den*a.den<=b.num*c.den*a.den:=Int.mul_le_mul_of_nonneg_right h2 (by omega)
  have e1:a.num*b.den*c.den=a.num*c.den*b.den:=by grind
  have e2:c.num*b.den*a.den=c.num*a.den*b.den:=by grind
  have i:b.num*c.den*a.den=b.num*a.den*c.den:=by grind
  omega
theorem Eg {a b c:ak}(d:0<a.den)(hb:0<b.den)(e:0<c.den)(h1:cv a b=true)(h2:cv b c=true):cv a c=true:=by
 unfold cv at*
 simp only[decide_eq_true_eq] at*
 have k1:a.num*b.den*c.den<b.num*a.den*c.den:=Int.mul_lt_mul_of_pos_right h1 e
 have g:b.num*c.den*a.den<c.num*b.den*a.den:=Int.mul_lt_mul_of_pos_right h2 d
 have f:b.den*(a.num*c.den)<b.den*(c.num*a.den):=by
  have e1:b.den*(a.num*c.den)=a.num*b.den*c.den:=by grind
  have e2:b.den*(c.num*a.den)=c.num*b.den*a.den:=by grind
  have h:b.num*a.den*c.den=b.num*c.den*a.den:=by grind
  omega
 exact Int.lt_of_mul_lt_mul_left f (by omega)
theorem zv {e y:ak}(he:SR e)(a:SR y):∀(l:List bq) (b:ak),(∀x∈l,SR x.high)->SR b->∀(i j:Nat),
  foldI (fun _ (x:bq) st=>c7 st x.high) i l (c7 e b)=c7 e (foldI (fun _ (x:bq) st=>c7 st x.high) j l b)
 |[],b,_,_,i,j=>rfl
 |x::l,b,d,hb,i,j=>by
  unfold foldI
  have c:=d x (List.mem_cons_self ..)
  have key:c7 (c7 e b) x.high=c7 e (c7 b x.high):=by
   unfold c7
   cases h1:cv e b<;>cases h2:cv b x.high<;>simp only[cond_true,cond_false,h1,h2]
   ·have:=Ef he.den.1 hb.den.1 c.den.1 h1 h2
    rw[this];rfl
   ·rw[Eg he.den.1 hb.den.1 c.den.1 h1 h2]
    rfl
  rw[key]
  exact zv he a l _ (fun y a=>d y (List.mem_cons_of_mem _ a)) (oI hb c) (i+1) (j+1)
theorem zw:∀(l:List bq) (i:Nat) (c:bq),(foldI gC i l c).high=foldI (fun _ (x:bq) st=>c7 st x.high) i l c.high
 |[],_,_=>rfl
 |x::l,i,c=>by
  unfold foldI
  rw[zw l (i+1)]
  congr 1
  unfold gC c7
  cases cv c.high x.high<;>rfl
theorem zx {a b:ak}(c:SR a)(hb:SR b):gw eg a [b]=some (c7 a b):=by
 unfold gw bB n6
 simp only[(lz c hb).2,ah]
 unfold c7
 cases cv a b<;>rfl
theorem Eh {f:Nat->bq->ak->Option (Fl ak ak)}(c:f=kT\/f=kU){st:List bq}(d:∀x∈st,SR x.high){e:ak}(he:SR e):
  bB f 0 st e=some (.nx (foldI (fun _ (x:bq) st=>c7 st x.high) 0 st e))/\SR (foldI (fun _ (x:bq) st=>c7 st x.high) 0 st e):=
 mI (I:=fun _ r=>SR r) st 0 e he (fun j x r g a=>by
  have b:=d x (List.mem_of_getElem? g)
  rcases c with rfl|rfl
  ·unfold kT
   simp only[zx a b,ah]
   exact ⟨trivial,oI a b⟩
  ·unfold kU
   simp only[zx a b,ah]
   exact ⟨trivial,oI a b⟩)
end Go.Proofs.YtipgiooobncfbaaGreatDoor
end
section
namespace Go.Proofs.YtipgiooobncfbaaGreatDoor
open Go Go.Sep Go.Proofs
set_option maxRecDepth 100000
set_option maxHeartbeats 4000000
set_option linter.all false
section
variable {u : an} {s : aP} (F : Fit u) (hs : (1 ≤ s.back ∧ s.back ≤ 20) ∧ 0 ≤ s.high ∧ s.high ≤ 60)
include F hs
theorem zy {a b:ak}(c:SR a)(hb:SR b):∃d,iB a b=some d/\iG a b=some d/\Sm d 40000000000 64000000:=by
 have e:=uV c hb (by decide) (by decide) (by decide)
 have f:=y5 c hb (by decide) (by decide)
 refine ⟨_,e,f,?_⟩
 have h1:=dM c.num (show b.den.natAbs<=8000 by have:=hb.den;omega)
 have h2:=dM hb.num (show a.den.natAbs<=8000 by have:=c.den;omega)
 have h3:=dM (show a.den.natAbs<=8000 by have:=c.den;omega) (show b.den.natAbs<=8000 by have:=hb.den;omega)
 have g:0<a.den*b.den:=Int.mul_pos c.den.1 hb.den.1
 have:=jq (a.num*b.den - b.num*a.den) (a.den*b.den).toNat (by omega)
 exact ⟨Nat.le_trans this.num (by omega),this.den.1,by have:=this.den.2;omega⟩
theorem zz:Sm (⟨0,1⟩:ak) 1 1:=⟨by decide,by decide,by decide⟩
theorem zA {d:ak}(hd:Sm d 40000000000 64000000):∃m,gw eg d [⟨0,1⟩]=some m/\fA d ⟨0,1⟩=some m/\Sm m 40000000000 64000000:=by
 have a:=uX hd (zz F hs) (by decide) (by decide)
 refine ⟨cond (cv d ⟨0,1⟩) ⟨0,1⟩ d,?_,?_,?_⟩
 ·unfold gw bB n6
  simp only[a.2,ah]
  unfold cv
  cases decide (d.num*(⟨0,1⟩:ak).den<(⟨0,1⟩:ak).num*d.den)<;>rfl
 ·unfold fA
  simp only[a.1,ah]
  unfold cv
  cases decide (d.num*(⟨0,1⟩:ak).den<(⟨0,1⟩:ak).num*d.den)<;>rfl
 ·cases cv d ⟨0,1⟩
  ·exact hd
  ·exact (zz F hs).mono (by decide) (by decide)
theorem zB {f:Nat->bq->ak->Option (Fl ak ak)}(h:f=kT\/f=kU){e:ak}(he:SR e):
  ∃st m,iC u s=some st/\bB f 0 st e=some (.nx m)/\SR m/\((g6 u s=some (⟨0,0⟩,false)/\m=e)\/∃b,g6 u s=some (b,true)/\fA e b=some m):=by
 rcases zu F hs with ⟨_,h1,h2⟩|⟨st,b,h1,h2,h3⟩
 ·exact ⟨[],e,h1,rfl,he,.inl ⟨h2,rfl⟩⟩
 ·have a:∀x∈st,SR x.high:=fun x d=>(h3.le x d).2.1
  obtain ⟨k1,i⟩:=Eh h a he
  refine ⟨st,_,h1,k1,i,.inr ⟨b,h2,?_⟩⟩
  rw[u9 he h3.sm]
  obtain ⟨c,l,rfl⟩:∃c l,st=c::l:=by
   cases st with
   |nil=>exact absurd rfl h3.ne
   |cons c l=>exact ⟨c,l,rfl⟩
  have g:=a c (List.mem_cons_self ..)
  have e1:b=foldI (fun _ (x:bq) st=>c7 st x.high) 0 l c.high:=by rw[h3.vb];exact zw l 0 c
  have e2:=zv he g l c.high (fun x d=>a x (List.mem_cons_of_mem _ d)) g 1 0
  congr 1
  rw[e1,<-e2]
  rfl
theorem zC:∃r,jS u s=some r/\mF u s=some r/\Sm r 40000000000 64000000:=by
 obtain ⟨c,h1,h2,h3,i⟩:=uZ F hs
 have e2:c.high=(jZ u s).2:=by rw[<-h2]
 have p:SR (⟨u.bJ,1⟩:ak):=(zn F hs).mono (by decide) (by decide)
 unfold jS mF
 rw[h1,i]
 simp only[ah,qR,<-e2,(lz h3 p).1,(lz h3 p).2]
 cases cv c.high ⟨u.bJ,1⟩ with
 |true=>
  simp only[cond_true]
  obtain ⟨st,m,t1,t2,t3,t4⟩:=zB F hs (.inl rfl) (f:=kT) h3
  obtain ⟨d,d1,d2,d3⟩:=zy F hs p t3
  obtain ⟨z,g,a,e⟩:=zA F hs d3
  simp only[t1,t2,aK,d1,g]
  rcases t4 with ⟨k1,rfl⟩|⟨b,k1,h⟩
  ·simp only[k1,cond_false,d2,a]
   exact ⟨z,rfl,rfl,e⟩
  ·simp only[k1,cond_true,h,d2,a]
   exact ⟨z,rfl,rfl,e⟩
 |false=>
  simp only[cond_false]
  obtain ⟨st,m,t1,t2,t3,t4⟩:=zB F hs (.inr rfl) (f:=kU) p
  obtain ⟨d,d1,d2,d3⟩:=zy F hs h3 t3
  obtain ⟨z,g,a,e⟩:=zA F hs d3
  simp only[t1,t2,aK,d1,g]
  rcases t4 with ⟨k1,rfl⟩|⟨b,k1,h⟩
  ·simp only[k1,cond_false,d2,a]
   exact ⟨z,rfl,rfl,e⟩
  ·simp only[k1,cond_true,h,d2,a]
   exact ⟨z,rfl,rfl,e⟩
theorem Ei:∃b,gx u s=some b/\ot u s=some b:=by
 obtain ⟨r,h1,h2,h3⟩:=zC F hs
 have c:Sm u.aT 20 20:=⟨by have:=F.num;omega,by have:=F.den;omega,by have:=F.den;omega⟩
 have a:=uX c h3 (by decide) (by decide)
 unfold gx ot
 simp only[h1,h2,a.1,a.2,ah]
 exact ⟨_,rfl,rfl⟩
end
end Go.Proofs.YtipgiooobncfbaaGreatDoor
end
section
namespace Go.Proofs.YtipgiooobncfbaaGreatDoor
open Go Go.Sep Go.Proofs
set_option maxRecDepth 100000
set_option maxHeartbeats 4000000
set_option linter.all false
section
variable (u : an) (h0 : u.aB.length ≤ 20) (h1 : u.props.length ≤ 20) (h2 : u.aR.length ≤ 20) (h3 : u.told.length ≤ 20) (s : aP)
include h0 h1 h2 h3
theorem qT:(∃c,c≠0/\eY u [ei s]=some (uW,c)/\jm u s=some c)\/
  (Fit u/\((1<=s.back/\s.back<=20)/\0<=s.high/\s.high<=60)/\eY u [ei s]=some (u,0)/\jm u s=some 0):=by
 obtain ⟨e,c,a⟩:=uS u h0 h1 h2 h3
 unfold jm
 rw[<-e,a]
 by_cases b:c=0
 ·subst b
  have F:=y4 u h0 a
  have hb:ei s u=some (lu s):=by rw[D5];exact zf s
  rw[za a hb,zf]
  simp only[ah,bne_self_eq_false,cond_false]
  by_cases d:lu s=0
  ·rw[d]
   exact .inr ⟨F,D6 d,rfl,rfl⟩
  ·have:(lu s != 0)=true:=by simpa using d
   rw[this]
   exact .inl ⟨_,d,rfl,rfl⟩
 ·rw[y9 _ a b]
  have:(c != 0)=true:=by simpa using b
  simp only[ah,this,cond_true]
  exact .inl ⟨c,b,rfl,rfl⟩
theorem Ej:∃r,mg u s=some r/\oz u s=some r:=by
 unfold mg oz
 rcases qT u h0 h1 h2 h3 s with ⟨c,b,e1,e2⟩|⟨F,hs,e1,e2⟩
 ·have:(c != 0)=true:=by simpa using b
  simp only[e1,e2,ah,this,cond_true]
  exact ⟨_,rfl,rfl⟩
 ·obtain ⟨c,k1,a,e,d⟩:=uZ F hs
  simp only[e1,e2,ah,bne_self_eq_false,cond_false,k1,d]
  have a1:(jZ u s).1=c.at_:=by rw[<-a]
  have a2:(jZ u s).2=c.high:=by rw[<-a]
  rw[a1,a2]
  exact ⟨_,rfl,rfl⟩
theorem Ek:∃r,mh u s=some r/\oA u s=some r:=by
 unfold mh oA
 rcases qT u h0 h1 h2 h3 s with ⟨c,a,e1,e2⟩|⟨F,hs,e1,e2⟩
 ·have:(c != 0)=true:=by simpa using a
  simp only[e1,e2,ah,this,cond_true]
  exact ⟨_,rfl,rfl⟩
 ·obtain ⟨r,k1,b⟩:=D9 F hs
  simp only[e1,e2,ah,bne_self_eq_false,cond_false,k1,b]
  exact ⟨_,rfl,rfl⟩
theorem El:∃r,mj u s=some r/\oB u s=some r:=by
 unfold mj oB
 rcases qT u h0 h1 h2 h3 s with ⟨c,d,e1,e2⟩|⟨F,hs,e1,e2⟩
 ·have:(c != 0)=true:=by simpa using d
  simp only[e1,e2,ah,this,cond_true]
  exact ⟨_,rfl,rfl⟩
 ·simp only[e1,e2,ah,bne_self_eq_false,cond_false]
  rcases zu F hs with ⟨_,k1,a⟩|⟨st,b,k1,a,e⟩
  ·simp only[k1,a]
   exact ⟨_,rfl,rfl⟩
  ·obtain ⟨c,l,rfl,m,f,g⟩:=Ee F hs e
   simp only[k1,a]
   have z:((((c::l).length:Nat):Int)==0)=false:=by simp;omega
   have y:gY (c::l) 1 (((c::l).length:Nat):Int)=some l:=by
    unfold gY
    rw[if_pos (by simp only[List.length_cons];omega)]
    simp
   rw[z]
   simp only[cond_false]
   rw[show bL (c::l) 0=some c from rfl,y]
   simp only[f]
   rw[g]
   exact ⟨_,rfl,rfl⟩
theorem Em:∃r,k4 u s=some r/\oC u s=some r:=by
 unfold k4 oC
 rcases qT u h0 h1 h2 h3 s with ⟨c,a,e1,e2⟩|⟨F,hs,e1,e2⟩
 ·have:(c != 0)=true:=by simpa using a
  simp only[e1,e2,ah,this,cond_true]
  exact ⟨_,rfl,rfl⟩
 ·obtain ⟨r,k1,d,-⟩:=zC F hs
  obtain ⟨b,e,f⟩:=Ei F hs
  simp only[e1,e2,ah,bne_self_eq_false,cond_false,k1,d,e,f]
  exact ⟨_,rfl,rfl⟩
end
end Go.Proofs.YtipgiooobncfbaaGreatDoor
end

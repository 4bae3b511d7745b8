/- A part of the proof of a row and its tied card: part 5. -/
import Derived.Test.YtipgiooobncfbaaGreatDoorQ4
set_option linter.all false
section
namespace Go.Proofs.YtipgiooobncfbaaGreatDoor
open Go Go.Sep Go.Proofs
set_option maxRecDepth 100000
set_option maxHeartbeats 4000000
section
variable {u : an} {s : aP} (F : Fit u) (hs : (1 ≤ s.back ∧ s.back ≤ 20) ∧ 0 ≤ s.high ∧ s.high ≤ 60)
include F hs
theorem Ec:∀x∈u.props,SR (dY u s x):=fun x a=>by
 obtain ⟨i,b,rfl⟩:=List.getElem_of_mem a
 obtain ⟨r,_,_,_,_,_,_,h⟩:=u7 F hs (i:=i) (List.getElem?_eq_getElem b)
 exact h
theorem Ed:iC u s=some (foldI (gT u s) 0 u.props []):=by
 have d:=F.props
 unfold iC
 have:=mI (f:=n9 u s) (ρ:=List bq) (g:=gT u s) (I:=fun i st=>st.length<=i) u.props 0 [] (Nat.le_refl _) (fun j x st a b=>by
  have e:j<u.props.length:=(List.getElem?_eq_some_iff.1 a).1
  obtain ⟨r,h1,h2,h3,h,c,k,l⟩:=u7 F hs a
  rw[Nat.zero_add] at b ⊢
  unfold n9
  simp only[h1,ah,qR,h3,zq]
  unfold gT
  cases m:st.any (same x (dg u x)) with
  |true=>exact ⟨rfl,by simp only[cond_true];omega⟩
  |false=>
   simp only[cond_false,aK,ah,c]
   unfold dr
   rw[if_pos (by simp;omega)]
   exact ⟨rfl,by simp;omega⟩)
 rw[this.1]
 rfl
theorem Ee:g6 u s=some (foldI (gM u s) 0 u.props ⟨0,0⟩,decide (0<(u.props.length:Int))):=by
 have k:=F.props
 unfold g6
 have:=zj (f:=mE u s) (g:=gM u s) (I:=fun i b=>i=0\/SR b) (fun b i=>(i,b)) u.props (by omega) (fun i x b c d=>by
  have l:i<u.props.length:=(List.getElem?_eq_some_iff.1 c).1
  obtain ⟨r,h1,h2,h3,h,m,j,a⟩:=u7 F hs c
  unfold mE
  simp only
  rw[show decide ((i:Int)<(u.props.length:Int))=true by simp;omega]
  simp only[cond_true]
  rw[show bL u.props (i:Int)=some x by unfold bL;rw[if_pos (by omega)];simpa using c]
  have hw:IntKind.i64.wrap ((i:Int)+1)=((i+1:Nat):Int):=by rw[dL (by omega)];rfl
  simp only[ah,h2,h,j,hw]
  unfold gM
  by_cases h0:i=0
  ·subst h0
   have e:c7 (dY u s x) (dY u s x)=dY u s x:=by unfold c7;rw[u5];rfl
   rw[show (((0:Nat):Int)==0)=true from rfl]
   simp only[cond_true,u9 a a,e,if_pos]
   exact ⟨trivial,.inr a⟩
  ·have hb:SR b:=d.resolve_left h0
   rw[show (((i:Nat):Int)==0)=false by simp;omega]
   simp only[cond_false,u9 hb a,if_neg h0]
   exact ⟨trivial,.inr (oI hb a)⟩) (fun b=>by unfold mE;simp) (⟨0,0⟩:ak) (.inl rfl)
 rw[this.1]
 rfl
theorem zv:(u.props=[]/\iC u s=some []/\g6 u s=some (⟨0,0⟩,false))\/
  ∃st b,iC u s=some st/\g6 u s=some (b,true)/\Tp u s st b:=by
 have h1:=Ed F hs
 have h2:=Ee F hs
 have h3:=Ec F hs
 cases a:u.props with
 |nil=>
  rw[a] at h1 h2
  exact .inl ⟨rfl,h1,h2⟩
 |cons x l=>
  rw[a] at h1 h2 h3
  refine .inr ⟨_,_,h1,?_,Tp.all x l h3⟩
  rw[h2]
  rw[show decide (0<((x::l).length:Int))=true by simp]
theorem Ef {st:List bq}{b:ak}(h:Tp u s st b):∃c l,st=c::l/\∃m,jg fM c l=some m/\m.high=b:=by
 obtain ⟨c,l,rfl⟩:∃c l,st=c::l:=by
  cases st with
  |nil=>exact absurd rfl h.ne
  |cons c l=>exact ⟨c,l,rfl⟩
 refine ⟨c,l,rfl,?_⟩
 have hg:=mI (f:=kS fM) (ρ:=bq) (g:=gC) (I:=fun _ c=>SR c.high) l 0 c (h.le c (List.mem_cons_self ..)).2.1 (fun j x st e a=>by
  have d:SR x.high:=(h.le x (List.mem_cons_of_mem _ (List.mem_of_getElem? e))).2.1
  refine ⟨?_,?_⟩
  ·unfold kS fM gC
   simp only[(lz a d).2,ah]
   cases cv st.high x.high<;>rfl
  ·unfold gC
   cases cv st.high x.high
   ·exact a
   ·exact d)
 refine ⟨foldI gC 0 l c,?_,h.vb.symm⟩
 unfold jg
 rw[hg.1]
 rfl
end
theorem Eg {a b c:ak}(d:0<a.den)(hb:0<b.den)(e:0<c.den)(h1:cv a b=false)(h2:cv b c=false):cv a c=false:=by
 cases h:cv a c with
 |false=>rfl
 |true=>
  have:=zp hb d e h1 h
  unfold cv at*
  simp only[decide_eq_false_iff_not,decide_eq_true_eq,Int.not_lt] at*
  have k1:b.num*a.den*c.den<=a.num*b.den*c.den:=Int.mul_le_mul_of_nonneg_right h1 (by omega)
  have f:a.num*c.den*b.den<c.num*a.den*b.den:=Int.mul_lt_mul_of_pos_right h hb
  have g:c.num*b.den*a.den<=b.num*c.den*a.den:=Int.mul_le_mul_of_nonneg_right h2 (by omega)
  have e1:a.num*b.den*c.den=a.num*c.den*b.den:=by grind
  have e2:c.num*b.den*a.den=c.num*a.den*b.den:=by grind
  have i:b.num*c.den*a.den=b.num*a.den*c.den:=by grind
  omega
theorem Eh {a b c:ak}(d:0<a.den)(hb:0<b.den)(e:0<c.den)(h1:cv a b=true)(h2:cv b c=true):cv a c=true:=by
 unfold cv at*
 simp only[decide_eq_true_eq] at*
 have k1:a.num*b.den*c.den<b.num*a.den*c.den:=Int.mul_lt_mul_of_pos_right h1 e
 have g:b.num*c.den*a.den<c.num*b.den*a.den:=Int.mul_lt_mul_of_pos_right h2 d
 have f:b.den*(a.num*c.den)<b.den*(c.num*a.den):=by
  have e1:b.den*(a.num*c.den)=a.num*b.den*c.den:=by grind
  have e2:b.den*(c.num*a.den)=c.num*b.den*a.den:=by grind
  have h:b.num*a.den*c.den=b.num*c.den*a.den:=by grind
  omega
 exact Int.lt_of_mul_lt_mul_left f (by omega)
theorem zw {e y:ak}(he:SR e)(a:SR y):∀(l:List bq) (b:ak),(∀x∈l,SR x.high)->SR b->∀(i j:Nat),
  foldI (fun _ (x:bq) st=>c7 st x.high) i l (c7 e b)=c7 e (foldI (fun _ (x:bq) st=>c7 st x.high) j l b)
 |[],b,_,_,i,j=>rfl
 |x::l,b,d,hb,i,j=>by
  unfold foldI
  have c:=d x (List.mem_cons_self ..)
  have key:c7 (c7 e b) x.high=c7 e (c7 b x.high):=by
   unfold c7
   cases h1:cv e b<;>cases h2:cv b x.high<;>simp only[cond_true,cond_false,h1,h2]
   ·have:=Eg he.den.1 hb.den.1 c.den.1 h1 h2
    rw[this];rfl
   ·rw[Eh he.den.1 hb.den.1 c.den.1 h1 h2]
    rfl
  rw[key]
  exact zw he a l _ (fun y a=>d y (List.mem_cons_of_mem _ a)) (oI hb c) (i+1) (j+1)
theorem zx:∀(l:List bq) (i:Nat) (c:bq),(foldI gC i l c).high=foldI (fun _ (x:bq) st=>c7 st x.high) i l c.high
 |[],_,_=>rfl
 |x::l,i,c=>by
  unfold foldI
  rw[zx l (i+1)]
  congr 1
  unfold gC c7
  cases cv c.high x.high<;>rfl
theorem zy {a b:ak}(c:SR a)(hb:SR b):gw eg a [b]=some (c7 a b):=by
 unfold gw bB n6
 simp only[(lz c hb).2,ah]
 unfold c7
 cases cv a b<;>rfl
theorem Ei {f:Nat->bq->ak->Option (Fl ak ak)}(c:f=kX\/f=kY){st:List bq}(d:∀x∈st,SR x.high){e:ak}(he:SR e):
  bB f 0 st e=some (.nx (foldI (fun _ (x:bq) st=>c7 st x.high) 0 st e))/\SR (foldI (fun _ (x:bq) st=>c7 st x.high) 0 st e):=
 mI (I:=fun _ r=>SR r) st 0 e he (fun j x r g a=>by
  have b:=d x (List.mem_of_getElem? g)
  rcases c with rfl|rfl
  ·unfold kX
   simp only[zy a b,ah]
   exact ⟨trivial,oI a b⟩
  ·unfold kY
   simp only[zy a b,ah]
   exact ⟨trivial,oI a b⟩)
section
variable {u : an} {s : aP} (F : Fit u) (hs : (1 ≤ s.back ∧ s.back ≤ 20) ∧ 0 ≤ s.high ∧ s.high ≤ 60)
include F hs
theorem zz {a b:ak}(c:SR a)(hb:SR b):∃d,iB a b=some d/\iG a b=some d/\Sm d 40000000000 64000000:=by
 have e:=uV c hb (by decide) (by decide) (by decide)
 have f:=y6 c hb (by decide) (by decide)
 refine ⟨_,e,f,?_⟩
 have h1:=dM c.num (show b.den.natAbs<=8000 by have:=hb.den;omega)
 have h2:=dM hb.num (show a.den.natAbs<=8000 by have:=c.den;omega)
 have h3:=dM (show a.den.natAbs<=8000 by have:=c.den;omega) (show b.den.natAbs<=8000 by have:=hb.den;omega)
 have g:0<a.den*b.den:=Int.mul_pos c.den.1 hb.den.1
 have:=jq (a.num*b.den - b.num*a.den) (a.den*b.den).toNat (by omega)
 exact ⟨Nat.le_trans this.num (by omega),this.den.1,by have:=this.den.2;omega⟩
theorem zA:Sm (⟨0,1⟩:ak) 1 1:=⟨by decide,by decide,by decide⟩
theorem zB {d:ak}(hd:Sm d 40000000000 64000000):∃m,gw eg d [⟨0,1⟩]=some m/\fA d ⟨0,1⟩=some m/\Sm m 40000000000 64000000:=by
 have a:=uX hd (zA F hs) (by decide) (by decide)
 refine ⟨cond (cv d ⟨0,1⟩) ⟨0,1⟩ d,?_,?_,?_⟩
 ·unfold gw bB n6
  simp only[a.2,ah]
  unfold cv
  cases decide (d.num*(⟨0,1⟩:ak).den<(⟨0,1⟩:ak).num*d.den)<;>rfl
 ·unfold fA
  simp only[a.1,ah]
  unfold cv
  cases decide (d.num*(⟨0,1⟩:ak).den<(⟨0,1⟩:ak).num*d.den)<;>rfl
 ·cases cv d ⟨0,1⟩
  ·exact hd
  ·exact (zA F hs).mono (by decide) (by decide)
theorem zC {f:Nat->bq->ak->Option (Fl ak ak)}(h:f=kX\/f=kY){e:ak}(he:SR e):
  ∃st m,iC u s=some st/\bB f 0 st e=some (.nx m)/\SR m/\((g6 u s=some (⟨0,0⟩,false)/\m=e)\/∃b,g6 u s=some (b,true)/\fA e b=some m):=by
 rcases zv F hs with ⟨_,h1,h2⟩|⟨st,b,h1,h2,h3⟩
 ·exact ⟨[],e,h1,rfl,he,.inl ⟨h2,rfl⟩⟩
 ·have a:∀x∈st,SR x.high:=fun x d=>(h3.le x d).2.1
  obtain ⟨k1,i⟩:=Ei h a he
  refine ⟨st,_,h1,k1,i,.inr ⟨b,h2,?_⟩⟩
  rw[u9 he h3.sm]
  obtain ⟨c,l,rfl⟩:∃c l,st=c::l:=by
   cases st with
   |nil=>exact absurd rfl h3.ne
   |cons c l=>exact ⟨c,l,rfl⟩
  have g:=a c (List.mem_cons_self ..)
  have e1:b=foldI (fun _ (x:bq) st=>c7 st x.high) 0 l c.high:=by rw[h3.vb];exact zx l 0 c
  have e2:=zw he g l c.high (fun x d=>a x (List.mem_cons_of_mem _ d)) g 1 0
  congr 1
  rw[e1,<-e2]
  rfl
theorem zD:∃r,jT u s=some r/\mF u s=some r/\Sm r 40000000000 64000000:=by
 obtain ⟨c,h1,h2,h3,i⟩:=uZ F hs
 have e2:c.high=(jZ u s).2:=by rw[<-h2]
 have p:SR (⟨u.bJ,1⟩:ak):=(zo F hs).mono (by decide) (by decide)
 unfold jT mF
 rw[h1,i]
 simp only[ah,qR,<-e2,(lz h3 p).1,(lz h3 p).2]
 cases cv c.high ⟨u.bJ,1⟩ with
 |true=>
  simp only[cond_true]
  obtain ⟨st,m,t1,t2,t3,t4⟩:=zC F hs (.inl rfl) (f:=kX) h3
  obtain ⟨d,d1,d2,d3⟩:=zz F hs p t3
  obtain ⟨z,g,a,e⟩:=zB F hs d3
  simp only[t1,t2,aK,d1,g]
  rcases t4 with ⟨k1,rfl⟩|⟨b,k1,h⟩
  ·simp only[k1,cond_false,d2,a]
   exact ⟨z,rfl,rfl,e⟩
  ·simp only[k1,cond_true,h,d2,a]
   exact ⟨z,rfl,rfl,e⟩
 |false=>
  simp only[cond_false]
  obtain ⟨st,m,t1,t2,t3,t4⟩:=zC F hs (.inr rfl) (f:=kY) p
  obtain ⟨d,d1,d2,d3⟩:=zz F hs h3 t3
  obtain ⟨z,g,a,e⟩:=zB F hs d3
  simp only[t1,t2,aK,d1,g]
  rcases t4 with ⟨k1,rfl⟩|⟨b,k1,h⟩
  ·simp only[k1,cond_false,d2,a]
   exact ⟨z,rfl,rfl,e⟩
  ·simp only[k1,cond_true,h,d2,a]
   exact ⟨z,rfl,rfl,e⟩
theorem Ej:∃b,gx u s=some b/\ot u s=some b:=by
 obtain ⟨r,h1,h2,h3⟩:=zD F hs
 have c:Sm u.aT 20 20:=⟨by have:=F.num;omega,by have:=F.den;omega,by have:=F.den;omega⟩
 have a:=uX c h3 (by decide) (by decide)
 unfold gx ot
 simp only[h1,h2,a.1,a.2,ah]
 exact ⟨_,rfl,rfl⟩
end
section
variable (u : an) (h0 : u.aB.length ≤ 20) (h1 : u.props.length ≤ 20) (h2 : u.aR.length ≤ 20) (h3 : u.told.length ≤ 20) (s : aP)
include h0 h1 h2 h3
theorem qT:(∃c,c≠0/\eY u [ei s]=some (uW,c)/\jm u s=some c)\/
  (Fit u/\((1<=s.back/\s.back<=20)/\0<=s.high/\s.high<=60)/\eY u [ei s]=some (u,0)/\jm u s=some 0):=by
 obtain ⟨e,c,a⟩:=uS u h0 h1 h2 h3
 unfold jm
 rw[<-e,a]
 by_cases b:c=0
 ·subst b
  have F:=y5 u h0 a
  have hb:ei s u=some (lu s):=by rw[D6];exact zg s
  rw[zb a hb,zg]
  simp only[ah,bne_self_eq_false,cond_false]
  by_cases d:lu s=0
  ·rw[d]
   exact .inr ⟨F,D7 d,rfl,rfl⟩
  ·have:(lu s != 0)=true:=by simpa using d
   rw[this]
   exact .inl ⟨_,d,rfl,rfl⟩
 ·rw[za _ a b]
  have:(c != 0)=true:=by simpa using b
  simp only[ah,this,cond_true]
  exact .inl ⟨c,b,rfl,rfl⟩
theorem Ek:∃r,mg u s=some r/\oz u s=some r:=by
 unfold mg oz
 rcases qT u h0 h1 h2 h3 s with ⟨c,b,e1,e2⟩|⟨F,hs,e1,e2⟩
 ·have:(c != 0)=true:=by simpa using b
  simp only[e1,e2,ah,this,cond_true]
  exact ⟨_,rfl,rfl⟩
 ·obtain ⟨c,k1,a,e,d⟩:=uZ F hs
  simp only[e1,e2,ah,bne_self_eq_false,cond_false,k1,d]
  have a1:(jZ u s).1=c.at_:=by rw[<-a]
  have a2:(jZ u s).2=c.high:=by rw[<-a]
  rw[a1,a2]
  exact ⟨_,rfl,rfl⟩
theorem El:∃r,mh u s=some r/\oA u s=some r:=by
 unfold mh oA
 rcases qT u h0 h1 h2 h3 s with ⟨c,a,e1,e2⟩|⟨F,hs,e1,e2⟩
 ·have:(c != 0)=true:=by simpa using a
  simp only[e1,e2,ah,this,cond_true]
  exact ⟨_,rfl,rfl⟩
 ·obtain ⟨r,k1,b⟩:=Ea F hs
  simp only[e1,e2,ah,bne_self_eq_false,cond_false,k1,b]
  exact ⟨_,rfl,rfl⟩
theorem Em:∃r,mj u s=some r/\oB u s=some r:=by
 unfold mj oB
 rcases qT u h0 h1 h2 h3 s with ⟨c,d,e1,e2⟩|⟨F,hs,e1,e2⟩
 ·have:(c != 0)=true:=by simpa using d
  simp only[e1,e2,ah,this,cond_true]
  exact ⟨_,rfl,rfl⟩
 ·simp only[e1,e2,ah,bne_self_eq_false,cond_false]
  rcases zv F hs with ⟨_,k1,a⟩|⟨st,b,k1,a,e⟩
  ·simp only[k1,a]
   exact ⟨_,rfl,rfl⟩
  ·obtain ⟨c,l,rfl,m,f,g⟩:=Ef F hs e
   simp only[k1,a]
   have z:((((c::l).length:Nat):Int)==0)=false:=by simp;omega
   have y:gY (c::l) 1 (((c::l).length:Nat):Int)=some l:=by
    unfold gY
    rw[if_pos (by simp only[List.length_cons];omega)]
    simp
   rw[z]
   simp only[cond_false]
   rw[show bL (c::l) 0=some c from rfl,y]
   simp only[f]
   rw[g]
   exact ⟨_,rfl,rfl⟩
theorem En:∃r,k4 u s=some r/\oC u s=some r:=by
 unfold k4 oC
 rcases qT u h0 h1 h2 h3 s with ⟨c,a,e1,e2⟩|⟨F,hs,e1,e2⟩
 ·have:(c != 0)=true:=by simpa using a
  simp only[e1,e2,ah,this,cond_true]
  exact ⟨_,rfl,rfl⟩
 ·obtain ⟨r,k1,d,-⟩:=zD F hs
  obtain ⟨b,e,f⟩:=Ej F hs
  simp only[e1,e2,ah,bne_self_eq_false,cond_false,k1,d,e,f]
  exact ⟨_,rfl,rfl⟩
end
end Go.Proofs.YtipgiooobncfbaaGreatDoor
end

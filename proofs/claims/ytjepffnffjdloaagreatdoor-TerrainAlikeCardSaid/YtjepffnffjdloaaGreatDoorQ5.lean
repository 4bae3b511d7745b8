/- A part of the proof of a row and its tied card: Q5. -/
import Derived.Test.YtjepffnffjdloaaGreatDoorQ4
set_option linter.all false
section
namespace Go.Proofs.YtjepffnffjdloaaGreatDoor
open Go Go.Sep Go.Proofs
set_option maxRecDepth 100000
set_option maxHeartbeats 4000000
theorem qf {α:Type}{t:Nat->α->Option Int}:∀(l:List α) (i:Nat),(∀j x,l[j]?=some x->t (i+j) x=none)->dr t i l=none
 |[],i,_=>rfl
 |y::l,i,h=>by
  unfold dr
  have h0:=h 0 y rfl
  rw[Nat.add_zero] at h0
  rw[h0]
  exact qf l (i+1) fun j x a=>by
   have:=h (j+1) x (by simpa using a)
   rwa [show i+(j+1)=i+1+j by omega] at this
theorem sY {u:aj}(h:eF u=some 0):gV u=0:=by
 have a:iK u=some 0:=h
 unfold iK at a
 rw[sE] at a
 simp only[ah] at a
 cases hg:(gV u != 0) with
 |true=>rw[hg] at a;exact Option.some.inj a
 |false=>simpa using hg
theorem sZ {u:aj}(hg:gV u=0)(F:Fit u):eF u=some 0:=by
 have h:=F.an
 have i:=F.aQ
 have k:=F.props
 have l:=F.aF
 have m:=F.told
 show iK u=some 0
 unfold iK
 rw[sE,hg]
 show kZ u=some 0
 unfold kZ
 rw[(wO u (by omega)).1,qf u.an 0 fun j x c=>?_,dw.2 (show (2:Int)<=(u.an.length:Int)/\(u.an.length:Int)<=5 by omega)]
 ·show kY u=some 0
  unfold kY
  obtain ⟨f,d⟩:=wP u (by omega) (by omega)
  rw[sH u f d,qf u.props 0 fun j x c=>?_,show decide (3<(u.props.length:Int))=false by simp;omega]
  ·show kX u=some 0
   unfold kX
   rw[sG,qf u.aF 0 fun j x c=>?_,dw.2 (show (1:Int)<=(u.aF.length:Int)/\(u.aF.length:Int)<=3 by omega)]
   ·show kW u=some 0
    unfold kW ni
    rw[sF,qf u.told 0 fun j x c=>?_,show decide (3<(u.told.length:Int))=false by simp;omega]
    ·rfl
    ·obtain ⟨a,b⟩:=F.p6 j x c
     unfold iP ku
     rw[bZ (by omega),dw.2 ⟨a,by omega⟩]
     rfl
   ·obtain ⟨a,g,b2,b3,b4⟩:=F.aW j x c
    unfold gR kr
    rw[dw.2 a,bZ (by omega),show decide (3<=x.high.high - x.high.low)=false by simp;omega,decide_eq_true g,decide_eq_true b2,decide_eq_true b3]
    rfl
  ·obtain ⟨a,b⟩:=F.prop j x c
   have:=(d x.place).1
   rw[a] at this
   unfold gQ
   rw[<-Option.some.inj this,dw.2 b]
   rfl
 ·obtain ⟨a,b⟩:=F.eH j x c
  unfold fX
  rw[bZ (by omega),dw.2 a,dw.2 b]
  simp only[cond_true,Nat.zero_add]
  cases j with
  |zero=>rfl
  |succ j=>
   have n:=(List.getElem?_eq_some_iff.1 c).1
   have e:u.an[j]?=some (u.an[j]'(by omega)):=List.getElem?_eq_getElem _
   have:=F.nP j _ x e c
   simp only[e]
   rw[show decide (x.ax<=(u.an[j]'(by omega)).ax)=false by simp;omega]
   rfl
def wp (u:aj)(P:List bH):aj:=⟨u.aQ,u.aN,u.aE,u.an,P,u.aF,u.told⟩
theorem GR {u:aj}(F:Fit u){P:List bH}(a:P.length<=3)(h:∀x,x∈P->eo u x.place=some true/\1<=x.cn/\x.cn<=20):Fit (wp u P):=
 ⟨F.aQ,F.aN,F.den,F.num,F.an,F.eH,F.nP,a,fun i x b=>h x (List.mem_of_getElem? b),F.aF,F.aW,F.told,F.p6⟩
theorem w9 (u:aj)(P:List bH)(s:aP):∀(l:List bH) (i:Nat) (b:ak),foldI (gM (wp u P) s) i l b=foldI (gM u s) i l b
 |[],_,_=>rfl
 |x::l,i,b=>by
  unfold foldI
  exact w9 u P s l (i+1) _
theorem s0 (u:aj)(P:List bH)(x:bH)(s:aP):c6 (wp u (P++[x])) s=if P.length=0 then dc u s x else cg (c6 (wp u P) s) (dc u s x):=by
 unfold c6
 rw[w9,w9]
 show foldI (gM u s) 0 (P++[x]) ⟨0,0⟩=_
 rw[wX,Nat.zero_add]
 rfl
theorem GU {u:aj}{P:List bH}{x:bH}{s:aP}(F:Fit (wp u P))(G:Fit (wp u (P++[x])))(hs:(1<=s.back/\s.back<=20)/\0<=s.high/\s.high<=60):bg (dL (wp u (P++[x])) s) (dL (wp u P) s)=false:=by
 have b:=(nZ F hs).den.1
 have c:=(iR G hs (by show P++[x]≠[];simp)).den.1
 have e:dL (wp u (P++[x])) s=cg (fY u s) (c6 (wp u (P++[x])) s):=by
  unfold dL
  rw[show decide (0<((wp u (P++[x])).props.length:Int))=true by show decide (0<((P++[x]).length:Int))=true;simp]
  rfl
 rw[e]
 unfold dL
 cases P with
 |nil=>exact qd
 |cons y P=>
  rw[show decide (0<((wp u (y::P)).props.length:Int))=true by show decide (0<((y::P).length:Int))=true;simp]
  have d:=(iR F hs (by show y::P≠[];simp)).den.1
  refine w8 (a:=fY u s) b d c ?_
  rw[s0,if_neg (by simp)]
  exact qd
section
variable {u : aj} {s : aP} (F : Fit u) (hs : (1 ≤ s.back ∧ s.back ≤ 20) ∧ 0 ≤ s.high ∧ s.high ≤ 60)
include F hs
theorem xb {p h b:Int}(d:eo u p=some true)(e:h<=b):bg (cC u ⟨p,b⟩) (cC u ⟨p,h⟩)=false/\0<(cC u ⟨p,h⟩).den/\0<(cC u ⟨p,b⟩).den:=by
 obtain ⟨a,z,f,g,c,-⟩:=kz u F p
 rw[d] at c
 have hb:=dw.1 (Option.some.inj c).symm
 obtain ⟨r,h1,-,h3⟩:=AS u F p a z f g hb.1 hb.2
 have hd:=h3.den.1
 have key:∀k:Int,cC u ⟨p,k⟩=bp (r.num+k*r.den) r.den.toNat:=fun k=>by unfold cC;simp only[h1]
 have v:∀k:Int,Vl (cC u ⟨p,k⟩) (r.num+k*r.den) r.den:=fun k=>by
  have:=fE (r.num+k*r.den) r.den.toNat (by omega)
  rw[<-key k,show ((r.den.toNat:Nat):Int)=r.den by omega] at this
  exact ⟨this.1,hd,this.2⟩
 refine ⟨?_,(v h).den,(v b).den⟩
 rw[(v b).lt (v h),decide_eq_false_iff_not,Int.not_lt]
 have:=Int.mul_le_mul_of_nonneg_right e (Int.le_of_lt (Int.mul_pos hd hd))
 grind
theorem GV {ax:Int}(d:0<=ax){e a:ak}(he:0<e.den)(b:0<a.den)(h:bg a e=false):bg (jx u s ax a) (jx u s ax e)=false:=by
 have f:=F.aQ
 have v:∀e:ak,0<e.den->Vl (jx u s ax e) (s.high*e.den*(ax+s.back)+(e.num - s.high*e.den)*(u.aQ+s.back)) (e.den*(ax+s.back)):=fun e he=>by
  have hd:0<e.den*(ax+s.back):=Int.mul_pos he (by omega)
  have:=fE (s.high*e.den*(ax+s.back)+(e.num - s.high*e.den)*(u.aQ+s.back)) (e.den*(ax+s.back)).toNat (by omega)
  rw[show (((e.den*(ax+s.back)).toNat:Nat):Int)=e.den*(ax+s.back) by omega] at this
  exact ⟨this.1,hd,this.2⟩
 rw[(v a b).lt (v e he),decide_eq_false_iff_not,Int.not_lt]
 unfold bg at h
 rw[decide_eq_false_iff_not,Int.not_lt] at h
 have c:0<(ax+s.back)*(u.aQ+s.back):=Int.mul_pos (by omega) (by omega)
 have:=Int.mul_le_mul_of_nonneg_right h (Int.le_of_lt c)
 have:=Int.mul_le_mul_of_nonneg_right this (show (0:Int)<=1 by decide)
 grind
theorem Bm {p h:Int}(b:eo u p=some true):0<(dc u s ⟨p,h⟩).den:=by
 obtain ⟨-,h2,-⟩:=xb F hs b (Int.le_refl h)
 obtain ⟨a,z,d,e,c,-⟩:=kz u F p
 rw[b] at c
 have hb:=dw.1 (Option.some.inj c).symm
 have:=F.eH 0 a d
 have f:0<=p:=by omega
 have hd:0<(cC u ⟨p,h⟩).den*(p+s.back):=Int.mul_pos h2 (by omega)
 exact (fE _ ((cC u ⟨p,h⟩).den*(p+s.back)).toNat (by omega)).2
theorem GW {p h b:Int}(c:eo u p=some true)(e:h<=b):bg (dc u s ⟨p,b⟩) (dc u s ⟨p,h⟩)=false:=by
 obtain ⟨h1,h2,h3⟩:=xb F hs c e
 obtain ⟨a,z,f,i,d,-⟩:=kz u F p
 rw[c] at d
 have hb:=dw.1 (Option.some.inj d).symm
 have:=F.eH 0 a f
 have g:0<=p:=by omega
 exact GV F hs (ax:=p) g h2 h3 h1
end
theorem GX {u:aj}{P:List bH}{p h a:Int}{s:aP}(F:Fit u)(F0:Fit (wp u P))(G:Fit (wp u (P++[⟨p,h⟩])))(c:Fit (wp u (P++[⟨p,a⟩])))(hs:(1<=s.back/\s.back<=20)/\0<=s.high/\s.high<=60)(b:eo u p=some true)(d:h<=a):
  bg (c6 (wp u (P++[⟨p,a⟩])) s) (c6 (wp u (P++[⟨p,h⟩])) s)=false/\bg (dL (wp u (P++[⟨p,a⟩])) s) (dL (wp u (P++[⟨p,h⟩])) s)=false:=by
 have c1:=(iR G hs (by show P++[⟨p,h⟩]≠[];simp)).den.1
 have c2:=(iR c hs (by show P++[⟨p,a⟩]≠[];simp)).den.1
 have f:=(nZ F hs).den.1
 have t:=GW F hs b d
 have k:bg (c6 (wp u (P++[⟨p,a⟩])) s) (c6 (wp u (P++[⟨p,h⟩])) s)=false:=by
  rw[s0,s0]
  by_cases e:P.length=0
  ·rw[if_pos e,if_pos e]
   exact t
  ·rw[if_neg e,if_neg e]
   have g:P≠[]:=fun x=>e (by rw[x];rfl)
   exact w8 (iR F0 hs g).den.1 (Bm F hs b) (Bm F hs b) t
 refine ⟨k,?_⟩
 have e:∀k,dL (wp u (P++[⟨p,k⟩])) s=cg (fY u s) (c6 (wp u (P++[⟨p,k⟩])) s):=fun k=>by
  unfold dL
  rw[show decide (0<((wp u (P++[(⟨p,k⟩:bH)])).props.length:Int))=true by show decide (0<((P++[(⟨p,k⟩:bH)]).length:Int))=true;simp]
  rfl
 rw[e,e]
 exact w8 f c1 c2 k
def qg {α ρ:Type}(t:Nat->α->Option ρ):Nat->List α->Option ρ
 |_,[]=>none
 |i,x::l=>match t i x with
  |some r=>some r
  |none=>qg t (i+1) l
def Bn {σ ρ:Type}(o:Option ρ)(s:σ):Fl σ ρ:=match o with
 |some r=>.rt r
 |none=>.nx s
theorem Bo {α σ ρ:Type}{f:Nat->α->σ->Option (Fl σ ρ)}{t:Nat->α->Option ρ}:∀(l:List α) (i:Nat) (s:σ),(∀j x s,l[j]?=some x->f (i+j) x s=some (Bn (t (i+j) x) s))->bE f i l s=some (Bn (qg t i l) s)
 |[],i,s,_=>rfl
 |x::l,i,s,h=>by
  have h0:=h 0 x s rfl
  simp only[Nat.add_zero] at h0
  unfold bE qg
  rw[h0]
  cases ht:t i x with
  |some r=>rfl
  |none=>
   show bE f (i+1) l s=_
   exact Bo l (i+1) s fun j y s a=>by
    have:=h (j+1) y s (by simpa using a)
    rwa [show i+(j+1)=i+1+j by omega] at this
theorem Bp {α:Type}{g:α->Bool}:∀(l:List α) (i:Nat),∃r,qg (fun i x=>if g x then some (i:Int) else none) i l=r/\decide (0<=r.getD (-1))=l.any g
 |[],_=>⟨none,rfl,rfl⟩
 |x::l,i=>by
  unfold qg
  cases h:g x with
  |true=>exact ⟨_,rfl,by simp[h]⟩
  |false=>
   obtain ⟨r,h1,h2⟩:=Bp l (i+1) (g:=g)
   exact ⟨r,by simpa using h1,by simpa [h] using h2⟩
theorem mG {α:Type}{l:List α}{i:Nat}{x:α}(h:l[i]?=some x):bK l (i:Int)=some x:=by
 unfold bK
 rw[if_pos (by omega)]
 simpa using h
theorem GY {α:Type}{l:List α}{i:Int}{x:α}(h0:0<=i)(h:l[i.toNat]?=some x):bK l i=some x:=by
 unfold bK
 rw[if_pos h0,h]
theorem contains_eq {f:bP->Option Bool}{g:bP->Bool}(l:List bP)(h:∀x,x∈l->f x=some (g x)):pO l f=some (l.any g):=by
 unfold pO rK
 rw[Bo (t:=fun i x=>if g x then some (i:Int) else none) l 0 0 fun j x s a=>by
  unfold rJ
  rw[h x (List.mem_of_getElem? a)]
  cases g x<;>rfl]
 obtain ⟨r,h1,h2⟩:=Bp (g:=g) l 0
 rw[h1,<-h2]
 cases r<;>rfl
def jy (u:aj)(s:aP):Bool:=(fU u s).getD false
theorem Bq {u:aj}(F:Fit u){s:aP}(hs:(1<=s.back/\s.back<=20)/\0<=s.high/\s.high<=60):fU u s=some (jy u s)/\wN u s=some (jy u s):=by
 obtain ⟨b,h1,h2⟩:=Gy F hs
 have e:jy u s=b:=by unfold jy;rw[h1];rfl
 rw[e];exact ⟨h1,h2⟩
def n5 (u:aj)(i:Nat)(n:Int):aP:=⟨(u.aF[i]?.map (·.back)).getD 0,n⟩
structure s3 (u:aj)(h:List Int):Prop where
 len:h.length=u.aF.length
 Br:∀(i:Nat) e,u.aF[i]?=some e->∃n,h[i]?=some n/\e.high.low<=n/\n<=e.high.high
def n6 (u:aj)(h:List Int)(t:bP):Bool:=jy u (n5 u t.aW.toNat (h[t.aW.toNat]?.getD 0))==t.bu
def jz (u:aj)(h:List Int):Bool:=u.told.all (n6 u h)
theorem Bs {u:aj}{h:List Int}(H:s3 u h){i:Int}(h0:0<=i)(h1:i<u.aF.length)(F:Fit u):∃e n,u.aF[i.toNat]?=some e/\h[i.toNat]?=some n/\n5 u i.toNat n=⟨e.back,n⟩/\(1<=e.back/\e.back<=20)/\0<=n/\n<=60:=by
 have c:u.aF[i.toNat]?=some (u.aF[i.toNat]'(by omega)):=List.getElem?_eq_getElem _
 obtain ⟨n,hn,a,b⟩:=H.Br _ _ c
 obtain ⟨c1,c2,c3,c4,d⟩:=F.aW _ _ c
 refine ⟨_,n,c,hn,?_,c1,by omega,by omega⟩
 unfold n5;rw[c];rfl
def fK (l:List Int):aX:=⟨l[0]?.getD 0,l[1]?.getD 0,l[2]?.getD 0⟩
theorem GZ {l:List Int}{i:Int}{n:Int}(h0:0<=i)(h1:i<3)(h:l[i.toNat]?=some n):aX.get (fK l) i=some n:=by
 unfold aX.get fK
 rcases (show i=0\/i=1\/i=2 by omega) with rfl|rfl|rfl<;>simp at h<;>simp[h]
theorem G0 {u:aj}(F:Fit u){h:List Int}(H:s3 u h):nt u (fK h)=some (jz u h):=by
 unfold nt
 rw[contains_eq (g:=fun t=>!n6 u h t) u.told fun x c=>by
  obtain ⟨i,hi⟩:=List.mem_iff_getElem?.1 c
  obtain ⟨a,b⟩:=F.p6 i x hi
  obtain ⟨e,n,h1,h2,h3,d,f⟩:=Bs H a b F
  have:=F.aF
  unfold pP jq
  simp only[GZ a (by omega) h2,ah,GY a h1,(Bq F (s:=⟨e.back,n⟩) ⟨d,f⟩).1]
  unfold n6
  rw[h2]
  show _=some (!(jy u (n5 u x.aW.toNat n)==x.bu))
  rw[h3]]
 simp only[ah]
 unfold jz
 rw[show (u.told.any fun t=>!n6 u h t)=!(u.told.all (n6 u h)) by rw[List.all_eq_not_any_not];simp]
 simp
def fL (b:cV):List Int:=(List.range (b.high - b.low+1).toNat).map fun k=>b.low+(k:Nat)
theorem G1 {b:cV}{x:Int}:x∈fL b↔b.low<=x/\x<=b.high:=by
 unfold fL
 rw[List.mem_map]
 constructor
 ·rintro ⟨k,hk,rfl⟩;rw[List.mem_range] at hk;omega
 ·rintro ⟨h1,h2⟩;exact ⟨(x - b.low).toNat,by rw[List.mem_range];omega,by omega⟩
def eI (p:List Int):List bR->List (List Int)
 |[]=>[p]
 |e::l=>(fL e.high).flatMap fun n=>eI (p++[n]) l
def jA (u:aj):List (List Int):=(eI [] u.aF).filter (jz u)
theorem xd:∀(l:List bR) (p h:List Int),h∈eI p l->h.length=p.length+l.length/\(∀(j:Nat) e,l[j]?=some e->∃n,h[p.length+j]?=some n/\e.high.low<=n/\n<=e.high.high)/\∀j,j<p.length->h[j]?=p[j]?
 |[],p,h,hm=>by
  simp only[eI,List.mem_singleton] at hm
  subst hm
  exact ⟨rfl,fun j e he=>by simp at he,fun _ _=>rfl⟩
 |e::l,p,h,hm=>by
  unfold eI at hm
  rw[List.mem_flatMap] at hm
  obtain ⟨n,hn,hm⟩:=hm
  obtain ⟨h1,h2,h3⟩:=xd l _ _ hm
  rw[List.length_append,List.length_singleton] at h1 h2 h3
  refine ⟨by simp;omega,fun j x a=>?_,fun j b=>?_⟩
  ·cases j with
   |zero=>
    simp at a;subst a
    refine ⟨n,?_,G1.1 hn⟩
    rw[Nat.add_zero,h3 _ (by omega),List.getElem?_append_right (Nat.le_refl _)]
    simp
   |succ j=>
    obtain ⟨m,hm,hb⟩:=h2 j x (by simpa using a)
    exact ⟨m,by rw[<-hm];congr 1;omega,hb⟩
  ·rw[h3 j (by omega),List.getElem?_append_left b]
theorem Bt {u:aj}{h:List Int}(hm:h∈eI [] u.aF):s3 u h:=by
 obtain ⟨h1,h2,_⟩:=xd _ _ _ hm
 exact ⟨by simpa using h1,fun i e he=>by simpa using h2 i e he⟩
theorem n7 {α:Type}{l xs:List α}(h:l.length+xs.length<=1000000):cZ l xs=some (l++xs):=by
 unfold cZ;rw[if_pos h]
theorem three (i:Nat)(h:i<=3):3 ^ i<=27:=by
 rcases (show i=0\/i=1\/i=2\/i=3 by omega) with rfl|rfl|rfl|rfl<;>decide
def co (h:aX)(j:Nat):Int:=if j=0 then h.e0 else if j=1 then h.e1 else if j=2 then h.e2 else 0
theorem G2 (h:aX){j:Nat}(a:j<3)(n:Int):∃h1,h.setAt (j:Int) n=some h1/\∀i,co h1 i=if i=j then n else co h i:=by
 rcases (show j=0\/j=1\/j=2 by omega) with rfl|rfl|rfl
 ·refine ⟨{h with e0:=n},rfl,fun i=>?_⟩
  unfold co;split<;>rfl
 ·refine ⟨{h with e1:=n},rfl,fun i=>?_⟩
  unfold co
  by_cases h0:i=0<;>by_cases h1:i=1<;>simp[h0,h1]<;>omega
 ·refine ⟨{h with e2:=n},rfl,fun i=>?_⟩
  unfold co
  by_cases h0:i=0<;>by_cases h1:i=1<;>by_cases h2:i=2<;>simp[h0,h1,h2]<;>omega
structure Ag (u:aj)(p:List Int)(h:aX):Prop where
 at_:∀(j:Nat) n,p[j]?=some n->co h j=n
 no:∀j,u.aF.length<=j->co h j=0
theorem Ag.fK {u:aj}{p:List Int}{h:aX}(H:Ag u p h)(a:p.length=u.aF.length):h=fK p:=by
 have key:∀j,co h j=p[j]?.getD 0:=fun j=>by
  cases e:p[j]? with
  |some n=>exact H.at_ j n e
  |none=>exact H.no j (by rw[<-a];exact List.getElem?_eq_none_iff.1 e)
 have b:=key 0
 have k1:=key 1
 have c:=key 2
 cases h
 unfold Go.Proofs.YtjepffnffjdloaaGreatDoor.fK
 rw[<-b,<-k1,<-c]
 rfl
theorem Ag.set {u:aj}{p:List Int}{h:aX}(H:Ag u p h)(b:p.length<u.aF.length)(h3:u.aF.length<=3)(n:Int):∃h1,h.setAt (p.length:Int) n=some h1/\Ag u (p++[n]) h1:=by
 obtain ⟨h1,e1,e2⟩:=G2 h (j:=p.length) (by omega) n
 refine ⟨h1,e1,fun j m hm=>?_,fun j a=>?_⟩
 ·rw[e2]
  by_cases e:j=p.length
  ·subst e
   rw[if_pos rfl]
   simpa using hm
  ·rw[if_neg e]
   refine H.at_ j m ?_
   rw[<-hm,List.getElem?_append_left]
   have:=(List.getElem?_eq_some_iff.1 hm).1
   simp at this;omega
 ·rw[e2,if_neg (by omega)];exact H.no j a
theorem Ag.cut {u:aj}{p:List Int}{n:Int}{h:aX}(H:Ag u (p++[n]) h):Ag u p h:=
 ⟨fun j m hm=>H.at_ j m (by rw[List.getElem?_append_left (List.getElem?_eq_some_iff.1 hm).1];exact hm),H.no⟩
theorem G3 {a b:Int}(h:a<=b):fL ⟨a,b⟩=a::fL ⟨a+1,b⟩:=by
 unfold fL
 simp only
 rw[show (b - a+1).toNat=(b - (a+1)+1).toNat+1 by omega,List.range_succ_eq_map]
 simp only[List.map_cons,List.map_map,Function.comp_def]
 congr 1
 ·simp
 ·apply List.map_congr_left;intro k _;simp only[Nat.succ_eq_add_one];omega
theorem G4 {a b:Int}(h:¬a<=b):fL ⟨a,b⟩=[]:=by
 unfold fL
 simp only
 rw[show (b - a+1).toNat=0 by omega]
 rfl
theorem Bu {u:aj}{p:List Int}(a:p.length<u.aF.length)(h3:u.aF.length<=3){f:aX->List (Option aX)×aX}{G:Int->List (Option aX)}{lo hi:Int}(hb:0<=lo/\hi<=60)
  (b:∀n,lo<=n->n<=hi->∀h,Ag u (p++[n]) h->(f h).1=G n/\Ag u (p++[n]) (f h).2):
  ∀(k:Nat) (n:Int) (h:aX),Ag u p h->lo<=n->n<=61->61 - n<k->(iL f (p.length:Int) hi k n h).1=(fL ⟨n,hi⟩).flatMap G/\Ag u p (iL f (p.length:Int) hi k n h).2
 |0,n,h,H,h1,h2,d=>by omega
 |k+1,n,h,H,h1,h2,d=>by
  unfold iL
  by_cases c:n<=hi
  ·rw[if_pos c,G3 c]
   obtain ⟨x,e1,e2⟩:=H.set a h3 n
   rw[e1]
   obtain ⟨e,g⟩:=b n h1 c x e2
   have w:IntKind.i64.wrap (n+1)=n+1:=bZ (by omega)
   obtain ⟨r1,r2⟩:=Bu a h3 hb b k (n+1) (f x).2 g.cut (by omega) (by omega) (by omega)
   simp only[w]
   exact ⟨by rw[e,r1,List.flatMap_cons],r2⟩
  ·rw[if_neg c,G4 c]
   exact ⟨rfl,H⟩
theorem Bv {u:aj}(F:Fit u):∀(l:List bR) (p:List Int) (fuel:Nat) (h:aX),u.aF.drop p.length=l->p.length+l.length=u.aF.length->l.length<fuel->
  (∀(j:Nat) e,u.aF[j]?=some e->j<p.length->∃n,p[j]?=some n/\e.high.low<=n/\n<=e.high.high)->Ag u p h->
  (eG u fuel (p.length:Int) h).1=((eI p l).filter (jz u)).map (fun x=>some (fK x))/\Ag u p (eG u fuel (p.length:Int) h).2
 |l,p,0,h,hd,a,b,hb,H=>by omega
 |[],p,fuel+1,h,hd,a,b,hb,H=>by
  have a:p.length=u.aF.length:=by simpa using a
  unfold eG
  rw[if_pos (by omega)]
  obtain rfl:=H.fK a
  have R:=G0 F (h:=p) ⟨a,fun i e he=>hb i e he (by have:=(List.getElem?_eq_some_iff.1 he).1;omega)⟩
  refine ⟨?_,H⟩
  rw[R]
  unfold eI
  cases e:jz u p<;>simp[e]
 |e::l,p,fuel+1,h,hd,a,b,hb,H=>by
  simp only[List.length_cons] at a b
  have he:u.aF[p.length]?=some e:=by
   have:=congrArg List.head? hd
   simpa [List.head?_drop] using this
  have k:u.aF.drop (p.length+1)=l:=by
   have:=congrArg List.tail hd
   simpa [List.tail_drop] using this
  have o:=F.aF
  have g:=(F.aW _ _ he).2
  unfold eG
  rw[if_neg (by omega),mG he]
  have w:IntKind.i64.wrap ((p.length:Int)+1)=((p.length+1:Nat):Int):=by rw[bZ (by omega)];omega
  simp only[w]
  have key:=Bu (u:=u) (p:=p) (by omega) o.2 (f:=eG u fuel ((p.length+1:Nat):Int)) (G:=fun n=>((eI (p++[n]) l).filter (jz u)).map (fun x=>some (fK x))) (lo:=e.high.low) (hi:=e.high.high) ⟨g.1,g.2.2.1⟩
   (fun n n1 n2 x q=>by
    have:=Bv F l (p++[n]) fuel x (by simpa using k) (by simp;omega) (by omega) (fun j y d r=>by
     by_cases c:j<p.length
     ·obtain ⟨m,hm,s⟩:=hb j y d c
      exact ⟨m,by rw[List.getElem?_append_left c];exact hm,s⟩
     ·simp at r
      obtain rfl:j=p.length:=by omega
      rw[he] at d;cases d
      exact ⟨n,by simp,n1,n2⟩) q
    simpa using this) 100 e.high.low h H (Int.le_refl _) (by omega) (by omega)
  refine ⟨?_,key.2⟩
  rw[key.1,show eI p (e::l)=(fL e.high).flatMap fun n=>eI (p++[n]) l from rfl,List.filter_flatMap,List.map_flatMap]
theorem G5 (j:Nat):co ⟨0,0,0⟩ j=0:=by
 unfold co
 split
 ·rfl
 ·split
  ·rfl
  ·split<;>rfl
theorem G6 {u:aj}(F:Fit u):mg u=(jA u).map (fun x=>some (fK x)):=by
 have b:=F.aF
 exact (Bv F u.aF [] 5 ⟨0,0,0⟩ rfl (by simp) (by omega) (fun j e _ a=>absurd a (by simp)) ⟨fun j n hn=>by simp at hn,fun j _=>G5 j⟩).1
structure xe (u:aj):Prop where
 e:u.an.length<=20
 p:u.props.length<=20
 y:u.aF.length<=20
 t:u.told.length<=20
theorem bars {u:aj}(L:xe u):∃c,eF u=some c/\iN u=some c:=by
 obtain ⟨h1,c,h2⟩:=AP u L.e L.p L.y L.t
 exact ⟨c,h2,h1▸h2⟩
theorem G7 {u:aj}(h:eF u=some 0):eO u []=some (u,0):=by
 unfold eO
 rw[h]
 rfl
theorem Bw {u:aj}{h:List Int}(hm:h∈jA u):s3 u h/\jz u h=true:=by
 obtain ⟨h1,h2⟩:=List.mem_filter.1 hm
 exact ⟨Bt h1,h2⟩
section
variable {u : aj} (F : Fit u) {i : Nat} {e : bR} (he : u.aF[i]? = some e)
include F he
end
end Go.Proofs.YtjepffnffjdloaaGreatDoor
end
section
namespace Go.Sep
open Go Go.Conc
def mH (P:Program)(J:Goroutine->af->Prop)(ops:Array Oper)(F0:af)(Q:Act->af->Prop):List Oper->Bool->Act->af->Prop
 |[],_,a,F=>Q a F
 |o::rest,_,a,F=>match cz ops o a with
  |some true=>cG P J o (fun v F'=>Knows F0 F'/\mH P J ops F0 Q rest (!Oper.calls o) (aZ a o.dst v) F') a F
  |some false=>mH P J ops F0 Q rest true (aZ a o.dst undef) F
  |none=>False
theorem G8 {P:Program}{J:Goroutine->af->Prop}{ops:Array Oper}{F0:af}{Q:Act->af->Prop}{go:Bool}{a:Act}{F:af}:mH P J ops F0 Q [] go a F=Q a F:=rfl
theorem G9 {P:Program}{J:Goroutine->af->Prop}{ops:Array Oper}{F0:af}{Q:Act->af->Prop}{o:Oper}{rest:List Oper}{a:Act}{F:af}:mH P J ops F0 Q (o::rest) true a F=match cz ops o a with
  |some true=>cG P J o (fun v F'=>Knows F0 F'/\mH P J ops F0 Q rest (!Oper.calls o) (aZ a o.dst v) F') a F
  |some false=>mH P J ops F0 Q rest true (aZ a o.dst undef) F
  |none=>False:=(Eq.refl _).trans (Eq.refl _)
section
variable {P : Program} {main : Bool} {J : Goroutine → af → Prop} {ops : Array Oper} {Q : Act → af → Prop} {F0 : af}
end
attribute [irreducible] mH
attribute [go_sem] G8 G9
end Go.Sep
end
section
namespace Go.Proofs.YtjepffnffjdloaaGreatDoor
open Go Go.Sep Go.Proofs
set_option maxRecDepth 100000
set_option maxHeartbeats 4000000
theorem He {s:List aX}{y:aX}:j9 s y=true↔y∈s:=by
 rw[wE,List.mem_map]
 constructor
 ·rintro ⟨z,a,h⟩
  obtain rfl:=wD h
  exact a
 ·exact fun h=>⟨y,h,rfl⟩
theorem Bx:∀(l s:List aX),(s++l).Nodup->iH nD (l.map some) s=some (.nx (s++l))
 |[],s,_=>by simp[iH]
 |x::l,s,h=>by
  have e:nD x s=some (.nx (s++[x])):=by
   unfold nD
   have:j9 s x=false:=by
    cases c:j9 s x with
    |false=>rfl
    |true=>
     have h2:=(List.nodup_append.1 h).2.2
     exact absurd rfl (h2 x (He.1 c) x (List.mem_cons_self ..))
   rw[this];rfl
  show iH nD (some x::l.map some) s=_
  rw[iH,e]
  have:=Bx l (s++[x]) (by simpa using h)
  rw[show s++x::l=s++[x]++l by simp]
  exact this
theorem By:∀(l:List bR) (p h:List Int),h∈eI p l->∀j,j<p.length->h[j]?=p[j]?:=fun l p h hm=>(xd l p h hm).2.2
theorem Hf (b:cV):(fL b).Nodup:=by
 unfold fL
 refine List.Pairwise.map _ ?_ (List.nodup_range (n:=(b.high - b.low+1).toNat))
 intro a c h e
 exact h (by omega)
theorem Bz:∀(l:List bR) (p:List Int),(eI p l).Nodup
 |[],p=>by simp[eI]
 |e::l,p=>by
  unfold eI
  rw[List.flatMap_def]
  unfold List.Nodup
  rw[List.pairwise_flatten]
  refine ⟨fun x c=>?_,?_⟩
  ·rw[List.mem_map] at c
   obtain ⟨n,_,rfl⟩:=c
   exact Bz l _
  ·rw[List.pairwise_map]
   refine (Hf e.high).imp ?_
   intro a b d x f y g h
   subst h
   have h1:=By l _ _ f p.length (by simp)
   have h2:=By l _ _ g p.length (by simp)
   rw[h1] at h2
   simp at h2
   exact d h2
theorem Hg {l m:List Int}(h:l.length=m.length)(h3:l.length<=3)(e:fK l=fK m):l=m:=by
 unfold fK at e
 rw[aX.mk.injEq] at e
 obtain ⟨e0,e1,e2⟩:=e
 refine List.ext_getElem? fun i=>?_
 by_cases hi:i<l.length
 ·have hm:i<m.length:=by omega
  have key:l[i]?.getD 0=m[i]?.getD 0:=by
   rcases (show i=0\/i=1\/i=2 by omega) with rfl|rfl|rfl<;>assumption
  rw[List.getElem?_eq_getElem hi,List.getElem?_eq_getElem hm] at key ⊢
  simpa using key
 ·rw[List.getElem?_eq_none (by omega),List.getElem?_eq_none (by omega)]
theorem Hh {u:aj}(F:Fit u):((jA u).map fK).Nodup:=by
 have hn:(jA u).Nodup:=(Bz u.aF []).filter _
 unfold List.Nodup at hn ⊢
 rw[List.pairwise_map]
 refine List.Pairwise.imp_of_mem ?_ hn
 intro a b c hb d e
 have h1:=(Bw c).1.len
 have h2:=(Bw hb).1.len
 have:=F.aF
 exact d (Hg (by omega) (by omega) e)
theorem BA {u:aj}(F:Fit u)(h:eF u=some 0):mh u=some (((jA u).length:Int),0):=by
 unfold mh
 rw[G7 h]
 simp only[ah]
 rw[show ((0:Int) != 0)=false by decide]
 simp only[cond_false]
 rw[G6 F,show (jA u).map (fun x=>some (fK x))=((jA u).map fK).map some by simp,Bx _ [] (by simpa using Hh F)]
 simp[aO]
theorem xg {u:aj}{s:aP}(F:Fit u)(hs:(1<=s.back/\s.back<=20)/\0<=s.high/\s.high<=60):jy u s=bg u.aE (b6 u s):=by
 obtain ⟨r,h1,h2,h3⟩:=wZ F hs
 rw[w7 F hs] at h1
 obtain rfl:=Option.some.inj h1
 have a:Sm u.aE 20 20:=⟨by have:=F.num;omega,by have:=F.den;omega,by have:=F.den;omega⟩
 have b:=k7 a h3 (by decide) (by decide)
 unfold jy fU
 rw[w7 F hs]
 simp only[ah,b.2]
 rfl
structure Hi (u o:aj):Prop where
 aQ:o.aQ=u.aQ
 aN:o.aN=u.aN
 aE:o.aE=u.aE
 props:o.props=u.props
 aF:o.aF=u.aF
 told:o.told=u.told
 cn:∀x,x∈u.props->gw o x.place=gw u x.place
 xh:∀s:aP,(1<=s.back/\s.back<=20)/\0<=s.high/\s.high<=60->(bO o s).2=(bO u s).2
section
variable {u o : aj} (F : Fit u) (G : Fit o) (K : Hi u o)
include F G K
end
theorem n8 {n a b:Int}(h1:a<=n)(h2:n<=b):bI n a b=true:=dw.2 ⟨h1,h2⟩
section
variable {u : aj} {s : aP} (F : Fit u) (h : eF u = some 0) (hs : (1 ≤ s.back ∧ s.back ≤ 20) ∧ 0 ≤ s.high ∧ s.high ≤ 60)
include F h hs
theorem s4:eO u [en s]=some (u,0):=by
 have hb:en s u=some 0:=by
  rw[AV,wV]
  unfold k8
  rw[n8 hs.1.1 hs.1.2,n8 hs.2.1 hs.2.2]
  rfl
 rw[AT h hb]
 rfl
theorem xj:j8 u s=some ((bO u s).1,(bO u s).2,0):=by
 unfold j8
 obtain ⟨c,k1,a,b,d⟩:=nU F hs
 simp only[s4 F h hs,ah,bne_self_eq_false,cond_false,k1]
 rw[<-a]
theorem qh:iM u s=some (bY ⟨u.aN,1⟩ (bO u s).2,0):=by
 unfold iM
 obtain ⟨r,k1,a⟩:=Gs F hs
 obtain ⟨c,-,e2,h3,b⟩:=nU F hs
 have e:r=bY ⟨u.aN,1⟩ (bO u s).2:=by
  unfold wM at a
  rw[b] at a
  simp only[ah,Bh (qb F hs) (nW F hs)] at a
  exact (Option.some.inj a).symm
 simp only[s4 F h hs,ah,bne_self_eq_false,cond_false,k1,e]
theorem BB:gN u s=some (c6 u s,decide (0<(u.props.length:Int)),0):=by
 have k:=GA
 unfold gN
 simp only[s4 F h hs,ah,bne_self_eq_false,cond_false]
 rcases sU F hs with ⟨h0,k1,a⟩|⟨st,b,k1,a,d⟩
 ·simp only[k1]
  unfold c6
  rw[h0]
  rfl
 ·obtain ⟨c,l,rfl,m,f,g⟩:=A6 F hs d
  rw[sS F hs] at a
  have e:=Prod.mk.inj (Option.some.inj a)
  simp only[k1]
  have z:((((c::l).length:Nat):Int)==0)=false:=by simp;omega
  have y:gI (c::l) 1 (((c::l).length:Nat):Int)=some l:=by
   unfold gI
   rw[if_pos (by simp only[List.length_cons];omega)]
   simp
  rw[z]
  simp only[cond_false]
  rw[show bK (c::l) 0=some c from rfl,y]
  simp only[f]
  rw[g,<-e.1,e.2]
  rfl
theorem qi:fV u s=some (b6 u s,bg u.aE (b6 u s),0):=by
 unfold fV
 have e1:=(Bq F hs).1
 rw[xg F hs] at e1
 simp only[s4 F h hs,ah,bne_self_eq_false,cond_false,w7 F hs,e1]
end
end Go.Proofs.YtjepffnffjdloaaGreatDoor
end

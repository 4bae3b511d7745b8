/- A part of the proof of a row and its tied card: Q10. -/
import Derived.Test.YtjepffnffjdloaaGreatDoorQ9
set_option linter.all false
section
namespace Go.Proofs.YtjepffnffjdloaaGreatDoor
open Go Go.Sep Go.Proofs
set_option maxRecDepth 100000
set_option maxHeartbeats 4000000
theorem JQ {u:aj}(h:mq u=some false):xe u:=by
 unfold mq at h
 rcases iG h with ⟨a,h⟩|⟨a,h⟩
 ·cases h
 rcases iG h with ⟨b,h⟩|⟨b,h⟩
 ·cases h
 rcases iG h with ⟨c,h⟩|⟨c,h⟩
 ·cases h
 have d:=Option.some.inj h
 simp only[decide_eq_false_iff_not] at a b c d
 exact ⟨by omega,by omega,by omega,by omega⟩
theorem JR (u:aj):∃b,mq u=some b:=by
 unfold mq
 cases decide (20<(u.an.length:Int))<;>cases decide (20<(u.props.length:Int))<;>cases decide (20<(u.aF.length:Int))<;>exact ⟨_,rfl⟩
theorem CC (u:aj):mB u=some false\/(mB u=some true/\xe u/\eF u=some 0/\Fit u):=by
 unfold mB
 obtain ⟨b,hb⟩:=JR u
 rw[hb]
 cases b with
 |true=>exact .inl rfl
 |false=>
  have L:=JQ hb
  obtain ⟨c,h1,h2⟩:=bars L
  simp only[ah,Bool.not_false,cond_true,h2]
  cases a:(c==0) with
  |false=>exact .inl rfl
  |true=>
   have e:c=0:=by simpa using a
   subst e
   exact .inr ⟨rfl,L,h1,sK u L.e h1⟩
theorem oz {a b:Int}(hb:0<b):eU a b=some (a.tmod b):=by
 unfold eU
 rw[if_neg (by omega)]
theorem oA {a b:Int}(c:0<=a)(hb:0<b):0<=a.tmod b/\a.tmod b<b:=⟨Int.tmod_nonneg _ c,Int.tmod_lt_of_pos _ hb⟩
theorem CD {a b:Int}(c:0<=a/\a<=255)(hb:0<=b/\b<=255):∃s,nM a b=some s/\(1<=s.back/\s.back<=20)/\0<=s.high/\s.high<=60:=by
 unfold nM
 rw[bZ (n:=a) (by omega),bZ (n:=b) (by omega),oz (by decide),oz (by decide)]
 have h1:=oA (b:=20) c.1 (by decide)
 have h2:=oA (b:=61) hb.1 (by decide)
 simp only[ah]
 rw[bZ (n:=1+a.tmod 20) (by omega)]
 exact ⟨⟨1+a.tmod 20,b.tmod 61⟩,rfl,⟨by simp only;omega,by simp only;omega⟩,by simp only;omega,by simp only;omega⟩
theorem JS {u:aj}(F:Fit u){k:Int}(hk:0<=k/\k<=255):∃a z:bF,u.an[0]?=some a/\u.an[u.an.length - 1]?=some z/\bK u.an 0=some a/\bK u.an (IntKind.i64.wrap ((u.an.length:Int) - 1))=some z/\
  ∃r,eU (IntKind.i64.wrap k) (IntKind.i64.wrap ((IntKind.i64.wrap (z.ax - a.ax))+1))=some r/\IntKind.i64.wrap (a.ax+r)=a.ax+r/\a.ax<=a.ax+r/\a.ax+r<=z.ax:=by
 have e:=F.an
 have c:u.an[0]?=some (u.an[0]'(by omega)):=List.getElem?_eq_getElem _
 have d:u.an[u.an.length - 1]?=some (u.an[u.an.length - 1]'(by omega)):=List.getElem?_eq_getElem _
 have f:=F.eH _ _ c
 have g:=F.eH _ _ d
 have h:=F.aQ
 have i:(u.an[0]'(by omega)).ax<(u.an[u.an.length - 1]'(by omega)).ax:=sX F (u.an.length - 2) 0 _ _ c (by rw[<-d];congr 1;omega)
 refine ⟨_,_,c,d,mG c,?_,?_⟩
 ·rw[bZ (by omega)]
  have:=mG d
  rwa [show (((u.an.length - 1:Nat)):Int)=(u.an.length:Int) - 1 by omega] at this
 ·generalize (u.an[0]'(by omega)).ax=x at*
  generalize (u.an[u.an.length - 1]'(by omega)).ax=y at*
  rw[bZ (n:=y - x) (by omega),bZ (n:=y - x+1) (by omega),bZ (n:=k) (by omega),oz (by omega)]
  have h1:=oA (a:=k) (b:=y - x+1) hk.1 (by omega)
  exact ⟨_,rfl,bZ (by omega),by omega,by omega⟩
theorem tF {x:ak}(hs:Sm x 1000000000 1048575)(a:∃n d,0<d/\x=bp n d):dU x=some true:=by
 obtain ⟨n,d,hd,e⟩:=a
 have h1:=hs.num
 have h2:=hs.den
 have k:e8 x.num x.den=some x:=by
  have:=mC x.num x.den.toNat (by omega) (by omega) (by omega)
  rw[show ((x.den.toNat:Nat):Int)=x.den by omega] at this
  rw[this,e,sW n d hd]
 unfold dU
 rw[decide_eq_true h2.1,decide_eq_true (show x.den<1048576 by omega),eP,n8 (by omega) (by omega),k]
 simp only[cond_true,ah,beq_self_eq_true,Bool.and_self]
theorem CE {a b:ak}{A B C D:Nat}(c:Sm a A B)(hb:Sm b C D):Sm (bY a b) (A*D+C*B) (B*D)/\∃n d,0<d/\bY a b=bp n d:=by
 have h1:=dx c.num (show b.den.natAbs<=D by have:=hb.den;omega)
 have h2:=dx hb.num (show a.den.natAbs<=B by have:=c.den;omega)
 have h3:=dx (show a.den.natAbs<=B by have:=c.den;omega) (show b.den.natAbs<=D by have:=hb.den;omega)
 have e:0<a.den*b.den:=Int.mul_pos c.den.1 hb.den.1
 have:=iQ (a.num*b.den - b.num*a.den) (a.den*b.den).toNat (by omega)
 refine ⟨?_,_,_,by omega,rfl⟩
 unfold bY
 exact ⟨Nat.le_trans this.num (by omega),this.den.1,by have:=this.den.2;omega⟩
section
variable {u : aj} {s : aP} (F : Fit u) (hs : (1 ≤ s.back ∧ s.back ≤ 20) ∧ 0 ≤ s.high ∧ s.high ≤ 60)
include F hs
theorem qw:Sm (bO u s).2 10000 100/\∃n d,0<d/\(bO u s).2=bp n d:=by
 obtain ⟨n,p,e,a,-⟩:=GB F hs
 have b:=F.eH n p a
 rw[e]
 exact ⟨AX u F s hs n p a,_,_,by omega,rfl⟩
theorem JU:dU (bO u s).2=some true:=by
 obtain ⟨h1,h2⟩:=qw F hs
 exact tF (h1.mono (by decide) (by decide)) h2
theorem mP:Sm (bY ⟨u.aN,1⟩ (bO u s).2) 16000 100/\∃n d,0<d/\bY ⟨u.aN,1⟩ (bO u s).2=bp n d:=by
 obtain ⟨h1,h2⟩:=CE (p9 F hs) (qw F hs).1
 exact ⟨h1.mono (by decide) (by decide),h2⟩
theorem x9:dU (bY ⟨u.aN,1⟩ (bO u s).2)=some true:=by
 obtain ⟨h1,h2⟩:=mP F hs
 exact tF (h1.mono (by decide) (by decide)) h2
end
def oB (u0:aj)(n:Int)(o:Int)(e:aP)(g:Int)(f:(ak×Bool×Int))(i:(ak×Bool×Int)):Option Bool:=
 cond (decide (3<=(u0.props.length:Int))) (ah (gD) fun p=>some p) (ah (bK u0.an 0) fun h=>ah (bK u0.an (IntKind.i64.wrap ((u0.an.length:Int) - 1))) fun q=>ah (eU (IntKind.i64.wrap n) (IntKind.i64.wrap ((IntKind.i64.wrap (q.ax - h.ax))+1))) fun j=>ah (jv u0 ([IntKind.i64.wrap (h.ax+j)]) (IntKind.i64.wrap (1+g))) fun k=>ah (eU (IntKind.i64.wrap o) 5) fun l=>ah (jv u0 ([IntKind.i64.wrap (h.ax+j)]) (if IntKind.i64.wrap ((IntKind.i64.wrap (1+g))+l)<20 then IntKind.i64.wrap ((IntKind.i64.wrap (1+g))+l) else 20)) fun m=>ah (gN k e) fun c=>ah (gN m e) fun d=>ah (fV k e) fun a=>ah (fV m e) fun b=>cond ((c.2.2 != 0)) (some false) (cond ((d.2.2 != 0)) (some false) (cond ((a.2.2 != 0)) (some false) (cond ((b.2.2 != 0)) (some false) (cond (!c.2.1) (some false) (cond (!d.2.1) (some false) (ah (dU c.1) fun r=>cond (!r) (some false) (ah (dU d.1) fun s=>cond (!s) (some false) (ah (dU a.1) fun t=>cond (!t) (some false) (ah (dU b.1) fun u=>cond (!u) (some false) (cond (i.2.1) (ah (dS c.1 i.1) fun v=>cond (v) (some false) (ah (dS d.1 c.1) fun w=>cond (w) (some false) (ah (dS f.1 a.1) fun x=>cond (x) (some false) (ah (dS a.1 b.1) fun y=>cond (y) (some false) (cond (f.2.1) (cond (a.2.1) (ah (gD) fun z=>some z) (cond (!b.2.1) (ah (gD) fun A=>some A) (some false))) (cond (!a.2.1) (cond (!b.2.1) (ah (gD) fun B=>some B) (some false)) (some false))))))) (ah (dS d.1 c.1) fun C=>cond (C) (some false) (ah (dS f.1 a.1) fun D=>cond (D) (some false) (ah (dS a.1 b.1) fun E=>cond (E) (some false) (cond (f.2.1) (cond (a.2.1) (ah (gD) fun F=>some F) (cond (!b.2.1) (ah (gD) fun G=>some G) (some false))) (cond (!a.2.1) (cond (!b.2.1) (ah (gD) fun H=>some H) (some false)) (some false)))))))))))))))))
def tG (u0:aj)(i:Int)(j:Int)(e:Int)(k:Int)(f:Int):Option Bool:=
 ah (mB u0) fun l=>cond (!l) (ah (gD) fun m=>some m) (ah (nM i j) fun c=>ah (eU (IntKind.i64.wrap k) 20) fun g=>ah (iM u0 c) fun d=>ah (fV u0 c) fun a=>ah (gN u0 c) fun b=>cond ((d.2 != 0)) (some false) (cond ((a.2.2 != 0)) (some false) (cond ((b.2.2 != 0)) (some false) (ah (dU d.1) fun n=>cond (!n) (some false) (ah (dU a.1) fun o=>cond (!o) (some false) (cond (decide (a.1.num<0)) (some false) (ah (nN d.1) fun p=>ah (dS p a.1) fun q=>cond (q) (some false) (ah (dS u0.aE a.1) fun r=>cond (!(a.2.1==r)) (some false) (cond (!(b.2.1==(decide (0<(u0.props.length:Int))))) (some false) (cond (!b.2.1) (ah (nN d.1) fun h=>cond (!((a.1.num==h.num)&&(a.1.den==h.den))) (some false) (cond (!((b.1.num==0)&&(b.1.den==0))) (some false) (oB u0 e f c g a b))) (ah (dU b.1) fun s=>cond (!s) (some false) (oB u0 e f c g a b))))))))))))
theorem JV {x:ak}{A B:Nat}(h:Sm x A B)(a:A<=9000000000000000000):nN x=some (iS x):=by
 have hn:=h.num
 unfold nN iS
 rw[bZ (n:=0 - x.num) (by omega)]
 congr 2
 by_cases c:x.num<0
 ·rw[if_pos (by omega),if_pos c];omega
 ·by_cases d:x.num=0
  ·rw[if_neg (by omega),if_neg c]
  ·rw[if_neg (by omega),if_neg c]
theorem JW {x:ak}{A B:Nat}(h:Sm x A B):Sm (iS x) A B:=by
 have hn:=h.num
 refine ⟨?_,h.den⟩
 unfold iS
 split<;>simp only<;>omega
abbrev Lw (x:ak):Prop:=∃n d,0<d/\x=bp n d
theorem Lw.more {a b:ak}(c:Lw a)(hb:Lw b):Lw (cg a b):=by
 unfold cg;cases bg a b;exact c;exact hb
theorem JX:Lw ⟨0,1⟩:=⟨0,1,by decide,by decide⟩
section
variable {u : aj} {s : aP} (F : Fit u) (hs : (1 ≤ s.back ∧ s.back ≤ 20) ∧ 0 ≤ s.high ∧ s.high ≤ 60)
include F hs
theorem JY {i:Nat}{x:bH}(d:u.props[i]?=some x):Lw (dc u s x):=by
 obtain ⟨b,p2,p3⟩:=F.prop i x d
 obtain ⟨-,h2,-⟩:=xb F hs b (Int.le_refl x.cn)
 obtain ⟨a,z,e,f,c,-⟩:=kz u F x.place
 rw[b] at c
 have hb:=dw.1 (Option.some.inj c).symm
 have:=F.eH 0 a e
 have hd:0<(cC u x).den*(x.place+s.back):=Int.mul_pos h2 (by omega)
 exact ⟨_,_,by omega,rfl⟩
theorem JZ (h:u.props≠[]):Lw (c6 u s):=by
 have key:∀(l:List bH) (i:Nat) (b:ak),(∀x,x∈l->Lw (dc u s x))->(i=0/\l≠[]\/Lw b)->Lw (foldI (gM u s) i l b):=by
  intro l
  induction l with
  |nil=>intro i b _ hb;rcases hb with ⟨_,hb⟩|hb;exact absurd rfl hb;exact hb
  |cons x l ih=>
   intro i b d hb
   unfold foldI
   refine ih (i+1) _ (fun y e=>d y (List.mem_cons_of_mem _ e)) (.inr ?_)
   have a:=d x (List.mem_cons_self ..)
   unfold gM
   by_cases c:i=0
   ·rw[if_pos c];exact a
   ·rw[if_neg c]
    exact Lw.more (hb.resolve_left fun y=>c y.1) a
 refine key u.props 0 ⟨0,0⟩ (fun x a=>?_) (.inl ⟨rfl,h⟩)
 obtain ⟨i,hi⟩:=List.mem_iff_getElem?.1 a
 exact JY F hs hi
theorem J0:Sm (fc u s) 10000 100:=by
 unfold fc
 cases bg (bO u s).2 ⟨u.aN,1⟩
 ·exact (qw F hs).1
 ·exact (p9 F hs).mono (by decide) (by decide)
theorem jJ:Sm (b6 u s) 300000000 800000/\Lw (b6 u s):=by
 obtain ⟨h1,h2⟩:=CE (J0 F hs) (n4 F hs)
 unfold b6
 refine ⟨?_,Lw.more h2 JX⟩
 have z:Sm (⟨0,1⟩:ak) 300000000 800000:=⟨by decide,by decide,by decide⟩
 have h3:=h1.mono (show _<=300000000 by decide) (show _<=800000 by decide)
 unfold cg
 cases bg (bY (fc u s) (dL u s)) ⟨0,1⟩
 ·exact h3
 ·exact z
theorem ya:dU (b6 u s)=some true:=by
 obtain ⟨h1,h2⟩:=jJ F hs
 exact tF (h1.mono (by decide) (by decide)) h2
theorem CF (h:u.props≠[]):dU (c6 u s)=some true:=
 tF ((iR F hs h).mono (by decide) (by decide)) (JZ F hs h)
theorem CG:Sm u.aE 20 20:=⟨by have:=F.num;omega,by have:=F.den;omega,by have:=F.den;omega⟩
end
theorem J1 {u:aj}(p h:Int)(b:u.props.length<=20):jv u [p] h=some (wp u (u.props++[⟨p,h⟩])):=by
 unfold jv
 have:=sO (f:=nL [p] h) (ρ:=aj) (g:=fun _ x s=>s++[(⟨x,h⟩:bH)]) (I:=fun i s=>s.length<=20+i) (fun s i=>(i,s)) [p] (by simp) (fun i x s a d=>by
  have c:=(List.getElem?_eq_some_iff.1 a).1
  simp only[List.length_singleton] at c
  obtain rfl:i=0:=by omega
  have ex:x=p:=by simpa using a.symm
  subst ex
  refine ⟨?_,by simp only[List.length_append,List.length_singleton];omega⟩
  unfold nL
  simp only[show decide (((0:Nat):Int)<(([x]:List Int).length:Int))=true from rfl,cond_true,show bK [x] ((0:Nat):Int)=some x from rfl,ah,n7 (l:=s) (xs:=[(⟨x,h⟩:bH)]) (by simp only[List.length_singleton];omega)]
  rfl) (fun s=>by
  unfold nL
  rfl) u.props (by simpa using b)
 rw[n7 (l:=([]:List bH)) (xs:=u.props) (by simp;omega),List.nil_append]
 simp only[ah]
 rw[this.1]
 rfl
theorem J2 {u:aj}(F:Fit u){p h:Int}(d:u.props.length<3)(a:eo u p=some true)(b:1<=h/\h<=20):Fit (wp u (u.props++[⟨p,h⟩])):=by
 refine GR F (by simp;omega) fun x c=>?_
 rcases List.mem_append.1 c with m|m
 ·obtain ⟨i,hi⟩:=List.mem_iff_getElem?.1 m
  exact F.prop i x hi
 ·rw[List.mem_singleton] at m
  subst m
  exact ⟨a,b⟩
section
variable {u : aj} {s : aP} (F : Fit u) (h : eF u = some 0) (hs : (1 ≤ s.back ∧ s.back ≤ 20) ∧ 0 ≤ s.high ∧ s.high ≤ 60)
include F h hs
theorem CH {o:aj}(G:Fit o){b:Bool}(e:bg (b6 u s) (b6 o s)=b):dS (b6 u s) (b6 o s)=some b:=
 (k7 (jJ F hs).1 (jJ G hs).1 (by decide) (by decide)).1.trans (congrArg some e)
theorem CI {p k:Int}(b:u.props.length<3)(c:eo u p=some true)(hk:1<=k/\k<=20):Fit (wp u (u.props++[⟨p,k⟩]))/\jv u [p] k=some (wp u (u.props++[⟨p,k⟩]))/\
  gN (wp u (u.props++[⟨p,k⟩])) s=some (c6 (wp u (u.props++[⟨p,k⟩])) s,true,0)/\fV (wp u (u.props++[⟨p,k⟩])) s=some (b6 (wp u (u.props++[⟨p,k⟩])) s,bg u.aE (b6 (wp u (u.props++[⟨p,k⟩])) s),0)/\
  dU (c6 (wp u (u.props++[⟨p,k⟩])) s)=some true/\dU (b6 (wp u (u.props++[⟨p,k⟩])) s)=some true/\SR (c6 (wp u (u.props++[⟨p,k⟩])) s):=by
 have G:=J2 F b c hk
 have a:=sZ (u:=wp u (u.props++[⟨p,k⟩])) (show gV u=0 from sY h) G
 have hn:(wp u (u.props++[⟨p,k⟩])).props≠[]:=by show u.props++[⟨p,k⟩]≠[];simp
 have e:=BB G a hs
 rw[show decide (0<((wp u (u.props++[⟨p,k⟩])).props.length:Int))=true by show decide (0<((u.props++[(⟨p,k⟩:bH)]).length:Int))=true;simp] at e
 exact ⟨G,J1 p k (by omega),e,qi G a hs,CF G hs hn,ya G hs,iR G hs hn⟩
theorem CJ {o:aj}(G:Fit o)(e:bg (b6 u s) (b6 o s)=false)(hb:bg u.aE (b6 u s)=false):bg u.aE (b6 o s)=false:=
 sV (CG F hs).den.1 (jJ F hs).1.den.1 (jJ G hs).1.den.1 hb e
end
theorem J3 (u:aj)(a:Int)(H:0<=a/\a<=255)(b:Int)(hb:0<=b/\b<=255)(c:Int)(j:0<=c/\c<=255)(d:Int)(hd:0<=d/\d<=255)(e:Int)(he:0<=e/\e<=255):tG u a b c d e=some true:=by
 unfold tG
 rcases CC u with k|⟨k,L,h,F⟩
 ·simp only[k,ah,Bool.not_false,cond_true,mO]
 obtain ⟨s,es,hs⟩:=CD H hb
 obtain ⟨x,z,I,J,K,N,r,O,Q,k1,R⟩:=JS F j
 have l:eo u (x.ax+r)=some true:=by
  obtain ⟨a',a0,v,w,S,-⟩:=kz u F (x.ax+r)
  rw[I] at v;cases v
  rw[J] at w;cases w
  rw[S,n8 k1 R]
 have t1:=oA (a:=d) (b:=20) hd.1 (by decide)
 have t2:=oA (a:=e) (b:=5) he.1 (by decide)
 have y:eU (IntKind.i64.wrap d) 20=some (d.tmod 20):=by rw[bZ (by omega)];exact oz (by decide)
 have em:eU (IntKind.i64.wrap e) 5=some (e.tmod 5):=by rw[bZ (by omega)];exact oz (by decide)
 generalize d.tmod 20=t at y t1
 generalize e.tmod 5=m at em t2
 have w1:IntKind.i64.wrap (1+t)=1+t:=bZ (by omega)
 have w2:IntKind.i64.wrap (1+t+m)=1+t+m:=bZ (by omega)
 have T:decide ((b6 u s).num<0)=false:=decide_eq_false (by have:=GN F hs;omega)
 have U:=JV (mP F hs).1 (by decide)
 have V:dS (iS (bY ⟨u.aN,1⟩ (bO u s).2)) (b6 u s)=some false:=(k7 (JW (mP F hs).1) (jJ F hs).1 (by decide) (by decide)).1.trans (congrArg some (GQ F hs))
 have W:dS u.aE (b6 u s)=some (bg u.aE (b6 u s)):=(k7 (CG F hs) (jJ F hs).1 (by decide) (by decide)).1
 have a2:=F.props
 have tail:u.props.length<3->∀M:Int,1+t<=M->M<=20->∃o q,Fit o/\Fit q/\jv u [x.ax+r] (1+t)=some o/\jv u [x.ax+r] M=some q/\gN o s=some (c6 o s,true,0)/\gN q s=some (c6 q s,true,0)/\
   fV o s=some (b6 o s,bg u.aE (b6 o s),0)/\fV q s=some (b6 q s,bg u.aE (b6 q s),0)/\dU (c6 o s)=some true/\dU (c6 q s)=some true/\dU (b6 o s)=some true/\dU (b6 q s)=some true/\
   (u.props≠[]->dS (c6 o s) (c6 u s)=some false)/\dS (c6 q s) (c6 o s)=some false/\dS (b6 u s) (b6 o s)=some false/\dS (b6 o s) (b6 q s)=some false/\(bg u.aE (b6 u s)=false->bg u.aE (b6 o s)=false)/\(bg u.aE (b6 o s)=false->bg u.aE (b6 q s)=false):=by
  intro A M i a3
  obtain ⟨G,o1,o2,X,o4,Y,B⟩:=CI F h hs A l (k:=1+t) (by omega)
  obtain ⟨f,Z,p2,p3,p4,ab,ad⟩:=CI F h hs A l (k:=M) (by omega)
  obtain ⟨ae,al⟩:=GX (P:=u.props) F F G f hs l i
  have C:=Bl F G hs rfl (GU (P:=u.props) F G hs)
  have D:=Bl G f hs rfl al
  refine ⟨_,_,G,f,o1,Z,o2,p2,X,p3,o4,p4,Y,ab,fun hn=>?_,(jw ad B).1.trans (congrArg some ae),CH F h hs G C,CH G (sZ (show gV u=0 from sY h) G) hs f D,CJ F h hs G C,CJ G (sZ (show gV u=0 from sY h) G) hs f D⟩
  have j:=iR F hs hn
  refine (jw B j).1.trans (congrArg some ?_)
  rw[s0,if_neg (by have:=List.length_pos_iff.2 hn;omega)]
  exact qd
 obtain ⟨M,i⟩:∃M,(if 1+t+m<20 then 1+t+m else 20)=M:=⟨_,rfl⟩
 have E:1+t<=M/\M<=20:=by rw[<-i];split<;>omega
 have ao:oB u c e s t (b6 u s,bg u.aE (b6 u s),0) (c6 u s,decide (0<(u.props.length:Int)),0)=some true:=by
  unfold oB
  simp only[ah,K,N,O,Q,w1,em,w2,i]
  by_cases h3:u.props.length<3
  ·obtain ⟨o,q,G,f,f1,f2,f3,f4,f5,f6,f7,f8,f9,f10,f11,f12,f13,f14,f15,f16⟩:=tail h3 M E.1 E.2
   rw[decide_eq_false (show ¬(3:Int)<=(u.props.length:Int) by omega)]
   by_cases hn:u.props=[]
   ·have n:u.props.length=0:=by rw[hn];rfl
    rw[decide_eq_false (show ¬(0:Int)<(u.props.length:Int) by omega)]
    simp only[Bool.not_true,Bool.not_false,cond_true,cond_false,f1,f2,f3,f4,f5,f6,f7,f8,f9,f10,f12,f13,f14,bne_self_eq_false,mO]
    cases g:bg u.aE (b6 u s) with
    |true=>
     cases p:bg u.aE (b6 o s) with
     |true=>rfl
     |false=>rw[f16 p];rfl
    |false=>rw[f15 g,f16 (f15 g)];rfl
   ·have n:0<u.props.length:=List.length_pos_iff.2 hn
    rw[decide_eq_true (show (0:Int)<(u.props.length:Int) by omega)]
    simp only[Bool.not_true,Bool.not_false,cond_true,cond_false,f1,f2,f3,f4,f5,f6,f7,f8,f9,f10,f11 hn,f12,f13,f14,bne_self_eq_false,mO]
    cases g:bg u.aE (b6 u s) with
    |true=>
     cases p:bg u.aE (b6 o s) with
     |true=>rfl
     |false=>rw[f16 p];rfl
    |false=>rw[f15 g,f16 (f15 g)];rfl
  ·rw[decide_eq_true (show (3:Int)<=(u.props.length:Int) by omega)]
   simp only[cond_true,mO]
 simp only[k,ah,Bool.not_true,cond_false,es,y,qh F h hs,qi F h hs,BB F h hs,bne_self_eq_false,x9 F hs,ya F hs,T,U,V,W,beq_self_eq_true,ao]
 by_cases hn:u.props=[]
 ·have n:u.props.length=0:=by rw[hn];rfl
  have ar:c6 u s=⟨0,0⟩:=by unfold c6;rw[hn];rfl
  rw[decide_eq_false (show ¬(0:Int)<(u.props.length:Int) by omega),ar,GO F hs hn]
  simp only[Bool.not_false,cond_true,beq_self_eq_true,Bool.and_self,Bool.not_true,cond_false]
 ·have n:0<u.props.length:=List.length_pos_iff.2 hn
  rw[decide_eq_true (show (0:Int)<(u.props.length:Int) by omega)]
  simp only[Bool.not_true,cond_false,CF F hs hn]
end Go.Proofs.YtjepffnffjdloaaGreatDoor
end

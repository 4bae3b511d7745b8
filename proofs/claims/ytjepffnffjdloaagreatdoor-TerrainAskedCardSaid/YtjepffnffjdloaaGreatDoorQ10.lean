/- A part of the proof of a row and its tied card: Q10. -/
import Derived.Test.YtjepffnffjdloaaGreatDoorQ9
set_option linter.all false
section
namespace Go.Proofs.YtjepffnffjdloaaGreatDoor
open Go Go.Sep Go.Proofs
set_option maxRecDepth 100000
set_option maxHeartbeats 4000000
theorem Ln {u:ak}(h:m4 u=some false):tS u:=by
 unfold m4 at h
 rcases iX h with ⟨a,h⟩|⟨a,h⟩
 ·cases h
 rcases iX h with ⟨b,h⟩|⟨b,h⟩
 ·cases h
 rcases iX h with ⟨c,h⟩|⟨c,h⟩
 ·cases h
 have d:=Option.some.inj h
 simp only[decide_eq_false_iff_not] at a b c d
 exact ⟨by omega,by omega,by omega,by omega⟩
theorem Lo (u:ak):∃b,m4 u=some b:=by
 unfold m4
 cases decide (20<(u.aj.length:Int))<;>cases decide (20<(u.props.length:Int))<;>cases decide (20<(u.aE.length:Int))<;>exact ⟨_,rfl⟩
theorem uG (u:ak):kO u=some false\/(kO u=some true/\tS u/\dM u=some 0/\Fit u):=by
 unfold kO
 obtain ⟨b,hb⟩:=Lo u
 rw[hb]
 cases b with
 |true=>exact .inl rfl
 |false=>
  have L:=Ln hb
  obtain ⟨c,h1,h2⟩:=bars L
  simp only[ah,Bool.not_false,cond_true,h2]
  cases a:(c==0) with
  |false=>exact .inl rfl
  |true=>
   have e:c=0:=by simpa using a
   subst e
   exact .inr ⟨rfl,L,h1,Bz u L.e h1⟩
theorem nB {a b:Int}(hb:0<b):eO a b=some (a.tmod b):=by
 unfold eO
 rw[if_neg (by omega)]
theorem nC {a b:Int}(c:0<=a)(hb:0<b):0<=a.tmod b/\a.tmod b<b:=⟨Int.tmod_nonneg _ c,Int.tmod_lt_of_pos _ hb⟩
theorem DD {a b:Int}(c:0<=a/\a<=255)(hb:0<=b/\b<=255):∃s,oF a b=some s/\(1<=s.back/\s.back<=20)/\0<=s.high/\s.high<=60:=by
 unfold oF
 rw[bR (n:=a) (by omega),bR (n:=b) (by omega),nB (by decide),nB (by decide)]
 have h1:=nC (b:=20) c.1 (by decide)
 have h2:=nC (b:=61) hb.1 (by decide)
 simp only[ah]
 rw[bR (n:=1+a.tmod 20) (by omega)]
 exact ⟨⟨1+a.tmod 20,b.tmod 61⟩,rfl,⟨by simp only;omega,by simp only;omega⟩,by simp only;omega,by simp only;omega⟩
theorem DF {u:ak}(F:Fit u){k:Int}(e:0<=k/\k<=255):∃a z:bH,u.aj[0]?=some a/\u.aj[u.aj.length - 1]?=some z/\bw u.aj 0=some a/\bw u.aj (IntKind.i64.wrap ((u.aj.length:Int) - 1))=some z/\
  ∃r,eO (IntKind.i64.wrap k) (IntKind.i64.wrap ((IntKind.i64.wrap (z.an - a.an))+1))=some r/\IntKind.i64.wrap (a.an+r)=a.an+r/\a.an<=a.an+r/\a.an+r<=z.an:=by
 have f:=F.aj
 have c:u.aj[0]?=some (u.aj[0]'(by omega)):=List.getElem?_eq_getElem _
 have d:u.aj[u.aj.length - 1]?=some (u.aj[u.aj.length - 1]'(by omega)):=List.getElem?_eq_getElem _
 have g:=F.dn _ _ c
 have h:=F.dn _ _ d
 have i:=F.aZ
 have j:(u.aj[0]'(by omega)).an<(u.aj[u.aj.length - 1]'(by omega)).an:=tN F (u.aj.length - 2) 0 _ _ c (by rw[<-d];congr 1;omega)
 refine ⟨_,_,c,d,gy c,?_,?_⟩
 ·rw[bR (by omega)]
  have:=gy d
  rwa [show (((u.aj.length - 1:Nat)):Int)=(u.aj.length:Int) - 1 by omega] at this
 ·generalize (u.aj[0]'(by omega)).an=x at*
  generalize (u.aj[u.aj.length - 1]'(by omega)).an=y at*
  rw[bR (n:=y - x) (by omega),bR (n:=y - x+1) (by omega),bR (n:=k) (by omega),nB (by omega)]
  have h1:=nC (a:=k) (b:=y - x+1) e.1 (by omega)
  exact ⟨_,rfl,bR (by omega),by omega,by omega⟩
theorem y7 {x:av}(hs:Sm x 1000000000 1048575)(a:∃n d,0<d/\x=bt n d):jP x=some true:=by
 obtain ⟨n,d,hd,e⟩:=a
 have h1:=hs.num
 have h2:=hs.den
 have k:gP x.num x.den=some x:=by
  have:=oH x.num x.den.toNat (by omega) (by omega) (by omega)
  rw[show ((x.den.toNat:Nat):Int)=x.den by omega] at this
  rw[this,e,xR n d hd]
 unfold jP
 rw[decide_eq_true h2.1,decide_eq_true (show x.den<1048576 by omega),eu,lX (by omega) (by omega),k]
 simp only[cond_true,ah,beq_self_eq_true,Bool.and_self]
theorem Lp {a b:av}{A B C D:Nat}(c:Sm a A B)(hb:Sm b C D):Sm (ij a b) (A*D+C*B) (B*D)/\∃n d,0<d/\ij a b=bt n d:=by
 have h1:=cJ c.num (show b.den.natAbs<=D by have:=hb.den;omega)
 have h2:=cJ hb.num (show a.den.natAbs<=B by have:=c.den;omega)
 have h3:=cJ (show a.den.natAbs<=B by have:=c.den;omega) (show b.den.natAbs<=D by have:=hb.den;omega)
 have e:0<a.den*b.den:=Int.mul_pos c.den.1 hb.den.1
 have:=jk (a.num*b.den - b.num*a.den) (a.den*b.den).toNat (by omega)
 refine ⟨?_,_,_,by omega,rfl⟩
 unfold ij
 exact ⟨Nat.le_trans this.num (by omega),this.den.1,by have:=this.den.2;omega⟩
theorem DG {α ρ:Type}:∀(l:List α) (i:Nat),gR (fun _ _=>(none:Option ρ)) i l=none
 |[],_=>rfl
 |x::l,i=>by unfold gR;exact DG l (i+1)
theorem y8 {α:Type}(l:List α)(b:l.length<=1000){f:Bool×Int->Option (Fl (Bool×Int) Bool)}(h:∀(i:Nat) x s,l[i]?=some x->i<l.length->f (s,(i:Int))=some (.nx (s,IntKind.i64.wrap ((i:Int)+1))))(c:∀s,f (s,(l.length:Int))=some (.bk (s,(l.length:Int))))(s:Bool):
  bg f fu (s,0)=some (.nx (s,(l.length:Int))):=by
 have:=B4 (t:=fun _ _=>(none:Option Bool)) l b (f:=f) (fun i x s a=>by
  have d:=(List.getElem?_eq_some_iff.1 a).1
  rw[h i x s a d,bR (by omega)]
  rfl) c s
 rw[DG] at this
 exact this
section
variable {u : ak} {s : aO} (F : Fit u) (hs : (1 ≤ s.back ∧ s.back ≤ 20) ∧ 0 ≤ s.high ∧ s.high ≤ 60)
include F hs
theorem y9:Sm (c8 u s).2 10000 100/\∃n d,0<d/\(c8 u s).2=bt n d:=by
 obtain ⟨n,p,e,hp,-⟩:=tL F hs
 have fp:=F.dn n p hp
 rw[e]
 exact ⟨BG u F s hs n p hp,_,_,by omega,rfl⟩
theorem Lq:jP (c8 u s).2=some true:=by
 obtain ⟨h1,h2⟩:=y9 F hs
 exact y7 (h1.mono (by decide) (by decide)) h2
theorem Lr:Sm (ij ⟨u.bD,1⟩ (c8 u s).2) 16000 100/\∃n d,0<d/\ij ⟨u.bD,1⟩ (c8 u s).2=bt n d:=by
 obtain ⟨h1,h2⟩:=Lp (tF F hs) (y9 F hs).1
 exact ⟨h1.mono (by decide) (by decide),h2⟩
theorem Ls:jP (ij ⟨u.bD,1⟩ (c8 u s).2)=some true:=by
 obtain ⟨h1,h2⟩:=Lr F hs
 exact y7 (h1.mono (by decide) (by decide)) h2
end
end Go.Proofs.YtjepffnffjdloaaGreatDoor
end

/- A part of the proof of a row and its tied card: QJ10. -/
import Derived.Test.YtpgcmoanfifglaaGreatDoorQJ9
set_option linter.all false
section
namespace Go.Proofs.YtpgcmoanfifglaaGreatDoor
open Go Go.Sep Go.Proofs
set_option maxRecDepth 100000
set_option maxHeartbeats 4000000
theorem Cc9:∀(l:List bY) (p:List Int),(∀e,e∈l->e.high.low<=e.high.high)->dM p l≠[]
 |[],p,_=>by simp[dM]
 |e::l,p,h=>by
  have h0:=h e (List.mem_cons_self ..)
  unfold dM
  rw[show e.high=⟨e.high.low,e.high.high⟩ from rfl,BP h0,List.flatMap_cons]
  exact fun x=>Cc9 l (p++[e.high.low]) (fun y a=>h y (List.mem_cons_of_mem _ a)) (List.append_eq_nil_iff.1 x).1
def fz (u:ak)(n:Int):ak:=⟨u.bE,n,u.aN,u.ay,[],u.aE,u.told⟩
theorem Lf {n m:Nat}:kG n m=1↔n=m:=by
 unfold kG;by_cases c:n=m
 ·simp[c]
 ·rw[if_neg c];by_cases d:n=0
  ·rw[if_pos d];constructor
   ·intro h;exact absurd h (by decide)
   ·intro h;exact absurd h c
  ·rw[if_neg d];constructor
   ·intro h;exact absurd h (by decide)
   ·intro h;exact absurd h c
section
variable {u : ak} (F : Fit u) {n : Int} (h0 : 0 ≤ n) (h1 : n ≤ 60)
include F h0 h1
theorem tQ:Fit (fz u n):=
 ⟨F.bE,⟨h0,h1⟩,F.den,F.num,F.ay,F.kz,F.xb,by show (0:Nat)<=3;omega,fun i x a=>by simp[fz] at a,F.aE,F.aW,F.told,F.qh⟩
theorem Lg:gV (fz u n)=gV u:=by
 unfold gV;rw[show (fz u n).bI=n from rfl,xH h0 h1,xH F.bI.1 F.bI.2];rfl
theorem Lh (h:eX u=some 0):eX (fz u n)=some 0:=
 HS (u:=fz u n) (by rw[Lg F h0 h1];exact HR h) (tQ F h0 h1)
omit F h0 h1 in
theorem Li (ht:u.told=[]):bQ (fz u n)=bQ u:=by
 unfold bQ;refine List.filter_congr fun h _=>?_;unfold eZ;rw[show (fz u n).told=u.told from rfl,ht];rfl
theorem Lj {s:aU}(hs:Bd s):fh (fz u n) s=bh u.aN (kE (cH ⟨n,1⟩ (cD u s).2)):=by
 rw[Ie (tQ F h0 h1) hs,HQ (tQ F h0 h1) hs rfl];rfl
omit h0 h1 in
theorem Dn (ht:u.told=[]):bQ u≠[]:=by
 have a:bQ u=dM [] u.aE:=by
  unfold bQ;refine List.filter_eq_self.2 fun h _=>?_;unfold eZ;rw[ht];rfl
 rw[a];refine Cc9 u.aE [] fun e he=>?_;obtain ⟨i,hi⟩:=List.mem_iff_getElem?.1 he;exact (F.aW i e hi).2.2.1
theorem Ll (h:eX u=some 0)(ht:u.told=[]):∃w,iu (fz u n)=some (w,0)/\
  (w=1↔∀i e m,u.aE[i]?=some e->m∈dN u i e->bh (e5 (cD u ⟨e.back,m⟩).2 u.aN) ⟨n,1⟩=false/\bh ⟨n,1⟩ (cH (cD u ⟨e.back,m⟩).2 u.aN)=false):=by
 have aF:=Dn F ht
 have c:=xF (tQ F h0 h1) (Lh F h0 h1 h)
 rw[Li ht] at c
 have hs:(bQ u).isEmpty=false:=by
  cases e:bQ u with
  |nil=>exact absurd e aF
  |cons a l=>rfl
 rw[hs] at c
 refine ⟨_,c,?_⟩
 rw[Lf,List.countP_eq_length]
 have one:∀i e m,u.aE[i]?=some e->m∈dN u i e->(fh (fz u n) ⟨e.back,m⟩=false↔(bh (e5 (cD u ⟨e.back,m⟩).2 u.aN) ⟨n,1⟩=false/\bh ⟨n,1⟩ (cH (cD u ⟨e.back,m⟩).2 u.aN)=false)):=fun i e m he hm=>by
  have hb:Bd ⟨e.back,m⟩:=oC F he hm
  rw[Lj F h0 h1 hb,within (n6 F hb).den.1 (by have:=F.den;omega) F.num.1,Bool.or_eq_false_iff]
 constructor
 ·intro a i e m he hm
  obtain ⟨l,b,hg⟩:=(ta F aF he).1 hm
  have:=a l b
  unfold jg at this
  rw[List.all_eq_true] at this
  have:=this i (by rw[List.mem_range];exact (List.getElem?_eq_some_iff.1 he).1)
  rw[hg] at this
  refine (one i e m he hm).1 ?_
  rw[show eO (fz u n) i ((some m).getD 0)=⟨e.back,m⟩ from oD (u:=fz u n) he m] at this
  simpa using this
 ·intro a l b
  unfold jg
  rw[List.all_eq_true]
  intro i hi
  have hi:i<u.aE.length:=by simpa [fz] using hi
  have he:u.aE[i]?=some u.aE[i]:=List.getElem?_eq_getElem hi
  obtain ⟨m,hm,-,-⟩:=(xD b).1.s5 i _ he
  have d:m∈dN u i u.aE[i]:=(ta F aF he).2 ⟨l,b,hm⟩
  rw[hm,show eO (fz u n) i ((some m).getD 0)=⟨u.aE[i].back,m⟩ from oD (u:=fz u n) he m,(one i _ m he d).2 (a i _ m he d)]
  rfl
end
theorem Lm {u:ak}(F:Fit u)(h:eX u=some 0)(ht:u.told=[]){n:Int}(h0:0<=n)(h1:n<=60):
  ∃w,iu (fz u n)=some (w,0)/\((jG u=some (⟨0,0⟩,⟨0,0⟩,false,0)/\w≠1)\/
   ∃low high,jG u=some (low,high,true,0)/\(Sm low 100000000 100000/\Lw low)/\(Sm high 100000000 100000/\Lw high)/\bh high low=false/\(w=1↔bh ⟨n,1⟩ low=false/\bh high ⟨n,1⟩=false)):=by
 obtain ⟨w,hw,hg⟩:=Ll F h0 h1 h ht
 refine ⟨w,hw,?_⟩
 have o:0<u.aN.den:=by have:=F.den;omega
 rcases K8 F h with ⟨c,-⟩|⟨-,M,m,⟨i1,e1,n1,a1,b,rfl⟩,⟨i2,e2,n2,a2,b2,rfl⟩,p,d⟩
 ·have:=Dn F ht
  rw[List.isEmpty_iff] at c
  exact absurd c this
 have s1:=qC F (s:=⟨e1.back,n1⟩) (oC F a1 b)
 have s2:=qC F (s:=⟨e2.back,n2⟩) (oC F a2 b2)
 have f:=Dc F (s:=⟨e1.back,n1⟩) (oC F a1 b)
 have dl:=yC s1.1 f
 have j:=Dk s2.1 f
 have one:(0:Int)<(⟨n,1⟩:an).den:=by show (0:Int)<1;decide
 cases g:bh (e5 (cD u ⟨e2.back,n2⟩).2 u.aN) (cH (cD u ⟨e1.back,n1⟩).2 u.aN) with
 |true=>
  rw[g,if_pos rfl] at d
  refine .inl ⟨d,fun c=>?_⟩
  have k1:=hg.1 c i2 e2 n2 a2 b2
  have k:=hg.1 c i1 e1 n1 a1 b
  have:=kC j.1.den.1 one dl.1.den.1 k1.1 k.2
  rw[g] at this;cases this
 |false=>
  rw[g,if_neg (by decide)] at d
  refine .inr ⟨_,_,d,⟨dl.1.mono (by decide) (by decide),dl.2⟩,⟨j.1.mono (by decide) (by decide),j.2⟩,g,?_⟩
  rw[hg]
  constructor
  ·intro a
   exact ⟨(a i1 e1 n1 a1 b).2,(a i2 e2 n2 a2 b2).1⟩
  ·rintro ⟨k,k1⟩ i e x he l
   have hb:=oC F he l
   obtain ⟨c1,c2⟩:=p i e x he l
   exact Ld (qC F (s:=⟨e.back,x⟩) hb).1.den.1 s1.1.den.1 s2.1.den.1 o c1 c2 k1 k
theorem Ln (u:ak)(a:Int)(f:0<=a/\a<=255):tO u a=some true:=by
 unfold tO;generalize g:(⟨u.bE,u.bI,u.aN,u.ay,u.props,u.aE,([]:(List bO))⟩:ak)=o;have ht:o.told=[]:=by rw[<-g]
 rcases KQ o with k|⟨k,L,h,F⟩
 ·simp only[k,ag,Bool.not_false,cond_true,tN]
 have t1:=KS (a:=a) (b:=61) f.1 (by decide);have c:iS (IntKind.i64.wrap a) 61=some (a.tmod 61):=by rw[cX (by omega)];exact KR (by decide)
 generalize a.tmod 61=n at c t1;obtain ⟨w,hw,i⟩:=Lm F h ht (n:=n) t1.1 (by omega);have d:sJ o n=some (fz o n):=rfl;rcases i with ⟨e,aF⟩|⟨low,high,e,⟨sl,j⟩,⟨sh,l⟩,m,p⟩
 ·have:(w==1)=false:=by rw[beq_eq_false_iff_ne];exact aF
  simp only[k,ag,Bool.not_true,cond_false,e,c,d,hw,this,tN];rfl
 ·have q:=Db (sl.mono (by decide) (by decide)) j;have r:=Db (sh.mono (by decide) (by decide)) l;have s:gA high low=some false:=(kA sh sl (by decide) (by decide)).1.trans (congrArg some m);have t:Sm (⟨n,1⟩:an) 100000000 100000:=⟨by show n.natAbs<=100000000;omega,by show (0:Int)<1;decide,by show (1:Int)<=((100000:Nat):Int);decide⟩
  have v:=KT t sl sh (by decide);have x:(w==1)=(!bh ⟨n,1⟩ low&&!bh high ⟨n,1⟩):=by
   rw[Bool.eq_iff_iff,beq_iff_eq,p];simp
  simp only[k,ag,Bool.not_true,cond_false,e,c,d,hw,bne_self_eq_false,cond_true,q,r,s,show fK n 1=some ⟨n,1⟩ from rfl,v,x,beq_self_eq_true,tN]
end Go.Proofs.YtpgcmoanfifglaaGreatDoor
end

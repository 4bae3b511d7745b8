/- A part of the proof: QS12. -/
import Derived.Test.YtbpddfapodiemaaGreatDoorQS11
set_option linter.all false
section
namespace Go.Proofs.YtbpddfapodiemaaGreatDoor
open Go Go.Sep Go.Proofs
def vK (u0:an)(f:(List Int))(a:Int):Option Bool:=
 ai (nL u0) fun q=>cond (q) (ai (oz) fun r=>some r) (cond (decide (20<(f.length:Int))) (ai (oz) fun s=>some s) (ai (mo u0 f) fun g=>ai (pU u0 f) fun h=>ai (mh u0) fun i=>ai (rT u0) fun j=>ai (jJ u0 a) fun k=>ai (rU u0 a) fun l=>cond (!(g.1==h.1)) (some false) (cond ((g.2 != h.2)) (some false) (cond ((i.1 != j.1)) (some false) (cond ((i.2 != j.2)) (some false) (ai (o8 k.1 l.1) fun t=>cond (!t) (some false) (cond ((k.2 != l.2)) (some false) (ai (k8 u0 a) fun b=>ai (rV u0 a) fun c=>ai (k7 u0 a) fun m=>ai (rW u0 a) fun n=>cond (!((b.1.num==c.1.num)&&(b.1.den==c.1.den))) (some false) (cond (!((b.2.1.num==c.2.1.num)&&(b.2.1.den==c.2.1.den))) (some false) (cond ((b.2.2 != c.2.2)) (some false) (cond ((m.1 != n.1)) (some false) (cond ((m.2 != n.2)) (some false) (ai (ku u0) fun o=>ai (rY u0) fun p=>ai (kz u0) fun d=>ai (rZ u0) fun e=>cond ((o.1==p.1)) (cond ((o.2==p.2)) (cond ((d.1==e.1)) (cond (((d.2.1.num==e.2.1.num)&&(d.2.1.den==e.2.1.den))) (cond ((d.2.2==e.2.2)) (ai (oz) fun u=>some u) (some false)) (some false)) (some false)) (some false)) (some false))))))))))))))
end Go.Proofs.YtbpddfapodiemaaGreatDoor
end
section
namespace Go.Proofs.YtbpddfapodiemaaGreatDoor
open Go Go.Sep Go.Proofs
set_option maxRecDepth 100000
set_option maxHeartbeats 4000000
theorem My {ro:Addr->Option Value}(b:dM ro)(u0:an){s1 j k l:Value}(a:bO ro u0 s1 j k l)(d:(List Int)){m:Value}(f:aI rI ro m d)(c:Int){r:Bool}(I:r=true)(h:vK u0 d c=some r):m9 Tryz.prog 4 #[bv u0 s1 j k l,m,.int .i64 c] ⟨ro,[]⟩ (fun v _=>v= .bool r):=by
 obtain ⟨d31,b5,rfl,ca,cb,-⟩:=id f;subst I;unfold vK at h;have J:=a.oc;simp only[bV] at J;refine m9.go Tryz.func4 rfl Tryz.ntmps4 Tryz.results4 (by simp) (by kernel_rfl) fun Φ hJ A K hd hs=>?_;have L:=hs 0;have k1:=hs 1;have M:=hs 2;clear hs;apply aC hJ;simp only[*,go_sem];refine az fun cd cf N=>?_;try simp only[av] at N
 try simp only[*,go_sem]
 refine ah hJ (aC hJ ?_);revert h;refine bS fun cl O h=>?_;simp only[*,go_sem];refine bf hJ _ (IV u0 (a.mono aZ) O) (aP ?_);revert h;refine cS (fun P h=>?_) fun P h=>?_
 .try simp only[*,go_sem]
  refine cJ hJ ?_;apply aC hJ;revert h;refine bS fun cy Q h=>?_;cases h;simp only[*,go_sem];refine wU _ (Aa b Q) (aP ?_);try simp only[*,go_sem]
  apply aQ;simp only[*,go_sem]
 try simp only[*,go_sem]
 revert h;refine aT hJ (fun R h=>?_) fun R h=>?_
 .apply aC hJ;revert h;refine bS fun c0 S h=>?_;cases h;simp only[*,go_sem];refine wU _ (Aa b S) (aP ?_);try simp only[*,go_sem]
  apply aQ;simp only[*,go_sem]
 refine aO hJ (ah hJ ?_);apply aR hJ;revert h;refine bS fun da T h=>?_;simp only[*,go_sem];refine bf hJ _ (Ji (b.mono aZ) u0 (a.mono aZ) d (f.mono aZ) T) (aP ?_);try simp only[*,go_sem]
 apply aC hJ;revert h;refine bS fun db U h=>?_;simp only[*,go_sem];refine bf hJ _ (I5 u0 (a.mono aZ) d (f.mono aZ) U) (aP ?_);try simp only[*,go_sem]
 apply aC hJ;revert h;refine bS fun dd V h=>?_;simp only[*,go_sem];refine bf hJ _ (Cn (b.mono aZ) u0 (a.mono aZ) V) (aP ?_);try simp only[*,go_sem]
 apply ah hJ;refine e8 [2,3,6,7,8,9,10,11,12] fun df n o p=>?_;simp only[*,go_sem] at n o p;clear K hd L k1 M;apply aR hJ;revert h;refine bS fun dk W h=>?_;simp only[*,go_sem];refine bf hJ _ (I6 u0 (a.mono aZ) W) (aP ?_);try simp only[*,go_sem]
 apply aC hJ;revert h;refine bS fun X Y h=>?_;simp only[*,go_sem];refine cm hJ _ (uJ b u0 a c Y) fun v dp q Z g=>?_;obtain ⟨dq,rfl,e⟩:=g;replace a:=a.mono q;replace b:=b.mono q;simp only[bE] at Z;obtain ⟨d61,ds,rfl,dt,du,-⟩:=id e;apply aP;try simp only[*,go_sem]
 apply aC hJ;revert h;refine bS fun ab ad h=>?_;simp only[*,go_sem];refine cm hJ _ (I7 u0 a c ad) fun v dv i ae g=>?_;obtain ⟨dC,rfl,s⟩:=g;replace a:=a.mono i;replace e:=e.mono i;replace b:=b.mono i;simp only[bE] at ae;obtain ⟨d73,dE,rfl,dT,ea,-⟩:=id s;apply aP;try simp only[*,go_sem]
 refine ah hJ (aC hJ ?_);revert h;refine cS (fun t h=>?_) fun t h=>?_
 .cases h
 rw[Bool.not_eq_false'] at t;revert h;refine cS (fun al h=>?_) fun al h=>?_
 .cases h
 revert h;refine cS (fun ao h=>?_) fun ao h=>?_
 .cases h
 revert h;refine cS (fun ar h=>?_) fun ar h=>?_
 .cases h
 revert h;refine bS fun eb a0 h=>?_;try simp only[*,go_sem]
 refine bf hJ _ (B5 X.1 (e.mono aZ) ab.1 (s.mono aZ) a0) (aP ?_);revert h;refine cS (fun u h=>?_) fun u h=>?_
 .cases h
 rw[Bool.not_eq_false'] at u;try simp only[*,go_sem]
 revert h;refine aT hJ (fun a2 h=>?_) fun a2 h=>?_
 .cases h
 refine aO hJ (ah hJ ?_);refine e8 [2,3,6,8,10,11,12,13,14] fun ec w x y=>?_;simp only[*,go_sem] at w x y;clear n o p;apply aR hJ;revert h;refine bS fun ed a3 h=>?_;simp only[*,go_sem];refine bf hJ _ (Cm (b.mono aZ) u0 (a.mono aZ) c a3) (aP ?_);try simp only[*,go_sem]
 refine az fun eh et a4=>?_;try simp only[av] at a4
 refine az fun ev eQ a5=>?_;try simp only[av] at a5
 try simp only[*,go_sem]
 apply aC hJ;revert h;refine bS fun eS a6 h=>?_;simp only[*,go_sem];refine bf hJ _ (I8 u0 (a.mono aZ) c a6) (aP ?_);try simp only[*,go_sem]
 refine az fun e0 e1 a7=>?_;try simp only[av] at a7
 refine az fun e2 e3 a8=>?_;try simp only[av] at a8
 try simp only[*,go_sem]
 apply aC hJ;revert h;refine bS fun fa a9 h=>?_;simp only[*,go_sem];refine bf hJ _ (yh (b.mono aZ) u0 (a.mono aZ) c a9) (aP ?_);try simp only[*,go_sem]
 apply ah hJ;refine e8 [2,3,6,8,10,11,12,13,14,19,20,21,22,23] fun fb z B C=>?_;simp only[*,go_sem] at z B C;clear w x y;apply aR hJ;revert h;refine bS fun fg ba h=>?_;simp only[*,go_sem];refine bf hJ _ (I9 u0 (a.mono aZ) c ba) (aP ?_);try simp only[*,go_sem]
 refine ah hJ (aC hJ ?_);revert h;refine cS (fun D h=>?_) fun D h=>?_
 .cases h
 rw[Bool.not_eq_false'] at D;revert h;refine cS (fun E h=>?_) fun E h=>?_
 .cases h
 rw[Bool.not_eq_false'] at E;revert h;refine cS (fun bb h=>?_) fun bb h=>?_
 .cases h
 revert h;refine cS (fun bc h=>?_) fun bc h=>?_
 .cases h
 try simp only[*,go_sem]
 revert h;refine aT hJ (fun bd h=>?_) fun bd h=>?_
 .cases h
 refine aO hJ (ah hJ ?_);refine e8 [3,6,8,10,11,12,13,14,20,22,23,24] fun fi F G H=>?_;simp only[*,go_sem] at F G H;clear z B C;apply aR hJ;revert h;refine bS fun fp bj h=>?_;simp only[*,go_sem];refine bf hJ _ (rF (b.mono aZ) u0 (a.mono aZ) bj) (aP ?_);try simp only[*,go_sem]
 apply aC hJ;revert h;refine bS fun fr bk h=>?_;simp only[*,go_sem];refine bf hJ _ (Jb u0 (a.mono aZ) bk) (aP ?_);try simp only[*,go_sem]
 apply aC hJ;revert h;refine bS fun fs bl h=>?_;simp only[*,go_sem];refine bf hJ _ (yB (b.mono aZ) u0 (a.mono aZ) bl) (aP ?_);try simp only[*,go_sem]
 apply aC hJ;revert h;refine bS fun ft bm h=>?_;simp only[*,go_sem];refine bf hJ _ (Jc u0 (a.mono aZ) bm) (aP ?_);try simp only[*,go_sem]
 apply ah hJ;refine e8 [6,8,10,11,12,13,14,20,22,23,24] fun fu bo br bs=>?_;simp only[*,go_sem] at bo br bs;clear F G H;apply aR hJ;revert h;refine cS (fun bz h=>?_) fun bz h=>?_
 .revert h;refine cS (fun b0 h=>?_) fun b0 h=>?_
  .revert h;refine cS (fun b1 h=>?_) fun b1 h=>?_
   .revert h;refine cS (fun b2 h=>?_) fun b2 h=>?_
    .revert h;refine cS (fun b3 h=>?_) fun b3 h=>?_
     .revert h;refine bS fun fv b4 h=>?_;cases h;(try simp only[*,go_sem]);refine wU _ (Aa b b4) (aP ?_);(try simp only[*,go_sem]);apply aQ;simp only[*,go_sem]
     cases h
    cases h
   cases h
  cases h
 cases h
theorem Mz {u:an}(h:nL u=some false):sw u:=by
 unfold nL at h;rcases jz h with ⟨a,h⟩|⟨a,h⟩
 .cases h
 rcases jz h with ⟨b,h⟩|⟨b,h⟩
 .cases h
 rcases jz h with ⟨c,h⟩|⟨c,h⟩
 .cases h
 have d:=Option.some.inj h;simp only[decide_eq_false_iff_not] at a b c d;exact ⟨aa,aa,aa,aa⟩
theorem MA (u:an):∃b,nL u=some b:=by
 unfold nL;cases decide (20<(u.aK.length:Int))<;>cases decide (20<(u.props.length:Int))<;>cases decide (20<(u.aH.length:Int))<;>exact ⟨_,rfl⟩
theorem EU {a b:au}{A B C D:Nat}(c:Sm a A B)(hb:Sm b C D):Sm (jf a b) (A*D+C*B) (B*D)/\∃n d,0<d/\jf a b=bP n d:=by
 have e:=dX c.num (show b.den.natAbs<=D by have:=hb.den;omega);have f:=dX hb.num (show a.den.natAbs<=B by have:=c.den;omega);have g:=dX (show a.den.natAbs<=B by have:=c.den;omega) (show b.den.natAbs<=D by have:=hb.den;omega);have h:0<a.den*b.den:=Int.mul_pos c.den.1 hb.den.1;have:=jK (a.num*b.den - b.num*a.den) (a.den*b.den).toNat aa;refine ⟨?_,_,_,aa,rfl⟩;unfold jf;exact ⟨Nat.le_trans this.num aa,this.den.1,by have:=this.den.2;omega⟩
theorem EV {α ρ:Type}:∀(l:List α) (i:Nat),fJ (fun _ _=>(none:Option ρ)) i l=none
 |[],_=>rfl
 |x::l,i=>by unfold fJ;exact EV l (i+1)
section
variable {u:an}{s:bx}(F:Fit u)(hs:(1<=s.back/\s.back<=20)/\0<=s.high/\s.high<=60)
include F hs
theorem EW:Sm (eH u s).2 10000 100/\∃n d,0<d/\(eH u s).2=bP n d:=by
 obtain ⟨n,p,e,a,-⟩:=JZ F hs;have b:=F.ob n p a;rw[e];exact ⟨CQ u F s hs n p a,_,_,aa,rfl⟩
theorem EX:Sm (jf ⟨u.b6,1⟩ (eH u s).2) 16000 100/\∃n d,0<d/\jf ⟨u.b6,1⟩ (eH u s).2=bP n d:=by
 obtain ⟨a,b⟩:=EU (si F hs) (EW F hs).1;exact ⟨a.mono aB aB,b⟩
end
abbrev Lw (x:au):Prop:=∃n d,0<d/\x=bP n d
theorem Lw.more {a b:au}(c:Lw a)(hb:Lw b):Lw (cG a b):=by
 unfold cG;cases bN a b;exact c;exact hb
theorem EY:Lw ⟨0,1⟩:=⟨0,1,aB,aB⟩
section
variable {u:an}{s:bx}(F:Fit u)(hs:(1<=s.back/\s.back<=20)/\0<=s.high/\s.high<=60)
include F hs
theorem MB:Sm (om u s) 10000 100:=by
 unfold om;cases bN (eH u s).2 ⟨u.b6,1⟩
 .exact (EW F hs).1
 .exact (si F hs).mono aB aB
theorem vL:Sm (eP u s) 300000000 800000/\Lw (eP u s):=by
 obtain ⟨a,b⟩:=EU (MB F hs) (DJ F hs);unfold eP;refine ⟨?_,Lw.more b EY⟩;have z:Sm (⟨0,1⟩:au) 300000000 800000:=⟨aB,aB,aB⟩
 have c:=a.mono (show _<=300000000 by decide) (show _<=800000 by decide);unfold cG;cases bN (jf (om u s) (sC u s)) ⟨0,1⟩
 .exact c
 .exact z
end
def c7 (u:an)(s:bx):au:=jf ⟨u.b6,1⟩ (eH u s).2
def gL (a b:au):au:=cond (bN b a) b a
section
variable {u:an}{s:bx}(F:Fit u)(hs:(1<=s.back/\s.back<=20)/\0<=s.high/\s.high<=60)
include F hs
theorem EZ:nv u s=some (c7 u s):=by
 obtain ⟨r,k1,a⟩:=CX F hs;obtain ⟨c,-,e2,d,b⟩:=se F hs;unfold nZ at a;rw[b] at a;simp only[ai,DH (vi F hs) (u9 F hs)] at a;rw[k1,<-a];rfl
theorem oA:SR (c7 u s):=(EX F hs).1.mono aB aB
end
section
variable {u:an}(F:Fit u)(h:fN u = some 0){i:Nat}{e:cu}(he:u.aH[i]? = some e)
include F h he
theorem Ab:fo u [e9 (i:Int)]=some (u,0):=by
 have hi:i<u.aH.length:=(List.getElem?_eq_some_iff.1 he).1;rw[u5 h (zb u i),(Dm F).2 ⟨aa,aa⟩];rfl
theorem E0:jJ u (i:Int)=some (if (bF u).isEmpty then ([],9) else (dm u i e,0)):=by
 unfold jJ;rw[oe F (Ab F h he)];cases hs:(bF u).isEmpty with
 |true=>rfl
 |false=>
  simp only[ai,Bool.false_eq_true,if_false,bne_self_eq_false,cond_false];rw[zk F (by intro c;rw[c] at hs;cases hs) he]
omit h in
theorem iz {n:Int}(a:n∈dm u i e):(1<=e.back/\e.back<=20)/\0<=n/\n<=60:=by
 obtain ⟨c1,c2,c3,c4,b⟩:=F.bA _ _ he;have:=y6.1 (List.mem_filter.1 a).1;exact ⟨c1,aa,aa⟩
theorem MC:k7 u (i:Int)=some (if (bF u).isEmpty then (0,9) else (p9 ((bF u).countP fun l=>dy u (cT u i (l[i]?.getD 0))) (bF u).length,0)):=by
 have c:=(jN F).2;have hi:i<u.aH.length:=(List.getElem?_eq_some_iff.1 he).1;have d:=F.aH;unfold k7;rw[oe F (Ab F h he)];simp only[ai];cases hs:(bF u).isEmpty with
 |true=>rfl
 |false=>
  simp only[Bool.false_eq_true,if_false];rw[show ((0:Int) != 0)=false by decide];simp only[cond_false];have one:∀y,y∈bF u->j9 (cA y) ⟨u,(bF u).map cA⟩ (i:Int)=some (dy u (cT u i (y[i]?.getD 0))):=fun y a=>by
   obtain ⟨m,hm,hs,hb⟩:=lD F he a;have hg:bp.get (cA y) (i:Int)=some m:=so aa aa (by simpa using hm);unfold j9 ij;simp only[hg,ai,eo he,(mz F (s:=⟨e.back,m⟩) hb).1,hs]
  have key:∀x,x∈(bF u).map cA->j9 x ⟨u,(bF u).map cA⟩ (i:Int)=some ((j9 x ⟨u,(bF u).map cA⟩ (i:Int)).getD false):=fun x b=>by
   rw[List.mem_map] at b;obtain ⟨y,a,rfl⟩:=b;rw[one y a];rfl
  rw[DT (k:=⟨u,(bF u).map cA⟩) (g:=fun x=>(j9 x ⟨u,(bF u).map cA⟩ (i:Int)).getD false) (by simp;omega) key];simp only[List.countP_map,List.length_map];have e:(bF u).countP ((fun x=>(j9 x ⟨u,(bF u).map cA⟩ (i:Int)).getD false) ∘ cA)=(bF u).countP (fun l=>dy u (cT u i (l[i]?.getD 0))):=List.countP_congr fun y a=>by
   simp only[Function.comp];rw[one y a];rfl
  rw[e]
omit h in
theorem MD (aN:bF u≠[]):bU (pF (i:Int) (⟨u,(bF u).map cA⟩,0)) 0 (dm u i e) []=some (.nx ((dm u i e).map fun n=>c7 u ⟨e.back,n⟩)):=by
 have hlen:(dm u i e).length<=3:=by
  obtain ⟨c,T,h,b,d⟩:=sx F aN he;rw[d,List.length_map];exact (vh b).2
 have key:=jd (f:=pF (i:Int) (⟨u,(bF u).map cA⟩,0)) (g:=fun _ n (s:List au)=>s++(fun n:Int=>[c7 u ⟨e.back,n⟩]) n) (I:=fun j s=>s.length<=j/\j<=3) (dm u i e) 0 [] ⟨ax,aa⟩
  (fun j n s a k=>by
   have l:j<(dm u i e).length:=(List.getElem?_eq_some_iff.1 a).1;have hb:=iz F he (List.mem_of_getElem? a);refine ⟨?_,?_⟩
   .unfold pF ij;simp only[ai,eo he,EZ F (s:=⟨e.back,n⟩) hb];unfold dc;rw[if_pos (by simp;omega)]
   .simp only[List.length_append,List.length_singleton];omega)
 rw[key.1,su,List.nil_append,zi]
theorem ME:∀(l:List au) (a:au),SR a->(∀x,x∈l->SR x)->gF eZ a l=some (foldI (fun _ y st=>cG st y) 0 l a):=fun l a d e=>by
 unfold gF
 rw[(jd (f:=k5 eZ) (ρ:=au) (g:=fun _ y st=>cG st y) (I:=fun _ st=>SR st) l 0 a d fun j x st h b=>by
  have c:=e x (List.mem_of_getElem? h)
  refine ⟨?_,lA b c⟩
  unfold k5
  simp only[(jL b c).2,ai]
  unfold cG
  cases bN st x<;>rfl).1]
 rfl
theorem MF:∀(l:List au) (a:au),SR a->(∀x,x∈l->SR x)->gF nj a l=some (foldI (fun _ y st=>gL st y) 0 l a):=fun l a d e=>by
 unfold gF
 rw[(jd (f:=k5 nj) (ρ:=au) (g:=fun _ y st=>gL st y) (I:=fun _ st=>SR st) l 0 a d fun j x st h b=>by
  have c:=e x (List.mem_of_getElem? h)
  refine ⟨?_,by unfold gL;cases bN x st;exact b;exact c⟩
  unfold k5 nj
  simp only[(jL c b).2,ai]
  unfold gL
  cases bN x st<;>rfl).1]
 rfl
theorem MG (hs:(bF u).isEmpty=false):∃a l,(dm u i e).map (fun n=>c7 u ⟨e.back,n⟩)=a::l/\k8 u (i:Int)=some (foldI (fun _ y st=>gL st y) 0 l a,foldI (fun _ y st=>cG st y) 0 l a,0):=by
 have aN:bF u≠[]:=by intro c;rw[c] at hs;cases hs
 unfold k8;rw[oe F (Ab F h he),hs];simp only[ai,Bool.false_eq_true,if_false,bne_self_eq_false,cond_false];rw[zk F aN he];simp only[MD F he aN,aG];have b:∀x,x∈(dm u i e).map (fun n=>c7 u ⟨e.back,n⟩)->SR x:=fun x d=>by
  rw[List.mem_map] at d;obtain ⟨n,j,rfl⟩:=d;exact oA F (iz F he j)
 have f:(dm u i e).map (fun n=>c7 u ⟨e.back,n⟩)≠[]:=by
  obtain ⟨c,T,m,g,k⟩:=sx F aN he;have:=(vh g).1;intro hc;have:=congrArg List.length hc;rw[List.length_map,k,List.length_map] at this;simp at this;rw[this] at g;revert g;decide
 revert b f;generalize (dm u i e).map (fun n=>c7 u ⟨e.back,n⟩)=L;intro b f
 match L,f with
 |a::l,_=>
  have y:jA (a::l) 1 (((a::l).length:Nat):Int)=some l:=by
   unfold jA;rw[if_pos (by simp only[List.length_cons];omega)];simp
  simp only[show bt (a::l) 0=some a from rfl,y,ME F h he l a (b a ax) (fun x d=>b x (by simp[d])),MF F h he l a (b a ax) (fun x d=>b x (by simp[d]))];exact ⟨a,l,rfl,rfl⟩
end
abbrev Bd (s:bx):Prop:=(1<=s.back/\s.back<=20)/\0<=s.high/\s.high<=60
def wG (u:an)(i:Nat)(n:Int)(st:Int×au):Int×au:=
 cond (dy u (cT u i n)) (cond (bN st.2 (eP u (cT u i n))) ((i:Int),eP u (cT u i n)) st) st
def Ws (u:an)(D:Nat->Int->Prop)(st:Int×au):Prop:=
 (st.1= -1/\st.2=⟨0,1⟩/\∀i n,D i n->dy u (cT u i n)=false)\/
 ∃j n,D j n/\st.1=(j:Nat)/\st.2=eP u (cT u j n)/\dy u (cT u j n)=true/\
  ∀i m,D i m->dy u (cT u i m)=true->bN st.2 (eP u (cT u i m))=false/\(i<j->bN (eP u (cT u i m)) st.2=true)
section
variable {u:an}(F:Fit u)
include F
theorem qq {s:bx}(hs:Bd s):0<(eP u s).den:=(vL F hs).1.den.1
theorem MH {s:bx}(hs:Bd s)(h:dy u s=true):bN ⟨0,1⟩ (eP u s)=true:=by
 rw[J9 F hs] at h;have:=F.num;have hd:=F.den;have b:=qq F hs;unfold bN at*;simp only[decide_eq_true_eq,Int.zero_mul,Int.mul_one] at*;have c:0<=u.bw.num*(eP u s).den:=Int.mul_nonneg this.1 aa;have a:0<(eP u s).num*u.bw.den:=aa;exact Int.pos_of_mul_pos_left a aa
theorem E1 {k:Nat}{n:Int}{D:Nat->Int->Prop}(f:∀i m,D i m->i<=k/\Bd (cT u i m))(hb:Bd (cT u k n)){st:Int×au}(W:Ws u D st):Ws u (fun i m=>D i m\/(i=k/\m=n)) (wG u k n st):=by
 unfold wG;cases hs:dy u (cT u k n) with
 |false=>
  simp only[cond_false];rcases W with ⟨w1,w2,w3⟩|⟨j,m,w1,w2,w3,w4,e⟩
  .exact .inl ⟨w1,w2,fun i m h=>by rcases h with h|⟨rfl,rfl⟩;exact w3 i m h;exact hs⟩
  .exact .inr ⟨j,m,.inl w1,w2,w3,w4,fun i d h a=>by
    rcases h with h|⟨rfl,rfl⟩
    .exact e i d h a
    .rw[hs] at a;cases a⟩
 |true=>
  simp only[cond_true];have key:bN st.2 (eP u (cT u k n))=true->(∀i m,D i m->dy u (cT u i m)=true->bN st.2 (eP u (cT u i m))=false)->0<st.2.den->Ws u (fun i m=>D i m\/(i=k/\m=n)) ((k:Int),eP u (cT u k n)):=fun b g l=>
   .inr ⟨k,n,.inr ⟨rfl,rfl⟩,rfl,rfl,hs,fun i m h a=>by
    rcases h with h|⟨rfl,rfl⟩
    .have hi:=f i m h;exact ⟨yX (qq F hi.2) l (qq F hb) (g i m h a) b,fun _=>zl (qq F hi.2) l (qq F hb) (g i m h a) b⟩
    .exact ⟨gZ _,fun c=>absurd c aa⟩⟩
  rcases W with ⟨w1,w2,w3⟩|⟨j,m,w1,w2,w3,w4,e⟩
  .have b:bN st.2 (eP u (cT u k n))=true:=by rw[w2];exact MH F hb hs
   rw[b];refine key b (fun i m h a=>?_) (by rw[w2];decide);rw[w3 i m h] at a;cases a
  .cases b:bN st.2 (eP u (cT u k n)) with
   |true=>exact key b (fun i d h a=>(e i d h a).1) (by rw[w3];exact qq F (f j m w1).2)
   |false=>
    refine .inr ⟨j,m,.inl w1,w2,w3,w4,fun i d h a=>?_⟩;rcases h with h|⟨rfl,rfl⟩
    .exact e i d h a
    .exact ⟨b,fun c=>absurd (f j m w1).1 aa⟩
omit F in
theorem mL {D E:Nat->Int->Prop}{st:Int×au}(h:∀i m,D i m↔E i m)(W:Ws u D st):Ws u E st:=by
 have:D=E:=by funext i m;exact propext (h i m)
 rw[<-this];exact W
omit F in
theorem lO {i:Nat}{e:cu}(he:u.aH[i]?=some e)(n:Int):cT u i n=⟨e.back,n⟩:=by unfold cT;rw[he];rfl
def gN (u:an)(k:Nat)(i:Nat)(m:Int):Prop:=i<k/\∃e,u.aH[i]?=some e/\m∈dm u i e
theorem vM {st:Int×au}{D:Nat->Int->Prop}(a:∀i m,D i m->Bd (cT u i m))(W:Ws u D st):Sm st.2 300000000 800000/\Lw st.2:=by
 rcases W with ⟨w1,w2,w3⟩|⟨j,m,w1,w2,w3,w4,b⟩
 .rw[w2];exact ⟨⟨aB,aB,aB⟩,EY⟩
 .rw[w3];exact vL F (a j m w1)
omit F in
theorem oB {α:Type}{l:List α}{j:Nat}{x y:α}(h:l[j]?=some x):y∈l.take (j+1)↔y∈l.take j\/y=x:=by
 rw[List.take_add_one,h];simp
theorem MI (aN:bF u≠[]){k:Nat}{e:cu}(he:u.aH[k]?=some e){st:Int×au}(W:Ws u (gN u k) st):
  ∃l,bU (nE (⟨u,(bF u).map cA⟩,0) k) 0 (dm u k e) (st.1,st.2)=some (.nx l)/\Ws u (gN u (k+1)) l:=by
 have t:∀i m,gN u k i m->Bd (cT u i m):=fun i m h=>by
  obtain ⟨b,o,a,d⟩:=h
  rw[lO a];exact iz F a d
 have key:=jd (f:=nE (⟨u,(bF u).map cA⟩,0) k) (ρ:=Int×au×Int) (g:=fun _ n st=>wG u k n st) (I:=fun j st=>Ws u (fun i m=>gN u k i m\/(i=k/\m∈(dm u k e).take j)) st) (dm u k e) 0 st
  (mL (fun i m=>ax) W)
  (fun j n st p q=>by
   have hm:=List.mem_of_getElem? p
   have hb:Bd ⟨e.back,n⟩:=iz F he hm
   have v:Bd (cT u k n):=by rw[lO he];exact hb
   have r:∀i m,gN u k i m\/(i=k/\m∈(dm u k e).take (0+j))->i<=k/\Bd (cT u i m):=fun i m h=>by
    rcases h with h|⟨rfl,h⟩
    .exact ⟨by have:=h.1;omega,t i m h⟩
    .exact ⟨Nat.le_refl _,by rw[lO he];exact iz F he (List.mem_of_mem_take h)⟩
   have w:=od (vM F (fun i m h=>(r i m h).2) q).1 (vL F (s:=⟨e.back,n⟩) hb).1 aB aB
   refine ⟨?_,mL (fun i m=>?_) (E1 F r v q)⟩
   .unfold nE ij
    simp only[eo he,ai,(mz F (s:=⟨e.back,n⟩) hb).1,zo F hb,w.2]
    unfold wG
    rw[lO he]
    cases dy u ⟨e.back,n⟩ with
    |false=>rfl
    |true=>
     simp only[cond_true]
     unfold bN
     cases decide (st.2.num*(eP u ⟨e.back,n⟩).den<(eP u ⟨e.back,n⟩).num*st.2.den)<;>rfl
   .rw[Nat.zero_add,oB p]
    constructor
    .rintro ((h|⟨b,a⟩)|⟨b,a⟩)
     .exact .inl h
     .exact .inr ⟨b,.inl a⟩
     .exact .inr ⟨b,.inr a⟩
    .rintro (h|⟨b,a|a⟩)
     .exact .inl (.inl h)
     .exact .inl (.inr ⟨b,a⟩)
     .exact .inr ⟨b,a⟩)
 refine ⟨_,key.1,mL (fun i m=>?_) key.2⟩
 rw[Nat.zero_add,List.take_length]
 unfold gN
 constructor
 .rintro (⟨b,a⟩|⟨rfl,h⟩)
  .exact ⟨aa,a⟩
  .exact ⟨aa,e,he,h⟩
 .rintro ⟨b,o,a,d⟩
  by_cases c:i=k
  .subst c
   rw[he] at a;cases a
   exact .inr ⟨rfl,d⟩
  .exact .inl ⟨aa,o,a,d⟩
theorem MJ (h:fN u=some 0):((bF u).isEmpty=true/\kz u=some (0,⟨0,0⟩,9))\/
  ((bF u).isEmpty=false/\∃st,kz u=some (st.1,st.2,0)/\Ws u (fun i m=>∃e,u.aH[i]?=some e/\m∈dm u i e) st):=by
 unfold kz
 rw[oe F (vf h)]
 cases hs:(bF u).isEmpty with
 |true=>exact .inl ⟨rfl,rfl⟩
 |false=>
  right
  have aN:bF u≠[]:=by intro c;rw[c] at hs;cases hs
  refine ⟨rfl,?_⟩
  simp only[ai,Bool.false_eq_true,if_false,bne_self_eq_false,cond_false]
  have key:=jd (f:=rG (⟨u,(bF u).map cA⟩,0)) (ρ:=Int×au×Int)
   (g:=fun i e st=>match bU (nE (⟨u,(bF u).map cA⟩,0) i) 0 (dm u i e) (st.1,st.2) with|some (.nx s)=>s|_=>st)
   (I:=fun i st=>Ws u (gN u i) st) u.aH 0 (-1,⟨0,1⟩) (.inl ⟨rfl,rfl,fun i n b=>absurd b.1 aa⟩)
   (fun j e st he a=>by
    rw[Nat.zero_add] at a ⊢
    obtain ⟨s1,k1,d⟩:=MI F aN he a
    simp only[k1]
    refine ⟨?_,d⟩
    unfold rG
    simp only[zk F aN he,ai,k1,aG])
  refine ⟨_,?_,mL (fun i m=>?_) key.2⟩
  .unfold gE
   simp only[key.1,aG]
  .rw[Nat.zero_add]
   unfold gN
   constructor
   .exact fun x=>x.2
   .rintro ⟨e,he,hm⟩
    exact ⟨(List.getElem?_eq_some_iff.1 he).1,e,he,hm⟩
end
section
variable {u:an}(F:Fit u)(aN:bF u ≠ [])
include F aN
theorem MK {i:Nat}{e:cu}(he:u.aH[i]?=some e):1<=(dm u i e).length/\(dm u i e).length<=3:=by
 obtain ⟨c,T,d,a,b⟩:=sx F aN he;rw[b,List.length_map];exact vh a
end
section
variable {u:an}(F:Fit u)(h:fN u = some 0)(aN:bF u ≠ [])
include F h aN
omit F h in
theorem qs:(bF u).isEmpty=false:=by
 cases e:bF u with
 |nil=>exact absurd e aN
 |cons a l=>rfl
end
theorem E2:∀(S:List (List Int)) (h:List Int),h.length=S.length->(∀(i:Nat) s,S[i]?=some s->∃n,h[i]?=some n/\n∈s)->h∈pL S
 |[],[],_,_=>by simp[pL]
 |[],_::_,a,_=>by simp at a
 |s::r,[],a,_=>by simp at a
 |s::r,n::h,a,b=>by
  obtain ⟨m,c,d⟩:=b 0 s rfl
  obtain rfl:n=m:=by simpa using c
  show n::h∈s.flatMap fun n=>(pL r).map (n::·)
  exact List.mem_flatMap.2 ⟨n,d,List.mem_map.2 ⟨h,E2 r h (by simpa using a) fun i t ht=>by
   have:=b (i+1) t (by simpa using ht)
   simpa using this,rfl⟩⟩
theorem ML {u:an}{h:List Int}(H:mA u h)(a:fO u h=true):h∈bF u:=by
 refine List.mem_filter.2 ⟨?_,a⟩;rw[zf];refine List.mem_map.2 ⟨h,E2 _ _ (by rw[List.length_map];exact H.len) fun i s hs=>?_,rfl⟩;rw[List.getElem?_map,Option.map_eq_some_iff] at hs;obtain ⟨e,he,rfl⟩:=hs;obtain ⟨n,b,c⟩:=H.sn i e he;exact ⟨n,b,y6.2 c⟩
theorem MM {f:Int->Option Bool}{g:Int->Bool}(l:List Int)(h:∀x,x∈l->f x=some (g x)):r5 l f=some (l.any g):=by
 unfold r5 uP
 rw[vc (t:=fun i x=>if g x then some (i:Int) else none) l 0 0 fun j x s a=>by
  unfold uO;rw[h x (List.mem_of_getElem? a)]
  cases g x<;>rfl]
 obtain ⟨r,b,c⟩:=y4 (g:=g) l 0;rw[b,<-c];cases r<;>rfl
def mM (u:an)(h:List Int):Int:=cond ((h.length:Int) != (u.aH.length:Int)) 2 (cond (h.any fun n=>!bX n 0 60) 1 0)
theorem MN (u v:an)(h:List Int):lz v h u=some (mM u h):=by
 unfold lz mM;cases hc:((h.length:Int) != (u.aH.length:Int)) with
 |true=>rfl
 |false=>
  simp only[cond_false];rw[MM (g:=fun n=>!bX n 0 60) h fun x _=>by unfold r4;rw[kC,fA];rfl];cases h.any (fun n=>!bX n 0 60)<;>rfl
def oC (h:List Int)(x:bp):Bool:=(x.e0==h.getD 0 0)&&((x.e1==h.getD 1 0)&&(x.e2==h.getD 2 0))
theorem Ac (h:List Int):∀l:List bp,fT (pZ h) (l.map some) (0,false)=some (cond (l.any (oC h)) (.br 1000000000 (0,true)) (.nx (0,false)))
 |[]=>rfl
 |x::l=>by
  have ih:=Ac h l
  unfold fT at ih ⊢
  show ai (pZ h x (0,false)) _=_
  unfold pZ
  rw[List.any_cons]
  show ai (cond (oC h x) _ _) _=_
  cases a:oC h x with
  |true=>rfl
  |false=>exact Ac h l
theorem E3 {h x:List Int}(a:h.length=x.length)(b:h.length<=3):oC h (cA x)=true↔x=h:=by
 constructor
 .intro c;unfold oC at c;simp only[Bool.and_eq_true,beq_iff_eq] at c;refine DQ aa aa ?_;show cA x=⟨h.getD 0 0,h.getD 1 0,h.getD 2 0⟩;rw[<-c.1,<-c.2.1,<-c.2.2]
 .rintro rfl;unfold oC cA;simp[List.getD_eq_getElem?_getD]
section
variable {u:an}(F:Fit u)(hc:fN u = some 0)
include F hc
theorem MO (h:List Int):mo u h=some (cond (mM u h != 0) (false,mM u h) (decide (h∈bF u),0)):=by
 unfold mo;rw[u5 (f:=fun d=>lz d h u) hc (MN u u h)];cases hb:(mM u h != 0) with
 |true=>
  simp only[cond_true,ai,hb]
 |false=>
  have a:mM u h=0:=by simpa using hb
  have hlen:h.length=u.aH.length:=by
   unfold mM at a;cases c:((h.length:Int) != (u.aH.length:Int)) with
   |true=>rw[c] at a;cases a
   |false=>
    have:(h.length:Int)=u.aH.length:=by simpa using c
    omega
  have g:=F.aH;simp only[cond_false,ai,bne_self_eq_false,y9 F];rw[show ((bF u).map fun x=>some (cA x))=((bF u).map cA).map some by rw[List.map_map];rfl,Ac];have e1:((bF u).map cA).any (oC h)=decide (h∈bF u):=by
   rw[Bool.eq_iff_iff,List.any_eq_true,decide_eq_true_iff];constructor
   .rintro ⟨y,e,hs⟩;obtain ⟨x,b,rfl⟩:=List.mem_map.1 e;rw[(E3 (by rw[hlen,(mB b).1.len]) aa).1 hs] at b;exact b
   .intro hm;exact ⟨cA h,List.mem_map.2 ⟨h,hm,rfl⟩,(E3 rfl aa).2 rfl⟩
  rw[e1];cases decide (h∈bF u)<;>rfl
end
theorem E4 {V:List Int}(h:V.Pairwise (· <·)){i j:Nat}{a b:Int}(c:i<j)(d:V[i]?=some a)(hb:V[j]?=some b):a<b:=by
 obtain ⟨e,rfl⟩:=List.getElem?_eq_some_iff.1 d;obtain ⟨f,rfl⟩:=List.getElem?_eq_some_iff.1 hb;exact List.pairwise_iff_getElem.1 h i j e f c
theorem MP {V:List Int}{i:Nat}{y:Int}(h:y∈V.take i):∃j,j<i/\V[j]?=some y:=by
 obtain ⟨j,a⟩:=List.mem_iff_getElem?.1 h;rw[List.getElem?_take] at a;split at a
 .exact ⟨j,by assumption,a⟩
 .cases a
def Ad (V:List Int)(x:Int)(i:Nat)(s:List Int×Bool):Prop:=
 (s.2=false->s.1=V.take i/\∀w,w∈V.take i->w<x)/\
 (s.2=true->s.1.Pairwise (· <·)/\(∀y,y∈s.1↔y=x\/y∈V.take i)/\s.1.length<=i+1/\∃j w,j<i/\V[j]?=some w/\x<=w)
theorem MQ {V u:List Int}(k:V.Pairwise (· <·))(D:V.length<=100){n:Int}{x:Int}(t:bt u n=some x)(i:Nat)(w:Int)(s:List Int×Bool)(hw:V[i]?=some w)(m:Ad V x i s):
  ∃s',nO u V n (s.1,s.2,(i:Int))=some (.nx (s'.1,s'.2,((i+1:Nat):Int)))/\Ad V x (i+1) s':=by
 have hi:=(List.getElem?_eq_some_iff.1 hw).1
 have ht:V.take (i+1)=V.take i++[w]:=by rw[List.take_succ,hw];rfl
 have uT:∀y,y∈V.take i->y<w:=fun y g=>by
  obtain ⟨j,a,b⟩:=MP g
  exact E4 k a b hw
 have E:(V.take i).length=i:=by rw[List.length_take];omega
 obtain ⟨acc,pl⟩:=s
 unfold nO
 simp only[decide_eq_true (show ((i:Nat):Int)<(V.length:Int) by omega),cond_true,eo hw,t,ai,(show IntKind.i64.wrap ((i:Int)+1)=((i+1:Nat):Int) from (dj (n:=(i:Int)+1) aa).trans aa)]
 have ci:((i:Nat):Int)+1=((i+1:Nat):Int):=aa
 cases pl with
 |false=>
  obtain ⟨e,o⟩:=m.1 rfl
  replace e:acc=V.take i:=e
  subst e
  simp only[Bool.not_false,cond_true]
  by_cases c:x<=w
  .simp only[decide_eq_true c,cond_true,jM (l:=V.take i) (xs:=[x]) (by simp only[List.length_singleton];omega)]
   have p:(V.take i++[x]).Pairwise (· <·):=by
    rw[List.pairwise_append]
    exact ⟨k.sublist (List.take_sublist _ _),List.pairwise_singleton _ _,fun a f b hb=>by rw[List.mem_singleton.1 hb];exact o a f⟩
   by_cases d:w=x
   .refine ⟨(V.take i++[x],true),?_,⟨fun h=>(by cases h),fun _=>⟨p,fun y=>?_,by simp only[List.length_append,List.length_singleton];omega,i,w,aa,hw,c⟩⟩⟩
    .rw[show (w != x)=false by simp[d]];simp only[cond_false]
    .rw[ht,d];simp[or_comm]
   .refine ⟨(V.take i++[x]++[w],true),?_,⟨fun h=>(by cases h),fun _=>⟨?_,fun y=>?_,by simp only[List.length_append,List.length_singleton];omega,i,w,aa,hw,c⟩⟩⟩
    .rw[show (w != x)=true by simp[d]]
     simp only[cond_true,jM (l:=V.take i++[x]) (xs:=[w]) (by simp only[List.length_append,List.length_singleton];omega),ai]
    .rw[List.pairwise_append]
     refine ⟨p,List.pairwise_singleton _ _,fun a f b hb=>?_⟩
     rw[List.mem_singleton.1 hb]
     rcases List.mem_append.1 f with a1|a1
     .exact uT a a1
     .rw[List.mem_singleton.1 a1];show x<w;omega
    .rw[ht];simp[or_left_comm]
  .refine ⟨(V.take i++[w],false),?_,⟨fun _=>⟨ht.symm,fun y g=>?_⟩,fun h=>by cases h⟩⟩
   .rw[show (w != x)=true by simp;omega]
    simp only[decide_eq_false c,cond_false,cond_true,jM (l:=V.take i) (xs:=[w]) (by simp only[List.length_singleton];omega)]
   .rw[ht] at g
    rcases List.mem_append.1 g with a|a
    .exact o y a
    .rw[List.mem_singleton.1 a];omega
 |true=>
  obtain ⟨z,q,A,j,v,B,r,hle⟩:=m.2 rfl
  simp only[Bool.not_true,cond_false]
  have C:x<w:=by have:=E4 k B r hw;omega
  have F:acc.length<=i+1:=A
  refine ⟨(acc++[w],true),?_,⟨fun h=>(by cases h),fun _=>⟨?_,fun y=>?_,by simp only[List.length_append,List.length_singleton];omega,j,v,aa,r,hle⟩⟩⟩
  .rw[show (w != x)=true by simp;omega]
   simp only[cond_true,jM (l:=acc) (xs:=[w]) (by simp only[List.length_singleton];omega)]
  .show (acc++[w]).Pairwise _
   rw[List.pairwise_append]
   refine ⟨z,List.pairwise_singleton _ _,fun a f b hb=>?_⟩
   rw[List.mem_singleton.1 hb]
   rcases (q a).1 f with a1|a1
   .rw[a1];exact C
   .exact uT a a1
  .rw[ht,List.mem_append,q];simp[or_assoc]
theorem MR {l:List Int}(i:Nat)(x:Int)(V:List Int)(c:l[i]?=some x)(o:V.Pairwise (· <·)/\(∀y,y∈V↔y∈l.take i)/\V.length<=i)(hi:i<=99):
  ∃d,nP l (V,(i:Int))=some (.nx (d,((i+1:Nat):Int)))/\d.Pairwise (· <·)/\(∀y,y∈d↔y∈l.take (i+1))/\d.length<=i+1:=by
 have u:=(List.getElem?_eq_some_iff.1 c).1
 obtain ⟨a1,a2,a3⟩:=o
 have ht:l.take (i+1)=l.take i++[x]:=by rw[List.take_succ,c];rfl
 obtain ⟨s,k1,g⟩:=lF (f:=nO l V (i:Int)) (Ad V x) (fun s j=>(s.1,s.2,j)) V aa (fun j w s hw p=>MQ a1 aa (eo c) j w s hw p)
  (fun s=>by unfold nO;rw[show decide ((V.length:Int)<(V.length:Int))=false from decide_eq_false aa];rfl) (([]:List Int),false) ⟨fun _=>⟨rfl,fun w hw=>(by cases hw)⟩,fun h=>by cases h⟩
 unfold nP
 simp only[decide_eq_true (show ((i:Nat):Int)<(l.length:Int) by omega),cond_true,ai,k1,aG,eo c,(show IntKind.i64.wrap ((i:Int)+1)=((i+1:Nat):Int) from (dj (n:=(i:Int)+1) aa).trans aa)]
 obtain ⟨acc,pl⟩:=s
 cases pl with
 |false=>
  obtain ⟨e,k⟩:=g.1 rfl
  rw[List.take_length] at e k
  replace e:acc=V:=e
  subst e
  refine ⟨acc++[x],?_,?_,fun y=>?_,by simp only[List.length_append,List.length_singleton];omega⟩
  .simp only[Bool.not_false,cond_true,jM (l:=acc) (xs:=[x]) (by simp only[List.length_singleton];omega)]
  .rw[List.pairwise_append]
   exact ⟨a1,List.pairwise_singleton _ _,fun a q b hb=>by rw[List.mem_singleton.1 hb];exact k a q⟩
  .rw[ht,List.mem_append,List.mem_append,a2]
 |true=>
  obtain ⟨r,m,t,-⟩:=g.2 rfl
  rw[List.take_length] at m
  refine ⟨acc,?_,r,fun y=>?_,by have v:acc.length<=V.length+1:=t;omega⟩
  .simp only[Bool.not_true,cond_false]
  .rw[show y∈acc↔y=x\/y∈V from m y,a2,ht,List.mem_append,List.mem_singleton,or_comm]
theorem MS {l:List Int}(d:l.length<=100):∃r,pJ l=some r/\r.Pairwise (· <·)/\(∀y,y∈r↔y∈l)/\r.length<=l.length:=by
 obtain ⟨V,k1,a⟩:=lF (f:=nP l) (fun i (V:List Int)=>V.Pairwise (· <·)/\(∀y,y∈V↔y∈l.take i)/\V.length<=i) (fun V j=>(V,j)) l aa (fun i x V b c=>MR i x V b c (by have:=(List.getElem?_eq_some_iff.1 b).1;omega))
  (fun s=>by unfold nP;rw[show decide ((l.length:Int)<(l.length:Int))=false from decide_eq_false aa];rfl) ([]:List Int) ⟨.nil,fun y=>ax,ax⟩
 rw[List.take_length] at a;refine ⟨V,?_,a⟩;unfold pJ;simp only[k1,ai,aG]
theorem E5:∀(l:List au) (i:Nat) (a:au),(∀x,x∈a::l->0<x.den)->foldI (fun _ y st=>gL st y) i l a∈a::l/\∀y,y∈a::l->bN y (foldI (fun _ y st=>gL st y) i l a)=false
 |[],i,a,h=>⟨List.mem_singleton.2 rfl,fun y d=>by rw[List.mem_singleton.1 d];exact gZ _⟩
 |b::l,i,a,h=>by
  have n:=h a ax
  have hb:=h b ax
  unfold foldI
  have hm:gL a b=a\/gL a b=b:=by unfold gL;cases bN b a<;>simp
  have hd:0<(gL a b).den:=by rcases hm with e|e<;>rw[e]<;>assumption
  obtain ⟨g,j⟩:=E5 l (i+1) (gL a b) fun x f=>by
   rcases List.mem_cons.1 f with rfl|f
   .exact hd
   .exact h x (by simp[f])
  have k:0<(foldI (fun _ y st=>gL st y) (i+1) l (gL a b)).den:=by
   rcases List.mem_cons.1 g with e|e
   .rw[e];exact hd
   .exact h _ (by simp[e])
  refine ⟨?_,fun y d=>?_⟩
  .rcases List.mem_cons.1 g with e|e
   .rw[e];rcases hm with e|e<;>rw[e]<;>simp
   .simp[e]
  .have m:=j _ (List.mem_cons_self ..)
   rcases List.mem_cons.1 d with rfl|d
   .refine mw n hd k ?_ m
    unfold gL
    cases c:bN b y
    .exact gZ _
    .exact sj c
   rcases List.mem_cons.1 d with rfl|d
   .refine mw hb hd k ?_ m
    unfold gL
    cases c:bN y a
    .exact c
    .exact gZ _
   .exact j y (by simp[d])
theorem E6:∀(l:List au) (i:Nat) (a:au),(∀x,x∈a::l->0<x.den)->foldI (fun _ y st=>cG st y) i l a∈a::l/\∀y,y∈a::l->bN (foldI (fun _ y st=>cG st y) i l a) y=false
 |[],i,a,h=>⟨List.mem_singleton.2 rfl,fun y d=>by rw[List.mem_singleton.1 d];exact gZ _⟩
 |b::l,i,a,h=>by
  have n:=h a ax
  have hb:=h b ax
  unfold foldI
  have hm:cG a b=a\/cG a b=b:=by unfold cG;cases bN a b<;>simp
  have hd:0<(cG a b).den:=by rcases hm with e|e<;>rw[e]<;>assumption
  obtain ⟨g,j⟩:=E6 l (i+1) (cG a b) fun x f=>by
   rcases List.mem_cons.1 f with rfl|f
   .exact hd
   .exact h x (by simp[f])
  have k:0<(foldI (fun _ y st=>cG st y) (i+1) l (cG a b)).den:=by
   rcases List.mem_cons.1 g with e|e
   .rw[e];exact hd
   .exact h _ (by simp[e])
  refine ⟨?_,fun y d=>?_⟩
  .rcases List.mem_cons.1 g with e|e
   .rw[e];rcases hm with e|e<;>rw[e]<;>simp
   .simp[e]
  .have m:=j _ (List.mem_cons_self ..)
   rcases List.mem_cons.1 d with rfl|d
   .refine mw k hd n m ?_
    unfold cG
    cases c:bN y b
    .exact gZ _
    .exact sj c
   rcases List.mem_cons.1 d with rfl|d
   .refine mw k hd hb m ?_
    unfold cG
    cases c:bN a y
    .exact c
    .exact gZ _
   .exact j y (by simp[d])
theorem MT {u:an}(F:Fit u)(h:fN u=some 0){i:Nat}{e:cu}(he:u.aH[i]?=some e)(hs:(bF u).isEmpty=false):
  ∃p q,k8 u (i:Int)=some (p,q,0)/\(∃n,n∈dm u i e/\p=c7 u ⟨e.back,n⟩)/\(∃n,n∈dm u i e/\q=c7 u ⟨e.back,n⟩)/\∀n,n∈dm u i e->bN (c7 u ⟨e.back,n⟩) p=false/\bN q (c7 u ⟨e.back,n⟩)=false:=by
 obtain ⟨a,l,c,j⟩:=MG F h he hs
 have hd:∀x,x∈a::l->0<x.den:=fun x d=>by
  rw[<-c,List.mem_map] at d
  obtain ⟨n,b,rfl⟩:=d
  exact (oA F (iz F he b)).den.1
 obtain ⟨f,p2⟩:=E5 l 0 a hd
 obtain ⟨g,k⟩:=E6 l 0 a hd
 refine ⟨_,_,j,?_,?_,fun n b=>?_⟩
 .rw[<-c,List.mem_map] at f
  obtain ⟨n,b,e⟩:=f
  exact ⟨n,b,e.symm⟩
 .rw[<-c,List.mem_map] at g
  obtain ⟨n,b,e⟩:=g
  exact ⟨n,b,e.symm⟩
 .have:c7 u ⟨e.back,n⟩∈a::l:=by rw[<-c];exact List.mem_map.2 ⟨n,b,rfl⟩
  exact ⟨p2 _ this,k _ this⟩
theorem Ae {a b:au}(g:Lw a)(hb:Lw b)(h:0<a.den)(i:0<b.den)(e:bN a b=false)(f:bN b a=false):a=b:=by
 obtain ⟨n,d,hd,e1⟩:=g;obtain ⟨m,c,hc,e2⟩:=hb;have i1:bP a.num a.den.toNat=a:=by rw[e1];exact DG n d hd
 have i2:bP b.num b.den.toNat=b:=by rw[e2];exact DG m c hc
 rw[<-i1,<-i2];unfold bN at e f;simp only[decide_eq_false_iff_not] at e f;refine yV aa aa ?_;rw[show ((a.den.toNat:Nat):Int)=a.den by omega,show ((b.den.toNat:Nat):Int)=b.den by omega];omega
theorem E7:∀{l m:List Int},l.Pairwise (· <·)->m.Pairwise (· <·)->(∀y,y∈l↔y∈m)->l=m
 |[],[],_,_,_=>rfl
 |[],b::m,_,_,h=>by have:=(h b).2 ax;cases this
 |a::l,[],_,_,h=>by have:=(h a).1 ax;cases this
 |a::l,b::m,g,hm,h=>by
  rw[List.pairwise_cons] at g hm
  have e:a=b:=by
   rcases List.mem_cons.1 ((h a).1 ax) with c|c
   .exact c
   .rcases List.mem_cons.1 ((h b).2 ax) with d|d
    .exact d.symm
    .have:=g.1 b d;have:=hm.1 a c;omega
  subst e
  refine congrArg (a::·) (E7 g.2 hm.2 fun y=>⟨fun f=>?_,fun f=>?_⟩)
  .rcases List.mem_cons.1 ((h y).1 (by simp[f])) with c|c
   .subst c;have:=g.1 y f;omega
   .exact c
  .rcases List.mem_cons.1 ((h y).2 (by simp[f])) with c|c
   .subst c;have:=hm.1 y f;omega
   .exact c
theorem MU (b:dI):(dF b).Pairwise (· <·):=by
 unfold dF;rw[List.pairwise_map];exact (List.pairwise_lt_range (n:=_)).imp fun h=>aa
theorem E8 (n m:Nat):pR (n:Int) (m:Int)=some (p9 n m):=by
 unfold pR p9;by_cases c:n=m
 .subst c;simp
 .rw[if_neg c,show ((n:Int)==(m:Int))=false by simp;omega];by_cases d:n=0
  .subst d;rfl
  .rw[if_neg d,show ((n:Int)==0)=false by simp;omega];rfl
theorem MV (u:an)(n:Int):lu u n=some (cond (gY u n) 0 6):=by
 unfold lu;rw[(uS u n).1];simp only[ai];cases gY u n<;>rfl
theorem MW:pJ []=some []:=by decide+kernel
theorem E9 {α σ τ ρ:Type}{f:τ->Option (Fl τ ρ)}{t:Nat->α->Option ρ}(e:σ->Int->τ)(l:List α)(h:∀(i:Nat) x s,l[i]?=some x->f (e s (i:Int))=some (g5 (t i x) (e s ((i+1:Nat):Int))))(a:∀s,f (e s (l.length:Int))=some (.bk (e s (l.length:Int)))):
  ∀(k i n:Nat) (s:σ),i+k=l.length->k<n->aY f n (e s (i:Int))=some (g5 (fJ t i (l.drop i)) (e s (l.length:Int)))
 |0,i,n+1,s,hi,_=>by
  obtain rfl:i=l.length:=aa
  unfold aY
  rw[a,List.drop_length]
  rfl
 |k+1,i,n+1,s,hi,d=>by
  have b:i<l.length:=aa
  have c:l[i]?=some l[i]:=List.getElem?_eq_getElem b
  unfold aY
  rw[h i _ s c,List.drop_eq_getElem_cons b]
  unfold fJ
  cases ht:t i l[i] with
  |some r=>rfl
  |none=>exact E9 e l h a k (i+1) n s aa aa
theorem Af {α σ τ ρ:Type}{f:τ->Option (Fl τ ρ)}(t:Nat->α->Option ρ)(e:σ->Int->τ)(l:List α)(a:l.length<=1000)(h:∀(i:Nat) x s,l[i]?=some x->f (e s (i:Int))=some (g5 (t i x) (e s ((i+1:Nat):Int))))(b:∀s,f (e s (l.length:Int))=some (.bk (e s (l.length:Int))))(s:σ):
  aY f fu (e s 0)=some (g5 (fJ t 0 l) (e s (l.length:Int))):=by
 have:=E9 e l h b l.length 0 fu s aa (Nat.lt_of_le_of_lt a aB)
 simpa using this
theorem vN {α ρ:Type}{g:Nat->α->Bool}{r:ρ}:∀(l:List α) (i:Nat),(fJ (fun i x=>if g i x then none else some r) i l=none/\∀(j:Nat) x,l[j]?=some x->g (i+j) x=true)\/(fJ (fun i x=>if g i x then none else some r) i l=some r/\∃(j:Nat) (x:α),l[j]?=some x/\g (i+j) x=false)
 |[],_=>.inl ⟨rfl,fun j x h=>by simp at h⟩
 |y::l,i=>by
  unfold fJ
  cases h:g i y with
  |false=>exact .inr ⟨ax,0,y,rfl,h⟩
  |true=>
   simp only[if_true]
   rcases vN l (i+1) (g:=g) (r:=r) with ⟨k1,a⟩|⟨k1,j,x,a,c⟩
   .refine .inl ⟨k1,fun j x b=>?_⟩
    cases j with
    |zero=>
     have:y=x:=by simpa using b
     subst this;exact h
    |succ j=>
     have:=a j x (by simpa using b)
     rwa [show i+1+j=i+(j+1) by omega] at this
   .exact .inr ⟨k1,j+1,x,by simpa using a,by rwa [show i+(j+1)=i+1+j by omega]⟩
theorem lP {i:Nat}(h:i<=1000):IntKind.i64.wrap ((i:Int)+1)=((i+1:Nat):Int):=by rw[dj aa];rfl
theorem lQ {i:Nat}{n:Nat}(h:i<n):decide ((i:Int)<(n:Int))=true:=decide_eq_true aa
theorem lR (n:Nat):decide ((n:Int)<(n:Int))=false:=decide_eq_false aa
section
variable {u:an}(L:sw u)
include L
theorem MX (h:List Int)(z:h.length<=20):∃r,mo u h=some r/\pU u h=some r:=by
 obtain ⟨c,o,q⟩:=bars L;by_cases hc:c=0
 .subst hc;have F:=uV u L.e o;rw[MO F o];refine ⟨_,rfl,?_⟩;unfold pU;rw[q];simp only[ai,bne_self_eq_false,cond_false];unfold mM;cases p:((h.length:Int) != (u.aH.length:Int)) with
  |true=>rfl
  |false=>
   have hlen:h.length=u.aH.length:=by
    have:(h.length:Int)=u.aH.length:=by simpa using p
    omega
   simp only[cond_false];have w:=Af (f:=pS h) (ρ:=Bool×Int) (fun _ n=>if bX n 0 60 then none else some (false,1)) (fun (s:Bool×Int) k=>(s.1,s.2,k)) h aa
    (fun i x s a=>by
     have b:=(List.getElem?_eq_some_iff.1 a).1;unfold pS;simp only[lQ b,cond_true,eo a,ai,fA,lP (i:=i) aa]
     cases bX x 0 60<;>rfl)
    (fun s=>by unfold pS;simp only[lR,cond_false]) (false,0)
   simp only[w];rcases vN (g:=fun _ n=>bX n 0 60) (r:=((false,1):Bool×Int)) h 0 with ⟨e1,e2⟩|⟨e1,j,x,e2,d⟩
   .rw[e1,show (h.any fun n=>!bX n 0 60)=false from by
     rw[List.any_eq_false];intro n p;obtain ⟨i,hi⟩:=List.mem_iff_getElem?.1 p
     rw[e2 i n hi];simp]
    simp only[g5,aG,cond_false,bne_self_eq_false];have k1:=Af (f:=uN u h) (ρ:=Bool×Int) (fun i n=>if (u.aH[i]?).any (fun e=>bX n e.high.low e.high.high) then none else some (false,0)) (fun (s:Bool×Int) k=>(s.1,s.2,k)) h aa
     (fun i x s a=>by
      have b:=(List.getElem?_eq_some_iff.1 a).1;have he:u.aH[i]?=some (u.aH[i]'aa):=List.getElem?_eq_getElem _;unfold uN;simp only[lQ b,cond_true,eo a,eo he,ai,fA,lP (i:=i) aa,he,Option.any_some]
      cases bX x (u.aH[i]'aa).high.low (u.aH[i]'aa).high.high<;>rfl)
     (fun s=>by unfold uN;simp only[lR,cond_false]) (false,0)
    simp only[k1,ai];rcases vN (g:=fun i n=>(u.aH[i]?).any (fun e=>bX n e.high.low e.high.high)) (r:=((false,0):Bool×Int)) h 0 with ⟨d,l⟩|⟨d,j,x,l,t⟩
    .rw[d]
     have H:mA u h:=⟨hlen,fun i e he=>by
      have b:=(List.getElem?_eq_some_iff.1 he).1;have a:h[i]?=some (h[i]'aa):=List.getElem?_eq_getElem _;have:=l i _ a;rw[Nat.zero_add,he,Option.any_some] at this
      exact ⟨_,a,gv.1 this⟩⟩
     simp only[g5,aG,De F H,ai];have:decide (h∈bF u)=fO u h:=by
      rw[Bool.eq_iff_iff,decide_eq_true_iff];exact ⟨fun c=>(mB c).2,fun c=>ML H c⟩
     rw[this]
    .rw[d];have:decide (h∈bF u)=false:=decide_eq_false fun c=>by
      have b:=(List.getElem?_eq_some_iff.1 l).1;have he:u.aH[j]?=some (u.aH[j]'aa):=List.getElem?_eq_getElem _;obtain ⟨m,v,y⟩:=(mB c).1.sn j _ he;rw[l] at v;cases v;rw[Nat.zero_add,he,Option.any_some,gv.2 y] at t;cases t
     rw[this];rfl
   .rw[e1,show (h.any fun n=>!bX n 0 60)=true from by
     rw[List.any_eq_true]
     exact ⟨x,List.mem_of_getElem? e2,by rw[d];rfl⟩]
    rfl
 .rw[show mo u h=some (false,c) from by
   unfold mo;rw[uZ _ o hc]
   simp only[ai,show (c != 0)=true by simpa using hc,cond_true]]
  refine ⟨_,rfl,?_⟩;unfold pU;rw[q];simp only[ai,show (c != 0)=true by simpa using hc,cond_true]
theorem MY:∃r,mh u=some r/\rT u=some r:=by
 obtain ⟨c,a,b⟩:=bars L;unfold rT;by_cases hc:c=0
 .subst hc;have F:=uV u L.e a;rw[J7 F a,b];refine ⟨_,rfl,?_⟩;simp only[ai,bne_self_eq_false,cond_false,(jN F).1]
 .unfold mh;rw[uZ [] a hc,b];simp only[ai,show (c != 0)=true by simpa using hc,cond_true];exact ⟨_,rfl,rfl⟩
theorem vO (n:Int):(∃c t,(c != 0)=true/\fW u [e9 n]=some (ve,c)/\lu u n=some t/\gu u t=some ([],c))\/
  (Fit u/\fN u=some 0/\bF u≠[]/\lu u n=some 0/\gu u 0=some (bF u,0)/\∃(i:Nat) (e:cu),n=(i:Int)/\u.aH[i]?=some e):=by
 obtain ⟨c,a,b⟩:=bars L
 rw[MV]
 by_cases hc:c=0
 .subst hc
  have F:=uV u L.e a
  cases d:gY u n with
  |false=>
   refine .inl ⟨6,6,aB,za ?_ aB,rfl,JN b aB⟩
   rw[u5 a (zb u n),d];rfl
  |true=>
   obtain ⟨g,h⟩:=(Dm F).1 d
   have f:fo u [e9 n]=some (u,0):=by rw[u5 a (zb u n),d];rfl
   cases hs:(bF u).isEmpty with
   |true=>exact .inl ⟨9,0,aB,by rw[oe F f,hs];rfl,rfl,by rw[vg F b,hs];rfl⟩
   |false=>
    refine .inr ⟨F,a,(by intro c;rw[c] at hs;cases hs),rfl,by rw[vg F b,hs];rfl,n.toNat,_,aa,List.getElem?_eq_getElem aa⟩
 .exact .inl ⟨c,_,by simpa using hc,za (uZ _ a hc) hc,rfl,Dl b hc⟩
theorem Fa:(∃c,(c != 0)=true/\fW u []=some (ve,c)/\gu u 0=some ([],c))\/
  (Fit u/\fN u=some 0/\bF u≠[]/\gu u 0=some (bF u,0)):=by
 obtain ⟨c,a,b⟩:=bars L
 by_cases hc:c=0
 .subst hc
  have F:=uV u L.e a
  cases hs:(bF u).isEmpty with
  |true=>exact .inl ⟨9,aB,by rw[oe F (vf a),hs];rfl,by rw[vg F b,hs];rfl⟩
  |false=>exact .inr ⟨F,a,(by intro c;rw[c] at hs;cases hs),by rw[vg F b,hs];rfl⟩
 .exact .inl ⟨c,by simpa using hc,za (uZ _ a hc) hc,Dl b hc⟩
omit L in
theorem Fb (n c:Int)(l:List (List Int))(d:l.length<=1000)(v:List Int->Int)(e:∀h,h∈l->bt h n=some (v h)):aY (n8 n (l,c)) fu (([]:List Int),0)=some (.nx (l.map v,(l.length:Int))):=by
 obtain ⟨s,k1,g⟩:=lF (f:=n8 n (l,c)) (fun j (s:List Int)=>s=(l.take j).map v) (fun s k=>(s,k)) l d
  (fun j h s a b=>by
   have m:=(List.getElem?_eq_some_iff.1 a).1;refine ⟨s++[v h],?_,?_⟩
   .unfold n8;simp only[lQ m,cond_true,eo a,ai,e h (List.mem_of_getElem? a),lP (i:=j) aa];rw[jM (l:=s) (xs:=[v h]) (by rw[b];simp;omega)]
   .rw[List.take_add_one,a,b,List.map_append];rfl)
  (fun s=>by unfold n8;simp only[lR,cond_false]) [] rfl
 rw[k1,g,List.take_length]
theorem MZ (n:Int):∃r,jJ u n=some r/\rU u n=some r:=by
 unfold rU;rcases vO L n with ⟨c,t,hc,k1,a,b⟩|⟨F,f,aN,a,b,i,e,rfl,he⟩
 .unfold jJ;simp only[k1,a,b,ai,hc,cond_true,Fb n c [] aB (fun _=>0) (fun h d=>by cases d),aG,List.map_nil,MW];exact ⟨_,rfl,rfl⟩
 .have k:=(jN F).2;rw[E0 F f he,qs aN,if_neg aB];refine ⟨_,rfl,?_⟩
  simp only[a,b,ai,Fb (i:Int) 0 (bF u) aa (fun h=>h[i]?.getD 0) (fun h d=>by
   obtain ⟨m,hm,-⟩:=lD F he d
   rw[eo hm,hm];rfl),aG]
  obtain ⟨r,r1,r2,r3,-⟩:=MS (l:=(bF u).map fun h=>h[i]?.getD 0) (by rw[List.length_map];omega);rw[r1];have:r=dm u i e:=E7 r2 ((MU _).filter _) fun y=>by
   rw[r3];obtain ⟨p,o,g,p2,j⟩:=zj F aN he;rw[j];exact DD g p2
  rw[this]
theorem M0 (n:Int):∃r,k7 u n=some r/\rW u n=some r:=by
 unfold rW;rcases vO L n with ⟨c,t,hc,k1,b,d⟩|⟨F,p,aN,b,d,i,e,rfl,he⟩
 .unfold k7;simp only[k1,b,d,ai,hc,cond_true];exact ⟨_,rfl,rfl⟩
 .have y:=(jN F).2;rw[MC F p he,qs aN,if_neg aB];refine ⟨_,rfl,?_⟩;obtain ⟨s,q,g⟩:=lF (f:=pV u (i:Int) (bF u,0)) (fun j (s:Int)=>s=(((bF u).take j).countP fun l=>dy u (cT u i (l[i]?.getD 0)):Nat)/\s<=j) (fun s k=>(s,k)) (bF u) aa
   (fun j h s a o=>by
    have v:=(List.getElem?_eq_some_iff.1 a).1;obtain ⟨m,hm,hs,hb⟩:=lD F he (List.mem_of_getElem? a);have w:ir u (i:Int) m=some ⟨e.back,m⟩:=by unfold ir;rw[eo he];rfl
    have x:(dy u (cT u i (h[i]?.getD 0)))=dy u ⟨e.back,m⟩:=by rw[hs]
    refine ⟨s+cond (dy u ⟨e.back,m⟩) 1 0,?_,?_,?_⟩
    .unfold pV;simp only[lQ v,cond_true,eo a,ai,eo hm,w,(mz F (s:=⟨e.back,m⟩) hb).2,lP (i:=j) aa];rw[dj (n:=s+1) aa];cases dy u ⟨e.back,m⟩
     .simp only[cond_false,Int.add_zero]
     .rfl
    .rw[List.take_add_one,a,List.countP_append,o.1];simp only[Option.toList_some,List.countP_cons,List.countP_nil,x];cases dy u ⟨e.back,m⟩<;>simp
    .have:=o.2
     cases dy u ⟨e.back,m⟩<;>simp<;>omega)
   (fun s=>by unfold pV;simp only[lR,cond_false]) 0 ⟨ax,aB⟩
  rw[List.take_length] at g;simp only[b,d,ai,bne_self_eq_false,cond_false,q,aG,g.1,E8]
theorem M1:∃r,ku u=some r/\rY u=some r:=by
 unfold rY;rcases Fa L with ⟨c,hc,k1,l⟩|⟨F,v,aN,l⟩
 .unfold ku;simp only[k1,l,ai,hc,cond_true];exact ⟨_,rfl,rfl⟩
 .have A:=(jN F).2;have B:=F.aH;rw[J8 F v,qs aN,if_neg aB];refine ⟨_,rfl,?_⟩;have hg:∀h,h∈bF u->rX u h=some (jO u h):=fun h o=>by
   have H:=(mB o).1;unfold rX;have w:=Af (f:=pW u h) (ρ:=Bool) (fun i n=>if !dy u (cT u i n) then none else some false) (fun (s:Bool) k=>(s,k)) h (by rw[H.len];omega)
    (fun i x s a=>by
     have b:=(List.getElem?_eq_some_iff.1 a).1;have he:u.aH[i]?=some (u.aH[i]'(by rw[<-H.len];exact b)):=List.getElem?_eq_getElem _;generalize u.aH[i]'(by rw[<-H.len];exact b)=e at he;obtain ⟨m,hm,hs,hb⟩:=lD F he o;rw[a] at hm;cases hm;rw[a] at hs;have y:ir u (i:Int) x=some ⟨e.back,x⟩:=by unfold ir;rw[eo he];rfl
     unfold pW;simp only[lQ b,cond_true,eo a,ai,y,(mz F (s:=⟨e.back,x⟩) hb).2,lP (i:=i) (by rw[H.len] at b;omega)];rw[show cT u i x=⟨e.back,x⟩ from hs]
     cases dy u ⟨e.back,x⟩<;>rfl)
    (fun s=>by unfold pW;simp only[lR,cond_false]) false
   rw[w];unfold jO;rcases vN (g:=fun i n=>!dy u (cT u i n)) (r:=false) h 0 with ⟨e1,e2⟩|⟨e1,j,x,e2,p⟩
   .rw[e1];simp only[g5,ai,aG];refine congrArg some (Eq.symm ?_);rw[List.all_eq_true];intro i hi;rw[List.mem_range] at hi;have a:h[i]?=some (h[i]'(by rw[H.len];exact hi)):=List.getElem?_eq_getElem _;have:=e2 i _ a;rw[Nat.zero_add] at this;rw[a];exact this
   .rw[e1];simp only[g5,ai,aG];refine congrArg some (Eq.symm ?_);rw[List.all_eq_false];refine ⟨j,List.mem_range.2 (by rw[<-H.len];exact (List.getElem?_eq_some_iff.1 e2).1),?_⟩;rw[Nat.zero_add] at p;rw[e2];show ¬(!dy u (cT u j x))=true;rw[p];decide
  obtain ⟨s,z,q⟩:=lF (f:=pX u (bF u,0)) (fun j (s:Int)=>s=(((bF u).take j).countP (jO u):Nat)/\s<=j) (fun s k=>(s,k)) (bF u) aa
   (fun j h s d t=>by
    have b:=(List.getElem?_eq_some_iff.1 d).1;refine ⟨s+cond (jO u h) 1 0,?_,?_,?_⟩
    .unfold pX;simp only[lQ b,cond_true,eo d,ai,hg h (List.mem_of_getElem? d),lP (i:=j) aa];rw[dj (n:=s+1) aa];cases jO u h
     .simp only[cond_false,Int.add_zero]
     .rfl
    .rw[List.take_add_one,d,List.countP_append,t.1];simp only[Option.toList_some,List.countP_cons,List.countP_nil];cases jO u h<;>simp
    .have:=t.2
     cases jO u h<;>simp<;>omega)
   (fun s=>by unfold pX;simp only[lR,cond_false]) 0 ⟨ax,aB⟩
  rw[List.take_length] at q;simp only[l,ai,bne_self_eq_false,cond_false,z,aG,q.1,E8]
end
theorem Fc {u:an}{i:Nat}{e:cu}(he:u.aH[i]?=some e)(m:Int):ir u (i:Int) m=some ⟨e.back,m⟩:=by
 unfold ir;rw[eo he];rfl
theorem M3 {u:an}(F:Fit u){s:bx}(hs:Bd s):nZ u s=some (c7 u s):=by
 obtain ⟨r,a,b⟩:=CX F hs;rw[EZ F hs] at a;cases a;exact b
section
variable {u:an}(F:Fit u)
include F
theorem M4 (aN:bF u≠[]){i:Nat}{e:cu}(he:u.aH[i]?=some e):
  ∃s:au×au,aY (kB u (i:Int) (bF u,0)) fu (0,(⟨0,0⟩:au),(⟨0,0⟩:au))=some (.nx (((bF u).length:Int),s.1,s.2))/\
   ((∃n,n∈dm u i e/\s.2=c7 u ⟨e.back,n⟩)/\(∀n,n∈dm u i e->bN (c7 u ⟨e.back,n⟩) s.2=false)/\(∃n,n∈dm u i e/\s.1=c7 u ⟨e.back,n⟩)/\∀n,n∈dm u i e->bN s.1 (c7 u ⟨e.back,n⟩)=false):=by
 have M:=(jN F).2
 have y:∀n,n∈dm u i e->0<(c7 u ⟨e.back,n⟩).den:=fun n g=>(oA F (s:=⟨e.back,n⟩) (iz F he g)).den.1
 obtain ⟨s,E,G⟩:=lF (f:=kB u (i:Int) (bF u,0)) (fun j (s:au×au)=>0<j->
   (∃n,(∃h,h∈(bF u).take j/\h[i]?=some n)/\s.2=c7 u ⟨e.back,n⟩)/\(∀n,(∃h,h∈(bF u).take j/\h[i]?=some n)->bN (c7 u ⟨e.back,n⟩) s.2=false)/\
   (∃n,(∃h,h∈(bF u).take j/\h[i]?=some n)/\s.1=c7 u ⟨e.back,n⟩)/\∀n,(∃h,h∈(bF u).take j/\h[i]?=some n)->bN s.1 (c7 u ⟨e.back,n⟩)=false)
  (fun s k=>(k,s.1,s.2)) (bF u) aa
  (fun j h s o H=>by
   have I:=(List.getElem?_eq_some_iff.1 o).1
   have hm:=List.mem_of_getElem? o
   obtain ⟨m,w,_,hb⟩:=lD F he hm
   have fm:∀n,(∃h,h∈(bF u).take j/\h[i]?=some n)->n∈dm u i e:=fun n ⟨d,p,l⟩=>(lE F aN he).2 ⟨d,List.mem_of_mem_take p,l⟩
   have J:m∈dm u i e:=(lE F aN he).2 ⟨h,hm,w⟩
   have z:=y m J
   have step:kB u (i:Int) (bF u,0) ((j:Int),s.1,s.2)=(cond ((j:Int)==0) (some (.nx (((j+1:Nat):Int),c7 u ⟨e.back,m⟩,c7 u ⟨e.back,m⟩))) (ai (fX (c7 u ⟨e.back,m⟩) s.2) fun a=>ai (fX s.1 (c7 u ⟨e.back,m⟩)) fun b=>some (.nx (((j+1:Nat):Int),cond b (c7 u ⟨e.back,m⟩) s.1,cond a (c7 u ⟨e.back,m⟩) s.2)))):=by
    unfold kB
    simp only[lQ I,cond_true,eo o,ai,eo w,Fc he,M3 F (s:=⟨e.back,m⟩) hb,lP (i:=j) aa]
    cases ((j:Int)==0) with
    |true=>rfl
    |false=>
     simp only[cond_false]
     cases fX (c7 u ⟨e.back,m⟩) s.2 with
     |none=>rfl
     |some a=>cases a<;>simp only[cond_true,cond_false]<;>cases fX s.1 (c7 u ⟨e.back,m⟩) with
      |none=>rfl
      |some b=>cases b<;>rfl
   rw[step]
   have r:∀n,(∃d,d∈(bF u).take (j+1)/\d[i]?=some n)->(∃d,d∈(bF u).take j/\d[i]?=some n)\/n=m:=fun n ⟨d,p,l⟩=>by
    rcases (oB o).1 p with c|c
    .exact .inl ⟨d,c,l⟩
    .subst c;rw[w] at l;cases l;exact .inr rfl
   have A:∀n,(∃d,d∈(bF u).take j/\d[i]?=some n)->∃d,d∈(bF u).take (j+1)/\d[i]?=some n:=fun n ⟨d,p,l⟩=>⟨d,(oB o).2 (.inl p),l⟩
   have x:∃d,d∈(bF u).take (j+1)/\d[i]?=some m:=⟨h,(oB o).2 (.inr rfl),w⟩
   by_cases K:j=0
   .subst K
    refine ⟨(c7 u ⟨e.back,m⟩,c7 u ⟨e.back,m⟩),rfl,fun _=>⟨⟨m,x,rfl⟩,fun n g=>?_,⟨m,x,rfl⟩,fun n g=>?_⟩⟩
    all_goals
     rcases r n g with ⟨d,q,_⟩|rfl
     .simp at q
     .exact gZ _
   .obtain ⟨⟨n1,a1,a2⟩,a3,⟨n2,a4,a5⟩,t⟩:=H aa
    have B:SR s.2:=by rw[a2];exact oA F (s:=⟨e.back,n1⟩) (iz F he (fm _ a1))
    have C:SR s.1:=by rw[a5];exact oA F (s:=⟨e.back,n2⟩) (iz F he (fm _ a4))
    have D:=oA F (s:=⟨e.back,m⟩) hb
    rw[show ((j:Int)==0)=false by simp;omega]
    simp only[cond_false,(jL D B).1,(jL C D).1,ai]
    refine ⟨(cond (bN s.1 (c7 u ⟨e.back,m⟩)) (c7 u ⟨e.back,m⟩) s.1,cond (bN (c7 u ⟨e.back,m⟩) s.2) (c7 u ⟨e.back,m⟩) s.2),rfl,fun _=>⟨?_,fun n g=>?_,?_,fun n g=>?_⟩⟩
    .cases bN (c7 u ⟨e.back,m⟩) s.2
     .exact ⟨n1,A _ a1,a2⟩
     .exact ⟨m,x,rfl⟩
    .cases v:bN (c7 u ⟨e.back,m⟩) s.2
     .simp only[cond_false]
      rcases r n g with q|rfl
      .exact a3 n q
      .exact v
     .simp only[cond_true]
      rcases r n g with q|rfl
      .exact mw (y n (fm n q)) B.den.1 z (a3 n q) (sj v)
      .exact gZ _
    .cases bN s.1 (c7 u ⟨e.back,m⟩)
     .exact ⟨n2,A _ a4,a5⟩
     .exact ⟨m,x,rfl⟩
    .cases v:bN s.1 (c7 u ⟨e.back,m⟩)
     .simp only[cond_false]
      rcases r n g with q|rfl
      .exact t n q
      .exact v
     .simp only[cond_true]
      rcases r n g with q|rfl
      .exact mw z C.den.1 (y n (fm n q)) (sj v) (t n q)
      .exact gZ _)
  (fun s=>by unfold kB;simp only[lR,cond_false]) (⟨0,0⟩,⟨0,0⟩) (fun c=>absurd c aa)
 have L:0<(bF u).length:=List.length_pos_iff.2 aN
 obtain ⟨⟨n1,a1,a2⟩,a3,⟨n2,a4,a5⟩,t⟩:=G L
 simp only[List.take_length] at a1 a3 a4 t
 exact ⟨s,E,⟨n1,(lE F aN he).2 a1,a2⟩,fun n g=>a3 n ((lE F aN he).1 g),⟨n2,(lE F aN he).2 a4,a5⟩,fun n g=>t n ((lE F aN he).1 g)⟩
theorem M5 (aN:bF u≠[]){k:Nat}{e:cu}(he:u.aH[k]?=some e){st:Int×au}(W:Ws u (gN u k) st):
  ∃p:Int×au,aY (n9 u (bF u,0) (k:Int)) fu (st.1,0,st.2)=some (.nx (p.1,((bF u).length:Int),p.2))/\Ws u (gN u (k+1)) p:=by
 have B:=(jN F).2
 have w:∀i m,gN u k i m->Bd (cT u i m):=fun i m h=>by
  obtain ⟨l,r,a,o⟩:=h
  rw[lO a];exact iz F a o
 obtain ⟨s,x,y⟩:=lF (f:=n9 u (bF u,0) (k:Int)) (fun j (s:Int×au)=>Ws u (fun i m=>gN u k i m\/(i=k/\∃h,h∈(bF u).take j/\h[k]?=some m)) s) (fun s j=>(s.1,j,s.2)) (bF u) aa
  (fun j h s b t=>by
   have z:=(List.getElem?_eq_some_iff.1 b).1
   have hm:=List.mem_of_getElem? b
   obtain ⟨m,q,_,hb⟩:=lD F he hm
   have A:Bd (cT u k m):=by rw[lO he];exact hb
   have v:∀i m,(gN u k i m\/(i=k/\∃h,h∈(bF u).take j/\h[k]?=some m))->i<=k/\Bd (cT u i m):=fun i m h=>by
    rcases h with h|⟨rfl,g,l,a⟩
    .exact ⟨by have:=h.1;omega,w i m h⟩
    .exact ⟨Nat.le_refl _,by rw[lO he];exact iz F he ((lE F aN he).2 ⟨g,List.mem_of_mem_take l,a⟩)⟩
   have hle:=od (vM F (fun i m h=>(v i m h).2) t).1 (vL F (s:=⟨e.back,m⟩) hb).1 aB aB
   refine ⟨wG u k m s,?_,mL (fun i n=>?_) (E1 F v A t)⟩
   .unfold n9
    simp only[lQ z,cond_true,eo b,ai,eo q,Fc he,(mz F (s:=⟨e.back,m⟩) hb).2,DK F (s:=⟨e.back,m⟩) hb,hle.1,lP (i:=j) aa]
    unfold wG
    rw[lO he]
    cases dy u ⟨e.back,m⟩ with
    |false=>rfl
    |true=>
     simp only[cond_true]
     unfold bN
     cases decide (s.2.num*(eP u ⟨e.back,m⟩).den<(eP u ⟨e.back,m⟩).num*s.2.den)<;>rfl
   .constructor
    .rintro ((c|⟨c,g,c1,c2⟩)|⟨c,d⟩)
     .exact .inl c
     .exact .inr ⟨c,g,(oB b).2 (.inl c1),c2⟩
     .subst c d;exact .inr ⟨rfl,h,(oB b).2 (.inr rfl),q⟩
    .rintro (c|⟨c,g,c1,c2⟩)
     .exact .inl (.inl c)
     .rcases (oB b).1 c1 with d|d
      .exact .inl (.inr ⟨c,g,d,c2⟩)
      .subst d;rw[q] at c2;cases c2;exact .inr ⟨c,rfl⟩)
  (fun s=>by unfold n9;simp only[lR,cond_false]) st (mL (fun i m=>ax) W)
 refine ⟨s,x,mL (fun i m=>?_) y⟩
 rw[List.take_length]
 unfold gN
 constructor
 .rintro (⟨l,a⟩|⟨rfl,h⟩)
  .exact ⟨aa,a⟩
  .exact ⟨aa,e,he,(lE F aN he).2 h⟩
 .rintro ⟨l,r,a,o⟩
  by_cases c:i=k
  .subst c
   rw[he] at a;cases a
   exact .inr ⟨rfl,(lE F aN he).1 o⟩
  .exact .inl ⟨aa,r,a,o⟩
theorem M6 {D:Nat->Int->Prop}(g:∀i m,D i m->Bd (cT u i m)){a b:Int×au}(A:Ws u D a)(B:Ws u D b):a=b:=by
 rcases A with ⟨a1,a2,a3⟩|⟨j,n,a1,a2,a3,a4,a5⟩<;>rcases B with ⟨d,b2,b3⟩|⟨k,m,d,b2,b3,b4,b5⟩
 .exact Prod.ext (a1.trans d.symm) (a2.trans b2.symm)
 .have:=a3 k m d;rw[b4] at this;cases this
 .have:=b3 j n a1;rw[a4] at this;cases this
 .have e:=(a5 k m d b4).1;have f:=(b5 j n a1 a4).1;rw[<-b3] at e;rw[<-a3] at f;have h:=vM F g (st:=a) (.inr ⟨j,n,a1,a2,a3,a4,a5⟩);have l:=vM F g (st:=b) (.inr ⟨k,m,d,b2,b3,b4,b5⟩);have e2:a.2=b.2:=Ae h.2 l.2 h.1.den.1 l.1.den.1 e f;refine Prod.ext ?_ e2;rw[a2,b2];rcases Nat.lt_trichotomy j k with c|c|c
  .have:=(b5 j n a1 a4).2 c;rw[<-a3,e] at this;cases this
  .rw[c]
  .have:=(a5 k m d b4).2 c;rw[<-b3,f] at this;cases this
end
section
variable {u:an}(L:sw u)
include L
theorem M7 (n:Int):∃r,k8 u n=some r/\rV u n=some r:=by
 unfold rV;rcases vO L n with ⟨c,t,hc,k1,a,b⟩|⟨F,o,aN,a,b,i,e,rfl,he⟩
 .unfold k8;have v:=lF (f:=kB u n (([]:List (List Int)),c)) (fun _ (s:au×au)=>s=(⟨0,0⟩,⟨0,0⟩)) (fun s k=>(k,s.1,s.2)) ([]:List (List Int)) aB (fun i x s w=>by simp at w)
   (fun s=>by unfold kB;rfl) (⟨0,0⟩,⟨0,0⟩) rfl
  obtain ⟨s,y,rfl⟩:=v;simp only[k1,a,b,ai,hc,cond_true,y,aG];exact ⟨_,rfl,rfl⟩
 .obtain ⟨p,q,z,⟨d,p2,p3⟩,⟨g,h,j⟩,l⟩:=MT F o he (qs aN);rw[z];refine ⟨_,rfl,?_⟩;obtain ⟨s,A,⟨n1,a1,a2⟩,a3,⟨n2,a4,a5⟩,B⟩:=M4 F aN he;simp only[a,b,ai,A,aG];have lw:∀n,n∈dm u i e->Lw (c7 u ⟨e.back,n⟩)/\0<(c7 u ⟨e.back,n⟩).den:=fun n m=>
   ⟨(EX F (s:=⟨e.back,n⟩) (iz F he m)).2,(oA F (s:=⟨e.back,n⟩) (iz F he m)).den.1⟩
  have e1:s.2=p:=by
   have c1:=(l n1 a1).1;have c2:=a3 d p2;rw[<-a2] at c1;rw[<-p3] at c2;have w1:=lw n1 a1;have w2:=lw d p2;rw[<-a2] at w1;rw[<-p3] at w2;exact Ae w1.1 w2.1 w1.2 w2.2 c1 c2
  have e2:s.1=q:=by
   have c1:=(l n2 a4).2;have c2:=B g h;rw[<-a5] at c1;rw[<-j] at c2;have w1:=lw n2 a4;have w2:=lw g h;rw[<-a5] at w1;rw[<-j] at w2;exact Ae w1.1 w2.1 w1.2 w2.2 c2 c1
  rw[e1,e2]
theorem M8:∃r,kz u=some r/\rZ u=some r:=by
 unfold rZ;rcases Fa L with ⟨c,hc,k1,a⟩|⟨F,b,aN,a⟩
 .unfold kz;simp only[k1,a,ai,hc,cond_true];exact ⟨_,rfl,rfl⟩
 .have v:=F.aH;rcases MJ F b with ⟨c,_⟩|⟨_,st,d,W⟩
  .rw[qs aN] at c;cases c
  rw[d];refine ⟨_,rfl,?_⟩;obtain ⟨s,g,h⟩:=lF (f:=pY u (bF u,0)) (fun j (s:Int×au)=>Ws u (gN u j) s) (fun s j=>(s.1,j,s.2)) u.aH aa
   (fun j e s he k=>by
    have l:=(List.getElem?_eq_some_iff.1 he).1;obtain ⟨s1,o,p⟩:=M5 F aN he k;refine ⟨s1,?_,p⟩;unfold pY
    simp only[lQ l,cond_true,o,ai,aG,lP (i:=j) aa])
   (fun s=>by unfold pY;simp only[lR,cond_false]) (-1,⟨0,1⟩) (.inl ⟨rfl,rfl,fun i n q=>absurd q.1 aa⟩)
  simp only[a,ai,bne_self_eq_false,cond_false,g,aG]
  have t:Ws u (fun i m=>∃e,u.aH[i]?=some e/\m∈dm u i e) s:=mL (fun i m=>by
   unfold gN;constructor
   .exact fun x=>x.2
   .rintro ⟨e,he,hm⟩
    exact ⟨(List.getElem?_eq_some_iff.1 he).1,e,he,hm⟩) h
  rw[M6 F (fun i m ⟨e,he,hm⟩=>by rw[lO he];exact iz F he hm) W t]
end
theorem alike {α:Type}(l:List α)(b:l.length<=1000){f:Bool×Int->Option (Fl (Bool×Int) Bool)}(h:∀(i:Nat) x s,l[i]?=some x->i<l.length->f (s,(i:Int))=some (.nx (s,IntKind.i64.wrap ((i:Int)+1))))(c:∀s,f (s,(l.length:Int))=some (.bk (s,(l.length:Int))))(s:Bool):
  aY f fu (s,0)=some (.nx (s,(l.length:Int))):=by
 have:=Db (t:=fun _ _=>(none:Option Bool)) l b (f:=f) (fun i x s a=>by
  have d:=(List.getElem?_eq_some_iff.1 a).1
  rw[h i x s a d,dj aa]
  rfl) c s
 rw[EV] at this
 exact this
theorem M9 (l:List Int)(a:l.length<=1000):o8 l l=some true:=by
 unfold o8;rw[show ((l.length:Int) != (l.length:Int))=false by simp];simp only[cond_false]
 rw[alike l a (fun i x s b c=>by
  unfold rj;rw[show decide ((s,(i:Int)).2<(l.length:Int))=true by simp;omega]
  simp only[cond_true,eo b,ai,bne_self_eq_false,cond_false]) (fun s=>by
  unfold rj;rw[show decide ((s,(l.length:Int)).2<(l.length:Int))=false by simp]
  rfl)]
 rfl
theorem Na {u:an}(L:sw u)(n:Int){r:List Int×Int}(h:jJ u n=some r):r.1.length<=1000:=by
 rcases vO L n with ⟨c,t,hc,k1,a,b⟩|⟨F,d,aN,a,b,i,e,rfl,he⟩
 .unfold jJ at h;simp only[k1,ai,hc,cond_true,Option.some.injEq] at h;rw[<-h];exact Nat.zero_le _
 .rw[E0 F d he,qs aN,if_neg aB] at h;cases h;have:=(MK F aN he).2;show (dm u i e).length<=1000;omega
theorem Nb (u:an)(h:List Int)(n:Int):vK u h n=some true:=by
 unfold vK;obtain ⟨b,hb⟩:=MA u;cases b with
 |true=>simp only[hb,ai,cond_true,vJ]
 |false=>
  have L:=Mz hb;simp only[hb,ai,cond_false];by_cases l:20<h.length
  .simp only[decide_eq_true (show (20:Int)<(h.length:Int) by omega),cond_true,vJ]
  .obtain ⟨a,a1,a2⟩:=MX L h aa;obtain ⟨b,i,b2⟩:=MY L;obtain ⟨c,c1,c2⟩:=MZ L n;obtain ⟨d,d1,d2⟩:=M7 L n;obtain ⟨e,e1,e2⟩:=M0 L n;obtain ⟨f,f1,f2⟩:=M1 L;obtain ⟨g,j,k⟩:=M8 L;simp only[decide_eq_false (show ¬(20:Int)<(h.length:Int) by omega),cond_false,cond_true,a1,a2,i,b2,c1,c2,d1,d2,e1,e2,f1,f2,j,k,ai,beq_self_eq_true,bne_self_eq_false,Bool.not_true,M9 c.1 (Na L n c1),Bool.and_self,vJ]
end Go.Proofs.YtbpddfapodiemaaGreatDoor
end

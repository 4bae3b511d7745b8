/- A part of the proof of a row and its tied card: VC2. -/
import Derived.Test.YtjepffnffjdloaaGreatDoorQ10
import Derived.Test.YtjepffnffjdloaaGreatDoorVC1
set_option linter.all false
section
namespace Go.Proofs.YtjepffnffjdloaaGreatDoor
open Go Go.Sep Go.Proofs
set_option maxRecDepth 100000
set_option maxHeartbeats 4000000
def DI (u0:ak)(a:Int)(st:((List Int)×Int)):Option (Fl ((List Int)×Int) Bool):=
 cond (decide (st.2<(u0.told.length:Int))) (ah (nS a st.2) fun b=>cond (((rM b 1)==1)) (ah (cB st.1 ([st.2])) fun c=>some (.nx (c,(IntKind.i64.wrap (st.2+1))))) (some (.nx (st.1,(IntKind.i64.wrap (st.2+1)))))) (some (.bk (st.1,st.2)))
def pg (u0:ak)(a:((List Int)×Int))(st:(Bool×Int)):Option (Fl (Bool×Int) Bool):=
 cond (decide (st.2<(a.1.length:Int))) (ah (ta a.1 st.2) fun c=>ah (kM u0 c) fun d=>ah (fy d) fun b=>cond ((b.2 != 0)) (some (.rt false)) (cond ((b.1==0)) (some (.rt false)) (some (.nx (st.1,(IntKind.i64.wrap (st.2+1))))))) (some (.bk (st.1,st.2)))
def qY (u0:ak)(a:Int)(st:((List Int)×Int)):Option (Fl ((List Int)×Int) Bool):=
 cond (decide (st.2<(u0.told.length:Int))) (ah (nS a st.2) fun b=>cond (((rM b 1)==1)) (ah (cB st.1 ([st.2])) fun c=>some (.nx (c,(IntKind.i64.wrap (st.2+1))))) (some (.nx (st.1,(IntKind.i64.wrap (st.2+1)))))) (some (.bk (st.1,st.2)))
def uJ (u0:ak)(f:Int):Option Bool:=
 ah (kO u0) fun g=>cond (!g) (ah (eH) fun h=>some h) (ah (kJ u0) fun a=>ah (fy u0) fun b=>cond ((a.2 != 0)) (some false) (cond ((b.2 != 0)) (some false) (ah (qv a.1 (u0.told.length:Int)) fun i=>cond ((i != 0)) (some false) (cond (!((decide (0<b.1))==((a.1.length:Int)==0))) (some false) (cond (decide (0<b.1)) (ah (eH) fun j=>some j) (ah (kM u0 a.1) fun k=>ah (fy k) fun c=>cond ((c.2 != 0)) (some false) (cond ((c.1 != 0)) (some false) (ah (bg (pg u0 a) fu (false,0)) fun o=>aG o (fun q=>ah (bg (qY u0 f) fu (([]:List Int),0)) fun o=>aG o (fun d=>ah (kM u0 d.1) fun l=>ah (fy l) fun e=>cond ((e.2==0)) (cond (decide (0<e.1)) (ah (eH) fun m=>some m) (ah (kN d.1 a.1) fun n=>cond (!n) (ah (eH) fun p=>some p) (some false))) (some false)) (fun _ _=>none) (fun r=>some r)) (fun _ _=>none) (fun r=>some r)))))))))
theorem LA:∀n:Fin 4,∀l,l∈eU n.val->qv l (n.val:Int)=some 0:=by decide+kernel
theorem LB:∀l,l∈S3->∀i,i∈List.range l.length->ta l (i:Int)=some (l.eraseIdx i):=by decide+kernel
theorem qZ {n:Nat}{l:List Int}(h:l∈eU n):l∈S3:=by
 have key:∀n:Fin 3,∀l,l∈eU n.val->l∈S3:=by decide+kernel
 rcases Nat.lt_or_ge n 3 with c|c
 ·exact key ⟨n,c⟩ l h
 ·have e:eU n=S3:=by
   obtain ⟨m,rfl⟩:∃m,n=m+3:=⟨n - 3,by omega⟩
   rfl
  rwa [e] at h
theorem za {u:ak}(e:u.told.length<=3){l:List Int}(h:l∈eU u.told.length):kM u l=some (wt u (iF u.told l)):=by
 obtain ⟨f,g,i,j,k,m,T⟩:=u
 rcases T with _|⟨a,_|⟨b,_|⟨c,_|⟨d,T⟩⟩⟩⟩
 ·have h:l∈[[]]:=h
  simp only[List.mem_cons,List.not_mem_nil,or_false] at h
  subst h
  show (_:Option _)=_
  kernel_rfl
 ·have h:l∈[[],[0]]:=h
  simp only[List.mem_cons,List.not_mem_nil,or_false] at h
  rcases h with rfl|rfl
  all_goals show (_:Option _)=_;kernel_rfl
 ·have h:l∈[[],[0],[1],[0,1]]:=h
  simp only[List.mem_cons,List.not_mem_nil,or_false] at h
  rcases h with rfl|rfl|rfl|rfl
  all_goals show (_:Option _)=_;kernel_rfl
 ·have h:l∈[[],[0],[1],[0,1],[2],[0,2],[1,2],[0,1,2]]:=h
  simp only[List.mem_cons,List.not_mem_nil,or_false] at h
  rcases h with rfl|rfl|rfl|rfl|rfl|rfl|rfl|rfl
  all_goals show (_:Option _)=_;kernel_rfl
 ·simp only[List.length_cons] at e;omega
theorem LC {T:List bB}{l:List Int}:∀t,t∈iF T l->t∈T:=fun t ht=>by
 unfold iF at ht
 rw[List.mem_filterMap] at ht
 obtain ⟨i,_,hi⟩:=ht
 exact List.mem_of_getElem? hi
theorem zb {u:ak}(F:Fit u)(h:dM u=some 0){l:List Int}(a:l∈eU u.told.length):∃n:Nat,fy (wt u (iF u.told l))=some ((n:Int),0)/\bZ u (iF u.told l)=(n==0):=by
 have h3:(iF u.told l).length<=3:=Nat.le_trans (List.length_filterMap_le ..) (yb (qZ a))
 have G:=ya F (S:=iF u.told l) LC h3
 refine ⟨_,lW G (xW (show gV u=0 from xV h) G),?_⟩
 unfold bZ
 cases bp (wt u (iF u.told l))<;>rfl
def k6 (a:Int)(i:Nat):Bool:=rM (a.fdiv (2 ^ min (i:Int).toNat IntKind.u8.bits)) 1==1
def jx (a:Int)(i:Nat)(_:bB)(s:List Int):List Int:=if k6 a i then s++[(i:Int)] else s
theorem LD {u:ak}(c:u.told.length<=3)(a:Int):bg (qY u a) fu (([]:List Int),0)=some (.nx (foldI (jx a) 0 u.told [],(u.told.length:Int))):=by
 have:=kT (f:=qY u a) (ρ:=Bool) (g:=jx a) (I:=fun i s=>s.length<=i) (fun s i=>(s,i)) u.told (by omega) (fun i x s b d=>by
  have h:=(List.getElem?_eq_some_iff.1 b).1
  refine ⟨?_,by unfold jx;split<;>(try simp only[List.length_append,List.length_singleton])<;>omega⟩
  unfold qY
  rw[show decide ((s,(i:Int)).2<(u.told.length:Int))=true by simp;omega]
  have e:nS a (i:Int)=some (a.fdiv (2 ^ min (i:Int).toNat IntKind.u8.bits)):=by unfold nS;rw[if_neg (by omega)]
  simp only[cond_true,e,ah,iE (l:=s) (xs:=[(i:Int)]) (by simp;omega)]
  rw[bR (n:=(i:Int)+1) (by omega)]
  unfold jx
  show cond (k6 a i) _ _=_
  cases k6 a i<;>rfl) (fun s=>by
  unfold qY
  simp) [] (by simp)
 exact this.1
theorem LF (a:Int):∀T:List bB,T.length<=3->foldI (jx a) 0 T []∈eU T.length
 |[],_=>by show []∈eU 0;decide
 |[x],_=>by
  show foldI (jx a) 0 [x] []∈eU 1
  simp only[foldI,jx]
  cases k6 a 0<;>decide
 |[x,y],_=>by
  show foldI (jx a) 0 [x,y] []∈eU 2
  simp only[foldI,jx]
  cases k6 a 0<;>cases k6 a (0+1)<;>decide
 |[x,y,z],_=>by
  show foldI (jx a) 0 [x,y,z] []∈eU 3
  simp only[foldI,jx]
  cases k6 a 0<;>cases k6 a (0+1)<;>cases k6 a (0+1+1)<;>decide
 |x::y::z::w::T,h=>by simp only[List.length_cons] at h;omega
theorem LG:∀n,[]∈eU n
 |0=>by decide
 |1=>by decide
 |2=>by decide
 |_+3=>by show []∈S3;decide
theorem LH (u:ak)(a:Int)(v:0<=a/\a<=255):uJ u a=some true:=by
 unfold uJ
 rcases uG u with e|⟨e,L,h,F⟩
 ·simp only[e,ah,Bool.not_false,cond_true,gF]
 have b:=F.told
 have f:=lW F h
 have j:∀l,l∈eU u.told.length->qv l (u.told.length:Int)=some 0:=fun l p=>LA ⟨u.told.length,by omega⟩ l p
 rcases IU F h L with ⟨hs,g⟩|⟨hs,l,g,M⟩
 ·have hn:0<(bp u).length:=List.length_pos_iff.2 (by simpa using hs)
  have h0:=LG u.told.length
  simp only[e,ah,Bool.not_true,cond_false,g,f,bne_self_eq_false,j _ h0,decide_eq_true (show (0:Int)<((bp u).length:Int) by omega),List.length_nil,Int.natCast_zero,beq_self_eq_true,cond_true,gF]
 ·have hn:(bp u).length=0:=by simpa using hs
  obtain ⟨m,k,o⟩:=zb F h M.mem
  have hm:m=0:=by rw[M.IN] at o;simpa using o.symm
  have w:0<l.length:=List.length_pos_iff.2 M.ne
  have y:=yb (qZ M.mem)
  rw[hn] at f
  rw[hm] at k
  have q:bg (pg u (l,0)) fu (false,0)=some (.nx (false,(l.length:Int))):=by
   refine y8 l (by omega) (fun i x s z hi=>?_) (fun s=>?_) false
   ·obtain ⟨k1,r⟩:=M.less i hi
    obtain ⟨n,n1,n2⟩:=zb F h k1
    rw[r] at n2
    have A:n≠0:=by simpa using n2.symm
    unfold pg
    rw[show decide ((s,(i:Int)).2<(((l,(0:Int)).1.length:Nat):Int))=true by simp;omega]
    simp only[cond_true,LB l (qZ M.mem) i (List.mem_range.2 hi),ah,za b k1,n1,bne_self_eq_false,cond_false]
    rw[show ((n:Int)==0)=false by rw[beq_eq_false_iff_ne];omega]
    rfl
   ·unfold pg
    simp
  have d:=LF a u.told b
  obtain ⟨n,n1,n2⟩:=zb F h d
  simp only[e,ah,Bool.not_true,cond_false,g,f,bne_self_eq_false,j _ M.mem,Int.natCast_zero,show decide ((0:Int)<0)=false from rfl,show ((l.length:Int)==0)=false by rw[beq_eq_false_iff_ne];omega,beq_self_eq_true,za b M.mem,k,q,aG,LD b a,za b d,n1,cond_true]
  by_cases c:n=0
  ·subst c
   have t:=M.least _ d (by rw[n2];rfl)
   simp only[Int.natCast_zero,show decide ((0:Int)<0)=false from rfl,cond_false,Cj _ (qZ d) _ (qZ M.mem),t,Bool.not_false,cond_true,gF]
  ·rw[decide_eq_true (show (0:Int)<(n:Int) by omega)]
   simp only[cond_true,gF]
theorem LI {ro:Addr->Option Value}(a:cU ro)(u0:ak){s1 d f X:Value}(b:bI ro u0 s1 d f X)(P:Int){r:Bool}(bc:r=true)(h:uJ u0 P=some r):fY Tryz.prog 7 #[bv u0 s1 d f X,.int .u8 P] ⟨ro,[]⟩ (fun v _=>v= .bool r):=by
 obtain ⟨d24,k,rfl,fS,fU,-⟩:=id b.t
 subst bc
 unfold uJ at h
 refine fY.go Tryz.func7 rfl Tryz.ntmps7 Tryz.results7 (by simp) (by kernel_rfl) fun Φ hJ A bd hd hs=>?_
 have bj:=hs 0
 have k1:=hs 1
 clear hs
 refine aa hJ (ag hJ ?_)
 simp only[*,go_sem]
 refine ax fun n o bl=>?_;try simp only[au] at bl
 try simp only[*,go_sem]
 refine aa hJ (aa hJ (ag hJ ?_))
 revert h;refine bS fun gg bm h=>?_
 simp only[*,go_sem]
 refine aM hJ _ (s9 u0 (b.mono aH) bm) (aD ?_)
 try simp only[*,go_sem]
 revert h;refine jC hJ (by simp only[*,go_sem]) (fun bo h=>?_) fun bo h=>?_
 ·refine aa hJ (ag hJ ?_)
  revert h;refine bS fun gl br h=>?_
  obtain rfl:=sI h
  simp only[*,go_sem]
  refine e6 _ (e9 a br) (aD ?_)
  try simp only[*,go_sem]
  refine ay ?_
  simp only[*,go_sem]
 refine aF hJ (aa hJ ?_)
 refine ag hJ ?_
 revert h;refine bS fun w bs h=>?_
 simp only[*,go_sem]
 refine bV hJ _ (wY a u0 b bs) fun v gn Y Z i=>?_
 obtain ⟨gp,rfl,c⟩:=i
 replace b:=b.mono Y
 replace o:=Z.hd
 replace a:=a.mono Y
 simp only[bf] at Z
 obtain ⟨d42,gB,rfl,gC,gM,-⟩:=id c
 refine aD ?_
 try simp only[*,go_sem]
 refine aa hJ (ag hJ ?_)
 revert h;refine bS fun gT bz h=>?_
 simp only[*,go_sem]
 refine aM hJ _ (jN (a.mono aH) u0 (b.mono aH) bz) (aD ?_)
 try simp only[*,go_sem]
 refine aa hJ (aa hJ (ag hJ ?_))
 revert h;refine cS (fun b0 h=>?_) fun b0 h=>?_
 ·cases h
 revert h;refine cS (fun b1 h=>?_) fun b1 h=>?_
 ·cases h
 revert h;refine bS fun gV b2 h=>?_
 try simp only[*,go_sem]
 refine aM hJ _ (Hf w.1 (c.mono aH) (u0.told.length:Int) b2) (aD ?_)
 revert h;refine cS (fun b3 h=>?_) fun b3 h=>?_
 ·cases h
 try simp only[*,go_sem]
 revert h;refine jC hJ (by simp only[*,go_sem]) (fun b4 h=>?_) fun b4 h=>?_
 ·cases h
 refine aF hJ (aa hJ ?_)
 refine aa hJ (ag hJ ?_)
 simp only[*,go_sem]
 revert h;refine jC hJ (by simp only[*,go_sem]) (fun b5 h=>?_) fun b5 h=>?_
 ·refine aa hJ (ag hJ ?_)
  revert h;refine bS fun g0 ca h=>?_
  obtain rfl:=sI h
  simp only[*,go_sem]
  refine e6 _ (e9 a ca) (aD ?_)
  try simp only[*,go_sem]
  refine ay ?_
  simp only[*,go_sem]
 refine aF hJ (aa hJ ?_)
 refine aa hJ (ag hJ ?_)
 revert h;refine bS fun cb cd h=>?_
 simp only[*,go_sem]
 refine bV hJ _ (xm u0 b w.1 c cd) fun v ab Q ad i=>?_
 obtain ⟨g1,g2,g3,g4,rfl,z⟩:=i
 replace b:=b.mono Q
 replace c:=c.mono Q
 replace o:=ad.hd
 replace a:=a.mono Q
 simp only[bf] at ad
 obtain ⟨d65,ha,rfl,hc,hf,-⟩:=id z.e
 obtain ⟨d72,hg,rfl,hh,hi,-⟩:=id z.p
 obtain ⟨d79,hj,rfl,hk,hl,-⟩:=id z.y
 obtain ⟨d86,hn,rfl,ho,hp,-⟩:=id z.t
 refine aD ?_
 revert h;refine bS fun hq cf h=>?_
 try simp only[*,go_sem]
 refine aM hJ _ (jN (a.mono aH) cb (z.mono aH) cf) (aD ?_)
 try simp only[*,go_sem]
 refine aa hJ (ag hJ ?_)
 revert h;refine cS (fun cl h=>?_) fun cl h=>?_
 ·cases h
 try simp only[*,go_sem]
 revert h;refine jC hJ (by simp only[*,go_sem]) (fun cy h=>?_) fun cy h=>?_
 ·cases h
 refine aF hJ (aa hJ ?_)
 refine aa hJ (ag hJ ?_)
 simp only[*,go_sem]
 refine aU hJ ?_
 revert h;refine bS fun c0 I R=>?_
 refine bX hJ [4,11,12,13,70,71,72,73,74,75,76,77,78,79,80,81,82,83,84,85,86,87,88,89,90] (fun m B F'=>∃(q:Addr->Option Value) (J:Bool) (C:Int),bg (pg u0 w) m (J,C)=some c0/\F'=⟨q,(n,bk u0 s1 d f (sl d24 u0.told k))::[]⟩/\Ext ab q/\slot B 4= .bool J/\slot B 11= .int .i64 C) fu ?_ ?_
 ·refine ⟨ab,false,0,I,rfl,Ext.refl _,?_⟩
  simp only[*,go_sem]
 rintro S hr F' ae ⟨q,J,C,I,rfl,K,da,db⟩
 refine gb hJ fun _ al=>?_
 replace c:=c.mono K
 replace b:=b.mono K
 replace o:=al.hd
 replace a:=a.mono K
 simp only[bf] at al
 obtain ⟨ao,ar,a0⟩:=ae.pick [1,2,5] (by decide)
 simp only[*,go_sem] at ao ar a0
 clear ae bd hd bj k1
 obtain _|S:=S
 ·exact absurd I (by simp only[bg,reduceCtorEq,not_false_eq_true])
 revert I;refine bS fun ht h s=>?_
 unfold pg at h
 try dsimp only at h
 refine aa hJ (aa hJ (ag hJ ?_))
 simp only[*,go_sem]
 revert h;refine jC hJ (by simp only[*,go_sem]) (fun dd h=>?_) fun dd h=>?_
 ·refine aF hJ (aa hJ ?_)
  refine aU hJ (aa hJ ?_)
  refine fN hJ mixed [] (.rd 0 (.pure 1 (.pure 2 (.one 3 (.one 4 (.one 5 (.pure 6 (.pure 7 (.pure 8 (.pure 9 (.pure 10 .done))))))))))) ⟨q,[(n,bk u0 s1 d f (sl d24 u0.told k))]⟩ (by simp only[*,go_sem]) (by kernel_rfl) ?_
  revert h;refine bS fun df dk h=>?_
  simp only[*,go_sem]
  refine bV hJ _ (Hg w.1 c C dk) fun v hv u a2 i=>?_
  obtain ⟨hx,rfl,a3⟩:=i
  replace c:=c.mono u
  replace b:=b.mono u
  replace o:=a2.hd
  replace a:=a.mono u
  simp only[bf] at a2
  obtain ⟨d113,hy,rfl,hz,hA,-⟩:=id a3
  have hB:=eo (l:=[(n,bk u0 s1 d f (sl d24 u0.told k))]) u (aA.cons o (aA.nil _))
  refine ⟨by simp only[*,go_sem],?_⟩
  refine bN ?_
  revert h;refine bS fun dp dq h=>?_
  try simp only[*,go_sem]
  refine bV hJ _ (xm u0 b df a3 dq) fun v ds D a4 i=>?_
  obtain ⟨hD,hE,hF,hG,rfl,E⟩:=i
  replace c:=c.mono D
  replace b:=b.mono D
  replace o:=a4.hd
  replace a:=a.mono D
  simp only[bf] at a4
  obtain ⟨d126,hI,rfl,hK,hL,-⟩:=id E.e
  obtain ⟨d133,hM,rfl,hN,hP,-⟩:=id E.p
  obtain ⟨d140,hQ,rfl,hR,hS,-⟩:=id E.y
  obtain ⟨d147,hT,rfl,hV,hX,-⟩:=id E.t
  have hY:=eo (l:=[(n,bk u0 s1 d f (sl d24 u0.told k))]) (u.trans D) (aA.cons o (aA.nil _))
  refine ⟨by simp only[*,go_sem],?_⟩
  refine bN ?_
  revert h;refine bS fun hZ dt h=>?_
  try simp only[*,go_sem]
  refine aM hJ _ (jN (a.mono aH) dp (E.mono aH) dt) ⟨by simp only[*,go_sem],bN ?_⟩
  try simp only[*,go_sem]
  refine aa hJ (ag hJ ?_)
  revert h;refine cS (fun du h=>?_) fun du h=>?_
  ·obtain rfl:=sI h
   try simp only[*,go_sem]
   refine bK hJ (by simp only[*,go_sem]) ?_
   refine aa hJ (ag hJ ?_)
   simp only[*,go_sem]
   obtain rfl:=sI s;clear s
   have h:=R
   dsimp only[aG] at h
   cases h
  try simp only[*,go_sem]
  revert h;refine jC hJ (by simp only[*,go_sem]) (fun dv h=>?_) fun dv h=>?_
  ·obtain rfl:=sI h
   refine aa hJ (ag hJ ?_)
   simp only[*,go_sem]
   obtain rfl:=sI s;clear s
   have h:=R
   dsimp only[aG] at h
   cases h
  obtain rfl:=sI h
  refine aF hJ (ag hJ ?_)
  simp only[*,go_sem]
  refine ⟨S,Nat.lt_succ_self _,_,Le.sub (List.Sublist.refl _),ds,J,(IntKind.i64.wrap (C+1)),s,rfl,(K.trans (u.trans D)),?_⟩
  simp only[*,go_sem]
 obtain rfl:=sI h
 refine bU ?_
 simp only[go_sem]
 obtain rfl:=sI s;clear s
 have h:=R
 dsimp only[aG] at h
 refine aa hJ (ag hJ ?_)
 simp only[*,go_sem]
 refine aa hJ (aa hJ (ag hJ ?_))
 simp only[*,go_sem]
 refine aU hJ ?_
 revert h;refine bS fun dC L dE=>?_
 refine bX hJ [14,15,91,92,93,94,95,96,97,98,99,100,101,102,103,104,105,106] (fun m B F'=>∃(d158:Option Addr) (F:Nat) (M:List (Nat×Obj)) (g:(List Int)) (j:Int),bg (DI u0 P) m (g,j)=some dC/\F'=⟨q,(n,bk u0 s1 d f (sl d24 u0.told k))::M⟩/\aW rI q 3 (.slice d158 g.length F) g M/\g.length<=F/\slot B 14= .slice d158 g.length F/\slot B 15= .int .i64 j) fu ?_ ?_
 ·refine ⟨none,0,[],([]:List Int),0,L,rfl,aW.nil _ _ _,Nat.le_refl _,?_⟩
  simp only[*,go_sem]
 rintro N h0 F' a5 ⟨d158,F,M,g,j,L,rfl,T,dT,h1,h2⟩
 obtain ⟨ea,eb,ec⟩:=a5.pick [1,2,4,5] (by decide)
 simp only[*,go_sem] at ea eb ec
 clear a5 ao ar a0 da db
 obtain _|N:=N
 ·exact absurd L (by simp only[bg,reduceCtorEq,not_false_eq_true])
 revert L;refine bS fun h3 h O=>?_
 unfold DI at h
 try dsimp only at h
 refine aa hJ (aa hJ ?_)
 refine aL hJ fun h4=>?_
 refine ag hJ ?_
 simp only[*,go_sem]
 revert h;refine jC hJ (by simp only[*,go_sem]) (fun ed h=>?_) fun ed h=>?_
 ·refine aF hJ (aa hJ ?_)
  refine aU hJ (aa hJ ?_)
  refine aL hJ fun h5=>?_
  refine ag hJ ?_
  revert h;refine bS fun h6 a6 h=>?_
  obtain ⟨h7,eh⟩:=EJ a6
  clear a6
  try simp only[go_sem] at eh
  try simp only[*,go_sem]
  revert h;refine jC hJ (by simp only[*,go_sem]) (fun et h=>?_) fun et h=>?_
  ·refine aL hJ fun ev=>?_
   refine ag hJ ?_
   revert h;refine bS fun eQ eS h=>?_
   obtain rfl:=sI h
   obtain ⟨e0,a7⟩:=cT eS
   simp only[*,go_sem]
   refine ax fun a8 e1 a9=>?_;have e3:=aN.cons a9 ev;try simp only[au] at a9
   try simp only[*,go_sem]
   refine dG (r:=rI) (l:=g) (x:=j) (cs:=#[.int .i64 j]) (e2:=3) [(a8,ic j),(n,bk u0 s1 d f (sl d24 u0.told k))] [] T e3 e0 rfl (by simp only[*,go_sem]) e1 rfl rfl eK eK iZ jb rfl ja (by decide) (by decide) (fun h8 ba U fa fb h9=>?_)
   simp only[List.append_nil,List.cons_append,List.nil_append,List.append_assoc] at fb
   subst fa
   rw[<-a7] at U;clear a7
   obtain ⟨d185,ff,rfl,fg⟩:=U.len
   refine ⟨⟨q,(a8,ic j)::(n,bk u0 s1 d f (sl d24 u0.told k))::ba⟩,Le.refl _,?_⟩
   refine aD ?_
   try simp only[*,go_sem]
   refine aL hJ fun ib=>?_
   refine ag hJ ?_
   simp only[*,go_sem]
   refine ⟨N,Nat.lt_succ_self _,_,Le.sub (List.Sublist.cons _ (List.Sublist.refl _)),d185,ff,ba,eQ,(IntKind.i64.wrap (j+1)),O,rfl,U,fg,?_⟩
   simp only[*,go_sem]
  obtain rfl:=sI h
  refine aF hJ ?_
  refine aL hJ fun ih=>?_
  refine ag hJ ?_
  simp only[*,go_sem]
  refine ⟨N,Nat.lt_succ_self _,_,Le.sub (List.Sublist.refl _),d158,F,M,g,(IntKind.i64.wrap (j+1)),O,rfl,T,dT,?_⟩
  simp only[*,go_sem]
 obtain rfl:=sI h
 refine bU ?_
 simp only[go_sem]
 obtain rfl:=sI O;clear O
 have h:=dE
 dsimp only[aG] at h
 refine aa hJ ?_
 refine aL hJ fun bb=>?_
 obtain ⟨ik,V,fi,G,fl⟩:=T.eB [(n,bk u0 s1 d f (sl d24 u0.told k))] [] bb (aA.cons o (aA.nil _))
 clear bb
 refine cH hJ fl ?_
 obtain ⟨il,im,-⟩:=G.op
 replace c:=c.mono V
 replace b:=b.mono V
 replace a:=a.mono V
 simp only[bf] at fi
 refine ag hJ ?_
 revert h;refine bS fun fp fq h=>?_
 simp only[*,go_sem]
 refine bV hJ _ (xm u0 b g G fq) fun v iv W fr i=>?_
 obtain ⟨ix,j1,j2,kh,rfl,H⟩:=i
 replace c:=c.mono W
 replace G:=G.mono W
 replace a:=a.mono W
 simp only[bf] at fr
 obtain ⟨d209,kj,rfl,kk,kl,-⟩:=id H.e
 obtain ⟨km,kn,rfl,kp,ks,-⟩:=id H.p
 obtain ⟨kt,kv,rfl,kx,ky,-⟩:=id H.y
 obtain ⟨k0,k2,rfl,lb,lh,-⟩:=id H.t
 refine aD ?_
 revert h;refine bS fun lj fs h=>?_
 try simp only[*,go_sem]
 refine aM hJ _ (jN (a.mono aH) fp (H.mono aH) fs) (aD ?_)
 try simp only[*,go_sem]
 refine aa hJ (ag hJ ?_)
 revert h;refine cS (fun ft h=>?_) fun ft h=>?_
 ·revert h;refine cS (fun fv h=>?_) fun fv h=>?_
  ·revert h;refine bS fun lk fw h=>?_
   obtain rfl:=sI h
   try simp only[*,go_sem]
   refine e6 _ (e9 a fw) (aD ?_)
   try simp only[*,go_sem]
   refine ay ?_
   simp only[*,go_sem]
  revert h;refine bS fun ll fx h=>?_
  try simp only[*,go_sem]
  refine aM hJ _ (G5 g (G.mono aH) w.1 (c.mono aH) fx) (aD ?_)
  revert h;refine cS (fun fP h=>?_) fun fP h=>?_
  ·revert h;refine bS fun ln fQ h=>?_
   obtain rfl:=sI h
   try simp only[*,go_sem]
   refine e6 _ (e9 a fQ) (aD ?_)
   try simp only[*,go_sem]
   refine ay ?_
   simp only[*,go_sem]
  cases h
 cases h
end Go.Proofs.YtjepffnffjdloaaGreatDoor
end

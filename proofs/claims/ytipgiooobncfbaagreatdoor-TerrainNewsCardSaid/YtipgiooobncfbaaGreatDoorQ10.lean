/- A part of the proof of a row and its tied card: part 10. -/
import Derived.Test.YtipgiooobncfbaaGreatDoorQ9
set_option linter.all false
section
namespace Go.Proofs.YtipgiooobncfbaaGreatDoor
open Go Go.Sep Go.Proofs
set_option maxRecDepth 100000
set_option maxHeartbeats 4000000
def s6 (u0:aj)(c:bx)(d:Int)(e:cr):Option Bool:=
 ah (lV u0) fun l=>cond (l) (ah (om) fun m=>some m) (ah (kB u0) fun f=>ah (mh u0) fun g=>ah (m8 f.1 g.1) fun n=>cond (!n) (some false) (cond ((f.2 != g.2)) (some false) (ah (nv u0) fun a=>ah (p6 u0) fun b=>cond ((a.1 != b.1)) (some false) (cond ((a.2.1 != b.2.1)) (some false) (cond ((a.2.2 != b.2.2)) (some false) (ah (lR u0 c) fun h=>ah (pZ u0 c) fun i=>ah (nS h.1 i.1) fun o=>cond (!o) (some false) (cond ((h.2 != i.2)) (some false) (ah (nB u0 d e) fun j=>ah (p5 u0 d e) fun k=>ah (nS j.1 k.1) fun p=>cond (p) (cond ((j.2==k.2)) (ah (om) fun q=>some q) (some false)) (some false)))))))))
theorem Jk {u:aj}(h:lV u=some false):gG u:=by
 unfold lV at h
 rcases iz h with ⟨a,h⟩|⟨a,h⟩
 ·cases h
 rcases iz h with ⟨b,h⟩|⟨b,h⟩
 ·cases h
 rcases iz h with ⟨c,h⟩|⟨c,h⟩
 ·cases h
 have d:=Option.some.inj h
 simp only[decide_eq_false_iff_not] at a b c d
 exact ⟨by omega,by omega,by omega,by omega⟩
theorem Jl (u:aj):∃b,lV u=some b:=by
 unfold lV
 cases decide (20<(u.aB.length:Int))<;>cases decide (20<(u.props.length:Int))<;>cases decide (20<(u.aC.length:Int))<;>exact ⟨_,rfl⟩
theorem B7 {α ρ:Type}:∀(l:List α) (i:Nat),gZ (fun _ _=>(none:Option ρ)) i l=none
 |[],_=>rfl
 |x::l,i=>by unfold gZ;exact B7 l (i+1)
theorem alike {α:Type}(l:List α)(b:l.length<=1000){f:Bool×Int->Option (Fl (Bool×Int) Bool)}(h:∀(i:Nat) x s,l[i]?=some x->i<l.length->f (s,(i:Int))=some (.nx (s,IntKind.i64.wrap ((i:Int)+1))))(c:∀s,f (s,(l.length:Int))=some (.bk (s,(l.length:Int))))(s:Bool):
  aR f fu (s,0)=some (.nx (s,(l.length:Int))):=by
 have:=AK (t:=fun _ _=>(none:Option Bool)) l b (f:=f) (fun i x s a=>by
  have d:=(List.getElem?_eq_some_iff.1 a).1
  rw[h i x s a d,cF (by omega)]
  rfl) c s
 rw[B7] at this
 exact this
theorem Jm (l:List Int)(a:l.length<=1000):m8 l l=some true:=by
 unfold m8
 rw[show ((l.length:Int) != (l.length:Int))=false by simp]
 simp only[cond_false]
 rw[alike l a (fun i x s b c=>by
  unfold pF
  rw[show decide ((s,(i:Int)).2<(l.length:Int))=true by simp;omega]
  simp only[cond_true,fL b,ah,bne_self_eq_false,cond_false]) (fun s=>by
  unfold pF
  rw[show decide ((s,(l.length:Int)).2<(l.length:Int))=false by simp]
  rfl)]
 rfl
theorem B8 {u:aj}(L:gG u):nS u u=some true:=by
 unfold nS
 simp only[bne_self_eq_false,beq_self_eq_true,Bool.and_self,Bool.not_true,cond_false]
 rw[alike u.aB (by have:=L.e;omega) (fun i x s a b=>by
  unfold p7
  rw[show decide ((s,(i:Int)).2<(u.aB.length:Int))=true by simp;omega]
  simp only[cond_true,fL a,ah,beq_self_eq_true,Bool.and_self,Bool.not_true,cond_false]) (fun s=>by
  unfold p7
  rw[show decide ((s,(u.aB.length:Int)).2<(u.aB.length:Int))=false by simp]
  rfl)]
 simp only[ah,aF]
 rw[alike u.props (by have:=L.p;omega) (fun i x s a b=>by
  unfold vY
  rw[show decide ((s,(i:Int)).2<(u.props.length:Int))=true by simp;omega]
  simp only[cond_true,fL a,ah,beq_self_eq_true,Bool.and_self,Bool.not_true,cond_false]) (fun s=>by
  unfold vY
  rw[show decide ((s,(u.props.length:Int)).2<(u.props.length:Int))=false by simp]
  rfl)]
 simp only[ah,aF]
 rw[alike u.aC (by have:=L.y;omega) (fun i x s a b=>by
  unfold vZ
  rw[show decide ((s,(i:Int)).2<(u.aC.length:Int))=true by simp;omega]
  simp only[cond_true,fL a,ah,beq_self_eq_true,Bool.and_self,Bool.not_true,cond_false]) (fun s=>by
  unfold vZ
  rw[show decide ((s,(u.aC.length:Int)).2<(u.aC.length:Int))=false by simp]
  rfl)]
 simp only[ah,aF]
 rw[alike u.told (by have:=L.t;omega) (fun i x s a b=>by
  unfold v5
  rw[show decide ((s,(i:Int)).2<(u.told.length:Int))=true by simp;omega]
  simp only[cond_true,fL a,ah,beq_self_eq_true,Bool.and_self,Bool.not_true,cond_false]) (fun s=>by
  unfold v5
  rw[show decide ((s,(u.told.length:Int)).2<(u.told.length:Int))=false by simp]
  rfl)]
theorem Jn (u:aj)(t:bx)(n:Int)(x:cr):s6 u t n x=some true:=by
 unfold s6
 obtain ⟨b,hb⟩:=Jl u
 rw[hb]
 cases b with
 |true=>simp only[ah,cond_true,xB]
 |false=>
  have L:=Jk hb
  obtain ⟨a,a1,a2,a3⟩:=GK L
  obtain ⟨c,c1,c2⟩:=Gw L
  obtain ⟨d,d1,d2,d3⟩:=Gl L t
  obtain ⟨e,e1,e2,f⟩:=Gq L n x
  simp only[ah,cond_false,a1,a2,c1,c2,d1,d2,e1,e2,Jm a.1 (by omega),B8 d3,B8 f,bne_self_eq_false,beq_self_eq_true,Bool.not_true,cond_true,xB]
theorem Jo {ro:Addr->Option Value}(b:cY ro)(u0:aj){s1 o q s:Value}(a:bt ro u0 s1 o q s)(f:bx)(i:Int)(g:cr){r:Bool}(h:s6 u0 f i g=some r):lp Tryz.prog 5 #[bv u0 s1 o q s,.agg #[.int .i64 f.aT,.bool f.bg],.int .i64 i,.agg #[.int .i64 g.low,.int .i64 g.high]] ⟨ro,[]⟩ (fun v _=>v= .bool r):=by
 unfold s6 at h
 have J:=a.oc;simp only[bw] at J
 refine lp.go Tryz.func5 rfl Tryz.ntmps5 Tryz.results5 (by simp) (by kernel_rfl) fun Φ hJ A K hd hs=>?_
 have L:=hs 0
 have k1:=hs 1
 have M:=hs 2
 have N:=hs 3
 clear hs
 refine aa hJ (af hJ ?_)
 simp only[*,go_sem]
 refine an fun cf cl O=>?_;try simp only[ak] at O
 refine an fun cy c0 P=>?_;try simp only[ak] at P
 refine an fun da db Q=>?_;try simp only[ak] at Q
 try simp only[*,go_sem]
 refine aa hJ (aa hJ (af hJ ?_))
 revert h;refine bS fun dd R h=>?_
 simp only[*,go_sem]
 refine aO hJ _ (Fe u0 (a.mono aN) R) ?_
 try simp only[*,go_sem]
 revert h;refine jC hJ (by simp only[*,go_sem]) (fun S h=>?_) fun S h=>?_
 ·refine aa hJ (af hJ ?_)
  revert h;refine bS fun df T h=>?_
  obtain rfl:=sI h
  simp only[*,go_sem]
  refine yE _ (B6 b T) (aE ?_)
  try simp only[*,go_sem]
  refine av ?_
  simp only[*,go_sem]
 refine aD hJ (aa hJ ?_)
 refine af hJ ?_
 revert h;refine bS fun U V h=>?_
 simp only[*,go_sem]
 refine bN hJ _ (vB b u0 a V) fun v dk u W c=>?_
 obtain ⟨dp,rfl,j⟩:=c
 replace a:=a.mono u
 replace b:=b.mono u
 simp only[aU] at W
 obtain ⟨d44,dq,rfl,ds,dt,-⟩:=id j
 refine aE ?_
 try simp only[*,go_sem]
 refine aa hJ (af hJ ?_)
 revert h;refine bS fun X Y h=>?_
 simp only[*,go_sem]
 refine bN hJ _ (FF u0 a Y) fun v du m Z c=>?_
 obtain ⟨dv,rfl,w⟩:=c
 replace a:=a.mono m
 replace j:=j.mono m
 replace b:=b.mono m
 simp only[aU] at Z
 obtain ⟨d56,dC,rfl,dE,dT,-⟩:=id w
 refine aE ?_
 try simp only[*,go_sem]
 refine aa hJ (aa hJ (af hJ ?_))
 revert h;refine bS fun ea ab h=>?_
 simp only[*,go_sem]
 refine aO hJ _ (zy U.1 (j.mono aN) X.1 (w.mono aN) ab) (aE ?_)
 revert h;refine cS (fun ad h=>?_) fun ad h=>?_
 ·obtain rfl:=sI h
  try simp only[*,go_sem]
  refine bD hJ (by simp only[*,go_sem]) ?_
  refine aa hJ (af hJ ?_)
  simp only[*,go_sem]
  refine av ?_
  simp only[*,go_sem]
 try simp only[*,go_sem]
 revert h;refine jC hJ (by simp only[*,go_sem]) (fun ae h=>?_) fun ae h=>?_
 ·obtain rfl:=sI h
  refine aa hJ (af hJ ?_)
  simp only[*,go_sem]
  refine av ?_
  simp only[*,go_sem]
 refine aD hJ (aa hJ ?_)
 refine af hJ ?_
 revert h;refine bS fun eb al h=>?_
 simp only[*,go_sem]
 refine aO hJ _ (zJ (b.mono aN) u0 (a.mono aN) al) (aE ?_)
 try simp only[*,go_sem]
 refine aa hJ ?_
 refine eM [2,4,5,7,8,10,12,13,14] fun ec x z B=>?_
 simp only[*,go_sem] at x z B
 clear K hd L k1 M N
 refine af hJ ?_
 revert h;refine bS fun ed ao h=>?_
 simp only[*,go_sem]
 refine aO hJ _ (Fz u0 (a.mono aN) ao) (aE ?_)
 try simp only[*,go_sem]
 refine aa hJ (aa hJ (af hJ ?_))
 revert h;refine cS (fun ar h=>?_) fun ar h=>?_
 ·obtain rfl:=sI h
  try simp only[*,go_sem]
  refine bD hJ (by simp only[*,go_sem]) ?_
  refine aa hJ (af hJ ?_)
  simp only[*,go_sem]
  refine av ?_
  simp only[*,go_sem]
 revert h;refine cS (fun a0 h=>?_) fun a0 h=>?_
 ·obtain rfl:=sI h
  try simp only[*,go_sem]
  refine bD hJ (by simp only[*,go_sem]) ?_
  refine aa hJ (af hJ ?_)
  simp only[*,go_sem]
  refine av ?_
  simp only[*,go_sem]
 try simp only[*,go_sem]
 revert h;refine jC hJ (by simp only[*,go_sem]) (fun a2 h=>?_) fun a2 h=>?_
 ·obtain rfl:=sI h
  refine aa hJ (af hJ ?_)
  simp only[*,go_sem]
  refine av ?_
  simp only[*,go_sem]
 refine aD hJ (aa hJ ?_)
 refine af hJ ?_
 revert h;refine bS fun a3 a4 h=>?_
 simp only[*,go_sem]
 refine bN hJ _ (pN b u0 a f a4) fun v eh C a5 c=>?_
 obtain ⟨et,ev,eQ,eS,rfl,k⟩:=c
 have a6:=k.oc;simp only[bw] at a6
 replace a:=a.mono C
 replace b:=b.mono C
 simp only[aU] at a5
 refine aE ?_
 try simp only[*,go_sem]
 refine an fun e0 e1 a7=>?_;try simp only[ak] at a7
 try simp only[*,go_sem]
 refine aa hJ ?_
 refine eM [2,4,5,7,8,10,12,17] fun e2 D E F=>?_
 simp only[*,go_sem] at D E F
 clear x z B
 refine af hJ ?_
 revert h;refine bS fun a8 a9 h=>?_
 simp only[*,go_sem]
 refine bN hJ _ (Fx u0 a f a9) fun v e3 n ba c=>?_
 obtain ⟨fa,fb,fg,fi,rfl,G⟩:=c
 have bb:=G.oc;simp only[bw] at bb
 replace a:=a.mono n
 replace k:=k.mono n
 replace b:=b.mono n
 simp only[aU] at ba
 refine aE ?_
 try simp only[*,go_sem]
 refine an fun fp fr bc=>?_;try simp only[ak] at bc
 try simp only[*,go_sem]
 refine aa hJ (aa hJ (af hJ ?_))
 revert h;refine bS fun fs bd h=>?_
 simp only[*,go_sem]
 refine aO hJ _ (z5 a3.1 (k.mono aN) a8.1 (G.mono aN) bd) (aE ?_)
 revert h;refine cS (fun bj h=>?_) fun bj h=>?_
 ·obtain rfl:=sI h
  try simp only[*,go_sem]
  refine bD hJ (by simp only[*,go_sem]) ?_
  refine aa hJ (af hJ ?_)
  simp only[*,go_sem]
  refine av ?_
  simp only[*,go_sem]
 try simp only[*,go_sem]
 revert h;refine jC hJ (by simp only[*,go_sem]) (fun bk h=>?_) fun bk h=>?_
 ·obtain rfl:=sI h
  refine aa hJ (af hJ ?_)
  simp only[*,go_sem]
  refine av ?_
  simp only[*,go_sem]
 refine aD hJ (aa hJ ?_)
 refine af hJ ?_
 revert h;refine bS fun bl bm h=>?_
 simp only[*,go_sem]
 refine bN hJ _ (vt b u0 a i g bm) fun v ft H bo c=>?_
 obtain ⟨fu,fv,fw,fx,rfl,l⟩:=c
 have br:=l.oc;simp only[bw] at br
 replace a:=a.mono H
 replace b:=b.mono H
 simp only[aU] at bo
 refine aE ?_
 try simp only[*,go_sem]
 refine aa hJ (af hJ ?_)
 revert h;refine bS fun bs bz h=>?_
 simp only[*,go_sem]
 refine bN hJ _ (Fy u0 a i g bz) fun v gg I b0 c=>?_
 obtain ⟨gl,gn,gp,gB,rfl,d⟩:=c
 have b1:=d.oc;simp only[bw] at b1
 replace l:=l.mono I
 replace b:=b.mono I
 simp only[aU] at b0
 obtain ⟨d186,gC,rfl,gM,gT,-⟩:=id d.e
 obtain ⟨d193,gV,rfl,g0,g1,-⟩:=id d.p
 obtain ⟨d200,g2,rfl,g3,g4,-⟩:=id d.y
 obtain ⟨d207,ha,rfl,hc,hf,-⟩:=id d.t
 refine aE ?_
 try simp only[*,go_sem]
 refine aa hJ ?_
 refine eM [8,10,12,17,18] fun hg b2 b3 b4=>?_
 simp only[*,go_sem] at b2 b3 b4
 clear D E F
 refine af hJ ?_
 revert h;refine bS fun hh b5 h=>?_
 simp only[*,go_sem]
 refine aO hJ _ (z5 bl.1 (l.mono aN) bs.1 (d.mono aN) b5) (aE ?_)
 revert h;refine cS (fun ca h=>?_) fun ca h=>?_
 ·revert h;refine cS (fun cb h=>?_) fun cb h=>?_
  ·revert h;refine bS fun hi cd h=>?_
   obtain rfl:=sI h
   try simp only[*,go_sem]
   refine yE _ (B6 b cd) (aE ?_)
   try simp only[*,go_sem]
   refine av ?_
   simp only[*,go_sem]
  obtain rfl:=sI h
  try simp only[*,go_sem]
  refine av ?_
  simp only[*,go_sem]
 obtain rfl:=sI h
 try simp only[*,go_sem]
 refine av ?_
 simp only[*,go_sem]
end Go.Proofs.YtipgiooobncfbaaGreatDoor
end

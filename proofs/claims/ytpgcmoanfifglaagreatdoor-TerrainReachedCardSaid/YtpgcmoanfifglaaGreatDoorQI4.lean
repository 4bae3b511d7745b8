/- A part of the proof of a row and its tied card: QI4. -/
import Derived.Test.YtpgcmoanfifglaaGreatDoorQI3
set_option linter.all false
section
namespace Go.Proofs.YtpgcmoanfifglaaGreatDoor
open Go Go.Sep Go.Proofs
set_option maxRecDepth 100000
set_option maxHeartbeats 4000000
theorem G1:Tryz.prog.underlying 3=some (.int .i64):=by kernel_rfl
attribute [go_sem] G1
theorem G2:Tryz.prog.underlying 187=some (.int .u64):=by kernel_rfl
attribute [go_sem] G2
theorem G3:Tryz.prog.underlying 205=some (.int .u64):=by kernel_rfl
attribute [go_sem] G3
theorem G4:Tryz.prog.underlying 254=some (.int .u64):=by kernel_rfl
attribute [go_sem] G4
def wF (u0:Int):Option (Int×Int):=
 ag (pE u0 13) fun a=>ag (vt (gQ u0 a) 7) fun b=>ag (pE (gQ (gQ u0 a) b) 17) fun c=>some ((gQ (gQ (gQ u0 a) b) c),(gQ (gQ (gQ u0 a) b) c))
theorem G5 {ro:Addr->Option Value}(u0:Int){a:Nat}(r1:∀off sp,ro ⟨a,off,sp⟩=none){r:(Int×Int)}(h:wF u0=some r):aE Tryz.prog 202 #[.pointer (some ⟨a,0,none⟩)] ⟨ro,[(a,.cells #[.int .u64 u0] 254)]⟩ (fun v G=>∃b,(v= .int .u64 r.1/\b=[(a,.cells #[.int .u64 r.2] 254)])/\Le ⟨ro,b⟩ G):=by
 unfold wF at h;refine aE.go Tryz.func202 rfl Tryz.ntmps202 Tryz.results202 (by simp) fun main J hJ A g hd hs=>?_;have i:=hs 0;clear hs;refine ah hJ ?_;simp only[*,go_sem];refine af hJ ?_;refine eG hJ mixed [9] (.pure 0 (.pure 1 (.rd 2 (.pure 3 (.pure 4 (.rd 5 (.pure 6 (.pure 7 (.pure 8 (.last 9 .done)))))))))) ⟨ro,[(a,.cells #[.int .u64 u0] 254)]⟩ (by simp only[*,go_sem]) (by kernel_rfl) ?_;revert h;refine bS fun c d h=>?_;obtain ⟨q,j⟩:=vr d;clear d;try simp only[go_sem] at j
 try simp only[*,go_sem]
 refine af hJ ?_;refine eG hJ mixed [9] (.pure 0 (.pure 1 (.rd 2 (.pure 3 (.pure 4 (.rd 5 (.pure 6 (.pure 7 (.pure 8 (.last 9 .done)))))))))) ⟨ro,[(a,.cells #[.int .u64 (gQ u0 c)] 254)]⟩ (by simp only[*,go_sem]) (by kernel_rfl) ?_;revert h;refine bS fun k e h=>?_;obtain ⟨s,l⟩:=EW e;clear e;try simp only[go_sem] at l
 try simp only[*,go_sem]
 refine af hJ ?_;refine eG hJ mixed [9] (.pure 0 (.pure 1 (.rd 2 (.pure 3 (.pure 4 (.rd 5 (.pure 6 (.pure 7 (.pure 8 (.last 9 .done)))))))))) ⟨ro,[(a,.cells #[.int .u64 (gQ (gQ u0 c) k)] 254)]⟩ (by simp only[*,go_sem]) (by kernel_rfl) ?_;revert h;refine bS fun t f h=>?_;obtain rfl:=sI h;obtain ⟨u,m⟩:=vr f;clear f;try simp only[go_sem] at m
 try simp only[*,go_sem]
 refine af hJ ?_;refine fN [0,2] fun w n o p=>?_;simp only[*,go_sem] at n o p;clear g hd i;refine ak hJ ?_;simp only[*,go_sem];refine az ?_;simp only[*,go_sem];exact ⟨_,rfl,Le.sub (List.Sublist.refl _)⟩
def wG (u0:Int):Option Int:=
 ag (sR (IntKind.u64.wrap u0)) fun a=>ag (pE 1 a) fun b=>some b
theorem G6 {ro:Addr->Option Value}(u0:Int){r:Int}(h:wG u0=some r):aE Tryz.prog 201 #[.int .i64 u0] ⟨ro,[]⟩ (fun v _=>v= .int .u64 r):=by
 unfold wG at h;refine aE.go Tryz.func201 rfl Tryz.ntmps201 Tryz.results201 (by simp) fun main J hJ A d hd hs=>?_;have e:=hs 0;clear hs;refine ah hJ ?_;simp only[*,go_sem];refine ah hJ ?_;revert h;refine bS fun f b h=>?_;simp only[*,go_sem];refine bn hJ _ (A7 (IntKind.u64.wrap u0) b) (aJ ?_);revert h;refine bS fun g a h=>?_;obtain rfl:=sI h;obtain ⟨i,c⟩:=vr a;clear a;try simp only[go_sem] at c
 try simp only[*,go_sem]
 refine az ?_;simp only[*,go_sem]
def wH (a:Int)(e:Int)(c:Int)(h:Int)(st:(Int×(List Int)×Int)):Option (Fl (Int×(List Int)×Int) (Unit×(List Int))):=
 cond (decide (st.1<=(IntKind.i64.wrap ((IntKind.i64.wrap (a+(IntKind.i64.wrap (h*2))))+1)))) (ag (ag (wF st.2.2) fun b=>ag (cond (decide ((IntKind.i64.wrap (e - a))<=(IntKind.i64.wrap (ig b.1 (IntKind.u64.wrap (c - 1)))))) (some (.bk (IntKind.i64.wrap ((IntKind.i64.wrap (ig b.1 (IntKind.u64.wrap (c - 1)))) - (IntKind.i64.wrap (e - a)))))) (some (.bk (IntKind.i64.wrap (ig b.1 (IntKind.u64.wrap (c - 1)))))):Option (Fl Int (Unit×(List Int)))) fun o=>aD o (fun d=>ag (aY st.2.1 (IntKind.i64.wrap (a+d))) fun f=>ag (aY st.2.1 st.1) fun i=>ag (aY (st.2.1.set (st.1).toNat f) (IntKind.i64.wrap (a+d))) fun j=>some (.bk (((st.2.1.set (st.1).toNat f).set (IntKind.i64.wrap (a+d)).toNat i),b.2))) (fun _ _=>none) (fun r=>some (.rt r)):Option (Fl ((List Int)×Int) (Unit×(List Int)))) fun o=>aD o (fun g=>some (.nx ((IntKind.i64.wrap (st.1+1)),g.1,g.2))) (fun _ _=>none) (fun r=>some (.rt r))) (some (.bk (st.1,st.2.1,st.2.2)))
def wI (u0:(List Int))(a:Int)(b:Int):Option (Unit×(List Int)):=
 cond (List.isEmpty u0) none (cond (decide (8<=(IntKind.i64.wrap (b - a)))) (ag (wG (IntKind.i64.wrap (b - a))) fun d=>ag (fC (IntKind.i64.wrap (b - a)) 4) fun c=>ag (aU (wH a b d c) fu ((IntKind.i64.wrap ((IntKind.i64.wrap (a+(IntKind.i64.wrap (c*2)))) - 1)),u0,(IntKind.u64.wrap (IntKind.i64.wrap (b - a))))) fun o=>aD o (fun e=>some ((),e.2.1)) (fun _ _=>none) (fun r=>some r)) (some ((),u0)))
theorem G7 {ro:Addr->Option Value}(u0:(List Int)){x:Value}{H:List (Nat×Obj)}(l:aO rI ro 3 x u0 H)(b:Int)(d:Int){r:(Unit×(List Int))}(h:wI u0 b d=some r):aE Tryz.prog 179 #[x,.int .i64 b,.int .i64 d] ⟨ro,H⟩ (fun v G=>∃n,(v= .tuple #[]/\aO rI ro 3 x r.2 n)/\Le ⟨ro,n⟩ G):=by
 obtain ⟨d1,c2,rfl,bm⟩:=l.len;unfold wI at h;revert h;refine cS (fun I h=>?_) fun I h=>?_
 ·cases h
 obtain ⟨c,T,rfl,rfl,bo⟩:=l.iw I;refine aE.go Tryz.func179 rfl Tryz.ntmps179 Tryz.results179 (by simp) fun main J hJ A U hd hs=>?_;have V:=hs 0;have k1:=hs 1;have W:=hs 2;clear hs;refine af hJ ?_;refine aB hJ fun br=>?_;refine ak hJ ?_;simp only[*,go_sem];refine af hJ ?_;refine aB hJ fun bs=>?_;refine ak hJ ?_;simp only[*,go_sem];revert h;refine jC hJ (by simp only[*,go_sem]) (fun X h=>?_) fun X h=>?_
 ·refine af hJ ?_;refine aB hJ fun Y=>?_;refine ak hJ ?_;simp only[*,go_sem];refine aA fun g Z K=>?_;have bz:=aP.cons K Y;try simp only[au] at K
  try simp only[*,go_sem]
  refine af hJ ?_;refine aB hJ fun b0=>?_;refine ak hJ ?_;revert h;refine bS fun j ab h=>?_;simp only[*,go_sem];refine bn hJ _ (G6 (IntKind.i64.wrap (d - b)) ab) (aJ ?_);try simp only[*,go_sem]
  refine af hJ ?_;refine aB hJ fun b1=>?_;refine ak hJ ?_;revert h;refine bS fun L M h=>?_;obtain ⟨b2,b3⟩:=j3 M;clear M;try simp only[*,go_sem]
  refine aN hJ ?_;revert h;refine bS fun ad o ae=>?_;refine bT hJ [9,10,26,27,28,29,30,31,32,33,34,35,36,37,38,39,40,41,42,43,44,45,46,47,48,49,50,51,52,53,54,55,56,57,58,59,60,61,62,63,64] (fun m a F'=>∃(e:Array Value) (f:Int) (p:(List Int)) (q:Int),aU (wH b d j L) m (f,p,q)=some ad/\F'=⟨ro,(g,.cells #[.int .u64 q] 254)::[(c,Obj.cells e 3)]⟩/\aO rI ro 3 (.slice (some ⟨c,0,none⟩) u0.length c2) p [(c,Obj.cells e 3)]/\slot a 9= .int .i64 f) fu ?_ ?_
  ·refine ⟨T,(IntKind.i64.wrap ((IntKind.i64.wrap (b+(IntKind.i64.wrap (L*2)))) - 1)),u0,(IntKind.u64.wrap (IntKind.i64.wrap (d - b))),o,rfl,l,?_⟩;simp only[*,go_sem]
  rintro y N F' O ⟨e,f,p,q,o,rfl,s,P⟩;obtain ⟨z,B,C⟩:=O.pick [0,1,6,7,8] (by decide);simp only[*,go_sem] at z B C;clear O U hd V k1 W;obtain _|y:=y
  ·exact absurd o (by simp only[aU,reduceCtorEq,not_false_eq_true])
  revert o;refine bS fun b4 h D=>?_;unfold wH at h;try dsimp only at h
  refine af hJ (af hJ ?_);refine aB hJ fun b5=>?_;refine ak hJ ?_;simp only[*,go_sem];revert h;refine jC hJ (by simp only[*,go_sem]) (fun al h=>?_) fun al h=>?_
  ·refine aH hJ ?_;revert h;refine bS fun ao h ar=>?_;refine gi hJ (fun a F'=>∃(t:Array Value) (u:(List Int)) (w:Int),some (Fl.bk (u,w):Fl ((List Int)×Int) (Unit×(List Int)))=some ao/\F'=⟨ro,(g,.cells #[.int .u64 w] 254)::[(c,Obj.cells t 3)]⟩/\aO rI ro 3 (.slice (some ⟨c,0,none⟩) u0.length c2) u [(c,Obj.cells t 3)]/\sz a=65/\a.defers=[]/\cL [9,10,26,27,28,29,30,31,32,33,34,35,36,37,38,39,40,41,42,43,44,45,46,47,48,49,50,51,52,53,54,55,56,57,58,59,60,61,62,63,64] a N/\slot a 0= .slice (some ⟨c,0,none⟩) u0.length c2/\slot a 1= .int .i64 b/\slot a 6= .int .i64 (IntKind.i64.wrap (d - b))/\slot a 7= .pointer (some ⟨g,0,none⟩)/\slot a 8= .int .u64 j/\slot a 9= .int .i64 f) ?_ ?_
   ·refine aN hJ (af hJ ?_);refine aB hJ fun ca=>?_;refine ak hJ ?_;revert h;refine bS fun i a0 h=>?_;simp only[*,go_sem];refine dJ hJ [] ([(c,Obj.cells e 3)]) _ (G5 q Z a0) (fun cb cd a2 n a3 cf=>?_);obtain ⟨rfl,rfl⟩:=a2;simp only[aX] at a3;subst n;refine ⟨⟨ro,(g,.cells #[.int .u64 i.2] 254)::[(c,Obj.cells e 3)]⟩,Le.refl _,?_⟩;refine aJ ?_;(try simp only[*,go_sem]);revert h;refine bS fun a4 h a5=>?_;refine gi hJ (fun a F'=>∃(k:Int),some (Fl.bk k:Fl Int (Unit×(List Int)))=some a4/\F'=⟨ro,(g,.cells #[.int .u64 i.2] 254)::[(c,Obj.cells e 3)]⟩/\sz a=65/\a.defers=[]/\cL [9,10,26,27,28,29,30,31,32,33,34,35,36,37,38,39,40,41,42,43,44,45,46,47,48,49,50,51,52,53,54,55,56,57,58,59,60,61,62,63,64] a N/\slot a 0= .slice (some ⟨c,0,none⟩) u0.length c2/\slot a 1= .int .i64 b/\slot a 6= .int .i64 (IntKind.i64.wrap (d - b))/\slot a 7= .pointer (some ⟨g,0,none⟩)/\slot a 8= .int .u64 j/\slot a 9= .int .i64 f/\slot a 10= .int .i64 k) ?_ ?_
    ·refine af hJ ?_;refine aB hJ fun cl=>?_;refine ak hJ ?_;simp only[*,go_sem];revert h;refine jC hJ (by simp only[*,go_sem]) (fun a6 h=>?_) fun a6 h=>?_
     ·refine aB hJ fun cu=>?_;refine ak hJ ?_;simp only[*,go_sem];refine Qn.intro ⟨_,Le.sub (List.Sublist.refl _),(IntKind.i64.wrap ((IntKind.i64.wrap (ig i.1 (IntKind.u64.wrap (j - 1)))) - (IntKind.i64.wrap (d - b)))),h,rfl,?_⟩;simp only[*,go_sem]
     refine aH hJ ?_;(try simp only[*,go_sem]);refine Qn.intro ⟨_,Le.sub (List.Sublist.refl _),(IntKind.i64.wrap (ig i.1 (IntKind.u64.wrap (j - 1)))),h,rfl,?_⟩;simp only[*,go_sem]
    rintro cy F' ⟨k,Q,rfl,c0,da,db,dd,df,dk,dp,dq,ds,dt⟩;obtain rfl:=sI Q;clear Q;have h:=a5;dsimp only[aD] at h;clear z B C P;refine aB hJ fun du=>?_;refine eG hJ mixed [17,18,19] (.pure 0 (.pure 1 (.pure 2 (.pure 3 (.pure 4 (.pure 5 (.pure 6 (.pure 7 (.pure 8 (.pure 9 (.pure 10 (.rd 11 (.pure 12 (.pure 13 (.pure 14 (.rd 15 (.pure 16 (.last 17 (.pure 18 (.last 19 .done)))))))))))))))))))) ⟨ro,[(g,.cells #[.int .u64 i.2] 254),(c,Obj.cells e 3)]⟩ (by simp only[*,go_sem]) (by kernel_rfl) ?_;revert h;refine bS fun E a7 h=>?_;obtain ⟨dv,dC,dE,dT⟩:=s.cT a7;revert h;refine bS fun F a8 h=>?_;obtain ⟨a9,ba,ea,eb⟩:=s.cT a8;have R:=s.fQ a9 ba E;revert h;refine bS fun ec bb h=>?_;obtain ⟨bc,bd,ed,eh⟩:=R.cT bb;have bj:=R.fQ bc bd F;(try simp only[*,go_sem]);refine Qn.intro ⟨_,Le.sub (List.Sublist.refl _),(cM (cM e (f).toNat [.int .i64 E]) (IntKind.i64.wrap (b+k)).toNat [.int .i64 F]),((p.set (f).toNat E).set (IntKind.i64.wrap (b+k)).toNat F),i.2,h,rfl,bj,?_⟩;simp only[*,go_sem]
   rintro et F' ⟨t,u,w,S,rfl,bl,eu,ev,eQ,eS,e0,e1,e2,e3,fa⟩;obtain rfl:=sI S;clear S;have h:=ar;dsimp only[aD] at h;obtain rfl:=sI h;clear z B C P;refine aB hJ fun fb=>?_;refine ak hJ ?_;simp only[*,go_sem];refine ⟨y,Nat.lt_succ_self _,_,Le.sub (List.Sublist.refl _),t,(IntKind.i64.wrap (f+1)),u,w,D,rfl,bl,?_⟩;simp only[*,go_sem]
  obtain rfl:=sI h;refine bN ?_;simp only[go_sem];obtain rfl:=sI D;clear D;have h:=ae;dsimp only[aD] at h;obtain rfl:=sI h;simp only[*,go_sem];exact ⟨_,s,Le.sub (.cons _ (List.Sublist.refl _))⟩
 obtain rfl:=sI h;refine aH hJ ?_;simp only[*,go_sem];exact ⟨_,l,Le.sub (List.Sublist.refl _)⟩
def wJ (u0:(List Int))(a:Int)(e:Int)(b:Int)(c:Int)(d:Int)(st:Int):Option (Fl Int ((Int×Bool)×(List Int))):=
 cond (decide (st<=(IntKind.i64.wrap (e - 1)))) (ag (aY ((u0.set (a).toNat c).set (b).toNat d) st) fun f=>ag (aY ((u0.set (a).toNat c).set (b).toNat d) a) fun g=>ag (iy f g) fun h=>cond (h) (some (.nx (IntKind.i64.wrap (st+1)))) (some (.bk st))) (some (.bk st))
def wK (u0:(List Int))(a:Int)(b:Int)(c:Int)(d:Int)(e:Int)(st:Int):Option (Fl Int ((Int×Bool)×(List Int))):=
 cond (decide (e<=st)) (ag (aY ((u0.set (a).toNat c).set (b).toNat d) st) fun f=>ag (aY ((u0.set (a).toNat c).set (b).toNat d) a) fun g=>ag (iy f g) fun h=>cond (!h) (some (.nx (IntKind.i64.wrap (st - 1)))) (some (.bk st))) (some (.bk st))
def wL (b:Int)(c:Int)(a:(List Int))(st:Int):Option (Fl Int ((Int×Bool)×(List Int))):=
 cond (decide (st<=c)) (ag (aY a st) fun d=>ag (aY a b) fun e=>ag (iy d e) fun f=>cond (f) (some (.nx (IntKind.i64.wrap (st+1)))) (some (.bk st))) (some (.bk st))
def wM (b:Int)(a:(List Int))(c:Int)(st:Int):Option (Fl Int ((Int×Bool)×(List Int))):=
 cond (decide (c<=st)) (ag (aY a st) fun d=>ag (aY a b) fun e=>ag (iy d e) fun f=>cond (!f) (some (.nx (IntKind.i64.wrap (st - 1)))) (some (.bk st))) (some (.bk st))
def wN (c:Int)(st:(Int×Int×(List Int))):Option (Fl (Int×Int×(List Int)) ((Int×Bool)×(List Int))):=
 ag (ag (aU (wL c st.2.1 st.2.2) fu st.1) fun o=>aD o (fun e=>some (.bk e)) (fun _ _=>none) (fun r=>some (.rt r)):Option (Fl Int ((Int×Bool)×(List Int)))) fun o=>aD o (fun a=>ag (ag (aU (wM c st.2.2 a) fu st.2.1) fun o=>aD o (fun f=>some (.bk f)) (fun _ _=>none) (fun r=>some (.rt r)):Option (Fl Int ((Int×Bool)×(List Int)))) fun o=>aD o (fun b=>cond (decide (b<a)) (some (.bk (a,b,st.2.2))) (ag (aY st.2.2 b) fun d=>ag (aY st.2.2 a) fun g=>ag (aY (st.2.2.set (a).toNat d) b) fun h=>some (.nx ((IntKind.i64.wrap (a+1)),(IntKind.i64.wrap (b - 1)),((st.2.2.set (a).toNat d).set (b).toNat g))))) (fun _ _=>none) (fun r=>some (.rt r))) (fun _ _=>none) (fun r=>some (.rt r))
def wO (u0:(List Int))(a:Int)(h:Int)(b:Int):Option ((Int×Bool)×(List Int)):=
 cond (List.isEmpty u0) none (ag (aY u0 b) fun c=>ag (aY u0 a) fun d=>ag (aY (u0.set (a).toNat c) b) fun t=>ag (ag (aU (wJ u0 a h b c d) fu (IntKind.i64.wrap (a+1))) fun o=>aD o (fun m=>some (.bk m)) (fun _ _=>none) (fun r=>some (.rt r)):Option (Fl Int ((Int×Bool)×(List Int)))) fun o=>aD o (fun g=>ag (ag (aU (wK u0 a b c d g) fu (IntKind.i64.wrap (h - 1))) fun o=>aD o (fun n=>some (.bk n)) (fun _ _=>none) (fun r=>some (.rt r)):Option (Fl Int ((Int×Bool)×(List Int)))) fun o=>aD o (fun e=>cond (decide (e<g)) (ag (aY ((u0.set (a).toNat c).set (b).toNat d) a) fun i=>ag (aY ((u0.set (a).toNat c).set (b).toNat d) e) fun p=>ag (aY (((u0.set (a).toNat c).set (b).toNat d).set (e).toNat i) a) fun u=>some ((e,true),((((u0.set (a).toNat c).set (b).toNat d).set (e).toNat i).set (a).toNat p))) (ag (aY ((u0.set (a).toNat c).set (b).toNat d) e) fun j=>ag (aY ((u0.set (a).toNat c).set (b).toNat d) g) fun q=>ag (aY (((u0.set (a).toNat c).set (b).toNat d).set (g).toNat j) e) fun v=>ag (ag (aU (wN a) fu ((IntKind.i64.wrap (g+1)),(IntKind.i64.wrap (e - 1)),((((u0.set (a).toNat c).set (b).toNat d).set (g).toNat j).set (e).toNat q))) fun o=>aD o (fun k=>some (.bk (k.2.1,k.2.2))) (fun _ _=>none) (fun r=>some (.rt r)):Option (Fl (Int×(List Int)) ((Int×Bool)×(List Int)))) fun o=>aD o (fun f=>ag (aY f.2 a) fun l=>ag (aY f.2 f.1) fun s=>ag (aY (f.2.set (f.1).toNat l) a) fun w=>some ((f.1,false),((f.2.set (f.1).toNat l).set (a).toNat s))) (fun _ _=>none) (fun r=>some r))) (fun _ _=>none) (fun r=>some r)) (fun _ _=>none) (fun r=>some r))
theorem G8 {ro:Addr->Option Value}(u0:(List Int)){S:Value}{bb:List (Nat×Obj)}(x:aO rI ro 3 S u0 bb)(c:Int)(y:Int)(p:Int){r:((Int×Bool)×(List Int))}(h:wO u0 c y p=some r):aE Tryz.prog 185 #[S,.int .i64 c,.int .i64 y,.int .i64 p] ⟨ro,bb⟩ (fun v G=>∃bc,(v= .tuple #[.int .i64 r.1.1,.bool r.1.2]/\aO rI ro 3 S r.2 bc)/\Le ⟨ro,bc⟩ G):=by
 obtain ⟨d1,c2,rfl,lr⟩:=x.len;unfold wO at h;revert h;refine cS (fun bd h=>?_) fun bd h=>?_
 ·cases h
 obtain ⟨b,bj,rfl,rfl,lv⟩:=x.iw bd;refine aE.go Tryz.func185 rfl Tryz.ntmps185 Tryz.results185 (by simp) fun main J hJ A bl hd hs=>?_;have bm:=hs 0;have k1:=hs 1;have bo:=hs 2;have br:=hs 3;clear hs;refine af hJ ?_;refine aB hJ fun lx=>?_;refine ak hJ ?_;simp only[*,go_sem];refine af hJ ?_;refine aB hJ fun ly=>?_;refine eG hJ mixed [13,14,15] (.pure 0 (.pure 1 (.pure 2 (.pure 3 (.pure 4 (.pure 5 (.pure 6 (.rd 7 (.pure 8 (.pure 9 (.pure 10 (.rd 11 (.pure 12 (.last 13 (.pure 14 (.last 15 .done)))))))))))))))) ⟨ro,[(b,Obj.cells bj 3)]⟩ (by simp only[*,go_sem]) (by kernel_rfl) ?_;revert h;refine bS fun z fv h=>?_;obtain ⟨lL,l1,l2,l3⟩:=x.cT fv;revert h;refine bS fun B fw h=>?_;obtain ⟨fx,gg,l4,ma⟩:=x.cT fw;have bs:=x.fQ fx gg z;revert h;refine bS fun mb gl h=>?_;obtain ⟨gn,gp,mf,mi⟩:=bs.cT gl;have d:=bs.fQ gn gp B;try simp only[*,go_sem]
 refine af hJ ?_;obtain ⟨f,T⟩:∃o,o=(cM (cM bj (c).toNat [.int .i64 z]) (p).toNat [.int .i64 B]):=⟨_,rfl⟩
 refine cp (F:=⟨ro,[(b,Obj.cells f 3)]⟩) hJ (by rw[T];exact Le.refl _) ?_;rw[<-T] at d;clear T;refine aB hJ fun ml=>?_;refine ak hJ ?_;simp only[*,go_sem];revert h;refine bS fun gB h gC=>?_;refine gi hJ (fun a F'=>∃(g:Int),some (Fl.bk g:Fl Int ((Int×Bool)×(List Int)))=some gB/\F'=⟨ro,[(b,Obj.cells f 3)]⟩/\sz a=168/\a.defers=[]/\slot a 0= .slice (some ⟨b,0,none⟩) u0.length c2/\slot a 1= .int .i64 c/\slot a 8= .int .i64 0/\slot a 9= .bool false/\slot a 10= .int .i64 g/\slot a 11= .int .i64 (IntKind.i64.wrap (y - 1))) ?_ ?_
 ·refine aN hJ ?_;revert h;refine bS fun gM K bz=>?_;refine bT hJ [10,30,31,32,33,34,35,36,37,38,39,40,41,42,43,44,45] (fun m a F'=>∃(q:Int),aU (wJ u0 c y p z B) m q=some gM/\F'=⟨ro,[(b,Obj.cells f 3)]⟩/\slot a 10= .int .i64 q) fu ?_ ?_
  ·refine ⟨(IntKind.i64.wrap (c+1)),K,rfl,?_⟩;simp only[*,go_sem]
  rintro U mn F' b0 ⟨q,K,rfl,mr⟩;obtain ⟨gT,gV,g0⟩:=b0.pick [0,1,8,9,11] (by decide);simp only[*,go_sem] at gT gV g0;clear b0 bl hd bm k1 bo br;obtain _|U:=U
  ·exact absurd K (by simp only[aU,reduceCtorEq,not_false_eq_true])
  revert K;refine bS fun mx h C=>?_;unfold wJ at h;try dsimp only at h
  refine af hJ (af hJ ?_);refine aB hJ fun my=>?_;refine cP hJ mixed 14 1 (by simp only[*,go_sem]) (by kernel_rfl) ?_;revert h;refine cS (fun g1 h=>?_) fun g1 h=>?_
  ·revert h;refine bS fun g2 g3 h=>?_;obtain ⟨m1,m2,na,nb⟩:=d.cT g3;revert h;refine bS fun g4 ha h=>?_;obtain ⟨nd,nf,nm,nn⟩:=d.cT ha;revert h;refine bS fun np hc h=>?_;(try simp only[*,go_sem]);refine ⟨_,bC hJ fun F V=>jG g2 g4 hc,b7 ?_⟩;(try simp only[*,go_sem]);revert h;refine jC hJ (by simp only[*,go_sem]) (fun hf h=>?_) fun hf h=>?_
   ·obtain rfl:=sI h;refine aH hJ (aN hJ ?_);refine aB hJ fun ns=>?_;refine ak hJ ?_;simp only[*,go_sem];refine ⟨U,Nat.lt_succ_self _,_,Le.sub (List.Sublist.refl _),(IntKind.i64.wrap (q+1)),C,rfl,?_⟩;simp only[*,go_sem]
   obtain rfl:=sI h;refine bN ?_;simp only[go_sem];obtain rfl:=sI C;clear C;have h:=bz;dsimp only[aD] at h;(try simp only[*,go_sem]);refine Qn.intro ⟨_,Le.sub (List.Sublist.refl _),q,h,rfl,?_⟩;simp only[*,go_sem]
  obtain rfl:=sI h;try simp only[*,go_sem]
  refine bD hJ (by simp only[*,go_sem]) ?_;refine bN ?_;simp only[go_sem];obtain rfl:=sI C;clear C;have h:=bz;dsimp only[aD] at h;try simp only[*,go_sem]
  refine Qn.intro ⟨_,Le.sub (List.Sublist.refl _),q,h,rfl,?_⟩;simp only[*,go_sem]
 rintro nx F' ⟨g,b1,rfl,b2,b3,b4,b5,ca,cb,cd,cf⟩;obtain rfl:=sI b1;clear b1;have h:=gC;dsimp only[aD] at h;clear bl hd bm k1 bo br;revert h;refine bS fun hg h hh=>?_;refine gi hJ (fun a F'=>∃(k:Int),some (Fl.bk k:Fl Int ((Int×Bool)×(List Int)))=some hg/\F'=⟨ro,[(b,Obj.cells f 3)]⟩/\sz a=168/\a.defers=[]/\slot a 0= .slice (some ⟨b,0,none⟩) u0.length c2/\slot a 1= .int .i64 c/\slot a 8= .int .i64 0/\slot a 9= .bool false/\slot a 10= .int .i64 g/\slot a 11= .int .i64 k) ?_ ?_
 ·refine aN hJ ?_;revert h;refine bS fun hi L cl=>?_;refine bT hJ [11,46,47,48,49,50,51,52,53,54,55,56,57,58,59,60,61,62] (fun m a F'=>∃(s:Int),aU (wK u0 c p z B g) m s=some hi/\F'=⟨ro,[(b,Obj.cells f 3)]⟩/\slot a 11= .int .i64 s) fu ?_ ?_
  ·refine ⟨(IntKind.i64.wrap (y - 1)),L,rfl,?_⟩;simp only[*,go_sem]
  rintro W nz F' cu ⟨s,L,rfl,nA⟩;obtain ⟨hj,hk,hl⟩:=cu.pick [0,1,8,9,10] (by decide);simp only[*,go_sem] at hj hk hl;clear cu b2 b3 b4 b5 ca cb cd cf;obtain _|W:=W
  ·exact absurd L (by simp only[aU,reduceCtorEq,not_false_eq_true])
  revert L;refine bS fun nH h D=>?_;unfold wK at h;try dsimp only at h
  refine af hJ (af hJ ?_);refine aB hJ fun nI=>?_;refine cP hJ mixed 15 1 (by simp only[*,go_sem]) (by kernel_rfl) ?_;revert h;refine cS (fun hn h=>?_) fun hn h=>?_
  ·revert h;refine bS fun ho hp h=>?_;obtain ⟨nK,nQ,nR,nT⟩:=d.cT hp;revert h;refine bS fun hq hr h=>?_;obtain ⟨nV,nX,nY,n0⟩:=d.cT hr;revert h;refine bS fun n1 ht h=>?_;(try simp only[*,go_sem]);refine ⟨_,bC hJ fun F V=>jG ho hq ht,b7 ?_⟩;(try simp only[*,go_sem]);revert h;refine jC hJ (by simp only[*,go_sem]) (fun hv h=>?_) fun hv h=>?_
   ·obtain rfl:=sI h;refine aH hJ (aN hJ ?_);refine aB hJ fun n2=>?_;refine ak hJ ?_;simp only[*,go_sem];refine ⟨W,Nat.lt_succ_self _,_,Le.sub (List.Sublist.refl _),(IntKind.i64.wrap (s - 1)),D,rfl,?_⟩;simp only[*,go_sem]
   obtain rfl:=sI h;refine bN ?_;simp only[go_sem];obtain rfl:=sI D;clear D;have h:=cl;dsimp only[aD] at h;(try simp only[*,go_sem]);refine Qn.intro ⟨_,Le.sub (List.Sublist.refl _),s,h,rfl,?_⟩;simp only[*,go_sem]
  obtain rfl:=sI h;try simp only[*,go_sem]
  refine bD hJ (by simp only[*,go_sem]) ?_;refine bN ?_;simp only[go_sem];obtain rfl:=sI D;clear D;have h:=cl;dsimp only[aD] at h;try simp only[*,go_sem]
  refine Qn.intro ⟨_,Le.sub (List.Sublist.refl _),s,h,rfl,?_⟩;simp only[*,go_sem]
 rintro n3 F' ⟨k,cy,rfl,c0,da,db,dd,df,dk,dp,dq⟩;obtain rfl:=sI cy;clear cy;have h:=hh;dsimp only[aD] at h;clear b2 b3 b4 b5 ca cb cd cf;refine af hJ (af hJ ?_);refine aB hJ fun oc=>?_;refine ak hJ ?_;simp only[*,go_sem];revert h;refine jC hJ (by simp only[*,go_sem]) (fun hx h=>?_) fun hx h=>?_
 ·refine af hJ ?_;refine aB hJ fun oi=>?_;refine eG hJ mixed [13,14,15] (.pure 0 (.pure 1 (.pure 2 (.pure 3 (.pure 4 (.pure 5 (.pure 6 (.rd 7 (.pure 8 (.pure 9 (.pure 10 (.rd 11 (.pure 12 (.last 13 (.pure 14 (.last 15 .done)))))))))))))))) ⟨ro,[(b,Obj.cells f 3)]⟩ (by simp only[*,go_sem]) (by kernel_rfl) ?_;revert h;refine bS fun ds hy h=>?_;obtain ⟨oj,ox,oy,o0⟩:=d.cT hy;revert h;refine bS fun dt hz h=>?_;obtain ⟨hA,hB,o1,o2⟩:=d.cT hz;have du:=d.fQ hA hB ds;revert h;refine bS fun o4 hD h=>?_;obtain rfl:=sI h;obtain ⟨hE,hF,pa,pb⟩:=du.cT hD;have dv:=du.fQ hE hF dt;try simp only[*,go_sem]
  refine af hJ ?_;obtain ⟨hG,X⟩:∃o,o=(cM (cM f (k).toNat [.int .i64 ds]) (c).toNat [.int .i64 dt]):=⟨_,rfl⟩
  refine cp (F:=⟨ro,[(b,Obj.cells hG 3)]⟩) hJ (by rw[X];exact Le.refl _) ?_;rw[<-X] at dv;clear X;refine aB hJ fun pd=>?_;refine ak hJ ?_;simp only[*,go_sem];refine az ?_;simp only[*,go_sem];exact ⟨_,dv,Le.sub (List.Sublist.refl _)⟩
 refine aH hJ (af hJ ?_);refine aB hJ fun pf=>?_;refine eG hJ mixed [13,14,15] (.pure 0 (.pure 1 (.pure 2 (.pure 3 (.pure 4 (.pure 5 (.pure 6 (.rd 7 (.pure 8 (.pure 9 (.pure 10 (.rd 11 (.pure 12 (.last 13 (.pure 14 (.last 15 .done)))))))))))))))) ⟨ro,[(b,Obj.cells f 3)]⟩ (by simp only[*,go_sem]) (by kernel_rfl) ?_;revert h;refine bS fun Y hI h=>?_;obtain ⟨ph,pj,pk,po⟩:=d.cT hI;revert h;refine bS fun Z hK h=>?_;obtain ⟨hL,hM,pr,ps⟩:=d.cT hK;have dC:=d.fQ hL hM Y;revert h;refine bS fun pt hN h=>?_;obtain ⟨hP,hQ,pv,pw⟩:=dC.cT hN;have dE:=dC.fQ hP hQ Z;try simp only[*,go_sem]
 refine af hJ ?_;obtain ⟨dT,ab⟩:∃o,o=(cM (cM f (g).toNat [.int .i64 Y]) (k).toNat [.int .i64 Z]):=⟨_,rfl⟩
 refine cp (F:=⟨ro,[(b,Obj.cells dT 3)]⟩) hJ (by rw[ab];exact Le.refl _) ?_;rw[<-ab] at dE;clear ab;refine aB hJ fun px=>?_;refine ak hJ ?_;simp only[*,go_sem];refine af hJ ?_;refine aB hJ fun py=>?_;refine ak hJ ?_;simp only[*,go_sem];revert h;refine bS fun hR h hS=>?_;refine gi hJ (fun a F'=>∃(E:Array Value) (M:Int) (ad:(List Int)),some (Fl.bk (M,ad):Fl (Int×(List Int)) ((Int×Bool)×(List Int)))=some hR/\F'=⟨ro,[(b,Obj.cells E 3)]⟩/\aO rI ro 3 (.slice (some ⟨b,0,none⟩) u0.length c2) ad [(b,Obj.cells E 3)]/\sz a=168/\a.defers=[]/\slot a 0= .slice (some ⟨b,0,none⟩) u0.length c2/\slot a 1= .int .i64 c/\slot a 8= .int .i64 0/\slot a 9= .bool false/\slot a 11= .int .i64 M) ?_ ?_
 ·refine aN hJ ?_;revert h;refine bS fun hT N hV=>?_;refine bT hJ [10,11,99,100,101,102,103,104,105,106,107,108,109,110,111,112,113,114,115,116,117,118,119,120,121,122,123,124,125,126,127,128,129,130,131,132,133,134,135,136,137,138,139,140,141,142,143,144,145,146,147,148,149,150,151,152] (fun m a F'=>∃(e:Array Value) (O:Int) (t:Int) (l:(List Int)),aU (wN c) m (O,t,l)=some hT/\F'=⟨ro,[(b,Obj.cells e 3)]⟩/\aO rI ro 3 (.slice (some ⟨b,0,none⟩) u0.length c2) l [(b,Obj.cells e 3)]/\slot a 10= .int .i64 O/\slot a 11= .int .i64 t) fu ?_ ?_
  ·refine ⟨dT,(IntKind.i64.wrap (g+1)),(IntKind.i64.wrap (k - 1)),((((u0.set (c).toNat z).set (p).toNat B).set (g).toNat Y).set (k).toNat Z),N,rfl,dE,?_⟩;simp only[*,go_sem]
  rintro ae P F' ea ⟨e,O,t,l,N,rfl,i,eb,ec⟩;obtain ⟨al,ao,ar⟩:=ea.pick [0,1,8,9] (by decide);simp only[*,go_sem] at al ao ar;clear ea c0 da db dd df dk dp dq;obtain _|ae:=ae
  ·exact absurd N (by simp only[aU,reduceCtorEq,not_false_eq_true])
  revert N;refine bS fun pA h a0=>?_;unfold wN at h;try dsimp only at h
  refine aN hJ ?_;revert h;refine bS fun hX h hY=>?_;refine gi hJ (fun a F'=>∃(j:Int),some (Fl.bk j:Fl Int ((Int×Bool)×(List Int)))=some hX/\F'=⟨ro,[(b,Obj.cells e 3)]⟩/\sz a=168/\a.defers=[]/\cL [10,11,99,100,101,102,103,104,105,106,107,108,109,110,111,112,113,114,115,116,117,118,119,120,121,122,123,124,125,126,127,128,129,130,131,132,133,134,135,136,137,138,139,140,141,142,143,144,145,146,147,148,149,150,151,152] a P/\slot a 0= .slice (some ⟨b,0,none⟩) u0.length c2/\slot a 1= .int .i64 c/\slot a 8= .int .i64 0/\slot a 9= .bool false/\slot a 10= .int .i64 j/\slot a 11= .int .i64 t) ?_ ?_
  ·refine aN hJ ?_;revert h;refine bS fun hZ Q ed=>?_;refine bT hJ [10,99,100,101,102,103,104,105,106,107,108,109,110,111,112,113,114] (fun m a F'=>∃(u:Int),aU (wL c t l) m u=some hZ/\F'=⟨ro,[(b,Obj.cells e 3)]⟩/\slot a 10= .int .i64 u) fu ?_ ?_
   ·refine ⟨O,Q,rfl,?_⟩;simp only[*,go_sem]
   rintro a2 h0 F' a3 ⟨u,Q,rfl,pB⟩;obtain ⟨h1,h2,h3⟩:=a3.pick [0,1,8,9,11] (by decide);simp only[*,go_sem] at h1 h2 h3;have pC:cL [10,11,99,100,101,102,103,104,105,106,107,108,109,110,111,112,113,114,115,116,117,118,119,120,121,122,123,124,125,126,127,128,129,130,131,132,133,134,135,136,137,138,139,140,141,142,143,144,145,146,147,148,149,150,151,152] h0 P:=(a3.fZ (by decide)).trans (by simp only[*,go_sem]);clear a3 al ao ar eb ec;obtain _|a2:=a2
   ·exact absurd Q (by simp only[aU,reduceCtorEq,not_false_eq_true])
   revert Q;refine bS fun pD h H=>?_;unfold wL at h;(try dsimp only at h);refine af hJ (af hJ ?_);refine aB hJ fun pL=>?_;refine cP hJ mixed 14 1 (by simp only[*,go_sem]) (by kernel_rfl) ?_;revert h;refine cS (fun h4 h=>?_) fun h4 h=>?_
   ·revert h;refine bS fun h5 h6 h=>?_;obtain ⟨pT,p0,p1,q0⟩:=i.cT h6;revert h;refine bS fun h7 h8 h=>?_;obtain ⟨q1,ra,rb,re⟩:=i.cT h8;revert h;refine bS fun rh h9 h=>?_;(try simp only[*,go_sem]);refine ⟨_,bC hJ fun F V=>jG h5 h7 h9,b7 ?_⟩;(try simp only[*,go_sem]);revert h;refine jC hJ (by simp only[*,go_sem]) (fun ib h=>?_) fun ib h=>?_
    ·obtain rfl:=sI h;refine aH hJ (aN hJ ?_);refine aB hJ fun rk=>?_;refine ak hJ ?_;simp only[*,go_sem];refine ⟨a2,Nat.lt_succ_self _,_,Le.sub (List.Sublist.refl _),(IntKind.i64.wrap (u+1)),H,rfl,?_⟩;simp only[*,go_sem]
    obtain rfl:=sI h;refine bN ?_;simp only[go_sem];obtain rfl:=sI H;clear H;have h:=ed;dsimp only[aD] at h;(try simp only[*,go_sem]);refine Qn.intro ⟨_,Le.sub (List.Sublist.refl _),u,h,rfl,?_⟩;simp only[*,go_sem]
   obtain rfl:=sI h;(try simp only[*,go_sem]);refine bD hJ (by simp only[*,go_sem]) ?_;refine bN ?_;simp only[go_sem];obtain rfl:=sI H;clear H;have h:=ed;dsimp only[aD] at h;(try simp only[*,go_sem]);refine Qn.intro ⟨_,Le.sub (List.Sublist.refl _),u,h,rfl,?_⟩;simp only[*,go_sem]
  rintro rl F' ⟨j,eh,rfl,et,eu,rn,ev,eQ,eS,e0,e1,e2⟩;obtain rfl:=sI eh;clear eh;have h:=hY;dsimp only[aD] at h;clear al ao ar eb ec;revert h;refine bS fun ic h ih=>?_;refine gi hJ (fun a F'=>∃(n:Int),some (Fl.bk n:Fl Int ((Int×Bool)×(List Int)))=some ic/\F'=⟨ro,[(b,Obj.cells e 3)]⟩/\sz a=168/\a.defers=[]/\cL [10,11,99,100,101,102,103,104,105,106,107,108,109,110,111,112,113,114,115,116,117,118,119,120,121,122,123,124,125,126,127,128,129,130,131,132,133,134,135,136,137,138,139,140,141,142,143,144,145,146,147,148,149,150,151,152] a P/\slot a 0= .slice (some ⟨b,0,none⟩) u0.length c2/\slot a 1= .int .i64 c/\slot a 8= .int .i64 0/\slot a 9= .bool false/\slot a 10= .int .i64 j/\slot a 11= .int .i64 n) ?_ ?_
  ·refine aN hJ ?_;revert h;refine bS fun ik R e3=>?_;refine bT hJ [11,115,116,117,118,119,120,121,122,123,124,125,126,127,128,129,130,131] (fun m a F'=>∃(w:Int),aU (wM c l j) m w=some ik/\F'=⟨ro,[(b,Obj.cells e 3)]⟩/\slot a 11= .int .i64 w) fu ?_ ?_
   ·refine ⟨t,R,rfl,?_⟩;simp only[*,go_sem]
   rintro a4 il F' a5 ⟨w,R,rfl,rp⟩;obtain ⟨im,iv,ix⟩:=a5.pick [0,1,8,9,10] (by decide);simp only[*,go_sem] at im iv ix;have rr:cL [10,11,99,100,101,102,103,104,105,106,107,108,109,110,111,112,113,114,115,116,117,118,119,120,121,122,123,124,125,126,127,128,129,130,131,132,133,134,135,136,137,138,139,140,141,142,143,144,145,146,147,148,149,150,151,152] il P:=(a5.fZ (by decide)).trans (by simp only[*,go_sem]);clear a5 et eu ev eQ eS e0 e1 e2;obtain _|a4:=a4
   ·exact absurd R (by simp only[aU,reduceCtorEq,not_false_eq_true])
   revert R;refine bS fun rv h I=>?_;unfold wM at h;(try dsimp only at h);refine af hJ (af hJ ?_);refine aB hJ fun rB=>?_;refine cP hJ mixed 15 1 (by simp only[*,go_sem]) (by kernel_rfl) ?_;revert h;refine cS (fun j1 h=>?_) fun j1 h=>?_
   ·revert h;refine bS fun j2 kh h=>?_;obtain ⟨rL,sa,sb,sc⟩:=i.cT kh;revert h;refine bS fun kj kk h=>?_;obtain ⟨sf,sg,sh,sl⟩:=i.cT kk;revert h;refine bS fun sm kl h=>?_;(try simp only[*,go_sem]);refine ⟨_,bC hJ fun F V=>jG j2 kj kl,b7 ?_⟩;(try simp only[*,go_sem]);revert h;refine jC hJ (by simp only[*,go_sem]) (fun km h=>?_) fun km h=>?_
    ·obtain rfl:=sI h;refine aH hJ (aN hJ ?_);refine aB hJ fun ss=>?_;refine ak hJ ?_;simp only[*,go_sem];refine ⟨a4,Nat.lt_succ_self _,_,Le.sub (List.Sublist.refl _),(IntKind.i64.wrap (w - 1)),I,rfl,?_⟩;simp only[*,go_sem]
    obtain rfl:=sI h;refine bN ?_;simp only[go_sem];obtain rfl:=sI I;clear I;have h:=e3;dsimp only[aD] at h;(try simp only[*,go_sem]);refine Qn.intro ⟨_,Le.sub (List.Sublist.refl _),w,h,rfl,?_⟩;simp only[*,go_sem]
   obtain rfl:=sI h;(try simp only[*,go_sem]);refine bD hJ (by simp only[*,go_sem]) ?_;refine bN ?_;simp only[go_sem];obtain rfl:=sI I;clear I;have h:=e3;dsimp only[aD] at h;(try simp only[*,go_sem]);refine Qn.intro ⟨_,Le.sub (List.Sublist.refl _),w,h,rfl,?_⟩;simp only[*,go_sem]
  rintro sy F' ⟨n,fa,rfl,sT,tb,te,ti,tk,tl,tm,tp,ts⟩;obtain rfl:=sI fa;clear fa;have h:=ih;dsimp only[aD] at h;clear et eu ev eQ eS e0 e1 e2;refine af hJ (af hJ ?_);refine aB hJ fun tt=>?_;refine ak hJ ?_;simp only[*,go_sem];revert h;refine jC hJ (by simp only[*,go_sem]) (fun kn h=>?_) fun kn h=>?_
  ·obtain rfl:=sI h;refine bN ?_;simp only[go_sem];obtain rfl:=sI a0;clear a0;have h:=hV;dsimp only[aD] at h;(try simp only[*,go_sem]);refine Qn.intro ⟨_,Le.sub (List.Sublist.refl _),e,n,l,h,rfl,i,?_⟩;simp only[*,go_sem]
  refine aH hJ (af hJ ?_);refine aB hJ fun tx=>?_;refine eG hJ mixed [13,14,15] (.pure 0 (.pure 1 (.pure 2 (.pure 3 (.pure 4 (.pure 5 (.pure 6 (.rd 7 (.pure 8 (.pure 9 (.pure 10 (.rd 11 (.pure 12 (.last 13 (.pure 14 (.last 15 .done)))))))))))))))) ⟨ro,[(b,Obj.cells e 3)]⟩ (by simp only[*,go_sem]) (by kernel_rfl) ?_;revert h;refine bS fun a6 kp h=>?_;obtain ⟨tz,tI,tM,tW⟩:=i.cT kp;revert h;refine bS fun a7 ks h=>?_;obtain ⟨kt,kv,ub,ui⟩:=i.cT ks;have fb:=i.fQ kt kv a6;revert h;refine bS fun u1 kx h=>?_;obtain rfl:=sI h;obtain ⟨ky,k0,u2,u3⟩:=fb.cT kx;have fg:=fb.fQ ky k0 a7;try simp only[*,go_sem]
  refine af hJ ?_;obtain ⟨fi,a8⟩:∃o,o=(cM (cM e (j).toNat [.int .i64 a6]) (n).toNat [.int .i64 a7]):=⟨_,rfl⟩
  refine cp (F:=⟨ro,[(b,Obj.cells fi 3)]⟩) hJ (by rw[a8];exact Le.refl _) ?_;rw[<-a8] at fg;clear a8;refine aB hJ fun u4=>?_;refine ak hJ ?_;simp only[*,go_sem];refine aB hJ fun va=>?_;refine ak hJ ?_;simp only[*,go_sem];refine ⟨ae,Nat.lt_succ_self _,_,Le.sub (List.Sublist.refl _),fi,(IntKind.i64.wrap (j+1)),(IntKind.i64.wrap (n - 1)),((l.set (j).toNat a6).set (n).toNat a7),a0,rfl,fg,?_⟩;simp only[*,go_sem]
 rintro vd F' ⟨E,M,ad,fo,rfl,a9,vs,vx,vy,v3,wa,wb,wc⟩;obtain rfl:=sI fo;clear fo;have h:=hS;dsimp only[aD] at h;clear c0 da db dd df dk dp dq;refine af hJ ?_;refine aB hJ fun wi=>?_;refine eG hJ mixed [13,14,15] (.pure 0 (.pure 1 (.pure 2 (.pure 3 (.pure 4 (.pure 5 (.pure 6 (.rd 7 (.pure 8 (.pure 9 (.pure 10 (.rd 11 (.pure 12 (.last 13 (.pure 14 (.last 15 .done)))))))))))))))) ⟨ro,[(b,Obj.cells E 3)]⟩ (by simp only[*,go_sem]) (by kernel_rfl) ?_;revert h;refine bS fun fp k2 h=>?_;obtain ⟨wx,wy,w0,xa⟩:=a9.cT k2;revert h;refine bS fun fr lb h=>?_;obtain ⟨lh,lj,xc,xf⟩:=a9.cT lb;have fs:=a9.fQ lh lj fp;revert h;refine bS fun xi lk h=>?_;obtain rfl:=sI h;obtain ⟨ll,ln,xn,xr⟩:=fs.cT lk;have ft:=fs.fQ ll ln fr;try simp only[*,go_sem]
 refine af hJ ?_;obtain ⟨lo,ba⟩:∃o,o=(cM (cM E (M).toNat [.int .i64 fp]) (c).toNat [.int .i64 fr]):=⟨_,rfl⟩
 refine cp (F:=⟨ro,[(b,Obj.cells lo 3)]⟩) hJ (by rw[ba];exact Le.refl _) ?_;rw[<-ba] at ft;clear ba;refine aB hJ fun xt=>?_;refine ak hJ ?_;simp only[*,go_sem];refine az ?_;simp only[*,go_sem];exact ⟨_,ft,Le.sub (List.Sublist.refl _)⟩
def wP (b:Int)(c:Int)(a:(List Int))(st:Int):Option (Fl Int (Int×(List Int))):=
 cond (decide (st<=c)) (ag (aY a b) fun d=>ag (aY a st) fun e=>ag (iy d e) fun f=>cond (!f) (some (.nx (IntKind.i64.wrap (st+1)))) (some (.bk st))) (some (.bk st))
def wQ (b:Int)(a:(List Int))(c:Int)(st:Int):Option (Fl Int (Int×(List Int))):=
 cond (decide (c<=st)) (ag (aY a b) fun d=>ag (aY a st) fun e=>ag (iy d e) fun f=>cond (f) (some (.nx (IntKind.i64.wrap (st - 1)))) (some (.bk st))) (some (.bk st))
def wR (c:Int)(st:(Int×Int×(List Int))):Option (Fl (Int×Int×(List Int)) (Int×(List Int))):=
 ag (ag (aU (wP c st.2.1 st.2.2) fu st.1) fun o=>aD o (fun e=>some (.bk e)) (fun _ _=>none) (fun r=>some (.rt r)):Option (Fl Int (Int×(List Int)))) fun o=>aD o (fun a=>ag (ag (aU (wQ c st.2.2 a) fu st.2.1) fun o=>aD o (fun f=>some (.bk f)) (fun _ _=>none) (fun r=>some (.rt r)):Option (Fl Int (Int×(List Int)))) fun o=>aD o (fun b=>cond (decide (b<a)) (some (.bk (a,b,st.2.2))) (ag (aY st.2.2 b) fun d=>ag (aY st.2.2 a) fun g=>ag (aY (st.2.2.set (a).toNat d) b) fun h=>some (.nx ((IntKind.i64.wrap (a+1)),(IntKind.i64.wrap (b - 1)),((st.2.2.set (a).toNat d).set (b).toNat g))))) (fun _ _=>none) (fun r=>some (.rt r))) (fun _ _=>none) (fun r=>some (.rt r))
def wS (u0:(List Int))(a:Int)(f:Int)(b:Int):Option (Int×(List Int)):=
 cond (List.isEmpty u0) none (ag (aY u0 b) fun c=>ag (aY u0 a) fun g=>ag (aY (u0.set (a).toNat c) b) fun h=>ag (ag (aU (wR a) fu ((IntKind.i64.wrap (a+1)),(IntKind.i64.wrap (f - 1)),((u0.set (a).toNat c).set (b).toNat g))) fun o=>aD o (fun d=>some (.bk (d.1,d.2.2))) (fun _ _=>none) (fun r=>some (.rt r)):Option (Fl (Int×(List Int)) (Int×(List Int)))) fun o=>aD o (fun e=>some (e.1,e.2)) (fun _ _=>none) (fun r=>some r))
theorem G9 {ro:Addr->Option Value}(u0:(List Int)){z:Value}{X:List (Nat×Obj)}(n:aO rI ro 3 z u0 X)(c:Int)(B:Int)(s:Int){r:(Int×(List Int))}(h:wS u0 c B s=some r):aE Tryz.prog 184 #[z,.int .i64 c,.int .i64 B,.int .i64 s] ⟨ro,X⟩ (fun v G=>∃Y,(v= .int .i64 r.1/\aO rI ro 3 z r.2 Y)/\Le ⟨ro,Y⟩ G):=by
 obtain ⟨d1,c2,rfl,fs⟩:=n.len;unfold wS at h;revert h;refine cS (fun Z h=>?_) fun Z h=>?_
 ·cases h
 obtain ⟨b,ab,rfl,rfl,ft⟩:=n.iw Z;refine aE.go Tryz.func184 rfl Tryz.ntmps184 Tryz.results184 (by simp) fun main J hJ A ad hd hs=>?_;have ae:=hs 0;have k1:=hs 1;have al:=hs 2;have ao:=hs 3;clear hs;refine af hJ ?_;refine aB hJ fun fv=>?_;refine ak hJ ?_;simp only[*,go_sem];refine af hJ ?_;refine aB hJ fun fw=>?_;refine eG hJ mixed [13,14,15] (.pure 0 (.pure 1 (.pure 2 (.pure 3 (.pure 4 (.pure 5 (.pure 6 (.rd 7 (.pure 8 (.pure 9 (.pure 10 (.rd 11 (.pure 12 (.last 13 (.pure 14 (.last 15 .done)))))))))))))))) ⟨ro,[(b,Obj.cells ab 3)]⟩ (by simp only[*,go_sem]) (by kernel_rfl) ?_;revert h;refine bS fun C b0 h=>?_;obtain ⟨fx,gg,gl,gn⟩:=n.cT b0;revert h;refine bS fun D b1 h=>?_;obtain ⟨b2,b3,gp,gB⟩:=n.cT b1;have ar:=n.fQ b2 b3 C;revert h;refine bS fun gC b4 h=>?_;obtain ⟨b5,ca,gM,gT⟩:=ar.cT b4;have a0:=ar.fQ b5 ca D;try simp only[*,go_sem]
 refine af hJ ?_;obtain ⟨a2,E⟩:∃o,o=(cM (cM ab (c).toNat [.int .i64 C]) (s).toNat [.int .i64 D]):=⟨_,rfl⟩
 refine cp (F:=⟨ro,[(b,Obj.cells a2 3)]⟩) hJ (by rw[E];exact Le.refl _) ?_;rw[<-E] at a0;clear E;refine aB hJ fun gV=>?_;refine ak hJ ?_;simp only[*,go_sem];revert h;refine bS fun cb h cd=>?_;refine gi hJ (fun a F'=>∃(H:Array Value) (I:Int) (K:(List Int)),some (Fl.bk (I,K):Fl (Int×(List Int)) (Int×(List Int)))=some cb/\F'=⟨ro,[(b,Obj.cells H 3)]⟩/\aO rI ro 3 (.slice (some ⟨b,0,none⟩) u0.length c2) K [(b,Obj.cells H 3)]/\sz a=84/\a.defers=[]/\slot a 0= .slice (some ⟨b,0,none⟩) u0.length c2/\slot a 8= .int .i64 0/\slot a 9= .int .i64 I) ?_ ?_
 ·refine aN hJ ?_;revert h;refine bS fun cf t cl=>?_;refine bT hJ [9,10,29,30,31,32,33,34,35,36,37,38,39,40,41,42,43,44,45,46,47,48,49,50,51,52,53,54,55,56,57,58,59,60,61,62,63,64,65,66,67,68,69,70,71,72,73,74,75,76,77,78,79,80,81,82] (fun m a F'=>∃(d:Array Value) (u:Int) (i:Int) (g:(List Int)),aU (wR c) m (u,i,g)=some cf/\F'=⟨ro,[(b,Obj.cells d 3)]⟩/\aO rI ro 3 (.slice (some ⟨b,0,none⟩) u0.length c2) g [(b,Obj.cells d 3)]/\slot a 9= .int .i64 u/\slot a 10= .int .i64 i) fu ?_ ?_
  ·refine ⟨a2,(IntKind.i64.wrap (c+1)),(IntKind.i64.wrap (B - 1)),((u0.set (c).toNat C).set (s).toNat D),t,rfl,a0,?_⟩;simp only[*,go_sem]
  rintro L w F' a3 ⟨d,u,i,g,t,rfl,f,a4,a5⟩;obtain ⟨M,N,O⟩:=a3.pick [0,1,8] (by decide);simp only[*,go_sem] at M N O;clear a3 ad hd ae k1 al ao;obtain _|L:=L
  ·exact absurd t (by simp only[aU,reduceCtorEq,not_false_eq_true])
  revert t;refine bS fun g0 h P=>?_;unfold wR at h;try dsimp only at h
  refine aN hJ ?_;revert h;refine bS fun cu h cy=>?_;refine gi hJ (fun a F'=>∃(e:Int),some (Fl.bk e:Fl Int (Int×(List Int)))=some cu/\F'=⟨ro,[(b,Obj.cells d 3)]⟩/\sz a=84/\a.defers=[]/\cL [9,10,29,30,31,32,33,34,35,36,37,38,39,40,41,42,43,44,45,46,47,48,49,50,51,52,53,54,55,56,57,58,59,60,61,62,63,64,65,66,67,68,69,70,71,72,73,74,75,76,77,78,79,80,81,82] a w/\slot a 0= .slice (some ⟨b,0,none⟩) u0.length c2/\slot a 1= .int .i64 c/\slot a 8= .int .i64 0/\slot a 9= .int .i64 e/\slot a 10= .int .i64 i) ?_ ?_
  ·refine aN hJ ?_;revert h;refine bS fun c0 x a6=>?_;refine bT hJ [9,29,30,31,32,33,34,35,36,37,38,39,40,41,42,43,44,45] (fun m a F'=>∃(j:Int),aU (wP c i g) m j=some c0/\F'=⟨ro,[(b,Obj.cells d 3)]⟩/\slot a 9= .int .i64 j) fu ?_ ?_
   ·refine ⟨u,x,rfl,?_⟩;simp only[*,go_sem]
   rintro Q da F' R ⟨j,x,rfl,g1⟩;obtain ⟨db,dd,df⟩:=R.pick [0,1,8,10] (by decide);simp only[*,go_sem] at db dd df;have g2:cL [9,10,29,30,31,32,33,34,35,36,37,38,39,40,41,42,43,44,45,46,47,48,49,50,51,52,53,54,55,56,57,58,59,60,61,62,63,64,65,66,67,68,69,70,71,72,73,74,75,76,77,78,79,80,81,82] da w:=(R.fZ (by decide)).trans (by simp only[*,go_sem]);clear R M N O a4 a5;obtain _|Q:=Q
   ·exact absurd x (by simp only[aU,reduceCtorEq,not_false_eq_true])
   revert x;refine bS fun g3 h p=>?_;unfold wP at h;(try dsimp only at h);refine af hJ (af hJ ?_);refine aB hJ fun g4=>?_;refine cP hJ mixed 15 1 (by simp only[*,go_sem]) (by kernel_rfl) ?_;revert h;refine cS (fun dk h=>?_) fun dk h=>?_
   ·revert h;refine bS fun dp dq h=>?_;obtain ⟨ha,hc,hf,hg⟩:=f.cT dq;revert h;refine bS fun ds dt h=>?_;obtain ⟨hh,hi,hj,hk⟩:=f.cT dt;revert h;refine bS fun hl du h=>?_;(try simp only[*,go_sem]);refine ⟨_,bC hJ fun F dv=>jG dp ds du,b7 ?_⟩;(try simp only[*,go_sem]);revert h;refine jC hJ (by simp only[*,go_sem]) (fun dC h=>?_) fun dC h=>?_
    ·obtain rfl:=sI h;refine aH hJ (aN hJ ?_);refine aB hJ fun hn=>?_;refine ak hJ ?_;simp only[*,go_sem];refine ⟨Q,Nat.lt_succ_self _,_,Le.sub (List.Sublist.refl _),(IntKind.i64.wrap (j+1)),p,rfl,?_⟩;simp only[*,go_sem]
    obtain rfl:=sI h;refine bN ?_;simp only[go_sem];obtain rfl:=sI p;clear p;have h:=a6;dsimp only[aD] at h;(try simp only[*,go_sem]);refine Qn.intro ⟨_,Le.sub (List.Sublist.refl _),j,h,rfl,?_⟩;simp only[*,go_sem]
   obtain rfl:=sI h;(try simp only[*,go_sem]);refine bD hJ (by simp only[*,go_sem]) ?_;refine bN ?_;simp only[go_sem];obtain rfl:=sI p;clear p;have h:=a6;dsimp only[aD] at h;(try simp only[*,go_sem]);refine Qn.intro ⟨_,Le.sub (List.Sublist.refl _),j,h,rfl,?_⟩;simp only[*,go_sem]
  rintro ho F' ⟨e,a7,rfl,a8,a9,hp,ba,bb,bc,bd,bj⟩;obtain rfl:=sI a7;clear a7;have h:=cy;dsimp only[aD] at h;clear M N O a4 a5;revert h;refine bS fun dE h dT=>?_;refine gi hJ (fun a F'=>∃(k:Int),some (Fl.bk k:Fl Int (Int×(List Int)))=some dE/\F'=⟨ro,[(b,Obj.cells d 3)]⟩/\sz a=84/\a.defers=[]/\cL [9,10,29,30,31,32,33,34,35,36,37,38,39,40,41,42,43,44,45,46,47,48,49,50,51,52,53,54,55,56,57,58,59,60,61,62,63,64,65,66,67,68,69,70,71,72,73,74,75,76,77,78,79,80,81,82] a w/\slot a 0= .slice (some ⟨b,0,none⟩) u0.length c2/\slot a 1= .int .i64 c/\slot a 8= .int .i64 0/\slot a 9= .int .i64 e/\slot a 10= .int .i64 k) ?_ ?_
  ·refine aN hJ ?_;revert h;refine bS fun ea y bl=>?_;refine bT hJ [10,46,47,48,49,50,51,52,53,54,55,56,57,58,59,60,61] (fun m a F'=>∃(l:Int),aU (wQ c g e) m l=some ea/\F'=⟨ro,[(b,Obj.cells d 3)]⟩/\slot a 10= .int .i64 l) fu ?_ ?_
   ·refine ⟨i,y,rfl,?_⟩;simp only[*,go_sem]
   rintro S eb F' T ⟨l,y,rfl,hq⟩;obtain ⟨ec,ed,eh⟩:=T.pick [0,1,8,9] (by decide);simp only[*,go_sem] at ec ed eh;have hr:cL [9,10,29,30,31,32,33,34,35,36,37,38,39,40,41,42,43,44,45,46,47,48,49,50,51,52,53,54,55,56,57,58,59,60,61,62,63,64,65,66,67,68,69,70,71,72,73,74,75,76,77,78,79,80,81,82] eb w:=(T.fZ (by decide)).trans (by simp only[*,go_sem]);clear T a8 a9 ba bb bc bd bj;obtain _|S:=S
   ·exact absurd y (by simp only[aU,reduceCtorEq,not_false_eq_true])
   revert y;refine bS fun ht h q=>?_;unfold wQ at h;(try dsimp only at h);refine af hJ (af hJ ?_);refine aB hJ fun hv=>?_;refine cP hJ mixed 14 1 (by simp only[*,go_sem]) (by kernel_rfl) ?_;revert h;refine cS (fun et h=>?_) fun et h=>?_
   ·revert h;refine bS fun eu ev h=>?_;obtain ⟨hx,hy,hz,hA⟩:=f.cT ev;revert h;refine bS fun eQ eS h=>?_;obtain ⟨hB,hD,hE,hF⟩:=f.cT eS;revert h;refine bS fun hG e0 h=>?_;(try simp only[*,go_sem]);refine ⟨_,bC hJ fun F dv=>jG eu eQ e0,b7 ?_⟩;(try simp only[*,go_sem]);revert h;refine jC hJ (by simp only[*,go_sem]) (fun e1 h=>?_) fun e1 h=>?_
    ·obtain rfl:=sI h;refine aH hJ (aN hJ ?_);refine aB hJ fun hI=>?_;refine ak hJ ?_;simp only[*,go_sem];refine ⟨S,Nat.lt_succ_self _,_,Le.sub (List.Sublist.refl _),(IntKind.i64.wrap (l - 1)),q,rfl,?_⟩;simp only[*,go_sem]
    obtain rfl:=sI h;refine bN ?_;simp only[go_sem];obtain rfl:=sI q;clear q;have h:=bl;dsimp only[aD] at h;(try simp only[*,go_sem]);refine Qn.intro ⟨_,Le.sub (List.Sublist.refl _),l,h,rfl,?_⟩;simp only[*,go_sem]
   obtain rfl:=sI h;(try simp only[*,go_sem]);refine bD hJ (by simp only[*,go_sem]) ?_;refine bN ?_;simp only[go_sem];obtain rfl:=sI q;clear q;have h:=bl;dsimp only[aD] at h;(try simp only[*,go_sem]);refine Qn.intro ⟨_,Le.sub (List.Sublist.refl _),l,h,rfl,?_⟩;simp only[*,go_sem]
  rintro hK F' ⟨k,bm,rfl,hL,hM,hN,hP,hQ,hR,hS,hT⟩;obtain rfl:=sI bm;clear bm;have h:=dT;dsimp only[aD] at h;clear a8 a9 ba bb bc bd bj;refine af hJ (af hJ ?_);refine aB hJ fun hV=>?_;refine ak hJ ?_;simp only[*,go_sem];revert h;refine jC hJ (by simp only[*,go_sem]) (fun e2 h=>?_) fun e2 h=>?_
  ·obtain rfl:=sI h;refine bN ?_;simp only[go_sem];obtain rfl:=sI P;clear P;have h:=cl;dsimp only[aD] at h;(try simp only[*,go_sem]);refine Qn.intro ⟨_,Le.sub (List.Sublist.refl _),d,e,g,h,rfl,f,?_⟩;simp only[*,go_sem]
  refine aH hJ (af hJ ?_);refine aB hJ fun hX=>?_;refine eG hJ mixed [13,14,15] (.pure 0 (.pure 1 (.pure 2 (.pure 3 (.pure 4 (.pure 5 (.pure 6 (.rd 7 (.pure 8 (.pure 9 (.pure 10 (.rd 11 (.pure 12 (.last 13 (.pure 14 (.last 15 .done)))))))))))))))) ⟨ro,[(b,Obj.cells d 3)]⟩ (by simp only[*,go_sem]) (by kernel_rfl) ?_;revert h;refine bS fun U e3 h=>?_;obtain ⟨hY,hZ,h0,h1⟩:=f.cT e3;revert h;refine bS fun V fa h=>?_;obtain ⟨fb,fg,h2,h3⟩:=f.cT fa;have bo:=f.fQ fb fg U;revert h;refine bS fun h4 fi h=>?_;obtain rfl:=sI h;obtain ⟨fo,fp,h5,h6⟩:=bo.cT fi;have br:=bo.fQ fo fp V;try simp only[*,go_sem]
  refine af hJ ?_;obtain ⟨bs,W⟩:∃o,o=(cM (cM d (e).toNat [.int .i64 U]) (k).toNat [.int .i64 V]):=⟨_,rfl⟩
  refine cp (F:=⟨ro,[(b,Obj.cells bs 3)]⟩) hJ (by rw[W];exact Le.refl _) ?_;rw[<-W] at br;clear W;refine aB hJ fun h7=>?_;refine ak hJ ?_;simp only[*,go_sem];refine aB hJ fun h8=>?_;refine ak hJ ?_;simp only[*,go_sem];refine ⟨L,Nat.lt_succ_self _,_,Le.sub (List.Sublist.refl _),bs,(IntKind.i64.wrap (e+1)),(IntKind.i64.wrap (k - 1)),((g.set (e).toNat U).set (k).toNat V),P,rfl,br,?_⟩;simp only[*,go_sem]
 rintro h9 F' ⟨H,I,K,bz,rfl,fr,ib,ic,ih,ik,il⟩;obtain rfl:=sI bz;clear bz;have h:=cd;dsimp only[aD] at h;obtain rfl:=sI h;clear ad hd ae k1 al ao;refine af hJ ?_;refine aB hJ fun im=>?_;refine ak hJ ?_;simp only[*,go_sem];refine az ?_;simp only[*,go_sem];exact ⟨_,fr,Le.sub (List.Sublist.refl _)⟩
def wT (u0:(List Int))(a:Int)(st:Int):Option (Fl Int (Bool×(List Int))):=
 cond (decide (st<a)) (ag (aY u0 st) fun b=>ag (aY u0 (IntKind.i64.wrap (st - 1))) fun c=>ag (iy b c) fun d=>cond (!d) (some (.nx (IntKind.i64.wrap (st+1)))) (some (.bk st))) (some (.bk st))
def wU (u0:(List Int))(b:Int)(a:Int)(st:(Bool×Int×Int)):Option (Fl (Bool×Int×Int) (Bool×(List Int))):=
 cond (decide (st.2.2<5)) (ag (ag (aU (wT u0 a) fu st.2.1) fun o=>aD o (fun c=>some (.bk c)) (fun _ _=>none) (fun r=>some (.rt r)):Option (Fl Int (Bool×(List Int)))) fun o=>aD o (fun d=>cond ((d==a)) (some (.rt (true,u0))) (cond (decide ((IntKind.i64.wrap (a - b))<50)) (some (.rt (false,u0))) (none))) (fun _ _=>none) (fun r=>some (.rt r))) (some (.bk (st.1,st.2.1,st.2.2)))
def wV (u0:(List Int))(a:Int)(b:Int):Option (Bool×(List Int)):=
 cond (List.isEmpty u0) none (ag (ag (aU (wU u0 a b) fu (false,(IntKind.i64.wrap (a+1)),0)) fun o=>aD o (fun c=>some (.bk c.1)) (fun _ _=>none) (fun r=>some (.rt r)):Option (Fl Bool (Bool×(List Int)))) fun o=>aD o (fun d=>some (false,u0)) (fun _ _=>none) (fun r=>some r))
theorem He {ro:Addr->Option Value}(u0:(List Int)){p:Value}{C:List (Nat×Obj)}(b:aO rI ro 3 p u0 C)(f:Int)(g:Int){r:(Bool×(List Int))}(h:wV u0 f g=some r):aE Tryz.prog 182 #[p,.int .i64 f,.int .i64 g] ⟨ro,C⟩ (fun v G=>∃D,(v= .bool r.1/\aO rI ro 3 p r.2 D)/\Le ⟨ro,D⟩ G):=by
 obtain ⟨d1,c2,rfl,a8⟩:=b.len;unfold wV at h;revert h;refine cS (fun E h=>?_) fun E h=>?_
 ·cases h
 obtain ⟨c,k,rfl,rfl,a9⟩:=b.iw E;refine aE.go Tryz.func182 rfl Tryz.ntmps182 Tryz.results182 (by simp) fun main J hJ A H hd hs=>?_;have I:=hs 0;have k1:=hs 1;have K:=hs 2;clear hs;refine af hJ ?_;refine aB hJ fun ba=>?_;refine ak hJ ?_;simp only[*,go_sem];refine af hJ ?_;refine aB hJ fun bb=>?_;refine ak hJ ?_;simp only[*,go_sem];revert h;refine bS fun U h q=>?_;refine gi hJ (fun a F'=>∃(s:Bool),some (Fl.bk s:Fl Bool (Bool×(List Int)))=some U/\F'=⟨ro,[(c,Obj.cells k 3)]⟩/\sz a=133/\a.defers=[]/\slot a 0= .slice (some ⟨c,0,none⟩) u0.length c2/\slot a 6= .bool s) ?_ ?_
 ·refine af hJ ?_;refine aB hJ fun bc=>?_;refine ak hJ ?_;simp only[*,go_sem];refine aN hJ ?_;revert h;refine bS fun V l t=>?_;refine bT hJ [6,7,8,9,10,13,14,15,16,17,18,19,20,21,22,23,24,25,26,27,28,29,30,31,32,33,34,35,36,37,38,39,40,41,42,43,44,45,46,47,48,49,50,51,52,53,54,55,56,57,58,59,60,61,62,63,64,65,66,67,68,69,70,71,72,73,74,75,76,77,78,79,80,81,82,83,84,85,86,87,88,89,90,91,92,93,94,95,96,97,98,99,100,101,102,103,104,105,106,107,108,109,110,111,112,113,114,115,116,117,118,119,120,121,122,123,124,125,126,127,128,129,130,131,132] (fun m a F'=>∃(i:Bool) (n:Int) (v20:Int),aU (wU u0 f g) m (i,n,v20)=some V/\F'=⟨ro,[(c,Obj.cells k 3)]⟩/\slot a 6= .bool i/\slot a 7= .int .i64 n/\slot a 8= .int .i64 v20) fu ?_ ?_
  ·refine ⟨false,(IntKind.i64.wrap (f+1)),0,l,rfl,?_⟩;simp only[*,go_sem]
  rintro L M F' N ⟨i,n,v20,l,rfl,O,P,Q⟩;obtain ⟨u,w,x⟩:=N.pick [0,1,2] (by decide);simp only[*,go_sem] at u w x;clear N H hd I k1 K;obtain _|L:=L
  ·exact absurd l (by simp only[aU,reduceCtorEq,not_false_eq_true])
  revert l;refine bS fun bd h d=>?_;unfold wU at h;try dsimp only at h
  refine af hJ (af hJ ?_);refine aB hJ fun bj=>?_;refine ak hJ ?_;simp only[*,go_sem];revert h;refine jC hJ (by simp only[*,go_sem]) (fun W h=>?_) fun W h=>?_
  ·refine aH hJ (af hJ ?_);refine aN hJ ?_;revert h;refine bS fun X h Y=>?_;refine gi hJ (fun a F'=>∃(y:Int),some (Fl.bk y:Fl Int (Bool×(List Int)))=some X/\F'=⟨ro,[(c,Obj.cells k 3)]⟩/\sz a=133/\a.defers=[]/\cL [6,7,8,9,10,13,14,15,16,17,18,19,20,21,22,23,24,25,26,27,28,29,30,31,32,33,34,35,36,37,38,39,40,41,42,43,44,45,46,47,48,49,50,51,52,53,54,55,56,57,58,59,60,61,62,63,64,65,66,67,68,69,70,71,72,73,74,75,76,77,78,79,80,81,82,83,84,85,86,87,88,89,90,91,92,93,94,95,96,97,98,99,100,101,102,103,104,105,106,107,108,109,110,111,112,113,114,115,116,117,118,119,120,121,122,123,124,125,126,127,128,129,130,131,132] a M/\slot a 0= .slice (some ⟨c,0,none⟩) u0.length c2/\slot a 1= .int .i64 f/\slot a 2= .int .i64 g/\slot a 6= .bool i/\slot a 7= .int .i64 y/\slot a 8= .int .i64 v20) ?_ ?_
   ·refine aN hJ ?_;revert h;refine bS fun Z o R=>?_;refine bT hJ [7,17,18,19,20,21,22,23,24,25,26,27,28,29,30,31,32,33,34] (fun m a F'=>∃(e:Int),aU (wT u0 g) m e=some Z/\F'=⟨ro,[(c,Obj.cells k 3)]⟩/\slot a 7= .int .i64 e) fu ?_ ?_
    ·refine ⟨n,o,rfl,?_⟩;simp only[*,go_sem]
    rintro z ab F' B ⟨e,o,rfl,bl⟩;obtain ⟨ad,ae,al⟩:=B.pick [0,1,2,6,8,13,14] (by decide);simp only[*,go_sem] at ad ae al;have bm:cL [6,7,8,9,10,13,14,15,16,17,18,19,20,21,22,23,24,25,26,27,28,29,30,31,32,33,34,35,36,37,38,39,40,41,42,43,44,45,46,47,48,49,50,51,52,53,54,55,56,57,58,59,60,61,62,63,64,65,66,67,68,69,70,71,72,73,74,75,76,77,78,79,80,81,82,83,84,85,86,87,88,89,90,91,92,93,94,95,96,97,98,99,100,101,102,103,104,105,106,107,108,109,110,111,112,113,114,115,116,117,118,119,120,121,122,123,124,125,126,127,128,129,130,131,132] ab M:=(B.fZ (by decide)).trans (by simp only[*,go_sem]);clear B u w x O P Q;obtain _|z:=z
    ·exact absurd o (by simp only[aU,reduceCtorEq,not_false_eq_true])
    revert o;refine bS fun bo h j=>?_;unfold wT at h;(try dsimp only at h);refine af hJ (af hJ ?_);refine aB hJ fun br=>?_;refine cP hJ mixed 16 1 (by simp only[*,go_sem]) (by kernel_rfl) ?_;revert h;refine cS (fun ao h=>?_) fun ao h=>?_
    ·revert h;refine bS fun ar a0 h=>?_;obtain ⟨bs,bz,b0,b1⟩:=b.cT a0;revert h;refine bS fun a2 a3 h=>?_;obtain ⟨b2,b3,b4,b5⟩:=b.cT a3;revert h;refine bS fun ca a4 h=>?_;(try simp only[*,go_sem]);refine ⟨_,bC hJ fun F cb=>jG ar a2 a4,b7 ?_⟩;(try simp only[*,go_sem]);revert h;refine jC hJ (by simp only[*,go_sem]) (fun a5 h=>?_) fun a5 h=>?_
     ·obtain rfl:=sI h;refine aH hJ (aN hJ ?_);refine aB hJ fun cd=>?_;refine ak hJ ?_;simp only[*,go_sem];refine ⟨z,Nat.lt_succ_self _,_,Le.sub (List.Sublist.refl _),(IntKind.i64.wrap (e+1)),j,rfl,?_⟩;simp only[*,go_sem]
     obtain rfl:=sI h;refine bN ?_;simp only[go_sem];obtain rfl:=sI j;clear j;have h:=R;dsimp only[aD] at h;(try simp only[*,go_sem]);refine Qn.intro ⟨_,Le.sub (List.Sublist.refl _),e,h,rfl,?_⟩;simp only[*,go_sem]
    obtain rfl:=sI h;(try simp only[*,go_sem]);refine bD hJ (by simp only[*,go_sem]) ?_;refine bN ?_;simp only[go_sem];obtain rfl:=sI j;clear j;have h:=R;dsimp only[aD] at h;(try simp only[*,go_sem]);refine Qn.intro ⟨_,Le.sub (List.Sublist.refl _),e,h,rfl,?_⟩;simp only[*,go_sem]
   rintro cf F' ⟨y,S,rfl,cl,cu,cy,c0,da,db,dd,df,dk⟩;obtain rfl:=sI S;clear S;have h:=Y;dsimp only[aD] at h;clear u w x O P Q;refine af hJ (af hJ ?_);refine aB hJ fun dp=>?_;refine ak hJ ?_;simp only[*,go_sem];revert h;refine jC hJ (by simp only[*,go_sem]) (fun a6 h=>?_) fun a6 h=>?_
   ·obtain rfl:=sI h;refine af hJ ?_;refine aB hJ fun dq=>?_;refine ak hJ ?_;simp only[*,go_sem];obtain rfl:=sI d;clear d;have h:=t;dsimp only[aD] at h;obtain rfl:=sI h;have h:=q;dsimp only[aD] at h;obtain rfl:=sI h;refine az ?_;simp only[*,go_sem];exact ⟨_,b,Le.sub (List.Sublist.refl _)⟩
   refine aH hJ (af hJ ?_);refine af hJ ?_;refine aB hJ fun ds=>?_;refine ak hJ ?_;simp only[*,go_sem];revert h;refine jC hJ (by simp only[*,go_sem]) (fun a7 h=>?_) fun a7 h=>?_
   ·obtain rfl:=sI h;refine af hJ ?_;refine aB hJ fun dt=>?_;refine ak hJ ?_;simp only[*,go_sem];obtain rfl:=sI d;clear d;have h:=t;dsimp only[aD] at h;obtain rfl:=sI h;have h:=q;dsimp only[aD] at h;obtain rfl:=sI h;refine az ?_;simp only[*,go_sem];exact ⟨_,b,Le.sub (List.Sublist.refl _)⟩
   cases h
  obtain rfl:=sI h;refine bN ?_;simp only[go_sem];obtain rfl:=sI d;clear d;have h:=t;dsimp only[aD] at h;try simp only[*,go_sem]
  refine Qn.intro ⟨_,Le.sub (List.Sublist.refl _),i,h,rfl,?_⟩;simp only[*,go_sem]
 rintro du F' ⟨s,T,rfl,dv,dC,dE,dT⟩;obtain rfl:=sI T;clear T;have h:=q;dsimp only[aD] at h;obtain rfl:=sI h;clear H hd I k1 K;refine af hJ ?_;refine aB hJ fun ea=>?_;refine ak hJ ?_;simp only[*,go_sem];refine az ?_;simp only[*,go_sem];exact ⟨_,b,Le.sub (List.Sublist.refl _)⟩
def wW (st:(Int×Int×Int×Bool×Bool×(List Int))):Option (Fl (Int×Int×Int×Bool×Bool×(List Int)) (Unit×(List Int))):=
 cond (decide ((IntKind.i64.wrap (st.2.1 - st.1))<=12)) (ag (sP st.2.2.2.2.2 st.1 st.2.1) fun j=>some (.rt ((),j.2))) (cond ((st.2.2.1==0)) (none) (ag (cond (!st.2.2.2.1) (ag (wI st.2.2.2.2.2 st.1 st.2.1) fun k=>some (.bk ((IntKind.i64.wrap (st.2.2.1 - 1)),k.2))) (some (.bk (st.2.2.1,st.2.2.2.2.2))):Option (Fl (Int×(List Int)) (Unit×(List Int)))) fun o=>aD o (fun c=>ag (wE c.2 st.1 st.2.1) fun b=>cond ((b.1.2==2)) (none) (ag (cond (st.2.2.2.1) (cond (st.2.2.2.2.1) (cond ((b.1.2==1)) (ag (wV b.2 st.1 st.2.1) fun f=>cond (f.1) (some (.rt ((),f.2))) (some (.bk f.2))) (some (.bk b.2))) (some (.bk b.2))) (some (.bk b.2)):Option (Fl (List Int) (Unit×(List Int)))) fun o=>aD o (fun e=>ag (cond (decide (0<st.1)) (ag (aY e (IntKind.i64.wrap (st.1 - 1))) fun l=>ag (aY e b.1.1) fun m=>ag (iy l m) fun n=>cond (!n) (ag (wS e st.1 st.2.1 b.1.1) fun g=>some (.br 1 (g.1,g.2))) (some (.bk (st.1,e)))) (some (.bk (st.1,e))):Option (Fl (Int×(List Int)) (Unit×(List Int)))) fun o=>aD o (fun d=>ag (wO d.2 d.1 st.2.1 b.1.1) fun a=>ag (fC (IntKind.i64.wrap (st.2.1 - st.1)) 8) fun h=>cond (decide ((IntKind.i64.wrap (a.1.1 - d.1))<(IntKind.i64.wrap (st.2.1 - a.1.1)))) (ag (sQ a.2 d.1 a.1.1 c.1) fun p=>some (.nx ((IntKind.i64.wrap (a.1.1+1)),st.2.1,c.1,(decide (h<=(IntKind.i64.wrap (a.1.1 - d.1)))),a.1.2,p.2))) (ag (sQ a.2 (IntKind.i64.wrap (a.1.1+1)) st.2.1 c.1) fun q=>some (.nx (d.1,a.1.1,c.1,(decide (h<=(IntKind.i64.wrap (st.2.1 - a.1.1)))),a.1.2,q.2)))) (fun _ i=>some (.nx (i.1,st.2.1,c.1,st.2.2.2.1,st.2.2.2.2.1,i.2))) (fun r=>some (.rt r))) (fun _ _=>none) (fun r=>some (.rt r)))) (fun _ _=>none) (fun r=>some (.rt r))))
def wX (u0:(List Int))(a:Int)(b:Int)(c:Int):Option (Unit×(List Int)):=
 cond (List.isEmpty u0) none (ag (aU (wW) fu (a,b,c,true,true,u0)) fun o=>aD o (fun d=>some ((),d.2.2.2.2.2)) (fun _ _=>none) (fun r=>some r))
theorem Hf {ro:Addr->Option Value}(u0:(List Int)){H:Value}{T:List (Nat×Obj)}(I:aO rI ro 3 H u0 T)(K:Int)(L:Int)(M:Int){r:(Unit×(List Int))}(h:wX u0 K L M=some r):aE Tryz.prog 148 #[H,.int .i64 K,.int .i64 L,.int .i64 M] ⟨ro,T⟩ (fun v G=>∃d,(v= .tuple #[]/\aO rI ro 3 H r.2 d)/\Le ⟨ro,d⟩ G):=by
 obtain ⟨d1,c2,rfl,gB⟩:=I.len;unfold wX at h;revert h;refine cS (fun U h=>?_) fun U h=>?_
 ·cases h
 obtain ⟨b,bd,rfl,rfl,gC⟩:=I.iw U;refine aE.go Tryz.func148 rfl Tryz.ntmps148 Tryz.results148 (by simp) fun main J hJ A bj hd hs=>?_;have bl:=hs 0;have k1:=hs 1;have bm:=hs 2;have bo:=hs 3;clear hs;refine af hJ ?_;refine aB hJ fun gM=>?_;refine ak hJ ?_;simp only[*,go_sem];refine af hJ ?_;refine aB hJ fun gT=>?_;refine ak hJ ?_;simp only[*,go_sem];refine aN hJ ?_;revert h;refine bS fun br z V=>?_;refine bT hJ [1,2,3,8,9,10,11,12,13,14,15,16,17,18,19,20,21,22,23,24,25,26,27,28,29,30,31,32,33,34,35,36,37,38,39,40,41,42,43,44,45,46,47,48,49,50,51,52,53,54,55,56,57,58,59,60,61,62,63,64,65,66,67,68,69,70,71,72,73,74,75,76,77,78,79,80,81,82,83,84,85,86,87,88,89,90,91,92,93,94,95,96,97,98,99,100,101,102,103,104,105,106,107,108,109,110,111,112,113,114,115,116,117,118,119,120,121,122,123,124,125,126,127,128,129,130,131,132,133] (fun m a F'=>∃(B:Array Value) (e:Int) (c:Int) (t:Int) (l:Bool) (n:Bool) (q:(List Int)),aU (wW) m (e,c,t,l,n,q)=some br/\F'=⟨ro,[(b,Obj.cells B 3)]⟩/\aO rI ro 3 (.slice (some ⟨b,0,none⟩) u0.length c2) q [(b,Obj.cells B 3)]/\slot a 1= .int .i64 e/\slot a 2= .int .i64 c/\slot a 3= .int .i64 t/\slot a 8= .bool l/\slot a 9= .bool n) fu ?_ ?_
 ·refine ⟨bd,K,L,M,true,true,u0,z,rfl,I,?_⟩;simp only[*,go_sem]
 rintro u N F' W ⟨B,e,c,t,l,n,q,z,rfl,O,bs,bz,b0,b1,b2⟩;obtain ⟨X,Y,Z⟩:=W.pick [0] (by decide);simp only[*,go_sem] at X Y Z;clear W bj hd bl k1 bm bo;obtain _|u:=u
 ·exact absurd z (by simp only[aU,reduceCtorEq,not_false_eq_true])
 revert z;refine bS fun gV h o=>?_;unfold wW at h;try dsimp only at h
 refine aN hJ (af hJ ?_);refine aB hJ fun g0=>?_;refine ak hJ ?_;simp only[*,go_sem];refine af hJ (af hJ ?_);refine aB hJ fun g1=>?_;refine ak hJ ?_;simp only[*,go_sem];revert h;refine jC hJ (by simp only[*,go_sem]) (fun b3 h=>?_) fun b3 h=>?_
 ·refine af hJ ?_;refine aB hJ fun g2=>?_;refine ak hJ ?_;revert h;refine bS fun g3 b4 h=>?_;obtain rfl:=sI h;simp only[*,go_sem];refine dJ hJ [] [] _ (A5 q O e c b4) (fun g4 ha f d g hc=>?_);obtain ⟨rfl,ab⟩:=f;obtain ⟨b5,rfl⟩:=ab.gA;simp only[aX] at g;subst d;refine ⟨⟨ro,[(b,Obj.cells b5 3)]⟩,Le.refl _,?_⟩;try simp only[*,go_sem]
  obtain rfl:=sI o;clear o;have h:=V;dsimp only[aD] at h;obtain rfl:=sI h;refine az ?_;simp only[*,go_sem];exact ⟨_,ab,Le.sub (List.Sublist.refl _)⟩
 refine aH hJ (af hJ ?_);refine af hJ ?_;refine aB hJ fun hf=>?_;refine ak hJ ?_;simp only[*,go_sem];revert h;refine jC hJ (by simp only[*,go_sem]) (fun ca h=>?_) fun ca h=>?_
 ·cases h
 refine aH hJ ?_;revert h;refine bS fun cb h cd=>?_;refine gi hJ (fun a F'=>∃(P:Array Value) (i:Int) (C:(List Int)),some (Fl.bk (i,C):Fl (Int×(List Int)) (Unit×(List Int)))=some cb/\F'=⟨ro,[(b,Obj.cells P 3)]⟩/\aO rI ro 3 (.slice (some ⟨b,0,none⟩) u0.length c2) C [(b,Obj.cells P 3)]/\sz a=134/\a.defers=[]/\cL [1,2,3,8,9,10,11,12,13,14,15,16,17,18,19,20,21,22,23,24,25,26,27,28,29,30,31,32,33,34,35,36,37,38,39,40,41,42,43,44,45,46,47,48,49,50,51,52,53,54,55,56,57,58,59,60,61,62,63,64,65,66,67,68,69,70,71,72,73,74,75,76,77,78,79,80,81,82,83,84,85,86,87,88,89,90,91,92,93,94,95,96,97,98,99,100,101,102,103,104,105,106,107,108,109,110,111,112,113,114,115,116,117,118,119,120,121,122,123,124,125,126,127,128,129,130,131,132,133] a N/\slot a 0= .slice (some ⟨b,0,none⟩) u0.length c2/\slot a 1= .int .i64 e/\slot a 2= .int .i64 c/\slot a 3= .int .i64 i/\slot a 8= .bool l/\slot a 9= .bool n/\slot a 10= .int .i64 (IntKind.i64.wrap (c - e))) ?_ ?_
 ·refine af hJ ?_;refine aB hJ fun hg=>?_;refine ak hJ ?_;simp only[*,go_sem];revert h;refine jC hJ (by simp only[*,go_sem]) (fun cf h=>?_) fun cf h=>?_
  ·refine af hJ ?_;refine aB hJ fun hh=>?_;refine ak hJ ?_;revert h;refine bS fun cl cu h=>?_;simp only[*,go_sem];refine dJ hJ [] [] _ (G7 q O e c cu) (fun hi hj f d g hk=>?_);obtain ⟨rfl,ad⟩:=f;obtain ⟨ae,rfl⟩:=ad.gA;simp only[aX] at g;subst d;refine ⟨⟨ro,[(b,Obj.cells ae 3)]⟩,Le.refl _,?_⟩;(try simp only[*,go_sem]);refine aB hJ fun hl=>?_;refine ak hJ ?_;simp only[*,go_sem];refine Qn.intro ⟨_,Le.sub (List.Sublist.refl _),ae,(IntKind.i64.wrap (t - 1)),cl.2,h,rfl,ad,?_⟩;simp only[*,go_sem]
  refine aH hJ ?_;try simp only[*,go_sem]
  refine Qn.intro ⟨_,Le.sub (List.Sublist.refl _),B,t,q,h,rfl,O,?_⟩;simp only[*,go_sem]
 rintro hn F' ⟨P,i,C,al,rfl,cy,c0,da,ho,db,dd,df,dk,dp,dq,ds⟩;obtain rfl:=sI al;clear al;have h:=cd;dsimp only[aD] at h;clear X Y Z bs bz b0 b1 b2;refine af hJ ?_;refine aB hJ fun hp=>?_;refine ak hJ ?_;revert h;refine bS fun k dt h=>?_;simp only[*,go_sem];refine dJ hJ [] [] _ (GW C cy e c dt) (fun hq hr f d g ht=>?_);obtain ⟨rfl,w⟩:=f;obtain ⟨D,rfl⟩:=w.gA;simp only[aX] at g;subst d;refine ⟨⟨ro,[(b,Obj.cells D 3)]⟩,Le.refl _,?_⟩;refine aJ ?_;try simp only[*,go_sem]
 refine af hJ (af hJ ?_);refine aB hJ fun hv=>?_;refine ak hJ ?_;simp only[*,go_sem];revert h;refine jC hJ (by simp only[*,go_sem]) (fun du h=>?_) fun du h=>?_
 ·cases h
 refine aH hJ ?_;revert h;refine bS fun dv h ao=>?_;refine gi hJ (fun a F'=>∃(x:Array Value) (s:(List Int)),some (Fl.bk s:Fl (List Int) (Unit×(List Int)))=some dv/\F'=⟨ro,[(b,Obj.cells x 3)]⟩/\aO rI ro 3 (.slice (some ⟨b,0,none⟩) u0.length c2) s [(b,Obj.cells x 3)]/\sz a=134/\a.defers=[]/\cL [1,2,3,8,9,10,11,12,13,14,15,16,17,18,19,20,21,22,23,24,25,26,27,28,29,30,31,32,33,34,35,36,37,38,39,40,41,42,43,44,45,46,47,48,49,50,51,52,53,54,55,56,57,58,59,60,61,62,63,64,65,66,67,68,69,70,71,72,73,74,75,76,77,78,79,80,81,82,83,84,85,86,87,88,89,90,91,92,93,94,95,96,97,98,99,100,101,102,103,104,105,106,107,108,109,110,111,112,113,114,115,116,117,118,119,120,121,122,123,124,125,126,127,128,129,130,131,132,133] a N/\slot a 0= .slice (some ⟨b,0,none⟩) u0.length c2/\slot a 1= .int .i64 e/\slot a 2= .int .i64 c/\slot a 3= .int .i64 i/\slot a 8= .bool l/\slot a 9= .bool n/\slot a 10= .int .i64 (IntKind.i64.wrap (c - e))/\slot a 11= .int .i64 k.1.1) ?_ ?_
 ·refine af hJ ?_;refine aB hJ fun hx=>?_;refine ak hJ ?_;revert h;refine cS (fun dC h=>?_) fun dC h=>?_
  ·revert h;refine cS (fun dE h=>?_) fun dE h=>?_
   ·(try simp only[*,go_sem]);revert h;refine jC hJ (by simp only[*,go_sem]) (fun dT h=>?_) fun dT h=>?_
    ·refine af hJ ?_;refine aB hJ fun hy=>?_;refine ak hJ ?_;revert h;refine bS fun ea eb h=>?_;simp only[*,go_sem];refine dJ hJ [] [] _ (He k.2 w e c eb) (fun hz hA f d g hB=>?_);obtain ⟨rfl,Q⟩:=f;obtain ⟨ar,rfl⟩:=Q.gA;simp only[aX] at g;subst d;refine ⟨⟨ro,[(b,Obj.cells ar 3)]⟩,Le.refl _,?_⟩;(try simp only[*,go_sem]);revert h;refine jC hJ (by simp only[*,go_sem]) (fun ec h=>?_) fun ec h=>?_
     ·obtain rfl:=sI h;have h:=ao;dsimp only[aD] at h;obtain rfl:=sI h;obtain rfl:=sI o;clear o;have h:=V;dsimp only[aD] at h;obtain rfl:=sI h;refine az ?_;simp only[*,go_sem];exact ⟨_,Q,Le.sub (List.Sublist.refl _)⟩
     refine aH hJ ?_;(try simp only[*,go_sem]);refine Qn.intro ⟨_,Le.sub (List.Sublist.refl _),ar,ea.2,h,rfl,Q,?_⟩;simp only[*,go_sem]
    refine aH hJ ?_;(try simp only[*,go_sem]);refine Qn.intro ⟨_,Le.sub (List.Sublist.refl _),D,k.2,h,rfl,w,?_⟩;simp only[*,go_sem]
   (try simp only[*,go_sem]);refine bD hJ (by simp only[*,go_sem]) ?_;refine aH hJ ?_;(try simp only[*,go_sem]);refine Qn.intro ⟨_,Le.sub (List.Sublist.refl _),D,k.2,h,rfl,w,?_⟩;simp only[*,go_sem]
  try simp only[*,go_sem]
  refine bD hJ (by simp only[*,go_sem]) ?_;refine aH hJ ?_;try simp only[*,go_sem]
  refine Qn.intro ⟨_,Le.sub (List.Sublist.refl _),D,k.2,h,rfl,w,?_⟩;simp only[*,go_sem]
 rintro hD F' ⟨x,s,a0,rfl,y,ed,eh,hE,et,eu,ev,eQ,eS,e0,e1,e2⟩;obtain rfl:=sI a0;clear a0;have h:=ao;dsimp only[aD] at h;clear c0 da db dd df dk dp dq ds;revert h;refine bS fun e3 h a2=>?_;refine gi hJ (fun a F'=>∃(R:Array Value) (p:Int) (E:(List Int)),some (Fl.bk (p,E):Fl (Int×(List Int)) (Unit×(List Int)))=some e3/\F'=⟨ro,[(b,Obj.cells R 3)]⟩/\aO rI ro 3 (.slice (some ⟨b,0,none⟩) u0.length c2) E [(b,Obj.cells R 3)]/\sz a=134/\a.defers=[]/\cL [1,2,3,8,9,10,11,12,13,14,15,16,17,18,19,20,21,22,23,24,25,26,27,28,29,30,31,32,33,34,35,36,37,38,39,40,41,42,43,44,45,46,47,48,49,50,51,52,53,54,55,56,57,58,59,60,61,62,63,64,65,66,67,68,69,70,71,72,73,74,75,76,77,78,79,80,81,82,83,84,85,86,87,88,89,90,91,92,93,94,95,96,97,98,99,100,101,102,103,104,105,106,107,108,109,110,111,112,113,114,115,116,117,118,119,120,121,122,123,124,125,126,127,128,129,130,131,132,133] a N/\slot a 0= .slice (some ⟨b,0,none⟩) u0.length c2/\slot a 1= .int .i64 p/\slot a 2= .int .i64 c/\slot a 3= .int .i64 i/\slot a 8= .bool l/\slot a 9= .bool n/\slot a 10= .int .i64 (IntKind.i64.wrap (c - e))/\slot a 11= .int .i64 k.1.1) ?_ ?_
 ·refine af hJ ?_;refine aB hJ fun hF=>?_;refine cP hJ mixed 15 1 (by simp only[*,go_sem]) (by kernel_rfl) ?_;revert h;refine cS (fun fa h=>?_) fun fa h=>?_
  ·revert h;refine bS fun fb fg h=>?_;obtain ⟨hG,hI,hK,hL⟩:=y.cT fg;revert h;refine bS fun fi fo h=>?_;obtain ⟨hM,hN,hP,hQ⟩:=y.cT fo;revert h;refine bS fun hR fp h=>?_;(try simp only[*,go_sem]);refine ⟨_,bC hJ fun F hS=>jG fb fi fp,b7 ?_⟩;(try simp only[*,go_sem]);revert h;refine jC hJ (by simp only[*,go_sem]) (fun fr h=>?_) fun fr h=>?_
   ·refine af hJ ?_;refine aB hJ fun hT=>?_;refine ak hJ ?_;revert h;refine bS fun a3 fs h=>?_;obtain rfl:=sI h;simp only[*,go_sem];refine dJ hJ [] [] _ (G9 s y e c k.1.1 fs) (fun hV hX f d g hY=>?_);obtain ⟨rfl,a4⟩:=f;obtain ⟨a5,rfl⟩:=a4.gA;simp only[aX] at g;subst d;refine ⟨⟨ro,[(b,Obj.cells a5 3)]⟩,Le.refl _,?_⟩;refine aJ ?_;(try simp only[*,go_sem]);refine af hJ ?_;refine aB hJ fun hZ=>?_;refine ak hJ ?_;simp only[*,go_sem];refine bN ?_;simp only[go_sem];have h:=a2;dsimp only[aD] at h;obtain rfl:=sI h;(try simp only[*,go_sem]);refine ⟨u,Nat.lt_succ_self _,_,Le.sub (List.Sublist.refl _),a5,a3.1,c,i,l,n,a3.2,o,rfl,a4,?_⟩;simp only[*,go_sem]
   refine aH hJ ?_;(try simp only[*,go_sem]);refine Qn.intro ⟨_,Le.sub (List.Sublist.refl _),x,e,s,h,rfl,y,?_⟩;simp only[*,go_sem]
  try simp only[*,go_sem]
  refine bD hJ (by simp only[*,go_sem]) ?_;refine aH hJ ?_;try simp only[*,go_sem]
  refine Qn.intro ⟨_,Le.sub (List.Sublist.refl _),x,e,s,h,rfl,y,?_⟩;simp only[*,go_sem]
 rintro h0 F' ⟨R,p,E,a6,rfl,ft,h1,h2,h3,h4,h5,h6,h7,h8,h9,ib,ic⟩;obtain rfl:=sI a6;clear a6;have h:=a2;dsimp only[aD] at h;clear ed eh et eu ev eQ eS e0 e1 e2;refine af hJ ?_;refine aB hJ fun ih=>?_;refine ak hJ ?_;revert h;refine bS fun j fv h=>?_;simp only[*,go_sem];refine dJ hJ [] [] _ (G8 E ft p c k.1.1 fv) (fun ik il f d g im=>?_);obtain ⟨rfl,S⟩:=f;obtain ⟨fw,rfl⟩:=S.gA;simp only[aX] at g;subst d;refine ⟨⟨ro,[(b,Obj.cells fw 3)]⟩,Le.refl _,?_⟩;refine aJ ?_;try simp only[*,go_sem]
 refine af hJ ?_;refine aB hJ fun iv=>?_;refine ak hJ ?_;simp only[*,go_sem];refine af hJ ?_;refine aB hJ fun ix=>?_;refine ak hJ ?_;simp only[*,go_sem];refine af hJ ?_;refine aB hJ fun j1=>?_;refine ak hJ ?_;revert h;refine bS fun a7 a8 h=>?_;obtain ⟨j2,kh⟩:=j3 a8;clear a8;try simp only[*,go_sem]
 refine af hJ ?_;refine aB hJ fun kj=>?_;refine ak hJ ?_;simp only[*,go_sem];revert h;refine jC hJ (by simp only[*,go_sem]) (fun fx h=>?_) fun fx h=>?_
 ·refine af hJ ?_;refine aB hJ fun kk=>?_;refine ak hJ ?_;simp only[*,go_sem];refine af hJ ?_;refine aB hJ fun kl=>?_;refine ak hJ ?_;revert h;refine bS fun gg gl h=>?_;obtain rfl:=sI h;simp only[*,go_sem];refine dJ hJ [] [] _ (A6 j.2 S p j.1.1 i gl) (fun km kn f d g kp=>?_);obtain ⟨rfl,a9⟩:=f;obtain ⟨ba,rfl⟩:=a9.gA;simp only[aX] at g;subst d;refine ⟨⟨ro,[(b,Obj.cells ba 3)]⟩,Le.refl _,?_⟩;try simp only[*,go_sem]
  refine aB hJ fun ks=>?_;refine ak hJ ?_;simp only[*,go_sem];refine ⟨u,Nat.lt_succ_self _,_,Le.sub (List.Sublist.refl _),ba,(IntKind.i64.wrap (j.1.1+1)),c,i,(decide (a7<=(IntKind.i64.wrap (j.1.1 - p)))),j.1.2,gg.2,o,rfl,a9,?_⟩;simp only[*,go_sem]
 refine af hJ ?_;refine aB hJ fun kt=>?_;refine ak hJ ?_;simp only[*,go_sem];refine af hJ ?_;refine aB hJ fun kv=>?_;refine ak hJ ?_;revert h;refine bS fun gn gp h=>?_;obtain rfl:=sI h;simp only[*,go_sem];refine dJ hJ [] [] _ (A6 j.2 S (IntKind.i64.wrap (j.1.1+1)) c i gp) (fun kx ky f d g k0=>?_);obtain ⟨rfl,bb⟩:=f;obtain ⟨bc,rfl⟩:=bb.gA;simp only[aX] at g;subst d;refine ⟨⟨ro,[(b,Obj.cells bc 3)]⟩,Le.refl _,?_⟩;try simp only[*,go_sem]
 refine aB hJ fun k2=>?_;refine ak hJ ?_;simp only[*,go_sem];refine ⟨u,Nat.lt_succ_self _,_,Le.sub (List.Sublist.refl _),bc,p,j.1.1,i,(decide (a7<=(IntKind.i64.wrap (c - j.1.1)))),j.1.2,gn.2,o,rfl,bb,?_⟩;simp only[*,go_sem]
def qg (u0:(List Int)):Option (Unit×(List Int)):=
 cond (List.isEmpty u0) none (ag (sR (IntKind.u64.wrap (u0.length:Int))) fun a=>ag (wX u0 0 (u0.length:Int) a) fun b=>some ((),b.2))
theorem Hg {ro:Addr->Option Value}(u0:(List Int)){b:Value}{d:List (Nat×Obj)}(c:aO rI ro 3 b u0 d){r:(Unit×(List Int))}(h:qg u0=some r):aE Tryz.prog 121 #[b] ⟨ro,d⟩ (fun v G=>∃a,(v= .tuple #[]/\aO rI ro 3 b r.2 a)/\Le ⟨ro,a⟩ G):=by
 obtain ⟨d1,c2,rfl,o⟩:=c.len;unfold qg at h;revert h;refine cS (fun e h=>?_) fun e h=>?_
 ·cases h
 obtain ⟨g,p,rfl,rfl,q⟩:=c.iw e;refine aE.go Tryz.func121 rfl Tryz.ntmps121 Tryz.results121 (by simp) fun main J hJ A s hd hs=>?_;have t:=hs 0;clear hs;refine af hJ ?_;refine aB hJ fun u=>?_;refine ak hJ ?_;simp only[*,go_sem,-h];refine aB hJ fun w=>?_;refine ak hJ ?_;revert h;refine bS fun i j h=>?_;simp only[*,go_sem,-h];refine bn hJ _ (A7 (IntKind.u64.wrap (u0.length:Int)) j) (aJ ?_);revert h;refine bS fun x k h=>?_;try simp only[*,go_sem,-h]
 refine dJ hJ [] [] _ (Hf u0 c 0 (u0.length:Int) i k) (fun y z l a m B=>?_);obtain ⟨rfl,f⟩:=l;obtain ⟨n,rfl⟩:=f.gA;simp only[aX] at m;subst a;refine ⟨⟨ro,[(g,Obj.cells n 3)]⟩,Le.refl _,?_⟩;try simp only[*,go_sem,-h]
 obtain rfl:=sI h;simp only[*,go_sem];exact ⟨_,f,Le.sub (List.Sublist.refl _)⟩
def jH (x:List Int)(j:Nat):Bool:=j==0||x.getD j 0 != x.getD (j - 1) 0
def gj (x:List Int):Nat->List Int
 |0=>[]
 |n+1=>gj x n++cond (jH x n) [x.getD n 0] []
theorem sS (x:List Int):∀n,n<=x.length->(∀j,j<n->jH x j=true)->gj x n=x.take n
 |0,_,_=>by simp[gj]
 |n+1,b,h=>by
  unfold gj
  rw[sS x n (by omega) (fun j c=>h j (by omega)),h n (by omega),List.take_succ]
  congr 1
  have a:n<x.length:=by omega
  simp[a]
theorem A8 (x:List Int){j:Nat}(h:j<1):jH x j=true:=by
 obtain rfl:j=0:=by omega
 rfl
def sU (u0:List Int):Option (List Int):=cond (List.isEmpty u0) none (some (gj u0 u0.length))
theorem Hh {ro:Addr->Option Value}(u0:List Int){Q:Value}{aV:List (Nat×Obj)}(hg:aO rI ro 3 Q u0 aV){r:List Int}(h:sU u0=some r):
  aE Tryz.prog 122 #[Q] ⟨ro,aV⟩ (fun v G=>∃R,aO rI ro 3 v r R/\Le ⟨ro,R⟩ G):=by
 obtain ⟨ad,cap,rfl,le⟩:=hg.len
 unfold sU at h
 have a8:=iS h;clear h;rcases a8 with ⟨S,h⟩|⟨S,h⟩
 ·cases h
 obtain ⟨b,F,rfl,rfl,cu⟩:=hg.iw S
 cases h
 have cy:u0.length<=1000000:=by obtain ⟨_,_,_,h,_⟩:=hg;exact h
 have cS:Tryz.prog.underlying 3=some (.int .i64):=by kernel_rfl
 refine aE.go Tryz.func122 rfl Tryz.ntmps122 Tryz.results122 (by simp) fun main J hJ A a9 hd hs=>?_
 have ba:=hs 0
 clear hs
 repeat refine af hJ ?_
 refine ak hJ ?_
 simp only[*,go_sem]
 repeat refine af hJ ?_
 refine ak hJ ?_
 simp only[*,go_sem]
 repeat refine af hJ ?_
 by_cases c0:u0.length<2
 ·refine bE hJ (by simp only[*,go_sem];simp;omega) ?_
  repeat refine af hJ ?_
  refine ak hJ ?_
  simp only[*,go_sem]
  refine az ?_
  simp only[*,go_sem]
  have e:gj u0 u0.length=u0:=by
   rw[sS u0 _ (Nat.le_refl _) (fun j c=>A8 u0 (by omega)),List.take_length]
  rw[e]
  exact ⟨_,hg,Le.refl _⟩
 refine bD hJ (by simp only[*,go_sem];simp;omega) ?_
 refine aH hJ ?_
 repeat refine af hJ ?_
 refine ak hJ ?_
 simp only[*,go_sem]
 repeat refine af hJ ?_
 refine aN hJ ?_
 refine bT hJ [3,4,5,10,11,12,13,14,15,16,17,18,19,20,21,22,23,24,25,26,27,28,29,30,31,32,33,34,35,36,37,38,39,40,41,42,43,44,45,46,47,48,49,50,51,52,53,54,55,56,57,58,59] (fun m u F'=>∃k:Nat,1<=k/\k<=u0.length/\u0.length - k<=m/\F'=⟨ro,[(b,Obj.cells F 3)]⟩/\slot u 3= .int .i64 (k:Int)/\∀j,j<k->jH u0 j=true) u0.length ?_ ?_
 ·refine ⟨1,Nat.le_refl _,by omega,by omega,rfl,?_,fun j c=>A8 u0 c⟩
  simp only[*,go_sem]
  rfl
 ·rintro bb g F' B ⟨k,da,T,db,rfl,bc,H⟩
  have bd:sz g=61:=by rw[B.size];simp only[*,go_sem]
  have bj:g.defers=[]:=by rw[B.defers];simp only[*,go_sem]
  have bk:slot g 0= .slice (some ⟨b,0,none⟩) u0.length cap:=by rw[B.dS 0 (by decide)];simp only[*,go_sem]
  clear B a9 hd ba
  repeat refine af hJ ?_
  repeat refine af hJ ?_
  refine ak hJ ?_
  simp only[*,go_sem]
  by_cases U:k<u0.length
  ·have hb:decide (((k:Nat):Int)<(u0.length:Int))=true:=decide_eq_true (by omega)
   refine bE hJ (by simp only[*,go_sem]) ?_
   refine aH hJ ?_
   repeat refine af hJ ?_
   refine aN hJ ?_
   repeat refine af hJ ?_
   obtain ⟨p,rfl⟩:∃p,k=p+1:=⟨k - 1,by omega⟩
   have hw:IntKind.i64.wrap (((p+1:Nat):Int) - 1)=(p:Int):=by rw[IntWalk.i64_in _ ⟨by omega,by omega⟩];omega
   refine fc hJ mixed 9 ⟨ro,[(b,Obj.cells F 3)]⟩ (by simp only[*,go_sem]) (by kernel_rfl) ?_
   obtain ⟨l,V⟩:∃x,u0[p+1]?=some x:=⟨u0[p+1],by simp[U]⟩
   obtain ⟨I,K,L⟩:=hg.iU V
   obtain rfl:I=[.int .i64 l]:=K
   have W:=L 0 _ rfl
   simp only[go_sem] at W
   have dd:=(Array.getElem?_eq_some_iff.1 W).1
   obtain ⟨o,X⟩:∃x,u0[p]?=some x:=⟨u0[p],by simp[Nat.lt_of_succ_lt U]⟩
   obtain ⟨M,N,O⟩:=hg.iU X
   obtain rfl:M=[.int .i64 o]:=N
   have Y:=O 0 _ rfl
   simp only[go_sem] at Y
   have df:=(Array.getElem?_eq_some_iff.1 Y).1
   have dk:¬((p+1:Nat):Int)<0:=by omega
   have b2:((p+1:Nat):Int)<(u0.length:Int):=by omega
   have b3:¬(p:Int)<0:=by omega
   have b4:(p:Int)<(u0.length:Int):=by omega
   have b5:(0:Int)<=((p+1:Nat):Int):=by omega
   have dp:(0:Int)<=(p:Int):=by omega
   simp only[*,go_sem]
   have bl:u0.getD (p+1) 0=l:=by rw[List.getD_eq_getElem?_getD,V];rfl
   have bm:u0.getD p 0=o:=by rw[List.getD_eq_getElem?_getD,X];rfl
   have Z:jH u0 (p+1)=(l != o):=by unfold jH;rw[bl,Nat.add_sub_cancel,bm];simp
   clear L O
   by_cases P:l=o
   ·subst P
    refine bE hJ (by simp only[*,go_sem,beq_self_eq_true]) ?_
    repeat refine af hJ ?_
    refine ak hJ ?_
    have dq:p+1<=u0.length:=T
    have ds:p+1<=cap:=by omega
    have dt:((p+1:Nat):Int)<=(u0.length:Int):=by omega
    have du:u0.length<=cap:=le
    have dv:¬cap=p+1:=by omega
    simp only[*,go_sem]
    have bo:slot g 4=slot g 4:=rfl
    repeat refine af hJ ?_
    refine ak hJ ?_
    simp only[*,go_sem]
    repeat refine af hJ ?_
    refine aN hJ ?_
    have e0:gj u0 (p+2)=u0.take (p+1):=by
     show gj u0 (p+1)++cond (jH u0 (p+1)) _ _=_
     rw[Z,sS u0 _ T H];simp
    refine bT hJ [3,5,29,30,31,32,33,34,35,36,37,38,39,40,41,42,43,44,45,46,47,48,49,50,51,52,53] (fun br u F'=>∃(m w:Nat) (arr:Array Value) (x:List Int),1<=m/\m<=u0.length - (p+1)/\u0.length - (p+1) - m<=br/\F'=⟨ro,[(b,Obj.cells arr 3)]⟩/\slot u 5= .int .i64 (m:Int)/\slot u 3= .int .i64 (w:Int)/\
     aO rI ro 3 (.slice (some ⟨b,0,none⟩) u0.length cap) x [(b,.cells arr 3)]/\x.length=u0.length/\(gj u0 (p+(1+m))).length=w/\w<=p+m/\x.take w=gj u0 (p+(1+m))/\∀j,p+m<=j->x[j]?=u0[j]?) u0.length ?_ ?_
    ·refine ⟨1,p+1,F,u0,Nat.le_refl _,by omega,by omega,rfl,?_,?_,hg,rfl,?_,Nat.le_refl _,e0.symm,fun _ _=>rfl⟩
     ·simp only[*,go_sem];rfl
     ·simp only[*,go_sem]
     ·show (gj u0 (p+2)).length=p+1
      rw[e0,List.length_take];omega
    ·rintro ab C F' s ⟨m,w,arr,x,L,O,dC,rfl,dE,dT,d,ae,t,ea,D,E⟩
     have eb:sz C=61:=by rw[s.size];simp only[*,go_sem]
     have ec:C.defers=[]:=by rw[s.defers];simp only[*,go_sem]
     have ed:slot C 0= .slice (some ⟨b,0,none⟩) u0.length cap:=by rw[s.dS 0 (by decide)];simp only[*,go_sem]
     have eh:slot C 4= .slice (some ⟨b,p+1,none⟩) (u0.length - (p+1)) (cap - (p+1)):=by rw[s.dS 4 (by decide)];simp only[*,go_sem]
     clear s bd bj bk bc bo
     repeat refine af hJ ?_
     refine ak hJ ?_
     simp only[*,go_sem]
     by_cases et:m<u0.length - (p+1)
     ·have bs:decide (((m:Nat):Int)<((u0.length - (p+1):Nat):Int))=true:=decide_eq_true (by omega)
      refine bE hJ (by simp only[*,go_sem]) ?_
      refine aH hJ ?_
      repeat refine af hJ ?_
      refine aN hJ ?_
      repeat refine af hJ ?_
      obtain ⟨q,rfl⟩:∃q,m=q+1:=⟨m - 1,by omega⟩
      have eu:IntKind.i64.wrap (((q+1:Nat):Int) - 1)=(q:Int):=by rw[IntWalk.i64_in _ ⟨by omega,by omega⟩];omega
      refine fc hJ mixed 9 ⟨ro,[(b,Obj.cells arr 3)]⟩ (by simp only[*,go_sem]) (by kernel_rfl) ?_
      obtain ⟨a,al⟩:∃y,u0[p+(1+(q+1))]?=some y:=⟨u0[p+(1+(q+1))]'(by omega),List.getElem?_eq_getElem _⟩
      obtain ⟨I,K,ao⟩:=d.iU ((E _ (by omega)).trans al)
      obtain rfl:I=[.int .i64 a]:=K
      have ar:=ao 0 _ rfl
      simp only[go_sem] at ar
      have ev:=(Array.getElem?_eq_some_iff.1 ar).1
      obtain ⟨f,a0⟩:∃y,u0[p+(1+q)]?=some y:=⟨u0[p+(1+q)]'(by omega),List.getElem?_eq_getElem _⟩
      obtain ⟨M,N,a2⟩:=d.iU ((E _ (by omega)).trans a0)
      obtain rfl:M=[.int .i64 f]:=N
      have a3:=a2 0 _ rfl
      simp only[go_sem] at a3
      have eQ:=(Array.getElem?_eq_some_iff.1 a3).1
      have c1:¬((q+1:Nat):Int)<0:=by omega
      have c2:((q+1:Nat):Int)<((u0.length - (p+1):Nat):Int):=by omega
      have c3:¬(q:Int)<0:=by omega
      have c4:(q:Int)<((u0.length - (p+1):Nat):Int):=by omega
      have eS:(0:Int)<=((q+1:Nat):Int):=by omega
      have e2:(0:Int)<=(q:Int):=by omega
      simp only[*,go_sem]
      have a4:u0.getD (p+(1+(q+1))) 0=a:=by rw[List.getD_eq_getElem?_getD,al];rfl
      have bz:u0.getD (p+(1+q)) 0=f:=by rw[List.getD_eq_getElem?_getD,a0];rfl
      have bS:jH u0 (p+(1+(q+1)))=(a != f):=by
       unfold jH
       have b0:p+(1+(q+1)) - 1=p+(1+q):=by omega
       rw[b0,a4,bz]
       have:(p+(1+(q+1))==0)=false:=by simp
       rw[this,Bool.false_or]
      have e1:gj u0 (p+(1+(q+1+1)))=gj u0 (p+(1+(q+1)))++cond (a != f) [a] []:=by
       show gj u0 (p+(1+(q+1)))++cond (jH u0 (p+(1+(q+1)))) [u0.getD (p+(1+(q+1))) 0] []=_
       rw[bS,a4]
      have e3:IntKind.i64.wrap (((q+1:Nat):Int)+1)=((q+1+1:Nat):Int):=by rw[IntWalk.i64_in _ ⟨by omega,by omega⟩];omega
      clear ao a2 t
      have t:(gj u0 (p+(1+(q+1)))).length=w:=by rw[<-D,List.length_take];omega
      by_cases a5:a=f
      ·subst a5
       simp only[bne_self_eq_false,cond_false,List.append_nil] at e1
       refine bD hJ (by simp only[*,go_sem,bne_self_eq_false]) ?_
       refine aH hJ ?_
       refine ak hJ ?_
       simp only[*,go_sem]
       refine ⟨ab - 1,by omega,_,Le.refl _,q+1+1,w,arr,x,by omega,by omega,by omega,rfl,?_,?_,d,ae,by rw[e1];exact t,by omega,by rw[e1];exact D,fun j c=>E j (by omega)⟩
       ·simp only[*,go_sem]
       ·simp only[*,go_sem]
      ·have b1:(a != f)=true:=by simpa using a5
       rw[b1] at e1
       simp only[cond_true] at e1
       refine bE hJ (by simp only[*,go_sem]) ?_
       repeat refine af hJ ?_
       refine ak hJ ?_
       have d1:(w:Int)<(u0.length:Int):=by omega
       have d2:¬(w:Int)<0:=by omega
       have d3:(0:Int)<=(w:Int):=by omega
       have fa:w<arr.size:=by omega
       simp only[*,go_sem]
       have ca:aO rI ro 3 (.slice (some ⟨b,0,none⟩) u0.length cap) (x.set w a) [(b,Obj.cells (cM arr w [.int .i64 a]) 3)]:=by
        have cb:=d.rZ (i:=w) (y:=a) (by omega) (cs:=[.int .i64 a]) rfl
        simpa only[r8,Nat.mul_one,Nat.add_zero] using cb
       have fb:IntKind.i64.wrap ((w:Int)+1)=((w+1:Nat):Int):=by rw[IntWalk.i64_in _ ⟨by omega,by omega⟩];omega
       refine ak hJ ?_
       simp only[*,go_sem]
       refine ak hJ ?_
       simp only[*,go_sem]
       refine ⟨ab - 1,by omega,_,Le.refl _,q+1+1,w+1,_,x.set w a,by omega,by omega,by omega,rfl,?_,?_,ca,by rw[List.length_set];exact ae,?_,by omega,?_,fun j c=>?_⟩
       ·simp only[*,go_sem]
       ·simp only[*,go_sem]
       ·rw[e1,List.length_append,t];rfl
       ·rw[e1,<-D,List.take_succ,List.take_set_of_le (Nat.le_refl _),List.getElem?_set_self (by omega)];rfl
       ·rw[List.getElem?_set_ne (by omega)];exact E j (by omega)
     ·have bs:decide (((m:Nat):Int)<((u0.length - (p+1):Nat):Int))=false:=decide_eq_false (by omega)
      refine bD hJ (by simp only[*,go_sem]) ?_
      refine bN ?_
      simp only[go_sem]
      have a6:p+(1+m)=u0.length:=by omega
      rw[a6] at t
      have d1:(w:Int)<=(u0.length:Int):=by omega
      have d2:¬(w:Int)<0:=by omega
      have d3:(0:Int)<=(w:Int):=by omega
      have d4:w<=u0.length:=by omega
      have d5:w<=cap:=by omega
      have d6:¬cap=w:=by omega
      have d7:(0:Int)<=(w:Int):=by omega
      have d8:(w:Int)<=(cap:Int):=by omega
      have cd:w+(u0.length - w)<=arr.size:=by
       obtain ⟨ls,cf,fg,-⟩:=id d
       rcases cf with ⟨a7,_,_⟩|⟨fi,fo,fp,a7,cl,hs,hle,_⟩
       ·cases a7
       ·cases cl
        have:rI.n=1:=rfl
        rw[this,Nat.mul_one] at hs
        omega
      repeat refine af hJ ?_
      refine ak hJ ?_
      simp only[*,go_sem,ite_false,if_false]
      refine FT (pre:=[]) (bh:=[]) (z:=.int .i64 0) (zc:=.int .i64 0) rfl (by kernel_rfl:Tryz.prog.underlying 35=some (.slice 3)) (by kernel_rfl) rfl rfl (by omega) (by simp[au]) cd ?_
      dsimp only[List.nil_append]
      repeat refine af hJ ?_
      refine ak hJ ?_
      simp only[*,go_sem]
      refine az ?_
      simp only[*,go_sem]
      refine ⟨_,?_,Le.refl _⟩
      have:=d.clear (k:=w) (by omega)
      rw[D,a6] at this
      simpa only[ite_self,Nat.sub_zero] using this
   ·have aF:(l==o)=false:=by simpa using P
    refine bD hJ (by simp only[*,go_sem]) ?_
    refine aH hJ ?_
    refine ak hJ ?_
    have fr:IntKind.i64.wrap (((p+1:Nat):Int)+1)=((p+2:Nat):Int):=by rw[IntWalk.i64_in _ ⟨by omega,by omega⟩];omega
    simp only[*,go_sem]
    refine ⟨bb - 1,by omega,_,Le.refl _,p+2,by omega,by omega,by omega,rfl,by simp only[*,go_sem],fun j c=>?_⟩
    rcases Nat.lt_succ_iff_lt_or_eq.1 c with c|rfl
    ·exact H j c
    ·rw[Z];simpa using P
  ·have hb:decide (((k:Nat):Int)<(u0.length:Int))=false:=decide_eq_false (by omega)
   refine bD hJ (by simp only[*,go_sem]) ?_
   refine bN ?_
   simp only[go_sem]
   repeat refine af hJ ?_
   refine ak hJ ?_
   simp only[*,go_sem]
   refine az ?_
   simp only[*,go_sem]
   obtain rfl:k=u0.length:=by omega
   rw[sS u0 _ (Nat.le_refl _) H,List.take_length]
   exact ⟨_,hg,Le.refl _⟩
def wY (n:Int):Option (List Int):=if 0<=n/\n<=1000 then some [] else none
theorem Hi {ro:Addr->Option Value}{R:Value->aa->Prop}{n:Nat}(o:0<n)(p:n<=1000){own:List (Nat×Obj)}
  (h:∀(k b:Nat) (arr:Array Value),n<=k->arr.size=k->dP ⟨ro,own⟩ b->R (.slice (some ⟨b,0,none⟩) n k) ⟨ro,(b,.cells arr 3)::own⟩):
  l9 Tryz.prog #[35,3] (.slice none 0 0) (.int .i64 (n:Int)) R ⟨ro,own⟩:=by
 intro ty
 have c:Tryz.prog.underlying 35=some (.slice 3):=by kernel_rfl
 have d:Tryz.prog.underlying 3=some (.int .i64):=by kernel_rfl
 have e:bZ Tryz.prog 3=some 1:=by kernel_rfl
 have f:zeroOf Tryz.prog 3=some (.int .i64 0):=by kernel_rfl
 obtain ⟨info,g,i⟩:∃info,Tryz.prog.info? 3=some info/\info.bytes=8:=⟨_,rfl,by kernel_rfl⟩
 have w1:IntKind.i64.wrap (n:Int)=(n:Int):=IntWalk.i64_in _ ⟨by omega,by omega⟩
 have c1:¬(n:Int)<0:=by omega
 have c2:¬(n:Int)*(8:Nat)>2 ^ 48:=by omega
 have c3:¬0+n<=0:=by omega
 simp only[Builtin.append_,List.getElem?_toArray,List.getElem?_cons_zero,List.getElem?_cons_succ,bu,dn,c,d,eK,e,bF,zG,if_true,di,w1,if_neg c1,oX,g,i]
 rw[if_neg c2]
 simp only[Int.toNat_natCast,Nat.zero_add,Bool.not_true,Bool.false_eq_true,if_false]
 have c4:¬n<=0:=by omega
 have j:¬((n:Int)>IntKind.i64.max/\(True\/8=0)):=by
  have:IntKind.i64.max=9223372036854775807:=by decide
  rw[this];omega
 have l:¬Builtin.nextslicecap n 0*8>2 ^ 48:=by
  unfold Builtin.nextslicecap
  rw[if_pos (by omega)]
  omega
 have m:¬n*1=0:=by omega
 rw[if_neg c4,if_neg j,if_neg l]
 rw[uS]
 rw[if_neg (by simp[Question.forced])]
 intro t
 have a:n<=(Question.appendCap n 0 3).cut t:=Nat.le_add_right _ _
 generalize (Question.appendCap n 0 3).cut t=k at a ⊢
 refine vc _ ?_
 simp only[Builtin.firstCells,bF,if_neg m,lY,f,rm,bu]
 intro b hb
 refine ⟨_,Le.refl _,h k b _ a ?_ hb⟩
 simp only[Array.size_append,Builtin.zeroCells,Array.size_map,Array.size_range,Value.cells]
 simp
 omega
theorem Hj {ro:Addr->Option Value}(n:Int){x:List Int}(h:wY n=some x):aE Tryz.prog 131 #[.slice none 0 0,.int .i64 n] ⟨ro,[]⟩ (fun v G=>∃c,aO rI ro 3 v x c/\Le ⟨ro,c⟩ G):=by
 unfold wY at h;split at h
 case isFalse=>cases h
 rename_i g;obtain rfl:=Option.some.inj h;obtain ⟨n,rfl⟩:∃m:Nat,n=m:=⟨n.toNat,by omega⟩
 refine aE.go Tryz.func131 rfl Tryz.ntmps131 Tryz.results131 (by simp) fun main J hJ A j hd hs=>?_;have l:=hs 0;have k1:=hs 1;clear hs;repeat refine af hJ ?_
 refine ak hJ ?_;simp only[*,go_sem];repeat refine af hJ ?_
 refine ak hJ ?_;simp only[*,go_sem];repeat refine af hJ ?_
 have o:¬(n:Int)<0:=by omega
 refine bD hJ (by simp only[*,go_sem,decide_false]) ?_;refine aH hJ ?_;repeat refine af hJ ?_
 refine ak hJ ?_;simp only[*,go_sem];refine AO rfl (by kernel_rfl:Tryz.prog.underlying 35=some (.slice 3)) (aJ ?_);have e1:IntKind.i64.wrap (((0:Nat):Int) - ((0:Nat):Int))=0:=by decide
 have p:IntKind.i64.wrap ((0:Int) - (0:Int))=0:=by decide
 have e2:IntKind.i64.wrap ((n:Int) - 0)=(n:Int):=by rw[IntWalk.i64_in _ ⟨by omega,by omega⟩];omega
 simp only[*,go_sem];repeat refine af hJ ?_
 refine ak hJ ?_;simp only[*,go_sem];repeat refine af hJ ?_
 by_cases d:0<n
 ·have b2:(n:Int)>0:=by omega
  refine bE hJ (by simp only[*,go_sem,decide_true]) ?_;repeat refine af hJ ?_
  refine ak hJ ?_;simp only[*,go_sem];refine AO rfl (by kernel_rfl:Tryz.prog.underlying 35=some (.slice 3)) (aJ ?_);simp only[*,go_sem];simp only[Nat.le_refl,Int.le_refl,and_self,if_true,true_and];refine Hi d (by omega) fun k b arr q e hb=>aJ ?_;have f:∀off sp,ro ⟨b,off,sp⟩=none:=hb.ro;have b3:(0:Int)<=(k:Int):=by omega
  simp only[*,go_sem,Int.le_refl,and_self,if_true,ite_self,Nat.sub_zero];repeat refine af hJ ?_
  refine ak hJ ?_;simp only[*,go_sem];refine az ?_;simp only[*,go_sem];refine ⟨[(b,.cells arr 3)],⟨[],.inr ⟨b,arr,k,rfl,rfl,?_,Nat.zero_le _,?_,fun x a=>(by cases a),f⟩,rfl,Nat.zero_le _,fun i x a=>by simp at a⟩,Le.refl _⟩
  ·show arr.size=k*1;rw[e,Nat.mul_one]
  ·simp
 ·have b2:¬(0:Int)<(n:Int):=by omega
  refine bD hJ (by simp only[*,go_sem,decide_false]) ?_;refine aH hJ ?_;repeat refine af hJ ?_
  refine ak hJ ?_;simp only[*,go_sem];refine az ?_;simp only[*,go_sem];exact ⟨[],aO.nil _ _ _,Le.refl _⟩
def n8 (u0:aj):Option (aj×Int):=
 ag (fP u0 ([]:(List (aj->Option Int)))) fun a=>cond ((a.2 != 0)) (some ((⟨0,0,(⟨0,0⟩:an),([]:(List bX)),([]:(List cc)),([]:(List bO)),([]:(List bR))⟩:aj),a.2)) (ag (sG u0.ax) fun b=>ag (qd u0.props) fun c=>ag (n4 u0.av) fun d=>ag (qc u0.told) fun e=>some ((⟨u0.bH,u0.bK,u0.aS,b,c,d,e⟩:aj),0))
theorem wZ {ro:Addr->Option Value}(a6:c9 ro)(u0:aj){s1 z B C:Value}(E:bL ro u0 s1 z B C){r:(aj×Int)}(h:n8 u0=some r):eL Tryz.prog 72 #[bv u0 s1 z B C] ro (fun v aM=>∃ao w1 w2 w3,v= .tuple #[bv r.1 ao w1 w2 w3,.int .i64 r.2]/\bL aM r.1 ao w1 w2 w3):=by
 unfold n8 at h;have a7:=E.oc;simp only[bG] at a7;refine aE.go Tryz.func72 rfl Tryz.ntmps72 Tryz.results72 (by simp) fun main J hJ A a8 hd hs=>?_;have a9:=hs 0;clear hs;refine ah hJ ?_;simp only[*,go_sem];refine aA fun a F ba=>?_;try simp only[au] at ba
 refine aA fun b G bb=>?_;try simp only[au] at bb
 try simp only[*,go_sem]
 refine af hJ (ah hJ ?_);revert h;refine bS fun c bc h=>?_;simp only[*,go_sem];refine b6 hJ _ (jF a6 u0 E ([]:(List (aj->Option Int))) (aC.nil _ _) bc) fun v U ae al bd=>?_;obtain ⟨d,f,g,i,j,rfl,bj,bl⟩:=bd;have bm:=bj.oc;simp only[bG] at bm;have bo:=bl.oc;simp only[bG] at bo;replace E:=E.mono ae;replace G:=al.hd;replace F:=al.tl.hd;simp only[bq] at al;refine aJ ?_;try simp only[*,go_sem]
 refine aA fun k K br=>?_;try simp only[au] at br
 try simp only[*,go_sem]
 refine ah hJ ?_;simp only[*,go_sem];revert h;refine jC hJ (by simp only[*,go_sem]) (fun bs h=>?_) fun bs h=>?_
 ·obtain rfl:=sI h;refine ah hJ ?_;simp only[*,go_sem];refine az ?_;simp only[*,go_sem];exact ⟨_,ae,Le.sub (List.nil_sublist _),_,_,_,_,rfl,⟨aC.nil _ _,aC.nil _ _,aC.nil _ _,aC.nil _ _⟩⟩
 refine aH hJ (af hJ ?_);refine aB hJ fun cy=>?_;refine eG hJ mixed [13,14,15,16,17,18,19] (.pure 0 (.rd 1 (.pure 3 (.rd 4 (.pure 6 (.rd 7 (.pure 9 (.rd 10 (.one 2 (.pure 12 (.one 5 (.one 8 (.one 11 (.last 13 (.pure 14 (.last 15 (.pure 16 (.last 17 (.pure 18 (.last 19 .done)))))))))))))))))))) ⟨U,[(k,kn c.1 d f g i j),(b,bz 29),(a,bk u0 s1 z B C)]⟩ (by simp only[*,go_sem]) (by kernel_rfl) ?_;revert h;refine bS fun m b0 h=>?_;simp only[*,go_sem];refine dJ hJ (aV:=[]) [(k,kn c.1 d f g i j),(b,bz 29),(a,bk u0 s1 z B C)] [] _ (GN u0.ax E.e b0) (fun cS L ar M N c0=>?_);simp only[aX] at N;subst M;obtain ⟨d158,n,rfl,da⟩:=ar.len;refine ⟨⟨U,(k,kn c.1 d f g i j)::(b,bz 29)::(a,bk u0 s1 z B C)::L⟩,Le.refl _,?_⟩;refine ⟨by simp only[*,go_sem],bW ?_⟩;revert h;refine bS fun o b1 h=>?_;try simp only[*,go_sem]
 refine dJ hJ (aV:=[]) [(k,kn c.1 d f g i j),(b,bz 29),(a,bk u0 s1 z B C)] L _ (AZ u0.props E.p b1) (fun db O V M N dd=>?_);simp only[aX] at N;subst M;obtain ⟨d168,q,rfl,df⟩:=V.len;refine ⟨⟨U,(k,kn c.1 d f g i j)::(b,bz 29)::(a,bk u0 s1 z B C)::(O++L)⟩,Le.refl _,?_⟩;refine ⟨by simp only[*,go_sem],bW ?_⟩;revert h;refine bS fun s b2 h=>?_;try simp only[*,go_sem]
 refine dJ hJ (aV:=[]) [(k,kn c.1 d f g i j),(b,bz 29),(a,bk u0 s1 z B C)] (O++L) _ (AY u0.av E.y b2) (fun dk P H M N dp=>?_);simp only[aX] at N;subst M;obtain ⟨d178,u,rfl,dq⟩:=H.len;refine ⟨⟨U,(k,kn c.1 d f g i j)::(b,bz 29)::(a,bk u0 s1 z B C)::(P++(O++L))⟩,Le.refl _,?_⟩;refine ⟨by simp only[*,go_sem],bW ?_⟩;revert h;refine bS fun w b3 h=>?_;obtain rfl:=sI h;try simp only[*,go_sem]
 refine dJ hJ (aV:=[]) [(k,kn c.1 d f g i j),(b,bz 29),(a,bk u0 s1 z B C)] (P++(O++L)) _ (v8 u0.told E.t b3) (fun ds Q D M N dt=>?_);simp only[aX] at N;subst M;obtain ⟨d188,x,rfl,du⟩:=D.len;refine ⟨⟨U,(k,kn c.1 d f g i j)::(b,bz 29)::(a,bk u0 s1 z B C)::(Q++(P++(O++L)))⟩,Le.refl _,?_⟩;refine ⟨by simp only[*,go_sem],bW ?_⟩;try simp only[*,go_sem]
 refine af hJ ?_;refine fN [1,2,3] fun dv b4 b5 ca=>?_;simp only[*,go_sem] at b4 b5 ca;clear a8 hd a9;refine aB hJ fun dC=>?_;refine ak hJ ?_;simp only[*,go_sem];refine aB hJ fun a0=>?_;obtain ⟨dE,X,R,I,cb⟩:=ar.k7 ((k,kn c.1 d f g i j)::(b,bk u0 (sl d158 m n) (sl d168 o q) (sl d178 s u) (sl d188 w x))::(a,bk u0 (sl d158 m n) (sl d168 o q) (sl d178 s u) (sl d188 w x))::(Q++(P++O))) ((k,kn c.1 d f g i j)::(b,bk u0 (sl d158 m n) (sl d168 o q) (sl d178 s u) (sl d188 w x))::(a,bk u0 (sl d158 m n) (sl d168 o q) (sl d178 s u) (sl d188 w x))::(Q++(P++O))) [] (by first|rfl|simp only[aX]|(simp only[aX];rfl)) (by first|rfl|simp only[aX]|(simp only[aX];rfl)) a0 (aG.cons K (aG.cons G (aG.cons F (aG.app D.jv (aG.app H.jv (V.jv))))));clear a0;refine cp hJ cb ?_;obtain ⟨dT,ea,-⟩:=I.op;replace K:=R.hd;replace G:=R.tl.hd;replace F:=R.tl.tl.hd;replace D:=D.mono X R.tl.tl.tl.l;replace H:=H.mono X R.tl.tl.tl.r.l;replace V:=V.mono X R.tl.tl.tl.r.r;simp only[bq] at R;refine aB hJ fun a2=>?_;obtain ⟨eb,Y,S,T,cd⟩:=V.k7 ((k,kn c.1 d f g i j)::(b,bk u0 (sl d158 m n) (sl d168 o q) (sl d178 s u) (sl d188 w x))::(a,bk u0 (sl d158 m n) (sl d168 o q) (sl d178 s u) (sl d188 w x))::(Q++P)) ((k,kn c.1 d f g i j)::(b,bk u0 (sl d158 m n) (sl d168 o q) (sl d178 s u) (sl d188 w x))::(a,bk u0 (sl d158 m n) (sl d168 o q) (sl d178 s u) (sl d188 w x))::(Q++P)) [] (by first|rfl|simp only[aX]|(simp only[aX];rfl)) (by first|rfl|simp only[aX]|(simp only[aX];rfl)) a2 (aG.cons K (aG.cons G (aG.cons F (aG.app D.jv (H.jv)))));clear a2;refine cp hJ cd ?_;obtain ⟨ec,ed,-⟩:=T.op;replace I:=I.mono Y;replace K:=S.hd;replace G:=S.tl.hd;replace F:=S.tl.tl.hd;replace D:=D.mono Y S.tl.tl.tl.l;replace H:=H.mono Y S.tl.tl.tl.r;simp only[bq] at S;refine aB hJ fun a3=>?_;obtain ⟨eh,Z,W,ab,cf⟩:=H.k7 ((k,kn c.1 d f g i j)::(b,bk u0 (sl d158 m n) (sl d168 o q) (sl d178 s u) (sl d188 w x))::(a,bk u0 (sl d158 m n) (sl d168 o q) (sl d178 s u) (sl d188 w x))::Q) ((k,kn c.1 d f g i j)::(b,bk u0 (sl d158 m n) (sl d168 o q) (sl d178 s u) (sl d188 w x))::(a,bk u0 (sl d158 m n) (sl d168 o q) (sl d178 s u) (sl d188 w x))::Q) [] (by first|rfl|simp only[aX]|(simp only[aX];rfl)) (by first|rfl|simp only[aX]|(simp only[aX];rfl)) a3 (aG.cons K (aG.cons G (aG.cons F (D.jv))));clear a3;refine cp hJ cf ?_;obtain ⟨et,eu,-⟩:=ab.op;replace I:=I.mono Z;replace T:=T.mono Z;replace K:=W.hd;replace G:=W.tl.hd;replace F:=W.tl.tl.hd;replace D:=D.mono Z W.tl.tl.tl;simp only[bq] at W;refine aB hJ fun a4=>?_;obtain ⟨ev,ad,cl,a5,cu⟩:=D.k7 ((k,kn c.1 d f g i j)::(b,bk u0 (sl d158 m n) (sl d168 o q) (sl d178 s u) (sl d188 w x))::(a,bk u0 (sl d158 m n) (sl d168 o q) (sl d178 s u) (sl d188 w x))::[]) [(k,kn c.1 d f g i j),(b,bk u0 (sl d158 m n) (sl d168 o q) (sl d178 s u) (sl d188 w x)),(a,bk u0 (sl d158 m n) (sl d168 o q) (sl d178 s u) (sl d188 w x))] [] (by first|rfl|simp only[aX]|(simp only[aX];rfl)) (by first|rfl|simp only[aX]|(simp only[aX];rfl)) a4 (aG.cons K (aG.cons G (aG.cons F (aG.nil _))));clear a4;refine cp hJ cu ?_;obtain ⟨eQ,eS,-⟩:=a5.op;replace I:=I.mono ad;replace T:=T.mono ad;replace ab:=ab.mono ad;simp only[bq] at cl;refine az ?_;simp only[*,go_sem];exact ⟨_,((((ae).trans X).trans Y).trans Z).trans ad,Le.sub (List.nil_sublist _),_,_,_,_,rfl,⟨I,T,ab,a5⟩⟩
def w5 (u0:Int)(a:Int):Option Int:=
 ag (n7 u0) fun c=>ag (n7 a) fun b=>cond (c) (cond (b) (some 0) (some (-1))) (cond (b) (some 1) (cond (decide (u0<a)) (some (-1)) (cond (decide (a<u0)) (some 1) (some 0))))
theorem Hl {ro:Addr->Option Value}(u0:Int)(a:Int){r:Int}(h:w5 u0 a=some r):aE Tryz.prog 142 #[.int .i64 u0,.int .i64 a] ⟨ro,[]⟩ (fun v _=>v= .int .i64 r):=by
 unfold w5 at h;refine aE.go Tryz.func142 rfl Tryz.ntmps142 Tryz.results142 (by simp) fun main J hJ A j hd hs=>?_;have k:=hs 0;have k1:=hs 1;clear hs;refine ah hJ ?_;simp only[*,go_sem];refine ah hJ ?_;revert h;refine bS fun l b h=>?_;simp only[*,go_sem];refine bn hJ _ (sO u0 b) (aJ ?_);try simp only[*,go_sem]
 refine ah hJ ?_;revert h;refine bS fun m c h=>?_;simp only[*,go_sem];refine bn hJ _ (sO a c) (aJ ?_);try simp only[*,go_sem]
 refine af hJ (ah hJ ?_);simp only[*,go_sem];revert h;refine jC hJ (by simp only[*,go_sem]) (fun d h=>?_) fun d h=>?_
 ·refine af hJ (ah hJ ?_);simp only[*,go_sem];revert h;refine jC hJ (by simp only[*,go_sem]) (fun e h=>?_) fun e h=>?_
  ·obtain rfl:=sI h;refine ah hJ ?_;simp only[*,go_sem];refine az ?_;simp only[*,go_sem]
  obtain rfl:=sI h;refine aH hJ (af hJ ?_);refine ak hJ ?_;simp only[*,go_sem];refine az ?_;simp only[*,go_sem]
 refine aH hJ (af hJ ?_);refine ah hJ ?_;simp only[*,go_sem];revert h;refine jC hJ (by simp only[*,go_sem]) (fun f h=>?_) fun f h=>?_
 ·obtain rfl:=sI h;refine ah hJ ?_;simp only[*,go_sem];refine az ?_;simp only[*,go_sem]
 refine aH hJ (af hJ ?_);refine ah hJ ?_;simp only[*,go_sem];revert h;refine jC hJ (by simp only[*,go_sem]) (fun g h=>?_) fun g h=>?_
 ·obtain rfl:=sI h;refine ah hJ ?_;simp only[*,go_sem];refine az ?_;simp only[*,go_sem]
 refine aH hJ (af hJ ?_);refine ah hJ ?_;simp only[*,go_sem];revert h;refine jC hJ (by simp only[*,go_sem]) (fun i h=>?_) fun i h=>?_
 ·obtain rfl:=sI h;refine ah hJ ?_;simp only[*,go_sem];refine az ?_;simp only[*,go_sem]
 obtain rfl:=sI h;refine aH hJ (af hJ ?_);refine ak hJ ?_;simp only[*,go_sem];refine az ?_;simp only[*,go_sem]
def w6 (a:(List Int))(i16:Nat)(c:Int)(st:Int):Option (Fl Int Int):=
 cond (decide ((a.length:Int)<=(i16:Int))) (some (.rt 1)) (ag (aY a (i16:Int)) fun d=>ag (w5 c d) fun b=>cond ((b != 0)) (some (.rt b)) (some (.nx st)))
def w7 (u0:(List Int))(a:(List Int)):Option Int:=
 ag (bJ (w6 a) 0 u0 0) fun o=>aD o (fun b=>cond (decide ((u0.length:Int)<(a.length:Int))) (some (-1)) (some 0)) (fun _ _=>none) (fun r=>some r)
theorem Ho {ro:Addr->Option Value}(u0:(List Int)){s1:Value}(g:aC rI ro s1 u0)(d:(List Int)){i:Value}(j:aC rI ro i d){r:Int}(h:w7 u0 d=some r):aE Tryz.prog 106 #[s1,i] ⟨ro,[]⟩ (fun v _=>v= .int .i64 r):=by
 obtain ⟨d3,c4,rfl,U,w,-⟩:=id g;obtain ⟨d10,V,rfl,W,X,-⟩:=id j;unfold w7 at h;refine aE.go Tryz.func106 rfl Tryz.ntmps106 Tryz.results106 (by simp) fun main J hJ A y hd hs=>?_;have z:=hs 0;have k1:=hs 1;clear hs;refine ah hJ ?_;simp only[*,go_sem];refine af hJ (ah hJ ?_);simp only[*,go_sem];refine aN hJ ?_;revert h;refine bS fun B a e=>?_;refine bT hJ [4,5,6,7,8,11,12,13,14,15,16,17,18,19,20,21,22,23,24,25,26,27,28,29,30] (fun m k F'=>∃(i16:Nat) (c:Int),m=u0.length - i16/\i16<=u0.length/\bJ (w6 d) i16 (u0.drop i16) c=some B/\F'=⟨ro,[]⟩/\slot k 11= .int .i64 (i16:Int)/\slot k 4= .int .i64 c) u0.length ?_ ?_
 ·refine ⟨0,0,(Nat.sub_zero _).symm,Nat.zero_le _,a,rfl,?_⟩;simp only[*,go_sem]
 rintro Y Z F' l ⟨i16,c,rfl,ab,a,rfl,ad,ae⟩;obtain ⟨C,D,E⟩:=l.pick [0,1,9,10] (by decide);simp only[*,go_sem] at C D E;clear l y hd z k1;refine ah hJ ?_;simp only[*,go_sem];refine af hJ ?_;rcases Nat.lt_or_ge i16 u0.length with F|o
 ·refine bE hJ (by simp only[*,go_sem]) ?_;refine aH hJ ?_;obtain ⟨p,f⟩:∃x,u0[i16]?=some x:=⟨_,List.getElem?_eq_getElem F⟩
  rw[dc f] at a;revert a;refine bS fun al h b=>?_;unfold w6 at h;try dsimp only at h
  obtain ⟨ao,G,H,I,q⟩:=g.el _ _ f;obtain rfl:G=[.int .i64 p]:=I;cases H;have K:=q 0 _ rfl;simp only[go_sem] at K;clear q f;refine af hJ (aN hJ (af hJ ?_));refine ak hJ ?_;simp only[*,go_sem];refine af hJ (ah hJ ?_);simp only[*,go_sem];revert h;refine jC hJ (by simp only[*,go_sem]) (fun L h=>?_) fun L h=>?_
  ·obtain rfl:=sI h;refine ah hJ ?_;simp only[*,go_sem];obtain rfl:=sI b;clear b;have h:=e;dsimp only[aD] at h;obtain rfl:=sI h;refine az ?_;simp only[*,go_sem]
  refine aH hJ (af hJ ?_);refine ak hJ ?_;revert h;refine bS fun s M h=>?_;obtain ⟨ar,a0,t⟩:=cE M;obtain ⟨a2,N,O,P,u⟩:=j.el _ _ t;obtain rfl:N=[.int .i64 s]:=P;cases O;have Q:=u 0 _ rfl;simp only[go_sem] at Q;clear u t;try simp only[*,go_sem]
  refine ah hJ ?_;revert h;refine bS fun a3 R h=>?_;simp only[*,go_sem];refine bn hJ _ (Hl p s R) (aJ ?_);try simp only[*,go_sem]
  refine ah hJ ?_;simp only[*,go_sem];revert h;refine jC hJ (by simp only[*,go_sem]) (fun S h=>?_) fun S h=>?_
  ·obtain rfl:=sI h;refine ah hJ ?_;simp only[*,go_sem];obtain rfl:=sI b;clear b;have h:=e;dsimp only[aD] at h;obtain rfl:=sI h;refine az ?_;simp only[*,go_sem]
  obtain rfl:=sI h;refine aH hJ ?_;have a4:=cq (n:=i16) (by have:=w;omega);refine ak hJ ?_;simp only[*,go_sem];refine ⟨u0.length - (i16+1),by omega,_,Le.sub (List.Sublist.refl _),i16+1,c,rfl,by omega,b,rfl,?_⟩;simp only[*,go_sem]
 have a5:=Nat.not_lt.2 o;refine bD hJ (by simp only[*,go_sem]) ?_;rw[List.drop_eq_nil_of_le o] at a;obtain rfl:=sI a;clear a;have h:=e;dsimp only[aD] at h;refine bN ?_;simp only[go_sem];refine af hJ (ah hJ ?_);simp only[*,go_sem];revert h;refine jC hJ (by simp only[*,go_sem]) (fun T h=>?_) fun T h=>?_
 ·obtain rfl:=sI h;refine ah hJ ?_;simp only[*,go_sem];refine az ?_;simp only[*,go_sem]
 obtain rfl:=sI h;refine aH hJ (af hJ ?_);refine ak hJ ?_;simp only[*,go_sem];refine az ?_;simp only[*,go_sem]
def sV (u0:(List Int))(a:(List Int)):Option Bool:=
 cond (decide ((a.length:Int)<(u0.length:Int))) (some true) (cond (((a.length:Int)==(u0.length:Int))) (ag (w7 a u0) fun b=>some (decide (b<0))) (some false))
theorem Hp {ro:Addr->Option Value}(u0:(List Int)){s1:Value}(d:aC rI ro s1 u0)(a:(List Int)){e:Value}(f:aC rI ro e a){r:Bool}(h:sV u0 a=some r):aE Tryz.prog 105 #[s1,e] ⟨ro,[]⟩ (fun v _=>v= .bool r):=by
 obtain ⟨d3,c4,rfl,i,j,-⟩:=id d;obtain ⟨d10,k,rfl,l,m,-⟩:=id f;unfold sV at h;refine aE.go Tryz.func105 rfl Tryz.ntmps105 Tryz.results105 (by simp) fun main J hJ A n hd hs=>?_;have o:=hs 0;have k1:=hs 1;clear hs;refine ah hJ ?_;simp only[*,go_sem];refine ah hJ ?_;revert h;refine cS (fun b h=>?_) fun b h=>?_
 ·obtain rfl:=sI h;try simp only[Int.ofNat_lt] at b
  try simp only[*,go_sem]
  refine az ?_;simp only[*,go_sem]
 try simp only[Int.ofNat_lt] at b
 revert h;refine cS (fun c h=>?_) fun c h=>?_
 ·try simp only[Int.ofNat_lt] at c
  revert h;refine bS fun p g h=>?_;obtain rfl:=sI h;try simp only[*,go_sem]
  refine bn hJ _ (Ho a (f.mono aR) u0 (d.mono aR) g) (aJ ?_);try simp only[*,go_sem]
  refine az ?_;simp only[*,go_sem]
 obtain rfl:=sI h;try simp only[Int.ofNat_lt] at c
 try simp only[*,go_sem]
 refine az ?_;simp only[*,go_sem]
def lA (u0:aj)(b:Int):Option (Int×Int):=
 ag (fP u0 ([(eN b)])) fun a=>cond ((a.2 != 0)) (some (0,a.2)) (ag (nU a.1 (fun c=>jD c a.1 b)) fun d=>some (d,0))
theorem w8 {ro:Addr->Option Value}(j:c9 ro)(u0:aj){s1 k l m:Value}(i:bL ro u0 s1 k l m)(c:Int){r:(Int×Int)}(h:lA u0 c=some r):aE Tryz.prog 24 #[bv u0 s1 k l m,.int .i64 c] ⟨ro,[]⟩ (fun v _=>v= .tuple #[.int .i64 r.1,.int .i64 r.2]):=by
 unfold lA at h;have G:=i.oc;simp only[bG] at G;refine aE.go Tryz.func24 rfl Tryz.ntmps24 Tryz.results24 (by simp) fun main J hJ A ae hd hs=>?_;have al:=hs 0;have k1:=hs 1;clear hs;refine ah hJ ?_;simp only[*,go_sem];refine aA fun H I K=>?_;try simp only[au] at K
 refine aA fun u L M=>?_;try simp only[au] at M
 try simp only[*,go_sem]
 refine af hJ ?_;refine aB hJ fun N=>?_;refine ak hJ ?_;revert h;refine bS fun n O h=>?_;simp only[*,go_sem];refine aA fun f w z=>?_;have B:=aP.cons z N;try simp only[au] at z
 try simp only[*,go_sem]
 obtain ⟨q,C,D⟩:=fM (b:=f) (o:=(.cells #[.func (.func 68) #[.int .i64 c] #[]] 127)) [] ((u,ic c)::(H,bk u0 s1 k l m)::[]) B w (aG.cons L (aG.cons I (aG.nil _)));have E:aC (c6) (bU ro f (.cells #[.func (.func 68) #[.int .i64 c] #[]] 127)) (.slice (some ⟨f,0,none⟩) 1 1) [(eN c)]:=(aC.one (r:=(c6)) (e:=127) (cs:=#[.func (.func 68) #[.int .i64 c] #[]]) (x:=(eN c)) (own:=[(f,.cells #[.func (.func 68) #[.int .i64 c] #[]] 127)]) w (by simp[lk]) ⟨68,#[.int .i64 c],#[],rfl,⟨by simp only[go_sem],fun P a g _ _ _ _ _ Q R S T h=>by simp only[go_sem];exact si c g ⟨Q,R,S,T⟩ h⟩⟩)
 generalize bU ro f (.cells #[.func (.func 68) #[.int .i64 c] #[]] 127)=ao at E C q D;refine gR hJ D ?_;replace i:=i.mono q;replace j:=j.mono q;simp only[bq] at C;have U:=aP.tl B;refine b6 hJ _ (jF j u0 i ([(eN c)]) E O) fun v ar a0 V W=>?_;obtain ⟨a2,a3,a4,a5,a6,rfl,d,s⟩:=W;have X:=d.oc;simp only[bG] at X;simp only[bq] at V;obtain ⟨d41,a7,rfl,a8,a9,-⟩:=id d.e;obtain ⟨d48,ba,rfl,bb,bc,-⟩:=id d.p;obtain ⟨d55,bd,rfl,bj,bl,-⟩:=id d.y;obtain ⟨d62,bm,rfl,bo,br,-⟩:=id d.t;obtain ⟨d69,bs,rfl,bz,b0,-⟩:=id s;refine aJ ?_;try simp only[*,go_sem]
 refine aA fun Y b1 F=>?_;have b2:=aP.cons F U;try simp only[au] at F
 try simp only[*,go_sem]
 refine af hJ (ah hJ ?_);simp only[*,go_sem];revert h;refine jC hJ (by simp only[*,go_sem]) (fun Z h=>?_) fun Z h=>?_
 ·obtain rfl:=sI h;refine ah hJ ?_;simp only[*,go_sem];refine az ?_;simp only[*,go_sem]
 refine aH hJ (af hJ ?_);refine ak hJ ?_;revert h;refine bS fun b3 ab h=>?_;obtain rfl:=sI h;simp only[*,go_sem];refine bn hJ _ (AX (dw:=80) (dV:=#[]) (dW:=#[.pointer (some ⟨Y,0,none⟩),.pointer (some ⟨u,0,none⟩)]) n.1 (d.mono aR) (s.mono aR) (fun g=>jD g n.1 c) ⟨by simp only[go_sem],fun P a g b4 ad=>by simp only[go_sem];exact GI g n.1 (a _ _ (by simp only[aa.cr,go_sem, *])) (a _ _ (by simp only[aa.cr,go_sem, *])) (a _ _ (by simp only[aa.cr,go_sem, *])) (a _ _ (by simp only[aa.cr,go_sem, *])) ((d.e.mono aR).mono a) (a _ _ (by simp only[aa.cr,go_sem, *])) ((d.p.mono aR).mono a) (a _ _ (by simp only[aa.cr,go_sem, *])) ((d.y.mono aR).mono a) (a _ _ (by simp only[aa.cr,go_sem, *])) ((d.t.mono aR).mono a) (a _ _ (by simp only[aa.cr,go_sem, *])) ((s.mono aR).mono a) (a _ _ (by simp only[aa.cr,go_sem, *])) c (a _ _ (by simp only[aa.cr,go_sem, *])) ad⟩ ab) (aJ ?_);try simp only[*,go_sem]
 refine az ?_;simp only[*,go_sem]
def kz (u0:aj):Option (Int×Int):=
 ag (fP u0 ([]:(List (aj->Option Int)))) fun a=>cond ((a.2 != 0)) (some (0,a.2)) (ag (nU a.1 (fun b=>jE b a.1)) fun c=>some (c,0))
theorem sW {ro:Addr->Option Value}(l:c9 ro)(u0:aj){s1 g i j:Value}(k:bL ro u0 s1 g i j){r:(Int×Int)}(h:kz u0=some r):aE Tryz.prog 27 #[bv u0 s1 g i j] ⟨ro,[]⟩ (fun v _=>v= .tuple #[.int .i64 r.1,.int .i64 r.2]):=by
 unfold kz at h;have m:=k.oc;simp only[bG] at m;refine aE.go Tryz.func27 rfl Tryz.ntmps27 Tryz.results27 (by simp) fun main J hJ A D hd hs=>?_;have E:=hs 0;clear hs;refine ah hJ ?_;simp only[*,go_sem];refine aA fun F G n=>?_;try simp only[au] at n
 try simp only[*,go_sem]
 refine ah hJ ?_;revert h;refine bS fun c o h=>?_;simp only[*,go_sem];refine b6 hJ _ (jF l u0 k ([]:(List (aj->Option Int))) (aC.nil _ _) o) fun v H I q s=>?_;obtain ⟨K,L,M,N,O,rfl,b,d⟩:=s;have u:=b.oc;simp only[bG] at u;simp only[bq] at q;obtain ⟨d37,P,rfl,Q,R,-⟩:=id b.e;obtain ⟨d44,S,rfl,T,U,-⟩:=id b.p;obtain ⟨d51,V,rfl,W,X,-⟩:=id b.y;obtain ⟨d58,Y,rfl,Z,ab,-⟩:=id b.t;obtain ⟨d65,ad,rfl,ae,al,-⟩:=id d;refine aJ ?_;try simp only[*,go_sem]
 refine aA fun w ao x=>?_;try simp only[au] at x
 try simp only[*,go_sem]
 refine af hJ (ah hJ ?_);simp only[*,go_sem];revert h;refine jC hJ (by simp only[*,go_sem]) (fun z h=>?_) fun z h=>?_
 ·obtain rfl:=sI h;refine ah hJ ?_;simp only[*,go_sem];refine az ?_;simp only[*,go_sem]
 refine aH hJ (af hJ ?_);refine ak hJ ?_;revert h;refine bS fun ar B h=>?_;obtain rfl:=sI h;simp only[*,go_sem];refine bn hJ _ (AX (dw:=84) (dV:=#[]) (dW:=#[.pointer (some ⟨w,0,none⟩)]) c.1 (b.mono aR) (d.mono aR) (fun f=>jE f c.1) ⟨by simp only[go_sem],fun a0 a f a2 C=>by simp only[go_sem];exact GJ f c.1 (a _ _ (by simp only[aa.cr,go_sem, *])) (a _ _ (by simp only[aa.cr,go_sem, *])) (a _ _ (by simp only[aa.cr,go_sem, *])) (a _ _ (by simp only[aa.cr,go_sem, *])) ((b.e.mono aR).mono a) (a _ _ (by simp only[aa.cr,go_sem, *])) ((b.p.mono aR).mono a) (a _ _ (by simp only[aa.cr,go_sem, *])) ((b.y.mono aR).mono a) (a _ _ (by simp only[aa.cr,go_sem, *])) ((b.t.mono aR).mono a) (a _ _ (by simp only[aa.cr,go_sem, *])) ((d.mono aR).mono a) (a _ _ (by simp only[aa.cr,go_sem, *])) C⟩ B) (aJ ?_);try simp only[*,go_sem]
 refine az ?_;simp only[*,go_sem]
def w9 (a:(cR×Int))(i74:Nat)(i83:Nat)(b:aT)(st:Int):Option (Fl Int (Int×Int×Int)):=
 ag (aT.get b (i74:Int)) fun c=>ag (gX a.1.book (i74:Int) c) fun d=>ag (gh a.1.book d) fun e=>cond (e) (some (.nx (IntKind.i64.wrap (st+1)))) (some (.nx st))
def xb (b:(cR×Int))(i74:Nat)(c:bO)(st:(Int×Int)):Option (Fl (Int×Int) (Int×Int×Int)):=
 ag (bJ (w9 b i74) 0 b.1.all 0) fun o=>aD o (fun a=>cond (decide ((if a<IntKind.i64.wrap ((b.1.all.length:Int) - a) then IntKind.i64.wrap ((b.1.all.length:Int) - a) else a)<st.2)) (some (.nx ((i74:Int),(if a<IntKind.i64.wrap ((b.1.all.length:Int) - a) then IntKind.i64.wrap ((b.1.all.length:Int) - a) else a)))) (some (.nx (st.1,st.2)))) (fun _ _=>none) (fun r=>some (.rt r))
def xd (u0:aj):Option (Int×Int×Int):=
 ag (fP u0 ([]:(List (aj->Option Int)))) fun a=>cond ((a.2 != 0)) (some (0,0,a.2)) (ag (bJ (xb a) 0 a.1.book.av ((-1),(a.1.all.length:Int))) fun o=>aD o (fun b=>some (b.1,b.2,0)) (fun _ _=>none) (fun r=>some r))
theorem Hq {ro:Addr->Option Value}(V:c9 ro)(u0:aj){s1 g i j:Value}(w:bL ro u0 s1 g i j){r:(Int×Int×Int)}(h:xd u0=some r):aE Tryz.prog 64 #[bv u0 s1 g i j] ⟨ro,[]⟩ (fun v _=>v= .tuple #[.int .i64 r.1,.int .i64 r.2.1,.int .i64 r.2.2]):=by
 unfold xd at h;have W:=w.oc;simp only[bG] at W;refine aE.go Tryz.func64 rfl Tryz.ntmps64 Tryz.results64 (by simp) fun main J hJ A X hd hs=>?_;have Y:=hs 0;clear hs;refine ah hJ ?_;simp only[*,go_sem];refine aA fun z dp Z=>?_;try simp only[au] at Z
 try simp only[*,go_sem]
 refine ah hJ ?_;revert h;refine bS fun a ab h=>?_;simp only[*,go_sem];refine b6 hJ _ (jF V u0 w ([]:(List (aj->Option Int))) (aC.nil _ _) ab) fun v B dq ad ae=>?_;obtain ⟨C,D,ds,E,dt,rfl,f,G⟩:=ae;have al:=f.oc;simp only[bG] at al;simp only[bq] at ad;obtain ⟨d51,H,rfl,du,I,-⟩:=id f.y;obtain ⟨d65,K,rfl,dv,L,-⟩:=id G;refine aJ ?_;try simp only[*,go_sem]
 refine aA fun M dC ao=>?_;try simp only[au] at ao
 try simp only[*,go_sem]
 refine af hJ (ah hJ ?_);simp only[*,go_sem];revert h;refine jC hJ (by simp only[*,go_sem]) (fun ar h=>?_) fun ar h=>?_
 ·obtain rfl:=sI h;refine ah hJ ?_;simp only[*,go_sem];refine az ?_;simp only[*,go_sem]
 refine aH hJ (af hJ ?_);refine cP hJ mixed 5 2 (by simp only[*,go_sem]) (by kernel_rfl) ?_;simp only[*,go_sem];refine af hJ (ah hJ ?_);simp only[*,go_sem];refine aN hJ ?_;revert h;refine bS fun a0 c a2=>?_;refine bT hJ [2,3,6,7,9,10,27,28,29,30,31,32,33,34,35,36,37,38,39,40,41,42,43,44,45,46,47,48,49,50,51,52,53,54,55,56,57,58,59,60,61,62] (fun m e F'=>∃(i74:Nat) (k:Int) (l:Int),m=a.1.book.av.length - i74/\i74<=a.1.book.av.length/\bJ (xb a) i74 (a.1.book.av.drop i74) (k,l)=some a0/\F'=⟨B,(M,kn a.1 C D (sl d51 a.1.book.av H) E (sl d65 a.1.all K))::(z,bk u0 s1 g i j)::[]⟩/\slot e 27= .int .i64 (i74:Int)/\slot e 2= .int .i64 k/\slot e 3= .int .i64 l) a.1.book.av.length ?_ ?_
 ·refine ⟨0,(-1),(a.1.all.length:Int),(Nat.sub_zero _).symm,Nat.zero_le _,c,rfl,?_⟩;simp only[*,go_sem]
 rintro dE a3 F' N ⟨i74,k,l,rfl,dT,c,rfl,a4,a5,a6⟩;obtain ⟨O,P,Q⟩:=N.pick [4,5,26] (by decide);simp only[*,go_sem] at O P Q;clear N X hd Y;refine ah hJ ?_;simp only[*,go_sem];refine af hJ ?_;rcases Nat.lt_or_ge i74 a.1.book.av.length with a7|R
 ·refine bE hJ (by simp only[*,go_sem]) ?_;refine aH hJ ?_;obtain ⟨a8,q⟩:∃x,a.1.book.av[i74]?=some x:=⟨_,List.getElem?_eq_getElem a7⟩
  rw[dc q] at c;revert c;refine bS fun ea h S=>?_;unfold xb at h;try dsimp only at h
  obtain ⟨a9,ba,bb,bc,o⟩:=f.y.el _ _ q;obtain rfl:ba=a8.cells:=bc;cases bb;have bd:=o 0 _ rfl;simp only[go_sem] at bd;have bj:=o 1 _ rfl;simp only[go_sem] at bj;have bl:=o 2 _ rfl;simp only[go_sem] at bl;clear o q;refine af hJ (aN hJ (af hJ ?_));refine ak hJ ?_;simp only[*,go_sem];refine ah hJ ?_;simp only[*,go_sem];refine af hJ (ah hJ ?_);simp only[*,go_sem];refine aN hJ ?_;revert h;refine bS fun bm d bo=>?_;refine bT hJ [7,9,33,34,35,36,37,38,39,40,41,42,43,44,45,46,47,48,49] (fun m e F'=>∃(i83:Nat) (b:Int),m=a.1.all.length - i83/\i83<=a.1.all.length/\bJ (w9 a i74) i83 (a.1.all.drop i83) b=some bm/\F'=⟨B,(M,kn a.1 C D (sl (some a9) a.1.book.av H) E (sl d65 a.1.all K))::(z,bk u0 s1 g i j)::[]⟩/\slot e 33= .int .i64 (i83:Int)/\slot e 7= .int .i64 b) a.1.all.length ?_ ?_
  ·refine ⟨0,0,(Nat.sub_zero _).symm,Nat.zero_le _,d,rfl,?_⟩;simp only[*,go_sem]
  rintro eb br F' s ⟨i83,b,rfl,ec,d,rfl,ed,eh⟩;obtain ⟨bs,bz,b0⟩:=s.pick [2,3,4,5,6,26,27,28,29,30,31,32] (by decide);simp only[*,go_sem] at bs bz b0;have et:cL [2,3,6,7,9,10,27,28,29,30,31,32,33,34,35,36,37,38,39,40,41,42,43,44,45,46,47,48,49,50,51,52,53,54,55,56,57,58,59,60,61,62] br a3:=(s.fZ (by decide)).trans (by simp only[*,go_sem]);clear s O P Q a5 a6 a4;refine ah hJ ?_;simp only[*,go_sem];refine af hJ ?_;rcases Nat.lt_or_ge i83 a.1.all.length with b1|T
  ·refine bE hJ (by simp only[*,go_sem]) ?_;refine aH hJ ?_;obtain ⟨b2,t⟩:∃x,a.1.all[i83]?=some x:=⟨_,List.getElem?_eq_getElem b1⟩
   rw[dc t] at d;revert d;refine bS fun eu h U=>?_;unfold w9 at h;(try dsimp only at h);obtain ⟨ev,b3,b4,b5,p⟩:=G.el _ _ t;obtain rfl:b3=b2.cells:=b5;cases b4;have ca:=p 0 _ rfl;simp only[go_sem] at ca;have cb:=p 1 _ rfl;simp only[go_sem] at cb;have cd:=p 2 _ rfl;simp only[go_sem] at cd;clear p t;refine af hJ (aN hJ (af hJ ?_));refine ak hJ ?_;simp only[*,go_sem];refine aA fun eQ eS cf=>?_;try simp only[au] at cf
   (try simp only[*,go_sem]);refine af hJ ?_;refine cP hJ mixed 10 3 (by simp only[*,go_sem]) (by kernel_rfl) ?_;revert h;refine bS fun cl cu h=>?_;obtain ⟨e0,e1,cy⟩:=aT.get_some cu;(try simp only[go_sem] at cy);revert h;refine bS fun cS c0 h=>?_;(try simp only[*,go_sem]);refine ⟨_,bC hJ fun F u=>mB a.1.book (f.mono (b9 u)) (i74:Int) cl c0,b7 ?_⟩;revert h;refine bS fun e2 da h=>?_;(try simp only[*,go_sem]);refine ⟨_,bC hJ fun F u=>mK a.1.book (f.mono (b9 u)) cS da,?_⟩;(try simp only[*,go_sem]);revert h;refine jC hJ (by simp only[*,go_sem]) (fun db h=>?_) fun db h=>?_
   ·obtain rfl:=sI h;refine ak hJ ?_;simp only[*,go_sem];have dd:=cq (n:=i83) (by have:=L;omega);refine ak hJ ?_;simp only[*,go_sem];refine ⟨a.1.all.length - (i83+1),by omega,_,Le.sub (List.Sublist.cons _ (List.Sublist.refl _)),i83+1,(IntKind.i64.wrap (b+1)),rfl,by omega,U,rfl,?_⟩;simp only[*,go_sem]
   obtain rfl:=sI h;refine aH hJ ?_;have dd:=cq (n:=i83) (by have:=L;omega);refine ak hJ ?_;simp only[*,go_sem];refine ⟨a.1.all.length - (i83+1),by omega,_,Le.sub (List.Sublist.cons _ (List.Sublist.refl _)),i83+1,b,rfl,by omega,U,rfl,?_⟩;simp only[*,go_sem]
  have e3:=Nat.not_lt.2 T;refine bD hJ (by simp only[*,go_sem]) ?_;rw[List.drop_eq_nil_of_le T] at d;obtain rfl:=sI d;clear d;have h:=bo;dsimp only[aD] at h;refine bN ?_;simp only[go_sem];refine ah hJ ?_;simp only[*,go_sem];refine ah hJ ?_;simp only[*,go_sem];revert h;refine jC hJ (by simp only[*,go_sem]) (fun df h=>?_) fun df h=>?_
  ·obtain rfl:=sI h;refine ak hJ ?_;simp only[*,go_sem];have dk:=cq (n:=i74) (by have:=I;omega);refine ak hJ ?_;simp only[*,go_sem];refine ⟨a.1.book.av.length - (i74+1),by omega,_,Le.sub (List.Sublist.refl _),i74+1,(i74:Int),(if b<IntKind.i64.wrap ((a.1.all.length:Int) - b) then IntKind.i64.wrap ((a.1.all.length:Int) - b) else b),rfl,by omega,S,rfl,?_⟩;simp only[*,go_sem]
  obtain rfl:=sI h;refine aH hJ ?_;have dk:=cq (n:=i74) (by have:=I;omega);refine ak hJ ?_;simp only[*,go_sem];refine ⟨a.1.book.av.length - (i74+1),by omega,_,Le.sub (List.Sublist.refl _),i74+1,k,l,rfl,by omega,S,rfl,?_⟩;simp only[*,go_sem]
 have fa:=Nat.not_lt.2 R;refine bD hJ (by simp only[*,go_sem]) ?_;rw[List.drop_eq_nil_of_le R] at c;obtain rfl:=sI c;clear c;have h:=a2;dsimp only[aD] at h;obtain rfl:=sI h;refine bN ?_;simp only[go_sem];refine ah hJ ?_;simp only[*,go_sem];refine az ?_;simp only[*,go_sem]
def n9 (u0:aj):Option Int:=
 cond (((u0.props.length:Int)==3)) (some 2) (some 0)
theorem Hr {ro:Addr->Option Value}(u0:aj){s1 b c d:Value}(a:bL ro u0 s1 b c d){r:Int}(h:n9 u0=some r):aE Tryz.prog 97 #[bv u0 s1 b c d] ⟨ro,[]⟩ (fun v _=>v= .int .i64 r):=by
 obtain ⟨d3,c4,rfl,i,j,-⟩:=id a.e;obtain ⟨d10,k,rfl,l,m,-⟩:=id a.p;obtain ⟨d17,n,rfl,o,q,-⟩:=id a.y;obtain ⟨d24,s,rfl,u,w,-⟩:=id a.t;unfold n9 at h;refine aE.go Tryz.func97 rfl Tryz.ntmps97 Tryz.results97 (by simp) fun main J hJ A x hd hs=>?_;have z:=hs 0;clear hs;refine ah hJ ?_;simp only[*,go_sem];refine aA fun B C f=>?_;try simp only[au] at f
 try simp only[*,go_sem]
 refine af hJ (ah hJ ?_);simp only[*,go_sem];revert h;refine jC hJ (by simp only[*,go_sem]) (fun g h=>?_) fun g h=>?_
 ·obtain rfl:=sI h;refine ah hJ ?_;simp only[*,go_sem];refine az ?_;simp only[*,go_sem]
 obtain rfl:=sI h;refine aH hJ (af hJ ?_);refine ak hJ ?_;simp only[*,go_sem];refine az ?_;simp only[*,go_sem]
def sX (u0:aj)(c:bR):Option (aj×Int):=
 ag (er u0) fun a=>cond ((a != 0)) (some ((⟨0,0,(⟨0,0⟩:an),([]:(List bX)),([]:(List cc)),([]:(List bO)),([]:(List bR))⟩:aj),a)) (ag (qc u0.told) fun d=>ag (c8 d ([c])) fun e=>ag (n8 (⟨u0.bH,u0.bK,u0.aS,u0.ax,u0.props,u0.av,e⟩:aj)) fun b=>some (b.1,b.2))
theorem sY {ro:Addr->Option Value}(k:c9 ro)(u0:aj){s1 c d f:Value}(b:bL ro u0 s1 c d f)(a:bR){r:(aj×Int)}(h:sX u0 a=some r):eL Tryz.prog 37 #[bv u0 s1 c d f,.agg #[.int .i64 a.aQ,.bool a.bt]] ro (fun v aM=>∃L w1 w2 w3,v= .tuple #[bv r.1 L w1 w2 w3,.int .i64 r.2]/\bL aM r.1 L w1 w2 w3):=by
 unfold sX at h;refine aE.go Tryz.func37 rfl Tryz.ntmps37 Tryz.results37 (by simp) fun main J hJ A ca hd hs=>?_;have cb:=hs 0;have k1:=hs 1;clear hs;refine ah hJ ?_;simp only[*,go_sem];refine aA fun g u ab=>?_;try simp only[au] at ab
 refine aA fun i w ad=>?_;try simp only[au] at ad
 refine aA fun j z ae=>?_;try simp only[au] at ae
 try simp only[*,go_sem]
 refine af hJ (ah hJ ?_);revert h;refine bS fun cd al h=>?_;simp only[*,go_sem];refine bn hJ _ (AU (k.mono aR) u0 (b.e.mono aR) (b.p.mono aR) (b.y.mono aR) (b.t.mono aR) al) (aJ ?_);try simp only[*,go_sem]
 refine ah hJ ?_;simp only[*,go_sem];revert h;refine jC hJ (by simp only[*,go_sem]) (fun ao h=>?_) fun ao h=>?_
 ·obtain rfl:=sI h;refine ah hJ ?_;simp only[*,go_sem];refine az ?_;simp only[*,go_sem];exact ⟨_,Ext.refl _,Le.sub (List.nil_sublist _),_,_,_,_,rfl,⟨aC.nil _ _,aC.nil _ _,aC.nil _ _,aC.nil _ _⟩⟩
 refine aH hJ (af hJ ?_);refine aB hJ fun ar=>?_;refine eG hJ mixed [7] (.pure 0 (.rd 1 (.rd 3 (.two 2 (.one 4 (.one 5 (.pure 6 (.last 7 .done)))) 4 (.one 2 (.one 5 (.pure 6 (.last 7 .done)))))))) ⟨ro,[(j,bz 29),(i,.cells #[.int .i64 a.aQ,.bool a.bt] 76),(g,bk u0 s1 c d f)]⟩ (by simp only[*,go_sem]) (by kernel_rfl) ?_;simp only[*,go_sem];refine jx ?_ ?_
 ·revert h;refine bS fun a0 a2 h=>?_;simp only[*,go_sem];refine dJ hJ (aV:=[]) [(j,bz 29),(i,.cells #[.int .i64 a.aQ,.bool a.bt] 76),(g,bk u0 s1 c d f)] [] _ (v8 u0.told b.t a2) (fun cf a3 M m n a4=>?_);simp only[aX] at n;subst m;obtain ⟨d174,cl,rfl,cu⟩:=M.len;refine ⟨⟨ro,(j,bz 29)::(i,.cells #[.int .i64 a.aQ,.bool a.bt] 76)::(g,bk u0 s1 c d f)::a3⟩,Le.refl _,?_⟩;refine ⟨by simp only[*,go_sem],bW ?_⟩;revert h;refine bS fun N a5 h=>?_;obtain ⟨a6,O⟩:=dr a5;try simp only[*,go_sem]
  refine aA fun D P Q=>?_;have a7:=aP.cons Q a4;try simp only[au] at Q
  try simp only[*,go_sem]
  refine dZ (r:=dg) (l:=a0) (x:=a) (cs:=#[.int .i64 a.aQ,.bool a.bt]) (e2:=76) [(D,.cells #[.int .i64 a.aQ,.bool a.bt] 76),(j,bz 29),(i,.cells #[.int .i64 a.aQ,.bool a.bt] 76),(g,bk u0 s1 c d f)] [] M a7 a6 rfl (by simp only[*,go_sem]) P rfl rfl en en iq iu rfl ir (by decide) (by decide) (fun cy a8 E m n cS=>?_);simp only[aX] at n;subst m;rw[<-O] at E;clear O;obtain ⟨d186,a9,rfl,c0⟩:=E.len;refine ⟨⟨ro,(D,.cells #[.int .i64 a.aQ,.bool a.bt] 76)::(j,bz 29)::(i,.cells #[.int .i64 a.aQ,.bool a.bt] 76)::(g,bk u0 s1 c d f)::a8⟩,Le.refl _,?_⟩;refine ⟨by simp only[*,go_sem],bW ?_⟩;try simp only[*,go_sem]
  refine af hJ ?_;refine aB hJ fun R=>?_;obtain ⟨da,F,B,S,ba⟩:=E.e4 [(D,.cells #[.int .i64 a.aQ,.bool a.bt] 76),(j,bz 29),(i,.cells #[.int .i64 a.aQ,.bool a.bt] 76),(g,bk u0 s1 c d (sl d186 N a9))] [] R (aG.cons P (aG.cons z (aG.cons w (aG.cons u (aG.nil _)))));clear R;refine cp hJ ba ?_;obtain ⟨db,dd,-⟩:=S.op;replace b:=b.mono F;replace z:=B.tl.hd;replace w:=B.tl.tl.hd;replace u:=B.tl.tl.tl.hd;replace k:=k.mono F;simp only[bq] at B;refine ak hJ ?_;revert h;refine bS fun df bb h=>?_;obtain rfl:=sI h;simp only[*,go_sem];refine b6 hJ _ (wZ k (⟨u0.bH,u0.bK,u0.aS,u0.ax,u0.props,u0.av,N⟩:aj) ⟨b.e,b.p,b.y,S⟩ bb) fun v dk G C H=>?_;obtain ⟨dp,dq,ds,dt,rfl,o⟩:=H;replace b:=b.mono G;replace z:=C.tl.hd;replace w:=C.tl.tl.hd;replace u:=C.tl.tl.tl.hd;replace k:=k.mono G;simp only[bq] at C;obtain ⟨d208,du,rfl,dv,dC,-⟩:=id o.e;obtain ⟨d215,dE,rfl,dT,ea,-⟩:=id o.p;obtain ⟨d222,eb,rfl,ec,ed,-⟩:=id o.y;obtain ⟨d229,eh,rfl,et,eu,-⟩:=id o.t;refine aJ ?_;try simp only[*,go_sem]
  refine az ?_;simp only[*,go_sem];exact ⟨_,(F).trans G,Le.sub (List.nil_sublist _),_,_,_,_,rfl,o⟩
 revert h;refine bS fun bc bd h=>?_;simp only[*,go_sem];refine aA fun q T U=>?_;have ev:=aP.cons U ar;try simp only[au] at U
 try simp only[*,go_sem]
 refine dJ hJ (aV:=[]) [(q,.cells #[.int .i64 a.aQ,.bool a.bt] 76),(j,bz 29),(i,.cells #[.int .i64 a.aQ,.bool a.bt] 76),(g,bk u0 s1 c d f)] [] _ (v8 u0.told b.t bd) (fun eQ bj V m n bl=>?_);simp only[aX] at n;subst m;obtain ⟨eS,e0,rfl,e1⟩:=V.len;refine ⟨⟨ro,(q,.cells #[.int .i64 a.aQ,.bool a.bt] 76)::(j,bz 29)::(i,.cells #[.int .i64 a.aQ,.bool a.bt] 76)::(g,bk u0 s1 c d f)::bj⟩,Le.refl _,?_⟩;refine ⟨by simp only[*,go_sem],bW ?_⟩;revert h;refine bS fun W bm h=>?_;obtain ⟨bo,X⟩:=dr bm;try simp only[*,go_sem]
 refine dZ (r:=dg) (l:=bc) (x:=a) (cs:=#[.int .i64 a.aQ,.bool a.bt]) (e2:=76) [(q,.cells #[.int .i64 a.aQ,.bool a.bt] 76),(j,bz 29),(i,.cells #[.int .i64 a.aQ,.bool a.bt] 76),(g,bk u0 s1 c d f)] [] V bl bo rfl (by simp only[*,go_sem]) T rfl rfl en en iq iu rfl ir (by decide) (by decide) (fun e3 br I m n fa=>?_);simp only[aX] at n;subst m;rw[<-X] at I;clear X;obtain ⟨bs,b0,rfl,fb⟩:=I.len;refine ⟨⟨ro,(q,.cells #[.int .i64 a.aQ,.bool a.bt] 76)::(j,bz 29)::(i,.cells #[.int .i64 a.aQ,.bool a.bt] 76)::(g,bk u0 s1 c d f)::br⟩,Le.refl _,?_⟩;refine ⟨by simp only[*,go_sem],bW ?_⟩;try simp only[*,go_sem]
 refine af hJ ?_;refine aB hJ fun Y=>?_;obtain ⟨fg,K,b1,Z,b2⟩:=I.e4 [(q,.cells #[.int .i64 a.aQ,.bool a.bt] 76),(j,bz 29),(i,.cells #[.int .i64 a.aQ,.bool a.bt] 76),(g,bk u0 s1 c d (sl bs W b0))] [] Y (aG.cons T (aG.cons z (aG.cons w (aG.cons u (aG.nil _)))));clear Y;refine cp hJ b2 ?_;obtain ⟨fi,fo,-⟩:=Z.op;replace b:=b.mono K;replace k:=k.mono K;simp only[bq] at b1;refine ak hJ ?_;revert h;refine bS fun fp b3 h=>?_;obtain rfl:=sI h;simp only[*,go_sem];refine b6 hJ _ (wZ k (⟨u0.bH,u0.bK,u0.aS,u0.ax,u0.props,u0.av,W⟩:aj) ⟨b.e,b.p,b.y,Z⟩ b3) fun v fr b4 b5 H=>?_;obtain ⟨fs,ft,fu,fv,rfl,s⟩:=H;simp only[bq] at b5;obtain ⟨fw,fx,rfl,gg,gl,-⟩:=id s.e;obtain ⟨gn,gp,rfl,gB,gC,-⟩:=id s.p;obtain ⟨gM,gT,rfl,gV,g0,-⟩:=id s.y;obtain ⟨g1,g2,rfl,g3,g4,-⟩:=id s.t;refine aJ ?_;try simp only[*,go_sem]
 refine az ?_;simp only[*,go_sem];exact ⟨_,(K).trans b4,Le.sub (List.nil_sublist _),_,_,_,_,rfl,s⟩
def lB (u0:aj)(c:Int)(a:cC):Option (aj×Int):=
 ag (eP u0 ([(eN c)])) fun e=>cond ((e.2 != 0)) (some ((⟨0,0,(⟨0,0⟩:an),([]:(List bX)),([]:(List cc)),([]:(List bO)),([]:(List bR))⟩:aj),e.2)) (ag (pU a 0 60) fun g=>cond (!g) (some ((⟨0,0,(⟨0,0⟩:an),([]:(List bX)),([]:(List cc)),([]:(List bO)),([]:(List bR))⟩:aj),1)) (ag (n4 u0.av) fun d=>ag (aY d c) fun b=>cond (decide ((if a.high<b.high.high then a.high else b.high.high)<(if b.high.low<a.low then a.low else b.high.low))) (some ((⟨0,0,(⟨0,0⟩:an),([]:(List bX)),([]:(List cc)),([]:(List bO)),([]:(List bR))⟩:aj),9)) (ag (aY d c) fun h=>ag (n8 (⟨u0.bH,u0.bK,u0.aS,u0.ax,u0.props,(d.set (c).toNat (⟨h.back,(⟨(if b.high.low<a.low then a.low else b.high.low),(if a.high<b.high.high then a.high else b.high.high)⟩:cC)⟩:bO)),u0.told⟩:aj)) fun f=>some (f.1,f.2))))
theorem sZ {ro:Addr->Option Value}(g:c9 ro)(u0:aj){s1 k q l:Value}(f:bL ro u0 s1 k q l)(d:Int)(a:cC){r:(aj×Int)}(h:lB u0 d a=some r):eL Tryz.prog 17 #[bv u0 s1 k q l,.int .i64 d,.agg #[.int .i64 a.low,.int .i64 a.high]] ro (fun v aM=>∃U w1 w2 w3,v= .tuple #[bv r.1 U w1 w2 w3,.int .i64 r.2]/\bL aM r.1 U w1 w2 w3):=by
 unfold lB at h;have ba:=f.oc;simp only[bG] at ba;refine aE.go Tryz.func17 rfl Tryz.ntmps17 Tryz.results17 (by simp) fun main J hJ A bb hd hs=>?_;have bc:=hs 0;have k1:=hs 1;have bd:=hs 2;clear hs;refine ah hJ ?_;simp only[*,go_sem];refine aA fun w z bj=>?_;try simp only[au] at bj
 refine aA fun B C bm=>?_;try simp only[au] at bm
 refine aA fun D E bo=>?_;try simp only[au] at bo
 try simp only[*,go_sem]
 refine af hJ (af hJ ?_);refine aB hJ fun br=>?_;refine ak hJ ?_;revert h;refine bS fun K bs h=>?_;simp only[*,go_sem];refine aA fun s V W=>?_;have X:=aP.cons W br;try simp only[au] at W
 try simp only[*,go_sem]
 obtain ⟨j,u,Y⟩:=fM (b:=s) (o:=(.cells #[.func (.func 68) #[.int .i64 d] #[]] 127)) [] ((D,bz 29)::(B,.cells #[.int .i64 a.low,.int .i64 a.high] 39)::(w,bk u0 s1 k q l)::[]) X V (aG.cons E (aG.cons C (aG.cons z (aG.nil _))));have Z:aC (c6) (bU ro s (.cells #[.func (.func 68) #[.int .i64 d] #[]] 127)) (.slice (some ⟨s,0,none⟩) 1 1) [(eN d)]:=(aC.one (r:=(c6)) (e:=127) (cs:=#[.func (.func 68) #[.int .i64 d] #[]]) (x:=(eN d)) (own:=[(s,.cells #[.func (.func 68) #[.int .i64 d] #[]] 127)]) V (by simp[lk]) ⟨68,#[.int .i64 d],#[],rfl,⟨by simp only[go_sem],fun e3 fa b0 _ _ _ _ _ b1 b2 b3 b4 h=>by simp only[go_sem];exact si d b0 ⟨b1,b2,b3,b4⟩ h⟩⟩)
 generalize bU ro s (.cells #[.func (.func 68) #[.int .i64 d] #[]] 127)=fb at Z u j Y;refine gR hJ Y ?_;replace f:=f.mono j;replace E:=u.hd;replace C:=u.tl.hd;replace z:=u.tl.tl.hd;replace g:=g.mono j;simp only[bq] at u;have b5:=aP.tl X;refine b6 hJ _ (ku g u0 f ([(eN d)]) Z bs) fun v ab m F L=>?_;obtain ⟨M,N,O,P,rfl,ca⟩:=L;have cb:=ca.oc;simp only[bG] at cb;replace f:=f.mono m;replace E:=F.hd;replace C:=F.tl.hd;replace z:=F.tl.tl.hd;replace g:=g.mono m;simp only[bq] at F;refine aJ ?_;try simp only[*,go_sem]
 refine aA fun Q cd ad=>?_;have fg:=aP.cons ad b5;try simp only[au] at ad
 try simp only[*,go_sem]
 refine ah hJ ?_;simp only[*,go_sem];revert h;refine jC hJ (by simp only[*,go_sem]) (fun cf h=>?_) fun cf h=>?_
 ·obtain rfl:=sI h;refine ah hJ ?_;simp only[*,go_sem];refine az ?_;simp only[*,go_sem];exact ⟨_,(j).trans m,Le.sub (List.nil_sublist _),_,_,_,_,rfl,⟨aC.nil _ _,aC.nil _ _,aC.nil _ _,aC.nil _ _⟩⟩
 refine aH hJ (af hJ ?_);refine ah hJ ?_;revert h;refine bS fun fi cl h=>?_;simp only[*,go_sem];refine bn hJ _ (AR a 0 60 cl) (aJ ?_);try simp only[*,go_sem]
 revert h;refine jC hJ (by simp only[*,go_sem]) (fun cu h=>?_) fun cu h=>?_
 ·obtain rfl:=sI h;refine ah hJ ?_;simp only[*,go_sem];refine az ?_;simp only[*,go_sem];exact ⟨_,(j).trans m,Le.sub (List.nil_sublist _),_,_,_,_,rfl,⟨aC.nil _ _,aC.nil _ _,aC.nil _ _,aC.nil _ _⟩⟩
 refine aH hJ (af hJ ?_);refine aB hJ fun fo=>?_;refine ak hJ ?_;revert h;refine bS fun G cy h=>?_;simp only[*,go_sem];refine dJ hJ (aV:=[]) [(Q,bl K.1 M N O P),(D,bz 29),(B,.cells #[.int .i64 a.low,.int .i64 a.high] 39),(w,bk u0 s1 k q l)] [] _ (AY u0.av f.y cy) (fun fp cS H c0 da fr=>?_);simp only[aX] at da;subst c0;obtain ⟨d87,ae,rfl,fs⟩:=H.len;refine ⟨⟨ab,(Q,bl K.1 M N O P)::(D,bz 29)::(B,.cells #[.int .i64 a.low,.int .i64 a.high] 39)::(w,bk u0 s1 k q l)::cS⟩,Le.refl _,?_⟩;refine aJ ?_;try simp only[*,go_sem]
 refine af hJ ?_;refine aB hJ fun al=>?_;refine ak hJ ?_;revert h;refine bS fun c db h=>?_;obtain ⟨ft,fu,dd⟩:=cE db;obtain ⟨R,df,dk,rfl,rfl,fv,dp,S⟩:=H.AA dd;obtain rfl:dk=c.cells:=dp;have dq:=al.nd;simp only[keys,List.map_cons,List.map_nil,List.map_append,List.cons_append,List.nil_append,List.nodup_cons,List.mem_cons,List.mem_append,List.not_mem_nil,or_false,not_or] at dq;have ao:=S 0 _ rfl;simp only[go_sem] at ao;have fw:=(Array.getElem?_eq_some_iff.1 ao).1;have ar:=S 1 _ rfl;simp only[go_sem] at ar;have fx:=(Array.getElem?_eq_some_iff.1 ar).1;have a0:=S 2 _ rfl;simp only[go_sem] at a0;have gg:=(Array.getElem?_eq_some_iff.1 a0).1;try simp only[*,go_sem]
 refine aA fun ds dt a2=>?_;have gl:=aP.cons a2 al;try simp only[au] at a2
 try simp only[*,go_sem]
 refine af hJ ?_;refine fN [1,3,5,6,7,10] fun gn du dv dC=>?_;simp only[*,go_sem] at du dv dC;clear bb hd bc k1 bd;refine aB hJ fun dE=>?_;refine ak hJ ?_;simp only[*,go_sem];refine aA fun dT ea a3=>?_;have gp:=aP.cons a3 dE;try simp only[au] at a3
 try simp only[*,go_sem]
 refine af hJ (af hJ ?_);refine aB hJ fun gB=>?_;refine ak hJ ?_;simp only[*,go_sem];revert h;refine jC hJ (by simp only[*,go_sem]) (fun eb h=>?_) fun eb h=>?_
 ·obtain rfl:=sI h;refine af hJ ?_;refine aB hJ fun gC=>?_;refine ak hJ ?_;simp only[*,go_sem];refine az ?_;simp only[*,go_sem];exact ⟨_,(j).trans m,Le.sub (List.nil_sublist _),_,_,_,_,rfl,⟨aC.nil _ _,aC.nil _ _,aC.nil _ _,aC.nil _ _⟩⟩
 refine aH hJ (af hJ ?_);refine aB hJ fun gM=>?_;refine ak hJ ?_;revert h;refine bS fun i ec h=>?_;obtain ⟨gT,gV,a4⟩:=cE ec;obtain ⟨ed,eh,I⟩:=H.iU a4;obtain rfl:ed=i.cells:=eh;have a5:=I 0 _ rfl;simp only[go_sem] at a5;have g0:=(Array.getElem?_eq_some_iff.1 a5).1;have a6:=I 1 _ rfl;simp only[go_sem] at a6;have g1:=(Array.getElem?_eq_some_iff.1 a6).1;have a7:=I 2 _ rfl;simp only[go_sem] at a7;have g2:=(Array.getElem?_eq_some_iff.1 a7).1;have et:aO eV ab 41 (.slice (some ⟨R,0,none⟩) G.length ae) (G.set (d).toNat (⟨i.back,(⟨(if c.high.low<a.low then a.low else c.high.low),(if a.high<c.high.high then a.high else c.high.high)⟩:cC)⟩:bO)) [(R,Obj.cells (cM df ((d).toNat*3+1) [.int .i64 (if c.high.low<a.low then a.low else c.high.low),.int .i64 (if a.high<c.high.high then a.high else c.high.high)]) 41)]:=by have eu:=H.part (y:=(⟨i.back,(⟨(if c.high.low<a.low then a.low else c.high.low),(if a.high<c.high.high then a.high else c.high.high)⟩:cC)⟩:bO)) a4 1 [.int .i64 (if c.high.low<a.low then a.low else c.high.low),.int .i64 (if a.high<c.high.high then a.high else c.high.high)] [.int .i64 i.back,.int .i64 i.high.low,.int .i64 i.high.high] [.int .i64 i.back,.int .i64 (if c.high.low<a.low then a.low else c.high.low),.int .i64 (if a.high<c.high.high then a.high else c.high.high)] I rfl rfl (by simp) rfl;exact eu
 try simp only[*,go_sem]
 refine af hJ ?_;refine aB hJ fun a8=>?_;obtain ⟨g3,T,ev,a9,eQ⟩:=et.e4 [(dT,.cells #[.int .i64 (if c.high.low<a.low then a.low else c.high.low),.int .i64 (if a.high<c.high.high then a.high else c.high.high)] 39),(ds,.cells #[.int .i64 c.high.low,.int .i64 c.high.high] 39),(Q,bl K.1 M N O P),(D,bz 29),(B,.cells #[.int .i64 a.low,.int .i64 a.high] 39),(w,bk u0 s1 k (sl (some ⟨R,0,none⟩) G ae) l)] [] a8 (aG.cons ea (aG.cons dt (aG.cons cd (aG.cons E (aG.cons C (aG.cons z (aG.nil _)))))));clear a8;refine cp hJ eQ ?_;obtain ⟨g4,ha,-⟩:=a9.op;replace f:=f.mono T;replace g:=g.mono T;simp only[bq] at ev;refine ak hJ ?_;revert h;refine bS fun hc eS h=>?_;obtain rfl:=sI h;simp only[*,go_sem];refine b6 hJ _ (wZ g (⟨u0.bH,u0.bK,u0.aS,u0.ax,u0.props,(G.set (d).toNat (⟨i.back,(⟨(if c.high.low<a.low then a.low else c.high.low),(if a.high<c.high.high then a.high else c.high.high)⟩:cC)⟩:bO)),u0.told⟩:aj) ⟨f.e,f.p,a9,f.t⟩ eS) fun v hf e0 e1 L=>?_;obtain ⟨hg,hh,hi,hj,rfl,n⟩:=L;have e2:=n.oc;simp only[bG] at e2;simp only[bq] at e1;obtain ⟨d130,hk,rfl,hl,hn,-⟩:=id n.e;obtain ⟨d137,ho,rfl,hp,hq,-⟩:=id n.p;obtain ⟨d144,hr,rfl,ht,hv,-⟩:=id n.y;obtain ⟨d151,hx,rfl,hy,hz,-⟩:=id n.t;refine aJ ?_;try simp only[*,go_sem]
 refine az ?_;simp only[*,go_sem];exact ⟨_,(((j).trans m).trans T).trans e0,Le.sub (List.nil_sublist _),_,_,_,_,rfl,n⟩
def A9 (i43:Nat)(a:(List Int))(st:(List Int)):Option (Fl (List Int) (List Int)):=
 ag (c8 st a) fun b=>some (.nx b)
def xe (i9:Nat)(a:(List Int))(st:Int):Option (Fl Int (List Int)):=
 cond (decide ((IntKind.i64.wrap (st+(a.length:Int)))<0)) (none) (some (.nx (IntKind.i64.wrap (st+(a.length:Int)))))
def Hs (i109:Nat)(a:(List Int))(st:(List Int)):Option (Fl (List Int) (List Int)):=
 ag (c8 st a) fun b=>some (.nx b)
def xg (u0:(List (List Int))):Option (List Int):=
 ag (bJ (xe) 0 u0 0) fun o=>aD o (fun a=>ag (wY a) fun b=>ag (bJ (Hs) 0 u0 b) fun o=>aD o (fun c=>some c) (fun _ _=>none) (fun r=>some r)) (fun _ _=>none) (fun r=>some r)
theorem Ht {ro:Addr->Option Value}(u0:(List (List Int))){s1:Value}(g:aC (rL rI) ro s1 u0){r:(List Int)}(h:xg u0=some r):eL Tryz.prog 98 #[s1] ro (fun v aM=>∃s,v=s/\aC rI aM s r):=by
 obtain ⟨d3,c4,rfl,bz,t,-⟩:=id g;unfold xg at h;refine aE.go Tryz.func98 rfl Tryz.ntmps98 Tryz.results98 (by simp) fun main J hJ A P hd hs=>?_;have Q:=hs 0;clear hs;refine ah hJ ?_;simp only[*,go_sem];refine ah hJ ?_;simp only[*,go_sem];refine af hJ (ah hJ ?_);simp only[*,go_sem];refine aN hJ ?_;revert h;refine bS fun R a S=>?_;refine bT hJ [3,5,11,12,13,14,15,16,17,18,19,20,21,22] (fun m d F'=>∃(i9:Nat) (e:Int),m=u0.length - i9/\i9<=u0.length/\bJ (xe) i9 (u0.drop i9) e=some R/\F'=⟨ro,[]⟩/\slot d 11= .int .i64 (i9:Int)/\slot d 3= .int .i64 e) u0.length ?_ ?_
 ·refine ⟨0,0,(Nat.sub_zero _).symm,Nat.zero_le _,a,rfl,?_⟩;simp only[*,go_sem]
 rintro b0 b1 F' u ⟨i9,e,rfl,b2,a,rfl,T,U⟩;obtain ⟨w,y,z⟩:=u.pick [0,2,9,10] (by decide);simp only[*,go_sem] at w y z;clear u P hd Q;refine ah hJ ?_;simp only[*,go_sem];refine af hJ ?_;rcases Nat.lt_or_ge i9 u0.length with V|B
 ·refine bE hJ (by simp only[*,go_sem]) ?_;refine aH hJ ?_;obtain ⟨W,i⟩:∃x,u0[i9]?=some x:=⟨_,List.getElem?_eq_getElem V⟩
  rw[dc i] at a;revert a;refine bS fun b3 h X=>?_;unfold xe at h;try dsimp only at h
  obtain ⟨b4,b5,Y,Z,C⟩:=g.el _ _ i;obtain ⟨ca,rfl,ab⟩:=Z;obtain ⟨d18,cb,rfl,cd,cf,cl⟩:=id ab;cases Y;have ad:=C 0 _ rfl;simp only[go_sem] at ad;clear C i;refine af hJ (aN hJ (af hJ ?_));refine ak hJ ?_;simp only[*,go_sem];refine ah hJ ?_;simp only[*,go_sem];refine ah hJ ?_;simp only[*,go_sem];revert h;refine jC hJ (by simp only[*,go_sem]) (fun ae h=>?_) fun ae h=>?_
  ·refine ak hJ ?_;cases h
  obtain rfl:=sI h;refine aH hJ ?_;have cu:=cq (n:=i9) (by have:=t;omega);refine ak hJ ?_;simp only[*,go_sem];refine ⟨u0.length - (i9+1),by omega,_,Le.sub (List.Sublist.refl _),i9+1,(IntKind.i64.wrap (e+(W.length:Int))),rfl,by omega,X,rfl,?_⟩;simp only[*,go_sem]
 have cy:=Nat.not_lt.2 B;refine bD hJ (by simp only[*,go_sem]) ?_;rw[List.drop_eq_nil_of_le B] at a;obtain rfl:=sI a;clear a;have h:=S;dsimp only[aD] at h;refine bN ?_;simp only[go_sem];refine af hJ ?_;refine aB hJ fun cS=>?_;refine ak hJ ?_;revert h;refine bS fun al ao h=>?_;simp only[*,go_sem];refine dJ hJ (aV:=[]) [] [] _ (Hj e ao) (fun c0 D E j k da=>?_);simp only[aX] at k;subst j;obtain ⟨d32,ar,rfl,a0⟩:=E.len;refine ⟨⟨ro,D⟩,Le.refl _,?_⟩;refine aJ ?_;try simp only[*,go_sem]
 refine af hJ (af hJ ?_);refine aB hJ fun db=>?_;refine ak hJ ?_;simp only[*,go_sem];refine aN hJ ?_;revert h;refine bS fun a2 b a3=>?_;refine bT hJ [6,8,27,28,29,30,31,32,33,34] (fun m d F'=>∃(i43:Nat) (d38:Option Addr) (f:Nat) (o:List (Nat×Obj)) (c:(List Int)),m=u0.length - i43/\i43<=u0.length/\bJ (A9) i43 (u0.drop i43) c=some a2/\F'=⟨ro,o⟩/\aO rI ro 3 (.slice d38 c.length f) c o/\c.length<=f/\slot d 27= .int .i64 (i43:Int)/\slot d 6= .slice d38 c.length f) u0.length ?_ ?_
 ·refine ⟨0,d32,ar,D,al,(Nat.sub_zero _).symm,Nat.zero_le _,b,rfl,E,a0,?_⟩;simp only[*,go_sem]
 rintro dd df F' F ⟨i43,d38,f,o,c,rfl,dk,b,rfl,G,dp,dq,ds⟩;obtain ⟨a4,a5,a6⟩:=F.pick [2,25,26] (by decide);simp only[*,go_sem] at a4 a5 a6;clear F w y z U T;refine ah hJ ?_;simp only[*,go_sem];refine af hJ ?_;rcases Nat.lt_or_ge i43 u0.length with a7|H
 ·refine bE hJ (by simp only[*,go_sem]) ?_;refine aH hJ ?_;obtain ⟨a8,p⟩:∃x,u0[i43]?=some x:=⟨_,List.getElem?_eq_getElem a7⟩
  rw[dc p] at b;revert b;refine bS fun dt h a9=>?_;unfold A9 at h;try dsimp only at h
  obtain ⟨du,dv,ba,bb,I⟩:=g.el _ _ p;obtain ⟨dC,rfl,K⟩:=bb;obtain ⟨d52,dE,rfl,dT,ea,eb⟩:=id K;cases ba;have bc:=I 0 _ rfl;simp only[go_sem] at bc;clear I p;refine af hJ (aN hJ (af hJ ?_));refine aB hJ fun ec=>?_;refine ak hJ ?_;simp only[*,go_sem];refine aB hJ fun bd=>?_;refine ak hJ ?_;revert h;refine bS fun bj bk h=>?_;obtain rfl:=sI h;obtain ⟨bl,L⟩:=dr bk;simp only[*,go_sem];refine pR (r:=rI) (l:=c) (xs:=a8) [] [] G bd bl K rfl rfl fK fK kY k3 rfl kZ (by decide) (by decide) (fun ed M q j k eh=>?_);simp only[aX] at k;subst j;rw[<-L] at q;clear L;obtain ⟨d66,bm,rfl,bo⟩:=q.len;refine ⟨⟨ro,M⟩,Le.refl _,?_⟩;refine aJ ?_;try simp only[*,go_sem]
  have et:=cq (n:=i43) (by have:=t;omega);refine ak hJ ?_;simp only[*,go_sem];refine ⟨u0.length - (i43+1),by omega,_,Le.sub (List.Sublist.refl _),i43+1,d66,bm,M,bj,rfl,by omega,a9,rfl,q,bo,?_⟩;simp only[*,go_sem]
 have eu:=Nat.not_lt.2 H;refine bD hJ (by simp only[*,go_sem]) ?_;rw[List.drop_eq_nil_of_le H] at b;obtain rfl:=sI b;clear b;have h:=a3;dsimp only[aD] at h;obtain rfl:=sI h;refine bN ?_;simp only[go_sem];refine af hJ ?_;refine aB hJ fun ev=>?_;refine ak hJ ?_;simp only[*,go_sem];refine aB hJ fun N=>?_;obtain ⟨eQ,br,eS,O,bs⟩:=G.e4 [] [] N (aG.nil _);clear N;refine cp hJ bs ?_;obtain ⟨e0,e1,-⟩:=O.op;refine az ?_;simp only[*,go_sem];exact ⟨_,br,Le.sub (List.nil_sublist _),_,rfl,O⟩
def oa (a:Int)(i44:Nat)(b:aT)(st:(List Int)):Option (Fl (List Int) (List Int)):=
 ag (aT.get b a) fun c=>ag (c8 st ([c])) fun d=>some (.nx d)
def lC (u0:cR)(a:Int):Option (List Int):=
 ag (bJ (oa a) 0 u0.all ([]:List Int)) fun o=>aD o (fun b=>ag (qg b) fun c=>ag (sU c.2) fun d=>some d) (fun _ _=>none) (fun r=>some r)
theorem s0 {ro:Addr->Option Value}(u0:cR){s1 a b c:Value}(b3:bL ro u0.book s1 a b c){y:Value}(z:aC gS ro y u0.all)(s:Int){r:(List Int)}(h:lC u0 s=some r):eL Tryz.prog 69 #[.agg #[.int .i64 u0.book.bH,.int .i64 u0.book.bK,.int .i64 u0.book.aS.num,.int .i64 u0.book.aS.den,s1,a,b,c,y],.int .i64 s] ro (fun v aM=>∃B,v=B/\aC rI aM B r):=by
 obtain ⟨d31,d,rfl,b4,R,-⟩:=id z;unfold lC at h;refine aE.go Tryz.func69 rfl Tryz.ntmps69 Tryz.results69 (by simp) fun main J hJ A S hd hs=>?_;have T:=hs 0;have k1:=hs 1;clear hs;refine ah hJ ?_;simp only[*,go_sem];refine aA fun e U V=>?_;try simp only[au] at V
 try simp only[*,go_sem]
 refine ah hJ ?_;simp only[*,go_sem];refine af hJ (ah hJ ?_);simp only[*,go_sem];refine aN hJ ?_;revert h;refine bS fun W g X=>?_;refine bT hJ [5,7,11,12,13,14,15,16,17,18,19,20,21] (fun m C F'=>∃(i44:Nat) (d38:Option Addr) (o:Nat) (t:List (Nat×Obj)) (f:(List Int)),m=u0.all.length - i44/\i44<=u0.all.length/\bJ (oa s) i44 (u0.all.drop i44) f=some W/\F'=⟨ro,(e,kn u0 s1 a b c (sl d31 u0.all d))::t⟩/\aO rI ro 3 (.slice d38 f.length o) f t/\f.length<=o/\slot C 11= .int .i64 (i44:Int)/\slot C 5= .slice d38 f.length o) u0.all.length ?_ ?_
 ·refine ⟨0,none,0,[],([]:List Int),(Nat.sub_zero _).symm,Nat.zero_le _,g,rfl,aO.nil _ _ _,Nat.le_refl _,?_⟩;simp only[*,go_sem]
 rintro b5 ca F' D ⟨i44,d38,o,t,f,rfl,cb,g,rfl,E,cd,cf,cl⟩;obtain ⟨Y,Z,ab⟩:=D.pick [1,4,9,10] (by decide);simp only[*,go_sem] at Y Z ab;clear D S hd T k1;refine ah hJ ?_;simp only[*,go_sem];refine af hJ ?_;rcases Nat.lt_or_ge i44 u0.all.length with ad|F
 ·refine bE hJ (by simp only[*,go_sem]) ?_;refine aH hJ ?_;obtain ⟨i,u⟩:∃x,u0.all[i44]?=some x:=⟨_,List.getElem?_eq_getElem ad⟩
  rw[dc u] at g;revert g;refine bS fun cu h ae=>?_;unfold oa at h;try dsimp only at h
  obtain ⟨G,al,ao,ar,p⟩:=z.el _ _ u;obtain rfl:al=i.cells:=ar;cases ao;have a0:=p 0 _ rfl;simp only[go_sem] at a0;have a2:=p 1 _ rfl;simp only[go_sem] at a2;have a3:=p 2 _ rfl;simp only[go_sem] at a3;clear p u;refine af hJ (aN hJ (af hJ ?_));refine aB hJ fun a4=>?_;refine ak hJ ?_;simp only[*,go_sem];refine aA fun H cy I=>?_;have cS:=aP.cons I a4;try simp only[au] at I
  try simp only[*,go_sem]
  refine aB hJ fun a5=>?_;refine ak hJ ?_;revert h;refine bS fun q a6 h=>?_;obtain ⟨c0,da,a7⟩:=aT.get_some a6;try simp only[go_sem] at a7
  revert h;refine bS fun a8 a9 h=>?_;obtain rfl:=sI h;obtain ⟨ba,K⟩:=dr a9;try simp only[*,go_sem]
  refine aA fun L bb M=>?_;have bc:=aP.cons M a5;try simp only[au] at M
  try simp only[*,go_sem]
  refine dZ (r:=rI) (l:=f) (x:=q) (cs:=#[.int .i64 q]) (e2:=3) [(L,ic q),(H,.cells #[.int .i64 i.e0,.int .i64 i.e1,.int .i64 i.e2] 121),(e,kn u0 s1 a b c (sl (some G) u0.all d))] [] E bc ba rfl (by simp only[*,go_sem]) bb rfl rfl fK fK kY k3 rfl kZ (by decide) (by decide) (fun db N w j k dd=>?_);simp only[aX] at k;subst j;rw[<-K] at w;clear K;obtain ⟨d66,bd,rfl,bj⟩:=w.len;refine ⟨⟨ro,(L,ic q)::(H,.cells #[.int .i64 i.e0,.int .i64 i.e1,.int .i64 i.e2] 121)::(e,kn u0 s1 a b c (sl (some G) u0.all d))::N⟩,Le.refl _,?_⟩;refine aJ ?_;try simp only[*,go_sem]
  have df:=cq (n:=i44) (by have:=R;omega);refine ak hJ ?_;simp only[*,go_sem];refine ⟨u0.all.length - (i44+1),by omega,_,Le.sub (List.Sublist.cons _ (List.Sublist.cons _ (List.Sublist.refl _))),i44+1,d66,bd,N,a8,rfl,by omega,ae,rfl,w,bj,?_⟩;simp only[*,go_sem]
 have dk:=Nat.not_lt.2 F;refine bD hJ (by simp only[*,go_sem]) ?_;rw[List.drop_eq_nil_of_le F] at g;obtain rfl:=sI g;clear g;have h:=X;dsimp only[aD] at h;refine bN ?_;simp only[go_sem];refine af hJ ?_;refine aB hJ fun dp=>?_;refine ak hJ ?_;revert h;refine bS fun bk bl h=>?_;simp only[*,go_sem];refine dJ hJ [(e,kn u0 s1 a b c (sl d31 u0.all d))] [] _ (Hg f E bl) (fun dq bm bo j k ds=>?_);obtain ⟨rfl,br⟩:=bo;simp only[aX] at k;subst j;refine ⟨⟨ro,(e,kn u0 s1 a b c (sl d31 u0.all d))::bm⟩,Le.refl _,?_⟩;try simp only[*,go_sem]
 refine af hJ ?_;refine aB hJ fun dt=>?_;refine ak hJ ?_;revert h;refine bS fun du bs h=>?_;obtain rfl:=sI h;simp only[*,go_sem];refine dJ hJ [(e,kn u0 s1 a b c (sl d31 u0.all d))] [] _ (Hh bk.2 br bs) (fun dv bz O j k dC=>?_);simp only[aX] at k;subst j;obtain ⟨d83,dE,rfl,dT⟩:=O.len;refine ⟨⟨ro,(e,kn u0 s1 a b c (sl d31 u0.all d))::bz⟩,Le.refl _,?_⟩;refine aJ ?_;try simp only[*,go_sem]
 refine aB hJ fun P=>?_;obtain ⟨ea,b0,b1,Q,b2⟩:=O.e4 [(e,kn u0 s1 a b c (sl d31 u0.all d))] [] P (aG.cons U (aG.nil _));clear P;refine cp hJ b2 ?_;obtain ⟨eb,ec,-⟩:=Q.op;simp only[bq] at b1;refine az ?_;simp only[*,go_sem];exact ⟨_,b0,Le.sub (List.nil_sublist _),_,rfl,Q⟩
def xh (u0:cR)(i47:Nat)(i75:Nat)(b:Int)(st:(List bf)):Option (Fl (List bf) (List bf)):=
 ag (gX u0.book (i47:Int) b) fun a=>ag (vY st a) fun c=>cond (!c) (ag (c8 st ([a])) fun d=>some (.nx d)) (some (.nx st))
def xj (u0:cR)(i47:Nat)(c:bO)(st:(List bf)):Option (Fl (List bf) (List bf)):=
 ag (lC u0 (i47:Int)) fun a=>ag (bJ (xh u0 i47) 0 a st) fun o=>aD o (fun b=>some (.nx b)) (fun _ _=>none) (fun r=>some (.rt r))
def s3 (u0:cR):Option (List bf):=
 ag (bJ (xj u0) 0 u0.book.av ([]:List bf)) fun o=>aD o (fun a=>some a) (fun _ _=>none) (fun r=>some r)
theorem Ba {ro:Addr->Option Value}(u0:cR){s1 c R d:Value}(e:bL ro u0.book s1 c R d){f:Value}(H:aC gS ro f u0.all){r:(List bf)}(h:s3 u0=some r):eL Tryz.prog 85 #[.agg #[.int .i64 u0.book.bH,.int .i64 u0.book.bK,.int .i64 u0.book.aS.num,.int .i64 u0.book.aS.den,s1,c,R,d,f]] ro (fun v aM=>∃S,v=S/\aC iV aM S r):=by
 obtain ⟨d17,o,rfl,eQ,a8,-⟩:=id e.y;unfold s3 at h;refine aE.go Tryz.func85 rfl Tryz.ntmps85 Tryz.results85 (by simp) fun main J hJ A a9 hd hs=>?_;have ba:=hs 0;clear hs;refine ah hJ ?_;simp only[*,go_sem];refine aA fun p I bb=>?_;try simp only[au] at bb
 try simp only[*,go_sem]
 refine ah hJ ?_;simp only[*,go_sem];refine af hJ (ah hJ ?_);simp only[*,go_sem];refine aN hJ ?_;revert h;refine bS fun bc i bd=>?_;refine bT hJ [3,4,6,7,13,14,15,16,17,18,19,20,21,22,23,24,25,26,27,28,29,30,31,32,33,34,35,36,37,38] (fun m s F'=>∃(i47:Nat) (w:Addr->Option Value) (d38:Option Addr) (t:Nat) (z:List (Nat×Obj)) (j:(List bf)),m=u0.book.av.length - i47/\i47<=u0.book.av.length/\bJ (xj u0) i47 (u0.book.av.drop i47) j=some bc/\F'=⟨w,(p,kn u0 s1 c (sl d17 u0.book.av o) d f)::z⟩/\Ext ro w/\aO iV w 134 (.slice d38 j.length t) j z/\j.length<=t/\slot s 13= .int .i64 (i47:Int)/\slot s 3= .slice d38 j.length t) u0.book.av.length ?_ ?_
 ·refine ⟨0,ro,none,0,[],([]:List bf),(Nat.sub_zero _).symm,Nat.zero_le _,i,rfl,Ext.refl _,aO.nil _ _ _,Nat.le_refl _,?_⟩;simp only[*,go_sem]
 rintro eS bj F' T ⟨i47,w,d38,t,z,j,rfl,e0,i,rfl,B,C,bk,bl,bm⟩;refine fe hJ fun _ U=>?_;replace e:=e.mono B;replace H:=H.mono B;replace I:=U.hd;simp only[bq] at U;obtain ⟨V,W,X⟩:=T.pick [1,2,12] (by decide);simp only[*,go_sem] at V W X;clear T a9 hd ba;refine ah hJ ?_;simp only[*,go_sem];refine af hJ ?_;rcases Nat.lt_or_ge i47 u0.book.av.length with bo|Y
 ·refine bE hJ (by simp only[*,go_sem]) ?_;refine aH hJ ?_;obtain ⟨br,K⟩:∃x,u0.book.av[i47]?=some x:=⟨_,List.getElem?_eq_getElem bo⟩
  rw[dc K] at i;revert i;refine bS fun e1 h bs=>?_;unfold xj at h;try dsimp only at h
  obtain ⟨D,bz,b0,b1,E⟩:=e.y.el _ _ K;obtain rfl:bz=br.cells:=b1;cases b0;have b2:=E 0 _ rfl;simp only[go_sem] at b2;have b3:=E 1 _ rfl;simp only[go_sem] at b3;have b4:=E 2 _ rfl;simp only[go_sem] at b4;clear E K;refine af hJ (aN hJ (af hJ ?_));refine aB hJ fun e3=>?_;refine ak hJ ?_;simp only[*,go_sem];refine af hJ ?_;refine aB hJ fun fa=>?_;refine ak hJ ?_;revert h;refine bS fun g b5 h=>?_;simp only[*,go_sem];refine b6 hJ _ (s0 u0 e H (i47:Int) b5) fun v F L M ca=>?_;obtain ⟨fb,rfl,Z⟩:=ca;replace e:=e.mono L;replace I:=M.hd;replace C:=C.mono L M.tl;simp only[bq] at M;obtain ⟨d64,fg,rfl,fi,ab,-⟩:=id Z;refine aJ ?_;try simp only[*,go_sem]
  refine aN hJ ?_;revert h;refine bS fun cb k cd=>?_;refine bT hJ [3,6,7,20,21,22,23,24,25,26,27,28,29,30,31,32,33,34,35,36,37] (fun m s F'=>∃(i75:Nat) (d70:Option Addr) (q:Nat) (u:List (Nat×Obj)) (b:(List bf)),m=g.length - i75/\i75<=g.length/\bJ (xh u0 i47) i75 (g.drop i75) b=some cb/\F'=⟨F,(p,kn u0 s1 c (sl (some D) u0.book.av o) d f)::u⟩/\aO iV F 134 (.slice d70 b.length q) b u/\b.length<=q/\slot s 20= .int .i64 (i75:Int)/\slot s 3= .slice d70 b.length q) g.length ?_ ?_
  ·refine ⟨0,d38,t,z,j,(Nat.sub_zero _).symm,Nat.zero_le _,k,rfl,C,bk,?_⟩;simp only[*,go_sem]
  rintro fo cf F' N ⟨i75,d70,q,u,b,rfl,fp,k,rfl,G,ad,fr,fs⟩;obtain ⟨cl,cu,cy⟩:=N.pick [1,2,4,12,13,14,15,16,17,18,19] (by decide);simp only[*,go_sem] at cl cu cy;have ft:cL [3,4,6,7,13,14,15,16,17,18,19,20,21,22,23,24,25,26,27,28,29,30,31,32,33,34,35,36,37,38] cf bj:=(N.fZ (by decide)).trans (by simp only[*,go_sem]);clear N V W X bm bl;refine ah hJ ?_;simp only[*,go_sem];refine af hJ ?_;rcases Nat.lt_or_ge i75 g.length with cS|ae
  ·refine bE hJ (by simp only[*,go_sem]) ?_;refine aH hJ ?_;obtain ⟨al,O⟩:∃x,g[i75]?=some x:=⟨_,List.getElem?_eq_getElem cS⟩
   rw[dc O] at k;revert k;refine bS fun fu h ao=>?_;unfold xh at h;(try dsimp only at h);obtain ⟨fv,c0,da,db,ar⟩:=Z.el _ _ O;obtain rfl:c0=[.int .i64 al]:=db;cases da;have dd:=ar 0 _ rfl;simp only[go_sem] at dd;clear ar O;refine af hJ (aN hJ (af hJ ?_));refine aB hJ fun fw=>?_;refine ak hJ ?_;simp only[*,go_sem];refine af hJ ?_;refine aB hJ fun df=>?_;refine ak hJ ?_;revert h;refine bS fun a dk h=>?_;simp only[*,go_sem];refine bn hJ _ (mB u0.book (e.mono aR) (i47:Int) al dk) (aJ ?_);(try simp only[*,go_sem]);refine aA fun P fx a0=>?_;have gg:=aP.cons a0 df;try simp only[au] at a0
   (try simp only[*,go_sem]);refine af hJ ?_;refine aB hJ fun dp=>?_;refine ak hJ ?_;revert h;refine bS fun gl dq h=>?_;simp only[*,go_sem];refine bn hJ _ (Gz b (G.AP [(P,.cells #[.int .i64 a.back,.int .i64 a.high] 134),(p,kn u0 s1 c (sl (some D) u0.book.av o) d f)] [] (by first|rfl|simp only[aX]|(simp only[aX];rfl)) dp) a dq) (aJ ?_);(try simp only[*,go_sem]);revert h;refine jC hJ (by simp only[*,go_sem]) (fun ds h=>?_) fun ds h=>?_
   ·refine aB hJ fun dt=>?_;refine ak hJ ?_;revert h;refine bS fun du dv h=>?_;obtain rfl:=sI h;obtain ⟨dC,a2⟩:=dr dv;simp only[*,go_sem];refine aA fun a3 dE a4=>?_;have dT:=aP.cons a4 dt;try simp only[au] at a4
    (try simp only[*,go_sem]);refine dZ (r:=iV) (l:=b) (x:=a) (cs:=#[.int .i64 a.back,.int .i64 a.high]) (e2:=134) [(a3,.cells #[.int .i64 a.back,.int .i64 a.high] 134),(P,.cells #[.int .i64 a.back,.int .i64 a.high] 134),(p,kn u0 s1 c (sl (some D) u0.book.av o) d f)] [] G dT dC rfl (by simp only[*,go_sem]) dE rfl rfl Ae Ae Fc Ff rfl Fe (by decide) (by decide) (fun gn a5 Q ea eb gp=>?_);simp only[aX] at eb;subst ea;rw[<-a2] at Q;clear a2;obtain ⟨d102,ec,rfl,ed⟩:=Q.len;refine ⟨⟨F,(a3,.cells #[.int .i64 a.back,.int .i64 a.high] 134)::(P,.cells #[.int .i64 a.back,.int .i64 a.high] 134)::(p,kn u0 s1 c (sl (some D) u0.book.av o) d f)::a5⟩,Le.refl _,?_⟩;refine aJ ?_;(try simp only[*,go_sem]);have eh:=cq (n:=i75) (by have:=ab;omega);refine ak hJ ?_;simp only[*,go_sem];refine ⟨g.length - (i75+1),by omega,_,Le.sub (List.Sublist.cons _ (List.Sublist.cons _ (List.Sublist.refl _))),i75+1,d102,ec,a5,du,rfl,by omega,ao,rfl,Q,ed,?_⟩;simp only[*,go_sem]
   obtain rfl:=sI h;refine aH hJ ?_;have eh:=cq (n:=i75) (by have:=ab;omega);refine ak hJ ?_;simp only[*,go_sem];refine ⟨g.length - (i75+1),by omega,_,Le.sub (List.Sublist.cons _ (List.Sublist.refl _)),i75+1,d70,q,u,b,rfl,by omega,ao,rfl,G,ad,?_⟩;simp only[*,go_sem]
  have gB:=Nat.not_lt.2 ae;refine bD hJ (by simp only[*,go_sem]) ?_;rw[List.drop_eq_nil_of_le ae] at k;obtain rfl:=sI k;clear k;have h:=cd;dsimp only[aD] at h;obtain rfl:=sI h;refine bN ?_;simp only[go_sem];have gC:=cq (n:=i47) (by have:=a8;omega);refine ak hJ ?_;simp only[*,go_sem];refine ⟨u0.book.av.length - (i47+1),by omega,_,Le.sub (List.Sublist.refl _),i47+1,F,d70,q,u,b,rfl,by omega,bs,rfl,(B.trans L),G,ad,?_⟩;simp only[*,go_sem]
 have gM:=Nat.not_lt.2 Y;refine bD hJ (by simp only[*,go_sem]) ?_;rw[List.drop_eq_nil_of_le Y] at i;obtain rfl:=sI i;clear i;have h:=bd;dsimp only[aD] at h;obtain rfl:=sI h;refine bN ?_;simp only[go_sem];refine af hJ ?_;refine aB hJ fun gT=>?_;refine ak hJ ?_;simp only[*,go_sem];refine aB hJ fun a6=>?_;obtain ⟨gV,et,eu,a7,ev⟩:=C.e4 [(p,kn u0 s1 c (sl d17 u0.book.av o) d f)] [] a6 (aG.cons I (aG.nil _));clear a6;refine cp hJ ev ?_;obtain ⟨g0,g1,-⟩:=a7.op;simp only[bq] at eu;refine az ?_;simp only[*,go_sem];exact ⟨_,(B).trans et,Le.sub (List.nil_sublist _),_,rfl,a7⟩
def xk (a:Int)(i109:Nat)(b:bR)(st:((List Int)×(List bR))):Option (Fl ((List Int)×(List bR)) ((List Int)×Int)):=
 ag (vq a (i109:Int)) fun c=>cond (((z3 c 1)==1)) (ag (c8 st.1 ([(i109:Int)])) fun d=>ag (c8 st.2 ([b])) fun e=>some (.nx (d,e))) (some (.nx (st.1,st.2)))
def xl (u0:aj)(a:(aj×Int))(c:Int)(st:((List (List Int))×Int)):Option (Fl ((List (List Int))×Int) ((List Int)×Int)):=
 cond (decide (st.2<c)) (ag (bJ (xk st.2) 0 u0.told (([]:List Int),([]:List bR))) fun o=>aD o (fun b=>ag (sK (⟨a.1.bH,a.1.bK,a.1.aS,a.1.ax,a.1.props,a.1.av,b.2⟩:aj)) fun d=>cond (!d) (ag (c8 st.1 ([b.1])) fun e=>some (.nx (e,(IntKind.i64.wrap (st.2+1))))) (some (.nx (st.1,(IntKind.i64.wrap (st.2+1)))))) (fun _ _=>none) (fun r=>some (.rt r))) (some (.bk (st.1,st.2)))
def xm (u0:aj):Option ((List Int)×Int):=
 ag (eP u0 ([]:(List (aj->Option Int)))) fun a=>cond ((a.2 != 0)) (some (([]:(List Int)),a.2)) (ag (sK a.1) fun c=>cond (c) (some (([]:(List Int)),0)) (ag (vp 1 (u0.told.length:Int)) fun d=>ag (aU (xl u0 a d) fu (([]:List (List Int)),0)) fun o=>aD o (fun b=>ag (aY b.1 0) fun e=>ag (iT b.1 1 (b.1.length:Int)) fun f=>ag (vT sV e f) fun g=>some (g,0)) (fun _ _=>none) (fun r=>some r)))
theorem Bb {ro:Addr->Option Value}(fv:c9 ro)(u0:aj){s1 i j b4:Value}(K:bL ro u0 s1 i j b4){r:((List Int)×Int)}(h:xm u0=some r):eL Tryz.prog 54 #[bv u0 s1 i j b4] ro (fun v aM=>∃b5,v= .tuple #[b5,.int .i64 r.2]/\aC rI aM b5 r.1):=by
 obtain ⟨d24,k,rfl,my,ab,-⟩:=id K.t;unfold xm at h;have fw:=K.oc;simp only[bG] at fw;refine aE.go Tryz.func54 rfl Tryz.ntmps54 Tryz.results54 (by simp) fun main J hJ A fx hd hs=>?_;have gg:=hs 0;clear hs;refine ah hJ ?_;simp only[*,go_sem];refine aA fun o L gl=>?_;try simp only[au] at gl
 try simp only[*,go_sem]
 refine ah hJ ?_;revert h;refine bS fun b gn h=>?_;simp only[*,go_sem];refine b6 hJ _ (ku fv u0 K ([]:(List (aj->Option Int))) (aC.nil _ _) gn) fun v ca ad cb a7=>?_;obtain ⟨c,d,f,q,rfl,P⟩:=a7;have gp:=P.oc;simp only[bG] at gp;replace K:=K.mono ad;replace L:=cb.hd;simp only[bq] at cb;refine aJ ?_;try simp only[*,go_sem]
 refine aA fun s Q gB=>?_;try simp only[au] at gB
 try simp only[*,go_sem]
 refine af hJ (ah hJ ?_);simp only[*,go_sem];revert h;refine jC hJ (by simp only[*,go_sem]) (fun gC h=>?_) fun gC h=>?_
 ·obtain rfl:=sI h;refine ah hJ ?_;simp only[*,go_sem];refine az ?_;simp only[*,go_sem];exact ⟨_,ad,Le.sub (List.nil_sublist _),_,rfl,aC.nil _ _⟩
 refine aH hJ (af hJ ?_);refine ah hJ ?_;revert h;refine bS fun m1 gM h=>?_;simp only[*,go_sem];refine bn hJ _ (A2 b.1 (P.mono aR) gM) ?_;try simp only[*,go_sem]
 revert h;refine jC hJ (by simp only[*,go_sem]) (fun gT h=>?_) fun gT h=>?_
 ·obtain rfl:=sI h;refine ah hJ ?_;simp only[*,go_sem];refine az ?_;simp only[*,go_sem];exact ⟨_,ad,Le.sub (List.nil_sublist _),_,rfl,aC.nil _ _⟩
 refine aH hJ (af hJ ?_);refine ak hJ ?_;simp only[*,go_sem];refine af hJ (ah hJ ?_);revert h;refine bS fun gV cd h=>?_;obtain ⟨m2,g0⟩:=ER cd;clear cd;try simp only[go_sem] at g0
 try simp only[*,go_sem]
 refine aN hJ ?_;revert h;refine bS fun g1 ae g2=>?_;refine bT hJ [6,7,8,9,10,11,26,27,28,29,30,31,32,33,34,35,36,37,38,39,40,41,42,43,44,45,46,47,48,49,50,51,52,53,54,55,56,57,58,59,60,61,62,63,64,65] (fun m V F'=>∃(B:Addr->Option Value) (d71:Option Addr) (S:Nat) (w:List (Nat×Obj)) (I:(List (List Int))) (T:Int),aU (xl u0 b gV) m (I,T)=some g1/\F'=⟨B,(s,bl b.1 c d f q)::(o,bk u0 s1 i j (sl d24 u0.told k))::w⟩/\Ext ca B/\aO (rL rI) B 35 (.slice d71 I.length S) I w/\I.length<=S/\slot V 6= .slice d71 I.length S/\slot V 26= .int .i64 T) fu ?_ ?_
 ·refine ⟨ca,none,0,[],([]:List (List Int)),0,ae,rfl,Ext.refl _,aO.nil _ _ _,Nat.le_refl _,?_⟩;simp only[*,go_sem]
 rintro al g3 F' cf ⟨B,d71,S,w,I,T,ae,rfl,W,U,g4,ha,hc⟩;refine fe hJ fun _ a8=>?_;replace P:=P.mono W;replace K:=K.mono W;replace Q:=a8.hd;replace L:=a8.tl.hd;simp only[bq] at a8;obtain ⟨cl,cu,cy⟩:=cf.pick [1,2,3,4,25] (by decide);simp only[*,go_sem] at cl cu cy;clear cf fx hd gg;obtain _|al:=al
 ·exact absurd ae (by simp only[aU,reduceCtorEq,not_false_eq_true])
 revert ae;refine bS fun na h ao=>?_;unfold xl at h;try dsimp only at h
 refine af hJ ?_;refine aB hJ fun nb=>?_;refine ak hJ ?_;simp only[*,go_sem];refine af hJ ?_;revert h;refine jC hJ (by simp only[*,go_sem]) (fun hf h=>?_) fun hf h=>?_
 ·refine aH hJ (af hJ ?_);refine aN hJ (af hJ ?_);refine aB hJ fun nd=>?_;refine ak hJ ?_;simp only[*,go_sem];refine af hJ ?_;refine aB hJ fun nf=>?_;refine ak hJ ?_;simp only[*,go_sem];refine af hJ ?_;refine aB hJ fun hg=>?_;refine ak hJ ?_;simp only[*,go_sem];refine aA fun z hh cS=>?_;have nm:=aP.cons cS hg;try simp only[au] at cS
  try simp only[*,go_sem]
  refine af hJ ?_;refine aB hJ fun nn=>?_;refine ak hJ ?_;simp only[*,go_sem];refine af hJ (af hJ ?_);refine aB hJ fun np=>?_;refine ak hJ ?_;simp only[*,go_sem];refine aN hJ ?_;revert h;refine bS fun hi R hj=>?_;refine bT hJ [8,10,11,35,36,37,38,39,40,41,42,43,44,45,46,47,48,49,50,51,52,53,54,55,56,57] (fun m V F'=>∃(i109:Nat) (d96:Option Addr) (M:Nat) (X:List (Nat×Obj)) (d103:Option Addr) (u:Nat) (C:List (Nat×Obj)) (D:(List Int)) (g:(List bR)),m=u0.told.length - i109/\i109<=u0.told.length/\bJ (xk T) i109 (u0.told.drop i109) (D,g)=some hi/\F'=⟨B,(z,bl b.1 c d f (sl d103 g u))::(s,bl b.1 c d f q)::(o,bk u0 s1 i j (sl d24 u0.told k))::(X++(C++w))⟩/\aO rI B 3 (.slice d96 D.length M) D X/\D.length<=M/\aO dg B 76 (.slice d103 g.length u) g C/\g.length<=u/\slot V 35= .int .i64 (i109:Int)/\slot V 8= .slice d96 D.length M) u0.told.length ?_ ?_
  ·refine ⟨0,none,0,[],none,0,[],([]:List Int),([]:List bR),(Nat.sub_zero _).symm,Nat.zero_le _,R,rfl,aO.nil _ _ _,Nat.le_refl _,aO.nil _ _ _,Nat.le_refl _,?_⟩;simp only[*,go_sem]
  rintro ns hk F' a9 ⟨i109,d96,M,X,d103,u,C,D,g,rfl,nx,R,rfl,Y,hl,N,hn,nz,nA⟩;obtain ⟨ho,hp,hq⟩:=a9.pick [1,2,3,4,6,7,9,25,26,27,28,29,30,31,32,33,34] (by decide);simp only[*,go_sem] at ho hp hq;have nH:cL [6,7,8,9,10,11,26,27,28,29,30,31,32,33,34,35,36,37,38,39,40,41,42,43,44,45,46,47,48,49,50,51,52,53,54,55,56,57,58,59,60,61,62,63,64,65] hk g3:=(a9.fZ (by decide)).trans (by simp only[*,go_sem]);clear a9 cl cu cy ha hc;refine ah hJ ?_;simp only[*,go_sem];refine af hJ ?_;rcases Nat.lt_or_ge i109 u0.told.length with hr|c0
  ·refine bE hJ (by simp only[*,go_sem]) ?_;refine aH hJ ?_;obtain ⟨a,ba⟩:∃x,u0.told[i109]?=some x:=⟨_,List.getElem?_eq_getElem hr⟩
   rw[dc ba] at R;revert R;refine bS fun nI h ar=>?_;unfold xk at h;(try dsimp only at h);obtain ⟨E,ht,hv,hx,bb⟩:=K.t.el _ _ ba;obtain rfl:ht=a.cells:=hx;cases hv;have hy:=bb 0 _ rfl;simp only[go_sem] at hy;have hz:=bb 1 _ rfl;simp only[go_sem] at hz;clear bb ba;refine af hJ (aN hJ (af hJ ?_));refine aB hJ fun hA=>?_;refine ak hJ ?_;simp only[*,go_sem];refine aA fun F nK da=>?_;have nQ:=aP.cons da hA;try simp only[au] at da
   (try simp only[*,go_sem]);refine af hJ ?_;refine aB hJ fun nR=>?_;refine ak hJ ?_;revert h;refine bS fun nT db h=>?_;obtain ⟨nV,hB⟩:=ES db;clear db;(try simp only[go_sem] at hB);(try simp only[*,go_sem]);revert h;refine jC hJ (by simp only[*,go_sem]) (fun hD h=>?_) fun hD h=>?_
   ·refine aB hJ fun dd=>?_;refine eG hJ mixed [13] (.pure 0 (.pure 1 (.pure 4 (.pure 5 (.rd 6 (.rd 7 (.two 2 (.two 3 (.one 8 (.one 9 (.pure 10 (.pure 11 (.pure 12 (.last 13 .done)))))) 8 (.one 3 (.one 9 (.pure 10 (.pure 11 (.pure 12 (.last 13 .done))))))) 8 (.one 2 (.one 3 (.one 9 (.pure 10 (.pure 11 (.pure 12 (.last 13 .done)))))))))))))) ⟨B,[(F,.cells #[.int .i64 a.aQ,.bool a.bt] 76),(z,bl b.1 c d f (sl d103 g u)),(s,bl b.1 c d f q),(o,bk u0 s1 i j (sl (some E) u0.told k))]⟩ (by simp only[*,go_sem]) (by kernel_rfl) ?_;simp only[*,go_sem];refine jx ?_ ?_
    ·simp only[*,go_sem];refine aA fun O df dk=>?_;have dp:=aP.cons dk dd;try simp only[au] at dk
     (try simp only[*,go_sem]);refine jx ?_ ?_
     ·revert h;refine bS fun hE hF h=>?_;obtain ⟨hG,dq⟩:=dr hF;simp only[*,go_sem];refine dZ (r:=rI) (l:=D) (x:=(i109:Int)) (cs:=#[.int .i64 (i109:Int)]) (e2:=3) [(O,ic (i109:Int)),(F,.cells #[.int .i64 a.aQ,.bool a.bt] 76),(z,bl b.1 c d f (sl d103 g u)),(s,bl b.1 c d f q),(o,bk u0 s1 i j (sl (some E) u0.told k))] (C++w) Y dp hG rfl (by simp only[*,go_sem]) df rfl rfl fK fK kY k3 rfl kZ (by decide) (by decide) (fun nX a0 bc G H hI=>?_);simp only[aX] at H;subst G;rw[<-dq] at bc;clear dq;obtain ⟨d197,hK,rfl,hL⟩:=bc.len;refine ⟨⟨B,(O,ic (i109:Int))::(F,.cells #[.int .i64 a.aQ,.bool a.bt] 76)::(z,bl b.1 c d f (sl d103 g u))::(s,bl b.1 c d f q)::(o,bk u0 s1 i j (sl (some E) u0.told k))::(a0++(C++w))⟩,Le.refl _,?_⟩;refine ⟨by simp only[*,go_sem],bW ?_⟩;revert h;refine bS fun hM hN h=>?_;obtain rfl:=sI h;obtain ⟨hP,ds⟩:=dr hN;(try simp only[*,go_sem]);refine aA fun dt hQ du=>?_;have hR:=aP.cons du hI;try simp only[au] at du
      (try simp only[*,go_sem]);refine dZ (r:=dg) (l:=g) (x:=a) (cs:=#[.int .i64 a.aQ,.bool a.bt]) (e2:=76) ((dt,.cells #[.int .i64 a.aQ,.bool a.bt] 76)::(O,ic (i109:Int))::(F,.cells #[.int .i64 a.aQ,.bool a.bt] 76)::(z,bl b.1 c d f (sl d103 g u))::(s,bl b.1 c d f q)::(o,bk u0 s1 i j (sl (some E) u0.told k))::a0) w N hR hP rfl (by simp only[*,go_sem]) hQ rfl rfl en en iq iu rfl ir (by decide) (by decide) (fun nY dv bd G H n0=>?_);simp only[aX] at H;subst G;rw[<-ds] at bd;clear ds;obtain ⟨d208,hS,rfl,hT⟩:=bd.len;refine ⟨⟨B,(dt,.cells #[.int .i64 a.aQ,.bool a.bt] 76)::(O,ic (i109:Int))::(F,.cells #[.int .i64 a.aQ,.bool a.bt] 76)::(z,bl b.1 c d f (sl d103 g u))::(s,bl b.1 c d f q)::(o,bk u0 s1 i j (sl (some E) u0.told k))::(a0++(dv++w))⟩,Le.refl _,?_⟩;refine ⟨by simp only[*,go_sem],bW ?_⟩;(try simp only[*,go_sem]);have bj:=cq (n:=i109) (by have:=ab;omega);refine ak hJ ?_;simp only[*,go_sem];refine ⟨u0.told.length - (i109+1),by omega,_,Le.sub (List.Sublist.cons _ (List.Sublist.cons _ (List.Sublist.cons _ (List.Sublist.refl _)))),i109+1,d197,hK,a0,d208,hS,dv,hE,hM,rfl,by omega,ar,rfl,bc,hL,bd,hT,?_⟩;simp only[*,go_sem]
     revert h;refine bS fun hV hX h=>?_;obtain ⟨hY,dC⟩:=dr hX;simp only[*,go_sem];refine aA fun a2 hZ dE=>?_;have h0:=aP.cons dE dp;try simp only[au] at dE
     (try simp only[*,go_sem]);refine dZ (r:=rI) (l:=D) (x:=(i109:Int)) (cs:=#[.int .i64 (i109:Int)]) (e2:=3) [(a2,.cells #[.int .i64 a.aQ,.bool a.bt] 76),(O,ic (i109:Int)),(F,.cells #[.int .i64 a.aQ,.bool a.bt] 76),(z,bl b.1 c d f (sl d103 g u)),(s,bl b.1 c d f q),(o,bk u0 s1 i j (sl (some E) u0.told k))] (C++w) Y h0 hY rfl (by simp only[*,go_sem]) df rfl rfl fK fK kY k3 rfl kZ (by decide) (by decide) (fun n1 a3 bm G H h1=>?_);simp only[aX] at H;subst G;rw[<-dC] at bm;clear dC;obtain ⟨d219,h2,rfl,h3⟩:=bm.len;refine ⟨⟨B,(a2,.cells #[.int .i64 a.aQ,.bool a.bt] 76)::(O,ic (i109:Int))::(F,.cells #[.int .i64 a.aQ,.bool a.bt] 76)::(z,bl b.1 c d f (sl d103 g u))::(s,bl b.1 c d f q)::(o,bk u0 s1 i j (sl (some E) u0.told k))::(a3++(C++w))⟩,Le.refl _,?_⟩;refine ⟨by simp only[*,go_sem],bW ?_⟩;revert h;refine bS fun h4 h5 h=>?_;obtain rfl:=sI h;obtain ⟨h6,dT⟩:=dr h5;(try simp only[*,go_sem]);refine dZ (r:=dg) (l:=g) (x:=a) (cs:=#[.int .i64 a.aQ,.bool a.bt]) (e2:=76) ((a2,.cells #[.int .i64 a.aQ,.bool a.bt] 76)::(O,ic (i109:Int))::(F,.cells #[.int .i64 a.aQ,.bool a.bt] 76)::(z,bl b.1 c d f (sl d103 g u))::(s,bl b.1 c d f q)::(o,bk u0 s1 i j (sl (some E) u0.told k))::a3) w N h1 h6 rfl (by simp only[*,go_sem]) hZ rfl rfl en en iq iu rfl ir (by decide) (by decide) (fun n2 ea bo G H n3=>?_);simp only[aX] at H;subst G;rw[<-dT] at bo;clear dT;obtain ⟨d228,h7,rfl,h8⟩:=bo.len;refine ⟨⟨B,(a2,.cells #[.int .i64 a.aQ,.bool a.bt] 76)::(O,ic (i109:Int))::(F,.cells #[.int .i64 a.aQ,.bool a.bt] 76)::(z,bl b.1 c d f (sl d103 g u))::(s,bl b.1 c d f q)::(o,bk u0 s1 i j (sl (some E) u0.told k))::(a3++(ea++w))⟩,Le.refl _,?_⟩;refine ⟨by simp only[*,go_sem],bW ?_⟩;(try simp only[*,go_sem]);have bj:=cq (n:=i109) (by have:=ab;omega);refine ak hJ ?_;simp only[*,go_sem];refine ⟨u0.told.length - (i109+1),by omega,_,Le.sub (List.Sublist.cons _ (List.Sublist.cons _ (List.Sublist.cons _ (List.Sublist.refl _)))),i109+1,d219,h2,a3,d228,h7,ea,hV,h4,rfl,by omega,ar,rfl,bm,h3,bo,h8,?_⟩;simp only[*,go_sem]
    revert h;refine bS fun h9 ib h=>?_;obtain ⟨ih,eb⟩:=dr ib;simp only[*,go_sem];refine aA fun a4 ik ec=>?_;have il:=aP.cons ec dd;try simp only[au] at ec
    (try simp only[*,go_sem]);refine aA fun a5 im ed=>?_;have iv:=aP.cons ed il;try simp only[au] at ed
    (try simp only[*,go_sem]);refine dZ (r:=rI) (l:=D) (x:=(i109:Int)) (cs:=#[.int .i64 (i109:Int)]) (e2:=3) [(a5,ic (i109:Int)),(a4,.cells #[.int .i64 a.aQ,.bool a.bt] 76),(F,.cells #[.int .i64 a.aQ,.bool a.bt] 76),(z,bl b.1 c d f (sl d103 g u)),(s,bl b.1 c d f q),(o,bk u0 s1 i j (sl (some E) u0.told k))] (C++w) Y iv ih rfl (by simp only[*,go_sem]) im rfl rfl fK fK kY k3 rfl kZ (by decide) (by decide) (fun oi a6 br G H ix=>?_);simp only[aX] at H;subst G;rw[<-eb] at br;clear eb;obtain ⟨j1,j2,rfl,kh⟩:=br.len;refine ⟨⟨B,(a5,ic (i109:Int))::(a4,.cells #[.int .i64 a.aQ,.bool a.bt] 76)::(F,.cells #[.int .i64 a.aQ,.bool a.bt] 76)::(z,bl b.1 c d f (sl d103 g u))::(s,bl b.1 c d f q)::(o,bk u0 s1 i j (sl (some E) u0.told k))::(a6++(C++w))⟩,Le.refl _,?_⟩;refine ⟨by simp only[*,go_sem],bW ?_⟩;revert h;refine bS fun kj kk h=>?_;obtain rfl:=sI h;obtain ⟨kl,eh⟩:=dr kk;(try simp only[*,go_sem]);refine dZ (r:=dg) (l:=g) (x:=a) (cs:=#[.int .i64 a.aQ,.bool a.bt]) (e2:=76) ((a5,ic (i109:Int))::(a4,.cells #[.int .i64 a.aQ,.bool a.bt] 76)::(F,.cells #[.int .i64 a.aQ,.bool a.bt] 76)::(z,bl b.1 c d f (sl d103 g u))::(s,bl b.1 c d f q)::(o,bk u0 s1 i j (sl (some E) u0.told k))::a6) w N ix kl rfl (by simp only[*,go_sem]) ik rfl rfl en en iq iu rfl ir (by decide) (by decide) (fun oj et bs G H ox=>?_);simp only[aX] at H;subst G;rw[<-eh] at bs;clear eh;obtain ⟨km,kn,rfl,kp⟩:=bs.len;refine ⟨⟨B,(a5,ic (i109:Int))::(a4,.cells #[.int .i64 a.aQ,.bool a.bt] 76)::(F,.cells #[.int .i64 a.aQ,.bool a.bt] 76)::(z,bl b.1 c d f (sl d103 g u))::(s,bl b.1 c d f q)::(o,bk u0 s1 i j (sl (some E) u0.told k))::(a6++(et++w))⟩,Le.refl _,?_⟩;refine ⟨by simp only[*,go_sem],bW ?_⟩;(try simp only[*,go_sem]);have bj:=cq (n:=i109) (by have:=ab;omega);refine ak hJ ?_;simp only[*,go_sem];refine ⟨u0.told.length - (i109+1),by omega,_,Le.sub (List.Sublist.cons _ (List.Sublist.cons _ (List.Sublist.cons _ (List.Sublist.refl _)))),i109+1,j1,j2,a6,km,kn,et,h9,kj,rfl,by omega,ar,rfl,br,kh,bs,kp,?_⟩;simp only[*,go_sem]
   obtain rfl:=sI h;refine aH hJ ?_;have bj:=cq (n:=i109) (by have:=ab;omega);refine ak hJ ?_;simp only[*,go_sem];refine ⟨u0.told.length - (i109+1),by omega,_,Le.sub (List.Sublist.cons _ (List.Sublist.refl _)),i109+1,d96,M,X,d103,u,C,D,g,rfl,by omega,ar,rfl,Y,hl,N,hn,?_⟩;simp only[*,go_sem]
  have oy:=Nat.not_lt.2 c0;refine bD hJ (by simp only[*,go_sem]) ?_;rw[List.drop_eq_nil_of_le c0] at R;obtain rfl:=sI R;clear R;have h:=hj;dsimp only[aD] at h;refine bN ?_;simp only[go_sem];refine af hJ ?_;refine aB hJ fun ks=>?_;refine ak hJ ?_;revert h;refine bS fun o0 kt h=>?_;simp only[*,go_sem];refine bn hJ _ (A2 (⟨b.1.bH,b.1.bK,b.1.aS,b.1.ax,b.1.props,b.1.av,g⟩:aj) ⟨(P.e.mono aR),(P.p.mono aR),(P.y.mono aR),(N.AP ((z,bl b.1 c d f (sl d103 g u))::(s,bl b.1 c d f q)::(o,bk u0 s1 i j (sl d24 u0.told k))::X) w (by first|rfl|simp only[aX]|(simp only[aX];rfl)) ks)⟩ kt) (aJ ?_);try simp only[*,go_sem]
  revert h;refine jC hJ (by simp only[*,go_sem]) (fun kv h=>?_) fun kv h=>?_
  ·refine aB hJ fun eu=>?_;obtain ⟨ev,bz,Z,eQ,kx⟩:=Y.k7 ((z,bl b.1 c d f (sl d103 g u))::(s,bl b.1 c d f q)::(o,bk u0 s1 i j (sl d24 u0.told k))::(C++w)) [(z,bl b.1 c d f (sl d103 g u)),(s,bl b.1 c d f q),(o,bk u0 s1 i j (sl d24 u0.told k))] (C++w) (by first|rfl|simp only[aX]|(simp only[aX];rfl)) (by first|rfl|simp only[aX]|(simp only[aX];rfl)) eu (aG.cons hh (aG.cons Q (aG.cons L (aG.app N.jv (U.jv)))));clear eu;refine cp hJ kx ?_;obtain ⟨o1,o2,-⟩:=eQ.op;replace Q:=Z.tl.hd;replace L:=Z.tl.tl.hd;replace N:=N.mono bz Z.tl.tl.tl.l;replace U:=U.mono bz Z.tl.tl.tl.r;simp only[bq] at Z;refine aB hJ fun ky=>?_;refine ak hJ ?_;revert h;refine bS fun k0 k2 h=>?_;obtain rfl:=sI h;obtain ⟨lb,eS⟩:=dr k2;simp only[*,go_sem];refine aA fun e0 lh e1=>?_;have lj:=aP.cons e1 ky;try simp only[au] at e1
   (try simp only[*,go_sem]);refine dZ (r:=(rL rI)) (l:=I) (x:=D) (cs:=#[.slice d96 D.length M]) (e2:=35) ((e0,.cells #[.slice d96 D.length M] 35)::(z,bl b.1 c d f (sl d103 g u))::(s,bl b.1 c d f q)::(o,bk u0 s1 i j (sl d24 u0.told k))::C) [] U lj lb ⟨_,rfl,eQ⟩ (by simp only[*,go_sem]) lh rfl rfl k5 k5 rQ rS rfl rR (by decide) (by decide) (fun o4 e3 b0 G H pa=>?_);simp only[aX] at H;subst G;rw[<-eS] at b0;clear eS;obtain ⟨lk,ll,rfl,ln⟩:=b0.len;refine ⟨⟨ev,(e0,.cells #[.slice d96 D.length M] 35)::(z,bl b.1 c d f (sl d103 g u))::(s,bl b.1 c d f q)::(o,bk u0 s1 i j (sl d24 u0.told k))::(C++e3)⟩,Le.refl _,?_⟩;refine aJ ?_;(try simp only[*,go_sem]);refine aB hJ fun pb=>?_;refine ak hJ ?_;simp only[*,go_sem];refine ⟨al,Nat.lt_succ_self _,_,Le.sub (List.Sublist.cons _ (List.Sublist.cons _ (List.Sublist.cons₂ _ (List.Sublist.cons₂ _ ((List.Sublist.refl _).trans (List.sublist_append_right _ _)))))),ev,lk,ll,e3,k0,(IntKind.i64.wrap (T+1)),ao,rfl,(W.trans bz),b0,ln,?_⟩;simp only[*,go_sem]
  obtain rfl:=sI h;refine aH hJ ?_;refine aB hJ fun pd=>?_;refine ak hJ ?_;simp only[*,go_sem];refine ⟨al,Nat.lt_succ_self _,_,Le.sub (List.Sublist.cons _ (List.Sublist.cons₂ _ (List.Sublist.cons₂ _ (((List.Sublist.refl _).trans (List.sublist_append_right _ _)).trans (List.sublist_append_right _ _))))),B,d71,S,w,I,(IntKind.i64.wrap (T+1)),ao,rfl,W,U,g4,?_⟩;simp only[*,go_sem]
 obtain rfl:=sI h;refine bN ?_;simp only[go_sem];obtain rfl:=sI ao;clear ao;have h:=g2;dsimp only[aD] at h;refine af hJ ?_;refine aB hJ fun fa=>?_;obtain ⟨pf,lo,b1,b2,lr⟩:=U.k7 ((s,bl b.1 c d f q)::(o,bk u0 s1 i j (sl d24 u0.told k))::[]) [(s,bl b.1 c d f q),(o,bk u0 s1 i j (sl d24 u0.told k))] [] (by first|rfl|simp only[aX]|(simp only[aX];rfl)) (by first|rfl|simp only[aX]|(simp only[aX];rfl)) fa (aG.cons Q (aG.cons L (aG.nil _)));clear fa;refine cp hJ lr ?_;obtain ⟨ph,pj,-⟩:=b2.op;replace Q:=b1.hd;replace L:=b1.tl.hd;simp only[bq] at b1;refine cP hJ mixed 5 2 (by simp only[*,go_sem]) (by kernel_rfl) ?_;revert h;refine bS fun lv lx h=>?_;obtain ⟨pk,po,fb⟩:=cE lx;obtain ⟨pr,ps,ly,lL,fg⟩:=b2.el _ _ fb;obtain ⟨pt,rfl,fi⟩:=lL;obtain ⟨pv,pw,rfl,px,py,pA⟩:=id fi;cases ly;have l1:=fg 0 _ rfl;simp only[go_sem] at l1;clear fg fb;revert h;refine bS fun l2 l3 h=>?_;obtain ⟨pB,pC,pD,fo⟩:=pq l3;have fp:(1:Int).toNat<=((I.length:Int)).toNat:=by omega
 have l4:((I.length:Int)).toNat<=S:=by omega
 have pL:0<=((I.length:Int)):=by omega
 obtain ⟨pT,ma,mb,fr⟩:=aC.pG b2 (1:Int).toNat ((I.length:Int)).toNat fp (by omega) fo;simp only[go_sem] at ma mb fp l4;obtain ⟨_,_,mf,p0,p1,q0⟩:=id fr;cases mf;clear fo;revert h;refine bS fun q1 mi h=>?_;obtain rfl:=sI h;try simp only[*,go_sem]
 refine b6 hJ _ (Gw (dK:=105) (ee:=#[]) (ef:=#[]) sV ⟨by simp only[go_sem],fun ra rb ml _ mn _ _ mr mx h=>by simp only[go_sem];exact Hp ml mr mn mx h⟩ lv fi l2 fr mi) fun v re fs b3 a7=>?_;obtain ⟨rh,rfl,ft⟩:=a7;replace Q:=b3.hd;replace L:=b3.tl.hd;simp only[bq] at b3;obtain ⟨rk,rl,rfl,rn,rp,-⟩:=id ft;have rr:=eH (l:=[(s,bl b.1 c d f q),(o,bk u0 s1 i j (sl d24 u0.told k))]) fs (aG.cons Q (aG.cons L (aG.nil _)));refine ⟨by simp only[*,go_sem],?_⟩;refine mg ?_;try simp only[*,go_sem]
 refine az ?_;simp only[*,go_sem];exact ⟨_,(((ad).trans W).trans lo).trans fs,Le.sub (List.nil_sublist _),_,rfl,ft⟩
def xo (a:(cR×Int))(i93:Nat)(b:bf)(st:(List bB)):Option (Fl (List bB) (an×an×Bool×Int)):=
 ag (lu a.1.book b) fun c=>ag (c8 st ([c])) fun d=>some (.nx d)
def xp (u0:aj):Option (an×an×Bool×Int):=
 ag (fP u0 ([]:(List (aj->Option Int)))) fun a=>cond ((a.2 != 0)) (some ((⟨0,0⟩:an),(⟨0,0⟩:an),false,a.2)) (ag (s3 a.1) fun g=>ag (bJ (xo a) 0 g ([]:List bB)) fun o=>aD o (fun b=>ag (aY b 0) fun c=>ag (iT b 1 (b.length:Int)) fun d=>ag (mC iX c d) fun h=>ag (mC sk c d) fun i=>ag (jA h.high u0.aS) fun e=>ag (jz i.high u0.aS) fun f=>ag (ep f e) fun j=>cond (j) (some ((⟨0,0⟩:an),(⟨0,0⟩:an),false,0)) (some (e,f,true,0))) (fun _ _=>none) (fun r=>some r))
theorem Hu {ro:Addr->Option Value}(bl:c9 ro)(u0:aj){s1 f g i:Value}(ab:bL ro u0 s1 f g i){r:(an×an×Bool×Int)}(h:xp u0=some r):aE Tryz.prog 31 #[bv u0 s1 f g i] ⟨ro,[]⟩ (fun v _=>v= .tuple #[r.1.v,r.2.1.v,.bool r.2.2.1,.int .i64 r.2.2.2]):=by
 unfold xp at h;have bm:=ab.oc;simp only[bG] at bm;refine aE.go Tryz.func31 rfl Tryz.ntmps31 Tryz.results31 (by simp) fun main J hJ A bo hd hs=>?_;have br:=hs 0;clear hs;refine ah hJ ?_;simp only[*,go_sem];refine aA fun j L bs=>?_;try simp only[au] at bs
 refine aA fun z M bz=>?_;try simp only[au] at bz
 refine aA fun B N b0=>?_;try simp only[au] at b0
 try simp only[*,go_sem]
 refine ah hJ ?_;revert h;refine bS fun d b1 h=>?_;simp only[*,go_sem];refine b6 hJ _ (jF bl u0 ab ([]:(List (aj->Option Int))) (aC.nil _ _) b1) fun v gT gV I O=>?_;obtain ⟨k,o,p,q,s,rfl,D,ad⟩:=O;have b2:=D.oc;simp only[bG] at b2;have b3:=ad.oc;simp only[bG] at b3;replace N:=I.hd;replace M:=I.tl.hd;replace L:=I.tl.tl.hd;simp only[bq] at I;refine aJ ?_;try simp only[*,go_sem]
 refine aA fun t ae b4=>?_;try simp only[au] at b4
 try simp only[*,go_sem]
 refine af hJ (ah hJ ?_);simp only[*,go_sem];revert h;refine jC hJ (by simp only[*,go_sem]) (fun b5 h=>?_) fun b5 h=>?_
 ·obtain rfl:=sI h;refine ah hJ ?_;simp only[*,go_sem];refine az ?_;simp only[*,go_sem]
 refine aH hJ (af hJ ?_);refine ak hJ ?_;simp only[*,go_sem];refine af hJ (ah hJ ?_);revert h;refine bS fun u ca h=>?_;simp only[*,go_sem];refine b6 hJ _ (Ba d.1 D ad ca) fun v P cb E O=>?_;obtain ⟨g0,rfl,al⟩:=O;replace D:=D.mono cb;replace ae:=E.hd;replace N:=E.tl.hd;replace M:=E.tl.tl.hd;replace L:=E.tl.tl.tl.hd;simp only[bq] at E;obtain ⟨d81,g1,rfl,g2,cd,-⟩:=id al;refine aJ ?_;try simp only[*,go_sem]
 refine aN hJ ?_;revert h;refine bS fun cf w cl=>?_;refine bT hJ [7,9,25,26,27,28,29,30,31,32,33,34,35,36] (fun m ao F'=>∃(i93:Nat) (d87:Option Addr) (G:Nat) (Q:List (Nat×Obj)) (e:(List bB)),m=u.length - i93/\i93<=u.length/\bJ (xo d) i93 (u.drop i93) e=some cf/\F'=⟨P,(t,kn d.1 k o p q s)::(B,rt 0 0)::(z,rt 0 0)::(j,bk u0 s1 f g i)::Q⟩/\aO kg P 147 (.slice d87 e.length G) e Q/\e.length<=G/\slot ao 25= .int .i64 (i93:Int)/\slot ao 7= .slice d87 e.length G) u.length ?_ ?_
 ·refine ⟨0,none,0,[],([]:List bB),(Nat.sub_zero _).symm,Nat.zero_le _,w,rfl,aO.nil _ _ _,Nat.le_refl _,?_⟩;simp only[*,go_sem]
 rintro g3 g4 F' ar ⟨i93,d87,G,Q,e,rfl,ha,w,rfl,a0,hc,hf,hg⟩;obtain ⟨cu,cy,cS⟩:=ar.pick [1,2,3,4,5,6,23,24] (by decide);simp only[*,go_sem] at cu cy cS;clear ar bo hd br;refine ah hJ ?_;simp only[*,go_sem];refine af hJ ?_;rcases Nat.lt_or_ge i93 u.length with c0|a2
 ·refine bE hJ (by simp only[*,go_sem]) ?_;refine aH hJ ?_;obtain ⟨C,R⟩:∃x,u[i93]?=some x:=⟨_,List.getElem?_eq_getElem c0⟩
  rw[dc R] at w;revert w;refine bS fun hh h da=>?_;unfold xo at h;try dsimp only at h
  obtain ⟨hi,db,dd,df,S⟩:=al.el _ _ R;obtain rfl:db=C.cells:=df;cases dd;have dk:=S 0 _ rfl;simp only[go_sem] at dk;have dp:=S 1 _ rfl;simp only[go_sem] at dp;clear S R;refine af hJ (aN hJ (af hJ ?_));refine aB hJ fun dq=>?_;refine ak hJ ?_;simp only[*,go_sem];refine aA fun a3 hj a4=>?_;have hk:=aP.cons a4 dq;try simp only[au] at a4
  try simp only[*,go_sem]
  refine aB hJ fun ds=>?_;refine ak hJ ?_;revert h;refine bS fun a dt h=>?_;simp only[*,go_sem];refine bn hJ _ (sx d.1.book (D.mono aR) C dt) (aJ ?_);revert h;refine bS fun du dv h=>?_;obtain rfl:=sI h;obtain ⟨dC,a5⟩:=dr dv;try simp only[*,go_sem]
  refine aA fun a6 dE a7=>?_;have dT:=aP.cons a7 ds;try simp only[au] at a7
  try simp only[*,go_sem]
  refine dZ (r:=kg) (l:=e) (x:=a) (cs:=#[.int .i64 a.spot.aL,.int .i64 a.spot.high.num,.int .i64 a.spot.high.den,.int .i64 a.at_,.int .i64 a.high.num,.int .i64 a.high.den]) (e2:=147) [(a6,.cells #[.int .i64 a.spot.aL,.int .i64 a.spot.high.num,.int .i64 a.spot.high.den,.int .i64 a.at_,.int .i64 a.high.num,.int .i64 a.high.den] 147),(a3,.cells #[.int .i64 C.back,.int .i64 C.high] 134),(t,kn d.1 k o p q s),(B,rt 0 0),(z,rt 0 0),(j,bk u0 s1 f g i)] [] a0 dT dC rfl (by simp only[*,go_sem]) dE rfl rfl nD nD vu vw rfl vv (by decide) (by decide) (fun hl a8 T ea eb hn=>?_);simp only[aX] at eb;subst ea;rw[<-a5] at T;clear a5;obtain ⟨d115,ec,rfl,ed⟩:=T.len;refine ⟨⟨P,(a6,.cells #[.int .i64 a.spot.aL,.int .i64 a.spot.high.num,.int .i64 a.spot.high.den,.int .i64 a.at_,.int .i64 a.high.num,.int .i64 a.high.den] 147)::(a3,.cells #[.int .i64 C.back,.int .i64 C.high] 134)::(t,kn d.1 k o p q s)::(B,rt 0 0)::(z,rt 0 0)::(j,bk u0 s1 f g i)::a8⟩,Le.refl _,?_⟩;refine aJ ?_;try simp only[*,go_sem]
  have ho:=cq (n:=i93) (by have:=cd;omega);refine ak hJ ?_;simp only[*,go_sem];refine ⟨u.length - (i93+1),by omega,_,Le.sub (List.Sublist.cons _ (List.Sublist.cons _ (List.Sublist.refl _))),i93+1,d115,ec,a8,du,rfl,by omega,da,rfl,T,ed,?_⟩;simp only[*,go_sem]
 have hp:=Nat.not_lt.2 a2;refine bD hJ (by simp only[*,go_sem]) ?_;rw[List.drop_eq_nil_of_le a2] at w;obtain rfl:=sI w;clear w;have h:=cl;dsimp only[aD] at h;refine bN ?_;simp only[go_sem];refine af hJ ?_;refine aB hJ fun a9=>?_;obtain ⟨K,hq,eh,U,et⟩:=a0.e4 [(t,kn d.1 k o p q s),(B,rt 0 0),(z,rt 0 0),(j,bk u0 s1 f g i)] [] a9 (aG.cons ae (aG.cons N (aG.cons M (aG.cons L (aG.nil _)))));clear a9;refine cp hJ et ?_;obtain ⟨hr,ht,-⟩:=U.op;simp only[bq] at eh;refine fc hJ mixed 6 ⟨K,[(t,kn d.1 k o p q s),(B,rt 0 0),(z,rt 0 0),(j,bk u0 s1 f g i)]⟩ (by simp only[*,go_sem]) (by kernel_rfl) ?_;revert h;refine bS fun V eu h=>?_;obtain ⟨hv,hx,ba⟩:=cE eu;obtain ⟨hy,ev,eQ,eS,y⟩:=U.el _ _ ba;obtain rfl:ev=V.cells:=eS;cases eQ;have e0:=y 0 _ rfl;simp only[go_sem] at e0;have e1:=y 1 _ rfl;simp only[go_sem] at e1;have e3:=y 2 _ rfl;simp only[go_sem] at e3;have fa:=y 3 _ rfl;simp only[go_sem] at fa;have fb:=y 4 _ rfl;simp only[go_sem] at fb;have fg:=y 5 _ rfl;simp only[go_sem] at fg;clear y ba;revert h;refine bS fun bb fi h=>?_;obtain ⟨hz,hA,hB,bc⟩:=pq fi;have bd:(1:Int).toNat<=((e.length:Int)).toNat:=by omega
 have fo:((e.length:Int)).toNat<=G:=by omega
 have hD:0<=((e.length:Int)):=by omega
 obtain ⟨d132,fp,fr,W⟩:=aC.pG U (1:Int).toNat ((e.length:Int)).toNat bd (by omega) bc;simp only[go_sem] at fp fr bd fo;obtain ⟨_,_,fs,hE,hF,hG⟩:=id W;cases fs;clear bc;revert h;refine bS fun b ft h=>?_;try simp only[*,go_sem]
 refine ⟨_,bC hJ fun F H=>sj (dK:=88) (ee:=#[]) (ef:=#[]) iX ⟨by simp only[go_sem],fun fu fv X Y _ h=>by simp only[go_sem];exact r9 X Y h⟩ V bb (W.mono (b9 H)) ft,?_⟩;try simp only[*,go_sem]
 refine aA fun Z hI fw=>?_;try simp only[au] at fw
 try simp only[*,go_sem]
 refine af hJ ?_;refine fc hJ mixed 6 ⟨K,[(Z,.cells #[.int .i64 b.spot.aL,.int .i64 b.spot.high.num,.int .i64 b.spot.high.den,.int .i64 b.at_,.int .i64 b.high.num,.int .i64 b.high.den] 147),(t,kn d.1 k o p q s),(B,rt 0 0),(z,rt 0 0),(j,bk u0 s1 f g i)]⟩ (by simp only[*,go_sem]) (by kernel_rfl) ?_;revert h;refine bS fun c fx h=>?_;simp only[*,go_sem];refine ⟨_,bC hJ fun F H=>sj (dK:=89) (ee:=#[]) (ef:=#[]) sk ⟨by simp only[go_sem],fun fu fv X Y _ h=>by simp only[go_sem];exact Gm X Y h⟩ V bb (W.mono (b9 H)) fx,?_⟩;try simp only[*,go_sem]
 refine aA fun bj hK gg=>?_;try simp only[au] at gg
 try simp only[*,go_sem]
 refine af hJ ?_;refine fc hJ mixed 10 ⟨K,[(bj,.cells #[.int .i64 c.spot.aL,.int .i64 c.spot.high.num,.int .i64 c.spot.high.den,.int .i64 c.at_,.int .i64 c.high.num,.int .i64 c.high.den] 147),(Z,.cells #[.int .i64 b.spot.aL,.int .i64 b.spot.high.num,.int .i64 b.spot.high.den,.int .i64 b.at_,.int .i64 b.high.num,.int .i64 b.high.den] 147),(t,kn d.1 k o p q s),(j,bk u0 s1 f g i)]⟩ (by simp only[*,go_sem]) (by kernel_rfl) ?_;revert h;refine bS fun gl gn h=>?_;simp only[*,go_sem];refine ⟨_,bC hJ fun F H=>pY b.high u0.aS gn,b7 ?_⟩;revert h;refine bS fun gp gB h=>?_;try simp only[*,go_sem]
 refine ⟨_,bC hJ fun F H=>pX c.high u0.aS gB,?_⟩;try simp only[*,go_sem]
 refine af hJ (ah hJ ?_);revert h;refine bS fun hL gC h=>?_;simp only[*,go_sem];refine bn hJ _ (iW gp gl gC) ?_;try simp only[*,go_sem]
 revert h;refine jC hJ (by simp only[*,go_sem]) (fun gM h=>?_) fun gM h=>?_
 ·obtain rfl:=sI h;refine ah hJ ?_;simp only[*,go_sem];refine az ?_;simp only[*,go_sem]
 refine aH hJ (af hJ ?_);refine eG hJ mixed [] (.two 0 (.two 1 (.one 2 (.one 3 (.pure 4 (.pure 5 .done)))) 2 (.one 1 (.one 3 (.pure 4 (.pure 5 .done))))) 1 (.one 0 (.one 2 (.one 3 (.pure 4 (.pure 5 .done)))))) ⟨K,[(bj,.cells #[.int .i64 c.spot.aL,.int .i64 c.spot.high.num,.int .i64 c.spot.high.den,.int .i64 c.at_,.int .i64 c.high.num,.int .i64 c.high.den] 147),(Z,.cells #[.int .i64 b.spot.aL,.int .i64 b.spot.high.num,.int .i64 b.spot.high.den,.int .i64 b.at_,.int .i64 b.high.num,.int .i64 b.high.den] 147),(t,kn d.1 k o p q s),(j,bk u0 s1 f g i)]⟩ (by simp only[*,go_sem]) (by kernel_rfl) ?_;simp only[*,go_sem];refine jx ?_ ?_
 ·simp only[*,go_sem];refine jx ?_ ?_
  ·obtain rfl:=sI h;simp only[*,go_sem];refine az ?_;simp only[*,go_sem]
  obtain rfl:=sI h;simp only[*,go_sem];refine az ?_;simp only[*,go_sem]
 obtain rfl:=sI h;simp only[*,go_sem];refine az ?_;simp only[*,go_sem]
def jI (u0:aj)(b:Int):Option ((List Int)×Int):=
 ag (fP u0 ([(eN b)])) fun a=>cond ((a.2 != 0)) (some (([]:(List Int)),a.2)) (ag (lC a.1 b) fun c=>some (c,0))
theorem qh {ro:Addr->Option Value}(g:c9 ro)(u0:aj){s1 i j k:Value}(f:bL ro u0 s1 i j k)(a:Int){r:((List Int)×Int)}(h:jI u0 a=some r):eL Tryz.prog 15 #[bv u0 s1 i j k,.int .i64 a] ro (fun v aM=>∃m,v= .tuple #[m,.int .i64 r.2]/\aC rI aM m r.1):=by
 unfold jI at h;have D:=f.oc;simp only[bG] at D;refine aE.go Tryz.func15 rfl Tryz.ntmps15 Tryz.results15 (by simp) fun main J hJ A Y hd hs=>?_;have Z:=hs 0;have k1:=hs 1;clear hs;refine ah hJ ?_;simp only[*,go_sem];refine aA fun E F G=>?_;try simp only[au] at G
 try simp only[*,go_sem]
 refine af hJ ?_;refine aB hJ fun H=>?_;refine ak hJ ?_;revert h;refine bS fun I K h=>?_;simp only[*,go_sem];refine aA fun c n p=>?_;have q:=aP.cons p H;try simp only[au] at p
 try simp only[*,go_sem]
 obtain ⟨d,s,t⟩:=fM (b:=c) (o:=(.cells #[.func (.func 68) #[.int .i64 a] #[]] 127)) [] ((E,bk u0 s1 i j k)::[]) q n (aG.cons F (aG.nil _));have u:aC (c6) (bU ro c (.cells #[.func (.func 68) #[.int .i64 a] #[]] 127)) (.slice (some ⟨c,0,none⟩) 1 1) [(eN a)]:=(aC.one (r:=(c6)) (e:=127) (cs:=#[.func (.func 68) #[.int .i64 a] #[]]) (x:=(eN a)) (own:=[(c,.cells #[.func (.func 68) #[.int .i64 a] #[]] 127)]) n (by simp[lk]) ⟨68,#[.int .i64 a],#[],rfl,⟨by simp only[go_sem],fun ab ad L _ _ _ _ _ M N O P h=>by simp only[go_sem];exact si a L ⟨M,N,O,P⟩ h⟩⟩)
 generalize bU ro c (.cells #[.func (.func 68) #[.int .i64 a] #[]] 127)=ae at u s d t;refine gR hJ t ?_;replace f:=f.mono d;replace g:=g.mono d;simp only[bq] at s;have Q:=aP.tl q;refine b6 hJ _ (jF g u0 f ([(eN a)]) u K) fun v al w R l=>?_;obtain ⟨ao,ar,a0,a2,a3,rfl,y,z⟩:=l;have S:=y.oc;simp only[bG] at S;have T:=z.oc;simp only[bG] at T;simp only[bq] at R;refine aJ ?_;try simp only[*,go_sem]
 refine aA fun a4 a5 B=>?_;have a6:=aP.cons B Q;try simp only[au] at B
 try simp only[*,go_sem]
 refine af hJ (ah hJ ?_);simp only[*,go_sem];revert h;refine jC hJ (by simp only[*,go_sem]) (fun U h=>?_) fun U h=>?_
 ·obtain rfl:=sI h;refine ah hJ ?_;simp only[*,go_sem];refine az ?_;simp only[*,go_sem];exact ⟨_,(d).trans w,Le.sub (List.nil_sublist _),_,rfl,aC.nil _ _⟩
 refine aH hJ (af hJ ?_);refine ak hJ ?_;revert h;refine bS fun a7 V h=>?_;obtain rfl:=sI h;simp only[*,go_sem];refine b6 hJ _ (s0 I.1 y z a V) fun v a8 W X l=>?_;obtain ⟨a9,rfl,C⟩:=l;simp only[bq] at X;obtain ⟨d89,ba,rfl,bb,bc,-⟩:=id C;refine aJ ?_;try simp only[*,go_sem]
 refine az ?_;simp only[*,go_sem];exact ⟨_,((d).trans w).trans W,Le.sub (List.nil_sublist _),_,rfl,C⟩
def xq (a:(cR×Int))(i80:Nat)(i102:Nat)(c:Int)(st:(Int×an)):Option (Fl (Int×an) (Int×an×Int)):=
 ag (gX a.1.book (i80:Int) c) fun b=>ag (gh a.1.book b) fun d=>cond (d) (ag (kr a.1.book b) fun e=>ag (ep st.2 e) fun f=>cond (f) (ag (kr a.1.book b) fun g=>some (.nx ((i80:Int),g))) (some (.nx (st.1,st.2)))) (some (.nx (st.1,st.2)))
def xu (a:(cR×Int))(i80:Nat)(d:bO)(st:(Int×an)):Option (Fl (Int×an) (Int×an×Int)):=
 ag (lC a.1 (i80:Int)) fun c=>ag (bJ (xq a i80) 0 c (st.1,st.2)) fun o=>aD o (fun b=>some (.nx (b.1,b.2))) (fun _ _=>none) (fun r=>some (.rt r))
def s4 (u0:aj):Option (Int×an×Int):=
 ag (fP u0 ([]:(List (aj->Option Int)))) fun a=>cond ((a.2 != 0)) (some (0,(⟨0,0⟩:an),a.2)) (ag (gd 0) fun c=>ag (bJ (xu a) 0 a.1.book.av ((-1),c)) fun o=>aD o (fun b=>some (b.1,b.2,0)) (fun _ _=>none) (fun r=>some r))
theorem Bc {ro:Addr->Option Value}(ar:c9 ro)(u0:aj){s1 j k l:Value}(R:bL ro u0 s1 j k l){r:(Int×an×Int)}(h:s4 u0=some r):aE Tryz.prog 26 #[bv u0 s1 j k l] ⟨ro,[]⟩ (fun v _=>v= .tuple #[.int .i64 r.1,r.2.1.v,.int .i64 r.2.2]):=by
 unfold s4 at h;have a0:=R.oc;simp only[bG] at a0;refine aE.go Tryz.func26 rfl Tryz.ntmps26 Tryz.results26 (by simp) fun main J hJ A a2 hd hs=>?_;have a3:=hs 0;clear hs;refine ah hJ ?_;simp only[*,go_sem];refine aA fun w et a4=>?_;try simp only[au] at a4
 refine aA fun z eu a5=>?_;try simp only[au] at a5
 try simp only[*,go_sem]
 refine ah hJ ?_;revert h;refine bS fun a a6 h=>?_;simp only[*,go_sem];refine b6 hJ _ (jF ar u0 R ([]:(List (aj->Option Int))) (aC.nil _ _) a6) fun v S ev a7 B=>?_;obtain ⟨C,D,eQ,E,G,rfl,b,p⟩:=B;have a8:=b.oc;simp only[bG] at a8;have a9:=p.oc;simp only[bG] at a9;simp only[bq] at a7;obtain ⟨d52,H,rfl,eS,ba,-⟩:=id b.y;refine aJ ?_;try simp only[*,go_sem]
 refine aA fun I e0 bb=>?_;try simp only[au] at bb
 try simp only[*,go_sem]
 refine af hJ (ah hJ ?_);simp only[*,go_sem];revert h;refine jC hJ (by simp only[*,go_sem]) (fun bc h=>?_) fun bc h=>?_
 ·obtain rfl:=sI h;refine ah hJ ?_;simp only[*,go_sem];refine az ?_;simp only[*,go_sem]
 refine aH hJ (af hJ ?_);refine ak hJ ?_;revert h;refine bS fun bd bj h=>?_;simp only[*,go_sem];refine bn hJ _ (jy 0 bj) (aJ ?_);try simp only[*,go_sem]
 refine af hJ (ah hJ ?_);simp only[*,go_sem];refine aN hJ ?_;revert h;refine bS fun bl e bm=>?_;refine bT hJ [2,6,8,9,25,26,27,28,29,30,31,32,33,34,35,36,37,38,39,40,41,42,43,44,45,46,47,48,49,50,51,52,53,54,55,56,57,58,59] (fun m o F'=>∃(i80:Nat) (q:Addr->Option Value) (s:Int) (f:an),m=a.1.book.av.length - i80/\i80<=a.1.book.av.length/\bJ (xu a) i80 (a.1.book.av.drop i80) (s,f)=some bl/\F'=⟨q,(I,kn a.1 C D (sl d52 a.1.book.av H) E G)::(z,rt f.num f.den)::(w,bk u0 s1 j k l)::[]⟩/\Ext S q/\slot o 25= .int .i64 (i80:Int)/\slot o 2= .int .i64 s) a.1.book.av.length ?_ ?_
 ·refine ⟨0,S,(-1),bd,(Nat.sub_zero _).symm,Nat.zero_le _,e,rfl,Ext.refl _,?_⟩;simp only[*,go_sem]
 rintro e1 bo F' T ⟨i80,q,s,f,rfl,e2,e,rfl,K,br,bs⟩;refine fe hJ fun _ bz=>?_;replace b:=b.mono K;replace p:=p.mono K;simp only[bq] at bz;obtain ⟨U,V,W⟩:=T.pick [3,4,5,24] (by decide);simp only[*,go_sem] at U V W;clear T a2 hd a3;refine ah hJ ?_;simp only[*,go_sem];refine af hJ ?_;rcases Nat.lt_or_ge i80 a.1.book.av.length with b0|X
 ·refine bE hJ (by simp only[*,go_sem]) ?_;refine aH hJ ?_;obtain ⟨b1,L⟩:∃x,a.1.book.av[i80]?=some x:=⟨_,List.getElem?_eq_getElem b0⟩
  rw[dc L] at e;revert e;refine bS fun e3 h b2=>?_;unfold xu at h;try dsimp only at h
  obtain ⟨b3,b4,b5,ca,t⟩:=b.y.el _ _ L;obtain rfl:b4=b1.cells:=ca;cases b5;have cb:=t 0 _ rfl;simp only[go_sem] at cb;have cd:=t 1 _ rfl;simp only[go_sem] at cd;have cf:=t 2 _ rfl;simp only[go_sem] at cf;clear t L;refine af hJ (aN hJ (af hJ ?_));refine ak hJ ?_;simp only[*,go_sem];refine ah hJ ?_;revert h;refine bS fun c cl h=>?_;simp only[*,go_sem];refine b6 hJ _ (s0 a.1 b p (i80:Int) cl) fun v Y Z cu B=>?_;obtain ⟨fa,rfl,ab⟩:=B;replace b:=b.mono Z;simp only[bq] at cu;obtain ⟨d95,fb,rfl,fg,M,-⟩:=id ab;refine aJ ?_;try simp only[*,go_sem]
  refine aN hJ ?_;revert h;refine bS fun cy g c0=>?_;refine bT hJ [2,8,9,32,33,34,35,36,37,38,39,40,41,42,43,44,45,46,47,48,49,50,51,52,53,54,55,56,57,58] (fun m o F'=>∃(i102:Nat) (i:Int) (d:an),m=c.length - i102/\i102<=c.length/\bJ (xq a i80) i102 (c.drop i102) (i,d)=some cy/\F'=⟨Y,(I,kn a.1 C D (sl (some b3) a.1.book.av H) E G)::(z,rt d.num d.den)::(w,bk u0 s1 j k l)::[]⟩/\slot o 32= .int .i64 (i102:Int)/\slot o 2= .int .i64 i) c.length ?_ ?_
  ·refine ⟨0,s,f,(Nat.sub_zero _).symm,Nat.zero_le _,g,rfl,?_⟩;simp only[*,go_sem]
  rintro fi da F' N ⟨i102,i,d,rfl,fo,g,rfl,fp,fr⟩;obtain ⟨db,dd,df⟩:=N.pick [3,4,5,6,24,25,26,27,28,29,30,31] (by decide);simp only[*,go_sem] at db dd df;have fs:cL [2,6,8,9,25,26,27,28,29,30,31,32,33,34,35,36,37,38,39,40,41,42,43,44,45,46,47,48,49,50,51,52,53,54,55,56,57,58,59] da bo:=(N.fZ (by decide)).trans (by simp only[*,go_sem]);clear N U V W bs br;refine ah hJ ?_;simp only[*,go_sem];refine af hJ ?_;rcases Nat.lt_or_ge i102 c.length with dk|ad
  ·refine bE hJ (by simp only[*,go_sem]) ?_;refine aH hJ ?_;obtain ⟨ae,O⟩:∃x,c[i102]?=some x:=⟨_,List.getElem?_eq_getElem dk⟩
   rw[dc O] at g;revert g;refine bS fun ft h P=>?_;unfold xq at h;(try dsimp only at h);obtain ⟨fu,dp,dq,ds,al⟩:=ab.el _ _ O;obtain rfl:dp=[.int .i64 ae]:=ds;cases dq;have dt:=al 0 _ rfl;simp only[go_sem] at dt;clear al O;refine af hJ (aN hJ (af hJ ?_));refine ak hJ ?_;simp only[*,go_sem];refine ah hJ ?_;revert h;refine bS fun Q du h=>?_;simp only[*,go_sem];refine bn hJ _ (mB a.1.book (b.mono aR) (i80:Int) ae du) (aJ ?_);(try simp only[*,go_sem]);refine aA fun fv fw dv=>?_;try simp only[au] at dv
   (try simp only[*,go_sem]);refine af hJ ?_;refine cP hJ mixed 12 4 (by simp only[*,go_sem]) (by kernel_rfl) ?_;revert h;refine bS fun fx dC h=>?_;simp only[*,go_sem];refine ⟨_,bC hJ fun F u=>mK a.1.book (b.mono (b9 u)) Q dC,b7 ?_⟩;revert h;refine cS (fun dE h=>?_) fun dE h=>?_
   ·revert h;refine bS fun dT ea h=>?_;(try simp only[*,go_sem]);refine ⟨_,bC hJ fun F u=>sA a.1.book (b.mono (b9 u)) Q ea,b7 ?_⟩;revert h;refine bS fun gg eb h=>?_;(try simp only[*,go_sem]);refine ⟨_,bC hJ fun F u=>iW d dT eb,b7 ?_⟩;(try simp only[*,go_sem]);revert h;refine jC hJ (by simp only[*,go_sem]) (fun ec h=>?_) fun ec h=>?_
    ·refine ak hJ ?_;revert h;refine bS fun ed eh h=>?_;obtain rfl:=sI h;simp only[*,go_sem];refine bn hJ _ (sA a.1.book (b.mono aR) Q eh) (aJ ?_);(try simp only[*,go_sem]);have ao:=cq (n:=i102) (by have:=M;omega);refine ak hJ ?_;simp only[*,go_sem];refine ⟨c.length - (i102+1),by omega,_,Le.sub (List.Sublist.cons _ (List.Sublist.refl _)),i102+1,(i80:Int),ed,rfl,by omega,P,rfl,?_⟩;simp only[*,go_sem]
    obtain rfl:=sI h;refine aH hJ ?_;have ao:=cq (n:=i102) (by have:=M;omega);refine ak hJ ?_;simp only[*,go_sem];refine ⟨c.length - (i102+1),by omega,_,Le.sub (List.Sublist.cons _ (List.Sublist.refl _)),i102+1,i,d,rfl,by omega,P,rfl,?_⟩;simp only[*,go_sem]
   obtain rfl:=sI h;(try simp only[*,go_sem]);refine bD hJ (by simp only[*,go_sem]) ?_;refine aH hJ ?_;have ao:=cq (n:=i102) (by have:=M;omega);refine ak hJ ?_;simp only[*,go_sem];refine ⟨c.length - (i102+1),by omega,_,Le.sub (List.Sublist.cons _ (List.Sublist.refl _)),i102+1,i,d,rfl,by omega,P,rfl,?_⟩;simp only[*,go_sem]
  have gl:=Nat.not_lt.2 ad;refine bD hJ (by simp only[*,go_sem]) ?_;rw[List.drop_eq_nil_of_le ad] at g;obtain rfl:=sI g;clear g;have h:=c0;dsimp only[aD] at h;obtain rfl:=sI h;refine bN ?_;simp only[go_sem];have gn:=cq (n:=i80) (by have:=ba;omega);refine ak hJ ?_;simp only[*,go_sem];refine ⟨a.1.book.av.length - (i80+1),by omega,_,Le.sub (List.Sublist.refl _),i80+1,Y,i,d,rfl,by omega,b2,rfl,(K.trans Z),?_⟩;simp only[*,go_sem]
 have gp:=Nat.not_lt.2 X;refine bD hJ (by simp only[*,go_sem]) ?_;rw[List.drop_eq_nil_of_le X] at e;obtain rfl:=sI e;clear e;have h:=bm;dsimp only[aD] at h;obtain rfl:=sI h;refine bN ?_;simp only[go_sem];refine af hJ ?_;refine eG hJ mixed [3,4] (.pure 0 (.rd 1 (.pure 2 (.last 3 (.pure 4 .done))))) ⟨q,[(I,kn a.1 C D (sl d52 a.1.book.av H) E G),(z,rt f.num f.den),(w,bk u0 s1 j k l)]⟩ (by simp only[*,go_sem]) (by kernel_rfl) ?_;simp only[*,go_sem];refine az ?_;simp only[*,go_sem]
def ob (b:Int)(a:(cR×Int))(i103:Nat)(c:Int)(st:(List an)):Option (Fl (List an) (an×an×Int)):=
 ag (gX a.1.book b c) fun d=>ag (mH a.1.book d) fun e=>ag (c8 st ([e])) fun f=>some (.nx f)
def mO (u0:aj)(b:Int):Option (an×an×Int):=
 ag (fP u0 ([(eN b)])) fun a=>cond ((a.2 != 0)) (some ((⟨0,0⟩:an),(⟨0,0⟩:an),a.2)) (ag (lC a.1 b) fun f=>ag (bJ (ob b a) 0 f ([]:List an)) fun o=>aD o (fun c=>ag (aY c 0) fun d=>ag (iT c 1 (c.length:Int)) fun e=>ag (fO mD d e) fun g=>ag (fO ep d e) fun h=>some (g,h,0)) (fun _ _=>none) (fun r=>some r))
theorem Be {ro:Addr->Option Value}(S:c9 ro)(u0:aj){s1 f g i:Value}(P:bL ro u0 s1 f g i)(a:Int){r:(an×an×Int)}(h:mO u0 a=some r):aE Tryz.prog 21 #[bv u0 s1 f g i,.int .i64 a] ⟨ro,[]⟩ (fun v _=>v= .tuple #[r.1.v,r.2.1.v,.int .i64 r.2.2]):=by
 unfold mO at h;have b3:=P.oc;simp only[bG] at b3;refine aE.go Tryz.func21 rfl Tryz.ntmps21 Tryz.results21 (by simp) fun main J hJ A b4 hd hs=>?_;have b5:=hs 0;have k1:=hs 1;clear hs;refine ah hJ ?_;simp only[*,go_sem];refine aA fun j G ca=>?_;try simp only[au] at ca
 refine aA fun t H cb=>?_;try simp only[au] at cb
 refine aA fun u I cd=>?_;try simp only[au] at cd
 try simp only[*,go_sem]
 refine af hJ ?_;refine aB hJ fun cf=>?_;refine ak hJ ?_;revert h;refine bS fun d cl h=>?_;simp only[*,go_sem];refine aA fun K al ao=>?_;have ar:=aP.cons ao cf;try simp only[au] at ao
 try simp only[*,go_sem]
 obtain ⟨T,L,a0⟩:=fM (b:=K) (o:=(.cells #[.func (.func 68) #[.int .i64 a] #[]] 127)) [] ((u,rt 0 0)::(t,rt 0 0)::(j,bk u0 s1 f g i)::[]) ar al (aG.cons I (aG.cons H (aG.cons G (aG.nil _))));have a2:aC (c6) (bU ro K (.cells #[.func (.func 68) #[.int .i64 a] #[]] 127)) (.slice (some ⟨K,0,none⟩) 1 1) [(eN a)]:=(aC.one (r:=(c6)) (e:=127) (cs:=#[.func (.func 68) #[.int .i64 a] #[]]) (x:=(eN a)) (own:=[(K,.cells #[.func (.func 68) #[.int .i64 a] #[]] 127)]) al (by simp[lk]) ⟨68,#[.int .i64 a],#[],rfl,⟨by simp only[go_sem],fun a3 a4 M _ _ _ _ _ cu cy cS c0 h=>by simp only[go_sem];exact si a M ⟨cu,cy,cS,c0⟩ h⟩⟩)
 generalize bU ro K (.cells #[.func (.func 68) #[.int .i64 a] #[]] 127)=gT at a2 L T a0;refine gR hJ a0 ?_;replace P:=P.mono T;replace I:=L.hd;replace H:=L.tl.hd;replace G:=L.tl.tl.hd;replace S:=S.mono T;simp only[bq] at L;have da:=aP.tl ar;refine b6 hJ _ (jF S u0 P ([(eN a)]) a2 cl) fun v gV g0 Q U=>?_;obtain ⟨w,y,z,B,C,rfl,D,a5⟩:=U;have db:=D.oc;simp only[bG] at db;have dd:=a5.oc;simp only[bG] at dd;replace I:=Q.hd;replace H:=Q.tl.hd;replace G:=Q.tl.tl.hd;simp only[bq] at Q;refine aJ ?_;try simp only[*,go_sem]
 refine aA fun E a6 a7=>?_;have g1:=aP.cons a7 da;try simp only[au] at a7
 try simp only[*,go_sem]
 refine af hJ (ah hJ ?_);simp only[*,go_sem];revert h;refine jC hJ (by simp only[*,go_sem]) (fun df h=>?_) fun df h=>?_
 ·obtain rfl:=sI h;refine ah hJ ?_;simp only[*,go_sem];refine az ?_;simp only[*,go_sem]
 refine aH hJ (af hJ ?_);refine ak hJ ?_;simp only[*,go_sem];refine af hJ (ah hJ ?_);revert h;refine bS fun k dk h=>?_;simp only[*,go_sem];refine b6 hJ _ (s0 d.1 D a5 a dk) fun v R dp N U=>?_;obtain ⟨g2,rfl,a8⟩:=U;replace D:=D.mono dp;replace a6:=N.hd;replace I:=N.tl.hd;replace H:=N.tl.tl.hd;replace G:=N.tl.tl.tl.hd;simp only[bq] at N;obtain ⟨d91,g3,rfl,g4,dq,-⟩:=id a8;refine aJ ?_;try simp only[*,go_sem]
 refine aN hJ ?_;revert h;refine bS fun ds p dt=>?_;refine bT hJ [8,10,29,30,31,32,33,34,35,36,37,38,39,40,41,42,43,44] (fun m a9 F'=>∃(i103:Nat) (d97:Option Addr) (O:Nat) (V:List (Nat×Obj)) (c:(List an)),m=k.length - i103/\i103<=k.length/\bJ (ob a d) i103 (k.drop i103) c=some ds/\F'=⟨R,(E,kn d.1 w y z B C)::(u,rt 0 0)::(t,rt 0 0)::(j,bk u0 s1 f g i)::V⟩/\aO k8 R 23 (.slice d97 c.length O) c V/\c.length<=O/\slot a9 29= .int .i64 (i103:Int)/\slot a9 8= .slice d97 c.length O) k.length ?_ ?_
 ·refine ⟨0,none,0,[],([]:List an),(Nat.sub_zero _).symm,Nat.zero_le _,p,rfl,aO.nil _ _ _,Nat.le_refl _,?_⟩;simp only[*,go_sem]
 rintro ha hc F' ba ⟨i103,d97,O,V,c,rfl,hf,p,rfl,bb,hg,hh,hi⟩;obtain ⟨du,dv,dC⟩:=ba.pick [1,4,5,6,7,27,28] (by decide);simp only[*,go_sem] at du dv dC;clear ba b4 hd b5 k1;refine ah hJ ?_;simp only[*,go_sem];refine af hJ ?_;rcases Nat.lt_or_ge i103 k.length with dE|bc
 ·refine bE hJ (by simp only[*,go_sem]) ?_;refine aH hJ ?_;obtain ⟨bd,W⟩:∃x,k[i103]?=some x:=⟨_,List.getElem?_eq_getElem dE⟩
  rw[dc W] at p;revert p;refine bS fun hj h dT=>?_;unfold ob at h;try dsimp only at h
  obtain ⟨hk,ea,eb,ec,bj⟩:=a8.el _ _ W;obtain rfl:ea=[.int .i64 bd]:=ec;cases eb;have ed:=bj 0 _ rfl;simp only[go_sem] at ed;clear bj W;refine af hJ (aN hJ (af hJ ?_));refine aB hJ fun hl=>?_;refine ak hJ ?_;simp only[*,go_sem];refine aB hJ fun eh=>?_;refine fc hJ mixed 9 ⟨R,[(E,kn d.1 w y z B C),(u,rt 0 0),(t,rt 0 0),(j,bk u0 s1 f g i)]⟩ (by simp only[*,go_sem]) (by kernel_rfl) ?_;revert h;refine bS fun et eu h=>?_;simp only[*,go_sem];refine ⟨_,bC hJ fun F q=>mB d.1.book (D.mono (b9 q)) a bd eu,b7 ?_⟩;revert h;refine bS fun s ev h=>?_;try simp only[*,go_sem]
  refine ⟨_,bC hJ fun F q=>AV d.1.book (D.mono (b9 q)) et ev,?_⟩;revert h;refine bS fun eQ eS h=>?_;obtain rfl:=sI h;obtain ⟨e0,bl⟩:=dr eS;try simp only[*,go_sem]
  refine aA fun bm e1 bo=>?_;have e3:=aP.cons bo eh;try simp only[au] at bo
  try simp only[*,go_sem]
  refine dZ (r:=k8) (l:=c) (x:=s) (cs:=#[.int .i64 s.num,.int .i64 s.den]) (e2:=23) [(bm,rt s.num s.den),(E,kn d.1 w y z B C),(u,rt 0 0),(t,rt 0 0),(j,bk u0 s1 f g i)] [] bb e3 e0 rfl (by simp only[*,go_sem]) e1 rfl rfl Ab Ab E2 z8 rfl E3 (by decide) (by decide) (fun hn br X fa fb ho=>?_);simp only[aX] at fb;subst fa;rw[<-bl] at X;clear bl;obtain ⟨d125,fg,rfl,fi⟩:=X.len;refine ⟨⟨R,(bm,rt s.num s.den)::(E,kn d.1 w y z B C)::(u,rt 0 0)::(t,rt 0 0)::(j,bk u0 s1 f g i)::br⟩,Le.refl _,?_⟩;refine ⟨by simp only[*,go_sem],mg ?_⟩;try simp only[*,go_sem]
  have hp:=cq (n:=i103) (by have:=dq;omega);refine ak hJ ?_;simp only[*,go_sem];refine ⟨k.length - (i103+1),by omega,_,Le.sub (List.Sublist.cons _ (List.Sublist.refl _)),i103+1,d125,fg,br,eQ,rfl,by omega,dT,rfl,X,fi,?_⟩;simp only[*,go_sem]
 have hq:=Nat.not_lt.2 bc;refine bD hJ (by simp only[*,go_sem]) ?_;rw[List.drop_eq_nil_of_le bc] at p;obtain rfl:=sI p;clear p;have h:=dt;dsimp only[aD] at h;refine bN ?_;simp only[go_sem];refine af hJ ?_;refine aB hJ fun hr=>?_;refine ak hJ ?_;simp only[*,go_sem];refine af hJ ?_;refine aB hJ fun bs=>?_;obtain ⟨fo,ht,fp,Y,fr⟩:=bb.e4 [(E,kn d.1 w y z B C),(u,rt 0 0),(t,rt 0 0),(j,bk u0 s1 f g i)] [] bs (aG.cons a6 (aG.cons I (aG.cons H (aG.cons G (aG.nil _)))));clear bs;refine cp hJ fr ?_;obtain ⟨hv,hx,-⟩:=Y.op;simp only[bq] at fp;refine fc hJ mixed 13 ⟨fo,[(E,kn d.1 w y z B C),(j,bk u0 s1 f g i)]⟩ (by simp only[*,go_sem]) (by kernel_rfl) ?_;revert h;refine bS fun Z fs h=>?_;obtain ⟨hy,hz,bz⟩:=cE fs;obtain ⟨hA,ft,fu,fv,ab⟩:=Y.el _ _ bz;obtain rfl:ft=Z.cells:=fv;cases fu;have fw:=ab 0 _ rfl;simp only[go_sem] at fw;have fx:=ab 1 _ rfl;simp only[go_sem] at fx;clear ab bz;revert h;refine bS fun b0 gg h=>?_;obtain ⟨hB,hD,hE,b1⟩:=pq gg;have b2:(1:Int).toNat<=((c.length:Int)).toNat:=by omega
 have gl:((c.length:Int)).toNat<=O:=by omega
 have hF:0<=((c.length:Int)):=by omega
 obtain ⟨d143,gn,gp,ad⟩:=aC.pG Y (1:Int).toNat ((c.length:Int)).toNat b2 (by omega) b1;simp only[go_sem] at gn gp b2 gl;obtain ⟨_,_,gB,hG,hI,hK⟩:=id ad;cases gB;clear b1;revert h;refine bS fun hL gC h=>?_;try simp only[*,go_sem]
 refine ⟨_,bC hJ fun F q=>nM (dK:=75) (ee:=#[]) (ef:=#[]) mD ⟨by simp only[go_sem],fun a3 a4 M ae _ h=>by simp only[go_sem];exact Gn M ae h⟩ Z b0 (ad.mono (b9 q)) gC,b7 ?_⟩;revert h;refine bS fun hM gM h=>?_;obtain rfl:=sI h;try simp only[*,go_sem]
 refine ⟨_,bC hJ fun F q=>nM (dK:=76) (ee:=#[]) (ef:=#[]) ep ⟨by simp only[go_sem],fun a3 a4 M ae _ h=>by simp only[go_sem];exact iW M ae h⟩ Z b0 (ad.mono (b9 q)) gM,?_⟩;try simp only[*,go_sem]
 refine az ?_;simp only[*,go_sem]
def kA (s:List aT)(y:aT):Bool:=s.any fun z=>z.e0==y.e0&&(z.e1==y.e1&&z.e2==y.e2)
def od (y:aT)(s:List aT):Option (Fl (List aT) Unit):=some (.nx (cond (kA s y) s (s++[y])))
theorem xw {x y:aT}(h:x.v=y.v):x=y:=by
 obtain ⟨a,b,c⟩:=x;obtain ⟨d,e,f⟩:=y;simp only[aT.v,Value.agg.injEq,Array.mk.injEq,List.cons.injEq,Value.int.injEq,true_and,and_true] at h;obtain ⟨rfl,rfl,rfl⟩:=h;rfl
theorem xx {s:List aT}{y:aT}:kA s y=true↔y.v∈s.map aT.v:=by
 unfold kA;simp only[List.any_eq_true,Bool.and_eq_true,beq_iff_eq,List.mem_map];constructor
 ·rintro ⟨z,d,e,f,g⟩;refine ⟨z,d,?_⟩;obtain ⟨a,b,c⟩:=z;obtain ⟨i,j,k⟩:=y;simp only at e f g;subst e f g;rfl
 ·rintro ⟨z,d,h⟩;obtain rfl:=xw h;exact ⟨z,d,rfl,rfl,rfl⟩
theorem Hv (x y:aT)(F:aa):∃b,(∀(Q:Bool->aa->Prop),Q b F->aW Tryz.prog (Op.equal 121 x.v y.v) Q F)/\(b=true↔y.v=x.v):=by
 have a:ju Tryz.prog 121=some [true,true,true]:=by kernel_rfl
 have he:l7 Tryz.prog 121 x.v y.v=some (x.e0==y.e0&&(x.e1==y.e1&&(x.e2==y.e2&&true))):=by
  simp only[l7,aT.v,a,iO,gy,Bool.and_self,if_true]
 refine ⟨_,fun Q h=>(u6 he h).1,?_⟩;simp only[Bool.and_eq_true,beq_iff_eq,and_true];constructor
 ·rintro ⟨c,d,e⟩;simp only[aT.v,c,d,e]
 ·intro h;obtain rfl:=xw h;exact ⟨rfl,rfl,rfl⟩
theorem Hw (x:aT)(F:aa)(Q:Unit->aa->Prop)(h:Q () F):aW Tryz.prog (Instr.checkKey false 10000 121 x.v) Q F:=by
 have c:Tryz.prog.underlying 121=some (.array 3 3):=by kernel_rfl
 have d:Tryz.prog.underlying 3=some (.int .i64):=by kernel_rfl
 have f:bZ Tryz.prog 3=some 1:=by kernel_rfl
 have g:cA Tryz.prog 3=some false:=by kernel_rfl
 have e:(10000:Nat)=9998+1+1:=rfl;rw[e];unfold Instr.checkKey;simp only[bu,dn,c,aT.v];simp only[Std.Legacy.Range.forIn_eq_forIn_range',Std.Legacy.Range.size,Nat.sub_zero,Nat.add_one_sub_one,Nat.div_one,List.range',List.forIn_cons,List.forIn_nil,bu,eK,f,part,lZ,g,bF,Bool.false_eq_true,if_false,di];have b:∀(k:IntKind) (a:Int) (Q:Unit->aa->Prop) (G:aa),Q () G->aW Tryz.prog (Instr.checkKey false 9999 3 (.int k a)) Q G:=by
  intro k a Q G i;show aW Tryz.prog (Instr.checkKey false (9998+1) 3 (.int k a)) Q G;unfold Instr.checkKey;simp only[bu,dn,d,bF];exact i
 exact b .i64 x.e0 _ _ (b .i64 x.e1 _ _ (b .i64 x.e2 _ _ h))
def oe (u0:aj):Option (Int×Int):=
 ag (eP u0 ([]:(List (aj->Option Int)))) fun a=>cond ((a.2 != 0)) (some (0,a.2)) (ag (gb od (mM a.1) ([]:List aT)) fun o=>aD o (fun st=>some ((st.length:Int),0)) (fun _ _=>none) (fun _=>none))
theorem Bf {ro:Addr->Option Value}(M:c9 ro)(u0:aj){s1 w x B:Value}(E:bL ro u0 s1 w x B){r:(Int×Int)}(h:oe u0=some r):aE Tryz.prog 14 #[bv u0 s1 w x B] ⟨ro,[]⟩ (fun v _=>v= .tuple #[.int .i64 r.1,.int .i64 r.2]):=by
 unfold oe at h;have N:=E.oc;simp only[bG] at N;refine aE.vN Tryz.func14 rfl Tryz.ntmps14 Tryz.results14 (by simp) fun main J hJ A F hd hs=>?_;have O:=hs 0;clear hs;refine ah hJ ?_;simp only[*,go_sem];refine aA fun P bd R=>?_;try simp only[au] at R
 try simp only[*,go_sem]
 refine ah hJ ?_;revert h;refine bS fun G S h=>?_;simp only[*,go_sem];refine b6 hJ _ (ku M u0 E ([]:(List (aj->Option Int))) (aC.nil _ _) S) fun v H bj T U=>?_;obtain ⟨V,W,X,Y,rfl,l⟩:=U;have Z:=l.oc;simp only[bG] at Z;simp only[bq] at T;refine aJ ?_;try simp only[*,go_sem]
 refine aA fun ab bm ad=>?_;try simp only[au] at ad
 try simp only[*,go_sem]
 refine af hJ (ah hJ ?_);simp only[*,go_sem];revert h;refine jC hJ (by simp only[*,go_sem]) (fun ae h=>?_) fun ae h=>?_
 ·obtain rfl:=sI h;refine ah hJ ?_;simp only[*,go_sem];refine aB hJ fun C=>?_;replace C:=C.nd;try simp only[keys,List.map_cons,List.map_nil,List.map_append,List.cons_append,List.nil_append,List.nodup_cons,List.mem_cons,List.mem_append,List.not_mem_nil,or_false,not_or] at C
  refine az ?_;simp only[*,go_sem]
 refine aH hJ ?_;revert h;refine bS fun o j h=>?_;repeat refine af hJ ?_
 refine ak hJ ?_;simp only[*,go_sem,-j];refine FU fun k f70=>?_;have bo:=eE f70;have al:=fB f70;try simp only[au] at al
 refine aJ ?_;simp only[*,go_sem,-j];refine aA fun q br ao=>?_;try simp only[au] at ao
 try simp only[*,go_sem,-j]
 repeat refine af hJ ?_
 refine ak hJ ?_;simp only[*,go_sem,-j];refine vM hJ aT.v (by simp only[*,go_sem]) (sF G.1 l.e l.p l.y l.t) (by kernel_rfl) (by kernel_rfl) (ρ:=Unit) (fun (s:List aT) ar=>∃(es:Array MapEntry) (b:Nat),ar=(q,.cells #[.map (some k)] 118)::(k,.map es b)::(ab,bl G.1 V W X Y)::(P,bk u0 s1 w x B)::[]/\es.toList.map (·.key)=s.map aT.v) (f:=od) j ?_ ?_ (by decide) ?_ ?_
 ·exact ⟨#[],0,rfl,rfl⟩
 ·rintro d4 a0 D a2 c d bs I main J hJ _ ⟨es,b,rfl,g⟩;obtain rfl:=Option.some.inj I;clear I;generalize m:mA _ _ _=u;have bz:sz u=24:=by rw[<-m,vL];simp only[*,go_sem]
  have b0:u.defers=[]:=by rw[<-m];rfl
  have b1:slot u 6= .pointer (some ⟨q,0,none⟩):=by rw[<-m,nG];simp only[*,go_sem]
  have b2:slot u 19=d.v:=by rw[<-m,nG];simp only[*,go_sem]
  clear m F hd O;refine fe hJ fun i a=>?_;replace a:aG H ((a0,.loop D)::(d4,.deferred (some []))::(q,.cells #[.map (some k)] 118)::(k,.map es b)::_):=a;have b3:=a.hd;have b4:=a.tl.hd;have a3:=a.tl.tl.hd;have a4:=a.tl.tl.tl.hd;clear a;replace i:=i.nd;simp only[keys,List.map_cons,List.map_nil,List.map_append,List.cons_append,List.nil_append,List.nodup_cons,List.mem_cons,List.mem_append,List.not_mem_nil,or_false,not_or] at i;refine ak hJ ?_;simp only[*,go_sem,aT.v];refine aA fun b5 ca a5=>?_;try simp only[au] at a5
  try simp only[*,go_sem,aT.v]
  simp only[pO,go_sem];refine ⟨D,by simp only[*,go_sem],a2,?_⟩;try simp only[*,go_sem,aT.v]
  refine aN hJ (ak hJ ?_);simp only[*,go_sem,aT.v];refine FW (es:=es) (clock:=b) (by kernel_rfl:Tryz.prog.underlying 118=some (.map 121 4)) (by simp only[*,go_sem]) (fun Q h=>Hw d _ Q h) (by kernel_rfl:Tryz.prog.underlying 121=some (.array 3 3)) (fun e he=>?_) fun K a6 a7=>?_
  ·have:e.key∈es.toList.map (·.key):=List.mem_map_of_mem he;rw[g] at this;obtain ⟨z,F,a8⟩:=List.mem_map.1 this;rw[<-a8];exact Hv d z _
  ·simp only[r4,mq,go_sem, *];refine ⟨{D with state:=.busy},rfl,?_⟩;simp only[*,go_sem];refine ⟨_,Le.sub (List.Sublist.cons _ (List.Sublist.refl _)),rfl,K,a6,rfl,?_⟩;have a9:K.toList.map (·.key)=(cond (kA c d) c (c++[d])).map aT.v:=by
    rcases a7 with ⟨hm,he⟩|⟨hm,he⟩
    ·have:kA c d=true:=by rw[xx,<-g];exact hm
     rw[this,he,g];rfl
    ·have:kA c d=false:=by
      rw[Bool.eq_false_iff];intro L;rw[xx,<-g] at L;exact hm L
     rw[this,he,g];simp only[cond_false,List.map_append,List.map_cons,List.map_nil];rfl
   exact a9
 ·rintro d49 ba bb _ c ⟨es,b,rfl,g⟩ i a;refine ⟨fun n=>?_,fun k1 n=>?_⟩
  ·subst n;dsimp only[aD] at h;obtain rfl:=sI h;clear j;replace a:aG H ((ba,.loop bb)::(d49,.deferred (some []))::(q,.cells #[.map (some k)] 118)::(k,.map es b)::_):=a;have a3:=a.tl.tl.hd;have a4:=a.tl.tl.tl.hd;clear a;replace i:=i.nd;simp only[keys,List.map_cons,List.map_nil,List.map_append,List.cons_append,List.nil_append,List.nodup_cons,List.mem_cons,List.mem_append,List.not_mem_nil,or_false,not_or] at i;repeat refine af hJ ?_
   refine ak hJ ?_;simp only[*,go_sem];have bc:es.size=c.length:=by simpa using congrArg List.length g
   refine FV (es:=es) (clock:=b) rfl (by kernel_rfl:Tryz.prog.underlying 118=some (.map 121 4)) (by simp only[*,go_sem]) ?_;rw[bc];refine az ?_;simp only[*,go_sem]
  ·subst n;dsimp only[aD] at h;cases h
 ·intro k1 cb n;subst n;dsimp only[aD] at h;cases h
def eB (u0:Int)(a:Int)(b:Int):Option Bool:=
 cond (decide (a<=u0)) (some (decide (u0<=b))) (some false)
theorem gY {ro:Addr->Option Value}(u0:Int)(a:Int)(b:Int){r:Bool}(h:eB u0 a b=some r):aE Tryz.prog 16 #[.int .i64 u0,.int .i64 a,.int .i64 b] ⟨ro,[]⟩ (fun v _=>v= .bool r):=by
 unfold eB at h;refine aE.go Tryz.func16 rfl Tryz.ntmps16 Tryz.results16 (by simp) fun main J hJ A d hd hs=>?_;have e:=hs 0;have k1:=hs 1;have f:=hs 2;clear hs;refine ah hJ ?_;simp only[*,go_sem];refine ah hJ ?_;revert h;refine cS (fun c h=>?_) fun c h=>?_
 ·obtain rfl:=sI h;try simp only[*,go_sem]
  refine az ?_;simp only[*,go_sem]
 obtain rfl:=sI h;try simp only[*,go_sem]
 refine az ?_;simp only[*,go_sem]
def mP (u0:aj)(a:Int):Option Bool:=
 ag (aY u0.ax 0) fun b=>ag (aY u0.ax (IntKind.i64.wrap ((u0.ax.length:Int) - 1))) fun c=>ag (eB a b.aL c.aL) fun d=>some d
theorem Hx {ro:Addr->Option Value}(u0:aj){s1 f g i:Value}(a:bL ro u0 s1 f g i)(b:Int){r:Bool}(h:mP u0 b=some r):aE Tryz.prog 128 #[bv u0 s1 f g i,.int .i64 b] ⟨ro,[]⟩ (fun v _=>v= .bool r):=by
 obtain ⟨d3,c4,rfl,E,G,-⟩:=id a.e;unfold mP at h;refine aE.go Tryz.func128 rfl Tryz.ntmps128 Tryz.results128 (by simp) fun main J hJ A H hd hs=>?_;have I:=hs 0;have k1:=hs 1;clear hs;refine ah hJ ?_;simp only[*,go_sem];refine aA fun K L n=>?_;try simp only[au] at n
 try simp only[*,go_sem]
 refine af hJ ?_;refine cP hJ mixed 17 1 (by simp only[*,go_sem]) (by kernel_rfl) ?_;revert h;refine bS fun j o h=>?_;obtain ⟨M,N,k⟩:=cE o;obtain ⟨O,p,q,s,c⟩:=a.e.el _ _ k;obtain rfl:p=j.cells:=s;cases q;have t:=c 0 _ rfl;simp only[go_sem] at t;have u:=c 1 _ rfl;simp only[go_sem] at u;clear c k;revert h;refine bS fun l w h=>?_;obtain ⟨P,Q,m⟩:=cE w;obtain ⟨R,x,y,z,d⟩:=a.e.el _ _ m;obtain rfl:x=l.cells:=z;cases y;have B:=d 0 _ rfl;simp only[go_sem] at B;have C:=d 1 _ rfl;simp only[go_sem] at C;clear d m;revert h;refine bS fun S D h=>?_;obtain rfl:=sI h;try simp only[*,go_sem]
 refine ⟨_,bC hJ fun F T=>gY b j.aL l.aL D,b7 ?_⟩;try simp only[*,go_sem]
 refine az ?_;simp only[*,go_sem]
def mQ (u0:aj)(a:Int):Option Bool:=
 ag (eB a 0 (IntKind.i64.wrap ((u0.av.length:Int) - 1))) fun b=>some b
theorem Hy {ro:Addr->Option Value}(u0:aj){s1 c d f:Value}(a:bL ro u0 s1 c d f)(b:Int){r:Bool}(h:mQ u0 b=some r):aE Tryz.prog 130 #[bv u0 s1 c d f,.int .i64 b] ⟨ro,[]⟩ (fun v _=>v= .bool r):=by
 obtain ⟨d3,c4,rfl,j,k,-⟩:=id a.e;obtain ⟨d10,l,rfl,m,n,-⟩:=id a.p;obtain ⟨d17,o,rfl,q,s,-⟩:=id a.y;obtain ⟨d24,u,rfl,w,x,-⟩:=id a.t;unfold mQ at h;refine aE.go Tryz.func130 rfl Tryz.ntmps130 Tryz.results130 (by simp) fun main J hJ A z hd hs=>?_;have B:=hs 0;have k1:=hs 1;clear hs;refine ah hJ ?_;simp only[*,go_sem];refine aA fun C D g=>?_;try simp only[au] at g
 try simp only[*,go_sem]
 refine ah hJ ?_;revert h;refine bS fun E i h=>?_;obtain rfl:=sI h;simp only[*,go_sem];refine bn hJ _ (gY b 0 (IntKind.i64.wrap ((u0.av.length:Int) - 1)) i) (aJ ?_);try simp only[*,go_sem]
 refine az ?_;simp only[*,go_sem]
def lD (u0:an)(a:an):Option Bool:=
 some (decide ((IntKind.i64.wrap (u0.num*a.den))<(IntKind.i64.wrap (a.num*u0.den))))
def xy (st:(Int×Int)):Option (Fl (Int×Int) an):=
 cond (decide (0<st.2)) (ag (gP st.1 st.2) fun a=>some (.nx (st.2,a))) (some (.bk (st.1,st.2)))
def og (st:(Int×Int)):Option (Fl (Int×Int) an):=
 cond (decide (0<st.2)) (ag (gP st.1 st.2) fun a=>some (.nx (st.2,a))) (some (.bk (st.1,st.2)))
def iz (u0:Int)(a:Int):Option an:=
 cond (decide (a<0)) (ag (aU (xy) fu ((if IntKind.i64.wrap (0 - u0)<IntKind.i64.wrap (0 - (IntKind.i64.wrap (0 - u0))) then IntKind.i64.wrap (0 - (IntKind.i64.wrap (0 - u0))) else IntKind.i64.wrap (0 - u0)),(IntKind.i64.wrap (0 - a)))) fun o=>aD o (fun b=>ag (fC (IntKind.i64.wrap (0 - u0)) b.1) fun d=>ag (fC (IntKind.i64.wrap (0 - a)) b.1) fun e=>some (⟨d,e⟩:an)) (fun _ _=>none) (fun r=>some r)) (ag (aU (og) fu ((if u0<IntKind.i64.wrap (0 - u0) then IntKind.i64.wrap (0 - u0) else u0),a)) fun o=>aD o (fun c=>ag (fC u0 c.1) fun f=>ag (fC a c.1) fun g=>some (⟨f,g⟩:an)) (fun _ _=>none) (fun r=>some r))
theorem Hz {ro:Addr->Option Value}(u0:Int)(b:Int){r:an}(h:iz u0 b=some r):aE Tryz.prog 35 #[.int .i64 u0,.int .i64 b] ⟨ro,[]⟩ (fun v _=>v=r.v):=by
 unfold iz at h;refine aE.go Tryz.func35 rfl Tryz.ntmps35 Tryz.results35 (by simp) fun main J hJ A n hd hs=>?_;have o:=hs 0;have k1:=hs 1;clear hs;refine ah hJ ?_;simp only[*,go_sem];refine aA fun p r1 n1=>?_;try simp only[au] at n1
 try simp only[*,go_sem]
 refine af hJ (ah hJ ?_);simp only[*,go_sem];revert h;refine jC hJ (by simp only[*,go_sem]) (fun B h=>?_) fun B h=>?_
 ·refine ak hJ ?_;simp only[*,go_sem];refine ah hJ ?_;simp only[*,go_sem];refine af hJ (aN hJ ?_);revert h;refine bS fun C c D=>?_;refine bT hJ [5,6,18,19,20,21,22,23] (fun m a F'=>∃(f:Int) (v4:Int),aU (xy) m (f,v4)=some C/\F'=⟨ro,(p,rt 0 0)::[]⟩/\slot a 5= .int .i64 f/\slot a 6= .int .i64 v4) fu ?_ ?_
  ·refine ⟨(if IntKind.i64.wrap (0 - u0)<IntKind.i64.wrap (0 - (IntKind.i64.wrap (0 - u0))) then IntKind.i64.wrap (0 - (IntKind.i64.wrap (0 - u0))) else IntKind.i64.wrap (0 - u0)),(IntKind.i64.wrap (0 - b)),c,rfl,?_⟩;simp only[*,go_sem]
  rintro g R F' q ⟨f,v4,c,rfl,S,T⟩;obtain ⟨E,F,G⟩:=q.pick [0,1,4] (by decide);simp only[*,go_sem] at E F G;clear q n hd o k1;obtain _|g:=g
  ·exact absurd c (by simp only[aU,reduceCtorEq,not_false_eq_true])
  revert c;refine bS fun U h i=>?_;unfold xy at h;try dsimp only at h
  refine af hJ (ah hJ ?_);simp only[*,go_sem];revert h;refine jC hJ (by simp only[*,go_sem]) (fun H h=>?_) fun H h=>?_
  ·refine aH hJ (aN hJ ?_);refine cP hJ mixed 6 1 (by simp only[*,go_sem]) (by kernel_rfl) ?_;revert h;refine bS fun I s h=>?_;obtain rfl:=sI h;obtain ⟨V,W⟩:=pz s;clear s;(try simp only[*,go_sem]);refine ⟨g,Nat.lt_succ_self _,_,Le.sub (List.Sublist.refl _),v4,I,i,rfl,?_⟩;simp only[*,go_sem]
  obtain rfl:=sI h;refine bN ?_;simp only[go_sem];obtain rfl:=sI i;clear i;have h:=D;dsimp only[aD] at h;refine af hJ ?_;refine cP hJ mixed 7 0 (by simp only[*,go_sem]) (by kernel_rfl) ?_;revert h;refine bS fun X t h=>?_;obtain ⟨Y,Z⟩:=j3 t;clear t;revert h;refine bS fun ab u h=>?_;obtain rfl:=sI h;obtain ⟨ad,ae⟩:=j3 u;clear u;try simp only[*,go_sem]
  refine az ?_;simp only[*,go_sem]
 refine aH hJ (af hJ ?_);refine ak hJ ?_;simp only[*,go_sem];refine af hJ (aN hJ ?_);revert h;refine bS fun K d L=>?_;refine bT hJ [5,6,18,19,20,21,22,23] (fun m a F'=>∃(j:Int) (e:Int),aU (og) m (j,e)=some K/\F'=⟨ro,(p,rt 0 0)::[]⟩/\slot a 5= .int .i64 j/\slot a 6= .int .i64 e) fu ?_ ?_
 ·refine ⟨(if u0<IntKind.i64.wrap (0 - u0) then IntKind.i64.wrap (0 - u0) else u0),b,d,rfl,?_⟩;simp only[*,go_sem]
 rintro k al F' w ⟨j,e,d,rfl,ao,ar⟩;obtain ⟨M,N,O⟩:=w.pick [0,1,4] (by decide);simp only[*,go_sem] at M N O;clear w n hd o k1;obtain _|k:=k
 ·exact absurd d (by simp only[aU,reduceCtorEq,not_false_eq_true])
 revert d;refine bS fun a0 h l=>?_;unfold og at h;try dsimp only at h
 refine af hJ (ah hJ ?_);simp only[*,go_sem];revert h;refine jC hJ (by simp only[*,go_sem]) (fun P h=>?_) fun P h=>?_
 ·refine aH hJ (aN hJ ?_);refine cP hJ mixed 6 1 (by simp only[*,go_sem]) (by kernel_rfl) ?_;revert h;refine bS fun Q x h=>?_;obtain rfl:=sI h;obtain ⟨a2,a3⟩:=pz x;clear x;try simp only[*,go_sem]
  refine ⟨k,Nat.lt_succ_self _,_,Le.sub (List.Sublist.refl _),e,Q,l,rfl,?_⟩;simp only[*,go_sem]
 obtain rfl:=sI h;refine bN ?_;simp only[go_sem];obtain rfl:=sI l;clear l;have h:=L;dsimp only[aD] at h;refine af hJ ?_;refine cP hJ mixed 7 0 (by simp only[*,go_sem]) (by kernel_rfl) ?_;revert h;refine bS fun a4 y h=>?_;obtain ⟨a5,a6⟩:=j3 y;clear y;revert h;refine bS fun a7 z h=>?_;obtain rfl:=sI h;obtain ⟨a8,a9⟩:=j3 z;clear z;try simp only[*,go_sem]
 refine az ?_;simp only[*,go_sem]
def jJ (u0:an)(a:an):Option an:=
 ag (iz (IntKind.i64.wrap ((IntKind.i64.wrap (u0.num*a.den)) - (IntKind.i64.wrap (a.num*u0.den)))) (IntKind.i64.wrap (u0.den*a.den))) fun b=>some b
def mR (u0:aj)(a:bf)(c:Int)(b:an):Option an:=
 ag (iz (IntKind.i64.wrap ((IntKind.i64.wrap ((IntKind.i64.wrap (a.high*b.den))*(IntKind.i64.wrap (c+a.back))))+(IntKind.i64.wrap ((IntKind.i64.wrap (b.num - (IntKind.i64.wrap (a.high*b.den))))*(IntKind.i64.wrap (u0.bH+a.back)))))) (IntKind.i64.wrap (b.den*(IntKind.i64.wrap (c+a.back))))) fun d=>some d
def lE (u0:cC)(a:Int)(b:Int):Option Bool:=
 cond (decide (a<=u0.low)) (cond (decide (u0.low<=u0.high)) (some (decide (u0.high<=b))) (some false)) (some false)
theorem HA {ro:Addr->Option Value}(u0:cC)(a:Int)(b:Int){r:Bool}(h:lE u0 a b=some r):aE Tryz.prog 129 #[.agg #[.int .i64 u0.low,.int .i64 u0.high],.int .i64 a,.int .i64 b] ⟨ro,[]⟩ (fun v _=>v= .bool r):=by
 unfold lE at h;refine aE.go Tryz.func129 rfl Tryz.ntmps129 Tryz.results129 (by simp) fun main J hJ A e hd hs=>?_;have f:=hs 0;have k1:=hs 1;have g:=hs 2;clear hs;refine ah hJ ?_;simp only[*,go_sem];refine aA fun i r1 n1=>?_;try simp only[au] at n1
 try simp only[*,go_sem]
 refine ah hJ ?_;revert h;refine cS (fun c h=>?_) fun c h=>?_
 ·revert h;refine cS (fun d h=>?_) fun d h=>?_
  ·obtain rfl:=sI h;(try simp only[*,go_sem]);refine az ?_;simp only[*,go_sem]
  obtain rfl:=sI h;try simp only[*,go_sem]
  refine az ?_;simp only[*,go_sem]
 obtain rfl:=sI h;try simp only[*,go_sem]
 refine az ?_;simp only[*,go_sem]
def fR (u0:an)(a:an):Option an:=
 ag (lD u0 a) fun b=>cond (b) (some a) (some u0)
def xz (u0:cC)(a:cC):Option cC:=
 some (⟨(if u0.low<a.low then a.low else u0.low),(if a.high<u0.high then a.high else u0.high)⟩:cC)
def Bg (u0:aj)(a:Int)(b:Int):Option bf:=
 ag (aY u0.av a) fun c=>some (⟨c.back,b⟩:bf)
def mS (u0:aj):Option Bool:=
 cond (decide (20<(u0.ax.length:Int))) (some true) (cond (decide (20<(u0.props.length:Int))) (some true) (cond (decide (20<(u0.av.length:Int))) (some true) (some (decide (20<(u0.told.length:Int))))))
theorem HB {ro:Addr->Option Value}(u0:aj){s1 b c d:Value}(a:bL ro u0 s1 b c d){r:Bool}(h:mS u0=some r):aE Tryz.prog 59 #[bv u0 s1 b c d] ⟨ro,[]⟩ (fun v _=>v= .bool r):=by
 obtain ⟨d3,c4,rfl,k,l,-⟩:=id a.e;obtain ⟨d10,m,rfl,n,o,-⟩:=id a.p;obtain ⟨d17,q,rfl,s,u,-⟩:=id a.y;obtain ⟨d24,w,rfl,x,z,-⟩:=id a.t;unfold mS at h;refine aE.go Tryz.func59 rfl Tryz.ntmps59 Tryz.results59 (by simp) fun main J hJ A B hd hs=>?_;have C:=hs 0;clear hs;refine ah hJ ?_;simp only[*,go_sem];refine aA fun D E f=>?_;try simp only[au] at f
 try simp only[*,go_sem]
 refine ah hJ ?_;revert h;refine cS (fun g h=>?_) fun g h=>?_
 ·obtain rfl:=sI h;try simp only[*,go_sem]
  refine az ?_;simp only[*,go_sem]
 revert h;refine cS (fun i h=>?_) fun i h=>?_
 ·obtain rfl:=sI h;try simp only[*,go_sem]
  refine az ?_;simp only[*,go_sem]
 revert h;refine cS (fun j h=>?_) fun j h=>?_
 ·obtain rfl:=sI h;try simp only[*,go_sem]
  refine az ?_;simp only[*,go_sem]
 obtain rfl:=sI h;try simp only[*,go_sem]
 refine az ?_;simp only[*,go_sem]
def gk (u0:Int)(a:Int):Option an:=
 some (⟨u0,a⟩:an)
theorem gZ {ro:Addr->Option Value}(u0:Int)(a:Int){r:an}(h:gk u0 a=some r):aE Tryz.prog 30 #[.int .i64 u0,.int .i64 a] ⟨ro,[]⟩ (fun v _=>v=r.v):=by
 unfold gk at h;obtain rfl:=sI h;refine aE.go Tryz.func30 rfl Tryz.ntmps30 Tryz.results30 (by simp) fun main J hJ A b hd hs=>?_;have c:=hs 0;have k1:=hs 1;clear hs;refine ah hJ ?_;simp only[*,go_sem];refine aA fun d r1 n1=>?_;try simp only[au] at n1
 try simp only[*,go_sem]
 refine ah hJ ?_;simp only[*,go_sem];refine az ?_;simp only[*,go_sem]
def mT (u0:Int)(a:Int):Option cC:=
 some (⟨u0,a⟩:cC)
theorem qi {ro:Addr->Option Value}(u0:Int)(a:Int){r:cC}(h:mT u0 a=some r):aE Tryz.prog 18 #[.int .i64 u0,.int .i64 a] ⟨ro,[]⟩ (fun v _=>v=r.v):=by
 unfold mT at h;obtain rfl:=sI h;refine aE.go Tryz.func18 rfl Tryz.ntmps18 Tryz.results18 (by simp) fun main J hJ A b hd hs=>?_;have c:=hs 0;have k1:=hs 1;clear hs;refine ah hJ ?_;simp only[*,go_sem];refine aA fun d r1 n1=>?_;try simp only[au] at n1
 try simp only[*,go_sem]
 refine ah hJ ?_;simp only[*,go_sem];refine az ?_;simp only[*,go_sem]
def jK (u0:Int)(a:Int):Option bf:=
 some (⟨u0,a⟩:bf)
theorem mU {ro:Addr->Option Value}(u0:Int)(a:Int){r:bf}(h:jK u0 a=some r):aE Tryz.prog 23 #[.int .i64 u0,.int .i64 a] ⟨ro,[]⟩ (fun v _=>v=r.v):=by
 unfold jK at h;obtain rfl:=sI h;refine aE.go Tryz.func23 rfl Tryz.ntmps23 Tryz.results23 (by simp) fun main J hJ A b hd hs=>?_;have c:=hs 0;have k1:=hs 1;clear hs;refine ah hJ ?_;simp only[*,go_sem];refine aA fun d r1 n1=>?_;try simp only[au] at n1
 try simp only[*,go_sem]
 refine ah hJ ?_;simp only[*,go_sem];refine az ?_;simp only[*,go_sem]
def mV (u0:Int)(a:Bool):Option bR:=
 some (⟨u0,a⟩:bR)
theorem kB {ro:Addr->Option Value}(u0:Int)(a:Bool){r:bR}(h:mV u0 a=some r):aE Tryz.prog 50 #[.int .i64 u0,.bool a] ⟨ro,[]⟩ (fun v _=>v=r.v):=by
 unfold mV at h;obtain rfl:=sI h;refine aE.go Tryz.func50 rfl Tryz.ntmps50 Tryz.results50 (by simp) fun main J hJ A b hd hs=>?_;have c:=hs 0;have k1:=hs 1;clear hs;refine ah hJ ?_;simp only[*,go_sem];refine aA fun d r1 n1=>?_;try simp only[au] at n1
 try simp only[*,go_sem]
 refine ah hJ ?_;simp only[*,go_sem];refine az ?_;simp only[*,go_sem]
def qj (u0:aj)(a:bR):Option aj:=
 ag (c8 ([]:List bR) u0.told) fun b=>ag (c8 b ([a])) fun c=>some (⟨u0.bH,u0.bK,u0.aS,u0.ax,u0.props,u0.av,c⟩:aj)
theorem oh {ro:Addr->Option Value}(u0:aj){s1 b c N:Value}(j:bL ro u0 s1 b c N)(a:bR){r:aj}(h:qj u0 a=some r):eL Tryz.prog 38 #[bv u0 s1 b c N,.agg #[.int .i64 a.aQ,.bool a.bt]] ro (fun v aM=>∃O w1 w2 w3,v=bv r O w1 w2 w3/\bL aM r O w1 w2 w3):=by
 obtain ⟨d24,i,rfl,eQ,eS,-⟩:=id j.t;unfold qj at h;have b0:=j.oc;simp only[bG] at b0;refine aE.go Tryz.func38 rfl Tryz.ntmps38 Tryz.results38 (by simp) fun main J hJ A e0 hd hs=>?_;have e1:=hs 0;have k1:=hs 1;clear hs;refine ah hJ ?_;simp only[*,go_sem,-h];refine aA fun d q b1=>?_;try simp only[au] at b1
 refine aA fun f s b2=>?_;try simp only[au] at b2
 refine aA fun g u b3=>?_;try simp only[au] at b3
 try simp only[*,go_sem,-h]
 refine af hJ ?_;refine aB hJ fun P=>?_;refine eG hJ mixed [8] (.pure 1 (.rd 2 (.rd 4 (.two 0 (.two 3 (.one 5 (.one 6 (.pure 7 (.last 8 .done)))) 5 (.one 3 (.one 6 (.pure 7 (.last 8 .done))))) 5 (.one 0 (.one 3 (.one 6 (.pure 7 (.last 8 .done))))))))) ⟨ro,[(g,bz 29),(f,.cells #[.int .i64 a.aQ,.bool a.bt] 76),(d,bk u0 s1 b c (sl d24 u0.told i))]⟩ (by simp only[*,go_sem,-h]) (by kernel_rfl) ?_;simp only[*,go_sem,-h];refine jx ?_ ?_
 ·simp only[*,go_sem,-h];refine aA fun C Q R=>?_;have S:=aP.cons R P;try simp only[au] at R
  try simp only[*,go_sem,-h]
  refine jx ?_ ?_
  ·revert h;refine bS fun b4 b5 h=>?_;obtain ⟨ca,T⟩:=dr b5;simp only[*,go_sem,-h];have cb:aO dg ro 76 (.slice (some ⟨C,0,none⟩) 0 0) ([]:List bR) [(C,.cells #[] 76)]:=aO.empty Q;refine pR (r:=dg) (l:=([]:List bR)) (xs:=u0.told) [] ((g,bz 29)::(f,.cells #[.int .i64 a.aQ,.bool a.bt] 76)::(d,bk u0 s1 b c (sl d24 u0.told i))::[]) cb S ca j.t rfl rfl en en iq iu rfl ir (by decide) (by decide) (fun e3 w F k m U=>?_);simp only[aX] at m;subst k;rw[<-T] at F;clear T;obtain ⟨d144,fa,rfl,fb⟩:=F.len;have cd:=aP.back (l:=(g,bz 29)::(f,.cells #[.int .i64 a.aQ,.bool a.bt] 76)::(d,bk u0 s1 b c (sl d24 u0.told i))::w) (l':=[]++(w++([(g,bz 29),(f,.cells #[.int .i64 a.aQ,.bool a.bt] 76),(d,bk u0 s1 b c (sl d24 u0.told i))]++[]))) [] [(g,bz 29),(f,.cells #[.int .i64 a.aQ,.bool a.bt] 76),(d,bk u0 s1 b c (sl d24 u0.told i))] w [] (by first|rfl|simp only[aX]|(simp only[aX];rfl)) (by first|rfl|simp only[aX]|(simp only[aX];rfl)) (by first|exact U|simpa only[List.append_nil,List.nil_append,List.cons_append,List.append_assoc] using U);refine ⟨⟨ro,(g,bz 29)::(f,.cells #[.int .i64 a.aQ,.bool a.bt] 76)::(d,bk u0 s1 b c (sl d24 u0.told i))::w⟩,Le.back [] [(g,bz 29),(f,.cells #[.int .i64 a.aQ,.bool a.bt] 76),(d,bk u0 s1 b c (sl d24 u0.told i))] w [] (by first|rfl|simp only[aX]|(simp only[aX];rfl)) (by first|rfl|simp only[aX]|(simp only[aX];rfl)),?_⟩;refine ⟨by simp only[*,go_sem,-h],bW ?_⟩;revert h;refine bS fun V cf h=>?_;obtain ⟨cl,W⟩:=dr cf;(try simp only[*,go_sem,-h]);refine aA fun G X Y=>?_;have cu:=aP.cons Y cd;try simp only[au] at Y
   (try simp only[*,go_sem,-h]);refine dZ (r:=dg) (l:=b4) (x:=a) (cs:=#[.int .i64 a.aQ,.bool a.bt]) (e2:=76) [(G,.cells #[.int .i64 a.aQ,.bool a.bt] 76),(g,bz 29),(f,.cells #[.int .i64 a.aQ,.bool a.bt] 76),(d,bk u0 s1 b c (sl d24 u0.told i))] [] F cu cl rfl (by simp only[*,go_sem,-h]) X rfl rfl en en iq iu rfl ir (by decide) (by decide) (fun fg cy H k m fi=>?_);simp only[aX] at m;subst k;rw[<-W] at H;clear W;obtain ⟨d158,Z,rfl,fo⟩:=H.len;refine ⟨⟨ro,(G,.cells #[.int .i64 a.aQ,.bool a.bt] 76)::(g,bz 29)::(f,.cells #[.int .i64 a.aQ,.bool a.bt] 76)::(d,bk u0 s1 b c (sl d24 u0.told i))::cy⟩,Le.refl _,?_⟩;refine ⟨by simp only[*,go_sem,-h],bW ?_⟩;(try simp only[*,go_sem,-h]);refine af hJ ?_;refine aB hJ fun fp=>?_;refine ak hJ ?_;simp only[*,go_sem,-h];obtain rfl:=sI h;refine aB hJ fun ab=>?_;obtain ⟨fr,ad,D,ae,cS⟩:=H.e4 [(G,.cells #[.int .i64 a.aQ,.bool a.bt] 76),(g,bk u0 s1 b c (sl d158 V Z)),(f,.cells #[.int .i64 a.aQ,.bool a.bt] 76),(d,bk u0 s1 b c (sl d158 V Z))] [] ab (aG.cons X (aG.cons u (aG.cons s (aG.cons q (aG.nil _)))));clear ab;refine cp hJ cS ?_;obtain ⟨fs,ft,-⟩:=ae.op;replace j:=j.mono ad;replace u:=D.tl.hd;replace s:=D.tl.tl.hd;replace q:=D.tl.tl.tl.hd;simp only[bq] at D;refine az ?_;simp only[*,go_sem];exact ⟨_,ad,Le.sub (List.nil_sublist _),_,_,_,_,rfl,⟨j.e,j.p,j.y,ae⟩⟩
  revert h;refine bS fun c0 da h=>?_;obtain ⟨db,al⟩:=dr da;simp only[*,go_sem,-h];refine aA fun n ao ar=>?_;have dd:=aP.cons ar S;try simp only[au] at ar
  try simp only[*,go_sem,-h]
  have df:aO dg ro 76 (.slice (some ⟨C,0,none⟩) 0 0) ([]:List bR) [(C,.cells #[] 76)]:=aO.empty Q;refine pR (r:=dg) (l:=([]:List bR)) (xs:=u0.told) [(n,.cells #[.int .i64 a.aQ,.bool a.bt] 76)] ((g,bz 29)::(f,.cells #[.int .i64 a.aQ,.bool a.bt] 76)::(d,bk u0 s1 b c (sl d24 u0.told i))::[]) df dd db j.t rfl rfl en en iq iu rfl ir (by decide) (by decide) (fun fu z I k m a0=>?_);simp only[aX] at m;subst k;rw[<-al] at I;clear al;obtain ⟨d179,fv,rfl,fw⟩:=I.len;have dk:=aP.back (l:=(n,.cells #[.int .i64 a.aQ,.bool a.bt] 76)::(g,bz 29)::(f,.cells #[.int .i64 a.aQ,.bool a.bt] 76)::(d,bk u0 s1 b c (sl d24 u0.told i))::z) (l':=[(n,.cells #[.int .i64 a.aQ,.bool a.bt] 76)]++(z++([(g,bz 29),(f,.cells #[.int .i64 a.aQ,.bool a.bt] 76),(d,bk u0 s1 b c (sl d24 u0.told i))]++[]))) [(n,.cells #[.int .i64 a.aQ,.bool a.bt] 76)] [(g,bz 29),(f,.cells #[.int .i64 a.aQ,.bool a.bt] 76),(d,bk u0 s1 b c (sl d24 u0.told i))] z [] (by first|rfl|simp only[aX]|(simp only[aX];rfl)) (by first|rfl|simp only[aX]|(simp only[aX];rfl)) (by first|exact a0|simpa only[List.append_nil,List.nil_append,List.cons_append,List.append_assoc] using a0);refine ⟨⟨ro,(n,.cells #[.int .i64 a.aQ,.bool a.bt] 76)::(g,bz 29)::(f,.cells #[.int .i64 a.aQ,.bool a.bt] 76)::(d,bk u0 s1 b c (sl d24 u0.told i))::z⟩,Le.back [(n,.cells #[.int .i64 a.aQ,.bool a.bt] 76)] [(g,bz 29),(f,.cells #[.int .i64 a.aQ,.bool a.bt] 76),(d,bk u0 s1 b c (sl d24 u0.told i))] z [] (by first|rfl|simp only[aX]|(simp only[aX];rfl)) (by first|rfl|simp only[aX]|(simp only[aX];rfl)),?_⟩;refine ⟨by simp only[*,go_sem,-h],bW ?_⟩;revert h;refine bS fun a2 dp h=>?_;obtain ⟨dq,a3⟩:=dr dp;try simp only[*,go_sem,-h]
  refine dZ (r:=dg) (l:=c0) (x:=a) (cs:=#[.int .i64 a.aQ,.bool a.bt]) (e2:=76) [(n,.cells #[.int .i64 a.aQ,.bool a.bt] 76),(g,bz 29),(f,.cells #[.int .i64 a.aQ,.bool a.bt] 76),(d,bk u0 s1 b c (sl d24 u0.told i))] [] I dk dq rfl (by simp only[*,go_sem,-h]) ao rfl rfl en en iq iu rfl ir (by decide) (by decide) (fun fx ds K k m gg=>?_);simp only[aX] at m;subst k;rw[<-a3] at K;clear a3;obtain ⟨d191,a4,rfl,gl⟩:=K.len;refine ⟨⟨ro,(n,.cells #[.int .i64 a.aQ,.bool a.bt] 76)::(g,bz 29)::(f,.cells #[.int .i64 a.aQ,.bool a.bt] 76)::(d,bk u0 s1 b c (sl d24 u0.told i))::ds⟩,Le.refl _,?_⟩;refine ⟨by simp only[*,go_sem,-h],bW ?_⟩;try simp only[*,go_sem,-h]
  refine af hJ ?_;refine aB hJ fun gn=>?_;refine ak hJ ?_;simp only[*,go_sem,-h];obtain rfl:=sI h;refine aB hJ fun a5=>?_;obtain ⟨gp,a6,E,a7,dt⟩:=K.e4 [(n,.cells #[.int .i64 a.aQ,.bool a.bt] 76),(g,bk u0 s1 b c (sl d191 a2 a4)),(f,.cells #[.int .i64 a.aQ,.bool a.bt] 76),(d,bk u0 s1 b c (sl d191 a2 a4))] [] a5 (aG.cons ao (aG.cons u (aG.cons s (aG.cons q (aG.nil _)))));clear a5;refine cp hJ dt ?_;obtain ⟨gB,gC,-⟩:=a7.op;replace j:=j.mono a6;replace u:=E.tl.hd;replace s:=E.tl.tl.hd;replace q:=E.tl.tl.tl.hd;simp only[bq] at E;refine az ?_;simp only[*,go_sem];exact ⟨_,a6,Le.sub (List.nil_sublist _),_,_,_,_,rfl,⟨j.e,j.p,j.y,a7⟩⟩
 revert h;refine bS fun du dv h=>?_;obtain ⟨dC,a8⟩:=dr dv;simp only[*,go_sem,-h];refine aA fun o a9 ba=>?_;have dE:=aP.cons ba P;try simp only[au] at ba
 try simp only[*,go_sem,-h]
 refine aA fun bb dT bc=>?_;have ea:=aP.cons bc dE;try simp only[au] at bc
 try simp only[*,go_sem,-h]
 have eb:aO dg ro 76 (.slice (some ⟨bb,0,none⟩) 0 0) ([]:List bR) [(bb,.cells #[] 76)]:=aO.empty dT;refine pR (r:=dg) (l:=([]:List bR)) (xs:=u0.told) [] ((o,.cells #[.int .i64 a.aQ,.bool a.bt] 76)::(g,bz 29)::(f,.cells #[.int .i64 a.aQ,.bool a.bt] 76)::(d,bk u0 s1 b c (sl d24 u0.told i))::[]) eb ea dC j.t rfl rfl en en iq iu rfl ir (by decide) (by decide) (fun gM B L k m bd=>?_);simp only[aX] at m;subst k;rw[<-a8] at L;clear a8;obtain ⟨d214,gT,rfl,gV⟩:=L.len;have ec:=aP.back (l:=(o,.cells #[.int .i64 a.aQ,.bool a.bt] 76)::(g,bz 29)::(f,.cells #[.int .i64 a.aQ,.bool a.bt] 76)::(d,bk u0 s1 b c (sl d24 u0.told i))::B) (l':=[]++(B++([(o,.cells #[.int .i64 a.aQ,.bool a.bt] 76),(g,bz 29),(f,.cells #[.int .i64 a.aQ,.bool a.bt] 76),(d,bk u0 s1 b c (sl d24 u0.told i))]++[]))) [] [(o,.cells #[.int .i64 a.aQ,.bool a.bt] 76),(g,bz 29),(f,.cells #[.int .i64 a.aQ,.bool a.bt] 76),(d,bk u0 s1 b c (sl d24 u0.told i))] B [] (by first|rfl|simp only[aX]|(simp only[aX];rfl)) (by first|rfl|simp only[aX]|(simp only[aX];rfl)) (by first|exact bd|simpa only[List.append_nil,List.nil_append,List.cons_append,List.append_assoc] using bd);refine ⟨⟨ro,(o,.cells #[.int .i64 a.aQ,.bool a.bt] 76)::(g,bz 29)::(f,.cells #[.int .i64 a.aQ,.bool a.bt] 76)::(d,bk u0 s1 b c (sl d24 u0.told i))::B⟩,Le.back [] [(o,.cells #[.int .i64 a.aQ,.bool a.bt] 76),(g,bz 29),(f,.cells #[.int .i64 a.aQ,.bool a.bt] 76),(d,bk u0 s1 b c (sl d24 u0.told i))] B [] (by first|rfl|simp only[aX]|(simp only[aX];rfl)) (by first|rfl|simp only[aX]|(simp only[aX];rfl)),?_⟩;refine ⟨by simp only[*,go_sem,-h],bW ?_⟩;revert h;refine bS fun bj ed h=>?_;obtain ⟨eh,bl⟩:=dr ed;try simp only[*,go_sem,-h]
 refine dZ (r:=dg) (l:=du) (x:=a) (cs:=#[.int .i64 a.aQ,.bool a.bt]) (e2:=76) [(o,.cells #[.int .i64 a.aQ,.bool a.bt] 76),(g,bz 29),(f,.cells #[.int .i64 a.aQ,.bool a.bt] 76),(d,bk u0 s1 b c (sl d24 u0.told i))] [] L ec eh rfl (by simp only[*,go_sem,-h]) a9 rfl rfl en en iq iu rfl ir (by decide) (by decide) (fun g0 et M k m g1=>?_);simp only[aX] at m;subst k;rw[<-bl] at M;clear bl;obtain ⟨d226,bm,rfl,g2⟩:=M.len;refine ⟨⟨ro,(o,.cells #[.int .i64 a.aQ,.bool a.bt] 76)::(g,bz 29)::(f,.cells #[.int .i64 a.aQ,.bool a.bt] 76)::(d,bk u0 s1 b c (sl d24 u0.told i))::et⟩,Le.refl _,?_⟩;refine ⟨by simp only[*,go_sem,-h],bW ?_⟩;try simp only[*,go_sem,-h]
 refine af hJ ?_;refine aB hJ fun g3=>?_;refine ak hJ ?_;simp only[*,go_sem,-h];obtain rfl:=sI h;refine aB hJ fun bo=>?_;obtain ⟨g4,br,eu,bs,ev⟩:=M.e4 [(o,.cells #[.int .i64 a.aQ,.bool a.bt] 76),(g,bk u0 s1 b c (sl d226 bj bm)),(f,.cells #[.int .i64 a.aQ,.bool a.bt] 76),(d,bk u0 s1 b c (sl d226 bj bm))] [] bo (aG.cons a9 (aG.cons u (aG.cons s (aG.cons q (aG.nil _)))));clear bo;refine cp hJ ev ?_;obtain ⟨ha,hc,-⟩:=bs.op;replace j:=j.mono br;simp only[bq] at eu;refine az ?_;simp only[*,go_sem];exact ⟨_,br,Le.sub (List.nil_sublist _),_,_,_,_,rfl,⟨j.e,j.p,j.y,bs⟩⟩
def xA (a:(List Int))(b:Int)(st:(Int×(List cc))):Option (Fl (Int×(List cc)) aj):=
 cond (decide (st.1<(a.length:Int))) (ag (aY a st.1) fun c=>ag (c8 st.2 ([(⟨c,b⟩:cc)])) fun d=>some (.nx ((IntKind.i64.wrap (st.1+1)),d))) (some (.bk (st.1,st.2)))
def xB (u0:aj)(a:(List Int))(b:Int):Option aj:=
 ag (c8 ([]:List cc) u0.props) fun c=>ag (aU (xA a b) fu (0,c)) fun o=>aD o (fun d=>some (⟨u0.bH,u0.bK,u0.aS,u0.ax,d.2,u0.av,u0.told⟩:aj)) (fun _ _=>none) (fun r=>some r)
theorem HC {ro:Addr->Option Value}(u0:aj){s1 H a b:Value}(k:bL ro u0 s1 H a b)(w:(List Int)){I:Value}(K:aC rI ro I w)(n:Int){r:aj}(h:xB u0 w n=some r):eL Tryz.prog 61 #[bv u0 s1 H a b,I,.int .i64 n] ro (fun v aM=>∃L w1 w2 w3,v=bv r L w1 w2 w3/\bL aM r L w1 w2 w3):=by
 obtain ⟨d10,c,rfl,dd,df,-⟩:=id k.p;obtain ⟨d31,dk,rfl,dp,dq,-⟩:=id K;unfold xB at h;have ad:=k.oc;simp only[bG] at ad;refine aE.go Tryz.func61 rfl Tryz.ntmps61 Tryz.results61 (by simp) fun main J hJ A ae hd hs=>?_;have al:=hs 0;have k1:=hs 1;have ao:=hs 2;clear hs;refine ah hJ ?_;simp only[*,go_sem];refine aA fun f ar a0=>?_;try simp only[au] at a0
 refine aA fun g a2 a3=>?_;try simp only[au] at a3
 try simp only[*,go_sem]
 refine ah hJ ?_;simp only[*,go_sem];refine aA fun i a4 a5=>?_;try simp only[au] at a5
 try simp only[*,go_sem]
 refine af hJ ?_;refine aB hJ fun a6=>?_;refine ak hJ ?_;revert h;refine bS fun a7 a8 h=>?_;obtain ⟨a9,M⟩:=dr a8;simp only[*,go_sem];refine aA fun N ba O=>?_;have bb:=aP.cons O a6;try simp only[au] at O
 try simp only[*,go_sem]
 have bc:aO eA ro 96 (.slice (some ⟨N,0,none⟩) 0 0) ([]:List cc) [(N,.cells #[] 96)]:=aO.empty ba;refine pR (r:=eA) (l:=([]:List cc)) (xs:=u0.props) [] ((i,bk u0 s1 (sl d10 u0.props c) a b)::(g,bz 29)::(f,bk u0 s1 (sl d10 u0.props c) a b)::[]) bc bb a9 k.p rfl rfl k4 k4 rT rV rfl rU (by decide) (by decide) (fun ds o z B C P=>?_);simp only[aX] at C;subst B;rw[<-M] at z;clear M;obtain ⟨d48,bd,rfl,bj⟩:=z.len;have dt:=aP.back (l:=(i,bk u0 s1 (sl d10 u0.props c) a b)::(g,bz 29)::(f,bk u0 s1 (sl d10 u0.props c) a b)::o) (l':=[]++(o++([(i,bk u0 s1 (sl d10 u0.props c) a b),(g,bz 29),(f,bk u0 s1 (sl d10 u0.props c) a b)]++[]))) [] [(i,bk u0 s1 (sl d10 u0.props c) a b),(g,bz 29),(f,bk u0 s1 (sl d10 u0.props c) a b)] o [] (by first|rfl|simp only[aX]|(simp only[aX];rfl)) (by first|rfl|simp only[aX]|(simp only[aX];rfl)) (by first|exact P|simpa only[List.append_nil,List.nil_append,List.cons_append,List.append_assoc] using P);refine ⟨⟨ro,(i,bk u0 s1 (sl d10 u0.props c) a b)::(g,bz 29)::(f,bk u0 s1 (sl d10 u0.props c) a b)::o⟩,Le.back [] [(i,bk u0 s1 (sl d10 u0.props c) a b),(g,bz 29),(f,bk u0 s1 (sl d10 u0.props c) a b)] o [] (by first|rfl|simp only[aX]|(simp only[aX];rfl)) (by first|rfl|simp only[aX]|(simp only[aX];rfl)),?_⟩;refine aJ ?_;try simp only[*,go_sem]
 refine af hJ (af hJ ?_);refine aB hJ fun du=>?_;refine ak hJ ?_;simp only[*,go_sem];refine aN hJ ?_;revert h;refine bS fun bl s bm=>?_;refine bT hJ [8,15,16,17,18,19,20,21,22,23,24,25,26,27,28,29,30,31] (fun m bo F'=>∃(d57:Option Addr) (j:Nat) (D:List (Nat×Obj)) (u:Int) (d:(List cc)),aU (xA w n) m (u,d)=some bl/\F'=⟨ro,(i,bk u0 s1 (sl d57 d j) a b)::(g,bz 29)::(f,bk u0 s1 (sl d10 u0.props c) a b)::D⟩/\aO eA ro 96 (.slice d57 d.length j) d D/\d.length<=j/\slot bo 8= .int .i64 u) fu ?_ ?_
 ·refine ⟨d48,bd,o,0,a7,s,rfl,z,bj,?_⟩;simp only[*,go_sem]
 rintro E dv F' Q ⟨d57,j,D,u,d,s,rfl,R,dC,dE⟩;obtain ⟨br,bs,b0⟩:=Q.pick [1,2,6,7] (by decide);simp only[*,go_sem] at br bs b0;clear Q ae hd al k1 ao;obtain _|E:=E
 ·exact absurd s (by simp only[aU,reduceCtorEq,not_false_eq_true])
 revert s;refine bS fun dT h F=>?_;unfold xA at h;try dsimp only at h
 refine af hJ (af hJ ?_);refine aB hJ fun ea=>?_;refine ak hJ ?_;simp only[*,go_sem];revert h;refine jC hJ (by simp only[*,go_sem]) (fun b1 h=>?_) fun b1 h=>?_
 ·refine aH hJ (af hJ ?_);refine aN hJ ?_;refine aB hJ fun b2=>?_;refine eG hJ mixed [11] (.pure 0 (.rd 1 (.pure 2 (.pure 3 (.pure 4 (.rd 5 (.pure 6 (.pure 7 (.one 8 (.one 9 (.pure 10 (.last 11 .done)))))))))))) ⟨ro,[(i,bk u0 s1 (sl d57 d j) a b),(g,bz 29),(f,bk u0 s1 (sl d10 u0.props c) a b)]⟩ (by simp only[*,go_sem]) (by kernel_rfl) ?_;revert h;refine bS fun q b3 h=>?_;obtain ⟨eb,ec,S⟩:=cE b3;obtain ⟨ed,b4,b5,ca,T⟩:=K.el _ _ S;obtain rfl:b4=[.int .i64 q]:=ca;cases b5;have cb:=T 0 _ rfl;simp only[go_sem] at cb;clear T S;revert h;refine bS fun cd cf h=>?_;obtain rfl:=sI h;obtain ⟨cl,U⟩:=dr cf;try simp only[*,go_sem]
  refine aA fun V cu W=>?_;have cy:=aP.cons W b2;try simp only[au] at W
  try simp only[*,go_sem]
  refine dZ (r:=eA) (l:=d) (x:=(⟨q,n⟩:cc)) (cs:=#[.int .i64 q,.int .i64 n]) (e2:=96) [(V,.cells #[.int .i64 q,.int .i64 n] 96),(i,bk u0 s1 (sl d57 d j) a b),(g,bz 29),(f,bk u0 s1 (sl d10 u0.props c) a b)] [] R cy cl rfl (by simp only[*,go_sem]) cu rfl rfl k4 k4 rT rV rfl rU (by decide) (by decide) (fun eh X G B C et=>?_);simp only[aX] at C;subst B;rw[<-U] at G;clear U;obtain ⟨d111,cS,rfl,c0⟩:=G.len;refine ⟨⟨ro,(V,.cells #[.int .i64 q,.int .i64 n] 96)::(i,bk u0 s1 (sl d57 d j) a b)::(g,bz 29)::(f,bk u0 s1 (sl d10 u0.props c) a b)::X⟩,Le.refl _,?_⟩;refine ⟨by simp only[*,go_sem],bW ?_⟩;try simp only[*,go_sem]
  refine aB hJ fun eu=>?_;refine ak hJ ?_;simp only[*,go_sem];refine ⟨E,Nat.lt_succ_self _,_,Le.sub (List.Sublist.cons _ (List.Sublist.refl _)),d111,cS,X,(IntKind.i64.wrap (u+1)),cd,F,rfl,G,c0,?_⟩;simp only[*,go_sem]
 obtain rfl:=sI h;refine bN ?_;simp only[go_sem];obtain rfl:=sI F;clear F;have h:=bm;dsimp only[aD] at h;obtain rfl:=sI h;refine af hJ ?_;refine aB hJ fun ev=>?_;refine ak hJ ?_;simp only[*,go_sem];refine aB hJ fun Y=>?_;obtain ⟨eQ,Z,da,ab,db⟩:=R.e4 [(i,bk u0 s1 (sl d57 d j) a b),(g,bk u0 s1 (sl d57 d j) a b),(f,bk u0 s1 (sl d10 u0.props c) a b)] [] Y (aG.cons a4 (aG.cons a2 (aG.cons ar (aG.nil _))));clear Y;refine cp hJ db ?_;obtain ⟨eS,e0,-⟩:=ab.op;replace k:=k.mono Z;simp only[bq] at da;refine az ?_;simp only[*,go_sem];exact ⟨_,Z,Le.sub (List.nil_sublist _),_,_,_,_,rfl,⟨k.e,ab,k.y,k.t⟩⟩
def xC (u0:aj)(a:Int)(c:cC):Option aj:=
 ag (c8 ([]:List bO) u0.av) fun b=>ag (aY b a) fun d=>some (⟨u0.bH,u0.bK,u0.aS,u0.ax,u0.props,(b.set (a).toNat (⟨d.back,c⟩:bO)),u0.told⟩:aj)
def xD :Option aj:=
 ag (gk 1 2) fun a=>ag (mT 10 12) fun b=>ag (mT 10 10) fun c=>some (⟨20,2,a,[(⟨0,2⟩:bX),(⟨8,4⟩:bX),(⟨14,4⟩:bX)],([]:(List cc)),[(⟨2,b⟩:bO),(⟨4,c⟩:bO)],([]:(List bR))⟩:aj)
theorem HD {ro:Addr->Option Value}{r:aj}(h:xD=some r):eL Tryz.prog 60 #[] ro (fun v aM=>∃m w1 w2 w3,v=bv r m w1 w2 w3/\bL aM r m w1 w2 w3):=by
 unfold xD at h;refine aE.go Tryz.func60 rfl Tryz.ntmps60 Tryz.results60 (by simp) fun main J hJ A H hd hs=>?_;clear hs;refine ah hJ ?_;simp only[*,go_sem];refine aA fun n r1 n1=>?_;try simp only[au] at n1
 try simp only[*,go_sem]
 refine af hJ ?_;refine aB hJ fun C=>?_;refine ak hJ ?_;revert h;refine bS fun g D h=>?_;simp only[*,go_sem];refine bn hJ _ (gZ 1 2 D) (aJ ?_);revert h;refine bS fun a E h=>?_;try simp only[*,go_sem]
 refine aA fun b5 p q=>?_;have F:=aP.cons q C;try simp only[au] at q
 try simp only[*,go_sem]
 refine bn hJ _ (qi 10 12 E) (aJ ?_);revert h;refine bS fun c G h=>?_;obtain rfl:=sI h;try simp only[*,go_sem]
 refine bn hJ _ (qi 10 10 G) (aJ ?_);try simp only[*,go_sem]
 refine aA fun d i s=>?_;have I:=aP.cons s F;try simp only[au] at s
 try simp only[*,go_sem]
 refine aB hJ fun t=>?_;obtain ⟨u,j,w⟩:=fM (b:=b5) (o:=(.cells #[.int .i64 0,.int .i64 2,.int .i64 8,.int .i64 4,.int .i64 14,.int .i64 4] 85)) [(d,.cells #[.int .i64 2,.int .i64 a.low,.int .i64 a.high,.int .i64 4,.int .i64 c.low,.int .i64 c.high] 41)] ((n,.cells #[.int .i64 20,.int .i64 2,.int .i64 g.num,.int .i64 g.den,.slice (some ⟨b5,0,none⟩) 3 3,.slice none 0 0,.slice (some ⟨d,0,none⟩) 2 2,.slice none 0 0] 29)::[]) t p (aG.cons i (aG.cons r1 (aG.nil _)));clear t;have f:aC e5 (bU ro b5 (.cells #[.int .i64 0,.int .i64 2,.int .i64 8,.int .i64 4,.int .i64 14,.int .i64 4] 85)) (.slice (some ⟨b5,0,none⟩) 3 3) [(⟨0,2⟩:bX),(⟨8,4⟩:bX),(⟨14,4⟩:bX)]:=(aC.flat (r:=e5) (e:=85) (cs:=#[.int .i64 0,.int .i64 2,.int .i64 8,.int .i64 4,.int .i64 14,.int .i64 4]) bX.cells ([(⟨0,2⟩:bX),(⟨8,4⟩:bX),(⟨14,4⟩:bX)]) (fun _=>rfl) p rfl (by simp))
 generalize bU ro b5 (.cells #[.int .i64 0,.int .i64 2,.int .i64 8,.int .i64 4,.int .i64 14,.int .i64 4] 85)=x at u j w f;refine cp hJ w ?_;obtain ⟨K,L,-⟩:=f.op;replace i:=j.hd;replace r1:=j.tl.hd;simp only[bq] at j;refine aB hJ fun y=>?_;obtain ⟨k,z,B⟩:=fM (b:=d) (o:=(.cells #[.int .i64 2,.int .i64 a.low,.int .i64 a.high,.int .i64 4,.int .i64 c.low,.int .i64 c.high] 41)) [] ((n,.cells #[.int .i64 20,.int .i64 2,.int .i64 g.num,.int .i64 g.den,.slice (some ⟨b5,0,none⟩) ([(⟨0,2⟩:bX),(⟨8,4⟩:bX),(⟨14,4⟩:bX)]).length 3,.slice none 0 0,.slice (some ⟨d,0,none⟩) 2 2,.slice none 0 0] 29)::[]) y i (aG.cons r1 (aG.nil _));clear y;have l:aC eV (bU x d (.cells #[.int .i64 2,.int .i64 a.low,.int .i64 a.high,.int .i64 4,.int .i64 c.low,.int .i64 c.high] 41)) (.slice (some ⟨d,0,none⟩) 2 2) [(⟨2,a⟩:bO),(⟨4,c⟩:bO)]:=(aC.flat (r:=eV) (e:=41) (cs:=#[.int .i64 2,.int .i64 a.low,.int .i64 a.high,.int .i64 4,.int .i64 c.low,.int .i64 c.high]) bO.cells ([(⟨2,a⟩:bO),(⟨4,c⟩:bO)]) (fun _=>rfl) i rfl (by simp))
 generalize bU x d (.cells #[.int .i64 2,.int .i64 a.low,.int .i64 a.high,.int .i64 4,.int .i64 c.low,.int .i64 c.high] 41)=M at k z B l;refine cp hJ B ?_;obtain ⟨N,O,-⟩:=l.op;replace f:=f.mono k;simp only[bq] at z;refine az ?_;simp only[*,go_sem];exact ⟨_,(u).trans k,Le.sub (List.nil_sublist _),_,_,_,_,rfl,f,aC.nil _ _,l,aC.nil _ _⟩
def qk (u0:aj)(st:(Int×Int)):Option (Fl (Int×Int) Int):=
 cond (decide (st.2<(u0.ax.length:Int))) (ag (aY u0.ax st.2) fun a=>ag (eB a.aL 0 (IntKind.i64.wrap (u0.bH - 1))) fun b=>cond (!b) (some (.rt 1)) (ag (eB a.high 0 60) fun c=>cond (!c) (some (.rt 1)) (cond (decide (0<st.2)) (ag (aY u0.ax (IntKind.i64.wrap (st.2 - 1))) fun d=>cond (decide (a.aL<=d.aL)) (some (.rt 7)) (some (.nx (st.1,(IntKind.i64.wrap (st.2+1)))))) (some (.nx (st.1,(IntKind.i64.wrap (st.2+1)))))))) (some (.bk (st.1,st.2)))
def mW (u0:aj):Option Int:=
 ag (eB (u0.ax.length:Int) 2 5) fun a=>cond (!a) (some 2) (ag (aU (qk u0) fu (0,0)) fun o=>aD o (fun b=>some 0) (fun _ _=>none) (fun r=>some r))
theorem HE {ro:Addr->Option Value}(u0:aj){s1 i j k:Value}(l:bL ro u0 s1 i j k){r:Int}(h:mW u0=some r):aE Tryz.prog 94 #[bv u0 s1 i j k] ⟨ro,[]⟩ (fun v _=>v= .int .i64 r):=by
 obtain ⟨d3,c4,rfl,al,ao,-⟩:=id l.e;unfold mW at h;refine aE.go Tryz.func94 rfl Tryz.ntmps94 Tryz.results94 (by simp) fun main J hJ A w hd hs=>?_;have x:=hs 0;clear hs;refine ah hJ ?_;simp only[*,go_sem];refine aA fun y ar z=>?_;try simp only[au] at z
 try simp only[*,go_sem]
 refine af hJ (ah hJ ?_);revert h;refine bS fun a0 B h=>?_;simp only[*,go_sem];refine bn hJ _ (gY (u0.ax.length:Int) 2 5 B) (aJ ?_);try simp only[*,go_sem]
 revert h;refine jC hJ (by simp only[*,go_sem]) (fun C h=>?_) fun C h=>?_
 ·obtain rfl:=sI h;refine ah hJ ?_;simp only[*,go_sem];refine az ?_;simp only[*,go_sem]
 refine aH hJ (af hJ ?_);refine ah hJ ?_;simp only[*,go_sem];refine aN hJ ?_;revert h;refine bS fun D d f=>?_;refine bT hJ [2,3,4,10,11,12,13,14,15,16,17,18,19,20,21,22,23,24,25,26,27,28,29,30,31,32,33,34,35,36,37,38,39,40,41,42,43,44,45,46,47,48] (fun m q F'=>∃(b:Int) (c:Int),aU (qk u0) m (b,c)=some D/\F'=⟨ro,(y,bk u0 (sl d3 u0.ax c4) i j k)::[]⟩/\slot q 2= .int .i64 b/\slot q 3= .int .i64 c) fu ?_ ?_
 ·refine ⟨0,0,d,rfl,?_⟩;simp only[*,go_sem]
 rintro g a2 F' s ⟨b,c,d,rfl,a3,a4⟩;obtain ⟨E,F,G⟩:=s.pick [1] (by decide);simp only[*,go_sem] at E F G;clear s w hd x;obtain _|g:=g
 ·exact absurd d (by simp only[aU,reduceCtorEq,not_false_eq_true])
 revert d;refine bS fun a5 h a=>?_;unfold qk at h;try dsimp only at h
 refine af hJ (ah hJ ?_);simp only[*,go_sem];revert h;refine jC hJ (by simp only[*,go_sem]) (fun H h=>?_) fun H h=>?_
 ·refine aH hJ (af hJ ?_);refine aN hJ (af hJ ?_);refine ak hJ ?_;revert h;refine bS fun n I h=>?_;obtain ⟨a6,a7,t⟩:=cE I;obtain ⟨a8,K,L,M,o⟩:=l.e.el _ _ t;obtain rfl:K=n.cells:=M;cases L;have N:=o 0 _ rfl;simp only[go_sem] at N;have O:=o 1 _ rfl;simp only[go_sem] at O;clear o t;try simp only[*,go_sem]
  refine aA fun a9 ba P=>?_;try simp only[au] at P
  try simp only[*,go_sem]
  refine af hJ (ah hJ ?_);revert h;refine bS fun bb Q h=>?_;simp only[*,go_sem];refine bn hJ _ (gY n.aL 0 (IntKind.i64.wrap (u0.bH - 1)) Q) (aJ ?_);revert h;refine cS (fun R h=>?_) fun R h=>?_
  ·obtain rfl:=sI h;(try simp only[*,go_sem]);refine bE hJ (by simp only[*,go_sem]) ?_;refine ah hJ ?_;simp only[*,go_sem];obtain rfl:=sI a;clear a;have h:=f;dsimp only[aD] at h;obtain rfl:=sI h;refine az ?_;simp only[*,go_sem]
  revert h;refine bS fun bc S h=>?_;try simp only[*,go_sem]
  refine bn hJ _ (gY n.high 0 60 S) (aJ ?_);try simp only[*,go_sem]
  revert h;refine jC hJ (by simp only[*,go_sem]) (fun T h=>?_) fun T h=>?_
  ·obtain rfl:=sI h;refine ah hJ ?_;simp only[*,go_sem];obtain rfl:=sI a;clear a;have h:=f;dsimp only[aD] at h;obtain rfl:=sI h;refine az ?_;simp only[*,go_sem]
  refine aH hJ (af hJ ?_);refine cP hJ mixed 14 2 (by simp only[*,go_sem]) (by kernel_rfl) ?_;revert h;refine cS (fun U h=>?_) fun U h=>?_
  ·revert h;refine bS fun V W h=>?_;obtain ⟨bd,bj,u⟩:=cE W;obtain ⟨bl,X,Y,Z,p⟩:=l.e.el _ _ u;obtain rfl:X=V.cells:=Z;cases Y;have ab:=p 0 _ rfl;simp only[go_sem] at ab;have ad:=p 1 _ rfl;simp only[go_sem] at ad;clear p u;(try simp only[*,go_sem]);revert h;refine jC hJ (by simp only[*,go_sem]) (fun ae h=>?_) fun ae h=>?_
   ·obtain rfl:=sI h;refine ah hJ ?_;simp only[*,go_sem];obtain rfl:=sI a;clear a;have h:=f;dsimp only[aD] at h;obtain rfl:=sI h;refine az ?_;simp only[*,go_sem]
   obtain rfl:=sI h;refine aH hJ (ak hJ ?_);simp only[*,go_sem];refine ⟨g,Nat.lt_succ_self _,_,Le.sub (List.Sublist.cons _ (List.Sublist.refl _)),b,(IntKind.i64.wrap (c+1)),a,rfl,?_⟩;simp only[*,go_sem]
  obtain rfl:=sI h;try simp only[*,go_sem]
  refine bD hJ (by simp only[*,go_sem]) ?_;refine aH hJ (ak hJ ?_);simp only[*,go_sem];refine ⟨g,Nat.lt_succ_self _,_,Le.sub (List.Sublist.cons _ (List.Sublist.refl _)),b,(IntKind.i64.wrap (c+1)),a,rfl,?_⟩;simp only[*,go_sem]
 obtain rfl:=sI h;refine bN ?_;simp only[go_sem];obtain rfl:=sI a;clear a;have h:=f;dsimp only[aD] at h;obtain rfl:=sI h;refine ah hJ ?_;simp only[*,go_sem];refine az ?_;simp only[*,go_sem]
def Bh (u0:aj)(st:(Int×Int)):Option (Fl (Int×Int) Int):=
 cond (decide (st.2<(u0.told.length:Int))) (ag (aY u0.told st.2) fun a=>ag (mQ u0 a.aQ) fun b=>cond (!b) (some (.rt 6)) (some (.nx (st.1,(IntKind.i64.wrap (st.2+1)))))) (some (.bk (st.1,st.2)))
def Bi (u0:aj)(st:(Int×Int)):Option (Fl (Int×Int) Int):=
 cond (decide (st.2<(u0.av.length:Int))) (ag (aY u0.av st.2) fun a=>ag (eB a.back 1 20) fun b=>cond (!b) (some (.rt 1)) (ag (lE a.high 0 60) fun c=>cond (!c) (some (.rt 1)) (cond (decide (3<=(IntKind.i64.wrap (a.high.high - a.high.low)))) (some (.rt 1)) (some (.nx (st.1,(IntKind.i64.wrap (st.2+1)))))))) (some (.bk (st.1,st.2)))
def ql (u0:aj)(st:(Int×Int)):Option (Fl (Int×Int) Int):=
 cond (decide (st.2<(u0.props.length:Int))) (ag (aY u0.props st.2) fun a=>ag (mP u0 a.place) fun b=>cond (!b) (some (.rt 6)) (ag (eB a.de 1 20) fun c=>cond (!c) (some (.rt 1)) (some (.nx (st.1,(IntKind.i64.wrap (st.2+1))))))) (some (.bk (st.1,st.2)))
def xE (u0:aj)(st:(Int×Int)):Option (Fl (Int×Int) Int):=
 cond (decide (st.2<(u0.av.length:Int))) (ag (aY u0.av st.2) fun a=>ag (eB a.back 1 20) fun b=>cond (!b) (some (.rt 1)) (ag (lE a.high 0 60) fun c=>cond (!c) (some (.rt 1)) (cond (decide (3<=(IntKind.i64.wrap (a.high.high - a.high.low)))) (some (.rt 1)) (some (.nx (st.1,(IntKind.i64.wrap (st.2+1)))))))) (some (.bk (st.1,st.2)))
def xF (u0:aj)(st:(Int×Int)):Option (Fl (Int×Int) Int):=
 cond (decide (st.2<(u0.told.length:Int))) (ag (aY u0.told st.2) fun a=>ag (mQ u0 a.aQ) fun b=>cond (!b) (some (.rt 6)) (some (.nx (st.1,(IntKind.i64.wrap (st.2+1)))))) (some (.bk (st.1,st.2)))
def mX (u0:aj):Option Int:=
 cond (decide (3<(u0.props.length:Int))) (some 2) (ag (aU (ql u0) fu (0,0)) fun o=>aD o (fun a=>ag (eB (u0.av.length:Int) 1 3) fun b=>cond (!b) (some 2) (ag (aU (xE u0) fu (a.1,0)) fun o=>aD o (fun c=>cond (decide (3<(u0.told.length:Int))) (some 2) (ag (aU (xF u0) fu (c.1,0)) fun o=>aD o (fun d=>some 0) (fun _ _=>none) (fun r=>some r))) (fun _ _=>none) (fun r=>some r))) (fun _ _=>none) (fun r=>some r))
theorem HF {ro:Addr->Option Value}(u0:aj){s1 N O P:Value}(b:bL ro u0 s1 N O P){r:Int}(h:mX u0=some r):aE Tryz.prog 95 #[bv u0 s1 N O P] ⟨ro,[]⟩ (fun v _=>v= .int .i64 r):=by
 obtain ⟨d10,w,rfl,eb,ec,-⟩:=id b.p;obtain ⟨d17,x,rfl,ed,eh,-⟩:=id b.y;obtain ⟨d24,z,rfl,et,eu,-⟩:=id b.t;unfold mX at h;refine aE.go Tryz.func95 rfl Tryz.ntmps95 Tryz.results95 (by simp) fun main J hJ A ao hd hs=>?_;have ar:=hs 0;clear hs;refine ah hJ ?_;simp only[*,go_sem];refine aA fun B ev a0=>?_;try simp only[au] at a0
 try simp only[*,go_sem]
 refine af hJ (ah hJ ?_);simp only[*,go_sem];revert h;refine jC hJ (by simp only[*,go_sem]) (fun a2 h=>?_) fun a2 h=>?_
 ·obtain rfl:=sI h;refine ah hJ ?_;simp only[*,go_sem];refine az ?_;simp only[*,go_sem]
 refine aH hJ (af hJ ?_);refine ah hJ ?_;simp only[*,go_sem];refine aN hJ ?_;revert h;refine bS fun a3 i C=>?_;refine bT hJ [2,3,11,12,13,14,15,16,17,18,19,20,21,22,23,24,25,26,27,28,29,30,31,32,33,34] (fun m c F'=>∃(e:Int) (j:Int),aU (ql u0) m (e,j)=some a3/\F'=⟨ro,(B,bk u0 s1 (sl d10 u0.props w) (sl d17 u0.av x) (sl d24 u0.told z))::[]⟩/\slot c 2= .int .i64 e/\slot c 3= .int .i64 j) fu ?_ ?_
 ·refine ⟨0,0,i,rfl,?_⟩;simp only[*,go_sem]
 rintro D eQ F' Q ⟨e,j,i,rfl,a4,a5⟩;obtain ⟨R,S,T⟩:=Q.pick [1] (by decide);simp only[*,go_sem] at R S T;clear Q ao hd ar;obtain _|D:=D
 ·exact absurd i (by simp only[aU,reduceCtorEq,not_false_eq_true])
 revert i;refine bS fun eS h d=>?_;unfold ql at h;try dsimp only at h
 refine af hJ (ah hJ ?_);simp only[*,go_sem];revert h;refine jC hJ (by simp only[*,go_sem]) (fun a6 h=>?_) fun a6 h=>?_
 ·refine aH hJ (af hJ ?_);refine aN hJ (af hJ ?_);refine af hJ ?_;refine cP hJ mixed 9 1 (by simp only[*,go_sem]) (by kernel_rfl) ?_;revert h;refine bS fun E a7 h=>?_;obtain ⟨e0,e1,U⟩:=cE a7;obtain ⟨e2,a8,a9,ba,G⟩:=b.p.el _ _ U;obtain rfl:a8=E.cells:=ba;cases a9;have bb:=G 0 _ rfl;simp only[go_sem] at bb;have bc:=G 1 _ rfl;simp only[go_sem] at bc;clear G U;revert h;refine bS fun e3 bd h=>?_;try simp only[*,go_sem]
  refine ⟨_,bC hJ fun F H=>Hx u0 (b.mono (b9 H)) E.place bd,b7 ?_⟩;try simp only[*,go_sem]
  revert h;refine jC hJ (by simp only[*,go_sem]) (fun bj h=>?_) fun bj h=>?_
  ·obtain rfl:=sI h;refine ah hJ ?_;simp only[*,go_sem];obtain rfl:=sI d;clear d;have h:=C;dsimp only[aD] at h;obtain rfl:=sI h;refine az ?_;simp only[*,go_sem]
  refine aH hJ (af hJ ?_);refine ak hJ ?_;revert h;refine bS fun fa bl h=>?_;simp only[*,go_sem];refine bn hJ _ (gY E.de 1 20 bl) (aJ ?_);try simp only[*,go_sem]
  revert h;refine jC hJ (by simp only[*,go_sem]) (fun bm h=>?_) fun bm h=>?_
  ·obtain rfl:=sI h;refine ah hJ ?_;simp only[*,go_sem];obtain rfl:=sI d;clear d;have h:=C;dsimp only[aD] at h;obtain rfl:=sI h;refine az ?_;simp only[*,go_sem]
  obtain rfl:=sI h;refine aH hJ (ak hJ ?_);simp only[*,go_sem];refine ⟨D,Nat.lt_succ_self _,_,Le.sub (List.Sublist.refl _),e,(IntKind.i64.wrap (j+1)),d,rfl,?_⟩;simp only[*,go_sem]
 obtain rfl:=sI h;refine bN ?_;simp only[go_sem];obtain rfl:=sI d;clear d;have h:=C;dsimp only[aD] at h;refine af hJ (ah hJ ?_);revert h;refine bS fun fb bo h=>?_;simp only[*,go_sem];refine bn hJ _ (gY (u0.av.length:Int) 1 3 bo) (aJ ?_);try simp only[*,go_sem]
 revert h;refine jC hJ (by simp only[*,go_sem]) (fun br h=>?_) fun br h=>?_
 ·obtain rfl:=sI h;refine ah hJ ?_;simp only[*,go_sem];refine az ?_;simp only[*,go_sem]
 refine aH hJ (af hJ ?_);refine ah hJ ?_;simp only[*,go_sem];refine aN hJ ?_;revert h;refine bS fun bs k l=>?_;refine bT hJ [2,4,5,40,41,42,43,44,45,46,47,48,49,50,51,52,53,54,55,56,57,58,59,60,61,62,63,64,65,66,67,68,69,70,71] (fun m c F'=>∃(f:Int) (n:Int),aU (Bi u0) m (f,n)=some bs/\F'=⟨ro,(B,bk u0 s1 (sl d10 u0.props w) (sl d17 u0.av x) (sl d24 u0.told z))::[]⟩/\slot c 2= .int .i64 f/\slot c 4= .int .i64 n) fu ?_ ?_
 ·refine ⟨e,0,k,rfl,?_⟩;simp only[*,go_sem]
 rintro I fg F' V ⟨f,n,k,rfl,bz,b0⟩;obtain ⟨W,X,Y⟩:=V.pick [1] (by decide);simp only[*,go_sem] at W X Y;clear V R S T a4 a5;obtain _|I:=I
 ·exact absurd k (by simp only[aU,reduceCtorEq,not_false_eq_true])
 revert k;refine bS fun fi h a=>?_;unfold Bi at h;try dsimp only at h
 refine af hJ (ah hJ ?_);simp only[*,go_sem];revert h;refine jC hJ (by simp only[*,go_sem]) (fun b1 h=>?_) fun b1 h=>?_
 ·refine aH hJ (af hJ ?_);refine aN hJ (af hJ ?_);refine ak hJ ?_;revert h;refine bS fun K b2 h=>?_;obtain ⟨fo,fp,Z⟩:=cE b2;obtain ⟨fr,b3,b4,b5,o⟩:=b.y.el _ _ Z;obtain rfl:b3=K.cells:=b5;cases b4;have ca:=o 0 _ rfl;simp only[go_sem] at ca;have cb:=o 1 _ rfl;simp only[go_sem] at cb;have cd:=o 2 _ rfl;simp only[go_sem] at cd;clear o Z;try simp only[*,go_sem]
  refine aA fun fs ft cf=>?_;try simp only[au] at cf
  try simp only[*,go_sem]
  refine ah hJ ?_;revert h;refine bS fun fv cl h=>?_;simp only[*,go_sem];refine bn hJ _ (gY K.back 1 20 cl) (aJ ?_);revert h;refine cS (fun cu h=>?_) fun cu h=>?_
  ·obtain rfl:=sI h;(try simp only[*,go_sem]);refine bE hJ (by simp only[*,go_sem]) ?_;refine ah hJ ?_;simp only[*,go_sem];obtain rfl:=sI a;clear a;have h:=l;dsimp only[aD] at h;obtain rfl:=sI h;refine az ?_;simp only[*,go_sem]
  revert h;refine bS fun fw cy h=>?_;try simp only[*,go_sem]
  refine bn hJ _ (HA K.high 0 60 cy) (aJ ?_);revert h;refine cS (fun c0 h=>?_) fun c0 h=>?_
  ·obtain rfl:=sI h;(try simp only[*,go_sem]);refine bE hJ (by simp only[*,go_sem]) ?_;refine ah hJ ?_;simp only[*,go_sem];obtain rfl:=sI a;clear a;have h:=l;dsimp only[aD] at h;obtain rfl:=sI h;refine az ?_;simp only[*,go_sem]
  try simp only[*,go_sem]
  revert h;refine jC hJ (by simp only[*,go_sem]) (fun da h=>?_) fun da h=>?_
  ·obtain rfl:=sI h;refine ah hJ ?_;simp only[*,go_sem];obtain rfl:=sI a;clear a;have h:=l;dsimp only[aD] at h;obtain rfl:=sI h;refine az ?_;simp only[*,go_sem]
  obtain rfl:=sI h;refine aH hJ (ak hJ ?_);simp only[*,go_sem];refine ⟨I,Nat.lt_succ_self _,_,Le.sub (List.Sublist.cons _ (List.Sublist.refl _)),f,(IntKind.i64.wrap (n+1)),a,rfl,?_⟩;simp only[*,go_sem]
 obtain rfl:=sI h;refine bN ?_;simp only[go_sem];obtain rfl:=sI a;clear a;have h:=l;dsimp only[aD] at h;refine af hJ (ah hJ ?_);simp only[*,go_sem];revert h;refine jC hJ (by simp only[*,go_sem]) (fun db h=>?_) fun db h=>?_
 ·obtain rfl:=sI h;refine ah hJ ?_;simp only[*,go_sem];refine az ?_;simp only[*,go_sem]
 refine aH hJ (af hJ ?_);refine ah hJ ?_;simp only[*,go_sem];refine aN hJ ?_;revert h;refine bS fun dd q ab=>?_;refine bT hJ [2,6,76,77,78,79,80,81,82,83,84,85,86,87,88,89,90,91] (fun m c F'=>∃(s:Int) (u:Int),aU (Bh u0) m (s,u)=some dd/\F'=⟨ro,(B,bk u0 s1 (sl d10 u0.props w) (sl d17 u0.av x) (sl d24 u0.told z))::[]⟩/\slot c 2= .int .i64 s/\slot c 6= .int .i64 u) fu ?_ ?_
 ·refine ⟨f,0,q,rfl,?_⟩;simp only[*,go_sem]
 rintro L fx F' ad ⟨s,u,q,rfl,gg,gl⟩;obtain ⟨df,dk,dp⟩:=ad.pick [1] (by decide);simp only[*,go_sem] at df dk dp;clear ad W X Y bz b0;obtain _|L:=L
 ·exact absurd q (by simp only[aU,reduceCtorEq,not_false_eq_true])
 revert q;refine bS fun gn h g=>?_;unfold Bh at h;try dsimp only at h
 refine af hJ (ah hJ ?_);simp only[*,go_sem];revert h;refine jC hJ (by simp only[*,go_sem]) (fun dq h=>?_) fun dq h=>?_
 ·refine aH hJ (af hJ ?_);refine aN hJ (af hJ ?_);refine cP hJ mixed 9 1 (by simp only[*,go_sem]) (by kernel_rfl) ?_;revert h;refine bS fun ae ds h=>?_;obtain ⟨gp,gB,al⟩:=cE ds;obtain ⟨gC,dt,du,dv,M⟩:=b.t.el _ _ al;obtain rfl:dt=ae.cells:=dv;cases du;have dC:=M 0 _ rfl;simp only[go_sem] at dC;have dE:=M 1 _ rfl;simp only[go_sem] at dE;clear M al;revert h;refine bS fun gM dT h=>?_;try simp only[*,go_sem]
  refine ⟨_,bC hJ fun F H=>Hy u0 (b.mono (b9 H)) ae.aQ dT,b7 ?_⟩;try simp only[*,go_sem]
  revert h;refine jC hJ (by simp only[*,go_sem]) (fun ea h=>?_) fun ea h=>?_
  ·obtain rfl:=sI h;refine ah hJ ?_;simp only[*,go_sem];obtain rfl:=sI g;clear g;have h:=ab;dsimp only[aD] at h;obtain rfl:=sI h;refine az ?_;simp only[*,go_sem]
  obtain rfl:=sI h;refine aH hJ (ak hJ ?_);simp only[*,go_sem];refine ⟨L,Nat.lt_succ_self _,_,Le.sub (List.Sublist.refl _),s,(IntKind.i64.wrap (u+1)),g,rfl,?_⟩;simp only[*,go_sem]
 obtain rfl:=sI h;refine bN ?_;simp only[go_sem];obtain rfl:=sI g;clear g;have h:=ab;dsimp only[aD] at h;obtain rfl:=sI h;refine ah hJ ?_;simp only[*,go_sem];refine az ?_;simp only[*,go_sem]
def jb (u0:aj):Option Int:=
 ag (eB u0.bH 2 60) fun c=>cond (!c) (some 1) (ag (eB u0.bK 0 60) fun d=>cond (!d) (some 1) (ag (eB u0.aS.den 1 20) fun e=>cond (!e) (some 1) (ag (eB u0.aS.num 0 20) fun f=>cond (!f) (some 1) (ag (iz u0.aS.num u0.aS.den) fun a=>cond (!((a.num==u0.aS.num)&&(a.den==u0.aS.den))) (some 3) (ag (mW u0) fun b=>cond ((b != 0)) (some b) (ag (mX u0) fun g=>some g))))))
theorem HG {ro:Addr->Option Value}(u0:aj){s1 a b c:Value}(d:bL ro u0 s1 a b c){r:Int}(h:jb u0=some r):aE Tryz.prog 39 #[bv u0 s1 a b c] ⟨ro,[]⟩ (fun v _=>v= .int .i64 r):=by
 unfold jb at h;refine aE.go Tryz.func39 rfl Tryz.ntmps39 Tryz.results39 (by simp) fun main J hJ A e hd hs=>?_;have f:=hs 0;clear hs;refine ah hJ ?_;simp only[*,go_sem];refine aA fun E G g=>?_;try simp only[au] at g
 try simp only[*,go_sem]
 refine af hJ (ah hJ ?_);revert h;refine bS fun H i h=>?_;simp only[*,go_sem];refine bn hJ _ (gY u0.bH 2 60 i) (aJ ?_);revert h;refine cS (fun j h=>?_) fun j h=>?_
 ·obtain rfl:=sI h;try simp only[*,go_sem]
  refine bE hJ (by simp only[*,go_sem]) ?_;refine ah hJ ?_;simp only[*,go_sem];refine az ?_;simp only[*,go_sem]
 revert h;refine bS fun I k h=>?_;try simp only[*,go_sem]
 refine bn hJ _ (gY u0.bK 0 60 k) (aJ ?_);revert h;refine cS (fun l h=>?_) fun l h=>?_
 ·obtain rfl:=sI h;try simp only[*,go_sem]
  refine bE hJ (by simp only[*,go_sem]) ?_;refine ah hJ ?_;simp only[*,go_sem];refine az ?_;simp only[*,go_sem]
 revert h;refine bS fun K m h=>?_;try simp only[*,go_sem]
 refine bn hJ _ (gY u0.aS.den 1 20 m) (aJ ?_);revert h;refine cS (fun n h=>?_) fun n h=>?_
 ·obtain rfl:=sI h;try simp only[*,go_sem]
  refine bE hJ (by simp only[*,go_sem]) ?_;refine ah hJ ?_;simp only[*,go_sem];refine az ?_;simp only[*,go_sem]
 revert h;refine bS fun L o h=>?_;try simp only[*,go_sem]
 refine bn hJ _ (gY u0.aS.num 0 20 o) (aJ ?_);try simp only[*,go_sem]
 revert h;refine jC hJ (by simp only[*,go_sem]) (fun p h=>?_) fun p h=>?_
 ·obtain rfl:=sI h;refine ah hJ ?_;simp only[*,go_sem];refine az ?_;simp only[*,go_sem]
 refine aH hJ (af hJ ?_);refine af hJ ?_;refine cP hJ mixed 10 1 (by simp only[*,go_sem]) (by kernel_rfl) ?_;revert h;refine bS fun M q h=>?_;simp only[*,go_sem];refine ⟨_,bC hJ fun F N=>Hz u0.aS.num u0.aS.den q,b7 ?_⟩;try simp only[*,go_sem]
 revert h;refine jC hJ (by simp only[*,go_sem]) (fun s h=>?_) fun s h=>?_
 ·obtain rfl:=sI h;refine af hJ ?_;refine fN [1,2] fun O t u w=>?_;simp only[*,go_sem] at t u w;clear e hd f;refine ak hJ ?_;simp only[*,go_sem];refine az ?_;simp only[*,go_sem]
 refine aH hJ (af hJ ?_);refine af hJ ?_;refine fN [1,2] fun P x y z=>?_;simp only[*,go_sem] at x y z;clear e hd f;refine ak hJ ?_;revert h;refine bS fun Q B h=>?_;simp only[*,go_sem];refine bn hJ _ (HE u0 (d.mono aR) B) (aJ ?_);try simp only[*,go_sem]
 refine ah hJ ?_;simp only[*,go_sem];revert h;refine jC hJ (by simp only[*,go_sem]) (fun C h=>?_) fun C h=>?_
 ·obtain rfl:=sI h;refine ah hJ ?_;simp only[*,go_sem];refine az ?_;simp only[*,go_sem]
 refine aH hJ (af hJ ?_);refine ak hJ ?_;revert h;refine bS fun R D h=>?_;obtain rfl:=sI h;simp only[*,go_sem];refine bn hJ _ (HF u0 (d.mono aR) D) (aJ ?_);try simp only[*,go_sem]
 refine az ?_;simp only[*,go_sem]
def xG (u0:bf):Option Int:=
 ag (eB u0.back 1 20) fun a=>cond (!a) (some 1) (ag (eB u0.high 0 60) fun b=>cond (!b) (some 1) (some 0))
theorem HH:Tryz.prog.underlying 3=some (.int .i64):=by kernel_rfl
theorem HI:Tryz.prog.underlying 5=some (.int .u8):=by kernel_rfl
attribute [go_sem] HH HI
def om (u0:aj):Option Bool:=
 ag (mS u0) fun a=>cond (!a) (ag (jb u0) fun b=>some (b==0)) (some false)
theorem HJ {ro:Addr->Option Value}(u0:aj){s1 b c d:Value}(a:bL ro u0 s1 b c d){r:Bool}(h:om u0=some r):aE Tryz.prog 12 #[bv u0 s1 b c d] ⟨ro,[]⟩ (fun v _=>v= .bool r):=by
 obtain ⟨d3,c4,rfl,k,l,-⟩:=id a.e;obtain ⟨d10,m,rfl,n,o,-⟩:=id a.p;obtain ⟨d17,q,rfl,s,u,-⟩:=id a.y;obtain ⟨d24,w,rfl,x,z,-⟩:=id a.t;unfold om at h;refine aE.go Tryz.func12 rfl Tryz.ntmps12 Tryz.results12 (by simp) fun main J hJ A B hd hs=>?_;have C:=hs 0;clear hs;refine ah hJ ?_;simp only[*,go_sem];refine aA fun D E f=>?_;try simp only[au] at f
 try simp only[*,go_sem]
 refine ah hJ ?_;revert h;refine bS fun F g h=>?_;simp only[*,go_sem];refine bn hJ _ (HB u0 (a.mono aR) g) (aJ ?_);revert h;refine cS (fun i h=>?_) fun i h=>?_
 ·revert h;refine bS fun G j h=>?_;obtain rfl:=sI h;try simp only[*,go_sem]
  refine bn hJ _ (HG u0 (a.mono aR) j) (aJ ?_);try simp only[*,go_sem]
  refine az ?_;simp only[*,go_sem]
 obtain rfl:=sI h;try simp only[*,go_sem]
 refine az ?_;simp only[*,go_sem]
def qm (u0:(List Int))(a:Int)(st:(Bool×Int)):Option (Fl (Bool×Int) Bool):=
 cond (decide (st.2<(u0.length:Int))) (ag (aY u0 st.2) fun b=>cond ((b==a)) (some (.rt true)) (some (.nx (st.1,(IntKind.i64.wrap (st.2+1)))))) (some (.bk (st.1,st.2)))
def mY (u0:(List Int))(a:Int):Option Bool:=
 ag (aU (qm u0 a) fu (false,0)) fun o=>aD o (fun b=>some false) (fun _ _=>none) (fun r=>some r)
theorem Bj {ro:Addr->Option Value}(u0:(List Int)){s1:Value}(g:aC rI ro s1 u0)(e:Int){r:Bool}(h:mY u0 e=some r):aE Tryz.prog 19 #[s1,.int .i64 e] ⟨ro,[]⟩ (fun v _=>v= .bool r):=by
 obtain ⟨d3,c4,rfl,F,G,-⟩:=id g;unfold mY at h;refine aE.go Tryz.func19 rfl Tryz.ntmps19 Tryz.results19 (by simp) fun main J hJ A o hd hs=>?_;have p:=hs 0;have k1:=hs 1;clear hs;refine ah hJ ?_;simp only[*,go_sem];refine af hJ (ah hJ ?_);simp only[*,go_sem];refine aN hJ ?_;revert h;refine bS fun q b i=>?_;refine bT hJ [4,5,6,7,8,9,10,11,12,13,14,15,16,17] (fun m j F'=>∃(c:Bool) (d:Int),aU (qm u0 e) m (c,d)=some q/\F'=⟨ro,[]⟩/\slot j 4= .bool c/\slot j 5= .int .i64 d) fu ?_ ?_
 ·refine ⟨false,0,b,rfl,?_⟩;simp only[*,go_sem]
 rintro f H F' k ⟨c,d,b,rfl,I,K⟩;obtain ⟨s,t,u⟩:=k.pick [0,1] (by decide);simp only[*,go_sem] at s t u;clear k o hd p k1;obtain _|f:=f
 ·exact absurd b (by simp only[aU,reduceCtorEq,not_false_eq_true])
 revert b;refine bS fun L h a=>?_;unfold qm at h;try dsimp only at h
 refine af hJ (ah hJ ?_);simp only[*,go_sem];revert h;refine jC hJ (by simp only[*,go_sem]) (fun w h=>?_) fun w h=>?_
 ·refine aH hJ (af hJ ?_);refine aN hJ (af hJ ?_);refine ak hJ ?_;revert h;refine bS fun x y h=>?_;obtain ⟨M,N,l⟩:=cE y;obtain ⟨O,z,B,C,n⟩:=g.el _ _ l;obtain rfl:z=[.int .i64 x]:=C;cases B;have D:=n 0 _ rfl;simp only[go_sem] at D;clear n l;try simp only[*,go_sem]
  revert h;refine jC hJ (by simp only[*,go_sem]) (fun E h=>?_) fun E h=>?_
  ·obtain rfl:=sI h;refine ah hJ ?_;simp only[*,go_sem];obtain rfl:=sI a;clear a;have h:=i;dsimp only[aD] at h;obtain rfl:=sI h;refine az ?_;simp only[*,go_sem]
  obtain rfl:=sI h;refine aH hJ (ak hJ ?_);simp only[*,go_sem];refine ⟨f,Nat.lt_succ_self _,_,Le.sub (List.Sublist.refl _),c,(IntKind.i64.wrap (d+1)),a,rfl,?_⟩;simp only[*,go_sem]
 obtain rfl:=sI h;refine bN ?_;simp only[go_sem];obtain rfl:=sI a;clear a;have h:=i;dsimp only[aD] at h;obtain rfl:=sI h;refine ah hJ ?_;simp only[*,go_sem];refine az ?_;simp only[*,go_sem]
def Bl (u0:aj)(c:aj)(st:(Bool×Int)):Option (Fl (Bool×Int) Bool):=
 cond (decide (st.2<(u0.told.length:Int))) (ag (aY u0.told st.2) fun a=>ag (aY c.told st.2) fun b=>cond (!((a.aQ==b.aQ)&&(a.bt==b.bt))) (some (.rt false)) (some (.nx (st.1,(IntKind.i64.wrap (st.2+1)))))) (some (.bk (st.1,st.2)))
def Bm (u0:aj)(c:aj)(st:(Bool×Int)):Option (Fl (Bool×Int) Bool):=
 cond (decide (st.2<(u0.av.length:Int))) (ag (aY u0.av st.2) fun a=>ag (aY c.av st.2) fun b=>cond (!((a.back==b.back)&&((a.high.low==b.high.low)&&(a.high.high==b.high.high)))) (some (.rt false)) (some (.nx (st.1,(IntKind.i64.wrap (st.2+1)))))) (some (.bk (st.1,st.2)))
def Bn (u0:aj)(c:aj)(st:(Bool×Int)):Option (Fl (Bool×Int) Bool):=
 cond (decide (st.2<(u0.props.length:Int))) (ag (aY u0.props st.2) fun a=>ag (aY c.props st.2) fun b=>cond (!((a.place==b.place)&&(a.de==b.de))) (some (.rt false)) (some (.nx (st.1,(IntKind.i64.wrap (st.2+1)))))) (some (.bk (st.1,st.2)))
def xH (u0:aj)(c:aj)(st:(Bool×Int)):Option (Fl (Bool×Int) Bool):=
 cond (decide (st.2<(u0.ax.length:Int))) (ag (aY u0.ax st.2) fun a=>ag (aY c.ax st.2) fun b=>cond (!((a.aL==b.aL)&&(a.high==b.high))) (some (.rt false)) (some (.nx (st.1,(IntKind.i64.wrap (st.2+1)))))) (some (.bk (st.1,st.2)))
def HK (u0:aj)(c:aj)(st:(Bool×Int)):Option (Fl (Bool×Int) Bool):=
 cond (decide (st.2<(u0.props.length:Int))) (ag (aY u0.props st.2) fun a=>ag (aY c.props st.2) fun b=>cond (!((a.place==b.place)&&(a.de==b.de))) (some (.rt false)) (some (.nx (st.1,(IntKind.i64.wrap (st.2+1)))))) (some (.bk (st.1,st.2)))
def HL (u0:aj)(c:aj)(st:(Bool×Int)):Option (Fl (Bool×Int) Bool):=
 cond (decide (st.2<(u0.av.length:Int))) (ag (aY u0.av st.2) fun a=>ag (aY c.av st.2) fun b=>cond (!((a.back==b.back)&&((a.high.low==b.high.low)&&(a.high.high==b.high.high)))) (some (.rt false)) (some (.nx (st.1,(IntKind.i64.wrap (st.2+1)))))) (some (.bk (st.1,st.2)))
def HM (u0:aj)(c:aj)(st:(Bool×Int)):Option (Fl (Bool×Int) Bool):=
 cond (decide (st.2<(u0.told.length:Int))) (ag (aY u0.told st.2) fun a=>ag (aY c.told st.2) fun b=>cond (!((a.aQ==b.aQ)&&(a.bt==b.bt))) (some (.rt false)) (some (.nx (st.1,(IntKind.i64.wrap (st.2+1)))))) (some (.bk (st.1,st.2)))
def qn (u0:aj)(a:aj):Option Bool:=
 cond ((u0.bH != a.bH)) (some false) (cond ((u0.bK != a.bK)) (some false) (cond (!((u0.aS.num==a.aS.num)&&(u0.aS.den==a.aS.den))) (some false) (cond (((u0.ax.length:Int) != (a.ax.length:Int))) (some false) (cond (((u0.props.length:Int) != (a.props.length:Int))) (some false) (cond (((u0.av.length:Int) != (a.av.length:Int))) (some false) (cond (((u0.told.length:Int) != (a.told.length:Int))) (some false) (ag (aU (xH u0 a) fu (false,0)) fun o=>aD o (fun b=>ag (aU (HK u0 a) fu (b.1,0)) fun o=>aD o (fun c=>ag (aU (HL u0 a) fu (c.1,0)) fun o=>aD o (fun d=>ag (aU (HM u0 a) fu (d.1,0)) fun o=>aD o (fun e=>some true) (fun _ _=>none) (fun r=>some r)) (fun _ _=>none) (fun r=>some r)) (fun _ _=>none) (fun r=>some r)) (fun _ _=>none) (fun r=>some r))))))))
set_option maxHeartbeats 40000000 in
theorem HN {ro:Addr->Option Value}(u0:aj){s1 a2 a3 a4:Value}(c:bL ro u0 s1 a2 a3 a4)(a:aj){a5 a6 a7 a8:Value}(d:bL ro a a5 a6 a7 a8){r:Bool}(h:qn u0 a=some r):aE Tryz.prog 20 #[bv u0 s1 a2 a3 a4,bv a a5 a6 a7 a8] ⟨ro,[]⟩ (fun v _=>v= .bool r):=by
 obtain ⟨d3,c4,rfl,hQ,hR,-⟩:=id c.e;obtain ⟨d10,z,rfl,hS,hT,-⟩:=id c.p;obtain ⟨d17,B,rfl,hV,hX,-⟩:=id c.y;obtain ⟨d24,C,rfl,hY,hZ,-⟩:=id c.t;obtain ⟨d31,D,rfl,h0,h1,-⟩:=id d.e;obtain ⟨d38,E,rfl,h2,h3,-⟩:=id d.p;obtain ⟨d45,F,rfl,h4,h5,-⟩:=id d.y;obtain ⟨d52,G,rfl,h6,h7,-⟩:=id d.t;unfold qn at h;refine aE.go Tryz.func20 rfl Tryz.ntmps20 Tryz.results20 (by simp) fun main J hJ A b4 hd hs=>?_;have b5:=hs 0;have k1:=hs 1;clear hs;refine ah hJ ?_;try simp (maxSteps:=9^9) only[*,go_sem]
 refine aA fun f h8 ca=>?_;try simp only[au] at ca
 refine aA fun g h9 cb=>?_;try simp only[au] at cb
 try simp (maxSteps:=9^9) only[*,go_sem]
 refine af hJ (ah hJ ?_);revert h;refine cS (fun cd h=>?_) fun cd h=>?_
 ·obtain rfl:=sI h;try simp (maxSteps:=9^9) only[*,go_sem]
  refine bE hJ (by simp (maxSteps:=9^9) only[*,go_sem]) ?_;refine ah hJ ?_;try simp (maxSteps:=9^9) only[*,go_sem]
  refine az ?_;try simp only[*,go_sem]
 revert h;refine cS (fun cf h=>?_) fun cf h=>?_
 ·obtain rfl:=sI h;try simp (maxSteps:=9^9) only[*,go_sem]
  refine bE hJ (by simp (maxSteps:=9^9) only[*,go_sem]) ?_;refine ah hJ ?_;try simp (maxSteps:=9^9) only[*,go_sem]
  refine az ?_;try simp only[*,go_sem]
 revert h;refine cS (fun cl h=>?_) fun cl h=>?_
 ·obtain rfl:=sI h;try simp (maxSteps:=9^9) only[*,go_sem]
  refine bE hJ (by simp (maxSteps:=9^9) only[*,go_sem]) ?_;refine ah hJ ?_;try simp (maxSteps:=9^9) only[*,go_sem]
  refine az ?_;try simp only[*,go_sem]
 revert h;refine cS (fun cu h=>?_) fun cu h=>?_
 ·obtain rfl:=sI h;try simp (maxSteps:=9^9) only[*,go_sem]
  refine bE hJ (by simp (maxSteps:=9^9) only[*,go_sem]) ?_;refine ah hJ ?_;try simp (maxSteps:=9^9) only[*,go_sem]
  refine az ?_;try simp only[*,go_sem]
 revert h;refine cS (fun cy h=>?_) fun cy h=>?_
 ·obtain rfl:=sI h;try simp (maxSteps:=9^9) only[*,go_sem]
  refine bE hJ (by simp (maxSteps:=9^9) only[*,go_sem]) ?_;refine ah hJ ?_;try simp (maxSteps:=9^9) only[*,go_sem]
  refine az ?_;try simp only[*,go_sem]
 revert h;refine cS (fun c0 h=>?_) fun c0 h=>?_
 ·obtain rfl:=sI h;try simp (maxSteps:=9^9) only[*,go_sem]
  refine bE hJ (by simp (maxSteps:=9^9) only[*,go_sem]) ?_;refine ah hJ ?_;try simp (maxSteps:=9^9) only[*,go_sem]
  refine az ?_;try simp only[*,go_sem]
 try simp (maxSteps:=9^9) only[*,go_sem]
 revert h;refine cS (fun da h=>?_) fun da h=>?_
 ·obtain rfl:=sI h;refine bE hJ (by simp (maxSteps:=9^9) only[*,go_sem]) ?_;refine ah hJ ?_;try simp (maxSteps:=9^9) only[*,go_sem]
  refine az ?_;try simp only[*,go_sem]
 refine bD hJ (by simp (maxSteps:=9^9) only[*,go_sem]) ?_;refine aH hJ (af hJ ?_);refine ah hJ ?_;try simp (maxSteps:=9^9) only[*,go_sem]
 refine aN hJ ?_;revert h;refine bS fun db H a9=>?_;refine bT hJ [4,5,64,65,66,67,68,69,70,71,72,73,74,75,76,77,78,79,80,81] (fun m b F'=>∃(i:Bool) (I:Int),aU (xH u0 a) m (i,I)=some db/\F'=⟨ro,(g,bk a (sl d31 a.ax D) (sl d38 a.props E) (sl d45 a.av F) (sl d52 a.told G))::(f,bk u0 (sl d3 u0.ax c4) (sl d10 u0.props z) (sl d17 u0.av B) (sl d24 u0.told C))::[]⟩/\slot b 4= .bool i/\slot b 5= .int .i64 I) fu ?_ ?_
 ·refine ⟨false,0,H,rfl,?_⟩;try simp (maxSteps:=9^9) only[*,go_sem]
 rintro X K F' j ⟨i,I,H,rfl,dd,df⟩;have dk:sz K=136:=by rw[j.size];simp (maxSteps:=9^9) only[*,go_sem]
 have dp:K.defers=[]:=by rw[j.defers];simp (maxSteps:=9^9) only[*,go_sem]
 have dq:slot K 2= .pointer (some ⟨f,0,none⟩):=by rw[j.dS 2 (by decide)];simp (maxSteps:=9^9) only[*,go_sem]
 have ds:slot K 3= .pointer (some ⟨g,0,none⟩):=by rw[j.dS 3 (by decide)];simp (maxSteps:=9^9) only[*,go_sem]
 clear j b4 hd b5 k1;obtain _|X:=X
 ·exact absurd H (by simp only[aU,reduceCtorEq,not_false_eq_true])
 revert H;refine bS fun ib h k=>?_;unfold xH at h;try dsimp only at h
 refine af hJ (ah hJ ?_);try simp (maxSteps:=9^9) only[*,go_sem]
 revert h;refine cS (fun ba h=>?_) fun ba h=>?_
 ·try simp only[Int.ofNat_lt] at ba
  refine bE hJ (by simp (maxSteps:=9^9) only[*,go_sem]) ?_;refine aH hJ (af hJ ?_);refine aN hJ (af hJ ?_);refine cP hJ mixed 11 2 (by simp (maxSteps:=9^9) only[*,go_sem]) (by kernel_rfl) ?_;revert h;refine bS fun dt du h=>?_;obtain ⟨ic,ih,bb⟩:=cE du;obtain ⟨ik,dv,dC,dE,Y⟩:=c.e.el _ _ bb;obtain rfl:dv=dt.cells:=dE;cases dC;have dT:=Y 0 _ rfl;simp only[go_sem] at dT;have ea:=Y 1 _ rfl;simp only[go_sem] at ea;clear Y bb;revert h;refine bS fun eb ec h=>?_;obtain ⟨il,im,bc⟩:=cE ec;obtain ⟨iv,ed,eh,et,Z⟩:=d.e.el _ _ bc;obtain rfl:ed=eb.cells:=et;cases eh;have eu:=Z 0 _ rfl;simp only[go_sem] at eu;have ev:=Z 1 _ rfl;simp only[go_sem] at ev;clear Z bc;try simp (maxSteps:=9^9) only[*,go_sem]
  revert h;refine cS (fun eQ h=>?_) fun eQ h=>?_
  ·obtain rfl:=sI h;refine bE hJ (by simp (maxSteps:=9^9) only[*,go_sem]) ?_;refine ah hJ ?_;(try simp (maxSteps:=9^9) only[*,go_sem]);obtain rfl:=sI k;clear k;have h:=a9;dsimp only[aD] at h;obtain rfl:=sI h;refine az ?_;try simp only[*,go_sem]
  obtain rfl:=sI h;refine bD hJ (by simp (maxSteps:=9^9) only[*,go_sem]) ?_;refine aH hJ (ak hJ ?_);try simp (maxSteps:=9^9) only[*,go_sem]
  try simp (maxSteps:=9^9) only[*,go_sem]
  refine ⟨X,Nat.lt_succ_self _,_,Le.sub (List.Sublist.refl _),i,(IntKind.i64.wrap (I+1)),k,rfl,?_⟩;try simp (maxSteps:=9^9) only[*,go_sem]
 obtain rfl:=sI h;refine bD hJ (by simp (maxSteps:=9^9) only[*,go_sem]) ?_;refine bN ?_;try simp only[go_sem]
 obtain rfl:=sI k;clear k;have h:=a9;dsimp only[aD] at h;refine af hJ (ah hJ ?_);try simp (maxSteps:=9^9) only[*,go_sem]
 refine aN hJ ?_;revert h;refine bS fun eS L bd=>?_;refine bT hJ [4,6,82,83,84,85,86,87,88,89,90,91,92,93,94,95,96,97,98,99] (fun m b F'=>∃(l:Bool) (M:Int),aU (Bn u0 a) m (l,M)=some eS/\F'=⟨ro,(g,bk a (sl d31 a.ax D) (sl d38 a.props E) (sl d45 a.av F) (sl d52 a.told G))::(f,bk u0 (sl d3 u0.ax c4) (sl d10 u0.props z) (sl d17 u0.av B) (sl d24 u0.told C))::[]⟩/\slot b 4= .bool l/\slot b 6= .int .i64 M) fu ?_ ?_
 ·refine ⟨i,0,L,rfl,?_⟩;try simp (maxSteps:=9^9) only[*,go_sem]
 rintro ab N F' n ⟨l,M,L,rfl,e0,e1⟩;have e2:sz N=136:=by rw[n.size];simp (maxSteps:=9^9) only[*,go_sem]
 have e3:N.defers=[]:=by rw[n.defers];simp (maxSteps:=9^9) only[*,go_sem]
 have fa:slot N 2= .pointer (some ⟨f,0,none⟩):=by rw[n.dS 2 (by decide)];simp (maxSteps:=9^9) only[*,go_sem]
 have fb:slot N 3= .pointer (some ⟨g,0,none⟩):=by rw[n.dS 3 (by decide)];simp (maxSteps:=9^9) only[*,go_sem]
 clear n dk dp dq ds dd df;obtain _|ab:=ab
 ·exact absurd L (by simp only[aU,reduceCtorEq,not_false_eq_true])
 revert L;refine bS fun ix h o=>?_;unfold Bn at h;try dsimp only at h
 refine af hJ (ah hJ ?_);try simp (maxSteps:=9^9) only[*,go_sem]
 revert h;refine cS (fun bj h=>?_) fun bj h=>?_
 ·try simp only[Int.ofNat_lt] at bj
  refine bE hJ (by simp (maxSteps:=9^9) only[*,go_sem]) ?_;refine aH hJ (af hJ ?_);refine aN hJ (af hJ ?_);refine cP hJ mixed 11 2 (by simp (maxSteps:=9^9) only[*,go_sem]) (by kernel_rfl) ?_;revert h;refine bS fun fg fi h=>?_;obtain ⟨jC,j1,bl⟩:=cE fi;obtain ⟨j2,fo,fp,fr,ad⟩:=c.p.el _ _ bl;obtain rfl:fo=fg.cells:=fr;cases fp;have fs:=ad 0 _ rfl;simp only[go_sem] at fs;have ft:=ad 1 _ rfl;simp only[go_sem] at ft;clear ad bl;revert h;refine bS fun fv fw h=>?_;obtain ⟨kh,kj,bm⟩:=cE fw;obtain ⟨kk,fx,gg,gl,ae⟩:=d.p.el _ _ bm;obtain rfl:fx=fv.cells:=gl;cases gg;have gn:=ae 0 _ rfl;simp only[go_sem] at gn;have gp:=ae 1 _ rfl;simp only[go_sem] at gp;clear ae bm;try simp (maxSteps:=9^9) only[*,go_sem]
  revert h;refine cS (fun gB h=>?_) fun gB h=>?_
  ·obtain rfl:=sI h;refine bE hJ (by simp (maxSteps:=9^9) only[*,go_sem]) ?_;refine ah hJ ?_;(try simp (maxSteps:=9^9) only[*,go_sem]);obtain rfl:=sI o;clear o;have h:=bd;dsimp only[aD] at h;obtain rfl:=sI h;refine az ?_;try simp only[*,go_sem]
  obtain rfl:=sI h;refine bD hJ (by simp (maxSteps:=9^9) only[*,go_sem]) ?_;refine aH hJ (ak hJ ?_);try simp (maxSteps:=9^9) only[*,go_sem]
  try simp (maxSteps:=9^9) only[*,go_sem]
  refine ⟨ab,Nat.lt_succ_self _,_,Le.sub (List.Sublist.refl _),l,(IntKind.i64.wrap (M+1)),o,rfl,?_⟩;try simp (maxSteps:=9^9) only[*,go_sem]
 obtain rfl:=sI h;refine bD hJ (by simp (maxSteps:=9^9) only[*,go_sem]) ?_;refine bN ?_;try simp only[go_sem]
 obtain rfl:=sI o;clear o;have h:=bd;dsimp only[aD] at h;refine af hJ (ah hJ ?_);try simp (maxSteps:=9^9) only[*,go_sem]
 refine aN hJ ?_;revert h;refine bS fun gC O bo=>?_;refine bT hJ [4,7,100,101,102,103,104,105,106,107,108,109,110,111,112,113,114,115,116,117] (fun m b F'=>∃(q:Bool) (P:Int),aU (Bm u0 a) m (q,P)=some gC/\F'=⟨ro,(g,bk a (sl d31 a.ax D) (sl d38 a.props E) (sl d45 a.av F) (sl d52 a.told G))::(f,bk u0 (sl d3 u0.ax c4) (sl d10 u0.props z) (sl d17 u0.av B) (sl d24 u0.told C))::[]⟩/\slot b 4= .bool q/\slot b 7= .int .i64 P) fu ?_ ?_
 ·refine ⟨l,0,O,rfl,?_⟩;try simp (maxSteps:=9^9) only[*,go_sem]
 rintro al Q F' s ⟨q,P,O,rfl,gM,gT⟩;have gV:sz Q=136:=by rw[s.size];simp (maxSteps:=9^9) only[*,go_sem]
 have g0:Q.defers=[]:=by rw[s.defers];simp (maxSteps:=9^9) only[*,go_sem]
 have g1:slot Q 2= .pointer (some ⟨f,0,none⟩):=by rw[s.dS 2 (by decide)];simp (maxSteps:=9^9) only[*,go_sem]
 have g2:slot Q 3= .pointer (some ⟨g,0,none⟩):=by rw[s.dS 3 (by decide)];simp (maxSteps:=9^9) only[*,go_sem]
 clear s e2 e3 fa fb e0 e1;obtain _|al:=al
 ·exact absurd O (by simp only[aU,reduceCtorEq,not_false_eq_true])
 revert O;refine bS fun kl h u=>?_;unfold Bm at h;try dsimp only at h
 refine af hJ (ah hJ ?_);try simp (maxSteps:=9^9) only[*,go_sem]
 revert h;refine cS (fun br h=>?_) fun br h=>?_
 ·try simp only[Int.ofNat_lt] at br
  refine bE hJ (by simp (maxSteps:=9^9) only[*,go_sem]) ?_;refine aH hJ (af hJ ?_);refine aN hJ (af hJ ?_);refine cP hJ mixed 11 2 (by simp (maxSteps:=9^9) only[*,go_sem]) (by kernel_rfl) ?_;revert h;refine bS fun g3 g4 h=>?_;obtain ⟨km,kn,bs⟩:=cE g4;obtain ⟨kp,ha,hc,hf,R⟩:=c.y.el _ _ bs;obtain rfl:ha=g3.cells:=hf;cases hc;have hg:=R 0 _ rfl;simp only[go_sem] at hg;have hh:=R 1 _ rfl;simp only[go_sem] at hh;have hi:=R 2 _ rfl;simp only[go_sem] at hi;clear R bs;revert h;refine bS fun hj hk h=>?_;obtain ⟨ks,kt,bz⟩:=cE hk;obtain ⟨kv,hl,hn,ho,S⟩:=d.y.el _ _ bz;obtain rfl:hl=hj.cells:=ho;cases hn;have hp:=S 0 _ rfl;simp only[go_sem] at hp;have hq:=S 1 _ rfl;simp only[go_sem] at hq;have hr:=S 2 _ rfl;simp only[go_sem] at hr;clear S bz;try simp (maxSteps:=9^9) only[*,go_sem]
  revert h;refine cS (fun ht h=>?_) fun ht h=>?_
  ·obtain rfl:=sI h;refine bE hJ (by simp (maxSteps:=9^9) only[*,go_sem]) ?_;refine ah hJ ?_;(try simp (maxSteps:=9^9) only[*,go_sem]);obtain rfl:=sI u;clear u;have h:=bo;dsimp only[aD] at h;obtain rfl:=sI h;refine az ?_;try simp only[*,go_sem]
  obtain rfl:=sI h;refine bD hJ (by simp (maxSteps:=9^9) only[*,go_sem]) ?_;refine aH hJ (ak hJ ?_);try simp (maxSteps:=9^9) only[*,go_sem]
  try simp (maxSteps:=9^9) only[*,go_sem]
  refine ⟨al,Nat.lt_succ_self _,_,Le.sub (List.Sublist.refl _),q,(IntKind.i64.wrap (P+1)),u,rfl,?_⟩;try simp (maxSteps:=9^9) only[*,go_sem]
 obtain rfl:=sI h;refine bD hJ (by simp (maxSteps:=9^9) only[*,go_sem]) ?_;refine bN ?_;try simp only[go_sem]
 obtain rfl:=sI u;clear u;have h:=bo;dsimp only[aD] at h;refine af hJ (ah hJ ?_);try simp (maxSteps:=9^9) only[*,go_sem]
 refine aN hJ ?_;revert h;refine bS fun hv T b0=>?_;refine bT hJ [4,8,118,119,120,121,122,123,124,125,126,127,128,129,130,131,132,133,134,135] (fun m b F'=>∃(U:Bool) (V:Int),aU (Bl u0 a) m (U,V)=some hv/\F'=⟨ro,(g,bk a (sl d31 a.ax D) (sl d38 a.props E) (sl d45 a.av F) (sl d52 a.told G))::(f,bk u0 (sl d3 u0.ax c4) (sl d10 u0.props z) (sl d17 u0.av B) (sl d24 u0.told C))::[]⟩/\slot b 4= .bool U/\slot b 8= .int .i64 V) fu ?_ ?_
 ·refine ⟨q,0,T,rfl,?_⟩;try simp (maxSteps:=9^9) only[*,go_sem]
 rintro ao W F' w ⟨U,V,T,rfl,kx,ky⟩;have k0:sz W=136:=by rw[w.size];simp (maxSteps:=9^9) only[*,go_sem]
 have k2:W.defers=[]:=by rw[w.defers];simp (maxSteps:=9^9) only[*,go_sem]
 have lb:slot W 2= .pointer (some ⟨f,0,none⟩):=by rw[w.dS 2 (by decide)];simp (maxSteps:=9^9) only[*,go_sem]
 have lh:slot W 3= .pointer (some ⟨g,0,none⟩):=by rw[w.dS 3 (by decide)];simp (maxSteps:=9^9) only[*,go_sem]
 clear w gV g0 g1 g2 gM gT;obtain _|ao:=ao
 ·exact absurd T (by simp only[aU,reduceCtorEq,not_false_eq_true])
 revert T;refine bS fun lj h x=>?_;unfold Bl at h;try dsimp only at h
 refine af hJ (ah hJ ?_);try simp (maxSteps:=9^9) only[*,go_sem]
 revert h;refine cS (fun b1 h=>?_) fun b1 h=>?_
 ·try simp only[Int.ofNat_lt] at b1
  refine bE hJ (by simp (maxSteps:=9^9) only[*,go_sem]) ?_;refine aH hJ (af hJ ?_);refine aN hJ (af hJ ?_);refine cP hJ mixed 11 2 (by simp (maxSteps:=9^9) only[*,go_sem]) (by kernel_rfl) ?_;revert h;refine bS fun hx hy h=>?_;obtain ⟨lk,ll,b2⟩:=cE hy;obtain ⟨ln,hz,hA,hB,ar⟩:=c.t.el _ _ b2;obtain rfl:hz=hx.cells:=hB;cases hA;have hD:=ar 0 _ rfl;simp only[go_sem] at hD;have hE:=ar 1 _ rfl;simp only[go_sem] at hE;clear ar b2;revert h;refine bS fun hF hG h=>?_;obtain ⟨lo,lr,b3⟩:=cE hG;obtain ⟨lv,hI,hK,hL,a0⟩:=d.t.el _ _ b3;obtain rfl:hI=hF.cells:=hL;cases hK;have hM:=a0 0 _ rfl;simp only[go_sem] at hM;have hN:=a0 1 _ rfl;simp only[go_sem] at hN;clear a0 b3;try simp (maxSteps:=9^9) only[*,go_sem]
  revert h;refine cS (fun hP h=>?_) fun hP h=>?_
  ·obtain rfl:=sI h;refine bE hJ (by simp (maxSteps:=9^9) only[*,go_sem]) ?_;refine ah hJ ?_;(try simp (maxSteps:=9^9) only[*,go_sem]);obtain rfl:=sI x;clear x;have h:=b0;dsimp only[aD] at h;obtain rfl:=sI h;refine az ?_;try simp only[*,go_sem]
  obtain rfl:=sI h;refine bD hJ (by simp (maxSteps:=9^9) only[*,go_sem]) ?_;refine aH hJ (ak hJ ?_);try simp (maxSteps:=9^9) only[*,go_sem]
  try simp (maxSteps:=9^9) only[*,go_sem]
  refine ⟨ao,Nat.lt_succ_self _,_,Le.sub (List.Sublist.refl _),U,(IntKind.i64.wrap (V+1)),x,rfl,?_⟩;try simp (maxSteps:=9^9) only[*,go_sem]
 obtain rfl:=sI h;refine bD hJ (by simp (maxSteps:=9^9) only[*,go_sem]) ?_;refine bN ?_;try simp only[go_sem]
 obtain rfl:=sI x;clear x;have h:=b0;dsimp only[aD] at h;obtain rfl:=sI h;refine ah hJ ?_;try simp (maxSteps:=9^9) only[*,go_sem]
 refine az ?_;try simp only[*,go_sem]
end Go.Proofs.YtpgcmoanfifglaaGreatDoor
end

/- A part of the proof of a row and its tied card: QH4. -/
import Derived.Test.YtpgcmoanfifglaaGreatDoorQH3
set_option linter.all false
section
namespace Go.Proofs.YtpgcmoanfifglaaGreatDoor
open Go Go.Sep Go.Proofs
set_option maxRecDepth 100000
set_option maxHeartbeats 4000000
theorem Gb:Tryz.prog.underlying 3=some (.int .i64):=by kernel_rfl
attribute [go_sem] Gb
theorem Gc:Tryz.prog.underlying 187=some (.int .u64):=by kernel_rfl
attribute [go_sem] Gc
theorem Gd:Tryz.prog.underlying 205=some (.int .u64):=by kernel_rfl
attribute [go_sem] Gd
theorem Ge:Tryz.prog.underlying 254=some (.int .u64):=by kernel_rfl
attribute [go_sem] Ge
def vF (u0:Int):Option (Int×Int):=
 ag (oV u0 13) fun a=>ag (uF (gI u0 a) 7) fun b=>ag (oV (gI (gI u0 a) b) 17) fun c=>some ((gI (gI (gI u0 a) b) c),(gI (gI (gI u0 a) b) c))
theorem Gf {ro:Addr->Option Value}(u0:Int){a:Nat}(r1:∀off sp,ro ⟨a,off,sp⟩=none){r:(Int×Int)}(h:vF u0=some r):aC Tryz.prog 202 #[.pointer (some ⟨a,0,none⟩)] ⟨ro,[(a,.cells #[.int .u64 u0] 254)]⟩ (fun v G=>∃b,(v= .int .u64 r.1/\b=[(a,.cells #[.int .u64 r.2] 254)])/\Le ⟨ro,b⟩ G):=by
 unfold vF at h;refine aC.go Tryz.func202 rfl Tryz.ntmps202 Tryz.results202 (by simp) fun main J hJ A g hd hs=>?_;have i:=hs 0;clear hs;refine ah hJ ?_;simp only[*,go_sem];refine af hJ ?_;refine eG hJ mixed [9] (.pure 0 (.pure 1 (.rd 2 (.pure 3 (.pure 4 (.rd 5 (.pure 6 (.pure 7 (.pure 8 (.last 9 .done)))))))))) ⟨ro,[(a,.cells #[.int .u64 u0] 254)]⟩ (by simp only[*,go_sem]) (by kernel_rfl) ?_;revert h;refine bS fun c d h=>?_;obtain ⟨q,j⟩:=uE d;clear d;try simp only[go_sem] at j
 try simp only[*,go_sem]
 refine af hJ ?_;refine eG hJ mixed [9] (.pure 0 (.pure 1 (.rd 2 (.pure 3 (.pure 4 (.rd 5 (.pure 6 (.pure 7 (.pure 8 (.last 9 .done)))))))))) ⟨ro,[(a,.cells #[.int .u64 (gI u0 c)] 254)]⟩ (by simp only[*,go_sem]) (by kernel_rfl) ?_;revert h;refine bS fun k e h=>?_;obtain ⟨s,l⟩:=D8 e;clear e;try simp only[go_sem] at l
 try simp only[*,go_sem]
 refine af hJ ?_;refine eG hJ mixed [9] (.pure 0 (.pure 1 (.rd 2 (.pure 3 (.pure 4 (.rd 5 (.pure 6 (.pure 7 (.pure 8 (.last 9 .done)))))))))) ⟨ro,[(a,.cells #[.int .u64 (gI (gI u0 c) k)] 254)]⟩ (by simp only[*,go_sem]) (by kernel_rfl) ?_;revert h;refine bS fun t f h=>?_;obtain rfl:=sI h;obtain ⟨u,m⟩:=uE f;clear f;try simp only[go_sem] at m
 try simp only[*,go_sem]
 refine af hJ ?_;refine fL [0,2] fun w n o p=>?_;simp only[*,go_sem] at n o p;clear g hd i;refine aj hJ ?_;simp only[*,go_sem];refine av ?_;simp only[*,go_sem];exact ⟨_,rfl,Le.sub (List.Sublist.refl _)⟩
def vG (u0:Int):Option Int:=
 ag (r7 (IntKind.u64.wrap u0)) fun a=>ag (oV 1 a) fun b=>some b
theorem Gg {ro:Addr->Option Value}(u0:Int){r:Int}(h:vG u0=some r):aC Tryz.prog 201 #[.int .i64 u0] ⟨ro,[]⟩ (fun v _=>v= .int .u64 r):=by
 unfold vG at h;refine aC.go Tryz.func201 rfl Tryz.ntmps201 Tryz.results201 (by simp) fun main J hJ A d hd hs=>?_;have e:=hs 0;clear hs;refine ah hJ ?_;simp only[*,go_sem];refine ah hJ ?_;revert h;refine bS fun f b h=>?_;simp only[*,go_sem];refine bh hJ _ (Au (IntKind.u64.wrap u0) b) (aJ ?_);revert h;refine bS fun g a h=>?_;obtain rfl:=sI h;obtain ⟨i,c⟩:=uE a;clear a;try simp only[go_sem] at c
 try simp only[*,go_sem]
 refine av ?_;simp only[*,go_sem]
def vH (a:Int)(e:Int)(c:Int)(h:Int)(st:(Int×(List Int)×Int)):Option (Fl (Int×(List Int)×Int) (Unit×(List Int))):=
 cond (decide (st.1<=(IntKind.i64.wrap ((IntKind.i64.wrap (a+(IntKind.i64.wrap (h*2))))+1)))) (ag (ag (vF st.2.2) fun b=>ag (cond (decide ((IntKind.i64.wrap (e - a))<=(IntKind.i64.wrap (gZ b.1 (IntKind.u64.wrap (c - 1)))))) (some (.bk (IntKind.i64.wrap ((IntKind.i64.wrap (gZ b.1 (IntKind.u64.wrap (c - 1)))) - (IntKind.i64.wrap (e - a)))))) (some (.bk (IntKind.i64.wrap (gZ b.1 (IntKind.u64.wrap (c - 1)))))):Option (Fl Int (Unit×(List Int)))) fun o=>aB o (fun d=>ag (bn st.2.1 (IntKind.i64.wrap (a+d))) fun f=>ag (bn st.2.1 st.1) fun i=>ag (bn (st.2.1.set (st.1).toNat f) (IntKind.i64.wrap (a+d))) fun j=>some (.bk (((st.2.1.set (st.1).toNat f).set (IntKind.i64.wrap (a+d)).toNat i),b.2))) (fun _ _=>none) (fun r=>some (.rt r)):Option (Fl ((List Int)×Int) (Unit×(List Int)))) fun o=>aB o (fun g=>some (.nx ((IntKind.i64.wrap (st.1+1)),g.1,g.2))) (fun _ _=>none) (fun r=>some (.rt r))) (some (.bk (st.1,st.2.1,st.2.2)))
def vI (u0:(List Int))(a:Int)(b:Int):Option (Unit×(List Int)):=
 cond (List.isEmpty u0) none (cond (decide (8<=(IntKind.i64.wrap (b - a)))) (ag (vG (IntKind.i64.wrap (b - a))) fun d=>ag (fy (IntKind.i64.wrap (b - a)) 4) fun c=>ag (aY (vH a b d c) fu ((IntKind.i64.wrap ((IntKind.i64.wrap (a+(IntKind.i64.wrap (c*2)))) - 1)),u0,(IntKind.u64.wrap (IntKind.i64.wrap (b - a))))) fun o=>aB o (fun e=>some ((),e.2.1)) (fun _ _=>none) (fun r=>some r)) (some ((),u0)))
theorem Gh {ro:Addr->Option Value}(u0:(List Int)){x:Value}{H:List (Nat×Obj)}(l:aN rI ro 3 x u0 H)(b:Int)(d:Int){r:(Unit×(List Int))}(h:vI u0 b d=some r):aC Tryz.prog 179 #[x,.int .i64 b,.int .i64 d] ⟨ro,H⟩ (fun v G=>∃n,(v= .tuple #[]/\aN rI ro 3 x r.2 n)/\Le ⟨ro,n⟩ G):=by
 obtain ⟨d1,c2,rfl,bm⟩:=l.len;unfold vI at h;revert h;refine cS (fun I h=>?_) fun I h=>?_
 ·cases h
 obtain ⟨c,T,rfl,rfl,bo⟩:=l.g9 I;refine aC.go Tryz.func179 rfl Tryz.ntmps179 Tryz.results179 (by simp) fun main J hJ A U hd hs=>?_;have V:=hs 0;have k1:=hs 1;have W:=hs 2;clear hs;refine af hJ ?_;refine ay hJ fun br=>?_;refine aj hJ ?_;simp only[*,go_sem];refine af hJ ?_;refine ay hJ fun bs=>?_;refine aj hJ ?_;simp only[*,go_sem];revert h;refine jC hJ (by simp only[*,go_sem]) (fun X h=>?_) fun X h=>?_
 ·refine af hJ ?_;refine ay hJ fun Y=>?_;refine aj hJ ?_;simp only[*,go_sem];refine az fun g Z K=>?_;have bz:=aP.cons K Y;try simp only[au] at K
  try simp only[*,go_sem]
  refine af hJ ?_;refine ay hJ fun b0=>?_;refine aj hJ ?_;revert h;refine bS fun j ab h=>?_;simp only[*,go_sem];refine bh hJ _ (Gg (IntKind.i64.wrap (d - b)) ab) (aJ ?_);try simp only[*,go_sem]
  refine af hJ ?_;refine ay hJ fun b1=>?_;refine aj hJ ?_;revert h;refine bS fun L M h=>?_;obtain ⟨b2,b3⟩:=jM M;clear M;try simp only[*,go_sem]
  refine aO hJ ?_;revert h;refine bS fun ad o ae=>?_;refine bQ hJ [9,10,26,27,28,29,30,31,32,33,34,35,36,37,38,39,40,41,42,43,44,45,46,47,48,49,50,51,52,53,54,55,56,57,58,59,60,61,62,63,64] (fun m a F'=>∃(e:Array Value) (f:Int) (p:(List Int)) (q:Int),aY (vH b d j L) m (f,p,q)=some ad/\F'=⟨ro,(g,.cells #[.int .u64 q] 254)::[(c,Obj.cells e 3)]⟩/\aN rI ro 3 (.slice (some ⟨c,0,none⟩) u0.length c2) p [(c,Obj.cells e 3)]/\slot a 9= .int .i64 f) fu ?_ ?_
  ·refine ⟨T,(IntKind.i64.wrap ((IntKind.i64.wrap (b+(IntKind.i64.wrap (L*2)))) - 1)),u0,(IntKind.u64.wrap (IntKind.i64.wrap (d - b))),o,rfl,l,?_⟩;simp only[*,go_sem]
  rintro y N F' O ⟨e,f,p,q,o,rfl,s,P⟩;obtain ⟨z,B,C⟩:=O.pick [0,1,6,7,8] (by decide);simp only[*,go_sem] at z B C;clear O U hd V k1 W;obtain _|y:=y
  ·exact absurd o (by simp only[aY,reduceCtorEq,not_false_eq_true])
  revert o;refine bS fun b4 h D=>?_;unfold vH at h;try dsimp only at h
  refine af hJ (af hJ ?_);refine ay hJ fun b5=>?_;refine aj hJ ?_;simp only[*,go_sem];revert h;refine jC hJ (by simp only[*,go_sem]) (fun al h=>?_) fun al h=>?_
  ·refine aH hJ ?_;revert h;refine bS fun ao h ar=>?_;refine fZ hJ (fun a F'=>∃(t:Array Value) (u:(List Int)) (w:Int),some (Fl.bk (u,w):Fl ((List Int)×Int) (Unit×(List Int)))=some ao/\F'=⟨ro,(g,.cells #[.int .u64 w] 254)::[(c,Obj.cells t 3)]⟩/\aN rI ro 3 (.slice (some ⟨c,0,none⟩) u0.length c2) u [(c,Obj.cells t 3)]/\sz a=65/\a.defers=[]/\cz [9,10,26,27,28,29,30,31,32,33,34,35,36,37,38,39,40,41,42,43,44,45,46,47,48,49,50,51,52,53,54,55,56,57,58,59,60,61,62,63,64] a N/\slot a 0= .slice (some ⟨c,0,none⟩) u0.length c2/\slot a 1= .int .i64 b/\slot a 6= .int .i64 (IntKind.i64.wrap (d - b))/\slot a 7= .pointer (some ⟨g,0,none⟩)/\slot a 8= .int .u64 j/\slot a 9= .int .i64 f) ?_ ?_
   ·refine aO hJ (af hJ ?_);refine ay hJ fun ca=>?_;refine aj hJ ?_;revert h;refine bS fun i a0 h=>?_;simp only[*,go_sem];refine dL hJ [] ([(c,Obj.cells e 3)]) _ (Gf q Z a0) (fun cb cd a2 n a3 cf=>?_);obtain ⟨rfl,rfl⟩:=a2;simp only[aT] at a3;subst n;refine ⟨⟨ro,(g,.cells #[.int .u64 i.2] 254)::[(c,Obj.cells e 3)]⟩,Le.refl _,?_⟩;refine aJ ?_;(try simp only[*,go_sem]);revert h;refine bS fun a4 h a5=>?_;refine fZ hJ (fun a F'=>∃(k:Int),some (Fl.bk k:Fl Int (Unit×(List Int)))=some a4/\F'=⟨ro,(g,.cells #[.int .u64 i.2] 254)::[(c,Obj.cells e 3)]⟩/\sz a=65/\a.defers=[]/\cz [9,10,26,27,28,29,30,31,32,33,34,35,36,37,38,39,40,41,42,43,44,45,46,47,48,49,50,51,52,53,54,55,56,57,58,59,60,61,62,63,64] a N/\slot a 0= .slice (some ⟨c,0,none⟩) u0.length c2/\slot a 1= .int .i64 b/\slot a 6= .int .i64 (IntKind.i64.wrap (d - b))/\slot a 7= .pointer (some ⟨g,0,none⟩)/\slot a 8= .int .u64 j/\slot a 9= .int .i64 f/\slot a 10= .int .i64 k) ?_ ?_
    ·refine af hJ ?_;refine ay hJ fun cl=>?_;refine aj hJ ?_;simp only[*,go_sem];revert h;refine jC hJ (by simp only[*,go_sem]) (fun a6 h=>?_) fun a6 h=>?_
     ·refine ay hJ fun cy=>?_;refine aj hJ ?_;simp only[*,go_sem];refine Qn.intro ⟨_,Le.sub (List.Sublist.refl _),(IntKind.i64.wrap ((IntKind.i64.wrap (gZ i.1 (IntKind.u64.wrap (j - 1)))) - (IntKind.i64.wrap (d - b)))),h,rfl,?_⟩;simp only[*,go_sem]
     refine aH hJ ?_;(try simp only[*,go_sem]);refine Qn.intro ⟨_,Le.sub (List.Sublist.refl _),(IntKind.i64.wrap (gZ i.1 (IntKind.u64.wrap (j - 1)))),h,rfl,?_⟩;simp only[*,go_sem]
    rintro c0 F' ⟨k,Q,rfl,da,db,dd,df,dk,dp,dq,ds,dt,du⟩;obtain rfl:=sI Q;clear Q;have h:=a5;dsimp only[aB] at h;clear z B C P;refine ay hJ fun dv=>?_;refine eG hJ mixed [17,18,19] (.pure 0 (.pure 1 (.pure 2 (.pure 3 (.pure 4 (.pure 5 (.pure 6 (.pure 7 (.pure 8 (.pure 9 (.pure 10 (.rd 11 (.pure 12 (.pure 13 (.pure 14 (.rd 15 (.pure 16 (.last 17 (.pure 18 (.last 19 .done)))))))))))))))))))) ⟨ro,[(g,.cells #[.int .u64 i.2] 254),(c,Obj.cells e 3)]⟩ (by simp only[*,go_sem]) (by kernel_rfl) ?_;revert h;refine bS fun E a7 h=>?_;obtain ⟨dC,dE,dT,ea⟩:=s.cL a7;revert h;refine bS fun F a8 h=>?_;obtain ⟨a9,ba,eb,ec⟩:=s.cL a8;have R:=s.fO a9 ba E;revert h;refine bS fun ed bb h=>?_;obtain ⟨bc,bd,eh,et⟩:=R.cL bb;have bj:=R.fO bc bd F;(try simp only[*,go_sem]);refine Qn.intro ⟨_,Le.sub (List.Sublist.refl _),(cF (cF e (f).toNat [.int .i64 E]) (IntKind.i64.wrap (b+k)).toNat [.int .i64 F]),((p.set (f).toNat E).set (IntKind.i64.wrap (b+k)).toNat F),i.2,h,rfl,bj,?_⟩;simp only[*,go_sem]
   rintro ev F' ⟨t,u,w,S,rfl,bl,eQ,eS,e0,e1,e2,e3,fa,fb,fg⟩;obtain rfl:=sI S;clear S;have h:=ar;dsimp only[aB] at h;obtain rfl:=sI h;clear z B C P;refine ay hJ fun fi=>?_;refine aj hJ ?_;simp only[*,go_sem];refine ⟨y,Nat.lt_succ_self _,_,Le.sub (List.Sublist.refl _),t,(IntKind.i64.wrap (f+1)),u,w,D,rfl,bl,?_⟩;simp only[*,go_sem]
  obtain rfl:=sI h;refine bN ?_;simp only[go_sem];obtain rfl:=sI D;clear D;have h:=ae;dsimp only[aB] at h;obtain rfl:=sI h;simp only[*,go_sem];exact ⟨_,s,Le.sub (.cons _ (List.Sublist.refl _))⟩
 obtain rfl:=sI h;refine aH hJ ?_;simp only[*,go_sem];exact ⟨_,l,Le.sub (List.Sublist.refl _)⟩
def vJ (u0:(List Int))(a:Int)(e:Int)(b:Int)(c:Int)(d:Int)(st:Int):Option (Fl Int ((Int×Bool)×(List Int))):=
 cond (decide (st<=(IntKind.i64.wrap (e - 1)))) (ag (bn ((u0.set (a).toNat c).set (b).toNat d) st) fun f=>ag (bn ((u0.set (a).toNat c).set (b).toNat d) a) fun g=>ag (hO f g) fun h=>cond (h) (some (.nx (IntKind.i64.wrap (st+1)))) (some (.bk st))) (some (.bk st))
def vK (u0:(List Int))(a:Int)(b:Int)(c:Int)(d:Int)(e:Int)(st:Int):Option (Fl Int ((Int×Bool)×(List Int))):=
 cond (decide (e<=st)) (ag (bn ((u0.set (a).toNat c).set (b).toNat d) st) fun f=>ag (bn ((u0.set (a).toNat c).set (b).toNat d) a) fun g=>ag (hO f g) fun h=>cond (!h) (some (.nx (IntKind.i64.wrap (st - 1)))) (some (.bk st))) (some (.bk st))
def vL (b:Int)(c:Int)(a:(List Int))(st:Int):Option (Fl Int ((Int×Bool)×(List Int))):=
 cond (decide (st<=c)) (ag (bn a st) fun d=>ag (bn a b) fun e=>ag (hO d e) fun f=>cond (f) (some (.nx (IntKind.i64.wrap (st+1)))) (some (.bk st))) (some (.bk st))
def vM (b:Int)(a:(List Int))(c:Int)(st:Int):Option (Fl Int ((Int×Bool)×(List Int))):=
 cond (decide (c<=st)) (ag (bn a st) fun d=>ag (bn a b) fun e=>ag (hO d e) fun f=>cond (!f) (some (.nx (IntKind.i64.wrap (st - 1)))) (some (.bk st))) (some (.bk st))
def vN (c:Int)(st:(Int×Int×(List Int))):Option (Fl (Int×Int×(List Int)) ((Int×Bool)×(List Int))):=
 ag (ag (aY (vL c st.2.1 st.2.2) fu st.1) fun o=>aB o (fun e=>some (.bk e)) (fun _ _=>none) (fun r=>some (.rt r)):Option (Fl Int ((Int×Bool)×(List Int)))) fun o=>aB o (fun a=>ag (ag (aY (vM c st.2.2 a) fu st.2.1) fun o=>aB o (fun f=>some (.bk f)) (fun _ _=>none) (fun r=>some (.rt r)):Option (Fl Int ((Int×Bool)×(List Int)))) fun o=>aB o (fun b=>cond (decide (b<a)) (some (.bk (a,b,st.2.2))) (ag (bn st.2.2 b) fun d=>ag (bn st.2.2 a) fun g=>ag (bn (st.2.2.set (a).toNat d) b) fun h=>some (.nx ((IntKind.i64.wrap (a+1)),(IntKind.i64.wrap (b - 1)),((st.2.2.set (a).toNat d).set (b).toNat g))))) (fun _ _=>none) (fun r=>some (.rt r))) (fun _ _=>none) (fun r=>some (.rt r))
def vO (u0:(List Int))(a:Int)(h:Int)(b:Int):Option ((Int×Bool)×(List Int)):=
 cond (List.isEmpty u0) none (ag (bn u0 b) fun c=>ag (bn u0 a) fun d=>ag (bn (u0.set (a).toNat c) b) fun t=>ag (ag (aY (vJ u0 a h b c d) fu (IntKind.i64.wrap (a+1))) fun o=>aB o (fun m=>some (.bk m)) (fun _ _=>none) (fun r=>some (.rt r)):Option (Fl Int ((Int×Bool)×(List Int)))) fun o=>aB o (fun g=>ag (ag (aY (vK u0 a b c d g) fu (IntKind.i64.wrap (h - 1))) fun o=>aB o (fun n=>some (.bk n)) (fun _ _=>none) (fun r=>some (.rt r)):Option (Fl Int ((Int×Bool)×(List Int)))) fun o=>aB o (fun e=>cond (decide (e<g)) (ag (bn ((u0.set (a).toNat c).set (b).toNat d) a) fun i=>ag (bn ((u0.set (a).toNat c).set (b).toNat d) e) fun p=>ag (bn (((u0.set (a).toNat c).set (b).toNat d).set (e).toNat i) a) fun u=>some ((e,true),((((u0.set (a).toNat c).set (b).toNat d).set (e).toNat i).set (a).toNat p))) (ag (bn ((u0.set (a).toNat c).set (b).toNat d) e) fun j=>ag (bn ((u0.set (a).toNat c).set (b).toNat d) g) fun q=>ag (bn (((u0.set (a).toNat c).set (b).toNat d).set (g).toNat j) e) fun v=>ag (ag (aY (vN a) fu ((IntKind.i64.wrap (g+1)),(IntKind.i64.wrap (e - 1)),((((u0.set (a).toNat c).set (b).toNat d).set (g).toNat j).set (e).toNat q))) fun o=>aB o (fun k=>some (.bk (k.2.1,k.2.2))) (fun _ _=>none) (fun r=>some (.rt r)):Option (Fl (Int×(List Int)) ((Int×Bool)×(List Int)))) fun o=>aB o (fun f=>ag (bn f.2 a) fun l=>ag (bn f.2 f.1) fun s=>ag (bn (f.2.set (f.1).toNat l) a) fun w=>some ((f.1,false),((f.2.set (f.1).toNat l).set (a).toNat s))) (fun _ _=>none) (fun r=>some r))) (fun _ _=>none) (fun r=>some r)) (fun _ _=>none) (fun r=>some r))
theorem Gi {ro:Addr->Option Value}(u0:(List Int)){S:Value}{bb:List (Nat×Obj)}(x:aN rI ro 3 S u0 bb)(c:Int)(y:Int)(p:Int){r:((Int×Bool)×(List Int))}(h:vO u0 c y p=some r):aC Tryz.prog 185 #[S,.int .i64 c,.int .i64 y,.int .i64 p] ⟨ro,bb⟩ (fun v G=>∃bc,(v= .tuple #[.int .i64 r.1.1,.bool r.1.2]/\aN rI ro 3 S r.2 bc)/\Le ⟨ro,bc⟩ G):=by
 obtain ⟨d1,c2,rfl,ly⟩:=x.len;unfold vO at h;revert h;refine cS (fun bd h=>?_) fun bd h=>?_
 ·cases h
 obtain ⟨b,bj,rfl,rfl,lL⟩:=x.g9 bd;refine aC.go Tryz.func185 rfl Tryz.ntmps185 Tryz.results185 (by simp) fun main J hJ A bl hd hs=>?_;have bm:=hs 0;have k1:=hs 1;have bo:=hs 2;have br:=hs 3;clear hs;refine af hJ ?_;refine ay hJ fun l1=>?_;refine aj hJ ?_;simp only[*,go_sem];refine af hJ ?_;refine ay hJ fun l2=>?_;refine eG hJ mixed [13,14,15] (.pure 0 (.pure 1 (.pure 2 (.pure 3 (.pure 4 (.pure 5 (.pure 6 (.rd 7 (.pure 8 (.pure 9 (.pure 10 (.rd 11 (.pure 12 (.last 13 (.pure 14 (.last 15 .done)))))))))))))))) ⟨ro,[(b,Obj.cells bj 3)]⟩ (by simp only[*,go_sem]) (by kernel_rfl) ?_;revert h;refine bS fun z gg h=>?_;obtain ⟨l3,l4,ma,mf⟩:=x.cL gg;revert h;refine bS fun B gl h=>?_;obtain ⟨gn,gp,mi,ml⟩:=x.cL gl;have bs:=x.fO gn gp z;revert h;refine bS fun mn gB h=>?_;obtain ⟨gC,gM,mr,mx⟩:=bs.cL gB;have d:=bs.fO gC gM B;try simp only[*,go_sem]
 refine af hJ ?_;obtain ⟨f,T⟩:∃o,o=(cF (cF bj (c).toNat [.int .i64 z]) (p).toNat [.int .i64 B]):=⟨_,rfl⟩
 refine cB (F:=⟨ro,[(b,Obj.cells f 3)]⟩) hJ (by rw[T];exact Le.refl _) ?_;rw[<-T] at d;clear T;refine ay hJ fun my=>?_;refine aj hJ ?_;simp only[*,go_sem];revert h;refine bS fun gT h gV=>?_;refine fZ hJ (fun a F'=>∃(g:Int),some (Fl.bk g:Fl Int ((Int×Bool)×(List Int)))=some gT/\F'=⟨ro,[(b,Obj.cells f 3)]⟩/\sz a=168/\a.defers=[]/\slot a 0= .slice (some ⟨b,0,none⟩) u0.length c2/\slot a 1= .int .i64 c/\slot a 8= .int .i64 0/\slot a 9= .bool false/\slot a 10= .int .i64 g/\slot a 11= .int .i64 (IntKind.i64.wrap (y - 1))) ?_ ?_
 ·refine aO hJ ?_;revert h;refine bS fun g0 K bz=>?_;refine bQ hJ [10,30,31,32,33,34,35,36,37,38,39,40,41,42,43,44,45] (fun m a F'=>∃(q:Int),aY (vJ u0 c y p z B) m q=some g0/\F'=⟨ro,[(b,Obj.cells f 3)]⟩/\slot a 10= .int .i64 q) fu ?_ ?_
  ·refine ⟨(IntKind.i64.wrap (c+1)),K,rfl,?_⟩;simp only[*,go_sem]
  rintro U m1 F' b0 ⟨q,K,rfl,m2⟩;obtain ⟨g1,g2,g3⟩:=b0.pick [0,1,8,9,11] (by decide);simp only[*,go_sem] at g1 g2 g3;clear b0 bl hd bm k1 bo br;obtain _|U:=U
  ·exact absurd K (by simp only[aY,reduceCtorEq,not_false_eq_true])
  revert K;refine bS fun na h C=>?_;unfold vJ at h;try dsimp only at h
  refine af hJ (af hJ ?_);refine ay hJ fun nb=>?_;refine cQ hJ mixed 14 1 (by simp only[*,go_sem]) (by kernel_rfl) ?_;revert h;refine cS (fun g4 h=>?_) fun g4 h=>?_
  ·revert h;refine bS fun ha hc h=>?_;obtain ⟨nd,nf,nm,nn⟩:=d.cL hc;revert h;refine bS fun hf hg h=>?_;obtain ⟨np,ns,nx,nz⟩:=d.cL hg;revert h;refine bS fun nA hh h=>?_;(try simp only[*,go_sem]);refine ⟨_,bC hJ fun F V=>jr ha hf hh,bY ?_⟩;(try simp only[*,go_sem]);revert h;refine jC hJ (by simp only[*,go_sem]) (fun hi h=>?_) fun hi h=>?_
   ·obtain rfl:=sI h;refine aH hJ (aO hJ ?_);refine ay hJ fun nH=>?_;refine aj hJ ?_;simp only[*,go_sem];refine ⟨U,Nat.lt_succ_self _,_,Le.sub (List.Sublist.refl _),(IntKind.i64.wrap (q+1)),C,rfl,?_⟩;simp only[*,go_sem]
   obtain rfl:=sI h;refine bN ?_;simp only[go_sem];obtain rfl:=sI C;clear C;have h:=bz;dsimp only[aB] at h;(try simp only[*,go_sem]);refine Qn.intro ⟨_,Le.sub (List.Sublist.refl _),q,h,rfl,?_⟩;simp only[*,go_sem]
  obtain rfl:=sI h;try simp only[*,go_sem]
  refine bG hJ (by simp only[*,go_sem]) ?_;refine bN ?_;simp only[go_sem];obtain rfl:=sI C;clear C;have h:=bz;dsimp only[aB] at h;try simp only[*,go_sem]
  refine Qn.intro ⟨_,Le.sub (List.Sublist.refl _),q,h,rfl,?_⟩;simp only[*,go_sem]
 rintro nI F' ⟨g,b1,rfl,b2,b3,b4,b5,ca,cb,cd,cf⟩;obtain rfl:=sI b1;clear b1;have h:=gV;dsimp only[aB] at h;clear bl hd bm k1 bo br;revert h;refine bS fun hj h hk=>?_;refine fZ hJ (fun a F'=>∃(k:Int),some (Fl.bk k:Fl Int ((Int×Bool)×(List Int)))=some hj/\F'=⟨ro,[(b,Obj.cells f 3)]⟩/\sz a=168/\a.defers=[]/\slot a 0= .slice (some ⟨b,0,none⟩) u0.length c2/\slot a 1= .int .i64 c/\slot a 8= .int .i64 0/\slot a 9= .bool false/\slot a 10= .int .i64 g/\slot a 11= .int .i64 k) ?_ ?_
 ·refine aO hJ ?_;revert h;refine bS fun hl L cl=>?_;refine bQ hJ [11,46,47,48,49,50,51,52,53,54,55,56,57,58,59,60,61,62] (fun m a F'=>∃(s:Int),aY (vK u0 c p z B g) m s=some hl/\F'=⟨ro,[(b,Obj.cells f 3)]⟩/\slot a 11= .int .i64 s) fu ?_ ?_
  ·refine ⟨(IntKind.i64.wrap (y - 1)),L,rfl,?_⟩;simp only[*,go_sem]
  rintro W nK F' cy ⟨s,L,rfl,nQ⟩;obtain ⟨hn,ho,hp⟩:=cy.pick [0,1,8,9,10] (by decide);simp only[*,go_sem] at hn ho hp;clear cy b2 b3 b4 b5 ca cb cd cf;obtain _|W:=W
  ·exact absurd L (by simp only[aY,reduceCtorEq,not_false_eq_true])
  revert L;refine bS fun nR h D=>?_;unfold vK at h;try dsimp only at h
  refine af hJ (af hJ ?_);refine ay hJ fun nT=>?_;refine cQ hJ mixed 15 1 (by simp only[*,go_sem]) (by kernel_rfl) ?_;revert h;refine cS (fun hq h=>?_) fun hq h=>?_
  ·revert h;refine bS fun hr ht h=>?_;obtain ⟨nV,nX,nY,n0⟩:=d.cL ht;revert h;refine bS fun hv hx h=>?_;obtain ⟨n1,n2,n3,oc⟩:=d.cL hx;revert h;refine bS fun oi hy h=>?_;(try simp only[*,go_sem]);refine ⟨_,bC hJ fun F V=>jr hr hv hy,bY ?_⟩;(try simp only[*,go_sem]);revert h;refine jC hJ (by simp only[*,go_sem]) (fun hz h=>?_) fun hz h=>?_
   ·obtain rfl:=sI h;refine aH hJ (aO hJ ?_);refine ay hJ fun oj=>?_;refine aj hJ ?_;simp only[*,go_sem];refine ⟨W,Nat.lt_succ_self _,_,Le.sub (List.Sublist.refl _),(IntKind.i64.wrap (s - 1)),D,rfl,?_⟩;simp only[*,go_sem]
   obtain rfl:=sI h;refine bN ?_;simp only[go_sem];obtain rfl:=sI D;clear D;have h:=cl;dsimp only[aB] at h;(try simp only[*,go_sem]);refine Qn.intro ⟨_,Le.sub (List.Sublist.refl _),s,h,rfl,?_⟩;simp only[*,go_sem]
  obtain rfl:=sI h;try simp only[*,go_sem]
  refine bG hJ (by simp only[*,go_sem]) ?_;refine bN ?_;simp only[go_sem];obtain rfl:=sI D;clear D;have h:=cl;dsimp only[aB] at h;try simp only[*,go_sem]
  refine Qn.intro ⟨_,Le.sub (List.Sublist.refl _),s,h,rfl,?_⟩;simp only[*,go_sem]
 rintro ox F' ⟨k,c0,rfl,da,db,dd,df,dk,dp,dq,ds⟩;obtain rfl:=sI c0;clear c0;have h:=hk;dsimp only[aB] at h;clear b2 b3 b4 b5 ca cb cd cf;refine af hJ (af hJ ?_);refine ay hJ fun oy=>?_;refine aj hJ ?_;simp only[*,go_sem];revert h;refine jC hJ (by simp only[*,go_sem]) (fun hA h=>?_) fun hA h=>?_
 ·refine af hJ ?_;refine ay hJ fun o0=>?_;refine eG hJ mixed [13,14,15] (.pure 0 (.pure 1 (.pure 2 (.pure 3 (.pure 4 (.pure 5 (.pure 6 (.rd 7 (.pure 8 (.pure 9 (.pure 10 (.rd 11 (.pure 12 (.last 13 (.pure 14 (.last 15 .done)))))))))))))))) ⟨ro,[(b,Obj.cells f 3)]⟩ (by simp only[*,go_sem]) (by kernel_rfl) ?_;revert h;refine bS fun dt hB h=>?_;obtain ⟨o1,o2,o4,pa⟩:=d.cL hB;revert h;refine bS fun du hD h=>?_;obtain ⟨hE,hF,pb,pd⟩:=d.cL hD;have dv:=d.fO hE hF dt;revert h;refine bS fun pf hG h=>?_;obtain rfl:=sI h;obtain ⟨hI,hK,ph,pj⟩:=dv.cL hG;have dC:=dv.fO hI hK du;try simp only[*,go_sem]
  refine af hJ ?_;obtain ⟨hL,X⟩:∃o,o=(cF (cF f (k).toNat [.int .i64 dt]) (c).toNat [.int .i64 du]):=⟨_,rfl⟩
  refine cB (F:=⟨ro,[(b,Obj.cells hL 3)]⟩) hJ (by rw[X];exact Le.refl _) ?_;rw[<-X] at dC;clear X;refine ay hJ fun pk=>?_;refine aj hJ ?_;simp only[*,go_sem];refine av ?_;simp only[*,go_sem];exact ⟨_,dC,Le.sub (List.Sublist.refl _)⟩
 refine aH hJ (af hJ ?_);refine ay hJ fun po=>?_;refine eG hJ mixed [13,14,15] (.pure 0 (.pure 1 (.pure 2 (.pure 3 (.pure 4 (.pure 5 (.pure 6 (.rd 7 (.pure 8 (.pure 9 (.pure 10 (.rd 11 (.pure 12 (.last 13 (.pure 14 (.last 15 .done)))))))))))))))) ⟨ro,[(b,Obj.cells f 3)]⟩ (by simp only[*,go_sem]) (by kernel_rfl) ?_;revert h;refine bS fun Y hM h=>?_;obtain ⟨pr,ps,pt,pv⟩:=d.cL hM;revert h;refine bS fun Z hN h=>?_;obtain ⟨hP,hQ,pw,px⟩:=d.cL hN;have dE:=d.fO hP hQ Y;revert h;refine bS fun py hR h=>?_;obtain ⟨hS,hT,pA,pB⟩:=dE.cL hR;have dT:=dE.fO hS hT Z;try simp only[*,go_sem]
 refine af hJ ?_;obtain ⟨ea,ab⟩:∃o,o=(cF (cF f (g).toNat [.int .i64 Y]) (k).toNat [.int .i64 Z]):=⟨_,rfl⟩
 refine cB (F:=⟨ro,[(b,Obj.cells ea 3)]⟩) hJ (by rw[ab];exact Le.refl _) ?_;rw[<-ab] at dT;clear ab;refine ay hJ fun pC=>?_;refine aj hJ ?_;simp only[*,go_sem];refine af hJ ?_;refine ay hJ fun pD=>?_;refine aj hJ ?_;simp only[*,go_sem];revert h;refine bS fun hV h hX=>?_;refine fZ hJ (fun a F'=>∃(E:Array Value) (M:Int) (ad:(List Int)),some (Fl.bk (M,ad):Fl (Int×(List Int)) ((Int×Bool)×(List Int)))=some hV/\F'=⟨ro,[(b,Obj.cells E 3)]⟩/\aN rI ro 3 (.slice (some ⟨b,0,none⟩) u0.length c2) ad [(b,Obj.cells E 3)]/\sz a=168/\a.defers=[]/\slot a 0= .slice (some ⟨b,0,none⟩) u0.length c2/\slot a 1= .int .i64 c/\slot a 8= .int .i64 0/\slot a 9= .bool false/\slot a 11= .int .i64 M) ?_ ?_
 ·refine aO hJ ?_;revert h;refine bS fun hY N hZ=>?_;refine bQ hJ [10,11,99,100,101,102,103,104,105,106,107,108,109,110,111,112,113,114,115,116,117,118,119,120,121,122,123,124,125,126,127,128,129,130,131,132,133,134,135,136,137,138,139,140,141,142,143,144,145,146,147,148,149,150,151,152] (fun m a F'=>∃(e:Array Value) (O:Int) (t:Int) (l:(List Int)),aY (vN c) m (O,t,l)=some hY/\F'=⟨ro,[(b,Obj.cells e 3)]⟩/\aN rI ro 3 (.slice (some ⟨b,0,none⟩) u0.length c2) l [(b,Obj.cells e 3)]/\slot a 10= .int .i64 O/\slot a 11= .int .i64 t) fu ?_ ?_
  ·refine ⟨ea,(IntKind.i64.wrap (g+1)),(IntKind.i64.wrap (k - 1)),((((u0.set (c).toNat z).set (p).toNat B).set (g).toNat Y).set (k).toNat Z),N,rfl,dT,?_⟩;simp only[*,go_sem]
  rintro ae P F' eb ⟨e,O,t,l,N,rfl,i,ec,ed⟩;obtain ⟨al,ao,ar⟩:=eb.pick [0,1,8,9] (by decide);simp only[*,go_sem] at al ao ar;clear eb da db dd df dk dp dq ds;obtain _|ae:=ae
  ·exact absurd N (by simp only[aY,reduceCtorEq,not_false_eq_true])
  revert N;refine bS fun pL h a0=>?_;unfold vN at h;try dsimp only at h
  refine aO hJ ?_;revert h;refine bS fun h0 h h1=>?_;refine fZ hJ (fun a F'=>∃(j:Int),some (Fl.bk j:Fl Int ((Int×Bool)×(List Int)))=some h0/\F'=⟨ro,[(b,Obj.cells e 3)]⟩/\sz a=168/\a.defers=[]/\cz [10,11,99,100,101,102,103,104,105,106,107,108,109,110,111,112,113,114,115,116,117,118,119,120,121,122,123,124,125,126,127,128,129,130,131,132,133,134,135,136,137,138,139,140,141,142,143,144,145,146,147,148,149,150,151,152] a P/\slot a 0= .slice (some ⟨b,0,none⟩) u0.length c2/\slot a 1= .int .i64 c/\slot a 8= .int .i64 0/\slot a 9= .bool false/\slot a 10= .int .i64 j/\slot a 11= .int .i64 t) ?_ ?_
  ·refine aO hJ ?_;revert h;refine bS fun h2 Q eh=>?_;refine bQ hJ [10,99,100,101,102,103,104,105,106,107,108,109,110,111,112,113,114] (fun m a F'=>∃(u:Int),aY (vL c t l) m u=some h2/\F'=⟨ro,[(b,Obj.cells e 3)]⟩/\slot a 10= .int .i64 u) fu ?_ ?_
   ·refine ⟨O,Q,rfl,?_⟩;simp only[*,go_sem]
   rintro a2 h3 F' a3 ⟨u,Q,rfl,pT⟩;obtain ⟨h4,h5,h6⟩:=a3.pick [0,1,8,9,11] (by decide);simp only[*,go_sem] at h4 h5 h6;have p0:cz [10,11,99,100,101,102,103,104,105,106,107,108,109,110,111,112,113,114,115,116,117,118,119,120,121,122,123,124,125,126,127,128,129,130,131,132,133,134,135,136,137,138,139,140,141,142,143,144,145,146,147,148,149,150,151,152] h3 P:=(a3.fG (by decide)).trans (by simp only[*,go_sem]);clear a3 al ao ar ec ed;obtain _|a2:=a2
   ·exact absurd Q (by simp only[aY,reduceCtorEq,not_false_eq_true])
   revert Q;refine bS fun p1 h H=>?_;unfold vL at h;(try dsimp only at h);refine af hJ (af hJ ?_);refine ay hJ fun q0=>?_;refine cQ hJ mixed 14 1 (by simp only[*,go_sem]) (by kernel_rfl) ?_;revert h;refine cS (fun h7 h=>?_) fun h7 h=>?_
   ·revert h;refine bS fun h8 h9 h=>?_;obtain ⟨q1,ra,rb,re⟩:=i.cL h9;revert h;refine bS fun ib ic h=>?_;obtain ⟨rh,rk,rl,rn⟩:=i.cL ic;revert h;refine bS fun rp ih h=>?_;(try simp only[*,go_sem]);refine ⟨_,bC hJ fun F V=>jr h8 ib ih,bY ?_⟩;(try simp only[*,go_sem]);revert h;refine jC hJ (by simp only[*,go_sem]) (fun ik h=>?_) fun ik h=>?_
    ·obtain rfl:=sI h;refine aH hJ (aO hJ ?_);refine ay hJ fun rr=>?_;refine aj hJ ?_;simp only[*,go_sem];refine ⟨a2,Nat.lt_succ_self _,_,Le.sub (List.Sublist.refl _),(IntKind.i64.wrap (u+1)),H,rfl,?_⟩;simp only[*,go_sem]
    obtain rfl:=sI h;refine bN ?_;simp only[go_sem];obtain rfl:=sI H;clear H;have h:=eh;dsimp only[aB] at h;(try simp only[*,go_sem]);refine Qn.intro ⟨_,Le.sub (List.Sublist.refl _),u,h,rfl,?_⟩;simp only[*,go_sem]
   obtain rfl:=sI h;(try simp only[*,go_sem]);refine bG hJ (by simp only[*,go_sem]) ?_;refine bN ?_;simp only[go_sem];obtain rfl:=sI H;clear H;have h:=eh;dsimp only[aB] at h;(try simp only[*,go_sem]);refine Qn.intro ⟨_,Le.sub (List.Sublist.refl _),u,h,rfl,?_⟩;simp only[*,go_sem]
  rintro rv F' ⟨j,et,rfl,ev,eQ,rB,eS,e0,e1,e2,e3,fa⟩;obtain rfl:=sI et;clear et;have h:=h1;dsimp only[aB] at h;clear al ao ar ec ed;revert h;refine bS fun il h im=>?_;refine fZ hJ (fun a F'=>∃(n:Int),some (Fl.bk n:Fl Int ((Int×Bool)×(List Int)))=some il/\F'=⟨ro,[(b,Obj.cells e 3)]⟩/\sz a=168/\a.defers=[]/\cz [10,11,99,100,101,102,103,104,105,106,107,108,109,110,111,112,113,114,115,116,117,118,119,120,121,122,123,124,125,126,127,128,129,130,131,132,133,134,135,136,137,138,139,140,141,142,143,144,145,146,147,148,149,150,151,152] a P/\slot a 0= .slice (some ⟨b,0,none⟩) u0.length c2/\slot a 1= .int .i64 c/\slot a 8= .int .i64 0/\slot a 9= .bool false/\slot a 10= .int .i64 j/\slot a 11= .int .i64 n) ?_ ?_
  ·refine aO hJ ?_;revert h;refine bS fun iv R fb=>?_;refine bQ hJ [11,115,116,117,118,119,120,121,122,123,124,125,126,127,128,129,130,131] (fun m a F'=>∃(w:Int),aY (vM c l j) m w=some iv/\F'=⟨ro,[(b,Obj.cells e 3)]⟩/\slot a 11= .int .i64 w) fu ?_ ?_
   ·refine ⟨t,R,rfl,?_⟩;simp only[*,go_sem]
   rintro a4 ix F' a5 ⟨w,R,rfl,rL⟩;obtain ⟨j1,j2,kh⟩:=a5.pick [0,1,8,9,10] (by decide);simp only[*,go_sem] at j1 j2 kh;have sa:cz [10,11,99,100,101,102,103,104,105,106,107,108,109,110,111,112,113,114,115,116,117,118,119,120,121,122,123,124,125,126,127,128,129,130,131,132,133,134,135,136,137,138,139,140,141,142,143,144,145,146,147,148,149,150,151,152] ix P:=(a5.fG (by decide)).trans (by simp only[*,go_sem]);clear a5 ev eQ eS e0 e1 e2 e3 fa;obtain _|a4:=a4
   ·exact absurd R (by simp only[aY,reduceCtorEq,not_false_eq_true])
   revert R;refine bS fun sb h I=>?_;unfold vM at h;(try dsimp only at h);refine af hJ (af hJ ?_);refine ay hJ fun sc=>?_;refine cQ hJ mixed 15 1 (by simp only[*,go_sem]) (by kernel_rfl) ?_;revert h;refine cS (fun kj h=>?_) fun kj h=>?_
   ·revert h;refine bS fun kk kl h=>?_;obtain ⟨sf,sg,sh,sl⟩:=i.cL kl;revert h;refine bS fun km kn h=>?_;obtain ⟨sm,ss,sy,sT⟩:=i.cL kn;revert h;refine bS fun tb kp h=>?_;(try simp only[*,go_sem]);refine ⟨_,bC hJ fun F V=>jr kk km kp,bY ?_⟩;(try simp only[*,go_sem]);revert h;refine jC hJ (by simp only[*,go_sem]) (fun ks h=>?_) fun ks h=>?_
    ·obtain rfl:=sI h;refine aH hJ (aO hJ ?_);refine ay hJ fun te=>?_;refine aj hJ ?_;simp only[*,go_sem];refine ⟨a4,Nat.lt_succ_self _,_,Le.sub (List.Sublist.refl _),(IntKind.i64.wrap (w - 1)),I,rfl,?_⟩;simp only[*,go_sem]
    obtain rfl:=sI h;refine bN ?_;simp only[go_sem];obtain rfl:=sI I;clear I;have h:=fb;dsimp only[aB] at h;(try simp only[*,go_sem]);refine Qn.intro ⟨_,Le.sub (List.Sublist.refl _),w,h,rfl,?_⟩;simp only[*,go_sem]
   obtain rfl:=sI h;(try simp only[*,go_sem]);refine bG hJ (by simp only[*,go_sem]) ?_;refine bN ?_;simp only[go_sem];obtain rfl:=sI I;clear I;have h:=fb;dsimp only[aB] at h;(try simp only[*,go_sem]);refine Qn.intro ⟨_,Le.sub (List.Sublist.refl _),w,h,rfl,?_⟩;simp only[*,go_sem]
  rintro ti F' ⟨n,fg,rfl,tk,tl,tm,tp,ts,tt,tx,tz,tI⟩;obtain rfl:=sI fg;clear fg;have h:=im;dsimp only[aB] at h;clear ev eQ eS e0 e1 e2 e3 fa;refine af hJ (af hJ ?_);refine ay hJ fun tM=>?_;refine aj hJ ?_;simp only[*,go_sem];revert h;refine jC hJ (by simp only[*,go_sem]) (fun kt h=>?_) fun kt h=>?_
  ·obtain rfl:=sI h;refine bN ?_;simp only[go_sem];obtain rfl:=sI a0;clear a0;have h:=hZ;dsimp only[aB] at h;(try simp only[*,go_sem]);refine Qn.intro ⟨_,Le.sub (List.Sublist.refl _),e,n,l,h,rfl,i,?_⟩;simp only[*,go_sem]
  refine aH hJ (af hJ ?_);refine ay hJ fun tW=>?_;refine eG hJ mixed [13,14,15] (.pure 0 (.pure 1 (.pure 2 (.pure 3 (.pure 4 (.pure 5 (.pure 6 (.rd 7 (.pure 8 (.pure 9 (.pure 10 (.rd 11 (.pure 12 (.last 13 (.pure 14 (.last 15 .done)))))))))))))))) ⟨ro,[(b,Obj.cells e 3)]⟩ (by simp only[*,go_sem]) (by kernel_rfl) ?_;revert h;refine bS fun a6 kv h=>?_;obtain ⟨ub,ui,u1,u2⟩:=i.cL kv;revert h;refine bS fun a7 kx h=>?_;obtain ⟨ky,k0,u3,u4⟩:=i.cL kx;have fi:=i.fO ky k0 a6;revert h;refine bS fun va k2 h=>?_;obtain rfl:=sI h;obtain ⟨lb,lh,vd,vs⟩:=fi.cL k2;have fp:=fi.fO lb lh a7;try simp only[*,go_sem]
  refine af hJ ?_;obtain ⟨fr,a8⟩:∃o,o=(cF (cF e (j).toNat [.int .i64 a6]) (n).toNat [.int .i64 a7]):=⟨_,rfl⟩
  refine cB (F:=⟨ro,[(b,Obj.cells fr 3)]⟩) hJ (by rw[a8];exact Le.refl _) ?_;rw[<-a8] at fp;clear a8;refine ay hJ fun vx=>?_;refine aj hJ ?_;simp only[*,go_sem];refine ay hJ fun vy=>?_;refine aj hJ ?_;simp only[*,go_sem];refine ⟨ae,Nat.lt_succ_self _,_,Le.sub (List.Sublist.refl _),fr,(IntKind.i64.wrap (j+1)),(IntKind.i64.wrap (n - 1)),((l.set (j).toNat a6).set (n).toNat a7),a0,rfl,fp,?_⟩;simp only[*,go_sem]
 rintro v3 F' ⟨E,M,ad,fs,rfl,a9,wa,wb,wc,wi,wx,wy,wG⟩;obtain rfl:=sI fs;clear fs;have h:=hX;dsimp only[aB] at h;clear da db dd df dk dp dq ds;refine af hJ ?_;refine ay hJ fun w0=>?_;refine eG hJ mixed [13,14,15] (.pure 0 (.pure 1 (.pure 2 (.pure 3 (.pure 4 (.pure 5 (.pure 6 (.rd 7 (.pure 8 (.pure 9 (.pure 10 (.rd 11 (.pure 12 (.last 13 (.pure 14 (.last 15 .done)))))))))))))))) ⟨ro,[(b,Obj.cells E 3)]⟩ (by simp only[*,go_sem]) (by kernel_rfl) ?_;revert h;refine bS fun ft lj h=>?_;obtain ⟨xa,xc,xf,xi⟩:=a9.cL lj;revert h;refine bS fun fv lk h=>?_;obtain ⟨ll,ln,xn,xr⟩:=a9.cL lk;have fw:=a9.fO ll ln ft;revert h;refine bS fun xt lo h=>?_;obtain rfl:=sI h;obtain ⟨lr,lv,xv,x0⟩:=fw.cL lo;have fx:=fw.fO lr lv fv;try simp only[*,go_sem]
 refine af hJ ?_;obtain ⟨lx,ba⟩:∃o,o=(cF (cF E (M).toNat [.int .i64 ft]) (c).toNat [.int .i64 fv]):=⟨_,rfl⟩
 refine cB (F:=⟨ro,[(b,Obj.cells lx 3)]⟩) hJ (by rw[ba];exact Le.refl _) ?_;rw[<-ba] at fx;clear ba;refine ay hJ fun x1=>?_;refine aj hJ ?_;simp only[*,go_sem];refine av ?_;simp only[*,go_sem];exact ⟨_,fx,Le.sub (List.Sublist.refl _)⟩
def vP (b:Int)(c:Int)(a:(List Int))(st:Int):Option (Fl Int (Int×(List Int))):=
 cond (decide (st<=c)) (ag (bn a b) fun d=>ag (bn a st) fun e=>ag (hO d e) fun f=>cond (!f) (some (.nx (IntKind.i64.wrap (st+1)))) (some (.bk st))) (some (.bk st))
def vQ (b:Int)(a:(List Int))(c:Int)(st:Int):Option (Fl Int (Int×(List Int))):=
 cond (decide (c<=st)) (ag (bn a b) fun d=>ag (bn a st) fun e=>ag (hO d e) fun f=>cond (f) (some (.nx (IntKind.i64.wrap (st - 1)))) (some (.bk st))) (some (.bk st))
def vR (c:Int)(st:(Int×Int×(List Int))):Option (Fl (Int×Int×(List Int)) (Int×(List Int))):=
 ag (ag (aY (vP c st.2.1 st.2.2) fu st.1) fun o=>aB o (fun e=>some (.bk e)) (fun _ _=>none) (fun r=>some (.rt r)):Option (Fl Int (Int×(List Int)))) fun o=>aB o (fun a=>ag (ag (aY (vQ c st.2.2 a) fu st.2.1) fun o=>aB o (fun f=>some (.bk f)) (fun _ _=>none) (fun r=>some (.rt r)):Option (Fl Int (Int×(List Int)))) fun o=>aB o (fun b=>cond (decide (b<a)) (some (.bk (a,b,st.2.2))) (ag (bn st.2.2 b) fun d=>ag (bn st.2.2 a) fun g=>ag (bn (st.2.2.set (a).toNat d) b) fun h=>some (.nx ((IntKind.i64.wrap (a+1)),(IntKind.i64.wrap (b - 1)),((st.2.2.set (a).toNat d).set (b).toNat g))))) (fun _ _=>none) (fun r=>some (.rt r))) (fun _ _=>none) (fun r=>some (.rt r))
def vS (u0:(List Int))(a:Int)(f:Int)(b:Int):Option (Int×(List Int)):=
 cond (List.isEmpty u0) none (ag (bn u0 b) fun c=>ag (bn u0 a) fun g=>ag (bn (u0.set (a).toNat c) b) fun h=>ag (ag (aY (vR a) fu ((IntKind.i64.wrap (a+1)),(IntKind.i64.wrap (f - 1)),((u0.set (a).toNat c).set (b).toNat g))) fun o=>aB o (fun d=>some (.bk (d.1,d.2.2))) (fun _ _=>none) (fun r=>some (.rt r)):Option (Fl (Int×(List Int)) (Int×(List Int)))) fun o=>aB o (fun e=>some (e.1,e.2)) (fun _ _=>none) (fun r=>some r))
theorem Gj {ro:Addr->Option Value}(u0:(List Int)){z:Value}{X:List (Nat×Obj)}(n:aN rI ro 3 z u0 X)(c:Int)(B:Int)(s:Int){r:(Int×(List Int))}(h:vS u0 c B s=some r):aC Tryz.prog 184 #[z,.int .i64 c,.int .i64 B,.int .i64 s] ⟨ro,X⟩ (fun v G=>∃Y,(v= .int .i64 r.1/\aN rI ro 3 z r.2 Y)/\Le ⟨ro,Y⟩ G):=by
 obtain ⟨d1,c2,rfl,fw⟩:=n.len;unfold vS at h;revert h;refine cS (fun Z h=>?_) fun Z h=>?_
 ·cases h
 obtain ⟨b,ab,rfl,rfl,fx⟩:=n.g9 Z;refine aC.go Tryz.func184 rfl Tryz.ntmps184 Tryz.results184 (by simp) fun main J hJ A ad hd hs=>?_;have ae:=hs 0;have k1:=hs 1;have al:=hs 2;have ao:=hs 3;clear hs;refine af hJ ?_;refine ay hJ fun gg=>?_;refine aj hJ ?_;simp only[*,go_sem];refine af hJ ?_;refine ay hJ fun gl=>?_;refine eG hJ mixed [13,14,15] (.pure 0 (.pure 1 (.pure 2 (.pure 3 (.pure 4 (.pure 5 (.pure 6 (.rd 7 (.pure 8 (.pure 9 (.pure 10 (.rd 11 (.pure 12 (.last 13 (.pure 14 (.last 15 .done)))))))))))))))) ⟨ro,[(b,Obj.cells ab 3)]⟩ (by simp only[*,go_sem]) (by kernel_rfl) ?_;revert h;refine bS fun C b0 h=>?_;obtain ⟨gn,gp,gB,gC⟩:=n.cL b0;revert h;refine bS fun D b1 h=>?_;obtain ⟨b2,b3,gM,gT⟩:=n.cL b1;have ar:=n.fO b2 b3 C;revert h;refine bS fun gV b4 h=>?_;obtain ⟨b5,ca,g0,g1⟩:=ar.cL b4;have a0:=ar.fO b5 ca D;try simp only[*,go_sem]
 refine af hJ ?_;obtain ⟨a2,E⟩:∃o,o=(cF (cF ab (c).toNat [.int .i64 C]) (s).toNat [.int .i64 D]):=⟨_,rfl⟩
 refine cB (F:=⟨ro,[(b,Obj.cells a2 3)]⟩) hJ (by rw[E];exact Le.refl _) ?_;rw[<-E] at a0;clear E;refine ay hJ fun g2=>?_;refine aj hJ ?_;simp only[*,go_sem];revert h;refine bS fun cb h cd=>?_;refine fZ hJ (fun a F'=>∃(H:Array Value) (I:Int) (K:(List Int)),some (Fl.bk (I,K):Fl (Int×(List Int)) (Int×(List Int)))=some cb/\F'=⟨ro,[(b,Obj.cells H 3)]⟩/\aN rI ro 3 (.slice (some ⟨b,0,none⟩) u0.length c2) K [(b,Obj.cells H 3)]/\sz a=84/\a.defers=[]/\slot a 0= .slice (some ⟨b,0,none⟩) u0.length c2/\slot a 8= .int .i64 0/\slot a 9= .int .i64 I) ?_ ?_
 ·refine aO hJ ?_;revert h;refine bS fun cf t cl=>?_;refine bQ hJ [9,10,29,30,31,32,33,34,35,36,37,38,39,40,41,42,43,44,45,46,47,48,49,50,51,52,53,54,55,56,57,58,59,60,61,62,63,64,65,66,67,68,69,70,71,72,73,74,75,76,77,78,79,80,81,82] (fun m a F'=>∃(d:Array Value) (u:Int) (i:Int) (g:(List Int)),aY (vR c) m (u,i,g)=some cf/\F'=⟨ro,[(b,Obj.cells d 3)]⟩/\aN rI ro 3 (.slice (some ⟨b,0,none⟩) u0.length c2) g [(b,Obj.cells d 3)]/\slot a 9= .int .i64 u/\slot a 10= .int .i64 i) fu ?_ ?_
  ·refine ⟨a2,(IntKind.i64.wrap (c+1)),(IntKind.i64.wrap (B - 1)),((u0.set (c).toNat C).set (s).toNat D),t,rfl,a0,?_⟩;simp only[*,go_sem]
  rintro L w F' a3 ⟨d,u,i,g,t,rfl,f,a4,a5⟩;obtain ⟨M,N,O⟩:=a3.pick [0,1,8] (by decide);simp only[*,go_sem] at M N O;clear a3 ad hd ae k1 al ao;obtain _|L:=L
  ·exact absurd t (by simp only[aY,reduceCtorEq,not_false_eq_true])
  revert t;refine bS fun g3 h P=>?_;unfold vR at h;try dsimp only at h
  refine aO hJ ?_;revert h;refine bS fun cy h c0=>?_;refine fZ hJ (fun a F'=>∃(e:Int),some (Fl.bk e:Fl Int (Int×(List Int)))=some cy/\F'=⟨ro,[(b,Obj.cells d 3)]⟩/\sz a=84/\a.defers=[]/\cz [9,10,29,30,31,32,33,34,35,36,37,38,39,40,41,42,43,44,45,46,47,48,49,50,51,52,53,54,55,56,57,58,59,60,61,62,63,64,65,66,67,68,69,70,71,72,73,74,75,76,77,78,79,80,81,82] a w/\slot a 0= .slice (some ⟨b,0,none⟩) u0.length c2/\slot a 1= .int .i64 c/\slot a 8= .int .i64 0/\slot a 9= .int .i64 e/\slot a 10= .int .i64 i) ?_ ?_
  ·refine aO hJ ?_;revert h;refine bS fun da x a6=>?_;refine bQ hJ [9,29,30,31,32,33,34,35,36,37,38,39,40,41,42,43,44,45] (fun m a F'=>∃(j:Int),aY (vP c i g) m j=some da/\F'=⟨ro,[(b,Obj.cells d 3)]⟩/\slot a 9= .int .i64 j) fu ?_ ?_
   ·refine ⟨u,x,rfl,?_⟩;simp only[*,go_sem]
   rintro Q db F' R ⟨j,x,rfl,g4⟩;obtain ⟨dd,df,dk⟩:=R.pick [0,1,8,10] (by decide);simp only[*,go_sem] at dd df dk;have ha:cz [9,10,29,30,31,32,33,34,35,36,37,38,39,40,41,42,43,44,45,46,47,48,49,50,51,52,53,54,55,56,57,58,59,60,61,62,63,64,65,66,67,68,69,70,71,72,73,74,75,76,77,78,79,80,81,82] db w:=(R.fG (by decide)).trans (by simp only[*,go_sem]);clear R M N O a4 a5;obtain _|Q:=Q
   ·exact absurd x (by simp only[aY,reduceCtorEq,not_false_eq_true])
   revert x;refine bS fun hc h p=>?_;unfold vP at h;(try dsimp only at h);refine af hJ (af hJ ?_);refine ay hJ fun hf=>?_;refine cQ hJ mixed 15 1 (by simp only[*,go_sem]) (by kernel_rfl) ?_;revert h;refine cS (fun dp h=>?_) fun dp h=>?_
   ·revert h;refine bS fun dq ds h=>?_;obtain ⟨hg,hh,hi,hj⟩:=f.cL ds;revert h;refine bS fun dt du h=>?_;obtain ⟨hk,hl,hn,ho⟩:=f.cL du;revert h;refine bS fun hp dv h=>?_;(try simp only[*,go_sem]);refine ⟨_,bC hJ fun F dC=>jr dq dt dv,bY ?_⟩;(try simp only[*,go_sem]);revert h;refine jC hJ (by simp only[*,go_sem]) (fun dE h=>?_) fun dE h=>?_
    ·obtain rfl:=sI h;refine aH hJ (aO hJ ?_);refine ay hJ fun hq=>?_;refine aj hJ ?_;simp only[*,go_sem];refine ⟨Q,Nat.lt_succ_self _,_,Le.sub (List.Sublist.refl _),(IntKind.i64.wrap (j+1)),p,rfl,?_⟩;simp only[*,go_sem]
    obtain rfl:=sI h;refine bN ?_;simp only[go_sem];obtain rfl:=sI p;clear p;have h:=a6;dsimp only[aB] at h;(try simp only[*,go_sem]);refine Qn.intro ⟨_,Le.sub (List.Sublist.refl _),j,h,rfl,?_⟩;simp only[*,go_sem]
   obtain rfl:=sI h;(try simp only[*,go_sem]);refine bG hJ (by simp only[*,go_sem]) ?_;refine bN ?_;simp only[go_sem];obtain rfl:=sI p;clear p;have h:=a6;dsimp only[aB] at h;(try simp only[*,go_sem]);refine Qn.intro ⟨_,Le.sub (List.Sublist.refl _),j,h,rfl,?_⟩;simp only[*,go_sem]
  rintro hr F' ⟨e,a7,rfl,a8,a9,ht,ba,bb,bc,bd,bj⟩;obtain rfl:=sI a7;clear a7;have h:=c0;dsimp only[aB] at h;clear M N O a4 a5;revert h;refine bS fun dT h ea=>?_;refine fZ hJ (fun a F'=>∃(k:Int),some (Fl.bk k:Fl Int (Int×(List Int)))=some dT/\F'=⟨ro,[(b,Obj.cells d 3)]⟩/\sz a=84/\a.defers=[]/\cz [9,10,29,30,31,32,33,34,35,36,37,38,39,40,41,42,43,44,45,46,47,48,49,50,51,52,53,54,55,56,57,58,59,60,61,62,63,64,65,66,67,68,69,70,71,72,73,74,75,76,77,78,79,80,81,82] a w/\slot a 0= .slice (some ⟨b,0,none⟩) u0.length c2/\slot a 1= .int .i64 c/\slot a 8= .int .i64 0/\slot a 9= .int .i64 e/\slot a 10= .int .i64 k) ?_ ?_
  ·refine aO hJ ?_;revert h;refine bS fun eb y bl=>?_;refine bQ hJ [10,46,47,48,49,50,51,52,53,54,55,56,57,58,59,60,61] (fun m a F'=>∃(l:Int),aY (vQ c g e) m l=some eb/\F'=⟨ro,[(b,Obj.cells d 3)]⟩/\slot a 10= .int .i64 l) fu ?_ ?_
   ·refine ⟨i,y,rfl,?_⟩;simp only[*,go_sem]
   rintro S ec F' T ⟨l,y,rfl,hv⟩;obtain ⟨ed,eh,et⟩:=T.pick [0,1,8,9] (by decide);simp only[*,go_sem] at ed eh et;have hx:cz [9,10,29,30,31,32,33,34,35,36,37,38,39,40,41,42,43,44,45,46,47,48,49,50,51,52,53,54,55,56,57,58,59,60,61,62,63,64,65,66,67,68,69,70,71,72,73,74,75,76,77,78,79,80,81,82] ec w:=(T.fG (by decide)).trans (by simp only[*,go_sem]);clear T a8 a9 ba bb bc bd bj;obtain _|S:=S
   ·exact absurd y (by simp only[aY,reduceCtorEq,not_false_eq_true])
   revert y;refine bS fun hy h q=>?_;unfold vQ at h;(try dsimp only at h);refine af hJ (af hJ ?_);refine ay hJ fun hz=>?_;refine cQ hJ mixed 14 1 (by simp only[*,go_sem]) (by kernel_rfl) ?_;revert h;refine cS (fun ev h=>?_) fun ev h=>?_
   ·revert h;refine bS fun eQ eS h=>?_;obtain ⟨hA,hB,hD,hE⟩:=f.cL eS;revert h;refine bS fun e0 e1 h=>?_;obtain ⟨hF,hG,hI,hK⟩:=f.cL e1;revert h;refine bS fun hL e2 h=>?_;(try simp only[*,go_sem]);refine ⟨_,bC hJ fun F dC=>jr eQ e0 e2,bY ?_⟩;(try simp only[*,go_sem]);revert h;refine jC hJ (by simp only[*,go_sem]) (fun e3 h=>?_) fun e3 h=>?_
    ·obtain rfl:=sI h;refine aH hJ (aO hJ ?_);refine ay hJ fun hM=>?_;refine aj hJ ?_;simp only[*,go_sem];refine ⟨S,Nat.lt_succ_self _,_,Le.sub (List.Sublist.refl _),(IntKind.i64.wrap (l - 1)),q,rfl,?_⟩;simp only[*,go_sem]
    obtain rfl:=sI h;refine bN ?_;simp only[go_sem];obtain rfl:=sI q;clear q;have h:=bl;dsimp only[aB] at h;(try simp only[*,go_sem]);refine Qn.intro ⟨_,Le.sub (List.Sublist.refl _),l,h,rfl,?_⟩;simp only[*,go_sem]
   obtain rfl:=sI h;(try simp only[*,go_sem]);refine bG hJ (by simp only[*,go_sem]) ?_;refine bN ?_;simp only[go_sem];obtain rfl:=sI q;clear q;have h:=bl;dsimp only[aB] at h;(try simp only[*,go_sem]);refine Qn.intro ⟨_,Le.sub (List.Sublist.refl _),l,h,rfl,?_⟩;simp only[*,go_sem]
  rintro hN F' ⟨k,bm,rfl,hP,hQ,hR,hS,hT,hV,hX,hY⟩;obtain rfl:=sI bm;clear bm;have h:=ea;dsimp only[aB] at h;clear a8 a9 ba bb bc bd bj;refine af hJ (af hJ ?_);refine ay hJ fun hZ=>?_;refine aj hJ ?_;simp only[*,go_sem];revert h;refine jC hJ (by simp only[*,go_sem]) (fun fa h=>?_) fun fa h=>?_
  ·obtain rfl:=sI h;refine bN ?_;simp only[go_sem];obtain rfl:=sI P;clear P;have h:=cl;dsimp only[aB] at h;(try simp only[*,go_sem]);refine Qn.intro ⟨_,Le.sub (List.Sublist.refl _),d,e,g,h,rfl,f,?_⟩;simp only[*,go_sem]
  refine aH hJ (af hJ ?_);refine ay hJ fun h0=>?_;refine eG hJ mixed [13,14,15] (.pure 0 (.pure 1 (.pure 2 (.pure 3 (.pure 4 (.pure 5 (.pure 6 (.rd 7 (.pure 8 (.pure 9 (.pure 10 (.rd 11 (.pure 12 (.last 13 (.pure 14 (.last 15 .done)))))))))))))))) ⟨ro,[(b,Obj.cells d 3)]⟩ (by simp only[*,go_sem]) (by kernel_rfl) ?_;revert h;refine bS fun U fb h=>?_;obtain ⟨h1,h2,h3,h4⟩:=f.cL fb;revert h;refine bS fun V fg h=>?_;obtain ⟨fi,fp,h5,h6⟩:=f.cL fg;have bo:=f.fO fi fp U;revert h;refine bS fun h7 fr h=>?_;obtain rfl:=sI h;obtain ⟨fs,ft,h8,h9⟩:=bo.cL fr;have br:=bo.fO fs ft V;try simp only[*,go_sem]
  refine af hJ ?_;obtain ⟨bs,W⟩:∃o,o=(cF (cF d (e).toNat [.int .i64 U]) (k).toNat [.int .i64 V]):=⟨_,rfl⟩
  refine cB (F:=⟨ro,[(b,Obj.cells bs 3)]⟩) hJ (by rw[W];exact Le.refl _) ?_;rw[<-W] at br;clear W;refine ay hJ fun ib=>?_;refine aj hJ ?_;simp only[*,go_sem];refine ay hJ fun ic=>?_;refine aj hJ ?_;simp only[*,go_sem];refine ⟨L,Nat.lt_succ_self _,_,Le.sub (List.Sublist.refl _),bs,(IntKind.i64.wrap (e+1)),(IntKind.i64.wrap (k - 1)),((g.set (e).toNat U).set (k).toNat V),P,rfl,br,?_⟩;simp only[*,go_sem]
 rintro ih F' ⟨H,I,K,bz,rfl,fv,ik,il,im,iv,ix⟩;obtain rfl:=sI bz;clear bz;have h:=cd;dsimp only[aB] at h;obtain rfl:=sI h;clear ad hd ae k1 al ao;refine af hJ ?_;refine ay hJ fun j1=>?_;refine aj hJ ?_;simp only[*,go_sem];refine av ?_;simp only[*,go_sem];exact ⟨_,fv,Le.sub (List.Sublist.refl _)⟩
def vT (u0:(List Int))(a:Int)(st:Int):Option (Fl Int (Bool×(List Int))):=
 cond (decide (st<a)) (ag (bn u0 st) fun b=>ag (bn u0 (IntKind.i64.wrap (st - 1))) fun c=>ag (hO b c) fun d=>cond (!d) (some (.nx (IntKind.i64.wrap (st+1)))) (some (.bk st))) (some (.bk st))
def vU (u0:(List Int))(b:Int)(a:Int)(st:(Bool×Int×Int)):Option (Fl (Bool×Int×Int) (Bool×(List Int))):=
 cond (decide (st.2.2<5)) (ag (ag (aY (vT u0 a) fu st.2.1) fun o=>aB o (fun c=>some (.bk c)) (fun _ _=>none) (fun r=>some (.rt r)):Option (Fl Int (Bool×(List Int)))) fun o=>aB o (fun d=>cond ((d==a)) (some (.rt (true,u0))) (cond (decide ((IntKind.i64.wrap (a - b))<50)) (some (.rt (false,u0))) (none))) (fun _ _=>none) (fun r=>some (.rt r))) (some (.bk (st.1,st.2.1,st.2.2)))
def vV (u0:(List Int))(a:Int)(b:Int):Option (Bool×(List Int)):=
 cond (List.isEmpty u0) none (ag (ag (aY (vU u0 a b) fu (false,(IntKind.i64.wrap (a+1)),0)) fun o=>aB o (fun c=>some (.bk c.1)) (fun _ _=>none) (fun r=>some (.rt r)):Option (Fl Bool (Bool×(List Int)))) fun o=>aB o (fun d=>some (false,u0)) (fun _ _=>none) (fun r=>some r))
theorem Gk {ro:Addr->Option Value}(u0:(List Int)){p:Value}{C:List (Nat×Obj)}(b:aN rI ro 3 p u0 C)(f:Int)(g:Int){r:(Bool×(List Int))}(h:vV u0 f g=some r):aC Tryz.prog 182 #[p,.int .i64 f,.int .i64 g] ⟨ro,C⟩ (fun v G=>∃D,(v= .bool r.1/\aN rI ro 3 p r.2 D)/\Le ⟨ro,D⟩ G):=by
 obtain ⟨d1,c2,rfl,a8⟩:=b.len;unfold vV at h;revert h;refine cS (fun E h=>?_) fun E h=>?_
 ·cases h
 obtain ⟨c,k,rfl,rfl,a9⟩:=b.g9 E;refine aC.go Tryz.func182 rfl Tryz.ntmps182 Tryz.results182 (by simp) fun main J hJ A H hd hs=>?_;have I:=hs 0;have k1:=hs 1;have K:=hs 2;clear hs;refine af hJ ?_;refine ay hJ fun ba=>?_;refine aj hJ ?_;simp only[*,go_sem];refine af hJ ?_;refine ay hJ fun bb=>?_;refine aj hJ ?_;simp only[*,go_sem];revert h;refine bS fun U h q=>?_;refine fZ hJ (fun a F'=>∃(s:Bool),some (Fl.bk s:Fl Bool (Bool×(List Int)))=some U/\F'=⟨ro,[(c,Obj.cells k 3)]⟩/\sz a=133/\a.defers=[]/\slot a 0= .slice (some ⟨c,0,none⟩) u0.length c2/\slot a 6= .bool s) ?_ ?_
 ·refine af hJ ?_;refine ay hJ fun bc=>?_;refine aj hJ ?_;simp only[*,go_sem];refine aO hJ ?_;revert h;refine bS fun V l t=>?_;refine bQ hJ [6,7,8,9,10,13,14,15,16,17,18,19,20,21,22,23,24,25,26,27,28,29,30,31,32,33,34,35,36,37,38,39,40,41,42,43,44,45,46,47,48,49,50,51,52,53,54,55,56,57,58,59,60,61,62,63,64,65,66,67,68,69,70,71,72,73,74,75,76,77,78,79,80,81,82,83,84,85,86,87,88,89,90,91,92,93,94,95,96,97,98,99,100,101,102,103,104,105,106,107,108,109,110,111,112,113,114,115,116,117,118,119,120,121,122,123,124,125,126,127,128,129,130,131,132] (fun m a F'=>∃(i:Bool) (n:Int) (v20:Int),aY (vU u0 f g) m (i,n,v20)=some V/\F'=⟨ro,[(c,Obj.cells k 3)]⟩/\slot a 6= .bool i/\slot a 7= .int .i64 n/\slot a 8= .int .i64 v20) fu ?_ ?_
  ·refine ⟨false,(IntKind.i64.wrap (f+1)),0,l,rfl,?_⟩;simp only[*,go_sem]
  rintro L M F' N ⟨i,n,v20,l,rfl,O,P,Q⟩;obtain ⟨u,w,x⟩:=N.pick [0,1,2] (by decide);simp only[*,go_sem] at u w x;clear N H hd I k1 K;obtain _|L:=L
  ·exact absurd l (by simp only[aY,reduceCtorEq,not_false_eq_true])
  revert l;refine bS fun bd h d=>?_;unfold vU at h;try dsimp only at h
  refine af hJ (af hJ ?_);refine ay hJ fun bj=>?_;refine aj hJ ?_;simp only[*,go_sem];revert h;refine jC hJ (by simp only[*,go_sem]) (fun W h=>?_) fun W h=>?_
  ·refine aH hJ (af hJ ?_);refine aO hJ ?_;revert h;refine bS fun X h Y=>?_;refine fZ hJ (fun a F'=>∃(y:Int),some (Fl.bk y:Fl Int (Bool×(List Int)))=some X/\F'=⟨ro,[(c,Obj.cells k 3)]⟩/\sz a=133/\a.defers=[]/\cz [6,7,8,9,10,13,14,15,16,17,18,19,20,21,22,23,24,25,26,27,28,29,30,31,32,33,34,35,36,37,38,39,40,41,42,43,44,45,46,47,48,49,50,51,52,53,54,55,56,57,58,59,60,61,62,63,64,65,66,67,68,69,70,71,72,73,74,75,76,77,78,79,80,81,82,83,84,85,86,87,88,89,90,91,92,93,94,95,96,97,98,99,100,101,102,103,104,105,106,107,108,109,110,111,112,113,114,115,116,117,118,119,120,121,122,123,124,125,126,127,128,129,130,131,132] a M/\slot a 0= .slice (some ⟨c,0,none⟩) u0.length c2/\slot a 1= .int .i64 f/\slot a 2= .int .i64 g/\slot a 6= .bool i/\slot a 7= .int .i64 y/\slot a 8= .int .i64 v20) ?_ ?_
   ·refine aO hJ ?_;revert h;refine bS fun Z o R=>?_;refine bQ hJ [7,17,18,19,20,21,22,23,24,25,26,27,28,29,30,31,32,33,34] (fun m a F'=>∃(e:Int),aY (vT u0 g) m e=some Z/\F'=⟨ro,[(c,Obj.cells k 3)]⟩/\slot a 7= .int .i64 e) fu ?_ ?_
    ·refine ⟨n,o,rfl,?_⟩;simp only[*,go_sem]
    rintro z ab F' B ⟨e,o,rfl,bl⟩;obtain ⟨ad,ae,al⟩:=B.pick [0,1,2,6,8,13,14] (by decide);simp only[*,go_sem] at ad ae al;have bm:cz [6,7,8,9,10,13,14,15,16,17,18,19,20,21,22,23,24,25,26,27,28,29,30,31,32,33,34,35,36,37,38,39,40,41,42,43,44,45,46,47,48,49,50,51,52,53,54,55,56,57,58,59,60,61,62,63,64,65,66,67,68,69,70,71,72,73,74,75,76,77,78,79,80,81,82,83,84,85,86,87,88,89,90,91,92,93,94,95,96,97,98,99,100,101,102,103,104,105,106,107,108,109,110,111,112,113,114,115,116,117,118,119,120,121,122,123,124,125,126,127,128,129,130,131,132] ab M:=(B.fG (by decide)).trans (by simp only[*,go_sem]);clear B u w x O P Q;obtain _|z:=z
    ·exact absurd o (by simp only[aY,reduceCtorEq,not_false_eq_true])
    revert o;refine bS fun bo h j=>?_;unfold vT at h;(try dsimp only at h);refine af hJ (af hJ ?_);refine ay hJ fun br=>?_;refine cQ hJ mixed 16 1 (by simp only[*,go_sem]) (by kernel_rfl) ?_;revert h;refine cS (fun ao h=>?_) fun ao h=>?_
    ·revert h;refine bS fun ar a0 h=>?_;obtain ⟨bs,bz,b0,b1⟩:=b.cL a0;revert h;refine bS fun a2 a3 h=>?_;obtain ⟨b2,b3,b4,b5⟩:=b.cL a3;revert h;refine bS fun ca a4 h=>?_;(try simp only[*,go_sem]);refine ⟨_,bC hJ fun F cb=>jr ar a2 a4,bY ?_⟩;(try simp only[*,go_sem]);revert h;refine jC hJ (by simp only[*,go_sem]) (fun a5 h=>?_) fun a5 h=>?_
     ·obtain rfl:=sI h;refine aH hJ (aO hJ ?_);refine ay hJ fun cd=>?_;refine aj hJ ?_;simp only[*,go_sem];refine ⟨z,Nat.lt_succ_self _,_,Le.sub (List.Sublist.refl _),(IntKind.i64.wrap (e+1)),j,rfl,?_⟩;simp only[*,go_sem]
     obtain rfl:=sI h;refine bN ?_;simp only[go_sem];obtain rfl:=sI j;clear j;have h:=R;dsimp only[aB] at h;(try simp only[*,go_sem]);refine Qn.intro ⟨_,Le.sub (List.Sublist.refl _),e,h,rfl,?_⟩;simp only[*,go_sem]
    obtain rfl:=sI h;(try simp only[*,go_sem]);refine bG hJ (by simp only[*,go_sem]) ?_;refine bN ?_;simp only[go_sem];obtain rfl:=sI j;clear j;have h:=R;dsimp only[aB] at h;(try simp only[*,go_sem]);refine Qn.intro ⟨_,Le.sub (List.Sublist.refl _),e,h,rfl,?_⟩;simp only[*,go_sem]
   rintro cf F' ⟨y,S,rfl,cl,cy,c0,da,db,dd,df,dk,dp⟩;obtain rfl:=sI S;clear S;have h:=Y;dsimp only[aB] at h;clear u w x O P Q;refine af hJ (af hJ ?_);refine ay hJ fun dq=>?_;refine aj hJ ?_;simp only[*,go_sem];revert h;refine jC hJ (by simp only[*,go_sem]) (fun a6 h=>?_) fun a6 h=>?_
   ·obtain rfl:=sI h;refine af hJ ?_;refine ay hJ fun ds=>?_;refine aj hJ ?_;simp only[*,go_sem];obtain rfl:=sI d;clear d;have h:=t;dsimp only[aB] at h;obtain rfl:=sI h;have h:=q;dsimp only[aB] at h;obtain rfl:=sI h;refine av ?_;simp only[*,go_sem];exact ⟨_,b,Le.sub (List.Sublist.refl _)⟩
   refine aH hJ (af hJ ?_);refine af hJ ?_;refine ay hJ fun dt=>?_;refine aj hJ ?_;simp only[*,go_sem];revert h;refine jC hJ (by simp only[*,go_sem]) (fun a7 h=>?_) fun a7 h=>?_
   ·obtain rfl:=sI h;refine af hJ ?_;refine ay hJ fun du=>?_;refine aj hJ ?_;simp only[*,go_sem];obtain rfl:=sI d;clear d;have h:=t;dsimp only[aB] at h;obtain rfl:=sI h;have h:=q;dsimp only[aB] at h;obtain rfl:=sI h;refine av ?_;simp only[*,go_sem];exact ⟨_,b,Le.sub (List.Sublist.refl _)⟩
   cases h
  obtain rfl:=sI h;refine bN ?_;simp only[go_sem];obtain rfl:=sI d;clear d;have h:=t;dsimp only[aB] at h;try simp only[*,go_sem]
  refine Qn.intro ⟨_,Le.sub (List.Sublist.refl _),i,h,rfl,?_⟩;simp only[*,go_sem]
 rintro dv F' ⟨s,T,rfl,dC,dE,dT,ea⟩;obtain rfl:=sI T;clear T;have h:=q;dsimp only[aB] at h;obtain rfl:=sI h;clear H hd I k1 K;refine af hJ ?_;refine ay hJ fun eb=>?_;refine aj hJ ?_;simp only[*,go_sem];refine av ?_;simp only[*,go_sem];exact ⟨_,b,Le.sub (List.Sublist.refl _)⟩
def vW (st:(Int×Int×Int×Bool×Bool×(List Int))):Option (Fl (Int×Int×Int×Bool×Bool×(List Int)) (Unit×(List Int))):=
 cond (decide ((IntKind.i64.wrap (st.2.1 - st.1))<=12)) (ag (r5 st.2.2.2.2.2 st.1 st.2.1) fun j=>some (.rt ((),j.2))) (cond ((st.2.2.1==0)) (none) (ag (cond (!st.2.2.2.1) (ag (vI st.2.2.2.2.2 st.1 st.2.1) fun k=>some (.bk ((IntKind.i64.wrap (st.2.2.1 - 1)),k.2))) (some (.bk (st.2.2.1,st.2.2.2.2.2))):Option (Fl (Int×(List Int)) (Unit×(List Int)))) fun o=>aB o (fun c=>ag (vE c.2 st.1 st.2.1) fun b=>cond ((b.1.2==2)) (none) (ag (cond (st.2.2.2.1) (cond (st.2.2.2.2.1) (cond ((b.1.2==1)) (ag (vV b.2 st.1 st.2.1) fun f=>cond (f.1) (some (.rt ((),f.2))) (some (.bk f.2))) (some (.bk b.2))) (some (.bk b.2))) (some (.bk b.2)):Option (Fl (List Int) (Unit×(List Int)))) fun o=>aB o (fun e=>ag (cond (decide (0<st.1)) (ag (bn e (IntKind.i64.wrap (st.1 - 1))) fun l=>ag (bn e b.1.1) fun m=>ag (hO l m) fun n=>cond (!n) (ag (vS e st.1 st.2.1 b.1.1) fun g=>some (.br 1 (g.1,g.2))) (some (.bk (st.1,e)))) (some (.bk (st.1,e))):Option (Fl (Int×(List Int)) (Unit×(List Int)))) fun o=>aB o (fun d=>ag (vO d.2 d.1 st.2.1 b.1.1) fun a=>ag (fy (IntKind.i64.wrap (st.2.1 - st.1)) 8) fun h=>cond (decide ((IntKind.i64.wrap (a.1.1 - d.1))<(IntKind.i64.wrap (st.2.1 - a.1.1)))) (ag (r6 a.2 d.1 a.1.1 c.1) fun p=>some (.nx ((IntKind.i64.wrap (a.1.1+1)),st.2.1,c.1,(decide (h<=(IntKind.i64.wrap (a.1.1 - d.1)))),a.1.2,p.2))) (ag (r6 a.2 (IntKind.i64.wrap (a.1.1+1)) st.2.1 c.1) fun q=>some (.nx (d.1,a.1.1,c.1,(decide (h<=(IntKind.i64.wrap (st.2.1 - a.1.1)))),a.1.2,q.2)))) (fun _ i=>some (.nx (i.1,st.2.1,c.1,st.2.2.2.1,st.2.2.2.2.1,i.2))) (fun r=>some (.rt r))) (fun _ _=>none) (fun r=>some (.rt r)))) (fun _ _=>none) (fun r=>some (.rt r))))
def vX (u0:(List Int))(a:Int)(b:Int)(c:Int):Option (Unit×(List Int)):=
 cond (List.isEmpty u0) none (ag (aY (vW) fu (a,b,c,true,true,u0)) fun o=>aB o (fun d=>some ((),d.2.2.2.2.2)) (fun _ _=>none) (fun r=>some r))
theorem Gl {ro:Addr->Option Value}(u0:(List Int)){H:Value}{T:List (Nat×Obj)}(I:aN rI ro 3 H u0 T)(K:Int)(L:Int)(M:Int){r:(Unit×(List Int))}(h:vX u0 K L M=some r):aC Tryz.prog 148 #[H,.int .i64 K,.int .i64 L,.int .i64 M] ⟨ro,T⟩ (fun v G=>∃d,(v= .tuple #[]/\aN rI ro 3 H r.2 d)/\Le ⟨ro,d⟩ G):=by
 obtain ⟨d1,c2,rfl,gT⟩:=I.len;unfold vX at h;revert h;refine cS (fun U h=>?_) fun U h=>?_
 ·cases h
 obtain ⟨b,bd,rfl,rfl,gV⟩:=I.g9 U;refine aC.go Tryz.func148 rfl Tryz.ntmps148 Tryz.results148 (by simp) fun main J hJ A bj hd hs=>?_;have bl:=hs 0;have k1:=hs 1;have bm:=hs 2;have bo:=hs 3;clear hs;refine af hJ ?_;refine ay hJ fun g0=>?_;refine aj hJ ?_;simp only[*,go_sem];refine af hJ ?_;refine ay hJ fun g1=>?_;refine aj hJ ?_;simp only[*,go_sem];refine aO hJ ?_;revert h;refine bS fun br z V=>?_;refine bQ hJ [1,2,3,8,9,10,11,12,13,14,15,16,17,18,19,20,21,22,23,24,25,26,27,28,29,30,31,32,33,34,35,36,37,38,39,40,41,42,43,44,45,46,47,48,49,50,51,52,53,54,55,56,57,58,59,60,61,62,63,64,65,66,67,68,69,70,71,72,73,74,75,76,77,78,79,80,81,82,83,84,85,86,87,88,89,90,91,92,93,94,95,96,97,98,99,100,101,102,103,104,105,106,107,108,109,110,111,112,113,114,115,116,117,118,119,120,121,122,123,124,125,126,127,128,129,130,131,132,133] (fun m a F'=>∃(B:Array Value) (e:Int) (c:Int) (t:Int) (l:Bool) (n:Bool) (q:(List Int)),aY (vW) m (e,c,t,l,n,q)=some br/\F'=⟨ro,[(b,Obj.cells B 3)]⟩/\aN rI ro 3 (.slice (some ⟨b,0,none⟩) u0.length c2) q [(b,Obj.cells B 3)]/\slot a 1= .int .i64 e/\slot a 2= .int .i64 c/\slot a 3= .int .i64 t/\slot a 8= .bool l/\slot a 9= .bool n) fu ?_ ?_
 ·refine ⟨bd,K,L,M,true,true,u0,z,rfl,I,?_⟩;simp only[*,go_sem]
 rintro u N F' W ⟨B,e,c,t,l,n,q,z,rfl,O,bs,bz,b0,b1,b2⟩;obtain ⟨X,Y,Z⟩:=W.pick [0] (by decide);simp only[*,go_sem] at X Y Z;clear W bj hd bl k1 bm bo;obtain _|u:=u
 ·exact absurd z (by simp only[aY,reduceCtorEq,not_false_eq_true])
 revert z;refine bS fun g2 h o=>?_;unfold vW at h;try dsimp only at h
 refine aO hJ (af hJ ?_);refine ay hJ fun g3=>?_;refine aj hJ ?_;simp only[*,go_sem];refine af hJ (af hJ ?_);refine ay hJ fun g4=>?_;refine aj hJ ?_;simp only[*,go_sem];revert h;refine jC hJ (by simp only[*,go_sem]) (fun b3 h=>?_) fun b3 h=>?_
 ·refine af hJ ?_;refine ay hJ fun ha=>?_;refine aj hJ ?_;revert h;refine bS fun hc b4 h=>?_;obtain rfl:=sI h;simp only[*,go_sem];refine dL hJ [] [] _ (Ar q O e c b4) (fun hf hg f d g hh=>?_);obtain ⟨rfl,ab⟩:=f;obtain ⟨b5,rfl⟩:=ab.gq;simp only[aT] at g;subst d;refine ⟨⟨ro,[(b,Obj.cells b5 3)]⟩,Le.refl _,?_⟩;try simp only[*,go_sem]
  obtain rfl:=sI o;clear o;have h:=V;dsimp only[aB] at h;obtain rfl:=sI h;refine av ?_;simp only[*,go_sem];exact ⟨_,ab,Le.sub (List.Sublist.refl _)⟩
 refine aH hJ (af hJ ?_);refine af hJ ?_;refine ay hJ fun hi=>?_;refine aj hJ ?_;simp only[*,go_sem];revert h;refine jC hJ (by simp only[*,go_sem]) (fun ca h=>?_) fun ca h=>?_
 ·cases h
 refine aH hJ ?_;revert h;refine bS fun cb h cd=>?_;refine fZ hJ (fun a F'=>∃(P:Array Value) (i:Int) (C:(List Int)),some (Fl.bk (i,C):Fl (Int×(List Int)) (Unit×(List Int)))=some cb/\F'=⟨ro,[(b,Obj.cells P 3)]⟩/\aN rI ro 3 (.slice (some ⟨b,0,none⟩) u0.length c2) C [(b,Obj.cells P 3)]/\sz a=134/\a.defers=[]/\cz [1,2,3,8,9,10,11,12,13,14,15,16,17,18,19,20,21,22,23,24,25,26,27,28,29,30,31,32,33,34,35,36,37,38,39,40,41,42,43,44,45,46,47,48,49,50,51,52,53,54,55,56,57,58,59,60,61,62,63,64,65,66,67,68,69,70,71,72,73,74,75,76,77,78,79,80,81,82,83,84,85,86,87,88,89,90,91,92,93,94,95,96,97,98,99,100,101,102,103,104,105,106,107,108,109,110,111,112,113,114,115,116,117,118,119,120,121,122,123,124,125,126,127,128,129,130,131,132,133] a N/\slot a 0= .slice (some ⟨b,0,none⟩) u0.length c2/\slot a 1= .int .i64 e/\slot a 2= .int .i64 c/\slot a 3= .int .i64 i/\slot a 8= .bool l/\slot a 9= .bool n/\slot a 10= .int .i64 (IntKind.i64.wrap (c - e))) ?_ ?_
 ·refine af hJ ?_;refine ay hJ fun hj=>?_;refine aj hJ ?_;simp only[*,go_sem];revert h;refine jC hJ (by simp only[*,go_sem]) (fun cf h=>?_) fun cf h=>?_
  ·refine af hJ ?_;refine ay hJ fun hk=>?_;refine aj hJ ?_;revert h;refine bS fun cl cy h=>?_;simp only[*,go_sem];refine dL hJ [] [] _ (Gh q O e c cy) (fun hl hn f d g ho=>?_);obtain ⟨rfl,ad⟩:=f;obtain ⟨ae,rfl⟩:=ad.gq;simp only[aT] at g;subst d;refine ⟨⟨ro,[(b,Obj.cells ae 3)]⟩,Le.refl _,?_⟩;(try simp only[*,go_sem]);refine ay hJ fun hp=>?_;refine aj hJ ?_;simp only[*,go_sem];refine Qn.intro ⟨_,Le.sub (List.Sublist.refl _),ae,(IntKind.i64.wrap (t - 1)),cl.2,h,rfl,ad,?_⟩;simp only[*,go_sem]
  refine aH hJ ?_;try simp only[*,go_sem]
  refine Qn.intro ⟨_,Le.sub (List.Sublist.refl _),B,t,q,h,rfl,O,?_⟩;simp only[*,go_sem]
 rintro hq F' ⟨P,i,C,al,rfl,c0,da,db,hr,dd,df,dk,dp,dq,ds,dt⟩;obtain rfl:=sI al;clear al;have h:=cd;dsimp only[aB] at h;clear X Y Z bs bz b0 b1 b2;refine af hJ ?_;refine ay hJ fun ht=>?_;refine aj hJ ?_;revert h;refine bS fun k du h=>?_;simp only[*,go_sem];refine dL hJ [] [] _ (F6 C c0 e c du) (fun hv hx f d g hy=>?_);obtain ⟨rfl,w⟩:=f;obtain ⟨D,rfl⟩:=w.gq;simp only[aT] at g;subst d;refine ⟨⟨ro,[(b,Obj.cells D 3)]⟩,Le.refl _,?_⟩;refine aJ ?_;try simp only[*,go_sem]
 refine af hJ (af hJ ?_);refine ay hJ fun hz=>?_;refine aj hJ ?_;simp only[*,go_sem];revert h;refine jC hJ (by simp only[*,go_sem]) (fun dv h=>?_) fun dv h=>?_
 ·cases h
 refine aH hJ ?_;revert h;refine bS fun dC h ao=>?_;refine fZ hJ (fun a F'=>∃(x:Array Value) (s:(List Int)),some (Fl.bk s:Fl (List Int) (Unit×(List Int)))=some dC/\F'=⟨ro,[(b,Obj.cells x 3)]⟩/\aN rI ro 3 (.slice (some ⟨b,0,none⟩) u0.length c2) s [(b,Obj.cells x 3)]/\sz a=134/\a.defers=[]/\cz [1,2,3,8,9,10,11,12,13,14,15,16,17,18,19,20,21,22,23,24,25,26,27,28,29,30,31,32,33,34,35,36,37,38,39,40,41,42,43,44,45,46,47,48,49,50,51,52,53,54,55,56,57,58,59,60,61,62,63,64,65,66,67,68,69,70,71,72,73,74,75,76,77,78,79,80,81,82,83,84,85,86,87,88,89,90,91,92,93,94,95,96,97,98,99,100,101,102,103,104,105,106,107,108,109,110,111,112,113,114,115,116,117,118,119,120,121,122,123,124,125,126,127,128,129,130,131,132,133] a N/\slot a 0= .slice (some ⟨b,0,none⟩) u0.length c2/\slot a 1= .int .i64 e/\slot a 2= .int .i64 c/\slot a 3= .int .i64 i/\slot a 8= .bool l/\slot a 9= .bool n/\slot a 10= .int .i64 (IntKind.i64.wrap (c - e))/\slot a 11= .int .i64 k.1.1) ?_ ?_
 ·refine af hJ ?_;refine ay hJ fun hA=>?_;refine aj hJ ?_;revert h;refine cS (fun dE h=>?_) fun dE h=>?_
  ·revert h;refine cS (fun dT h=>?_) fun dT h=>?_
   ·(try simp only[*,go_sem]);revert h;refine jC hJ (by simp only[*,go_sem]) (fun ea h=>?_) fun ea h=>?_
    ·refine af hJ ?_;refine ay hJ fun hB=>?_;refine aj hJ ?_;revert h;refine bS fun eb ec h=>?_;simp only[*,go_sem];refine dL hJ [] [] _ (Gk k.2 w e c ec) (fun hD hE f d g hF=>?_);obtain ⟨rfl,Q⟩:=f;obtain ⟨ar,rfl⟩:=Q.gq;simp only[aT] at g;subst d;refine ⟨⟨ro,[(b,Obj.cells ar 3)]⟩,Le.refl _,?_⟩;(try simp only[*,go_sem]);revert h;refine jC hJ (by simp only[*,go_sem]) (fun ed h=>?_) fun ed h=>?_
     ·obtain rfl:=sI h;have h:=ao;dsimp only[aB] at h;obtain rfl:=sI h;obtain rfl:=sI o;clear o;have h:=V;dsimp only[aB] at h;obtain rfl:=sI h;refine av ?_;simp only[*,go_sem];exact ⟨_,Q,Le.sub (List.Sublist.refl _)⟩
     refine aH hJ ?_;(try simp only[*,go_sem]);refine Qn.intro ⟨_,Le.sub (List.Sublist.refl _),ar,eb.2,h,rfl,Q,?_⟩;simp only[*,go_sem]
    refine aH hJ ?_;(try simp only[*,go_sem]);refine Qn.intro ⟨_,Le.sub (List.Sublist.refl _),D,k.2,h,rfl,w,?_⟩;simp only[*,go_sem]
   (try simp only[*,go_sem]);refine bG hJ (by simp only[*,go_sem]) ?_;refine aH hJ ?_;(try simp only[*,go_sem]);refine Qn.intro ⟨_,Le.sub (List.Sublist.refl _),D,k.2,h,rfl,w,?_⟩;simp only[*,go_sem]
  try simp only[*,go_sem]
  refine bG hJ (by simp only[*,go_sem]) ?_;refine aH hJ ?_;try simp only[*,go_sem]
  refine Qn.intro ⟨_,Le.sub (List.Sublist.refl _),D,k.2,h,rfl,w,?_⟩;simp only[*,go_sem]
 rintro hG F' ⟨x,s,a0,rfl,y,eh,et,hI,ev,eQ,eS,e0,e1,e2,e3,fa⟩;obtain rfl:=sI a0;clear a0;have h:=ao;dsimp only[aB] at h;clear da db dd df dk dp dq ds dt;revert h;refine bS fun fb h a2=>?_;refine fZ hJ (fun a F'=>∃(R:Array Value) (p:Int) (E:(List Int)),some (Fl.bk (p,E):Fl (Int×(List Int)) (Unit×(List Int)))=some fb/\F'=⟨ro,[(b,Obj.cells R 3)]⟩/\aN rI ro 3 (.slice (some ⟨b,0,none⟩) u0.length c2) E [(b,Obj.cells R 3)]/\sz a=134/\a.defers=[]/\cz [1,2,3,8,9,10,11,12,13,14,15,16,17,18,19,20,21,22,23,24,25,26,27,28,29,30,31,32,33,34,35,36,37,38,39,40,41,42,43,44,45,46,47,48,49,50,51,52,53,54,55,56,57,58,59,60,61,62,63,64,65,66,67,68,69,70,71,72,73,74,75,76,77,78,79,80,81,82,83,84,85,86,87,88,89,90,91,92,93,94,95,96,97,98,99,100,101,102,103,104,105,106,107,108,109,110,111,112,113,114,115,116,117,118,119,120,121,122,123,124,125,126,127,128,129,130,131,132,133] a N/\slot a 0= .slice (some ⟨b,0,none⟩) u0.length c2/\slot a 1= .int .i64 p/\slot a 2= .int .i64 c/\slot a 3= .int .i64 i/\slot a 8= .bool l/\slot a 9= .bool n/\slot a 10= .int .i64 (IntKind.i64.wrap (c - e))/\slot a 11= .int .i64 k.1.1) ?_ ?_
 ·refine af hJ ?_;refine ay hJ fun hK=>?_;refine cQ hJ mixed 15 1 (by simp only[*,go_sem]) (by kernel_rfl) ?_;revert h;refine cS (fun fg h=>?_) fun fg h=>?_
  ·revert h;refine bS fun fi fp h=>?_;obtain ⟨hL,hM,hN,hP⟩:=y.cL fp;revert h;refine bS fun fr fs h=>?_;obtain ⟨hQ,hR,hS,hT⟩:=y.cL fs;revert h;refine bS fun hV ft h=>?_;(try simp only[*,go_sem]);refine ⟨_,bC hJ fun F hX=>jr fi fr ft,bY ?_⟩;(try simp only[*,go_sem]);revert h;refine jC hJ (by simp only[*,go_sem]) (fun fv h=>?_) fun fv h=>?_
   ·refine af hJ ?_;refine ay hJ fun hY=>?_;refine aj hJ ?_;revert h;refine bS fun a3 fw h=>?_;obtain rfl:=sI h;simp only[*,go_sem];refine dL hJ [] [] _ (Gj s y e c k.1.1 fw) (fun hZ h0 f d g h1=>?_);obtain ⟨rfl,a4⟩:=f;obtain ⟨a5,rfl⟩:=a4.gq;simp only[aT] at g;subst d;refine ⟨⟨ro,[(b,Obj.cells a5 3)]⟩,Le.refl _,?_⟩;refine aJ ?_;(try simp only[*,go_sem]);refine af hJ ?_;refine ay hJ fun h2=>?_;refine aj hJ ?_;simp only[*,go_sem];refine bN ?_;simp only[go_sem];have h:=a2;dsimp only[aB] at h;obtain rfl:=sI h;(try simp only[*,go_sem]);refine ⟨u,Nat.lt_succ_self _,_,Le.sub (List.Sublist.refl _),a5,a3.1,c,i,l,n,a3.2,o,rfl,a4,?_⟩;simp only[*,go_sem]
   refine aH hJ ?_;(try simp only[*,go_sem]);refine Qn.intro ⟨_,Le.sub (List.Sublist.refl _),x,e,s,h,rfl,y,?_⟩;simp only[*,go_sem]
  try simp only[*,go_sem]
  refine bG hJ (by simp only[*,go_sem]) ?_;refine aH hJ ?_;try simp only[*,go_sem]
  refine Qn.intro ⟨_,Le.sub (List.Sublist.refl _),x,e,s,h,rfl,y,?_⟩;simp only[*,go_sem]
 rintro h3 F' ⟨R,p,E,a6,rfl,fx,h4,h5,h6,h7,h8,h9,ib,ic,ih,ik,il⟩;obtain rfl:=sI a6;clear a6;have h:=a2;dsimp only[aB] at h;clear eh et ev eQ eS e0 e1 e2 e3 fa;refine af hJ ?_;refine ay hJ fun im=>?_;refine aj hJ ?_;revert h;refine bS fun j gg h=>?_;simp only[*,go_sem];refine dL hJ [] [] _ (Gi E fx p c k.1.1 gg) (fun iv ix f d g j1=>?_);obtain ⟨rfl,S⟩:=f;obtain ⟨gl,rfl⟩:=S.gq;simp only[aT] at g;subst d;refine ⟨⟨ro,[(b,Obj.cells gl 3)]⟩,Le.refl _,?_⟩;refine aJ ?_;try simp only[*,go_sem]
 refine af hJ ?_;refine ay hJ fun j2=>?_;refine aj hJ ?_;simp only[*,go_sem];refine af hJ ?_;refine ay hJ fun kh=>?_;refine aj hJ ?_;simp only[*,go_sem];refine af hJ ?_;refine ay hJ fun kj=>?_;refine aj hJ ?_;revert h;refine bS fun a7 a8 h=>?_;obtain ⟨kk,kl⟩:=jM a8;clear a8;try simp only[*,go_sem]
 refine af hJ ?_;refine ay hJ fun km=>?_;refine aj hJ ?_;simp only[*,go_sem];revert h;refine jC hJ (by simp only[*,go_sem]) (fun gn h=>?_) fun gn h=>?_
 ·refine af hJ ?_;refine ay hJ fun kn=>?_;refine aj hJ ?_;simp only[*,go_sem];refine af hJ ?_;refine ay hJ fun kp=>?_;refine aj hJ ?_;revert h;refine bS fun gp gB h=>?_;obtain rfl:=sI h;simp only[*,go_sem];refine dL hJ [] [] _ (As j.2 S p j.1.1 i gB) (fun ks kt f d g kv=>?_);obtain ⟨rfl,a9⟩:=f;obtain ⟨ba,rfl⟩:=a9.gq;simp only[aT] at g;subst d;refine ⟨⟨ro,[(b,Obj.cells ba 3)]⟩,Le.refl _,?_⟩;try simp only[*,go_sem]
  refine ay hJ fun kx=>?_;refine aj hJ ?_;simp only[*,go_sem];refine ⟨u,Nat.lt_succ_self _,_,Le.sub (List.Sublist.refl _),ba,(IntKind.i64.wrap (j.1.1+1)),c,i,(decide (a7<=(IntKind.i64.wrap (j.1.1 - p)))),j.1.2,gp.2,o,rfl,a9,?_⟩;simp only[*,go_sem]
 refine af hJ ?_;refine ay hJ fun ky=>?_;refine aj hJ ?_;simp only[*,go_sem];refine af hJ ?_;refine ay hJ fun k0=>?_;refine aj hJ ?_;revert h;refine bS fun gC gM h=>?_;obtain rfl:=sI h;simp only[*,go_sem];refine dL hJ [] [] _ (As j.2 S (IntKind.i64.wrap (j.1.1+1)) c i gM) (fun k2 lb f d g lh=>?_);obtain ⟨rfl,bb⟩:=f;obtain ⟨bc,rfl⟩:=bb.gq;simp only[aT] at g;subst d;refine ⟨⟨ro,[(b,Obj.cells bc 3)]⟩,Le.refl _,?_⟩;try simp only[*,go_sem]
 refine ay hJ fun lj=>?_;refine aj hJ ?_;simp only[*,go_sem];refine ⟨u,Nat.lt_succ_self _,_,Le.sub (List.Sublist.refl _),bc,p,j.1.1,i,(decide (a7<=(IntKind.i64.wrap (c - j.1.1)))),j.1.2,gC.2,o,rfl,bb,?_⟩;simp only[*,go_sem]
def pV (u0:(List Int)):Option (Unit×(List Int)):=
 cond (List.isEmpty u0) none (ag (r7 (IntKind.u64.wrap (u0.length:Int))) fun a=>ag (vX u0 0 (u0.length:Int) a) fun b=>some ((),b.2))
theorem Gm {ro:Addr->Option Value}(u0:(List Int)){b:Value}{d:List (Nat×Obj)}(c:aN rI ro 3 b u0 d){r:(Unit×(List Int))}(h:pV u0=some r):aC Tryz.prog 121 #[b] ⟨ro,d⟩ (fun v G=>∃a,(v= .tuple #[]/\aN rI ro 3 b r.2 a)/\Le ⟨ro,a⟩ G):=by
 obtain ⟨d1,c2,rfl,o⟩:=c.len;unfold pV at h;revert h;refine cS (fun e h=>?_) fun e h=>?_
 ·cases h
 obtain ⟨g,p,rfl,rfl,q⟩:=c.g9 e;refine aC.go Tryz.func121 rfl Tryz.ntmps121 Tryz.results121 (by simp) fun main J hJ A s hd hs=>?_;have t:=hs 0;clear hs;refine af hJ ?_;refine ay hJ fun u=>?_;refine aj hJ ?_;simp only[*,go_sem,-h];refine ay hJ fun w=>?_;refine aj hJ ?_;revert h;refine bS fun i j h=>?_;simp only[*,go_sem,-h];refine bh hJ _ (Au (IntKind.u64.wrap (u0.length:Int)) j) (aJ ?_);revert h;refine bS fun x k h=>?_;try simp only[*,go_sem,-h]
 refine dL hJ [] [] _ (Gl u0 c 0 (u0.length:Int) i k) (fun y z l a m B=>?_);obtain ⟨rfl,f⟩:=l;obtain ⟨n,rfl⟩:=f.gq;simp only[aT] at m;subst a;refine ⟨⟨ro,[(g,Obj.cells n 3)]⟩,Le.refl _,?_⟩;try simp only[*,go_sem,-h]
 obtain rfl:=sI h;simp only[*,go_sem];exact ⟨_,f,Le.sub (List.Sublist.refl _)⟩
def js (x:List Int)(j:Nat):Bool:=j==0||x.getD j 0 != x.getD (j - 1) 0
def ga (x:List Int):Nat->List Int
 |0=>[]
 |n+1=>ga x n++cond (js x n) [x.getD n 0] []
theorem r8 (x:List Int):∀n,n<=x.length->(∀j,j<n->js x j=true)->ga x n=x.take n
 |0,_,_=>by simp[ga]
 |n+1,b,h=>by
  unfold ga
  rw[r8 x n (by omega) (fun j c=>h j (by omega)),h n (by omega),List.take_succ]
  congr 1
  have a:n<x.length:=by omega
  simp[a]
theorem Av (x:List Int){j:Nat}(h:j<1):js x j=true:=by
 obtain rfl:j=0:=by omega
 rfl
def r9 (u0:List Int):Option (List Int):=cond (List.isEmpty u0) none (some (ga u0 u0.length))
theorem Gn {ro:Addr->Option Value}(u0:List Int){Q:Value}{aR:List (Nat×Obj)}(hg:aN rI ro 3 Q u0 aR){r:List Int}(h:r9 u0=some r):
  aC Tryz.prog 122 #[Q] ⟨ro,aR⟩ (fun v G=>∃R,aN rI ro 3 v r R/\Le ⟨ro,R⟩ G):=by
 obtain ⟨ad,cap,rfl,le⟩:=hg.len
 unfold r9 at h
 have a8:=iL h;clear h;rcases a8 with ⟨S,h⟩|⟨S,h⟩
 ·cases h
 obtain ⟨b,F,rfl,rfl,cy⟩:=hg.g9 S
 cases h
 have cS:u0.length<=1000000:=by obtain ⟨_,_,_,h,_⟩:=hg;exact h
 have c0:Tryz.prog.underlying 3=some (.int .i64):=by kernel_rfl
 refine aC.go Tryz.func122 rfl Tryz.ntmps122 Tryz.results122 (by simp) fun main J hJ A a9 hd hs=>?_
 have ba:=hs 0
 clear hs
 repeat refine af hJ ?_
 refine aj hJ ?_
 simp only[*,go_sem]
 repeat refine af hJ ?_
 refine aj hJ ?_
 simp only[*,go_sem]
 repeat refine af hJ ?_
 by_cases da:u0.length<2
 ·refine bK hJ (by simp only[*,go_sem];simp;omega) ?_
  repeat refine af hJ ?_
  refine aj hJ ?_
  simp only[*,go_sem]
  refine av ?_
  simp only[*,go_sem]
  have e:ga u0 u0.length=u0:=by
   rw[r8 u0 _ (Nat.le_refl _) (fun j c=>Av u0 (by omega)),List.take_length]
  rw[e]
  exact ⟨_,hg,Le.refl _⟩
 refine bG hJ (by simp only[*,go_sem];simp;omega) ?_
 refine aH hJ ?_
 repeat refine af hJ ?_
 refine aj hJ ?_
 simp only[*,go_sem]
 repeat refine af hJ ?_
 refine aO hJ ?_
 refine bQ hJ [3,4,5,10,11,12,13,14,15,16,17,18,19,20,21,22,23,24,25,26,27,28,29,30,31,32,33,34,35,36,37,38,39,40,41,42,43,44,45,46,47,48,49,50,51,52,53,54,55,56,57,58,59] (fun m u F'=>∃k:Nat,1<=k/\k<=u0.length/\u0.length - k<=m/\F'=⟨ro,[(b,Obj.cells F 3)]⟩/\slot u 3= .int .i64 (k:Int)/\∀j,j<k->js u0 j=true) u0.length ?_ ?_
 ·refine ⟨1,Nat.le_refl _,by omega,by omega,rfl,?_,fun j c=>Av u0 c⟩
  simp only[*,go_sem]
  rfl
 ·rintro bb g F' B ⟨k,db,T,dd,rfl,bc,H⟩
  have bd:sz g=61:=by rw[B.size];simp only[*,go_sem]
  have bj:g.defers=[]:=by rw[B.defers];simp only[*,go_sem]
  have bk:slot g 0= .slice (some ⟨b,0,none⟩) u0.length cap:=by rw[B.dD 0 (by decide)];simp only[*,go_sem]
  clear B a9 hd ba
  repeat refine af hJ ?_
  repeat refine af hJ ?_
  refine aj hJ ?_
  simp only[*,go_sem]
  by_cases U:k<u0.length
  ·have hb:decide (((k:Nat):Int)<(u0.length:Int))=true:=decide_eq_true (by omega)
   refine bK hJ (by simp only[*,go_sem]) ?_
   refine aH hJ ?_
   repeat refine af hJ ?_
   refine aO hJ ?_
   repeat refine af hJ ?_
   obtain ⟨p,rfl⟩:∃p,k=p+1:=⟨k - 1,by omega⟩
   have hw:IntKind.i64.wrap (((p+1:Nat):Int) - 1)=(p:Int):=by rw[IntWalk.i64_in _ ⟨by omega,by omega⟩];omega
   refine e6 hJ mixed 9 ⟨ro,[(b,Obj.cells F 3)]⟩ (by simp only[*,go_sem]) (by kernel_rfl) ?_
   obtain ⟨l,V⟩:∃x,u0[p+1]?=some x:=⟨u0[p+1],by simp[U]⟩
   obtain ⟨I,K,L⟩:=hg.iM V
   obtain rfl:I=[.int .i64 l]:=K
   have W:=L 0 _ rfl
   simp only[go_sem] at W
   have df:=(Array.getElem?_eq_some_iff.1 W).1
   obtain ⟨o,X⟩:∃x,u0[p]?=some x:=⟨u0[p],by simp[Nat.lt_of_succ_lt U]⟩
   obtain ⟨M,N,O⟩:=hg.iM X
   obtain rfl:M=[.int .i64 o]:=N
   have Y:=O 0 _ rfl
   simp only[go_sem] at Y
   have dk:=(Array.getElem?_eq_some_iff.1 Y).1
   have dp:¬((p+1:Nat):Int)<0:=by omega
   have b2:((p+1:Nat):Int)<(u0.length:Int):=by omega
   have b3:¬(p:Int)<0:=by omega
   have b4:(p:Int)<(u0.length:Int):=by omega
   have b5:(0:Int)<=((p+1:Nat):Int):=by omega
   have dq:(0:Int)<=(p:Int):=by omega
   simp only[*,go_sem]
   have bl:u0.getD (p+1) 0=l:=by rw[List.getD_eq_getElem?_getD,V];rfl
   have bm:u0.getD p 0=o:=by rw[List.getD_eq_getElem?_getD,X];rfl
   have Z:js u0 (p+1)=(l != o):=by unfold js;rw[bl,Nat.add_sub_cancel,bm];simp
   clear L O
   by_cases P:l=o
   ·subst P
    refine bK hJ (by simp only[*,go_sem,beq_self_eq_true]) ?_
    repeat refine af hJ ?_
    refine aj hJ ?_
    have ds:p+1<=u0.length:=T
    have dt:p+1<=cap:=by omega
    have du:((p+1:Nat):Int)<=(u0.length:Int):=by omega
    have dv:u0.length<=cap:=le
    have dC:¬cap=p+1:=by omega
    simp only[*,go_sem]
    have bo:slot g 4=slot g 4:=rfl
    repeat refine af hJ ?_
    refine aj hJ ?_
    simp only[*,go_sem]
    repeat refine af hJ ?_
    refine aO hJ ?_
    have e0:ga u0 (p+2)=u0.take (p+1):=by
     show ga u0 (p+1)++cond (js u0 (p+1)) _ _=_
     rw[Z,r8 u0 _ T H];simp
    refine bQ hJ [3,5,29,30,31,32,33,34,35,36,37,38,39,40,41,42,43,44,45,46,47,48,49,50,51,52,53] (fun br u F'=>∃(m w:Nat) (arr:Array Value) (x:List Int),1<=m/\m<=u0.length - (p+1)/\u0.length - (p+1) - m<=br/\F'=⟨ro,[(b,Obj.cells arr 3)]⟩/\slot u 5= .int .i64 (m:Int)/\slot u 3= .int .i64 (w:Int)/\
     aN rI ro 3 (.slice (some ⟨b,0,none⟩) u0.length cap) x [(b,.cells arr 3)]/\x.length=u0.length/\(ga u0 (p+(1+m))).length=w/\w<=p+m/\x.take w=ga u0 (p+(1+m))/\∀j,p+m<=j->x[j]?=u0[j]?) u0.length ?_ ?_
    ·refine ⟨1,p+1,F,u0,Nat.le_refl _,by omega,by omega,rfl,?_,?_,hg,rfl,?_,Nat.le_refl _,e0.symm,fun _ _=>rfl⟩
     ·simp only[*,go_sem];rfl
     ·simp only[*,go_sem]
     ·show (ga u0 (p+2)).length=p+1
      rw[e0,List.length_take];omega
    ·rintro ab C F' s ⟨m,w,arr,x,L,O,dE,rfl,dT,ea,d,ae,t,eb,D,E⟩
     have ec:sz C=61:=by rw[s.size];simp only[*,go_sem]
     have ed:C.defers=[]:=by rw[s.defers];simp only[*,go_sem]
     have eh:slot C 0= .slice (some ⟨b,0,none⟩) u0.length cap:=by rw[s.dD 0 (by decide)];simp only[*,go_sem]
     have et:slot C 4= .slice (some ⟨b,p+1,none⟩) (u0.length - (p+1)) (cap - (p+1)):=by rw[s.dD 4 (by decide)];simp only[*,go_sem]
     clear s bd bj bk bc bo
     repeat refine af hJ ?_
     refine aj hJ ?_
     simp only[*,go_sem]
     by_cases ev:m<u0.length - (p+1)
     ·have bs:decide (((m:Nat):Int)<((u0.length - (p+1):Nat):Int))=true:=decide_eq_true (by omega)
      refine bK hJ (by simp only[*,go_sem]) ?_
      refine aH hJ ?_
      repeat refine af hJ ?_
      refine aO hJ ?_
      repeat refine af hJ ?_
      obtain ⟨q,rfl⟩:∃q,m=q+1:=⟨m - 1,by omega⟩
      have eQ:IntKind.i64.wrap (((q+1:Nat):Int) - 1)=(q:Int):=by rw[IntWalk.i64_in _ ⟨by omega,by omega⟩];omega
      refine e6 hJ mixed 9 ⟨ro,[(b,Obj.cells arr 3)]⟩ (by simp only[*,go_sem]) (by kernel_rfl) ?_
      obtain ⟨a,al⟩:∃y,u0[p+(1+(q+1))]?=some y:=⟨u0[p+(1+(q+1))]'(by omega),List.getElem?_eq_getElem _⟩
      obtain ⟨I,K,ao⟩:=d.iM ((E _ (by omega)).trans al)
      obtain rfl:I=[.int .i64 a]:=K
      have ar:=ao 0 _ rfl
      simp only[go_sem] at ar
      have eS:=(Array.getElem?_eq_some_iff.1 ar).1
      obtain ⟨f,a0⟩:∃y,u0[p+(1+q)]?=some y:=⟨u0[p+(1+q)]'(by omega),List.getElem?_eq_getElem _⟩
      obtain ⟨M,N,a2⟩:=d.iM ((E _ (by omega)).trans a0)
      obtain rfl:M=[.int .i64 f]:=N
      have a3:=a2 0 _ rfl
      simp only[go_sem] at a3
      have e2:=(Array.getElem?_eq_some_iff.1 a3).1
      have c1:¬((q+1:Nat):Int)<0:=by omega
      have c2:((q+1:Nat):Int)<((u0.length - (p+1):Nat):Int):=by omega
      have c3:¬(q:Int)<0:=by omega
      have c4:(q:Int)<((u0.length - (p+1):Nat):Int):=by omega
      have e3:(0:Int)<=((q+1:Nat):Int):=by omega
      have fa:(0:Int)<=(q:Int):=by omega
      simp only[*,go_sem]
      have a4:u0.getD (p+(1+(q+1))) 0=a:=by rw[List.getD_eq_getElem?_getD,al];rfl
      have bz:u0.getD (p+(1+q)) 0=f:=by rw[List.getD_eq_getElem?_getD,a0];rfl
      have bS:js u0 (p+(1+(q+1)))=(a != f):=by
       unfold js
       have b0:p+(1+(q+1)) - 1=p+(1+q):=by omega
       rw[b0,a4,bz]
       have:(p+(1+(q+1))==0)=false:=by simp
       rw[this,Bool.false_or]
      have e1:ga u0 (p+(1+(q+1+1)))=ga u0 (p+(1+(q+1)))++cond (a != f) [a] []:=by
       show ga u0 (p+(1+(q+1)))++cond (js u0 (p+(1+(q+1)))) [u0.getD (p+(1+(q+1))) 0] []=_
       rw[bS,a4]
      have fb:IntKind.i64.wrap (((q+1:Nat):Int)+1)=((q+1+1:Nat):Int):=by rw[IntWalk.i64_in _ ⟨by omega,by omega⟩];omega
      clear ao a2 t
      have t:(ga u0 (p+(1+(q+1)))).length=w:=by rw[<-D,List.length_take];omega
      by_cases a5:a=f
      ·subst a5
       simp only[bne_self_eq_false,cond_false,List.append_nil] at e1
       refine bG hJ (by simp only[*,go_sem,bne_self_eq_false]) ?_
       refine aH hJ ?_
       refine aj hJ ?_
       simp only[*,go_sem]
       refine ⟨ab - 1,by omega,_,Le.refl _,q+1+1,w,arr,x,by omega,by omega,by omega,rfl,?_,?_,d,ae,by rw[e1];exact t,by omega,by rw[e1];exact D,fun j c=>E j (by omega)⟩
       ·simp only[*,go_sem]
       ·simp only[*,go_sem]
      ·have b1:(a != f)=true:=by simpa using a5
       rw[b1] at e1
       simp only[cond_true] at e1
       refine bK hJ (by simp only[*,go_sem]) ?_
       repeat refine af hJ ?_
       refine aj hJ ?_
       have d1:(w:Int)<(u0.length:Int):=by omega
       have d2:¬(w:Int)<0:=by omega
       have d3:(0:Int)<=(w:Int):=by omega
       have fg:w<arr.size:=by omega
       simp only[*,go_sem]
       have ca:aN rI ro 3 (.slice (some ⟨b,0,none⟩) u0.length cap) (x.set w a) [(b,Obj.cells (cF arr w [.int .i64 a]) 3)]:=by
        have cb:=d.q6 (i:=w) (y:=a) (by omega) (cs:=[.int .i64 a]) rfl
        simpa only[ri,Nat.mul_one,Nat.add_zero] using cb
       have fi:IntKind.i64.wrap ((w:Int)+1)=((w+1:Nat):Int):=by rw[IntWalk.i64_in _ ⟨by omega,by omega⟩];omega
       refine aj hJ ?_
       simp only[*,go_sem]
       refine aj hJ ?_
       simp only[*,go_sem]
       refine ⟨ab - 1,by omega,_,Le.refl _,q+1+1,w+1,_,x.set w a,by omega,by omega,by omega,rfl,?_,?_,ca,by rw[List.length_set];exact ae,?_,by omega,?_,fun j c=>?_⟩
       ·simp only[*,go_sem]
       ·simp only[*,go_sem]
       ·rw[e1,List.length_append,t];rfl
       ·rw[e1,<-D,List.take_succ,List.take_set_of_le (Nat.le_refl _),List.getElem?_set_self (by omega)];rfl
       ·rw[List.getElem?_set_ne (by omega)];exact E j (by omega)
     ·have bs:decide (((m:Nat):Int)<((u0.length - (p+1):Nat):Int))=false:=decide_eq_false (by omega)
      refine bG hJ (by simp only[*,go_sem]) ?_
      refine bN ?_
      simp only[go_sem]
      have a6:p+(1+m)=u0.length:=by omega
      rw[a6] at t
      have d1:(w:Int)<=(u0.length:Int):=by omega
      have d2:¬(w:Int)<0:=by omega
      have d3:(0:Int)<=(w:Int):=by omega
      have d4:w<=u0.length:=by omega
      have d5:w<=cap:=by omega
      have d6:¬cap=w:=by omega
      have d7:(0:Int)<=(w:Int):=by omega
      have d8:(w:Int)<=(cap:Int):=by omega
      have cd:w+(u0.length - w)<=arr.size:=by
       obtain ⟨ls,cf,fp,-⟩:=id d
       rcases cf with ⟨a7,_,_⟩|⟨fr,fs,ft,a7,cl,hs,hle,_⟩
       ·cases a7
       ·cases cl
        have:rI.n=1:=rfl
        rw[this,Nat.mul_one] at hs
        omega
      repeat refine af hJ ?_
      refine aj hJ ?_
      simp only[*,go_sem,ite_false,if_false]
      refine E1 (pre:=[]) (bg:=[]) (z:=.int .i64 0) (zc:=.int .i64 0) rfl (by kernel_rfl:Tryz.prog.underlying 35=some (.slice 3)) (by kernel_rfl) rfl rfl (by omega) (by simp[au]) cd ?_
      dsimp only[List.nil_append]
      repeat refine af hJ ?_
      refine aj hJ ?_
      simp only[*,go_sem]
      refine av ?_
      simp only[*,go_sem]
      refine ⟨_,?_,Le.refl _⟩
      have:=d.clear (k:=w) (by omega)
      rw[D,a6] at this
      simpa only[ite_self,Nat.sub_zero] using this
   ·have aE:(l==o)=false:=by simpa using P
    refine bG hJ (by simp only[*,go_sem]) ?_
    refine aH hJ ?_
    refine aj hJ ?_
    have fu:IntKind.i64.wrap (((p+1:Nat):Int)+1)=((p+2:Nat):Int):=by rw[IntWalk.i64_in _ ⟨by omega,by omega⟩];omega
    simp only[*,go_sem]
    refine ⟨bb - 1,by omega,_,Le.refl _,p+2,by omega,by omega,by omega,rfl,by simp only[*,go_sem],fun j c=>?_⟩
    rcases Nat.lt_succ_iff_lt_or_eq.1 c with c|rfl
    ·exact H j c
    ·rw[Z];simpa using P
  ·have hb:decide (((k:Nat):Int)<(u0.length:Int))=false:=decide_eq_false (by omega)
   refine bG hJ (by simp only[*,go_sem]) ?_
   refine bN ?_
   simp only[go_sem]
   repeat refine af hJ ?_
   refine aj hJ ?_
   simp only[*,go_sem]
   refine av ?_
   simp only[*,go_sem]
   obtain rfl:k=u0.length:=by omega
   rw[r8 u0 _ (Nat.le_refl _) H,List.take_length]
   exact ⟨_,hg,Le.refl _⟩
def vY (n:Int):Option (List Int):=if 0<=n/\n<=1000 then some [] else none
theorem Gq {ro:Addr->Option Value}{R:Value->aa->Prop}{n:Nat}(o:0<n)(p:n<=1000){own:List (Nat×Obj)}
  (h:∀(k b:Nat) (arr:Array Value),n<=k->arr.size=k->dP ⟨ro,own⟩ b->R (.slice (some ⟨b,0,none⟩) n k) ⟨ro,(b,.cells arr 3)::own⟩):
  lJ Tryz.prog #[35,3] (.slice none 0 0) (.int .i64 (n:Int)) R ⟨ro,own⟩:=by
 intro ty
 have c:Tryz.prog.underlying 35=some (.slice 3):=by kernel_rfl
 have d:Tryz.prog.underlying 3=some (.int .i64):=by kernel_rfl
 have e:bW Tryz.prog 3=some 1:=by kernel_rfl
 have f:zeroOf Tryz.prog 3=some (.int .i64 0):=by kernel_rfl
 obtain ⟨info,g,i⟩:∃info,Tryz.prog.info? 3=some info/\info.bytes=8:=⟨_,rfl,by kernel_rfl⟩
 have w1:IntKind.i64.wrap (n:Int)=(n:Int):=IntWalk.i64_in _ ⟨by omega,by omega⟩
 have c1:¬(n:Int)<0:=by omega
 have c2:¬(n:Int)*(8:Nat)>2 ^ 48:=by omega
 have c3:¬0+n<=0:=by omega
 simp only[Builtin.append_,List.getElem?_toArray,List.getElem?_cons_zero,List.getElem?_cons_succ,bp,dr,c,d,eE,e,bD,yZ,if_true,di,w1,if_neg c1,oI,g,i]
 rw[if_neg c2]
 simp only[Int.toNat_natCast,Nat.zero_add,Bool.not_true,Bool.false_eq_true,if_false]
 have c4:¬n<=0:=by omega
 have j:¬((n:Int)>IntKind.i64.max/\(True\/8=0)):=by
  have:IntKind.i64.max=9223372036854775807:=by decide
  rw[this];omega
 have l:¬Builtin.nextslicecap n 0*8>2 ^ 48:=by
  unfold Builtin.nextslicecap
  rw[if_pos (by omega)]
  omega
 have m:¬n*1=0:=by omega
 rw[if_neg c4,if_neg j,if_neg l]
 rw[tP]
 rw[if_neg (by simp[Question.forced])]
 intro t
 have a:n<=(Question.appendCap n 0 3).cut t:=Nat.le_add_right _ _
 generalize (Question.appendCap n 0 3).cut t=k at a ⊢
 refine uh _ ?_
 simp only[Builtin.firstCells,bD,if_neg m,lD,f,qE,bp]
 intro b hb
 refine ⟨_,Le.refl _,h k b _ a ?_ hb⟩
 simp only[Array.size_append,Builtin.zeroCells,Array.size_map,Array.size_range,Value.cells]
 simp
 omega
theorem Gs {ro:Addr->Option Value}(n:Int){x:List Int}(h:vY n=some x):aC Tryz.prog 131 #[.slice none 0 0,.int .i64 n] ⟨ro,[]⟩ (fun v G=>∃c,aN rI ro 3 v x c/\Le ⟨ro,c⟩ G):=by
 unfold vY at h;split at h
 case isFalse=>cases h
 rename_i g;obtain rfl:=Option.some.inj h;obtain ⟨n,rfl⟩:∃m:Nat,n=m:=⟨n.toNat,by omega⟩
 refine aC.go Tryz.func131 rfl Tryz.ntmps131 Tryz.results131 (by simp) fun main J hJ A j hd hs=>?_;have l:=hs 0;have k1:=hs 1;clear hs;repeat refine af hJ ?_
 refine aj hJ ?_;simp only[*,go_sem];repeat refine af hJ ?_
 refine aj hJ ?_;simp only[*,go_sem];repeat refine af hJ ?_
 have o:¬(n:Int)<0:=by omega
 refine bG hJ (by simp only[*,go_sem,decide_false]) ?_;refine aH hJ ?_;repeat refine af hJ ?_
 refine aj hJ ?_;simp only[*,go_sem];refine Aa rfl (by kernel_rfl:Tryz.prog.underlying 35=some (.slice 3)) (aJ ?_);have e1:IntKind.i64.wrap (((0:Nat):Int) - ((0:Nat):Int))=0:=by decide
 have p:IntKind.i64.wrap ((0:Int) - (0:Int))=0:=by decide
 have e2:IntKind.i64.wrap ((n:Int) - 0)=(n:Int):=by rw[IntWalk.i64_in _ ⟨by omega,by omega⟩];omega
 simp only[*,go_sem];repeat refine af hJ ?_
 refine aj hJ ?_;simp only[*,go_sem];repeat refine af hJ ?_
 by_cases d:0<n
 ·have b2:(n:Int)>0:=by omega
  refine bK hJ (by simp only[*,go_sem,decide_true]) ?_;repeat refine af hJ ?_
  refine aj hJ ?_;simp only[*,go_sem];refine Aa rfl (by kernel_rfl:Tryz.prog.underlying 35=some (.slice 3)) (aJ ?_);simp only[*,go_sem];simp only[Nat.le_refl,Int.le_refl,and_self,if_true,true_and];refine Gq d (by omega) fun k b arr q e hb=>aJ ?_;have f:∀off sp,ro ⟨b,off,sp⟩=none:=hb.ro;have b3:(0:Int)<=(k:Int):=by omega
  simp only[*,go_sem,Int.le_refl,and_self,if_true,ite_self,Nat.sub_zero];repeat refine af hJ ?_
  refine aj hJ ?_;simp only[*,go_sem];refine av ?_;simp only[*,go_sem];refine ⟨[(b,.cells arr 3)],⟨[],.inr ⟨b,arr,k,rfl,rfl,?_,Nat.zero_le _,?_,fun x a=>(by cases a),f⟩,rfl,Nat.zero_le _,fun i x a=>by simp at a⟩,Le.refl _⟩
  ·show arr.size=k*1;rw[e,Nat.mul_one]
  ·simp
 ·have b2:¬(0:Int)<(n:Int):=by omega
  refine bG hJ (by simp only[*,go_sem,decide_false]) ?_;refine aH hJ ?_;repeat refine af hJ ?_
  refine aj hJ ?_;simp only[*,go_sem];refine av ?_;simp only[*,go_sem];exact ⟨[],aN.nil _ _ _,Le.refl _⟩
def sd (u0:ak):Option (ak×Int):=
 ag (gu u0 ([]:(List (ak->Option Int)))) fun a=>cond ((a.2 != 0)) (some ((⟨0,0,(⟨0,0⟩:an),([]:(List b7)),([]:(List cm)),([]:(List bZ)),([]:(List bR))⟩:ak),a.2)) (ag (vl u0.aD) fun b=>ag (rT u0.props) fun c=>ag (rS u0.aG) fun d=>ag (rR u0.told) fun e=>some ((⟨u0.bH,u0.bO,u0.aW,b,c,d,e⟩:ak),0))
theorem vZ {ro:Addr->Option Value}(a6:c8 ro)(u0:ak){s1 z B C:Value}(E:bL ro u0 s1 z B C){r:(ak×Int)}(h:sd u0=some r):eF Tryz.prog 72 #[bv u0 s1 z B C] ro (fun v aM=>∃ao w1 w2 w3,v= .tuple #[bv r.1 ao w1 w2 w3,.int .i64 r.2]/\bL aM r.1 ao w1 w2 w3):=by
 unfold sd at h;have a7:=E.oc;simp only[bE] at a7;refine aC.go Tryz.func72 rfl Tryz.ntmps72 Tryz.results72 (by simp) fun main J hJ A a8 hd hs=>?_;have a9:=hs 0;clear hs;refine ah hJ ?_;simp only[*,go_sem];refine az fun a F ba=>?_;try simp only[au] at ba
 refine az fun b G bb=>?_;try simp only[au] at bb
 try simp only[*,go_sem]
 refine af hJ (ah hJ ?_);revert h;refine bS fun c bc h=>?_;simp only[*,go_sem];refine b9 hJ _ (jq a6 u0 E ([]:(List (ak->Option Int))) (aA.nil _ _) bc) fun v U ae al bd=>?_;obtain ⟨d,f,g,i,j,rfl,bj,bl⟩:=bd;have bm:=bj.oc;simp only[bE] at bm;have bo:=bl.oc;simp only[bE] at bo;replace E:=E.mono ae;replace G:=al.hd;replace F:=al.tl.hd;simp only[bq] at al;refine aJ ?_;try simp only[*,go_sem]
 refine az fun k K br=>?_;try simp only[au] at br
 try simp only[*,go_sem]
 refine ah hJ ?_;simp only[*,go_sem];revert h;refine jC hJ (by simp only[*,go_sem]) (fun bs h=>?_) fun bs h=>?_
 ·obtain rfl:=sI h;refine ah hJ ?_;simp only[*,go_sem];refine av ?_;simp only[*,go_sem];exact ⟨_,ae,Le.sub (List.nil_sublist _),_,_,_,_,rfl,⟨aA.nil _ _,aA.nil _ _,aA.nil _ _,aA.nil _ _⟩⟩
 refine aH hJ (af hJ ?_);refine ay hJ fun cS=>?_;refine eG hJ mixed [13,14,15,16,17,18,19] (.pure 0 (.rd 1 (.pure 3 (.rd 4 (.pure 6 (.rd 7 (.pure 9 (.rd 10 (.one 2 (.pure 12 (.one 5 (.one 8 (.one 11 (.last 13 (.pure 14 (.last 15 (.pure 16 (.last 17 (.pure 18 (.last 19 .done)))))))))))))))))))) ⟨U,[(k,kn c.1 d f g i j),(b,bz 29),(a,bk u0 s1 z B C)]⟩ (by simp only[*,go_sem]) (by kernel_rfl) ?_;revert h;refine bS fun m b0 h=>?_;simp only[*,go_sem];refine dL hJ (aR:=[]) [(k,kn c.1 d f g i j),(b,bz 29),(a,bk u0 s1 z B C)] [] _ (FX u0.aD E.e b0) (fun c0 L ar M N da=>?_);simp only[aT] at N;subst M;obtain ⟨d158,n,rfl,db⟩:=ar.len;refine ⟨⟨U,(k,kn c.1 d f g i j)::(b,bz 29)::(a,bk u0 s1 z B C)::L⟩,Le.refl _,?_⟩;refine ⟨by simp only[*,go_sem],bX ?_⟩;revert h;refine bS fun o b1 h=>?_;try simp only[*,go_sem]
 refine dL hJ (aR:=[]) [(k,kn c.1 d f g i j),(b,bz 29),(a,bk u0 s1 z B C)] L _ (Am u0.props E.p b1) (fun dd O V M N df=>?_);simp only[aT] at N;subst M;obtain ⟨d168,q,rfl,dk⟩:=V.len;refine ⟨⟨U,(k,kn c.1 d f g i j)::(b,bz 29)::(a,bk u0 s1 z B C)::(O++L)⟩,Le.refl _,?_⟩;refine ⟨by simp only[*,go_sem],bX ?_⟩;revert h;refine bS fun s b2 h=>?_;try simp only[*,go_sem]
 refine dL hJ (aR:=[]) [(k,kn c.1 d f g i j),(b,bz 29),(a,bk u0 s1 z B C)] (O++L) _ (Al u0.aG E.y b2) (fun dp P H M N dq=>?_);simp only[aT] at N;subst M;obtain ⟨d178,u,rfl,ds⟩:=H.len;refine ⟨⟨U,(k,kn c.1 d f g i j)::(b,bz 29)::(a,bk u0 s1 z B C)::(P++(O++L))⟩,Le.refl _,?_⟩;refine ⟨by simp only[*,go_sem],bX ?_⟩;revert h;refine bS fun w b3 h=>?_;obtain rfl:=sI h;try simp only[*,go_sem]
 refine dL hJ (aR:=[]) [(k,kn c.1 d f g i j),(b,bz 29),(a,bk u0 s1 z B C)] (P++(O++L)) _ (vk u0.told E.t b3) (fun dt Q D M N du=>?_);simp only[aT] at N;subst M;obtain ⟨d188,x,rfl,dv⟩:=D.len;refine ⟨⟨U,(k,kn c.1 d f g i j)::(b,bz 29)::(a,bk u0 s1 z B C)::(Q++(P++(O++L)))⟩,Le.refl _,?_⟩;refine ⟨by simp only[*,go_sem],bX ?_⟩;try simp only[*,go_sem]
 refine af hJ ?_;refine fL [1,2,3] fun dC b4 b5 ca=>?_;simp only[*,go_sem] at b4 b5 ca;clear a8 hd a9;refine ay hJ fun dE=>?_;refine aj hJ ?_;simp only[*,go_sem];refine ay hJ fun a0=>?_;obtain ⟨dT,X,R,I,cb⟩:=ar.kM ((k,kn c.1 d f g i j)::(b,bk u0 (sl d158 m n) (sl d168 o q) (sl d178 s u) (sl d188 w x))::(a,bk u0 (sl d158 m n) (sl d168 o q) (sl d178 s u) (sl d188 w x))::(Q++(P++O))) ((k,kn c.1 d f g i j)::(b,bk u0 (sl d158 m n) (sl d168 o q) (sl d178 s u) (sl d188 w x))::(a,bk u0 (sl d158 m n) (sl d168 o q) (sl d178 s u) (sl d188 w x))::(Q++(P++O))) [] (by first|rfl|simp only[aT]|(simp only[aT];rfl)) (by first|rfl|simp only[aT]|(simp only[aT];rfl)) a0 (aF.cons K (aF.cons G (aF.cons F (aF.app D.jg (aF.app H.jg (V.jg))))));clear a0;refine cB hJ cb ?_;obtain ⟨ea,eb,-⟩:=I.op;replace K:=R.hd;replace G:=R.tl.hd;replace F:=R.tl.tl.hd;replace D:=D.mono X R.tl.tl.tl.l;replace H:=H.mono X R.tl.tl.tl.r.l;replace V:=V.mono X R.tl.tl.tl.r.r;simp only[bq] at R;refine ay hJ fun a2=>?_;obtain ⟨ec,Y,S,T,cd⟩:=V.kM ((k,kn c.1 d f g i j)::(b,bk u0 (sl d158 m n) (sl d168 o q) (sl d178 s u) (sl d188 w x))::(a,bk u0 (sl d158 m n) (sl d168 o q) (sl d178 s u) (sl d188 w x))::(Q++P)) ((k,kn c.1 d f g i j)::(b,bk u0 (sl d158 m n) (sl d168 o q) (sl d178 s u) (sl d188 w x))::(a,bk u0 (sl d158 m n) (sl d168 o q) (sl d178 s u) (sl d188 w x))::(Q++P)) [] (by first|rfl|simp only[aT]|(simp only[aT];rfl)) (by first|rfl|simp only[aT]|(simp only[aT];rfl)) a2 (aF.cons K (aF.cons G (aF.cons F (aF.app D.jg (H.jg)))));clear a2;refine cB hJ cd ?_;obtain ⟨ed,eh,-⟩:=T.op;replace I:=I.mono Y;replace K:=S.hd;replace G:=S.tl.hd;replace F:=S.tl.tl.hd;replace D:=D.mono Y S.tl.tl.tl.l;replace H:=H.mono Y S.tl.tl.tl.r;simp only[bq] at S;refine ay hJ fun a3=>?_;obtain ⟨et,Z,W,ab,cf⟩:=H.kM ((k,kn c.1 d f g i j)::(b,bk u0 (sl d158 m n) (sl d168 o q) (sl d178 s u) (sl d188 w x))::(a,bk u0 (sl d158 m n) (sl d168 o q) (sl d178 s u) (sl d188 w x))::Q) ((k,kn c.1 d f g i j)::(b,bk u0 (sl d158 m n) (sl d168 o q) (sl d178 s u) (sl d188 w x))::(a,bk u0 (sl d158 m n) (sl d168 o q) (sl d178 s u) (sl d188 w x))::Q) [] (by first|rfl|simp only[aT]|(simp only[aT];rfl)) (by first|rfl|simp only[aT]|(simp only[aT];rfl)) a3 (aF.cons K (aF.cons G (aF.cons F (D.jg))));clear a3;refine cB hJ cf ?_;obtain ⟨ev,eQ,-⟩:=ab.op;replace I:=I.mono Z;replace T:=T.mono Z;replace K:=W.hd;replace G:=W.tl.hd;replace F:=W.tl.tl.hd;replace D:=D.mono Z W.tl.tl.tl;simp only[bq] at W;refine ay hJ fun a4=>?_;obtain ⟨eS,ad,cl,a5,cy⟩:=D.kM ((k,kn c.1 d f g i j)::(b,bk u0 (sl d158 m n) (sl d168 o q) (sl d178 s u) (sl d188 w x))::(a,bk u0 (sl d158 m n) (sl d168 o q) (sl d178 s u) (sl d188 w x))::[]) [(k,kn c.1 d f g i j),(b,bk u0 (sl d158 m n) (sl d168 o q) (sl d178 s u) (sl d188 w x)),(a,bk u0 (sl d158 m n) (sl d168 o q) (sl d178 s u) (sl d188 w x))] [] (by first|rfl|simp only[aT]|(simp only[aT];rfl)) (by first|rfl|simp only[aT]|(simp only[aT];rfl)) a4 (aF.cons K (aF.cons G (aF.cons F (aF.nil _))));clear a4;refine cB hJ cy ?_;obtain ⟨e0,e1,-⟩:=a5.op;replace I:=I.mono ad;replace T:=T.mono ad;replace ab:=ab.mono ad;simp only[bq] at cl;refine av ?_;simp only[*,go_sem];exact ⟨_,((((ae).trans X).trans Y).trans Z).trans ad,Le.sub (List.nil_sublist _),_,_,_,_,rfl,⟨I,T,ab,a5⟩⟩
def v5 (u0:Int)(a:Int):Option Int:=
 ag (nD u0) fun c=>ag (nD a) fun b=>cond (c) (cond (b) (some 0) (some (-1))) (cond (b) (some 1) (cond (decide (u0<a)) (some (-1)) (cond (decide (a<u0)) (some 1) (some 0))))
theorem Gt {ro:Addr->Option Value}(u0:Int)(a:Int){r:Int}(h:v5 u0 a=some r):aC Tryz.prog 142 #[.int .i64 u0,.int .i64 a] ⟨ro,[]⟩ (fun v _=>v= .int .i64 r):=by
 unfold v5 at h;refine aC.go Tryz.func142 rfl Tryz.ntmps142 Tryz.results142 (by simp) fun main J hJ A j hd hs=>?_;have k:=hs 0;have k1:=hs 1;clear hs;refine ah hJ ?_;simp only[*,go_sem];refine ah hJ ?_;revert h;refine bS fun l b h=>?_;simp only[*,go_sem];refine bh hJ _ (r4 u0 b) (aJ ?_);try simp only[*,go_sem]
 refine ah hJ ?_;revert h;refine bS fun m c h=>?_;simp only[*,go_sem];refine bh hJ _ (r4 a c) (aJ ?_);try simp only[*,go_sem]
 refine af hJ (ah hJ ?_);simp only[*,go_sem];revert h;refine jC hJ (by simp only[*,go_sem]) (fun d h=>?_) fun d h=>?_
 ·refine af hJ (ah hJ ?_);simp only[*,go_sem];revert h;refine jC hJ (by simp only[*,go_sem]) (fun e h=>?_) fun e h=>?_
  ·obtain rfl:=sI h;refine ah hJ ?_;simp only[*,go_sem];refine av ?_;simp only[*,go_sem]
  obtain rfl:=sI h;refine aH hJ (af hJ ?_);refine aj hJ ?_;simp only[*,go_sem];refine av ?_;simp only[*,go_sem]
 refine aH hJ (af hJ ?_);refine ah hJ ?_;simp only[*,go_sem];revert h;refine jC hJ (by simp only[*,go_sem]) (fun f h=>?_) fun f h=>?_
 ·obtain rfl:=sI h;refine ah hJ ?_;simp only[*,go_sem];refine av ?_;simp only[*,go_sem]
 refine aH hJ (af hJ ?_);refine ah hJ ?_;simp only[*,go_sem];revert h;refine jC hJ (by simp only[*,go_sem]) (fun g h=>?_) fun g h=>?_
 ·obtain rfl:=sI h;refine ah hJ ?_;simp only[*,go_sem];refine av ?_;simp only[*,go_sem]
 refine aH hJ (af hJ ?_);refine ah hJ ?_;simp only[*,go_sem];revert h;refine jC hJ (by simp only[*,go_sem]) (fun i h=>?_) fun i h=>?_
 ·obtain rfl:=sI h;refine ah hJ ?_;simp only[*,go_sem];refine av ?_;simp only[*,go_sem]
 obtain rfl:=sI h;refine aH hJ (af hJ ?_);refine aj hJ ?_;simp only[*,go_sem];refine av ?_;simp only[*,go_sem]
def v7 (a:(List Int))(i16:Nat)(c:Int)(st:Int):Option (Fl Int Int):=
 cond (decide ((a.length:Int)<=(i16:Int))) (some (.rt 1)) (ag (bn a (i16:Int)) fun d=>ag (v5 c d) fun b=>cond ((b != 0)) (some (.rt b)) (some (.nx st)))
def v8 (u0:(List Int))(a:(List Int)):Option Int:=
 ag (bF (v7 a) 0 u0 0) fun o=>aB o (fun b=>cond (decide ((u0.length:Int)<(a.length:Int))) (some (-1)) (some 0)) (fun _ _=>none) (fun r=>some r)
theorem Gu {ro:Addr->Option Value}(u0:(List Int)){s1:Value}(g:aA rI ro s1 u0)(d:(List Int)){i:Value}(j:aA rI ro i d){r:Int}(h:v8 u0 d=some r):aC Tryz.prog 106 #[s1,i] ⟨ro,[]⟩ (fun v _=>v= .int .i64 r):=by
 obtain ⟨d3,c4,rfl,U,w,-⟩:=id g;obtain ⟨d10,V,rfl,W,X,-⟩:=id j;unfold v8 at h;refine aC.go Tryz.func106 rfl Tryz.ntmps106 Tryz.results106 (by simp) fun main J hJ A y hd hs=>?_;have z:=hs 0;have k1:=hs 1;clear hs;refine ah hJ ?_;simp only[*,go_sem];refine af hJ (ah hJ ?_);simp only[*,go_sem];refine aO hJ ?_;revert h;refine bS fun B a e=>?_;refine bQ hJ [4,5,6,7,8,11,12,13,14,15,16,17,18,19,20,21,22,23,24,25,26,27,28,29,30] (fun m k F'=>∃(i16:Nat) (c:Int),m=u0.length - i16/\i16<=u0.length/\bF (v7 d) i16 (u0.drop i16) c=some B/\F'=⟨ro,[]⟩/\slot k 11= .int .i64 (i16:Int)/\slot k 4= .int .i64 c) u0.length ?_ ?_
 ·refine ⟨0,0,(Nat.sub_zero _).symm,Nat.zero_le _,a,rfl,?_⟩;simp only[*,go_sem]
 rintro Y Z F' l ⟨i16,c,rfl,ab,a,rfl,ad,ae⟩;obtain ⟨C,D,E⟩:=l.pick [0,1,9,10] (by decide);simp only[*,go_sem] at C D E;clear l y hd z k1;refine ah hJ ?_;simp only[*,go_sem];refine af hJ ?_;rcases Nat.lt_or_ge i16 u0.length with F|o
 ·refine bK hJ (by simp only[*,go_sem]) ?_;refine aH hJ ?_;obtain ⟨p,f⟩:∃x,u0[i16]?=some x:=⟨_,List.getElem?_eq_getElem F⟩
  rw[dc f] at a;revert a;refine bS fun al h b=>?_;unfold v7 at h;try dsimp only at h
  obtain ⟨ao,G,H,I,q⟩:=g.el _ _ f;obtain rfl:G=[.int .i64 p]:=I;cases H;have K:=q 0 _ rfl;simp only[go_sem] at K;clear q f;refine af hJ (aO hJ (af hJ ?_));refine aj hJ ?_;simp only[*,go_sem];refine af hJ (ah hJ ?_);simp only[*,go_sem];revert h;refine jC hJ (by simp only[*,go_sem]) (fun L h=>?_) fun L h=>?_
  ·obtain rfl:=sI h;refine ah hJ ?_;simp only[*,go_sem];obtain rfl:=sI b;clear b;have h:=e;dsimp only[aB] at h;obtain rfl:=sI h;refine av ?_;simp only[*,go_sem]
  refine aH hJ (af hJ ?_);refine aj hJ ?_;revert h;refine bS fun s M h=>?_;obtain ⟨ar,a0,t⟩:=cW M;obtain ⟨a2,N,O,P,u⟩:=j.el _ _ t;obtain rfl:N=[.int .i64 s]:=P;cases O;have Q:=u 0 _ rfl;simp only[go_sem] at Q;clear u t;try simp only[*,go_sem]
  refine ah hJ ?_;revert h;refine bS fun a3 R h=>?_;simp only[*,go_sem];refine bh hJ _ (Gt p s R) (aJ ?_);try simp only[*,go_sem]
  refine ah hJ ?_;simp only[*,go_sem];revert h;refine jC hJ (by simp only[*,go_sem]) (fun S h=>?_) fun S h=>?_
  ·obtain rfl:=sI h;refine ah hJ ?_;simp only[*,go_sem];obtain rfl:=sI b;clear b;have h:=e;dsimp only[aB] at h;obtain rfl:=sI h;refine av ?_;simp only[*,go_sem]
  obtain rfl:=sI h;refine aH hJ ?_;have a4:=cp (n:=i16) (by have:=w;omega);refine aj hJ ?_;simp only[*,go_sem];refine ⟨u0.length - (i16+1),by omega,_,Le.sub (List.Sublist.refl _),i16+1,c,rfl,by omega,b,rfl,?_⟩;simp only[*,go_sem]
 have a5:=Nat.not_lt.2 o;refine bG hJ (by simp only[*,go_sem]) ?_;rw[List.drop_eq_nil_of_le o] at a;obtain rfl:=sI a;clear a;have h:=e;dsimp only[aB] at h;refine bN ?_;simp only[go_sem];refine af hJ (ah hJ ?_);simp only[*,go_sem];revert h;refine jC hJ (by simp only[*,go_sem]) (fun T h=>?_) fun T h=>?_
 ·obtain rfl:=sI h;refine ah hJ ?_;simp only[*,go_sem];refine av ?_;simp only[*,go_sem]
 obtain rfl:=sI h;refine aH hJ (af hJ ?_);refine aj hJ ?_;simp only[*,go_sem];refine av ?_;simp only[*,go_sem]
def se (u0:(List Int))(a:(List Int)):Option Bool:=
 cond (decide ((a.length:Int)<(u0.length:Int))) (some true) (cond (((a.length:Int)==(u0.length:Int))) (ag (v8 a u0) fun b=>some (decide (b<0))) (some false))
theorem Gv {ro:Addr->Option Value}(u0:(List Int)){s1:Value}(d:aA rI ro s1 u0)(a:(List Int)){e:Value}(f:aA rI ro e a){r:Bool}(h:se u0 a=some r):aC Tryz.prog 105 #[s1,e] ⟨ro,[]⟩ (fun v _=>v= .bool r):=by
 obtain ⟨d3,c4,rfl,i,j,-⟩:=id d;obtain ⟨d10,k,rfl,l,m,-⟩:=id f;unfold se at h;refine aC.go Tryz.func105 rfl Tryz.ntmps105 Tryz.results105 (by simp) fun main J hJ A n hd hs=>?_;have o:=hs 0;have k1:=hs 1;clear hs;refine ah hJ ?_;simp only[*,go_sem];refine ah hJ ?_;revert h;refine cS (fun b h=>?_) fun b h=>?_
 ·obtain rfl:=sI h;try simp only[Int.ofNat_lt] at b
  try simp only[*,go_sem]
  refine av ?_;simp only[*,go_sem]
 try simp only[Int.ofNat_lt] at b
 revert h;refine cS (fun c h=>?_) fun c h=>?_
 ·try simp only[Int.ofNat_lt] at c
  revert h;refine bS fun p g h=>?_;obtain rfl:=sI h;try simp only[*,go_sem]
  refine bh hJ _ (Gu a (f.mono aQ) u0 (d.mono aQ) g) (aJ ?_);try simp only[*,go_sem]
  refine av ?_;simp only[*,go_sem]
 obtain rfl:=sI h;try simp only[Int.ofNat_lt] at c
 try simp only[*,go_sem]
 refine av ?_;simp only[*,go_sem]
def kR (u0:ak)(b:Int):Option (Int×Int):=
 ag (gu u0 ([(eJ b)])) fun a=>cond ((a.2 != 0)) (some (0,a.2)) (ag (nv a.1 (fun c=>jm c a.1 b)) fun d=>some (d,0))
theorem v9 {ro:Addr->Option Value}(j:c8 ro)(u0:ak){s1 k l m:Value}(i:bL ro u0 s1 k l m)(c:Int){r:(Int×Int)}(h:kR u0 c=some r):aC Tryz.prog 24 #[bv u0 s1 k l m,.int .i64 c] ⟨ro,[]⟩ (fun v _=>v= .tuple #[.int .i64 r.1,.int .i64 r.2]):=by
 unfold kR at h;have G:=i.oc;simp only[bE] at G;refine aC.go Tryz.func24 rfl Tryz.ntmps24 Tryz.results24 (by simp) fun main J hJ A ae hd hs=>?_;have al:=hs 0;have k1:=hs 1;clear hs;refine ah hJ ?_;simp only[*,go_sem];refine az fun H I K=>?_;try simp only[au] at K
 refine az fun u L M=>?_;try simp only[au] at M
 try simp only[*,go_sem]
 refine af hJ ?_;refine ay hJ fun N=>?_;refine aj hJ ?_;revert h;refine bS fun n O h=>?_;simp only[*,go_sem];refine az fun f w z=>?_;have B:=aP.cons z N;try simp only[au] at z
 try simp only[*,go_sem]
 obtain ⟨q,C,D⟩:=fK (b:=f) (o:=(.cells #[.func (.func 68) #[.int .i64 c] #[]] 127)) [] ((u,ic c)::(H,bk u0 s1 k l m)::[]) B w (aF.cons L (aF.cons I (aF.nil _)));have E:aA (cY) (bP ro f (.cells #[.func (.func 68) #[.int .i64 c] #[]] 127)) (.slice (some ⟨f,0,none⟩) 1 1) [(eJ c)]:=(aA.one (r:=(cY)) (e:=127) (cs:=#[.func (.func 68) #[.int .i64 c] #[]]) (x:=(eJ c)) (own:=[(f,.cells #[.func (.func 68) #[.int .i64 c] #[]] 127)]) w (by simp[lk]) ⟨68,#[.int .i64 c],#[],rfl,⟨by simp only[go_sem],fun P a g _ _ _ _ _ Q R S T h=>by simp only[go_sem];exact ru c g ⟨Q,R,S,T⟩ h⟩⟩)
 generalize bP ro f (.cells #[.func (.func 68) #[.int .i64 c] #[]] 127)=ao at E C q D;refine gJ hJ D ?_;replace i:=i.mono q;replace j:=j.mono q;simp only[bq] at C;have U:=aP.tl B;refine b9 hJ _ (jq j u0 i ([(eJ c)]) E O) fun v ar a0 V W=>?_;obtain ⟨a2,a3,a4,a5,a6,rfl,d,s⟩:=W;have X:=d.oc;simp only[bE] at X;simp only[bq] at V;obtain ⟨d41,a7,rfl,a8,a9,-⟩:=id d.e;obtain ⟨d48,ba,rfl,bb,bc,-⟩:=id d.p;obtain ⟨d55,bd,rfl,bj,bl,-⟩:=id d.y;obtain ⟨d62,bm,rfl,bo,br,-⟩:=id d.t;obtain ⟨d69,bs,rfl,bz,b0,-⟩:=id s;refine aJ ?_;try simp only[*,go_sem]
 refine az fun Y b1 F=>?_;have b2:=aP.cons F U;try simp only[au] at F
 try simp only[*,go_sem]
 refine af hJ (ah hJ ?_);simp only[*,go_sem];revert h;refine jC hJ (by simp only[*,go_sem]) (fun Z h=>?_) fun Z h=>?_
 ·obtain rfl:=sI h;refine ah hJ ?_;simp only[*,go_sem];refine av ?_;simp only[*,go_sem]
 refine aH hJ (af hJ ?_);refine aj hJ ?_;revert h;refine bS fun b3 ab h=>?_;obtain rfl:=sI h;simp only[*,go_sem];refine bh hJ _ (Ak (dx:=80) (dV:=#[]) (dW:=#[.pointer (some ⟨Y,0,none⟩),.pointer (some ⟨u,0,none⟩)]) n.1 (d.mono aQ) (s.mono aQ) (fun g=>jm g n.1 c) ⟨by simp only[go_sem],fun P a g b4 ad=>by simp only[go_sem];exact FR g n.1 (a _ _ (by simp only[aa.cq,go_sem, *])) (a _ _ (by simp only[aa.cq,go_sem, *])) (a _ _ (by simp only[aa.cq,go_sem, *])) (a _ _ (by simp only[aa.cq,go_sem, *])) ((d.e.mono aQ).mono a) (a _ _ (by simp only[aa.cq,go_sem, *])) ((d.p.mono aQ).mono a) (a _ _ (by simp only[aa.cq,go_sem, *])) ((d.y.mono aQ).mono a) (a _ _ (by simp only[aa.cq,go_sem, *])) ((d.t.mono aQ).mono a) (a _ _ (by simp only[aa.cq,go_sem, *])) ((s.mono aQ).mono a) (a _ _ (by simp only[aa.cq,go_sem, *])) c (a _ _ (by simp only[aa.cq,go_sem, *])) ad⟩ ab) (aJ ?_);try simp only[*,go_sem]
 refine av ?_;simp only[*,go_sem]
def jZ (u0:ak):Option (Int×Int):=
 ag (gu u0 ([]:(List (ak->Option Int)))) fun a=>cond ((a.2 != 0)) (some (0,a.2)) (ag (nv a.1 (fun b=>jo b a.1)) fun c=>some (c,0))
theorem pW {ro:Addr->Option Value}(l:c8 ro)(u0:ak){s1 g i j:Value}(k:bL ro u0 s1 g i j){r:(Int×Int)}(h:jZ u0=some r):aC Tryz.prog 27 #[bv u0 s1 g i j] ⟨ro,[]⟩ (fun v _=>v= .tuple #[.int .i64 r.1,.int .i64 r.2]):=by
 unfold jZ at h;have m:=k.oc;simp only[bE] at m;refine aC.go Tryz.func27 rfl Tryz.ntmps27 Tryz.results27 (by simp) fun main J hJ A D hd hs=>?_;have E:=hs 0;clear hs;refine ah hJ ?_;simp only[*,go_sem];refine az fun F G n=>?_;try simp only[au] at n
 try simp only[*,go_sem]
 refine ah hJ ?_;revert h;refine bS fun c o h=>?_;simp only[*,go_sem];refine b9 hJ _ (jq l u0 k ([]:(List (ak->Option Int))) (aA.nil _ _) o) fun v H I q s=>?_;obtain ⟨K,L,M,N,O,rfl,b,d⟩:=s;have u:=b.oc;simp only[bE] at u;simp only[bq] at q;obtain ⟨d37,P,rfl,Q,R,-⟩:=id b.e;obtain ⟨d44,S,rfl,T,U,-⟩:=id b.p;obtain ⟨d51,V,rfl,W,X,-⟩:=id b.y;obtain ⟨d58,Y,rfl,Z,ab,-⟩:=id b.t;obtain ⟨d65,ad,rfl,ae,al,-⟩:=id d;refine aJ ?_;try simp only[*,go_sem]
 refine az fun w ao x=>?_;try simp only[au] at x
 try simp only[*,go_sem]
 refine af hJ (ah hJ ?_);simp only[*,go_sem];revert h;refine jC hJ (by simp only[*,go_sem]) (fun z h=>?_) fun z h=>?_
 ·obtain rfl:=sI h;refine ah hJ ?_;simp only[*,go_sem];refine av ?_;simp only[*,go_sem]
 refine aH hJ (af hJ ?_);refine aj hJ ?_;revert h;refine bS fun ar B h=>?_;obtain rfl:=sI h;simp only[*,go_sem];refine bh hJ _ (Ak (dx:=84) (dV:=#[]) (dW:=#[.pointer (some ⟨w,0,none⟩)]) c.1 (b.mono aQ) (d.mono aQ) (fun f=>jo f c.1) ⟨by simp only[go_sem],fun a0 a f a2 C=>by simp only[go_sem];exact FT f c.1 (a _ _ (by simp only[aa.cq,go_sem, *])) (a _ _ (by simp only[aa.cq,go_sem, *])) (a _ _ (by simp only[aa.cq,go_sem, *])) (a _ _ (by simp only[aa.cq,go_sem, *])) ((b.e.mono aQ).mono a) (a _ _ (by simp only[aa.cq,go_sem, *])) ((b.p.mono aQ).mono a) (a _ _ (by simp only[aa.cq,go_sem, *])) ((b.y.mono aQ).mono a) (a _ _ (by simp only[aa.cq,go_sem, *])) ((b.t.mono aQ).mono a) (a _ _ (by simp only[aa.cq,go_sem, *])) ((d.mono aQ).mono a) (a _ _ (by simp only[aa.cq,go_sem, *])) C⟩ B) (aJ ?_);try simp only[*,go_sem]
 refine av ?_;simp only[*,go_sem]
def we (a:(cK×Int))(i74:Nat)(i83:Nat)(b:aU)(st:Int):Option (Fl Int (Int×Int×Int)):=
 ag (aU.get b (i74:Int)) fun c=>ag (gO a.1.book (i74:Int) c) fun d=>ag (fY a.1.book d) fun e=>cond (e) (some (.nx (IntKind.i64.wrap (st+1)))) (some (.nx st))
def wh (b:(cK×Int))(i74:Nat)(c:bZ)(st:(Int×Int)):Option (Fl (Int×Int) (Int×Int×Int)):=
 ag (bF (we b i74) 0 b.1.all 0) fun o=>aB o (fun a=>cond (decide ((if a<IntKind.i64.wrap ((b.1.all.length:Int) - a) then IntKind.i64.wrap ((b.1.all.length:Int) - a) else a)<st.2)) (some (.nx ((i74:Int),(if a<IntKind.i64.wrap ((b.1.all.length:Int) - a) then IntKind.i64.wrap ((b.1.all.length:Int) - a) else a)))) (some (.nx (st.1,st.2)))) (fun _ _=>none) (fun r=>some (.rt r))
def wj (u0:ak):Option (Int×Int×Int):=
 ag (gu u0 ([]:(List (ak->Option Int)))) fun a=>cond ((a.2 != 0)) (some (0,0,a.2)) (ag (bF (wh a) 0 a.1.book.aG ((-1),(a.1.all.length:Int))) fun o=>aB o (fun b=>some (b.1,b.2,0)) (fun _ _=>none) (fun r=>some r))
theorem Gw {ro:Addr->Option Value}(V:c8 ro)(u0:ak){s1 g i j:Value}(w:bL ro u0 s1 g i j){r:(Int×Int×Int)}(h:wj u0=some r):aC Tryz.prog 64 #[bv u0 s1 g i j] ⟨ro,[]⟩ (fun v _=>v= .tuple #[.int .i64 r.1,.int .i64 r.2.1,.int .i64 r.2.2]):=by
 unfold wj at h;have W:=w.oc;simp only[bE] at W;refine aC.go Tryz.func64 rfl Tryz.ntmps64 Tryz.results64 (by simp) fun main J hJ A X hd hs=>?_;have Y:=hs 0;clear hs;refine ah hJ ?_;simp only[*,go_sem];refine az fun z dq Z=>?_;try simp only[au] at Z
 try simp only[*,go_sem]
 refine ah hJ ?_;revert h;refine bS fun a ab h=>?_;simp only[*,go_sem];refine b9 hJ _ (jq V u0 w ([]:(List (ak->Option Int))) (aA.nil _ _) ab) fun v B ds ad ae=>?_;obtain ⟨C,D,dt,E,du,rfl,f,G⟩:=ae;have al:=f.oc;simp only[bE] at al;simp only[bq] at ad;obtain ⟨d51,H,rfl,dv,I,-⟩:=id f.y;obtain ⟨d65,K,rfl,dC,L,-⟩:=id G;refine aJ ?_;try simp only[*,go_sem]
 refine az fun M dE ao=>?_;try simp only[au] at ao
 try simp only[*,go_sem]
 refine af hJ (ah hJ ?_);simp only[*,go_sem];revert h;refine jC hJ (by simp only[*,go_sem]) (fun ar h=>?_) fun ar h=>?_
 ·obtain rfl:=sI h;refine ah hJ ?_;simp only[*,go_sem];refine av ?_;simp only[*,go_sem]
 refine aH hJ (af hJ ?_);refine cQ hJ mixed 5 2 (by simp only[*,go_sem]) (by kernel_rfl) ?_;simp only[*,go_sem];refine af hJ (ah hJ ?_);simp only[*,go_sem];refine aO hJ ?_;revert h;refine bS fun a0 c a2=>?_;refine bQ hJ [2,3,6,7,9,10,27,28,29,30,31,32,33,34,35,36,37,38,39,40,41,42,43,44,45,46,47,48,49,50,51,52,53,54,55,56,57,58,59,60,61,62] (fun m e F'=>∃(i74:Nat) (k:Int) (l:Int),m=a.1.book.aG.length - i74/\i74<=a.1.book.aG.length/\bF (wh a) i74 (a.1.book.aG.drop i74) (k,l)=some a0/\F'=⟨B,(M,kn a.1 C D (sl d51 a.1.book.aG H) E (sl d65 a.1.all K))::(z,bk u0 s1 g i j)::[]⟩/\slot e 27= .int .i64 (i74:Int)/\slot e 2= .int .i64 k/\slot e 3= .int .i64 l) a.1.book.aG.length ?_ ?_
 ·refine ⟨0,(-1),(a.1.all.length:Int),(Nat.sub_zero _).symm,Nat.zero_le _,c,rfl,?_⟩;simp only[*,go_sem]
 rintro dT a3 F' N ⟨i74,k,l,rfl,ea,c,rfl,a4,a5,a6⟩;obtain ⟨O,P,Q⟩:=N.pick [4,5,26] (by decide);simp only[*,go_sem] at O P Q;clear N X hd Y;refine ah hJ ?_;simp only[*,go_sem];refine af hJ ?_;rcases Nat.lt_or_ge i74 a.1.book.aG.length with a7|R
 ·refine bK hJ (by simp only[*,go_sem]) ?_;refine aH hJ ?_;obtain ⟨a8,q⟩:∃x,a.1.book.aG[i74]?=some x:=⟨_,List.getElem?_eq_getElem a7⟩
  rw[dc q] at c;revert c;refine bS fun eb h S=>?_;unfold wh at h;try dsimp only at h
  obtain ⟨a9,ba,bb,bc,o⟩:=f.y.el _ _ q;obtain rfl:ba=a8.cells:=bc;cases bb;have bd:=o 0 _ rfl;simp only[go_sem] at bd;have bj:=o 1 _ rfl;simp only[go_sem] at bj;have bl:=o 2 _ rfl;simp only[go_sem] at bl;clear o q;refine af hJ (aO hJ (af hJ ?_));refine aj hJ ?_;simp only[*,go_sem];refine ah hJ ?_;simp only[*,go_sem];refine af hJ (ah hJ ?_);simp only[*,go_sem];refine aO hJ ?_;revert h;refine bS fun bm d bo=>?_;refine bQ hJ [7,9,33,34,35,36,37,38,39,40,41,42,43,44,45,46,47,48,49] (fun m e F'=>∃(i83:Nat) (b:Int),m=a.1.all.length - i83/\i83<=a.1.all.length/\bF (we a i74) i83 (a.1.all.drop i83) b=some bm/\F'=⟨B,(M,kn a.1 C D (sl (some a9) a.1.book.aG H) E (sl d65 a.1.all K))::(z,bk u0 s1 g i j)::[]⟩/\slot e 33= .int .i64 (i83:Int)/\slot e 7= .int .i64 b) a.1.all.length ?_ ?_
  ·refine ⟨0,0,(Nat.sub_zero _).symm,Nat.zero_le _,d,rfl,?_⟩;simp only[*,go_sem]
  rintro ec br F' s ⟨i83,b,rfl,ed,d,rfl,eh,et⟩;obtain ⟨bs,bz,b0⟩:=s.pick [2,3,4,5,6,26,27,28,29,30,31,32] (by decide);simp only[*,go_sem] at bs bz b0;have ev:cz [2,3,6,7,9,10,27,28,29,30,31,32,33,34,35,36,37,38,39,40,41,42,43,44,45,46,47,48,49,50,51,52,53,54,55,56,57,58,59,60,61,62] br a3:=(s.fG (by decide)).trans (by simp only[*,go_sem]);clear s O P Q a5 a6 a4;refine ah hJ ?_;simp only[*,go_sem];refine af hJ ?_;rcases Nat.lt_or_ge i83 a.1.all.length with b1|T
  ·refine bK hJ (by simp only[*,go_sem]) ?_;refine aH hJ ?_;obtain ⟨b2,t⟩:∃x,a.1.all[i83]?=some x:=⟨_,List.getElem?_eq_getElem b1⟩
   rw[dc t] at d;revert d;refine bS fun eQ h U=>?_;unfold we at h;(try dsimp only at h);obtain ⟨eS,b3,b4,b5,p⟩:=G.el _ _ t;obtain rfl:b3=b2.cells:=b5;cases b4;have ca:=p 0 _ rfl;simp only[go_sem] at ca;have cb:=p 1 _ rfl;simp only[go_sem] at cb;have cd:=p 2 _ rfl;simp only[go_sem] at cd;clear p t;refine af hJ (aO hJ (af hJ ?_));refine aj hJ ?_;simp only[*,go_sem];refine az fun e0 e1 cf=>?_;try simp only[au] at cf
   (try simp only[*,go_sem]);refine af hJ ?_;refine cQ hJ mixed 10 3 (by simp only[*,go_sem]) (by kernel_rfl) ?_;revert h;refine bS fun cl cy h=>?_;obtain ⟨e2,e3,cS⟩:=aU.get_some cy;(try simp only[go_sem] at cS);revert h;refine bS fun c0 da h=>?_;(try simp only[*,go_sem]);refine ⟨_,bC hJ fun F u=>lW a.1.book (f.mono (b8 u)) (i74:Int) cl da,bY ?_⟩;revert h;refine bS fun fa db h=>?_;(try simp only[*,go_sem]);refine ⟨_,bC hJ fun F u=>l9 a.1.book (f.mono (b8 u)) c0 db,?_⟩;(try simp only[*,go_sem]);revert h;refine jC hJ (by simp only[*,go_sem]) (fun dd h=>?_) fun dd h=>?_
   ·obtain rfl:=sI h;refine aj hJ ?_;simp only[*,go_sem];have df:=cp (n:=i83) (by have:=L;omega);refine aj hJ ?_;simp only[*,go_sem];refine ⟨a.1.all.length - (i83+1),by omega,_,Le.sub (List.Sublist.cons _ (List.Sublist.refl _)),i83+1,(IntKind.i64.wrap (b+1)),rfl,by omega,U,rfl,?_⟩;simp only[*,go_sem]
   obtain rfl:=sI h;refine aH hJ ?_;have df:=cp (n:=i83) (by have:=L;omega);refine aj hJ ?_;simp only[*,go_sem];refine ⟨a.1.all.length - (i83+1),by omega,_,Le.sub (List.Sublist.cons _ (List.Sublist.refl _)),i83+1,b,rfl,by omega,U,rfl,?_⟩;simp only[*,go_sem]
  have fb:=Nat.not_lt.2 T;refine bG hJ (by simp only[*,go_sem]) ?_;rw[List.drop_eq_nil_of_le T] at d;obtain rfl:=sI d;clear d;have h:=bo;dsimp only[aB] at h;refine bN ?_;simp only[go_sem];refine ah hJ ?_;simp only[*,go_sem];refine ah hJ ?_;simp only[*,go_sem];revert h;refine jC hJ (by simp only[*,go_sem]) (fun dk h=>?_) fun dk h=>?_
  ·obtain rfl:=sI h;refine aj hJ ?_;simp only[*,go_sem];have dp:=cp (n:=i74) (by have:=I;omega);refine aj hJ ?_;simp only[*,go_sem];refine ⟨a.1.book.aG.length - (i74+1),by omega,_,Le.sub (List.Sublist.refl _),i74+1,(i74:Int),(if b<IntKind.i64.wrap ((a.1.all.length:Int) - b) then IntKind.i64.wrap ((a.1.all.length:Int) - b) else b),rfl,by omega,S,rfl,?_⟩;simp only[*,go_sem]
  obtain rfl:=sI h;refine aH hJ ?_;have dp:=cp (n:=i74) (by have:=I;omega);refine aj hJ ?_;simp only[*,go_sem];refine ⟨a.1.book.aG.length - (i74+1),by omega,_,Le.sub (List.Sublist.refl _),i74+1,k,l,rfl,by omega,S,rfl,?_⟩;simp only[*,go_sem]
 have fg:=Nat.not_lt.2 R;refine bG hJ (by simp only[*,go_sem]) ?_;rw[List.drop_eq_nil_of_le R] at c;obtain rfl:=sI c;clear c;have h:=a2;dsimp only[aB] at h;obtain rfl:=sI h;refine bN ?_;simp only[go_sem];refine ah hJ ?_;simp only[*,go_sem];refine av ?_;simp only[*,go_sem]
def nE (u0:ak):Option Int:=
 cond (((u0.props.length:Int)==3)) (some 2) (some 0)
theorem Gx {ro:Addr->Option Value}(u0:ak){s1 b c d:Value}(a:bL ro u0 s1 b c d){r:Int}(h:nE u0=some r):aC Tryz.prog 97 #[bv u0 s1 b c d] ⟨ro,[]⟩ (fun v _=>v= .int .i64 r):=by
 obtain ⟨d3,c4,rfl,i,j,-⟩:=id a.e;obtain ⟨d10,k,rfl,l,m,-⟩:=id a.p;obtain ⟨d17,n,rfl,o,q,-⟩:=id a.y;obtain ⟨d24,s,rfl,u,w,-⟩:=id a.t;unfold nE at h;refine aC.go Tryz.func97 rfl Tryz.ntmps97 Tryz.results97 (by simp) fun main J hJ A x hd hs=>?_;have z:=hs 0;clear hs;refine ah hJ ?_;simp only[*,go_sem];refine az fun B C f=>?_;try simp only[au] at f
 try simp only[*,go_sem]
 refine af hJ (ah hJ ?_);simp only[*,go_sem];revert h;refine jC hJ (by simp only[*,go_sem]) (fun g h=>?_) fun g h=>?_
 ·obtain rfl:=sI h;refine ah hJ ?_;simp only[*,go_sem];refine av ?_;simp only[*,go_sem]
 obtain rfl:=sI h;refine aH hJ (af hJ ?_);refine aj hJ ?_;simp only[*,go_sem];refine av ?_;simp only[*,go_sem]
def si (u0:ak)(c:bR):Option (ak×Int):=
 ag (fN u0) fun a=>cond ((a != 0)) (some ((⟨0,0,(⟨0,0⟩:an),([]:(List b7)),([]:(List cm)),([]:(List bZ)),([]:(List bR))⟩:ak),a)) (ag (rR u0.told) fun d=>ag (c9 d ([c])) fun e=>ag (sd (⟨u0.bH,u0.bO,u0.aW,u0.aD,u0.props,u0.aG,e⟩:ak)) fun b=>some (b.1,b.2))
theorem sj {ro:Addr->Option Value}(k:c8 ro)(u0:ak){s1 c d f:Value}(b:bL ro u0 s1 c d f)(a:bR){r:(ak×Int)}(h:si u0 a=some r):eF Tryz.prog 37 #[bv u0 s1 c d f,.agg #[.int .i64 a.aV,.bool a.bt]] ro (fun v aM=>∃L w1 w2 w3,v= .tuple #[bv r.1 L w1 w2 w3,.int .i64 r.2]/\bL aM r.1 L w1 w2 w3):=by
 unfold si at h;refine aC.go Tryz.func37 rfl Tryz.ntmps37 Tryz.results37 (by simp) fun main J hJ A ca hd hs=>?_;have cb:=hs 0;have k1:=hs 1;clear hs;refine ah hJ ?_;simp only[*,go_sem];refine az fun g u ab=>?_;try simp only[au] at ab
 refine az fun i w ad=>?_;try simp only[au] at ad
 refine az fun j z ae=>?_;try simp only[au] at ae
 try simp only[*,go_sem]
 refine af hJ (ah hJ ?_);revert h;refine bS fun cd al h=>?_;simp only[*,go_sem];refine bh hJ _ (Ah (k.mono aQ) u0 (b.e.mono aQ) (b.p.mono aQ) (b.y.mono aQ) (b.t.mono aQ) al) (aJ ?_);try simp only[*,go_sem]
 refine ah hJ ?_;simp only[*,go_sem];revert h;refine jC hJ (by simp only[*,go_sem]) (fun ao h=>?_) fun ao h=>?_
 ·obtain rfl:=sI h;refine ah hJ ?_;simp only[*,go_sem];refine av ?_;simp only[*,go_sem];exact ⟨_,Ext.refl _,Le.sub (List.nil_sublist _),_,_,_,_,rfl,⟨aA.nil _ _,aA.nil _ _,aA.nil _ _,aA.nil _ _⟩⟩
 refine aH hJ (af hJ ?_);refine ay hJ fun ar=>?_;refine eG hJ mixed [7] (.pure 0 (.rd 1 (.rd 3 (.two 2 (.one 4 (.one 5 (.pure 6 (.last 7 .done)))) 4 (.one 2 (.one 5 (.pure 6 (.last 7 .done)))))))) ⟨ro,[(j,bz 29),(i,.cells #[.int .i64 a.aV,.bool a.bt] 76),(g,bk u0 s1 c d f)]⟩ (by simp only[*,go_sem]) (by kernel_rfl) ?_;simp only[*,go_sem];refine jS ?_ ?_
 ·revert h;refine bS fun a0 a2 h=>?_;simp only[*,go_sem];refine dL hJ (aR:=[]) [(j,bz 29),(i,.cells #[.int .i64 a.aV,.bool a.bt] 76),(g,bk u0 s1 c d f)] [] _ (vk u0.told b.t a2) (fun cf a3 M m n a4=>?_);simp only[aT] at n;subst m;obtain ⟨d174,cl,rfl,cy⟩:=M.len;refine ⟨⟨ro,(j,bz 29)::(i,.cells #[.int .i64 a.aV,.bool a.bt] 76)::(g,bk u0 s1 c d f)::a3⟩,Le.refl _,?_⟩;refine ⟨by simp only[*,go_sem],bX ?_⟩;revert h;refine bS fun N a5 h=>?_;obtain ⟨a6,O⟩:=dw a5;try simp only[*,go_sem]
  refine az fun D P Q=>?_;have a7:=aP.cons Q a4;try simp only[au] at Q
  try simp only[*,go_sem]
  refine dY (r:=dg) (l:=a0) (x:=a) (cs:=#[.int .i64 a.aV,.bool a.bt]) (e2:=76) [(D,.cells #[.int .i64 a.aV,.bool a.bt] 76),(j,bz 29),(i,.cells #[.int .i64 a.aV,.bool a.bt] 76),(g,bk u0 s1 c d f)] [] M a7 a6 rfl (by simp only[*,go_sem]) P rfl rfl ek ek g6 g8 rfl g7 (by decide) (by decide) (fun cS a8 E m n c0=>?_);simp only[aT] at n;subst m;rw[<-O] at E;clear O;obtain ⟨d186,a9,rfl,da⟩:=E.len;refine ⟨⟨ro,(D,.cells #[.int .i64 a.aV,.bool a.bt] 76)::(j,bz 29)::(i,.cells #[.int .i64 a.aV,.bool a.bt] 76)::(g,bk u0 s1 c d f)::a8⟩,Le.refl _,?_⟩;refine ⟨by simp only[*,go_sem],bX ?_⟩;try simp only[*,go_sem]
  refine af hJ ?_;refine ay hJ fun R=>?_;obtain ⟨db,F,B,S,ba⟩:=E.eW [(D,.cells #[.int .i64 a.aV,.bool a.bt] 76),(j,bz 29),(i,.cells #[.int .i64 a.aV,.bool a.bt] 76),(g,bk u0 s1 c d (sl d186 N a9))] [] R (aF.cons P (aF.cons z (aF.cons w (aF.cons u (aF.nil _)))));clear R;refine cB hJ ba ?_;obtain ⟨dd,df,-⟩:=S.op;replace b:=b.mono F;replace z:=B.tl.hd;replace w:=B.tl.tl.hd;replace u:=B.tl.tl.tl.hd;replace k:=k.mono F;simp only[bq] at B;refine aj hJ ?_;revert h;refine bS fun dk bb h=>?_;obtain rfl:=sI h;simp only[*,go_sem];refine b9 hJ _ (vZ k (⟨u0.bH,u0.bO,u0.aW,u0.aD,u0.props,u0.aG,N⟩:ak) ⟨b.e,b.p,b.y,S⟩ bb) fun v dp G C H=>?_;obtain ⟨dq,ds,dt,du,rfl,o⟩:=H;replace b:=b.mono G;replace z:=C.tl.hd;replace w:=C.tl.tl.hd;replace u:=C.tl.tl.tl.hd;replace k:=k.mono G;simp only[bq] at C;obtain ⟨d208,dv,rfl,dC,dE,-⟩:=id o.e;obtain ⟨d215,dT,rfl,ea,eb,-⟩:=id o.p;obtain ⟨d222,ec,rfl,ed,eh,-⟩:=id o.y;obtain ⟨d229,et,rfl,ev,eQ,-⟩:=id o.t;refine aJ ?_;try simp only[*,go_sem]
  refine av ?_;simp only[*,go_sem];exact ⟨_,(F).trans G,Le.sub (List.nil_sublist _),_,_,_,_,rfl,o⟩
 revert h;refine bS fun bc bd h=>?_;simp only[*,go_sem];refine az fun q T U=>?_;have eS:=aP.cons U ar;try simp only[au] at U
 try simp only[*,go_sem]
 refine dL hJ (aR:=[]) [(q,.cells #[.int .i64 a.aV,.bool a.bt] 76),(j,bz 29),(i,.cells #[.int .i64 a.aV,.bool a.bt] 76),(g,bk u0 s1 c d f)] [] _ (vk u0.told b.t bd) (fun e0 bj V m n bl=>?_);simp only[aT] at n;subst m;obtain ⟨e1,e3,rfl,fa⟩:=V.len;refine ⟨⟨ro,(q,.cells #[.int .i64 a.aV,.bool a.bt] 76)::(j,bz 29)::(i,.cells #[.int .i64 a.aV,.bool a.bt] 76)::(g,bk u0 s1 c d f)::bj⟩,Le.refl _,?_⟩;refine ⟨by simp only[*,go_sem],bX ?_⟩;revert h;refine bS fun W bm h=>?_;obtain ⟨bo,X⟩:=dw bm;try simp only[*,go_sem]
 refine dY (r:=dg) (l:=bc) (x:=a) (cs:=#[.int .i64 a.aV,.bool a.bt]) (e2:=76) [(q,.cells #[.int .i64 a.aV,.bool a.bt] 76),(j,bz 29),(i,.cells #[.int .i64 a.aV,.bool a.bt] 76),(g,bk u0 s1 c d f)] [] V bl bo rfl (by simp only[*,go_sem]) T rfl rfl ek ek g6 g8 rfl g7 (by decide) (by decide) (fun fb br I m n fg=>?_);simp only[aT] at n;subst m;rw[<-X] at I;clear X;obtain ⟨bs,b0,rfl,fi⟩:=I.len;refine ⟨⟨ro,(q,.cells #[.int .i64 a.aV,.bool a.bt] 76)::(j,bz 29)::(i,.cells #[.int .i64 a.aV,.bool a.bt] 76)::(g,bk u0 s1 c d f)::br⟩,Le.refl _,?_⟩;refine ⟨by simp only[*,go_sem],bX ?_⟩;try simp only[*,go_sem]
 refine af hJ ?_;refine ay hJ fun Y=>?_;obtain ⟨fp,K,b1,Z,b2⟩:=I.eW [(q,.cells #[.int .i64 a.aV,.bool a.bt] 76),(j,bz 29),(i,.cells #[.int .i64 a.aV,.bool a.bt] 76),(g,bk u0 s1 c d (sl bs W b0))] [] Y (aF.cons T (aF.cons z (aF.cons w (aF.cons u (aF.nil _)))));clear Y;refine cB hJ b2 ?_;obtain ⟨fr,fs,-⟩:=Z.op;replace b:=b.mono K;replace k:=k.mono K;simp only[bq] at b1;refine aj hJ ?_;revert h;refine bS fun ft b3 h=>?_;obtain rfl:=sI h;simp only[*,go_sem];refine b9 hJ _ (vZ k (⟨u0.bH,u0.bO,u0.aW,u0.aD,u0.props,u0.aG,W⟩:ak) ⟨b.e,b.p,b.y,Z⟩ b3) fun v fu b4 b5 H=>?_;obtain ⟨fv,fw,fx,gg,rfl,s⟩:=H;simp only[bq] at b5;obtain ⟨gl,gn,rfl,gp,gB,-⟩:=id s.e;obtain ⟨gC,gM,rfl,gT,gV,-⟩:=id s.p;obtain ⟨g0,g1,rfl,g2,g3,-⟩:=id s.y;obtain ⟨g4,ha,rfl,hc,hf,-⟩:=id s.t;refine aJ ?_;try simp only[*,go_sem]
 refine av ?_;simp only[*,go_sem];exact ⟨_,(K).trans b4,Le.sub (List.nil_sublist _),_,_,_,_,rfl,s⟩
def wm (u0:ak)(c:Int)(a:de):Option (ak×Int):=
 ag (e7 u0 ([(eJ c)])) fun e=>cond ((e.2 != 0)) (some ((⟨0,0,(⟨0,0⟩:an),([]:(List b7)),([]:(List cm)),([]:(List bZ)),([]:(List bR))⟩:ak),e.2)) (ag (pq a 0 60) fun g=>cond (!g) (some ((⟨0,0,(⟨0,0⟩:an),([]:(List b7)),([]:(List cm)),([]:(List bZ)),([]:(List bR))⟩:ak),1)) (ag (rS u0.aG) fun d=>ag (bn d c) fun b=>cond (decide ((if a.high<b.high.high then a.high else b.high.high)<(if b.high.low<a.low then a.low else b.high.low))) (some ((⟨0,0,(⟨0,0⟩:an),([]:(List b7)),([]:(List cm)),([]:(List bZ)),([]:(List bR))⟩:ak),9)) (ag (bn d c) fun h=>ag (sd (⟨u0.bH,u0.bO,u0.aW,u0.aD,u0.props,(d.set (c).toNat (⟨h.back,(⟨(if b.high.low<a.low then a.low else b.high.low),(if a.high<b.high.high then a.high else b.high.high)⟩:de)⟩:bZ)),u0.told⟩:ak)) fun f=>some (f.1,f.2))))
theorem Aw {ro:Addr->Option Value}(g:c8 ro)(u0:ak){s1 k q l:Value}(f:bL ro u0 s1 k q l)(d:Int)(a:de){r:(ak×Int)}(h:wm u0 d a=some r):eF Tryz.prog 17 #[bv u0 s1 k q l,.int .i64 d,.agg #[.int .i64 a.low,.int .i64 a.high]] ro (fun v aM=>∃U w1 w2 w3,v= .tuple #[bv r.1 U w1 w2 w3,.int .i64 r.2]/\bL aM r.1 U w1 w2 w3):=by
 unfold wm at h;have ba:=f.oc;simp only[bE] at ba;refine aC.go Tryz.func17 rfl Tryz.ntmps17 Tryz.results17 (by simp) fun main J hJ A bb hd hs=>?_;have bc:=hs 0;have k1:=hs 1;have bd:=hs 2;clear hs;refine ah hJ ?_;simp only[*,go_sem];refine az fun w z bj=>?_;try simp only[au] at bj
 refine az fun B C bm=>?_;try simp only[au] at bm
 refine az fun D E bo=>?_;try simp only[au] at bo
 try simp only[*,go_sem]
 refine af hJ (af hJ ?_);refine ay hJ fun br=>?_;refine aj hJ ?_;revert h;refine bS fun K bs h=>?_;simp only[*,go_sem];refine az fun s V W=>?_;have X:=aP.cons W br;try simp only[au] at W
 try simp only[*,go_sem]
 obtain ⟨j,u,Y⟩:=fK (b:=s) (o:=(.cells #[.func (.func 68) #[.int .i64 d] #[]] 127)) [] ((D,bz 29)::(B,.cells #[.int .i64 a.low,.int .i64 a.high] 39)::(w,bk u0 s1 k q l)::[]) X V (aF.cons E (aF.cons C (aF.cons z (aF.nil _))));have Z:aA (cY) (bP ro s (.cells #[.func (.func 68) #[.int .i64 d] #[]] 127)) (.slice (some ⟨s,0,none⟩) 1 1) [(eJ d)]:=(aA.one (r:=(cY)) (e:=127) (cs:=#[.func (.func 68) #[.int .i64 d] #[]]) (x:=(eJ d)) (own:=[(s,.cells #[.func (.func 68) #[.int .i64 d] #[]] 127)]) V (by simp[lk]) ⟨68,#[.int .i64 d],#[],rfl,⟨by simp only[go_sem],fun fb fg b0 _ _ _ _ _ b1 b2 b3 b4 h=>by simp only[go_sem];exact ru d b0 ⟨b1,b2,b3,b4⟩ h⟩⟩)
 generalize bP ro s (.cells #[.func (.func 68) #[.int .i64 d] #[]] 127)=fi at Z u j Y;refine gJ hJ Y ?_;replace f:=f.mono j;replace E:=u.hd;replace C:=u.tl.hd;replace z:=u.tl.tl.hd;replace g:=g.mono j;simp only[bq] at u;have b5:=aP.tl X;refine b9 hJ _ (jY g u0 f ([(eJ d)]) Z bs) fun v ab m F L=>?_;obtain ⟨M,N,O,P,rfl,ca⟩:=L;have cb:=ca.oc;simp only[bE] at cb;replace f:=f.mono m;replace E:=F.hd;replace C:=F.tl.hd;replace z:=F.tl.tl.hd;replace g:=g.mono m;simp only[bq] at F;refine aJ ?_;try simp only[*,go_sem]
 refine az fun Q cd ad=>?_;have fp:=aP.cons ad b5;try simp only[au] at ad
 try simp only[*,go_sem]
 refine ah hJ ?_;simp only[*,go_sem];revert h;refine jC hJ (by simp only[*,go_sem]) (fun cf h=>?_) fun cf h=>?_
 ·obtain rfl:=sI h;refine ah hJ ?_;simp only[*,go_sem];refine av ?_;simp only[*,go_sem];exact ⟨_,(j).trans m,Le.sub (List.nil_sublist _),_,_,_,_,rfl,⟨aA.nil _ _,aA.nil _ _,aA.nil _ _,aA.nil _ _⟩⟩
 refine aH hJ (af hJ ?_);refine ah hJ ?_;revert h;refine bS fun fr cl h=>?_;simp only[*,go_sem];refine bh hJ _ (Ad a 0 60 cl) (aJ ?_);try simp only[*,go_sem]
 revert h;refine jC hJ (by simp only[*,go_sem]) (fun cy h=>?_) fun cy h=>?_
 ·obtain rfl:=sI h;refine ah hJ ?_;simp only[*,go_sem];refine av ?_;simp only[*,go_sem];exact ⟨_,(j).trans m,Le.sub (List.nil_sublist _),_,_,_,_,rfl,⟨aA.nil _ _,aA.nil _ _,aA.nil _ _,aA.nil _ _⟩⟩
 refine aH hJ (af hJ ?_);refine ay hJ fun fs=>?_;refine aj hJ ?_;revert h;refine bS fun G cS h=>?_;simp only[*,go_sem];refine dL hJ (aR:=[]) [(Q,bl K.1 M N O P),(D,bz 29),(B,.cells #[.int .i64 a.low,.int .i64 a.high] 39),(w,bk u0 s1 k q l)] [] _ (Al u0.aG f.y cS) (fun ft c0 H da db fu=>?_);simp only[aT] at db;subst da;obtain ⟨d87,ae,rfl,fv⟩:=H.len;refine ⟨⟨ab,(Q,bl K.1 M N O P)::(D,bz 29)::(B,.cells #[.int .i64 a.low,.int .i64 a.high] 39)::(w,bk u0 s1 k q l)::c0⟩,Le.refl _,?_⟩;refine aJ ?_;try simp only[*,go_sem]
 refine af hJ ?_;refine ay hJ fun al=>?_;refine aj hJ ?_;revert h;refine bS fun c dd h=>?_;obtain ⟨fw,fx,df⟩:=cW dd;obtain ⟨R,dk,dp,rfl,rfl,gg,dq,S⟩:=H.zX df;obtain rfl:dp=c.cells:=dq;have ds:=al.nd;simp only[keys,List.map_cons,List.map_nil,List.map_append,List.cons_append,List.nil_append,List.nodup_cons,List.mem_cons,List.mem_append,List.not_mem_nil,or_false,not_or] at ds;have ao:=S 0 _ rfl;simp only[go_sem] at ao;have gl:=(Array.getElem?_eq_some_iff.1 ao).1;have ar:=S 1 _ rfl;simp only[go_sem] at ar;have gn:=(Array.getElem?_eq_some_iff.1 ar).1;have a0:=S 2 _ rfl;simp only[go_sem] at a0;have gp:=(Array.getElem?_eq_some_iff.1 a0).1;try simp only[*,go_sem]
 refine az fun dt du a2=>?_;have gB:=aP.cons a2 al;try simp only[au] at a2
 try simp only[*,go_sem]
 refine af hJ ?_;refine fL [1,3,5,6,7,10] fun gC dv dC dE=>?_;simp only[*,go_sem] at dv dC dE;clear bb hd bc k1 bd;refine ay hJ fun dT=>?_;refine aj hJ ?_;simp only[*,go_sem];refine az fun ea eb a3=>?_;have gM:=aP.cons a3 dT;try simp only[au] at a3
 try simp only[*,go_sem]
 refine af hJ (af hJ ?_);refine ay hJ fun gT=>?_;refine aj hJ ?_;simp only[*,go_sem];revert h;refine jC hJ (by simp only[*,go_sem]) (fun ec h=>?_) fun ec h=>?_
 ·obtain rfl:=sI h;refine af hJ ?_;refine ay hJ fun gV=>?_;refine aj hJ ?_;simp only[*,go_sem];refine av ?_;simp only[*,go_sem];exact ⟨_,(j).trans m,Le.sub (List.nil_sublist _),_,_,_,_,rfl,⟨aA.nil _ _,aA.nil _ _,aA.nil _ _,aA.nil _ _⟩⟩
 refine aH hJ (af hJ ?_);refine ay hJ fun g0=>?_;refine aj hJ ?_;revert h;refine bS fun i ed h=>?_;obtain ⟨g1,g2,a4⟩:=cW ed;obtain ⟨eh,et,I⟩:=H.iM a4;obtain rfl:eh=i.cells:=et;have a5:=I 0 _ rfl;simp only[go_sem] at a5;have g3:=(Array.getElem?_eq_some_iff.1 a5).1;have a6:=I 1 _ rfl;simp only[go_sem] at a6;have g4:=(Array.getElem?_eq_some_iff.1 a6).1;have a7:=I 2 _ rfl;simp only[go_sem] at a7;have ha:=(Array.getElem?_eq_some_iff.1 a7).1;have ev:aN eH ab 41 (.slice (some ⟨R,0,none⟩) G.length ae) (G.set (d).toNat (⟨i.back,(⟨(if c.high.low<a.low then a.low else c.high.low),(if a.high<c.high.high then a.high else c.high.high)⟩:de)⟩:bZ)) [(R,Obj.cells (cF dk ((d).toNat*3+1) [.int .i64 (if c.high.low<a.low then a.low else c.high.low),.int .i64 (if a.high<c.high.high then a.high else c.high.high)]) 41)]:=by have eQ:=H.part (y:=(⟨i.back,(⟨(if c.high.low<a.low then a.low else c.high.low),(if a.high<c.high.high then a.high else c.high.high)⟩:de)⟩:bZ)) a4 1 [.int .i64 (if c.high.low<a.low then a.low else c.high.low),.int .i64 (if a.high<c.high.high then a.high else c.high.high)] [.int .i64 i.back,.int .i64 i.high.low,.int .i64 i.high.high] [.int .i64 i.back,.int .i64 (if c.high.low<a.low then a.low else c.high.low),.int .i64 (if a.high<c.high.high then a.high else c.high.high)] I rfl rfl (by simp) rfl;exact eQ
 try simp only[*,go_sem]
 refine af hJ ?_;refine ay hJ fun a8=>?_;obtain ⟨hc,T,eS,a9,e0⟩:=ev.eW [(ea,.cells #[.int .i64 (if c.high.low<a.low then a.low else c.high.low),.int .i64 (if a.high<c.high.high then a.high else c.high.high)] 39),(dt,.cells #[.int .i64 c.high.low,.int .i64 c.high.high] 39),(Q,bl K.1 M N O P),(D,bz 29),(B,.cells #[.int .i64 a.low,.int .i64 a.high] 39),(w,bk u0 s1 k (sl (some ⟨R,0,none⟩) G ae) l)] [] a8 (aF.cons eb (aF.cons du (aF.cons cd (aF.cons E (aF.cons C (aF.cons z (aF.nil _)))))));clear a8;refine cB hJ e0 ?_;obtain ⟨hf,hg,-⟩:=a9.op;replace f:=f.mono T;replace g:=g.mono T;simp only[bq] at eS;refine aj hJ ?_;revert h;refine bS fun hh e1 h=>?_;obtain rfl:=sI h;simp only[*,go_sem];refine b9 hJ _ (vZ g (⟨u0.bH,u0.bO,u0.aW,u0.aD,u0.props,(G.set (d).toNat (⟨i.back,(⟨(if c.high.low<a.low then a.low else c.high.low),(if a.high<c.high.high then a.high else c.high.high)⟩:de)⟩:bZ)),u0.told⟩:ak) ⟨f.e,f.p,a9,f.t⟩ e1) fun v hi e2 e3 L=>?_;obtain ⟨hj,hk,hl,hn,rfl,n⟩:=L;have fa:=n.oc;simp only[bE] at fa;simp only[bq] at e3;obtain ⟨d130,ho,rfl,hp,hq,-⟩:=id n.e;obtain ⟨d137,hr,rfl,ht,hv,-⟩:=id n.p;obtain ⟨d144,hx,rfl,hy,hz,-⟩:=id n.y;obtain ⟨d151,hA,rfl,hB,hD,-⟩:=id n.t;refine aJ ?_;try simp only[*,go_sem]
 refine av ?_;simp only[*,go_sem];exact ⟨_,(((j).trans m).trans T).trans e2,Le.sub (List.nil_sublist _),_,_,_,_,rfl,n⟩
def Ax (i43:Nat)(a:(List Int))(st:(List Int)):Option (Fl (List Int) (List Int)):=
 ag (c9 st a) fun b=>some (.nx b)
def wo (i9:Nat)(a:(List Int))(st:Int):Option (Fl Int (List Int)):=
 cond (decide ((IntKind.i64.wrap (st+(a.length:Int)))<0)) (none) (some (.nx (IntKind.i64.wrap (st+(a.length:Int)))))
def Gy (i109:Nat)(a:(List Int))(st:(List Int)):Option (Fl (List Int) (List Int)):=
 ag (c9 st a) fun b=>some (.nx b)
def wq (u0:(List (List Int))):Option (List Int):=
 ag (bF (wo) 0 u0 0) fun o=>aB o (fun a=>ag (vY a) fun b=>ag (bF (Gy) 0 u0 b) fun o=>aB o (fun c=>some c) (fun _ _=>none) (fun r=>some r)) (fun _ _=>none) (fun r=>some r)
theorem Gz {ro:Addr->Option Value}(u0:(List (List Int))){s1:Value}(g:aA (rL rI) ro s1 u0){r:(List Int)}(h:wq u0=some r):eF Tryz.prog 98 #[s1] ro (fun v aM=>∃s,v=s/\aA rI aM s r):=by
 obtain ⟨d3,c4,rfl,bz,t,-⟩:=id g;unfold wq at h;refine aC.go Tryz.func98 rfl Tryz.ntmps98 Tryz.results98 (by simp) fun main J hJ A P hd hs=>?_;have Q:=hs 0;clear hs;refine ah hJ ?_;simp only[*,go_sem];refine ah hJ ?_;simp only[*,go_sem];refine af hJ (ah hJ ?_);simp only[*,go_sem];refine aO hJ ?_;revert h;refine bS fun R a S=>?_;refine bQ hJ [3,5,11,12,13,14,15,16,17,18,19,20,21,22] (fun m d F'=>∃(i9:Nat) (e:Int),m=u0.length - i9/\i9<=u0.length/\bF (wo) i9 (u0.drop i9) e=some R/\F'=⟨ro,[]⟩/\slot d 11= .int .i64 (i9:Int)/\slot d 3= .int .i64 e) u0.length ?_ ?_
 ·refine ⟨0,0,(Nat.sub_zero _).symm,Nat.zero_le _,a,rfl,?_⟩;simp only[*,go_sem]
 rintro b0 b1 F' u ⟨i9,e,rfl,b2,a,rfl,T,U⟩;obtain ⟨w,y,z⟩:=u.pick [0,2,9,10] (by decide);simp only[*,go_sem] at w y z;clear u P hd Q;refine ah hJ ?_;simp only[*,go_sem];refine af hJ ?_;rcases Nat.lt_or_ge i9 u0.length with V|B
 ·refine bK hJ (by simp only[*,go_sem]) ?_;refine aH hJ ?_;obtain ⟨W,i⟩:∃x,u0[i9]?=some x:=⟨_,List.getElem?_eq_getElem V⟩
  rw[dc i] at a;revert a;refine bS fun b3 h X=>?_;unfold wo at h;try dsimp only at h
  obtain ⟨b4,b5,Y,Z,C⟩:=g.el _ _ i;obtain ⟨ca,rfl,ab⟩:=Z;obtain ⟨d18,cb,rfl,cd,cf,cl⟩:=id ab;cases Y;have ad:=C 0 _ rfl;simp only[go_sem] at ad;clear C i;refine af hJ (aO hJ (af hJ ?_));refine aj hJ ?_;simp only[*,go_sem];refine ah hJ ?_;simp only[*,go_sem];refine ah hJ ?_;simp only[*,go_sem];revert h;refine jC hJ (by simp only[*,go_sem]) (fun ae h=>?_) fun ae h=>?_
  ·refine aj hJ ?_;cases h
  obtain rfl:=sI h;refine aH hJ ?_;have cy:=cp (n:=i9) (by have:=t;omega);refine aj hJ ?_;simp only[*,go_sem];refine ⟨u0.length - (i9+1),by omega,_,Le.sub (List.Sublist.refl _),i9+1,(IntKind.i64.wrap (e+(W.length:Int))),rfl,by omega,X,rfl,?_⟩;simp only[*,go_sem]
 have cS:=Nat.not_lt.2 B;refine bG hJ (by simp only[*,go_sem]) ?_;rw[List.drop_eq_nil_of_le B] at a;obtain rfl:=sI a;clear a;have h:=S;dsimp only[aB] at h;refine bN ?_;simp only[go_sem];refine af hJ ?_;refine ay hJ fun c0=>?_;refine aj hJ ?_;revert h;refine bS fun al ao h=>?_;simp only[*,go_sem];refine dL hJ (aR:=[]) [] [] _ (Gs e ao) (fun da D E j k db=>?_);simp only[aT] at k;subst j;obtain ⟨d32,ar,rfl,a0⟩:=E.len;refine ⟨⟨ro,D⟩,Le.refl _,?_⟩;refine aJ ?_;try simp only[*,go_sem]
 refine af hJ (af hJ ?_);refine ay hJ fun dd=>?_;refine aj hJ ?_;simp only[*,go_sem];refine aO hJ ?_;revert h;refine bS fun a2 b a3=>?_;refine bQ hJ [6,8,27,28,29,30,31,32,33,34] (fun m d F'=>∃(i43:Nat) (d38:Option Addr) (f:Nat) (o:List (Nat×Obj)) (c:(List Int)),m=u0.length - i43/\i43<=u0.length/\bF (Ax) i43 (u0.drop i43) c=some a2/\F'=⟨ro,o⟩/\aN rI ro 3 (.slice d38 c.length f) c o/\c.length<=f/\slot d 27= .int .i64 (i43:Int)/\slot d 6= .slice d38 c.length f) u0.length ?_ ?_
 ·refine ⟨0,d32,ar,D,al,(Nat.sub_zero _).symm,Nat.zero_le _,b,rfl,E,a0,?_⟩;simp only[*,go_sem]
 rintro df dk F' F ⟨i43,d38,f,o,c,rfl,dp,b,rfl,G,dq,ds,dt⟩;obtain ⟨a4,a5,a6⟩:=F.pick [2,25,26] (by decide);simp only[*,go_sem] at a4 a5 a6;clear F w y z U T;refine ah hJ ?_;simp only[*,go_sem];refine af hJ ?_;rcases Nat.lt_or_ge i43 u0.length with a7|H
 ·refine bK hJ (by simp only[*,go_sem]) ?_;refine aH hJ ?_;obtain ⟨a8,p⟩:∃x,u0[i43]?=some x:=⟨_,List.getElem?_eq_getElem a7⟩
  rw[dc p] at b;revert b;refine bS fun du h a9=>?_;unfold Ax at h;try dsimp only at h
  obtain ⟨dv,dC,ba,bb,I⟩:=g.el _ _ p;obtain ⟨dE,rfl,K⟩:=bb;obtain ⟨d52,dT,rfl,ea,eb,ec⟩:=id K;cases ba;have bc:=I 0 _ rfl;simp only[go_sem] at bc;clear I p;refine af hJ (aO hJ (af hJ ?_));refine ay hJ fun ed=>?_;refine aj hJ ?_;simp only[*,go_sem];refine ay hJ fun bd=>?_;refine aj hJ ?_;revert h;refine bS fun bj bk h=>?_;obtain rfl:=sI h;obtain ⟨bl,L⟩:=dw bk;simp only[*,go_sem];refine pg (r:=rI) (l:=c) (xs:=a8) [] [] G bd bl K rfl rfl fI fI kG kI rfl kH (by decide) (by decide) (fun eh M q j k et=>?_);simp only[aT] at k;subst j;rw[<-L] at q;clear L;obtain ⟨d66,bm,rfl,bo⟩:=q.len;refine ⟨⟨ro,M⟩,Le.refl _,?_⟩;refine aJ ?_;try simp only[*,go_sem]
  have ev:=cp (n:=i43) (by have:=t;omega);refine aj hJ ?_;simp only[*,go_sem];refine ⟨u0.length - (i43+1),by omega,_,Le.sub (List.Sublist.refl _),i43+1,d66,bm,M,bj,rfl,by omega,a9,rfl,q,bo,?_⟩;simp only[*,go_sem]
 have eQ:=Nat.not_lt.2 H;refine bG hJ (by simp only[*,go_sem]) ?_;rw[List.drop_eq_nil_of_le H] at b;obtain rfl:=sI b;clear b;have h:=a3;dsimp only[aB] at h;obtain rfl:=sI h;refine bN ?_;simp only[go_sem];refine af hJ ?_;refine ay hJ fun eS=>?_;refine aj hJ ?_;simp only[*,go_sem];refine ay hJ fun N=>?_;obtain ⟨e0,br,e1,O,bs⟩:=G.eW [] [] N (aF.nil _);clear N;refine cB hJ bs ?_;obtain ⟨e2,e3,-⟩:=O.op;refine av ?_;simp only[*,go_sem];exact ⟨_,br,Le.sub (List.nil_sublist _),_,rfl,O⟩
def nF (a:Int)(i44:Nat)(b:aU)(st:(List Int)):Option (Fl (List Int) (List Int)):=
 ag (aU.get b a) fun c=>ag (c9 st ([c])) fun d=>some (.nx d)
def kS (u0:cK)(a:Int):Option (List Int):=
 ag (bF (nF a) 0 u0.all ([]:List Int)) fun o=>aB o (fun b=>ag (pV b) fun c=>ag (r9 c.2) fun d=>some d) (fun _ _=>none) (fun r=>some r)
theorem sk {ro:Addr->Option Value}(u0:cK){s1 a b c:Value}(b3:bL ro u0.book s1 a b c){y:Value}(z:aA gK ro y u0.all)(s:Int){r:(List Int)}(h:kS u0 s=some r):eF Tryz.prog 69 #[.agg #[.int .i64 u0.book.bH,.int .i64 u0.book.bO,.int .i64 u0.book.aW.num,.int .i64 u0.book.aW.den,s1,a,b,c,y],.int .i64 s] ro (fun v aM=>∃B,v=B/\aA rI aM B r):=by
 obtain ⟨d31,d,rfl,b4,R,-⟩:=id z;unfold kS at h;refine aC.go Tryz.func69 rfl Tryz.ntmps69 Tryz.results69 (by simp) fun main J hJ A S hd hs=>?_;have T:=hs 0;have k1:=hs 1;clear hs;refine ah hJ ?_;simp only[*,go_sem];refine az fun e U V=>?_;try simp only[au] at V
 try simp only[*,go_sem]
 refine ah hJ ?_;simp only[*,go_sem];refine af hJ (ah hJ ?_);simp only[*,go_sem];refine aO hJ ?_;revert h;refine bS fun W g X=>?_;refine bQ hJ [5,7,11,12,13,14,15,16,17,18,19,20,21] (fun m C F'=>∃(i44:Nat) (d38:Option Addr) (o:Nat) (t:List (Nat×Obj)) (f:(List Int)),m=u0.all.length - i44/\i44<=u0.all.length/\bF (nF s) i44 (u0.all.drop i44) f=some W/\F'=⟨ro,(e,kn u0 s1 a b c (sl d31 u0.all d))::t⟩/\aN rI ro 3 (.slice d38 f.length o) f t/\f.length<=o/\slot C 11= .int .i64 (i44:Int)/\slot C 5= .slice d38 f.length o) u0.all.length ?_ ?_
 ·refine ⟨0,none,0,[],([]:List Int),(Nat.sub_zero _).symm,Nat.zero_le _,g,rfl,aN.nil _ _ _,Nat.le_refl _,?_⟩;simp only[*,go_sem]
 rintro b5 ca F' D ⟨i44,d38,o,t,f,rfl,cb,g,rfl,E,cd,cf,cl⟩;obtain ⟨Y,Z,ab⟩:=D.pick [1,4,9,10] (by decide);simp only[*,go_sem] at Y Z ab;clear D S hd T k1;refine ah hJ ?_;simp only[*,go_sem];refine af hJ ?_;rcases Nat.lt_or_ge i44 u0.all.length with ad|F
 ·refine bK hJ (by simp only[*,go_sem]) ?_;refine aH hJ ?_;obtain ⟨i,u⟩:∃x,u0.all[i44]?=some x:=⟨_,List.getElem?_eq_getElem ad⟩
  rw[dc u] at g;revert g;refine bS fun cy h ae=>?_;unfold nF at h;try dsimp only at h
  obtain ⟨G,al,ao,ar,p⟩:=z.el _ _ u;obtain rfl:al=i.cells:=ar;cases ao;have a0:=p 0 _ rfl;simp only[go_sem] at a0;have a2:=p 1 _ rfl;simp only[go_sem] at a2;have a3:=p 2 _ rfl;simp only[go_sem] at a3;clear p u;refine af hJ (aO hJ (af hJ ?_));refine ay hJ fun a4=>?_;refine aj hJ ?_;simp only[*,go_sem];refine az fun H cS I=>?_;have c0:=aP.cons I a4;try simp only[au] at I
  try simp only[*,go_sem]
  refine ay hJ fun a5=>?_;refine aj hJ ?_;revert h;refine bS fun q a6 h=>?_;obtain ⟨da,db,a7⟩:=aU.get_some a6;try simp only[go_sem] at a7
  revert h;refine bS fun a8 a9 h=>?_;obtain rfl:=sI h;obtain ⟨ba,K⟩:=dw a9;try simp only[*,go_sem]
  refine az fun L bb M=>?_;have bc:=aP.cons M a5;try simp only[au] at M
  try simp only[*,go_sem]
  refine dY (r:=rI) (l:=f) (x:=q) (cs:=#[.int .i64 q]) (e2:=3) [(L,ic q),(H,.cells #[.int .i64 i.e0,.int .i64 i.e1,.int .i64 i.e2] 121),(e,kn u0 s1 a b c (sl (some G) u0.all d))] [] E bc ba rfl (by simp only[*,go_sem]) bb rfl rfl fI fI kG kI rfl kH (by decide) (by decide) (fun dd N w j k df=>?_);simp only[aT] at k;subst j;rw[<-K] at w;clear K;obtain ⟨d66,bd,rfl,bj⟩:=w.len;refine ⟨⟨ro,(L,ic q)::(H,.cells #[.int .i64 i.e0,.int .i64 i.e1,.int .i64 i.e2] 121)::(e,kn u0 s1 a b c (sl (some G) u0.all d))::N⟩,Le.refl _,?_⟩;refine aJ ?_;try simp only[*,go_sem]
  have dk:=cp (n:=i44) (by have:=R;omega);refine aj hJ ?_;simp only[*,go_sem];refine ⟨u0.all.length - (i44+1),by omega,_,Le.sub (List.Sublist.cons _ (List.Sublist.cons _ (List.Sublist.refl _))),i44+1,d66,bd,N,a8,rfl,by omega,ae,rfl,w,bj,?_⟩;simp only[*,go_sem]
 have dp:=Nat.not_lt.2 F;refine bG hJ (by simp only[*,go_sem]) ?_;rw[List.drop_eq_nil_of_le F] at g;obtain rfl:=sI g;clear g;have h:=X;dsimp only[aB] at h;refine bN ?_;simp only[go_sem];refine af hJ ?_;refine ay hJ fun dq=>?_;refine aj hJ ?_;revert h;refine bS fun bk bl h=>?_;simp only[*,go_sem];refine dL hJ [(e,kn u0 s1 a b c (sl d31 u0.all d))] [] _ (Gm f E bl) (fun ds bm bo j k dt=>?_);obtain ⟨rfl,br⟩:=bo;simp only[aT] at k;subst j;refine ⟨⟨ro,(e,kn u0 s1 a b c (sl d31 u0.all d))::bm⟩,Le.refl _,?_⟩;try simp only[*,go_sem]
 refine af hJ ?_;refine ay hJ fun du=>?_;refine aj hJ ?_;revert h;refine bS fun dv bs h=>?_;obtain rfl:=sI h;simp only[*,go_sem];refine dL hJ [(e,kn u0 s1 a b c (sl d31 u0.all d))] [] _ (Gn bk.2 br bs) (fun dC bz O j k dE=>?_);simp only[aT] at k;subst j;obtain ⟨d83,dT,rfl,ea⟩:=O.len;refine ⟨⟨ro,(e,kn u0 s1 a b c (sl d31 u0.all d))::bz⟩,Le.refl _,?_⟩;refine aJ ?_;try simp only[*,go_sem]
 refine ay hJ fun P=>?_;obtain ⟨eb,b0,b1,Q,b2⟩:=O.eW [(e,kn u0 s1 a b c (sl d31 u0.all d))] [] P (aF.cons U (aF.nil _));clear P;refine cB hJ b2 ?_;obtain ⟨ec,ed,-⟩:=Q.op;simp only[bq] at b1;refine av ?_;simp only[*,go_sem];exact ⟨_,b0,Le.sub (List.nil_sublist _),_,rfl,Q⟩
def wu (u0:cK)(i47:Nat)(i75:Nat)(b:Int)(st:(List aZ)):Option (Fl (List aZ) (List aZ)):=
 ag (gO u0.book (i47:Int) b) fun a=>ag (vg st a) fun c=>cond (!c) (ag (c9 st ([a])) fun d=>some (.nx d)) (some (.nx st))
def wv (u0:cK)(i47:Nat)(c:bZ)(st:(List aZ)):Option (Fl (List aZ) (List aZ)):=
 ag (kS u0 (i47:Int)) fun a=>ag (bF (wu u0 i47) 0 a st) fun o=>aB o (fun b=>some (.nx b)) (fun _ _=>none) (fun r=>some (.rt r))
def sn (u0:cK):Option (List aZ):=
 ag (bF (wv u0) 0 u0.book.aG ([]:List aZ)) fun o=>aB o (fun a=>some a) (fun _ _=>none) (fun r=>some r)
theorem Ay {ro:Addr->Option Value}(u0:cK){s1 c R d:Value}(e:bL ro u0.book s1 c R d){f:Value}(H:aA gK ro f u0.all){r:(List aZ)}(h:sn u0=some r):eF Tryz.prog 85 #[.agg #[.int .i64 u0.book.bH,.int .i64 u0.book.bO,.int .i64 u0.book.aW.num,.int .i64 u0.book.aW.den,s1,c,R,d,f]] ro (fun v aM=>∃S,v=S/\aA iO aM S r):=by
 obtain ⟨d17,o,rfl,e0,a8,-⟩:=id e.y;unfold sn at h;refine aC.go Tryz.func85 rfl Tryz.ntmps85 Tryz.results85 (by simp) fun main J hJ A a9 hd hs=>?_;have ba:=hs 0;clear hs;refine ah hJ ?_;simp only[*,go_sem];refine az fun p I bb=>?_;try simp only[au] at bb
 try simp only[*,go_sem]
 refine ah hJ ?_;simp only[*,go_sem];refine af hJ (ah hJ ?_);simp only[*,go_sem];refine aO hJ ?_;revert h;refine bS fun bc i bd=>?_;refine bQ hJ [3,4,6,7,13,14,15,16,17,18,19,20,21,22,23,24,25,26,27,28,29,30,31,32,33,34,35,36,37,38] (fun m s F'=>∃(i47:Nat) (w:Addr->Option Value) (d38:Option Addr) (t:Nat) (z:List (Nat×Obj)) (j:(List aZ)),m=u0.book.aG.length - i47/\i47<=u0.book.aG.length/\bF (wv u0) i47 (u0.book.aG.drop i47) j=some bc/\F'=⟨w,(p,kn u0 s1 c (sl d17 u0.book.aG o) d f)::z⟩/\Ext ro w/\aN iO w 134 (.slice d38 j.length t) j z/\j.length<=t/\slot s 13= .int .i64 (i47:Int)/\slot s 3= .slice d38 j.length t) u0.book.aG.length ?_ ?_
 ·refine ⟨0,ro,none,0,[],([]:List aZ),(Nat.sub_zero _).symm,Nat.zero_le _,i,rfl,Ext.refl _,aN.nil _ _ _,Nat.le_refl _,?_⟩;simp only[*,go_sem]
 rintro e1 bj F' T ⟨i47,w,d38,t,z,j,rfl,e3,i,rfl,B,C,bk,bl,bm⟩;refine fA hJ fun _ U=>?_;replace e:=e.mono B;replace H:=H.mono B;replace I:=U.hd;simp only[bq] at U;obtain ⟨V,W,X⟩:=T.pick [1,2,12] (by decide);simp only[*,go_sem] at V W X;clear T a9 hd ba;refine ah hJ ?_;simp only[*,go_sem];refine af hJ ?_;rcases Nat.lt_or_ge i47 u0.book.aG.length with bo|Y
 ·refine bK hJ (by simp only[*,go_sem]) ?_;refine aH hJ ?_;obtain ⟨br,K⟩:∃x,u0.book.aG[i47]?=some x:=⟨_,List.getElem?_eq_getElem bo⟩
  rw[dc K] at i;revert i;refine bS fun fa h bs=>?_;unfold wv at h;try dsimp only at h
  obtain ⟨D,bz,b0,b1,E⟩:=e.y.el _ _ K;obtain rfl:bz=br.cells:=b1;cases b0;have b2:=E 0 _ rfl;simp only[go_sem] at b2;have b3:=E 1 _ rfl;simp only[go_sem] at b3;have b4:=E 2 _ rfl;simp only[go_sem] at b4;clear E K;refine af hJ (aO hJ (af hJ ?_));refine ay hJ fun fb=>?_;refine aj hJ ?_;simp only[*,go_sem];refine af hJ ?_;refine ay hJ fun fg=>?_;refine aj hJ ?_;revert h;refine bS fun g b5 h=>?_;simp only[*,go_sem];refine b9 hJ _ (sk u0 e H (i47:Int) b5) fun v F L M ca=>?_;obtain ⟨fi,rfl,Z⟩:=ca;replace e:=e.mono L;replace I:=M.hd;replace C:=C.mono L M.tl;simp only[bq] at M;obtain ⟨d64,fp,rfl,fr,ab,-⟩:=id Z;refine aJ ?_;try simp only[*,go_sem]
  refine aO hJ ?_;revert h;refine bS fun cb k cd=>?_;refine bQ hJ [3,6,7,20,21,22,23,24,25,26,27,28,29,30,31,32,33,34,35,36,37] (fun m s F'=>∃(i75:Nat) (d70:Option Addr) (q:Nat) (u:List (Nat×Obj)) (b:(List aZ)),m=g.length - i75/\i75<=g.length/\bF (wu u0 i47) i75 (g.drop i75) b=some cb/\F'=⟨F,(p,kn u0 s1 c (sl (some D) u0.book.aG o) d f)::u⟩/\aN iO F 134 (.slice d70 b.length q) b u/\b.length<=q/\slot s 20= .int .i64 (i75:Int)/\slot s 3= .slice d70 b.length q) g.length ?_ ?_
  ·refine ⟨0,d38,t,z,j,(Nat.sub_zero _).symm,Nat.zero_le _,k,rfl,C,bk,?_⟩;simp only[*,go_sem]
  rintro fs cf F' N ⟨i75,d70,q,u,b,rfl,ft,k,rfl,G,ad,fu,fv⟩;obtain ⟨cl,cy,cS⟩:=N.pick [1,2,4,12,13,14,15,16,17,18,19] (by decide);simp only[*,go_sem] at cl cy cS;have fw:cz [3,4,6,7,13,14,15,16,17,18,19,20,21,22,23,24,25,26,27,28,29,30,31,32,33,34,35,36,37,38] cf bj:=(N.fG (by decide)).trans (by simp only[*,go_sem]);clear N V W X bm bl;refine ah hJ ?_;simp only[*,go_sem];refine af hJ ?_;rcases Nat.lt_or_ge i75 g.length with c0|ae
  ·refine bK hJ (by simp only[*,go_sem]) ?_;refine aH hJ ?_;obtain ⟨al,O⟩:∃x,g[i75]?=some x:=⟨_,List.getElem?_eq_getElem c0⟩
   rw[dc O] at k;revert k;refine bS fun fx h ao=>?_;unfold wu at h;(try dsimp only at h);obtain ⟨gg,da,db,dd,ar⟩:=Z.el _ _ O;obtain rfl:da=[.int .i64 al]:=dd;cases db;have df:=ar 0 _ rfl;simp only[go_sem] at df;clear ar O;refine af hJ (aO hJ (af hJ ?_));refine ay hJ fun gl=>?_;refine aj hJ ?_;simp only[*,go_sem];refine af hJ ?_;refine ay hJ fun dk=>?_;refine aj hJ ?_;revert h;refine bS fun a dp h=>?_;simp only[*,go_sem];refine bh hJ _ (lW u0.book (e.mono aQ) (i47:Int) al dp) (aJ ?_);(try simp only[*,go_sem]);refine az fun P gn a0=>?_;have gp:=aP.cons a0 dk;try simp only[au] at a0
   (try simp only[*,go_sem]);refine af hJ ?_;refine ay hJ fun dq=>?_;refine aj hJ ?_;revert h;refine bS fun gB ds h=>?_;simp only[*,go_sem];refine bh hJ _ (FJ b (G.Ab [(P,.cells #[.int .i64 a.back,.int .i64 a.high] 134),(p,kn u0 s1 c (sl (some D) u0.book.aG o) d f)] [] (by first|rfl|simp only[aT]|(simp only[aT];rfl)) dq) a ds) (aJ ?_);(try simp only[*,go_sem]);revert h;refine jC hJ (by simp only[*,go_sem]) (fun dt h=>?_) fun dt h=>?_
   ·refine ay hJ fun du=>?_;refine aj hJ ?_;revert h;refine bS fun dv dC h=>?_;obtain rfl:=sI h;obtain ⟨dE,a2⟩:=dw dC;simp only[*,go_sem];refine az fun a3 dT a4=>?_;have ea:=aP.cons a4 du;try simp only[au] at a4
    (try simp only[*,go_sem]);refine dY (r:=iO) (l:=b) (x:=a) (cs:=#[.int .i64 a.back,.int .i64 a.high]) (e2:=134) [(a3,.cells #[.int .i64 a.back,.int .i64 a.high] 134),(P,.cells #[.int .i64 a.back,.int .i64 a.high] 134),(p,kn u0 s1 c (sl (some D) u0.book.aG o) d f)] [] G ea dE rfl (by simp only[*,go_sem]) dT rfl rfl zD zD Eo Er rfl Ep (by decide) (by decide) (fun gC a5 Q eb ec gM=>?_);simp only[aT] at ec;subst eb;rw[<-a2] at Q;clear a2;obtain ⟨d102,ed,rfl,eh⟩:=Q.len;refine ⟨⟨F,(a3,.cells #[.int .i64 a.back,.int .i64 a.high] 134)::(P,.cells #[.int .i64 a.back,.int .i64 a.high] 134)::(p,kn u0 s1 c (sl (some D) u0.book.aG o) d f)::a5⟩,Le.refl _,?_⟩;refine aJ ?_;(try simp only[*,go_sem]);have et:=cp (n:=i75) (by have:=ab;omega);refine aj hJ ?_;simp only[*,go_sem];refine ⟨g.length - (i75+1),by omega,_,Le.sub (List.Sublist.cons _ (List.Sublist.cons _ (List.Sublist.refl _))),i75+1,d102,ed,a5,dv,rfl,by omega,ao,rfl,Q,eh,?_⟩;simp only[*,go_sem]
   obtain rfl:=sI h;refine aH hJ ?_;have et:=cp (n:=i75) (by have:=ab;omega);refine aj hJ ?_;simp only[*,go_sem];refine ⟨g.length - (i75+1),by omega,_,Le.sub (List.Sublist.cons _ (List.Sublist.refl _)),i75+1,d70,q,u,b,rfl,by omega,ao,rfl,G,ad,?_⟩;simp only[*,go_sem]
  have gT:=Nat.not_lt.2 ae;refine bG hJ (by simp only[*,go_sem]) ?_;rw[List.drop_eq_nil_of_le ae] at k;obtain rfl:=sI k;clear k;have h:=cd;dsimp only[aB] at h;obtain rfl:=sI h;refine bN ?_;simp only[go_sem];have gV:=cp (n:=i47) (by have:=a8;omega);refine aj hJ ?_;simp only[*,go_sem];refine ⟨u0.book.aG.length - (i47+1),by omega,_,Le.sub (List.Sublist.refl _),i47+1,F,d70,q,u,b,rfl,by omega,bs,rfl,(B.trans L),G,ad,?_⟩;simp only[*,go_sem]
 have g0:=Nat.not_lt.2 Y;refine bG hJ (by simp only[*,go_sem]) ?_;rw[List.drop_eq_nil_of_le Y] at i;obtain rfl:=sI i;clear i;have h:=bd;dsimp only[aB] at h;obtain rfl:=sI h;refine bN ?_;simp only[go_sem];refine af hJ ?_;refine ay hJ fun g1=>?_;refine aj hJ ?_;simp only[*,go_sem];refine ay hJ fun a6=>?_;obtain ⟨g2,ev,eQ,a7,eS⟩:=C.eW [(p,kn u0 s1 c (sl d17 u0.book.aG o) d f)] [] a6 (aF.cons I (aF.nil _));clear a6;refine cB hJ eS ?_;obtain ⟨g3,g4,-⟩:=a7.op;simp only[bq] at eQ;refine av ?_;simp only[*,go_sem];exact ⟨_,(B).trans ev,Le.sub (List.nil_sublist _),_,rfl,a7⟩
def wz (a:Int)(i109:Nat)(b:bR)(st:((List Int)×(List bR))):Option (Fl ((List Int)×(List bR)) ((List Int)×Int)):=
 ag (uD a (i109:Int)) fun c=>cond (((zp c 1)==1)) (ag (c9 st.1 ([(i109:Int)])) fun d=>ag (c9 st.2 ([b])) fun e=>some (.nx (d,e))) (some (.nx (st.1,st.2)))
def wA (u0:ak)(a:(ak×Int))(c:Int)(st:((List (List Int))×Int)):Option (Fl ((List (List Int))×Int) ((List Int)×Int)):=
 cond (decide (st.2<c)) (ag (bF (wz st.2) 0 u0.told (([]:List Int),([]:List bR))) fun o=>aB o (fun b=>ag (rW (⟨a.1.bH,a.1.bO,a.1.aW,a.1.aD,a.1.props,a.1.aG,b.2⟩:ak)) fun d=>cond (!d) (ag (c9 st.1 ([b.1])) fun e=>some (.nx (e,(IntKind.i64.wrap (st.2+1))))) (some (.nx (st.1,(IntKind.i64.wrap (st.2+1)))))) (fun _ _=>none) (fun r=>some (.rt r))) (some (.bk (st.1,st.2)))
def wB (u0:ak):Option ((List Int)×Int):=
 ag (e7 u0 ([]:(List (ak->Option Int)))) fun a=>cond ((a.2 != 0)) (some (([]:(List Int)),a.2)) (ag (rW a.1) fun c=>cond (c) (some (([]:(List Int)),0)) (ag (uC 1 (u0.told.length:Int)) fun d=>ag (aY (wA u0 a d) fu (([]:List (List Int)),0)) fun o=>aB o (fun b=>ag (bn b.1 0) fun e=>ag (jL b.1 1 (b.1.length:Int)) fun f=>ag (u9 se e f) fun g=>some (g,0)) (fun _ _=>none) (fun r=>some r)))
theorem Az {ro:Addr->Option Value}(gg:c8 ro)(u0:ak){s1 i j b4:Value}(K:bL ro u0 s1 i j b4){r:((List Int)×Int)}(h:wB u0=some r):eF Tryz.prog 54 #[bv u0 s1 i j b4] ro (fun v aM=>∃b5,v= .tuple #[b5,.int .i64 r.2]/\aA rI aM b5 r.1):=by
 obtain ⟨d24,k,rfl,nb,ab,-⟩:=id K.t;unfold wB at h;have gl:=K.oc;simp only[bE] at gl;refine aC.go Tryz.func54 rfl Tryz.ntmps54 Tryz.results54 (by simp) fun main J hJ A gn hd hs=>?_;have gp:=hs 0;clear hs;refine ah hJ ?_;simp only[*,go_sem];refine az fun o L gB=>?_;try simp only[au] at gB
 try simp only[*,go_sem]
 refine ah hJ ?_;revert h;refine bS fun b gC h=>?_;simp only[*,go_sem];refine b9 hJ _ (jY gg u0 K ([]:(List (ak->Option Int))) (aA.nil _ _) gC) fun v ca ad cb a7=>?_;obtain ⟨c,d,f,q,rfl,P⟩:=a7;have gM:=P.oc;simp only[bE] at gM;replace K:=K.mono ad;replace L:=cb.hd;simp only[bq] at cb;refine aJ ?_;try simp only[*,go_sem]
 refine az fun s Q gT=>?_;try simp only[au] at gT
 try simp only[*,go_sem]
 refine af hJ (ah hJ ?_);simp only[*,go_sem];revert h;refine jC hJ (by simp only[*,go_sem]) (fun gV h=>?_) fun gV h=>?_
 ·obtain rfl:=sI h;refine ah hJ ?_;simp only[*,go_sem];refine av ?_;simp only[*,go_sem];exact ⟨_,ad,Le.sub (List.nil_sublist _),_,rfl,aA.nil _ _⟩
 refine aH hJ (af hJ ?_);refine ah hJ ?_;revert h;refine bS fun nd g0 h=>?_;simp only[*,go_sem];refine bh hJ _ (Ao b.1 (P.mono aQ) g0) ?_;try simp only[*,go_sem]
 revert h;refine jC hJ (by simp only[*,go_sem]) (fun g1 h=>?_) fun g1 h=>?_
 ·obtain rfl:=sI h;refine ah hJ ?_;simp only[*,go_sem];refine av ?_;simp only[*,go_sem];exact ⟨_,ad,Le.sub (List.nil_sublist _),_,rfl,aA.nil _ _⟩
 refine aH hJ (af hJ ?_);refine aj hJ ?_;simp only[*,go_sem];refine af hJ (ah hJ ?_);revert h;refine bS fun g2 cd h=>?_;obtain ⟨nf,g3⟩:=D3 cd;clear cd;try simp only[go_sem] at g3
 try simp only[*,go_sem]
 refine aO hJ ?_;revert h;refine bS fun g4 ae ha=>?_;refine bQ hJ [6,7,8,9,10,11,26,27,28,29,30,31,32,33,34,35,36,37,38,39,40,41,42,43,44,45,46,47,48,49,50,51,52,53,54,55,56,57,58,59,60,61,62,63,64,65] (fun m V F'=>∃(B:Addr->Option Value) (d71:Option Addr) (S:Nat) (w:List (Nat×Obj)) (I:(List (List Int))) (T:Int),aY (wA u0 b g2) m (I,T)=some g4/\F'=⟨B,(s,bl b.1 c d f q)::(o,bk u0 s1 i j (sl d24 u0.told k))::w⟩/\Ext ca B/\aN (rL rI) B 35 (.slice d71 I.length S) I w/\I.length<=S/\slot V 6= .slice d71 I.length S/\slot V 26= .int .i64 T) fu ?_ ?_
 ·refine ⟨ca,none,0,[],([]:List (List Int)),0,ae,rfl,Ext.refl _,aN.nil _ _ _,Nat.le_refl _,?_⟩;simp only[*,go_sem]
 rintro al hc F' cf ⟨B,d71,S,w,I,T,ae,rfl,W,U,hf,hg,hh⟩;refine fA hJ fun _ a8=>?_;replace P:=P.mono W;replace K:=K.mono W;replace Q:=a8.hd;replace L:=a8.tl.hd;simp only[bq] at a8;obtain ⟨cl,cy,cS⟩:=cf.pick [1,2,3,4,25] (by decide);simp only[*,go_sem] at cl cy cS;clear cf gn hd gp;obtain _|al:=al
 ·exact absurd ae (by simp only[aY,reduceCtorEq,not_false_eq_true])
 revert ae;refine bS fun nm h ao=>?_;unfold wA at h;try dsimp only at h
 refine af hJ ?_;refine ay hJ fun nn=>?_;refine aj hJ ?_;simp only[*,go_sem];refine af hJ ?_;revert h;refine jC hJ (by simp only[*,go_sem]) (fun hi h=>?_) fun hi h=>?_
 ·refine aH hJ (af hJ ?_);refine aO hJ (af hJ ?_);refine ay hJ fun np=>?_;refine aj hJ ?_;simp only[*,go_sem];refine af hJ ?_;refine ay hJ fun ns=>?_;refine aj hJ ?_;simp only[*,go_sem];refine af hJ ?_;refine ay hJ fun hj=>?_;refine aj hJ ?_;simp only[*,go_sem];refine az fun z hk c0=>?_;have nx:=aP.cons c0 hj;try simp only[au] at c0
  try simp only[*,go_sem]
  refine af hJ ?_;refine ay hJ fun nz=>?_;refine aj hJ ?_;simp only[*,go_sem];refine af hJ (af hJ ?_);refine ay hJ fun nA=>?_;refine aj hJ ?_;simp only[*,go_sem];refine aO hJ ?_;revert h;refine bS fun hl R hn=>?_;refine bQ hJ [8,10,11,35,36,37,38,39,40,41,42,43,44,45,46,47,48,49,50,51,52,53,54,55,56,57] (fun m V F'=>∃(i109:Nat) (d96:Option Addr) (M:Nat) (X:List (Nat×Obj)) (d103:Option Addr) (u:Nat) (C:List (Nat×Obj)) (D:(List Int)) (g:(List bR)),m=u0.told.length - i109/\i109<=u0.told.length/\bF (wz T) i109 (u0.told.drop i109) (D,g)=some hl/\F'=⟨B,(z,bl b.1 c d f (sl d103 g u))::(s,bl b.1 c d f q)::(o,bk u0 s1 i j (sl d24 u0.told k))::(X++(C++w))⟩/\aN rI B 3 (.slice d96 D.length M) D X/\D.length<=M/\aN dg B 76 (.slice d103 g.length u) g C/\g.length<=u/\slot V 35= .int .i64 (i109:Int)/\slot V 8= .slice d96 D.length M) u0.told.length ?_ ?_
  ·refine ⟨0,none,0,[],none,0,[],([]:List Int),([]:List bR),(Nat.sub_zero _).symm,Nat.zero_le _,R,rfl,aN.nil _ _ _,Nat.le_refl _,aN.nil _ _ _,Nat.le_refl _,?_⟩;simp only[*,go_sem]
  rintro nH ho F' a9 ⟨i109,d96,M,X,d103,u,C,D,g,rfl,nI,R,rfl,Y,hp,N,hq,nK,nQ⟩;obtain ⟨hr,ht,hv⟩:=a9.pick [1,2,3,4,6,7,9,25,26,27,28,29,30,31,32,33,34] (by decide);simp only[*,go_sem] at hr ht hv;have nR:cz [6,7,8,9,10,11,26,27,28,29,30,31,32,33,34,35,36,37,38,39,40,41,42,43,44,45,46,47,48,49,50,51,52,53,54,55,56,57,58,59,60,61,62,63,64,65] ho hc:=(a9.fG (by decide)).trans (by simp only[*,go_sem]);clear a9 cl cy cS hg hh;refine ah hJ ?_;simp only[*,go_sem];refine af hJ ?_;rcases Nat.lt_or_ge i109 u0.told.length with hx|da
  ·refine bK hJ (by simp only[*,go_sem]) ?_;refine aH hJ ?_;obtain ⟨a,ba⟩:∃x,u0.told[i109]?=some x:=⟨_,List.getElem?_eq_getElem hx⟩
   rw[dc ba] at R;revert R;refine bS fun nT h ar=>?_;unfold wz at h;(try dsimp only at h);obtain ⟨E,hy,hz,hA,bb⟩:=K.t.el _ _ ba;obtain rfl:hy=a.cells:=hA;cases hz;have hB:=bb 0 _ rfl;simp only[go_sem] at hB;have hD:=bb 1 _ rfl;simp only[go_sem] at hD;clear bb ba;refine af hJ (aO hJ (af hJ ?_));refine ay hJ fun hE=>?_;refine aj hJ ?_;simp only[*,go_sem];refine az fun F nV db=>?_;have nX:=aP.cons db hE;try simp only[au] at db
   (try simp only[*,go_sem]);refine af hJ ?_;refine ay hJ fun nY=>?_;refine aj hJ ?_;revert h;refine bS fun n0 dd h=>?_;obtain ⟨n1,hF⟩:=D4 dd;clear dd;(try simp only[go_sem] at hF);(try simp only[*,go_sem]);revert h;refine jC hJ (by simp only[*,go_sem]) (fun hG h=>?_) fun hG h=>?_
   ·refine ay hJ fun df=>?_;refine eG hJ mixed [13] (.pure 0 (.pure 1 (.pure 4 (.pure 5 (.rd 6 (.rd 7 (.two 2 (.two 3 (.one 8 (.one 9 (.pure 10 (.pure 11 (.pure 12 (.last 13 .done)))))) 8 (.one 3 (.one 9 (.pure 10 (.pure 11 (.pure 12 (.last 13 .done))))))) 8 (.one 2 (.one 3 (.one 9 (.pure 10 (.pure 11 (.pure 12 (.last 13 .done)))))))))))))) ⟨B,[(F,.cells #[.int .i64 a.aV,.bool a.bt] 76),(z,bl b.1 c d f (sl d103 g u)),(s,bl b.1 c d f q),(o,bk u0 s1 i j (sl (some E) u0.told k))]⟩ (by simp only[*,go_sem]) (by kernel_rfl) ?_;simp only[*,go_sem];refine jS ?_ ?_
    ·simp only[*,go_sem];refine az fun O dk dp=>?_;have dq:=aP.cons dp df;try simp only[au] at dp
     (try simp only[*,go_sem]);refine jS ?_ ?_
     ·revert h;refine bS fun hI hK h=>?_;obtain ⟨hL,ds⟩:=dw hK;simp only[*,go_sem];refine dY (r:=rI) (l:=D) (x:=(i109:Int)) (cs:=#[.int .i64 (i109:Int)]) (e2:=3) [(O,ic (i109:Int)),(F,.cells #[.int .i64 a.aV,.bool a.bt] 76),(z,bl b.1 c d f (sl d103 g u)),(s,bl b.1 c d f q),(o,bk u0 s1 i j (sl (some E) u0.told k))] (C++w) Y dq hL rfl (by simp only[*,go_sem]) dk rfl rfl fI fI kG kI rfl kH (by decide) (by decide) (fun n2 a0 bc G H hM=>?_);simp only[aT] at H;subst G;rw[<-ds] at bc;clear ds;obtain ⟨d197,hN,rfl,hP⟩:=bc.len;refine ⟨⟨B,(O,ic (i109:Int))::(F,.cells #[.int .i64 a.aV,.bool a.bt] 76)::(z,bl b.1 c d f (sl d103 g u))::(s,bl b.1 c d f q)::(o,bk u0 s1 i j (sl (some E) u0.told k))::(a0++(C++w))⟩,Le.refl _,?_⟩;refine ⟨by simp only[*,go_sem],bX ?_⟩;revert h;refine bS fun hQ hR h=>?_;obtain rfl:=sI h;obtain ⟨hS,dt⟩:=dw hR;(try simp only[*,go_sem]);refine az fun du hT dv=>?_;have hV:=aP.cons dv hM;try simp only[au] at dv
      (try simp only[*,go_sem]);refine dY (r:=dg) (l:=g) (x:=a) (cs:=#[.int .i64 a.aV,.bool a.bt]) (e2:=76) ((du,.cells #[.int .i64 a.aV,.bool a.bt] 76)::(O,ic (i109:Int))::(F,.cells #[.int .i64 a.aV,.bool a.bt] 76)::(z,bl b.1 c d f (sl d103 g u))::(s,bl b.1 c d f q)::(o,bk u0 s1 i j (sl (some E) u0.told k))::a0) w N hV hS rfl (by simp only[*,go_sem]) hT rfl rfl ek ek g6 g8 rfl g7 (by decide) (by decide) (fun n3 dC bd G H oi=>?_);simp only[aT] at H;subst G;rw[<-dt] at bd;clear dt;obtain ⟨d208,hX,rfl,hY⟩:=bd.len;refine ⟨⟨B,(du,.cells #[.int .i64 a.aV,.bool a.bt] 76)::(O,ic (i109:Int))::(F,.cells #[.int .i64 a.aV,.bool a.bt] 76)::(z,bl b.1 c d f (sl d103 g u))::(s,bl b.1 c d f q)::(o,bk u0 s1 i j (sl (some E) u0.told k))::(a0++(dC++w))⟩,Le.refl _,?_⟩;refine ⟨by simp only[*,go_sem],bX ?_⟩;(try simp only[*,go_sem]);have bj:=cp (n:=i109) (by have:=ab;omega);refine aj hJ ?_;simp only[*,go_sem];refine ⟨u0.told.length - (i109+1),by omega,_,Le.sub (List.Sublist.cons _ (List.Sublist.cons _ (List.Sublist.cons _ (List.Sublist.refl _)))),i109+1,d197,hN,a0,d208,hX,dC,hI,hQ,rfl,by omega,ar,rfl,bc,hP,bd,hY,?_⟩;simp only[*,go_sem]
     revert h;refine bS fun hZ h0 h=>?_;obtain ⟨h1,dE⟩:=dw h0;simp only[*,go_sem];refine az fun a2 h2 dT=>?_;have h3:=aP.cons dT dq;try simp only[au] at dT
     (try simp only[*,go_sem]);refine dY (r:=rI) (l:=D) (x:=(i109:Int)) (cs:=#[.int .i64 (i109:Int)]) (e2:=3) [(a2,.cells #[.int .i64 a.aV,.bool a.bt] 76),(O,ic (i109:Int)),(F,.cells #[.int .i64 a.aV,.bool a.bt] 76),(z,bl b.1 c d f (sl d103 g u)),(s,bl b.1 c d f q),(o,bk u0 s1 i j (sl (some E) u0.told k))] (C++w) Y h3 h1 rfl (by simp only[*,go_sem]) dk rfl rfl fI fI kG kI rfl kH (by decide) (by decide) (fun oj a3 bm G H h4=>?_);simp only[aT] at H;subst G;rw[<-dE] at bm;clear dE;obtain ⟨d219,h5,rfl,h6⟩:=bm.len;refine ⟨⟨B,(a2,.cells #[.int .i64 a.aV,.bool a.bt] 76)::(O,ic (i109:Int))::(F,.cells #[.int .i64 a.aV,.bool a.bt] 76)::(z,bl b.1 c d f (sl d103 g u))::(s,bl b.1 c d f q)::(o,bk u0 s1 i j (sl (some E) u0.told k))::(a3++(C++w))⟩,Le.refl _,?_⟩;refine ⟨by simp only[*,go_sem],bX ?_⟩;revert h;refine bS fun h7 h8 h=>?_;obtain rfl:=sI h;obtain ⟨h9,ea⟩:=dw h8;(try simp only[*,go_sem]);refine dY (r:=dg) (l:=g) (x:=a) (cs:=#[.int .i64 a.aV,.bool a.bt]) (e2:=76) ((a2,.cells #[.int .i64 a.aV,.bool a.bt] 76)::(O,ic (i109:Int))::(F,.cells #[.int .i64 a.aV,.bool a.bt] 76)::(z,bl b.1 c d f (sl d103 g u))::(s,bl b.1 c d f q)::(o,bk u0 s1 i j (sl (some E) u0.told k))::a3) w N h4 h9 rfl (by simp only[*,go_sem]) h2 rfl rfl ek ek g6 g8 rfl g7 (by decide) (by decide) (fun ox eb bo G H oy=>?_);simp only[aT] at H;subst G;rw[<-ea] at bo;clear ea;obtain ⟨d228,ib,rfl,ih⟩:=bo.len;refine ⟨⟨B,(a2,.cells #[.int .i64 a.aV,.bool a.bt] 76)::(O,ic (i109:Int))::(F,.cells #[.int .i64 a.aV,.bool a.bt] 76)::(z,bl b.1 c d f (sl d103 g u))::(s,bl b.1 c d f q)::(o,bk u0 s1 i j (sl (some E) u0.told k))::(a3++(eb++w))⟩,Le.refl _,?_⟩;refine ⟨by simp only[*,go_sem],bX ?_⟩;(try simp only[*,go_sem]);have bj:=cp (n:=i109) (by have:=ab;omega);refine aj hJ ?_;simp only[*,go_sem];refine ⟨u0.told.length - (i109+1),by omega,_,Le.sub (List.Sublist.cons _ (List.Sublist.cons _ (List.Sublist.cons _ (List.Sublist.refl _)))),i109+1,d219,h5,a3,d228,ib,eb,hZ,h7,rfl,by omega,ar,rfl,bm,h6,bo,ih,?_⟩;simp only[*,go_sem]
    revert h;refine bS fun ik il h=>?_;obtain ⟨im,ec⟩:=dw il;simp only[*,go_sem];refine az fun a4 iv ed=>?_;have ix:=aP.cons ed df;try simp only[au] at ed
    (try simp only[*,go_sem]);refine az fun a5 j1 eh=>?_;have j2:=aP.cons eh ix;try simp only[au] at eh
    (try simp only[*,go_sem]);refine dY (r:=rI) (l:=D) (x:=(i109:Int)) (cs:=#[.int .i64 (i109:Int)]) (e2:=3) [(a5,ic (i109:Int)),(a4,.cells #[.int .i64 a.aV,.bool a.bt] 76),(F,.cells #[.int .i64 a.aV,.bool a.bt] 76),(z,bl b.1 c d f (sl d103 g u)),(s,bl b.1 c d f q),(o,bk u0 s1 i j (sl (some E) u0.told k))] (C++w) Y j2 im rfl (by simp only[*,go_sem]) j1 rfl rfl fI fI kG kI rfl kH (by decide) (by decide) (fun o0 a6 br G H kh=>?_);simp only[aT] at H;subst G;rw[<-ec] at br;clear ec;obtain ⟨kj,kk,rfl,kl⟩:=br.len;refine ⟨⟨B,(a5,ic (i109:Int))::(a4,.cells #[.int .i64 a.aV,.bool a.bt] 76)::(F,.cells #[.int .i64 a.aV,.bool a.bt] 76)::(z,bl b.1 c d f (sl d103 g u))::(s,bl b.1 c d f q)::(o,bk u0 s1 i j (sl (some E) u0.told k))::(a6++(C++w))⟩,Le.refl _,?_⟩;refine ⟨by simp only[*,go_sem],bX ?_⟩;revert h;refine bS fun km kn h=>?_;obtain rfl:=sI h;obtain ⟨kp,et⟩:=dw kn;(try simp only[*,go_sem]);refine dY (r:=dg) (l:=g) (x:=a) (cs:=#[.int .i64 a.aV,.bool a.bt]) (e2:=76) ((a5,ic (i109:Int))::(a4,.cells #[.int .i64 a.aV,.bool a.bt] 76)::(F,.cells #[.int .i64 a.aV,.bool a.bt] 76)::(z,bl b.1 c d f (sl d103 g u))::(s,bl b.1 c d f q)::(o,bk u0 s1 i j (sl (some E) u0.told k))::a6) w N kh kp rfl (by simp only[*,go_sem]) iv rfl rfl ek ek g6 g8 rfl g7 (by decide) (by decide) (fun o1 ev bs G H o2=>?_);simp only[aT] at H;subst G;rw[<-et] at bs;clear et;obtain ⟨ks,kt,rfl,kv⟩:=bs.len;refine ⟨⟨B,(a5,ic (i109:Int))::(a4,.cells #[.int .i64 a.aV,.bool a.bt] 76)::(F,.cells #[.int .i64 a.aV,.bool a.bt] 76)::(z,bl b.1 c d f (sl d103 g u))::(s,bl b.1 c d f q)::(o,bk u0 s1 i j (sl (some E) u0.told k))::(a6++(ev++w))⟩,Le.refl _,?_⟩;refine ⟨by simp only[*,go_sem],bX ?_⟩;(try simp only[*,go_sem]);have bj:=cp (n:=i109) (by have:=ab;omega);refine aj hJ ?_;simp only[*,go_sem];refine ⟨u0.told.length - (i109+1),by omega,_,Le.sub (List.Sublist.cons _ (List.Sublist.cons _ (List.Sublist.cons _ (List.Sublist.refl _)))),i109+1,kj,kk,a6,ks,kt,ev,ik,km,rfl,by omega,ar,rfl,br,kl,bs,kv,?_⟩;simp only[*,go_sem]
   obtain rfl:=sI h;refine aH hJ ?_;have bj:=cp (n:=i109) (by have:=ab;omega);refine aj hJ ?_;simp only[*,go_sem];refine ⟨u0.told.length - (i109+1),by omega,_,Le.sub (List.Sublist.cons _ (List.Sublist.refl _)),i109+1,d96,M,X,d103,u,C,D,g,rfl,by omega,ar,rfl,Y,hp,N,hq,?_⟩;simp only[*,go_sem]
  have o4:=Nat.not_lt.2 da;refine bG hJ (by simp only[*,go_sem]) ?_;rw[List.drop_eq_nil_of_le da] at R;obtain rfl:=sI R;clear R;have h:=hn;dsimp only[aB] at h;refine bN ?_;simp only[go_sem];refine af hJ ?_;refine ay hJ fun kx=>?_;refine aj hJ ?_;revert h;refine bS fun pa ky h=>?_;simp only[*,go_sem];refine bh hJ _ (Ao (⟨b.1.bH,b.1.bO,b.1.aW,b.1.aD,b.1.props,b.1.aG,g⟩:ak) ⟨(P.e.mono aQ),(P.p.mono aQ),(P.y.mono aQ),(N.Ab ((z,bl b.1 c d f (sl d103 g u))::(s,bl b.1 c d f q)::(o,bk u0 s1 i j (sl d24 u0.told k))::X) w (by first|rfl|simp only[aT]|(simp only[aT];rfl)) kx)⟩ ky) (aJ ?_);try simp only[*,go_sem]
  revert h;refine jC hJ (by simp only[*,go_sem]) (fun k0 h=>?_) fun k0 h=>?_
  ·refine ay hJ fun eQ=>?_;obtain ⟨eS,bz,Z,e0,k2⟩:=Y.kM ((z,bl b.1 c d f (sl d103 g u))::(s,bl b.1 c d f q)::(o,bk u0 s1 i j (sl d24 u0.told k))::(C++w)) [(z,bl b.1 c d f (sl d103 g u)),(s,bl b.1 c d f q),(o,bk u0 s1 i j (sl d24 u0.told k))] (C++w) (by first|rfl|simp only[aT]|(simp only[aT];rfl)) (by first|rfl|simp only[aT]|(simp only[aT];rfl)) eQ (aF.cons hk (aF.cons Q (aF.cons L (aF.app N.jg (U.jg)))));clear eQ;refine cB hJ k2 ?_;obtain ⟨pb,pd,-⟩:=e0.op;replace Q:=Z.tl.hd;replace L:=Z.tl.tl.hd;replace N:=N.mono bz Z.tl.tl.tl.l;replace U:=U.mono bz Z.tl.tl.tl.r;simp only[bq] at Z;refine ay hJ fun lb=>?_;refine aj hJ ?_;revert h;refine bS fun lh lj h=>?_;obtain rfl:=sI h;obtain ⟨lk,e1⟩:=dw lj;simp only[*,go_sem];refine az fun e3 ll fa=>?_;have ln:=aP.cons fa lb;try simp only[au] at fa
   (try simp only[*,go_sem]);refine dY (r:=(rL rI)) (l:=I) (x:=D) (cs:=#[.slice d96 D.length M]) (e2:=35) ((e3,.cells #[.slice d96 D.length M] 35)::(z,bl b.1 c d f (sl d103 g u))::(s,bl b.1 c d f q)::(o,bk u0 s1 i j (sl d24 u0.told k))::C) [] U ln lk ⟨_,rfl,e0⟩ (by simp only[*,go_sem]) ll rfl rfl kK kK qV qX rfl qW (by decide) (by decide) (fun pf fb b0 G H ph=>?_);simp only[aT] at H;subst G;rw[<-e1] at b0;clear e1;obtain ⟨lo,lr,rfl,lv⟩:=b0.len;refine ⟨⟨eS,(e3,.cells #[.slice d96 D.length M] 35)::(z,bl b.1 c d f (sl d103 g u))::(s,bl b.1 c d f q)::(o,bk u0 s1 i j (sl d24 u0.told k))::(C++fb)⟩,Le.refl _,?_⟩;refine aJ ?_;(try simp only[*,go_sem]);refine ay hJ fun pj=>?_;refine aj hJ ?_;simp only[*,go_sem];refine ⟨al,Nat.lt_succ_self _,_,Le.sub (List.Sublist.cons _ (List.Sublist.cons _ (List.Sublist.cons₂ _ (List.Sublist.cons₂ _ ((List.Sublist.refl _).trans (List.sublist_append_right _ _)))))),eS,lo,lr,fb,lh,(IntKind.i64.wrap (T+1)),ao,rfl,(W.trans bz),b0,lv,?_⟩;simp only[*,go_sem]
  obtain rfl:=sI h;refine aH hJ ?_;refine ay hJ fun pk=>?_;refine aj hJ ?_;simp only[*,go_sem];refine ⟨al,Nat.lt_succ_self _,_,Le.sub (List.Sublist.cons _ (List.Sublist.cons₂ _ (List.Sublist.cons₂ _ (((List.Sublist.refl _).trans (List.sublist_append_right _ _)).trans (List.sublist_append_right _ _))))),B,d71,S,w,I,(IntKind.i64.wrap (T+1)),ao,rfl,W,U,hf,?_⟩;simp only[*,go_sem]
 obtain rfl:=sI h;refine bN ?_;simp only[go_sem];obtain rfl:=sI ao;clear ao;have h:=ha;dsimp only[aB] at h;refine af hJ ?_;refine ay hJ fun fg=>?_;obtain ⟨po,lx,b1,b2,ly⟩:=U.kM ((s,bl b.1 c d f q)::(o,bk u0 s1 i j (sl d24 u0.told k))::[]) [(s,bl b.1 c d f q),(o,bk u0 s1 i j (sl d24 u0.told k))] [] (by first|rfl|simp only[aT]|(simp only[aT];rfl)) (by first|rfl|simp only[aT]|(simp only[aT];rfl)) fg (aF.cons Q (aF.cons L (aF.nil _)));clear fg;refine cB hJ ly ?_;obtain ⟨pr,ps,-⟩:=b2.op;replace Q:=b1.hd;replace L:=b1.tl.hd;simp only[bq] at b1;refine cQ hJ mixed 5 2 (by simp only[*,go_sem]) (by kernel_rfl) ?_;revert h;refine bS fun lL l1 h=>?_;obtain ⟨pt,pv,fi⟩:=cW l1;obtain ⟨pw,px,l2,l3,fp⟩:=b2.el _ _ fi;obtain ⟨py,rfl,fr⟩:=l3;obtain ⟨pA,pB,rfl,pC,pD,pL⟩:=id fr;cases l2;have l4:=fp 0 _ rfl;simp only[go_sem] at l4;clear fp fi;revert h;refine bS fun ma mf h=>?_;obtain ⟨pT,p0,p1,fs⟩:=oU mf;have ft:(1:Int).toNat<=((I.length:Int)).toNat:=by omega
 have mi:((I.length:Int)).toNat<=S:=by omega
 have q0:0<=((I.length:Int)):=by omega
 obtain ⟨q1,ml,mn,fv⟩:=aA.oX b2 (1:Int).toNat ((I.length:Int)).toNat ft (by omega) fs;simp only[go_sem] at ml mn ft mi;obtain ⟨_,_,mr,ra,rb,re⟩:=id fv;cases mr;clear fs;revert h;refine bS fun rh mx h=>?_;obtain rfl:=sI h;try simp only[*,go_sem]
 refine b9 hJ _ (FG (dM:=105) (dZ:=#[]) (ee:=#[]) se ⟨by simp only[go_sem],fun rk rl my _ m1 _ _ m2 na h=>by simp only[go_sem];exact Gv my m2 m1 na h⟩ lL fr ma fv mx) fun v rn fw b3 a7=>?_;obtain ⟨rp,rfl,fx⟩:=a7;replace Q:=b3.hd;replace L:=b3.tl.hd;simp only[bq] at b3;obtain ⟨rr,rv,rfl,rB,sa,-⟩:=id fx;have sb:=eO (l:=[(s,bl b.1 c d f q),(o,bk u0 s1 i j (sl d24 u0.told k))]) fw (aF.cons Q (aF.cons L (aF.nil _)));refine ⟨by simp only[*,go_sem],?_⟩;refine eU ?_;try simp only[*,go_sem]
 refine av ?_;simp only[*,go_sem];exact ⟨_,(((ad).trans W).trans lx).trans fw,Le.sub (List.nil_sublist _),_,rfl,fx⟩
def wC (a:(cK×Int))(i93:Nat)(b:aZ)(st:(List bA)):Option (Fl (List bA) (an×an×Bool×Int)):=
 ag (kP a.1.book b) fun c=>ag (c9 st ([c])) fun d=>some (.nx d)
def wD (u0:ak):Option (an×an×Bool×Int):=
 ag (gu u0 ([]:(List (ak->Option Int)))) fun a=>cond ((a.2 != 0)) (some ((⟨0,0⟩:an),(⟨0,0⟩:an),false,a.2)) (ag (sn a.1) fun g=>ag (bF (wC a) 0 g ([]:List bA)) fun o=>aB o (fun b=>ag (bn b 0) fun c=>ag (jL b 1 (b.length:Int)) fun d=>ag (lX iQ c d) fun h=>ag (lX rz c d) fun i=>ag (jk h.high u0.aW) fun e=>ag (jj i.high u0.aW) fun f=>ag (eC f e) fun j=>cond (j) (some ((⟨0,0⟩:an),(⟨0,0⟩:an),false,0)) (some (e,f,true,0))) (fun _ _=>none) (fun r=>some r))
theorem GA {ro:Addr->Option Value}(bl:c8 ro)(u0:ak){s1 f g i:Value}(ab:bL ro u0 s1 f g i){r:(an×an×Bool×Int)}(h:wD u0=some r):aC Tryz.prog 31 #[bv u0 s1 f g i] ⟨ro,[]⟩ (fun v _=>v= .tuple #[r.1.v,r.2.1.v,.bool r.2.2.1,.int .i64 r.2.2.2]):=by
 unfold wD at h;have bm:=ab.oc;simp only[bE] at bm;refine aC.go Tryz.func31 rfl Tryz.ntmps31 Tryz.results31 (by simp) fun main J hJ A bo hd hs=>?_;have br:=hs 0;clear hs;refine ah hJ ?_;simp only[*,go_sem];refine az fun j L bs=>?_;try simp only[au] at bs
 refine az fun z M bz=>?_;try simp only[au] at bz
 refine az fun B N b0=>?_;try simp only[au] at b0
 try simp only[*,go_sem]
 refine ah hJ ?_;revert h;refine bS fun d b1 h=>?_;simp only[*,go_sem];refine b9 hJ _ (jq bl u0 ab ([]:(List (ak->Option Int))) (aA.nil _ _) b1) fun v g1 g2 I O=>?_;obtain ⟨k,o,p,q,s,rfl,D,ad⟩:=O;have b2:=D.oc;simp only[bE] at b2;have b3:=ad.oc;simp only[bE] at b3;replace N:=I.hd;replace M:=I.tl.hd;replace L:=I.tl.tl.hd;simp only[bq] at I;refine aJ ?_;try simp only[*,go_sem]
 refine az fun t ae b4=>?_;try simp only[au] at b4
 try simp only[*,go_sem]
 refine af hJ (ah hJ ?_);simp only[*,go_sem];revert h;refine jC hJ (by simp only[*,go_sem]) (fun b5 h=>?_) fun b5 h=>?_
 ·obtain rfl:=sI h;refine ah hJ ?_;simp only[*,go_sem];refine av ?_;simp only[*,go_sem]
 refine aH hJ (af hJ ?_);refine aj hJ ?_;simp only[*,go_sem];refine af hJ (ah hJ ?_);revert h;refine bS fun u ca h=>?_;simp only[*,go_sem];refine b9 hJ _ (Ay d.1 D ad ca) fun v P cb E O=>?_;obtain ⟨g3,rfl,al⟩:=O;replace D:=D.mono cb;replace ae:=E.hd;replace N:=E.tl.hd;replace M:=E.tl.tl.hd;replace L:=E.tl.tl.tl.hd;simp only[bq] at E;obtain ⟨d81,g4,rfl,ha,cd,-⟩:=id al;refine aJ ?_;try simp only[*,go_sem]
 refine aO hJ ?_;revert h;refine bS fun cf w cl=>?_;refine bQ hJ [7,9,25,26,27,28,29,30,31,32,33,34,35,36] (fun m ao F'=>∃(i93:Nat) (d87:Option Addr) (G:Nat) (Q:List (Nat×Obj)) (e:(List bA)),m=u.length - i93/\i93<=u.length/\bF (wC d) i93 (u.drop i93) e=some cf/\F'=⟨P,(t,kn d.1 k o p q s)::(B,rt 0 0)::(z,rt 0 0)::(j,bk u0 s1 f g i)::Q⟩/\aN jU P 147 (.slice d87 e.length G) e Q/\e.length<=G/\slot ao 25= .int .i64 (i93:Int)/\slot ao 7= .slice d87 e.length G) u.length ?_ ?_
 ·refine ⟨0,none,0,[],([]:List bA),(Nat.sub_zero _).symm,Nat.zero_le _,w,rfl,aN.nil _ _ _,Nat.le_refl _,?_⟩;simp only[*,go_sem]
 rintro hc hf F' ar ⟨i93,d87,G,Q,e,rfl,hg,w,rfl,a0,hh,hi,hj⟩;obtain ⟨cy,cS,c0⟩:=ar.pick [1,2,3,4,5,6,23,24] (by decide);simp only[*,go_sem] at cy cS c0;clear ar bo hd br;refine ah hJ ?_;simp only[*,go_sem];refine af hJ ?_;rcases Nat.lt_or_ge i93 u.length with da|a2
 ·refine bK hJ (by simp only[*,go_sem]) ?_;refine aH hJ ?_;obtain ⟨C,R⟩:∃x,u[i93]?=some x:=⟨_,List.getElem?_eq_getElem da⟩
  rw[dc R] at w;revert w;refine bS fun hk h db=>?_;unfold wC at h;try dsimp only at h
  obtain ⟨hl,dd,df,dk,S⟩:=al.el _ _ R;obtain rfl:dd=C.cells:=dk;cases df;have dp:=S 0 _ rfl;simp only[go_sem] at dp;have dq:=S 1 _ rfl;simp only[go_sem] at dq;clear S R;refine af hJ (aO hJ (af hJ ?_));refine ay hJ fun ds=>?_;refine aj hJ ?_;simp only[*,go_sem];refine az fun a3 hn a4=>?_;have ho:=aP.cons a4 ds;try simp only[au] at a4
  try simp only[*,go_sem]
  refine ay hJ fun dt=>?_;refine aj hJ ?_;revert h;refine bS fun a du h=>?_;simp only[*,go_sem];refine bh hJ _ (rH d.1.book (D.mono aQ) C du) (aJ ?_);revert h;refine bS fun dv dC h=>?_;obtain rfl:=sI h;obtain ⟨dE,a5⟩:=dw dC;try simp only[*,go_sem]
  refine az fun a6 dT a7=>?_;have ea:=aP.cons a7 dt;try simp only[au] at a7
  try simp only[*,go_sem]
  refine dY (r:=jU) (l:=e) (x:=a) (cs:=#[.int .i64 a.spot.aL,.int .i64 a.spot.high.num,.int .i64 a.spot.high.den,.int .i64 a.at_,.int .i64 a.high.num,.int .i64 a.high.den]) (e2:=147) [(a6,.cells #[.int .i64 a.spot.aL,.int .i64 a.spot.high.num,.int .i64 a.spot.high.den,.int .i64 a.at_,.int .i64 a.high.num,.int .i64 a.high.den] 147),(a3,.cells #[.int .i64 C.back,.int .i64 C.high] 134),(t,kn d.1 k o p q s),(B,rt 0 0),(z,rt 0 0),(j,bk u0 s1 f g i)] [] a0 ea dE rfl (by simp only[*,go_sem]) dT rfl rfl m5 m5 uG uI rfl uH (by decide) (by decide) (fun hp a8 T eb ec hq=>?_);simp only[aT] at ec;subst eb;rw[<-a5] at T;clear a5;obtain ⟨d115,ed,rfl,eh⟩:=T.len;refine ⟨⟨P,(a6,.cells #[.int .i64 a.spot.aL,.int .i64 a.spot.high.num,.int .i64 a.spot.high.den,.int .i64 a.at_,.int .i64 a.high.num,.int .i64 a.high.den] 147)::(a3,.cells #[.int .i64 C.back,.int .i64 C.high] 134)::(t,kn d.1 k o p q s)::(B,rt 0 0)::(z,rt 0 0)::(j,bk u0 s1 f g i)::a8⟩,Le.refl _,?_⟩;refine aJ ?_;try simp only[*,go_sem]
  have hr:=cp (n:=i93) (by have:=cd;omega);refine aj hJ ?_;simp only[*,go_sem];refine ⟨u.length - (i93+1),by omega,_,Le.sub (List.Sublist.cons _ (List.Sublist.cons _ (List.Sublist.refl _))),i93+1,d115,ed,a8,dv,rfl,by omega,db,rfl,T,eh,?_⟩;simp only[*,go_sem]
 have ht:=Nat.not_lt.2 a2;refine bG hJ (by simp only[*,go_sem]) ?_;rw[List.drop_eq_nil_of_le a2] at w;obtain rfl:=sI w;clear w;have h:=cl;dsimp only[aB] at h;refine bN ?_;simp only[go_sem];refine af hJ ?_;refine ay hJ fun a9=>?_;obtain ⟨K,hv,et,U,ev⟩:=a0.eW [(t,kn d.1 k o p q s),(B,rt 0 0),(z,rt 0 0),(j,bk u0 s1 f g i)] [] a9 (aF.cons ae (aF.cons N (aF.cons M (aF.cons L (aF.nil _)))));clear a9;refine cB hJ ev ?_;obtain ⟨hx,hy,-⟩:=U.op;simp only[bq] at et;refine e6 hJ mixed 6 ⟨K,[(t,kn d.1 k o p q s),(B,rt 0 0),(z,rt 0 0),(j,bk u0 s1 f g i)]⟩ (by simp only[*,go_sem]) (by kernel_rfl) ?_;revert h;refine bS fun V eQ h=>?_;obtain ⟨hz,hA,ba⟩:=cW eQ;obtain ⟨hB,eS,e0,e1,y⟩:=U.el _ _ ba;obtain rfl:eS=V.cells:=e1;cases e0;have e3:=y 0 _ rfl;simp only[go_sem] at e3;have fa:=y 1 _ rfl;simp only[go_sem] at fa;have fb:=y 2 _ rfl;simp only[go_sem] at fb;have fg:=y 3 _ rfl;simp only[go_sem] at fg;have fi:=y 4 _ rfl;simp only[go_sem] at fi;have fp:=y 5 _ rfl;simp only[go_sem] at fp;clear y ba;revert h;refine bS fun bb fr h=>?_;obtain ⟨hD,hE,hF,bc⟩:=oU fr;have bd:(1:Int).toNat<=((e.length:Int)).toNat:=by omega
 have fs:((e.length:Int)).toNat<=G:=by omega
 have hG:0<=((e.length:Int)):=by omega
 obtain ⟨d132,ft,fu,W⟩:=aA.oX U (1:Int).toNat ((e.length:Int)).toNat bd (by omega) bc;simp only[go_sem] at ft fu bd fs;obtain ⟨_,_,fv,hI,hK,hL⟩:=id W;cases fv;clear bc;revert h;refine bS fun b fw h=>?_;try simp only[*,go_sem]
 refine ⟨_,bC hJ fun F H=>ry (dM:=88) (dZ:=#[]) (ee:=#[]) iQ ⟨by simp only[go_sem],fun fx gg X Y _ h=>by simp only[go_sem];exact rj X Y h⟩ V bb (W.mono (b8 H)) fw,?_⟩;try simp only[*,go_sem]
 refine az fun Z hM gl=>?_;try simp only[au] at gl
 try simp only[*,go_sem]
 refine af hJ ?_;refine e6 hJ mixed 6 ⟨K,[(Z,.cells #[.int .i64 b.spot.aL,.int .i64 b.spot.high.num,.int .i64 b.spot.high.den,.int .i64 b.at_,.int .i64 b.high.num,.int .i64 b.high.den] 147),(t,kn d.1 k o p q s),(B,rt 0 0),(z,rt 0 0),(j,bk u0 s1 f g i)]⟩ (by simp only[*,go_sem]) (by kernel_rfl) ?_;revert h;refine bS fun c gn h=>?_;simp only[*,go_sem];refine ⟨_,bC hJ fun F H=>ry (dM:=89) (dZ:=#[]) (ee:=#[]) rz ⟨by simp only[go_sem],fun fx gg X Y _ h=>by simp only[go_sem];exact Fz X Y h⟩ V bb (W.mono (b8 H)) gn,?_⟩;try simp only[*,go_sem]
 refine az fun bj hN gp=>?_;try simp only[au] at gp
 try simp only[*,go_sem]
 refine af hJ ?_;refine e6 hJ mixed 10 ⟨K,[(bj,.cells #[.int .i64 c.spot.aL,.int .i64 c.spot.high.num,.int .i64 c.spot.high.den,.int .i64 c.at_,.int .i64 c.high.num,.int .i64 c.high.den] 147),(Z,.cells #[.int .i64 b.spot.aL,.int .i64 b.spot.high.num,.int .i64 b.spot.high.den,.int .i64 b.at_,.int .i64 b.high.num,.int .i64 b.high.den] 147),(t,kn d.1 k o p q s),(j,bk u0 s1 f g i)]⟩ (by simp only[*,go_sem]) (by kernel_rfl) ?_;revert h;refine bS fun gB gC h=>?_;simp only[*,go_sem];refine ⟨_,bC hJ fun F H=>pG b.high u0.aW gC,bY ?_⟩;revert h;refine bS fun gM gT h=>?_;try simp only[*,go_sem]
 refine ⟨_,bC hJ fun F H=>pF c.high u0.aW gT,?_⟩;try simp only[*,go_sem]
 refine af hJ (ah hJ ?_);revert h;refine bS fun hP gV h=>?_;simp only[*,go_sem];refine bh hJ _ (iP gM gB gV) ?_;try simp only[*,go_sem]
 revert h;refine jC hJ (by simp only[*,go_sem]) (fun g0 h=>?_) fun g0 h=>?_
 ·obtain rfl:=sI h;refine ah hJ ?_;simp only[*,go_sem];refine av ?_;simp only[*,go_sem]
 refine aH hJ (af hJ ?_);refine eG hJ mixed [] (.two 0 (.two 1 (.one 2 (.one 3 (.pure 4 (.pure 5 .done)))) 2 (.one 1 (.one 3 (.pure 4 (.pure 5 .done))))) 1 (.one 0 (.one 2 (.one 3 (.pure 4 (.pure 5 .done)))))) ⟨K,[(bj,.cells #[.int .i64 c.spot.aL,.int .i64 c.spot.high.num,.int .i64 c.spot.high.den,.int .i64 c.at_,.int .i64 c.high.num,.int .i64 c.high.den] 147),(Z,.cells #[.int .i64 b.spot.aL,.int .i64 b.spot.high.num,.int .i64 b.spot.high.den,.int .i64 b.at_,.int .i64 b.high.num,.int .i64 b.high.den] 147),(t,kn d.1 k o p q s),(j,bk u0 s1 f g i)]⟩ (by simp only[*,go_sem]) (by kernel_rfl) ?_;simp only[*,go_sem];refine jS ?_ ?_
 ·simp only[*,go_sem];refine jS ?_ ?_
  ·obtain rfl:=sI h;simp only[*,go_sem];refine av ?_;simp only[*,go_sem]
  obtain rfl:=sI h;simp only[*,go_sem];refine av ?_;simp only[*,go_sem]
 obtain rfl:=sI h;simp only[*,go_sem];refine av ?_;simp only[*,go_sem]
def mg (u0:ak)(b:Int):Option ((List Int)×Int):=
 ag (gu u0 ([(eJ b)])) fun a=>cond ((a.2 != 0)) (some (([]:(List Int)),a.2)) (ag (kS a.1 b) fun c=>some (c,0))
theorem so {ro:Addr->Option Value}(g:c8 ro)(u0:ak){s1 i j k:Value}(f:bL ro u0 s1 i j k)(a:Int){r:((List Int)×Int)}(h:mg u0 a=some r):eF Tryz.prog 15 #[bv u0 s1 i j k,.int .i64 a] ro (fun v aM=>∃m,v= .tuple #[m,.int .i64 r.2]/\aA rI aM m r.1):=by
 unfold mg at h;have D:=f.oc;simp only[bE] at D;refine aC.go Tryz.func15 rfl Tryz.ntmps15 Tryz.results15 (by simp) fun main J hJ A Y hd hs=>?_;have Z:=hs 0;have k1:=hs 1;clear hs;refine ah hJ ?_;simp only[*,go_sem];refine az fun E F G=>?_;try simp only[au] at G
 try simp only[*,go_sem]
 refine af hJ ?_;refine ay hJ fun H=>?_;refine aj hJ ?_;revert h;refine bS fun I K h=>?_;simp only[*,go_sem];refine az fun c n p=>?_;have q:=aP.cons p H;try simp only[au] at p
 try simp only[*,go_sem]
 obtain ⟨d,s,t⟩:=fK (b:=c) (o:=(.cells #[.func (.func 68) #[.int .i64 a] #[]] 127)) [] ((E,bk u0 s1 i j k)::[]) q n (aF.cons F (aF.nil _));have u:aA (cY) (bP ro c (.cells #[.func (.func 68) #[.int .i64 a] #[]] 127)) (.slice (some ⟨c,0,none⟩) 1 1) [(eJ a)]:=(aA.one (r:=(cY)) (e:=127) (cs:=#[.func (.func 68) #[.int .i64 a] #[]]) (x:=(eJ a)) (own:=[(c,.cells #[.func (.func 68) #[.int .i64 a] #[]] 127)]) n (by simp[lk]) ⟨68,#[.int .i64 a],#[],rfl,⟨by simp only[go_sem],fun ab ad L _ _ _ _ _ M N O P h=>by simp only[go_sem];exact ru a L ⟨M,N,O,P⟩ h⟩⟩)
 generalize bP ro c (.cells #[.func (.func 68) #[.int .i64 a] #[]] 127)=ae at u s d t;refine gJ hJ t ?_;replace f:=f.mono d;replace g:=g.mono d;simp only[bq] at s;have Q:=aP.tl q;refine b9 hJ _ (jq g u0 f ([(eJ a)]) u K) fun v al w R l=>?_;obtain ⟨ao,ar,a0,a2,a3,rfl,y,z⟩:=l;have S:=y.oc;simp only[bE] at S;have T:=z.oc;simp only[bE] at T;simp only[bq] at R;refine aJ ?_;try simp only[*,go_sem]
 refine az fun a4 a5 B=>?_;have a6:=aP.cons B Q;try simp only[au] at B
 try simp only[*,go_sem]
 refine af hJ (ah hJ ?_);simp only[*,go_sem];revert h;refine jC hJ (by simp only[*,go_sem]) (fun U h=>?_) fun U h=>?_
 ·obtain rfl:=sI h;refine ah hJ ?_;simp only[*,go_sem];refine av ?_;simp only[*,go_sem];exact ⟨_,(d).trans w,Le.sub (List.nil_sublist _),_,rfl,aA.nil _ _⟩
 refine aH hJ (af hJ ?_);refine aj hJ ?_;revert h;refine bS fun a7 V h=>?_;obtain rfl:=sI h;simp only[*,go_sem];refine b9 hJ _ (sk I.1 y z a V) fun v a8 W X l=>?_;obtain ⟨a9,rfl,C⟩:=l;simp only[bq] at X;obtain ⟨d89,ba,rfl,bb,bc,-⟩:=id C;refine aJ ?_;try simp only[*,go_sem]
 refine av ?_;simp only[*,go_sem];exact ⟨_,((d).trans w).trans W,Le.sub (List.nil_sublist _),_,rfl,C⟩
def mh (a:(cK×Int))(i80:Nat)(i102:Nat)(c:Int)(st:(Int×an)):Option (Fl (Int×an) (Int×an×Int)):=
 ag (gO a.1.book (i80:Int) c) fun b=>ag (fY a.1.book b) fun d=>cond (d) (ag (jX a.1.book b) fun e=>ag (eC st.2 e) fun f=>cond (f) (ag (jX a.1.book b) fun g=>some (.nx ((i80:Int),g))) (some (.nx (st.1,st.2)))) (some (.nx (st.1,st.2)))
def pX (a:(cK×Int))(i80:Nat)(d:bZ)(st:(Int×an)):Option (Fl (Int×an) (Int×an×Int)):=
 ag (kS a.1 (i80:Int)) fun c=>ag (bF (mh a i80) 0 c (st.1,st.2)) fun o=>aB o (fun b=>some (.nx (b.1,b.2))) (fun _ _=>none) (fun r=>some (.rt r))
def kT (u0:ak):Option (Int×an×Int):=
 ag (gu u0 ([]:(List (ak->Option Int)))) fun a=>cond ((a.2 != 0)) (some (0,(⟨0,0⟩:an),a.2)) (ag (fM 0) fun c=>ag (bF (pX a) 0 a.1.book.aG ((-1),c)) fun o=>aB o (fun b=>some (b.1,b.2,0)) (fun _ _=>none) (fun r=>some r))
theorem wE {ro:Addr->Option Value}(ar:c8 ro)(u0:ak){s1 j k l:Value}(R:bL ro u0 s1 j k l){r:(Int×an×Int)}(h:kT u0=some r):aC Tryz.prog 26 #[bv u0 s1 j k l] ⟨ro,[]⟩ (fun v _=>v= .tuple #[.int .i64 r.1,r.2.1.v,.int .i64 r.2.2]):=by
 unfold kT at h;have a0:=R.oc;simp only[bE] at a0;refine aC.go Tryz.func26 rfl Tryz.ntmps26 Tryz.results26 (by simp) fun main J hJ A a2 hd hs=>?_;have a3:=hs 0;clear hs;refine ah hJ ?_;simp only[*,go_sem];refine az fun w ev a4=>?_;try simp only[au] at a4
 refine az fun z eQ a5=>?_;try simp only[au] at a5
 try simp only[*,go_sem]
 refine ah hJ ?_;revert h;refine bS fun a a6 h=>?_;simp only[*,go_sem];refine b9 hJ _ (jq ar u0 R ([]:(List (ak->Option Int))) (aA.nil _ _) a6) fun v S eS a7 B=>?_;obtain ⟨C,D,e0,E,G,rfl,b,p⟩:=B;have a8:=b.oc;simp only[bE] at a8;have a9:=p.oc;simp only[bE] at a9;simp only[bq] at a7;obtain ⟨d52,H,rfl,e1,ba,-⟩:=id b.y;refine aJ ?_;try simp only[*,go_sem]
 refine az fun I e2 bb=>?_;try simp only[au] at bb
 try simp only[*,go_sem]
 refine af hJ (ah hJ ?_);simp only[*,go_sem];revert h;refine jC hJ (by simp only[*,go_sem]) (fun bc h=>?_) fun bc h=>?_
 ·obtain rfl:=sI h;refine ah hJ ?_;simp only[*,go_sem];refine av ?_;simp only[*,go_sem]
 refine aH hJ (af hJ ?_);refine aj hJ ?_;revert h;refine bS fun bd bj h=>?_;simp only[*,go_sem];refine bh hJ _ (ji 0 bj) (aJ ?_);try simp only[*,go_sem]
 refine af hJ (ah hJ ?_);simp only[*,go_sem];refine aO hJ ?_;revert h;refine bS fun bl e bm=>?_;refine bQ hJ [2,6,8,9,25,26,27,28,29,30,31,32,33,34,35,36,37,38,39,40,41,42,43,44,45,46,47,48,49,50,51,52,53,54,55,56,57,58,59] (fun m o F'=>∃(i80:Nat) (q:Addr->Option Value) (s:Int) (f:an),m=a.1.book.aG.length - i80/\i80<=a.1.book.aG.length/\bF (pX a) i80 (a.1.book.aG.drop i80) (s,f)=some bl/\F'=⟨q,(I,kn a.1 C D (sl d52 a.1.book.aG H) E G)::(z,rt f.num f.den)::(w,bk u0 s1 j k l)::[]⟩/\Ext S q/\slot o 25= .int .i64 (i80:Int)/\slot o 2= .int .i64 s) a.1.book.aG.length ?_ ?_
 ·refine ⟨0,S,(-1),bd,(Nat.sub_zero _).symm,Nat.zero_le _,e,rfl,Ext.refl _,?_⟩;simp only[*,go_sem]
 rintro e3 bo F' T ⟨i80,q,s,f,rfl,fa,e,rfl,K,br,bs⟩;refine fA hJ fun _ bz=>?_;replace b:=b.mono K;replace p:=p.mono K;simp only[bq] at bz;obtain ⟨U,V,W⟩:=T.pick [3,4,5,24] (by decide);simp only[*,go_sem] at U V W;clear T a2 hd a3;refine ah hJ ?_;simp only[*,go_sem];refine af hJ ?_;rcases Nat.lt_or_ge i80 a.1.book.aG.length with b0|X
 ·refine bK hJ (by simp only[*,go_sem]) ?_;refine aH hJ ?_;obtain ⟨b1,L⟩:∃x,a.1.book.aG[i80]?=some x:=⟨_,List.getElem?_eq_getElem b0⟩
  rw[dc L] at e;revert e;refine bS fun fb h b2=>?_;unfold pX at h;try dsimp only at h
  obtain ⟨b3,b4,b5,ca,t⟩:=b.y.el _ _ L;obtain rfl:b4=b1.cells:=ca;cases b5;have cb:=t 0 _ rfl;simp only[go_sem] at cb;have cd:=t 1 _ rfl;simp only[go_sem] at cd;have cf:=t 2 _ rfl;simp only[go_sem] at cf;clear t L;refine af hJ (aO hJ (af hJ ?_));refine aj hJ ?_;simp only[*,go_sem];refine ah hJ ?_;revert h;refine bS fun c cl h=>?_;simp only[*,go_sem];refine b9 hJ _ (sk a.1 b p (i80:Int) cl) fun v Y Z cy B=>?_;obtain ⟨fg,rfl,ab⟩:=B;replace b:=b.mono Z;simp only[bq] at cy;obtain ⟨d95,fi,rfl,fp,M,-⟩:=id ab;refine aJ ?_;try simp only[*,go_sem]
  refine aO hJ ?_;revert h;refine bS fun c0 g da=>?_;refine bQ hJ [2,8,9,32,33,34,35,36,37,38,39,40,41,42,43,44,45,46,47,48,49,50,51,52,53,54,55,56,57,58] (fun m o F'=>∃(i102:Nat) (i:Int) (d:an),m=c.length - i102/\i102<=c.length/\bF (mh a i80) i102 (c.drop i102) (i,d)=some c0/\F'=⟨Y,(I,kn a.1 C D (sl (some b3) a.1.book.aG H) E G)::(z,rt d.num d.den)::(w,bk u0 s1 j k l)::[]⟩/\slot o 32= .int .i64 (i102:Int)/\slot o 2= .int .i64 i) c.length ?_ ?_
  ·refine ⟨0,s,f,(Nat.sub_zero _).symm,Nat.zero_le _,g,rfl,?_⟩;simp only[*,go_sem]
  rintro fr db F' N ⟨i102,i,d,rfl,fs,g,rfl,ft,fu⟩;obtain ⟨dd,df,dk⟩:=N.pick [3,4,5,6,24,25,26,27,28,29,30,31] (by decide);simp only[*,go_sem] at dd df dk;have fv:cz [2,6,8,9,25,26,27,28,29,30,31,32,33,34,35,36,37,38,39,40,41,42,43,44,45,46,47,48,49,50,51,52,53,54,55,56,57,58,59] db bo:=(N.fG (by decide)).trans (by simp only[*,go_sem]);clear N U V W bs br;refine ah hJ ?_;simp only[*,go_sem];refine af hJ ?_;rcases Nat.lt_or_ge i102 c.length with dp|ad
  ·refine bK hJ (by simp only[*,go_sem]) ?_;refine aH hJ ?_;obtain ⟨ae,O⟩:∃x,c[i102]?=some x:=⟨_,List.getElem?_eq_getElem dp⟩
   rw[dc O] at g;revert g;refine bS fun fw h P=>?_;unfold mh at h;(try dsimp only at h);obtain ⟨fx,dq,ds,dt,al⟩:=ab.el _ _ O;obtain rfl:dq=[.int .i64 ae]:=dt;cases ds;have du:=al 0 _ rfl;simp only[go_sem] at du;clear al O;refine af hJ (aO hJ (af hJ ?_));refine aj hJ ?_;simp only[*,go_sem];refine ah hJ ?_;revert h;refine bS fun Q dv h=>?_;simp only[*,go_sem];refine bh hJ _ (lW a.1.book (b.mono aQ) (i80:Int) ae dv) (aJ ?_);(try simp only[*,go_sem]);refine az fun gg gl dC=>?_;try simp only[au] at dC
   (try simp only[*,go_sem]);refine af hJ ?_;refine cQ hJ mixed 12 4 (by simp only[*,go_sem]) (by kernel_rfl) ?_;revert h;refine bS fun gn dE h=>?_;simp only[*,go_sem];refine ⟨_,bC hJ fun F u=>l9 a.1.book (b.mono (b8 u)) Q dE,bY ?_⟩;revert h;refine cS (fun dT h=>?_) fun dT h=>?_
   ·revert h;refine bS fun ea eb h=>?_;(try simp only[*,go_sem]);refine ⟨_,bC hJ fun F u=>rK a.1.book (b.mono (b8 u)) Q eb,bY ?_⟩;revert h;refine bS fun gp ec h=>?_;(try simp only[*,go_sem]);refine ⟨_,bC hJ fun F u=>iP d ea ec,bY ?_⟩;(try simp only[*,go_sem]);revert h;refine jC hJ (by simp only[*,go_sem]) (fun ed h=>?_) fun ed h=>?_
    ·refine aj hJ ?_;revert h;refine bS fun eh et h=>?_;obtain rfl:=sI h;simp only[*,go_sem];refine bh hJ _ (rK a.1.book (b.mono aQ) Q et) (aJ ?_);(try simp only[*,go_sem]);have ao:=cp (n:=i102) (by have:=M;omega);refine aj hJ ?_;simp only[*,go_sem];refine ⟨c.length - (i102+1),by omega,_,Le.sub (List.Sublist.cons _ (List.Sublist.refl _)),i102+1,(i80:Int),eh,rfl,by omega,P,rfl,?_⟩;simp only[*,go_sem]
    obtain rfl:=sI h;refine aH hJ ?_;have ao:=cp (n:=i102) (by have:=M;omega);refine aj hJ ?_;simp only[*,go_sem];refine ⟨c.length - (i102+1),by omega,_,Le.sub (List.Sublist.cons _ (List.Sublist.refl _)),i102+1,i,d,rfl,by omega,P,rfl,?_⟩;simp only[*,go_sem]
   obtain rfl:=sI h;(try simp only[*,go_sem]);refine bG hJ (by simp only[*,go_sem]) ?_;refine aH hJ ?_;have ao:=cp (n:=i102) (by have:=M;omega);refine aj hJ ?_;simp only[*,go_sem];refine ⟨c.length - (i102+1),by omega,_,Le.sub (List.Sublist.cons _ (List.Sublist.refl _)),i102+1,i,d,rfl,by omega,P,rfl,?_⟩;simp only[*,go_sem]
  have gB:=Nat.not_lt.2 ad;refine bG hJ (by simp only[*,go_sem]) ?_;rw[List.drop_eq_nil_of_le ad] at g;obtain rfl:=sI g;clear g;have h:=da;dsimp only[aB] at h;obtain rfl:=sI h;refine bN ?_;simp only[go_sem];have gC:=cp (n:=i80) (by have:=ba;omega);refine aj hJ ?_;simp only[*,go_sem];refine ⟨a.1.book.aG.length - (i80+1),by omega,_,Le.sub (List.Sublist.refl _),i80+1,Y,i,d,rfl,by omega,b2,rfl,(K.trans Z),?_⟩;simp only[*,go_sem]
 have gM:=Nat.not_lt.2 X;refine bG hJ (by simp only[*,go_sem]) ?_;rw[List.drop_eq_nil_of_le X] at e;obtain rfl:=sI e;clear e;have h:=bm;dsimp only[aB] at h;obtain rfl:=sI h;refine bN ?_;simp only[go_sem];refine af hJ ?_;refine eG hJ mixed [3,4] (.pure 0 (.rd 1 (.pure 2 (.last 3 (.pure 4 .done))))) ⟨q,[(I,kn a.1 C D (sl d52 a.1.book.aG H) E G),(z,rt f.num f.den),(w,bk u0 s1 j k l)]⟩ (by simp only[*,go_sem]) (by kernel_rfl) ?_;simp only[*,go_sem];refine av ?_;simp only[*,go_sem]
def wF (b:Int)(a:(cK×Int))(i103:Nat)(c:Int)(st:(List an)):Option (Fl (List an) (an×an×Int)):=
 ag (gO a.1.book b c) fun d=>ag (rJ a.1.book d) fun e=>ag (c9 st ([e])) fun f=>some (.nx f)
def wH (u0:ak)(b:Int):Option (an×an×Int):=
 ag (gu u0 ([(eJ b)])) fun a=>cond ((a.2 != 0)) (some ((⟨0,0⟩:an),(⟨0,0⟩:an),a.2)) (ag (kS a.1 b) fun f=>ag (bF (wF b a) 0 f ([]:List an)) fun o=>aB o (fun c=>ag (bn c 0) fun d=>ag (jL c 1 (c.length:Int)) fun e=>ag (hH rA d e) fun g=>ag (hH eC d e) fun h=>some (g,h,0)) (fun _ _=>none) (fun r=>some r))
theorem GB {ro:Addr->Option Value}(S:c8 ro)(u0:ak){s1 f g i:Value}(P:bL ro u0 s1 f g i)(a:Int){r:(an×an×Int)}(h:wH u0 a=some r):aC Tryz.prog 21 #[bv u0 s1 f g i,.int .i64 a] ⟨ro,[]⟩ (fun v _=>v= .tuple #[r.1.v,r.2.1.v,.int .i64 r.2.2]):=by
 unfold wH at h;have b3:=P.oc;simp only[bE] at b3;refine aC.go Tryz.func21 rfl Tryz.ntmps21 Tryz.results21 (by simp) fun main J hJ A b4 hd hs=>?_;have b5:=hs 0;have k1:=hs 1;clear hs;refine ah hJ ?_;simp only[*,go_sem];refine az fun j G ca=>?_;try simp only[au] at ca
 refine az fun t H cb=>?_;try simp only[au] at cb
 refine az fun u I cd=>?_;try simp only[au] at cd
 try simp only[*,go_sem]
 refine af hJ ?_;refine ay hJ fun cf=>?_;refine aj hJ ?_;revert h;refine bS fun d cl h=>?_;simp only[*,go_sem];refine az fun K al ao=>?_;have ar:=aP.cons ao cf;try simp only[au] at ao
 try simp only[*,go_sem]
 obtain ⟨T,L,a0⟩:=fK (b:=K) (o:=(.cells #[.func (.func 68) #[.int .i64 a] #[]] 127)) [] ((u,rt 0 0)::(t,rt 0 0)::(j,bk u0 s1 f g i)::[]) ar al (aF.cons I (aF.cons H (aF.cons G (aF.nil _))));have a2:aA (cY) (bP ro K (.cells #[.func (.func 68) #[.int .i64 a] #[]] 127)) (.slice (some ⟨K,0,none⟩) 1 1) [(eJ a)]:=(aA.one (r:=(cY)) (e:=127) (cs:=#[.func (.func 68) #[.int .i64 a] #[]]) (x:=(eJ a)) (own:=[(K,.cells #[.func (.func 68) #[.int .i64 a] #[]] 127)]) al (by simp[lk]) ⟨68,#[.int .i64 a],#[],rfl,⟨by simp only[go_sem],fun a3 a4 M _ _ _ _ _ cy cS c0 da h=>by simp only[go_sem];exact ru a M ⟨cy,cS,c0,da⟩ h⟩⟩)
 generalize bP ro K (.cells #[.func (.func 68) #[.int .i64 a] #[]] 127)=g1 at a2 L T a0;refine gJ hJ a0 ?_;replace P:=P.mono T;replace I:=L.hd;replace H:=L.tl.hd;replace G:=L.tl.tl.hd;replace S:=S.mono T;simp only[bq] at L;have db:=aP.tl ar;refine b9 hJ _ (jq S u0 P ([(eJ a)]) a2 cl) fun v g2 g3 Q U=>?_;obtain ⟨w,y,z,B,C,rfl,D,a5⟩:=U;have dd:=D.oc;simp only[bE] at dd;have df:=a5.oc;simp only[bE] at df;replace I:=Q.hd;replace H:=Q.tl.hd;replace G:=Q.tl.tl.hd;simp only[bq] at Q;refine aJ ?_;try simp only[*,go_sem]
 refine az fun E a6 a7=>?_;have g4:=aP.cons a7 db;try simp only[au] at a7
 try simp only[*,go_sem]
 refine af hJ (ah hJ ?_);simp only[*,go_sem];revert h;refine jC hJ (by simp only[*,go_sem]) (fun dk h=>?_) fun dk h=>?_
 ·obtain rfl:=sI h;refine ah hJ ?_;simp only[*,go_sem];refine av ?_;simp only[*,go_sem]
 refine aH hJ (af hJ ?_);refine aj hJ ?_;simp only[*,go_sem];refine af hJ (ah hJ ?_);revert h;refine bS fun k dp h=>?_;simp only[*,go_sem];refine b9 hJ _ (sk d.1 D a5 a dp) fun v R dq N U=>?_;obtain ⟨ha,rfl,a8⟩:=U;replace D:=D.mono dq;replace a6:=N.hd;replace I:=N.tl.hd;replace H:=N.tl.tl.hd;replace G:=N.tl.tl.tl.hd;simp only[bq] at N;obtain ⟨d91,hc,rfl,hf,ds,-⟩:=id a8;refine aJ ?_;try simp only[*,go_sem]
 refine aO hJ ?_;revert h;refine bS fun dt p du=>?_;refine bQ hJ [8,10,29,30,31,32,33,34,35,36,37,38,39,40,41,42,43,44] (fun m a9 F'=>∃(i103:Nat) (d97:Option Addr) (O:Nat) (V:List (Nat×Obj)) (c:(List an)),m=k.length - i103/\i103<=k.length/\bF (wF a d) i103 (k.drop i103) c=some dt/\F'=⟨R,(E,kn d.1 w y z B C)::(u,rt 0 0)::(t,rt 0 0)::(j,bk u0 s1 f g i)::V⟩/\aN kN R 23 (.slice d97 c.length O) c V/\c.length<=O/\slot a9 29= .int .i64 (i103:Int)/\slot a9 8= .slice d97 c.length O) k.length ?_ ?_
 ·refine ⟨0,none,0,[],([]:List an),(Nat.sub_zero _).symm,Nat.zero_le _,p,rfl,aN.nil _ _ _,Nat.le_refl _,?_⟩;simp only[*,go_sem]
 rintro hg hh F' ba ⟨i103,d97,O,V,c,rfl,hi,p,rfl,bb,hj,hk,hl⟩;obtain ⟨dv,dC,dE⟩:=ba.pick [1,4,5,6,7,27,28] (by decide);simp only[*,go_sem] at dv dC dE;clear ba b4 hd b5 k1;refine ah hJ ?_;simp only[*,go_sem];refine af hJ ?_;rcases Nat.lt_or_ge i103 k.length with dT|bc
 ·refine bK hJ (by simp only[*,go_sem]) ?_;refine aH hJ ?_;obtain ⟨bd,W⟩:∃x,k[i103]?=some x:=⟨_,List.getElem?_eq_getElem dT⟩
  rw[dc W] at p;revert p;refine bS fun hn h ea=>?_;unfold wF at h;try dsimp only at h
  obtain ⟨ho,eb,ec,ed,bj⟩:=a8.el _ _ W;obtain rfl:eb=[.int .i64 bd]:=ed;cases ec;have eh:=bj 0 _ rfl;simp only[go_sem] at eh;clear bj W;refine af hJ (aO hJ (af hJ ?_));refine ay hJ fun hp=>?_;refine aj hJ ?_;simp only[*,go_sem];refine ay hJ fun et=>?_;refine e6 hJ mixed 9 ⟨R,[(E,kn d.1 w y z B C),(u,rt 0 0),(t,rt 0 0),(j,bk u0 s1 f g i)]⟩ (by simp only[*,go_sem]) (by kernel_rfl) ?_;revert h;refine bS fun ev eQ h=>?_;simp only[*,go_sem];refine ⟨_,bC hJ fun F q=>lW d.1.book (D.mono (b8 q)) a bd eQ,bY ?_⟩;revert h;refine bS fun s eS h=>?_;try simp only[*,go_sem]
  refine ⟨_,bC hJ fun F q=>Ai d.1.book (D.mono (b8 q)) ev eS,?_⟩;revert h;refine bS fun e0 e1 h=>?_;obtain rfl:=sI h;obtain ⟨e3,bl⟩:=dw e1;try simp only[*,go_sem]
  refine az fun bm fa bo=>?_;have fb:=aP.cons bo et;try simp only[au] at bo
  try simp only[*,go_sem]
  refine dY (r:=kN) (l:=c) (x:=s) (cs:=#[.int .i64 s.num,.int .i64 s.den]) (e2:=23) [(bm,rt s.num s.den),(E,kn d.1 w y z B C),(u,rt 0 0),(t,rt 0 0),(j,bk u0 s1 f g i)] [] bb fb e3 rfl (by simp only[*,go_sem]) fa rfl rfl zA zA Ee zx rfl Ef (by decide) (by decide) (fun hq br X fg fi hr=>?_);simp only[aT] at fi;subst fg;rw[<-bl] at X;clear bl;obtain ⟨d125,fp,rfl,fr⟩:=X.len;refine ⟨⟨R,(bm,rt s.num s.den)::(E,kn d.1 w y z B C)::(u,rt 0 0)::(t,rt 0 0)::(j,bk u0 s1 f g i)::br⟩,Le.refl _,?_⟩;refine ⟨by simp only[*,go_sem],eU ?_⟩;try simp only[*,go_sem]
  have ht:=cp (n:=i103) (by have:=ds;omega);refine aj hJ ?_;simp only[*,go_sem];refine ⟨k.length - (i103+1),by omega,_,Le.sub (List.Sublist.cons _ (List.Sublist.refl _)),i103+1,d125,fp,br,e0,rfl,by omega,ea,rfl,X,fr,?_⟩;simp only[*,go_sem]
 have hv:=Nat.not_lt.2 bc;refine bG hJ (by simp only[*,go_sem]) ?_;rw[List.drop_eq_nil_of_le bc] at p;obtain rfl:=sI p;clear p;have h:=du;dsimp only[aB] at h;refine bN ?_;simp only[go_sem];refine af hJ ?_;refine ay hJ fun hx=>?_;refine aj hJ ?_;simp only[*,go_sem];refine af hJ ?_;refine ay hJ fun bs=>?_;obtain ⟨fs,hy,ft,Y,fu⟩:=bb.eW [(E,kn d.1 w y z B C),(u,rt 0 0),(t,rt 0 0),(j,bk u0 s1 f g i)] [] bs (aF.cons a6 (aF.cons I (aF.cons H (aF.cons G (aF.nil _)))));clear bs;refine cB hJ fu ?_;obtain ⟨hz,hA,-⟩:=Y.op;simp only[bq] at ft;refine e6 hJ mixed 13 ⟨fs,[(E,kn d.1 w y z B C),(j,bk u0 s1 f g i)]⟩ (by simp only[*,go_sem]) (by kernel_rfl) ?_;revert h;refine bS fun Z fv h=>?_;obtain ⟨hB,hD,bz⟩:=cW fv;obtain ⟨hE,fw,fx,gg,ab⟩:=Y.el _ _ bz;obtain rfl:fw=Z.cells:=gg;cases fx;have gl:=ab 0 _ rfl;simp only[go_sem] at gl;have gn:=ab 1 _ rfl;simp only[go_sem] at gn;clear ab bz;revert h;refine bS fun b0 gp h=>?_;obtain ⟨hF,hG,hI,b1⟩:=oU gp;have b2:(1:Int).toNat<=((c.length:Int)).toNat:=by omega
 have gB:((c.length:Int)).toNat<=O:=by omega
 have hK:0<=((c.length:Int)):=by omega
 obtain ⟨d143,gC,gM,ad⟩:=aA.oX Y (1:Int).toNat ((c.length:Int)).toNat b2 (by omega) b1;simp only[go_sem] at gC gM b2 gB;obtain ⟨_,_,gT,hL,hM,hN⟩:=id ad;cases gT;clear b1;revert h;refine bS fun hP gV h=>?_;try simp only[*,go_sem]
 refine ⟨_,bC hJ fun F q=>ng (dM:=75) (dZ:=#[]) (ee:=#[]) rA ⟨by simp only[go_sem],fun a3 a4 M ae _ h=>by simp only[go_sem];exact FA M ae h⟩ Z b0 (ad.mono (b8 q)) gV,bY ?_⟩;revert h;refine bS fun hQ g0 h=>?_;obtain rfl:=sI h;try simp only[*,go_sem]
 refine ⟨_,bC hJ fun F q=>ng (dM:=76) (dZ:=#[]) (ee:=#[]) eC ⟨by simp only[go_sem],fun a3 a4 M ae _ h=>by simp only[go_sem];exact iP M ae h⟩ Z b0 (ad.mono (b8 q)) g0,?_⟩;try simp only[*,go_sem]
 refine av ?_;simp only[*,go_sem]
def nG (s:List aU)(y:aU):Bool:=s.any fun z=>z.e0==y.e0&&(z.e1==y.e1&&z.e2==y.e2)
def AA (y:aU)(s:List aU):Option (Fl (List aU) Unit):=some (.nx (cond (nG s y) s (s++[y])))
theorem AB {x y:aU}(h:x.v=y.v):x=y:=by
 obtain ⟨a,b,c⟩:=x;obtain ⟨d,e,f⟩:=y;simp only[aU.v,Value.agg.injEq,Array.mk.injEq,List.cons.injEq,Value.int.injEq,true_and,and_true] at h;obtain ⟨rfl,rfl,rfl⟩:=h;rfl
theorem AD {s:List aU}{y:aU}:nG s y=true↔y.v∈s.map aU.v:=by
 unfold nG;simp only[List.any_eq_true,Bool.and_eq_true,beq_iff_eq,List.mem_map];constructor
 ·rintro ⟨z,d,e,f,g⟩;refine ⟨z,d,?_⟩;obtain ⟨a,b,c⟩:=z;obtain ⟨i,j,k⟩:=y;simp only at e f g;subst e f g;rfl
 ·rintro ⟨z,d,h⟩;obtain rfl:=AB h;exact ⟨z,d,rfl,rfl,rfl⟩
theorem GC (x y:aU)(F:aa):∃b,(∀(Q:Bool->aa->Prop),Q b F->aS Tryz.prog (Op.equal 121 x.v y.v) Q F)/\(b=true↔y.v=x.v):=by
 have a:mZ Tryz.prog 121=some [true,true,true]:=by kernel_rfl
 have he:lH Tryz.prog 121 x.v y.v=some (x.e0==y.e0&&(x.e1==y.e1&&(x.e2==y.e2&&true))):=by
  simp only[lH,aU.v,a,iH,gj,Bool.and_self,if_true]
 refine ⟨_,fun Q h=>(tZ he h).1,?_⟩;simp only[Bool.and_eq_true,beq_iff_eq,and_true];constructor
 ·rintro ⟨c,d,e⟩;simp only[aU.v,c,d,e]
 ·intro h;obtain rfl:=AB h;exact ⟨rfl,rfl,rfl⟩
theorem GD (x:aU)(F:aa)(Q:Unit->aa->Prop)(h:Q () F):aS Tryz.prog (Instr.checkKey false 10000 121 x.v) Q F:=by
 have c:Tryz.prog.underlying 121=some (.array 3 3):=by kernel_rfl
 have d:Tryz.prog.underlying 3=some (.int .i64):=by kernel_rfl
 have f:bW Tryz.prog 3=some 1:=by kernel_rfl
 have g:cw Tryz.prog 3=some false:=by kernel_rfl
 have e:(10000:Nat)=9998+1+1:=rfl;rw[e];unfold Instr.checkKey;simp only[bp,dr,c,aU.v];simp only[Std.Legacy.Range.forIn_eq_forIn_range',Std.Legacy.Range.size,Nat.sub_zero,Nat.add_one_sub_one,Nat.div_one,List.range',List.forIn_cons,List.forIn_nil,bp,eE,f,part,lE,g,bD,Bool.false_eq_true,if_false,di];have b:∀(k:IntKind) (a:Int) (Q:Unit->aa->Prop) (G:aa),Q () G->aS Tryz.prog (Instr.checkKey false 9999 3 (.int k a)) Q G:=by
  intro k a Q G i;show aS Tryz.prog (Instr.checkKey false (9998+1) 3 (.int k a)) Q G;unfold Instr.checkKey;simp only[bp,dr,d,bD];exact i
 exact b .i64 x.e0 _ _ (b .i64 x.e1 _ _ (b .i64 x.e2 _ _ h))
def wI (u0:ak):Option (Int×Int):=
 ag (e7 u0 ([]:(List (ak->Option Int)))) fun a=>cond ((a.2 != 0)) (some (0,a.2)) (ag (iN AA (mc a.1) ([]:List aU)) fun o=>aB o (fun st=>some ((st.length:Int),0)) (fun _ _=>none) (fun _=>none))
theorem GF {ro:Addr->Option Value}(M:c8 ro)(u0:ak){s1 w x B:Value}(E:bL ro u0 s1 w x B){r:(Int×Int)}(h:wI u0=some r):aC Tryz.prog 14 #[bv u0 s1 w x B] ⟨ro,[]⟩ (fun v _=>v= .tuple #[.int .i64 r.1,.int .i64 r.2]):=by
 unfold wI at h;have N:=E.oc;simp only[bE] at N;refine aC.uX Tryz.func14 rfl Tryz.ntmps14 Tryz.results14 (by simp) fun main J hJ A F hd hs=>?_;have O:=hs 0;clear hs;refine ah hJ ?_;simp only[*,go_sem];refine az fun P bd R=>?_;try simp only[au] at R
 try simp only[*,go_sem]
 refine ah hJ ?_;revert h;refine bS fun G S h=>?_;simp only[*,go_sem];refine b9 hJ _ (jY M u0 E ([]:(List (ak->Option Int))) (aA.nil _ _) S) fun v H bj T U=>?_;obtain ⟨V,W,X,Y,rfl,l⟩:=U;have Z:=l.oc;simp only[bE] at Z;simp only[bq] at T;refine aJ ?_;try simp only[*,go_sem]
 refine az fun ab bm ad=>?_;try simp only[au] at ad
 try simp only[*,go_sem]
 refine af hJ (ah hJ ?_);simp only[*,go_sem];revert h;refine jC hJ (by simp only[*,go_sem]) (fun ae h=>?_) fun ae h=>?_
 ·obtain rfl:=sI h;refine ah hJ ?_;simp only[*,go_sem];refine ay hJ fun C=>?_;replace C:=C.nd;try simp only[keys,List.map_cons,List.map_nil,List.map_append,List.cons_append,List.nil_append,List.nodup_cons,List.mem_cons,List.mem_append,List.not_mem_nil,or_false,not_or] at C
  refine av ?_;simp only[*,go_sem]
 refine aH hJ ?_;revert h;refine bS fun o j h=>?_;repeat refine af hJ ?_
 refine aj hJ ?_;simp only[*,go_sem,-j];refine E2 fun k f70=>?_;have bo:=eA f70;have al:=fq f70;try simp only[au] at al
 refine aJ ?_;simp only[*,go_sem,-j];refine az fun q br ao=>?_;try simp only[au] at ao
 try simp only[*,go_sem,-j]
 repeat refine af hJ ?_
 refine aj hJ ?_;simp only[*,go_sem,-j];refine uW hJ aU.v (by simp only[*,go_sem]) (rQ G.1 l.e l.p l.y l.t) (by kernel_rfl) (by kernel_rfl) (ρ:=Unit) (fun (s:List aU) ar=>∃(es:Array MapEntry) (b:Nat),ar=(q,.cells #[.map (some k)] 118)::(k,.map es b)::(ab,bl G.1 V W X Y)::(P,bk u0 s1 w x B)::[]/\es.toList.map (·.key)=s.map aU.v) (f:=AA) j ?_ ?_ (by decide) ?_ ?_
 ·exact ⟨#[],0,rfl,rfl⟩
 ·rintro d4 a0 D a2 c d bs I main J hJ _ ⟨es,b,rfl,g⟩;obtain rfl:=Option.some.inj I;clear I;generalize m:lV _ _ _=u;have bz:sz u=24:=by rw[<-m,uV];simp only[*,go_sem]
  have b0:u.defers=[]:=by rw[<-m];rfl
  have b1:slot u 6= .pointer (some ⟨q,0,none⟩):=by rw[<-m,m8];simp only[*,go_sem]
  have b2:slot u 19=d.v:=by rw[<-m,m8];simp only[*,go_sem]
  clear m F hd O;refine fA hJ fun i a=>?_;replace a:aF H ((a0,.loop D)::(d4,.deferred (some []))::(q,.cells #[.map (some k)] 118)::(k,.map es b)::_):=a;have b3:=a.hd;have b4:=a.tl.hd;have a3:=a.tl.tl.hd;have a4:=a.tl.tl.tl.hd;clear a;replace i:=i.nd;simp only[keys,List.map_cons,List.map_nil,List.map_append,List.cons_append,List.nil_append,List.nodup_cons,List.mem_cons,List.mem_append,List.not_mem_nil,or_false,not_or] at i;refine aj hJ ?_;simp only[*,go_sem,aU.v];refine az fun b5 ca a5=>?_;try simp only[au] at a5
  try simp only[*,go_sem,aU.v]
  simp only[o8,go_sem];refine ⟨D,by simp only[*,go_sem],a2,?_⟩;try simp only[*,go_sem,aU.v]
  refine aO hJ (aj hJ ?_);simp only[*,go_sem,aU.v];refine E4 (es:=es) (clock:=b) (by kernel_rfl:Tryz.prog.underlying 118=some (.map 121 4)) (by simp only[*,go_sem]) (fun Q h=>GD d _ Q h) (by kernel_rfl:Tryz.prog.underlying 121=some (.array 3 3)) (fun e he=>?_) fun K a6 a7=>?_
  ·have:e.key∈es.toList.map (·.key):=List.mem_map_of_mem he;rw[g] at this;obtain ⟨z,F,a8⟩:=List.mem_map.1 this;rw[<-a8];exact GC d z _
  ·simp only[q7,lS,go_sem, *];refine ⟨{D with state:=.busy},rfl,?_⟩;simp only[*,go_sem];refine ⟨_,Le.sub (List.Sublist.cons _ (List.Sublist.refl _)),rfl,K,a6,rfl,?_⟩;have a9:K.toList.map (·.key)=(cond (nG c d) c (c++[d])).map aU.v:=by
    rcases a7 with ⟨hm,he⟩|⟨hm,he⟩
    ·have:nG c d=true:=by rw[AD,<-g];exact hm
     rw[this,he,g];rfl
    ·have:nG c d=false:=by
      rw[Bool.eq_false_iff];intro L;rw[AD,<-g] at L;exact hm L
     rw[this,he,g];simp only[cond_false,List.map_append,List.map_cons,List.map_nil];rfl
   exact a9
 ·rintro d49 ba bb _ c ⟨es,b,rfl,g⟩ i a;refine ⟨fun n=>?_,fun k1 n=>?_⟩
  ·subst n;dsimp only[aB] at h;obtain rfl:=sI h;clear j;replace a:aF H ((ba,.loop bb)::(d49,.deferred (some []))::(q,.cells #[.map (some k)] 118)::(k,.map es b)::_):=a;have a3:=a.tl.tl.hd;have a4:=a.tl.tl.tl.hd;clear a;replace i:=i.nd;simp only[keys,List.map_cons,List.map_nil,List.map_append,List.cons_append,List.nil_append,List.nodup_cons,List.mem_cons,List.mem_append,List.not_mem_nil,or_false,not_or] at i;repeat refine af hJ ?_
   refine aj hJ ?_;simp only[*,go_sem];have bc:es.size=c.length:=by simpa using congrArg List.length g
   refine E3 (es:=es) (clock:=b) rfl (by kernel_rfl:Tryz.prog.underlying 118=some (.map 121 4)) (by simp only[*,go_sem]) ?_;rw[bc];refine av ?_;simp only[*,go_sem]
  ·subst n;dsimp only[aB] at h;cases h
 ·intro k1 cb n;subst n;dsimp only[aB] at h;cases h
def ew (u0:Int)(a:Int)(b:Int):Option Bool:=
 cond (decide (a<=u0)) (some (decide (u0<=b))) (some false)
theorem gP {ro:Addr->Option Value}(u0:Int)(a:Int)(b:Int){r:Bool}(h:ew u0 a b=some r):aC Tryz.prog 16 #[.int .i64 u0,.int .i64 a,.int .i64 b] ⟨ro,[]⟩ (fun v _=>v= .bool r):=by
 unfold ew at h;refine aC.go Tryz.func16 rfl Tryz.ntmps16 Tryz.results16 (by simp) fun main J hJ A d hd hs=>?_;have e:=hs 0;have k1:=hs 1;have f:=hs 2;clear hs;refine ah hJ ?_;simp only[*,go_sem];refine ah hJ ?_;revert h;refine cS (fun c h=>?_) fun c h=>?_
 ·obtain rfl:=sI h;try simp only[*,go_sem]
  refine av ?_;simp only[*,go_sem]
 obtain rfl:=sI h;try simp only[*,go_sem]
 refine av ?_;simp only[*,go_sem]
def mj (u0:ak)(a:Int):Option Bool:=
 ag (bn u0.aD 0) fun b=>ag (bn u0.aD (IntKind.i64.wrap ((u0.aD.length:Int) - 1))) fun c=>ag (ew a b.aL c.aL) fun d=>some d
theorem GG {ro:Addr->Option Value}(u0:ak){s1 f g i:Value}(a:bL ro u0 s1 f g i)(b:Int){r:Bool}(h:mj u0 b=some r):aC Tryz.prog 128 #[bv u0 s1 f g i,.int .i64 b] ⟨ro,[]⟩ (fun v _=>v= .bool r):=by
 obtain ⟨d3,c4,rfl,E,G,-⟩:=id a.e;unfold mj at h;refine aC.go Tryz.func128 rfl Tryz.ntmps128 Tryz.results128 (by simp) fun main J hJ A H hd hs=>?_;have I:=hs 0;have k1:=hs 1;clear hs;refine ah hJ ?_;simp only[*,go_sem];refine az fun K L n=>?_;try simp only[au] at n
 try simp only[*,go_sem]
 refine af hJ ?_;refine cQ hJ mixed 17 1 (by simp only[*,go_sem]) (by kernel_rfl) ?_;revert h;refine bS fun j o h=>?_;obtain ⟨M,N,k⟩:=cW o;obtain ⟨O,p,q,s,c⟩:=a.e.el _ _ k;obtain rfl:p=j.cells:=s;cases q;have t:=c 0 _ rfl;simp only[go_sem] at t;have u:=c 1 _ rfl;simp only[go_sem] at u;clear c k;revert h;refine bS fun l w h=>?_;obtain ⟨P,Q,m⟩:=cW w;obtain ⟨R,x,y,z,d⟩:=a.e.el _ _ m;obtain rfl:x=l.cells:=z;cases y;have B:=d 0 _ rfl;simp only[go_sem] at B;have C:=d 1 _ rfl;simp only[go_sem] at C;clear d m;revert h;refine bS fun S D h=>?_;obtain rfl:=sI h;try simp only[*,go_sem]
 refine ⟨_,bC hJ fun F T=>gP b j.aL l.aL D,bY ?_⟩;try simp only[*,go_sem]
 refine av ?_;simp only[*,go_sem]
def nJ (u0:ak)(a:Int):Option Bool:=
 ag (ew a 0 (IntKind.i64.wrap ((u0.aG.length:Int) - 1))) fun b=>some b
theorem GH {ro:Addr->Option Value}(u0:ak){s1 c d f:Value}(a:bL ro u0 s1 c d f)(b:Int){r:Bool}(h:nJ u0 b=some r):aC Tryz.prog 130 #[bv u0 s1 c d f,.int .i64 b] ⟨ro,[]⟩ (fun v _=>v= .bool r):=by
 obtain ⟨d3,c4,rfl,j,k,-⟩:=id a.e;obtain ⟨d10,l,rfl,m,n,-⟩:=id a.p;obtain ⟨d17,o,rfl,q,s,-⟩:=id a.y;obtain ⟨d24,u,rfl,w,x,-⟩:=id a.t;unfold nJ at h;refine aC.go Tryz.func130 rfl Tryz.ntmps130 Tryz.results130 (by simp) fun main J hJ A z hd hs=>?_;have B:=hs 0;have k1:=hs 1;clear hs;refine ah hJ ?_;simp only[*,go_sem];refine az fun C D g=>?_;try simp only[au] at g
 try simp only[*,go_sem]
 refine ah hJ ?_;revert h;refine bS fun E i h=>?_;obtain rfl:=sI h;simp only[*,go_sem];refine bh hJ _ (gP b 0 (IntKind.i64.wrap ((u0.aG.length:Int) - 1)) i) (aJ ?_);try simp only[*,go_sem]
 refine av ?_;simp only[*,go_sem]
def gv (u0:an)(a:an):Option Bool:=
 some (decide ((IntKind.i64.wrap (u0.num*a.den))<(IntKind.i64.wrap (a.num*u0.den))))
theorem AE {ro:Addr->Option Value}(u0:an)(a:an){r:Bool}(h:gv u0 a=some r):aC Tryz.prog 29 #[.agg #[.int .i64 u0.num,.int .i64 u0.den],.agg #[.int .i64 a.num,.int .i64 a.den]] ⟨ro,[]⟩ (fun v _=>v= .bool r):=by
 unfold gv at h;obtain rfl:=sI h;refine aC.go Tryz.func29 rfl Tryz.ntmps29 Tryz.results29 (by simp) fun main J hJ A b hd hs=>?_;have c:=hs 0;have k1:=hs 1;clear hs;refine ah hJ ?_;simp only[*,go_sem];refine az fun d r1 n1=>?_;try simp only[au] at n1
 refine az fun b2 r2 n2=>?_;try simp only[au] at n2
 try simp only[*,go_sem]
 refine ah hJ ?_;simp only[*,go_sem];refine av ?_;simp only[*,go_sem]
def wJ (st:(Int×Int)):Option (Fl (Int×Int) an):=
 cond (decide (0<st.2)) (ag (lP st.1 st.2) fun a=>some (.nx (st.2,a))) (some (.bk (st.1,st.2)))
def nL (st:(Int×Int)):Option (Fl (Int×Int) an):=
 cond (decide (0<st.2)) (ag (lP st.1 st.2) fun a=>some (.nx (st.2,a))) (some (.bk (st.1,st.2)))
def gw (u0:Int)(a:Int):Option an:=
 cond (decide (a<0)) (ag (aY (wJ) fu ((if IntKind.i64.wrap (0 - u0)<IntKind.i64.wrap (0 - (IntKind.i64.wrap (0 - u0))) then IntKind.i64.wrap (0 - (IntKind.i64.wrap (0 - u0))) else IntKind.i64.wrap (0 - u0)),(IntKind.i64.wrap (0 - a)))) fun o=>aB o (fun b=>ag (fy (IntKind.i64.wrap (0 - u0)) b.1) fun d=>ag (fy (IntKind.i64.wrap (0 - a)) b.1) fun e=>some (⟨d,e⟩:an)) (fun _ _=>none) (fun r=>some r)) (ag (aY (nL) fu ((if u0<IntKind.i64.wrap (0 - u0) then IntKind.i64.wrap (0 - u0) else u0),a)) fun o=>aB o (fun c=>ag (fy u0 c.1) fun f=>ag (fy a c.1) fun g=>some (⟨f,g⟩:an)) (fun _ _=>none) (fun r=>some r))
theorem AF {ro:Addr->Option Value}(u0:Int)(b:Int){r:an}(h:gw u0 b=some r):aC Tryz.prog 35 #[.int .i64 u0,.int .i64 b] ⟨ro,[]⟩ (fun v _=>v=r.v):=by
 unfold gw at h;refine aC.go Tryz.func35 rfl Tryz.ntmps35 Tryz.results35 (by simp) fun main J hJ A n hd hs=>?_;have o:=hs 0;have k1:=hs 1;clear hs;refine ah hJ ?_;simp only[*,go_sem];refine az fun p r1 n1=>?_;try simp only[au] at n1
 try simp only[*,go_sem]
 refine af hJ (ah hJ ?_);simp only[*,go_sem];revert h;refine jC hJ (by simp only[*,go_sem]) (fun B h=>?_) fun B h=>?_
 ·refine aj hJ ?_;simp only[*,go_sem];refine ah hJ ?_;simp only[*,go_sem];refine af hJ (aO hJ ?_);revert h;refine bS fun C c D=>?_;refine bQ hJ [5,6,18,19,20,21,22,23] (fun m a F'=>∃(f:Int) (v4:Int),aY (wJ) m (f,v4)=some C/\F'=⟨ro,(p,rt 0 0)::[]⟩/\slot a 5= .int .i64 f/\slot a 6= .int .i64 v4) fu ?_ ?_
  ·refine ⟨(if IntKind.i64.wrap (0 - u0)<IntKind.i64.wrap (0 - (IntKind.i64.wrap (0 - u0))) then IntKind.i64.wrap (0 - (IntKind.i64.wrap (0 - u0))) else IntKind.i64.wrap (0 - u0)),(IntKind.i64.wrap (0 - b)),c,rfl,?_⟩;simp only[*,go_sem]
  rintro g R F' q ⟨f,v4,c,rfl,S,T⟩;obtain ⟨E,F,G⟩:=q.pick [0,1,4] (by decide);simp only[*,go_sem] at E F G;clear q n hd o k1;obtain _|g:=g
  ·exact absurd c (by simp only[aY,reduceCtorEq,not_false_eq_true])
  revert c;refine bS fun U h i=>?_;unfold wJ at h;try dsimp only at h
  refine af hJ (ah hJ ?_);simp only[*,go_sem];revert h;refine jC hJ (by simp only[*,go_sem]) (fun H h=>?_) fun H h=>?_
  ·refine aH hJ (aO hJ ?_);refine cQ hJ mixed 6 1 (by simp only[*,go_sem]) (by kernel_rfl) ?_;revert h;refine bS fun I s h=>?_;obtain rfl:=sI h;obtain ⟨V,W⟩:=uB s;clear s;(try simp only[*,go_sem]);refine ⟨g,Nat.lt_succ_self _,_,Le.sub (List.Sublist.refl _),v4,I,i,rfl,?_⟩;simp only[*,go_sem]
  obtain rfl:=sI h;refine bN ?_;simp only[go_sem];obtain rfl:=sI i;clear i;have h:=D;dsimp only[aB] at h;refine af hJ ?_;refine cQ hJ mixed 7 0 (by simp only[*,go_sem]) (by kernel_rfl) ?_;revert h;refine bS fun X t h=>?_;obtain ⟨Y,Z⟩:=jM t;clear t;revert h;refine bS fun ab u h=>?_;obtain rfl:=sI h;obtain ⟨ad,ae⟩:=jM u;clear u;try simp only[*,go_sem]
  refine av ?_;simp only[*,go_sem]
 refine aH hJ (af hJ ?_);refine aj hJ ?_;simp only[*,go_sem];refine af hJ (aO hJ ?_);revert h;refine bS fun K d L=>?_;refine bQ hJ [5,6,18,19,20,21,22,23] (fun m a F'=>∃(j:Int) (e:Int),aY (nL) m (j,e)=some K/\F'=⟨ro,(p,rt 0 0)::[]⟩/\slot a 5= .int .i64 j/\slot a 6= .int .i64 e) fu ?_ ?_
 ·refine ⟨(if u0<IntKind.i64.wrap (0 - u0) then IntKind.i64.wrap (0 - u0) else u0),b,d,rfl,?_⟩;simp only[*,go_sem]
 rintro k al F' w ⟨j,e,d,rfl,ao,ar⟩;obtain ⟨M,N,O⟩:=w.pick [0,1,4] (by decide);simp only[*,go_sem] at M N O;clear w n hd o k1;obtain _|k:=k
 ·exact absurd d (by simp only[aY,reduceCtorEq,not_false_eq_true])
 revert d;refine bS fun a0 h l=>?_;unfold nL at h;try dsimp only at h
 refine af hJ (ah hJ ?_);simp only[*,go_sem];revert h;refine jC hJ (by simp only[*,go_sem]) (fun P h=>?_) fun P h=>?_
 ·refine aH hJ (aO hJ ?_);refine cQ hJ mixed 6 1 (by simp only[*,go_sem]) (by kernel_rfl) ?_;revert h;refine bS fun Q x h=>?_;obtain rfl:=sI h;obtain ⟨a2,a3⟩:=uB x;clear x;try simp only[*,go_sem]
  refine ⟨k,Nat.lt_succ_self _,_,Le.sub (List.Sublist.refl _),e,Q,l,rfl,?_⟩;simp only[*,go_sem]
 obtain rfl:=sI h;refine bN ?_;simp only[go_sem];obtain rfl:=sI l;clear l;have h:=L;dsimp only[aB] at h;refine af hJ ?_;refine cQ hJ mixed 7 0 (by simp only[*,go_sem]) (by kernel_rfl) ?_;revert h;refine bS fun a4 y h=>?_;obtain ⟨a5,a6⟩:=jM y;clear y;revert h;refine bS fun a7 z h=>?_;obtain rfl:=sI h;obtain ⟨a8,a9⟩:=jM z;clear z;try simp only[*,go_sem]
 refine av ?_;simp only[*,go_sem]
def j0 (u0:an)(a:an):Option an:=
 ag (gw (IntKind.i64.wrap ((IntKind.i64.wrap (u0.num*a.den)) - (IntKind.i64.wrap (a.num*u0.den)))) (IntKind.i64.wrap (u0.den*a.den))) fun b=>some b
def mm (u0:ak)(a:aZ)(c:Int)(b:an):Option an:=
 ag (gw (IntKind.i64.wrap ((IntKind.i64.wrap ((IntKind.i64.wrap (a.high*b.den))*(IntKind.i64.wrap (c+a.back))))+(IntKind.i64.wrap ((IntKind.i64.wrap (b.num - (IntKind.i64.wrap (a.high*b.den))))*(IntKind.i64.wrap (u0.bH+a.back)))))) (IntKind.i64.wrap (b.den*(IntKind.i64.wrap (c+a.back))))) fun d=>some d
def mo (u0:de)(a:Int)(b:Int):Option Bool:=
 cond (decide (a<=u0.low)) (cond (decide (u0.low<=u0.high)) (some (decide (u0.high<=b))) (some false)) (some false)
theorem GI {ro:Addr->Option Value}(u0:de)(a:Int)(b:Int){r:Bool}(h:mo u0 a b=some r):aC Tryz.prog 129 #[.agg #[.int .i64 u0.low,.int .i64 u0.high],.int .i64 a,.int .i64 b] ⟨ro,[]⟩ (fun v _=>v= .bool r):=by
 unfold mo at h;refine aC.go Tryz.func129 rfl Tryz.ntmps129 Tryz.results129 (by simp) fun main J hJ A e hd hs=>?_;have f:=hs 0;have k1:=hs 1;have g:=hs 2;clear hs;refine ah hJ ?_;simp only[*,go_sem];refine az fun i r1 n1=>?_;try simp only[au] at n1
 try simp only[*,go_sem]
 refine ah hJ ?_;revert h;refine cS (fun c h=>?_) fun c h=>?_
 ·revert h;refine cS (fun d h=>?_) fun d h=>?_
  ·obtain rfl:=sI h;(try simp only[*,go_sem]);refine av ?_;simp only[*,go_sem]
  obtain rfl:=sI h;try simp only[*,go_sem]
  refine av ?_;simp only[*,go_sem]
 obtain rfl:=sI h;try simp only[*,go_sem]
 refine av ?_;simp only[*,go_sem]
def fP (u0:an)(a:an):Option an:=
 ag (gv u0 a) fun b=>cond (b) (some a) (some u0)
def AG (u0:ak)(a:Int)(b:Int):Option aZ:=
 ag (bn u0.aG a) fun c=>some (⟨c.back,b⟩:aZ)
def mq (u0:ak):Option Bool:=
 cond (decide (20<(u0.aD.length:Int))) (some true) (cond (decide (20<(u0.props.length:Int))) (some true) (cond (decide (20<(u0.aG.length:Int))) (some true) (some (decide (20<(u0.told.length:Int))))))
theorem GJ {ro:Addr->Option Value}(u0:ak){s1 b c d:Value}(a:bL ro u0 s1 b c d){r:Bool}(h:mq u0=some r):aC Tryz.prog 59 #[bv u0 s1 b c d] ⟨ro,[]⟩ (fun v _=>v= .bool r):=by
 obtain ⟨d3,c4,rfl,k,l,-⟩:=id a.e;obtain ⟨d10,m,rfl,n,o,-⟩:=id a.p;obtain ⟨d17,q,rfl,s,u,-⟩:=id a.y;obtain ⟨d24,w,rfl,x,z,-⟩:=id a.t;unfold mq at h;refine aC.go Tryz.func59 rfl Tryz.ntmps59 Tryz.results59 (by simp) fun main J hJ A B hd hs=>?_;have C:=hs 0;clear hs;refine ah hJ ?_;simp only[*,go_sem];refine az fun D E f=>?_;try simp only[au] at f
 try simp only[*,go_sem]
 refine ah hJ ?_;revert h;refine cS (fun g h=>?_) fun g h=>?_
 ·obtain rfl:=sI h;try simp only[*,go_sem]
  refine av ?_;simp only[*,go_sem]
 revert h;refine cS (fun i h=>?_) fun i h=>?_
 ·obtain rfl:=sI h;try simp only[*,go_sem]
  refine av ?_;simp only[*,go_sem]
 revert h;refine cS (fun j h=>?_) fun j h=>?_
 ·obtain rfl:=sI h;try simp only[*,go_sem]
  refine av ?_;simp only[*,go_sem]
 obtain rfl:=sI h;try simp only[*,go_sem]
 refine av ?_;simp only[*,go_sem]
def fD (u0:Int)(a:Int):Option an:=
 some (⟨u0,a⟩:an)
theorem gx {ro:Addr->Option Value}(u0:Int)(a:Int){r:an}(h:fD u0 a=some r):aC Tryz.prog 30 #[.int .i64 u0,.int .i64 a] ⟨ro,[]⟩ (fun v _=>v=r.v):=by
 unfold fD at h;obtain rfl:=sI h;refine aC.go Tryz.func30 rfl Tryz.ntmps30 Tryz.results30 (by simp) fun main J hJ A b hd hs=>?_;have c:=hs 0;have k1:=hs 1;clear hs;refine ah hJ ?_;simp only[*,go_sem];refine az fun d r1 n1=>?_;try simp only[au] at n1
 try simp only[*,go_sem]
 refine ah hJ ?_;simp only[*,go_sem];refine av ?_;simp only[*,go_sem]
def pY (u0:Int)(a:Int):Option de:=
 some (⟨u0,a⟩:de)
theorem sr {ro:Addr->Option Value}(u0:Int)(a:Int){r:de}(h:pY u0 a=some r):aC Tryz.prog 18 #[.int .i64 u0,.int .i64 a] ⟨ro,[]⟩ (fun v _=>v=r.v):=by
 unfold pY at h;obtain rfl:=sI h;refine aC.go Tryz.func18 rfl Tryz.ntmps18 Tryz.results18 (by simp) fun main J hJ A b hd hs=>?_;have c:=hs 0;have k1:=hs 1;clear hs;refine ah hJ ?_;simp only[*,go_sem];refine az fun d r1 n1=>?_;try simp only[au] at n1
 try simp only[*,go_sem]
 refine ah hJ ?_;simp only[*,go_sem];refine av ?_;simp only[*,go_sem]
def ju (u0:Int)(a:Int):Option aZ:=
 some (⟨u0,a⟩:aZ)
theorem nM {ro:Addr->Option Value}(u0:Int)(a:Int){r:aZ}(h:ju u0 a=some r):aC Tryz.prog 23 #[.int .i64 u0,.int .i64 a] ⟨ro,[]⟩ (fun v _=>v=r.v):=by
 unfold ju at h;obtain rfl:=sI h;refine aC.go Tryz.func23 rfl Tryz.ntmps23 Tryz.results23 (by simp) fun main J hJ A b hd hs=>?_;have c:=hs 0;have k1:=hs 1;clear hs;refine ah hJ ?_;simp only[*,go_sem];refine az fun d r1 n1=>?_;try simp only[au] at n1
 try simp only[*,go_sem]
 refine ah hJ ?_;simp only[*,go_sem];refine av ?_;simp only[*,go_sem]
def mw (u0:Int)(a:Bool):Option bR:=
 some (⟨u0,a⟩:bR)
theorem j3 {ro:Addr->Option Value}(u0:Int)(a:Bool){r:bR}(h:mw u0 a=some r):aC Tryz.prog 50 #[.int .i64 u0,.bool a] ⟨ro,[]⟩ (fun v _=>v=r.v):=by
 unfold mw at h;obtain rfl:=sI h;refine aC.go Tryz.func50 rfl Tryz.ntmps50 Tryz.results50 (by simp) fun main J hJ A b hd hs=>?_;have c:=hs 0;have k1:=hs 1;clear hs;refine ah hJ ?_;simp only[*,go_sem];refine az fun d r1 n1=>?_;try simp only[au] at n1
 try simp only[*,go_sem]
 refine ah hJ ?_;simp only[*,go_sem];refine av ?_;simp only[*,go_sem]
def pZ (u0:ak)(a:bR):Option ak:=
 ag (c9 ([]:List bR) u0.told) fun b=>ag (c9 b ([a])) fun c=>some (⟨u0.bH,u0.bO,u0.aW,u0.aD,u0.props,u0.aG,c⟩:ak)
theorem nN {ro:Addr->Option Value}(u0:ak){s1 b c N:Value}(j:bL ro u0 s1 b c N)(a:bR){r:ak}(h:pZ u0 a=some r):eF Tryz.prog 38 #[bv u0 s1 b c N,.agg #[.int .i64 a.aV,.bool a.bt]] ro (fun v aM=>∃O w1 w2 w3,v=bv r O w1 w2 w3/\bL aM r O w1 w2 w3):=by
 obtain ⟨d24,i,rfl,e0,e1,-⟩:=id j.t;unfold pZ at h;have b0:=j.oc;simp only[bE] at b0;refine aC.go Tryz.func38 rfl Tryz.ntmps38 Tryz.results38 (by simp) fun main J hJ A e3 hd hs=>?_;have fa:=hs 0;have k1:=hs 1;clear hs;refine ah hJ ?_;simp only[*,go_sem,-h];refine az fun d q b1=>?_;try simp only[au] at b1
 refine az fun f s b2=>?_;try simp only[au] at b2
 refine az fun g u b3=>?_;try simp only[au] at b3
 try simp only[*,go_sem,-h]
 refine af hJ ?_;refine ay hJ fun P=>?_;refine eG hJ mixed [8] (.pure 1 (.rd 2 (.rd 4 (.two 0 (.two 3 (.one 5 (.one 6 (.pure 7 (.last 8 .done)))) 5 (.one 3 (.one 6 (.pure 7 (.last 8 .done))))) 5 (.one 0 (.one 3 (.one 6 (.pure 7 (.last 8 .done))))))))) ⟨ro,[(g,bz 29),(f,.cells #[.int .i64 a.aV,.bool a.bt] 76),(d,bk u0 s1 b c (sl d24 u0.told i))]⟩ (by simp only[*,go_sem,-h]) (by kernel_rfl) ?_;simp only[*,go_sem,-h];refine jS ?_ ?_
 ·simp only[*,go_sem,-h];refine az fun C Q R=>?_;have S:=aP.cons R P;try simp only[au] at R
  try simp only[*,go_sem,-h]
  refine jS ?_ ?_
  ·revert h;refine bS fun b4 b5 h=>?_;obtain ⟨ca,T⟩:=dw b5;simp only[*,go_sem,-h];have cb:aN dg ro 76 (.slice (some ⟨C,0,none⟩) 0 0) ([]:List bR) [(C,.cells #[] 76)]:=aN.empty Q;refine pg (r:=dg) (l:=([]:List bR)) (xs:=u0.told) [] ((g,bz 29)::(f,.cells #[.int .i64 a.aV,.bool a.bt] 76)::(d,bk u0 s1 b c (sl d24 u0.told i))::[]) cb S ca j.t rfl rfl ek ek g6 g8 rfl g7 (by decide) (by decide) (fun fb w F k m U=>?_);simp only[aT] at m;subst k;rw[<-T] at F;clear T;obtain ⟨d144,fg,rfl,fi⟩:=F.len;have cd:=aP.back (l:=(g,bz 29)::(f,.cells #[.int .i64 a.aV,.bool a.bt] 76)::(d,bk u0 s1 b c (sl d24 u0.told i))::w) (l':=[]++(w++([(g,bz 29),(f,.cells #[.int .i64 a.aV,.bool a.bt] 76),(d,bk u0 s1 b c (sl d24 u0.told i))]++[]))) [] [(g,bz 29),(f,.cells #[.int .i64 a.aV,.bool a.bt] 76),(d,bk u0 s1 b c (sl d24 u0.told i))] w [] (by first|rfl|simp only[aT]|(simp only[aT];rfl)) (by first|rfl|simp only[aT]|(simp only[aT];rfl)) (by first|exact U|simpa only[List.append_nil,List.nil_append,List.cons_append,List.append_assoc] using U);refine ⟨⟨ro,(g,bz 29)::(f,.cells #[.int .i64 a.aV,.bool a.bt] 76)::(d,bk u0 s1 b c (sl d24 u0.told i))::w⟩,Le.back [] [(g,bz 29),(f,.cells #[.int .i64 a.aV,.bool a.bt] 76),(d,bk u0 s1 b c (sl d24 u0.told i))] w [] (by first|rfl|simp only[aT]|(simp only[aT];rfl)) (by first|rfl|simp only[aT]|(simp only[aT];rfl)),?_⟩;refine ⟨by simp only[*,go_sem,-h],bX ?_⟩;revert h;refine bS fun V cf h=>?_;obtain ⟨cl,W⟩:=dw cf;(try simp only[*,go_sem,-h]);refine az fun G X Y=>?_;have cy:=aP.cons Y cd;try simp only[au] at Y
   (try simp only[*,go_sem,-h]);refine dY (r:=dg) (l:=b4) (x:=a) (cs:=#[.int .i64 a.aV,.bool a.bt]) (e2:=76) [(G,.cells #[.int .i64 a.aV,.bool a.bt] 76),(g,bz 29),(f,.cells #[.int .i64 a.aV,.bool a.bt] 76),(d,bk u0 s1 b c (sl d24 u0.told i))] [] F cy cl rfl (by simp only[*,go_sem,-h]) X rfl rfl ek ek g6 g8 rfl g7 (by decide) (by decide) (fun fp cS H k m fr=>?_);simp only[aT] at m;subst k;rw[<-W] at H;clear W;obtain ⟨d158,Z,rfl,fs⟩:=H.len;refine ⟨⟨ro,(G,.cells #[.int .i64 a.aV,.bool a.bt] 76)::(g,bz 29)::(f,.cells #[.int .i64 a.aV,.bool a.bt] 76)::(d,bk u0 s1 b c (sl d24 u0.told i))::cS⟩,Le.refl _,?_⟩;refine ⟨by simp only[*,go_sem,-h],bX ?_⟩;(try simp only[*,go_sem,-h]);refine af hJ ?_;refine ay hJ fun ft=>?_;refine aj hJ ?_;simp only[*,go_sem,-h];obtain rfl:=sI h;refine ay hJ fun ab=>?_;obtain ⟨fu,ad,D,ae,c0⟩:=H.eW [(G,.cells #[.int .i64 a.aV,.bool a.bt] 76),(g,bk u0 s1 b c (sl d158 V Z)),(f,.cells #[.int .i64 a.aV,.bool a.bt] 76),(d,bk u0 s1 b c (sl d158 V Z))] [] ab (aF.cons X (aF.cons u (aF.cons s (aF.cons q (aF.nil _)))));clear ab;refine cB hJ c0 ?_;obtain ⟨fv,fw,-⟩:=ae.op;replace j:=j.mono ad;replace u:=D.tl.hd;replace s:=D.tl.tl.hd;replace q:=D.tl.tl.tl.hd;simp only[bq] at D;refine av ?_;simp only[*,go_sem];exact ⟨_,ad,Le.sub (List.nil_sublist _),_,_,_,_,rfl,⟨j.e,j.p,j.y,ae⟩⟩
  revert h;refine bS fun da db h=>?_;obtain ⟨dd,al⟩:=dw db;simp only[*,go_sem,-h];refine az fun n ao ar=>?_;have df:=aP.cons ar S;try simp only[au] at ar
  try simp only[*,go_sem,-h]
  have dk:aN dg ro 76 (.slice (some ⟨C,0,none⟩) 0 0) ([]:List bR) [(C,.cells #[] 76)]:=aN.empty Q;refine pg (r:=dg) (l:=([]:List bR)) (xs:=u0.told) [(n,.cells #[.int .i64 a.aV,.bool a.bt] 76)] ((g,bz 29)::(f,.cells #[.int .i64 a.aV,.bool a.bt] 76)::(d,bk u0 s1 b c (sl d24 u0.told i))::[]) dk df dd j.t rfl rfl ek ek g6 g8 rfl g7 (by decide) (by decide) (fun fx z I k m a0=>?_);simp only[aT] at m;subst k;rw[<-al] at I;clear al;obtain ⟨d179,gg,rfl,gl⟩:=I.len;have dp:=aP.back (l:=(n,.cells #[.int .i64 a.aV,.bool a.bt] 76)::(g,bz 29)::(f,.cells #[.int .i64 a.aV,.bool a.bt] 76)::(d,bk u0 s1 b c (sl d24 u0.told i))::z) (l':=[(n,.cells #[.int .i64 a.aV,.bool a.bt] 76)]++(z++([(g,bz 29),(f,.cells #[.int .i64 a.aV,.bool a.bt] 76),(d,bk u0 s1 b c (sl d24 u0.told i))]++[]))) [(n,.cells #[.int .i64 a.aV,.bool a.bt] 76)] [(g,bz 29),(f,.cells #[.int .i64 a.aV,.bool a.bt] 76),(d,bk u0 s1 b c (sl d24 u0.told i))] z [] (by first|rfl|simp only[aT]|(simp only[aT];rfl)) (by first|rfl|simp only[aT]|(simp only[aT];rfl)) (by first|exact a0|simpa only[List.append_nil,List.nil_append,List.cons_append,List.append_assoc] using a0);refine ⟨⟨ro,(n,.cells #[.int .i64 a.aV,.bool a.bt] 76)::(g,bz 29)::(f,.cells #[.int .i64 a.aV,.bool a.bt] 76)::(d,bk u0 s1 b c (sl d24 u0.told i))::z⟩,Le.back [(n,.cells #[.int .i64 a.aV,.bool a.bt] 76)] [(g,bz 29),(f,.cells #[.int .i64 a.aV,.bool a.bt] 76),(d,bk u0 s1 b c (sl d24 u0.told i))] z [] (by first|rfl|simp only[aT]|(simp only[aT];rfl)) (by first|rfl|simp only[aT]|(simp only[aT];rfl)),?_⟩;refine ⟨by simp only[*,go_sem,-h],bX ?_⟩;revert h;refine bS fun a2 dq h=>?_;obtain ⟨ds,a3⟩:=dw dq;try simp only[*,go_sem,-h]
  refine dY (r:=dg) (l:=da) (x:=a) (cs:=#[.int .i64 a.aV,.bool a.bt]) (e2:=76) [(n,.cells #[.int .i64 a.aV,.bool a.bt] 76),(g,bz 29),(f,.cells #[.int .i64 a.aV,.bool a.bt] 76),(d,bk u0 s1 b c (sl d24 u0.told i))] [] I dp ds rfl (by simp only[*,go_sem,-h]) ao rfl rfl ek ek g6 g8 rfl g7 (by decide) (by decide) (fun gn dt K k m gp=>?_);simp only[aT] at m;subst k;rw[<-a3] at K;clear a3;obtain ⟨d191,a4,rfl,gB⟩:=K.len;refine ⟨⟨ro,(n,.cells #[.int .i64 a.aV,.bool a.bt] 76)::(g,bz 29)::(f,.cells #[.int .i64 a.aV,.bool a.bt] 76)::(d,bk u0 s1 b c (sl d24 u0.told i))::dt⟩,Le.refl _,?_⟩;refine ⟨by simp only[*,go_sem,-h],bX ?_⟩;try simp only[*,go_sem,-h]
  refine af hJ ?_;refine ay hJ fun gC=>?_;refine aj hJ ?_;simp only[*,go_sem,-h];obtain rfl:=sI h;refine ay hJ fun a5=>?_;obtain ⟨gM,a6,E,a7,du⟩:=K.eW [(n,.cells #[.int .i64 a.aV,.bool a.bt] 76),(g,bk u0 s1 b c (sl d191 a2 a4)),(f,.cells #[.int .i64 a.aV,.bool a.bt] 76),(d,bk u0 s1 b c (sl d191 a2 a4))] [] a5 (aF.cons ao (aF.cons u (aF.cons s (aF.cons q (aF.nil _)))));clear a5;refine cB hJ du ?_;obtain ⟨gT,gV,-⟩:=a7.op;replace j:=j.mono a6;replace u:=E.tl.hd;replace s:=E.tl.tl.hd;replace q:=E.tl.tl.tl.hd;simp only[bq] at E;refine av ?_;simp only[*,go_sem];exact ⟨_,a6,Le.sub (List.nil_sublist _),_,_,_,_,rfl,⟨j.e,j.p,j.y,a7⟩⟩
 revert h;refine bS fun dv dC h=>?_;obtain ⟨dE,a8⟩:=dw dC;simp only[*,go_sem,-h];refine az fun o a9 ba=>?_;have dT:=aP.cons ba P;try simp only[au] at ba
 try simp only[*,go_sem,-h]
 refine az fun bb ea bc=>?_;have eb:=aP.cons bc dT;try simp only[au] at bc
 try simp only[*,go_sem,-h]
 have ec:aN dg ro 76 (.slice (some ⟨bb,0,none⟩) 0 0) ([]:List bR) [(bb,.cells #[] 76)]:=aN.empty ea;refine pg (r:=dg) (l:=([]:List bR)) (xs:=u0.told) [] ((o,.cells #[.int .i64 a.aV,.bool a.bt] 76)::(g,bz 29)::(f,.cells #[.int .i64 a.aV,.bool a.bt] 76)::(d,bk u0 s1 b c (sl d24 u0.told i))::[]) ec eb dE j.t rfl rfl ek ek g6 g8 rfl g7 (by decide) (by decide) (fun g0 B L k m bd=>?_);simp only[aT] at m;subst k;rw[<-a8] at L;clear a8;obtain ⟨d214,g1,rfl,g2⟩:=L.len;have ed:=aP.back (l:=(o,.cells #[.int .i64 a.aV,.bool a.bt] 76)::(g,bz 29)::(f,.cells #[.int .i64 a.aV,.bool a.bt] 76)::(d,bk u0 s1 b c (sl d24 u0.told i))::B) (l':=[]++(B++([(o,.cells #[.int .i64 a.aV,.bool a.bt] 76),(g,bz 29),(f,.cells #[.int .i64 a.aV,.bool a.bt] 76),(d,bk u0 s1 b c (sl d24 u0.told i))]++[]))) [] [(o,.cells #[.int .i64 a.aV,.bool a.bt] 76),(g,bz 29),(f,.cells #[.int .i64 a.aV,.bool a.bt] 76),(d,bk u0 s1 b c (sl d24 u0.told i))] B [] (by first|rfl|simp only[aT]|(simp only[aT];rfl)) (by first|rfl|simp only[aT]|(simp only[aT];rfl)) (by first|exact bd|simpa only[List.append_nil,List.nil_append,List.cons_append,List.append_assoc] using bd);refine ⟨⟨ro,(o,.cells #[.int .i64 a.aV,.bool a.bt] 76)::(g,bz 29)::(f,.cells #[.int .i64 a.aV,.bool a.bt] 76)::(d,bk u0 s1 b c (sl d24 u0.told i))::B⟩,Le.back [] [(o,.cells #[.int .i64 a.aV,.bool a.bt] 76),(g,bz 29),(f,.cells #[.int .i64 a.aV,.bool a.bt] 76),(d,bk u0 s1 b c (sl d24 u0.told i))] B [] (by first|rfl|simp only[aT]|(simp only[aT];rfl)) (by first|rfl|simp only[aT]|(simp only[aT];rfl)),?_⟩;refine ⟨by simp only[*,go_sem,-h],bX ?_⟩;revert h;refine bS fun bj eh h=>?_;obtain ⟨et,bl⟩:=dw eh;try simp only[*,go_sem,-h]
 refine dY (r:=dg) (l:=dv) (x:=a) (cs:=#[.int .i64 a.aV,.bool a.bt]) (e2:=76) [(o,.cells #[.int .i64 a.aV,.bool a.bt] 76),(g,bz 29),(f,.cells #[.int .i64 a.aV,.bool a.bt] 76),(d,bk u0 s1 b c (sl d24 u0.told i))] [] L ed et rfl (by simp only[*,go_sem,-h]) a9 rfl rfl ek ek g6 g8 rfl g7 (by decide) (by decide) (fun g3 ev M k m g4=>?_);simp only[aT] at m;subst k;rw[<-bl] at M;clear bl;obtain ⟨d226,bm,rfl,ha⟩:=M.len;refine ⟨⟨ro,(o,.cells #[.int .i64 a.aV,.bool a.bt] 76)::(g,bz 29)::(f,.cells #[.int .i64 a.aV,.bool a.bt] 76)::(d,bk u0 s1 b c (sl d24 u0.told i))::ev⟩,Le.refl _,?_⟩;refine ⟨by simp only[*,go_sem,-h],bX ?_⟩;try simp only[*,go_sem,-h]
 refine af hJ ?_;refine ay hJ fun hc=>?_;refine aj hJ ?_;simp only[*,go_sem,-h];obtain rfl:=sI h;refine ay hJ fun bo=>?_;obtain ⟨hf,br,eQ,bs,eS⟩:=M.eW [(o,.cells #[.int .i64 a.aV,.bool a.bt] 76),(g,bk u0 s1 b c (sl d226 bj bm)),(f,.cells #[.int .i64 a.aV,.bool a.bt] 76),(d,bk u0 s1 b c (sl d226 bj bm))] [] bo (aF.cons a9 (aF.cons u (aF.cons s (aF.cons q (aF.nil _)))));clear bo;refine cB hJ eS ?_;obtain ⟨hg,hh,-⟩:=bs.op;replace j:=j.mono br;simp only[bq] at eQ;refine av ?_;simp only[*,go_sem];exact ⟨_,br,Le.sub (List.nil_sublist _),_,_,_,_,rfl,⟨j.e,j.p,j.y,bs⟩⟩
def wK (a:(List Int))(b:Int)(st:(Int×(List cm))):Option (Fl (Int×(List cm)) ak):=
 cond (decide (st.1<(a.length:Int))) (ag (bn a st.1) fun c=>ag (c9 st.2 ([(⟨c,b⟩:cm)])) fun d=>some (.nx ((IntKind.i64.wrap (st.1+1)),d))) (some (.bk (st.1,st.2)))
def wL (u0:ak)(a:(List Int))(b:Int):Option ak:=
 ag (c9 ([]:List cm) u0.props) fun c=>ag (aY (wK a b) fu (0,c)) fun o=>aB o (fun d=>some (⟨u0.bH,u0.bO,u0.aW,u0.aD,d.2,u0.aG,u0.told⟩:ak)) (fun _ _=>none) (fun r=>some r)
theorem GK {ro:Addr->Option Value}(u0:ak){s1 H a b:Value}(k:bL ro u0 s1 H a b)(w:(List Int)){I:Value}(K:aA rI ro I w)(n:Int){r:ak}(h:wL u0 w n=some r):eF Tryz.prog 61 #[bv u0 s1 H a b,I,.int .i64 n] ro (fun v aM=>∃L w1 w2 w3,v=bv r L w1 w2 w3/\bL aM r L w1 w2 w3):=by
 obtain ⟨d10,c,rfl,df,dk,-⟩:=id k.p;obtain ⟨d31,dp,rfl,dq,ds,-⟩:=id K;unfold wL at h;have ad:=k.oc;simp only[bE] at ad;refine aC.go Tryz.func61 rfl Tryz.ntmps61 Tryz.results61 (by simp) fun main J hJ A ae hd hs=>?_;have al:=hs 0;have k1:=hs 1;have ao:=hs 2;clear hs;refine ah hJ ?_;simp only[*,go_sem];refine az fun f ar a0=>?_;try simp only[au] at a0
 refine az fun g a2 a3=>?_;try simp only[au] at a3
 try simp only[*,go_sem]
 refine ah hJ ?_;simp only[*,go_sem];refine az fun i a4 a5=>?_;try simp only[au] at a5
 try simp only[*,go_sem]
 refine af hJ ?_;refine ay hJ fun a6=>?_;refine aj hJ ?_;revert h;refine bS fun a7 a8 h=>?_;obtain ⟨a9,M⟩:=dw a8;simp only[*,go_sem];refine az fun N ba O=>?_;have bb:=aP.cons O a6;try simp only[au] at O
 try simp only[*,go_sem]
 have bc:aN eu ro 96 (.slice (some ⟨N,0,none⟩) 0 0) ([]:List cm) [(N,.cells #[] 96)]:=aN.empty ba;refine pg (r:=eu) (l:=([]:List cm)) (xs:=u0.props) [] ((i,bk u0 s1 (sl d10 u0.props c) a b)::(g,bz 29)::(f,bk u0 s1 (sl d10 u0.props c) a b)::[]) bc bb a9 k.p rfl rfl kJ kJ qY q2 rfl qZ (by decide) (by decide) (fun dt o z B C P=>?_);simp only[aT] at C;subst B;rw[<-M] at z;clear M;obtain ⟨d48,bd,rfl,bj⟩:=z.len;have du:=aP.back (l:=(i,bk u0 s1 (sl d10 u0.props c) a b)::(g,bz 29)::(f,bk u0 s1 (sl d10 u0.props c) a b)::o) (l':=[]++(o++([(i,bk u0 s1 (sl d10 u0.props c) a b),(g,bz 29),(f,bk u0 s1 (sl d10 u0.props c) a b)]++[]))) [] [(i,bk u0 s1 (sl d10 u0.props c) a b),(g,bz 29),(f,bk u0 s1 (sl d10 u0.props c) a b)] o [] (by first|rfl|simp only[aT]|(simp only[aT];rfl)) (by first|rfl|simp only[aT]|(simp only[aT];rfl)) (by first|exact P|simpa only[List.append_nil,List.nil_append,List.cons_append,List.append_assoc] using P);refine ⟨⟨ro,(i,bk u0 s1 (sl d10 u0.props c) a b)::(g,bz 29)::(f,bk u0 s1 (sl d10 u0.props c) a b)::o⟩,Le.back [] [(i,bk u0 s1 (sl d10 u0.props c) a b),(g,bz 29),(f,bk u0 s1 (sl d10 u0.props c) a b)] o [] (by first|rfl|simp only[aT]|(simp only[aT];rfl)) (by first|rfl|simp only[aT]|(simp only[aT];rfl)),?_⟩;refine aJ ?_;try simp only[*,go_sem]
 refine af hJ (af hJ ?_);refine ay hJ fun dv=>?_;refine aj hJ ?_;simp only[*,go_sem];refine aO hJ ?_;revert h;refine bS fun bl s bm=>?_;refine bQ hJ [8,15,16,17,18,19,20,21,22,23,24,25,26,27,28,29,30,31] (fun m bo F'=>∃(d57:Option Addr) (j:Nat) (D:List (Nat×Obj)) (u:Int) (d:(List cm)),aY (wK w n) m (u,d)=some bl/\F'=⟨ro,(i,bk u0 s1 (sl d57 d j) a b)::(g,bz 29)::(f,bk u0 s1 (sl d10 u0.props c) a b)::D⟩/\aN eu ro 96 (.slice d57 d.length j) d D/\d.length<=j/\slot bo 8= .int .i64 u) fu ?_ ?_
 ·refine ⟨d48,bd,o,0,a7,s,rfl,z,bj,?_⟩;simp only[*,go_sem]
 rintro E dC F' Q ⟨d57,j,D,u,d,s,rfl,R,dE,dT⟩;obtain ⟨br,bs,b0⟩:=Q.pick [1,2,6,7] (by decide);simp only[*,go_sem] at br bs b0;clear Q ae hd al k1 ao;obtain _|E:=E
 ·exact absurd s (by simp only[aY,reduceCtorEq,not_false_eq_true])
 revert s;refine bS fun ea h F=>?_;unfold wK at h;try dsimp only at h
 refine af hJ (af hJ ?_);refine ay hJ fun eb=>?_;refine aj hJ ?_;simp only[*,go_sem];revert h;refine jC hJ (by simp only[*,go_sem]) (fun b1 h=>?_) fun b1 h=>?_
 ·refine aH hJ (af hJ ?_);refine aO hJ ?_;refine ay hJ fun b2=>?_;refine eG hJ mixed [11] (.pure 0 (.rd 1 (.pure 2 (.pure 3 (.pure 4 (.rd 5 (.pure 6 (.pure 7 (.one 8 (.one 9 (.pure 10 (.last 11 .done)))))))))))) ⟨ro,[(i,bk u0 s1 (sl d57 d j) a b),(g,bz 29),(f,bk u0 s1 (sl d10 u0.props c) a b)]⟩ (by simp only[*,go_sem]) (by kernel_rfl) ?_;revert h;refine bS fun q b3 h=>?_;obtain ⟨ec,ed,S⟩:=cW b3;obtain ⟨eh,b4,b5,ca,T⟩:=K.el _ _ S;obtain rfl:b4=[.int .i64 q]:=ca;cases b5;have cb:=T 0 _ rfl;simp only[go_sem] at cb;clear T S;revert h;refine bS fun cd cf h=>?_;obtain rfl:=sI h;obtain ⟨cl,U⟩:=dw cf;try simp only[*,go_sem]
  refine az fun V cy W=>?_;have cS:=aP.cons W b2;try simp only[au] at W
  try simp only[*,go_sem]
  refine dY (r:=eu) (l:=d) (x:=(⟨q,n⟩:cm)) (cs:=#[.int .i64 q,.int .i64 n]) (e2:=96) [(V,.cells #[.int .i64 q,.int .i64 n] 96),(i,bk u0 s1 (sl d57 d j) a b),(g,bz 29),(f,bk u0 s1 (sl d10 u0.props c) a b)] [] R cS cl rfl (by simp only[*,go_sem]) cy rfl rfl kJ kJ qY q2 rfl qZ (by decide) (by decide) (fun et X G B C ev=>?_);simp only[aT] at C;subst B;rw[<-U] at G;clear U;obtain ⟨d111,c0,rfl,da⟩:=G.len;refine ⟨⟨ro,(V,.cells #[.int .i64 q,.int .i64 n] 96)::(i,bk u0 s1 (sl d57 d j) a b)::(g,bz 29)::(f,bk u0 s1 (sl d10 u0.props c) a b)::X⟩,Le.refl _,?_⟩;refine ⟨by simp only[*,go_sem],bX ?_⟩;try simp only[*,go_sem]
  refine ay hJ fun eQ=>?_;refine aj hJ ?_;simp only[*,go_sem];refine ⟨E,Nat.lt_succ_self _,_,Le.sub (List.Sublist.cons _ (List.Sublist.refl _)),d111,c0,X,(IntKind.i64.wrap (u+1)),cd,F,rfl,G,da,?_⟩;simp only[*,go_sem]
 obtain rfl:=sI h;refine bN ?_;simp only[go_sem];obtain rfl:=sI F;clear F;have h:=bm;dsimp only[aB] at h;obtain rfl:=sI h;refine af hJ ?_;refine ay hJ fun eS=>?_;refine aj hJ ?_;simp only[*,go_sem];refine ay hJ fun Y=>?_;obtain ⟨e0,Z,db,ab,dd⟩:=R.eW [(i,bk u0 s1 (sl d57 d j) a b),(g,bk u0 s1 (sl d57 d j) a b),(f,bk u0 s1 (sl d10 u0.props c) a b)] [] Y (aF.cons a4 (aF.cons a2 (aF.cons ar (aF.nil _))));clear Y;refine cB hJ dd ?_;obtain ⟨e1,e3,-⟩:=ab.op;replace k:=k.mono Z;simp only[bq] at db;refine av ?_;simp only[*,go_sem];exact ⟨_,Z,Le.sub (List.nil_sublist _),_,_,_,_,rfl,⟨k.e,ab,k.y,k.t⟩⟩
def wM :Option ak:=
 ag (fD 1 2) fun a=>ag (pY 10 12) fun b=>ag (pY 10 10) fun c=>some (⟨20,2,a,[(⟨0,2⟩:b7),(⟨8,4⟩:b7),(⟨14,4⟩:b7)],([]:(List cm)),[(⟨2,b⟩:bZ),(⟨4,c⟩:bZ)],([]:(List bR))⟩:ak)
theorem GL {ro:Addr->Option Value}{r:ak}(h:wM=some r):eF Tryz.prog 60 #[] ro (fun v aM=>∃m w1 w2 w3,v=bv r m w1 w2 w3/\bL aM r m w1 w2 w3):=by
 unfold wM at h;refine aC.go Tryz.func60 rfl Tryz.ntmps60 Tryz.results60 (by simp) fun main J hJ A H hd hs=>?_;clear hs;refine ah hJ ?_;simp only[*,go_sem];refine az fun n r1 n1=>?_;try simp only[au] at n1
 try simp only[*,go_sem]
 refine af hJ ?_;refine ay hJ fun C=>?_;refine aj hJ ?_;revert h;refine bS fun g D h=>?_;simp only[*,go_sem];refine bh hJ _ (gx 1 2 D) (aJ ?_);revert h;refine bS fun a E h=>?_;try simp only[*,go_sem]
 refine az fun b5 p q=>?_;have F:=aP.cons q C;try simp only[au] at q
 try simp only[*,go_sem]
 refine bh hJ _ (sr 10 12 E) (aJ ?_);revert h;refine bS fun c G h=>?_;obtain rfl:=sI h;try simp only[*,go_sem]
 refine bh hJ _ (sr 10 10 G) (aJ ?_);try simp only[*,go_sem]
 refine az fun d i s=>?_;have I:=aP.cons s F;try simp only[au] at s
 try simp only[*,go_sem]
 refine ay hJ fun t=>?_;obtain ⟨u,j,w⟩:=fK (b:=b5) (o:=(.cells #[.int .i64 0,.int .i64 2,.int .i64 8,.int .i64 4,.int .i64 14,.int .i64 4] 85)) [(d,.cells #[.int .i64 2,.int .i64 a.low,.int .i64 a.high,.int .i64 4,.int .i64 c.low,.int .i64 c.high] 41)] ((n,.cells #[.int .i64 20,.int .i64 2,.int .i64 g.num,.int .i64 g.den,.slice (some ⟨b5,0,none⟩) 3 3,.slice none 0 0,.slice (some ⟨d,0,none⟩) 2 2,.slice none 0 0] 29)::[]) t p (aF.cons i (aF.cons r1 (aF.nil _)));clear t;have f:aA eX (bP ro b5 (.cells #[.int .i64 0,.int .i64 2,.int .i64 8,.int .i64 4,.int .i64 14,.int .i64 4] 85)) (.slice (some ⟨b5,0,none⟩) 3 3) [(⟨0,2⟩:b7),(⟨8,4⟩:b7),(⟨14,4⟩:b7)]:=(aA.flat (r:=eX) (e:=85) (cs:=#[.int .i64 0,.int .i64 2,.int .i64 8,.int .i64 4,.int .i64 14,.int .i64 4]) b7.cells ([(⟨0,2⟩:b7),(⟨8,4⟩:b7),(⟨14,4⟩:b7)]) (fun _=>rfl) p rfl (by simp))
 generalize bP ro b5 (.cells #[.int .i64 0,.int .i64 2,.int .i64 8,.int .i64 4,.int .i64 14,.int .i64 4] 85)=x at u j w f;refine cB hJ w ?_;obtain ⟨K,L,-⟩:=f.op;replace i:=j.hd;replace r1:=j.tl.hd;simp only[bq] at j;refine ay hJ fun y=>?_;obtain ⟨k,z,B⟩:=fK (b:=d) (o:=(.cells #[.int .i64 2,.int .i64 a.low,.int .i64 a.high,.int .i64 4,.int .i64 c.low,.int .i64 c.high] 41)) [] ((n,.cells #[.int .i64 20,.int .i64 2,.int .i64 g.num,.int .i64 g.den,.slice (some ⟨b5,0,none⟩) ([(⟨0,2⟩:b7),(⟨8,4⟩:b7),(⟨14,4⟩:b7)]).length 3,.slice none 0 0,.slice (some ⟨d,0,none⟩) 2 2,.slice none 0 0] 29)::[]) y i (aF.cons r1 (aF.nil _));clear y;have l:aA eH (bP x d (.cells #[.int .i64 2,.int .i64 a.low,.int .i64 a.high,.int .i64 4,.int .i64 c.low,.int .i64 c.high] 41)) (.slice (some ⟨d,0,none⟩) 2 2) [(⟨2,a⟩:bZ),(⟨4,c⟩:bZ)]:=(aA.flat (r:=eH) (e:=41) (cs:=#[.int .i64 2,.int .i64 a.low,.int .i64 a.high,.int .i64 4,.int .i64 c.low,.int .i64 c.high]) bZ.cells ([(⟨2,a⟩:bZ),(⟨4,c⟩:bZ)]) (fun _=>rfl) i rfl (by simp))
 generalize bP x d (.cells #[.int .i64 2,.int .i64 a.low,.int .i64 a.high,.int .i64 4,.int .i64 c.low,.int .i64 c.high] 41)=M at k z B l;refine cB hJ B ?_;obtain ⟨N,O,-⟩:=l.op;replace f:=f.mono k;simp only[bq] at z;refine av ?_;simp only[*,go_sem];exact ⟨_,(u).trans k,Le.sub (List.nil_sublist _),_,_,_,_,rfl,f,aA.nil _ _,l,aA.nil _ _⟩
def p5 (u0:ak)(st:(Int×Int)):Option (Fl (Int×Int) Int):=
 cond (decide (st.2<(u0.aD.length:Int))) (ag (bn u0.aD st.2) fun a=>ag (ew a.aL 0 (IntKind.i64.wrap (u0.bH - 1))) fun b=>cond (!b) (some (.rt 1)) (ag (ew a.high 0 60) fun c=>cond (!c) (some (.rt 1)) (cond (decide (0<st.2)) (ag (bn u0.aD (IntKind.i64.wrap (st.2 - 1))) fun d=>cond (decide (a.aL<=d.aL)) (some (.rt 7)) (some (.nx (st.1,(IntKind.i64.wrap (st.2+1)))))) (some (.nx (st.1,(IntKind.i64.wrap (st.2+1)))))))) (some (.bk (st.1,st.2)))
def mz (u0:ak):Option Int:=
 ag (ew (u0.aD.length:Int) 2 5) fun a=>cond (!a) (some 2) (ag (aY (p5 u0) fu (0,0)) fun o=>aB o (fun b=>some 0) (fun _ _=>none) (fun r=>some r))
theorem GM {ro:Addr->Option Value}(u0:ak){s1 i j k:Value}(l:bL ro u0 s1 i j k){r:Int}(h:mz u0=some r):aC Tryz.prog 94 #[bv u0 s1 i j k] ⟨ro,[]⟩ (fun v _=>v= .int .i64 r):=by
 obtain ⟨d3,c4,rfl,al,ao,-⟩:=id l.e;unfold mz at h;refine aC.go Tryz.func94 rfl Tryz.ntmps94 Tryz.results94 (by simp) fun main J hJ A w hd hs=>?_;have x:=hs 0;clear hs;refine ah hJ ?_;simp only[*,go_sem];refine az fun y ar z=>?_;try simp only[au] at z
 try simp only[*,go_sem]
 refine af hJ (ah hJ ?_);revert h;refine bS fun a0 B h=>?_;simp only[*,go_sem];refine bh hJ _ (gP (u0.aD.length:Int) 2 5 B) (aJ ?_);try simp only[*,go_sem]
 revert h;refine jC hJ (by simp only[*,go_sem]) (fun C h=>?_) fun C h=>?_
 ·obtain rfl:=sI h;refine ah hJ ?_;simp only[*,go_sem];refine av ?_;simp only[*,go_sem]
 refine aH hJ (af hJ ?_);refine ah hJ ?_;simp only[*,go_sem];refine aO hJ ?_;revert h;refine bS fun D d f=>?_;refine bQ hJ [2,3,4,10,11,12,13,14,15,16,17,18,19,20,21,22,23,24,25,26,27,28,29,30,31,32,33,34,35,36,37,38,39,40,41,42,43,44,45,46,47,48] (fun m q F'=>∃(b:Int) (c:Int),aY (p5 u0) m (b,c)=some D/\F'=⟨ro,(y,bk u0 (sl d3 u0.aD c4) i j k)::[]⟩/\slot q 2= .int .i64 b/\slot q 3= .int .i64 c) fu ?_ ?_
 ·refine ⟨0,0,d,rfl,?_⟩;simp only[*,go_sem]
 rintro g a2 F' s ⟨b,c,d,rfl,a3,a4⟩;obtain ⟨E,F,G⟩:=s.pick [1] (by decide);simp only[*,go_sem] at E F G;clear s w hd x;obtain _|g:=g
 ·exact absurd d (by simp only[aY,reduceCtorEq,not_false_eq_true])
 revert d;refine bS fun a5 h a=>?_;unfold p5 at h;try dsimp only at h
 refine af hJ (ah hJ ?_);simp only[*,go_sem];revert h;refine jC hJ (by simp only[*,go_sem]) (fun H h=>?_) fun H h=>?_
 ·refine aH hJ (af hJ ?_);refine aO hJ (af hJ ?_);refine aj hJ ?_;revert h;refine bS fun n I h=>?_;obtain ⟨a6,a7,t⟩:=cW I;obtain ⟨a8,K,L,M,o⟩:=l.e.el _ _ t;obtain rfl:K=n.cells:=M;cases L;have N:=o 0 _ rfl;simp only[go_sem] at N;have O:=o 1 _ rfl;simp only[go_sem] at O;clear o t;try simp only[*,go_sem]
  refine az fun a9 ba P=>?_;try simp only[au] at P
  try simp only[*,go_sem]
  refine af hJ (ah hJ ?_);revert h;refine bS fun bb Q h=>?_;simp only[*,go_sem];refine bh hJ _ (gP n.aL 0 (IntKind.i64.wrap (u0.bH - 1)) Q) (aJ ?_);revert h;refine cS (fun R h=>?_) fun R h=>?_
  ·obtain rfl:=sI h;(try simp only[*,go_sem]);refine bK hJ (by simp only[*,go_sem]) ?_;refine ah hJ ?_;simp only[*,go_sem];obtain rfl:=sI a;clear a;have h:=f;dsimp only[aB] at h;obtain rfl:=sI h;refine av ?_;simp only[*,go_sem]
  revert h;refine bS fun bc S h=>?_;try simp only[*,go_sem]
  refine bh hJ _ (gP n.high 0 60 S) (aJ ?_);try simp only[*,go_sem]
  revert h;refine jC hJ (by simp only[*,go_sem]) (fun T h=>?_) fun T h=>?_
  ·obtain rfl:=sI h;refine ah hJ ?_;simp only[*,go_sem];obtain rfl:=sI a;clear a;have h:=f;dsimp only[aB] at h;obtain rfl:=sI h;refine av ?_;simp only[*,go_sem]
  refine aH hJ (af hJ ?_);refine cQ hJ mixed 14 2 (by simp only[*,go_sem]) (by kernel_rfl) ?_;revert h;refine cS (fun U h=>?_) fun U h=>?_
  ·revert h;refine bS fun V W h=>?_;obtain ⟨bd,bj,u⟩:=cW W;obtain ⟨bl,X,Y,Z,p⟩:=l.e.el _ _ u;obtain rfl:X=V.cells:=Z;cases Y;have ab:=p 0 _ rfl;simp only[go_sem] at ab;have ad:=p 1 _ rfl;simp only[go_sem] at ad;clear p u;(try simp only[*,go_sem]);revert h;refine jC hJ (by simp only[*,go_sem]) (fun ae h=>?_) fun ae h=>?_
   ·obtain rfl:=sI h;refine ah hJ ?_;simp only[*,go_sem];obtain rfl:=sI a;clear a;have h:=f;dsimp only[aB] at h;obtain rfl:=sI h;refine av ?_;simp only[*,go_sem]
   obtain rfl:=sI h;refine aH hJ (aj hJ ?_);simp only[*,go_sem];refine ⟨g,Nat.lt_succ_self _,_,Le.sub (List.Sublist.cons _ (List.Sublist.refl _)),b,(IntKind.i64.wrap (c+1)),a,rfl,?_⟩;simp only[*,go_sem]
  obtain rfl:=sI h;try simp only[*,go_sem]
  refine bG hJ (by simp only[*,go_sem]) ?_;refine aH hJ (aj hJ ?_);simp only[*,go_sem];refine ⟨g,Nat.lt_succ_self _,_,Le.sub (List.Sublist.cons _ (List.Sublist.refl _)),b,(IntKind.i64.wrap (c+1)),a,rfl,?_⟩;simp only[*,go_sem]
 obtain rfl:=sI h;refine bN ?_;simp only[go_sem];obtain rfl:=sI a;clear a;have h:=f;dsimp only[aB] at h;obtain rfl:=sI h;refine ah hJ ?_;simp only[*,go_sem];refine av ?_;simp only[*,go_sem]
def AH (u0:ak)(st:(Int×Int)):Option (Fl (Int×Int) Int):=
 cond (decide (st.2<(u0.told.length:Int))) (ag (bn u0.told st.2) fun a=>ag (nJ u0 a.aV) fun b=>cond (!b) (some (.rt 6)) (some (.nx (st.1,(IntKind.i64.wrap (st.2+1)))))) (some (.bk (st.1,st.2)))
def AI (u0:ak)(st:(Int×Int)):Option (Fl (Int×Int) Int):=
 cond (decide (st.2<(u0.aG.length:Int))) (ag (bn u0.aG st.2) fun a=>ag (ew a.back 1 20) fun b=>cond (!b) (some (.rt 1)) (ag (mo a.high 0 60) fun c=>cond (!c) (some (.rt 1)) (cond (decide (3<=(IntKind.i64.wrap (a.high.high - a.high.low)))) (some (.rt 1)) (some (.nx (st.1,(IntKind.i64.wrap (st.2+1)))))))) (some (.bk (st.1,st.2)))
def p6 (u0:ak)(st:(Int×Int)):Option (Fl (Int×Int) Int):=
 cond (decide (st.2<(u0.props.length:Int))) (ag (bn u0.props st.2) fun a=>ag (mj u0 a.place) fun b=>cond (!b) (some (.rt 6)) (ag (ew a.dF 1 20) fun c=>cond (!c) (some (.rt 1)) (some (.nx (st.1,(IntKind.i64.wrap (st.2+1))))))) (some (.bk (st.1,st.2)))
def wN (u0:ak)(st:(Int×Int)):Option (Fl (Int×Int) Int):=
 cond (decide (st.2<(u0.aG.length:Int))) (ag (bn u0.aG st.2) fun a=>ag (ew a.back 1 20) fun b=>cond (!b) (some (.rt 1)) (ag (mo a.high 0 60) fun c=>cond (!c) (some (.rt 1)) (cond (decide (3<=(IntKind.i64.wrap (a.high.high - a.high.low)))) (some (.rt 1)) (some (.nx (st.1,(IntKind.i64.wrap (st.2+1)))))))) (some (.bk (st.1,st.2)))
def wO (u0:ak)(st:(Int×Int)):Option (Fl (Int×Int) Int):=
 cond (decide (st.2<(u0.told.length:Int))) (ag (bn u0.told st.2) fun a=>ag (nJ u0 a.aV) fun b=>cond (!b) (some (.rt 6)) (some (.nx (st.1,(IntKind.i64.wrap (st.2+1)))))) (some (.bk (st.1,st.2)))
def mA (u0:ak):Option Int:=
 cond (decide (3<(u0.props.length:Int))) (some 2) (ag (aY (p6 u0) fu (0,0)) fun o=>aB o (fun a=>ag (ew (u0.aG.length:Int) 1 3) fun b=>cond (!b) (some 2) (ag (aY (wN u0) fu (a.1,0)) fun o=>aB o (fun c=>cond (decide (3<(u0.told.length:Int))) (some 2) (ag (aY (wO u0) fu (c.1,0)) fun o=>aB o (fun d=>some 0) (fun _ _=>none) (fun r=>some r))) (fun _ _=>none) (fun r=>some r))) (fun _ _=>none) (fun r=>some r))
theorem GN {ro:Addr->Option Value}(u0:ak){s1 N O P:Value}(b:bL ro u0 s1 N O P){r:Int}(h:mA u0=some r):aC Tryz.prog 95 #[bv u0 s1 N O P] ⟨ro,[]⟩ (fun v _=>v= .int .i64 r):=by
 obtain ⟨d10,w,rfl,ec,ed,-⟩:=id b.p;obtain ⟨d17,x,rfl,eh,et,-⟩:=id b.y;obtain ⟨d24,z,rfl,ev,eQ,-⟩:=id b.t;unfold mA at h;refine aC.go Tryz.func95 rfl Tryz.ntmps95 Tryz.results95 (by simp) fun main J hJ A ao hd hs=>?_;have ar:=hs 0;clear hs;refine ah hJ ?_;simp only[*,go_sem];refine az fun B eS a0=>?_;try simp only[au] at a0
 try simp only[*,go_sem]
 refine af hJ (ah hJ ?_);simp only[*,go_sem];revert h;refine jC hJ (by simp only[*,go_sem]) (fun a2 h=>?_) fun a2 h=>?_
 ·obtain rfl:=sI h;refine ah hJ ?_;simp only[*,go_sem];refine av ?_;simp only[*,go_sem]
 refine aH hJ (af hJ ?_);refine ah hJ ?_;simp only[*,go_sem];refine aO hJ ?_;revert h;refine bS fun a3 i C=>?_;refine bQ hJ [2,3,11,12,13,14,15,16,17,18,19,20,21,22,23,24,25,26,27,28,29,30,31,32,33,34] (fun m c F'=>∃(e:Int) (j:Int),aY (p6 u0) m (e,j)=some a3/\F'=⟨ro,(B,bk u0 s1 (sl d10 u0.props w) (sl d17 u0.aG x) (sl d24 u0.told z))::[]⟩/\slot c 2= .int .i64 e/\slot c 3= .int .i64 j) fu ?_ ?_
 ·refine ⟨0,0,i,rfl,?_⟩;simp only[*,go_sem]
 rintro D e0 F' Q ⟨e,j,i,rfl,a4,a5⟩;obtain ⟨R,S,T⟩:=Q.pick [1] (by decide);simp only[*,go_sem] at R S T;clear Q ao hd ar;obtain _|D:=D
 ·exact absurd i (by simp only[aY,reduceCtorEq,not_false_eq_true])
 revert i;refine bS fun e1 h d=>?_;unfold p6 at h;try dsimp only at h
 refine af hJ (ah hJ ?_);simp only[*,go_sem];revert h;refine jC hJ (by simp only[*,go_sem]) (fun a6 h=>?_) fun a6 h=>?_
 ·refine aH hJ (af hJ ?_);refine aO hJ (af hJ ?_);refine af hJ ?_;refine cQ hJ mixed 9 1 (by simp only[*,go_sem]) (by kernel_rfl) ?_;revert h;refine bS fun E a7 h=>?_;obtain ⟨e2,e3,U⟩:=cW a7;obtain ⟨fa,a8,a9,ba,G⟩:=b.p.el _ _ U;obtain rfl:a8=E.cells:=ba;cases a9;have bb:=G 0 _ rfl;simp only[go_sem] at bb;have bc:=G 1 _ rfl;simp only[go_sem] at bc;clear G U;revert h;refine bS fun fb bd h=>?_;try simp only[*,go_sem]
  refine ⟨_,bC hJ fun F H=>GG u0 (b.mono (b8 H)) E.place bd,bY ?_⟩;try simp only[*,go_sem]
  revert h;refine jC hJ (by simp only[*,go_sem]) (fun bj h=>?_) fun bj h=>?_
  ·obtain rfl:=sI h;refine ah hJ ?_;simp only[*,go_sem];obtain rfl:=sI d;clear d;have h:=C;dsimp only[aB] at h;obtain rfl:=sI h;refine av ?_;simp only[*,go_sem]
  refine aH hJ (af hJ ?_);refine aj hJ ?_;revert h;refine bS fun fg bl h=>?_;simp only[*,go_sem];refine bh hJ _ (gP E.dF 1 20 bl) (aJ ?_);try simp only[*,go_sem]
  revert h;refine jC hJ (by simp only[*,go_sem]) (fun bm h=>?_) fun bm h=>?_
  ·obtain rfl:=sI h;refine ah hJ ?_;simp only[*,go_sem];obtain rfl:=sI d;clear d;have h:=C;dsimp only[aB] at h;obtain rfl:=sI h;refine av ?_;simp only[*,go_sem]
  obtain rfl:=sI h;refine aH hJ (aj hJ ?_);simp only[*,go_sem];refine ⟨D,Nat.lt_succ_self _,_,Le.sub (List.Sublist.refl _),e,(IntKind.i64.wrap (j+1)),d,rfl,?_⟩;simp only[*,go_sem]
 obtain rfl:=sI h;refine bN ?_;simp only[go_sem];obtain rfl:=sI d;clear d;have h:=C;dsimp only[aB] at h;refine af hJ (ah hJ ?_);revert h;refine bS fun fi bo h=>?_;simp only[*,go_sem];refine bh hJ _ (gP (u0.aG.length:Int) 1 3 bo) (aJ ?_);try simp only[*,go_sem]
 revert h;refine jC hJ (by simp only[*,go_sem]) (fun br h=>?_) fun br h=>?_
 ·obtain rfl:=sI h;refine ah hJ ?_;simp only[*,go_sem];refine av ?_;simp only[*,go_sem]
 refine aH hJ (af hJ ?_);refine ah hJ ?_;simp only[*,go_sem];refine aO hJ ?_;revert h;refine bS fun bs k l=>?_;refine bQ hJ [2,4,5,40,41,42,43,44,45,46,47,48,49,50,51,52,53,54,55,56,57,58,59,60,61,62,63,64,65,66,67,68,69,70,71] (fun m c F'=>∃(f:Int) (n:Int),aY (AI u0) m (f,n)=some bs/\F'=⟨ro,(B,bk u0 s1 (sl d10 u0.props w) (sl d17 u0.aG x) (sl d24 u0.told z))::[]⟩/\slot c 2= .int .i64 f/\slot c 4= .int .i64 n) fu ?_ ?_
 ·refine ⟨e,0,k,rfl,?_⟩;simp only[*,go_sem]
 rintro I fp F' V ⟨f,n,k,rfl,bz,b0⟩;obtain ⟨W,X,Y⟩:=V.pick [1] (by decide);simp only[*,go_sem] at W X Y;clear V R S T a4 a5;obtain _|I:=I
 ·exact absurd k (by simp only[aY,reduceCtorEq,not_false_eq_true])
 revert k;refine bS fun fr h a=>?_;unfold AI at h;try dsimp only at h
 refine af hJ (ah hJ ?_);simp only[*,go_sem];revert h;refine jC hJ (by simp only[*,go_sem]) (fun b1 h=>?_) fun b1 h=>?_
 ·refine aH hJ (af hJ ?_);refine aO hJ (af hJ ?_);refine aj hJ ?_;revert h;refine bS fun K b2 h=>?_;obtain ⟨fs,ft,Z⟩:=cW b2;obtain ⟨fv,b3,b4,b5,o⟩:=b.y.el _ _ Z;obtain rfl:b3=K.cells:=b5;cases b4;have ca:=o 0 _ rfl;simp only[go_sem] at ca;have cb:=o 1 _ rfl;simp only[go_sem] at cb;have cd:=o 2 _ rfl;simp only[go_sem] at cd;clear o Z;try simp only[*,go_sem]
  refine az fun fw fx cf=>?_;try simp only[au] at cf
  try simp only[*,go_sem]
  refine ah hJ ?_;revert h;refine bS fun gg cl h=>?_;simp only[*,go_sem];refine bh hJ _ (gP K.back 1 20 cl) (aJ ?_);revert h;refine cS (fun cy h=>?_) fun cy h=>?_
  ·obtain rfl:=sI h;(try simp only[*,go_sem]);refine bK hJ (by simp only[*,go_sem]) ?_;refine ah hJ ?_;simp only[*,go_sem];obtain rfl:=sI a;clear a;have h:=l;dsimp only[aB] at h;obtain rfl:=sI h;refine av ?_;simp only[*,go_sem]
  revert h;refine bS fun gl c0 h=>?_;try simp only[*,go_sem]
  refine bh hJ _ (GI K.high 0 60 c0) (aJ ?_);revert h;refine cS (fun da h=>?_) fun da h=>?_
  ·obtain rfl:=sI h;(try simp only[*,go_sem]);refine bK hJ (by simp only[*,go_sem]) ?_;refine ah hJ ?_;simp only[*,go_sem];obtain rfl:=sI a;clear a;have h:=l;dsimp only[aB] at h;obtain rfl:=sI h;refine av ?_;simp only[*,go_sem]
  try simp only[*,go_sem]
  revert h;refine jC hJ (by simp only[*,go_sem]) (fun db h=>?_) fun db h=>?_
  ·obtain rfl:=sI h;refine ah hJ ?_;simp only[*,go_sem];obtain rfl:=sI a;clear a;have h:=l;dsimp only[aB] at h;obtain rfl:=sI h;refine av ?_;simp only[*,go_sem]
  obtain rfl:=sI h;refine aH hJ (aj hJ ?_);simp only[*,go_sem];refine ⟨I,Nat.lt_succ_self _,_,Le.sub (List.Sublist.cons _ (List.Sublist.refl _)),f,(IntKind.i64.wrap (n+1)),a,rfl,?_⟩;simp only[*,go_sem]
 obtain rfl:=sI h;refine bN ?_;simp only[go_sem];obtain rfl:=sI a;clear a;have h:=l;dsimp only[aB] at h;refine af hJ (ah hJ ?_);simp only[*,go_sem];revert h;refine jC hJ (by simp only[*,go_sem]) (fun dd h=>?_) fun dd h=>?_
 ·obtain rfl:=sI h;refine ah hJ ?_;simp only[*,go_sem];refine av ?_;simp only[*,go_sem]
 refine aH hJ (af hJ ?_);refine ah hJ ?_;simp only[*,go_sem];refine aO hJ ?_;revert h;refine bS fun df q ab=>?_;refine bQ hJ [2,6,76,77,78,79,80,81,82,83,84,85,86,87,88,89,90,91] (fun m c F'=>∃(s:Int) (u:Int),aY (AH u0) m (s,u)=some df/\F'=⟨ro,(B,bk u0 s1 (sl d10 u0.props w) (sl d17 u0.aG x) (sl d24 u0.told z))::[]⟩/\slot c 2= .int .i64 s/\slot c 6= .int .i64 u) fu ?_ ?_
 ·refine ⟨f,0,q,rfl,?_⟩;simp only[*,go_sem]
 rintro L gn F' ad ⟨s,u,q,rfl,gp,gB⟩;obtain ⟨dk,dp,dq⟩:=ad.pick [1] (by decide);simp only[*,go_sem] at dk dp dq;clear ad W X Y bz b0;obtain _|L:=L
 ·exact absurd q (by simp only[aY,reduceCtorEq,not_false_eq_true])
 revert q;refine bS fun gC h g=>?_;unfold AH at h;try dsimp only at h
 refine af hJ (ah hJ ?_);simp only[*,go_sem];revert h;refine jC hJ (by simp only[*,go_sem]) (fun ds h=>?_) fun ds h=>?_
 ·refine aH hJ (af hJ ?_);refine aO hJ (af hJ ?_);refine cQ hJ mixed 9 1 (by simp only[*,go_sem]) (by kernel_rfl) ?_;revert h;refine bS fun ae dt h=>?_;obtain ⟨gM,gT,al⟩:=cW dt;obtain ⟨gV,du,dv,dC,M⟩:=b.t.el _ _ al;obtain rfl:du=ae.cells:=dC;cases dv;have dE:=M 0 _ rfl;simp only[go_sem] at dE;have dT:=M 1 _ rfl;simp only[go_sem] at dT;clear M al;revert h;refine bS fun g0 ea h=>?_;try simp only[*,go_sem]
  refine ⟨_,bC hJ fun F H=>GH u0 (b.mono (b8 H)) ae.aV ea,bY ?_⟩;try simp only[*,go_sem]
  revert h;refine jC hJ (by simp only[*,go_sem]) (fun eb h=>?_) fun eb h=>?_
  ·obtain rfl:=sI h;refine ah hJ ?_;simp only[*,go_sem];obtain rfl:=sI g;clear g;have h:=ab;dsimp only[aB] at h;obtain rfl:=sI h;refine av ?_;simp only[*,go_sem]
  obtain rfl:=sI h;refine aH hJ (aj hJ ?_);simp only[*,go_sem];refine ⟨L,Nat.lt_succ_self _,_,Le.sub (List.Sublist.refl _),s,(IntKind.i64.wrap (u+1)),g,rfl,?_⟩;simp only[*,go_sem]
 obtain rfl:=sI h;refine bN ?_;simp only[go_sem];obtain rfl:=sI g;clear g;have h:=ab;dsimp only[aB] at h;obtain rfl:=sI h;refine ah hJ ?_;simp only[*,go_sem];refine av ?_;simp only[*,go_sem]
def mB (u0:ak):Option Int:=
 ag (ew u0.bH 2 60) fun c=>cond (!c) (some 1) (ag (ew u0.bO 0 60) fun d=>cond (!d) (some 1) (ag (ew u0.aW.den 1 20) fun e=>cond (!e) (some 1) (ag (ew u0.aW.num 0 20) fun f=>cond (!f) (some 1) (ag (gw u0.aW.num u0.aW.den) fun a=>cond (!((a.num==u0.aW.num)&&(a.den==u0.aW.den))) (some 3) (ag (mz u0) fun b=>cond ((b != 0)) (some b) (ag (mA u0) fun g=>some g))))))
theorem GO {ro:Addr->Option Value}(u0:ak){s1 a b c:Value}(d:bL ro u0 s1 a b c){r:Int}(h:mB u0=some r):aC Tryz.prog 39 #[bv u0 s1 a b c] ⟨ro,[]⟩ (fun v _=>v= .int .i64 r):=by
 unfold mB at h;refine aC.go Tryz.func39 rfl Tryz.ntmps39 Tryz.results39 (by simp) fun main J hJ A e hd hs=>?_;have f:=hs 0;clear hs;refine ah hJ ?_;simp only[*,go_sem];refine az fun E G g=>?_;try simp only[au] at g
 try simp only[*,go_sem]
 refine af hJ (ah hJ ?_);revert h;refine bS fun H i h=>?_;simp only[*,go_sem];refine bh hJ _ (gP u0.bH 2 60 i) (aJ ?_);revert h;refine cS (fun j h=>?_) fun j h=>?_
 ·obtain rfl:=sI h;try simp only[*,go_sem]
  refine bK hJ (by simp only[*,go_sem]) ?_;refine ah hJ ?_;simp only[*,go_sem];refine av ?_;simp only[*,go_sem]
 revert h;refine bS fun I k h=>?_;try simp only[*,go_sem]
 refine bh hJ _ (gP u0.bO 0 60 k) (aJ ?_);revert h;refine cS (fun l h=>?_) fun l h=>?_
 ·obtain rfl:=sI h;try simp only[*,go_sem]
  refine bK hJ (by simp only[*,go_sem]) ?_;refine ah hJ ?_;simp only[*,go_sem];refine av ?_;simp only[*,go_sem]
 revert h;refine bS fun K m h=>?_;try simp only[*,go_sem]
 refine bh hJ _ (gP u0.aW.den 1 20 m) (aJ ?_);revert h;refine cS (fun n h=>?_) fun n h=>?_
 ·obtain rfl:=sI h;try simp only[*,go_sem]
  refine bK hJ (by simp only[*,go_sem]) ?_;refine ah hJ ?_;simp only[*,go_sem];refine av ?_;simp only[*,go_sem]
 revert h;refine bS fun L o h=>?_;try simp only[*,go_sem]
 refine bh hJ _ (gP u0.aW.num 0 20 o) (aJ ?_);try simp only[*,go_sem]
 revert h;refine jC hJ (by simp only[*,go_sem]) (fun p h=>?_) fun p h=>?_
 ·obtain rfl:=sI h;refine ah hJ ?_;simp only[*,go_sem];refine av ?_;simp only[*,go_sem]
 refine aH hJ (af hJ ?_);refine af hJ ?_;refine cQ hJ mixed 10 1 (by simp only[*,go_sem]) (by kernel_rfl) ?_;revert h;refine bS fun M q h=>?_;simp only[*,go_sem];refine ⟨_,bC hJ fun F N=>AF u0.aW.num u0.aW.den q,bY ?_⟩;try simp only[*,go_sem]
 revert h;refine jC hJ (by simp only[*,go_sem]) (fun s h=>?_) fun s h=>?_
 ·obtain rfl:=sI h;refine af hJ ?_;refine fL [1,2] fun O t u w=>?_;simp only[*,go_sem] at t u w;clear e hd f;refine aj hJ ?_;simp only[*,go_sem];refine av ?_;simp only[*,go_sem]
 refine aH hJ (af hJ ?_);refine af hJ ?_;refine fL [1,2] fun P x y z=>?_;simp only[*,go_sem] at x y z;clear e hd f;refine aj hJ ?_;revert h;refine bS fun Q B h=>?_;simp only[*,go_sem];refine bh hJ _ (GM u0 (d.mono aQ) B) (aJ ?_);try simp only[*,go_sem]
 refine ah hJ ?_;simp only[*,go_sem];revert h;refine jC hJ (by simp only[*,go_sem]) (fun C h=>?_) fun C h=>?_
 ·obtain rfl:=sI h;refine ah hJ ?_;simp only[*,go_sem];refine av ?_;simp only[*,go_sem]
 refine aH hJ (af hJ ?_);refine aj hJ ?_;revert h;refine bS fun R D h=>?_;obtain rfl:=sI h;simp only[*,go_sem];refine bh hJ _ (GN u0 (d.mono aQ) D) (aJ ?_);try simp only[*,go_sem]
 refine av ?_;simp only[*,go_sem]
def wP (u0:aZ):Option Int:=
 ag (ew u0.back 1 20) fun a=>cond (!a) (some 1) (ag (ew u0.high 0 60) fun b=>cond (!b) (some 1) (some 0))
theorem GP:Tryz.prog.underlying 3=some (.int .i64):=by kernel_rfl
theorem GQ:Tryz.prog.underlying 5=some (.int .u8):=by kernel_rfl
attribute [go_sem] GP GQ
def nO (u0:ak):Option Bool:=
 ag (mq u0) fun a=>cond (!a) (ag (mB u0) fun b=>some (b==0)) (some false)
theorem GR {ro:Addr->Option Value}(u0:ak){s1 b c d:Value}(a:bL ro u0 s1 b c d){r:Bool}(h:nO u0=some r):aC Tryz.prog 12 #[bv u0 s1 b c d] ⟨ro,[]⟩ (fun v _=>v= .bool r):=by
 obtain ⟨d3,c4,rfl,k,l,-⟩:=id a.e;obtain ⟨d10,m,rfl,n,o,-⟩:=id a.p;obtain ⟨d17,q,rfl,s,u,-⟩:=id a.y;obtain ⟨d24,w,rfl,x,z,-⟩:=id a.t;unfold nO at h;refine aC.go Tryz.func12 rfl Tryz.ntmps12 Tryz.results12 (by simp) fun main J hJ A B hd hs=>?_;have C:=hs 0;clear hs;refine ah hJ ?_;simp only[*,go_sem];refine az fun D E f=>?_;try simp only[au] at f
 try simp only[*,go_sem]
 refine ah hJ ?_;revert h;refine bS fun F g h=>?_;simp only[*,go_sem];refine bh hJ _ (GJ u0 (a.mono aQ) g) (aJ ?_);revert h;refine cS (fun i h=>?_) fun i h=>?_
 ·revert h;refine bS fun G j h=>?_;obtain rfl:=sI h;try simp only[*,go_sem]
  refine bh hJ _ (GO u0 (a.mono aQ) j) (aJ ?_);try simp only[*,go_sem]
  refine av ?_;simp only[*,go_sem]
 obtain rfl:=sI h;try simp only[*,go_sem]
 refine av ?_;simp only[*,go_sem]
def nP (u0:an):Option Bool:=
 cond (decide (0<u0.den)) (cond (decide (u0.den<1048576)) (ag (ew u0.num (-1073741824) 1073741824) fun b=>cond (b) (ag (gw u0.num u0.den) fun a=>some ((a.num==u0.num)&&(a.den==u0.den))) (some false)) (some false)) (some false)
theorem GU {ro:Addr->Option Value}(u0:an){r:Bool}(h:nP u0=some r):aC Tryz.prog 28 #[.agg #[.int .i64 u0.num,.int .i64 u0.den]] ⟨ro,[]⟩ (fun v _=>v= .bool r):=by
 unfold nP at h;refine aC.go Tryz.func28 rfl Tryz.ntmps28 Tryz.results28 (by simp) fun main J hJ A g hd hs=>?_;have i:=hs 0;clear hs;refine ah hJ ?_;simp only[*,go_sem];refine az fun j r1 n1=>?_;try simp only[au] at n1
 try simp only[*,go_sem]
 refine af hJ ?_;refine cQ hJ mixed 23 1 (by simp only[*,go_sem]) (by kernel_rfl) ?_;revert h;refine cS (fun a h=>?_) fun a h=>?_
 ·revert h;refine cS (fun b h=>?_) fun b h=>?_
  ·revert h;refine bS fun k c h=>?_;(try simp only[*,go_sem]);refine ⟨_,bC hJ fun F d=>gP u0.num (-1073741824) 1073741824 c,bY ?_⟩;revert h;refine cS (fun e h=>?_) fun e h=>?_
   ·revert h;refine bS fun l f h=>?_;obtain rfl:=sI h;(try simp only[*,go_sem]);refine ⟨_,bC hJ fun F d=>AF u0.num u0.den f,bY ?_⟩;(try simp only[*,go_sem]);refine av ?_;simp only[*,go_sem]
   obtain rfl:=sI h;(try simp only[*,go_sem]);refine av ?_;simp only[*,go_sem]
  obtain rfl:=sI h;try simp only[*,go_sem]
  refine av ?_;simp only[*,go_sem]
 obtain rfl:=sI h;try simp only[*,go_sem]
 refine av ?_;simp only[*,go_sem]
end Go.Proofs.YtpgcmoanfifglaaGreatDoor
end
section
namespace Go.Sep
open Go Go.Conc
variable {P : Program} {main : Bool} {J : Goroutine → aa → Prop} {Q : Ex → Act → aa → Prop} {a : Act} {F : aa}
theorem wQ (hJ:Closed P main J){x y:Code}(E:Act->aa->Prop)(c:Wp J x (Qn E Q) a F)(d:∀a F,E a F->Wp J y Q a F):Wp J x (qy J y Q) a F:=
 c.mono fun e a F b=>by
  cases e with
  |normal=>obtain ⟨F0,hle,f⟩:=b;exact cB hJ hle (d a F0 f)
  |exit i=>exact b
  |ret=>exact b
end Go.Sep
end
section
namespace Go.Proofs.YtpgcmoanfifglaaGreatDoor
open Go Go.Sep Go.Proofs
set_option maxRecDepth 100000
set_option maxHeartbeats 4000000
def su (u0:ak)(c:aZ)(st:(Int×Int×an)):Option (Fl (Int×Int×an) (Int×an)):=
 cond (decide (st.2.1<(u0.aD.length:Int))) (ag (bn u0.aD st.2.1) fun b=>ag (mm u0 c b.aL (⟨b.high,1⟩:an)) fun a=>cond ((st.2.1==0)) (some (.nx (st.2.1,(IntKind.i64.wrap (st.2.1+1)),a))) (ag (gv st.2.2 a) fun d=>cond (d) (some (.nx (st.2.1,(IntKind.i64.wrap (st.2.1+1)),a))) (some (.nx (st.1,(IntKind.i64.wrap (st.2.1+1)),st.2.2))))) (some (.bk (st.1,st.2.1,st.2.2)))
def wR (u0:ak)(b:aZ):Option (Int×an):=
 ag (aY (su u0 b) fu (0,0,(⟨0,0⟩:an))) fun o=>aB o (fun a=>some (a.1,a.2.2)) (fun _ _=>none) (fun r=>some r)
def sw (u0:ak)(c:Int)(st:Int):Option (Fl Int an):=
 cond (decide ((IntKind.i64.wrap (st+1))<(u0.aD.length:Int))) (ag (bn u0.aD st) fun a=>ag (bn u0.aD (IntKind.i64.wrap (st+1))) fun b=>cond (decide (c<=b.aL)) (ag (gw (IntKind.i64.wrap ((IntKind.i64.wrap (a.high*(IntKind.i64.wrap (b.aL - a.aL))))+(IntKind.i64.wrap ((IntKind.i64.wrap (b.high - a.high))*(IntKind.i64.wrap (c - a.aL)))))) (IntKind.i64.wrap (b.aL - a.aL))) fun d=>some (.rt d)) (some (.nx (IntKind.i64.wrap (st+1))))) (some (.bk st))
def p7 (u0:ak)(a:Int):Option an:=
 ag (aY (sw u0 a) fu 0) fun o=>aB o (fun b=>some (⟨0,0⟩:an)) (fun _ _=>none) (fun r=>some r)
def sx (u0:ak)(d:aZ)(st:(Int×an)):Option (Fl (Int×an) (an×Bool)):=
 cond (decide (st.1<(u0.props.length:Int))) (ag (bn u0.props st.1) fun a=>ag (p7 u0 a.place) fun b=>ag (gw (IntKind.i64.wrap (b.num+(IntKind.i64.wrap (a.dF*b.den)))) b.den) fun e=>ag (mm u0 d a.place e) fun c=>cond ((st.1==0)) (ag (fP c c) fun f=>some (.nx ((IntKind.i64.wrap (st.1+1)),f))) (ag (fP st.2 c) fun g=>some (.nx ((IntKind.i64.wrap (st.1+1)),g)))) (some (.bk (st.1,st.2)))
def kU (u0:ak)(a:aZ):Option (an×Bool):=
 ag (aY (sx u0 a) fu (0,(⟨0,0⟩:an))) fun o=>aB o (fun b=>some (b.2,decide (0<(u0.props.length:Int)))) (fun _ _=>none) (fun r=>some r)
def p8 (u0:ak)(b:aZ):Option an:=
 ag (wR u0 b) fun a=>ag (gv a.2 (⟨u0.bO,1⟩:an)) fun e=>cond (e) (ag (kU u0 b) fun c=>cond (c.2) (ag (fP a.2 c.1) fun f=>ag (j0 (⟨u0.bO,1⟩:an) f) fun g=>ag (fP g (⟨0,1⟩:an)) fun h=>some h) (ag (j0 (⟨u0.bO,1⟩:an) a.2) fun i=>ag (fP i (⟨0,1⟩:an)) fun j=>some j)) (ag (kU u0 b) fun d=>cond (d.2) (ag (fP (⟨u0.bO,1⟩:an) d.1) fun k=>ag (j0 a.2 k) fun l=>ag (fP l (⟨0,1⟩:an)) fun m=>some m) (ag (j0 a.2 (⟨u0.bO,1⟩:an)) fun n=>ag (fP n (⟨0,1⟩:an)) fun o=>some o))
def sA (u0:ak)(a:aZ):Option Bool:=
 ag (p8 u0 a) fun b=>ag (gv u0.aW b) fun c=>some c
def wS (u0:ak)(b:(List Int))(st:(Bool×Int)):Option (Fl (Bool×Int) Bool):=
 cond (decide (st.2<(u0.told.length:Int))) (ag (bn u0.told st.2) fun a=>ag (bn b a.aV) fun c=>ag (AG u0 a.aV c) fun d=>ag (sA u0 d) fun e=>cond (!(e==a.bt)) (some (.rt false)) (some (.nx (st.1,(IntKind.i64.wrap (st.2+1)))))) (some (.bk (st.1,st.2)))
def wT (u0:ak)(a:(List Int)):Option Bool:=
 ag (aY (wS u0 a) fu (false,0)) fun o=>aB o (fun b=>some true) (fun _ _=>none) (fun r=>some r)
def dH {α:Type}(t:Nat->α->Option Int):Nat->List α->Option Int
 |_,[]=>none
 |i,x::l=>match t i x with
  |some r=>some r
  |none=>dH t (i+1) l
def gQ {σ:Type}(o:Option Int)(s:σ):Fl σ Int:=match o with
 |some r=>.rt r
 |none=>.nx s
theorem p9 {α σ:Type}{f:Nat->α->σ->Option (Fl σ Int)}{t:Nat->α->Option Int}:∀(l:List α) (i:Nat) (s:σ),(∀j x s,l[j]?=some x->f (i+j) x s=some (gQ (t (i+j) x) s))->bF f i l s=some (gQ (dH t i l) s)
 |[],i,s,_=>rfl
 |x::l,i,s,h=>by
  have a:=h 0 x s rfl
  simp only[Nat.add_zero] at a
  unfold bF dH
  rw[a]
  cases ht:t i x with
  |some r=>rfl
  |none=>
   show bF f (i+1) l s=_
   exact p9 l (i+1) s fun j y s b=>by
    have:=h (j+1) y s (by simpa using b)
    rwa [show i+(j+1)=i+1+j by omega] at this
theorem AJ {α σ:Type}{f:σ×Int->Option (Fl (σ×Int) Int)}{t:Nat->α->Option Int}(l:List α)(h:∀(i:Nat) x s,l[i]?=some x->f (s,(i:Int))=some (gQ (t i x) (s,((i+1:Nat):Int))))(a:∀s,f (s,(l.length:Int))=some (.bk (s,(l.length:Int)))):
  ∀(k i n:Nat) (s:σ),i+k=l.length->k<n->aY f n (s,(i:Int))=some (gQ (dH t i (l.drop i)) (s,(l.length:Int)))
 |0,i,n+1,s,hi,_=>by
  obtain rfl:i=l.length:=by omega
  unfold aY
  rw[a,List.drop_length]
  rfl
 |k+1,i,n+1,s,hi,d=>by
  have b:i<l.length:=by omega
  have c:l[i]?=some l[i]:=List.getElem?_eq_getElem b
  unfold aY
  rw[h i _ s c,List.drop_eq_getElem_cons b]
  unfold dH
  cases ht:t i l[i] with
  |some r=>rfl
  |none=>exact AJ l h a k (i+1) n s (by omega) (by omega)
theorem sB {α σ:Type}{f:σ×Int->Option (Fl (σ×Int) Int)}{t:Nat->α->Option Int}(l:List α)(a:l.length<=1000)(h:∀(i:Nat) x s,l[i]?=some x->f (s,(i:Int))=some (gQ (t i x) (s,((i+1:Nat):Int))))(b:∀s,f (s,(l.length:Int))=some (.bk (s,(l.length:Int))))(s:σ):
  aY f fu (s,0)=some (gQ (dH t 0 l) (s,(l.length:Int))):=by
 have:=AJ l h b l.length 0 fu s (by omega) (Nat.lt_of_le_of_lt a (by decide))
 simpa using this
theorem j4:fC=ew:=rfl
theorem GV:pq=mo:=rfl
def bI (a lo hi:Int):Bool:=decide (lo<=a)&&decide (a<=hi)
theorem eP (a lo hi:Int):ew a lo hi=some (bI a lo hi):=by
 unfold ew bI;cases decide (lo<=a)<;>rfl
def kV (b:de)(lo hi:Int):Bool:=decide (lo<=b.low)&&(decide (b.low<=b.high)&&decide (b.high<=hi))
theorem AK (b:de)(lo hi:Int):mo b lo hi=some (kV b lo hi):=by
 unfold mo kV;cases decide (lo<=b.low)<;>cases decide (b.low<=b.high)<;>rfl
theorem c6 {n:Int}(h: -9223372036854775808<=n/\n<9223372036854775808):IntKind.i64.wrap n=n:=IntWalk.i64_in _ (by constructor<;>omega)
def gy (u:ak)(i:Nat)(x:b7):Option Int:=
 cond (bI x.aL 0 (IntKind.i64.wrap (u.bH - 1))) (cond (bI x.high 0 60) (match i with
  |0=>none
  |j+1=>match u.aD[j]? with
   |some y=>cond (decide (x.aL<=y.aL)) (some 7) none
   |none=>none) (some 1)) (some 1)
theorem AL (u:ak)(g:u.aD.length<=20):kO u=some (cond (bI u.aD.length 2 5) ((dH (gy u) 0 u.aD).getD 0) 2)/\mz u=kO u:=by
 have key:kO u=some (cond (bI u.aD.length 2 5) ((dH (gy u) 0 u.aD).getD 0) 2):=by
  unfold kO;rw[j4,eP];show cond (!bI (u.aD.length:Int) 2 5) _ _=_;cases bI (u.aD.length:Int) 2 5 with
  |false=>rfl
  |true=>
   show ag (bF _ 0 u.aD 0) _=_;rw[p9 (t:=gy u) u.aD 0 0 ?_]
   ·show aB (gQ _ _) _ _ _=_;cases dH (gy u) 0 u.aD<;>rfl
   ·intro j x s b;rw[Nat.zero_add];unfold rF gy;rw[j4,eP,eP];show cond (!bI x.aL 0 _) _ _=_;cases bI x.aL 0 (IntKind.i64.wrap (u.bH - 1)) with
    |false=>rfl
    |true=>
     show cond (!bI x.high 0 60) _ _=_;cases bI x.high 0 60 with
     |false=>rfl
     |true=>
      cases j with
      |zero=>rfl
      |succ j=>
       have d:=(List.getElem?_eq_some_iff.1 b).1;have a:u.aD[j]?=some u.aD[j]:=List.getElem?_eq_getElem (by omega);have hw:IntKind.i64.wrap (((j+1:Nat):Int) - 1)=(j:Int):=by rw[c6 (by omega)];omega
       have hd:decide (0<((j+1:Nat):Int))=true:=decide_eq_true (by omega);show cond (decide (0<((j+1:Nat):Int))) _ _=_;rw[hd,hw];have hi:bn u.aD (j:Int)=some u.aD[j]:=by unfold bn;rw[if_pos (by omega),Int.toNat_natCast,a]
       show ag (bn u.aD (j:Int)) _=_;rw[hi];simp only[a];show cond (decide (x.aL<=u.aD[j].aL)) _ _=_;cases decide (x.aL<=u.aD[j].aL)<;>rfl
 refine ⟨key,?_⟩;rw[key];unfold mz;rw[eP];show cond (!bI (u.aD.length:Int) 2 5) _ _=_;cases bI (u.aD.length:Int) 2 5 with
 |false=>rfl
 |true=>
  show ag (aY _ fu (0,0)) _=_;rw[sB (t:=gy u) u.aD (by omega) ?_ ?_ 0]
  ·show aB (gQ _ _) _ _ _=_;cases dH (gy u) 0 u.aD<;>rfl
  ·intro j x s b;unfold p5 gy;have d:=(List.getElem?_eq_some_iff.1 b).1;have c:decide ((j:Int)<(u.aD.length:Int))=true:=decide_eq_true (by omega);have e:bn u.aD (j:Int)=some x:=by unfold bn;rw[if_pos (by omega),Int.toNat_natCast,b]
   have f:IntKind.i64.wrap ((j:Int)+1)=((j+1:Nat):Int):=by rw[c6 (by omega)];omega
   show cond (decide ((j:Int)<(u.aD.length:Int))) (ag (bn u.aD (j:Int)) _) _=_;rw[c,e,cond_true];show ag (ew x.aL 0 (IntKind.i64.wrap (u.bH - 1))) _=_;rw[eP];show cond (!bI x.aL 0 _) _ (ag (ew x.high 0 60) _)=_;rw[eP];cases bI x.aL 0 (IntKind.i64.wrap (u.bH - 1)) with
   |false=>rfl
   |true=>
    show cond (!bI x.high 0 60) _ _=_;cases bI x.high 0 60 with
    |false=>rfl
    |true=>
     cases j with
     |zero=>rfl
     |succ j=>
      have a:u.aD[j]?=some u.aD[j]:=List.getElem?_eq_getElem (by omega);have hw:IntKind.i64.wrap (((j+1:Nat):Int) - 1)=(j:Int):=by rw[c6 (by omega)];omega
      have hd:decide (0<((j+1:Nat):Int))=true:=decide_eq_true (by omega);have hi:bn u.aD (j:Int)=some u.aD[j]:=by unfold bn;rw[if_pos (by omega),Int.toNat_natCast,a]
      dsimp only;simp only[hd,hw,hi,f,a,ag,cond_true,Bool.not_true,cond_false];cases decide (x.aL<=u.aD[j].aL)<;>rfl
  ·intro s;unfold p5;have c:decide ((u.aD.length:Int)<(u.aD.length:Int))=false:=decide_eq_false (by omega);show cond (decide ((u.aD.length:Int)<(u.aD.length:Int))) _ _=_;rw[c];rfl
theorem AM {ρ:Type}{f:Int×Int->Option (Fl (Int×Int) ρ)}(d:∀a b:Nat,a<9223372036854775808->b<9223372036854775808->b≠0->f ((a:Int),(b:Int))=some (.nx ((b:Int),((a % b:Nat):Int))))(e:∀a:Nat,f ((a:Int),0)=some (.bk ((a:Int),0))):
  ∀(b a k:Nat),a<9223372036854775808->b<9223372036854775808->b<k->aY f k ((a:Int),(b:Int))=some (.nx (((Nat.gcd a b:Nat):Int),0)):=by
 intro b
 induction b using Nat.strongRecOn with
 |ind b ih=>
  intro a k g hb h
  obtain ⟨k,rfl⟩:∃m,k=m+1:=⟨k - 1,by omega⟩
  unfold aY
  by_cases c:b=0
  ·subst c
   have:=e a
   rw[show ((0:Nat):Int)=0 from rfl,this,Nat.gcd_zero_right]
   rfl
  ·rw[d a b g hb c]
   show aY f k ((b:Int),((a % b:Nat):Int))=_
   have hm:a % b<b:=Nat.mod_lt _ (by omega)
   rw[ih (a % b) hm b k hb (by omega) (by omega),Nat.gcd_comm a b,Nat.gcd_rec b a,Nat.gcd_comm]
theorem AN (a b:Nat)(d:a<9223372036854775808)(hb:b<9223372036854775808)(h:b≠0):lP (a:Int) (b:Int)=some ((a % b:Nat):Int):=by
 unfold lP;have c:¬(b:Int)=0:=by omega
 rw[if_neg c];have e:((a:Int).tmod (b:Int))=((a % b:Nat):Int):=by
  rw[Int.tmod_eq_emod_of_nonneg (by omega)];rfl
 rw[e]
theorem GW (a k:Nat)(b:Nat)(c:a<9223372036854775808)(hb:b<9223372036854775808)(d:b<k):aY pz k ((a:Int),(b:Int))=some (.nx (((Nat.gcd a b:Nat):Int),0)):=by
 refine AM (fun a b c hb e=>?_) (fun a=>rfl) b a k c hb d;unfold pz;have:(((b:Nat):Int) != 0)=true:=by simp;omega
 dsimp only;rw[this,AN a b c hb e];rfl
theorem GX (a k:Nat)(b:Nat)(c:a<9223372036854775808)(hb:b<9223372036854775808)(d:b<k):aY nL k ((a:Int),(b:Int))=some (.nx (((Nat.gcd a b:Nat):Int),0)):=by
 refine AM (fun a b c hb e=>?_) (fun a=>rfl) b a k c hb d;unfold nL;have:decide (0<((b:Nat):Int))=true:=decide_eq_true (by omega);dsimp only;rw[this,AN a b c hb e];rfl
def bB (n:Int)(d:Nat):an:=⟨n.tdiv (Nat.gcd n.natAbs d:Nat),(d:Int).tdiv (Nat.gcd n.natAbs d:Nat)⟩
theorem sC (a b:Int)(hb:0<b)(c: -9000000000000000000<=a/\a<=9000000000000000000):fy a b=some (a.tdiv b):=by
 unfold fy;rw[if_neg (by omega)];congr 1;have d:(a.tdiv b).natAbs<=a.natAbs:=by rw[Int.natAbs_tdiv];exact Nat.div_le_self _ _
 exact c6 (by omega)
theorem AO (n:Int)(h: -9000000000000000000<=n/\n<=9000000000000000000):(if n<IntKind.i64.wrap (0 - n) then IntKind.i64.wrap (0 - n) else n)=(n.natAbs:Int):=by
 rw[c6 (by omega)];split<;>omega
theorem qa (n:Int)(d:Nat)(a: -9000000000000000000<=n/\n<=9000000000000000000)(hd:0<d)(b:d<900000000000000000):jV n d=some (bB n d):=by
 unfold jV;rw[AO n a,GW n.natAbs fu d (by omega) (by omega) (Nat.lt_trans b (by decide))];have hg:0<Nat.gcd n.natAbs d:=Nat.gcd_pos_of_pos_right _ hd;show ag (fy n _) (fun x=>ag (fy d _) fun y=>_)=_;rw[sC n _ (by omega) a,sC d _ (by omega) (by omega)];rfl
theorem nS (n:Int)(d:Nat)(a: -9000000000000000000<=n/\n<=9000000000000000000)(hd:0<d)(b:d<900000000000000000):gw n d=some (bB n d):=by
 unfold gw;have:decide ((d:Int)<0)=false:=decide_eq_false (by omega);rw[this];show ag (aY nL fu _) _=_;rw[AO n a,GX n.natAbs fu d (by omega) (by omega) (Nat.lt_trans b (by decide))];have hg:0<Nat.gcd n.natAbs d:=Nat.gcd_pos_of_pos_right _ hd;show ag (fy n _) (fun x=>ag (fy d _) fun y=>_)=_;rw[sC n _ (by omega) a,sC d _ (by omega) (by omega)];rfl
def hU (u:ak)(f:Int->Bool)(_:Nat)(x:cm):Option Int:=cond (f x.place) (cond (bI x.dF 1 20) none (some 1)) (some 6)
def ia (_:Nat)(x:bZ):Option Int:=cond (bI x.back 1 20) (cond (kV x.high 0 60) (cond (decide (3<=IntKind.i64.wrap (x.high.high - x.high.low))) (some 1) none) (some 1)) (some 1)
def ie (u:ak)(i:Int):Bool:=bI i 0 (IntKind.i64.wrap ((u.aG.length:Int) - 1))
def jv (u:ak)(_:Nat)(x:bR):Option Int:=cond (ie u x.aV) none (some 6)
theorem wU (u:ak)(i:Int):nJ u i=some (ie u i)/\m9 u i=some (ie u i):=by
 constructor
 ·unfold nJ;rw[eP];rfl
 ·unfold m9;rw[j4,eP];rfl
theorem GY (u:ak)(h:Int):gN h u=some (cond (bI h 1 20) 0 1):=by
 unfold gN;rw[j4,eP];show cond (!bI h 1 20) _ _=_;cases bI h 1 20<;>rfl
theorem AP (u:ak)(h:0<u.aD.length)(c:u.aD.length<=20):∃f:Int->Bool,∀p,fX u p=some (f p)/\mj u p=some (f p):=by
 have a:u.aD[0]?=some u.aD[0]:=List.getElem?_eq_getElem h;have b:u.aD[u.aD.length - 1]?=some (u.aD[u.aD.length - 1]'(by omega)):=List.getElem?_eq_getElem _;have hw:IntKind.i64.wrap ((u.aD.length:Int) - 1)=((u.aD.length - 1:Nat):Int):=by rw[c6 (by omega)];omega
 have e0:bn u.aD 0=some u.aD[0]:=a;have e1:bn u.aD ((u.aD.length - 1:Nat):Int)=some (u.aD[u.aD.length - 1]'(by omega)):=by unfold bn;rw[if_pos (by omega),Int.toNat_natCast,b]
 refine ⟨fun p=>bI p (u.aD[0]).aL (u.aD[u.aD.length - 1]'(by omega)).aL,fun p=>?_⟩;have k:fX u p=some (bI p (u.aD[0]).aL (u.aD[u.aD.length - 1]'(by omega)).aL):=by
  unfold fX;rw[hw,e0,e1,j4];simp only[ag,eP]
 exact ⟨k,k⟩
def gV (u:ak):Int:=cond (bI u.bH 2 60) (cond (bI u.bO 0 60) (cond (bI u.aW.den 1 20) (cond (bI u.aW.num 0 20) (cond (((bB u.aW.num u.aW.den.toNat).num==u.aW.num)&&((bB u.aW.num u.aW.den.toNat).den==u.aW.den)) 0 3) 1) 1) 1) 1
theorem fQ {a lo hi:Int}:bI a lo hi=true↔lo<=a/\a<=hi:=by unfold bI;simp
theorem AQ (u:ak):nh u=some (gV u):=by
 unfold nh gV;rw[j4];simp only[eP,ag];cases c:bI u.bH 2 60 with
 |false=>rfl
 |true=>
  cases d:bI u.bO 0 60 with
  |false=>rfl
  |true=>
   cases a:bI u.aW.den 1 20 with
   |false=>rfl
   |true=>
    cases b:bI u.aW.num 0 20 with
    |false=>rfl
    |true=>
     rw[fQ] at a b;have hd:u.aW.den=(u.aW.den.toNat:Int):=by omega
     have:=qa u.aW.num u.aW.den.toNat (by omega) (by omega) (by omega);rw[<-hd] at this;simp only[this,cond_true,Bool.not_true,cond_false];cases (((bB u.aW.num u.aW.den.toNat).num==u.aW.num)&&((bB u.aW.num u.aW.den.toNat).den==u.aW.den))<;>rfl
theorem GZ (u:ak):mB u=cond (gV u != 0) (some (gV u)) (ag (mz u) fun x=>cond (x != 0) (some x) (mA u)):=by
 unfold mB gV;simp only[eP,ag];cases c:bI u.bH 2 60 with
 |false=>rfl
 |true=>
  cases d:bI u.bO 0 60 with
  |false=>rfl
  |true=>
   cases a:bI u.aW.den 1 20 with
   |false=>rfl
   |true=>
    cases b:bI u.aW.num 0 20 with
    |false=>rfl
    |true=>
     rw[fQ] at a b;have hd:u.aW.den=(u.aW.den.toNat:Int):=by omega
     have:=nS u.aW.num u.aW.den.toNat (by omega) (by omega) (by omega);rw[<-hd] at this;simp only[this,cond_true,Bool.not_true,cond_false];cases (((bB u.aW.num u.aW.den.toNat).num==u.aW.num)&&((bB u.aW.num u.aW.den.toNat).den==u.aW.den)) with
     |false=>rfl
     |true=>
      simp only[Bool.not_true,cond_false,cond_true,bne_self_eq_false];cases mz u with
      |none=>rfl
      |some x=>
       dsimp only;cases mA u<;>rfl
end Go.Proofs.YtpgcmoanfifglaaGreatDoor
end

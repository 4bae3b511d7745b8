/- A part of the proof of a row and its tied card: QJ4. -/
import Derived.Test.YtpgcmoanfifglaaGreatDoorQJ3
set_option linter.all false
section
namespace Go.Proofs.YtpgcmoanfifglaaGreatDoor
open Go Go.Sep Go.Proofs
set_option maxRecDepth 100000
set_option maxHeartbeats 4000000
theorem Gs:Tryz.prog.underlying 3=some (.int .i64):=by kernel_rfl
attribute [go_sem] Gs
theorem Gt:Tryz.prog.underlying 187=some (.int .u64):=by kernel_rfl
attribute [go_sem] Gt
theorem Gu:Tryz.prog.underlying 205=some (.int .u64):=by kernel_rfl
attribute [go_sem] Gu
theorem Gv:Tryz.prog.underlying 254=some (.int .u64):=by kernel_rfl
attribute [go_sem] Gv
def vS (u0:Int):Option (Int×Int):=
 ag (oZ u0 13) fun a=>ag (uV (gN u0 a) 7) fun b=>ag (oZ (gN (gN u0 a) b) 17) fun c=>some ((gN (gN (gN u0 a) b) c),(gN (gN (gN u0 a) b) c))
theorem Gw {ro:Addr->Option Value}(u0:Int){a:Nat}(r1:∀off sp,ro ⟨a,off,sp⟩=none){r:(Int×Int)}(h:vS u0=some r):aC Tryz.prog 202 #[.pointer (some ⟨a,0,none⟩)] ⟨ro,[(a,.cells #[.int .u64 u0] 254)]⟩ (fun v G=>∃b,(v= .int .u64 r.1/\b=[(a,.cells #[.int .u64 r.2] 254)])/\Le ⟨ro,b⟩ G):=by
 unfold vS at h;refine aC.go Tryz.func202 rfl Tryz.ntmps202 Tryz.results202 (by simp) fun main J hJ A g hd hs=>?_;have i:=hs 0;clear hs;refine ah hJ ?_;simp only[*,go_sem];refine af hJ ?_;refine eF hJ mixed [9] (.pure 0 (.pure 1 (.rd 2 (.pure 3 (.pure 4 (.rd 5 (.pure 6 (.pure 7 (.pure 8 (.last 9 .done)))))))))) ⟨ro,[(a,.cells #[.int .u64 u0] 254)]⟩ (by simp only[*,go_sem]) (by kernel_rfl) ?_;revert h;refine bS fun c d h=>?_;obtain ⟨q,j⟩:=uU d;clear d;try simp only[go_sem] at j
 try simp only[*,go_sem]
 refine af hJ ?_;refine eF hJ mixed [9] (.pure 0 (.pure 1 (.rd 2 (.pure 3 (.pure 4 (.rd 5 (.pure 6 (.pure 7 (.pure 8 (.last 9 .done)))))))))) ⟨ro,[(a,.cells #[.int .u64 (gN u0 c)] 254)]⟩ (by simp only[*,go_sem]) (by kernel_rfl) ?_;revert h;refine bS fun k e h=>?_;obtain ⟨s,l⟩:=Em e;clear e;try simp only[go_sem] at l
 try simp only[*,go_sem]
 refine af hJ ?_;refine eF hJ mixed [9] (.pure 0 (.pure 1 (.rd 2 (.pure 3 (.pure 4 (.rd 5 (.pure 6 (.pure 7 (.pure 8 (.last 9 .done)))))))))) ⟨ro,[(a,.cells #[.int .u64 (gN (gN u0 c) k)] 254)]⟩ (by simp only[*,go_sem]) (by kernel_rfl) ?_;revert h;refine bS fun t f h=>?_;obtain rfl:=sI h;obtain ⟨u,m⟩:=uU f;clear f;try simp only[go_sem] at m
 try simp only[*,go_sem]
 refine af hJ ?_;refine eV [0,2] fun w n o p=>?_;simp only[*,go_sem] at n o p;clear g hd i;refine aj hJ ?_;simp only[*,go_sem];refine az ?_;simp only[*,go_sem];exact ⟨_,rfl,Le.sub (List.Sublist.refl _)⟩
def vT (u0:Int):Option Int:=
 ag (su (IntKind.u64.wrap u0)) fun a=>ag (oZ 1 a) fun b=>some b
theorem Gx {ro:Addr->Option Value}(u0:Int){r:Int}(h:vT u0=some r):aC Tryz.prog 201 #[.int .i64 u0] ⟨ro,[]⟩ (fun v _=>v= .int .u64 r):=by
 unfold vT at h;refine aC.go Tryz.func201 rfl Tryz.ntmps201 Tryz.results201 (by simp) fun main J hJ A d hd hs=>?_;have e:=hs 0;clear hs;refine ah hJ ?_;simp only[*,go_sem];refine ah hJ ?_;revert h;refine bS fun f b h=>?_;simp only[*,go_sem];refine bg hJ _ (AH (IntKind.u64.wrap u0) b) (aJ ?_);revert h;refine bS fun g a h=>?_;obtain rfl:=sI h;obtain ⟨i,c⟩:=uU a;clear a;try simp only[go_sem] at c
 try simp only[*,go_sem]
 refine az ?_;simp only[*,go_sem]
def vU (a:Int)(e:Int)(c:Int)(h:Int)(st:(Int×(List Int)×Int)):Option (Fl (Int×(List Int)×Int) (Unit×(List Int))):=
 cond (decide (st.1<=(IntKind.i64.wrap ((IntKind.i64.wrap (a+(IntKind.i64.wrap (h*2))))+1)))) (ag (ag (vS st.2.2) fun b=>ag (cond (decide ((IntKind.i64.wrap (e - a))<=(IntKind.i64.wrap (hH b.1 (IntKind.u64.wrap (c - 1)))))) (some (.bk (IntKind.i64.wrap ((IntKind.i64.wrap (hH b.1 (IntKind.u64.wrap (c - 1)))) - (IntKind.i64.wrap (e - a)))))) (some (.bk (IntKind.i64.wrap (hH b.1 (IntKind.u64.wrap (c - 1)))))):Option (Fl Int (Unit×(List Int)))) fun o=>aG o (fun d=>ag (bp st.2.1 (IntKind.i64.wrap (a+d))) fun f=>ag (bp st.2.1 st.1) fun i=>ag (bp (st.2.1.set (st.1).toNat f) (IntKind.i64.wrap (a+d))) fun j=>some (.bk (((st.2.1.set (st.1).toNat f).set (IntKind.i64.wrap (a+d)).toNat i),b.2))) (fun _ _=>none) (fun r=>some (.rt r)):Option (Fl ((List Int)×Int) (Unit×(List Int)))) fun o=>aG o (fun g=>some (.nx ((IntKind.i64.wrap (st.1+1)),g.1,g.2))) (fun _ _=>none) (fun r=>some (.rt r))) (some (.bk (st.1,st.2.1,st.2.2)))
def vV (u0:(List Int))(a:Int)(b:Int):Option (Unit×(List Int)):=
 cond (List.isEmpty u0) none (cond (decide (8<=(IntKind.i64.wrap (b - a)))) (ag (vT (IntKind.i64.wrap (b - a))) fun d=>ag (fF (IntKind.i64.wrap (b - a)) 4) fun c=>ag (bn (vU a b d c) fu ((IntKind.i64.wrap ((IntKind.i64.wrap (a+(IntKind.i64.wrap (c*2)))) - 1)),u0,(IntKind.u64.wrap (IntKind.i64.wrap (b - a))))) fun o=>aG o (fun e=>some ((),e.2.1)) (fun _ _=>none) (fun r=>some r)) (some ((),u0)))
theorem Gy {ro:Addr->Option Value}(u0:(List Int)){x:Value}{H:List (Nat×Obj)}(l:aO rI ro 3 x u0 H)(b:Int)(d:Int){r:(Unit×(List Int))}(h:vV u0 b d=some r):aC Tryz.prog 179 #[x,.int .i64 b,.int .i64 d] ⟨ro,H⟩ (fun v G=>∃n,(v= .tuple #[]/\aO rI ro 3 x r.2 n)/\Le ⟨ro,n⟩ G):=by
 obtain ⟨d1,c2,rfl,bm⟩:=l.len;unfold vV at h;revert h;refine cS (fun I h=>?_) fun I h=>?_
 ·cases h
 obtain ⟨c,T,rfl,rfl,bo⟩:=l.ig I;refine aC.go Tryz.func179 rfl Tryz.ntmps179 Tryz.results179 (by simp) fun main J hJ A U hd hs=>?_;have V:=hs 0;have k1:=hs 1;have W:=hs 2;clear hs;refine af hJ ?_;refine aA hJ fun br=>?_;refine aj hJ ?_;simp only[*,go_sem];refine af hJ ?_;refine aA hJ fun bs=>?_;refine aj hJ ?_;simp only[*,go_sem];revert h;refine jC hJ (by simp only[*,go_sem]) (fun X h=>?_) fun X h=>?_
 ·refine af hJ ?_;refine aA hJ fun Y=>?_;refine aj hJ ?_;simp only[*,go_sem];refine ax fun g Z K=>?_;have bz:=aP.cons K Y;try simp only[au] at K
  try simp only[*,go_sem]
  refine af hJ ?_;refine aA hJ fun b0=>?_;refine aj hJ ?_;revert h;refine bS fun j ab h=>?_;simp only[*,go_sem];refine bg hJ _ (Gx (IntKind.i64.wrap (d - b)) ab) (aJ ?_);try simp only[*,go_sem]
  refine af hJ ?_;refine aA hJ fun b1=>?_;refine aj hJ ?_;revert h;refine bS fun L M h=>?_;obtain ⟨b2,b3⟩:=jW M;clear M;try simp only[*,go_sem]
  refine aQ hJ ?_;revert h;refine bS fun ad o ae=>?_;refine bU hJ [9,10,26,27,28,29,30,31,32,33,34,35,36,37,38,39,40,41,42,43,44,45,46,47,48,49,50,51,52,53,54,55,56,57,58,59,60,61,62,63,64] (fun m a F'=>∃(e:Array Value) (f:Int) (p:(List Int)) (q:Int),bn (vU b d j L) m (f,p,q)=some ad/\F'=⟨ro,(g,.cells #[.int .u64 q] 254)::[(c,Obj.cells e 3)]⟩/\aO rI ro 3 (.slice (some ⟨c,0,none⟩) u0.length c2) p [(c,Obj.cells e 3)]/\slot a 9= .int .i64 f) fu ?_ ?_
  ·refine ⟨T,(IntKind.i64.wrap ((IntKind.i64.wrap (b+(IntKind.i64.wrap (L*2)))) - 1)),u0,(IntKind.u64.wrap (IntKind.i64.wrap (d - b))),o,rfl,l,?_⟩;simp only[*,go_sem]
  rintro y N F' O ⟨e,f,p,q,o,rfl,s,P⟩;obtain ⟨z,B,C⟩:=O.pick [0,1,6,7,8] (by decide);simp only[*,go_sem] at z B C;clear O U hd V k1 W;obtain _|y:=y
  ·exact absurd o (by simp only[bn,reduceCtorEq,not_false_eq_true])
  revert o;refine bS fun b4 h D=>?_;unfold vU at h;try dsimp only at h
  refine af hJ (af hJ ?_);refine aA hJ fun b5=>?_;refine aj hJ ?_;simp only[*,go_sem];revert h;refine jC hJ (by simp only[*,go_sem]) (fun al h=>?_) fun al h=>?_
  ·refine aI hJ ?_;revert h;refine bS fun ao h ar=>?_;refine gh hJ (fun a F'=>∃(t:Array Value) (u:(List Int)) (w:Int),some (Fl.bk (u,w):Fl ((List Int)×Int) (Unit×(List Int)))=some ao/\F'=⟨ro,(g,.cells #[.int .u64 w] 254)::[(c,Obj.cells t 3)]⟩/\aO rI ro 3 (.slice (some ⟨c,0,none⟩) u0.length c2) u [(c,Obj.cells t 3)]/\sz a=65/\a.defers=[]/\cG [9,10,26,27,28,29,30,31,32,33,34,35,36,37,38,39,40,41,42,43,44,45,46,47,48,49,50,51,52,53,54,55,56,57,58,59,60,61,62,63,64] a N/\slot a 0= .slice (some ⟨c,0,none⟩) u0.length c2/\slot a 1= .int .i64 b/\slot a 6= .int .i64 (IntKind.i64.wrap (d - b))/\slot a 7= .pointer (some ⟨g,0,none⟩)/\slot a 8= .int .u64 j/\slot a 9= .int .i64 f) ?_ ?_
   ·refine aQ hJ (af hJ ?_);refine aA hJ fun ca=>?_;refine aj hJ ?_;revert h;refine bS fun i a0 h=>?_;simp only[*,go_sem];refine dJ hJ [] ([(c,Obj.cells e 3)]) _ (Gw q Z a0) (fun cb cd a2 n a3 cf=>?_);obtain ⟨rfl,rfl⟩:=a2;simp only[aV] at a3;subst n;refine ⟨⟨ro,(g,.cells #[.int .u64 i.2] 254)::[(c,Obj.cells e 3)]⟩,Le.refl _,?_⟩;refine aJ ?_;(try simp only[*,go_sem]);revert h;refine bS fun a4 h a5=>?_;refine gh hJ (fun a F'=>∃(k:Int),some (Fl.bk k:Fl Int (Unit×(List Int)))=some a4/\F'=⟨ro,(g,.cells #[.int .u64 i.2] 254)::[(c,Obj.cells e 3)]⟩/\sz a=65/\a.defers=[]/\cG [9,10,26,27,28,29,30,31,32,33,34,35,36,37,38,39,40,41,42,43,44,45,46,47,48,49,50,51,52,53,54,55,56,57,58,59,60,61,62,63,64] a N/\slot a 0= .slice (some ⟨c,0,none⟩) u0.length c2/\slot a 1= .int .i64 b/\slot a 6= .int .i64 (IntKind.i64.wrap (d - b))/\slot a 7= .pointer (some ⟨g,0,none⟩)/\slot a 8= .int .u64 j/\slot a 9= .int .i64 f/\slot a 10= .int .i64 k) ?_ ?_
    ·refine af hJ ?_;refine aA hJ fun cl=>?_;refine aj hJ ?_;simp only[*,go_sem];revert h;refine jC hJ (by simp only[*,go_sem]) (fun a6 h=>?_) fun a6 h=>?_
     ·refine aA hJ fun cu=>?_;refine aj hJ ?_;simp only[*,go_sem];refine Qn.intro ⟨_,Le.sub (List.Sublist.refl _),(IntKind.i64.wrap ((IntKind.i64.wrap (hH i.1 (IntKind.u64.wrap (j - 1)))) - (IntKind.i64.wrap (d - b)))),h,rfl,?_⟩;simp only[*,go_sem]
     refine aI hJ ?_;(try simp only[*,go_sem]);refine Qn.intro ⟨_,Le.sub (List.Sublist.refl _),(IntKind.i64.wrap (hH i.1 (IntKind.u64.wrap (j - 1)))),h,rfl,?_⟩;simp only[*,go_sem]
    rintro cy F' ⟨k,Q,rfl,c0,da,db,dd,df,dk,dp,dq,ds,dt⟩;obtain rfl:=sI Q;clear Q;have h:=a5;dsimp only[aG] at h;clear z B C P;refine aA hJ fun du=>?_;refine eF hJ mixed [17,18,19] (.pure 0 (.pure 1 (.pure 2 (.pure 3 (.pure 4 (.pure 5 (.pure 6 (.pure 7 (.pure 8 (.pure 9 (.pure 10 (.rd 11 (.pure 12 (.pure 13 (.pure 14 (.rd 15 (.pure 16 (.last 17 (.pure 18 (.last 19 .done)))))))))))))))))))) ⟨ro,[(g,.cells #[.int .u64 i.2] 254),(c,Obj.cells e 3)]⟩ (by simp only[*,go_sem]) (by kernel_rfl) ?_;revert h;refine bS fun E a7 h=>?_;obtain ⟨dv,dC,dE,dT⟩:=s.cN a7;revert h;refine bS fun F a8 h=>?_;obtain ⟨a9,ba,ea,eb⟩:=s.cN a8;have R:=s.fQ a9 ba E;revert h;refine bS fun ec bb h=>?_;obtain ⟨bc,bd,ed,eh⟩:=R.cN bb;have bj:=R.fQ bc bd F;(try simp only[*,go_sem]);refine Qn.intro ⟨_,Le.sub (List.Sublist.refl _),(cI (cI e (f).toNat [.int .i64 E]) (IntKind.i64.wrap (b+k)).toNat [.int .i64 F]),((p.set (f).toNat E).set (IntKind.i64.wrap (b+k)).toNat F),i.2,h,rfl,bj,?_⟩;simp only[*,go_sem]
   rintro et F' ⟨t,u,w,S,rfl,bl,eu,ev,eQ,eS,e0,e1,e2,e3,fa⟩;obtain rfl:=sI S;clear S;have h:=ar;dsimp only[aG] at h;obtain rfl:=sI h;clear z B C P;refine aA hJ fun fb=>?_;refine aj hJ ?_;simp only[*,go_sem];refine ⟨y,Nat.lt_succ_self _,_,Le.sub (List.Sublist.refl _),t,(IntKind.i64.wrap (f+1)),u,w,D,rfl,bl,?_⟩;simp only[*,go_sem]
  obtain rfl:=sI h;refine bN ?_;simp only[go_sem];obtain rfl:=sI D;clear D;have h:=ae;dsimp only[aG] at h;obtain rfl:=sI h;simp only[*,go_sem];exact ⟨_,s,Le.sub (.cons _ (List.Sublist.refl _))⟩
 obtain rfl:=sI h;refine aI hJ ?_;simp only[*,go_sem];exact ⟨_,l,Le.sub (List.Sublist.refl _)⟩
def vW (u0:(List Int))(a:Int)(e:Int)(b:Int)(c:Int)(d:Int)(st:Int):Option (Fl Int ((Int×Bool)×(List Int))):=
 cond (decide (st<=(IntKind.i64.wrap (e - 1)))) (ag (bp ((u0.set (a).toNat c).set (b).toNat d) st) fun f=>ag (bp ((u0.set (a).toNat c).set (b).toNat d) a) fun g=>ag (ir f g) fun h=>cond (h) (some (.nx (IntKind.i64.wrap (st+1)))) (some (.bk st))) (some (.bk st))
def vX (u0:(List Int))(a:Int)(b:Int)(c:Int)(d:Int)(e:Int)(st:Int):Option (Fl Int ((Int×Bool)×(List Int))):=
 cond (decide (e<=st)) (ag (bp ((u0.set (a).toNat c).set (b).toNat d) st) fun f=>ag (bp ((u0.set (a).toNat c).set (b).toNat d) a) fun g=>ag (ir f g) fun h=>cond (!h) (some (.nx (IntKind.i64.wrap (st - 1)))) (some (.bk st))) (some (.bk st))
def vY (b:Int)(c:Int)(a:(List Int))(st:Int):Option (Fl Int ((Int×Bool)×(List Int))):=
 cond (decide (st<=c)) (ag (bp a st) fun d=>ag (bp a b) fun e=>ag (ir d e) fun f=>cond (f) (some (.nx (IntKind.i64.wrap (st+1)))) (some (.bk st))) (some (.bk st))
def vZ (b:Int)(a:(List Int))(c:Int)(st:Int):Option (Fl Int ((Int×Bool)×(List Int))):=
 cond (decide (c<=st)) (ag (bp a st) fun d=>ag (bp a b) fun e=>ag (ir d e) fun f=>cond (!f) (some (.nx (IntKind.i64.wrap (st - 1)))) (some (.bk st))) (some (.bk st))
def v5 (c:Int)(st:(Int×Int×(List Int))):Option (Fl (Int×Int×(List Int)) ((Int×Bool)×(List Int))):=
 ag (ag (bn (vY c st.2.1 st.2.2) fu st.1) fun o=>aG o (fun e=>some (.bk e)) (fun _ _=>none) (fun r=>some (.rt r)):Option (Fl Int ((Int×Bool)×(List Int)))) fun o=>aG o (fun a=>ag (ag (bn (vZ c st.2.2 a) fu st.2.1) fun o=>aG o (fun f=>some (.bk f)) (fun _ _=>none) (fun r=>some (.rt r)):Option (Fl Int ((Int×Bool)×(List Int)))) fun o=>aG o (fun b=>cond (decide (b<a)) (some (.bk (a,b,st.2.2))) (ag (bp st.2.2 b) fun d=>ag (bp st.2.2 a) fun g=>ag (bp (st.2.2.set (a).toNat d) b) fun h=>some (.nx ((IntKind.i64.wrap (a+1)),(IntKind.i64.wrap (b - 1)),((st.2.2.set (a).toNat d).set (b).toNat g))))) (fun _ _=>none) (fun r=>some (.rt r))) (fun _ _=>none) (fun r=>some (.rt r))
def v7 (u0:(List Int))(a:Int)(h:Int)(b:Int):Option ((Int×Bool)×(List Int)):=
 cond (List.isEmpty u0) none (ag (bp u0 b) fun c=>ag (bp u0 a) fun d=>ag (bp (u0.set (a).toNat c) b) fun t=>ag (ag (bn (vW u0 a h b c d) fu (IntKind.i64.wrap (a+1))) fun o=>aG o (fun m=>some (.bk m)) (fun _ _=>none) (fun r=>some (.rt r)):Option (Fl Int ((Int×Bool)×(List Int)))) fun o=>aG o (fun g=>ag (ag (bn (vX u0 a b c d g) fu (IntKind.i64.wrap (h - 1))) fun o=>aG o (fun n=>some (.bk n)) (fun _ _=>none) (fun r=>some (.rt r)):Option (Fl Int ((Int×Bool)×(List Int)))) fun o=>aG o (fun e=>cond (decide (e<g)) (ag (bp ((u0.set (a).toNat c).set (b).toNat d) a) fun i=>ag (bp ((u0.set (a).toNat c).set (b).toNat d) e) fun p=>ag (bp (((u0.set (a).toNat c).set (b).toNat d).set (e).toNat i) a) fun u=>some ((e,true),((((u0.set (a).toNat c).set (b).toNat d).set (e).toNat i).set (a).toNat p))) (ag (bp ((u0.set (a).toNat c).set (b).toNat d) e) fun j=>ag (bp ((u0.set (a).toNat c).set (b).toNat d) g) fun q=>ag (bp (((u0.set (a).toNat c).set (b).toNat d).set (g).toNat j) e) fun v=>ag (ag (bn (v5 a) fu ((IntKind.i64.wrap (g+1)),(IntKind.i64.wrap (e - 1)),((((u0.set (a).toNat c).set (b).toNat d).set (g).toNat j).set (e).toNat q))) fun o=>aG o (fun k=>some (.bk (k.2.1,k.2.2))) (fun _ _=>none) (fun r=>some (.rt r)):Option (Fl (Int×(List Int)) ((Int×Bool)×(List Int)))) fun o=>aG o (fun f=>ag (bp f.2 a) fun l=>ag (bp f.2 f.1) fun s=>ag (bp (f.2.set (f.1).toNat l) a) fun w=>some ((f.1,false),((f.2.set (f.1).toNat l).set (a).toNat s))) (fun _ _=>none) (fun r=>some r))) (fun _ _=>none) (fun r=>some r)) (fun _ _=>none) (fun r=>some r))
theorem Gz {ro:Addr->Option Value}(u0:(List Int)){S:Value}{bb:List (Nat×Obj)}(x:aO rI ro 3 S u0 bb)(c:Int)(y:Int)(p:Int){r:((Int×Bool)×(List Int))}(h:v7 u0 c y p=some r):aC Tryz.prog 185 #[S,.int .i64 c,.int .i64 y,.int .i64 p] ⟨ro,bb⟩ (fun v G=>∃bc,(v= .tuple #[.int .i64 r.1.1,.bool r.1.2]/\aO rI ro 3 S r.2 bc)/\Le ⟨ro,bc⟩ G):=by
 obtain ⟨d1,c2,rfl,lr⟩:=x.len;unfold v7 at h;revert h;refine cS (fun bd h=>?_) fun bd h=>?_
 ·cases h
 obtain ⟨b,bj,rfl,rfl,lv⟩:=x.ig bd;refine aC.go Tryz.func185 rfl Tryz.ntmps185 Tryz.results185 (by simp) fun main J hJ A bl hd hs=>?_;have bm:=hs 0;have k1:=hs 1;have bo:=hs 2;have br:=hs 3;clear hs;refine af hJ ?_;refine aA hJ fun lx=>?_;refine aj hJ ?_;simp only[*,go_sem];refine af hJ ?_;refine aA hJ fun ly=>?_;refine eF hJ mixed [13,14,15] (.pure 0 (.pure 1 (.pure 2 (.pure 3 (.pure 4 (.pure 5 (.pure 6 (.rd 7 (.pure 8 (.pure 9 (.pure 10 (.rd 11 (.pure 12 (.last 13 (.pure 14 (.last 15 .done)))))))))))))))) ⟨ro,[(b,Obj.cells bj 3)]⟩ (by simp only[*,go_sem]) (by kernel_rfl) ?_;revert h;refine bS fun z fv h=>?_;obtain ⟨lL,l1,l2,l3⟩:=x.cN fv;revert h;refine bS fun B fw h=>?_;obtain ⟨fx,gg,l4,ma⟩:=x.cN fw;have bs:=x.fQ fx gg z;revert h;refine bS fun mf gl h=>?_;obtain ⟨gn,gp,mi,ml⟩:=bs.cN gl;have d:=bs.fQ gn gp B;try simp only[*,go_sem]
 refine af hJ ?_;obtain ⟨f,T⟩:∃o,o=(cI (cI bj (c).toNat [.int .i64 z]) (p).toNat [.int .i64 B]):=⟨_,rfl⟩
 refine cF (F:=⟨ro,[(b,Obj.cells f 3)]⟩) hJ (by rw[T];exact Le.refl _) ?_;rw[<-T] at d;clear T;refine aA hJ fun mn=>?_;refine aj hJ ?_;simp only[*,go_sem];revert h;refine bS fun gB h gC=>?_;refine gh hJ (fun a F'=>∃(g:Int),some (Fl.bk g:Fl Int ((Int×Bool)×(List Int)))=some gB/\F'=⟨ro,[(b,Obj.cells f 3)]⟩/\sz a=168/\a.defers=[]/\slot a 0= .slice (some ⟨b,0,none⟩) u0.length c2/\slot a 1= .int .i64 c/\slot a 8= .int .i64 0/\slot a 9= .bool false/\slot a 10= .int .i64 g/\slot a 11= .int .i64 (IntKind.i64.wrap (y - 1))) ?_ ?_
 ·refine aQ hJ ?_;revert h;refine bS fun gM K bz=>?_;refine bU hJ [10,30,31,32,33,34,35,36,37,38,39,40,41,42,43,44,45] (fun m a F'=>∃(q:Int),bn (vW u0 c y p z B) m q=some gM/\F'=⟨ro,[(b,Obj.cells f 3)]⟩/\slot a 10= .int .i64 q) fu ?_ ?_
  ·refine ⟨(IntKind.i64.wrap (c+1)),K,rfl,?_⟩;simp only[*,go_sem]
  rintro U mr F' b0 ⟨q,K,rfl,mx⟩;obtain ⟨gT,gV,g0⟩:=b0.pick [0,1,8,9,11] (by decide);simp only[*,go_sem] at gT gV g0;clear b0 bl hd bm k1 bo br;obtain _|U:=U
  ·exact absurd K (by simp only[bn,reduceCtorEq,not_false_eq_true])
  revert K;refine bS fun my h C=>?_;unfold vW at h;try dsimp only at h
  refine af hJ (af hJ ?_);refine aA hJ fun m1=>?_;refine cR hJ mixed 14 1 (by simp only[*,go_sem]) (by kernel_rfl) ?_;revert h;refine cS (fun g1 h=>?_) fun g1 h=>?_
  ·revert h;refine bS fun g2 g3 h=>?_;obtain ⟨m2,na,nb,nd⟩:=d.cN g3;revert h;refine bS fun g4 ha h=>?_;obtain ⟨nf,nm,nn,np⟩:=d.cN ha;revert h;refine bS fun ns hc h=>?_;(try simp only[*,go_sem]);refine ⟨_,bD hJ fun F V=>jE g2 g4 hc,bZ ?_⟩;(try simp only[*,go_sem]);revert h;refine jC hJ (by simp only[*,go_sem]) (fun hf h=>?_) fun hf h=>?_
   ·obtain rfl:=sI h;refine aI hJ (aQ hJ ?_);refine aA hJ fun nx=>?_;refine aj hJ ?_;simp only[*,go_sem];refine ⟨U,Nat.lt_succ_self _,_,Le.sub (List.Sublist.refl _),(IntKind.i64.wrap (q+1)),C,rfl,?_⟩;simp only[*,go_sem]
   obtain rfl:=sI h;refine bN ?_;simp only[go_sem];obtain rfl:=sI C;clear C;have h:=bz;dsimp only[aG] at h;(try simp only[*,go_sem]);refine Qn.intro ⟨_,Le.sub (List.Sublist.refl _),q,h,rfl,?_⟩;simp only[*,go_sem]
  obtain rfl:=sI h;try simp only[*,go_sem]
  refine bL hJ (by simp only[*,go_sem]) ?_;refine bN ?_;simp only[go_sem];obtain rfl:=sI C;clear C;have h:=bz;dsimp only[aG] at h;try simp only[*,go_sem]
  refine Qn.intro ⟨_,Le.sub (List.Sublist.refl _),q,h,rfl,?_⟩;simp only[*,go_sem]
 rintro nz F' ⟨g,b1,rfl,b2,b3,b4,b5,ca,cb,cd,cf⟩;obtain rfl:=sI b1;clear b1;have h:=gC;dsimp only[aG] at h;clear bl hd bm k1 bo br;revert h;refine bS fun hg h hh=>?_;refine gh hJ (fun a F'=>∃(k:Int),some (Fl.bk k:Fl Int ((Int×Bool)×(List Int)))=some hg/\F'=⟨ro,[(b,Obj.cells f 3)]⟩/\sz a=168/\a.defers=[]/\slot a 0= .slice (some ⟨b,0,none⟩) u0.length c2/\slot a 1= .int .i64 c/\slot a 8= .int .i64 0/\slot a 9= .bool false/\slot a 10= .int .i64 g/\slot a 11= .int .i64 k) ?_ ?_
 ·refine aQ hJ ?_;revert h;refine bS fun hi L cl=>?_;refine bU hJ [11,46,47,48,49,50,51,52,53,54,55,56,57,58,59,60,61,62] (fun m a F'=>∃(s:Int),bn (vX u0 c p z B g) m s=some hi/\F'=⟨ro,[(b,Obj.cells f 3)]⟩/\slot a 11= .int .i64 s) fu ?_ ?_
  ·refine ⟨(IntKind.i64.wrap (y - 1)),L,rfl,?_⟩;simp only[*,go_sem]
  rintro W nA F' cu ⟨s,L,rfl,nH⟩;obtain ⟨hj,hk,hl⟩:=cu.pick [0,1,8,9,10] (by decide);simp only[*,go_sem] at hj hk hl;clear cu b2 b3 b4 b5 ca cb cd cf;obtain _|W:=W
  ·exact absurd L (by simp only[bn,reduceCtorEq,not_false_eq_true])
  revert L;refine bS fun nI h D=>?_;unfold vX at h;try dsimp only at h
  refine af hJ (af hJ ?_);refine aA hJ fun nK=>?_;refine cR hJ mixed 15 1 (by simp only[*,go_sem]) (by kernel_rfl) ?_;revert h;refine cS (fun hn h=>?_) fun hn h=>?_
  ·revert h;refine bS fun ho hp h=>?_;obtain ⟨nQ,nR,nT,nV⟩:=d.cN hp;revert h;refine bS fun hq hr h=>?_;obtain ⟨nX,nY,n0,n1⟩:=d.cN hr;revert h;refine bS fun n2 ht h=>?_;(try simp only[*,go_sem]);refine ⟨_,bD hJ fun F V=>jE ho hq ht,bZ ?_⟩;(try simp only[*,go_sem]);revert h;refine jC hJ (by simp only[*,go_sem]) (fun hv h=>?_) fun hv h=>?_
   ·obtain rfl:=sI h;refine aI hJ (aQ hJ ?_);refine aA hJ fun n3=>?_;refine aj hJ ?_;simp only[*,go_sem];refine ⟨W,Nat.lt_succ_self _,_,Le.sub (List.Sublist.refl _),(IntKind.i64.wrap (s - 1)),D,rfl,?_⟩;simp only[*,go_sem]
   obtain rfl:=sI h;refine bN ?_;simp only[go_sem];obtain rfl:=sI D;clear D;have h:=cl;dsimp only[aG] at h;(try simp only[*,go_sem]);refine Qn.intro ⟨_,Le.sub (List.Sublist.refl _),s,h,rfl,?_⟩;simp only[*,go_sem]
  obtain rfl:=sI h;try simp only[*,go_sem]
  refine bL hJ (by simp only[*,go_sem]) ?_;refine bN ?_;simp only[go_sem];obtain rfl:=sI D;clear D;have h:=cl;dsimp only[aG] at h;try simp only[*,go_sem]
  refine Qn.intro ⟨_,Le.sub (List.Sublist.refl _),s,h,rfl,?_⟩;simp only[*,go_sem]
 rintro oc F' ⟨k,cy,rfl,c0,da,db,dd,df,dk,dp,dq⟩;obtain rfl:=sI cy;clear cy;have h:=hh;dsimp only[aG] at h;clear b2 b3 b4 b5 ca cb cd cf;refine af hJ (af hJ ?_);refine aA hJ fun oi=>?_;refine aj hJ ?_;simp only[*,go_sem];revert h;refine jC hJ (by simp only[*,go_sem]) (fun hx h=>?_) fun hx h=>?_
 ·refine af hJ ?_;refine aA hJ fun oj=>?_;refine eF hJ mixed [13,14,15] (.pure 0 (.pure 1 (.pure 2 (.pure 3 (.pure 4 (.pure 5 (.pure 6 (.rd 7 (.pure 8 (.pure 9 (.pure 10 (.rd 11 (.pure 12 (.last 13 (.pure 14 (.last 15 .done)))))))))))))))) ⟨ro,[(b,Obj.cells f 3)]⟩ (by simp only[*,go_sem]) (by kernel_rfl) ?_;revert h;refine bS fun ds hy h=>?_;obtain ⟨ox,oy,o0,o1⟩:=d.cN hy;revert h;refine bS fun dt hz h=>?_;obtain ⟨hA,hB,o2,o4⟩:=d.cN hz;have du:=d.fQ hA hB ds;revert h;refine bS fun pa hD h=>?_;obtain rfl:=sI h;obtain ⟨hE,hF,pb,pd⟩:=du.cN hD;have dv:=du.fQ hE hF dt;try simp only[*,go_sem]
  refine af hJ ?_;obtain ⟨hG,X⟩:∃o,o=(cI (cI f (k).toNat [.int .i64 ds]) (c).toNat [.int .i64 dt]):=⟨_,rfl⟩
  refine cF (F:=⟨ro,[(b,Obj.cells hG 3)]⟩) hJ (by rw[X];exact Le.refl _) ?_;rw[<-X] at dv;clear X;refine aA hJ fun pf=>?_;refine aj hJ ?_;simp only[*,go_sem];refine az ?_;simp only[*,go_sem];exact ⟨_,dv,Le.sub (List.Sublist.refl _)⟩
 refine aI hJ (af hJ ?_);refine aA hJ fun ph=>?_;refine eF hJ mixed [13,14,15] (.pure 0 (.pure 1 (.pure 2 (.pure 3 (.pure 4 (.pure 5 (.pure 6 (.rd 7 (.pure 8 (.pure 9 (.pure 10 (.rd 11 (.pure 12 (.last 13 (.pure 14 (.last 15 .done)))))))))))))))) ⟨ro,[(b,Obj.cells f 3)]⟩ (by simp only[*,go_sem]) (by kernel_rfl) ?_;revert h;refine bS fun Y hI h=>?_;obtain ⟨pj,pk,po,pr⟩:=d.cN hI;revert h;refine bS fun Z hK h=>?_;obtain ⟨hL,hM,ps,pt⟩:=d.cN hK;have dC:=d.fQ hL hM Y;revert h;refine bS fun pv hN h=>?_;obtain ⟨hP,hQ,pw,px⟩:=dC.cN hN;have dE:=dC.fQ hP hQ Z;try simp only[*,go_sem]
 refine af hJ ?_;obtain ⟨dT,ab⟩:∃o,o=(cI (cI f (g).toNat [.int .i64 Y]) (k).toNat [.int .i64 Z]):=⟨_,rfl⟩
 refine cF (F:=⟨ro,[(b,Obj.cells dT 3)]⟩) hJ (by rw[ab];exact Le.refl _) ?_;rw[<-ab] at dE;clear ab;refine aA hJ fun py=>?_;refine aj hJ ?_;simp only[*,go_sem];refine af hJ ?_;refine aA hJ fun pA=>?_;refine aj hJ ?_;simp only[*,go_sem];revert h;refine bS fun hR h hS=>?_;refine gh hJ (fun a F'=>∃(E:Array Value) (M:Int) (ad:(List Int)),some (Fl.bk (M,ad):Fl (Int×(List Int)) ((Int×Bool)×(List Int)))=some hR/\F'=⟨ro,[(b,Obj.cells E 3)]⟩/\aO rI ro 3 (.slice (some ⟨b,0,none⟩) u0.length c2) ad [(b,Obj.cells E 3)]/\sz a=168/\a.defers=[]/\slot a 0= .slice (some ⟨b,0,none⟩) u0.length c2/\slot a 1= .int .i64 c/\slot a 8= .int .i64 0/\slot a 9= .bool false/\slot a 11= .int .i64 M) ?_ ?_
 ·refine aQ hJ ?_;revert h;refine bS fun hT N hV=>?_;refine bU hJ [10,11,99,100,101,102,103,104,105,106,107,108,109,110,111,112,113,114,115,116,117,118,119,120,121,122,123,124,125,126,127,128,129,130,131,132,133,134,135,136,137,138,139,140,141,142,143,144,145,146,147,148,149,150,151,152] (fun m a F'=>∃(e:Array Value) (O:Int) (t:Int) (l:(List Int)),bn (v5 c) m (O,t,l)=some hT/\F'=⟨ro,[(b,Obj.cells e 3)]⟩/\aO rI ro 3 (.slice (some ⟨b,0,none⟩) u0.length c2) l [(b,Obj.cells e 3)]/\slot a 10= .int .i64 O/\slot a 11= .int .i64 t) fu ?_ ?_
  ·refine ⟨dT,(IntKind.i64.wrap (g+1)),(IntKind.i64.wrap (k - 1)),((((u0.set (c).toNat z).set (p).toNat B).set (g).toNat Y).set (k).toNat Z),N,rfl,dE,?_⟩;simp only[*,go_sem]
  rintro ae P F' ea ⟨e,O,t,l,N,rfl,i,eb,ec⟩;obtain ⟨al,ao,ar⟩:=ea.pick [0,1,8,9] (by decide);simp only[*,go_sem] at al ao ar;clear ea c0 da db dd df dk dp dq;obtain _|ae:=ae
  ·exact absurd N (by simp only[bn,reduceCtorEq,not_false_eq_true])
  revert N;refine bS fun pB h a0=>?_;unfold v5 at h;try dsimp only at h
  refine aQ hJ ?_;revert h;refine bS fun hX h hY=>?_;refine gh hJ (fun a F'=>∃(j:Int),some (Fl.bk j:Fl Int ((Int×Bool)×(List Int)))=some hX/\F'=⟨ro,[(b,Obj.cells e 3)]⟩/\sz a=168/\a.defers=[]/\cG [10,11,99,100,101,102,103,104,105,106,107,108,109,110,111,112,113,114,115,116,117,118,119,120,121,122,123,124,125,126,127,128,129,130,131,132,133,134,135,136,137,138,139,140,141,142,143,144,145,146,147,148,149,150,151,152] a P/\slot a 0= .slice (some ⟨b,0,none⟩) u0.length c2/\slot a 1= .int .i64 c/\slot a 8= .int .i64 0/\slot a 9= .bool false/\slot a 10= .int .i64 j/\slot a 11= .int .i64 t) ?_ ?_
  ·refine aQ hJ ?_;revert h;refine bS fun hZ Q ed=>?_;refine bU hJ [10,99,100,101,102,103,104,105,106,107,108,109,110,111,112,113,114] (fun m a F'=>∃(u:Int),bn (vY c t l) m u=some hZ/\F'=⟨ro,[(b,Obj.cells e 3)]⟩/\slot a 10= .int .i64 u) fu ?_ ?_
   ·refine ⟨O,Q,rfl,?_⟩;simp only[*,go_sem]
   rintro a2 h0 F' a3 ⟨u,Q,rfl,pC⟩;obtain ⟨h1,h2,h3⟩:=a3.pick [0,1,8,9,11] (by decide);simp only[*,go_sem] at h1 h2 h3;have pD:cG [10,11,99,100,101,102,103,104,105,106,107,108,109,110,111,112,113,114,115,116,117,118,119,120,121,122,123,124,125,126,127,128,129,130,131,132,133,134,135,136,137,138,139,140,141,142,143,144,145,146,147,148,149,150,151,152] h0 P:=(a3.fX (by decide)).trans (by simp only[*,go_sem]);clear a3 al ao ar eb ec;obtain _|a2:=a2
   ·exact absurd Q (by simp only[bn,reduceCtorEq,not_false_eq_true])
   revert Q;refine bS fun pL h H=>?_;unfold vY at h;(try dsimp only at h);refine af hJ (af hJ ?_);refine aA hJ fun pT=>?_;refine cR hJ mixed 14 1 (by simp only[*,go_sem]) (by kernel_rfl) ?_;revert h;refine cS (fun h4 h=>?_) fun h4 h=>?_
   ·revert h;refine bS fun h5 h6 h=>?_;obtain ⟨p0,p1,q0,q1⟩:=i.cN h6;revert h;refine bS fun h7 h8 h=>?_;obtain ⟨ra,rb,re,rh⟩:=i.cN h8;revert h;refine bS fun rk h9 h=>?_;(try simp only[*,go_sem]);refine ⟨_,bD hJ fun F V=>jE h5 h7 h9,bZ ?_⟩;(try simp only[*,go_sem]);revert h;refine jC hJ (by simp only[*,go_sem]) (fun ib h=>?_) fun ib h=>?_
    ·obtain rfl:=sI h;refine aI hJ (aQ hJ ?_);refine aA hJ fun rl=>?_;refine aj hJ ?_;simp only[*,go_sem];refine ⟨a2,Nat.lt_succ_self _,_,Le.sub (List.Sublist.refl _),(IntKind.i64.wrap (u+1)),H,rfl,?_⟩;simp only[*,go_sem]
    obtain rfl:=sI h;refine bN ?_;simp only[go_sem];obtain rfl:=sI H;clear H;have h:=ed;dsimp only[aG] at h;(try simp only[*,go_sem]);refine Qn.intro ⟨_,Le.sub (List.Sublist.refl _),u,h,rfl,?_⟩;simp only[*,go_sem]
   obtain rfl:=sI h;(try simp only[*,go_sem]);refine bL hJ (by simp only[*,go_sem]) ?_;refine bN ?_;simp only[go_sem];obtain rfl:=sI H;clear H;have h:=ed;dsimp only[aG] at h;(try simp only[*,go_sem]);refine Qn.intro ⟨_,Le.sub (List.Sublist.refl _),u,h,rfl,?_⟩;simp only[*,go_sem]
  rintro rn F' ⟨j,eh,rfl,et,eu,rp,ev,eQ,eS,e0,e1,e2⟩;obtain rfl:=sI eh;clear eh;have h:=hY;dsimp only[aG] at h;clear al ao ar eb ec;revert h;refine bS fun ic h ih=>?_;refine gh hJ (fun a F'=>∃(n:Int),some (Fl.bk n:Fl Int ((Int×Bool)×(List Int)))=some ic/\F'=⟨ro,[(b,Obj.cells e 3)]⟩/\sz a=168/\a.defers=[]/\cG [10,11,99,100,101,102,103,104,105,106,107,108,109,110,111,112,113,114,115,116,117,118,119,120,121,122,123,124,125,126,127,128,129,130,131,132,133,134,135,136,137,138,139,140,141,142,143,144,145,146,147,148,149,150,151,152] a P/\slot a 0= .slice (some ⟨b,0,none⟩) u0.length c2/\slot a 1= .int .i64 c/\slot a 8= .int .i64 0/\slot a 9= .bool false/\slot a 10= .int .i64 j/\slot a 11= .int .i64 n) ?_ ?_
  ·refine aQ hJ ?_;revert h;refine bS fun ik R e3=>?_;refine bU hJ [11,115,116,117,118,119,120,121,122,123,124,125,126,127,128,129,130,131] (fun m a F'=>∃(w:Int),bn (vZ c l j) m w=some ik/\F'=⟨ro,[(b,Obj.cells e 3)]⟩/\slot a 11= .int .i64 w) fu ?_ ?_
   ·refine ⟨t,R,rfl,?_⟩;simp only[*,go_sem]
   rintro a4 il F' a5 ⟨w,R,rfl,rr⟩;obtain ⟨im,iv,ix⟩:=a5.pick [0,1,8,9,10] (by decide);simp only[*,go_sem] at im iv ix;have rv:cG [10,11,99,100,101,102,103,104,105,106,107,108,109,110,111,112,113,114,115,116,117,118,119,120,121,122,123,124,125,126,127,128,129,130,131,132,133,134,135,136,137,138,139,140,141,142,143,144,145,146,147,148,149,150,151,152] il P:=(a5.fX (by decide)).trans (by simp only[*,go_sem]);clear a5 et eu ev eQ eS e0 e1 e2;obtain _|a4:=a4
   ·exact absurd R (by simp only[bn,reduceCtorEq,not_false_eq_true])
   revert R;refine bS fun rB h I=>?_;unfold vZ at h;(try dsimp only at h);refine af hJ (af hJ ?_);refine aA hJ fun rL=>?_;refine cR hJ mixed 15 1 (by simp only[*,go_sem]) (by kernel_rfl) ?_;revert h;refine cS (fun j1 h=>?_) fun j1 h=>?_
   ·revert h;refine bS fun j2 kh h=>?_;obtain ⟨sa,sb,sc,sf⟩:=i.cN kh;revert h;refine bS fun kj kk h=>?_;obtain ⟨sg,sh,sl,sm⟩:=i.cN kk;revert h;refine bS fun ss kl h=>?_;(try simp only[*,go_sem]);refine ⟨_,bD hJ fun F V=>jE j2 kj kl,bZ ?_⟩;(try simp only[*,go_sem]);revert h;refine jC hJ (by simp only[*,go_sem]) (fun km h=>?_) fun km h=>?_
    ·obtain rfl:=sI h;refine aI hJ (aQ hJ ?_);refine aA hJ fun sy=>?_;refine aj hJ ?_;simp only[*,go_sem];refine ⟨a4,Nat.lt_succ_self _,_,Le.sub (List.Sublist.refl _),(IntKind.i64.wrap (w - 1)),I,rfl,?_⟩;simp only[*,go_sem]
    obtain rfl:=sI h;refine bN ?_;simp only[go_sem];obtain rfl:=sI I;clear I;have h:=e3;dsimp only[aG] at h;(try simp only[*,go_sem]);refine Qn.intro ⟨_,Le.sub (List.Sublist.refl _),w,h,rfl,?_⟩;simp only[*,go_sem]
   obtain rfl:=sI h;(try simp only[*,go_sem]);refine bL hJ (by simp only[*,go_sem]) ?_;refine bN ?_;simp only[go_sem];obtain rfl:=sI I;clear I;have h:=e3;dsimp only[aG] at h;(try simp only[*,go_sem]);refine Qn.intro ⟨_,Le.sub (List.Sublist.refl _),w,h,rfl,?_⟩;simp only[*,go_sem]
  rintro sT F' ⟨n,fa,rfl,tb,te,ti,tk,tl,tm,tp,ts,tt⟩;obtain rfl:=sI fa;clear fa;have h:=ih;dsimp only[aG] at h;clear et eu ev eQ eS e0 e1 e2;refine af hJ (af hJ ?_);refine aA hJ fun tx=>?_;refine aj hJ ?_;simp only[*,go_sem];revert h;refine jC hJ (by simp only[*,go_sem]) (fun kn h=>?_) fun kn h=>?_
  ·obtain rfl:=sI h;refine bN ?_;simp only[go_sem];obtain rfl:=sI a0;clear a0;have h:=hV;dsimp only[aG] at h;(try simp only[*,go_sem]);refine Qn.intro ⟨_,Le.sub (List.Sublist.refl _),e,n,l,h,rfl,i,?_⟩;simp only[*,go_sem]
  refine aI hJ (af hJ ?_);refine aA hJ fun tz=>?_;refine eF hJ mixed [13,14,15] (.pure 0 (.pure 1 (.pure 2 (.pure 3 (.pure 4 (.pure 5 (.pure 6 (.rd 7 (.pure 8 (.pure 9 (.pure 10 (.rd 11 (.pure 12 (.last 13 (.pure 14 (.last 15 .done)))))))))))))))) ⟨ro,[(b,Obj.cells e 3)]⟩ (by simp only[*,go_sem]) (by kernel_rfl) ?_;revert h;refine bS fun a6 kp h=>?_;obtain ⟨tI,tM,tW,ub⟩:=i.cN kp;revert h;refine bS fun a7 ks h=>?_;obtain ⟨kt,kv,ui,u1⟩:=i.cN ks;have fb:=i.fQ kt kv a6;revert h;refine bS fun u2 kx h=>?_;obtain rfl:=sI h;obtain ⟨ky,k0,u3,u4⟩:=fb.cN kx;have fg:=fb.fQ ky k0 a7;try simp only[*,go_sem]
  refine af hJ ?_;obtain ⟨fi,a8⟩:∃o,o=(cI (cI e (j).toNat [.int .i64 a6]) (n).toNat [.int .i64 a7]):=⟨_,rfl⟩
  refine cF (F:=⟨ro,[(b,Obj.cells fi 3)]⟩) hJ (by rw[a8];exact Le.refl _) ?_;rw[<-a8] at fg;clear a8;refine aA hJ fun va=>?_;refine aj hJ ?_;simp only[*,go_sem];refine aA hJ fun vd=>?_;refine aj hJ ?_;simp only[*,go_sem];refine ⟨ae,Nat.lt_succ_self _,_,Le.sub (List.Sublist.refl _),fi,(IntKind.i64.wrap (j+1)),(IntKind.i64.wrap (n - 1)),((l.set (j).toNat a6).set (n).toNat a7),a0,rfl,fg,?_⟩;simp only[*,go_sem]
 rintro vs F' ⟨E,M,ad,fo,rfl,a9,vx,vy,v3,wa,wb,wc,wi⟩;obtain rfl:=sI fo;clear fo;have h:=hS;dsimp only[aG] at h;clear c0 da db dd df dk dp dq;refine af hJ ?_;refine aA hJ fun wx=>?_;refine eF hJ mixed [13,14,15] (.pure 0 (.pure 1 (.pure 2 (.pure 3 (.pure 4 (.pure 5 (.pure 6 (.rd 7 (.pure 8 (.pure 9 (.pure 10 (.rd 11 (.pure 12 (.last 13 (.pure 14 (.last 15 .done)))))))))))))))) ⟨ro,[(b,Obj.cells E 3)]⟩ (by simp only[*,go_sem]) (by kernel_rfl) ?_;revert h;refine bS fun fp k2 h=>?_;obtain ⟨wy,w0,xa,xc⟩:=a9.cN k2;revert h;refine bS fun fr lb h=>?_;obtain ⟨lh,lj,xf,xi⟩:=a9.cN lb;have fs:=a9.fQ lh lj fp;revert h;refine bS fun xn lk h=>?_;obtain rfl:=sI h;obtain ⟨ll,ln,xr,xt⟩:=fs.cN lk;have ft:=fs.fQ ll ln fr;try simp only[*,go_sem]
 refine af hJ ?_;obtain ⟨lo,ba⟩:∃o,o=(cI (cI E (M).toNat [.int .i64 fp]) (c).toNat [.int .i64 fr]):=⟨_,rfl⟩
 refine cF (F:=⟨ro,[(b,Obj.cells lo 3)]⟩) hJ (by rw[ba];exact Le.refl _) ?_;rw[<-ba] at ft;clear ba;refine aA hJ fun xv=>?_;refine aj hJ ?_;simp only[*,go_sem];refine az ?_;simp only[*,go_sem];exact ⟨_,ft,Le.sub (List.Sublist.refl _)⟩
def v8 (b:Int)(c:Int)(a:(List Int))(st:Int):Option (Fl Int (Int×(List Int))):=
 cond (decide (st<=c)) (ag (bp a b) fun d=>ag (bp a st) fun e=>ag (ir d e) fun f=>cond (!f) (some (.nx (IntKind.i64.wrap (st+1)))) (some (.bk st))) (some (.bk st))
def v9 (b:Int)(a:(List Int))(c:Int)(st:Int):Option (Fl Int (Int×(List Int))):=
 cond (decide (c<=st)) (ag (bp a b) fun d=>ag (bp a st) fun e=>ag (ir d e) fun f=>cond (f) (some (.nx (IntKind.i64.wrap (st - 1)))) (some (.bk st))) (some (.bk st))
def we (c:Int)(st:(Int×Int×(List Int))):Option (Fl (Int×Int×(List Int)) (Int×(List Int))):=
 ag (ag (bn (v8 c st.2.1 st.2.2) fu st.1) fun o=>aG o (fun e=>some (.bk e)) (fun _ _=>none) (fun r=>some (.rt r)):Option (Fl Int (Int×(List Int)))) fun o=>aG o (fun a=>ag (ag (bn (v9 c st.2.2 a) fu st.2.1) fun o=>aG o (fun f=>some (.bk f)) (fun _ _=>none) (fun r=>some (.rt r)):Option (Fl Int (Int×(List Int)))) fun o=>aG o (fun b=>cond (decide (b<a)) (some (.bk (a,b,st.2.2))) (ag (bp st.2.2 b) fun d=>ag (bp st.2.2 a) fun g=>ag (bp (st.2.2.set (a).toNat d) b) fun h=>some (.nx ((IntKind.i64.wrap (a+1)),(IntKind.i64.wrap (b - 1)),((st.2.2.set (a).toNat d).set (b).toNat g))))) (fun _ _=>none) (fun r=>some (.rt r))) (fun _ _=>none) (fun r=>some (.rt r))
def wh (u0:(List Int))(a:Int)(f:Int)(b:Int):Option (Int×(List Int)):=
 cond (List.isEmpty u0) none (ag (bp u0 b) fun c=>ag (bp u0 a) fun g=>ag (bp (u0.set (a).toNat c) b) fun h=>ag (ag (bn (we a) fu ((IntKind.i64.wrap (a+1)),(IntKind.i64.wrap (f - 1)),((u0.set (a).toNat c).set (b).toNat g))) fun o=>aG o (fun d=>some (.bk (d.1,d.2.2))) (fun _ _=>none) (fun r=>some (.rt r)):Option (Fl (Int×(List Int)) (Int×(List Int)))) fun o=>aG o (fun e=>some (e.1,e.2)) (fun _ _=>none) (fun r=>some r))
theorem GA {ro:Addr->Option Value}(u0:(List Int)){z:Value}{X:List (Nat×Obj)}(n:aO rI ro 3 z u0 X)(c:Int)(B:Int)(s:Int){r:(Int×(List Int))}(h:wh u0 c B s=some r):aC Tryz.prog 184 #[z,.int .i64 c,.int .i64 B,.int .i64 s] ⟨ro,X⟩ (fun v G=>∃Y,(v= .int .i64 r.1/\aO rI ro 3 z r.2 Y)/\Le ⟨ro,Y⟩ G):=by
 obtain ⟨d1,c2,rfl,fs⟩:=n.len;unfold wh at h;revert h;refine cS (fun Z h=>?_) fun Z h=>?_
 ·cases h
 obtain ⟨b,ab,rfl,rfl,ft⟩:=n.ig Z;refine aC.go Tryz.func184 rfl Tryz.ntmps184 Tryz.results184 (by simp) fun main J hJ A ad hd hs=>?_;have ae:=hs 0;have k1:=hs 1;have al:=hs 2;have ao:=hs 3;clear hs;refine af hJ ?_;refine aA hJ fun fv=>?_;refine aj hJ ?_;simp only[*,go_sem];refine af hJ ?_;refine aA hJ fun fw=>?_;refine eF hJ mixed [13,14,15] (.pure 0 (.pure 1 (.pure 2 (.pure 3 (.pure 4 (.pure 5 (.pure 6 (.rd 7 (.pure 8 (.pure 9 (.pure 10 (.rd 11 (.pure 12 (.last 13 (.pure 14 (.last 15 .done)))))))))))))))) ⟨ro,[(b,Obj.cells ab 3)]⟩ (by simp only[*,go_sem]) (by kernel_rfl) ?_;revert h;refine bS fun C b0 h=>?_;obtain ⟨fx,gg,gl,gn⟩:=n.cN b0;revert h;refine bS fun D b1 h=>?_;obtain ⟨b2,b3,gp,gB⟩:=n.cN b1;have ar:=n.fQ b2 b3 C;revert h;refine bS fun gC b4 h=>?_;obtain ⟨b5,ca,gM,gT⟩:=ar.cN b4;have a0:=ar.fQ b5 ca D;try simp only[*,go_sem]
 refine af hJ ?_;obtain ⟨a2,E⟩:∃o,o=(cI (cI ab (c).toNat [.int .i64 C]) (s).toNat [.int .i64 D]):=⟨_,rfl⟩
 refine cF (F:=⟨ro,[(b,Obj.cells a2 3)]⟩) hJ (by rw[E];exact Le.refl _) ?_;rw[<-E] at a0;clear E;refine aA hJ fun gV=>?_;refine aj hJ ?_;simp only[*,go_sem];revert h;refine bS fun cb h cd=>?_;refine gh hJ (fun a F'=>∃(H:Array Value) (I:Int) (K:(List Int)),some (Fl.bk (I,K):Fl (Int×(List Int)) (Int×(List Int)))=some cb/\F'=⟨ro,[(b,Obj.cells H 3)]⟩/\aO rI ro 3 (.slice (some ⟨b,0,none⟩) u0.length c2) K [(b,Obj.cells H 3)]/\sz a=84/\a.defers=[]/\slot a 0= .slice (some ⟨b,0,none⟩) u0.length c2/\slot a 8= .int .i64 0/\slot a 9= .int .i64 I) ?_ ?_
 ·refine aQ hJ ?_;revert h;refine bS fun cf t cl=>?_;refine bU hJ [9,10,29,30,31,32,33,34,35,36,37,38,39,40,41,42,43,44,45,46,47,48,49,50,51,52,53,54,55,56,57,58,59,60,61,62,63,64,65,66,67,68,69,70,71,72,73,74,75,76,77,78,79,80,81,82] (fun m a F'=>∃(d:Array Value) (u:Int) (i:Int) (g:(List Int)),bn (we c) m (u,i,g)=some cf/\F'=⟨ro,[(b,Obj.cells d 3)]⟩/\aO rI ro 3 (.slice (some ⟨b,0,none⟩) u0.length c2) g [(b,Obj.cells d 3)]/\slot a 9= .int .i64 u/\slot a 10= .int .i64 i) fu ?_ ?_
  ·refine ⟨a2,(IntKind.i64.wrap (c+1)),(IntKind.i64.wrap (B - 1)),((u0.set (c).toNat C).set (s).toNat D),t,rfl,a0,?_⟩;simp only[*,go_sem]
  rintro L w F' a3 ⟨d,u,i,g,t,rfl,f,a4,a5⟩;obtain ⟨M,N,O⟩:=a3.pick [0,1,8] (by decide);simp only[*,go_sem] at M N O;clear a3 ad hd ae k1 al ao;obtain _|L:=L
  ·exact absurd t (by simp only[bn,reduceCtorEq,not_false_eq_true])
  revert t;refine bS fun g0 h P=>?_;unfold we at h;try dsimp only at h
  refine aQ hJ ?_;revert h;refine bS fun cu h cy=>?_;refine gh hJ (fun a F'=>∃(e:Int),some (Fl.bk e:Fl Int (Int×(List Int)))=some cu/\F'=⟨ro,[(b,Obj.cells d 3)]⟩/\sz a=84/\a.defers=[]/\cG [9,10,29,30,31,32,33,34,35,36,37,38,39,40,41,42,43,44,45,46,47,48,49,50,51,52,53,54,55,56,57,58,59,60,61,62,63,64,65,66,67,68,69,70,71,72,73,74,75,76,77,78,79,80,81,82] a w/\slot a 0= .slice (some ⟨b,0,none⟩) u0.length c2/\slot a 1= .int .i64 c/\slot a 8= .int .i64 0/\slot a 9= .int .i64 e/\slot a 10= .int .i64 i) ?_ ?_
  ·refine aQ hJ ?_;revert h;refine bS fun c0 x a6=>?_;refine bU hJ [9,29,30,31,32,33,34,35,36,37,38,39,40,41,42,43,44,45] (fun m a F'=>∃(j:Int),bn (v8 c i g) m j=some c0/\F'=⟨ro,[(b,Obj.cells d 3)]⟩/\slot a 9= .int .i64 j) fu ?_ ?_
   ·refine ⟨u,x,rfl,?_⟩;simp only[*,go_sem]
   rintro Q da F' R ⟨j,x,rfl,g1⟩;obtain ⟨db,dd,df⟩:=R.pick [0,1,8,10] (by decide);simp only[*,go_sem] at db dd df;have g2:cG [9,10,29,30,31,32,33,34,35,36,37,38,39,40,41,42,43,44,45,46,47,48,49,50,51,52,53,54,55,56,57,58,59,60,61,62,63,64,65,66,67,68,69,70,71,72,73,74,75,76,77,78,79,80,81,82] da w:=(R.fX (by decide)).trans (by simp only[*,go_sem]);clear R M N O a4 a5;obtain _|Q:=Q
   ·exact absurd x (by simp only[bn,reduceCtorEq,not_false_eq_true])
   revert x;refine bS fun g3 h p=>?_;unfold v8 at h;(try dsimp only at h);refine af hJ (af hJ ?_);refine aA hJ fun g4=>?_;refine cR hJ mixed 15 1 (by simp only[*,go_sem]) (by kernel_rfl) ?_;revert h;refine cS (fun dk h=>?_) fun dk h=>?_
   ·revert h;refine bS fun dp dq h=>?_;obtain ⟨ha,hc,hf,hg⟩:=f.cN dq;revert h;refine bS fun ds dt h=>?_;obtain ⟨hh,hi,hj,hk⟩:=f.cN dt;revert h;refine bS fun hl du h=>?_;(try simp only[*,go_sem]);refine ⟨_,bD hJ fun F dv=>jE dp ds du,bZ ?_⟩;(try simp only[*,go_sem]);revert h;refine jC hJ (by simp only[*,go_sem]) (fun dC h=>?_) fun dC h=>?_
    ·obtain rfl:=sI h;refine aI hJ (aQ hJ ?_);refine aA hJ fun hn=>?_;refine aj hJ ?_;simp only[*,go_sem];refine ⟨Q,Nat.lt_succ_self _,_,Le.sub (List.Sublist.refl _),(IntKind.i64.wrap (j+1)),p,rfl,?_⟩;simp only[*,go_sem]
    obtain rfl:=sI h;refine bN ?_;simp only[go_sem];obtain rfl:=sI p;clear p;have h:=a6;dsimp only[aG] at h;(try simp only[*,go_sem]);refine Qn.intro ⟨_,Le.sub (List.Sublist.refl _),j,h,rfl,?_⟩;simp only[*,go_sem]
   obtain rfl:=sI h;(try simp only[*,go_sem]);refine bL hJ (by simp only[*,go_sem]) ?_;refine bN ?_;simp only[go_sem];obtain rfl:=sI p;clear p;have h:=a6;dsimp only[aG] at h;(try simp only[*,go_sem]);refine Qn.intro ⟨_,Le.sub (List.Sublist.refl _),j,h,rfl,?_⟩;simp only[*,go_sem]
  rintro ho F' ⟨e,a7,rfl,a8,a9,hp,ba,bb,bc,bd,bj⟩;obtain rfl:=sI a7;clear a7;have h:=cy;dsimp only[aG] at h;clear M N O a4 a5;revert h;refine bS fun dE h dT=>?_;refine gh hJ (fun a F'=>∃(k:Int),some (Fl.bk k:Fl Int (Int×(List Int)))=some dE/\F'=⟨ro,[(b,Obj.cells d 3)]⟩/\sz a=84/\a.defers=[]/\cG [9,10,29,30,31,32,33,34,35,36,37,38,39,40,41,42,43,44,45,46,47,48,49,50,51,52,53,54,55,56,57,58,59,60,61,62,63,64,65,66,67,68,69,70,71,72,73,74,75,76,77,78,79,80,81,82] a w/\slot a 0= .slice (some ⟨b,0,none⟩) u0.length c2/\slot a 1= .int .i64 c/\slot a 8= .int .i64 0/\slot a 9= .int .i64 e/\slot a 10= .int .i64 k) ?_ ?_
  ·refine aQ hJ ?_;revert h;refine bS fun ea y bl=>?_;refine bU hJ [10,46,47,48,49,50,51,52,53,54,55,56,57,58,59,60,61] (fun m a F'=>∃(l:Int),bn (v9 c g e) m l=some ea/\F'=⟨ro,[(b,Obj.cells d 3)]⟩/\slot a 10= .int .i64 l) fu ?_ ?_
   ·refine ⟨i,y,rfl,?_⟩;simp only[*,go_sem]
   rintro S eb F' T ⟨l,y,rfl,hq⟩;obtain ⟨ec,ed,eh⟩:=T.pick [0,1,8,9] (by decide);simp only[*,go_sem] at ec ed eh;have hr:cG [9,10,29,30,31,32,33,34,35,36,37,38,39,40,41,42,43,44,45,46,47,48,49,50,51,52,53,54,55,56,57,58,59,60,61,62,63,64,65,66,67,68,69,70,71,72,73,74,75,76,77,78,79,80,81,82] eb w:=(T.fX (by decide)).trans (by simp only[*,go_sem]);clear T a8 a9 ba bb bc bd bj;obtain _|S:=S
   ·exact absurd y (by simp only[bn,reduceCtorEq,not_false_eq_true])
   revert y;refine bS fun ht h q=>?_;unfold v9 at h;(try dsimp only at h);refine af hJ (af hJ ?_);refine aA hJ fun hv=>?_;refine cR hJ mixed 14 1 (by simp only[*,go_sem]) (by kernel_rfl) ?_;revert h;refine cS (fun et h=>?_) fun et h=>?_
   ·revert h;refine bS fun eu ev h=>?_;obtain ⟨hx,hy,hz,hA⟩:=f.cN ev;revert h;refine bS fun eQ eS h=>?_;obtain ⟨hB,hD,hE,hF⟩:=f.cN eS;revert h;refine bS fun hG e0 h=>?_;(try simp only[*,go_sem]);refine ⟨_,bD hJ fun F dv=>jE eu eQ e0,bZ ?_⟩;(try simp only[*,go_sem]);revert h;refine jC hJ (by simp only[*,go_sem]) (fun e1 h=>?_) fun e1 h=>?_
    ·obtain rfl:=sI h;refine aI hJ (aQ hJ ?_);refine aA hJ fun hI=>?_;refine aj hJ ?_;simp only[*,go_sem];refine ⟨S,Nat.lt_succ_self _,_,Le.sub (List.Sublist.refl _),(IntKind.i64.wrap (l - 1)),q,rfl,?_⟩;simp only[*,go_sem]
    obtain rfl:=sI h;refine bN ?_;simp only[go_sem];obtain rfl:=sI q;clear q;have h:=bl;dsimp only[aG] at h;(try simp only[*,go_sem]);refine Qn.intro ⟨_,Le.sub (List.Sublist.refl _),l,h,rfl,?_⟩;simp only[*,go_sem]
   obtain rfl:=sI h;(try simp only[*,go_sem]);refine bL hJ (by simp only[*,go_sem]) ?_;refine bN ?_;simp only[go_sem];obtain rfl:=sI q;clear q;have h:=bl;dsimp only[aG] at h;(try simp only[*,go_sem]);refine Qn.intro ⟨_,Le.sub (List.Sublist.refl _),l,h,rfl,?_⟩;simp only[*,go_sem]
  rintro hK F' ⟨k,bm,rfl,hL,hM,hN,hP,hQ,hR,hS,hT⟩;obtain rfl:=sI bm;clear bm;have h:=dT;dsimp only[aG] at h;clear a8 a9 ba bb bc bd bj;refine af hJ (af hJ ?_);refine aA hJ fun hV=>?_;refine aj hJ ?_;simp only[*,go_sem];revert h;refine jC hJ (by simp only[*,go_sem]) (fun e2 h=>?_) fun e2 h=>?_
  ·obtain rfl:=sI h;refine bN ?_;simp only[go_sem];obtain rfl:=sI P;clear P;have h:=cl;dsimp only[aG] at h;(try simp only[*,go_sem]);refine Qn.intro ⟨_,Le.sub (List.Sublist.refl _),d,e,g,h,rfl,f,?_⟩;simp only[*,go_sem]
  refine aI hJ (af hJ ?_);refine aA hJ fun hX=>?_;refine eF hJ mixed [13,14,15] (.pure 0 (.pure 1 (.pure 2 (.pure 3 (.pure 4 (.pure 5 (.pure 6 (.rd 7 (.pure 8 (.pure 9 (.pure 10 (.rd 11 (.pure 12 (.last 13 (.pure 14 (.last 15 .done)))))))))))))))) ⟨ro,[(b,Obj.cells d 3)]⟩ (by simp only[*,go_sem]) (by kernel_rfl) ?_;revert h;refine bS fun U e3 h=>?_;obtain ⟨hY,hZ,h0,h1⟩:=f.cN e3;revert h;refine bS fun V fa h=>?_;obtain ⟨fb,fg,h2,h3⟩:=f.cN fa;have bo:=f.fQ fb fg U;revert h;refine bS fun h4 fi h=>?_;obtain rfl:=sI h;obtain ⟨fo,fp,h5,h6⟩:=bo.cN fi;have br:=bo.fQ fo fp V;try simp only[*,go_sem]
  refine af hJ ?_;obtain ⟨bs,W⟩:∃o,o=(cI (cI d (e).toNat [.int .i64 U]) (k).toNat [.int .i64 V]):=⟨_,rfl⟩
  refine cF (F:=⟨ro,[(b,Obj.cells bs 3)]⟩) hJ (by rw[W];exact Le.refl _) ?_;rw[<-W] at br;clear W;refine aA hJ fun h7=>?_;refine aj hJ ?_;simp only[*,go_sem];refine aA hJ fun h8=>?_;refine aj hJ ?_;simp only[*,go_sem];refine ⟨L,Nat.lt_succ_self _,_,Le.sub (List.Sublist.refl _),bs,(IntKind.i64.wrap (e+1)),(IntKind.i64.wrap (k - 1)),((g.set (e).toNat U).set (k).toNat V),P,rfl,br,?_⟩;simp only[*,go_sem]
 rintro h9 F' ⟨H,I,K,bz,rfl,fr,ib,ic,ih,ik,il⟩;obtain rfl:=sI bz;clear bz;have h:=cd;dsimp only[aG] at h;obtain rfl:=sI h;clear ad hd ae k1 al ao;refine af hJ ?_;refine aA hJ fun im=>?_;refine aj hJ ?_;simp only[*,go_sem];refine az ?_;simp only[*,go_sem];exact ⟨_,fr,Le.sub (List.Sublist.refl _)⟩
def wj (u0:(List Int))(a:Int)(st:Int):Option (Fl Int (Bool×(List Int))):=
 cond (decide (st<a)) (ag (bp u0 st) fun b=>ag (bp u0 (IntKind.i64.wrap (st - 1))) fun c=>ag (ir b c) fun d=>cond (!d) (some (.nx (IntKind.i64.wrap (st+1)))) (some (.bk st))) (some (.bk st))
def wm (u0:(List Int))(b:Int)(a:Int)(st:(Bool×Int×Int)):Option (Fl (Bool×Int×Int) (Bool×(List Int))):=
 cond (decide (st.2.2<5)) (ag (ag (bn (wj u0 a) fu st.2.1) fun o=>aG o (fun c=>some (.bk c)) (fun _ _=>none) (fun r=>some (.rt r)):Option (Fl Int (Bool×(List Int)))) fun o=>aG o (fun d=>cond ((d==a)) (some (.rt (true,u0))) (cond (decide ((IntKind.i64.wrap (a - b))<50)) (some (.rt (false,u0))) (none))) (fun _ _=>none) (fun r=>some (.rt r))) (some (.bk (st.1,st.2.1,st.2.2)))
def wo (u0:(List Int))(a:Int)(b:Int):Option (Bool×(List Int)):=
 cond (List.isEmpty u0) none (ag (ag (bn (wm u0 a b) fu (false,(IntKind.i64.wrap (a+1)),0)) fun o=>aG o (fun c=>some (.bk c.1)) (fun _ _=>none) (fun r=>some (.rt r)):Option (Fl Bool (Bool×(List Int)))) fun o=>aG o (fun d=>some (false,u0)) (fun _ _=>none) (fun r=>some r))
theorem GB {ro:Addr->Option Value}(u0:(List Int)){p:Value}{C:List (Nat×Obj)}(b:aO rI ro 3 p u0 C)(f:Int)(g:Int){r:(Bool×(List Int))}(h:wo u0 f g=some r):aC Tryz.prog 182 #[p,.int .i64 f,.int .i64 g] ⟨ro,C⟩ (fun v G=>∃D,(v= .bool r.1/\aO rI ro 3 p r.2 D)/\Le ⟨ro,D⟩ G):=by
 obtain ⟨d1,c2,rfl,a8⟩:=b.len;unfold wo at h;revert h;refine cS (fun E h=>?_) fun E h=>?_
 ·cases h
 obtain ⟨c,k,rfl,rfl,a9⟩:=b.ig E;refine aC.go Tryz.func182 rfl Tryz.ntmps182 Tryz.results182 (by simp) fun main J hJ A H hd hs=>?_;have I:=hs 0;have k1:=hs 1;have K:=hs 2;clear hs;refine af hJ ?_;refine aA hJ fun ba=>?_;refine aj hJ ?_;simp only[*,go_sem];refine af hJ ?_;refine aA hJ fun bb=>?_;refine aj hJ ?_;simp only[*,go_sem];revert h;refine bS fun U h q=>?_;refine gh hJ (fun a F'=>∃(s:Bool),some (Fl.bk s:Fl Bool (Bool×(List Int)))=some U/\F'=⟨ro,[(c,Obj.cells k 3)]⟩/\sz a=133/\a.defers=[]/\slot a 0= .slice (some ⟨c,0,none⟩) u0.length c2/\slot a 6= .bool s) ?_ ?_
 ·refine af hJ ?_;refine aA hJ fun bc=>?_;refine aj hJ ?_;simp only[*,go_sem];refine aQ hJ ?_;revert h;refine bS fun V l t=>?_;refine bU hJ [6,7,8,9,10,13,14,15,16,17,18,19,20,21,22,23,24,25,26,27,28,29,30,31,32,33,34,35,36,37,38,39,40,41,42,43,44,45,46,47,48,49,50,51,52,53,54,55,56,57,58,59,60,61,62,63,64,65,66,67,68,69,70,71,72,73,74,75,76,77,78,79,80,81,82,83,84,85,86,87,88,89,90,91,92,93,94,95,96,97,98,99,100,101,102,103,104,105,106,107,108,109,110,111,112,113,114,115,116,117,118,119,120,121,122,123,124,125,126,127,128,129,130,131,132] (fun m a F'=>∃(i:Bool) (n:Int) (v20:Int),bn (wm u0 f g) m (i,n,v20)=some V/\F'=⟨ro,[(c,Obj.cells k 3)]⟩/\slot a 6= .bool i/\slot a 7= .int .i64 n/\slot a 8= .int .i64 v20) fu ?_ ?_
  ·refine ⟨false,(IntKind.i64.wrap (f+1)),0,l,rfl,?_⟩;simp only[*,go_sem]
  rintro L M F' N ⟨i,n,v20,l,rfl,O,P,Q⟩;obtain ⟨u,w,x⟩:=N.pick [0,1,2] (by decide);simp only[*,go_sem] at u w x;clear N H hd I k1 K;obtain _|L:=L
  ·exact absurd l (by simp only[bn,reduceCtorEq,not_false_eq_true])
  revert l;refine bS fun bd h d=>?_;unfold wm at h;try dsimp only at h
  refine af hJ (af hJ ?_);refine aA hJ fun bj=>?_;refine aj hJ ?_;simp only[*,go_sem];revert h;refine jC hJ (by simp only[*,go_sem]) (fun W h=>?_) fun W h=>?_
  ·refine aI hJ (af hJ ?_);refine aQ hJ ?_;revert h;refine bS fun X h Y=>?_;refine gh hJ (fun a F'=>∃(y:Int),some (Fl.bk y:Fl Int (Bool×(List Int)))=some X/\F'=⟨ro,[(c,Obj.cells k 3)]⟩/\sz a=133/\a.defers=[]/\cG [6,7,8,9,10,13,14,15,16,17,18,19,20,21,22,23,24,25,26,27,28,29,30,31,32,33,34,35,36,37,38,39,40,41,42,43,44,45,46,47,48,49,50,51,52,53,54,55,56,57,58,59,60,61,62,63,64,65,66,67,68,69,70,71,72,73,74,75,76,77,78,79,80,81,82,83,84,85,86,87,88,89,90,91,92,93,94,95,96,97,98,99,100,101,102,103,104,105,106,107,108,109,110,111,112,113,114,115,116,117,118,119,120,121,122,123,124,125,126,127,128,129,130,131,132] a M/\slot a 0= .slice (some ⟨c,0,none⟩) u0.length c2/\slot a 1= .int .i64 f/\slot a 2= .int .i64 g/\slot a 6= .bool i/\slot a 7= .int .i64 y/\slot a 8= .int .i64 v20) ?_ ?_
   ·refine aQ hJ ?_;revert h;refine bS fun Z o R=>?_;refine bU hJ [7,17,18,19,20,21,22,23,24,25,26,27,28,29,30,31,32,33,34] (fun m a F'=>∃(e:Int),bn (wj u0 g) m e=some Z/\F'=⟨ro,[(c,Obj.cells k 3)]⟩/\slot a 7= .int .i64 e) fu ?_ ?_
    ·refine ⟨n,o,rfl,?_⟩;simp only[*,go_sem]
    rintro z ab F' B ⟨e,o,rfl,bl⟩;obtain ⟨ad,ae,al⟩:=B.pick [0,1,2,6,8,13,14] (by decide);simp only[*,go_sem] at ad ae al;have bm:cG [6,7,8,9,10,13,14,15,16,17,18,19,20,21,22,23,24,25,26,27,28,29,30,31,32,33,34,35,36,37,38,39,40,41,42,43,44,45,46,47,48,49,50,51,52,53,54,55,56,57,58,59,60,61,62,63,64,65,66,67,68,69,70,71,72,73,74,75,76,77,78,79,80,81,82,83,84,85,86,87,88,89,90,91,92,93,94,95,96,97,98,99,100,101,102,103,104,105,106,107,108,109,110,111,112,113,114,115,116,117,118,119,120,121,122,123,124,125,126,127,128,129,130,131,132] ab M:=(B.fX (by decide)).trans (by simp only[*,go_sem]);clear B u w x O P Q;obtain _|z:=z
    ·exact absurd o (by simp only[bn,reduceCtorEq,not_false_eq_true])
    revert o;refine bS fun bo h j=>?_;unfold wj at h;(try dsimp only at h);refine af hJ (af hJ ?_);refine aA hJ fun br=>?_;refine cR hJ mixed 16 1 (by simp only[*,go_sem]) (by kernel_rfl) ?_;revert h;refine cS (fun ao h=>?_) fun ao h=>?_
    ·revert h;refine bS fun ar a0 h=>?_;obtain ⟨bs,bz,b0,b1⟩:=b.cN a0;revert h;refine bS fun a2 a3 h=>?_;obtain ⟨b2,b3,b4,b5⟩:=b.cN a3;revert h;refine bS fun ca a4 h=>?_;(try simp only[*,go_sem]);refine ⟨_,bD hJ fun F cb=>jE ar a2 a4,bZ ?_⟩;(try simp only[*,go_sem]);revert h;refine jC hJ (by simp only[*,go_sem]) (fun a5 h=>?_) fun a5 h=>?_
     ·obtain rfl:=sI h;refine aI hJ (aQ hJ ?_);refine aA hJ fun cd=>?_;refine aj hJ ?_;simp only[*,go_sem];refine ⟨z,Nat.lt_succ_self _,_,Le.sub (List.Sublist.refl _),(IntKind.i64.wrap (e+1)),j,rfl,?_⟩;simp only[*,go_sem]
     obtain rfl:=sI h;refine bN ?_;simp only[go_sem];obtain rfl:=sI j;clear j;have h:=R;dsimp only[aG] at h;(try simp only[*,go_sem]);refine Qn.intro ⟨_,Le.sub (List.Sublist.refl _),e,h,rfl,?_⟩;simp only[*,go_sem]
    obtain rfl:=sI h;(try simp only[*,go_sem]);refine bL hJ (by simp only[*,go_sem]) ?_;refine bN ?_;simp only[go_sem];obtain rfl:=sI j;clear j;have h:=R;dsimp only[aG] at h;(try simp only[*,go_sem]);refine Qn.intro ⟨_,Le.sub (List.Sublist.refl _),e,h,rfl,?_⟩;simp only[*,go_sem]
   rintro cf F' ⟨y,S,rfl,cl,cu,cy,c0,da,db,dd,df,dk⟩;obtain rfl:=sI S;clear S;have h:=Y;dsimp only[aG] at h;clear u w x O P Q;refine af hJ (af hJ ?_);refine aA hJ fun dp=>?_;refine aj hJ ?_;simp only[*,go_sem];revert h;refine jC hJ (by simp only[*,go_sem]) (fun a6 h=>?_) fun a6 h=>?_
   ·obtain rfl:=sI h;refine af hJ ?_;refine aA hJ fun dq=>?_;refine aj hJ ?_;simp only[*,go_sem];obtain rfl:=sI d;clear d;have h:=t;dsimp only[aG] at h;obtain rfl:=sI h;have h:=q;dsimp only[aG] at h;obtain rfl:=sI h;refine az ?_;simp only[*,go_sem];exact ⟨_,b,Le.sub (List.Sublist.refl _)⟩
   refine aI hJ (af hJ ?_);refine af hJ ?_;refine aA hJ fun ds=>?_;refine aj hJ ?_;simp only[*,go_sem];revert h;refine jC hJ (by simp only[*,go_sem]) (fun a7 h=>?_) fun a7 h=>?_
   ·obtain rfl:=sI h;refine af hJ ?_;refine aA hJ fun dt=>?_;refine aj hJ ?_;simp only[*,go_sem];obtain rfl:=sI d;clear d;have h:=t;dsimp only[aG] at h;obtain rfl:=sI h;have h:=q;dsimp only[aG] at h;obtain rfl:=sI h;refine az ?_;simp only[*,go_sem];exact ⟨_,b,Le.sub (List.Sublist.refl _)⟩
   cases h
  obtain rfl:=sI h;refine bN ?_;simp only[go_sem];obtain rfl:=sI d;clear d;have h:=t;dsimp only[aG] at h;try simp only[*,go_sem]
  refine Qn.intro ⟨_,Le.sub (List.Sublist.refl _),i,h,rfl,?_⟩;simp only[*,go_sem]
 rintro du F' ⟨s,T,rfl,dv,dC,dE,dT⟩;obtain rfl:=sI T;clear T;have h:=q;dsimp only[aG] at h;obtain rfl:=sI h;clear H hd I k1 K;refine af hJ ?_;refine aA hJ fun ea=>?_;refine aj hJ ?_;simp only[*,go_sem];refine az ?_;simp only[*,go_sem];exact ⟨_,b,Le.sub (List.Sublist.refl _)⟩
def wq (st:(Int×Int×Int×Bool×Bool×(List Int))):Option (Fl (Int×Int×Int×Bool×Bool×(List Int)) (Unit×(List Int))):=
 cond (decide ((IntKind.i64.wrap (st.2.1 - st.1))<=12)) (ag (so st.2.2.2.2.2 st.1 st.2.1) fun j=>some (.rt ((),j.2))) (cond ((st.2.2.1==0)) (none) (ag (cond (!st.2.2.2.1) (ag (vV st.2.2.2.2.2 st.1 st.2.1) fun k=>some (.bk ((IntKind.i64.wrap (st.2.2.1 - 1)),k.2))) (some (.bk (st.2.2.1,st.2.2.2.2.2))):Option (Fl (Int×(List Int)) (Unit×(List Int)))) fun o=>aG o (fun c=>ag (vR c.2 st.1 st.2.1) fun b=>cond ((b.1.2==2)) (none) (ag (cond (st.2.2.2.1) (cond (st.2.2.2.2.1) (cond ((b.1.2==1)) (ag (wo b.2 st.1 st.2.1) fun f=>cond (f.1) (some (.rt ((),f.2))) (some (.bk f.2))) (some (.bk b.2))) (some (.bk b.2))) (some (.bk b.2)):Option (Fl (List Int) (Unit×(List Int)))) fun o=>aG o (fun e=>ag (cond (decide (0<st.1)) (ag (bp e (IntKind.i64.wrap (st.1 - 1))) fun l=>ag (bp e b.1.1) fun m=>ag (ir l m) fun n=>cond (!n) (ag (wh e st.1 st.2.1 b.1.1) fun g=>some (.br 1 (g.1,g.2))) (some (.bk (st.1,e)))) (some (.bk (st.1,e))):Option (Fl (Int×(List Int)) (Unit×(List Int)))) fun o=>aG o (fun d=>ag (v7 d.2 d.1 st.2.1 b.1.1) fun a=>ag (fF (IntKind.i64.wrap (st.2.1 - st.1)) 8) fun h=>cond (decide ((IntKind.i64.wrap (a.1.1 - d.1))<(IntKind.i64.wrap (st.2.1 - a.1.1)))) (ag (sr a.2 d.1 a.1.1 c.1) fun p=>some (.nx ((IntKind.i64.wrap (a.1.1+1)),st.2.1,c.1,(decide (h<=(IntKind.i64.wrap (a.1.1 - d.1)))),a.1.2,p.2))) (ag (sr a.2 (IntKind.i64.wrap (a.1.1+1)) st.2.1 c.1) fun q=>some (.nx (d.1,a.1.1,c.1,(decide (h<=(IntKind.i64.wrap (st.2.1 - a.1.1)))),a.1.2,q.2)))) (fun _ i=>some (.nx (i.1,st.2.1,c.1,st.2.2.2.1,st.2.2.2.2.1,i.2))) (fun r=>some (.rt r))) (fun _ _=>none) (fun r=>some (.rt r)))) (fun _ _=>none) (fun r=>some (.rt r))))
def wu (u0:(List Int))(a:Int)(b:Int)(c:Int):Option (Unit×(List Int)):=
 cond (List.isEmpty u0) none (ag (bn (wq) fu (a,b,c,true,true,u0)) fun o=>aG o (fun d=>some ((),d.2.2.2.2.2)) (fun _ _=>none) (fun r=>some r))
theorem GC {ro:Addr->Option Value}(u0:(List Int)){H:Value}{T:List (Nat×Obj)}(I:aO rI ro 3 H u0 T)(K:Int)(L:Int)(M:Int){r:(Unit×(List Int))}(h:wu u0 K L M=some r):aC Tryz.prog 148 #[H,.int .i64 K,.int .i64 L,.int .i64 M] ⟨ro,T⟩ (fun v G=>∃d,(v= .tuple #[]/\aO rI ro 3 H r.2 d)/\Le ⟨ro,d⟩ G):=by
 obtain ⟨d1,c2,rfl,gB⟩:=I.len;unfold wu at h;revert h;refine cS (fun U h=>?_) fun U h=>?_
 ·cases h
 obtain ⟨b,bd,rfl,rfl,gC⟩:=I.ig U;refine aC.go Tryz.func148 rfl Tryz.ntmps148 Tryz.results148 (by simp) fun main J hJ A bj hd hs=>?_;have bl:=hs 0;have k1:=hs 1;have bm:=hs 2;have bo:=hs 3;clear hs;refine af hJ ?_;refine aA hJ fun gM=>?_;refine aj hJ ?_;simp only[*,go_sem];refine af hJ ?_;refine aA hJ fun gT=>?_;refine aj hJ ?_;simp only[*,go_sem];refine aQ hJ ?_;revert h;refine bS fun br z V=>?_;refine bU hJ [1,2,3,8,9,10,11,12,13,14,15,16,17,18,19,20,21,22,23,24,25,26,27,28,29,30,31,32,33,34,35,36,37,38,39,40,41,42,43,44,45,46,47,48,49,50,51,52,53,54,55,56,57,58,59,60,61,62,63,64,65,66,67,68,69,70,71,72,73,74,75,76,77,78,79,80,81,82,83,84,85,86,87,88,89,90,91,92,93,94,95,96,97,98,99,100,101,102,103,104,105,106,107,108,109,110,111,112,113,114,115,116,117,118,119,120,121,122,123,124,125,126,127,128,129,130,131,132,133] (fun m a F'=>∃(B:Array Value) (e:Int) (c:Int) (t:Int) (l:Bool) (n:Bool) (q:(List Int)),bn (wq) m (e,c,t,l,n,q)=some br/\F'=⟨ro,[(b,Obj.cells B 3)]⟩/\aO rI ro 3 (.slice (some ⟨b,0,none⟩) u0.length c2) q [(b,Obj.cells B 3)]/\slot a 1= .int .i64 e/\slot a 2= .int .i64 c/\slot a 3= .int .i64 t/\slot a 8= .bool l/\slot a 9= .bool n) fu ?_ ?_
 ·refine ⟨bd,K,L,M,true,true,u0,z,rfl,I,?_⟩;simp only[*,go_sem]
 rintro u N F' W ⟨B,e,c,t,l,n,q,z,rfl,O,bs,bz,b0,b1,b2⟩;obtain ⟨X,Y,Z⟩:=W.pick [0] (by decide);simp only[*,go_sem] at X Y Z;clear W bj hd bl k1 bm bo;obtain _|u:=u
 ·exact absurd z (by simp only[bn,reduceCtorEq,not_false_eq_true])
 revert z;refine bS fun gV h o=>?_;unfold wq at h;try dsimp only at h
 refine aQ hJ (af hJ ?_);refine aA hJ fun g0=>?_;refine aj hJ ?_;simp only[*,go_sem];refine af hJ (af hJ ?_);refine aA hJ fun g1=>?_;refine aj hJ ?_;simp only[*,go_sem];revert h;refine jC hJ (by simp only[*,go_sem]) (fun b3 h=>?_) fun b3 h=>?_
 ·refine af hJ ?_;refine aA hJ fun g2=>?_;refine aj hJ ?_;revert h;refine bS fun g3 b4 h=>?_;obtain rfl:=sI h;simp only[*,go_sem];refine dJ hJ [] [] _ (AF q O e c b4) (fun g4 ha f d g hc=>?_);obtain ⟨rfl,ab⟩:=f;obtain ⟨b5,rfl⟩:=ab.gx;simp only[aV] at g;subst d;refine ⟨⟨ro,[(b,Obj.cells b5 3)]⟩,Le.refl _,?_⟩;try simp only[*,go_sem]
  obtain rfl:=sI o;clear o;have h:=V;dsimp only[aG] at h;obtain rfl:=sI h;refine az ?_;simp only[*,go_sem];exact ⟨_,ab,Le.sub (List.Sublist.refl _)⟩
 refine aI hJ (af hJ ?_);refine af hJ ?_;refine aA hJ fun hf=>?_;refine aj hJ ?_;simp only[*,go_sem];revert h;refine jC hJ (by simp only[*,go_sem]) (fun ca h=>?_) fun ca h=>?_
 ·cases h
 refine aI hJ ?_;revert h;refine bS fun cb h cd=>?_;refine gh hJ (fun a F'=>∃(P:Array Value) (i:Int) (C:(List Int)),some (Fl.bk (i,C):Fl (Int×(List Int)) (Unit×(List Int)))=some cb/\F'=⟨ro,[(b,Obj.cells P 3)]⟩/\aO rI ro 3 (.slice (some ⟨b,0,none⟩) u0.length c2) C [(b,Obj.cells P 3)]/\sz a=134/\a.defers=[]/\cG [1,2,3,8,9,10,11,12,13,14,15,16,17,18,19,20,21,22,23,24,25,26,27,28,29,30,31,32,33,34,35,36,37,38,39,40,41,42,43,44,45,46,47,48,49,50,51,52,53,54,55,56,57,58,59,60,61,62,63,64,65,66,67,68,69,70,71,72,73,74,75,76,77,78,79,80,81,82,83,84,85,86,87,88,89,90,91,92,93,94,95,96,97,98,99,100,101,102,103,104,105,106,107,108,109,110,111,112,113,114,115,116,117,118,119,120,121,122,123,124,125,126,127,128,129,130,131,132,133] a N/\slot a 0= .slice (some ⟨b,0,none⟩) u0.length c2/\slot a 1= .int .i64 e/\slot a 2= .int .i64 c/\slot a 3= .int .i64 i/\slot a 8= .bool l/\slot a 9= .bool n/\slot a 10= .int .i64 (IntKind.i64.wrap (c - e))) ?_ ?_
 ·refine af hJ ?_;refine aA hJ fun hg=>?_;refine aj hJ ?_;simp only[*,go_sem];revert h;refine jC hJ (by simp only[*,go_sem]) (fun cf h=>?_) fun cf h=>?_
  ·refine af hJ ?_;refine aA hJ fun hh=>?_;refine aj hJ ?_;revert h;refine bS fun cl cu h=>?_;simp only[*,go_sem];refine dJ hJ [] [] _ (Gy q O e c cu) (fun hi hj f d g hk=>?_);obtain ⟨rfl,ad⟩:=f;obtain ⟨ae,rfl⟩:=ad.gx;simp only[aV] at g;subst d;refine ⟨⟨ro,[(b,Obj.cells ae 3)]⟩,Le.refl _,?_⟩;(try simp only[*,go_sem]);refine aA hJ fun hl=>?_;refine aj hJ ?_;simp only[*,go_sem];refine Qn.intro ⟨_,Le.sub (List.Sublist.refl _),ae,(IntKind.i64.wrap (t - 1)),cl.2,h,rfl,ad,?_⟩;simp only[*,go_sem]
  refine aI hJ ?_;try simp only[*,go_sem]
  refine Qn.intro ⟨_,Le.sub (List.Sublist.refl _),B,t,q,h,rfl,O,?_⟩;simp only[*,go_sem]
 rintro hn F' ⟨P,i,C,al,rfl,cy,c0,da,ho,db,dd,df,dk,dp,dq,ds⟩;obtain rfl:=sI al;clear al;have h:=cd;dsimp only[aG] at h;clear X Y Z bs bz b0 b1 b2;refine af hJ ?_;refine aA hJ fun hp=>?_;refine aj hJ ?_;revert h;refine bS fun k dt h=>?_;simp only[*,go_sem];refine dJ hJ [] [] _ (Gk C cy e c dt) (fun hq hr f d g ht=>?_);obtain ⟨rfl,w⟩:=f;obtain ⟨D,rfl⟩:=w.gx;simp only[aV] at g;subst d;refine ⟨⟨ro,[(b,Obj.cells D 3)]⟩,Le.refl _,?_⟩;refine aJ ?_;try simp only[*,go_sem]
 refine af hJ (af hJ ?_);refine aA hJ fun hv=>?_;refine aj hJ ?_;simp only[*,go_sem];revert h;refine jC hJ (by simp only[*,go_sem]) (fun du h=>?_) fun du h=>?_
 ·cases h
 refine aI hJ ?_;revert h;refine bS fun dv h ao=>?_;refine gh hJ (fun a F'=>∃(x:Array Value) (s:(List Int)),some (Fl.bk s:Fl (List Int) (Unit×(List Int)))=some dv/\F'=⟨ro,[(b,Obj.cells x 3)]⟩/\aO rI ro 3 (.slice (some ⟨b,0,none⟩) u0.length c2) s [(b,Obj.cells x 3)]/\sz a=134/\a.defers=[]/\cG [1,2,3,8,9,10,11,12,13,14,15,16,17,18,19,20,21,22,23,24,25,26,27,28,29,30,31,32,33,34,35,36,37,38,39,40,41,42,43,44,45,46,47,48,49,50,51,52,53,54,55,56,57,58,59,60,61,62,63,64,65,66,67,68,69,70,71,72,73,74,75,76,77,78,79,80,81,82,83,84,85,86,87,88,89,90,91,92,93,94,95,96,97,98,99,100,101,102,103,104,105,106,107,108,109,110,111,112,113,114,115,116,117,118,119,120,121,122,123,124,125,126,127,128,129,130,131,132,133] a N/\slot a 0= .slice (some ⟨b,0,none⟩) u0.length c2/\slot a 1= .int .i64 e/\slot a 2= .int .i64 c/\slot a 3= .int .i64 i/\slot a 8= .bool l/\slot a 9= .bool n/\slot a 10= .int .i64 (IntKind.i64.wrap (c - e))/\slot a 11= .int .i64 k.1.1) ?_ ?_
 ·refine af hJ ?_;refine aA hJ fun hx=>?_;refine aj hJ ?_;revert h;refine cS (fun dC h=>?_) fun dC h=>?_
  ·revert h;refine cS (fun dE h=>?_) fun dE h=>?_
   ·(try simp only[*,go_sem]);revert h;refine jC hJ (by simp only[*,go_sem]) (fun dT h=>?_) fun dT h=>?_
    ·refine af hJ ?_;refine aA hJ fun hy=>?_;refine aj hJ ?_;revert h;refine bS fun ea eb h=>?_;simp only[*,go_sem];refine dJ hJ [] [] _ (GB k.2 w e c eb) (fun hz hA f d g hB=>?_);obtain ⟨rfl,Q⟩:=f;obtain ⟨ar,rfl⟩:=Q.gx;simp only[aV] at g;subst d;refine ⟨⟨ro,[(b,Obj.cells ar 3)]⟩,Le.refl _,?_⟩;(try simp only[*,go_sem]);revert h;refine jC hJ (by simp only[*,go_sem]) (fun ec h=>?_) fun ec h=>?_
     ·obtain rfl:=sI h;have h:=ao;dsimp only[aG] at h;obtain rfl:=sI h;obtain rfl:=sI o;clear o;have h:=V;dsimp only[aG] at h;obtain rfl:=sI h;refine az ?_;simp only[*,go_sem];exact ⟨_,Q,Le.sub (List.Sublist.refl _)⟩
     refine aI hJ ?_;(try simp only[*,go_sem]);refine Qn.intro ⟨_,Le.sub (List.Sublist.refl _),ar,ea.2,h,rfl,Q,?_⟩;simp only[*,go_sem]
    refine aI hJ ?_;(try simp only[*,go_sem]);refine Qn.intro ⟨_,Le.sub (List.Sublist.refl _),D,k.2,h,rfl,w,?_⟩;simp only[*,go_sem]
   (try simp only[*,go_sem]);refine bL hJ (by simp only[*,go_sem]) ?_;refine aI hJ ?_;(try simp only[*,go_sem]);refine Qn.intro ⟨_,Le.sub (List.Sublist.refl _),D,k.2,h,rfl,w,?_⟩;simp only[*,go_sem]
  try simp only[*,go_sem]
  refine bL hJ (by simp only[*,go_sem]) ?_;refine aI hJ ?_;try simp only[*,go_sem]
  refine Qn.intro ⟨_,Le.sub (List.Sublist.refl _),D,k.2,h,rfl,w,?_⟩;simp only[*,go_sem]
 rintro hD F' ⟨x,s,a0,rfl,y,ed,eh,hE,et,eu,ev,eQ,eS,e0,e1,e2⟩;obtain rfl:=sI a0;clear a0;have h:=ao;dsimp only[aG] at h;clear c0 da db dd df dk dp dq ds;revert h;refine bS fun e3 h a2=>?_;refine gh hJ (fun a F'=>∃(R:Array Value) (p:Int) (E:(List Int)),some (Fl.bk (p,E):Fl (Int×(List Int)) (Unit×(List Int)))=some e3/\F'=⟨ro,[(b,Obj.cells R 3)]⟩/\aO rI ro 3 (.slice (some ⟨b,0,none⟩) u0.length c2) E [(b,Obj.cells R 3)]/\sz a=134/\a.defers=[]/\cG [1,2,3,8,9,10,11,12,13,14,15,16,17,18,19,20,21,22,23,24,25,26,27,28,29,30,31,32,33,34,35,36,37,38,39,40,41,42,43,44,45,46,47,48,49,50,51,52,53,54,55,56,57,58,59,60,61,62,63,64,65,66,67,68,69,70,71,72,73,74,75,76,77,78,79,80,81,82,83,84,85,86,87,88,89,90,91,92,93,94,95,96,97,98,99,100,101,102,103,104,105,106,107,108,109,110,111,112,113,114,115,116,117,118,119,120,121,122,123,124,125,126,127,128,129,130,131,132,133] a N/\slot a 0= .slice (some ⟨b,0,none⟩) u0.length c2/\slot a 1= .int .i64 p/\slot a 2= .int .i64 c/\slot a 3= .int .i64 i/\slot a 8= .bool l/\slot a 9= .bool n/\slot a 10= .int .i64 (IntKind.i64.wrap (c - e))/\slot a 11= .int .i64 k.1.1) ?_ ?_
 ·refine af hJ ?_;refine aA hJ fun hF=>?_;refine cR hJ mixed 15 1 (by simp only[*,go_sem]) (by kernel_rfl) ?_;revert h;refine cS (fun fa h=>?_) fun fa h=>?_
  ·revert h;refine bS fun fb fg h=>?_;obtain ⟨hG,hI,hK,hL⟩:=y.cN fg;revert h;refine bS fun fi fo h=>?_;obtain ⟨hM,hN,hP,hQ⟩:=y.cN fo;revert h;refine bS fun hR fp h=>?_;(try simp only[*,go_sem]);refine ⟨_,bD hJ fun F hS=>jE fb fi fp,bZ ?_⟩;(try simp only[*,go_sem]);revert h;refine jC hJ (by simp only[*,go_sem]) (fun fr h=>?_) fun fr h=>?_
   ·refine af hJ ?_;refine aA hJ fun hT=>?_;refine aj hJ ?_;revert h;refine bS fun a3 fs h=>?_;obtain rfl:=sI h;simp only[*,go_sem];refine dJ hJ [] [] _ (GA s y e c k.1.1 fs) (fun hV hX f d g hY=>?_);obtain ⟨rfl,a4⟩:=f;obtain ⟨a5,rfl⟩:=a4.gx;simp only[aV] at g;subst d;refine ⟨⟨ro,[(b,Obj.cells a5 3)]⟩,Le.refl _,?_⟩;refine aJ ?_;(try simp only[*,go_sem]);refine af hJ ?_;refine aA hJ fun hZ=>?_;refine aj hJ ?_;simp only[*,go_sem];refine bN ?_;simp only[go_sem];have h:=a2;dsimp only[aG] at h;obtain rfl:=sI h;(try simp only[*,go_sem]);refine ⟨u,Nat.lt_succ_self _,_,Le.sub (List.Sublist.refl _),a5,a3.1,c,i,l,n,a3.2,o,rfl,a4,?_⟩;simp only[*,go_sem]
   refine aI hJ ?_;(try simp only[*,go_sem]);refine Qn.intro ⟨_,Le.sub (List.Sublist.refl _),x,e,s,h,rfl,y,?_⟩;simp only[*,go_sem]
  try simp only[*,go_sem]
  refine bL hJ (by simp only[*,go_sem]) ?_;refine aI hJ ?_;try simp only[*,go_sem]
  refine Qn.intro ⟨_,Le.sub (List.Sublist.refl _),x,e,s,h,rfl,y,?_⟩;simp only[*,go_sem]
 rintro h0 F' ⟨R,p,E,a6,rfl,ft,h1,h2,h3,h4,h5,h6,h7,h8,h9,ib,ic⟩;obtain rfl:=sI a6;clear a6;have h:=a2;dsimp only[aG] at h;clear ed eh et eu ev eQ eS e0 e1 e2;refine af hJ ?_;refine aA hJ fun ih=>?_;refine aj hJ ?_;revert h;refine bS fun j fv h=>?_;simp only[*,go_sem];refine dJ hJ [] [] _ (Gz E ft p c k.1.1 fv) (fun ik il f d g im=>?_);obtain ⟨rfl,S⟩:=f;obtain ⟨fw,rfl⟩:=S.gx;simp only[aV] at g;subst d;refine ⟨⟨ro,[(b,Obj.cells fw 3)]⟩,Le.refl _,?_⟩;refine aJ ?_;try simp only[*,go_sem]
 refine af hJ ?_;refine aA hJ fun iv=>?_;refine aj hJ ?_;simp only[*,go_sem];refine af hJ ?_;refine aA hJ fun ix=>?_;refine aj hJ ?_;simp only[*,go_sem];refine af hJ ?_;refine aA hJ fun j1=>?_;refine aj hJ ?_;revert h;refine bS fun a7 a8 h=>?_;obtain ⟨j2,kh⟩:=jW a8;clear a8;try simp only[*,go_sem]
 refine af hJ ?_;refine aA hJ fun kj=>?_;refine aj hJ ?_;simp only[*,go_sem];revert h;refine jC hJ (by simp only[*,go_sem]) (fun fx h=>?_) fun fx h=>?_
 ·refine af hJ ?_;refine aA hJ fun kk=>?_;refine aj hJ ?_;simp only[*,go_sem];refine af hJ ?_;refine aA hJ fun kl=>?_;refine aj hJ ?_;revert h;refine bS fun gg gl h=>?_;obtain rfl:=sI h;simp only[*,go_sem];refine dJ hJ [] [] _ (AG j.2 S p j.1.1 i gl) (fun km kn f d g kp=>?_);obtain ⟨rfl,a9⟩:=f;obtain ⟨ba,rfl⟩:=a9.gx;simp only[aV] at g;subst d;refine ⟨⟨ro,[(b,Obj.cells ba 3)]⟩,Le.refl _,?_⟩;try simp only[*,go_sem]
  refine aA hJ fun ks=>?_;refine aj hJ ?_;simp only[*,go_sem];refine ⟨u,Nat.lt_succ_self _,_,Le.sub (List.Sublist.refl _),ba,(IntKind.i64.wrap (j.1.1+1)),c,i,(decide (a7<=(IntKind.i64.wrap (j.1.1 - p)))),j.1.2,gg.2,o,rfl,a9,?_⟩;simp only[*,go_sem]
 refine af hJ ?_;refine aA hJ fun kt=>?_;refine aj hJ ?_;simp only[*,go_sem];refine af hJ ?_;refine aA hJ fun kv=>?_;refine aj hJ ?_;revert h;refine bS fun gn gp h=>?_;obtain rfl:=sI h;simp only[*,go_sem];refine dJ hJ [] [] _ (AG j.2 S (IntKind.i64.wrap (j.1.1+1)) c i gp) (fun kx ky f d g k0=>?_);obtain ⟨rfl,bb⟩:=f;obtain ⟨bc,rfl⟩:=bb.gx;simp only[aV] at g;subst d;refine ⟨⟨ro,[(b,Obj.cells bc 3)]⟩,Le.refl _,?_⟩;try simp only[*,go_sem]
 refine aA hJ fun k2=>?_;refine aj hJ ?_;simp only[*,go_sem];refine ⟨u,Nat.lt_succ_self _,_,Le.sub (List.Sublist.refl _),bc,p,j.1.1,i,(decide (a7<=(IntKind.i64.wrap (c - j.1.1)))),j.1.2,gn.2,o,rfl,bb,?_⟩;simp only[*,go_sem]
def pY (u0:(List Int)):Option (Unit×(List Int)):=
 cond (List.isEmpty u0) none (ag (su (IntKind.u64.wrap (u0.length:Int))) fun a=>ag (wu u0 0 (u0.length:Int) a) fun b=>some ((),b.2))
theorem GD {ro:Addr->Option Value}(u0:(List Int)){b:Value}{d:List (Nat×Obj)}(c:aO rI ro 3 b u0 d){r:(Unit×(List Int))}(h:pY u0=some r):aC Tryz.prog 121 #[b] ⟨ro,d⟩ (fun v G=>∃a,(v= .tuple #[]/\aO rI ro 3 b r.2 a)/\Le ⟨ro,a⟩ G):=by
 obtain ⟨d1,c2,rfl,o⟩:=c.len;unfold pY at h;revert h;refine cS (fun e h=>?_) fun e h=>?_
 ·cases h
 obtain ⟨g,p,rfl,rfl,q⟩:=c.ig e;refine aC.go Tryz.func121 rfl Tryz.ntmps121 Tryz.results121 (by simp) fun main J hJ A s hd hs=>?_;have t:=hs 0;clear hs;refine af hJ ?_;refine aA hJ fun u=>?_;refine aj hJ ?_;simp only[*,go_sem,-h];refine aA hJ fun w=>?_;refine aj hJ ?_;revert h;refine bS fun i j h=>?_;simp only[*,go_sem,-h];refine bg hJ _ (AH (IntKind.u64.wrap (u0.length:Int)) j) (aJ ?_);revert h;refine bS fun x k h=>?_;try simp only[*,go_sem,-h]
 refine dJ hJ [] [] _ (GC u0 c 0 (u0.length:Int) i k) (fun y z l a m B=>?_);obtain ⟨rfl,f⟩:=l;obtain ⟨n,rfl⟩:=f.gx;simp only[aV] at m;subst a;refine ⟨⟨ro,[(g,Obj.cells n 3)]⟩,Le.refl _,?_⟩;try simp only[*,go_sem,-h]
 obtain rfl:=sI h;simp only[*,go_sem];exact ⟨_,f,Le.sub (List.Sublist.refl _)⟩
def jF (x:List Int)(j:Nat):Bool:=j==0||x.getD j 0 != x.getD (j - 1) 0
def gi (x:List Int):Nat->List Int
 |0=>[]
 |n+1=>gi x n++cond (jF x n) [x.getD n 0] []
theorem sw (x:List Int):∀n,n<=x.length->(∀j,j<n->jF x j=true)->gi x n=x.take n
 |0,_,_=>by simp[gi]
 |n+1,b,h=>by
  unfold gi
  rw[sw x n (by omega) (fun j c=>h j (by omega)),h n (by omega),List.take_succ]
  congr 1
  have a:n<x.length:=by omega
  simp[a]
theorem AI (x:List Int){j:Nat}(h:j<1):jF x j=true:=by
 obtain rfl:j=0:=by omega
 rfl
def sx (u0:List Int):Option (List Int):=cond (List.isEmpty u0) none (some (gi u0 u0.length))
theorem GF {ro:Addr->Option Value}(u0:List Int){Q:Value}{aS:List (Nat×Obj)}(hg:aO rI ro 3 Q u0 aS){r:List Int}(h:sx u0=some r):
  aC Tryz.prog 122 #[Q] ⟨ro,aS⟩ (fun v G=>∃R,aO rI ro 3 v r R/\Le ⟨ro,R⟩ G):=by
 obtain ⟨ad,cap,rfl,le⟩:=hg.len
 unfold sx at h
 have a8:=iR h;clear h;rcases a8 with ⟨S,h⟩|⟨S,h⟩
 ·cases h
 obtain ⟨b,F,rfl,rfl,cu⟩:=hg.ig S
 cases h
 have cy:u0.length<=1000000:=by obtain ⟨_,_,_,h,_⟩:=hg;exact h
 have cS:Tryz.prog.underlying 3=some (.int .i64):=by kernel_rfl
 refine aC.go Tryz.func122 rfl Tryz.ntmps122 Tryz.results122 (by simp) fun main J hJ A a9 hd hs=>?_
 have ba:=hs 0
 clear hs
 repeat refine af hJ ?_
 refine aj hJ ?_
 simp only[*,go_sem]
 repeat refine af hJ ?_
 refine aj hJ ?_
 simp only[*,go_sem]
 repeat refine af hJ ?_
 by_cases c0:u0.length<2
 ·refine bP hJ (by simp only[*,go_sem];simp;omega) ?_
  repeat refine af hJ ?_
  refine aj hJ ?_
  simp only[*,go_sem]
  refine az ?_
  simp only[*,go_sem]
  have e:gi u0 u0.length=u0:=by
   rw[sw u0 _ (Nat.le_refl _) (fun j c=>AI u0 (by omega)),List.take_length]
  rw[e]
  exact ⟨_,hg,Le.refl _⟩
 refine bL hJ (by simp only[*,go_sem];simp;omega) ?_
 refine aI hJ ?_
 repeat refine af hJ ?_
 refine aj hJ ?_
 simp only[*,go_sem]
 repeat refine af hJ ?_
 refine aQ hJ ?_
 refine bU hJ [3,4,5,10,11,12,13,14,15,16,17,18,19,20,21,22,23,24,25,26,27,28,29,30,31,32,33,34,35,36,37,38,39,40,41,42,43,44,45,46,47,48,49,50,51,52,53,54,55,56,57,58,59] (fun m u F'=>∃k:Nat,1<=k/\k<=u0.length/\u0.length - k<=m/\F'=⟨ro,[(b,Obj.cells F 3)]⟩/\slot u 3= .int .i64 (k:Int)/\∀j,j<k->jF u0 j=true) u0.length ?_ ?_
 ·refine ⟨1,Nat.le_refl _,by omega,by omega,rfl,?_,fun j c=>AI u0 c⟩
  simp only[*,go_sem]
  rfl
 ·rintro bb g F' B ⟨k,da,T,db,rfl,bc,H⟩
  have bd:sz g=61:=by rw[B.size];simp only[*,go_sem]
  have bj:g.defers=[]:=by rw[B.defers];simp only[*,go_sem]
  have bk:slot g 0= .slice (some ⟨b,0,none⟩) u0.length cap:=by rw[B.fc 0 (by decide)];simp only[*,go_sem]
  clear B a9 hd ba
  repeat refine af hJ ?_
  repeat refine af hJ ?_
  refine aj hJ ?_
  simp only[*,go_sem]
  by_cases U:k<u0.length
  ·have hb:decide (((k:Nat):Int)<(u0.length:Int))=true:=decide_eq_true (by omega)
   refine bP hJ (by simp only[*,go_sem]) ?_
   refine aI hJ ?_
   repeat refine af hJ ?_
   refine aQ hJ ?_
   repeat refine af hJ ?_
   obtain ⟨p,rfl⟩:∃p,k=p+1:=⟨k - 1,by omega⟩
   have hw:IntKind.i64.wrap (((p+1:Nat):Int) - 1)=(p:Int):=by rw[IntWalk.i64_in _ ⟨by omega,by omega⟩];omega
   refine e9 hJ mixed 9 ⟨ro,[(b,Obj.cells F 3)]⟩ (by simp only[*,go_sem]) (by kernel_rfl) ?_
   obtain ⟨l,V⟩:∃x,u0[p+1]?=some x:=⟨u0[p+1],by simp[U]⟩
   obtain ⟨I,K,L⟩:=hg.iT V
   obtain rfl:I=[.int .i64 l]:=K
   have W:=L 0 _ rfl
   simp only[go_sem] at W
   have dd:=(Array.getElem?_eq_some_iff.1 W).1
   obtain ⟨o,X⟩:∃x,u0[p]?=some x:=⟨u0[p],by simp[Nat.lt_of_succ_lt U]⟩
   obtain ⟨M,N,O⟩:=hg.iT X
   obtain rfl:M=[.int .i64 o]:=N
   have Y:=O 0 _ rfl
   simp only[go_sem] at Y
   have df:=(Array.getElem?_eq_some_iff.1 Y).1
   have dk:¬((p+1:Nat):Int)<0:=by omega
   have b2:((p+1:Nat):Int)<(u0.length:Int):=by omega
   have b3:¬(p:Int)<0:=by omega
   have b4:(p:Int)<(u0.length:Int):=by omega
   have b5:(0:Int)<=((p+1:Nat):Int):=by omega
   have dp:(0:Int)<=(p:Int):=by omega
   simp only[*,go_sem]
   have bl:u0.getD (p+1) 0=l:=by rw[List.getD_eq_getElem?_getD,V];rfl
   have bm:u0.getD p 0=o:=by rw[List.getD_eq_getElem?_getD,X];rfl
   have Z:jF u0 (p+1)=(l != o):=by unfold jF;rw[bl,Nat.add_sub_cancel,bm];simp
   clear L O
   by_cases P:l=o
   ·subst P
    refine bP hJ (by simp only[*,go_sem,beq_self_eq_true]) ?_
    repeat refine af hJ ?_
    refine aj hJ ?_
    have dq:p+1<=u0.length:=T
    have ds:p+1<=cap:=by omega
    have dt:((p+1:Nat):Int)<=(u0.length:Int):=by omega
    have du:u0.length<=cap:=le
    have dv:¬cap=p+1:=by omega
    simp only[*,go_sem]
    have bo:slot g 4=slot g 4:=rfl
    repeat refine af hJ ?_
    refine aj hJ ?_
    simp only[*,go_sem]
    repeat refine af hJ ?_
    refine aQ hJ ?_
    have e0:gi u0 (p+2)=u0.take (p+1):=by
     show gi u0 (p+1)++cond (jF u0 (p+1)) _ _=_
     rw[Z,sw u0 _ T H];simp
    refine bU hJ [3,5,29,30,31,32,33,34,35,36,37,38,39,40,41,42,43,44,45,46,47,48,49,50,51,52,53] (fun br u F'=>∃(m w:Nat) (arr:Array Value) (x:List Int),1<=m/\m<=u0.length - (p+1)/\u0.length - (p+1) - m<=br/\F'=⟨ro,[(b,Obj.cells arr 3)]⟩/\slot u 5= .int .i64 (m:Int)/\slot u 3= .int .i64 (w:Int)/\
     aO rI ro 3 (.slice (some ⟨b,0,none⟩) u0.length cap) x [(b,.cells arr 3)]/\x.length=u0.length/\(gi u0 (p+(1+m))).length=w/\w<=p+m/\x.take w=gi u0 (p+(1+m))/\∀j,p+m<=j->x[j]?=u0[j]?) u0.length ?_ ?_
    ·refine ⟨1,p+1,F,u0,Nat.le_refl _,by omega,by omega,rfl,?_,?_,hg,rfl,?_,Nat.le_refl _,e0.symm,fun _ _=>rfl⟩
     ·simp only[*,go_sem];rfl
     ·simp only[*,go_sem]
     ·show (gi u0 (p+2)).length=p+1
      rw[e0,List.length_take];omega
    ·rintro ab C F' s ⟨m,w,arr,x,L,O,dC,rfl,dE,dT,d,ae,t,ea,D,E⟩
     have eb:sz C=61:=by rw[s.size];simp only[*,go_sem]
     have ec:C.defers=[]:=by rw[s.defers];simp only[*,go_sem]
     have ed:slot C 0= .slice (some ⟨b,0,none⟩) u0.length cap:=by rw[s.fc 0 (by decide)];simp only[*,go_sem]
     have eh:slot C 4= .slice (some ⟨b,p+1,none⟩) (u0.length - (p+1)) (cap - (p+1)):=by rw[s.fc 4 (by decide)];simp only[*,go_sem]
     clear s bd bj bk bc bo
     repeat refine af hJ ?_
     refine aj hJ ?_
     simp only[*,go_sem]
     by_cases et:m<u0.length - (p+1)
     ·have bs:decide (((m:Nat):Int)<((u0.length - (p+1):Nat):Int))=true:=decide_eq_true (by omega)
      refine bP hJ (by simp only[*,go_sem]) ?_
      refine aI hJ ?_
      repeat refine af hJ ?_
      refine aQ hJ ?_
      repeat refine af hJ ?_
      obtain ⟨q,rfl⟩:∃q,m=q+1:=⟨m - 1,by omega⟩
      have eu:IntKind.i64.wrap (((q+1:Nat):Int) - 1)=(q:Int):=by rw[IntWalk.i64_in _ ⟨by omega,by omega⟩];omega
      refine e9 hJ mixed 9 ⟨ro,[(b,Obj.cells arr 3)]⟩ (by simp only[*,go_sem]) (by kernel_rfl) ?_
      obtain ⟨a,al⟩:∃y,u0[p+(1+(q+1))]?=some y:=⟨u0[p+(1+(q+1))]'(by omega),List.getElem?_eq_getElem _⟩
      obtain ⟨I,K,ao⟩:=d.iT ((E _ (by omega)).trans al)
      obtain rfl:I=[.int .i64 a]:=K
      have ar:=ao 0 _ rfl
      simp only[go_sem] at ar
      have ev:=(Array.getElem?_eq_some_iff.1 ar).1
      obtain ⟨f,a0⟩:∃y,u0[p+(1+q)]?=some y:=⟨u0[p+(1+q)]'(by omega),List.getElem?_eq_getElem _⟩
      obtain ⟨M,N,a2⟩:=d.iT ((E _ (by omega)).trans a0)
      obtain rfl:M=[.int .i64 f]:=N
      have a3:=a2 0 _ rfl
      simp only[go_sem] at a3
      have eQ:=(Array.getElem?_eq_some_iff.1 a3).1
      have c1:¬((q+1:Nat):Int)<0:=by omega
      have c2:((q+1:Nat):Int)<((u0.length - (p+1):Nat):Int):=by omega
      have c3:¬(q:Int)<0:=by omega
      have c4:(q:Int)<((u0.length - (p+1):Nat):Int):=by omega
      have eS:(0:Int)<=((q+1:Nat):Int):=by omega
      have e2:(0:Int)<=(q:Int):=by omega
      simp only[*,go_sem]
      have a4:u0.getD (p+(1+(q+1))) 0=a:=by rw[List.getD_eq_getElem?_getD,al];rfl
      have bz:u0.getD (p+(1+q)) 0=f:=by rw[List.getD_eq_getElem?_getD,a0];rfl
      have bS:jF u0 (p+(1+(q+1)))=(a != f):=by
       unfold jF
       have b0:p+(1+(q+1)) - 1=p+(1+q):=by omega
       rw[b0,a4,bz]
       have:(p+(1+(q+1))==0)=false:=by simp
       rw[this,Bool.false_or]
      have e1:gi u0 (p+(1+(q+1+1)))=gi u0 (p+(1+(q+1)))++cond (a != f) [a] []:=by
       show gi u0 (p+(1+(q+1)))++cond (jF u0 (p+(1+(q+1)))) [u0.getD (p+(1+(q+1))) 0] []=_
       rw[bS,a4]
      have e3:IntKind.i64.wrap (((q+1:Nat):Int)+1)=((q+1+1:Nat):Int):=by rw[IntWalk.i64_in _ ⟨by omega,by omega⟩];omega
      clear ao a2 t
      have t:(gi u0 (p+(1+(q+1)))).length=w:=by rw[<-D,List.length_take];omega
      by_cases a5:a=f
      ·subst a5
       simp only[bne_self_eq_false,cond_false,List.append_nil] at e1
       refine bL hJ (by simp only[*,go_sem,bne_self_eq_false]) ?_
       refine aI hJ ?_
       refine aj hJ ?_
       simp only[*,go_sem]
       refine ⟨ab - 1,by omega,_,Le.refl _,q+1+1,w,arr,x,by omega,by omega,by omega,rfl,?_,?_,d,ae,by rw[e1];exact t,by omega,by rw[e1];exact D,fun j c=>E j (by omega)⟩
       ·simp only[*,go_sem]
       ·simp only[*,go_sem]
      ·have b1:(a != f)=true:=by simpa using a5
       rw[b1] at e1
       simp only[cond_true] at e1
       refine bP hJ (by simp only[*,go_sem]) ?_
       repeat refine af hJ ?_
       refine aj hJ ?_
       have d1:(w:Int)<(u0.length:Int):=by omega
       have d2:¬(w:Int)<0:=by omega
       have d3:(0:Int)<=(w:Int):=by omega
       have fa:w<arr.size:=by omega
       simp only[*,go_sem]
       have ca:aO rI ro 3 (.slice (some ⟨b,0,none⟩) u0.length cap) (x.set w a) [(b,Obj.cells (cI arr w [.int .i64 a]) 3)]:=by
        have cb:=d.rq (i:=w) (y:=a) (by omega) (cs:=[.int .i64 a]) rfl
        simpa only[rC,Nat.mul_one,Nat.add_zero] using cb
       have fb:IntKind.i64.wrap ((w:Int)+1)=((w+1:Nat):Int):=by rw[IntWalk.i64_in _ ⟨by omega,by omega⟩];omega
       refine aj hJ ?_
       simp only[*,go_sem]
       refine aj hJ ?_
       simp only[*,go_sem]
       refine ⟨ab - 1,by omega,_,Le.refl _,q+1+1,w+1,_,x.set w a,by omega,by omega,by omega,rfl,?_,?_,ca,by rw[List.length_set];exact ae,?_,by omega,?_,fun j c=>?_⟩
       ·simp only[*,go_sem]
       ·simp only[*,go_sem]
       ·rw[e1,List.length_append,t];rfl
       ·rw[e1,<-D,List.take_succ,List.take_set_of_le (Nat.le_refl _),List.getElem?_set_self (by omega)];rfl
       ·rw[List.getElem?_set_ne (by omega)];exact E j (by omega)
     ·have bs:decide (((m:Nat):Int)<((u0.length - (p+1):Nat):Int))=false:=decide_eq_false (by omega)
      refine bL hJ (by simp only[*,go_sem]) ?_
      refine bN ?_
      simp only[go_sem]
      have a6:p+(1+m)=u0.length:=by omega
      rw[a6] at t
      have d1:(w:Int)<=(u0.length:Int):=by omega
      have d2:¬(w:Int)<0:=by omega
      have d3:(0:Int)<=(w:Int):=by omega
      have d4:w<=u0.length:=by omega
      have d5:w<=cap:=by omega
      have d6:¬cap=w:=by omega
      have d7:(0:Int)<=(w:Int):=by omega
      have d8:(w:Int)<=(cap:Int):=by omega
      have cd:w+(u0.length - w)<=arr.size:=by
       obtain ⟨ls,cf,fg,-⟩:=id d
       rcases cf with ⟨a7,_,_⟩|⟨fi,fo,fp,a7,cl,hs,hle,_⟩
       ·cases a7
       ·cases cl
        have:rI.n=1:=rfl
        rw[this,Nat.mul_one] at hs
        omega
      repeat refine af hJ ?_
      refine aj hJ ?_
      simp only[*,go_sem,ite_false,if_false]
      refine Fg (pre:=[]) (bf:=[]) (z:=.int .i64 0) (zc:=.int .i64 0) rfl (by kernel_rfl:Tryz.prog.underlying 35=some (.slice 3)) (by kernel_rfl) rfl rfl (by omega) (by simp[au]) cd ?_
      dsimp only[List.nil_append]
      repeat refine af hJ ?_
      refine aj hJ ?_
      simp only[*,go_sem]
      refine az ?_
      simp only[*,go_sem]
      refine ⟨_,?_,Le.refl _⟩
      have:=d.clear (k:=w) (by omega)
      rw[D,a6] at this
      simpa only[ite_self,Nat.sub_zero] using this
   ·have aF:(l==o)=false:=by simpa using P
    refine bL hJ (by simp only[*,go_sem]) ?_
    refine aI hJ ?_
    refine aj hJ ?_
    have fr:IntKind.i64.wrap (((p+1:Nat):Int)+1)=((p+2:Nat):Int):=by rw[IntWalk.i64_in _ ⟨by omega,by omega⟩];omega
    simp only[*,go_sem]
    refine ⟨bb - 1,by omega,_,Le.refl _,p+2,by omega,by omega,by omega,rfl,by simp only[*,go_sem],fun j c=>?_⟩
    rcases Nat.lt_succ_iff_lt_or_eq.1 c with c|rfl
    ·exact H j c
    ·rw[Z];simpa using P
  ·have hb:decide (((k:Nat):Int)<(u0.length:Int))=false:=decide_eq_false (by omega)
   refine bL hJ (by simp only[*,go_sem]) ?_
   refine bN ?_
   simp only[go_sem]
   repeat refine af hJ ?_
   refine aj hJ ?_
   simp only[*,go_sem]
   refine az ?_
   simp only[*,go_sem]
   obtain rfl:k=u0.length:=by omega
   rw[sw u0 _ (Nat.le_refl _) H,List.take_length]
   exact ⟨_,hg,Le.refl _⟩
def wv (n:Int):Option (List Int):=if 0<=n/\n<=1000 then some [] else none
theorem GG {ro:Addr->Option Value}{R:Value->aa->Prop}{n:Nat}(h0:0<n)(h1:n<=1000){own:List (Nat×Obj)}
  (h:∀(k b:Nat) (arr:Array Value),n<=k->arr.size=k->dP ⟨ro,own⟩ b->R (.slice (some ⟨b,0,none⟩) n k) ⟨ro,(b,.cells arr 3)::own⟩):
  lW Tryz.prog #[35,3] (.slice none 0 0) (.int .i64 (n:Int)) R ⟨ro,own⟩:=by
 intro ty
 have c:Tryz.prog.underlying 35=some (.slice 3):=by kernel_rfl
 have d:Tryz.prog.underlying 3=some (.int .i64):=by kernel_rfl
 have e:bW Tryz.prog 3=some 1:=by kernel_rfl
 have f:zeroOf Tryz.prog 3=some (.int .i64 0):=by kernel_rfl
 obtain ⟨info,g,i⟩:∃info,Tryz.prog.info? 3=some info/\info.bytes=8:=⟨_,rfl,by kernel_rfl⟩
 have w1:IntKind.i64.wrap (n:Int)=(n:Int):=IntWalk.i64_in _ ⟨by omega,by omega⟩
 have c1:¬(n:Int)<0:=by omega
 have c2:¬(n:Int)*(8:Nat)>2 ^ 48:=by omega
 have c3:¬0+n<=0:=by omega
 simp only[Builtin.append_,List.getElem?_toArray,List.getElem?_cons_zero,List.getElem?_cons_succ,bq,dn,c,d,eE,e,bG,zd,if_true,dh,w1,if_neg c1,oM,g,i]
 rw[if_neg c2]
 simp only[Int.toNat_natCast,Nat.zero_add,Bool.not_true,Bool.false_eq_true,if_false]
 have c4:¬n<=0:=by omega
 have j:¬((n:Int)>IntKind.i64.max/\(True\/8=0)):=by
  have:IntKind.i64.max=9223372036854775807:=by decide
  rw[this];omega
 have l:¬Builtin.nextslicecap n 0*8>2 ^ 48:=by
  unfold Builtin.nextslicecap
  rw[if_pos (by omega)]
  omega
 have m:¬n*1=0:=by omega
 rw[if_neg c4,if_neg j,if_neg l]
 rw[uo]
 rw[if_neg (by simp[Question.forced])]
 intro t
 have a:n<=(Question.appendCap n 0 3).cut t:=Nat.le_add_right _ _
 generalize (Question.appendCap n 0 3).cut t=k at a ⊢
 refine uG _ ?_
 simp only[Builtin.firstCells,bG,if_neg m,lQ,f,qL,bq]
 intro b hb
 refine ⟨_,Le.refl _,h k b _ a ?_ hb⟩
 simp only[Array.size_append,Builtin.zeroCells,Array.size_map,Array.size_range,Value.cells]
 simp
 omega
theorem GH {ro:Addr->Option Value}(n:Int){x:List Int}(h:wv n=some x):aC Tryz.prog 131 #[.slice none 0 0,.int .i64 n] ⟨ro,[]⟩ (fun v G=>∃c,aO rI ro 3 v x c/\Le ⟨ro,c⟩ G):=by
 unfold wv at h;split at h
 case isFalse=>cases h
 rename_i g;obtain rfl:=Option.some.inj h;obtain ⟨n,rfl⟩:∃m:Nat,n=m:=⟨n.toNat,by omega⟩
 refine aC.go Tryz.func131 rfl Tryz.ntmps131 Tryz.results131 (by simp) fun main J hJ A j hd hs=>?_;have l:=hs 0;have k1:=hs 1;clear hs;repeat refine af hJ ?_
 refine aj hJ ?_;simp only[*,go_sem];repeat refine af hJ ?_
 refine aj hJ ?_;simp only[*,go_sem];repeat refine af hJ ?_
 have o:¬(n:Int)<0:=by omega
 refine bL hJ (by simp only[*,go_sem,decide_false]) ?_;refine aI hJ ?_;repeat refine af hJ ?_
 refine aj hJ ?_;simp only[*,go_sem];refine Am rfl (by kernel_rfl:Tryz.prog.underlying 35=some (.slice 3)) (aJ ?_);have e1:IntKind.i64.wrap (((0:Nat):Int) - ((0:Nat):Int))=0:=by decide
 have p:IntKind.i64.wrap ((0:Int) - (0:Int))=0:=by decide
 have e2:IntKind.i64.wrap ((n:Int) - 0)=(n:Int):=by rw[IntWalk.i64_in _ ⟨by omega,by omega⟩];omega
 simp only[*,go_sem];repeat refine af hJ ?_
 refine aj hJ ?_;simp only[*,go_sem];repeat refine af hJ ?_
 by_cases d:0<n
 ·have b2:(n:Int)>0:=by omega
  refine bP hJ (by simp only[*,go_sem,decide_true]) ?_;repeat refine af hJ ?_
  refine aj hJ ?_;simp only[*,go_sem];refine Am rfl (by kernel_rfl:Tryz.prog.underlying 35=some (.slice 3)) (aJ ?_);simp only[*,go_sem];simp only[Nat.le_refl,Int.le_refl,and_self,if_true,true_and];refine GG d (by omega) fun k b arr q e hb=>aJ ?_;have f:∀off sp,ro ⟨b,off,sp⟩=none:=hb.ro;have b3:(0:Int)<=(k:Int):=by omega
  simp only[*,go_sem,Int.le_refl,and_self,if_true,ite_self,Nat.sub_zero];repeat refine af hJ ?_
  refine aj hJ ?_;simp only[*,go_sem];refine az ?_;simp only[*,go_sem];refine ⟨[(b,.cells arr 3)],⟨[],.inr ⟨b,arr,k,rfl,rfl,?_,Nat.zero_le _,?_,fun x a=>(by cases a),f⟩,rfl,Nat.zero_le _,fun i x a=>by simp at a⟩,Le.refl _⟩
  ·show arr.size=k*1;rw[e,Nat.mul_one]
  ·simp
 ·have b2:¬(0:Int)<(n:Int):=by omega
  refine bL hJ (by simp only[*,go_sem,decide_false]) ?_;refine aI hJ ?_;repeat refine af hJ ?_
  refine aj hJ ?_;simp only[*,go_sem];refine az ?_;simp only[*,go_sem];exact ⟨[],aO.nil _ _ _,Le.refl _⟩
def sA (u0:ak):Option (ak×Int):=
 ag (gz u0 ([]:(List (ak->Option Int)))) fun a=>cond ((a.2 != 0)) (some ((⟨0,0,(⟨0,0⟩:an),([]:(List b7)),([]:(List ck)),([]:(List bY)),([]:(List bO))⟩:ak),a.2)) (ag (vC u0.ay) fun b=>ag (r7 u0.props) fun c=>ag (r6 u0.aE) fun d=>ag (r5 u0.told) fun e=>some ((⟨u0.bE,u0.bI,u0.aN,b,c,d,e⟩:ak),0))
theorem wz {ro:Addr->Option Value}(a6:de ro)(u0:ak){s1 z B C:Value}(E:bJ ro u0 s1 z B C){r:(ak×Int)}(h:sA u0=some r):eD Tryz.prog 72 #[bv u0 s1 z B C] ro (fun v aM=>∃ao w1 w2 w3,v= .tuple #[bv r.1 ao w1 w2 w3,.int .i64 r.2]/\bJ aM r.1 ao w1 w2 w3):=by
 unfold sA at h;have a7:=E.oc;simp only[bH] at a7;refine aC.go Tryz.func72 rfl Tryz.ntmps72 Tryz.results72 (by simp) fun main J hJ A a8 hd hs=>?_;have a9:=hs 0;clear hs;refine ah hJ ?_;simp only[*,go_sem];refine ax fun a F ba=>?_;try simp only[au] at ba
 refine ax fun b G bb=>?_;try simp only[au] at bb
 try simp only[*,go_sem]
 refine af hJ (ah hJ ?_);revert h;refine bS fun c bc h=>?_;simp only[*,go_sem];refine b8 hJ _ (jD a6 u0 E ([]:(List (ak->Option Int))) (aB.nil _ _) bc) fun v U ae al bd=>?_;obtain ⟨d,f,g,i,j,rfl,bj,bl⟩:=bd;have bm:=bj.oc;simp only[bH] at bm;have bo:=bl.oc;simp only[bH] at bo;replace E:=E.mono ae;replace G:=al.hd;replace F:=al.tl.hd;simp only[bu] at al;refine aJ ?_;try simp only[*,go_sem]
 refine ax fun k K br=>?_;try simp only[au] at br
 try simp only[*,go_sem]
 refine ah hJ ?_;simp only[*,go_sem];revert h;refine jC hJ (by simp only[*,go_sem]) (fun bs h=>?_) fun bs h=>?_
 ·obtain rfl:=sI h;refine ah hJ ?_;simp only[*,go_sem];refine az ?_;simp only[*,go_sem];exact ⟨_,ae,Le.sub (List.nil_sublist _),_,_,_,_,rfl,⟨aB.nil _ _,aB.nil _ _,aB.nil _ _,aB.nil _ _⟩⟩
 refine aI hJ (af hJ ?_);refine aA hJ fun cy=>?_;refine eF hJ mixed [13,14,15,16,17,18,19] (.pure 0 (.rd 1 (.pure 3 (.rd 4 (.pure 6 (.rd 7 (.pure 9 (.rd 10 (.one 2 (.pure 12 (.one 5 (.one 8 (.one 11 (.last 13 (.pure 14 (.last 15 (.pure 16 (.last 17 (.pure 18 (.last 19 .done)))))))))))))))))))) ⟨U,[(k,kn c.1 d f g i j),(b,bz 29),(a,bk u0 s1 z B C)]⟩ (by simp only[*,go_sem]) (by kernel_rfl) ?_;revert h;refine bS fun m b0 h=>?_;simp only[*,go_sem];refine dJ hJ (aS:=[]) [(k,kn c.1 d f g i j),(b,bz 29),(a,bk u0 s1 z B C)] [] _ (Gc u0.ay E.e b0) (fun cS L ar M N c0=>?_);simp only[aV] at N;subst M;obtain ⟨d158,n,rfl,da⟩:=ar.len;refine ⟨⟨U,(k,kn c.1 d f g i j)::(b,bz 29)::(a,bk u0 s1 z B C)::L⟩,Le.refl _,?_⟩;refine ⟨by simp only[*,go_sem],bX ?_⟩;revert h;refine bS fun o b1 h=>?_;try simp only[*,go_sem]
 refine dJ hJ (aS:=[]) [(k,kn c.1 d f g i j),(b,bz 29),(a,bk u0 s1 z B C)] L _ (Ay u0.props E.p b1) (fun db O V M N dd=>?_);simp only[aV] at N;subst M;obtain ⟨d168,q,rfl,df⟩:=V.len;refine ⟨⟨U,(k,kn c.1 d f g i j)::(b,bz 29)::(a,bk u0 s1 z B C)::(O++L)⟩,Le.refl _,?_⟩;refine ⟨by simp only[*,go_sem],bX ?_⟩;revert h;refine bS fun s b2 h=>?_;try simp only[*,go_sem]
 refine dJ hJ (aS:=[]) [(k,kn c.1 d f g i j),(b,bz 29),(a,bk u0 s1 z B C)] (O++L) _ (Ax u0.aE E.y b2) (fun dk P H M N dp=>?_);simp only[aV] at N;subst M;obtain ⟨d178,u,rfl,dq⟩:=H.len;refine ⟨⟨U,(k,kn c.1 d f g i j)::(b,bz 29)::(a,bk u0 s1 z B C)::(P++(O++L))⟩,Le.refl _,?_⟩;refine ⟨by simp only[*,go_sem],bX ?_⟩;revert h;refine bS fun w b3 h=>?_;obtain rfl:=sI h;try simp only[*,go_sem]
 refine dJ hJ (aS:=[]) [(k,kn c.1 d f g i j),(b,bz 29),(a,bk u0 s1 z B C)] (P++(O++L)) _ (vB u0.told E.t b3) (fun ds Q D M N dt=>?_);simp only[aV] at N;subst M;obtain ⟨d188,x,rfl,du⟩:=D.len;refine ⟨⟨U,(k,kn c.1 d f g i j)::(b,bz 29)::(a,bk u0 s1 z B C)::(Q++(P++(O++L)))⟩,Le.refl _,?_⟩;refine ⟨by simp only[*,go_sem],bX ?_⟩;try simp only[*,go_sem]
 refine af hJ ?_;refine eV [1,2,3] fun dv b4 b5 ca=>?_;simp only[*,go_sem] at b4 b5 ca;clear a8 hd a9;refine aA hJ fun dC=>?_;refine aj hJ ?_;simp only[*,go_sem];refine aA hJ fun a0=>?_;obtain ⟨dE,X,R,I,cb⟩:=ar.k3 ((k,kn c.1 d f g i j)::(b,bk u0 (sl d158 m n) (sl d168 o q) (sl d178 s u) (sl d188 w x))::(a,bk u0 (sl d158 m n) (sl d168 o q) (sl d178 s u) (sl d188 w x))::(Q++(P++O))) ((k,kn c.1 d f g i j)::(b,bk u0 (sl d158 m n) (sl d168 o q) (sl d178 s u) (sl d188 w x))::(a,bk u0 (sl d158 m n) (sl d168 o q) (sl d178 s u) (sl d188 w x))::(Q++(P++O))) [] (by first|rfl|simp only[aV]|(simp only[aV];rfl)) (by first|rfl|simp only[aV]|(simp only[aV];rfl)) a0 (aD.cons K (aD.cons G (aD.cons F (aD.app D.jw (aD.app H.jw (V.jw))))));clear a0;refine cF hJ cb ?_;obtain ⟨dT,ea,-⟩:=I.op;replace K:=R.hd;replace G:=R.tl.hd;replace F:=R.tl.tl.hd;replace D:=D.mono X R.tl.tl.tl.l;replace H:=H.mono X R.tl.tl.tl.r.l;replace V:=V.mono X R.tl.tl.tl.r.r;simp only[bu] at R;refine aA hJ fun a2=>?_;obtain ⟨eb,Y,S,T,cd⟩:=V.k3 ((k,kn c.1 d f g i j)::(b,bk u0 (sl d158 m n) (sl d168 o q) (sl d178 s u) (sl d188 w x))::(a,bk u0 (sl d158 m n) (sl d168 o q) (sl d178 s u) (sl d188 w x))::(Q++P)) ((k,kn c.1 d f g i j)::(b,bk u0 (sl d158 m n) (sl d168 o q) (sl d178 s u) (sl d188 w x))::(a,bk u0 (sl d158 m n) (sl d168 o q) (sl d178 s u) (sl d188 w x))::(Q++P)) [] (by first|rfl|simp only[aV]|(simp only[aV];rfl)) (by first|rfl|simp only[aV]|(simp only[aV];rfl)) a2 (aD.cons K (aD.cons G (aD.cons F (aD.app D.jw (H.jw)))));clear a2;refine cF hJ cd ?_;obtain ⟨ec,ed,-⟩:=T.op;replace I:=I.mono Y;replace K:=S.hd;replace G:=S.tl.hd;replace F:=S.tl.tl.hd;replace D:=D.mono Y S.tl.tl.tl.l;replace H:=H.mono Y S.tl.tl.tl.r;simp only[bu] at S;refine aA hJ fun a3=>?_;obtain ⟨eh,Z,W,ab,cf⟩:=H.k3 ((k,kn c.1 d f g i j)::(b,bk u0 (sl d158 m n) (sl d168 o q) (sl d178 s u) (sl d188 w x))::(a,bk u0 (sl d158 m n) (sl d168 o q) (sl d178 s u) (sl d188 w x))::Q) ((k,kn c.1 d f g i j)::(b,bk u0 (sl d158 m n) (sl d168 o q) (sl d178 s u) (sl d188 w x))::(a,bk u0 (sl d158 m n) (sl d168 o q) (sl d178 s u) (sl d188 w x))::Q) [] (by first|rfl|simp only[aV]|(simp only[aV];rfl)) (by first|rfl|simp only[aV]|(simp only[aV];rfl)) a3 (aD.cons K (aD.cons G (aD.cons F (D.jw))));clear a3;refine cF hJ cf ?_;obtain ⟨et,eu,-⟩:=ab.op;replace I:=I.mono Z;replace T:=T.mono Z;replace K:=W.hd;replace G:=W.tl.hd;replace F:=W.tl.tl.hd;replace D:=D.mono Z W.tl.tl.tl;simp only[bu] at W;refine aA hJ fun a4=>?_;obtain ⟨ev,ad,cl,a5,cu⟩:=D.k3 ((k,kn c.1 d f g i j)::(b,bk u0 (sl d158 m n) (sl d168 o q) (sl d178 s u) (sl d188 w x))::(a,bk u0 (sl d158 m n) (sl d168 o q) (sl d178 s u) (sl d188 w x))::[]) [(k,kn c.1 d f g i j),(b,bk u0 (sl d158 m n) (sl d168 o q) (sl d178 s u) (sl d188 w x)),(a,bk u0 (sl d158 m n) (sl d168 o q) (sl d178 s u) (sl d188 w x))] [] (by first|rfl|simp only[aV]|(simp only[aV];rfl)) (by first|rfl|simp only[aV]|(simp only[aV];rfl)) a4 (aD.cons K (aD.cons G (aD.cons F (aD.nil _))));clear a4;refine cF hJ cu ?_;obtain ⟨eQ,eS,-⟩:=a5.op;replace I:=I.mono ad;replace T:=T.mono ad;replace ab:=ab.mono ad;simp only[bu] at cl;refine az ?_;simp only[*,go_sem];exact ⟨_,((((ae).trans X).trans Y).trans Z).trans ad,Le.sub (List.nil_sublist _),_,_,_,_,rfl,⟨I,T,ab,a5⟩⟩
def wA (u0:Int)(a:Int):Option Int:=
 ag (nG u0) fun c=>ag (nG a) fun b=>cond (c) (cond (b) (some 0) (some (-1))) (cond (b) (some 1) (cond (decide (u0<a)) (some (-1)) (cond (decide (a<u0)) (some 1) (some 0))))
theorem GI {ro:Addr->Option Value}(u0:Int)(a:Int){r:Int}(h:wA u0 a=some r):aC Tryz.prog 142 #[.int .i64 u0,.int .i64 a] ⟨ro,[]⟩ (fun v _=>v= .int .i64 r):=by
 unfold wA at h;refine aC.go Tryz.func142 rfl Tryz.ntmps142 Tryz.results142 (by simp) fun main J hJ A j hd hs=>?_;have k:=hs 0;have k1:=hs 1;clear hs;refine ah hJ ?_;simp only[*,go_sem];refine ah hJ ?_;revert h;refine bS fun l b h=>?_;simp only[*,go_sem];refine bg hJ _ (sn u0 b) (aJ ?_);try simp only[*,go_sem]
 refine ah hJ ?_;revert h;refine bS fun m c h=>?_;simp only[*,go_sem];refine bg hJ _ (sn a c) (aJ ?_);try simp only[*,go_sem]
 refine af hJ (ah hJ ?_);simp only[*,go_sem];revert h;refine jC hJ (by simp only[*,go_sem]) (fun d h=>?_) fun d h=>?_
 ·refine af hJ (ah hJ ?_);simp only[*,go_sem];revert h;refine jC hJ (by simp only[*,go_sem]) (fun e h=>?_) fun e h=>?_
  ·obtain rfl:=sI h;refine ah hJ ?_;simp only[*,go_sem];refine az ?_;simp only[*,go_sem]
  obtain rfl:=sI h;refine aI hJ (af hJ ?_);refine aj hJ ?_;simp only[*,go_sem];refine az ?_;simp only[*,go_sem]
 refine aI hJ (af hJ ?_);refine ah hJ ?_;simp only[*,go_sem];revert h;refine jC hJ (by simp only[*,go_sem]) (fun f h=>?_) fun f h=>?_
 ·obtain rfl:=sI h;refine ah hJ ?_;simp only[*,go_sem];refine az ?_;simp only[*,go_sem]
 refine aI hJ (af hJ ?_);refine ah hJ ?_;simp only[*,go_sem];revert h;refine jC hJ (by simp only[*,go_sem]) (fun g h=>?_) fun g h=>?_
 ·obtain rfl:=sI h;refine ah hJ ?_;simp only[*,go_sem];refine az ?_;simp only[*,go_sem]
 refine aI hJ (af hJ ?_);refine ah hJ ?_;simp only[*,go_sem];revert h;refine jC hJ (by simp only[*,go_sem]) (fun i h=>?_) fun i h=>?_
 ·obtain rfl:=sI h;refine ah hJ ?_;simp only[*,go_sem];refine az ?_;simp only[*,go_sem]
 obtain rfl:=sI h;refine aI hJ (af hJ ?_);refine aj hJ ?_;simp only[*,go_sem];refine az ?_;simp only[*,go_sem]
def wB (a:(List Int))(i16:Nat)(c:Int)(st:Int):Option (Fl Int Int):=
 cond (decide ((a.length:Int)<=(i16:Int))) (some (.rt 1)) (ag (bp a (i16:Int)) fun d=>ag (wA c d) fun b=>cond ((b != 0)) (some (.rt b)) (some (.nx st)))
def wC (u0:(List Int))(a:(List Int)):Option Int:=
 ag (bF (wB a) 0 u0 0) fun o=>aG o (fun b=>cond (decide ((u0.length:Int)<(a.length:Int))) (some (-1)) (some 0)) (fun _ _=>none) (fun r=>some r)
theorem GJ {ro:Addr->Option Value}(u0:(List Int)){s1:Value}(g:aB rI ro s1 u0)(d:(List Int)){i:Value}(j:aB rI ro i d){r:Int}(h:wC u0 d=some r):aC Tryz.prog 106 #[s1,i] ⟨ro,[]⟩ (fun v _=>v= .int .i64 r):=by
 obtain ⟨d3,c4,rfl,U,w,-⟩:=id g;obtain ⟨d10,V,rfl,W,X,-⟩:=id j;unfold wC at h;refine aC.go Tryz.func106 rfl Tryz.ntmps106 Tryz.results106 (by simp) fun main J hJ A y hd hs=>?_;have z:=hs 0;have k1:=hs 1;clear hs;refine ah hJ ?_;simp only[*,go_sem];refine af hJ (ah hJ ?_);simp only[*,go_sem];refine aQ hJ ?_;revert h;refine bS fun B a e=>?_;refine bU hJ [4,5,6,7,8,11,12,13,14,15,16,17,18,19,20,21,22,23,24,25,26,27,28,29,30] (fun m k F'=>∃(i16:Nat) (c:Int),m=u0.length - i16/\i16<=u0.length/\bF (wB d) i16 (u0.drop i16) c=some B/\F'=⟨ro,[]⟩/\slot k 11= .int .i64 (i16:Int)/\slot k 4= .int .i64 c) u0.length ?_ ?_
 ·refine ⟨0,0,(Nat.sub_zero _).symm,Nat.zero_le _,a,rfl,?_⟩;simp only[*,go_sem]
 rintro Y Z F' l ⟨i16,c,rfl,ab,a,rfl,ad,ae⟩;obtain ⟨C,D,E⟩:=l.pick [0,1,9,10] (by decide);simp only[*,go_sem] at C D E;clear l y hd z k1;refine ah hJ ?_;simp only[*,go_sem];refine af hJ ?_;rcases Nat.lt_or_ge i16 u0.length with F|o
 ·refine bP hJ (by simp only[*,go_sem]) ?_;refine aI hJ ?_;obtain ⟨p,f⟩:∃x,u0[i16]?=some x:=⟨_,List.getElem?_eq_getElem F⟩
  rw[c8 f] at a;revert a;refine bS fun al h b=>?_;unfold wB at h;try dsimp only at h
  obtain ⟨ao,G,H,I,q⟩:=g.el _ _ f;obtain rfl:G=[.int .i64 p]:=I;cases H;have K:=q 0 _ rfl;simp only[go_sem] at K;clear q f;refine af hJ (aQ hJ (af hJ ?_));refine aj hJ ?_;simp only[*,go_sem];refine af hJ (ah hJ ?_);simp only[*,go_sem];revert h;refine jC hJ (by simp only[*,go_sem]) (fun L h=>?_) fun L h=>?_
  ·obtain rfl:=sI h;refine ah hJ ?_;simp only[*,go_sem];obtain rfl:=sI b;clear b;have h:=e;dsimp only[aG] at h;obtain rfl:=sI h;refine az ?_;simp only[*,go_sem]
  refine aI hJ (af hJ ?_);refine aj hJ ?_;revert h;refine bS fun s M h=>?_;obtain ⟨ar,a0,t⟩:=c5 M;obtain ⟨a2,N,O,P,u⟩:=j.el _ _ t;obtain rfl:N=[.int .i64 s]:=P;cases O;have Q:=u 0 _ rfl;simp only[go_sem] at Q;clear u t;try simp only[*,go_sem]
  refine ah hJ ?_;revert h;refine bS fun a3 R h=>?_;simp only[*,go_sem];refine bg hJ _ (GI p s R) (aJ ?_);try simp only[*,go_sem]
  refine ah hJ ?_;simp only[*,go_sem];revert h;refine jC hJ (by simp only[*,go_sem]) (fun S h=>?_) fun S h=>?_
  ·obtain rfl:=sI h;refine ah hJ ?_;simp only[*,go_sem];obtain rfl:=sI b;clear b;have h:=e;dsimp only[aG] at h;obtain rfl:=sI h;refine az ?_;simp only[*,go_sem]
  obtain rfl:=sI h;refine aI hJ ?_;have a4:=cn (n:=i16) (by have:=w;omega);refine aj hJ ?_;simp only[*,go_sem];refine ⟨u0.length - (i16+1),by omega,_,Le.sub (List.Sublist.refl _),i16+1,c,rfl,by omega,b,rfl,?_⟩;simp only[*,go_sem]
 have a5:=Nat.not_lt.2 o;refine bL hJ (by simp only[*,go_sem]) ?_;rw[List.drop_eq_nil_of_le o] at a;obtain rfl:=sI a;clear a;have h:=e;dsimp only[aG] at h;refine bN ?_;simp only[go_sem];refine af hJ (ah hJ ?_);simp only[*,go_sem];revert h;refine jC hJ (by simp only[*,go_sem]) (fun T h=>?_) fun T h=>?_
 ·obtain rfl:=sI h;refine ah hJ ?_;simp only[*,go_sem];refine az ?_;simp only[*,go_sem]
 obtain rfl:=sI h;refine aI hJ (af hJ ?_);refine aj hJ ?_;simp only[*,go_sem];refine az ?_;simp only[*,go_sem]
def sB (u0:(List Int))(a:(List Int)):Option Bool:=
 cond (decide ((a.length:Int)<(u0.length:Int))) (some true) (cond (((a.length:Int)==(u0.length:Int))) (ag (wC a u0) fun b=>some (decide (b<0))) (some false))
theorem GK {ro:Addr->Option Value}(u0:(List Int)){s1:Value}(d:aB rI ro s1 u0)(a:(List Int)){e:Value}(f:aB rI ro e a){r:Bool}(h:sB u0 a=some r):aC Tryz.prog 105 #[s1,e] ⟨ro,[]⟩ (fun v _=>v= .bool r):=by
 obtain ⟨d3,c4,rfl,i,j,-⟩:=id d;obtain ⟨d10,k,rfl,l,m,-⟩:=id f;unfold sB at h;refine aC.go Tryz.func105 rfl Tryz.ntmps105 Tryz.results105 (by simp) fun main J hJ A n hd hs=>?_;have o:=hs 0;have k1:=hs 1;clear hs;refine ah hJ ?_;simp only[*,go_sem];refine ah hJ ?_;revert h;refine cS (fun b h=>?_) fun b h=>?_
 ·obtain rfl:=sI h;try simp only[Int.ofNat_lt] at b
  try simp only[*,go_sem]
  refine az ?_;simp only[*,go_sem]
 try simp only[Int.ofNat_lt] at b
 revert h;refine cS (fun c h=>?_) fun c h=>?_
 ·try simp only[Int.ofNat_lt] at c
  revert h;refine bS fun p g h=>?_;obtain rfl:=sI h;try simp only[*,go_sem]
  refine bg hJ _ (GJ a (f.mono aR) u0 (d.mono aR) g) (aJ ?_);try simp only[*,go_sem]
  refine az ?_;simp only[*,go_sem]
 obtain rfl:=sI h;try simp only[Int.ofNat_lt] at c
 try simp only[*,go_sem]
 refine az ?_;simp only[*,go_sem]
def sC (u0:ak)(b:Int):Option (Int×Int):=
 ag (gz u0 ([(eG b)])) fun a=>cond ((a.2 != 0)) (some (0,a.2)) (ag (nC a.1 (fun c=>rY c a.1 b)) fun d=>some (d,0))
theorem AJ {ro:Addr->Option Value}(j:de ro)(u0:ak){s1 k l m:Value}(i:bJ ro u0 s1 k l m)(c:Int){r:(Int×Int)}(h:sC u0 c=some r):aC Tryz.prog 24 #[bv u0 s1 k l m,.int .i64 c] ⟨ro,[]⟩ (fun v _=>v= .tuple #[.int .i64 r.1,.int .i64 r.2]):=by
 unfold sC at h;have G:=i.oc;simp only[bH] at G;refine aC.go Tryz.func24 rfl Tryz.ntmps24 Tryz.results24 (by simp) fun main J hJ A ae hd hs=>?_;have al:=hs 0;have k1:=hs 1;clear hs;refine ah hJ ?_;simp only[*,go_sem];refine ax fun H I K=>?_;try simp only[au] at K
 refine ax fun u L M=>?_;try simp only[au] at M
 try simp only[*,go_sem]
 refine af hJ ?_;refine aA hJ fun N=>?_;refine aj hJ ?_;revert h;refine bS fun n O h=>?_;simp only[*,go_sem];refine ax fun f w z=>?_;have B:=aP.cons z N;try simp only[au] at z
 try simp only[*,go_sem]
 obtain ⟨q,C,D⟩:=fP (b:=f) (o:=(.cells #[.func (.func 68) #[.int .i64 c] #[]] 127)) [] ((u,ic c)::(H,bk u0 s1 k l m)::[]) B w (aD.cons L (aD.cons I (aD.nil _)));have E:aB (cY) (bR ro f (.cells #[.func (.func 68) #[.int .i64 c] #[]] 127)) (.slice (some ⟨f,0,none⟩) 1 1) [(eG c)]:=(aB.one (r:=(cY)) (e:=127) (cs:=#[.func (.func 68) #[.int .i64 c] #[]]) (x:=(eG c)) (own:=[(f,.cells #[.func (.func 68) #[.int .i64 c] #[]] 127)]) w (by simp[lk]) ⟨68,#[.int .i64 c],#[],rfl,⟨by simp only[go_sem],fun P a g _ _ _ _ _ Q R S T h=>by simp only[go_sem];exact rG c g ⟨Q,R,S,T⟩ h⟩⟩)
 generalize bR ro f (.cells #[.func (.func 68) #[.int .i64 c] #[]] 127)=ao at E C q D;refine gO hJ D ?_;replace i:=i.mono q;replace j:=j.mono q;simp only[bu] at C;have U:=aP.tl B;refine b8 hJ _ (jD j u0 i ([(eG c)]) E O) fun v ar a0 V W=>?_;obtain ⟨a2,a3,a4,a5,a6,rfl,d,s⟩:=W;have X:=d.oc;simp only[bH] at X;simp only[bu] at V;obtain ⟨d41,a7,rfl,a8,a9,-⟩:=id d.e;obtain ⟨d48,ba,rfl,bb,bc,-⟩:=id d.p;obtain ⟨d55,bd,rfl,bj,bl,-⟩:=id d.y;obtain ⟨d62,bm,rfl,bo,br,-⟩:=id d.t;obtain ⟨d69,bs,rfl,bz,b0,-⟩:=id s;refine aJ ?_;try simp only[*,go_sem]
 refine ax fun Y b1 F=>?_;have b2:=aP.cons F U;try simp only[au] at F
 try simp only[*,go_sem]
 refine af hJ (ah hJ ?_);simp only[*,go_sem];revert h;refine jC hJ (by simp only[*,go_sem]) (fun Z h=>?_) fun Z h=>?_
 ·obtain rfl:=sI h;refine ah hJ ?_;simp only[*,go_sem];refine az ?_;simp only[*,go_sem]
 refine aI hJ (af hJ ?_);refine aj hJ ?_;revert h;refine bS fun b3 ab h=>?_;obtain rfl:=sI h;simp only[*,go_sem];refine bg hJ _ (Aw (dw:=80) (dU:=#[]) (dV:=#[.pointer (some ⟨Y,0,none⟩),.pointer (some ⟨u,0,none⟩)]) n.1 (d.mono aR) (s.mono aR) (fun g=>rY g n.1 c) ⟨by simp only[go_sem],fun P a g b4 ad=>by simp only[go_sem];exact F7 g n.1 (a _ _ (by simp only[aa.cq,go_sem, *])) (a _ _ (by simp only[aa.cq,go_sem, *])) (a _ _ (by simp only[aa.cq,go_sem, *])) (a _ _ (by simp only[aa.cq,go_sem, *])) ((d.e.mono aR).mono a) (a _ _ (by simp only[aa.cq,go_sem, *])) ((d.p.mono aR).mono a) (a _ _ (by simp only[aa.cq,go_sem, *])) ((d.y.mono aR).mono a) (a _ _ (by simp only[aa.cq,go_sem, *])) ((d.t.mono aR).mono a) (a _ _ (by simp only[aa.cq,go_sem, *])) ((s.mono aR).mono a) (a _ _ (by simp only[aa.cq,go_sem, *])) c (a _ _ (by simp only[aa.cq,go_sem, *])) ad⟩ ab) (aJ ?_);try simp only[*,go_sem]
 refine az ?_;simp only[*,go_sem]
def iu (u0:ak):Option (Int×Int):=
 ag (gz u0 ([]:(List (ak->Option Int)))) fun a=>cond ((a.2 != 0)) (some (0,a.2)) (ag (nC a.1 (fun b=>jB b a.1)) fun c=>some (c,0))
theorem pZ {ro:Addr->Option Value}(l:de ro)(u0:ak){s1 g i j:Value}(k:bJ ro u0 s1 g i j){r:(Int×Int)}(h:iu u0=some r):aC Tryz.prog 27 #[bv u0 s1 g i j] ⟨ro,[]⟩ (fun v _=>v= .tuple #[.int .i64 r.1,.int .i64 r.2]):=by
 unfold iu at h;have m:=k.oc;simp only[bH] at m;refine aC.go Tryz.func27 rfl Tryz.ntmps27 Tryz.results27 (by simp) fun main J hJ A D hd hs=>?_;have E:=hs 0;clear hs;refine ah hJ ?_;simp only[*,go_sem];refine ax fun F G n=>?_;try simp only[au] at n
 try simp only[*,go_sem]
 refine ah hJ ?_;revert h;refine bS fun c o h=>?_;simp only[*,go_sem];refine b8 hJ _ (jD l u0 k ([]:(List (ak->Option Int))) (aB.nil _ _) o) fun v H I q s=>?_;obtain ⟨K,L,M,N,O,rfl,b,d⟩:=s;have u:=b.oc;simp only[bH] at u;simp only[bu] at q;obtain ⟨d37,P,rfl,Q,R,-⟩:=id b.e;obtain ⟨d44,S,rfl,T,U,-⟩:=id b.p;obtain ⟨d51,V,rfl,W,X,-⟩:=id b.y;obtain ⟨d58,Y,rfl,Z,ab,-⟩:=id b.t;obtain ⟨d65,ad,rfl,ae,al,-⟩:=id d;refine aJ ?_;try simp only[*,go_sem]
 refine ax fun w ao x=>?_;try simp only[au] at x
 try simp only[*,go_sem]
 refine af hJ (ah hJ ?_);simp only[*,go_sem];revert h;refine jC hJ (by simp only[*,go_sem]) (fun z h=>?_) fun z h=>?_
 ·obtain rfl:=sI h;refine ah hJ ?_;simp only[*,go_sem];refine az ?_;simp only[*,go_sem]
 refine aI hJ (af hJ ?_);refine aj hJ ?_;revert h;refine bS fun ar B h=>?_;obtain rfl:=sI h;simp only[*,go_sem];refine bg hJ _ (Aw (dw:=84) (dU:=#[]) (dV:=#[.pointer (some ⟨w,0,none⟩)]) c.1 (b.mono aR) (d.mono aR) (fun f=>jB f c.1) ⟨by simp only[go_sem],fun a0 a f a2 C=>by simp only[go_sem];exact F8 f c.1 (a _ _ (by simp only[aa.cq,go_sem, *])) (a _ _ (by simp only[aa.cq,go_sem, *])) (a _ _ (by simp only[aa.cq,go_sem, *])) (a _ _ (by simp only[aa.cq,go_sem, *])) ((b.e.mono aR).mono a) (a _ _ (by simp only[aa.cq,go_sem, *])) ((b.p.mono aR).mono a) (a _ _ (by simp only[aa.cq,go_sem, *])) ((b.y.mono aR).mono a) (a _ _ (by simp only[aa.cq,go_sem, *])) ((b.t.mono aR).mono a) (a _ _ (by simp only[aa.cq,go_sem, *])) ((d.mono aR).mono a) (a _ _ (by simp only[aa.cq,go_sem, *])) C⟩ B) (aJ ?_);try simp only[*,go_sem]
 refine az ?_;simp only[*,go_sem]
def wD (a:(cL×Int))(i74:Nat)(i83:Nat)(b:aX)(st:Int):Option (Fl Int (Int×Int×Int)):=
 ag (aX.get b (i74:Int)) fun c=>ag (ij a.1.book (i74:Int) c) fun d=>ag (gf a.1.book d) fun e=>cond (e) (some (.nx (IntKind.i64.wrap (st+1)))) (some (.nx st))
def wE (b:(cL×Int))(i74:Nat)(c:bY)(st:(Int×Int)):Option (Fl (Int×Int) (Int×Int×Int)):=
 ag (bF (wD b i74) 0 b.1.all 0) fun o=>aG o (fun a=>cond (decide ((if a<IntKind.i64.wrap ((b.1.all.length:Int) - a) then IntKind.i64.wrap ((b.1.all.length:Int) - a) else a)<st.2)) (some (.nx ((i74:Int),(if a<IntKind.i64.wrap ((b.1.all.length:Int) - a) then IntKind.i64.wrap ((b.1.all.length:Int) - a) else a)))) (some (.nx (st.1,st.2)))) (fun _ _=>none) (fun r=>some (.rt r))
def wF (u0:ak):Option (Int×Int×Int):=
 ag (gz u0 ([]:(List (ak->Option Int)))) fun a=>cond ((a.2 != 0)) (some (0,0,a.2)) (ag (bF (wE a) 0 a.1.book.aE ((-1),(a.1.all.length:Int))) fun o=>aG o (fun b=>some (b.1,b.2,0)) (fun _ _=>none) (fun r=>some r))
theorem GL {ro:Addr->Option Value}(V:de ro)(u0:ak){s1 g i j:Value}(w:bJ ro u0 s1 g i j){r:(Int×Int×Int)}(h:wF u0=some r):aC Tryz.prog 64 #[bv u0 s1 g i j] ⟨ro,[]⟩ (fun v _=>v= .tuple #[.int .i64 r.1,.int .i64 r.2.1,.int .i64 r.2.2]):=by
 unfold wF at h;have W:=w.oc;simp only[bH] at W;refine aC.go Tryz.func64 rfl Tryz.ntmps64 Tryz.results64 (by simp) fun main J hJ A X hd hs=>?_;have Y:=hs 0;clear hs;refine ah hJ ?_;simp only[*,go_sem];refine ax fun z dp Z=>?_;try simp only[au] at Z
 try simp only[*,go_sem]
 refine ah hJ ?_;revert h;refine bS fun a ab h=>?_;simp only[*,go_sem];refine b8 hJ _ (jD V u0 w ([]:(List (ak->Option Int))) (aB.nil _ _) ab) fun v B dq ad ae=>?_;obtain ⟨C,D,ds,E,dt,rfl,f,G⟩:=ae;have al:=f.oc;simp only[bH] at al;simp only[bu] at ad;obtain ⟨d51,H,rfl,du,I,-⟩:=id f.y;obtain ⟨d65,K,rfl,dv,L,-⟩:=id G;refine aJ ?_;try simp only[*,go_sem]
 refine ax fun M dC ao=>?_;try simp only[au] at ao
 try simp only[*,go_sem]
 refine af hJ (ah hJ ?_);simp only[*,go_sem];revert h;refine jC hJ (by simp only[*,go_sem]) (fun ar h=>?_) fun ar h=>?_
 ·obtain rfl:=sI h;refine ah hJ ?_;simp only[*,go_sem];refine az ?_;simp only[*,go_sem]
 refine aI hJ (af hJ ?_);refine cR hJ mixed 5 2 (by simp only[*,go_sem]) (by kernel_rfl) ?_;simp only[*,go_sem];refine af hJ (ah hJ ?_);simp only[*,go_sem];refine aQ hJ ?_;revert h;refine bS fun a0 c a2=>?_;refine bU hJ [2,3,6,7,9,10,27,28,29,30,31,32,33,34,35,36,37,38,39,40,41,42,43,44,45,46,47,48,49,50,51,52,53,54,55,56,57,58,59,60,61,62] (fun m e F'=>∃(i74:Nat) (k:Int) (l:Int),m=a.1.book.aE.length - i74/\i74<=a.1.book.aE.length/\bF (wE a) i74 (a.1.book.aE.drop i74) (k,l)=some a0/\F'=⟨B,(M,kn a.1 C D (sl d51 a.1.book.aE H) E (sl d65 a.1.all K))::(z,bk u0 s1 g i j)::[]⟩/\slot e 27= .int .i64 (i74:Int)/\slot e 2= .int .i64 k/\slot e 3= .int .i64 l) a.1.book.aE.length ?_ ?_
 ·refine ⟨0,(-1),(a.1.all.length:Int),(Nat.sub_zero _).symm,Nat.zero_le _,c,rfl,?_⟩;simp only[*,go_sem]
 rintro dE a3 F' N ⟨i74,k,l,rfl,dT,c,rfl,a4,a5,a6⟩;obtain ⟨O,P,Q⟩:=N.pick [4,5,26] (by decide);simp only[*,go_sem] at O P Q;clear N X hd Y;refine ah hJ ?_;simp only[*,go_sem];refine af hJ ?_;rcases Nat.lt_or_ge i74 a.1.book.aE.length with a7|R
 ·refine bP hJ (by simp only[*,go_sem]) ?_;refine aI hJ ?_;obtain ⟨a8,q⟩:∃x,a.1.book.aE[i74]?=some x:=⟨_,List.getElem?_eq_getElem a7⟩
  rw[c8 q] at c;revert c;refine bS fun ea h S=>?_;unfold wE at h;try dsimp only at h
  obtain ⟨a9,ba,bb,bc,o⟩:=f.y.el _ _ q;obtain rfl:ba=a8.cells:=bc;cases bb;have bd:=o 0 _ rfl;simp only[go_sem] at bd;have bj:=o 1 _ rfl;simp only[go_sem] at bj;have bl:=o 2 _ rfl;simp only[go_sem] at bl;clear o q;refine af hJ (aQ hJ (af hJ ?_));refine aj hJ ?_;simp only[*,go_sem];refine ah hJ ?_;simp only[*,go_sem];refine af hJ (ah hJ ?_);simp only[*,go_sem];refine aQ hJ ?_;revert h;refine bS fun bm d bo=>?_;refine bU hJ [7,9,33,34,35,36,37,38,39,40,41,42,43,44,45,46,47,48,49] (fun m e F'=>∃(i83:Nat) (b:Int),m=a.1.all.length - i83/\i83<=a.1.all.length/\bF (wD a i74) i83 (a.1.all.drop i83) b=some bm/\F'=⟨B,(M,kn a.1 C D (sl (some a9) a.1.book.aE H) E (sl d65 a.1.all K))::(z,bk u0 s1 g i j)::[]⟩/\slot e 33= .int .i64 (i83:Int)/\slot e 7= .int .i64 b) a.1.all.length ?_ ?_
  ·refine ⟨0,0,(Nat.sub_zero _).symm,Nat.zero_le _,d,rfl,?_⟩;simp only[*,go_sem]
  rintro eb br F' s ⟨i83,b,rfl,ec,d,rfl,ed,eh⟩;obtain ⟨bs,bz,b0⟩:=s.pick [2,3,4,5,6,26,27,28,29,30,31,32] (by decide);simp only[*,go_sem] at bs bz b0;have et:cG [2,3,6,7,9,10,27,28,29,30,31,32,33,34,35,36,37,38,39,40,41,42,43,44,45,46,47,48,49,50,51,52,53,54,55,56,57,58,59,60,61,62] br a3:=(s.fX (by decide)).trans (by simp only[*,go_sem]);clear s O P Q a5 a6 a4;refine ah hJ ?_;simp only[*,go_sem];refine af hJ ?_;rcases Nat.lt_or_ge i83 a.1.all.length with b1|T
  ·refine bP hJ (by simp only[*,go_sem]) ?_;refine aI hJ ?_;obtain ⟨b2,t⟩:∃x,a.1.all[i83]?=some x:=⟨_,List.getElem?_eq_getElem b1⟩
   rw[c8 t] at d;revert d;refine bS fun eu h U=>?_;unfold wD at h;(try dsimp only at h);obtain ⟨ev,b3,b4,b5,p⟩:=G.el _ _ t;obtain rfl:b3=b2.cells:=b5;cases b4;have ca:=p 0 _ rfl;simp only[go_sem] at ca;have cb:=p 1 _ rfl;simp only[go_sem] at cb;have cd:=p 2 _ rfl;simp only[go_sem] at cd;clear p t;refine af hJ (aQ hJ (af hJ ?_));refine aj hJ ?_;simp only[*,go_sem];refine ax fun eQ eS cf=>?_;try simp only[au] at cf
   (try simp only[*,go_sem]);refine af hJ ?_;refine cR hJ mixed 10 3 (by simp only[*,go_sem]) (by kernel_rfl) ?_;revert h;refine bS fun cl cu h=>?_;obtain ⟨e0,e1,cy⟩:=aX.get_some cu;(try simp only[go_sem] at cy);revert h;refine bS fun cS c0 h=>?_;(try simp only[*,go_sem]);refine ⟨_,bD hJ fun F u=>me a.1.book (f.mono (cg u)) (i74:Int) cl c0,bZ ?_⟩;revert h;refine bS fun e2 da h=>?_;(try simp only[*,go_sem]);refine ⟨_,bD hJ fun F u=>mw a.1.book (f.mono (cg u)) cS da,?_⟩;(try simp only[*,go_sem]);revert h;refine jC hJ (by simp only[*,go_sem]) (fun db h=>?_) fun db h=>?_
   ·obtain rfl:=sI h;refine aj hJ ?_;simp only[*,go_sem];have dd:=cn (n:=i83) (by have:=L;omega);refine aj hJ ?_;simp only[*,go_sem];refine ⟨a.1.all.length - (i83+1),by omega,_,Le.sub (List.Sublist.cons _ (List.Sublist.refl _)),i83+1,(IntKind.i64.wrap (b+1)),rfl,by omega,U,rfl,?_⟩;simp only[*,go_sem]
   obtain rfl:=sI h;refine aI hJ ?_;have dd:=cn (n:=i83) (by have:=L;omega);refine aj hJ ?_;simp only[*,go_sem];refine ⟨a.1.all.length - (i83+1),by omega,_,Le.sub (List.Sublist.cons _ (List.Sublist.refl _)),i83+1,b,rfl,by omega,U,rfl,?_⟩;simp only[*,go_sem]
  have e3:=Nat.not_lt.2 T;refine bL hJ (by simp only[*,go_sem]) ?_;rw[List.drop_eq_nil_of_le T] at d;obtain rfl:=sI d;clear d;have h:=bo;dsimp only[aG] at h;refine bN ?_;simp only[go_sem];refine ah hJ ?_;simp only[*,go_sem];refine ah hJ ?_;simp only[*,go_sem];revert h;refine jC hJ (by simp only[*,go_sem]) (fun df h=>?_) fun df h=>?_
  ·obtain rfl:=sI h;refine aj hJ ?_;simp only[*,go_sem];have dk:=cn (n:=i74) (by have:=I;omega);refine aj hJ ?_;simp only[*,go_sem];refine ⟨a.1.book.aE.length - (i74+1),by omega,_,Le.sub (List.Sublist.refl _),i74+1,(i74:Int),(if b<IntKind.i64.wrap ((a.1.all.length:Int) - b) then IntKind.i64.wrap ((a.1.all.length:Int) - b) else b),rfl,by omega,S,rfl,?_⟩;simp only[*,go_sem]
  obtain rfl:=sI h;refine aI hJ ?_;have dk:=cn (n:=i74) (by have:=I;omega);refine aj hJ ?_;simp only[*,go_sem];refine ⟨a.1.book.aE.length - (i74+1),by omega,_,Le.sub (List.Sublist.refl _),i74+1,k,l,rfl,by omega,S,rfl,?_⟩;simp only[*,go_sem]
 have fa:=Nat.not_lt.2 R;refine bL hJ (by simp only[*,go_sem]) ?_;rw[List.drop_eq_nil_of_le R] at c;obtain rfl:=sI c;clear c;have h:=a2;dsimp only[aG] at h;obtain rfl:=sI h;refine bN ?_;simp only[go_sem];refine ah hJ ?_;simp only[*,go_sem];refine az ?_;simp only[*,go_sem]
def nJ (u0:ak):Option Int:=
 cond (((u0.props.length:Int)==3)) (some 2) (some 0)
theorem GM {ro:Addr->Option Value}(u0:ak){s1 b c d:Value}(a:bJ ro u0 s1 b c d){r:Int}(h:nJ u0=some r):aC Tryz.prog 97 #[bv u0 s1 b c d] ⟨ro,[]⟩ (fun v _=>v= .int .i64 r):=by
 obtain ⟨d3,c4,rfl,i,j,-⟩:=id a.e;obtain ⟨d10,k,rfl,l,m,-⟩:=id a.p;obtain ⟨d17,n,rfl,o,q,-⟩:=id a.y;obtain ⟨d24,s,rfl,u,w,-⟩:=id a.t;unfold nJ at h;refine aC.go Tryz.func97 rfl Tryz.ntmps97 Tryz.results97 (by simp) fun main J hJ A x hd hs=>?_;have z:=hs 0;clear hs;refine ah hJ ?_;simp only[*,go_sem];refine ax fun B C f=>?_;try simp only[au] at f
 try simp only[*,go_sem]
 refine af hJ (ah hJ ?_);simp only[*,go_sem];revert h;refine jC hJ (by simp only[*,go_sem]) (fun g h=>?_) fun g h=>?_
 ·obtain rfl:=sI h;refine ah hJ ?_;simp only[*,go_sem];refine az ?_;simp only[*,go_sem]
 obtain rfl:=sI h;refine aI hJ (af hJ ?_);refine aj hJ ?_;simp only[*,go_sem];refine az ?_;simp only[*,go_sem]
def sD (u0:ak)(c:bO):Option (ak×Int):=
 ag (eX u0) fun a=>cond ((a != 0)) (some ((⟨0,0,(⟨0,0⟩:an),([]:(List b7)),([]:(List ck)),([]:(List bY)),([]:(List bO))⟩:ak),a)) (ag (r5 u0.told) fun d=>ag (c6 d ([c])) fun e=>ag (sA (⟨u0.bE,u0.bI,u0.aN,u0.ay,u0.props,u0.aE,e⟩:ak)) fun b=>some (b.1,b.2))
theorem sE {ro:Addr->Option Value}(k:de ro)(u0:ak){s1 c d f:Value}(b:bJ ro u0 s1 c d f)(a:bO){r:(ak×Int)}(h:sD u0 a=some r):eD Tryz.prog 37 #[bv u0 s1 c d f,.agg #[.int .i64 a.aW,.bool a.bw]] ro (fun v aM=>∃L w1 w2 w3,v= .tuple #[bv r.1 L w1 w2 w3,.int .i64 r.2]/\bJ aM r.1 L w1 w2 w3):=by
 unfold sD at h;refine aC.go Tryz.func37 rfl Tryz.ntmps37 Tryz.results37 (by simp) fun main J hJ A ca hd hs=>?_;have cb:=hs 0;have k1:=hs 1;clear hs;refine ah hJ ?_;simp only[*,go_sem];refine ax fun g u ab=>?_;try simp only[au] at ab
 refine ax fun i w ad=>?_;try simp only[au] at ad
 refine ax fun j z ae=>?_;try simp only[au] at ae
 try simp only[*,go_sem]
 refine af hJ (ah hJ ?_);revert h;refine bS fun cd al h=>?_;simp only[*,go_sem];refine bg hJ _ (As (k.mono aR) u0 (b.e.mono aR) (b.p.mono aR) (b.y.mono aR) (b.t.mono aR) al) (aJ ?_);try simp only[*,go_sem]
 refine ah hJ ?_;simp only[*,go_sem];revert h;refine jC hJ (by simp only[*,go_sem]) (fun ao h=>?_) fun ao h=>?_
 ·obtain rfl:=sI h;refine ah hJ ?_;simp only[*,go_sem];refine az ?_;simp only[*,go_sem];exact ⟨_,Ext.refl _,Le.sub (List.nil_sublist _),_,_,_,_,rfl,⟨aB.nil _ _,aB.nil _ _,aB.nil _ _,aB.nil _ _⟩⟩
 refine aI hJ (af hJ ?_);refine aA hJ fun ar=>?_;refine eF hJ mixed [7] (.pure 0 (.rd 1 (.rd 3 (.two 2 (.one 4 (.one 5 (.pure 6 (.last 7 .done)))) 4 (.one 2 (.one 5 (.pure 6 (.last 7 .done)))))))) ⟨ro,[(j,bz 29),(i,.cells #[.int .i64 a.aW,.bool a.bw] 76),(g,bk u0 s1 c d f)]⟩ (by simp only[*,go_sem]) (by kernel_rfl) ?_;simp only[*,go_sem];refine j4 ?_ ?_
 ·revert h;refine bS fun a0 a2 h=>?_;simp only[*,go_sem];refine dJ hJ (aS:=[]) [(j,bz 29),(i,.cells #[.int .i64 a.aW,.bool a.bw] 76),(g,bk u0 s1 c d f)] [] _ (vB u0.told b.t a2) (fun cf a3 M m n a4=>?_);simp only[aV] at n;subst m;obtain ⟨d174,cl,rfl,cu⟩:=M.len;refine ⟨⟨ro,(j,bz 29)::(i,.cells #[.int .i64 a.aW,.bool a.bw] 76)::(g,bk u0 s1 c d f)::a3⟩,Le.refl _,?_⟩;refine ⟨by simp only[*,go_sem],bX ?_⟩;revert h;refine bS fun N a5 h=>?_;obtain ⟨a6,O⟩:=dr a5;try simp only[*,go_sem]
  refine ax fun D P Q=>?_;have a7:=aP.cons Q a4;try simp only[au] at Q
  try simp only[*,go_sem]
  refine dY (r:=dc) (l:=a0) (x:=a) (cs:=#[.int .i64 a.aW,.bool a.bw]) (e2:=76) [(D,.cells #[.int .i64 a.aW,.bool a.bw] 76),(j,bz 29),(i,.cells #[.int .i64 a.aW,.bool a.bw] 76),(g,bk u0 s1 c d f)] [] M a7 a6 rfl (by simp only[*,go_sem]) P rfl rfl ek ek hU ie rfl ia (by decide) (by decide) (fun cy a8 E m n cS=>?_);simp only[aV] at n;subst m;rw[<-O] at E;clear O;obtain ⟨d186,a9,rfl,c0⟩:=E.len;refine ⟨⟨ro,(D,.cells #[.int .i64 a.aW,.bool a.bw] 76)::(j,bz 29)::(i,.cells #[.int .i64 a.aW,.bool a.bw] 76)::(g,bk u0 s1 c d f)::a8⟩,Le.refl _,?_⟩;refine ⟨by simp only[*,go_sem],bX ?_⟩;try simp only[*,go_sem]
  refine af hJ ?_;refine aA hJ fun R=>?_;obtain ⟨da,F,B,S,ba⟩:=E.eU [(D,.cells #[.int .i64 a.aW,.bool a.bw] 76),(j,bz 29),(i,.cells #[.int .i64 a.aW,.bool a.bw] 76),(g,bk u0 s1 c d (sl d186 N a9))] [] R (aD.cons P (aD.cons z (aD.cons w (aD.cons u (aD.nil _)))));clear R;refine cF hJ ba ?_;obtain ⟨db,dd,-⟩:=S.op;replace b:=b.mono F;replace z:=B.tl.hd;replace w:=B.tl.tl.hd;replace u:=B.tl.tl.tl.hd;replace k:=k.mono F;simp only[bu] at B;refine aj hJ ?_;revert h;refine bS fun df bb h=>?_;obtain rfl:=sI h;simp only[*,go_sem];refine b8 hJ _ (wz k (⟨u0.bE,u0.bI,u0.aN,u0.ay,u0.props,u0.aE,N⟩:ak) ⟨b.e,b.p,b.y,S⟩ bb) fun v dk G C H=>?_;obtain ⟨dp,dq,ds,dt,rfl,o⟩:=H;replace b:=b.mono G;replace z:=C.tl.hd;replace w:=C.tl.tl.hd;replace u:=C.tl.tl.tl.hd;replace k:=k.mono G;simp only[bu] at C;obtain ⟨d208,du,rfl,dv,dC,-⟩:=id o.e;obtain ⟨d215,dE,rfl,dT,ea,-⟩:=id o.p;obtain ⟨d222,eb,rfl,ec,ed,-⟩:=id o.y;obtain ⟨d229,eh,rfl,et,eu,-⟩:=id o.t;refine aJ ?_;try simp only[*,go_sem]
  refine az ?_;simp only[*,go_sem];exact ⟨_,(F).trans G,Le.sub (List.nil_sublist _),_,_,_,_,rfl,o⟩
 revert h;refine bS fun bc bd h=>?_;simp only[*,go_sem];refine ax fun q T U=>?_;have ev:=aP.cons U ar;try simp only[au] at U
 try simp only[*,go_sem]
 refine dJ hJ (aS:=[]) [(q,.cells #[.int .i64 a.aW,.bool a.bw] 76),(j,bz 29),(i,.cells #[.int .i64 a.aW,.bool a.bw] 76),(g,bk u0 s1 c d f)] [] _ (vB u0.told b.t bd) (fun eQ bj V m n bl=>?_);simp only[aV] at n;subst m;obtain ⟨eS,e0,rfl,e1⟩:=V.len;refine ⟨⟨ro,(q,.cells #[.int .i64 a.aW,.bool a.bw] 76)::(j,bz 29)::(i,.cells #[.int .i64 a.aW,.bool a.bw] 76)::(g,bk u0 s1 c d f)::bj⟩,Le.refl _,?_⟩;refine ⟨by simp only[*,go_sem],bX ?_⟩;revert h;refine bS fun W bm h=>?_;obtain ⟨bo,X⟩:=dr bm;try simp only[*,go_sem]
 refine dY (r:=dc) (l:=bc) (x:=a) (cs:=#[.int .i64 a.aW,.bool a.bw]) (e2:=76) [(q,.cells #[.int .i64 a.aW,.bool a.bw] 76),(j,bz 29),(i,.cells #[.int .i64 a.aW,.bool a.bw] 76),(g,bk u0 s1 c d f)] [] V bl bo rfl (by simp only[*,go_sem]) T rfl rfl ek ek hU ie rfl ia (by decide) (by decide) (fun e3 br I m n fa=>?_);simp only[aV] at n;subst m;rw[<-X] at I;clear X;obtain ⟨bs,b0,rfl,fb⟩:=I.len;refine ⟨⟨ro,(q,.cells #[.int .i64 a.aW,.bool a.bw] 76)::(j,bz 29)::(i,.cells #[.int .i64 a.aW,.bool a.bw] 76)::(g,bk u0 s1 c d f)::br⟩,Le.refl _,?_⟩;refine ⟨by simp only[*,go_sem],bX ?_⟩;try simp only[*,go_sem]
 refine af hJ ?_;refine aA hJ fun Y=>?_;obtain ⟨fg,K,b1,Z,b2⟩:=I.eU [(q,.cells #[.int .i64 a.aW,.bool a.bw] 76),(j,bz 29),(i,.cells #[.int .i64 a.aW,.bool a.bw] 76),(g,bk u0 s1 c d (sl bs W b0))] [] Y (aD.cons T (aD.cons z (aD.cons w (aD.cons u (aD.nil _)))));clear Y;refine cF hJ b2 ?_;obtain ⟨fi,fo,-⟩:=Z.op;replace b:=b.mono K;replace k:=k.mono K;simp only[bu] at b1;refine aj hJ ?_;revert h;refine bS fun fp b3 h=>?_;obtain rfl:=sI h;simp only[*,go_sem];refine b8 hJ _ (wz k (⟨u0.bE,u0.bI,u0.aN,u0.ay,u0.props,u0.aE,W⟩:ak) ⟨b.e,b.p,b.y,Z⟩ b3) fun v fr b4 b5 H=>?_;obtain ⟨fs,ft,fu,fv,rfl,s⟩:=H;simp only[bu] at b5;obtain ⟨fw,fx,rfl,gg,gl,-⟩:=id s.e;obtain ⟨gn,gp,rfl,gB,gC,-⟩:=id s.p;obtain ⟨gM,gT,rfl,gV,g0,-⟩:=id s.y;obtain ⟨g1,g2,rfl,g3,g4,-⟩:=id s.t;refine aJ ?_;try simp only[*,go_sem]
 refine az ?_;simp only[*,go_sem];exact ⟨_,(K).trans b4,Le.sub (List.nil_sublist _),_,_,_,_,rfl,s⟩
def wG (u0:ak)(c:Int)(a:c9):Option (ak×Int):=
 ag (fJ u0 ([(eG c)])) fun e=>cond ((e.2 != 0)) (some ((⟨0,0,(⟨0,0⟩:an),([]:(List b7)),([]:(List ck)),([]:(List bY)),([]:(List bO))⟩:ak),e.2)) (ag (pG a 0 60) fun g=>cond (!g) (some ((⟨0,0,(⟨0,0⟩:an),([]:(List b7)),([]:(List ck)),([]:(List bY)),([]:(List bO))⟩:ak),1)) (ag (r6 u0.aE) fun d=>ag (bp d c) fun b=>cond (decide ((if a.high<b.high.high then a.high else b.high.high)<(if b.high.low<a.low then a.low else b.high.low))) (some ((⟨0,0,(⟨0,0⟩:an),([]:(List b7)),([]:(List ck)),([]:(List bY)),([]:(List bO))⟩:ak),9)) (ag (bp d c) fun h=>ag (sA (⟨u0.bE,u0.bI,u0.aN,u0.ay,u0.props,(d.set (c).toNat (⟨h.back,(⟨(if b.high.low<a.low then a.low else b.high.low),(if a.high<b.high.high then a.high else b.high.high)⟩:c9)⟩:bY)),u0.told⟩:ak)) fun f=>some (f.1,f.2))))
theorem AK {ro:Addr->Option Value}(g:de ro)(u0:ak){s1 k q l:Value}(f:bJ ro u0 s1 k q l)(d:Int)(a:c9){r:(ak×Int)}(h:wG u0 d a=some r):eD Tryz.prog 17 #[bv u0 s1 k q l,.int .i64 d,.agg #[.int .i64 a.low,.int .i64 a.high]] ro (fun v aM=>∃U w1 w2 w3,v= .tuple #[bv r.1 U w1 w2 w3,.int .i64 r.2]/\bJ aM r.1 U w1 w2 w3):=by
 unfold wG at h;have ba:=f.oc;simp only[bH] at ba;refine aC.go Tryz.func17 rfl Tryz.ntmps17 Tryz.results17 (by simp) fun main J hJ A bb hd hs=>?_;have bc:=hs 0;have k1:=hs 1;have bd:=hs 2;clear hs;refine ah hJ ?_;simp only[*,go_sem];refine ax fun w z bj=>?_;try simp only[au] at bj
 refine ax fun B C bm=>?_;try simp only[au] at bm
 refine ax fun D E bo=>?_;try simp only[au] at bo
 try simp only[*,go_sem]
 refine af hJ (af hJ ?_);refine aA hJ fun br=>?_;refine aj hJ ?_;revert h;refine bS fun K bs h=>?_;simp only[*,go_sem];refine ax fun s V W=>?_;have X:=aP.cons W br;try simp only[au] at W
 try simp only[*,go_sem]
 obtain ⟨j,u,Y⟩:=fP (b:=s) (o:=(.cells #[.func (.func 68) #[.int .i64 d] #[]] 127)) [] ((D,bz 29)::(B,.cells #[.int .i64 a.low,.int .i64 a.high] 39)::(w,bk u0 s1 k q l)::[]) X V (aD.cons E (aD.cons C (aD.cons z (aD.nil _))));have Z:aB (cY) (bR ro s (.cells #[.func (.func 68) #[.int .i64 d] #[]] 127)) (.slice (some ⟨s,0,none⟩) 1 1) [(eG d)]:=(aB.one (r:=(cY)) (e:=127) (cs:=#[.func (.func 68) #[.int .i64 d] #[]]) (x:=(eG d)) (own:=[(s,.cells #[.func (.func 68) #[.int .i64 d] #[]] 127)]) V (by simp[lk]) ⟨68,#[.int .i64 d],#[],rfl,⟨by simp only[go_sem],fun e3 fa b0 _ _ _ _ _ b1 b2 b3 b4 h=>by simp only[go_sem];exact rG d b0 ⟨b1,b2,b3,b4⟩ h⟩⟩)
 generalize bR ro s (.cells #[.func (.func 68) #[.int .i64 d] #[]] 127)=fb at Z u j Y;refine gO hJ Y ?_;replace f:=f.mono j;replace E:=u.hd;replace C:=u.tl.hd;replace z:=u.tl.tl.hd;replace g:=g.mono j;simp only[bu] at u;have b5:=aP.tl X;refine b8 hJ _ (ki g u0 f ([(eG d)]) Z bs) fun v ab m F L=>?_;obtain ⟨M,N,O,P,rfl,ca⟩:=L;have cb:=ca.oc;simp only[bH] at cb;replace f:=f.mono m;replace E:=F.hd;replace C:=F.tl.hd;replace z:=F.tl.tl.hd;replace g:=g.mono m;simp only[bu] at F;refine aJ ?_;try simp only[*,go_sem]
 refine ax fun Q cd ad=>?_;have fg:=aP.cons ad b5;try simp only[au] at ad
 try simp only[*,go_sem]
 refine ah hJ ?_;simp only[*,go_sem];revert h;refine jC hJ (by simp only[*,go_sem]) (fun cf h=>?_) fun cf h=>?_
 ·obtain rfl:=sI h;refine ah hJ ?_;simp only[*,go_sem];refine az ?_;simp only[*,go_sem];exact ⟨_,(j).trans m,Le.sub (List.nil_sublist _),_,_,_,_,rfl,⟨aB.nil _ _,aB.nil _ _,aB.nil _ _,aB.nil _ _⟩⟩
 refine aI hJ (af hJ ?_);refine ah hJ ?_;revert h;refine bS fun fi cl h=>?_;simp only[*,go_sem];refine bg hJ _ (Ap a 0 60 cl) (aJ ?_);try simp only[*,go_sem]
 revert h;refine jC hJ (by simp only[*,go_sem]) (fun cu h=>?_) fun cu h=>?_
 ·obtain rfl:=sI h;refine ah hJ ?_;simp only[*,go_sem];refine az ?_;simp only[*,go_sem];exact ⟨_,(j).trans m,Le.sub (List.nil_sublist _),_,_,_,_,rfl,⟨aB.nil _ _,aB.nil _ _,aB.nil _ _,aB.nil _ _⟩⟩
 refine aI hJ (af hJ ?_);refine aA hJ fun fo=>?_;refine aj hJ ?_;revert h;refine bS fun G cy h=>?_;simp only[*,go_sem];refine dJ hJ (aS:=[]) [(Q,bl K.1 M N O P),(D,bz 29),(B,.cells #[.int .i64 a.low,.int .i64 a.high] 39),(w,bk u0 s1 k q l)] [] _ (Ax u0.aE f.y cy) (fun fp cS H c0 da fr=>?_);simp only[aV] at da;subst c0;obtain ⟨d87,ae,rfl,fs⟩:=H.len;refine ⟨⟨ab,(Q,bl K.1 M N O P)::(D,bz 29)::(B,.cells #[.int .i64 a.low,.int .i64 a.high] 39)::(w,bk u0 s1 k q l)::cS⟩,Le.refl _,?_⟩;refine aJ ?_;try simp only[*,go_sem]
 refine af hJ ?_;refine aA hJ fun al=>?_;refine aj hJ ?_;revert h;refine bS fun c db h=>?_;obtain ⟨ft,fu,dd⟩:=c5 db;obtain ⟨R,df,dk,rfl,rfl,fv,dp,S⟩:=H.z8 dd;obtain rfl:dk=c.cells:=dp;have dq:=al.nd;simp only[keys,List.map_cons,List.map_nil,List.map_append,List.cons_append,List.nil_append,List.nodup_cons,List.mem_cons,List.mem_append,List.not_mem_nil,or_false,not_or] at dq;have ao:=S 0 _ rfl;simp only[go_sem] at ao;have fw:=(Array.getElem?_eq_some_iff.1 ao).1;have ar:=S 1 _ rfl;simp only[go_sem] at ar;have fx:=(Array.getElem?_eq_some_iff.1 ar).1;have a0:=S 2 _ rfl;simp only[go_sem] at a0;have gg:=(Array.getElem?_eq_some_iff.1 a0).1;try simp only[*,go_sem]
 refine ax fun ds dt a2=>?_;have gl:=aP.cons a2 al;try simp only[au] at a2
 try simp only[*,go_sem]
 refine af hJ ?_;refine eV [1,3,5,6,7,10] fun gn du dv dC=>?_;simp only[*,go_sem] at du dv dC;clear bb hd bc k1 bd;refine aA hJ fun dE=>?_;refine aj hJ ?_;simp only[*,go_sem];refine ax fun dT ea a3=>?_;have gp:=aP.cons a3 dE;try simp only[au] at a3
 try simp only[*,go_sem]
 refine af hJ (af hJ ?_);refine aA hJ fun gB=>?_;refine aj hJ ?_;simp only[*,go_sem];revert h;refine jC hJ (by simp only[*,go_sem]) (fun eb h=>?_) fun eb h=>?_
 ·obtain rfl:=sI h;refine af hJ ?_;refine aA hJ fun gC=>?_;refine aj hJ ?_;simp only[*,go_sem];refine az ?_;simp only[*,go_sem];exact ⟨_,(j).trans m,Le.sub (List.nil_sublist _),_,_,_,_,rfl,⟨aB.nil _ _,aB.nil _ _,aB.nil _ _,aB.nil _ _⟩⟩
 refine aI hJ (af hJ ?_);refine aA hJ fun gM=>?_;refine aj hJ ?_;revert h;refine bS fun i ec h=>?_;obtain ⟨gT,gV,a4⟩:=c5 ec;obtain ⟨ed,eh,I⟩:=H.iT a4;obtain rfl:ed=i.cells:=eh;have a5:=I 0 _ rfl;simp only[go_sem] at a5;have g0:=(Array.getElem?_eq_some_iff.1 a5).1;have a6:=I 1 _ rfl;simp only[go_sem] at a6;have g1:=(Array.getElem?_eq_some_iff.1 a6).1;have a7:=I 2 _ rfl;simp only[go_sem] at a7;have g2:=(Array.getElem?_eq_some_iff.1 a7).1;have et:aO eN ab 41 (.slice (some ⟨R,0,none⟩) G.length ae) (G.set (d).toNat (⟨i.back,(⟨(if c.high.low<a.low then a.low else c.high.low),(if a.high<c.high.high then a.high else c.high.high)⟩:c9)⟩:bY)) [(R,Obj.cells (cI df ((d).toNat*3+1) [.int .i64 (if c.high.low<a.low then a.low else c.high.low),.int .i64 (if a.high<c.high.high then a.high else c.high.high)]) 41)]:=by have eu:=H.part (y:=(⟨i.back,(⟨(if c.high.low<a.low then a.low else c.high.low),(if a.high<c.high.high then a.high else c.high.high)⟩:c9)⟩:bY)) a4 1 [.int .i64 (if c.high.low<a.low then a.low else c.high.low),.int .i64 (if a.high<c.high.high then a.high else c.high.high)] [.int .i64 i.back,.int .i64 i.high.low,.int .i64 i.high.high] [.int .i64 i.back,.int .i64 (if c.high.low<a.low then a.low else c.high.low),.int .i64 (if a.high<c.high.high then a.high else c.high.high)] I rfl rfl (by simp) rfl;exact eu
 try simp only[*,go_sem]
 refine af hJ ?_;refine aA hJ fun a8=>?_;obtain ⟨g3,T,ev,a9,eQ⟩:=et.eU [(dT,.cells #[.int .i64 (if c.high.low<a.low then a.low else c.high.low),.int .i64 (if a.high<c.high.high then a.high else c.high.high)] 39),(ds,.cells #[.int .i64 c.high.low,.int .i64 c.high.high] 39),(Q,bl K.1 M N O P),(D,bz 29),(B,.cells #[.int .i64 a.low,.int .i64 a.high] 39),(w,bk u0 s1 k (sl (some ⟨R,0,none⟩) G ae) l)] [] a8 (aD.cons ea (aD.cons dt (aD.cons cd (aD.cons E (aD.cons C (aD.cons z (aD.nil _)))))));clear a8;refine cF hJ eQ ?_;obtain ⟨g4,ha,-⟩:=a9.op;replace f:=f.mono T;replace g:=g.mono T;simp only[bu] at ev;refine aj hJ ?_;revert h;refine bS fun hc eS h=>?_;obtain rfl:=sI h;simp only[*,go_sem];refine b8 hJ _ (wz g (⟨u0.bE,u0.bI,u0.aN,u0.ay,u0.props,(G.set (d).toNat (⟨i.back,(⟨(if c.high.low<a.low then a.low else c.high.low),(if a.high<c.high.high then a.high else c.high.high)⟩:c9)⟩:bY)),u0.told⟩:ak) ⟨f.e,f.p,a9,f.t⟩ eS) fun v hf e0 e1 L=>?_;obtain ⟨hg,hh,hi,hj,rfl,n⟩:=L;have e2:=n.oc;simp only[bH] at e2;simp only[bu] at e1;obtain ⟨d130,hk,rfl,hl,hn,-⟩:=id n.e;obtain ⟨d137,ho,rfl,hp,hq,-⟩:=id n.p;obtain ⟨d144,hr,rfl,ht,hv,-⟩:=id n.y;obtain ⟨d151,hx,rfl,hy,hz,-⟩:=id n.t;refine aJ ?_;try simp only[*,go_sem]
 refine az ?_;simp only[*,go_sem];exact ⟨_,(((j).trans m).trans T).trans e0,Le.sub (List.nil_sublist _),_,_,_,_,rfl,n⟩
def AL (i43:Nat)(a:(List Int))(st:(List Int)):Option (Fl (List Int) (List Int)):=
 ag (c6 st a) fun b=>some (.nx b)
def wH (i9:Nat)(a:(List Int))(st:Int):Option (Fl Int (List Int)):=
 cond (decide ((IntKind.i64.wrap (st+(a.length:Int)))<0)) (none) (some (.nx (IntKind.i64.wrap (st+(a.length:Int)))))
def GN (i109:Nat)(a:(List Int))(st:(List Int)):Option (Fl (List Int) (List Int)):=
 ag (c6 st a) fun b=>some (.nx b)
def wI (u0:(List (List Int))):Option (List Int):=
 ag (bF (wH) 0 u0 0) fun o=>aG o (fun a=>ag (wv a) fun b=>ag (bF (GN) 0 u0 b) fun o=>aG o (fun c=>some c) (fun _ _=>none) (fun r=>some r)) (fun _ _=>none) (fun r=>some r)
theorem GO {ro:Addr->Option Value}(u0:(List (List Int))){s1:Value}(g:aB (rL rI) ro s1 u0){r:(List Int)}(h:wI u0=some r):eD Tryz.prog 98 #[s1] ro (fun v aM=>∃s,v=s/\aB rI aM s r):=by
 obtain ⟨d3,c4,rfl,bz,t,-⟩:=id g;unfold wI at h;refine aC.go Tryz.func98 rfl Tryz.ntmps98 Tryz.results98 (by simp) fun main J hJ A P hd hs=>?_;have Q:=hs 0;clear hs;refine ah hJ ?_;simp only[*,go_sem];refine ah hJ ?_;simp only[*,go_sem];refine af hJ (ah hJ ?_);simp only[*,go_sem];refine aQ hJ ?_;revert h;refine bS fun R a S=>?_;refine bU hJ [3,5,11,12,13,14,15,16,17,18,19,20,21,22] (fun m d F'=>∃(i9:Nat) (e:Int),m=u0.length - i9/\i9<=u0.length/\bF (wH) i9 (u0.drop i9) e=some R/\F'=⟨ro,[]⟩/\slot d 11= .int .i64 (i9:Int)/\slot d 3= .int .i64 e) u0.length ?_ ?_
 ·refine ⟨0,0,(Nat.sub_zero _).symm,Nat.zero_le _,a,rfl,?_⟩;simp only[*,go_sem]
 rintro b0 b1 F' u ⟨i9,e,rfl,b2,a,rfl,T,U⟩;obtain ⟨w,y,z⟩:=u.pick [0,2,9,10] (by decide);simp only[*,go_sem] at w y z;clear u P hd Q;refine ah hJ ?_;simp only[*,go_sem];refine af hJ ?_;rcases Nat.lt_or_ge i9 u0.length with V|B
 ·refine bP hJ (by simp only[*,go_sem]) ?_;refine aI hJ ?_;obtain ⟨W,i⟩:∃x,u0[i9]?=some x:=⟨_,List.getElem?_eq_getElem V⟩
  rw[c8 i] at a;revert a;refine bS fun b3 h X=>?_;unfold wH at h;try dsimp only at h
  obtain ⟨b4,b5,Y,Z,C⟩:=g.el _ _ i;obtain ⟨ca,rfl,ab⟩:=Z;obtain ⟨d18,cb,rfl,cd,cf,cl⟩:=id ab;cases Y;have ad:=C 0 _ rfl;simp only[go_sem] at ad;clear C i;refine af hJ (aQ hJ (af hJ ?_));refine aj hJ ?_;simp only[*,go_sem];refine ah hJ ?_;simp only[*,go_sem];refine ah hJ ?_;simp only[*,go_sem];revert h;refine jC hJ (by simp only[*,go_sem]) (fun ae h=>?_) fun ae h=>?_
  ·refine aj hJ ?_;cases h
  obtain rfl:=sI h;refine aI hJ ?_;have cu:=cn (n:=i9) (by have:=t;omega);refine aj hJ ?_;simp only[*,go_sem];refine ⟨u0.length - (i9+1),by omega,_,Le.sub (List.Sublist.refl _),i9+1,(IntKind.i64.wrap (e+(W.length:Int))),rfl,by omega,X,rfl,?_⟩;simp only[*,go_sem]
 have cy:=Nat.not_lt.2 B;refine bL hJ (by simp only[*,go_sem]) ?_;rw[List.drop_eq_nil_of_le B] at a;obtain rfl:=sI a;clear a;have h:=S;dsimp only[aG] at h;refine bN ?_;simp only[go_sem];refine af hJ ?_;refine aA hJ fun cS=>?_;refine aj hJ ?_;revert h;refine bS fun al ao h=>?_;simp only[*,go_sem];refine dJ hJ (aS:=[]) [] [] _ (GH e ao) (fun c0 D E j k da=>?_);simp only[aV] at k;subst j;obtain ⟨d32,ar,rfl,a0⟩:=E.len;refine ⟨⟨ro,D⟩,Le.refl _,?_⟩;refine aJ ?_;try simp only[*,go_sem]
 refine af hJ (af hJ ?_);refine aA hJ fun db=>?_;refine aj hJ ?_;simp only[*,go_sem];refine aQ hJ ?_;revert h;refine bS fun a2 b a3=>?_;refine bU hJ [6,8,27,28,29,30,31,32,33,34] (fun m d F'=>∃(i43:Nat) (d38:Option Addr) (f:Nat) (o:List (Nat×Obj)) (c:(List Int)),m=u0.length - i43/\i43<=u0.length/\bF (AL) i43 (u0.drop i43) c=some a2/\F'=⟨ro,o⟩/\aO rI ro 3 (.slice d38 c.length f) c o/\c.length<=f/\slot d 27= .int .i64 (i43:Int)/\slot d 6= .slice d38 c.length f) u0.length ?_ ?_
 ·refine ⟨0,d32,ar,D,al,(Nat.sub_zero _).symm,Nat.zero_le _,b,rfl,E,a0,?_⟩;simp only[*,go_sem]
 rintro dd df F' F ⟨i43,d38,f,o,c,rfl,dk,b,rfl,G,dp,dq,ds⟩;obtain ⟨a4,a5,a6⟩:=F.pick [2,25,26] (by decide);simp only[*,go_sem] at a4 a5 a6;clear F w y z U T;refine ah hJ ?_;simp only[*,go_sem];refine af hJ ?_;rcases Nat.lt_or_ge i43 u0.length with a7|H
 ·refine bP hJ (by simp only[*,go_sem]) ?_;refine aI hJ ?_;obtain ⟨a8,p⟩:∃x,u0[i43]?=some x:=⟨_,List.getElem?_eq_getElem a7⟩
  rw[c8 p] at b;revert b;refine bS fun dt h a9=>?_;unfold AL at h;try dsimp only at h
  obtain ⟨du,dv,ba,bb,I⟩:=g.el _ _ p;obtain ⟨dC,rfl,K⟩:=bb;obtain ⟨d52,dE,rfl,dT,ea,eb⟩:=id K;cases ba;have bc:=I 0 _ rfl;simp only[go_sem] at bc;clear I p;refine af hJ (aQ hJ (af hJ ?_));refine aA hJ fun ec=>?_;refine aj hJ ?_;simp only[*,go_sem];refine aA hJ fun bd=>?_;refine aj hJ ?_;revert h;refine bS fun bj bk h=>?_;obtain rfl:=sI h;obtain ⟨bl,L⟩:=dr bk;simp only[*,go_sem];refine pE (r:=rI) (l:=c) (xs:=a8) [] [] G bd bl K rfl rfl fN fN kU kW rfl kV (by decide) (by decide) (fun ed M q j k eh=>?_);simp only[aV] at k;subst j;rw[<-L] at q;clear L;obtain ⟨d66,bm,rfl,bo⟩:=q.len;refine ⟨⟨ro,M⟩,Le.refl _,?_⟩;refine aJ ?_;try simp only[*,go_sem]
  have et:=cn (n:=i43) (by have:=t;omega);refine aj hJ ?_;simp only[*,go_sem];refine ⟨u0.length - (i43+1),by omega,_,Le.sub (List.Sublist.refl _),i43+1,d66,bm,M,bj,rfl,by omega,a9,rfl,q,bo,?_⟩;simp only[*,go_sem]
 have eu:=Nat.not_lt.2 H;refine bL hJ (by simp only[*,go_sem]) ?_;rw[List.drop_eq_nil_of_le H] at b;obtain rfl:=sI b;clear b;have h:=a3;dsimp only[aG] at h;obtain rfl:=sI h;refine bN ?_;simp only[go_sem];refine af hJ ?_;refine aA hJ fun ev=>?_;refine aj hJ ?_;simp only[*,go_sem];refine aA hJ fun N=>?_;obtain ⟨eQ,br,eS,O,bs⟩:=G.eU [] [] N (aD.nil _);clear N;refine cF hJ bs ?_;obtain ⟨e0,e1,-⟩:=O.op;refine az ?_;simp only[*,go_sem];exact ⟨_,br,Le.sub (List.nil_sublist _),_,rfl,O⟩
def nL (a:Int)(i44:Nat)(b:aX)(st:(List Int)):Option (Fl (List Int) (List Int)):=
 ag (aX.get b a) fun c=>ag (c6 st ([c])) fun d=>some (.nx d)
def lg (u0:cL)(a:Int):Option (List Int):=
 ag (bF (nL a) 0 u0.all ([]:List Int)) fun o=>aG o (fun b=>ag (pY b) fun c=>ag (sx c.2) fun d=>some d) (fun _ _=>none) (fun r=>some r)
theorem sF {ro:Addr->Option Value}(u0:cL){s1 a b c:Value}(b3:bJ ro u0.book s1 a b c){y:Value}(z:aB gP ro y u0.all)(s:Int){r:(List Int)}(h:lg u0 s=some r):eD Tryz.prog 69 #[.agg #[.int .i64 u0.book.bE,.int .i64 u0.book.bI,.int .i64 u0.book.aN.num,.int .i64 u0.book.aN.den,s1,a,b,c,y],.int .i64 s] ro (fun v aM=>∃B,v=B/\aB rI aM B r):=by
 obtain ⟨d31,d,rfl,b4,R,-⟩:=id z;unfold lg at h;refine aC.go Tryz.func69 rfl Tryz.ntmps69 Tryz.results69 (by simp) fun main J hJ A S hd hs=>?_;have T:=hs 0;have k1:=hs 1;clear hs;refine ah hJ ?_;simp only[*,go_sem];refine ax fun e U V=>?_;try simp only[au] at V
 try simp only[*,go_sem]
 refine ah hJ ?_;simp only[*,go_sem];refine af hJ (ah hJ ?_);simp only[*,go_sem];refine aQ hJ ?_;revert h;refine bS fun W g X=>?_;refine bU hJ [5,7,11,12,13,14,15,16,17,18,19,20,21] (fun m C F'=>∃(i44:Nat) (d38:Option Addr) (o:Nat) (t:List (Nat×Obj)) (f:(List Int)),m=u0.all.length - i44/\i44<=u0.all.length/\bF (nL s) i44 (u0.all.drop i44) f=some W/\F'=⟨ro,(e,kn u0 s1 a b c (sl d31 u0.all d))::t⟩/\aO rI ro 3 (.slice d38 f.length o) f t/\f.length<=o/\slot C 11= .int .i64 (i44:Int)/\slot C 5= .slice d38 f.length o) u0.all.length ?_ ?_
 ·refine ⟨0,none,0,[],([]:List Int),(Nat.sub_zero _).symm,Nat.zero_le _,g,rfl,aO.nil _ _ _,Nat.le_refl _,?_⟩;simp only[*,go_sem]
 rintro b5 ca F' D ⟨i44,d38,o,t,f,rfl,cb,g,rfl,E,cd,cf,cl⟩;obtain ⟨Y,Z,ab⟩:=D.pick [1,4,9,10] (by decide);simp only[*,go_sem] at Y Z ab;clear D S hd T k1;refine ah hJ ?_;simp only[*,go_sem];refine af hJ ?_;rcases Nat.lt_or_ge i44 u0.all.length with ad|F
 ·refine bP hJ (by simp only[*,go_sem]) ?_;refine aI hJ ?_;obtain ⟨i,u⟩:∃x,u0.all[i44]?=some x:=⟨_,List.getElem?_eq_getElem ad⟩
  rw[c8 u] at g;revert g;refine bS fun cu h ae=>?_;unfold nL at h;try dsimp only at h
  obtain ⟨G,al,ao,ar,p⟩:=z.el _ _ u;obtain rfl:al=i.cells:=ar;cases ao;have a0:=p 0 _ rfl;simp only[go_sem] at a0;have a2:=p 1 _ rfl;simp only[go_sem] at a2;have a3:=p 2 _ rfl;simp only[go_sem] at a3;clear p u;refine af hJ (aQ hJ (af hJ ?_));refine aA hJ fun a4=>?_;refine aj hJ ?_;simp only[*,go_sem];refine ax fun H cy I=>?_;have cS:=aP.cons I a4;try simp only[au] at I
  try simp only[*,go_sem]
  refine aA hJ fun a5=>?_;refine aj hJ ?_;revert h;refine bS fun q a6 h=>?_;obtain ⟨c0,da,a7⟩:=aX.get_some a6;try simp only[go_sem] at a7
  revert h;refine bS fun a8 a9 h=>?_;obtain rfl:=sI h;obtain ⟨ba,K⟩:=dr a9;try simp only[*,go_sem]
  refine ax fun L bb M=>?_;have bc:=aP.cons M a5;try simp only[au] at M
  try simp only[*,go_sem]
  refine dY (r:=rI) (l:=f) (x:=q) (cs:=#[.int .i64 q]) (e2:=3) [(L,ic q),(H,.cells #[.int .i64 i.e0,.int .i64 i.e1,.int .i64 i.e2] 121),(e,kn u0 s1 a b c (sl (some G) u0.all d))] [] E bc ba rfl (by simp only[*,go_sem]) bb rfl rfl fN fN kU kW rfl kV (by decide) (by decide) (fun db N w j k dd=>?_);simp only[aV] at k;subst j;rw[<-K] at w;clear K;obtain ⟨d66,bd,rfl,bj⟩:=w.len;refine ⟨⟨ro,(L,ic q)::(H,.cells #[.int .i64 i.e0,.int .i64 i.e1,.int .i64 i.e2] 121)::(e,kn u0 s1 a b c (sl (some G) u0.all d))::N⟩,Le.refl _,?_⟩;refine aJ ?_;try simp only[*,go_sem]
  have df:=cn (n:=i44) (by have:=R;omega);refine aj hJ ?_;simp only[*,go_sem];refine ⟨u0.all.length - (i44+1),by omega,_,Le.sub (List.Sublist.cons _ (List.Sublist.cons _ (List.Sublist.refl _))),i44+1,d66,bd,N,a8,rfl,by omega,ae,rfl,w,bj,?_⟩;simp only[*,go_sem]
 have dk:=Nat.not_lt.2 F;refine bL hJ (by simp only[*,go_sem]) ?_;rw[List.drop_eq_nil_of_le F] at g;obtain rfl:=sI g;clear g;have h:=X;dsimp only[aG] at h;refine bN ?_;simp only[go_sem];refine af hJ ?_;refine aA hJ fun dp=>?_;refine aj hJ ?_;revert h;refine bS fun bk bl h=>?_;simp only[*,go_sem];refine dJ hJ [(e,kn u0 s1 a b c (sl d31 u0.all d))] [] _ (GD f E bl) (fun dq bm bo j k ds=>?_);obtain ⟨rfl,br⟩:=bo;simp only[aV] at k;subst j;refine ⟨⟨ro,(e,kn u0 s1 a b c (sl d31 u0.all d))::bm⟩,Le.refl _,?_⟩;try simp only[*,go_sem]
 refine af hJ ?_;refine aA hJ fun dt=>?_;refine aj hJ ?_;revert h;refine bS fun du bs h=>?_;obtain rfl:=sI h;simp only[*,go_sem];refine dJ hJ [(e,kn u0 s1 a b c (sl d31 u0.all d))] [] _ (GF bk.2 br bs) (fun dv bz O j k dC=>?_);simp only[aV] at k;subst j;obtain ⟨d83,dE,rfl,dT⟩:=O.len;refine ⟨⟨ro,(e,kn u0 s1 a b c (sl d31 u0.all d))::bz⟩,Le.refl _,?_⟩;refine aJ ?_;try simp only[*,go_sem]
 refine aA hJ fun P=>?_;obtain ⟨ea,b0,b1,Q,b2⟩:=O.eU [(e,kn u0 s1 a b c (sl d31 u0.all d))] [] P (aD.cons U (aD.nil _));clear P;refine cF hJ b2 ?_;obtain ⟨eb,ec,-⟩:=Q.op;simp only[bu] at b1;refine az ?_;simp only[*,go_sem];exact ⟨_,b0,Le.sub (List.nil_sublist _),_,rfl,Q⟩
def lp (u0:cL)(i47:Nat)(i75:Nat)(b:Int)(st:(List aU)):Option (Fl (List aU) (List aU)):=
 ag (ij u0.book (i47:Int) b) fun a=>ag (pQ st a) fun c=>cond (!c) (ag (c6 st ([a])) fun d=>some (.nx d)) (some (.nx st))
def p5 (u0:cL)(i47:Nat)(c:bY)(st:(List aU)):Option (Fl (List aU) (List aU)):=
 ag (lg u0 (i47:Int)) fun a=>ag (bF (lp u0 i47) 0 a st) fun o=>aG o (fun b=>some (.nx b)) (fun _ _=>none) (fun r=>some (.rt r))
def nM (u0:cL):Option (List aU):=
 ag (bF (p5 u0) 0 u0.book.aE ([]:List aU)) fun o=>aG o (fun a=>some a) (fun _ _=>none) (fun r=>some r)
theorem AM {ro:Addr->Option Value}(u0:cL){s1 c R d:Value}(e:bJ ro u0.book s1 c R d){f:Value}(H:aB gP ro f u0.all){r:(List aU)}(h:nM u0=some r):eD Tryz.prog 85 #[.agg #[.int .i64 u0.book.bE,.int .i64 u0.book.bI,.int .i64 u0.book.aN.num,.int .i64 u0.book.aN.den,s1,c,R,d,f]] ro (fun v aM=>∃S,v=S/\aB iV aM S r):=by
 obtain ⟨d17,o,rfl,eQ,a8,-⟩:=id e.y;unfold nM at h;refine aC.go Tryz.func85 rfl Tryz.ntmps85 Tryz.results85 (by simp) fun main J hJ A a9 hd hs=>?_;have ba:=hs 0;clear hs;refine ah hJ ?_;simp only[*,go_sem];refine ax fun p I bb=>?_;try simp only[au] at bb
 try simp only[*,go_sem]
 refine ah hJ ?_;simp only[*,go_sem];refine af hJ (ah hJ ?_);simp only[*,go_sem];refine aQ hJ ?_;revert h;refine bS fun bc i bd=>?_;refine bU hJ [3,4,6,7,13,14,15,16,17,18,19,20,21,22,23,24,25,26,27,28,29,30,31,32,33,34,35,36,37,38] (fun m s F'=>∃(i47:Nat) (w:Addr->Option Value) (d38:Option Addr) (t:Nat) (z:List (Nat×Obj)) (j:(List aU)),m=u0.book.aE.length - i47/\i47<=u0.book.aE.length/\bF (p5 u0) i47 (u0.book.aE.drop i47) j=some bc/\F'=⟨w,(p,kn u0 s1 c (sl d17 u0.book.aE o) d f)::z⟩/\Ext ro w/\aO iV w 134 (.slice d38 j.length t) j z/\j.length<=t/\slot s 13= .int .i64 (i47:Int)/\slot s 3= .slice d38 j.length t) u0.book.aE.length ?_ ?_
 ·refine ⟨0,ro,none,0,[],([]:List aU),(Nat.sub_zero _).symm,Nat.zero_le _,i,rfl,Ext.refl _,aO.nil _ _ _,Nat.le_refl _,?_⟩;simp only[*,go_sem]
 rintro eS bj F' T ⟨i47,w,d38,t,z,j,rfl,e0,i,rfl,B,C,bk,bl,bm⟩;refine fZ hJ fun _ U=>?_;replace e:=e.mono B;replace H:=H.mono B;replace I:=U.hd;simp only[bu] at U;obtain ⟨V,W,X⟩:=T.pick [1,2,12] (by decide);simp only[*,go_sem] at V W X;clear T a9 hd ba;refine ah hJ ?_;simp only[*,go_sem];refine af hJ ?_;rcases Nat.lt_or_ge i47 u0.book.aE.length with bo|Y
 ·refine bP hJ (by simp only[*,go_sem]) ?_;refine aI hJ ?_;obtain ⟨br,K⟩:∃x,u0.book.aE[i47]?=some x:=⟨_,List.getElem?_eq_getElem bo⟩
  rw[c8 K] at i;revert i;refine bS fun e1 h bs=>?_;unfold p5 at h;try dsimp only at h
  obtain ⟨D,bz,b0,b1,E⟩:=e.y.el _ _ K;obtain rfl:bz=br.cells:=b1;cases b0;have b2:=E 0 _ rfl;simp only[go_sem] at b2;have b3:=E 1 _ rfl;simp only[go_sem] at b3;have b4:=E 2 _ rfl;simp only[go_sem] at b4;clear E K;refine af hJ (aQ hJ (af hJ ?_));refine aA hJ fun e3=>?_;refine aj hJ ?_;simp only[*,go_sem];refine af hJ ?_;refine aA hJ fun fa=>?_;refine aj hJ ?_;revert h;refine bS fun g b5 h=>?_;simp only[*,go_sem];refine b8 hJ _ (sF u0 e H (i47:Int) b5) fun v F L M ca=>?_;obtain ⟨fb,rfl,Z⟩:=ca;replace e:=e.mono L;replace I:=M.hd;replace C:=C.mono L M.tl;simp only[bu] at M;obtain ⟨d64,fg,rfl,fi,ab,-⟩:=id Z;refine aJ ?_;try simp only[*,go_sem]
  refine aQ hJ ?_;revert h;refine bS fun cb k cd=>?_;refine bU hJ [3,6,7,20,21,22,23,24,25,26,27,28,29,30,31,32,33,34,35,36,37] (fun m s F'=>∃(i75:Nat) (d70:Option Addr) (q:Nat) (u:List (Nat×Obj)) (b:(List aU)),m=g.length - i75/\i75<=g.length/\bF (lp u0 i47) i75 (g.drop i75) b=some cb/\F'=⟨F,(p,kn u0 s1 c (sl (some D) u0.book.aE o) d f)::u⟩/\aO iV F 134 (.slice d70 b.length q) b u/\b.length<=q/\slot s 20= .int .i64 (i75:Int)/\slot s 3= .slice d70 b.length q) g.length ?_ ?_
  ·refine ⟨0,d38,t,z,j,(Nat.sub_zero _).symm,Nat.zero_le _,k,rfl,C,bk,?_⟩;simp only[*,go_sem]
  rintro fo cf F' N ⟨i75,d70,q,u,b,rfl,fp,k,rfl,G,ad,fr,fs⟩;obtain ⟨cl,cu,cy⟩:=N.pick [1,2,4,12,13,14,15,16,17,18,19] (by decide);simp only[*,go_sem] at cl cu cy;have ft:cG [3,4,6,7,13,14,15,16,17,18,19,20,21,22,23,24,25,26,27,28,29,30,31,32,33,34,35,36,37,38] cf bj:=(N.fX (by decide)).trans (by simp only[*,go_sem]);clear N V W X bm bl;refine ah hJ ?_;simp only[*,go_sem];refine af hJ ?_;rcases Nat.lt_or_ge i75 g.length with cS|ae
  ·refine bP hJ (by simp only[*,go_sem]) ?_;refine aI hJ ?_;obtain ⟨al,O⟩:∃x,g[i75]?=some x:=⟨_,List.getElem?_eq_getElem cS⟩
   rw[c8 O] at k;revert k;refine bS fun fu h ao=>?_;unfold lp at h;(try dsimp only at h);obtain ⟨fv,c0,da,db,ar⟩:=Z.el _ _ O;obtain rfl:c0=[.int .i64 al]:=db;cases da;have dd:=ar 0 _ rfl;simp only[go_sem] at dd;clear ar O;refine af hJ (aQ hJ (af hJ ?_));refine aA hJ fun fw=>?_;refine aj hJ ?_;simp only[*,go_sem];refine af hJ ?_;refine aA hJ fun df=>?_;refine aj hJ ?_;revert h;refine bS fun a dk h=>?_;simp only[*,go_sem];refine bg hJ _ (me u0.book (e.mono aR) (i47:Int) al dk) (aJ ?_);(try simp only[*,go_sem]);refine ax fun P fx a0=>?_;have gg:=aP.cons a0 df;try simp only[au] at a0
   (try simp only[*,go_sem]);refine af hJ ?_;refine aA hJ fun dp=>?_;refine aj hJ ?_;revert h;refine bS fun gl dq h=>?_;simp only[*,go_sem];refine bg hJ _ (FY b (G.An [(P,.cells #[.int .i64 a.back,.int .i64 a.high] 134),(p,kn u0 s1 c (sl (some D) u0.book.aE o) d f)] [] (by first|rfl|simp only[aV]|(simp only[aV];rfl)) dp) a dq) (aJ ?_);(try simp only[*,go_sem]);revert h;refine jC hJ (by simp only[*,go_sem]) (fun ds h=>?_) fun ds h=>?_
   ·refine aA hJ fun dt=>?_;refine aj hJ ?_;revert h;refine bS fun du dv h=>?_;obtain rfl:=sI h;obtain ⟨dC,a2⟩:=dr dv;simp only[*,go_sem];refine ax fun a3 dE a4=>?_;have dT:=aP.cons a4 dt;try simp only[au] at a4
    (try simp only[*,go_sem]);refine dY (r:=iV) (l:=b) (x:=a) (cs:=#[.int .i64 a.back,.int .i64 a.high]) (e2:=134) [(a3,.cells #[.int .i64 a.back,.int .i64 a.high] 134),(P,.cells #[.int .i64 a.back,.int .i64 a.high] 134),(p,kn u0 s1 c (sl (some D) u0.book.aE o) d f)] [] G dT dC rfl (by simp only[*,go_sem]) dE rfl rfl zO zO EE EG rfl EF (by decide) (by decide) (fun gn a5 Q ea eb gp=>?_);simp only[aV] at eb;subst ea;rw[<-a2] at Q;clear a2;obtain ⟨d102,ec,rfl,ed⟩:=Q.len;refine ⟨⟨F,(a3,.cells #[.int .i64 a.back,.int .i64 a.high] 134)::(P,.cells #[.int .i64 a.back,.int .i64 a.high] 134)::(p,kn u0 s1 c (sl (some D) u0.book.aE o) d f)::a5⟩,Le.refl _,?_⟩;refine aJ ?_;(try simp only[*,go_sem]);have eh:=cn (n:=i75) (by have:=ab;omega);refine aj hJ ?_;simp only[*,go_sem];refine ⟨g.length - (i75+1),by omega,_,Le.sub (List.Sublist.cons _ (List.Sublist.cons _ (List.Sublist.refl _))),i75+1,d102,ec,a5,du,rfl,by omega,ao,rfl,Q,ed,?_⟩;simp only[*,go_sem]
   obtain rfl:=sI h;refine aI hJ ?_;have eh:=cn (n:=i75) (by have:=ab;omega);refine aj hJ ?_;simp only[*,go_sem];refine ⟨g.length - (i75+1),by omega,_,Le.sub (List.Sublist.cons _ (List.Sublist.refl _)),i75+1,d70,q,u,b,rfl,by omega,ao,rfl,G,ad,?_⟩;simp only[*,go_sem]
  have gB:=Nat.not_lt.2 ae;refine bL hJ (by simp only[*,go_sem]) ?_;rw[List.drop_eq_nil_of_le ae] at k;obtain rfl:=sI k;clear k;have h:=cd;dsimp only[aG] at h;obtain rfl:=sI h;refine bN ?_;simp only[go_sem];have gC:=cn (n:=i47) (by have:=a8;omega);refine aj hJ ?_;simp only[*,go_sem];refine ⟨u0.book.aE.length - (i47+1),by omega,_,Le.sub (List.Sublist.refl _),i47+1,F,d70,q,u,b,rfl,by omega,bs,rfl,(B.trans L),G,ad,?_⟩;simp only[*,go_sem]
 have gM:=Nat.not_lt.2 Y;refine bL hJ (by simp only[*,go_sem]) ?_;rw[List.drop_eq_nil_of_le Y] at i;obtain rfl:=sI i;clear i;have h:=bd;dsimp only[aG] at h;obtain rfl:=sI h;refine bN ?_;simp only[go_sem];refine af hJ ?_;refine aA hJ fun gT=>?_;refine aj hJ ?_;simp only[*,go_sem];refine aA hJ fun a6=>?_;obtain ⟨gV,et,eu,a7,ev⟩:=C.eU [(p,kn u0 s1 c (sl d17 u0.book.aE o) d f)] [] a6 (aD.cons I (aD.nil _));clear a6;refine cF hJ ev ?_;obtain ⟨g0,g1,-⟩:=a7.op;simp only[bu] at eu;refine az ?_;simp only[*,go_sem];exact ⟨_,(B).trans et,Le.sub (List.nil_sublist _),_,rfl,a7⟩
def wJ (a:Int)(i109:Nat)(b:bO)(st:((List Int)×(List bO))):Option (Fl ((List Int)×(List bO)) ((List Int)×Int)):=
 ag (uT a (i109:Int)) fun c=>cond (((zD c 1)==1)) (ag (c6 st.1 ([(i109:Int)])) fun d=>ag (c6 st.2 ([b])) fun e=>some (.nx (d,e))) (some (.nx (st.1,st.2)))
def wK (u0:ak)(a:(ak×Int))(c:Int)(st:((List (List Int))×Int)):Option (Fl ((List (List Int))×Int) ((List Int)×Int)):=
 cond (decide (st.2<c)) (ag (bF (wJ st.2) 0 u0.told (([]:List Int),([]:List bO))) fun o=>aG o (fun b=>ag (se (⟨a.1.bE,a.1.bI,a.1.aN,a.1.ay,a.1.props,a.1.aE,b.2⟩:ak)) fun d=>cond (!d) (ag (c6 st.1 ([b.1])) fun e=>some (.nx (e,(IntKind.i64.wrap (st.2+1))))) (some (.nx (st.1,(IntKind.i64.wrap (st.2+1)))))) (fun _ _=>none) (fun r=>some (.rt r))) (some (.bk (st.1,st.2)))
def wL (u0:ak):Option ((List Int)×Int):=
 ag (fJ u0 ([]:(List (ak->Option Int)))) fun a=>cond ((a.2 != 0)) (some (([]:(List Int)),a.2)) (ag (se a.1) fun c=>cond (c) (some (([]:(List Int)),0)) (ag (uS 1 (u0.told.length:Int)) fun d=>ag (bn (wK u0 a d) fu (([]:List (List Int)),0)) fun o=>aG o (fun b=>ag (bp b.1 0) fun e=>ag (g9 b.1 1 (b.1.length:Int)) fun f=>ag (vt sB e f) fun g=>some (g,0)) (fun _ _=>none) (fun r=>some r)))
theorem AN {ro:Addr->Option Value}(fv:de ro)(u0:ak){s1 i j b4:Value}(K:bJ ro u0 s1 i j b4){r:((List Int)×Int)}(h:wL u0=some r):eD Tryz.prog 54 #[bv u0 s1 i j b4] ro (fun v aM=>∃b5,v= .tuple #[b5,.int .i64 r.2]/\aB rI aM b5 r.1):=by
 obtain ⟨d24,k,rfl,m1,ab,-⟩:=id K.t;unfold wL at h;have fw:=K.oc;simp only[bH] at fw;refine aC.go Tryz.func54 rfl Tryz.ntmps54 Tryz.results54 (by simp) fun main J hJ A fx hd hs=>?_;have gg:=hs 0;clear hs;refine ah hJ ?_;simp only[*,go_sem];refine ax fun o L gl=>?_;try simp only[au] at gl
 try simp only[*,go_sem]
 refine ah hJ ?_;revert h;refine bS fun b gn h=>?_;simp only[*,go_sem];refine b8 hJ _ (ki fv u0 K ([]:(List (ak->Option Int))) (aB.nil _ _) gn) fun v ca ad cb a7=>?_;obtain ⟨c,d,f,q,rfl,P⟩:=a7;have gp:=P.oc;simp only[bH] at gp;replace K:=K.mono ad;replace L:=cb.hd;simp only[bu] at cb;refine aJ ?_;try simp only[*,go_sem]
 refine ax fun s Q gB=>?_;try simp only[au] at gB
 try simp only[*,go_sem]
 refine af hJ (ah hJ ?_);simp only[*,go_sem];revert h;refine jC hJ (by simp only[*,go_sem]) (fun gC h=>?_) fun gC h=>?_
 ·obtain rfl:=sI h;refine ah hJ ?_;simp only[*,go_sem];refine az ?_;simp only[*,go_sem];exact ⟨_,ad,Le.sub (List.nil_sublist _),_,rfl,aB.nil _ _⟩
 refine aI hJ (af hJ ?_);refine ah hJ ?_;revert h;refine bS fun m2 gM h=>?_;simp only[*,go_sem];refine bg hJ _ (AB b.1 (P.mono aR) gM) ?_;try simp only[*,go_sem]
 revert h;refine jC hJ (by simp only[*,go_sem]) (fun gT h=>?_) fun gT h=>?_
 ·obtain rfl:=sI h;refine ah hJ ?_;simp only[*,go_sem];refine az ?_;simp only[*,go_sem];exact ⟨_,ad,Le.sub (List.nil_sublist _),_,rfl,aB.nil _ _⟩
 refine aI hJ (af hJ ?_);refine aj hJ ?_;simp only[*,go_sem];refine af hJ (ah hJ ?_);revert h;refine bS fun gV cd h=>?_;obtain ⟨na,g0⟩:=Eh cd;clear cd;try simp only[go_sem] at g0
 try simp only[*,go_sem]
 refine aQ hJ ?_;revert h;refine bS fun g1 ae g2=>?_;refine bU hJ [6,7,8,9,10,11,26,27,28,29,30,31,32,33,34,35,36,37,38,39,40,41,42,43,44,45,46,47,48,49,50,51,52,53,54,55,56,57,58,59,60,61,62,63,64,65] (fun m V F'=>∃(B:Addr->Option Value) (d71:Option Addr) (S:Nat) (w:List (Nat×Obj)) (I:(List (List Int))) (T:Int),bn (wK u0 b gV) m (I,T)=some g1/\F'=⟨B,(s,bl b.1 c d f q)::(o,bk u0 s1 i j (sl d24 u0.told k))::w⟩/\Ext ca B/\aO (rL rI) B 35 (.slice d71 I.length S) I w/\I.length<=S/\slot V 6= .slice d71 I.length S/\slot V 26= .int .i64 T) fu ?_ ?_
 ·refine ⟨ca,none,0,[],([]:List (List Int)),0,ae,rfl,Ext.refl _,aO.nil _ _ _,Nat.le_refl _,?_⟩;simp only[*,go_sem]
 rintro al g3 F' cf ⟨B,d71,S,w,I,T,ae,rfl,W,U,g4,ha,hc⟩;refine fZ hJ fun _ a8=>?_;replace P:=P.mono W;replace K:=K.mono W;replace Q:=a8.hd;replace L:=a8.tl.hd;simp only[bu] at a8;obtain ⟨cl,cu,cy⟩:=cf.pick [1,2,3,4,25] (by decide);simp only[*,go_sem] at cl cu cy;clear cf fx hd gg;obtain _|al:=al
 ·exact absurd ae (by simp only[bn,reduceCtorEq,not_false_eq_true])
 revert ae;refine bS fun nb h ao=>?_;unfold wK at h;try dsimp only at h
 refine af hJ ?_;refine aA hJ fun nd=>?_;refine aj hJ ?_;simp only[*,go_sem];refine af hJ ?_;revert h;refine jC hJ (by simp only[*,go_sem]) (fun hf h=>?_) fun hf h=>?_
 ·refine aI hJ (af hJ ?_);refine aQ hJ (af hJ ?_);refine aA hJ fun nf=>?_;refine aj hJ ?_;simp only[*,go_sem];refine af hJ ?_;refine aA hJ fun nm=>?_;refine aj hJ ?_;simp only[*,go_sem];refine af hJ ?_;refine aA hJ fun hg=>?_;refine aj hJ ?_;simp only[*,go_sem];refine ax fun z hh cS=>?_;have nn:=aP.cons cS hg;try simp only[au] at cS
  try simp only[*,go_sem]
  refine af hJ ?_;refine aA hJ fun np=>?_;refine aj hJ ?_;simp only[*,go_sem];refine af hJ (af hJ ?_);refine aA hJ fun ns=>?_;refine aj hJ ?_;simp only[*,go_sem];refine aQ hJ ?_;revert h;refine bS fun hi R hj=>?_;refine bU hJ [8,10,11,35,36,37,38,39,40,41,42,43,44,45,46,47,48,49,50,51,52,53,54,55,56,57] (fun m V F'=>∃(i109:Nat) (d96:Option Addr) (M:Nat) (X:List (Nat×Obj)) (d103:Option Addr) (u:Nat) (C:List (Nat×Obj)) (D:(List Int)) (g:(List bO)),m=u0.told.length - i109/\i109<=u0.told.length/\bF (wJ T) i109 (u0.told.drop i109) (D,g)=some hi/\F'=⟨B,(z,bl b.1 c d f (sl d103 g u))::(s,bl b.1 c d f q)::(o,bk u0 s1 i j (sl d24 u0.told k))::(X++(C++w))⟩/\aO rI B 3 (.slice d96 D.length M) D X/\D.length<=M/\aO dc B 76 (.slice d103 g.length u) g C/\g.length<=u/\slot V 35= .int .i64 (i109:Int)/\slot V 8= .slice d96 D.length M) u0.told.length ?_ ?_
  ·refine ⟨0,none,0,[],none,0,[],([]:List Int),([]:List bO),(Nat.sub_zero _).symm,Nat.zero_le _,R,rfl,aO.nil _ _ _,Nat.le_refl _,aO.nil _ _ _,Nat.le_refl _,?_⟩;simp only[*,go_sem]
  rintro nx hk F' a9 ⟨i109,d96,M,X,d103,u,C,D,g,rfl,nz,R,rfl,Y,hl,N,hn,nA,nH⟩;obtain ⟨ho,hp,hq⟩:=a9.pick [1,2,3,4,6,7,9,25,26,27,28,29,30,31,32,33,34] (by decide);simp only[*,go_sem] at ho hp hq;have nI:cG [6,7,8,9,10,11,26,27,28,29,30,31,32,33,34,35,36,37,38,39,40,41,42,43,44,45,46,47,48,49,50,51,52,53,54,55,56,57,58,59,60,61,62,63,64,65] hk g3:=(a9.fX (by decide)).trans (by simp only[*,go_sem]);clear a9 cl cu cy ha hc;refine ah hJ ?_;simp only[*,go_sem];refine af hJ ?_;rcases Nat.lt_or_ge i109 u0.told.length with hr|c0
  ·refine bP hJ (by simp only[*,go_sem]) ?_;refine aI hJ ?_;obtain ⟨a,ba⟩:∃x,u0.told[i109]?=some x:=⟨_,List.getElem?_eq_getElem hr⟩
   rw[c8 ba] at R;revert R;refine bS fun nK h ar=>?_;unfold wJ at h;(try dsimp only at h);obtain ⟨E,ht,hv,hx,bb⟩:=K.t.el _ _ ba;obtain rfl:ht=a.cells:=hx;cases hv;have hy:=bb 0 _ rfl;simp only[go_sem] at hy;have hz:=bb 1 _ rfl;simp only[go_sem] at hz;clear bb ba;refine af hJ (aQ hJ (af hJ ?_));refine aA hJ fun hA=>?_;refine aj hJ ?_;simp only[*,go_sem];refine ax fun F nQ da=>?_;have nR:=aP.cons da hA;try simp only[au] at da
   (try simp only[*,go_sem]);refine af hJ ?_;refine aA hJ fun nT=>?_;refine aj hJ ?_;revert h;refine bS fun nV db h=>?_;obtain ⟨nX,hB⟩:=Ei db;clear db;(try simp only[go_sem] at hB);(try simp only[*,go_sem]);revert h;refine jC hJ (by simp only[*,go_sem]) (fun hD h=>?_) fun hD h=>?_
   ·refine aA hJ fun dd=>?_;refine eF hJ mixed [13] (.pure 0 (.pure 1 (.pure 4 (.pure 5 (.rd 6 (.rd 7 (.two 2 (.two 3 (.one 8 (.one 9 (.pure 10 (.pure 11 (.pure 12 (.last 13 .done)))))) 8 (.one 3 (.one 9 (.pure 10 (.pure 11 (.pure 12 (.last 13 .done))))))) 8 (.one 2 (.one 3 (.one 9 (.pure 10 (.pure 11 (.pure 12 (.last 13 .done)))))))))))))) ⟨B,[(F,.cells #[.int .i64 a.aW,.bool a.bw] 76),(z,bl b.1 c d f (sl d103 g u)),(s,bl b.1 c d f q),(o,bk u0 s1 i j (sl (some E) u0.told k))]⟩ (by simp only[*,go_sem]) (by kernel_rfl) ?_;simp only[*,go_sem];refine j4 ?_ ?_
    ·simp only[*,go_sem];refine ax fun O df dk=>?_;have dp:=aP.cons dk dd;try simp only[au] at dk
     (try simp only[*,go_sem]);refine j4 ?_ ?_
     ·revert h;refine bS fun hE hF h=>?_;obtain ⟨hG,dq⟩:=dr hF;simp only[*,go_sem];refine dY (r:=rI) (l:=D) (x:=(i109:Int)) (cs:=#[.int .i64 (i109:Int)]) (e2:=3) [(O,ic (i109:Int)),(F,.cells #[.int .i64 a.aW,.bool a.bw] 76),(z,bl b.1 c d f (sl d103 g u)),(s,bl b.1 c d f q),(o,bk u0 s1 i j (sl (some E) u0.told k))] (C++w) Y dp hG rfl (by simp only[*,go_sem]) df rfl rfl fN fN kU kW rfl kV (by decide) (by decide) (fun nY a0 bc G H hI=>?_);simp only[aV] at H;subst G;rw[<-dq] at bc;clear dq;obtain ⟨d197,hK,rfl,hL⟩:=bc.len;refine ⟨⟨B,(O,ic (i109:Int))::(F,.cells #[.int .i64 a.aW,.bool a.bw] 76)::(z,bl b.1 c d f (sl d103 g u))::(s,bl b.1 c d f q)::(o,bk u0 s1 i j (sl (some E) u0.told k))::(a0++(C++w))⟩,Le.refl _,?_⟩;refine ⟨by simp only[*,go_sem],bX ?_⟩;revert h;refine bS fun hM hN h=>?_;obtain rfl:=sI h;obtain ⟨hP,ds⟩:=dr hN;(try simp only[*,go_sem]);refine ax fun dt hQ du=>?_;have hR:=aP.cons du hI;try simp only[au] at du
      (try simp only[*,go_sem]);refine dY (r:=dc) (l:=g) (x:=a) (cs:=#[.int .i64 a.aW,.bool a.bw]) (e2:=76) ((dt,.cells #[.int .i64 a.aW,.bool a.bw] 76)::(O,ic (i109:Int))::(F,.cells #[.int .i64 a.aW,.bool a.bw] 76)::(z,bl b.1 c d f (sl d103 g u))::(s,bl b.1 c d f q)::(o,bk u0 s1 i j (sl (some E) u0.told k))::a0) w N hR hP rfl (by simp only[*,go_sem]) hQ rfl rfl ek ek hU ie rfl ia (by decide) (by decide) (fun n0 dv bd G H n1=>?_);simp only[aV] at H;subst G;rw[<-ds] at bd;clear ds;obtain ⟨d208,hS,rfl,hT⟩:=bd.len;refine ⟨⟨B,(dt,.cells #[.int .i64 a.aW,.bool a.bw] 76)::(O,ic (i109:Int))::(F,.cells #[.int .i64 a.aW,.bool a.bw] 76)::(z,bl b.1 c d f (sl d103 g u))::(s,bl b.1 c d f q)::(o,bk u0 s1 i j (sl (some E) u0.told k))::(a0++(dv++w))⟩,Le.refl _,?_⟩;refine ⟨by simp only[*,go_sem],bX ?_⟩;(try simp only[*,go_sem]);have bj:=cn (n:=i109) (by have:=ab;omega);refine aj hJ ?_;simp only[*,go_sem];refine ⟨u0.told.length - (i109+1),by omega,_,Le.sub (List.Sublist.cons _ (List.Sublist.cons _ (List.Sublist.cons _ (List.Sublist.refl _)))),i109+1,d197,hK,a0,d208,hS,dv,hE,hM,rfl,by omega,ar,rfl,bc,hL,bd,hT,?_⟩;simp only[*,go_sem]
     revert h;refine bS fun hV hX h=>?_;obtain ⟨hY,dC⟩:=dr hX;simp only[*,go_sem];refine ax fun a2 hZ dE=>?_;have h0:=aP.cons dE dp;try simp only[au] at dE
     (try simp only[*,go_sem]);refine dY (r:=rI) (l:=D) (x:=(i109:Int)) (cs:=#[.int .i64 (i109:Int)]) (e2:=3) [(a2,.cells #[.int .i64 a.aW,.bool a.bw] 76),(O,ic (i109:Int)),(F,.cells #[.int .i64 a.aW,.bool a.bw] 76),(z,bl b.1 c d f (sl d103 g u)),(s,bl b.1 c d f q),(o,bk u0 s1 i j (sl (some E) u0.told k))] (C++w) Y h0 hY rfl (by simp only[*,go_sem]) df rfl rfl fN fN kU kW rfl kV (by decide) (by decide) (fun n2 a3 bm G H h1=>?_);simp only[aV] at H;subst G;rw[<-dC] at bm;clear dC;obtain ⟨d219,h2,rfl,h3⟩:=bm.len;refine ⟨⟨B,(a2,.cells #[.int .i64 a.aW,.bool a.bw] 76)::(O,ic (i109:Int))::(F,.cells #[.int .i64 a.aW,.bool a.bw] 76)::(z,bl b.1 c d f (sl d103 g u))::(s,bl b.1 c d f q)::(o,bk u0 s1 i j (sl (some E) u0.told k))::(a3++(C++w))⟩,Le.refl _,?_⟩;refine ⟨by simp only[*,go_sem],bX ?_⟩;revert h;refine bS fun h4 h5 h=>?_;obtain rfl:=sI h;obtain ⟨h6,dT⟩:=dr h5;(try simp only[*,go_sem]);refine dY (r:=dc) (l:=g) (x:=a) (cs:=#[.int .i64 a.aW,.bool a.bw]) (e2:=76) ((a2,.cells #[.int .i64 a.aW,.bool a.bw] 76)::(O,ic (i109:Int))::(F,.cells #[.int .i64 a.aW,.bool a.bw] 76)::(z,bl b.1 c d f (sl d103 g u))::(s,bl b.1 c d f q)::(o,bk u0 s1 i j (sl (some E) u0.told k))::a3) w N h1 h6 rfl (by simp only[*,go_sem]) hZ rfl rfl ek ek hU ie rfl ia (by decide) (by decide) (fun n3 ea bo G H oi=>?_);simp only[aV] at H;subst G;rw[<-dT] at bo;clear dT;obtain ⟨d228,h7,rfl,h8⟩:=bo.len;refine ⟨⟨B,(a2,.cells #[.int .i64 a.aW,.bool a.bw] 76)::(O,ic (i109:Int))::(F,.cells #[.int .i64 a.aW,.bool a.bw] 76)::(z,bl b.1 c d f (sl d103 g u))::(s,bl b.1 c d f q)::(o,bk u0 s1 i j (sl (some E) u0.told k))::(a3++(ea++w))⟩,Le.refl _,?_⟩;refine ⟨by simp only[*,go_sem],bX ?_⟩;(try simp only[*,go_sem]);have bj:=cn (n:=i109) (by have:=ab;omega);refine aj hJ ?_;simp only[*,go_sem];refine ⟨u0.told.length - (i109+1),by omega,_,Le.sub (List.Sublist.cons _ (List.Sublist.cons _ (List.Sublist.cons _ (List.Sublist.refl _)))),i109+1,d219,h2,a3,d228,h7,ea,hV,h4,rfl,by omega,ar,rfl,bm,h3,bo,h8,?_⟩;simp only[*,go_sem]
    revert h;refine bS fun h9 ib h=>?_;obtain ⟨ih,eb⟩:=dr ib;simp only[*,go_sem];refine ax fun a4 ik ec=>?_;have il:=aP.cons ec dd;try simp only[au] at ec
    (try simp only[*,go_sem]);refine ax fun a5 im ed=>?_;have iv:=aP.cons ed il;try simp only[au] at ed
    (try simp only[*,go_sem]);refine dY (r:=rI) (l:=D) (x:=(i109:Int)) (cs:=#[.int .i64 (i109:Int)]) (e2:=3) [(a5,ic (i109:Int)),(a4,.cells #[.int .i64 a.aW,.bool a.bw] 76),(F,.cells #[.int .i64 a.aW,.bool a.bw] 76),(z,bl b.1 c d f (sl d103 g u)),(s,bl b.1 c d f q),(o,bk u0 s1 i j (sl (some E) u0.told k))] (C++w) Y iv ih rfl (by simp only[*,go_sem]) im rfl rfl fN fN kU kW rfl kV (by decide) (by decide) (fun oj a6 br G H ix=>?_);simp only[aV] at H;subst G;rw[<-eb] at br;clear eb;obtain ⟨j1,j2,rfl,kh⟩:=br.len;refine ⟨⟨B,(a5,ic (i109:Int))::(a4,.cells #[.int .i64 a.aW,.bool a.bw] 76)::(F,.cells #[.int .i64 a.aW,.bool a.bw] 76)::(z,bl b.1 c d f (sl d103 g u))::(s,bl b.1 c d f q)::(o,bk u0 s1 i j (sl (some E) u0.told k))::(a6++(C++w))⟩,Le.refl _,?_⟩;refine ⟨by simp only[*,go_sem],bX ?_⟩;revert h;refine bS fun kj kk h=>?_;obtain rfl:=sI h;obtain ⟨kl,eh⟩:=dr kk;(try simp only[*,go_sem]);refine dY (r:=dc) (l:=g) (x:=a) (cs:=#[.int .i64 a.aW,.bool a.bw]) (e2:=76) ((a5,ic (i109:Int))::(a4,.cells #[.int .i64 a.aW,.bool a.bw] 76)::(F,.cells #[.int .i64 a.aW,.bool a.bw] 76)::(z,bl b.1 c d f (sl d103 g u))::(s,bl b.1 c d f q)::(o,bk u0 s1 i j (sl (some E) u0.told k))::a6) w N ix kl rfl (by simp only[*,go_sem]) ik rfl rfl ek ek hU ie rfl ia (by decide) (by decide) (fun ox et bs G H oy=>?_);simp only[aV] at H;subst G;rw[<-eh] at bs;clear eh;obtain ⟨km,kn,rfl,kp⟩:=bs.len;refine ⟨⟨B,(a5,ic (i109:Int))::(a4,.cells #[.int .i64 a.aW,.bool a.bw] 76)::(F,.cells #[.int .i64 a.aW,.bool a.bw] 76)::(z,bl b.1 c d f (sl d103 g u))::(s,bl b.1 c d f q)::(o,bk u0 s1 i j (sl (some E) u0.told k))::(a6++(et++w))⟩,Le.refl _,?_⟩;refine ⟨by simp only[*,go_sem],bX ?_⟩;(try simp only[*,go_sem]);have bj:=cn (n:=i109) (by have:=ab;omega);refine aj hJ ?_;simp only[*,go_sem];refine ⟨u0.told.length - (i109+1),by omega,_,Le.sub (List.Sublist.cons _ (List.Sublist.cons _ (List.Sublist.cons _ (List.Sublist.refl _)))),i109+1,j1,j2,a6,km,kn,et,h9,kj,rfl,by omega,ar,rfl,br,kh,bs,kp,?_⟩;simp only[*,go_sem]
   obtain rfl:=sI h;refine aI hJ ?_;have bj:=cn (n:=i109) (by have:=ab;omega);refine aj hJ ?_;simp only[*,go_sem];refine ⟨u0.told.length - (i109+1),by omega,_,Le.sub (List.Sublist.cons _ (List.Sublist.refl _)),i109+1,d96,M,X,d103,u,C,D,g,rfl,by omega,ar,rfl,Y,hl,N,hn,?_⟩;simp only[*,go_sem]
  have o0:=Nat.not_lt.2 c0;refine bL hJ (by simp only[*,go_sem]) ?_;rw[List.drop_eq_nil_of_le c0] at R;obtain rfl:=sI R;clear R;have h:=hj;dsimp only[aG] at h;refine bN ?_;simp only[go_sem];refine af hJ ?_;refine aA hJ fun ks=>?_;refine aj hJ ?_;revert h;refine bS fun o1 kt h=>?_;simp only[*,go_sem];refine bg hJ _ (AB (⟨b.1.bE,b.1.bI,b.1.aN,b.1.ay,b.1.props,b.1.aE,g⟩:ak) ⟨(P.e.mono aR),(P.p.mono aR),(P.y.mono aR),(N.An ((z,bl b.1 c d f (sl d103 g u))::(s,bl b.1 c d f q)::(o,bk u0 s1 i j (sl d24 u0.told k))::X) w (by first|rfl|simp only[aV]|(simp only[aV];rfl)) ks)⟩ kt) (aJ ?_);try simp only[*,go_sem]
  revert h;refine jC hJ (by simp only[*,go_sem]) (fun kv h=>?_) fun kv h=>?_
  ·refine aA hJ fun eu=>?_;obtain ⟨ev,bz,Z,eQ,kx⟩:=Y.k3 ((z,bl b.1 c d f (sl d103 g u))::(s,bl b.1 c d f q)::(o,bk u0 s1 i j (sl d24 u0.told k))::(C++w)) [(z,bl b.1 c d f (sl d103 g u)),(s,bl b.1 c d f q),(o,bk u0 s1 i j (sl d24 u0.told k))] (C++w) (by first|rfl|simp only[aV]|(simp only[aV];rfl)) (by first|rfl|simp only[aV]|(simp only[aV];rfl)) eu (aD.cons hh (aD.cons Q (aD.cons L (aD.app N.jw (U.jw)))));clear eu;refine cF hJ kx ?_;obtain ⟨o2,o4,-⟩:=eQ.op;replace Q:=Z.tl.hd;replace L:=Z.tl.tl.hd;replace N:=N.mono bz Z.tl.tl.tl.l;replace U:=U.mono bz Z.tl.tl.tl.r;simp only[bu] at Z;refine aA hJ fun ky=>?_;refine aj hJ ?_;revert h;refine bS fun k0 k2 h=>?_;obtain rfl:=sI h;obtain ⟨lb,eS⟩:=dr k2;simp only[*,go_sem];refine ax fun e0 lh e1=>?_;have lj:=aP.cons e1 ky;try simp only[au] at e1
   (try simp only[*,go_sem]);refine dY (r:=(rL rI)) (l:=I) (x:=D) (cs:=#[.slice d96 D.length M]) (e2:=35) ((e0,.cells #[.slice d96 D.length M] 35)::(z,bl b.1 c d f (sl d103 g u))::(s,bl b.1 c d f q)::(o,bk u0 s1 i j (sl d24 u0.told k))::C) [] U lj lb ⟨_,rfl,eQ⟩ (by simp only[*,go_sem]) lh rfl rfl kY kY q5 q7 rfl q6 (by decide) (by decide) (fun pa e3 b0 G H pb=>?_);simp only[aV] at H;subst G;rw[<-eS] at b0;clear eS;obtain ⟨lk,ll,rfl,ln⟩:=b0.len;refine ⟨⟨ev,(e0,.cells #[.slice d96 D.length M] 35)::(z,bl b.1 c d f (sl d103 g u))::(s,bl b.1 c d f q)::(o,bk u0 s1 i j (sl d24 u0.told k))::(C++e3)⟩,Le.refl _,?_⟩;refine aJ ?_;(try simp only[*,go_sem]);refine aA hJ fun pd=>?_;refine aj hJ ?_;simp only[*,go_sem];refine ⟨al,Nat.lt_succ_self _,_,Le.sub (List.Sublist.cons _ (List.Sublist.cons _ (List.Sublist.cons₂ _ (List.Sublist.cons₂ _ ((List.Sublist.refl _).trans (List.sublist_append_right _ _)))))),ev,lk,ll,e3,k0,(IntKind.i64.wrap (T+1)),ao,rfl,(W.trans bz),b0,ln,?_⟩;simp only[*,go_sem]
  obtain rfl:=sI h;refine aI hJ ?_;refine aA hJ fun pf=>?_;refine aj hJ ?_;simp only[*,go_sem];refine ⟨al,Nat.lt_succ_self _,_,Le.sub (List.Sublist.cons _ (List.Sublist.cons₂ _ (List.Sublist.cons₂ _ (((List.Sublist.refl _).trans (List.sublist_append_right _ _)).trans (List.sublist_append_right _ _))))),B,d71,S,w,I,(IntKind.i64.wrap (T+1)),ao,rfl,W,U,g4,?_⟩;simp only[*,go_sem]
 obtain rfl:=sI h;refine bN ?_;simp only[go_sem];obtain rfl:=sI ao;clear ao;have h:=g2;dsimp only[aG] at h;refine af hJ ?_;refine aA hJ fun fa=>?_;obtain ⟨ph,lo,b1,b2,lr⟩:=U.k3 ((s,bl b.1 c d f q)::(o,bk u0 s1 i j (sl d24 u0.told k))::[]) [(s,bl b.1 c d f q),(o,bk u0 s1 i j (sl d24 u0.told k))] [] (by first|rfl|simp only[aV]|(simp only[aV];rfl)) (by first|rfl|simp only[aV]|(simp only[aV];rfl)) fa (aD.cons Q (aD.cons L (aD.nil _)));clear fa;refine cF hJ lr ?_;obtain ⟨pj,pk,-⟩:=b2.op;replace Q:=b1.hd;replace L:=b1.tl.hd;simp only[bu] at b1;refine cR hJ mixed 5 2 (by simp only[*,go_sem]) (by kernel_rfl) ?_;revert h;refine bS fun lv lx h=>?_;obtain ⟨po,pr,fb⟩:=c5 lx;obtain ⟨ps,pt,ly,lL,fg⟩:=b2.el _ _ fb;obtain ⟨pv,rfl,fi⟩:=lL;obtain ⟨pw,px,rfl,py,pA,pB⟩:=id fi;cases ly;have l1:=fg 0 _ rfl;simp only[go_sem] at l1;clear fg fb;revert h;refine bS fun l2 l3 h=>?_;obtain ⟨pC,pD,pL,fo⟩:=oY l3;have fp:(1:Int).toNat<=((I.length:Int)).toNat:=by omega
 have l4:((I.length:Int)).toNat<=S:=by omega
 have pT:0<=((I.length:Int)):=by omega
 obtain ⟨p0,ma,mf,fr⟩:=aB.o5 b2 (1:Int).toNat ((I.length:Int)).toNat fp (by omega) fo;simp only[go_sem] at ma mf fp l4;obtain ⟨_,_,mi,p1,q0,q1⟩:=id fr;cases mi;clear fo;revert h;refine bS fun ra ml h=>?_;obtain rfl:=sI h;try simp only[*,go_sem]
 refine b8 hJ _ (FV (dK:=105) (dZ:=#[]) (ee:=#[]) sB ⟨by simp only[go_sem],fun rb re mn _ mr _ _ mx my h=>by simp only[go_sem];exact GK mn mx mr my h⟩ lv fi l2 fr ml) fun v rh fs b3 a7=>?_;obtain ⟨rk,rfl,ft⟩:=a7;replace Q:=b3.hd;replace L:=b3.tl.hd;simp only[bu] at b3;obtain ⟨rl,rn,rfl,rp,rr,-⟩:=id ft;have rv:=eM (l:=[(s,bl b.1 c d f q),(o,bk u0 s1 i j (sl d24 u0.told k))]) fs (aD.cons Q (aD.cons L (aD.nil _)));refine ⟨by simp only[*,go_sem],?_⟩;refine jT ?_;try simp only[*,go_sem]
 refine az ?_;simp only[*,go_sem];exact ⟨_,(((ad).trans W).trans lo).trans fs,Le.sub (List.nil_sublist _),_,rfl,ft⟩
def nN (a:(cL×Int))(i93:Nat)(b:aU)(st:(List bt)):Option (Fl (List bt) (an×an×Bool×Int)):=
 ag (jz a.1.book b) fun c=>ag (c6 st ([c])) fun d=>some (.nx d)
def jG (u0:ak):Option (an×an×Bool×Int):=
 ag (gz u0 ([]:(List (ak->Option Int)))) fun a=>cond ((a.2 != 0)) (some ((⟨0,0⟩:an),(⟨0,0⟩:an),false,a.2)) (ag (nM a.1) fun g=>ag (bF (nN a) 0 g ([]:List bt)) fun o=>aG o (fun b=>ag (bp b 0) fun c=>ag (g9 b 1 (b.length:Int)) fun d=>ag (iZ gb c d) fun h=>ag (iZ mg c d) fun i=>ag (iY h.high u0.aN) fun e=>ag (iX i.high u0.aN) fun f=>ag (ew f e) fun j=>cond (j) (some ((⟨0,0⟩:an),(⟨0,0⟩:an),false,0)) (some (e,f,true,0))) (fun _ _=>none) (fun r=>some r))
theorem AO {ro:Addr->Option Value}(bl:de ro)(u0:ak){s1 f g i:Value}(ab:bJ ro u0 s1 f g i){r:(an×an×Bool×Int)}(h:jG u0=some r):aC Tryz.prog 31 #[bv u0 s1 f g i] ⟨ro,[]⟩ (fun v _=>v= .tuple #[r.1.v,r.2.1.v,.bool r.2.2.1,.int .i64 r.2.2.2]):=by
 unfold jG at h;have bm:=ab.oc;simp only[bH] at bm;refine aC.go Tryz.func31 rfl Tryz.ntmps31 Tryz.results31 (by simp) fun main J hJ A bo hd hs=>?_;have br:=hs 0;clear hs;refine ah hJ ?_;simp only[*,go_sem];refine ax fun j L bs=>?_;try simp only[au] at bs
 refine ax fun z M bz=>?_;try simp only[au] at bz
 refine ax fun B N b0=>?_;try simp only[au] at b0
 try simp only[*,go_sem]
 refine ah hJ ?_;revert h;refine bS fun d b1 h=>?_;simp only[*,go_sem];refine b8 hJ _ (jD bl u0 ab ([]:(List (ak->Option Int))) (aB.nil _ _) b1) fun v gT gV I O=>?_;obtain ⟨k,o,p,q,s,rfl,D,ad⟩:=O;have b2:=D.oc;simp only[bH] at b2;have b3:=ad.oc;simp only[bH] at b3;replace N:=I.hd;replace M:=I.tl.hd;replace L:=I.tl.tl.hd;simp only[bu] at I;refine aJ ?_;try simp only[*,go_sem]
 refine ax fun t ae b4=>?_;try simp only[au] at b4
 try simp only[*,go_sem]
 refine af hJ (ah hJ ?_);simp only[*,go_sem];revert h;refine jC hJ (by simp only[*,go_sem]) (fun b5 h=>?_) fun b5 h=>?_
 ·obtain rfl:=sI h;refine ah hJ ?_;simp only[*,go_sem];refine az ?_;simp only[*,go_sem]
 refine aI hJ (af hJ ?_);refine aj hJ ?_;simp only[*,go_sem];refine af hJ (ah hJ ?_);revert h;refine bS fun u ca h=>?_;simp only[*,go_sem];refine b8 hJ _ (AM d.1 D ad ca) fun v P cb E O=>?_;obtain ⟨g0,rfl,al⟩:=O;replace D:=D.mono cb;replace ae:=E.hd;replace N:=E.tl.hd;replace M:=E.tl.tl.hd;replace L:=E.tl.tl.tl.hd;simp only[bu] at E;obtain ⟨d81,g1,rfl,g2,cd,-⟩:=id al;refine aJ ?_;try simp only[*,go_sem]
 refine aQ hJ ?_;revert h;refine bS fun cf w cl=>?_;refine bU hJ [7,9,25,26,27,28,29,30,31,32,33,34,35,36] (fun m ao F'=>∃(i93:Nat) (d87:Option Addr) (G:Nat) (Q:List (Nat×Obj)) (e:(List bt)),m=u.length - i93/\i93<=u.length/\bF (nN d) i93 (u.drop i93) e=some cf/\F'=⟨P,(t,kn d.1 k o p q s)::(B,rt 0 0)::(z,rt 0 0)::(j,bk u0 s1 f g i)::Q⟩/\aO j6 P 147 (.slice d87 e.length G) e Q/\e.length<=G/\slot ao 25= .int .i64 (i93:Int)/\slot ao 7= .slice d87 e.length G) u.length ?_ ?_
 ·refine ⟨0,none,0,[],([]:List bt),(Nat.sub_zero _).symm,Nat.zero_le _,w,rfl,aO.nil _ _ _,Nat.le_refl _,?_⟩;simp only[*,go_sem]
 rintro g3 g4 F' ar ⟨i93,d87,G,Q,e,rfl,ha,w,rfl,a0,hc,hf,hg⟩;obtain ⟨cu,cy,cS⟩:=ar.pick [1,2,3,4,5,6,23,24] (by decide);simp only[*,go_sem] at cu cy cS;clear ar bo hd br;refine ah hJ ?_;simp only[*,go_sem];refine af hJ ?_;rcases Nat.lt_or_ge i93 u.length with c0|a2
 ·refine bP hJ (by simp only[*,go_sem]) ?_;refine aI hJ ?_;obtain ⟨C,R⟩:∃x,u[i93]?=some x:=⟨_,List.getElem?_eq_getElem c0⟩
  rw[c8 R] at w;revert w;refine bS fun hh h da=>?_;unfold nN at h;try dsimp only at h
  obtain ⟨hi,db,dd,df,S⟩:=al.el _ _ R;obtain rfl:db=C.cells:=df;cases dd;have dk:=S 0 _ rfl;simp only[go_sem] at dk;have dp:=S 1 _ rfl;simp only[go_sem] at dp;clear S R;refine af hJ (aQ hJ (af hJ ?_));refine aA hJ fun dq=>?_;refine aj hJ ?_;simp only[*,go_sem];refine ax fun a3 hj a4=>?_;have hk:=aP.cons a4 dq;try simp only[au] at a4
  try simp only[*,go_sem]
  refine aA hJ fun ds=>?_;refine aj hJ ?_;revert h;refine bS fun a dt h=>?_;simp only[*,go_sem];refine bg hJ _ (rQ d.1.book (D.mono aR) C dt) (aJ ?_);revert h;refine bS fun du dv h=>?_;obtain rfl:=sI h;obtain ⟨dC,a5⟩:=dr dv;try simp only[*,go_sem]
  refine ax fun a6 dE a7=>?_;have dT:=aP.cons a7 ds;try simp only[au] at a7
  try simp only[*,go_sem]
  refine dY (r:=j6) (l:=e) (x:=a) (cs:=#[.int .i64 a.spot.aL,.int .i64 a.spot.high.num,.int .i64 a.spot.high.den,.int .i64 a.at_,.int .i64 a.high.num,.int .i64 a.high.den]) (e2:=147) [(a6,.cells #[.int .i64 a.spot.aL,.int .i64 a.spot.high.num,.int .i64 a.spot.high.den,.int .i64 a.at_,.int .i64 a.high.num,.int .i64 a.high.den] 147),(a3,.cells #[.int .i64 C.back,.int .i64 C.high] 134),(t,kn d.1 k o p q s),(B,rt 0 0),(z,rt 0 0),(j,bk u0 s1 f g i)] [] a0 dT dC rfl (by simp only[*,go_sem]) dE rfl rfl ng ng uX uZ rfl uY (by decide) (by decide) (fun hl a8 T ea eb hn=>?_);simp only[aV] at eb;subst ea;rw[<-a5] at T;clear a5;obtain ⟨d115,ec,rfl,ed⟩:=T.len;refine ⟨⟨P,(a6,.cells #[.int .i64 a.spot.aL,.int .i64 a.spot.high.num,.int .i64 a.spot.high.den,.int .i64 a.at_,.int .i64 a.high.num,.int .i64 a.high.den] 147)::(a3,.cells #[.int .i64 C.back,.int .i64 C.high] 134)::(t,kn d.1 k o p q s)::(B,rt 0 0)::(z,rt 0 0)::(j,bk u0 s1 f g i)::a8⟩,Le.refl _,?_⟩;refine aJ ?_;try simp only[*,go_sem]
  have ho:=cn (n:=i93) (by have:=cd;omega);refine aj hJ ?_;simp only[*,go_sem];refine ⟨u.length - (i93+1),by omega,_,Le.sub (List.Sublist.cons _ (List.Sublist.cons _ (List.Sublist.refl _))),i93+1,d115,ec,a8,du,rfl,by omega,da,rfl,T,ed,?_⟩;simp only[*,go_sem]
 have hp:=Nat.not_lt.2 a2;refine bL hJ (by simp only[*,go_sem]) ?_;rw[List.drop_eq_nil_of_le a2] at w;obtain rfl:=sI w;clear w;have h:=cl;dsimp only[aG] at h;refine bN ?_;simp only[go_sem];refine af hJ ?_;refine aA hJ fun a9=>?_;obtain ⟨K,hq,eh,U,et⟩:=a0.eU [(t,kn d.1 k o p q s),(B,rt 0 0),(z,rt 0 0),(j,bk u0 s1 f g i)] [] a9 (aD.cons ae (aD.cons N (aD.cons M (aD.cons L (aD.nil _)))));clear a9;refine cF hJ et ?_;obtain ⟨hr,ht,-⟩:=U.op;simp only[bu] at eh;refine e9 hJ mixed 6 ⟨K,[(t,kn d.1 k o p q s),(B,rt 0 0),(z,rt 0 0),(j,bk u0 s1 f g i)]⟩ (by simp only[*,go_sem]) (by kernel_rfl) ?_;revert h;refine bS fun V eu h=>?_;obtain ⟨hv,hx,ba⟩:=c5 eu;obtain ⟨hy,ev,eQ,eS,y⟩:=U.el _ _ ba;obtain rfl:ev=V.cells:=eS;cases eQ;have e0:=y 0 _ rfl;simp only[go_sem] at e0;have e1:=y 1 _ rfl;simp only[go_sem] at e1;have e3:=y 2 _ rfl;simp only[go_sem] at e3;have fa:=y 3 _ rfl;simp only[go_sem] at fa;have fb:=y 4 _ rfl;simp only[go_sem] at fb;have fg:=y 5 _ rfl;simp only[go_sem] at fg;clear y ba;revert h;refine bS fun bb fi h=>?_;obtain ⟨hz,hA,hB,bc⟩:=oY fi;have bd:(1:Int).toNat<=((e.length:Int)).toNat:=by omega
 have fo:((e.length:Int)).toNat<=G:=by omega
 have hD:0<=((e.length:Int)):=by omega
 obtain ⟨d132,fp,fr,W⟩:=aB.o5 U (1:Int).toNat ((e.length:Int)).toNat bd (by omega) bc;simp only[go_sem] at fp fr bd fo;obtain ⟨_,_,fs,hE,hF,hG⟩:=id W;cases fs;clear bc;revert h;refine bS fun b ft h=>?_;try simp only[*,go_sem]
 refine ⟨_,bD hJ fun F H=>rH (dK:=88) (dZ:=#[]) (ee:=#[]) gb ⟨by simp only[go_sem],fun fu fv X Y _ h=>by simp only[go_sem];exact rD X Y h⟩ V bb (W.mono (cg H)) ft,?_⟩;try simp only[*,go_sem]
 refine ax fun Z hI fw=>?_;try simp only[au] at fw
 try simp only[*,go_sem]
 refine af hJ ?_;refine e9 hJ mixed 6 ⟨K,[(Z,.cells #[.int .i64 b.spot.aL,.int .i64 b.spot.high.num,.int .i64 b.spot.high.den,.int .i64 b.at_,.int .i64 b.high.num,.int .i64 b.high.den] 147),(t,kn d.1 k o p q s),(B,rt 0 0),(z,rt 0 0),(j,bk u0 s1 f g i)]⟩ (by simp only[*,go_sem]) (by kernel_rfl) ?_;revert h;refine bS fun c fx h=>?_;simp only[*,go_sem];refine ⟨_,bD hJ fun F H=>rH (dK:=89) (dZ:=#[]) (ee:=#[]) mg ⟨by simp only[go_sem],fun fu fv X Y _ h=>by simp only[go_sem];exact FN X Y h⟩ V bb (W.mono (cg H)) fx,?_⟩;try simp only[*,go_sem]
 refine ax fun bj hK gg=>?_;try simp only[au] at gg
 try simp only[*,go_sem]
 refine af hJ ?_;refine e9 hJ mixed 10 ⟨K,[(bj,.cells #[.int .i64 c.spot.aL,.int .i64 c.spot.high.num,.int .i64 c.spot.high.den,.int .i64 c.at_,.int .i64 c.high.num,.int .i64 c.high.den] 147),(Z,.cells #[.int .i64 b.spot.aL,.int .i64 b.spot.high.num,.int .i64 b.spot.high.den,.int .i64 b.at_,.int .i64 b.high.num,.int .i64 b.high.den] 147),(t,kn d.1 k o p q s),(j,bk u0 s1 f g i)]⟩ (by simp only[*,go_sem]) (by kernel_rfl) ?_;revert h;refine bS fun gl gn h=>?_;simp only[*,go_sem];refine ⟨_,bD hJ fun F H=>pK b.high u0.aN gn,bZ ?_⟩;revert h;refine bS fun gp gB h=>?_;try simp only[*,go_sem]
 refine ⟨_,bD hJ fun F H=>pJ c.high u0.aN gB,?_⟩;try simp only[*,go_sem]
 refine af hJ (ah hJ ?_);revert h;refine bS fun hL gC h=>?_;simp only[*,go_sem];refine bg hJ _ (iW gp gl gC) ?_;try simp only[*,go_sem]
 revert h;refine jC hJ (by simp only[*,go_sem]) (fun gM h=>?_) fun gM h=>?_
 ·obtain rfl:=sI h;refine ah hJ ?_;simp only[*,go_sem];refine az ?_;simp only[*,go_sem]
 refine aI hJ (af hJ ?_);refine eF hJ mixed [] (.two 0 (.two 1 (.one 2 (.one 3 (.pure 4 (.pure 5 .done)))) 2 (.one 1 (.one 3 (.pure 4 (.pure 5 .done))))) 1 (.one 0 (.one 2 (.one 3 (.pure 4 (.pure 5 .done)))))) ⟨K,[(bj,.cells #[.int .i64 c.spot.aL,.int .i64 c.spot.high.num,.int .i64 c.spot.high.den,.int .i64 c.at_,.int .i64 c.high.num,.int .i64 c.high.den] 147),(Z,.cells #[.int .i64 b.spot.aL,.int .i64 b.spot.high.num,.int .i64 b.spot.high.den,.int .i64 b.at_,.int .i64 b.high.num,.int .i64 b.high.den] 147),(t,kn d.1 k o p q s),(j,bk u0 s1 f g i)]⟩ (by simp only[*,go_sem]) (by kernel_rfl) ?_;simp only[*,go_sem];refine j4 ?_ ?_
 ·simp only[*,go_sem];refine j4 ?_ ?_
  ·obtain rfl:=sI h;simp only[*,go_sem];refine az ?_;simp only[*,go_sem]
  obtain rfl:=sI h;simp only[*,go_sem];refine az ?_;simp only[*,go_sem]
 obtain rfl:=sI h;simp only[*,go_sem];refine az ?_;simp only[*,go_sem]
def lq (u0:ak)(b:Int):Option ((List Int)×Int):=
 ag (gz u0 ([(eG b)])) fun a=>cond ((a.2 != 0)) (some (([]:(List Int)),a.2)) (ag (lg a.1 b) fun c=>some (c,0))
theorem wM {ro:Addr->Option Value}(g:de ro)(u0:ak){s1 i j k:Value}(f:bJ ro u0 s1 i j k)(a:Int){r:((List Int)×Int)}(h:lq u0 a=some r):eD Tryz.prog 15 #[bv u0 s1 i j k,.int .i64 a] ro (fun v aM=>∃m,v= .tuple #[m,.int .i64 r.2]/\aB rI aM m r.1):=by
 unfold lq at h;have D:=f.oc;simp only[bH] at D;refine aC.go Tryz.func15 rfl Tryz.ntmps15 Tryz.results15 (by simp) fun main J hJ A Y hd hs=>?_;have Z:=hs 0;have k1:=hs 1;clear hs;refine ah hJ ?_;simp only[*,go_sem];refine ax fun E F G=>?_;try simp only[au] at G
 try simp only[*,go_sem]
 refine af hJ ?_;refine aA hJ fun H=>?_;refine aj hJ ?_;revert h;refine bS fun I K h=>?_;simp only[*,go_sem];refine ax fun c n p=>?_;have q:=aP.cons p H;try simp only[au] at p
 try simp only[*,go_sem]
 obtain ⟨d,s,t⟩:=fP (b:=c) (o:=(.cells #[.func (.func 68) #[.int .i64 a] #[]] 127)) [] ((E,bk u0 s1 i j k)::[]) q n (aD.cons F (aD.nil _));have u:aB (cY) (bR ro c (.cells #[.func (.func 68) #[.int .i64 a] #[]] 127)) (.slice (some ⟨c,0,none⟩) 1 1) [(eG a)]:=(aB.one (r:=(cY)) (e:=127) (cs:=#[.func (.func 68) #[.int .i64 a] #[]]) (x:=(eG a)) (own:=[(c,.cells #[.func (.func 68) #[.int .i64 a] #[]] 127)]) n (by simp[lk]) ⟨68,#[.int .i64 a],#[],rfl,⟨by simp only[go_sem],fun ab ad L _ _ _ _ _ M N O P h=>by simp only[go_sem];exact rG a L ⟨M,N,O,P⟩ h⟩⟩)
 generalize bR ro c (.cells #[.func (.func 68) #[.int .i64 a] #[]] 127)=ae at u s d t;refine gO hJ t ?_;replace f:=f.mono d;replace g:=g.mono d;simp only[bu] at s;have Q:=aP.tl q;refine b8 hJ _ (jD g u0 f ([(eG a)]) u K) fun v al w R l=>?_;obtain ⟨ao,ar,a0,a2,a3,rfl,y,z⟩:=l;have S:=y.oc;simp only[bH] at S;have T:=z.oc;simp only[bH] at T;simp only[bu] at R;refine aJ ?_;try simp only[*,go_sem]
 refine ax fun a4 a5 B=>?_;have a6:=aP.cons B Q;try simp only[au] at B
 try simp only[*,go_sem]
 refine af hJ (ah hJ ?_);simp only[*,go_sem];revert h;refine jC hJ (by simp only[*,go_sem]) (fun U h=>?_) fun U h=>?_
 ·obtain rfl:=sI h;refine ah hJ ?_;simp only[*,go_sem];refine az ?_;simp only[*,go_sem];exact ⟨_,(d).trans w,Le.sub (List.nil_sublist _),_,rfl,aB.nil _ _⟩
 refine aI hJ (af hJ ?_);refine aj hJ ?_;revert h;refine bS fun a7 V h=>?_;obtain rfl:=sI h;simp only[*,go_sem];refine b8 hJ _ (sF I.1 y z a V) fun v a8 W X l=>?_;obtain ⟨a9,rfl,C⟩:=l;simp only[bu] at X;obtain ⟨d89,ba,rfl,bb,bc,-⟩:=id C;refine aJ ?_;try simp only[*,go_sem]
 refine az ?_;simp only[*,go_sem];exact ⟨_,((d).trans w).trans W,Le.sub (List.nil_sublist _),_,rfl,C⟩
def wN (a:(cL×Int))(i80:Nat)(i102:Nat)(c:Int)(st:(Int×an)):Option (Fl (Int×an) (Int×an×Int)):=
 ag (ij a.1.book (i80:Int) c) fun b=>ag (gf a.1.book b) fun d=>cond (d) (ag (kg a.1.book b) fun e=>ag (ew st.2 e) fun f=>cond (f) (ag (kg a.1.book b) fun g=>some (.nx ((i80:Int),g))) (some (.nx (st.1,st.2)))) (some (.nx (st.1,st.2)))
def wO (a:(cL×Int))(i80:Nat)(d:bY)(st:(Int×an)):Option (Fl (Int×an) (Int×an×Int)):=
 ag (lg a.1 (i80:Int)) fun c=>ag (bF (wN a i80) 0 c (st.1,st.2)) fun o=>aG o (fun b=>some (.nx (b.1,b.2))) (fun _ _=>none) (fun r=>some (.rt r))
def sG (u0:ak):Option (Int×an×Int):=
 ag (gz u0 ([]:(List (ak->Option Int)))) fun a=>cond ((a.2 != 0)) (some (0,(⟨0,0⟩:an),a.2)) (ag (ga 0) fun c=>ag (bF (wO a) 0 a.1.book.aE ((-1),c)) fun o=>aG o (fun b=>some (b.1,b.2,0)) (fun _ _=>none) (fun r=>some r))
theorem AP {ro:Addr->Option Value}(ar:de ro)(u0:ak){s1 j k l:Value}(R:bJ ro u0 s1 j k l){r:(Int×an×Int)}(h:sG u0=some r):aC Tryz.prog 26 #[bv u0 s1 j k l] ⟨ro,[]⟩ (fun v _=>v= .tuple #[.int .i64 r.1,r.2.1.v,.int .i64 r.2.2]):=by
 unfold sG at h;have a0:=R.oc;simp only[bH] at a0;refine aC.go Tryz.func26 rfl Tryz.ntmps26 Tryz.results26 (by simp) fun main J hJ A a2 hd hs=>?_;have a3:=hs 0;clear hs;refine ah hJ ?_;simp only[*,go_sem];refine ax fun w et a4=>?_;try simp only[au] at a4
 refine ax fun z eu a5=>?_;try simp only[au] at a5
 try simp only[*,go_sem]
 refine ah hJ ?_;revert h;refine bS fun a a6 h=>?_;simp only[*,go_sem];refine b8 hJ _ (jD ar u0 R ([]:(List (ak->Option Int))) (aB.nil _ _) a6) fun v S ev a7 B=>?_;obtain ⟨C,D,eQ,E,G,rfl,b,p⟩:=B;have a8:=b.oc;simp only[bH] at a8;have a9:=p.oc;simp only[bH] at a9;simp only[bu] at a7;obtain ⟨d52,H,rfl,eS,ba,-⟩:=id b.y;refine aJ ?_;try simp only[*,go_sem]
 refine ax fun I e0 bb=>?_;try simp only[au] at bb
 try simp only[*,go_sem]
 refine af hJ (ah hJ ?_);simp only[*,go_sem];revert h;refine jC hJ (by simp only[*,go_sem]) (fun bc h=>?_) fun bc h=>?_
 ·obtain rfl:=sI h;refine ah hJ ?_;simp only[*,go_sem];refine az ?_;simp only[*,go_sem]
 refine aI hJ (af hJ ?_);refine aj hJ ?_;revert h;refine bS fun bd bj h=>?_;simp only[*,go_sem];refine bg hJ _ (jy 0 bj) (aJ ?_);try simp only[*,go_sem]
 refine af hJ (ah hJ ?_);simp only[*,go_sem];refine aQ hJ ?_;revert h;refine bS fun bl e bm=>?_;refine bU hJ [2,6,8,9,25,26,27,28,29,30,31,32,33,34,35,36,37,38,39,40,41,42,43,44,45,46,47,48,49,50,51,52,53,54,55,56,57,58,59] (fun m o F'=>∃(i80:Nat) (q:Addr->Option Value) (s:Int) (f:an),m=a.1.book.aE.length - i80/\i80<=a.1.book.aE.length/\bF (wO a) i80 (a.1.book.aE.drop i80) (s,f)=some bl/\F'=⟨q,(I,kn a.1 C D (sl d52 a.1.book.aE H) E G)::(z,rt f.num f.den)::(w,bk u0 s1 j k l)::[]⟩/\Ext S q/\slot o 25= .int .i64 (i80:Int)/\slot o 2= .int .i64 s) a.1.book.aE.length ?_ ?_
 ·refine ⟨0,S,(-1),bd,(Nat.sub_zero _).symm,Nat.zero_le _,e,rfl,Ext.refl _,?_⟩;simp only[*,go_sem]
 rintro e1 bo F' T ⟨i80,q,s,f,rfl,e2,e,rfl,K,br,bs⟩;refine fZ hJ fun _ bz=>?_;replace b:=b.mono K;replace p:=p.mono K;simp only[bu] at bz;obtain ⟨U,V,W⟩:=T.pick [3,4,5,24] (by decide);simp only[*,go_sem] at U V W;clear T a2 hd a3;refine ah hJ ?_;simp only[*,go_sem];refine af hJ ?_;rcases Nat.lt_or_ge i80 a.1.book.aE.length with b0|X
 ·refine bP hJ (by simp only[*,go_sem]) ?_;refine aI hJ ?_;obtain ⟨b1,L⟩:∃x,a.1.book.aE[i80]?=some x:=⟨_,List.getElem?_eq_getElem b0⟩
  rw[c8 L] at e;revert e;refine bS fun e3 h b2=>?_;unfold wO at h;try dsimp only at h
  obtain ⟨b3,b4,b5,ca,t⟩:=b.y.el _ _ L;obtain rfl:b4=b1.cells:=ca;cases b5;have cb:=t 0 _ rfl;simp only[go_sem] at cb;have cd:=t 1 _ rfl;simp only[go_sem] at cd;have cf:=t 2 _ rfl;simp only[go_sem] at cf;clear t L;refine af hJ (aQ hJ (af hJ ?_));refine aj hJ ?_;simp only[*,go_sem];refine ah hJ ?_;revert h;refine bS fun c cl h=>?_;simp only[*,go_sem];refine b8 hJ _ (sF a.1 b p (i80:Int) cl) fun v Y Z cu B=>?_;obtain ⟨fa,rfl,ab⟩:=B;replace b:=b.mono Z;simp only[bu] at cu;obtain ⟨d95,fb,rfl,fg,M,-⟩:=id ab;refine aJ ?_;try simp only[*,go_sem]
  refine aQ hJ ?_;revert h;refine bS fun cy g c0=>?_;refine bU hJ [2,8,9,32,33,34,35,36,37,38,39,40,41,42,43,44,45,46,47,48,49,50,51,52,53,54,55,56,57,58] (fun m o F'=>∃(i102:Nat) (i:Int) (d:an),m=c.length - i102/\i102<=c.length/\bF (wN a i80) i102 (c.drop i102) (i,d)=some cy/\F'=⟨Y,(I,kn a.1 C D (sl (some b3) a.1.book.aE H) E G)::(z,rt d.num d.den)::(w,bk u0 s1 j k l)::[]⟩/\slot o 32= .int .i64 (i102:Int)/\slot o 2= .int .i64 i) c.length ?_ ?_
  ·refine ⟨0,s,f,(Nat.sub_zero _).symm,Nat.zero_le _,g,rfl,?_⟩;simp only[*,go_sem]
  rintro fi da F' N ⟨i102,i,d,rfl,fo,g,rfl,fp,fr⟩;obtain ⟨db,dd,df⟩:=N.pick [3,4,5,6,24,25,26,27,28,29,30,31] (by decide);simp only[*,go_sem] at db dd df;have fs:cG [2,6,8,9,25,26,27,28,29,30,31,32,33,34,35,36,37,38,39,40,41,42,43,44,45,46,47,48,49,50,51,52,53,54,55,56,57,58,59] da bo:=(N.fX (by decide)).trans (by simp only[*,go_sem]);clear N U V W bs br;refine ah hJ ?_;simp only[*,go_sem];refine af hJ ?_;rcases Nat.lt_or_ge i102 c.length with dk|ad
  ·refine bP hJ (by simp only[*,go_sem]) ?_;refine aI hJ ?_;obtain ⟨ae,O⟩:∃x,c[i102]?=some x:=⟨_,List.getElem?_eq_getElem dk⟩
   rw[c8 O] at g;revert g;refine bS fun ft h P=>?_;unfold wN at h;(try dsimp only at h);obtain ⟨fu,dp,dq,ds,al⟩:=ab.el _ _ O;obtain rfl:dp=[.int .i64 ae]:=ds;cases dq;have dt:=al 0 _ rfl;simp only[go_sem] at dt;clear al O;refine af hJ (aQ hJ (af hJ ?_));refine aj hJ ?_;simp only[*,go_sem];refine ah hJ ?_;revert h;refine bS fun Q du h=>?_;simp only[*,go_sem];refine bg hJ _ (me a.1.book (b.mono aR) (i80:Int) ae du) (aJ ?_);(try simp only[*,go_sem]);refine ax fun fv fw dv=>?_;try simp only[au] at dv
   (try simp only[*,go_sem]);refine af hJ ?_;refine cR hJ mixed 12 4 (by simp only[*,go_sem]) (by kernel_rfl) ?_;revert h;refine bS fun fx dC h=>?_;simp only[*,go_sem];refine ⟨_,bD hJ fun F u=>mw a.1.book (b.mono (cg u)) Q dC,bZ ?_⟩;revert h;refine cS (fun dE h=>?_) fun dE h=>?_
   ·revert h;refine bS fun dT ea h=>?_;(try simp only[*,go_sem]);refine ⟨_,bD hJ fun F u=>rS a.1.book (b.mono (cg u)) Q ea,bZ ?_⟩;revert h;refine bS fun gg eb h=>?_;(try simp only[*,go_sem]);refine ⟨_,bD hJ fun F u=>iW d dT eb,bZ ?_⟩;(try simp only[*,go_sem]);revert h;refine jC hJ (by simp only[*,go_sem]) (fun ec h=>?_) fun ec h=>?_
    ·refine aj hJ ?_;revert h;refine bS fun ed eh h=>?_;obtain rfl:=sI h;simp only[*,go_sem];refine bg hJ _ (rS a.1.book (b.mono aR) Q eh) (aJ ?_);(try simp only[*,go_sem]);have ao:=cn (n:=i102) (by have:=M;omega);refine aj hJ ?_;simp only[*,go_sem];refine ⟨c.length - (i102+1),by omega,_,Le.sub (List.Sublist.cons _ (List.Sublist.refl _)),i102+1,(i80:Int),ed,rfl,by omega,P,rfl,?_⟩;simp only[*,go_sem]
    obtain rfl:=sI h;refine aI hJ ?_;have ao:=cn (n:=i102) (by have:=M;omega);refine aj hJ ?_;simp only[*,go_sem];refine ⟨c.length - (i102+1),by omega,_,Le.sub (List.Sublist.cons _ (List.Sublist.refl _)),i102+1,i,d,rfl,by omega,P,rfl,?_⟩;simp only[*,go_sem]
   obtain rfl:=sI h;(try simp only[*,go_sem]);refine bL hJ (by simp only[*,go_sem]) ?_;refine aI hJ ?_;have ao:=cn (n:=i102) (by have:=M;omega);refine aj hJ ?_;simp only[*,go_sem];refine ⟨c.length - (i102+1),by omega,_,Le.sub (List.Sublist.cons _ (List.Sublist.refl _)),i102+1,i,d,rfl,by omega,P,rfl,?_⟩;simp only[*,go_sem]
  have gl:=Nat.not_lt.2 ad;refine bL hJ (by simp only[*,go_sem]) ?_;rw[List.drop_eq_nil_of_le ad] at g;obtain rfl:=sI g;clear g;have h:=c0;dsimp only[aG] at h;obtain rfl:=sI h;refine bN ?_;simp only[go_sem];have gn:=cn (n:=i80) (by have:=ba;omega);refine aj hJ ?_;simp only[*,go_sem];refine ⟨a.1.book.aE.length - (i80+1),by omega,_,Le.sub (List.Sublist.refl _),i80+1,Y,i,d,rfl,by omega,b2,rfl,(K.trans Z),?_⟩;simp only[*,go_sem]
 have gp:=Nat.not_lt.2 X;refine bL hJ (by simp only[*,go_sem]) ?_;rw[List.drop_eq_nil_of_le X] at e;obtain rfl:=sI e;clear e;have h:=bm;dsimp only[aG] at h;obtain rfl:=sI h;refine bN ?_;simp only[go_sem];refine af hJ ?_;refine eF hJ mixed [3,4] (.pure 0 (.rd 1 (.pure 2 (.last 3 (.pure 4 .done))))) ⟨q,[(I,kn a.1 C D (sl d52 a.1.book.aE H) E G),(z,rt f.num f.den),(w,bk u0 s1 j k l)]⟩ (by simp only[*,go_sem]) (by kernel_rfl) ?_;simp only[*,go_sem];refine az ?_;simp only[*,go_sem]
def wP (b:Int)(a:(cL×Int))(i103:Nat)(c:Int)(st:(List an)):Option (Fl (List an) (an×an×Int)):=
 ag (ij a.1.book b c) fun d=>ag (rR a.1.book d) fun e=>ag (c6 st ([e])) fun f=>some (.nx f)
def wQ (u0:ak)(b:Int):Option (an×an×Int):=
 ag (gz u0 ([(eG b)])) fun a=>cond ((a.2 != 0)) (some ((⟨0,0⟩:an),(⟨0,0⟩:an),a.2)) (ag (lg a.1 b) fun f=>ag (bF (wP b a) 0 f ([]:List an)) fun o=>aG o (fun c=>ag (bp c 0) fun d=>ag (g9 c 1 (c.length:Int)) fun e=>ag (iq rJ d e) fun g=>ag (iq ew d e) fun h=>some (g,h,0)) (fun _ _=>none) (fun r=>some r))
theorem GP {ro:Addr->Option Value}(S:de ro)(u0:ak){s1 f g i:Value}(P:bJ ro u0 s1 f g i)(a:Int){r:(an×an×Int)}(h:wQ u0 a=some r):aC Tryz.prog 21 #[bv u0 s1 f g i,.int .i64 a] ⟨ro,[]⟩ (fun v _=>v= .tuple #[r.1.v,r.2.1.v,.int .i64 r.2.2]):=by
 unfold wQ at h;have b3:=P.oc;simp only[bH] at b3;refine aC.go Tryz.func21 rfl Tryz.ntmps21 Tryz.results21 (by simp) fun main J hJ A b4 hd hs=>?_;have b5:=hs 0;have k1:=hs 1;clear hs;refine ah hJ ?_;simp only[*,go_sem];refine ax fun j G ca=>?_;try simp only[au] at ca
 refine ax fun t H cb=>?_;try simp only[au] at cb
 refine ax fun u I cd=>?_;try simp only[au] at cd
 try simp only[*,go_sem]
 refine af hJ ?_;refine aA hJ fun cf=>?_;refine aj hJ ?_;revert h;refine bS fun d cl h=>?_;simp only[*,go_sem];refine ax fun K al ao=>?_;have ar:=aP.cons ao cf;try simp only[au] at ao
 try simp only[*,go_sem]
 obtain ⟨T,L,a0⟩:=fP (b:=K) (o:=(.cells #[.func (.func 68) #[.int .i64 a] #[]] 127)) [] ((u,rt 0 0)::(t,rt 0 0)::(j,bk u0 s1 f g i)::[]) ar al (aD.cons I (aD.cons H (aD.cons G (aD.nil _))));have a2:aB (cY) (bR ro K (.cells #[.func (.func 68) #[.int .i64 a] #[]] 127)) (.slice (some ⟨K,0,none⟩) 1 1) [(eG a)]:=(aB.one (r:=(cY)) (e:=127) (cs:=#[.func (.func 68) #[.int .i64 a] #[]]) (x:=(eG a)) (own:=[(K,.cells #[.func (.func 68) #[.int .i64 a] #[]] 127)]) al (by simp[lk]) ⟨68,#[.int .i64 a],#[],rfl,⟨by simp only[go_sem],fun a3 a4 M _ _ _ _ _ cu cy cS c0 h=>by simp only[go_sem];exact rG a M ⟨cu,cy,cS,c0⟩ h⟩⟩)
 generalize bR ro K (.cells #[.func (.func 68) #[.int .i64 a] #[]] 127)=gT at a2 L T a0;refine gO hJ a0 ?_;replace P:=P.mono T;replace I:=L.hd;replace H:=L.tl.hd;replace G:=L.tl.tl.hd;replace S:=S.mono T;simp only[bu] at L;have da:=aP.tl ar;refine b8 hJ _ (jD S u0 P ([(eG a)]) a2 cl) fun v gV g0 Q U=>?_;obtain ⟨w,y,z,B,C,rfl,D,a5⟩:=U;have db:=D.oc;simp only[bH] at db;have dd:=a5.oc;simp only[bH] at dd;replace I:=Q.hd;replace H:=Q.tl.hd;replace G:=Q.tl.tl.hd;simp only[bu] at Q;refine aJ ?_;try simp only[*,go_sem]
 refine ax fun E a6 a7=>?_;have g1:=aP.cons a7 da;try simp only[au] at a7
 try simp only[*,go_sem]
 refine af hJ (ah hJ ?_);simp only[*,go_sem];revert h;refine jC hJ (by simp only[*,go_sem]) (fun df h=>?_) fun df h=>?_
 ·obtain rfl:=sI h;refine ah hJ ?_;simp only[*,go_sem];refine az ?_;simp only[*,go_sem]
 refine aI hJ (af hJ ?_);refine aj hJ ?_;simp only[*,go_sem];refine af hJ (ah hJ ?_);revert h;refine bS fun k dk h=>?_;simp only[*,go_sem];refine b8 hJ _ (sF d.1 D a5 a dk) fun v R dp N U=>?_;obtain ⟨g2,rfl,a8⟩:=U;replace D:=D.mono dp;replace a6:=N.hd;replace I:=N.tl.hd;replace H:=N.tl.tl.hd;replace G:=N.tl.tl.tl.hd;simp only[bu] at N;obtain ⟨d91,g3,rfl,g4,dq,-⟩:=id a8;refine aJ ?_;try simp only[*,go_sem]
 refine aQ hJ ?_;revert h;refine bS fun ds p dt=>?_;refine bU hJ [8,10,29,30,31,32,33,34,35,36,37,38,39,40,41,42,43,44] (fun m a9 F'=>∃(i103:Nat) (d97:Option Addr) (O:Nat) (V:List (Nat×Obj)) (c:(List an)),m=k.length - i103/\i103<=k.length/\bF (wP a d) i103 (k.drop i103) c=some ds/\F'=⟨R,(E,kn d.1 w y z B C)::(u,rt 0 0)::(t,rt 0 0)::(j,bk u0 s1 f g i)::V⟩/\aO k4 R 23 (.slice d97 c.length O) c V/\c.length<=O/\slot a9 29= .int .i64 (i103:Int)/\slot a9 8= .slice d97 c.length O) k.length ?_ ?_
 ·refine ⟨0,none,0,[],([]:List an),(Nat.sub_zero _).symm,Nat.zero_le _,p,rfl,aO.nil _ _ _,Nat.le_refl _,?_⟩;simp only[*,go_sem]
 rintro ha hc F' ba ⟨i103,d97,O,V,c,rfl,hf,p,rfl,bb,hg,hh,hi⟩;obtain ⟨du,dv,dC⟩:=ba.pick [1,4,5,6,7,27,28] (by decide);simp only[*,go_sem] at du dv dC;clear ba b4 hd b5 k1;refine ah hJ ?_;simp only[*,go_sem];refine af hJ ?_;rcases Nat.lt_or_ge i103 k.length with dE|bc
 ·refine bP hJ (by simp only[*,go_sem]) ?_;refine aI hJ ?_;obtain ⟨bd,W⟩:∃x,k[i103]?=some x:=⟨_,List.getElem?_eq_getElem dE⟩
  rw[c8 W] at p;revert p;refine bS fun hj h dT=>?_;unfold wP at h;try dsimp only at h
  obtain ⟨hk,ea,eb,ec,bj⟩:=a8.el _ _ W;obtain rfl:ea=[.int .i64 bd]:=ec;cases eb;have ed:=bj 0 _ rfl;simp only[go_sem] at ed;clear bj W;refine af hJ (aQ hJ (af hJ ?_));refine aA hJ fun hl=>?_;refine aj hJ ?_;simp only[*,go_sem];refine aA hJ fun eh=>?_;refine e9 hJ mixed 9 ⟨R,[(E,kn d.1 w y z B C),(u,rt 0 0),(t,rt 0 0),(j,bk u0 s1 f g i)]⟩ (by simp only[*,go_sem]) (by kernel_rfl) ?_;revert h;refine bS fun et eu h=>?_;simp only[*,go_sem];refine ⟨_,bD hJ fun F q=>me d.1.book (D.mono (cg q)) a bd eu,bZ ?_⟩;revert h;refine bS fun s ev h=>?_;try simp only[*,go_sem]
  refine ⟨_,bD hJ fun F q=>Au d.1.book (D.mono (cg q)) et ev,?_⟩;revert h;refine bS fun eQ eS h=>?_;obtain rfl:=sI h;obtain ⟨e0,bl⟩:=dr eS;try simp only[*,go_sem]
  refine ax fun bm e1 bo=>?_;have e3:=aP.cons bo eh;try simp only[au] at bo
  try simp only[*,go_sem]
  refine dY (r:=k4) (l:=c) (x:=s) (cs:=#[.int .i64 s.num,.int .i64 s.den]) (e2:=23) [(bm,rt s.num s.den),(E,kn d.1 w y z B C),(u,rt 0 0),(t,rt 0 0),(j,bk u0 s1 f g i)] [] bb e3 e0 rfl (by simp only[*,go_sem]) e1 rfl rfl zL zL Et zI rfl Eu (by decide) (by decide) (fun hn br X fa fb ho=>?_);simp only[aV] at fb;subst fa;rw[<-bl] at X;clear bl;obtain ⟨d125,fg,rfl,fi⟩:=X.len;refine ⟨⟨R,(bm,rt s.num s.den)::(E,kn d.1 w y z B C)::(u,rt 0 0)::(t,rt 0 0)::(j,bk u0 s1 f g i)::br⟩,Le.refl _,?_⟩;refine ⟨by simp only[*,go_sem],jT ?_⟩;try simp only[*,go_sem]
  have hp:=cn (n:=i103) (by have:=dq;omega);refine aj hJ ?_;simp only[*,go_sem];refine ⟨k.length - (i103+1),by omega,_,Le.sub (List.Sublist.cons _ (List.Sublist.refl _)),i103+1,d125,fg,br,eQ,rfl,by omega,dT,rfl,X,fi,?_⟩;simp only[*,go_sem]
 have hq:=Nat.not_lt.2 bc;refine bL hJ (by simp only[*,go_sem]) ?_;rw[List.drop_eq_nil_of_le bc] at p;obtain rfl:=sI p;clear p;have h:=dt;dsimp only[aG] at h;refine bN ?_;simp only[go_sem];refine af hJ ?_;refine aA hJ fun hr=>?_;refine aj hJ ?_;simp only[*,go_sem];refine af hJ ?_;refine aA hJ fun bs=>?_;obtain ⟨fo,ht,fp,Y,fr⟩:=bb.eU [(E,kn d.1 w y z B C),(u,rt 0 0),(t,rt 0 0),(j,bk u0 s1 f g i)] [] bs (aD.cons a6 (aD.cons I (aD.cons H (aD.cons G (aD.nil _)))));clear bs;refine cF hJ fr ?_;obtain ⟨hv,hx,-⟩:=Y.op;simp only[bu] at fp;refine e9 hJ mixed 13 ⟨fo,[(E,kn d.1 w y z B C),(j,bk u0 s1 f g i)]⟩ (by simp only[*,go_sem]) (by kernel_rfl) ?_;revert h;refine bS fun Z fs h=>?_;obtain ⟨hy,hz,bz⟩:=c5 fs;obtain ⟨hA,ft,fu,fv,ab⟩:=Y.el _ _ bz;obtain rfl:ft=Z.cells:=fv;cases fu;have fw:=ab 0 _ rfl;simp only[go_sem] at fw;have fx:=ab 1 _ rfl;simp only[go_sem] at fx;clear ab bz;revert h;refine bS fun b0 gg h=>?_;obtain ⟨hB,hD,hE,b1⟩:=oY gg;have b2:(1:Int).toNat<=((c.length:Int)).toNat:=by omega
 have gl:((c.length:Int)).toNat<=O:=by omega
 have hF:0<=((c.length:Int)):=by omega
 obtain ⟨d143,gn,gp,ad⟩:=aB.o5 Y (1:Int).toNat ((c.length:Int)).toNat b2 (by omega) b1;simp only[go_sem] at gn gp b2 gl;obtain ⟨_,_,gB,hG,hI,hK⟩:=id ad;cases gB;clear b1;revert h;refine bS fun hL gC h=>?_;try simp only[*,go_sem]
 refine ⟨_,bD hJ fun F q=>nt (dK:=75) (dZ:=#[]) (ee:=#[]) rJ ⟨by simp only[go_sem],fun a3 a4 M ae _ h=>by simp only[go_sem];exact FO M ae h⟩ Z b0 (ad.mono (cg q)) gC,bZ ?_⟩;revert h;refine bS fun hM gM h=>?_;obtain rfl:=sI h;try simp only[*,go_sem]
 refine ⟨_,bD hJ fun F q=>nt (dK:=76) (dZ:=#[]) (ee:=#[]) ew ⟨by simp only[go_sem],fun a3 a4 M ae _ h=>by simp only[go_sem];exact iW M ae h⟩ Z b0 (ad.mono (cg q)) gM,?_⟩;try simp only[*,go_sem]
 refine az ?_;simp only[*,go_sem]
def nO (s:List aX)(y:aX):Bool:=s.any fun z=>z.e0==y.e0&&(z.e1==y.e1&&z.e2==y.e2)
def AQ (y:aX)(s:List aX):Option (Fl (List aX) Unit):=some (.nx (cond (nO s y) s (s++[y])))
theorem AR {x y:aX}(h:x.v=y.v):x=y:=by
 obtain ⟨a,b,c⟩:=x;obtain ⟨d,e,f⟩:=y;simp only[aX.v,Value.agg.injEq,Array.mk.injEq,List.cons.injEq,Value.int.injEq,true_and,and_true] at h;obtain ⟨rfl,rfl,rfl⟩:=h;rfl
theorem AS {s:List aX}{y:aX}:nO s y=true↔y.v∈s.map aX.v:=by
 unfold nO;simp only[List.any_eq_true,Bool.and_eq_true,beq_iff_eq,List.mem_map];constructor
 ·rintro ⟨z,d,h0,h1,e⟩;refine ⟨z,d,?_⟩;obtain ⟨a,b,c⟩:=z;obtain ⟨f,g,i⟩:=y;simp only at h0 h1 e;subst h0 h1 e;rfl
 ·rintro ⟨z,d,h⟩;obtain rfl:=AR h;exact ⟨z,d,rfl,rfl,rfl⟩
theorem GQ (x y:aX)(F:aa):∃b,(∀(Q:Bool->aa->Prop),Q b F->aT Tryz.prog (Op.equal 121 x.v y.v) Q F)/\(b=true↔y.v=x.v):=by
 have a:m7 Tryz.prog 121=some [true,true,true]:=by kernel_rfl
 have he:lU Tryz.prog 121 x.v y.v=some (x.e0==y.e0&&(x.e1==y.e1&&(x.e2==y.e2&&true))):=by
  simp only[lU,aX.v,a,iM,gv,Bool.and_self,if_true]
 refine ⟨_,fun Q h=>(uC he h).1,?_⟩;simp only[Bool.and_eq_true,beq_iff_eq,and_true];constructor
 ·rintro ⟨h0,h1,c⟩;simp only[aX.v,h0,h1,c]
 ·intro h;obtain rfl:=AR h;exact ⟨rfl,rfl,rfl⟩
theorem GR (x:aX)(F:aa)(Q:Unit->aa->Prop)(h:Q () F):aT Tryz.prog (Instr.checkKey false 10000 121 x.v) Q F:=by
 have c:Tryz.prog.underlying 121=some (.array 3 3):=by kernel_rfl
 have d:Tryz.prog.underlying 3=some (.int .i64):=by kernel_rfl
 have f:bW Tryz.prog 3=some 1:=by kernel_rfl
 have g:cx Tryz.prog 3=some false:=by kernel_rfl
 have e:(10000:Nat)=9998+1+1:=rfl;rw[e];unfold Instr.checkKey;simp only[bq,dn,c,aX.v];simp only[Std.Legacy.Range.forIn_eq_forIn_range',Std.Legacy.Range.size,Nat.sub_zero,Nat.add_one_sub_one,Nat.div_one,List.range',List.forIn_cons,List.forIn_nil,bq,eE,f,part,lR,g,bG,Bool.false_eq_true,if_false,dh];have b:∀(k:IntKind) (a:Int) (Q:Unit->aa->Prop) (G:aa),Q () G->aT Tryz.prog (Instr.checkKey false 9999 3 (.int k a)) Q G:=by
  intro k a Q G i;show aT Tryz.prog (Instr.checkKey false (9998+1) 3 (.int k a)) Q G;unfold Instr.checkKey;simp only[bq,dn,d,bG];exact i
 exact b .i64 x.e0 _ _ (b .i64 x.e1 _ _ (b .i64 x.e2 _ _ h))
def wR (u0:ak):Option (Int×Int):=
 ag (fJ u0 ([]:(List (ak->Option Int)))) fun a=>cond ((a.2 != 0)) (some (0,a.2)) (ag (iU AQ (mA a.1) ([]:List aX)) fun o=>aG o (fun st=>some ((st.length:Int),0)) (fun _ _=>none) (fun _=>none))
theorem GU {ro:Addr->Option Value}(M:de ro)(u0:ak){s1 w x B:Value}(E:bJ ro u0 s1 w x B){r:(Int×Int)}(h:wR u0=some r):aC Tryz.prog 14 #[bv u0 s1 w x B] ⟨ro,[]⟩ (fun v _=>v= .tuple #[.int .i64 r.1,.int .i64 r.2]):=by
 unfold wR at h;have N:=E.oc;simp only[bH] at N;refine aC.vm Tryz.func14 rfl Tryz.ntmps14 Tryz.results14 (by simp) fun main J hJ A F hd hs=>?_;have O:=hs 0;clear hs;refine ah hJ ?_;simp only[*,go_sem];refine ax fun P bd R=>?_;try simp only[au] at R
 try simp only[*,go_sem]
 refine ah hJ ?_;revert h;refine bS fun G S h=>?_;simp only[*,go_sem];refine b8 hJ _ (ki M u0 E ([]:(List (ak->Option Int))) (aB.nil _ _) S) fun v H bj T U=>?_;obtain ⟨V,W,X,Y,rfl,l⟩:=U;have Z:=l.oc;simp only[bH] at Z;simp only[bu] at T;refine aJ ?_;try simp only[*,go_sem]
 refine ax fun ab bm ad=>?_;try simp only[au] at ad
 try simp only[*,go_sem]
 refine af hJ (ah hJ ?_);simp only[*,go_sem];revert h;refine jC hJ (by simp only[*,go_sem]) (fun ae h=>?_) fun ae h=>?_
 ·obtain rfl:=sI h;refine ah hJ ?_;simp only[*,go_sem];refine aA hJ fun C=>?_;replace C:=C.nd;try simp only[keys,List.map_cons,List.map_nil,List.map_append,List.cons_append,List.nil_append,List.nodup_cons,List.mem_cons,List.mem_append,List.not_mem_nil,or_false,not_or] at C
  refine az ?_;simp only[*,go_sem]
 refine aI hJ ?_;revert h;refine bS fun o j h=>?_;repeat refine af hJ ?_
 refine aj hJ ?_;simp only[*,go_sem,-j];refine Fh fun k f70=>?_;have bo:=eB f70;have al:=fE f70;try simp only[au] at al
 refine aJ ?_;simp only[*,go_sem,-j];refine ax fun q br ao=>?_;try simp only[au] at ao
 try simp only[*,go_sem,-j]
 repeat refine af hJ ?_
 refine aj hJ ?_;simp only[*,go_sem,-j];refine vl hJ aX.v (by simp only[*,go_sem]) (r4 G.1 l.e l.p l.y l.t) (by kernel_rfl) (by kernel_rfl) (ρ:=Unit) (fun (s:List aX) ar=>∃(es:Array MapEntry) (b:Nat),ar=(q,.cells #[.map (some k)] 118)::(k,.map es b)::(ab,bl G.1 V W X Y)::(P,bk u0 s1 w x B)::[]/\es.toList.map (·.key)=s.map aX.v) (f:=AQ) j ?_ ?_ (by decide) ?_ ?_
 ·exact ⟨#[],0,rfl,rfl⟩
 ·rintro d4 a0 D a2 c d bs I main J hJ _ ⟨es,b,rfl,g⟩;obtain rfl:=Option.some.inj I;clear I;generalize m:mc _ _ _=u;have bz:sz u=24:=by rw[<-m,vk];simp only[*,go_sem]
  have b0:u.defers=[]:=by rw[<-m];rfl
  have b1:slot u 6= .pointer (some ⟨q,0,none⟩):=by rw[<-m,nj];simp only[*,go_sem]
  have b2:slot u 19=d.v:=by rw[<-m,nj];simp only[*,go_sem]
  clear m F hd O;refine fZ hJ fun i a=>?_;replace a:aD H ((a0,.loop D)::(d4,.deferred (some []))::(q,.cells #[.map (some k)] 118)::(k,.map es b)::_):=a;have b3:=a.hd;have b4:=a.tl.hd;have a3:=a.tl.tl.hd;have a4:=a.tl.tl.tl.hd;clear a;replace i:=i.nd;simp only[keys,List.map_cons,List.map_nil,List.map_append,List.cons_append,List.nil_append,List.nodup_cons,List.mem_cons,List.mem_append,List.not_mem_nil,or_false,not_or] at i;refine aj hJ ?_;simp only[*,go_sem,aX.v];refine ax fun b5 ca a5=>?_;try simp only[au] at a5
  try simp only[*,go_sem,aX.v]
  simp only[pn,go_sem];refine ⟨D,by simp only[*,go_sem],a2,?_⟩;try simp only[*,go_sem,aX.v]
  refine aQ hJ (aj hJ ?_);simp only[*,go_sem,aX.v];refine Fj (es:=es) (clock:=b) (by kernel_rfl:Tryz.prog.underlying 118=some (.map 121 4)) (by simp only[*,go_sem]) (fun Q h=>GR d _ Q h) (by kernel_rfl:Tryz.prog.underlying 121=some (.array 3 3)) (fun e he=>?_) fun K a6 a7=>?_
  ·have:e.key∈es.toList.map (·.key):=List.mem_map_of_mem he;rw[g] at this;obtain ⟨z,F,a8⟩:=List.mem_map.1 this;rw[<-a8];exact GQ d z _
  ·simp only[ru,l8,go_sem, *];refine ⟨{D with state:=.busy},rfl,?_⟩;simp only[*,go_sem];refine ⟨_,Le.sub (List.Sublist.cons _ (List.Sublist.refl _)),rfl,K,a6,rfl,?_⟩;have a9:K.toList.map (·.key)=(cond (nO c d) c (c++[d])).map aX.v:=by
    rcases a7 with ⟨hm,he⟩|⟨hm,he⟩
    ·have:nO c d=true:=by rw[AS,<-g];exact hm
     rw[this,he,g];rfl
    ·have:nO c d=false:=by
      rw[Bool.eq_false_iff];intro L;rw[AS,<-g] at L;exact hm L
     rw[this,he,g];simp only[cond_false,List.map_append,List.map_cons,List.map_nil];rfl
   exact a9
 ·rintro d49 ba bb _ c ⟨es,b,rfl,g⟩ i a;refine ⟨fun n=>?_,fun k1 n=>?_⟩
  ·subst n;dsimp only[aG] at h;obtain rfl:=sI h;clear j;replace a:aD H ((ba,.loop bb)::(d49,.deferred (some []))::(q,.cells #[.map (some k)] 118)::(k,.map es b)::_):=a;have a3:=a.tl.tl.hd;have a4:=a.tl.tl.tl.hd;clear a;replace i:=i.nd;simp only[keys,List.map_cons,List.map_nil,List.map_append,List.cons_append,List.nil_append,List.nodup_cons,List.mem_cons,List.mem_append,List.not_mem_nil,or_false,not_or] at i;repeat refine af hJ ?_
   refine aj hJ ?_;simp only[*,go_sem];have bc:es.size=c.length:=by simpa using congrArg List.length g
   refine Fi (es:=es) (clock:=b) rfl (by kernel_rfl:Tryz.prog.underlying 118=some (.map 121 4)) (by simp only[*,go_sem]) ?_;rw[bc];refine az ?_;simp only[*,go_sem]
  ·subst n;dsimp only[aG] at h;cases h
 ·intro k1 cb n;subst n;dsimp only[aG] at h;cases h
def eI (u0:Int)(a:Int)(b:Int):Option Bool:=
 cond (decide (a<=u0)) (some (decide (u0<=b))) (some false)
theorem gS {ro:Addr->Option Value}(u0:Int)(a:Int)(b:Int){r:Bool}(h:eI u0 a b=some r):aC Tryz.prog 16 #[.int .i64 u0,.int .i64 a,.int .i64 b] ⟨ro,[]⟩ (fun v _=>v= .bool r):=by
 unfold eI at h;refine aC.go Tryz.func16 rfl Tryz.ntmps16 Tryz.results16 (by simp) fun main J hJ A d hd hs=>?_;have e:=hs 0;have k1:=hs 1;have f:=hs 2;clear hs;refine ah hJ ?_;simp only[*,go_sem];refine ah hJ ?_;revert h;refine cS (fun c h=>?_) fun c h=>?_
 ·obtain rfl:=sI h;try simp only[*,go_sem]
  refine az ?_;simp only[*,go_sem]
 obtain rfl:=sI h;try simp only[*,go_sem]
 refine az ?_;simp only[*,go_sem]
def mB (u0:ak)(a:Int):Option Bool:=
 ag (bp u0.ay 0) fun b=>ag (bp u0.ay (IntKind.i64.wrap ((u0.ay.length:Int) - 1))) fun c=>ag (eI a b.aL c.aL) fun d=>some d
theorem GV {ro:Addr->Option Value}(u0:ak){s1 f g i:Value}(a:bJ ro u0 s1 f g i)(b:Int){r:Bool}(h:mB u0 b=some r):aC Tryz.prog 128 #[bv u0 s1 f g i,.int .i64 b] ⟨ro,[]⟩ (fun v _=>v= .bool r):=by
 obtain ⟨d3,c4,rfl,E,G,-⟩:=id a.e;unfold mB at h;refine aC.go Tryz.func128 rfl Tryz.ntmps128 Tryz.results128 (by simp) fun main J hJ A H hd hs=>?_;have I:=hs 0;have k1:=hs 1;clear hs;refine ah hJ ?_;simp only[*,go_sem];refine ax fun K L n=>?_;try simp only[au] at n
 try simp only[*,go_sem]
 refine af hJ ?_;refine cR hJ mixed 17 1 (by simp only[*,go_sem]) (by kernel_rfl) ?_;revert h;refine bS fun j o h=>?_;obtain ⟨M,N,k⟩:=c5 o;obtain ⟨O,p,q,s,c⟩:=a.e.el _ _ k;obtain rfl:p=j.cells:=s;cases q;have t:=c 0 _ rfl;simp only[go_sem] at t;have u:=c 1 _ rfl;simp only[go_sem] at u;clear c k;revert h;refine bS fun l w h=>?_;obtain ⟨P,Q,m⟩:=c5 w;obtain ⟨R,x,y,z,d⟩:=a.e.el _ _ m;obtain rfl:x=l.cells:=z;cases y;have B:=d 0 _ rfl;simp only[go_sem] at B;have C:=d 1 _ rfl;simp only[go_sem] at C;clear d m;revert h;refine bS fun S D h=>?_;obtain rfl:=sI h;try simp only[*,go_sem]
 refine ⟨_,bD hJ fun F T=>gS b j.aL l.aL D,bZ ?_⟩;try simp only[*,go_sem]
 refine az ?_;simp only[*,go_sem]
def nP (u0:ak)(a:Int):Option Bool:=
 ag (eI a 0 (IntKind.i64.wrap ((u0.aE.length:Int) - 1))) fun b=>some b
theorem GW {ro:Addr->Option Value}(u0:ak){s1 c d f:Value}(a:bJ ro u0 s1 c d f)(b:Int){r:Bool}(h:nP u0 b=some r):aC Tryz.prog 130 #[bv u0 s1 c d f,.int .i64 b] ⟨ro,[]⟩ (fun v _=>v= .bool r):=by
 obtain ⟨d3,c4,rfl,j,k,-⟩:=id a.e;obtain ⟨d10,l,rfl,m,n,-⟩:=id a.p;obtain ⟨d17,o,rfl,q,s,-⟩:=id a.y;obtain ⟨d24,u,rfl,w,x,-⟩:=id a.t;unfold nP at h;refine aC.go Tryz.func130 rfl Tryz.ntmps130 Tryz.results130 (by simp) fun main J hJ A z hd hs=>?_;have B:=hs 0;have k1:=hs 1;clear hs;refine ah hJ ?_;simp only[*,go_sem];refine ax fun C D g=>?_;try simp only[au] at g
 try simp only[*,go_sem]
 refine ah hJ ?_;revert h;refine bS fun E i h=>?_;obtain rfl:=sI h;simp only[*,go_sem];refine bg hJ _ (gS b 0 (IntKind.i64.wrap ((u0.aE.length:Int) - 1)) i) (aJ ?_);try simp only[*,go_sem]
 refine az ?_;simp only[*,go_sem]
def gA (u0:an)(a:an):Option Bool:=
 some (decide ((IntKind.i64.wrap (u0.num*a.den))<(IntKind.i64.wrap (a.num*u0.den))))
theorem wS {ro:Addr->Option Value}(u0:an)(a:an){r:Bool}(h:gA u0 a=some r):aC Tryz.prog 29 #[.agg #[.int .i64 u0.num,.int .i64 u0.den],.agg #[.int .i64 a.num,.int .i64 a.den]] ⟨ro,[]⟩ (fun v _=>v= .bool r):=by
 unfold gA at h;obtain rfl:=sI h;refine aC.go Tryz.func29 rfl Tryz.ntmps29 Tryz.results29 (by simp) fun main J hJ A b hd hs=>?_;have c:=hs 0;have k1:=hs 1;clear hs;refine ah hJ ?_;simp only[*,go_sem];refine ax fun d r1 n1=>?_;try simp only[au] at n1
 refine ax fun b2 r2 n2=>?_;try simp only[au] at n2
 try simp only[*,go_sem]
 refine ah hJ ?_;simp only[*,go_sem];refine az ?_;simp only[*,go_sem]
def wT (st:(Int×Int)):Option (Fl (Int×Int) an):=
 cond (decide (0<st.2)) (ag (iS st.1 st.2) fun a=>some (.nx (st.2,a))) (some (.bk (st.1,st.2)))
def nS (st:(Int×Int)):Option (Fl (Int×Int) an):=
 cond (decide (0<st.2)) (ag (iS st.1 st.2) fun a=>some (.nx (st.2,a))) (some (.bk (st.1,st.2)))
def gD (u0:Int)(a:Int):Option an:=
 cond (decide (a<0)) (ag (bn (wT) fu ((if IntKind.i64.wrap (0 - u0)<IntKind.i64.wrap (0 - (IntKind.i64.wrap (0 - u0))) then IntKind.i64.wrap (0 - (IntKind.i64.wrap (0 - u0))) else IntKind.i64.wrap (0 - u0)),(IntKind.i64.wrap (0 - a)))) fun o=>aG o (fun b=>ag (fF (IntKind.i64.wrap (0 - u0)) b.1) fun d=>ag (fF (IntKind.i64.wrap (0 - a)) b.1) fun e=>some (⟨d,e⟩:an)) (fun _ _=>none) (fun r=>some r)) (ag (bn (nS) fu ((if u0<IntKind.i64.wrap (0 - u0) then IntKind.i64.wrap (0 - u0) else u0),a)) fun o=>aG o (fun c=>ag (fF u0 c.1) fun f=>ag (fF a c.1) fun g=>some (⟨f,g⟩:an)) (fun _ _=>none) (fun r=>some r))
theorem AT {ro:Addr->Option Value}(u0:Int)(b:Int){r:an}(h:gD u0 b=some r):aC Tryz.prog 35 #[.int .i64 u0,.int .i64 b] ⟨ro,[]⟩ (fun v _=>v=r.v):=by
 unfold gD at h;refine aC.go Tryz.func35 rfl Tryz.ntmps35 Tryz.results35 (by simp) fun main J hJ A n hd hs=>?_;have o:=hs 0;have k1:=hs 1;clear hs;refine ah hJ ?_;simp only[*,go_sem];refine ax fun p r1 n1=>?_;try simp only[au] at n1
 try simp only[*,go_sem]
 refine af hJ (ah hJ ?_);simp only[*,go_sem];revert h;refine jC hJ (by simp only[*,go_sem]) (fun B h=>?_) fun B h=>?_
 ·refine aj hJ ?_;simp only[*,go_sem];refine ah hJ ?_;simp only[*,go_sem];refine af hJ (aQ hJ ?_);revert h;refine bS fun C c D=>?_;refine bU hJ [5,6,18,19,20,21,22,23] (fun m a F'=>∃(f:Int) (v4:Int),bn (wT) m (f,v4)=some C/\F'=⟨ro,(p,rt 0 0)::[]⟩/\slot a 5= .int .i64 f/\slot a 6= .int .i64 v4) fu ?_ ?_
  ·refine ⟨(if IntKind.i64.wrap (0 - u0)<IntKind.i64.wrap (0 - (IntKind.i64.wrap (0 - u0))) then IntKind.i64.wrap (0 - (IntKind.i64.wrap (0 - u0))) else IntKind.i64.wrap (0 - u0)),(IntKind.i64.wrap (0 - b)),c,rfl,?_⟩;simp only[*,go_sem]
  rintro g R F' q ⟨f,v4,c,rfl,S,T⟩;obtain ⟨E,F,G⟩:=q.pick [0,1,4] (by decide);simp only[*,go_sem] at E F G;clear q n hd o k1;obtain _|g:=g
  ·exact absurd c (by simp only[bn,reduceCtorEq,not_false_eq_true])
  revert c;refine bS fun U h i=>?_;unfold wT at h;try dsimp only at h
  refine af hJ (ah hJ ?_);simp only[*,go_sem];revert h;refine jC hJ (by simp only[*,go_sem]) (fun H h=>?_) fun H h=>?_
  ·refine aI hJ (aQ hJ ?_);refine cR hJ mixed 6 1 (by simp only[*,go_sem]) (by kernel_rfl) ?_;revert h;refine bS fun I s h=>?_;obtain rfl:=sI h;obtain ⟨V,W⟩:=q4 s;clear s;(try simp only[*,go_sem]);refine ⟨g,Nat.lt_succ_self _,_,Le.sub (List.Sublist.refl _),v4,I,i,rfl,?_⟩;simp only[*,go_sem]
  obtain rfl:=sI h;refine bN ?_;simp only[go_sem];obtain rfl:=sI i;clear i;have h:=D;dsimp only[aG] at h;refine af hJ ?_;refine cR hJ mixed 7 0 (by simp only[*,go_sem]) (by kernel_rfl) ?_;revert h;refine bS fun X t h=>?_;obtain ⟨Y,Z⟩:=jW t;clear t;revert h;refine bS fun ab u h=>?_;obtain rfl:=sI h;obtain ⟨ad,ae⟩:=jW u;clear u;try simp only[*,go_sem]
  refine az ?_;simp only[*,go_sem]
 refine aI hJ (af hJ ?_);refine aj hJ ?_;simp only[*,go_sem];refine af hJ (aQ hJ ?_);revert h;refine bS fun K d L=>?_;refine bU hJ [5,6,18,19,20,21,22,23] (fun m a F'=>∃(j:Int) (e:Int),bn (nS) m (j,e)=some K/\F'=⟨ro,(p,rt 0 0)::[]⟩/\slot a 5= .int .i64 j/\slot a 6= .int .i64 e) fu ?_ ?_
 ·refine ⟨(if u0<IntKind.i64.wrap (0 - u0) then IntKind.i64.wrap (0 - u0) else u0),b,d,rfl,?_⟩;simp only[*,go_sem]
 rintro k al F' w ⟨j,e,d,rfl,ao,ar⟩;obtain ⟨M,N,O⟩:=w.pick [0,1,4] (by decide);simp only[*,go_sem] at M N O;clear w n hd o k1;obtain _|k:=k
 ·exact absurd d (by simp only[bn,reduceCtorEq,not_false_eq_true])
 revert d;refine bS fun a0 h l=>?_;unfold nS at h;try dsimp only at h
 refine af hJ (ah hJ ?_);simp only[*,go_sem];revert h;refine jC hJ (by simp only[*,go_sem]) (fun P h=>?_) fun P h=>?_
 ·refine aI hJ (aQ hJ ?_);refine cR hJ mixed 6 1 (by simp only[*,go_sem]) (by kernel_rfl) ?_;revert h;refine bS fun Q x h=>?_;obtain rfl:=sI h;obtain ⟨a2,a3⟩:=q4 x;clear x;try simp only[*,go_sem]
  refine ⟨k,Nat.lt_succ_self _,_,Le.sub (List.Sublist.refl _),e,Q,l,rfl,?_⟩;simp only[*,go_sem]
 obtain rfl:=sI h;refine bN ?_;simp only[go_sem];obtain rfl:=sI l;clear l;have h:=L;dsimp only[aG] at h;refine af hJ ?_;refine cR hJ mixed 7 0 (by simp only[*,go_sem]) (by kernel_rfl) ?_;revert h;refine bS fun a4 y h=>?_;obtain ⟨a5,a6⟩:=jW y;clear y;revert h;refine bS fun a7 z h=>?_;obtain rfl:=sI h;obtain ⟨a8,a9⟩:=jW z;clear z;try simp only[*,go_sem]
 refine az ?_;simp only[*,go_sem]
def ko (u0:an)(a:an):Option an:=
 ag (gD (IntKind.i64.wrap ((IntKind.i64.wrap (u0.num*a.den)) - (IntKind.i64.wrap (a.num*u0.den)))) (IntKind.i64.wrap (u0.den*a.den))) fun b=>some b
def mC (u0:ak)(a:aU)(c:Int)(b:an):Option an:=
 ag (gD (IntKind.i64.wrap ((IntKind.i64.wrap ((IntKind.i64.wrap (a.high*b.den))*(IntKind.i64.wrap (c+a.back))))+(IntKind.i64.wrap ((IntKind.i64.wrap (b.num - (IntKind.i64.wrap (a.high*b.den))))*(IntKind.i64.wrap (u0.bE+a.back)))))) (IntKind.i64.wrap (b.den*(IntKind.i64.wrap (c+a.back))))) fun d=>some d
def mD (u0:c9)(a:Int)(b:Int):Option Bool:=
 cond (decide (a<=u0.low)) (cond (decide (u0.low<=u0.high)) (some (decide (u0.high<=b))) (some false)) (some false)
theorem GX {ro:Addr->Option Value}(u0:c9)(a:Int)(b:Int){r:Bool}(h:mD u0 a b=some r):aC Tryz.prog 129 #[.agg #[.int .i64 u0.low,.int .i64 u0.high],.int .i64 a,.int .i64 b] ⟨ro,[]⟩ (fun v _=>v= .bool r):=by
 unfold mD at h;refine aC.go Tryz.func129 rfl Tryz.ntmps129 Tryz.results129 (by simp) fun main J hJ A e hd hs=>?_;have f:=hs 0;have k1:=hs 1;have g:=hs 2;clear hs;refine ah hJ ?_;simp only[*,go_sem];refine ax fun i r1 n1=>?_;try simp only[au] at n1
 try simp only[*,go_sem]
 refine ah hJ ?_;revert h;refine cS (fun c h=>?_) fun c h=>?_
 ·revert h;refine cS (fun d h=>?_) fun d h=>?_
  ·obtain rfl:=sI h;(try simp only[*,go_sem]);refine az ?_;simp only[*,go_sem]
  obtain rfl:=sI h;try simp only[*,go_sem]
  refine az ?_;simp only[*,go_sem]
 obtain rfl:=sI h;try simp only[*,go_sem]
 refine az ?_;simp only[*,go_sem]
def fR (u0:an)(a:an):Option an:=
 ag (gA u0 a) fun b=>cond (b) (some a) (some u0)
def AU (u0:ak)(a:Int)(b:Int):Option aU:=
 ag (bp u0.aE a) fun c=>some (⟨c.back,b⟩:aU)
def mE (u0:ak):Option Bool:=
 cond (decide (20<(u0.ay.length:Int))) (some true) (cond (decide (20<(u0.props.length:Int))) (some true) (cond (decide (20<(u0.aE.length:Int))) (some true) (some (decide (20<(u0.told.length:Int))))))
theorem GY {ro:Addr->Option Value}(u0:ak){s1 b c d:Value}(a:bJ ro u0 s1 b c d){r:Bool}(h:mE u0=some r):aC Tryz.prog 59 #[bv u0 s1 b c d] ⟨ro,[]⟩ (fun v _=>v= .bool r):=by
 obtain ⟨d3,c4,rfl,k,l,-⟩:=id a.e;obtain ⟨d10,m,rfl,n,o,-⟩:=id a.p;obtain ⟨d17,q,rfl,s,u,-⟩:=id a.y;obtain ⟨d24,w,rfl,x,z,-⟩:=id a.t;unfold mE at h;refine aC.go Tryz.func59 rfl Tryz.ntmps59 Tryz.results59 (by simp) fun main J hJ A B hd hs=>?_;have C:=hs 0;clear hs;refine ah hJ ?_;simp only[*,go_sem];refine ax fun D E f=>?_;try simp only[au] at f
 try simp only[*,go_sem]
 refine ah hJ ?_;revert h;refine cS (fun g h=>?_) fun g h=>?_
 ·obtain rfl:=sI h;try simp only[*,go_sem]
  refine az ?_;simp only[*,go_sem]
 revert h;refine cS (fun i h=>?_) fun i h=>?_
 ·obtain rfl:=sI h;try simp only[*,go_sem]
  refine az ?_;simp only[*,go_sem]
 revert h;refine cS (fun j h=>?_) fun j h=>?_
 ·obtain rfl:=sI h;try simp only[*,go_sem]
  refine az ?_;simp only[*,go_sem]
 obtain rfl:=sI h;try simp only[*,go_sem]
 refine az ?_;simp only[*,go_sem]
def fK (u0:Int)(a:Int):Option an:=
 some (⟨u0,a⟩:an)
theorem gE {ro:Addr->Option Value}(u0:Int)(a:Int){r:an}(h:fK u0 a=some r):aC Tryz.prog 30 #[.int .i64 u0,.int .i64 a] ⟨ro,[]⟩ (fun v _=>v=r.v):=by
 unfold fK at h;obtain rfl:=sI h;refine aC.go Tryz.func30 rfl Tryz.ntmps30 Tryz.results30 (by simp) fun main J hJ A b hd hs=>?_;have c:=hs 0;have k1:=hs 1;clear hs;refine ah hJ ?_;simp only[*,go_sem];refine ax fun d r1 n1=>?_;try simp only[au] at n1
 try simp only[*,go_sem]
 refine ah hJ ?_;simp only[*,go_sem];refine az ?_;simp only[*,go_sem]
def p6 (u0:Int)(a:Int):Option c9:=
 some (⟨u0,a⟩:c9)
theorem sH {ro:Addr->Option Value}(u0:Int)(a:Int){r:c9}(h:p6 u0 a=some r):aC Tryz.prog 18 #[.int .i64 u0,.int .i64 a] ⟨ro,[]⟩ (fun v _=>v=r.v):=by
 unfold p6 at h;obtain rfl:=sI h;refine aC.go Tryz.func18 rfl Tryz.ntmps18 Tryz.results18 (by simp) fun main J hJ A b hd hs=>?_;have c:=hs 0;have k1:=hs 1;clear hs;refine ah hJ ?_;simp only[*,go_sem];refine ax fun d r1 n1=>?_;try simp only[au] at n1
 try simp only[*,go_sem]
 refine ah hJ ?_;simp only[*,go_sem];refine az ?_;simp only[*,go_sem]
def mF (u0:Int)(a:Int):Option aU:=
 some (⟨u0,a⟩:aU)
theorem p7 {ro:Addr->Option Value}(u0:Int)(a:Int){r:aU}(h:mF u0 a=some r):aC Tryz.prog 23 #[.int .i64 u0,.int .i64 a] ⟨ro,[]⟩ (fun v _=>v=r.v):=by
 unfold mF at h;obtain rfl:=sI h;refine aC.go Tryz.func23 rfl Tryz.ntmps23 Tryz.results23 (by simp) fun main J hJ A b hd hs=>?_;have c:=hs 0;have k1:=hs 1;clear hs;refine ah hJ ?_;simp only[*,go_sem];refine ax fun d r1 n1=>?_;try simp only[au] at n1
 try simp only[*,go_sem]
 refine ah hJ ?_;simp only[*,go_sem];refine az ?_;simp only[*,go_sem]
def mG (u0:Int)(a:Bool):Option bO:=
 some (⟨u0,a⟩:bO)
theorem kq {ro:Addr->Option Value}(u0:Int)(a:Bool){r:bO}(h:mG u0 a=some r):aC Tryz.prog 50 #[.int .i64 u0,.bool a] ⟨ro,[]⟩ (fun v _=>v=r.v):=by
 unfold mG at h;obtain rfl:=sI h;refine aC.go Tryz.func50 rfl Tryz.ntmps50 Tryz.results50 (by simp) fun main J hJ A b hd hs=>?_;have c:=hs 0;have k1:=hs 1;clear hs;refine ah hJ ?_;simp only[*,go_sem];refine ax fun d r1 n1=>?_;try simp only[au] at n1
 try simp only[*,go_sem]
 refine ah hJ ?_;simp only[*,go_sem];refine az ?_;simp only[*,go_sem]
def p8 (u0:ak)(a:bO):Option ak:=
 ag (c6 ([]:List bO) u0.told) fun b=>ag (c6 b ([a])) fun c=>some (⟨u0.bE,u0.bI,u0.aN,u0.ay,u0.props,u0.aE,c⟩:ak)
theorem nU {ro:Addr->Option Value}(u0:ak){s1 b c N:Value}(j:bJ ro u0 s1 b c N)(a:bO){r:ak}(h:p8 u0 a=some r):eD Tryz.prog 38 #[bv u0 s1 b c N,.agg #[.int .i64 a.aW,.bool a.bw]] ro (fun v aM=>∃O w1 w2 w3,v=bv r O w1 w2 w3/\bJ aM r O w1 w2 w3):=by
 obtain ⟨d24,i,rfl,eQ,eS,-⟩:=id j.t;unfold p8 at h;have b0:=j.oc;simp only[bH] at b0;refine aC.go Tryz.func38 rfl Tryz.ntmps38 Tryz.results38 (by simp) fun main J hJ A e0 hd hs=>?_;have e1:=hs 0;have k1:=hs 1;clear hs;refine ah hJ ?_;simp only[*,go_sem,-h];refine ax fun d q b1=>?_;try simp only[au] at b1
 refine ax fun f s b2=>?_;try simp only[au] at b2
 refine ax fun g u b3=>?_;try simp only[au] at b3
 try simp only[*,go_sem,-h]
 refine af hJ ?_;refine aA hJ fun P=>?_;refine eF hJ mixed [8] (.pure 1 (.rd 2 (.rd 4 (.two 0 (.two 3 (.one 5 (.one 6 (.pure 7 (.last 8 .done)))) 5 (.one 3 (.one 6 (.pure 7 (.last 8 .done))))) 5 (.one 0 (.one 3 (.one 6 (.pure 7 (.last 8 .done))))))))) ⟨ro,[(g,bz 29),(f,.cells #[.int .i64 a.aW,.bool a.bw] 76),(d,bk u0 s1 b c (sl d24 u0.told i))]⟩ (by simp only[*,go_sem,-h]) (by kernel_rfl) ?_;simp only[*,go_sem,-h];refine j4 ?_ ?_
 ·simp only[*,go_sem,-h];refine ax fun C Q R=>?_;have S:=aP.cons R P;try simp only[au] at R
  try simp only[*,go_sem,-h]
  refine j4 ?_ ?_
  ·revert h;refine bS fun b4 b5 h=>?_;obtain ⟨ca,T⟩:=dr b5;simp only[*,go_sem,-h];have cb:aO dc ro 76 (.slice (some ⟨C,0,none⟩) 0 0) ([]:List bO) [(C,.cells #[] 76)]:=aO.empty Q;refine pE (r:=dc) (l:=([]:List bO)) (xs:=u0.told) [] ((g,bz 29)::(f,.cells #[.int .i64 a.aW,.bool a.bw] 76)::(d,bk u0 s1 b c (sl d24 u0.told i))::[]) cb S ca j.t rfl rfl ek ek hU ie rfl ia (by decide) (by decide) (fun e3 w F k m U=>?_);simp only[aV] at m;subst k;rw[<-T] at F;clear T;obtain ⟨d144,fa,rfl,fb⟩:=F.len;have cd:=aP.back (l:=(g,bz 29)::(f,.cells #[.int .i64 a.aW,.bool a.bw] 76)::(d,bk u0 s1 b c (sl d24 u0.told i))::w) (l':=[]++(w++([(g,bz 29),(f,.cells #[.int .i64 a.aW,.bool a.bw] 76),(d,bk u0 s1 b c (sl d24 u0.told i))]++[]))) [] [(g,bz 29),(f,.cells #[.int .i64 a.aW,.bool a.bw] 76),(d,bk u0 s1 b c (sl d24 u0.told i))] w [] (by first|rfl|simp only[aV]|(simp only[aV];rfl)) (by first|rfl|simp only[aV]|(simp only[aV];rfl)) (by first|exact U|simpa only[List.append_nil,List.nil_append,List.cons_append,List.append_assoc] using U);refine ⟨⟨ro,(g,bz 29)::(f,.cells #[.int .i64 a.aW,.bool a.bw] 76)::(d,bk u0 s1 b c (sl d24 u0.told i))::w⟩,Le.back [] [(g,bz 29),(f,.cells #[.int .i64 a.aW,.bool a.bw] 76),(d,bk u0 s1 b c (sl d24 u0.told i))] w [] (by first|rfl|simp only[aV]|(simp only[aV];rfl)) (by first|rfl|simp only[aV]|(simp only[aV];rfl)),?_⟩;refine ⟨by simp only[*,go_sem,-h],bX ?_⟩;revert h;refine bS fun V cf h=>?_;obtain ⟨cl,W⟩:=dr cf;(try simp only[*,go_sem,-h]);refine ax fun G X Y=>?_;have cu:=aP.cons Y cd;try simp only[au] at Y
   (try simp only[*,go_sem,-h]);refine dY (r:=dc) (l:=b4) (x:=a) (cs:=#[.int .i64 a.aW,.bool a.bw]) (e2:=76) [(G,.cells #[.int .i64 a.aW,.bool a.bw] 76),(g,bz 29),(f,.cells #[.int .i64 a.aW,.bool a.bw] 76),(d,bk u0 s1 b c (sl d24 u0.told i))] [] F cu cl rfl (by simp only[*,go_sem,-h]) X rfl rfl ek ek hU ie rfl ia (by decide) (by decide) (fun fg cy H k m fi=>?_);simp only[aV] at m;subst k;rw[<-W] at H;clear W;obtain ⟨d158,Z,rfl,fo⟩:=H.len;refine ⟨⟨ro,(G,.cells #[.int .i64 a.aW,.bool a.bw] 76)::(g,bz 29)::(f,.cells #[.int .i64 a.aW,.bool a.bw] 76)::(d,bk u0 s1 b c (sl d24 u0.told i))::cy⟩,Le.refl _,?_⟩;refine ⟨by simp only[*,go_sem,-h],bX ?_⟩;(try simp only[*,go_sem,-h]);refine af hJ ?_;refine aA hJ fun fp=>?_;refine aj hJ ?_;simp only[*,go_sem,-h];obtain rfl:=sI h;refine aA hJ fun ab=>?_;obtain ⟨fr,ad,D,ae,cS⟩:=H.eU [(G,.cells #[.int .i64 a.aW,.bool a.bw] 76),(g,bk u0 s1 b c (sl d158 V Z)),(f,.cells #[.int .i64 a.aW,.bool a.bw] 76),(d,bk u0 s1 b c (sl d158 V Z))] [] ab (aD.cons X (aD.cons u (aD.cons s (aD.cons q (aD.nil _)))));clear ab;refine cF hJ cS ?_;obtain ⟨fs,ft,-⟩:=ae.op;replace j:=j.mono ad;replace u:=D.tl.hd;replace s:=D.tl.tl.hd;replace q:=D.tl.tl.tl.hd;simp only[bu] at D;refine az ?_;simp only[*,go_sem];exact ⟨_,ad,Le.sub (List.nil_sublist _),_,_,_,_,rfl,⟨j.e,j.p,j.y,ae⟩⟩
  revert h;refine bS fun c0 da h=>?_;obtain ⟨db,al⟩:=dr da;simp only[*,go_sem,-h];refine ax fun n ao ar=>?_;have dd:=aP.cons ar S;try simp only[au] at ar
  try simp only[*,go_sem,-h]
  have df:aO dc ro 76 (.slice (some ⟨C,0,none⟩) 0 0) ([]:List bO) [(C,.cells #[] 76)]:=aO.empty Q;refine pE (r:=dc) (l:=([]:List bO)) (xs:=u0.told) [(n,.cells #[.int .i64 a.aW,.bool a.bw] 76)] ((g,bz 29)::(f,.cells #[.int .i64 a.aW,.bool a.bw] 76)::(d,bk u0 s1 b c (sl d24 u0.told i))::[]) df dd db j.t rfl rfl ek ek hU ie rfl ia (by decide) (by decide) (fun fu z I k m a0=>?_);simp only[aV] at m;subst k;rw[<-al] at I;clear al;obtain ⟨d179,fv,rfl,fw⟩:=I.len;have dk:=aP.back (l:=(n,.cells #[.int .i64 a.aW,.bool a.bw] 76)::(g,bz 29)::(f,.cells #[.int .i64 a.aW,.bool a.bw] 76)::(d,bk u0 s1 b c (sl d24 u0.told i))::z) (l':=[(n,.cells #[.int .i64 a.aW,.bool a.bw] 76)]++(z++([(g,bz 29),(f,.cells #[.int .i64 a.aW,.bool a.bw] 76),(d,bk u0 s1 b c (sl d24 u0.told i))]++[]))) [(n,.cells #[.int .i64 a.aW,.bool a.bw] 76)] [(g,bz 29),(f,.cells #[.int .i64 a.aW,.bool a.bw] 76),(d,bk u0 s1 b c (sl d24 u0.told i))] z [] (by first|rfl|simp only[aV]|(simp only[aV];rfl)) (by first|rfl|simp only[aV]|(simp only[aV];rfl)) (by first|exact a0|simpa only[List.append_nil,List.nil_append,List.cons_append,List.append_assoc] using a0);refine ⟨⟨ro,(n,.cells #[.int .i64 a.aW,.bool a.bw] 76)::(g,bz 29)::(f,.cells #[.int .i64 a.aW,.bool a.bw] 76)::(d,bk u0 s1 b c (sl d24 u0.told i))::z⟩,Le.back [(n,.cells #[.int .i64 a.aW,.bool a.bw] 76)] [(g,bz 29),(f,.cells #[.int .i64 a.aW,.bool a.bw] 76),(d,bk u0 s1 b c (sl d24 u0.told i))] z [] (by first|rfl|simp only[aV]|(simp only[aV];rfl)) (by first|rfl|simp only[aV]|(simp only[aV];rfl)),?_⟩;refine ⟨by simp only[*,go_sem,-h],bX ?_⟩;revert h;refine bS fun a2 dp h=>?_;obtain ⟨dq,a3⟩:=dr dp;try simp only[*,go_sem,-h]
  refine dY (r:=dc) (l:=c0) (x:=a) (cs:=#[.int .i64 a.aW,.bool a.bw]) (e2:=76) [(n,.cells #[.int .i64 a.aW,.bool a.bw] 76),(g,bz 29),(f,.cells #[.int .i64 a.aW,.bool a.bw] 76),(d,bk u0 s1 b c (sl d24 u0.told i))] [] I dk dq rfl (by simp only[*,go_sem,-h]) ao rfl rfl ek ek hU ie rfl ia (by decide) (by decide) (fun fx ds K k m gg=>?_);simp only[aV] at m;subst k;rw[<-a3] at K;clear a3;obtain ⟨d191,a4,rfl,gl⟩:=K.len;refine ⟨⟨ro,(n,.cells #[.int .i64 a.aW,.bool a.bw] 76)::(g,bz 29)::(f,.cells #[.int .i64 a.aW,.bool a.bw] 76)::(d,bk u0 s1 b c (sl d24 u0.told i))::ds⟩,Le.refl _,?_⟩;refine ⟨by simp only[*,go_sem,-h],bX ?_⟩;try simp only[*,go_sem,-h]
  refine af hJ ?_;refine aA hJ fun gn=>?_;refine aj hJ ?_;simp only[*,go_sem,-h];obtain rfl:=sI h;refine aA hJ fun a5=>?_;obtain ⟨gp,a6,E,a7,dt⟩:=K.eU [(n,.cells #[.int .i64 a.aW,.bool a.bw] 76),(g,bk u0 s1 b c (sl d191 a2 a4)),(f,.cells #[.int .i64 a.aW,.bool a.bw] 76),(d,bk u0 s1 b c (sl d191 a2 a4))] [] a5 (aD.cons ao (aD.cons u (aD.cons s (aD.cons q (aD.nil _)))));clear a5;refine cF hJ dt ?_;obtain ⟨gB,gC,-⟩:=a7.op;replace j:=j.mono a6;replace u:=E.tl.hd;replace s:=E.tl.tl.hd;replace q:=E.tl.tl.tl.hd;simp only[bu] at E;refine az ?_;simp only[*,go_sem];exact ⟨_,a6,Le.sub (List.nil_sublist _),_,_,_,_,rfl,⟨j.e,j.p,j.y,a7⟩⟩
 revert h;refine bS fun du dv h=>?_;obtain ⟨dC,a8⟩:=dr dv;simp only[*,go_sem,-h];refine ax fun o a9 ba=>?_;have dE:=aP.cons ba P;try simp only[au] at ba
 try simp only[*,go_sem,-h]
 refine ax fun bb dT bc=>?_;have ea:=aP.cons bc dE;try simp only[au] at bc
 try simp only[*,go_sem,-h]
 have eb:aO dc ro 76 (.slice (some ⟨bb,0,none⟩) 0 0) ([]:List bO) [(bb,.cells #[] 76)]:=aO.empty dT;refine pE (r:=dc) (l:=([]:List bO)) (xs:=u0.told) [] ((o,.cells #[.int .i64 a.aW,.bool a.bw] 76)::(g,bz 29)::(f,.cells #[.int .i64 a.aW,.bool a.bw] 76)::(d,bk u0 s1 b c (sl d24 u0.told i))::[]) eb ea dC j.t rfl rfl ek ek hU ie rfl ia (by decide) (by decide) (fun gM B L k m bd=>?_);simp only[aV] at m;subst k;rw[<-a8] at L;clear a8;obtain ⟨d214,gT,rfl,gV⟩:=L.len;have ec:=aP.back (l:=(o,.cells #[.int .i64 a.aW,.bool a.bw] 76)::(g,bz 29)::(f,.cells #[.int .i64 a.aW,.bool a.bw] 76)::(d,bk u0 s1 b c (sl d24 u0.told i))::B) (l':=[]++(B++([(o,.cells #[.int .i64 a.aW,.bool a.bw] 76),(g,bz 29),(f,.cells #[.int .i64 a.aW,.bool a.bw] 76),(d,bk u0 s1 b c (sl d24 u0.told i))]++[]))) [] [(o,.cells #[.int .i64 a.aW,.bool a.bw] 76),(g,bz 29),(f,.cells #[.int .i64 a.aW,.bool a.bw] 76),(d,bk u0 s1 b c (sl d24 u0.told i))] B [] (by first|rfl|simp only[aV]|(simp only[aV];rfl)) (by first|rfl|simp only[aV]|(simp only[aV];rfl)) (by first|exact bd|simpa only[List.append_nil,List.nil_append,List.cons_append,List.append_assoc] using bd);refine ⟨⟨ro,(o,.cells #[.int .i64 a.aW,.bool a.bw] 76)::(g,bz 29)::(f,.cells #[.int .i64 a.aW,.bool a.bw] 76)::(d,bk u0 s1 b c (sl d24 u0.told i))::B⟩,Le.back [] [(o,.cells #[.int .i64 a.aW,.bool a.bw] 76),(g,bz 29),(f,.cells #[.int .i64 a.aW,.bool a.bw] 76),(d,bk u0 s1 b c (sl d24 u0.told i))] B [] (by first|rfl|simp only[aV]|(simp only[aV];rfl)) (by first|rfl|simp only[aV]|(simp only[aV];rfl)),?_⟩;refine ⟨by simp only[*,go_sem,-h],bX ?_⟩;revert h;refine bS fun bj ed h=>?_;obtain ⟨eh,bl⟩:=dr ed;try simp only[*,go_sem,-h]
 refine dY (r:=dc) (l:=du) (x:=a) (cs:=#[.int .i64 a.aW,.bool a.bw]) (e2:=76) [(o,.cells #[.int .i64 a.aW,.bool a.bw] 76),(g,bz 29),(f,.cells #[.int .i64 a.aW,.bool a.bw] 76),(d,bk u0 s1 b c (sl d24 u0.told i))] [] L ec eh rfl (by simp only[*,go_sem,-h]) a9 rfl rfl ek ek hU ie rfl ia (by decide) (by decide) (fun g0 et M k m g1=>?_);simp only[aV] at m;subst k;rw[<-bl] at M;clear bl;obtain ⟨d226,bm,rfl,g2⟩:=M.len;refine ⟨⟨ro,(o,.cells #[.int .i64 a.aW,.bool a.bw] 76)::(g,bz 29)::(f,.cells #[.int .i64 a.aW,.bool a.bw] 76)::(d,bk u0 s1 b c (sl d24 u0.told i))::et⟩,Le.refl _,?_⟩;refine ⟨by simp only[*,go_sem,-h],bX ?_⟩;try simp only[*,go_sem,-h]
 refine af hJ ?_;refine aA hJ fun g3=>?_;refine aj hJ ?_;simp only[*,go_sem,-h];obtain rfl:=sI h;refine aA hJ fun bo=>?_;obtain ⟨g4,br,eu,bs,ev⟩:=M.eU [(o,.cells #[.int .i64 a.aW,.bool a.bw] 76),(g,bk u0 s1 b c (sl d226 bj bm)),(f,.cells #[.int .i64 a.aW,.bool a.bw] 76),(d,bk u0 s1 b c (sl d226 bj bm))] [] bo (aD.cons a9 (aD.cons u (aD.cons s (aD.cons q (aD.nil _)))));clear bo;refine cF hJ ev ?_;obtain ⟨ha,hc,-⟩:=bs.op;replace j:=j.mono br;simp only[bu] at eu;refine az ?_;simp only[*,go_sem];exact ⟨_,br,Le.sub (List.nil_sublist _),_,_,_,_,rfl,⟨j.e,j.p,j.y,bs⟩⟩
def wU (a:(List Int))(b:Int)(st:(Int×(List ck))):Option (Fl (Int×(List ck)) ak):=
 cond (decide (st.1<(a.length:Int))) (ag (bp a st.1) fun c=>ag (c6 st.2 ([(⟨c,b⟩:ck)])) fun d=>some (.nx ((IntKind.i64.wrap (st.1+1)),d))) (some (.bk (st.1,st.2)))
def wV (u0:ak)(a:(List Int))(b:Int):Option ak:=
 ag (c6 ([]:List ck) u0.props) fun c=>ag (bn (wU a b) fu (0,c)) fun o=>aG o (fun d=>some (⟨u0.bE,u0.bI,u0.aN,u0.ay,d.2,u0.aE,u0.told⟩:ak)) (fun _ _=>none) (fun r=>some r)
theorem GZ {ro:Addr->Option Value}(u0:ak){s1 H a b:Value}(k:bJ ro u0 s1 H a b)(w:(List Int)){I:Value}(K:aB rI ro I w)(n:Int){r:ak}(h:wV u0 w n=some r):eD Tryz.prog 61 #[bv u0 s1 H a b,I,.int .i64 n] ro (fun v aM=>∃L w1 w2 w3,v=bv r L w1 w2 w3/\bJ aM r L w1 w2 w3):=by
 obtain ⟨d10,c,rfl,dd,df,-⟩:=id k.p;obtain ⟨d31,dk,rfl,dp,dq,-⟩:=id K;unfold wV at h;have ad:=k.oc;simp only[bH] at ad;refine aC.go Tryz.func61 rfl Tryz.ntmps61 Tryz.results61 (by simp) fun main J hJ A ae hd hs=>?_;have al:=hs 0;have k1:=hs 1;have ao:=hs 2;clear hs;refine ah hJ ?_;simp only[*,go_sem];refine ax fun f ar a0=>?_;try simp only[au] at a0
 refine ax fun g a2 a3=>?_;try simp only[au] at a3
 try simp only[*,go_sem]
 refine ah hJ ?_;simp only[*,go_sem];refine ax fun i a4 a5=>?_;try simp only[au] at a5
 try simp only[*,go_sem]
 refine af hJ ?_;refine aA hJ fun a6=>?_;refine aj hJ ?_;revert h;refine bS fun a7 a8 h=>?_;obtain ⟨a9,M⟩:=dr a8;simp only[*,go_sem];refine ax fun N ba O=>?_;have bb:=aP.cons O a6;try simp only[au] at O
 try simp only[*,go_sem]
 have bc:aO er ro 96 (.slice (some ⟨N,0,none⟩) 0 0) ([]:List ck) [(N,.cells #[] 96)]:=aO.empty ba;refine pE (r:=er) (l:=([]:List ck)) (xs:=u0.props) [] ((i,bk u0 s1 (sl d10 u0.props c) a b)::(g,bz 29)::(f,bk u0 s1 (sl d10 u0.props c) a b)::[]) bc bb a9 k.p rfl rfl kX kX q8 rf rfl q9 (by decide) (by decide) (fun ds o z B C P=>?_);simp only[aV] at C;subst B;rw[<-M] at z;clear M;obtain ⟨d48,bd,rfl,bj⟩:=z.len;have dt:=aP.back (l:=(i,bk u0 s1 (sl d10 u0.props c) a b)::(g,bz 29)::(f,bk u0 s1 (sl d10 u0.props c) a b)::o) (l':=[]++(o++([(i,bk u0 s1 (sl d10 u0.props c) a b),(g,bz 29),(f,bk u0 s1 (sl d10 u0.props c) a b)]++[]))) [] [(i,bk u0 s1 (sl d10 u0.props c) a b),(g,bz 29),(f,bk u0 s1 (sl d10 u0.props c) a b)] o [] (by first|rfl|simp only[aV]|(simp only[aV];rfl)) (by first|rfl|simp only[aV]|(simp only[aV];rfl)) (by first|exact P|simpa only[List.append_nil,List.nil_append,List.cons_append,List.append_assoc] using P);refine ⟨⟨ro,(i,bk u0 s1 (sl d10 u0.props c) a b)::(g,bz 29)::(f,bk u0 s1 (sl d10 u0.props c) a b)::o⟩,Le.back [] [(i,bk u0 s1 (sl d10 u0.props c) a b),(g,bz 29),(f,bk u0 s1 (sl d10 u0.props c) a b)] o [] (by first|rfl|simp only[aV]|(simp only[aV];rfl)) (by first|rfl|simp only[aV]|(simp only[aV];rfl)),?_⟩;refine aJ ?_;try simp only[*,go_sem]
 refine af hJ (af hJ ?_);refine aA hJ fun du=>?_;refine aj hJ ?_;simp only[*,go_sem];refine aQ hJ ?_;revert h;refine bS fun bl s bm=>?_;refine bU hJ [8,15,16,17,18,19,20,21,22,23,24,25,26,27,28,29,30,31] (fun m bo F'=>∃(d57:Option Addr) (j:Nat) (D:List (Nat×Obj)) (u:Int) (d:(List ck)),bn (wU w n) m (u,d)=some bl/\F'=⟨ro,(i,bk u0 s1 (sl d57 d j) a b)::(g,bz 29)::(f,bk u0 s1 (sl d10 u0.props c) a b)::D⟩/\aO er ro 96 (.slice d57 d.length j) d D/\d.length<=j/\slot bo 8= .int .i64 u) fu ?_ ?_
 ·refine ⟨d48,bd,o,0,a7,s,rfl,z,bj,?_⟩;simp only[*,go_sem]
 rintro E dv F' Q ⟨d57,j,D,u,d,s,rfl,R,dC,dE⟩;obtain ⟨br,bs,b0⟩:=Q.pick [1,2,6,7] (by decide);simp only[*,go_sem] at br bs b0;clear Q ae hd al k1 ao;obtain _|E:=E
 ·exact absurd s (by simp only[bn,reduceCtorEq,not_false_eq_true])
 revert s;refine bS fun dT h F=>?_;unfold wU at h;try dsimp only at h
 refine af hJ (af hJ ?_);refine aA hJ fun ea=>?_;refine aj hJ ?_;simp only[*,go_sem];revert h;refine jC hJ (by simp only[*,go_sem]) (fun b1 h=>?_) fun b1 h=>?_
 ·refine aI hJ (af hJ ?_);refine aQ hJ ?_;refine aA hJ fun b2=>?_;refine eF hJ mixed [11] (.pure 0 (.rd 1 (.pure 2 (.pure 3 (.pure 4 (.rd 5 (.pure 6 (.pure 7 (.one 8 (.one 9 (.pure 10 (.last 11 .done)))))))))))) ⟨ro,[(i,bk u0 s1 (sl d57 d j) a b),(g,bz 29),(f,bk u0 s1 (sl d10 u0.props c) a b)]⟩ (by simp only[*,go_sem]) (by kernel_rfl) ?_;revert h;refine bS fun q b3 h=>?_;obtain ⟨eb,ec,S⟩:=c5 b3;obtain ⟨ed,b4,b5,ca,T⟩:=K.el _ _ S;obtain rfl:b4=[.int .i64 q]:=ca;cases b5;have cb:=T 0 _ rfl;simp only[go_sem] at cb;clear T S;revert h;refine bS fun cd cf h=>?_;obtain rfl:=sI h;obtain ⟨cl,U⟩:=dr cf;try simp only[*,go_sem]
  refine ax fun V cu W=>?_;have cy:=aP.cons W b2;try simp only[au] at W
  try simp only[*,go_sem]
  refine dY (r:=er) (l:=d) (x:=(⟨q,n⟩:ck)) (cs:=#[.int .i64 q,.int .i64 n]) (e2:=96) [(V,.cells #[.int .i64 q,.int .i64 n] 96),(i,bk u0 s1 (sl d57 d j) a b),(g,bz 29),(f,bk u0 s1 (sl d10 u0.props c) a b)] [] R cy cl rfl (by simp only[*,go_sem]) cu rfl rfl kX kX q8 rf rfl q9 (by decide) (by decide) (fun eh X G B C et=>?_);simp only[aV] at C;subst B;rw[<-U] at G;clear U;obtain ⟨d111,cS,rfl,c0⟩:=G.len;refine ⟨⟨ro,(V,.cells #[.int .i64 q,.int .i64 n] 96)::(i,bk u0 s1 (sl d57 d j) a b)::(g,bz 29)::(f,bk u0 s1 (sl d10 u0.props c) a b)::X⟩,Le.refl _,?_⟩;refine ⟨by simp only[*,go_sem],bX ?_⟩;try simp only[*,go_sem]
  refine aA hJ fun eu=>?_;refine aj hJ ?_;simp only[*,go_sem];refine ⟨E,Nat.lt_succ_self _,_,Le.sub (List.Sublist.cons _ (List.Sublist.refl _)),d111,cS,X,(IntKind.i64.wrap (u+1)),cd,F,rfl,G,c0,?_⟩;simp only[*,go_sem]
 obtain rfl:=sI h;refine bN ?_;simp only[go_sem];obtain rfl:=sI F;clear F;have h:=bm;dsimp only[aG] at h;obtain rfl:=sI h;refine af hJ ?_;refine aA hJ fun ev=>?_;refine aj hJ ?_;simp only[*,go_sem];refine aA hJ fun Y=>?_;obtain ⟨eQ,Z,da,ab,db⟩:=R.eU [(i,bk u0 s1 (sl d57 d j) a b),(g,bk u0 s1 (sl d57 d j) a b),(f,bk u0 s1 (sl d10 u0.props c) a b)] [] Y (aD.cons a4 (aD.cons a2 (aD.cons ar (aD.nil _))));clear Y;refine cF hJ db ?_;obtain ⟨eS,e0,-⟩:=ab.op;replace k:=k.mono Z;simp only[bu] at da;refine az ?_;simp only[*,go_sem];exact ⟨_,Z,Le.sub (List.nil_sublist _),_,_,_,_,rfl,⟨k.e,ab,k.y,k.t⟩⟩
def wW :Option ak:=
 ag (fK 1 2) fun a=>ag (p6 10 12) fun b=>ag (p6 10 10) fun c=>some (⟨20,2,a,[(⟨0,2⟩:b7),(⟨8,4⟩:b7),(⟨14,4⟩:b7)],([]:(List ck)),[(⟨2,b⟩:bY),(⟨4,c⟩:bY)],([]:(List bO))⟩:ak)
theorem G0 {ro:Addr->Option Value}{r:ak}(h:wW=some r):eD Tryz.prog 60 #[] ro (fun v aM=>∃m w1 w2 w3,v=bv r m w1 w2 w3/\bJ aM r m w1 w2 w3):=by
 unfold wW at h;refine aC.go Tryz.func60 rfl Tryz.ntmps60 Tryz.results60 (by simp) fun main J hJ A H hd hs=>?_;clear hs;refine ah hJ ?_;simp only[*,go_sem];refine ax fun n r1 n1=>?_;try simp only[au] at n1
 try simp only[*,go_sem]
 refine af hJ ?_;refine aA hJ fun C=>?_;refine aj hJ ?_;revert h;refine bS fun g D h=>?_;simp only[*,go_sem];refine bg hJ _ (gE 1 2 D) (aJ ?_);revert h;refine bS fun a E h=>?_;try simp only[*,go_sem]
 refine ax fun b5 p q=>?_;have F:=aP.cons q C;try simp only[au] at q
 try simp only[*,go_sem]
 refine bg hJ _ (sH 10 12 E) (aJ ?_);revert h;refine bS fun c G h=>?_;obtain rfl:=sI h;try simp only[*,go_sem]
 refine bg hJ _ (sH 10 10 G) (aJ ?_);try simp only[*,go_sem]
 refine ax fun d i s=>?_;have I:=aP.cons s F;try simp only[au] at s
 try simp only[*,go_sem]
 refine aA hJ fun t=>?_;obtain ⟨u,j,w⟩:=fP (b:=b5) (o:=(.cells #[.int .i64 0,.int .i64 2,.int .i64 8,.int .i64 4,.int .i64 14,.int .i64 4] 85)) [(d,.cells #[.int .i64 2,.int .i64 a.low,.int .i64 a.high,.int .i64 4,.int .i64 c.low,.int .i64 c.high] 41)] ((n,.cells #[.int .i64 20,.int .i64 2,.int .i64 g.num,.int .i64 g.den,.slice (some ⟨b5,0,none⟩) 3 3,.slice none 0 0,.slice (some ⟨d,0,none⟩) 2 2,.slice none 0 0] 29)::[]) t p (aD.cons i (aD.cons r1 (aD.nil _)));clear t;have f:aB eW (bR ro b5 (.cells #[.int .i64 0,.int .i64 2,.int .i64 8,.int .i64 4,.int .i64 14,.int .i64 4] 85)) (.slice (some ⟨b5,0,none⟩) 3 3) [(⟨0,2⟩:b7),(⟨8,4⟩:b7),(⟨14,4⟩:b7)]:=(aB.flat (r:=eW) (e:=85) (cs:=#[.int .i64 0,.int .i64 2,.int .i64 8,.int .i64 4,.int .i64 14,.int .i64 4]) b7.cells ([(⟨0,2⟩:b7),(⟨8,4⟩:b7),(⟨14,4⟩:b7)]) (fun _=>rfl) p rfl (by simp))
 generalize bR ro b5 (.cells #[.int .i64 0,.int .i64 2,.int .i64 8,.int .i64 4,.int .i64 14,.int .i64 4] 85)=x at u j w f;refine cF hJ w ?_;obtain ⟨K,L,-⟩:=f.op;replace i:=j.hd;replace r1:=j.tl.hd;simp only[bu] at j;refine aA hJ fun y=>?_;obtain ⟨k,z,B⟩:=fP (b:=d) (o:=(.cells #[.int .i64 2,.int .i64 a.low,.int .i64 a.high,.int .i64 4,.int .i64 c.low,.int .i64 c.high] 41)) [] ((n,.cells #[.int .i64 20,.int .i64 2,.int .i64 g.num,.int .i64 g.den,.slice (some ⟨b5,0,none⟩) ([(⟨0,2⟩:b7),(⟨8,4⟩:b7),(⟨14,4⟩:b7)]).length 3,.slice none 0 0,.slice (some ⟨d,0,none⟩) 2 2,.slice none 0 0] 29)::[]) y i (aD.cons r1 (aD.nil _));clear y;have l:aB eN (bR x d (.cells #[.int .i64 2,.int .i64 a.low,.int .i64 a.high,.int .i64 4,.int .i64 c.low,.int .i64 c.high] 41)) (.slice (some ⟨d,0,none⟩) 2 2) [(⟨2,a⟩:bY),(⟨4,c⟩:bY)]:=(aB.flat (r:=eN) (e:=41) (cs:=#[.int .i64 2,.int .i64 a.low,.int .i64 a.high,.int .i64 4,.int .i64 c.low,.int .i64 c.high]) bY.cells ([(⟨2,a⟩:bY),(⟨4,c⟩:bY)]) (fun _=>rfl) i rfl (by simp))
 generalize bR x d (.cells #[.int .i64 2,.int .i64 a.low,.int .i64 a.high,.int .i64 4,.int .i64 c.low,.int .i64 c.high] 41)=M at k z B l;refine cF hJ B ?_;obtain ⟨N,O,-⟩:=l.op;replace f:=f.mono k;simp only[bu] at z;refine az ?_;simp only[*,go_sem];exact ⟨_,(u).trans k,Le.sub (List.nil_sublist _),_,_,_,_,rfl,f,aB.nil _ _,l,aB.nil _ _⟩
def p9 (u0:ak)(st:(Int×Int)):Option (Fl (Int×Int) Int):=
 cond (decide (st.2<(u0.ay.length:Int))) (ag (bp u0.ay st.2) fun a=>ag (eI a.aL 0 (IntKind.i64.wrap (u0.bE - 1))) fun b=>cond (!b) (some (.rt 1)) (ag (eI a.high 0 60) fun c=>cond (!c) (some (.rt 1)) (cond (decide (0<st.2)) (ag (bp u0.ay (IntKind.i64.wrap (st.2 - 1))) fun d=>cond (decide (a.aL<=d.aL)) (some (.rt 7)) (some (.nx (st.1,(IntKind.i64.wrap (st.2+1)))))) (some (.nx (st.1,(IntKind.i64.wrap (st.2+1)))))))) (some (.bk (st.1,st.2)))
def mH (u0:ak):Option Int:=
 ag (eI (u0.ay.length:Int) 2 5) fun a=>cond (!a) (some 2) (ag (bn (p9 u0) fu (0,0)) fun o=>aG o (fun b=>some 0) (fun _ _=>none) (fun r=>some r))
theorem G1 {ro:Addr->Option Value}(u0:ak){s1 i j k:Value}(l:bJ ro u0 s1 i j k){r:Int}(h:mH u0=some r):aC Tryz.prog 94 #[bv u0 s1 i j k] ⟨ro,[]⟩ (fun v _=>v= .int .i64 r):=by
 obtain ⟨d3,c4,rfl,al,ao,-⟩:=id l.e;unfold mH at h;refine aC.go Tryz.func94 rfl Tryz.ntmps94 Tryz.results94 (by simp) fun main J hJ A w hd hs=>?_;have x:=hs 0;clear hs;refine ah hJ ?_;simp only[*,go_sem];refine ax fun y ar z=>?_;try simp only[au] at z
 try simp only[*,go_sem]
 refine af hJ (ah hJ ?_);revert h;refine bS fun a0 B h=>?_;simp only[*,go_sem];refine bg hJ _ (gS (u0.ay.length:Int) 2 5 B) (aJ ?_);try simp only[*,go_sem]
 revert h;refine jC hJ (by simp only[*,go_sem]) (fun C h=>?_) fun C h=>?_
 ·obtain rfl:=sI h;refine ah hJ ?_;simp only[*,go_sem];refine az ?_;simp only[*,go_sem]
 refine aI hJ (af hJ ?_);refine ah hJ ?_;simp only[*,go_sem];refine aQ hJ ?_;revert h;refine bS fun D d f=>?_;refine bU hJ [2,3,4,10,11,12,13,14,15,16,17,18,19,20,21,22,23,24,25,26,27,28,29,30,31,32,33,34,35,36,37,38,39,40,41,42,43,44,45,46,47,48] (fun m q F'=>∃(b:Int) (c:Int),bn (p9 u0) m (b,c)=some D/\F'=⟨ro,(y,bk u0 (sl d3 u0.ay c4) i j k)::[]⟩/\slot q 2= .int .i64 b/\slot q 3= .int .i64 c) fu ?_ ?_
 ·refine ⟨0,0,d,rfl,?_⟩;simp only[*,go_sem]
 rintro g a2 F' s ⟨b,c,d,rfl,a3,a4⟩;obtain ⟨E,F,G⟩:=s.pick [1] (by decide);simp only[*,go_sem] at E F G;clear s w hd x;obtain _|g:=g
 ·exact absurd d (by simp only[bn,reduceCtorEq,not_false_eq_true])
 revert d;refine bS fun a5 h a=>?_;unfold p9 at h;try dsimp only at h
 refine af hJ (ah hJ ?_);simp only[*,go_sem];revert h;refine jC hJ (by simp only[*,go_sem]) (fun H h=>?_) fun H h=>?_
 ·refine aI hJ (af hJ ?_);refine aQ hJ (af hJ ?_);refine aj hJ ?_;revert h;refine bS fun n I h=>?_;obtain ⟨a6,a7,t⟩:=c5 I;obtain ⟨a8,K,L,M,o⟩:=l.e.el _ _ t;obtain rfl:K=n.cells:=M;cases L;have N:=o 0 _ rfl;simp only[go_sem] at N;have O:=o 1 _ rfl;simp only[go_sem] at O;clear o t;try simp only[*,go_sem]
  refine ax fun a9 ba P=>?_;try simp only[au] at P
  try simp only[*,go_sem]
  refine af hJ (ah hJ ?_);revert h;refine bS fun bb Q h=>?_;simp only[*,go_sem];refine bg hJ _ (gS n.aL 0 (IntKind.i64.wrap (u0.bE - 1)) Q) (aJ ?_);revert h;refine cS (fun R h=>?_) fun R h=>?_
  ·obtain rfl:=sI h;(try simp only[*,go_sem]);refine bP hJ (by simp only[*,go_sem]) ?_;refine ah hJ ?_;simp only[*,go_sem];obtain rfl:=sI a;clear a;have h:=f;dsimp only[aG] at h;obtain rfl:=sI h;refine az ?_;simp only[*,go_sem]
  revert h;refine bS fun bc S h=>?_;try simp only[*,go_sem]
  refine bg hJ _ (gS n.high 0 60 S) (aJ ?_);try simp only[*,go_sem]
  revert h;refine jC hJ (by simp only[*,go_sem]) (fun T h=>?_) fun T h=>?_
  ·obtain rfl:=sI h;refine ah hJ ?_;simp only[*,go_sem];obtain rfl:=sI a;clear a;have h:=f;dsimp only[aG] at h;obtain rfl:=sI h;refine az ?_;simp only[*,go_sem]
  refine aI hJ (af hJ ?_);refine cR hJ mixed 14 2 (by simp only[*,go_sem]) (by kernel_rfl) ?_;revert h;refine cS (fun U h=>?_) fun U h=>?_
  ·revert h;refine bS fun V W h=>?_;obtain ⟨bd,bj,u⟩:=c5 W;obtain ⟨bl,X,Y,Z,p⟩:=l.e.el _ _ u;obtain rfl:X=V.cells:=Z;cases Y;have ab:=p 0 _ rfl;simp only[go_sem] at ab;have ad:=p 1 _ rfl;simp only[go_sem] at ad;clear p u;(try simp only[*,go_sem]);revert h;refine jC hJ (by simp only[*,go_sem]) (fun ae h=>?_) fun ae h=>?_
   ·obtain rfl:=sI h;refine ah hJ ?_;simp only[*,go_sem];obtain rfl:=sI a;clear a;have h:=f;dsimp only[aG] at h;obtain rfl:=sI h;refine az ?_;simp only[*,go_sem]
   obtain rfl:=sI h;refine aI hJ (aj hJ ?_);simp only[*,go_sem];refine ⟨g,Nat.lt_succ_self _,_,Le.sub (List.Sublist.cons _ (List.Sublist.refl _)),b,(IntKind.i64.wrap (c+1)),a,rfl,?_⟩;simp only[*,go_sem]
  obtain rfl:=sI h;try simp only[*,go_sem]
  refine bL hJ (by simp only[*,go_sem]) ?_;refine aI hJ (aj hJ ?_);simp only[*,go_sem];refine ⟨g,Nat.lt_succ_self _,_,Le.sub (List.Sublist.cons _ (List.Sublist.refl _)),b,(IntKind.i64.wrap (c+1)),a,rfl,?_⟩;simp only[*,go_sem]
 obtain rfl:=sI h;refine bN ?_;simp only[go_sem];obtain rfl:=sI a;clear a;have h:=f;dsimp only[aG] at h;obtain rfl:=sI h;refine ah hJ ?_;simp only[*,go_sem];refine az ?_;simp only[*,go_sem]
def AV (u0:ak)(st:(Int×Int)):Option (Fl (Int×Int) Int):=
 cond (decide (st.2<(u0.told.length:Int))) (ag (bp u0.told st.2) fun a=>ag (nP u0 a.aW) fun b=>cond (!b) (some (.rt 6)) (some (.nx (st.1,(IntKind.i64.wrap (st.2+1)))))) (some (.bk (st.1,st.2)))
def AW (u0:ak)(st:(Int×Int)):Option (Fl (Int×Int) Int):=
 cond (decide (st.2<(u0.aE.length:Int))) (ag (bp u0.aE st.2) fun a=>ag (eI a.back 1 20) fun b=>cond (!b) (some (.rt 1)) (ag (mD a.high 0 60) fun c=>cond (!c) (some (.rt 1)) (cond (decide (3<=(IntKind.i64.wrap (a.high.high - a.high.low)))) (some (.rt 1)) (some (.nx (st.1,(IntKind.i64.wrap (st.2+1)))))))) (some (.bk (st.1,st.2)))
def qa (u0:ak)(st:(Int×Int)):Option (Fl (Int×Int) Int):=
 cond (decide (st.2<(u0.props.length:Int))) (ag (bp u0.props st.2) fun a=>ag (mB u0 a.place) fun b=>cond (!b) (some (.rt 6)) (ag (eI a.dD 1 20) fun c=>cond (!c) (some (.rt 1)) (some (.nx (st.1,(IntKind.i64.wrap (st.2+1))))))) (some (.bk (st.1,st.2)))
def wX (u0:ak)(st:(Int×Int)):Option (Fl (Int×Int) Int):=
 cond (decide (st.2<(u0.aE.length:Int))) (ag (bp u0.aE st.2) fun a=>ag (eI a.back 1 20) fun b=>cond (!b) (some (.rt 1)) (ag (mD a.high 0 60) fun c=>cond (!c) (some (.rt 1)) (cond (decide (3<=(IntKind.i64.wrap (a.high.high - a.high.low)))) (some (.rt 1)) (some (.nx (st.1,(IntKind.i64.wrap (st.2+1)))))))) (some (.bk (st.1,st.2)))
def wY (u0:ak)(st:(Int×Int)):Option (Fl (Int×Int) Int):=
 cond (decide (st.2<(u0.told.length:Int))) (ag (bp u0.told st.2) fun a=>ag (nP u0 a.aW) fun b=>cond (!b) (some (.rt 6)) (some (.nx (st.1,(IntKind.i64.wrap (st.2+1)))))) (some (.bk (st.1,st.2)))
def mI (u0:ak):Option Int:=
 cond (decide (3<(u0.props.length:Int))) (some 2) (ag (bn (qa u0) fu (0,0)) fun o=>aG o (fun a=>ag (eI (u0.aE.length:Int) 1 3) fun b=>cond (!b) (some 2) (ag (bn (wX u0) fu (a.1,0)) fun o=>aG o (fun c=>cond (decide (3<(u0.told.length:Int))) (some 2) (ag (bn (wY u0) fu (c.1,0)) fun o=>aG o (fun d=>some 0) (fun _ _=>none) (fun r=>some r))) (fun _ _=>none) (fun r=>some r))) (fun _ _=>none) (fun r=>some r))
theorem G2 {ro:Addr->Option Value}(u0:ak){s1 N O P:Value}(b:bJ ro u0 s1 N O P){r:Int}(h:mI u0=some r):aC Tryz.prog 95 #[bv u0 s1 N O P] ⟨ro,[]⟩ (fun v _=>v= .int .i64 r):=by
 obtain ⟨d10,w,rfl,eb,ec,-⟩:=id b.p;obtain ⟨d17,x,rfl,ed,eh,-⟩:=id b.y;obtain ⟨d24,z,rfl,et,eu,-⟩:=id b.t;unfold mI at h;refine aC.go Tryz.func95 rfl Tryz.ntmps95 Tryz.results95 (by simp) fun main J hJ A ao hd hs=>?_;have ar:=hs 0;clear hs;refine ah hJ ?_;simp only[*,go_sem];refine ax fun B ev a0=>?_;try simp only[au] at a0
 try simp only[*,go_sem]
 refine af hJ (ah hJ ?_);simp only[*,go_sem];revert h;refine jC hJ (by simp only[*,go_sem]) (fun a2 h=>?_) fun a2 h=>?_
 ·obtain rfl:=sI h;refine ah hJ ?_;simp only[*,go_sem];refine az ?_;simp only[*,go_sem]
 refine aI hJ (af hJ ?_);refine ah hJ ?_;simp only[*,go_sem];refine aQ hJ ?_;revert h;refine bS fun a3 i C=>?_;refine bU hJ [2,3,11,12,13,14,15,16,17,18,19,20,21,22,23,24,25,26,27,28,29,30,31,32,33,34] (fun m c F'=>∃(e:Int) (j:Int),bn (qa u0) m (e,j)=some a3/\F'=⟨ro,(B,bk u0 s1 (sl d10 u0.props w) (sl d17 u0.aE x) (sl d24 u0.told z))::[]⟩/\slot c 2= .int .i64 e/\slot c 3= .int .i64 j) fu ?_ ?_
 ·refine ⟨0,0,i,rfl,?_⟩;simp only[*,go_sem]
 rintro D eQ F' Q ⟨e,j,i,rfl,a4,a5⟩;obtain ⟨R,S,T⟩:=Q.pick [1] (by decide);simp only[*,go_sem] at R S T;clear Q ao hd ar;obtain _|D:=D
 ·exact absurd i (by simp only[bn,reduceCtorEq,not_false_eq_true])
 revert i;refine bS fun eS h d=>?_;unfold qa at h;try dsimp only at h
 refine af hJ (ah hJ ?_);simp only[*,go_sem];revert h;refine jC hJ (by simp only[*,go_sem]) (fun a6 h=>?_) fun a6 h=>?_
 ·refine aI hJ (af hJ ?_);refine aQ hJ (af hJ ?_);refine af hJ ?_;refine cR hJ mixed 9 1 (by simp only[*,go_sem]) (by kernel_rfl) ?_;revert h;refine bS fun E a7 h=>?_;obtain ⟨e0,e1,U⟩:=c5 a7;obtain ⟨e2,a8,a9,ba,G⟩:=b.p.el _ _ U;obtain rfl:a8=E.cells:=ba;cases a9;have bb:=G 0 _ rfl;simp only[go_sem] at bb;have bc:=G 1 _ rfl;simp only[go_sem] at bc;clear G U;revert h;refine bS fun e3 bd h=>?_;try simp only[*,go_sem]
  refine ⟨_,bD hJ fun F H=>GV u0 (b.mono (cg H)) E.place bd,bZ ?_⟩;try simp only[*,go_sem]
  revert h;refine jC hJ (by simp only[*,go_sem]) (fun bj h=>?_) fun bj h=>?_
  ·obtain rfl:=sI h;refine ah hJ ?_;simp only[*,go_sem];obtain rfl:=sI d;clear d;have h:=C;dsimp only[aG] at h;obtain rfl:=sI h;refine az ?_;simp only[*,go_sem]
  refine aI hJ (af hJ ?_);refine aj hJ ?_;revert h;refine bS fun fa bl h=>?_;simp only[*,go_sem];refine bg hJ _ (gS E.dD 1 20 bl) (aJ ?_);try simp only[*,go_sem]
  revert h;refine jC hJ (by simp only[*,go_sem]) (fun bm h=>?_) fun bm h=>?_
  ·obtain rfl:=sI h;refine ah hJ ?_;simp only[*,go_sem];obtain rfl:=sI d;clear d;have h:=C;dsimp only[aG] at h;obtain rfl:=sI h;refine az ?_;simp only[*,go_sem]
  obtain rfl:=sI h;refine aI hJ (aj hJ ?_);simp only[*,go_sem];refine ⟨D,Nat.lt_succ_self _,_,Le.sub (List.Sublist.refl _),e,(IntKind.i64.wrap (j+1)),d,rfl,?_⟩;simp only[*,go_sem]
 obtain rfl:=sI h;refine bN ?_;simp only[go_sem];obtain rfl:=sI d;clear d;have h:=C;dsimp only[aG] at h;refine af hJ (ah hJ ?_);revert h;refine bS fun fb bo h=>?_;simp only[*,go_sem];refine bg hJ _ (gS (u0.aE.length:Int) 1 3 bo) (aJ ?_);try simp only[*,go_sem]
 revert h;refine jC hJ (by simp only[*,go_sem]) (fun br h=>?_) fun br h=>?_
 ·obtain rfl:=sI h;refine ah hJ ?_;simp only[*,go_sem];refine az ?_;simp only[*,go_sem]
 refine aI hJ (af hJ ?_);refine ah hJ ?_;simp only[*,go_sem];refine aQ hJ ?_;revert h;refine bS fun bs k l=>?_;refine bU hJ [2,4,5,40,41,42,43,44,45,46,47,48,49,50,51,52,53,54,55,56,57,58,59,60,61,62,63,64,65,66,67,68,69,70,71] (fun m c F'=>∃(f:Int) (n:Int),bn (AW u0) m (f,n)=some bs/\F'=⟨ro,(B,bk u0 s1 (sl d10 u0.props w) (sl d17 u0.aE x) (sl d24 u0.told z))::[]⟩/\slot c 2= .int .i64 f/\slot c 4= .int .i64 n) fu ?_ ?_
 ·refine ⟨e,0,k,rfl,?_⟩;simp only[*,go_sem]
 rintro I fg F' V ⟨f,n,k,rfl,bz,b0⟩;obtain ⟨W,X,Y⟩:=V.pick [1] (by decide);simp only[*,go_sem] at W X Y;clear V R S T a4 a5;obtain _|I:=I
 ·exact absurd k (by simp only[bn,reduceCtorEq,not_false_eq_true])
 revert k;refine bS fun fi h a=>?_;unfold AW at h;try dsimp only at h
 refine af hJ (ah hJ ?_);simp only[*,go_sem];revert h;refine jC hJ (by simp only[*,go_sem]) (fun b1 h=>?_) fun b1 h=>?_
 ·refine aI hJ (af hJ ?_);refine aQ hJ (af hJ ?_);refine aj hJ ?_;revert h;refine bS fun K b2 h=>?_;obtain ⟨fo,fp,Z⟩:=c5 b2;obtain ⟨fr,b3,b4,b5,o⟩:=b.y.el _ _ Z;obtain rfl:b3=K.cells:=b5;cases b4;have ca:=o 0 _ rfl;simp only[go_sem] at ca;have cb:=o 1 _ rfl;simp only[go_sem] at cb;have cd:=o 2 _ rfl;simp only[go_sem] at cd;clear o Z;try simp only[*,go_sem]
  refine ax fun fs ft cf=>?_;try simp only[au] at cf
  try simp only[*,go_sem]
  refine ah hJ ?_;revert h;refine bS fun fv cl h=>?_;simp only[*,go_sem];refine bg hJ _ (gS K.back 1 20 cl) (aJ ?_);revert h;refine cS (fun cu h=>?_) fun cu h=>?_
  ·obtain rfl:=sI h;(try simp only[*,go_sem]);refine bP hJ (by simp only[*,go_sem]) ?_;refine ah hJ ?_;simp only[*,go_sem];obtain rfl:=sI a;clear a;have h:=l;dsimp only[aG] at h;obtain rfl:=sI h;refine az ?_;simp only[*,go_sem]
  revert h;refine bS fun fw cy h=>?_;try simp only[*,go_sem]
  refine bg hJ _ (GX K.high 0 60 cy) (aJ ?_);revert h;refine cS (fun c0 h=>?_) fun c0 h=>?_
  ·obtain rfl:=sI h;(try simp only[*,go_sem]);refine bP hJ (by simp only[*,go_sem]) ?_;refine ah hJ ?_;simp only[*,go_sem];obtain rfl:=sI a;clear a;have h:=l;dsimp only[aG] at h;obtain rfl:=sI h;refine az ?_;simp only[*,go_sem]
  try simp only[*,go_sem]
  revert h;refine jC hJ (by simp only[*,go_sem]) (fun da h=>?_) fun da h=>?_
  ·obtain rfl:=sI h;refine ah hJ ?_;simp only[*,go_sem];obtain rfl:=sI a;clear a;have h:=l;dsimp only[aG] at h;obtain rfl:=sI h;refine az ?_;simp only[*,go_sem]
  obtain rfl:=sI h;refine aI hJ (aj hJ ?_);simp only[*,go_sem];refine ⟨I,Nat.lt_succ_self _,_,Le.sub (List.Sublist.cons _ (List.Sublist.refl _)),f,(IntKind.i64.wrap (n+1)),a,rfl,?_⟩;simp only[*,go_sem]
 obtain rfl:=sI h;refine bN ?_;simp only[go_sem];obtain rfl:=sI a;clear a;have h:=l;dsimp only[aG] at h;refine af hJ (ah hJ ?_);simp only[*,go_sem];revert h;refine jC hJ (by simp only[*,go_sem]) (fun db h=>?_) fun db h=>?_
 ·obtain rfl:=sI h;refine ah hJ ?_;simp only[*,go_sem];refine az ?_;simp only[*,go_sem]
 refine aI hJ (af hJ ?_);refine ah hJ ?_;simp only[*,go_sem];refine aQ hJ ?_;revert h;refine bS fun dd q ab=>?_;refine bU hJ [2,6,76,77,78,79,80,81,82,83,84,85,86,87,88,89,90,91] (fun m c F'=>∃(s:Int) (u:Int),bn (AV u0) m (s,u)=some dd/\F'=⟨ro,(B,bk u0 s1 (sl d10 u0.props w) (sl d17 u0.aE x) (sl d24 u0.told z))::[]⟩/\slot c 2= .int .i64 s/\slot c 6= .int .i64 u) fu ?_ ?_
 ·refine ⟨f,0,q,rfl,?_⟩;simp only[*,go_sem]
 rintro L fx F' ad ⟨s,u,q,rfl,gg,gl⟩;obtain ⟨df,dk,dp⟩:=ad.pick [1] (by decide);simp only[*,go_sem] at df dk dp;clear ad W X Y bz b0;obtain _|L:=L
 ·exact absurd q (by simp only[bn,reduceCtorEq,not_false_eq_true])
 revert q;refine bS fun gn h g=>?_;unfold AV at h;try dsimp only at h
 refine af hJ (ah hJ ?_);simp only[*,go_sem];revert h;refine jC hJ (by simp only[*,go_sem]) (fun dq h=>?_) fun dq h=>?_
 ·refine aI hJ (af hJ ?_);refine aQ hJ (af hJ ?_);refine cR hJ mixed 9 1 (by simp only[*,go_sem]) (by kernel_rfl) ?_;revert h;refine bS fun ae ds h=>?_;obtain ⟨gp,gB,al⟩:=c5 ds;obtain ⟨gC,dt,du,dv,M⟩:=b.t.el _ _ al;obtain rfl:dt=ae.cells:=dv;cases du;have dC:=M 0 _ rfl;simp only[go_sem] at dC;have dE:=M 1 _ rfl;simp only[go_sem] at dE;clear M al;revert h;refine bS fun gM dT h=>?_;try simp only[*,go_sem]
  refine ⟨_,bD hJ fun F H=>GW u0 (b.mono (cg H)) ae.aW dT,bZ ?_⟩;try simp only[*,go_sem]
  revert h;refine jC hJ (by simp only[*,go_sem]) (fun ea h=>?_) fun ea h=>?_
  ·obtain rfl:=sI h;refine ah hJ ?_;simp only[*,go_sem];obtain rfl:=sI g;clear g;have h:=ab;dsimp only[aG] at h;obtain rfl:=sI h;refine az ?_;simp only[*,go_sem]
  obtain rfl:=sI h;refine aI hJ (aj hJ ?_);simp only[*,go_sem];refine ⟨L,Nat.lt_succ_self _,_,Le.sub (List.Sublist.refl _),s,(IntKind.i64.wrap (u+1)),g,rfl,?_⟩;simp only[*,go_sem]
 obtain rfl:=sI h;refine bN ?_;simp only[go_sem];obtain rfl:=sI g;clear g;have h:=ab;dsimp only[aG] at h;obtain rfl:=sI h;refine ah hJ ?_;simp only[*,go_sem];refine az ?_;simp only[*,go_sem]
def mJ (u0:ak):Option Int:=
 ag (eI u0.bE 2 60) fun c=>cond (!c) (some 1) (ag (eI u0.bI 0 60) fun d=>cond (!d) (some 1) (ag (eI u0.aN.den 1 20) fun e=>cond (!e) (some 1) (ag (eI u0.aN.num 0 20) fun f=>cond (!f) (some 1) (ag (gD u0.aN.num u0.aN.den) fun a=>cond (!((a.num==u0.aN.num)&&(a.den==u0.aN.den))) (some 3) (ag (mH u0) fun b=>cond ((b != 0)) (some b) (ag (mI u0) fun g=>some g))))))
theorem G3 {ro:Addr->Option Value}(u0:ak){s1 a b c:Value}(d:bJ ro u0 s1 a b c){r:Int}(h:mJ u0=some r):aC Tryz.prog 39 #[bv u0 s1 a b c] ⟨ro,[]⟩ (fun v _=>v= .int .i64 r):=by
 unfold mJ at h;refine aC.go Tryz.func39 rfl Tryz.ntmps39 Tryz.results39 (by simp) fun main J hJ A e hd hs=>?_;have f:=hs 0;clear hs;refine ah hJ ?_;simp only[*,go_sem];refine ax fun E G g=>?_;try simp only[au] at g
 try simp only[*,go_sem]
 refine af hJ (ah hJ ?_);revert h;refine bS fun H i h=>?_;simp only[*,go_sem];refine bg hJ _ (gS u0.bE 2 60 i) (aJ ?_);revert h;refine cS (fun j h=>?_) fun j h=>?_
 ·obtain rfl:=sI h;try simp only[*,go_sem]
  refine bP hJ (by simp only[*,go_sem]) ?_;refine ah hJ ?_;simp only[*,go_sem];refine az ?_;simp only[*,go_sem]
 revert h;refine bS fun I k h=>?_;try simp only[*,go_sem]
 refine bg hJ _ (gS u0.bI 0 60 k) (aJ ?_);revert h;refine cS (fun l h=>?_) fun l h=>?_
 ·obtain rfl:=sI h;try simp only[*,go_sem]
  refine bP hJ (by simp only[*,go_sem]) ?_;refine ah hJ ?_;simp only[*,go_sem];refine az ?_;simp only[*,go_sem]
 revert h;refine bS fun K m h=>?_;try simp only[*,go_sem]
 refine bg hJ _ (gS u0.aN.den 1 20 m) (aJ ?_);revert h;refine cS (fun n h=>?_) fun n h=>?_
 ·obtain rfl:=sI h;try simp only[*,go_sem]
  refine bP hJ (by simp only[*,go_sem]) ?_;refine ah hJ ?_;simp only[*,go_sem];refine az ?_;simp only[*,go_sem]
 revert h;refine bS fun L o h=>?_;try simp only[*,go_sem]
 refine bg hJ _ (gS u0.aN.num 0 20 o) (aJ ?_);try simp only[*,go_sem]
 revert h;refine jC hJ (by simp only[*,go_sem]) (fun p h=>?_) fun p h=>?_
 ·obtain rfl:=sI h;refine ah hJ ?_;simp only[*,go_sem];refine az ?_;simp only[*,go_sem]
 refine aI hJ (af hJ ?_);refine af hJ ?_;refine cR hJ mixed 10 1 (by simp only[*,go_sem]) (by kernel_rfl) ?_;revert h;refine bS fun M q h=>?_;simp only[*,go_sem];refine ⟨_,bD hJ fun F N=>AT u0.aN.num u0.aN.den q,bZ ?_⟩;try simp only[*,go_sem]
 revert h;refine jC hJ (by simp only[*,go_sem]) (fun s h=>?_) fun s h=>?_
 ·obtain rfl:=sI h;refine af hJ ?_;refine eV [1,2] fun O t u w=>?_;simp only[*,go_sem] at t u w;clear e hd f;refine aj hJ ?_;simp only[*,go_sem];refine az ?_;simp only[*,go_sem]
 refine aI hJ (af hJ ?_);refine af hJ ?_;refine eV [1,2] fun P x y z=>?_;simp only[*,go_sem] at x y z;clear e hd f;refine aj hJ ?_;revert h;refine bS fun Q B h=>?_;simp only[*,go_sem];refine bg hJ _ (G1 u0 (d.mono aR) B) (aJ ?_);try simp only[*,go_sem]
 refine ah hJ ?_;simp only[*,go_sem];revert h;refine jC hJ (by simp only[*,go_sem]) (fun C h=>?_) fun C h=>?_
 ·obtain rfl:=sI h;refine ah hJ ?_;simp only[*,go_sem];refine az ?_;simp only[*,go_sem]
 refine aI hJ (af hJ ?_);refine aj hJ ?_;revert h;refine bS fun R D h=>?_;obtain rfl:=sI h;simp only[*,go_sem];refine bg hJ _ (G2 u0 (d.mono aR) D) (aJ ?_);try simp only[*,go_sem]
 refine az ?_;simp only[*,go_sem]
theorem G4:Tryz.prog.underlying 3=some (.int .i64):=by kernel_rfl
theorem G5:Tryz.prog.underlying 5=some (.int .u8):=by kernel_rfl
attribute [go_sem] G4 G5
def nW (u0:ak):Option Bool:=
 ag (mE u0) fun a=>cond (!a) (ag (mJ u0) fun b=>some (b==0)) (some false)
theorem G6 {ro:Addr->Option Value}(u0:ak){s1 b c d:Value}(a:bJ ro u0 s1 b c d){r:Bool}(h:nW u0=some r):aC Tryz.prog 12 #[bv u0 s1 b c d] ⟨ro,[]⟩ (fun v _=>v= .bool r):=by
 obtain ⟨d3,c4,rfl,k,l,-⟩:=id a.e;obtain ⟨d10,m,rfl,n,o,-⟩:=id a.p;obtain ⟨d17,q,rfl,s,u,-⟩:=id a.y;obtain ⟨d24,w,rfl,x,z,-⟩:=id a.t;unfold nW at h;refine aC.go Tryz.func12 rfl Tryz.ntmps12 Tryz.results12 (by simp) fun main J hJ A B hd hs=>?_;have C:=hs 0;clear hs;refine ah hJ ?_;simp only[*,go_sem];refine ax fun D E f=>?_;try simp only[au] at f
 try simp only[*,go_sem]
 refine ah hJ ?_;revert h;refine bS fun F g h=>?_;simp only[*,go_sem];refine bg hJ _ (GY u0 (a.mono aR) g) (aJ ?_);revert h;refine cS (fun i h=>?_) fun i h=>?_
 ·revert h;refine bS fun G j h=>?_;obtain rfl:=sI h;try simp only[*,go_sem]
  refine bg hJ _ (G3 u0 (a.mono aR) j) (aJ ?_);try simp only[*,go_sem]
  refine az ?_;simp only[*,go_sem]
 obtain rfl:=sI h;try simp only[*,go_sem]
 refine az ?_;simp only[*,go_sem]
def nZ (u0:an):Option Bool:=
 cond (decide (0<u0.den)) (cond (decide (u0.den<1048576)) (ag (eI u0.num (-1073741824) 1073741824) fun b=>cond (b) (ag (gD u0.num u0.den) fun a=>some ((a.num==u0.num)&&(a.den==u0.den))) (some false)) (some false)) (some false)
theorem AX {ro:Addr->Option Value}(u0:an){r:Bool}(h:nZ u0=some r):aC Tryz.prog 28 #[.agg #[.int .i64 u0.num,.int .i64 u0.den]] ⟨ro,[]⟩ (fun v _=>v= .bool r):=by
 unfold nZ at h;refine aC.go Tryz.func28 rfl Tryz.ntmps28 Tryz.results28 (by simp) fun main J hJ A g hd hs=>?_;have i:=hs 0;clear hs;refine ah hJ ?_;simp only[*,go_sem];refine ax fun j r1 n1=>?_;try simp only[au] at n1
 try simp only[*,go_sem]
 refine af hJ ?_;refine cR hJ mixed 23 1 (by simp only[*,go_sem]) (by kernel_rfl) ?_;revert h;refine cS (fun a h=>?_) fun a h=>?_
 ·revert h;refine cS (fun b h=>?_) fun b h=>?_
  ·revert h;refine bS fun k c h=>?_;(try simp only[*,go_sem]);refine ⟨_,bD hJ fun F d=>gS u0.num (-1073741824) 1073741824 c,bZ ?_⟩;revert h;refine cS (fun e h=>?_) fun e h=>?_
   ·revert h;refine bS fun l f h=>?_;obtain rfl:=sI h;(try simp only[*,go_sem]);refine ⟨_,bD hJ fun F d=>AT u0.num u0.den f,bZ ?_⟩;(try simp only[*,go_sem]);refine az ?_;simp only[*,go_sem]
   obtain rfl:=sI h;(try simp only[*,go_sem]);refine az ?_;simp only[*,go_sem]
  obtain rfl:=sI h;try simp only[*,go_sem]
  refine az ?_;simp only[*,go_sem]
 obtain rfl:=sI h;try simp only[*,go_sem]
 refine az ?_;simp only[*,go_sem]
def qb (u0:an)(a:an)(b:an):Option Bool:=
 cond (decide (0<u0.den)) (cond (decide (0<a.den)) (cond (decide (0<b.den)) (ag (gA u0 a) fun c=>cond (!c) (ag (gA b u0) fun d=>some (!d)) (some false)) (some false)) (some false)) (some false)
theorem G7 {ro:Addr->Option Value}(u0:an)(a:an)(b:an){r:Bool}(h:qb u0 a b=some r):aC Tryz.prog 33 #[.agg #[.int .i64 u0.num,.int .i64 u0.den],.agg #[.int .i64 a.num,.int .i64 a.den],.agg #[.int .i64 b.num,.int .i64 b.den]] ⟨ro,[]⟩ (fun v _=>v= .bool r):=by
 unfold qb at h;refine aC.go Tryz.func33 rfl Tryz.ntmps33 Tryz.results33 (by simp) fun main J hJ A j hd hs=>?_;have k:=hs 0;have k1:=hs 1;have l:=hs 2;clear hs;refine ah hJ ?_;simp only[*,go_sem];refine ax fun m r1 n1=>?_;try simp only[au] at n1
 refine ax fun b2 r2 n2=>?_;try simp only[au] at n2
 refine ax fun b3 r3 n3=>?_;try simp only[au] at n3
 try simp only[*,go_sem]
 refine ah hJ ?_;revert h;refine cS (fun c h=>?_) fun c h=>?_
 ·revert h;refine cS (fun d h=>?_) fun d h=>?_
  ·revert h;refine cS (fun e h=>?_) fun e h=>?_
   ·revert h;refine bS fun n f h=>?_;(try simp only[*,go_sem]);refine bg hJ _ (wS u0 a f) (aJ ?_);revert h;refine cS (fun g h=>?_) fun g h=>?_
    ·revert h;refine bS fun o i h=>?_;obtain rfl:=sI h;(try simp only[*,go_sem]);refine bg hJ _ (wS b u0 i) (aJ ?_);(try simp only[*,go_sem]);refine az ?_;simp only[*,go_sem]
    obtain rfl:=sI h;(try simp only[*,go_sem]);refine az ?_;simp only[*,go_sem]
   obtain rfl:=sI h;(try simp only[*,go_sem]);refine az ?_;simp only[*,go_sem]
  obtain rfl:=sI h;try simp only[*,go_sem]
  refine az ?_;simp only[*,go_sem]
 obtain rfl:=sI h;try simp only[*,go_sem]
 refine az ?_;simp only[*,go_sem]
def sJ (u0:ak)(a:Int):Option ak:=
 some (⟨u0.bE,a,u0.aN,u0.ay,([]:(List ck)),u0.aE,u0.told⟩:ak)
theorem G8 {ro:Addr->Option Value}(u0:ak){s1 b c d:Value}(a:bJ ro u0 s1 b c d)(f:Int){r:ak}(h:sJ u0 f=some r):eD Tryz.prog 32 #[bv u0 s1 b c d,.int .i64 f] ro (fun v aM=>∃g w1 w2 w3,v=bv r g w1 w2 w3/\bJ aM r g w1 w2 w3):=by
 obtain ⟨d3,c4,rfl,k,l,-⟩:=id a.e;obtain ⟨d10,m,rfl,n,o,-⟩:=id a.p;obtain ⟨d17,q,rfl,s,u,-⟩:=id a.y;obtain ⟨d24,w,rfl,x,z,-⟩:=id a.t;unfold sJ at h;obtain rfl:=sI h;refine aC.go Tryz.func32 rfl Tryz.ntmps32 Tryz.results32 (by simp) fun main J hJ A B hd hs=>?_;have C:=hs 0;have k1:=hs 1;clear hs;refine ah hJ ?_;simp only[*,go_sem];refine ax fun D E i=>?_;try simp only[au] at i
 refine ax fun F G j=>?_;try simp only[au] at j
 try simp only[*,go_sem]
 refine ah hJ ?_;simp only[*,go_sem];refine ah hJ ?_;simp only[*,go_sem];refine az ?_;simp only[*,go_sem];exact ⟨_,Ext.refl _,Le.sub (List.nil_sublist _),_,_,_,_,rfl,⟨a.e,aB.nil _ _,a.y,a.t⟩⟩
def sK (u0:ak)(c:aU)(st:(Int×Int×an)):Option (Fl (Int×Int×an) (Int×an)):=
 cond (decide (st.2.1<(u0.ay.length:Int))) (ag (bp u0.ay st.2.1) fun b=>ag (mC u0 c b.aL (⟨b.high,1⟩:an)) fun a=>cond ((st.2.1==0)) (some (.nx (st.2.1,(IntKind.i64.wrap (st.2.1+1)),a))) (ag (gA st.2.2 a) fun d=>cond (d) (some (.nx (st.2.1,(IntKind.i64.wrap (st.2.1+1)),a))) (some (.nx (st.1,(IntKind.i64.wrap (st.2.1+1)),st.2.2))))) (some (.bk (st.1,st.2.1,st.2.2)))
def wZ (u0:ak)(b:aU):Option (Int×an):=
 ag (bn (sK u0 b) fu (0,0,(⟨0,0⟩:an))) fun o=>aG o (fun a=>some (a.1,a.2.2)) (fun _ _=>none) (fun r=>some r)
def sL (u0:ak)(c:Int)(st:Int):Option (Fl Int an):=
 cond (decide ((IntKind.i64.wrap (st+1))<(u0.ay.length:Int))) (ag (bp u0.ay st) fun a=>ag (bp u0.ay (IntKind.i64.wrap (st+1))) fun b=>cond (decide (c<=b.aL)) (ag (gD (IntKind.i64.wrap ((IntKind.i64.wrap (a.high*(IntKind.i64.wrap (b.aL - a.aL))))+(IntKind.i64.wrap ((IntKind.i64.wrap (b.high - a.high))*(IntKind.i64.wrap (c - a.aL)))))) (IntKind.i64.wrap (b.aL - a.aL))) fun d=>some (.rt d)) (some (.nx (IntKind.i64.wrap (st+1))))) (some (.bk st))
def qc (u0:ak)(a:Int):Option an:=
 ag (bn (sL u0 a) fu 0) fun o=>aG o (fun b=>some (⟨0,0⟩:an)) (fun _ _=>none) (fun r=>some r)
def sM (u0:ak)(d:aU)(st:(Int×an)):Option (Fl (Int×an) (an×Bool)):=
 cond (decide (st.1<(u0.props.length:Int))) (ag (bp u0.props st.1) fun a=>ag (qc u0 a.place) fun b=>ag (gD (IntKind.i64.wrap (b.num+(IntKind.i64.wrap (a.dD*b.den)))) b.den) fun e=>ag (mC u0 d a.place e) fun c=>cond ((st.1==0)) (ag (fR c c) fun f=>some (.nx ((IntKind.i64.wrap (st.1+1)),f))) (ag (fR st.2 c) fun g=>some (.nx ((IntKind.i64.wrap (st.1+1)),g)))) (some (.bk (st.1,st.2)))
def lu (u0:ak)(a:aU):Option (an×Bool):=
 ag (bn (sM u0 a) fu (0,(⟨0,0⟩:an))) fun o=>aG o (fun b=>some (b.2,decide (0<(u0.props.length:Int)))) (fun _ _=>none) (fun r=>some r)
def qd (u0:ak)(b:aU):Option an:=
 ag (wZ u0 b) fun a=>ag (gA a.2 (⟨u0.bI,1⟩:an)) fun e=>cond (e) (ag (lu u0 b) fun c=>cond (c.2) (ag (fR a.2 c.1) fun f=>ag (ko (⟨u0.bI,1⟩:an) f) fun g=>ag (fR g (⟨0,1⟩:an)) fun h=>some h) (ag (ko (⟨u0.bI,1⟩:an) a.2) fun i=>ag (fR i (⟨0,1⟩:an)) fun j=>some j)) (ag (lu u0 b) fun d=>cond (d.2) (ag (fR (⟨u0.bI,1⟩:an) d.1) fun k=>ag (ko a.2 k) fun l=>ag (fR l (⟨0,1⟩:an)) fun m=>some m) (ag (ko a.2 (⟨u0.bI,1⟩:an)) fun n=>ag (fR n (⟨0,1⟩:an)) fun o=>some o))
def sN (u0:ak)(a:aU):Option Bool:=
 ag (qd u0 a) fun b=>ag (gA u0.aN b) fun c=>some c
def w5 (u0:ak)(b:(List Int))(st:(Bool×Int)):Option (Fl (Bool×Int) Bool):=
 cond (decide (st.2<(u0.told.length:Int))) (ag (bp u0.told st.2) fun a=>ag (bp b a.aW) fun c=>ag (AU u0 a.aW c) fun d=>ag (sN u0 d) fun e=>cond (!(e==a.bw)) (some (.rt false)) (some (.nx (st.1,(IntKind.i64.wrap (st.2+1)))))) (some (.bk (st.1,st.2)))
def w6 (u0:ak)(a:(List Int)):Option Bool:=
 ag (bn (w5 u0 a) fu (false,0)) fun o=>aG o (fun b=>some true) (fun _ _=>none) (fun r=>some r)
def dx {α:Type}(t:Nat->α->Option Int):Nat->List α->Option Int
 |_,[]=>none
 |i,x::l=>match t i x with
  |some r=>some r
  |none=>dx t (i+1) l
def gU {σ:Type}(o:Option Int)(s:σ):Fl σ Int:=match o with
 |some r=>.rt r
 |none=>.nx s
theorem qe {α σ:Type}{f:Nat->α->σ->Option (Fl σ Int)}{t:Nat->α->Option Int}:∀(l:List α) (i:Nat) (s:σ),(∀j x s,l[j]?=some x->f (i+j) x s=some (gU (t (i+j) x) s))->bF f i l s=some (gU (dx t i l) s)
 |[],i,s,_=>rfl
 |x::l,i,s,h=>by
  have h0:=h 0 x s rfl
  simp only[Nat.add_zero] at h0
  unfold bF dx
  rw[h0]
  cases ht:t i x with
  |some r=>rfl
  |none=>
   show bF f (i+1) l s=_
   exact qe l (i+1) s fun j y s a=>by
    have:=h (j+1) y s (by simpa using a)
    rwa [show i+(j+1)=i+1+j by omega] at this
theorem AY {α σ:Type}{f:σ×Int->Option (Fl (σ×Int) Int)}{t:Nat->α->Option Int}(l:List α)(h:∀(i:Nat) x s,l[i]?=some x->f (s,(i:Int))=some (gU (t i x) (s,((i+1:Nat):Int))))(a:∀s,f (s,(l.length:Int))=some (.bk (s,(l.length:Int)))):
  ∀(k i n:Nat) (s:σ),i+k=l.length->k<n->bn f n (s,(i:Int))=some (gU (dx t i (l.drop i)) (s,(l.length:Int)))
 |0,i,n+1,s,hi,_=>by
  obtain rfl:i=l.length:=by omega
  unfold bn
  rw[a,List.drop_length]
  rfl
 |k+1,i,n+1,s,hi,d=>by
  have b:i<l.length:=by omega
  have c:l[i]?=some l[i]:=List.getElem?_eq_getElem b
  unfold bn
  rw[h i _ s c,List.drop_eq_getElem_cons b]
  unfold dx
  cases ht:t i l[i] with
  |some r=>rfl
  |none=>exact AY l h a k (i+1) n s (by omega) (by omega)
theorem sO {α σ:Type}{f:σ×Int->Option (Fl (σ×Int) Int)}{t:Nat->α->Option Int}(l:List α)(a:l.length<=1000)(h:∀(i:Nat) x s,l[i]?=some x->f (s,(i:Int))=some (gU (t i x) (s,((i+1:Nat):Int))))(b:∀s,f (s,(l.length:Int))=some (.bk (s,(l.length:Int))))(s:σ):
  bn f fu (s,0)=some (gU (dx t 0 l) (s,(l.length:Int))):=by
 have:=AY l h b l.length 0 fu s (by omega) (Nat.lt_of_le_of_lt a (by decide))
 simpa using this
theorem kr:fI=eI:=rfl
theorem G9:pG=mD:=rfl
def bM (a lo hi:Int):Bool:=decide (lo<=a)&&decide (a<=hi)
theorem eY (a lo hi:Int):eI a lo hi=some (bM a lo hi):=by
 unfold eI bM;cases decide (lo<=a)<;>rfl
def ku (b:c9)(lo hi:Int):Bool:=decide (lo<=b.low)&&(decide (b.low<=b.high)&&decide (b.high<=hi))
theorem AZ (b:c9)(lo hi:Int):mD b lo hi=some (ku b lo hi):=by
 unfold mD ku;cases decide (lo<=b.low)<;>cases decide (b.low<=b.high)<;>rfl
theorem cX {n:Int}(h: -9223372036854775808<=n/\n<9223372036854775808):IntKind.i64.wrap n=n:=IntWalk.i64_in _ (by constructor<;>omega)
def gj (u:ak)(i:Nat)(x:b7):Option Int:=
 cond (bM x.aL 0 (IntKind.i64.wrap (u.bE - 1))) (cond (bM x.high 0 60) (match i with
  |0=>none
  |j+1=>match u.ay[j]? with
   |some y=>cond (decide (x.aL<=y.aL)) (some 7) none
   |none=>none) (some 1)) (some 1)
theorem w7 (u:ak)(g:u.ay.length<=20):k5 u=some (cond (bM u.ay.length 2 5) ((dx (gj u) 0 u.ay).getD 0) 2)/\mH u=k5 u:=by
 have key:k5 u=some (cond (bM u.ay.length 2 5) ((dx (gj u) 0 u.ay).getD 0) 2):=by
  unfold k5;rw[kr,eY];show cond (!bM (u.ay.length:Int) 2 5) _ _=_;cases bM (u.ay.length:Int) 2 5 with
  |false=>rfl
  |true=>
   show ag (bF _ 0 u.ay 0) _=_;rw[qe (t:=gj u) u.ay 0 0 ?_]
   ·show aG (gU _ _) _ _ _=_;cases dx (gj u) 0 u.ay<;>rfl
   ·intro j x s b;rw[Nat.zero_add];unfold rO gj;rw[kr,eY,eY];show cond (!bM x.aL 0 _) _ _=_;cases bM x.aL 0 (IntKind.i64.wrap (u.bE - 1)) with
    |false=>rfl
    |true=>
     show cond (!bM x.high 0 60) _ _=_;cases bM x.high 0 60 with
     |false=>rfl
     |true=>
      cases j with
      |zero=>rfl
      |succ j=>
       have d:=(List.getElem?_eq_some_iff.1 b).1;have a:u.ay[j]?=some u.ay[j]:=List.getElem?_eq_getElem (by omega);have hw:IntKind.i64.wrap (((j+1:Nat):Int) - 1)=(j:Int):=by rw[cX (by omega)];omega
       have hd:decide (0<((j+1:Nat):Int))=true:=decide_eq_true (by omega);show cond (decide (0<((j+1:Nat):Int))) _ _=_;rw[hd,hw];have hi:bp u.ay (j:Int)=some u.ay[j]:=by unfold bp;rw[if_pos (by omega),Int.toNat_natCast,a]
       show ag (bp u.ay (j:Int)) _=_;rw[hi];simp only[a];show cond (decide (x.aL<=u.ay[j].aL)) _ _=_;cases decide (x.aL<=u.ay[j].aL)<;>rfl
 refine ⟨key,?_⟩;rw[key];unfold mH;rw[eY];show cond (!bM (u.ay.length:Int) 2 5) _ _=_;cases bM (u.ay.length:Int) 2 5 with
 |false=>rfl
 |true=>
  show ag (bn _ fu (0,0)) _=_;rw[sO (t:=gj u) u.ay (by omega) ?_ ?_ 0]
  ·show aG (gU _ _) _ _ _=_;cases dx (gj u) 0 u.ay<;>rfl
  ·intro j x s b;unfold p9 gj;have d:=(List.getElem?_eq_some_iff.1 b).1;have c:decide ((j:Int)<(u.ay.length:Int))=true:=decide_eq_true (by omega);have e:bp u.ay (j:Int)=some x:=by unfold bp;rw[if_pos (by omega),Int.toNat_natCast,b]
   have f:IntKind.i64.wrap ((j:Int)+1)=((j+1:Nat):Int):=by rw[cX (by omega)];omega
   show cond (decide ((j:Int)<(u.ay.length:Int))) (ag (bp u.ay (j:Int)) _) _=_;rw[c,e,cond_true];show ag (eI x.aL 0 (IntKind.i64.wrap (u.bE - 1))) _=_;rw[eY];show cond (!bM x.aL 0 _) _ (ag (eI x.high 0 60) _)=_;rw[eY];cases bM x.aL 0 (IntKind.i64.wrap (u.bE - 1)) with
   |false=>rfl
   |true=>
    show cond (!bM x.high 0 60) _ _=_;cases bM x.high 0 60 with
    |false=>rfl
    |true=>
     cases j with
     |zero=>rfl
     |succ j=>
      have a:u.ay[j]?=some u.ay[j]:=List.getElem?_eq_getElem (by omega);have hw:IntKind.i64.wrap (((j+1:Nat):Int) - 1)=(j:Int):=by rw[cX (by omega)];omega
      have hd:decide (0<((j+1:Nat):Int))=true:=decide_eq_true (by omega);have hi:bp u.ay (j:Int)=some u.ay[j]:=by unfold bp;rw[if_pos (by omega),Int.toNat_natCast,a]
      dsimp only;simp only[hd,hw,hi,f,a,ag,cond_true,Bool.not_true,cond_false];cases decide (x.aL<=u.ay[j].aL)<;>rfl
  ·intro s;unfold p9;have c:decide ((u.ay.length:Int)<(u.ay.length:Int))=false:=decide_eq_false (by omega);show cond (decide ((u.ay.length:Int)<(u.ay.length:Int))) _ _=_;rw[c];rfl
theorem A0 {ρ:Type}{f:Int×Int->Option (Fl (Int×Int) ρ)}(d:∀a b:Nat,a<9223372036854775808->b<9223372036854775808->b≠0->f ((a:Int),(b:Int))=some (.nx ((b:Int),((a % b:Nat):Int))))(h0:∀a:Nat,f ((a:Int),0)=some (.bk ((a:Int),0))):
  ∀(b a k:Nat),a<9223372036854775808->b<9223372036854775808->b<k->bn f k ((a:Int),(b:Int))=some (.nx (((Nat.gcd a b:Nat):Int),0)):=by
 intro b
 induction b using Nat.strongRecOn with
 |ind b ih=>
  intro a k e hb g
  obtain ⟨k,rfl⟩:∃m,k=m+1:=⟨k - 1,by omega⟩
  unfold bn
  by_cases c:b=0
  ·subst c
   have:=h0 a
   rw[show ((0:Nat):Int)=0 from rfl,this,Nat.gcd_zero_right]
   rfl
  ·rw[d a b e hb c]
   show bn f k ((b:Int),((a % b:Nat):Int))=_
   have hm:a % b<b:=Nat.mod_lt _ (by omega)
   rw[ih (a % b) hm b k hb (by omega) (by omega),Nat.gcd_comm a b,Nat.gcd_rec b a,Nat.gcd_comm]
theorem A1 (a b:Nat)(d:a<9223372036854775808)(hb:b<9223372036854775808)(h:b≠0):iS (a:Int) (b:Int)=some ((a % b:Nat):Int):=by
 unfold iS;have c:¬(b:Int)=0:=by omega
 rw[if_neg c];have e:((a:Int).tmod (b:Int))=((a % b:Nat):Int):=by
  rw[Int.tmod_eq_emod_of_nonneg (by omega)];rfl
 rw[e]
theorem He (a k:Nat)(b:Nat)(c:a<9223372036854775808)(hb:b<9223372036854775808)(d:b<k):bn pH k ((a:Int),(b:Int))=some (.nx (((Nat.gcd a b:Nat):Int),0)):=by
 refine A0 (fun a b c hb e=>?_) (fun a=>rfl) b a k c hb d;unfold pH;have:(((b:Nat):Int) != 0)=true:=by simp;omega
 dsimp only;rw[this,A1 a b c hb e];rfl
theorem Hf (a k:Nat)(b:Nat)(c:a<9223372036854775808)(hb:b<9223372036854775808)(d:b<k):bn nS k ((a:Int),(b:Int))=some (.nx (((Nat.gcd a b:Nat):Int),0)):=by
 refine A0 (fun a b c hb e=>?_) (fun a=>rfl) b a k c hb d;unfold nS;have:decide (0<((b:Nat):Int))=true:=decide_eq_true (by omega);dsimp only;rw[this,A1 a b c hb e];rfl
def bB (n:Int)(d:Nat):an:=⟨n.tdiv (Nat.gcd n.natAbs d:Nat),(d:Int).tdiv (Nat.gcd n.natAbs d:Nat)⟩
theorem sP (a b:Int)(hb:0<b)(c: -9000000000000000000<=a/\a<=9000000000000000000):fF a b=some (a.tdiv b):=by
 unfold fF;rw[if_neg (by omega)];congr 1;have h1:(a.tdiv b).natAbs<=a.natAbs:=by rw[Int.natAbs_tdiv];exact Nat.div_le_self _ _
 exact cX (by omega)
theorem A2 (n:Int)(h: -9000000000000000000<=n/\n<=9000000000000000000):(if n<IntKind.i64.wrap (0 - n) then IntKind.i64.wrap (0 - n) else n)=(n.natAbs:Int):=by
 rw[cX (by omega)];split<;>omega
theorem qf (n:Int)(d:Nat)(a: -9000000000000000000<=n/\n<=9000000000000000000)(hd:0<d)(b:d<900000000000000000):j7 n d=some (bB n d):=by
 unfold j7;rw[A2 n a,He n.natAbs fu d (by omega) (by omega) (Nat.lt_trans b (by decide))];have hg:0<Nat.gcd n.natAbs d:=Nat.gcd_pos_of_pos_right _ hd;show ag (fF n _) (fun x=>ag (fF d _) fun y=>_)=_;rw[sP n _ (by omega) a,sP d _ (by omega) (by omega)];rfl
theorem n4 (n:Int)(d:Nat)(a: -9000000000000000000<=n/\n<=9000000000000000000)(hd:0<d)(b:d<900000000000000000):gD n d=some (bB n d):=by
 unfold gD;have:decide ((d:Int)<0)=false:=decide_eq_false (by omega);rw[this];show ag (bn nS fu _) _=_;rw[A2 n a,Hf n.natAbs fu d (by omega) (by omega) (Nat.lt_trans b (by decide))];have hg:0<Nat.gcd n.natAbs d:=Nat.gcd_pos_of_pos_right _ hd;show ag (fF n _) (fun x=>ag (fF d _) fun y=>_)=_;rw[sP n _ (by omega) a,sP d _ (by omega) (by omega)];rfl
def gW (u:ak)(f:Int->Bool)(_:Nat)(x:ck):Option Int:=cond (f x.place) (cond (bM x.dD 1 20) none (some 1)) (some 6)
def gX (_:Nat)(x:bY):Option Int:=cond (bM x.back 1 20) (cond (ku x.high 0 60) (cond (decide (3<=IntKind.i64.wrap (x.high.high - x.high.low))) (some 1) none) (some 1)) (some 1)
def gY (u:ak)(i:Int):Bool:=bM i 0 (IntKind.i64.wrap ((u.aE.length:Int) - 1))
def jd (u:ak)(_:Nat)(x:bO):Option Int:=cond (gY u x.aW) none (some 6)
theorem w8 (u:ak)(i:Int):nP u i=some (gY u i)/\nk u i=some (gY u i):=by
 constructor
 ·unfold nP;rw[eY];rfl
 ·unfold nk;rw[kr,eY];rfl
theorem Hg (u:ak)(h:Int):gR h u=some (cond (bM h 1 20) 0 1):=by
 unfold gR;rw[kr,eY];show cond (!bM h 1 20) _ _=_;cases bM h 1 20<;>rfl
theorem w9 (u:ak)(h:0<u.ay.length)(b:u.ay.length<=20):∃f:Int->Bool,∀p,gd u p=some (f p)/\mB u p=some (f p):=by
 have h0:u.ay[0]?=some u.ay[0]:=List.getElem?_eq_getElem h;have a:u.ay[u.ay.length - 1]?=some (u.ay[u.ay.length - 1]'(by omega)):=List.getElem?_eq_getElem _;have hw:IntKind.i64.wrap ((u.ay.length:Int) - 1)=((u.ay.length - 1:Nat):Int):=by rw[cX (by omega)];omega
 have e0:bp u.ay 0=some u.ay[0]:=h0;have e1:bp u.ay ((u.ay.length - 1:Nat):Int)=some (u.ay[u.ay.length - 1]'(by omega)):=by unfold bp;rw[if_pos (by omega),Int.toNat_natCast,a]
 refine ⟨fun p=>bM p (u.ay[0]).aL (u.ay[u.ay.length - 1]'(by omega)).aL,fun p=>?_⟩;have k:gd u p=some (bM p (u.ay[0]).aL (u.ay[u.ay.length - 1]'(by omega)).aL):=by
  unfold gd;rw[hw,e0,e1,kr];simp only[ag,eY]
 exact ⟨k,k⟩
def gV (u:ak):Int:=cond (bM u.bE 2 60) (cond (bM u.bI 0 60) (cond (bM u.aN.den 1 20) (cond (bM u.aN.num 0 20) (cond (((bB u.aN.num u.aN.den.toNat).num==u.aN.num)&&((bB u.aN.num u.aN.den.toNat).den==u.aN.den)) 0 3) 1) 1) 1) 1
theorem ey {a lo hi:Int}:bM a lo hi=true↔lo<=a/\a<=hi:=by unfold bM;simp
theorem sQ (u:ak):nu u=some (gV u):=by
 unfold nu gV;rw[kr];simp only[eY,ag];cases h1:bM u.bE 2 60 with
 |false=>rfl
 |true=>
  cases c:bM u.bI 0 60 with
  |false=>rfl
  |true=>
   cases a:bM u.aN.den 1 20 with
   |false=>rfl
   |true=>
    cases b:bM u.aN.num 0 20 with
    |false=>rfl
    |true=>
     rw[ey] at a b;have hd:u.aN.den=(u.aN.den.toNat:Int):=by omega
     have:=qf u.aN.num u.aN.den.toNat (by omega) (by omega) (by omega);rw[<-hd] at this;simp only[this,cond_true,Bool.not_true,cond_false];cases (((bB u.aN.num u.aN.den.toNat).num==u.aN.num)&&((bB u.aN.num u.aN.den.toNat).den==u.aN.den))<;>rfl
theorem Hh (u:ak):mJ u=cond (gV u != 0) (some (gV u)) (ag (mH u) fun x=>cond (x != 0) (some x) (mI u)):=by
 unfold mJ gV;simp only[eY,ag];cases h1:bM u.bE 2 60 with
 |false=>rfl
 |true=>
  cases c:bM u.bI 0 60 with
  |false=>rfl
  |true=>
   cases a:bM u.aN.den 1 20 with
   |false=>rfl
   |true=>
    cases b:bM u.aN.num 0 20 with
    |false=>rfl
    |true=>
     rw[ey] at a b;have hd:u.aN.den=(u.aN.den.toNat:Int):=by omega
     have:=n4 u.aN.num u.aN.den.toNat (by omega) (by omega) (by omega);rw[<-hd] at this;simp only[this,cond_true,Bool.not_true,cond_false];cases (((bB u.aN.num u.aN.den.toNat).num==u.aN.num)&&((bB u.aN.num u.aN.den.toNat).den==u.aN.den)) with
     |false=>rfl
     |true=>
      simp only[Bool.not_true,cond_false,cond_true,bne_self_eq_false];cases mH u with
      |none=>rfl
      |some x=>
       dsimp only;cases mI u<;>rfl
end Go.Proofs.YtpgcmoanfifglaaGreatDoor
end

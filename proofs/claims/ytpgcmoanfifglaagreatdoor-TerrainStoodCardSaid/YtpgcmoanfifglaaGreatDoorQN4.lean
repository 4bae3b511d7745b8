/- A part of the proof of a row and its tied card: QN4. -/
import Derived.Test.YtpgcmoanfifglaaGreatDoorQN3
set_option linter.all false
section
namespace Go.Proofs.YtpgcmoanfifglaaGreatDoor
open Go Go.Sep Go.Proofs
set_option maxRecDepth 100000
set_option maxHeartbeats 4000000
theorem GO:Tryz.prog.underlying 3=some (.int .i64):=by kernel_rfl
attribute [go_sem] GO
theorem GP:Tryz.prog.underlying 187=some (.int .u64):=by kernel_rfl
attribute [go_sem] GP
theorem GQ:Tryz.prog.underlying 205=some (.int .u64):=by kernel_rfl
attribute [go_sem] GQ
theorem GR:Tryz.prog.underlying 254=some (.int .u64):=by kernel_rfl
attribute [go_sem] GR
def wj (u0:Int):Option (Int×Int):=
 ag (pz u0 13) fun a=>ag (vm (gN u0 a) 7) fun b=>ag (pz (gN (gN u0 a) b) 17) fun c=>some ((gN (gN (gN u0 a) b) c),(gN (gN (gN u0 a) b) c))
theorem GU {ro:Addr->Option Value}(u0:Int){a:Nat}(r1:∀off sp,ro ⟨a,off,sp⟩=none){r:(Int×Int)}(h:wj u0=some r):aD Tryz.prog 202 #[.pointer (some ⟨a,0,none⟩)] ⟨ro,[(a,.cells #[.int .u64 u0] 254)]⟩ (fun v G=>∃b,(v= .int .u64 r.1/\b=[(a,.cells #[.int .u64 r.2] 254)])/\Le ⟨ro,b⟩ G):=by
 unfold wj at h;refine aD.go Tryz.func202 rfl Tryz.ntmps202 Tryz.results202 (by simp) fun main J hJ A g hd hs=>?_;have i:=hs 0;clear hs;refine ah hJ ?_;simp only[*,go_sem];refine af hJ ?_;refine eE hJ mixed [9] (.pure 0 (.pure 1 (.rd 2 (.pure 3 (.pure 4 (.rd 5 (.pure 6 (.pure 7 (.pure 8 (.last 9 .done)))))))))) ⟨ro,[(a,.cells #[.int .u64 u0] 254)]⟩ (by simp only[*,go_sem]) (by kernel_rfl) ?_;revert h;refine bS fun c d h=>?_;obtain ⟨q,j⟩:=vl d;clear d;try simp only[go_sem] at j
 try simp only[*,go_sem]
 refine af hJ ?_;refine eE hJ mixed [9] (.pure 0 (.pure 1 (.rd 2 (.pure 3 (.pure 4 (.rd 5 (.pure 6 (.pure 7 (.pure 8 (.last 9 .done)))))))))) ⟨ro,[(a,.cells #[.int .u64 (gN u0 c)] 254)]⟩ (by simp only[*,go_sem]) (by kernel_rfl) ?_;revert h;refine bS fun k e h=>?_;obtain ⟨s,l⟩:=EJ e;clear e;try simp only[go_sem] at l
 try simp only[*,go_sem]
 refine af hJ ?_;refine eE hJ mixed [9] (.pure 0 (.pure 1 (.rd 2 (.pure 3 (.pure 4 (.rd 5 (.pure 6 (.pure 7 (.pure 8 (.last 9 .done)))))))))) ⟨ro,[(a,.cells #[.int .u64 (gN (gN u0 c) k)] 254)]⟩ (by simp only[*,go_sem]) (by kernel_rfl) ?_;revert h;refine bS fun t f h=>?_;obtain rfl:=sI h;obtain ⟨u,m⟩:=vl f;clear f;try simp only[go_sem] at m
 try simp only[*,go_sem]
 refine af hJ ?_;refine ff [0,2] fun w n o p=>?_;simp only[*,go_sem] at n o p;clear g hd i;refine aj hJ ?_;simp only[*,go_sem];refine ay ?_;simp only[*,go_sem];exact ⟨_,rfl,Le.sub (List.Sublist.refl _)⟩
def wm (u0:Int):Option Int:=
 ag (sR (IntKind.u64.wrap u0)) fun a=>ag (pz 1 a) fun b=>some b
theorem GV {ro:Addr->Option Value}(u0:Int){r:Int}(h:wm u0=some r):aD Tryz.prog 201 #[.int .i64 u0] ⟨ro,[]⟩ (fun v _=>v= .int .u64 r):=by
 unfold wm at h;refine aD.go Tryz.func201 rfl Tryz.ntmps201 Tryz.results201 (by simp) fun main J hJ A d hd hs=>?_;have e:=hs 0;clear hs;refine ah hJ ?_;simp only[*,go_sem];refine ah hJ ?_;revert h;refine bS fun f b h=>?_;simp only[*,go_sem];refine bn hJ _ (AY (IntKind.u64.wrap u0) b) (aK ?_);revert h;refine bS fun g a h=>?_;obtain rfl:=sI h;obtain ⟨i,c⟩:=vl a;clear a;try simp only[go_sem] at c
 try simp only[*,go_sem]
 refine ay ?_;simp only[*,go_sem]
def wo (a:Int)(e:Int)(c:Int)(h:Int)(st:(Int×(List Int)×Int)):Option (Fl (Int×(List Int)×Int) (Unit×(List Int))):=
 cond (decide (st.1<=(IntKind.i64.wrap ((IntKind.i64.wrap (a+(IntKind.i64.wrap (h*2))))+1)))) (ag (ag (wj st.2.2) fun b=>ag (cond (decide ((IntKind.i64.wrap (e - a))<=(IntKind.i64.wrap (hH b.1 (IntKind.u64.wrap (c - 1)))))) (some (.bk (IntKind.i64.wrap ((IntKind.i64.wrap (hH b.1 (IntKind.u64.wrap (c - 1)))) - (IntKind.i64.wrap (e - a)))))) (some (.bk (IntKind.i64.wrap (hH b.1 (IntKind.u64.wrap (c - 1)))))):Option (Fl Int (Unit×(List Int)))) fun o=>aB o (fun d=>ag (bf st.2.1 (IntKind.i64.wrap (a+d))) fun f=>ag (bf st.2.1 st.1) fun i=>ag (bf (st.2.1.set (st.1).toNat f) (IntKind.i64.wrap (a+d))) fun j=>some (.bk (((st.2.1.set (st.1).toNat f).set (IntKind.i64.wrap (a+d)).toNat i),b.2))) (fun _ _=>none) (fun r=>some (.rt r)):Option (Fl ((List Int)×Int) (Unit×(List Int)))) fun o=>aB o (fun g=>some (.nx ((IntKind.i64.wrap (st.1+1)),g.1,g.2))) (fun _ _=>none) (fun r=>some (.rt r))) (some (.bk (st.1,st.2.1,st.2.2)))
def wq (u0:(List Int))(a:Int)(b:Int):Option (Unit×(List Int)):=
 cond (List.isEmpty u0) none (cond (decide (8<=(IntKind.i64.wrap (b - a)))) (ag (wm (IntKind.i64.wrap (b - a))) fun d=>ag (fD (IntKind.i64.wrap (b - a)) 4) fun c=>ag (aR (wo a b d c) fu ((IntKind.i64.wrap ((IntKind.i64.wrap (a+(IntKind.i64.wrap (c*2)))) - 1)),u0,(IntKind.u64.wrap (IntKind.i64.wrap (b - a))))) fun o=>aB o (fun e=>some ((),e.2.1)) (fun _ _=>none) (fun r=>some r)) (some ((),u0)))
theorem GW {ro:Addr->Option Value}(u0:(List Int)){x:Value}{H:List (Nat×Obj)}(l:aO rI ro 3 x u0 H)(b:Int)(d:Int){r:(Unit×(List Int))}(h:wq u0 b d=some r):aD Tryz.prog 179 #[x,.int .i64 b,.int .i64 d] ⟨ro,H⟩ (fun v G=>∃n,(v= .tuple #[]/\aO rI ro 3 x r.2 n)/\Le ⟨ro,n⟩ G):=by
 obtain ⟨d1,c2,rfl,bm⟩:=l.len;unfold wq at h;revert h;refine cS (fun I h=>?_) fun I h=>?_
 ·cases h
 obtain ⟨c,T,rfl,rfl,bo⟩:=l.ig I;refine aD.go Tryz.func179 rfl Tryz.ntmps179 Tryz.results179 (by simp) fun main J hJ A U hd hs=>?_;have V:=hs 0;have k1:=hs 1;have W:=hs 2;clear hs;refine af hJ ?_;refine az hJ fun br=>?_;refine aj hJ ?_;simp only[*,go_sem];refine af hJ ?_;refine az hJ fun bs=>?_;refine aj hJ ?_;simp only[*,go_sem];revert h;refine jC hJ (by simp only[*,go_sem]) (fun X h=>?_) fun X h=>?_
 ·refine af hJ ?_;refine az hJ fun Y=>?_;refine aj hJ ?_;simp only[*,go_sem];refine aA fun g Z K=>?_;have bz:=aP.cons K Y;try simp only[au] at K
  try simp only[*,go_sem]
  refine af hJ ?_;refine az hJ fun b0=>?_;refine aj hJ ?_;revert h;refine bS fun j ab h=>?_;simp only[*,go_sem];refine bn hJ _ (GV (IntKind.i64.wrap (d - b)) ab) (aK ?_);try simp only[*,go_sem]
  refine af hJ ?_;refine az hJ fun b1=>?_;refine aj hJ ?_;revert h;refine bS fun L M h=>?_;obtain ⟨b2,b3⟩:=jT M;clear M;try simp only[*,go_sem]
  refine aN hJ ?_;revert h;refine bS fun ad o ae=>?_;refine bQ hJ [9,10,26,27,28,29,30,31,32,33,34,35,36,37,38,39,40,41,42,43,44,45,46,47,48,49,50,51,52,53,54,55,56,57,58,59,60,61,62,63,64] (fun m a F'=>∃(e:Array Value) (f:Int) (p:(List Int)) (q:Int),aR (wo b d j L) m (f,p,q)=some ad/\F'=⟨ro,(g,.cells #[.int .u64 q] 254)::[(c,Obj.cells e 3)]⟩/\aO rI ro 3 (.slice (some ⟨c,0,none⟩) u0.length c2) p [(c,Obj.cells e 3)]/\slot a 9= .int .i64 f) fu ?_ ?_
  ·refine ⟨T,(IntKind.i64.wrap ((IntKind.i64.wrap (b+(IntKind.i64.wrap (L*2)))) - 1)),u0,(IntKind.u64.wrap (IntKind.i64.wrap (d - b))),o,rfl,l,?_⟩;simp only[*,go_sem]
  rintro y N F' O ⟨e,f,p,q,o,rfl,s,P⟩;obtain ⟨z,B,C⟩:=O.pick [0,1,6,7,8] (by decide);simp only[*,go_sem] at z B C;clear O U hd V k1 W;obtain _|y:=y
  ·exact absurd o (by simp only[aR,reduceCtorEq,not_false_eq_true])
  revert o;refine bS fun b4 h D=>?_;unfold wo at h;try dsimp only at h
  refine af hJ (af hJ ?_);refine az hJ fun b5=>?_;refine aj hJ ?_;simp only[*,go_sem];revert h;refine jC hJ (by simp only[*,go_sem]) (fun al h=>?_) fun al h=>?_
  ·refine aI hJ ?_;revert h;refine bS fun ao h ar=>?_;refine gh hJ (fun a F'=>∃(t:Array Value) (u:(List Int)) (w:Int),some (Fl.bk (u,w):Fl ((List Int)×Int) (Unit×(List Int)))=some ao/\F'=⟨ro,(g,.cells #[.int .u64 w] 254)::[(c,Obj.cells t 3)]⟩/\aO rI ro 3 (.slice (some ⟨c,0,none⟩) u0.length c2) u [(c,Obj.cells t 3)]/\sz a=65/\a.defers=[]/\cE [9,10,26,27,28,29,30,31,32,33,34,35,36,37,38,39,40,41,42,43,44,45,46,47,48,49,50,51,52,53,54,55,56,57,58,59,60,61,62,63,64] a N/\slot a 0= .slice (some ⟨c,0,none⟩) u0.length c2/\slot a 1= .int .i64 b/\slot a 6= .int .i64 (IntKind.i64.wrap (d - b))/\slot a 7= .pointer (some ⟨g,0,none⟩)/\slot a 8= .int .u64 j/\slot a 9= .int .i64 f) ?_ ?_
   ·refine aN hJ (af hJ ?_);refine az hJ fun ca=>?_;refine aj hJ ?_;revert h;refine bS fun i a0 h=>?_;simp only[*,go_sem];refine dJ hJ [] ([(c,Obj.cells e 3)]) _ (GU q Z a0) (fun cb cd a2 n a3 cf=>?_);obtain ⟨rfl,rfl⟩:=a2;simp only[aV] at a3;subst n;refine ⟨⟨ro,(g,.cells #[.int .u64 i.2] 254)::[(c,Obj.cells e 3)]⟩,Le.refl _,?_⟩;refine aK ?_;(try simp only[*,go_sem]);revert h;refine bS fun a4 h a5=>?_;refine gh hJ (fun a F'=>∃(k:Int),some (Fl.bk k:Fl Int (Unit×(List Int)))=some a4/\F'=⟨ro,(g,.cells #[.int .u64 i.2] 254)::[(c,Obj.cells e 3)]⟩/\sz a=65/\a.defers=[]/\cE [9,10,26,27,28,29,30,31,32,33,34,35,36,37,38,39,40,41,42,43,44,45,46,47,48,49,50,51,52,53,54,55,56,57,58,59,60,61,62,63,64] a N/\slot a 0= .slice (some ⟨c,0,none⟩) u0.length c2/\slot a 1= .int .i64 b/\slot a 6= .int .i64 (IntKind.i64.wrap (d - b))/\slot a 7= .pointer (some ⟨g,0,none⟩)/\slot a 8= .int .u64 j/\slot a 9= .int .i64 f/\slot a 10= .int .i64 k) ?_ ?_
    ·refine af hJ ?_;refine az hJ fun cl=>?_;refine aj hJ ?_;simp only[*,go_sem];revert h;refine jC hJ (by simp only[*,go_sem]) (fun a6 h=>?_) fun a6 h=>?_
     ·refine az hJ fun cy=>?_;refine aj hJ ?_;simp only[*,go_sem];refine Qn.intro ⟨_,Le.sub (List.Sublist.refl _),(IntKind.i64.wrap ((IntKind.i64.wrap (hH i.1 (IntKind.u64.wrap (j - 1)))) - (IntKind.i64.wrap (d - b)))),h,rfl,?_⟩;simp only[*,go_sem]
     refine aI hJ ?_;(try simp only[*,go_sem]);refine Qn.intro ⟨_,Le.sub (List.Sublist.refl _),(IntKind.i64.wrap (hH i.1 (IntKind.u64.wrap (j - 1)))),h,rfl,?_⟩;simp only[*,go_sem]
    rintro c0 F' ⟨k,Q,rfl,da,db,dd,df,dk,dp,dq,ds,dt,du⟩;obtain rfl:=sI Q;clear Q;have h:=a5;dsimp only[aB] at h;clear z B C P;refine az hJ fun dv=>?_;refine eE hJ mixed [17,18,19] (.pure 0 (.pure 1 (.pure 2 (.pure 3 (.pure 4 (.pure 5 (.pure 6 (.pure 7 (.pure 8 (.pure 9 (.pure 10 (.rd 11 (.pure 12 (.pure 13 (.pure 14 (.rd 15 (.pure 16 (.last 17 (.pure 18 (.last 19 .done)))))))))))))))))))) ⟨ro,[(g,.cells #[.int .u64 i.2] 254),(c,Obj.cells e 3)]⟩ (by simp only[*,go_sem]) (by kernel_rfl) ?_;revert h;refine bS fun E a7 h=>?_;obtain ⟨dC,dE,dT,ea⟩:=s.cM a7;revert h;refine bS fun F a8 h=>?_;obtain ⟨a9,ba,eb,ec⟩:=s.cM a8;have R:=s.fR a9 ba E;revert h;refine bS fun ed bb h=>?_;obtain ⟨bc,bd,eh,et⟩:=R.cM bb;have bj:=R.fR bc bd F;(try simp only[*,go_sem]);refine Qn.intro ⟨_,Le.sub (List.Sublist.refl _),(cI (cI e (f).toNat [.int .i64 E]) (IntKind.i64.wrap (b+k)).toNat [.int .i64 F]),((p.set (f).toNat E).set (IntKind.i64.wrap (b+k)).toNat F),i.2,h,rfl,bj,?_⟩;simp only[*,go_sem]
   rintro ev F' ⟨t,u,w,S,rfl,bl,eQ,eS,e0,e1,e2,e3,fa,fb,fg⟩;obtain rfl:=sI S;clear S;have h:=ar;dsimp only[aB] at h;obtain rfl:=sI h;clear z B C P;refine az hJ fun fi=>?_;refine aj hJ ?_;simp only[*,go_sem];refine ⟨y,Nat.lt_succ_self _,_,Le.sub (List.Sublist.refl _),t,(IntKind.i64.wrap (f+1)),u,w,D,rfl,bl,?_⟩;simp only[*,go_sem]
  obtain rfl:=sI h;refine bJ ?_;simp only[go_sem];obtain rfl:=sI D;clear D;have h:=ae;dsimp only[aB] at h;obtain rfl:=sI h;simp only[*,go_sem];exact ⟨_,s,Le.sub (.cons _ (List.Sublist.refl _))⟩
 obtain rfl:=sI h;refine aI hJ ?_;simp only[*,go_sem];exact ⟨_,l,Le.sub (List.Sublist.refl _)⟩
def wu (u0:(List Int))(a:Int)(e:Int)(b:Int)(c:Int)(d:Int)(st:Int):Option (Fl Int ((Int×Bool)×(List Int))):=
 cond (decide (st<=(IntKind.i64.wrap (e - 1)))) (ag (bf ((u0.set (a).toNat c).set (b).toNat d) st) fun f=>ag (bf ((u0.set (a).toNat c).set (b).toNat d) a) fun g=>ag (iq f g) fun h=>cond (h) (some (.nx (IntKind.i64.wrap (st+1)))) (some (.bk st))) (some (.bk st))
def wv (u0:(List Int))(a:Int)(b:Int)(c:Int)(d:Int)(e:Int)(st:Int):Option (Fl Int ((Int×Bool)×(List Int))):=
 cond (decide (e<=st)) (ag (bf ((u0.set (a).toNat c).set (b).toNat d) st) fun f=>ag (bf ((u0.set (a).toNat c).set (b).toNat d) a) fun g=>ag (iq f g) fun h=>cond (!h) (some (.nx (IntKind.i64.wrap (st - 1)))) (some (.bk st))) (some (.bk st))
def wz (b:Int)(c:Int)(a:(List Int))(st:Int):Option (Fl Int ((Int×Bool)×(List Int))):=
 cond (decide (st<=c)) (ag (bf a st) fun d=>ag (bf a b) fun e=>ag (iq d e) fun f=>cond (f) (some (.nx (IntKind.i64.wrap (st+1)))) (some (.bk st))) (some (.bk st))
def wA (b:Int)(a:(List Int))(c:Int)(st:Int):Option (Fl Int ((Int×Bool)×(List Int))):=
 cond (decide (c<=st)) (ag (bf a st) fun d=>ag (bf a b) fun e=>ag (iq d e) fun f=>cond (!f) (some (.nx (IntKind.i64.wrap (st - 1)))) (some (.bk st))) (some (.bk st))
def wB (c:Int)(st:(Int×Int×(List Int))):Option (Fl (Int×Int×(List Int)) ((Int×Bool)×(List Int))):=
 ag (ag (aR (wz c st.2.1 st.2.2) fu st.1) fun o=>aB o (fun e=>some (.bk e)) (fun _ _=>none) (fun r=>some (.rt r)):Option (Fl Int ((Int×Bool)×(List Int)))) fun o=>aB o (fun a=>ag (ag (aR (wA c st.2.2 a) fu st.2.1) fun o=>aB o (fun f=>some (.bk f)) (fun _ _=>none) (fun r=>some (.rt r)):Option (Fl Int ((Int×Bool)×(List Int)))) fun o=>aB o (fun b=>cond (decide (b<a)) (some (.bk (a,b,st.2.2))) (ag (bf st.2.2 b) fun d=>ag (bf st.2.2 a) fun g=>ag (bf (st.2.2.set (a).toNat d) b) fun h=>some (.nx ((IntKind.i64.wrap (a+1)),(IntKind.i64.wrap (b - 1)),((st.2.2.set (a).toNat d).set (b).toNat g))))) (fun _ _=>none) (fun r=>some (.rt r))) (fun _ _=>none) (fun r=>some (.rt r))
def wC (u0:(List Int))(a:Int)(h:Int)(b:Int):Option ((Int×Bool)×(List Int)):=
 cond (List.isEmpty u0) none (ag (bf u0 b) fun c=>ag (bf u0 a) fun d=>ag (bf (u0.set (a).toNat c) b) fun t=>ag (ag (aR (wu u0 a h b c d) fu (IntKind.i64.wrap (a+1))) fun o=>aB o (fun m=>some (.bk m)) (fun _ _=>none) (fun r=>some (.rt r)):Option (Fl Int ((Int×Bool)×(List Int)))) fun o=>aB o (fun g=>ag (ag (aR (wv u0 a b c d g) fu (IntKind.i64.wrap (h - 1))) fun o=>aB o (fun n=>some (.bk n)) (fun _ _=>none) (fun r=>some (.rt r)):Option (Fl Int ((Int×Bool)×(List Int)))) fun o=>aB o (fun e=>cond (decide (e<g)) (ag (bf ((u0.set (a).toNat c).set (b).toNat d) a) fun i=>ag (bf ((u0.set (a).toNat c).set (b).toNat d) e) fun p=>ag (bf (((u0.set (a).toNat c).set (b).toNat d).set (e).toNat i) a) fun u=>some ((e,true),((((u0.set (a).toNat c).set (b).toNat d).set (e).toNat i).set (a).toNat p))) (ag (bf ((u0.set (a).toNat c).set (b).toNat d) e) fun j=>ag (bf ((u0.set (a).toNat c).set (b).toNat d) g) fun q=>ag (bf (((u0.set (a).toNat c).set (b).toNat d).set (g).toNat j) e) fun v=>ag (ag (aR (wB a) fu ((IntKind.i64.wrap (g+1)),(IntKind.i64.wrap (e - 1)),((((u0.set (a).toNat c).set (b).toNat d).set (g).toNat j).set (e).toNat q))) fun o=>aB o (fun k=>some (.bk (k.2.1,k.2.2))) (fun _ _=>none) (fun r=>some (.rt r)):Option (Fl (Int×(List Int)) ((Int×Bool)×(List Int)))) fun o=>aB o (fun f=>ag (bf f.2 a) fun l=>ag (bf f.2 f.1) fun s=>ag (bf (f.2.set (f.1).toNat l) a) fun w=>some ((f.1,false),((f.2.set (f.1).toNat l).set (a).toNat s))) (fun _ _=>none) (fun r=>some r))) (fun _ _=>none) (fun r=>some r)) (fun _ _=>none) (fun r=>some r))
theorem GX {ro:Addr->Option Value}(u0:(List Int)){S:Value}{bb:List (Nat×Obj)}(x:aO rI ro 3 S u0 bb)(c:Int)(y:Int)(p:Int){r:((Int×Bool)×(List Int))}(h:wC u0 c y p=some r):aD Tryz.prog 185 #[S,.int .i64 c,.int .i64 y,.int .i64 p] ⟨ro,bb⟩ (fun v G=>∃bc,(v= .tuple #[.int .i64 r.1.1,.bool r.1.2]/\aO rI ro 3 S r.2 bc)/\Le ⟨ro,bc⟩ G):=by
 obtain ⟨d1,c2,rfl,ly⟩:=x.len;unfold wC at h;revert h;refine cS (fun bd h=>?_) fun bd h=>?_
 ·cases h
 obtain ⟨b,bj,rfl,rfl,lL⟩:=x.ig bd;refine aD.go Tryz.func185 rfl Tryz.ntmps185 Tryz.results185 (by simp) fun main J hJ A bl hd hs=>?_;have bm:=hs 0;have k1:=hs 1;have bo:=hs 2;have br:=hs 3;clear hs;refine af hJ ?_;refine az hJ fun l1=>?_;refine aj hJ ?_;simp only[*,go_sem];refine af hJ ?_;refine az hJ fun l2=>?_;refine eE hJ mixed [13,14,15] (.pure 0 (.pure 1 (.pure 2 (.pure 3 (.pure 4 (.pure 5 (.pure 6 (.rd 7 (.pure 8 (.pure 9 (.pure 10 (.rd 11 (.pure 12 (.last 13 (.pure 14 (.last 15 .done)))))))))))))))) ⟨ro,[(b,Obj.cells bj 3)]⟩ (by simp only[*,go_sem]) (by kernel_rfl) ?_;revert h;refine bS fun z gg h=>?_;obtain ⟨l3,l4,ma,mf⟩:=x.cM gg;revert h;refine bS fun B gl h=>?_;obtain ⟨gn,gp,mi,ml⟩:=x.cM gl;have bs:=x.fR gn gp z;revert h;refine bS fun mn gB h=>?_;obtain ⟨gC,gM,mr,mx⟩:=bs.cM gB;have d:=bs.fR gC gM B;try simp only[*,go_sem]
 refine af hJ ?_;obtain ⟨f,T⟩:∃o,o=(cI (cI bj (c).toNat [.int .i64 z]) (p).toNat [.int .i64 B]):=⟨_,rfl⟩
 refine cG (F:=⟨ro,[(b,Obj.cells f 3)]⟩) hJ (by rw[T];exact Le.refl _) ?_;rw[<-T] at d;clear T;refine az hJ fun my=>?_;refine aj hJ ?_;simp only[*,go_sem];revert h;refine bS fun gT h gV=>?_;refine gh hJ (fun a F'=>∃(g:Int),some (Fl.bk g:Fl Int ((Int×Bool)×(List Int)))=some gT/\F'=⟨ro,[(b,Obj.cells f 3)]⟩/\sz a=168/\a.defers=[]/\slot a 0= .slice (some ⟨b,0,none⟩) u0.length c2/\slot a 1= .int .i64 c/\slot a 8= .int .i64 0/\slot a 9= .bool false/\slot a 10= .int .i64 g/\slot a 11= .int .i64 (IntKind.i64.wrap (y - 1))) ?_ ?_
 ·refine aN hJ ?_;revert h;refine bS fun g0 K bz=>?_;refine bQ hJ [10,30,31,32,33,34,35,36,37,38,39,40,41,42,43,44,45] (fun m a F'=>∃(q:Int),aR (wu u0 c y p z B) m q=some g0/\F'=⟨ro,[(b,Obj.cells f 3)]⟩/\slot a 10= .int .i64 q) fu ?_ ?_
  ·refine ⟨(IntKind.i64.wrap (c+1)),K,rfl,?_⟩;simp only[*,go_sem]
  rintro U m1 F' b0 ⟨q,K,rfl,m2⟩;obtain ⟨g1,g2,g3⟩:=b0.pick [0,1,8,9,11] (by decide);simp only[*,go_sem] at g1 g2 g3;clear b0 bl hd bm k1 bo br;obtain _|U:=U
  ·exact absurd K (by simp only[aR,reduceCtorEq,not_false_eq_true])
  revert K;refine bS fun na h C=>?_;unfold wu at h;try dsimp only at h
  refine af hJ (af hJ ?_);refine az hJ fun nb=>?_;refine cQ hJ mixed 14 1 (by simp only[*,go_sem]) (by kernel_rfl) ?_;revert h;refine cS (fun g4 h=>?_) fun g4 h=>?_
  ·revert h;refine bS fun ha hc h=>?_;obtain ⟨nd,nf,nm,nn⟩:=d.cM hc;revert h;refine bS fun hf hg h=>?_;obtain ⟨np,ns,nx,nz⟩:=d.cM hg;revert h;refine bS fun nA hh h=>?_;(try simp only[*,go_sem]);refine ⟨_,bD hJ fun F V=>jz ha hf hh,b9 ?_⟩;(try simp only[*,go_sem]);revert h;refine jC hJ (by simp only[*,go_sem]) (fun hi h=>?_) fun hi h=>?_
   ·obtain rfl:=sI h;refine aI hJ (aN hJ ?_);refine az hJ fun nH=>?_;refine aj hJ ?_;simp only[*,go_sem];refine ⟨U,Nat.lt_succ_self _,_,Le.sub (List.Sublist.refl _),(IntKind.i64.wrap (q+1)),C,rfl,?_⟩;simp only[*,go_sem]
   obtain rfl:=sI h;refine bJ ?_;simp only[go_sem];obtain rfl:=sI C;clear C;have h:=bz;dsimp only[aB] at h;(try simp only[*,go_sem]);refine Qn.intro ⟨_,Le.sub (List.Sublist.refl _),q,h,rfl,?_⟩;simp only[*,go_sem]
  obtain rfl:=sI h;try simp only[*,go_sem]
  refine bM hJ (by simp only[*,go_sem]) ?_;refine bJ ?_;simp only[go_sem];obtain rfl:=sI C;clear C;have h:=bz;dsimp only[aB] at h;try simp only[*,go_sem]
  refine Qn.intro ⟨_,Le.sub (List.Sublist.refl _),q,h,rfl,?_⟩;simp only[*,go_sem]
 rintro nI F' ⟨g,b1,rfl,b2,b3,b4,b5,ca,cb,cd,cf⟩;obtain rfl:=sI b1;clear b1;have h:=gV;dsimp only[aB] at h;clear bl hd bm k1 bo br;revert h;refine bS fun hj h hk=>?_;refine gh hJ (fun a F'=>∃(k:Int),some (Fl.bk k:Fl Int ((Int×Bool)×(List Int)))=some hj/\F'=⟨ro,[(b,Obj.cells f 3)]⟩/\sz a=168/\a.defers=[]/\slot a 0= .slice (some ⟨b,0,none⟩) u0.length c2/\slot a 1= .int .i64 c/\slot a 8= .int .i64 0/\slot a 9= .bool false/\slot a 10= .int .i64 g/\slot a 11= .int .i64 k) ?_ ?_
 ·refine aN hJ ?_;revert h;refine bS fun hl L cl=>?_;refine bQ hJ [11,46,47,48,49,50,51,52,53,54,55,56,57,58,59,60,61,62] (fun m a F'=>∃(s:Int),aR (wv u0 c p z B g) m s=some hl/\F'=⟨ro,[(b,Obj.cells f 3)]⟩/\slot a 11= .int .i64 s) fu ?_ ?_
  ·refine ⟨(IntKind.i64.wrap (y - 1)),L,rfl,?_⟩;simp only[*,go_sem]
  rintro W nK F' cy ⟨s,L,rfl,nQ⟩;obtain ⟨hn,ho,hp⟩:=cy.pick [0,1,8,9,10] (by decide);simp only[*,go_sem] at hn ho hp;clear cy b2 b3 b4 b5 ca cb cd cf;obtain _|W:=W
  ·exact absurd L (by simp only[aR,reduceCtorEq,not_false_eq_true])
  revert L;refine bS fun nR h D=>?_;unfold wv at h;try dsimp only at h
  refine af hJ (af hJ ?_);refine az hJ fun nT=>?_;refine cQ hJ mixed 15 1 (by simp only[*,go_sem]) (by kernel_rfl) ?_;revert h;refine cS (fun hq h=>?_) fun hq h=>?_
  ·revert h;refine bS fun hr ht h=>?_;obtain ⟨nV,nX,nY,n0⟩:=d.cM ht;revert h;refine bS fun hv hx h=>?_;obtain ⟨n1,n2,n3,oc⟩:=d.cM hx;revert h;refine bS fun oi hy h=>?_;(try simp only[*,go_sem]);refine ⟨_,bD hJ fun F V=>jz hr hv hy,b9 ?_⟩;(try simp only[*,go_sem]);revert h;refine jC hJ (by simp only[*,go_sem]) (fun hz h=>?_) fun hz h=>?_
   ·obtain rfl:=sI h;refine aI hJ (aN hJ ?_);refine az hJ fun oj=>?_;refine aj hJ ?_;simp only[*,go_sem];refine ⟨W,Nat.lt_succ_self _,_,Le.sub (List.Sublist.refl _),(IntKind.i64.wrap (s - 1)),D,rfl,?_⟩;simp only[*,go_sem]
   obtain rfl:=sI h;refine bJ ?_;simp only[go_sem];obtain rfl:=sI D;clear D;have h:=cl;dsimp only[aB] at h;(try simp only[*,go_sem]);refine Qn.intro ⟨_,Le.sub (List.Sublist.refl _),s,h,rfl,?_⟩;simp only[*,go_sem]
  obtain rfl:=sI h;try simp only[*,go_sem]
  refine bM hJ (by simp only[*,go_sem]) ?_;refine bJ ?_;simp only[go_sem];obtain rfl:=sI D;clear D;have h:=cl;dsimp only[aB] at h;try simp only[*,go_sem]
  refine Qn.intro ⟨_,Le.sub (List.Sublist.refl _),s,h,rfl,?_⟩;simp only[*,go_sem]
 rintro ox F' ⟨k,c0,rfl,da,db,dd,df,dk,dp,dq,ds⟩;obtain rfl:=sI c0;clear c0;have h:=hk;dsimp only[aB] at h;clear b2 b3 b4 b5 ca cb cd cf;refine af hJ (af hJ ?_);refine az hJ fun oy=>?_;refine aj hJ ?_;simp only[*,go_sem];revert h;refine jC hJ (by simp only[*,go_sem]) (fun hA h=>?_) fun hA h=>?_
 ·refine af hJ ?_;refine az hJ fun o0=>?_;refine eE hJ mixed [13,14,15] (.pure 0 (.pure 1 (.pure 2 (.pure 3 (.pure 4 (.pure 5 (.pure 6 (.rd 7 (.pure 8 (.pure 9 (.pure 10 (.rd 11 (.pure 12 (.last 13 (.pure 14 (.last 15 .done)))))))))))))))) ⟨ro,[(b,Obj.cells f 3)]⟩ (by simp only[*,go_sem]) (by kernel_rfl) ?_;revert h;refine bS fun dt hB h=>?_;obtain ⟨o1,o2,o4,pa⟩:=d.cM hB;revert h;refine bS fun du hD h=>?_;obtain ⟨hE,hF,pb,pd⟩:=d.cM hD;have dv:=d.fR hE hF dt;revert h;refine bS fun pf hG h=>?_;obtain rfl:=sI h;obtain ⟨hI,hK,ph,pj⟩:=dv.cM hG;have dC:=dv.fR hI hK du;try simp only[*,go_sem]
  refine af hJ ?_;obtain ⟨hL,X⟩:∃o,o=(cI (cI f (k).toNat [.int .i64 dt]) (c).toNat [.int .i64 du]):=⟨_,rfl⟩
  refine cG (F:=⟨ro,[(b,Obj.cells hL 3)]⟩) hJ (by rw[X];exact Le.refl _) ?_;rw[<-X] at dC;clear X;refine az hJ fun pk=>?_;refine aj hJ ?_;simp only[*,go_sem];refine ay ?_;simp only[*,go_sem];exact ⟨_,dC,Le.sub (List.Sublist.refl _)⟩
 refine aI hJ (af hJ ?_);refine az hJ fun po=>?_;refine eE hJ mixed [13,14,15] (.pure 0 (.pure 1 (.pure 2 (.pure 3 (.pure 4 (.pure 5 (.pure 6 (.rd 7 (.pure 8 (.pure 9 (.pure 10 (.rd 11 (.pure 12 (.last 13 (.pure 14 (.last 15 .done)))))))))))))))) ⟨ro,[(b,Obj.cells f 3)]⟩ (by simp only[*,go_sem]) (by kernel_rfl) ?_;revert h;refine bS fun Y hM h=>?_;obtain ⟨pr,ps,pt,pv⟩:=d.cM hM;revert h;refine bS fun Z hN h=>?_;obtain ⟨hP,hQ,pw,px⟩:=d.cM hN;have dE:=d.fR hP hQ Y;revert h;refine bS fun py hR h=>?_;obtain ⟨hS,hT,pA,pB⟩:=dE.cM hR;have dT:=dE.fR hS hT Z;try simp only[*,go_sem]
 refine af hJ ?_;obtain ⟨ea,ab⟩:∃o,o=(cI (cI f (g).toNat [.int .i64 Y]) (k).toNat [.int .i64 Z]):=⟨_,rfl⟩
 refine cG (F:=⟨ro,[(b,Obj.cells ea 3)]⟩) hJ (by rw[ab];exact Le.refl _) ?_;rw[<-ab] at dT;clear ab;refine az hJ fun pC=>?_;refine aj hJ ?_;simp only[*,go_sem];refine af hJ ?_;refine az hJ fun pD=>?_;refine aj hJ ?_;simp only[*,go_sem];revert h;refine bS fun hV h hX=>?_;refine gh hJ (fun a F'=>∃(E:Array Value) (M:Int) (ad:(List Int)),some (Fl.bk (M,ad):Fl (Int×(List Int)) ((Int×Bool)×(List Int)))=some hV/\F'=⟨ro,[(b,Obj.cells E 3)]⟩/\aO rI ro 3 (.slice (some ⟨b,0,none⟩) u0.length c2) ad [(b,Obj.cells E 3)]/\sz a=168/\a.defers=[]/\slot a 0= .slice (some ⟨b,0,none⟩) u0.length c2/\slot a 1= .int .i64 c/\slot a 8= .int .i64 0/\slot a 9= .bool false/\slot a 11= .int .i64 M) ?_ ?_
 ·refine aN hJ ?_;revert h;refine bS fun hY N hZ=>?_;refine bQ hJ [10,11,99,100,101,102,103,104,105,106,107,108,109,110,111,112,113,114,115,116,117,118,119,120,121,122,123,124,125,126,127,128,129,130,131,132,133,134,135,136,137,138,139,140,141,142,143,144,145,146,147,148,149,150,151,152] (fun m a F'=>∃(e:Array Value) (O:Int) (t:Int) (l:(List Int)),aR (wB c) m (O,t,l)=some hY/\F'=⟨ro,[(b,Obj.cells e 3)]⟩/\aO rI ro 3 (.slice (some ⟨b,0,none⟩) u0.length c2) l [(b,Obj.cells e 3)]/\slot a 10= .int .i64 O/\slot a 11= .int .i64 t) fu ?_ ?_
  ·refine ⟨ea,(IntKind.i64.wrap (g+1)),(IntKind.i64.wrap (k - 1)),((((u0.set (c).toNat z).set (p).toNat B).set (g).toNat Y).set (k).toNat Z),N,rfl,dT,?_⟩;simp only[*,go_sem]
  rintro ae P F' eb ⟨e,O,t,l,N,rfl,i,ec,ed⟩;obtain ⟨al,ao,ar⟩:=eb.pick [0,1,8,9] (by decide);simp only[*,go_sem] at al ao ar;clear eb da db dd df dk dp dq ds;obtain _|ae:=ae
  ·exact absurd N (by simp only[aR,reduceCtorEq,not_false_eq_true])
  revert N;refine bS fun pL h a0=>?_;unfold wB at h;try dsimp only at h
  refine aN hJ ?_;revert h;refine bS fun h0 h h1=>?_;refine gh hJ (fun a F'=>∃(j:Int),some (Fl.bk j:Fl Int ((Int×Bool)×(List Int)))=some h0/\F'=⟨ro,[(b,Obj.cells e 3)]⟩/\sz a=168/\a.defers=[]/\cE [10,11,99,100,101,102,103,104,105,106,107,108,109,110,111,112,113,114,115,116,117,118,119,120,121,122,123,124,125,126,127,128,129,130,131,132,133,134,135,136,137,138,139,140,141,142,143,144,145,146,147,148,149,150,151,152] a P/\slot a 0= .slice (some ⟨b,0,none⟩) u0.length c2/\slot a 1= .int .i64 c/\slot a 8= .int .i64 0/\slot a 9= .bool false/\slot a 10= .int .i64 j/\slot a 11= .int .i64 t) ?_ ?_
  ·refine aN hJ ?_;revert h;refine bS fun h2 Q eh=>?_;refine bQ hJ [10,99,100,101,102,103,104,105,106,107,108,109,110,111,112,113,114] (fun m a F'=>∃(u:Int),aR (wz c t l) m u=some h2/\F'=⟨ro,[(b,Obj.cells e 3)]⟩/\slot a 10= .int .i64 u) fu ?_ ?_
   ·refine ⟨O,Q,rfl,?_⟩;simp only[*,go_sem]
   rintro a2 h3 F' a3 ⟨u,Q,rfl,pT⟩;obtain ⟨h4,h5,h6⟩:=a3.pick [0,1,8,9,11] (by decide);simp only[*,go_sem] at h4 h5 h6;have p0:cE [10,11,99,100,101,102,103,104,105,106,107,108,109,110,111,112,113,114,115,116,117,118,119,120,121,122,123,124,125,126,127,128,129,130,131,132,133,134,135,136,137,138,139,140,141,142,143,144,145,146,147,148,149,150,151,152] h3 P:=(a3.fK (by decide)).trans (by simp only[*,go_sem]);clear a3 al ao ar ec ed;obtain _|a2:=a2
   ·exact absurd Q (by simp only[aR,reduceCtorEq,not_false_eq_true])
   revert Q;refine bS fun p1 h H=>?_;unfold wz at h;(try dsimp only at h);refine af hJ (af hJ ?_);refine az hJ fun q0=>?_;refine cQ hJ mixed 14 1 (by simp only[*,go_sem]) (by kernel_rfl) ?_;revert h;refine cS (fun h7 h=>?_) fun h7 h=>?_
   ·revert h;refine bS fun h8 h9 h=>?_;obtain ⟨q1,ra,rb,re⟩:=i.cM h9;revert h;refine bS fun ib ic h=>?_;obtain ⟨rh,rk,rl,rn⟩:=i.cM ic;revert h;refine bS fun rp ih h=>?_;(try simp only[*,go_sem]);refine ⟨_,bD hJ fun F V=>jz h8 ib ih,b9 ?_⟩;(try simp only[*,go_sem]);revert h;refine jC hJ (by simp only[*,go_sem]) (fun ik h=>?_) fun ik h=>?_
    ·obtain rfl:=sI h;refine aI hJ (aN hJ ?_);refine az hJ fun rr=>?_;refine aj hJ ?_;simp only[*,go_sem];refine ⟨a2,Nat.lt_succ_self _,_,Le.sub (List.Sublist.refl _),(IntKind.i64.wrap (u+1)),H,rfl,?_⟩;simp only[*,go_sem]
    obtain rfl:=sI h;refine bJ ?_;simp only[go_sem];obtain rfl:=sI H;clear H;have h:=eh;dsimp only[aB] at h;(try simp only[*,go_sem]);refine Qn.intro ⟨_,Le.sub (List.Sublist.refl _),u,h,rfl,?_⟩;simp only[*,go_sem]
   obtain rfl:=sI h;(try simp only[*,go_sem]);refine bM hJ (by simp only[*,go_sem]) ?_;refine bJ ?_;simp only[go_sem];obtain rfl:=sI H;clear H;have h:=eh;dsimp only[aB] at h;(try simp only[*,go_sem]);refine Qn.intro ⟨_,Le.sub (List.Sublist.refl _),u,h,rfl,?_⟩;simp only[*,go_sem]
  rintro rv F' ⟨j,et,rfl,ev,eQ,rB,eS,e0,e1,e2,e3,fa⟩;obtain rfl:=sI et;clear et;have h:=h1;dsimp only[aB] at h;clear al ao ar ec ed;revert h;refine bS fun il h im=>?_;refine gh hJ (fun a F'=>∃(n:Int),some (Fl.bk n:Fl Int ((Int×Bool)×(List Int)))=some il/\F'=⟨ro,[(b,Obj.cells e 3)]⟩/\sz a=168/\a.defers=[]/\cE [10,11,99,100,101,102,103,104,105,106,107,108,109,110,111,112,113,114,115,116,117,118,119,120,121,122,123,124,125,126,127,128,129,130,131,132,133,134,135,136,137,138,139,140,141,142,143,144,145,146,147,148,149,150,151,152] a P/\slot a 0= .slice (some ⟨b,0,none⟩) u0.length c2/\slot a 1= .int .i64 c/\slot a 8= .int .i64 0/\slot a 9= .bool false/\slot a 10= .int .i64 j/\slot a 11= .int .i64 n) ?_ ?_
  ·refine aN hJ ?_;revert h;refine bS fun iv R fb=>?_;refine bQ hJ [11,115,116,117,118,119,120,121,122,123,124,125,126,127,128,129,130,131] (fun m a F'=>∃(w:Int),aR (wA c l j) m w=some iv/\F'=⟨ro,[(b,Obj.cells e 3)]⟩/\slot a 11= .int .i64 w) fu ?_ ?_
   ·refine ⟨t,R,rfl,?_⟩;simp only[*,go_sem]
   rintro a4 ix F' a5 ⟨w,R,rfl,rL⟩;obtain ⟨j1,j2,kh⟩:=a5.pick [0,1,8,9,10] (by decide);simp only[*,go_sem] at j1 j2 kh;have sa:cE [10,11,99,100,101,102,103,104,105,106,107,108,109,110,111,112,113,114,115,116,117,118,119,120,121,122,123,124,125,126,127,128,129,130,131,132,133,134,135,136,137,138,139,140,141,142,143,144,145,146,147,148,149,150,151,152] ix P:=(a5.fK (by decide)).trans (by simp only[*,go_sem]);clear a5 ev eQ eS e0 e1 e2 e3 fa;obtain _|a4:=a4
   ·exact absurd R (by simp only[aR,reduceCtorEq,not_false_eq_true])
   revert R;refine bS fun sb h I=>?_;unfold wA at h;(try dsimp only at h);refine af hJ (af hJ ?_);refine az hJ fun sc=>?_;refine cQ hJ mixed 15 1 (by simp only[*,go_sem]) (by kernel_rfl) ?_;revert h;refine cS (fun kj h=>?_) fun kj h=>?_
   ·revert h;refine bS fun kk kl h=>?_;obtain ⟨sf,sg,sh,sl⟩:=i.cM kl;revert h;refine bS fun km kn h=>?_;obtain ⟨sm,ss,sy,sT⟩:=i.cM kn;revert h;refine bS fun tb kp h=>?_;(try simp only[*,go_sem]);refine ⟨_,bD hJ fun F V=>jz kk km kp,b9 ?_⟩;(try simp only[*,go_sem]);revert h;refine jC hJ (by simp only[*,go_sem]) (fun ks h=>?_) fun ks h=>?_
    ·obtain rfl:=sI h;refine aI hJ (aN hJ ?_);refine az hJ fun te=>?_;refine aj hJ ?_;simp only[*,go_sem];refine ⟨a4,Nat.lt_succ_self _,_,Le.sub (List.Sublist.refl _),(IntKind.i64.wrap (w - 1)),I,rfl,?_⟩;simp only[*,go_sem]
    obtain rfl:=sI h;refine bJ ?_;simp only[go_sem];obtain rfl:=sI I;clear I;have h:=fb;dsimp only[aB] at h;(try simp only[*,go_sem]);refine Qn.intro ⟨_,Le.sub (List.Sublist.refl _),w,h,rfl,?_⟩;simp only[*,go_sem]
   obtain rfl:=sI h;(try simp only[*,go_sem]);refine bM hJ (by simp only[*,go_sem]) ?_;refine bJ ?_;simp only[go_sem];obtain rfl:=sI I;clear I;have h:=fb;dsimp only[aB] at h;(try simp only[*,go_sem]);refine Qn.intro ⟨_,Le.sub (List.Sublist.refl _),w,h,rfl,?_⟩;simp only[*,go_sem]
  rintro ti F' ⟨n,fg,rfl,tk,tl,tm,tp,ts,tt,tx,tz,tI⟩;obtain rfl:=sI fg;clear fg;have h:=im;dsimp only[aB] at h;clear ev eQ eS e0 e1 e2 e3 fa;refine af hJ (af hJ ?_);refine az hJ fun tM=>?_;refine aj hJ ?_;simp only[*,go_sem];revert h;refine jC hJ (by simp only[*,go_sem]) (fun kt h=>?_) fun kt h=>?_
  ·obtain rfl:=sI h;refine bJ ?_;simp only[go_sem];obtain rfl:=sI a0;clear a0;have h:=hZ;dsimp only[aB] at h;(try simp only[*,go_sem]);refine Qn.intro ⟨_,Le.sub (List.Sublist.refl _),e,n,l,h,rfl,i,?_⟩;simp only[*,go_sem]
  refine aI hJ (af hJ ?_);refine az hJ fun tW=>?_;refine eE hJ mixed [13,14,15] (.pure 0 (.pure 1 (.pure 2 (.pure 3 (.pure 4 (.pure 5 (.pure 6 (.rd 7 (.pure 8 (.pure 9 (.pure 10 (.rd 11 (.pure 12 (.last 13 (.pure 14 (.last 15 .done)))))))))))))))) ⟨ro,[(b,Obj.cells e 3)]⟩ (by simp only[*,go_sem]) (by kernel_rfl) ?_;revert h;refine bS fun a6 kv h=>?_;obtain ⟨ub,ui,u1,u2⟩:=i.cM kv;revert h;refine bS fun a7 kx h=>?_;obtain ⟨ky,k0,u3,u4⟩:=i.cM kx;have fi:=i.fR ky k0 a6;revert h;refine bS fun va k2 h=>?_;obtain rfl:=sI h;obtain ⟨lb,lh,vd,vs⟩:=fi.cM k2;have fp:=fi.fR lb lh a7;try simp only[*,go_sem]
  refine af hJ ?_;obtain ⟨fr,a8⟩:∃o,o=(cI (cI e (j).toNat [.int .i64 a6]) (n).toNat [.int .i64 a7]):=⟨_,rfl⟩
  refine cG (F:=⟨ro,[(b,Obj.cells fr 3)]⟩) hJ (by rw[a8];exact Le.refl _) ?_;rw[<-a8] at fp;clear a8;refine az hJ fun vx=>?_;refine aj hJ ?_;simp only[*,go_sem];refine az hJ fun vy=>?_;refine aj hJ ?_;simp only[*,go_sem];refine ⟨ae,Nat.lt_succ_self _,_,Le.sub (List.Sublist.refl _),fr,(IntKind.i64.wrap (j+1)),(IntKind.i64.wrap (n - 1)),((l.set (j).toNat a6).set (n).toNat a7),a0,rfl,fp,?_⟩;simp only[*,go_sem]
 rintro v3 F' ⟨E,M,ad,fs,rfl,a9,wa,wb,wc,wi,wx,wy,w0⟩;obtain rfl:=sI fs;clear fs;have h:=hX;dsimp only[aB] at h;clear da db dd df dk dp dq ds;refine af hJ ?_;refine az hJ fun xa=>?_;refine eE hJ mixed [13,14,15] (.pure 0 (.pure 1 (.pure 2 (.pure 3 (.pure 4 (.pure 5 (.pure 6 (.rd 7 (.pure 8 (.pure 9 (.pure 10 (.rd 11 (.pure 12 (.last 13 (.pure 14 (.last 15 .done)))))))))))))))) ⟨ro,[(b,Obj.cells E 3)]⟩ (by simp only[*,go_sem]) (by kernel_rfl) ?_;revert h;refine bS fun ft lj h=>?_;obtain ⟨xc,xf,xi,xn⟩:=a9.cM lj;revert h;refine bS fun fv lk h=>?_;obtain ⟨ll,ln,xr,xt⟩:=a9.cM lk;have fw:=a9.fR ll ln ft;revert h;refine bS fun xv lo h=>?_;obtain rfl:=sI h;obtain ⟨lr,lv,x0,x1⟩:=fw.cM lo;have fx:=fw.fR lr lv fv;try simp only[*,go_sem]
 refine af hJ ?_;obtain ⟨lx,ba⟩:∃o,o=(cI (cI E (M).toNat [.int .i64 ft]) (c).toNat [.int .i64 fv]):=⟨_,rfl⟩
 refine cG (F:=⟨ro,[(b,Obj.cells lx 3)]⟩) hJ (by rw[ba];exact Le.refl _) ?_;rw[<-ba] at fx;clear ba;refine az hJ fun yi=>?_;refine aj hJ ?_;simp only[*,go_sem];refine ay ?_;simp only[*,go_sem];exact ⟨_,fx,Le.sub (List.Sublist.refl _)⟩
def wD (b:Int)(c:Int)(a:(List Int))(st:Int):Option (Fl Int (Int×(List Int))):=
 cond (decide (st<=c)) (ag (bf a b) fun d=>ag (bf a st) fun e=>ag (iq d e) fun f=>cond (!f) (some (.nx (IntKind.i64.wrap (st+1)))) (some (.bk st))) (some (.bk st))
def wE (b:Int)(a:(List Int))(c:Int)(st:Int):Option (Fl Int (Int×(List Int))):=
 cond (decide (c<=st)) (ag (bf a b) fun d=>ag (bf a st) fun e=>ag (iq d e) fun f=>cond (f) (some (.nx (IntKind.i64.wrap (st - 1)))) (some (.bk st))) (some (.bk st))
def wF (c:Int)(st:(Int×Int×(List Int))):Option (Fl (Int×Int×(List Int)) (Int×(List Int))):=
 ag (ag (aR (wD c st.2.1 st.2.2) fu st.1) fun o=>aB o (fun e=>some (.bk e)) (fun _ _=>none) (fun r=>some (.rt r)):Option (Fl Int (Int×(List Int)))) fun o=>aB o (fun a=>ag (ag (aR (wE c st.2.2 a) fu st.2.1) fun o=>aB o (fun f=>some (.bk f)) (fun _ _=>none) (fun r=>some (.rt r)):Option (Fl Int (Int×(List Int)))) fun o=>aB o (fun b=>cond (decide (b<a)) (some (.bk (a,b,st.2.2))) (ag (bf st.2.2 b) fun d=>ag (bf st.2.2 a) fun g=>ag (bf (st.2.2.set (a).toNat d) b) fun h=>some (.nx ((IntKind.i64.wrap (a+1)),(IntKind.i64.wrap (b - 1)),((st.2.2.set (a).toNat d).set (b).toNat g))))) (fun _ _=>none) (fun r=>some (.rt r))) (fun _ _=>none) (fun r=>some (.rt r))
def wG (u0:(List Int))(a:Int)(f:Int)(b:Int):Option (Int×(List Int)):=
 cond (List.isEmpty u0) none (ag (bf u0 b) fun c=>ag (bf u0 a) fun g=>ag (bf (u0.set (a).toNat c) b) fun h=>ag (ag (aR (wF a) fu ((IntKind.i64.wrap (a+1)),(IntKind.i64.wrap (f - 1)),((u0.set (a).toNat c).set (b).toNat g))) fun o=>aB o (fun d=>some (.bk (d.1,d.2.2))) (fun _ _=>none) (fun r=>some (.rt r)):Option (Fl (Int×(List Int)) (Int×(List Int)))) fun o=>aB o (fun e=>some (e.1,e.2)) (fun _ _=>none) (fun r=>some r))
theorem GY {ro:Addr->Option Value}(u0:(List Int)){z:Value}{X:List (Nat×Obj)}(n:aO rI ro 3 z u0 X)(c:Int)(B:Int)(s:Int){r:(Int×(List Int))}(h:wG u0 c B s=some r):aD Tryz.prog 184 #[z,.int .i64 c,.int .i64 B,.int .i64 s] ⟨ro,X⟩ (fun v G=>∃Y,(v= .int .i64 r.1/\aO rI ro 3 z r.2 Y)/\Le ⟨ro,Y⟩ G):=by
 obtain ⟨d1,c2,rfl,fw⟩:=n.len;unfold wG at h;revert h;refine cS (fun Z h=>?_) fun Z h=>?_
 ·cases h
 obtain ⟨b,ab,rfl,rfl,fx⟩:=n.ig Z;refine aD.go Tryz.func184 rfl Tryz.ntmps184 Tryz.results184 (by simp) fun main J hJ A ad hd hs=>?_;have ae:=hs 0;have k1:=hs 1;have al:=hs 2;have ao:=hs 3;clear hs;refine af hJ ?_;refine az hJ fun gg=>?_;refine aj hJ ?_;simp only[*,go_sem];refine af hJ ?_;refine az hJ fun gl=>?_;refine eE hJ mixed [13,14,15] (.pure 0 (.pure 1 (.pure 2 (.pure 3 (.pure 4 (.pure 5 (.pure 6 (.rd 7 (.pure 8 (.pure 9 (.pure 10 (.rd 11 (.pure 12 (.last 13 (.pure 14 (.last 15 .done)))))))))))))))) ⟨ro,[(b,Obj.cells ab 3)]⟩ (by simp only[*,go_sem]) (by kernel_rfl) ?_;revert h;refine bS fun C b0 h=>?_;obtain ⟨gn,gp,gB,gC⟩:=n.cM b0;revert h;refine bS fun D b1 h=>?_;obtain ⟨b2,b3,gM,gT⟩:=n.cM b1;have ar:=n.fR b2 b3 C;revert h;refine bS fun gV b4 h=>?_;obtain ⟨b5,ca,g0,g1⟩:=ar.cM b4;have a0:=ar.fR b5 ca D;try simp only[*,go_sem]
 refine af hJ ?_;obtain ⟨a2,E⟩:∃o,o=(cI (cI ab (c).toNat [.int .i64 C]) (s).toNat [.int .i64 D]):=⟨_,rfl⟩
 refine cG (F:=⟨ro,[(b,Obj.cells a2 3)]⟩) hJ (by rw[E];exact Le.refl _) ?_;rw[<-E] at a0;clear E;refine az hJ fun g2=>?_;refine aj hJ ?_;simp only[*,go_sem];revert h;refine bS fun cb h cd=>?_;refine gh hJ (fun a F'=>∃(H:Array Value) (I:Int) (K:(List Int)),some (Fl.bk (I,K):Fl (Int×(List Int)) (Int×(List Int)))=some cb/\F'=⟨ro,[(b,Obj.cells H 3)]⟩/\aO rI ro 3 (.slice (some ⟨b,0,none⟩) u0.length c2) K [(b,Obj.cells H 3)]/\sz a=84/\a.defers=[]/\slot a 0= .slice (some ⟨b,0,none⟩) u0.length c2/\slot a 8= .int .i64 0/\slot a 9= .int .i64 I) ?_ ?_
 ·refine aN hJ ?_;revert h;refine bS fun cf t cl=>?_;refine bQ hJ [9,10,29,30,31,32,33,34,35,36,37,38,39,40,41,42,43,44,45,46,47,48,49,50,51,52,53,54,55,56,57,58,59,60,61,62,63,64,65,66,67,68,69,70,71,72,73,74,75,76,77,78,79,80,81,82] (fun m a F'=>∃(d:Array Value) (u:Int) (i:Int) (g:(List Int)),aR (wF c) m (u,i,g)=some cf/\F'=⟨ro,[(b,Obj.cells d 3)]⟩/\aO rI ro 3 (.slice (some ⟨b,0,none⟩) u0.length c2) g [(b,Obj.cells d 3)]/\slot a 9= .int .i64 u/\slot a 10= .int .i64 i) fu ?_ ?_
  ·refine ⟨a2,(IntKind.i64.wrap (c+1)),(IntKind.i64.wrap (B - 1)),((u0.set (c).toNat C).set (s).toNat D),t,rfl,a0,?_⟩;simp only[*,go_sem]
  rintro L w F' a3 ⟨d,u,i,g,t,rfl,f,a4,a5⟩;obtain ⟨M,N,O⟩:=a3.pick [0,1,8] (by decide);simp only[*,go_sem] at M N O;clear a3 ad hd ae k1 al ao;obtain _|L:=L
  ·exact absurd t (by simp only[aR,reduceCtorEq,not_false_eq_true])
  revert t;refine bS fun g3 h P=>?_;unfold wF at h;try dsimp only at h
  refine aN hJ ?_;revert h;refine bS fun cy h c0=>?_;refine gh hJ (fun a F'=>∃(e:Int),some (Fl.bk e:Fl Int (Int×(List Int)))=some cy/\F'=⟨ro,[(b,Obj.cells d 3)]⟩/\sz a=84/\a.defers=[]/\cE [9,10,29,30,31,32,33,34,35,36,37,38,39,40,41,42,43,44,45,46,47,48,49,50,51,52,53,54,55,56,57,58,59,60,61,62,63,64,65,66,67,68,69,70,71,72,73,74,75,76,77,78,79,80,81,82] a w/\slot a 0= .slice (some ⟨b,0,none⟩) u0.length c2/\slot a 1= .int .i64 c/\slot a 8= .int .i64 0/\slot a 9= .int .i64 e/\slot a 10= .int .i64 i) ?_ ?_
  ·refine aN hJ ?_;revert h;refine bS fun da x a6=>?_;refine bQ hJ [9,29,30,31,32,33,34,35,36,37,38,39,40,41,42,43,44,45] (fun m a F'=>∃(j:Int),aR (wD c i g) m j=some da/\F'=⟨ro,[(b,Obj.cells d 3)]⟩/\slot a 9= .int .i64 j) fu ?_ ?_
   ·refine ⟨u,x,rfl,?_⟩;simp only[*,go_sem]
   rintro Q db F' R ⟨j,x,rfl,g4⟩;obtain ⟨dd,df,dk⟩:=R.pick [0,1,8,10] (by decide);simp only[*,go_sem] at dd df dk;have ha:cE [9,10,29,30,31,32,33,34,35,36,37,38,39,40,41,42,43,44,45,46,47,48,49,50,51,52,53,54,55,56,57,58,59,60,61,62,63,64,65,66,67,68,69,70,71,72,73,74,75,76,77,78,79,80,81,82] db w:=(R.fK (by decide)).trans (by simp only[*,go_sem]);clear R M N O a4 a5;obtain _|Q:=Q
   ·exact absurd x (by simp only[aR,reduceCtorEq,not_false_eq_true])
   revert x;refine bS fun hc h p=>?_;unfold wD at h;(try dsimp only at h);refine af hJ (af hJ ?_);refine az hJ fun hf=>?_;refine cQ hJ mixed 15 1 (by simp only[*,go_sem]) (by kernel_rfl) ?_;revert h;refine cS (fun dp h=>?_) fun dp h=>?_
   ·revert h;refine bS fun dq ds h=>?_;obtain ⟨hg,hh,hi,hj⟩:=f.cM ds;revert h;refine bS fun dt du h=>?_;obtain ⟨hk,hl,hn,ho⟩:=f.cM du;revert h;refine bS fun hp dv h=>?_;(try simp only[*,go_sem]);refine ⟨_,bD hJ fun F dC=>jz dq dt dv,b9 ?_⟩;(try simp only[*,go_sem]);revert h;refine jC hJ (by simp only[*,go_sem]) (fun dE h=>?_) fun dE h=>?_
    ·obtain rfl:=sI h;refine aI hJ (aN hJ ?_);refine az hJ fun hq=>?_;refine aj hJ ?_;simp only[*,go_sem];refine ⟨Q,Nat.lt_succ_self _,_,Le.sub (List.Sublist.refl _),(IntKind.i64.wrap (j+1)),p,rfl,?_⟩;simp only[*,go_sem]
    obtain rfl:=sI h;refine bJ ?_;simp only[go_sem];obtain rfl:=sI p;clear p;have h:=a6;dsimp only[aB] at h;(try simp only[*,go_sem]);refine Qn.intro ⟨_,Le.sub (List.Sublist.refl _),j,h,rfl,?_⟩;simp only[*,go_sem]
   obtain rfl:=sI h;(try simp only[*,go_sem]);refine bM hJ (by simp only[*,go_sem]) ?_;refine bJ ?_;simp only[go_sem];obtain rfl:=sI p;clear p;have h:=a6;dsimp only[aB] at h;(try simp only[*,go_sem]);refine Qn.intro ⟨_,Le.sub (List.Sublist.refl _),j,h,rfl,?_⟩;simp only[*,go_sem]
  rintro hr F' ⟨e,a7,rfl,a8,a9,ht,ba,bb,bc,bd,bj⟩;obtain rfl:=sI a7;clear a7;have h:=c0;dsimp only[aB] at h;clear M N O a4 a5;revert h;refine bS fun dT h ea=>?_;refine gh hJ (fun a F'=>∃(k:Int),some (Fl.bk k:Fl Int (Int×(List Int)))=some dT/\F'=⟨ro,[(b,Obj.cells d 3)]⟩/\sz a=84/\a.defers=[]/\cE [9,10,29,30,31,32,33,34,35,36,37,38,39,40,41,42,43,44,45,46,47,48,49,50,51,52,53,54,55,56,57,58,59,60,61,62,63,64,65,66,67,68,69,70,71,72,73,74,75,76,77,78,79,80,81,82] a w/\slot a 0= .slice (some ⟨b,0,none⟩) u0.length c2/\slot a 1= .int .i64 c/\slot a 8= .int .i64 0/\slot a 9= .int .i64 e/\slot a 10= .int .i64 k) ?_ ?_
  ·refine aN hJ ?_;revert h;refine bS fun eb y bl=>?_;refine bQ hJ [10,46,47,48,49,50,51,52,53,54,55,56,57,58,59,60,61] (fun m a F'=>∃(l:Int),aR (wE c g e) m l=some eb/\F'=⟨ro,[(b,Obj.cells d 3)]⟩/\slot a 10= .int .i64 l) fu ?_ ?_
   ·refine ⟨i,y,rfl,?_⟩;simp only[*,go_sem]
   rintro S ec F' T ⟨l,y,rfl,hv⟩;obtain ⟨ed,eh,et⟩:=T.pick [0,1,8,9] (by decide);simp only[*,go_sem] at ed eh et;have hx:cE [9,10,29,30,31,32,33,34,35,36,37,38,39,40,41,42,43,44,45,46,47,48,49,50,51,52,53,54,55,56,57,58,59,60,61,62,63,64,65,66,67,68,69,70,71,72,73,74,75,76,77,78,79,80,81,82] ec w:=(T.fK (by decide)).trans (by simp only[*,go_sem]);clear T a8 a9 ba bb bc bd bj;obtain _|S:=S
   ·exact absurd y (by simp only[aR,reduceCtorEq,not_false_eq_true])
   revert y;refine bS fun hy h q=>?_;unfold wE at h;(try dsimp only at h);refine af hJ (af hJ ?_);refine az hJ fun hz=>?_;refine cQ hJ mixed 14 1 (by simp only[*,go_sem]) (by kernel_rfl) ?_;revert h;refine cS (fun ev h=>?_) fun ev h=>?_
   ·revert h;refine bS fun eQ eS h=>?_;obtain ⟨hA,hB,hD,hE⟩:=f.cM eS;revert h;refine bS fun e0 e1 h=>?_;obtain ⟨hF,hG,hI,hK⟩:=f.cM e1;revert h;refine bS fun hL e2 h=>?_;(try simp only[*,go_sem]);refine ⟨_,bD hJ fun F dC=>jz eQ e0 e2,b9 ?_⟩;(try simp only[*,go_sem]);revert h;refine jC hJ (by simp only[*,go_sem]) (fun e3 h=>?_) fun e3 h=>?_
    ·obtain rfl:=sI h;refine aI hJ (aN hJ ?_);refine az hJ fun hM=>?_;refine aj hJ ?_;simp only[*,go_sem];refine ⟨S,Nat.lt_succ_self _,_,Le.sub (List.Sublist.refl _),(IntKind.i64.wrap (l - 1)),q,rfl,?_⟩;simp only[*,go_sem]
    obtain rfl:=sI h;refine bJ ?_;simp only[go_sem];obtain rfl:=sI q;clear q;have h:=bl;dsimp only[aB] at h;(try simp only[*,go_sem]);refine Qn.intro ⟨_,Le.sub (List.Sublist.refl _),l,h,rfl,?_⟩;simp only[*,go_sem]
   obtain rfl:=sI h;(try simp only[*,go_sem]);refine bM hJ (by simp only[*,go_sem]) ?_;refine bJ ?_;simp only[go_sem];obtain rfl:=sI q;clear q;have h:=bl;dsimp only[aB] at h;(try simp only[*,go_sem]);refine Qn.intro ⟨_,Le.sub (List.Sublist.refl _),l,h,rfl,?_⟩;simp only[*,go_sem]
  rintro hN F' ⟨k,bm,rfl,hP,hQ,hR,hS,hT,hV,hX,hY⟩;obtain rfl:=sI bm;clear bm;have h:=ea;dsimp only[aB] at h;clear a8 a9 ba bb bc bd bj;refine af hJ (af hJ ?_);refine az hJ fun hZ=>?_;refine aj hJ ?_;simp only[*,go_sem];revert h;refine jC hJ (by simp only[*,go_sem]) (fun fa h=>?_) fun fa h=>?_
  ·obtain rfl:=sI h;refine bJ ?_;simp only[go_sem];obtain rfl:=sI P;clear P;have h:=cl;dsimp only[aB] at h;(try simp only[*,go_sem]);refine Qn.intro ⟨_,Le.sub (List.Sublist.refl _),d,e,g,h,rfl,f,?_⟩;simp only[*,go_sem]
  refine aI hJ (af hJ ?_);refine az hJ fun h0=>?_;refine eE hJ mixed [13,14,15] (.pure 0 (.pure 1 (.pure 2 (.pure 3 (.pure 4 (.pure 5 (.pure 6 (.rd 7 (.pure 8 (.pure 9 (.pure 10 (.rd 11 (.pure 12 (.last 13 (.pure 14 (.last 15 .done)))))))))))))))) ⟨ro,[(b,Obj.cells d 3)]⟩ (by simp only[*,go_sem]) (by kernel_rfl) ?_;revert h;refine bS fun U fb h=>?_;obtain ⟨h1,h2,h3,h4⟩:=f.cM fb;revert h;refine bS fun V fg h=>?_;obtain ⟨fi,fp,h5,h6⟩:=f.cM fg;have bo:=f.fR fi fp U;revert h;refine bS fun h7 fr h=>?_;obtain rfl:=sI h;obtain ⟨fs,ft,h8,h9⟩:=bo.cM fr;have br:=bo.fR fs ft V;try simp only[*,go_sem]
  refine af hJ ?_;obtain ⟨bs,W⟩:∃o,o=(cI (cI d (e).toNat [.int .i64 U]) (k).toNat [.int .i64 V]):=⟨_,rfl⟩
  refine cG (F:=⟨ro,[(b,Obj.cells bs 3)]⟩) hJ (by rw[W];exact Le.refl _) ?_;rw[<-W] at br;clear W;refine az hJ fun ib=>?_;refine aj hJ ?_;simp only[*,go_sem];refine az hJ fun ic=>?_;refine aj hJ ?_;simp only[*,go_sem];refine ⟨L,Nat.lt_succ_self _,_,Le.sub (List.Sublist.refl _),bs,(IntKind.i64.wrap (e+1)),(IntKind.i64.wrap (k - 1)),((g.set (e).toNat U).set (k).toNat V),P,rfl,br,?_⟩;simp only[*,go_sem]
 rintro ih F' ⟨H,I,K,bz,rfl,fv,ik,il,im,iv,ix⟩;obtain rfl:=sI bz;clear bz;have h:=cd;dsimp only[aB] at h;obtain rfl:=sI h;clear ad hd ae k1 al ao;refine af hJ ?_;refine az hJ fun j1=>?_;refine aj hJ ?_;simp only[*,go_sem];refine ay ?_;simp only[*,go_sem];exact ⟨_,fv,Le.sub (List.Sublist.refl _)⟩
def wH (u0:(List Int))(a:Int)(st:Int):Option (Fl Int (Bool×(List Int))):=
 cond (decide (st<a)) (ag (bf u0 st) fun b=>ag (bf u0 (IntKind.i64.wrap (st - 1))) fun c=>ag (iq b c) fun d=>cond (!d) (some (.nx (IntKind.i64.wrap (st+1)))) (some (.bk st))) (some (.bk st))
def wI (u0:(List Int))(b:Int)(a:Int)(st:(Bool×Int×Int)):Option (Fl (Bool×Int×Int) (Bool×(List Int))):=
 cond (decide (st.2.2<5)) (ag (ag (aR (wH u0 a) fu st.2.1) fun o=>aB o (fun c=>some (.bk c)) (fun _ _=>none) (fun r=>some (.rt r)):Option (Fl Int (Bool×(List Int)))) fun o=>aB o (fun d=>cond ((d==a)) (some (.rt (true,u0))) (cond (decide ((IntKind.i64.wrap (a - b))<50)) (some (.rt (false,u0))) (none))) (fun _ _=>none) (fun r=>some (.rt r))) (some (.bk (st.1,st.2.1,st.2.2)))
def wJ (u0:(List Int))(a:Int)(b:Int):Option (Bool×(List Int)):=
 cond (List.isEmpty u0) none (ag (ag (aR (wI u0 a b) fu (false,(IntKind.i64.wrap (a+1)),0)) fun o=>aB o (fun c=>some (.bk c.1)) (fun _ _=>none) (fun r=>some (.rt r)):Option (Fl Bool (Bool×(List Int)))) fun o=>aB o (fun d=>some (false,u0)) (fun _ _=>none) (fun r=>some r))
theorem GZ {ro:Addr->Option Value}(u0:(List Int)){p:Value}{C:List (Nat×Obj)}(b:aO rI ro 3 p u0 C)(f:Int)(g:Int){r:(Bool×(List Int))}(h:wJ u0 f g=some r):aD Tryz.prog 182 #[p,.int .i64 f,.int .i64 g] ⟨ro,C⟩ (fun v G=>∃D,(v= .bool r.1/\aO rI ro 3 p r.2 D)/\Le ⟨ro,D⟩ G):=by
 obtain ⟨d1,c2,rfl,a8⟩:=b.len;unfold wJ at h;revert h;refine cS (fun E h=>?_) fun E h=>?_
 ·cases h
 obtain ⟨c,k,rfl,rfl,a9⟩:=b.ig E;refine aD.go Tryz.func182 rfl Tryz.ntmps182 Tryz.results182 (by simp) fun main J hJ A H hd hs=>?_;have I:=hs 0;have k1:=hs 1;have K:=hs 2;clear hs;refine af hJ ?_;refine az hJ fun ba=>?_;refine aj hJ ?_;simp only[*,go_sem];refine af hJ ?_;refine az hJ fun bb=>?_;refine aj hJ ?_;simp only[*,go_sem];revert h;refine bS fun U h q=>?_;refine gh hJ (fun a F'=>∃(s:Bool),some (Fl.bk s:Fl Bool (Bool×(List Int)))=some U/\F'=⟨ro,[(c,Obj.cells k 3)]⟩/\sz a=133/\a.defers=[]/\slot a 0= .slice (some ⟨c,0,none⟩) u0.length c2/\slot a 6= .bool s) ?_ ?_
 ·refine af hJ ?_;refine az hJ fun bc=>?_;refine aj hJ ?_;simp only[*,go_sem];refine aN hJ ?_;revert h;refine bS fun V l t=>?_;refine bQ hJ [6,7,8,9,10,13,14,15,16,17,18,19,20,21,22,23,24,25,26,27,28,29,30,31,32,33,34,35,36,37,38,39,40,41,42,43,44,45,46,47,48,49,50,51,52,53,54,55,56,57,58,59,60,61,62,63,64,65,66,67,68,69,70,71,72,73,74,75,76,77,78,79,80,81,82,83,84,85,86,87,88,89,90,91,92,93,94,95,96,97,98,99,100,101,102,103,104,105,106,107,108,109,110,111,112,113,114,115,116,117,118,119,120,121,122,123,124,125,126,127,128,129,130,131,132] (fun m a F'=>∃(i:Bool) (n:Int) (v20:Int),aR (wI u0 f g) m (i,n,v20)=some V/\F'=⟨ro,[(c,Obj.cells k 3)]⟩/\slot a 6= .bool i/\slot a 7= .int .i64 n/\slot a 8= .int .i64 v20) fu ?_ ?_
  ·refine ⟨false,(IntKind.i64.wrap (f+1)),0,l,rfl,?_⟩;simp only[*,go_sem]
  rintro L M F' N ⟨i,n,v20,l,rfl,O,P,Q⟩;obtain ⟨u,w,x⟩:=N.pick [0,1,2] (by decide);simp only[*,go_sem] at u w x;clear N H hd I k1 K;obtain _|L:=L
  ·exact absurd l (by simp only[aR,reduceCtorEq,not_false_eq_true])
  revert l;refine bS fun bd h d=>?_;unfold wI at h;try dsimp only at h
  refine af hJ (af hJ ?_);refine az hJ fun bj=>?_;refine aj hJ ?_;simp only[*,go_sem];revert h;refine jC hJ (by simp only[*,go_sem]) (fun W h=>?_) fun W h=>?_
  ·refine aI hJ (af hJ ?_);refine aN hJ ?_;revert h;refine bS fun X h Y=>?_;refine gh hJ (fun a F'=>∃(y:Int),some (Fl.bk y:Fl Int (Bool×(List Int)))=some X/\F'=⟨ro,[(c,Obj.cells k 3)]⟩/\sz a=133/\a.defers=[]/\cE [6,7,8,9,10,13,14,15,16,17,18,19,20,21,22,23,24,25,26,27,28,29,30,31,32,33,34,35,36,37,38,39,40,41,42,43,44,45,46,47,48,49,50,51,52,53,54,55,56,57,58,59,60,61,62,63,64,65,66,67,68,69,70,71,72,73,74,75,76,77,78,79,80,81,82,83,84,85,86,87,88,89,90,91,92,93,94,95,96,97,98,99,100,101,102,103,104,105,106,107,108,109,110,111,112,113,114,115,116,117,118,119,120,121,122,123,124,125,126,127,128,129,130,131,132] a M/\slot a 0= .slice (some ⟨c,0,none⟩) u0.length c2/\slot a 1= .int .i64 f/\slot a 2= .int .i64 g/\slot a 6= .bool i/\slot a 7= .int .i64 y/\slot a 8= .int .i64 v20) ?_ ?_
   ·refine aN hJ ?_;revert h;refine bS fun Z o R=>?_;refine bQ hJ [7,17,18,19,20,21,22,23,24,25,26,27,28,29,30,31,32,33,34] (fun m a F'=>∃(e:Int),aR (wH u0 g) m e=some Z/\F'=⟨ro,[(c,Obj.cells k 3)]⟩/\slot a 7= .int .i64 e) fu ?_ ?_
    ·refine ⟨n,o,rfl,?_⟩;simp only[*,go_sem]
    rintro z ab F' B ⟨e,o,rfl,bl⟩;obtain ⟨ad,ae,al⟩:=B.pick [0,1,2,6,8,13,14] (by decide);simp only[*,go_sem] at ad ae al;have bm:cE [6,7,8,9,10,13,14,15,16,17,18,19,20,21,22,23,24,25,26,27,28,29,30,31,32,33,34,35,36,37,38,39,40,41,42,43,44,45,46,47,48,49,50,51,52,53,54,55,56,57,58,59,60,61,62,63,64,65,66,67,68,69,70,71,72,73,74,75,76,77,78,79,80,81,82,83,84,85,86,87,88,89,90,91,92,93,94,95,96,97,98,99,100,101,102,103,104,105,106,107,108,109,110,111,112,113,114,115,116,117,118,119,120,121,122,123,124,125,126,127,128,129,130,131,132] ab M:=(B.fK (by decide)).trans (by simp only[*,go_sem]);clear B u w x O P Q;obtain _|z:=z
    ·exact absurd o (by simp only[aR,reduceCtorEq,not_false_eq_true])
    revert o;refine bS fun bo h j=>?_;unfold wH at h;(try dsimp only at h);refine af hJ (af hJ ?_);refine az hJ fun br=>?_;refine cQ hJ mixed 16 1 (by simp only[*,go_sem]) (by kernel_rfl) ?_;revert h;refine cS (fun ao h=>?_) fun ao h=>?_
    ·revert h;refine bS fun ar a0 h=>?_;obtain ⟨bs,bz,b0,b1⟩:=b.cM a0;revert h;refine bS fun a2 a3 h=>?_;obtain ⟨b2,b3,b4,b5⟩:=b.cM a3;revert h;refine bS fun ca a4 h=>?_;(try simp only[*,go_sem]);refine ⟨_,bD hJ fun F cb=>jz ar a2 a4,b9 ?_⟩;(try simp only[*,go_sem]);revert h;refine jC hJ (by simp only[*,go_sem]) (fun a5 h=>?_) fun a5 h=>?_
     ·obtain rfl:=sI h;refine aI hJ (aN hJ ?_);refine az hJ fun cd=>?_;refine aj hJ ?_;simp only[*,go_sem];refine ⟨z,Nat.lt_succ_self _,_,Le.sub (List.Sublist.refl _),(IntKind.i64.wrap (e+1)),j,rfl,?_⟩;simp only[*,go_sem]
     obtain rfl:=sI h;refine bJ ?_;simp only[go_sem];obtain rfl:=sI j;clear j;have h:=R;dsimp only[aB] at h;(try simp only[*,go_sem]);refine Qn.intro ⟨_,Le.sub (List.Sublist.refl _),e,h,rfl,?_⟩;simp only[*,go_sem]
    obtain rfl:=sI h;(try simp only[*,go_sem]);refine bM hJ (by simp only[*,go_sem]) ?_;refine bJ ?_;simp only[go_sem];obtain rfl:=sI j;clear j;have h:=R;dsimp only[aB] at h;(try simp only[*,go_sem]);refine Qn.intro ⟨_,Le.sub (List.Sublist.refl _),e,h,rfl,?_⟩;simp only[*,go_sem]
   rintro cf F' ⟨y,S,rfl,cl,cy,c0,da,db,dd,df,dk,dp⟩;obtain rfl:=sI S;clear S;have h:=Y;dsimp only[aB] at h;clear u w x O P Q;refine af hJ (af hJ ?_);refine az hJ fun dq=>?_;refine aj hJ ?_;simp only[*,go_sem];revert h;refine jC hJ (by simp only[*,go_sem]) (fun a6 h=>?_) fun a6 h=>?_
   ·obtain rfl:=sI h;refine af hJ ?_;refine az hJ fun ds=>?_;refine aj hJ ?_;simp only[*,go_sem];obtain rfl:=sI d;clear d;have h:=t;dsimp only[aB] at h;obtain rfl:=sI h;have h:=q;dsimp only[aB] at h;obtain rfl:=sI h;refine ay ?_;simp only[*,go_sem];exact ⟨_,b,Le.sub (List.Sublist.refl _)⟩
   refine aI hJ (af hJ ?_);refine af hJ ?_;refine az hJ fun dt=>?_;refine aj hJ ?_;simp only[*,go_sem];revert h;refine jC hJ (by simp only[*,go_sem]) (fun a7 h=>?_) fun a7 h=>?_
   ·obtain rfl:=sI h;refine af hJ ?_;refine az hJ fun du=>?_;refine aj hJ ?_;simp only[*,go_sem];obtain rfl:=sI d;clear d;have h:=t;dsimp only[aB] at h;obtain rfl:=sI h;have h:=q;dsimp only[aB] at h;obtain rfl:=sI h;refine ay ?_;simp only[*,go_sem];exact ⟨_,b,Le.sub (List.Sublist.refl _)⟩
   cases h
  obtain rfl:=sI h;refine bJ ?_;simp only[go_sem];obtain rfl:=sI d;clear d;have h:=t;dsimp only[aB] at h;try simp only[*,go_sem]
  refine Qn.intro ⟨_,Le.sub (List.Sublist.refl _),i,h,rfl,?_⟩;simp only[*,go_sem]
 rintro dv F' ⟨s,T,rfl,dC,dE,dT,ea⟩;obtain rfl:=sI T;clear T;have h:=q;dsimp only[aB] at h;obtain rfl:=sI h;clear H hd I k1 K;refine af hJ ?_;refine az hJ fun eb=>?_;refine aj hJ ?_;simp only[*,go_sem];refine ay ?_;simp only[*,go_sem];exact ⟨_,b,Le.sub (List.Sublist.refl _)⟩
def wK (st:(Int×Int×Int×Bool×Bool×(List Int))):Option (Fl (Int×Int×Int×Bool×Bool×(List Int)) (Unit×(List Int))):=
 cond (decide ((IntKind.i64.wrap (st.2.1 - st.1))<=12)) (ag (sP st.2.2.2.2.2 st.1 st.2.1) fun j=>some (.rt ((),j.2))) (cond ((st.2.2.1==0)) (none) (ag (cond (!st.2.2.2.1) (ag (wq st.2.2.2.2.2 st.1 st.2.1) fun k=>some (.bk ((IntKind.i64.wrap (st.2.2.1 - 1)),k.2))) (some (.bk (st.2.2.1,st.2.2.2.2.2))):Option (Fl (Int×(List Int)) (Unit×(List Int)))) fun o=>aB o (fun c=>ag (wh c.2 st.1 st.2.1) fun b=>cond ((b.1.2==2)) (none) (ag (cond (st.2.2.2.1) (cond (st.2.2.2.2.1) (cond ((b.1.2==1)) (ag (wJ b.2 st.1 st.2.1) fun f=>cond (f.1) (some (.rt ((),f.2))) (some (.bk f.2))) (some (.bk b.2))) (some (.bk b.2))) (some (.bk b.2)):Option (Fl (List Int) (Unit×(List Int)))) fun o=>aB o (fun e=>ag (cond (decide (0<st.1)) (ag (bf e (IntKind.i64.wrap (st.1 - 1))) fun l=>ag (bf e b.1.1) fun m=>ag (iq l m) fun n=>cond (!n) (ag (wG e st.1 st.2.1 b.1.1) fun g=>some (.br 1 (g.1,g.2))) (some (.bk (st.1,e)))) (some (.bk (st.1,e))):Option (Fl (Int×(List Int)) (Unit×(List Int)))) fun o=>aB o (fun d=>ag (wC d.2 d.1 st.2.1 b.1.1) fun a=>ag (fD (IntKind.i64.wrap (st.2.1 - st.1)) 8) fun h=>cond (decide ((IntKind.i64.wrap (a.1.1 - d.1))<(IntKind.i64.wrap (st.2.1 - a.1.1)))) (ag (sQ a.2 d.1 a.1.1 c.1) fun p=>some (.nx ((IntKind.i64.wrap (a.1.1+1)),st.2.1,c.1,(decide (h<=(IntKind.i64.wrap (a.1.1 - d.1)))),a.1.2,p.2))) (ag (sQ a.2 (IntKind.i64.wrap (a.1.1+1)) st.2.1 c.1) fun q=>some (.nx (d.1,a.1.1,c.1,(decide (h<=(IntKind.i64.wrap (st.2.1 - a.1.1)))),a.1.2,q.2)))) (fun _ i=>some (.nx (i.1,st.2.1,c.1,st.2.2.2.1,st.2.2.2.2.1,i.2))) (fun r=>some (.rt r))) (fun _ _=>none) (fun r=>some (.rt r)))) (fun _ _=>none) (fun r=>some (.rt r))))
def wL (u0:(List Int))(a:Int)(b:Int)(c:Int):Option (Unit×(List Int)):=
 cond (List.isEmpty u0) none (ag (aR (wK) fu (a,b,c,true,true,u0)) fun o=>aB o (fun d=>some ((),d.2.2.2.2.2)) (fun _ _=>none) (fun r=>some r))
theorem G0 {ro:Addr->Option Value}(u0:(List Int)){H:Value}{T:List (Nat×Obj)}(I:aO rI ro 3 H u0 T)(K:Int)(L:Int)(M:Int){r:(Unit×(List Int))}(h:wL u0 K L M=some r):aD Tryz.prog 148 #[H,.int .i64 K,.int .i64 L,.int .i64 M] ⟨ro,T⟩ (fun v G=>∃d,(v= .tuple #[]/\aO rI ro 3 H r.2 d)/\Le ⟨ro,d⟩ G):=by
 obtain ⟨d1,c2,rfl,gT⟩:=I.len;unfold wL at h;revert h;refine cS (fun U h=>?_) fun U h=>?_
 ·cases h
 obtain ⟨b,bd,rfl,rfl,gV⟩:=I.ig U;refine aD.go Tryz.func148 rfl Tryz.ntmps148 Tryz.results148 (by simp) fun main J hJ A bj hd hs=>?_;have bl:=hs 0;have k1:=hs 1;have bm:=hs 2;have bo:=hs 3;clear hs;refine af hJ ?_;refine az hJ fun g0=>?_;refine aj hJ ?_;simp only[*,go_sem];refine af hJ ?_;refine az hJ fun g1=>?_;refine aj hJ ?_;simp only[*,go_sem];refine aN hJ ?_;revert h;refine bS fun br z V=>?_;refine bQ hJ [1,2,3,8,9,10,11,12,13,14,15,16,17,18,19,20,21,22,23,24,25,26,27,28,29,30,31,32,33,34,35,36,37,38,39,40,41,42,43,44,45,46,47,48,49,50,51,52,53,54,55,56,57,58,59,60,61,62,63,64,65,66,67,68,69,70,71,72,73,74,75,76,77,78,79,80,81,82,83,84,85,86,87,88,89,90,91,92,93,94,95,96,97,98,99,100,101,102,103,104,105,106,107,108,109,110,111,112,113,114,115,116,117,118,119,120,121,122,123,124,125,126,127,128,129,130,131,132,133] (fun m a F'=>∃(B:Array Value) (e:Int) (c:Int) (t:Int) (l:Bool) (n:Bool) (q:(List Int)),aR (wK) m (e,c,t,l,n,q)=some br/\F'=⟨ro,[(b,Obj.cells B 3)]⟩/\aO rI ro 3 (.slice (some ⟨b,0,none⟩) u0.length c2) q [(b,Obj.cells B 3)]/\slot a 1= .int .i64 e/\slot a 2= .int .i64 c/\slot a 3= .int .i64 t/\slot a 8= .bool l/\slot a 9= .bool n) fu ?_ ?_
 ·refine ⟨bd,K,L,M,true,true,u0,z,rfl,I,?_⟩;simp only[*,go_sem]
 rintro u N F' W ⟨B,e,c,t,l,n,q,z,rfl,O,bs,bz,b0,b1,b2⟩;obtain ⟨X,Y,Z⟩:=W.pick [0] (by decide);simp only[*,go_sem] at X Y Z;clear W bj hd bl k1 bm bo;obtain _|u:=u
 ·exact absurd z (by simp only[aR,reduceCtorEq,not_false_eq_true])
 revert z;refine bS fun g2 h o=>?_;unfold wK at h;try dsimp only at h
 refine aN hJ (af hJ ?_);refine az hJ fun g3=>?_;refine aj hJ ?_;simp only[*,go_sem];refine af hJ (af hJ ?_);refine az hJ fun g4=>?_;refine aj hJ ?_;simp only[*,go_sem];revert h;refine jC hJ (by simp only[*,go_sem]) (fun b3 h=>?_) fun b3 h=>?_
 ·refine af hJ ?_;refine az hJ fun ha=>?_;refine aj hJ ?_;revert h;refine bS fun hc b4 h=>?_;obtain rfl:=sI h;simp only[*,go_sem];refine dJ hJ [] [] _ (AW q O e c b4) (fun hf hg f d g hh=>?_);obtain ⟨rfl,ab⟩:=f;obtain ⟨b5,rfl⟩:=ab.gz;simp only[aV] at g;subst d;refine ⟨⟨ro,[(b,Obj.cells b5 3)]⟩,Le.refl _,?_⟩;try simp only[*,go_sem]
  obtain rfl:=sI o;clear o;have h:=V;dsimp only[aB] at h;obtain rfl:=sI h;refine ay ?_;simp only[*,go_sem];exact ⟨_,ab,Le.sub (List.Sublist.refl _)⟩
 refine aI hJ (af hJ ?_);refine af hJ ?_;refine az hJ fun hi=>?_;refine aj hJ ?_;simp only[*,go_sem];revert h;refine jC hJ (by simp only[*,go_sem]) (fun ca h=>?_) fun ca h=>?_
 ·cases h
 refine aI hJ ?_;revert h;refine bS fun cb h cd=>?_;refine gh hJ (fun a F'=>∃(P:Array Value) (i:Int) (C:(List Int)),some (Fl.bk (i,C):Fl (Int×(List Int)) (Unit×(List Int)))=some cb/\F'=⟨ro,[(b,Obj.cells P 3)]⟩/\aO rI ro 3 (.slice (some ⟨b,0,none⟩) u0.length c2) C [(b,Obj.cells P 3)]/\sz a=134/\a.defers=[]/\cE [1,2,3,8,9,10,11,12,13,14,15,16,17,18,19,20,21,22,23,24,25,26,27,28,29,30,31,32,33,34,35,36,37,38,39,40,41,42,43,44,45,46,47,48,49,50,51,52,53,54,55,56,57,58,59,60,61,62,63,64,65,66,67,68,69,70,71,72,73,74,75,76,77,78,79,80,81,82,83,84,85,86,87,88,89,90,91,92,93,94,95,96,97,98,99,100,101,102,103,104,105,106,107,108,109,110,111,112,113,114,115,116,117,118,119,120,121,122,123,124,125,126,127,128,129,130,131,132,133] a N/\slot a 0= .slice (some ⟨b,0,none⟩) u0.length c2/\slot a 1= .int .i64 e/\slot a 2= .int .i64 c/\slot a 3= .int .i64 i/\slot a 8= .bool l/\slot a 9= .bool n/\slot a 10= .int .i64 (IntKind.i64.wrap (c - e))) ?_ ?_
 ·refine af hJ ?_;refine az hJ fun hj=>?_;refine aj hJ ?_;simp only[*,go_sem];revert h;refine jC hJ (by simp only[*,go_sem]) (fun cf h=>?_) fun cf h=>?_
  ·refine af hJ ?_;refine az hJ fun hk=>?_;refine aj hJ ?_;revert h;refine bS fun cl cy h=>?_;simp only[*,go_sem];refine dJ hJ [] [] _ (GW q O e c cy) (fun hl hn f d g ho=>?_);obtain ⟨rfl,ad⟩:=f;obtain ⟨ae,rfl⟩:=ad.gz;simp only[aV] at g;subst d;refine ⟨⟨ro,[(b,Obj.cells ae 3)]⟩,Le.refl _,?_⟩;(try simp only[*,go_sem]);refine az hJ fun hp=>?_;refine aj hJ ?_;simp only[*,go_sem];refine Qn.intro ⟨_,Le.sub (List.Sublist.refl _),ae,(IntKind.i64.wrap (t - 1)),cl.2,h,rfl,ad,?_⟩;simp only[*,go_sem]
  refine aI hJ ?_;try simp only[*,go_sem]
  refine Qn.intro ⟨_,Le.sub (List.Sublist.refl _),B,t,q,h,rfl,O,?_⟩;simp only[*,go_sem]
 rintro hq F' ⟨P,i,C,al,rfl,c0,da,db,hr,dd,df,dk,dp,dq,ds,dt⟩;obtain rfl:=sI al;clear al;have h:=cd;dsimp only[aB] at h;clear X Y Z bs bz b0 b1 b2;refine af hJ ?_;refine az hJ fun ht=>?_;refine aj hJ ?_;revert h;refine bS fun k du h=>?_;simp only[*,go_sem];refine dJ hJ [] [] _ (GJ C c0 e c du) (fun hv hx f d g hy=>?_);obtain ⟨rfl,w⟩:=f;obtain ⟨D,rfl⟩:=w.gz;simp only[aV] at g;subst d;refine ⟨⟨ro,[(b,Obj.cells D 3)]⟩,Le.refl _,?_⟩;refine aK ?_;try simp only[*,go_sem]
 refine af hJ (af hJ ?_);refine az hJ fun hz=>?_;refine aj hJ ?_;simp only[*,go_sem];revert h;refine jC hJ (by simp only[*,go_sem]) (fun dv h=>?_) fun dv h=>?_
 ·cases h
 refine aI hJ ?_;revert h;refine bS fun dC h ao=>?_;refine gh hJ (fun a F'=>∃(x:Array Value) (s:(List Int)),some (Fl.bk s:Fl (List Int) (Unit×(List Int)))=some dC/\F'=⟨ro,[(b,Obj.cells x 3)]⟩/\aO rI ro 3 (.slice (some ⟨b,0,none⟩) u0.length c2) s [(b,Obj.cells x 3)]/\sz a=134/\a.defers=[]/\cE [1,2,3,8,9,10,11,12,13,14,15,16,17,18,19,20,21,22,23,24,25,26,27,28,29,30,31,32,33,34,35,36,37,38,39,40,41,42,43,44,45,46,47,48,49,50,51,52,53,54,55,56,57,58,59,60,61,62,63,64,65,66,67,68,69,70,71,72,73,74,75,76,77,78,79,80,81,82,83,84,85,86,87,88,89,90,91,92,93,94,95,96,97,98,99,100,101,102,103,104,105,106,107,108,109,110,111,112,113,114,115,116,117,118,119,120,121,122,123,124,125,126,127,128,129,130,131,132,133] a N/\slot a 0= .slice (some ⟨b,0,none⟩) u0.length c2/\slot a 1= .int .i64 e/\slot a 2= .int .i64 c/\slot a 3= .int .i64 i/\slot a 8= .bool l/\slot a 9= .bool n/\slot a 10= .int .i64 (IntKind.i64.wrap (c - e))/\slot a 11= .int .i64 k.1.1) ?_ ?_
 ·refine af hJ ?_;refine az hJ fun hA=>?_;refine aj hJ ?_;revert h;refine cS (fun dE h=>?_) fun dE h=>?_
  ·revert h;refine cS (fun dT h=>?_) fun dT h=>?_
   ·(try simp only[*,go_sem]);revert h;refine jC hJ (by simp only[*,go_sem]) (fun ea h=>?_) fun ea h=>?_
    ·refine af hJ ?_;refine az hJ fun hB=>?_;refine aj hJ ?_;revert h;refine bS fun eb ec h=>?_;simp only[*,go_sem];refine dJ hJ [] [] _ (GZ k.2 w e c ec) (fun hD hE f d g hF=>?_);obtain ⟨rfl,Q⟩:=f;obtain ⟨ar,rfl⟩:=Q.gz;simp only[aV] at g;subst d;refine ⟨⟨ro,[(b,Obj.cells ar 3)]⟩,Le.refl _,?_⟩;(try simp only[*,go_sem]);revert h;refine jC hJ (by simp only[*,go_sem]) (fun ed h=>?_) fun ed h=>?_
     ·obtain rfl:=sI h;have h:=ao;dsimp only[aB] at h;obtain rfl:=sI h;obtain rfl:=sI o;clear o;have h:=V;dsimp only[aB] at h;obtain rfl:=sI h;refine ay ?_;simp only[*,go_sem];exact ⟨_,Q,Le.sub (List.Sublist.refl _)⟩
     refine aI hJ ?_;(try simp only[*,go_sem]);refine Qn.intro ⟨_,Le.sub (List.Sublist.refl _),ar,eb.2,h,rfl,Q,?_⟩;simp only[*,go_sem]
    refine aI hJ ?_;(try simp only[*,go_sem]);refine Qn.intro ⟨_,Le.sub (List.Sublist.refl _),D,k.2,h,rfl,w,?_⟩;simp only[*,go_sem]
   (try simp only[*,go_sem]);refine bM hJ (by simp only[*,go_sem]) ?_;refine aI hJ ?_;(try simp only[*,go_sem]);refine Qn.intro ⟨_,Le.sub (List.Sublist.refl _),D,k.2,h,rfl,w,?_⟩;simp only[*,go_sem]
  try simp only[*,go_sem]
  refine bM hJ (by simp only[*,go_sem]) ?_;refine aI hJ ?_;try simp only[*,go_sem]
  refine Qn.intro ⟨_,Le.sub (List.Sublist.refl _),D,k.2,h,rfl,w,?_⟩;simp only[*,go_sem]
 rintro hG F' ⟨x,s,a0,rfl,y,eh,et,hI,ev,eQ,eS,e0,e1,e2,e3,fa⟩;obtain rfl:=sI a0;clear a0;have h:=ao;dsimp only[aB] at h;clear da db dd df dk dp dq ds dt;revert h;refine bS fun fb h a2=>?_;refine gh hJ (fun a F'=>∃(R:Array Value) (p:Int) (E:(List Int)),some (Fl.bk (p,E):Fl (Int×(List Int)) (Unit×(List Int)))=some fb/\F'=⟨ro,[(b,Obj.cells R 3)]⟩/\aO rI ro 3 (.slice (some ⟨b,0,none⟩) u0.length c2) E [(b,Obj.cells R 3)]/\sz a=134/\a.defers=[]/\cE [1,2,3,8,9,10,11,12,13,14,15,16,17,18,19,20,21,22,23,24,25,26,27,28,29,30,31,32,33,34,35,36,37,38,39,40,41,42,43,44,45,46,47,48,49,50,51,52,53,54,55,56,57,58,59,60,61,62,63,64,65,66,67,68,69,70,71,72,73,74,75,76,77,78,79,80,81,82,83,84,85,86,87,88,89,90,91,92,93,94,95,96,97,98,99,100,101,102,103,104,105,106,107,108,109,110,111,112,113,114,115,116,117,118,119,120,121,122,123,124,125,126,127,128,129,130,131,132,133] a N/\slot a 0= .slice (some ⟨b,0,none⟩) u0.length c2/\slot a 1= .int .i64 p/\slot a 2= .int .i64 c/\slot a 3= .int .i64 i/\slot a 8= .bool l/\slot a 9= .bool n/\slot a 10= .int .i64 (IntKind.i64.wrap (c - e))/\slot a 11= .int .i64 k.1.1) ?_ ?_
 ·refine af hJ ?_;refine az hJ fun hK=>?_;refine cQ hJ mixed 15 1 (by simp only[*,go_sem]) (by kernel_rfl) ?_;revert h;refine cS (fun fg h=>?_) fun fg h=>?_
  ·revert h;refine bS fun fi fp h=>?_;obtain ⟨hL,hM,hN,hP⟩:=y.cM fp;revert h;refine bS fun fr fs h=>?_;obtain ⟨hQ,hR,hS,hT⟩:=y.cM fs;revert h;refine bS fun hV ft h=>?_;(try simp only[*,go_sem]);refine ⟨_,bD hJ fun F hX=>jz fi fr ft,b9 ?_⟩;(try simp only[*,go_sem]);revert h;refine jC hJ (by simp only[*,go_sem]) (fun fv h=>?_) fun fv h=>?_
   ·refine af hJ ?_;refine az hJ fun hY=>?_;refine aj hJ ?_;revert h;refine bS fun a3 fw h=>?_;obtain rfl:=sI h;simp only[*,go_sem];refine dJ hJ [] [] _ (GY s y e c k.1.1 fw) (fun hZ h0 f d g h1=>?_);obtain ⟨rfl,a4⟩:=f;obtain ⟨a5,rfl⟩:=a4.gz;simp only[aV] at g;subst d;refine ⟨⟨ro,[(b,Obj.cells a5 3)]⟩,Le.refl _,?_⟩;refine aK ?_;(try simp only[*,go_sem]);refine af hJ ?_;refine az hJ fun h2=>?_;refine aj hJ ?_;simp only[*,go_sem];refine bJ ?_;simp only[go_sem];have h:=a2;dsimp only[aB] at h;obtain rfl:=sI h;(try simp only[*,go_sem]);refine ⟨u,Nat.lt_succ_self _,_,Le.sub (List.Sublist.refl _),a5,a3.1,c,i,l,n,a3.2,o,rfl,a4,?_⟩;simp only[*,go_sem]
   refine aI hJ ?_;(try simp only[*,go_sem]);refine Qn.intro ⟨_,Le.sub (List.Sublist.refl _),x,e,s,h,rfl,y,?_⟩;simp only[*,go_sem]
  try simp only[*,go_sem]
  refine bM hJ (by simp only[*,go_sem]) ?_;refine aI hJ ?_;try simp only[*,go_sem]
  refine Qn.intro ⟨_,Le.sub (List.Sublist.refl _),x,e,s,h,rfl,y,?_⟩;simp only[*,go_sem]
 rintro h3 F' ⟨R,p,E,a6,rfl,fx,h4,h5,h6,h7,h8,h9,ib,ic,ih,ik,il⟩;obtain rfl:=sI a6;clear a6;have h:=a2;dsimp only[aB] at h;clear eh et ev eQ eS e0 e1 e2 e3 fa;refine af hJ ?_;refine az hJ fun im=>?_;refine aj hJ ?_;revert h;refine bS fun j gg h=>?_;simp only[*,go_sem];refine dJ hJ [] [] _ (GX E fx p c k.1.1 gg) (fun iv ix f d g j1=>?_);obtain ⟨rfl,S⟩:=f;obtain ⟨gl,rfl⟩:=S.gz;simp only[aV] at g;subst d;refine ⟨⟨ro,[(b,Obj.cells gl 3)]⟩,Le.refl _,?_⟩;refine aK ?_;try simp only[*,go_sem]
 refine af hJ ?_;refine az hJ fun j2=>?_;refine aj hJ ?_;simp only[*,go_sem];refine af hJ ?_;refine az hJ fun kh=>?_;refine aj hJ ?_;simp only[*,go_sem];refine af hJ ?_;refine az hJ fun kj=>?_;refine aj hJ ?_;revert h;refine bS fun a7 a8 h=>?_;obtain ⟨kk,kl⟩:=jT a8;clear a8;try simp only[*,go_sem]
 refine af hJ ?_;refine az hJ fun km=>?_;refine aj hJ ?_;simp only[*,go_sem];revert h;refine jC hJ (by simp only[*,go_sem]) (fun gn h=>?_) fun gn h=>?_
 ·refine af hJ ?_;refine az hJ fun kn=>?_;refine aj hJ ?_;simp only[*,go_sem];refine af hJ ?_;refine az hJ fun kp=>?_;refine aj hJ ?_;revert h;refine bS fun gp gB h=>?_;obtain rfl:=sI h;simp only[*,go_sem];refine dJ hJ [] [] _ (AX j.2 S p j.1.1 i gB) (fun ks kt f d g kv=>?_);obtain ⟨rfl,a9⟩:=f;obtain ⟨ba,rfl⟩:=a9.gz;simp only[aV] at g;subst d;refine ⟨⟨ro,[(b,Obj.cells ba 3)]⟩,Le.refl _,?_⟩;try simp only[*,go_sem]
  refine az hJ fun kx=>?_;refine aj hJ ?_;simp only[*,go_sem];refine ⟨u,Nat.lt_succ_self _,_,Le.sub (List.Sublist.refl _),ba,(IntKind.i64.wrap (j.1.1+1)),c,i,(decide (a7<=(IntKind.i64.wrap (j.1.1 - p)))),j.1.2,gp.2,o,rfl,a9,?_⟩;simp only[*,go_sem]
 refine af hJ ?_;refine az hJ fun ky=>?_;refine aj hJ ?_;simp only[*,go_sem];refine af hJ ?_;refine az hJ fun k0=>?_;refine aj hJ ?_;revert h;refine bS fun gC gM h=>?_;obtain rfl:=sI h;simp only[*,go_sem];refine dJ hJ [] [] _ (AX j.2 S (IntKind.i64.wrap (j.1.1+1)) c i gM) (fun k2 lb f d g lh=>?_);obtain ⟨rfl,bb⟩:=f;obtain ⟨bc,rfl⟩:=bb.gz;simp only[aV] at g;subst d;refine ⟨⟨ro,[(b,Obj.cells bc 3)]⟩,Le.refl _,?_⟩;try simp only[*,go_sem]
 refine az hJ fun lj=>?_;refine aj hJ ?_;simp only[*,go_sem];refine ⟨u,Nat.lt_succ_self _,_,Le.sub (List.Sublist.refl _),bc,p,j.1.1,i,(decide (a7<=(IntKind.i64.wrap (c - j.1.1)))),j.1.2,gC.2,o,rfl,bb,?_⟩;simp only[*,go_sem]
def qh (u0:(List Int)):Option (Unit×(List Int)):=
 cond (List.isEmpty u0) none (ag (sR (IntKind.u64.wrap (u0.length:Int))) fun a=>ag (wL u0 0 (u0.length:Int) a) fun b=>some ((),b.2))
theorem G1 {ro:Addr->Option Value}(u0:(List Int)){b:Value}{d:List (Nat×Obj)}(c:aO rI ro 3 b u0 d){r:(Unit×(List Int))}(h:qh u0=some r):aD Tryz.prog 121 #[b] ⟨ro,d⟩ (fun v G=>∃a,(v= .tuple #[]/\aO rI ro 3 b r.2 a)/\Le ⟨ro,a⟩ G):=by
 obtain ⟨d1,c2,rfl,o⟩:=c.len;unfold qh at h;revert h;refine cS (fun e h=>?_) fun e h=>?_
 ·cases h
 obtain ⟨g,p,rfl,rfl,q⟩:=c.ig e;refine aD.go Tryz.func121 rfl Tryz.ntmps121 Tryz.results121 (by simp) fun main J hJ A s hd hs=>?_;have t:=hs 0;clear hs;refine af hJ ?_;refine az hJ fun u=>?_;refine aj hJ ?_;simp only[*,go_sem,-h];refine az hJ fun w=>?_;refine aj hJ ?_;revert h;refine bS fun i j h=>?_;simp only[*,go_sem,-h];refine bn hJ _ (AY (IntKind.u64.wrap (u0.length:Int)) j) (aK ?_);revert h;refine bS fun x k h=>?_;try simp only[*,go_sem,-h]
 refine dJ hJ [] [] _ (G0 u0 c 0 (u0.length:Int) i k) (fun y z l a m B=>?_);obtain ⟨rfl,f⟩:=l;obtain ⟨n,rfl⟩:=f.gz;simp only[aV] at m;subst a;refine ⟨⟨ro,[(g,Obj.cells n 3)]⟩,Le.refl _,?_⟩;try simp only[*,go_sem,-h]
 obtain rfl:=sI h;simp only[*,go_sem];exact ⟨_,f,Le.sub (List.Sublist.refl _)⟩
def jA (x:List Int)(j:Nat):Bool:=j==0||x.getD j 0 != x.getD (j - 1) 0
def gi (x:List Int):Nat->List Int
 |0=>[]
 |n+1=>gi x n++cond (jA x n) [x.getD n 0] []
theorem sS (x:List Int):∀n,n<=x.length->(∀j,j<n->jA x j=true)->gi x n=x.take n
 |0,_,_=>by simp[gi]
 |n+1,b,h=>by
  unfold gi
  rw[sS x n (by omega) (fun j c=>h j (by omega)),h n (by omega),List.take_succ]
  congr 1
  have a:n<x.length:=by omega
  simp[a]
theorem AZ (x:List Int){j:Nat}(h:j<1):jA x j=true:=by
 obtain rfl:j=0:=by omega
 rfl
def sU (u0:List Int):Option (List Int):=cond (List.isEmpty u0) none (some (gi u0 u0.length))
theorem G2 {ro:Addr->Option Value}(u0:List Int){Q:Value}{aS:List (Nat×Obj)}(hg:aO rI ro 3 Q u0 aS){r:List Int}(h:sU u0=some r):
  aD Tryz.prog 122 #[Q] ⟨ro,aS⟩ (fun v G=>∃R,aO rI ro 3 v r R/\Le ⟨ro,R⟩ G):=by
 obtain ⟨ad,cap,rfl,le⟩:=hg.len
 unfold sU at h
 have h':=iP h;clear h;rcases h' with ⟨S,h⟩|⟨S,h⟩
 ·cases h
 obtain ⟨b,F,rfl,rfl,cf⟩:=hg.ig S
 cases h
 have cl:u0.length<=1000000:=by obtain ⟨_,_,_,h,_⟩:=hg;exact h
 have cy:Tryz.prog.underlying 3=some (.int .i64):=by kernel_rfl
 refine aD.go Tryz.func122 rfl Tryz.ntmps122 Tryz.results122 (by simp) fun main J hJ A a8 hd hs=>?_
 have a9:=hs 0
 clear hs
 repeat refine af hJ ?_
 refine aj hJ ?_
 simp only[*,go_sem]
 repeat refine af hJ ?_
 refine aj hJ ?_
 simp only[*,go_sem]
 repeat refine af hJ ?_
 by_cases cS:u0.length<2
 ·refine bP hJ (by simp only[*,go_sem];simp;omega) ?_
  repeat refine af hJ ?_
  refine aj hJ ?_
  simp only[*,go_sem]
  refine ay ?_
  simp only[*,go_sem]
  have e:gi u0 u0.length=u0:=by
   rw[sS u0 _ (Nat.le_refl _) (fun j c=>AZ u0 (by omega)),List.take_length]
  rw[e]
  exact ⟨_,hg,Le.refl _⟩
 refine bM hJ (by simp only[*,go_sem];simp;omega) ?_
 refine aI hJ ?_
 repeat refine af hJ ?_
 refine aj hJ ?_
 simp only[*,go_sem]
 repeat refine af hJ ?_
 refine aN hJ ?_
 refine bQ hJ [3,4,5,10,11,12,13,14,15,16,17,18,19,20,21,22,23,24,25,26,27,28,29,30,31,32,33,34,35,36,37,38,39,40,41,42,43,44,45,46,47,48,49,50,51,52,53,54,55,56,57,58,59] (fun m u F'=>∃k:Nat,1<=k/\k<=u0.length/\u0.length - k<=m/\F'=⟨ro,[(b,Obj.cells F 3)]⟩/\slot u 3= .int .i64 (k:Int)/\∀j,j<k->jA u0 j=true) u0.length ?_ ?_
 ·refine ⟨1,Nat.le_refl _,by omega,by omega,rfl,?_,fun j c=>AZ u0 c⟩
  simp only[*,go_sem]
  rfl
 ·rintro ba g F' B ⟨k,c0,T,da,rfl,bb,H⟩
  have bc:sz g=61:=by rw[B.size];simp only[*,go_sem]
  have bd:g.defers=[]:=by rw[B.defers];simp only[*,go_sem]
  have bj:slot g 0= .slice (some ⟨b,0,none⟩) u0.length cap:=by rw[B.fe 0 (by decide)];simp only[*,go_sem]
  clear B a8 hd a9
  repeat refine af hJ ?_
  repeat refine af hJ ?_
  refine aj hJ ?_
  simp only[*,go_sem]
  by_cases U:k<u0.length
  ·have hb:decide (((k:Nat):Int)<(u0.length:Int))=true:=decide_eq_true (by omega)
   refine bP hJ (by simp only[*,go_sem]) ?_
   refine aI hJ ?_
   repeat refine af hJ ?_
   refine aN hJ ?_
   repeat refine af hJ ?_
   obtain ⟨p,rfl⟩:∃p,k=p+1:=⟨k - 1,by omega⟩
   have hw:IntKind.i64.wrap (((p+1:Nat):Int) - 1)=(p:Int):=by rw[IntWalk.i64_in _ ⟨by omega,by omega⟩];omega
   refine fc hJ mixed 9 ⟨ro,[(b,Obj.cells F 3)]⟩ (by simp only[*,go_sem]) (by kernel_rfl) ?_
   obtain ⟨l,V⟩:∃x,u0[p+1]?=some x:=⟨u0[p+1],by simp[U]⟩
   obtain ⟨I,K,L⟩:=hg.iQ V
   obtain rfl:I=[.int .i64 l]:=K
   have W:=L 0 _ rfl
   simp only[go_sem] at W
   have db:=(Array.getElem?_eq_some_iff.1 W).1
   obtain ⟨o,X⟩:∃x,u0[p]?=some x:=⟨u0[p],by simp[Nat.lt_of_succ_lt U]⟩
   obtain ⟨M,N,O⟩:=hg.iQ X
   obtain rfl:M=[.int .i64 o]:=N
   have Y:=O 0 _ rfl
   simp only[go_sem] at Y
   have dd:=(Array.getElem?_eq_some_iff.1 Y).1
   have df:¬((p+1:Nat):Int)<0:=by omega
   have b2:((p+1:Nat):Int)<(u0.length:Int):=by omega
   have b3:¬(p:Int)<0:=by omega
   have b4:(p:Int)<(u0.length:Int):=by omega
   have b5:(0:Int)<=((p+1:Nat):Int):=by omega
   have dk:(0:Int)<=(p:Int):=by omega
   simp only[*,go_sem]
   have bk:u0.getD (p+1) 0=l:=by rw[List.getD_eq_getElem?_getD,V];rfl
   have bl:u0.getD p 0=o:=by rw[List.getD_eq_getElem?_getD,X];rfl
   have Z:jA u0 (p+1)=(l != o):=by unfold jA;rw[bk,Nat.add_sub_cancel,bl];simp
   clear L O
   by_cases P:l=o
   ·subst P
    refine bP hJ (by simp only[*,go_sem,beq_self_eq_true]) ?_
    repeat refine af hJ ?_
    refine aj hJ ?_
    have dp:p+1<=u0.length:=T
    have dq:p+1<=cap:=by omega
    have ds:((p+1:Nat):Int)<=(u0.length:Int):=by omega
    have dt:u0.length<=cap:=le
    have du:¬cap=p+1:=by omega
    simp only[*,go_sem]
    have bm:slot g 4=slot g 4:=rfl
    repeat refine af hJ ?_
    refine aj hJ ?_
    simp only[*,go_sem]
    repeat refine af hJ ?_
    refine aN hJ ?_
    have e0:gi u0 (p+2)=u0.take (p+1):=by
     show gi u0 (p+1)++cond (jA u0 (p+1)) _ _=_
     rw[Z,sS u0 _ T H];simp
    refine bQ hJ [3,5,29,30,31,32,33,34,35,36,37,38,39,40,41,42,43,44,45,46,47,48,49,50,51,52,53] (fun bo u F'=>∃(m w:Nat) (arr:Array Value) (x:List Int),1<=m/\m<=u0.length - (p+1)/\u0.length - (p+1) - m<=bo/\F'=⟨ro,[(b,Obj.cells arr 3)]⟩/\slot u 5= .int .i64 (m:Int)/\slot u 3= .int .i64 (w:Int)/\
     aO rI ro 3 (.slice (some ⟨b,0,none⟩) u0.length cap) x [(b,.cells arr 3)]/\x.length=u0.length/\(gi u0 (p+(1+m))).length=w/\w<=p+m/\x.take w=gi u0 (p+(1+m))/\∀j,p+m<=j->x[j]?=u0[j]?) u0.length ?_ ?_
    ·refine ⟨1,p+1,F,u0,Nat.le_refl _,by omega,by omega,rfl,?_,?_,hg,rfl,?_,Nat.le_refl _,e0.symm,fun _ _=>rfl⟩
     ·simp only[*,go_sem];rfl
     ·simp only[*,go_sem]
     ·show (gi u0 (p+2)).length=p+1
      rw[e0,List.length_take];omega
    ·rintro ab C F' s ⟨m,w,arr,x,L,O,dv,rfl,dC,dE,d,ae,t,dT,D,E⟩
     have ea:sz C=61:=by rw[s.size];simp only[*,go_sem]
     have eb:C.defers=[]:=by rw[s.defers];simp only[*,go_sem]
     have ec:slot C 0= .slice (some ⟨b,0,none⟩) u0.length cap:=by rw[s.fe 0 (by decide)];simp only[*,go_sem]
     have ed:slot C 4= .slice (some ⟨b,p+1,none⟩) (u0.length - (p+1)) (cap - (p+1)):=by rw[s.fe 4 (by decide)];simp only[*,go_sem]
     clear s bc bd bj bb bm
     repeat refine af hJ ?_
     refine aj hJ ?_
     simp only[*,go_sem]
     by_cases eh:m<u0.length - (p+1)
     ·have br:decide (((m:Nat):Int)<((u0.length - (p+1):Nat):Int))=true:=decide_eq_true (by omega)
      refine bP hJ (by simp only[*,go_sem]) ?_
      refine aI hJ ?_
      repeat refine af hJ ?_
      refine aN hJ ?_
      repeat refine af hJ ?_
      obtain ⟨q,rfl⟩:∃q,m=q+1:=⟨m - 1,by omega⟩
      have et:IntKind.i64.wrap (((q+1:Nat):Int) - 1)=(q:Int):=by rw[IntWalk.i64_in _ ⟨by omega,by omega⟩];omega
      refine fc hJ mixed 9 ⟨ro,[(b,Obj.cells arr 3)]⟩ (by simp only[*,go_sem]) (by kernel_rfl) ?_
      obtain ⟨a,al⟩:∃y,u0[p+(1+(q+1))]?=some y:=⟨u0[p+(1+(q+1))]'(by omega),List.getElem?_eq_getElem _⟩
      obtain ⟨I,K,ao⟩:=d.iQ ((E _ (by omega)).trans al)
      obtain rfl:I=[.int .i64 a]:=K
      have ar:=ao 0 _ rfl
      simp only[go_sem] at ar
      have ev:=(Array.getElem?_eq_some_iff.1 ar).1
      obtain ⟨f,a0⟩:∃y,u0[p+(1+q)]?=some y:=⟨u0[p+(1+q)]'(by omega),List.getElem?_eq_getElem _⟩
      obtain ⟨M,N,a2⟩:=d.iQ ((E _ (by omega)).trans a0)
      obtain rfl:M=[.int .i64 f]:=N
      have a3:=a2 0 _ rfl
      simp only[go_sem] at a3
      have eQ:=(Array.getElem?_eq_some_iff.1 a3).1
      have c1:¬((q+1:Nat):Int)<0:=by omega
      have c2:((q+1:Nat):Int)<((u0.length - (p+1):Nat):Int):=by omega
      have c3:¬(q:Int)<0:=by omega
      have c4:(q:Int)<((u0.length - (p+1):Nat):Int):=by omega
      have eS:(0:Int)<=((q+1:Nat):Int):=by omega
      have e2:(0:Int)<=(q:Int):=by omega
      simp only[*,go_sem]
      have a4:u0.getD (p+(1+(q+1))) 0=a:=by rw[List.getD_eq_getElem?_getD,al];rfl
      have bs:u0.getD (p+(1+q)) 0=f:=by rw[List.getD_eq_getElem?_getD,a0];rfl
      have bz:jA u0 (p+(1+(q+1)))=(a != f):=by
       unfold jA
       have bS:p+(1+(q+1)) - 1=p+(1+q):=by omega
       rw[bS,a4,bs]
       have:(p+(1+(q+1))==0)=false:=by simp
       rw[this,Bool.false_or]
      have e1:gi u0 (p+(1+(q+1+1)))=gi u0 (p+(1+(q+1)))++cond (a != f) [a] []:=by
       show gi u0 (p+(1+(q+1)))++cond (jA u0 (p+(1+(q+1)))) [u0.getD (p+(1+(q+1))) 0] []=_
       rw[bz,a4]
      have e3:IntKind.i64.wrap (((q+1:Nat):Int)+1)=((q+1+1:Nat):Int):=by rw[IntWalk.i64_in _ ⟨by omega,by omega⟩];omega
      clear ao a2 t
      have t:(gi u0 (p+(1+(q+1)))).length=w:=by rw[<-D,List.length_take];omega
      by_cases a5:a=f
      ·subst a5
       simp only[bne_self_eq_false,cond_false,List.append_nil] at e1
       refine bM hJ (by simp only[*,go_sem,bne_self_eq_false]) ?_
       refine aI hJ ?_
       refine aj hJ ?_
       simp only[*,go_sem]
       refine ⟨ab - 1,by omega,_,Le.refl _,q+1+1,w,arr,x,by omega,by omega,by omega,rfl,?_,?_,d,ae,by rw[e1];exact t,by omega,by rw[e1];exact D,fun j c=>E j (by omega)⟩
       ·simp only[*,go_sem]
       ·simp only[*,go_sem]
      ·have b0:(a != f)=true:=by simpa using a5
       rw[b0] at e1
       simp only[cond_true] at e1
       refine bP hJ (by simp only[*,go_sem]) ?_
       repeat refine af hJ ?_
       refine aj hJ ?_
       have d1:(w:Int)<(u0.length:Int):=by omega
       have d2:¬(w:Int)<0:=by omega
       have d3:(0:Int)<=(w:Int):=by omega
       have fa:w<arr.size:=by omega
       simp only[*,go_sem]
       have b1:aO rI ro 3 (.slice (some ⟨b,0,none⟩) u0.length cap) (x.set w a) [(b,Obj.cells (cI arr w [.int .i64 a]) 3)]:=by
        have hh:=d.rT (i:=w) (y:=a) (by omega) (cs:=[.int .i64 a]) rfl
        simpa only[rX,Nat.mul_one,Nat.add_zero] using hh
       have fb:IntKind.i64.wrap ((w:Int)+1)=((w+1:Nat):Int):=by rw[IntWalk.i64_in _ ⟨by omega,by omega⟩];omega
       refine aj hJ ?_
       simp only[*,go_sem]
       refine aj hJ ?_
       simp only[*,go_sem]
       refine ⟨ab - 1,by omega,_,Le.refl _,q+1+1,w+1,_,x.set w a,by omega,by omega,by omega,rfl,?_,?_,b1,by rw[List.length_set];exact ae,?_,by omega,?_,fun j c=>?_⟩
       ·simp only[*,go_sem]
       ·simp only[*,go_sem]
       ·rw[e1,List.length_append,t];rfl
       ·rw[e1,<-D,List.take_succ,List.take_set_of_le (Nat.le_refl _),List.getElem?_set_self (by omega)];rfl
       ·rw[List.getElem?_set_ne (by omega)];exact E j (by omega)
     ·have br:decide (((m:Nat):Int)<((u0.length - (p+1):Nat):Int))=false:=decide_eq_false (by omega)
      refine bM hJ (by simp only[*,go_sem]) ?_
      refine bJ ?_
      simp only[go_sem]
      have a6:p+(1+m)=u0.length:=by omega
      rw[a6] at t
      have d1:(w:Int)<=(u0.length:Int):=by omega
      have d2:¬(w:Int)<0:=by omega
      have d3:(0:Int)<=(w:Int):=by omega
      have d4:w<=u0.length:=by omega
      have d5:w<=cap:=by omega
      have d6:¬cap=w:=by omega
      have d7:(0:Int)<=(w:Int):=by omega
      have d8:(w:Int)<=(cap:Int):=by omega
      have ca:w+(u0.length - w)<=arr.size:=by
       obtain ⟨ls,cb,fg,-⟩:=id d
       rcases cb with ⟨a7,_,_⟩|⟨fi,fp,fr,a7,cd,hs,hle,_⟩
       ·cases a7
       ·cases cd
        have:rI.n=1:=rfl
        rw[this,Nat.mul_one] at hs
        omega
      repeat refine af hJ ?_
      refine aj hJ ?_
      simp only[*,go_sem,ite_false,if_false]
      refine FG (pre:=[]) (bh:=[]) (z:=.int .i64 0) (zc:=.int .i64 0) rfl (by kernel_rfl:Tryz.prog.underlying 35=some (.slice 3)) (by kernel_rfl) rfl rfl (by omega) (by simp[au]) ca ?_
      dsimp only[List.nil_append]
      repeat refine af hJ ?_
      refine aj hJ ?_
      simp only[*,go_sem]
      refine ay ?_
      simp only[*,go_sem]
      refine ⟨_,?_,Le.refl _⟩
      have:=d.clear (k:=w) (by omega)
      rw[D,a6] at this
      simpa only[ite_self,Nat.sub_zero] using this
   ·have aF:(l==o)=false:=by simpa using P
    refine bM hJ (by simp only[*,go_sem]) ?_
    refine aI hJ ?_
    refine aj hJ ?_
    have fs:IntKind.i64.wrap (((p+1:Nat):Int)+1)=((p+2:Nat):Int):=by rw[IntWalk.i64_in _ ⟨by omega,by omega⟩];omega
    simp only[*,go_sem]
    refine ⟨ba - 1,by omega,_,Le.refl _,p+2,by omega,by omega,by omega,rfl,by simp only[*,go_sem],fun j c=>?_⟩
    rcases Nat.lt_succ_iff_lt_or_eq.1 c with c|rfl
    ·exact H j c
    ·rw[Z];simpa using P
  ·have hb:decide (((k:Nat):Int)<(u0.length:Int))=false:=decide_eq_false (by omega)
   refine bM hJ (by simp only[*,go_sem]) ?_
   refine bJ ?_
   simp only[go_sem]
   repeat refine af hJ ?_
   refine aj hJ ?_
   simp only[*,go_sem]
   refine ay ?_
   simp only[*,go_sem]
   obtain rfl:k=u0.length:=by omega
   rw[sS u0 _ (Nat.le_refl _) H,List.take_length]
   exact ⟨_,hg,Le.refl _⟩
def sV (n:Int):Option (List Int):=if 0<=n/\n<=1000 then some [] else none
theorem G3 {ro:Addr->Option Value}{R:Value->aa->Prop}{n:Nat}(o:0<n)(p:n<=1000){own:List (Nat×Obj)}
  (h:∀(k b:Nat) (arr:Array Value),n<=k->arr.size=k->dO ⟨ro,own⟩ b->R (.slice (some ⟨b,0,none⟩) n k) ⟨ro,(b,.cells arr 3)::own⟩):
  lR Tryz.prog #[35,3] (.slice none 0 0) (.int .i64 (n:Int)) R ⟨ro,own⟩:=by
 intro ty
 have c:Tryz.prog.underlying 35=some (.slice 3):=by kernel_rfl
 have d:Tryz.prog.underlying 3=some (.int .i64):=by kernel_rfl
 have e:bX Tryz.prog 3=some 1:=by kernel_rfl
 have f:zeroOf Tryz.prog 3=some (.int .i64 0):=by kernel_rfl
 obtain ⟨info,g,i⟩:∃info,Tryz.prog.info? 3=some info/\info.bytes=8:=⟨_,rfl,by kernel_rfl⟩
 have w1:IntKind.i64.wrap (n:Int)=(n:Int):=IntWalk.i64_in _ ⟨by omega,by omega⟩
 have c1:¬(n:Int)<0:=by omega
 have c2:¬(n:Int)*(8:Nat)>2 ^ 48:=by omega
 have c3:¬0+n<=0:=by omega
 simp only[Builtin.append_,List.getElem?_toArray,List.getElem?_cons_zero,List.getElem?_cons_succ,bq,dn,c,d,eH,e,bF,zy,if_true,dg,w1,if_neg c1,oX,g,i]
 rw[if_neg c2]
 simp only[Int.toNat_natCast,Nat.zero_add,Bool.not_true,Bool.false_eq_true,if_false]
 have c4:¬n<=0:=by omega
 have j:¬((n:Int)>IntKind.i64.max/\(True\/8=0)):=by
  have:IntKind.i64.max=9223372036854775807:=by decide
  rw[this];omega
 have l:¬Builtin.nextslicecap n 0*8>2 ^ 48:=by
  unfold Builtin.nextslicecap
  rw[if_pos (by omega)]
  omega
 have m:¬n*1=0:=by omega
 rw[if_neg c4,if_neg j,if_neg l]
 rw[uM]
 rw[if_neg (by simp[Question.forced])]
 intro t
 have a:n<=(Question.appendCap n 0 3).cut t:=Nat.le_add_right _ _
 generalize (Question.appendCap n 0 3).cut t=k at a ⊢
 refine uZ _ ?_
 simp only[Builtin.firstCells,bF,if_neg m,lK,f,q7,bq]
 intro b hb
 refine ⟨_,Le.refl _,h k b _ a ?_ hb⟩
 simp only[Array.size_append,Builtin.zeroCells,Array.size_map,Array.size_range,Value.cells]
 simp
 omega
theorem G4 {ro:Addr->Option Value}(n:Int){x:List Int}(h:sV n=some x):aD Tryz.prog 131 #[.slice none 0 0,.int .i64 n] ⟨ro,[]⟩ (fun v G=>∃c,aO rI ro 3 v x c/\Le ⟨ro,c⟩ G):=by
 unfold sV at h;split at h
 case isFalse=>cases h
 rename_i g;obtain rfl:=Option.some.inj h;obtain ⟨n,rfl⟩:∃m:Nat,n=m:=⟨n.toNat,by omega⟩
 refine aD.go Tryz.func131 rfl Tryz.ntmps131 Tryz.results131 (by simp) fun main J hJ A j hd hs=>?_;have l:=hs 0;have k1:=hs 1;clear hs;repeat refine af hJ ?_
 refine aj hJ ?_;simp only[*,go_sem];repeat refine af hJ ?_
 refine aj hJ ?_;simp only[*,go_sem];repeat refine af hJ ?_
 have o:¬(n:Int)<0:=by omega
 refine bM hJ (by simp only[*,go_sem,decide_false]) ?_;refine aI hJ ?_;repeat refine af hJ ?_
 refine aj hJ ?_;simp only[*,go_sem];refine AG rfl (by kernel_rfl:Tryz.prog.underlying 35=some (.slice 3)) (aK ?_);have e1:IntKind.i64.wrap (((0:Nat):Int) - ((0:Nat):Int))=0:=by decide
 have p:IntKind.i64.wrap ((0:Int) - (0:Int))=0:=by decide
 have e2:IntKind.i64.wrap ((n:Int) - 0)=(n:Int):=by rw[IntWalk.i64_in _ ⟨by omega,by omega⟩];omega
 simp only[*,go_sem];repeat refine af hJ ?_
 refine aj hJ ?_;simp only[*,go_sem];repeat refine af hJ ?_
 by_cases d:0<n
 ·have b2:(n:Int)>0:=by omega
  refine bP hJ (by simp only[*,go_sem,decide_true]) ?_;repeat refine af hJ ?_
  refine aj hJ ?_;simp only[*,go_sem];refine AG rfl (by kernel_rfl:Tryz.prog.underlying 35=some (.slice 3)) (aK ?_);simp only[*,go_sem];simp only[Nat.le_refl,Int.le_refl,and_self,if_true,true_and];refine G3 d (by omega) fun k b arr q e hb=>aK ?_;have f:∀off sp,ro ⟨b,off,sp⟩=none:=hb.ro;have b3:(0:Int)<=(k:Int):=by omega
  simp only[*,go_sem,Int.le_refl,and_self,if_true,ite_self,Nat.sub_zero];repeat refine af hJ ?_
  refine aj hJ ?_;simp only[*,go_sem];refine ay ?_;simp only[*,go_sem];refine ⟨[(b,.cells arr 3)],⟨[],.inr ⟨b,arr,k,rfl,rfl,?_,Nat.zero_le _,?_,fun x a=>(by cases a),f⟩,rfl,Nat.zero_le _,fun i x a=>by simp at a⟩,Le.refl _⟩
  ·show arr.size=k*1;rw[e,Nat.mul_one]
  ·simp
 ·have b2:¬(0:Int)<(n:Int):=by omega
  refine bM hJ (by simp only[*,go_sem,decide_false]) ?_;refine aI hJ ?_;repeat refine af hJ ?_
  refine aj hJ ?_;simp only[*,go_sem];refine ay ?_;simp only[*,go_sem];exact ⟨[],aO.nil _ _ _,Le.refl _⟩
def sW (u0:ak):Option (ak×Int):=
 ag (gD u0 ([]:(List (ak->Option Int)))) fun a=>cond ((a.2 != 0)) (some ((⟨0,0,(⟨0,0⟩:an),([]:(List bY)),([]:(List bN)),([]:(List b6)),([]:(List bU))⟩:ak),a.2)) (ag (vT u0.av) fun b=>ag (qc u0.props) fun c=>ag (sJ u0.aG) fun d=>ag (sH u0.told) fun e=>some ((⟨u0.bG,u0.bO,u0.aY,b,c,d,e⟩:ak),0))
theorem wM {ro:Addr->Option Value}(a6:c7 ro)(u0:ak){s1 z B C:Value}(E:bK ro u0 s1 z B C){r:(ak×Int)}(h:sW u0=some r):eI Tryz.prog 72 #[bv u0 s1 z B C] ro (fun v aM=>∃ao w1 w2 w3,v= .tuple #[bv r.1 ao w1 w2 w3,.int .i64 r.2]/\bK aM r.1 ao w1 w2 w3):=by
 unfold sW at h;have a7:=E.oc;simp only[bE] at a7;refine aD.go Tryz.func72 rfl Tryz.ntmps72 Tryz.results72 (by simp) fun main J hJ A a8 hd hs=>?_;have a9:=hs 0;clear hs;refine ah hJ ?_;simp only[*,go_sem];refine aA fun a F ba=>?_;try simp only[au] at ba
 refine aA fun b G bb=>?_;try simp only[au] at bb
 try simp only[*,go_sem]
 refine af hJ (ah hJ ?_);revert h;refine bS fun c bc h=>?_;simp only[*,go_sem];refine b8 hJ _ (jy a6 u0 E ([]:(List (ak->Option Int))) (aC.nil _ _) bc) fun v U ae al bd=>?_;obtain ⟨d,f,g,i,j,rfl,bj,bl⟩:=bd;have bm:=bj.oc;simp only[bE] at bm;have bo:=bl.oc;simp only[bE] at bo;replace E:=E.mono ae;replace G:=al.hd;replace F:=al.tl.hd;simp only[bp] at al;refine aK ?_;try simp only[*,go_sem]
 refine aA fun k K br=>?_;try simp only[au] at br
 try simp only[*,go_sem]
 refine ah hJ ?_;simp only[*,go_sem];revert h;refine jC hJ (by simp only[*,go_sem]) (fun bs h=>?_) fun bs h=>?_
 ·obtain rfl:=sI h;refine ah hJ ?_;simp only[*,go_sem];refine ay ?_;simp only[*,go_sem];exact ⟨_,ae,Le.sub (List.nil_sublist _),_,_,_,_,rfl,⟨aC.nil _ _,aC.nil _ _,aC.nil _ _,aC.nil _ _⟩⟩
 refine aI hJ (af hJ ?_);refine az hJ fun cS=>?_;refine eE hJ mixed [13,14,15,16,17,18,19] (.pure 0 (.rd 1 (.pure 3 (.rd 4 (.pure 6 (.rd 7 (.pure 9 (.rd 10 (.one 2 (.pure 12 (.one 5 (.one 8 (.one 11 (.last 13 (.pure 14 (.last 15 (.pure 16 (.last 17 (.pure 18 (.last 19 .done)))))))))))))))))))) ⟨U,[(k,kn c.1 d f g i j),(b,bz 29),(a,bk u0 s1 z B C)]⟩ (by simp only[*,go_sem]) (by kernel_rfl) ?_;revert h;refine bS fun m b0 h=>?_;simp only[*,go_sem];refine dJ hJ (aS:=[]) [(k,kn c.1 d f g i j),(b,bz 29),(a,bk u0 s1 z B C)] [] _ (GA u0.av E.e b0) (fun c0 L ar M N da=>?_);simp only[aV] at N;subst M;obtain ⟨d158,n,rfl,db⟩:=ar.len;refine ⟨⟨U,(k,kn c.1 d f g i j)::(b,bz 29)::(a,bk u0 s1 z B C)::L⟩,Le.refl _,?_⟩;refine ⟨by simp only[*,go_sem],bT ?_⟩;revert h;refine bS fun o b1 h=>?_;try simp only[*,go_sem]
 refine dJ hJ (aS:=[]) [(k,kn c.1 d f g i j),(b,bz 29),(a,bk u0 s1 z B C)] L _ (AR u0.props E.p b1) (fun dd O V M N df=>?_);simp only[aV] at N;subst M;obtain ⟨d168,q,rfl,dk⟩:=V.len;refine ⟨⟨U,(k,kn c.1 d f g i j)::(b,bz 29)::(a,bk u0 s1 z B C)::(O++L)⟩,Le.refl _,?_⟩;refine ⟨by simp only[*,go_sem],bT ?_⟩;revert h;refine bS fun s b2 h=>?_;try simp only[*,go_sem]
 refine dJ hJ (aS:=[]) [(k,kn c.1 d f g i j),(b,bz 29),(a,bk u0 s1 z B C)] (O++L) _ (AQ u0.aG E.y b2) (fun dp P H M N dq=>?_);simp only[aV] at N;subst M;obtain ⟨d178,u,rfl,ds⟩:=H.len;refine ⟨⟨U,(k,kn c.1 d f g i j)::(b,bz 29)::(a,bk u0 s1 z B C)::(P++(O++L))⟩,Le.refl _,?_⟩;refine ⟨by simp only[*,go_sem],bT ?_⟩;revert h;refine bS fun w b3 h=>?_;obtain rfl:=sI h;try simp only[*,go_sem]
 refine dJ hJ (aS:=[]) [(k,kn c.1 d f g i j),(b,bz 29),(a,bk u0 s1 z B C)] (P++(O++L)) _ (vS u0.told E.t b3) (fun dt Q D M N du=>?_);simp only[aV] at N;subst M;obtain ⟨d188,x,rfl,dv⟩:=D.len;refine ⟨⟨U,(k,kn c.1 d f g i j)::(b,bz 29)::(a,bk u0 s1 z B C)::(Q++(P++(O++L)))⟩,Le.refl _,?_⟩;refine ⟨by simp only[*,go_sem],bT ?_⟩;try simp only[*,go_sem]
 refine af hJ ?_;refine ff [1,2,3] fun dC b4 b5 ca=>?_;simp only[*,go_sem] at b4 b5 ca;clear a8 hd a9;refine az hJ fun dE=>?_;refine aj hJ ?_;simp only[*,go_sem];refine az hJ fun a0=>?_;obtain ⟨dT,X,R,I,cb⟩:=ar.kR ((k,kn c.1 d f g i j)::(b,bk u0 (sl d158 m n) (sl d168 o q) (sl d178 s u) (sl d188 w x))::(a,bk u0 (sl d158 m n) (sl d168 o q) (sl d178 s u) (sl d188 w x))::(Q++(P++O))) ((k,kn c.1 d f g i j)::(b,bk u0 (sl d158 m n) (sl d168 o q) (sl d178 s u) (sl d188 w x))::(a,bk u0 (sl d158 m n) (sl d168 o q) (sl d178 s u) (sl d188 w x))::(Q++(P++O))) [] (by first|rfl|simp only[aV]|(simp only[aV];rfl)) (by first|rfl|simp only[aV]|(simp only[aV];rfl)) a0 (aE.cons K (aE.cons G (aE.cons F (aE.app D.jr (aE.app H.jr (V.jr))))));clear a0;refine cG hJ cb ?_;obtain ⟨ea,eb,-⟩:=I.op;replace K:=R.hd;replace G:=R.tl.hd;replace F:=R.tl.tl.hd;replace D:=D.mono X R.tl.tl.tl.l;replace H:=H.mono X R.tl.tl.tl.r.l;replace V:=V.mono X R.tl.tl.tl.r.r;simp only[bp] at R;refine az hJ fun a2=>?_;obtain ⟨ec,Y,S,T,cd⟩:=V.kR ((k,kn c.1 d f g i j)::(b,bk u0 (sl d158 m n) (sl d168 o q) (sl d178 s u) (sl d188 w x))::(a,bk u0 (sl d158 m n) (sl d168 o q) (sl d178 s u) (sl d188 w x))::(Q++P)) ((k,kn c.1 d f g i j)::(b,bk u0 (sl d158 m n) (sl d168 o q) (sl d178 s u) (sl d188 w x))::(a,bk u0 (sl d158 m n) (sl d168 o q) (sl d178 s u) (sl d188 w x))::(Q++P)) [] (by first|rfl|simp only[aV]|(simp only[aV];rfl)) (by first|rfl|simp only[aV]|(simp only[aV];rfl)) a2 (aE.cons K (aE.cons G (aE.cons F (aE.app D.jr (H.jr)))));clear a2;refine cG hJ cd ?_;obtain ⟨ed,eh,-⟩:=T.op;replace I:=I.mono Y;replace K:=S.hd;replace G:=S.tl.hd;replace F:=S.tl.tl.hd;replace D:=D.mono Y S.tl.tl.tl.l;replace H:=H.mono Y S.tl.tl.tl.r;simp only[bp] at S;refine az hJ fun a3=>?_;obtain ⟨et,Z,W,ab,cf⟩:=H.kR ((k,kn c.1 d f g i j)::(b,bk u0 (sl d158 m n) (sl d168 o q) (sl d178 s u) (sl d188 w x))::(a,bk u0 (sl d158 m n) (sl d168 o q) (sl d178 s u) (sl d188 w x))::Q) ((k,kn c.1 d f g i j)::(b,bk u0 (sl d158 m n) (sl d168 o q) (sl d178 s u) (sl d188 w x))::(a,bk u0 (sl d158 m n) (sl d168 o q) (sl d178 s u) (sl d188 w x))::Q) [] (by first|rfl|simp only[aV]|(simp only[aV];rfl)) (by first|rfl|simp only[aV]|(simp only[aV];rfl)) a3 (aE.cons K (aE.cons G (aE.cons F (D.jr))));clear a3;refine cG hJ cf ?_;obtain ⟨ev,eQ,-⟩:=ab.op;replace I:=I.mono Z;replace T:=T.mono Z;replace K:=W.hd;replace G:=W.tl.hd;replace F:=W.tl.tl.hd;replace D:=D.mono Z W.tl.tl.tl;simp only[bp] at W;refine az hJ fun a4=>?_;obtain ⟨eS,ad,cl,a5,cy⟩:=D.kR ((k,kn c.1 d f g i j)::(b,bk u0 (sl d158 m n) (sl d168 o q) (sl d178 s u) (sl d188 w x))::(a,bk u0 (sl d158 m n) (sl d168 o q) (sl d178 s u) (sl d188 w x))::[]) [(k,kn c.1 d f g i j),(b,bk u0 (sl d158 m n) (sl d168 o q) (sl d178 s u) (sl d188 w x)),(a,bk u0 (sl d158 m n) (sl d168 o q) (sl d178 s u) (sl d188 w x))] [] (by first|rfl|simp only[aV]|(simp only[aV];rfl)) (by first|rfl|simp only[aV]|(simp only[aV];rfl)) a4 (aE.cons K (aE.cons G (aE.cons F (aE.nil _))));clear a4;refine cG hJ cy ?_;obtain ⟨e0,e1,-⟩:=a5.op;replace I:=I.mono ad;replace T:=T.mono ad;replace ab:=ab.mono ad;simp only[bp] at cl;refine ay ?_;simp only[*,go_sem];exact ⟨_,((((ae).trans X).trans Y).trans Z).trans ad,Le.sub (List.nil_sublist _),_,_,_,_,rfl,⟨I,T,ab,a5⟩⟩
def wN (u0:Int)(a:Int):Option Int:=
 ag (nJ u0) fun c=>ag (nJ a) fun b=>cond (c) (cond (b) (some 0) (some (-1))) (cond (b) (some 1) (cond (decide (u0<a)) (some (-1)) (cond (decide (a<u0)) (some 1) (some 0))))
theorem G5 {ro:Addr->Option Value}(u0:Int)(a:Int){r:Int}(h:wN u0 a=some r):aD Tryz.prog 142 #[.int .i64 u0,.int .i64 a] ⟨ro,[]⟩ (fun v _=>v= .int .i64 r):=by
 unfold wN at h;refine aD.go Tryz.func142 rfl Tryz.ntmps142 Tryz.results142 (by simp) fun main J hJ A j hd hs=>?_;have k:=hs 0;have k1:=hs 1;clear hs;refine ah hJ ?_;simp only[*,go_sem];refine ah hJ ?_;revert h;refine bS fun l b h=>?_;simp only[*,go_sem];refine bn hJ _ (sO u0 b) (aK ?_);try simp only[*,go_sem]
 refine ah hJ ?_;revert h;refine bS fun m c h=>?_;simp only[*,go_sem];refine bn hJ _ (sO a c) (aK ?_);try simp only[*,go_sem]
 refine af hJ (ah hJ ?_);simp only[*,go_sem];revert h;refine jC hJ (by simp only[*,go_sem]) (fun d h=>?_) fun d h=>?_
 ·refine af hJ (ah hJ ?_);simp only[*,go_sem];revert h;refine jC hJ (by simp only[*,go_sem]) (fun e h=>?_) fun e h=>?_
  ·obtain rfl:=sI h;refine ah hJ ?_;simp only[*,go_sem];refine ay ?_;simp only[*,go_sem]
  obtain rfl:=sI h;refine aI hJ (af hJ ?_);refine aj hJ ?_;simp only[*,go_sem];refine ay ?_;simp only[*,go_sem]
 refine aI hJ (af hJ ?_);refine ah hJ ?_;simp only[*,go_sem];revert h;refine jC hJ (by simp only[*,go_sem]) (fun f h=>?_) fun f h=>?_
 ·obtain rfl:=sI h;refine ah hJ ?_;simp only[*,go_sem];refine ay ?_;simp only[*,go_sem]
 refine aI hJ (af hJ ?_);refine ah hJ ?_;simp only[*,go_sem];revert h;refine jC hJ (by simp only[*,go_sem]) (fun g h=>?_) fun g h=>?_
 ·obtain rfl:=sI h;refine ah hJ ?_;simp only[*,go_sem];refine ay ?_;simp only[*,go_sem]
 refine aI hJ (af hJ ?_);refine ah hJ ?_;simp only[*,go_sem];revert h;refine jC hJ (by simp only[*,go_sem]) (fun i h=>?_) fun i h=>?_
 ·obtain rfl:=sI h;refine ah hJ ?_;simp only[*,go_sem];refine ay ?_;simp only[*,go_sem]
 obtain rfl:=sI h;refine aI hJ (af hJ ?_);refine aj hJ ?_;simp only[*,go_sem];refine ay ?_;simp only[*,go_sem]
def wO (a:(List Int))(i16:Nat)(c:Int)(st:Int):Option (Fl Int Int):=
 cond (decide ((a.length:Int)<=(i16:Int))) (some (.rt 1)) (ag (bf a (i16:Int)) fun d=>ag (wN c d) fun b=>cond ((b != 0)) (some (.rt b)) (some (.nx st)))
def wP (u0:(List Int))(a:(List Int)):Option Int:=
 ag (bB (wO a) 0 u0 0) fun o=>aB o (fun b=>cond (decide ((u0.length:Int)<(a.length:Int))) (some (-1)) (some 0)) (fun _ _=>none) (fun r=>some r)
theorem G6 {ro:Addr->Option Value}(u0:(List Int)){s1:Value}(g:aC rI ro s1 u0)(d:(List Int)){i:Value}(j:aC rI ro i d){r:Int}(h:wP u0 d=some r):aD Tryz.prog 106 #[s1,i] ⟨ro,[]⟩ (fun v _=>v= .int .i64 r):=by
 obtain ⟨d3,c4,rfl,U,w,-⟩:=id g;obtain ⟨d10,V,rfl,W,X,-⟩:=id j;unfold wP at h;refine aD.go Tryz.func106 rfl Tryz.ntmps106 Tryz.results106 (by simp) fun main J hJ A y hd hs=>?_;have z:=hs 0;have k1:=hs 1;clear hs;refine ah hJ ?_;simp only[*,go_sem];refine af hJ (ah hJ ?_);simp only[*,go_sem];refine aN hJ ?_;revert h;refine bS fun B a e=>?_;refine bQ hJ [4,5,6,7,8,11,12,13,14,15,16,17,18,19,20,21,22,23,24,25,26,27,28,29,30] (fun m k F'=>∃(i16:Nat) (c:Int),m=u0.length - i16/\i16<=u0.length/\bB (wO d) i16 (u0.drop i16) c=some B/\F'=⟨ro,[]⟩/\slot k 11= .int .i64 (i16:Int)/\slot k 4= .int .i64 c) u0.length ?_ ?_
 ·refine ⟨0,0,(Nat.sub_zero _).symm,Nat.zero_le _,a,rfl,?_⟩;simp only[*,go_sem]
 rintro Y Z F' l ⟨i16,c,rfl,ab,a,rfl,ad,ae⟩;obtain ⟨C,D,E⟩:=l.pick [0,1,9,10] (by decide);simp only[*,go_sem] at C D E;clear l y hd z k1;refine ah hJ ?_;simp only[*,go_sem];refine af hJ ?_;rcases Nat.lt_or_ge i16 u0.length with F|o
 ·refine bP hJ (by simp only[*,go_sem]) ?_;refine aI hJ ?_;obtain ⟨p,f⟩:∃x,u0[i16]?=some x:=⟨_,List.getElem?_eq_getElem F⟩
  rw[c8 f] at a;revert a;refine bS fun al h b=>?_;unfold wO at h;try dsimp only at h
  obtain ⟨ao,G,H,I,q⟩:=g.el _ _ f;obtain rfl:G=[.int .i64 p]:=I;cases H;have K:=q 0 _ rfl;simp only[go_sem] at K;clear q f;refine af hJ (aN hJ (af hJ ?_));refine aj hJ ?_;simp only[*,go_sem];refine af hJ (ah hJ ?_);simp only[*,go_sem];revert h;refine jC hJ (by simp only[*,go_sem]) (fun L h=>?_) fun L h=>?_
  ·obtain rfl:=sI h;refine ah hJ ?_;simp only[*,go_sem];obtain rfl:=sI b;clear b;have h:=e;dsimp only[aB] at h;obtain rfl:=sI h;refine ay ?_;simp only[*,go_sem]
  refine aI hJ (af hJ ?_);refine aj hJ ?_;revert h;refine bS fun s M h=>?_;obtain ⟨ar,a0,t⟩:=cH M;obtain ⟨a2,N,O,P,u⟩:=j.el _ _ t;obtain rfl:N=[.int .i64 s]:=P;cases O;have Q:=u 0 _ rfl;simp only[go_sem] at Q;clear u t;try simp only[*,go_sem]
  refine ah hJ ?_;revert h;refine bS fun a3 R h=>?_;simp only[*,go_sem];refine bn hJ _ (G5 p s R) (aK ?_);try simp only[*,go_sem]
  refine ah hJ ?_;simp only[*,go_sem];revert h;refine jC hJ (by simp only[*,go_sem]) (fun S h=>?_) fun S h=>?_
  ·obtain rfl:=sI h;refine ah hJ ?_;simp only[*,go_sem];obtain rfl:=sI b;clear b;have h:=e;dsimp only[aB] at h;obtain rfl:=sI h;refine ay ?_;simp only[*,go_sem]
  obtain rfl:=sI h;refine aI hJ ?_;have a4:=cq (n:=i16) (by have:=w;omega);refine aj hJ ?_;simp only[*,go_sem];refine ⟨u0.length - (i16+1),by omega,_,Le.sub (List.Sublist.refl _),i16+1,c,rfl,by omega,b,rfl,?_⟩;simp only[*,go_sem]
 have a5:=Nat.not_lt.2 o;refine bM hJ (by simp only[*,go_sem]) ?_;rw[List.drop_eq_nil_of_le o] at a;obtain rfl:=sI a;clear a;have h:=e;dsimp only[aB] at h;refine bJ ?_;simp only[go_sem];refine af hJ (ah hJ ?_);simp only[*,go_sem];revert h;refine jC hJ (by simp only[*,go_sem]) (fun T h=>?_) fun T h=>?_
 ·obtain rfl:=sI h;refine ah hJ ?_;simp only[*,go_sem];refine ay ?_;simp only[*,go_sem]
 obtain rfl:=sI h;refine aI hJ (af hJ ?_);refine aj hJ ?_;simp only[*,go_sem];refine ay ?_;simp only[*,go_sem]
def sX (u0:(List Int))(a:(List Int)):Option Bool:=
 cond (decide ((a.length:Int)<(u0.length:Int))) (some true) (cond (((a.length:Int)==(u0.length:Int))) (ag (wP a u0) fun b=>some (decide (b<0))) (some false))
theorem G7 {ro:Addr->Option Value}(u0:(List Int)){s1:Value}(d:aC rI ro s1 u0)(a:(List Int)){e:Value}(f:aC rI ro e a){r:Bool}(h:sX u0 a=some r):aD Tryz.prog 105 #[s1,e] ⟨ro,[]⟩ (fun v _=>v= .bool r):=by
 obtain ⟨d3,c4,rfl,i,j,-⟩:=id d;obtain ⟨d10,k,rfl,l,m,-⟩:=id f;unfold sX at h;refine aD.go Tryz.func105 rfl Tryz.ntmps105 Tryz.results105 (by simp) fun main J hJ A n hd hs=>?_;have o:=hs 0;have k1:=hs 1;clear hs;refine ah hJ ?_;simp only[*,go_sem];refine ah hJ ?_;revert h;refine cS (fun b h=>?_) fun b h=>?_
 ·obtain rfl:=sI h;try simp only[Int.ofNat_lt] at b
  try simp only[*,go_sem]
  refine ay ?_;simp only[*,go_sem]
 try simp only[Int.ofNat_lt] at b
 revert h;refine cS (fun c h=>?_) fun c h=>?_
 ·try simp only[Int.ofNat_lt] at c
  revert h;refine bS fun p g h=>?_;obtain rfl:=sI h;try simp only[*,go_sem]
  refine bn hJ _ (G6 a (f.mono aT) u0 (d.mono aT) g) (aK ?_);try simp only[*,go_sem]
  refine ay ?_;simp only[*,go_sem]
 obtain rfl:=sI h;try simp only[Int.ofNat_lt] at c
 try simp only[*,go_sem]
 refine ay ?_;simp only[*,go_sem]
def sY (u0:ak)(b:Int):Option (Int×Int):=
 ag (gD u0 ([(eK b)])) fun a=>cond ((a.2 != 0)) (some (0,a.2)) (ag (sD a.1 (fun c=>sE c a.1 b)) fun d=>some (d,0))
theorem A0 {ro:Addr->Option Value}(j:c7 ro)(u0:ak){s1 k l m:Value}(i:bK ro u0 s1 k l m)(c:Int){r:(Int×Int)}(h:sY u0 c=some r):aD Tryz.prog 24 #[bv u0 s1 k l m,.int .i64 c] ⟨ro,[]⟩ (fun v _=>v= .tuple #[.int .i64 r.1,.int .i64 r.2]):=by
 unfold sY at h;have G:=i.oc;simp only[bE] at G;refine aD.go Tryz.func24 rfl Tryz.ntmps24 Tryz.results24 (by simp) fun main J hJ A ae hd hs=>?_;have al:=hs 0;have k1:=hs 1;clear hs;refine ah hJ ?_;simp only[*,go_sem];refine aA fun H I K=>?_;try simp only[au] at K
 refine aA fun u L M=>?_;try simp only[au] at M
 try simp only[*,go_sem]
 refine af hJ ?_;refine az hJ fun N=>?_;refine aj hJ ?_;revert h;refine bS fun n O h=>?_;simp only[*,go_sem];refine aA fun f w z=>?_;have B:=aP.cons z N;try simp only[au] at z
 try simp only[*,go_sem]
 obtain ⟨q,C,D⟩:=fO (b:=f) (o:=(.cells #[.func (.func 68) #[.int .i64 c] #[]] 127)) [] ((u,ic c)::(H,bk u0 s1 k l m)::[]) B w (aE.cons L (aE.cons I (aE.nil _)));have E:aC (cZ) (bR ro f (.cells #[.func (.func 68) #[.int .i64 c] #[]] 127)) (.slice (some ⟨f,0,none⟩) 1 1) [(eK c)]:=(aC.one (r:=(cZ)) (e:=127) (cs:=#[.func (.func 68) #[.int .i64 c] #[]]) (x:=(eK c)) (own:=[(f,.cells #[.func (.func 68) #[.int .i64 c] #[]] 127)]) w (by simp[lk]) ⟨68,#[.int .i64 c],#[],rfl,⟨by simp only[go_sem],fun P a g _ _ _ _ _ Q R S T h=>by simp only[go_sem];exact r5 c g ⟨Q,R,S,T⟩ h⟩⟩)
 generalize bR ro f (.cells #[.func (.func 68) #[.int .i64 c] #[]] 127)=ao at E C q D;refine gO hJ D ?_;replace i:=i.mono q;replace j:=j.mono q;simp only[bp] at C;have U:=aP.tl B;refine b8 hJ _ (jy j u0 i ([(eK c)]) E O) fun v ar a0 V W=>?_;obtain ⟨a2,a3,a4,a5,a6,rfl,d,s⟩:=W;have X:=d.oc;simp only[bE] at X;simp only[bp] at V;obtain ⟨d41,a7,rfl,a8,a9,-⟩:=id d.e;obtain ⟨d48,ba,rfl,bb,bc,-⟩:=id d.p;obtain ⟨d55,bd,rfl,bj,bl,-⟩:=id d.y;obtain ⟨d62,bm,rfl,bo,br,-⟩:=id d.t;obtain ⟨d69,bs,rfl,bz,b0,-⟩:=id s;refine aK ?_;try simp only[*,go_sem]
 refine aA fun Y b1 F=>?_;have b2:=aP.cons F U;try simp only[au] at F
 try simp only[*,go_sem]
 refine af hJ (ah hJ ?_);simp only[*,go_sem];revert h;refine jC hJ (by simp only[*,go_sem]) (fun Z h=>?_) fun Z h=>?_
 ·obtain rfl:=sI h;refine ah hJ ?_;simp only[*,go_sem];refine ay ?_;simp only[*,go_sem]
 refine aI hJ (af hJ ?_);refine aj hJ ?_;revert h;refine bS fun b3 ab h=>?_;obtain rfl:=sI h;simp only[*,go_sem];refine bn hJ _ (AP (dw:=80) (dV:=#[]) (dW:=#[.pointer (some ⟨Y,0,none⟩),.pointer (some ⟨u,0,none⟩)]) n.1 (d.mono aT) (s.mono aT) (fun g=>sE g n.1 c) ⟨by simp only[go_sem],fun P a g b4 ad=>by simp only[go_sem];exact Gv g n.1 (a _ _ (by simp only[aa.cr,go_sem, *])) (a _ _ (by simp only[aa.cr,go_sem, *])) (a _ _ (by simp only[aa.cr,go_sem, *])) (a _ _ (by simp only[aa.cr,go_sem, *])) ((d.e.mono aT).mono a) (a _ _ (by simp only[aa.cr,go_sem, *])) ((d.p.mono aT).mono a) (a _ _ (by simp only[aa.cr,go_sem, *])) ((d.y.mono aT).mono a) (a _ _ (by simp only[aa.cr,go_sem, *])) ((d.t.mono aT).mono a) (a _ _ (by simp only[aa.cr,go_sem, *])) ((s.mono aT).mono a) (a _ _ (by simp only[aa.cr,go_sem, *])) c (a _ _ (by simp only[aa.cr,go_sem, *])) ad⟩ ab) (aK ?_);try simp only[*,go_sem]
 refine ay ?_;simp only[*,go_sem]
def qi (u0:ak):Option (Int×Int):=
 ag (gD u0 ([]:(List (ak->Option Int)))) fun a=>cond ((a.2 != 0)) (some (0,a.2)) (ag (sD a.1 (fun b=>sF b a.1)) fun c=>some (c,0))
theorem sZ {ro:Addr->Option Value}(l:c7 ro)(u0:ak){s1 g i j:Value}(k:bK ro u0 s1 g i j){r:(Int×Int)}(h:qi u0=some r):aD Tryz.prog 27 #[bv u0 s1 g i j] ⟨ro,[]⟩ (fun v _=>v= .tuple #[.int .i64 r.1,.int .i64 r.2]):=by
 unfold qi at h;have m:=k.oc;simp only[bE] at m;refine aD.go Tryz.func27 rfl Tryz.ntmps27 Tryz.results27 (by simp) fun main J hJ A D hd hs=>?_;have E:=hs 0;clear hs;refine ah hJ ?_;simp only[*,go_sem];refine aA fun F G n=>?_;try simp only[au] at n
 try simp only[*,go_sem]
 refine ah hJ ?_;revert h;refine bS fun c o h=>?_;simp only[*,go_sem];refine b8 hJ _ (jy l u0 k ([]:(List (ak->Option Int))) (aC.nil _ _) o) fun v H I q s=>?_;obtain ⟨K,L,M,N,O,rfl,b,d⟩:=s;have u:=b.oc;simp only[bE] at u;simp only[bp] at q;obtain ⟨d37,P,rfl,Q,R,-⟩:=id b.e;obtain ⟨d44,S,rfl,T,U,-⟩:=id b.p;obtain ⟨d51,V,rfl,W,X,-⟩:=id b.y;obtain ⟨d58,Y,rfl,Z,ab,-⟩:=id b.t;obtain ⟨d65,ad,rfl,ae,al,-⟩:=id d;refine aK ?_;try simp only[*,go_sem]
 refine aA fun w ao x=>?_;try simp only[au] at x
 try simp only[*,go_sem]
 refine af hJ (ah hJ ?_);simp only[*,go_sem];revert h;refine jC hJ (by simp only[*,go_sem]) (fun z h=>?_) fun z h=>?_
 ·obtain rfl:=sI h;refine ah hJ ?_;simp only[*,go_sem];refine ay ?_;simp only[*,go_sem]
 refine aI hJ (af hJ ?_);refine aj hJ ?_;revert h;refine bS fun ar B h=>?_;obtain rfl:=sI h;simp only[*,go_sem];refine bn hJ _ (AP (dw:=84) (dV:=#[]) (dW:=#[.pointer (some ⟨w,0,none⟩)]) c.1 (b.mono aT) (d.mono aT) (fun f=>sF f c.1) ⟨by simp only[go_sem],fun a0 a f a2 C=>by simp only[go_sem];exact Gw f c.1 (a _ _ (by simp only[aa.cr,go_sem, *])) (a _ _ (by simp only[aa.cr,go_sem, *])) (a _ _ (by simp only[aa.cr,go_sem, *])) (a _ _ (by simp only[aa.cr,go_sem, *])) ((b.e.mono aT).mono a) (a _ _ (by simp only[aa.cr,go_sem, *])) ((b.p.mono aT).mono a) (a _ _ (by simp only[aa.cr,go_sem, *])) ((b.y.mono aT).mono a) (a _ _ (by simp only[aa.cr,go_sem, *])) ((b.t.mono aT).mono a) (a _ _ (by simp only[aa.cr,go_sem, *])) ((d.mono aT).mono a) (a _ _ (by simp only[aa.cr,go_sem, *])) C⟩ B) (aK ?_);try simp only[*,go_sem]
 refine ay ?_;simp only[*,go_sem]
def wQ (a:(cR×Int))(i74:Nat)(i83:Nat)(b:aX)(st:Int):Option (Fl Int (Int×Int×Int)):=
 ag (aX.get b (i74:Int)) fun c=>ag (iU a.1.book (i74:Int) c) fun d=>ag (fQ a.1.book d) fun e=>cond (e) (some (.nx (IntKind.i64.wrap (st+1)))) (some (.nx st))
def wR (b:(cR×Int))(i74:Nat)(c:b6)(st:(Int×Int)):Option (Fl (Int×Int) (Int×Int×Int)):=
 ag (bB (wQ b i74) 0 b.1.all 0) fun o=>aB o (fun a=>cond (decide ((if a<IntKind.i64.wrap ((b.1.all.length:Int) - a) then IntKind.i64.wrap ((b.1.all.length:Int) - a) else a)<st.2)) (some (.nx ((i74:Int),(if a<IntKind.i64.wrap ((b.1.all.length:Int) - a) then IntKind.i64.wrap ((b.1.all.length:Int) - a) else a)))) (some (.nx (st.1,st.2)))) (fun _ _=>none) (fun r=>some (.rt r))
def wS (u0:ak):Option (Int×Int×Int):=
 ag (gD u0 ([]:(List (ak->Option Int)))) fun a=>cond ((a.2 != 0)) (some (0,0,a.2)) (ag (bB (wR a) 0 a.1.book.aG ((-1),(a.1.all.length:Int))) fun o=>aB o (fun b=>some (b.1,b.2,0)) (fun _ _=>none) (fun r=>some r))
theorem G8 {ro:Addr->Option Value}(V:c7 ro)(u0:ak){s1 g i j:Value}(w:bK ro u0 s1 g i j){r:(Int×Int×Int)}(h:wS u0=some r):aD Tryz.prog 64 #[bv u0 s1 g i j] ⟨ro,[]⟩ (fun v _=>v= .tuple #[.int .i64 r.1,.int .i64 r.2.1,.int .i64 r.2.2]):=by
 unfold wS at h;have W:=w.oc;simp only[bE] at W;refine aD.go Tryz.func64 rfl Tryz.ntmps64 Tryz.results64 (by simp) fun main J hJ A X hd hs=>?_;have Y:=hs 0;clear hs;refine ah hJ ?_;simp only[*,go_sem];refine aA fun z dq Z=>?_;try simp only[au] at Z
 try simp only[*,go_sem]
 refine ah hJ ?_;revert h;refine bS fun a ab h=>?_;simp only[*,go_sem];refine b8 hJ _ (jy V u0 w ([]:(List (ak->Option Int))) (aC.nil _ _) ab) fun v B ds ad ae=>?_;obtain ⟨C,D,dt,E,du,rfl,f,G⟩:=ae;have al:=f.oc;simp only[bE] at al;simp only[bp] at ad;obtain ⟨d51,H,rfl,dv,I,-⟩:=id f.y;obtain ⟨d65,K,rfl,dC,L,-⟩:=id G;refine aK ?_;try simp only[*,go_sem]
 refine aA fun M dE ao=>?_;try simp only[au] at ao
 try simp only[*,go_sem]
 refine af hJ (ah hJ ?_);simp only[*,go_sem];revert h;refine jC hJ (by simp only[*,go_sem]) (fun ar h=>?_) fun ar h=>?_
 ·obtain rfl:=sI h;refine ah hJ ?_;simp only[*,go_sem];refine ay ?_;simp only[*,go_sem]
 refine aI hJ (af hJ ?_);refine cQ hJ mixed 5 2 (by simp only[*,go_sem]) (by kernel_rfl) ?_;simp only[*,go_sem];refine af hJ (ah hJ ?_);simp only[*,go_sem];refine aN hJ ?_;revert h;refine bS fun a0 c a2=>?_;refine bQ hJ [2,3,6,7,9,10,27,28,29,30,31,32,33,34,35,36,37,38,39,40,41,42,43,44,45,46,47,48,49,50,51,52,53,54,55,56,57,58,59,60,61,62] (fun m e F'=>∃(i74:Nat) (k:Int) (l:Int),m=a.1.book.aG.length - i74/\i74<=a.1.book.aG.length/\bB (wR a) i74 (a.1.book.aG.drop i74) (k,l)=some a0/\F'=⟨B,(M,kn a.1 C D (sl d51 a.1.book.aG H) E (sl d65 a.1.all K))::(z,bk u0 s1 g i j)::[]⟩/\slot e 27= .int .i64 (i74:Int)/\slot e 2= .int .i64 k/\slot e 3= .int .i64 l) a.1.book.aG.length ?_ ?_
 ·refine ⟨0,(-1),(a.1.all.length:Int),(Nat.sub_zero _).symm,Nat.zero_le _,c,rfl,?_⟩;simp only[*,go_sem]
 rintro dT a3 F' N ⟨i74,k,l,rfl,ea,c,rfl,a4,a5,a6⟩;obtain ⟨O,P,Q⟩:=N.pick [4,5,26] (by decide);simp only[*,go_sem] at O P Q;clear N X hd Y;refine ah hJ ?_;simp only[*,go_sem];refine af hJ ?_;rcases Nat.lt_or_ge i74 a.1.book.aG.length with a7|R
 ·refine bP hJ (by simp only[*,go_sem]) ?_;refine aI hJ ?_;obtain ⟨a8,q⟩:∃x,a.1.book.aG[i74]?=some x:=⟨_,List.getElem?_eq_getElem a7⟩
  rw[c8 q] at c;revert c;refine bS fun eb h S=>?_;unfold wR at h;try dsimp only at h
  obtain ⟨a9,ba,bb,bc,o⟩:=f.y.el _ _ q;obtain rfl:ba=a8.cells:=bc;cases bb;have bd:=o 0 _ rfl;simp only[go_sem] at bd;have bj:=o 1 _ rfl;simp only[go_sem] at bj;have bl:=o 2 _ rfl;simp only[go_sem] at bl;clear o q;refine af hJ (aN hJ (af hJ ?_));refine aj hJ ?_;simp only[*,go_sem];refine ah hJ ?_;simp only[*,go_sem];refine af hJ (ah hJ ?_);simp only[*,go_sem];refine aN hJ ?_;revert h;refine bS fun bm d bo=>?_;refine bQ hJ [7,9,33,34,35,36,37,38,39,40,41,42,43,44,45,46,47,48,49] (fun m e F'=>∃(i83:Nat) (b:Int),m=a.1.all.length - i83/\i83<=a.1.all.length/\bB (wQ a i74) i83 (a.1.all.drop i83) b=some bm/\F'=⟨B,(M,kn a.1 C D (sl (some a9) a.1.book.aG H) E (sl d65 a.1.all K))::(z,bk u0 s1 g i j)::[]⟩/\slot e 33= .int .i64 (i83:Int)/\slot e 7= .int .i64 b) a.1.all.length ?_ ?_
  ·refine ⟨0,0,(Nat.sub_zero _).symm,Nat.zero_le _,d,rfl,?_⟩;simp only[*,go_sem]
  rintro ec br F' s ⟨i83,b,rfl,ed,d,rfl,eh,et⟩;obtain ⟨bs,bz,b0⟩:=s.pick [2,3,4,5,6,26,27,28,29,30,31,32] (by decide);simp only[*,go_sem] at bs bz b0;have ev:cE [2,3,6,7,9,10,27,28,29,30,31,32,33,34,35,36,37,38,39,40,41,42,43,44,45,46,47,48,49,50,51,52,53,54,55,56,57,58,59,60,61,62] br a3:=(s.fK (by decide)).trans (by simp only[*,go_sem]);clear s O P Q a5 a6 a4;refine ah hJ ?_;simp only[*,go_sem];refine af hJ ?_;rcases Nat.lt_or_ge i83 a.1.all.length with b1|T
  ·refine bP hJ (by simp only[*,go_sem]) ?_;refine aI hJ ?_;obtain ⟨b2,t⟩:∃x,a.1.all[i83]?=some x:=⟨_,List.getElem?_eq_getElem b1⟩
   rw[c8 t] at d;revert d;refine bS fun eQ h U=>?_;unfold wQ at h;(try dsimp only at h);obtain ⟨eS,b3,b4,b5,p⟩:=G.el _ _ t;obtain rfl:b3=b2.cells:=b5;cases b4;have ca:=p 0 _ rfl;simp only[go_sem] at ca;have cb:=p 1 _ rfl;simp only[go_sem] at cb;have cd:=p 2 _ rfl;simp only[go_sem] at cd;clear p t;refine af hJ (aN hJ (af hJ ?_));refine aj hJ ?_;simp only[*,go_sem];refine aA fun e0 e1 cf=>?_;try simp only[au] at cf
   (try simp only[*,go_sem]);refine af hJ ?_;refine cQ hJ mixed 10 3 (by simp only[*,go_sem]) (by kernel_rfl) ?_;revert h;refine bS fun cl cy h=>?_;obtain ⟨e2,e3,cS⟩:=aX.get_some cy;(try simp only[go_sem] at cS);revert h;refine bS fun c0 da h=>?_;(try simp only[*,go_sem]);refine ⟨_,bD hJ fun F u=>l8 a.1.book (f.mono (bZ u)) (i74:Int) cl da,b9 ?_⟩;revert h;refine bS fun fa db h=>?_;(try simp only[*,go_sem]);refine ⟨_,bD hJ fun F u=>mj a.1.book (f.mono (bZ u)) c0 db,?_⟩;(try simp only[*,go_sem]);revert h;refine jC hJ (by simp only[*,go_sem]) (fun dd h=>?_) fun dd h=>?_
   ·obtain rfl:=sI h;refine aj hJ ?_;simp only[*,go_sem];have df:=cq (n:=i83) (by have:=L;omega);refine aj hJ ?_;simp only[*,go_sem];refine ⟨a.1.all.length - (i83+1),by omega,_,Le.sub (List.Sublist.cons _ (List.Sublist.refl _)),i83+1,(IntKind.i64.wrap (b+1)),rfl,by omega,U,rfl,?_⟩;simp only[*,go_sem]
   obtain rfl:=sI h;refine aI hJ ?_;have df:=cq (n:=i83) (by have:=L;omega);refine aj hJ ?_;simp only[*,go_sem];refine ⟨a.1.all.length - (i83+1),by omega,_,Le.sub (List.Sublist.cons _ (List.Sublist.refl _)),i83+1,b,rfl,by omega,U,rfl,?_⟩;simp only[*,go_sem]
  have fb:=Nat.not_lt.2 T;refine bM hJ (by simp only[*,go_sem]) ?_;rw[List.drop_eq_nil_of_le T] at d;obtain rfl:=sI d;clear d;have h:=bo;dsimp only[aB] at h;refine bJ ?_;simp only[go_sem];refine ah hJ ?_;simp only[*,go_sem];refine ah hJ ?_;simp only[*,go_sem];revert h;refine jC hJ (by simp only[*,go_sem]) (fun dk h=>?_) fun dk h=>?_
  ·obtain rfl:=sI h;refine aj hJ ?_;simp only[*,go_sem];have dp:=cq (n:=i74) (by have:=I;omega);refine aj hJ ?_;simp only[*,go_sem];refine ⟨a.1.book.aG.length - (i74+1),by omega,_,Le.sub (List.Sublist.refl _),i74+1,(i74:Int),(if b<IntKind.i64.wrap ((a.1.all.length:Int) - b) then IntKind.i64.wrap ((a.1.all.length:Int) - b) else b),rfl,by omega,S,rfl,?_⟩;simp only[*,go_sem]
  obtain rfl:=sI h;refine aI hJ ?_;have dp:=cq (n:=i74) (by have:=I;omega);refine aj hJ ?_;simp only[*,go_sem];refine ⟨a.1.book.aG.length - (i74+1),by omega,_,Le.sub (List.Sublist.refl _),i74+1,k,l,rfl,by omega,S,rfl,?_⟩;simp only[*,go_sem]
 have fg:=Nat.not_lt.2 R;refine bM hJ (by simp only[*,go_sem]) ?_;rw[List.drop_eq_nil_of_le R] at c;obtain rfl:=sI c;clear c;have h:=a2;dsimp only[aB] at h;obtain rfl:=sI h;refine bJ ?_;simp only[go_sem];refine ah hJ ?_;simp only[*,go_sem];refine ay ?_;simp only[*,go_sem]
def k3 (u0:ak):Option Int:=
 cond (((u0.props.length:Int)==3)) (some 2) (some 0)
theorem G9 {ro:Addr->Option Value}(u0:ak){s1 b c d:Value}(a:bK ro u0 s1 b c d){r:Int}(h:k3 u0=some r):aD Tryz.prog 97 #[bv u0 s1 b c d] ⟨ro,[]⟩ (fun v _=>v= .int .i64 r):=by
 obtain ⟨d3,c4,rfl,i,j,-⟩:=id a.e;obtain ⟨d10,k,rfl,l,m,-⟩:=id a.p;obtain ⟨d17,n,rfl,o,q,-⟩:=id a.y;obtain ⟨d24,s,rfl,u,w,-⟩:=id a.t;unfold k3 at h;refine aD.go Tryz.func97 rfl Tryz.ntmps97 Tryz.results97 (by simp) fun main J hJ A x hd hs=>?_;have z:=hs 0;clear hs;refine ah hJ ?_;simp only[*,go_sem];refine aA fun B C f=>?_;try simp only[au] at f
 try simp only[*,go_sem]
 refine af hJ (ah hJ ?_);simp only[*,go_sem];revert h;refine jC hJ (by simp only[*,go_sem]) (fun g h=>?_) fun g h=>?_
 ·obtain rfl:=sI h;refine ah hJ ?_;simp only[*,go_sem];refine ay ?_;simp only[*,go_sem]
 obtain rfl:=sI h;refine aI hJ (af hJ ?_);refine aj hJ ?_;simp only[*,go_sem];refine ay ?_;simp only[*,go_sem]
def s0 (u0:ak)(c:bU):Option (ak×Int):=
 ag (e4 u0) fun a=>cond ((a != 0)) (some ((⟨0,0,(⟨0,0⟩:an),([]:(List bY)),([]:(List bN)),([]:(List b6)),([]:(List bU))⟩:ak),a)) (ag (sH u0.told) fun d=>ag (cY d ([c])) fun e=>ag (sW (⟨u0.bG,u0.bO,u0.aY,u0.av,u0.props,u0.aG,e⟩:ak)) fun b=>some (b.1,b.2))
theorem s3 {ro:Addr->Option Value}(k:c7 ro)(u0:ak){s1 c d f:Value}(b:bK ro u0 s1 c d f)(a:bU){r:(ak×Int)}(h:s0 u0 a=some r):eI Tryz.prog 37 #[bv u0 s1 c d f,.agg #[.int .i64 a.aW,.bool a.bt]] ro (fun v aM=>∃L w1 w2 w3,v= .tuple #[bv r.1 L w1 w2 w3,.int .i64 r.2]/\bK aM r.1 L w1 w2 w3):=by
 unfold s0 at h;refine aD.go Tryz.func37 rfl Tryz.ntmps37 Tryz.results37 (by simp) fun main J hJ A ca hd hs=>?_;have cb:=hs 0;have k1:=hs 1;clear hs;refine ah hJ ?_;simp only[*,go_sem];refine aA fun g u ab=>?_;try simp only[au] at ab
 refine aA fun i w ad=>?_;try simp only[au] at ad
 refine aA fun j z ae=>?_;try simp only[au] at ae
 try simp only[*,go_sem]
 refine af hJ (ah hJ ?_);revert h;refine bS fun cd al h=>?_;simp only[*,go_sem];refine bn hJ _ (AM (k.mono aT) u0 (b.e.mono aT) (b.p.mono aT) (b.y.mono aT) (b.t.mono aT) al) (aK ?_);try simp only[*,go_sem]
 refine ah hJ ?_;simp only[*,go_sem];revert h;refine jC hJ (by simp only[*,go_sem]) (fun ao h=>?_) fun ao h=>?_
 ·obtain rfl:=sI h;refine ah hJ ?_;simp only[*,go_sem];refine ay ?_;simp only[*,go_sem];exact ⟨_,Ext.refl _,Le.sub (List.nil_sublist _),_,_,_,_,rfl,⟨aC.nil _ _,aC.nil _ _,aC.nil _ _,aC.nil _ _⟩⟩
 refine aI hJ (af hJ ?_);refine az hJ fun ar=>?_;refine eE hJ mixed [7] (.pure 0 (.rd 1 (.rd 3 (.two 2 (.one 4 (.one 5 (.pure 6 (.last 7 .done)))) 4 (.one 2 (.one 5 (.pure 6 (.last 7 .done)))))))) ⟨ro,[(j,bz 29),(i,.cells #[.int .i64 a.aW,.bool a.bt] 76),(g,bk u0 s1 c d f)]⟩ (by simp only[*,go_sem]) (by kernel_rfl) ?_;simp only[*,go_sem];refine jY ?_ ?_
 ·revert h;refine bS fun a0 a2 h=>?_;simp only[*,go_sem];refine dJ hJ (aS:=[]) [(j,bz 29),(i,.cells #[.int .i64 a.aW,.bool a.bt] 76),(g,bk u0 s1 c d f)] [] _ (vS u0.told b.t a2) (fun cf a3 M m n a4=>?_);simp only[aV] at n;subst m;obtain ⟨d174,cl,rfl,cy⟩:=M.len;refine ⟨⟨ro,(j,bz 29)::(i,.cells #[.int .i64 a.aW,.bool a.bt] 76)::(g,bk u0 s1 c d f)::a3⟩,Le.refl _,?_⟩;refine ⟨by simp only[*,go_sem],bT ?_⟩;revert h;refine bS fun N a5 h=>?_;obtain ⟨a6,O⟩:=dr a5;try simp only[*,go_sem]
  refine aA fun D P Q=>?_;have a7:=aP.cons Q a4;try simp only[au] at Q
  try simp only[*,go_sem]
  refine ee (r:=c9) (l:=a0) (x:=a) (cs:=#[.int .i64 a.aW,.bool a.bt]) (e2:=76) [(D,.cells #[.int .i64 a.aW,.bool a.bt] 76),(j,bz 29),(i,.cells #[.int .i64 a.aW,.bool a.bt] 76),(g,bk u0 s1 c d f)] [] M a7 a6 rfl (by simp only[*,go_sem]) P rfl rfl er er hU ie rfl ia (by decide) (by decide) (fun cS a8 E m n c0=>?_);simp only[aV] at n;subst m;rw[<-O] at E;clear O;obtain ⟨d186,a9,rfl,da⟩:=E.len;refine ⟨⟨ro,(D,.cells #[.int .i64 a.aW,.bool a.bt] 76)::(j,bz 29)::(i,.cells #[.int .i64 a.aW,.bool a.bt] 76)::(g,bk u0 s1 c d f)::a8⟩,Le.refl _,?_⟩;refine ⟨by simp only[*,go_sem],bT ?_⟩;try simp only[*,go_sem]
  refine af hJ ?_;refine az hJ fun R=>?_;obtain ⟨db,F,B,S,ba⟩:=E.eY [(D,.cells #[.int .i64 a.aW,.bool a.bt] 76),(j,bz 29),(i,.cells #[.int .i64 a.aW,.bool a.bt] 76),(g,bk u0 s1 c d (sl d186 N a9))] [] R (aE.cons P (aE.cons z (aE.cons w (aE.cons u (aE.nil _)))));clear R;refine cG hJ ba ?_;obtain ⟨dd,df,-⟩:=S.op;replace b:=b.mono F;replace z:=B.tl.hd;replace w:=B.tl.tl.hd;replace u:=B.tl.tl.tl.hd;replace k:=k.mono F;simp only[bp] at B;refine aj hJ ?_;revert h;refine bS fun dk bb h=>?_;obtain rfl:=sI h;simp only[*,go_sem];refine b8 hJ _ (wM k (⟨u0.bG,u0.bO,u0.aY,u0.av,u0.props,u0.aG,N⟩:ak) ⟨b.e,b.p,b.y,S⟩ bb) fun v dp G C H=>?_;obtain ⟨dq,ds,dt,du,rfl,o⟩:=H;replace b:=b.mono G;replace z:=C.tl.hd;replace w:=C.tl.tl.hd;replace u:=C.tl.tl.tl.hd;replace k:=k.mono G;simp only[bp] at C;obtain ⟨d208,dv,rfl,dC,dE,-⟩:=id o.e;obtain ⟨d215,dT,rfl,ea,eb,-⟩:=id o.p;obtain ⟨d222,ec,rfl,ed,eh,-⟩:=id o.y;obtain ⟨d229,et,rfl,ev,eQ,-⟩:=id o.t;refine aK ?_;try simp only[*,go_sem]
  refine ay ?_;simp only[*,go_sem];exact ⟨_,(F).trans G,Le.sub (List.nil_sublist _),_,_,_,_,rfl,o⟩
 revert h;refine bS fun bc bd h=>?_;simp only[*,go_sem];refine aA fun q T U=>?_;have eS:=aP.cons U ar;try simp only[au] at U
 try simp only[*,go_sem]
 refine dJ hJ (aS:=[]) [(q,.cells #[.int .i64 a.aW,.bool a.bt] 76),(j,bz 29),(i,.cells #[.int .i64 a.aW,.bool a.bt] 76),(g,bk u0 s1 c d f)] [] _ (vS u0.told b.t bd) (fun e0 bj V m n bl=>?_);simp only[aV] at n;subst m;obtain ⟨e1,e3,rfl,fa⟩:=V.len;refine ⟨⟨ro,(q,.cells #[.int .i64 a.aW,.bool a.bt] 76)::(j,bz 29)::(i,.cells #[.int .i64 a.aW,.bool a.bt] 76)::(g,bk u0 s1 c d f)::bj⟩,Le.refl _,?_⟩;refine ⟨by simp only[*,go_sem],bT ?_⟩;revert h;refine bS fun W bm h=>?_;obtain ⟨bo,X⟩:=dr bm;try simp only[*,go_sem]
 refine ee (r:=c9) (l:=bc) (x:=a) (cs:=#[.int .i64 a.aW,.bool a.bt]) (e2:=76) [(q,.cells #[.int .i64 a.aW,.bool a.bt] 76),(j,bz 29),(i,.cells #[.int .i64 a.aW,.bool a.bt] 76),(g,bk u0 s1 c d f)] [] V bl bo rfl (by simp only[*,go_sem]) T rfl rfl er er hU ie rfl ia (by decide) (by decide) (fun fb br I m n fg=>?_);simp only[aV] at n;subst m;rw[<-X] at I;clear X;obtain ⟨bs,b0,rfl,fi⟩:=I.len;refine ⟨⟨ro,(q,.cells #[.int .i64 a.aW,.bool a.bt] 76)::(j,bz 29)::(i,.cells #[.int .i64 a.aW,.bool a.bt] 76)::(g,bk u0 s1 c d f)::br⟩,Le.refl _,?_⟩;refine ⟨by simp only[*,go_sem],bT ?_⟩;try simp only[*,go_sem]
 refine af hJ ?_;refine az hJ fun Y=>?_;obtain ⟨fp,K,b1,Z,b2⟩:=I.eY [(q,.cells #[.int .i64 a.aW,.bool a.bt] 76),(j,bz 29),(i,.cells #[.int .i64 a.aW,.bool a.bt] 76),(g,bk u0 s1 c d (sl bs W b0))] [] Y (aE.cons T (aE.cons z (aE.cons w (aE.cons u (aE.nil _)))));clear Y;refine cG hJ b2 ?_;obtain ⟨fr,fs,-⟩:=Z.op;replace b:=b.mono K;replace k:=k.mono K;simp only[bp] at b1;refine aj hJ ?_;revert h;refine bS fun ft b3 h=>?_;obtain rfl:=sI h;simp only[*,go_sem];refine b8 hJ _ (wM k (⟨u0.bG,u0.bO,u0.aY,u0.av,u0.props,u0.aG,W⟩:ak) ⟨b.e,b.p,b.y,Z⟩ b3) fun v fu b4 b5 H=>?_;obtain ⟨fv,fw,fx,gg,rfl,s⟩:=H;simp only[bp] at b5;obtain ⟨gl,gn,rfl,gp,gB,-⟩:=id s.e;obtain ⟨gC,gM,rfl,gT,gV,-⟩:=id s.p;obtain ⟨g0,g1,rfl,g2,g3,-⟩:=id s.y;obtain ⟨g4,ha,rfl,hc,hf,-⟩:=id s.t;refine aK ?_;try simp only[*,go_sem]
 refine ay ?_;simp only[*,go_sem];exact ⟨_,(K).trans b4,Le.sub (List.nil_sublist _),_,_,_,_,rfl,s⟩
def wT (u0:ak)(c:Int)(a:c6):Option (ak×Int):=
 ag (eU u0 ([(eK c)])) fun e=>cond ((e.2 != 0)) (some ((⟨0,0,(⟨0,0⟩:an),([]:(List bY)),([]:(List bN)),([]:(List b6)),([]:(List bU))⟩:ak),e.2)) (ag (pS a 0 60) fun g=>cond (!g) (some ((⟨0,0,(⟨0,0⟩:an),([]:(List bY)),([]:(List bN)),([]:(List b6)),([]:(List bU))⟩:ak),1)) (ag (sJ u0.aG) fun d=>ag (bf d c) fun b=>cond (decide ((if a.high<b.high.high then a.high else b.high.high)<(if b.high.low<a.low then a.low else b.high.low))) (some ((⟨0,0,(⟨0,0⟩:an),([]:(List bY)),([]:(List bN)),([]:(List b6)),([]:(List bU))⟩:ak),9)) (ag (bf d c) fun h=>ag (sW (⟨u0.bG,u0.bO,u0.aY,u0.av,u0.props,(d.set (c).toNat (⟨h.back,(⟨(if b.high.low<a.low then a.low else b.high.low),(if a.high<b.high.high then a.high else b.high.high)⟩:c6)⟩:b6)),u0.told⟩:ak)) fun f=>some (f.1,f.2))))
theorem A1 {ro:Addr->Option Value}(g:c7 ro)(u0:ak){s1 k q l:Value}(f:bK ro u0 s1 k q l)(d:Int)(a:c6){r:(ak×Int)}(h:wT u0 d a=some r):eI Tryz.prog 17 #[bv u0 s1 k q l,.int .i64 d,.agg #[.int .i64 a.low,.int .i64 a.high]] ro (fun v aM=>∃U w1 w2 w3,v= .tuple #[bv r.1 U w1 w2 w3,.int .i64 r.2]/\bK aM r.1 U w1 w2 w3):=by
 unfold wT at h;have ba:=f.oc;simp only[bE] at ba;refine aD.go Tryz.func17 rfl Tryz.ntmps17 Tryz.results17 (by simp) fun main J hJ A bb hd hs=>?_;have bc:=hs 0;have k1:=hs 1;have bd:=hs 2;clear hs;refine ah hJ ?_;simp only[*,go_sem];refine aA fun w z bj=>?_;try simp only[au] at bj
 refine aA fun B C bm=>?_;try simp only[au] at bm
 refine aA fun D E bo=>?_;try simp only[au] at bo
 try simp only[*,go_sem]
 refine af hJ (af hJ ?_);refine az hJ fun br=>?_;refine aj hJ ?_;revert h;refine bS fun K bs h=>?_;simp only[*,go_sem];refine aA fun s V W=>?_;have X:=aP.cons W br;try simp only[au] at W
 try simp only[*,go_sem]
 obtain ⟨j,u,Y⟩:=fO (b:=s) (o:=(.cells #[.func (.func 68) #[.int .i64 d] #[]] 127)) [] ((D,bz 29)::(B,.cells #[.int .i64 a.low,.int .i64 a.high] 39)::(w,bk u0 s1 k q l)::[]) X V (aE.cons E (aE.cons C (aE.cons z (aE.nil _))));have Z:aC (cZ) (bR ro s (.cells #[.func (.func 68) #[.int .i64 d] #[]] 127)) (.slice (some ⟨s,0,none⟩) 1 1) [(eK d)]:=(aC.one (r:=(cZ)) (e:=127) (cs:=#[.func (.func 68) #[.int .i64 d] #[]]) (x:=(eK d)) (own:=[(s,.cells #[.func (.func 68) #[.int .i64 d] #[]] 127)]) V (by simp[lk]) ⟨68,#[.int .i64 d],#[],rfl,⟨by simp only[go_sem],fun fa fb b0 _ _ _ _ _ b1 b2 b3 b4 h=>by simp only[go_sem];exact r5 d b0 ⟨b1,b2,b3,b4⟩ h⟩⟩)
 generalize bR ro s (.cells #[.func (.func 68) #[.int .i64 d] #[]] 127)=fg at Z u j Y;refine gO hJ Y ?_;replace f:=f.mono j;replace E:=u.hd;replace C:=u.tl.hd;replace z:=u.tl.tl.hd;replace g:=g.mono j;simp only[bp] at u;have b5:=aP.tl X;refine b8 hJ _ (j6 g u0 f ([(eK d)]) Z bs) fun v ab m F L=>?_;obtain ⟨M,N,O,P,rfl,ca⟩:=L;have cb:=ca.oc;simp only[bE] at cb;replace f:=f.mono m;replace E:=F.hd;replace C:=F.tl.hd;replace z:=F.tl.tl.hd;replace g:=g.mono m;simp only[bp] at F;refine aK ?_;try simp only[*,go_sem]
 refine aA fun Q cd ad=>?_;have fi:=aP.cons ad b5;try simp only[au] at ad
 try simp only[*,go_sem]
 refine ah hJ ?_;simp only[*,go_sem];revert h;refine jC hJ (by simp only[*,go_sem]) (fun cf h=>?_) fun cf h=>?_
 ·obtain rfl:=sI h;refine ah hJ ?_;simp only[*,go_sem];refine ay ?_;simp only[*,go_sem];exact ⟨_,(j).trans m,Le.sub (List.nil_sublist _),_,_,_,_,rfl,⟨aC.nil _ _,aC.nil _ _,aC.nil _ _,aC.nil _ _⟩⟩
 refine aI hJ (af hJ ?_);refine ah hJ ?_;revert h;refine bS fun fp cl h=>?_;simp only[*,go_sem];refine bn hJ _ (AJ a 0 60 cl) (aK ?_);try simp only[*,go_sem]
 revert h;refine jC hJ (by simp only[*,go_sem]) (fun cy h=>?_) fun cy h=>?_
 ·obtain rfl:=sI h;refine ah hJ ?_;simp only[*,go_sem];refine ay ?_;simp only[*,go_sem];exact ⟨_,(j).trans m,Le.sub (List.nil_sublist _),_,_,_,_,rfl,⟨aC.nil _ _,aC.nil _ _,aC.nil _ _,aC.nil _ _⟩⟩
 refine aI hJ (af hJ ?_);refine az hJ fun fr=>?_;refine aj hJ ?_;revert h;refine bS fun G cS h=>?_;simp only[*,go_sem];refine dJ hJ (aS:=[]) [(Q,bl K.1 M N O P),(D,bz 29),(B,.cells #[.int .i64 a.low,.int .i64 a.high] 39),(w,bk u0 s1 k q l)] [] _ (AQ u0.aG f.y cS) (fun fs c0 H da db ft=>?_);simp only[aV] at db;subst da;obtain ⟨d87,ae,rfl,fu⟩:=H.len;refine ⟨⟨ab,(Q,bl K.1 M N O P)::(D,bz 29)::(B,.cells #[.int .i64 a.low,.int .i64 a.high] 39)::(w,bk u0 s1 k q l)::c0⟩,Le.refl _,?_⟩;refine aK ?_;try simp only[*,go_sem]
 refine af hJ ?_;refine az hJ fun al=>?_;refine aj hJ ?_;revert h;refine bS fun c dd h=>?_;obtain ⟨fv,fw,df⟩:=cH dd;obtain ⟨R,dk,dp,rfl,rfl,fx,dq,S⟩:=H.Ar df;obtain rfl:dp=c.cells:=dq;have ds:=al.nd;simp only[keys,List.map_cons,List.map_nil,List.map_append,List.cons_append,List.nil_append,List.nodup_cons,List.mem_cons,List.mem_append,List.not_mem_nil,or_false,not_or] at ds;have ao:=S 0 _ rfl;simp only[go_sem] at ao;have gg:=(Array.getElem?_eq_some_iff.1 ao).1;have ar:=S 1 _ rfl;simp only[go_sem] at ar;have gl:=(Array.getElem?_eq_some_iff.1 ar).1;have a0:=S 2 _ rfl;simp only[go_sem] at a0;have gn:=(Array.getElem?_eq_some_iff.1 a0).1;try simp only[*,go_sem]
 refine aA fun dt du a2=>?_;have gp:=aP.cons a2 al;try simp only[au] at a2
 try simp only[*,go_sem]
 refine af hJ ?_;refine ff [1,3,5,6,7,10] fun gB dv dC dE=>?_;simp only[*,go_sem] at dv dC dE;clear bb hd bc k1 bd;refine az hJ fun dT=>?_;refine aj hJ ?_;simp only[*,go_sem];refine aA fun ea eb a3=>?_;have gC:=aP.cons a3 dT;try simp only[au] at a3
 try simp only[*,go_sem]
 refine af hJ (af hJ ?_);refine az hJ fun gM=>?_;refine aj hJ ?_;simp only[*,go_sem];revert h;refine jC hJ (by simp only[*,go_sem]) (fun ec h=>?_) fun ec h=>?_
 ·obtain rfl:=sI h;refine af hJ ?_;refine az hJ fun gT=>?_;refine aj hJ ?_;simp only[*,go_sem];refine ay ?_;simp only[*,go_sem];exact ⟨_,(j).trans m,Le.sub (List.nil_sublist _),_,_,_,_,rfl,⟨aC.nil _ _,aC.nil _ _,aC.nil _ _,aC.nil _ _⟩⟩
 refine aI hJ (af hJ ?_);refine az hJ fun gV=>?_;refine aj hJ ?_;revert h;refine bS fun i ed h=>?_;obtain ⟨g0,g1,a4⟩:=cH ed;obtain ⟨eh,et,I⟩:=H.iQ a4;obtain rfl:eh=i.cells:=et;have a5:=I 0 _ rfl;simp only[go_sem] at a5;have g2:=(Array.getElem?_eq_some_iff.1 a5).1;have a6:=I 1 _ rfl;simp only[go_sem] at a6;have g3:=(Array.getElem?_eq_some_iff.1 a6).1;have a7:=I 2 _ rfl;simp only[go_sem] at a7;have g4:=(Array.getElem?_eq_some_iff.1 a7).1;have ev:aO eT ab 41 (.slice (some ⟨R,0,none⟩) G.length ae) (G.set (d).toNat (⟨i.back,(⟨(if c.high.low<a.low then a.low else c.high.low),(if a.high<c.high.high then a.high else c.high.high)⟩:c6)⟩:b6)) [(R,Obj.cells (cI dk ((d).toNat*3+1) [.int .i64 (if c.high.low<a.low then a.low else c.high.low),.int .i64 (if a.high<c.high.high then a.high else c.high.high)]) 41)]:=by have hh:=H.part (y:=(⟨i.back,(⟨(if c.high.low<a.low then a.low else c.high.low),(if a.high<c.high.high then a.high else c.high.high)⟩:c6)⟩:b6)) a4 1 [.int .i64 (if c.high.low<a.low then a.low else c.high.low),.int .i64 (if a.high<c.high.high then a.high else c.high.high)] [.int .i64 i.back,.int .i64 i.high.low,.int .i64 i.high.high] [.int .i64 i.back,.int .i64 (if c.high.low<a.low then a.low else c.high.low),.int .i64 (if a.high<c.high.high then a.high else c.high.high)] I rfl rfl (by simp) rfl;exact hh
 try simp only[*,go_sem]
 refine af hJ ?_;refine az hJ fun a8=>?_;obtain ⟨ha,T,eQ,a9,eS⟩:=ev.eY [(ea,.cells #[.int .i64 (if c.high.low<a.low then a.low else c.high.low),.int .i64 (if a.high<c.high.high then a.high else c.high.high)] 39),(dt,.cells #[.int .i64 c.high.low,.int .i64 c.high.high] 39),(Q,bl K.1 M N O P),(D,bz 29),(B,.cells #[.int .i64 a.low,.int .i64 a.high] 39),(w,bk u0 s1 k (sl (some ⟨R,0,none⟩) G ae) l)] [] a8 (aE.cons eb (aE.cons du (aE.cons cd (aE.cons E (aE.cons C (aE.cons z (aE.nil _)))))));clear a8;refine cG hJ eS ?_;obtain ⟨hc,hf,-⟩:=a9.op;replace f:=f.mono T;replace g:=g.mono T;simp only[bp] at eQ;refine aj hJ ?_;revert h;refine bS fun hg e0 h=>?_;obtain rfl:=sI h;simp only[*,go_sem];refine b8 hJ _ (wM g (⟨u0.bG,u0.bO,u0.aY,u0.av,u0.props,(G.set (d).toNat (⟨i.back,(⟨(if c.high.low<a.low then a.low else c.high.low),(if a.high<c.high.high then a.high else c.high.high)⟩:c6)⟩:b6)),u0.told⟩:ak) ⟨f.e,f.p,a9,f.t⟩ e0) fun v hi e1 e2 L=>?_;obtain ⟨hj,hk,hl,hn,rfl,n⟩:=L;have e3:=n.oc;simp only[bE] at e3;simp only[bp] at e2;obtain ⟨d130,ho,rfl,hp,hq,-⟩:=id n.e;obtain ⟨d137,hr,rfl,ht,hv,-⟩:=id n.p;obtain ⟨d144,hx,rfl,hy,hz,-⟩:=id n.y;obtain ⟨d151,hA,rfl,hB,hD,-⟩:=id n.t;refine aK ?_;try simp only[*,go_sem]
 refine ay ?_;simp only[*,go_sem];exact ⟨_,(((j).trans m).trans T).trans e1,Le.sub (List.nil_sublist _),_,_,_,_,rfl,n⟩
def A2 (i43:Nat)(a:(List Int))(st:(List Int)):Option (Fl (List Int) (List Int)):=
 ag (cY st a) fun b=>some (.nx b)
def qj (i9:Nat)(a:(List Int))(st:Int):Option (Fl Int (List Int)):=
 cond (decide ((IntKind.i64.wrap (st+(a.length:Int)))<0)) (none) (some (.nx (IntKind.i64.wrap (st+(a.length:Int)))))
def wU (i109:Nat)(a:(List Int))(st:(List Int)):Option (Fl (List Int) (List Int)):=
 ag (cY st a) fun b=>some (.nx b)
def qk (u0:(List (List Int))):Option (List Int):=
 ag (bB (qj) 0 u0 0) fun o=>aB o (fun a=>ag (sV a) fun b=>ag (bB (wU) 0 u0 b) fun o=>aB o (fun c=>some c) (fun _ _=>none) (fun r=>some r)) (fun _ _=>none) (fun r=>some r)
theorem He {ro:Addr->Option Value}(u0:(List (List Int))){s1:Value}(g:aC (rL rI) ro s1 u0){r:(List Int)}(h:qk u0=some r):eI Tryz.prog 98 #[s1] ro (fun v aM=>∃s,v=s/\aC rI aM s r):=by
 obtain ⟨d3,c4,rfl,bz,t,-⟩:=id g;unfold qk at h;refine aD.go Tryz.func98 rfl Tryz.ntmps98 Tryz.results98 (by simp) fun main J hJ A P hd hs=>?_;have Q:=hs 0;clear hs;refine ah hJ ?_;simp only[*,go_sem];refine ah hJ ?_;simp only[*,go_sem];refine af hJ (ah hJ ?_);simp only[*,go_sem];refine aN hJ ?_;revert h;refine bS fun R a S=>?_;refine bQ hJ [3,5,11,12,13,14,15,16,17,18,19,20,21,22] (fun m d F'=>∃(i9:Nat) (e:Int),m=u0.length - i9/\i9<=u0.length/\bB (qj) i9 (u0.drop i9) e=some R/\F'=⟨ro,[]⟩/\slot d 11= .int .i64 (i9:Int)/\slot d 3= .int .i64 e) u0.length ?_ ?_
 ·refine ⟨0,0,(Nat.sub_zero _).symm,Nat.zero_le _,a,rfl,?_⟩;simp only[*,go_sem]
 rintro b0 b1 F' u ⟨i9,e,rfl,b2,a,rfl,T,U⟩;obtain ⟨w,y,z⟩:=u.pick [0,2,9,10] (by decide);simp only[*,go_sem] at w y z;clear u P hd Q;refine ah hJ ?_;simp only[*,go_sem];refine af hJ ?_;rcases Nat.lt_or_ge i9 u0.length with V|B
 ·refine bP hJ (by simp only[*,go_sem]) ?_;refine aI hJ ?_;obtain ⟨W,i⟩:∃x,u0[i9]?=some x:=⟨_,List.getElem?_eq_getElem V⟩
  rw[c8 i] at a;revert a;refine bS fun b3 h X=>?_;unfold qj at h;try dsimp only at h
  obtain ⟨b4,b5,Y,Z,C⟩:=g.el _ _ i;obtain ⟨ca,rfl,ab⟩:=Z;obtain ⟨d18,cb,rfl,cd,cf,cl⟩:=id ab;cases Y;have ad:=C 0 _ rfl;simp only[go_sem] at ad;clear C i;refine af hJ (aN hJ (af hJ ?_));refine aj hJ ?_;simp only[*,go_sem];refine ah hJ ?_;simp only[*,go_sem];refine ah hJ ?_;simp only[*,go_sem];revert h;refine jC hJ (by simp only[*,go_sem]) (fun ae h=>?_) fun ae h=>?_
  ·refine aj hJ ?_;cases h
  obtain rfl:=sI h;refine aI hJ ?_;have cy:=cq (n:=i9) (by have:=t;omega);refine aj hJ ?_;simp only[*,go_sem];refine ⟨u0.length - (i9+1),by omega,_,Le.sub (List.Sublist.refl _),i9+1,(IntKind.i64.wrap (e+(W.length:Int))),rfl,by omega,X,rfl,?_⟩;simp only[*,go_sem]
 have cS:=Nat.not_lt.2 B;refine bM hJ (by simp only[*,go_sem]) ?_;rw[List.drop_eq_nil_of_le B] at a;obtain rfl:=sI a;clear a;have h:=S;dsimp only[aB] at h;refine bJ ?_;simp only[go_sem];refine af hJ ?_;refine az hJ fun c0=>?_;refine aj hJ ?_;revert h;refine bS fun al ao h=>?_;simp only[*,go_sem];refine dJ hJ (aS:=[]) [] [] _ (G4 e ao) (fun da D E j k db=>?_);simp only[aV] at k;subst j;obtain ⟨d32,ar,rfl,a0⟩:=E.len;refine ⟨⟨ro,D⟩,Le.refl _,?_⟩;refine aK ?_;try simp only[*,go_sem]
 refine af hJ (af hJ ?_);refine az hJ fun dd=>?_;refine aj hJ ?_;simp only[*,go_sem];refine aN hJ ?_;revert h;refine bS fun a2 b a3=>?_;refine bQ hJ [6,8,27,28,29,30,31,32,33,34] (fun m d F'=>∃(i43:Nat) (d38:Option Addr) (f:Nat) (o:List (Nat×Obj)) (c:(List Int)),m=u0.length - i43/\i43<=u0.length/\bB (A2) i43 (u0.drop i43) c=some a2/\F'=⟨ro,o⟩/\aO rI ro 3 (.slice d38 c.length f) c o/\c.length<=f/\slot d 27= .int .i64 (i43:Int)/\slot d 6= .slice d38 c.length f) u0.length ?_ ?_
 ·refine ⟨0,d32,ar,D,al,(Nat.sub_zero _).symm,Nat.zero_le _,b,rfl,E,a0,?_⟩;simp only[*,go_sem]
 rintro df dk F' F ⟨i43,d38,f,o,c,rfl,dp,b,rfl,G,dq,ds,dt⟩;obtain ⟨a4,a5,a6⟩:=F.pick [2,25,26] (by decide);simp only[*,go_sem] at a4 a5 a6;clear F w y z U T;refine ah hJ ?_;simp only[*,go_sem];refine af hJ ?_;rcases Nat.lt_or_ge i43 u0.length with a7|H
 ·refine bP hJ (by simp only[*,go_sem]) ?_;refine aI hJ ?_;obtain ⟨a8,p⟩:∃x,u0[i43]?=some x:=⟨_,List.getElem?_eq_getElem a7⟩
  rw[c8 p] at b;revert b;refine bS fun du h a9=>?_;unfold A2 at h;try dsimp only at h
  obtain ⟨dv,dC,ba,bb,I⟩:=g.el _ _ p;obtain ⟨dE,rfl,K⟩:=bb;obtain ⟨d52,dT,rfl,ea,eb,ec⟩:=id K;cases ba;have bc:=I 0 _ rfl;simp only[go_sem] at bc;clear I p;refine af hJ (aN hJ (af hJ ?_));refine az hJ fun ed=>?_;refine aj hJ ?_;simp only[*,go_sem];refine az hJ fun bd=>?_;refine aj hJ ?_;revert h;refine bS fun bj bk h=>?_;obtain rfl:=sI h;obtain ⟨bl,L⟩:=dr bk;simp only[*,go_sem];refine pQ (r:=rI) (l:=c) (xs:=a8) [] [] G bd bl K rfl rfl fM fM kL kN rfl kM (by decide) (by decide) (fun eh M q j k et=>?_);simp only[aV] at k;subst j;rw[<-L] at q;clear L;obtain ⟨d66,bm,rfl,bo⟩:=q.len;refine ⟨⟨ro,M⟩,Le.refl _,?_⟩;refine aK ?_;try simp only[*,go_sem]
  have ev:=cq (n:=i43) (by have:=t;omega);refine aj hJ ?_;simp only[*,go_sem];refine ⟨u0.length - (i43+1),by omega,_,Le.sub (List.Sublist.refl _),i43+1,d66,bm,M,bj,rfl,by omega,a9,rfl,q,bo,?_⟩;simp only[*,go_sem]
 have eQ:=Nat.not_lt.2 H;refine bM hJ (by simp only[*,go_sem]) ?_;rw[List.drop_eq_nil_of_le H] at b;obtain rfl:=sI b;clear b;have h:=a3;dsimp only[aB] at h;obtain rfl:=sI h;refine bJ ?_;simp only[go_sem];refine af hJ ?_;refine az hJ fun eS=>?_;refine aj hJ ?_;simp only[*,go_sem];refine az hJ fun N=>?_;obtain ⟨e0,br,e1,O,bs⟩:=G.eY [] [] N (aE.nil _);clear N;refine cG hJ bs ?_;obtain ⟨e2,e3,-⟩:=O.op;refine ay ?_;simp only[*,go_sem];exact ⟨_,br,Le.sub (List.nil_sublist _),_,rfl,O⟩
def nL (a:Int)(i44:Nat)(b:aX)(st:(List Int)):Option (Fl (List Int) (List Int)):=
 ag (aX.get b a) fun c=>ag (cY st ([c])) fun d=>some (.nx d)
def k4 (u0:cR)(a:Int):Option (List Int):=
 ag (bB (nL a) 0 u0.all ([]:List Int)) fun o=>aB o (fun b=>ag (qh b) fun c=>ag (sU c.2) fun d=>some d) (fun _ _=>none) (fun r=>some r)
theorem s4 {ro:Addr->Option Value}(u0:cR){s1 a b c:Value}(b3:bK ro u0.book s1 a b c){y:Value}(z:aC gP ro y u0.all)(s:Int){r:(List Int)}(h:k4 u0 s=some r):eI Tryz.prog 69 #[.agg #[.int .i64 u0.book.bG,.int .i64 u0.book.bO,.int .i64 u0.book.aY.num,.int .i64 u0.book.aY.den,s1,a,b,c,y],.int .i64 s] ro (fun v aM=>∃B,v=B/\aC rI aM B r):=by
 obtain ⟨d31,d,rfl,b4,R,-⟩:=id z;unfold k4 at h;refine aD.go Tryz.func69 rfl Tryz.ntmps69 Tryz.results69 (by simp) fun main J hJ A S hd hs=>?_;have T:=hs 0;have k1:=hs 1;clear hs;refine ah hJ ?_;simp only[*,go_sem];refine aA fun e U V=>?_;try simp only[au] at V
 try simp only[*,go_sem]
 refine ah hJ ?_;simp only[*,go_sem];refine af hJ (ah hJ ?_);simp only[*,go_sem];refine aN hJ ?_;revert h;refine bS fun W g X=>?_;refine bQ hJ [5,7,11,12,13,14,15,16,17,18,19,20,21] (fun m C F'=>∃(i44:Nat) (d38:Option Addr) (o:Nat) (t:List (Nat×Obj)) (f:(List Int)),m=u0.all.length - i44/\i44<=u0.all.length/\bB (nL s) i44 (u0.all.drop i44) f=some W/\F'=⟨ro,(e,kn u0 s1 a b c (sl d31 u0.all d))::t⟩/\aO rI ro 3 (.slice d38 f.length o) f t/\f.length<=o/\slot C 11= .int .i64 (i44:Int)/\slot C 5= .slice d38 f.length o) u0.all.length ?_ ?_
 ·refine ⟨0,none,0,[],([]:List Int),(Nat.sub_zero _).symm,Nat.zero_le _,g,rfl,aO.nil _ _ _,Nat.le_refl _,?_⟩;simp only[*,go_sem]
 rintro b5 ca F' D ⟨i44,d38,o,t,f,rfl,cb,g,rfl,E,cd,cf,cl⟩;obtain ⟨Y,Z,ab⟩:=D.pick [1,4,9,10] (by decide);simp only[*,go_sem] at Y Z ab;clear D S hd T k1;refine ah hJ ?_;simp only[*,go_sem];refine af hJ ?_;rcases Nat.lt_or_ge i44 u0.all.length with ad|F
 ·refine bP hJ (by simp only[*,go_sem]) ?_;refine aI hJ ?_;obtain ⟨i,u⟩:∃x,u0.all[i44]?=some x:=⟨_,List.getElem?_eq_getElem ad⟩
  rw[c8 u] at g;revert g;refine bS fun cy h ae=>?_;unfold nL at h;try dsimp only at h
  obtain ⟨G,al,ao,ar,p⟩:=z.el _ _ u;obtain rfl:al=i.cells:=ar;cases ao;have a0:=p 0 _ rfl;simp only[go_sem] at a0;have a2:=p 1 _ rfl;simp only[go_sem] at a2;have a3:=p 2 _ rfl;simp only[go_sem] at a3;clear p u;refine af hJ (aN hJ (af hJ ?_));refine az hJ fun a4=>?_;refine aj hJ ?_;simp only[*,go_sem];refine aA fun H cS I=>?_;have c0:=aP.cons I a4;try simp only[au] at I
  try simp only[*,go_sem]
  refine az hJ fun a5=>?_;refine aj hJ ?_;revert h;refine bS fun q a6 h=>?_;obtain ⟨da,db,a7⟩:=aX.get_some a6;try simp only[go_sem] at a7
  revert h;refine bS fun a8 a9 h=>?_;obtain rfl:=sI h;obtain ⟨ba,K⟩:=dr a9;try simp only[*,go_sem]
  refine aA fun L bb M=>?_;have bc:=aP.cons M a5;try simp only[au] at M
  try simp only[*,go_sem]
  refine ee (r:=rI) (l:=f) (x:=q) (cs:=#[.int .i64 q]) (e2:=3) [(L,ic q),(H,.cells #[.int .i64 i.e0,.int .i64 i.e1,.int .i64 i.e2] 121),(e,kn u0 s1 a b c (sl (some G) u0.all d))] [] E bc ba rfl (by simp only[*,go_sem]) bb rfl rfl fM fM kL kN rfl kM (by decide) (by decide) (fun dd N w j k df=>?_);simp only[aV] at k;subst j;rw[<-K] at w;clear K;obtain ⟨d66,bd,rfl,bj⟩:=w.len;refine ⟨⟨ro,(L,ic q)::(H,.cells #[.int .i64 i.e0,.int .i64 i.e1,.int .i64 i.e2] 121)::(e,kn u0 s1 a b c (sl (some G) u0.all d))::N⟩,Le.refl _,?_⟩;refine aK ?_;try simp only[*,go_sem]
  have dk:=cq (n:=i44) (by have:=R;omega);refine aj hJ ?_;simp only[*,go_sem];refine ⟨u0.all.length - (i44+1),by omega,_,Le.sub (List.Sublist.cons _ (List.Sublist.cons _ (List.Sublist.refl _))),i44+1,d66,bd,N,a8,rfl,by omega,ae,rfl,w,bj,?_⟩;simp only[*,go_sem]
 have dp:=Nat.not_lt.2 F;refine bM hJ (by simp only[*,go_sem]) ?_;rw[List.drop_eq_nil_of_le F] at g;obtain rfl:=sI g;clear g;have h:=X;dsimp only[aB] at h;refine bJ ?_;simp only[go_sem];refine af hJ ?_;refine az hJ fun dq=>?_;refine aj hJ ?_;revert h;refine bS fun bk bl h=>?_;simp only[*,go_sem];refine dJ hJ [(e,kn u0 s1 a b c (sl d31 u0.all d))] [] _ (G1 f E bl) (fun ds bm bo j k dt=>?_);obtain ⟨rfl,br⟩:=bo;simp only[aV] at k;subst j;refine ⟨⟨ro,(e,kn u0 s1 a b c (sl d31 u0.all d))::bm⟩,Le.refl _,?_⟩;try simp only[*,go_sem]
 refine af hJ ?_;refine az hJ fun du=>?_;refine aj hJ ?_;revert h;refine bS fun dv bs h=>?_;obtain rfl:=sI h;simp only[*,go_sem];refine dJ hJ [(e,kn u0 s1 a b c (sl d31 u0.all d))] [] _ (G2 bk.2 br bs) (fun dC bz O j k dE=>?_);simp only[aV] at k;subst j;obtain ⟨d83,dT,rfl,ea⟩:=O.len;refine ⟨⟨ro,(e,kn u0 s1 a b c (sl d31 u0.all d))::bz⟩,Le.refl _,?_⟩;refine aK ?_;try simp only[*,go_sem]
 refine az hJ fun P=>?_;obtain ⟨eb,b0,b1,Q,b2⟩:=O.eY [(e,kn u0 s1 a b c (sl d31 u0.all d))] [] P (aE.cons U (aE.nil _));clear P;refine cG hJ b2 ?_;obtain ⟨ec,ed,-⟩:=Q.op;simp only[bp] at b1;refine ay ?_;simp only[*,go_sem];exact ⟨_,b0,Le.sub (List.nil_sublist _),_,rfl,Q⟩
def k5 (u0:cR)(i47:Nat)(i75:Nat)(b:Int)(st:(List aQ)):Option (Fl (List aQ) (List aQ)):=
 ag (iU u0.book (i47:Int) b) fun a=>ag (p8 st a) fun c=>cond (!c) (ag (cY st ([a])) fun d=>some (.nx d)) (some (.nx st))
def ql (u0:cR)(i47:Nat)(c:b6)(st:(List aQ)):Option (Fl (List aQ) (List aQ)):=
 ag (k4 u0 (i47:Int)) fun a=>ag (bB (k5 u0 i47) 0 a st) fun o=>aB o (fun b=>some (.nx b)) (fun _ _=>none) (fun r=>some (.rt r))
def nM (u0:cR):Option (List aQ):=
 ag (bB (ql u0) 0 u0.book.aG ([]:List aQ)) fun o=>aB o (fun a=>some a) (fun _ _=>none) (fun r=>some r)
theorem A3 {ro:Addr->Option Value}(u0:cR){s1 c R d:Value}(e:bK ro u0.book s1 c R d){f:Value}(H:aC gP ro f u0.all){r:(List aQ)}(h:nM u0=some r):eI Tryz.prog 85 #[.agg #[.int .i64 u0.book.bG,.int .i64 u0.book.bO,.int .i64 u0.book.aY.num,.int .i64 u0.book.aY.den,s1,c,R,d,f]] ro (fun v aM=>∃S,v=S/\aC iR aM S r):=by
 obtain ⟨d17,o,rfl,e0,a8,-⟩:=id e.y;unfold nM at h;refine aD.go Tryz.func85 rfl Tryz.ntmps85 Tryz.results85 (by simp) fun main J hJ A a9 hd hs=>?_;have ba:=hs 0;clear hs;refine ah hJ ?_;simp only[*,go_sem];refine aA fun p I bb=>?_;try simp only[au] at bb
 try simp only[*,go_sem]
 refine ah hJ ?_;simp only[*,go_sem];refine af hJ (ah hJ ?_);simp only[*,go_sem];refine aN hJ ?_;revert h;refine bS fun bc i bd=>?_;refine bQ hJ [3,4,6,7,13,14,15,16,17,18,19,20,21,22,23,24,25,26,27,28,29,30,31,32,33,34,35,36,37,38] (fun m s F'=>∃(i47:Nat) (w:Addr->Option Value) (d38:Option Addr) (t:Nat) (z:List (Nat×Obj)) (j:(List aQ)),m=u0.book.aG.length - i47/\i47<=u0.book.aG.length/\bB (ql u0) i47 (u0.book.aG.drop i47) j=some bc/\F'=⟨w,(p,kn u0 s1 c (sl d17 u0.book.aG o) d f)::z⟩/\Ext ro w/\aO iR w 134 (.slice d38 j.length t) j z/\j.length<=t/\slot s 13= .int .i64 (i47:Int)/\slot s 3= .slice d38 j.length t) u0.book.aG.length ?_ ?_
 ·refine ⟨0,ro,none,0,[],([]:List aQ),(Nat.sub_zero _).symm,Nat.zero_le _,i,rfl,Ext.refl _,aO.nil _ _ _,Nat.le_refl _,?_⟩;simp only[*,go_sem]
 rintro e1 bj F' T ⟨i47,w,d38,t,z,j,rfl,e3,i,rfl,B,C,bk,bl,bm⟩;refine fP hJ fun _ U=>?_;replace e:=e.mono B;replace H:=H.mono B;replace I:=U.hd;simp only[bp] at U;obtain ⟨V,W,X⟩:=T.pick [1,2,12] (by decide);simp only[*,go_sem] at V W X;clear T a9 hd ba;refine ah hJ ?_;simp only[*,go_sem];refine af hJ ?_;rcases Nat.lt_or_ge i47 u0.book.aG.length with bo|Y
 ·refine bP hJ (by simp only[*,go_sem]) ?_;refine aI hJ ?_;obtain ⟨br,K⟩:∃x,u0.book.aG[i47]?=some x:=⟨_,List.getElem?_eq_getElem bo⟩
  rw[c8 K] at i;revert i;refine bS fun fa h bs=>?_;unfold ql at h;try dsimp only at h
  obtain ⟨D,bz,b0,b1,E⟩:=e.y.el _ _ K;obtain rfl:bz=br.cells:=b1;cases b0;have b2:=E 0 _ rfl;simp only[go_sem] at b2;have b3:=E 1 _ rfl;simp only[go_sem] at b3;have b4:=E 2 _ rfl;simp only[go_sem] at b4;clear E K;refine af hJ (aN hJ (af hJ ?_));refine az hJ fun fb=>?_;refine aj hJ ?_;simp only[*,go_sem];refine af hJ ?_;refine az hJ fun fg=>?_;refine aj hJ ?_;revert h;refine bS fun g b5 h=>?_;simp only[*,go_sem];refine b8 hJ _ (s4 u0 e H (i47:Int) b5) fun v F L M ca=>?_;obtain ⟨fi,rfl,Z⟩:=ca;replace e:=e.mono L;replace I:=M.hd;replace C:=C.mono L M.tl;simp only[bp] at M;obtain ⟨d64,fp,rfl,fr,ab,-⟩:=id Z;refine aK ?_;try simp only[*,go_sem]
  refine aN hJ ?_;revert h;refine bS fun cb k cd=>?_;refine bQ hJ [3,6,7,20,21,22,23,24,25,26,27,28,29,30,31,32,33,34,35,36,37] (fun m s F'=>∃(i75:Nat) (d70:Option Addr) (q:Nat) (u:List (Nat×Obj)) (b:(List aQ)),m=g.length - i75/\i75<=g.length/\bB (k5 u0 i47) i75 (g.drop i75) b=some cb/\F'=⟨F,(p,kn u0 s1 c (sl (some D) u0.book.aG o) d f)::u⟩/\aO iR F 134 (.slice d70 b.length q) b u/\b.length<=q/\slot s 20= .int .i64 (i75:Int)/\slot s 3= .slice d70 b.length q) g.length ?_ ?_
  ·refine ⟨0,d38,t,z,j,(Nat.sub_zero _).symm,Nat.zero_le _,k,rfl,C,bk,?_⟩;simp only[*,go_sem]
  rintro fs cf F' N ⟨i75,d70,q,u,b,rfl,ft,k,rfl,G,ad,fu,fv⟩;obtain ⟨cl,cy,cS⟩:=N.pick [1,2,4,12,13,14,15,16,17,18,19] (by decide);simp only[*,go_sem] at cl cy cS;have fw:cE [3,4,6,7,13,14,15,16,17,18,19,20,21,22,23,24,25,26,27,28,29,30,31,32,33,34,35,36,37,38] cf bj:=(N.fK (by decide)).trans (by simp only[*,go_sem]);clear N V W X bm bl;refine ah hJ ?_;simp only[*,go_sem];refine af hJ ?_;rcases Nat.lt_or_ge i75 g.length with c0|ae
  ·refine bP hJ (by simp only[*,go_sem]) ?_;refine aI hJ ?_;obtain ⟨al,O⟩:∃x,g[i75]?=some x:=⟨_,List.getElem?_eq_getElem c0⟩
   rw[c8 O] at k;revert k;refine bS fun fx h ao=>?_;unfold k5 at h;(try dsimp only at h);obtain ⟨gg,da,db,dd,ar⟩:=Z.el _ _ O;obtain rfl:da=[.int .i64 al]:=dd;cases db;have df:=ar 0 _ rfl;simp only[go_sem] at df;clear ar O;refine af hJ (aN hJ (af hJ ?_));refine az hJ fun gl=>?_;refine aj hJ ?_;simp only[*,go_sem];refine af hJ ?_;refine az hJ fun dk=>?_;refine aj hJ ?_;revert h;refine bS fun a dp h=>?_;simp only[*,go_sem];refine bn hJ _ (l8 u0.book (e.mono aT) (i47:Int) al dp) (aK ?_);(try simp only[*,go_sem]);refine aA fun P gn a0=>?_;have gp:=aP.cons a0 dk;try simp only[au] at a0
   (try simp only[*,go_sem]);refine af hJ ?_;refine az hJ fun dq=>?_;refine aj hJ ?_;revert h;refine bS fun gB ds h=>?_;simp only[*,go_sem];refine bn hJ _ (Gk b (G.AH [(P,.cells #[.int .i64 a.back,.int .i64 a.high] 134),(p,kn u0 s1 c (sl (some D) u0.book.aG o) d f)] [] (by first|rfl|simp only[aV]|(simp only[aV];rfl)) dq) a ds) (aK ?_);(try simp only[*,go_sem]);revert h;refine jC hJ (by simp only[*,go_sem]) (fun dt h=>?_) fun dt h=>?_
   ·refine az hJ fun du=>?_;refine aj hJ ?_;revert h;refine bS fun dv dC h=>?_;obtain rfl:=sI h;obtain ⟨dE,a2⟩:=dr dC;simp only[*,go_sem];refine aA fun a3 dT a4=>?_;have ea:=aP.cons a4 du;try simp only[au] at a4
    (try simp only[*,go_sem]);refine ee (r:=iR) (l:=b) (x:=a) (cs:=#[.int .i64 a.back,.int .i64 a.high]) (e2:=134) [(a3,.cells #[.int .i64 a.back,.int .i64 a.high] 134),(P,.cells #[.int .i64 a.back,.int .i64 a.high] 134),(p,kn u0 s1 c (sl (some D) u0.book.aG o) d f)] [] G ea dE rfl (by simp only[*,go_sem]) dT rfl rfl z6 z6 E0 E2 rfl E1 (by decide) (by decide) (fun gC a5 Q eb ec gM=>?_);simp only[aV] at ec;subst eb;rw[<-a2] at Q;clear a2;obtain ⟨d102,ed,rfl,eh⟩:=Q.len;refine ⟨⟨F,(a3,.cells #[.int .i64 a.back,.int .i64 a.high] 134)::(P,.cells #[.int .i64 a.back,.int .i64 a.high] 134)::(p,kn u0 s1 c (sl (some D) u0.book.aG o) d f)::a5⟩,Le.refl _,?_⟩;refine aK ?_;(try simp only[*,go_sem]);have et:=cq (n:=i75) (by have:=ab;omega);refine aj hJ ?_;simp only[*,go_sem];refine ⟨g.length - (i75+1),by omega,_,Le.sub (List.Sublist.cons _ (List.Sublist.cons _ (List.Sublist.refl _))),i75+1,d102,ed,a5,dv,rfl,by omega,ao,rfl,Q,eh,?_⟩;simp only[*,go_sem]
   obtain rfl:=sI h;refine aI hJ ?_;have et:=cq (n:=i75) (by have:=ab;omega);refine aj hJ ?_;simp only[*,go_sem];refine ⟨g.length - (i75+1),by omega,_,Le.sub (List.Sublist.cons _ (List.Sublist.refl _)),i75+1,d70,q,u,b,rfl,by omega,ao,rfl,G,ad,?_⟩;simp only[*,go_sem]
  have gT:=Nat.not_lt.2 ae;refine bM hJ (by simp only[*,go_sem]) ?_;rw[List.drop_eq_nil_of_le ae] at k;obtain rfl:=sI k;clear k;have h:=cd;dsimp only[aB] at h;obtain rfl:=sI h;refine bJ ?_;simp only[go_sem];have gV:=cq (n:=i47) (by have:=a8;omega);refine aj hJ ?_;simp only[*,go_sem];refine ⟨u0.book.aG.length - (i47+1),by omega,_,Le.sub (List.Sublist.refl _),i47+1,F,d70,q,u,b,rfl,by omega,bs,rfl,(B.trans L),G,ad,?_⟩;simp only[*,go_sem]
 have g0:=Nat.not_lt.2 Y;refine bM hJ (by simp only[*,go_sem]) ?_;rw[List.drop_eq_nil_of_le Y] at i;obtain rfl:=sI i;clear i;have h:=bd;dsimp only[aB] at h;obtain rfl:=sI h;refine bJ ?_;simp only[go_sem];refine af hJ ?_;refine az hJ fun g1=>?_;refine aj hJ ?_;simp only[*,go_sem];refine az hJ fun a6=>?_;obtain ⟨g2,ev,eQ,a7,eS⟩:=C.eY [(p,kn u0 s1 c (sl d17 u0.book.aG o) d f)] [] a6 (aE.cons I (aE.nil _));clear a6;refine cG hJ eS ?_;obtain ⟨g3,g4,-⟩:=a7.op;simp only[bp] at eQ;refine ay ?_;simp only[*,go_sem];exact ⟨_,(B).trans ev,Le.sub (List.nil_sublist _),_,rfl,a7⟩
def wV (a:Int)(i109:Nat)(b:bU)(st:((List Int)×(List bU))):Option (Fl ((List Int)×(List bU)) ((List Int)×Int)):=
 ag (vk a (i109:Int)) fun c=>cond (((zV c 1)==1)) (ag (cY st.1 ([(i109:Int)])) fun d=>ag (cY st.2 ([b])) fun e=>some (.nx (d,e))) (some (.nx (st.1,st.2)))
def wW (u0:ak)(a:(ak×Int))(c:Int)(st:((List (List Int))×Int)):Option (Fl ((List (List Int))×Int) ((List Int)×Int)):=
 cond (decide (st.2<c)) (ag (bB (wV st.2) 0 u0.told (([]:List Int),([]:List bU))) fun o=>aB o (fun b=>ag (sK (⟨a.1.bG,a.1.bO,a.1.aY,a.1.av,a.1.props,a.1.aG,b.2⟩:ak)) fun d=>cond (!d) (ag (cY st.1 ([b.1])) fun e=>some (.nx (e,(IntKind.i64.wrap (st.2+1))))) (some (.nx (st.1,(IntKind.i64.wrap (st.2+1)))))) (fun _ _=>none) (fun r=>some (.rt r))) (some (.bk (st.1,st.2)))
def wX (u0:ak):Option ((List Int)×Int):=
 ag (eU u0 ([]:(List (ak->Option Int)))) fun a=>cond ((a.2 != 0)) (some (([]:(List Int)),a.2)) (ag (sK a.1) fun c=>cond (c) (some (([]:(List Int)),0)) (ag (vj 1 (u0.told.length:Int)) fun d=>ag (aR (wW u0 a d) fu (([]:List (List Int)),0)) fun o=>aB o (fun b=>ag (bf b.1 0) fun e=>ag (jS b.1 1 (b.1.length:Int)) fun f=>ag (vN sX e f) fun g=>some (g,0)) (fun _ _=>none) (fun r=>some r)))
theorem A4 {ro:Addr->Option Value}(gg:c7 ro)(u0:ak){s1 i j b4:Value}(K:bK ro u0 s1 i j b4){r:((List Int)×Int)}(h:wX u0=some r):eI Tryz.prog 54 #[bv u0 s1 i j b4] ro (fun v aM=>∃b5,v= .tuple #[b5,.int .i64 r.2]/\aC rI aM b5 r.1):=by
 obtain ⟨d24,k,rfl,nb,ab,-⟩:=id K.t;unfold wX at h;have gl:=K.oc;simp only[bE] at gl;refine aD.go Tryz.func54 rfl Tryz.ntmps54 Tryz.results54 (by simp) fun main J hJ A gn hd hs=>?_;have gp:=hs 0;clear hs;refine ah hJ ?_;simp only[*,go_sem];refine aA fun o L gB=>?_;try simp only[au] at gB
 try simp only[*,go_sem]
 refine ah hJ ?_;revert h;refine bS fun b gC h=>?_;simp only[*,go_sem];refine b8 hJ _ (j6 gg u0 K ([]:(List (ak->Option Int))) (aC.nil _ _) gC) fun v ca ad cb a7=>?_;obtain ⟨c,d,f,q,rfl,P⟩:=a7;have gM:=P.oc;simp only[bE] at gM;replace K:=K.mono ad;replace L:=cb.hd;simp only[bp] at cb;refine aK ?_;try simp only[*,go_sem]
 refine aA fun s Q gT=>?_;try simp only[au] at gT
 try simp only[*,go_sem]
 refine af hJ (ah hJ ?_);simp only[*,go_sem];revert h;refine jC hJ (by simp only[*,go_sem]) (fun gV h=>?_) fun gV h=>?_
 ·obtain rfl:=sI h;refine ah hJ ?_;simp only[*,go_sem];refine ay ?_;simp only[*,go_sem];exact ⟨_,ad,Le.sub (List.nil_sublist _),_,rfl,aC.nil _ _⟩
 refine aI hJ (af hJ ?_);refine ah hJ ?_;revert h;refine bS fun nd g0 h=>?_;simp only[*,go_sem];refine bn hJ _ (AT b.1 (P.mono aT) g0) ?_;try simp only[*,go_sem]
 revert h;refine jC hJ (by simp only[*,go_sem]) (fun g1 h=>?_) fun g1 h=>?_
 ·obtain rfl:=sI h;refine ah hJ ?_;simp only[*,go_sem];refine ay ?_;simp only[*,go_sem];exact ⟨_,ad,Le.sub (List.nil_sublist _),_,rfl,aC.nil _ _⟩
 refine aI hJ (af hJ ?_);refine aj hJ ?_;simp only[*,go_sem];refine af hJ (ah hJ ?_);revert h;refine bS fun g2 cd h=>?_;obtain ⟨nf,g3⟩:=EE cd;clear cd;try simp only[go_sem] at g3
 try simp only[*,go_sem]
 refine aN hJ ?_;revert h;refine bS fun g4 ae ha=>?_;refine bQ hJ [6,7,8,9,10,11,26,27,28,29,30,31,32,33,34,35,36,37,38,39,40,41,42,43,44,45,46,47,48,49,50,51,52,53,54,55,56,57,58,59,60,61,62,63,64,65] (fun m V F'=>∃(B:Addr->Option Value) (d71:Option Addr) (S:Nat) (w:List (Nat×Obj)) (I:(List (List Int))) (T:Int),aR (wW u0 b g2) m (I,T)=some g4/\F'=⟨B,(s,bl b.1 c d f q)::(o,bk u0 s1 i j (sl d24 u0.told k))::w⟩/\Ext ca B/\aO (rL rI) B 35 (.slice d71 I.length S) I w/\I.length<=S/\slot V 6= .slice d71 I.length S/\slot V 26= .int .i64 T) fu ?_ ?_
 ·refine ⟨ca,none,0,[],([]:List (List Int)),0,ae,rfl,Ext.refl _,aO.nil _ _ _,Nat.le_refl _,?_⟩;simp only[*,go_sem]
 rintro al hc F' cf ⟨B,d71,S,w,I,T,ae,rfl,W,U,hf,hg,hh⟩;refine fP hJ fun _ a8=>?_;replace P:=P.mono W;replace K:=K.mono W;replace Q:=a8.hd;replace L:=a8.tl.hd;simp only[bp] at a8;obtain ⟨cl,cy,cS⟩:=cf.pick [1,2,3,4,25] (by decide);simp only[*,go_sem] at cl cy cS;clear cf gn hd gp;obtain _|al:=al
 ·exact absurd ae (by simp only[aR,reduceCtorEq,not_false_eq_true])
 revert ae;refine bS fun nm h ao=>?_;unfold wW at h;try dsimp only at h
 refine af hJ ?_;refine az hJ fun nn=>?_;refine aj hJ ?_;simp only[*,go_sem];refine af hJ ?_;revert h;refine jC hJ (by simp only[*,go_sem]) (fun hi h=>?_) fun hi h=>?_
 ·refine aI hJ (af hJ ?_);refine aN hJ (af hJ ?_);refine az hJ fun np=>?_;refine aj hJ ?_;simp only[*,go_sem];refine af hJ ?_;refine az hJ fun ns=>?_;refine aj hJ ?_;simp only[*,go_sem];refine af hJ ?_;refine az hJ fun hj=>?_;refine aj hJ ?_;simp only[*,go_sem];refine aA fun z hk c0=>?_;have nx:=aP.cons c0 hj;try simp only[au] at c0
  try simp only[*,go_sem]
  refine af hJ ?_;refine az hJ fun nz=>?_;refine aj hJ ?_;simp only[*,go_sem];refine af hJ (af hJ ?_);refine az hJ fun nA=>?_;refine aj hJ ?_;simp only[*,go_sem];refine aN hJ ?_;revert h;refine bS fun hl R hn=>?_;refine bQ hJ [8,10,11,35,36,37,38,39,40,41,42,43,44,45,46,47,48,49,50,51,52,53,54,55,56,57] (fun m V F'=>∃(i109:Nat) (d96:Option Addr) (M:Nat) (X:List (Nat×Obj)) (d103:Option Addr) (u:Nat) (C:List (Nat×Obj)) (D:(List Int)) (g:(List bU)),m=u0.told.length - i109/\i109<=u0.told.length/\bB (wV T) i109 (u0.told.drop i109) (D,g)=some hl/\F'=⟨B,(z,bl b.1 c d f (sl d103 g u))::(s,bl b.1 c d f q)::(o,bk u0 s1 i j (sl d24 u0.told k))::(X++(C++w))⟩/\aO rI B 3 (.slice d96 D.length M) D X/\D.length<=M/\aO c9 B 76 (.slice d103 g.length u) g C/\g.length<=u/\slot V 35= .int .i64 (i109:Int)/\slot V 8= .slice d96 D.length M) u0.told.length ?_ ?_
  ·refine ⟨0,none,0,[],none,0,[],([]:List Int),([]:List bU),(Nat.sub_zero _).symm,Nat.zero_le _,R,rfl,aO.nil _ _ _,Nat.le_refl _,aO.nil _ _ _,Nat.le_refl _,?_⟩;simp only[*,go_sem]
  rintro nH ho F' a9 ⟨i109,d96,M,X,d103,u,C,D,g,rfl,nI,R,rfl,Y,hp,N,hq,nK,nQ⟩;obtain ⟨hr,ht,hv⟩:=a9.pick [1,2,3,4,6,7,9,25,26,27,28,29,30,31,32,33,34] (by decide);simp only[*,go_sem] at hr ht hv;have nR:cE [6,7,8,9,10,11,26,27,28,29,30,31,32,33,34,35,36,37,38,39,40,41,42,43,44,45,46,47,48,49,50,51,52,53,54,55,56,57,58,59,60,61,62,63,64,65] ho hc:=(a9.fK (by decide)).trans (by simp only[*,go_sem]);clear a9 cl cy cS hg hh;refine ah hJ ?_;simp only[*,go_sem];refine af hJ ?_;rcases Nat.lt_or_ge i109 u0.told.length with hx|da
  ·refine bP hJ (by simp only[*,go_sem]) ?_;refine aI hJ ?_;obtain ⟨a,ba⟩:∃x,u0.told[i109]?=some x:=⟨_,List.getElem?_eq_getElem hx⟩
   rw[c8 ba] at R;revert R;refine bS fun nT h ar=>?_;unfold wV at h;(try dsimp only at h);obtain ⟨E,hy,hz,hA,bb⟩:=K.t.el _ _ ba;obtain rfl:hy=a.cells:=hA;cases hz;have hB:=bb 0 _ rfl;simp only[go_sem] at hB;have hD:=bb 1 _ rfl;simp only[go_sem] at hD;clear bb ba;refine af hJ (aN hJ (af hJ ?_));refine az hJ fun hE=>?_;refine aj hJ ?_;simp only[*,go_sem];refine aA fun F nV db=>?_;have nX:=aP.cons db hE;try simp only[au] at db
   (try simp only[*,go_sem]);refine af hJ ?_;refine az hJ fun nY=>?_;refine aj hJ ?_;revert h;refine bS fun n0 dd h=>?_;obtain ⟨n1,hF⟩:=EF dd;clear dd;(try simp only[go_sem] at hF);(try simp only[*,go_sem]);revert h;refine jC hJ (by simp only[*,go_sem]) (fun hG h=>?_) fun hG h=>?_
   ·refine az hJ fun df=>?_;refine eE hJ mixed [13] (.pure 0 (.pure 1 (.pure 4 (.pure 5 (.rd 6 (.rd 7 (.two 2 (.two 3 (.one 8 (.one 9 (.pure 10 (.pure 11 (.pure 12 (.last 13 .done)))))) 8 (.one 3 (.one 9 (.pure 10 (.pure 11 (.pure 12 (.last 13 .done))))))) 8 (.one 2 (.one 3 (.one 9 (.pure 10 (.pure 11 (.pure 12 (.last 13 .done)))))))))))))) ⟨B,[(F,.cells #[.int .i64 a.aW,.bool a.bt] 76),(z,bl b.1 c d f (sl d103 g u)),(s,bl b.1 c d f q),(o,bk u0 s1 i j (sl (some E) u0.told k))]⟩ (by simp only[*,go_sem]) (by kernel_rfl) ?_;simp only[*,go_sem];refine jY ?_ ?_
    ·simp only[*,go_sem];refine aA fun O dk dp=>?_;have dq:=aP.cons dp df;try simp only[au] at dp
     (try simp only[*,go_sem]);refine jY ?_ ?_
     ·revert h;refine bS fun hI hK h=>?_;obtain ⟨hL,ds⟩:=dr hK;simp only[*,go_sem];refine ee (r:=rI) (l:=D) (x:=(i109:Int)) (cs:=#[.int .i64 (i109:Int)]) (e2:=3) [(O,ic (i109:Int)),(F,.cells #[.int .i64 a.aW,.bool a.bt] 76),(z,bl b.1 c d f (sl d103 g u)),(s,bl b.1 c d f q),(o,bk u0 s1 i j (sl (some E) u0.told k))] (C++w) Y dq hL rfl (by simp only[*,go_sem]) dk rfl rfl fM fM kL kN rfl kM (by decide) (by decide) (fun n2 a0 bc G H hM=>?_);simp only[aV] at H;subst G;rw[<-ds] at bc;clear ds;obtain ⟨d197,hN,rfl,hP⟩:=bc.len;refine ⟨⟨B,(O,ic (i109:Int))::(F,.cells #[.int .i64 a.aW,.bool a.bt] 76)::(z,bl b.1 c d f (sl d103 g u))::(s,bl b.1 c d f q)::(o,bk u0 s1 i j (sl (some E) u0.told k))::(a0++(C++w))⟩,Le.refl _,?_⟩;refine ⟨by simp only[*,go_sem],bT ?_⟩;revert h;refine bS fun hQ hR h=>?_;obtain rfl:=sI h;obtain ⟨hS,dt⟩:=dr hR;(try simp only[*,go_sem]);refine aA fun du hT dv=>?_;have hV:=aP.cons dv hM;try simp only[au] at dv
      (try simp only[*,go_sem]);refine ee (r:=c9) (l:=g) (x:=a) (cs:=#[.int .i64 a.aW,.bool a.bt]) (e2:=76) ((du,.cells #[.int .i64 a.aW,.bool a.bt] 76)::(O,ic (i109:Int))::(F,.cells #[.int .i64 a.aW,.bool a.bt] 76)::(z,bl b.1 c d f (sl d103 g u))::(s,bl b.1 c d f q)::(o,bk u0 s1 i j (sl (some E) u0.told k))::a0) w N hV hS rfl (by simp only[*,go_sem]) hT rfl rfl er er hU ie rfl ia (by decide) (by decide) (fun n3 dC bd G H oi=>?_);simp only[aV] at H;subst G;rw[<-dt] at bd;clear dt;obtain ⟨d208,hX,rfl,hY⟩:=bd.len;refine ⟨⟨B,(du,.cells #[.int .i64 a.aW,.bool a.bt] 76)::(O,ic (i109:Int))::(F,.cells #[.int .i64 a.aW,.bool a.bt] 76)::(z,bl b.1 c d f (sl d103 g u))::(s,bl b.1 c d f q)::(o,bk u0 s1 i j (sl (some E) u0.told k))::(a0++(dC++w))⟩,Le.refl _,?_⟩;refine ⟨by simp only[*,go_sem],bT ?_⟩;(try simp only[*,go_sem]);have bj:=cq (n:=i109) (by have:=ab;omega);refine aj hJ ?_;simp only[*,go_sem];refine ⟨u0.told.length - (i109+1),by omega,_,Le.sub (List.Sublist.cons _ (List.Sublist.cons _ (List.Sublist.cons _ (List.Sublist.refl _)))),i109+1,d197,hN,a0,d208,hX,dC,hI,hQ,rfl,by omega,ar,rfl,bc,hP,bd,hY,?_⟩;simp only[*,go_sem]
     revert h;refine bS fun hZ h0 h=>?_;obtain ⟨h1,dE⟩:=dr h0;simp only[*,go_sem];refine aA fun a2 h2 dT=>?_;have h3:=aP.cons dT dq;try simp only[au] at dT
     (try simp only[*,go_sem]);refine ee (r:=rI) (l:=D) (x:=(i109:Int)) (cs:=#[.int .i64 (i109:Int)]) (e2:=3) [(a2,.cells #[.int .i64 a.aW,.bool a.bt] 76),(O,ic (i109:Int)),(F,.cells #[.int .i64 a.aW,.bool a.bt] 76),(z,bl b.1 c d f (sl d103 g u)),(s,bl b.1 c d f q),(o,bk u0 s1 i j (sl (some E) u0.told k))] (C++w) Y h3 h1 rfl (by simp only[*,go_sem]) dk rfl rfl fM fM kL kN rfl kM (by decide) (by decide) (fun oj a3 bm G H h4=>?_);simp only[aV] at H;subst G;rw[<-dE] at bm;clear dE;obtain ⟨d219,h5,rfl,h6⟩:=bm.len;refine ⟨⟨B,(a2,.cells #[.int .i64 a.aW,.bool a.bt] 76)::(O,ic (i109:Int))::(F,.cells #[.int .i64 a.aW,.bool a.bt] 76)::(z,bl b.1 c d f (sl d103 g u))::(s,bl b.1 c d f q)::(o,bk u0 s1 i j (sl (some E) u0.told k))::(a3++(C++w))⟩,Le.refl _,?_⟩;refine ⟨by simp only[*,go_sem],bT ?_⟩;revert h;refine bS fun h7 h8 h=>?_;obtain rfl:=sI h;obtain ⟨h9,ea⟩:=dr h8;(try simp only[*,go_sem]);refine ee (r:=c9) (l:=g) (x:=a) (cs:=#[.int .i64 a.aW,.bool a.bt]) (e2:=76) ((a2,.cells #[.int .i64 a.aW,.bool a.bt] 76)::(O,ic (i109:Int))::(F,.cells #[.int .i64 a.aW,.bool a.bt] 76)::(z,bl b.1 c d f (sl d103 g u))::(s,bl b.1 c d f q)::(o,bk u0 s1 i j (sl (some E) u0.told k))::a3) w N h4 h9 rfl (by simp only[*,go_sem]) h2 rfl rfl er er hU ie rfl ia (by decide) (by decide) (fun ox eb bo G H oy=>?_);simp only[aV] at H;subst G;rw[<-ea] at bo;clear ea;obtain ⟨d228,ib,rfl,ih⟩:=bo.len;refine ⟨⟨B,(a2,.cells #[.int .i64 a.aW,.bool a.bt] 76)::(O,ic (i109:Int))::(F,.cells #[.int .i64 a.aW,.bool a.bt] 76)::(z,bl b.1 c d f (sl d103 g u))::(s,bl b.1 c d f q)::(o,bk u0 s1 i j (sl (some E) u0.told k))::(a3++(eb++w))⟩,Le.refl _,?_⟩;refine ⟨by simp only[*,go_sem],bT ?_⟩;(try simp only[*,go_sem]);have bj:=cq (n:=i109) (by have:=ab;omega);refine aj hJ ?_;simp only[*,go_sem];refine ⟨u0.told.length - (i109+1),by omega,_,Le.sub (List.Sublist.cons _ (List.Sublist.cons _ (List.Sublist.cons _ (List.Sublist.refl _)))),i109+1,d219,h5,a3,d228,ib,eb,hZ,h7,rfl,by omega,ar,rfl,bm,h6,bo,ih,?_⟩;simp only[*,go_sem]
    revert h;refine bS fun ik il h=>?_;obtain ⟨im,ec⟩:=dr il;simp only[*,go_sem];refine aA fun a4 iv ed=>?_;have ix:=aP.cons ed df;try simp only[au] at ed
    (try simp only[*,go_sem]);refine aA fun a5 j1 eh=>?_;have j2:=aP.cons eh ix;try simp only[au] at eh
    (try simp only[*,go_sem]);refine ee (r:=rI) (l:=D) (x:=(i109:Int)) (cs:=#[.int .i64 (i109:Int)]) (e2:=3) [(a5,ic (i109:Int)),(a4,.cells #[.int .i64 a.aW,.bool a.bt] 76),(F,.cells #[.int .i64 a.aW,.bool a.bt] 76),(z,bl b.1 c d f (sl d103 g u)),(s,bl b.1 c d f q),(o,bk u0 s1 i j (sl (some E) u0.told k))] (C++w) Y j2 im rfl (by simp only[*,go_sem]) j1 rfl rfl fM fM kL kN rfl kM (by decide) (by decide) (fun o0 a6 br G H kh=>?_);simp only[aV] at H;subst G;rw[<-ec] at br;clear ec;obtain ⟨kj,kk,rfl,kl⟩:=br.len;refine ⟨⟨B,(a5,ic (i109:Int))::(a4,.cells #[.int .i64 a.aW,.bool a.bt] 76)::(F,.cells #[.int .i64 a.aW,.bool a.bt] 76)::(z,bl b.1 c d f (sl d103 g u))::(s,bl b.1 c d f q)::(o,bk u0 s1 i j (sl (some E) u0.told k))::(a6++(C++w))⟩,Le.refl _,?_⟩;refine ⟨by simp only[*,go_sem],bT ?_⟩;revert h;refine bS fun km kn h=>?_;obtain rfl:=sI h;obtain ⟨kp,et⟩:=dr kn;(try simp only[*,go_sem]);refine ee (r:=c9) (l:=g) (x:=a) (cs:=#[.int .i64 a.aW,.bool a.bt]) (e2:=76) ((a5,ic (i109:Int))::(a4,.cells #[.int .i64 a.aW,.bool a.bt] 76)::(F,.cells #[.int .i64 a.aW,.bool a.bt] 76)::(z,bl b.1 c d f (sl d103 g u))::(s,bl b.1 c d f q)::(o,bk u0 s1 i j (sl (some E) u0.told k))::a6) w N kh kp rfl (by simp only[*,go_sem]) iv rfl rfl er er hU ie rfl ia (by decide) (by decide) (fun o1 ev bs G H o2=>?_);simp only[aV] at H;subst G;rw[<-et] at bs;clear et;obtain ⟨ks,kt,rfl,kv⟩:=bs.len;refine ⟨⟨B,(a5,ic (i109:Int))::(a4,.cells #[.int .i64 a.aW,.bool a.bt] 76)::(F,.cells #[.int .i64 a.aW,.bool a.bt] 76)::(z,bl b.1 c d f (sl d103 g u))::(s,bl b.1 c d f q)::(o,bk u0 s1 i j (sl (some E) u0.told k))::(a6++(ev++w))⟩,Le.refl _,?_⟩;refine ⟨by simp only[*,go_sem],bT ?_⟩;(try simp only[*,go_sem]);have bj:=cq (n:=i109) (by have:=ab;omega);refine aj hJ ?_;simp only[*,go_sem];refine ⟨u0.told.length - (i109+1),by omega,_,Le.sub (List.Sublist.cons _ (List.Sublist.cons _ (List.Sublist.cons _ (List.Sublist.refl _)))),i109+1,kj,kk,a6,ks,kt,ev,ik,km,rfl,by omega,ar,rfl,br,kl,bs,kv,?_⟩;simp only[*,go_sem]
   obtain rfl:=sI h;refine aI hJ ?_;have bj:=cq (n:=i109) (by have:=ab;omega);refine aj hJ ?_;simp only[*,go_sem];refine ⟨u0.told.length - (i109+1),by omega,_,Le.sub (List.Sublist.cons _ (List.Sublist.refl _)),i109+1,d96,M,X,d103,u,C,D,g,rfl,by omega,ar,rfl,Y,hp,N,hq,?_⟩;simp only[*,go_sem]
  have o4:=Nat.not_lt.2 da;refine bM hJ (by simp only[*,go_sem]) ?_;rw[List.drop_eq_nil_of_le da] at R;obtain rfl:=sI R;clear R;have h:=hn;dsimp only[aB] at h;refine bJ ?_;simp only[go_sem];refine af hJ ?_;refine az hJ fun kx=>?_;refine aj hJ ?_;revert h;refine bS fun pa ky h=>?_;simp only[*,go_sem];refine bn hJ _ (AT (⟨b.1.bG,b.1.bO,b.1.aY,b.1.av,b.1.props,b.1.aG,g⟩:ak) ⟨(P.e.mono aT),(P.p.mono aT),(P.y.mono aT),(N.AH ((z,bl b.1 c d f (sl d103 g u))::(s,bl b.1 c d f q)::(o,bk u0 s1 i j (sl d24 u0.told k))::X) w (by first|rfl|simp only[aV]|(simp only[aV];rfl)) kx)⟩ ky) (aK ?_);try simp only[*,go_sem]
  revert h;refine jC hJ (by simp only[*,go_sem]) (fun k0 h=>?_) fun k0 h=>?_
  ·refine az hJ fun eQ=>?_;obtain ⟨eS,bz,Z,e0,k2⟩:=Y.kR ((z,bl b.1 c d f (sl d103 g u))::(s,bl b.1 c d f q)::(o,bk u0 s1 i j (sl d24 u0.told k))::(C++w)) [(z,bl b.1 c d f (sl d103 g u)),(s,bl b.1 c d f q),(o,bk u0 s1 i j (sl d24 u0.told k))] (C++w) (by first|rfl|simp only[aV]|(simp only[aV];rfl)) (by first|rfl|simp only[aV]|(simp only[aV];rfl)) eQ (aE.cons hk (aE.cons Q (aE.cons L (aE.app N.jr (U.jr)))));clear eQ;refine cG hJ k2 ?_;obtain ⟨pb,pd,-⟩:=e0.op;replace Q:=Z.tl.hd;replace L:=Z.tl.tl.hd;replace N:=N.mono bz Z.tl.tl.tl.l;replace U:=U.mono bz Z.tl.tl.tl.r;simp only[bp] at Z;refine az hJ fun lb=>?_;refine aj hJ ?_;revert h;refine bS fun lh lj h=>?_;obtain rfl:=sI h;obtain ⟨lk,e1⟩:=dr lj;simp only[*,go_sem];refine aA fun e3 ll fa=>?_;have ln:=aP.cons fa lb;try simp only[au] at fa
   (try simp only[*,go_sem]);refine ee (r:=(rL rI)) (l:=I) (x:=D) (cs:=#[.slice d96 D.length M]) (e2:=35) ((e3,.cells #[.slice d96 D.length M] 35)::(z,bl b.1 c d f (sl d103 g u))::(s,bl b.1 c d f q)::(o,bk u0 s1 i j (sl d24 u0.told k))::C) [] U ln lk ⟨_,rfl,e0⟩ (by simp only[*,go_sem]) ll rfl rfl kP kP rJ rM rfl rK (by decide) (by decide) (fun pf fb b0 G H ph=>?_);simp only[aV] at H;subst G;rw[<-e1] at b0;clear e1;obtain ⟨lo,lr,rfl,lv⟩:=b0.len;refine ⟨⟨eS,(e3,.cells #[.slice d96 D.length M] 35)::(z,bl b.1 c d f (sl d103 g u))::(s,bl b.1 c d f q)::(o,bk u0 s1 i j (sl d24 u0.told k))::(C++fb)⟩,Le.refl _,?_⟩;refine aK ?_;(try simp only[*,go_sem]);refine az hJ fun pj=>?_;refine aj hJ ?_;simp only[*,go_sem];refine ⟨al,Nat.lt_succ_self _,_,Le.sub (List.Sublist.cons _ (List.Sublist.cons _ (List.Sublist.cons₂ _ (List.Sublist.cons₂ _ ((List.Sublist.refl _).trans (List.sublist_append_right _ _)))))),eS,lo,lr,fb,lh,(IntKind.i64.wrap (T+1)),ao,rfl,(W.trans bz),b0,lv,?_⟩;simp only[*,go_sem]
  obtain rfl:=sI h;refine aI hJ ?_;refine az hJ fun pk=>?_;refine aj hJ ?_;simp only[*,go_sem];refine ⟨al,Nat.lt_succ_self _,_,Le.sub (List.Sublist.cons _ (List.Sublist.cons₂ _ (List.Sublist.cons₂ _ (((List.Sublist.refl _).trans (List.sublist_append_right _ _)).trans (List.sublist_append_right _ _))))),B,d71,S,w,I,(IntKind.i64.wrap (T+1)),ao,rfl,W,U,hf,?_⟩;simp only[*,go_sem]
 obtain rfl:=sI h;refine bJ ?_;simp only[go_sem];obtain rfl:=sI ao;clear ao;have h:=ha;dsimp only[aB] at h;refine af hJ ?_;refine az hJ fun fg=>?_;obtain ⟨po,lx,b1,b2,ly⟩:=U.kR ((s,bl b.1 c d f q)::(o,bk u0 s1 i j (sl d24 u0.told k))::[]) [(s,bl b.1 c d f q),(o,bk u0 s1 i j (sl d24 u0.told k))] [] (by first|rfl|simp only[aV]|(simp only[aV];rfl)) (by first|rfl|simp only[aV]|(simp only[aV];rfl)) fg (aE.cons Q (aE.cons L (aE.nil _)));clear fg;refine cG hJ ly ?_;obtain ⟨pr,ps,-⟩:=b2.op;replace Q:=b1.hd;replace L:=b1.tl.hd;simp only[bp] at b1;refine cQ hJ mixed 5 2 (by simp only[*,go_sem]) (by kernel_rfl) ?_;revert h;refine bS fun lL l1 h=>?_;obtain ⟨pt,pv,fi⟩:=cH l1;obtain ⟨pw,px,l2,l3,fp⟩:=b2.el _ _ fi;obtain ⟨py,rfl,fr⟩:=l3;obtain ⟨pA,pB,rfl,pC,pD,pL⟩:=id fr;cases l2;have l4:=fp 0 _ rfl;simp only[go_sem] at l4;clear fp fi;revert h;refine bS fun ma mf h=>?_;obtain ⟨pT,p0,p1,fs⟩:=pq mf;have ft:(1:Int).toNat<=((I.length:Int)).toNat:=by omega
 have mi:((I.length:Int)).toNat<=S:=by omega
 have q0:0<=((I.length:Int)):=by omega
 obtain ⟨q1,ml,mn,fv⟩:=aC.pF b2 (1:Int).toNat ((I.length:Int)).toNat ft (by omega) fs;simp only[go_sem] at ml mn ft mi;obtain ⟨_,_,mr,ra,rb,re⟩:=id fv;cases mr;clear fs;revert h;refine bS fun rh mx h=>?_;obtain rfl:=sI h;try simp only[*,go_sem]
 refine b8 hJ _ (Gh (dK:=105) (eg:=#[]) (ei:=#[]) sX ⟨by simp only[go_sem],fun rk rl my _ m1 _ _ m2 na h=>by simp only[go_sem];exact G7 my m2 m1 na h⟩ lL fr ma fv mx) fun v rn fw b3 a7=>?_;obtain ⟨rp,rfl,fx⟩:=a7;replace Q:=b3.hd;replace L:=b3.tl.hd;simp only[bp] at b3;obtain ⟨rr,rv,rfl,rB,sa,-⟩:=id fx;have sb:=eR (l:=[(s,bl b.1 c d f q),(o,bk u0 s1 i j (sl d24 u0.told k))]) fw (aE.cons Q (aE.cons L (aE.nil _)));refine ⟨by simp only[*,go_sem],?_⟩;refine lU ?_;try simp only[*,go_sem]
 refine ay ?_;simp only[*,go_sem];exact ⟨_,(((ad).trans W).trans lx).trans fw,Le.sub (List.nil_sublist _),_,rfl,fx⟩
def wY (a:(cR×Int))(i93:Nat)(b:aQ)(st:(List bC)):Option (Fl (List bC) (an×an×Bool×Int)):=
 ag (kY a.1.book b) fun c=>ag (cY st ([c])) fun d=>some (.nx d)
def wZ (u0:ak):Option (an×an×Bool×Int):=
 ag (gD u0 ([]:(List (ak->Option Int)))) fun a=>cond ((a.2 != 0)) (some ((⟨0,0⟩:an),(⟨0,0⟩:an),false,a.2)) (ag (nM a.1) fun g=>ag (bB (wY a) 0 g ([]:List bC)) fun o=>aB o (fun b=>ag (bf b 0) fun c=>ag (jS b 1 (b.length:Int)) fun d=>ag (l9 iT c d) fun h=>ag (l9 r7 c d) fun i=>ag (jw h.high u0.aY) fun e=>ag (jv i.high u0.aY) fun f=>ag (eF f e) fun j=>cond (j) (some ((⟨0,0⟩:an),(⟨0,0⟩:an),false,0)) (some (e,f,true,0))) (fun _ _=>none) (fun r=>some r))
theorem Hf {ro:Addr->Option Value}(bl:c7 ro)(u0:ak){s1 f g i:Value}(ab:bK ro u0 s1 f g i){r:(an×an×Bool×Int)}(h:wZ u0=some r):aD Tryz.prog 31 #[bv u0 s1 f g i] ⟨ro,[]⟩ (fun v _=>v= .tuple #[r.1.v,r.2.1.v,.bool r.2.2.1,.int .i64 r.2.2.2]):=by
 unfold wZ at h;have bm:=ab.oc;simp only[bE] at bm;refine aD.go Tryz.func31 rfl Tryz.ntmps31 Tryz.results31 (by simp) fun main J hJ A bo hd hs=>?_;have br:=hs 0;clear hs;refine ah hJ ?_;simp only[*,go_sem];refine aA fun j L bs=>?_;try simp only[au] at bs
 refine aA fun z M bz=>?_;try simp only[au] at bz
 refine aA fun B N b0=>?_;try simp only[au] at b0
 try simp only[*,go_sem]
 refine ah hJ ?_;revert h;refine bS fun d b1 h=>?_;simp only[*,go_sem];refine b8 hJ _ (jy bl u0 ab ([]:(List (ak->Option Int))) (aC.nil _ _) b1) fun v g1 g2 I O=>?_;obtain ⟨k,o,p,q,s,rfl,D,ad⟩:=O;have b2:=D.oc;simp only[bE] at b2;have b3:=ad.oc;simp only[bE] at b3;replace N:=I.hd;replace M:=I.tl.hd;replace L:=I.tl.tl.hd;simp only[bp] at I;refine aK ?_;try simp only[*,go_sem]
 refine aA fun t ae b4=>?_;try simp only[au] at b4
 try simp only[*,go_sem]
 refine af hJ (ah hJ ?_);simp only[*,go_sem];revert h;refine jC hJ (by simp only[*,go_sem]) (fun b5 h=>?_) fun b5 h=>?_
 ·obtain rfl:=sI h;refine ah hJ ?_;simp only[*,go_sem];refine ay ?_;simp only[*,go_sem]
 refine aI hJ (af hJ ?_);refine aj hJ ?_;simp only[*,go_sem];refine af hJ (ah hJ ?_);revert h;refine bS fun u ca h=>?_;simp only[*,go_sem];refine b8 hJ _ (A3 d.1 D ad ca) fun v P cb E O=>?_;obtain ⟨g3,rfl,al⟩:=O;replace D:=D.mono cb;replace ae:=E.hd;replace N:=E.tl.hd;replace M:=E.tl.tl.hd;replace L:=E.tl.tl.tl.hd;simp only[bp] at E;obtain ⟨d81,g4,rfl,ha,cd,-⟩:=id al;refine aK ?_;try simp only[*,go_sem]
 refine aN hJ ?_;revert h;refine bS fun cf w cl=>?_;refine bQ hJ [7,9,25,26,27,28,29,30,31,32,33,34,35,36] (fun m ao F'=>∃(i93:Nat) (d87:Option Addr) (G:Nat) (Q:List (Nat×Obj)) (e:(List bC)),m=u.length - i93/\i93<=u.length/\bB (wY d) i93 (u.drop i93) e=some cf/\F'=⟨P,(t,kn d.1 k o p q s)::(B,rt 0 0)::(z,rt 0 0)::(j,bk u0 s1 f g i)::Q⟩/\aO j0 P 147 (.slice d87 e.length G) e Q/\e.length<=G/\slot ao 25= .int .i64 (i93:Int)/\slot ao 7= .slice d87 e.length G) u.length ?_ ?_
 ·refine ⟨0,none,0,[],([]:List bC),(Nat.sub_zero _).symm,Nat.zero_le _,w,rfl,aO.nil _ _ _,Nat.le_refl _,?_⟩;simp only[*,go_sem]
 rintro hc hf F' ar ⟨i93,d87,G,Q,e,rfl,hg,w,rfl,a0,hh,hi,hj⟩;obtain ⟨cy,cS,c0⟩:=ar.pick [1,2,3,4,5,6,23,24] (by decide);simp only[*,go_sem] at cy cS c0;clear ar bo hd br;refine ah hJ ?_;simp only[*,go_sem];refine af hJ ?_;rcases Nat.lt_or_ge i93 u.length with da|a2
 ·refine bP hJ (by simp only[*,go_sem]) ?_;refine aI hJ ?_;obtain ⟨C,R⟩:∃x,u[i93]?=some x:=⟨_,List.getElem?_eq_getElem da⟩
  rw[c8 R] at w;revert w;refine bS fun hk h db=>?_;unfold wY at h;try dsimp only at h
  obtain ⟨hl,dd,df,dk,S⟩:=al.el _ _ R;obtain rfl:dd=C.cells:=dk;cases df;have dp:=S 0 _ rfl;simp only[go_sem] at dp;have dq:=S 1 _ rfl;simp only[go_sem] at dq;clear S R;refine af hJ (aN hJ (af hJ ?_));refine az hJ fun ds=>?_;refine aj hJ ?_;simp only[*,go_sem];refine aA fun a3 hn a4=>?_;have ho:=aP.cons a4 ds;try simp only[au] at a4
  try simp only[*,go_sem]
  refine az hJ fun dt=>?_;refine aj hJ ?_;revert h;refine bS fun a du h=>?_;simp only[*,go_sem];refine bn hJ _ (sk d.1.book (D.mono aT) C du) (aK ?_);revert h;refine bS fun dv dC h=>?_;obtain rfl:=sI h;obtain ⟨dE,a5⟩:=dr dC;try simp only[*,go_sem]
  refine aA fun a6 dT a7=>?_;have ea:=aP.cons a7 dt;try simp only[au] at a7
  try simp only[*,go_sem]
  refine ee (r:=j0) (l:=e) (x:=a) (cs:=#[.int .i64 a.spot.aH,.int .i64 a.spot.high.num,.int .i64 a.spot.high.den,.int .i64 a.at_,.int .i64 a.high.num,.int .i64 a.high.den]) (e2:=147) [(a6,.cells #[.int .i64 a.spot.aH,.int .i64 a.spot.high.num,.int .i64 a.spot.high.den,.int .i64 a.at_,.int .i64 a.high.num,.int .i64 a.high.den] 147),(a3,.cells #[.int .i64 C.back,.int .i64 C.high] 134),(t,kn d.1 k o p q s),(B,rt 0 0),(z,rt 0 0),(j,bk u0 s1 f g i)] [] a0 ea dE rfl (by simp only[*,go_sem]) dT rfl rfl m7 m7 vn vp rfl vo (by decide) (by decide) (fun hp a8 T eb ec hq=>?_);simp only[aV] at ec;subst eb;rw[<-a5] at T;clear a5;obtain ⟨d115,ed,rfl,eh⟩:=T.len;refine ⟨⟨P,(a6,.cells #[.int .i64 a.spot.aH,.int .i64 a.spot.high.num,.int .i64 a.spot.high.den,.int .i64 a.at_,.int .i64 a.high.num,.int .i64 a.high.den] 147)::(a3,.cells #[.int .i64 C.back,.int .i64 C.high] 134)::(t,kn d.1 k o p q s)::(B,rt 0 0)::(z,rt 0 0)::(j,bk u0 s1 f g i)::a8⟩,Le.refl _,?_⟩;refine aK ?_;try simp only[*,go_sem]
  have hr:=cq (n:=i93) (by have:=cd;omega);refine aj hJ ?_;simp only[*,go_sem];refine ⟨u.length - (i93+1),by omega,_,Le.sub (List.Sublist.cons _ (List.Sublist.cons _ (List.Sublist.refl _))),i93+1,d115,ed,a8,dv,rfl,by omega,db,rfl,T,eh,?_⟩;simp only[*,go_sem]
 have ht:=Nat.not_lt.2 a2;refine bM hJ (by simp only[*,go_sem]) ?_;rw[List.drop_eq_nil_of_le a2] at w;obtain rfl:=sI w;clear w;have h:=cl;dsimp only[aB] at h;refine bJ ?_;simp only[go_sem];refine af hJ ?_;refine az hJ fun a9=>?_;obtain ⟨K,hv,et,U,ev⟩:=a0.eY [(t,kn d.1 k o p q s),(B,rt 0 0),(z,rt 0 0),(j,bk u0 s1 f g i)] [] a9 (aE.cons ae (aE.cons N (aE.cons M (aE.cons L (aE.nil _)))));clear a9;refine cG hJ ev ?_;obtain ⟨hx,hy,-⟩:=U.op;simp only[bp] at et;refine fc hJ mixed 6 ⟨K,[(t,kn d.1 k o p q s),(B,rt 0 0),(z,rt 0 0),(j,bk u0 s1 f g i)]⟩ (by simp only[*,go_sem]) (by kernel_rfl) ?_;revert h;refine bS fun V eQ h=>?_;obtain ⟨hz,hA,ba⟩:=cH eQ;obtain ⟨hB,eS,e0,e1,y⟩:=U.el _ _ ba;obtain rfl:eS=V.cells:=e1;cases e0;have e3:=y 0 _ rfl;simp only[go_sem] at e3;have fa:=y 1 _ rfl;simp only[go_sem] at fa;have fb:=y 2 _ rfl;simp only[go_sem] at fb;have fg:=y 3 _ rfl;simp only[go_sem] at fg;have fi:=y 4 _ rfl;simp only[go_sem] at fi;have fp:=y 5 _ rfl;simp only[go_sem] at fp;clear y ba;revert h;refine bS fun bb fr h=>?_;obtain ⟨hD,hE,hF,bc⟩:=pq fr;have bd:(1:Int).toNat<=((e.length:Int)).toNat:=by omega
 have fs:((e.length:Int)).toNat<=G:=by omega
 have hG:0<=((e.length:Int)):=by omega
 obtain ⟨d132,ft,fu,W⟩:=aC.pF U (1:Int).toNat ((e.length:Int)).toNat bd (by omega) bc;simp only[go_sem] at ft fu bd fs;obtain ⟨_,_,fv,hI,hK,hL⟩:=id W;cases fv;clear bc;revert h;refine bS fun b fw h=>?_;try simp only[*,go_sem]
 refine ⟨_,bD hJ fun F H=>r6 (dK:=88) (eg:=#[]) (ei:=#[]) iT ⟨by simp only[go_sem],fun fx gg X Y _ h=>by simp only[go_sem];exact rY X Y h⟩ V bb (W.mono (bZ H)) fw,?_⟩;try simp only[*,go_sem]
 refine aA fun Z hM gl=>?_;try simp only[au] at gl
 try simp only[*,go_sem]
 refine af hJ ?_;refine fc hJ mixed 6 ⟨K,[(Z,.cells #[.int .i64 b.spot.aH,.int .i64 b.spot.high.num,.int .i64 b.spot.high.den,.int .i64 b.at_,.int .i64 b.high.num,.int .i64 b.high.den] 147),(t,kn d.1 k o p q s),(B,rt 0 0),(z,rt 0 0),(j,bk u0 s1 f g i)]⟩ (by simp only[*,go_sem]) (by kernel_rfl) ?_;revert h;refine bS fun c gn h=>?_;simp only[*,go_sem];refine ⟨_,bD hJ fun F H=>r6 (dK:=89) (eg:=#[]) (ei:=#[]) r7 ⟨by simp only[go_sem],fun fx gg X Y _ h=>by simp only[go_sem];exact Ga X Y h⟩ V bb (W.mono (bZ H)) gn,?_⟩;try simp only[*,go_sem]
 refine aA fun bj hN gp=>?_;try simp only[au] at gp
 try simp only[*,go_sem]
 refine af hJ ?_;refine fc hJ mixed 10 ⟨K,[(bj,.cells #[.int .i64 c.spot.aH,.int .i64 c.spot.high.num,.int .i64 c.spot.high.den,.int .i64 c.at_,.int .i64 c.high.num,.int .i64 c.high.den] 147),(Z,.cells #[.int .i64 b.spot.aH,.int .i64 b.spot.high.num,.int .i64 b.spot.high.den,.int .i64 b.at_,.int .i64 b.high.num,.int .i64 b.high.den] 147),(t,kn d.1 k o p q s),(j,bk u0 s1 f g i)]⟩ (by simp only[*,go_sem]) (by kernel_rfl) ?_;revert h;refine bS fun gB gC h=>?_;simp only[*,go_sem];refine ⟨_,bD hJ fun F H=>pX b.high u0.aY gC,b9 ?_⟩;revert h;refine bS fun gM gT h=>?_;try simp only[*,go_sem]
 refine ⟨_,bD hJ fun F H=>pW c.high u0.aY gT,?_⟩;try simp only[*,go_sem]
 refine af hJ (ah hJ ?_);revert h;refine bS fun hP gV h=>?_;simp only[*,go_sem];refine bn hJ _ (iS gM gB gV) ?_;try simp only[*,go_sem]
 revert h;refine jC hJ (by simp only[*,go_sem]) (fun g0 h=>?_) fun g0 h=>?_
 ·obtain rfl:=sI h;refine ah hJ ?_;simp only[*,go_sem];refine ay ?_;simp only[*,go_sem]
 refine aI hJ (af hJ ?_);refine eE hJ mixed [] (.two 0 (.two 1 (.one 2 (.one 3 (.pure 4 (.pure 5 .done)))) 2 (.one 1 (.one 3 (.pure 4 (.pure 5 .done))))) 1 (.one 0 (.one 2 (.one 3 (.pure 4 (.pure 5 .done)))))) ⟨K,[(bj,.cells #[.int .i64 c.spot.aH,.int .i64 c.spot.high.num,.int .i64 c.spot.high.den,.int .i64 c.at_,.int .i64 c.high.num,.int .i64 c.high.den] 147),(Z,.cells #[.int .i64 b.spot.aH,.int .i64 b.spot.high.num,.int .i64 b.spot.high.den,.int .i64 b.at_,.int .i64 b.high.num,.int .i64 b.high.den] 147),(t,kn d.1 k o p q s),(j,bk u0 s1 f g i)]⟩ (by simp only[*,go_sem]) (by kernel_rfl) ?_;simp only[*,go_sem];refine jY ?_ ?_
 ·simp only[*,go_sem];refine jY ?_ ?_
  ·obtain rfl:=sI h;simp only[*,go_sem];refine ay ?_;simp only[*,go_sem]
  obtain rfl:=sI h;simp only[*,go_sem];refine ay ?_;simp only[*,go_sem]
 obtain rfl:=sI h;simp only[*,go_sem];refine ay ?_;simp only[*,go_sem]
def mw (u0:ak)(b:Int):Option ((List Int)×Int):=
 ag (gD u0 ([(eK b)])) fun a=>cond ((a.2 != 0)) (some (([]:(List Int)),a.2)) (ag (k4 a.1 b) fun c=>some (c,0))
theorem s5 {ro:Addr->Option Value}(g:c7 ro)(u0:ak){s1 i j k:Value}(f:bK ro u0 s1 i j k)(a:Int){r:((List Int)×Int)}(h:mw u0 a=some r):eI Tryz.prog 15 #[bv u0 s1 i j k,.int .i64 a] ro (fun v aM=>∃m,v= .tuple #[m,.int .i64 r.2]/\aC rI aM m r.1):=by
 unfold mw at h;have D:=f.oc;simp only[bE] at D;refine aD.go Tryz.func15 rfl Tryz.ntmps15 Tryz.results15 (by simp) fun main J hJ A Y hd hs=>?_;have Z:=hs 0;have k1:=hs 1;clear hs;refine ah hJ ?_;simp only[*,go_sem];refine aA fun E F G=>?_;try simp only[au] at G
 try simp only[*,go_sem]
 refine af hJ ?_;refine az hJ fun H=>?_;refine aj hJ ?_;revert h;refine bS fun I K h=>?_;simp only[*,go_sem];refine aA fun c n p=>?_;have q:=aP.cons p H;try simp only[au] at p
 try simp only[*,go_sem]
 obtain ⟨d,s,t⟩:=fO (b:=c) (o:=(.cells #[.func (.func 68) #[.int .i64 a] #[]] 127)) [] ((E,bk u0 s1 i j k)::[]) q n (aE.cons F (aE.nil _));have u:aC (cZ) (bR ro c (.cells #[.func (.func 68) #[.int .i64 a] #[]] 127)) (.slice (some ⟨c,0,none⟩) 1 1) [(eK a)]:=(aC.one (r:=(cZ)) (e:=127) (cs:=#[.func (.func 68) #[.int .i64 a] #[]]) (x:=(eK a)) (own:=[(c,.cells #[.func (.func 68) #[.int .i64 a] #[]] 127)]) n (by simp[lk]) ⟨68,#[.int .i64 a],#[],rfl,⟨by simp only[go_sem],fun ab ad L _ _ _ _ _ M N O P h=>by simp only[go_sem];exact r5 a L ⟨M,N,O,P⟩ h⟩⟩)
 generalize bR ro c (.cells #[.func (.func 68) #[.int .i64 a] #[]] 127)=ae at u s d t;refine gO hJ t ?_;replace f:=f.mono d;replace g:=g.mono d;simp only[bp] at s;have Q:=aP.tl q;refine b8 hJ _ (jy g u0 f ([(eK a)]) u K) fun v al w R l=>?_;obtain ⟨ao,ar,a0,a2,a3,rfl,y,z⟩:=l;have S:=y.oc;simp only[bE] at S;have T:=z.oc;simp only[bE] at T;simp only[bp] at R;refine aK ?_;try simp only[*,go_sem]
 refine aA fun a4 a5 B=>?_;have a6:=aP.cons B Q;try simp only[au] at B
 try simp only[*,go_sem]
 refine af hJ (ah hJ ?_);simp only[*,go_sem];revert h;refine jC hJ (by simp only[*,go_sem]) (fun U h=>?_) fun U h=>?_
 ·obtain rfl:=sI h;refine ah hJ ?_;simp only[*,go_sem];refine ay ?_;simp only[*,go_sem];exact ⟨_,(d).trans w,Le.sub (List.nil_sublist _),_,rfl,aC.nil _ _⟩
 refine aI hJ (af hJ ?_);refine aj hJ ?_;revert h;refine bS fun a7 V h=>?_;obtain rfl:=sI h;simp only[*,go_sem];refine b8 hJ _ (s4 I.1 y z a V) fun v a8 W X l=>?_;obtain ⟨a9,rfl,C⟩:=l;simp only[bp] at X;obtain ⟨d89,ba,rfl,bb,bc,-⟩:=id C;refine aK ?_;try simp only[*,go_sem]
 refine ay ?_;simp only[*,go_sem];exact ⟨_,((d).trans w).trans W,Le.sub (List.nil_sublist _),_,rfl,C⟩
def w5 (a:(cR×Int))(i80:Nat)(i102:Nat)(c:Int)(st:(Int×an)):Option (Fl (Int×an) (Int×an×Int)):=
 ag (iU a.1.book (i80:Int) c) fun b=>ag (fQ a.1.book b) fun d=>cond (d) (ag (j5 a.1.book b) fun e=>ag (eF st.2 e) fun f=>cond (f) (ag (j5 a.1.book b) fun g=>some (.nx ((i80:Int),g))) (some (.nx (st.1,st.2)))) (some (.nx (st.1,st.2)))
def w6 (a:(cR×Int))(i80:Nat)(d:b6)(st:(Int×an)):Option (Fl (Int×an) (Int×an×Int)):=
 ag (k4 a.1 (i80:Int)) fun c=>ag (bB (w5 a i80) 0 c (st.1,st.2)) fun o=>aB o (fun b=>some (.nx (b.1,b.2))) (fun _ _=>none) (fun r=>some (.rt r))
def s6 (u0:ak):Option (Int×an×Int):=
 ag (gD u0 ([]:(List (ak->Option Int)))) fun a=>cond ((a.2 != 0)) (some (0,(⟨0,0⟩:an),a.2)) (ag (gd 0) fun c=>ag (bB (w6 a) 0 a.1.book.aG ((-1),c)) fun o=>aB o (fun b=>some (b.1,b.2,0)) (fun _ _=>none) (fun r=>some r))
theorem A5 {ro:Addr->Option Value}(ar:c7 ro)(u0:ak){s1 j k l:Value}(R:bK ro u0 s1 j k l){r:(Int×an×Int)}(h:s6 u0=some r):aD Tryz.prog 26 #[bv u0 s1 j k l] ⟨ro,[]⟩ (fun v _=>v= .tuple #[.int .i64 r.1,r.2.1.v,.int .i64 r.2.2]):=by
 unfold s6 at h;have a0:=R.oc;simp only[bE] at a0;refine aD.go Tryz.func26 rfl Tryz.ntmps26 Tryz.results26 (by simp) fun main J hJ A a2 hd hs=>?_;have a3:=hs 0;clear hs;refine ah hJ ?_;simp only[*,go_sem];refine aA fun w ev a4=>?_;try simp only[au] at a4
 refine aA fun z eQ a5=>?_;try simp only[au] at a5
 try simp only[*,go_sem]
 refine ah hJ ?_;revert h;refine bS fun a a6 h=>?_;simp only[*,go_sem];refine b8 hJ _ (jy ar u0 R ([]:(List (ak->Option Int))) (aC.nil _ _) a6) fun v S eS a7 B=>?_;obtain ⟨C,D,e0,E,G,rfl,b,p⟩:=B;have a8:=b.oc;simp only[bE] at a8;have a9:=p.oc;simp only[bE] at a9;simp only[bp] at a7;obtain ⟨d52,H,rfl,e1,ba,-⟩:=id b.y;refine aK ?_;try simp only[*,go_sem]
 refine aA fun I e2 bb=>?_;try simp only[au] at bb
 try simp only[*,go_sem]
 refine af hJ (ah hJ ?_);simp only[*,go_sem];revert h;refine jC hJ (by simp only[*,go_sem]) (fun bc h=>?_) fun bc h=>?_
 ·obtain rfl:=sI h;refine ah hJ ?_;simp only[*,go_sem];refine ay ?_;simp only[*,go_sem]
 refine aI hJ (af hJ ?_);refine aj hJ ?_;revert h;refine bS fun bd bj h=>?_;simp only[*,go_sem];refine bn hJ _ (ju 0 bj) (aK ?_);try simp only[*,go_sem]
 refine af hJ (ah hJ ?_);simp only[*,go_sem];refine aN hJ ?_;revert h;refine bS fun bl e bm=>?_;refine bQ hJ [2,6,8,9,25,26,27,28,29,30,31,32,33,34,35,36,37,38,39,40,41,42,43,44,45,46,47,48,49,50,51,52,53,54,55,56,57,58,59] (fun m o F'=>∃(i80:Nat) (q:Addr->Option Value) (s:Int) (f:an),m=a.1.book.aG.length - i80/\i80<=a.1.book.aG.length/\bB (w6 a) i80 (a.1.book.aG.drop i80) (s,f)=some bl/\F'=⟨q,(I,kn a.1 C D (sl d52 a.1.book.aG H) E G)::(z,rt f.num f.den)::(w,bk u0 s1 j k l)::[]⟩/\Ext S q/\slot o 25= .int .i64 (i80:Int)/\slot o 2= .int .i64 s) a.1.book.aG.length ?_ ?_
 ·refine ⟨0,S,(-1),bd,(Nat.sub_zero _).symm,Nat.zero_le _,e,rfl,Ext.refl _,?_⟩;simp only[*,go_sem]
 rintro e3 bo F' T ⟨i80,q,s,f,rfl,fa,e,rfl,K,br,bs⟩;refine fP hJ fun _ bz=>?_;replace b:=b.mono K;replace p:=p.mono K;simp only[bp] at bz;obtain ⟨U,V,W⟩:=T.pick [3,4,5,24] (by decide);simp only[*,go_sem] at U V W;clear T a2 hd a3;refine ah hJ ?_;simp only[*,go_sem];refine af hJ ?_;rcases Nat.lt_or_ge i80 a.1.book.aG.length with b0|X
 ·refine bP hJ (by simp only[*,go_sem]) ?_;refine aI hJ ?_;obtain ⟨b1,L⟩:∃x,a.1.book.aG[i80]?=some x:=⟨_,List.getElem?_eq_getElem b0⟩
  rw[c8 L] at e;revert e;refine bS fun fb h b2=>?_;unfold w6 at h;try dsimp only at h
  obtain ⟨b3,b4,b5,ca,t⟩:=b.y.el _ _ L;obtain rfl:b4=b1.cells:=ca;cases b5;have cb:=t 0 _ rfl;simp only[go_sem] at cb;have cd:=t 1 _ rfl;simp only[go_sem] at cd;have cf:=t 2 _ rfl;simp only[go_sem] at cf;clear t L;refine af hJ (aN hJ (af hJ ?_));refine aj hJ ?_;simp only[*,go_sem];refine ah hJ ?_;revert h;refine bS fun c cl h=>?_;simp only[*,go_sem];refine b8 hJ _ (s4 a.1 b p (i80:Int) cl) fun v Y Z cy B=>?_;obtain ⟨fg,rfl,ab⟩:=B;replace b:=b.mono Z;simp only[bp] at cy;obtain ⟨d95,fi,rfl,fp,M,-⟩:=id ab;refine aK ?_;try simp only[*,go_sem]
  refine aN hJ ?_;revert h;refine bS fun c0 g da=>?_;refine bQ hJ [2,8,9,32,33,34,35,36,37,38,39,40,41,42,43,44,45,46,47,48,49,50,51,52,53,54,55,56,57,58] (fun m o F'=>∃(i102:Nat) (i:Int) (d:an),m=c.length - i102/\i102<=c.length/\bB (w5 a i80) i102 (c.drop i102) (i,d)=some c0/\F'=⟨Y,(I,kn a.1 C D (sl (some b3) a.1.book.aG H) E G)::(z,rt d.num d.den)::(w,bk u0 s1 j k l)::[]⟩/\slot o 32= .int .i64 (i102:Int)/\slot o 2= .int .i64 i) c.length ?_ ?_
  ·refine ⟨0,s,f,(Nat.sub_zero _).symm,Nat.zero_le _,g,rfl,?_⟩;simp only[*,go_sem]
  rintro fr db F' N ⟨i102,i,d,rfl,fs,g,rfl,ft,fu⟩;obtain ⟨dd,df,dk⟩:=N.pick [3,4,5,6,24,25,26,27,28,29,30,31] (by decide);simp only[*,go_sem] at dd df dk;have fv:cE [2,6,8,9,25,26,27,28,29,30,31,32,33,34,35,36,37,38,39,40,41,42,43,44,45,46,47,48,49,50,51,52,53,54,55,56,57,58,59] db bo:=(N.fK (by decide)).trans (by simp only[*,go_sem]);clear N U V W bs br;refine ah hJ ?_;simp only[*,go_sem];refine af hJ ?_;rcases Nat.lt_or_ge i102 c.length with dp|ad
  ·refine bP hJ (by simp only[*,go_sem]) ?_;refine aI hJ ?_;obtain ⟨ae,O⟩:∃x,c[i102]?=some x:=⟨_,List.getElem?_eq_getElem dp⟩
   rw[c8 O] at g;revert g;refine bS fun fw h P=>?_;unfold w5 at h;(try dsimp only at h);obtain ⟨fx,dq,ds,dt,al⟩:=ab.el _ _ O;obtain rfl:dq=[.int .i64 ae]:=dt;cases ds;have du:=al 0 _ rfl;simp only[go_sem] at du;clear al O;refine af hJ (aN hJ (af hJ ?_));refine aj hJ ?_;simp only[*,go_sem];refine ah hJ ?_;revert h;refine bS fun Q dv h=>?_;simp only[*,go_sem];refine bn hJ _ (l8 a.1.book (b.mono aT) (i80:Int) ae dv) (aK ?_);(try simp only[*,go_sem]);refine aA fun gg gl dC=>?_;try simp only[au] at dC
   (try simp only[*,go_sem]);refine af hJ ?_;refine cQ hJ mixed 12 4 (by simp only[*,go_sem]) (by kernel_rfl) ?_;revert h;refine bS fun gn dE h=>?_;simp only[*,go_sem];refine ⟨_,bD hJ fun F u=>mj a.1.book (b.mono (bZ u)) Q dE,b9 ?_⟩;revert h;refine cS (fun dT h=>?_) fun dT h=>?_
   ·revert h;refine bS fun ea eb h=>?_;(try simp only[*,go_sem]);refine ⟨_,bD hJ fun F u=>so a.1.book (b.mono (bZ u)) Q eb,b9 ?_⟩;revert h;refine bS fun gp ec h=>?_;(try simp only[*,go_sem]);refine ⟨_,bD hJ fun F u=>iS d ea ec,b9 ?_⟩;(try simp only[*,go_sem]);revert h;refine jC hJ (by simp only[*,go_sem]) (fun ed h=>?_) fun ed h=>?_
    ·refine aj hJ ?_;revert h;refine bS fun eh et h=>?_;obtain rfl:=sI h;simp only[*,go_sem];refine bn hJ _ (so a.1.book (b.mono aT) Q et) (aK ?_);(try simp only[*,go_sem]);have ao:=cq (n:=i102) (by have:=M;omega);refine aj hJ ?_;simp only[*,go_sem];refine ⟨c.length - (i102+1),by omega,_,Le.sub (List.Sublist.cons _ (List.Sublist.refl _)),i102+1,(i80:Int),eh,rfl,by omega,P,rfl,?_⟩;simp only[*,go_sem]
    obtain rfl:=sI h;refine aI hJ ?_;have ao:=cq (n:=i102) (by have:=M;omega);refine aj hJ ?_;simp only[*,go_sem];refine ⟨c.length - (i102+1),by omega,_,Le.sub (List.Sublist.cons _ (List.Sublist.refl _)),i102+1,i,d,rfl,by omega,P,rfl,?_⟩;simp only[*,go_sem]
   obtain rfl:=sI h;(try simp only[*,go_sem]);refine bM hJ (by simp only[*,go_sem]) ?_;refine aI hJ ?_;have ao:=cq (n:=i102) (by have:=M;omega);refine aj hJ ?_;simp only[*,go_sem];refine ⟨c.length - (i102+1),by omega,_,Le.sub (List.Sublist.cons _ (List.Sublist.refl _)),i102+1,i,d,rfl,by omega,P,rfl,?_⟩;simp only[*,go_sem]
  have gB:=Nat.not_lt.2 ad;refine bM hJ (by simp only[*,go_sem]) ?_;rw[List.drop_eq_nil_of_le ad] at g;obtain rfl:=sI g;clear g;have h:=da;dsimp only[aB] at h;obtain rfl:=sI h;refine bJ ?_;simp only[go_sem];have gC:=cq (n:=i80) (by have:=ba;omega);refine aj hJ ?_;simp only[*,go_sem];refine ⟨a.1.book.aG.length - (i80+1),by omega,_,Le.sub (List.Sublist.refl _),i80+1,Y,i,d,rfl,by omega,b2,rfl,(K.trans Z),?_⟩;simp only[*,go_sem]
 have gM:=Nat.not_lt.2 X;refine bM hJ (by simp only[*,go_sem]) ?_;rw[List.drop_eq_nil_of_le X] at e;obtain rfl:=sI e;clear e;have h:=bm;dsimp only[aB] at h;obtain rfl:=sI h;refine bJ ?_;simp only[go_sem];refine af hJ ?_;refine eE hJ mixed [3,4] (.pure 0 (.rd 1 (.pure 2 (.last 3 (.pure 4 .done))))) ⟨q,[(I,kn a.1 C D (sl d52 a.1.book.aG H) E G),(z,rt f.num f.den),(w,bk u0 s1 j k l)]⟩ (by simp only[*,go_sem]) (by kernel_rfl) ?_;simp only[*,go_sem];refine ay ?_;simp only[*,go_sem]
def w7 (b:Int)(a:(cR×Int))(i103:Nat)(c:Int)(st:(List an)):Option (Fl (List an) (an×an×Int)):=
 ag (iU a.1.book b c) fun d=>ag (sn a.1.book d) fun e=>ag (cY st ([e])) fun f=>some (.nx f)
def w8 (u0:ak)(b:Int):Option (an×an×Int):=
 ag (gD u0 ([(eK b)])) fun a=>cond ((a.2 != 0)) (some ((⟨0,0⟩:an),(⟨0,0⟩:an),a.2)) (ag (k4 a.1 b) fun f=>ag (bB (w7 b a) 0 f ([]:List an)) fun o=>aB o (fun c=>ag (bf c 0) fun d=>ag (jS c 1 (c.length:Int)) fun e=>ag (ij r8 d e) fun g=>ag (ij eF d e) fun h=>some (g,h,0)) (fun _ _=>none) (fun r=>some r))
theorem Hg {ro:Addr->Option Value}(S:c7 ro)(u0:ak){s1 f g i:Value}(P:bK ro u0 s1 f g i)(a:Int){r:(an×an×Int)}(h:w8 u0 a=some r):aD Tryz.prog 21 #[bv u0 s1 f g i,.int .i64 a] ⟨ro,[]⟩ (fun v _=>v= .tuple #[r.1.v,r.2.1.v,.int .i64 r.2.2]):=by
 unfold w8 at h;have b3:=P.oc;simp only[bE] at b3;refine aD.go Tryz.func21 rfl Tryz.ntmps21 Tryz.results21 (by simp) fun main J hJ A b4 hd hs=>?_;have b5:=hs 0;have k1:=hs 1;clear hs;refine ah hJ ?_;simp only[*,go_sem];refine aA fun j G ca=>?_;try simp only[au] at ca
 refine aA fun t H cb=>?_;try simp only[au] at cb
 refine aA fun u I cd=>?_;try simp only[au] at cd
 try simp only[*,go_sem]
 refine af hJ ?_;refine az hJ fun cf=>?_;refine aj hJ ?_;revert h;refine bS fun d cl h=>?_;simp only[*,go_sem];refine aA fun K al ao=>?_;have ar:=aP.cons ao cf;try simp only[au] at ao
 try simp only[*,go_sem]
 obtain ⟨T,L,a0⟩:=fO (b:=K) (o:=(.cells #[.func (.func 68) #[.int .i64 a] #[]] 127)) [] ((u,rt 0 0)::(t,rt 0 0)::(j,bk u0 s1 f g i)::[]) ar al (aE.cons I (aE.cons H (aE.cons G (aE.nil _))));have a2:aC (cZ) (bR ro K (.cells #[.func (.func 68) #[.int .i64 a] #[]] 127)) (.slice (some ⟨K,0,none⟩) 1 1) [(eK a)]:=(aC.one (r:=(cZ)) (e:=127) (cs:=#[.func (.func 68) #[.int .i64 a] #[]]) (x:=(eK a)) (own:=[(K,.cells #[.func (.func 68) #[.int .i64 a] #[]] 127)]) al (by simp[lk]) ⟨68,#[.int .i64 a],#[],rfl,⟨by simp only[go_sem],fun a3 a4 M _ _ _ _ _ cy cS c0 da h=>by simp only[go_sem];exact r5 a M ⟨cy,cS,c0,da⟩ h⟩⟩)
 generalize bR ro K (.cells #[.func (.func 68) #[.int .i64 a] #[]] 127)=g1 at a2 L T a0;refine gO hJ a0 ?_;replace P:=P.mono T;replace I:=L.hd;replace H:=L.tl.hd;replace G:=L.tl.tl.hd;replace S:=S.mono T;simp only[bp] at L;have db:=aP.tl ar;refine b8 hJ _ (jy S u0 P ([(eK a)]) a2 cl) fun v g2 g3 Q U=>?_;obtain ⟨w,y,z,B,C,rfl,D,a5⟩:=U;have dd:=D.oc;simp only[bE] at dd;have df:=a5.oc;simp only[bE] at df;replace I:=Q.hd;replace H:=Q.tl.hd;replace G:=Q.tl.tl.hd;simp only[bp] at Q;refine aK ?_;try simp only[*,go_sem]
 refine aA fun E a6 a7=>?_;have g4:=aP.cons a7 db;try simp only[au] at a7
 try simp only[*,go_sem]
 refine af hJ (ah hJ ?_);simp only[*,go_sem];revert h;refine jC hJ (by simp only[*,go_sem]) (fun dk h=>?_) fun dk h=>?_
 ·obtain rfl:=sI h;refine ah hJ ?_;simp only[*,go_sem];refine ay ?_;simp only[*,go_sem]
 refine aI hJ (af hJ ?_);refine aj hJ ?_;simp only[*,go_sem];refine af hJ (ah hJ ?_);revert h;refine bS fun k dp h=>?_;simp only[*,go_sem];refine b8 hJ _ (s4 d.1 D a5 a dp) fun v R dq N U=>?_;obtain ⟨ha,rfl,a8⟩:=U;replace D:=D.mono dq;replace a6:=N.hd;replace I:=N.tl.hd;replace H:=N.tl.tl.hd;replace G:=N.tl.tl.tl.hd;simp only[bp] at N;obtain ⟨d91,hc,rfl,hf,ds,-⟩:=id a8;refine aK ?_;try simp only[*,go_sem]
 refine aN hJ ?_;revert h;refine bS fun dt p du=>?_;refine bQ hJ [8,10,29,30,31,32,33,34,35,36,37,38,39,40,41,42,43,44] (fun m a9 F'=>∃(i103:Nat) (d97:Option Addr) (O:Nat) (V:List (Nat×Obj)) (c:(List an)),m=k.length - i103/\i103<=k.length/\bB (w7 a d) i103 (k.drop i103) c=some dt/\F'=⟨R,(E,kn d.1 w y z B C)::(u,rt 0 0)::(t,rt 0 0)::(j,bk u0 s1 f g i)::V⟩/\aO kS R 23 (.slice d97 c.length O) c V/\c.length<=O/\slot a9 29= .int .i64 (i103:Int)/\slot a9 8= .slice d97 c.length O) k.length ?_ ?_
 ·refine ⟨0,none,0,[],([]:List an),(Nat.sub_zero _).symm,Nat.zero_le _,p,rfl,aO.nil _ _ _,Nat.le_refl _,?_⟩;simp only[*,go_sem]
 rintro hg hh F' ba ⟨i103,d97,O,V,c,rfl,hi,p,rfl,bb,hj,hk,hl⟩;obtain ⟨dv,dC,dE⟩:=ba.pick [1,4,5,6,7,27,28] (by decide);simp only[*,go_sem] at dv dC dE;clear ba b4 hd b5 k1;refine ah hJ ?_;simp only[*,go_sem];refine af hJ ?_;rcases Nat.lt_or_ge i103 k.length with dT|bc
 ·refine bP hJ (by simp only[*,go_sem]) ?_;refine aI hJ ?_;obtain ⟨bd,W⟩:∃x,k[i103]?=some x:=⟨_,List.getElem?_eq_getElem dT⟩
  rw[c8 W] at p;revert p;refine bS fun hn h ea=>?_;unfold w7 at h;try dsimp only at h
  obtain ⟨ho,eb,ec,ed,bj⟩:=a8.el _ _ W;obtain rfl:eb=[.int .i64 bd]:=ed;cases ec;have eh:=bj 0 _ rfl;simp only[go_sem] at eh;clear bj W;refine af hJ (aN hJ (af hJ ?_));refine az hJ fun hp=>?_;refine aj hJ ?_;simp only[*,go_sem];refine az hJ fun et=>?_;refine fc hJ mixed 9 ⟨R,[(E,kn d.1 w y z B C),(u,rt 0 0),(t,rt 0 0),(j,bk u0 s1 f g i)]⟩ (by simp only[*,go_sem]) (by kernel_rfl) ?_;revert h;refine bS fun ev eQ h=>?_;simp only[*,go_sem];refine ⟨_,bD hJ fun F q=>l8 d.1.book (D.mono (bZ q)) a bd eQ,b9 ?_⟩;revert h;refine bS fun s eS h=>?_;try simp only[*,go_sem]
  refine ⟨_,bD hJ fun F q=>AN d.1.book (D.mono (bZ q)) ev eS,?_⟩;revert h;refine bS fun e0 e1 h=>?_;obtain rfl:=sI h;obtain ⟨e3,bl⟩:=dr e1;try simp only[*,go_sem]
  refine aA fun bm fa bo=>?_;have fb:=aP.cons bo et;try simp only[au] at bo
  try simp only[*,go_sem]
  refine ee (r:=kS) (l:=c) (x:=s) (cs:=#[.int .i64 s.num,.int .i64 s.den]) (e2:=23) [(bm,rt s.num s.den),(E,kn d.1 w y z B C),(u,rt 0 0),(t,rt 0 0),(j,bk u0 s1 f g i)] [] bb fb e3 rfl (by simp only[*,go_sem]) fa rfl rfl z3 z3 EP z0 rfl ER (by decide) (by decide) (fun hq br X fg fi hr=>?_);simp only[aV] at fi;subst fg;rw[<-bl] at X;clear bl;obtain ⟨d125,fp,rfl,fr⟩:=X.len;refine ⟨⟨R,(bm,rt s.num s.den)::(E,kn d.1 w y z B C)::(u,rt 0 0)::(t,rt 0 0)::(j,bk u0 s1 f g i)::br⟩,Le.refl _,?_⟩;refine ⟨by simp only[*,go_sem],lU ?_⟩;try simp only[*,go_sem]
  have ht:=cq (n:=i103) (by have:=ds;omega);refine aj hJ ?_;simp only[*,go_sem];refine ⟨k.length - (i103+1),by omega,_,Le.sub (List.Sublist.cons _ (List.Sublist.refl _)),i103+1,d125,fp,br,e0,rfl,by omega,ea,rfl,X,fr,?_⟩;simp only[*,go_sem]
 have hv:=Nat.not_lt.2 bc;refine bM hJ (by simp only[*,go_sem]) ?_;rw[List.drop_eq_nil_of_le bc] at p;obtain rfl:=sI p;clear p;have h:=du;dsimp only[aB] at h;refine bJ ?_;simp only[go_sem];refine af hJ ?_;refine az hJ fun hx=>?_;refine aj hJ ?_;simp only[*,go_sem];refine af hJ ?_;refine az hJ fun bs=>?_;obtain ⟨fs,hy,ft,Y,fu⟩:=bb.eY [(E,kn d.1 w y z B C),(u,rt 0 0),(t,rt 0 0),(j,bk u0 s1 f g i)] [] bs (aE.cons a6 (aE.cons I (aE.cons H (aE.cons G (aE.nil _)))));clear bs;refine cG hJ fu ?_;obtain ⟨hz,hA,-⟩:=Y.op;simp only[bp] at ft;refine fc hJ mixed 13 ⟨fs,[(E,kn d.1 w y z B C),(j,bk u0 s1 f g i)]⟩ (by simp only[*,go_sem]) (by kernel_rfl) ?_;revert h;refine bS fun Z fv h=>?_;obtain ⟨hB,hD,bz⟩:=cH fv;obtain ⟨hE,fw,fx,gg,ab⟩:=Y.el _ _ bz;obtain rfl:fw=Z.cells:=gg;cases fx;have gl:=ab 0 _ rfl;simp only[go_sem] at gl;have gn:=ab 1 _ rfl;simp only[go_sem] at gn;clear ab bz;revert h;refine bS fun b0 gp h=>?_;obtain ⟨hF,hG,hI,b1⟩:=pq gp;have b2:(1:Int).toNat<=((c.length:Int)).toNat:=by omega
 have gB:((c.length:Int)).toNat<=O:=by omega
 have hK:0<=((c.length:Int)):=by omega
 obtain ⟨d143,gC,gM,ad⟩:=aC.pF Y (1:Int).toNat ((c.length:Int)).toNat b2 (by omega) b1;simp only[go_sem] at gC gM b2 gB;obtain ⟨_,_,gT,hL,hM,hN⟩:=id ad;cases gT;clear b1;revert h;refine bS fun hP gV h=>?_;try simp only[*,go_sem]
 refine ⟨_,bD hJ fun F q=>nj (dK:=75) (eg:=#[]) (ei:=#[]) r8 ⟨by simp only[go_sem],fun a3 a4 M ae _ h=>by simp only[go_sem];exact Gb M ae h⟩ Z b0 (ad.mono (bZ q)) gV,b9 ?_⟩;revert h;refine bS fun hQ g0 h=>?_;obtain rfl:=sI h;try simp only[*,go_sem]
 refine ⟨_,bD hJ fun F q=>nj (dK:=76) (eg:=#[]) (ei:=#[]) eF ⟨by simp only[go_sem],fun a3 a4 M ae _ h=>by simp only[go_sem];exact iS M ae h⟩ Z b0 (ad.mono (bZ q)) g0,?_⟩;try simp only[*,go_sem]
 refine ay ?_;simp only[*,go_sem]
def j7 (s:List aX)(y:aX):Bool:=s.any fun z=>z.e0==y.e0&&(z.e1==y.e1&&z.e2==y.e2)
def nN (y:aX)(s:List aX):Option (Fl (List aX) Unit):=some (.nx (cond (j7 s y) s (s++[y])))
theorem w9 {x y:aX}(h:x.v=y.v):x=y:=by
 obtain ⟨a,b,c⟩:=x;obtain ⟨d,e,f⟩:=y;simp only[aX.v,Value.agg.injEq,Array.mk.injEq,List.cons.injEq,Value.int.injEq,true_and,and_true] at h;obtain ⟨rfl,rfl,rfl⟩:=h;rfl
theorem xb {s:List aX}{y:aX}:j7 s y=true↔y.v∈s.map aX.v:=by
 unfold j7;simp only[List.any_eq_true,Bool.and_eq_true,beq_iff_eq,List.mem_map];constructor
 ·rintro ⟨z,d,e,f,g⟩;refine ⟨z,d,?_⟩;obtain ⟨a,b,c⟩:=z;obtain ⟨i,j,k⟩:=y;simp only at e f g;subst e f g;rfl
 ·rintro ⟨z,d,h⟩;obtain rfl:=w9 h;exact ⟨z,d,rfl,rfl,rfl⟩
theorem Hh (x y:aX)(F:aa):∃b,(∀(Q:Bool->aa->Prop),Q b F->aU Tryz.prog (Op.equal 121 x.v y.v) Q F)/\(b=true↔y.v=x.v):=by
 have a:m0 Tryz.prog 121=some [true,true,true]:=by kernel_rfl
 have he:lP Tryz.prog 121 x.v y.v=some (x.e0==y.e0&&(x.e1==y.e1&&(x.e2==y.e2&&true))):=by
  simp only[lP,aX.v,a,iK,gx,Bool.and_self,if_true]
 refine ⟨_,fun Q h=>(uV he h).1,?_⟩;simp only[Bool.and_eq_true,beq_iff_eq,and_true];constructor
 ·rintro ⟨c,d,e⟩;simp only[aX.v,c,d,e]
 ·intro h;obtain rfl:=w9 h;exact ⟨rfl,rfl,rfl⟩
theorem Hi (x:aX)(F:aa)(Q:Unit->aa->Prop)(h:Q () F):aU Tryz.prog (Instr.checkKey false 10000 121 x.v) Q F:=by
 have c:Tryz.prog.underlying 121=some (.array 3 3):=by kernel_rfl
 have d:Tryz.prog.underlying 3=some (.int .i64):=by kernel_rfl
 have f:bX Tryz.prog 3=some 1:=by kernel_rfl
 have g:cx Tryz.prog 3=some false:=by kernel_rfl
 have e:(10000:Nat)=9998+1+1:=rfl;rw[e];unfold Instr.checkKey;simp only[bq,dn,c,aX.v];simp only[Std.Legacy.Range.forIn_eq_forIn_range',Std.Legacy.Range.size,Nat.sub_zero,Nat.add_one_sub_one,Nat.div_one,List.range',List.forIn_cons,List.forIn_nil,bq,eH,f,part,lM,g,bF,Bool.false_eq_true,if_false,dg];have b:∀(k:IntKind) (a:Int) (Q:Unit->aa->Prop) (G:aa),Q () G->aU Tryz.prog (Instr.checkKey false 9999 3 (.int k a)) Q G:=by
  intro k a Q G i;show aU Tryz.prog (Instr.checkKey false (9998+1) 3 (.int k a)) Q G;unfold Instr.checkKey;simp only[bq,dn,d,bF];exact i
 exact b .i64 x.e0 _ _ (b .i64 x.e1 _ _ (b .i64 x.e2 _ _ h))
def nO (u0:ak):Option (Int×Int):=
 ag (eU u0 ([]:(List (ak->Option Int)))) fun a=>cond ((a.2 != 0)) (some (0,a.2)) (ag (gb nN (mo a.1) ([]:List aX)) fun o=>aB o (fun st=>some ((st.length:Int),0)) (fun _ _=>none) (fun _=>none))
theorem A6 {ro:Addr->Option Value}(L:c7 ro)(u0:ak){s1 w x B:Value}(E:bK ro u0 s1 w x B){r:(Int×Int)}(h:nO u0=some r):aD Tryz.prog 14 #[bv u0 s1 w x B] ⟨ro,[]⟩ (fun v _=>v= .tuple #[.int .i64 r.1,.int .i64 r.2]):=by
 unfold nO at h;have M:=E.oc;simp only[bE] at M;refine aD.vH Tryz.func14 rfl Tryz.ntmps14 Tryz.results14 (by simp) fun main J hJ A F hd hs=>?_;have N:=hs 0;clear hs;refine ah hJ ?_;simp only[*,go_sem];refine aA fun O bc P=>?_;try simp only[au] at P
 try simp only[*,go_sem]
 refine ah hJ ?_;revert h;refine bS fun G R h=>?_;simp only[*,go_sem];refine b8 hJ _ (j6 L u0 E ([]:(List (ak->Option Int))) (aC.nil _ _) R) fun v H bd S T=>?_;obtain ⟨U,V,W,X,rfl,l⟩:=T;have Y:=l.oc;simp only[bE] at Y;simp only[bp] at S;refine aK ?_;try simp only[*,go_sem]
 refine aA fun Z bj ab=>?_;try simp only[au] at ab
 try simp only[*,go_sem]
 refine af hJ (ah hJ ?_);simp only[*,go_sem];revert h;refine jC hJ (by simp only[*,go_sem]) (fun ad h=>?_) fun ad h=>?_
 ·obtain rfl:=sI h;refine ah hJ ?_;simp only[*,go_sem];refine az hJ fun C=>?_;replace C:=C.nd;try simp only[keys,List.map_cons,List.map_nil,List.map_append,List.cons_append,List.nil_append,List.nodup_cons,List.mem_cons,List.mem_append,List.not_mem_nil,or_false,not_or] at C
  refine ay ?_;simp only[*,go_sem]
 refine aI hJ ?_;revert h;refine bS fun o j h=>?_;repeat refine af hJ ?_
 refine aj hJ ?_;simp only[*,go_sem,-j];refine FH fun k f70=>?_;have bm:=eC f70;have ae:=fC f70;try simp only[au] at ae
 refine aK ?_;simp only[*,go_sem,-j];refine aA fun q bo al=>?_;try simp only[au] at al
 try simp only[*,go_sem,-j]
 repeat refine af hJ ?_
 refine aj hJ ?_;simp only[*,go_sem,-j];refine vG hJ aX.v (by simp only[*,go_sem]) (sG G.1 l.e l.p l.y l.t) (by kernel_rfl) (by kernel_rfl) (ρ:=Unit) (fun (s:List aX) ao=>∃(es:Array MapEntry) (b:Nat),ao=(q,.cells #[.map (some k)] 118)::(k,.map es b)::(Z,bl G.1 U V W X)::(O,bk u0 s1 w x B)::[]/\es.toList.map (·.key)=s.map aX.v) (f:=nN) j ?_ ?_ (by decide) ?_ ?_
 ·exact ⟨#[],0,rfl,rfl⟩
 ·rintro d4 ar D a0 c d br I main J hJ _ ⟨es,b,rfl,g⟩;obtain rfl:=Option.some.inj I;clear I;generalize m:l7 _ _ _=u;have bs:sz u=24:=by rw[<-m,vF];simp only[*,go_sem]
  have bz:u.defers=[]:=by rw[<-m];rfl
  have b0:slot u 6= .pointer (some ⟨q,0,none⟩):=by rw[<-m,nc];simp only[*,go_sem]
  have b1:slot u 19=d.v:=by rw[<-m,nc];simp only[*,go_sem]
  clear m F hd N;refine fP hJ fun i a=>?_;replace a:aE H ((ar,.loop D)::(d4,.deferred (some []))::(q,.cells #[.map (some k)] 118)::(k,.map es b)::_):=a;have b2:=a.hd;have b3:=a.tl.hd;have a2:=a.tl.tl.hd;have a3:=a.tl.tl.tl.hd;clear a;replace i:=i.nd;simp only[keys,List.map_cons,List.map_nil,List.map_append,List.cons_append,List.nil_append,List.nodup_cons,List.mem_cons,List.mem_append,List.not_mem_nil,or_false,not_or] at i;refine aj hJ ?_;simp only[*,go_sem,aX.v];refine aA fun b4 b5 a4=>?_;try simp only[au] at a4
  try simp only[*,go_sem,aX.v]
  simp only[pN,go_sem];refine ⟨D,by simp only[*,go_sem],a0,?_⟩;try simp only[*,go_sem,aX.v]
  refine aN hJ (aj hJ ?_);simp only[*,go_sem,aX.v];refine FJ (es:=es) (clock:=b) (by kernel_rfl:Tryz.prog.underlying 118=some (.map 121 4)) (by simp only[*,go_sem]) (fun Q h=>Hi d _ Q h) (by kernel_rfl:Tryz.prog.underlying 121=some (.array 3 3)) (fun e he=>?_) fun K a5 a6=>?_
  ·have:e.key∈es.toList.map (·.key):=List.mem_map_of_mem he;rw[g] at this;obtain ⟨z,F,a7⟩:=List.mem_map.1 this;rw[<-a7];exact Hh d z _
  ·simp only[rU,lZ,go_sem, *];refine ⟨{D with state:=.busy},rfl,?_⟩;simp only[*,go_sem];refine ⟨_,Le.sub (List.Sublist.cons _ (List.Sublist.refl _)),rfl,K,a5,rfl,?_⟩;have a8:K.toList.map (·.key)=(cond (j7 c d) c (c++[d])).map aX.v:=by
    rcases a6 with ⟨hm,he⟩|⟨hm,he⟩
    ·have:j7 c d=true:=by rw[xb,<-g];exact hm
     rw[this,he,g];rfl
    ·have:j7 c d=false:=by
      rw[Bool.eq_false_iff];intro hh;rw[xb,<-g] at hh;exact hm hh
     rw[this,he,g];simp only[cond_false,List.map_append,List.map_cons,List.map_nil];rfl
   exact a8
 ·rintro d49 a9 ba _ c ⟨es,b,rfl,g⟩ i a;refine ⟨fun n=>?_,fun k1 n=>?_⟩
  ·subst n;dsimp only[aB] at h;obtain rfl:=sI h;clear j;replace a:aE H ((a9,.loop ba)::(d49,.deferred (some []))::(q,.cells #[.map (some k)] 118)::(k,.map es b)::_):=a;have a2:=a.tl.tl.hd;have a3:=a.tl.tl.tl.hd;clear a;replace i:=i.nd;simp only[keys,List.map_cons,List.map_nil,List.map_append,List.cons_append,List.nil_append,List.nodup_cons,List.mem_cons,List.mem_append,List.not_mem_nil,or_false,not_or] at i;repeat refine af hJ ?_
   refine aj hJ ?_;simp only[*,go_sem];have bb:es.size=c.length:=by simpa using congrArg List.length g
   refine FI (es:=es) (clock:=b) rfl (by kernel_rfl:Tryz.prog.underlying 118=some (.map 121 4)) (by simp only[*,go_sem]) ?_;rw[bb];refine ay ?_;simp only[*,go_sem]
  ·subst n;dsimp only[aB] at h;cases h
 ·intro k1 ca n;subst n;dsimp only[aB] at h;cases h
def eA (u0:Int)(a:Int)(b:Int):Option Bool:=
 cond (decide (a<=u0)) (some (decide (u0<=b))) (some false)
theorem gR {ro:Addr->Option Value}(u0:Int)(a:Int)(b:Int){r:Bool}(h:eA u0 a b=some r):aD Tryz.prog 16 #[.int .i64 u0,.int .i64 a,.int .i64 b] ⟨ro,[]⟩ (fun v _=>v= .bool r):=by
 unfold eA at h;refine aD.go Tryz.func16 rfl Tryz.ntmps16 Tryz.results16 (by simp) fun main J hJ A d hd hs=>?_;have e:=hs 0;have k1:=hs 1;have f:=hs 2;clear hs;refine ah hJ ?_;simp only[*,go_sem];refine ah hJ ?_;revert h;refine cS (fun c h=>?_) fun c h=>?_
 ·obtain rfl:=sI h;try simp only[*,go_sem]
  refine ay ?_;simp only[*,go_sem]
 obtain rfl:=sI h;try simp only[*,go_sem]
 refine ay ?_;simp only[*,go_sem]
def mz (u0:ak)(a:Int):Option Bool:=
 ag (bf u0.av 0) fun b=>ag (bf u0.av (IntKind.i64.wrap ((u0.av.length:Int) - 1))) fun c=>ag (eA a b.aH c.aH) fun d=>some d
theorem Hj {ro:Addr->Option Value}(u0:ak){s1 f g i:Value}(a:bK ro u0 s1 f g i)(b:Int){r:Bool}(h:mz u0 b=some r):aD Tryz.prog 128 #[bv u0 s1 f g i,.int .i64 b] ⟨ro,[]⟩ (fun v _=>v= .bool r):=by
 obtain ⟨d3,c4,rfl,E,G,-⟩:=id a.e;unfold mz at h;refine aD.go Tryz.func128 rfl Tryz.ntmps128 Tryz.results128 (by simp) fun main J hJ A H hd hs=>?_;have I:=hs 0;have k1:=hs 1;clear hs;refine ah hJ ?_;simp only[*,go_sem];refine aA fun K L n=>?_;try simp only[au] at n
 try simp only[*,go_sem]
 refine af hJ ?_;refine cQ hJ mixed 17 1 (by simp only[*,go_sem]) (by kernel_rfl) ?_;revert h;refine bS fun j o h=>?_;obtain ⟨M,N,k⟩:=cH o;obtain ⟨O,p,q,s,c⟩:=a.e.el _ _ k;obtain rfl:p=j.cells:=s;cases q;have t:=c 0 _ rfl;simp only[go_sem] at t;have u:=c 1 _ rfl;simp only[go_sem] at u;clear c k;revert h;refine bS fun l w h=>?_;obtain ⟨P,Q,m⟩:=cH w;obtain ⟨R,x,y,z,d⟩:=a.e.el _ _ m;obtain rfl:x=l.cells:=z;cases y;have B:=d 0 _ rfl;simp only[go_sem] at B;have C:=d 1 _ rfl;simp only[go_sem] at C;clear d m;revert h;refine bS fun S D h=>?_;obtain rfl:=sI h;try simp only[*,go_sem]
 refine ⟨_,bD hJ fun F T=>gR b j.aH l.aH D,b9 ?_⟩;try simp only[*,go_sem]
 refine ay ?_;simp only[*,go_sem]
def nP (u0:ak)(a:Int):Option Bool:=
 ag (eA a 0 (IntKind.i64.wrap ((u0.aG.length:Int) - 1))) fun b=>some b
theorem Hl {ro:Addr->Option Value}(u0:ak){s1 c d f:Value}(a:bK ro u0 s1 c d f)(b:Int){r:Bool}(h:nP u0 b=some r):aD Tryz.prog 130 #[bv u0 s1 c d f,.int .i64 b] ⟨ro,[]⟩ (fun v _=>v= .bool r):=by
 obtain ⟨d3,c4,rfl,j,k,-⟩:=id a.e;obtain ⟨d10,l,rfl,m,n,-⟩:=id a.p;obtain ⟨d17,o,rfl,q,s,-⟩:=id a.y;obtain ⟨d24,u,rfl,w,x,-⟩:=id a.t;unfold nP at h;refine aD.go Tryz.func130 rfl Tryz.ntmps130 Tryz.results130 (by simp) fun main J hJ A z hd hs=>?_;have B:=hs 0;have k1:=hs 1;clear hs;refine ah hJ ?_;simp only[*,go_sem];refine aA fun C D g=>?_;try simp only[au] at g
 try simp only[*,go_sem]
 refine ah hJ ?_;revert h;refine bS fun E i h=>?_;obtain rfl:=sI h;simp only[*,go_sem];refine bn hJ _ (gR b 0 (IntKind.i64.wrap ((u0.aG.length:Int) - 1)) i) (aK ?_);try simp only[*,go_sem]
 refine ay ?_;simp only[*,go_sem]
def k6 (u0:an)(a:an):Option Bool:=
 some (decide ((IntKind.i64.wrap (u0.num*a.den))<(IntKind.i64.wrap (a.num*u0.den))))
def xd (st:(Int×Int)):Option (Fl (Int×Int) an):=
 cond (decide (0<st.2)) (ag (ga st.1 st.2) fun a=>some (.nx (st.2,a))) (some (.bk (st.1,st.2)))
def nS (st:(Int×Int)):Option (Fl (Int×Int) an):=
 cond (decide (0<st.2)) (ag (ga st.1 st.2) fun a=>some (.nx (st.2,a))) (some (.bk (st.1,st.2)))
def ir (u0:Int)(a:Int):Option an:=
 cond (decide (a<0)) (ag (aR (xd) fu ((if IntKind.i64.wrap (0 - u0)<IntKind.i64.wrap (0 - (IntKind.i64.wrap (0 - u0))) then IntKind.i64.wrap (0 - (IntKind.i64.wrap (0 - u0))) else IntKind.i64.wrap (0 - u0)),(IntKind.i64.wrap (0 - a)))) fun o=>aB o (fun b=>ag (fD (IntKind.i64.wrap (0 - u0)) b.1) fun d=>ag (fD (IntKind.i64.wrap (0 - a)) b.1) fun e=>some (⟨d,e⟩:an)) (fun _ _=>none) (fun r=>some r)) (ag (aR (nS) fu ((if u0<IntKind.i64.wrap (0 - u0) then IntKind.i64.wrap (0 - u0) else u0),a)) fun o=>aB o (fun c=>ag (fD u0 c.1) fun f=>ag (fD a c.1) fun g=>some (⟨f,g⟩:an)) (fun _ _=>none) (fun r=>some r))
theorem Ho {ro:Addr->Option Value}(u0:Int)(b:Int){r:an}(h:ir u0 b=some r):aD Tryz.prog 35 #[.int .i64 u0,.int .i64 b] ⟨ro,[]⟩ (fun v _=>v=r.v):=by
 unfold ir at h;refine aD.go Tryz.func35 rfl Tryz.ntmps35 Tryz.results35 (by simp) fun main J hJ A n hd hs=>?_;have o:=hs 0;have k1:=hs 1;clear hs;refine ah hJ ?_;simp only[*,go_sem];refine aA fun p r1 n1=>?_;try simp only[au] at n1
 try simp only[*,go_sem]
 refine af hJ (ah hJ ?_);simp only[*,go_sem];revert h;refine jC hJ (by simp only[*,go_sem]) (fun B h=>?_) fun B h=>?_
 ·refine aj hJ ?_;simp only[*,go_sem];refine ah hJ ?_;simp only[*,go_sem];refine af hJ (aN hJ ?_);revert h;refine bS fun C c D=>?_;refine bQ hJ [5,6,18,19,20,21,22,23] (fun m a F'=>∃(f:Int) (v4:Int),aR (xd) m (f,v4)=some C/\F'=⟨ro,(p,rt 0 0)::[]⟩/\slot a 5= .int .i64 f/\slot a 6= .int .i64 v4) fu ?_ ?_
  ·refine ⟨(if IntKind.i64.wrap (0 - u0)<IntKind.i64.wrap (0 - (IntKind.i64.wrap (0 - u0))) then IntKind.i64.wrap (0 - (IntKind.i64.wrap (0 - u0))) else IntKind.i64.wrap (0 - u0)),(IntKind.i64.wrap (0 - b)),c,rfl,?_⟩;simp only[*,go_sem]
  rintro g R F' q ⟨f,v4,c,rfl,S,T⟩;obtain ⟨E,F,G⟩:=q.pick [0,1,4] (by decide);simp only[*,go_sem] at E F G;clear q n hd o k1;obtain _|g:=g
  ·exact absurd c (by simp only[aR,reduceCtorEq,not_false_eq_true])
  revert c;refine bS fun U h i=>?_;unfold xd at h;try dsimp only at h
  refine af hJ (ah hJ ?_);simp only[*,go_sem];revert h;refine jC hJ (by simp only[*,go_sem]) (fun H h=>?_) fun H h=>?_
  ·refine aI hJ (aN hJ ?_);refine cQ hJ mixed 6 1 (by simp only[*,go_sem]) (by kernel_rfl) ?_;revert h;refine bS fun I s h=>?_;obtain rfl:=sI h;obtain ⟨V,W⟩:=m6 s;clear s;(try simp only[*,go_sem]);refine ⟨g,Nat.lt_succ_self _,_,Le.sub (List.Sublist.refl _),v4,I,i,rfl,?_⟩;simp only[*,go_sem]
  obtain rfl:=sI h;refine bJ ?_;simp only[go_sem];obtain rfl:=sI i;clear i;have h:=D;dsimp only[aB] at h;refine af hJ ?_;refine cQ hJ mixed 7 0 (by simp only[*,go_sem]) (by kernel_rfl) ?_;revert h;refine bS fun X t h=>?_;obtain ⟨Y,Z⟩:=jT t;clear t;revert h;refine bS fun ab u h=>?_;obtain rfl:=sI h;obtain ⟨ad,ae⟩:=jT u;clear u;try simp only[*,go_sem]
  refine ay ?_;simp only[*,go_sem]
 refine aI hJ (af hJ ?_);refine aj hJ ?_;simp only[*,go_sem];refine af hJ (aN hJ ?_);revert h;refine bS fun K d L=>?_;refine bQ hJ [5,6,18,19,20,21,22,23] (fun m a F'=>∃(j:Int) (e:Int),aR (nS) m (j,e)=some K/\F'=⟨ro,(p,rt 0 0)::[]⟩/\slot a 5= .int .i64 j/\slot a 6= .int .i64 e) fu ?_ ?_
 ·refine ⟨(if u0<IntKind.i64.wrap (0 - u0) then IntKind.i64.wrap (0 - u0) else u0),b,d,rfl,?_⟩;simp only[*,go_sem]
 rintro k al F' w ⟨j,e,d,rfl,ao,ar⟩;obtain ⟨M,N,O⟩:=w.pick [0,1,4] (by decide);simp only[*,go_sem] at M N O;clear w n hd o k1;obtain _|k:=k
 ·exact absurd d (by simp only[aR,reduceCtorEq,not_false_eq_true])
 revert d;refine bS fun a0 h l=>?_;unfold nS at h;try dsimp only at h
 refine af hJ (ah hJ ?_);simp only[*,go_sem];revert h;refine jC hJ (by simp only[*,go_sem]) (fun P h=>?_) fun P h=>?_
 ·refine aI hJ (aN hJ ?_);refine cQ hJ mixed 6 1 (by simp only[*,go_sem]) (by kernel_rfl) ?_;revert h;refine bS fun Q x h=>?_;obtain rfl:=sI h;obtain ⟨a2,a3⟩:=m6 x;clear x;try simp only[*,go_sem]
  refine ⟨k,Nat.lt_succ_self _,_,Le.sub (List.Sublist.refl _),e,Q,l,rfl,?_⟩;simp only[*,go_sem]
 obtain rfl:=sI h;refine bJ ?_;simp only[go_sem];obtain rfl:=sI l;clear l;have h:=L;dsimp only[aB] at h;refine af hJ ?_;refine cQ hJ mixed 7 0 (by simp only[*,go_sem]) (by kernel_rfl) ?_;revert h;refine bS fun a4 y h=>?_;obtain ⟨a5,a6⟩:=jT y;clear y;revert h;refine bS fun a7 z h=>?_;obtain rfl:=sI h;obtain ⟨a8,a9⟩:=jT z;clear z;try simp only[*,go_sem]
 refine ay ?_;simp only[*,go_sem]
def j8 (u0:an)(a:an):Option an:=
 ag (ir (IntKind.i64.wrap ((IntKind.i64.wrap (u0.num*a.den)) - (IntKind.i64.wrap (a.num*u0.den)))) (IntKind.i64.wrap (u0.den*a.den))) fun b=>some b
def mA (u0:ak)(a:aQ)(c:Int)(b:an):Option an:=
 ag (ir (IntKind.i64.wrap ((IntKind.i64.wrap ((IntKind.i64.wrap (a.high*b.den))*(IntKind.i64.wrap (c+a.back))))+(IntKind.i64.wrap ((IntKind.i64.wrap (b.num - (IntKind.i64.wrap (a.high*b.den))))*(IntKind.i64.wrap (u0.bG+a.back)))))) (IntKind.i64.wrap (b.den*(IntKind.i64.wrap (c+a.back))))) fun d=>some d
def mB (u0:c6)(a:Int)(b:Int):Option Bool:=
 cond (decide (a<=u0.low)) (cond (decide (u0.low<=u0.high)) (some (decide (u0.high<=b))) (some false)) (some false)
theorem Hp {ro:Addr->Option Value}(u0:c6)(a:Int)(b:Int){r:Bool}(h:mB u0 a b=some r):aD Tryz.prog 129 #[.agg #[.int .i64 u0.low,.int .i64 u0.high],.int .i64 a,.int .i64 b] ⟨ro,[]⟩ (fun v _=>v= .bool r):=by
 unfold mB at h;refine aD.go Tryz.func129 rfl Tryz.ntmps129 Tryz.results129 (by simp) fun main J hJ A e hd hs=>?_;have f:=hs 0;have k1:=hs 1;have g:=hs 2;clear hs;refine ah hJ ?_;simp only[*,go_sem];refine aA fun i r1 n1=>?_;try simp only[au] at n1
 try simp only[*,go_sem]
 refine ah hJ ?_;revert h;refine cS (fun c h=>?_) fun c h=>?_
 ·revert h;refine cS (fun d h=>?_) fun d h=>?_
  ·obtain rfl:=sI h;(try simp only[*,go_sem]);refine ay ?_;simp only[*,go_sem]
  obtain rfl:=sI h;try simp only[*,go_sem]
  refine ay ?_;simp only[*,go_sem]
 obtain rfl:=sI h;try simp only[*,go_sem]
 refine ay ?_;simp only[*,go_sem]
def fS (u0:an)(a:an):Option an:=
 ag (k6 u0 a) fun b=>cond (b) (some a) (some u0)
def A7 (u0:ak)(a:Int)(b:Int):Option aQ:=
 ag (bf u0.aG a) fun c=>some (⟨c.back,b⟩:aQ)
def mC (u0:ak):Option Bool:=
 cond (decide (20<(u0.av.length:Int))) (some true) (cond (decide (20<(u0.props.length:Int))) (some true) (cond (decide (20<(u0.aG.length:Int))) (some true) (some (decide (20<(u0.told.length:Int))))))
theorem Hq {ro:Addr->Option Value}(u0:ak){s1 b c d:Value}(a:bK ro u0 s1 b c d){r:Bool}(h:mC u0=some r):aD Tryz.prog 59 #[bv u0 s1 b c d] ⟨ro,[]⟩ (fun v _=>v= .bool r):=by
 obtain ⟨d3,c4,rfl,k,l,-⟩:=id a.e;obtain ⟨d10,m,rfl,n,o,-⟩:=id a.p;obtain ⟨d17,q,rfl,s,u,-⟩:=id a.y;obtain ⟨d24,w,rfl,x,z,-⟩:=id a.t;unfold mC at h;refine aD.go Tryz.func59 rfl Tryz.ntmps59 Tryz.results59 (by simp) fun main J hJ A B hd hs=>?_;have C:=hs 0;clear hs;refine ah hJ ?_;simp only[*,go_sem];refine aA fun D E f=>?_;try simp only[au] at f
 try simp only[*,go_sem]
 refine ah hJ ?_;revert h;refine cS (fun g h=>?_) fun g h=>?_
 ·obtain rfl:=sI h;try simp only[*,go_sem]
  refine ay ?_;simp only[*,go_sem]
 revert h;refine cS (fun i h=>?_) fun i h=>?_
 ·obtain rfl:=sI h;try simp only[*,go_sem]
  refine ay ?_;simp only[*,go_sem]
 revert h;refine cS (fun j h=>?_) fun j h=>?_
 ·obtain rfl:=sI h;try simp only[*,go_sem]
  refine ay ?_;simp only[*,go_sem]
 obtain rfl:=sI h;try simp only[*,go_sem]
 refine ay ?_;simp only[*,go_sem]
def gj (u0:Int)(a:Int):Option an:=
 some (⟨u0,a⟩:an)
theorem gS {ro:Addr->Option Value}(u0:Int)(a:Int){r:an}(h:gj u0 a=some r):aD Tryz.prog 30 #[.int .i64 u0,.int .i64 a] ⟨ro,[]⟩ (fun v _=>v=r.v):=by
 unfold gj at h;obtain rfl:=sI h;refine aD.go Tryz.func30 rfl Tryz.ntmps30 Tryz.results30 (by simp) fun main J hJ A b hd hs=>?_;have c:=hs 0;have k1:=hs 1;clear hs;refine ah hJ ?_;simp only[*,go_sem];refine aA fun d r1 n1=>?_;try simp only[au] at n1
 try simp only[*,go_sem]
 refine ah hJ ?_;simp only[*,go_sem];refine ay ?_;simp only[*,go_sem]
def qm (u0:Int)(a:Int):Option c6:=
 some (⟨u0,a⟩:c6)
theorem s7 {ro:Addr->Option Value}(u0:Int)(a:Int){r:c6}(h:qm u0 a=some r):aD Tryz.prog 18 #[.int .i64 u0,.int .i64 a] ⟨ro,[]⟩ (fun v _=>v=r.v):=by
 unfold qm at h;obtain rfl:=sI h;refine aD.go Tryz.func18 rfl Tryz.ntmps18 Tryz.results18 (by simp) fun main J hJ A b hd hs=>?_;have c:=hs 0;have k1:=hs 1;clear hs;refine ah hJ ?_;simp only[*,go_sem];refine aA fun d r1 n1=>?_;try simp only[au] at n1
 try simp only[*,go_sem]
 refine ah hJ ?_;simp only[*,go_sem];refine ay ?_;simp only[*,go_sem]
def j9 (u0:Int)(a:Int):Option aQ:=
 some (⟨u0,a⟩:aQ)
theorem nU {ro:Addr->Option Value}(u0:Int)(a:Int){r:aQ}(h:j9 u0 a=some r):aD Tryz.prog 23 #[.int .i64 u0,.int .i64 a] ⟨ro,[]⟩ (fun v _=>v=r.v):=by
 unfold j9 at h;obtain rfl:=sI h;refine aD.go Tryz.func23 rfl Tryz.ntmps23 Tryz.results23 (by simp) fun main J hJ A b hd hs=>?_;have c:=hs 0;have k1:=hs 1;clear hs;refine ah hJ ?_;simp only[*,go_sem];refine aA fun d r1 n1=>?_;try simp only[au] at n1
 try simp only[*,go_sem]
 refine ah hJ ?_;simp only[*,go_sem];refine ay ?_;simp only[*,go_sem]
def mD (u0:Int)(a:Bool):Option bU:=
 some (⟨u0,a⟩:bU)
theorem kg {ro:Addr->Option Value}(u0:Int)(a:Bool){r:bU}(h:mD u0 a=some r):aD Tryz.prog 50 #[.int .i64 u0,.bool a] ⟨ro,[]⟩ (fun v _=>v=r.v):=by
 unfold mD at h;obtain rfl:=sI h;refine aD.go Tryz.func50 rfl Tryz.ntmps50 Tryz.results50 (by simp) fun main J hJ A b hd hs=>?_;have c:=hs 0;have k1:=hs 1;clear hs;refine ah hJ ?_;simp only[*,go_sem];refine aA fun d r1 n1=>?_;try simp only[au] at n1
 try simp only[*,go_sem]
 refine ah hJ ?_;simp only[*,go_sem];refine ay ?_;simp only[*,go_sem]
def qn (u0:ak)(a:bU):Option ak:=
 ag (cY ([]:List bU) u0.told) fun b=>ag (cY b ([a])) fun c=>some (⟨u0.bG,u0.bO,u0.aY,u0.av,u0.props,u0.aG,c⟩:ak)
theorem nW {ro:Addr->Option Value}(u0:ak){s1 b c N:Value}(j:bK ro u0 s1 b c N)(a:bU){r:ak}(h:qn u0 a=some r):eI Tryz.prog 38 #[bv u0 s1 b c N,.agg #[.int .i64 a.aW,.bool a.bt]] ro (fun v aM=>∃O w1 w2 w3,v=bv r O w1 w2 w3/\bK aM r O w1 w2 w3):=by
 obtain ⟨d24,i,rfl,e0,e1,-⟩:=id j.t;unfold qn at h;have b0:=j.oc;simp only[bE] at b0;refine aD.go Tryz.func38 rfl Tryz.ntmps38 Tryz.results38 (by simp) fun main J hJ A e3 hd hs=>?_;have fa:=hs 0;have k1:=hs 1;clear hs;refine ah hJ ?_;simp only[*,go_sem,-h];refine aA fun d q b1=>?_;try simp only[au] at b1
 refine aA fun f s b2=>?_;try simp only[au] at b2
 refine aA fun g u b3=>?_;try simp only[au] at b3
 try simp only[*,go_sem,-h]
 refine af hJ ?_;refine az hJ fun P=>?_;refine eE hJ mixed [8] (.pure 1 (.rd 2 (.rd 4 (.two 0 (.two 3 (.one 5 (.one 6 (.pure 7 (.last 8 .done)))) 5 (.one 3 (.one 6 (.pure 7 (.last 8 .done))))) 5 (.one 0 (.one 3 (.one 6 (.pure 7 (.last 8 .done))))))))) ⟨ro,[(g,bz 29),(f,.cells #[.int .i64 a.aW,.bool a.bt] 76),(d,bk u0 s1 b c (sl d24 u0.told i))]⟩ (by simp only[*,go_sem,-h]) (by kernel_rfl) ?_;simp only[*,go_sem,-h];refine jY ?_ ?_
 ·simp only[*,go_sem,-h];refine aA fun C Q R=>?_;have S:=aP.cons R P;try simp only[au] at R
  try simp only[*,go_sem,-h]
  refine jY ?_ ?_
  ·revert h;refine bS fun b4 b5 h=>?_;obtain ⟨ca,T⟩:=dr b5;simp only[*,go_sem,-h];have cb:aO c9 ro 76 (.slice (some ⟨C,0,none⟩) 0 0) ([]:List bU) [(C,.cells #[] 76)]:=aO.empty Q;refine pQ (r:=c9) (l:=([]:List bU)) (xs:=u0.told) [] ((g,bz 29)::(f,.cells #[.int .i64 a.aW,.bool a.bt] 76)::(d,bk u0 s1 b c (sl d24 u0.told i))::[]) cb S ca j.t rfl rfl er er hU ie rfl ia (by decide) (by decide) (fun fb w F k m U=>?_);simp only[aV] at m;subst k;rw[<-T] at F;clear T;obtain ⟨d144,fg,rfl,fi⟩:=F.len;have cd:=aP.back (l:=(g,bz 29)::(f,.cells #[.int .i64 a.aW,.bool a.bt] 76)::(d,bk u0 s1 b c (sl d24 u0.told i))::w) (l':=[]++(w++([(g,bz 29),(f,.cells #[.int .i64 a.aW,.bool a.bt] 76),(d,bk u0 s1 b c (sl d24 u0.told i))]++[]))) [] [(g,bz 29),(f,.cells #[.int .i64 a.aW,.bool a.bt] 76),(d,bk u0 s1 b c (sl d24 u0.told i))] w [] (by first|rfl|simp only[aV]|(simp only[aV];rfl)) (by first|rfl|simp only[aV]|(simp only[aV];rfl)) (by first|exact U|simpa only[List.append_nil,List.nil_append,List.cons_append,List.append_assoc] using U);refine ⟨⟨ro,(g,bz 29)::(f,.cells #[.int .i64 a.aW,.bool a.bt] 76)::(d,bk u0 s1 b c (sl d24 u0.told i))::w⟩,Le.back [] [(g,bz 29),(f,.cells #[.int .i64 a.aW,.bool a.bt] 76),(d,bk u0 s1 b c (sl d24 u0.told i))] w [] (by first|rfl|simp only[aV]|(simp only[aV];rfl)) (by first|rfl|simp only[aV]|(simp only[aV];rfl)),?_⟩;refine ⟨by simp only[*,go_sem,-h],bT ?_⟩;revert h;refine bS fun V cf h=>?_;obtain ⟨cl,W⟩:=dr cf;(try simp only[*,go_sem,-h]);refine aA fun G X Y=>?_;have cy:=aP.cons Y cd;try simp only[au] at Y
   (try simp only[*,go_sem,-h]);refine ee (r:=c9) (l:=b4) (x:=a) (cs:=#[.int .i64 a.aW,.bool a.bt]) (e2:=76) [(G,.cells #[.int .i64 a.aW,.bool a.bt] 76),(g,bz 29),(f,.cells #[.int .i64 a.aW,.bool a.bt] 76),(d,bk u0 s1 b c (sl d24 u0.told i))] [] F cy cl rfl (by simp only[*,go_sem,-h]) X rfl rfl er er hU ie rfl ia (by decide) (by decide) (fun fp cS H k m fr=>?_);simp only[aV] at m;subst k;rw[<-W] at H;clear W;obtain ⟨d158,Z,rfl,fs⟩:=H.len;refine ⟨⟨ro,(G,.cells #[.int .i64 a.aW,.bool a.bt] 76)::(g,bz 29)::(f,.cells #[.int .i64 a.aW,.bool a.bt] 76)::(d,bk u0 s1 b c (sl d24 u0.told i))::cS⟩,Le.refl _,?_⟩;refine ⟨by simp only[*,go_sem,-h],bT ?_⟩;(try simp only[*,go_sem,-h]);refine af hJ ?_;refine az hJ fun ft=>?_;refine aj hJ ?_;simp only[*,go_sem,-h];obtain rfl:=sI h;refine az hJ fun ab=>?_;obtain ⟨fu,ad,D,ae,c0⟩:=H.eY [(G,.cells #[.int .i64 a.aW,.bool a.bt] 76),(g,bk u0 s1 b c (sl d158 V Z)),(f,.cells #[.int .i64 a.aW,.bool a.bt] 76),(d,bk u0 s1 b c (sl d158 V Z))] [] ab (aE.cons X (aE.cons u (aE.cons s (aE.cons q (aE.nil _)))));clear ab;refine cG hJ c0 ?_;obtain ⟨fv,fw,-⟩:=ae.op;replace j:=j.mono ad;replace u:=D.tl.hd;replace s:=D.tl.tl.hd;replace q:=D.tl.tl.tl.hd;simp only[bp] at D;refine ay ?_;simp only[*,go_sem];exact ⟨_,ad,Le.sub (List.nil_sublist _),_,_,_,_,rfl,⟨j.e,j.p,j.y,ae⟩⟩
  revert h;refine bS fun da db h=>?_;obtain ⟨dd,al⟩:=dr db;simp only[*,go_sem,-h];refine aA fun n ao ar=>?_;have df:=aP.cons ar S;try simp only[au] at ar
  try simp only[*,go_sem,-h]
  have dk:aO c9 ro 76 (.slice (some ⟨C,0,none⟩) 0 0) ([]:List bU) [(C,.cells #[] 76)]:=aO.empty Q;refine pQ (r:=c9) (l:=([]:List bU)) (xs:=u0.told) [(n,.cells #[.int .i64 a.aW,.bool a.bt] 76)] ((g,bz 29)::(f,.cells #[.int .i64 a.aW,.bool a.bt] 76)::(d,bk u0 s1 b c (sl d24 u0.told i))::[]) dk df dd j.t rfl rfl er er hU ie rfl ia (by decide) (by decide) (fun fx z I k m a0=>?_);simp only[aV] at m;subst k;rw[<-al] at I;clear al;obtain ⟨d179,gg,rfl,gl⟩:=I.len;have dp:=aP.back (l:=(n,.cells #[.int .i64 a.aW,.bool a.bt] 76)::(g,bz 29)::(f,.cells #[.int .i64 a.aW,.bool a.bt] 76)::(d,bk u0 s1 b c (sl d24 u0.told i))::z) (l':=[(n,.cells #[.int .i64 a.aW,.bool a.bt] 76)]++(z++([(g,bz 29),(f,.cells #[.int .i64 a.aW,.bool a.bt] 76),(d,bk u0 s1 b c (sl d24 u0.told i))]++[]))) [(n,.cells #[.int .i64 a.aW,.bool a.bt] 76)] [(g,bz 29),(f,.cells #[.int .i64 a.aW,.bool a.bt] 76),(d,bk u0 s1 b c (sl d24 u0.told i))] z [] (by first|rfl|simp only[aV]|(simp only[aV];rfl)) (by first|rfl|simp only[aV]|(simp only[aV];rfl)) (by first|exact a0|simpa only[List.append_nil,List.nil_append,List.cons_append,List.append_assoc] using a0);refine ⟨⟨ro,(n,.cells #[.int .i64 a.aW,.bool a.bt] 76)::(g,bz 29)::(f,.cells #[.int .i64 a.aW,.bool a.bt] 76)::(d,bk u0 s1 b c (sl d24 u0.told i))::z⟩,Le.back [(n,.cells #[.int .i64 a.aW,.bool a.bt] 76)] [(g,bz 29),(f,.cells #[.int .i64 a.aW,.bool a.bt] 76),(d,bk u0 s1 b c (sl d24 u0.told i))] z [] (by first|rfl|simp only[aV]|(simp only[aV];rfl)) (by first|rfl|simp only[aV]|(simp only[aV];rfl)),?_⟩;refine ⟨by simp only[*,go_sem,-h],bT ?_⟩;revert h;refine bS fun a2 dq h=>?_;obtain ⟨ds,a3⟩:=dr dq;try simp only[*,go_sem,-h]
  refine ee (r:=c9) (l:=da) (x:=a) (cs:=#[.int .i64 a.aW,.bool a.bt]) (e2:=76) [(n,.cells #[.int .i64 a.aW,.bool a.bt] 76),(g,bz 29),(f,.cells #[.int .i64 a.aW,.bool a.bt] 76),(d,bk u0 s1 b c (sl d24 u0.told i))] [] I dp ds rfl (by simp only[*,go_sem,-h]) ao rfl rfl er er hU ie rfl ia (by decide) (by decide) (fun gn dt K k m gp=>?_);simp only[aV] at m;subst k;rw[<-a3] at K;clear a3;obtain ⟨d191,a4,rfl,gB⟩:=K.len;refine ⟨⟨ro,(n,.cells #[.int .i64 a.aW,.bool a.bt] 76)::(g,bz 29)::(f,.cells #[.int .i64 a.aW,.bool a.bt] 76)::(d,bk u0 s1 b c (sl d24 u0.told i))::dt⟩,Le.refl _,?_⟩;refine ⟨by simp only[*,go_sem,-h],bT ?_⟩;try simp only[*,go_sem,-h]
  refine af hJ ?_;refine az hJ fun gC=>?_;refine aj hJ ?_;simp only[*,go_sem,-h];obtain rfl:=sI h;refine az hJ fun a5=>?_;obtain ⟨gM,a6,E,a7,du⟩:=K.eY [(n,.cells #[.int .i64 a.aW,.bool a.bt] 76),(g,bk u0 s1 b c (sl d191 a2 a4)),(f,.cells #[.int .i64 a.aW,.bool a.bt] 76),(d,bk u0 s1 b c (sl d191 a2 a4))] [] a5 (aE.cons ao (aE.cons u (aE.cons s (aE.cons q (aE.nil _)))));clear a5;refine cG hJ du ?_;obtain ⟨gT,gV,-⟩:=a7.op;replace j:=j.mono a6;replace u:=E.tl.hd;replace s:=E.tl.tl.hd;replace q:=E.tl.tl.tl.hd;simp only[bp] at E;refine ay ?_;simp only[*,go_sem];exact ⟨_,a6,Le.sub (List.nil_sublist _),_,_,_,_,rfl,⟨j.e,j.p,j.y,a7⟩⟩
 revert h;refine bS fun dv dC h=>?_;obtain ⟨dE,a8⟩:=dr dC;simp only[*,go_sem,-h];refine aA fun o a9 ba=>?_;have dT:=aP.cons ba P;try simp only[au] at ba
 try simp only[*,go_sem,-h]
 refine aA fun bb ea bc=>?_;have eb:=aP.cons bc dT;try simp only[au] at bc
 try simp only[*,go_sem,-h]
 have ec:aO c9 ro 76 (.slice (some ⟨bb,0,none⟩) 0 0) ([]:List bU) [(bb,.cells #[] 76)]:=aO.empty ea;refine pQ (r:=c9) (l:=([]:List bU)) (xs:=u0.told) [] ((o,.cells #[.int .i64 a.aW,.bool a.bt] 76)::(g,bz 29)::(f,.cells #[.int .i64 a.aW,.bool a.bt] 76)::(d,bk u0 s1 b c (sl d24 u0.told i))::[]) ec eb dE j.t rfl rfl er er hU ie rfl ia (by decide) (by decide) (fun g0 B L k m bd=>?_);simp only[aV] at m;subst k;rw[<-a8] at L;clear a8;obtain ⟨d214,g1,rfl,g2⟩:=L.len;have ed:=aP.back (l:=(o,.cells #[.int .i64 a.aW,.bool a.bt] 76)::(g,bz 29)::(f,.cells #[.int .i64 a.aW,.bool a.bt] 76)::(d,bk u0 s1 b c (sl d24 u0.told i))::B) (l':=[]++(B++([(o,.cells #[.int .i64 a.aW,.bool a.bt] 76),(g,bz 29),(f,.cells #[.int .i64 a.aW,.bool a.bt] 76),(d,bk u0 s1 b c (sl d24 u0.told i))]++[]))) [] [(o,.cells #[.int .i64 a.aW,.bool a.bt] 76),(g,bz 29),(f,.cells #[.int .i64 a.aW,.bool a.bt] 76),(d,bk u0 s1 b c (sl d24 u0.told i))] B [] (by first|rfl|simp only[aV]|(simp only[aV];rfl)) (by first|rfl|simp only[aV]|(simp only[aV];rfl)) (by first|exact bd|simpa only[List.append_nil,List.nil_append,List.cons_append,List.append_assoc] using bd);refine ⟨⟨ro,(o,.cells #[.int .i64 a.aW,.bool a.bt] 76)::(g,bz 29)::(f,.cells #[.int .i64 a.aW,.bool a.bt] 76)::(d,bk u0 s1 b c (sl d24 u0.told i))::B⟩,Le.back [] [(o,.cells #[.int .i64 a.aW,.bool a.bt] 76),(g,bz 29),(f,.cells #[.int .i64 a.aW,.bool a.bt] 76),(d,bk u0 s1 b c (sl d24 u0.told i))] B [] (by first|rfl|simp only[aV]|(simp only[aV];rfl)) (by first|rfl|simp only[aV]|(simp only[aV];rfl)),?_⟩;refine ⟨by simp only[*,go_sem,-h],bT ?_⟩;revert h;refine bS fun bj eh h=>?_;obtain ⟨et,bl⟩:=dr eh;try simp only[*,go_sem,-h]
 refine ee (r:=c9) (l:=dv) (x:=a) (cs:=#[.int .i64 a.aW,.bool a.bt]) (e2:=76) [(o,.cells #[.int .i64 a.aW,.bool a.bt] 76),(g,bz 29),(f,.cells #[.int .i64 a.aW,.bool a.bt] 76),(d,bk u0 s1 b c (sl d24 u0.told i))] [] L ed et rfl (by simp only[*,go_sem,-h]) a9 rfl rfl er er hU ie rfl ia (by decide) (by decide) (fun g3 ev M k m g4=>?_);simp only[aV] at m;subst k;rw[<-bl] at M;clear bl;obtain ⟨d226,bm,rfl,ha⟩:=M.len;refine ⟨⟨ro,(o,.cells #[.int .i64 a.aW,.bool a.bt] 76)::(g,bz 29)::(f,.cells #[.int .i64 a.aW,.bool a.bt] 76)::(d,bk u0 s1 b c (sl d24 u0.told i))::ev⟩,Le.refl _,?_⟩;refine ⟨by simp only[*,go_sem,-h],bT ?_⟩;try simp only[*,go_sem,-h]
 refine af hJ ?_;refine az hJ fun hc=>?_;refine aj hJ ?_;simp only[*,go_sem,-h];obtain rfl:=sI h;refine az hJ fun bo=>?_;obtain ⟨hf,br,eQ,bs,eS⟩:=M.eY [(o,.cells #[.int .i64 a.aW,.bool a.bt] 76),(g,bk u0 s1 b c (sl d226 bj bm)),(f,.cells #[.int .i64 a.aW,.bool a.bt] 76),(d,bk u0 s1 b c (sl d226 bj bm))] [] bo (aE.cons a9 (aE.cons u (aE.cons s (aE.cons q (aE.nil _)))));clear bo;refine cG hJ eS ?_;obtain ⟨hg,hh,-⟩:=bs.op;replace j:=j.mono br;simp only[bp] at eQ;refine ay ?_;simp only[*,go_sem];exact ⟨_,br,Le.sub (List.nil_sublist _),_,_,_,_,rfl,⟨j.e,j.p,j.y,bs⟩⟩
def nZ (a:(List Int))(b:Int)(st:(Int×(List bN))):Option (Fl (Int×(List bN)) ak):=
 cond (decide (st.1<(a.length:Int))) (ag (bf a st.1) fun c=>ag (cY st.2 ([(⟨c,b⟩:bN)])) fun d=>some (.nx ((IntKind.i64.wrap (st.1+1)),d))) (some (.bk (st.1,st.2)))
def n4 (u0:ak)(a:(List Int))(b:Int):Option ak:=
 ag (cY ([]:List bN) u0.props) fun c=>ag (aR (nZ a b) fu (0,c)) fun o=>aB o (fun d=>some (⟨u0.bG,u0.bO,u0.aY,u0.av,d.2,u0.aG,u0.told⟩:ak)) (fun _ _=>none) (fun r=>some r)
theorem A8 {ro:Addr->Option Value}(u0:ak){s1 H a b:Value}(k:bK ro u0 s1 H a b)(w:(List Int)){I:Value}(K:aC rI ro I w)(n:Int){r:ak}(h:n4 u0 w n=some r):eI Tryz.prog 61 #[bv u0 s1 H a b,I,.int .i64 n] ro (fun v aM=>∃L w1 w2 w3,v=bv r L w1 w2 w3/\bK aM r L w1 w2 w3):=by
 obtain ⟨d10,c,rfl,df,dk,-⟩:=id k.p;obtain ⟨d31,dp,rfl,dq,ds,-⟩:=id K;unfold n4 at h;have ad:=k.oc;simp only[bE] at ad;refine aD.go Tryz.func61 rfl Tryz.ntmps61 Tryz.results61 (by simp) fun main J hJ A ae hd hs=>?_;have al:=hs 0;have k1:=hs 1;have ao:=hs 2;clear hs;refine ah hJ ?_;simp only[*,go_sem];refine aA fun f ar a0=>?_;try simp only[au] at a0
 refine aA fun g a2 a3=>?_;try simp only[au] at a3
 try simp only[*,go_sem]
 refine ah hJ ?_;simp only[*,go_sem];refine aA fun i a4 a5=>?_;try simp only[au] at a5
 try simp only[*,go_sem]
 refine af hJ ?_;refine az hJ fun a6=>?_;refine aj hJ ?_;revert h;refine bS fun a7 a8 h=>?_;obtain ⟨a9,M⟩:=dr a8;simp only[*,go_sem];refine aA fun N ba O=>?_;have bb:=aP.cons O a6;try simp only[au] at O
 try simp only[*,go_sem]
 have bc:aO ez ro 96 (.slice (some ⟨N,0,none⟩) 0 0) ([]:List bN) [(N,.cells #[] 96)]:=aO.empty ba;refine pQ (r:=ez) (l:=([]:List bN)) (xs:=u0.props) [] ((i,bk u0 s1 (sl d10 u0.props c) a b)::(g,bz 29)::(f,bk u0 s1 (sl d10 u0.props c) a b)::[]) bc bb a9 k.p rfl rfl kO kO rN rP rfl rO (by decide) (by decide) (fun dt o z B C P=>?_);simp only[aV] at C;subst B;rw[<-M] at z;clear M;obtain ⟨d48,bd,rfl,bj⟩:=z.len;have du:=aP.back (l:=(i,bk u0 s1 (sl d10 u0.props c) a b)::(g,bz 29)::(f,bk u0 s1 (sl d10 u0.props c) a b)::o) (l':=[]++(o++([(i,bk u0 s1 (sl d10 u0.props c) a b),(g,bz 29),(f,bk u0 s1 (sl d10 u0.props c) a b)]++[]))) [] [(i,bk u0 s1 (sl d10 u0.props c) a b),(g,bz 29),(f,bk u0 s1 (sl d10 u0.props c) a b)] o [] (by first|rfl|simp only[aV]|(simp only[aV];rfl)) (by first|rfl|simp only[aV]|(simp only[aV];rfl)) (by first|exact P|simpa only[List.append_nil,List.nil_append,List.cons_append,List.append_assoc] using P);refine ⟨⟨ro,(i,bk u0 s1 (sl d10 u0.props c) a b)::(g,bz 29)::(f,bk u0 s1 (sl d10 u0.props c) a b)::o⟩,Le.back [] [(i,bk u0 s1 (sl d10 u0.props c) a b),(g,bz 29),(f,bk u0 s1 (sl d10 u0.props c) a b)] o [] (by first|rfl|simp only[aV]|(simp only[aV];rfl)) (by first|rfl|simp only[aV]|(simp only[aV];rfl)),?_⟩;refine aK ?_;try simp only[*,go_sem]
 refine af hJ (af hJ ?_);refine az hJ fun dv=>?_;refine aj hJ ?_;simp only[*,go_sem];refine aN hJ ?_;revert h;refine bS fun bl s bm=>?_;refine bQ hJ [8,15,16,17,18,19,20,21,22,23,24,25,26,27,28,29,30,31] (fun m bo F'=>∃(d57:Option Addr) (j:Nat) (D:List (Nat×Obj)) (u:Int) (d:(List bN)),aR (nZ w n) m (u,d)=some bl/\F'=⟨ro,(i,bk u0 s1 (sl d57 d j) a b)::(g,bz 29)::(f,bk u0 s1 (sl d10 u0.props c) a b)::D⟩/\aO ez ro 96 (.slice d57 d.length j) d D/\d.length<=j/\slot bo 8= .int .i64 u) fu ?_ ?_
 ·refine ⟨d48,bd,o,0,a7,s,rfl,z,bj,?_⟩;simp only[*,go_sem]
 rintro E dC F' Q ⟨d57,j,D,u,d,s,rfl,R,dE,dT⟩;obtain ⟨br,bs,b0⟩:=Q.pick [1,2,6,7] (by decide);simp only[*,go_sem] at br bs b0;clear Q ae hd al k1 ao;obtain _|E:=E
 ·exact absurd s (by simp only[aR,reduceCtorEq,not_false_eq_true])
 revert s;refine bS fun ea h F=>?_;unfold nZ at h;try dsimp only at h
 refine af hJ (af hJ ?_);refine az hJ fun eb=>?_;refine aj hJ ?_;simp only[*,go_sem];revert h;refine jC hJ (by simp only[*,go_sem]) (fun b1 h=>?_) fun b1 h=>?_
 ·refine aI hJ (af hJ ?_);refine aN hJ ?_;refine az hJ fun b2=>?_;refine eE hJ mixed [11] (.pure 0 (.rd 1 (.pure 2 (.pure 3 (.pure 4 (.rd 5 (.pure 6 (.pure 7 (.one 8 (.one 9 (.pure 10 (.last 11 .done)))))))))))) ⟨ro,[(i,bk u0 s1 (sl d57 d j) a b),(g,bz 29),(f,bk u0 s1 (sl d10 u0.props c) a b)]⟩ (by simp only[*,go_sem]) (by kernel_rfl) ?_;revert h;refine bS fun q b3 h=>?_;obtain ⟨ec,ed,S⟩:=cH b3;obtain ⟨eh,b4,b5,ca,T⟩:=K.el _ _ S;obtain rfl:b4=[.int .i64 q]:=ca;cases b5;have cb:=T 0 _ rfl;simp only[go_sem] at cb;clear T S;revert h;refine bS fun cd cf h=>?_;obtain rfl:=sI h;obtain ⟨cl,U⟩:=dr cf;try simp only[*,go_sem]
  refine aA fun V cy W=>?_;have cS:=aP.cons W b2;try simp only[au] at W
  try simp only[*,go_sem]
  refine ee (r:=ez) (l:=d) (x:=(⟨q,n⟩:bN)) (cs:=#[.int .i64 q,.int .i64 n]) (e2:=96) [(V,.cells #[.int .i64 q,.int .i64 n] 96),(i,bk u0 s1 (sl d57 d j) a b),(g,bz 29),(f,bk u0 s1 (sl d10 u0.props c) a b)] [] R cS cl rfl (by simp only[*,go_sem]) cy rfl rfl kO kO rN rP rfl rO (by decide) (by decide) (fun et X G B C ev=>?_);simp only[aV] at C;subst B;rw[<-U] at G;clear U;obtain ⟨d111,c0,rfl,da⟩:=G.len;refine ⟨⟨ro,(V,.cells #[.int .i64 q,.int .i64 n] 96)::(i,bk u0 s1 (sl d57 d j) a b)::(g,bz 29)::(f,bk u0 s1 (sl d10 u0.props c) a b)::X⟩,Le.refl _,?_⟩;refine ⟨by simp only[*,go_sem],bT ?_⟩;try simp only[*,go_sem]
  refine az hJ fun eQ=>?_;refine aj hJ ?_;simp only[*,go_sem];refine ⟨E,Nat.lt_succ_self _,_,Le.sub (List.Sublist.cons _ (List.Sublist.refl _)),d111,c0,X,(IntKind.i64.wrap (u+1)),cd,F,rfl,G,da,?_⟩;simp only[*,go_sem]
 obtain rfl:=sI h;refine bJ ?_;simp only[go_sem];obtain rfl:=sI F;clear F;have h:=bm;dsimp only[aB] at h;obtain rfl:=sI h;refine af hJ ?_;refine az hJ fun eS=>?_;refine aj hJ ?_;simp only[*,go_sem];refine az hJ fun Y=>?_;obtain ⟨e0,Z,db,ab,dd⟩:=R.eY [(i,bk u0 s1 (sl d57 d j) a b),(g,bk u0 s1 (sl d57 d j) a b),(f,bk u0 s1 (sl d10 u0.props c) a b)] [] Y (aE.cons a4 (aE.cons a2 (aE.cons ar (aE.nil _))));clear Y;refine cG hJ dd ?_;obtain ⟨e1,e3,-⟩:=ab.op;replace k:=k.mono Z;simp only[bp] at db;refine ay ?_;simp only[*,go_sem];exact ⟨_,Z,Le.sub (List.nil_sublist _),_,_,_,_,rfl,⟨k.e,ab,k.y,k.t⟩⟩
def xe :Option ak:=
 ag (gj 1 2) fun a=>ag (qm 10 12) fun b=>ag (qm 10 10) fun c=>some (⟨20,2,a,[(⟨0,2⟩:bY),(⟨8,4⟩:bY),(⟨14,4⟩:bY)],([]:(List bN)),[(⟨2,b⟩:b6),(⟨4,c⟩:b6)],([]:(List bU))⟩:ak)
theorem Hr {ro:Addr->Option Value}{r:ak}(h:xe=some r):eI Tryz.prog 60 #[] ro (fun v aM=>∃m w1 w2 w3,v=bv r m w1 w2 w3/\bK aM r m w1 w2 w3):=by
 unfold xe at h;refine aD.go Tryz.func60 rfl Tryz.ntmps60 Tryz.results60 (by simp) fun main J hJ A H hd hs=>?_;clear hs;refine ah hJ ?_;simp only[*,go_sem];refine aA fun n r1 n1=>?_;try simp only[au] at n1
 try simp only[*,go_sem]
 refine af hJ ?_;refine az hJ fun C=>?_;refine aj hJ ?_;revert h;refine bS fun g D h=>?_;simp only[*,go_sem];refine bn hJ _ (gS 1 2 D) (aK ?_);revert h;refine bS fun a E h=>?_;try simp only[*,go_sem]
 refine aA fun b5 p q=>?_;have F:=aP.cons q C;try simp only[au] at q
 try simp only[*,go_sem]
 refine bn hJ _ (s7 10 12 E) (aK ?_);revert h;refine bS fun c G h=>?_;obtain rfl:=sI h;try simp only[*,go_sem]
 refine bn hJ _ (s7 10 10 G) (aK ?_);try simp only[*,go_sem]
 refine aA fun d i s=>?_;have I:=aP.cons s F;try simp only[au] at s
 try simp only[*,go_sem]
 refine az hJ fun t=>?_;obtain ⟨u,j,w⟩:=fO (b:=b5) (o:=(.cells #[.int .i64 0,.int .i64 2,.int .i64 8,.int .i64 4,.int .i64 14,.int .i64 4] 85)) [(d,.cells #[.int .i64 2,.int .i64 a.low,.int .i64 a.high,.int .i64 4,.int .i64 c.low,.int .i64 c.high] 41)] ((n,.cells #[.int .i64 20,.int .i64 2,.int .i64 g.num,.int .i64 g.den,.slice (some ⟨b5,0,none⟩) 3 3,.slice none 0 0,.slice (some ⟨d,0,none⟩) 2 2,.slice none 0 0] 29)::[]) t p (aE.cons i (aE.cons r1 (aE.nil _)));clear t;have f:aC eZ (bR ro b5 (.cells #[.int .i64 0,.int .i64 2,.int .i64 8,.int .i64 4,.int .i64 14,.int .i64 4] 85)) (.slice (some ⟨b5,0,none⟩) 3 3) [(⟨0,2⟩:bY),(⟨8,4⟩:bY),(⟨14,4⟩:bY)]:=(aC.flat (r:=eZ) (e:=85) (cs:=#[.int .i64 0,.int .i64 2,.int .i64 8,.int .i64 4,.int .i64 14,.int .i64 4]) bY.cells ([(⟨0,2⟩:bY),(⟨8,4⟩:bY),(⟨14,4⟩:bY)]) (fun _=>rfl) p rfl (by simp))
 generalize bR ro b5 (.cells #[.int .i64 0,.int .i64 2,.int .i64 8,.int .i64 4,.int .i64 14,.int .i64 4] 85)=x at u j w f;refine cG hJ w ?_;obtain ⟨K,L,-⟩:=f.op;replace i:=j.hd;replace r1:=j.tl.hd;simp only[bp] at j;refine az hJ fun y=>?_;obtain ⟨k,z,B⟩:=fO (b:=d) (o:=(.cells #[.int .i64 2,.int .i64 a.low,.int .i64 a.high,.int .i64 4,.int .i64 c.low,.int .i64 c.high] 41)) [] ((n,.cells #[.int .i64 20,.int .i64 2,.int .i64 g.num,.int .i64 g.den,.slice (some ⟨b5,0,none⟩) ([(⟨0,2⟩:bY),(⟨8,4⟩:bY),(⟨14,4⟩:bY)]).length 3,.slice none 0 0,.slice (some ⟨d,0,none⟩) 2 2,.slice none 0 0] 29)::[]) y i (aE.cons r1 (aE.nil _));clear y;have l:aC eT (bR x d (.cells #[.int .i64 2,.int .i64 a.low,.int .i64 a.high,.int .i64 4,.int .i64 c.low,.int .i64 c.high] 41)) (.slice (some ⟨d,0,none⟩) 2 2) [(⟨2,a⟩:b6),(⟨4,c⟩:b6)]:=(aC.flat (r:=eT) (e:=41) (cs:=#[.int .i64 2,.int .i64 a.low,.int .i64 a.high,.int .i64 4,.int .i64 c.low,.int .i64 c.high]) b6.cells ([(⟨2,a⟩:b6),(⟨4,c⟩:b6)]) (fun _=>rfl) i rfl (by simp))
 generalize bR x d (.cells #[.int .i64 2,.int .i64 a.low,.int .i64 a.high,.int .i64 4,.int .i64 c.low,.int .i64 c.high] 41)=M at k z B l;refine cG hJ B ?_;obtain ⟨N,O,-⟩:=l.op;replace f:=f.mono k;simp only[bp] at z;refine ay ?_;simp only[*,go_sem];exact ⟨_,(u).trans k,Le.sub (List.nil_sublist _),_,_,_,_,rfl,f,aC.nil _ _,l,aC.nil _ _⟩
def qo (u0:ak)(st:(Int×Int)):Option (Fl (Int×Int) Int):=
 cond (decide (st.2<(u0.av.length:Int))) (ag (bf u0.av st.2) fun a=>ag (eA a.aH 0 (IntKind.i64.wrap (u0.bG - 1))) fun b=>cond (!b) (some (.rt 1)) (ag (eA a.high 0 60) fun c=>cond (!c) (some (.rt 1)) (cond (decide (0<st.2)) (ag (bf u0.av (IntKind.i64.wrap (st.2 - 1))) fun d=>cond (decide (a.aH<=d.aH)) (some (.rt 7)) (some (.nx (st.1,(IntKind.i64.wrap (st.2+1)))))) (some (.nx (st.1,(IntKind.i64.wrap (st.2+1)))))))) (some (.bk (st.1,st.2)))
def mE (u0:ak):Option Int:=
 ag (eA (u0.av.length:Int) 2 5) fun a=>cond (!a) (some 2) (ag (aR (qo u0) fu (0,0)) fun o=>aB o (fun b=>some 0) (fun _ _=>none) (fun r=>some r))
theorem Hs {ro:Addr->Option Value}(u0:ak){s1 i j k:Value}(l:bK ro u0 s1 i j k){r:Int}(h:mE u0=some r):aD Tryz.prog 94 #[bv u0 s1 i j k] ⟨ro,[]⟩ (fun v _=>v= .int .i64 r):=by
 obtain ⟨d3,c4,rfl,al,ao,-⟩:=id l.e;unfold mE at h;refine aD.go Tryz.func94 rfl Tryz.ntmps94 Tryz.results94 (by simp) fun main J hJ A w hd hs=>?_;have x:=hs 0;clear hs;refine ah hJ ?_;simp only[*,go_sem];refine aA fun y ar z=>?_;try simp only[au] at z
 try simp only[*,go_sem]
 refine af hJ (ah hJ ?_);revert h;refine bS fun a0 B h=>?_;simp only[*,go_sem];refine bn hJ _ (gR (u0.av.length:Int) 2 5 B) (aK ?_);try simp only[*,go_sem]
 revert h;refine jC hJ (by simp only[*,go_sem]) (fun C h=>?_) fun C h=>?_
 ·obtain rfl:=sI h;refine ah hJ ?_;simp only[*,go_sem];refine ay ?_;simp only[*,go_sem]
 refine aI hJ (af hJ ?_);refine ah hJ ?_;simp only[*,go_sem];refine aN hJ ?_;revert h;refine bS fun D d f=>?_;refine bQ hJ [2,3,4,10,11,12,13,14,15,16,17,18,19,20,21,22,23,24,25,26,27,28,29,30,31,32,33,34,35,36,37,38,39,40,41,42,43,44,45,46,47,48] (fun m q F'=>∃(b:Int) (c:Int),aR (qo u0) m (b,c)=some D/\F'=⟨ro,(y,bk u0 (sl d3 u0.av c4) i j k)::[]⟩/\slot q 2= .int .i64 b/\slot q 3= .int .i64 c) fu ?_ ?_
 ·refine ⟨0,0,d,rfl,?_⟩;simp only[*,go_sem]
 rintro g a2 F' s ⟨b,c,d,rfl,a3,a4⟩;obtain ⟨E,F,G⟩:=s.pick [1] (by decide);simp only[*,go_sem] at E F G;clear s w hd x;obtain _|g:=g
 ·exact absurd d (by simp only[aR,reduceCtorEq,not_false_eq_true])
 revert d;refine bS fun a5 h a=>?_;unfold qo at h;try dsimp only at h
 refine af hJ (ah hJ ?_);simp only[*,go_sem];revert h;refine jC hJ (by simp only[*,go_sem]) (fun H h=>?_) fun H h=>?_
 ·refine aI hJ (af hJ ?_);refine aN hJ (af hJ ?_);refine aj hJ ?_;revert h;refine bS fun n I h=>?_;obtain ⟨a6,a7,t⟩:=cH I;obtain ⟨a8,K,L,M,o⟩:=l.e.el _ _ t;obtain rfl:K=n.cells:=M;cases L;have N:=o 0 _ rfl;simp only[go_sem] at N;have O:=o 1 _ rfl;simp only[go_sem] at O;clear o t;try simp only[*,go_sem]
  refine aA fun a9 ba P=>?_;try simp only[au] at P
  try simp only[*,go_sem]
  refine af hJ (ah hJ ?_);revert h;refine bS fun bb Q h=>?_;simp only[*,go_sem];refine bn hJ _ (gR n.aH 0 (IntKind.i64.wrap (u0.bG - 1)) Q) (aK ?_);revert h;refine cS (fun R h=>?_) fun R h=>?_
  ·obtain rfl:=sI h;(try simp only[*,go_sem]);refine bP hJ (by simp only[*,go_sem]) ?_;refine ah hJ ?_;simp only[*,go_sem];obtain rfl:=sI a;clear a;have h:=f;dsimp only[aB] at h;obtain rfl:=sI h;refine ay ?_;simp only[*,go_sem]
  revert h;refine bS fun bc S h=>?_;try simp only[*,go_sem]
  refine bn hJ _ (gR n.high 0 60 S) (aK ?_);try simp only[*,go_sem]
  revert h;refine jC hJ (by simp only[*,go_sem]) (fun T h=>?_) fun T h=>?_
  ·obtain rfl:=sI h;refine ah hJ ?_;simp only[*,go_sem];obtain rfl:=sI a;clear a;have h:=f;dsimp only[aB] at h;obtain rfl:=sI h;refine ay ?_;simp only[*,go_sem]
  refine aI hJ (af hJ ?_);refine cQ hJ mixed 14 2 (by simp only[*,go_sem]) (by kernel_rfl) ?_;revert h;refine cS (fun U h=>?_) fun U h=>?_
  ·revert h;refine bS fun V W h=>?_;obtain ⟨bd,bj,u⟩:=cH W;obtain ⟨bl,X,Y,Z,p⟩:=l.e.el _ _ u;obtain rfl:X=V.cells:=Z;cases Y;have ab:=p 0 _ rfl;simp only[go_sem] at ab;have ad:=p 1 _ rfl;simp only[go_sem] at ad;clear p u;(try simp only[*,go_sem]);revert h;refine jC hJ (by simp only[*,go_sem]) (fun ae h=>?_) fun ae h=>?_
   ·obtain rfl:=sI h;refine ah hJ ?_;simp only[*,go_sem];obtain rfl:=sI a;clear a;have h:=f;dsimp only[aB] at h;obtain rfl:=sI h;refine ay ?_;simp only[*,go_sem]
   obtain rfl:=sI h;refine aI hJ (aj hJ ?_);simp only[*,go_sem];refine ⟨g,Nat.lt_succ_self _,_,Le.sub (List.Sublist.cons _ (List.Sublist.refl _)),b,(IntKind.i64.wrap (c+1)),a,rfl,?_⟩;simp only[*,go_sem]
  obtain rfl:=sI h;try simp only[*,go_sem]
  refine bM hJ (by simp only[*,go_sem]) ?_;refine aI hJ (aj hJ ?_);simp only[*,go_sem];refine ⟨g,Nat.lt_succ_self _,_,Le.sub (List.Sublist.cons _ (List.Sublist.refl _)),b,(IntKind.i64.wrap (c+1)),a,rfl,?_⟩;simp only[*,go_sem]
 obtain rfl:=sI h;refine bJ ?_;simp only[go_sem];obtain rfl:=sI a;clear a;have h:=f;dsimp only[aB] at h;obtain rfl:=sI h;refine ah hJ ?_;simp only[*,go_sem];refine ay ?_;simp only[*,go_sem]
def A9 (u0:ak)(st:(Int×Int)):Option (Fl (Int×Int) Int):=
 cond (decide (st.2<(u0.told.length:Int))) (ag (bf u0.told st.2) fun a=>ag (nP u0 a.aW) fun b=>cond (!b) (some (.rt 6)) (some (.nx (st.1,(IntKind.i64.wrap (st.2+1)))))) (some (.bk (st.1,st.2)))
def Ba (u0:ak)(st:(Int×Int)):Option (Fl (Int×Int) Int):=
 cond (decide (st.2<(u0.aG.length:Int))) (ag (bf u0.aG st.2) fun a=>ag (eA a.back 1 20) fun b=>cond (!b) (some (.rt 1)) (ag (mB a.high 0 60) fun c=>cond (!c) (some (.rt 1)) (cond (decide (3<=(IntKind.i64.wrap (a.high.high - a.high.low)))) (some (.rt 1)) (some (.nx (st.1,(IntKind.i64.wrap (st.2+1)))))))) (some (.bk (st.1,st.2)))
def qp (u0:ak)(st:(Int×Int)):Option (Fl (Int×Int) Int):=
 cond (decide (st.2<(u0.props.length:Int))) (ag (bf u0.props st.2) fun a=>ag (mz u0 a.place) fun b=>cond (!b) (some (.rt 6)) (ag (eA a.di 1 20) fun c=>cond (!c) (some (.rt 1)) (some (.nx (st.1,(IntKind.i64.wrap (st.2+1))))))) (some (.bk (st.1,st.2)))
def xg (u0:ak)(st:(Int×Int)):Option (Fl (Int×Int) Int):=
 cond (decide (st.2<(u0.aG.length:Int))) (ag (bf u0.aG st.2) fun a=>ag (eA a.back 1 20) fun b=>cond (!b) (some (.rt 1)) (ag (mB a.high 0 60) fun c=>cond (!c) (some (.rt 1)) (cond (decide (3<=(IntKind.i64.wrap (a.high.high - a.high.low)))) (some (.rt 1)) (some (.nx (st.1,(IntKind.i64.wrap (st.2+1)))))))) (some (.bk (st.1,st.2)))
def xh (u0:ak)(st:(Int×Int)):Option (Fl (Int×Int) Int):=
 cond (decide (st.2<(u0.told.length:Int))) (ag (bf u0.told st.2) fun a=>ag (nP u0 a.aW) fun b=>cond (!b) (some (.rt 6)) (some (.nx (st.1,(IntKind.i64.wrap (st.2+1)))))) (some (.bk (st.1,st.2)))
def mF (u0:ak):Option Int:=
 cond (decide (3<(u0.props.length:Int))) (some 2) (ag (aR (qp u0) fu (0,0)) fun o=>aB o (fun a=>ag (eA (u0.aG.length:Int) 1 3) fun b=>cond (!b) (some 2) (ag (aR (xg u0) fu (a.1,0)) fun o=>aB o (fun c=>cond (decide (3<(u0.told.length:Int))) (some 2) (ag (aR (xh u0) fu (c.1,0)) fun o=>aB o (fun d=>some 0) (fun _ _=>none) (fun r=>some r))) (fun _ _=>none) (fun r=>some r))) (fun _ _=>none) (fun r=>some r))
theorem Ht {ro:Addr->Option Value}(u0:ak){s1 N O P:Value}(b:bK ro u0 s1 N O P){r:Int}(h:mF u0=some r):aD Tryz.prog 95 #[bv u0 s1 N O P] ⟨ro,[]⟩ (fun v _=>v= .int .i64 r):=by
 obtain ⟨d10,w,rfl,ec,ed,-⟩:=id b.p;obtain ⟨d17,x,rfl,eh,et,-⟩:=id b.y;obtain ⟨d24,z,rfl,ev,eQ,-⟩:=id b.t;unfold mF at h;refine aD.go Tryz.func95 rfl Tryz.ntmps95 Tryz.results95 (by simp) fun main J hJ A ao hd hs=>?_;have ar:=hs 0;clear hs;refine ah hJ ?_;simp only[*,go_sem];refine aA fun B eS a0=>?_;try simp only[au] at a0
 try simp only[*,go_sem]
 refine af hJ (ah hJ ?_);simp only[*,go_sem];revert h;refine jC hJ (by simp only[*,go_sem]) (fun a2 h=>?_) fun a2 h=>?_
 ·obtain rfl:=sI h;refine ah hJ ?_;simp only[*,go_sem];refine ay ?_;simp only[*,go_sem]
 refine aI hJ (af hJ ?_);refine ah hJ ?_;simp only[*,go_sem];refine aN hJ ?_;revert h;refine bS fun a3 i C=>?_;refine bQ hJ [2,3,11,12,13,14,15,16,17,18,19,20,21,22,23,24,25,26,27,28,29,30,31,32,33,34] (fun m c F'=>∃(e:Int) (j:Int),aR (qp u0) m (e,j)=some a3/\F'=⟨ro,(B,bk u0 s1 (sl d10 u0.props w) (sl d17 u0.aG x) (sl d24 u0.told z))::[]⟩/\slot c 2= .int .i64 e/\slot c 3= .int .i64 j) fu ?_ ?_
 ·refine ⟨0,0,i,rfl,?_⟩;simp only[*,go_sem]
 rintro D e0 F' Q ⟨e,j,i,rfl,a4,a5⟩;obtain ⟨R,S,T⟩:=Q.pick [1] (by decide);simp only[*,go_sem] at R S T;clear Q ao hd ar;obtain _|D:=D
 ·exact absurd i (by simp only[aR,reduceCtorEq,not_false_eq_true])
 revert i;refine bS fun e1 h d=>?_;unfold qp at h;try dsimp only at h
 refine af hJ (ah hJ ?_);simp only[*,go_sem];revert h;refine jC hJ (by simp only[*,go_sem]) (fun a6 h=>?_) fun a6 h=>?_
 ·refine aI hJ (af hJ ?_);refine aN hJ (af hJ ?_);refine af hJ ?_;refine cQ hJ mixed 9 1 (by simp only[*,go_sem]) (by kernel_rfl) ?_;revert h;refine bS fun E a7 h=>?_;obtain ⟨e2,e3,U⟩:=cH a7;obtain ⟨fa,a8,a9,ba,G⟩:=b.p.el _ _ U;obtain rfl:a8=E.cells:=ba;cases a9;have bb:=G 0 _ rfl;simp only[go_sem] at bb;have bc:=G 1 _ rfl;simp only[go_sem] at bc;clear G U;revert h;refine bS fun fb bd h=>?_;try simp only[*,go_sem]
  refine ⟨_,bD hJ fun F H=>Hj u0 (b.mono (bZ H)) E.place bd,b9 ?_⟩;try simp only[*,go_sem]
  revert h;refine jC hJ (by simp only[*,go_sem]) (fun bj h=>?_) fun bj h=>?_
  ·obtain rfl:=sI h;refine ah hJ ?_;simp only[*,go_sem];obtain rfl:=sI d;clear d;have h:=C;dsimp only[aB] at h;obtain rfl:=sI h;refine ay ?_;simp only[*,go_sem]
  refine aI hJ (af hJ ?_);refine aj hJ ?_;revert h;refine bS fun fg bl h=>?_;simp only[*,go_sem];refine bn hJ _ (gR E.di 1 20 bl) (aK ?_);try simp only[*,go_sem]
  revert h;refine jC hJ (by simp only[*,go_sem]) (fun bm h=>?_) fun bm h=>?_
  ·obtain rfl:=sI h;refine ah hJ ?_;simp only[*,go_sem];obtain rfl:=sI d;clear d;have h:=C;dsimp only[aB] at h;obtain rfl:=sI h;refine ay ?_;simp only[*,go_sem]
  obtain rfl:=sI h;refine aI hJ (aj hJ ?_);simp only[*,go_sem];refine ⟨D,Nat.lt_succ_self _,_,Le.sub (List.Sublist.refl _),e,(IntKind.i64.wrap (j+1)),d,rfl,?_⟩;simp only[*,go_sem]
 obtain rfl:=sI h;refine bJ ?_;simp only[go_sem];obtain rfl:=sI d;clear d;have h:=C;dsimp only[aB] at h;refine af hJ (ah hJ ?_);revert h;refine bS fun fi bo h=>?_;simp only[*,go_sem];refine bn hJ _ (gR (u0.aG.length:Int) 1 3 bo) (aK ?_);try simp only[*,go_sem]
 revert h;refine jC hJ (by simp only[*,go_sem]) (fun br h=>?_) fun br h=>?_
 ·obtain rfl:=sI h;refine ah hJ ?_;simp only[*,go_sem];refine ay ?_;simp only[*,go_sem]
 refine aI hJ (af hJ ?_);refine ah hJ ?_;simp only[*,go_sem];refine aN hJ ?_;revert h;refine bS fun bs k l=>?_;refine bQ hJ [2,4,5,40,41,42,43,44,45,46,47,48,49,50,51,52,53,54,55,56,57,58,59,60,61,62,63,64,65,66,67,68,69,70,71] (fun m c F'=>∃(f:Int) (n:Int),aR (Ba u0) m (f,n)=some bs/\F'=⟨ro,(B,bk u0 s1 (sl d10 u0.props w) (sl d17 u0.aG x) (sl d24 u0.told z))::[]⟩/\slot c 2= .int .i64 f/\slot c 4= .int .i64 n) fu ?_ ?_
 ·refine ⟨e,0,k,rfl,?_⟩;simp only[*,go_sem]
 rintro I fp F' V ⟨f,n,k,rfl,bz,b0⟩;obtain ⟨W,X,Y⟩:=V.pick [1] (by decide);simp only[*,go_sem] at W X Y;clear V R S T a4 a5;obtain _|I:=I
 ·exact absurd k (by simp only[aR,reduceCtorEq,not_false_eq_true])
 revert k;refine bS fun fr h a=>?_;unfold Ba at h;try dsimp only at h
 refine af hJ (ah hJ ?_);simp only[*,go_sem];revert h;refine jC hJ (by simp only[*,go_sem]) (fun b1 h=>?_) fun b1 h=>?_
 ·refine aI hJ (af hJ ?_);refine aN hJ (af hJ ?_);refine aj hJ ?_;revert h;refine bS fun K b2 h=>?_;obtain ⟨fs,ft,Z⟩:=cH b2;obtain ⟨fv,b3,b4,b5,o⟩:=b.y.el _ _ Z;obtain rfl:b3=K.cells:=b5;cases b4;have ca:=o 0 _ rfl;simp only[go_sem] at ca;have cb:=o 1 _ rfl;simp only[go_sem] at cb;have cd:=o 2 _ rfl;simp only[go_sem] at cd;clear o Z;try simp only[*,go_sem]
  refine aA fun fw fx cf=>?_;try simp only[au] at cf
  try simp only[*,go_sem]
  refine ah hJ ?_;revert h;refine bS fun gg cl h=>?_;simp only[*,go_sem];refine bn hJ _ (gR K.back 1 20 cl) (aK ?_);revert h;refine cS (fun cy h=>?_) fun cy h=>?_
  ·obtain rfl:=sI h;(try simp only[*,go_sem]);refine bP hJ (by simp only[*,go_sem]) ?_;refine ah hJ ?_;simp only[*,go_sem];obtain rfl:=sI a;clear a;have h:=l;dsimp only[aB] at h;obtain rfl:=sI h;refine ay ?_;simp only[*,go_sem]
  revert h;refine bS fun gl c0 h=>?_;try simp only[*,go_sem]
  refine bn hJ _ (Hp K.high 0 60 c0) (aK ?_);revert h;refine cS (fun da h=>?_) fun da h=>?_
  ·obtain rfl:=sI h;(try simp only[*,go_sem]);refine bP hJ (by simp only[*,go_sem]) ?_;refine ah hJ ?_;simp only[*,go_sem];obtain rfl:=sI a;clear a;have h:=l;dsimp only[aB] at h;obtain rfl:=sI h;refine ay ?_;simp only[*,go_sem]
  try simp only[*,go_sem]
  revert h;refine jC hJ (by simp only[*,go_sem]) (fun db h=>?_) fun db h=>?_
  ·obtain rfl:=sI h;refine ah hJ ?_;simp only[*,go_sem];obtain rfl:=sI a;clear a;have h:=l;dsimp only[aB] at h;obtain rfl:=sI h;refine ay ?_;simp only[*,go_sem]
  obtain rfl:=sI h;refine aI hJ (aj hJ ?_);simp only[*,go_sem];refine ⟨I,Nat.lt_succ_self _,_,Le.sub (List.Sublist.cons _ (List.Sublist.refl _)),f,(IntKind.i64.wrap (n+1)),a,rfl,?_⟩;simp only[*,go_sem]
 obtain rfl:=sI h;refine bJ ?_;simp only[go_sem];obtain rfl:=sI a;clear a;have h:=l;dsimp only[aB] at h;refine af hJ (ah hJ ?_);simp only[*,go_sem];revert h;refine jC hJ (by simp only[*,go_sem]) (fun dd h=>?_) fun dd h=>?_
 ·obtain rfl:=sI h;refine ah hJ ?_;simp only[*,go_sem];refine ay ?_;simp only[*,go_sem]
 refine aI hJ (af hJ ?_);refine ah hJ ?_;simp only[*,go_sem];refine aN hJ ?_;revert h;refine bS fun df q ab=>?_;refine bQ hJ [2,6,76,77,78,79,80,81,82,83,84,85,86,87,88,89,90,91] (fun m c F'=>∃(s:Int) (u:Int),aR (A9 u0) m (s,u)=some df/\F'=⟨ro,(B,bk u0 s1 (sl d10 u0.props w) (sl d17 u0.aG x) (sl d24 u0.told z))::[]⟩/\slot c 2= .int .i64 s/\slot c 6= .int .i64 u) fu ?_ ?_
 ·refine ⟨f,0,q,rfl,?_⟩;simp only[*,go_sem]
 rintro L gn F' ad ⟨s,u,q,rfl,gp,gB⟩;obtain ⟨dk,dp,dq⟩:=ad.pick [1] (by decide);simp only[*,go_sem] at dk dp dq;clear ad W X Y bz b0;obtain _|L:=L
 ·exact absurd q (by simp only[aR,reduceCtorEq,not_false_eq_true])
 revert q;refine bS fun gC h g=>?_;unfold A9 at h;try dsimp only at h
 refine af hJ (ah hJ ?_);simp only[*,go_sem];revert h;refine jC hJ (by simp only[*,go_sem]) (fun ds h=>?_) fun ds h=>?_
 ·refine aI hJ (af hJ ?_);refine aN hJ (af hJ ?_);refine cQ hJ mixed 9 1 (by simp only[*,go_sem]) (by kernel_rfl) ?_;revert h;refine bS fun ae dt h=>?_;obtain ⟨gM,gT,al⟩:=cH dt;obtain ⟨gV,du,dv,dC,M⟩:=b.t.el _ _ al;obtain rfl:du=ae.cells:=dC;cases dv;have dE:=M 0 _ rfl;simp only[go_sem] at dE;have dT:=M 1 _ rfl;simp only[go_sem] at dT;clear M al;revert h;refine bS fun g0 ea h=>?_;try simp only[*,go_sem]
  refine ⟨_,bD hJ fun F H=>Hl u0 (b.mono (bZ H)) ae.aW ea,b9 ?_⟩;try simp only[*,go_sem]
  revert h;refine jC hJ (by simp only[*,go_sem]) (fun eb h=>?_) fun eb h=>?_
  ·obtain rfl:=sI h;refine ah hJ ?_;simp only[*,go_sem];obtain rfl:=sI g;clear g;have h:=ab;dsimp only[aB] at h;obtain rfl:=sI h;refine ay ?_;simp only[*,go_sem]
  obtain rfl:=sI h;refine aI hJ (aj hJ ?_);simp only[*,go_sem];refine ⟨L,Nat.lt_succ_self _,_,Le.sub (List.Sublist.refl _),s,(IntKind.i64.wrap (u+1)),g,rfl,?_⟩;simp only[*,go_sem]
 obtain rfl:=sI h;refine bJ ?_;simp only[go_sem];obtain rfl:=sI g;clear g;have h:=ab;dsimp only[aB] at h;obtain rfl:=sI h;refine ah hJ ?_;simp only[*,go_sem];refine ay ?_;simp only[*,go_sem]
def mG (u0:ak):Option Int:=
 ag (eA u0.bG 2 60) fun c=>cond (!c) (some 1) (ag (eA u0.bO 0 60) fun d=>cond (!d) (some 1) (ag (eA u0.aY.den 1 20) fun e=>cond (!e) (some 1) (ag (eA u0.aY.num 0 20) fun f=>cond (!f) (some 1) (ag (ir u0.aY.num u0.aY.den) fun a=>cond (!((a.num==u0.aY.num)&&(a.den==u0.aY.den))) (some 3) (ag (mE u0) fun b=>cond ((b != 0)) (some b) (ag (mF u0) fun g=>some g))))))
theorem Hu {ro:Addr->Option Value}(u0:ak){s1 a b c:Value}(d:bK ro u0 s1 a b c){r:Int}(h:mG u0=some r):aD Tryz.prog 39 #[bv u0 s1 a b c] ⟨ro,[]⟩ (fun v _=>v= .int .i64 r):=by
 unfold mG at h;refine aD.go Tryz.func39 rfl Tryz.ntmps39 Tryz.results39 (by simp) fun main J hJ A e hd hs=>?_;have f:=hs 0;clear hs;refine ah hJ ?_;simp only[*,go_sem];refine aA fun E G g=>?_;try simp only[au] at g
 try simp only[*,go_sem]
 refine af hJ (ah hJ ?_);revert h;refine bS fun H i h=>?_;simp only[*,go_sem];refine bn hJ _ (gR u0.bG 2 60 i) (aK ?_);revert h;refine cS (fun j h=>?_) fun j h=>?_
 ·obtain rfl:=sI h;try simp only[*,go_sem]
  refine bP hJ (by simp only[*,go_sem]) ?_;refine ah hJ ?_;simp only[*,go_sem];refine ay ?_;simp only[*,go_sem]
 revert h;refine bS fun I k h=>?_;try simp only[*,go_sem]
 refine bn hJ _ (gR u0.bO 0 60 k) (aK ?_);revert h;refine cS (fun l h=>?_) fun l h=>?_
 ·obtain rfl:=sI h;try simp only[*,go_sem]
  refine bP hJ (by simp only[*,go_sem]) ?_;refine ah hJ ?_;simp only[*,go_sem];refine ay ?_;simp only[*,go_sem]
 revert h;refine bS fun K m h=>?_;try simp only[*,go_sem]
 refine bn hJ _ (gR u0.aY.den 1 20 m) (aK ?_);revert h;refine cS (fun n h=>?_) fun n h=>?_
 ·obtain rfl:=sI h;try simp only[*,go_sem]
  refine bP hJ (by simp only[*,go_sem]) ?_;refine ah hJ ?_;simp only[*,go_sem];refine ay ?_;simp only[*,go_sem]
 revert h;refine bS fun L o h=>?_;try simp only[*,go_sem]
 refine bn hJ _ (gR u0.aY.num 0 20 o) (aK ?_);try simp only[*,go_sem]
 revert h;refine jC hJ (by simp only[*,go_sem]) (fun p h=>?_) fun p h=>?_
 ·obtain rfl:=sI h;refine ah hJ ?_;simp only[*,go_sem];refine ay ?_;simp only[*,go_sem]
 refine aI hJ (af hJ ?_);refine af hJ ?_;refine cQ hJ mixed 10 1 (by simp only[*,go_sem]) (by kernel_rfl) ?_;revert h;refine bS fun M q h=>?_;simp only[*,go_sem];refine ⟨_,bD hJ fun F N=>Ho u0.aY.num u0.aY.den q,b9 ?_⟩;try simp only[*,go_sem]
 revert h;refine jC hJ (by simp only[*,go_sem]) (fun s h=>?_) fun s h=>?_
 ·obtain rfl:=sI h;refine af hJ ?_;refine ff [1,2] fun O t u w=>?_;simp only[*,go_sem] at t u w;clear e hd f;refine aj hJ ?_;simp only[*,go_sem];refine ay ?_;simp only[*,go_sem]
 refine aI hJ (af hJ ?_);refine af hJ ?_;refine ff [1,2] fun P x y z=>?_;simp only[*,go_sem] at x y z;clear e hd f;refine aj hJ ?_;revert h;refine bS fun Q B h=>?_;simp only[*,go_sem];refine bn hJ _ (Hs u0 (d.mono aT) B) (aK ?_);try simp only[*,go_sem]
 refine ah hJ ?_;simp only[*,go_sem];revert h;refine jC hJ (by simp only[*,go_sem]) (fun C h=>?_) fun C h=>?_
 ·obtain rfl:=sI h;refine ah hJ ?_;simp only[*,go_sem];refine ay ?_;simp only[*,go_sem]
 refine aI hJ (af hJ ?_);refine aj hJ ?_;revert h;refine bS fun R D h=>?_;obtain rfl:=sI h;simp only[*,go_sem];refine bn hJ _ (Ht u0 (d.mono aT) D) (aK ?_);try simp only[*,go_sem]
 refine ay ?_;simp only[*,go_sem]
def xj (u0:aQ):Option Int:=
 ag (eA u0.back 1 20) fun a=>cond (!a) (some 1) (ag (eA u0.high 0 60) fun b=>cond (!b) (some 1) (some 0))
theorem Hv:Tryz.prog.underlying 3=some (.int .i64):=by kernel_rfl
theorem Hw:Tryz.prog.underlying 5=some (.int .u8):=by kernel_rfl
attribute [go_sem] Hv Hw
def n5 (u0:ak):Option Bool:=
 ag (mC u0) fun a=>cond (!a) (ag (mG u0) fun b=>some (b==0)) (some false)
theorem Hx {ro:Addr->Option Value}(u0:ak){s1 b c d:Value}(a:bK ro u0 s1 b c d){r:Bool}(h:n5 u0=some r):aD Tryz.prog 12 #[bv u0 s1 b c d] ⟨ro,[]⟩ (fun v _=>v= .bool r):=by
 obtain ⟨d3,c4,rfl,k,l,-⟩:=id a.e;obtain ⟨d10,m,rfl,n,o,-⟩:=id a.p;obtain ⟨d17,q,rfl,s,u,-⟩:=id a.y;obtain ⟨d24,w,rfl,x,z,-⟩:=id a.t;unfold n5 at h;refine aD.go Tryz.func12 rfl Tryz.ntmps12 Tryz.results12 (by simp) fun main J hJ A B hd hs=>?_;have C:=hs 0;clear hs;refine ah hJ ?_;simp only[*,go_sem];refine aA fun D E f=>?_;try simp only[au] at f
 try simp only[*,go_sem]
 refine ah hJ ?_;revert h;refine bS fun F g h=>?_;simp only[*,go_sem];refine bn hJ _ (Hq u0 (a.mono aT) g) (aK ?_);revert h;refine cS (fun i h=>?_) fun i h=>?_
 ·revert h;refine bS fun G j h=>?_;obtain rfl:=sI h;try simp only[*,go_sem]
  refine bn hJ _ (Hu u0 (a.mono aT) j) (aK ?_);try simp only[*,go_sem]
  refine ay ?_;simp only[*,go_sem]
 obtain rfl:=sI h;try simp only[*,go_sem]
 refine ay ?_;simp only[*,go_sem]
def n6 (u0:(List Int))(b:Int)(st:(Int×Int)):Option (Fl (Int×Int) Int):=
 cond (decide (st.2<(u0.length:Int))) (ag (bf u0 st.2) fun a=>ag (eA a 0 (IntKind.i64.wrap (b - 1))) fun c=>cond (!c) (some (.rt 6)) (cond (decide (0<st.2)) (ag (bf u0 (IntKind.i64.wrap (st.2 - 1))) fun d=>cond (decide (a<=d)) (some (.rt 7)) (some (.nx (st.1,(IntKind.i64.wrap (st.2+1)))))) (some (.nx (st.1,(IntKind.i64.wrap (st.2+1))))))) (some (.bk (st.1,st.2)))
def qq (u0:(List Int))(a:Int):Option Int:=
 ag (aR (n6 u0 a) fu (0,0)) fun o=>aB o (fun b=>some 0) (fun _ _=>none) (fun r=>some r)
theorem Hy {ro:Addr->Option Value}(u0:(List Int)){s1:Value}(g:aC rI ro s1 u0)(d:Int){r:Int}(h:qq u0 d=some r):aD Tryz.prog 44 #[s1,.int .i64 d] ⟨ro,[]⟩ (fun v _=>v= .int .i64 r):=by
 obtain ⟨d3,c4,rfl,R,S,-⟩:=id g;unfold qq at h;refine aD.go Tryz.func44 rfl Tryz.ntmps44 Tryz.results44 (by simp) fun main J hJ A s hd hs=>?_;have t:=hs 0;have k1:=hs 1;clear hs;refine ah hJ ?_;simp only[*,go_sem];refine af hJ (ah hJ ?_);simp only[*,go_sem];refine aN hJ ?_;revert h;refine bS fun u e i=>?_;refine bQ hJ [4,5,6,7,8,9,10,11,12,13,14,15,16,17,18,19,20,21,22,23,24,25,26,27,28,29,30,31,32,33] (fun m j F'=>∃(b:Int) (c:Int),aR (n6 u0 d) m (b,c)=some u/\F'=⟨ro,[]⟩/\slot j 4= .int .i64 b/\slot j 5= .int .i64 c) fu ?_ ?_
 ·refine ⟨0,0,e,rfl,?_⟩;simp only[*,go_sem]
 rintro f T F' k ⟨b,c,e,rfl,U,V⟩;obtain ⟨w,x,y⟩:=k.pick [0,1] (by decide);simp only[*,go_sem] at w x y;clear k s hd t k1;obtain _|f:=f
 ·exact absurd e (by simp only[aR,reduceCtorEq,not_false_eq_true])
 revert e;refine bS fun W h a=>?_;unfold n6 at h;try dsimp only at h
 refine af hJ (ah hJ ?_);simp only[*,go_sem];revert h;refine jC hJ (by simp only[*,go_sem]) (fun z h=>?_) fun z h=>?_
 ·refine aI hJ (af hJ ?_);refine aN hJ (af hJ ?_);refine ah hJ ?_;revert h;refine bS fun l B h=>?_;obtain ⟨X,Y,n⟩:=cH B;obtain ⟨Z,C,D,E,o⟩:=g.el _ _ n;obtain rfl:C=[.int .i64 l]:=E;cases D;have F:=o 0 _ rfl;simp only[go_sem] at F;clear o n;revert h;refine bS fun ab G h=>?_;try simp only[*,go_sem]
  refine bn hJ _ (gR l 0 (IntKind.i64.wrap (d - 1)) G) (aK ?_);try simp only[*,go_sem]
  revert h;refine jC hJ (by simp only[*,go_sem]) (fun H h=>?_) fun H h=>?_
  ·obtain rfl:=sI h;refine ah hJ ?_;simp only[*,go_sem];obtain rfl:=sI a;clear a;have h:=i;dsimp only[aB] at h;obtain rfl:=sI h;refine ay ?_;simp only[*,go_sem]
  refine aI hJ (af hJ ?_);refine cQ hJ mixed 14 0 (by simp only[*,go_sem]) (by kernel_rfl) ?_;revert h;refine cS (fun I h=>?_) fun I h=>?_
  ·revert h;refine bS fun K L h=>?_;obtain ⟨ad,ae,p⟩:=cH L;obtain ⟨al,M,N,O,q⟩:=g.el _ _ p;obtain rfl:M=[.int .i64 K]:=O;cases N;have P:=q 0 _ rfl;simp only[go_sem] at P;clear q p;(try simp only[*,go_sem]);revert h;refine jC hJ (by simp only[*,go_sem]) (fun Q h=>?_) fun Q h=>?_
   ·obtain rfl:=sI h;refine ah hJ ?_;simp only[*,go_sem];obtain rfl:=sI a;clear a;have h:=i;dsimp only[aB] at h;obtain rfl:=sI h;refine ay ?_;simp only[*,go_sem]
   obtain rfl:=sI h;refine aI hJ (aj hJ ?_);simp only[*,go_sem];refine ⟨f,Nat.lt_succ_self _,_,Le.sub (List.Sublist.refl _),b,(IntKind.i64.wrap (c+1)),a,rfl,?_⟩;simp only[*,go_sem]
  obtain rfl:=sI h;try simp only[*,go_sem]
  refine bM hJ (by simp only[*,go_sem]) ?_;refine aI hJ (aj hJ ?_);simp only[*,go_sem];refine ⟨f,Nat.lt_succ_self _,_,Le.sub (List.Sublist.refl _),b,(IntKind.i64.wrap (c+1)),a,rfl,?_⟩;simp only[*,go_sem]
 obtain rfl:=sI h;refine bJ ?_;simp only[go_sem];obtain rfl:=sI a;clear a;have h:=i;dsimp only[aB] at h;obtain rfl:=sI h;refine ah hJ ?_;simp only[*,go_sem];refine ay ?_;simp only[*,go_sem]
def qs (u0:(List Int))(a:Int)(st:(Bool×Int)):Option (Fl (Bool×Int) Bool):=
 cond (decide (st.2<(u0.length:Int))) (ag (bf u0 st.2) fun b=>cond ((b==a)) (some (.rt true)) (some (.nx (st.1,(IntKind.i64.wrap (st.2+1)))))) (some (.bk (st.1,st.2)))
def n7 (u0:(List Int))(a:Int):Option Bool:=
 ag (aR (qs u0 a) fu (false,0)) fun o=>aB o (fun b=>some false) (fun _ _=>none) (fun r=>some r)
theorem Bb {ro:Addr->Option Value}(u0:(List Int)){s1:Value}(g:aC rI ro s1 u0)(e:Int){r:Bool}(h:n7 u0 e=some r):aD Tryz.prog 19 #[s1,.int .i64 e] ⟨ro,[]⟩ (fun v _=>v= .bool r):=by
 obtain ⟨d3,c4,rfl,F,G,-⟩:=id g;unfold n7 at h;refine aD.go Tryz.func19 rfl Tryz.ntmps19 Tryz.results19 (by simp) fun main J hJ A o hd hs=>?_;have p:=hs 0;have k1:=hs 1;clear hs;refine ah hJ ?_;simp only[*,go_sem];refine af hJ (ah hJ ?_);simp only[*,go_sem];refine aN hJ ?_;revert h;refine bS fun q b i=>?_;refine bQ hJ [4,5,6,7,8,9,10,11,12,13,14,15,16,17] (fun m j F'=>∃(c:Bool) (d:Int),aR (qs u0 e) m (c,d)=some q/\F'=⟨ro,[]⟩/\slot j 4= .bool c/\slot j 5= .int .i64 d) fu ?_ ?_
 ·refine ⟨false,0,b,rfl,?_⟩;simp only[*,go_sem]
 rintro f H F' k ⟨c,d,b,rfl,I,K⟩;obtain ⟨s,t,u⟩:=k.pick [0,1] (by decide);simp only[*,go_sem] at s t u;clear k o hd p k1;obtain _|f:=f
 ·exact absurd b (by simp only[aR,reduceCtorEq,not_false_eq_true])
 revert b;refine bS fun L h a=>?_;unfold qs at h;try dsimp only at h
 refine af hJ (ah hJ ?_);simp only[*,go_sem];revert h;refine jC hJ (by simp only[*,go_sem]) (fun w h=>?_) fun w h=>?_
 ·refine aI hJ (af hJ ?_);refine aN hJ (af hJ ?_);refine aj hJ ?_;revert h;refine bS fun x y h=>?_;obtain ⟨M,N,l⟩:=cH y;obtain ⟨O,z,B,C,n⟩:=g.el _ _ l;obtain rfl:z=[.int .i64 x]:=C;cases B;have D:=n 0 _ rfl;simp only[go_sem] at D;clear n l;try simp only[*,go_sem]
  revert h;refine jC hJ (by simp only[*,go_sem]) (fun E h=>?_) fun E h=>?_
  ·obtain rfl:=sI h;refine ah hJ ?_;simp only[*,go_sem];obtain rfl:=sI a;clear a;have h:=i;dsimp only[aB] at h;obtain rfl:=sI h;refine ay ?_;simp only[*,go_sem]
  obtain rfl:=sI h;refine aI hJ (aj hJ ?_);simp only[*,go_sem];refine ⟨f,Nat.lt_succ_self _,_,Le.sub (List.Sublist.refl _),c,(IntKind.i64.wrap (d+1)),a,rfl,?_⟩;simp only[*,go_sem]
 obtain rfl:=sI h;refine bJ ?_;simp only[go_sem];obtain rfl:=sI a;clear a;have h:=i;dsimp only[aB] at h;obtain rfl:=sI h;refine ah hJ ?_;simp only[*,go_sem];refine ay ?_;simp only[*,go_sem]
def n8 (u0:(List Int))(a:(List Int))(st:(Bool×Int)):Option (Fl (Bool×Int) Bool):=
 cond (decide (st.2<(u0.length:Int))) (ag (bf u0 st.2) fun b=>ag (n7 a b) fun c=>cond (!c) (some (.rt false)) (some (.nx (st.1,(IntKind.i64.wrap (st.2+1)))))) (some (.bk (st.1,st.2)))
def qt (u0:(List Int))(a:(List Int)):Option Bool:=
 ag (aR (n8 u0 a) fu (false,0)) fun o=>aB o (fun b=>some true) (fun _ _=>none) (fun r=>some r)
theorem Hz {ro:Addr->Option Value}(u0:(List Int)){s1:Value}(g:aC rI ro s1 u0)(b:(List Int)){i:Value}(q:aC rI ro i b){r:Bool}(h:qt u0 b=some r):aD Tryz.prog 45 #[s1,i] ⟨ro,[]⟩ (fun v _=>v= .bool r):=by
 obtain ⟨d3,c4,rfl,I,K,-⟩:=id g;unfold qt at h;refine aD.go Tryz.func45 rfl Tryz.ntmps45 Tryz.results45 (by simp) fun main J hJ A s hd hs=>?_;have t:=hs 0;have k1:=hs 1;clear hs;refine ah hJ ?_;simp only[*,go_sem];refine af hJ (ah hJ ?_);simp only[*,go_sem];refine aN hJ ?_;revert h;refine bS fun u c j=>?_;refine bQ hJ [4,5,6,7,8,9,10,11,12,13,14,15,16,17,18] (fun m k F'=>∃(d:Bool) (e:Int),aR (n8 u0 b) m (d,e)=some u/\F'=⟨ro,[]⟩/\slot k 4= .bool d/\slot k 5= .int .i64 e) fu ?_ ?_
 ·refine ⟨false,0,c,rfl,?_⟩;simp only[*,go_sem]
 rintro f L F' l ⟨d,e,c,rfl,M,N⟩;obtain ⟨w,x,y⟩:=l.pick [0,1] (by decide);simp only[*,go_sem] at w x y;clear l s hd t k1;obtain _|f:=f
 ·exact absurd c (by simp only[aR,reduceCtorEq,not_false_eq_true])
 revert c;refine bS fun O h a=>?_;unfold n8 at h;try dsimp only at h
 refine af hJ (ah hJ ?_);simp only[*,go_sem];revert h;refine jC hJ (by simp only[*,go_sem]) (fun z h=>?_) fun z h=>?_
 ·refine aI hJ (af hJ ?_);refine aN hJ (af hJ ?_);refine aj hJ ?_;revert h;refine bS fun n B h=>?_;obtain ⟨P,Q,o⟩:=cH B;obtain ⟨R,C,D,E,p⟩:=g.el _ _ o;obtain rfl:C=[.int .i64 n]:=E;cases D;have F:=p 0 _ rfl;simp only[go_sem] at F;clear p o;revert h;refine bS fun S G h=>?_;try simp only[*,go_sem]
  refine bn hJ _ (Bb b (q.mono aT) n G) (aK ?_);try simp only[*,go_sem]
  revert h;refine jC hJ (by simp only[*,go_sem]) (fun H h=>?_) fun H h=>?_
  ·obtain rfl:=sI h;refine ah hJ ?_;simp only[*,go_sem];obtain rfl:=sI a;clear a;have h:=j;dsimp only[aB] at h;obtain rfl:=sI h;refine ay ?_;simp only[*,go_sem]
  obtain rfl:=sI h;refine aI hJ (aj hJ ?_);simp only[*,go_sem];refine ⟨f,Nat.lt_succ_self _,_,Le.sub (List.Sublist.refl _),d,(IntKind.i64.wrap (e+1)),a,rfl,?_⟩;simp only[*,go_sem]
 obtain rfl:=sI h;refine bJ ?_;simp only[go_sem];obtain rfl:=sI a;clear a;have h:=j;dsimp only[aB] at h;obtain rfl:=sI h;refine ah hJ ?_;simp only[*,go_sem];refine ay ?_;simp only[*,go_sem]
def n9 (u0:ak)(c:ak)(d:Int)(a:((List Int)×Int))(st:(Bool×Int)):Option (Fl (Bool×Int) Bool):=
 cond (decide (st.2<(a.1.length:Int))) (ag (bf u0.aG d) fun e=>ag (bf a.1 st.2) fun f=>ag (j9 e.back f) fun g=>ag (mq c g) fun b=>cond ((b.2.2 != 0)) (some (.rt false)) (cond (b.2.1) (some (.rt false)) (some (.nx (st.1,(IntKind.i64.wrap (st.2+1))))))) (some (.bk (st.1,st.2)))
def qu (u0:ak)(b:ak)(st:(Bool×Int)):Option (Fl (Bool×Int) Bool):=
 cond (decide (st.2<(u0.aG.length:Int))) (ag (mw u0 st.2) fun a=>cond ((a.2 != 0)) (some (.rt false)) (ag (aR (n9 u0 b st.2 a) fu (st.1,0)) fun o=>aB o (fun c=>some (.nx (c.1,(IntKind.i64.wrap (st.2+1))))) (fun _ _=>none) (fun r=>some (.rt r)))) (some (.bk (st.1,st.2)))
def qv (u0:ak)(a:(List Int))(b:Int):Option Bool:=
 ag (n4 u0 a b) fun c=>ag (aR (qu u0 c) fu (false,0)) fun o=>aB o (fun d=>some true) (fun _ _=>none) (fun r=>some r)
theorem HA {ro:Addr->Option Value}(c:c7 ro)(u0:ak){s1 k K l:Value}(a:bK ro u0 s1 k K l)(x:(List Int)){L:Value}(M:aC rI ro L x)(z:Int){r:Bool}(h:qv u0 x z=some r):aD Tryz.prog 46 #[bv u0 s1 k K l,L,.int .i64 z] ⟨ro,[]⟩ (fun v _=>v= .bool r):=by
 obtain ⟨d17,N,rfl,dC,dE,-⟩:=id a.y;obtain ⟨d31,dT,rfl,ea,eb,-⟩:=id M;unfold qv at h;have a2:=a.oc;simp only[bE] at a2;refine aD.go Tryz.func46 rfl Tryz.ntmps46 Tryz.results46 (by simp) fun main J hJ A a3 hd hs=>?_;have a4:=hs 0;have k1:=hs 1;have a5:=hs 2;clear hs;refine ah hJ ?_;simp only[*,go_sem];refine aA fun O ec a6=>?_;try simp only[au] at a6
 try simp only[*,go_sem]
 refine ah hJ ?_;revert h;refine bS fun g a7 h=>?_;simp only[*,go_sem];refine b8 hJ _ (A8 u0 a x M z a7) fun v P Q a8 B=>?_;obtain ⟨R,S,T,U,rfl,e⟩:=B;have a9:=e.oc;simp only[bE] at a9;replace a:=a.mono Q;replace c:=c.mono Q;simp only[bp] at a8;refine aK ?_;try simp only[*,go_sem]
 refine aA fun V ed ba=>?_;try simp only[au] at ba
 try simp only[*,go_sem]
 refine af hJ (ah hJ ?_);simp only[*,go_sem];refine aN hJ ?_;revert h;refine bS fun bb n o=>?_;refine bQ hJ [6,8,9,10,11,12,13,14,19,20,21,22,23,24,25,26,27,28,29,30,31,32,33,34,35,36,37,38,39,40,41,42,43,44,45,46,47,48,49,50,51,52,53,54,55,56,57,58,59,60,61] (fun m i F'=>∃(C:Addr->Option Value) (p:Bool) (f:Int),aR (qu u0 g) m (p,f)=some bb/\F'=⟨C,(V,bk g R S T U)::(O,bk u0 s1 k (sl d17 u0.aG N) l)::[]⟩/\Ext P C/\slot i 6= .bool p/\slot i 8= .int .i64 f) fu ?_ ?_
 ·refine ⟨P,false,0,n,rfl,Ext.refl _,?_⟩;simp only[*,go_sem]
 rintro D bc F' W ⟨C,p,f,n,rfl,q,bd,bj⟩;refine fP hJ fun _ bl=>?_;replace e:=e.mono q;replace a:=a.mono q;replace c:=c.mono q;simp only[bp] at bl;obtain ⟨X,Y,Z⟩:=W.pick [3,7] (by decide);simp only[*,go_sem] at X Y Z;clear W a3 hd a4 k1 a5;obtain _|D:=D
 ·exact absurd n (by simp only[aR,reduceCtorEq,not_false_eq_true])
 revert n;refine bS fun eh h b=>?_;unfold qu at h;try dsimp only at h
 refine af hJ (ah hJ ?_);simp only[*,go_sem];revert h;refine jC hJ (by simp only[*,go_sem]) (fun bm h=>?_) fun bm h=>?_
 ·refine aI hJ (af hJ ?_);refine aN hJ (af hJ ?_);refine aj hJ ?_;revert h;refine bS fun bo br h=>?_;simp only[*,go_sem];refine b8 hJ _ (s5 c u0 a f br) fun v ab s bs B=>?_;obtain ⟨et,rfl,ad⟩:=B;replace a:=a.mono s;replace e:=e.mono s;replace c:=c.mono s;simp only[bp] at bs;obtain ⟨d89,ev,rfl,eQ,eS,-⟩:=id ad;refine aK ?_;try simp only[*,go_sem]
  refine af hJ (ah hJ ?_);simp only[*,go_sem];revert h;refine jC hJ (by simp only[*,go_sem]) (fun bz h=>?_) fun bz h=>?_
  ·obtain rfl:=sI h;refine ah hJ ?_;simp only[*,go_sem];obtain rfl:=sI b;clear b;have h:=o;dsimp only[aB] at h;obtain rfl:=sI h;refine ay ?_;simp only[*,go_sem]
  refine aI hJ (af hJ ?_);refine aj hJ ?_;simp only[*,go_sem];refine aN hJ ?_;revert h;refine bS fun b0 t E=>?_;refine bQ hJ [6,11,12,13,14,34,35,36,37,38,39,40,41,42,43,44,45,46,47,48,49,50,51,52,53,54,55,56,57,58,59,60,61] (fun m i F'=>∃(j:Bool) (u:Int),aR (n9 u0 g f bo) m (j,u)=some b0/\F'=⟨ab,(V,bk g R S T U)::(O,bk u0 s1 k (sl d17 u0.aG N) l)::[]⟩/\slot i 6= .bool j/\slot i 11= .int .i64 u) fu ?_ ?_
  ·refine ⟨p,0,t,rfl,?_⟩;simp only[*,go_sem]
  rintro G b1 F' H ⟨j,u,t,rfl,e0,e1⟩;obtain ⟨b2,b3,b4⟩:=H.pick [3,7,8,9,10,19,20,21,22,23,26,27,28,29,30,31,32,33] (by decide);simp only[*,go_sem] at b2 b3 b4;have e2:cE [6,8,9,10,11,12,13,14,19,20,21,22,23,24,25,26,27,28,29,30,31,32,33,34,35,36,37,38,39,40,41,42,43,44,45,46,47,48,49,50,51,52,53,54,55,56,57,58,59,60,61] b1 bc:=(H.fK (by decide)).trans (by simp only[*,go_sem]);clear H X Y Z bd bj;obtain _|G:=G
  ·exact absurd t (by simp only[aR,reduceCtorEq,not_false_eq_true])
  revert t;refine bS fun e3 h d=>?_;unfold n9 at h;try dsimp only at h
  refine af hJ (ah hJ ?_);simp only[*,go_sem];revert h;refine jC hJ (by simp only[*,go_sem]) (fun b5 h=>?_) fun b5 h=>?_
  ·refine aI hJ (af hJ ?_);refine aN hJ (af hJ ?_);refine cQ hJ mixed 17 2 (by simp only[*,go_sem]) (by kernel_rfl) ?_;revert h;refine bS fun ae ca h=>?_;obtain ⟨fa,fb,al⟩:=cH ca;obtain ⟨fg,cb,cd,cf,w⟩:=a.y.el _ _ al;obtain rfl:cb=ae.cells:=cf;cases cd;have cl:=w 0 _ rfl;simp only[go_sem] at cl;have cy:=w 1 _ rfl;simp only[go_sem] at cy;have c0:=w 2 _ rfl;simp only[go_sem] at c0;clear w al;revert h;refine bS fun ao da h=>?_;obtain ⟨fi,fp,ar⟩:=cH da;obtain ⟨fr,db,dd,df,a0⟩:=ad.el _ _ ar;obtain rfl:db=[.int .i64 ao]:=df;cases dd;have dk:=a0 0 _ rfl;simp only[go_sem] at dk;clear a0 ar;revert h;refine bS fun dp dq h=>?_;(try simp only[*,go_sem]);refine ⟨_,bD hJ fun F I=>nU ae.back ao dq,b9 ?_⟩;revert h;refine bS fun fs ds h=>?_;(try simp only[*,go_sem]);refine ⟨_,bD hJ fun F I=>vY (c.mono (bZ I)) g (e.mono (bZ I)) dp ds,b9 ?_⟩;(try simp only[*,go_sem]);refine aA fun ft fv dt=>?_;try simp only[au] at dt
   (try simp only[*,go_sem]);refine ah hJ ?_;revert h;refine cS (fun du h=>?_) fun du h=>?_
   ·obtain rfl:=sI h;(try simp only[*,go_sem]);refine bP hJ (by simp only[*,go_sem]) ?_;refine ah hJ ?_;simp only[*,go_sem];obtain rfl:=sI d;clear d;have h:=E;dsimp only[aB] at h;obtain rfl:=sI h;obtain rfl:=sI b;clear b;have h:=o;dsimp only[aB] at h;obtain rfl:=sI h;refine ay ?_;simp only[*,go_sem]
   (try simp only[*,go_sem]);revert h;refine jC hJ (by simp only[*,go_sem]) (fun dv h=>?_) fun dv h=>?_
   ·obtain rfl:=sI h;refine ah hJ ?_;simp only[*,go_sem];obtain rfl:=sI d;clear d;have h:=E;dsimp only[aB] at h;obtain rfl:=sI h;obtain rfl:=sI b;clear b;have h:=o;dsimp only[aB] at h;obtain rfl:=sI h;refine ay ?_;simp only[*,go_sem]
   obtain rfl:=sI h;refine aI hJ (aj hJ ?_);simp only[*,go_sem];refine ⟨G,Nat.lt_succ_self _,_,Le.sub (List.Sublist.cons _ (List.Sublist.refl _)),j,(IntKind.i64.wrap (u+1)),d,rfl,?_⟩;simp only[*,go_sem]
  obtain rfl:=sI h;refine bJ ?_;simp only[go_sem];obtain rfl:=sI d;clear d;have h:=E;dsimp only[aB] at h;obtain rfl:=sI h;refine aj hJ ?_;simp only[*,go_sem];refine ⟨D,Nat.lt_succ_self _,_,Le.sub (List.Sublist.refl _),ab,j,(IntKind.i64.wrap (f+1)),b,rfl,(q.trans s),?_⟩;simp only[*,go_sem]
 obtain rfl:=sI h;refine bJ ?_;simp only[go_sem];obtain rfl:=sI b;clear b;have h:=o;dsimp only[aB] at h;obtain rfl:=sI h;refine ah hJ ?_;simp only[*,go_sem];refine ay ?_;simp only[*,go_sem]
def s8 (u0:ak)(c:aQ)(st:(Int×Int×an)):Option (Fl (Int×Int×an) (Int×an)):=
 cond (decide (st.2.1<(u0.av.length:Int))) (ag (bf u0.av st.2.1) fun b=>ag (mA u0 c b.aH (⟨b.high,1⟩:an)) fun a=>cond ((st.2.1==0)) (some (.nx (st.2.1,(IntKind.i64.wrap (st.2.1+1)),a))) (ag (k6 st.2.2 a) fun d=>cond (d) (some (.nx (st.2.1,(IntKind.i64.wrap (st.2.1+1)),a))) (some (.nx (st.1,(IntKind.i64.wrap (st.2.1+1)),st.2.2))))) (some (.bk (st.1,st.2.1,st.2.2)))
def xk (u0:ak)(b:aQ):Option (Int×an):=
 ag (aR (s8 u0 b) fu (0,0,(⟨0,0⟩:an))) fun o=>aB o (fun a=>some (a.1,a.2.2)) (fun _ _=>none) (fun r=>some r)
def s9 (u0:ak)(c:Int)(st:Int):Option (Fl Int an):=
 cond (decide ((IntKind.i64.wrap (st+1))<(u0.av.length:Int))) (ag (bf u0.av st) fun a=>ag (bf u0.av (IntKind.i64.wrap (st+1))) fun b=>cond (decide (c<=b.aH)) (ag (ir (IntKind.i64.wrap ((IntKind.i64.wrap (a.high*(IntKind.i64.wrap (b.aH - a.aH))))+(IntKind.i64.wrap ((IntKind.i64.wrap (b.high - a.high))*(IntKind.i64.wrap (c - a.aH)))))) (IntKind.i64.wrap (b.aH - a.aH))) fun d=>some (.rt d)) (some (.nx (IntKind.i64.wrap (st+1))))) (some (.bk st))
def qw (u0:ak)(a:Int):Option an:=
 ag (aR (s9 u0 a) fu 0) fun o=>aB o (fun b=>some (⟨0,0⟩:an)) (fun _ _=>none) (fun r=>some r)
def ta (u0:ak)(d:aQ)(st:(Int×an)):Option (Fl (Int×an) (an×Bool)):=
 cond (decide (st.1<(u0.props.length:Int))) (ag (bf u0.props st.1) fun a=>ag (qw u0 a.place) fun b=>ag (ir (IntKind.i64.wrap (b.num+(IntKind.i64.wrap (a.di*b.den)))) b.den) fun e=>ag (mA u0 d a.place e) fun c=>cond ((st.1==0)) (ag (fS c c) fun f=>some (.nx ((IntKind.i64.wrap (st.1+1)),f))) (ag (fS st.2 c) fun g=>some (.nx ((IntKind.i64.wrap (st.1+1)),g)))) (some (.bk (st.1,st.2)))
def k7 (u0:ak)(a:aQ):Option (an×Bool):=
 ag (aR (ta u0 a) fu (0,(⟨0,0⟩:an))) fun o=>aB o (fun b=>some (b.2,decide (0<(u0.props.length:Int)))) (fun _ _=>none) (fun r=>some r)
def qx (u0:ak)(b:aQ):Option an:=
 ag (xk u0 b) fun a=>ag (k6 a.2 (⟨u0.bO,1⟩:an)) fun e=>cond (e) (ag (k7 u0 b) fun c=>cond (c.2) (ag (fS a.2 c.1) fun f=>ag (j8 (⟨u0.bO,1⟩:an) f) fun g=>ag (fS g (⟨0,1⟩:an)) fun h=>some h) (ag (j8 (⟨u0.bO,1⟩:an) a.2) fun i=>ag (fS i (⟨0,1⟩:an)) fun j=>some j)) (ag (k7 u0 b) fun d=>cond (d.2) (ag (fS (⟨u0.bO,1⟩:an) d.1) fun k=>ag (j8 a.2 k) fun l=>ag (fS l (⟨0,1⟩:an)) fun m=>some m) (ag (j8 a.2 (⟨u0.bO,1⟩:an)) fun n=>ag (fS n (⟨0,1⟩:an)) fun o=>some o))
def tc (u0:ak)(a:aQ):Option Bool:=
 ag (qx u0 a) fun b=>ag (k6 u0.aY b) fun c=>some c
def xl (u0:ak)(b:(List Int))(st:(Bool×Int)):Option (Fl (Bool×Int) Bool):=
 cond (decide (st.2<(u0.told.length:Int))) (ag (bf u0.told st.2) fun a=>ag (bf b a.aW) fun c=>ag (A7 u0 a.aW c) fun d=>ag (tc u0 d) fun e=>cond (!(e==a.bt)) (some (.rt false)) (some (.nx (st.1,(IntKind.i64.wrap (st.2+1)))))) (some (.bk (st.1,st.2)))
def xm (u0:ak)(a:(List Int)):Option Bool:=
 ag (aR (xl u0 a) fu (false,0)) fun o=>aB o (fun b=>some true) (fun _ _=>none) (fun r=>some r)
end Go.Proofs.YtpgcmoanfifglaaGreatDoor
end

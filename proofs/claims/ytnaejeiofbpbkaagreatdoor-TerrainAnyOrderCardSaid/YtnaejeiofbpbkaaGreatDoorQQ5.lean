/- A part of the proof: QQ5. -/
import Derived.Test.YtnaejeiofbpbkaaGreatDoorQQ4
set_option linter.all false
section
namespace Go.Proofs.YtnaejeiofbpbkaaGreatDoor
open Go Go.Sep Go.Proofs
set_option maxRecDepth 100000
set_option maxHeartbeats 4000000
def uw (n:Int):Option (List Int):=if 0<=n/\n<=1000 then some [] else none
theorem IL {ro:Addr->Option Value}{R:Value->aa->Prop}{n:Nat}(h0:0<n)(h1:n<=1000){own:List (Nat×Obj)}
  (h:∀(k b:Nat) (arr:Array Value),n<=k->arr.size=k->eg ⟨ro,own⟩ b->R (.slice (some ⟨b,0,none⟩) n k) ⟨ro,(b,.cells arr 3)::own⟩):
  mT Tryz.prog #[35,3] (.slice none 0 0) (.int .i64 (n:Int)) R ⟨ro,own⟩:=by
 intro ty
 have c:Tryz.prog.underlying 35=some (.slice 3):=by kernel_rfl
 have d:Tryz.prog.underlying 3=some (.int .i64):=by kernel_rfl
 have e:bZ Tryz.prog 3=some 1:=by kernel_rfl
 have f:zeroOf Tryz.prog 3=some (.int .i64 0):=by kernel_rfl
 obtain ⟨info,g,i⟩:∃info,Tryz.prog.info? 3=some info/\info.bytes=8:=⟨_,rfl,by kernel_rfl⟩
 have w1:IntKind.i64.wrap (n:Int)=(n:Int):=IntWalk.i64_in _ ⟨by omega,by omega⟩
 have c1:¬(n:Int)<0:=by omega
 have c2:¬(n:Int)*(8:Nat)>2 ^ 48:=by omega
 have c3:¬0+n<=0:=by omega
 simp only[Builtin.append_,List.getElem?_toArray,List.getElem?_cons_zero,List.getElem?_cons_succ,bx,dG,c,d,eV,e,bK,AY,if_true,dz,w1,if_neg c1,qt,g,i]
 rw[if_neg c2]
 simp only[Int.toNat_natCast,Nat.zero_add,Bool.not_true,Bool.false_eq_true,if_false]
 have c4:¬n<=0:=by omega
 have j:¬((n:Int)>IntKind.i64.max/\(True\/8=0)):=by
  have:IntKind.i64.max=9223372036854775807:=by decide
  rw[this];omega
 have l:¬Builtin.nextslicecap n 0*8>2 ^ 48:=by
  unfold Builtin.nextslicecap
  rw[if_pos (by omega)]
  omega
 have m:¬n*1=0:=by omega
 rw[if_neg c4,if_neg j,if_neg l]
 rw[wD]
 rw[if_neg (by simp[Question.forced])]
 intro t
 have a:n<=(Question.appendCap n 0 3).cut t:=Nat.le_add_right _ _
 generalize (Question.appendCap n 0 3).cut t=k at a ⊢
 refine wR _ ?_
 simp only[Builtin.firstCells,bK,if_neg m,mN,f,sO,bx]
 intro b hb
 refine ⟨_,Le.refl _,h k b _ a ?_ hb⟩
 simp only[Array.size_append,Builtin.zeroCells,Array.size_map,Array.size_range,Value.cells]
 simp
 omega
theorem IM {ro:Addr->Option Value}(n:Int){x:List Int}(h:uw n=some x):aF Tryz.prog 127 #[.slice none 0 0,.int .i64 n] ⟨ro,[]⟩ (fun v G=>∃c,aQ rI ro 3 v x c/\Le ⟨ro,c⟩ G):=by
 unfold uw at h;split at h
 case isFalse=>cases h
 rename_i g;obtain rfl:=Option.some.inj h;obtain ⟨n,rfl⟩:∃m:Nat,n=m:=⟨n.toNat,by omega⟩
 refine aF.go Tryz.func127 rfl Tryz.ntmps127 Tryz.results127 (by simp) fun main J hJ A j hd hs=>?_;have l:=hs 0;have k1:=hs 1;clear hs;repeat apply ag hJ
 apply ak hJ;simp only[*,go_sem];repeat apply ag hJ
 apply ak hJ;simp only[*,go_sem];repeat apply ag hJ
 have o:¬(n:Int)<0:=by omega
 refine dV hJ (by simp only[*,go_sem,decide_false]) ?_;apply aI hJ;repeat apply ag hJ
 apply ak hJ;simp only[*,go_sem];refine Cb rfl (by kernel_rfl:Tryz.prog.underlying 35=some (.slice 3)) (aJ ?_);have e1:IntKind.i64.wrap (((0:Nat):Int) - ((0:Nat):Int))=0:=by decide
 have p:IntKind.i64.wrap ((0:Int) - (0:Int))=0:=by decide
 have e2:IntKind.i64.wrap ((n:Int) - 0)=(n:Int):=by rw[IntWalk.i64_in _ ⟨by omega,by omega⟩];omega
 simp only[*,go_sem];repeat apply ag hJ
 apply ak hJ;simp only[*,go_sem];repeat apply ag hJ
 by_cases d:0<n
 .have b2:(n:Int)>0:=by omega
  refine ei hJ (by simp only[*,go_sem,decide_true]) ?_;repeat apply ag hJ
  apply ak hJ;simp only[*,go_sem];refine Cb rfl (by kernel_rfl:Tryz.prog.underlying 35=some (.slice 3)) (aJ ?_);simp only[*,go_sem];try simp only[Nat.le_refl,Int.le_refl,and_self,if_true,true_and]
  refine IL d (by omega) fun k b arr q e hb=>aJ ?_;have f:∀off sp,ro ⟨b,off,sp⟩=none:=hb.ro;have b3:(0:Int)<=(k:Int):=by omega
  simp only[*,go_sem,Int.le_refl,and_self,if_true,ite_self,Nat.sub_zero];repeat apply ag hJ
  apply ak hJ;simp only[*,go_sem];apply aE;simp only[*,go_sem];refine ⟨[(b,.cells arr 3)],⟨[],.inr ⟨b,arr,k,rfl,rfl,?_,Nat.zero_le _,?_,fun x a=>(by cases a),f⟩,rfl,Nat.zero_le _,fun i x a=>by simp at a⟩,Le.refl _⟩
  .show arr.size=k*1;rw[e,Nat.mul_one]
  .simp
 .have b2:¬(0:Int)<(n:Int):=by omega
  refine dV hJ (by simp only[*,go_sem,decide_false]) ?_;apply aI hJ;repeat apply ag hJ
  apply ak hJ;simp only[*,go_sem];apply aE;simp only[*,go_sem];exact ⟨[],aQ.nil _ _ _,Le.refl _⟩
def uy (u0:aj):Option (aj×Int):=
 af (gr u0 ([]:(List (aj->Option Int)))) fun a=>cond ((a.2 != 0)) (some ((⟨0,0,(⟨0,0⟩:au),([]:(List bY)),([]:(List bL)),([]:(List bO)),([]:(List bA))⟩:aj),a.2)) (af (xK u0.ax) fun b=>af (rm u0.props) fun c=>af (ua u0.an) fun d=>af (tZ u0.told) fun e=>some ((⟨u0.bB,u0.bH,u0.aO,b,c,d,e⟩:aj),0))
theorem yh {ro:Addr->Option Value}(a6:di ro)(u0:aj){s1 z B C:Value}(E:bQ ro u0 s1 z B C){r:(aj×Int)}(h:uy u0=some r):eW Tryz.prog 119 #[bv u0 s1 z B C] ro (fun v aN=>∃ao w1 w2 w3,v= .tuple #[bv r.1 ao w1 w2 w3,.int .i64 r.2]/\bQ aN r.1 ao w1 w2 w3):=by
 unfold uy at h;have a7:=E.oc;simp only[bJ] at a7;refine aF.go Tryz.func119 rfl Tryz.ntmps119 Tryz.results119 (by simp) fun main J hJ A a8 hd hs=>?_;have a9:=hs 0;clear hs;apply ah hJ;simp only[*,go_sem];refine aA fun a F ba=>?_;try simp only[av] at ba
 refine aA fun b G bb=>?_;try simp only[av] at bb
 refine ag hJ (ah hJ ?_);revert h;refine bS fun c bc h=>?_;simp only[*,go_sem];refine b6 hJ _ (ku a6 u0 E ([]:(List (aj->Option Int))) (az.nil _ _) bc) fun v U ae al bd=>?_;obtain ⟨d,f,g,i,j,rfl,bj,bl⟩:=bd;have bm:=bj.oc;simp only[bJ] at bm;have bo:=bl.oc;simp only[bJ] at bo;replace E:=E.mono ae;replace G:=al.hd;replace F:=al.tl.hd;simp only[bq] at al;apply aJ;simp only[*,go_sem];refine aA fun k K br=>?_;try simp only[av] at br
 apply ah hJ;simp only[*,go_sem];revert h;refine aY hJ (fun bs h=>?_) fun bs h=>?_
 .cases h;apply ah hJ;simp only[*,go_sem];apply aE;simp only[*,go_sem];exact ⟨_,ae,Le.sub (List.nil_sublist _),_,_,_,_,rfl,⟨az.nil _ _,az.nil _ _,az.nil _ _,az.nil _ _⟩⟩
 refine aI hJ (ag hJ ?_);refine ay hJ fun cS=>?_;refine eI hJ mixed [13,14,15,16,17,18,19] (.pure 0 (.rd 1 (.pure 3 (.rd 4 (.pure 6 (.rd 7 (.pure 9 (.rd 10 (.one 2 (.pure 12 (.one 5 (.one 8 (.one 11 (.last 13 (.pure 14 (.last 15 (.pure 16 (.last 17 (.pure 18 (.last 19 .done)))))))))))))))))))) ⟨U,[(k,kn c.1 d f g i j),(b,bz 29),(a,bk u0 s1 z B C)]⟩ (by simp only[*,go_sem]) (by kernel_rfl) ?_;revert h;refine bS fun m b0 h=>?_;simp only[*,go_sem];refine dX hJ (aW:=[]) [(k,kn c.1 d f g i j),(b,bz 29),(a,bk u0 s1 z B C)] [] _ (Ij u0.ax E.e b0) (fun c0 L ar M N da=>?_);simp only[aV] at N;subst M;obtain ⟨d158,n,rfl,db⟩:=ar.len;refine ⟨⟨U,(k,kn c.1 d f g i j)::(b,bz 29)::(a,bk u0 s1 z B C)::L⟩,Le.refl _,?_⟩;refine ⟨by simp only[*,go_sem],bV ?_⟩;revert h;refine bS fun o b1 h=>?_;simp only[*,go_sem];refine dX hJ (aW:=[]) [(k,kn c.1 d f g i j),(b,bz 29),(a,bk u0 s1 z B C)] L _ (Cn u0.props E.p b1) (fun dd O V M N df=>?_);simp only[aV] at N;subst M;obtain ⟨d168,q,rfl,dk⟩:=V.len;refine ⟨⟨U,(k,kn c.1 d f g i j)::(b,bz 29)::(a,bk u0 s1 z B C)::(O++L)⟩,Le.refl _,?_⟩;refine ⟨by simp only[*,go_sem],bV ?_⟩;revert h;refine bS fun s b2 h=>?_;simp only[*,go_sem];refine dX hJ (aW:=[]) [(k,kn c.1 d f g i j),(b,bz 29),(a,bk u0 s1 z B C)] (O++L) _ (Cm u0.an E.y b2) (fun dp P H M N dq=>?_);simp only[aV] at N;subst M;obtain ⟨d178,u,rfl,ds⟩:=H.len;refine ⟨⟨U,(k,kn c.1 d f g i j)::(b,bz 29)::(a,bk u0 s1 z B C)::(P++(O++L))⟩,Le.refl _,?_⟩;refine ⟨by simp only[*,go_sem],bV ?_⟩;revert h;refine bS fun w b3 h=>?_;cases h;simp only[*,go_sem];refine dX hJ (aW:=[]) [(k,kn c.1 d f g i j),(b,bz 29),(a,bk u0 s1 z B C)] (P++(O++L)) _ (xJ u0.told E.t b3) (fun dt Q D M N du=>?_);simp only[aV] at N;subst M;obtain ⟨d188,x,rfl,dv⟩:=D.len;refine ⟨⟨U,(k,kn c.1 d f g i j)::(b,bz 29)::(a,bk u0 s1 z B C)::(Q++(P++(O++L)))⟩,Le.refl _,?_⟩;refine ⟨by simp only[*,go_sem],bV ?_⟩;simp only[*,go_sem];apply ag hJ;refine eX [1,2,3] fun dC b4 b5 ca=>?_;simp only[*,go_sem] at b4 b5 ca;clear a8 hd a9;refine ay hJ fun dE=>?_;apply ak hJ;simp only[*,go_sem];refine ay hJ fun a0=>?_;obtain ⟨dT,X,R,I,cb⟩:=ar.l5 ((k,kn c.1 d f g i j)::(b,bk u0 (sl d158 m n) (sl d168 o q) (sl d178 s u) (sl d188 w x))::(a,bk u0 (sl d158 m n) (sl d168 o q) (sl d178 s u) (sl d188 w x))::(Q++(P++O))) ((k,kn c.1 d f g i j)::(b,bk u0 (sl d158 m n) (sl d168 o q) (sl d178 s u) (sl d188 w x))::(a,bk u0 (sl d158 m n) (sl d168 o q) (sl d178 s u) (sl d188 w x))::(Q++(P++O))) [] (by first|rfl|simp only[aV]|(simp only[aV];rfl)) (by first|rfl|simp only[aV]|(simp only[aV];rfl)) a0 (aD.cons K (aD.cons G (aD.cons F (aD.app D.j9 (aD.app H.j9 (V.j9))))));clear a0;refine cz hJ cb ?_;obtain ⟨ea,eb,-⟩:=I.op;replace K:=R.hd;replace G:=R.tl.hd;replace F:=R.tl.tl.hd;replace D:=D.mono X R.tl.tl.tl.l;replace H:=H.mono X R.tl.tl.tl.r.l;replace V:=V.mono X R.tl.tl.tl.r.r;simp only[bq] at R;refine ay hJ fun a2=>?_;obtain ⟨ec,Y,S,T,cd⟩:=V.l5 ((k,kn c.1 d f g i j)::(b,bk u0 (sl d158 m n) (sl d168 o q) (sl d178 s u) (sl d188 w x))::(a,bk u0 (sl d158 m n) (sl d168 o q) (sl d178 s u) (sl d188 w x))::(Q++P)) ((k,kn c.1 d f g i j)::(b,bk u0 (sl d158 m n) (sl d168 o q) (sl d178 s u) (sl d188 w x))::(a,bk u0 (sl d158 m n) (sl d168 o q) (sl d178 s u) (sl d188 w x))::(Q++P)) [] (by first|rfl|simp only[aV]|(simp only[aV];rfl)) (by first|rfl|simp only[aV]|(simp only[aV];rfl)) a2 (aD.cons K (aD.cons G (aD.cons F (aD.app D.j9 (H.j9)))));clear a2;refine cz hJ cd ?_;obtain ⟨ed,eh,-⟩:=T.op;replace I:=I.mono Y;replace K:=S.hd;replace G:=S.tl.hd;replace F:=S.tl.tl.hd;replace D:=D.mono Y S.tl.tl.tl.l;replace H:=H.mono Y S.tl.tl.tl.r;simp only[bq] at S;refine ay hJ fun a3=>?_;obtain ⟨et,Z,W,ab,cf⟩:=H.l5 ((k,kn c.1 d f g i j)::(b,bk u0 (sl d158 m n) (sl d168 o q) (sl d178 s u) (sl d188 w x))::(a,bk u0 (sl d158 m n) (sl d168 o q) (sl d178 s u) (sl d188 w x))::Q) ((k,kn c.1 d f g i j)::(b,bk u0 (sl d158 m n) (sl d168 o q) (sl d178 s u) (sl d188 w x))::(a,bk u0 (sl d158 m n) (sl d168 o q) (sl d178 s u) (sl d188 w x))::Q) [] (by first|rfl|simp only[aV]|(simp only[aV];rfl)) (by first|rfl|simp only[aV]|(simp only[aV];rfl)) a3 (aD.cons K (aD.cons G (aD.cons F (D.j9))));clear a3;refine cz hJ cf ?_;obtain ⟨ev,eQ,-⟩:=ab.op;replace I:=I.mono Z;replace T:=T.mono Z;replace K:=W.hd;replace G:=W.tl.hd;replace F:=W.tl.tl.hd;replace D:=D.mono Z W.tl.tl.tl;simp only[bq] at W;refine ay hJ fun a4=>?_;obtain ⟨eS,ad,cl,a5,cy⟩:=D.l5 ((k,kn c.1 d f g i j)::(b,bk u0 (sl d158 m n) (sl d168 o q) (sl d178 s u) (sl d188 w x))::(a,bk u0 (sl d158 m n) (sl d168 o q) (sl d178 s u) (sl d188 w x))::[]) [(k,kn c.1 d f g i j),(b,bk u0 (sl d158 m n) (sl d168 o q) (sl d178 s u) (sl d188 w x)),(a,bk u0 (sl d158 m n) (sl d168 o q) (sl d178 s u) (sl d188 w x))] [] (by first|rfl|simp only[aV]|(simp only[aV];rfl)) (by first|rfl|simp only[aV]|(simp only[aV];rfl)) a4 (aD.cons K (aD.cons G (aD.cons F (aD.nil _))));clear a4;refine cz hJ cy ?_;obtain ⟨e0,e1,-⟩:=a5.op;replace I:=I.mono ad;replace T:=T.mono ad;replace ab:=ab.mono ad;simp only[bq] at cl;apply aE;simp only[*,go_sem];exact ⟨_,((((ae).trans X).trans Y).trans Z).trans ad,Le.sub (List.nil_sublist _),_,_,_,_,rfl,⟨I,T,ab,a5⟩⟩
def yj (u0:Int)(a:Int):Option Int:=
 af (o7 u0) fun c=>af (o7 a) fun b=>cond (c) (cond (b) (some 0) (some (-1))) (cond (b) (some 1) (cond (decide (u0<a)) (some (-1)) (cond (decide (a<u0)) (some 1) (some 0))))
theorem IN {ro:Addr->Option Value}(u0:Int)(a:Int){r:Int}(h:yj u0 a=some r):aF Tryz.prog 145 #[.int .i64 u0,.int .i64 a] ⟨ro,[]⟩ (fun v _=>v= .int .i64 r):=by
 unfold yj at h;refine aF.go Tryz.func145 rfl Tryz.ntmps145 Tryz.results145 (by simp) fun main J hJ A j hd hs=>?_;have k:=hs 0;have k1:=hs 1;clear hs;apply ah hJ;simp only[*,go_sem];apply ah hJ;revert h;refine bS fun l b h=>?_;simp only[*,go_sem];refine bn hJ _ (uk u0 b) (aJ ?_);simp only[*,go_sem];apply ah hJ;revert h;refine bS fun m c h=>?_;simp only[*,go_sem];refine bn hJ _ (uk a c) (aJ ?_);simp only[*,go_sem];refine ag hJ (ah hJ ?_);simp only[*,go_sem];revert h;refine aY hJ (fun d h=>?_) fun d h=>?_
 .refine ag hJ (ah hJ ?_);simp only[*,go_sem];revert h;refine aY hJ (fun e h=>?_) fun e h=>?_
  .cases h;apply ah hJ;simp only[*,go_sem];apply aE;simp only[*,go_sem]
  cases h;refine aI hJ (ag hJ ?_);apply ak hJ;simp only[*,go_sem];apply aE;simp only[*,go_sem]
 refine aI hJ (ag hJ ?_);apply ah hJ;simp only[*,go_sem];revert h;refine aY hJ (fun f h=>?_) fun f h=>?_
 .cases h;apply ah hJ;simp only[*,go_sem];apply aE;simp only[*,go_sem]
 refine aI hJ (ag hJ ?_);apply ah hJ;simp only[*,go_sem];revert h;refine aY hJ (fun g h=>?_) fun g h=>?_
 .cases h;apply ah hJ;simp only[*,go_sem];apply aE;simp only[*,go_sem]
 refine aI hJ (ag hJ ?_);apply ah hJ;simp only[*,go_sem];revert h;refine aY hJ (fun i h=>?_) fun i h=>?_
 .cases h;apply ah hJ;simp only[*,go_sem];apply aE;simp only[*,go_sem]
 cases h;refine aI hJ (ag hJ ?_);apply ak hJ;simp only[*,go_sem];apply aE;simp only[*,go_sem]
def yl (a:(List Int))(i16:Nat)(c:Int)(st:Int):Option (Fl Int Int):=
 cond (decide ((a.length:Int)<=(i16:Int))) (some (.rt 1)) (af (bh a (i16:Int)) fun d=>af (yj c d) fun b=>cond ((b != 0)) (some (.rt b)) (some (.nx st)))
def ym (u0:(List Int))(a:(List Int)):Option Int:=
 af (bE (yl a) 0 u0 0) fun o=>aC o (fun b=>cond (decide ((u0.length:Int)<(a.length:Int))) (some (-1)) (some 0)) (fun _ _=>none) (fun r=>some r)
theorem IP {ro:Addr->Option Value}(u0:(List Int)){s1:Value}(g:az rI ro s1 u0)(d:(List Int)){i:Value}(j:az rI ro i d){r:Int}(h:ym u0 d=some r):aF Tryz.prog 95 #[s1,i] ⟨ro,[]⟩ (fun v _=>v= .int .i64 r):=by
 obtain ⟨d3,c4,rfl,U,w,-⟩:=id g;obtain ⟨d10,V,rfl,W,X,-⟩:=id j;unfold ym at h;refine aF.go Tryz.func95 rfl Tryz.ntmps95 Tryz.results95 (by simp) fun main J hJ A y hd hs=>?_;have z:=hs 0;have k1:=hs 1;clear hs;apply ah hJ;simp only[*,go_sem];refine ag hJ (ah hJ ?_);simp only[*,go_sem];apply aT hJ;revert h;refine bS fun B a e=>?_;refine bT hJ (rg 11 20 [4,5,6,7,8]) (fun m k F'=>∃(i16:Nat) (c:Int),m=u0.length - i16/\i16<=u0.length/\bE (yl d) i16 (u0.drop i16) c=some B/\F'=⟨ro,[]⟩/\slot k 11= .int .i64 (i16:Int)/\slot k 4= .int .i64 c) u0.length ?_ ?_
 .refine ⟨0,0,(Nat.sub_zero _).symm,Nat.zero_le _,a,rfl,?_⟩;simp only[*,go_sem]
 rintro Y Z F' l ⟨i16,c,rfl,ab,a,rfl,ad,ae⟩;obtain ⟨C,D,E⟩:=l.pick [0,1,9,10] (by decide);simp only[*,go_sem] at C D E;clear l y hd z k1;apply ah hJ;simp only[*,go_sem];apply ag hJ;rcases Nat.lt_or_ge i16 u0.length with F|o
 .refine cw hJ ?_;apply aI hJ;obtain ⟨p,f⟩:∃x,u0[i16]?=some x:=⟨_,List.getElem?_eq_getElem F⟩
  rw[dw f] at a;revert a;refine bS fun al h b=>?_;unfold yl at h;try dsimp only at h
  obtain ⟨ao,G,H,I,q⟩:=g.el _ _ f;obtain rfl:G=[.int .i64 p]:=I;cases H;have K:=q 0 _ rfl;simp only[go_sem] at K;clear q f;refine ag hJ (aT hJ (ag hJ ?_));apply ak hJ;simp only[*,go_sem];refine ag hJ (ah hJ ?_);simp only[*,go_sem];revert h;refine aY hJ (fun L h=>?_) fun L h=>?_
  .cases h;apply ah hJ;simp only[*,go_sem];obtain rfl:=sI b;clear b;have h:=e;dsimp only[aC] at h;cases h;apply aE;simp only[*,go_sem]
  refine aI hJ (ag hJ ?_);apply ak hJ;revert h;refine bS fun s M h=>?_;obtain ⟨ar,a0,t⟩:=c5 M;obtain ⟨a2,N,O,P,u⟩:=j.el _ _ t;obtain rfl:N=[.int .i64 s]:=P;cases O;have Q:=u 0 _ rfl;simp only[go_sem] at Q;clear u t;simp only[*,go_sem];apply ah hJ;revert h;refine bS fun a3 R h=>?_;simp only[*,go_sem];refine bn hJ _ (IN p s R) (aJ ?_);simp only[*,go_sem];apply ah hJ;simp only[*,go_sem];revert h;refine aY hJ (fun S h=>?_) fun S h=>?_
  .cases h;apply ah hJ;simp only[*,go_sem];obtain rfl:=sI b;clear b;have h:=e;dsimp only[aC] at h;cases h;apply aE;simp only[*,go_sem]
  cases h;apply aI hJ;have a4:=cv (n:=i16) (by have:=w;omega);apply ak hJ;simp only[*,go_sem];refine ⟨u0.length - (i16+1),by omega,_,Le.sub (List.Sublist.refl _),i16+1,c,rfl,by omega,b,rfl,?_⟩;simp only[*,go_sem]
 have a5:=Nat.not_lt.2 o;refine cn hJ ?_;rw[List.drop_eq_nil_of_le o] at a;obtain rfl:=sI a;clear a;have h:=e;dsimp only[aC] at h;apply bR;simp only[go_sem];refine ag hJ (ah hJ ?_);simp only[*,go_sem];revert h;refine aY hJ (fun T h=>?_) fun T h=>?_
 .cases h;apply ah hJ;simp only[*,go_sem];apply aE;simp only[*,go_sem]
 cases h;refine aI hJ (ag hJ ?_);apply ak hJ;simp only[*,go_sem];apply aE;simp only[*,go_sem]
def iV (u0:(List Int))(a:(List Int)):Option Bool:=
 cond (decide ((a.length:Int)<(u0.length:Int))) (some true) (cond (((a.length:Int)==(u0.length:Int))) (af (ym a u0) fun b=>some (decide (b<0))) (some false))
theorem IQ {ro:Addr->Option Value}(u0:(List Int)){s1:Value}(d:az rI ro s1 u0)(a:(List Int)){e:Value}(f:az rI ro e a){r:Bool}(h:iV u0 a=some r):aF Tryz.prog 94 #[s1,e] ⟨ro,[]⟩ (fun v _=>v= .bool r):=by
 obtain ⟨d3,c4,rfl,i,j,-⟩:=id d;obtain ⟨d10,k,rfl,l,m,-⟩:=id f;unfold iV at h;refine aF.go Tryz.func94 rfl Tryz.ntmps94 Tryz.results94 (by simp) fun main J hJ A n hd hs=>?_;have o:=hs 0;have k1:=hs 1;clear hs;apply ah hJ;simp only[*,go_sem];apply ah hJ;revert h;refine cS (fun b h=>?_) fun b h=>?_
 .cases h;try simp only[Int.ofNat_lt] at b
  simp only[*,go_sem];apply aE;simp only[*,go_sem]
 try simp only[Int.ofNat_lt] at b
 revert h;refine cS (fun c h=>?_) fun c h=>?_
 .try simp only[Int.ofNat_lt] at c
  revert h;refine bS fun p g h=>?_;cases h;simp only[*,go_sem];refine bn hJ _ (IP a (f.mono aL) u0 (d.mono aL) g) (aJ ?_);simp only[*,go_sem];apply aE;simp only[*,go_sem]
 cases h;try simp only[Int.ofNat_lt] at c
 simp only[*,go_sem];apply aE;simp only[*,go_sem]
def uz (u0:aj)(b:Int):Option (Int×Int):=
 af (gr u0 ([(eY b)])) fun a=>cond ((a.2 != 0)) (some (0,a.2)) (af (tU a.1 (fun c=>tV c a.1 b)) fun d=>some (d,0))
theorem Cx {ro:Addr->Option Value}(j:di ro)(u0:aj){s1 k l m:Value}(i:bQ ro u0 s1 k l m)(c:Int){r:(Int×Int)}(h:uz u0 c=some r):aF Tryz.prog 30 #[bv u0 s1 k l m,.int .i64 c] ⟨ro,[]⟩ (fun v _=>v= .tuple #[.int .i64 r.1,.int .i64 r.2]):=by
 unfold uz at h;have G:=i.oc;simp only[bJ] at G;refine aF.go Tryz.func30 rfl Tryz.ntmps30 Tryz.results30 (by simp) fun main J hJ A ae hd hs=>?_;have al:=hs 0;have k1:=hs 1;clear hs;apply ah hJ;simp only[*,go_sem];refine aA fun H I K=>?_;try simp only[av] at K
 refine aA fun u L M=>?_;try simp only[av] at M
 apply ag hJ;refine ay hJ fun N=>?_;apply ak hJ;revert h;refine bS fun n O h=>?_;simp only[*,go_sem];refine aA fun f w z=>?_;have B:=aR.cons z N;try simp only[av] at z
 obtain ⟨q,C,D⟩:=gj (b:=f) (o:=(.cells #[.func (.func 83) #[.int .i64 c] #[]] 120)) [] ((u,ic c)::(H,bk u0 s1 k l m)::[]) B w (aD.cons L (aD.cons I (aD.nil _)));have E:az (dh) (bU ro f (.cells #[.func (.func 83) #[.int .i64 c] #[]] 120)) (.slice (some ⟨f,0,none⟩) 1 1) [(eY c)]:=(az.one (r:=(dh)) (e:=120) (cs:=#[.func (.func 83) #[.int .i64 c] #[]]) (x:=(eY c)) (own:=[(f,.cells #[.func (.func 83) #[.int .i64 c] #[]] 120)]) w (by simp[lk]) ⟨83,#[.int .i64 c],#[],rfl,⟨by simp only[go_sem],fun P a g _ _ _ _ _ Q R S T h=>by simp only[go_sem];exact tC c g ⟨Q,R,S,T⟩ h⟩⟩)
 generalize bU ro f (.cells #[.func (.func 83) #[.int .i64 c] #[]] 120)=ao at E C q D;refine iu hJ D ?_;replace i:=i.mono q;replace j:=j.mono q;simp only[bq] at C;have U:=aR.tl B;refine b6 hJ _ (ku j u0 i ([(eY c)]) E O) fun v ar a0 V W=>?_;obtain ⟨a2,a3,a4,a5,a6,rfl,d,s⟩:=W;have X:=d.oc;simp only[bJ] at X;simp only[bq] at V;obtain ⟨d41,a7,rfl,a8,a9,-⟩:=id d.e;obtain ⟨d48,ba,rfl,bb,bc,-⟩:=id d.p;obtain ⟨d55,bd,rfl,bj,bl,-⟩:=id d.y;obtain ⟨d62,bm,rfl,bo,br,-⟩:=id d.t;obtain ⟨d69,bs,rfl,bz,b0,-⟩:=id s;apply aJ;simp only[*,go_sem];refine aA fun Y b1 F=>?_;have b2:=aR.cons F U;try simp only[av] at F
 refine ag hJ (ah hJ ?_);simp only[*,go_sem];revert h;refine aY hJ (fun Z h=>?_) fun Z h=>?_
 .cases h;apply ah hJ;simp only[*,go_sem];apply aE;simp only[*,go_sem]
 refine aI hJ (ag hJ ?_);apply ak hJ;revert h;refine bS fun b3 ab h=>?_;cases h;simp only[*,go_sem];refine bn hJ _ (Cl (dJ:=107) (eu:=#[]) (ew:=#[.pointer (some ⟨Y,0,none⟩),.pointer (some ⟨u,0,none⟩)]) n.1 (d.mono aL) (s.mono aL) (fun g=>tV g n.1 c) ⟨by simp only[go_sem],fun P a g b4 ad=>by simp only[go_sem];exact Ic g n.1 (a _ _ (by simp only[aa.cx,go_sem, *])) (a _ _ (by simp only[aa.cx,go_sem, *])) (a _ _ (by simp only[aa.cx,go_sem, *])) (a _ _ (by simp only[aa.cx,go_sem, *])) ((d.e.mono aL).mono a) (a _ _ (by simp only[aa.cx,go_sem, *])) ((d.p.mono aL).mono a) (a _ _ (by simp only[aa.cx,go_sem, *])) ((d.y.mono aL).mono a) (a _ _ (by simp only[aa.cx,go_sem, *])) ((d.t.mono aL).mono a) (a _ _ (by simp only[aa.cx,go_sem, *])) ((s.mono aL).mono a) (a _ _ (by simp only[aa.cx,go_sem, *])) c (a _ _ (by simp only[aa.cx,go_sem, *])) ad⟩ ab) (aJ ?_);simp only[*,go_sem];apply aE;simp only[*,go_sem]
def rA (u0:aj):Option (Int×Int):=
 af (gr u0 ([]:(List (aj->Option Int)))) fun a=>cond ((a.2 != 0)) (some (0,a.2)) (af (tU a.1 (fun b=>tX b a.1)) fun c=>some (c,0))
theorem uA {ro:Addr->Option Value}(l:di ro)(u0:aj){s1 g i j:Value}(k:bQ ro u0 s1 g i j){r:(Int×Int)}(h:rA u0=some r):aF Tryz.prog 32 #[bv u0 s1 g i j] ⟨ro,[]⟩ (fun v _=>v= .tuple #[.int .i64 r.1,.int .i64 r.2]):=by
 unfold rA at h;have m:=k.oc;simp only[bJ] at m;refine aF.go Tryz.func32 rfl Tryz.ntmps32 Tryz.results32 (by simp) fun main J hJ A D hd hs=>?_;have E:=hs 0;clear hs;apply ah hJ;simp only[*,go_sem];refine aA fun F G n=>?_;try simp only[av] at n
 apply ah hJ;revert h;refine bS fun c o h=>?_;simp only[*,go_sem];refine b6 hJ _ (ku l u0 k ([]:(List (aj->Option Int))) (az.nil _ _) o) fun v H I q s=>?_;obtain ⟨K,L,M,N,O,rfl,b,d⟩:=s;have u:=b.oc;simp only[bJ] at u;simp only[bq] at q;obtain ⟨d37,P,rfl,Q,R,-⟩:=id b.e;obtain ⟨d44,S,rfl,T,U,-⟩:=id b.p;obtain ⟨d51,V,rfl,W,X,-⟩:=id b.y;obtain ⟨d58,Y,rfl,Z,ab,-⟩:=id b.t;obtain ⟨d65,ad,rfl,ae,al,-⟩:=id d;apply aJ;simp only[*,go_sem];refine aA fun w ao x=>?_;try simp only[av] at x
 refine ag hJ (ah hJ ?_);simp only[*,go_sem];revert h;refine aY hJ (fun z h=>?_) fun z h=>?_
 .cases h;apply ah hJ;simp only[*,go_sem];apply aE;simp only[*,go_sem]
 refine aI hJ (ag hJ ?_);apply ak hJ;revert h;refine bS fun ar B h=>?_;cases h;simp only[*,go_sem];refine bn hJ _ (Cl (dJ:=110) (eu:=#[]) (ew:=#[.pointer (some ⟨w,0,none⟩)]) c.1 (b.mono aL) (d.mono aL) (fun f=>tX f c.1) ⟨by simp only[go_sem],fun a0 a f a2 C=>by simp only[go_sem];exact Ie f c.1 (a _ _ (by simp only[aa.cx,go_sem, *])) (a _ _ (by simp only[aa.cx,go_sem, *])) (a _ _ (by simp only[aa.cx,go_sem, *])) (a _ _ (by simp only[aa.cx,go_sem, *])) ((b.e.mono aL).mono a) (a _ _ (by simp only[aa.cx,go_sem, *])) ((b.p.mono aL).mono a) (a _ _ (by simp only[aa.cx,go_sem, *])) ((b.y.mono aL).mono a) (a _ _ (by simp only[aa.cx,go_sem, *])) ((b.t.mono aL).mono a) (a _ _ (by simp only[aa.cx,go_sem, *])) ((d.mono aL).mono a) (a _ _ (by simp only[aa.cx,go_sem, *])) C⟩ B) (aJ ?_);simp only[*,go_sem];apply aE;simp only[*,go_sem]
def yo (a:(cV×Int))(i74:Nat)(i83:Nat)(b:aZ)(st:Int):Option (Fl Int (Int×Int×Int)):=
 af (aZ.get b (i74:Int)) fun c=>af (iC a.1.book (i74:Int) c) fun d=>af (gq a.1.book d) fun e=>cond (e) (some (.nx (IntKind.i64.wrap (st+1)))) (some (.nx st))
def yp (b:(cV×Int))(i74:Nat)(c:bO)(st:(Int×Int)):Option (Fl (Int×Int) (Int×Int×Int)):=
 af (bE (yo b i74) 0 b.1.all 0) fun o=>aC o (fun a=>cond (decide ((if a<IntKind.i64.wrap ((b.1.all.length:Int) - a) then IntKind.i64.wrap ((b.1.all.length:Int) - a) else a)<st.2)) (some (.nx ((i74:Int),(if a<IntKind.i64.wrap ((b.1.all.length:Int) - a) then IntKind.i64.wrap ((b.1.all.length:Int) - a) else a)))) (some (.nx (st.1,st.2)))) (fun _ _=>none) (fun r=>some (.rt r))
def yq (u0:aj):Option (Int×Int×Int):=
 af (gr u0 ([]:(List (aj->Option Int)))) fun a=>cond ((a.2 != 0)) (some (0,0,a.2)) (af (bE (yp a) 0 a.1.book.an ((-1),(a.1.all.length:Int))) fun o=>aC o (fun b=>some (b.1,b.2,0)) (fun _ _=>none) (fun r=>some r))
theorem IS {ro:Addr->Option Value}(V:di ro)(u0:aj){s1 g i j:Value}(w:bQ ro u0 s1 g i j){r:(Int×Int×Int)}(h:yq u0=some r):aF Tryz.prog 50 #[bv u0 s1 g i j] ⟨ro,[]⟩ (fun v _=>v= .tuple #[.int .i64 r.1,.int .i64 r.2.1,.int .i64 r.2.2]):=by
 unfold yq at h;have W:=w.oc;simp only[bJ] at W;refine aF.go Tryz.func50 rfl Tryz.ntmps50 Tryz.results50 (by simp) fun main J hJ A X hd hs=>?_;have Y:=hs 0;clear hs;apply ah hJ;simp only[*,go_sem];refine aA fun z dq Z=>?_;try simp only[av] at Z
 apply ah hJ;revert h;refine bS fun a ab h=>?_;simp only[*,go_sem];refine b6 hJ _ (ku V u0 w ([]:(List (aj->Option Int))) (az.nil _ _) ab) fun v B ds ad ae=>?_;obtain ⟨C,D,dt,E,du,rfl,f,G⟩:=ae;have al:=f.oc;simp only[bJ] at al;simp only[bq] at ad;obtain ⟨d51,H,rfl,dv,I,-⟩:=id f.y;obtain ⟨d65,K,rfl,dC,L,-⟩:=id G;apply aJ;simp only[*,go_sem];refine aA fun M dE ao=>?_;try simp only[av] at ao
 refine ag hJ (ah hJ ?_);simp only[*,go_sem];revert h;refine aY hJ (fun ar h=>?_) fun ar h=>?_
 .cases h;apply ah hJ;simp only[*,go_sem];apply aE;simp only[*,go_sem]
 refine aI hJ (ag hJ ?_);refine de hJ mixed 5 2 (by simp only[*,go_sem]) (by kernel_rfl) ?_;simp only[*,go_sem];refine ag hJ (ah hJ ?_);simp only[*,go_sem];apply aT hJ;revert h;refine bS fun a0 c a2=>?_;refine bT hJ (rg 27 36 [2,3,6,7,9,10]) (fun m e F'=>∃(i74:Nat) (k:Int) (l:Int),m=a.1.book.an.length - i74/\i74<=a.1.book.an.length/\bE (yp a) i74 (a.1.book.an.drop i74) (k,l)=some a0/\F'=⟨B,(M,kn a.1 C D (sl d51 a.1.book.an H) E (sl d65 a.1.all K))::(z,bk u0 s1 g i j)::[]⟩/\slot e 27= .int .i64 (i74:Int)/\slot e 2= .int .i64 k/\slot e 3= .int .i64 l) a.1.book.an.length ?_ ?_
 .refine ⟨0,(-1),(a.1.all.length:Int),(Nat.sub_zero _).symm,Nat.zero_le _,c,rfl,?_⟩;simp only[*,go_sem]
 rintro dT a3 F' N ⟨i74,k,l,rfl,ea,c,rfl,a4,a5,a6⟩;obtain ⟨O,P,Q⟩:=N.pick [4,5,26] (by decide);simp only[*,go_sem] at O P Q;clear N X hd Y;apply ah hJ;simp only[*,go_sem];apply ag hJ;rcases Nat.lt_or_ge i74 a.1.book.an.length with a7|R
 .refine cw hJ ?_;apply aI hJ;obtain ⟨a8,q⟩:∃x,a.1.book.an[i74]?=some x:=⟨_,List.getElem?_eq_getElem a7⟩
  rw[dw q] at c;revert c;refine bS fun eb h S=>?_;unfold yp at h;try dsimp only at h
  obtain ⟨a9,ba,bb,bc,o⟩:=f.y.el _ _ q;obtain rfl:ba=a8.cells:=bc;cases bb;have bd:=o 0 _ rfl;simp only[go_sem] at bd;have bj:=o 1 _ rfl;simp only[go_sem] at bj;have bl:=o 2 _ rfl;simp only[go_sem] at bl;clear o q;refine ag hJ (aT hJ (ag hJ ?_));apply ak hJ;simp only[*,go_sem];apply ah hJ;simp only[*,go_sem];refine ag hJ (ah hJ ?_);simp only[*,go_sem];apply aT hJ;revert h;refine bS fun bm d bo=>?_;refine bT hJ (rg 33 17 [7,9]) (fun m e F'=>∃(i83:Nat) (b:Int),m=a.1.all.length - i83/\i83<=a.1.all.length/\bE (yo a i74) i83 (a.1.all.drop i83) b=some bm/\F'=⟨B,(M,kn a.1 C D (sl (some a9) a.1.book.an H) E (sl d65 a.1.all K))::(z,bk u0 s1 g i j)::[]⟩/\slot e 33= .int .i64 (i83:Int)/\slot e 7= .int .i64 b) a.1.all.length ?_ ?_
  .refine ⟨0,0,(Nat.sub_zero _).symm,Nat.zero_le _,d,rfl,?_⟩;simp only[*,go_sem]
  rintro ec br F' s ⟨i83,b,rfl,ed,d,rfl,eh,et⟩;obtain ⟨bs,bz,b0⟩:=s.pick [2,3,4,5,6,26,27,28,29,30,31,32] (by decide);simp only[*,go_sem] at bs bz b0;have ev:cL (rg 27 36 [2,3,6,7,9,10]) br a3:=(s.gG (by decide)).trans (by simp only[*,go_sem]);clear s O P Q a5 a6 a4;apply ah hJ;simp only[*,go_sem];apply ag hJ;rcases Nat.lt_or_ge i83 a.1.all.length with b1|T
  .refine cw hJ ?_;apply aI hJ;obtain ⟨b2,t⟩:∃x,a.1.all[i83]?=some x:=⟨_,List.getElem?_eq_getElem b1⟩
   rw[dw t] at d;revert d;refine bS fun eQ h U=>?_;unfold yo at h;(try dsimp only at h);obtain ⟨eS,b3,b4,b5,p⟩:=G.el _ _ t;obtain rfl:b3=b2.cells:=b5;cases b4;have ca:=p 0 _ rfl;simp only[go_sem] at ca;have cb:=p 1 _ rfl;simp only[go_sem] at cb;have cd:=p 2 _ rfl;simp only[go_sem] at cd;clear p t;refine ag hJ (aT hJ (ag hJ ?_));apply ak hJ;simp only[*,go_sem];refine aA fun e0 e1 cf=>?_;try simp only[av] at cf
   apply ag hJ;refine de hJ mixed 10 3 (by simp only[*,go_sem]) (by kernel_rfl) ?_;revert h;refine bS fun cl cy h=>?_;obtain ⟨e2,e3,cS⟩:=aZ.get_some cy;(try simp only[go_sem] at cS);revert h;refine bS fun c0 da h=>?_;simp only[*,go_sem];refine ⟨_,bI hJ fun F u=>m8 a.1.book (f.mono (cp u)) (i74:Int) cl da,ck ?_⟩;revert h;refine bS fun fa db h=>?_;simp only[*,go_sem];refine ⟨_,bI hJ fun F u=>nt a.1.book (f.mono (cp u)) c0 db,?_⟩;revert h;refine aY hJ (fun dd h=>?_) fun dd h=>?_
   .cases h;apply ak hJ;simp only[*,go_sem];have df:=cv (n:=i83) (by have:=L;omega);apply ak hJ;simp only[*,go_sem];refine ⟨a.1.all.length - (i83+1),by omega,_,Le.sub (List.Sublist.cons _ (List.Sublist.refl _)),i83+1,(IntKind.i64.wrap (b+1)),rfl,by omega,U,rfl,?_⟩;simp only[*,go_sem]
   cases h;apply aI hJ;have df:=cv (n:=i83) (by have:=L;omega);apply ak hJ;simp only[*,go_sem];refine ⟨a.1.all.length - (i83+1),by omega,_,Le.sub (List.Sublist.cons _ (List.Sublist.refl _)),i83+1,b,rfl,by omega,U,rfl,?_⟩;simp only[*,go_sem]
  have fb:=Nat.not_lt.2 T;refine cn hJ ?_;rw[List.drop_eq_nil_of_le T] at d;obtain rfl:=sI d;clear d;have h:=bo;dsimp only[aC] at h;apply bR;simp only[go_sem];apply ah hJ;simp only[*,go_sem];apply ah hJ;simp only[*,go_sem];revert h;refine aY hJ (fun dk h=>?_) fun dk h=>?_
  .cases h;apply ak hJ;simp only[*,go_sem];have dp:=cv (n:=i74) (by have:=I;omega);apply ak hJ;simp only[*,go_sem];refine ⟨a.1.book.an.length - (i74+1),by omega,_,Le.sub (List.Sublist.refl _),i74+1,(i74:Int),(if b<IntKind.i64.wrap ((a.1.all.length:Int) - b) then IntKind.i64.wrap ((a.1.all.length:Int) - b) else b),rfl,by omega,S,rfl,?_⟩;simp only[*,go_sem]
  cases h;apply aI hJ;have dp:=cv (n:=i74) (by have:=I;omega);apply ak hJ;simp only[*,go_sem];refine ⟨a.1.book.an.length - (i74+1),by omega,_,Le.sub (List.Sublist.refl _),i74+1,k,l,rfl,by omega,S,rfl,?_⟩;simp only[*,go_sem]
 have ff:=Nat.not_lt.2 R;refine cn hJ ?_;rw[List.drop_eq_nil_of_le R] at c;obtain rfl:=sI c;clear c;have h:=a2;dsimp only[aC] at h;cases h;apply bR;simp only[go_sem];apply ah hJ;simp only[*,go_sem];apply aE;simp only[*,go_sem]
def kB (u0:aj):Option Int:=
 cond (((u0.props.length:Int)==3)) (some 2) (some 0)
theorem IT {ro:Addr->Option Value}(u0:aj){s1 b c d:Value}(a:bQ ro u0 s1 b c d){r:Int}(h:kB u0=some r):aF Tryz.prog 71 #[bv u0 s1 b c d] ⟨ro,[]⟩ (fun v _=>v= .int .i64 r):=by
 obtain ⟨d3,c4,rfl,i,j,-⟩:=id a.e;obtain ⟨d10,k,rfl,l,m,-⟩:=id a.p;obtain ⟨d17,n,rfl,o,q,-⟩:=id a.y;obtain ⟨d24,s,rfl,u,w,-⟩:=id a.t;unfold kB at h;refine aF.go Tryz.func71 rfl Tryz.ntmps71 Tryz.results71 (by simp) fun main J hJ A x hd hs=>?_;have z:=hs 0;clear hs;apply ah hJ;simp only[*,go_sem];refine aA fun B C f=>?_;try simp only[av] at f
 refine ag hJ (ah hJ ?_);simp only[*,go_sem];revert h;refine aY hJ (fun g h=>?_) fun g h=>?_
 .cases h;apply ah hJ;simp only[*,go_sem];apply aE;simp only[*,go_sem]
 cases h;refine aI hJ (ag hJ ?_);apply ak hJ;simp only[*,go_sem];apply aE;simp only[*,go_sem]
def uB (u0:aj)(c:bA):Option (aj×Int):=
 af (dZ u0) fun a=>cond ((a != 0)) (some ((⟨0,0,(⟨0,0⟩:au),([]:(List bY)),([]:(List bL)),([]:(List bO)),([]:(List bA))⟩:aj),a)) (af (tZ u0.told) fun d=>af (cG d ([c])) fun e=>af (uy (⟨u0.bB,u0.bH,u0.aO,u0.ax,u0.props,u0.an,e⟩:aj)) fun b=>some (b.1,b.2))
theorem uC {ro:Addr->Option Value}(k:di ro)(u0:aj){s1 c d f:Value}(b:bQ ro u0 s1 c d f)(a:bA){r:(aj×Int)}(h:uB u0 a=some r):eW Tryz.prog 51 #[bv u0 s1 c d f,.agg #[.int .i64 a.aS,.bool a.bt]] ro (fun v aN=>∃L w1 w2 w3,v= .tuple #[bv r.1 L w1 w2 w3,.int .i64 r.2]/\bQ aN r.1 L w1 w2 w3):=by
 unfold uB at h;refine aF.go Tryz.func51 rfl Tryz.ntmps51 Tryz.results51 (by simp) fun main J hJ A ca hd hs=>?_;have cb:=hs 0;have k1:=hs 1;clear hs;apply ah hJ;simp only[*,go_sem];refine aA fun g u ab=>?_;try simp only[av] at ab
 refine aA fun i w ad=>?_;try simp only[av] at ad
 refine aA fun j z ae=>?_;try simp only[av] at ae
 refine ag hJ (ah hJ ?_);revert h;refine bS fun cd al h=>?_;simp only[*,go_sem];refine bn hJ _ (Ci (k.mono aL) u0 (b.e.mono aL) (b.p.mono aL) (b.y.mono aL) (b.t.mono aL) al) (aJ ?_);simp only[*,go_sem];apply ah hJ;simp only[*,go_sem];revert h;refine aY hJ (fun ao h=>?_) fun ao h=>?_
 .cases h;apply ah hJ;simp only[*,go_sem];apply aE;simp only[*,go_sem];exact ⟨_,Ext.refl _,Le.sub (List.nil_sublist _),_,_,_,_,rfl,⟨az.nil _ _,az.nil _ _,az.nil _ _,az.nil _ _⟩⟩
 refine aI hJ (ag hJ ?_);refine ay hJ fun ar=>?_;refine eI hJ mixed [7] (.pure 0 (.rd 1 (.rd 3 (.two 2 (.one 4 (.one 5 (.pure 6 (.last 7 .done)))) 4 (.one 2 (.one 5 (.pure 6 (.last 7 .done)))))))) ⟨ro,[(j,bz 29),(i,.cells #[.int .i64 a.aS,.bool a.bt] 49),(g,bk u0 s1 c d f)]⟩ (by simp only[*,go_sem]) (by kernel_rfl) ?_;simp only[*,go_sem];refine k4 ?_ ?_
 .revert h;refine bS fun a0 a2 h=>?_;simp only[*,go_sem];refine dX hJ (aW:=[]) [(j,bz 29),(i,.cells #[.int .i64 a.aS,.bool a.bt] 49),(g,bk u0 s1 c d f)] [] _ (xJ u0.told b.t a2) (fun cf a3 M m n a4=>?_);simp only[aV] at n;subst m;obtain ⟨d174,cl,rfl,cy⟩:=M.len;refine ⟨⟨ro,(j,bz 29)::(i,.cells #[.int .i64 a.aS,.bool a.bt] 49)::(g,bk u0 s1 c d f)::a3⟩,Le.refl _,?_⟩;refine ⟨by simp only[*,go_sem],bV ?_⟩;revert h;refine bS fun N a5 h=>?_;obtain ⟨a6,O⟩:=dr a5;simp only[*,go_sem];refine aA fun D P Q=>?_;have a7:=aR.cons Q a4;try simp only[av] at Q
  simp only[*,go_sem];refine dW (r:=cU) (l:=a0) (x:=a) (cs:=#[.int .i64 a.aS,.bool a.bt]) (e2:=49) [(D,.cells #[.int .i64 a.aS,.bool a.bt] 49),(j,bz 29),(i,.cells #[.int .i64 a.aS,.bool a.bt] 49),(g,bk u0 s1 c d f)] [] M a7 a6 rfl (by simp only[*,go_sem]) P rfl rfl ep ep iw iz rfl iy (by decide) (by decide) (fun cS a8 E m n c0=>?_);simp only[aV] at n;subst m;rw[<-O] at E;clear O;obtain ⟨d186,a9,rfl,da⟩:=E.len;refine ⟨⟨ro,(D,.cells #[.int .i64 a.aS,.bool a.bt] 49)::(j,bz 29)::(i,.cells #[.int .i64 a.aS,.bool a.bt] 49)::(g,bk u0 s1 c d f)::a8⟩,Le.refl _,?_⟩;refine ⟨by simp only[*,go_sem],bV ?_⟩;simp only[*,go_sem];apply ag hJ;refine ay hJ fun R=>?_;obtain ⟨db,F,B,S,ba⟩:=E.eR [(D,.cells #[.int .i64 a.aS,.bool a.bt] 49),(j,bz 29),(i,.cells #[.int .i64 a.aS,.bool a.bt] 49),(g,bk u0 s1 c d (sl d186 N a9))] [] R (aD.cons P (aD.cons z (aD.cons w (aD.cons u (aD.nil _)))));clear R;refine cz hJ ba ?_;obtain ⟨dd,df,-⟩:=S.op;replace b:=b.mono F;replace z:=B.tl.hd;replace w:=B.tl.tl.hd;replace u:=B.tl.tl.tl.hd;replace k:=k.mono F;simp only[bq] at B;apply ak hJ;revert h;refine bS fun dk bb h=>?_;cases h;simp only[*,go_sem];refine b6 hJ _ (yh k (⟨u0.bB,u0.bH,u0.aO,u0.ax,u0.props,u0.an,N⟩:aj) ⟨b.e,b.p,b.y,S⟩ bb) fun v dp G C H=>?_;obtain ⟨dq,ds,dt,du,rfl,o⟩:=H;replace b:=b.mono G;replace z:=C.tl.hd;replace w:=C.tl.tl.hd;replace u:=C.tl.tl.tl.hd;replace k:=k.mono G;simp only[bq] at C;obtain ⟨d208,dv,rfl,dC,dE,-⟩:=id o.e;obtain ⟨d215,dT,rfl,ea,eb,-⟩:=id o.p;obtain ⟨d222,ec,rfl,ed,eh,-⟩:=id o.y;obtain ⟨d229,et,rfl,ev,eQ,-⟩:=id o.t;apply aJ;simp only[*,go_sem];apply aE;simp only[*,go_sem];exact ⟨_,(F).trans G,Le.sub (List.nil_sublist _),_,_,_,_,rfl,o⟩
 revert h;refine bS fun bc bd h=>?_;simp only[*,go_sem];refine aA fun q T U=>?_;have eS:=aR.cons U ar;try simp only[av] at U
 simp only[*,go_sem];refine dX hJ (aW:=[]) [(q,.cells #[.int .i64 a.aS,.bool a.bt] 49),(j,bz 29),(i,.cells #[.int .i64 a.aS,.bool a.bt] 49),(g,bk u0 s1 c d f)] [] _ (xJ u0.told b.t bd) (fun e0 bj V m n bl=>?_);simp only[aV] at n;subst m;obtain ⟨e1,e3,rfl,fa⟩:=V.len;refine ⟨⟨ro,(q,.cells #[.int .i64 a.aS,.bool a.bt] 49)::(j,bz 29)::(i,.cells #[.int .i64 a.aS,.bool a.bt] 49)::(g,bk u0 s1 c d f)::bj⟩,Le.refl _,?_⟩;refine ⟨by simp only[*,go_sem],bV ?_⟩;revert h;refine bS fun W bm h=>?_;obtain ⟨bo,X⟩:=dr bm;simp only[*,go_sem];refine dW (r:=cU) (l:=bc) (x:=a) (cs:=#[.int .i64 a.aS,.bool a.bt]) (e2:=49) [(q,.cells #[.int .i64 a.aS,.bool a.bt] 49),(j,bz 29),(i,.cells #[.int .i64 a.aS,.bool a.bt] 49),(g,bk u0 s1 c d f)] [] V bl bo rfl (by simp only[*,go_sem]) T rfl rfl ep ep iw iz rfl iy (by decide) (by decide) (fun fb br I m n ff=>?_);simp only[aV] at n;subst m;rw[<-X] at I;clear X;obtain ⟨bs,b0,rfl,fg⟩:=I.len;refine ⟨⟨ro,(q,.cells #[.int .i64 a.aS,.bool a.bt] 49)::(j,bz 29)::(i,.cells #[.int .i64 a.aS,.bool a.bt] 49)::(g,bk u0 s1 c d f)::br⟩,Le.refl _,?_⟩;refine ⟨by simp only[*,go_sem],bV ?_⟩;simp only[*,go_sem];apply ag hJ;refine ay hJ fun Y=>?_;obtain ⟨fi,K,b1,Z,b2⟩:=I.eR [(q,.cells #[.int .i64 a.aS,.bool a.bt] 49),(j,bz 29),(i,.cells #[.int .i64 a.aS,.bool a.bt] 49),(g,bk u0 s1 c d (sl bs W b0))] [] Y (aD.cons T (aD.cons z (aD.cons w (aD.cons u (aD.nil _)))));clear Y;refine cz hJ b2 ?_;obtain ⟨fl,fp,-⟩:=Z.op;replace b:=b.mono K;replace k:=k.mono K;simp only[bq] at b1;apply ak hJ;revert h;refine bS fun fq b3 h=>?_;cases h;simp only[*,go_sem];refine b6 hJ _ (yh k (⟨u0.bB,u0.bH,u0.aO,u0.ax,u0.props,u0.an,W⟩:aj) ⟨b.e,b.p,b.y,Z⟩ b3) fun v fr b4 b5 H=>?_;obtain ⟨fs,ft,fu,fv,rfl,s⟩:=H;simp only[bq] at b5;obtain ⟨fw,fx,rfl,fz,fP,-⟩:=id s.e;obtain ⟨fQ,fS,rfl,fU,gg,-⟩:=id s.p;obtain ⟨gl,gn,rfl,gp,gB,-⟩:=id s.y;obtain ⟨gC,gM,rfl,gT,gV,-⟩:=id s.t;apply aJ;simp only[*,go_sem];apply aE;simp only[*,go_sem];exact ⟨_,(K).trans b4,Le.sub (List.nil_sublist _),_,_,_,_,rfl,s⟩
def yt (u0:aj)(c:Int)(a:dn):Option (aj×Int):=
 af (ek u0 ([(eY c)])) fun e=>cond ((e.2 != 0)) (some ((⟨0,0,(⟨0,0⟩:au),([]:(List bY)),([]:(List bL)),([]:(List bO)),([]:(List bA))⟩:aj),e.2)) (af (qX a 0 60) fun g=>cond (!g) (some ((⟨0,0,(⟨0,0⟩:au),([]:(List bY)),([]:(List bL)),([]:(List bO)),([]:(List bA))⟩:aj),1)) (af (ua u0.an) fun d=>af (bh d c) fun b=>cond (decide ((if a.high<b.high.high then a.high else b.high.high)<(if b.high.low<a.low then a.low else b.high.low))) (some ((⟨0,0,(⟨0,0⟩:au),([]:(List bY)),([]:(List bL)),([]:(List bO)),([]:(List bA))⟩:aj),9)) (af (bh d c) fun h=>af (uy (⟨u0.bB,u0.bH,u0.aO,u0.ax,u0.props,(d.set (c).toNat (⟨h.back,(⟨(if b.high.low<a.low then a.low else b.high.low),(if a.high<b.high.high then a.high else b.high.high)⟩:dn)⟩:bO)),u0.told⟩:aj)) fun f=>some (f.1,f.2))))
theorem Cz {ro:Addr->Option Value}(g:di ro)(u0:aj){s1 k q l:Value}(f:bQ ro u0 s1 k q l)(d:Int)(a:dn){r:(aj×Int)}(h:yt u0 d a=some r):eW Tryz.prog 52 #[bv u0 s1 k q l,.int .i64 d,.agg #[.int .i64 a.low,.int .i64 a.high]] ro (fun v aN=>∃U w1 w2 w3,v= .tuple #[bv r.1 U w1 w2 w3,.int .i64 r.2]/\bQ aN r.1 U w1 w2 w3):=by
 unfold yt at h;have ba:=f.oc;simp only[bJ] at ba;refine aF.go Tryz.func52 rfl Tryz.ntmps52 Tryz.results52 (by simp) fun main J hJ A bb hd hs=>?_;have bc:=hs 0;have k1:=hs 1;have bd:=hs 2;clear hs;apply ah hJ;simp only[*,go_sem];refine aA fun w z bj=>?_;try simp only[av] at bj
 refine aA fun B C bm=>?_;try simp only[av] at bm
 refine aA fun D E bo=>?_;try simp only[av] at bo
 refine ag hJ (ag hJ ?_);refine ay hJ fun br=>?_;apply ak hJ;revert h;refine bS fun K bs h=>?_;simp only[*,go_sem];refine aA fun s V W=>?_;have X:=aR.cons W br;try simp only[av] at W
 obtain ⟨j,u,Y⟩:=gj (b:=s) (o:=(.cells #[.func (.func 83) #[.int .i64 d] #[]] 120)) [] ((D,bz 29)::(B,.cells #[.int .i64 a.low,.int .i64 a.high] 45)::(w,bk u0 s1 k q l)::[]) X V (aD.cons E (aD.cons C (aD.cons z (aD.nil _))));have Z:az (dh) (bU ro s (.cells #[.func (.func 83) #[.int .i64 d] #[]] 120)) (.slice (some ⟨s,0,none⟩) 1 1) [(eY d)]:=(az.one (r:=(dh)) (e:=120) (cs:=#[.func (.func 83) #[.int .i64 d] #[]]) (x:=(eY d)) (own:=[(s,.cells #[.func (.func 83) #[.int .i64 d] #[]] 120)]) V (by simp[lk]) ⟨83,#[.int .i64 d],#[],rfl,⟨by simp only[go_sem],fun fb ff b0 _ _ _ _ _ b1 b2 b3 b4 h=>by simp only[go_sem];exact tC d b0 ⟨b1,b2,b3,b4⟩ h⟩⟩)
 generalize bU ro s (.cells #[.func (.func 83) #[.int .i64 d] #[]] 120)=fg at Z u j Y;refine iu hJ Y ?_;replace f:=f.mono j;replace E:=u.hd;replace C:=u.tl.hd;replace z:=u.tl.tl.hd;replace g:=g.mono j;simp only[bq] at u;have b5:=aR.tl X;refine b6 hJ _ (lg g u0 f ([(eY d)]) Z bs) fun v ab m F L=>?_;obtain ⟨M,N,O,P,rfl,ca⟩:=L;have cb:=ca.oc;simp only[bJ] at cb;replace f:=f.mono m;replace E:=F.hd;replace C:=F.tl.hd;replace z:=F.tl.tl.hd;replace g:=g.mono m;simp only[bq] at F;apply aJ;simp only[*,go_sem];refine aA fun Q cd ad=>?_;have fi:=aR.cons ad b5;try simp only[av] at ad
 apply ah hJ;simp only[*,go_sem];revert h;refine aY hJ (fun cf h=>?_) fun cf h=>?_
 .cases h;apply ah hJ;simp only[*,go_sem];apply aE;simp only[*,go_sem];exact ⟨_,(j).trans m,Le.sub (List.nil_sublist _),_,_,_,_,rfl,⟨az.nil _ _,az.nil _ _,az.nil _ _,az.nil _ _⟩⟩
 refine aI hJ (ag hJ ?_);apply ah hJ;revert h;refine bS fun fl cl h=>?_;simp only[*,go_sem];refine bn hJ _ (Cf a 0 60 cl) (aJ ?_);simp only[*,go_sem];revert h;refine aY hJ (fun cy h=>?_) fun cy h=>?_
 .cases h;apply ah hJ;simp only[*,go_sem];apply aE;simp only[*,go_sem];exact ⟨_,(j).trans m,Le.sub (List.nil_sublist _),_,_,_,_,rfl,⟨az.nil _ _,az.nil _ _,az.nil _ _,az.nil _ _⟩⟩
 refine aI hJ (ag hJ ?_);refine ay hJ fun fp=>?_;apply ak hJ;revert h;refine bS fun G cS h=>?_;simp only[*,go_sem];refine dX hJ (aW:=[]) [(Q,bl K.1 M N O P),(D,bz 29),(B,.cells #[.int .i64 a.low,.int .i64 a.high] 45),(w,bk u0 s1 k q l)] [] _ (Cm u0.an f.y cS) (fun fq c0 H da db fr=>?_);simp only[aV] at db;subst da;obtain ⟨d87,ae,rfl,fs⟩:=H.len;refine ⟨⟨ab,(Q,bl K.1 M N O P)::(D,bz 29)::(B,.cells #[.int .i64 a.low,.int .i64 a.high] 45)::(w,bk u0 s1 k q l)::c0⟩,Le.refl _,?_⟩;apply aJ;simp only[*,go_sem];apply ag hJ;refine ay hJ fun al=>?_;apply ak hJ;revert h;refine bS fun c dd h=>?_;obtain ⟨ft,fu,df⟩:=c5 dd;obtain ⟨R,dk,dp,rfl,rfl,fv,dq,S⟩:=H.BX df;obtain rfl:dp=c.cells:=dq;have ds:=al.nd;simp only[keys,List.map_cons,List.map_nil,List.map_append,List.cons_append,List.nil_append,List.nodup_cons,List.mem_cons,List.mem_append,List.not_mem_nil,or_false,not_or] at ds;have ao:=S 0 _ rfl;simp only[go_sem] at ao;have fw:=(Array.getElem?_eq_some_iff.1 ao).1;have ar:=S 1 _ rfl;simp only[go_sem] at ar;have fx:=(Array.getElem?_eq_some_iff.1 ar).1;have a0:=S 2 _ rfl;simp only[go_sem] at a0;have fz:=(Array.getElem?_eq_some_iff.1 a0).1;simp only[*,go_sem];refine aA fun dt du a2=>?_;have fP:=aR.cons a2 al;try simp only[av] at a2
 apply ag hJ;refine eX [1,3,5,6,7,10] fun fQ dv dC dE=>?_;simp only[*,go_sem] at dv dC dE;clear bb hd bc k1 bd;refine ay hJ fun dT=>?_;apply ak hJ;simp only[*,go_sem];refine aA fun ea eb a3=>?_;have fS:=aR.cons a3 dT;try simp only[av] at a3
 refine ag hJ (ag hJ ?_);refine ay hJ fun fU=>?_;apply ak hJ;simp only[*,go_sem];revert h;refine aY hJ (fun ec h=>?_) fun ec h=>?_
 .cases h;apply ag hJ;refine ay hJ fun gg=>?_;apply ak hJ;simp only[*,go_sem];apply aE;simp only[*,go_sem];exact ⟨_,(j).trans m,Le.sub (List.nil_sublist _),_,_,_,_,rfl,⟨az.nil _ _,az.nil _ _,az.nil _ _,az.nil _ _⟩⟩
 refine aI hJ (ag hJ ?_);refine ay hJ fun gl=>?_;apply ak hJ;revert h;refine bS fun i ed h=>?_;obtain ⟨gn,gp,a4⟩:=c5 ed;obtain ⟨eh,et,I⟩:=H.jD a4;obtain rfl:eh=i.cells:=et;have a5:=I 0 _ rfl;simp only[go_sem] at a5;have gB:=(Array.getElem?_eq_some_iff.1 a5).1;have a6:=I 1 _ rfl;simp only[go_sem] at a6;have gC:=(Array.getElem?_eq_some_iff.1 a6).1;have a7:=I 2 _ rfl;simp only[go_sem] at a7;have gM:=(Array.getElem?_eq_some_iff.1 a7).1;have ev:aQ ej ab 47 (.slice (some ⟨R,0,none⟩) G.length ae) (G.set (d).toNat (⟨i.back,(⟨(if c.high.low<a.low then a.low else c.high.low),(if a.high<c.high.high then a.high else c.high.high)⟩:dn)⟩:bO)) [(R,Obj.cells (cM dk ((d).toNat*3+1) [.int .i64 (if c.high.low<a.low then a.low else c.high.low),.int .i64 (if a.high<c.high.high then a.high else c.high.high)]) 47)]:=by have eQ:=H.part (y:=(⟨i.back,(⟨(if c.high.low<a.low then a.low else c.high.low),(if a.high<c.high.high then a.high else c.high.high)⟩:dn)⟩:bO)) a4 1 [.int .i64 (if c.high.low<a.low then a.low else c.high.low),.int .i64 (if a.high<c.high.high then a.high else c.high.high)] [.int .i64 i.back,.int .i64 i.high.low,.int .i64 i.high.high] [.int .i64 i.back,.int .i64 (if c.high.low<a.low then a.low else c.high.low),.int .i64 (if a.high<c.high.high then a.high else c.high.high)] I rfl rfl (by simp) rfl;exact eQ
 simp only[*,go_sem];apply ag hJ;refine ay hJ fun a8=>?_;obtain ⟨gT,T,eS,a9,e0⟩:=ev.eR [(ea,.cells #[.int .i64 (if c.high.low<a.low then a.low else c.high.low),.int .i64 (if a.high<c.high.high then a.high else c.high.high)] 45),(dt,.cells #[.int .i64 c.high.low,.int .i64 c.high.high] 45),(Q,bl K.1 M N O P),(D,bz 29),(B,.cells #[.int .i64 a.low,.int .i64 a.high] 45),(w,bk u0 s1 k (sl (some ⟨R,0,none⟩) G ae) l)] [] a8 (aD.cons eb (aD.cons du (aD.cons cd (aD.cons E (aD.cons C (aD.cons z (aD.nil _)))))));clear a8;refine cz hJ e0 ?_;obtain ⟨gV,g0,-⟩:=a9.op;replace f:=f.mono T;replace g:=g.mono T;simp only[bq] at eS;apply ak hJ;revert h;refine bS fun g1 e1 h=>?_;cases h;simp only[*,go_sem];refine b6 hJ _ (yh g (⟨u0.bB,u0.bH,u0.aO,u0.ax,u0.props,(G.set (d).toNat (⟨i.back,(⟨(if c.high.low<a.low then a.low else c.high.low),(if a.high<c.high.high then a.high else c.high.high)⟩:dn)⟩:bO)),u0.told⟩:aj) ⟨f.e,f.p,a9,f.t⟩ e1) fun v g2 e2 e3 L=>?_;obtain ⟨g3,g4,ha,hc,rfl,n⟩:=L;have fa:=n.oc;simp only[bJ] at fa;simp only[bq] at e3;obtain ⟨d130,hf,rfl,hg,hh,-⟩:=id n.e;obtain ⟨d137,hi,rfl,hj,hk,-⟩:=id n.p;obtain ⟨d144,hl,rfl,hn,ho,-⟩:=id n.y;obtain ⟨d151,hp,rfl,hq,hr,-⟩:=id n.t;apply aJ;simp only[*,go_sem];apply aE;simp only[*,go_sem];exact ⟨_,(((j).trans m).trans T).trans e2,Le.sub (List.nil_sublist _),_,_,_,_,rfl,n⟩
def CA (i43:Nat)(a:(List Int))(st:(List Int)):Option (Fl (List Int) (List Int)):=
 af (cG st a) fun b=>some (.nx b)
def rC (i9:Nat)(a:(List Int))(st:Int):Option (Fl Int (List Int)):=
 cond (decide ((IntKind.i64.wrap (st+(a.length:Int)))<0)) (none) (some (.nx (IntKind.i64.wrap (st+(a.length:Int)))))
def yu (i109:Nat)(a:(List Int))(st:(List Int)):Option (Fl (List Int) (List Int)):=
 af (cG st a) fun b=>some (.nx b)
def rD (u0:(List (List Int))):Option (List Int):=
 af (bE (rC) 0 u0 0) fun o=>aC o (fun a=>af (uw a) fun b=>af (bE (yu) 0 u0 b) fun o=>aC o (fun c=>some c) (fun _ _=>none) (fun r=>some r)) (fun _ _=>none) (fun r=>some r)
theorem IU {ro:Addr->Option Value}(u0:(List (List Int))){s1:Value}(g:az (rL rI) ro s1 u0){r:(List Int)}(h:rD u0=some r):eW Tryz.prog 72 #[s1] ro (fun v aN=>∃s,v=s/\az rI aN s r):=by
 obtain ⟨d3,c4,rfl,bz,t,-⟩:=id g;unfold rD at h;refine aF.go Tryz.func72 rfl Tryz.ntmps72 Tryz.results72 (by simp) fun main J hJ A P hd hs=>?_;have Q:=hs 0;clear hs;apply ah hJ;simp only[*,go_sem];apply ah hJ;simp only[*,go_sem];refine ag hJ (ah hJ ?_);simp only[*,go_sem];apply aT hJ;revert h;refine bS fun R a S=>?_;refine bT hJ (rg 11 12 [3,5]) (fun m d F'=>∃(i9:Nat) (e:Int),m=u0.length - i9/\i9<=u0.length/\bE (rC) i9 (u0.drop i9) e=some R/\F'=⟨ro,[]⟩/\slot d 11= .int .i64 (i9:Int)/\slot d 3= .int .i64 e) u0.length ?_ ?_
 .refine ⟨0,0,(Nat.sub_zero _).symm,Nat.zero_le _,a,rfl,?_⟩;simp only[*,go_sem]
 rintro b0 b1 F' u ⟨i9,e,rfl,b2,a,rfl,T,U⟩;obtain ⟨w,y,z⟩:=u.pick [0,2,9,10] (by decide);simp only[*,go_sem] at w y z;clear u P hd Q;apply ah hJ;simp only[*,go_sem];apply ag hJ;rcases Nat.lt_or_ge i9 u0.length with V|B
 .refine cw hJ ?_;apply aI hJ;obtain ⟨W,i⟩:∃x,u0[i9]?=some x:=⟨_,List.getElem?_eq_getElem V⟩
  rw[dw i] at a;revert a;refine bS fun b3 h X=>?_;unfold rC at h;try dsimp only at h
  obtain ⟨b4,b5,Y,Z,C⟩:=g.el _ _ i;obtain ⟨ca,rfl,ab⟩:=Z;obtain ⟨d18,cb,rfl,cd,cf,cl⟩:=id ab;cases Y;have ad:=C 0 _ rfl;simp only[go_sem] at ad;clear C i;refine ag hJ (aT hJ (ag hJ ?_));apply ak hJ;simp only[*,go_sem];apply ah hJ;simp only[*,go_sem];apply ah hJ;simp only[*,go_sem];revert h;refine aY hJ (fun ae h=>?_) fun ae h=>?_
  .apply ak hJ;cases h
  cases h;apply aI hJ;have cy:=cv (n:=i9) (by have:=t;omega);apply ak hJ;simp only[*,go_sem];refine ⟨u0.length - (i9+1),by omega,_,Le.sub (List.Sublist.refl _),i9+1,(IntKind.i64.wrap (e+(W.length:Int))),rfl,by omega,X,rfl,?_⟩;simp only[*,go_sem]
 have cS:=Nat.not_lt.2 B;refine cn hJ ?_;rw[List.drop_eq_nil_of_le B] at a;obtain rfl:=sI a;clear a;have h:=S;dsimp only[aC] at h;apply bR;simp only[go_sem];apply ag hJ;refine ay hJ fun c0=>?_;apply ak hJ;revert h;refine bS fun al ao h=>?_;simp only[*,go_sem];refine dX hJ (aW:=[]) [] [] _ (IM e ao) (fun da D E j k db=>?_);simp only[aV] at k;subst j;obtain ⟨d32,ar,rfl,a0⟩:=E.len;refine ⟨⟨ro,D⟩,Le.refl _,?_⟩;apply aJ;simp only[*,go_sem];refine ag hJ (ag hJ ?_);refine ay hJ fun dd=>?_;apply ak hJ;simp only[*,go_sem];apply aT hJ;revert h;refine bS fun a2 b a3=>?_;refine bT hJ (rg 27 8 [6,8]) (fun m d F'=>∃(i43:Nat) (d38:Option Addr) (f:Nat) (o:List (Nat×Obj)) (c:(List Int)),m=u0.length - i43/\i43<=u0.length/\bE (CA) i43 (u0.drop i43) c=some a2/\F'=⟨ro,o⟩/\aQ rI ro 3 (.slice d38 c.length f) c o/\c.length<=f/\slot d 27= .int .i64 (i43:Int)/\slot d 6= .slice d38 c.length f) u0.length ?_ ?_
 .refine ⟨0,d32,ar,D,al,(Nat.sub_zero _).symm,Nat.zero_le _,b,rfl,E,a0,?_⟩;simp only[*,go_sem]
 rintro df dk F' F ⟨i43,d38,f,o,c,rfl,dp,b,rfl,G,dq,ds,dt⟩;obtain ⟨a4,a5,a6⟩:=F.pick [2,25,26] (by decide);simp only[*,go_sem] at a4 a5 a6;clear F w y z U T;apply ah hJ;simp only[*,go_sem];apply ag hJ;rcases Nat.lt_or_ge i43 u0.length with a7|H
 .refine cw hJ ?_;apply aI hJ;obtain ⟨a8,p⟩:∃x,u0[i43]?=some x:=⟨_,List.getElem?_eq_getElem a7⟩
  rw[dw p] at b;revert b;refine bS fun du h a9=>?_;unfold CA at h;try dsimp only at h
  obtain ⟨dv,dC,ba,bb,I⟩:=g.el _ _ p;obtain ⟨dE,rfl,K⟩:=bb;obtain ⟨d52,dT,rfl,ea,eb,ec⟩:=id K;cases ba;have bc:=I 0 _ rfl;simp only[go_sem] at bc;clear I p;refine ag hJ (aT hJ (ag hJ ?_));refine ay hJ fun ed=>?_;apply ak hJ;simp only[*,go_sem];refine ay hJ fun bd=>?_;apply ak hJ;revert h;refine bS fun bj bk h=>?_;cases h;obtain ⟨bl,L⟩:=dr bk;simp only[*,go_sem];refine qV (r:=rI) (l:=c) (xs:=a8) [] [] G bd bl K rfl rfl gh gh lV lX rfl lW (by decide) (by decide) (fun eh M q j k et=>?_);simp only[aV] at k;subst j;rw[<-L] at q;clear L;obtain ⟨d66,bm,rfl,bo⟩:=q.len;refine ⟨⟨ro,M⟩,Le.refl _,?_⟩;apply aJ;simp only[*,go_sem];have ev:=cv (n:=i43) (by have:=t;omega);apply ak hJ;simp only[*,go_sem];refine ⟨u0.length - (i43+1),by omega,_,Le.sub (List.Sublist.refl _),i43+1,d66,bm,M,bj,rfl,by omega,a9,rfl,q,bo,?_⟩;simp only[*,go_sem]
 have eQ:=Nat.not_lt.2 H;refine cn hJ ?_;rw[List.drop_eq_nil_of_le H] at b;obtain rfl:=sI b;clear b;have h:=a3;dsimp only[aC] at h;cases h;apply bR;simp only[go_sem];apply ag hJ;refine ay hJ fun eS=>?_;apply ak hJ;simp only[*,go_sem];refine ay hJ fun N=>?_;obtain ⟨e0,br,e1,O,bs⟩:=G.eR [] [] N (aD.nil _);clear N;refine cz hJ bs ?_;obtain ⟨e2,e3,-⟩:=O.op;apply aE;simp only[*,go_sem];exact ⟨_,br,Le.sub (List.nil_sublist _),_,rfl,O⟩
def o8 (a:Int)(i44:Nat)(b:aZ)(st:(List Int)):Option (Fl (List Int) (List Int)):=
 af (aZ.get b a) fun c=>af (cG st ([c])) fun d=>some (.nx d)
def mg (u0:cV)(a:Int):Option (List Int):=
 af (bE (o8 a) 0 u0.all ([]:List Int)) fun o=>aC o (fun b=>af (rz b) fun c=>af (uv c.2) fun d=>some d) (fun _ _=>none) (fun r=>some r)
theorem uD {ro:Addr->Option Value}(u0:cV){s1 a b c:Value}(b3:bQ ro u0.book s1 a b c){y:Value}(z:az iA ro y u0.all)(s:Int){r:(List Int)}(h:mg u0 s=some r):eW Tryz.prog 84 #[.agg #[.int .i64 u0.book.bB,.int .i64 u0.book.bH,.int .i64 u0.book.aO.num,.int .i64 u0.book.aO.den,s1,a,b,c,y],.int .i64 s] ro (fun v aN=>∃B,v=B/\az rI aN B r):=by
 obtain ⟨d31,d,rfl,b4,R,-⟩:=id z;unfold mg at h;refine aF.go Tryz.func84 rfl Tryz.ntmps84 Tryz.results84 (by simp) fun main J hJ A S hd hs=>?_;have T:=hs 0;have k1:=hs 1;clear hs;apply ah hJ;simp only[*,go_sem];refine aA fun e U V=>?_;try simp only[av] at V
 apply ah hJ;simp only[*,go_sem];refine ag hJ (ah hJ ?_);simp only[*,go_sem];apply aT hJ;revert h;refine bS fun W g X=>?_;refine bT hJ (rg 11 11 [5,7]) (fun m C F'=>∃(i44:Nat) (d38:Option Addr) (o:Nat) (t:List (Nat×Obj)) (f:(List Int)),m=u0.all.length - i44/\i44<=u0.all.length/\bE (o8 s) i44 (u0.all.drop i44) f=some W/\F'=⟨ro,(e,kn u0 s1 a b c (sl d31 u0.all d))::t⟩/\aQ rI ro 3 (.slice d38 f.length o) f t/\f.length<=o/\slot C 11= .int .i64 (i44:Int)/\slot C 5= .slice d38 f.length o) u0.all.length ?_ ?_
 .refine ⟨0,none,0,[],([]:List Int),(Nat.sub_zero _).symm,Nat.zero_le _,g,rfl,aQ.nil _ _ _,Nat.le_refl _,?_⟩;simp only[*,go_sem]
 rintro b5 ca F' D ⟨i44,d38,o,t,f,rfl,cb,g,rfl,E,cd,cf,cl⟩;obtain ⟨Y,Z,ab⟩:=D.pick [1,4,9,10] (by decide);simp only[*,go_sem] at Y Z ab;clear D S hd T k1;apply ah hJ;simp only[*,go_sem];apply ag hJ;rcases Nat.lt_or_ge i44 u0.all.length with ad|F
 .refine cw hJ ?_;apply aI hJ;obtain ⟨i,u⟩:∃x,u0.all[i44]?=some x:=⟨_,List.getElem?_eq_getElem ad⟩
  rw[dw u] at g;revert g;refine bS fun cy h ae=>?_;unfold o8 at h;try dsimp only at h
  obtain ⟨G,al,ao,ar,p⟩:=z.el _ _ u;obtain rfl:al=i.cells:=ar;cases ao;have a0:=p 0 _ rfl;simp only[go_sem] at a0;have a2:=p 1 _ rfl;simp only[go_sem] at a2;have a3:=p 2 _ rfl;simp only[go_sem] at a3;clear p u;refine ag hJ (aT hJ (ag hJ ?_));refine ay hJ fun a4=>?_;apply ak hJ;simp only[*,go_sem];refine aA fun H cS I=>?_;have c0:=aR.cons I a4;try simp only[av] at I
  refine ay hJ fun a5=>?_;apply ak hJ;revert h;refine bS fun q a6 h=>?_;obtain ⟨da,db,a7⟩:=aZ.get_some a6;try simp only[go_sem] at a7
  revert h;refine bS fun a8 a9 h=>?_;cases h;obtain ⟨ba,K⟩:=dr a9;simp only[*,go_sem];refine aA fun L bb M=>?_;have bc:=aR.cons M a5;try simp only[av] at M
  refine dW (r:=rI) (l:=f) (x:=q) (cs:=#[.int .i64 q]) (e2:=3) [(L,ic q),(H,.cells #[.int .i64 i.e0,.int .i64 i.e1,.int .i64 i.e2] 138),(e,kn u0 s1 a b c (sl (some G) u0.all d))] [] E bc ba rfl (by simp only[*,go_sem]) bb rfl rfl gh gh lV lX rfl lW (by decide) (by decide) (fun dd N w j k df=>?_);simp only[aV] at k;subst j;rw[<-K] at w;clear K;obtain ⟨d66,bd,rfl,bj⟩:=w.len;refine ⟨⟨ro,(L,ic q)::(H,.cells #[.int .i64 i.e0,.int .i64 i.e1,.int .i64 i.e2] 138)::(e,kn u0 s1 a b c (sl (some G) u0.all d))::N⟩,Le.refl _,?_⟩;apply aJ;simp only[*,go_sem];have dk:=cv (n:=i44) (by have:=R;omega);apply ak hJ;simp only[*,go_sem];refine ⟨u0.all.length - (i44+1),by omega,_,Le.sub (List.Sublist.cons _ (List.Sublist.cons _ (List.Sublist.refl _))),i44+1,d66,bd,N,a8,rfl,by omega,ae,rfl,w,bj,?_⟩;simp only[*,go_sem]
 have dp:=Nat.not_lt.2 F;refine cn hJ ?_;rw[List.drop_eq_nil_of_le F] at g;obtain rfl:=sI g;clear g;have h:=X;dsimp only[aC] at h;apply bR;simp only[go_sem];apply ag hJ;refine ay hJ fun dq=>?_;apply ak hJ;revert h;refine bS fun bk bl h=>?_;simp only[*,go_sem];refine dX hJ [(e,kn u0 s1 a b c (sl d31 u0.all d))] [] _ (IJ f E bl) (fun ds bm bo j k dt=>?_);obtain ⟨rfl,br⟩:=bo;simp only[aV] at k;subst j;refine ⟨⟨ro,(e,kn u0 s1 a b c (sl d31 u0.all d))::bm⟩,Le.refl _,?_⟩;simp only[*,go_sem];apply ag hJ;refine ay hJ fun du=>?_;apply ak hJ;revert h;refine bS fun dv bs h=>?_;cases h;simp only[*,go_sem];refine dX hJ [(e,kn u0 s1 a b c (sl d31 u0.all d))] [] _ (IK bk.2 br bs) (fun dC bz O j k dE=>?_);simp only[aV] at k;subst j;obtain ⟨d83,dT,rfl,ea⟩:=O.len;refine ⟨⟨ro,(e,kn u0 s1 a b c (sl d31 u0.all d))::bz⟩,Le.refl _,?_⟩;apply aJ;simp only[*,go_sem];refine ay hJ fun P=>?_;obtain ⟨eb,b0,b1,Q,b2⟩:=O.eR [(e,kn u0 s1 a b c (sl d31 u0.all d))] [] P (aD.cons U (aD.nil _));clear P;refine cz hJ b2 ?_;obtain ⟨ec,ed,-⟩:=Q.op;simp only[bq] at b1;apply aE;simp only[*,go_sem];exact ⟨_,b0,Le.sub (List.nil_sublist _),_,rfl,Q⟩
def mh (u0:cV)(i47:Nat)(i75:Nat)(b:Int)(st:(List aP)):Option (Fl (List aP) (List aP)):=
 af (iC u0.book (i47:Int) b) fun a=>af (q9 st a) fun c=>cond (!c) (af (cG st ([a])) fun d=>some (.nx d)) (some (.nx st))
def rE (u0:cV)(i47:Nat)(c:bO)(st:(List aP)):Option (Fl (List aP) (List aP)):=
 af (mg u0 (i47:Int)) fun a=>af (bE (mh u0 i47) 0 a st) fun o=>aC o (fun b=>some (.nx b)) (fun _ _=>none) (fun r=>some (.rt r))
def o9 (u0:cV):Option (List aP):=
 af (bE (rE u0) 0 u0.book.an ([]:List aP)) fun o=>aC o (fun a=>some a) (fun _ _=>none) (fun r=>some r)
theorem CB {ro:Addr->Option Value}(u0:cV){s1 c R d:Value}(e:bQ ro u0.book s1 c R d){f:Value}(H:az iA ro f u0.all){r:(List aP)}(h:o9 u0=some r):eW Tryz.prog 56 #[.agg #[.int .i64 u0.book.bB,.int .i64 u0.book.bH,.int .i64 u0.book.aO.num,.int .i64 u0.book.aO.den,s1,c,R,d,f]] ro (fun v aN=>∃S,v=S/\az jE aN S r):=by
 obtain ⟨d17,o,rfl,e0,a8,-⟩:=id e.y;unfold o9 at h;refine aF.go Tryz.func56 rfl Tryz.ntmps56 Tryz.results56 (by simp) fun main J hJ A a9 hd hs=>?_;have ba:=hs 0;clear hs;apply ah hJ;simp only[*,go_sem];refine aA fun p I bb=>?_;try simp only[av] at bb
 apply ah hJ;simp only[*,go_sem];refine ag hJ (ah hJ ?_);simp only[*,go_sem];apply aT hJ;revert h;refine bS fun bc i bd=>?_;refine bT hJ (rg 13 26 [3,4,6,7]) (fun m s F'=>∃(i47:Nat) (w:Addr->Option Value) (d38:Option Addr) (t:Nat) (z:List (Nat×Obj)) (j:(List aP)),m=u0.book.an.length - i47/\i47<=u0.book.an.length/\bE (rE u0) i47 (u0.book.an.drop i47) j=some bc/\F'=⟨w,(p,kn u0 s1 c (sl d17 u0.book.an o) d f)::z⟩/\Ext ro w/\aQ jE w 105 (.slice d38 j.length t) j z/\j.length<=t/\slot s 13= .int .i64 (i47:Int)/\slot s 3= .slice d38 j.length t) u0.book.an.length ?_ ?_
 .refine ⟨0,ro,none,0,[],([]:List aP),(Nat.sub_zero _).symm,Nat.zero_le _,i,rfl,Ext.refl _,aQ.nil _ _ _,Nat.le_refl _,?_⟩;simp only[*,go_sem]
 rintro e1 bj F' T ⟨i47,w,d38,t,z,j,rfl,e3,i,rfl,B,C,bk,bl,bm⟩;refine fF hJ fun _ U=>?_;replace e:=e.mono B;replace H:=H.mono B;replace I:=U.hd;simp only[bq] at U;obtain ⟨V,W,X⟩:=T.pick [1,2,12] (by decide);simp only[*,go_sem] at V W X;clear T a9 hd ba;apply ah hJ;simp only[*,go_sem];apply ag hJ;rcases Nat.lt_or_ge i47 u0.book.an.length with bo|Y
 .refine cw hJ ?_;apply aI hJ;obtain ⟨br,K⟩:∃x,u0.book.an[i47]?=some x:=⟨_,List.getElem?_eq_getElem bo⟩
  rw[dw K] at i;revert i;refine bS fun fa h bs=>?_;unfold rE at h;try dsimp only at h
  obtain ⟨D,bz,b0,b1,E⟩:=e.y.el _ _ K;obtain rfl:bz=br.cells:=b1;cases b0;have b2:=E 0 _ rfl;simp only[go_sem] at b2;have b3:=E 1 _ rfl;simp only[go_sem] at b3;have b4:=E 2 _ rfl;simp only[go_sem] at b4;clear E K;refine ag hJ (aT hJ (ag hJ ?_));refine ay hJ fun fb=>?_;apply ak hJ;simp only[*,go_sem];apply ag hJ;refine ay hJ fun ff=>?_;apply ak hJ;revert h;refine bS fun g b5 h=>?_;simp only[*,go_sem];refine b6 hJ _ (uD u0 e H (i47:Int) b5) fun v F L M ca=>?_;obtain ⟨fg,rfl,Z⟩:=ca;replace e:=e.mono L;replace I:=M.hd;replace C:=C.mono L M.tl;simp only[bq] at M;obtain ⟨d64,fi,rfl,fl,ab,-⟩:=id Z;apply aJ;simp only[*,go_sem];apply aT hJ;revert h;refine bS fun cb k cd=>?_;refine bT hJ (rg 20 18 [3,6,7]) (fun m s F'=>∃(i75:Nat) (d70:Option Addr) (q:Nat) (u:List (Nat×Obj)) (b:(List aP)),m=g.length - i75/\i75<=g.length/\bE (mh u0 i47) i75 (g.drop i75) b=some cb/\F'=⟨F,(p,kn u0 s1 c (sl (some D) u0.book.an o) d f)::u⟩/\aQ jE F 105 (.slice d70 b.length q) b u/\b.length<=q/\slot s 20= .int .i64 (i75:Int)/\slot s 3= .slice d70 b.length q) g.length ?_ ?_
  .refine ⟨0,d38,t,z,j,(Nat.sub_zero _).symm,Nat.zero_le _,k,rfl,C,bk,?_⟩;simp only[*,go_sem]
  rintro fp cf F' N ⟨i75,d70,q,u,b,rfl,fq,k,rfl,G,ad,fr,fs⟩;obtain ⟨cl,cy,cS⟩:=N.pick [1,2,4,12,13,14,15,16,17,18,19] (by decide);simp only[*,go_sem] at cl cy cS;have ft:cL (rg 13 26 [3,4,6,7]) cf bj:=(N.gG (by decide)).trans (by simp only[*,go_sem]);clear N V W X bm bl;apply ah hJ;simp only[*,go_sem];apply ag hJ;rcases Nat.lt_or_ge i75 g.length with c0|ae
  .refine cw hJ ?_;apply aI hJ;obtain ⟨al,O⟩:∃x,g[i75]?=some x:=⟨_,List.getElem?_eq_getElem c0⟩
   rw[dw O] at k;revert k;refine bS fun fu h ao=>?_;unfold mh at h;(try dsimp only at h);obtain ⟨fv,da,db,dd,ar⟩:=Z.el _ _ O;obtain rfl:da=[.int .i64 al]:=dd;cases db;have df:=ar 0 _ rfl;simp only[go_sem] at df;clear ar O;refine ag hJ (aT hJ (ag hJ ?_));refine ay hJ fun fw=>?_;apply ak hJ;simp only[*,go_sem];apply ag hJ;refine ay hJ fun dk=>?_;apply ak hJ;revert h;refine bS fun a dp h=>?_;simp only[*,go_sem];refine bn hJ _ (m8 u0.book (e.mono aL) (i47:Int) al dp) (aJ ?_);simp only[*,go_sem];refine aA fun P fx a0=>?_;have fz:=aR.cons a0 dk;try simp only[av] at a0
   apply ag hJ;refine ay hJ fun dq=>?_;apply ak hJ;revert h;refine bS fun fP ds h=>?_;simp only[*,go_sem];refine bn hJ _ (HY b (G.Cc [(P,.cells #[.int .i64 a.back,.int .i64 a.high] 105),(p,kn u0 s1 c (sl (some D) u0.book.an o) d f)] [] (by first|rfl|simp only[aV]|(simp only[aV];rfl)) dq) a ds) (aJ ?_);simp only[*,go_sem];revert h;refine aY hJ (fun dt h=>?_) fun dt h=>?_
   .refine ay hJ fun du=>?_;apply ak hJ;revert h;refine bS fun dv dC h=>?_;cases h;obtain ⟨dE,a2⟩:=dr dC;simp only[*,go_sem];refine aA fun a3 dT a4=>?_;have ea:=aR.cons a4 du;try simp only[av] at a4
    refine dW (r:=jE) (l:=b) (x:=a) (cs:=#[.int .i64 a.back,.int .i64 a.high]) (e2:=105) [(a3,.cells #[.int .i64 a.back,.int .i64 a.high] 105),(P,.cells #[.int .i64 a.back,.int .i64 a.high] 105),(p,kn u0 s1 c (sl (some D) u0.book.an o) d f)] [] G ea dE rfl (by simp only[*,go_sem]) dT rfl rfl BA BA Gy GA rfl Gz (by decide) (by decide) (fun fQ a5 Q eb ec fS=>?_);simp only[aV] at ec;subst eb;rw[<-a2] at Q;clear a2;obtain ⟨d102,ed,rfl,eh⟩:=Q.len;refine ⟨⟨F,(a3,.cells #[.int .i64 a.back,.int .i64 a.high] 105)::(P,.cells #[.int .i64 a.back,.int .i64 a.high] 105)::(p,kn u0 s1 c (sl (some D) u0.book.an o) d f)::a5⟩,Le.refl _,?_⟩;apply aJ;simp only[*,go_sem];have et:=cv (n:=i75) (by have:=ab;omega);apply ak hJ;simp only[*,go_sem];refine ⟨g.length - (i75+1),by omega,_,Le.sub (List.Sublist.cons _ (List.Sublist.cons _ (List.Sublist.refl _))),i75+1,d102,ed,a5,dv,rfl,by omega,ao,rfl,Q,eh,?_⟩;simp only[*,go_sem]
   cases h;apply aI hJ;have et:=cv (n:=i75) (by have:=ab;omega);apply ak hJ;simp only[*,go_sem];refine ⟨g.length - (i75+1),by omega,_,Le.sub (List.Sublist.cons _ (List.Sublist.refl _)),i75+1,d70,q,u,b,rfl,by omega,ao,rfl,G,ad,?_⟩;simp only[*,go_sem]
  have fU:=Nat.not_lt.2 ae;refine cn hJ ?_;rw[List.drop_eq_nil_of_le ae] at k;obtain rfl:=sI k;clear k;have h:=cd;dsimp only[aC] at h;cases h;apply bR;simp only[go_sem];have gg:=cv (n:=i47) (by have:=a8;omega);apply ak hJ;simp only[*,go_sem];refine ⟨u0.book.an.length - (i47+1),by omega,_,Le.sub (List.Sublist.refl _),i47+1,F,d70,q,u,b,rfl,by omega,bs,rfl,(B.trans L),G,ad,?_⟩;simp only[*,go_sem]
 have gl:=Nat.not_lt.2 Y;refine cn hJ ?_;rw[List.drop_eq_nil_of_le Y] at i;obtain rfl:=sI i;clear i;have h:=bd;dsimp only[aC] at h;cases h;apply bR;simp only[go_sem];apply ag hJ;refine ay hJ fun gn=>?_;apply ak hJ;simp only[*,go_sem];refine ay hJ fun a6=>?_;obtain ⟨gp,ev,eQ,a7,eS⟩:=C.eR [(p,kn u0 s1 c (sl d17 u0.book.an o) d f)] [] a6 (aD.cons I (aD.nil _));clear a6;refine cz hJ eS ?_;obtain ⟨gB,gC,-⟩:=a7.op;simp only[bq] at eQ;apply aE;simp only[*,go_sem];exact ⟨_,(B).trans ev,Le.sub (List.nil_sublist _),_,rfl,a7⟩
def rF (a:Int)(i109:Nat)(b:bA)(st:((List Int)×(List bA))):Option (Fl ((List Int)×(List bA)) ((List Int)×Int)):=
 af (w8 a (i109:Int)) fun c=>cond (((Bo c 1)==1)) (af (cG st.1 ([(i109:Int)])) fun d=>af (cG st.2 ([b])) fun e=>some (.nx (d,e))) (some (.nx (st.1,st.2)))
def nB (u0:aj)(a:(aj×Int))(c:Int)(st:((List (List Int))×Int)):Option (Fl ((List (List Int))×Int) ((List Int)×Int)):=
 cond (decide (st.2<c)) (af (bE (rF st.2) 0 u0.told (([]:List Int),([]:List bA))) fun o=>aC o (fun b=>af (oY (⟨a.1.bB,a.1.bH,a.1.aO,a.1.ax,a.1.props,a.1.an,b.2⟩:aj)) fun d=>cond (!d) (af (cG st.1 ([b.1])) fun e=>some (.nx (e,(IntKind.i64.wrap (st.2+1))))) (some (.nx (st.1,(IntKind.i64.wrap (st.2+1)))))) (fun _ _=>none) (fun r=>some (.rt r))) (some (.bk (st.1,st.2)))
def iW (u0:aj):Option ((List Int)×Int):=
 af (ek u0 ([]:(List (aj->Option Int)))) fun a=>cond ((a.2 != 0)) (some (([]:(List Int)),a.2)) (af (oY a.1) fun c=>cond (c) (some (([]:(List Int)),0)) (af (s8 1 (u0.told.length:Int)) fun d=>af (aU (nB u0 a d) fu (([]:List (List Int)),0)) fun o=>aC o (fun b=>af (bh b.1 0) fun e=>af (e8 b.1 1 (b.1.length:Int)) fun f=>af (oS iV e f) fun g=>some (g,0)) (fun _ _=>none) (fun r=>some r)))
theorem uE {ro:Addr->Option Value}(fv:di ro)(u0:aj){s1 i j b4:Value}(K:bQ ro u0 s1 i j b4){r:((List Int)×Int)}(h:iW u0=some r):eW Tryz.prog 24 #[bv u0 s1 i j b4] ro (fun v aN=>∃b5,v= .tuple #[b5,.int .i64 r.2]/\az rI aN b5 r.1):=by
 obtain ⟨d24,k,rfl,mf,ab,-⟩:=id K.t;unfold iW at h;have fw:=K.oc;simp only[bJ] at fw;refine aF.go Tryz.func24 rfl Tryz.ntmps24 Tryz.results24 (by simp) fun main J hJ A fx hd hs=>?_;have fz:=hs 0;clear hs;apply ah hJ;simp only[*,go_sem];refine aA fun o L fP=>?_;try simp only[av] at fP
 apply ah hJ;revert h;refine bS fun b fQ h=>?_;simp only[*,go_sem];refine b6 hJ _ (lg fv u0 K ([]:(List (aj->Option Int))) (az.nil _ _) fQ) fun v ca ad cb a7=>?_;obtain ⟨c,d,f,q,rfl,P⟩:=a7;have fS:=P.oc;simp only[bJ] at fS;replace K:=K.mono ad;replace L:=cb.hd;simp only[bq] at cb;apply aJ;simp only[*,go_sem];refine aA fun s Q fU=>?_;try simp only[av] at fU
 refine ag hJ (ah hJ ?_);simp only[*,go_sem];revert h;refine aY hJ (fun gg h=>?_) fun gg h=>?_
 .cases h;apply ah hJ;simp only[*,go_sem];apply aE;simp only[*,go_sem];exact ⟨_,ad,Le.sub (List.nil_sublist _),_,rfl,az.nil _ _⟩
 refine aI hJ (ag hJ ?_);apply ah hJ;revert h;refine bS fun mi gl h=>?_;simp only[*,go_sem];refine bn hJ _ (Cq b.1 (P.mono aL) gl) ?_;revert h;refine aY hJ (fun gn h=>?_) fun gn h=>?_
 .cases h;apply ah hJ;simp only[*,go_sem];apply aE;simp only[*,go_sem];exact ⟨_,ad,Le.sub (List.nil_sublist _),_,rfl,az.nil _ _⟩
 refine aI hJ (ag hJ ?_);apply ak hJ;simp only[*,go_sem];refine ag hJ (ah hJ ?_);revert h;refine bS fun gp cd h=>?_;obtain ⟨ml,gB⟩:=Gi cd;clear cd;try simp only[go_sem] at gB
 simp only[*,go_sem];apply aT hJ;revert h;refine bS fun gC ae gM=>?_;refine bT hJ (rg 26 40 (rg 6 6 [])) (fun m V F'=>∃(B:Addr->Option Value) (d71:Option Addr) (S:Nat) (w:List (Nat×Obj)) (I:(List (List Int))) (T:Int),aU (nB u0 b gp) m (I,T)=some gC/\F'=⟨B,(s,bl b.1 c d f q)::(o,bk u0 s1 i j (sl d24 u0.told k))::w⟩/\Ext ca B/\aQ (rL rI) B 35 (.slice d71 I.length S) I w/\I.length<=S/\slot V 6= .slice d71 I.length S/\slot V 26= .int .i64 T) fu ?_ ?_
 .refine ⟨ca,none,0,[],([]:List (List Int)),0,ae,rfl,Ext.refl _,aQ.nil _ _ _,Nat.le_refl _,?_⟩;simp only[*,go_sem]
 rintro al gT F' cf ⟨B,d71,S,w,I,T,ae,rfl,W,U,gV,g0,g1⟩;refine fF hJ fun _ a8=>?_;replace P:=P.mono W;replace K:=K.mono W;replace Q:=a8.hd;replace L:=a8.tl.hd;simp only[bq] at a8;obtain ⟨cl,cy,cS⟩:=cf.pick [1,2,3,4,25] (by decide);simp only[*,go_sem] at cl cy cS;clear cf fx hd fz;obtain _|al:=al
 .exact absurd ae (by simp only[aU,reduceCtorEq,not_false_eq_true])
 revert ae;refine bS fun mn h ao=>?_;unfold nB at h;try dsimp only at h
 apply ag hJ;refine ay hJ fun mr=>?_;apply ak hJ;simp only[*,go_sem];apply ag hJ;revert h;refine aY hJ (fun g2 h=>?_) fun g2 h=>?_
 .refine aI hJ (ag hJ ?_);refine aT hJ (ag hJ ?_);refine ay hJ fun mx=>?_;apply ak hJ;simp only[*,go_sem];apply ag hJ;refine ay hJ fun my=>?_;apply ak hJ;simp only[*,go_sem];apply ag hJ;refine ay hJ fun g3=>?_;apply ak hJ;simp only[*,go_sem];refine aA fun z g4 c0=>?_;have m1:=aR.cons c0 g3;try simp only[av] at c0
  apply ag hJ;refine ay hJ fun m2=>?_;apply ak hJ;simp only[*,go_sem];refine ag hJ (ag hJ ?_);refine ay hJ fun na=>?_;apply ak hJ;simp only[*,go_sem];apply aT hJ;revert h;refine bS fun ha R hc=>?_;refine bT hJ (rg 35 23 [8,10,11]) (fun m V F'=>∃(i109:Nat) (d96:Option Addr) (M:Nat) (X:List (Nat×Obj)) (d103:Option Addr) (u:Nat) (C:List (Nat×Obj)) (D:(List Int)) (g:(List bA)),m=u0.told.length - i109/\i109<=u0.told.length/\bE (rF T) i109 (u0.told.drop i109) (D,g)=some ha/\F'=⟨B,(z,bl b.1 c d f (sl d103 g u))::(s,bl b.1 c d f q)::(o,bk u0 s1 i j (sl d24 u0.told k))::(X++(C++w))⟩/\aQ rI B 3 (.slice d96 D.length M) D X/\D.length<=M/\aQ cU B 49 (.slice d103 g.length u) g C/\g.length<=u/\slot V 35= .int .i64 (i109:Int)/\slot V 8= .slice d96 D.length M) u0.told.length ?_ ?_
  .refine ⟨0,none,0,[],none,0,[],([]:List Int),([]:List bA),(Nat.sub_zero _).symm,Nat.zero_le _,R,rfl,aQ.nil _ _ _,Nat.le_refl _,aQ.nil _ _ _,Nat.le_refl _,?_⟩;simp only[*,go_sem]
  rintro nb hf F' a9 ⟨i109,d96,M,X,d103,u,C,D,g,rfl,nd,R,rfl,Y,hg,N,hh,nf,nm⟩;obtain ⟨hi,hj,hk⟩:=a9.pick [1,2,3,4,6,7,9,25,26,27,28,29,30,31,32,33,34] (by decide);simp only[*,go_sem] at hi hj hk;have nn:cL (rg 26 40 (rg 6 6 [])) hf gT:=(a9.gG (by decide)).trans (by simp only[*,go_sem]);clear a9 cl cy cS g0 g1;apply ah hJ;simp only[*,go_sem];apply ag hJ;rcases Nat.lt_or_ge i109 u0.told.length with hl|da
  .refine cw hJ ?_;apply aI hJ;obtain ⟨a,ba⟩:∃x,u0.told[i109]?=some x:=⟨_,List.getElem?_eq_getElem hl⟩
   rw[dw ba] at R;revert R;refine bS fun np h ar=>?_;unfold rF at h;(try dsimp only at h);obtain ⟨E,hn,ho,hp,bb⟩:=K.t.el _ _ ba;obtain rfl:hn=a.cells:=hp;cases ho;have hq:=bb 0 _ rfl;simp only[go_sem] at hq;have hr:=bb 1 _ rfl;simp only[go_sem] at hr;clear bb ba;refine ag hJ (aT hJ (ag hJ ?_));refine ay hJ fun ht=>?_;apply ak hJ;simp only[*,go_sem];refine aA fun F ns db=>?_;have nx:=aR.cons db ht;try simp only[av] at db
   apply ag hJ;refine ay hJ fun nz=>?_;apply ak hJ;revert h;refine bS fun nA dd h=>?_;obtain ⟨nH,hv⟩:=Gj dd;clear dd;(try simp only[go_sem] at hv);simp only[*,go_sem];revert h;refine aY hJ (fun hx h=>?_) fun hx h=>?_
   .refine ay hJ fun df=>?_;refine eI hJ mixed [13] (.pure 0 (.pure 1 (.pure 4 (.pure 5 (.rd 6 (.rd 7 (.two 2 (.two 3 (.one 8 (.one 9 (.pure 10 (.pure 11 (.pure 12 (.last 13 .done)))))) 8 (.one 3 (.one 9 (.pure 10 (.pure 11 (.pure 12 (.last 13 .done))))))) 8 (.one 2 (.one 3 (.one 9 (.pure 10 (.pure 11 (.pure 12 (.last 13 .done)))))))))))))) ⟨B,[(F,.cells #[.int .i64 a.aS,.bool a.bt] 49),(z,bl b.1 c d f (sl d103 g u)),(s,bl b.1 c d f q),(o,bk u0 s1 i j (sl (some E) u0.told k))]⟩ (by simp only[*,go_sem]) (by kernel_rfl) ?_;simp only[*,go_sem];refine k4 ?_ ?_
    .simp only[*,go_sem];refine aA fun O dk dp=>?_;have dq:=aR.cons dp df;try simp only[av] at dp
     simp only[*,go_sem];refine k4 ?_ ?_
     .revert h;refine bS fun hy hz h=>?_;obtain ⟨hA,ds⟩:=dr hz;simp only[*,go_sem];refine dW (r:=rI) (l:=D) (x:=(i109:Int)) (cs:=#[.int .i64 (i109:Int)]) (e2:=3) [(O,ic (i109:Int)),(F,.cells #[.int .i64 a.aS,.bool a.bt] 49),(z,bl b.1 c d f (sl d103 g u)),(s,bl b.1 c d f q),(o,bk u0 s1 i j (sl (some E) u0.told k))] (C++w) Y dq hA rfl (by simp only[*,go_sem]) dk rfl rfl gh gh lV lX rfl lW (by decide) (by decide) (fun nI a0 bc G H hB=>?_);simp only[aV] at H;subst G;rw[<-ds] at bc;clear ds;obtain ⟨d197,hD,rfl,hE⟩:=bc.len;refine ⟨⟨B,(O,ic (i109:Int))::(F,.cells #[.int .i64 a.aS,.bool a.bt] 49)::(z,bl b.1 c d f (sl d103 g u))::(s,bl b.1 c d f q)::(o,bk u0 s1 i j (sl (some E) u0.told k))::(a0++(C++w))⟩,Le.refl _,?_⟩;refine ⟨by simp only[*,go_sem],bV ?_⟩;revert h;refine bS fun hF hG h=>?_;cases h;obtain ⟨hI,dt⟩:=dr hG;simp only[*,go_sem];refine aA fun du hK dv=>?_;have hL:=aR.cons dv hB;try simp only[av] at dv
      simp only[*,go_sem];refine dW (r:=cU) (l:=g) (x:=a) (cs:=#[.int .i64 a.aS,.bool a.bt]) (e2:=49) ((du,.cells #[.int .i64 a.aS,.bool a.bt] 49)::(O,ic (i109:Int))::(F,.cells #[.int .i64 a.aS,.bool a.bt] 49)::(z,bl b.1 c d f (sl d103 g u))::(s,bl b.1 c d f q)::(o,bk u0 s1 i j (sl (some E) u0.told k))::a0) w N hL hI rfl (by simp only[*,go_sem]) hK rfl rfl ep ep iw iz rfl iy (by decide) (by decide) (fun nK dC bd G H nQ=>?_);simp only[aV] at H;subst G;rw[<-dt] at bd;clear dt;obtain ⟨d208,hM,rfl,hN⟩:=bd.len;refine ⟨⟨B,(du,.cells #[.int .i64 a.aS,.bool a.bt] 49)::(O,ic (i109:Int))::(F,.cells #[.int .i64 a.aS,.bool a.bt] 49)::(z,bl b.1 c d f (sl d103 g u))::(s,bl b.1 c d f q)::(o,bk u0 s1 i j (sl (some E) u0.told k))::(a0++(dC++w))⟩,Le.refl _,?_⟩;refine ⟨by simp only[*,go_sem],bV ?_⟩;simp only[*,go_sem];have bj:=cv (n:=i109) (by have:=ab;omega);apply ak hJ;simp only[*,go_sem];refine ⟨u0.told.length - (i109+1),by omega,_,Le.sub (List.Sublist.cons _ (List.Sublist.cons _ (List.Sublist.cons _ (List.Sublist.refl _)))),i109+1,d197,hD,a0,d208,hM,dC,hy,hF,rfl,by omega,ar,rfl,bc,hE,bd,hN,?_⟩;simp only[*,go_sem]
     revert h;refine bS fun hP hQ h=>?_;obtain ⟨hR,dE⟩:=dr hQ;simp only[*,go_sem];refine aA fun a2 hS dT=>?_;have hT:=aR.cons dT dq;try simp only[av] at dT
     simp only[*,go_sem];refine dW (r:=rI) (l:=D) (x:=(i109:Int)) (cs:=#[.int .i64 (i109:Int)]) (e2:=3) [(a2,.cells #[.int .i64 a.aS,.bool a.bt] 49),(O,ic (i109:Int)),(F,.cells #[.int .i64 a.aS,.bool a.bt] 49),(z,bl b.1 c d f (sl d103 g u)),(s,bl b.1 c d f q),(o,bk u0 s1 i j (sl (some E) u0.told k))] (C++w) Y hT hR rfl (by simp only[*,go_sem]) dk rfl rfl gh gh lV lX rfl lW (by decide) (by decide) (fun nR a3 bm G H hV=>?_);simp only[aV] at H;subst G;rw[<-dE] at bm;clear dE;obtain ⟨d219,hX,rfl,hY⟩:=bm.len;refine ⟨⟨B,(a2,.cells #[.int .i64 a.aS,.bool a.bt] 49)::(O,ic (i109:Int))::(F,.cells #[.int .i64 a.aS,.bool a.bt] 49)::(z,bl b.1 c d f (sl d103 g u))::(s,bl b.1 c d f q)::(o,bk u0 s1 i j (sl (some E) u0.told k))::(a3++(C++w))⟩,Le.refl _,?_⟩;refine ⟨by simp only[*,go_sem],bV ?_⟩;revert h;refine bS fun hZ h0 h=>?_;cases h;obtain ⟨h1,ea⟩:=dr h0;simp only[*,go_sem];refine dW (r:=cU) (l:=g) (x:=a) (cs:=#[.int .i64 a.aS,.bool a.bt]) (e2:=49) ((a2,.cells #[.int .i64 a.aS,.bool a.bt] 49)::(O,ic (i109:Int))::(F,.cells #[.int .i64 a.aS,.bool a.bt] 49)::(z,bl b.1 c d f (sl d103 g u))::(s,bl b.1 c d f q)::(o,bk u0 s1 i j (sl (some E) u0.told k))::a3) w N hV h1 rfl (by simp only[*,go_sem]) hS rfl rfl ep ep iw iz rfl iy (by decide) (by decide) (fun nT eb bo G H nV=>?_);simp only[aV] at H;subst G;rw[<-ea] at bo;clear ea;obtain ⟨d228,h2,rfl,h3⟩:=bo.len;refine ⟨⟨B,(a2,.cells #[.int .i64 a.aS,.bool a.bt] 49)::(O,ic (i109:Int))::(F,.cells #[.int .i64 a.aS,.bool a.bt] 49)::(z,bl b.1 c d f (sl d103 g u))::(s,bl b.1 c d f q)::(o,bk u0 s1 i j (sl (some E) u0.told k))::(a3++(eb++w))⟩,Le.refl _,?_⟩;refine ⟨by simp only[*,go_sem],bV ?_⟩;simp only[*,go_sem];have bj:=cv (n:=i109) (by have:=ab;omega);apply ak hJ;simp only[*,go_sem];refine ⟨u0.told.length - (i109+1),by omega,_,Le.sub (List.Sublist.cons _ (List.Sublist.cons _ (List.Sublist.cons _ (List.Sublist.refl _)))),i109+1,d219,hX,a3,d228,h2,eb,hP,hZ,rfl,by omega,ar,rfl,bm,hY,bo,h3,?_⟩;simp only[*,go_sem]
    revert h;refine bS fun h4 h5 h=>?_;obtain ⟨h6,ec⟩:=dr h5;simp only[*,go_sem];refine aA fun a4 h7 ed=>?_;have h8:=aR.cons ed df;try simp only[av] at ed
    simp only[*,go_sem];refine aA fun a5 h9 eh=>?_;have ib:=aR.cons eh h8;try simp only[av] at eh
    simp only[*,go_sem];refine dW (r:=rI) (l:=D) (x:=(i109:Int)) (cs:=#[.int .i64 (i109:Int)]) (e2:=3) [(a5,ic (i109:Int)),(a4,.cells #[.int .i64 a.aS,.bool a.bt] 49),(F,.cells #[.int .i64 a.aS,.bool a.bt] 49),(z,bl b.1 c d f (sl d103 g u)),(s,bl b.1 c d f q),(o,bk u0 s1 i j (sl (some E) u0.told k))] (C++w) Y ib h6 rfl (by simp only[*,go_sem]) h9 rfl rfl gh gh lV lX rfl lW (by decide) (by decide) (fun nX a6 br G H ih=>?_);simp only[aV] at H;subst G;rw[<-ec] at br;clear ec;obtain ⟨d241,ik,rfl,il⟩:=br.len;refine ⟨⟨B,(a5,ic (i109:Int))::(a4,.cells #[.int .i64 a.aS,.bool a.bt] 49)::(F,.cells #[.int .i64 a.aS,.bool a.bt] 49)::(z,bl b.1 c d f (sl d103 g u))::(s,bl b.1 c d f q)::(o,bk u0 s1 i j (sl (some E) u0.told k))::(a6++(C++w))⟩,Le.refl _,?_⟩;refine ⟨by simp only[*,go_sem],bV ?_⟩;revert h;refine bS fun im iv h=>?_;cases h;obtain ⟨ix,et⟩:=dr iv;simp only[*,go_sem];refine dW (r:=cU) (l:=g) (x:=a) (cs:=#[.int .i64 a.aS,.bool a.bt]) (e2:=49) ((a5,ic (i109:Int))::(a4,.cells #[.int .i64 a.aS,.bool a.bt] 49)::(F,.cells #[.int .i64 a.aS,.bool a.bt] 49)::(z,bl b.1 c d f (sl d103 g u))::(s,bl b.1 c d f q)::(o,bk u0 s1 i j (sl (some E) u0.told k))::a6) w N ih ix rfl (by simp only[*,go_sem]) h7 rfl rfl ep ep iw iz rfl iy (by decide) (by decide) (fun nY ev bs G H n0=>?_);simp only[aV] at H;subst G;rw[<-et] at bs;clear et;obtain ⟨jC,j1,rfl,j2⟩:=bs.len;refine ⟨⟨B,(a5,ic (i109:Int))::(a4,.cells #[.int .i64 a.aS,.bool a.bt] 49)::(F,.cells #[.int .i64 a.aS,.bool a.bt] 49)::(z,bl b.1 c d f (sl d103 g u))::(s,bl b.1 c d f q)::(o,bk u0 s1 i j (sl (some E) u0.told k))::(a6++(ev++w))⟩,Le.refl _,?_⟩;refine ⟨by simp only[*,go_sem],bV ?_⟩;simp only[*,go_sem];have bj:=cv (n:=i109) (by have:=ab;omega);apply ak hJ;simp only[*,go_sem];refine ⟨u0.told.length - (i109+1),by omega,_,Le.sub (List.Sublist.cons _ (List.Sublist.cons _ (List.Sublist.cons _ (List.Sublist.refl _)))),i109+1,d241,ik,a6,jC,j1,ev,h4,im,rfl,by omega,ar,rfl,br,il,bs,j2,?_⟩;simp only[*,go_sem]
   cases h;apply aI hJ;have bj:=cv (n:=i109) (by have:=ab;omega);apply ak hJ;simp only[*,go_sem];refine ⟨u0.told.length - (i109+1),by omega,_,Le.sub (List.Sublist.cons _ (List.Sublist.refl _)),i109+1,d96,M,X,d103,u,C,D,g,rfl,by omega,ar,rfl,Y,hg,N,hh,?_⟩;simp only[*,go_sem]
  have n1:=Nat.not_lt.2 da;refine cn hJ ?_;rw[List.drop_eq_nil_of_le da] at R;obtain rfl:=sI R;clear R;have h:=hc;dsimp only[aC] at h;apply bR;simp only[go_sem];apply ag hJ;refine ay hJ fun kh=>?_;apply ak hJ;revert h;refine bS fun n2 kj h=>?_;simp only[*,go_sem];refine bn hJ _ (Cq (⟨b.1.bB,b.1.bH,b.1.aO,b.1.ax,b.1.props,b.1.an,g⟩:aj) ⟨(P.e.mono aL),(P.p.mono aL),(P.y.mono aL),(N.Cc ((z,bl b.1 c d f (sl d103 g u))::(s,bl b.1 c d f q)::(o,bk u0 s1 i j (sl d24 u0.told k))::X) w (by first|rfl|simp only[aV]|(simp only[aV];rfl)) kh)⟩ kj) (aJ ?_);simp only[*,go_sem];revert h;refine aY hJ (fun kk h=>?_) fun kk h=>?_
  .refine ay hJ fun eQ=>?_;obtain ⟨eS,bz,Z,e0,kl⟩:=Y.l5 ((z,bl b.1 c d f (sl d103 g u))::(s,bl b.1 c d f q)::(o,bk u0 s1 i j (sl d24 u0.told k))::(C++w)) [(z,bl b.1 c d f (sl d103 g u)),(s,bl b.1 c d f q),(o,bk u0 s1 i j (sl d24 u0.told k))] (C++w) (by first|rfl|simp only[aV]|(simp only[aV];rfl)) (by first|rfl|simp only[aV]|(simp only[aV];rfl)) eQ (aD.cons g4 (aD.cons Q (aD.cons L (aD.app N.j9 (U.j9)))));clear eQ;refine cz hJ kl ?_;obtain ⟨n3,oi,-⟩:=e0.op;replace Q:=Z.tl.hd;replace L:=Z.tl.tl.hd;replace N:=N.mono bz Z.tl.tl.tl.l;replace U:=U.mono bz Z.tl.tl.tl.r;simp only[bq] at Z;refine ay hJ fun km=>?_;apply ak hJ;revert h;refine bS fun kn kp h=>?_;cases h;obtain ⟨ks,e1⟩:=dr kp;simp only[*,go_sem];refine aA fun e3 kt fa=>?_;have kv:=aR.cons fa km;try simp only[av] at fa
   refine dW (r:=(rL rI)) (l:=I) (x:=D) (cs:=#[.slice d96 D.length M]) (e2:=35) ((e3,.cells #[.slice d96 D.length M] 35)::(z,bl b.1 c d f (sl d103 g u))::(s,bl b.1 c d f q)::(o,bk u0 s1 i j (sl d24 u0.told k))::C) [] U kv ks ⟨_,rfl,e0⟩ (by simp only[*,go_sem]) kt rfl rfl lY lY tc tf rfl td (by decide) (by decide) (fun oj fb b0 G H ox=>?_);simp only[aV] at H;subst G;rw[<-e1] at b0;clear e1;obtain ⟨kx,ky,rfl,k0⟩:=b0.len;refine ⟨⟨eS,(e3,.cells #[.slice d96 D.length M] 35)::(z,bl b.1 c d f (sl d103 g u))::(s,bl b.1 c d f q)::(o,bk u0 s1 i j (sl d24 u0.told k))::(C++fb)⟩,Le.refl _,?_⟩;apply aJ;simp only[*,go_sem];refine ay hJ fun oy=>?_;apply ak hJ;simp only[*,go_sem];refine ⟨al,Nat.lt_succ_self _,_,Le.sub (List.Sublist.cons _ (List.Sublist.cons _ (List.Sublist.cons₂ _ (List.Sublist.cons₂ _ ((List.Sublist.refl _).trans (List.sublist_append_right _ _)))))),eS,kx,ky,fb,kn,(IntKind.i64.wrap (T+1)),ao,rfl,(W.trans bz),b0,k0,?_⟩;simp only[*,go_sem]
  cases h;apply aI hJ;refine ay hJ fun o0=>?_;apply ak hJ;simp only[*,go_sem];refine ⟨al,Nat.lt_succ_self _,_,Le.sub (List.Sublist.cons _ (List.Sublist.cons₂ _ (List.Sublist.cons₂ _ (((List.Sublist.refl _).trans (List.sublist_append_right _ _)).trans (List.sublist_append_right _ _))))),B,d71,S,w,I,(IntKind.i64.wrap (T+1)),ao,rfl,W,U,gV,?_⟩;simp only[*,go_sem]
 cases h;apply bR;simp only[go_sem];obtain rfl:=sI ao;clear ao;have h:=gM;dsimp only[aC] at h;apply ag hJ;refine ay hJ fun ff=>?_;obtain ⟨o1,k2,b1,b2,lb⟩:=U.l5 ((s,bl b.1 c d f q)::(o,bk u0 s1 i j (sl d24 u0.told k))::[]) [(s,bl b.1 c d f q),(o,bk u0 s1 i j (sl d24 u0.told k))] [] (by first|rfl|simp only[aV]|(simp only[aV];rfl)) (by first|rfl|simp only[aV]|(simp only[aV];rfl)) ff (aD.cons Q (aD.cons L (aD.nil _)));clear ff;refine cz hJ lb ?_;obtain ⟨o2,o4,-⟩:=b2.op;replace Q:=b1.hd;replace L:=b1.tl.hd;simp only[bq] at b1;refine de hJ mixed 5 2 (by simp only[*,go_sem]) (by kernel_rfl) ?_;revert h;refine bS fun lh lj h=>?_;obtain ⟨pa,pb,fg⟩:=c5 lj;obtain ⟨pd,pf,lk,ll,fi⟩:=b2.el _ _ fg;obtain ⟨ph,rfl,fl⟩:=ll;obtain ⟨pj,pk,rfl,po,pr,ps⟩:=id fl;cases lk;have ln:=fi 0 _ rfl;simp only[go_sem] at ln;clear fi fg;revert h;refine bS fun lo lr h=>?_;obtain ⟨pt,pv,pw,fp⟩:=qF lr;have fq:(1:Int).toNat<=((I.length:Int)).toNat:=by omega
 have lv:((I.length:Int)).toNat<=S:=by omega
 have px:0<=((I.length:Int)):=by omega
 obtain ⟨py,lx,ly,fr⟩:=az.qI b2 (1:Int).toNat ((I.length:Int)).toNat fq (by omega) fp;simp only[go_sem] at lx ly fq lv;obtain ⟨_,_,lL,pA,pB,pC⟩:=id fr;cases lL;clear fp;revert h;refine bS fun pD l1 h=>?_;cases h;simp only[*,go_sem];refine b6 hJ _ (HW (dY:=94) (eC:=#[]) (eD:=#[]) iV ⟨by simp only[go_sem],fun pL pT l2 _ l3 _ _ l4 ma h=>by simp only[go_sem];exact IQ l2 l4 l3 ma h⟩ lh fl lo fr l1) fun v p0 fs b3 a7=>?_;obtain ⟨p1,rfl,ft⟩:=a7;replace Q:=b3.hd;replace L:=b3.tl.hd;simp only[bq] at b3;obtain ⟨qe,qk,rfl,q0,q1,-⟩:=id ft;have ra:=e9 (l:=[(s,bl b.1 c d f q),(o,bk u0 s1 i j (sl d24 u0.told k))]) fs (aD.cons Q (aD.cons L (aD.nil _)));refine ⟨by simp only[*,go_sem],?_⟩;refine mW ?_;simp only[*,go_sem];apply aE;simp only[*,go_sem];exact ⟨_,(((ad).trans W).trans k2).trans fs,Le.sub (List.nil_sublist _),_,rfl,ft⟩
def pe (a:(cV×Int))(i93:Nat)(b:aP)(st:(List bw)):Option (Fl (List bw) (au×au×Bool×Int)):=
 af (kq a.1.book b) fun c=>af (cG st ([c])) fun d=>some (.nx d)
def iX (u0:aj):Option (au×au×Bool×Int):=
 af (gr u0 ([]:(List (aj->Option Int)))) fun a=>cond ((a.2 != 0)) (some ((⟨0,0⟩:au),(⟨0,0⟩:au),false,a.2)) (af (o9 a.1) fun g=>af (bE (pe a) 0 g ([]:List bw)) fun o=>aC o (fun b=>af (bh b 0) fun c=>af (e8 b 1 (b.length:Int)) fun d=>af (iD fG c d) fun h=>af (iD m9 c d) fun i=>af (jH h.high u0.aO) fun e=>af (jG i.high u0.aO) fun f=>af (eB f e) fun j=>cond (j) (some ((⟨0,0⟩:au),(⟨0,0⟩:au),false,0)) (some (e,f,true,0))) (fun _ _=>none) (fun r=>some r))
theorem yw {ro:Addr->Option Value}(bl:di ro)(u0:aj){s1 f g i:Value}(ab:bQ ro u0 s1 f g i){r:(au×au×Bool×Int)}(h:iX u0=some r):aF Tryz.prog 9 #[bv u0 s1 f g i] ⟨ro,[]⟩ (fun v _=>v= .tuple #[r.1.v,r.2.1.v,.bool r.2.2.1,.int .i64 r.2.2.2]):=by
 unfold iX at h;have bm:=ab.oc;simp only[bJ] at bm;refine aF.go Tryz.func9 rfl Tryz.ntmps9 Tryz.results9 (by simp) fun main J hJ A bo hd hs=>?_;have br:=hs 0;clear hs;apply ah hJ;simp only[*,go_sem];refine aA fun j L bs=>?_;try simp only[av] at bs
 refine aA fun z M bz=>?_;try simp only[av] at bz
 refine aA fun B N b0=>?_;try simp only[av] at b0
 apply ah hJ;revert h;refine bS fun d b1 h=>?_;simp only[*,go_sem];refine b6 hJ _ (ku bl u0 ab ([]:(List (aj->Option Int))) (az.nil _ _) b1) fun v gn gp I O=>?_;obtain ⟨k,o,p,q,s,rfl,D,ad⟩:=O;have b2:=D.oc;simp only[bJ] at b2;have b3:=ad.oc;simp only[bJ] at b3;replace N:=I.hd;replace M:=I.tl.hd;replace L:=I.tl.tl.hd;simp only[bq] at I;apply aJ;simp only[*,go_sem];refine aA fun t ae b4=>?_;try simp only[av] at b4
 refine ag hJ (ah hJ ?_);simp only[*,go_sem];revert h;refine aY hJ (fun b5 h=>?_) fun b5 h=>?_
 .cases h;apply ah hJ;simp only[*,go_sem];apply aE;simp only[*,go_sem]
 refine aI hJ (ag hJ ?_);apply ak hJ;simp only[*,go_sem];refine ag hJ (ah hJ ?_);revert h;refine bS fun u ca h=>?_;simp only[*,go_sem];refine b6 hJ _ (CB d.1 D ad ca) fun v P cb E O=>?_;obtain ⟨gB,rfl,al⟩:=O;replace D:=D.mono cb;replace ae:=E.hd;replace N:=E.tl.hd;replace M:=E.tl.tl.hd;replace L:=E.tl.tl.tl.hd;simp only[bq] at E;obtain ⟨d81,gC,rfl,gM,cd,-⟩:=id al;apply aJ;simp only[*,go_sem];apply aT hJ;revert h;refine bS fun cf w cl=>?_;refine bT hJ (rg 25 12 [7,9]) (fun m ao F'=>∃(i93:Nat) (d87:Option Addr) (G:Nat) (Q:List (Nat×Obj)) (e:(List bw)),m=u.length - i93/\i93<=u.length/\bE (pe d) i93 (u.drop i93) e=some cf/\F'=⟨P,(t,kn d.1 k o p q s)::(B,rt 0 0)::(z,rt 0 0)::(j,bk u0 s1 f g i)::Q⟩/\aQ k6 P 109 (.slice d87 e.length G) e Q/\e.length<=G/\slot ao 25= .int .i64 (i93:Int)/\slot ao 7= .slice d87 e.length G) u.length ?_ ?_
 .refine ⟨0,none,0,[],([]:List bw),(Nat.sub_zero _).symm,Nat.zero_le _,w,rfl,aQ.nil _ _ _,Nat.le_refl _,?_⟩;simp only[*,go_sem]
 rintro gT gV F' ar ⟨i93,d87,G,Q,e,rfl,g0,w,rfl,a0,g1,g2,g3⟩;obtain ⟨cy,cS,c0⟩:=ar.pick [1,2,3,4,5,6,23,24] (by decide);simp only[*,go_sem] at cy cS c0;clear ar bo hd br;apply ah hJ;simp only[*,go_sem];apply ag hJ;rcases Nat.lt_or_ge i93 u.length with da|a2
 .refine cw hJ ?_;apply aI hJ;obtain ⟨C,R⟩:∃x,u[i93]?=some x:=⟨_,List.getElem?_eq_getElem da⟩
  rw[dw R] at w;revert w;refine bS fun g4 h db=>?_;unfold pe at h;try dsimp only at h
  obtain ⟨ha,dd,df,dk,S⟩:=al.el _ _ R;obtain rfl:dd=C.cells:=dk;cases df;have dp:=S 0 _ rfl;simp only[go_sem] at dp;have dq:=S 1 _ rfl;simp only[go_sem] at dq;clear S R;refine ag hJ (aT hJ (ag hJ ?_));refine ay hJ fun ds=>?_;apply ak hJ;simp only[*,go_sem];refine aA fun a3 hc a4=>?_;have hf:=aR.cons a4 ds;try simp only[av] at a4
  refine ay hJ fun dt=>?_;apply ak hJ;revert h;refine bS fun a du h=>?_;simp only[*,go_sem];refine bn hJ _ (tK d.1.book (D.mono aL) C du) (aJ ?_);revert h;refine bS fun dv dC h=>?_;cases h;obtain ⟨dE,a5⟩:=dr dC;simp only[*,go_sem];refine aA fun a6 dT a7=>?_;have ea:=aR.cons a7 dt;try simp only[av] at a7
  refine dW (r:=k6) (l:=e) (x:=a) (cs:=#[.int .i64 a.spot.aM,.int .i64 a.spot.high.num,.int .i64 a.spot.high.den,.int .i64 a.at_,.int .i64 a.high.num,.int .i64 a.high.den]) (e2:=109) [(a6,.cells #[.int .i64 a.spot.aM,.int .i64 a.spot.high.num,.int .i64 a.spot.high.den,.int .i64 a.at_,.int .i64 a.high.num,.int .i64 a.high.den] 109),(a3,.cells #[.int .i64 C.back,.int .i64 C.high] 105),(t,kn d.1 k o p q s),(B,rt 0 0),(z,rt 0 0),(j,bk u0 s1 f g i)] [] a0 ea dE rfl (by simp only[*,go_sem]) dT rfl rfl oG oG xd xg rfl xe (by decide) (by decide) (fun hg a8 T eb ec hh=>?_);simp only[aV] at ec;subst eb;rw[<-a5] at T;clear a5;obtain ⟨d115,ed,rfl,eh⟩:=T.len;refine ⟨⟨P,(a6,.cells #[.int .i64 a.spot.aM,.int .i64 a.spot.high.num,.int .i64 a.spot.high.den,.int .i64 a.at_,.int .i64 a.high.num,.int .i64 a.high.den] 109)::(a3,.cells #[.int .i64 C.back,.int .i64 C.high] 105)::(t,kn d.1 k o p q s)::(B,rt 0 0)::(z,rt 0 0)::(j,bk u0 s1 f g i)::a8⟩,Le.refl _,?_⟩;apply aJ;simp only[*,go_sem];have hi:=cv (n:=i93) (by have:=cd;omega);apply ak hJ;simp only[*,go_sem];refine ⟨u.length - (i93+1),by omega,_,Le.sub (List.Sublist.cons _ (List.Sublist.cons _ (List.Sublist.refl _))),i93+1,d115,ed,a8,dv,rfl,by omega,db,rfl,T,eh,?_⟩;simp only[*,go_sem]
 have hj:=Nat.not_lt.2 a2;refine cn hJ ?_;rw[List.drop_eq_nil_of_le a2] at w;obtain rfl:=sI w;clear w;have h:=cl;dsimp only[aC] at h;apply bR;simp only[go_sem];apply ag hJ;refine ay hJ fun a9=>?_;obtain ⟨K,hk,et,U,ev⟩:=a0.eR [(t,kn d.1 k o p q s),(B,rt 0 0),(z,rt 0 0),(j,bk u0 s1 f g i)] [] a9 (aD.cons ae (aD.cons N (aD.cons M (aD.cons L (aD.nil _)))));clear a9;refine cz hJ ev ?_;obtain ⟨hl,hn,-⟩:=U.op;simp only[bq] at et;refine fE hJ mixed 6 ⟨K,[(t,kn d.1 k o p q s),(B,rt 0 0),(z,rt 0 0),(j,bk u0 s1 f g i)]⟩ (by simp only[*,go_sem]) (by kernel_rfl) ?_;revert h;refine bS fun V eQ h=>?_;obtain ⟨ho,hp,ba⟩:=c5 eQ;obtain ⟨hq,eS,e0,e1,y⟩:=U.el _ _ ba;obtain rfl:eS=V.cells:=e1;cases e0;have e3:=y 0 _ rfl;simp only[go_sem] at e3;have fa:=y 1 _ rfl;simp only[go_sem] at fa;have fb:=y 2 _ rfl;simp only[go_sem] at fb;have ff:=y 3 _ rfl;simp only[go_sem] at ff;have fg:=y 4 _ rfl;simp only[go_sem] at fg;have fi:=y 5 _ rfl;simp only[go_sem] at fi;clear y ba;revert h;refine bS fun bb fl h=>?_;obtain ⟨hr,ht,hv,bc⟩:=qF fl;have bd:(1:Int).toNat<=((e.length:Int)).toNat:=by omega
 have fp:((e.length:Int)).toNat<=G:=by omega
 have hx:0<=((e.length:Int)):=by omega
 obtain ⟨d132,fq,fr,W⟩:=az.qI U (1:Int).toNat ((e.length:Int)).toNat bd (by omega) bc;simp only[go_sem] at fq fr bd fp;obtain ⟨_,_,fs,hy,hz,hA⟩:=id W;cases fs;clear bc;revert h;refine bS fun b ft h=>?_;simp only[*,go_sem];refine ⟨_,bI hJ fun F H=>tD (dY:=59) (eC:=#[]) (eD:=#[]) fG ⟨by simp only[go_sem],fun fu fv X Y _ h=>by simp only[go_sem];exact tw X Y h⟩ V bb (W.mono (cp H)) ft,?_⟩;simp only[*,go_sem];refine aA fun Z hB fw=>?_;try simp only[av] at fw
 simp only[*,go_sem];apply ag hJ;refine fE hJ mixed 6 ⟨K,[(Z,.cells #[.int .i64 b.spot.aM,.int .i64 b.spot.high.num,.int .i64 b.spot.high.den,.int .i64 b.at_,.int .i64 b.high.num,.int .i64 b.high.den] 109),(t,kn d.1 k o p q s),(B,rt 0 0),(z,rt 0 0),(j,bk u0 s1 f g i)]⟩ (by simp only[*,go_sem]) (by kernel_rfl) ?_;revert h;refine bS fun c fx h=>?_;simp only[*,go_sem];refine ⟨_,bI hJ fun F H=>tD (dY:=60) (eC:=#[]) (eD:=#[]) m9 ⟨by simp only[go_sem],fun fu fv X Y _ h=>by simp only[go_sem];exact HP X Y h⟩ V bb (W.mono (cp H)) fx,?_⟩;simp only[*,go_sem];refine aA fun bj hD fz=>?_;try simp only[av] at fz
 simp only[*,go_sem];apply ag hJ;refine fE hJ mixed 10 ⟨K,[(bj,.cells #[.int .i64 c.spot.aM,.int .i64 c.spot.high.num,.int .i64 c.spot.high.den,.int .i64 c.at_,.int .i64 c.high.num,.int .i64 c.high.den] 109),(Z,.cells #[.int .i64 b.spot.aM,.int .i64 b.spot.high.num,.int .i64 b.spot.high.den,.int .i64 b.at_,.int .i64 b.high.num,.int .i64 b.high.den] 109),(t,kn d.1 k o p q s),(j,bk u0 s1 f g i)]⟩ (by simp only[*,go_sem]) (by kernel_rfl) ?_;revert h;refine bS fun fP fQ h=>?_;simp only[*,go_sem];refine ⟨_,bI hJ fun F H=>q3 b.high u0.aO fQ,ck ?_⟩;revert h;refine bS fun fS fU h=>?_;simp only[*,go_sem];refine ⟨_,bI hJ fun F H=>q2 c.high u0.aO fU,?_⟩;simp only[*,go_sem];refine ag hJ (ah hJ ?_);revert h;refine bS fun hE gg h=>?_;simp only[*,go_sem];refine bn hJ _ (jF fS fP gg) ?_;revert h;refine aY hJ (fun gl h=>?_) fun gl h=>?_
 .cases h;apply ah hJ;simp only[*,go_sem];apply aE;simp only[*,go_sem]
 refine aI hJ (ag hJ ?_);refine eI hJ mixed [] (.two 0 (.two 1 (.one 2 (.one 3 (.pure 4 (.pure 5 .done)))) 2 (.one 1 (.one 3 (.pure 4 (.pure 5 .done))))) 1 (.one 0 (.one 2 (.one 3 (.pure 4 (.pure 5 .done)))))) ⟨K,[(bj,.cells #[.int .i64 c.spot.aM,.int .i64 c.spot.high.num,.int .i64 c.spot.high.den,.int .i64 c.at_,.int .i64 c.high.num,.int .i64 c.high.den] 109),(Z,.cells #[.int .i64 b.spot.aM,.int .i64 b.spot.high.num,.int .i64 b.spot.high.den,.int .i64 b.at_,.int .i64 b.high.num,.int .i64 b.high.den] 109),(t,kn d.1 k o p q s),(j,bk u0 s1 f g i)]⟩ (by simp only[*,go_sem]) (by kernel_rfl) ?_;simp only[*,go_sem];refine k4 ?_ ?_
 .simp only[*,go_sem];refine k4 ?_ ?_
  .cases h;simp only[*,go_sem];apply aE;simp only[*,go_sem]
  cases h;simp only[*,go_sem];apply aE;simp only[*,go_sem]
 cases h;simp only[*,go_sem];apply aE;simp only[*,go_sem]
def jM (u0:aj)(b:Int):Option ((List Int)×Int):=
 af (gr u0 ([(eY b)])) fun a=>cond ((a.2 != 0)) (some (([]:(List Int)),a.2)) (af (mg a.1 b) fun c=>some (c,0))
theorem rG {ro:Addr->Option Value}(g:di ro)(u0:aj){s1 i j k:Value}(f:bQ ro u0 s1 i j k)(a:Int){r:((List Int)×Int)}(h:jM u0 a=some r):eW Tryz.prog 21 #[bv u0 s1 i j k,.int .i64 a] ro (fun v aN=>∃m,v= .tuple #[m,.int .i64 r.2]/\az rI aN m r.1):=by
 unfold jM at h;have D:=f.oc;simp only[bJ] at D;refine aF.go Tryz.func21 rfl Tryz.ntmps21 Tryz.results21 (by simp) fun main J hJ A Y hd hs=>?_;have Z:=hs 0;have k1:=hs 1;clear hs;apply ah hJ;simp only[*,go_sem];refine aA fun E F G=>?_;try simp only[av] at G
 apply ag hJ;refine ay hJ fun H=>?_;apply ak hJ;revert h;refine bS fun I K h=>?_;simp only[*,go_sem];refine aA fun c n p=>?_;have q:=aR.cons p H;try simp only[av] at p
 obtain ⟨d,s,t⟩:=gj (b:=c) (o:=(.cells #[.func (.func 83) #[.int .i64 a] #[]] 120)) [] ((E,bk u0 s1 i j k)::[]) q n (aD.cons F (aD.nil _));have u:az (dh) (bU ro c (.cells #[.func (.func 83) #[.int .i64 a] #[]] 120)) (.slice (some ⟨c,0,none⟩) 1 1) [(eY a)]:=(az.one (r:=(dh)) (e:=120) (cs:=#[.func (.func 83) #[.int .i64 a] #[]]) (x:=(eY a)) (own:=[(c,.cells #[.func (.func 83) #[.int .i64 a] #[]] 120)]) n (by simp[lk]) ⟨83,#[.int .i64 a],#[],rfl,⟨by simp only[go_sem],fun ab ad L _ _ _ _ _ M N O P h=>by simp only[go_sem];exact tC a L ⟨M,N,O,P⟩ h⟩⟩)
 generalize bU ro c (.cells #[.func (.func 83) #[.int .i64 a] #[]] 120)=ae at u s d t;refine iu hJ t ?_;replace f:=f.mono d;replace g:=g.mono d;simp only[bq] at s;have Q:=aR.tl q;refine b6 hJ _ (ku g u0 f ([(eY a)]) u K) fun v al w R l=>?_;obtain ⟨ao,ar,a0,a2,a3,rfl,y,z⟩:=l;have S:=y.oc;simp only[bJ] at S;have T:=z.oc;simp only[bJ] at T;simp only[bq] at R;apply aJ;simp only[*,go_sem];refine aA fun a4 a5 B=>?_;have a6:=aR.cons B Q;try simp only[av] at B
 refine ag hJ (ah hJ ?_);simp only[*,go_sem];revert h;refine aY hJ (fun U h=>?_) fun U h=>?_
 .cases h;apply ah hJ;simp only[*,go_sem];apply aE;simp only[*,go_sem];exact ⟨_,(d).trans w,Le.sub (List.nil_sublist _),_,rfl,az.nil _ _⟩
 refine aI hJ (ag hJ ?_);apply ak hJ;revert h;refine bS fun a7 V h=>?_;cases h;simp only[*,go_sem];refine b6 hJ _ (uD I.1 y z a V) fun v a8 W X l=>?_;obtain ⟨a9,rfl,C⟩:=l;simp only[bq] at X;obtain ⟨d89,ba,rfl,bb,bc,-⟩:=id C;apply aJ;simp only[*,go_sem];apply aE;simp only[*,go_sem];exact ⟨_,((d).trans w).trans W,Le.sub (List.nil_sublist _),_,rfl,C⟩
def nC (a:(cV×Int))(i80:Nat)(i102:Nat)(c:Int)(st:(Int×au)):Option (Fl (Int×au) (Int×au×Int)):=
 af (iC a.1.book (i80:Int) c) fun b=>af (gq a.1.book b) fun d=>cond (d) (af (lf a.1.book b) fun e=>af (eB st.2 e) fun f=>cond (f) (af (lf a.1.book b) fun g=>some (.nx ((i80:Int),g))) (some (.nx (st.1,st.2)))) (some (.nx (st.1,st.2)))
def rH (a:(cV×Int))(i80:Nat)(d:bO)(st:(Int×au)):Option (Fl (Int×au) (Int×au×Int)):=
 af (mg a.1 (i80:Int)) fun c=>af (bE (nC a i80) 0 c (st.1,st.2)) fun o=>aC o (fun b=>some (.nx (b.1,b.2))) (fun _ _=>none) (fun r=>some (.rt r))
def jN (u0:aj):Option (Int×au×Int):=
 af (gr u0 ([]:(List (aj->Option Int)))) fun a=>cond ((a.2 != 0)) (some (0,(⟨0,0⟩:au),a.2)) (af (gk 0) fun c=>af (bE (rH a) 0 a.1.book.an ((-1),c)) fun o=>aC o (fun b=>some (b.1,b.2,0)) (fun _ _=>none) (fun r=>some r))
theorem uF {ro:Addr->Option Value}(ar:di ro)(u0:aj){s1 j k l:Value}(R:bQ ro u0 s1 j k l){r:(Int×au×Int)}(h:jN u0=some r):aF Tryz.prog 23 #[bv u0 s1 j k l] ⟨ro,[]⟩ (fun v _=>v= .tuple #[.int .i64 r.1,r.2.1.v,.int .i64 r.2.2]):=by
 unfold jN at h;have a0:=R.oc;simp only[bJ] at a0;refine aF.go Tryz.func23 rfl Tryz.ntmps23 Tryz.results23 (by simp) fun main J hJ A a2 hd hs=>?_;have a3:=hs 0;clear hs;apply ah hJ;simp only[*,go_sem];refine aA fun w ev a4=>?_;try simp only[av] at a4
 refine aA fun z eQ a5=>?_;try simp only[av] at a5
 apply ah hJ;revert h;refine bS fun a a6 h=>?_;simp only[*,go_sem];refine b6 hJ _ (ku ar u0 R ([]:(List (aj->Option Int))) (az.nil _ _) a6) fun v S eS a7 B=>?_;obtain ⟨C,D,e0,E,G,rfl,b,p⟩:=B;have a8:=b.oc;simp only[bJ] at a8;have a9:=p.oc;simp only[bJ] at a9;simp only[bq] at a7;obtain ⟨d52,H,rfl,e1,ba,-⟩:=id b.y;apply aJ;simp only[*,go_sem];refine aA fun I e2 bb=>?_;try simp only[av] at bb
 refine ag hJ (ah hJ ?_);simp only[*,go_sem];revert h;refine aY hJ (fun bc h=>?_) fun bc h=>?_
 .cases h;apply ah hJ;simp only[*,go_sem];apply aE;simp only[*,go_sem]
 refine aI hJ (ag hJ ?_);apply ak hJ;revert h;refine bS fun bd bj h=>?_;simp only[*,go_sem];refine bn hJ _ (ko 0 bj) (aJ ?_);simp only[*,go_sem];refine ag hJ (ah hJ ?_);simp only[*,go_sem];apply aT hJ;revert h;refine bS fun bl e bm=>?_;refine bT hJ (rg 25 35 [2,6,8,9]) (fun m o F'=>∃(i80:Nat) (q:Addr->Option Value) (s:Int) (f:au),m=a.1.book.an.length - i80/\i80<=a.1.book.an.length/\bE (rH a) i80 (a.1.book.an.drop i80) (s,f)=some bl/\F'=⟨q,(I,kn a.1 C D (sl d52 a.1.book.an H) E G)::(z,rt f.num f.den)::(w,bk u0 s1 j k l)::[]⟩/\Ext S q/\slot o 25= .int .i64 (i80:Int)/\slot o 2= .int .i64 s) a.1.book.an.length ?_ ?_
 .refine ⟨0,S,(-1),bd,(Nat.sub_zero _).symm,Nat.zero_le _,e,rfl,Ext.refl _,?_⟩;simp only[*,go_sem]
 rintro e3 bo F' T ⟨i80,q,s,f,rfl,fa,e,rfl,K,br,bs⟩;refine fF hJ fun _ bz=>?_;replace b:=b.mono K;replace p:=p.mono K;simp only[bq] at bz;obtain ⟨U,V,W⟩:=T.pick [3,4,5,24] (by decide);simp only[*,go_sem] at U V W;clear T a2 hd a3;apply ah hJ;simp only[*,go_sem];apply ag hJ;rcases Nat.lt_or_ge i80 a.1.book.an.length with b0|X
 .refine cw hJ ?_;apply aI hJ;obtain ⟨b1,L⟩:∃x,a.1.book.an[i80]?=some x:=⟨_,List.getElem?_eq_getElem b0⟩
  rw[dw L] at e;revert e;refine bS fun fb h b2=>?_;unfold rH at h;try dsimp only at h
  obtain ⟨b3,b4,b5,ca,t⟩:=b.y.el _ _ L;obtain rfl:b4=b1.cells:=ca;cases b5;have cb:=t 0 _ rfl;simp only[go_sem] at cb;have cd:=t 1 _ rfl;simp only[go_sem] at cd;have cf:=t 2 _ rfl;simp only[go_sem] at cf;clear t L;refine ag hJ (aT hJ (ag hJ ?_));apply ak hJ;simp only[*,go_sem];apply ah hJ;revert h;refine bS fun c cl h=>?_;simp only[*,go_sem];refine b6 hJ _ (uD a.1 b p (i80:Int) cl) fun v Y Z cy B=>?_;obtain ⟨ff,rfl,ab⟩:=B;replace b:=b.mono Z;simp only[bq] at cy;obtain ⟨d95,fg,rfl,fi,M,-⟩:=id ab;apply aJ;simp only[*,go_sem];apply aT hJ;revert h;refine bS fun c0 g da=>?_;refine bT hJ (rg 32 27 [2,8,9]) (fun m o F'=>∃(i102:Nat) (i:Int) (d:au),m=c.length - i102/\i102<=c.length/\bE (nC a i80) i102 (c.drop i102) (i,d)=some c0/\F'=⟨Y,(I,kn a.1 C D (sl (some b3) a.1.book.an H) E G)::(z,rt d.num d.den)::(w,bk u0 s1 j k l)::[]⟩/\slot o 32= .int .i64 (i102:Int)/\slot o 2= .int .i64 i) c.length ?_ ?_
  .refine ⟨0,s,f,(Nat.sub_zero _).symm,Nat.zero_le _,g,rfl,?_⟩;simp only[*,go_sem]
  rintro fl db F' N ⟨i102,i,d,rfl,fp,g,rfl,fq,fr⟩;obtain ⟨dd,df,dk⟩:=N.pick [3,4,5,6,24,25,26,27,28,29,30,31] (by decide);simp only[*,go_sem] at dd df dk;have fs:cL (rg 25 35 [2,6,8,9]) db bo:=(N.gG (by decide)).trans (by simp only[*,go_sem]);clear N U V W bs br;apply ah hJ;simp only[*,go_sem];apply ag hJ;rcases Nat.lt_or_ge i102 c.length with dp|ad
  .refine cw hJ ?_;apply aI hJ;obtain ⟨ae,O⟩:∃x,c[i102]?=some x:=⟨_,List.getElem?_eq_getElem dp⟩
   rw[dw O] at g;revert g;refine bS fun ft h P=>?_;unfold nC at h;(try dsimp only at h);obtain ⟨fu,dq,ds,dt,al⟩:=ab.el _ _ O;obtain rfl:dq=[.int .i64 ae]:=dt;cases ds;have du:=al 0 _ rfl;simp only[go_sem] at du;clear al O;refine ag hJ (aT hJ (ag hJ ?_));apply ak hJ;simp only[*,go_sem];apply ah hJ;revert h;refine bS fun Q dv h=>?_;simp only[*,go_sem];refine bn hJ _ (m8 a.1.book (b.mono aL) (i80:Int) ae dv) (aJ ?_);simp only[*,go_sem];refine aA fun fv fw dC=>?_;try simp only[av] at dC
   apply ag hJ;refine de hJ mixed 12 4 (by simp only[*,go_sem]) (by kernel_rfl) ?_;revert h;refine bS fun fx dE h=>?_;simp only[*,go_sem];refine ⟨_,bI hJ fun F u=>nt a.1.book (b.mono (cp u)) Q dE,ck ?_⟩;revert h;refine cS (fun dT h=>?_) fun dT h=>?_
   .revert h;refine bS fun ea eb h=>?_;simp only[*,go_sem];refine ⟨_,bI hJ fun F u=>tL a.1.book (b.mono (cp u)) Q eb,ck ?_⟩;revert h;refine bS fun fz ec h=>?_;simp only[*,go_sem];refine ⟨_,bI hJ fun F u=>jF d ea ec,ck ?_⟩;simp only[*,go_sem];revert h;refine aY hJ (fun ed h=>?_) fun ed h=>?_
    .apply ak hJ;revert h;refine bS fun eh et h=>?_;cases h;simp only[*,go_sem];refine bn hJ _ (tL a.1.book (b.mono aL) Q et) (aJ ?_);simp only[*,go_sem];have ao:=cv (n:=i102) (by have:=M;omega);apply ak hJ;simp only[*,go_sem];refine ⟨c.length - (i102+1),by omega,_,Le.sub (List.Sublist.cons _ (List.Sublist.refl _)),i102+1,(i80:Int),eh,rfl,by omega,P,rfl,?_⟩;simp only[*,go_sem]
    cases h;apply aI hJ;have ao:=cv (n:=i102) (by have:=M;omega);apply ak hJ;simp only[*,go_sem];refine ⟨c.length - (i102+1),by omega,_,Le.sub (List.Sublist.cons _ (List.Sublist.refl _)),i102+1,i,d,rfl,by omega,P,rfl,?_⟩;simp only[*,go_sem]
   cases h;simp only[*,go_sem];refine cn hJ ?_;apply aI hJ;have ao:=cv (n:=i102) (by have:=M;omega);apply ak hJ;simp only[*,go_sem];refine ⟨c.length - (i102+1),by omega,_,Le.sub (List.Sublist.cons _ (List.Sublist.refl _)),i102+1,i,d,rfl,by omega,P,rfl,?_⟩;simp only[*,go_sem]
  have fP:=Nat.not_lt.2 ad;refine cn hJ ?_;rw[List.drop_eq_nil_of_le ad] at g;obtain rfl:=sI g;clear g;have h:=da;dsimp only[aC] at h;cases h;apply bR;simp only[go_sem];have fQ:=cv (n:=i80) (by have:=ba;omega);apply ak hJ;simp only[*,go_sem];refine ⟨a.1.book.an.length - (i80+1),by omega,_,Le.sub (List.Sublist.refl _),i80+1,Y,i,d,rfl,by omega,b2,rfl,(K.trans Z),?_⟩;simp only[*,go_sem]
 have fS:=Nat.not_lt.2 X;refine cn hJ ?_;rw[List.drop_eq_nil_of_le X] at e;obtain rfl:=sI e;clear e;have h:=bm;dsimp only[aC] at h;cases h;apply bR;simp only[go_sem];apply ag hJ;refine eI hJ mixed [3,4] (.pure 0 (.rd 1 (.pure 2 (.last 3 (.pure 4 .done))))) ⟨q,[(I,kn a.1 C D (sl d52 a.1.book.an H) E G),(z,rt f.num f.den),(w,bk u0 s1 j k l)]⟩ (by simp only[*,go_sem]) (by kernel_rfl) ?_;simp only[*,go_sem];apply aE;simp only[*,go_sem]
def pg (b:Int)(a:(cV×Int))(i103:Nat)(c:Int)(st:(List au)):Option (Fl (List au) (au×au×Int)):=
 af (iC a.1.book b c) fun d=>af (nj a.1.book d) fun e=>af (cG st ([e])) fun f=>some (.nx f)
def iY (u0:aj)(b:Int):Option (au×au×Int):=
 af (gr u0 ([(eY b)])) fun a=>cond ((a.2 != 0)) (some ((⟨0,0⟩:au),(⟨0,0⟩:au),a.2)) (af (mg a.1 b) fun f=>af (bE (pg b a) 0 f ([]:List au)) fun o=>aC o (fun c=>af (bh c 0) fun d=>af (e8 c 1 (c.length:Int)) fun e=>af (gm nc d e) fun g=>af (gm eB d e) fun h=>some (g,h,0)) (fun _ _=>none) (fun r=>some r))
theorem yx {ro:Addr->Option Value}(S:di ro)(u0:aj){s1 f g i:Value}(P:bQ ro u0 s1 f g i)(a:Int){r:(au×au×Int)}(h:iY u0 a=some r):aF Tryz.prog 22 #[bv u0 s1 f g i,.int .i64 a] ⟨ro,[]⟩ (fun v _=>v= .tuple #[r.1.v,r.2.1.v,.int .i64 r.2.2]):=by
 unfold iY at h;have b3:=P.oc;simp only[bJ] at b3;refine aF.go Tryz.func22 rfl Tryz.ntmps22 Tryz.results22 (by simp) fun main J hJ A b4 hd hs=>?_;have b5:=hs 0;have k1:=hs 1;clear hs;apply ah hJ;simp only[*,go_sem];refine aA fun j G ca=>?_;try simp only[av] at ca
 refine aA fun t H cb=>?_;try simp only[av] at cb
 refine aA fun u I cd=>?_;try simp only[av] at cd
 apply ag hJ;refine ay hJ fun cf=>?_;apply ak hJ;revert h;refine bS fun d cl h=>?_;simp only[*,go_sem];refine aA fun K al ao=>?_;have ar:=aR.cons ao cf;try simp only[av] at ao
 obtain ⟨T,L,a0⟩:=gj (b:=K) (o:=(.cells #[.func (.func 83) #[.int .i64 a] #[]] 120)) [] ((u,rt 0 0)::(t,rt 0 0)::(j,bk u0 s1 f g i)::[]) ar al (aD.cons I (aD.cons H (aD.cons G (aD.nil _))));have a2:az (dh) (bU ro K (.cells #[.func (.func 83) #[.int .i64 a] #[]] 120)) (.slice (some ⟨K,0,none⟩) 1 1) [(eY a)]:=(az.one (r:=(dh)) (e:=120) (cs:=#[.func (.func 83) #[.int .i64 a] #[]]) (x:=(eY a)) (own:=[(K,.cells #[.func (.func 83) #[.int .i64 a] #[]] 120)]) al (by simp[lk]) ⟨83,#[.int .i64 a],#[],rfl,⟨by simp only[go_sem],fun a3 a4 M _ _ _ _ _ cy cS c0 da h=>by simp only[go_sem];exact tC a M ⟨cy,cS,c0,da⟩ h⟩⟩)
 generalize bU ro K (.cells #[.func (.func 83) #[.int .i64 a] #[]] 120)=gn at a2 L T a0;refine iu hJ a0 ?_;replace P:=P.mono T;replace I:=L.hd;replace H:=L.tl.hd;replace G:=L.tl.tl.hd;replace S:=S.mono T;simp only[bq] at L;have db:=aR.tl ar;refine b6 hJ _ (ku S u0 P ([(eY a)]) a2 cl) fun v gp gB Q U=>?_;obtain ⟨w,y,z,B,C,rfl,D,a5⟩:=U;have dd:=D.oc;simp only[bJ] at dd;have df:=a5.oc;simp only[bJ] at df;replace I:=Q.hd;replace H:=Q.tl.hd;replace G:=Q.tl.tl.hd;simp only[bq] at Q;apply aJ;simp only[*,go_sem];refine aA fun E a6 a7=>?_;have gC:=aR.cons a7 db;try simp only[av] at a7
 refine ag hJ (ah hJ ?_);simp only[*,go_sem];revert h;refine aY hJ (fun dk h=>?_) fun dk h=>?_
 .cases h;apply ah hJ;simp only[*,go_sem];apply aE;simp only[*,go_sem]
 refine aI hJ (ag hJ ?_);apply ak hJ;simp only[*,go_sem];refine ag hJ (ah hJ ?_);revert h;refine bS fun k dp h=>?_;simp only[*,go_sem];refine b6 hJ _ (uD d.1 D a5 a dp) fun v R dq N U=>?_;obtain ⟨gM,rfl,a8⟩:=U;replace D:=D.mono dq;replace a6:=N.hd;replace I:=N.tl.hd;replace H:=N.tl.tl.hd;replace G:=N.tl.tl.tl.hd;simp only[bq] at N;obtain ⟨d91,gT,rfl,gV,ds,-⟩:=id a8;apply aJ;simp only[*,go_sem];apply aT hJ;revert h;refine bS fun dt p du=>?_;refine bT hJ (rg 29 16 [8,10]) (fun m a9 F'=>∃(i103:Nat) (d97:Option Addr) (O:Nat) (V:List (Nat×Obj)) (c:(List au)),m=k.length - i103/\i103<=k.length/\bE (pg a d) i103 (k.drop i103) c=some dt/\F'=⟨R,(E,kn d.1 w y z B C)::(u,rt 0 0)::(t,rt 0 0)::(j,bk u0 s1 f g i)::V⟩/\aQ l6 R 23 (.slice d97 c.length O) c V/\c.length<=O/\slot a9 29= .int .i64 (i103:Int)/\slot a9 8= .slice d97 c.length O) k.length ?_ ?_
 .refine ⟨0,none,0,[],([]:List au),(Nat.sub_zero _).symm,Nat.zero_le _,p,rfl,aQ.nil _ _ _,Nat.le_refl _,?_⟩;simp only[*,go_sem]
 rintro g0 g1 F' ba ⟨i103,d97,O,V,c,rfl,g2,p,rfl,bb,g3,g4,ha⟩;obtain ⟨dv,dC,dE⟩:=ba.pick [1,4,5,6,7,27,28] (by decide);simp only[*,go_sem] at dv dC dE;clear ba b4 hd b5 k1;apply ah hJ;simp only[*,go_sem];apply ag hJ;rcases Nat.lt_or_ge i103 k.length with dT|bc
 .refine cw hJ ?_;apply aI hJ;obtain ⟨bd,W⟩:∃x,k[i103]?=some x:=⟨_,List.getElem?_eq_getElem dT⟩
  rw[dw W] at p;revert p;refine bS fun hc h ea=>?_;unfold pg at h;try dsimp only at h
  obtain ⟨hf,eb,ec,ed,bj⟩:=a8.el _ _ W;obtain rfl:eb=[.int .i64 bd]:=ed;cases ec;have eh:=bj 0 _ rfl;simp only[go_sem] at eh;clear bj W;refine ag hJ (aT hJ (ag hJ ?_));refine ay hJ fun hg=>?_;apply ak hJ;simp only[*,go_sem];refine ay hJ fun et=>?_;refine fE hJ mixed 9 ⟨R,[(E,kn d.1 w y z B C),(u,rt 0 0),(t,rt 0 0),(j,bk u0 s1 f g i)]⟩ (by simp only[*,go_sem]) (by kernel_rfl) ?_;revert h;refine bS fun ev eQ h=>?_;simp only[*,go_sem];refine ⟨_,bI hJ fun F q=>m8 d.1.book (D.mono (cp q)) a bd eQ,ck ?_⟩;revert h;refine bS fun s eS h=>?_;simp only[*,go_sem];refine ⟨_,bI hJ fun F q=>Cj d.1.book (D.mono (cp q)) ev eS,?_⟩;revert h;refine bS fun e0 e1 h=>?_;cases h;obtain ⟨e3,bl⟩:=dr e1;simp only[*,go_sem];refine aA fun bm fa bo=>?_;have fb:=aR.cons bo et;try simp only[av] at bo
  simp only[*,go_sem];refine dW (r:=l6) (l:=c) (x:=s) (cs:=#[.int .i64 s.num,.int .i64 s.den]) (e2:=23) [(bm,rt s.num s.den),(E,kn d.1 w y z B C),(u,rt 0 0),(t,rt 0 0),(j,bk u0 s1 f g i)] [] bb fb e3 rfl (by simp only[*,go_sem]) fa rfl rfl BC BC Gw Bu rfl Gx (by decide) (by decide) (fun hh br X ff fg hi=>?_);simp only[aV] at fg;subst ff;rw[<-bl] at X;clear bl;obtain ⟨d125,fi,rfl,fl⟩:=X.len;refine ⟨⟨R,(bm,rt s.num s.den)::(E,kn d.1 w y z B C)::(u,rt 0 0)::(t,rt 0 0)::(j,bk u0 s1 f g i)::br⟩,Le.refl _,?_⟩;refine ⟨by simp only[*,go_sem],mW ?_⟩;simp only[*,go_sem];have hj:=cv (n:=i103) (by have:=ds;omega);apply ak hJ;simp only[*,go_sem];refine ⟨k.length - (i103+1),by omega,_,Le.sub (List.Sublist.cons _ (List.Sublist.refl _)),i103+1,d125,fi,br,e0,rfl,by omega,ea,rfl,X,fl,?_⟩;simp only[*,go_sem]
 have hk:=Nat.not_lt.2 bc;refine cn hJ ?_;rw[List.drop_eq_nil_of_le bc] at p;obtain rfl:=sI p;clear p;have h:=du;dsimp only[aC] at h;apply bR;simp only[go_sem];apply ag hJ;refine ay hJ fun hl=>?_;apply ak hJ;simp only[*,go_sem];apply ag hJ;refine ay hJ fun bs=>?_;obtain ⟨fp,hn,fq,Y,fr⟩:=bb.eR [(E,kn d.1 w y z B C),(u,rt 0 0),(t,rt 0 0),(j,bk u0 s1 f g i)] [] bs (aD.cons a6 (aD.cons I (aD.cons H (aD.cons G (aD.nil _)))));clear bs;refine cz hJ fr ?_;obtain ⟨ho,hp,-⟩:=Y.op;simp only[bq] at fq;refine fE hJ mixed 13 ⟨fp,[(E,kn d.1 w y z B C),(j,bk u0 s1 f g i)]⟩ (by simp only[*,go_sem]) (by kernel_rfl) ?_;revert h;refine bS fun Z fs h=>?_;obtain ⟨hq,hr,bz⟩:=c5 fs;obtain ⟨ht,ft,fu,fv,ab⟩:=Y.el _ _ bz;obtain rfl:ft=Z.cells:=fv;cases fu;have fw:=ab 0 _ rfl;simp only[go_sem] at fw;have fx:=ab 1 _ rfl;simp only[go_sem] at fx;clear ab bz;revert h;refine bS fun b0 fz h=>?_;obtain ⟨hv,hx,hy,b1⟩:=qF fz;have b2:(1:Int).toNat<=((c.length:Int)).toNat:=by omega
 have fP:((c.length:Int)).toNat<=O:=by omega
 have hz:0<=((c.length:Int)):=by omega
 obtain ⟨d143,fQ,fS,ad⟩:=az.qI Y (1:Int).toNat ((c.length:Int)).toNat b2 (by omega) b1;simp only[go_sem] at fQ fS b2 fP;obtain ⟨_,_,fU,hA,hB,hD⟩:=id ad;cases fU;clear b1;revert h;refine bS fun hE gg h=>?_;simp only[*,go_sem];refine ⟨_,bI hJ fun F q=>oN (dY:=87) (eC:=#[]) (eD:=#[]) nc ⟨by simp only[go_sem],fun a3 a4 M ae _ h=>by simp only[go_sem];exact HQ M ae h⟩ Z b0 (ad.mono (cp q)) gg,ck ?_⟩;revert h;refine bS fun hF gl h=>?_;cases h;simp only[*,go_sem];refine ⟨_,bI hJ fun F q=>oN (dY:=63) (eC:=#[]) (eD:=#[]) eB ⟨by simp only[go_sem],fun a3 a4 M ae _ h=>by simp only[go_sem];exact jF M ae h⟩ Z b0 (ad.mono (cp q)) gl,?_⟩;simp only[*,go_sem];apply aE;simp only[*,go_sem]
def lq (s:List aZ)(y:aZ):Bool:=s.any fun z=>z.e0==y.e0&&(z.e1==y.e1&&z.e2==y.e2)
def pn (y:aZ)(s:List aZ):Option (Fl (List aZ) Unit):=some (.nx (cond (lq s y) s (s++[y])))
theorem yy {x y:aZ}(h:x.v=y.v):x=y:=by
 obtain ⟨a,b,c⟩:=x;obtain ⟨d,e,f⟩:=y;simp only[aZ.v,Value.agg.injEq,Array.mk.injEq,List.cons.injEq,Value.int.injEq,true_and,and_true] at h;obtain ⟨rfl,rfl,rfl⟩:=h;rfl
theorem yz {s:List aZ}{y:aZ}:lq s y=true↔y.v∈s.map aZ.v:=by
 unfold lq;simp only[List.any_eq_true,Bool.and_eq_true,beq_iff_eq,List.mem_map];constructor
 .rintro ⟨z,d,h0,h1,h2⟩;refine ⟨z,d,?_⟩;obtain ⟨a,b,c⟩:=z;obtain ⟨e,f,g⟩:=y;simp only at h0 h1 h2;subst h0 h1 h2;rfl
 .rintro ⟨z,d,h⟩;obtain rfl:=yy h;exact ⟨z,d,rfl,rfl,rfl⟩
theorem IV (x y:aZ)(F:aa):∃b,(∀(Q:Bool->aa->Prop),Q b F->aX Tryz.prog (Op.equal 138 x.v y.v) Q F)/\(b=true↔y.v=x.v):=by
 have a:oC Tryz.prog 138=some [true,true,true]:=by kernel_rfl
 have he:mR Tryz.prog 138 x.v y.v=some (x.e0==y.e0&&(x.e1==y.e1&&(x.e2==y.e2&&true))):=by
  simp only[mR,aZ.v,a,jx,gY,Bool.and_self,if_true]
 refine ⟨_,fun Q h=>(wN he h).1,?_⟩;simp only[Bool.and_eq_true,beq_iff_eq,and_true];constructor
 .rintro ⟨h0,h1,h2⟩;simp only[aZ.v,h0,h1,h2]
 .intro h;obtain rfl:=yy h;exact ⟨rfl,rfl,rfl⟩
theorem IW (x:aZ)(F:aa)(Q:Unit->aa->Prop)(h:Q () F):aX Tryz.prog (Instr.checkKey false 10000 138 x.v) Q F:=by
 have c:Tryz.prog.underlying 138=some (.array 3 3):=by kernel_rfl
 have d:Tryz.prog.underlying 3=some (.int .i64):=by kernel_rfl
 have f:bZ Tryz.prog 3=some 1:=by kernel_rfl
 have g:cC Tryz.prog 3=some false:=by kernel_rfl
 have e:(10000:Nat)=9998+1+1:=rfl;rw[e];unfold Instr.checkKey;simp only[bx,dG,c,aZ.v];simp only[Std.Legacy.Range.forIn_eq_forIn_range',Std.Legacy.Range.size,Nat.sub_zero,Nat.add_one_sub_one,Nat.div_one,List.range',List.forIn_cons,List.forIn_nil,bx,eV,f,part,mO,g,bK,Bool.false_eq_true,if_false,dz];have b:∀(k:IntKind) (a:Int) (Q:Unit->aa->Prop) (G:aa),Q () G->aX Tryz.prog (Instr.checkKey false 9999 3 (.int k a)) Q G:=by
  intro k a Q G i;show aX Tryz.prog (Instr.checkKey false (9998+1) 3 (.int k a)) Q G;unfold Instr.checkKey;simp only[bx,dG,d,bK];exact i
 exact b .i64 x.e0 _ _ (b .i64 x.e1 _ _ (b .i64 x.e2 _ _ h))
def nD (u0:aj):Option (Int×Int):=
 af (ek u0 ([]:(List (aj->Option Int)))) fun a=>cond ((a.2 != 0)) (some (0,a.2)) (af (gJ pn (ny a.1) ([]:List aZ)) fun o=>aC o (fun st=>some ((st.length:Int),0)) (fun _ _=>none) (fun _=>none))
theorem yA {ro:Addr->Option Value}(M:di ro)(u0:aj){s1 w x B:Value}(E:bQ ro u0 s1 w x B){r:(Int×Int)}(h:nD u0=some r):aF Tryz.prog 20 #[bv u0 s1 w x B] ⟨ro,[]⟩ (fun v _=>v= .tuple #[.int .i64 r.1,.int .i64 r.2]):=by
 unfold nD at h;have N:=E.oc;simp only[bJ] at N;refine aF.xB Tryz.func20 rfl Tryz.ntmps20 Tryz.results20 (by simp) fun main J hJ A F hd hs=>?_;have O:=hs 0;clear hs;apply ah hJ;simp only[*,go_sem];refine aA fun P bd R=>?_;try simp only[av] at R
 apply ah hJ;revert h;refine bS fun G S h=>?_;simp only[*,go_sem];refine b6 hJ _ (lg M u0 E ([]:(List (aj->Option Int))) (az.nil _ _) S) fun v H bj T U=>?_;obtain ⟨V,W,X,Y,rfl,k⟩:=U;have Z:=k.oc;simp only[bJ] at Z;simp only[bq] at T;apply aJ;simp only[*,go_sem];refine aA fun ab bm ad=>?_;try simp only[av] at ad
 refine ag hJ (ah hJ ?_);simp only[*,go_sem];revert h;refine aY hJ (fun ae h=>?_) fun ae h=>?_
 .cases h;apply ah hJ;simp only[*,go_sem];refine ay hJ fun C=>?_;replace C:=C.nd;try simp only[keys,List.map_cons,List.map_nil,List.map_append,List.cons_append,List.nil_append,List.nodup_cons,List.mem_cons,List.mem_append,List.not_mem_nil,or_false,not_or] at C
  apply aE;simp only[*,go_sem]
 apply aI hJ;revert h;refine bS fun o l h=>?_;repeat apply ag hJ
 apply ak hJ;simp only[*,go_sem,-l];refine Ho fun j f70=>?_;have bo:=ez f70;have al:=fW f70;try simp only[av] at al
 apply aJ;simp only[*,go_sem,-l];refine aA fun q br ao=>?_;try simp only[av] at ao
 repeat apply ag hJ
 apply ak hJ;simp only[*,go_sem,-l];refine xA hJ aZ.v (by simp only[*,go_sem]) (tY G.1 k.e k.p k.y k.t) (by kernel_rfl) (by kernel_rfl) (ρ:=Unit) (fun (s:List aZ) ar=>∃(es:Array MapEntry) (b:Nat),ar=(q,.cells #[.map (some j)] 135)::(j,.map es b)::(ab,bl G.1 V W X Y)::(P,bk u0 s1 w x B)::[]/\es.toList.map (·.key)=s.map aZ.v) (f:=pn) l ?_ ?_ (by decide) ?_ ?_
 .exact ⟨#[],0,rfl,rfl⟩
 .rintro d4 a0 D a2 c d fl I main J hJ _ ⟨es,b,rfl,g⟩;obtain rfl:=Option.some.inj I;clear I;generalize m:m7 _ _ _=u;have bs:sz u=24:=by rw[<-m,xz];simp only[*,go_sem]
  have bz:u.defers=[]:=by rw[<-m];rfl
  have b0:slot u 6= .pointer (some ⟨q,0,none⟩):=by rw[<-m,oJ];simp only[*,go_sem]
  have b1:slot u 19=d.v:=by rw[<-m,oJ];simp only[*,go_sem]
  clear m F hd O;refine fF hJ fun i a=>?_;replace a:aD H ((a0,.loop D)::(d4,.deferred (some []))::(q,.cells #[.map (some j)] 135)::(j,.map es b)::_):=a;have b2:=a.hd;have b3:=a.tl.hd;have a3:=a.tl.tl.hd;have a4:=a.tl.tl.tl.hd;clear a;replace i:=i.nd;simp only[keys,List.map_cons,List.map_nil,List.map_append,List.cons_append,List.nil_append,List.nodup_cons,List.mem_cons,List.mem_append,List.not_mem_nil,or_false,not_or] at i;apply ak hJ;simp only[*,go_sem,aZ.v];refine aA fun b4 b5 a5=>?_;try simp only[av] at a5
  simp only[qS,go_sem];refine ⟨D,by simp only[*,go_sem],a2,?_⟩;simp only[*,go_sem,aZ.v];refine aT hJ (ak hJ ?_);simp only[*,go_sem,aZ.v];refine Hq (es:=es) (clock:=b) (by kernel_rfl:Tryz.prog.underlying 135=some (.map 138 4)) (by simp only[*,go_sem]) (fun Q h=>IW d _ Q h) (by kernel_rfl:Tryz.prog.underlying 138=some (.array 3 3)) (fun e he=>?_) fun K a6 a7=>?_
  .have:e.key∈es.toList.map (·.key):=List.mem_map_of_mem he;rw[g] at this;obtain ⟨z,F,a8⟩:=List.mem_map.1 this;rw[<-a8];exact IV d z _
  .simp only[tq,m4,go_sem, *];refine ⟨{D with state:=.busy},rfl,?_⟩;simp only[*,go_sem];refine ⟨_,Le.sub (List.Sublist.cons _ (List.Sublist.refl _)),rfl,K,a6,rfl,?_⟩;have a9:K.toList.map (·.key)=(cond (lq c d) c (c++[d])).map aZ.v:=by
    rcases a7 with ⟨hm,he⟩|⟨hm,he⟩
    .have:lq c d=true:=by rw[yz,<-g];exact hm
     rw[this,he,g];rfl
    .have:lq c d=false:=by
      rw[Bool.eq_false_iff];intro L;rw[yz,<-g] at L;exact hm L
     rw[this,he,g];simp only[cond_false,List.map_append,List.map_cons,List.map_nil];rfl
   exact a9
 .rintro d49 ba bb _ c ⟨es,b,rfl,g⟩ i a;refine ⟨fun n=>?_,fun k1 n=>?_⟩
  .subst n;dsimp only[aC] at h;cases h;clear l;replace a:aD H ((ba,.loop bb)::(d49,.deferred (some []))::(q,.cells #[.map (some j)] 135)::(j,.map es b)::_):=a;have a3:=a.tl.tl.hd;have a4:=a.tl.tl.tl.hd;clear a;replace i:=i.nd;simp only[keys,List.map_cons,List.map_nil,List.map_append,List.cons_append,List.nil_append,List.nodup_cons,List.mem_cons,List.mem_append,List.not_mem_nil,or_false,not_or] at i;repeat apply ag hJ
   apply ak hJ;simp only[*,go_sem];have bc:es.size=c.length:=by simpa using congrArg List.length g
   refine Hp (es:=es) (clock:=b) rfl (by kernel_rfl:Tryz.prog.underlying 135=some (.map 138 4)) (by simp only[*,go_sem]) ?_;rw[bc];apply aE;simp only[*,go_sem]
  .subst n;dsimp only[aC] at h;cases h
 .intro k1 ca n;subst n;dsimp only[aC] at h;cases h
def eU (u0:Int)(a:Int)(b:Int):Option Bool:=
 cond (decide (a<=u0)) (some (decide (u0<=b))) (some false)
theorem iZ {ro:Addr->Option Value}(u0:Int)(a:Int)(b:Int){r:Bool}(h:eU u0 a b=some r):aF Tryz.prog 100 #[.int .i64 u0,.int .i64 a,.int .i64 b] ⟨ro,[]⟩ (fun v _=>v= .bool r):=by
 unfold eU at h;refine aF.go Tryz.func100 rfl Tryz.ntmps100 Tryz.results100 (by simp) fun main J hJ A d hd hs=>?_;have e:=hs 0;have k1:=hs 1;have f:=hs 2;clear hs;apply ah hJ;simp only[*,go_sem];apply ah hJ;revert h;refine cS (fun c h=>?_) fun c h=>?_
 .cases h;simp only[*,go_sem];apply aE;simp only[*,go_sem]
 cases h;simp only[*,go_sem];apply aE;simp only[*,go_sem]
def nE (u0:aj)(a:Int):Option Bool:=
 af (bh u0.ax 0) fun b=>af (bh u0.ax (IntKind.i64.wrap ((u0.ax.length:Int) - 1))) fun c=>af (eU a b.aM c.aM) fun d=>some d
theorem IX {ro:Addr->Option Value}(u0:aj){s1 f g i:Value}(a:bQ ro u0 s1 f g i)(b:Int){r:Bool}(h:nE u0 b=some r):aF Tryz.prog 174 #[bv u0 s1 f g i,.int .i64 b] ⟨ro,[]⟩ (fun v _=>v= .bool r):=by
 obtain ⟨d3,c4,rfl,E,G,-⟩:=id a.e;unfold nE at h;refine aF.go Tryz.func174 rfl Tryz.ntmps174 Tryz.results174 (by simp) fun main J hJ A H hd hs=>?_;have I:=hs 0;have k1:=hs 1;clear hs;apply ah hJ;simp only[*,go_sem];refine aA fun K L n=>?_;try simp only[av] at n
 apply ag hJ;refine de hJ mixed 17 1 (by simp only[*,go_sem]) (by kernel_rfl) ?_;revert h;refine bS fun j o h=>?_;obtain ⟨M,N,k⟩:=c5 o;obtain ⟨O,p,q,s,c⟩:=a.e.el _ _ k;obtain rfl:p=j.cells:=s;cases q;have t:=c 0 _ rfl;simp only[go_sem] at t;have u:=c 1 _ rfl;simp only[go_sem] at u;clear c k;revert h;refine bS fun l w h=>?_;obtain ⟨P,Q,m⟩:=c5 w;obtain ⟨R,x,y,z,d⟩:=a.e.el _ _ m;obtain rfl:x=l.cells:=z;cases y;have B:=d 0 _ rfl;simp only[go_sem] at B;have C:=d 1 _ rfl;simp only[go_sem] at C;clear d m;revert h;refine bS fun S D h=>?_;cases h;simp only[*,go_sem];refine ⟨_,bI hJ fun F T=>iZ b j.aM l.aM D,ck ?_⟩;simp only[*,go_sem];apply aE;simp only[*,go_sem]
def pq (u0:aj)(a:Int):Option Bool:=
 af (eU a 0 (IntKind.i64.wrap ((u0.an.length:Int) - 1))) fun b=>some b
theorem IY {ro:Addr->Option Value}(u0:aj){s1 c d f:Value}(a:bQ ro u0 s1 c d f)(b:Int){r:Bool}(h:pq u0 b=some r):aF Tryz.prog 147 #[bv u0 s1 c d f,.int .i64 b] ⟨ro,[]⟩ (fun v _=>v= .bool r):=by
 obtain ⟨d3,c4,rfl,j,k,-⟩:=id a.e;obtain ⟨d10,l,rfl,m,n,-⟩:=id a.p;obtain ⟨d17,o,rfl,q,s,-⟩:=id a.y;obtain ⟨d24,u,rfl,w,x,-⟩:=id a.t;unfold pq at h;refine aF.go Tryz.func147 rfl Tryz.ntmps147 Tryz.results147 (by simp) fun main J hJ A z hd hs=>?_;have B:=hs 0;have k1:=hs 1;clear hs;apply ah hJ;simp only[*,go_sem];refine aA fun C D g=>?_;try simp only[av] at g
 apply ah hJ;revert h;refine bS fun E i h=>?_;cases h;simp only[*,go_sem];refine bn hJ _ (iZ b 0 (IntKind.i64.wrap ((u0.an.length:Int) - 1)) i) (aJ ?_);simp only[*,go_sem];apply aE;simp only[*,go_sem]
def mj (u0:au)(a:au):Option Bool:=
 some (decide ((IntKind.i64.wrap (u0.num*a.den))<(IntKind.i64.wrap (a.num*u0.den))))
def yB (st:(Int×Int)):Option (Fl (Int×Int) au):=
 cond (decide (0<st.2)) (af (gI st.1 st.2) fun a=>some (.nx (st.2,a))) (some (.bk (st.1,st.2)))
def pz (st:(Int×Int)):Option (Fl (Int×Int) au):=
 cond (decide (0<st.2)) (af (gI st.1 st.2) fun a=>some (.nx (st.2,a))) (some (.bk (st.1,st.2)))
def ja (u0:Int)(a:Int):Option au:=
 cond (decide (a<0)) (af (aU (yB) fu ((if IntKind.i64.wrap (0 - u0)<IntKind.i64.wrap (0 - (IntKind.i64.wrap (0 - u0))) then IntKind.i64.wrap (0 - (IntKind.i64.wrap (0 - u0))) else IntKind.i64.wrap (0 - u0)),(IntKind.i64.wrap (0 - a)))) fun o=>aC o (fun b=>af (fX (IntKind.i64.wrap (0 - u0)) b.1) fun d=>af (fX (IntKind.i64.wrap (0 - a)) b.1) fun e=>some (⟨d,e⟩:au)) (fun _ _=>none) (fun r=>some r)) (af (aU (pz) fu ((if u0<IntKind.i64.wrap (0 - u0) then IntKind.i64.wrap (0 - u0) else u0),a)) fun o=>aC o (fun c=>af (fX u0 c.1) fun f=>af (fX a c.1) fun g=>some (⟨f,g⟩:au)) (fun _ _=>none) (fun r=>some r))
theorem IZ {ro:Addr->Option Value}(u0:Int)(b:Int){r:au}(h:ja u0 b=some r):aF Tryz.prog 69 #[.int .i64 u0,.int .i64 b] ⟨ro,[]⟩ (fun v _=>v=r.v):=by
 unfold ja at h;refine aF.go Tryz.func69 rfl Tryz.ntmps69 Tryz.results69 (by simp) fun main J hJ A n hd hs=>?_;have o:=hs 0;have k1:=hs 1;clear hs;apply ah hJ;simp only[*,go_sem];refine aA fun p r1 n1=>?_;try simp only[av] at n1
 refine ag hJ (ah hJ ?_);simp only[*,go_sem];revert h;refine aY hJ (fun B h=>?_) fun B h=>?_
 .apply ak hJ;simp only[*,go_sem];apply ah hJ;simp only[*,go_sem];refine ag hJ (aT hJ ?_);revert h;refine bS fun C c D=>?_;refine bT hJ (rg 18 6 [5,6]) (fun m a F'=>∃(f:Int) (v4:Int),aU (yB) m (f,v4)=some C/\F'=⟨ro,(p,rt 0 0)::[]⟩/\slot a 5= .int .i64 f/\slot a 6= .int .i64 v4) fu ?_ ?_
  .refine ⟨(if IntKind.i64.wrap (0 - u0)<IntKind.i64.wrap (0 - (IntKind.i64.wrap (0 - u0))) then IntKind.i64.wrap (0 - (IntKind.i64.wrap (0 - u0))) else IntKind.i64.wrap (0 - u0)),(IntKind.i64.wrap (0 - b)),c,rfl,?_⟩;simp only[*,go_sem]
  rintro g R F' q ⟨f,v4,c,rfl,S,T⟩;obtain ⟨E,F,G⟩:=q.pick [0,1,4] (by decide);simp only[*,go_sem] at E F G;clear q n hd o k1;obtain _|g:=g
  .exact absurd c (by simp only[aU,reduceCtorEq,not_false_eq_true])
  revert c;refine bS fun U h i=>?_;unfold yB at h;try dsimp only at h
  refine ag hJ (ah hJ ?_);simp only[*,go_sem];revert h;refine aY hJ (fun H h=>?_) fun H h=>?_
  .refine aI hJ (aT hJ ?_);refine de hJ mixed 6 1 (by simp only[*,go_sem]) (by kernel_rfl) ?_;revert h;refine bS fun I s h=>?_;cases h;obtain ⟨V,W⟩:=mZ s;clear s;simp only[*,go_sem];refine ⟨g,Nat.lt_succ_self _,_,Le.sub (List.Sublist.refl _),v4,I,i,rfl,?_⟩;simp only[*,go_sem]
  cases h;apply bR;simp only[go_sem];obtain rfl:=sI i;clear i;have h:=D;dsimp only[aC] at h;apply ag hJ;refine de hJ mixed 7 0 (by simp only[*,go_sem]) (by kernel_rfl) ?_;revert h;refine bS fun X t h=>?_;obtain ⟨Y,Z⟩:=kW t;clear t;revert h;refine bS fun ab u h=>?_;cases h;obtain ⟨ad,ae⟩:=kW u;clear u;simp only[*,go_sem];apply aE;simp only[*,go_sem]
 refine aI hJ (ag hJ ?_);apply ak hJ;simp only[*,go_sem];refine ag hJ (aT hJ ?_);revert h;refine bS fun K d L=>?_;refine bT hJ (rg 18 6 [5,6]) (fun m a F'=>∃(j:Int) (e:Int),aU (pz) m (j,e)=some K/\F'=⟨ro,(p,rt 0 0)::[]⟩/\slot a 5= .int .i64 j/\slot a 6= .int .i64 e) fu ?_ ?_
 .refine ⟨(if u0<IntKind.i64.wrap (0 - u0) then IntKind.i64.wrap (0 - u0) else u0),b,d,rfl,?_⟩;simp only[*,go_sem]
 rintro k al F' w ⟨j,e,d,rfl,ao,ar⟩;obtain ⟨M,N,O⟩:=w.pick [0,1,4] (by decide);simp only[*,go_sem] at M N O;clear w n hd o k1;obtain _|k:=k
 .exact absurd d (by simp only[aU,reduceCtorEq,not_false_eq_true])
 revert d;refine bS fun a0 h l=>?_;unfold pz at h;try dsimp only at h
 refine ag hJ (ah hJ ?_);simp only[*,go_sem];revert h;refine aY hJ (fun P h=>?_) fun P h=>?_
 .refine aI hJ (aT hJ ?_);refine de hJ mixed 6 1 (by simp only[*,go_sem]) (by kernel_rfl) ?_;revert h;refine bS fun Q x h=>?_;cases h;obtain ⟨a2,a3⟩:=mZ x;clear x;simp only[*,go_sem];refine ⟨k,Nat.lt_succ_self _,_,Le.sub (List.Sublist.refl _),e,Q,l,rfl,?_⟩;simp only[*,go_sem]
 cases h;apply bR;simp only[go_sem];obtain rfl:=sI l;clear l;have h:=L;dsimp only[aC] at h;apply ag hJ;refine de hJ mixed 7 0 (by simp only[*,go_sem]) (by kernel_rfl) ?_;revert h;refine bS fun a4 y h=>?_;obtain ⟨a5,a6⟩:=kW y;clear y;revert h;refine bS fun a7 z h=>?_;cases h;obtain ⟨a8,a9⟩:=kW z;clear z;simp only[*,go_sem];apply aE;simp only[*,go_sem]
def kC (u0:au)(a:au):Option au:=
 af (ja (IntKind.i64.wrap ((IntKind.i64.wrap (u0.num*a.den)) - (IntKind.i64.wrap (a.num*u0.den)))) (IntKind.i64.wrap (u0.den*a.den))) fun b=>some b
def nF (u0:aj)(a:aP)(c:Int)(b:au):Option au:=
 af (ja (IntKind.i64.wrap ((IntKind.i64.wrap ((IntKind.i64.wrap (a.high*b.den))*(IntKind.i64.wrap (c+a.back))))+(IntKind.i64.wrap ((IntKind.i64.wrap (b.num - (IntKind.i64.wrap (a.high*b.den))))*(IntKind.i64.wrap (u0.bB+a.back)))))) (IntKind.i64.wrap (b.den*(IntKind.i64.wrap (c+a.back))))) fun d=>some d
def nG (u0:dn)(a:Int)(b:Int):Option Bool:=
 cond (decide (a<=u0.low)) (cond (decide (u0.low<=u0.high)) (some (decide (u0.high<=b))) (some false)) (some false)
theorem I0 {ro:Addr->Option Value}(u0:dn)(a:Int)(b:Int){r:Bool}(h:nG u0 a b=some r):aF Tryz.prog 175 #[.agg #[.int .i64 u0.low,.int .i64 u0.high],.int .i64 a,.int .i64 b] ⟨ro,[]⟩ (fun v _=>v= .bool r):=by
 unfold nG at h;refine aF.go Tryz.func175 rfl Tryz.ntmps175 Tryz.results175 (by simp) fun main J hJ A e hd hs=>?_;have f:=hs 0;have k1:=hs 1;have g:=hs 2;clear hs;apply ah hJ;simp only[*,go_sem];refine aA fun i r1 n1=>?_;try simp only[av] at n1
 apply ah hJ;revert h;refine cS (fun c h=>?_) fun c h=>?_
 .revert h;refine cS (fun d h=>?_) fun d h=>?_
  .cases h;simp only[*,go_sem];apply aE;simp only[*,go_sem]
  cases h;simp only[*,go_sem];apply aE;simp only[*,go_sem]
 cases h;simp only[*,go_sem];apply aE;simp only[*,go_sem]
def gv (u0:au)(a:au):Option au:=
 af (mj u0 a) fun b=>cond (b) (some a) (some u0)
def CC (u0:aj)(a:Int)(b:Int):Option aP:=
 af (bh u0.an a) fun c=>some (⟨c.back,b⟩:aP)
def nJ (u0:aj):Option Bool:=
 cond (decide (20<(u0.ax.length:Int))) (some true) (cond (decide (20<(u0.props.length:Int))) (some true) (cond (decide (20<(u0.an.length:Int))) (some true) (some (decide (20<(u0.told.length:Int))))))
theorem I1 {ro:Addr->Option Value}(u0:aj){s1 b c d:Value}(a:bQ ro u0 s1 b c d){r:Bool}(h:nJ u0=some r):aF Tryz.prog 7 #[bv u0 s1 b c d] ⟨ro,[]⟩ (fun v _=>v= .bool r):=by
 obtain ⟨d3,c4,rfl,k,l,-⟩:=id a.e;obtain ⟨d10,m,rfl,n,o,-⟩:=id a.p;obtain ⟨d17,q,rfl,s,u,-⟩:=id a.y;obtain ⟨d24,w,rfl,x,z,-⟩:=id a.t;unfold nJ at h;refine aF.go Tryz.func7 rfl Tryz.ntmps7 Tryz.results7 (by simp) fun main J hJ A B hd hs=>?_;have C:=hs 0;clear hs;apply ah hJ;simp only[*,go_sem];refine aA fun D E f=>?_;try simp only[av] at f
 apply ah hJ;revert h;refine cS (fun g h=>?_) fun g h=>?_
 .cases h;simp only[*,go_sem];apply aE;simp only[*,go_sem]
 revert h;refine cS (fun i h=>?_) fun i h=>?_
 .cases h;simp only[*,go_sem];apply aE;simp only[*,go_sem]
 revert h;refine cS (fun j h=>?_) fun j h=>?_
 .cases h;simp only[*,go_sem];apply aE;simp only[*,go_sem]
 cases h;simp only[*,go_sem];apply aE;simp only[*,go_sem]
def gO (u0:Int)(a:Int):Option au:=
 some (⟨u0,a⟩:au)
theorem iE {ro:Addr->Option Value}(u0:Int)(a:Int){r:au}(h:gO u0 a=some r):aF Tryz.prog 48 #[.int .i64 u0,.int .i64 a] ⟨ro,[]⟩ (fun v _=>v=r.v):=by
 unfold gO at h;cases h;refine aF.go Tryz.func48 rfl Tryz.ntmps48 Tryz.results48 (by simp) fun main J hJ A b hd hs=>?_;have c:=hs 0;have k1:=hs 1;clear hs;apply ah hJ;simp only[*,go_sem];refine aA fun d r1 n1=>?_;try simp only[av] at n1
 apply ah hJ;simp only[*,go_sem];apply aE;simp only[*,go_sem]
def rJ (u0:Int)(a:Int):Option dn:=
 some (⟨u0,a⟩:dn)
theorem uG {ro:Addr->Option Value}(u0:Int)(a:Int){r:dn}(h:rJ u0 a=some r):aF Tryz.prog 53 #[.int .i64 u0,.int .i64 a] ⟨ro,[]⟩ (fun v _=>v=r.v):=by
 unfold rJ at h;cases h;refine aF.go Tryz.func53 rfl Tryz.ntmps53 Tryz.results53 (by simp) fun main J hJ A b hd hs=>?_;have c:=hs 0;have k1:=hs 1;clear hs;apply ah hJ;simp only[*,go_sem];refine aA fun d r1 n1=>?_;try simp only[av] at n1
 apply ah hJ;simp only[*,go_sem];apply aE;simp only[*,go_sem]
def mm (u0:Int)(a:Int):Option aP:=
 some (⟨u0,a⟩:aP)
theorem pE {ro:Addr->Option Value}(u0:Int)(a:Int){r:aP}(h:mm u0 a=some r):aF Tryz.prog 38 #[.int .i64 u0,.int .i64 a] ⟨ro,[]⟩ (fun v _=>v=r.v):=by
 unfold mm at h;cases h;refine aF.go Tryz.func38 rfl Tryz.ntmps38 Tryz.results38 (by simp) fun main J hJ A b hd hs=>?_;have c:=hs 0;have k1:=hs 1;clear hs;apply ah hJ;simp only[*,go_sem];refine aA fun d r1 n1=>?_;try simp only[av] at n1
 apply ah hJ;simp only[*,go_sem];apply aE;simp only[*,go_sem]
def lu (u0:Int)(a:Bool):Option bA:=
 some (⟨u0,a⟩:bA)
theorem kD {ro:Addr->Option Value}(u0:Int)(a:Bool){r:bA}(h:lu u0 a=some r):aF Tryz.prog 17 #[.int .i64 u0,.bool a] ⟨ro,[]⟩ (fun v _=>v=r.v):=by
 unfold lu at h;cases h;refine aF.go Tryz.func17 rfl Tryz.ntmps17 Tryz.results17 (by simp) fun main J hJ A b hd hs=>?_;have c:=hs 0;have k1:=hs 1;clear hs;apply ah hJ;simp only[*,go_sem];refine aA fun d r1 n1=>?_;try simp only[av] at n1
 apply ah hJ;simp only[*,go_sem];apply aE;simp only[*,go_sem]
def rK (u0:aj)(a:bA):Option aj:=
 af (cG ([]:List bA) u0.told) fun b=>af (cG b ([a])) fun c=>some (⟨u0.bB,u0.bH,u0.aO,u0.ax,u0.props,u0.an,c⟩:aj)
theorem pF {ro:Addr->Option Value}(u0:aj){s1 b c N:Value}(j:bQ ro u0 s1 b c N)(a:bA){r:aj}(h:rK u0 a=some r):eW Tryz.prog 54 #[bv u0 s1 b c N,.agg #[.int .i64 a.aS,.bool a.bt]] ro (fun v aN=>∃O w1 w2 w3,v=bv r O w1 w2 w3/\bQ aN r O w1 w2 w3):=by
 obtain ⟨d24,i,rfl,e0,e1,-⟩:=id j.t;unfold rK at h;have b0:=j.oc;simp only[bJ] at b0;refine aF.go Tryz.func54 rfl Tryz.ntmps54 Tryz.results54 (by simp) fun main J hJ A e3 hd hs=>?_;have fa:=hs 0;have k1:=hs 1;clear hs;apply ah hJ;simp only[*,go_sem,-h];refine aA fun d q b1=>?_;try simp only[av] at b1
 refine aA fun f s b2=>?_;try simp only[av] at b2
 refine aA fun g u b3=>?_;try simp only[av] at b3
 apply ag hJ;refine ay hJ fun P=>?_;refine eI hJ mixed [8] (.pure 1 (.rd 2 (.rd 4 (.two 0 (.two 3 (.one 5 (.one 6 (.pure 7 (.last 8 .done)))) 5 (.one 3 (.one 6 (.pure 7 (.last 8 .done))))) 5 (.one 0 (.one 3 (.one 6 (.pure 7 (.last 8 .done))))))))) ⟨ro,[(g,bz 29),(f,.cells #[.int .i64 a.aS,.bool a.bt] 49),(d,bk u0 s1 b c (sl d24 u0.told i))]⟩ (by simp only[*,go_sem,-h]) (by kernel_rfl) ?_;simp only[*,go_sem,-h];refine k4 ?_ ?_
 .simp only[*,go_sem,-h];refine aA fun C Q R=>?_;have S:=aR.cons R P;try simp only[av] at R
  simp only[*,go_sem,-h];refine k4 ?_ ?_
  .revert h;refine bS fun b4 b5 h=>?_;obtain ⟨ca,T⟩:=dr b5;simp only[*,go_sem,-h];have cb:aQ cU ro 49 (.slice (some ⟨C,0,none⟩) 0 0) ([]:List bA) [(C,.cells #[] 49)]:=aQ.empty Q;refine qV (r:=cU) (l:=([]:List bA)) (xs:=u0.told) [] ((g,bz 29)::(f,.cells #[.int .i64 a.aS,.bool a.bt] 49)::(d,bk u0 s1 b c (sl d24 u0.told i))::[]) cb S ca j.t rfl rfl ep ep iw iz rfl iy (by decide) (by decide) (fun fb w F k m U=>?_);simp only[aV] at m;subst k;rw[<-T] at F;clear T;obtain ⟨d144,ff,rfl,fg⟩:=F.len;have cd:=aR.back (l:=(g,bz 29)::(f,.cells #[.int .i64 a.aS,.bool a.bt] 49)::(d,bk u0 s1 b c (sl d24 u0.told i))::w) (l':=[]++(w++([(g,bz 29),(f,.cells #[.int .i64 a.aS,.bool a.bt] 49),(d,bk u0 s1 b c (sl d24 u0.told i))]++[]))) [] [(g,bz 29),(f,.cells #[.int .i64 a.aS,.bool a.bt] 49),(d,bk u0 s1 b c (sl d24 u0.told i))] w [] (by first|rfl|simp only[aV]|(simp only[aV];rfl)) (by first|rfl|simp only[aV]|(simp only[aV];rfl)) (by first|exact U|simpa only[List.append_nil,List.nil_append,List.cons_append,List.append_assoc] using U);refine ⟨⟨ro,(g,bz 29)::(f,.cells #[.int .i64 a.aS,.bool a.bt] 49)::(d,bk u0 s1 b c (sl d24 u0.told i))::w⟩,Le.back [] [(g,bz 29),(f,.cells #[.int .i64 a.aS,.bool a.bt] 49),(d,bk u0 s1 b c (sl d24 u0.told i))] w [] (by first|rfl|simp only[aV]|(simp only[aV];rfl)) (by first|rfl|simp only[aV]|(simp only[aV];rfl)),?_⟩;refine ⟨by simp only[*,go_sem,-h],bV ?_⟩;revert h;refine bS fun V cf h=>?_;obtain ⟨cl,W⟩:=dr cf;simp only[*,go_sem,-h];refine aA fun G X Y=>?_;have cy:=aR.cons Y cd;try simp only[av] at Y
   simp only[*,go_sem,-h];refine dW (r:=cU) (l:=b4) (x:=a) (cs:=#[.int .i64 a.aS,.bool a.bt]) (e2:=49) [(G,.cells #[.int .i64 a.aS,.bool a.bt] 49),(g,bz 29),(f,.cells #[.int .i64 a.aS,.bool a.bt] 49),(d,bk u0 s1 b c (sl d24 u0.told i))] [] F cy cl rfl (by simp only[*,go_sem,-h]) X rfl rfl ep ep iw iz rfl iy (by decide) (by decide) (fun fi cS H k m fl=>?_);simp only[aV] at m;subst k;rw[<-W] at H;clear W;obtain ⟨d158,Z,rfl,fp⟩:=H.len;refine ⟨⟨ro,(G,.cells #[.int .i64 a.aS,.bool a.bt] 49)::(g,bz 29)::(f,.cells #[.int .i64 a.aS,.bool a.bt] 49)::(d,bk u0 s1 b c (sl d24 u0.told i))::cS⟩,Le.refl _,?_⟩;refine ⟨by simp only[*,go_sem,-h],bV ?_⟩;simp only[*,go_sem,-h];apply ag hJ;refine ay hJ fun fq=>?_;apply ak hJ;simp only[*,go_sem,-h];cases h;refine ay hJ fun ab=>?_;obtain ⟨fr,ad,D,ae,c0⟩:=H.eR [(G,.cells #[.int .i64 a.aS,.bool a.bt] 49),(g,bk u0 s1 b c (sl d158 V Z)),(f,.cells #[.int .i64 a.aS,.bool a.bt] 49),(d,bk u0 s1 b c (sl d158 V Z))] [] ab (aD.cons X (aD.cons u (aD.cons s (aD.cons q (aD.nil _)))));clear ab;refine cz hJ c0 ?_;obtain ⟨fs,ft,-⟩:=ae.op;replace j:=j.mono ad;replace u:=D.tl.hd;replace s:=D.tl.tl.hd;replace q:=D.tl.tl.tl.hd;simp only[bq] at D;apply aE;simp only[*,go_sem];exact ⟨_,ad,Le.sub (List.nil_sublist _),_,_,_,_,rfl,⟨j.e,j.p,j.y,ae⟩⟩
  revert h;refine bS fun da db h=>?_;obtain ⟨dd,al⟩:=dr db;simp only[*,go_sem,-h];refine aA fun n ao ar=>?_;have df:=aR.cons ar S;try simp only[av] at ar
  simp only[*,go_sem,-h];have dk:aQ cU ro 49 (.slice (some ⟨C,0,none⟩) 0 0) ([]:List bA) [(C,.cells #[] 49)]:=aQ.empty Q;refine qV (r:=cU) (l:=([]:List bA)) (xs:=u0.told) [(n,.cells #[.int .i64 a.aS,.bool a.bt] 49)] ((g,bz 29)::(f,.cells #[.int .i64 a.aS,.bool a.bt] 49)::(d,bk u0 s1 b c (sl d24 u0.told i))::[]) dk df dd j.t rfl rfl ep ep iw iz rfl iy (by decide) (by decide) (fun fu z I k m a0=>?_);simp only[aV] at m;subst k;rw[<-al] at I;clear al;obtain ⟨d179,fv,rfl,fw⟩:=I.len;have dp:=aR.back (l:=(n,.cells #[.int .i64 a.aS,.bool a.bt] 49)::(g,bz 29)::(f,.cells #[.int .i64 a.aS,.bool a.bt] 49)::(d,bk u0 s1 b c (sl d24 u0.told i))::z) (l':=[(n,.cells #[.int .i64 a.aS,.bool a.bt] 49)]++(z++([(g,bz 29),(f,.cells #[.int .i64 a.aS,.bool a.bt] 49),(d,bk u0 s1 b c (sl d24 u0.told i))]++[]))) [(n,.cells #[.int .i64 a.aS,.bool a.bt] 49)] [(g,bz 29),(f,.cells #[.int .i64 a.aS,.bool a.bt] 49),(d,bk u0 s1 b c (sl d24 u0.told i))] z [] (by first|rfl|simp only[aV]|(simp only[aV];rfl)) (by first|rfl|simp only[aV]|(simp only[aV];rfl)) (by first|exact a0|simpa only[List.append_nil,List.nil_append,List.cons_append,List.append_assoc] using a0);refine ⟨⟨ro,(n,.cells #[.int .i64 a.aS,.bool a.bt] 49)::(g,bz 29)::(f,.cells #[.int .i64 a.aS,.bool a.bt] 49)::(d,bk u0 s1 b c (sl d24 u0.told i))::z⟩,Le.back [(n,.cells #[.int .i64 a.aS,.bool a.bt] 49)] [(g,bz 29),(f,.cells #[.int .i64 a.aS,.bool a.bt] 49),(d,bk u0 s1 b c (sl d24 u0.told i))] z [] (by first|rfl|simp only[aV]|(simp only[aV];rfl)) (by first|rfl|simp only[aV]|(simp only[aV];rfl)),?_⟩;refine ⟨by simp only[*,go_sem,-h],bV ?_⟩;revert h;refine bS fun a2 dq h=>?_;obtain ⟨ds,a3⟩:=dr dq;simp only[*,go_sem,-h];refine dW (r:=cU) (l:=da) (x:=a) (cs:=#[.int .i64 a.aS,.bool a.bt]) (e2:=49) [(n,.cells #[.int .i64 a.aS,.bool a.bt] 49),(g,bz 29),(f,.cells #[.int .i64 a.aS,.bool a.bt] 49),(d,bk u0 s1 b c (sl d24 u0.told i))] [] I dp ds rfl (by simp only[*,go_sem,-h]) ao rfl rfl ep ep iw iz rfl iy (by decide) (by decide) (fun fx dt K k m fz=>?_);simp only[aV] at m;subst k;rw[<-a3] at K;clear a3;obtain ⟨d191,a4,rfl,fP⟩:=K.len;refine ⟨⟨ro,(n,.cells #[.int .i64 a.aS,.bool a.bt] 49)::(g,bz 29)::(f,.cells #[.int .i64 a.aS,.bool a.bt] 49)::(d,bk u0 s1 b c (sl d24 u0.told i))::dt⟩,Le.refl _,?_⟩;refine ⟨by simp only[*,go_sem,-h],bV ?_⟩;simp only[*,go_sem,-h];apply ag hJ;refine ay hJ fun fQ=>?_;apply ak hJ;simp only[*,go_sem,-h];cases h;refine ay hJ fun a5=>?_;obtain ⟨fS,a6,E,a7,du⟩:=K.eR [(n,.cells #[.int .i64 a.aS,.bool a.bt] 49),(g,bk u0 s1 b c (sl d191 a2 a4)),(f,.cells #[.int .i64 a.aS,.bool a.bt] 49),(d,bk u0 s1 b c (sl d191 a2 a4))] [] a5 (aD.cons ao (aD.cons u (aD.cons s (aD.cons q (aD.nil _)))));clear a5;refine cz hJ du ?_;obtain ⟨fU,gg,-⟩:=a7.op;replace j:=j.mono a6;replace u:=E.tl.hd;replace s:=E.tl.tl.hd;replace q:=E.tl.tl.tl.hd;simp only[bq] at E;apply aE;simp only[*,go_sem];exact ⟨_,a6,Le.sub (List.nil_sublist _),_,_,_,_,rfl,⟨j.e,j.p,j.y,a7⟩⟩
 revert h;refine bS fun dv dC h=>?_;obtain ⟨dE,a8⟩:=dr dC;simp only[*,go_sem,-h];refine aA fun o a9 ba=>?_;have dT:=aR.cons ba P;try simp only[av] at ba
 simp only[*,go_sem,-h];refine aA fun bb ea bc=>?_;have eb:=aR.cons bc dT;try simp only[av] at bc
 simp only[*,go_sem,-h];have ec:aQ cU ro 49 (.slice (some ⟨bb,0,none⟩) 0 0) ([]:List bA) [(bb,.cells #[] 49)]:=aQ.empty ea;refine qV (r:=cU) (l:=([]:List bA)) (xs:=u0.told) [] ((o,.cells #[.int .i64 a.aS,.bool a.bt] 49)::(g,bz 29)::(f,.cells #[.int .i64 a.aS,.bool a.bt] 49)::(d,bk u0 s1 b c (sl d24 u0.told i))::[]) ec eb dE j.t rfl rfl ep ep iw iz rfl iy (by decide) (by decide) (fun gl B L k m bd=>?_);simp only[aV] at m;subst k;rw[<-a8] at L;clear a8;obtain ⟨d214,gn,rfl,gp⟩:=L.len;have ed:=aR.back (l:=(o,.cells #[.int .i64 a.aS,.bool a.bt] 49)::(g,bz 29)::(f,.cells #[.int .i64 a.aS,.bool a.bt] 49)::(d,bk u0 s1 b c (sl d24 u0.told i))::B) (l':=[]++(B++([(o,.cells #[.int .i64 a.aS,.bool a.bt] 49),(g,bz 29),(f,.cells #[.int .i64 a.aS,.bool a.bt] 49),(d,bk u0 s1 b c (sl d24 u0.told i))]++[]))) [] [(o,.cells #[.int .i64 a.aS,.bool a.bt] 49),(g,bz 29),(f,.cells #[.int .i64 a.aS,.bool a.bt] 49),(d,bk u0 s1 b c (sl d24 u0.told i))] B [] (by first|rfl|simp only[aV]|(simp only[aV];rfl)) (by first|rfl|simp only[aV]|(simp only[aV];rfl)) (by first|exact bd|simpa only[List.append_nil,List.nil_append,List.cons_append,List.append_assoc] using bd);refine ⟨⟨ro,(o,.cells #[.int .i64 a.aS,.bool a.bt] 49)::(g,bz 29)::(f,.cells #[.int .i64 a.aS,.bool a.bt] 49)::(d,bk u0 s1 b c (sl d24 u0.told i))::B⟩,Le.back [] [(o,.cells #[.int .i64 a.aS,.bool a.bt] 49),(g,bz 29),(f,.cells #[.int .i64 a.aS,.bool a.bt] 49),(d,bk u0 s1 b c (sl d24 u0.told i))] B [] (by first|rfl|simp only[aV]|(simp only[aV];rfl)) (by first|rfl|simp only[aV]|(simp only[aV];rfl)),?_⟩;refine ⟨by simp only[*,go_sem,-h],bV ?_⟩;revert h;refine bS fun bj eh h=>?_;obtain ⟨et,bl⟩:=dr eh;simp only[*,go_sem,-h];refine dW (r:=cU) (l:=dv) (x:=a) (cs:=#[.int .i64 a.aS,.bool a.bt]) (e2:=49) [(o,.cells #[.int .i64 a.aS,.bool a.bt] 49),(g,bz 29),(f,.cells #[.int .i64 a.aS,.bool a.bt] 49),(d,bk u0 s1 b c (sl d24 u0.told i))] [] L ed et rfl (by simp only[*,go_sem,-h]) a9 rfl rfl ep ep iw iz rfl iy (by decide) (by decide) (fun gB ev M k m gC=>?_);simp only[aV] at m;subst k;rw[<-bl] at M;clear bl;obtain ⟨d226,bm,rfl,gM⟩:=M.len;refine ⟨⟨ro,(o,.cells #[.int .i64 a.aS,.bool a.bt] 49)::(g,bz 29)::(f,.cells #[.int .i64 a.aS,.bool a.bt] 49)::(d,bk u0 s1 b c (sl d24 u0.told i))::ev⟩,Le.refl _,?_⟩;refine ⟨by simp only[*,go_sem,-h],bV ?_⟩;simp only[*,go_sem,-h];apply ag hJ;refine ay hJ fun gT=>?_;apply ak hJ;simp only[*,go_sem,-h];cases h;refine ay hJ fun bo=>?_;obtain ⟨gV,br,eQ,bs,eS⟩:=M.eR [(o,.cells #[.int .i64 a.aS,.bool a.bt] 49),(g,bk u0 s1 b c (sl d226 bj bm)),(f,.cells #[.int .i64 a.aS,.bool a.bt] 49),(d,bk u0 s1 b c (sl d226 bj bm))] [] bo (aD.cons a9 (aD.cons u (aD.cons s (aD.cons q (aD.nil _)))));clear bo;refine cz hJ eS ?_;obtain ⟨g0,g1,-⟩:=bs.op;replace j:=j.mono br;simp only[bq] at eQ;apply aE;simp only[*,go_sem];exact ⟨_,br,Le.sub (List.nil_sublist _),_,_,_,_,rfl,⟨j.e,j.p,j.y,bs⟩⟩
def yC (a:(List Int))(b:Int)(st:(Int×(List bL))):Option (Fl (Int×(List bL)) aj):=
 cond (decide (st.1<(a.length:Int))) (af (bh a st.1) fun c=>af (cG st.2 ([(⟨c,b⟩:bL)])) fun d=>some (.nx ((IntKind.i64.wrap (st.1+1)),d))) (some (.bk (st.1,st.2)))
def yD (u0:aj)(a:(List Int))(b:Int):Option aj:=
 af (cG ([]:List bL) u0.props) fun c=>af (aU (yC a b) fu (0,c)) fun o=>aC o (fun d=>some (⟨u0.bB,u0.bH,u0.aO,u0.ax,d.2,u0.an,u0.told⟩:aj)) (fun _ _=>none) (fun r=>some r)
theorem I2 {ro:Addr->Option Value}(u0:aj){s1 H a b:Value}(k:bQ ro u0 s1 H a b)(w:(List Int)){I:Value}(K:az rI ro I w)(n:Int){r:aj}(h:yD u0 w n=some r):eW Tryz.prog 45 #[bv u0 s1 H a b,I,.int .i64 n] ro (fun v aN=>∃L w1 w2 w3,v=bv r L w1 w2 w3/\bQ aN r L w1 w2 w3):=by
 obtain ⟨d10,c,rfl,df,dk,-⟩:=id k.p;obtain ⟨d31,dp,rfl,dq,ds,-⟩:=id K;unfold yD at h;have ad:=k.oc;simp only[bJ] at ad;refine aF.go Tryz.func45 rfl Tryz.ntmps45 Tryz.results45 (by simp) fun main J hJ A ae hd hs=>?_;have al:=hs 0;have k1:=hs 1;have ao:=hs 2;clear hs;apply ah hJ;simp only[*,go_sem];refine aA fun f ar a0=>?_;try simp only[av] at a0
 refine aA fun g a2 a3=>?_;try simp only[av] at a3
 apply ah hJ;simp only[*,go_sem];refine aA fun i a4 a5=>?_;try simp only[av] at a5
 apply ag hJ;refine ay hJ fun a6=>?_;apply ak hJ;revert h;refine bS fun a7 a8 h=>?_;obtain ⟨a9,M⟩:=dr a8;simp only[*,go_sem];refine aA fun N ba O=>?_;have bb:=aR.cons O a6;try simp only[av] at O
 simp only[*,go_sem];have bc:aQ dI ro 43 (.slice (some ⟨N,0,none⟩) 0 0) ([]:List bL) [(N,.cells #[] 43)]:=aQ.empty ba;refine qV (r:=dI) (l:=([]:List bL)) (xs:=u0.props) [] ((i,bk u0 s1 (sl d10 u0.props c) a b)::(g,bz 29)::(f,bk u0 s1 (sl d10 u0.props c) a b)::[]) bc bb a9 k.p rfl rfl j8 j8 qL qN rfl qM (by decide) (by decide) (fun dt o z B C P=>?_);simp only[aV] at C;subst B;rw[<-M] at z;clear M;obtain ⟨d48,bd,rfl,bj⟩:=z.len;have du:=aR.back (l:=(i,bk u0 s1 (sl d10 u0.props c) a b)::(g,bz 29)::(f,bk u0 s1 (sl d10 u0.props c) a b)::o) (l':=[]++(o++([(i,bk u0 s1 (sl d10 u0.props c) a b),(g,bz 29),(f,bk u0 s1 (sl d10 u0.props c) a b)]++[]))) [] [(i,bk u0 s1 (sl d10 u0.props c) a b),(g,bz 29),(f,bk u0 s1 (sl d10 u0.props c) a b)] o [] (by first|rfl|simp only[aV]|(simp only[aV];rfl)) (by first|rfl|simp only[aV]|(simp only[aV];rfl)) (by first|exact P|simpa only[List.append_nil,List.nil_append,List.cons_append,List.append_assoc] using P);refine ⟨⟨ro,(i,bk u0 s1 (sl d10 u0.props c) a b)::(g,bz 29)::(f,bk u0 s1 (sl d10 u0.props c) a b)::o⟩,Le.back [] [(i,bk u0 s1 (sl d10 u0.props c) a b),(g,bz 29),(f,bk u0 s1 (sl d10 u0.props c) a b)] o [] (by first|rfl|simp only[aV]|(simp only[aV];rfl)) (by first|rfl|simp only[aV]|(simp only[aV];rfl)),?_⟩;apply aJ;simp only[*,go_sem];refine ag hJ (ag hJ ?_);refine ay hJ fun dv=>?_;apply ak hJ;simp only[*,go_sem];apply aT hJ;revert h;refine bS fun bl s bm=>?_;refine bT hJ (rg 15 17 [8]) (fun m bo F'=>∃(d57:Option Addr) (j:Nat) (D:List (Nat×Obj)) (u:Int) (d:(List bL)),aU (yC w n) m (u,d)=some bl/\F'=⟨ro,(i,bk u0 s1 (sl d57 d j) a b)::(g,bz 29)::(f,bk u0 s1 (sl d10 u0.props c) a b)::D⟩/\aQ dI ro 43 (.slice d57 d.length j) d D/\d.length<=j/\slot bo 8= .int .i64 u) fu ?_ ?_
 .refine ⟨d48,bd,o,0,a7,s,rfl,z,bj,?_⟩;simp only[*,go_sem]
 rintro E dC F' Q ⟨d57,j,D,u,d,s,rfl,R,dE,dT⟩;obtain ⟨br,bs,b0⟩:=Q.pick [1,2,6,7] (by decide);simp only[*,go_sem] at br bs b0;clear Q ae hd al k1 ao;obtain _|E:=E
 .exact absurd s (by simp only[aU,reduceCtorEq,not_false_eq_true])
 revert s;refine bS fun ea h F=>?_;unfold yC at h;try dsimp only at h
 refine ag hJ (ag hJ ?_);refine ay hJ fun eb=>?_;apply ak hJ;simp only[*,go_sem];revert h;refine aY hJ (fun b1 h=>?_) fun b1 h=>?_
 .refine aI hJ (ag hJ ?_);apply aT hJ;refine ay hJ fun b2=>?_;refine eI hJ mixed [11] (.pure 0 (.rd 1 (.pure 2 (.pure 3 (.pure 4 (.rd 5 (.pure 6 (.pure 7 (.one 8 (.one 9 (.pure 10 (.last 11 .done)))))))))))) ⟨ro,[(i,bk u0 s1 (sl d57 d j) a b),(g,bz 29),(f,bk u0 s1 (sl d10 u0.props c) a b)]⟩ (by simp only[*,go_sem]) (by kernel_rfl) ?_;revert h;refine bS fun q b3 h=>?_;obtain ⟨ec,ed,S⟩:=c5 b3;obtain ⟨eh,b4,b5,ca,T⟩:=K.el _ _ S;obtain rfl:b4=[.int .i64 q]:=ca;cases b5;have cb:=T 0 _ rfl;simp only[go_sem] at cb;clear T S;revert h;refine bS fun cd cf h=>?_;cases h;obtain ⟨cl,U⟩:=dr cf;simp only[*,go_sem];refine aA fun V cy W=>?_;have cS:=aR.cons W b2;try simp only[av] at W
  simp only[*,go_sem];refine dW (r:=dI) (l:=d) (x:=(⟨q,n⟩:bL)) (cs:=#[.int .i64 q,.int .i64 n]) (e2:=43) [(V,.cells #[.int .i64 q,.int .i64 n] 43),(i,bk u0 s1 (sl d57 d j) a b),(g,bz 29),(f,bk u0 s1 (sl d10 u0.props c) a b)] [] R cS cl rfl (by simp only[*,go_sem]) cy rfl rfl j8 j8 qL qN rfl qM (by decide) (by decide) (fun et X G B C ev=>?_);simp only[aV] at C;subst B;rw[<-U] at G;clear U;obtain ⟨d111,c0,rfl,da⟩:=G.len;refine ⟨⟨ro,(V,.cells #[.int .i64 q,.int .i64 n] 43)::(i,bk u0 s1 (sl d57 d j) a b)::(g,bz 29)::(f,bk u0 s1 (sl d10 u0.props c) a b)::X⟩,Le.refl _,?_⟩;refine ⟨by simp only[*,go_sem],bV ?_⟩;simp only[*,go_sem];refine ay hJ fun eQ=>?_;apply ak hJ;simp only[*,go_sem];refine ⟨E,Nat.lt_succ_self _,_,Le.sub (List.Sublist.cons _ (List.Sublist.refl _)),d111,c0,X,(IntKind.i64.wrap (u+1)),cd,F,rfl,G,da,?_⟩;simp only[*,go_sem]
 cases h;apply bR;simp only[go_sem];obtain rfl:=sI F;clear F;have h:=bm;dsimp only[aC] at h;cases h;apply ag hJ;refine ay hJ fun eS=>?_;apply ak hJ;simp only[*,go_sem];refine ay hJ fun Y=>?_;obtain ⟨e0,Z,db,ab,dd⟩:=R.eR [(i,bk u0 s1 (sl d57 d j) a b),(g,bk u0 s1 (sl d57 d j) a b),(f,bk u0 s1 (sl d10 u0.props c) a b)] [] Y (aD.cons a4 (aD.cons a2 (aD.cons ar (aD.nil _))));clear Y;refine cz hJ dd ?_;obtain ⟨e1,e3,-⟩:=ab.op;replace k:=k.mono Z;simp only[bq] at db;apply aE;simp only[*,go_sem];exact ⟨_,Z,Le.sub (List.nil_sublist _),_,_,_,_,rfl,⟨k.e,ab,k.y,k.t⟩⟩
def I3 (u0:aj)(a:(List Int))(st:(Int×(List bA))):Option (Fl (Int×(List bA)) aj):=
 cond (decide (st.1<(a.length:Int))) (af (bh a st.1) fun b=>af (bh u0.told b) fun c=>af (cG st.2 ([c])) fun d=>some (.nx ((IntKind.i64.wrap (st.1+1)),d))) (some (.bk (st.1,st.2)))
def yE (u0:aj)(a:(List Int)):Option aj:=
 af (aU (I3 u0 a) fu (0,([]:List bA))) fun o=>aC o (fun b=>some (⟨u0.bB,u0.bH,u0.aO,u0.ax,u0.props,u0.an,b.2⟩:aj)) (fun _ _=>none) (fun r=>some r)
def yF :Option aj:=
 af (gO 1 2) fun a=>af (rJ 10 12) fun b=>af (rJ 10 10) fun c=>some (⟨20,2,a,[(⟨0,2⟩:bY),(⟨8,4⟩:bY),(⟨14,4⟩:bY)],([]:(List bL)),[(⟨2,b⟩:bO),(⟨4,c⟩:bO)],([]:(List bA))⟩:aj)
theorem I4 {ro:Addr->Option Value}{r:aj}(h:yF=some r):eW Tryz.prog 44 #[] ro (fun v aN=>∃m w1 w2 w3,v=bv r m w1 w2 w3/\bQ aN r m w1 w2 w3):=by
 unfold yF at h;refine aF.go Tryz.func44 rfl Tryz.ntmps44 Tryz.results44 (by simp) fun main J hJ A H hd hs=>?_;clear hs;apply ah hJ;simp only[*,go_sem];refine aA fun n r1 n1=>?_;try simp only[av] at n1
 apply ag hJ;refine ay hJ fun C=>?_;apply ak hJ;revert h;refine bS fun g D h=>?_;simp only[*,go_sem];refine bn hJ _ (iE 1 2 D) (aJ ?_);revert h;refine bS fun a E h=>?_;simp only[*,go_sem];refine aA fun b5 p q=>?_;have F:=aR.cons q C;try simp only[av] at q
 refine bn hJ _ (uG 10 12 E) (aJ ?_);revert h;refine bS fun c G h=>?_;cases h;simp only[*,go_sem];refine bn hJ _ (uG 10 10 G) (aJ ?_);simp only[*,go_sem];refine aA fun d i s=>?_;have I:=aR.cons s F;try simp only[av] at s
 simp only[*,go_sem];refine ay hJ fun t=>?_;obtain ⟨u,j,w⟩:=gj (b:=b5) (o:=(.cells #[.int .i64 0,.int .i64 2,.int .i64 8,.int .i64 4,.int .i64 14,.int .i64 4] 129)) [(d,.cells #[.int .i64 2,.int .i64 a.low,.int .i64 a.high,.int .i64 4,.int .i64 c.low,.int .i64 c.high] 47)] ((n,.cells #[.int .i64 20,.int .i64 2,.int .i64 g.num,.int .i64 g.den,.slice (some ⟨b5,0,none⟩) 3 3,.slice none 0 0,.slice (some ⟨d,0,none⟩) 2 2,.slice none 0 0] 29)::[]) t p (aD.cons i (aD.cons r1 (aD.nil _)));clear t;have f:az eT (bU ro b5 (.cells #[.int .i64 0,.int .i64 2,.int .i64 8,.int .i64 4,.int .i64 14,.int .i64 4] 129)) (.slice (some ⟨b5,0,none⟩) 3 3) [(⟨0,2⟩:bY),(⟨8,4⟩:bY),(⟨14,4⟩:bY)]:=(az.flat (r:=eT) (e:=129) (cs:=#[.int .i64 0,.int .i64 2,.int .i64 8,.int .i64 4,.int .i64 14,.int .i64 4]) bY.cells ([(⟨0,2⟩:bY),(⟨8,4⟩:bY),(⟨14,4⟩:bY)]) (fun _=>rfl) p rfl (by simp))
 generalize bU ro b5 (.cells #[.int .i64 0,.int .i64 2,.int .i64 8,.int .i64 4,.int .i64 14,.int .i64 4] 129)=x at u j w f;refine cz hJ w ?_;obtain ⟨K,L,-⟩:=f.op;replace i:=j.hd;replace r1:=j.tl.hd;simp only[bq] at j;refine ay hJ fun y=>?_;obtain ⟨k,z,B⟩:=gj (b:=d) (o:=(.cells #[.int .i64 2,.int .i64 a.low,.int .i64 a.high,.int .i64 4,.int .i64 c.low,.int .i64 c.high] 47)) [] ((n,.cells #[.int .i64 20,.int .i64 2,.int .i64 g.num,.int .i64 g.den,.slice (some ⟨b5,0,none⟩) ([(⟨0,2⟩:bY),(⟨8,4⟩:bY),(⟨14,4⟩:bY)]).length 3,.slice none 0 0,.slice (some ⟨d,0,none⟩) 2 2,.slice none 0 0] 29)::[]) y i (aD.cons r1 (aD.nil _));clear y;have l:az ej (bU x d (.cells #[.int .i64 2,.int .i64 a.low,.int .i64 a.high,.int .i64 4,.int .i64 c.low,.int .i64 c.high] 47)) (.slice (some ⟨d,0,none⟩) 2 2) [(⟨2,a⟩:bO),(⟨4,c⟩:bO)]:=(az.flat (r:=ej) (e:=47) (cs:=#[.int .i64 2,.int .i64 a.low,.int .i64 a.high,.int .i64 4,.int .i64 c.low,.int .i64 c.high]) bO.cells ([(⟨2,a⟩:bO),(⟨4,c⟩:bO)]) (fun _=>rfl) i rfl (by simp))
 generalize bU x d (.cells #[.int .i64 2,.int .i64 a.low,.int .i64 a.high,.int .i64 4,.int .i64 c.low,.int .i64 c.high] 47)=M at k z B l;refine cz hJ B ?_;obtain ⟨N,O,-⟩:=l.op;replace f:=f.mono k;simp only[bq] at z;apply aE;simp only[*,go_sem];exact ⟨_,(u).trans k,Le.sub (List.nil_sublist _),_,_,_,_,rfl,f,az.nil _ _,l,az.nil _ _⟩
def I5 (u0:Int)(st:((List Int)×Int)):Option (Fl ((List Int)×Int) (List Int)):=
 cond (decide (st.2<u0)) (af (cG st.1 ([st.2])) fun a=>some (.nx (a,(IntKind.i64.wrap (st.2+1))))) (some (.bk (st.1,st.2)))
def CD (u0:Int):Option (List Int):=
 af (aU (I5 u0) fu (([]:List Int),0)) fun o=>aC o (fun a=>some a.1) (fun _ _=>none) (fun r=>some r)
def I6 (u0:(List Int))(a:(List Int))(st:(Bool×Int)):Option (Fl (Bool×Int) Bool):=
 cond (decide (st.2<(u0.length:Int))) (cond (decide (st.2<(a.length:Int))) (af (bh u0 st.2) fun b=>af (bh a st.2) fun c=>cond ((b != c)) (some (.rt (decide (b<c)))) (some (.nx (st.1,(IntKind.i64.wrap (st.2+1)))))) (some (.bk (st.1,st.2)))) (some (.bk (st.1,st.2)))
def I7 (u0:(List Int))(a:(List Int)):Option Bool:=
 af (aU (I6 u0 a) fu (false,0)) fun o=>aC o (fun b=>some (decide ((u0.length:Int)<(a.length:Int)))) (fun _ _=>none) (fun r=>some r)
def nL (u0:(List Int))(a:(List Int)):Option Bool:=
 cond (decide ((u0.length:Int)<(a.length:Int))) (some true) (cond (((u0.length:Int)==(a.length:Int))) (af (I7 u0 a) fun b=>some b) (some false))
def rM (u0:aj)(st:(Int×Int)):Option (Fl (Int×Int) Int):=
 cond (decide (st.2<(u0.ax.length:Int))) (af (bh u0.ax st.2) fun a=>af (eU a.aM 0 (IntKind.i64.wrap (u0.bB - 1))) fun b=>cond (!b) (some (.rt 1)) (af (eU a.high 0 60) fun c=>cond (!c) (some (.rt 1)) (cond (decide (0<st.2)) (af (bh u0.ax (IntKind.i64.wrap (st.2 - 1))) fun d=>cond (decide (a.aM<=d.aM)) (some (.rt 7)) (some (.nx (st.1,(IntKind.i64.wrap (st.2+1)))))) (some (.nx (st.1,(IntKind.i64.wrap (st.2+1)))))))) (some (.bk (st.1,st.2)))
def nM (u0:aj):Option Int:=
 af (eU (u0.ax.length:Int) 2 5) fun a=>cond (!a) (some 2) (af (aU (rM u0) fu (0,0)) fun o=>aC o (fun b=>some 0) (fun _ _=>none) (fun r=>some r))
theorem I8 {ro:Addr->Option Value}(u0:aj){s1 i j k:Value}(l:bQ ro u0 s1 i j k){r:Int}(h:nM u0=some r):aF Tryz.prog 138 #[bv u0 s1 i j k] ⟨ro,[]⟩ (fun v _=>v= .int .i64 r):=by
 obtain ⟨d3,c4,rfl,al,ao,-⟩:=id l.e;unfold nM at h;refine aF.go Tryz.func138 rfl Tryz.ntmps138 Tryz.results138 (by simp) fun main J hJ A w hd hs=>?_;have x:=hs 0;clear hs;apply ah hJ;simp only[*,go_sem];refine aA fun y ar z=>?_;try simp only[av] at z
 refine ag hJ (ah hJ ?_);revert h;refine bS fun a0 B h=>?_;simp only[*,go_sem];refine bn hJ _ (iZ (u0.ax.length:Int) 2 5 B) (aJ ?_);simp only[*,go_sem];revert h;refine aY hJ (fun C h=>?_) fun C h=>?_
 .cases h;apply ah hJ;simp only[*,go_sem];apply aE;simp only[*,go_sem]
 refine aI hJ (ag hJ ?_);apply ah hJ;simp only[*,go_sem];apply aT hJ;revert h;refine bS fun D d f=>?_;refine bT hJ (rg 10 39 [2,3,4]) (fun m q F'=>∃(b:Int) (c:Int),aU (rM u0) m (b,c)=some D/\F'=⟨ro,(y,bk u0 (sl d3 u0.ax c4) i j k)::[]⟩/\slot q 2= .int .i64 b/\slot q 3= .int .i64 c) fu ?_ ?_
 .refine ⟨0,0,d,rfl,?_⟩;simp only[*,go_sem]
 rintro g a2 F' s ⟨b,c,d,rfl,a3,a4⟩;obtain ⟨E,F,G⟩:=s.pick [1] (by decide);simp only[*,go_sem] at E F G;clear s w hd x;obtain _|g:=g
 .exact absurd d (by simp only[aU,reduceCtorEq,not_false_eq_true])
 revert d;refine bS fun a5 h a=>?_;unfold rM at h;try dsimp only at h
 refine ag hJ (ah hJ ?_);simp only[*,go_sem];revert h;refine aY hJ (fun H h=>?_) fun H h=>?_
 .refine aI hJ (ag hJ ?_);refine aT hJ (ag hJ ?_);apply ak hJ;revert h;refine bS fun n I h=>?_;obtain ⟨a6,a7,t⟩:=c5 I;obtain ⟨a8,K,L,M,o⟩:=l.e.el _ _ t;obtain rfl:K=n.cells:=M;cases L;have N:=o 0 _ rfl;simp only[go_sem] at N;have O:=o 1 _ rfl;simp only[go_sem] at O;clear o t;simp only[*,go_sem];refine aA fun a9 ba P=>?_;try simp only[av] at P
  refine ag hJ (ah hJ ?_);revert h;refine bS fun bb Q h=>?_;simp only[*,go_sem];refine bn hJ _ (iZ n.aM 0 (IntKind.i64.wrap (u0.bB - 1)) Q) (aJ ?_);revert h;refine cS (fun R h=>?_) fun R h=>?_
  .cases h;simp only[*,go_sem];refine cw hJ ?_;apply ah hJ;simp only[*,go_sem];obtain rfl:=sI a;clear a;have h:=f;dsimp only[aC] at h;cases h;apply aE;simp only[*,go_sem]
  revert h;refine bS fun bc S h=>?_;simp only[*,go_sem];refine bn hJ _ (iZ n.high 0 60 S) (aJ ?_);simp only[*,go_sem];revert h;refine aY hJ (fun T h=>?_) fun T h=>?_
  .cases h;apply ah hJ;simp only[*,go_sem];obtain rfl:=sI a;clear a;have h:=f;dsimp only[aC] at h;cases h;apply aE;simp only[*,go_sem]
  refine aI hJ (ag hJ ?_);refine de hJ mixed 14 2 (by simp only[*,go_sem]) (by kernel_rfl) ?_;revert h;refine cS (fun U h=>?_) fun U h=>?_
  .revert h;refine bS fun V W h=>?_;obtain ⟨bd,bj,u⟩:=c5 W;obtain ⟨bl,X,Y,Z,p⟩:=l.e.el _ _ u;obtain rfl:X=V.cells:=Z;cases Y;have ab:=p 0 _ rfl;simp only[go_sem] at ab;have ad:=p 1 _ rfl;simp only[go_sem] at ad;clear p u;simp only[*,go_sem];revert h;refine aY hJ (fun ae h=>?_) fun ae h=>?_
   .cases h;apply ah hJ;simp only[*,go_sem];obtain rfl:=sI a;clear a;have h:=f;dsimp only[aC] at h;cases h;apply aE;simp only[*,go_sem]
   cases h;refine aI hJ (ak hJ ?_);simp only[*,go_sem];refine ⟨g,Nat.lt_succ_self _,_,Le.sub (List.Sublist.cons _ (List.Sublist.refl _)),b,(IntKind.i64.wrap (c+1)),a,rfl,?_⟩;simp only[*,go_sem]
  cases h;simp only[*,go_sem];refine cn hJ ?_;refine aI hJ (ak hJ ?_);simp only[*,go_sem];refine ⟨g,Nat.lt_succ_self _,_,Le.sub (List.Sublist.cons _ (List.Sublist.refl _)),b,(IntKind.i64.wrap (c+1)),a,rfl,?_⟩;simp only[*,go_sem]
 cases h;apply bR;simp only[go_sem];obtain rfl:=sI a;clear a;have h:=f;dsimp only[aC] at h;cases h;apply ah hJ;simp only[*,go_sem];apply aE;simp only[*,go_sem]
def CE (u0:aj)(st:(Int×Int)):Option (Fl (Int×Int) Int):=
 cond (decide (st.2<(u0.told.length:Int))) (af (bh u0.told st.2) fun a=>af (pq u0 a.aS) fun b=>cond (!b) (some (.rt 6)) (some (.nx (st.1,(IntKind.i64.wrap (st.2+1)))))) (some (.bk (st.1,st.2)))
def CF (u0:aj)(st:(Int×Int)):Option (Fl (Int×Int) Int):=
 cond (decide (st.2<(u0.an.length:Int))) (af (bh u0.an st.2) fun a=>af (eU a.back 1 20) fun b=>cond (!b) (some (.rt 1)) (af (nG a.high 0 60) fun c=>cond (!c) (some (.rt 1)) (cond (decide (3<=(IntKind.i64.wrap (a.high.high - a.high.low)))) (some (.rt 1)) (some (.nx (st.1,(IntKind.i64.wrap (st.2+1)))))))) (some (.bk (st.1,st.2)))
def rN (u0:aj)(st:(Int×Int)):Option (Fl (Int×Int) Int):=
 cond (decide (st.2<(u0.props.length:Int))) (af (bh u0.props st.2) fun a=>af (nE u0 a.place) fun b=>cond (!b) (some (.rt 6)) (af (eU a.dg 1 20) fun c=>cond (!c) (some (.rt 1)) (some (.nx (st.1,(IntKind.i64.wrap (st.2+1))))))) (some (.bk (st.1,st.2)))
def yG (u0:aj)(st:(Int×Int)):Option (Fl (Int×Int) Int):=
 cond (decide (st.2<(u0.an.length:Int))) (af (bh u0.an st.2) fun a=>af (eU a.back 1 20) fun b=>cond (!b) (some (.rt 1)) (af (nG a.high 0 60) fun c=>cond (!c) (some (.rt 1)) (cond (decide (3<=(IntKind.i64.wrap (a.high.high - a.high.low)))) (some (.rt 1)) (some (.nx (st.1,(IntKind.i64.wrap (st.2+1)))))))) (some (.bk (st.1,st.2)))
def yH (u0:aj)(st:(Int×Int)):Option (Fl (Int×Int) Int):=
 cond (decide (st.2<(u0.told.length:Int))) (af (bh u0.told st.2) fun a=>af (pq u0 a.aS) fun b=>cond (!b) (some (.rt 6)) (some (.nx (st.1,(IntKind.i64.wrap (st.2+1)))))) (some (.bk (st.1,st.2)))
def nN (u0:aj):Option Int:=
 cond (decide (3<(u0.props.length:Int))) (some 2) (af (aU (rN u0) fu (0,0)) fun o=>aC o (fun a=>af (eU (u0.an.length:Int) 1 3) fun b=>cond (!b) (some 2) (af (aU (yG u0) fu (a.1,0)) fun o=>aC o (fun c=>cond (decide (3<(u0.told.length:Int))) (some 2) (af (aU (yH u0) fu (c.1,0)) fun o=>aC o (fun d=>some 0) (fun _ _=>none) (fun r=>some r))) (fun _ _=>none) (fun r=>some r))) (fun _ _=>none) (fun r=>some r))
theorem I9 {ro:Addr->Option Value}(u0:aj){s1 N O P:Value}(b:bQ ro u0 s1 N O P){r:Int}(h:nN u0=some r):aF Tryz.prog 139 #[bv u0 s1 N O P] ⟨ro,[]⟩ (fun v _=>v= .int .i64 r):=by
 obtain ⟨d10,w,rfl,ec,ed,-⟩:=id b.p;obtain ⟨d17,x,rfl,eh,et,-⟩:=id b.y;obtain ⟨d24,z,rfl,ev,eQ,-⟩:=id b.t;unfold nN at h;refine aF.go Tryz.func139 rfl Tryz.ntmps139 Tryz.results139 (by simp) fun main J hJ A ao hd hs=>?_;have ar:=hs 0;clear hs;apply ah hJ;simp only[*,go_sem];refine aA fun B eS a0=>?_;try simp only[av] at a0
 refine ag hJ (ah hJ ?_);simp only[*,go_sem];revert h;refine aY hJ (fun a2 h=>?_) fun a2 h=>?_
 .cases h;apply ah hJ;simp only[*,go_sem];apply aE;simp only[*,go_sem]
 refine aI hJ (ag hJ ?_);apply ah hJ;simp only[*,go_sem];apply aT hJ;revert h;refine bS fun a3 i C=>?_;refine bT hJ (rg 11 24 [2,3]) (fun m c F'=>∃(e:Int) (j:Int),aU (rN u0) m (e,j)=some a3/\F'=⟨ro,(B,bk u0 s1 (sl d10 u0.props w) (sl d17 u0.an x) (sl d24 u0.told z))::[]⟩/\slot c 2= .int .i64 e/\slot c 3= .int .i64 j) fu ?_ ?_
 .refine ⟨0,0,i,rfl,?_⟩;simp only[*,go_sem]
 rintro D e0 F' Q ⟨e,j,i,rfl,a4,a5⟩;obtain ⟨R,S,T⟩:=Q.pick [1] (by decide);simp only[*,go_sem] at R S T;clear Q ao hd ar;obtain _|D:=D
 .exact absurd i (by simp only[aU,reduceCtorEq,not_false_eq_true])
 revert i;refine bS fun e1 h d=>?_;unfold rN at h;try dsimp only at h
 refine ag hJ (ah hJ ?_);simp only[*,go_sem];revert h;refine aY hJ (fun a6 h=>?_) fun a6 h=>?_
 .refine aI hJ (ag hJ ?_);refine aT hJ (ag hJ ?_);apply ag hJ;refine de hJ mixed 9 1 (by simp only[*,go_sem]) (by kernel_rfl) ?_;revert h;refine bS fun E a7 h=>?_;obtain ⟨e2,e3,U⟩:=c5 a7;obtain ⟨fa,a8,a9,ba,G⟩:=b.p.el _ _ U;obtain rfl:a8=E.cells:=ba;cases a9;have bb:=G 0 _ rfl;simp only[go_sem] at bb;have bc:=G 1 _ rfl;simp only[go_sem] at bc;clear G U;revert h;refine bS fun fb bd h=>?_;simp only[*,go_sem];refine ⟨_,bI hJ fun F H=>IX u0 (b.mono (cp H)) E.place bd,ck ?_⟩;simp only[*,go_sem];revert h;refine aY hJ (fun bj h=>?_) fun bj h=>?_
  .cases h;apply ah hJ;simp only[*,go_sem];obtain rfl:=sI d;clear d;have h:=C;dsimp only[aC] at h;cases h;apply aE;simp only[*,go_sem]
  refine aI hJ (ag hJ ?_);apply ak hJ;revert h;refine bS fun ff bl h=>?_;simp only[*,go_sem];refine bn hJ _ (iZ E.dg 1 20 bl) (aJ ?_);simp only[*,go_sem];revert h;refine aY hJ (fun bm h=>?_) fun bm h=>?_
  .cases h;apply ah hJ;simp only[*,go_sem];obtain rfl:=sI d;clear d;have h:=C;dsimp only[aC] at h;cases h;apply aE;simp only[*,go_sem]
  cases h;refine aI hJ (ak hJ ?_);simp only[*,go_sem];refine ⟨D,Nat.lt_succ_self _,_,Le.sub (List.Sublist.refl _),e,(IntKind.i64.wrap (j+1)),d,rfl,?_⟩;simp only[*,go_sem]
 cases h;apply bR;simp only[go_sem];obtain rfl:=sI d;clear d;have h:=C;dsimp only[aC] at h;refine ag hJ (ah hJ ?_);revert h;refine bS fun fg bo h=>?_;simp only[*,go_sem];refine bn hJ _ (iZ (u0.an.length:Int) 1 3 bo) (aJ ?_);simp only[*,go_sem];revert h;refine aY hJ (fun br h=>?_) fun br h=>?_
 .cases h;apply ah hJ;simp only[*,go_sem];apply aE;simp only[*,go_sem]
 refine aI hJ (ag hJ ?_);apply ah hJ;simp only[*,go_sem];apply aT hJ;revert h;refine bS fun bs k l=>?_;refine bT hJ (rg 40 32 [2,4,5]) (fun m c F'=>∃(f:Int) (n:Int),aU (CF u0) m (f,n)=some bs/\F'=⟨ro,(B,bk u0 s1 (sl d10 u0.props w) (sl d17 u0.an x) (sl d24 u0.told z))::[]⟩/\slot c 2= .int .i64 f/\slot c 4= .int .i64 n) fu ?_ ?_
 .refine ⟨e,0,k,rfl,?_⟩;simp only[*,go_sem]
 rintro I fi F' V ⟨f,n,k,rfl,bz,b0⟩;obtain ⟨W,X,Y⟩:=V.pick [1] (by decide);simp only[*,go_sem] at W X Y;clear V R S T a4 a5;obtain _|I:=I
 .exact absurd k (by simp only[aU,reduceCtorEq,not_false_eq_true])
 revert k;refine bS fun fl h a=>?_;unfold CF at h;try dsimp only at h
 refine ag hJ (ah hJ ?_);simp only[*,go_sem];revert h;refine aY hJ (fun b1 h=>?_) fun b1 h=>?_
 .refine aI hJ (ag hJ ?_);refine aT hJ (ag hJ ?_);apply ak hJ;revert h;refine bS fun K b2 h=>?_;obtain ⟨fp,fq,Z⟩:=c5 b2;obtain ⟨fr,b3,b4,b5,o⟩:=b.y.el _ _ Z;obtain rfl:b3=K.cells:=b5;cases b4;have ca:=o 0 _ rfl;simp only[go_sem] at ca;have cb:=o 1 _ rfl;simp only[go_sem] at cb;have cd:=o 2 _ rfl;simp only[go_sem] at cd;clear o Z;simp only[*,go_sem];refine aA fun fs ft cf=>?_;try simp only[av] at cf
  apply ah hJ;revert h;refine bS fun fv cl h=>?_;simp only[*,go_sem];refine bn hJ _ (iZ K.back 1 20 cl) (aJ ?_);revert h;refine cS (fun cy h=>?_) fun cy h=>?_
  .cases h;simp only[*,go_sem];refine cw hJ ?_;apply ah hJ;simp only[*,go_sem];obtain rfl:=sI a;clear a;have h:=l;dsimp only[aC] at h;cases h;apply aE;simp only[*,go_sem]
  revert h;refine bS fun fw c0 h=>?_;simp only[*,go_sem];refine bn hJ _ (I0 K.high 0 60 c0) (aJ ?_);revert h;refine cS (fun da h=>?_) fun da h=>?_
  .cases h;simp only[*,go_sem];refine cw hJ ?_;apply ah hJ;simp only[*,go_sem];obtain rfl:=sI a;clear a;have h:=l;dsimp only[aC] at h;cases h;apply aE;simp only[*,go_sem]
  simp only[*,go_sem];revert h;refine aY hJ (fun db h=>?_) fun db h=>?_
  .cases h;apply ah hJ;simp only[*,go_sem];obtain rfl:=sI a;clear a;have h:=l;dsimp only[aC] at h;cases h;apply aE;simp only[*,go_sem]
  cases h;refine aI hJ (ak hJ ?_);simp only[*,go_sem];refine ⟨I,Nat.lt_succ_self _,_,Le.sub (List.Sublist.cons _ (List.Sublist.refl _)),f,(IntKind.i64.wrap (n+1)),a,rfl,?_⟩;simp only[*,go_sem]
 cases h;apply bR;simp only[go_sem];obtain rfl:=sI a;clear a;have h:=l;dsimp only[aC] at h;refine ag hJ (ah hJ ?_);simp only[*,go_sem];revert h;refine aY hJ (fun dd h=>?_) fun dd h=>?_
 .cases h;apply ah hJ;simp only[*,go_sem];apply aE;simp only[*,go_sem]
 refine aI hJ (ag hJ ?_);apply ah hJ;simp only[*,go_sem];apply aT hJ;revert h;refine bS fun df q ab=>?_;refine bT hJ (rg 76 16 [2,6]) (fun m c F'=>∃(s:Int) (u:Int),aU (CE u0) m (s,u)=some df/\F'=⟨ro,(B,bk u0 s1 (sl d10 u0.props w) (sl d17 u0.an x) (sl d24 u0.told z))::[]⟩/\slot c 2= .int .i64 s/\slot c 6= .int .i64 u) fu ?_ ?_
 .refine ⟨f,0,q,rfl,?_⟩;simp only[*,go_sem]
 rintro L fx F' ad ⟨s,u,q,rfl,fz,fP⟩;obtain ⟨dk,dp,dq⟩:=ad.pick [1] (by decide);simp only[*,go_sem] at dk dp dq;clear ad W X Y bz b0;obtain _|L:=L
 .exact absurd q (by simp only[aU,reduceCtorEq,not_false_eq_true])
 revert q;refine bS fun fQ h g=>?_;unfold CE at h;try dsimp only at h
 refine ag hJ (ah hJ ?_);simp only[*,go_sem];revert h;refine aY hJ (fun ds h=>?_) fun ds h=>?_
 .refine aI hJ (ag hJ ?_);refine aT hJ (ag hJ ?_);refine de hJ mixed 9 1 (by simp only[*,go_sem]) (by kernel_rfl) ?_;revert h;refine bS fun ae dt h=>?_;obtain ⟨fS,fU,al⟩:=c5 dt;obtain ⟨gg,du,dv,dC,M⟩:=b.t.el _ _ al;obtain rfl:du=ae.cells:=dC;cases dv;have dE:=M 0 _ rfl;simp only[go_sem] at dE;have dT:=M 1 _ rfl;simp only[go_sem] at dT;clear M al;revert h;refine bS fun gl ea h=>?_;simp only[*,go_sem];refine ⟨_,bI hJ fun F H=>IY u0 (b.mono (cp H)) ae.aS ea,ck ?_⟩;simp only[*,go_sem];revert h;refine aY hJ (fun eb h=>?_) fun eb h=>?_
  .cases h;apply ah hJ;simp only[*,go_sem];obtain rfl:=sI g;clear g;have h:=ab;dsimp only[aC] at h;cases h;apply aE;simp only[*,go_sem]
  cases h;refine aI hJ (ak hJ ?_);simp only[*,go_sem];refine ⟨L,Nat.lt_succ_self _,_,Le.sub (List.Sublist.refl _),s,(IntKind.i64.wrap (u+1)),g,rfl,?_⟩;simp only[*,go_sem]
 cases h;apply bR;simp only[go_sem];obtain rfl:=sI g;clear g;have h:=ab;dsimp only[aC] at h;cases h;apply ah hJ;simp only[*,go_sem];apply aE;simp only[*,go_sem]
def jO (u0:aj):Option Int:=
 af (eU u0.bB 2 60) fun c=>cond (!c) (some 1) (af (eU u0.bH 0 60) fun d=>cond (!d) (some 1) (af (eU u0.aO.den 1 20) fun e=>cond (!e) (some 1) (af (eU u0.aO.num 0 20) fun f=>cond (!f) (some 1) (af (ja u0.aO.num u0.aO.den) fun a=>cond (!((a.num==u0.aO.num)&&(a.den==u0.aO.den))) (some 3) (af (nM u0) fun b=>cond ((b != 0)) (some b) (af (nN u0) fun g=>some g))))))
theorem Ja {ro:Addr->Option Value}(u0:aj){s1 a b c:Value}(d:bQ ro u0 s1 a b c){r:Int}(h:jO u0=some r):aF Tryz.prog 78 #[bv u0 s1 a b c] ⟨ro,[]⟩ (fun v _=>v= .int .i64 r):=by
 unfold jO at h;refine aF.go Tryz.func78 rfl Tryz.ntmps78 Tryz.results78 (by simp) fun main J hJ A e hd hs=>?_;have f:=hs 0;clear hs;apply ah hJ;simp only[*,go_sem];refine aA fun E G g=>?_;try simp only[av] at g
 refine ag hJ (ah hJ ?_);revert h;refine bS fun H i h=>?_;simp only[*,go_sem];refine bn hJ _ (iZ u0.bB 2 60 i) (aJ ?_);revert h;refine cS (fun j h=>?_) fun j h=>?_
 .cases h;simp only[*,go_sem];refine cw hJ ?_;apply ah hJ;simp only[*,go_sem];apply aE;simp only[*,go_sem]
 revert h;refine bS fun I k h=>?_;simp only[*,go_sem];refine bn hJ _ (iZ u0.bH 0 60 k) (aJ ?_);revert h;refine cS (fun l h=>?_) fun l h=>?_
 .cases h;simp only[*,go_sem];refine cw hJ ?_;apply ah hJ;simp only[*,go_sem];apply aE;simp only[*,go_sem]
 revert h;refine bS fun K m h=>?_;simp only[*,go_sem];refine bn hJ _ (iZ u0.aO.den 1 20 m) (aJ ?_);revert h;refine cS (fun n h=>?_) fun n h=>?_
 .cases h;simp only[*,go_sem];refine cw hJ ?_;apply ah hJ;simp only[*,go_sem];apply aE;simp only[*,go_sem]
 revert h;refine bS fun L o h=>?_;simp only[*,go_sem];refine bn hJ _ (iZ u0.aO.num 0 20 o) (aJ ?_);simp only[*,go_sem];revert h;refine aY hJ (fun p h=>?_) fun p h=>?_
 .cases h;apply ah hJ;simp only[*,go_sem];apply aE;simp only[*,go_sem]
 refine aI hJ (ag hJ ?_);apply ag hJ;refine de hJ mixed 10 1 (by simp only[*,go_sem]) (by kernel_rfl) ?_;revert h;refine bS fun M q h=>?_;simp only[*,go_sem];refine ⟨_,bI hJ fun F N=>IZ u0.aO.num u0.aO.den q,ck ?_⟩;simp only[*,go_sem];revert h;refine aY hJ (fun s h=>?_) fun s h=>?_
 .cases h;apply ag hJ;refine eX [1,2] fun O t u w=>?_;simp only[*,go_sem] at t u w;clear e hd f;apply ak hJ;simp only[*,go_sem];apply aE;simp only[*,go_sem]
 refine aI hJ (ag hJ ?_);apply ag hJ;refine eX [1,2] fun P x y z=>?_;simp only[*,go_sem] at x y z;clear e hd f;apply ak hJ;revert h;refine bS fun Q B h=>?_;simp only[*,go_sem];refine bn hJ _ (I8 u0 (d.mono aL) B) (aJ ?_);simp only[*,go_sem];apply ah hJ;simp only[*,go_sem];revert h;refine aY hJ (fun C h=>?_) fun C h=>?_
 .cases h;apply ah hJ;simp only[*,go_sem];apply aE;simp only[*,go_sem]
 refine aI hJ (ag hJ ?_);apply ak hJ;revert h;refine bS fun R D h=>?_;cases h;simp only[*,go_sem];refine bn hJ _ (I9 u0 (d.mono aL) D) (aJ ?_);simp only[*,go_sem];apply aE;simp only[*,go_sem]
def uH (u0:aP):Option Int:=
 af (eU u0.back 1 20) fun a=>cond (!a) (some 1) (af (eU u0.high 0 60) fun b=>cond (!b) (some 1) (some 0))
def uI (u0:aj)(b:aP):Option Int:=
 af (jO u0) fun a=>cond ((a != 0)) (some a) (af (uH b) fun c=>some c)
theorem Jb:Tryz.prog.underlying 3=some (.int .i64):=by kernel_rfl
theorem Jc:Tryz.prog.underlying 5=some (.int .u8):=by kernel_rfl
attribute [go_sem] Jb Jc
def pG (u0:aj):Option Bool:=
 af (nJ u0) fun a=>cond (!a) (af (jO u0) fun b=>some (b==0)) (some false)
theorem Jd {ro:Addr->Option Value}(u0:aj){s1 b c d:Value}(a:bQ ro u0 s1 b c d){r:Bool}(h:pG u0=some r):aF Tryz.prog 16 #[bv u0 s1 b c d] ⟨ro,[]⟩ (fun v _=>v= .bool r):=by
 obtain ⟨d3,c4,rfl,k,l,-⟩:=id a.e;obtain ⟨d10,m,rfl,n,o,-⟩:=id a.p;obtain ⟨d17,q,rfl,s,u,-⟩:=id a.y;obtain ⟨d24,w,rfl,x,z,-⟩:=id a.t;unfold pG at h;refine aF.go Tryz.func16 rfl Tryz.ntmps16 Tryz.results16 (by simp) fun main J hJ A B hd hs=>?_;have C:=hs 0;clear hs;apply ah hJ;simp only[*,go_sem];refine aA fun D E f=>?_;try simp only[av] at f
 apply ah hJ;revert h;refine bS fun F g h=>?_;simp only[*,go_sem];refine bn hJ _ (I1 u0 (a.mono aL) g) (aJ ?_);revert h;refine cS (fun i h=>?_) fun i h=>?_
 .revert h;refine bS fun G j h=>?_;cases h;simp only[*,go_sem];refine bn hJ _ (Ja u0 (a.mono aL) j) (aJ ?_);simp only[*,go_sem];apply aE;simp only[*,go_sem]
 cases h;simp only[*,go_sem];apply aE;simp only[*,go_sem]
def rO (u0:Int)(a:Int):Option aP:=
 af (gI (IntKind.i64.wrap u0) 20) fun b=>af (gI (IntKind.i64.wrap a) 61) fun c=>af (mm (IntKind.i64.wrap (1+b)) c) fun d=>some d
theorem Je {ro:Addr->Option Value}(u0:Int)(a:Int){r:aP}(h:rO u0 a=some r):aF Tryz.prog 18 #[.int .u8 u0,.int .u8 a] ⟨ro,[]⟩ (fun v _=>v=r.v):=by
 unfold rO at h;refine aF.go Tryz.func18 rfl Tryz.ntmps18 Tryz.results18 (by simp) fun main J hJ A g hd hs=>?_;have i:=hs 0;have k1:=hs 1;clear hs;apply ah hJ;simp only[*,go_sem];refine aA fun j r1 n1=>?_;try simp only[av] at n1
 apply ah hJ;revert h;refine bS fun d b h=>?_;obtain ⟨k,l⟩:=mZ b;clear b;revert h;refine bS fun e c h=>?_;obtain ⟨m,n⟩:=mZ c;clear c;revert h;refine bS fun o f h=>?_;cases h;simp only[*,go_sem];refine bn hJ _ (pE (IntKind.i64.wrap (1+d)) e f) (aJ ?_);simp only[*,go_sem];apply aE;simp only[*,go_sem]
def uJ (u0:aj)(c:aP)(st:(Int×Int×au)):Option (Fl (Int×Int×au) (Int×au)):=
 cond (decide (st.2.1<(u0.ax.length:Int))) (af (bh u0.ax st.2.1) fun b=>af (nF u0 c b.aM (⟨b.high,1⟩:au)) fun a=>cond ((st.2.1==0)) (some (.nx (st.2.1,(IntKind.i64.wrap (st.2.1+1)),a))) (af (mj st.2.2 a) fun d=>cond (d) (some (.nx (st.2.1,(IntKind.i64.wrap (st.2.1+1)),a))) (some (.nx (st.1,(IntKind.i64.wrap (st.2.1+1)),st.2.2))))) (some (.bk (st.1,st.2.1,st.2.2)))
def uK (u0:aj)(b:aP):Option (Int×au):=
 af (aU (uJ u0 b) fu (0,0,(⟨0,0⟩:au))) fun o=>aC o (fun a=>some (a.1,a.2.2)) (fun _ _=>none) (fun r=>some r)
def uL (u0:aj)(c:Int)(st:Int):Option (Fl Int au):=
 cond (decide ((IntKind.i64.wrap (st+1))<(u0.ax.length:Int))) (af (bh u0.ax st) fun a=>af (bh u0.ax (IntKind.i64.wrap (st+1))) fun b=>cond (decide (c<=b.aM)) (af (ja (IntKind.i64.wrap ((IntKind.i64.wrap (a.high*(IntKind.i64.wrap (b.aM - a.aM))))+(IntKind.i64.wrap ((IntKind.i64.wrap (b.high - a.high))*(IntKind.i64.wrap (c - a.aM)))))) (IntKind.i64.wrap (b.aM - a.aM))) fun d=>some (.rt d)) (some (.nx (IntKind.i64.wrap (st+1))))) (some (.bk st))
def rP (u0:aj)(a:Int):Option au:=
 af (aU (uL u0 a) fu 0) fun o=>aC o (fun b=>some (⟨0,0⟩:au)) (fun _ _=>none) (fun r=>some r)
def yI (u0:aj)(a:aP):Option au:=
 af (uK u0 a) fun b=>af (kC (⟨u0.bH,1⟩:au) b.2) fun c=>some c
def uM (u0:aj)(d:aP)(st:(Int×au)):Option (Fl (Int×au) (au×Bool)):=
 cond (decide (st.1<(u0.props.length:Int))) (af (bh u0.props st.1) fun a=>af (rP u0 a.place) fun b=>af (ja (IntKind.i64.wrap (b.num+(IntKind.i64.wrap (a.dg*b.den)))) b.den) fun e=>af (nF u0 d a.place e) fun c=>cond ((st.1==0)) (af (gv c c) fun f=>some (.nx ((IntKind.i64.wrap (st.1+1)),f))) (af (gv st.2 c) fun g=>some (.nx ((IntKind.i64.wrap (st.1+1)),g)))) (some (.bk (st.1,st.2)))
def lz (u0:aj)(a:aP):Option (au×Bool):=
 af (aU (uM u0 a) fu (0,(⟨0,0⟩:au))) fun o=>aC o (fun b=>some (b.2,decide (0<(u0.props.length:Int)))) (fun _ _=>none) (fun r=>some r)
def rQ (u0:aj)(b:aP):Option au:=
 af (uK u0 b) fun a=>af (mj a.2 (⟨u0.bH,1⟩:au)) fun e=>cond (e) (af (lz u0 b) fun c=>cond (c.2) (af (gv a.2 c.1) fun f=>af (kC (⟨u0.bH,1⟩:au) f) fun g=>af (gv g (⟨0,1⟩:au)) fun h=>some h) (af (kC (⟨u0.bH,1⟩:au) a.2) fun i=>af (gv i (⟨0,1⟩:au)) fun j=>some j)) (af (lz u0 b) fun d=>cond (d.2) (af (gv (⟨u0.bH,1⟩:au) d.1) fun k=>af (kC a.2 k) fun l=>af (gv l (⟨0,1⟩:au)) fun m=>some m) (af (kC a.2 (⟨u0.bH,1⟩:au)) fun n=>af (gv n (⟨0,1⟩:au)) fun o=>some o))
def uN (u0:aj)(a:aP):Option Bool:=
 af (rQ u0 a) fun b=>af (mj u0.aO b) fun c=>some c
def yJ (u0:aj)(b:(List Int))(st:(Bool×Int)):Option (Fl (Bool×Int) Bool):=
 cond (decide (st.2<(u0.told.length:Int))) (af (bh u0.told st.2) fun a=>af (bh b a.aS) fun c=>af (CC u0 a.aS c) fun d=>af (uN u0 d) fun e=>cond (!(e==a.bt)) (some (.rt false)) (some (.nx (st.1,(IntKind.i64.wrap (st.2+1)))))) (some (.bk (st.1,st.2)))
def yK (u0:aj)(a:(List Int)):Option Bool:=
 af (aU (yJ u0 a) fu (false,0)) fun o=>aC o (fun b=>some true) (fun _ _=>none) (fun r=>some r)
def CG (u0:aj)(a:aP):Option (au×Bool×Int):=
 af (uI u0 a) fun b=>cond ((b != 0)) (some ((⟨0,0⟩:au),false,b)) (af (lz u0 a) fun c=>some (c.1,c.2,0))
def dK {α:Type}(t:Nat->α->Option Int):Nat->List α->Option Int
 |_,[]=>none
 |i,x::l=>match t i x with
  |some r=>some r
  |none=>dK t (i+1) l
def iF {σ:Type}(o:Option Int)(s:σ):Fl σ Int:=match o with
 |some r=>.rt r
 |none=>.nx s
theorem rR {α σ:Type}{f:Nat->α->σ->Option (Fl σ Int)}{t:Nat->α->Option Int}:∀(l:List α) (i:Nat) (s:σ),(∀j x s,l[j]?=some x->f (i+j) x s=some (iF (t (i+j) x) s))->bE f i l s=some (iF (dK t i l) s)
 |[],i,s,_=>rfl
 |x::l,i,s,h=>by
  have h0:=h 0 x s rfl
  simp only[Nat.add_zero] at h0
  unfold bE dK
  rw[h0]
  cases ht:t i x with
  |some r=>rfl
  |none=>
   show bE f (i+1) l s=_
   exact rR l (i+1) s fun j y s a=>by
    have:=h (j+1) y s (by simpa using a)
    rwa [show i+(j+1)=i+1+j by omega] at this
theorem CH {α σ:Type}{f:σ×Int->Option (Fl (σ×Int) Int)}{t:Nat->α->Option Int}(l:List α)(h:∀(i:Nat) x s,l[i]?=some x->f (s,(i:Int))=some (iF (t i x) (s,((i+1:Nat):Int))))(a:∀s,f (s,(l.length:Int))=some (.bk (s,(l.length:Int)))):
  ∀(k i n:Nat) (s:σ),i+k=l.length->k<n->aU f n (s,(i:Int))=some (iF (dK t i (l.drop i)) (s,(l.length:Int)))
 |0,i,n+1,s,hi,_=>by
  obtain rfl:i=l.length:=by omega
  unfold aU
  rw[a,List.drop_length]
  rfl
 |k+1,i,n+1,s,hi,d=>by
  have b:i<l.length:=by omega
  have c:l[i]?=some l[i]:=List.getElem?_eq_getElem b
  unfold aU
  rw[h i _ s c,List.drop_eq_getElem_cons b]
  unfold dK
  cases ht:t i l[i] with
  |some r=>rfl
  |none=>exact CH l h a k (i+1) n s (by omega) (by omega)
theorem uO {α σ:Type}{f:σ×Int->Option (Fl (σ×Int) Int)}{t:Nat->α->Option Int}(l:List α)(a:l.length<=1000)(h:∀(i:Nat) x s,l[i]?=some x->f (s,(i:Int))=some (iF (t i x) (s,((i+1:Nat):Int))))(b:∀s,f (s,(l.length:Int))=some (.bk (s,(l.length:Int))))(s:σ):
  aU f fu (s,0)=some (iF (dK t 0 l) (s,(l.length:Int))):=by
 have:=CH l h b l.length 0 fu s (by omega) (Nat.lt_of_le_of_lt a (by decide))
 simpa using this
theorem kE:ga=eU:=rfl
theorem Jf:qX=nG:=rfl
def bN (a lo hi:Int):Bool:=decide (lo<=a)&&decide (a<=hi)
theorem fc (a lo hi:Int):eU a lo hi=some (bN a lo hi):=by
 unfold eU bN;cases decide (lo<=a)<;>rfl
def lA (b:dn)(lo hi:Int):Bool:=decide (lo<=b.low)&&(decide (b.low<=b.high)&&decide (b.high<=hi))
theorem CI (b:dn)(lo hi:Int):nG b lo hi=some (lA b lo hi):=by
 unfold nG lA;cases decide (lo<=b.low)<;>cases decide (b.low<=b.high)<;>rfl
theorem b9 {n:Int}(h: -9223372036854775808<=n/\n<9223372036854775808):IntKind.i64.wrap n=n:=IntWalk.i64_in _ (by constructor<;>omega)
def gP (u:aj)(i:Nat)(x:bY):Option Int:=
 cond (bN x.aM 0 (IntKind.i64.wrap (u.bB - 1))) (cond (bN x.high 0 60) (match i with
  |0=>none
  |j+1=>match u.ax[j]? with
   |some y=>cond (decide (x.aM<=y.aM)) (some 7) none
   |none=>none) (some 1)) (some 1)
theorem yL (u:aj)(g:u.ax.length<=20):l7 u=some (cond (bN u.ax.length 2 5) ((dK (gP u) 0 u.ax).getD 0) 2)/\nM u=l7 u:=by
 have key:l7 u=some (cond (bN u.ax.length 2 5) ((dK (gP u) 0 u.ax).getD 0) 2):=by
  unfold l7;rw[kE,fc];show cond (!bN (u.ax.length:Int) 2 5) _ _=_;cases bN (u.ax.length:Int) 2 5 with
  |false=>rfl
  |true=>
   show af (bE _ 0 u.ax 0) _=_;rw[rR (t:=gP u) u.ax 0 0 ?_]
   .show aC (iF _ _) _ _ _=_;cases dK (gP u) 0 u.ax<;>rfl
   .intro j x s b;rw[Nat.zero_add];unfold tH gP;rw[kE,fc,fc];show cond (!bN x.aM 0 _) _ _=_;cases bN x.aM 0 (IntKind.i64.wrap (u.bB - 1)) with
    |false=>rfl
    |true=>
     show cond (!bN x.high 0 60) _ _=_;cases bN x.high 0 60 with
     |false=>rfl
     |true=>
      cases j with
      |zero=>rfl
      |succ j=>
       have d:=(List.getElem?_eq_some_iff.1 b).1;have a:u.ax[j]?=some u.ax[j]:=List.getElem?_eq_getElem (by omega);have hw:IntKind.i64.wrap (((j+1:Nat):Int) - 1)=(j:Int):=by rw[b9 (by omega)];omega
       have hd:decide (0<((j+1:Nat):Int))=true:=decide_eq_true (by omega);show cond (decide (0<((j+1:Nat):Int))) _ _=_;rw[hd,hw];have hi:bh u.ax (j:Int)=some u.ax[j]:=by unfold bh;rw[if_pos (by omega),Int.toNat_natCast,a]
       show af (bh u.ax (j:Int)) _=_;rw[hi];simp only[a];show cond (decide (x.aM<=u.ax[j].aM)) _ _=_;cases decide (x.aM<=u.ax[j].aM)<;>rfl
 refine ⟨key,?_⟩;rw[key];unfold nM;rw[fc];show cond (!bN (u.ax.length:Int) 2 5) _ _=_;cases bN (u.ax.length:Int) 2 5 with
 |false=>rfl
 |true=>
  show af (aU _ fu (0,0)) _=_;rw[uO (t:=gP u) u.ax (by omega) ?_ ?_ 0]
  .show aC (iF _ _) _ _ _=_;cases dK (gP u) 0 u.ax<;>rfl
  .intro j x s b;unfold rM gP;have d:=(List.getElem?_eq_some_iff.1 b).1;have c:decide ((j:Int)<(u.ax.length:Int))=true:=decide_eq_true (by omega);have e:bh u.ax (j:Int)=some x:=by unfold bh;rw[if_pos (by omega),Int.toNat_natCast,b]
   have f:IntKind.i64.wrap ((j:Int)+1)=((j+1:Nat):Int):=by rw[b9 (by omega)];omega
   show cond (decide ((j:Int)<(u.ax.length:Int))) (af (bh u.ax (j:Int)) _) _=_;rw[c,e,cond_true];show af (eU x.aM 0 (IntKind.i64.wrap (u.bB - 1))) _=_;rw[fc];show cond (!bN x.aM 0 _) _ (af (eU x.high 0 60) _)=_;rw[fc];cases bN x.aM 0 (IntKind.i64.wrap (u.bB - 1)) with
   |false=>rfl
   |true=>
    show cond (!bN x.high 0 60) _ _=_;cases bN x.high 0 60 with
    |false=>rfl
    |true=>
     cases j with
     |zero=>rfl
     |succ j=>
      have a:u.ax[j]?=some u.ax[j]:=List.getElem?_eq_getElem (by omega);have hw:IntKind.i64.wrap (((j+1:Nat):Int) - 1)=(j:Int):=by rw[b9 (by omega)];omega
      have hd:decide (0<((j+1:Nat):Int))=true:=decide_eq_true (by omega);have hi:bh u.ax (j:Int)=some u.ax[j]:=by unfold bh;rw[if_pos (by omega),Int.toNat_natCast,a]
      dsimp only;simp only[hd,hw,hi,f,a,af,cond_true,Bool.not_true,cond_false];cases decide (x.aM<=u.ax[j].aM)<;>rfl
  .intro s;unfold rM;have c:decide ((u.ax.length:Int)<(u.ax.length:Int))=false:=decide_eq_false (by omega);show cond (decide ((u.ax.length:Int)<(u.ax.length:Int))) _ _=_;rw[c];rfl
theorem CJ {ρ:Type}{f:Int×Int->Option (Fl (Int×Int) ρ)}(d:∀a b:Nat,a<9223372036854775808->b<9223372036854775808->b≠0->f ((a:Int),(b:Int))=some (.nx ((b:Int),((a % b:Nat):Int))))(h0:∀a:Nat,f ((a:Int),0)=some (.bk ((a:Int),0))):
  ∀(b a k:Nat),a<9223372036854775808->b<9223372036854775808->b<k->aU f k ((a:Int),(b:Int))=some (.nx (((Nat.gcd a b:Nat):Int),0)):=by
 intro b
 induction b using Nat.strongRecOn with
 |ind b ih=>
  intro a k e hb g
  obtain ⟨k,rfl⟩:∃m,k=m+1:=⟨k - 1,by omega⟩
  unfold aU
  by_cases c:b=0
  .subst c
   have:=h0 a
   rw[show ((0:Nat):Int)=0 from rfl,this,Nat.gcd_zero_right]
   rfl
  .rw[d a b e hb c]
   show aU f k ((b:Int),((a % b:Nat):Int))=_
   have hm:a % b<b:=Nat.mod_lt _ (by omega)
   rw[ih (a % b) hm b k hb (by omega) (by omega),Nat.gcd_comm a b,Nat.gcd_rec b a,Nat.gcd_comm]
theorem CK (a b:Nat)(d:a<9223372036854775808)(hb:b<9223372036854775808)(h:b≠0):gI (a:Int) (b:Int)=some ((a % b:Nat):Int):=by
 unfold gI;have c:¬(b:Int)=0:=by omega
 rw[if_neg c];have e:((a:Int).tmod (b:Int))=((a % b:Nat):Int):=by
  rw[Int.tmod_eq_emod_of_nonneg (by omega)];rfl
 rw[e]
theorem Jg (a k:Nat)(b:Nat)(c:a<9223372036854775808)(hb:b<9223372036854775808)(d:b<k):aU qY k ((a:Int),(b:Int))=some (.nx (((Nat.gcd a b:Nat):Int),0)):=by
 refine CJ (fun a b c hb e=>?_) (fun a=>rfl) b a k c hb d;unfold qY;have:(((b:Nat):Int) != 0)=true:=by simp;omega
 dsimp only;rw[this,CK a b c hb e];rfl
theorem Jh (a k:Nat)(b:Nat)(c:a<9223372036854775808)(hb:b<9223372036854775808)(d:b<k):aU pz k ((a:Int),(b:Int))=some (.nx (((Nat.gcd a b:Nat):Int),0)):=by
 refine CJ (fun a b c hb e=>?_) (fun a=>rfl) b a k c hb d;unfold pz;have:decide (0<((b:Nat):Int))=true:=decide_eq_true (by omega);dsimp only;rw[this,CK a b c hb e];rfl
def bF (n:Int)(d:Nat):au:=⟨n.tdiv (Nat.gcd n.natAbs d:Nat),(d:Int).tdiv (Nat.gcd n.natAbs d:Nat)⟩
theorem uP (a b:Int)(hb:0<b)(c: -9000000000000000000<=a/\a<=9000000000000000000):fX a b=some (a.tdiv b):=by
 unfold fX;rw[if_neg (by omega)];congr 1;have h1:(a.tdiv b).natAbs<=a.natAbs:=by rw[Int.natAbs_tdiv];exact Nat.div_le_self _ _
 exact b9 (by omega)
theorem CL (n:Int)(h: -9000000000000000000<=n/\n<=9000000000000000000):(if n<IntKind.i64.wrap (0 - n) then IntKind.i64.wrap (0 - n) else n)=(n.natAbs:Int):=by
 rw[b9 (by omega)];split<;>omega
theorem rS (n:Int)(d:Nat)(a: -9000000000000000000<=n/\n<=9000000000000000000)(hd:0<d)(b:d<900000000000000000):k7 n d=some (bF n d):=by
 unfold k7;rw[CL n a,Jg n.natAbs fu d (by omega) (by omega) (Nat.lt_trans b (by decide))];have hg:0<Nat.gcd n.natAbs d:=Nat.gcd_pos_of_pos_right _ hd;show af (fX n _) (fun x=>af (fX d _) fun y=>_)=_;rw[uP n _ (by omega) a,uP d _ (by omega) (by omega)];rfl
theorem rT (n:Int)(d:Nat)(a: -9000000000000000000<=n/\n<=9000000000000000000)(hd:0<d)(b:d<900000000000000000):ja n d=some (bF n d):=by
 unfold ja;have:decide ((d:Int)<0)=false:=decide_eq_false (by omega);rw[this];show af (aU pz fu _) _=_;rw[CL n a,Jh n.natAbs fu d (by omega) (by omega) (Nat.lt_trans b (by decide))];have hg:0<Nat.gcd n.natAbs d:=Nat.gcd_pos_of_pos_right _ hd;show af (fX n _) (fun x=>af (fX d _) fun y=>_)=_;rw[uP n _ (by omega) a,uP d _ (by omega) (by omega)];rfl
def iG (u:aj)(f:Int->Bool)(_:Nat)(x:bL):Option Int:=cond (f x.place) (cond (bN x.dg 1 20) none (some 1)) (some 6)
def iH (_:Nat)(x:bO):Option Int:=cond (bN x.back 1 20) (cond (lA x.high 0 60) (cond (decide (3<=IntKind.i64.wrap (x.high.high - x.high.low))) (some 1) none) (some 1)) (some 1)
def iI (u:aj)(i:Int):Bool:=bN i 0 (IntKind.i64.wrap ((u.an.length:Int) - 1))
def jP (u:aj)(_:Nat)(x:bA):Option Int:=cond (iI u x.aS) none (some 6)
theorem yM (u:aj)(i:Int):pq u i=some (iI u i)/\oL u i=some (iI u i):=by
 constructor
 .unfold pq;rw[fc];rfl
 .unfold oL;rw[kE,fc];rfl
theorem Ji (u:aj)(h:Int):gK h u=some (cond (bN h 1 20) 0 1):=by
 unfold gK;rw[kE,fc];show cond (!bN h 1 20) _ _=_;cases bN h 1 20<;>rfl
theorem yN (u:aj)(h:0<u.ax.length)(h2:u.ax.length<=20):∃f:Int->Bool,∀p,eL u p=some (f p)/\nE u p=some (f p):=by
 have h0:u.ax[0]?=some u.ax[0]:=List.getElem?_eq_getElem h;have a:u.ax[u.ax.length - 1]?=some (u.ax[u.ax.length - 1]'(by omega)):=List.getElem?_eq_getElem _;have hw:IntKind.i64.wrap ((u.ax.length:Int) - 1)=((u.ax.length - 1:Nat):Int):=by rw[b9 (by omega)];omega
 have e0:bh u.ax 0=some u.ax[0]:=h0;have e1:bh u.ax ((u.ax.length - 1:Nat):Int)=some (u.ax[u.ax.length - 1]'(by omega)):=by unfold bh;rw[if_pos (by omega),Int.toNat_natCast,a]
 refine ⟨fun p=>bN p (u.ax[0]).aM (u.ax[u.ax.length - 1]'(by omega)).aM,fun p=>?_⟩;have k:eL u p=some (bN p (u.ax[0]).aM (u.ax[u.ax.length - 1]'(by omega)).aM):=by
  unfold eL;rw[hw,e0,e1,kE];simp only[af,fc]
 exact ⟨k,k⟩
def gV (u:aj):Int:=cond (bN u.bB 2 60) (cond (bN u.bH 0 60) (cond (bN u.aO.den 1 20) (cond (bN u.aO.num 0 20) (cond (((bF u.aO.num u.aO.den.toNat).num==u.aO.num)&&((bF u.aO.num u.aO.den.toNat).den==u.aO.den)) 0 3) 1) 1) 1) 1
theorem dR {a lo hi:Int}:bN a lo hi=true↔lo<=a/\a<=hi:=by unfold bN;simp
theorem uQ (u:aj):oO u=some (gV u):=by
 unfold oO gV;rw[kE];simp only[fc,af];cases h1:bN u.bB 2 60 with
 |false=>rfl
 |true=>
  cases h2:bN u.bH 0 60 with
  |false=>rfl
  |true=>
   cases h3:bN u.aO.den 1 20 with
   |false=>rfl
   |true=>
    cases a:bN u.aO.num 0 20 with
    |false=>rfl
    |true=>
     rw[dR] at h3 a;have hd:u.aO.den=(u.aO.den.toNat:Int):=by omega
     have:=rS u.aO.num u.aO.den.toNat (by omega) (by omega) (by omega);rw[<-hd] at this;simp only[this,cond_true,Bool.not_true,cond_false];cases (((bF u.aO.num u.aO.den.toNat).num==u.aO.num)&&((bF u.aO.num u.aO.den.toNat).den==u.aO.den))<;>rfl
theorem Jj (u:aj):jO u=cond (gV u != 0) (some (gV u)) (af (nM u) fun x=>cond (x != 0) (some x) (nN u)):=by
 unfold jO gV;simp only[fc,af];cases h1:bN u.bB 2 60 with
 |false=>rfl
 |true=>
  cases h2:bN u.bH 0 60 with
  |false=>rfl
  |true=>
   cases h3:bN u.aO.den 1 20 with
   |false=>rfl
   |true=>
    cases a:bN u.aO.num 0 20 with
    |false=>rfl
    |true=>
     rw[dR] at h3 a;have hd:u.aO.den=(u.aO.den.toNat:Int):=by omega
     have:=rT u.aO.num u.aO.den.toNat (by omega) (by omega) (by omega);rw[<-hd] at this;simp only[this,cond_true,Bool.not_true,cond_false];cases (((bF u.aO.num u.aO.den.toNat).num==u.aO.num)&&((bF u.aO.num u.aO.den.toNat).den==u.aO.den)) with
     |false=>rfl
     |true=>
      simp only[Bool.not_true,cond_false,cond_true,bne_self_eq_false];cases nM u with
      |none=>rfl
      |some x=>
       dsimp only;cases nN u<;>rfl
theorem uR (u:aj):ng u=some (cond (decide (3<(u.told.length:Int))) 2 ((dK (jP u) 0 u.told).getD 0)):=by
 unfold ng;cases decide (3<(u.told.length:Int)) with
 |true=>rfl
 |false=>
  show af (bE _ 0 u.told 0) _=_;rw[rR (t:=jP u) u.told 0 0 ?_]
  .show aC (iF _ _) _ _ _=_;cases dK (jP u) 0 u.told<;>rfl
  .intro j x s a;unfold tE jP;simp only[yM,af];cases iI u x.aS<;>rfl
theorem uS (u:aj):nh u=some (cond (bN u.an.length 1 3) ((dK iH 0 u.an).getD 0) 2):=by
 unfold nh;rw[kE,fc];simp only[af];cases bN (u.an.length:Int) 1 3 with
 |false=>rfl
 |true=>
  simp only[Bool.not_true,cond_false,cond_true];rw[rR (t:=iH) u.an 0 0 ?_]
  .show aC (iF _ _) _ _ _=_;cases dK iH 0 u.an<;>rfl
  .intro j x s a;unfold tF iH;simp only[kE,Jf,fc,CI,af];cases bN x.back 1 20 with
   |false=>rfl
   |true=>
    cases lA x.high 0 60 with
    |false=>rfl
    |true=>
     simp only[Bool.not_true,cond_false,cond_true];cases decide (3<=IntKind.i64.wrap (x.high.high - x.high.low))<;>rfl
theorem uT (u:aj)(f:Int->Bool)(a:∀p,eL u p=some (f p)/\nE u p=some (f p)):ni u=some (cond (decide (3<(u.props.length:Int))) 2 ((dK (iG u f) 0 u.props).getD 0)):=by
 unfold ni;cases decide (3<(u.props.length:Int)) with
 |true=>rfl
 |false=>
  show af (bE _ 0 u.props 0) _=_;rw[rR (t:=iG u f) u.props 0 0 ?_]
  .show aC (iF _ _) _ _ _=_;cases dK (iG u f) 0 u.props<;>rfl
  .intro j x s b;unfold tG iG;simp only[(a x.place).1,Ji,af];cases f x.place with
   |false=>rfl
   |true=>
    cases bN x.dg 1 20<;>rfl
theorem nO {α:Type}{t:Nat->α->Option Int}(h:∀i x r,t i x=some r->r≠0):∀(l:List α) (i:Nat) (r:Int),dK t i l=some r->r≠0
 |[],i,r,e=>by cases e
 |x::l,i,r,e=>by
  unfold dK at e
  cases ht:t i x with
  |some a=>rw[ht] at e;cases e;exact h i x _ ht
  |none=>rw[ht] at e;exact nO h l (i+1) r e
theorem CM (u:aj)(f:Int->Bool)(i:Nat)(x:bL)(r:Int)(h:iG u f i x=some r):r≠0:=by
 unfold iG at h;revert h;cases f x.place<;>cases bN x.dg 1 20<;>intro h<;>cases h<;>decide
theorem CN (i:Nat)(x:bO)(r:Int)(h:iH i x=some r):r≠0:=by
 unfold iH at h;revert h;cases bN x.back 1 20<;>cases lA x.high 0 60<;>cases decide (3<=IntKind.i64.wrap (x.high.high - x.high.low))<;>intro h<;>cases h<;>decide
theorem Jk (u:aj)(i:Nat)(x:bA)(r:Int)(h:jP u i x=some r):r≠0:=by
 unfold jP at h;revert h;cases iI u x.aS<;>intro h<;>cases h<;>decide
theorem CO {o:Option Int}(h:∀r,o=some r->r≠0):(o.getD 0 != 0)=o.isSome:=by
 cases o with
 |none=>rfl
 |some r=>simpa using h r rfl
theorem Jl (u:aj)(f:Int->Bool)(e:∀p,eL u p=some (f p)/\nE u p=some (f p))(h1:u.props.length<=20)(h2:u.an.length<=20)(h3:u.told.length<=20):
  nN u=af (ni u) fun x=>cond (x != 0) (some x) (af (nh u) fun y=>cond (y != 0) (some y) (ng u)):=by
 rw[uT u f e,uS,uR]
 unfold nN
 simp only[af]
 cases h:decide (3<(u.props.length:Int)) with
 |true=>rfl
 |false=>
  simp only[cond_false]
  rw[uO (t:=iG u f) u.props (by omega) ?_ ?_ 0]
  .rw[CO (nO (CM u f) u.props 0)]
   cases dK (iG u f) 0 u.props with
   |some r=>rfl
   |none=>
    simp only[iF,aC,Option.isSome_none,cond_false,fc]
    cases i:bN (u.an.length:Int) 1 3 with
    |false=>rfl
    |true=>
     simp only[Bool.not_true,cond_false,cond_true]
     rw[uO (t:=iH) u.an (by omega) ?_ ?_ 0]
     .rw[CO (nO CN u.an 0)]
      cases dK iH 0 u.an with
      |some r=>rfl
      |none=>
       simp only[iF,aC,Option.isSome_none,cond_false]
       cases k:decide (3<(u.told.length:Int)) with
       |true=>rfl
       |false=>
        simp only[cond_false]
        rw[uO (t:=jP u) u.told (by omega) ?_ ?_ 0]
        .cases dK (jP u) 0 u.told<;>rfl
        .intro j x s b
         have g:=(List.getElem?_eq_some_iff.1 b).1
         have a:decide ((j:Int)<(u.told.length:Int))=true:=decide_eq_true (by omega)
         have c:bh u.told (j:Int)=some x:=by unfold bh;rw[if_pos (by omega),Int.toNat_natCast,b]
         have d:IntKind.i64.wrap ((j:Int)+1)=((j+1:Nat):Int):=by rw[b9 (by omega)];omega
         unfold yH jP
         simp only[a,c,d,af,yM,cond_true]
         cases iI u x.aS<;>rfl
        .intro s
         have a:decide ((u.told.length:Int)<(u.told.length:Int))=false:=decide_eq_false (by omega)
         unfold yH
         simp only[a,cond_false]
     .intro j x s b
      have g:=(List.getElem?_eq_some_iff.1 b).1
      have a:decide ((j:Int)<(u.an.length:Int))=true:=decide_eq_true (by omega)
      have c:bh u.an (j:Int)=some x:=by unfold bh;rw[if_pos (by omega),Int.toNat_natCast,b]
      have d:IntKind.i64.wrap ((j:Int)+1)=((j+1:Nat):Int):=by rw[b9 (by omega)];omega
      unfold yG iH
      simp only[a,c,d,af,fc,CI,cond_true]
      cases bN x.back 1 20<;>cases lA x.high 0 60<;>cases decide (3<=IntKind.i64.wrap (x.high.high - x.high.low))<;>rfl
     .intro s
      have a:decide ((u.an.length:Int)<(u.an.length:Int))=false:=decide_eq_false (by omega)
      unfold yG
      simp only[a,cond_false]
  .intro j x s b
   have g:=(List.getElem?_eq_some_iff.1 b).1
   have a:decide ((j:Int)<(u.props.length:Int))=true:=decide_eq_true (by omega)
   have c:bh u.props (j:Int)=some x:=by unfold bh;rw[if_pos (by omega),Int.toNat_natCast,b]
   have d:IntKind.i64.wrap ((j:Int)+1)=((j+1:Nat):Int):=by rw[b9 (by omega)];omega
   unfold rN iG
   simp only[a,c,d,af,fc,(e x.place).2,cond_true]
   cases f x.place<;>cases bN x.dg 1 20<;>rfl
  .intro s
   have a:decide ((u.props.length:Int)<(u.props.length:Int))=false:=decide_eq_false (by omega)
   unfold rN
   simp only[a,cond_false]
theorem CP (x:Int):cond (x != 0) (some x) (some 0)=some x:=by
 cases h:(x != 0) with
 |true=>rfl
 |false=>
  have:x=0:=by simpa using h
  rw[this];rfl
theorem CQ (u:aj)(h0:u.ax.length<=20)(h1:u.props.length<=20)(h2:u.an.length<=20)(h3:u.told.length<=20):dZ u=jO u/\∃r,dZ u=some r:=by
 obtain ⟨he,c⟩:=yL u h0;rw[Jj,c];show jJ u=_/\∃r,jJ u=some r;unfold jJ;rw[uQ];simp only[af];cases hg:(gV u != 0) with
 |true=>exact ⟨rfl,_,rfl⟩
 |false=>
  simp only[cond_false];unfold mc;rw[he];simp only[af];cases a:((cond (bN u.ax.length 2 5) ((dK (gP u) 0 u.ax).getD 0) 2) != 0) with
  |true=>exact ⟨rfl,_,rfl⟩
  |false=>
   simp only[cond_false];have hb:bN u.ax.length 2 5=true:=by
    cases hb:bN (u.ax.length:Int) 2 5 with
    |true=>rfl
    |false=>rw[hb] at a;cases a
   have d:=dR.1 hb;obtain ⟨f,b⟩:=yN u (by omega) h0;rw[Jl u f b h1 h2 h3];unfold mb;rw[uT u f b];simp only[af];cases e:((cond (decide (3<(u.props.length:Int))) 2 ((dK (iG u f) 0 u.props).getD 0)) != 0) with
   |true=>exact ⟨rfl,_,rfl⟩
   |false=>
    simp only[cond_false];unfold l9;rw[uS];simp only[af];cases g:((cond (bN u.an.length 1 3) ((dK iH 0 u.an).getD 0) 2) != 0) with
    |true=>exact ⟨rfl,_,rfl⟩
    |false=>
     simp only[cond_false];unfold l8 oP;rw[uR];simp only[af];rw[CP];exact ⟨rfl,_,rfl⟩
theorem rU {α:Type}{t:Nat->α->Option Int}:∀(l:List α) (i:Nat),dK t i l=none->∀j x,l[j]?=some x->t (i+j) x=none
 |[],i,_,j,x,a=>by simp at a
 |y::l,i,h,j,x,a=>by
  unfold dK at h
  cases ht:t i y with
  |some r=>rw[ht] at h;cases h
  |none=>
   rw[ht] at h
   cases j with
   |zero=>simp at a;subst a;exact ht
   |succ j=>
    have:=rU l (i+1) h j x (by simpa using a)
    rwa [show i+1+j=i+(j+1) by omega] at this
structure Fit (u:aj):Prop where
 bB:2<=u.bB/\u.bB<=60
 bH:0<=u.bH/\u.bH<=60
 den:1<=u.aO.den/\u.aO.den<=20
 num:0<=u.aO.num/\u.aO.num<=20
 ax:2<=u.ax.length/\u.ax.length<=5
 gQ:∀(i:Nat) x,u.ax[i]?=some x->(0<=x.aM/\x.aM<=u.bB - 1)/\0<=x.high/\x.high<=60
 nP:∀(i:Nat) x y,u.ax[i]?=some x->u.ax[i+1]?=some y->x.aM<y.aM
 props:u.props.length<=3
 prop:∀(i:Nat) x,u.props[i]?=some x->eL u x.place=some true/\1<=x.dg/\x.dg<=20
 an:1<=u.an.length/\u.an.length<=3
 aS:∀(i:Nat) x,u.an[i]?=some x->(1<=x.back/\x.back<=20)/\0<=x.high.low/\x.high.low<=x.high.high/\x.high.high<=60/\x.high.high - x.high.low<3
 told:u.told.length<=3
 lB:∀(i:Nat) x,u.told[i]?=some x->0<=x.aS/\x.aS<u.an.length
theorem uU {o:Option Int}(h:∀r,o=some r->r≠0)(a:o.getD 0=0):o=none:=by
 cases o with
 |none=>rfl
 |some r=>exact absurd a (h r rfl)
theorem Jm (u:aj)(i:Nat)(x:bY)(r:Int)(h:gP u i x=some r):r≠0:=by
 unfold gP at h;revert h;cases bN x.aM 0 (IntKind.i64.wrap (u.bB - 1))<;>cases bN x.high 0 60<;>try (intro h;cases h;decide)
 cases i with
 |zero=>intro h;cases h
 |succ j=>
  simp only[cond_true];cases u.ax[j]? with
  |none=>intro h;cases h
  |some y=>dsimp only;cases decide (x.aM<=y.aM)<;>intro h<;>cases h<;>decide
theorem CR (u:aj)(h0:u.ax.length<=20)(h:dZ u=some 0):Fit u:=by
 have a:jJ u=some 0:=h;clear h;unfold jJ at a;rw[uQ] at a;simp only[af] at a;have hg:gV u=0:=by
  cases hg:(gV u != 0) with
  |true=>rw[hg] at a;exact Option.some.inj a
  |false=>simpa using hg
 rw[hg] at a;have a:mc u=some 0:=a;unfold mc at a;rw[(yL u h0).1] at a;simp only[af] at a;generalize g:cond (bN (u.ax.length:Int) 2 5) ((dK (gP u) 0 u.ax).getD 0) 2=E at a;have w:E=0:=by
  cases d:(E != 0) with
  |true=>rw[d] at a;exact Option.some.inj a
  |false=>simpa using d
 rw[w] at a g;have a:mb u=some 0:=a;have hb:bN (u.ax.length:Int) 2 5=true:=by
  cases hb:bN (u.ax.length:Int) 2 5 with
  |true=>rfl
  |false=>rw[hb] at g;cases g
 rw[hb] at g;have L:=dR.1 hb;have o:=rU u.ax 0 (uU (nO (Jm u) u.ax 0) g);obtain ⟨f,p⟩:=yN u (by omega) h0;unfold mb at a;rw[uT u f p] at a;simp only[af] at a;generalize j:cond (decide (3<(u.props.length:Int))) 2 ((dK (iG u f) 0 u.props).getD 0)=q at a;have z:q=0:=by
  cases d:(q != 0) with
  |true=>rw[d] at a;exact Option.some.inj a
  |false=>simpa using d
 rw[z] at a j;have a:l9 u=some 0:=a;have r:decide (3<(u.props.length:Int))=false:=by
  cases hb:decide (3<(u.props.length:Int)) with
  |false=>rfl
  |true=>rw[hb] at j;cases j
 rw[r] at j;have A:=rU u.props 0 (uU (nO (CM u f) u.props 0) j);unfold l9 at a;rw[uS] at a;simp only[af] at a;generalize k:cond (bN (u.an.length:Int) 1 3) ((dK iH 0 u.an).getD 0) 2=s at a;have B:s=0:=by
  cases d:(s != 0) with
  |true=>rw[d] at a;exact Option.some.inj a
  |false=>simpa using d
 rw[B] at a k;have a:l8 u=some 0:=a;have t:bN (u.an.length:Int) 1 3=true:=by
  cases hb:bN (u.an.length:Int) 1 3 with
  |true=>rfl
  |false=>rw[hb] at k;cases k
 rw[t] at k;have M:=dR.1 t;have C:=rU u.an 0 (uU (nO CN u.an 0) k);unfold l8 oP at a;rw[uR] at a;simp only[af] at a;rw[CP] at a;have l:=Option.some.inj a;have v:decide (3<(u.told.length:Int))=false:=by
  cases hb:decide (3<(u.told.length:Int)) with
  |false=>rfl
  |true=>rw[hb] at l;cases l
 rw[v] at l;have D:=rU u.told 0 (uU (nO (Jk u) u.told 0) l);have N:=of_decide_eq_false r;have O:=of_decide_eq_false v;clear a g j k l;have G:(2<=u.bB/\u.bB<=60)/\(0<=u.bH/\u.bH<=60)/\(1<=u.aO.den/\u.aO.den<=20)/\(0<=u.aO.num/\u.aO.num<=20):=by
  unfold gV at hg;refine ⟨dR.1 ?_,dR.1 ?_,dR.1 ?_,dR.1 ?_⟩<;>revert hg<;>cases bN u.bB 2 60<;>cases bN u.bH 0 60<;>cases bN u.aO.den 1 20<;>cases bN u.aO.num 0 20<;>intro hg<;>first|rfl|cases hg
 obtain ⟨F,H,I,J⟩:=G;have hw:IntKind.i64.wrap (u.bB - 1)=u.bB - 1:=b9 (by omega);have m:∀(i:Nat) x,u.ax[i]?=some x->bN x.aM 0 (u.bB - 1)=true/\bN x.high 0 60=true:=by
  intro i x b;have:=o i x b;unfold gP at this;rw[hw] at this;revert this;cases bN x.aM 0 (u.bB - 1)<;>cases bN x.high 0 60<;>intro h<;>first|exact ⟨rfl,rfl⟩|cases h
 refine ⟨F,H,I,J,by omega,fun i x b=>⟨dR.1 (m i x b).1,dR.1 (m i x b).2⟩,fun i x y b n=>?_,by omega,fun i x b=>?_,by omega,fun i x b=>?_,by omega,fun i x b=>?_⟩
 .have:=o (i+1) y n;rw[Nat.zero_add] at this;unfold gP at this;rw[hw,(m _ _ n).1,(m _ _ n).2] at this;simp only[cond_true,b] at this;cases hd:decide (y.aM<=x.aM) with
  |true=>rw[hd] at this;cases this
  |false=>have:=of_decide_eq_false hd;omega
 .have:=A i x b;unfold iG at this;revert this;rw[(p x.place).1];cases f x.place<;>cases hb:bN x.dg 1 20<;>intro h<;>first|exact ⟨rfl,dR.1 hb⟩|cases h
 .have:=C i x b;unfold iH at this;cases c:bN x.back 1 20 with
  |false=>rw[c] at this;cases this
  |true=>
   cases e:lA x.high 0 60 with
   |false=>rw[c,e] at this;cases this
   |true=>
    rw[c,e] at this;unfold lA at e;simp only[Bool.and_eq_true,decide_eq_true_eq] at e;refine ⟨dR.1 c,e.1,e.2.1,e.2.2,?_⟩;cases hd:decide (3<=IntKind.i64.wrap (x.high.high - x.high.low)) with
    |true=>rw[hd] at this;cases this
    |false=>
     have K:=of_decide_eq_false hd;rw[b9 (by omega)] at K;omega
 .have:=D i x b;unfold jP at this;cases c:iI u x.aS with
  |false=>rw[c] at this;cases this
  |true=>
   unfold iI at c;rw[b9 (by omega)] at c;have:=dR.1 c;omega
end Go.Proofs.YtnaejeiofbpbkaaGreatDoor
end

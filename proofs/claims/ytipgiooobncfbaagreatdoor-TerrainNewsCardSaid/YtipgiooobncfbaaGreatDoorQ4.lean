/- A part of the proof of a row and its tied card: part 4. -/
import Derived.Test.YtipgiooobncfbaaGreatDoorQ3
set_option linter.all false
section
namespace Go.Proofs.YtipgiooobncfbaaGreatDoor
open Go Go.Sep Go.Proofs
set_option maxRecDepth 100000
set_option maxHeartbeats 4000000
def nq (u0:aj):Option (aj×Int):=
 ah (fo u0 ([]:(List (aj->Option Int)))) fun a=>cond ((a.2 != 0)) (some ((⟨0,0,(⟨0,0⟩:au),([]:(List bZ)),([]:(List b6)),([]:(List bV)),([]:(List bx))⟩:aj),a.2)) (ah (rO u0.aB) fun b=>ah (pK u0.props) fun c=>ah (nh u0.aC) fun d=>ah (ng u0.told) fun e=>some ((⟨u0.bF,u0.bL,u0.aV,b,c,d,e⟩:aj),0))
theorem vo {ro:Addr->Option Value}(a6:cY ro)(u0:aj){s1 z B C:Value}(E:bt ro u0 s1 z B C){r:(aj×Int)}(h:nq u0=some r):c9 Tryz.prog 103 #[bv u0 s1 z B C] ro (fun v aI=>∃ao w1 w2 w3,v= .tuple #[bv r.1 ao w1 w2 w3,.int .i64 r.2]/\bt aI r.1 ao w1 w2 w3):=by
 unfold nq at h
 have a7:=E.oc;simp only[bw] at a7
 refine aA.go Tryz.func103 rfl Tryz.ntmps103 Tryz.results103 (by simp) fun main J hJ A a8 hd hs=>?_
 have a9:=hs 0
 clear hs
 refine aa hJ (af hJ ?_)
 simp only[*,go_sem]
 refine an fun a F ba=>?_;try simp only[ak] at ba
 refine an fun b G bb=>?_;try simp only[ak] at bb
 try simp only[*,go_sem]
 refine aa hJ (aa hJ (af hJ ?_))
 revert h;refine bS fun c bc h=>?_
 simp only[*,go_sem]
 refine bN hJ _ (ja a6 u0 E ([]:(List (aj->Option Int))) (ax.nil _ _) bc) fun v U ae al bd=>?_
 obtain ⟨d,f,g,i,j,rfl,bj,bl⟩:=bd
 have bm:=bj.oc;simp only[bw] at bm
 have bo:=bl.oc;simp only[bw] at bo
 replace E:=E.mono ae
 replace G:=al.hd
 replace F:=al.tl.hd
 simp only[aU] at al
 refine aE ?_
 try simp only[*,go_sem]
 refine an fun k K br=>?_;try simp only[ak] at br
 try simp only[*,go_sem]
 refine aa hJ (af hJ ?_)
 simp only[*,go_sem]
 revert h;refine jC hJ (by simp only[*,go_sem]) (fun bs h=>?_) fun bs h=>?_
 ·obtain rfl:=sI h
  refine aa hJ (af hJ ?_)
  simp only[*,go_sem]
  refine av ?_
  simp only[*,go_sem]
  exact ⟨_,ae,Le.sub (List.nil_sublist _),_,_,_,_,rfl,⟨ax.nil _ _,ax.nil _ _,ax.nil _ _,ax.nil _ _⟩⟩
 refine aD hJ (aa hJ ?_)
 refine aH hJ fun cS=>?_
 refine iB hJ mixed [13,14,15,16,17,18,19] (.pure 0 (.rd 1 (.pure 3 (.rd 4 (.pure 6 (.rd 7 (.pure 9 (.rd 10 (.one 2 (.pure 12 (.one 5 (.one 8 (.one 11 (.last 13 (.pure 14 (.last 15 (.pure 16 (.last 17 (.pure 18 (.last 19 .done)))))))))))))))))))) ⟨U,[(k,kn c.1 d f g i j),(b,bz 29),(a,bk u0 s1 z B C)]⟩ (by simp only[*,go_sem]) (by kernel_rfl) ?_
 revert h;refine bS fun m b0 h=>?_
 simp only[*,go_sem]
 refine fW hJ (aQ:=[]) [(k,kn c.1 d f g i j),(b,bz 29),(a,bk u0 s1 z B C)] [] _ (EJ u0.aB E.e b0) (fun c0 L ar M N da=>?_)
 simp only[List.append_nil,List.cons_append,List.nil_append,List.append_assoc] at N
 subst M
 obtain ⟨d158,n,rfl,db⟩:=ar.len
 refine ⟨⟨U,(k,kn c.1 d f g i j)::(b,bz 29)::(a,bk u0 s1 z B C)::L⟩,Le.refl _,?_⟩
 refine ⟨by simp only[*,go_sem],bU ?_⟩
 revert h;refine bS fun o b1 h=>?_
 try simp only[*,go_sem]
 refine fW hJ (aQ:=[]) [(k,kn c.1 d f g i j),(b,bz 29),(a,bk u0 s1 z B C)] L _ (zB u0.props E.p b1) (fun dd O V M N df=>?_)
 simp only[List.append_nil,List.cons_append,List.nil_append,List.append_assoc] at N
 subst M
 obtain ⟨d168,q,rfl,dk⟩:=V.len
 refine ⟨⟨U,(k,kn c.1 d f g i j)::(b,bz 29)::(a,bk u0 s1 z B C)::(O++L)⟩,Le.refl _,?_⟩
 refine ⟨by simp only[*,go_sem],bU ?_⟩
 revert h;refine bS fun s b2 h=>?_
 try simp only[*,go_sem]
 refine fW hJ (aQ:=[]) [(k,kn c.1 d f g i j),(b,bz 29),(a,bk u0 s1 z B C)] (O++L) _ (zA u0.aC E.y b2) (fun dp P H M N dq=>?_)
 simp only[List.append_nil,List.cons_append,List.nil_append,List.append_assoc] at N
 subst M
 obtain ⟨d178,u,rfl,ds⟩:=H.len
 refine ⟨⟨U,(k,kn c.1 d f g i j)::(b,bz 29)::(a,bk u0 s1 z B C)::(P++(O++L))⟩,Le.refl _,?_⟩
 refine ⟨by simp only[*,go_sem],bU ?_⟩
 revert h;refine bS fun w b3 h=>?_
 obtain rfl:=sI h
 try simp only[*,go_sem]
 refine fW hJ (aQ:=[]) [(k,kn c.1 d f g i j),(b,bz 29),(a,bk u0 s1 z B C)] (P++(O++L)) _ (uX u0.told E.t b3) (fun dt Q D M N du=>?_)
 simp only[List.append_nil,List.cons_append,List.nil_append,List.append_assoc] at N
 subst M
 obtain ⟨d188,x,rfl,dv⟩:=D.len
 refine ⟨⟨U,(k,kn c.1 d f g i j)::(b,bz 29)::(a,bk u0 s1 z B C)::(Q++(P++(O++L)))⟩,Le.refl _,?_⟩
 refine ⟨by simp only[*,go_sem],bU ?_⟩
 try simp only[*,go_sem]
 refine aa hJ ?_
 refine eM [1,2,3] fun dC b4 b5 ca=>?_
 simp only[*,go_sem] at b4 b5 ca
 clear a8 hd a9
 refine aH hJ fun dE=>?_
 refine af hJ ?_
 simp only[*,go_sem]
 refine aH hJ fun a0=>?_
 obtain ⟨dT,X,R,I,cb⟩:=ar.ki ((k,kn c.1 d f g i j)::(b,bk u0 (sl d158 m n) (sl d168 o q) (sl d178 s u) (sl d188 w x))::(a,bk u0 (sl d158 m n) (sl d168 o q) (sl d178 s u) (sl d188 w x))::(Q++(P++O))) ((k,kn c.1 d f g i j)::(b,bk u0 (sl d158 m n) (sl d168 o q) (sl d178 s u) (sl d188 w x))::(a,bk u0 (sl d158 m n) (sl d168 o q) (sl d178 s u) (sl d188 w x))::(Q++(P++O))) [] (by first|rfl|simp only[List.append_nil,List.cons_append,List.nil_append,List.append_assoc]|(simp only[List.append_nil,List.cons_append,List.nil_append,List.append_assoc];rfl)) (by first|rfl|simp only[List.append_nil,List.cons_append,List.nil_append,List.append_assoc]|(simp only[List.append_nil,List.cons_append,List.nil_append,List.append_assoc];rfl)) a0 (az.cons K (az.cons G (az.cons F (az.app D.gO (az.app H.gO (V.gO))))))
 clear a0
 refine cA hJ cb ?_
 obtain ⟨ea,eb,-⟩:=I.op
 replace K:=R.hd
 replace G:=R.tl.hd
 replace F:=R.tl.tl.hd
 replace D:=D.mono X R.tl.tl.tl.l
 replace H:=H.mono X R.tl.tl.tl.r.l
 replace V:=V.mono X R.tl.tl.tl.r.r
 simp only[aU] at R
 refine aH hJ fun a2=>?_
 obtain ⟨ec,Y,S,T,cd⟩:=V.ki ((k,kn c.1 d f g i j)::(b,bk u0 (sl d158 m n) (sl d168 o q) (sl d178 s u) (sl d188 w x))::(a,bk u0 (sl d158 m n) (sl d168 o q) (sl d178 s u) (sl d188 w x))::(Q++P)) ((k,kn c.1 d f g i j)::(b,bk u0 (sl d158 m n) (sl d168 o q) (sl d178 s u) (sl d188 w x))::(a,bk u0 (sl d158 m n) (sl d168 o q) (sl d178 s u) (sl d188 w x))::(Q++P)) [] (by first|rfl|simp only[List.append_nil,List.cons_append,List.nil_append,List.append_assoc]|(simp only[List.append_nil,List.cons_append,List.nil_append,List.append_assoc];rfl)) (by first|rfl|simp only[List.append_nil,List.cons_append,List.nil_append,List.append_assoc]|(simp only[List.append_nil,List.cons_append,List.nil_append,List.append_assoc];rfl)) a2 (az.cons K (az.cons G (az.cons F (az.app D.gO (H.gO)))))
 clear a2
 refine cA hJ cd ?_
 obtain ⟨ed,eh,-⟩:=T.op
 replace I:=I.mono Y
 replace K:=S.hd
 replace G:=S.tl.hd
 replace F:=S.tl.tl.hd
 replace D:=D.mono Y S.tl.tl.tl.l
 replace H:=H.mono Y S.tl.tl.tl.r
 simp only[aU] at S
 refine aH hJ fun a3=>?_
 obtain ⟨et,Z,W,ab,cf⟩:=H.ki ((k,kn c.1 d f g i j)::(b,bk u0 (sl d158 m n) (sl d168 o q) (sl d178 s u) (sl d188 w x))::(a,bk u0 (sl d158 m n) (sl d168 o q) (sl d178 s u) (sl d188 w x))::Q) ((k,kn c.1 d f g i j)::(b,bk u0 (sl d158 m n) (sl d168 o q) (sl d178 s u) (sl d188 w x))::(a,bk u0 (sl d158 m n) (sl d168 o q) (sl d178 s u) (sl d188 w x))::Q) [] (by first|rfl|simp only[List.append_nil,List.cons_append,List.nil_append,List.append_assoc]|(simp only[List.append_nil,List.cons_append,List.nil_append,List.append_assoc];rfl)) (by first|rfl|simp only[List.append_nil,List.cons_append,List.nil_append,List.append_assoc]|(simp only[List.append_nil,List.cons_append,List.nil_append,List.append_assoc];rfl)) a3 (az.cons K (az.cons G (az.cons F (D.gO))))
 clear a3
 refine cA hJ cf ?_
 obtain ⟨ev,eQ,-⟩:=ab.op
 replace I:=I.mono Z
 replace T:=T.mono Z
 replace K:=W.hd
 replace G:=W.tl.hd
 replace F:=W.tl.tl.hd
 replace D:=D.mono Z W.tl.tl.tl
 simp only[aU] at W
 refine aH hJ fun a4=>?_
 obtain ⟨eS,ad,cl,a5,cy⟩:=D.ki ((k,kn c.1 d f g i j)::(b,bk u0 (sl d158 m n) (sl d168 o q) (sl d178 s u) (sl d188 w x))::(a,bk u0 (sl d158 m n) (sl d168 o q) (sl d178 s u) (sl d188 w x))::[]) [(k,kn c.1 d f g i j),(b,bk u0 (sl d158 m n) (sl d168 o q) (sl d178 s u) (sl d188 w x)),(a,bk u0 (sl d158 m n) (sl d168 o q) (sl d178 s u) (sl d188 w x))] [] (by first|rfl|simp only[List.append_nil,List.cons_append,List.nil_append,List.append_assoc]|(simp only[List.append_nil,List.cons_append,List.nil_append,List.append_assoc];rfl)) (by first|rfl|simp only[List.append_nil,List.cons_append,List.nil_append,List.append_assoc]|(simp only[List.append_nil,List.cons_append,List.nil_append,List.append_assoc];rfl)) a4 (az.cons K (az.cons G (az.cons F (az.nil _))))
 clear a4
 refine cA hJ cy ?_
 obtain ⟨e0,e1,-⟩:=a5.op
 replace I:=I.mono ad
 replace T:=T.mono ad
 replace ab:=ab.mono ad
 simp only[aU] at cl
 refine av ?_
 simp only[*,go_sem]
 exact ⟨_,((((ae).trans X).trans Y).trans Z).trans ad,Le.sub (List.nil_sublist _),_,_,_,_,rfl,⟨I,T,ab,a5⟩⟩
def vp (u0:Int)(a:Int):Option Int:=
 ah (nk u0) fun c=>ah (nk a) fun b=>cond (c) (cond (b) (some 0) (some (-1))) (cond (b) (some 1) (cond (decide (u0<a)) (some (-1)) (cond (decide (a<u0)) (some 1) (some 0))))
theorem E0 {ro:Addr->Option Value}(u0:Int)(a:Int){r:Int}(h:vp u0 a=some r):aA Tryz.prog 139 #[.int .i64 u0,.int .i64 a] ⟨ro,[]⟩ (fun v _=>v= .int .i64 r):=by
 unfold vp at h
 refine aA.go Tryz.func139 rfl Tryz.ntmps139 Tryz.results139 (by simp) fun main J hJ A j hd hs=>?_
 have k:=hs 0
 have k1:=hs 1
 clear hs
 refine aa hJ (af hJ ?_)
 simp only[*,go_sem]
 refine aa hJ (af hJ ?_)
 revert h;refine bS fun l b h=>?_
 simp only[*,go_sem]
 refine aO hJ _ (rV u0 b) (aE ?_)
 try simp only[*,go_sem]
 refine aa hJ (af hJ ?_)
 revert h;refine bS fun m c h=>?_
 simp only[*,go_sem]
 refine aO hJ _ (rV a c) (aE ?_)
 try simp only[*,go_sem]
 refine aa hJ (aa hJ (af hJ ?_))
 simp only[*,go_sem]
 revert h;refine jC hJ (by simp only[*,go_sem]) (fun d h=>?_) fun d h=>?_
 ·refine aa hJ (aa hJ (af hJ ?_))
  simp only[*,go_sem]
  revert h;refine jC hJ (by simp only[*,go_sem]) (fun e h=>?_) fun e h=>?_
  ·obtain rfl:=sI h
   refine aa hJ (af hJ ?_)
   simp only[*,go_sem]
   refine av ?_
   simp only[*,go_sem]
  obtain rfl:=sI h
  refine aD hJ (aa hJ ?_)
  refine af hJ ?_
  simp only[*,go_sem]
  refine av ?_
  simp only[*,go_sem]
 refine aD hJ (aa hJ ?_)
 refine aa hJ (af hJ ?_)
 simp only[*,go_sem]
 revert h;refine jC hJ (by simp only[*,go_sem]) (fun f h=>?_) fun f h=>?_
 ·obtain rfl:=sI h
  refine aa hJ (af hJ ?_)
  simp only[*,go_sem]
  refine av ?_
  simp only[*,go_sem]
 refine aD hJ (aa hJ ?_)
 refine aa hJ (af hJ ?_)
 simp only[*,go_sem]
 revert h;refine jC hJ (by simp only[*,go_sem]) (fun g h=>?_) fun g h=>?_
 ·obtain rfl:=sI h
  refine aa hJ (af hJ ?_)
  simp only[*,go_sem]
  refine av ?_
  simp only[*,go_sem]
 refine aD hJ (aa hJ ?_)
 refine aa hJ (af hJ ?_)
 simp only[*,go_sem]
 revert h;refine jC hJ (by simp only[*,go_sem]) (fun i h=>?_) fun i h=>?_
 ·obtain rfl:=sI h
  refine aa hJ (af hJ ?_)
  simp only[*,go_sem]
  refine av ?_
  simp only[*,go_sem]
 obtain rfl:=sI h
 refine aD hJ (aa hJ ?_)
 refine af hJ ?_
 simp only[*,go_sem]
 refine av ?_
 simp only[*,go_sem]
def vq (a:(List Int))(i16:Nat)(c:Int)(st:Int):Option (Fl Int Int):=
 cond (decide ((a.length:Int)<=(i16:Int))) (some (.rt 1)) (ah (bq a (i16:Int)) fun d=>ah (vp c d) fun b=>cond ((b != 0)) (some (.rt b)) (some (.nx st)))
def vr (u0:(List Int))(a:(List Int)):Option Int:=
 ah (bE (vq a) 0 u0 0) fun o=>aF o (fun b=>cond (decide ((u0.length:Int)<(a.length:Int))) (some (-1)) (some 0)) (fun _ _=>none) (fun r=>some r)
theorem E1 {ro:Addr->Option Value}(u0:(List Int)){s1:Value}(g:ax rI ro s1 u0)(d:(List Int)){i:Value}(j:ax rI ro i d){r:Int}(h:vr u0 d=some r):aA Tryz.prog 95 #[s1,i] ⟨ro,[]⟩ (fun v _=>v= .int .i64 r):=by
 obtain ⟨d3,c4,rfl,U,w,-⟩:=id g
 obtain ⟨d10,V,rfl,W,X,-⟩:=id j
 unfold vr at h
 refine aA.go Tryz.func95 rfl Tryz.ntmps95 Tryz.results95 (by simp) fun main J hJ A y hd hs=>?_
 have z:=hs 0
 have k1:=hs 1
 clear hs
 refine aa hJ (af hJ ?_)
 simp only[*,go_sem]
 refine aa hJ (aa hJ (af hJ ?_))
 simp only[*,go_sem]
 refine aM hJ ?_
 revert h;refine bS fun B a e=>?_
 refine bM hJ [4,5,6,7,8,11,12,13,14,15,16,17,18,19,20,21,22,23,24,25,26,27,28,29,30] (fun m k F'=>∃(i16:Nat) (c:Int),m=u0.length - i16/\i16<=u0.length/\bE (vq d) i16 (u0.drop i16) c=some B/\F'=⟨ro,[]⟩/\slot k 11= .int .i64 (i16:Int)/\slot k 4= .int .i64 c) u0.length ?_ ?_
 ·refine ⟨0,0,(Nat.sub_zero _).symm,Nat.zero_le _,a,rfl,?_⟩
  simp only[*,go_sem]
 rintro Y Z F' l ⟨i16,c,rfl,ab,a,rfl,ad,ae⟩
 obtain ⟨C,D,E⟩:=l.pick [0,1,9,10] (by decide)
 simp only[*,go_sem] at C D E
 clear l y hd z k1
 refine aa hJ (af hJ ?_)
 simp only[*,go_sem]
 refine aa hJ ?_
 rcases Nat.lt_or_ge i16 u0.length with F|o
 ·refine bD hJ (by simp only[*,go_sem]) ?_
  refine aD hJ ?_
  obtain ⟨p,f⟩:∃x,u0[i16]?=some x:=⟨_,List.getElem?_eq_getElem F⟩
  rw[cX f] at a
  revert a;refine bS fun al h b=>?_
  unfold vq at h
  try dsimp only at h
  obtain ⟨ao,G,H,I,q⟩:=g.el _ _ f
  obtain rfl:G=[.int .i64 p]:=I
  cases H
  have K:=q 0 _ rfl;simp only[go_sem] at K
  clear q f
  refine aa hJ (aM hJ (aa hJ ?_))
  refine af hJ ?_
  simp only[*,go_sem]
  refine aa hJ (aa hJ (af hJ ?_))
  simp only[*,go_sem]
  revert h;refine jC hJ (by simp only[*,go_sem]) (fun L h=>?_) fun L h=>?_
  ·obtain rfl:=sI h
   refine aa hJ (af hJ ?_)
   simp only[*,go_sem]
   obtain rfl:=sI b;clear b
   have h:=e
   dsimp only[aF] at h
   obtain rfl:=sI h
   refine av ?_
   simp only[*,go_sem]
  refine aD hJ (aa hJ ?_)
  refine af hJ ?_
  revert h;refine bS fun s M h=>?_
  obtain ⟨ar,a0,t⟩:=bX M
  obtain ⟨a2,N,O,P,u⟩:=j.el _ _ t
  obtain rfl:N=[.int .i64 s]:=P
  cases O
  have Q:=u 0 _ rfl;simp only[go_sem] at Q
  clear u t
  try simp only[*,go_sem]
  refine aa hJ (af hJ ?_)
  revert h;refine bS fun a3 R h=>?_
  simp only[*,go_sem]
  refine aO hJ _ (E0 p s R) (aE ?_)
  try simp only[*,go_sem]
  refine aa hJ (af hJ ?_)
  simp only[*,go_sem]
  revert h;refine jC hJ (by simp only[*,go_sem]) (fun S h=>?_) fun S h=>?_
  ·obtain rfl:=sI h
   refine aa hJ (af hJ ?_)
   simp only[*,go_sem]
   obtain rfl:=sI b;clear b
   have h:=e
   dsimp only[aF] at h
   obtain rfl:=sI h
   refine av ?_
   simp only[*,go_sem]
  obtain rfl:=sI h
  refine aD hJ ?_
  have a4:=cj (n:=i16) (by have:=w;omega)
  refine af hJ ?_
  simp only[*,go_sem]
  refine ⟨u0.length - (i16+1),by omega,_,Le.sub (List.Sublist.refl _),i16+1,c,rfl,by omega,b,rfl,?_⟩
  simp only[*,go_sem]
 have a5:=Nat.not_lt.2 o
 refine bI hJ (by simp only[*,go_sem]) ?_
 rw[List.drop_eq_nil_of_le o] at a
 obtain rfl:=sI a;clear a
 have h:=e
 dsimp only[aF] at h
 refine bJ ?_
 simp only[go_sem]
 refine aa hJ (aa hJ (af hJ ?_))
 simp only[*,go_sem]
 revert h;refine jC hJ (by simp only[*,go_sem]) (fun T h=>?_) fun T h=>?_
 ·obtain rfl:=sI h
  refine aa hJ (af hJ ?_)
  simp only[*,go_sem]
  refine av ?_
  simp only[*,go_sem]
 obtain rfl:=sI h
 refine aD hJ (aa hJ ?_)
 refine af hJ ?_
 simp only[*,go_sem]
 refine av ?_
 simp only[*,go_sem]
def gQ (u0:(List Int))(a:(List Int)):Option Bool:=
 cond (decide ((a.length:Int)<(u0.length:Int))) (some true) (cond (((a.length:Int)==(u0.length:Int))) (ah (vr a u0) fun b=>some (decide (b<0))) (some false))
theorem E2 {ro:Addr->Option Value}(u0:(List Int)){s1:Value}(d:ax rI ro s1 u0)(a:(List Int)){e:Value}(f:ax rI ro e a){r:Bool}(h:gQ u0 a=some r):aA Tryz.prog 94 #[s1,e] ⟨ro,[]⟩ (fun v _=>v= .bool r):=by
 obtain ⟨d3,c4,rfl,i,j,-⟩:=id d
 obtain ⟨d10,k,rfl,l,m,-⟩:=id f
 unfold gQ at h
 refine aA.go Tryz.func94 rfl Tryz.ntmps94 Tryz.results94 (by simp) fun main J hJ A n hd hs=>?_
 have o:=hs 0
 have k1:=hs 1
 clear hs
 refine aa hJ (af hJ ?_)
 simp only[*,go_sem]
 refine aa hJ (af hJ ?_)
 revert h;refine cS (fun b h=>?_) fun b h=>?_
 ·obtain rfl:=sI h
  try simp only[Int.ofNat_lt] at b
  try simp only[*,go_sem]
  refine av ?_
  simp only[*,go_sem]
 try simp only[Int.ofNat_lt] at b
 revert h;refine cS (fun c h=>?_) fun c h=>?_
 ·try simp only[Int.ofNat_lt] at c
  revert h;refine bS fun p g h=>?_
  obtain rfl:=sI h
  try simp only[*,go_sem]
  refine aO hJ _ (E1 a (f.mono aN) u0 (d.mono aN) g) (aE ?_)
  try simp only[*,go_sem]
  refine av ?_
  simp only[*,go_sem]
 obtain rfl:=sI h
 try simp only[Int.ofNat_lt] at c
 try simp only[*,go_sem]
 refine av ?_
 simp only[*,go_sem]
def rX (u0:aj)(b:Int):Option (Int×Int):=
 ah (fo u0 ([(eF b)])) fun a=>cond ((a.2 != 0)) (some (0,a.2)) (ah (rH a.1 (fun c=>rK c a.1 b)) fun d=>some (d,0))
theorem zI {ro:Addr->Option Value}(j:cY ro)(u0:aj){s1 k l m:Value}(i:bt ro u0 s1 k l m)(c:Int){r:(Int×Int)}(h:rX u0 c=some r):aA Tryz.prog 44 #[bv u0 s1 k l m,.int .i64 c] ⟨ro,[]⟩ (fun v _=>v= .tuple #[.int .i64 r.1,.int .i64 r.2]):=by
 unfold rX at h
 have G:=i.oc;simp only[bw] at G
 refine aA.go Tryz.func44 rfl Tryz.ntmps44 Tryz.results44 (by simp) fun main J hJ A ae hd hs=>?_
 have al:=hs 0
 have k1:=hs 1
 clear hs
 refine aa hJ (af hJ ?_)
 simp only[*,go_sem]
 refine an fun H I K=>?_;try simp only[ak] at K
 refine an fun u L M=>?_;try simp only[ak] at M
 try simp only[*,go_sem]
 refine aa hJ ?_
 refine aH hJ fun N=>?_
 refine af hJ ?_
 revert h;refine bS fun n O h=>?_
 simp only[*,go_sem]
 refine an fun f w z=>?_;have B:=aL.cons z N;try simp only[ak] at z
 try simp only[*,go_sem]
 obtain ⟨q,C,D⟩:=fc (b:=f) (o:=(.cells #[.func (.func 105) #[.int .i64 c] #[]] 86)) [] ((u,ic c)::(H,bk u0 s1 k l m)::[]) B w (az.cons L (az.cons I (az.nil _)))
 have E:ax (cR) (bO ro f (.cells #[.func (.func 105) #[.int .i64 c] #[]] 86)) (.slice (some ⟨f,0,none⟩) 1 1) [(eF c)]:=(ax.one (r:=(cR)) (e:=86) (cs:=#[.func (.func 105) #[.int .i64 c] #[]]) (x:=(eF c)) (own:=[(f,.cells #[.func (.func 105) #[.int .i64 c] #[]] 86)]) w (by simp[lk]) ⟨105,#[.int .i64 c],#[],rfl,⟨by simp only[go_sem],fun P a g _ _ _ _ _ Q R S T h=>by simp only[go_sem];exact rf c g ⟨Q,R,S,T⟩ h⟩⟩)
 generalize bO ro f (.cells #[.func (.func 105) #[.int .i64 c] #[]] 86)=ao at E C q D
 refine gk hJ D ?_
 replace i:=i.mono q
 replace j:=j.mono q
 simp only[aU] at C
 have U:=aL.tl B
 refine bN hJ _ (ja j u0 i ([(eF c)]) E O) fun v ar a0 V W=>?_
 obtain ⟨a2,a3,a4,a5,a6,rfl,d,s⟩:=W
 have X:=d.oc;simp only[bw] at X
 simp only[aU] at V
 obtain ⟨d41,a7,rfl,a8,a9,-⟩:=id d.e
 obtain ⟨d48,ba,rfl,bb,bc,-⟩:=id d.p
 obtain ⟨d55,bd,rfl,bj,bl,-⟩:=id d.y
 obtain ⟨d62,bm,rfl,bo,br,-⟩:=id d.t
 obtain ⟨d69,bs,rfl,bz,b0,-⟩:=id s
 refine aE ?_
 try simp only[*,go_sem]
 refine an fun Y b1 F=>?_;have b2:=aL.cons F U;try simp only[ak] at F
 try simp only[*,go_sem]
 refine aa hJ (aa hJ (af hJ ?_))
 simp only[*,go_sem]
 revert h;refine jC hJ (by simp only[*,go_sem]) (fun Z h=>?_) fun Z h=>?_
 ·obtain rfl:=sI h
  refine aa hJ (af hJ ?_)
  simp only[*,go_sem]
  refine av ?_
  simp only[*,go_sem]
 refine aD hJ (aa hJ ?_)
 refine af hJ ?_
 revert h;refine bS fun b3 ab h=>?_
 obtain rfl:=sI h
 simp only[*,go_sem]
 refine aO hJ _ (zz (dc:=117) (dN:=#[]) (dO:=#[.pointer (some ⟨Y,0,none⟩),.pointer (some ⟨u,0,none⟩)]) n.1 (d.mono aN) (s.mono aN) (fun g=>rK g n.1 c) ⟨by simp only[go_sem],fun P a g b4 ad=>by simp only[go_sem];exact EE g n.1 (a _ _ (by simp only[ag.ck,go_sem, *])) (a _ _ (by simp only[ag.ck,go_sem, *])) (a _ _ (by simp only[ag.ck,go_sem, *])) (a _ _ (by simp only[ag.ck,go_sem, *])) ((d.e.mono aN).mono a) (a _ _ (by simp only[ag.ck,go_sem, *])) ((d.p.mono aN).mono a) (a _ _ (by simp only[ag.ck,go_sem, *])) ((d.y.mono aN).mono a) (a _ _ (by simp only[ag.ck,go_sem, *])) ((d.t.mono aN).mono a) (a _ _ (by simp only[ag.ck,go_sem, *])) ((s.mono aN).mono a) (a _ _ (by simp only[ag.ck,go_sem, *])) c (a _ _ (by simp only[ag.ck,go_sem, *])) ad⟩ ab) (aE ?_)
 try simp only[*,go_sem]
 refine av ?_
 simp only[*,go_sem]
def pM (u0:aj):Option (Int×Int):=
 ah (fo u0 ([]:(List (aj->Option Int)))) fun a=>cond ((a.2 != 0)) (some (0,a.2)) (ah (rH a.1 (fun b=>rM b a.1)) fun c=>some (c,0))
theorem rY {ro:Addr->Option Value}(l:cY ro)(u0:aj){s1 g i j:Value}(k:bt ro u0 s1 g i j){r:(Int×Int)}(h:pM u0=some r):aA Tryz.prog 45 #[bv u0 s1 g i j] ⟨ro,[]⟩ (fun v _=>v= .tuple #[.int .i64 r.1,.int .i64 r.2]):=by
 unfold pM at h
 have m:=k.oc;simp only[bw] at m
 refine aA.go Tryz.func45 rfl Tryz.ntmps45 Tryz.results45 (by simp) fun main J hJ A D hd hs=>?_
 have E:=hs 0
 clear hs
 refine aa hJ (af hJ ?_)
 simp only[*,go_sem]
 refine an fun F G n=>?_;try simp only[ak] at n
 try simp only[*,go_sem]
 refine aa hJ (af hJ ?_)
 revert h;refine bS fun c o h=>?_
 simp only[*,go_sem]
 refine bN hJ _ (ja l u0 k ([]:(List (aj->Option Int))) (ax.nil _ _) o) fun v H I q s=>?_
 obtain ⟨K,L,M,N,O,rfl,b,d⟩:=s
 have u:=b.oc;simp only[bw] at u
 simp only[aU] at q
 obtain ⟨d37,P,rfl,Q,R,-⟩:=id b.e
 obtain ⟨d44,S,rfl,T,U,-⟩:=id b.p
 obtain ⟨d51,V,rfl,W,X,-⟩:=id b.y
 obtain ⟨d58,Y,rfl,Z,ab,-⟩:=id b.t
 obtain ⟨d65,ad,rfl,ae,al,-⟩:=id d
 refine aE ?_
 try simp only[*,go_sem]
 refine an fun w ao x=>?_;try simp only[ak] at x
 try simp only[*,go_sem]
 refine aa hJ (aa hJ (af hJ ?_))
 simp only[*,go_sem]
 revert h;refine jC hJ (by simp only[*,go_sem]) (fun z h=>?_) fun z h=>?_
 ·obtain rfl:=sI h
  refine aa hJ (af hJ ?_)
  simp only[*,go_sem]
  refine av ?_
  simp only[*,go_sem]
 refine aD hJ (aa hJ ?_)
 refine af hJ ?_
 revert h;refine bS fun ar B h=>?_
 obtain rfl:=sI h
 simp only[*,go_sem]
 refine aO hJ _ (zz (dc:=118) (dN:=#[]) (dO:=#[.pointer (some ⟨w,0,none⟩)]) c.1 (b.mono aN) (d.mono aN) (fun f=>rM f c.1) ⟨by simp only[go_sem],fun a0 a f a2 C=>by simp only[go_sem];exact EF f c.1 (a _ _ (by simp only[ag.ck,go_sem, *])) (a _ _ (by simp only[ag.ck,go_sem, *])) (a _ _ (by simp only[ag.ck,go_sem, *])) (a _ _ (by simp only[ag.ck,go_sem, *])) ((b.e.mono aN).mono a) (a _ _ (by simp only[ag.ck,go_sem, *])) ((b.p.mono aN).mono a) (a _ _ (by simp only[ag.ck,go_sem, *])) ((b.y.mono aN).mono a) (a _ _ (by simp only[ag.ck,go_sem, *])) ((b.t.mono aN).mono a) (a _ _ (by simp only[ag.ck,go_sem, *])) ((d.mono aN).mono a) (a _ _ (by simp only[ag.ck,go_sem, *])) C⟩ B) (aE ?_)
 try simp only[*,go_sem]
 refine av ?_
 simp only[*,go_sem]
def nt (a:(cL×Int))(i74:Nat)(i83:Nat)(b:aX)(st:Int):Option (Fl Int (Int×Int×Int)):=
 ah (aX.get b (i74:Int)) fun c=>ah (iG a.1.book (i74:Int) c) fun d=>ah (fY a.1.book d) fun e=>cond (e) (some (.nx (IntKind.i64.wrap (st+1)))) (some (.nx st))
def nu (b:(cL×Int))(i74:Nat)(c:bV)(st:(Int×Int)):Option (Fl (Int×Int) (Int×Int×Int)):=
 ah (bE (nt b i74) 0 b.1.all 0) fun o=>aF o (fun a=>cond (decide ((if a<IntKind.i64.wrap ((b.1.all.length:Int) - a) then IntKind.i64.wrap ((b.1.all.length:Int) - a) else a)<st.2)) (some (.nx ((i74:Int),(if a<IntKind.i64.wrap ((b.1.all.length:Int) - a) then IntKind.i64.wrap ((b.1.all.length:Int) - a) else a)))) (some (.nx (st.1,st.2)))) (fun _ _=>none) (fun r=>some (.rt r))
def nv (u0:aj):Option (Int×Int×Int):=
 ah (fo u0 ([]:(List (aj->Option Int)))) fun a=>cond ((a.2 != 0)) (some (0,0,a.2)) (ah (bE (nu a) 0 a.1.book.aC ((-1),(a.1.all.length:Int))) fun o=>aF o (fun b=>some (b.1,b.2,0)) (fun _ _=>none) (fun r=>some r))
theorem zJ {ro:Addr->Option Value}(V:cY ro)(u0:aj){s1 g i j:Value}(w:bt ro u0 s1 g i j){r:(Int×Int×Int)}(h:nv u0=some r):aA Tryz.prog 29 #[bv u0 s1 g i j] ⟨ro,[]⟩ (fun v _=>v= .tuple #[.int .i64 r.1,.int .i64 r.2.1,.int .i64 r.2.2]):=by
 unfold nv at h
 have W:=w.oc;simp only[bw] at W
 refine aA.go Tryz.func29 rfl Tryz.ntmps29 Tryz.results29 (by simp) fun main J hJ A X hd hs=>?_
 have Y:=hs 0
 clear hs
 refine aa hJ (af hJ ?_)
 simp only[*,go_sem]
 refine an fun z dq Z=>?_;try simp only[ak] at Z
 try simp only[*,go_sem]
 refine aa hJ (af hJ ?_)
 revert h;refine bS fun a ab h=>?_
 simp only[*,go_sem]
 refine bN hJ _ (ja V u0 w ([]:(List (aj->Option Int))) (ax.nil _ _) ab) fun v B ds ad ae=>?_
 obtain ⟨C,D,dt,E,du,rfl,f,G⟩:=ae
 have al:=f.oc;simp only[bw] at al
 simp only[aU] at ad
 obtain ⟨d51,H,rfl,dv,I,-⟩:=id f.y
 obtain ⟨d65,K,rfl,dC,L,-⟩:=id G
 refine aE ?_
 try simp only[*,go_sem]
 refine an fun M dE ao=>?_;try simp only[ak] at ao
 try simp only[*,go_sem]
 refine aa hJ (aa hJ (af hJ ?_))
 simp only[*,go_sem]
 revert h;refine jC hJ (by simp only[*,go_sem]) (fun ar h=>?_) fun ar h=>?_
 ·obtain rfl:=sI h
  refine aa hJ (af hJ ?_)
  simp only[*,go_sem]
  refine av ?_
  simp only[*,go_sem]
 refine aD hJ (aa hJ ?_)
 refine cQ hJ mixed 5 2 (by simp only[*,go_sem]) (by kernel_rfl) ?_
 simp only[*,go_sem]
 refine aa hJ (aa hJ (af hJ ?_))
 simp only[*,go_sem]
 refine aM hJ ?_
 revert h;refine bS fun a0 c a2=>?_
 refine bM hJ [2,3,6,7,9,10,27,28,29,30,31,32,33,34,35,36,37,38,39,40,41,42,43,44,45,46,47,48,49,50,51,52,53,54,55,56,57,58,59,60,61,62] (fun m e F'=>∃(i74:Nat) (k:Int) (l:Int),m=a.1.book.aC.length - i74/\i74<=a.1.book.aC.length/\bE (nu a) i74 (a.1.book.aC.drop i74) (k,l)=some a0/\F'=⟨B,(M,kn a.1 C D (sl d51 a.1.book.aC H) E (sl d65 a.1.all K))::(z,bk u0 s1 g i j)::[]⟩/\slot e 27= .int .i64 (i74:Int)/\slot e 2= .int .i64 k/\slot e 3= .int .i64 l) a.1.book.aC.length ?_ ?_
 ·refine ⟨0,(-1),(a.1.all.length:Int),(Nat.sub_zero _).symm,Nat.zero_le _,c,rfl,?_⟩
  simp only[*,go_sem]
 rintro dT a3 F' N ⟨i74,k,l,rfl,ea,c,rfl,a4,a5,a6⟩
 obtain ⟨O,P,Q⟩:=N.pick [4,5,26] (by decide)
 simp only[*,go_sem] at O P Q
 clear N X hd Y
 refine aa hJ (af hJ ?_)
 simp only[*,go_sem]
 refine aa hJ ?_
 rcases Nat.lt_or_ge i74 a.1.book.aC.length with a7|R
 ·refine bD hJ (by simp only[*,go_sem]) ?_
  refine aD hJ ?_
  obtain ⟨a8,q⟩:∃x,a.1.book.aC[i74]?=some x:=⟨_,List.getElem?_eq_getElem a7⟩
  rw[cX q] at c
  revert c;refine bS fun eb h S=>?_
  unfold nu at h
  try dsimp only at h
  obtain ⟨a9,ba,bb,bc,o⟩:=f.y.el _ _ q
  obtain rfl:ba=a8.cells:=bc
  cases bb
  have bd:=o 0 _ rfl;simp only[go_sem] at bd
  have bj:=o 1 _ rfl;simp only[go_sem] at bj
  have bl:=o 2 _ rfl;simp only[go_sem] at bl
  clear o q
  refine aa hJ (aM hJ (aa hJ ?_))
  refine af hJ ?_
  simp only[*,go_sem]
  refine aa hJ (af hJ ?_)
  simp only[*,go_sem]
  refine aa hJ (aa hJ (af hJ ?_))
  simp only[*,go_sem]
  refine aM hJ ?_
  revert h;refine bS fun bm d bo=>?_
  refine bM hJ [7,9,33,34,35,36,37,38,39,40,41,42,43,44,45,46,47,48,49] (fun m e F'=>∃(i83:Nat) (b:Int),m=a.1.all.length - i83/\i83<=a.1.all.length/\bE (nt a i74) i83 (a.1.all.drop i83) b=some bm/\F'=⟨B,(M,kn a.1 C D (sl (some a9) a.1.book.aC H) E (sl d65 a.1.all K))::(z,bk u0 s1 g i j)::[]⟩/\slot e 33= .int .i64 (i83:Int)/\slot e 7= .int .i64 b) a.1.all.length ?_ ?_
  ·refine ⟨0,0,(Nat.sub_zero _).symm,Nat.zero_le _,d,rfl,?_⟩
   simp only[*,go_sem]
  rintro ec br F' s ⟨i83,b,rfl,ed,d,rfl,eh,et⟩
  obtain ⟨bs,bz,b0⟩:=s.pick [2,3,4,5,6,26,27,28,29,30,31,32] (by decide)
  simp only[*,go_sem] at bs bz b0
  have ev:cW [2,3,6,7,9,10,27,28,29,30,31,32,33,34,35,36,37,38,39,40,41,42,43,44,45,46,47,48,49,50,51,52,53,54,55,56,57,58,59,60,61,62] br a3:=(s.fD (by decide)).trans (by simp only[*,go_sem])
  clear s O P Q a5 a6 a4
  refine aa hJ (af hJ ?_)
  simp only[*,go_sem]
  refine aa hJ ?_
  rcases Nat.lt_or_ge i83 a.1.all.length with b1|T
  ·refine bD hJ (by simp only[*,go_sem]) ?_
   refine aD hJ ?_
   obtain ⟨b2,t⟩:∃x,a.1.all[i83]?=some x:=⟨_,List.getElem?_eq_getElem b1⟩
   rw[cX t] at d
   revert d;refine bS fun eQ h U=>?_
   unfold nt at h
   try dsimp only at h
   obtain ⟨eS,b3,b4,b5,p⟩:=G.el _ _ t
   obtain rfl:b3=b2.cells:=b5
   cases b4
   have ca:=p 0 _ rfl;simp only[go_sem] at ca
   have cb:=p 1 _ rfl;simp only[go_sem] at cb
   have cd:=p 2 _ rfl;simp only[go_sem] at cd
   clear p t
   refine aa hJ (aM hJ (aa hJ ?_))
   refine af hJ ?_
   simp only[*,go_sem]
   refine an fun e0 e1 cf=>?_;try simp only[ak] at cf
   try simp only[*,go_sem]
   refine aa hJ ?_
   refine cQ hJ mixed 10 3 (by simp only[*,go_sem]) (by kernel_rfl) ?_
   revert h;refine bS fun cl cy h=>?_
   obtain ⟨e2,e3,cS⟩:=aX.get_some cy
   try simp only[go_sem] at cS
   revert h;refine bS fun c0 da h=>?_
   try simp only[*,go_sem]
   refine ⟨_,bB hJ fun F u=>lF a.1.book (f.mono (bQ u)) (i74:Int) cl da,cc ?_⟩
   revert h;refine bS fun fa db h=>?_
   try simp only[*,go_sem]
   refine ⟨_,bB hJ fun F u=>lO a.1.book (f.mono (bQ u)) c0 db,?_⟩
   try simp only[*,go_sem]
   revert h;refine jC hJ (by simp only[*,go_sem]) (fun dd h=>?_) fun dd h=>?_
   ·obtain rfl:=sI h
    refine af hJ ?_
    simp only[*,go_sem]
    have df:=cj (n:=i83) (by have:=L;omega)
    refine af hJ ?_
    simp only[*,go_sem]
    refine ⟨a.1.all.length - (i83+1),by omega,_,Le.sub (List.Sublist.cons _ (List.Sublist.refl _)),i83+1,(IntKind.i64.wrap (b+1)),rfl,by omega,U,rfl,?_⟩
    simp only[*,go_sem]
   obtain rfl:=sI h
   refine aD hJ ?_
   have df:=cj (n:=i83) (by have:=L;omega)
   refine af hJ ?_
   simp only[*,go_sem]
   refine ⟨a.1.all.length - (i83+1),by omega,_,Le.sub (List.Sublist.cons _ (List.Sublist.refl _)),i83+1,b,rfl,by omega,U,rfl,?_⟩
   simp only[*,go_sem]
  have fb:=Nat.not_lt.2 T
  refine bI hJ (by simp only[*,go_sem]) ?_
  rw[List.drop_eq_nil_of_le T] at d
  obtain rfl:=sI d;clear d
  have h:=bo
  dsimp only[aF] at h
  refine bJ ?_
  simp only[go_sem]
  refine aa hJ (af hJ ?_)
  simp only[*,go_sem]
  refine aa hJ (af hJ ?_)
  simp only[*,go_sem]
  revert h;refine jC hJ (by simp only[*,go_sem]) (fun dk h=>?_) fun dk h=>?_
  ·obtain rfl:=sI h
   refine af hJ ?_
   simp only[*,go_sem]
   have dp:=cj (n:=i74) (by have:=I;omega)
   refine af hJ ?_
   simp only[*,go_sem]
   refine ⟨a.1.book.aC.length - (i74+1),by omega,_,Le.sub (List.Sublist.refl _),i74+1,(i74:Int),(if b<IntKind.i64.wrap ((a.1.all.length:Int) - b) then IntKind.i64.wrap ((a.1.all.length:Int) - b) else b),rfl,by omega,S,rfl,?_⟩
   simp only[*,go_sem]
  obtain rfl:=sI h
  refine aD hJ ?_
  have dp:=cj (n:=i74) (by have:=I;omega)
  refine af hJ ?_
  simp only[*,go_sem]
  refine ⟨a.1.book.aC.length - (i74+1),by omega,_,Le.sub (List.Sublist.refl _),i74+1,k,l,rfl,by omega,S,rfl,?_⟩
  simp only[*,go_sem]
 have fg:=Nat.not_lt.2 R
 refine bI hJ (by simp only[*,go_sem]) ?_
 rw[List.drop_eq_nil_of_le R] at c
 obtain rfl:=sI c;clear c
 have h:=a2
 dsimp only[aF] at h
 obtain rfl:=sI h
 refine bJ ?_
 simp only[go_sem]
 refine aa hJ (af hJ ?_)
 simp only[*,go_sem]
 refine av ?_
 simp only[*,go_sem]
def ny (u0:aj):Option Int:=
 cond (((u0.props.length:Int)==3)) (some 2) (some 0)
theorem E3 {ro:Addr->Option Value}(u0:aj){s1 b c d:Value}(a:bt ro u0 s1 b c d){r:Int}(h:ny u0=some r):aA Tryz.prog 85 #[bv u0 s1 b c d] ⟨ro,[]⟩ (fun v _=>v= .int .i64 r):=by
 obtain ⟨d3,c4,rfl,i,j,-⟩:=id a.e
 obtain ⟨d10,k,rfl,l,m,-⟩:=id a.p
 obtain ⟨d17,n,rfl,o,q,-⟩:=id a.y
 obtain ⟨d24,s,rfl,u,w,-⟩:=id a.t
 unfold ny at h
 refine aA.go Tryz.func85 rfl Tryz.ntmps85 Tryz.results85 (by simp) fun main J hJ A x hd hs=>?_
 have z:=hs 0
 clear hs
 refine aa hJ (af hJ ?_)
 simp only[*,go_sem]
 refine an fun B C f=>?_;try simp only[ak] at f
 try simp only[*,go_sem]
 refine aa hJ (aa hJ (af hJ ?_))
 simp only[*,go_sem]
 revert h;refine jC hJ (by simp only[*,go_sem]) (fun g h=>?_) fun g h=>?_
 ·obtain rfl:=sI h
  refine aa hJ (af hJ ?_)
  simp only[*,go_sem]
  refine av ?_
  simp only[*,go_sem]
 obtain rfl:=sI h
 refine aD hJ (aa hJ ?_)
 refine af hJ ?_
 simp only[*,go_sem]
 refine av ?_
 simp only[*,go_sem]
def lR (u0:aj)(c:bx):Option (aj×Int):=
 ah (iH u0) fun a=>cond ((a != 0)) (some ((⟨0,0,(⟨0,0⟩:au),([]:(List bZ)),([]:(List b6)),([]:(List bV)),([]:(List bx))⟩:aj),a)) (ah (ng u0.told) fun d=>ah (cI d ([c])) fun e=>ah (nq (⟨u0.bF,u0.bL,u0.aV,u0.aB,u0.props,u0.aC,e⟩:aj)) fun b=>some (b.1,b.2))
theorem pN {ro:Addr->Option Value}(k:cY ro)(u0:aj){s1 c d f:Value}(b:bt ro u0 s1 c d f)(a:bx){r:(aj×Int)}(h:lR u0 a=some r):c9 Tryz.prog 31 #[bv u0 s1 c d f,.agg #[.int .i64 a.aT,.bool a.bg]] ro (fun v aI=>∃L w1 w2 w3,v= .tuple #[bv r.1 L w1 w2 w3,.int .i64 r.2]/\bt aI r.1 L w1 w2 w3):=by
 unfold lR at h
 refine aA.go Tryz.func31 rfl Tryz.ntmps31 Tryz.results31 (by simp) fun main J hJ A ca hd hs=>?_
 have cb:=hs 0
 have k1:=hs 1
 clear hs
 refine aa hJ (af hJ ?_)
 simp only[*,go_sem]
 refine an fun g u ab=>?_;try simp only[ak] at ab
 refine an fun i w ad=>?_;try simp only[ak] at ad
 refine an fun j z ae=>?_;try simp only[ak] at ae
 try simp only[*,go_sem]
 refine aa hJ (aa hJ (af hJ ?_))
 revert h;refine bS fun cd al h=>?_
 simp only[*,go_sem]
 refine aO hJ _ (zv (k.mono aN) u0 (b.e.mono aN) (b.p.mono aN) (b.y.mono aN) (b.t.mono aN) al) (aE ?_)
 try simp only[*,go_sem]
 refine aa hJ (af hJ ?_)
 simp only[*,go_sem]
 revert h;refine jC hJ (by simp only[*,go_sem]) (fun ao h=>?_) fun ao h=>?_
 ·obtain rfl:=sI h
  refine aa hJ (af hJ ?_)
  simp only[*,go_sem]
  refine av ?_
  simp only[*,go_sem]
  exact ⟨_,Ext.refl _,Le.sub (List.nil_sublist _),_,_,_,_,rfl,⟨ax.nil _ _,ax.nil _ _,ax.nil _ _,ax.nil _ _⟩⟩
 refine aD hJ (aa hJ ?_)
 refine aH hJ fun ar=>?_
 refine iB hJ mixed [7] (.pure 0 (.rd 1 (.rd 3 (.two 2 (.one 4 (.one 5 (.pure 6 (.last 7 .done)))) 4 (.one 2 (.one 5 (.pure 6 (.last 7 .done)))))))) ⟨ro,[(j,bz 29),(i,.cells #[.int .i64 a.aT,.bool a.bg] 54),(g,bk u0 s1 c d f)]⟩ (by simp only[*,go_sem]) (by kernel_rfl) ?_
 simp only[*,go_sem]
 refine jE ?_ ?_
 ·revert h;refine bS fun a0 a2 h=>?_
  simp only[*,go_sem]
  refine fW hJ (aQ:=[]) [(j,bz 29),(i,.cells #[.int .i64 a.aT,.bool a.bg] 54),(g,bk u0 s1 c d f)] [] _ (uX u0.told b.t a2) (fun cf a3 M m n a4=>?_)
  simp only[List.append_nil,List.cons_append,List.nil_append,List.append_assoc] at n
  subst m
  obtain ⟨d174,cl,rfl,cy⟩:=M.len
  refine ⟨⟨ro,(j,bz 29)::(i,.cells #[.int .i64 a.aT,.bool a.bg] 54)::(g,bk u0 s1 c d f)::a3⟩,Le.refl _,?_⟩
  refine ⟨by simp only[*,go_sem],bU ?_⟩
  revert h;refine bS fun N a5 h=>?_
  obtain ⟨a6,O⟩:=cG a5
  try simp only[*,go_sem]
  refine an fun D P Q=>?_;have a7:=aL.cons Q a4;try simp only[ak] at Q
  try simp only[*,go_sem]
  refine di (r:=cU) (l:=a0) (x:=a) (cs:=#[.int .i64 a.aT,.bool a.bg]) (e2:=54) [(D,.cells #[.int .i64 a.aT,.bool a.bg] 54),(j,bz 29),(i,.cells #[.int .i64 a.aT,.bool a.bg] 54),(g,bk u0 s1 c d f)] [] M a7 a6 rfl (by simp only[*,go_sem]) P rfl rfl dK dK gu gw rfl gv (by decide) (by decide) (fun cS a8 E m n c0=>?_)
  simp only[List.append_nil,List.cons_append,List.nil_append,List.append_assoc] at n
  subst m
  rw[<-O] at E;clear O
  obtain ⟨d186,a9,rfl,da⟩:=E.len
  refine ⟨⟨ro,(D,.cells #[.int .i64 a.aT,.bool a.bg] 54)::(j,bz 29)::(i,.cells #[.int .i64 a.aT,.bool a.bg] 54)::(g,bk u0 s1 c d f)::a8⟩,Le.refl _,?_⟩
  refine ⟨by simp only[*,go_sem],bU ?_⟩
  try simp only[*,go_sem]
  refine aa hJ ?_
  refine aH hJ fun R=>?_
  obtain ⟨db,F,B,S,ba⟩:=E.dF [(D,.cells #[.int .i64 a.aT,.bool a.bg] 54),(j,bz 29),(i,.cells #[.int .i64 a.aT,.bool a.bg] 54),(g,bk u0 s1 c d (sl d186 N a9))] [] R (az.cons P (az.cons z (az.cons w (az.cons u (az.nil _)))))
  clear R
  refine cA hJ ba ?_
  obtain ⟨dd,df,-⟩:=S.op
  replace b:=b.mono F
  replace z:=B.tl.hd
  replace w:=B.tl.tl.hd
  replace u:=B.tl.tl.tl.hd
  replace k:=k.mono F
  simp only[aU] at B
  refine af hJ ?_
  revert h;refine bS fun dk bb h=>?_
  obtain rfl:=sI h
  simp only[*,go_sem]
  refine bN hJ _ (vo k (⟨u0.bF,u0.bL,u0.aV,u0.aB,u0.props,u0.aC,N⟩:aj) ⟨b.e,b.p,b.y,S⟩ bb) fun v dp G C H=>?_
  obtain ⟨dq,ds,dt,du,rfl,o⟩:=H
  replace b:=b.mono G
  replace z:=C.tl.hd
  replace w:=C.tl.tl.hd
  replace u:=C.tl.tl.tl.hd
  replace k:=k.mono G
  simp only[aU] at C
  obtain ⟨d208,dv,rfl,dC,dE,-⟩:=id o.e
  obtain ⟨d215,dT,rfl,ea,eb,-⟩:=id o.p
  obtain ⟨d222,ec,rfl,ed,eh,-⟩:=id o.y
  obtain ⟨d229,et,rfl,ev,eQ,-⟩:=id o.t
  refine aE ?_
  try simp only[*,go_sem]
  refine av ?_
  simp only[*,go_sem]
  exact ⟨_,(F).trans G,Le.sub (List.nil_sublist _),_,_,_,_,rfl,o⟩
 revert h;refine bS fun bc bd h=>?_
 simp only[*,go_sem]
 refine an fun q T U=>?_;have eS:=aL.cons U ar;try simp only[ak] at U
 try simp only[*,go_sem]
 refine fW hJ (aQ:=[]) [(q,.cells #[.int .i64 a.aT,.bool a.bg] 54),(j,bz 29),(i,.cells #[.int .i64 a.aT,.bool a.bg] 54),(g,bk u0 s1 c d f)] [] _ (uX u0.told b.t bd) (fun e0 bj V m n bl=>?_)
 simp only[List.append_nil,List.cons_append,List.nil_append,List.append_assoc] at n
 subst m
 obtain ⟨e1,e3,rfl,fa⟩:=V.len
 refine ⟨⟨ro,(q,.cells #[.int .i64 a.aT,.bool a.bg] 54)::(j,bz 29)::(i,.cells #[.int .i64 a.aT,.bool a.bg] 54)::(g,bk u0 s1 c d f)::bj⟩,Le.refl _,?_⟩
 refine ⟨by simp only[*,go_sem],bU ?_⟩
 revert h;refine bS fun W bm h=>?_
 obtain ⟨bo,X⟩:=cG bm
 try simp only[*,go_sem]
 refine di (r:=cU) (l:=bc) (x:=a) (cs:=#[.int .i64 a.aT,.bool a.bg]) (e2:=54) [(q,.cells #[.int .i64 a.aT,.bool a.bg] 54),(j,bz 29),(i,.cells #[.int .i64 a.aT,.bool a.bg] 54),(g,bk u0 s1 c d f)] [] V bl bo rfl (by simp only[*,go_sem]) T rfl rfl dK dK gu gw rfl gv (by decide) (by decide) (fun fb br I m n fg=>?_)
 simp only[List.append_nil,List.cons_append,List.nil_append,List.append_assoc] at n
 subst m
 rw[<-X] at I;clear X
 obtain ⟨bs,b0,rfl,fi⟩:=I.len
 refine ⟨⟨ro,(q,.cells #[.int .i64 a.aT,.bool a.bg] 54)::(j,bz 29)::(i,.cells #[.int .i64 a.aT,.bool a.bg] 54)::(g,bk u0 s1 c d f)::br⟩,Le.refl _,?_⟩
 refine ⟨by simp only[*,go_sem],bU ?_⟩
 try simp only[*,go_sem]
 refine aa hJ ?_
 refine aH hJ fun Y=>?_
 obtain ⟨fp,K,b1,Z,b2⟩:=I.dF [(q,.cells #[.int .i64 a.aT,.bool a.bg] 54),(j,bz 29),(i,.cells #[.int .i64 a.aT,.bool a.bg] 54),(g,bk u0 s1 c d (sl bs W b0))] [] Y (az.cons T (az.cons z (az.cons w (az.cons u (az.nil _)))))
 clear Y
 refine cA hJ b2 ?_
 obtain ⟨fr,fs,-⟩:=Z.op
 replace b:=b.mono K
 replace k:=k.mono K
 simp only[aU] at b1
 refine af hJ ?_
 revert h;refine bS fun ft b3 h=>?_
 obtain rfl:=sI h
 simp only[*,go_sem]
 refine bN hJ _ (vo k (⟨u0.bF,u0.bL,u0.aV,u0.aB,u0.props,u0.aC,W⟩:aj) ⟨b.e,b.p,b.y,Z⟩ b3) fun v fu b4 b5 H=>?_
 obtain ⟨fv,fw,fx,gg,rfl,s⟩:=H
 simp only[aU] at b5
 obtain ⟨gl,gn,rfl,gp,gB,-⟩:=id s.e
 obtain ⟨gC,gM,rfl,gT,gV,-⟩:=id s.p
 obtain ⟨g0,g1,rfl,g2,g3,-⟩:=id s.y
 obtain ⟨g4,ha,rfl,hc,hf,-⟩:=id s.t
 refine aE ?_
 try simp only[*,go_sem]
 refine av ?_
 simp only[*,go_sem]
 exact ⟨_,(K).trans b4,Le.sub (List.nil_sublist _),_,_,_,_,rfl,s⟩
def nB (u0:aj)(c:Int)(a:cr):Option (aj×Int):=
 ah (eO u0 ([(eF c)])) fun e=>cond ((e.2 != 0)) (some ((⟨0,0,(⟨0,0⟩:au),([]:(List bZ)),([]:(List b6)),([]:(List bV)),([]:(List bx))⟩:aj),e.2)) (ah (o5 a 0 60) fun g=>cond (!g) (some ((⟨0,0,(⟨0,0⟩:au),([]:(List bZ)),([]:(List b6)),([]:(List bV)),([]:(List bx))⟩:aj),1)) (ah (nh u0.aC) fun d=>ah (bq d c) fun b=>cond (decide ((if a.high<b.high.high then a.high else b.high.high)<(if b.high.low<a.low then a.low else b.high.low))) (some ((⟨0,0,(⟨0,0⟩:au),([]:(List bZ)),([]:(List b6)),([]:(List bV)),([]:(List bx))⟩:aj),9)) (ah (bq d c) fun h=>ah (nq (⟨u0.bF,u0.bL,u0.aV,u0.aB,u0.props,(d.set (c).toNat (⟨h.back,(⟨(if b.high.low<a.low then a.low else b.high.low),(if a.high<b.high.high then a.high else b.high.high)⟩:cr)⟩:bV)),u0.told⟩:aj)) fun f=>some (f.1,f.2))))
theorem vt {ro:Addr->Option Value}(g:cY ro)(u0:aj){s1 k q l:Value}(f:bt ro u0 s1 k q l)(d:Int)(a:cr){r:(aj×Int)}(h:nB u0 d a=some r):c9 Tryz.prog 34 #[bv u0 s1 k q l,.int .i64 d,.agg #[.int .i64 a.low,.int .i64 a.high]] ro (fun v aI=>∃U w1 w2 w3,v= .tuple #[bv r.1 U w1 w2 w3,.int .i64 r.2]/\bt aI r.1 U w1 w2 w3):=by
 unfold nB at h
 have ba:=f.oc;simp only[bw] at ba
 refine aA.go Tryz.func34 rfl Tryz.ntmps34 Tryz.results34 (by simp) fun main J hJ A bb hd hs=>?_
 have bc:=hs 0
 have k1:=hs 1
 have bd:=hs 2
 clear hs
 refine aa hJ (af hJ ?_)
 simp only[*,go_sem]
 refine an fun w z bj=>?_;try simp only[ak] at bj
 refine an fun B C bm=>?_;try simp only[ak] at bm
 refine an fun D E bo=>?_;try simp only[ak] at bo
 try simp only[*,go_sem]
 refine aa hJ (aa hJ ?_)
 refine aH hJ fun br=>?_
 refine af hJ ?_
 revert h;refine bS fun K bs h=>?_
 simp only[*,go_sem]
 refine an fun s V W=>?_;have X:=aL.cons W br;try simp only[ak] at W
 try simp only[*,go_sem]
 obtain ⟨j,u,Y⟩:=fc (b:=s) (o:=(.cells #[.func (.func 105) #[.int .i64 d] #[]] 86)) [] ((D,bz 29)::(B,.cells #[.int .i64 a.low,.int .i64 a.high] 56)::(w,bk u0 s1 k q l)::[]) X V (az.cons E (az.cons C (az.cons z (az.nil _))))
 have Z:ax (cR) (bO ro s (.cells #[.func (.func 105) #[.int .i64 d] #[]] 86)) (.slice (some ⟨s,0,none⟩) 1 1) [(eF d)]:=(ax.one (r:=(cR)) (e:=86) (cs:=#[.func (.func 105) #[.int .i64 d] #[]]) (x:=(eF d)) (own:=[(s,.cells #[.func (.func 105) #[.int .i64 d] #[]] 86)]) V (by simp[lk]) ⟨105,#[.int .i64 d],#[],rfl,⟨by simp only[go_sem],fun fb fg b0 _ _ _ _ _ b1 b2 b3 b4 h=>by simp only[go_sem];exact rf d b0 ⟨b1,b2,b3,b4⟩ h⟩⟩)
 generalize bO ro s (.cells #[.func (.func 105) #[.int .i64 d] #[]] 86)=fi at Z u j Y
 refine gk hJ Y ?_
 replace f:=f.mono j
 replace E:=u.hd
 replace C:=u.tl.hd
 replace z:=u.tl.tl.hd
 replace g:=g.mono j
 simp only[aU] at u
 have b5:=aL.tl X
 refine bN hJ _ (jJ g u0 f ([(eF d)]) Z bs) fun v ab m F L=>?_
 obtain ⟨M,N,O,P,rfl,ca⟩:=L
 have cb:=ca.oc;simp only[bw] at cb
 replace f:=f.mono m
 replace E:=F.hd
 replace C:=F.tl.hd
 replace z:=F.tl.tl.hd
 replace g:=g.mono m
 simp only[aU] at F
 refine aE ?_
 try simp only[*,go_sem]
 refine an fun Q cd ad=>?_;have fp:=aL.cons ad b5;try simp only[ak] at ad
 try simp only[*,go_sem]
 refine aa hJ (af hJ ?_)
 simp only[*,go_sem]
 revert h;refine jC hJ (by simp only[*,go_sem]) (fun cf h=>?_) fun cf h=>?_
 ·obtain rfl:=sI h
  refine aa hJ (af hJ ?_)
  simp only[*,go_sem]
  refine av ?_
  simp only[*,go_sem]
  exact ⟨_,(j).trans m,Le.sub (List.nil_sublist _),_,_,_,_,rfl,⟨ax.nil _ _,ax.nil _ _,ax.nil _ _,ax.nil _ _⟩⟩
 refine aD hJ (aa hJ ?_)
 refine aa hJ (af hJ ?_)
 revert h;refine bS fun fr cl h=>?_
 simp only[*,go_sem]
 refine aO hJ _ (zp a 0 60 cl) (aE ?_)
 try simp only[*,go_sem]
 revert h;refine jC hJ (by simp only[*,go_sem]) (fun cy h=>?_) fun cy h=>?_
 ·obtain rfl:=sI h
  refine aa hJ (af hJ ?_)
  simp only[*,go_sem]
  refine av ?_
  simp only[*,go_sem]
  exact ⟨_,(j).trans m,Le.sub (List.nil_sublist _),_,_,_,_,rfl,⟨ax.nil _ _,ax.nil _ _,ax.nil _ _,ax.nil _ _⟩⟩
 refine aD hJ (aa hJ ?_)
 refine aH hJ fun fs=>?_
 refine af hJ ?_
 revert h;refine bS fun G cS h=>?_
 simp only[*,go_sem]
 refine fW hJ (aQ:=[]) [(Q,bl K.1 M N O P),(D,bz 29),(B,.cells #[.int .i64 a.low,.int .i64 a.high] 56),(w,bk u0 s1 k q l)] [] _ (zA u0.aC f.y cS) (fun ft c0 H da db fu=>?_)
 simp only[List.append_nil,List.cons_append,List.nil_append,List.append_assoc] at db
 subst da
 obtain ⟨d87,ae,rfl,fv⟩:=H.len
 refine ⟨⟨ab,(Q,bl K.1 M N O P)::(D,bz 29)::(B,.cells #[.int .i64 a.low,.int .i64 a.high] 56)::(w,bk u0 s1 k q l)::c0⟩,Le.refl _,?_⟩
 refine aE ?_
 try simp only[*,go_sem]
 refine aa hJ ?_
 refine aH hJ fun al=>?_
 refine af hJ ?_
 revert h;refine bS fun c dd h=>?_
 obtain ⟨fw,fx,df⟩:=bX dd
 obtain ⟨R,dk,dp,rfl,rfl,gg,dq,S⟩:=H.qZ df
 obtain rfl:dp=c.cells:=dq
 have ds:=al.nd
 simp only[keys,List.map_cons,List.map_nil,List.map_append,List.cons_append,List.nil_append,List.nodup_cons,List.mem_cons,List.mem_append,List.not_mem_nil,or_false,not_or] at ds
 have ao:=S 0 _ rfl;simp only[go_sem] at ao;have gl:=(Array.getElem?_eq_some_iff.1 ao).1
 have ar:=S 1 _ rfl;simp only[go_sem] at ar;have gn:=(Array.getElem?_eq_some_iff.1 ar).1
 have a0:=S 2 _ rfl;simp only[go_sem] at a0;have gp:=(Array.getElem?_eq_some_iff.1 a0).1
 try simp only[*,go_sem]
 refine an fun dt du a2=>?_;have gB:=aL.cons a2 al;try simp only[ak] at a2
 try simp only[*,go_sem]
 refine aa hJ ?_
 refine eM [1,3,5,6,7,10] fun gC dv dC dE=>?_
 simp only[*,go_sem] at dv dC dE
 clear bb hd bc k1 bd
 refine aH hJ fun dT=>?_
 refine af hJ ?_
 simp only[*,go_sem]
 refine an fun ea eb a3=>?_;have gM:=aL.cons a3 dT;try simp only[ak] at a3
 try simp only[*,go_sem]
 refine aa hJ (aa hJ ?_)
 refine aH hJ fun gT=>?_
 refine af hJ ?_
 simp only[*,go_sem]
 revert h;refine jC hJ (by simp only[*,go_sem]) (fun ec h=>?_) fun ec h=>?_
 ·obtain rfl:=sI h
  refine aa hJ ?_
  refine aH hJ fun gV=>?_
  refine af hJ ?_
  simp only[*,go_sem]
  refine av ?_
  simp only[*,go_sem]
  exact ⟨_,(j).trans m,Le.sub (List.nil_sublist _),_,_,_,_,rfl,⟨ax.nil _ _,ax.nil _ _,ax.nil _ _,ax.nil _ _⟩⟩
 refine aD hJ (aa hJ ?_)
 refine aH hJ fun g0=>?_
 refine af hJ ?_
 revert h;refine bS fun i ed h=>?_
 obtain ⟨g1,g2,a4⟩:=bX ed
 obtain ⟨eh,et,I⟩:=H.ko a4
 obtain rfl:eh=i.cells:=et
 have a5:=I 0 _ rfl;simp only[go_sem] at a5;have g3:=(Array.getElem?_eq_some_iff.1 a5).1
 have a6:=I 1 _ rfl;simp only[go_sem] at a6;have g4:=(Array.getElem?_eq_some_iff.1 a6).1
 have a7:=I 2 _ rfl;simp only[go_sem] at a7;have ha:=(Array.getElem?_eq_some_iff.1 a7).1
 have ev:aP ek ab 148 (.slice (some ⟨R,0,none⟩) G.length ae) (G.set (d).toNat (⟨i.back,(⟨(if c.high.low<a.low then a.low else c.high.low),(if a.high<c.high.high then a.high else c.high.high)⟩:cr)⟩:bV)) [(R,Obj.cells (dz dk ((d).toNat*3+1) [.int .i64 (if c.high.low<a.low then a.low else c.high.low),.int .i64 (if a.high<c.high.high then a.high else c.high.high)]) 148)]:=by have eQ:=H.part (y:=(⟨i.back,(⟨(if c.high.low<a.low then a.low else c.high.low),(if a.high<c.high.high then a.high else c.high.high)⟩:cr)⟩:bV)) a4 1 [.int .i64 (if c.high.low<a.low then a.low else c.high.low),.int .i64 (if a.high<c.high.high then a.high else c.high.high)] [.int .i64 i.back,.int .i64 i.high.low,.int .i64 i.high.high] [.int .i64 i.back,.int .i64 (if c.high.low<a.low then a.low else c.high.low),.int .i64 (if a.high<c.high.high then a.high else c.high.high)] I rfl rfl (by simp) rfl;exact eQ
 try simp only[*,go_sem]
 refine aa hJ ?_
 refine aH hJ fun a8=>?_
 obtain ⟨hc,T,eS,a9,e0⟩:=ev.dF [(ea,.cells #[.int .i64 (if c.high.low<a.low then a.low else c.high.low),.int .i64 (if a.high<c.high.high then a.high else c.high.high)] 56),(dt,.cells #[.int .i64 c.high.low,.int .i64 c.high.high] 56),(Q,bl K.1 M N O P),(D,bz 29),(B,.cells #[.int .i64 a.low,.int .i64 a.high] 56),(w,bk u0 s1 k (sl (some ⟨R,0,none⟩) G ae) l)] [] a8 (az.cons eb (az.cons du (az.cons cd (az.cons E (az.cons C (az.cons z (az.nil _)))))))
 clear a8
 refine cA hJ e0 ?_
 obtain ⟨hf,hg,-⟩:=a9.op
 replace f:=f.mono T
 replace g:=g.mono T
 simp only[aU] at eS
 refine af hJ ?_
 revert h;refine bS fun hh e1 h=>?_
 obtain rfl:=sI h
 simp only[*,go_sem]
 refine bN hJ _ (vo g (⟨u0.bF,u0.bL,u0.aV,u0.aB,u0.props,(G.set (d).toNat (⟨i.back,(⟨(if c.high.low<a.low then a.low else c.high.low),(if a.high<c.high.high then a.high else c.high.high)⟩:cr)⟩:bV)),u0.told⟩:aj) ⟨f.e,f.p,a9,f.t⟩ e1) fun v hi e2 e3 L=>?_
 obtain ⟨hj,hk,hl,hn,rfl,n⟩:=L
 have fa:=n.oc;simp only[bw] at fa
 simp only[aU] at e3
 obtain ⟨d130,ho,rfl,hp,hq,-⟩:=id n.e
 obtain ⟨d137,hr,rfl,ht,hv,-⟩:=id n.p
 obtain ⟨d144,hx,rfl,hy,hz,-⟩:=id n.y
 obtain ⟨d151,hA,rfl,hB,hD,-⟩:=id n.t
 refine aE ?_
 try simp only[*,go_sem]
 refine av ?_
 simp only[*,go_sem]
 exact ⟨_,(((j).trans m).trans T).trans e2,Le.sub (List.nil_sublist _),_,_,_,_,rfl,n⟩
def zK (i43:Nat)(a:(List Int))(st:(List Int)):Option (Fl (List Int) (List Int)):=
 ah (cI st a) fun b=>some (.nx b)
def vu (i9:Nat)(a:(List Int))(st:Int):Option (Fl Int (List Int)):=
 cond (decide ((IntKind.i64.wrap (st+(a.length:Int)))<0)) (none) (some (.nx (IntKind.i64.wrap (st+(a.length:Int)))))
def E4 (i109:Nat)(a:(List Int))(st:(List Int)):Option (Fl (List Int) (List Int)):=
 ah (cI st a) fun b=>some (.nx b)
def vv (u0:(List (List Int))):Option (List Int):=
 ah (bE (vu) 0 u0 0) fun o=>aF o (fun a=>ah (vn a) fun b=>ah (bE (E4) 0 u0 b) fun o=>aF o (fun c=>some c) (fun _ _=>none) (fun r=>some r)) (fun _ _=>none) (fun r=>some r)
theorem E5 {ro:Addr->Option Value}(u0:(List (List Int))){s1:Value}(g:ax (rL rI) ro s1 u0){r:(List Int)}(h:vv u0=some r):c9 Tryz.prog 86 #[s1] ro (fun v aI=>∃s,v=s/\ax rI aI s r):=by
 obtain ⟨d3,c4,rfl,bz,t,-⟩:=id g
 unfold vv at h
 refine aA.go Tryz.func86 rfl Tryz.ntmps86 Tryz.results86 (by simp) fun main J hJ A P hd hs=>?_
 have Q:=hs 0
 clear hs
 refine aa hJ (af hJ ?_)
 simp only[*,go_sem]
 refine aa hJ (af hJ ?_)
 simp only[*,go_sem]
 refine aa hJ (aa hJ (af hJ ?_))
 simp only[*,go_sem]
 refine aM hJ ?_
 revert h;refine bS fun R a S=>?_
 refine bM hJ [3,5,11,12,13,14,15,16,17,18,19,20,21,22] (fun m d F'=>∃(i9:Nat) (e:Int),m=u0.length - i9/\i9<=u0.length/\bE (vu) i9 (u0.drop i9) e=some R/\F'=⟨ro,[]⟩/\slot d 11= .int .i64 (i9:Int)/\slot d 3= .int .i64 e) u0.length ?_ ?_
 ·refine ⟨0,0,(Nat.sub_zero _).symm,Nat.zero_le _,a,rfl,?_⟩
  simp only[*,go_sem]
 rintro b0 b1 F' u ⟨i9,e,rfl,b2,a,rfl,T,U⟩
 obtain ⟨w,y,z⟩:=u.pick [0,2,9,10] (by decide)
 simp only[*,go_sem] at w y z
 clear u P hd Q
 refine aa hJ (af hJ ?_)
 simp only[*,go_sem]
 refine aa hJ ?_
 rcases Nat.lt_or_ge i9 u0.length with V|B
 ·refine bD hJ (by simp only[*,go_sem]) ?_
  refine aD hJ ?_
  obtain ⟨W,i⟩:∃x,u0[i9]?=some x:=⟨_,List.getElem?_eq_getElem V⟩
  rw[cX i] at a
  revert a;refine bS fun b3 h X=>?_
  unfold vu at h
  try dsimp only at h
  obtain ⟨b4,b5,Y,Z,C⟩:=g.el _ _ i
  obtain ⟨ca,rfl,ab⟩:=Z;obtain ⟨d18,cb,rfl,cd,cf,cl⟩:=id ab
  cases Y
  have ad:=C 0 _ rfl;simp only[go_sem] at ad
  clear C i
  refine aa hJ (aM hJ (aa hJ ?_))
  refine af hJ ?_
  simp only[*,go_sem]
  refine aa hJ (af hJ ?_)
  simp only[*,go_sem]
  refine aa hJ (af hJ ?_)
  simp only[*,go_sem]
  revert h;refine jC hJ (by simp only[*,go_sem]) (fun ae h=>?_) fun ae h=>?_
  ·refine af hJ ?_
   cases h
  obtain rfl:=sI h
  refine aD hJ ?_
  have cy:=cj (n:=i9) (by have:=t;omega)
  refine af hJ ?_
  simp only[*,go_sem]
  refine ⟨u0.length - (i9+1),by omega,_,Le.sub (List.Sublist.refl _),i9+1,(IntKind.i64.wrap (e+(W.length:Int))),rfl,by omega,X,rfl,?_⟩
  simp only[*,go_sem]
 have cS:=Nat.not_lt.2 B
 refine bI hJ (by simp only[*,go_sem]) ?_
 rw[List.drop_eq_nil_of_le B] at a
 obtain rfl:=sI a;clear a
 have h:=S
 dsimp only[aF] at h
 refine bJ ?_
 simp only[go_sem]
 refine aa hJ ?_
 refine aH hJ fun c0=>?_
 refine af hJ ?_
 revert h;refine bS fun al ao h=>?_
 simp only[*,go_sem]
 refine fW hJ (aQ:=[]) [] [] _ (EZ e ao) (fun da D E j k db=>?_)
 simp only[List.append_nil,List.cons_append,List.nil_append,List.append_assoc] at k
 subst j
 obtain ⟨d32,ar,rfl,a0⟩:=E.len
 refine ⟨⟨ro,D⟩,Le.refl _,?_⟩
 refine aE ?_
 try simp only[*,go_sem]
 refine aa hJ (aa hJ ?_)
 refine aH hJ fun dd=>?_
 refine af hJ ?_
 simp only[*,go_sem]
 refine aM hJ ?_
 revert h;refine bS fun a2 b a3=>?_
 refine bM hJ [6,8,27,28,29,30,31,32,33,34] (fun m d F'=>∃(i43:Nat) (d38:Option Addr) (f:Nat) (o:List (Nat×Obj)) (c:(List Int)),m=u0.length - i43/\i43<=u0.length/\bE (zK) i43 (u0.drop i43) c=some a2/\F'=⟨ro,o⟩/\aP rI ro 3 (.slice d38 c.length f) c o/\c.length<=f/\slot d 27= .int .i64 (i43:Int)/\slot d 6= .slice d38 c.length f) u0.length ?_ ?_
 ·refine ⟨0,d32,ar,D,al,(Nat.sub_zero _).symm,Nat.zero_le _,b,rfl,E,a0,?_⟩
  simp only[*,go_sem]
 rintro df dk F' F ⟨i43,d38,f,o,c,rfl,dp,b,rfl,G,dq,ds,dt⟩
 obtain ⟨a4,a5,a6⟩:=F.pick [2,25,26] (by decide)
 simp only[*,go_sem] at a4 a5 a6
 clear F w y z U T
 refine aa hJ (af hJ ?_)
 simp only[*,go_sem]
 refine aa hJ ?_
 rcases Nat.lt_or_ge i43 u0.length with a7|H
 ·refine bD hJ (by simp only[*,go_sem]) ?_
  refine aD hJ ?_
  obtain ⟨a8,p⟩:∃x,u0[i43]?=some x:=⟨_,List.getElem?_eq_getElem a7⟩
  rw[cX p] at b
  revert b;refine bS fun du h a9=>?_
  unfold zK at h
  try dsimp only at h
  obtain ⟨dv,dC,ba,bb,I⟩:=g.el _ _ p
  obtain ⟨dE,rfl,K⟩:=bb;obtain ⟨d52,dT,rfl,ea,eb,ec⟩:=id K
  cases ba
  have bc:=I 0 _ rfl;simp only[go_sem] at bc
  clear I p
  refine aa hJ (aM hJ (aa hJ ?_))
  refine aH hJ fun ed=>?_
  refine af hJ ?_
  simp only[*,go_sem]
  refine aH hJ fun bd=>?_
  refine af hJ ?_
  revert h;refine bS fun bj bk h=>?_
  obtain rfl:=sI h
  obtain ⟨bl,L⟩:=cG bk
  simp only[*,go_sem]
  refine lE (r:=rI) (l:=c) (xs:=a8) [] [] G bd bl K rfl rfl dL dL gm gr rfl gq (by decide) (by decide) (fun eh M q j k et=>?_)
  simp only[List.append_nil,List.cons_append,List.nil_append,List.append_assoc] at k
  subst j
  rw[<-L] at q;clear L
  obtain ⟨d66,bm,rfl,bo⟩:=q.len
  refine ⟨⟨ro,M⟩,Le.refl _,?_⟩
  refine aE ?_
  try simp only[*,go_sem]
  have ev:=cj (n:=i43) (by have:=t;omega)
  refine af hJ ?_
  simp only[*,go_sem]
  refine ⟨u0.length - (i43+1),by omega,_,Le.sub (List.Sublist.refl _),i43+1,d66,bm,M,bj,rfl,by omega,a9,rfl,q,bo,?_⟩
  simp only[*,go_sem]
 have eQ:=Nat.not_lt.2 H
 refine bI hJ (by simp only[*,go_sem]) ?_
 rw[List.drop_eq_nil_of_le H] at b
 obtain rfl:=sI b;clear b
 have h:=a3
 dsimp only[aF] at h
 obtain rfl:=sI h
 refine bJ ?_
 simp only[go_sem]
 refine aa hJ ?_
 refine aH hJ fun eS=>?_
 refine af hJ ?_
 simp only[*,go_sem]
 refine aH hJ fun N=>?_
 obtain ⟨e0,br,e1,O,bs⟩:=G.dF [] [] N (az.nil _)
 clear N
 refine cA hJ bs ?_
 obtain ⟨e2,e3,-⟩:=O.op
 refine av ?_
 simp only[*,go_sem]
 exact ⟨_,br,Le.sub (List.nil_sublist _),_,rfl,O⟩
def vw (a:Int)(i44:Nat)(b:aX)(st:(List Int)):Option (Fl (List Int) (List Int)):=
 ah (aX.get b a) fun c=>ah (cI st ([c])) fun d=>some (.nx d)
def nC (u0:cL)(a:Int):Option (List Int):=
 ah (bE (vw a) 0 u0.all ([]:List Int)) fun o=>aF o (fun b=>ah (vl b) fun c=>ah (vm c.2) fun d=>some d) (fun _ _=>none) (fun r=>some r)
theorem rZ {ro:Addr->Option Value}(u0:cL){s1 a b c:Value}(b3:bt ro u0.book s1 a b c){y:Value}(z:ax gy ro y u0.all)(s:Int){r:(List Int)}(h:nC u0 s=some r):c9 Tryz.prog 113 #[.agg #[.int .i64 u0.book.bF,.int .i64 u0.book.bL,.int .i64 u0.book.aV.num,.int .i64 u0.book.aV.den,s1,a,b,c,y],.int .i64 s] ro (fun v aI=>∃B,v=B/\ax rI aI B r):=by
 obtain ⟨d31,d,rfl,b4,R,-⟩:=id z
 unfold nC at h
 refine aA.go Tryz.func113 rfl Tryz.ntmps113 Tryz.results113 (by simp) fun main J hJ A S hd hs=>?_
 have T:=hs 0
 have k1:=hs 1
 clear hs
 refine aa hJ (af hJ ?_)
 simp only[*,go_sem]
 refine an fun e U V=>?_;try simp only[ak] at V
 try simp only[*,go_sem]
 refine aa hJ (af hJ ?_)
 simp only[*,go_sem]
 refine aa hJ (aa hJ (af hJ ?_))
 simp only[*,go_sem]
 refine aM hJ ?_
 revert h;refine bS fun W g X=>?_
 refine bM hJ [5,7,11,12,13,14,15,16,17,18,19,20,21] (fun m C F'=>∃(i44:Nat) (d38:Option Addr) (o:Nat) (t:List (Nat×Obj)) (f:(List Int)),m=u0.all.length - i44/\i44<=u0.all.length/\bE (vw s) i44 (u0.all.drop i44) f=some W/\F'=⟨ro,(e,kn u0 s1 a b c (sl d31 u0.all d))::t⟩/\aP rI ro 3 (.slice d38 f.length o) f t/\f.length<=o/\slot C 11= .int .i64 (i44:Int)/\slot C 5= .slice d38 f.length o) u0.all.length ?_ ?_
 ·refine ⟨0,none,0,[],([]:List Int),(Nat.sub_zero _).symm,Nat.zero_le _,g,rfl,aP.nil _ _ _,Nat.le_refl _,?_⟩
  simp only[*,go_sem]
 rintro b5 ca F' D ⟨i44,d38,o,t,f,rfl,cb,g,rfl,E,cd,cf,cl⟩
 obtain ⟨Y,Z,ab⟩:=D.pick [1,4,9,10] (by decide)
 simp only[*,go_sem] at Y Z ab
 clear D S hd T k1
 refine aa hJ (af hJ ?_)
 simp only[*,go_sem]
 refine aa hJ ?_
 rcases Nat.lt_or_ge i44 u0.all.length with ad|F
 ·refine bD hJ (by simp only[*,go_sem]) ?_
  refine aD hJ ?_
  obtain ⟨i,u⟩:∃x,u0.all[i44]?=some x:=⟨_,List.getElem?_eq_getElem ad⟩
  rw[cX u] at g
  revert g;refine bS fun cy h ae=>?_
  unfold vw at h
  try dsimp only at h
  obtain ⟨G,al,ao,ar,p⟩:=z.el _ _ u
  obtain rfl:al=i.cells:=ar
  cases ao
  have a0:=p 0 _ rfl;simp only[go_sem] at a0
  have a2:=p 1 _ rfl;simp only[go_sem] at a2
  have a3:=p 2 _ rfl;simp only[go_sem] at a3
  clear p u
  refine aa hJ (aM hJ (aa hJ ?_))
  refine aH hJ fun a4=>?_
  refine af hJ ?_
  simp only[*,go_sem]
  refine an fun H cS I=>?_;have c0:=aL.cons I a4;try simp only[ak] at I
  try simp only[*,go_sem]
  refine aH hJ fun a5=>?_
  refine af hJ ?_
  revert h;refine bS fun q a6 h=>?_
  obtain ⟨da,db,a7⟩:=aX.get_some a6
  try simp only[go_sem] at a7
  revert h;refine bS fun a8 a9 h=>?_
  obtain rfl:=sI h
  obtain ⟨ba,K⟩:=cG a9
  try simp only[*,go_sem]
  refine an fun L bb M=>?_;have bc:=aL.cons M a5;try simp only[ak] at M
  try simp only[*,go_sem]
  refine di (r:=rI) (l:=f) (x:=q) (cs:=#[.int .i64 q]) (e2:=3) [(L,ic q),(H,.cells #[.int .i64 i.e0,.int .i64 i.e1,.int .i64 i.e2] 141),(e,kn u0 s1 a b c (sl (some G) u0.all d))] [] E bc ba rfl (by simp only[*,go_sem]) bb rfl rfl dL dL gm gr rfl gq (by decide) (by decide) (fun dd N w j k df=>?_)
  simp only[List.append_nil,List.cons_append,List.nil_append,List.append_assoc] at k
  subst j
  rw[<-K] at w;clear K
  obtain ⟨d66,bd,rfl,bj⟩:=w.len
  refine ⟨⟨ro,(L,ic q)::(H,.cells #[.int .i64 i.e0,.int .i64 i.e1,.int .i64 i.e2] 141)::(e,kn u0 s1 a b c (sl (some G) u0.all d))::N⟩,Le.refl _,?_⟩
  refine aE ?_
  try simp only[*,go_sem]
  have dk:=cj (n:=i44) (by have:=R;omega)
  refine af hJ ?_
  simp only[*,go_sem]
  refine ⟨u0.all.length - (i44+1),by omega,_,Le.sub (List.Sublist.cons _ (List.Sublist.cons _ (List.Sublist.refl _))),i44+1,d66,bd,N,a8,rfl,by omega,ae,rfl,w,bj,?_⟩
  simp only[*,go_sem]
 have dp:=Nat.not_lt.2 F
 refine bI hJ (by simp only[*,go_sem]) ?_
 rw[List.drop_eq_nil_of_le F] at g
 obtain rfl:=sI g;clear g
 have h:=X
 dsimp only[aF] at h
 refine bJ ?_
 simp only[go_sem]
 refine aa hJ ?_
 refine aH hJ fun dq=>?_
 refine af hJ ?_
 revert h;refine bS fun bk bl h=>?_
 simp only[*,go_sem]
 refine fW hJ [(e,kn u0 s1 a b c (sl d31 u0.all d))] [] _ (EW f E bl) (fun ds bm bo j k dt=>?_)
 obtain ⟨rfl,br⟩:=bo
 simp only[List.append_nil,List.cons_append,List.nil_append,List.append_assoc] at k
 subst j
 refine ⟨⟨ro,(e,kn u0 s1 a b c (sl d31 u0.all d))::bm⟩,Le.refl _,?_⟩
 try simp only[*,go_sem]
 refine aa hJ ?_
 refine aH hJ fun du=>?_
 refine af hJ ?_
 revert h;refine bS fun dv bs h=>?_
 obtain rfl:=sI h
 simp only[*,go_sem]
 refine fW hJ [(e,kn u0 s1 a b c (sl d31 u0.all d))] [] _ (EX bk.2 br bs) (fun dC bz O j k dE=>?_)
 simp only[List.append_nil,List.cons_append,List.nil_append,List.append_assoc] at k
 subst j
 obtain ⟨d83,dT,rfl,ea⟩:=O.len
 refine ⟨⟨ro,(e,kn u0 s1 a b c (sl d31 u0.all d))::bz⟩,Le.refl _,?_⟩
 refine aE ?_
 try simp only[*,go_sem]
 refine aH hJ fun P=>?_
 obtain ⟨eb,b0,b1,Q,b2⟩:=O.dF [(e,kn u0 s1 a b c (sl d31 u0.all d))] [] P (az.cons U (az.nil _))
 clear P
 refine cA hJ b2 ?_
 obtain ⟨ec,ed,-⟩:=Q.op
 simp only[aU] at b1
 refine av ?_
 simp only[*,go_sem]
 exact ⟨_,b0,Le.sub (List.nil_sublist _),_,rfl,Q⟩
def vz (u0:cL)(i47:Nat)(i75:Nat)(b:Int)(st:(List bf)):Option (Fl (List bf) (List bf)):=
 ah (iG u0.book (i47:Int) b) fun a=>ah (uR st a) fun c=>cond (!c) (ah (cI st ([a])) fun d=>some (.nx d)) (some (.nx st))
def vA (u0:cL)(i47:Nat)(c:bV)(st:(List bf)):Option (Fl (List bf) (List bf)):=
 ah (nC u0 (i47:Int)) fun a=>ah (bE (vz u0 i47) 0 a st) fun o=>aF o (fun b=>some (.nx b)) (fun _ _=>none) (fun r=>some (.rt r))
def r4 (u0:cL):Option (List bf):=
 ah (bE (vA u0) 0 u0.book.aC ([]:List bf)) fun o=>aF o (fun a=>some a) (fun _ _=>none) (fun r=>some r)
theorem zL {ro:Addr->Option Value}(u0:cL){s1 c R d:Value}(e:bt ro u0.book s1 c R d){f:Value}(H:ax gy ro f u0.all){r:(List bf)}(h:r4 u0=some r):c9 Tryz.prog 74 #[.agg #[.int .i64 u0.book.bF,.int .i64 u0.book.bL,.int .i64 u0.book.aV.num,.int .i64 u0.book.aV.den,s1,c,R,d,f]] ro (fun v aI=>∃S,v=S/\ax iD aI S r):=by
 obtain ⟨d17,o,rfl,e0,a8,-⟩:=id e.y
 unfold r4 at h
 refine aA.go Tryz.func74 rfl Tryz.ntmps74 Tryz.results74 (by simp) fun main J hJ A a9 hd hs=>?_
 have ba:=hs 0
 clear hs
 refine aa hJ (af hJ ?_)
 simp only[*,go_sem]
 refine an fun p I bb=>?_;try simp only[ak] at bb
 try simp only[*,go_sem]
 refine aa hJ (af hJ ?_)
 simp only[*,go_sem]
 refine aa hJ (aa hJ (af hJ ?_))
 simp only[*,go_sem]
 refine aM hJ ?_
 revert h;refine bS fun bc i bd=>?_
 refine bM hJ [3,4,6,7,13,14,15,16,17,18,19,20,21,22,23,24,25,26,27,28,29,30,31,32,33,34,35,36,37,38] (fun m s F'=>∃(i47:Nat) (w:Addr->Option Value) (d38:Option Addr) (t:Nat) (z:List (Nat×Obj)) (j:(List bf)),m=u0.book.aC.length - i47/\i47<=u0.book.aC.length/\bE (vA u0) i47 (u0.book.aC.drop i47) j=some bc/\F'=⟨w,(p,kn u0 s1 c (sl d17 u0.book.aC o) d f)::z⟩/\Ext ro w/\aP iD w 90 (.slice d38 j.length t) j z/\j.length<=t/\slot s 13= .int .i64 (i47:Int)/\slot s 3= .slice d38 j.length t) u0.book.aC.length ?_ ?_
 ·refine ⟨0,ro,none,0,[],([]:List bf),(Nat.sub_zero _).symm,Nat.zero_le _,i,rfl,Ext.refl _,aP.nil _ _ _,Nat.le_refl _,?_⟩
  simp only[*,go_sem]
 rintro e1 bj F' T ⟨i47,w,d38,t,z,j,rfl,e3,i,rfl,B,C,bk,bl,bm⟩
 refine ez hJ fun _ U=>?_
 replace e:=e.mono B
 replace H:=H.mono B
 replace I:=U.hd
 simp only[aU] at U
 obtain ⟨V,W,X⟩:=T.pick [1,2,12] (by decide)
 simp only[*,go_sem] at V W X
 clear T a9 hd ba
 refine aa hJ (af hJ ?_)
 simp only[*,go_sem]
 refine aa hJ ?_
 rcases Nat.lt_or_ge i47 u0.book.aC.length with bo|Y
 ·refine bD hJ (by simp only[*,go_sem]) ?_
  refine aD hJ ?_
  obtain ⟨br,K⟩:∃x,u0.book.aC[i47]?=some x:=⟨_,List.getElem?_eq_getElem bo⟩
  rw[cX K] at i
  revert i;refine bS fun fa h bs=>?_
  unfold vA at h
  try dsimp only at h
  obtain ⟨D,bz,b0,b1,E⟩:=e.y.el _ _ K
  obtain rfl:bz=br.cells:=b1
  cases b0
  have b2:=E 0 _ rfl;simp only[go_sem] at b2
  have b3:=E 1 _ rfl;simp only[go_sem] at b3
  have b4:=E 2 _ rfl;simp only[go_sem] at b4
  clear E K
  refine aa hJ (aM hJ (aa hJ ?_))
  refine aH hJ fun fb=>?_
  refine af hJ ?_
  simp only[*,go_sem]
  refine aa hJ ?_
  refine aH hJ fun fg=>?_
  refine af hJ ?_
  revert h;refine bS fun g b5 h=>?_
  simp only[*,go_sem]
  refine bN hJ _ (rZ u0 e H (i47:Int) b5) fun v F L M ca=>?_
  obtain ⟨fi,rfl,Z⟩:=ca
  replace e:=e.mono L
  replace I:=M.hd
  replace C:=C.mono L M.tl
  simp only[aU] at M
  obtain ⟨d64,fp,rfl,fr,ab,-⟩:=id Z
  refine aE ?_
  try simp only[*,go_sem]
  refine aM hJ ?_
  revert h;refine bS fun cb k cd=>?_
  refine bM hJ [3,6,7,20,21,22,23,24,25,26,27,28,29,30,31,32,33,34,35,36,37] (fun m s F'=>∃(i75:Nat) (d70:Option Addr) (q:Nat) (u:List (Nat×Obj)) (b:(List bf)),m=g.length - i75/\i75<=g.length/\bE (vz u0 i47) i75 (g.drop i75) b=some cb/\F'=⟨F,(p,kn u0 s1 c (sl (some D) u0.book.aC o) d f)::u⟩/\aP iD F 90 (.slice d70 b.length q) b u/\b.length<=q/\slot s 20= .int .i64 (i75:Int)/\slot s 3= .slice d70 b.length q) g.length ?_ ?_
  ·refine ⟨0,d38,t,z,j,(Nat.sub_zero _).symm,Nat.zero_le _,k,rfl,C,bk,?_⟩
   simp only[*,go_sem]
  rintro fs cf F' N ⟨i75,d70,q,u,b,rfl,ft,k,rfl,G,ad,fu,fv⟩
  obtain ⟨cl,cy,cS⟩:=N.pick [1,2,4,12,13,14,15,16,17,18,19] (by decide)
  simp only[*,go_sem] at cl cy cS
  have fw:cW [3,4,6,7,13,14,15,16,17,18,19,20,21,22,23,24,25,26,27,28,29,30,31,32,33,34,35,36,37,38] cf bj:=(N.fD (by decide)).trans (by simp only[*,go_sem])
  clear N V W X bm bl
  refine aa hJ (af hJ ?_)
  simp only[*,go_sem]
  refine aa hJ ?_
  rcases Nat.lt_or_ge i75 g.length with c0|ae
  ·refine bD hJ (by simp only[*,go_sem]) ?_
   refine aD hJ ?_
   obtain ⟨al,O⟩:∃x,g[i75]?=some x:=⟨_,List.getElem?_eq_getElem c0⟩
   rw[cX O] at k
   revert k;refine bS fun fx h ao=>?_
   unfold vz at h
   try dsimp only at h
   obtain ⟨gg,da,db,dd,ar⟩:=Z.el _ _ O
   obtain rfl:da=[.int .i64 al]:=dd
   cases db
   have df:=ar 0 _ rfl;simp only[go_sem] at df
   clear ar O
   refine aa hJ (aM hJ (aa hJ ?_))
   refine aH hJ fun gl=>?_
   refine af hJ ?_
   simp only[*,go_sem]
   refine aa hJ ?_
   refine aH hJ fun dk=>?_
   refine af hJ ?_
   revert h;refine bS fun a dp h=>?_
   simp only[*,go_sem]
   refine aO hJ _ (lF u0.book (e.mono aN) (i47:Int) al dp) (aE ?_)
   try simp only[*,go_sem]
   refine an fun P gn a0=>?_;have gp:=aL.cons a0 dk;try simp only[ak] at a0
   try simp only[*,go_sem]
   refine aa hJ ?_
   refine aH hJ fun dq=>?_
   refine af hJ ?_
   revert h;refine bS fun gB ds h=>?_
   simp only[*,go_sem]
   refine aO hJ _ (Ev b (G.zn [(P,.cells #[.int .i64 a.back,.int .i64 a.high] 90),(p,kn u0 s1 c (sl (some D) u0.book.aC o) d f)] [] (by first|rfl|simp only[List.append_nil,List.cons_append,List.nil_append,List.append_assoc]|(simp only[List.append_nil,List.cons_append,List.nil_append,List.append_assoc];rfl)) dq) a ds) (aE ?_)
   try simp only[*,go_sem]
   revert h;refine jC hJ (by simp only[*,go_sem]) (fun dt h=>?_) fun dt h=>?_
   ·refine aH hJ fun du=>?_
    refine af hJ ?_
    revert h;refine bS fun dv dC h=>?_
    obtain rfl:=sI h
    obtain ⟨dE,a2⟩:=cG dC
    simp only[*,go_sem]
    refine an fun a3 dT a4=>?_;have ea:=aL.cons a4 du;try simp only[ak] at a4
    try simp only[*,go_sem]
    refine di (r:=iD) (l:=b) (x:=a) (cs:=#[.int .i64 a.back,.int .i64 a.high]) (e2:=90) [(a3,.cells #[.int .i64 a.back,.int .i64 a.high] 90),(P,.cells #[.int .i64 a.back,.int .i64 a.high] 90),(p,kn u0 s1 c (sl (some D) u0.book.aC o) d f)] [] G ea dE rfl (by simp only[*,go_sem]) dT rfl rfl yJ yJ C8 Da rfl C9 (by decide) (by decide) (fun gC a5 Q eb ec gM=>?_)
    simp only[List.append_nil,List.cons_append,List.nil_append,List.append_assoc] at ec
    subst eb
    rw[<-a2] at Q;clear a2
    obtain ⟨d102,ed,rfl,eh⟩:=Q.len
    refine ⟨⟨F,(a3,.cells #[.int .i64 a.back,.int .i64 a.high] 90)::(P,.cells #[.int .i64 a.back,.int .i64 a.high] 90)::(p,kn u0 s1 c (sl (some D) u0.book.aC o) d f)::a5⟩,Le.refl _,?_⟩
    refine aE ?_
    try simp only[*,go_sem]
    have et:=cj (n:=i75) (by have:=ab;omega)
    refine af hJ ?_
    simp only[*,go_sem]
    refine ⟨g.length - (i75+1),by omega,_,Le.sub (List.Sublist.cons _ (List.Sublist.cons _ (List.Sublist.refl _))),i75+1,d102,ed,a5,dv,rfl,by omega,ao,rfl,Q,eh,?_⟩
    simp only[*,go_sem]
   obtain rfl:=sI h
   refine aD hJ ?_
   have et:=cj (n:=i75) (by have:=ab;omega)
   refine af hJ ?_
   simp only[*,go_sem]
   refine ⟨g.length - (i75+1),by omega,_,Le.sub (List.Sublist.cons _ (List.Sublist.refl _)),i75+1,d70,q,u,b,rfl,by omega,ao,rfl,G,ad,?_⟩
   simp only[*,go_sem]
  have gT:=Nat.not_lt.2 ae
  refine bI hJ (by simp only[*,go_sem]) ?_
  rw[List.drop_eq_nil_of_le ae] at k
  obtain rfl:=sI k;clear k
  have h:=cd
  dsimp only[aF] at h
  obtain rfl:=sI h
  refine bJ ?_
  simp only[go_sem]
  have gV:=cj (n:=i47) (by have:=a8;omega)
  refine af hJ ?_
  simp only[*,go_sem]
  refine ⟨u0.book.aC.length - (i47+1),by omega,_,Le.sub (List.Sublist.refl _),i47+1,F,d70,q,u,b,rfl,by omega,bs,rfl,(B.trans L),G,ad,?_⟩
  simp only[*,go_sem]
 have g0:=Nat.not_lt.2 Y
 refine bI hJ (by simp only[*,go_sem]) ?_
 rw[List.drop_eq_nil_of_le Y] at i
 obtain rfl:=sI i;clear i
 have h:=bd
 dsimp only[aF] at h
 obtain rfl:=sI h
 refine bJ ?_
 simp only[go_sem]
 refine aa hJ ?_
 refine aH hJ fun g1=>?_
 refine af hJ ?_
 simp only[*,go_sem]
 refine aH hJ fun a6=>?_
 obtain ⟨g2,ev,eQ,a7,eS⟩:=C.dF [(p,kn u0 s1 c (sl d17 u0.book.aC o) d f)] [] a6 (az.cons I (az.nil _))
 clear a6
 refine cA hJ eS ?_
 obtain ⟨g3,g4,-⟩:=a7.op
 simp only[aU] at eQ
 refine av ?_
 simp only[*,go_sem]
 exact ⟨_,(B).trans ev,Le.sub (List.nil_sublist _),_,rfl,a7⟩
def pO (a:Int)(i109:Nat)(b:bx)(st:((List Int)×(List bx))):Option (Fl ((List Int)×(List bx)) ((List Int)×Int)):=
 ah (ug a (i109:Int)) fun c=>cond (((yB c 1)==1)) (ah (cI st.1 ([(i109:Int)])) fun d=>ah (cI st.2 ([b])) fun e=>some (.nx (d,e))) (some (.nx (st.1,st.2)))
def lS (u0:aj)(a:(aj×Int))(c:Int)(st:((List (List Int))×Int)):Option (Fl ((List (List Int))×Int) ((List Int)×Int)):=
 cond (decide (st.2<c)) (ah (bE (pO st.2) 0 u0.told (([]:List Int),([]:List bx))) fun o=>aF o (fun b=>ah (ni (⟨a.1.bF,a.1.bL,a.1.aV,a.1.aB,a.1.props,a.1.aC,b.2⟩:aj)) fun d=>cond (!d) (ah (cI st.1 ([b.1])) fun e=>some (.nx (e,(IntKind.i64.wrap (st.2+1))))) (some (.nx (st.1,(IntKind.i64.wrap (st.2+1)))))) (fun _ _=>none) (fun r=>some (.rt r))) (some (.bk (st.1,st.2)))
def kB (u0:aj):Option ((List Int)×Int):=
 ah (eO u0 ([]:(List (aj->Option Int)))) fun a=>cond ((a.2 != 0)) (some (([]:(List Int)),a.2)) (ah (ni a.1) fun c=>cond (c) (some (([]:(List Int)),0)) (ah (qP 1 (u0.told.length:Int)) fun d=>ah (aR (lS u0 a d) fu (([]:List (List Int)),0)) fun o=>aF o (fun b=>ah (bq b.1 0) fun e=>ah (iA b.1 1 (b.1.length:Int)) fun f=>ah (m7 gQ e f) fun g=>some (g,0)) (fun _ _=>none) (fun r=>some r)))
theorem vB {ro:Addr->Option Value}(gg:cY ro)(u0:aj){s1 i j b4:Value}(K:bt ro u0 s1 i j b4){r:((List Int)×Int)}(h:kB u0=some r):c9 Tryz.prog 27 #[bv u0 s1 i j b4] ro (fun v aI=>∃b5,v= .tuple #[b5,.int .i64 r.2]/\ax rI aI b5 r.1):=by
 obtain ⟨d24,k,rfl,nb,ab,-⟩:=id K.t
 unfold kB at h
 have gl:=K.oc;simp only[bw] at gl
 refine aA.go Tryz.func27 rfl Tryz.ntmps27 Tryz.results27 (by simp) fun main J hJ A gn hd hs=>?_
 have gp:=hs 0
 clear hs
 refine aa hJ (af hJ ?_)
 simp only[*,go_sem]
 refine an fun o L gB=>?_;try simp only[ak] at gB
 try simp only[*,go_sem]
 refine aa hJ (af hJ ?_)
 revert h;refine bS fun b gC h=>?_
 simp only[*,go_sem]
 refine bN hJ _ (jJ gg u0 K ([]:(List (aj->Option Int))) (ax.nil _ _) gC) fun v ca ad cb a7=>?_
 obtain ⟨c,d,f,q,rfl,P⟩:=a7
 have gM:=P.oc;simp only[bw] at gM
 replace K:=K.mono ad
 replace L:=cb.hd
 simp only[aU] at cb
 refine aE ?_
 try simp only[*,go_sem]
 refine an fun s Q gT=>?_;try simp only[ak] at gT
 try simp only[*,go_sem]
 refine aa hJ (aa hJ (af hJ ?_))
 simp only[*,go_sem]
 revert h;refine jC hJ (by simp only[*,go_sem]) (fun gV h=>?_) fun gV h=>?_
 ·obtain rfl:=sI h
  refine aa hJ (af hJ ?_)
  simp only[*,go_sem]
  refine av ?_
  simp only[*,go_sem]
  exact ⟨_,ad,Le.sub (List.nil_sublist _),_,rfl,ax.nil _ _⟩
 refine aD hJ (aa hJ ?_)
 refine aa hJ (af hJ ?_)
 revert h;refine bS fun nd g0 h=>?_
 simp only[*,go_sem]
 refine aO hJ _ (zE b.1 (P.mono aN) g0) ?_
 try simp only[*,go_sem]
 revert h;refine jC hJ (by simp only[*,go_sem]) (fun g1 h=>?_) fun g1 h=>?_
 ·obtain rfl:=sI h
  refine aa hJ (af hJ ?_)
  simp only[*,go_sem]
  refine av ?_
  simp only[*,go_sem]
  exact ⟨_,ad,Le.sub (List.nil_sublist _),_,rfl,ax.nil _ _⟩
 refine aD hJ (aa hJ ?_)
 refine af hJ ?_
 simp only[*,go_sem]
 refine aa hJ (aa hJ (af hJ ?_))
 revert h;refine bS fun g2 cd h=>?_
 obtain ⟨nf,g3⟩:=C0 cd
 clear cd
 try simp only[go_sem] at g3
 try simp only[*,go_sem]
 refine aM hJ ?_
 revert h;refine bS fun g4 ae ha=>?_
 refine bM hJ [6,7,8,9,10,11,26,27,28,29,30,31,32,33,34,35,36,37,38,39,40,41,42,43,44,45,46,47,48,49,50,51,52,53,54,55,56,57,58,59,60,61,62,63,64,65] (fun m V F'=>∃(B:Addr->Option Value) (d71:Option Addr) (S:Nat) (w:List (Nat×Obj)) (I:(List (List Int))) (T:Int),aR (lS u0 b g2) m (I,T)=some g4/\F'=⟨B,(s,bl b.1 c d f q)::(o,bk u0 s1 i j (sl d24 u0.told k))::w⟩/\Ext ca B/\aP (rL rI) B 46 (.slice d71 I.length S) I w/\I.length<=S/\slot V 6= .slice d71 I.length S/\slot V 26= .int .i64 T) fu ?_ ?_
 ·refine ⟨ca,none,0,[],([]:List (List Int)),0,ae,rfl,Ext.refl _,aP.nil _ _ _,Nat.le_refl _,?_⟩
  simp only[*,go_sem]
 rintro al hc F' cf ⟨B,d71,S,w,I,T,ae,rfl,W,U,hf,hg,hh⟩
 refine ez hJ fun _ a8=>?_
 replace P:=P.mono W
 replace K:=K.mono W
 replace Q:=a8.hd
 replace L:=a8.tl.hd
 simp only[aU] at a8
 obtain ⟨cl,cy,cS⟩:=cf.pick [1,2,3,4,25] (by decide)
 simp only[*,go_sem] at cl cy cS
 clear cf gn hd gp
 obtain _|al:=al
 ·exact absurd ae (by simp only[aR,reduceCtorEq,not_false_eq_true])
 revert ae;refine bS fun nm h ao=>?_
 unfold lS at h
 try dsimp only at h
 refine aa hJ ?_
 refine aH hJ fun nn=>?_
 refine af hJ ?_
 simp only[*,go_sem]
 refine aa hJ ?_
 revert h;refine jC hJ (by simp only[*,go_sem]) (fun hi h=>?_) fun hi h=>?_
 ·refine aD hJ (aa hJ ?_)
  refine aM hJ (aa hJ ?_)
  refine aH hJ fun np=>?_
  refine af hJ ?_
  simp only[*,go_sem]
  refine aa hJ ?_
  refine aH hJ fun ns=>?_
  refine af hJ ?_
  simp only[*,go_sem]
  refine aa hJ ?_
  refine aH hJ fun hj=>?_
  refine af hJ ?_
  simp only[*,go_sem]
  refine an fun z hk c0=>?_;have nx:=aL.cons c0 hj;try simp only[ak] at c0
  try simp only[*,go_sem]
  refine aa hJ ?_
  refine aH hJ fun nz=>?_
  refine af hJ ?_
  simp only[*,go_sem]
  refine aa hJ (aa hJ ?_)
  refine aH hJ fun nA=>?_
  refine af hJ ?_
  simp only[*,go_sem]
  refine aM hJ ?_
  revert h;refine bS fun hl R hn=>?_
  refine bM hJ [8,10,11,35,36,37,38,39,40,41,42,43,44,45,46,47,48,49,50,51,52,53,54,55,56,57] (fun m V F'=>∃(i109:Nat) (d96:Option Addr) (M:Nat) (X:List (Nat×Obj)) (d103:Option Addr) (u:Nat) (C:List (Nat×Obj)) (D:(List Int)) (g:(List bx)),m=u0.told.length - i109/\i109<=u0.told.length/\bE (pO T) i109 (u0.told.drop i109) (D,g)=some hl/\F'=⟨B,(z,bl b.1 c d f (sl d103 g u))::(s,bl b.1 c d f q)::(o,bk u0 s1 i j (sl d24 u0.told k))::(X++(C++w))⟩/\aP rI B 3 (.slice d96 D.length M) D X/\D.length<=M/\aP cU B 54 (.slice d103 g.length u) g C/\g.length<=u/\slot V 35= .int .i64 (i109:Int)/\slot V 8= .slice d96 D.length M) u0.told.length ?_ ?_
  ·refine ⟨0,none,0,[],none,0,[],([]:List Int),([]:List bx),(Nat.sub_zero _).symm,Nat.zero_le _,R,rfl,aP.nil _ _ _,Nat.le_refl _,aP.nil _ _ _,Nat.le_refl _,?_⟩
   simp only[*,go_sem]
  rintro nH ho F' a9 ⟨i109,d96,M,X,d103,u,C,D,g,rfl,nI,R,rfl,Y,hp,N,hq,nK,nQ⟩
  obtain ⟨hr,ht,hv⟩:=a9.pick [1,2,3,4,6,7,9,25,26,27,28,29,30,31,32,33,34] (by decide)
  simp only[*,go_sem] at hr ht hv
  have nR:cW [6,7,8,9,10,11,26,27,28,29,30,31,32,33,34,35,36,37,38,39,40,41,42,43,44,45,46,47,48,49,50,51,52,53,54,55,56,57,58,59,60,61,62,63,64,65] ho hc:=(a9.fD (by decide)).trans (by simp only[*,go_sem])
  clear a9 cl cy cS hg hh
  refine aa hJ (af hJ ?_)
  simp only[*,go_sem]
  refine aa hJ ?_
  rcases Nat.lt_or_ge i109 u0.told.length with hx|da
  ·refine bD hJ (by simp only[*,go_sem]) ?_
   refine aD hJ ?_
   obtain ⟨a,ba⟩:∃x,u0.told[i109]?=some x:=⟨_,List.getElem?_eq_getElem hx⟩
   rw[cX ba] at R
   revert R;refine bS fun nT h ar=>?_
   unfold pO at h
   try dsimp only at h
   obtain ⟨E,hy,hz,hA,bb⟩:=K.t.el _ _ ba
   obtain rfl:hy=a.cells:=hA
   cases hz
   have hB:=bb 0 _ rfl;simp only[go_sem] at hB
   have hD:=bb 1 _ rfl;simp only[go_sem] at hD
   clear bb ba
   refine aa hJ (aM hJ (aa hJ ?_))
   refine aH hJ fun hE=>?_
   refine af hJ ?_
   simp only[*,go_sem]
   refine an fun F nV db=>?_;have nX:=aL.cons db hE;try simp only[ak] at db
   try simp only[*,go_sem]
   refine aa hJ ?_
   refine aH hJ fun nY=>?_
   refine af hJ ?_
   revert h;refine bS fun n0 dd h=>?_
   obtain ⟨n1,hF⟩:=C1 dd
   clear dd
   try simp only[go_sem] at hF
   try simp only[*,go_sem]
   revert h;refine jC hJ (by simp only[*,go_sem]) (fun hG h=>?_) fun hG h=>?_
   ·refine aH hJ fun df=>?_
    refine iB hJ mixed [13] (.pure 0 (.pure 1 (.pure 4 (.pure 5 (.rd 6 (.rd 7 (.two 2 (.two 3 (.one 8 (.one 9 (.pure 10 (.pure 11 (.pure 12 (.last 13 .done)))))) 8 (.one 3 (.one 9 (.pure 10 (.pure 11 (.pure 12 (.last 13 .done))))))) 8 (.one 2 (.one 3 (.one 9 (.pure 10 (.pure 11 (.pure 12 (.last 13 .done)))))))))))))) ⟨B,[(F,.cells #[.int .i64 a.aT,.bool a.bg] 54),(z,bl b.1 c d f (sl d103 g u)),(s,bl b.1 c d f q),(o,bk u0 s1 i j (sl (some E) u0.told k))]⟩ (by simp only[*,go_sem]) (by kernel_rfl) ?_
    simp only[*,go_sem]
    refine jE ?_ ?_
    ·simp only[*,go_sem]
     refine an fun O dk dp=>?_;have dq:=aL.cons dp df;try simp only[ak] at dp
     try simp only[*,go_sem]
     refine jE ?_ ?_
     ·revert h;refine bS fun hI hK h=>?_
      obtain ⟨hL,ds⟩:=cG hK
      simp only[*,go_sem]
      refine di (r:=rI) (l:=D) (x:=(i109:Int)) (cs:=#[.int .i64 (i109:Int)]) (e2:=3) [(O,ic (i109:Int)),(F,.cells #[.int .i64 a.aT,.bool a.bg] 54),(z,bl b.1 c d f (sl d103 g u)),(s,bl b.1 c d f q),(o,bk u0 s1 i j (sl (some E) u0.told k))] (C++w) Y dq hL rfl (by simp only[*,go_sem]) dk rfl rfl dL dL gm gr rfl gq (by decide) (by decide) (fun n2 a0 bc G H hM=>?_)
      simp only[List.append_nil,List.cons_append,List.nil_append,List.append_assoc] at H
      subst G
      rw[<-ds] at bc;clear ds
      obtain ⟨d197,hN,rfl,hP⟩:=bc.len
      refine ⟨⟨B,(O,ic (i109:Int))::(F,.cells #[.int .i64 a.aT,.bool a.bg] 54)::(z,bl b.1 c d f (sl d103 g u))::(s,bl b.1 c d f q)::(o,bk u0 s1 i j (sl (some E) u0.told k))::(a0++(C++w))⟩,Le.refl _,?_⟩
      refine ⟨by simp only[*,go_sem],bU ?_⟩
      revert h;refine bS fun hQ hR h=>?_
      obtain rfl:=sI h
      obtain ⟨hS,dt⟩:=cG hR
      try simp only[*,go_sem]
      refine an fun du hT dv=>?_;have hV:=aL.cons dv hM;try simp only[ak] at dv
      try simp only[*,go_sem]
      refine di (r:=cU) (l:=g) (x:=a) (cs:=#[.int .i64 a.aT,.bool a.bg]) (e2:=54) ((du,.cells #[.int .i64 a.aT,.bool a.bg] 54)::(O,ic (i109:Int))::(F,.cells #[.int .i64 a.aT,.bool a.bg] 54)::(z,bl b.1 c d f (sl d103 g u))::(s,bl b.1 c d f q)::(o,bk u0 s1 i j (sl (some E) u0.told k))::a0) w N hV hS rfl (by simp only[*,go_sem]) hT rfl rfl dK dK gu gw rfl gv (by decide) (by decide) (fun n3 dC bd G H oi=>?_)
      simp only[List.append_nil,List.cons_append,List.nil_append,List.append_assoc] at H
      subst G
      rw[<-dt] at bd;clear dt
      obtain ⟨d208,hX,rfl,hY⟩:=bd.len
      refine ⟨⟨B,(du,.cells #[.int .i64 a.aT,.bool a.bg] 54)::(O,ic (i109:Int))::(F,.cells #[.int .i64 a.aT,.bool a.bg] 54)::(z,bl b.1 c d f (sl d103 g u))::(s,bl b.1 c d f q)::(o,bk u0 s1 i j (sl (some E) u0.told k))::(a0++(dC++w))⟩,Le.refl _,?_⟩
      refine ⟨by simp only[*,go_sem],bU ?_⟩
      try simp only[*,go_sem]
      have bj:=cj (n:=i109) (by have:=ab;omega)
      refine af hJ ?_
      simp only[*,go_sem]
      refine ⟨u0.told.length - (i109+1),by omega,_,Le.sub (List.Sublist.cons _ (List.Sublist.cons _ (List.Sublist.cons _ (List.Sublist.refl _)))),i109+1,d197,hN,a0,d208,hX,dC,hI,hQ,rfl,by omega,ar,rfl,bc,hP,bd,hY,?_⟩
      simp only[*,go_sem]
     revert h;refine bS fun hZ h0 h=>?_
     obtain ⟨h1,dE⟩:=cG h0
     simp only[*,go_sem]
     refine an fun a2 h2 dT=>?_;have h3:=aL.cons dT dq;try simp only[ak] at dT
     try simp only[*,go_sem]
     refine di (r:=rI) (l:=D) (x:=(i109:Int)) (cs:=#[.int .i64 (i109:Int)]) (e2:=3) [(a2,.cells #[.int .i64 a.aT,.bool a.bg] 54),(O,ic (i109:Int)),(F,.cells #[.int .i64 a.aT,.bool a.bg] 54),(z,bl b.1 c d f (sl d103 g u)),(s,bl b.1 c d f q),(o,bk u0 s1 i j (sl (some E) u0.told k))] (C++w) Y h3 h1 rfl (by simp only[*,go_sem]) dk rfl rfl dL dL gm gr rfl gq (by decide) (by decide) (fun oj a3 bm G H h4=>?_)
     simp only[List.append_nil,List.cons_append,List.nil_append,List.append_assoc] at H
     subst G
     rw[<-dE] at bm;clear dE
     obtain ⟨d219,h5,rfl,h6⟩:=bm.len
     refine ⟨⟨B,(a2,.cells #[.int .i64 a.aT,.bool a.bg] 54)::(O,ic (i109:Int))::(F,.cells #[.int .i64 a.aT,.bool a.bg] 54)::(z,bl b.1 c d f (sl d103 g u))::(s,bl b.1 c d f q)::(o,bk u0 s1 i j (sl (some E) u0.told k))::(a3++(C++w))⟩,Le.refl _,?_⟩
     refine ⟨by simp only[*,go_sem],bU ?_⟩
     revert h;refine bS fun h7 h8 h=>?_
     obtain rfl:=sI h
     obtain ⟨h9,ea⟩:=cG h8
     try simp only[*,go_sem]
     refine di (r:=cU) (l:=g) (x:=a) (cs:=#[.int .i64 a.aT,.bool a.bg]) (e2:=54) ((a2,.cells #[.int .i64 a.aT,.bool a.bg] 54)::(O,ic (i109:Int))::(F,.cells #[.int .i64 a.aT,.bool a.bg] 54)::(z,bl b.1 c d f (sl d103 g u))::(s,bl b.1 c d f q)::(o,bk u0 s1 i j (sl (some E) u0.told k))::a3) w N h4 h9 rfl (by simp only[*,go_sem]) h2 rfl rfl dK dK gu gw rfl gv (by decide) (by decide) (fun ox eb bo G H oy=>?_)
     simp only[List.append_nil,List.cons_append,List.nil_append,List.append_assoc] at H
     subst G
     rw[<-ea] at bo;clear ea
     obtain ⟨d228,ib,rfl,ih⟩:=bo.len
     refine ⟨⟨B,(a2,.cells #[.int .i64 a.aT,.bool a.bg] 54)::(O,ic (i109:Int))::(F,.cells #[.int .i64 a.aT,.bool a.bg] 54)::(z,bl b.1 c d f (sl d103 g u))::(s,bl b.1 c d f q)::(o,bk u0 s1 i j (sl (some E) u0.told k))::(a3++(eb++w))⟩,Le.refl _,?_⟩
     refine ⟨by simp only[*,go_sem],bU ?_⟩
     try simp only[*,go_sem]
     have bj:=cj (n:=i109) (by have:=ab;omega)
     refine af hJ ?_
     simp only[*,go_sem]
     refine ⟨u0.told.length - (i109+1),by omega,_,Le.sub (List.Sublist.cons _ (List.Sublist.cons _ (List.Sublist.cons _ (List.Sublist.refl _)))),i109+1,d219,h5,a3,d228,ib,eb,hZ,h7,rfl,by omega,ar,rfl,bm,h6,bo,ih,?_⟩
     simp only[*,go_sem]
    revert h;refine bS fun ik il h=>?_
    obtain ⟨im,ec⟩:=cG il
    simp only[*,go_sem]
    refine an fun a4 iv ed=>?_;have ix:=aL.cons ed df;try simp only[ak] at ed
    try simp only[*,go_sem]
    refine an fun a5 j1 eh=>?_;have j2:=aL.cons eh ix;try simp only[ak] at eh
    try simp only[*,go_sem]
    refine di (r:=rI) (l:=D) (x:=(i109:Int)) (cs:=#[.int .i64 (i109:Int)]) (e2:=3) [(a5,ic (i109:Int)),(a4,.cells #[.int .i64 a.aT,.bool a.bg] 54),(F,.cells #[.int .i64 a.aT,.bool a.bg] 54),(z,bl b.1 c d f (sl d103 g u)),(s,bl b.1 c d f q),(o,bk u0 s1 i j (sl (some E) u0.told k))] (C++w) Y j2 im rfl (by simp only[*,go_sem]) j1 rfl rfl dL dL gm gr rfl gq (by decide) (by decide) (fun o0 a6 br G H kh=>?_)
    simp only[List.append_nil,List.cons_append,List.nil_append,List.append_assoc] at H
    subst G
    rw[<-ec] at br;clear ec
    obtain ⟨kj,kk,rfl,kl⟩:=br.len
    refine ⟨⟨B,(a5,ic (i109:Int))::(a4,.cells #[.int .i64 a.aT,.bool a.bg] 54)::(F,.cells #[.int .i64 a.aT,.bool a.bg] 54)::(z,bl b.1 c d f (sl d103 g u))::(s,bl b.1 c d f q)::(o,bk u0 s1 i j (sl (some E) u0.told k))::(a6++(C++w))⟩,Le.refl _,?_⟩
    refine ⟨by simp only[*,go_sem],bU ?_⟩
    revert h;refine bS fun km kn h=>?_
    obtain rfl:=sI h
    obtain ⟨kp,et⟩:=cG kn
    try simp only[*,go_sem]
    refine di (r:=cU) (l:=g) (x:=a) (cs:=#[.int .i64 a.aT,.bool a.bg]) (e2:=54) ((a5,ic (i109:Int))::(a4,.cells #[.int .i64 a.aT,.bool a.bg] 54)::(F,.cells #[.int .i64 a.aT,.bool a.bg] 54)::(z,bl b.1 c d f (sl d103 g u))::(s,bl b.1 c d f q)::(o,bk u0 s1 i j (sl (some E) u0.told k))::a6) w N kh kp rfl (by simp only[*,go_sem]) iv rfl rfl dK dK gu gw rfl gv (by decide) (by decide) (fun o1 ev bs G H o2=>?_)
    simp only[List.append_nil,List.cons_append,List.nil_append,List.append_assoc] at H
    subst G
    rw[<-et] at bs;clear et
    obtain ⟨ks,kt,rfl,kv⟩:=bs.len
    refine ⟨⟨B,(a5,ic (i109:Int))::(a4,.cells #[.int .i64 a.aT,.bool a.bg] 54)::(F,.cells #[.int .i64 a.aT,.bool a.bg] 54)::(z,bl b.1 c d f (sl d103 g u))::(s,bl b.1 c d f q)::(o,bk u0 s1 i j (sl (some E) u0.told k))::(a6++(ev++w))⟩,Le.refl _,?_⟩
    refine ⟨by simp only[*,go_sem],bU ?_⟩
    try simp only[*,go_sem]
    have bj:=cj (n:=i109) (by have:=ab;omega)
    refine af hJ ?_
    simp only[*,go_sem]
    refine ⟨u0.told.length - (i109+1),by omega,_,Le.sub (List.Sublist.cons _ (List.Sublist.cons _ (List.Sublist.cons _ (List.Sublist.refl _)))),i109+1,kj,kk,a6,ks,kt,ev,ik,km,rfl,by omega,ar,rfl,br,kl,bs,kv,?_⟩
    simp only[*,go_sem]
   obtain rfl:=sI h
   refine aD hJ ?_
   have bj:=cj (n:=i109) (by have:=ab;omega)
   refine af hJ ?_
   simp only[*,go_sem]
   refine ⟨u0.told.length - (i109+1),by omega,_,Le.sub (List.Sublist.cons _ (List.Sublist.refl _)),i109+1,d96,M,X,d103,u,C,D,g,rfl,by omega,ar,rfl,Y,hp,N,hq,?_⟩
   simp only[*,go_sem]
  have o4:=Nat.not_lt.2 da
  refine bI hJ (by simp only[*,go_sem]) ?_
  rw[List.drop_eq_nil_of_le da] at R
  obtain rfl:=sI R;clear R
  have h:=hn
  dsimp only[aF] at h
  refine bJ ?_
  simp only[go_sem]
  refine aa hJ ?_
  refine aH hJ fun kx=>?_
  refine af hJ ?_
  revert h;refine bS fun pa ky h=>?_
  simp only[*,go_sem]
  refine aO hJ _ (zE (⟨b.1.bF,b.1.bL,b.1.aV,b.1.aB,b.1.props,b.1.aC,g⟩:aj) ⟨(P.e.mono aN),(P.p.mono aN),(P.y.mono aN),(N.zn ((z,bl b.1 c d f (sl d103 g u))::(s,bl b.1 c d f q)::(o,bk u0 s1 i j (sl d24 u0.told k))::X) w (by first|rfl|simp only[List.append_nil,List.cons_append,List.nil_append,List.append_assoc]|(simp only[List.append_nil,List.cons_append,List.nil_append,List.append_assoc];rfl)) kx)⟩ ky) (aE ?_)
  try simp only[*,go_sem]
  revert h;refine jC hJ (by simp only[*,go_sem]) (fun k0 h=>?_) fun k0 h=>?_
  ·refine aH hJ fun eQ=>?_
   obtain ⟨eS,bz,Z,e0,k2⟩:=Y.ki ((z,bl b.1 c d f (sl d103 g u))::(s,bl b.1 c d f q)::(o,bk u0 s1 i j (sl d24 u0.told k))::(C++w)) [(z,bl b.1 c d f (sl d103 g u)),(s,bl b.1 c d f q),(o,bk u0 s1 i j (sl d24 u0.told k))] (C++w) (by first|rfl|simp only[List.append_nil,List.cons_append,List.nil_append,List.append_assoc]|(simp only[List.append_nil,List.cons_append,List.nil_append,List.append_assoc];rfl)) (by first|rfl|simp only[List.append_nil,List.cons_append,List.nil_append,List.append_assoc]|(simp only[List.append_nil,List.cons_append,List.nil_append,List.append_assoc];rfl)) eQ (az.cons hk (az.cons Q (az.cons L (az.app N.gO (U.gO)))))
   clear eQ
   refine cA hJ k2 ?_
   obtain ⟨pb,pd,-⟩:=e0.op
   replace Q:=Z.tl.hd
   replace L:=Z.tl.tl.hd
   replace N:=N.mono bz Z.tl.tl.tl.l
   replace U:=U.mono bz Z.tl.tl.tl.r
   simp only[aU] at Z
   refine aH hJ fun lb=>?_
   refine af hJ ?_
   revert h;refine bS fun lh lj h=>?_
   obtain rfl:=sI h
   obtain ⟨lk,e1⟩:=cG lj
   simp only[*,go_sem]
   refine an fun e3 ll fa=>?_;have ln:=aL.cons fa lb;try simp only[ak] at fa
   try simp only[*,go_sem]
   refine di (r:=(rL rI)) (l:=I) (x:=D) (cs:=#[.slice d96 D.length M]) (e2:=46) ((e3,.cells #[.slice d96 D.length M] 46)::(z,bl b.1 c d f (sl d103 g u))::(s,bl b.1 c d f q)::(o,bk u0 s1 i j (sl d24 u0.told k))::C) [] U ln lk ⟨_,rfl,e0⟩ (by simp only[*,go_sem]) ll rfl rfl fV fV lq lz rfl lu (by decide) (by decide) (fun pf fb b0 G H ph=>?_)
   simp only[List.append_nil,List.cons_append,List.nil_append,List.append_assoc] at H
   subst G
   rw[<-e1] at b0;clear e1
   obtain ⟨lo,lr,rfl,lv⟩:=b0.len
   refine ⟨⟨eS,(e3,.cells #[.slice d96 D.length M] 46)::(z,bl b.1 c d f (sl d103 g u))::(s,bl b.1 c d f q)::(o,bk u0 s1 i j (sl d24 u0.told k))::(C++fb)⟩,Le.refl _,?_⟩
   refine aE ?_
   try simp only[*,go_sem]
   refine aH hJ fun pj=>?_
   refine af hJ ?_
   simp only[*,go_sem]
   refine ⟨al,Nat.lt_succ_self _,_,Le.sub (List.Sublist.cons _ (List.Sublist.cons _ (List.Sublist.cons₂ _ (List.Sublist.cons₂ _ ((List.Sublist.refl _).trans (List.sublist_append_right _ _)))))),eS,lo,lr,fb,lh,(IntKind.i64.wrap (T+1)),ao,rfl,(W.trans bz),b0,lv,?_⟩
   simp only[*,go_sem]
  obtain rfl:=sI h
  refine aD hJ ?_
  refine aH hJ fun pk=>?_
  refine af hJ ?_
  simp only[*,go_sem]
  refine ⟨al,Nat.lt_succ_self _,_,Le.sub (List.Sublist.cons _ (List.Sublist.cons₂ _ (List.Sublist.cons₂ _ (((List.Sublist.refl _).trans (List.sublist_append_right _ _)).trans (List.sublist_append_right _ _))))),B,d71,S,w,I,(IntKind.i64.wrap (T+1)),ao,rfl,W,U,hf,?_⟩
  simp only[*,go_sem]
 obtain rfl:=sI h
 refine bJ ?_
 simp only[go_sem]
 obtain rfl:=sI ao;clear ao
 have h:=ha
 dsimp only[aF] at h
 refine aa hJ ?_
 refine aH hJ fun fg=>?_
 obtain ⟨po,lx,b1,b2,ly⟩:=U.ki ((s,bl b.1 c d f q)::(o,bk u0 s1 i j (sl d24 u0.told k))::[]) [(s,bl b.1 c d f q),(o,bk u0 s1 i j (sl d24 u0.told k))] [] (by first|rfl|simp only[List.append_nil,List.cons_append,List.nil_append,List.append_assoc]|(simp only[List.append_nil,List.cons_append,List.nil_append,List.append_assoc];rfl)) (by first|rfl|simp only[List.append_nil,List.cons_append,List.nil_append,List.append_assoc]|(simp only[List.append_nil,List.cons_append,List.nil_append,List.append_assoc];rfl)) fg (az.cons Q (az.cons L (az.nil _)))
 clear fg
 refine cA hJ ly ?_
 obtain ⟨pr,ps,-⟩:=b2.op
 replace Q:=b1.hd
 replace L:=b1.tl.hd
 simp only[aU] at b1
 refine cQ hJ mixed 5 2 (by simp only[*,go_sem]) (by kernel_rfl) ?_
 revert h;refine bS fun lL l1 h=>?_
 obtain ⟨pt,pv,fi⟩:=bX l1
 obtain ⟨pw,px,l2,l3,fp⟩:=b2.el _ _ fi
 obtain ⟨py,rfl,fr⟩:=l3;obtain ⟨pA,pB,rfl,pC,pD,pT⟩:=id fr
 cases l2
 have l4:=fp 0 _ rfl;simp only[go_sem] at l4
 clear fp fi
 revert h;refine bS fun ma mf h=>?_
 obtain ⟨p0,p1,q0,fs⟩:=oN mf
 have ft:(1:Int).toNat<=((I.length:Int)).toNat:=by omega
 have mi:((I.length:Int)).toNat<=S:=by omega
 have q1:0<=((I.length:Int)):=by omega
 obtain ⟨ra,ml,mn,fv⟩:=ax.oQ b2 (1:Int).toNat ((I.length:Int)).toNat ft (by omega) fs
 simp only[go_sem] at ml mn ft mi
 obtain ⟨_,_,mr,rb,re,rh⟩:=id fv;cases mr
 clear fs
 revert h;refine bS fun rk mx h=>?_
 obtain rfl:=sI h
 try simp only[*,go_sem]
 refine bN hJ _ (Et (dA:=94) (dQ:=#[]) (dR:=#[]) gQ ⟨by simp only[go_sem],fun rl rn my _ m1 _ _ m2 na h=>by simp only[go_sem];exact E2 my m2 m1 na h⟩ lL fr ma fv mx) fun v rp fw b3 a7=>?_
 obtain ⟨rr,rfl,fx⟩:=a7
 replace Q:=b3.hd
 replace L:=b3.tl.hd
 simp only[aU] at b3
 obtain ⟨rv,rB,rfl,sa,sb,-⟩:=id fx
 have sc:=eu (l:=[(s,bl b.1 c d f q),(o,bk u0 s1 i j (sl d24 u0.told k))]) fw (az.cons Q (az.cons L (az.nil _)))
 refine ⟨by simp only[*,go_sem],?_⟩
 refine k8 ?_
 try simp only[*,go_sem]
 refine av ?_
 simp only[*,go_sem]
 exact ⟨_,(((ad).trans W).trans lx).trans fw,Le.sub (List.nil_sublist _),_,rfl,fx⟩
def vC (a:(cL×Int))(i93:Nat)(b:bf)(st:(List bA)):Option (Fl (List bA) (au×au×Bool×Int)):=
 ah (ku a.1.book b) fun c=>ah (cI st ([c])) fun d=>some (.nx d)
def vD (u0:aj):Option (au×au×Bool×Int):=
 ah (fo u0 ([]:(List (aj->Option Int)))) fun a=>cond ((a.2 != 0)) (some ((⟨0,0⟩:au),(⟨0,0⟩:au),false,a.2)) (ah (r4 a.1) fun g=>ah (bE (vC a) 0 g ([]:List bA)) fun o=>aF o (fun b=>ah (bq b 0) fun c=>ah (iA b 1 (b.length:Int)) fun d=>ah (lG iF c d) fun h=>ah (lG rj c d) fun i=>ah (iY h.high u0.aV) fun e=>ah (iX i.high u0.aV) fun f=>ah (ew f e) fun j=>cond (j) (some ((⟨0,0⟩:au),(⟨0,0⟩:au),false,0)) (some (e,f,true,0))) (fun _ _=>none) (fun r=>some r))
theorem E6 {ro:Addr->Option Value}(bl:cY ro)(u0:aj){s1 f g i:Value}(ab:bt ro u0 s1 f g i){r:(au×au×Bool×Int)}(h:vD u0=some r):aA Tryz.prog 20 #[bv u0 s1 f g i] ⟨ro,[]⟩ (fun v _=>v= .tuple #[r.1.v,r.2.1.v,.bool r.2.2.1,.int .i64 r.2.2.2]):=by
 unfold vD at h
 have bm:=ab.oc;simp only[bw] at bm
 refine aA.go Tryz.func20 rfl Tryz.ntmps20 Tryz.results20 (by simp) fun main J hJ A bo hd hs=>?_
 have br:=hs 0
 clear hs
 refine aa hJ (af hJ ?_)
 simp only[*,go_sem]
 refine an fun j L bs=>?_;try simp only[ak] at bs
 refine an fun z M bz=>?_;try simp only[ak] at bz
 refine an fun B N b0=>?_;try simp only[ak] at b0
 try simp only[*,go_sem]
 refine aa hJ (af hJ ?_)
 revert h;refine bS fun d b1 h=>?_
 simp only[*,go_sem]
 refine bN hJ _ (ja bl u0 ab ([]:(List (aj->Option Int))) (ax.nil _ _) b1) fun v g1 g2 I O=>?_
 obtain ⟨k,o,p,q,s,rfl,D,ad⟩:=O
 have b2:=D.oc;simp only[bw] at b2
 have b3:=ad.oc;simp only[bw] at b3
 replace N:=I.hd
 replace M:=I.tl.hd
 replace L:=I.tl.tl.hd
 simp only[aU] at I
 refine aE ?_
 try simp only[*,go_sem]
 refine an fun t ae b4=>?_;try simp only[ak] at b4
 try simp only[*,go_sem]
 refine aa hJ (aa hJ (af hJ ?_))
 simp only[*,go_sem]
 revert h;refine jC hJ (by simp only[*,go_sem]) (fun b5 h=>?_) fun b5 h=>?_
 ·obtain rfl:=sI h
  refine aa hJ (af hJ ?_)
  simp only[*,go_sem]
  refine av ?_
  simp only[*,go_sem]
 refine aD hJ (aa hJ ?_)
 refine af hJ ?_
 simp only[*,go_sem]
 refine aa hJ (aa hJ (af hJ ?_))
 revert h;refine bS fun u ca h=>?_
 simp only[*,go_sem]
 refine bN hJ _ (zL d.1 D ad ca) fun v P cb E O=>?_
 obtain ⟨g3,rfl,al⟩:=O
 replace D:=D.mono cb
 replace ae:=E.hd
 replace N:=E.tl.hd
 replace M:=E.tl.tl.hd
 replace L:=E.tl.tl.tl.hd
 simp only[aU] at E
 obtain ⟨d81,g4,rfl,ha,cd,-⟩:=id al
 refine aE ?_
 try simp only[*,go_sem]
 refine aM hJ ?_
 revert h;refine bS fun cf w cl=>?_
 refine bM hJ [7,9,25,26,27,28,29,30,31,32,33,34,35,36] (fun m ao F'=>∃(i93:Nat) (d87:Option Addr) (G:Nat) (Q:List (Nat×Obj)) (e:(List bA)),m=u.length - i93/\i93<=u.length/\bE (vC d) i93 (u.drop i93) e=some cf/\F'=⟨P,(t,kn d.1 k o p q s)::(B,rt 0 0)::(z,rt 0 0)::(j,bk u0 s1 f g i)::Q⟩/\aP jG P 94 (.slice d87 e.length G) e Q/\e.length<=G/\slot ao 25= .int .i64 (i93:Int)/\slot ao 7= .slice d87 e.length G) u.length ?_ ?_
 ·refine ⟨0,none,0,[],([]:List bA),(Nat.sub_zero _).symm,Nat.zero_le _,w,rfl,aP.nil _ _ _,Nat.le_refl _,?_⟩
  simp only[*,go_sem]
 rintro hc hf F' ar ⟨i93,d87,G,Q,e,rfl,hg,w,rfl,a0,hh,hi,hj⟩
 obtain ⟨cy,cS,c0⟩:=ar.pick [1,2,3,4,5,6,23,24] (by decide)
 simp only[*,go_sem] at cy cS c0
 clear ar bo hd br
 refine aa hJ (af hJ ?_)
 simp only[*,go_sem]
 refine aa hJ ?_
 rcases Nat.lt_or_ge i93 u.length with da|a2
 ·refine bD hJ (by simp only[*,go_sem]) ?_
  refine aD hJ ?_
  obtain ⟨C,R⟩:∃x,u[i93]?=some x:=⟨_,List.getElem?_eq_getElem da⟩
  rw[cX R] at w
  revert w;refine bS fun hk h db=>?_
  unfold vC at h
  try dsimp only at h
  obtain ⟨hl,dd,df,dk,S⟩:=al.el _ _ R
  obtain rfl:dd=C.cells:=dk
  cases df
  have dp:=S 0 _ rfl;simp only[go_sem] at dp
  have dq:=S 1 _ rfl;simp only[go_sem] at dq
  clear S R
  refine aa hJ (aM hJ (aa hJ ?_))
  refine aH hJ fun ds=>?_
  refine af hJ ?_
  simp only[*,go_sem]
  refine an fun a3 hn a4=>?_;have ho:=aL.cons a4 ds;try simp only[ak] at a4
  try simp only[*,go_sem]
  refine aH hJ fun dt=>?_
  refine af hJ ?_
  revert h;refine bS fun a du h=>?_
  simp only[*,go_sem]
  refine aO hJ _ (rC d.1.book (D.mono aN) C du) (aE ?_)
  revert h;refine bS fun dv dC h=>?_
  obtain rfl:=sI h
  obtain ⟨dE,a5⟩:=cG dC
  try simp only[*,go_sem]
  refine an fun a6 dT a7=>?_;have ea:=aL.cons a7 dt;try simp only[ak] at a7
  try simp only[*,go_sem]
  refine di (r:=jG) (l:=e) (x:=a) (cs:=#[.int .i64 a.spot.aK,.int .i64 a.spot.high.num,.int .i64 a.spot.high.den,.int .i64 a.at_,.int .i64 a.high.num,.int .i64 a.high.den]) (e2:=94) [(a6,.cells #[.int .i64 a.spot.aK,.int .i64 a.spot.high.num,.int .i64 a.spot.high.den,.int .i64 a.at_,.int .i64 a.high.num,.int .i64 a.high.den] 94),(a3,.cells #[.int .i64 C.back,.int .i64 C.high] 90),(t,kn d.1 k o p q s),(B,rt 0 0),(z,rt 0 0),(j,bk u0 s1 f g i)] [] a0 ea dE rfl (by simp only[*,go_sem]) dT rfl rfl mR mR uj um rfl uk (by decide) (by decide) (fun hp a8 T eb ec hq=>?_)
  simp only[List.append_nil,List.cons_append,List.nil_append,List.append_assoc] at ec
  subst eb
  rw[<-a5] at T;clear a5
  obtain ⟨d115,ed,rfl,eh⟩:=T.len
  refine ⟨⟨P,(a6,.cells #[.int .i64 a.spot.aK,.int .i64 a.spot.high.num,.int .i64 a.spot.high.den,.int .i64 a.at_,.int .i64 a.high.num,.int .i64 a.high.den] 94)::(a3,.cells #[.int .i64 C.back,.int .i64 C.high] 90)::(t,kn d.1 k o p q s)::(B,rt 0 0)::(z,rt 0 0)::(j,bk u0 s1 f g i)::a8⟩,Le.refl _,?_⟩
  refine aE ?_
  try simp only[*,go_sem]
  have hr:=cj (n:=i93) (by have:=cd;omega)
  refine af hJ ?_
  simp only[*,go_sem]
  refine ⟨u.length - (i93+1),by omega,_,Le.sub (List.Sublist.cons _ (List.Sublist.cons _ (List.Sublist.refl _))),i93+1,d115,ed,a8,dv,rfl,by omega,db,rfl,T,eh,?_⟩
  simp only[*,go_sem]
 have ht:=Nat.not_lt.2 a2
 refine bI hJ (by simp only[*,go_sem]) ?_
 rw[List.drop_eq_nil_of_le a2] at w
 obtain rfl:=sI w;clear w
 have h:=cl
 dsimp only[aF] at h
 refine bJ ?_
 simp only[go_sem]
 refine aa hJ ?_
 refine aH hJ fun a9=>?_
 obtain ⟨K,hv,et,U,ev⟩:=a0.dF [(t,kn d.1 k o p q s),(B,rt 0 0),(z,rt 0 0),(j,bk u0 s1 f g i)] [] a9 (az.cons ae (az.cons N (az.cons M (az.cons L (az.nil _)))))
 clear a9
 refine cA hJ ev ?_
 obtain ⟨hx,hy,-⟩:=U.op
 simp only[aU] at et
 refine dY hJ mixed 6 ⟨K,[(t,kn d.1 k o p q s),(B,rt 0 0),(z,rt 0 0),(j,bk u0 s1 f g i)]⟩ (by simp only[*,go_sem]) (by kernel_rfl) ?_
 revert h;refine bS fun V eQ h=>?_
 obtain ⟨hz,hA,ba⟩:=bX eQ
 obtain ⟨hB,eS,e0,e1,y⟩:=U.el _ _ ba
 obtain rfl:eS=V.cells:=e1
 cases e0
 have e3:=y 0 _ rfl;simp only[go_sem] at e3
 have fa:=y 1 _ rfl;simp only[go_sem] at fa
 have fb:=y 2 _ rfl;simp only[go_sem] at fb
 have fg:=y 3 _ rfl;simp only[go_sem] at fg
 have fi:=y 4 _ rfl;simp only[go_sem] at fi
 have fp:=y 5 _ rfl;simp only[go_sem] at fp
 clear y ba
 revert h;refine bS fun bb fr h=>?_
 obtain ⟨hD,hE,hF,bc⟩:=oN fr
 have bd:(1:Int).toNat<=((e.length:Int)).toNat:=by omega
 have fs:((e.length:Int)).toNat<=G:=by omega
 have hG:0<=((e.length:Int)):=by omega
 obtain ⟨d132,ft,fu,W⟩:=ax.oQ U (1:Int).toNat ((e.length:Int)).toNat bd (by omega) bc
 simp only[go_sem] at ft fu bd fs
 obtain ⟨_,_,fv,hI,hK,hL⟩:=id W;cases fv
 clear bc
 revert h;refine bS fun b fw h=>?_
 try simp only[*,go_sem]
 refine ⟨_,bB hJ fun F H=>ri (dA:=67) (dQ:=#[]) (dR:=#[]) iF ⟨by simp only[go_sem],fun fx gg X Y _ h=>by simp only[go_sem];exact q7 X Y h⟩ V bb (W.mono (bQ H)) fw,?_⟩
 try simp only[*,go_sem]
 refine an fun Z hM gl=>?_;try simp only[ak] at gl
 try simp only[*,go_sem]
 refine aa hJ ?_
 refine dY hJ mixed 6 ⟨K,[(Z,.cells #[.int .i64 b.spot.aK,.int .i64 b.spot.high.num,.int .i64 b.spot.high.den,.int .i64 b.at_,.int .i64 b.high.num,.int .i64 b.high.den] 94),(t,kn d.1 k o p q s),(B,rt 0 0),(z,rt 0 0),(j,bk u0 s1 f g i)]⟩ (by simp only[*,go_sem]) (by kernel_rfl) ?_
 revert h;refine bS fun c gn h=>?_
 simp only[*,go_sem]
 refine ⟨_,bB hJ fun F H=>ri (dA:=75) (dQ:=#[]) (dR:=#[]) rj ⟨by simp only[go_sem],fun fx gg X Y _ h=>by simp only[go_sem];exact El X Y h⟩ V bb (W.mono (bQ H)) gn,?_⟩
 try simp only[*,go_sem]
 refine an fun bj hN gp=>?_;try simp only[ak] at gp
 try simp only[*,go_sem]
 refine aa hJ ?_
 refine dY hJ mixed 10 ⟨K,[(bj,.cells #[.int .i64 c.spot.aK,.int .i64 c.spot.high.num,.int .i64 c.spot.high.den,.int .i64 c.at_,.int .i64 c.high.num,.int .i64 c.high.den] 94),(Z,.cells #[.int .i64 b.spot.aK,.int .i64 b.spot.high.num,.int .i64 b.spot.high.den,.int .i64 b.at_,.int .i64 b.high.num,.int .i64 b.high.den] 94),(t,kn d.1 k o p q s),(j,bk u0 s1 f g i)]⟩ (by simp only[*,go_sem]) (by kernel_rfl) ?_
 revert h;refine bS fun gB gC h=>?_
 simp only[*,go_sem]
 refine ⟨_,bB hJ fun F H=>o9 b.high u0.aV gC,cc ?_⟩
 revert h;refine bS fun gM gT h=>?_
 try simp only[*,go_sem]
 refine ⟨_,bB hJ fun F H=>o8 c.high u0.aV gT,?_⟩
 try simp only[*,go_sem]
 refine aa hJ (aa hJ (af hJ ?_))
 revert h;refine bS fun hP gV h=>?_
 simp only[*,go_sem]
 refine aO hJ _ (iE gM gB gV) ?_
 try simp only[*,go_sem]
 revert h;refine jC hJ (by simp only[*,go_sem]) (fun g0 h=>?_) fun g0 h=>?_
 ·obtain rfl:=sI h
  refine aa hJ (af hJ ?_)
  simp only[*,go_sem]
  refine av ?_
  simp only[*,go_sem]
 refine aD hJ (aa hJ ?_)
 refine iB hJ mixed [] (.two 0 (.two 1 (.one 2 (.one 3 (.pure 4 (.pure 5 .done)))) 2 (.one 1 (.one 3 (.pure 4 (.pure 5 .done))))) 1 (.one 0 (.one 2 (.one 3 (.pure 4 (.pure 5 .done)))))) ⟨K,[(bj,.cells #[.int .i64 c.spot.aK,.int .i64 c.spot.high.num,.int .i64 c.spot.high.den,.int .i64 c.at_,.int .i64 c.high.num,.int .i64 c.high.den] 94),(Z,.cells #[.int .i64 b.spot.aK,.int .i64 b.spot.high.num,.int .i64 b.spot.high.den,.int .i64 b.at_,.int .i64 b.high.num,.int .i64 b.high.den] 94),(t,kn d.1 k o p q s),(j,bk u0 s1 f g i)]⟩ (by simp only[*,go_sem]) (by kernel_rfl) ?_
 simp only[*,go_sem]
 refine jE ?_ ?_
 ·simp only[*,go_sem]
  refine jE ?_ ?_
  ·obtain rfl:=sI h
   simp only[*,go_sem]
   refine av ?_
   simp only[*,go_sem]
  obtain rfl:=sI h
  simp only[*,go_sem]
  refine av ?_
  simp only[*,go_sem]
 obtain rfl:=sI h
 simp only[*,go_sem]
 refine av ?_
 simp only[*,go_sem]
def r5 (u0:aj)(b:Int):Option ((List Int)×Int):=
 ah (fo u0 ([(eF b)])) fun a=>cond ((a.2 != 0)) (some (([]:(List Int)),a.2)) (ah (nC a.1 b) fun c=>some (c,0))
theorem vE {ro:Addr->Option Value}(g:cY ro)(u0:aj){s1 i j k:Value}(f:bt ro u0 s1 i j k)(a:Int){r:((List Int)×Int)}(h:r5 u0 a=some r):c9 Tryz.prog 40 #[bv u0 s1 i j k,.int .i64 a] ro (fun v aI=>∃m,v= .tuple #[m,.int .i64 r.2]/\ax rI aI m r.1):=by
 unfold r5 at h
 have D:=f.oc;simp only[bw] at D
 refine aA.go Tryz.func40 rfl Tryz.ntmps40 Tryz.results40 (by simp) fun main J hJ A Y hd hs=>?_
 have Z:=hs 0
 have k1:=hs 1
 clear hs
 refine aa hJ (af hJ ?_)
 simp only[*,go_sem]
 refine an fun E F G=>?_;try simp only[ak] at G
 try simp only[*,go_sem]
 refine aa hJ ?_
 refine aH hJ fun H=>?_
 refine af hJ ?_
 revert h;refine bS fun I K h=>?_
 simp only[*,go_sem]
 refine an fun c n p=>?_;have q:=aL.cons p H;try simp only[ak] at p
 try simp only[*,go_sem]
 obtain ⟨d,s,t⟩:=fc (b:=c) (o:=(.cells #[.func (.func 105) #[.int .i64 a] #[]] 86)) [] ((E,bk u0 s1 i j k)::[]) q n (az.cons F (az.nil _))
 have u:ax (cR) (bO ro c (.cells #[.func (.func 105) #[.int .i64 a] #[]] 86)) (.slice (some ⟨c,0,none⟩) 1 1) [(eF a)]:=(ax.one (r:=(cR)) (e:=86) (cs:=#[.func (.func 105) #[.int .i64 a] #[]]) (x:=(eF a)) (own:=[(c,.cells #[.func (.func 105) #[.int .i64 a] #[]] 86)]) n (by simp[lk]) ⟨105,#[.int .i64 a],#[],rfl,⟨by simp only[go_sem],fun ab ad L _ _ _ _ _ M N O P h=>by simp only[go_sem];exact rf a L ⟨M,N,O,P⟩ h⟩⟩)
 generalize bO ro c (.cells #[.func (.func 105) #[.int .i64 a] #[]] 86)=ae at u s d t
 refine gk hJ t ?_
 replace f:=f.mono d
 replace g:=g.mono d
 simp only[aU] at s
 have Q:=aL.tl q
 refine bN hJ _ (ja g u0 f ([(eF a)]) u K) fun v al w R l=>?_
 obtain ⟨ao,ar,a0,a2,a3,rfl,y,z⟩:=l
 have S:=y.oc;simp only[bw] at S
 have T:=z.oc;simp only[bw] at T
 simp only[aU] at R
 refine aE ?_
 try simp only[*,go_sem]
 refine an fun a4 a5 B=>?_;have a6:=aL.cons B Q;try simp only[ak] at B
 try simp only[*,go_sem]
 refine aa hJ (aa hJ (af hJ ?_))
 simp only[*,go_sem]
 revert h;refine jC hJ (by simp only[*,go_sem]) (fun U h=>?_) fun U h=>?_
 ·obtain rfl:=sI h
  refine aa hJ (af hJ ?_)
  simp only[*,go_sem]
  refine av ?_
  simp only[*,go_sem]
  exact ⟨_,(d).trans w,Le.sub (List.nil_sublist _),_,rfl,ax.nil _ _⟩
 refine aD hJ (aa hJ ?_)
 refine af hJ ?_
 revert h;refine bS fun a7 V h=>?_
 obtain rfl:=sI h
 simp only[*,go_sem]
 refine bN hJ _ (rZ I.1 y z a V) fun v a8 W X l=>?_
 obtain ⟨a9,rfl,C⟩:=l
 simp only[aU] at X
 obtain ⟨d89,ba,rfl,bb,bc,-⟩:=id C
 refine aE ?_
 try simp only[*,go_sem]
 refine av ?_
 simp only[*,go_sem]
 exact ⟨_,((d).trans w).trans W,Le.sub (List.nil_sublist _),_,rfl,C⟩
def vF (a:(cL×Int))(i80:Nat)(i102:Nat)(c:Int)(st:(Int×au)):Option (Fl (Int×au) (Int×au×Int)):=
 ah (iG a.1.book (i80:Int) c) fun b=>ah (fY a.1.book b) fun d=>cond (d) (ah (kA a.1.book b) fun e=>ah (ew st.2 e) fun f=>cond (f) (ah (kA a.1.book b) fun g=>some (.nx ((i80:Int),g))) (some (.nx (st.1,st.2)))) (some (.nx (st.1,st.2)))
def vG (a:(cL×Int))(i80:Nat)(d:bV)(st:(Int×au)):Option (Fl (Int×au) (Int×au×Int)):=
 ah (nC a.1 (i80:Int)) fun c=>ah (bE (vF a i80) 0 c (st.1,st.2)) fun o=>aF o (fun b=>some (.nx (b.1,b.2))) (fun _ _=>none) (fun r=>some (.rt r))
def r6 (u0:aj):Option (Int×au×Int):=
 ah (fo u0 ([]:(List (aj->Option Int)))) fun a=>cond ((a.2 != 0)) (some (0,(⟨0,0⟩:au),a.2)) (ah (fF 0) fun c=>ah (bE (vG a) 0 a.1.book.aC ((-1),c)) fun o=>aF o (fun b=>some (b.1,b.2,0)) (fun _ _=>none) (fun r=>some r))
theorem zM {ro:Addr->Option Value}(ar:cY ro)(u0:aj){s1 j k l:Value}(R:bt ro u0 s1 j k l){r:(Int×au×Int)}(h:r6 u0=some r):aA Tryz.prog 46 #[bv u0 s1 j k l] ⟨ro,[]⟩ (fun v _=>v= .tuple #[.int .i64 r.1,r.2.1.v,.int .i64 r.2.2]):=by
 unfold r6 at h
 have a0:=R.oc;simp only[bw] at a0
 refine aA.go Tryz.func46 rfl Tryz.ntmps46 Tryz.results46 (by simp) fun main J hJ A a2 hd hs=>?_
 have a3:=hs 0
 clear hs
 refine aa hJ (af hJ ?_)
 simp only[*,go_sem]
 refine an fun w ev a4=>?_;try simp only[ak] at a4
 refine an fun z eQ a5=>?_;try simp only[ak] at a5
 try simp only[*,go_sem]
 refine aa hJ (af hJ ?_)
 revert h;refine bS fun a a6 h=>?_
 simp only[*,go_sem]
 refine bN hJ _ (ja ar u0 R ([]:(List (aj->Option Int))) (ax.nil _ _) a6) fun v S eS a7 B=>?_
 obtain ⟨C,D,e0,E,G,rfl,b,p⟩:=B
 have a8:=b.oc;simp only[bw] at a8
 have a9:=p.oc;simp only[bw] at a9
 simp only[aU] at a7
 obtain ⟨d52,H,rfl,e1,ba,-⟩:=id b.y
 refine aE ?_
 try simp only[*,go_sem]
 refine an fun I e2 bb=>?_;try simp only[ak] at bb
 try simp only[*,go_sem]
 refine aa hJ (aa hJ (af hJ ?_))
 simp only[*,go_sem]
 revert h;refine jC hJ (by simp only[*,go_sem]) (fun bc h=>?_) fun bc h=>?_
 ·obtain rfl:=sI h
  refine aa hJ (af hJ ?_)
  simp only[*,go_sem]
  refine av ?_
  simp only[*,go_sem]
 refine aD hJ (aa hJ ?_)
 refine af hJ ?_
 revert h;refine bS fun bd bj h=>?_
 simp only[*,go_sem]
 refine aO hJ _ (iW 0 bj) (aE ?_)
 try simp only[*,go_sem]
 refine aa hJ (aa hJ (af hJ ?_))
 simp only[*,go_sem]
 refine aM hJ ?_
 revert h;refine bS fun bl e bm=>?_
 refine bM hJ [2,6,8,9,25,26,27,28,29,30,31,32,33,34,35,36,37,38,39,40,41,42,43,44,45,46,47,48,49,50,51,52,53,54,55,56,57,58,59] (fun m o F'=>∃(i80:Nat) (q:Addr->Option Value) (s:Int) (f:au),m=a.1.book.aC.length - i80/\i80<=a.1.book.aC.length/\bE (vG a) i80 (a.1.book.aC.drop i80) (s,f)=some bl/\F'=⟨q,(I,kn a.1 C D (sl d52 a.1.book.aC H) E G)::(z,rt f.num f.den)::(w,bk u0 s1 j k l)::[]⟩/\Ext S q/\slot o 25= .int .i64 (i80:Int)/\slot o 2= .int .i64 s) a.1.book.aC.length ?_ ?_
 ·refine ⟨0,S,(-1),bd,(Nat.sub_zero _).symm,Nat.zero_le _,e,rfl,Ext.refl _,?_⟩
  simp only[*,go_sem]
 rintro e3 bo F' T ⟨i80,q,s,f,rfl,fa,e,rfl,K,br,bs⟩
 refine ez hJ fun _ bz=>?_
 replace b:=b.mono K
 replace p:=p.mono K
 simp only[aU] at bz
 obtain ⟨U,V,W⟩:=T.pick [3,4,5,24] (by decide)
 simp only[*,go_sem] at U V W
 clear T a2 hd a3
 refine aa hJ (af hJ ?_)
 simp only[*,go_sem]
 refine aa hJ ?_
 rcases Nat.lt_or_ge i80 a.1.book.aC.length with b0|X
 ·refine bD hJ (by simp only[*,go_sem]) ?_
  refine aD hJ ?_
  obtain ⟨b1,L⟩:∃x,a.1.book.aC[i80]?=some x:=⟨_,List.getElem?_eq_getElem b0⟩
  rw[cX L] at e
  revert e;refine bS fun fb h b2=>?_
  unfold vG at h
  try dsimp only at h
  obtain ⟨b3,b4,b5,ca,t⟩:=b.y.el _ _ L
  obtain rfl:b4=b1.cells:=ca
  cases b5
  have cb:=t 0 _ rfl;simp only[go_sem] at cb
  have cd:=t 1 _ rfl;simp only[go_sem] at cd
  have cf:=t 2 _ rfl;simp only[go_sem] at cf
  clear t L
  refine aa hJ (aM hJ (aa hJ ?_))
  refine af hJ ?_
  simp only[*,go_sem]
  refine aa hJ (af hJ ?_)
  revert h;refine bS fun c cl h=>?_
  simp only[*,go_sem]
  refine bN hJ _ (rZ a.1 b p (i80:Int) cl) fun v Y Z cy B=>?_
  obtain ⟨fg,rfl,ab⟩:=B
  replace b:=b.mono Z
  simp only[aU] at cy
  obtain ⟨d95,fi,rfl,fp,M,-⟩:=id ab
  refine aE ?_
  try simp only[*,go_sem]
  refine aM hJ ?_
  revert h;refine bS fun c0 g da=>?_
  refine bM hJ [2,8,9,32,33,34,35,36,37,38,39,40,41,42,43,44,45,46,47,48,49,50,51,52,53,54,55,56,57,58] (fun m o F'=>∃(i102:Nat) (i:Int) (d:au),m=c.length - i102/\i102<=c.length/\bE (vF a i80) i102 (c.drop i102) (i,d)=some c0/\F'=⟨Y,(I,kn a.1 C D (sl (some b3) a.1.book.aC H) E G)::(z,rt d.num d.den)::(w,bk u0 s1 j k l)::[]⟩/\slot o 32= .int .i64 (i102:Int)/\slot o 2= .int .i64 i) c.length ?_ ?_
  ·refine ⟨0,s,f,(Nat.sub_zero _).symm,Nat.zero_le _,g,rfl,?_⟩
   simp only[*,go_sem]
  rintro fr db F' N ⟨i102,i,d,rfl,fs,g,rfl,ft,fu⟩
  obtain ⟨dd,df,dk⟩:=N.pick [3,4,5,6,24,25,26,27,28,29,30,31] (by decide)
  simp only[*,go_sem] at dd df dk
  have fv:cW [2,6,8,9,25,26,27,28,29,30,31,32,33,34,35,36,37,38,39,40,41,42,43,44,45,46,47,48,49,50,51,52,53,54,55,56,57,58,59] db bo:=(N.fD (by decide)).trans (by simp only[*,go_sem])
  clear N U V W bs br
  refine aa hJ (af hJ ?_)
  simp only[*,go_sem]
  refine aa hJ ?_
  rcases Nat.lt_or_ge i102 c.length with dp|ad
  ·refine bD hJ (by simp only[*,go_sem]) ?_
   refine aD hJ ?_
   obtain ⟨ae,O⟩:∃x,c[i102]?=some x:=⟨_,List.getElem?_eq_getElem dp⟩
   rw[cX O] at g
   revert g;refine bS fun fw h P=>?_
   unfold vF at h
   try dsimp only at h
   obtain ⟨fx,dq,ds,dt,al⟩:=ab.el _ _ O
   obtain rfl:dq=[.int .i64 ae]:=dt
   cases ds
   have du:=al 0 _ rfl;simp only[go_sem] at du
   clear al O
   refine aa hJ (aM hJ (aa hJ ?_))
   refine af hJ ?_
   simp only[*,go_sem]
   refine aa hJ (af hJ ?_)
   revert h;refine bS fun Q dv h=>?_
   simp only[*,go_sem]
   refine aO hJ _ (lF a.1.book (b.mono aN) (i80:Int) ae dv) (aE ?_)
   try simp only[*,go_sem]
   refine an fun gg gl dC=>?_;try simp only[ak] at dC
   try simp only[*,go_sem]
   refine aa hJ ?_
   refine cQ hJ mixed 12 4 (by simp only[*,go_sem]) (by kernel_rfl) ?_
   revert h;refine bS fun gn dE h=>?_
   simp only[*,go_sem]
   refine ⟨_,bB hJ fun F u=>lO a.1.book (b.mono (bQ u)) Q dE,cc ?_⟩
   revert h;refine cS (fun dT h=>?_) fun dT h=>?_
   ·revert h;refine bS fun ea eb h=>?_
    try simp only[*,go_sem]
    refine ⟨_,bB hJ fun F u=>rE a.1.book (b.mono (bQ u)) Q eb,cc ?_⟩
    revert h;refine bS fun gp ec h=>?_
    try simp only[*,go_sem]
    refine ⟨_,bB hJ fun F u=>iE d ea ec,cc ?_⟩
    try simp only[*,go_sem]
    revert h;refine jC hJ (by simp only[*,go_sem]) (fun ed h=>?_) fun ed h=>?_
    ·refine af hJ ?_
     revert h;refine bS fun eh et h=>?_
     obtain rfl:=sI h
     simp only[*,go_sem]
     refine aO hJ _ (rE a.1.book (b.mono aN) Q et) (aE ?_)
     try simp only[*,go_sem]
     have ao:=cj (n:=i102) (by have:=M;omega)
     refine af hJ ?_
     simp only[*,go_sem]
     refine ⟨c.length - (i102+1),by omega,_,Le.sub (List.Sublist.cons _ (List.Sublist.refl _)),i102+1,(i80:Int),eh,rfl,by omega,P,rfl,?_⟩
     simp only[*,go_sem]
    obtain rfl:=sI h
    refine aD hJ ?_
    have ao:=cj (n:=i102) (by have:=M;omega)
    refine af hJ ?_
    simp only[*,go_sem]
    refine ⟨c.length - (i102+1),by omega,_,Le.sub (List.Sublist.cons _ (List.Sublist.refl _)),i102+1,i,d,rfl,by omega,P,rfl,?_⟩
    simp only[*,go_sem]
   obtain rfl:=sI h
   try simp only[*,go_sem]
   refine bI hJ (by simp only[*,go_sem]) ?_
   refine aD hJ ?_
   have ao:=cj (n:=i102) (by have:=M;omega)
   refine af hJ ?_
   simp only[*,go_sem]
   refine ⟨c.length - (i102+1),by omega,_,Le.sub (List.Sublist.cons _ (List.Sublist.refl _)),i102+1,i,d,rfl,by omega,P,rfl,?_⟩
   simp only[*,go_sem]
  have gB:=Nat.not_lt.2 ad
  refine bI hJ (by simp only[*,go_sem]) ?_
  rw[List.drop_eq_nil_of_le ad] at g
  obtain rfl:=sI g;clear g
  have h:=da
  dsimp only[aF] at h
  obtain rfl:=sI h
  refine bJ ?_
  simp only[go_sem]
  have gC:=cj (n:=i80) (by have:=ba;omega)
  refine af hJ ?_
  simp only[*,go_sem]
  refine ⟨a.1.book.aC.length - (i80+1),by omega,_,Le.sub (List.Sublist.refl _),i80+1,Y,i,d,rfl,by omega,b2,rfl,(K.trans Z),?_⟩
  simp only[*,go_sem]
 have gM:=Nat.not_lt.2 X
 refine bI hJ (by simp only[*,go_sem]) ?_
 rw[List.drop_eq_nil_of_le X] at e
 obtain rfl:=sI e;clear e
 have h:=bm
 dsimp only[aF] at h
 obtain rfl:=sI h
 refine bJ ?_
 simp only[go_sem]
 refine aa hJ ?_
 refine iB hJ mixed [3,4] (.pure 0 (.rd 1 (.pure 2 (.last 3 (.pure 4 .done))))) ⟨q,[(I,kn a.1 C D (sl d52 a.1.book.aC H) E G),(z,rt f.num f.den),(w,bk u0 s1 j k l)]⟩ (by simp only[*,go_sem]) (by kernel_rfl) ?_
 simp only[*,go_sem]
 refine av ?_
 simp only[*,go_sem]
def vH (b:Int)(a:(cL×Int))(i103:Nat)(c:Int)(st:(List au)):Option (Fl (List au) (au×au×Int)):=
 ah (iG a.1.book b c) fun d=>ah (rD a.1.book d) fun e=>ah (cI st ([e])) fun f=>some (.nx f)
def vI (u0:aj)(b:Int):Option (au×au×Int):=
 ah (fo u0 ([(eF b)])) fun a=>cond ((a.2 != 0)) (some ((⟨0,0⟩:au),(⟨0,0⟩:au),a.2)) (ah (nC a.1 b) fun f=>ah (bE (vH b a) 0 f ([]:List au)) fun o=>aF o (fun c=>ah (bq c 0) fun d=>ah (iA c 1 (c.length:Int)) fun e=>ah (gP rm d e) fun g=>ah (gP ew d e) fun h=>some (g,h,0)) (fun _ _=>none) (fun r=>some r))
theorem E7 {ro:Addr->Option Value}(S:cY ro)(u0:aj){s1 f g i:Value}(P:bt ro u0 s1 f g i)(a:Int){r:(au×au×Int)}(h:vI u0 a=some r):aA Tryz.prog 41 #[bv u0 s1 f g i,.int .i64 a] ⟨ro,[]⟩ (fun v _=>v= .tuple #[r.1.v,r.2.1.v,.int .i64 r.2.2]):=by
 unfold vI at h
 have b3:=P.oc;simp only[bw] at b3
 refine aA.go Tryz.func41 rfl Tryz.ntmps41 Tryz.results41 (by simp) fun main J hJ A b4 hd hs=>?_
 have b5:=hs 0
 have k1:=hs 1
 clear hs
 refine aa hJ (af hJ ?_)
 simp only[*,go_sem]
 refine an fun j G ca=>?_;try simp only[ak] at ca
 refine an fun t H cb=>?_;try simp only[ak] at cb
 refine an fun u I cd=>?_;try simp only[ak] at cd
 try simp only[*,go_sem]
 refine aa hJ ?_
 refine aH hJ fun cf=>?_
 refine af hJ ?_
 revert h;refine bS fun d cl h=>?_
 simp only[*,go_sem]
 refine an fun K al ao=>?_;have ar:=aL.cons ao cf;try simp only[ak] at ao
 try simp only[*,go_sem]
 obtain ⟨T,L,a0⟩:=fc (b:=K) (o:=(.cells #[.func (.func 105) #[.int .i64 a] #[]] 86)) [] ((u,rt 0 0)::(t,rt 0 0)::(j,bk u0 s1 f g i)::[]) ar al (az.cons I (az.cons H (az.cons G (az.nil _))))
 have a2:ax (cR) (bO ro K (.cells #[.func (.func 105) #[.int .i64 a] #[]] 86)) (.slice (some ⟨K,0,none⟩) 1 1) [(eF a)]:=(ax.one (r:=(cR)) (e:=86) (cs:=#[.func (.func 105) #[.int .i64 a] #[]]) (x:=(eF a)) (own:=[(K,.cells #[.func (.func 105) #[.int .i64 a] #[]] 86)]) al (by simp[lk]) ⟨105,#[.int .i64 a],#[],rfl,⟨by simp only[go_sem],fun a3 a4 M _ _ _ _ _ cy cS c0 da h=>by simp only[go_sem];exact rf a M ⟨cy,cS,c0,da⟩ h⟩⟩)
 generalize bO ro K (.cells #[.func (.func 105) #[.int .i64 a] #[]] 86)=g1 at a2 L T a0
 refine gk hJ a0 ?_
 replace P:=P.mono T
 replace I:=L.hd
 replace H:=L.tl.hd
 replace G:=L.tl.tl.hd
 replace S:=S.mono T
 simp only[aU] at L
 have db:=aL.tl ar
 refine bN hJ _ (ja S u0 P ([(eF a)]) a2 cl) fun v g2 g3 Q U=>?_
 obtain ⟨w,y,z,B,C,rfl,D,a5⟩:=U
 have dd:=D.oc;simp only[bw] at dd
 have df:=a5.oc;simp only[bw] at df
 replace I:=Q.hd
 replace H:=Q.tl.hd
 replace G:=Q.tl.tl.hd
 simp only[aU] at Q
 refine aE ?_
 try simp only[*,go_sem]
 refine an fun E a6 a7=>?_;have g4:=aL.cons a7 db;try simp only[ak] at a7
 try simp only[*,go_sem]
 refine aa hJ (aa hJ (af hJ ?_))
 simp only[*,go_sem]
 revert h;refine jC hJ (by simp only[*,go_sem]) (fun dk h=>?_) fun dk h=>?_
 ·obtain rfl:=sI h
  refine aa hJ (af hJ ?_)
  simp only[*,go_sem]
  refine av ?_
  simp only[*,go_sem]
 refine aD hJ (aa hJ ?_)
 refine af hJ ?_
 simp only[*,go_sem]
 refine aa hJ (aa hJ (af hJ ?_))
 revert h;refine bS fun k dp h=>?_
 simp only[*,go_sem]
 refine bN hJ _ (rZ d.1 D a5 a dp) fun v R dq N U=>?_
 obtain ⟨ha,rfl,a8⟩:=U
 replace D:=D.mono dq
 replace a6:=N.hd
 replace I:=N.tl.hd
 replace H:=N.tl.tl.hd
 replace G:=N.tl.tl.tl.hd
 simp only[aU] at N
 obtain ⟨d91,hc,rfl,hf,ds,-⟩:=id a8
 refine aE ?_
 try simp only[*,go_sem]
 refine aM hJ ?_
 revert h;refine bS fun dt p du=>?_
 refine bM hJ [8,10,29,30,31,32,33,34,35,36,37,38,39,40,41,42,43,44] (fun m a9 F'=>∃(i103:Nat) (d97:Option Addr) (O:Nat) (V:List (Nat×Obj)) (c:(List au)),m=k.length - i103/\i103<=k.length/\bE (vH a d) i103 (k.drop i103) c=some dt/\F'=⟨R,(E,kn d.1 w y z B C)::(u,rt 0 0)::(t,rt 0 0)::(j,bk u0 s1 f g i)::V⟩/\aP kq R 23 (.slice d97 c.length O) c V/\c.length<=O/\slot a9 29= .int .i64 (i103:Int)/\slot a9 8= .slice d97 c.length O) k.length ?_ ?_
 ·refine ⟨0,none,0,[],([]:List au),(Nat.sub_zero _).symm,Nat.zero_le _,p,rfl,aP.nil _ _ _,Nat.le_refl _,?_⟩
  simp only[*,go_sem]
 rintro hg hh F' ba ⟨i103,d97,O,V,c,rfl,hi,p,rfl,bb,hj,hk,hl⟩
 obtain ⟨dv,dC,dE⟩:=ba.pick [1,4,5,6,7,27,28] (by decide)
 simp only[*,go_sem] at dv dC dE
 clear ba b4 hd b5 k1
 refine aa hJ (af hJ ?_)
 simp only[*,go_sem]
 refine aa hJ ?_
 rcases Nat.lt_or_ge i103 k.length with dT|bc
 ·refine bD hJ (by simp only[*,go_sem]) ?_
  refine aD hJ ?_
  obtain ⟨bd,W⟩:∃x,k[i103]?=some x:=⟨_,List.getElem?_eq_getElem dT⟩
  rw[cX W] at p
  revert p;refine bS fun hn h ea=>?_
  unfold vH at h
  try dsimp only at h
  obtain ⟨ho,eb,ec,ed,bj⟩:=a8.el _ _ W
  obtain rfl:eb=[.int .i64 bd]:=ed
  cases ec
  have eh:=bj 0 _ rfl;simp only[go_sem] at eh
  clear bj W
  refine aa hJ (aM hJ (aa hJ ?_))
  refine aH hJ fun hp=>?_
  refine af hJ ?_
  simp only[*,go_sem]
  refine aH hJ fun et=>?_
  refine dY hJ mixed 9 ⟨R,[(E,kn d.1 w y z B C),(u,rt 0 0),(t,rt 0 0),(j,bk u0 s1 f g i)]⟩ (by simp only[*,go_sem]) (by kernel_rfl) ?_
  revert h;refine bS fun ev eQ h=>?_
  simp only[*,go_sem]
  refine ⟨_,bB hJ fun F q=>lF d.1.book (D.mono (bQ q)) a bd eQ,cc ?_⟩
  revert h;refine bS fun s eS h=>?_
  try simp only[*,go_sem]
  refine ⟨_,bB hJ fun F q=>zw d.1.book (D.mono (bQ q)) ev eS,?_⟩
  revert h;refine bS fun e0 e1 h=>?_
  obtain rfl:=sI h
  obtain ⟨e3,bl⟩:=cG e1
  try simp only[*,go_sem]
  refine an fun bm fa bo=>?_;have fb:=aL.cons bo et;try simp only[ak] at bo
  try simp only[*,go_sem]
  refine di (r:=kq) (l:=c) (x:=s) (cs:=#[.int .i64 s.num,.int .i64 s.den]) (e2:=23) [(bm,rt s.num s.den),(E,kn d.1 w y z B C),(u,rt 0 0),(t,rt 0 0),(j,bk u0 s1 f g i)] [] bb fb e3 rfl (by simp only[*,go_sem]) fa rfl rfl yN yN C6 uh rfl C7 (by decide) (by decide) (fun hq br X fg fi hr=>?_)
  simp only[List.append_nil,List.cons_append,List.nil_append,List.append_assoc] at fi
  subst fg
  rw[<-bl] at X;clear bl
  obtain ⟨d125,fp,rfl,fr⟩:=X.len
  refine ⟨⟨R,(bm,rt s.num s.den)::(E,kn d.1 w y z B C)::(u,rt 0 0)::(t,rt 0 0)::(j,bk u0 s1 f g i)::br⟩,Le.refl _,?_⟩
  refine ⟨by simp only[*,go_sem],k8 ?_⟩
  try simp only[*,go_sem]
  have ht:=cj (n:=i103) (by have:=ds;omega)
  refine af hJ ?_
  simp only[*,go_sem]
  refine ⟨k.length - (i103+1),by omega,_,Le.sub (List.Sublist.cons _ (List.Sublist.refl _)),i103+1,d125,fp,br,e0,rfl,by omega,ea,rfl,X,fr,?_⟩
  simp only[*,go_sem]
 have hv:=Nat.not_lt.2 bc
 refine bI hJ (by simp only[*,go_sem]) ?_
 rw[List.drop_eq_nil_of_le bc] at p
 obtain rfl:=sI p;clear p
 have h:=du
 dsimp only[aF] at h
 refine bJ ?_
 simp only[go_sem]
 refine aa hJ ?_
 refine aH hJ fun hx=>?_
 refine af hJ ?_
 simp only[*,go_sem]
 refine aa hJ ?_
 refine aH hJ fun bs=>?_
 obtain ⟨fs,hy,ft,Y,fu⟩:=bb.dF [(E,kn d.1 w y z B C),(u,rt 0 0),(t,rt 0 0),(j,bk u0 s1 f g i)] [] bs (az.cons a6 (az.cons I (az.cons H (az.cons G (az.nil _)))))
 clear bs
 refine cA hJ fu ?_
 obtain ⟨hz,hA,-⟩:=Y.op
 simp only[aU] at ft
 refine dY hJ mixed 13 ⟨fs,[(E,kn d.1 w y z B C),(j,bk u0 s1 f g i)]⟩ (by simp only[*,go_sem]) (by kernel_rfl) ?_
 revert h;refine bS fun Z fv h=>?_
 obtain ⟨hB,hD,bz⟩:=bX fv
 obtain ⟨hE,fw,fx,gg,ab⟩:=Y.el _ _ bz
 obtain rfl:fw=Z.cells:=gg
 cases fx
 have gl:=ab 0 _ rfl;simp only[go_sem] at gl
 have gn:=ab 1 _ rfl;simp only[go_sem] at gn
 clear ab bz
 revert h;refine bS fun b0 gp h=>?_
 obtain ⟨hF,hG,hI,b1⟩:=oN gp
 have b2:(1:Int).toNat<=((c.length:Int)).toNat:=by omega
 have gB:((c.length:Int)).toNat<=O:=by omega
 have hK:0<=((c.length:Int)):=by omega
 obtain ⟨d143,gC,gM,ad⟩:=ax.oQ Y (1:Int).toNat ((c.length:Int)).toNat b2 (by omega) b1
 simp only[go_sem] at gC gM b2 gB
 obtain ⟨_,_,gT,hL,hM,hN⟩:=id ad;cases gT
 clear b1
 revert h;refine bS fun hP gV h=>?_
 try simp only[*,go_sem]
 refine ⟨_,bB hJ fun F q=>mX (dA:=114) (dQ:=#[]) (dR:=#[]) rm ⟨by simp only[go_sem],fun a3 a4 M ae _ h=>by simp only[go_sem];exact Em M ae h⟩ Z b0 (ad.mono (bQ q)) gV,cc ?_⟩
 revert h;refine bS fun hQ g0 h=>?_
 obtain rfl:=sI h
 try simp only[*,go_sem]
 refine ⟨_,bB hJ fun F q=>mX (dA:=78) (dQ:=#[]) (dR:=#[]) ew ⟨by simp only[go_sem],fun a3 a4 M ae _ h=>by simp only[go_sem];exact iE M ae h⟩ Z b0 (ad.mono (bQ q)) g0,?_⟩
 try simp only[*,go_sem]
 refine av ?_
 simp only[*,go_sem]
def nD (s:List aX)(y:aX):Bool:=s.any fun z=>z.e0==y.e0&&(z.e1==y.e1&&z.e2==y.e2)
def zN (y:aX)(s:List aX):Option (Fl (List aX) Unit):=some (.nx (cond (nD s y) s (s++[y])))
theorem zO {x y:aX}(h:x.v=y.v):x=y:=by
 obtain ⟨a,b,c⟩:=x
 obtain ⟨d,e,f⟩:=y
 simp only[aX.v,Value.agg.injEq,Array.mk.injEq,List.cons.injEq,Value.int.injEq,true_and,and_true] at h
 obtain ⟨rfl,rfl,rfl⟩:=h
 rfl
theorem zP {s:List aX}{y:aX}:nD s y=true↔y.v∈s.map aX.v:=by
 unfold nD
 simp only[List.any_eq_true,Bool.and_eq_true,beq_iff_eq,List.mem_map]
 constructor
 ·rintro ⟨z,d,h0,h1,h2⟩
  refine ⟨z,d,?_⟩
  obtain ⟨a,b,c⟩:=z
  obtain ⟨e,f,g⟩:=y
  simp only at h0 h1 h2
  subst h0 h1 h2
  rfl
 ·rintro ⟨z,d,h⟩
  obtain rfl:=zO h
  exact ⟨z,d,rfl,rfl,rfl⟩
theorem E8 (x y:aX)(F:ag):∃b,(∀(Q:Bool->ag->Prop),Q b F->aS Tryz.prog (Op.equal 141 x.v y.v) Q F)/\(b=true↔y.v=x.v):=by
 have a:iU Tryz.prog 141=some [true,true,true]:=by kernel_rfl
 have he:kZ Tryz.prog 141 x.v y.v=some (x.e0==y.e0&&(x.e1==y.e1&&(x.e2==y.e2&&true))):=by
  simp only[kZ,aX.v,a,iq,fS,Bool.and_self,if_true]
 refine ⟨_,fun Q h=>(tF he h).1,?_⟩
 simp only[Bool.and_eq_true,beq_iff_eq,and_true]
 constructor
 ·rintro ⟨h0,h1,h2⟩
  simp only[aX.v,h0,h1,h2]
 ·intro h
  obtain rfl:=zO h
  exact ⟨rfl,rfl,rfl⟩
theorem E9 (x:aX)(F:ag)(Q:Unit->ag->Prop)(h:Q () F):aS Tryz.prog (Instr.checkKey false 10000 141 x.v) Q F:=by
 have c:Tryz.prog.underlying 141=some (.array 3 3):=by kernel_rfl
 have d:Tryz.prog.underlying 3=some (.int .i64):=by kernel_rfl
 have f:bW Tryz.prog 3=some 1:=by kernel_rfl
 have g:cu Tryz.prog 3=some false:=by kernel_rfl
 have e:(10000:Nat)=9998+1+1:=rfl
 rw[e]
 unfold Instr.checkKey
 simp only[bn,c8,c,aX.v]
 simp only[Std.Legacy.Range.forIn_eq_forIn_range',Std.Legacy.Range.size,Nat.sub_zero,Nat.add_one_sub_one,Nat.div_one,List.range',List.forIn_cons,List.forIn_nil,bn,ey,f,part,kW,g,bC,Bool.false_eq_true,if_false,c7]
 have b:∀(k:IntKind) (a:Int) (Q:Unit->ag->Prop) (G:ag),Q () G->aS Tryz.prog (Instr.checkKey false 9999 3 (.int k a)) Q G:=by
  intro k a Q G i
  show aS Tryz.prog (Instr.checkKey false (9998+1) 3 (.int k a)) Q G
  unfold Instr.checkKey
  simp only[bn,c8,d,bC]
  exact i
 exact b .i64 x.e0 _ _ (b .i64 x.e1 _ _ (b .i64 x.e2 _ _ h))
def vJ (u0:aj):Option (Int×Int):=
 ah (eO u0 ([]:(List (aj->Option Int)))) fun a=>cond ((a.2 != 0)) (some (0,a.2)) (ah (iC zN (lQ a.1) ([]:List aX)) fun o=>aF o (fun st=>some ((st.length:Int),0)) (fun _ _=>none) (fun _=>none))
theorem Fa {ro:Addr->Option Value}(M:cY ro)(u0:aj){s1 w x B:Value}(E:bt ro u0 s1 w x B){r:(Int×Int)}(h:vJ u0=some r):aA Tryz.prog 39 #[bv u0 s1 w x B] ⟨ro,[]⟩ (fun v _=>v= .tuple #[.int .i64 r.1,.int .i64 r.2]):=by
 unfold vJ at h
 have N:=E.oc;simp only[bw] at N
 refine aA.uK Tryz.func39 rfl Tryz.ntmps39 Tryz.results39 (by simp) fun main J hJ A F hd hs=>?_
 have O:=hs 0
 clear hs
 refine aa hJ (af hJ ?_)
 simp only[*,go_sem]
 refine an fun P bd R=>?_;try simp only[ak] at R
 try simp only[*,go_sem]
 refine aa hJ (af hJ ?_)
 revert h;refine bS fun G S h=>?_
 simp only[*,go_sem]
 refine bN hJ _ (jJ M u0 E ([]:(List (aj->Option Int))) (ax.nil _ _) S) fun v H bj T U=>?_
 obtain ⟨V,W,X,Y,rfl,l⟩:=U
 have Z:=l.oc;simp only[bw] at Z
 simp only[aU] at T
 refine aE ?_
 try simp only[*,go_sem]
 refine an fun ab bm ad=>?_;try simp only[ak] at ad
 try simp only[*,go_sem]
 refine aa hJ (aa hJ (af hJ ?_))
 simp only[*,go_sem]
 revert h;refine jC hJ (by simp only[*,go_sem]) (fun ae h=>?_) fun ae h=>?_
 ·obtain rfl:=sI h
  refine aa hJ (af hJ ?_)
  simp only[*,go_sem]
  refine aH hJ fun C=>?_
  replace C:=C.nd
  try simp only[keys,List.map_cons,List.map_nil,List.map_append,List.cons_append,List.nil_append,List.nodup_cons,List.mem_cons,List.mem_append,List.not_mem_nil,or_false,not_or] at C
  refine av ?_
  simp only[*,go_sem]
 refine aD hJ ?_
 revert h;refine bS fun o j h=>?_
 repeat refine aa hJ ?_
 refine af hJ ?_
 simp only[*,go_sem,-j]
 refine DT fun k f70=>?_
 have bo:=ep f70;have al:=e8 f70
 try simp only[ak] at al
 refine aE ?_
 simp only[*,go_sem,-j]
 refine an fun q br ao=>?_;try simp only[ak] at ao
 try simp only[*,go_sem,-j]
 repeat refine aa hJ ?_
 refine af hJ ?_
 simp only[*,go_sem,-j]
 refine uJ hJ aX.v (by simp only[*,go_sem]) (rN G.1 l.e l.p l.y l.t) (by kernel_rfl) (by kernel_rfl) (ρ:=Unit) (fun (s:List aX) ar=>∃(es:Array MapEntry) (b:Nat),ar=(q,.cells #[.map (some k)] 154)::(k,.map es b)::(ab,bl G.1 V W X Y)::(P,bk u0 s1 w x B)::[]/\es.toList.map (·.key)=s.map aX.v) (f:=zN) j ?_ ?_ (by decide) ?_ ?_
 ·exact ⟨#[],0,rfl,rfl⟩
 ·rintro d4 a0 D a2 c d bs I main J hJ _ ⟨es,b,rfl,g⟩
  obtain rfl:=Option.some.inj I
  clear I
  generalize m:lD _ _ _=u
  have bz:sz u=24:=by rw[<-m,uI];simp only[*,go_sem]
  have b0:u.defers=[]:=by rw[<-m];rfl
  have b1:slot u 6= .pointer (some ⟨q,0,none⟩):=by rw[<-m,mU];simp only[*,go_sem]
  have b2:slot u 19=d.v:=by rw[<-m,mU];simp only[*,go_sem]
  clear m F hd O
  refine ez hJ fun i a=>?_
  replace a:az H ((a0,.loop D)::(d4,.deferred (some []))::(q,.cells #[.map (some k)] 154)::(k,.map es b)::_):=a
  have b3:=a.hd
  have b4:=a.tl.hd
  have a3:=a.tl.tl.hd
  have a4:=a.tl.tl.tl.hd
  clear a
  replace i:=i.nd
  simp only[keys,List.map_cons,List.map_nil,List.map_append,List.cons_append,List.nil_append,List.nodup_cons,List.mem_cons,List.mem_append,List.not_mem_nil,or_false,not_or] at i
  refine af hJ ?_
  simp only[*,go_sem,aX.v]
  refine an fun b5 ca a5=>?_;try simp only[ak] at a5
  try simp only[*,go_sem,aX.v]
  simp only[oX,go_sem]
  refine ⟨D,by simp only[*,go_sem],a2,?_⟩
  try simp only[*,go_sem,aX.v]
  refine aM hJ (af hJ ?_)
  simp only[*,go_sem,aX.v]
  refine DV (es:=es) (clock:=b) (by kernel_rfl:Tryz.prog.underlying 154=some (.map 141 4)) (by simp only[*,go_sem]) (fun Q h=>E9 d _ Q h) (by kernel_rfl:Tryz.prog.underlying 141=some (.array 3 3)) (fun e he=>?_) fun K a6 a7=>?_
  ·have:e.key∈es.toList.map (·.key):=List.mem_map_of_mem he
   rw[g] at this
   obtain ⟨z,F,a8⟩:=List.mem_map.1 this
   rw[<-a8]
   exact E8 d z _
  ·simp only[q2,lA,go_sem, *]
   refine ⟨{D with state:=.busy},rfl,?_⟩
   simp only[*,go_sem]
   refine ⟨_,Le.sub (List.Sublist.cons _ (List.Sublist.refl _)),rfl,K,a6,rfl,?_⟩
   have a9:K.toList.map (·.key)=(cond (nD c d) c (c++[d])).map aX.v:=by
    rcases a7 with ⟨hm,he⟩|⟨hm,he⟩
    ·have:nD c d=true:=by rw[zP,<-g];exact hm
     rw[this,he,g];rfl
    ·have:nD c d=false:=by
      rw[Bool.eq_false_iff]
      intro L
      rw[zP,<-g] at L
      exact hm L
     rw[this,he,g]
     simp only[cond_false,List.map_append,List.map_cons,List.map_nil]
     rfl
   exact a9
 ·rintro d49 ba bb _ c ⟨es,b,rfl,g⟩ i a
  refine ⟨fun n=>?_,fun k1 n=>?_⟩
  ·subst n;dsimp only[aF] at h
   obtain rfl:=sI h
   clear j
   replace a:az H ((ba,.loop bb)::(d49,.deferred (some []))::(q,.cells #[.map (some k)] 154)::(k,.map es b)::_):=a
   have a3:=a.tl.tl.hd
   have a4:=a.tl.tl.tl.hd
   clear a
   replace i:=i.nd
   simp only[keys,List.map_cons,List.map_nil,List.map_append,List.cons_append,List.nil_append,List.nodup_cons,List.mem_cons,List.mem_append,List.not_mem_nil,or_false,not_or] at i
   repeat refine aa hJ ?_
   refine af hJ ?_
   simp only[*,go_sem]
   have bc:es.size=c.length:=by simpa using congrArg List.length g
   refine DU (es:=es) (clock:=b) rfl (by kernel_rfl:Tryz.prog.underlying 154=some (.map 141 4)) (by simp only[*,go_sem]) ?_
   rw[bc]
   refine av ?_
   simp only[*,go_sem]
  ·subst n;dsimp only[aF] at h
   cases h
 ·intro k1 cb n;subst n;dsimp only[aF] at h
  cases h
def eG (u0:Int)(a:Int)(b:Int):Option Bool:=
 cond (decide (a<=u0)) (some (decide (u0<=b))) (some false)
theorem gR {ro:Addr->Option Value}(u0:Int)(a:Int)(b:Int){r:Bool}(h:eG u0 a b=some r):aA Tryz.prog 59 #[.int .i64 u0,.int .i64 a,.int .i64 b] ⟨ro,[]⟩ (fun v _=>v= .bool r):=by
 unfold eG at h
 refine aA.go Tryz.func59 rfl Tryz.ntmps59 Tryz.results59 (by simp) fun main J hJ A d hd hs=>?_
 have e:=hs 0
 have k1:=hs 1
 have f:=hs 2
 clear hs
 refine aa hJ (af hJ ?_)
 simp only[*,go_sem]
 refine aa hJ (af hJ ?_)
 revert h;refine cS (fun c h=>?_) fun c h=>?_
 ·obtain rfl:=sI h
  try simp only[*,go_sem]
  refine av ?_
  simp only[*,go_sem]
 obtain rfl:=sI h
 try simp only[*,go_sem]
 refine av ?_
 simp only[*,go_sem]
def lT (u0:aj)(a:Int):Option Bool:=
 ah (bq u0.aB 0) fun b=>ah (bq u0.aB (IntKind.i64.wrap ((u0.aB.length:Int) - 1))) fun c=>ah (eG a b.aK c.aK) fun d=>some d
theorem Fb {ro:Addr->Option Value}(u0:aj){s1 f g i:Value}(a:bt ro u0 s1 f g i)(b:Int){r:Bool}(h:lT u0 b=some r):aA Tryz.prog 53 #[bv u0 s1 f g i,.int .i64 b] ⟨ro,[]⟩ (fun v _=>v= .bool r):=by
 obtain ⟨d3,c4,rfl,E,G,-⟩:=id a.e
 unfold lT at h
 refine aA.go Tryz.func53 rfl Tryz.ntmps53 Tryz.results53 (by simp) fun main J hJ A H hd hs=>?_
 have I:=hs 0
 have k1:=hs 1
 clear hs
 refine aa hJ (af hJ ?_)
 simp only[*,go_sem]
 refine an fun K L n=>?_;try simp only[ak] at n
 try simp only[*,go_sem]
 refine aa hJ ?_
 refine cQ hJ mixed 17 1 (by simp only[*,go_sem]) (by kernel_rfl) ?_
 revert h;refine bS fun j o h=>?_
 obtain ⟨M,N,k⟩:=bX o
 obtain ⟨O,p,q,s,c⟩:=a.e.el _ _ k
 obtain rfl:p=j.cells:=s
 cases q
 have t:=c 0 _ rfl;simp only[go_sem] at t
 have u:=c 1 _ rfl;simp only[go_sem] at u
 clear c k
 revert h;refine bS fun l w h=>?_
 obtain ⟨P,Q,m⟩:=bX w
 obtain ⟨R,x,y,z,d⟩:=a.e.el _ _ m
 obtain rfl:x=l.cells:=z
 cases y
 have B:=d 0 _ rfl;simp only[go_sem] at B
 have C:=d 1 _ rfl;simp only[go_sem] at C
 clear d m
 revert h;refine bS fun S D h=>?_
 obtain rfl:=sI h
 try simp only[*,go_sem]
 refine ⟨_,bB hJ fun F T=>gR b j.aK l.aK D,cc ?_⟩
 try simp only[*,go_sem]
 refine av ?_
 simp only[*,go_sem]
def lU (u0:aj)(a:Int):Option Bool:=
 ah (eG a 0 (IntKind.i64.wrap ((u0.aC.length:Int) - 1))) fun b=>some b
theorem zQ {ro:Addr->Option Value}(u0:aj){s1 c d f:Value}(a:bt ro u0 s1 c d f)(b:Int){r:Bool}(h:lU u0 b=some r):aA Tryz.prog 108 #[bv u0 s1 c d f,.int .i64 b] ⟨ro,[]⟩ (fun v _=>v= .bool r):=by
 obtain ⟨d3,c4,rfl,j,k,-⟩:=id a.e
 obtain ⟨d10,l,rfl,m,n,-⟩:=id a.p
 obtain ⟨d17,o,rfl,q,s,-⟩:=id a.y
 obtain ⟨d24,u,rfl,w,x,-⟩:=id a.t
 unfold lU at h
 refine aA.go Tryz.func108 rfl Tryz.ntmps108 Tryz.results108 (by simp) fun main J hJ A z hd hs=>?_
 have B:=hs 0
 have k1:=hs 1
 clear hs
 refine aa hJ (af hJ ?_)
 simp only[*,go_sem]
 refine an fun C D g=>?_;try simp only[ak] at g
 try simp only[*,go_sem]
 refine aa hJ (af hJ ?_)
 revert h;refine bS fun E i h=>?_
 obtain rfl:=sI h
 simp only[*,go_sem]
 refine aO hJ _ (gR b 0 (IntKind.i64.wrap ((u0.aC.length:Int) - 1)) i) (aE ?_)
 try simp only[*,go_sem]
 refine av ?_
 simp only[*,go_sem]
def jc (u0:au)(a:au):Option Bool:=
 some (decide ((IntKind.i64.wrap (u0.num*a.den))<(IntKind.i64.wrap (a.num*u0.den))))
theorem r7 {ro:Addr->Option Value}(u0:au)(a:au){r:Bool}(h:jc u0 a=some r):aA Tryz.prog 81 #[.agg #[.int .i64 u0.num,.int .i64 u0.den],.agg #[.int .i64 a.num,.int .i64 a.den]] ⟨ro,[]⟩ (fun v _=>v= .bool r):=by
 unfold jc at h
 obtain rfl:=sI h
 refine aA.go Tryz.func81 rfl Tryz.ntmps81 Tryz.results81 (by simp) fun main J hJ A b hd hs=>?_
 have c:=hs 0
 have k1:=hs 1
 clear hs
 refine aa hJ (af hJ ?_)
 simp only[*,go_sem]
 refine an fun d r1 n1=>?_;try simp only[ak] at n1
 refine an fun b2 r2 n2=>?_;try simp only[ak] at n2
 try simp only[*,go_sem]
 refine aa hJ (af hJ ?_)
 simp only[*,go_sem]
 refine av ?_
 simp only[*,go_sem]
def vK (st:(Int×Int)):Option (Fl (Int×Int) au):=
 cond (decide (0<st.2)) (ah (lf st.1 st.2) fun a=>some (.nx (st.2,a))) (some (.bk (st.1,st.2)))
def nE (st:(Int×Int)):Option (Fl (Int×Int) au):=
 cond (decide (0<st.2)) (ah (lf st.1 st.2) fun a=>some (.nx (st.2,a))) (some (.bk (st.1,st.2)))
def gS (u0:Int)(a:Int):Option au:=
 cond (decide (a<0)) (ah (aR (vK) fu ((if IntKind.i64.wrap (0 - u0)<IntKind.i64.wrap (0 - (IntKind.i64.wrap (0 - u0))) then IntKind.i64.wrap (0 - (IntKind.i64.wrap (0 - u0))) else IntKind.i64.wrap (0 - u0)),(IntKind.i64.wrap (0 - a)))) fun o=>aF o (fun b=>ah (fU (IntKind.i64.wrap (0 - u0)) b.1) fun d=>ah (fU (IntKind.i64.wrap (0 - a)) b.1) fun e=>some (⟨d,e⟩:au)) (fun _ _=>none) (fun r=>some r)) (ah (aR (nE) fu ((if u0<IntKind.i64.wrap (0 - u0) then IntKind.i64.wrap (0 - u0) else u0),a)) fun o=>aF o (fun c=>ah (fU u0 c.1) fun f=>ah (fU a c.1) fun g=>some (⟨f,g⟩:au)) (fun _ _=>none) (fun r=>some r))
theorem pP {ro:Addr->Option Value}(u0:Int)(b:Int){r:au}(h:gS u0 b=some r):aA Tryz.prog 60 #[.int .i64 u0,.int .i64 b] ⟨ro,[]⟩ (fun v _=>v=r.v):=by
 unfold gS at h
 refine aA.go Tryz.func60 rfl Tryz.ntmps60 Tryz.results60 (by simp) fun main J hJ A n hd hs=>?_
 have o:=hs 0
 have k1:=hs 1
 clear hs
 refine aa hJ (af hJ ?_)
 simp only[*,go_sem]
 refine an fun p r1 n1=>?_;try simp only[ak] at n1
 try simp only[*,go_sem]
 refine aa hJ (aa hJ (af hJ ?_))
 simp only[*,go_sem]
 revert h;refine jC hJ (by simp only[*,go_sem]) (fun B h=>?_) fun B h=>?_
 ·refine af hJ ?_
  simp only[*,go_sem]
  refine aa hJ (af hJ ?_)
  simp only[*,go_sem]
  refine aa hJ (aM hJ ?_)
  revert h;refine bS fun C c D=>?_
  refine bM hJ [5,6,18,19,20,21,22,23] (fun m a F'=>∃(f:Int) (v4:Int),aR (vK) m (f,v4)=some C/\F'=⟨ro,(p,rt 0 0)::[]⟩/\slot a 5= .int .i64 f/\slot a 6= .int .i64 v4) fu ?_ ?_
  ·refine ⟨(if IntKind.i64.wrap (0 - u0)<IntKind.i64.wrap (0 - (IntKind.i64.wrap (0 - u0))) then IntKind.i64.wrap (0 - (IntKind.i64.wrap (0 - u0))) else IntKind.i64.wrap (0 - u0)),(IntKind.i64.wrap (0 - b)),c,rfl,?_⟩
   simp only[*,go_sem]
  rintro g R F' q ⟨f,v4,c,rfl,S,T⟩
  obtain ⟨E,F,G⟩:=q.pick [0,1,4] (by decide)
  simp only[*,go_sem] at E F G
  clear q n hd o k1
  obtain _|g:=g
  ·exact absurd c (by simp only[aR,reduceCtorEq,not_false_eq_true])
  revert c;refine bS fun U h i=>?_
  unfold vK at h
  try dsimp only at h
  refine aa hJ (aa hJ (af hJ ?_))
  simp only[*,go_sem]
  revert h;refine jC hJ (by simp only[*,go_sem]) (fun H h=>?_) fun H h=>?_
  ·refine aD hJ (aM hJ ?_)
   refine cQ hJ mixed 6 1 (by simp only[*,go_sem]) (by kernel_rfl) ?_
   revert h;refine bS fun I s h=>?_
   obtain rfl:=sI h
   obtain ⟨V,W⟩:=uf s
   clear s
   try simp only[*,go_sem]
   refine ⟨g,Nat.lt_succ_self _,_,Le.sub (List.Sublist.refl _),v4,I,i,rfl,?_⟩
   simp only[*,go_sem]
  obtain rfl:=sI h
  refine bJ ?_
  simp only[go_sem]
  obtain rfl:=sI i;clear i
  have h:=D
  dsimp only[aF] at h
  refine aa hJ ?_
  refine cQ hJ mixed 7 0 (by simp only[*,go_sem]) (by kernel_rfl) ?_
  revert h;refine bS fun X t h=>?_
  obtain ⟨Y,Z⟩:=mQ t
  clear t
  revert h;refine bS fun ab u h=>?_
  obtain rfl:=sI h
  obtain ⟨ad,ae⟩:=mQ u
  clear u
  try simp only[*,go_sem]
  refine av ?_
  simp only[*,go_sem]
 refine aD hJ (aa hJ ?_)
 refine af hJ ?_
 simp only[*,go_sem]
 refine aa hJ (aM hJ ?_)
 revert h;refine bS fun K d L=>?_
 refine bM hJ [5,6,18,19,20,21,22,23] (fun m a F'=>∃(j:Int) (e:Int),aR (nE) m (j,e)=some K/\F'=⟨ro,(p,rt 0 0)::[]⟩/\slot a 5= .int .i64 j/\slot a 6= .int .i64 e) fu ?_ ?_
 ·refine ⟨(if u0<IntKind.i64.wrap (0 - u0) then IntKind.i64.wrap (0 - u0) else u0),b,d,rfl,?_⟩
  simp only[*,go_sem]
 rintro k al F' w ⟨j,e,d,rfl,ao,ar⟩
 obtain ⟨M,N,O⟩:=w.pick [0,1,4] (by decide)
 simp only[*,go_sem] at M N O
 clear w n hd o k1
 obtain _|k:=k
 ·exact absurd d (by simp only[aR,reduceCtorEq,not_false_eq_true])
 revert d;refine bS fun a0 h l=>?_
 unfold nE at h
 try dsimp only at h
 refine aa hJ (aa hJ (af hJ ?_))
 simp only[*,go_sem]
 revert h;refine jC hJ (by simp only[*,go_sem]) (fun P h=>?_) fun P h=>?_
 ·refine aD hJ (aM hJ ?_)
  refine cQ hJ mixed 6 1 (by simp only[*,go_sem]) (by kernel_rfl) ?_
  revert h;refine bS fun Q x h=>?_
  obtain rfl:=sI h
  obtain ⟨a2,a3⟩:=uf x
  clear x
  try simp only[*,go_sem]
  refine ⟨k,Nat.lt_succ_self _,_,Le.sub (List.Sublist.refl _),e,Q,l,rfl,?_⟩
  simp only[*,go_sem]
 obtain rfl:=sI h
 refine bJ ?_
 simp only[go_sem]
 obtain rfl:=sI l;clear l
 have h:=L
 dsimp only[aF] at h
 refine aa hJ ?_
 refine cQ hJ mixed 7 0 (by simp only[*,go_sem]) (by kernel_rfl) ?_
 revert h;refine bS fun a4 y h=>?_
 obtain ⟨a5,a6⟩:=mQ y
 clear y
 revert h;refine bS fun a7 z h=>?_
 obtain rfl:=sI h
 obtain ⟨a8,a9⟩:=mQ z
 clear z
 try simp only[*,go_sem]
 refine av ?_
 simp only[*,go_sem]
def jK (u0:au)(a:au):Option au:=
 ah (gS (IntKind.i64.wrap ((IntKind.i64.wrap (u0.num*a.den)) - (IntKind.i64.wrap (a.num*u0.den)))) (IntKind.i64.wrap (u0.den*a.den))) fun b=>some b
theorem r8 {ro:Addr->Option Value}(u0:au)(a:au){r:au}(h:jK u0 a=some r):aA Tryz.prog 83 #[.agg #[.int .i64 u0.num,.int .i64 u0.den],.agg #[.int .i64 a.num,.int .i64 a.den]] ⟨ro,[]⟩ (fun v _=>v=r.v):=by
 unfold jK at h
 refine aA.go Tryz.func83 rfl Tryz.ntmps83 Tryz.results83 (by simp) fun main J hJ A c hd hs=>?_
 have d:=hs 0
 have k1:=hs 1
 clear hs
 refine aa hJ (af hJ ?_)
 simp only[*,go_sem]
 refine an fun e r1 n1=>?_;try simp only[ak] at n1
 refine an fun b2 r2 n2=>?_;try simp only[ak] at n2
 refine an fun b3 r3 n3=>?_;try simp only[ak] at n3
 try simp only[*,go_sem]
 refine aa hJ (af hJ ?_)
 revert h;refine bS fun f b h=>?_
 obtain rfl:=sI h
 simp only[*,go_sem]
 refine aO hJ _ (pP (IntKind.i64.wrap ((IntKind.i64.wrap (u0.num*a.den)) - (IntKind.i64.wrap (a.num*u0.den)))) (IntKind.i64.wrap (u0.den*a.den)) b) (aE ?_)
 try simp only[*,go_sem]
 refine av ?_
 simp only[*,go_sem]
def jL (u0:aj)(a:bf)(c:Int)(b:au):Option au:=
 ah (gS (IntKind.i64.wrap ((IntKind.i64.wrap ((IntKind.i64.wrap (a.high*b.den))*(IntKind.i64.wrap (c+a.back))))+(IntKind.i64.wrap ((IntKind.i64.wrap (b.num - (IntKind.i64.wrap (a.high*b.den))))*(IntKind.i64.wrap (u0.bF+a.back)))))) (IntKind.i64.wrap (b.den*(IntKind.i64.wrap (c+a.back))))) fun d=>some d
theorem zR {ro:Addr->Option Value}(u0:aj){s1 f g i:Value}(c:bt ro u0 s1 f g i)(a:bf)(d:Int)(b:au){r:au}(h:jL u0 a d b=some r):aA Tryz.prog 125 #[bv u0 s1 f g i,.agg #[.int .i64 a.back,.int .i64 a.high],.int .i64 d,.agg #[.int .i64 b.num,.int .i64 b.den]] ⟨ro,[]⟩ (fun v _=>v=r.v):=by
 obtain ⟨d3,c4,rfl,o,q,-⟩:=id c.e
 obtain ⟨d10,s,rfl,u,w,-⟩:=id c.p
 obtain ⟨d17,x,rfl,z,B,-⟩:=id c.y
 obtain ⟨d24,C,rfl,D,E,-⟩:=id c.t
 unfold jL at h
 refine aA.go Tryz.func125 rfl Tryz.ntmps125 Tryz.results125 (by simp) fun main J hJ A F hd hs=>?_
 have G:=hs 0
 have k1:=hs 1
 have H:=hs 2
 have I:=hs 3
 clear hs
 refine aa hJ (af hJ ?_)
 simp only[*,go_sem]
 refine an fun K L j=>?_;try simp only[ak] at j
 refine an fun M N k=>?_;try simp only[ak] at k
 refine an fun O P l=>?_;try simp only[ak] at l
 refine an fun Q R m=>?_;try simp only[ak] at m
 try simp only[*,go_sem]
 refine aa hJ (af hJ ?_)
 revert h;refine bS fun S n h=>?_
 obtain rfl:=sI h
 simp only[*,go_sem]
 refine aO hJ _ (pP (IntKind.i64.wrap ((IntKind.i64.wrap ((IntKind.i64.wrap (a.high*b.den))*(IntKind.i64.wrap (d+a.back))))+(IntKind.i64.wrap ((IntKind.i64.wrap (b.num - (IntKind.i64.wrap (a.high*b.den))))*(IntKind.i64.wrap (u0.bF+a.back)))))) (IntKind.i64.wrap (b.den*(IntKind.i64.wrap (d+a.back)))) n) (aE ?_)
 try simp only[*,go_sem]
 refine av ?_
 simp only[*,go_sem]
def kC (u0:cr)(a:Int)(b:Int):Option Bool:=
 cond (decide (a<=u0.low)) (cond (decide (u0.low<=u0.high)) (some (decide (u0.high<=b))) (some false)) (some false)
theorem zS {ro:Addr->Option Value}(u0:cr)(a:Int)(b:Int){r:Bool}(h:kC u0 a b=some r):aA Tryz.prog 109 #[.agg #[.int .i64 u0.low,.int .i64 u0.high],.int .i64 a,.int .i64 b] ⟨ro,[]⟩ (fun v _=>v= .bool r):=by
 unfold kC at h
 refine aA.go Tryz.func109 rfl Tryz.ntmps109 Tryz.results109 (by simp) fun main J hJ A e hd hs=>?_
 have f:=hs 0
 have k1:=hs 1
 have g:=hs 2
 clear hs
 refine aa hJ (af hJ ?_)
 simp only[*,go_sem]
 refine an fun i r1 n1=>?_;try simp only[ak] at n1
 try simp only[*,go_sem]
 refine aa hJ (af hJ ?_)
 revert h;refine cS (fun c h=>?_) fun c h=>?_
 ·revert h;refine cS (fun d h=>?_) fun d h=>?_
  ·obtain rfl:=sI h
   try simp only[*,go_sem]
   refine av ?_
   simp only[*,go_sem]
  obtain rfl:=sI h
  try simp only[*,go_sem]
  refine av ?_
  simp only[*,go_sem]
 obtain rfl:=sI h
 try simp only[*,go_sem]
 refine av ?_
 simp only[*,go_sem]
def fI (u0:au)(a:au):Option au:=
 ah (jc u0 a) fun b=>cond (b) (some a) (some u0)
theorem kD {ro:Addr->Option Value}(u0:au)(a:au){r:au}(h:fI u0 a=some r):aA Tryz.prog 82 #[.agg #[.int .i64 u0.num,.int .i64 u0.den],.agg #[.int .i64 a.num,.int .i64 a.den]] ⟨ro,[]⟩ (fun v _=>v=r.v):=by
 unfold fI at h
 refine aA.go Tryz.func82 rfl Tryz.ntmps82 Tryz.results82 (by simp) fun main J hJ A d hd hs=>?_
 have e:=hs 0
 have k1:=hs 1
 clear hs
 refine aa hJ (af hJ ?_)
 simp only[*,go_sem]
 refine an fun f r1 n1=>?_;try simp only[ak] at n1
 refine an fun b2 r2 n2=>?_;try simp only[ak] at n2
 refine an fun b3 r3 n3=>?_;try simp only[ak] at n3
 try simp only[*,go_sem]
 refine aa hJ (aa hJ (af hJ ?_))
 revert h;refine bS fun g b h=>?_
 simp only[*,go_sem]
 refine aO hJ _ (r7 u0 a b) ?_
 try simp only[*,go_sem]
 revert h;refine jC hJ (by simp only[*,go_sem]) (fun c h=>?_) fun c h=>?_
 ·obtain rfl:=sI h
  refine aa hJ (af hJ ?_)
  simp only[*,go_sem]
  refine av ?_
  simp only[*,go_sem]
 obtain rfl:=sI h
 refine aD hJ (aa hJ ?_)
 refine af hJ ?_
 simp only[*,go_sem]
 refine av ?_
 simp only[*,go_sem]
def r9 (u0:cr)(a:cr):Option cr:=
 some (⟨(if u0.low<a.low then a.low else u0.low),(if a.high<u0.high then a.high else u0.high)⟩:cr)
theorem Fc {ro:Addr->Option Value}(u0:cr)(a:cr){r:cr}(h:r9 u0 a=some r):aA Tryz.prog 110 #[.agg #[.int .i64 u0.low,.int .i64 u0.high],.agg #[.int .i64 a.low,.int .i64 a.high]] ⟨ro,[]⟩ (fun v _=>v=r.v):=by
 unfold r9 at h
 obtain rfl:=sI h
 refine aA.go Tryz.func110 rfl Tryz.ntmps110 Tryz.results110 (by simp) fun main J hJ A b hd hs=>?_
 have c:=hs 0
 have k1:=hs 1
 clear hs
 refine aa hJ (af hJ ?_)
 simp only[*,go_sem]
 refine an fun d r1 n1=>?_;try simp only[ak] at n1
 refine an fun b2 r2 n2=>?_;try simp only[ak] at n2
 refine an fun b3 r3 n3=>?_;try simp only[ak] at n3
 try simp only[*,go_sem]
 refine aa hJ (af hJ ?_)
 simp only[*,go_sem]
 refine av ?_
 simp only[*,go_sem]
def nF (u0:aj)(a:Int)(b:Int):Option bf:=
 ah (bq u0.aC a) fun c=>some (⟨c.back,b⟩:bf)
theorem zT {ro:Addr->Option Value}(u0:aj){s1 c d f:Value}(a:bt ro u0 s1 c d f)(g:Int)(i:Int){r:bf}(h:nF u0 g i=some r):aA Tryz.prog 80 #[bv u0 s1 c d f,.int .i64 g,.int .i64 i] ⟨ro,[]⟩ (fun v _=>v=r.v):=by
 obtain ⟨d3,c4,rfl,z,B,-⟩:=id a.e
 obtain ⟨d10,C,rfl,D,E,-⟩:=id a.p
 obtain ⟨d17,F,rfl,G,H,-⟩:=id a.y
 obtain ⟨d24,I,rfl,K,L,-⟩:=id a.t
 unfold nF at h
 refine aA.go Tryz.func80 rfl Tryz.ntmps80 Tryz.results80 (by simp) fun main J hJ A M hd hs=>?_
 have N:=hs 0
 have k1:=hs 1
 have O:=hs 2
 clear hs
 refine aa hJ (af hJ ?_)
 simp only[*,go_sem]
 refine an fun P Q k=>?_;try simp only[ak] at k
 refine an fun R S l=>?_;try simp only[ak] at l
 try simp only[*,go_sem]
 refine aa hJ (af hJ ?_)
 revert h;refine bS fun m n h=>?_
 obtain rfl:=sI h
 obtain ⟨T,U,j⟩:=bX n
 obtain ⟨V,o,q,s,b⟩:=a.y.el _ _ j
 obtain rfl:o=m.cells:=s
 cases q
 have u:=b 0 _ rfl;simp only[go_sem] at u
 have w:=b 1 _ rfl;simp only[go_sem] at w
 have x:=b 2 _ rfl;simp only[go_sem] at x
 clear b j
 try simp only[*,go_sem]
 refine av ?_
 simp only[*,go_sem]
def lV (u0:aj):Option Bool:=
 cond (decide (20<(u0.aB.length:Int))) (some true) (cond (decide (20<(u0.props.length:Int))) (some true) (cond (decide (20<(u0.aC.length:Int))) (some true) (some (decide (20<(u0.told.length:Int))))))
theorem Fe {ro:Addr->Option Value}(u0:aj){s1 b c d:Value}(a:bt ro u0 s1 b c d){r:Bool}(h:lV u0=some r):aA Tryz.prog 6 #[bv u0 s1 b c d] ⟨ro,[]⟩ (fun v _=>v= .bool r):=by
 obtain ⟨d3,c4,rfl,k,l,-⟩:=id a.e
 obtain ⟨d10,m,rfl,n,o,-⟩:=id a.p
 obtain ⟨d17,q,rfl,s,u,-⟩:=id a.y
 obtain ⟨d24,w,rfl,x,z,-⟩:=id a.t
 unfold lV at h
 refine aA.go Tryz.func6 rfl Tryz.ntmps6 Tryz.results6 (by simp) fun main J hJ A B hd hs=>?_
 have C:=hs 0
 clear hs
 refine aa hJ (af hJ ?_)
 simp only[*,go_sem]
 refine an fun D E f=>?_;try simp only[ak] at f
 try simp only[*,go_sem]
 refine aa hJ (af hJ ?_)
 revert h;refine cS (fun g h=>?_) fun g h=>?_
 ·obtain rfl:=sI h
  try simp only[*,go_sem]
  refine av ?_
  simp only[*,go_sem]
 revert h;refine cS (fun i h=>?_) fun i h=>?_
 ·obtain rfl:=sI h
  try simp only[*,go_sem]
  refine av ?_
  simp only[*,go_sem]
 revert h;refine cS (fun j h=>?_) fun j h=>?_
 ·obtain rfl:=sI h
  try simp only[*,go_sem]
  refine av ?_
  simp only[*,go_sem]
 obtain rfl:=sI h
 try simp only[*,go_sem]
 refine av ?_
 simp only[*,go_sem]
def fJ (u0:Int)(a:Int):Option au:=
 some (⟨u0,a⟩:au)
theorem gA {ro:Addr->Option Value}(u0:Int)(a:Int){r:au}(h:fJ u0 a=some r):aA Tryz.prog 42 #[.int .i64 u0,.int .i64 a] ⟨ro,[]⟩ (fun v _=>v=r.v):=by
 unfold fJ at h
 obtain rfl:=sI h
 refine aA.go Tryz.func42 rfl Tryz.ntmps42 Tryz.results42 (by simp) fun main J hJ A b hd hs=>?_
 have c:=hs 0
 have k1:=hs 1
 clear hs
 refine aa hJ (af hJ ?_)
 simp only[*,go_sem]
 refine an fun d r1 n1=>?_;try simp only[ak] at n1
 try simp only[*,go_sem]
 refine aa hJ (af hJ ?_)
 simp only[*,go_sem]
 refine av ?_
 simp only[*,go_sem]
def pQ (u0:Int)(a:Int):Option cr:=
 some (⟨u0,a⟩:cr)
theorem sd {ro:Addr->Option Value}(u0:Int)(a:Int){r:cr}(h:pQ u0 a=some r):aA Tryz.prog 48 #[.int .i64 u0,.int .i64 a] ⟨ro,[]⟩ (fun v _=>v=r.v):=by
 unfold pQ at h
 obtain rfl:=sI h
 refine aA.go Tryz.func48 rfl Tryz.ntmps48 Tryz.results48 (by simp) fun main J hJ A b hd hs=>?_
 have c:=hs 0
 have k1:=hs 1
 clear hs
 refine aa hJ (af hJ ?_)
 simp only[*,go_sem]
 refine an fun d r1 n1=>?_;try simp only[ak] at n1
 try simp only[*,go_sem]
 refine aa hJ (af hJ ?_)
 simp only[*,go_sem]
 refine av ?_
 simp only[*,go_sem]
def lW (u0:Int)(a:Int):Option bf:=
 some (⟨u0,a⟩:bf)
theorem pR {ro:Addr->Option Value}(u0:Int)(a:Int){r:bf}(h:lW u0 a=some r):aA Tryz.prog 38 #[.int .i64 u0,.int .i64 a] ⟨ro,[]⟩ (fun v _=>v=r.v):=by
 unfold lW at h
 obtain rfl:=sI h
 refine aA.go Tryz.func38 rfl Tryz.ntmps38 Tryz.results38 (by simp) fun main J hJ A b hd hs=>?_
 have c:=hs 0
 have k1:=hs 1
 clear hs
 refine aa hJ (af hJ ?_)
 simp only[*,go_sem]
 refine an fun d r1 n1=>?_;try simp only[ak] at n1
 try simp only[*,go_sem]
 refine aa hJ (af hJ ?_)
 simp only[*,go_sem]
 refine av ?_
 simp only[*,go_sem]
def lX (u0:Int)(a:Bool):Option bx:=
 some (⟨u0,a⟩:bx)
theorem jM {ro:Addr->Option Value}(u0:Int)(a:Bool){r:bx}(h:lX u0 a=some r):aA Tryz.prog 47 #[.int .i64 u0,.bool a] ⟨ro,[]⟩ (fun v _=>v=r.v):=by
 unfold lX at h
 obtain rfl:=sI h
 refine aA.go Tryz.func47 rfl Tryz.ntmps47 Tryz.results47 (by simp) fun main J hJ A b hd hs=>?_
 have c:=hs 0
 have k1:=hs 1
 clear hs
 refine aa hJ (af hJ ?_)
 simp only[*,go_sem]
 refine an fun d r1 n1=>?_;try simp only[ak] at n1
 try simp only[*,go_sem]
 refine aa hJ (af hJ ?_)
 simp only[*,go_sem]
 refine av ?_
 simp only[*,go_sem]
def lY (u0:aj)(a:bx):Option aj:=
 ah (cI ([]:List bx) u0.told) fun b=>ah (cI b ([a])) fun c=>some (⟨u0.bF,u0.bL,u0.aV,u0.aB,u0.props,u0.aC,c⟩:aj)
theorem lZ {ro:Addr->Option Value}(u0:aj){s1 b c N:Value}(j:bt ro u0 s1 b c N)(a:bx){r:aj}(h:lY u0 a=some r):c9 Tryz.prog 49 #[bv u0 s1 b c N,.agg #[.int .i64 a.aT,.bool a.bg]] ro (fun v aI=>∃O w1 w2 w3,v=bv r O w1 w2 w3/\bt aI r O w1 w2 w3):=by
 obtain ⟨d24,i,rfl,e0,e1,-⟩:=id j.t
 unfold lY at h
 have bo:=j.oc;simp only[bw] at bo
 refine aA.go Tryz.func49 rfl Tryz.ntmps49 Tryz.results49 (by simp) fun main J hJ A e3 hd hs=>?_
 have fa:=hs 0
 have k1:=hs 1
 clear hs
 refine aa hJ (af hJ ?_)
 simp only[*,go_sem,-h]
 refine an fun d q br=>?_;try simp only[ak] at br
 refine an fun f s bs=>?_;try simp only[ak] at bs
 refine an fun g u b0=>?_;try simp only[ak] at b0
 try simp only[*,go_sem,-h]
 refine aa hJ ?_
 refine aH hJ fun P=>?_
 refine iB hJ mixed [8] (.pure 1 (.rd 2 (.rd 4 (.two 0 (.two 3 (.one 5 (.one 6 (.pure 7 (.last 8 .done)))) 5 (.one 3 (.one 6 (.pure 7 (.last 8 .done))))) 5 (.one 0 (.one 3 (.one 6 (.pure 7 (.last 8 .done))))))))) ⟨ro,[(g,bz 29),(f,.cells #[.int .i64 a.aT,.bool a.bg] 54),(d,bk u0 s1 b c (sl d24 u0.told i))]⟩ (by simp only[*,go_sem,-h]) (by kernel_rfl) ?_
 simp only[*,go_sem,-h]
 refine jE ?_ ?_
 ·simp only[*,go_sem,-h]
  refine an fun C Q R=>?_;have S:=aL.cons R P;try simp only[ak] at R
  try simp only[*,go_sem,-h]
  refine jE ?_ ?_
  ·revert h;refine bS fun b1 b2 h=>?_
   obtain ⟨b3,T⟩:=cG b2
   simp only[*,go_sem,-h]
   have b4:aP cU ro 54 (.slice (some ⟨C,0,none⟩) 0 0) ([]:List bx) [(C,.cells #[] 54)]:=aP.empty Q
   refine lE (r:=cU) (l:=([]:List bx)) (xs:=u0.told) [] ((g,bz 29)::(f,.cells #[.int .i64 a.aT,.bool a.bg] 54)::(d,bk u0 s1 b c (sl d24 u0.told i))::[]) b4 S b3 j.t rfl rfl dK dK gu gw rfl gv (by decide) (by decide) (fun fb w F k m b5=>?_)
   simp only[List.append_nil,List.cons_append,List.nil_append,List.append_assoc] at m
   subst k
   rw[<-T] at F;clear T
   obtain ⟨d144,fg,rfl,fi⟩:=F.len
   have ca:=aL.back (l:=(g,bz 29)::(f,.cells #[.int .i64 a.aT,.bool a.bg] 54)::(d,bk u0 s1 b c (sl d24 u0.told i))::w) (l':=[]++(w++([(g,bz 29),(f,.cells #[.int .i64 a.aT,.bool a.bg] 54),(d,bk u0 s1 b c (sl d24 u0.told i))]++[]))) [] [(g,bz 29),(f,.cells #[.int .i64 a.aT,.bool a.bg] 54),(d,bk u0 s1 b c (sl d24 u0.told i))] w [] (by first|rfl|simp only[List.append_nil,List.cons_append,List.nil_append,List.append_assoc]|(simp only[List.append_nil,List.cons_append,List.nil_append,List.append_assoc];rfl)) (by first|rfl|simp only[List.append_nil,List.cons_append,List.nil_append,List.append_assoc]|(simp only[List.append_nil,List.cons_append,List.nil_append,List.append_assoc];rfl)) b5
   refine ⟨⟨ro,(g,bz 29)::(f,.cells #[.int .i64 a.aT,.bool a.bg] 54)::(d,bk u0 s1 b c (sl d24 u0.told i))::w⟩,Le.back [] [(g,bz 29),(f,.cells #[.int .i64 a.aT,.bool a.bg] 54),(d,bk u0 s1 b c (sl d24 u0.told i))] w [] (by first|rfl|simp only[List.append_nil,List.cons_append,List.nil_append,List.append_assoc]|(simp only[List.append_nil,List.cons_append,List.nil_append,List.append_assoc];rfl)) (by first|rfl|simp only[List.append_nil,List.cons_append,List.nil_append,List.append_assoc]|(simp only[List.append_nil,List.cons_append,List.nil_append,List.append_assoc];rfl)),?_⟩
   refine ⟨by simp only[*,go_sem,-h],bU ?_⟩
   revert h;refine bS fun U cb h=>?_
   obtain ⟨cd,V⟩:=cG cb
   try simp only[*,go_sem,-h]
   refine an fun G W X=>?_;have cf:=aL.cons X ca;try simp only[ak] at X
   try simp only[*,go_sem,-h]
   refine di (r:=cU) (l:=b1) (x:=a) (cs:=#[.int .i64 a.aT,.bool a.bg]) (e2:=54) [(G,.cells #[.int .i64 a.aT,.bool a.bg] 54),(g,bz 29),(f,.cells #[.int .i64 a.aT,.bool a.bg] 54),(d,bk u0 s1 b c (sl d24 u0.told i))] [] F cf cd rfl (by simp only[*,go_sem,-h]) W rfl rfl dK dK gu gw rfl gv (by decide) (by decide) (fun fp cl H k m fr=>?_)
   simp only[List.append_nil,List.cons_append,List.nil_append,List.append_assoc] at m
   subst k
   rw[<-V] at H;clear V
   obtain ⟨d158,Y,rfl,fs⟩:=H.len
   refine ⟨⟨ro,(G,.cells #[.int .i64 a.aT,.bool a.bg] 54)::(g,bz 29)::(f,.cells #[.int .i64 a.aT,.bool a.bg] 54)::(d,bk u0 s1 b c (sl d24 u0.told i))::cl⟩,Le.refl _,?_⟩
   refine ⟨by simp only[*,go_sem,-h],bU ?_⟩
   try simp only[*,go_sem,-h]
   refine aa hJ ?_
   refine aH hJ fun ft=>?_
   refine af hJ ?_
   simp only[*,go_sem,-h]
   obtain rfl:=sI h
   refine aH hJ fun Z=>?_
   obtain ⟨fu,ab,D,ad,cy⟩:=H.dF [(G,.cells #[.int .i64 a.aT,.bool a.bg] 54),(g,bk u0 s1 b c (sl d158 U Y)),(f,.cells #[.int .i64 a.aT,.bool a.bg] 54),(d,bk u0 s1 b c (sl d158 U Y))] [] Z (az.cons W (az.cons u (az.cons s (az.cons q (az.nil _)))))
   clear Z
   refine cA hJ cy ?_
   obtain ⟨fv,fw,-⟩:=ad.op
   replace j:=j.mono ab
   replace u:=D.tl.hd
   replace s:=D.tl.tl.hd
   replace q:=D.tl.tl.tl.hd
   simp only[aU] at D
   refine av ?_
   simp only[*,go_sem]
   exact ⟨_,ab,Le.sub (List.nil_sublist _),_,_,_,_,rfl,⟨j.e,j.p,j.y,ad⟩⟩
  revert h;refine bS fun cS c0 h=>?_
  obtain ⟨da,ae⟩:=cG c0
  simp only[*,go_sem,-h]
  refine an fun n al ao=>?_;have db:=aL.cons ao S;try simp only[ak] at ao
  try simp only[*,go_sem,-h]
  have dd:aP cU ro 54 (.slice (some ⟨C,0,none⟩) 0 0) ([]:List bx) [(C,.cells #[] 54)]:=aP.empty Q
  refine lE (r:=cU) (l:=([]:List bx)) (xs:=u0.told) [(n,.cells #[.int .i64 a.aT,.bool a.bg] 54)] ((g,bz 29)::(f,.cells #[.int .i64 a.aT,.bool a.bg] 54)::(d,bk u0 s1 b c (sl d24 u0.told i))::[]) dd db da j.t rfl rfl dK dK gu gw rfl gv (by decide) (by decide) (fun fx z I k m df=>?_)
  simp only[List.append_nil,List.cons_append,List.nil_append,List.append_assoc] at m
  subst k
  rw[<-ae] at I;clear ae
  obtain ⟨d179,gg,rfl,gl⟩:=I.len
  have dk:=aL.back (l:=(n,.cells #[.int .i64 a.aT,.bool a.bg] 54)::(g,bz 29)::(f,.cells #[.int .i64 a.aT,.bool a.bg] 54)::(d,bk u0 s1 b c (sl d24 u0.told i))::z) (l':=[(n,.cells #[.int .i64 a.aT,.bool a.bg] 54)]++(z++([(g,bz 29),(f,.cells #[.int .i64 a.aT,.bool a.bg] 54),(d,bk u0 s1 b c (sl d24 u0.told i))]++[]))) [(n,.cells #[.int .i64 a.aT,.bool a.bg] 54)] [(g,bz 29),(f,.cells #[.int .i64 a.aT,.bool a.bg] 54),(d,bk u0 s1 b c (sl d24 u0.told i))] z [] (by first|rfl|simp only[List.append_nil,List.cons_append,List.nil_append,List.append_assoc]|(simp only[List.append_nil,List.cons_append,List.nil_append,List.append_assoc];rfl)) (by first|rfl|simp only[List.append_nil,List.cons_append,List.nil_append,List.append_assoc]|(simp only[List.append_nil,List.cons_append,List.nil_append,List.append_assoc];rfl)) df
  refine ⟨⟨ro,(n,.cells #[.int .i64 a.aT,.bool a.bg] 54)::(g,bz 29)::(f,.cells #[.int .i64 a.aT,.bool a.bg] 54)::(d,bk u0 s1 b c (sl d24 u0.told i))::z⟩,Le.back [(n,.cells #[.int .i64 a.aT,.bool a.bg] 54)] [(g,bz 29),(f,.cells #[.int .i64 a.aT,.bool a.bg] 54),(d,bk u0 s1 b c (sl d24 u0.told i))] z [] (by first|rfl|simp only[List.append_nil,List.cons_append,List.nil_append,List.append_assoc]|(simp only[List.append_nil,List.cons_append,List.nil_append,List.append_assoc];rfl)) (by first|rfl|simp only[List.append_nil,List.cons_append,List.nil_append,List.append_assoc]|(simp only[List.append_nil,List.cons_append,List.nil_append,List.append_assoc];rfl)),?_⟩
  refine ⟨by simp only[*,go_sem,-h],bU ?_⟩
  revert h;refine bS fun ar dp h=>?_
  obtain ⟨dq,a0⟩:=cG dp
  try simp only[*,go_sem,-h]
  refine di (r:=cU) (l:=cS) (x:=a) (cs:=#[.int .i64 a.aT,.bool a.bg]) (e2:=54) [(n,.cells #[.int .i64 a.aT,.bool a.bg] 54),(g,bz 29),(f,.cells #[.int .i64 a.aT,.bool a.bg] 54),(d,bk u0 s1 b c (sl d24 u0.told i))] [] I dk dq rfl (by simp only[*,go_sem,-h]) al rfl rfl dK dK gu gw rfl gv (by decide) (by decide) (fun gn ds K k m gp=>?_)
  simp only[List.append_nil,List.cons_append,List.nil_append,List.append_assoc] at m
  subst k
  rw[<-a0] at K;clear a0
  obtain ⟨d191,a2,rfl,gB⟩:=K.len
  refine ⟨⟨ro,(n,.cells #[.int .i64 a.aT,.bool a.bg] 54)::(g,bz 29)::(f,.cells #[.int .i64 a.aT,.bool a.bg] 54)::(d,bk u0 s1 b c (sl d24 u0.told i))::ds⟩,Le.refl _,?_⟩
  refine ⟨by simp only[*,go_sem,-h],bU ?_⟩
  try simp only[*,go_sem,-h]
  refine aa hJ ?_
  refine aH hJ fun gC=>?_
  refine af hJ ?_
  simp only[*,go_sem,-h]
  obtain rfl:=sI h
  refine aH hJ fun a3=>?_
  obtain ⟨gM,a4,E,a5,dt⟩:=K.dF [(n,.cells #[.int .i64 a.aT,.bool a.bg] 54),(g,bk u0 s1 b c (sl d191 ar a2)),(f,.cells #[.int .i64 a.aT,.bool a.bg] 54),(d,bk u0 s1 b c (sl d191 ar a2))] [] a3 (az.cons al (az.cons u (az.cons s (az.cons q (az.nil _)))))
  clear a3
  refine cA hJ dt ?_
  obtain ⟨gT,gV,-⟩:=a5.op
  replace j:=j.mono a4
  replace u:=E.tl.hd
  replace s:=E.tl.tl.hd
  replace q:=E.tl.tl.tl.hd
  simp only[aU] at E
  refine av ?_
  simp only[*,go_sem]
  exact ⟨_,a4,Le.sub (List.nil_sublist _),_,_,_,_,rfl,⟨j.e,j.p,j.y,a5⟩⟩
 revert h;refine bS fun du dv h=>?_
 obtain ⟨dC,a6⟩:=cG dv
 simp only[*,go_sem,-h]
 refine an fun o a7 a8=>?_;have dE:=aL.cons a8 P;try simp only[ak] at a8
 try simp only[*,go_sem,-h]
 refine an fun a9 dT ba=>?_;have ea:=aL.cons ba dE;try simp only[ak] at ba
 try simp only[*,go_sem,-h]
 have eb:aP cU ro 54 (.slice (some ⟨a9,0,none⟩) 0 0) ([]:List bx) [(a9,.cells #[] 54)]:=aP.empty dT
 refine lE (r:=cU) (l:=([]:List bx)) (xs:=u0.told) [] ((o,.cells #[.int .i64 a.aT,.bool a.bg] 54)::(g,bz 29)::(f,.cells #[.int .i64 a.aT,.bool a.bg] 54)::(d,bk u0 s1 b c (sl d24 u0.told i))::[]) eb ea dC j.t rfl rfl dK dK gu gw rfl gv (by decide) (by decide) (fun g0 B L k m ec=>?_)
 simp only[List.append_nil,List.cons_append,List.nil_append,List.append_assoc] at m
 subst k
 rw[<-a6] at L;clear a6
 obtain ⟨d214,g1,rfl,g2⟩:=L.len
 have ed:=aL.back (l:=(o,.cells #[.int .i64 a.aT,.bool a.bg] 54)::(g,bz 29)::(f,.cells #[.int .i64 a.aT,.bool a.bg] 54)::(d,bk u0 s1 b c (sl d24 u0.told i))::B) (l':=[]++(B++([(o,.cells #[.int .i64 a.aT,.bool a.bg] 54),(g,bz 29),(f,.cells #[.int .i64 a.aT,.bool a.bg] 54),(d,bk u0 s1 b c (sl d24 u0.told i))]++[]))) [] [(o,.cells #[.int .i64 a.aT,.bool a.bg] 54),(g,bz 29),(f,.cells #[.int .i64 a.aT,.bool a.bg] 54),(d,bk u0 s1 b c (sl d24 u0.told i))] B [] (by first|rfl|simp only[List.append_nil,List.cons_append,List.nil_append,List.append_assoc]|(simp only[List.append_nil,List.cons_append,List.nil_append,List.append_assoc];rfl)) (by first|rfl|simp only[List.append_nil,List.cons_append,List.nil_append,List.append_assoc]|(simp only[List.append_nil,List.cons_append,List.nil_append,List.append_assoc];rfl)) ec
 refine ⟨⟨ro,(o,.cells #[.int .i64 a.aT,.bool a.bg] 54)::(g,bz 29)::(f,.cells #[.int .i64 a.aT,.bool a.bg] 54)::(d,bk u0 s1 b c (sl d24 u0.told i))::B⟩,Le.back [] [(o,.cells #[.int .i64 a.aT,.bool a.bg] 54),(g,bz 29),(f,.cells #[.int .i64 a.aT,.bool a.bg] 54),(d,bk u0 s1 b c (sl d24 u0.told i))] B [] (by first|rfl|simp only[List.append_nil,List.cons_append,List.nil_append,List.append_assoc]|(simp only[List.append_nil,List.cons_append,List.nil_append,List.append_assoc];rfl)) (by first|rfl|simp only[List.append_nil,List.cons_append,List.nil_append,List.append_assoc]|(simp only[List.append_nil,List.cons_append,List.nil_append,List.append_assoc];rfl)),?_⟩
 refine ⟨by simp only[*,go_sem,-h],bU ?_⟩
 revert h;refine bS fun bb eh h=>?_
 obtain ⟨et,bc⟩:=cG eh
 try simp only[*,go_sem,-h]
 refine di (r:=cU) (l:=du) (x:=a) (cs:=#[.int .i64 a.aT,.bool a.bg]) (e2:=54) [(o,.cells #[.int .i64 a.aT,.bool a.bg] 54),(g,bz 29),(f,.cells #[.int .i64 a.aT,.bool a.bg] 54),(d,bk u0 s1 b c (sl d24 u0.told i))] [] L ed et rfl (by simp only[*,go_sem,-h]) a7 rfl rfl dK dK gu gw rfl gv (by decide) (by decide) (fun g3 ev M k m g4=>?_)
 simp only[List.append_nil,List.cons_append,List.nil_append,List.append_assoc] at m
 subst k
 rw[<-bc] at M;clear bc
 obtain ⟨d226,bd,rfl,ha⟩:=M.len
 refine ⟨⟨ro,(o,.cells #[.int .i64 a.aT,.bool a.bg] 54)::(g,bz 29)::(f,.cells #[.int .i64 a.aT,.bool a.bg] 54)::(d,bk u0 s1 b c (sl d24 u0.told i))::ev⟩,Le.refl _,?_⟩
 refine ⟨by simp only[*,go_sem,-h],bU ?_⟩
 try simp only[*,go_sem,-h]
 refine aa hJ ?_
 refine aH hJ fun hc=>?_
 refine af hJ ?_
 simp only[*,go_sem,-h]
 obtain rfl:=sI h
 refine aH hJ fun bj=>?_
 obtain ⟨hf,bl,eQ,bm,eS⟩:=M.dF [(o,.cells #[.int .i64 a.aT,.bool a.bg] 54),(g,bk u0 s1 b c (sl d226 bb bd)),(f,.cells #[.int .i64 a.aT,.bool a.bg] 54),(d,bk u0 s1 b c (sl d226 bb bd))] [] bj (az.cons a7 (az.cons u (az.cons s (az.cons q (az.nil _)))))
 clear bj
 refine cA hJ eS ?_
 obtain ⟨hg,hh,-⟩:=bm.op
 replace j:=j.mono bl
 simp only[aU] at eQ
 refine av ?_
 simp only[*,go_sem]
 exact ⟨_,bl,Le.sub (List.nil_sublist _),_,_,_,_,rfl,⟨j.e,j.p,j.y,bm⟩⟩
def vL (a:(List Int))(b:Int)(st:(Int×(List b6))):Option (Fl (Int×(List b6)) aj):=
 cond (decide (st.1<(a.length:Int))) (ah (bq a st.1) fun c=>ah (cI st.2 ([(⟨c,b⟩:b6)])) fun d=>some (.nx ((IntKind.i64.wrap (st.1+1)),d))) (some (.bk (st.1,st.2)))
def vM (u0:aj)(a:(List Int))(b:Int):Option aj:=
 ah (cI ([]:List b6) u0.props) fun c=>ah (aR (vL a b) fu (0,c)) fun o=>aF o (fun d=>some (⟨u0.bF,u0.bL,u0.aV,u0.aB,d.2,u0.aC,u0.told⟩:aj)) (fun _ _=>none) (fun r=>some r)
theorem Ff {ro:Addr->Option Value}(u0:aj){s1 H a b:Value}(k:bt ro u0 s1 H a b)(w:(List Int)){I:Value}(K:ax rI ro I w)(n:Int){r:aj}(h:vM u0 w n=some r):c9 Tryz.prog 37 #[bv u0 s1 H a b,I,.int .i64 n] ro (fun v aI=>∃L w1 w2 w3,v=bv r L w1 w2 w3/\bt aI r L w1 w2 w3):=by
 obtain ⟨d10,c,rfl,df,dk,-⟩:=id k.p
 obtain ⟨d31,dp,rfl,dq,ds,-⟩:=id K
 unfold vM at h
 have ab:=k.oc;simp only[bw] at ab
 refine aA.go Tryz.func37 rfl Tryz.ntmps37 Tryz.results37 (by simp) fun main J hJ A ad hd hs=>?_
 have ae:=hs 0
 have k1:=hs 1
 have al:=hs 2
 clear hs
 refine aa hJ (af hJ ?_)
 simp only[*,go_sem]
 refine an fun f ao ar=>?_;try simp only[ak] at ar
 refine an fun g a0 a2=>?_;try simp only[ak] at a2
 try simp only[*,go_sem]
 refine aa hJ (af hJ ?_)
 simp only[*,go_sem]
 refine an fun i a3 a4=>?_;try simp only[ak] at a4
 try simp only[*,go_sem]
 refine aa hJ ?_
 refine aH hJ fun a5=>?_
 refine af hJ ?_
 revert h;refine bS fun a6 a7 h=>?_
 obtain ⟨a8,M⟩:=cG a7
 simp only[*,go_sem]
 refine an fun N a9 O=>?_;have ba:=aL.cons O a5;try simp only[ak] at O
 try simp only[*,go_sem]
 have bb:aP ej ro 146 (.slice (some ⟨N,0,none⟩) 0 0) ([]:List b6) [(N,.cells #[] 146)]:=aP.empty a9
 refine lE (r:=ej) (l:=([]:List b6)) (xs:=u0.props) [] ((i,bk u0 s1 (sl d10 u0.props c) a b)::(g,bz 29)::(f,bk u0 s1 (sl d10 u0.props c) a b)::[]) bb ba a8 k.p rfl rfl j9 j9 qR qT rfl qS (by decide) (by decide) (fun dt o z B C bc=>?_)
 simp only[List.append_nil,List.cons_append,List.nil_append,List.append_assoc] at C
 subst B
 rw[<-M] at z;clear M
 obtain ⟨d48,bd,rfl,bj⟩:=z.len
 have du:=aL.back (l:=(i,bk u0 s1 (sl d10 u0.props c) a b)::(g,bz 29)::(f,bk u0 s1 (sl d10 u0.props c) a b)::o) (l':=[]++(o++([(i,bk u0 s1 (sl d10 u0.props c) a b),(g,bz 29),(f,bk u0 s1 (sl d10 u0.props c) a b)]++[]))) [] [(i,bk u0 s1 (sl d10 u0.props c) a b),(g,bz 29),(f,bk u0 s1 (sl d10 u0.props c) a b)] o [] (by first|rfl|simp only[List.append_nil,List.cons_append,List.nil_append,List.append_assoc]|(simp only[List.append_nil,List.cons_append,List.nil_append,List.append_assoc];rfl)) (by first|rfl|simp only[List.append_nil,List.cons_append,List.nil_append,List.append_assoc]|(simp only[List.append_nil,List.cons_append,List.nil_append,List.append_assoc];rfl)) bc
 refine ⟨⟨ro,(i,bk u0 s1 (sl d10 u0.props c) a b)::(g,bz 29)::(f,bk u0 s1 (sl d10 u0.props c) a b)::o⟩,Le.back [] [(i,bk u0 s1 (sl d10 u0.props c) a b),(g,bz 29),(f,bk u0 s1 (sl d10 u0.props c) a b)] o [] (by first|rfl|simp only[List.append_nil,List.cons_append,List.nil_append,List.append_assoc]|(simp only[List.append_nil,List.cons_append,List.nil_append,List.append_assoc];rfl)) (by first|rfl|simp only[List.append_nil,List.cons_append,List.nil_append,List.append_assoc]|(simp only[List.append_nil,List.cons_append,List.nil_append,List.append_assoc];rfl)),?_⟩
 refine aE ?_
 try simp only[*,go_sem]
 refine aa hJ (aa hJ ?_)
 refine aH hJ fun dv=>?_
 refine af hJ ?_
 simp only[*,go_sem]
 refine aM hJ ?_
 revert h;refine bS fun bl s bm=>?_
 refine bM hJ [8,15,16,17,18,19,20,21,22,23,24,25,26,27,28,29,30,31] (fun m bo F'=>∃(d57:Option Addr) (j:Nat) (D:List (Nat×Obj)) (u:Int) (d:(List b6)),aR (vL w n) m (u,d)=some bl/\F'=⟨ro,(i,bk u0 s1 (sl d57 d j) a b)::(g,bz 29)::(f,bk u0 s1 (sl d10 u0.props c) a b)::D⟩/\aP ej ro 146 (.slice d57 d.length j) d D/\d.length<=j/\slot bo 8= .int .i64 u) fu ?_ ?_
 ·refine ⟨d48,bd,o,0,a6,s,rfl,z,bj,?_⟩
  simp only[*,go_sem]
 rintro E dC F' P ⟨d57,j,D,u,d,s,rfl,Q,dE,dT⟩
 obtain ⟨br,bs,b0⟩:=P.pick [1,2,6,7] (by decide)
 simp only[*,go_sem] at br bs b0
 clear P ad hd ae k1 al
 obtain _|E:=E
 ·exact absurd s (by simp only[aR,reduceCtorEq,not_false_eq_true])
 revert s;refine bS fun ea h F=>?_
 unfold vL at h
 try dsimp only at h
 refine aa hJ (aa hJ ?_)
 refine aH hJ fun eb=>?_
 refine af hJ ?_
 simp only[*,go_sem]
 revert h;refine jC hJ (by simp only[*,go_sem]) (fun b1 h=>?_) fun b1 h=>?_
 ·refine aD hJ (aa hJ ?_)
  refine aM hJ ?_
  refine aH hJ fun b2=>?_
  refine iB hJ mixed [11] (.pure 0 (.rd 1 (.pure 2 (.pure 3 (.pure 4 (.rd 5 (.pure 6 (.pure 7 (.one 8 (.one 9 (.pure 10 (.last 11 .done)))))))))))) ⟨ro,[(i,bk u0 s1 (sl d57 d j) a b),(g,bz 29),(f,bk u0 s1 (sl d10 u0.props c) a b)]⟩ (by simp only[*,go_sem]) (by kernel_rfl) ?_
  revert h;refine bS fun q b3 h=>?_
  obtain ⟨ec,ed,R⟩:=bX b3
  obtain ⟨eh,b4,b5,ca,S⟩:=K.el _ _ R
  obtain rfl:b4=[.int .i64 q]:=ca
  cases b5
  have cb:=S 0 _ rfl;simp only[go_sem] at cb
  clear S R
  revert h;refine bS fun cd cf h=>?_
  obtain rfl:=sI h
  obtain ⟨cl,T⟩:=cG cf
  try simp only[*,go_sem]
  refine an fun U cy V=>?_;have cS:=aL.cons V b2;try simp only[ak] at V
  try simp only[*,go_sem]
  refine di (r:=ej) (l:=d) (x:=(⟨q,n⟩:b6)) (cs:=#[.int .i64 q,.int .i64 n]) (e2:=146) [(U,.cells #[.int .i64 q,.int .i64 n] 146),(i,bk u0 s1 (sl d57 d j) a b),(g,bz 29),(f,bk u0 s1 (sl d10 u0.props c) a b)] [] Q cS cl rfl (by simp only[*,go_sem]) cy rfl rfl j9 j9 qR qT rfl qS (by decide) (by decide) (fun et W G B C ev=>?_)
  simp only[List.append_nil,List.cons_append,List.nil_append,List.append_assoc] at C
  subst B
  rw[<-T] at G;clear T
  obtain ⟨d111,c0,rfl,da⟩:=G.len
  refine ⟨⟨ro,(U,.cells #[.int .i64 q,.int .i64 n] 146)::(i,bk u0 s1 (sl d57 d j) a b)::(g,bz 29)::(f,bk u0 s1 (sl d10 u0.props c) a b)::W⟩,Le.refl _,?_⟩
  refine ⟨by simp only[*,go_sem],bU ?_⟩
  try simp only[*,go_sem]
  refine aH hJ fun eQ=>?_
  refine af hJ ?_
  simp only[*,go_sem]
  refine ⟨E,Nat.lt_succ_self _,_,Le.sub (List.Sublist.cons _ (List.Sublist.refl _)),d111,c0,W,(IntKind.i64.wrap (u+1)),cd,F,rfl,G,da,?_⟩
  simp only[*,go_sem]
 obtain rfl:=sI h
 refine bJ ?_
 simp only[go_sem]
 obtain rfl:=sI F;clear F
 have h:=bm
 dsimp only[aF] at h
 obtain rfl:=sI h
 refine aa hJ ?_
 refine aH hJ fun eS=>?_
 refine af hJ ?_
 simp only[*,go_sem]
 refine aH hJ fun X=>?_
 obtain ⟨e0,Y,db,Z,dd⟩:=Q.dF [(i,bk u0 s1 (sl d57 d j) a b),(g,bk u0 s1 (sl d57 d j) a b),(f,bk u0 s1 (sl d10 u0.props c) a b)] [] X (az.cons a3 (az.cons a0 (az.cons ao (az.nil _))))
 clear X
 refine cA hJ dd ?_
 obtain ⟨e1,e3,-⟩:=Z.op
 replace k:=k.mono Y
 simp only[aU] at db
 refine av ?_
 simp only[*,go_sem]
 exact ⟨_,Y,Le.sub (List.nil_sublist _),_,_,_,_,rfl,⟨k.e,Z,k.y,k.t⟩⟩
def se (u0:aj)(a:Int)(c:cr):Option aj:=
 ah (cI ([]:List bV) u0.aC) fun b=>ah (bq b a) fun d=>some (⟨u0.bF,u0.bL,u0.aV,u0.aB,u0.props,(b.set (a).toNat (⟨d.back,c⟩:bV)),u0.told⟩:aj)
theorem Fg {ro:Addr->Option Value}(u0:aj){s1 b B c:Value}(i:bt ro u0 s1 b B c)(s:Int)(a:cr){r:aj}(h:se u0 s a=some r):c9 Tryz.prog 111 #[bv u0 s1 b B c,.int .i64 s,.agg #[.int .i64 a.low,.int .i64 a.high]] ro (fun v aI=>∃C w1 w2 w3,v=bv r C w1 w2 w3/\bt aI r C w1 w2 w3):=by
 obtain ⟨d17,n,rfl,bc,bd,-⟩:=id i.y
 unfold se at h
 have R:=i.oc;simp only[bw] at R
 refine aA.go Tryz.func111 rfl Tryz.ntmps111 Tryz.results111 (by simp) fun main J hJ A bj hd hs=>?_
 have bl:=hs 0
 have k1:=hs 1
 have bm:=hs 2
 clear hs
 refine aa hJ (af hJ ?_)
 simp only[*,go_sem,-h]
 refine an fun d S T=>?_;try simp only[ak] at T
 refine an fun f U V=>?_;try simp only[ak] at V
 refine an fun g W X=>?_;try simp only[ak] at X
 try simp only[*,go_sem,-h]
 refine aa hJ ?_
 refine aH hJ fun Y=>?_
 refine af hJ ?_
 revert h;refine bS fun k Z h=>?_
 obtain ⟨ab,D⟩:=cG Z
 simp only[*,go_sem,-h]
 refine an fun E ad G=>?_;have ae:=aL.cons G Y;try simp only[ak] at G
 try simp only[*,go_sem,-h]
 have al:aP ek ro 148 (.slice (some ⟨E,0,none⟩) 0 0) ([]:List bV) [(E,.cells #[] 148)]:=aP.empty ad
 refine lE (r:=ek) (l:=([]:List bV)) (xs:=u0.aC) [] ((g,bz 29)::(f,.cells #[.int .i64 a.low,.int .i64 a.high] 56)::(d,bk u0 s1 b (sl d17 u0.aC n) c)::[]) al ae ab i.y rfl rfl qQ qQ yK yM rfl yL (by decide) (by decide) (fun bo u w ao ar a0=>?_)
 simp only[List.append_nil,List.cons_append,List.nil_append,List.append_assoc] at ar
 subst ao
 rw[<-D] at w;clear D
 obtain ⟨d41,q,rfl,br⟩:=w.len
 have bs:=aL.back (l:=(g,bz 29)::(f,.cells #[.int .i64 a.low,.int .i64 a.high] 56)::(d,bk u0 s1 b (sl d17 u0.aC n) c)::u) (l':=[]++(u++([(g,bz 29),(f,.cells #[.int .i64 a.low,.int .i64 a.high] 56),(d,bk u0 s1 b (sl d17 u0.aC n) c)]++[]))) [] [(g,bz 29),(f,.cells #[.int .i64 a.low,.int .i64 a.high] 56),(d,bk u0 s1 b (sl d17 u0.aC n) c)] u [] (by first|rfl|simp only[List.append_nil,List.cons_append,List.nil_append,List.append_assoc]|(simp only[List.append_nil,List.cons_append,List.nil_append,List.append_assoc];rfl)) (by first|rfl|simp only[List.append_nil,List.cons_append,List.nil_append,List.append_assoc]|(simp only[List.append_nil,List.cons_append,List.nil_append,List.append_assoc];rfl)) a0
 refine ⟨⟨ro,(g,bz 29)::(f,.cells #[.int .i64 a.low,.int .i64 a.high] 56)::(d,bk u0 s1 b (sl d17 u0.aC n) c)::u⟩,Le.back [] [(g,bz 29),(f,.cells #[.int .i64 a.low,.int .i64 a.high] 56),(d,bk u0 s1 b (sl d17 u0.aC n) c)] u [] (by first|rfl|simp only[List.append_nil,List.cons_append,List.nil_append,List.append_assoc]|(simp only[List.append_nil,List.cons_append,List.nil_append,List.append_assoc];rfl)) (by first|rfl|simp only[List.append_nil,List.cons_append,List.nil_append,List.append_assoc]|(simp only[List.append_nil,List.cons_append,List.nil_append,List.append_assoc];rfl)),?_⟩
 refine aE ?_
 try simp only[*,go_sem,-h]
 refine aa hJ ?_
 refine aH hJ fun a2=>?_
 refine af hJ ?_
 revert h;refine bS fun m a3 h=>?_
 obtain ⟨b0,b1,H⟩:=bX a3
 obtain ⟨j,I,a4,rfl,rfl,b2,a5,x⟩:=w.qZ H
 obtain rfl:a4=m.cells:=a5
 have a6:=a2.nd
 simp only[keys,List.map_cons,List.map_nil,List.map_append,List.cons_append,List.nil_append,List.nodup_cons,List.mem_cons,List.mem_append,List.not_mem_nil,or_false,not_or] at a6
 have K:=x 0 _ rfl;simp only[go_sem] at K;have b3:=(Array.getElem?_eq_some_iff.1 K).1
 have L:=x 1 _ rfl;simp only[go_sem] at L;have b4:=(Array.getElem?_eq_some_iff.1 L).1
 have M:=x 2 _ rfl;simp only[go_sem] at M;have b5:=(Array.getElem?_eq_some_iff.1 M).1
 have N:aP ek ro 148 (.slice (some ⟨j,0,none⟩) k.length q) (k.set (s).toNat (⟨m.back,a⟩:bV)) [(j,Obj.cells (dz I ((s).toNat*3+1) [.int .i64 a.low,.int .i64 a.high]) 148)]:=by have a7:=w.part (y:=(⟨m.back,a⟩:bV)) H 1 [.int .i64 a.low,.int .i64 a.high] [.int .i64 m.back,.int .i64 m.high.low,.int .i64 m.high.high] [.int .i64 m.back,.int .i64 a.low,.int .i64 a.high] x rfl rfl (by simp) rfl;exact a7
 try simp only[*,go_sem,-h]
 refine aa hJ ?_
 obtain ⟨a8,z⟩:∃o,o=(dz I ((s).toNat*3+1) [.int .i64 a.low,.int .i64 a.high]):=⟨_,rfl⟩
 refine cA (F:=⟨ro,(g,bz 29)::(f,.cells #[.int .i64 a.low,.int .i64 a.high] 56)::(d,bk u0 s1 b (sl (some ⟨j,0,none⟩) k q) c)::[(j,Obj.cells a8 148)]⟩) hJ (by rw[z];exact Le.refl _) ?_
 rw[<-z] at N
 clear z
 refine aH hJ fun ca=>?_
 refine af hJ ?_
 simp only[*,go_sem,-h]
 obtain rfl:=sI h
 refine aH hJ fun O=>?_
 obtain ⟨a9,P,ba,Q,bb⟩:=N.dF [(g,bk u0 s1 b (sl (some ⟨j,0,none⟩) k q) c),(f,.cells #[.int .i64 a.low,.int .i64 a.high] 56),(d,bk u0 s1 b (sl (some ⟨j,0,none⟩) k q) c)] [] O (az.cons W (az.cons U (az.cons S (az.nil _))))
 clear O
 refine cA (F:=⟨a9,(g,bk u0 s1 b (sl (some ⟨j,0,none⟩) k q) c)::(f,.cells #[.int .i64 a.low,.int .i64 a.high] 56)::(d,bk u0 s1 b (sl (some ⟨j,0,none⟩) k q) c)::[]⟩) hJ bb ?_
 obtain ⟨cb,cd,-⟩:=Q.op
 replace i:=i.mono P
 simp only[aU] at ba
 refine av ?_
 simp only[*,go_sem]
 exact ⟨_,P,Le.sub (List.nil_sublist _),_,_,_,_,rfl,⟨i.e,i.p,Q,i.t⟩⟩
def vN (u0:aj)(a:(List Int))(st:(Int×(List bx))):Option (Fl (Int×(List bx)) aj):=
 cond (decide (st.1<(a.length:Int))) (ah (bq a st.1) fun b=>ah (bq u0.told b) fun c=>ah (cI st.2 ([c])) fun d=>some (.nx ((IntKind.i64.wrap (st.1+1)),d))) (some (.bk (st.1,st.2)))
def pS (u0:aj)(a:(List Int)):Option aj:=
 ah (aR (vN u0 a) fu (0,([]:List bx))) fun o=>aF o (fun b=>some (⟨u0.bF,u0.bL,u0.aV,u0.aB,u0.props,u0.aC,b.2⟩:aj)) (fun _ _=>none) (fun r=>some r)
theorem Fh {ro:Addr->Option Value}(u0:aj){s1 a b D:Value}(f:bt ro u0 s1 a b D)(s:(List Int)){E:Value}(F:ax rI ro E s){r:aj}(h:pS u0 s=some r):c9 Tryz.prog 100 #[bv u0 s1 a b D,E] ro (fun v aI=>∃G w1 w2 w3,v=bv r G w1 w2 w3/\bt aI r G w1 w2 w3):=by
 obtain ⟨d24,i,rfl,cl,cy,-⟩:=id f.t
 obtain ⟨d31,cS,rfl,c0,da,-⟩:=id F
 unfold pS at h
 have V:=f.oc;simp only[bw] at V
 refine aA.go Tryz.func100 rfl Tryz.ntmps100 Tryz.results100 (by simp) fun main J hJ A W hd hs=>?_
 have X:=hs 0
 have k1:=hs 1
 clear hs
 refine aa hJ (af hJ ?_)
 simp only[*,go_sem]
 refine an fun j Y Z=>?_;try simp only[ak] at Z
 refine an fun k ab ad=>?_;try simp only[ak] at ad
 try simp only[*,go_sem]
 refine aa hJ (af hJ ?_)
 simp only[*,go_sem]
 refine an fun n ae al=>?_;try simp only[ak] at al
 try simp only[*,go_sem]
 refine aa hJ (af hJ ?_)
 simp only[*,go_sem]
 refine aa hJ (aa hJ (af hJ ?_))
 simp only[*,go_sem]
 refine aM hJ ?_
 revert h;refine bS fun ao o ar=>?_
 refine bM hJ [6,9,10,11,12,13,14,15,16,17,18,19,20,21,22,23,24,25,26,27] (fun m a0 F'=>∃(d41:Option Addr) (d:Nat) (u:List (Nat×Obj)) (q:Int) (c:(List bx)),aR (vN u0 s) m (q,c)=some ao/\F'=⟨ro,(n,bk u0 s1 a b (sl d41 c d))::(k,bz 29)::(j,bk u0 s1 a b (sl d24 u0.told i))::u⟩/\aP cU ro 54 (.slice d41 c.length d) c u/\c.length<=d/\slot a0 6= .int .i64 q) fu ?_ ?_
 ·refine ⟨none,0,[],0,([]:List bx),o,rfl,aP.nil _ _ _,Nat.le_refl _,?_⟩
  simp only[*,go_sem]
 rintro w db F' H ⟨d41,d,u,q,c,o,rfl,I,dd,df⟩
 obtain ⟨a2,a3,a4⟩:=H.pick [1,2,4,5] (by decide)
 simp only[*,go_sem] at a2 a3 a4
 clear H W hd X k1
 obtain _|w:=w
 ·exact absurd o (by simp only[aR,reduceCtorEq,not_false_eq_true])
 revert o;refine bS fun dk h z=>?_
 unfold vN at h
 try dsimp only at h
 refine aa hJ (aa hJ ?_)
 refine aH hJ fun dp=>?_
 refine af hJ ?_
 simp only[*,go_sem]
 revert h;refine jC hJ (by simp only[*,go_sem]) (fun a5 h=>?_) fun a5 h=>?_
 ·refine aD hJ (aa hJ ?_)
  refine aM hJ ?_
  refine aH hJ fun a6=>?_
  refine iB hJ mixed [13] (.pure 0 (.rd 1 (.pure 2 (.rd 3 (.pure 4 (.pure 5 (.pure 6 (.rd 7 (.pure 8 (.rd 9 (.one 10 (.one 11 (.pure 12 (.last 13 .done)))))))))))))) ⟨ro,[(n,bk u0 s1 a b (sl d41 c d)),(k,bz 29),(j,bk u0 s1 a b (sl d24 u0.told i))]⟩ (by simp only[*,go_sem]) (by kernel_rfl) ?_
  revert h;refine bS fun a7 a8 h=>?_
  obtain ⟨dq,ds,K⟩:=bX a8
  obtain ⟨dt,a9,ba,bb,L⟩:=F.el _ _ K
  obtain rfl:a9=[.int .i64 a7]:=bb
  cases ba
  have bc:=L 0 _ rfl;simp only[go_sem] at bc
  clear L K
  revert h;refine bS fun g bd h=>?_
  obtain ⟨du,dv,M⟩:=bX bd
  obtain ⟨N,bj,bl,bm,B⟩:=f.t.el _ _ M
  obtain rfl:bj=g.cells:=bm
  cases bl
  have bo:=B 0 _ rfl;simp only[go_sem] at bo
  have br:=B 1 _ rfl;simp only[go_sem] at br
  clear B M
  revert h;refine bS fun bs b0 h=>?_
  obtain rfl:=sI h
  obtain ⟨b1,O⟩:=cG b0
  try simp only[*,go_sem]
  refine an fun P b2 Q=>?_;have b3:=aL.cons Q a6;try simp only[ak] at Q
  try simp only[*,go_sem]
  refine di (r:=cU) (l:=c) (x:=g) (cs:=#[.int .i64 g.aT,.bool g.bg]) (e2:=54) [(P,.cells #[.int .i64 g.aT,.bool g.bg] 54),(n,bk u0 s1 a b (sl d41 c d)),(k,bz 29),(j,bk u0 s1 a b (sl (some N) u0.told i))] [] I b3 b1 rfl (by simp only[*,go_sem]) b2 rfl rfl dK dK gu gw rfl gv (by decide) (by decide) (fun dC R C b4 b5 dE=>?_)
  simp only[List.append_nil,List.cons_append,List.nil_append,List.append_assoc] at b5
  subst b4
  rw[<-O] at C;clear O
  obtain ⟨d105,ca,rfl,cb⟩:=C.len
  refine ⟨⟨ro,(P,.cells #[.int .i64 g.aT,.bool g.bg] 54)::(n,bk u0 s1 a b (sl d41 c d))::(k,bz 29)::(j,bk u0 s1 a b (sl (some N) u0.told i))::R⟩,Le.refl _,?_⟩
  refine ⟨by simp only[*,go_sem],bU ?_⟩
  try simp only[*,go_sem]
  refine aH hJ fun dT=>?_
  refine af hJ ?_
  simp only[*,go_sem]
  refine ⟨w,Nat.lt_succ_self _,_,Le.sub (List.Sublist.cons _ (List.Sublist.refl _)),d105,ca,R,(IntKind.i64.wrap (q+1)),bs,z,rfl,C,cb,?_⟩
  simp only[*,go_sem]
 obtain rfl:=sI h
 refine bJ ?_
 simp only[go_sem]
 obtain rfl:=sI z;clear z
 have h:=ar
 dsimp only[aF] at h
 obtain rfl:=sI h
 refine aa hJ ?_
 refine aH hJ fun ea=>?_
 refine af hJ ?_
 simp only[*,go_sem]
 refine aH hJ fun S=>?_
 obtain ⟨eb,T,cd,U,cf⟩:=I.dF [(n,bk u0 s1 a b (sl d41 c d)),(k,bk u0 s1 a b (sl d41 c d)),(j,bk u0 s1 a b (sl d24 u0.told i))] [] S (az.cons ae (az.cons ab (az.cons Y (az.nil _))))
 clear S
 refine cA hJ cf ?_
 obtain ⟨ec,ed,-⟩:=U.op
 replace f:=f.mono T
 simp only[aU] at cd
 refine av ?_
 simp only[*,go_sem]
 exact ⟨_,T,Le.sub (List.nil_sublist _),_,_,_,_,rfl,⟨f.e,f.p,f.y,U⟩⟩
def vO :Option aj:=
 ah (fJ 1 2) fun a=>ah (pQ 10 12) fun b=>ah (pQ 10 10) fun c=>some (⟨20,2,a,[(⟨0,2⟩:bZ),(⟨8,4⟩:bZ),(⟨14,4⟩:bZ)],([]:(List b6)),[(⟨2,b⟩:bV),(⟨4,c⟩:bV)],([]:(List bx))⟩:aj)
theorem Fi {ro:Addr->Option Value}{r:aj}(h:vO=some r):c9 Tryz.prog 36 #[] ro (fun v aI=>∃m w1 w2 w3,v=bv r m w1 w2 w3/\bt aI r m w1 w2 w3):=by
 unfold vO at h
 refine aA.go Tryz.func36 rfl Tryz.ntmps36 Tryz.results36 (by simp) fun main J hJ A H hd hs=>?_
 clear hs
 refine aa hJ (af hJ ?_)
 simp only[*,go_sem]
 refine an fun n r1 n1=>?_;try simp only[ak] at n1
 try simp only[*,go_sem]
 refine aa hJ ?_
 refine aH hJ fun C=>?_
 refine af hJ ?_
 revert h;refine bS fun g D h=>?_
 simp only[*,go_sem]
 refine aO hJ _ (gA 1 2 D) (aE ?_)
 revert h;refine bS fun a E h=>?_
 try simp only[*,go_sem]
 refine an fun b5 p q=>?_;have F:=aL.cons q C;try simp only[ak] at q
 try simp only[*,go_sem]
 refine aO hJ _ (sd 10 12 E) (aE ?_)
 revert h;refine bS fun c G h=>?_
 obtain rfl:=sI h
 try simp only[*,go_sem]
 refine aO hJ _ (sd 10 10 G) (aE ?_)
 try simp only[*,go_sem]
 refine an fun d i s=>?_;have I:=aL.cons s F;try simp only[ak] at s
 try simp only[*,go_sem]
 refine aH hJ fun t=>?_
 obtain ⟨u,j,w⟩:=fc (b:=b5) (o:=(.cells #[.int .i64 0,.int .i64 2,.int .i64 8,.int .i64 4,.int .i64 14,.int .i64 4] 132)) [(d,.cells #[.int .i64 2,.int .i64 a.low,.int .i64 a.high,.int .i64 4,.int .i64 c.low,.int .i64 c.high] 148)] ((n,.cells #[.int .i64 20,.int .i64 2,.int .i64 g.num,.int .i64 g.den,.slice (some ⟨b5,0,none⟩) 3 3,.slice none 0 0,.slice (some ⟨d,0,none⟩) 2 2,.slice none 0 0] 29)::[]) t p (az.cons i (az.cons r1 (az.nil _)))
 clear t
 have f:ax eN (bO ro b5 (.cells #[.int .i64 0,.int .i64 2,.int .i64 8,.int .i64 4,.int .i64 14,.int .i64 4] 132)) (.slice (some ⟨b5,0,none⟩) 3 3) [(⟨0,2⟩:bZ),(⟨8,4⟩:bZ),(⟨14,4⟩:bZ)]:=(ax.flat (r:=eN) (e:=132) (cs:=#[.int .i64 0,.int .i64 2,.int .i64 8,.int .i64 4,.int .i64 14,.int .i64 4]) bZ.cells ([(⟨0,2⟩:bZ),(⟨8,4⟩:bZ),(⟨14,4⟩:bZ)]) (fun _=>rfl) p rfl (by simp))
 generalize bO ro b5 (.cells #[.int .i64 0,.int .i64 2,.int .i64 8,.int .i64 4,.int .i64 14,.int .i64 4] 132)=x at u j w f
 refine cA hJ w ?_
 obtain ⟨K,L,-⟩:=f.op
 replace i:=j.hd
 replace r1:=j.tl.hd
 simp only[aU] at j
 refine aH hJ fun y=>?_
 obtain ⟨k,z,B⟩:=fc (b:=d) (o:=(.cells #[.int .i64 2,.int .i64 a.low,.int .i64 a.high,.int .i64 4,.int .i64 c.low,.int .i64 c.high] 148)) [] ((n,.cells #[.int .i64 20,.int .i64 2,.int .i64 g.num,.int .i64 g.den,.slice (some ⟨b5,0,none⟩) ([(⟨0,2⟩:bZ),(⟨8,4⟩:bZ),(⟨14,4⟩:bZ)]).length 3,.slice none 0 0,.slice (some ⟨d,0,none⟩) 2 2,.slice none 0 0] 29)::[]) y i (az.cons r1 (az.nil _))
 clear y
 have l:ax ek (bO x d (.cells #[.int .i64 2,.int .i64 a.low,.int .i64 a.high,.int .i64 4,.int .i64 c.low,.int .i64 c.high] 148)) (.slice (some ⟨d,0,none⟩) 2 2) [(⟨2,a⟩:bV),(⟨4,c⟩:bV)]:=(ax.flat (r:=ek) (e:=148) (cs:=#[.int .i64 2,.int .i64 a.low,.int .i64 a.high,.int .i64 4,.int .i64 c.low,.int .i64 c.high]) bV.cells ([(⟨2,a⟩:bV),(⟨4,c⟩:bV)]) (fun _=>rfl) i rfl (by simp))
 generalize bO x d (.cells #[.int .i64 2,.int .i64 a.low,.int .i64 a.high,.int .i64 4,.int .i64 c.low,.int .i64 c.high] 148)=M at k z B l
 refine cA hJ B ?_
 obtain ⟨N,O,-⟩:=l.op
 replace f:=f.mono k
 simp only[aU] at z
 refine av ?_
 simp only[*,go_sem]
 exact ⟨_,(u).trans k,Le.sub (List.nil_sublist _),_,_,_,_,rfl,f,ax.nil _ _,l,ax.nil _ _⟩
def vP (u0:Int)(st:((List Int)×Int)):Option (Fl ((List Int)×Int) (List Int)):=
 cond (decide (st.2<u0)) (ah (cI st.1 ([st.2])) fun a=>some (.nx (a,(IntKind.i64.wrap (st.2+1))))) (some (.bk (st.1,st.2)))
def si (u0:Int):Option (List Int):=
 ah (aR (vP u0) fu (([]:List Int),0)) fun o=>aF o (fun a=>some a.1) (fun _ _=>none) (fun r=>some r)
theorem Fj {ro:Addr->Option Value}(u0:Int){r:(List Int)}(h:si u0=some r):c9 Tryz.prog 97 #[.int .i64 u0] ro (fun v aI=>∃g,v=g/\ax rI aI g r):=by
 unfold si at h
 refine aA.go Tryz.func97 rfl Tryz.ntmps97 Tryz.results97 (by simp) fun main J hJ A u hd hs=>?_
 have w:=hs 0
 clear hs
 refine aa hJ (af hJ ?_)
 simp only[*,go_sem]
 refine aa hJ (af hJ ?_)
 simp only[*,go_sem]
 refine aa hJ (aa hJ (af hJ ?_))
 simp only[*,go_sem]
 refine aM hJ ?_
 revert h;refine bS fun y b z=>?_
 refine bM hJ [3,4,5,6,7,8,9,10,11,12,13] (fun m i F'=>∃(d2:Option Addr) (c3:Nat) (c:List (Nat×Obj)) (v1:(List Int)) (a:Int),aR (vP u0) m (v1,a)=some y/\F'=⟨ro,c⟩/\aP rI ro 3 (.slice d2 v1.length c3) v1 c/\v1.length<=c3/\slot i 3= .slice d2 v1.length c3/\slot i 4= .int .i64 a) fu ?_ ?_
 ·refine ⟨none,0,[],([]:List Int),0,b,rfl,aP.nil _ _ _,Nat.le_refl _,?_⟩
  simp only[*,go_sem]
 rintro d S F' j ⟨d2,c3,c,v1,a,b,rfl,k,T,U,V⟩
 obtain ⟨B,C,D⟩:=j.pick [0,2] (by decide)
 simp only[*,go_sem] at B C D
 clear j u hd w
 obtain _|d:=d
 ·exact absurd b (by simp only[aR,reduceCtorEq,not_false_eq_true])
 revert b;refine bS fun W h e=>?_
 unfold vP at h
 try dsimp only at h
 refine aa hJ (aa hJ ?_)
 refine aH hJ fun X=>?_
 refine af hJ ?_
 simp only[*,go_sem]
 revert h;refine jC hJ (by simp only[*,go_sem]) (fun E h=>?_) fun E h=>?_
 ·refine aD hJ (aa hJ ?_)
  refine aM hJ ?_
  refine aH hJ fun F=>?_
  refine af hJ ?_
  revert h;refine bS fun G H h=>?_
  obtain rfl:=sI h
  obtain ⟨I,n⟩:=cG H
  simp only[*,go_sem]
  refine an fun o K p=>?_;have L:=aL.cons p F;try simp only[ak] at p
  try simp only[*,go_sem]
  refine di (r:=rI) (l:=v1) (x:=a) (cs:=#[.int .i64 a]) (e2:=3) [(o,ic a)] [] k L I rfl (by simp only[*,go_sem]) K rfl rfl dL dL gm gr rfl gq (by decide) (by decide) (fun Y q f M N Z=>?_)
  simp only[List.append_nil,List.cons_append,List.nil_append,List.append_assoc] at N
  subst M
  rw[<-n] at f;clear n
  obtain ⟨d25,O,rfl,P⟩:=f.len
  refine ⟨⟨ro,(o,ic a)::q⟩,Le.refl _,?_⟩
  refine aE ?_
  try simp only[*,go_sem]
  refine aH hJ fun ab=>?_
  refine af hJ ?_
  simp only[*,go_sem]
  refine ⟨d,Nat.lt_succ_self _,_,Le.sub (List.Sublist.cons _ (List.Sublist.refl _)),d25,O,q,G,(IntKind.i64.wrap (a+1)),e,rfl,f,P,?_⟩
  simp only[*,go_sem]
 obtain rfl:=sI h
 refine bJ ?_
 simp only[go_sem]
 obtain rfl:=sI e;clear e
 have h:=z
 dsimp only[aF] at h
 obtain rfl:=sI h
 refine aa hJ ?_
 refine aH hJ fun ad=>?_
 refine af hJ ?_
 simp only[*,go_sem]
 refine aH hJ fun s=>?_
 obtain ⟨ae,Q,al,t,R⟩:=k.dF [] [] s (az.nil _)
 clear s
 refine cA hJ R ?_
 obtain ⟨ao,ar,-⟩:=t.op
 refine av ?_
 simp only[*,go_sem]
 exact ⟨_,Q,Le.sub (List.nil_sublist _),_,rfl,t⟩
def vQ (u0:(List Int))(a:(List Int))(st:(Bool×Int)):Option (Fl (Bool×Int) Bool):=
 cond (decide (st.2<(u0.length:Int))) (cond (decide (st.2<(a.length:Int))) (ah (bq u0 st.2) fun b=>ah (bq a st.2) fun c=>cond ((b != c)) (some (.rt (decide (b<c)))) (some (.nx (st.1,(IntKind.i64.wrap (st.2+1)))))) (some (.bk (st.1,st.2)))) (some (.bk (st.1,st.2)))
def vR (u0:(List Int))(a:(List Int)):Option Bool:=
 ah (aR (vQ u0 a) fu (false,0)) fun o=>aF o (fun b=>some (decide ((u0.length:Int)<(a.length:Int)))) (fun _ _=>none) (fun r=>some r)
theorem Fo {ro:Addr->Option Value}(u0:(List Int)){s1:Value}(i:ax rI ro s1 u0)(e:(List Int)){j:Value}(k:ax rI ro j e){r:Bool}(h:vR u0 e=some r):aA Tryz.prog 141 #[s1,j] ⟨ro,[]⟩ (fun v _=>v= .bool r):=by
 obtain ⟨d3,c4,rfl,R,S,-⟩:=id i
 obtain ⟨d10,T,rfl,U,V,-⟩:=id k
 unfold vR at h
 refine aA.go Tryz.func141 rfl Tryz.ntmps141 Tryz.results141 (by simp) fun main J hJ A t hd hs=>?_
 have u:=hs 0
 have k1:=hs 1
 clear hs
 refine aa hJ (af hJ ?_)
 simp only[*,go_sem]
 refine aa hJ (aa hJ (af hJ ?_))
 simp only[*,go_sem]
 refine aM hJ ?_
 revert h;refine bS fun w b f=>?_
 refine bM hJ [4,5,6,7,8,9,10,11,12,13,14,15,16,17,18,19,20,21,22,23,24,25,26,27,28,29,30,31,32,33,34,35] (fun m l F'=>∃(c:Bool) (d:Int),aR (vQ u0 e) m (c,d)=some w/\F'=⟨ro,[]⟩/\slot l 4= .bool c/\slot l 5= .int .i64 d) fu ?_ ?_
 ·refine ⟨false,0,b,rfl,?_⟩
  simp only[*,go_sem]
 rintro g W F' n ⟨c,d,b,rfl,X,Y⟩
 obtain ⟨x,y,z⟩:=n.pick [0,1] (by decide)
 simp only[*,go_sem] at x y z
 clear n t hd u k1
 obtain _|g:=g
 ·exact absurd b (by simp only[aR,reduceCtorEq,not_false_eq_true])
 revert b;refine bS fun Z h a=>?_
 unfold vQ at h
 try dsimp only at h
 refine aa hJ (aa hJ (af hJ ?_))
 revert h;refine cS (fun B h=>?_) fun B h=>?_
 ·try simp only[*,go_sem]
  revert h;refine jC hJ (by simp only[*,go_sem]) (fun C h=>?_) fun C h=>?_
  ·refine aD hJ (aa hJ ?_)
   refine aM hJ (aa hJ ?_)
   refine cQ hJ mixed 9 0 (by simp only[*,go_sem]) (by kernel_rfl) ?_
   revert h;refine bS fun D E h=>?_
   obtain ⟨ab,ad,o⟩:=bX E
   obtain ⟨ae,F,G,H,p⟩:=i.el _ _ o
   obtain rfl:F=[.int .i64 D]:=H
   cases G
   have I:=p 0 _ rfl;simp only[go_sem] at I
   clear p o
   revert h;refine bS fun K L h=>?_
   obtain ⟨al,ao,q⟩:=bX L
   obtain ⟨ar,M,N,O,s⟩:=k.el _ _ q
   obtain rfl:M=[.int .i64 K]:=O
   cases N
   have P:=s 0 _ rfl;simp only[go_sem] at P
   clear s q
   try simp only[*,go_sem]
   revert h;refine jC hJ (by simp only[*,go_sem]) (fun Q h=>?_) fun Q h=>?_
   ·obtain rfl:=sI h
    refine aa hJ ?_
    refine cQ hJ mixed 10 0 (by simp only[*,go_sem]) (by kernel_rfl) ?_
    simp only[*,go_sem]
    obtain rfl:=sI a;clear a
    have h:=f
    dsimp only[aF] at h
    obtain rfl:=sI h
    refine av ?_
    simp only[*,go_sem]
   obtain rfl:=sI h
   refine aD hJ (af hJ ?_)
   simp only[*,go_sem]
   refine ⟨g,Nat.lt_succ_self _,_,Le.sub (List.Sublist.refl _),c,(IntKind.i64.wrap (d+1)),a,rfl,?_⟩
   simp only[*,go_sem]
  obtain rfl:=sI h
  refine bJ ?_
  simp only[go_sem]
  obtain rfl:=sI a;clear a
  have h:=f
  dsimp only[aF] at h
  obtain rfl:=sI h
  refine aa hJ (af hJ ?_)
  simp only[*,go_sem]
  refine av ?_
  simp only[*,go_sem]
 obtain rfl:=sI h
 try simp only[*,go_sem]
 refine bI hJ (by simp only[*,go_sem]) ?_
 refine bJ ?_
 simp only[go_sem]
 obtain rfl:=sI a;clear a
 have h:=f
 dsimp only[aF] at h
 obtain rfl:=sI h
 refine aa hJ (af hJ ?_)
 simp only[*,go_sem]
 refine av ?_
 simp only[*,go_sem]
def kE (u0:(List Int))(a:(List Int)):Option Bool:=
 cond (decide ((u0.length:Int)<(a.length:Int))) (some true) (cond (((u0.length:Int)==(a.length:Int))) (ah (vR u0 a) fun b=>some b) (some false))
theorem Fp {ro:Addr->Option Value}(u0:(List Int)){s1:Value}(d:ax rI ro s1 u0)(a:(List Int)){e:Value}(f:ax rI ro e a){r:Bool}(h:kE u0 a=some r):aA Tryz.prog 99 #[s1,e] ⟨ro,[]⟩ (fun v _=>v= .bool r):=by
 obtain ⟨d3,c4,rfl,i,j,-⟩:=id d
 obtain ⟨d10,k,rfl,l,m,-⟩:=id f
 unfold kE at h
 refine aA.go Tryz.func99 rfl Tryz.ntmps99 Tryz.results99 (by simp) fun main J hJ A n hd hs=>?_
 have o:=hs 0
 have k1:=hs 1
 clear hs
 refine aa hJ (af hJ ?_)
 simp only[*,go_sem,-h]
 refine aa hJ (af hJ ?_)
 revert h;refine cS (fun b h=>?_) fun b h=>?_
 ·try simp only[Int.ofNat_lt] at b
  try simp only[*,go_sem,-h]
  obtain rfl:=sI h
  refine av ?_
  simp only[*,go_sem]
 try simp only[Int.ofNat_lt] at b
 revert h;refine cS (fun c h=>?_) fun c h=>?_
 ·try simp only[Int.ofNat_lt] at c
  revert h;refine bS fun p g h=>?_
  try simp only[*,go_sem,-h]
  refine aO hJ _ (Fo u0 (d.mono aN) a (f.mono aN) g) (aE ?_)
  try simp only[*,go_sem,-h]
  obtain rfl:=sI h
  refine av ?_
  simp only[*,go_sem]
 try simp only[Int.ofNat_lt] at c
 try simp only[*,go_sem,-h]
 obtain rfl:=sI h
 refine av ?_
 simp only[*,go_sem]
def pU (u0:aj)(st:(Int×Int)):Option (Fl (Int×Int) Int):=
 cond (decide (st.2<(u0.aB.length:Int))) (ah (bq u0.aB st.2) fun a=>ah (eG a.aK 0 (IntKind.i64.wrap (u0.bF - 1))) fun b=>cond (!b) (some (.rt 1)) (ah (eG a.high 0 60) fun c=>cond (!c) (some (.rt 1)) (cond (decide (0<st.2)) (ah (bq u0.aB (IntKind.i64.wrap (st.2 - 1))) fun d=>cond (decide (a.aK<=d.aK)) (some (.rt 7)) (some (.nx (st.1,(IntKind.i64.wrap (st.2+1)))))) (some (.nx (st.1,(IntKind.i64.wrap (st.2+1)))))))) (some (.bk (st.1,st.2)))
def l5 (u0:aj):Option Int:=
 ah (eG (u0.aB.length:Int) 2 5) fun a=>cond (!a) (some 2) (ah (aR (pU u0) fu (0,0)) fun o=>aF o (fun b=>some 0) (fun _ _=>none) (fun r=>some r))
theorem Fq {ro:Addr->Option Value}(u0:aj){s1 i j k:Value}(l:bt ro u0 s1 i j k){r:Int}(h:l5 u0=some r):aA Tryz.prog 61 #[bv u0 s1 i j k] ⟨ro,[]⟩ (fun v _=>v= .int .i64 r):=by
 obtain ⟨d3,c4,rfl,al,ao,-⟩:=id l.e
 unfold l5 at h
 refine aA.go Tryz.func61 rfl Tryz.ntmps61 Tryz.results61 (by simp) fun main J hJ A w hd hs=>?_
 have x:=hs 0
 clear hs
 refine aa hJ (af hJ ?_)
 simp only[*,go_sem]
 refine an fun y ar z=>?_;try simp only[ak] at z
 try simp only[*,go_sem]
 refine aa hJ (aa hJ (af hJ ?_))
 revert h;refine bS fun a0 B h=>?_
 simp only[*,go_sem]
 refine aO hJ _ (gR (u0.aB.length:Int) 2 5 B) (aE ?_)
 try simp only[*,go_sem]
 revert h;refine jC hJ (by simp only[*,go_sem]) (fun C h=>?_) fun C h=>?_
 ·obtain rfl:=sI h
  refine aa hJ (af hJ ?_)
  simp only[*,go_sem]
  refine av ?_
  simp only[*,go_sem]
 refine aD hJ (aa hJ ?_)
 refine aa hJ (af hJ ?_)
 simp only[*,go_sem]
 refine aM hJ ?_
 revert h;refine bS fun D d f=>?_
 refine bM hJ [2,3,4,10,11,12,13,14,15,16,17,18,19,20,21,22,23,24,25,26,27,28,29,30,31,32,33,34,35,36,37,38,39,40,41,42,43,44,45,46,47,48] (fun m q F'=>∃(b:Int) (c:Int),aR (pU u0) m (b,c)=some D/\F'=⟨ro,(y,bk u0 (sl d3 u0.aB c4) i j k)::[]⟩/\slot q 2= .int .i64 b/\slot q 3= .int .i64 c) fu ?_ ?_
 ·refine ⟨0,0,d,rfl,?_⟩
  simp only[*,go_sem]
 rintro g a2 F' s ⟨b,c,d,rfl,a3,a4⟩
 obtain ⟨E,F,G⟩:=s.pick [1] (by decide)
 simp only[*,go_sem] at E F G
 clear s w hd x
 obtain _|g:=g
 ·exact absurd d (by simp only[aR,reduceCtorEq,not_false_eq_true])
 revert d;refine bS fun a5 h a=>?_
 unfold pU at h
 try dsimp only at h
 refine aa hJ (aa hJ (af hJ ?_))
 simp only[*,go_sem]
 revert h;refine jC hJ (by simp only[*,go_sem]) (fun H h=>?_) fun H h=>?_
 ·refine aD hJ (aa hJ ?_)
  refine aM hJ (aa hJ ?_)
  refine af hJ ?_
  revert h;refine bS fun n I h=>?_
  obtain ⟨a6,a7,t⟩:=bX I
  obtain ⟨a8,K,L,M,o⟩:=l.e.el _ _ t
  obtain rfl:K=n.cells:=M
  cases L
  have N:=o 0 _ rfl;simp only[go_sem] at N
  have O:=o 1 _ rfl;simp only[go_sem] at O
  clear o t
  try simp only[*,go_sem]
  refine an fun a9 ba P=>?_;try simp only[ak] at P
  try simp only[*,go_sem]
  refine aa hJ (aa hJ (af hJ ?_))
  revert h;refine bS fun bb Q h=>?_
  simp only[*,go_sem]
  refine aO hJ _ (gR n.aK 0 (IntKind.i64.wrap (u0.bF - 1)) Q) (aE ?_)
  revert h;refine cS (fun R h=>?_) fun R h=>?_
  ·obtain rfl:=sI h
   try simp only[*,go_sem]
   refine bD hJ (by simp only[*,go_sem]) ?_
   refine aa hJ (af hJ ?_)
   simp only[*,go_sem]
   obtain rfl:=sI a;clear a
   have h:=f
   dsimp only[aF] at h
   obtain rfl:=sI h
   refine av ?_
   simp only[*,go_sem]
  revert h;refine bS fun bc S h=>?_
  try simp only[*,go_sem]
  refine aO hJ _ (gR n.high 0 60 S) (aE ?_)
  try simp only[*,go_sem]
  revert h;refine jC hJ (by simp only[*,go_sem]) (fun T h=>?_) fun T h=>?_
  ·obtain rfl:=sI h
   refine aa hJ (af hJ ?_)
   simp only[*,go_sem]
   obtain rfl:=sI a;clear a
   have h:=f
   dsimp only[aF] at h
   obtain rfl:=sI h
   refine av ?_
   simp only[*,go_sem]
  refine aD hJ (aa hJ ?_)
  refine cQ hJ mixed 14 2 (by simp only[*,go_sem]) (by kernel_rfl) ?_
  revert h;refine cS (fun U h=>?_) fun U h=>?_
  ·revert h;refine bS fun V W h=>?_
   obtain ⟨bd,bj,u⟩:=bX W
   obtain ⟨bl,X,Y,Z,p⟩:=l.e.el _ _ u
   obtain rfl:X=V.cells:=Z
   cases Y
   have ab:=p 0 _ rfl;simp only[go_sem] at ab
   have ad:=p 1 _ rfl;simp only[go_sem] at ad
   clear p u
   try simp only[*,go_sem]
   revert h;refine jC hJ (by simp only[*,go_sem]) (fun ae h=>?_) fun ae h=>?_
   ·obtain rfl:=sI h
    refine aa hJ (af hJ ?_)
    simp only[*,go_sem]
    obtain rfl:=sI a;clear a
    have h:=f
    dsimp only[aF] at h
    obtain rfl:=sI h
    refine av ?_
    simp only[*,go_sem]
   obtain rfl:=sI h
   refine aD hJ (af hJ ?_)
   simp only[*,go_sem]
   refine ⟨g,Nat.lt_succ_self _,_,Le.sub (List.Sublist.cons _ (List.Sublist.refl _)),b,(IntKind.i64.wrap (c+1)),a,rfl,?_⟩
   simp only[*,go_sem]
  obtain rfl:=sI h
  try simp only[*,go_sem]
  refine bI hJ (by simp only[*,go_sem]) ?_
  refine aD hJ (af hJ ?_)
  simp only[*,go_sem]
  refine ⟨g,Nat.lt_succ_self _,_,Le.sub (List.Sublist.cons _ (List.Sublist.refl _)),b,(IntKind.i64.wrap (c+1)),a,rfl,?_⟩
  simp only[*,go_sem]
 obtain rfl:=sI h
 refine bJ ?_
 simp only[go_sem]
 obtain rfl:=sI a;clear a
 have h:=f
 dsimp only[aF] at h
 obtain rfl:=sI h
 refine aa hJ (af hJ ?_)
 simp only[*,go_sem]
 refine av ?_
 simp only[*,go_sem]
def zU (u0:aj)(st:(Int×Int)):Option (Fl (Int×Int) Int):=
 cond (decide (st.2<(u0.told.length:Int))) (ah (bq u0.told st.2) fun a=>ah (lU u0 a.aT) fun b=>cond (!b) (some (.rt 6)) (some (.nx (st.1,(IntKind.i64.wrap (st.2+1)))))) (some (.bk (st.1,st.2)))
def zV (u0:aj)(st:(Int×Int)):Option (Fl (Int×Int) Int):=
 cond (decide (st.2<(u0.aC.length:Int))) (ah (bq u0.aC st.2) fun a=>ah (eG a.back 1 20) fun b=>cond (!b) (some (.rt 1)) (ah (kC a.high 0 60) fun c=>cond (!c) (some (.rt 1)) (cond (decide (3<=(IntKind.i64.wrap (a.high.high - a.high.low)))) (some (.rt 1)) (some (.nx (st.1,(IntKind.i64.wrap (st.2+1)))))))) (some (.bk (st.1,st.2)))
def pV (u0:aj)(st:(Int×Int)):Option (Fl (Int×Int) Int):=
 cond (decide (st.2<(u0.props.length:Int))) (ah (bq u0.props st.2) fun a=>ah (lT u0 a.place) fun b=>cond (!b) (some (.rt 6)) (ah (eG a.cV 1 20) fun c=>cond (!c) (some (.rt 1)) (some (.nx (st.1,(IntKind.i64.wrap (st.2+1))))))) (some (.bk (st.1,st.2)))
def vS (u0:aj)(st:(Int×Int)):Option (Fl (Int×Int) Int):=
 cond (decide (st.2<(u0.aC.length:Int))) (ah (bq u0.aC st.2) fun a=>ah (eG a.back 1 20) fun b=>cond (!b) (some (.rt 1)) (ah (kC a.high 0 60) fun c=>cond (!c) (some (.rt 1)) (cond (decide (3<=(IntKind.i64.wrap (a.high.high - a.high.low)))) (some (.rt 1)) (some (.nx (st.1,(IntKind.i64.wrap (st.2+1)))))))) (some (.bk (st.1,st.2)))
def vT (u0:aj)(st:(Int×Int)):Option (Fl (Int×Int) Int):=
 cond (decide (st.2<(u0.told.length:Int))) (ah (bq u0.told st.2) fun a=>ah (lU u0 a.aT) fun b=>cond (!b) (some (.rt 6)) (some (.nx (st.1,(IntKind.i64.wrap (st.2+1)))))) (some (.bk (st.1,st.2)))
def l6 (u0:aj):Option Int:=
 cond (decide (3<(u0.props.length:Int))) (some 2) (ah (aR (pV u0) fu (0,0)) fun o=>aF o (fun a=>ah (eG (u0.aC.length:Int) 1 3) fun b=>cond (!b) (some 2) (ah (aR (vS u0) fu (a.1,0)) fun o=>aF o (fun c=>cond (decide (3<(u0.told.length:Int))) (some 2) (ah (aR (vT u0) fu (c.1,0)) fun o=>aF o (fun d=>some 0) (fun _ _=>none) (fun r=>some r))) (fun _ _=>none) (fun r=>some r))) (fun _ _=>none) (fun r=>some r))
theorem Fs {ro:Addr->Option Value}(u0:aj){s1 N O P:Value}(b:bt ro u0 s1 N O P){r:Int}(h:l6 u0=some r):aA Tryz.prog 62 #[bv u0 s1 N O P] ⟨ro,[]⟩ (fun v _=>v= .int .i64 r):=by
 obtain ⟨d10,w,rfl,ec,ed,-⟩:=id b.p
 obtain ⟨d17,x,rfl,eh,et,-⟩:=id b.y
 obtain ⟨d24,z,rfl,ev,eQ,-⟩:=id b.t
 unfold l6 at h
 refine aA.go Tryz.func62 rfl Tryz.ntmps62 Tryz.results62 (by simp) fun main J hJ A ao hd hs=>?_
 have ar:=hs 0
 clear hs
 refine aa hJ (af hJ ?_)
 simp only[*,go_sem]
 refine an fun B eS a0=>?_;try simp only[ak] at a0
 try simp only[*,go_sem]
 refine aa hJ (aa hJ (af hJ ?_))
 simp only[*,go_sem]
 revert h;refine jC hJ (by simp only[*,go_sem]) (fun a2 h=>?_) fun a2 h=>?_
 ·obtain rfl:=sI h
  refine aa hJ (af hJ ?_)
  simp only[*,go_sem]
  refine av ?_
  simp only[*,go_sem]
 refine aD hJ (aa hJ ?_)
 refine aa hJ (af hJ ?_)
 simp only[*,go_sem]
 refine aM hJ ?_
 revert h;refine bS fun a3 i C=>?_
 refine bM hJ [2,3,11,12,13,14,15,16,17,18,19,20,21,22,23,24,25,26,27,28,29,30,31,32,33,34] (fun m c F'=>∃(e:Int) (j:Int),aR (pV u0) m (e,j)=some a3/\F'=⟨ro,(B,bk u0 s1 (sl d10 u0.props w) (sl d17 u0.aC x) (sl d24 u0.told z))::[]⟩/\slot c 2= .int .i64 e/\slot c 3= .int .i64 j) fu ?_ ?_
 ·refine ⟨0,0,i,rfl,?_⟩
  simp only[*,go_sem]
 rintro D e0 F' Q ⟨e,j,i,rfl,a4,a5⟩
 obtain ⟨R,S,T⟩:=Q.pick [1] (by decide)
 simp only[*,go_sem] at R S T
 clear Q ao hd ar
 obtain _|D:=D
 ·exact absurd i (by simp only[aR,reduceCtorEq,not_false_eq_true])
 revert i;refine bS fun e1 h d=>?_
 unfold pV at h
 try dsimp only at h
 refine aa hJ (aa hJ (af hJ ?_))
 simp only[*,go_sem]
 revert h;refine jC hJ (by simp only[*,go_sem]) (fun a6 h=>?_) fun a6 h=>?_
 ·refine aD hJ (aa hJ ?_)
  refine aM hJ (aa hJ ?_)
  refine aa hJ ?_
  refine cQ hJ mixed 9 1 (by simp only[*,go_sem]) (by kernel_rfl) ?_
  revert h;refine bS fun E a7 h=>?_
  obtain ⟨e2,e3,U⟩:=bX a7
  obtain ⟨fa,a8,a9,ba,G⟩:=b.p.el _ _ U
  obtain rfl:a8=E.cells:=ba
  cases a9
  have bb:=G 0 _ rfl;simp only[go_sem] at bb
  have bc:=G 1 _ rfl;simp only[go_sem] at bc
  clear G U
  revert h;refine bS fun fb bd h=>?_
  try simp only[*,go_sem]
  refine ⟨_,bB hJ fun F H=>Fb u0 (b.mono (bQ H)) E.place bd,cc ?_⟩
  try simp only[*,go_sem]
  revert h;refine jC hJ (by simp only[*,go_sem]) (fun bj h=>?_) fun bj h=>?_
  ·obtain rfl:=sI h
   refine aa hJ (af hJ ?_)
   simp only[*,go_sem]
   obtain rfl:=sI d;clear d
   have h:=C
   dsimp only[aF] at h
   obtain rfl:=sI h
   refine av ?_
   simp only[*,go_sem]
  refine aD hJ (aa hJ ?_)
  refine af hJ ?_
  revert h;refine bS fun fg bl h=>?_
  simp only[*,go_sem]
  refine aO hJ _ (gR E.cV 1 20 bl) (aE ?_)
  try simp only[*,go_sem]
  revert h;refine jC hJ (by simp only[*,go_sem]) (fun bm h=>?_) fun bm h=>?_
  ·obtain rfl:=sI h
   refine aa hJ (af hJ ?_)
   simp only[*,go_sem]
   obtain rfl:=sI d;clear d
   have h:=C
   dsimp only[aF] at h
   obtain rfl:=sI h
   refine av ?_
   simp only[*,go_sem]
  obtain rfl:=sI h
  refine aD hJ (af hJ ?_)
  simp only[*,go_sem]
  refine ⟨D,Nat.lt_succ_self _,_,Le.sub (List.Sublist.refl _),e,(IntKind.i64.wrap (j+1)),d,rfl,?_⟩
  simp only[*,go_sem]
 obtain rfl:=sI h
 refine bJ ?_
 simp only[go_sem]
 obtain rfl:=sI d;clear d
 have h:=C
 dsimp only[aF] at h
 refine aa hJ (aa hJ (af hJ ?_))
 revert h;refine bS fun fi bo h=>?_
 simp only[*,go_sem]
 refine aO hJ _ (gR (u0.aC.length:Int) 1 3 bo) (aE ?_)
 try simp only[*,go_sem]
 revert h;refine jC hJ (by simp only[*,go_sem]) (fun br h=>?_) fun br h=>?_
 ·obtain rfl:=sI h
  refine aa hJ (af hJ ?_)
  simp only[*,go_sem]
  refine av ?_
  simp only[*,go_sem]
 refine aD hJ (aa hJ ?_)
 refine aa hJ (af hJ ?_)
 simp only[*,go_sem]
 refine aM hJ ?_
 revert h;refine bS fun bs k l=>?_
 refine bM hJ [2,4,5,40,41,42,43,44,45,46,47,48,49,50,51,52,53,54,55,56,57,58,59,60,61,62,63,64,65,66,67,68,69,70,71] (fun m c F'=>∃(f:Int) (n:Int),aR (zV u0) m (f,n)=some bs/\F'=⟨ro,(B,bk u0 s1 (sl d10 u0.props w) (sl d17 u0.aC x) (sl d24 u0.told z))::[]⟩/\slot c 2= .int .i64 f/\slot c 4= .int .i64 n) fu ?_ ?_
 ·refine ⟨e,0,k,rfl,?_⟩
  simp only[*,go_sem]
 rintro I fp F' V ⟨f,n,k,rfl,bz,b0⟩
 obtain ⟨W,X,Y⟩:=V.pick [1] (by decide)
 simp only[*,go_sem] at W X Y
 clear V R S T a4 a5
 obtain _|I:=I
 ·exact absurd k (by simp only[aR,reduceCtorEq,not_false_eq_true])
 revert k;refine bS fun fr h a=>?_
 unfold zV at h
 try dsimp only at h
 refine aa hJ (aa hJ (af hJ ?_))
 simp only[*,go_sem]
 revert h;refine jC hJ (by simp only[*,go_sem]) (fun b1 h=>?_) fun b1 h=>?_
 ·refine aD hJ (aa hJ ?_)
  refine aM hJ (aa hJ ?_)
  refine af hJ ?_
  revert h;refine bS fun K b2 h=>?_
  obtain ⟨fs,ft,Z⟩:=bX b2
  obtain ⟨fv,b3,b4,b5,o⟩:=b.y.el _ _ Z
  obtain rfl:b3=K.cells:=b5
  cases b4
  have ca:=o 0 _ rfl;simp only[go_sem] at ca
  have cb:=o 1 _ rfl;simp only[go_sem] at cb
  have cd:=o 2 _ rfl;simp only[go_sem] at cd
  clear o Z
  try simp only[*,go_sem]
  refine an fun fw fx cf=>?_;try simp only[ak] at cf
  try simp only[*,go_sem]
  refine aa hJ (af hJ ?_)
  revert h;refine bS fun gg cl h=>?_
  simp only[*,go_sem]
  refine aO hJ _ (gR K.back 1 20 cl) (aE ?_)
  revert h;refine cS (fun cy h=>?_) fun cy h=>?_
  ·obtain rfl:=sI h
   try simp only[*,go_sem]
   refine bD hJ (by simp only[*,go_sem]) ?_
   refine aa hJ (af hJ ?_)
   simp only[*,go_sem]
   obtain rfl:=sI a;clear a
   have h:=l
   dsimp only[aF] at h
   obtain rfl:=sI h
   refine av ?_
   simp only[*,go_sem]
  revert h;refine bS fun gl c0 h=>?_
  try simp only[*,go_sem]
  refine aO hJ _ (zS K.high 0 60 c0) (aE ?_)
  revert h;refine cS (fun da h=>?_) fun da h=>?_
  ·obtain rfl:=sI h
   try simp only[*,go_sem]
   refine bD hJ (by simp only[*,go_sem]) ?_
   refine aa hJ (af hJ ?_)
   simp only[*,go_sem]
   obtain rfl:=sI a;clear a
   have h:=l
   dsimp only[aF] at h
   obtain rfl:=sI h
   refine av ?_
   simp only[*,go_sem]
  try simp only[*,go_sem]
  revert h;refine jC hJ (by simp only[*,go_sem]) (fun db h=>?_) fun db h=>?_
  ·obtain rfl:=sI h
   refine aa hJ (af hJ ?_)
   simp only[*,go_sem]
   obtain rfl:=sI a;clear a
   have h:=l
   dsimp only[aF] at h
   obtain rfl:=sI h
   refine av ?_
   simp only[*,go_sem]
  obtain rfl:=sI h
  refine aD hJ (af hJ ?_)
  simp only[*,go_sem]
  refine ⟨I,Nat.lt_succ_self _,_,Le.sub (List.Sublist.cons _ (List.Sublist.refl _)),f,(IntKind.i64.wrap (n+1)),a,rfl,?_⟩
  simp only[*,go_sem]
 obtain rfl:=sI h
 refine bJ ?_
 simp only[go_sem]
 obtain rfl:=sI a;clear a
 have h:=l
 dsimp only[aF] at h
 refine aa hJ (aa hJ (af hJ ?_))
 simp only[*,go_sem]
 revert h;refine jC hJ (by simp only[*,go_sem]) (fun dd h=>?_) fun dd h=>?_
 ·obtain rfl:=sI h
  refine aa hJ (af hJ ?_)
  simp only[*,go_sem]
  refine av ?_
  simp only[*,go_sem]
 refine aD hJ (aa hJ ?_)
 refine aa hJ (af hJ ?_)
 simp only[*,go_sem]
 refine aM hJ ?_
 revert h;refine bS fun df q ab=>?_
 refine bM hJ [2,6,76,77,78,79,80,81,82,83,84,85,86,87,88,89,90,91] (fun m c F'=>∃(s:Int) (u:Int),aR (zU u0) m (s,u)=some df/\F'=⟨ro,(B,bk u0 s1 (sl d10 u0.props w) (sl d17 u0.aC x) (sl d24 u0.told z))::[]⟩/\slot c 2= .int .i64 s/\slot c 6= .int .i64 u) fu ?_ ?_
 ·refine ⟨f,0,q,rfl,?_⟩
  simp only[*,go_sem]
 rintro L gn F' ad ⟨s,u,q,rfl,gp,gB⟩
 obtain ⟨dk,dp,dq⟩:=ad.pick [1] (by decide)
 simp only[*,go_sem] at dk dp dq
 clear ad W X Y bz b0
 obtain _|L:=L
 ·exact absurd q (by simp only[aR,reduceCtorEq,not_false_eq_true])
 revert q;refine bS fun gC h g=>?_
 unfold zU at h
 try dsimp only at h
 refine aa hJ (aa hJ (af hJ ?_))
 simp only[*,go_sem]
 revert h;refine jC hJ (by simp only[*,go_sem]) (fun ds h=>?_) fun ds h=>?_
 ·refine aD hJ (aa hJ ?_)
  refine aM hJ (aa hJ ?_)
  refine cQ hJ mixed 9 1 (by simp only[*,go_sem]) (by kernel_rfl) ?_
  revert h;refine bS fun ae dt h=>?_
  obtain ⟨gM,gT,al⟩:=bX dt
  obtain ⟨gV,du,dv,dC,M⟩:=b.t.el _ _ al
  obtain rfl:du=ae.cells:=dC
  cases dv
  have dE:=M 0 _ rfl;simp only[go_sem] at dE
  have dT:=M 1 _ rfl;simp only[go_sem] at dT
  clear M al
  revert h;refine bS fun g0 ea h=>?_
  try simp only[*,go_sem]
  refine ⟨_,bB hJ fun F H=>zQ u0 (b.mono (bQ H)) ae.aT ea,cc ?_⟩
  try simp only[*,go_sem]
  revert h;refine jC hJ (by simp only[*,go_sem]) (fun eb h=>?_) fun eb h=>?_
  ·obtain rfl:=sI h
   refine aa hJ (af hJ ?_)
   simp only[*,go_sem]
   obtain rfl:=sI g;clear g
   have h:=ab
   dsimp only[aF] at h
   obtain rfl:=sI h
   refine av ?_
   simp only[*,go_sem]
  obtain rfl:=sI h
  refine aD hJ (af hJ ?_)
  simp only[*,go_sem]
  refine ⟨L,Nat.lt_succ_self _,_,Le.sub (List.Sublist.refl _),s,(IntKind.i64.wrap (u+1)),g,rfl,?_⟩
  simp only[*,go_sem]
 obtain rfl:=sI h
 refine bJ ?_
 simp only[go_sem]
 obtain rfl:=sI g;clear g
 have h:=ab
 dsimp only[aF] at h
 obtain rfl:=sI h
 refine aa hJ (af hJ ?_)
 simp only[*,go_sem]
 refine av ?_
 simp only[*,go_sem]
def gD (u0:aj):Option Int:=
 ah (eG u0.bF 2 60) fun c=>cond (!c) (some 1) (ah (eG u0.bL 0 60) fun d=>cond (!d) (some 1) (ah (eG u0.aV.den 1 20) fun e=>cond (!e) (some 1) (ah (eG u0.aV.num 0 20) fun f=>cond (!f) (some 1) (ah (gS u0.aV.num u0.aV.den) fun a=>cond (!((a.num==u0.aV.num)&&(a.den==u0.aV.den))) (some 3) (ah (l5 u0) fun b=>cond ((b != 0)) (some b) (ah (l6 u0) fun g=>some g))))))
theorem sj {ro:Addr->Option Value}(u0:aj){s1 a b c:Value}(d:bt ro u0 s1 a b c){r:Int}(h:gD u0=some r):aA Tryz.prog 13 #[bv u0 s1 a b c] ⟨ro,[]⟩ (fun v _=>v= .int .i64 r):=by
 unfold gD at h
 refine aA.go Tryz.func13 rfl Tryz.ntmps13 Tryz.results13 (by simp) fun main J hJ A e hd hs=>?_
 have f:=hs 0
 clear hs
 refine aa hJ (af hJ ?_)
 simp only[*,go_sem]
 refine an fun E G g=>?_;try simp only[ak] at g
 try simp only[*,go_sem]
 refine aa hJ (aa hJ (af hJ ?_))
 revert h;refine bS fun H i h=>?_
 simp only[*,go_sem]
 refine aO hJ _ (gR u0.bF 2 60 i) (aE ?_)
 revert h;refine cS (fun j h=>?_) fun j h=>?_
 ·obtain rfl:=sI h
  try simp only[*,go_sem]
  refine bD hJ (by simp only[*,go_sem]) ?_
  refine aa hJ (af hJ ?_)
  simp only[*,go_sem]
  refine av ?_
  simp only[*,go_sem]
 revert h;refine bS fun I k h=>?_
 try simp only[*,go_sem]
 refine aO hJ _ (gR u0.bL 0 60 k) (aE ?_)
 revert h;refine cS (fun l h=>?_) fun l h=>?_
 ·obtain rfl:=sI h
  try simp only[*,go_sem]
  refine bD hJ (by simp only[*,go_sem]) ?_
  refine aa hJ (af hJ ?_)
  simp only[*,go_sem]
  refine av ?_
  simp only[*,go_sem]
 revert h;refine bS fun K m h=>?_
 try simp only[*,go_sem]
 refine aO hJ _ (gR u0.aV.den 1 20 m) (aE ?_)
 revert h;refine cS (fun n h=>?_) fun n h=>?_
 ·obtain rfl:=sI h
  try simp only[*,go_sem]
  refine bD hJ (by simp only[*,go_sem]) ?_
  refine aa hJ (af hJ ?_)
  simp only[*,go_sem]
  refine av ?_
  simp only[*,go_sem]
 revert h;refine bS fun L o h=>?_
 try simp only[*,go_sem]
 refine aO hJ _ (gR u0.aV.num 0 20 o) (aE ?_)
 try simp only[*,go_sem]
 revert h;refine jC hJ (by simp only[*,go_sem]) (fun p h=>?_) fun p h=>?_
 ·obtain rfl:=sI h
  refine aa hJ (af hJ ?_)
  simp only[*,go_sem]
  refine av ?_
  simp only[*,go_sem]
 refine aD hJ (aa hJ ?_)
 refine aa hJ ?_
 refine cQ hJ mixed 10 1 (by simp only[*,go_sem]) (by kernel_rfl) ?_
 revert h;refine bS fun M q h=>?_
 simp only[*,go_sem]
 refine ⟨_,bB hJ fun F N=>pP u0.aV.num u0.aV.den q,cc ?_⟩
 try simp only[*,go_sem]
 revert h;refine jC hJ (by simp only[*,go_sem]) (fun s h=>?_) fun s h=>?_
 ·obtain rfl:=sI h
  refine aa hJ ?_
  refine eM [1,2] fun O t u w=>?_
  simp only[*,go_sem] at t u w
  clear e hd f
  refine af hJ ?_
  simp only[*,go_sem]
  refine av ?_
  simp only[*,go_sem]
 refine aD hJ (aa hJ ?_)
 refine aa hJ ?_
 refine eM [1,2] fun P x y z=>?_
 simp only[*,go_sem] at x y z
 clear e hd f
 refine af hJ ?_
 revert h;refine bS fun Q B h=>?_
 simp only[*,go_sem]
 refine aO hJ _ (Fq u0 (d.mono aN) B) (aE ?_)
 try simp only[*,go_sem]
 refine aa hJ (af hJ ?_)
 simp only[*,go_sem]
 revert h;refine jC hJ (by simp only[*,go_sem]) (fun C h=>?_) fun C h=>?_
 ·obtain rfl:=sI h
  refine aa hJ (af hJ ?_)
  simp only[*,go_sem]
  refine av ?_
  simp only[*,go_sem]
 refine aD hJ (aa hJ ?_)
 refine af hJ ?_
 revert h;refine bS fun R D h=>?_
 obtain rfl:=sI h
 simp only[*,go_sem]
 refine aO hJ _ (Fs u0 (d.mono aN) D) (aE ?_)
 try simp only[*,go_sem]
 refine av ?_
 simp only[*,go_sem]
def nG (u0:aj)(c:bf)(st:(Int×Int×au)):Option (Fl (Int×Int×au) (Int×au)):=
 cond (decide (st.2.1<(u0.aB.length:Int))) (ah (bq u0.aB st.2.1) fun b=>ah (jL u0 c b.aK (⟨b.high,1⟩:au)) fun a=>cond ((st.2.1==0)) (some (.nx (st.2.1,(IntKind.i64.wrap (st.2.1+1)),a))) (ah (jc st.2.2 a) fun d=>cond (d) (some (.nx (st.2.1,(IntKind.i64.wrap (st.2.1+1)),a))) (some (.nx (st.1,(IntKind.i64.wrap (st.2.1+1)),st.2.2))))) (some (.bk (st.1,st.2.1,st.2.2)))
def pW (u0:aj)(b:bf):Option (Int×au):=
 ah (aR (nG u0 b) fu (0,0,(⟨0,0⟩:au))) fun o=>aF o (fun a=>some (a.1,a.2.2)) (fun _ _=>none) (fun r=>some r)
theorem Ft {ro:Addr->Option Value}(u0:aj){s1 d f g:Value}(s:bt ro u0 s1 d f g)(a:bf){r:(Int×au)}(h:pW u0 a=some r):aA Tryz.prog 58 #[bv u0 s1 d f g,.agg #[.int .i64 a.back,.int .i64 a.high]] ⟨ro,[]⟩ (fun v _=>v= .tuple #[.int .i64 r.1,r.2.v]):=by
 obtain ⟨d3,c4,rfl,al,ao,-⟩:=id s.e
 unfold pW at h
 refine aA.go Tryz.func58 rfl Tryz.ntmps58 Tryz.results58 (by simp) fun main J hJ A D hd hs=>?_
 have E:=hs 0
 have k1:=hs 1
 clear hs
 refine aa hJ (af hJ ?_)
 simp only[*,go_sem]
 refine an fun j ar G=>?_;try simp only[ak] at G
 refine an fun k a0 H=>?_;try simp only[ak] at H
 refine an fun o a2 I=>?_;try simp only[ak] at I
 try simp only[*,go_sem]
 refine aa hJ (af hJ ?_)
 simp only[*,go_sem]
 refine an fun t a3 K=>?_;try simp only[ak] at K
 try simp only[*,go_sem]
 refine aa hJ (aa hJ (af hJ ?_))
 simp only[*,go_sem]
 refine aM hJ ?_
 revert h;refine bS fun L p M=>?_
 refine bM hJ [6,8,9,11,12,13,14,15,16,17,18,19,20,21,22,23,24,25,26,27,28,29,30,31,32,33,34,35,36,37,38,39,40,41,42] (fun m x F'=>∃(q:Int) (c:Int) (b:au),aR (nG u0 a) m (q,c,b)=some L/\F'=⟨ro,(t,rt b.num b.den)::(o,rt 0 0)::(k,.cells #[.int .i64 a.back,.int .i64 a.high] 31)::(j,bk u0 (sl d3 u0.aB c4) d f g)::[]⟩/\slot x 6= .int .i64 q/\slot x 8= .int .i64 c) fu ?_ ?_
 ·refine ⟨0,0,(⟨0,0⟩:au),p,rfl,?_⟩
  simp only[*,go_sem]
 rintro l a4 F' y ⟨q,c,b,p,rfl,a5,a6⟩
 obtain ⟨N,O,P⟩:=y.pick [2,3,4,5,7] (by decide)
 simp only[*,go_sem] at N O P
 clear y D hd E k1
 obtain _|l:=l
 ·exact absurd p (by simp only[aR,reduceCtorEq,not_false_eq_true])
 revert p;refine bS fun a7 h n=>?_
 unfold nG at h
 try dsimp only at h
 refine aa hJ (aa hJ (af hJ ?_))
 simp only[*,go_sem]
 revert h;refine jC hJ (by simp only[*,go_sem]) (fun Q h=>?_) fun Q h=>?_
 ·refine aD hJ (aa hJ ?_)
  refine aM hJ (aa hJ ?_)
  refine dY hJ mixed 16 ⟨ro,[(t,rt b.num b.den),(o,rt 0 0),(k,.cells #[.int .i64 a.back,.int .i64 a.high] 31),(j,bk u0 (sl d3 u0.aB c4) d f g)]⟩ (by simp only[*,go_sem]) (by kernel_rfl) ?_
  revert h;refine bS fun u R h=>?_
  obtain ⟨a8,a9,z⟩:=bX R
  obtain ⟨B,S,T,U,w⟩:=s.e.el _ _ z
  obtain rfl:S=u.cells:=U
  cases T
  have V:=w 0 _ rfl;simp only[go_sem] at V
  have W:=w 1 _ rfl;simp only[go_sem] at W
  clear w z
  revert h;refine bS fun i X h=>?_
  try simp only[*,go_sem]
  refine ⟨_,bB hJ fun F Y=>zR u0 (s.mono (bQ Y)) a u.aK (⟨u.high,1⟩:au) X,?_⟩
  try simp only[*,go_sem]
  refine an fun C ba Z=>?_;try simp only[ak] at Z
  try simp only[*,go_sem]
  refine aa hJ (af hJ ?_)
  revert h;refine cS (fun ab h=>?_) fun ab h=>?_
  ·obtain rfl:=sI h
   try simp only[*,go_sem]
   refine bD hJ (by simp only[*,go_sem]) ?_
   refine dY hJ mixed 3 ⟨ro,[(C,rt i.num i.den),(o,rt 0 0),(k,.cells #[.int .i64 a.back,.int .i64 a.high] 31),(j,bk u0 (sl (some B) u0.aB c4) d f g)]⟩ (by simp only[*,go_sem]) (by kernel_rfl) ?_
   simp only[*,go_sem]
   refine af hJ ?_
   simp only[*,go_sem]
   refine ⟨l,Nat.lt_succ_self _,_,Le.sub (List.Sublist.cons _ (List.Sublist.refl _)),c,(IntKind.i64.wrap (c+1)),i,n,rfl,?_⟩
   simp only[*,go_sem]
  revert h;refine bS fun bb ad h=>?_
  try simp only[*,go_sem]
  refine aO hJ _ (r7 b i ad) (aE ?_)
  try simp only[*,go_sem]
  revert h;refine jC hJ (by simp only[*,go_sem]) (fun ae h=>?_) fun ae h=>?_
  ·obtain rfl:=sI h
   refine dY hJ mixed 3 ⟨ro,[(C,rt i.num i.den),(o,rt 0 0),(k,.cells #[.int .i64 a.back,.int .i64 a.high] 31),(j,bk u0 (sl (some B) u0.aB c4) d f g)]⟩ (by simp only[*,go_sem]) (by kernel_rfl) ?_
   simp only[*,go_sem]
   refine af hJ ?_
   simp only[*,go_sem]
   refine ⟨l,Nat.lt_succ_self _,_,Le.sub (List.Sublist.cons _ (List.Sublist.refl _)),c,(IntKind.i64.wrap (c+1)),i,n,rfl,?_⟩
   simp only[*,go_sem]
  obtain rfl:=sI h
  refine aD hJ (af hJ ?_)
  simp only[*,go_sem]
  refine ⟨l,Nat.lt_succ_self _,_,Le.sub (List.Sublist.cons _ (List.Sublist.refl _)),q,(IntKind.i64.wrap (c+1)),b,n,rfl,?_⟩
  simp only[*,go_sem]
 obtain rfl:=sI h
 refine bJ ?_
 simp only[go_sem]
 obtain rfl:=sI n;clear n
 have h:=M
 dsimp only[aF] at h
 obtain rfl:=sI h
 refine aa hJ ?_
 refine dY hJ mixed 3 ⟨ro,[(t,rt b.num b.den),(k,.cells #[.int .i64 a.back,.int .i64 a.high] 31),(j,bk u0 (sl d3 u0.aB c4) d f g)]⟩ (by simp only[*,go_sem]) (by kernel_rfl) ?_
 simp only[*,go_sem]
 refine av ?_
 simp only[*,go_sem]
def nJ (u0:aj)(c:Int)(st:Int):Option (Fl Int au):=
 cond (decide ((IntKind.i64.wrap (st+1))<(u0.aB.length:Int))) (ah (bq u0.aB st) fun a=>ah (bq u0.aB (IntKind.i64.wrap (st+1))) fun b=>cond (decide (c<=b.aK)) (ah (gS (IntKind.i64.wrap ((IntKind.i64.wrap (a.high*(IntKind.i64.wrap (b.aK - a.aK))))+(IntKind.i64.wrap ((IntKind.i64.wrap (b.high - a.high))*(IntKind.i64.wrap (c - a.aK)))))) (IntKind.i64.wrap (b.aK - a.aK))) fun d=>some (.rt d)) (some (.nx (IntKind.i64.wrap (st+1))))) (some (.bk st))
def nL (u0:aj)(a:Int):Option au:=
 ah (aR (nJ u0 a) fu 0) fun o=>aF o (fun b=>some (⟨0,0⟩:au)) (fun _ _=>none) (fun r=>some r)
theorem Fu {ro:Addr->Option Value}(u0:aj){s1 c d f:Value}(l:bt ro u0 s1 c d f)(g:Int){r:au}(h:nL u0 g=some r):aA Tryz.prog 54 #[bv u0 s1 c d f,.int .i64 g] ⟨ro,[]⟩ (fun v _=>v=r.v):=by
 obtain ⟨d3,c4,rfl,ab,ad,-⟩:=id l.e
 unfold nL at h
 refine aA.go Tryz.func54 rfl Tryz.ntmps54 Tryz.results54 (by simp) fun main J hJ A y hd hs=>?_
 have z:=hs 0
 have k1:=hs 1
 clear hs
 refine aa hJ (af hJ ?_)
 simp only[*,go_sem]
 refine an fun q ae B=>?_;try simp only[ak] at B
 refine an fun s al C=>?_;try simp only[ak] at C
 try simp only[*,go_sem]
 refine aa hJ (aa hJ (af hJ ?_))
 simp only[*,go_sem]
 refine aM hJ ?_
 revert h;refine bS fun D i t=>?_
 refine bM hJ [5,6,7,8,9,10,11,12,13,14,15,16,17,18,19,20,21,22,23,24,25,26,27,28,29,30,31,32,33,34,35,36,37,38,39,40,41,42,43,44,45,46,47,48,49,50,51,52,53,54,55] (fun m E F'=>∃(j:Int),aR (nJ u0 g) m j=some D/\F'=⟨ro,(s,rt 0 0)::(q,bk u0 (sl d3 u0.aB c4) c d f)::[]⟩/\slot E 5= .int .i64 j) fu ?_ ?_
 ·refine ⟨0,i,rfl,?_⟩
  simp only[*,go_sem]
 rintro n ao F' u ⟨j,i,rfl,ar⟩
 obtain ⟨F,G,H⟩:=u.pick [1,2,4] (by decide)
 simp only[*,go_sem] at F G H
 clear u y hd z k1
 obtain _|n:=n
 ·exact absurd i (by simp only[aR,reduceCtorEq,not_false_eq_true])
 revert i;refine bS fun a0 h b=>?_
 unfold nJ at h
 try dsimp only at h
 refine aa hJ (aa hJ (af hJ ?_))
 simp only[*,go_sem]
 revert h;refine jC hJ (by simp only[*,go_sem]) (fun I h=>?_) fun I h=>?_
 ·refine aD hJ (aa hJ ?_)
  refine aM hJ (aa hJ ?_)
  refine qU hJ mixed 11 ⟨ro,[(s,rt 0 0),(q,bk u0 (sl d3 u0.aB c4) c d f)]⟩ (by simp only[*,go_sem]) (by kernel_rfl) 132 rfl uo ?_
  revert h;refine bS fun a K h=>?_
  obtain ⟨a2,a3,w⟩:=bX K
  obtain ⟨a4,L,M,N,o⟩:=l.e.el _ _ w
  obtain rfl:L=a.cells:=N
  cases M
  have O:=o 0 _ rfl;simp only[go_sem] at O
  have P:=o 1 _ rfl;simp only[go_sem] at P
  clear o w
  revert h;refine bS fun k Q h=>?_
  obtain ⟨a5,a6,x⟩:=bX Q
  obtain ⟨a7,R,S,T,p⟩:=l.e.el _ _ x
  obtain rfl:R=k.cells:=T
  cases S
  have U:=p 0 _ rfl;simp only[go_sem] at U
  have V:=p 1 _ rfl;simp only[go_sem] at V
  clear p x
  try simp only[*,go_sem]
  refine an fun a8 a9 W=>?_;try simp only[ak] at W
  try simp only[*,go_sem]
  refine an fun ba bb X=>?_;try simp only[ak] at X
  try simp only[*,go_sem]
  refine aa hJ (af hJ ?_)
  simp only[*,go_sem]
  revert h;refine jC hJ (by simp only[*,go_sem]) (fun Y h=>?_) fun Y h=>?_
  ·refine aa hJ (af hJ ?_)
   revert h;refine bS fun bc Z h=>?_
   obtain rfl:=sI h
   simp only[*,go_sem]
   refine aO hJ _ (pP (IntKind.i64.wrap ((IntKind.i64.wrap (a.high*(IntKind.i64.wrap (k.aK - a.aK))))+(IntKind.i64.wrap ((IntKind.i64.wrap (k.high - a.high))*(IntKind.i64.wrap (g - a.aK)))))) (IntKind.i64.wrap (k.aK - a.aK)) Z) (aE ?_)
   try simp only[*,go_sem]
   obtain rfl:=sI b;clear b
   have h:=t
   dsimp only[aF] at h
   obtain rfl:=sI h
   refine av ?_
   simp only[*,go_sem]
  obtain rfl:=sI h
  refine aD hJ (af hJ ?_)
  simp only[*,go_sem]
  refine ⟨n,Nat.lt_succ_self _,_,Le.sub (List.Sublist.cons _ (List.Sublist.cons _ (List.Sublist.refl _))),(IntKind.i64.wrap (j+1)),b,rfl,?_⟩
  simp only[*,go_sem]
 obtain rfl:=sI h
 refine bJ ?_
 simp only[go_sem]
 obtain rfl:=sI b;clear b
 have h:=t
 dsimp only[aF] at h
 obtain rfl:=sI h
 refine aa hJ (af hJ ?_)
 simp only[*,go_sem]
 refine av ?_
 simp only[*,go_sem]
def nM (u0:aj)(d:bf)(st:(Int×au)):Option (Fl (Int×au) (au×Bool)):=
 cond (decide (st.1<(u0.props.length:Int))) (ah (bq u0.props st.1) fun a=>ah (nL u0 a.place) fun b=>ah (gS (IntKind.i64.wrap (b.num+(IntKind.i64.wrap (a.cV*b.den)))) b.den) fun e=>ah (jL u0 d a.place e) fun c=>cond ((st.1==0)) (ah (fI c c) fun f=>some (.nx ((IntKind.i64.wrap (st.1+1)),f))) (ah (fI st.2 c) fun g=>some (.nx ((IntKind.i64.wrap (st.1+1)),g)))) (some (.bk (st.1,st.2)))
def jd (u0:aj)(a:bf):Option (au×Bool):=
 ah (aR (nM u0 a) fu (0,(⟨0,0⟩:au))) fun o=>aF o (fun b=>some (b.2,decide (0<(u0.props.length:Int)))) (fun _ _=>none) (fun r=>some r)
theorem zW {ro:Addr->Option Value}(u0:aj){s1 w d e:Value}(i:bt ro u0 s1 w d e)(a:bf){r:(au×Bool)}(h:jd u0 a=some r):aA Tryz.prog 68 #[bv u0 s1 w d e,.agg #[.int .i64 a.back,.int .i64 a.high]] ⟨ro,[]⟩ (fun v _=>v= .tuple #[r.1.v,.bool r.2]):=by
 obtain ⟨d10,n,rfl,a7,a8,-⟩:=id i.p
 unfold jd at h
 refine aA.go Tryz.func68 rfl Tryz.ntmps68 Tryz.results68 (by simp) fun main J hJ A C hd hs=>?_
 have D:=hs 0
 have k1:=hs 1
 clear hs
 refine aa hJ (af hJ ?_)
 simp only[*,go_sem]
 refine an fun o a9 E=>?_;try simp only[ak] at E
 refine an fun q ba G=>?_;try simp only[ak] at G
 refine an fun x bb H=>?_;try simp only[ak] at H
 try simp only[*,go_sem]
 refine aa hJ (af hJ ?_)
 simp only[*,go_sem]
 refine an fun s bc I=>?_;try simp only[ak] at I
 try simp only[*,go_sem]
 refine aa hJ (aa hJ (af hJ ?_))
 simp only[*,go_sem]
 refine aM hJ ?_
 revert h;refine bS fun K j L=>?_
 refine bM hJ [7,8,9,10,11,12,13,14,15,16,17,18,19,20,21,22,23,24,25,26,27,28,29,30,31,32,33,34,35,36,37,38,39,40,41,42,43,44,45,46,47,48] (fun m M F'=>∃(f:Int) (b:au),aR (nM u0 a) m (f,b)=some K/\F'=⟨ro,(s,rt b.num b.den)::(x,rt 0 0)::(q,.cells #[.int .i64 a.back,.int .i64 a.high] 31)::(o,bk u0 s1 (sl d10 u0.props n) d e)::[]⟩/\slot M 7= .int .i64 f) fu ?_ ?_
 ·refine ⟨0,(⟨0,0⟩:au),j,rfl,?_⟩
  simp only[*,go_sem]
 rintro k bd F' y ⟨f,b,j,rfl,bj⟩
 obtain ⟨N,O,P⟩:=y.pick [2,3,4,5,6] (by decide)
 simp only[*,go_sem] at N O P
 clear y C hd D k1
 obtain _|k:=k
 ·exact absurd j (by simp only[aR,reduceCtorEq,not_false_eq_true])
 revert j;refine bS fun bl h l=>?_
 unfold nM at h
 try dsimp only at h
 refine aa hJ (aa hJ (af hJ ?_))
 simp only[*,go_sem]
 revert h;refine jC hJ (by simp only[*,go_sem]) (fun Q h=>?_) fun Q h=>?_
 ·refine aD hJ (aa hJ ?_)
  refine aM hJ (aa hJ ?_)
  refine af hJ ?_
  revert h;refine bS fun c R h=>?_
  obtain ⟨bm,bo,z⟩:=bX R
  obtain ⟨S,T,U,V,t⟩:=i.p.el _ _ z
  obtain rfl:T=c.cells:=V
  cases U
  have W:=t 0 _ rfl;simp only[go_sem] at W
  have X:=t 1 _ rfl;simp only[go_sem] at X
  clear t z
  try simp only[*,go_sem]
  refine an fun Y br Z=>?_;try simp only[ak] at Z
  try simp only[*,go_sem]
  refine aa hJ (af hJ ?_)
  revert h;refine bS fun g ab h=>?_
  simp only[*,go_sem]
  refine aO hJ _ (Fu u0 (i.mono aN) c.place ab) (aE ?_)
  try simp only[*,go_sem]
  refine an fun ad bs ae=>?_;try simp only[ak] at ae
  try simp only[*,go_sem]
  refine aa hJ ?_
  refine dY hJ mixed 16 ⟨ro,[(ad,rt g.num g.den),(Y,.cells #[.int .i64 c.place,.int .i64 c.cV] 146),(s,rt b.num b.den),(x,rt 0 0),(q,.cells #[.int .i64 a.back,.int .i64 a.high] 31),(o,bk u0 s1 (sl (some S) u0.props n) d e)]⟩ (by simp only[*,go_sem]) (by kernel_rfl) ?_
  revert h;refine bS fun al ao h=>?_
  simp only[*,go_sem]
  refine ⟨_,bB hJ fun F B=>pP (IntKind.i64.wrap (g.num+(IntKind.i64.wrap (c.cV*g.den)))) g.den ao,cc ?_⟩
  revert h;refine bS fun u ar h=>?_
  try simp only[*,go_sem]
  refine ⟨_,bB hJ fun F B=>zR u0 (i.mono (bQ B)) a c.place al ar,?_⟩
  try simp only[*,go_sem]
  refine an fun bz b0 a0=>?_;try simp only[ak] at a0
  try simp only[*,go_sem]
  refine aa hJ (aa hJ (af hJ ?_))
  simp only[*,go_sem]
  revert h;refine jC hJ (by simp only[*,go_sem]) (fun a2 h=>?_) fun a2 h=>?_
  ·refine af hJ ?_
   simp only[*,go_sem]
   refine af hJ ?_
   revert h;refine bS fun a3 a4 h=>?_
   obtain rfl:=sI h
   simp only[*,go_sem]
   refine aO hJ _ (kD u u a4) (aE ?_)
   try simp only[*,go_sem]
   refine af hJ ?_
   simp only[*,go_sem]
   refine ⟨k,Nat.lt_succ_self _,_,Le.sub (List.Sublist.cons _ (List.Sublist.cons _ (List.Sublist.cons _ (List.Sublist.refl _)))),(IntKind.i64.wrap (f+1)),a3,l,rfl,?_⟩
   simp only[*,go_sem]
  refine aD hJ (af hJ ?_)
  revert h;refine bS fun a5 a6 h=>?_
  obtain rfl:=sI h
  simp only[*,go_sem]
  refine aO hJ _ (kD b u a6) (aE ?_)
  try simp only[*,go_sem]
  refine af hJ ?_
  simp only[*,go_sem]
  refine ⟨k,Nat.lt_succ_self _,_,Le.sub (List.Sublist.cons _ (List.Sublist.cons _ (List.Sublist.cons _ (List.Sublist.refl _)))),(IntKind.i64.wrap (f+1)),a5,l,rfl,?_⟩
  simp only[*,go_sem]
 obtain rfl:=sI h
 refine bJ ?_
 simp only[go_sem]
 obtain rfl:=sI l;clear l
 have h:=L
 dsimp only[aF] at h
 obtain rfl:=sI h
 refine aa hJ ?_
 refine dY hJ mixed 5 ⟨ro,[(s,rt b.num b.den),(q,.cells #[.int .i64 a.back,.int .i64 a.high] 31),(o,bk u0 s1 (sl d10 u0.props n) d e)]⟩ (by simp only[*,go_sem]) (by kernel_rfl) ?_
 simp only[*,go_sem]
 refine av ?_
 simp only[*,go_sem]
def pX (u0:aj)(b:bf):Option au:=
 ah (pW u0 b) fun a=>ah (jc a.2 (⟨u0.bL,1⟩:au)) fun e=>cond (e) (ah (jd u0 b) fun c=>cond (c.2) (ah (fI a.2 c.1) fun f=>ah (jK (⟨u0.bL,1⟩:au) f) fun g=>ah (fI g (⟨0,1⟩:au)) fun h=>some h) (ah (jK (⟨u0.bL,1⟩:au) a.2) fun i=>ah (fI i (⟨0,1⟩:au)) fun j=>some j)) (ah (jd u0 b) fun d=>cond (d.2) (ah (fI (⟨u0.bL,1⟩:au) d.1) fun k=>ah (jK a.2 k) fun l=>ah (fI l (⟨0,1⟩:au)) fun m=>some m) (ah (jK a.2 (⟨u0.bL,1⟩:au)) fun n=>ah (fI n (⟨0,1⟩:au)) fun o=>some o))
theorem Fv {ro:Addr->Option Value}(u0:aj){s1 c d e:Value}(f:bt ro u0 s1 c d e)(a:bf){r:au}(h:pX u0 a=some r):aA Tryz.prog 71 #[bv u0 s1 c d e,.agg #[.int .i64 a.back,.int .i64 a.high]] ⟨ro,[]⟩ (fun v _=>v=r.v):=by
 unfold pX at h
 refine aA.go Tryz.func71 rfl Tryz.ntmps71 Tryz.results71 (by simp) fun main J hJ A g hd hs=>?_
 have i:=hs 0
 have k1:=hs 1
 clear hs
 refine aa hJ (af hJ ?_)
 simp only[*,go_sem]
 refine an fun j ao k=>?_;try simp only[ak] at k
 refine an fun l ar m=>?_;try simp only[ak] at m
 refine an fun n a0 o=>?_;try simp only[ak] at o
 try simp only[*,go_sem]
 refine aa hJ (af hJ ?_)
 revert h;refine bS fun b p h=>?_
 simp only[*,go_sem]
 refine aO hJ _ (Ft u0 (f.mono aN) a p) (aE ?_)
 try simp only[*,go_sem]
 refine an fun q a2 s=>?_;try simp only[ak] at s
 try simp only[*,go_sem]
 refine aa hJ ?_
 refine qU hJ mixed 4 ⟨ro,[(q,rt b.2.num b.2.den),(n,rt 0 0),(l,.cells #[.int .i64 a.back,.int .i64 a.high] 31),(j,bk u0 s1 c d e)]⟩ (by simp only[*,go_sem]) (by kernel_rfl) 23 rfl uh ?_
 simp only[*,go_sem]
 refine an fun a3 a4 t=>?_;try simp only[ak] at t
 try simp only[*,go_sem]
 refine an fun a5 a6 u=>?_;try simp only[ak] at u
 try simp only[*,go_sem]
 refine aa hJ (aa hJ (af hJ ?_))
 revert h;refine bS fun a7 w h=>?_
 simp only[*,go_sem]
 refine aO hJ _ (r7 b.2 (⟨u0.bL,1⟩:au) w) ?_
 try simp only[*,go_sem]
 revert h;refine jC hJ (by simp only[*,go_sem]) (fun x h=>?_) fun x h=>?_
 ·refine af hJ ?_
  simp only[*,go_sem]
  refine aa hJ (aa hJ (af hJ ?_))
  revert h;refine bS fun y z h=>?_
  simp only[*,go_sem]
  refine aO hJ _ (zW u0 (f.mono aN) a z) (aE ?_)
  try simp only[*,go_sem]
  refine an fun a8 a9 B=>?_;try simp only[ak] at B
  try simp only[*,go_sem]
  refine aa hJ ?_
  refine eM [4,7,8,9,10] fun ba C D E=>?_
  simp only[*,go_sem] at C D E
  clear g hd i k1
  refine af hJ ?_
  simp only[*,go_sem]
  revert h;refine jC hJ (by simp only[*,go_sem]) (fun F h=>?_) fun F h=>?_
  ·refine af hJ ?_
   revert h;refine bS fun G H h=>?_
   simp only[*,go_sem]
   refine aO hJ _ (kD b.2 y.1 H) (aE ?_)
   try simp only[*,go_sem]
   refine aa hJ (af hJ ?_)
   revert h;refine bS fun I K h=>?_
   simp only[*,go_sem]
   refine aO hJ _ (r8 (⟨u0.bL,1⟩:au) G K) (aE ?_)
   revert h;refine bS fun bb L h=>?_
   obtain rfl:=sI h
   try simp only[*,go_sem]
   refine aO hJ _ (kD I (⟨0,1⟩:au) L) (aE ?_)
   try simp only[*,go_sem]
   refine av ?_
   simp only[*,go_sem]
  refine aD hJ (aa hJ ?_)
  refine af hJ ?_
  revert h;refine bS fun M N h=>?_
  simp only[*,go_sem]
  refine aO hJ _ (r8 (⟨u0.bL,1⟩:au) b.2 N) (aE ?_)
  revert h;refine bS fun bc O h=>?_
  obtain rfl:=sI h
  try simp only[*,go_sem]
  refine aO hJ _ (kD M (⟨0,1⟩:au) O) (aE ?_)
  try simp only[*,go_sem]
  refine av ?_
  simp only[*,go_sem]
 refine aD hJ (aa hJ ?_)
 refine aa hJ (af hJ ?_)
 revert h;refine bS fun P Q h=>?_
 simp only[*,go_sem]
 refine aO hJ _ (zW u0 (f.mono aN) a Q) (aE ?_)
 try simp only[*,go_sem]
 refine an fun bd bj R=>?_;try simp only[ak] at R
 try simp only[*,go_sem]
 refine aa hJ ?_
 refine eM [4,7,8,9,10] fun bl S T U=>?_
 simp only[*,go_sem] at S T U
 clear g hd i k1
 refine af hJ ?_
 simp only[*,go_sem]
 revert h;refine jC hJ (by simp only[*,go_sem]) (fun V h=>?_) fun V h=>?_
 ·refine af hJ ?_
  revert h;refine bS fun W X h=>?_
  simp only[*,go_sem]
  refine aO hJ _ (kD (⟨u0.bL,1⟩:au) P.1 X) (aE ?_)
  try simp only[*,go_sem]
  refine aa hJ (af hJ ?_)
  revert h;refine bS fun Y Z h=>?_
  simp only[*,go_sem]
  refine aO hJ _ (r8 b.2 W Z) (aE ?_)
  revert h;refine bS fun bm ab h=>?_
  obtain rfl:=sI h
  try simp only[*,go_sem]
  refine aO hJ _ (kD Y (⟨0,1⟩:au) ab) (aE ?_)
  try simp only[*,go_sem]
  refine av ?_
  simp only[*,go_sem]
 refine aD hJ (aa hJ ?_)
 refine af hJ ?_
 revert h;refine bS fun ad ae h=>?_
 simp only[*,go_sem]
 refine aO hJ _ (r8 b.2 (⟨u0.bL,1⟩:au) ae) (aE ?_)
 revert h;refine bS fun bo al h=>?_
 obtain rfl:=sI h
 try simp only[*,go_sem]
 refine aO hJ _ (kD ad (⟨0,1⟩:au) al) (aE ?_)
 try simp only[*,go_sem]
 refine av ?_
 simp only[*,go_sem]
def l7 (u0:aj)(a:bf):Option Bool:=
 ah (pX u0 a) fun b=>ah (jc u0.aV b) fun c=>some c
theorem zX {ro:Addr->Option Value}(u0:aj){s1 b c d:Value}(f:bt ro u0 s1 b c d)(a:bf){r:Bool}(h:l7 u0 a=some r):aA Tryz.prog 72 #[bv u0 s1 b c d,.agg #[.int .i64 a.back,.int .i64 a.high]] ⟨ro,[]⟩ (fun v _=>v= .bool r):=by
 unfold l7 at h
 refine aA.go Tryz.func72 rfl Tryz.ntmps72 Tryz.results72 (by simp) fun main J hJ A m hd hs=>?_
 have n:=hs 0
 have k1:=hs 1
 clear hs
 refine aa hJ (af hJ ?_)
 simp only[*,go_sem]
 refine an fun o p g=>?_;try simp only[ak] at g
 refine an fun q s i=>?_;try simp only[ak] at i
 try simp only[*,go_sem]
 refine aa hJ ?_
 refine cQ hJ mixed 7 2 (by simp only[*,go_sem]) (by kernel_rfl) ?_
 revert h;refine bS fun j k h=>?_
 simp only[*,go_sem]
 refine ⟨_,bB hJ fun F e=>Fv u0 (f.mono (bQ e)) a k,cc ?_⟩
 revert h;refine bS fun t l h=>?_
 obtain rfl:=sI h
 try simp only[*,go_sem]
 refine ⟨_,bB hJ fun F e=>r7 u0.aV j l,cc ?_⟩
 try simp only[*,go_sem]
 refine av ?_
 simp only[*,go_sem]
def pY (u0:aj)(b:(List Int))(st:(Bool×Int)):Option (Fl (Bool×Int) Bool):=
 cond (decide (st.2<(u0.told.length:Int))) (ah (bq u0.told st.2) fun a=>ah (bq b a.aT) fun c=>ah (nF u0 a.aT c) fun d=>ah (l7 u0 d) fun e=>cond (!(e==a.bg)) (some (.rt false)) (some (.nx (st.1,(IntKind.i64.wrap (st.2+1)))))) (some (.bk (st.1,st.2)))
def nN (u0:aj)(a:(List Int)):Option Bool:=
 ah (aR (pY u0 a) fu (false,0)) fun o=>aF o (fun b=>some true) (fun _ _=>none) (fun r=>some r)
theorem Fw {ro:Addr->Option Value}(u0:aj){s1 f g n:Value}(b:bt ro u0 s1 f g n)(i:(List Int)){o:Value}(p:ax rI ro o i){r:Bool}(h:nN u0 i=some r):aA Tryz.prog 140 #[bv u0 s1 f g n,o] ⟨ro,[]⟩ (fun v _=>v= .bool r):=by
 obtain ⟨d24,C,rfl,ao,ar,-⟩:=id b.t
 obtain ⟨d31,a0,rfl,a2,a3,-⟩:=id p
 unfold nN at h
 refine aA.go Tryz.func140 rfl Tryz.ntmps140 Tryz.results140 (by simp) fun main J hJ A D hd hs=>?_
 have E:=hs 0
 have k1:=hs 1
 clear hs
 refine aa hJ (af hJ ?_)
 simp only[*,go_sem]
 refine an fun G a4 H=>?_;try simp only[ak] at H
 try simp only[*,go_sem]
 refine aa hJ (aa hJ (af hJ ?_))
 simp only[*,go_sem]
 refine aM hJ ?_
 revert h;refine bS fun I c q=>?_
 refine bM hJ [4,5,6,7,8,9,10,11,12,13,14,15,16,17,18,19,20,21,22,23,24,25,26,27,28,29,30,31,32] (fun m s F'=>∃(d:Bool) (e:Int),aR (pY u0 i) m (d,e)=some I/\F'=⟨ro,(G,bk u0 s1 f g (sl d24 u0.told C))::[]⟩/\slot s 4= .bool d/\slot s 5= .int .i64 e) fu ?_ ?_
 ·refine ⟨false,0,c,rfl,?_⟩
  simp only[*,go_sem]
 rintro j a5 F' u ⟨d,e,c,rfl,a6,a7⟩
 obtain ⟨K,L,M⟩:=u.pick [1,2] (by decide)
 simp only[*,go_sem] at K L M
 clear u D hd E k1
 obtain _|j:=j
 ·exact absurd c (by simp only[aR,reduceCtorEq,not_false_eq_true])
 revert c;refine bS fun a8 h a=>?_
 unfold pY at h
 try dsimp only at h
 refine aa hJ (aa hJ (af hJ ?_))
 simp only[*,go_sem]
 revert h;refine jC hJ (by simp only[*,go_sem]) (fun N h=>?_) fun N h=>?_
 ·refine aD hJ (aa hJ ?_)
  refine aM hJ (aa hJ ?_)
  refine af hJ ?_
  revert h;refine bS fun w O h=>?_
  obtain ⟨a9,ba,x⟩:=bX O
  obtain ⟨bb,P,Q,R,k⟩:=b.t.el _ _ x
  obtain rfl:P=w.cells:=R
  cases Q
  have S:=k 0 _ rfl;simp only[go_sem] at S
  have T:=k 1 _ rfl;simp only[go_sem] at T
  clear k x
  try simp only[*,go_sem]
  refine an fun bc bd U=>?_;try simp only[ak] at U
  try simp only[*,go_sem]
  refine aa hJ ?_
  refine cQ hJ mixed 14 2 (by simp only[*,go_sem]) (by kernel_rfl) ?_
  revert h;refine bS fun y V h=>?_
  obtain ⟨bj,bl,z⟩:=bX V
  obtain ⟨bm,W,X,Y,B⟩:=p.el _ _ z
  obtain rfl:W=[.int .i64 y]:=Y
  cases X
  have Z:=B 0 _ rfl;simp only[go_sem] at Z
  clear B z
  revert h;refine bS fun ab ad h=>?_
  try simp only[*,go_sem]
  refine ⟨_,bB hJ fun F l=>zT u0 (b.mono (bQ l)) w.aT y ad,cc ?_⟩
  revert h;refine bS fun bo ae h=>?_
  try simp only[*,go_sem]
  refine ⟨_,bB hJ fun F l=>zX u0 (b.mono (bQ l)) ab ae,cc ?_⟩
  try simp only[*,go_sem]
  revert h;refine jC hJ (by simp only[*,go_sem]) (fun al h=>?_) fun al h=>?_
  ·obtain rfl:=sI h
   refine aa hJ (af hJ ?_)
   simp only[*,go_sem]
   obtain rfl:=sI a;clear a
   have h:=q
   dsimp only[aF] at h
   obtain rfl:=sI h
   refine av ?_
   simp only[*,go_sem]
  obtain rfl:=sI h
  refine aD hJ (af hJ ?_)
  simp only[*,go_sem]
  refine ⟨j,Nat.lt_succ_self _,_,Le.sub (List.Sublist.cons _ (List.Sublist.refl _)),d,(IntKind.i64.wrap (e+1)),a,rfl,?_⟩
  simp only[*,go_sem]
 obtain rfl:=sI h
 refine bJ ?_
 simp only[go_sem]
 obtain rfl:=sI a;clear a
 have h:=q
 dsimp only[aF] at h
 obtain rfl:=sI h
 refine aa hJ (af hJ ?_)
 simp only[*,go_sem]
 refine av ?_
 simp only[*,go_sem]
def l8 (a:(List (List Int)))(b:Int)(c:bV)(st:((List (List Int))×Int)):Option (Fl ((List (List Int))×Int) (List (List Int))):=
 cond (decide (st.2<=c.high.high)) (ah (bq a b) fun d=>ah (cI ([]:List Int) d) fun e=>ah (cI e ([st.2])) fun f=>ah (cI st.1 ([f])) fun g=>some (.nx (g,(IntKind.i64.wrap (st.2+1))))) (some (.bk (st.1,st.2)))
def l9 (u0:aj)(a:(List (List Int)))(c:Int)(st:((List (List Int))×Int)):Option (Fl ((List (List Int))×Int) (List (List Int))):=
 cond (decide (st.2<(a.length:Int))) (ah (bq u0.aC c) fun b=>ah (aR (l8 a st.2 b) fu (st.1,b.high.low)) fun o=>aF o (fun d=>some (.nx (d.1,(IntKind.i64.wrap (st.2+1))))) (fun _ _=>none) (fun r=>some (.rt r))) (some (.bk (st.1,st.2)))
def zY (u0:aj)(a:(List (List Int)))(st:((List (List Int))×Int)):Option (Fl ((List (List Int))×Int) (List (List Int))):=
 cond (decide (st.2<(a.length:Int))) (ah (bq a st.2) fun b=>ah (nN u0 b) fun c=>cond (c) (ah (cI st.1 ([b])) fun d=>some (.nx (d,(IntKind.i64.wrap (st.2+1))))) (some (.nx (st.1,(IntKind.i64.wrap (st.2+1)))))) (some (.bk (st.1,st.2)))
def nO (u0:aj)(st:((List (List Int))×Int)):Option (Fl ((List (List Int))×Int) (List (List Int))):=
 cond (decide (st.2<(u0.aC.length:Int))) (ah (aR (l9 u0 st.1 st.2) fu (([]:List (List Int)),0)) fun o=>aF o (fun a=>some (.nx (a.1,(IntKind.i64.wrap (st.2+1))))) (fun _ _=>none) (fun r=>some (.rt r))) (some (.bk (st.1,st.2)))
def sk (u0:aj)(a:(List (List Int)))(st:((List (List Int))×Int)):Option (Fl ((List (List Int))×Int) (List (List Int))):=
 cond (decide (st.2<(a.length:Int))) (ah (bq a st.2) fun b=>ah (nN u0 b) fun c=>cond (c) (ah (cI st.1 ([b])) fun d=>some (.nx (d,(IntKind.i64.wrap (st.2+1))))) (some (.nx (st.1,(IntKind.i64.wrap (st.2+1)))))) (some (.bk (st.1,st.2)))
def mb (u0:aj):Option (List (List Int)):=
 ah (aR (nO u0) fu (([([]:(List Int))]),0)) fun o=>aF o (fun a=>ah (aR (sk u0 a.1) fu (([]:List (List Int)),0)) fun o=>aF o (fun b=>some b.1) (fun _ _=>none) (fun r=>some r)) (fun _ _=>none) (fun r=>some r)
theorem vU {ro:Addr->Option Value}(u0:aj){s1 a cS c:Value}(i:bt ro u0 s1 a cS c){r:(List (List Int))}(h:mb u0=some r):c9 Tryz.prog 96 #[bv u0 s1 a cS c] ro (fun v aI=>∃c0,v=c0/\ax (rL rI) aI c0 r):=by
 obtain ⟨d17,d,rfl,lh,lj,-⟩:=id i.y
 unfold mb at h
 refine aA.go Tryz.func96 rfl Tryz.ntmps96 Tryz.results96 (by simp) fun main J hJ A g2 hd hs=>?_
 have g3:=hs 0
 clear hs
 refine aa hJ (af hJ ?_)
 simp only[*,go_sem]
 refine an fun f q g4=>?_;try simp only[ak] at g4
 try simp only[*,go_sem]
 refine aa hJ ?_
 refine aH hJ fun ha=>?_
 refine af hJ ?_
 simp only[*,go_sem]
 refine an fun I da db=>?_;have ll:=aL.cons db ha;try simp only[ak] at db
 try simp only[*,go_sem]
 refine aa hJ (aa hJ (af hJ ?_))
 simp only[*,go_sem]
 refine aH hJ fun dd=>?_
 obtain ⟨a4,a5,df⟩:=fc (b:=I) (o:=(.cells #[.slice none 0 0] 46)) [] ((f,bk u0 s1 a (sl d17 u0.aC d) c)::[]) dd da (az.cons q (az.nil _))
 clear dd
 have a6:ax (rL rI) (bO ro I (.cells #[.slice none 0 0] 46)) (.slice (some ⟨I,0,none⟩) 1 1) [([]:(List Int))]:=(ax.one (r:=(rL rI)) (e:=46) (cs:=#[.slice none 0 0]) (x:=([]:(List Int))) (own:=[(I,.cells #[.slice none 0 0] 46)]) da (by simp[lk]) ⟨_,rfl,ax.nil _ _⟩)
 generalize bO ro I (.cells #[.slice none 0 0] 46)=dk at a4 a5 df a6
 refine cA hJ df ?_
 obtain ⟨ln,lo,-⟩:=a6.op
 replace i:=i.mono a4
 replace q:=a5.hd
 simp only[aU] at a5
 refine aM hJ ?_
 revert h;refine bS fun hc X hf=>?_
 refine bM hJ [3,4,5,6,7,11,12,13,14,15,16,17,18,19,20,21,22,23,24,25,26,27,28,29,30,31,32,33,34,35,36,37,38,39,40,41,42,43,44,45,46,47,48,49,50,51,52,53,54] (fun m n F'=>∃(s:Addr->Option Value) (d44:Option Addr) (a7:Nat) (t:(List (List Int))) (M:Int),aR (nO u0) m (t,M)=some hc/\F'=⟨s,(f,bk u0 s1 a (sl d17 u0.aC d) c)::[]⟩/\Ext dk s/\ax (rL rI) s (.slice d44 t.length a7) t/\slot n 3= .slice d44 t.length a7/\slot n 4= .int .i64 M) fu ?_ ?_
 ·refine ⟨dk,(some ⟨I,0,none⟩),1,([([]:(List Int))]),0,X,rfl,Ext.refl _,a6,?_⟩
  simp only[*,go_sem]
 rintro a8 dp F' dq ⟨s,d44,a7,t,M,X,rfl,a9,p,ds,dt⟩
 refine ez hJ fun _ du=>?_
 replace i:=i.mono a9
 replace q:=du.hd
 simp only[aU] at du
 obtain ⟨lr,lv,-⟩:=p.op
 obtain ⟨ba,bb,bc⟩:=dq.pick [1,2] (by decide)
 simp only[*,go_sem] at ba bb bc
 clear dq g2 hd g3
 obtain _|a8:=a8
 ·exact absurd X (by simp only[aR,reduceCtorEq,not_false_eq_true])
 revert X;refine bS fun lx h bd=>?_
 unfold nO at h
 try dsimp only at h
 refine aa hJ (aa hJ (af hJ ?_))
 simp only[*,go_sem]
 revert h;refine jC hJ (by simp only[*,go_sem]) (fun hg h=>?_) fun hg h=>?_
 ·refine aD hJ (aa hJ ?_)
  refine aM hJ (aa hJ ?_)
  refine af hJ ?_
  simp only[*,go_sem]
  refine aa hJ (aa hJ (af hJ ?_))
  simp only[*,go_sem]
  refine aM hJ ?_
  revert h;refine bS fun hh Y hi=>?_
  refine bM hJ [5,6,7,18,19,20,21,22,23,24,25,26,27,28,29,30,31,32,33,34,35,36,37,38,39,40,41,42,43,44,45,46,47,48,49,50,51,52,53] (fun m n F'=>∃(K:Addr->Option Value) (d61:Option Addr) (L:Nat) (Z:List (Nat×Obj)) (u:(List (List Int))) (N:Int),aR (l9 u0 t M) m (u,N)=some hh/\F'=⟨K,(f,bk u0 s1 a (sl d17 u0.aC d) c)::Z⟩/\Ext s K/\aP (rL rI) K 46 (.slice d61 u.length L) u Z/\u.length<=L/\slot n 5= .slice d61 u.length L/\slot n 6= .int .i64 N) fu ?_ ?_
  ·refine ⟨s,none,0,[],([]:List (List Int)),0,Y,rfl,Ext.refl _,aP.nil _ _ _,Nat.le_refl _,?_⟩
   simp only[*,go_sem]
  rintro bj dv F' bl ⟨K,d61,L,Z,u,N,Y,rfl,ab,dC,hj,hk,hl⟩
  refine ez hJ fun _ dE=>?_
  replace p:=p.mono ab
  replace i:=i.mono ab
  replace q:=dE.hd
  simp only[aU] at dE
  obtain ⟨dT,ea,eb⟩:=bl.pick [1,2,3,4,11,12,13,14,15] (by decide)
  simp only[*,go_sem] at dT ea eb
  have ly:cW [3,4,5,6,7,11,12,13,14,15,16,17,18,19,20,21,22,23,24,25,26,27,28,29,30,31,32,33,34,35,36,37,38,39,40,41,42,43,44,45,46,47,48,49,50,51,52,53,54] dv dp:=(bl.fD (by decide)).trans (by simp only[*,go_sem])
  clear bl ba bb bc ds dt
  obtain _|bj:=bj
  ·exact absurd Y (by simp only[aR,reduceCtorEq,not_false_eq_true])
  revert Y;refine bS fun lL h bm=>?_
  unfold l9 at h
  try dsimp only at h
  refine aa hJ (aa hJ ?_)
  refine aH hJ fun l1=>?_
  refine af hJ ?_
  simp only[*,go_sem]
  revert h;refine jC hJ (by simp only[*,go_sem]) (fun hn h=>?_) fun hn h=>?_
  ·refine aD hJ (aa hJ ?_)
   refine aM hJ (aa hJ ?_)
   refine aH hJ fun l2=>?_
   refine af hJ ?_
   revert h;refine bS fun bo ho h=>?_
   obtain ⟨l3,l4,ec⟩:=bX ho
   obtain ⟨j,hp,hq,hr,ad⟩:=i.y.el _ _ ec
   obtain rfl:hp=bo.cells:=hr
   cases hq
   have O:=ad 0 _ rfl;simp only[go_sem] at O
   have P:=ad 1 _ rfl;simp only[go_sem] at P
   have Q:=ad 2 _ rfl;simp only[go_sem] at Q
   clear ad ec
   try simp only[*,go_sem]
   refine aM hJ ?_
   revert h;refine bS fun ht ae hv=>?_
   refine bM hJ [5,7,31,32,33,34,35,36,37,38,39,40,41,42,43,44,45,46,47,48,49,50,51,52,53] (fun m n F'=>∃(D:Addr->Option Value) (d83:Option Addr) (R:Nat) (g:List (Nat×Obj)) (w:(List (List Int))) (k:Int),aR (l8 t N bo) m (w,k)=some ht/\F'=⟨D,(f,bk u0 s1 a (sl (some j) u0.aC d) c)::g⟩/\Ext K D/\aP (rL rI) D 46 (.slice d83 w.length R) w g/\w.length<=R/\slot n 5= .slice d83 w.length R/\slot n 7= .int .i64 k) fu ?_ ?_
   ·refine ⟨K,d61,L,Z,u,bo.high.low,ae,rfl,Ext.refl _,dC,hj,?_⟩
    simp only[*,go_sem]
   rintro br ed F' al ⟨D,d83,R,g,w,k,ae,rfl,E,S,hx,ma,mf⟩
   refine ez hJ fun _ eh=>?_
   replace p:=p.mono E
   replace i:=i.mono E
   replace q:=eh.hd
   simp only[aU] at eh
   replace O:=E _ _ O
   replace P:=E _ _ P
   replace Q:=E _ _ Q
   obtain ⟨hy,hz,hA⟩:=al.pick [1,2,3,4,6,11,12,13,14,15,18,19,20,21,24,25,26,30] (by decide)
   simp only[*,go_sem] at hy hz hA
   have mi:cW [3,4,5,6,7,11,12,13,14,15,16,17,18,19,20,21,22,23,24,25,26,27,28,29,30,31,32,33,34,35,36,37,38,39,40,41,42,43,44,45,46,47,48,49,50,51,52,53,54] ed dp:=(al.fD (by decide)).trans (by simp only[*,go_sem])
   have ml:cW [5,6,7,18,19,20,21,22,23,24,25,26,27,28,29,30,31,32,33,34,35,36,37,38,39,40,41,42,43,44,45,46,47,48,49,50,51,52,53] ed dv:=(al.fD (by decide)).trans (by simp only[*,go_sem])
   clear al dT ea eb hk hl
   obtain _|br:=br
   ·exact absurd ae (by simp only[aR,reduceCtorEq,not_false_eq_true])
   revert ae;refine bS fun mn h bs=>?_
   unfold l8 at h
   try dsimp only at h
   refine aa hJ (aa hJ ?_)
   refine aH hJ fun mr=>?_
   refine af hJ ?_
   simp only[*,go_sem]
   revert h;refine jC hJ (by simp only[*,go_sem]) (fun hB h=>?_) fun hB h=>?_
   ·refine aD hJ (aa hJ ?_)
    refine aM hJ ?_
    refine aH hJ fun hD=>?_
    refine af hJ ?_
    revert h;refine bS fun hE hF h=>?_
    obtain ⟨mx,my,et⟩:=bX hF
    obtain ⟨m1,m2,hG,hI,ev⟩:=p.el _ _ et
    obtain ⟨na,rfl,eQ⟩:=hI;obtain ⟨d152,nb,rfl,nd,nf,nm⟩:=id eQ
    cases hG
    have bz:=ev 0 _ rfl;simp only[go_sem] at bz
    clear ev et
    revert h;refine bS fun hK hL h=>?_
    obtain ⟨hM,eS⟩:=cG hL
    try simp only[*,go_sem]
    refine an fun e0 hN e1=>?_;have hP:=aL.cons e1 hD;try simp only[ak] at e1
    try simp only[*,go_sem]
    have hQ:aP rI D 3 (.slice (some ⟨e0,0,none⟩) 0 0) ([]:List Int) [(e0,.cells #[] 3)]:=aP.empty hN
    refine lE (r:=rI) (l:=([]:List Int)) (xs:=hE) [] ((f,bk u0 s1 a (sl (some j) u0.aC d) c)::g) hQ hP hM eQ rfl rfl dL dL gm gr rfl gq (by decide) (by decide) (fun nn T b0 G H hR=>?_)
    simp only[List.append_nil,List.cons_append,List.nil_append,List.append_assoc] at H
    subst G
    rw[<-eS] at b0;clear eS
    obtain ⟨d165,np,rfl,ns⟩:=b0.len
    have hS:=aL.back (l:=(f,bk u0 s1 a (sl (some j) u0.aC d) c)::(T++g)) (l':=[]++(T++([(f,bk u0 s1 a (sl (some j) u0.aC d) c)]++g))) [] [(f,bk u0 s1 a (sl (some j) u0.aC d) c)] T g (by first|rfl|simp only[List.append_nil,List.cons_append,List.nil_append,List.append_assoc]|(simp only[List.append_nil,List.cons_append,List.nil_append,List.append_assoc];rfl)) (by first|rfl|simp only[List.append_nil,List.cons_append,List.nil_append,List.append_assoc]|(simp only[List.append_nil,List.cons_append,List.nil_append,List.append_assoc];rfl)) hR
    refine ⟨⟨D,(f,bk u0 s1 a (sl (some j) u0.aC d) c)::(T++g)⟩,Le.back [] [(f,bk u0 s1 a (sl (some j) u0.aC d) c)] T g (by first|rfl|simp only[List.append_nil,List.cons_append,List.nil_append,List.append_assoc]|(simp only[List.append_nil,List.cons_append,List.nil_append,List.append_assoc];rfl)) (by first|rfl|simp only[List.append_nil,List.cons_append,List.nil_append,List.append_assoc]|(simp only[List.append_nil,List.cons_append,List.nil_append,List.append_assoc];rfl)),?_⟩
    refine aE ?_
    revert h;refine bS fun ao hT h=>?_
    obtain ⟨hV,e3⟩:=cG hT
    try simp only[*,go_sem]
    refine an fun z fa fb=>?_;have hX:=aL.cons fb hS;try simp only[ak] at fb
    try simp only[*,go_sem]
    refine di (r:=rI) (l:=hK) (x:=k) (cs:=#[.int .i64 k]) (e2:=3) [(z,ic k),(f,bk u0 s1 a (sl (some j) u0.aC d) c)] g b0 hX hV rfl (by simp only[*,go_sem]) fa rfl rfl dL dL gm gr rfl gq (by decide) (by decide) (fun nx fg b1 G H fi=>?_)
    simp only[List.append_nil,List.cons_append,List.nil_append,List.append_assoc] at H
    subst G
    rw[<-e3] at b1;clear e3
    obtain ⟨d179,b2,rfl,nz⟩:=b1.len
    obtain ⟨b3,B,b4,fp,hY⟩:=b1.dF [(z,ic k),(f,bk u0 s1 a (sl (some j) u0.aC d) c)] g fi (az.cons fa (az.cons q (S.gO)))
    have hZ:=aL.sub (l:=(z,ic k)::(f,bk u0 s1 a (sl (some j) u0.aC d) c)::g) (l':=(z,ic k)::(f,bk u0 s1 a (sl (some j) u0.aC d) c)::(fg++g)) [(z,ic k),(f,bk u0 s1 a (sl (some j) u0.aC d) c)] fg g (by first|rfl|simp only[List.append_nil,List.cons_append,List.nil_append,List.append_assoc]|(simp only[List.append_nil,List.cons_append,List.nil_append,List.append_assoc];rfl)) (by first|rfl|simp only[List.append_nil,List.cons_append,List.nil_append,List.append_assoc]|(simp only[List.append_nil,List.cons_append,List.nil_append,List.append_assoc];rfl)) fi
    refine ⟨⟨b3,(z,ic k)::(f,bk u0 s1 a (sl (some j) u0.aC d) c)::g⟩,hY,?_⟩
    obtain ⟨nA,nH,-⟩:=fp.op
    replace p:=p.mono B
    replace i:=i.mono B
    replace q:=b4.tl.hd
    replace S:=S.mono B b4.tl.tl
    simp only[aU] at b4
    replace O:=B _ _ O
    replace P:=B _ _ P
    replace Q:=B _ _ Q
    replace bz:=B _ _ bz
    refine aE ?_
    revert h;refine bS fun h0 h1 h=>?_
    obtain rfl:=sI h
    obtain ⟨h2,fr⟩:=cG h1
    try simp only[*,go_sem]
    refine an fun fs h3 ft=>?_;have h4:=aL.cons ft hZ;try simp only[ak] at ft
    try simp only[*,go_sem]
    refine di (r:=(rL rI)) (l:=w) (x:=ao) (cs:=#[.slice d179 ao.length b2]) (e2:=46) [(fs,.cells #[.slice d179 ao.length b2] 46),(z,ic k),(f,bk u0 s1 a (sl (some j) u0.aC d) c)] [] S h4 h2 ⟨_,rfl,fp⟩ (by simp only[*,go_sem]) h3 rfl rfl fV fV lq lz rfl lu (by decide) (by decide) (fun nI fv b5 G H nK=>?_)
    simp only[List.append_nil,List.cons_append,List.nil_append,List.append_assoc] at H
    subst G
    rw[<-fr] at b5;clear fr
    obtain ⟨d199,h5,rfl,h6⟩:=b5.len
    refine ⟨⟨b3,(fs,.cells #[.slice d179 ao.length b2] 46)::(z,ic k)::(f,bk u0 s1 a (sl (some j) u0.aC d) c)::fv⟩,Le.refl _,?_⟩
    refine aE ?_
    try simp only[*,go_sem]
    refine aH hJ fun nQ=>?_
    refine af hJ ?_
    simp only[*,go_sem]
    refine ⟨br,Nat.lt_succ_self _,_,Le.sub (List.Sublist.cons _ (List.Sublist.cons _ (List.Sublist.refl _))),b3,d199,h5,fv,h0,(IntKind.i64.wrap (k+1)),bs,rfl,(E.trans B),b5,h6,?_⟩
    simp only[*,go_sem]
   obtain rfl:=sI h
   refine bJ ?_
   simp only[go_sem]
   obtain rfl:=sI bs;clear bs
   have h:=hv
   dsimp only[aF] at h
   obtain rfl:=sI h
   refine aH hJ fun nR=>?_
   refine af hJ ?_
   simp only[*,go_sem]
   refine ⟨bj,Nat.lt_succ_self _,_,Le.sub (List.Sublist.refl _),D,d83,R,g,w,(IntKind.i64.wrap (N+1)),bm,rfl,(ab.trans E),S,hx,?_⟩
   simp only[*,go_sem]
  obtain rfl:=sI h
  refine bJ ?_
  simp only[go_sem]
  obtain rfl:=sI bm;clear bm
  have h:=hi
  dsimp only[aF] at h
  obtain rfl:=sI h
  refine aH hJ fun nT=>?_
  refine af hJ ?_
  simp only[*,go_sem]
  refine aH hJ fun fw=>?_
  obtain ⟨h7,ca,fx,gg,h8⟩:=dC.dF [(f,bk u0 s1 a (sl d17 u0.aC d) c)] [] fw (az.cons q (az.nil _))
  clear fw
  refine cA hJ h8 ?_
  obtain ⟨nV,nX,-⟩:=gg.op
  replace i:=i.mono ca
  replace p:=p.mono ca
  replace q:=fx.hd
  simp only[aU] at fx
  refine af hJ ?_
  simp only[*,go_sem]
  refine ⟨a8,Nat.lt_succ_self _,_,Le.sub (List.Sublist.refl _),h7,d61,L,u,(IntKind.i64.wrap (M+1)),bd,rfl,(a9.trans (ab.trans ca)),gg,?_⟩
  simp only[*,go_sem]
 obtain rfl:=sI h
 refine bJ ?_
 simp only[go_sem]
 obtain rfl:=sI bd;clear bd
 have h:=hf
 dsimp only[aF] at h
 refine aa hJ (af hJ ?_)
 simp only[*,go_sem]
 refine aa hJ (aa hJ (af hJ ?_))
 simp only[*,go_sem]
 refine aM hJ ?_
 revert h;refine bS fun h9 ar ib=>?_
 refine bM hJ [8,9,55,56,57,58,59,60,61,62,63,64,65,66,67,68,69,70,71,72,73] (fun m n F'=>∃(d230:Option Addr) (U:Nat) (a0:List (Nat×Obj)) (C:(List (List Int))) (V:Int),aR (zY u0 t) m (C,V)=some h9/\F'=⟨s,(f,bk u0 s1 a (sl d17 u0.aC d) c)::a0⟩/\aP (rL rI) s 46 (.slice d230 C.length U) C a0/\C.length<=U/\slot n 8= .slice d230 C.length U/\slot n 9= .int .i64 V) fu ?_ ?_
 ·refine ⟨none,0,[],([]:List (List Int)),0,ar,rfl,aP.nil _ _ _,Nat.le_refl _,?_⟩
  simp only[*,go_sem]
 rintro a2 nY F' gl ⟨d230,U,a0,C,V,ar,rfl,cb,ih,n0,n1⟩
 obtain ⟨ik,il,im⟩:=gl.pick [1,2,3] (by decide)
 simp only[*,go_sem] at ik il im
 clear gl ba bb bc ds dt
 obtain _|a2:=a2
 ·exact absurd ar (by simp only[aR,reduceCtorEq,not_false_eq_true])
 revert ar;refine bS fun n2 h a3=>?_
 unfold zY at h
 try dsimp only at h
 refine aa hJ (aa hJ ?_)
 refine aH hJ fun n3=>?_
 refine af hJ ?_
 simp only[*,go_sem]
 revert h;refine jC hJ (by simp only[*,go_sem]) (fun iv h=>?_) fun iv h=>?_
 ·refine aD hJ (aa hJ ?_)
  refine aM hJ (aa hJ ?_)
  refine aH hJ fun oc=>?_
  refine cQ hJ mixed 6 1 (by simp only[*,go_sem]) (by kernel_rfl) ?_
  revert h;refine bS fun W ix h=>?_
  obtain ⟨oi,oj,gn⟩:=bX ix
  obtain ⟨ox,oy,j1,j2,gp⟩:=p.el _ _ gn
  obtain ⟨o0,rfl,cd⟩:=j2;obtain ⟨cf,cl,rfl,o1,o2,o4⟩:=id cd
  cases j1
  have kh:=gp 0 _ rfl;simp only[go_sem] at kh
  clear gp gn
  revert h;refine bS fun pa kj h=>?_
  try simp only[*,go_sem]
  refine ⟨_,bB hJ fun F gB=>Fw u0 (i.mono (bQ gB)) W (cd.mono (bQ gB)) kj,?_⟩
  try simp only[*,go_sem]
  revert h;refine jC hJ (by simp only[*,go_sem]) (fun kk h=>?_) fun kk h=>?_
  ·refine aH hJ fun kl=>?_
   refine af hJ ?_
   revert h;refine bS fun km kn h=>?_
   obtain rfl:=sI h
   obtain ⟨kp,gC⟩:=cG kn
   simp only[*,go_sem]
   refine an fun gM ks gT=>?_;have kt:=aL.cons gT kl;try simp only[ak] at gT
   try simp only[*,go_sem]
   refine di (r:=(rL rI)) (l:=C) (x:=W) (cs:=#[.slice cf W.length cl]) (e2:=46) [(gM,.cells #[.slice cf W.length cl] 46),(f,bk u0 s1 a (sl d17 u0.aC d) c)] [] cb kt kp ⟨_,rfl,cd⟩ (by simp only[*,go_sem]) ks rfl rfl fV fV lq lz rfl lu (by decide) (by decide) (fun pb gV cy G H pd=>?_)
   simp only[List.append_nil,List.cons_append,List.nil_append,List.append_assoc] at H
   subst G
   rw[<-gC] at cy;clear gC
   obtain ⟨kv,kx,rfl,ky⟩:=cy.len
   refine ⟨⟨s,(gM,.cells #[.slice cf W.length cl] 46)::(f,bk u0 s1 a (sl d17 u0.aC d) c)::gV⟩,Le.refl _,?_⟩
   refine aE ?_
   try simp only[*,go_sem]
   refine aH hJ fun pf=>?_
   refine af hJ ?_
   simp only[*,go_sem]
   refine ⟨a2,Nat.lt_succ_self _,_,Le.sub (List.Sublist.cons _ (List.Sublist.refl _)),kv,kx,gV,km,(IntKind.i64.wrap (V+1)),a3,rfl,cy,ky,?_⟩
   simp only[*,go_sem]
  obtain rfl:=sI h
  refine aD hJ ?_
  refine aH hJ fun ph=>?_
  refine af hJ ?_
  simp only[*,go_sem]
  refine ⟨a2,Nat.lt_succ_self _,_,Le.sub (List.Sublist.refl _),d230,U,a0,C,(IntKind.i64.wrap (V+1)),a3,rfl,cb,ih,?_⟩
  simp only[*,go_sem]
 obtain rfl:=sI h
 refine bJ ?_
 simp only[go_sem]
 obtain rfl:=sI a3;clear a3
 have h:=ib
 dsimp only[aF] at h
 obtain rfl:=sI h
 refine aa hJ ?_
 refine aH hJ fun pj=>?_
 refine af hJ ?_
 simp only[*,go_sem]
 refine aH hJ fun g0=>?_
 obtain ⟨pk,k0,k2,g1,lb⟩:=cb.dF [(f,bk u0 s1 a (sl d17 u0.aC d) c)] [] g0 (az.cons q (az.nil _))
 clear g0
 refine cA hJ lb ?_
 obtain ⟨po,pr,-⟩:=g1.op
 simp only[aU] at k2
 refine av ?_
 simp only[*,go_sem]
 exact ⟨_,((a4).trans a9).trans k0,Le.sub (List.nil_sublist _),_,rfl,g1⟩
def kF (u0:aj)(a:Int):Option ((List (List Int))×Int):=
 ah (gD u0) fun b=>cond ((b != 0)) (some (([]:(List (List Int))),b)) (cond ((a != 0)) (some (([]:(List (List Int))),a)) (ah (mb u0) fun c=>cond (((c.length:Int)==0)) (some (([]:(List (List Int))),9)) (some (c,0))))
theorem zZ {ro:Addr->Option Value}(u0:aj){s1 a b c:Value}(d:bt ro u0 s1 a b c)(e:Int){r:((List (List Int))×Int)}(h:kF u0 e=some r):c9 Tryz.prog 79 #[bv u0 s1 a b c,.int .i64 e] ro (fun v aI=>∃f,v= .tuple #[f,.int .i64 r.2]/\ax (rL rI) aI f r.1):=by
 unfold kF at h
 refine aA.go Tryz.func79 rfl Tryz.ntmps79 Tryz.results79 (by simp) fun main J hJ A s hd hs=>?_
 have t:=hs 0
 have k1:=hs 1
 clear hs
 refine aa hJ (af hJ ?_)
 simp only[*,go_sem]
 refine an fun u w j=>?_;try simp only[ak] at j
 try simp only[*,go_sem]
 refine aa hJ (aa hJ (af hJ ?_))
 revert h;refine bS fun x k h=>?_
 simp only[*,go_sem]
 refine aO hJ _ (sj u0 (d.mono aN) k) (aE ?_)
 try simp only[*,go_sem]
 refine aa hJ (af hJ ?_)
 simp only[*,go_sem]
 revert h;refine jC hJ (by simp only[*,go_sem]) (fun l h=>?_) fun l h=>?_
 ·obtain rfl:=sI h
  refine aa hJ (af hJ ?_)
  simp only[*,go_sem]
  refine av ?_
  simp only[*,go_sem]
  exact ⟨_,Ext.refl _,Le.sub (List.nil_sublist _),_,rfl,ax.nil _ _⟩
 refine aD hJ (aa hJ ?_)
 refine aa hJ (af hJ ?_)
 simp only[*,go_sem]
 revert h;refine jC hJ (by simp only[*,go_sem]) (fun m h=>?_) fun m h=>?_
 ·obtain rfl:=sI h
  refine aa hJ (af hJ ?_)
  simp only[*,go_sem]
  refine av ?_
  simp only[*,go_sem]
  exact ⟨_,Ext.refl _,Le.sub (List.nil_sublist _),_,rfl,ax.nil _ _⟩
 refine aD hJ (aa hJ ?_)
 refine af hJ ?_
 revert h;refine bS fun y n h=>?_
 simp only[*,go_sem]
 refine bN hJ _ (vU u0 d n) fun v z g o p=>?_
 obtain ⟨B,rfl,i⟩:=p
 simp only[aU] at o
 obtain ⟨d41,C,rfl,D,E,-⟩:=id i
 refine aE ?_
 try simp only[*,go_sem]
 refine aa hJ (aa hJ (af hJ ?_))
 simp only[*,go_sem]
 revert h;refine jC hJ (by simp only[*,go_sem]) (fun q h=>?_) fun q h=>?_
 ·obtain rfl:=sI h
  refine aa hJ (af hJ ?_)
  simp only[*,go_sem]
  refine av ?_
  simp only[*,go_sem]
  exact ⟨_,g,Le.sub (List.nil_sublist _),_,rfl,ax.nil _ _⟩
 obtain rfl:=sI h
 refine aD hJ (aa hJ ?_)
 refine af hJ ?_
 simp only[*,go_sem]
 refine av ?_
 simp only[*,go_sem]
 exact ⟨_,g,Le.sub (List.nil_sublist _),_,rfl,i⟩
def nP (u0:aj):Option (aj×Int):=
 ah (kF u0 0) fun a=>cond ((a.2 != 0)) (some ((⟨0,0,(⟨0,0⟩:au),([]:(List bZ)),([]:(List b6)),([]:(List bV)),([]:(List bx))⟩:aj),a.2)) (some (u0,0))
theorem z0 {ro:Addr->Option Value}(u0:aj){s1 c d e:Value}(a:bt ro u0 s1 c d e){r:(aj×Int)}(h:nP u0=some r):c9 Tryz.prog 104 #[bv u0 s1 c d e] ro (fun v aI=>∃f w1 w2 w3,v= .tuple #[bv r.1 f w1 w2 w3,.int .i64 r.2]/\bt aI r.1 f w1 w2 w3):=by
 unfold nP at h
 have g:=a.oc;simp only[bw] at g
 refine aA.go Tryz.func104 rfl Tryz.ntmps104 Tryz.results104 (by simp) fun main J hJ A p hd hs=>?_
 have q:=hs 0
 clear hs
 refine aa hJ (af hJ ?_)
 simp only[*,go_sem]
 refine an fun s t i=>?_;try simp only[ak] at i
 refine an fun u w j=>?_;try simp only[ak] at j
 try simp only[*,go_sem]
 refine aa hJ (aa hJ (af hJ ?_))
 revert h;refine bS fun x k h=>?_
 simp only[*,go_sem]
 refine bN hJ _ (zZ u0 a 0 k) fun v y b l m=>?_
 obtain ⟨z,rfl,n⟩:=m
 replace a:=a.mono b
 simp only[aU] at l
 obtain ⟨d38,B,rfl,C,D,-⟩:=id n
 refine aE ?_
 try simp only[*,go_sem]
 refine aa hJ (af hJ ?_)
 simp only[*,go_sem]
 revert h;refine jC hJ (by simp only[*,go_sem]) (fun o h=>?_) fun o h=>?_
 ·obtain rfl:=sI h
  refine aa hJ (af hJ ?_)
  simp only[*,go_sem]
  refine av ?_
  simp only[*,go_sem]
  exact ⟨_,b,Le.sub (List.nil_sublist _),_,_,_,_,rfl,⟨ax.nil _ _,ax.nil _ _,ax.nil _ _,ax.nil _ _⟩⟩
 obtain rfl:=sI h
 refine aD hJ (aa hJ ?_)
 refine af hJ ?_
 simp only[*,go_sem]
 refine av ?_
 simp only[*,go_sem]
 exact ⟨_,b,Le.sub (List.nil_sublist _),_,_,_,_,rfl,a⟩
def pZ (u0:aj)(c:bx):Option (aj×Int):=
 ah (gD u0) fun a=>cond ((a != 0)) (some ((⟨0,0,(⟨0,0⟩:au),([]:(List bZ)),([]:(List b6)),([]:(List bV)),([]:(List bx))⟩:aj),a)) (ah (lY u0 c) fun d=>ah (nP d) fun b=>some (b.1,b.2))
theorem Fx {ro:Addr->Option Value}(u0:aj){s1 f g i:Value}(j:bt ro u0 s1 f g i)(c:bx){r:(aj×Int)}(h:pZ u0 c=some r):c9 Tryz.prog 32 #[bv u0 s1 f g i,.agg #[.int .i64 c.aT,.bool c.bg]] ro (fun v aI=>∃k w1 w2 w3,v= .tuple #[bv r.1 k w1 w2 w3,.int .i64 r.2]/\bt aI r.1 k w1 w2 w3):=by
 unfold pZ at h
 refine aA.go Tryz.func32 rfl Tryz.ntmps32 Tryz.results32 (by simp) fun main J hJ A D hd hs=>?_
 have E:=hs 0
 have k1:=hs 1
 clear hs
 refine aa hJ (af hJ ?_)
 simp only[*,go_sem]
 refine an fun F G l=>?_;try simp only[ak] at l
 refine an fun H I m=>?_;try simp only[ak] at m
 refine an fun K L n=>?_;try simp only[ak] at n
 try simp only[*,go_sem]
 refine aa hJ (aa hJ (af hJ ?_))
 revert h;refine bS fun M o h=>?_
 simp only[*,go_sem]
 refine aO hJ _ (sj u0 (j.mono aN) o) (aE ?_)
 try simp only[*,go_sem]
 refine aa hJ (af hJ ?_)
 simp only[*,go_sem]
 revert h;refine jC hJ (by simp only[*,go_sem]) (fun q h=>?_) fun q h=>?_
 ·obtain rfl:=sI h
  refine aa hJ (af hJ ?_)
  simp only[*,go_sem]
  refine av ?_
  simp only[*,go_sem]
  exact ⟨_,Ext.refl _,Le.sub (List.nil_sublist _),_,_,_,_,rfl,⟨ax.nil _ _,ax.nil _ _,ax.nil _ _,ax.nil _ _⟩⟩
 refine aD hJ (aa hJ ?_)
 refine af hJ ?_
 revert h;refine bS fun s u h=>?_
 simp only[*,go_sem]
 refine bN hJ _ (lZ u0 j c u) fun v N w x d=>?_
 obtain ⟨O,P,Q,R,rfl,a⟩:=d
 simp only[aU] at x
 obtain ⟨d42,S,rfl,T,U,-⟩:=id a.e
 obtain ⟨d49,V,rfl,W,X,-⟩:=id a.p
 obtain ⟨d56,Y,rfl,Z,ab,-⟩:=id a.y
 obtain ⟨d63,ad,rfl,ae,al,-⟩:=id a.t
 refine aE ?_
 revert h;refine bS fun ao z h=>?_
 obtain rfl:=sI h
 try simp only[*,go_sem]
 refine bN hJ _ (z0 s a z) fun v ar B C d=>?_
 obtain ⟨a0,a2,a3,a4,rfl,b⟩:=d
 simp only[aU] at C
 obtain ⟨d75,a5,rfl,a6,a7,-⟩:=id b.e
 obtain ⟨d82,a8,rfl,a9,ba,-⟩:=id b.p
 obtain ⟨d89,bb,rfl,bc,bd,-⟩:=id b.y
 obtain ⟨d96,bj,rfl,bk,bl,-⟩:=id b.t
 refine aE ?_
 try simp only[*,go_sem]
 refine av ?_
 simp only[*,go_sem]
 exact ⟨_,(w).trans B,Le.sub (List.nil_sublist _),_,_,_,_,rfl,b⟩
def p5 (u0:aj)(a:Int)(c:cr):Option (aj×Int):=
 ah (gD u0) fun d=>cond ((d != 0)) (some ((⟨0,0,(⟨0,0⟩:au),([]:(List bZ)),([]:(List b6)),([]:(List bV)),([]:(List bx))⟩:aj),d)) (ah (lU u0 a) fun f=>cond (!f) (some ((⟨0,0,(⟨0,0⟩:au),([]:(List bZ)),([]:(List b6)),([]:(List bV)),([]:(List bx))⟩:aj),6)) (ah (kC c 0 60) fun g=>cond (!g) (some ((⟨0,0,(⟨0,0⟩:au),([]:(List bZ)),([]:(List b6)),([]:(List bV)),([]:(List bx))⟩:aj),1)) (ah (bq u0.aC a) fun h=>ah (r9 h.high c) fun b=>cond (decide (b.high<b.low)) (some ((⟨0,0,(⟨0,0⟩:au),([]:(List bZ)),([]:(List b6)),([]:(List bV)),([]:(List bx))⟩:aj),9)) (ah (se u0 a b) fun i=>ah (nP i) fun e=>some (e.1,e.2)))))
theorem Fy {ro:Addr->Option Value}(u0:aj){s1 j k l:Value}(a:bt ro u0 s1 j k l)(f:Int)(b:cr){r:(aj×Int)}(h:p5 u0 f b=some r):c9 Tryz.prog 35 #[bv u0 s1 j k l,.int .i64 f,.agg #[.int .i64 b.low,.int .i64 b.high]] ro (fun v aI=>∃m w1 w2 w3,v= .tuple #[bv r.1 m w1 w2 w3,.int .i64 r.2]/\bt aI r.1 m w1 w2 w3):=by
 obtain ⟨d17,a2,rfl,a3,a4,-⟩:=id a.y
 unfold p5 at h
 refine aA.go Tryz.func35 rfl Tryz.ntmps35 Tryz.results35 (by simp) fun main J hJ A n hd hs=>?_
 have o:=hs 0
 have k1:=hs 1
 have q:=hs 2
 clear hs
 refine aa hJ (af hJ ?_)
 simp only[*,go_sem]
 refine an fun a5 a6 w=>?_;try simp only[ak] at w
 refine an fun a7 a8 x=>?_;try simp only[ak] at x
 refine an fun a9 ba z=>?_;try simp only[ak] at z
 try simp only[*,go_sem]
 refine aa hJ (aa hJ (af hJ ?_))
 revert h;refine bS fun bb B h=>?_
 simp only[*,go_sem]
 refine aO hJ _ (sj u0 (a.mono aN) B) (aE ?_)
 try simp only[*,go_sem]
 refine aa hJ (af hJ ?_)
 simp only[*,go_sem]
 revert h;refine jC hJ (by simp only[*,go_sem]) (fun C h=>?_) fun C h=>?_
 ·obtain rfl:=sI h
  refine aa hJ (af hJ ?_)
  simp only[*,go_sem]
  refine av ?_
  simp only[*,go_sem]
  exact ⟨_,Ext.refl _,Le.sub (List.nil_sublist _),_,_,_,_,rfl,⟨ax.nil _ _,ax.nil _ _,ax.nil _ _,ax.nil _ _⟩⟩
 refine aD hJ (aa hJ ?_)
 refine aa hJ (af hJ ?_)
 revert h;refine bS fun bc D h=>?_
 simp only[*,go_sem]
 refine aO hJ _ (zQ u0 (a.mono aN) f D) (aE ?_)
 try simp only[*,go_sem]
 revert h;refine jC hJ (by simp only[*,go_sem]) (fun E h=>?_) fun E h=>?_
 ·obtain rfl:=sI h
  refine aa hJ (af hJ ?_)
  simp only[*,go_sem]
  refine av ?_
  simp only[*,go_sem]
  exact ⟨_,Ext.refl _,Le.sub (List.nil_sublist _),_,_,_,_,rfl,⟨ax.nil _ _,ax.nil _ _,ax.nil _ _,ax.nil _ _⟩⟩
 refine aD hJ (aa hJ ?_)
 refine aa hJ (af hJ ?_)
 revert h;refine bS fun bd G h=>?_
 simp only[*,go_sem]
 refine aO hJ _ (zS b 0 60 G) (aE ?_)
 try simp only[*,go_sem]
 revert h;refine jC hJ (by simp only[*,go_sem]) (fun H h=>?_) fun H h=>?_
 ·obtain rfl:=sI h
  refine aa hJ (af hJ ?_)
  simp only[*,go_sem]
  refine av ?_
  simp only[*,go_sem]
  exact ⟨_,Ext.refl _,Le.sub (List.nil_sublist _),_,_,_,_,rfl,⟨ax.nil _ _,ax.nil _ _,ax.nil _ _,ax.nil _ _⟩⟩
 refine aD hJ (aa hJ ?_)
 refine cQ hJ mixed 8 3 (by simp only[*,go_sem]) (by kernel_rfl) ?_
 revert h;refine bS fun s I h=>?_
 obtain ⟨bj,bk,u⟩:=bX I
 obtain ⟨bl,K,L,M,g⟩:=a.y.el _ _ u
 obtain rfl:K=s.cells:=M
 cases L
 have N:=g 0 _ rfl;simp only[go_sem] at N
 have O:=g 1 _ rfl;simp only[go_sem] at O
 have P:=g 2 _ rfl;simp only[go_sem] at P
 clear g u
 revert h;refine bS fun Q R h=>?_
 try simp only[*,go_sem]
 refine ⟨_,bB hJ fun F bm=>Fc s.high b R,?_⟩
 try simp only[*,go_sem]
 refine an fun bo br S=>?_;try simp only[ak] at S
 try simp only[*,go_sem]
 refine aa hJ (aa hJ (af hJ ?_))
 simp only[*,go_sem]
 revert h;refine jC hJ (by simp only[*,go_sem]) (fun T h=>?_) fun T h=>?_
 ·obtain rfl:=sI h
  refine aa hJ ?_
  refine eM [1,3,6,7,9] fun bs U V W=>?_
  simp only[*,go_sem] at U V W
  clear n hd o k1 q
  refine af hJ ?_
  simp only[*,go_sem]
  refine av ?_
  simp only[*,go_sem]
  exact ⟨_,Ext.refl _,Le.sub (List.nil_sublist _),_,_,_,_,rfl,⟨ax.nil _ _,ax.nil _ _,ax.nil _ _,ax.nil _ _⟩⟩
 refine aD hJ (aa hJ ?_)
 refine eM [1,3,6,7,9] fun bz X Y Z=>?_
 simp only[*,go_sem] at X Y Z
 clear n hd o k1 q
 refine af hJ ?_
 revert h;refine bS fun ab ad h=>?_
 simp only[*,go_sem]
 refine bN hJ _ (Fg u0 a f Q ad) fun v b0 ae al i=>?_
 obtain ⟨b1,b2,b3,b4,rfl,c⟩:=i
 simp only[aU] at al
 obtain ⟨d57,b5,rfl,ca,cb,-⟩:=id c.e
 obtain ⟨d64,cd,rfl,cf,cl,-⟩:=id c.p
 obtain ⟨d71,cy,rfl,cS,c0,-⟩:=id c.y
 obtain ⟨d78,da,rfl,db,dd,-⟩:=id c.t
 refine aE ?_
 revert h;refine bS fun df ao h=>?_
 obtain rfl:=sI h
 try simp only[*,go_sem]
 refine bN hJ _ (z0 ab c ao) fun v dk ar a0 i=>?_
 obtain ⟨dp,dq,ds,dt,rfl,d⟩:=i
 simp only[aU] at a0
 obtain ⟨d90,du,rfl,dv,dC,-⟩:=id d.e
 obtain ⟨d97,dE,rfl,dT,ea,-⟩:=id d.p
 obtain ⟨d104,eb,rfl,ec,ed,-⟩:=id d.y
 obtain ⟨d111,eh,rfl,et,ev,-⟩:=id d.t
 refine aE ?_
 try simp only[*,go_sem]
 refine av ?_
 simp only[*,go_sem]
 exact ⟨_,(ae).trans ar,Le.sub (List.nil_sublist _),_,_,_,_,rfl,d⟩
def mc (u0:aj)(a:((List (List Int))×Int))(b:Int)(st:(Int×Int)):Option (Fl (Int×Int) (Int×Int×Int)):=
 cond (decide (st.2<(a.1.length:Int))) (ah (bq a.1 st.2) fun c=>ah (bq c b) fun d=>ah (nF u0 b d) fun e=>ah (l7 u0 e) fun f=>cond (f) (some (.nx ((IntKind.i64.wrap (st.1+1)),(IntKind.i64.wrap (st.2+1))))) (some (.nx (st.1,(IntKind.i64.wrap (st.2+1)))))) (some (.bk (st.1,st.2)))
def me (u0:aj)(b:((List (List Int))×Int))(st:(Int×Int×Int)):Option (Fl (Int×Int×Int) (Int×Int×Int)):=
 cond (decide (st.2.2<(u0.aC.length:Int))) (ah (aR (mc u0 b st.2.2) fu (0,0)) fun o=>aF o (fun a=>cond (decide ((if a.1<IntKind.i64.wrap ((b.1.length:Int) - a.1) then IntKind.i64.wrap ((b.1.length:Int) - a.1) else a.1)<st.2.1)) (some (.nx (st.2.2,(if a.1<IntKind.i64.wrap ((b.1.length:Int) - a.1) then IntKind.i64.wrap ((b.1.length:Int) - a.1) else a.1),(IntKind.i64.wrap (st.2.2+1))))) (some (.nx (st.1,st.2.1,(IntKind.i64.wrap (st.2.2+1)))))) (fun _ _=>none) (fun r=>some (.rt r))) (some (.bk (st.1,st.2.1,st.2.2)))
def p6 (u0:aj):Option (Int×Int×Int):=
 ah (kF u0 0) fun a=>cond ((a.2 != 0)) (some (0,0,a.2)) (ah (aR (me u0 a) fu ((-1),(a.1.length:Int),0)) fun o=>aF o (fun b=>some (b.1,b.2.1,0)) (fun _ _=>none) (fun r=>some r))
theorem Fz {ro:Addr->Option Value}(u0:aj){s1 g w i:Value}(c:bt ro u0 s1 g w i){r:(Int×Int×Int)}(h:p6 u0=some r):aA Tryz.prog 30 #[bv u0 s1 g w i] ⟨ro,[]⟩ (fun v _=>v= .tuple #[.int .i64 r.1,.int .i64 r.2.1,.int .i64 r.2.2]):=by
 obtain ⟨d17,x,rfl,b0,b1,-⟩:=id c.y
 unfold p6 at h
 refine aA.go Tryz.func30 rfl Tryz.ntmps30 Tryz.results30 (by simp) fun main J hJ A O hd hs=>?_
 have P:=hs 0
 clear hs
 refine aa hJ (af hJ ?_)
 simp only[*,go_sem]
 refine an fun z b2 Q=>?_;try simp only[ak] at Q
 try simp only[*,go_sem]
 refine aa hJ (af hJ ?_)
 revert h;refine bS fun e R h=>?_
 simp only[*,go_sem]
 refine bN hJ _ (zZ u0 c 0 R) fun v B S T U=>?_
 obtain ⟨b3,rfl,C⟩:=U
 replace c:=c.mono S
 simp only[aU] at T
 obtain ⟨d37,b4,rfl,b5,ca,-⟩:=id C
 refine aE ?_
 try simp only[*,go_sem]
 refine aa hJ (aa hJ (af hJ ?_))
 simp only[*,go_sem]
 revert h;refine jC hJ (by simp only[*,go_sem]) (fun V h=>?_) fun V h=>?_
 ·obtain rfl:=sI h
  refine aa hJ (af hJ ?_)
  simp only[*,go_sem]
  refine av ?_
  simp only[*,go_sem]
 refine aD hJ (aa hJ ?_)
 refine af hJ ?_
 simp only[*,go_sem]
 refine aa hJ (aa hJ (af hJ ?_))
 simp only[*,go_sem]
 refine aM hJ ?_
 revert h;refine bS fun W j X=>?_
 refine bM hJ [7,8,9,10,11,12,23,24,25,26,27,28,29,30,31,32,33,34,35,36,37,38,39,40,41,42,43,44,45,46,47,48,49,50,51,52,53,54,55,56,57,58,59,60] (fun m d F'=>∃(k:Int) (l:Int) (b:Int),aR (me u0 e) m (k,l,b)=some W/\F'=⟨B,(z,bk u0 s1 g (sl d17 u0.aC x) i)::[]⟩/\slot d 7= .int .i64 k/\slot d 8= .int .i64 l/\slot d 9= .int .i64 b) fu ?_ ?_
 ·refine ⟨(-1),(e.1.length:Int),0,j,rfl,?_⟩
  simp only[*,go_sem]
 rintro n Y F' D ⟨k,l,b,j,rfl,Z,ab,ad⟩
 obtain ⟨E,G,H⟩:=D.pick [1,2,3,4,5] (by decide)
 simp only[*,go_sem] at E G H
 clear D O hd P
 obtain _|n:=n
 ·exact absurd j (by simp only[aR,reduceCtorEq,not_false_eq_true])
 revert j;refine bS fun cb h o=>?_
 unfold me at h
 try dsimp only at h
 refine aa hJ (aa hJ (af hJ ?_))
 simp only[*,go_sem]
 revert h;refine jC hJ (by simp only[*,go_sem]) (fun ae h=>?_) fun ae h=>?_
 ·refine aD hJ (aa hJ ?_)
  refine aM hJ (aa hJ ?_)
  refine af hJ ?_
  simp only[*,go_sem]
  refine aa hJ (aa hJ (af hJ ?_))
  simp only[*,go_sem]
  refine aM hJ ?_
  revert h;refine bS fun al p ao=>?_
  refine bM hJ [10,11,30,31,32,33,34,35,36,37,38,39,40,41,42,43,44,45,46,47,48,49] (fun m d F'=>∃(a:Int) (f:Int),aR (mc u0 e b) m (a,f)=some al/\F'=⟨B,(z,bk u0 s1 g (sl d17 u0.aC x) i)::[]⟩/\slot d 10= .int .i64 a/\slot d 11= .int .i64 f) fu ?_ ?_
  ·refine ⟨0,0,p,rfl,?_⟩
   simp only[*,go_sem]
  rintro q ar F' t ⟨a,f,p,rfl,cd,cf⟩
  obtain ⟨a0,a2,a3⟩:=t.pick [1,2,3,4,5,7,8,9,23,24,25,26,27] (by decide)
  simp only[*,go_sem] at a0 a2 a3
  have cl:cW [7,8,9,10,11,12,23,24,25,26,27,28,29,30,31,32,33,34,35,36,37,38,39,40,41,42,43,44,45,46,47,48,49,50,51,52,53,54,55,56,57,58,59,60] ar Y:=(t.fD (by decide)).trans (by simp only[*,go_sem])
  clear t E G H Z ab ad
  obtain _|q:=q
  ·exact absurd p (by simp only[aR,reduceCtorEq,not_false_eq_true])
  revert p;refine bS fun cy h s=>?_
  unfold mc at h
  try dsimp only at h
  refine aa hJ (aa hJ (af hJ ?_))
  simp only[*,go_sem]
  revert h;refine jC hJ (by simp only[*,go_sem]) (fun a4 h=>?_) fun a4 h=>?_
  ·refine aD hJ (aa hJ ?_)
   refine aM hJ (aa hJ ?_)
   refine cQ hJ mixed 12 1 (by simp only[*,go_sem]) (by kernel_rfl) ?_
   revert h;refine bS fun cS a5 h=>?_
   obtain ⟨c0,da,I⟩:=bX a5
   obtain ⟨db,dd,a6,a7,K⟩:=C.el _ _ I
   obtain ⟨df,rfl,a8⟩:=a7;obtain ⟨d63,dk,rfl,dp,dq,a9⟩:=id a8
   cases a6
   have ba:=K 0 _ rfl;simp only[go_sem] at ba
   clear K I
   revert h;refine bS fun L bb h=>?_
   obtain ⟨ds,dt,M⟩:=bX bb
   obtain ⟨du,bc,bd,bj,N⟩:=a9 _ _ M
   obtain rfl:bc=[.int .i64 L]:=bj
   cases bd
   have bl:=N 0 _ rfl;simp only[go_sem] at bl
   clear N M
   revert h;refine bS fun bm bo h=>?_
   try simp only[*,go_sem]
   refine ⟨_,bB hJ fun F u=>zT u0 (c.mono (bQ u)) b L bo,cc ?_⟩
   revert h;refine bS fun dv br h=>?_
   try simp only[*,go_sem]
   refine ⟨_,bB hJ fun F u=>zX u0 (c.mono (bQ u)) bm br,?_⟩
   try simp only[*,go_sem]
   revert h;refine jC hJ (by simp only[*,go_sem]) (fun bs h=>?_) fun bs h=>?_
   ·obtain rfl:=sI h
    refine af hJ ?_
    simp only[*,go_sem]
    refine af hJ ?_
    simp only[*,go_sem]
    refine ⟨q,Nat.lt_succ_self _,_,Le.sub (List.Sublist.refl _),(IntKind.i64.wrap (a+1)),(IntKind.i64.wrap (f+1)),s,rfl,?_⟩
    simp only[*,go_sem]
   obtain rfl:=sI h
   refine aD hJ (af hJ ?_)
   simp only[*,go_sem]
   refine ⟨q,Nat.lt_succ_self _,_,Le.sub (List.Sublist.refl _),a,(IntKind.i64.wrap (f+1)),s,rfl,?_⟩
   simp only[*,go_sem]
  obtain rfl:=sI h
  refine bJ ?_
  simp only[go_sem]
  obtain rfl:=sI s;clear s
  have h:=ao
  dsimp only[aF] at h
  refine aa hJ (af hJ ?_)
  simp only[*,go_sem]
  refine aa hJ (af hJ ?_)
  simp only[*,go_sem]
  revert h;refine jC hJ (by simp only[*,go_sem]) (fun bz h=>?_) fun bz h=>?_
  ·obtain rfl:=sI h
   refine af hJ ?_
   simp only[*,go_sem]
   refine af hJ ?_
   simp only[*,go_sem]
   refine ⟨n,Nat.lt_succ_self _,_,Le.sub (List.Sublist.refl _),b,(if a<IntKind.i64.wrap ((e.1.length:Int) - a) then IntKind.i64.wrap ((e.1.length:Int) - a) else a),(IntKind.i64.wrap (b+1)),o,rfl,?_⟩
   simp only[*,go_sem]
  obtain rfl:=sI h
  refine aD hJ (af hJ ?_)
  simp only[*,go_sem]
  refine ⟨n,Nat.lt_succ_self _,_,Le.sub (List.Sublist.refl _),k,l,(IntKind.i64.wrap (b+1)),o,rfl,?_⟩
  simp only[*,go_sem]
 obtain rfl:=sI h
 refine bJ ?_
 simp only[go_sem]
 obtain rfl:=sI o;clear o
 have h:=X
 dsimp only[aF] at h
 obtain rfl:=sI h
 refine aa hJ (af hJ ?_)
 simp only[*,go_sem]
 refine av ?_
 simp only[*,go_sem]
end Go.Proofs.YtipgiooobncfbaaGreatDoor
end
section
namespace Go.Sep
open Go Go.Conc
theorem aP.FA {T:Type}{ro:Addr->Option Value}{e:TypeId}{b:Nat}{r:bY T}{v:Value}{x:List T}(a:∀off sp,ro ⟨b,off,sp⟩=none)(h:(rL r).rel ro x [v]):
  aP (rL r) ro e (.slice (some ⟨b,0,none⟩) 1 1) [x] [(b,Obj.cells #[v] e)]:=by
 refine ⟨[[v]],.inr ⟨b,#[v],1,rfl,rfl,by simp[rL],Nat.le_refl _,by simp[rL],?_,a⟩,rfl,by simp,fun i y hi=>?_⟩
 ·simp[rL]
 ·cases i with
  |zero=>simp at hi;subst hi;exact ⟨[v],rfl,h⟩
  |succ i=>simp at hi
def gU (P:Program)(J:Goroutine->ag->Prop)(ops:Array Oper)(F0:ag)(Q:Act->ag->Prop):List Oper->Bool->Act->ag->Prop
 |[],_,a,F=>Q a F
 |o::rest,_,a,F=>match cq ops o a with
  |some true=>cB P J o (fun v F'=>Knows F0 F'/\gU P J ops F0 Q rest (!Oper.calls o) (aY a o.dst v) F') a F
  |some false=>gU P J ops F0 Q rest true (aY a o.dst undef) F
  |none=>False
theorem FB {P:Program}{J:Goroutine->ag->Prop}{ops:Array Oper}{F0:ag}{Q:Act->ag->Prop}{go:Bool}{a:Act}{F:ag}:gU P J ops F0 Q [] go a F=Q a F:=rfl
theorem FC {P:Program}{J:Goroutine->ag->Prop}{ops:Array Oper}{F0:ag}{Q:Act->ag->Prop}{o:Oper}{rest:List Oper}{a:Act}{F:ag}:gU P J ops F0 Q (o::rest) true a F=match cq ops o a with
  |some true=>cB P J o (fun v F'=>Knows F0 F'/\gU P J ops F0 Q rest (!Oper.calls o) (aY a o.dst v) F') a F
  |some false=>gU P J ops F0 Q rest true (aY a o.dst undef) F
  |none=>False:=(Eq.refl _).trans (Eq.refl _)
theorem z1 {P:Program}{J:Goroutine->ag->Prop}{ops:Array Oper}{F0:ag}{Q:Act->ag->Prop}:∀{l:List Oper} {go:Bool} {a:Act} {F:ag},gU P J ops F0 Q l true a F->gU P J ops F0 Q l go a F
 |[],_,_,_,h=>h
 |_::_,_,_,_,h=>h
section
variable {P : Program} {main : Bool} {J : Goroutine → ag → Prop} {ops : Array Oper} {Q : Act → ag → Prop} {F0 : ag}
theorem vV (m:Nat)(c:∀j,j<ops.size - m->Region.ready .any ops (cE ops.size (m+j))=[m+j])(d:Region.ready .any ops (cE ops.size ops.size)=[]):
  ∀(l:List Oper) (k:Nat) (go:Bool) (a:Act) (F:ag),Knows F0 F->m<=k->k<=ops.size->ops.toList.drop k=l->gU P J ops F0 Q l go a F->dr P J ops Q (Knows F0) (ops.size - k) (cE ops.size k) a F
 |[],k,_,a,F,_,q,r,b,h=>by
  have:k=ops.size:=by
   have:=congrArg List.length b
   simp at this
   omega
  subst this
  exact tg d h _
 |o::rest,k,_,a,F,g,q,r,b,h=>by
  have i:k<ops.size:=by
   rcases Nat.lt_or_ge k ops.size with x|x
   ·exact x
   ·rw[List.drop_eq_nil_of_le (by simpa using x)] at b;cases b
  have n:ops[k]?=some o:=by
   have:=congrArg List.head? b
   simpa [List.head?_drop] using this
  have p:ops.toList.drop (k+1)=rest:=by
   have:=congrArg List.tail b
   simpa [List.tail_drop] using this
  have e:ops.size - k=(ops.size - (k+1))+1:=by omega
  have f:=c (k - m) (by omega)
  rw[show m+(k - m)=k by omega] at f
  rw[e]
  unfold gU at h
  split at h
  ·rename_i hg
   refine tP k n f hg ?_
   refine j7.oM ?_ h
   rintro v F' ⟨h1,h2⟩
   refine ⟨h1,?_⟩
   rw[mP i]
   exact vV m c d rest (k+1) _ _ F' h1 (by omega) (by omega) p h2
  ·rename_i hg
   refine xV k f ?_
   unfold dn
   simp only[n]
   rw[b7 hg]
   refine ⟨g,?_⟩
   rw[mP i]
   exact vV m c d rest (k+1) _ _ F g (by omega) (by omega) p h
  ·exact h.elim
theorem FD {Q:Ex->Act->ag->Prop}(hJ:Closed P main J)(e:P.follows .mixedOrders=true)(m n:Nat){id:Nat}{a:Act}{F:ag}(c:Knows ⟨F.ro,F.own.take n⟩ F)(f:k7 ops m=true)
  (h:dI P J ops ⟨F.ro,F.own.take n⟩ (fun b=>gU P J ops ⟨F.ro,F.own.take n⟩ (Q .normal) (ops.toList.drop m) true b F) (ops.toList.take m) true a):Wp J (.region id ops true) Q a F:=by
 have d:=tV f
 simp only[mO,Bool.and_eq_true,decide_eq_true_eq,List.all_eq_true,List.mem_range] at d
 obtain ⟨⟨⟨⟨h1,h2⟩,h3⟩,g⟩,j⟩:=d
 refine qw hJ (Knows ⟨F.ro,F.own.take n⟩) e ?_
 rw[<-tX]
 have:=oL (P:=P) (J:=J) (Q:=Q .normal) m h2 h1 (fun i hi=>by have:=h3 i hi;simpa using this) c (fun b k=>vV m g j _ m _ b F c (Nat.le_refl _) h2 rfl k) _ 0 true a (by simp) (Nat.zero_le _) h
 simpa using this
end
attribute [irreducible] gU
attribute [go_sem] FB FC
end Go.Sep
end
section
namespace Go.Proofs.YtipgiooobncfbaaGreatDoor
open Go Go.Sep Go.Proofs
set_option maxRecDepth 100000
set_option maxHeartbeats 4000000
def vW (b:Int)(c:Int)(st:((List (List Int))×Int)):Option (Fl ((List (List Int))×Int) (List (List Int))):=
 cond (decide (0<=st.2)) (ah (bq st.1 st.2) fun a=>cond (decide ((a.length:Int)<b)) (ah (cI ([]:List Int) a) fun d=>ah (cI d ([c])) fun e=>ah (cI st.1 ([e])) fun f=>some (.nx (f,(IntKind.i64.wrap (st.2 - 1))))) (some (.nx (st.1,(IntKind.i64.wrap (st.2 - 1)))))) (some (.bk (st.1,st.2)))
def vX (u0:Int)(a:Int)(st:((List (List Int))×Int)):Option (Fl ((List (List Int))×Int) (List (List Int))):=
 cond (decide (st.2<u0)) (ah (aR (vW a st.2) fu (st.1,(IntKind.i64.wrap ((st.1.length:Int) - 1)))) fun o=>aF o (fun b=>some (.nx (b.1,(IntKind.i64.wrap (st.2+1))))) (fun _ _=>none) (fun r=>some (.rt r))) (some (.bk (st.1,st.2)))
def sn (u0:Int)(a:Int):Option (List (List Int)):=
 ah (aR (vX u0 a) fu (([([]:(List Int))]),0)) fun o=>aF o (fun b=>some b.1) (fun _ _=>none) (fun r=>some r)
theorem FE {ro:Addr->Option Value}(u0:Int)(s:Int){r:(List (List Int))}(h:sn u0 s=some r):c9 Tryz.prog 98 #[.int .i64 u0,.int .i64 s] ro (fun v aI=>∃M,v=M/\ax (rL rI) aI M r):=by
 unfold sn at h
 refine aA.go Tryz.func98 rfl Tryz.ntmps98 Tryz.results98 (by simp) fun main J hJ A a8 hd hs=>?_
 have a9:=hs 0
 have k1:=hs 1
 clear hs
 refine aa hJ (af hJ ?_)
 simp only[*,go_sem]
 refine aa hJ ?_
 refine aH hJ fun ba=>?_
 refine af hJ ?_
 simp only[*,go_sem]
 refine an fun b2 r2 n2=>?_;have e1:=aL.cons n2 ba;try simp only[ak] at n2
 try simp only[*,go_sem]
 refine aa hJ (aa hJ (af hJ ?_))
 simp only[*,go_sem]
 have bb:aP (rL rI) ro 46 (.slice (some ⟨b2,0,none⟩) 1 1) [([]:(List Int))] [(b2,Obj.cells #[.slice none 0 0] 46)]:=aP.FA r2 ⟨_,rfl,ax.nil _ _⟩
 refine aM hJ ?_
 revert h;refine bS fun bc t bd=>?_
 refine bM hJ [5,6,7,9,10,11,12,13,14,15,16,17,18,19,20,21,22,23,24,25,26,27,28,29,30,31,32,33,34,35,36,37,38,39] (fun m n F'=>∃(j:Addr->Option Value) (d7:Option Addr) (o:Nat) (d:List (Nat×Obj)) (v6:(List (List Int))) (a:Int),aR (vX u0 s) m (v6,a)=some bc/\F'=⟨j,d⟩/\Ext ro j/\aP (rL rI) j 46 (.slice d7 v6.length o) v6 d/\v6.length<=o/\slot n 5= .slice d7 v6.length o/\slot n 6= .int .i64 a) fu ?_ ?_
 ·refine ⟨ro,(some ⟨b2,0,none⟩),1,[(b2,Obj.cells #[.slice none 0 0] 46)],([([]:(List Int))]),0,t,rfl,Ext.refl _,bb,(Nat.le_refl 1),?_⟩
  simp only[*,go_sem]
 rintro C bj F' N ⟨j,d7,o,d,v6,a,t,rfl,O,P,bk,bl,bm⟩
 refine ez hJ fun _ bo=>?_
 simp only[aU] at bo
 obtain ⟨Q,R,S⟩:=N.pick [0,1,4] (by decide)
 simp only[*,go_sem] at Q R S
 clear N a8 hd a9 k1
 obtain _|C:=C
 ·exact absurd t (by simp only[aR,reduceCtorEq,not_false_eq_true])
 revert t;refine bS fun e3 h D=>?_
 unfold vX at h
 try dsimp only at h
 refine aa hJ (aa hJ ?_)
 refine aH hJ fun fa=>?_
 refine af hJ ?_
 simp only[*,go_sem]
 revert h;refine jC hJ (by simp only[*,go_sem]) (fun br h=>?_) fun br h=>?_
 ·refine aD hJ (aa hJ ?_)
  refine aM hJ (aa hJ ?_)
  refine aH hJ fun fb=>?_
  refine af hJ ?_
  simp only[*,go_sem]
  refine aM hJ ?_
  revert h;refine bS fun bs u bz=>?_
  refine bM hJ [5,7,17,18,19,20,21,22,23,24,25,26,27,28,29,30,31,32,33,34,35,36,37,38,39] (fun m n F'=>∃(f:Addr->Option Value) (d25:Option Addr) (k:Nat) (w:List (Nat×Obj)) (e:(List (List Int))) (v30:Int),aR (vW s a) m (e,v30)=some bs/\F'=⟨f,w⟩/\Ext j f/\aP (rL rI) f 46 (.slice d25 e.length k) e w/\e.length<=k/\slot n 5= .slice d25 e.length k/\slot n 7= .int .i64 v30) fu ?_ ?_
  ·refine ⟨j,d7,o,d,v6,(IntKind.i64.wrap ((v6.length:Int) - 1)),u,rfl,Ext.refl _,P,bk,?_⟩
   simp only[*,go_sem]
  rintro y b0 F' E ⟨f,d25,k,w,e,v30,u,rfl,F,i,T,fg,fi⟩
  refine ez hJ fun _ b1=>?_
  simp only[aU] at b1
  obtain ⟨b3,b4,b5⟩:=E.pick [0,1,4,6,9,10,11,15,16] (by decide)
  simp only[*,go_sem] at b3 b4 b5
  have fp:cW [5,6,7,9,10,11,12,13,14,15,16,17,18,19,20,21,22,23,24,25,26,27,28,29,30,31,32,33,34,35,36,37,38,39] b0 bj:=(E.fD (by decide)).trans (by simp only[*,go_sem])
  clear E Q R S bl bm
  obtain _|y:=y
  ·exact absurd u (by simp only[aR,reduceCtorEq,not_false_eq_true])
  revert u;refine bS fun fr h z=>?_
  unfold vW at h
  try dsimp only at h
  refine aa hJ (aa hJ ?_)
  refine aH hJ fun fs=>?_
  refine af hJ ?_
  simp only[*,go_sem]
  revert h;refine jC hJ (by simp only[*,go_sem]) (fun ca h=>?_) fun ca h=>?_
  ·refine aD hJ (aa hJ ?_)
   refine aM hJ (aa hJ ?_)
   refine aH hJ fun cb=>?_
   refine af hJ ?_
   revert h;refine bS fun cd cf h=>?_
   obtain ⟨ft,fv,cl⟩:=bX cf
   obtain ⟨b,c,fw,rfl,rfl,fx,cy,cS⟩:=i.qZ cl
   obtain ⟨gg,rfl,U⟩:=cy;obtain ⟨d45,gl,rfl,gn,gp,gB⟩:=id U
   have c0:=cb.nd
   simp only[keys,List.map_cons,List.map_nil,List.map_append,List.cons_append,List.nil_append,List.nodup_cons,List.mem_cons,List.mem_append,List.not_mem_nil,or_false,not_or] at c0
   have V:=cS 0 _ rfl;simp only[go_sem] at V;have gC:=(Array.getElem?_eq_some_iff.1 V).1
   try simp only[*,go_sem]
   revert h;refine jC hJ (by simp only[*,go_sem]) (fun da h=>?_) fun da h=>?_
   ·refine aH hJ fun db=>?_
    refine af hJ ?_
    revert h;refine bS fun dd df h=>?_
    obtain ⟨dk,W⟩:=cG df
    simp only[*,go_sem]
    refine an fun X dp Y=>?_;have dq:=aL.cons Y db;try simp only[ak] at Y
    try simp only[*,go_sem]
    have ds:aP rI f 3 (.slice (some ⟨X,0,none⟩) 0 0) ([]:List Int) [(X,.cells #[] 3)]:=aP.empty dp
    refine y6 (r:=rI) (l:=([]:List Int)) (xs:=cd) [] ([(b,Obj.cells c 46)]) (by first|rfl|simp only[List.append_nil,List.cons_append,List.nil_append,List.append_assoc]|(simp only[List.append_nil,List.cons_append,List.nil_append,List.append_assoc];rfl)) ds dq dk U rfl rfl dL dL gm gr rfl gq (by decide) (by decide) (fun gM p G d q dt=>?_)
    simp only[List.append_nil,List.cons_append,List.nil_append,List.append_assoc] at q
    subst d
    rw[<-W] at G;clear W
    obtain ⟨d101,gT,rfl,gV⟩:=G.len
    have du:=aL.back (l:=(p++[(b,Obj.cells c 46)])) (l':=[]++(p++([]++[(b,Obj.cells c 46)]))) [] [] p [(b,Obj.cells c 46)] (by first|rfl|simp only[List.append_nil,List.cons_append,List.nil_append,List.append_assoc]|(simp only[List.append_nil,List.cons_append,List.nil_append,List.append_assoc];rfl)) (by first|rfl|simp only[List.append_nil,List.cons_append,List.nil_append,List.append_assoc]|(simp only[List.append_nil,List.cons_append,List.nil_append,List.append_assoc];rfl)) dt
    refine ⟨⟨f,(p++[(b,Obj.cells c 46)])⟩,Le.back [] [] p [(b,Obj.cells c 46)] (by first|rfl|simp only[List.append_nil,List.cons_append,List.nil_append,List.append_assoc]|(simp only[List.append_nil,List.cons_append,List.nil_append,List.append_assoc];rfl)) (by first|rfl|simp only[List.append_nil,List.cons_append,List.nil_append,List.append_assoc]|(simp only[List.append_nil,List.cons_append,List.nil_append,List.append_assoc];rfl)),?_⟩
    refine aE ?_
    revert h;refine bS fun B dv h=>?_
    obtain ⟨dC,Z⟩:=cG dv
    try simp only[*,go_sem]
    refine an fun g ab ad=>?_;have dE:=aL.cons ad du;try simp only[ak] at ad
    try simp only[*,go_sem]
    refine qX (r:=rI) (l:=dd) (x:=a) (cs:=#[.int .i64 a]) (e2:=3) [(g,ic a)] [(b,Obj.cells c 46)] (by first|rfl|simp only[List.append_nil,List.cons_append,List.nil_append,List.append_assoc]|(simp only[List.append_nil,List.cons_append,List.nil_append,List.append_assoc];rfl)) G dE dC rfl (by simp only[*,go_sem]) ab rfl rfl dL dL gm gr rfl gq (by decide) (by decide) (fun g0 ae H d q al=>?_)
    simp only[List.append_nil,List.cons_append,List.nil_append,List.append_assoc] at q
    subst d
    rw[<-Z] at H;clear Z
    obtain ⟨d115,I,rfl,g1⟩:=H.len
    obtain ⟨K,ao,ar,a0,dT⟩:=H.dF [(g,ic a)] [(b,Obj.cells c 46)] al (az.cons ab (i.gO))
    have ea:=aL.sub (l:=(g,ic a)::[(b,Obj.cells c 46)]) (l':=(g,ic a)::(ae++[(b,Obj.cells c 46)])) [(g,ic a)] ae [(b,Obj.cells c 46)] (by first|rfl|simp only[List.append_nil,List.cons_append,List.nil_append,List.append_assoc]|(simp only[List.append_nil,List.cons_append,List.nil_append,List.append_assoc];rfl)) (by first|rfl|simp only[List.append_nil,List.cons_append,List.nil_append,List.append_assoc]|(simp only[List.append_nil,List.cons_append,List.nil_append,List.append_assoc];rfl)) al
    refine ⟨⟨K,(g,ic a)::[(b,Obj.cells c 46)]⟩,dT,?_⟩
    obtain ⟨g2,g3,-⟩:=a0.op
    replace i:=i.mono ao ar.tl
    simp only[aU] at ar
    refine aE ?_
    revert h;refine bS fun eb ec h=>?_
    obtain rfl:=sI h
    obtain ⟨ed,a2⟩:=cG ec
    try simp only[*,go_sem]
    refine an fun a3 eh a4=>?_;have et:=aL.cons a4 ea;try simp only[ak] at a4
    try simp only[*,go_sem]
    refine qX (r:=(rL rI)) (l:=e) (x:=B) (cs:=#[.slice d115 B.length I]) (e2:=46) [(a3,.cells #[.slice d115 B.length I] 46),(g,ic a)] [] (by first|rfl|simp only[List.append_nil,List.cons_append,List.nil_append,List.append_assoc]|(simp only[List.append_nil,List.cons_append,List.nil_append,List.append_assoc];rfl)) i et ed ⟨_,rfl,a0⟩ (by simp only[*,go_sem]) eh rfl rfl fV fV lq lz rfl lu (by decide) (by decide) (fun g4 a5 L d q ha=>?_)
    simp only[List.append_nil,List.cons_append,List.nil_append,List.append_assoc] at q
    subst d
    rw[<-a2] at L;clear a2
    obtain ⟨d135,ev,rfl,eQ⟩:=L.len
    refine ⟨⟨K,(a3,.cells #[.slice d115 B.length I] 46)::(g,ic a)::a5⟩,Le.refl _,?_⟩
    refine aE ?_
    try simp only[*,go_sem]
    refine aH hJ fun hc=>?_
    refine af hJ ?_
    simp only[*,go_sem]
    refine ⟨y,Nat.lt_succ_self _,_,Le.sub (List.Sublist.cons _ (List.Sublist.cons _ (List.Sublist.refl _))),K,d135,ev,a5,eb,(IntKind.i64.wrap (v30 - 1)),z,rfl,(F.trans ao),L,eQ,?_⟩
    simp only[*,go_sem]
   obtain rfl:=sI h
   refine aD hJ ?_
   refine aH hJ fun hf=>?_
   refine af hJ ?_
   simp only[*,go_sem]
   refine ⟨y,Nat.lt_succ_self _,_,Le.sub (List.Sublist.refl _),f,(some ⟨b,0,none⟩),k,[(b,Obj.cells c 46)],e,(IntKind.i64.wrap (v30 - 1)),z,rfl,F,i,T,?_⟩
   simp only[*,go_sem]
  obtain rfl:=sI h
  refine bJ ?_
  simp only[go_sem]
  obtain rfl:=sI z;clear z
  have h:=bz
  dsimp only[aF] at h
  obtain rfl:=sI h
  refine aH hJ fun hg=>?_
  refine af hJ ?_
  simp only[*,go_sem]
  refine ⟨C,Nat.lt_succ_self _,_,Le.sub (List.Sublist.refl _),f,d25,k,w,e,(IntKind.i64.wrap (a+1)),D,rfl,(O.trans F),i,T,?_⟩
  simp only[*,go_sem]
 obtain rfl:=sI h
 refine bJ ?_
 simp only[go_sem]
 obtain rfl:=sI D;clear D
 have h:=bd
 dsimp only[aF] at h
 obtain rfl:=sI h
 refine aa hJ ?_
 refine aH hJ fun hh=>?_
 refine af hJ ?_
 simp only[*,go_sem]
 refine aH hJ fun a6=>?_
 obtain ⟨hi,eS,hj,a7,e0⟩:=P.dF [] [] a6 (az.nil _)
 clear a6
 refine cA hJ e0 ?_
 obtain ⟨hk,hl,-⟩:=a7.op
 refine av ?_
 simp only[*,go_sem]
 exact ⟨_,(O).trans eS,Le.sub (List.nil_sublist _),_,rfl,a7⟩
end Go.Proofs.YtipgiooobncfbaaGreatDoor
end

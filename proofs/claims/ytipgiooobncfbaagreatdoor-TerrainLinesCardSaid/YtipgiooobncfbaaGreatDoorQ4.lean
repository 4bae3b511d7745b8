/- A part of the proof of a row and its tied card: part 4. -/
import Derived.Test.YtipgiooobncfbaaGreatDoorQ3
set_option linter.all false
section
namespace Go.Proofs.YtipgiooobncfbaaGreatDoor
open Go Go.Sep Go.Proofs
set_option maxRecDepth 100000
set_option maxHeartbeats 4000000
def qz (u0:an):Option (an×Int):=
 ah (gy u0 ([]:(List (an->Option Int)))) fun a=>cond ((a.2 != 0)) (some ((⟨0,0,(⟨0,0⟩:ak),([]:(List bZ)),([]:(List b7)),([]:(List cA)),([]:(List bP))⟩:an),a.2)) (ah (tA u0.aB) fun b=>ah (qq u0.props) fun c=>ah (qp u0.aR) fun d=>ah (qo u0.told) fun e=>some ((⟨u0.bF,u0.bJ,u0.aT,b,c,d,e⟩:an),0))
theorem tV {ro:Addr->Option Value}(a6:cP ro)(u0:an){s1 z B C:Value}(E:bx ro u0 s1 z B C){r:(an×Int)}(h:qz u0=some r):en Tryz.prog 103 #[bv u0 s1 z B C] ro (fun v aH=>∃ao w1 w2 w3,v= .tuple #[bv r.1 ao w1 w2 w3,.int .i64 r.2]/\bx aH r.1 ao w1 w2 w3):=by
 unfold qz at h
 have a7:=E.oc;simp only[bw] at a7
 refine ay.go Tryz.func103 rfl Tryz.ntmps103 Tryz.results103 (by simp) fun main J hJ A a8 hd hs=>?_
 have a9:=hs 0
 clear hs
 refine aa hJ (ag hJ ?_)
 simp only[*,go_sem]
 refine au fun a F ba=>?_;try simp only[aj] at ba
 refine au fun b G bb=>?_;try simp only[aj] at bb
 try simp only[*,go_sem]
 refine aa hJ (aa hJ (ag hJ ?_))
 revert h;refine bS fun c bc h=>?_
 simp only[*,go_sem]
 refine bX hJ _ (iD a6 u0 E ([]:(List (an->Option Int))) (az.nil _ _) bc) fun v U ae al bd=>?_
 obtain ⟨d,f,g,i,j,rfl,bj,bl⟩:=bd
 have bm:=bj.oc;simp only[bw] at bm
 have bo:=bl.oc;simp only[bw] at bo
 replace E:=E.mono ae
 replace G:=al.hd
 replace F:=al.tl.hd
 simp only[bg] at al
 refine aC ?_
 try simp only[*,go_sem]
 refine au fun k K br=>?_;try simp only[aj] at br
 try simp only[*,go_sem]
 refine aa hJ (ag hJ ?_)
 simp only[*,go_sem]
 revert h;refine jC hJ (by simp only[*,go_sem]) (fun bs h=>?_) fun bs h=>?_
 ·obtain rfl:=sI h
  refine aa hJ (ag hJ ?_)
  simp only[*,go_sem]
  refine av ?_
  simp only[*,go_sem]
  exact ⟨_,ae,Le.sub (List.nil_sublist _),_,_,_,_,rfl,⟨az.nil _ _,az.nil _ _,az.nil _ _,az.nil _ _⟩⟩
 refine aE hJ (aa hJ ?_)
 refine aL hJ fun cS=>?_
 refine iy hJ mixed [13,14,15,16,17,18,19] (.pure 0 (.rd 1 (.pure 3 (.rd 4 (.pure 6 (.rd 7 (.pure 9 (.rd 10 (.one 2 (.pure 12 (.one 5 (.one 8 (.one 11 (.last 13 (.pure 14 (.last 15 (.pure 16 (.last 17 (.pure 18 (.last 19 .done)))))))))))))))))))) ⟨U,[(k,kn c.1 d f g i j),(b,bz 29),(a,bk u0 s1 z B C)]⟩ (by simp only[*,go_sem]) (by kernel_rfl) ?_
 revert h;refine bS fun m b0 h=>?_
 simp only[*,go_sem]
 refine fK hJ (aN:=[]) [(k,kn c.1 d f g i j),(b,bz 29),(a,bk u0 s1 z B C)] [] _ (Da u0.aB E.e b0) (fun c0 L ar M N da=>?_)
 simp only[List.append_nil,List.cons_append,List.nil_append,List.append_assoc] at N
 subst M
 obtain ⟨d158,n,rfl,db⟩:=ar.len
 refine ⟨⟨U,(k,kn c.1 d f g i j)::(b,bz 29)::(a,bk u0 s1 z B C)::L⟩,Le.refl _,?_⟩
 refine ⟨by simp only[*,go_sem],bO ?_⟩
 revert h;refine bS fun o b1 h=>?_
 try simp only[*,go_sem]
 refine fK hJ (aN:=[]) [(k,kn c.1 d f g i j),(b,bz 29),(a,bk u0 s1 z B C)] L _ (yo u0.props E.p b1) (fun dd O V M N df=>?_)
 simp only[List.append_nil,List.cons_append,List.nil_append,List.append_assoc] at N
 subst M
 obtain ⟨d168,q,rfl,dk⟩:=V.len
 refine ⟨⟨U,(k,kn c.1 d f g i j)::(b,bz 29)::(a,bk u0 s1 z B C)::(O++L)⟩,Le.refl _,?_⟩
 refine ⟨by simp only[*,go_sem],bO ?_⟩
 revert h;refine bS fun s b2 h=>?_
 try simp only[*,go_sem]
 refine fK hJ (aN:=[]) [(k,kn c.1 d f g i j),(b,bz 29),(a,bk u0 s1 z B C)] (O++L) _ (ym u0.aR E.y b2) (fun dp P H M N dq=>?_)
 simp only[List.append_nil,List.cons_append,List.nil_append,List.append_assoc] at N
 subst M
 obtain ⟨d178,u,rfl,ds⟩:=H.len
 refine ⟨⟨U,(k,kn c.1 d f g i j)::(b,bz 29)::(a,bk u0 s1 z B C)::(P++(O++L))⟩,Le.refl _,?_⟩
 refine ⟨by simp only[*,go_sem],bO ?_⟩
 revert h;refine bS fun w b3 h=>?_
 obtain rfl:=sI h
 try simp only[*,go_sem]
 refine fK hJ (aN:=[]) [(k,kn c.1 d f g i j),(b,bz 29),(a,bk u0 s1 z B C)] (P++(O++L)) _ (tw u0.told E.t b3) (fun dt Q D M N du=>?_)
 simp only[List.append_nil,List.cons_append,List.nil_append,List.append_assoc] at N
 subst M
 obtain ⟨d188,x,rfl,dv⟩:=D.len
 refine ⟨⟨U,(k,kn c.1 d f g i j)::(b,bz 29)::(a,bk u0 s1 z B C)::(Q++(P++(O++L)))⟩,Le.refl _,?_⟩
 refine ⟨by simp only[*,go_sem],bO ?_⟩
 try simp only[*,go_sem]
 refine aa hJ ?_
 refine dU [1,2,3] fun dC b4 b5 ca=>?_
 simp only[*,go_sem] at b4 b5 ca
 clear a8 hd a9
 refine aL hJ fun dE=>?_
 refine ag hJ ?_
 simp only[*,go_sem]
 refine aL hJ fun a0=>?_
 obtain ⟨dT,X,R,I,cb⟩:=ar.jM ((k,kn c.1 d f g i j)::(b,bk u0 (sl d158 m n) (sl d168 o q) (sl d178 s u) (sl d188 w x))::(a,bk u0 (sl d158 m n) (sl d168 o q) (sl d178 s u) (sl d188 w x))::(Q++(P++O))) ((k,kn c.1 d f g i j)::(b,bk u0 (sl d158 m n) (sl d168 o q) (sl d178 s u) (sl d188 w x))::(a,bk u0 (sl d158 m n) (sl d168 o q) (sl d178 s u) (sl d188 w x))::(Q++(P++O))) [] (by first|rfl|simp only[List.append_nil,List.cons_append,List.nil_append,List.append_assoc]|(simp only[List.append_nil,List.cons_append,List.nil_append,List.append_assoc];rfl)) (by first|rfl|simp only[List.append_nil,List.cons_append,List.nil_append,List.append_assoc]|(simp only[List.append_nil,List.cons_append,List.nil_append,List.append_assoc];rfl)) a0 (aA.cons K (aA.cons G (aA.cons F (aA.app D.iu (aA.app H.iu (V.iu))))))
 clear a0
 refine cM hJ cb ?_
 obtain ⟨ea,eb,-⟩:=I.op
 replace K:=R.hd
 replace G:=R.tl.hd
 replace F:=R.tl.tl.hd
 replace D:=D.mono X R.tl.tl.tl.l
 replace H:=H.mono X R.tl.tl.tl.r.l
 replace V:=V.mono X R.tl.tl.tl.r.r
 simp only[bg] at R
 refine aL hJ fun a2=>?_
 obtain ⟨ec,Y,S,T,cd⟩:=V.jM ((k,kn c.1 d f g i j)::(b,bk u0 (sl d158 m n) (sl d168 o q) (sl d178 s u) (sl d188 w x))::(a,bk u0 (sl d158 m n) (sl d168 o q) (sl d178 s u) (sl d188 w x))::(Q++P)) ((k,kn c.1 d f g i j)::(b,bk u0 (sl d158 m n) (sl d168 o q) (sl d178 s u) (sl d188 w x))::(a,bk u0 (sl d158 m n) (sl d168 o q) (sl d178 s u) (sl d188 w x))::(Q++P)) [] (by first|rfl|simp only[List.append_nil,List.cons_append,List.nil_append,List.append_assoc]|(simp only[List.append_nil,List.cons_append,List.nil_append,List.append_assoc];rfl)) (by first|rfl|simp only[List.append_nil,List.cons_append,List.nil_append,List.append_assoc]|(simp only[List.append_nil,List.cons_append,List.nil_append,List.append_assoc];rfl)) a2 (aA.cons K (aA.cons G (aA.cons F (aA.app D.iu (H.iu)))))
 clear a2
 refine cM hJ cd ?_
 obtain ⟨ed,eh,-⟩:=T.op
 replace I:=I.mono Y
 replace K:=S.hd
 replace G:=S.tl.hd
 replace F:=S.tl.tl.hd
 replace D:=D.mono Y S.tl.tl.tl.l
 replace H:=H.mono Y S.tl.tl.tl.r
 simp only[bg] at S
 refine aL hJ fun a3=>?_
 obtain ⟨et,Z,W,ab,cf⟩:=H.jM ((k,kn c.1 d f g i j)::(b,bk u0 (sl d158 m n) (sl d168 o q) (sl d178 s u) (sl d188 w x))::(a,bk u0 (sl d158 m n) (sl d168 o q) (sl d178 s u) (sl d188 w x))::Q) ((k,kn c.1 d f g i j)::(b,bk u0 (sl d158 m n) (sl d168 o q) (sl d178 s u) (sl d188 w x))::(a,bk u0 (sl d158 m n) (sl d168 o q) (sl d178 s u) (sl d188 w x))::Q) [] (by first|rfl|simp only[List.append_nil,List.cons_append,List.nil_append,List.append_assoc]|(simp only[List.append_nil,List.cons_append,List.nil_append,List.append_assoc];rfl)) (by first|rfl|simp only[List.append_nil,List.cons_append,List.nil_append,List.append_assoc]|(simp only[List.append_nil,List.cons_append,List.nil_append,List.append_assoc];rfl)) a3 (aA.cons K (aA.cons G (aA.cons F (D.iu))))
 clear a3
 refine cM hJ cf ?_
 obtain ⟨ev,eQ,-⟩:=ab.op
 replace I:=I.mono Z
 replace T:=T.mono Z
 replace K:=W.hd
 replace G:=W.tl.hd
 replace F:=W.tl.tl.hd
 replace D:=D.mono Z W.tl.tl.tl
 simp only[bg] at W
 refine aL hJ fun a4=>?_
 obtain ⟨eS,ad,cl,a5,cy⟩:=D.jM ((k,kn c.1 d f g i j)::(b,bk u0 (sl d158 m n) (sl d168 o q) (sl d178 s u) (sl d188 w x))::(a,bk u0 (sl d158 m n) (sl d168 o q) (sl d178 s u) (sl d188 w x))::[]) [(k,kn c.1 d f g i j),(b,bk u0 (sl d158 m n) (sl d168 o q) (sl d178 s u) (sl d188 w x)),(a,bk u0 (sl d158 m n) (sl d168 o q) (sl d178 s u) (sl d188 w x))] [] (by first|rfl|simp only[List.append_nil,List.cons_append,List.nil_append,List.append_assoc]|(simp only[List.append_nil,List.cons_append,List.nil_append,List.append_assoc];rfl)) (by first|rfl|simp only[List.append_nil,List.cons_append,List.nil_append,List.append_assoc]|(simp only[List.append_nil,List.cons_append,List.nil_append,List.append_assoc];rfl)) a4 (aA.cons K (aA.cons G (aA.cons F (aA.nil _))))
 clear a4
 refine cM hJ cy ?_
 obtain ⟨e0,e1,-⟩:=a5.op
 replace I:=I.mono ad
 replace T:=T.mono ad
 replace ab:=ab.mono ad
 simp only[bg] at cl
 refine av ?_
 simp only[*,go_sem]
 exact ⟨_,((((ae).trans X).trans Y).trans Z).trans ad,Le.sub (List.nil_sublist _),_,_,_,_,rfl,⟨I,T,ab,a5⟩⟩
def tX (u0:Int)(a:Int):Option Int:=
 ah (mm u0) fun c=>ah (mm a) fun b=>cond (c) (cond (b) (some 0) (some (-1))) (cond (b) (some 1) (cond (decide (u0<a)) (some (-1)) (cond (decide (a<u0)) (some 1) (some 0))))
theorem Dm {ro:Addr->Option Value}(u0:Int)(a:Int){r:Int}(h:tX u0 a=some r):ay Tryz.prog 139 #[.int .i64 u0,.int .i64 a] ⟨ro,[]⟩ (fun v _=>v= .int .i64 r):=by
 unfold tX at h
 refine ay.go Tryz.func139 rfl Tryz.ntmps139 Tryz.results139 (by simp) fun main J hJ A j hd hs=>?_
 have k:=hs 0
 have k1:=hs 1
 clear hs
 refine aa hJ (ag hJ ?_)
 simp only[*,go_sem]
 refine aa hJ (ag hJ ?_)
 revert h;refine bS fun l b h=>?_
 simp only[*,go_sem]
 refine aJ hJ _ (qx u0 b) (aC ?_)
 try simp only[*,go_sem]
 refine aa hJ (ag hJ ?_)
 revert h;refine bS fun m c h=>?_
 simp only[*,go_sem]
 refine aJ hJ _ (qx a c) (aC ?_)
 try simp only[*,go_sem]
 refine aa hJ (aa hJ (ag hJ ?_))
 simp only[*,go_sem]
 revert h;refine jC hJ (by simp only[*,go_sem]) (fun d h=>?_) fun d h=>?_
 ·refine aa hJ (aa hJ (ag hJ ?_))
  simp only[*,go_sem]
  revert h;refine jC hJ (by simp only[*,go_sem]) (fun e h=>?_) fun e h=>?_
  ·obtain rfl:=sI h
   refine aa hJ (ag hJ ?_)
   simp only[*,go_sem]
   refine av ?_
   simp only[*,go_sem]
  obtain rfl:=sI h
  refine aE hJ (aa hJ ?_)
  refine ag hJ ?_
  simp only[*,go_sem]
  refine av ?_
  simp only[*,go_sem]
 refine aE hJ (aa hJ ?_)
 refine aa hJ (ag hJ ?_)
 simp only[*,go_sem]
 revert h;refine jC hJ (by simp only[*,go_sem]) (fun f h=>?_) fun f h=>?_
 ·obtain rfl:=sI h
  refine aa hJ (ag hJ ?_)
  simp only[*,go_sem]
  refine av ?_
  simp only[*,go_sem]
 refine aE hJ (aa hJ ?_)
 refine aa hJ (ag hJ ?_)
 simp only[*,go_sem]
 revert h;refine jC hJ (by simp only[*,go_sem]) (fun g h=>?_) fun g h=>?_
 ·obtain rfl:=sI h
  refine aa hJ (ag hJ ?_)
  simp only[*,go_sem]
  refine av ?_
  simp only[*,go_sem]
 refine aE hJ (aa hJ ?_)
 refine aa hJ (ag hJ ?_)
 simp only[*,go_sem]
 revert h;refine jC hJ (by simp only[*,go_sem]) (fun i h=>?_) fun i h=>?_
 ·obtain rfl:=sI h
  refine aa hJ (ag hJ ?_)
  simp only[*,go_sem]
  refine av ?_
  simp only[*,go_sem]
 obtain rfl:=sI h
 refine aE hJ (aa hJ ?_)
 refine ag hJ ?_
 simp only[*,go_sem]
 refine av ?_
 simp only[*,go_sem]
def tY (a:(List Int))(i16:Nat)(c:Int)(st:Int):Option (Fl Int Int):=
 cond (decide ((a.length:Int)<=(i16:Int))) (some (.rt 1)) (ah (bL a (i16:Int)) fun d=>ah (tX c d) fun b=>cond ((b != 0)) (some (.rt b)) (some (.nx st)))
def tZ (u0:(List Int))(a:(List Int)):Option Int:=
 ah (bB (tY a) 0 u0 0) fun o=>aK o (fun b=>cond (decide ((u0.length:Int)<(a.length:Int))) (some (-1)) (some 0)) (fun _ _=>none) (fun r=>some r)
theorem Dn {ro:Addr->Option Value}(u0:(List Int)){s1:Value}(g:az rI ro s1 u0)(d:(List Int)){i:Value}(j:az rI ro i d){r:Int}(h:tZ u0 d=some r):ay Tryz.prog 95 #[s1,i] ⟨ro,[]⟩ (fun v _=>v= .int .i64 r):=by
 obtain ⟨d3,c4,rfl,U,w,-⟩:=id g
 obtain ⟨d10,V,rfl,W,X,-⟩:=id j
 unfold tZ at h
 refine ay.go Tryz.func95 rfl Tryz.ntmps95 Tryz.results95 (by simp) fun main J hJ A y hd hs=>?_
 have z:=hs 0
 have k1:=hs 1
 clear hs
 refine aa hJ (ag hJ ?_)
 simp only[*,go_sem]
 refine aa hJ (aa hJ (ag hJ ?_))
 simp only[*,go_sem]
 refine aU hJ ?_
 revert h;refine bS fun B a e=>?_
 refine bU hJ [4,5,6,7,8,11,12,13,14,15,16,17,18,19,20,21,22,23,24,25,26,27,28,29,30] (fun m k F'=>∃(i16:Nat) (c:Int),m=u0.length - i16/\i16<=u0.length/\bB (tY d) i16 (u0.drop i16) c=some B/\F'=⟨ro,[]⟩/\slot k 11= .int .i64 (i16:Int)/\slot k 4= .int .i64 c) u0.length ?_ ?_
 ·refine ⟨0,0,(Nat.sub_zero _).symm,Nat.zero_le _,a,rfl,?_⟩
  simp only[*,go_sem]
 rintro Y Z F' l ⟨i16,c,rfl,ab,a,rfl,ad,ae⟩
 obtain ⟨C,D,E⟩:=l.pick [0,1,9,10] (by decide)
 simp only[*,go_sem] at C D E
 clear l y hd z k1
 refine aa hJ (ag hJ ?_)
 simp only[*,go_sem]
 refine aa hJ ?_
 rcases Nat.lt_or_ge i16 u0.length with F|o
 ·refine bD hJ (by simp only[*,go_sem]) ?_
  refine aE hJ ?_
  obtain ⟨p,f⟩:∃x,u0[i16]?=some x:=⟨_,List.getElem?_eq_getElem F⟩
  rw[cN f] at a
  revert a;refine bS fun al h b=>?_
  unfold tY at h
  try dsimp only at h
  obtain ⟨ao,G,H,I,q⟩:=g.el _ _ f
  obtain rfl:G=[.int .i64 p]:=I
  cases H
  have K:=q 0 _ rfl;simp only[go_sem] at K
  clear q f
  refine aa hJ (aU hJ (aa hJ ?_))
  refine ag hJ ?_
  simp only[*,go_sem]
  refine aa hJ (aa hJ (ag hJ ?_))
  simp only[*,go_sem]
  revert h;refine jC hJ (by simp only[*,go_sem]) (fun L h=>?_) fun L h=>?_
  ·obtain rfl:=sI h
   refine aa hJ (ag hJ ?_)
   simp only[*,go_sem]
   obtain rfl:=sI b;clear b
   have h:=e
   dsimp only[aK] at h
   obtain rfl:=sI h
   refine av ?_
   simp only[*,go_sem]
  refine aE hJ (aa hJ ?_)
  refine ag hJ ?_
  revert h;refine bS fun s M h=>?_
  obtain ⟨ar,a0,t⟩:=cJ M
  obtain ⟨a2,N,O,P,u⟩:=j.el _ _ t
  obtain rfl:N=[.int .i64 s]:=P
  cases O
  have Q:=u 0 _ rfl;simp only[go_sem] at Q
  clear u t
  try simp only[*,go_sem]
  refine aa hJ (ag hJ ?_)
  revert h;refine bS fun a3 R h=>?_
  simp only[*,go_sem]
  refine aJ hJ _ (Dm p s R) (aC ?_)
  try simp only[*,go_sem]
  refine aa hJ (ag hJ ?_)
  simp only[*,go_sem]
  revert h;refine jC hJ (by simp only[*,go_sem]) (fun S h=>?_) fun S h=>?_
  ·obtain rfl:=sI h
   refine aa hJ (ag hJ ?_)
   simp only[*,go_sem]
   obtain rfl:=sI b;clear b
   have h:=e
   dsimp only[aK] at h
   obtain rfl:=sI h
   refine av ?_
   simp only[*,go_sem]
  obtain rfl:=sI h
  refine aE hJ ?_
  have a4:=b9 (n:=i16) (by have:=w;omega)
  refine ag hJ ?_
  simp only[*,go_sem]
  refine ⟨u0.length - (i16+1),by omega,_,Le.sub (List.Sublist.refl _),i16+1,c,rfl,by omega,b,rfl,?_⟩
  simp only[*,go_sem]
 have a5:=Nat.not_lt.2 o
 refine bK hJ (by simp only[*,go_sem]) ?_
 rw[List.drop_eq_nil_of_le o] at a
 obtain rfl:=sI a;clear a
 have h:=e
 dsimp only[aK] at h
 refine bR ?_
 simp only[go_sem]
 refine aa hJ (aa hJ (ag hJ ?_))
 simp only[*,go_sem]
 revert h;refine jC hJ (by simp only[*,go_sem]) (fun T h=>?_) fun T h=>?_
 ·obtain rfl:=sI h
  refine aa hJ (ag hJ ?_)
  simp only[*,go_sem]
  refine av ?_
  simp only[*,go_sem]
 obtain rfl:=sI h
 refine aE hJ (aa hJ ?_)
 refine ag hJ ?_
 simp only[*,go_sem]
 refine av ?_
 simp only[*,go_sem]
def qA (u0:(List Int))(a:(List Int)):Option Bool:=
 cond (decide ((a.length:Int)<(u0.length:Int))) (some true) (cond (((a.length:Int)==(u0.length:Int))) (ah (tZ a u0) fun b=>some (decide (b<0))) (some false))
theorem Dp {ro:Addr->Option Value}(u0:(List Int)){s1:Value}(d:az rI ro s1 u0)(a:(List Int)){e:Value}(f:az rI ro e a){r:Bool}(h:qA u0 a=some r):ay Tryz.prog 94 #[s1,e] ⟨ro,[]⟩ (fun v _=>v= .bool r):=by
 obtain ⟨d3,c4,rfl,i,j,-⟩:=id d
 obtain ⟨d10,k,rfl,l,m,-⟩:=id f
 unfold qA at h
 refine ay.go Tryz.func94 rfl Tryz.ntmps94 Tryz.results94 (by simp) fun main J hJ A n hd hs=>?_
 have o:=hs 0
 have k1:=hs 1
 clear hs
 refine aa hJ (ag hJ ?_)
 simp only[*,go_sem]
 refine aa hJ (ag hJ ?_)
 revert h;refine cS (fun b h=>?_) fun b h=>?_
 ·obtain rfl:=sI h
  try simp only[Int.ofNat_lt] at b
  try simp only[*,go_sem]
  refine av ?_
  simp only[*,go_sem]
 try simp only[Int.ofNat_lt] at b
 revert h;refine cS (fun c h=>?_) fun c h=>?_
 ·try simp only[Int.ofNat_lt] at c
  revert h;refine bS fun p g h=>?_
  obtain rfl:=sI h
  try simp only[*,go_sem]
  refine aJ hJ _ (Dn a (f.mono aI) u0 (d.mono aI) g) (aC ?_)
  try simp only[*,go_sem]
  refine av ?_
  simp only[*,go_sem]
 obtain rfl:=sI h
 try simp only[Int.ofNat_lt] at c
 try simp only[*,go_sem]
 refine av ?_
 simp only[*,go_sem]
def qB (u0:an)(b:Int):Option (Int×Int):=
 ah (gy u0 ([(eI b)])) fun a=>cond ((a.2 != 0)) (some (0,a.2)) (ah (qh a.1 (fun c=>ql c a.1 b)) fun d=>some (d,0))
theorem yB {ro:Addr->Option Value}(j:cP ro)(u0:an){s1 k l m:Value}(i:bx ro u0 s1 k l m)(c:Int){r:(Int×Int)}(h:qB u0 c=some r):ay Tryz.prog 44 #[bv u0 s1 k l m,.int .i64 c] ⟨ro,[]⟩ (fun v _=>v= .tuple #[.int .i64 r.1,.int .i64 r.2]):=by
 unfold qB at h
 have G:=i.oc;simp only[bw] at G
 refine ay.go Tryz.func44 rfl Tryz.ntmps44 Tryz.results44 (by simp) fun main J hJ A ae hd hs=>?_
 have al:=hs 0
 have k1:=hs 1
 clear hs
 refine aa hJ (ag hJ ?_)
 simp only[*,go_sem]
 refine au fun H I K=>?_;try simp only[aj] at K
 refine au fun u L M=>?_;try simp only[aj] at M
 try simp only[*,go_sem]
 refine aa hJ ?_
 refine aL hJ fun N=>?_
 refine ag hJ ?_
 revert h;refine bS fun n O h=>?_
 simp only[*,go_sem]
 refine au fun f w z=>?_;have B:=aM.cons z N;try simp only[aj] at z
 try simp only[*,go_sem]
 obtain ⟨q,C,D⟩:=e8 (b:=f) (o:=(.cells #[.func (.func 105) #[.int .i64 c] #[]] 86)) [] ((u,ic c)::(H,bk u0 s1 k l m)::[]) B w (aA.cons L (aA.cons I (aA.nil _)))
 have E:az (cK) (bI ro f (.cells #[.func (.func 105) #[.int .i64 c] #[]] 86)) (.slice (some ⟨f,0,none⟩) 1 1) [(eI c)]:=(az.one (r:=(cK)) (e:=86) (cs:=#[.func (.func 105) #[.int .i64 c] #[]]) (x:=(eI c)) (own:=[(f,.cells #[.func (.func 105) #[.int .i64 c] #[]] 86)]) w (by simp[lk]) ⟨105,#[.int .i64 c],#[],rfl,⟨by simp only[go_sem],fun P a g _ _ _ _ _ Q R S T h=>by simp only[go_sem];exact p6 c g ⟨Q,R,S,T⟩ h⟩⟩)
 generalize bI ro f (.cells #[.func (.func 105) #[.int .i64 c] #[]] 86)=ao at E C q D
 refine fY hJ D ?_
 replace i:=i.mono q
 replace j:=j.mono q
 simp only[bg] at C
 have U:=aM.tl B
 refine bX hJ _ (iD j u0 i ([(eI c)]) E O) fun v ar a0 V W=>?_
 obtain ⟨a2,a3,a4,a5,a6,rfl,d,s⟩:=W
 have X:=d.oc;simp only[bw] at X
 simp only[bg] at V
 obtain ⟨d41,a7,rfl,a8,a9,-⟩:=id d.e
 obtain ⟨d48,ba,rfl,bb,bc,-⟩:=id d.p
 obtain ⟨d55,bd,rfl,bj,bl,-⟩:=id d.y
 obtain ⟨d62,bm,rfl,bo,br,-⟩:=id d.t
 obtain ⟨d69,bs,rfl,bz,b0,-⟩:=id s
 refine aC ?_
 try simp only[*,go_sem]
 refine au fun Y b1 F=>?_;have b2:=aM.cons F U;try simp only[aj] at F
 try simp only[*,go_sem]
 refine aa hJ (aa hJ (ag hJ ?_))
 simp only[*,go_sem]
 revert h;refine jC hJ (by simp only[*,go_sem]) (fun Z h=>?_) fun Z h=>?_
 ·obtain rfl:=sI h
  refine aa hJ (ag hJ ?_)
  simp only[*,go_sem]
  refine av ?_
  simp only[*,go_sem]
 refine aE hJ (aa hJ ?_)
 refine ag hJ ?_
 revert h;refine bS fun b3 ab h=>?_
 obtain rfl:=sI h
 simp only[*,go_sem]
 refine aJ hJ _ (yl (cY:=117) (dD:=#[]) (dF:=#[.pointer (some ⟨Y,0,none⟩),.pointer (some ⟨u,0,none⟩)]) n.1 (d.mono aI) (s.mono aI) (fun g=>ql g n.1 c) ⟨by simp only[go_sem],fun P a g b4 ad=>by simp only[go_sem];exact C5 g n.1 (a _ _ (by simp only[af.cc,go_sem, *])) (a _ _ (by simp only[af.cc,go_sem, *])) (a _ _ (by simp only[af.cc,go_sem, *])) (a _ _ (by simp only[af.cc,go_sem, *])) ((d.e.mono aI).mono a) (a _ _ (by simp only[af.cc,go_sem, *])) ((d.p.mono aI).mono a) (a _ _ (by simp only[af.cc,go_sem, *])) ((d.y.mono aI).mono a) (a _ _ (by simp only[af.cc,go_sem, *])) ((d.t.mono aI).mono a) (a _ _ (by simp only[af.cc,go_sem, *])) ((s.mono aI).mono a) (a _ _ (by simp only[af.cc,go_sem, *])) c (a _ _ (by simp only[af.cc,go_sem, *])) ad⟩ ab) (aC ?_)
 try simp only[*,go_sem]
 refine av ?_
 simp only[*,go_sem]
def od (u0:an):Option (Int×Int):=
 ah (gy u0 ([]:(List (an->Option Int)))) fun a=>cond ((a.2 != 0)) (some (0,a.2)) (ah (qh a.1 (fun b=>qm b a.1)) fun c=>some (c,0))
theorem qC {ro:Addr->Option Value}(l:cP ro)(u0:an){s1 g i j:Value}(k:bx ro u0 s1 g i j){r:(Int×Int)}(h:od u0=some r):ay Tryz.prog 45 #[bv u0 s1 g i j] ⟨ro,[]⟩ (fun v _=>v= .tuple #[.int .i64 r.1,.int .i64 r.2]):=by
 unfold od at h
 have m:=k.oc;simp only[bw] at m
 refine ay.go Tryz.func45 rfl Tryz.ntmps45 Tryz.results45 (by simp) fun main J hJ A D hd hs=>?_
 have E:=hs 0
 clear hs
 refine aa hJ (ag hJ ?_)
 simp only[*,go_sem]
 refine au fun F G n=>?_;try simp only[aj] at n
 try simp only[*,go_sem]
 refine aa hJ (ag hJ ?_)
 revert h;refine bS fun c o h=>?_
 simp only[*,go_sem]
 refine bX hJ _ (iD l u0 k ([]:(List (an->Option Int))) (az.nil _ _) o) fun v H I q s=>?_
 obtain ⟨K,L,M,N,O,rfl,b,d⟩:=s
 have u:=b.oc;simp only[bw] at u
 simp only[bg] at q
 obtain ⟨d37,P,rfl,Q,R,-⟩:=id b.e
 obtain ⟨d44,S,rfl,T,U,-⟩:=id b.p
 obtain ⟨d51,V,rfl,W,X,-⟩:=id b.y
 obtain ⟨d58,Y,rfl,Z,ab,-⟩:=id b.t
 obtain ⟨d65,ad,rfl,ae,al,-⟩:=id d
 refine aC ?_
 try simp only[*,go_sem]
 refine au fun w ao x=>?_;try simp only[aj] at x
 try simp only[*,go_sem]
 refine aa hJ (aa hJ (ag hJ ?_))
 simp only[*,go_sem]
 revert h;refine jC hJ (by simp only[*,go_sem]) (fun z h=>?_) fun z h=>?_
 ·obtain rfl:=sI h
  refine aa hJ (ag hJ ?_)
  simp only[*,go_sem]
  refine av ?_
  simp only[*,go_sem]
 refine aE hJ (aa hJ ?_)
 refine ag hJ ?_
 revert h;refine bS fun ar B h=>?_
 obtain rfl:=sI h
 simp only[*,go_sem]
 refine aJ hJ _ (yl (cY:=118) (dD:=#[]) (dF:=#[.pointer (some ⟨w,0,none⟩)]) c.1 (b.mono aI) (d.mono aI) (fun f=>qm f c.1) ⟨by simp only[go_sem],fun a0 a f a2 C=>by simp only[go_sem];exact C6 f c.1 (a _ _ (by simp only[af.cc,go_sem, *])) (a _ _ (by simp only[af.cc,go_sem, *])) (a _ _ (by simp only[af.cc,go_sem, *])) (a _ _ (by simp only[af.cc,go_sem, *])) ((b.e.mono aI).mono a) (a _ _ (by simp only[af.cc,go_sem, *])) ((b.p.mono aI).mono a) (a _ _ (by simp only[af.cc,go_sem, *])) ((b.y.mono aI).mono a) (a _ _ (by simp only[af.cc,go_sem, *])) ((b.t.mono aI).mono a) (a _ _ (by simp only[af.cc,go_sem, *])) ((d.mono aI).mono a) (a _ _ (by simp only[af.cc,go_sem, *])) C⟩ B) (aC ?_)
 try simp only[*,go_sem]
 refine av ?_
 simp only[*,go_sem]
def ua (a:(cI×Int))(i74:Nat)(i83:Nat)(b:aY)(st:Int):Option (Fl Int (Int×Int×Int)):=
 ah (aY.get b (i74:Int)) fun c=>ah (jf a.1.book (i74:Int) c) fun d=>ah (gx a.1.book d) fun e=>cond (e) (some (.nx (IntKind.i64.wrap (st+1)))) (some (.nx st))
def uf (b:(cI×Int))(i74:Nat)(c:cA)(st:(Int×Int)):Option (Fl (Int×Int) (Int×Int×Int)):=
 ah (bB (ua b i74) 0 b.1.all 0) fun o=>aK o (fun a=>cond (decide ((if a<IntKind.i64.wrap ((b.1.all.length:Int) - a) then IntKind.i64.wrap ((b.1.all.length:Int) - a) else a)<st.2)) (some (.nx ((i74:Int),(if a<IntKind.i64.wrap ((b.1.all.length:Int) - a) then IntKind.i64.wrap ((b.1.all.length:Int) - a) else a)))) (some (.nx (st.1,st.2)))) (fun _ _=>none) (fun r=>some (.rt r))
def ug (u0:an):Option (Int×Int×Int):=
 ah (gy u0 ([]:(List (an->Option Int)))) fun a=>cond ((a.2 != 0)) (some (0,0,a.2)) (ah (bB (uf a) 0 a.1.book.aR ((-1),(a.1.all.length:Int))) fun o=>aK o (fun b=>some (b.1,b.2,0)) (fun _ _=>none) (fun r=>some r))
theorem Dq {ro:Addr->Option Value}(V:cP ro)(u0:an){s1 g i j:Value}(w:bx ro u0 s1 g i j){r:(Int×Int×Int)}(h:ug u0=some r):ay Tryz.prog 29 #[bv u0 s1 g i j] ⟨ro,[]⟩ (fun v _=>v= .tuple #[.int .i64 r.1,.int .i64 r.2.1,.int .i64 r.2.2]):=by
 unfold ug at h
 have W:=w.oc;simp only[bw] at W
 refine ay.go Tryz.func29 rfl Tryz.ntmps29 Tryz.results29 (by simp) fun main J hJ A X hd hs=>?_
 have Y:=hs 0
 clear hs
 refine aa hJ (ag hJ ?_)
 simp only[*,go_sem]
 refine au fun z dq Z=>?_;try simp only[aj] at Z
 try simp only[*,go_sem]
 refine aa hJ (ag hJ ?_)
 revert h;refine bS fun a ab h=>?_
 simp only[*,go_sem]
 refine bX hJ _ (iD V u0 w ([]:(List (an->Option Int))) (az.nil _ _) ab) fun v B ds ad ae=>?_
 obtain ⟨C,D,dt,E,du,rfl,f,G⟩:=ae
 have al:=f.oc;simp only[bw] at al
 simp only[bg] at ad
 obtain ⟨d51,H,rfl,dv,I,-⟩:=id f.y
 obtain ⟨d65,K,rfl,dC,L,-⟩:=id G
 refine aC ?_
 try simp only[*,go_sem]
 refine au fun M dE ao=>?_;try simp only[aj] at ao
 try simp only[*,go_sem]
 refine aa hJ (aa hJ (ag hJ ?_))
 simp only[*,go_sem]
 revert h;refine jC hJ (by simp only[*,go_sem]) (fun ar h=>?_) fun ar h=>?_
 ·obtain rfl:=sI h
  refine aa hJ (ag hJ ?_)
  simp only[*,go_sem]
  refine av ?_
  simp only[*,go_sem]
 refine aE hJ (aa hJ ?_)
 refine dc hJ mixed 5 2 (by simp only[*,go_sem]) (by kernel_rfl) ?_
 simp only[*,go_sem]
 refine aa hJ (aa hJ (ag hJ ?_))
 simp only[*,go_sem]
 refine aU hJ ?_
 revert h;refine bS fun a0 c a2=>?_
 refine bU hJ [2,3,6,7,9,10,27,28,29,30,31,32,33,34,35,36,37,38,39,40,41,42,43,44,45,46,47,48,49,50,51,52,53,54,55,56,57,58,59,60,61,62] (fun m e F'=>∃(i74:Nat) (k:Int) (l:Int),m=a.1.book.aR.length - i74/\i74<=a.1.book.aR.length/\bB (uf a) i74 (a.1.book.aR.drop i74) (k,l)=some a0/\F'=⟨B,(M,kn a.1 C D (sl d51 a.1.book.aR H) E (sl d65 a.1.all K))::(z,bk u0 s1 g i j)::[]⟩/\slot e 27= .int .i64 (i74:Int)/\slot e 2= .int .i64 k/\slot e 3= .int .i64 l) a.1.book.aR.length ?_ ?_
 ·refine ⟨0,(-1),(a.1.all.length:Int),(Nat.sub_zero _).symm,Nat.zero_le _,c,rfl,?_⟩
  simp only[*,go_sem]
 rintro dT a3 F' N ⟨i74,k,l,rfl,ea,c,rfl,a4,a5,a6⟩
 obtain ⟨O,P,Q⟩:=N.pick [4,5,26] (by decide)
 simp only[*,go_sem] at O P Q
 clear N X hd Y
 refine aa hJ (ag hJ ?_)
 simp only[*,go_sem]
 refine aa hJ ?_
 rcases Nat.lt_or_ge i74 a.1.book.aR.length with a7|R
 ·refine bD hJ (by simp only[*,go_sem]) ?_
  refine aE hJ ?_
  obtain ⟨a8,q⟩:∃x,a.1.book.aR[i74]?=some x:=⟨_,List.getElem?_eq_getElem a7⟩
  rw[cN q] at c
  revert c;refine bS fun eb h S=>?_
  unfold uf at h
  try dsimp only at h
  obtain ⟨a9,ba,bb,bc,o⟩:=f.y.el _ _ q
  obtain rfl:ba=a8.cells:=bc
  cases bb
  have bd:=o 0 _ rfl;simp only[go_sem] at bd
  have bj:=o 1 _ rfl;simp only[go_sem] at bj
  have bl:=o 2 _ rfl;simp only[go_sem] at bl
  clear o q
  refine aa hJ (aU hJ (aa hJ ?_))
  refine ag hJ ?_
  simp only[*,go_sem]
  refine aa hJ (ag hJ ?_)
  simp only[*,go_sem]
  refine aa hJ (aa hJ (ag hJ ?_))
  simp only[*,go_sem]
  refine aU hJ ?_
  revert h;refine bS fun bm d bo=>?_
  refine bU hJ [7,9,33,34,35,36,37,38,39,40,41,42,43,44,45,46,47,48,49] (fun m e F'=>∃(i83:Nat) (b:Int),m=a.1.all.length - i83/\i83<=a.1.all.length/\bB (ua a i74) i83 (a.1.all.drop i83) b=some bm/\F'=⟨B,(M,kn a.1 C D (sl (some a9) a.1.book.aR H) E (sl d65 a.1.all K))::(z,bk u0 s1 g i j)::[]⟩/\slot e 33= .int .i64 (i83:Int)/\slot e 7= .int .i64 b) a.1.all.length ?_ ?_
  ·refine ⟨0,0,(Nat.sub_zero _).symm,Nat.zero_le _,d,rfl,?_⟩
   simp only[*,go_sem]
  rintro ec br F' s ⟨i83,b,rfl,ed,d,rfl,eh,et⟩
  obtain ⟨bs,bz,b0⟩:=s.pick [2,3,4,5,6,26,27,28,29,30,31,32] (by decide)
  simp only[*,go_sem] at bs bz b0
  have ev:c9 [2,3,6,7,9,10,27,28,29,30,31,32,33,34,35,36,37,38,39,40,41,42,43,44,45,46,47,48,49,50,51,52,53,54,55,56,57,58,59,60,61,62] br a3:=(s.ir (by decide)).trans (by simp only[*,go_sem])
  clear s O P Q a5 a6 a4
  refine aa hJ (ag hJ ?_)
  simp only[*,go_sem]
  refine aa hJ ?_
  rcases Nat.lt_or_ge i83 a.1.all.length with b1|T
  ·refine bD hJ (by simp only[*,go_sem]) ?_
   refine aE hJ ?_
   obtain ⟨b2,t⟩:∃x,a.1.all[i83]?=some x:=⟨_,List.getElem?_eq_getElem b1⟩
   rw[cN t] at d
   revert d;refine bS fun eQ h U=>?_
   unfold ua at h
   try dsimp only at h
   obtain ⟨eS,b3,b4,b5,p⟩:=G.el _ _ t
   obtain rfl:b3=b2.cells:=b5
   cases b4
   have ca:=p 0 _ rfl;simp only[go_sem] at ca
   have cb:=p 1 _ rfl;simp only[go_sem] at cb
   have cd:=p 2 _ rfl;simp only[go_sem] at cd
   clear p t
   refine aa hJ (aU hJ (aa hJ ?_))
   refine ag hJ ?_
   simp only[*,go_sem]
   refine au fun e0 e1 cf=>?_;try simp only[aj] at cf
   try simp only[*,go_sem]
   refine aa hJ ?_
   refine dc hJ mixed 10 3 (by simp only[*,go_sem]) (by kernel_rfl) ?_
   revert h;refine bS fun cl cy h=>?_
   obtain ⟨e2,e3,cS⟩:=aY.get_some cy
   try simp only[go_sem] at cS
   revert h;refine bS fun c0 da h=>?_
   try simp only[*,go_sem]
   refine ⟨_,bu hJ fun F u=>kR a.1.book (f.mono (bM u)) (i74:Int) cl da,b6 ?_⟩
   revert h;refine bS fun fa db h=>?_
   try simp only[*,go_sem]
   refine ⟨_,bu hJ fun F u=>kZ a.1.book (f.mono (bM u)) c0 db,?_⟩
   try simp only[*,go_sem]
   revert h;refine jC hJ (by simp only[*,go_sem]) (fun dd h=>?_) fun dd h=>?_
   ·obtain rfl:=sI h
    refine ag hJ ?_
    simp only[*,go_sem]
    have df:=b9 (n:=i83) (by have:=L;omega)
    refine ag hJ ?_
    simp only[*,go_sem]
    refine ⟨a.1.all.length - (i83+1),by omega,_,Le.sub (List.Sublist.cons _ (List.Sublist.refl _)),i83+1,(IntKind.i64.wrap (b+1)),rfl,by omega,U,rfl,?_⟩
    simp only[*,go_sem]
   obtain rfl:=sI h
   refine aE hJ ?_
   have df:=b9 (n:=i83) (by have:=L;omega)
   refine ag hJ ?_
   simp only[*,go_sem]
   refine ⟨a.1.all.length - (i83+1),by omega,_,Le.sub (List.Sublist.cons _ (List.Sublist.refl _)),i83+1,b,rfl,by omega,U,rfl,?_⟩
   simp only[*,go_sem]
  have fb:=Nat.not_lt.2 T
  refine bK hJ (by simp only[*,go_sem]) ?_
  rw[List.drop_eq_nil_of_le T] at d
  obtain rfl:=sI d;clear d
  have h:=bo
  dsimp only[aK] at h
  refine bR ?_
  simp only[go_sem]
  refine aa hJ (ag hJ ?_)
  simp only[*,go_sem]
  refine aa hJ (ag hJ ?_)
  simp only[*,go_sem]
  revert h;refine jC hJ (by simp only[*,go_sem]) (fun dk h=>?_) fun dk h=>?_
  ·obtain rfl:=sI h
   refine ag hJ ?_
   simp only[*,go_sem]
   have dp:=b9 (n:=i74) (by have:=I;omega)
   refine ag hJ ?_
   simp only[*,go_sem]
   refine ⟨a.1.book.aR.length - (i74+1),by omega,_,Le.sub (List.Sublist.refl _),i74+1,(i74:Int),(if b<IntKind.i64.wrap ((a.1.all.length:Int) - b) then IntKind.i64.wrap ((a.1.all.length:Int) - b) else b),rfl,by omega,S,rfl,?_⟩
   simp only[*,go_sem]
  obtain rfl:=sI h
  refine aE hJ ?_
  have dp:=b9 (n:=i74) (by have:=I;omega)
  refine ag hJ ?_
  simp only[*,go_sem]
  refine ⟨a.1.book.aR.length - (i74+1),by omega,_,Le.sub (List.Sublist.refl _),i74+1,k,l,rfl,by omega,S,rfl,?_⟩
  simp only[*,go_sem]
 have fg:=Nat.not_lt.2 R
 refine bK hJ (by simp only[*,go_sem]) ?_
 rw[List.drop_eq_nil_of_le R] at c
 obtain rfl:=sI c;clear c
 have h:=a2
 dsimp only[aK] at h
 obtain rfl:=sI h
 refine bR ?_
 simp only[go_sem]
 refine aa hJ (ag hJ ?_)
 simp only[*,go_sem]
 refine av ?_
 simp only[*,go_sem]
def mo (u0:an):Option Int:=
 cond (((u0.props.length:Int)==3)) (some 2) (some 0)
theorem Dr {ro:Addr->Option Value}(u0:an){s1 b c d:Value}(a:bx ro u0 s1 b c d){r:Int}(h:mo u0=some r):ay Tryz.prog 85 #[bv u0 s1 b c d] ⟨ro,[]⟩ (fun v _=>v= .int .i64 r):=by
 obtain ⟨d3,c4,rfl,i,j,-⟩:=id a.e
 obtain ⟨d10,k,rfl,l,m,-⟩:=id a.p
 obtain ⟨d17,n,rfl,o,q,-⟩:=id a.y
 obtain ⟨d24,s,rfl,u,w,-⟩:=id a.t
 unfold mo at h
 refine ay.go Tryz.func85 rfl Tryz.ntmps85 Tryz.results85 (by simp) fun main J hJ A x hd hs=>?_
 have z:=hs 0
 clear hs
 refine aa hJ (ag hJ ?_)
 simp only[*,go_sem]
 refine au fun B C f=>?_;try simp only[aj] at f
 try simp only[*,go_sem]
 refine aa hJ (aa hJ (ag hJ ?_))
 simp only[*,go_sem]
 revert h;refine jC hJ (by simp only[*,go_sem]) (fun g h=>?_) fun g h=>?_
 ·obtain rfl:=sI h
  refine aa hJ (ag hJ ?_)
  simp only[*,go_sem]
  refine av ?_
  simp only[*,go_sem]
 obtain rfl:=sI h
 refine aE hJ (aa hJ ?_)
 refine ag hJ ?_
 simp only[*,go_sem]
 refine av ?_
 simp only[*,go_sem]
def qD (u0:an)(c:bP):Option (an×Int):=
 ah (jh u0) fun a=>cond ((a != 0)) (some ((⟨0,0,(⟨0,0⟩:ak),([]:(List bZ)),([]:(List b7)),([]:(List cA)),([]:(List bP))⟩:an),a)) (ah (qo u0.told) fun d=>ah (dr d ([c])) fun e=>ah (qz (⟨u0.bF,u0.bJ,u0.aT,u0.aB,u0.props,u0.aR,e⟩:an)) fun b=>some (b.1,b.2))
theorem qE {ro:Addr->Option Value}(k:cP ro)(u0:an){s1 c d f:Value}(b:bx ro u0 s1 c d f)(a:bP){r:(an×Int)}(h:qD u0 a=some r):en Tryz.prog 31 #[bv u0 s1 c d f,.agg #[.int .i64 a.aX,.bool a.bn]] ro (fun v aH=>∃L w1 w2 w3,v= .tuple #[bv r.1 L w1 w2 w3,.int .i64 r.2]/\bx aH r.1 L w1 w2 w3):=by
 unfold qD at h
 refine ay.go Tryz.func31 rfl Tryz.ntmps31 Tryz.results31 (by simp) fun main J hJ A ca hd hs=>?_
 have cb:=hs 0
 have k1:=hs 1
 clear hs
 refine aa hJ (ag hJ ?_)
 simp only[*,go_sem]
 refine au fun g u ab=>?_;try simp only[aj] at ab
 refine au fun i w ad=>?_;try simp only[aj] at ad
 refine au fun j z ae=>?_;try simp only[aj] at ae
 try simp only[*,go_sem]
 refine aa hJ (aa hJ (ag hJ ?_))
 revert h;refine bS fun cd al h=>?_
 simp only[*,go_sem]
 refine aJ hJ _ (s5 (k.mono aI) u0 (b.e.mono aI) (b.p.mono aI) (b.y.mono aI) (b.t.mono aI) al) (aC ?_)
 try simp only[*,go_sem]
 refine aa hJ (ag hJ ?_)
 simp only[*,go_sem]
 revert h;refine jC hJ (by simp only[*,go_sem]) (fun ao h=>?_) fun ao h=>?_
 ·obtain rfl:=sI h
  refine aa hJ (ag hJ ?_)
  simp only[*,go_sem]
  refine av ?_
  simp only[*,go_sem]
  exact ⟨_,Ext.refl _,Le.sub (List.nil_sublist _),_,_,_,_,rfl,⟨az.nil _ _,az.nil _ _,az.nil _ _,az.nil _ _⟩⟩
 refine aE hJ (aa hJ ?_)
 refine aL hJ fun ar=>?_
 refine iy hJ mixed [7] (.pure 0 (.rd 1 (.rd 3 (.two 2 (.one 4 (.one 5 (.pure 6 (.last 7 .done)))) 4 (.one 2 (.one 5 (.pure 6 (.last 7 .done)))))))) ⟨ro,[(j,bz 29),(i,.cells #[.int .i64 a.aX,.bool a.bn] 54),(g,bk u0 s1 c d f)]⟩ (by simp only[*,go_sem]) (by kernel_rfl) ?_
 simp only[*,go_sem]
 refine ja ?_ ?_
 ·revert h;refine bS fun a0 a2 h=>?_
  simp only[*,go_sem]
  refine fK hJ (aN:=[]) [(j,bz 29),(i,.cells #[.int .i64 a.aX,.bool a.bn] 54),(g,bk u0 s1 c d f)] [] _ (tw u0.told b.t a2) (fun cf a3 M m n a4=>?_)
  simp only[List.append_nil,List.cons_append,List.nil_append,List.append_assoc] at n
  subst m
  obtain ⟨d174,cl,rfl,cy⟩:=M.len
  refine ⟨⟨ro,(j,bz 29)::(i,.cells #[.int .i64 a.aX,.bool a.bn] 54)::(g,bk u0 s1 c d f)::a3⟩,Le.refl _,?_⟩
  refine ⟨by simp only[*,go_sem],bO ?_⟩
  revert h;refine bS fun N a5 h=>?_
  obtain ⟨a6,O⟩:=cW a5
  try simp only[*,go_sem]
  refine au fun D P Q=>?_;have a7:=aM.cons Q a4;try simp only[aj] at Q
  try simp only[*,go_sem]
  refine dI (r:=cO) (l:=a0) (x:=a) (cs:=#[.int .i64 a.aX,.bool a.bn]) (e2:=54) [(D,.cells #[.int .i64 a.aX,.bool a.bn] 54),(j,bz 29),(i,.cells #[.int .i64 a.aX,.bool a.bn] 54),(g,bk u0 s1 c d f)] [] M a7 a6 rfl (by simp only[*,go_sem]) P rfl rfl dR dR gr gv rfl gu (by decide) (by decide) (fun cS a8 E m n c0=>?_)
  simp only[List.append_nil,List.cons_append,List.nil_append,List.append_assoc] at n
  subst m
  rw[<-O] at E;clear O
  obtain ⟨d186,a9,rfl,da⟩:=E.len
  refine ⟨⟨ro,(D,.cells #[.int .i64 a.aX,.bool a.bn] 54)::(j,bz 29)::(i,.cells #[.int .i64 a.aX,.bool a.bn] 54)::(g,bk u0 s1 c d f)::a8⟩,Le.refl _,?_⟩
  refine ⟨by simp only[*,go_sem],bO ?_⟩
  try simp only[*,go_sem]
  refine aa hJ ?_
  refine aL hJ fun R=>?_
  obtain ⟨db,F,B,S,ba⟩:=E.eC [(D,.cells #[.int .i64 a.aX,.bool a.bn] 54),(j,bz 29),(i,.cells #[.int .i64 a.aX,.bool a.bn] 54),(g,bk u0 s1 c d (sl d186 N a9))] [] R (aA.cons P (aA.cons z (aA.cons w (aA.cons u (aA.nil _)))))
  clear R
  refine cM hJ ba ?_
  obtain ⟨dd,df,-⟩:=S.op
  replace b:=b.mono F
  replace z:=B.tl.hd
  replace w:=B.tl.tl.hd
  replace u:=B.tl.tl.tl.hd
  replace k:=k.mono F
  simp only[bg] at B
  refine ag hJ ?_
  revert h;refine bS fun dk bb h=>?_
  obtain rfl:=sI h
  simp only[*,go_sem]
  refine bX hJ _ (tV k (⟨u0.bF,u0.bJ,u0.aT,u0.aB,u0.props,u0.aR,N⟩:an) ⟨b.e,b.p,b.y,S⟩ bb) fun v dp G C H=>?_
  obtain ⟨dq,ds,dt,du,rfl,o⟩:=H
  replace b:=b.mono G
  replace z:=C.tl.hd
  replace w:=C.tl.tl.hd
  replace u:=C.tl.tl.tl.hd
  replace k:=k.mono G
  simp only[bg] at C
  obtain ⟨d208,dv,rfl,dC,dE,-⟩:=id o.e
  obtain ⟨d215,dT,rfl,ea,eb,-⟩:=id o.p
  obtain ⟨d222,ec,rfl,ed,eh,-⟩:=id o.y
  obtain ⟨d229,et,rfl,ev,eQ,-⟩:=id o.t
  refine aC ?_
  try simp only[*,go_sem]
  refine av ?_
  simp only[*,go_sem]
  exact ⟨_,(F).trans G,Le.sub (List.nil_sublist _),_,_,_,_,rfl,o⟩
 revert h;refine bS fun bc bd h=>?_
 simp only[*,go_sem]
 refine au fun q T U=>?_;have eS:=aM.cons U ar;try simp only[aj] at U
 try simp only[*,go_sem]
 refine fK hJ (aN:=[]) [(q,.cells #[.int .i64 a.aX,.bool a.bn] 54),(j,bz 29),(i,.cells #[.int .i64 a.aX,.bool a.bn] 54),(g,bk u0 s1 c d f)] [] _ (tw u0.told b.t bd) (fun e0 bj V m n bl=>?_)
 simp only[List.append_nil,List.cons_append,List.nil_append,List.append_assoc] at n
 subst m
 obtain ⟨e1,e3,rfl,fa⟩:=V.len
 refine ⟨⟨ro,(q,.cells #[.int .i64 a.aX,.bool a.bn] 54)::(j,bz 29)::(i,.cells #[.int .i64 a.aX,.bool a.bn] 54)::(g,bk u0 s1 c d f)::bj⟩,Le.refl _,?_⟩
 refine ⟨by simp only[*,go_sem],bO ?_⟩
 revert h;refine bS fun W bm h=>?_
 obtain ⟨bo,X⟩:=cW bm
 try simp only[*,go_sem]
 refine dI (r:=cO) (l:=bc) (x:=a) (cs:=#[.int .i64 a.aX,.bool a.bn]) (e2:=54) [(q,.cells #[.int .i64 a.aX,.bool a.bn] 54),(j,bz 29),(i,.cells #[.int .i64 a.aX,.bool a.bn] 54),(g,bk u0 s1 c d f)] [] V bl bo rfl (by simp only[*,go_sem]) T rfl rfl dR dR gr gv rfl gu (by decide) (by decide) (fun fb br I m n fg=>?_)
 simp only[List.append_nil,List.cons_append,List.nil_append,List.append_assoc] at n
 subst m
 rw[<-X] at I;clear X
 obtain ⟨bs,b0,rfl,fi⟩:=I.len
 refine ⟨⟨ro,(q,.cells #[.int .i64 a.aX,.bool a.bn] 54)::(j,bz 29)::(i,.cells #[.int .i64 a.aX,.bool a.bn] 54)::(g,bk u0 s1 c d f)::br⟩,Le.refl _,?_⟩
 refine ⟨by simp only[*,go_sem],bO ?_⟩
 try simp only[*,go_sem]
 refine aa hJ ?_
 refine aL hJ fun Y=>?_
 obtain ⟨fp,K,b1,Z,b2⟩:=I.eC [(q,.cells #[.int .i64 a.aX,.bool a.bn] 54),(j,bz 29),(i,.cells #[.int .i64 a.aX,.bool a.bn] 54),(g,bk u0 s1 c d (sl bs W b0))] [] Y (aA.cons T (aA.cons z (aA.cons w (aA.cons u (aA.nil _)))))
 clear Y
 refine cM hJ b2 ?_
 obtain ⟨fr,fs,-⟩:=Z.op
 replace b:=b.mono K
 replace k:=k.mono K
 simp only[bg] at b1
 refine ag hJ ?_
 revert h;refine bS fun ft b3 h=>?_
 obtain rfl:=sI h
 simp only[*,go_sem]
 refine bX hJ _ (tV k (⟨u0.bF,u0.bJ,u0.aT,u0.aB,u0.props,u0.aR,W⟩:an) ⟨b.e,b.p,b.y,Z⟩ b3) fun v fu b4 b5 H=>?_
 obtain ⟨fv,fw,fx,gg,rfl,s⟩:=H
 simp only[bg] at b5
 obtain ⟨gl,gn,rfl,gp,gB,-⟩:=id s.e
 obtain ⟨gC,gM,rfl,gT,gV,-⟩:=id s.p
 obtain ⟨g0,g1,rfl,g2,g3,-⟩:=id s.y
 obtain ⟨g4,ha,rfl,hc,hf,-⟩:=id s.t
 refine aC ?_
 try simp only[*,go_sem]
 refine av ?_
 simp only[*,go_sem]
 exact ⟨_,(K).trans b4,Le.sub (List.nil_sublist _),_,_,_,_,rfl,s⟩
def uh (u0:an)(c:Int)(a:dw):Option (an×Int):=
 ah (eY u0 ([(eI c)])) fun e=>cond ((e.2 != 0)) (some ((⟨0,0,(⟨0,0⟩:ak),([]:(List bZ)),([]:(List b7)),([]:(List cA)),([]:(List bP))⟩:an),e.2)) (ah (nU a 0 60) fun g=>cond (!g) (some ((⟨0,0,(⟨0,0⟩:ak),([]:(List bZ)),([]:(List b7)),([]:(List cA)),([]:(List bP))⟩:an),1)) (ah (qp u0.aR) fun d=>ah (bL d c) fun b=>cond (decide ((if a.high<b.high.high then a.high else b.high.high)<(if b.high.low<a.low then a.low else b.high.low))) (some ((⟨0,0,(⟨0,0⟩:ak),([]:(List bZ)),([]:(List b7)),([]:(List cA)),([]:(List bP))⟩:an),9)) (ah (bL d c) fun h=>ah (qz (⟨u0.bF,u0.bJ,u0.aT,u0.aB,u0.props,(d.set (c).toNat (⟨h.back,(⟨(if b.high.low<a.low then a.low else b.high.low),(if a.high<b.high.high then a.high else b.high.high)⟩:dw)⟩:cA)),u0.told⟩:an)) fun f=>some (f.1,f.2))))
theorem yC {ro:Addr->Option Value}(g:cP ro)(u0:an){s1 k q l:Value}(f:bx ro u0 s1 k q l)(d:Int)(a:dw){r:(an×Int)}(h:uh u0 d a=some r):en Tryz.prog 34 #[bv u0 s1 k q l,.int .i64 d,.agg #[.int .i64 a.low,.int .i64 a.high]] ro (fun v aH=>∃U w1 w2 w3,v= .tuple #[bv r.1 U w1 w2 w3,.int .i64 r.2]/\bx aH r.1 U w1 w2 w3):=by
 unfold uh at h
 have ba:=f.oc;simp only[bw] at ba
 refine ay.go Tryz.func34 rfl Tryz.ntmps34 Tryz.results34 (by simp) fun main J hJ A bb hd hs=>?_
 have bc:=hs 0
 have k1:=hs 1
 have bd:=hs 2
 clear hs
 refine aa hJ (ag hJ ?_)
 simp only[*,go_sem]
 refine au fun w z bj=>?_;try simp only[aj] at bj
 refine au fun B C bm=>?_;try simp only[aj] at bm
 refine au fun D E bo=>?_;try simp only[aj] at bo
 try simp only[*,go_sem]
 refine aa hJ (aa hJ ?_)
 refine aL hJ fun br=>?_
 refine ag hJ ?_
 revert h;refine bS fun K bs h=>?_
 simp only[*,go_sem]
 refine au fun s V W=>?_;have X:=aM.cons W br;try simp only[aj] at W
 try simp only[*,go_sem]
 obtain ⟨j,u,Y⟩:=e8 (b:=s) (o:=(.cells #[.func (.func 105) #[.int .i64 d] #[]] 86)) [] ((D,bz 29)::(B,.cells #[.int .i64 a.low,.int .i64 a.high] 56)::(w,bk u0 s1 k q l)::[]) X V (aA.cons E (aA.cons C (aA.cons z (aA.nil _))))
 have Z:az (cK) (bI ro s (.cells #[.func (.func 105) #[.int .i64 d] #[]] 86)) (.slice (some ⟨s,0,none⟩) 1 1) [(eI d)]:=(az.one (r:=(cK)) (e:=86) (cs:=#[.func (.func 105) #[.int .i64 d] #[]]) (x:=(eI d)) (own:=[(s,.cells #[.func (.func 105) #[.int .i64 d] #[]] 86)]) V (by simp[lk]) ⟨105,#[.int .i64 d],#[],rfl,⟨by simp only[go_sem],fun fb fg b0 _ _ _ _ _ b1 b2 b3 b4 h=>by simp only[go_sem];exact p6 d b0 ⟨b1,b2,b3,b4⟩ h⟩⟩)
 generalize bI ro s (.cells #[.func (.func 105) #[.int .i64 d] #[]] 86)=fi at Z u j Y
 refine fY hJ Y ?_
 replace f:=f.mono j
 replace E:=u.hd
 replace C:=u.tl.hd
 replace z:=u.tl.tl.hd
 replace g:=g.mono j
 simp only[bg] at u
 have b5:=aM.tl X
 refine bX hJ _ (ji g u0 f ([(eI d)]) Z bs) fun v ab m F L=>?_
 obtain ⟨M,N,O,P,rfl,ca⟩:=L
 have cb:=ca.oc;simp only[bw] at cb
 replace f:=f.mono m
 replace E:=F.hd
 replace C:=F.tl.hd
 replace z:=F.tl.tl.hd
 replace g:=g.mono m
 simp only[bg] at F
 refine aC ?_
 try simp only[*,go_sem]
 refine au fun Q cd ad=>?_;have fp:=aM.cons ad b5;try simp only[aj] at ad
 try simp only[*,go_sem]
 refine aa hJ (ag hJ ?_)
 simp only[*,go_sem]
 revert h;refine jC hJ (by simp only[*,go_sem]) (fun cf h=>?_) fun cf h=>?_
 ·obtain rfl:=sI h
  refine aa hJ (ag hJ ?_)
  simp only[*,go_sem]
  refine av ?_
  simp only[*,go_sem]
  exact ⟨_,(j).trans m,Le.sub (List.nil_sublist _),_,_,_,_,rfl,⟨az.nil _ _,az.nil _ _,az.nil _ _,az.nil _ _⟩⟩
 refine aE hJ (aa hJ ?_)
 refine aa hJ (ag hJ ?_)
 revert h;refine bS fun fr cl h=>?_
 simp only[*,go_sem]
 refine aJ hJ _ (ye a 0 60 cl) (aC ?_)
 try simp only[*,go_sem]
 revert h;refine jC hJ (by simp only[*,go_sem]) (fun cy h=>?_) fun cy h=>?_
 ·obtain rfl:=sI h
  refine aa hJ (ag hJ ?_)
  simp only[*,go_sem]
  refine av ?_
  simp only[*,go_sem]
  exact ⟨_,(j).trans m,Le.sub (List.nil_sublist _),_,_,_,_,rfl,⟨az.nil _ _,az.nil _ _,az.nil _ _,az.nil _ _⟩⟩
 refine aE hJ (aa hJ ?_)
 refine aL hJ fun fs=>?_
 refine ag hJ ?_
 revert h;refine bS fun G cS h=>?_
 simp only[*,go_sem]
 refine fK hJ (aN:=[]) [(Q,bl K.1 M N O P),(D,bz 29),(B,.cells #[.int .i64 a.low,.int .i64 a.high] 56),(w,bk u0 s1 k q l)] [] _ (ym u0.aR f.y cS) (fun ft c0 H da db fu=>?_)
 simp only[List.append_nil,List.cons_append,List.nil_append,List.append_assoc] at db
 subst da
 obtain ⟨d87,ae,rfl,fv⟩:=H.len
 refine ⟨⟨ab,(Q,bl K.1 M N O P)::(D,bz 29)::(B,.cells #[.int .i64 a.low,.int .i64 a.high] 56)::(w,bk u0 s1 k q l)::c0⟩,Le.refl _,?_⟩
 refine aC ?_
 try simp only[*,go_sem]
 refine aa hJ ?_
 refine aL hJ fun al=>?_
 refine ag hJ ?_
 revert h;refine bS fun c dd h=>?_
 obtain ⟨fw,fx,df⟩:=cJ dd
 obtain ⟨R,dk,dp,rfl,rfl,gg,dq,S⟩:=H.xW df
 obtain rfl:dp=c.cells:=dq
 have ds:=al.nd
 simp only[keys,List.map_cons,List.map_nil,List.map_append,List.cons_append,List.nil_append,List.nodup_cons,List.mem_cons,List.mem_append,List.not_mem_nil,or_false,not_or] at ds
 have ao:=S 0 _ rfl;simp only[go_sem] at ao;have gl:=(Array.getElem?_eq_some_iff.1 ao).1
 have ar:=S 1 _ rfl;simp only[go_sem] at ar;have gn:=(Array.getElem?_eq_some_iff.1 ar).1
 have a0:=S 2 _ rfl;simp only[go_sem] at a0;have gp:=(Array.getElem?_eq_some_iff.1 a0).1
 try simp only[*,go_sem]
 refine au fun dt du a2=>?_;have gB:=aM.cons a2 al;try simp only[aj] at a2
 try simp only[*,go_sem]
 refine aa hJ ?_
 refine dU [1,3,5,6,7,10] fun gC dv dC dE=>?_
 simp only[*,go_sem] at dv dC dE
 clear bb hd bc k1 bd
 refine aL hJ fun dT=>?_
 refine ag hJ ?_
 simp only[*,go_sem]
 refine au fun ea eb a3=>?_;have gM:=aM.cons a3 dT;try simp only[aj] at a3
 try simp only[*,go_sem]
 refine aa hJ (aa hJ ?_)
 refine aL hJ fun gT=>?_
 refine ag hJ ?_
 simp only[*,go_sem]
 revert h;refine jC hJ (by simp only[*,go_sem]) (fun ec h=>?_) fun ec h=>?_
 ·obtain rfl:=sI h
  refine aa hJ ?_
  refine aL hJ fun gV=>?_
  refine ag hJ ?_
  simp only[*,go_sem]
  refine av ?_
  simp only[*,go_sem]
  exact ⟨_,(j).trans m,Le.sub (List.nil_sublist _),_,_,_,_,rfl,⟨az.nil _ _,az.nil _ _,az.nil _ _,az.nil _ _⟩⟩
 refine aE hJ (aa hJ ?_)
 refine aL hJ fun g0=>?_
 refine ag hJ ?_
 revert h;refine bS fun i ed h=>?_
 obtain ⟨g1,g2,a4⟩:=cJ ed
 obtain ⟨eh,et,I⟩:=H.jN a4
 obtain rfl:eh=i.cells:=et
 have a5:=I 0 _ rfl;simp only[go_sem] at a5;have g3:=(Array.getElem?_eq_some_iff.1 a5).1
 have a6:=I 1 _ rfl;simp only[go_sem] at a6;have g4:=(Array.getElem?_eq_some_iff.1 a6).1
 have a7:=I 2 _ rfl;simp only[go_sem] at a7;have ha:=(Array.getElem?_eq_some_iff.1 a7).1
 have ev:aW ew ab 148 (.slice (some ⟨R,0,none⟩) G.length ae) (G.set (d).toNat (⟨i.back,(⟨(if c.high.low<a.low then a.low else c.high.low),(if a.high<c.high.high then a.high else c.high.high)⟩:dw)⟩:cA)) [(R,Obj.cells (dz dk ((d).toNat*3+1) [.int .i64 (if c.high.low<a.low then a.low else c.high.low),.int .i64 (if a.high<c.high.high then a.high else c.high.high)]) 148)]:=by have eQ:=H.part (y:=(⟨i.back,(⟨(if c.high.low<a.low then a.low else c.high.low),(if a.high<c.high.high then a.high else c.high.high)⟩:dw)⟩:cA)) a4 1 [.int .i64 (if c.high.low<a.low then a.low else c.high.low),.int .i64 (if a.high<c.high.high then a.high else c.high.high)] [.int .i64 i.back,.int .i64 i.high.low,.int .i64 i.high.high] [.int .i64 i.back,.int .i64 (if c.high.low<a.low then a.low else c.high.low),.int .i64 (if a.high<c.high.high then a.high else c.high.high)] I rfl rfl (by simp) rfl;exact eQ
 try simp only[*,go_sem]
 refine aa hJ ?_
 refine aL hJ fun a8=>?_
 obtain ⟨hc,T,eS,a9,e0⟩:=ev.eC [(ea,.cells #[.int .i64 (if c.high.low<a.low then a.low else c.high.low),.int .i64 (if a.high<c.high.high then a.high else c.high.high)] 56),(dt,.cells #[.int .i64 c.high.low,.int .i64 c.high.high] 56),(Q,bl K.1 M N O P),(D,bz 29),(B,.cells #[.int .i64 a.low,.int .i64 a.high] 56),(w,bk u0 s1 k (sl (some ⟨R,0,none⟩) G ae) l)] [] a8 (aA.cons eb (aA.cons du (aA.cons cd (aA.cons E (aA.cons C (aA.cons z (aA.nil _)))))))
 clear a8
 refine cM hJ e0 ?_
 obtain ⟨hf,hg,-⟩:=a9.op
 replace f:=f.mono T
 replace g:=g.mono T
 simp only[bg] at eS
 refine ag hJ ?_
 revert h;refine bS fun hh e1 h=>?_
 obtain rfl:=sI h
 simp only[*,go_sem]
 refine bX hJ _ (tV g (⟨u0.bF,u0.bJ,u0.aT,u0.aB,u0.props,(G.set (d).toNat (⟨i.back,(⟨(if c.high.low<a.low then a.low else c.high.low),(if a.high<c.high.high then a.high else c.high.high)⟩:dw)⟩:cA)),u0.told⟩:an) ⟨f.e,f.p,a9,f.t⟩ e1) fun v hi e2 e3 L=>?_
 obtain ⟨hj,hk,hl,hn,rfl,n⟩:=L
 have fa:=n.oc;simp only[bw] at fa
 simp only[bg] at e3
 obtain ⟨d130,ho,rfl,hp,hq,-⟩:=id n.e
 obtain ⟨d137,hr,rfl,ht,hv,-⟩:=id n.p
 obtain ⟨d144,hx,rfl,hy,hz,-⟩:=id n.y
 obtain ⟨d151,hA,rfl,hB,hD,-⟩:=id n.t
 refine aC ?_
 try simp only[*,go_sem]
 refine av ?_
 simp only[*,go_sem]
 exact ⟨_,(((j).trans m).trans T).trans e2,Le.sub (List.nil_sublist _),_,_,_,_,rfl,n⟩
def yD (i43:Nat)(a:(List Int))(st:(List Int)):Option (Fl (List Int) (List Int)):=
 ah (dr st a) fun b=>some (.nx b)
def uj (i9:Nat)(a:(List Int))(st:Int):Option (Fl Int (List Int)):=
 cond (decide ((IntKind.i64.wrap (st+(a.length:Int)))<0)) (none) (some (.nx (IntKind.i64.wrap (st+(a.length:Int)))))
def Ds (i109:Nat)(a:(List Int))(st:(List Int)):Option (Fl (List Int) (List Int)):=
 ah (dr st a) fun b=>some (.nx b)
def uk (u0:(List (List Int))):Option (List Int):=
 ah (bB (uj) 0 u0 0) fun o=>aK o (fun a=>ah (tU a) fun b=>ah (bB (Ds) 0 u0 b) fun o=>aK o (fun c=>some c) (fun _ _=>none) (fun r=>some r)) (fun _ _=>none) (fun r=>some r)
theorem Dt {ro:Addr->Option Value}(u0:(List (List Int))){s1:Value}(g:az (rL rI) ro s1 u0){r:(List Int)}(h:uk u0=some r):en Tryz.prog 86 #[s1] ro (fun v aH=>∃s,v=s/\az rI aH s r):=by
 obtain ⟨d3,c4,rfl,bz,t,-⟩:=id g
 unfold uk at h
 refine ay.go Tryz.func86 rfl Tryz.ntmps86 Tryz.results86 (by simp) fun main J hJ A P hd hs=>?_
 have Q:=hs 0
 clear hs
 refine aa hJ (ag hJ ?_)
 simp only[*,go_sem]
 refine aa hJ (ag hJ ?_)
 simp only[*,go_sem]
 refine aa hJ (aa hJ (ag hJ ?_))
 simp only[*,go_sem]
 refine aU hJ ?_
 revert h;refine bS fun R a S=>?_
 refine bU hJ [3,5,11,12,13,14,15,16,17,18,19,20,21,22] (fun m d F'=>∃(i9:Nat) (e:Int),m=u0.length - i9/\i9<=u0.length/\bB (uj) i9 (u0.drop i9) e=some R/\F'=⟨ro,[]⟩/\slot d 11= .int .i64 (i9:Int)/\slot d 3= .int .i64 e) u0.length ?_ ?_
 ·refine ⟨0,0,(Nat.sub_zero _).symm,Nat.zero_le _,a,rfl,?_⟩
  simp only[*,go_sem]
 rintro b0 b1 F' u ⟨i9,e,rfl,b2,a,rfl,T,U⟩
 obtain ⟨w,y,z⟩:=u.pick [0,2,9,10] (by decide)
 simp only[*,go_sem] at w y z
 clear u P hd Q
 refine aa hJ (ag hJ ?_)
 simp only[*,go_sem]
 refine aa hJ ?_
 rcases Nat.lt_or_ge i9 u0.length with V|B
 ·refine bD hJ (by simp only[*,go_sem]) ?_
  refine aE hJ ?_
  obtain ⟨W,i⟩:∃x,u0[i9]?=some x:=⟨_,List.getElem?_eq_getElem V⟩
  rw[cN i] at a
  revert a;refine bS fun b3 h X=>?_
  unfold uj at h
  try dsimp only at h
  obtain ⟨b4,b5,Y,Z,C⟩:=g.el _ _ i
  obtain ⟨ca,rfl,ab⟩:=Z;obtain ⟨d18,cb,rfl,cd,cf,cl⟩:=id ab
  cases Y
  have ad:=C 0 _ rfl;simp only[go_sem] at ad
  clear C i
  refine aa hJ (aU hJ (aa hJ ?_))
  refine ag hJ ?_
  simp only[*,go_sem]
  refine aa hJ (ag hJ ?_)
  simp only[*,go_sem]
  refine aa hJ (ag hJ ?_)
  simp only[*,go_sem]
  revert h;refine jC hJ (by simp only[*,go_sem]) (fun ae h=>?_) fun ae h=>?_
  ·refine ag hJ ?_
   cases h
  obtain rfl:=sI h
  refine aE hJ ?_
  have cy:=b9 (n:=i9) (by have:=t;omega)
  refine ag hJ ?_
  simp only[*,go_sem]
  refine ⟨u0.length - (i9+1),by omega,_,Le.sub (List.Sublist.refl _),i9+1,(IntKind.i64.wrap (e+(W.length:Int))),rfl,by omega,X,rfl,?_⟩
  simp only[*,go_sem]
 have cS:=Nat.not_lt.2 B
 refine bK hJ (by simp only[*,go_sem]) ?_
 rw[List.drop_eq_nil_of_le B] at a
 obtain rfl:=sI a;clear a
 have h:=S
 dsimp only[aK] at h
 refine bR ?_
 simp only[go_sem]
 refine aa hJ ?_
 refine aL hJ fun c0=>?_
 refine ag hJ ?_
 revert h;refine bS fun al ao h=>?_
 simp only[*,go_sem]
 refine fK hJ (aN:=[]) [] [] _ (Dl e ao) (fun da D E j k db=>?_)
 simp only[List.append_nil,List.cons_append,List.nil_append,List.append_assoc] at k
 subst j
 obtain ⟨d32,ar,rfl,a0⟩:=E.len
 refine ⟨⟨ro,D⟩,Le.refl _,?_⟩
 refine aC ?_
 try simp only[*,go_sem]
 refine aa hJ (aa hJ ?_)
 refine aL hJ fun dd=>?_
 refine ag hJ ?_
 simp only[*,go_sem]
 refine aU hJ ?_
 revert h;refine bS fun a2 b a3=>?_
 refine bU hJ [6,8,27,28,29,30,31,32,33,34] (fun m d F'=>∃(i43:Nat) (d38:Option Addr) (f:Nat) (o:List (Nat×Obj)) (c:(List Int)),m=u0.length - i43/\i43<=u0.length/\bB (yD) i43 (u0.drop i43) c=some a2/\F'=⟨ro,o⟩/\aW rI ro 3 (.slice d38 c.length f) c o/\c.length<=f/\slot d 27= .int .i64 (i43:Int)/\slot d 6= .slice d38 c.length f) u0.length ?_ ?_
 ·refine ⟨0,d32,ar,D,al,(Nat.sub_zero _).symm,Nat.zero_le _,b,rfl,E,a0,?_⟩
  simp only[*,go_sem]
 rintro df dk F' F ⟨i43,d38,f,o,c,rfl,dp,b,rfl,G,dq,ds,dt⟩
 obtain ⟨a4,a5,a6⟩:=F.pick [2,25,26] (by decide)
 simp only[*,go_sem] at a4 a5 a6
 clear F w y z U T
 refine aa hJ (ag hJ ?_)
 simp only[*,go_sem]
 refine aa hJ ?_
 rcases Nat.lt_or_ge i43 u0.length with a7|H
 ·refine bD hJ (by simp only[*,go_sem]) ?_
  refine aE hJ ?_
  obtain ⟨a8,p⟩:∃x,u0[i43]?=some x:=⟨_,List.getElem?_eq_getElem a7⟩
  rw[cN p] at b
  revert b;refine bS fun du h a9=>?_
  unfold yD at h
  try dsimp only at h
  obtain ⟨dv,dC,ba,bb,I⟩:=g.el _ _ p
  obtain ⟨dE,rfl,K⟩:=bb;obtain ⟨d52,dT,rfl,ea,eb,ec⟩:=id K
  cases ba
  have bc:=I 0 _ rfl;simp only[go_sem] at bc
  clear I p
  refine aa hJ (aU hJ (aa hJ ?_))
  refine aL hJ fun ed=>?_
  refine ag hJ ?_
  simp only[*,go_sem]
  refine aL hJ fun bd=>?_
  refine ag hJ ?_
  revert h;refine bS fun bj bk h=>?_
  obtain rfl:=sI h
  obtain ⟨bl,L⟩:=cW bk
  simp only[*,go_sem]
  refine nP (r:=rI) (l:=c) (xs:=a8) [] [] G bd bl K rfl rfl e6 e6 jG jI rfl jH (by decide) (by decide) (fun eh M q j k et=>?_)
  simp only[List.append_nil,List.cons_append,List.nil_append,List.append_assoc] at k
  subst j
  rw[<-L] at q;clear L
  obtain ⟨d66,bm,rfl,bo⟩:=q.len
  refine ⟨⟨ro,M⟩,Le.refl _,?_⟩
  refine aC ?_
  try simp only[*,go_sem]
  have ev:=b9 (n:=i43) (by have:=t;omega)
  refine ag hJ ?_
  simp only[*,go_sem]
  refine ⟨u0.length - (i43+1),by omega,_,Le.sub (List.Sublist.refl _),i43+1,d66,bm,M,bj,rfl,by omega,a9,rfl,q,bo,?_⟩
  simp only[*,go_sem]
 have eQ:=Nat.not_lt.2 H
 refine bK hJ (by simp only[*,go_sem]) ?_
 rw[List.drop_eq_nil_of_le H] at b
 obtain rfl:=sI b;clear b
 have h:=a3
 dsimp only[aK] at h
 obtain rfl:=sI h
 refine bR ?_
 simp only[go_sem]
 refine aa hJ ?_
 refine aL hJ fun eS=>?_
 refine ag hJ ?_
 simp only[*,go_sem]
 refine aL hJ fun N=>?_
 obtain ⟨e0,br,e1,O,bs⟩:=G.eC [] [] N (aA.nil _)
 clear N
 refine cM hJ bs ?_
 obtain ⟨e2,e3,-⟩:=O.op
 refine av ?_
 simp only[*,go_sem]
 exact ⟨_,br,Le.sub (List.nil_sublist _),_,rfl,O⟩
def um (a:Int)(i44:Nat)(b:aY)(st:(List Int)):Option (Fl (List Int) (List Int)):=
 ah (aY.get b a) fun c=>ah (dr st ([c])) fun d=>some (.nx d)
def mq (u0:cI)(a:Int):Option (List Int):=
 ah (bB (um a) 0 u0.all ([]:List Int)) fun o=>aK o (fun b=>ah (tS b) fun c=>ah (tT c.2) fun d=>some d) (fun _ _=>none) (fun r=>some r)
theorem qF {ro:Addr->Option Value}(u0:cI){s1 a b c:Value}(b3:bx ro u0.book s1 a b c){y:Value}(z:az ga ro y u0.all)(s:Int){r:(List Int)}(h:mq u0 s=some r):en Tryz.prog 113 #[.agg #[.int .i64 u0.book.bF,.int .i64 u0.book.bJ,.int .i64 u0.book.aT.num,.int .i64 u0.book.aT.den,s1,a,b,c,y],.int .i64 s] ro (fun v aH=>∃B,v=B/\az rI aH B r):=by
 obtain ⟨d31,d,rfl,b4,R,-⟩:=id z
 unfold mq at h
 refine ay.go Tryz.func113 rfl Tryz.ntmps113 Tryz.results113 (by simp) fun main J hJ A S hd hs=>?_
 have T:=hs 0
 have k1:=hs 1
 clear hs
 refine aa hJ (ag hJ ?_)
 simp only[*,go_sem]
 refine au fun e U V=>?_;try simp only[aj] at V
 try simp only[*,go_sem]
 refine aa hJ (ag hJ ?_)
 simp only[*,go_sem]
 refine aa hJ (aa hJ (ag hJ ?_))
 simp only[*,go_sem]
 refine aU hJ ?_
 revert h;refine bS fun W g X=>?_
 refine bU hJ [5,7,11,12,13,14,15,16,17,18,19,20,21] (fun m C F'=>∃(i44:Nat) (d38:Option Addr) (o:Nat) (t:List (Nat×Obj)) (f:(List Int)),m=u0.all.length - i44/\i44<=u0.all.length/\bB (um s) i44 (u0.all.drop i44) f=some W/\F'=⟨ro,(e,kn u0 s1 a b c (sl d31 u0.all d))::t⟩/\aW rI ro 3 (.slice d38 f.length o) f t/\f.length<=o/\slot C 11= .int .i64 (i44:Int)/\slot C 5= .slice d38 f.length o) u0.all.length ?_ ?_
 ·refine ⟨0,none,0,[],([]:List Int),(Nat.sub_zero _).symm,Nat.zero_le _,g,rfl,aW.nil _ _ _,Nat.le_refl _,?_⟩
  simp only[*,go_sem]
 rintro b5 ca F' D ⟨i44,d38,o,t,f,rfl,cb,g,rfl,E,cd,cf,cl⟩
 obtain ⟨Y,Z,ab⟩:=D.pick [1,4,9,10] (by decide)
 simp only[*,go_sem] at Y Z ab
 clear D S hd T k1
 refine aa hJ (ag hJ ?_)
 simp only[*,go_sem]
 refine aa hJ ?_
 rcases Nat.lt_or_ge i44 u0.all.length with ad|F
 ·refine bD hJ (by simp only[*,go_sem]) ?_
  refine aE hJ ?_
  obtain ⟨i,u⟩:∃x,u0.all[i44]?=some x:=⟨_,List.getElem?_eq_getElem ad⟩
  rw[cN u] at g
  revert g;refine bS fun cy h ae=>?_
  unfold um at h
  try dsimp only at h
  obtain ⟨G,al,ao,ar,p⟩:=z.el _ _ u
  obtain rfl:al=i.cells:=ar
  cases ao
  have a0:=p 0 _ rfl;simp only[go_sem] at a0
  have a2:=p 1 _ rfl;simp only[go_sem] at a2
  have a3:=p 2 _ rfl;simp only[go_sem] at a3
  clear p u
  refine aa hJ (aU hJ (aa hJ ?_))
  refine aL hJ fun a4=>?_
  refine ag hJ ?_
  simp only[*,go_sem]
  refine au fun H cS I=>?_;have c0:=aM.cons I a4;try simp only[aj] at I
  try simp only[*,go_sem]
  refine aL hJ fun a5=>?_
  refine ag hJ ?_
  revert h;refine bS fun q a6 h=>?_
  obtain ⟨da,db,a7⟩:=aY.get_some a6
  try simp only[go_sem] at a7
  revert h;refine bS fun a8 a9 h=>?_
  obtain rfl:=sI h
  obtain ⟨ba,K⟩:=cW a9
  try simp only[*,go_sem]
  refine au fun L bb M=>?_;have bc:=aM.cons M a5;try simp only[aj] at M
  try simp only[*,go_sem]
  refine dI (r:=rI) (l:=f) (x:=q) (cs:=#[.int .i64 q]) (e2:=3) [(L,ic q),(H,.cells #[.int .i64 i.e0,.int .i64 i.e1,.int .i64 i.e2] 141),(e,kn u0 s1 a b c (sl (some G) u0.all d))] [] E bc ba rfl (by simp only[*,go_sem]) bb rfl rfl e6 e6 jG jI rfl jH (by decide) (by decide) (fun dd N w j k df=>?_)
  simp only[List.append_nil,List.cons_append,List.nil_append,List.append_assoc] at k
  subst j
  rw[<-K] at w;clear K
  obtain ⟨d66,bd,rfl,bj⟩:=w.len
  refine ⟨⟨ro,(L,ic q)::(H,.cells #[.int .i64 i.e0,.int .i64 i.e1,.int .i64 i.e2] 141)::(e,kn u0 s1 a b c (sl (some G) u0.all d))::N⟩,Le.refl _,?_⟩
  refine aC ?_
  try simp only[*,go_sem]
  have dk:=b9 (n:=i44) (by have:=R;omega)
  refine ag hJ ?_
  simp only[*,go_sem]
  refine ⟨u0.all.length - (i44+1),by omega,_,Le.sub (List.Sublist.cons _ (List.Sublist.cons _ (List.Sublist.refl _))),i44+1,d66,bd,N,a8,rfl,by omega,ae,rfl,w,bj,?_⟩
  simp only[*,go_sem]
 have dp:=Nat.not_lt.2 F
 refine bK hJ (by simp only[*,go_sem]) ?_
 rw[List.drop_eq_nil_of_le F] at g
 obtain rfl:=sI g;clear g
 have h:=X
 dsimp only[aK] at h
 refine bR ?_
 simp only[go_sem]
 refine aa hJ ?_
 refine aL hJ fun dq=>?_
 refine ag hJ ?_
 revert h;refine bS fun bk bl h=>?_
 simp only[*,go_sem]
 refine fK hJ [(e,kn u0 s1 a b c (sl d31 u0.all d))] [] _ (Di f E bl) (fun ds bm bo j k dt=>?_)
 obtain ⟨rfl,br⟩:=bo
 simp only[List.append_nil,List.cons_append,List.nil_append,List.append_assoc] at k
 subst j
 refine ⟨⟨ro,(e,kn u0 s1 a b c (sl d31 u0.all d))::bm⟩,Le.refl _,?_⟩
 try simp only[*,go_sem]
 refine aa hJ ?_
 refine aL hJ fun du=>?_
 refine ag hJ ?_
 revert h;refine bS fun dv bs h=>?_
 obtain rfl:=sI h
 simp only[*,go_sem]
 refine fK hJ [(e,kn u0 s1 a b c (sl d31 u0.all d))] [] _ (Dj bk.2 br bs) (fun dC bz O j k dE=>?_)
 simp only[List.append_nil,List.cons_append,List.nil_append,List.append_assoc] at k
 subst j
 obtain ⟨d83,dT,rfl,ea⟩:=O.len
 refine ⟨⟨ro,(e,kn u0 s1 a b c (sl d31 u0.all d))::bz⟩,Le.refl _,?_⟩
 refine aC ?_
 try simp only[*,go_sem]
 refine aL hJ fun P=>?_
 obtain ⟨eb,b0,b1,Q,b2⟩:=O.eC [(e,kn u0 s1 a b c (sl d31 u0.all d))] [] P (aA.cons U (aA.nil _))
 clear P
 refine cM hJ b2 ?_
 obtain ⟨ec,ed,-⟩:=Q.op
 simp only[bg] at b1
 refine av ?_
 simp only[*,go_sem]
 exact ⟨_,b0,Le.sub (List.nil_sublist _),_,rfl,Q⟩
def uo (u0:cI)(i47:Nat)(i75:Nat)(b:Int)(st:(List aP)):Option (Fl (List aP) (List aP)):=
 ah (jf u0.book (i47:Int) b) fun a=>ah (tf st a) fun c=>cond (!c) (ah (dr st ([a])) fun d=>some (.nx d)) (some (.nx st))
def uq (u0:cI)(i47:Nat)(c:cA)(st:(List aP)):Option (Fl (List aP) (List aP)):=
 ah (mq u0 (i47:Int)) fun a=>ah (bB (uo u0 i47) 0 a st) fun o=>aK o (fun b=>some (.nx b)) (fun _ _=>none) (fun r=>some (.rt r))
def qG (u0:cI):Option (List aP):=
 ah (bB (uq u0) 0 u0.book.aR ([]:List aP)) fun o=>aK o (fun a=>some a) (fun _ _=>none) (fun r=>some r)
theorem yE {ro:Addr->Option Value}(u0:cI){s1 c R d:Value}(e:bx ro u0.book s1 c R d){f:Value}(H:az ga ro f u0.all){r:(List aP)}(h:qG u0=some r):en Tryz.prog 74 #[.agg #[.int .i64 u0.book.bF,.int .i64 u0.book.bJ,.int .i64 u0.book.aT.num,.int .i64 u0.book.aT.den,s1,c,R,d,f]] ro (fun v aH=>∃S,v=S/\az gZ aH S r):=by
 obtain ⟨d17,o,rfl,e0,a8,-⟩:=id e.y
 unfold qG at h
 refine ay.go Tryz.func74 rfl Tryz.ntmps74 Tryz.results74 (by simp) fun main J hJ A a9 hd hs=>?_
 have ba:=hs 0
 clear hs
 refine aa hJ (ag hJ ?_)
 simp only[*,go_sem]
 refine au fun p I bb=>?_;try simp only[aj] at bb
 try simp only[*,go_sem]
 refine aa hJ (ag hJ ?_)
 simp only[*,go_sem]
 refine aa hJ (aa hJ (ag hJ ?_))
 simp only[*,go_sem]
 refine aU hJ ?_
 revert h;refine bS fun bc i bd=>?_
 refine bU hJ [3,4,6,7,13,14,15,16,17,18,19,20,21,22,23,24,25,26,27,28,29,30,31,32,33,34,35,36,37,38] (fun m s F'=>∃(i47:Nat) (w:Addr->Option Value) (d38:Option Addr) (t:Nat) (z:List (Nat×Obj)) (j:(List aP)),m=u0.book.aR.length - i47/\i47<=u0.book.aR.length/\bB (uq u0) i47 (u0.book.aR.drop i47) j=some bc/\F'=⟨w,(p,kn u0 s1 c (sl d17 u0.book.aR o) d f)::z⟩/\Ext ro w/\aW gZ w 90 (.slice d38 j.length t) j z/\j.length<=t/\slot s 13= .int .i64 (i47:Int)/\slot s 3= .slice d38 j.length t) u0.book.aR.length ?_ ?_
 ·refine ⟨0,ro,none,0,[],([]:List aP),(Nat.sub_zero _).symm,Nat.zero_le _,i,rfl,Ext.refl _,aW.nil _ _ _,Nat.le_refl _,?_⟩
  simp only[*,go_sem]
 rintro e1 bj F' T ⟨i47,w,d38,t,z,j,rfl,e3,i,rfl,B,C,bk,bl,bm⟩
 refine fo hJ fun _ U=>?_
 replace e:=e.mono B
 replace H:=H.mono B
 replace I:=U.hd
 simp only[bg] at U
 obtain ⟨V,W,X⟩:=T.pick [1,2,12] (by decide)
 simp only[*,go_sem] at V W X
 clear T a9 hd ba
 refine aa hJ (ag hJ ?_)
 simp only[*,go_sem]
 refine aa hJ ?_
 rcases Nat.lt_or_ge i47 u0.book.aR.length with bo|Y
 ·refine bD hJ (by simp only[*,go_sem]) ?_
  refine aE hJ ?_
  obtain ⟨br,K⟩:∃x,u0.book.aR[i47]?=some x:=⟨_,List.getElem?_eq_getElem bo⟩
  rw[cN K] at i
  revert i;refine bS fun fa h bs=>?_
  unfold uq at h
  try dsimp only at h
  obtain ⟨D,bz,b0,b1,E⟩:=e.y.el _ _ K
  obtain rfl:bz=br.cells:=b1
  cases b0
  have b2:=E 0 _ rfl;simp only[go_sem] at b2
  have b3:=E 1 _ rfl;simp only[go_sem] at b3
  have b4:=E 2 _ rfl;simp only[go_sem] at b4
  clear E K
  refine aa hJ (aU hJ (aa hJ ?_))
  refine aL hJ fun fb=>?_
  refine ag hJ ?_
  simp only[*,go_sem]
  refine aa hJ ?_
  refine aL hJ fun fg=>?_
  refine ag hJ ?_
  revert h;refine bS fun g b5 h=>?_
  simp only[*,go_sem]
  refine bX hJ _ (qF u0 e H (i47:Int) b5) fun v F L M ca=>?_
  obtain ⟨fi,rfl,Z⟩:=ca
  replace e:=e.mono L
  replace I:=M.hd
  replace C:=C.mono L M.tl
  simp only[bg] at M
  obtain ⟨d64,fp,rfl,fr,ab,-⟩:=id Z
  refine aC ?_
  try simp only[*,go_sem]
  refine aU hJ ?_
  revert h;refine bS fun cb k cd=>?_
  refine bU hJ [3,6,7,20,21,22,23,24,25,26,27,28,29,30,31,32,33,34,35,36,37] (fun m s F'=>∃(i75:Nat) (d70:Option Addr) (q:Nat) (u:List (Nat×Obj)) (b:(List aP)),m=g.length - i75/\i75<=g.length/\bB (uo u0 i47) i75 (g.drop i75) b=some cb/\F'=⟨F,(p,kn u0 s1 c (sl (some D) u0.book.aR o) d f)::u⟩/\aW gZ F 90 (.slice d70 b.length q) b u/\b.length<=q/\slot s 20= .int .i64 (i75:Int)/\slot s 3= .slice d70 b.length q) g.length ?_ ?_
  ·refine ⟨0,d38,t,z,j,(Nat.sub_zero _).symm,Nat.zero_le _,k,rfl,C,bk,?_⟩
   simp only[*,go_sem]
  rintro fs cf F' N ⟨i75,d70,q,u,b,rfl,ft,k,rfl,G,ad,fu,fv⟩
  obtain ⟨cl,cy,cS⟩:=N.pick [1,2,4,12,13,14,15,16,17,18,19] (by decide)
  simp only[*,go_sem] at cl cy cS
  have fw:c9 [3,4,6,7,13,14,15,16,17,18,19,20,21,22,23,24,25,26,27,28,29,30,31,32,33,34,35,36,37,38] cf bj:=(N.ir (by decide)).trans (by simp only[*,go_sem])
  clear N V W X bm bl
  refine aa hJ (ag hJ ?_)
  simp only[*,go_sem]
  refine aa hJ ?_
  rcases Nat.lt_or_ge i75 g.length with c0|ae
  ·refine bD hJ (by simp only[*,go_sem]) ?_
   refine aE hJ ?_
   obtain ⟨al,O⟩:∃x,g[i75]?=some x:=⟨_,List.getElem?_eq_getElem c0⟩
   rw[cN O] at k
   revert k;refine bS fun fx h ao=>?_
   unfold uo at h
   try dsimp only at h
   obtain ⟨gg,da,db,dd,ar⟩:=Z.el _ _ O
   obtain rfl:da=[.int .i64 al]:=dd
   cases db
   have df:=ar 0 _ rfl;simp only[go_sem] at df
   clear ar O
   refine aa hJ (aU hJ (aa hJ ?_))
   refine aL hJ fun gl=>?_
   refine ag hJ ?_
   simp only[*,go_sem]
   refine aa hJ ?_
   refine aL hJ fun dk=>?_
   refine ag hJ ?_
   revert h;refine bS fun a dp h=>?_
   simp only[*,go_sem]
   refine aJ hJ _ (kR u0.book (e.mono aI) (i47:Int) al dp) (aC ?_)
   try simp only[*,go_sem]
   refine au fun P gn a0=>?_;have gp:=aM.cons a0 dk;try simp only[aj] at a0
   try simp only[*,go_sem]
   refine aa hJ ?_
   refine aL hJ fun dq=>?_
   refine ag hJ ?_
   revert h;refine bS fun gB ds h=>?_
   simp only[*,go_sem]
   refine aJ hJ _ (CW b (G.yc [(P,.cells #[.int .i64 a.back,.int .i64 a.high] 90),(p,kn u0 s1 c (sl (some D) u0.book.aR o) d f)] [] (by first|rfl|simp only[List.append_nil,List.cons_append,List.nil_append,List.append_assoc]|(simp only[List.append_nil,List.cons_append,List.nil_append,List.append_assoc];rfl)) dq) a ds) (aC ?_)
   try simp only[*,go_sem]
   revert h;refine jC hJ (by simp only[*,go_sem]) (fun dt h=>?_) fun dt h=>?_
   ·refine aL hJ fun du=>?_
    refine ag hJ ?_
    revert h;refine bS fun dv dC h=>?_
    obtain rfl:=sI h
    obtain ⟨dE,a2⟩:=cW dC
    simp only[*,go_sem]
    refine au fun a3 dT a4=>?_;have ea:=aM.cons a4 du;try simp only[aj] at a4
    try simp only[*,go_sem]
    refine dI (r:=gZ) (l:=b) (x:=a) (cs:=#[.int .i64 a.back,.int .i64 a.high]) (e2:=90) [(a3,.cells #[.int .i64 a.back,.int .i64 a.high] 90),(P,.cells #[.int .i64 a.back,.int .i64 a.high] 90),(p,kn u0 s1 c (sl (some D) u0.book.aR o) d f)] [] G ea dE rfl (by simp only[*,go_sem]) dT rfl rfl xB xB By BA rfl Bz (by decide) (by decide) (fun gC a5 Q eb ec gM=>?_)
    simp only[List.append_nil,List.cons_append,List.nil_append,List.append_assoc] at ec
    subst eb
    rw[<-a2] at Q;clear a2
    obtain ⟨d102,ed,rfl,eh⟩:=Q.len
    refine ⟨⟨F,(a3,.cells #[.int .i64 a.back,.int .i64 a.high] 90)::(P,.cells #[.int .i64 a.back,.int .i64 a.high] 90)::(p,kn u0 s1 c (sl (some D) u0.book.aR o) d f)::a5⟩,Le.refl _,?_⟩
    refine aC ?_
    try simp only[*,go_sem]
    have et:=b9 (n:=i75) (by have:=ab;omega)
    refine ag hJ ?_
    simp only[*,go_sem]
    refine ⟨g.length - (i75+1),by omega,_,Le.sub (List.Sublist.cons _ (List.Sublist.cons _ (List.Sublist.refl _))),i75+1,d102,ed,a5,dv,rfl,by omega,ao,rfl,Q,eh,?_⟩
    simp only[*,go_sem]
   obtain rfl:=sI h
   refine aE hJ ?_
   have et:=b9 (n:=i75) (by have:=ab;omega)
   refine ag hJ ?_
   simp only[*,go_sem]
   refine ⟨g.length - (i75+1),by omega,_,Le.sub (List.Sublist.cons _ (List.Sublist.refl _)),i75+1,d70,q,u,b,rfl,by omega,ao,rfl,G,ad,?_⟩
   simp only[*,go_sem]
  have gT:=Nat.not_lt.2 ae
  refine bK hJ (by simp only[*,go_sem]) ?_
  rw[List.drop_eq_nil_of_le ae] at k
  obtain rfl:=sI k;clear k
  have h:=cd
  dsimp only[aK] at h
  obtain rfl:=sI h
  refine bR ?_
  simp only[go_sem]
  have gV:=b9 (n:=i47) (by have:=a8;omega)
  refine ag hJ ?_
  simp only[*,go_sem]
  refine ⟨u0.book.aR.length - (i47+1),by omega,_,Le.sub (List.Sublist.refl _),i47+1,F,d70,q,u,b,rfl,by omega,bs,rfl,(B.trans L),G,ad,?_⟩
  simp only[*,go_sem]
 have g0:=Nat.not_lt.2 Y
 refine bK hJ (by simp only[*,go_sem]) ?_
 rw[List.drop_eq_nil_of_le Y] at i
 obtain rfl:=sI i;clear i
 have h:=bd
 dsimp only[aK] at h
 obtain rfl:=sI h
 refine bR ?_
 simp only[go_sem]
 refine aa hJ ?_
 refine aL hJ fun g1=>?_
 refine ag hJ ?_
 simp only[*,go_sem]
 refine aL hJ fun a6=>?_
 obtain ⟨g2,ev,eQ,a7,eS⟩:=C.eC [(p,kn u0 s1 c (sl d17 u0.book.aR o) d f)] [] a6 (aA.cons I (aA.nil _))
 clear a6
 refine cM hJ eS ?_
 obtain ⟨g3,g4,-⟩:=a7.op
 simp only[bg] at eQ
 refine av ?_
 simp only[*,go_sem]
 exact ⟨_,(B).trans ev,Le.sub (List.nil_sublist _),_,rfl,a7⟩
def uu (a:Int)(i109:Nat)(b:bP)(st:((List Int)×(List bP))):Option (Fl ((List Int)×(List bP)) ((List Int)×Int)):=
 ah (sB a (i109:Int)) fun c=>cond (((xo c 1)==1)) (ah (dr st.1 ([(i109:Int)])) fun d=>ah (dr st.2 ([b])) fun e=>some (.nx (d,e))) (some (.nx (st.1,st.2)))
def uv (u0:an)(a:(an×Int))(c:Int)(st:((List (List Int))×Int)):Option (Fl ((List (List Int))×Int) ((List Int)×Int)):=
 cond (decide (st.2<c)) (ah (bB (uu st.2) 0 u0.told (([]:List Int),([]:List bP))) fun o=>aK o (fun b=>ah (qu (⟨a.1.bF,a.1.bJ,a.1.aT,a.1.aB,a.1.props,a.1.aR,b.2⟩:an)) fun d=>cond (!d) (ah (dr st.1 ([b.1])) fun e=>some (.nx (e,(IntKind.i64.wrap (st.2+1))))) (some (.nx (st.1,(IntKind.i64.wrap (st.2+1)))))) (fun _ _=>none) (fun r=>some (.rt r))) (some (.bk (st.1,st.2)))
def uw (u0:an):Option ((List Int)×Int):=
 ah (eY u0 ([]:(List (an->Option Int)))) fun a=>cond ((a.2 != 0)) (some (([]:(List Int)),a.2)) (ah (qu a.1) fun c=>cond (c) (some (([]:(List Int)),0)) (ah (sA 1 (u0.told.length:Int)) fun d=>ah (bE (uv u0 a d) fu (([]:List (List Int)),0)) fun o=>aK o (fun b=>ah (bL b.1 0) fun e=>ah (gY b.1 1 (b.1.length:Int)) fun f=>ah (s8 qA e f) fun g=>some (g,0)) (fun _ _=>none) (fun r=>some r)))
theorem yF {ro:Addr->Option Value}(gg:cP ro)(u0:an){s1 i j b4:Value}(K:bx ro u0 s1 i j b4){r:((List Int)×Int)}(h:uw u0=some r):en Tryz.prog 27 #[bv u0 s1 i j b4] ro (fun v aH=>∃b5,v= .tuple #[b5,.int .i64 r.2]/\az rI aH b5 r.1):=by
 obtain ⟨d24,k,rfl,nb,ab,-⟩:=id K.t
 unfold uw at h
 have gl:=K.oc;simp only[bw] at gl
 refine ay.go Tryz.func27 rfl Tryz.ntmps27 Tryz.results27 (by simp) fun main J hJ A gn hd hs=>?_
 have gp:=hs 0
 clear hs
 refine aa hJ (ag hJ ?_)
 simp only[*,go_sem]
 refine au fun o L gB=>?_;try simp only[aj] at gB
 try simp only[*,go_sem]
 refine aa hJ (ag hJ ?_)
 revert h;refine bS fun b gC h=>?_
 simp only[*,go_sem]
 refine bX hJ _ (ji gg u0 K ([]:(List (an->Option Int))) (az.nil _ _) gC) fun v ca ad cb a7=>?_
 obtain ⟨c,d,f,q,rfl,P⟩:=a7
 have gM:=P.oc;simp only[bw] at gM
 replace K:=K.mono ad
 replace L:=cb.hd
 simp only[bg] at cb
 refine aC ?_
 try simp only[*,go_sem]
 refine au fun s Q gT=>?_;try simp only[aj] at gT
 try simp only[*,go_sem]
 refine aa hJ (aa hJ (ag hJ ?_))
 simp only[*,go_sem]
 revert h;refine jC hJ (by simp only[*,go_sem]) (fun gV h=>?_) fun gV h=>?_
 ·obtain rfl:=sI h
  refine aa hJ (ag hJ ?_)
  simp only[*,go_sem]
  refine av ?_
  simp only[*,go_sem]
  exact ⟨_,ad,Le.sub (List.nil_sublist _),_,rfl,az.nil _ _⟩
 refine aE hJ (aa hJ ?_)
 refine aa hJ (ag hJ ?_)
 revert h;refine bS fun nd g0 h=>?_
 simp only[*,go_sem]
 refine aJ hJ _ (yx b.1 (P.mono aI) g0) ?_
 try simp only[*,go_sem]
 revert h;refine jC hJ (by simp only[*,go_sem]) (fun g1 h=>?_) fun g1 h=>?_
 ·obtain rfl:=sI h
  refine aa hJ (ag hJ ?_)
  simp only[*,go_sem]
  refine av ?_
  simp only[*,go_sem]
  exact ⟨_,ad,Le.sub (List.nil_sublist _),_,rfl,az.nil _ _⟩
 refine aE hJ (aa hJ ?_)
 refine ag hJ ?_
 simp only[*,go_sem]
 refine aa hJ (aa hJ (ag hJ ?_))
 revert h;refine bS fun g2 cd h=>?_
 obtain ⟨nf,g3⟩:=Bq cd
 clear cd
 try simp only[go_sem] at g3
 try simp only[*,go_sem]
 refine aU hJ ?_
 revert h;refine bS fun g4 ae ha=>?_
 refine bU hJ [6,7,8,9,10,11,26,27,28,29,30,31,32,33,34,35,36,37,38,39,40,41,42,43,44,45,46,47,48,49,50,51,52,53,54,55,56,57,58,59,60,61,62,63,64,65] (fun m V F'=>∃(B:Addr->Option Value) (d71:Option Addr) (S:Nat) (w:List (Nat×Obj)) (I:(List (List Int))) (T:Int),bE (uv u0 b g2) m (I,T)=some g4/\F'=⟨B,(s,bl b.1 c d f q)::(o,bk u0 s1 i j (sl d24 u0.told k))::w⟩/\Ext ca B/\aW (rL rI) B 46 (.slice d71 I.length S) I w/\I.length<=S/\slot V 6= .slice d71 I.length S/\slot V 26= .int .i64 T) fu ?_ ?_
 ·refine ⟨ca,none,0,[],([]:List (List Int)),0,ae,rfl,Ext.refl _,aW.nil _ _ _,Nat.le_refl _,?_⟩
  simp only[*,go_sem]
 rintro al hc F' cf ⟨B,d71,S,w,I,T,ae,rfl,W,U,hf,hg,hh⟩
 refine fo hJ fun _ a8=>?_
 replace P:=P.mono W
 replace K:=K.mono W
 replace Q:=a8.hd
 replace L:=a8.tl.hd
 simp only[bg] at a8
 obtain ⟨cl,cy,cS⟩:=cf.pick [1,2,3,4,25] (by decide)
 simp only[*,go_sem] at cl cy cS
 clear cf gn hd gp
 obtain _|al:=al
 ·exact absurd ae (by simp only[bE,reduceCtorEq,not_false_eq_true])
 revert ae;refine bS fun nm h ao=>?_
 unfold uv at h
 try dsimp only at h
 refine aa hJ ?_
 refine aL hJ fun nn=>?_
 refine ag hJ ?_
 simp only[*,go_sem]
 refine aa hJ ?_
 revert h;refine jC hJ (by simp only[*,go_sem]) (fun hi h=>?_) fun hi h=>?_
 ·refine aE hJ (aa hJ ?_)
  refine aU hJ (aa hJ ?_)
  refine aL hJ fun np=>?_
  refine ag hJ ?_
  simp only[*,go_sem]
  refine aa hJ ?_
  refine aL hJ fun ns=>?_
  refine ag hJ ?_
  simp only[*,go_sem]
  refine aa hJ ?_
  refine aL hJ fun hj=>?_
  refine ag hJ ?_
  simp only[*,go_sem]
  refine au fun z hk c0=>?_;have nx:=aM.cons c0 hj;try simp only[aj] at c0
  try simp only[*,go_sem]
  refine aa hJ ?_
  refine aL hJ fun nz=>?_
  refine ag hJ ?_
  simp only[*,go_sem]
  refine aa hJ (aa hJ ?_)
  refine aL hJ fun nA=>?_
  refine ag hJ ?_
  simp only[*,go_sem]
  refine aU hJ ?_
  revert h;refine bS fun hl R hn=>?_
  refine bU hJ [8,10,11,35,36,37,38,39,40,41,42,43,44,45,46,47,48,49,50,51,52,53,54,55,56,57] (fun m V F'=>∃(i109:Nat) (d96:Option Addr) (M:Nat) (X:List (Nat×Obj)) (d103:Option Addr) (u:Nat) (C:List (Nat×Obj)) (D:(List Int)) (g:(List bP)),m=u0.told.length - i109/\i109<=u0.told.length/\bB (uu T) i109 (u0.told.drop i109) (D,g)=some hl/\F'=⟨B,(z,bl b.1 c d f (sl d103 g u))::(s,bl b.1 c d f q)::(o,bk u0 s1 i j (sl d24 u0.told k))::(X++(C++w))⟩/\aW rI B 3 (.slice d96 D.length M) D X/\D.length<=M/\aW cO B 54 (.slice d103 g.length u) g C/\g.length<=u/\slot V 35= .int .i64 (i109:Int)/\slot V 8= .slice d96 D.length M) u0.told.length ?_ ?_
  ·refine ⟨0,none,0,[],none,0,[],([]:List Int),([]:List bP),(Nat.sub_zero _).symm,Nat.zero_le _,R,rfl,aW.nil _ _ _,Nat.le_refl _,aW.nil _ _ _,Nat.le_refl _,?_⟩
   simp only[*,go_sem]
  rintro nH ho F' a9 ⟨i109,d96,M,X,d103,u,C,D,g,rfl,nI,R,rfl,Y,hp,N,hq,nK,nQ⟩
  obtain ⟨hr,ht,hv⟩:=a9.pick [1,2,3,4,6,7,9,25,26,27,28,29,30,31,32,33,34] (by decide)
  simp only[*,go_sem] at hr ht hv
  have nR:c9 [6,7,8,9,10,11,26,27,28,29,30,31,32,33,34,35,36,37,38,39,40,41,42,43,44,45,46,47,48,49,50,51,52,53,54,55,56,57,58,59,60,61,62,63,64,65] ho hc:=(a9.ir (by decide)).trans (by simp only[*,go_sem])
  clear a9 cl cy cS hg hh
  refine aa hJ (ag hJ ?_)
  simp only[*,go_sem]
  refine aa hJ ?_
  rcases Nat.lt_or_ge i109 u0.told.length with hx|da
  ·refine bD hJ (by simp only[*,go_sem]) ?_
   refine aE hJ ?_
   obtain ⟨a,ba⟩:∃x,u0.told[i109]?=some x:=⟨_,List.getElem?_eq_getElem hx⟩
   rw[cN ba] at R
   revert R;refine bS fun nT h ar=>?_
   unfold uu at h
   try dsimp only at h
   obtain ⟨E,hy,hz,hA,bb⟩:=K.t.el _ _ ba
   obtain rfl:hy=a.cells:=hA
   cases hz
   have hB:=bb 0 _ rfl;simp only[go_sem] at hB
   have hD:=bb 1 _ rfl;simp only[go_sem] at hD
   clear bb ba
   refine aa hJ (aU hJ (aa hJ ?_))
   refine aL hJ fun hE=>?_
   refine ag hJ ?_
   simp only[*,go_sem]
   refine au fun F nV db=>?_;have nX:=aM.cons db hE;try simp only[aj] at db
   try simp only[*,go_sem]
   refine aa hJ ?_
   refine aL hJ fun nY=>?_
   refine ag hJ ?_
   revert h;refine bS fun n0 dd h=>?_
   obtain ⟨n1,hF⟩:=Br dd
   clear dd
   try simp only[go_sem] at hF
   try simp only[*,go_sem]
   revert h;refine jC hJ (by simp only[*,go_sem]) (fun hG h=>?_) fun hG h=>?_
   ·refine aL hJ fun df=>?_
    refine iy hJ mixed [13] (.pure 0 (.pure 1 (.pure 4 (.pure 5 (.rd 6 (.rd 7 (.two 2 (.two 3 (.one 8 (.one 9 (.pure 10 (.pure 11 (.pure 12 (.last 13 .done)))))) 8 (.one 3 (.one 9 (.pure 10 (.pure 11 (.pure 12 (.last 13 .done))))))) 8 (.one 2 (.one 3 (.one 9 (.pure 10 (.pure 11 (.pure 12 (.last 13 .done)))))))))))))) ⟨B,[(F,.cells #[.int .i64 a.aX,.bool a.bn] 54),(z,bl b.1 c d f (sl d103 g u)),(s,bl b.1 c d f q),(o,bk u0 s1 i j (sl (some E) u0.told k))]⟩ (by simp only[*,go_sem]) (by kernel_rfl) ?_
    simp only[*,go_sem]
    refine ja ?_ ?_
    ·simp only[*,go_sem]
     refine au fun O dk dp=>?_;have dq:=aM.cons dp df;try simp only[aj] at dp
     try simp only[*,go_sem]
     refine ja ?_ ?_
     ·revert h;refine bS fun hI hK h=>?_
      obtain ⟨hL,ds⟩:=cW hK
      simp only[*,go_sem]
      refine dI (r:=rI) (l:=D) (x:=(i109:Int)) (cs:=#[.int .i64 (i109:Int)]) (e2:=3) [(O,ic (i109:Int)),(F,.cells #[.int .i64 a.aX,.bool a.bn] 54),(z,bl b.1 c d f (sl d103 g u)),(s,bl b.1 c d f q),(o,bk u0 s1 i j (sl (some E) u0.told k))] (C++w) Y dq hL rfl (by simp only[*,go_sem]) dk rfl rfl e6 e6 jG jI rfl jH (by decide) (by decide) (fun n2 a0 bc G H hM=>?_)
      simp only[List.append_nil,List.cons_append,List.nil_append,List.append_assoc] at H
      subst G
      rw[<-ds] at bc;clear ds
      obtain ⟨d197,hN,rfl,hP⟩:=bc.len
      refine ⟨⟨B,(O,ic (i109:Int))::(F,.cells #[.int .i64 a.aX,.bool a.bn] 54)::(z,bl b.1 c d f (sl d103 g u))::(s,bl b.1 c d f q)::(o,bk u0 s1 i j (sl (some E) u0.told k))::(a0++(C++w))⟩,Le.refl _,?_⟩
      refine ⟨by simp only[*,go_sem],bO ?_⟩
      revert h;refine bS fun hQ hR h=>?_
      obtain rfl:=sI h
      obtain ⟨hS,dt⟩:=cW hR
      try simp only[*,go_sem]
      refine au fun du hT dv=>?_;have hV:=aM.cons dv hM;try simp only[aj] at dv
      try simp only[*,go_sem]
      refine dI (r:=cO) (l:=g) (x:=a) (cs:=#[.int .i64 a.aX,.bool a.bn]) (e2:=54) ((du,.cells #[.int .i64 a.aX,.bool a.bn] 54)::(O,ic (i109:Int))::(F,.cells #[.int .i64 a.aX,.bool a.bn] 54)::(z,bl b.1 c d f (sl d103 g u))::(s,bl b.1 c d f q)::(o,bk u0 s1 i j (sl (some E) u0.told k))::a0) w N hV hS rfl (by simp only[*,go_sem]) hT rfl rfl dR dR gr gv rfl gu (by decide) (by decide) (fun n3 dC bd G H oi=>?_)
      simp only[List.append_nil,List.cons_append,List.nil_append,List.append_assoc] at H
      subst G
      rw[<-dt] at bd;clear dt
      obtain ⟨d208,hX,rfl,hY⟩:=bd.len
      refine ⟨⟨B,(du,.cells #[.int .i64 a.aX,.bool a.bn] 54)::(O,ic (i109:Int))::(F,.cells #[.int .i64 a.aX,.bool a.bn] 54)::(z,bl b.1 c d f (sl d103 g u))::(s,bl b.1 c d f q)::(o,bk u0 s1 i j (sl (some E) u0.told k))::(a0++(dC++w))⟩,Le.refl _,?_⟩
      refine ⟨by simp only[*,go_sem],bO ?_⟩
      try simp only[*,go_sem]
      have bj:=b9 (n:=i109) (by have:=ab;omega)
      refine ag hJ ?_
      simp only[*,go_sem]
      refine ⟨u0.told.length - (i109+1),by omega,_,Le.sub (List.Sublist.cons _ (List.Sublist.cons _ (List.Sublist.cons _ (List.Sublist.refl _)))),i109+1,d197,hN,a0,d208,hX,dC,hI,hQ,rfl,by omega,ar,rfl,bc,hP,bd,hY,?_⟩
      simp only[*,go_sem]
     revert h;refine bS fun hZ h0 h=>?_
     obtain ⟨h1,dE⟩:=cW h0
     simp only[*,go_sem]
     refine au fun a2 h2 dT=>?_;have h3:=aM.cons dT dq;try simp only[aj] at dT
     try simp only[*,go_sem]
     refine dI (r:=rI) (l:=D) (x:=(i109:Int)) (cs:=#[.int .i64 (i109:Int)]) (e2:=3) [(a2,.cells #[.int .i64 a.aX,.bool a.bn] 54),(O,ic (i109:Int)),(F,.cells #[.int .i64 a.aX,.bool a.bn] 54),(z,bl b.1 c d f (sl d103 g u)),(s,bl b.1 c d f q),(o,bk u0 s1 i j (sl (some E) u0.told k))] (C++w) Y h3 h1 rfl (by simp only[*,go_sem]) dk rfl rfl e6 e6 jG jI rfl jH (by decide) (by decide) (fun oj a3 bm G H h4=>?_)
     simp only[List.append_nil,List.cons_append,List.nil_append,List.append_assoc] at H
     subst G
     rw[<-dE] at bm;clear dE
     obtain ⟨d219,h5,rfl,h6⟩:=bm.len
     refine ⟨⟨B,(a2,.cells #[.int .i64 a.aX,.bool a.bn] 54)::(O,ic (i109:Int))::(F,.cells #[.int .i64 a.aX,.bool a.bn] 54)::(z,bl b.1 c d f (sl d103 g u))::(s,bl b.1 c d f q)::(o,bk u0 s1 i j (sl (some E) u0.told k))::(a3++(C++w))⟩,Le.refl _,?_⟩
     refine ⟨by simp only[*,go_sem],bO ?_⟩
     revert h;refine bS fun h7 h8 h=>?_
     obtain rfl:=sI h
     obtain ⟨h9,ea⟩:=cW h8
     try simp only[*,go_sem]
     refine dI (r:=cO) (l:=g) (x:=a) (cs:=#[.int .i64 a.aX,.bool a.bn]) (e2:=54) ((a2,.cells #[.int .i64 a.aX,.bool a.bn] 54)::(O,ic (i109:Int))::(F,.cells #[.int .i64 a.aX,.bool a.bn] 54)::(z,bl b.1 c d f (sl d103 g u))::(s,bl b.1 c d f q)::(o,bk u0 s1 i j (sl (some E) u0.told k))::a3) w N h4 h9 rfl (by simp only[*,go_sem]) h2 rfl rfl dR dR gr gv rfl gu (by decide) (by decide) (fun ox eb bo G H oy=>?_)
     simp only[List.append_nil,List.cons_append,List.nil_append,List.append_assoc] at H
     subst G
     rw[<-ea] at bo;clear ea
     obtain ⟨d228,ib,rfl,ih⟩:=bo.len
     refine ⟨⟨B,(a2,.cells #[.int .i64 a.aX,.bool a.bn] 54)::(O,ic (i109:Int))::(F,.cells #[.int .i64 a.aX,.bool a.bn] 54)::(z,bl b.1 c d f (sl d103 g u))::(s,bl b.1 c d f q)::(o,bk u0 s1 i j (sl (some E) u0.told k))::(a3++(eb++w))⟩,Le.refl _,?_⟩
     refine ⟨by simp only[*,go_sem],bO ?_⟩
     try simp only[*,go_sem]
     have bj:=b9 (n:=i109) (by have:=ab;omega)
     refine ag hJ ?_
     simp only[*,go_sem]
     refine ⟨u0.told.length - (i109+1),by omega,_,Le.sub (List.Sublist.cons _ (List.Sublist.cons _ (List.Sublist.cons _ (List.Sublist.refl _)))),i109+1,d219,h5,a3,d228,ib,eb,hZ,h7,rfl,by omega,ar,rfl,bm,h6,bo,ih,?_⟩
     simp only[*,go_sem]
    revert h;refine bS fun ik il h=>?_
    obtain ⟨im,ec⟩:=cW il
    simp only[*,go_sem]
    refine au fun a4 iv ed=>?_;have ix:=aM.cons ed df;try simp only[aj] at ed
    try simp only[*,go_sem]
    refine au fun a5 j1 eh=>?_;have j2:=aM.cons eh ix;try simp only[aj] at eh
    try simp only[*,go_sem]
    refine dI (r:=rI) (l:=D) (x:=(i109:Int)) (cs:=#[.int .i64 (i109:Int)]) (e2:=3) [(a5,ic (i109:Int)),(a4,.cells #[.int .i64 a.aX,.bool a.bn] 54),(F,.cells #[.int .i64 a.aX,.bool a.bn] 54),(z,bl b.1 c d f (sl d103 g u)),(s,bl b.1 c d f q),(o,bk u0 s1 i j (sl (some E) u0.told k))] (C++w) Y j2 im rfl (by simp only[*,go_sem]) j1 rfl rfl e6 e6 jG jI rfl jH (by decide) (by decide) (fun o0 a6 br G H kh=>?_)
    simp only[List.append_nil,List.cons_append,List.nil_append,List.append_assoc] at H
    subst G
    rw[<-ec] at br;clear ec
    obtain ⟨kj,kk,rfl,kl⟩:=br.len
    refine ⟨⟨B,(a5,ic (i109:Int))::(a4,.cells #[.int .i64 a.aX,.bool a.bn] 54)::(F,.cells #[.int .i64 a.aX,.bool a.bn] 54)::(z,bl b.1 c d f (sl d103 g u))::(s,bl b.1 c d f q)::(o,bk u0 s1 i j (sl (some E) u0.told k))::(a6++(C++w))⟩,Le.refl _,?_⟩
    refine ⟨by simp only[*,go_sem],bO ?_⟩
    revert h;refine bS fun km kn h=>?_
    obtain rfl:=sI h
    obtain ⟨kp,et⟩:=cW kn
    try simp only[*,go_sem]
    refine dI (r:=cO) (l:=g) (x:=a) (cs:=#[.int .i64 a.aX,.bool a.bn]) (e2:=54) ((a5,ic (i109:Int))::(a4,.cells #[.int .i64 a.aX,.bool a.bn] 54)::(F,.cells #[.int .i64 a.aX,.bool a.bn] 54)::(z,bl b.1 c d f (sl d103 g u))::(s,bl b.1 c d f q)::(o,bk u0 s1 i j (sl (some E) u0.told k))::a6) w N kh kp rfl (by simp only[*,go_sem]) iv rfl rfl dR dR gr gv rfl gu (by decide) (by decide) (fun o1 ev bs G H o2=>?_)
    simp only[List.append_nil,List.cons_append,List.nil_append,List.append_assoc] at H
    subst G
    rw[<-et] at bs;clear et
    obtain ⟨ks,kt,rfl,kv⟩:=bs.len
    refine ⟨⟨B,(a5,ic (i109:Int))::(a4,.cells #[.int .i64 a.aX,.bool a.bn] 54)::(F,.cells #[.int .i64 a.aX,.bool a.bn] 54)::(z,bl b.1 c d f (sl d103 g u))::(s,bl b.1 c d f q)::(o,bk u0 s1 i j (sl (some E) u0.told k))::(a6++(ev++w))⟩,Le.refl _,?_⟩
    refine ⟨by simp only[*,go_sem],bO ?_⟩
    try simp only[*,go_sem]
    have bj:=b9 (n:=i109) (by have:=ab;omega)
    refine ag hJ ?_
    simp only[*,go_sem]
    refine ⟨u0.told.length - (i109+1),by omega,_,Le.sub (List.Sublist.cons _ (List.Sublist.cons _ (List.Sublist.cons _ (List.Sublist.refl _)))),i109+1,kj,kk,a6,ks,kt,ev,ik,km,rfl,by omega,ar,rfl,br,kl,bs,kv,?_⟩
    simp only[*,go_sem]
   obtain rfl:=sI h
   refine aE hJ ?_
   have bj:=b9 (n:=i109) (by have:=ab;omega)
   refine ag hJ ?_
   simp only[*,go_sem]
   refine ⟨u0.told.length - (i109+1),by omega,_,Le.sub (List.Sublist.cons _ (List.Sublist.refl _)),i109+1,d96,M,X,d103,u,C,D,g,rfl,by omega,ar,rfl,Y,hp,N,hq,?_⟩
   simp only[*,go_sem]
  have o4:=Nat.not_lt.2 da
  refine bK hJ (by simp only[*,go_sem]) ?_
  rw[List.drop_eq_nil_of_le da] at R
  obtain rfl:=sI R;clear R
  have h:=hn
  dsimp only[aK] at h
  refine bR ?_
  simp only[go_sem]
  refine aa hJ ?_
  refine aL hJ fun kx=>?_
  refine ag hJ ?_
  revert h;refine bS fun pa ky h=>?_
  simp only[*,go_sem]
  refine aJ hJ _ (yx (⟨b.1.bF,b.1.bJ,b.1.aT,b.1.aB,b.1.props,b.1.aR,g⟩:an) ⟨(P.e.mono aI),(P.p.mono aI),(P.y.mono aI),(N.yc ((z,bl b.1 c d f (sl d103 g u))::(s,bl b.1 c d f q)::(o,bk u0 s1 i j (sl d24 u0.told k))::X) w (by first|rfl|simp only[List.append_nil,List.cons_append,List.nil_append,List.append_assoc]|(simp only[List.append_nil,List.cons_append,List.nil_append,List.append_assoc];rfl)) kx)⟩ ky) (aC ?_)
  try simp only[*,go_sem]
  revert h;refine jC hJ (by simp only[*,go_sem]) (fun k0 h=>?_) fun k0 h=>?_
  ·refine aL hJ fun eQ=>?_
   obtain ⟨eS,bz,Z,e0,k2⟩:=Y.jM ((z,bl b.1 c d f (sl d103 g u))::(s,bl b.1 c d f q)::(o,bk u0 s1 i j (sl d24 u0.told k))::(C++w)) [(z,bl b.1 c d f (sl d103 g u)),(s,bl b.1 c d f q),(o,bk u0 s1 i j (sl d24 u0.told k))] (C++w) (by first|rfl|simp only[List.append_nil,List.cons_append,List.nil_append,List.append_assoc]|(simp only[List.append_nil,List.cons_append,List.nil_append,List.append_assoc];rfl)) (by first|rfl|simp only[List.append_nil,List.cons_append,List.nil_append,List.append_assoc]|(simp only[List.append_nil,List.cons_append,List.nil_append,List.append_assoc];rfl)) eQ (aA.cons hk (aA.cons Q (aA.cons L (aA.app N.iu (U.iu)))))
   clear eQ
   refine cM hJ k2 ?_
   obtain ⟨pb,pd,-⟩:=e0.op
   replace Q:=Z.tl.hd
   replace L:=Z.tl.tl.hd
   replace N:=N.mono bz Z.tl.tl.tl.l
   replace U:=U.mono bz Z.tl.tl.tl.r
   simp only[bg] at Z
   refine aL hJ fun lb=>?_
   refine ag hJ ?_
   revert h;refine bS fun lh lj h=>?_
   obtain rfl:=sI h
   obtain ⟨lk,e1⟩:=cW lj
   simp only[*,go_sem]
   refine au fun e3 ll fa=>?_;have ln:=aM.cons fa lb;try simp only[aj] at fa
   try simp only[*,go_sem]
   refine dI (r:=(rL rI)) (l:=I) (x:=D) (cs:=#[.slice d96 D.length M]) (e2:=46) ((e3,.cells #[.slice d96 D.length M] 46)::(z,bl b.1 c d f (sl d103 g u))::(s,bl b.1 c d f q)::(o,bk u0 s1 i j (sl d24 u0.told k))::C) [] U ln lk ⟨_,rfl,e0⟩ (by simp only[*,go_sem]) ll rfl rfl jK jK pI pK rfl pJ (by decide) (by decide) (fun pf fb b0 G H ph=>?_)
   simp only[List.append_nil,List.cons_append,List.nil_append,List.append_assoc] at H
   subst G
   rw[<-e1] at b0;clear e1
   obtain ⟨lo,lr,rfl,lv⟩:=b0.len
   refine ⟨⟨eS,(e3,.cells #[.slice d96 D.length M] 46)::(z,bl b.1 c d f (sl d103 g u))::(s,bl b.1 c d f q)::(o,bk u0 s1 i j (sl d24 u0.told k))::(C++fb)⟩,Le.refl _,?_⟩
   refine aC ?_
   try simp only[*,go_sem]
   refine aL hJ fun pj=>?_
   refine ag hJ ?_
   simp only[*,go_sem]
   refine ⟨al,Nat.lt_succ_self _,_,Le.sub (List.Sublist.cons _ (List.Sublist.cons _ (List.Sublist.cons₂ _ (List.Sublist.cons₂ _ ((List.Sublist.refl _).trans (List.sublist_append_right _ _)))))),eS,lo,lr,fb,lh,(IntKind.i64.wrap (T+1)),ao,rfl,(W.trans bz),b0,lv,?_⟩
   simp only[*,go_sem]
  obtain rfl:=sI h
  refine aE hJ ?_
  refine aL hJ fun pk=>?_
  refine ag hJ ?_
  simp only[*,go_sem]
  refine ⟨al,Nat.lt_succ_self _,_,Le.sub (List.Sublist.cons _ (List.Sublist.cons₂ _ (List.Sublist.cons₂ _ (((List.Sublist.refl _).trans (List.sublist_append_right _ _)).trans (List.sublist_append_right _ _))))),B,d71,S,w,I,(IntKind.i64.wrap (T+1)),ao,rfl,W,U,hf,?_⟩
  simp only[*,go_sem]
 obtain rfl:=sI h
 refine bR ?_
 simp only[go_sem]
 obtain rfl:=sI ao;clear ao
 have h:=ha
 dsimp only[aK] at h
 refine aa hJ ?_
 refine aL hJ fun fg=>?_
 obtain ⟨po,lx,b1,b2,ly⟩:=U.jM ((s,bl b.1 c d f q)::(o,bk u0 s1 i j (sl d24 u0.told k))::[]) [(s,bl b.1 c d f q),(o,bk u0 s1 i j (sl d24 u0.told k))] [] (by first|rfl|simp only[List.append_nil,List.cons_append,List.nil_append,List.append_assoc]|(simp only[List.append_nil,List.cons_append,List.nil_append,List.append_assoc];rfl)) (by first|rfl|simp only[List.append_nil,List.cons_append,List.nil_append,List.append_assoc]|(simp only[List.append_nil,List.cons_append,List.nil_append,List.append_assoc];rfl)) fg (aA.cons Q (aA.cons L (aA.nil _)))
 clear fg
 refine cM hJ ly ?_
 obtain ⟨pr,ps,-⟩:=b2.op
 replace Q:=b1.hd
 replace L:=b1.tl.hd
 simp only[bg] at b1
 refine dc hJ mixed 5 2 (by simp only[*,go_sem]) (by kernel_rfl) ?_
 revert h;refine bS fun lL l1 h=>?_
 obtain ⟨pt,pv,fi⟩:=cJ l1
 obtain ⟨pw,px,l2,l3,fp⟩:=b2.el _ _ fi
 obtain ⟨py,rfl,fr⟩:=l3;obtain ⟨pA,pB,rfl,pC,pD,pT⟩:=id fr
 cases l2
 have l4:=fp 0 _ rfl;simp only[go_sem] at l4
 clear fp fi
 revert h;refine bS fun ma mf h=>?_
 obtain ⟨p0,p1,q0,fs⟩:=nv mf
 have ft:(1:Int).toNat<=((I.length:Int)).toNat:=by omega
 have mi:((I.length:Int)).toNat<=S:=by omega
 have q1:0<=((I.length:Int)):=by omega
 obtain ⟨ra,ml,mn,fv⟩:=az.nC b2 (1:Int).toNat ((I.length:Int)).toNat ft (by omega) fs
 simp only[go_sem] at ml mn ft mi
 obtain ⟨_,_,mr,rb,re,rh⟩:=id fv;cases mr
 clear fs
 revert h;refine bS fun rk mx h=>?_
 obtain rfl:=sI h
 try simp only[*,go_sem]
 refine bX hJ _ (CS (dj:=94) (dJ:=#[]) (dK:=#[]) qA ⟨by simp only[go_sem],fun rl rn my _ m1 _ _ m2 na h=>by simp only[go_sem];exact Dp my m2 m1 na h⟩ lL fr ma fv mx) fun v rp fw b3 a7=>?_
 obtain ⟨rr,rfl,fx⟩:=a7
 replace Q:=b3.hd
 replace L:=b3.tl.hd
 simp only[bg] at b3
 obtain ⟨rv,rB,rfl,sa,sb,-⟩:=id fx
 have sc:=eu (l:=[(s,bl b.1 c d f q),(o,bk u0 s1 i j (sl d24 u0.told k))]) fw (aA.cons Q (aA.cons L (aA.nil _)))
 refine ⟨by simp only[*,go_sem],?_⟩
 refine kG ?_
 try simp only[*,go_sem]
 refine av ?_
 simp only[*,go_sem]
 exact ⟨_,(((ad).trans W).trans lx).trans fw,Le.sub (List.nil_sublist _),_,rfl,fx⟩
def uy (a:(cI×Int))(i93:Nat)(b:aP)(st:(List bq)):Option (Fl (List bq) (ak×ak×Bool×Int)):=
 ah (jR a.1.book b) fun c=>ah (dr st ([c])) fun d=>some (.nx d)
def uz (u0:an):Option (ak×ak×Bool×Int):=
 ah (gy u0 ([]:(List (an->Option Int)))) fun a=>cond ((a.2 != 0)) (some ((⟨0,0⟩:ak),(⟨0,0⟩:ak),false,a.2)) (ah (qG a.1) fun g=>ah (bB (uy a) 0 g ([]:List bq)) fun o=>aK o (fun b=>ah (bL b 0) fun c=>ah (gY b 1 (b.length:Int)) fun d=>ah (jg fM c d) fun h=>ah (jg p8 c d) fun i=>ah (iB h.high u0.aT) fun e=>ah (iA i.high u0.aT) fun f=>ah (eg f e) fun j=>cond (j) (some ((⟨0,0⟩:ak),(⟨0,0⟩:ak),false,0)) (some (e,f,true,0))) (fun _ _=>none) (fun r=>some r))
theorem Du {ro:Addr->Option Value}(bl:cP ro)(u0:an){s1 f g i:Value}(ab:bx ro u0 s1 f g i){r:(ak×ak×Bool×Int)}(h:uz u0=some r):ay Tryz.prog 20 #[bv u0 s1 f g i] ⟨ro,[]⟩ (fun v _=>v= .tuple #[r.1.v,r.2.1.v,.bool r.2.2.1,.int .i64 r.2.2.2]):=by
 unfold uz at h
 have bm:=ab.oc;simp only[bw] at bm
 refine ay.go Tryz.func20 rfl Tryz.ntmps20 Tryz.results20 (by simp) fun main J hJ A bo hd hs=>?_
 have br:=hs 0
 clear hs
 refine aa hJ (ag hJ ?_)
 simp only[*,go_sem]
 refine au fun j L bs=>?_;try simp only[aj] at bs
 refine au fun z M bz=>?_;try simp only[aj] at bz
 refine au fun B N b0=>?_;try simp only[aj] at b0
 try simp only[*,go_sem]
 refine aa hJ (ag hJ ?_)
 revert h;refine bS fun d b1 h=>?_
 simp only[*,go_sem]
 refine bX hJ _ (iD bl u0 ab ([]:(List (an->Option Int))) (az.nil _ _) b1) fun v g1 g2 I O=>?_
 obtain ⟨k,o,p,q,s,rfl,D,ad⟩:=O
 have b2:=D.oc;simp only[bw] at b2
 have b3:=ad.oc;simp only[bw] at b3
 replace N:=I.hd
 replace M:=I.tl.hd
 replace L:=I.tl.tl.hd
 simp only[bg] at I
 refine aC ?_
 try simp only[*,go_sem]
 refine au fun t ae b4=>?_;try simp only[aj] at b4
 try simp only[*,go_sem]
 refine aa hJ (aa hJ (ag hJ ?_))
 simp only[*,go_sem]
 revert h;refine jC hJ (by simp only[*,go_sem]) (fun b5 h=>?_) fun b5 h=>?_
 ·obtain rfl:=sI h
  refine aa hJ (ag hJ ?_)
  simp only[*,go_sem]
  refine av ?_
  simp only[*,go_sem]
 refine aE hJ (aa hJ ?_)
 refine ag hJ ?_
 simp only[*,go_sem]
 refine aa hJ (aa hJ (ag hJ ?_))
 revert h;refine bS fun u ca h=>?_
 simp only[*,go_sem]
 refine bX hJ _ (yE d.1 D ad ca) fun v P cb E O=>?_
 obtain ⟨g3,rfl,al⟩:=O
 replace D:=D.mono cb
 replace ae:=E.hd
 replace N:=E.tl.hd
 replace M:=E.tl.tl.hd
 replace L:=E.tl.tl.tl.hd
 simp only[bg] at E
 obtain ⟨d81,g4,rfl,ha,cd,-⟩:=id al
 refine aC ?_
 try simp only[*,go_sem]
 refine aU hJ ?_
 revert h;refine bS fun cf w cl=>?_
 refine bU hJ [7,9,25,26,27,28,29,30,31,32,33,34,35,36] (fun m ao F'=>∃(i93:Nat) (d87:Option Addr) (G:Nat) (Q:List (Nat×Obj)) (e:(List bq)),m=u.length - i93/\i93<=u.length/\bB (uy d) i93 (u.drop i93) e=some cf/\F'=⟨P,(t,kn d.1 k o p q s)::(B,rt 0 0)::(z,rt 0 0)::(j,bk u0 s1 f g i)::Q⟩/\aW jc P 94 (.slice d87 e.length G) e Q/\e.length<=G/\slot ao 25= .int .i64 (i93:Int)/\slot ao 7= .slice d87 e.length G) u.length ?_ ?_
 ·refine ⟨0,none,0,[],([]:List bq),(Nat.sub_zero _).symm,Nat.zero_le _,w,rfl,aW.nil _ _ _,Nat.le_refl _,?_⟩
  simp only[*,go_sem]
 rintro hc hf F' ar ⟨i93,d87,G,Q,e,rfl,hg,w,rfl,a0,hh,hi,hj⟩
 obtain ⟨cy,cS,c0⟩:=ar.pick [1,2,3,4,5,6,23,24] (by decide)
 simp only[*,go_sem] at cy cS c0
 clear ar bo hd br
 refine aa hJ (ag hJ ?_)
 simp only[*,go_sem]
 refine aa hJ ?_
 rcases Nat.lt_or_ge i93 u.length with da|a2
 ·refine bD hJ (by simp only[*,go_sem]) ?_
  refine aE hJ ?_
  obtain ⟨C,R⟩:∃x,u[i93]?=some x:=⟨_,List.getElem?_eq_getElem da⟩
  rw[cN R] at w
  revert w;refine bS fun hk h db=>?_
  unfold uy at h
  try dsimp only at h
  obtain ⟨hl,dd,df,dk,S⟩:=al.el _ _ R
  obtain rfl:dd=C.cells:=dk
  cases df
  have dp:=S 0 _ rfl;simp only[go_sem] at dp
  have dq:=S 1 _ rfl;simp only[go_sem] at dq
  clear S R
  refine aa hJ (aU hJ (aa hJ ?_))
  refine aL hJ fun ds=>?_
  refine ag hJ ?_
  simp only[*,go_sem]
  refine au fun a3 hn a4=>?_;have ho:=aM.cons a4 ds;try simp only[aj] at a4
  try simp only[*,go_sem]
  refine aL hJ fun dt=>?_
  refine ag hJ ?_
  revert h;refine bS fun a du h=>?_
  simp only[*,go_sem]
  refine aJ hJ _ (qf d.1.book (D.mono aI) C du) (aC ?_)
  revert h;refine bS fun dv dC h=>?_
  obtain rfl:=sI h
  obtain ⟨dE,a5⟩:=cW dC
  try simp only[*,go_sem]
  refine au fun a6 dT a7=>?_;have ea:=aM.cons a7 dt;try simp only[aj] at a7
  try simp only[*,go_sem]
  refine dI (r:=jc) (l:=e) (x:=a) (cs:=#[.int .i64 a.spot.aG,.int .i64 a.spot.high.num,.int .i64 a.spot.high.den,.int .i64 a.at_,.int .i64 a.high.num,.int .i64 a.high.den]) (e2:=94) [(a6,.cells #[.int .i64 a.spot.aG,.int .i64 a.spot.high.num,.int .i64 a.spot.high.den,.int .i64 a.at_,.int .i64 a.high.num,.int .i64 a.high.den] 94),(a3,.cells #[.int .i64 C.back,.int .i64 C.high] 90),(t,kn d.1 k o p q s),(B,rt 0 0),(z,rt 0 0),(j,bk u0 s1 f g i)] [] a0 ea dE rfl (by simp only[*,go_sem]) dT rfl rfl lR lR sD sF rfl sE (by decide) (by decide) (fun hp a8 T eb ec hq=>?_)
  simp only[List.append_nil,List.cons_append,List.nil_append,List.append_assoc] at ec
  subst eb
  rw[<-a5] at T;clear a5
  obtain ⟨d115,ed,rfl,eh⟩:=T.len
  refine ⟨⟨P,(a6,.cells #[.int .i64 a.spot.aG,.int .i64 a.spot.high.num,.int .i64 a.spot.high.den,.int .i64 a.at_,.int .i64 a.high.num,.int .i64 a.high.den] 94)::(a3,.cells #[.int .i64 C.back,.int .i64 C.high] 90)::(t,kn d.1 k o p q s)::(B,rt 0 0)::(z,rt 0 0)::(j,bk u0 s1 f g i)::a8⟩,Le.refl _,?_⟩
  refine aC ?_
  try simp only[*,go_sem]
  have hr:=b9 (n:=i93) (by have:=cd;omega)
  refine ag hJ ?_
  simp only[*,go_sem]
  refine ⟨u.length - (i93+1),by omega,_,Le.sub (List.Sublist.cons _ (List.Sublist.cons _ (List.Sublist.refl _))),i93+1,d115,ed,a8,dv,rfl,by omega,db,rfl,T,eh,?_⟩
  simp only[*,go_sem]
 have ht:=Nat.not_lt.2 a2
 refine bK hJ (by simp only[*,go_sem]) ?_
 rw[List.drop_eq_nil_of_le a2] at w
 obtain rfl:=sI w;clear w
 have h:=cl
 dsimp only[aK] at h
 refine bR ?_
 simp only[go_sem]
 refine aa hJ ?_
 refine aL hJ fun a9=>?_
 obtain ⟨K,hv,et,U,ev⟩:=a0.eC [(t,kn d.1 k o p q s),(B,rt 0 0),(z,rt 0 0),(j,bk u0 s1 f g i)] [] a9 (aA.cons ae (aA.cons N (aA.cons M (aA.cons L (aA.nil _)))))
 clear a9
 refine cM hJ ev ?_
 obtain ⟨hx,hy,-⟩:=U.op
 simp only[bg] at et
 refine dA hJ mixed 6 ⟨K,[(t,kn d.1 k o p q s),(B,rt 0 0),(z,rt 0 0),(j,bk u0 s1 f g i)]⟩ (by simp only[*,go_sem]) (by kernel_rfl) ?_
 revert h;refine bS fun V eQ h=>?_
 obtain ⟨hz,hA,ba⟩:=cJ eQ
 obtain ⟨hB,eS,e0,e1,y⟩:=U.el _ _ ba
 obtain rfl:eS=V.cells:=e1
 cases e0
 have e3:=y 0 _ rfl;simp only[go_sem] at e3
 have fa:=y 1 _ rfl;simp only[go_sem] at fa
 have fb:=y 2 _ rfl;simp only[go_sem] at fb
 have fg:=y 3 _ rfl;simp only[go_sem] at fg
 have fi:=y 4 _ rfl;simp only[go_sem] at fi
 have fp:=y 5 _ rfl;simp only[go_sem] at fp
 clear y ba
 revert h;refine bS fun bb fr h=>?_
 obtain ⟨hD,hE,hF,bc⟩:=nv fr
 have bd:(1:Int).toNat<=((e.length:Int)).toNat:=by omega
 have fs:((e.length:Int)).toNat<=G:=by omega
 have hG:0<=((e.length:Int)):=by omega
 obtain ⟨d132,ft,fu,W⟩:=az.nC U (1:Int).toNat ((e.length:Int)).toNat bd (by omega) bc
 simp only[go_sem] at ft fu bd fs
 obtain ⟨_,_,fv,hI,hK,hL⟩:=id W;cases fv
 clear bc
 revert h;refine bS fun b fw h=>?_
 try simp only[*,go_sem]
 refine ⟨_,bu hJ fun F H=>p7 (dj:=67) (dJ:=#[]) (dK:=#[]) fM ⟨by simp only[go_sem],fun fx gg X Y _ h=>by simp only[go_sem];exact pY X Y h⟩ V bb (W.mono (bM H)) fw,?_⟩
 try simp only[*,go_sem]
 refine au fun Z hM gl=>?_;try simp only[aj] at gl
 try simp only[*,go_sem]
 refine aa hJ ?_
 refine dA hJ mixed 6 ⟨K,[(Z,.cells #[.int .i64 b.spot.aG,.int .i64 b.spot.high.num,.int .i64 b.spot.high.den,.int .i64 b.at_,.int .i64 b.high.num,.int .i64 b.high.den] 94),(t,kn d.1 k o p q s),(B,rt 0 0),(z,rt 0 0),(j,bk u0 s1 f g i)]⟩ (by simp only[*,go_sem]) (by kernel_rfl) ?_
 revert h;refine bS fun c gn h=>?_
 simp only[*,go_sem]
 refine ⟨_,bu hJ fun F H=>p7 (dj:=75) (dJ:=#[]) (dK:=#[]) p8 ⟨by simp only[go_sem],fun fx gg X Y _ h=>by simp only[go_sem];exact CL X Y h⟩ V bb (W.mono (bM H)) gn,?_⟩
 try simp only[*,go_sem]
 refine au fun bj hN gp=>?_;try simp only[aj] at gp
 try simp only[*,go_sem]
 refine aa hJ ?_
 refine dA hJ mixed 10 ⟨K,[(bj,.cells #[.int .i64 c.spot.aG,.int .i64 c.spot.high.num,.int .i64 c.spot.high.den,.int .i64 c.at_,.int .i64 c.high.num,.int .i64 c.high.den] 94),(Z,.cells #[.int .i64 b.spot.aG,.int .i64 b.spot.high.num,.int .i64 b.spot.high.den,.int .i64 b.at_,.int .i64 b.high.num,.int .i64 b.high.den] 94),(t,kn d.1 k o p q s),(j,bk u0 s1 f g i)]⟩ (by simp only[*,go_sem]) (by kernel_rfl) ?_
 revert h;refine bS fun gB gC h=>?_
 simp only[*,go_sem]
 refine ⟨_,bu hJ fun F H=>n5 b.high u0.aT gC,b6 ?_⟩
 revert h;refine bS fun gM gT h=>?_
 try simp only[*,go_sem]
 refine ⟨_,bu hJ fun F H=>n4 c.high u0.aT gT,?_⟩
 try simp only[*,go_sem]
 refine aa hJ (aa hJ (ag hJ ?_))
 revert h;refine bS fun hP gV h=>?_
 simp only[*,go_sem]
 refine aJ hJ _ (g5 gM gB gV) ?_
 try simp only[*,go_sem]
 revert h;refine jC hJ (by simp only[*,go_sem]) (fun g0 h=>?_) fun g0 h=>?_
 ·obtain rfl:=sI h
  refine aa hJ (ag hJ ?_)
  simp only[*,go_sem]
  refine av ?_
  simp only[*,go_sem]
 refine aE hJ (aa hJ ?_)
 refine iy hJ mixed [] (.two 0 (.two 1 (.one 2 (.one 3 (.pure 4 (.pure 5 .done)))) 2 (.one 1 (.one 3 (.pure 4 (.pure 5 .done))))) 1 (.one 0 (.one 2 (.one 3 (.pure 4 (.pure 5 .done)))))) ⟨K,[(bj,.cells #[.int .i64 c.spot.aG,.int .i64 c.spot.high.num,.int .i64 c.spot.high.den,.int .i64 c.at_,.int .i64 c.high.num,.int .i64 c.high.den] 94),(Z,.cells #[.int .i64 b.spot.aG,.int .i64 b.spot.high.num,.int .i64 b.spot.high.den,.int .i64 b.at_,.int .i64 b.high.num,.int .i64 b.high.den] 94),(t,kn d.1 k o p q s),(j,bk u0 s1 f g i)]⟩ (by simp only[*,go_sem]) (by kernel_rfl) ?_
 simp only[*,go_sem]
 refine ja ?_ ?_
 ·simp only[*,go_sem]
  refine ja ?_ ?_
  ·obtain rfl:=sI h
   simp only[*,go_sem]
   refine av ?_
   simp only[*,go_sem]
  obtain rfl:=sI h
  simp only[*,go_sem]
  refine av ?_
  simp only[*,go_sem]
 obtain rfl:=sI h
 simp only[*,go_sem]
 refine av ?_
 simp only[*,go_sem]
def qH (u0:an)(b:Int):Option ((List Int)×Int):=
 ah (gy u0 ([(eI b)])) fun a=>cond ((a.2 != 0)) (some (([]:(List Int)),a.2)) (ah (mq a.1 b) fun c=>some (c,0))
theorem uA {ro:Addr->Option Value}(g:cP ro)(u0:an){s1 i j k:Value}(f:bx ro u0 s1 i j k)(a:Int){r:((List Int)×Int)}(h:qH u0 a=some r):en Tryz.prog 40 #[bv u0 s1 i j k,.int .i64 a] ro (fun v aH=>∃m,v= .tuple #[m,.int .i64 r.2]/\az rI aH m r.1):=by
 unfold qH at h
 have D:=f.oc;simp only[bw] at D
 refine ay.go Tryz.func40 rfl Tryz.ntmps40 Tryz.results40 (by simp) fun main J hJ A Y hd hs=>?_
 have Z:=hs 0
 have k1:=hs 1
 clear hs
 refine aa hJ (ag hJ ?_)
 simp only[*,go_sem]
 refine au fun E F G=>?_;try simp only[aj] at G
 try simp only[*,go_sem]
 refine aa hJ ?_
 refine aL hJ fun H=>?_
 refine ag hJ ?_
 revert h;refine bS fun I K h=>?_
 simp only[*,go_sem]
 refine au fun c n p=>?_;have q:=aM.cons p H;try simp only[aj] at p
 try simp only[*,go_sem]
 obtain ⟨d,s,t⟩:=e8 (b:=c) (o:=(.cells #[.func (.func 105) #[.int .i64 a] #[]] 86)) [] ((E,bk u0 s1 i j k)::[]) q n (aA.cons F (aA.nil _))
 have u:az (cK) (bI ro c (.cells #[.func (.func 105) #[.int .i64 a] #[]] 86)) (.slice (some ⟨c,0,none⟩) 1 1) [(eI a)]:=(az.one (r:=(cK)) (e:=86) (cs:=#[.func (.func 105) #[.int .i64 a] #[]]) (x:=(eI a)) (own:=[(c,.cells #[.func (.func 105) #[.int .i64 a] #[]] 86)]) n (by simp[lk]) ⟨105,#[.int .i64 a],#[],rfl,⟨by simp only[go_sem],fun ab ad L _ _ _ _ _ M N O P h=>by simp only[go_sem];exact p6 a L ⟨M,N,O,P⟩ h⟩⟩)
 generalize bI ro c (.cells #[.func (.func 105) #[.int .i64 a] #[]] 86)=ae at u s d t
 refine fY hJ t ?_
 replace f:=f.mono d
 replace g:=g.mono d
 simp only[bg] at s
 have Q:=aM.tl q
 refine bX hJ _ (iD g u0 f ([(eI a)]) u K) fun v al w R l=>?_
 obtain ⟨ao,ar,a0,a2,a3,rfl,y,z⟩:=l
 have S:=y.oc;simp only[bw] at S
 have T:=z.oc;simp only[bw] at T
 simp only[bg] at R
 refine aC ?_
 try simp only[*,go_sem]
 refine au fun a4 a5 B=>?_;have a6:=aM.cons B Q;try simp only[aj] at B
 try simp only[*,go_sem]
 refine aa hJ (aa hJ (ag hJ ?_))
 simp only[*,go_sem]
 revert h;refine jC hJ (by simp only[*,go_sem]) (fun U h=>?_) fun U h=>?_
 ·obtain rfl:=sI h
  refine aa hJ (ag hJ ?_)
  simp only[*,go_sem]
  refine av ?_
  simp only[*,go_sem]
  exact ⟨_,(d).trans w,Le.sub (List.nil_sublist _),_,rfl,az.nil _ _⟩
 refine aE hJ (aa hJ ?_)
 refine ag hJ ?_
 revert h;refine bS fun a7 V h=>?_
 obtain rfl:=sI h
 simp only[*,go_sem]
 refine bX hJ _ (qF I.1 y z a V) fun v a8 W X l=>?_
 obtain ⟨a9,rfl,C⟩:=l
 simp only[bg] at X
 obtain ⟨d89,ba,rfl,bb,bc,-⟩:=id C
 refine aC ?_
 try simp only[*,go_sem]
 refine av ?_
 simp only[*,go_sem]
 exact ⟨_,((d).trans w).trans W,Le.sub (List.nil_sublist _),_,rfl,C⟩
def uB (a:(cI×Int))(i80:Nat)(i102:Nat)(c:Int)(st:(Int×ak)):Option (Fl (Int×ak) (Int×ak×Int)):=
 ah (jf a.1.book (i80:Int) c) fun b=>ah (gx a.1.book b) fun d=>cond (d) (ah (jT a.1.book b) fun e=>ah (eg st.2 e) fun f=>cond (f) (ah (jT a.1.book b) fun g=>some (.nx ((i80:Int),g))) (some (.nx (st.1,st.2)))) (some (.nx (st.1,st.2)))
def uC (a:(cI×Int))(i80:Nat)(d:cA)(st:(Int×ak)):Option (Fl (Int×ak) (Int×ak×Int)):=
 ah (mq a.1 (i80:Int)) fun c=>ah (bB (uB a i80) 0 c (st.1,st.2)) fun o=>aK o (fun b=>some (.nx (b.1,b.2))) (fun _ _=>none) (fun r=>some (.rt r))
def qI (u0:an):Option (Int×ak×Int):=
 ah (gy u0 ([]:(List (an->Option Int)))) fun a=>cond ((a.2 != 0)) (some (0,(⟨0,0⟩:ak),a.2)) (ah (fq 0) fun c=>ah (bB (uC a) 0 a.1.book.aR ((-1),c)) fun o=>aK o (fun b=>some (b.1,b.2,0)) (fun _ _=>none) (fun r=>some r))
theorem yG {ro:Addr->Option Value}(ar:cP ro)(u0:an){s1 j k l:Value}(R:bx ro u0 s1 j k l){r:(Int×ak×Int)}(h:qI u0=some r):ay Tryz.prog 46 #[bv u0 s1 j k l] ⟨ro,[]⟩ (fun v _=>v= .tuple #[.int .i64 r.1,r.2.1.v,.int .i64 r.2.2]):=by
 unfold qI at h
 have a0:=R.oc;simp only[bw] at a0
 refine ay.go Tryz.func46 rfl Tryz.ntmps46 Tryz.results46 (by simp) fun main J hJ A a2 hd hs=>?_
 have a3:=hs 0
 clear hs
 refine aa hJ (ag hJ ?_)
 simp only[*,go_sem]
 refine au fun w ev a4=>?_;try simp only[aj] at a4
 refine au fun z eQ a5=>?_;try simp only[aj] at a5
 try simp only[*,go_sem]
 refine aa hJ (ag hJ ?_)
 revert h;refine bS fun a a6 h=>?_
 simp only[*,go_sem]
 refine bX hJ _ (iD ar u0 R ([]:(List (an->Option Int))) (az.nil _ _) a6) fun v S eS a7 B=>?_
 obtain ⟨C,D,e0,E,G,rfl,b,p⟩:=B
 have a8:=b.oc;simp only[bw] at a8
 have a9:=p.oc;simp only[bw] at a9
 simp only[bg] at a7
 obtain ⟨d52,H,rfl,e1,ba,-⟩:=id b.y
 refine aC ?_
 try simp only[*,go_sem]
 refine au fun I e2 bb=>?_;try simp only[aj] at bb
 try simp only[*,go_sem]
 refine aa hJ (aa hJ (ag hJ ?_))
 simp only[*,go_sem]
 revert h;refine jC hJ (by simp only[*,go_sem]) (fun bc h=>?_) fun bc h=>?_
 ·obtain rfl:=sI h
  refine aa hJ (ag hJ ?_)
  simp only[*,go_sem]
  refine av ?_
  simp only[*,go_sem]
 refine aE hJ (aa hJ ?_)
 refine ag hJ ?_
 revert h;refine bS fun bd bj h=>?_
 simp only[*,go_sem]
 refine aJ hJ _ (iz 0 bj) (aC ?_)
 try simp only[*,go_sem]
 refine aa hJ (aa hJ (ag hJ ?_))
 simp only[*,go_sem]
 refine aU hJ ?_
 revert h;refine bS fun bl e bm=>?_
 refine bU hJ [2,6,8,9,25,26,27,28,29,30,31,32,33,34,35,36,37,38,39,40,41,42,43,44,45,46,47,48,49,50,51,52,53,54,55,56,57,58,59] (fun m o F'=>∃(i80:Nat) (q:Addr->Option Value) (s:Int) (f:ak),m=a.1.book.aR.length - i80/\i80<=a.1.book.aR.length/\bB (uC a) i80 (a.1.book.aR.drop i80) (s,f)=some bl/\F'=⟨q,(I,kn a.1 C D (sl d52 a.1.book.aR H) E G)::(z,rt f.num f.den)::(w,bk u0 s1 j k l)::[]⟩/\Ext S q/\slot o 25= .int .i64 (i80:Int)/\slot o 2= .int .i64 s) a.1.book.aR.length ?_ ?_
 ·refine ⟨0,S,(-1),bd,(Nat.sub_zero _).symm,Nat.zero_le _,e,rfl,Ext.refl _,?_⟩
  simp only[*,go_sem]
 rintro e3 bo F' T ⟨i80,q,s,f,rfl,fa,e,rfl,K,br,bs⟩
 refine fo hJ fun _ bz=>?_
 replace b:=b.mono K
 replace p:=p.mono K
 simp only[bg] at bz
 obtain ⟨U,V,W⟩:=T.pick [3,4,5,24] (by decide)
 simp only[*,go_sem] at U V W
 clear T a2 hd a3
 refine aa hJ (ag hJ ?_)
 simp only[*,go_sem]
 refine aa hJ ?_
 rcases Nat.lt_or_ge i80 a.1.book.aR.length with b0|X
 ·refine bD hJ (by simp only[*,go_sem]) ?_
  refine aE hJ ?_
  obtain ⟨b1,L⟩:∃x,a.1.book.aR[i80]?=some x:=⟨_,List.getElem?_eq_getElem b0⟩
  rw[cN L] at e
  revert e;refine bS fun fb h b2=>?_
  unfold uC at h
  try dsimp only at h
  obtain ⟨b3,b4,b5,ca,t⟩:=b.y.el _ _ L
  obtain rfl:b4=b1.cells:=ca
  cases b5
  have cb:=t 0 _ rfl;simp only[go_sem] at cb
  have cd:=t 1 _ rfl;simp only[go_sem] at cd
  have cf:=t 2 _ rfl;simp only[go_sem] at cf
  clear t L
  refine aa hJ (aU hJ (aa hJ ?_))
  refine ag hJ ?_
  simp only[*,go_sem]
  refine aa hJ (ag hJ ?_)
  revert h;refine bS fun c cl h=>?_
  simp only[*,go_sem]
  refine bX hJ _ (qF a.1 b p (i80:Int) cl) fun v Y Z cy B=>?_
  obtain ⟨fg,rfl,ab⟩:=B
  replace b:=b.mono Z
  simp only[bg] at cy
  obtain ⟨d95,fi,rfl,fp,M,-⟩:=id ab
  refine aC ?_
  try simp only[*,go_sem]
  refine aU hJ ?_
  revert h;refine bS fun c0 g da=>?_
  refine bU hJ [2,8,9,32,33,34,35,36,37,38,39,40,41,42,43,44,45,46,47,48,49,50,51,52,53,54,55,56,57,58] (fun m o F'=>∃(i102:Nat) (i:Int) (d:ak),m=c.length - i102/\i102<=c.length/\bB (uB a i80) i102 (c.drop i102) (i,d)=some c0/\F'=⟨Y,(I,kn a.1 C D (sl (some b3) a.1.book.aR H) E G)::(z,rt d.num d.den)::(w,bk u0 s1 j k l)::[]⟩/\slot o 32= .int .i64 (i102:Int)/\slot o 2= .int .i64 i) c.length ?_ ?_
  ·refine ⟨0,s,f,(Nat.sub_zero _).symm,Nat.zero_le _,g,rfl,?_⟩
   simp only[*,go_sem]
  rintro fr db F' N ⟨i102,i,d,rfl,fs,g,rfl,ft,fu⟩
  obtain ⟨dd,df,dk⟩:=N.pick [3,4,5,6,24,25,26,27,28,29,30,31] (by decide)
  simp only[*,go_sem] at dd df dk
  have fv:c9 [2,6,8,9,25,26,27,28,29,30,31,32,33,34,35,36,37,38,39,40,41,42,43,44,45,46,47,48,49,50,51,52,53,54,55,56,57,58,59] db bo:=(N.ir (by decide)).trans (by simp only[*,go_sem])
  clear N U V W bs br
  refine aa hJ (ag hJ ?_)
  simp only[*,go_sem]
  refine aa hJ ?_
  rcases Nat.lt_or_ge i102 c.length with dp|ad
  ·refine bD hJ (by simp only[*,go_sem]) ?_
   refine aE hJ ?_
   obtain ⟨ae,O⟩:∃x,c[i102]?=some x:=⟨_,List.getElem?_eq_getElem dp⟩
   rw[cN O] at g
   revert g;refine bS fun fw h P=>?_
   unfold uB at h
   try dsimp only at h
   obtain ⟨fx,dq,ds,dt,al⟩:=ab.el _ _ O
   obtain rfl:dq=[.int .i64 ae]:=dt
   cases ds
   have du:=al 0 _ rfl;simp only[go_sem] at du
   clear al O
   refine aa hJ (aU hJ (aa hJ ?_))
   refine ag hJ ?_
   simp only[*,go_sem]
   refine aa hJ (ag hJ ?_)
   revert h;refine bS fun Q dv h=>?_
   simp only[*,go_sem]
   refine aJ hJ _ (kR a.1.book (b.mono aI) (i80:Int) ae dv) (aC ?_)
   try simp only[*,go_sem]
   refine au fun gg gl dC=>?_;try simp only[aj] at dC
   try simp only[*,go_sem]
   refine aa hJ ?_
   refine dc hJ mixed 12 4 (by simp only[*,go_sem]) (by kernel_rfl) ?_
   revert h;refine bS fun gn dE h=>?_
   simp only[*,go_sem]
   refine ⟨_,bu hJ fun F u=>kZ a.1.book (b.mono (bM u)) Q dE,b6 ?_⟩
   revert h;refine cS (fun dT h=>?_) fun dT h=>?_
   ·revert h;refine bS fun ea eb h=>?_
    try simp only[*,go_sem]
    refine ⟨_,bu hJ fun F u=>qg a.1.book (b.mono (bM u)) Q eb,b6 ?_⟩
    revert h;refine bS fun gp ec h=>?_
    try simp only[*,go_sem]
    refine ⟨_,bu hJ fun F u=>g5 d ea ec,b6 ?_⟩
    try simp only[*,go_sem]
    revert h;refine jC hJ (by simp only[*,go_sem]) (fun ed h=>?_) fun ed h=>?_
    ·refine ag hJ ?_
     revert h;refine bS fun eh et h=>?_
     obtain rfl:=sI h
     simp only[*,go_sem]
     refine aJ hJ _ (qg a.1.book (b.mono aI) Q et) (aC ?_)
     try simp only[*,go_sem]
     have ao:=b9 (n:=i102) (by have:=M;omega)
     refine ag hJ ?_
     simp only[*,go_sem]
     refine ⟨c.length - (i102+1),by omega,_,Le.sub (List.Sublist.cons _ (List.Sublist.refl _)),i102+1,(i80:Int),eh,rfl,by omega,P,rfl,?_⟩
     simp only[*,go_sem]
    obtain rfl:=sI h
    refine aE hJ ?_
    have ao:=b9 (n:=i102) (by have:=M;omega)
    refine ag hJ ?_
    simp only[*,go_sem]
    refine ⟨c.length - (i102+1),by omega,_,Le.sub (List.Sublist.cons _ (List.Sublist.refl _)),i102+1,i,d,rfl,by omega,P,rfl,?_⟩
    simp only[*,go_sem]
   obtain rfl:=sI h
   try simp only[*,go_sem]
   refine bK hJ (by simp only[*,go_sem]) ?_
   refine aE hJ ?_
   have ao:=b9 (n:=i102) (by have:=M;omega)
   refine ag hJ ?_
   simp only[*,go_sem]
   refine ⟨c.length - (i102+1),by omega,_,Le.sub (List.Sublist.cons _ (List.Sublist.refl _)),i102+1,i,d,rfl,by omega,P,rfl,?_⟩
   simp only[*,go_sem]
  have gB:=Nat.not_lt.2 ad
  refine bK hJ (by simp only[*,go_sem]) ?_
  rw[List.drop_eq_nil_of_le ad] at g
  obtain rfl:=sI g;clear g
  have h:=da
  dsimp only[aK] at h
  obtain rfl:=sI h
  refine bR ?_
  simp only[go_sem]
  have gC:=b9 (n:=i80) (by have:=ba;omega)
  refine ag hJ ?_
  simp only[*,go_sem]
  refine ⟨a.1.book.aR.length - (i80+1),by omega,_,Le.sub (List.Sublist.refl _),i80+1,Y,i,d,rfl,by omega,b2,rfl,(K.trans Z),?_⟩
  simp only[*,go_sem]
 have gM:=Nat.not_lt.2 X
 refine bK hJ (by simp only[*,go_sem]) ?_
 rw[List.drop_eq_nil_of_le X] at e
 obtain rfl:=sI e;clear e
 have h:=bm
 dsimp only[aK] at h
 obtain rfl:=sI h
 refine bR ?_
 simp only[go_sem]
 refine aa hJ ?_
 refine iy hJ mixed [3,4] (.pure 0 (.rd 1 (.pure 2 (.last 3 (.pure 4 .done))))) ⟨q,[(I,kn a.1 C D (sl d52 a.1.book.aR H) E G),(z,rt f.num f.den),(w,bk u0 s1 j k l)]⟩ (by simp only[*,go_sem]) (by kernel_rfl) ?_
 simp only[*,go_sem]
 refine av ?_
 simp only[*,go_sem]
def uD (b:Int)(a:(cI×Int))(i103:Nat)(c:Int)(st:(List ak)):Option (Fl (List ak) (ak×ak×Int)):=
 ah (jf a.1.book b c) fun d=>ah (l8 a.1.book d) fun e=>ah (dr st ([e])) fun f=>some (.nx f)
def uE (u0:an)(b:Int):Option (ak×ak×Int):=
 ah (gy u0 ([(eI b)])) fun a=>cond ((a.2 != 0)) (some ((⟨0,0⟩:ak),(⟨0,0⟩:ak),a.2)) (ah (mq a.1 b) fun f=>ah (bB (uD b a) 0 f ([]:List ak)) fun o=>aK o (fun c=>ah (bL c 0) fun d=>ah (gY c 1 (c.length:Int)) fun e=>ah (gw p9 d e) fun g=>ah (gw eg d e) fun h=>some (g,h,0)) (fun _ _=>none) (fun r=>some r))
theorem Dv {ro:Addr->Option Value}(S:cP ro)(u0:an){s1 f g i:Value}(P:bx ro u0 s1 f g i)(a:Int){r:(ak×ak×Int)}(h:uE u0 a=some r):ay Tryz.prog 41 #[bv u0 s1 f g i,.int .i64 a] ⟨ro,[]⟩ (fun v _=>v= .tuple #[r.1.v,r.2.1.v,.int .i64 r.2.2]):=by
 unfold uE at h
 have b3:=P.oc;simp only[bw] at b3
 refine ay.go Tryz.func41 rfl Tryz.ntmps41 Tryz.results41 (by simp) fun main J hJ A b4 hd hs=>?_
 have b5:=hs 0
 have k1:=hs 1
 clear hs
 refine aa hJ (ag hJ ?_)
 simp only[*,go_sem]
 refine au fun j G ca=>?_;try simp only[aj] at ca
 refine au fun t H cb=>?_;try simp only[aj] at cb
 refine au fun u I cd=>?_;try simp only[aj] at cd
 try simp only[*,go_sem]
 refine aa hJ ?_
 refine aL hJ fun cf=>?_
 refine ag hJ ?_
 revert h;refine bS fun d cl h=>?_
 simp only[*,go_sem]
 refine au fun K al ao=>?_;have ar:=aM.cons ao cf;try simp only[aj] at ao
 try simp only[*,go_sem]
 obtain ⟨T,L,a0⟩:=e8 (b:=K) (o:=(.cells #[.func (.func 105) #[.int .i64 a] #[]] 86)) [] ((u,rt 0 0)::(t,rt 0 0)::(j,bk u0 s1 f g i)::[]) ar al (aA.cons I (aA.cons H (aA.cons G (aA.nil _))))
 have a2:az (cK) (bI ro K (.cells #[.func (.func 105) #[.int .i64 a] #[]] 86)) (.slice (some ⟨K,0,none⟩) 1 1) [(eI a)]:=(az.one (r:=(cK)) (e:=86) (cs:=#[.func (.func 105) #[.int .i64 a] #[]]) (x:=(eI a)) (own:=[(K,.cells #[.func (.func 105) #[.int .i64 a] #[]] 86)]) al (by simp[lk]) ⟨105,#[.int .i64 a],#[],rfl,⟨by simp only[go_sem],fun a3 a4 M _ _ _ _ _ cy cS c0 da h=>by simp only[go_sem];exact p6 a M ⟨cy,cS,c0,da⟩ h⟩⟩)
 generalize bI ro K (.cells #[.func (.func 105) #[.int .i64 a] #[]] 86)=g1 at a2 L T a0
 refine fY hJ a0 ?_
 replace P:=P.mono T
 replace I:=L.hd
 replace H:=L.tl.hd
 replace G:=L.tl.tl.hd
 replace S:=S.mono T
 simp only[bg] at L
 have db:=aM.tl ar
 refine bX hJ _ (iD S u0 P ([(eI a)]) a2 cl) fun v g2 g3 Q U=>?_
 obtain ⟨w,y,z,B,C,rfl,D,a5⟩:=U
 have dd:=D.oc;simp only[bw] at dd
 have df:=a5.oc;simp only[bw] at df
 replace I:=Q.hd
 replace H:=Q.tl.hd
 replace G:=Q.tl.tl.hd
 simp only[bg] at Q
 refine aC ?_
 try simp only[*,go_sem]
 refine au fun E a6 a7=>?_;have g4:=aM.cons a7 db;try simp only[aj] at a7
 try simp only[*,go_sem]
 refine aa hJ (aa hJ (ag hJ ?_))
 simp only[*,go_sem]
 revert h;refine jC hJ (by simp only[*,go_sem]) (fun dk h=>?_) fun dk h=>?_
 ·obtain rfl:=sI h
  refine aa hJ (ag hJ ?_)
  simp only[*,go_sem]
  refine av ?_
  simp only[*,go_sem]
 refine aE hJ (aa hJ ?_)
 refine ag hJ ?_
 simp only[*,go_sem]
 refine aa hJ (aa hJ (ag hJ ?_))
 revert h;refine bS fun k dp h=>?_
 simp only[*,go_sem]
 refine bX hJ _ (qF d.1 D a5 a dp) fun v R dq N U=>?_
 obtain ⟨ha,rfl,a8⟩:=U
 replace D:=D.mono dq
 replace a6:=N.hd
 replace I:=N.tl.hd
 replace H:=N.tl.tl.hd
 replace G:=N.tl.tl.tl.hd
 simp only[bg] at N
 obtain ⟨d91,hc,rfl,hf,ds,-⟩:=id a8
 refine aC ?_
 try simp only[*,go_sem]
 refine aU hJ ?_
 revert h;refine bS fun dt p du=>?_
 refine bU hJ [8,10,29,30,31,32,33,34,35,36,37,38,39,40,41,42,43,44] (fun m a9 F'=>∃(i103:Nat) (d97:Option Addr) (O:Nat) (V:List (Nat×Obj)) (c:(List ak)),m=k.length - i103/\i103<=k.length/\bB (uD a d) i103 (k.drop i103) c=some dt/\F'=⟨R,(E,kn d.1 w y z B C)::(u,rt 0 0)::(t,rt 0 0)::(j,bk u0 s1 f g i)::V⟩/\aW jO R 23 (.slice d97 c.length O) c V/\c.length<=O/\slot a9 29= .int .i64 (i103:Int)/\slot a9 8= .slice d97 c.length O) k.length ?_ ?_
 ·refine ⟨0,none,0,[],([]:List ak),(Nat.sub_zero _).symm,Nat.zero_le _,p,rfl,aW.nil _ _ _,Nat.le_refl _,?_⟩
  simp only[*,go_sem]
 rintro hg hh F' ba ⟨i103,d97,O,V,c,rfl,hi,p,rfl,bb,hj,hk,hl⟩
 obtain ⟨dv,dC,dE⟩:=ba.pick [1,4,5,6,7,27,28] (by decide)
 simp only[*,go_sem] at dv dC dE
 clear ba b4 hd b5 k1
 refine aa hJ (ag hJ ?_)
 simp only[*,go_sem]
 refine aa hJ ?_
 rcases Nat.lt_or_ge i103 k.length with dT|bc
 ·refine bD hJ (by simp only[*,go_sem]) ?_
  refine aE hJ ?_
  obtain ⟨bd,W⟩:∃x,k[i103]?=some x:=⟨_,List.getElem?_eq_getElem dT⟩
  rw[cN W] at p
  revert p;refine bS fun hn h ea=>?_
  unfold uD at h
  try dsimp only at h
  obtain ⟨ho,eb,ec,ed,bj⟩:=a8.el _ _ W
  obtain rfl:eb=[.int .i64 bd]:=ed
  cases ec
  have eh:=bj 0 _ rfl;simp only[go_sem] at eh
  clear bj W
  refine aa hJ (aU hJ (aa hJ ?_))
  refine aL hJ fun hp=>?_
  refine ag hJ ?_
  simp only[*,go_sem]
  refine aL hJ fun et=>?_
  refine dA hJ mixed 9 ⟨R,[(E,kn d.1 w y z B C),(u,rt 0 0),(t,rt 0 0),(j,bk u0 s1 f g i)]⟩ (by simp only[*,go_sem]) (by kernel_rfl) ?_
  revert h;refine bS fun ev eQ h=>?_
  simp only[*,go_sem]
  refine ⟨_,bu hJ fun F q=>kR d.1.book (D.mono (bM q)) a bd eQ,b6 ?_⟩
  revert h;refine bS fun s eS h=>?_
  try simp only[*,go_sem]
  refine ⟨_,bu hJ fun F q=>yh d.1.book (D.mono (bM q)) ev eS,?_⟩
  revert h;refine bS fun e0 e1 h=>?_
  obtain rfl:=sI h
  obtain ⟨e3,bl⟩:=cW e1
  try simp only[*,go_sem]
  refine au fun bm fa bo=>?_;have fb:=aM.cons bo et;try simp only[aj] at bo
  try simp only[*,go_sem]
  refine dI (r:=jO) (l:=c) (x:=s) (cs:=#[.int .i64 s.num,.int .i64 s.den]) (e2:=23) [(bm,rt s.num s.den),(E,kn d.1 w y z B C),(u,rt 0 0),(t,rt 0 0),(j,bk u0 s1 f g i)] [] bb fb e3 rfl (by simp only[*,go_sem]) fa rfl rfl xC xC Bw sC rfl Bx (by decide) (by decide) (fun hq br X fg fi hr=>?_)
  simp only[List.append_nil,List.cons_append,List.nil_append,List.append_assoc] at fi
  subst fg
  rw[<-bl] at X;clear bl
  obtain ⟨d125,fp,rfl,fr⟩:=X.len
  refine ⟨⟨R,(bm,rt s.num s.den)::(E,kn d.1 w y z B C)::(u,rt 0 0)::(t,rt 0 0)::(j,bk u0 s1 f g i)::br⟩,Le.refl _,?_⟩
  refine ⟨by simp only[*,go_sem],kG ?_⟩
  try simp only[*,go_sem]
  have ht:=b9 (n:=i103) (by have:=ds;omega)
  refine ag hJ ?_
  simp only[*,go_sem]
  refine ⟨k.length - (i103+1),by omega,_,Le.sub (List.Sublist.cons _ (List.Sublist.refl _)),i103+1,d125,fp,br,e0,rfl,by omega,ea,rfl,X,fr,?_⟩
  simp only[*,go_sem]
 have hv:=Nat.not_lt.2 bc
 refine bK hJ (by simp only[*,go_sem]) ?_
 rw[List.drop_eq_nil_of_le bc] at p
 obtain rfl:=sI p;clear p
 have h:=du
 dsimp only[aK] at h
 refine bR ?_
 simp only[go_sem]
 refine aa hJ ?_
 refine aL hJ fun hx=>?_
 refine ag hJ ?_
 simp only[*,go_sem]
 refine aa hJ ?_
 refine aL hJ fun bs=>?_
 obtain ⟨fs,hy,ft,Y,fu⟩:=bb.eC [(E,kn d.1 w y z B C),(u,rt 0 0),(t,rt 0 0),(j,bk u0 s1 f g i)] [] bs (aA.cons a6 (aA.cons I (aA.cons H (aA.cons G (aA.nil _)))))
 clear bs
 refine cM hJ fu ?_
 obtain ⟨hz,hA,-⟩:=Y.op
 simp only[bg] at ft
 refine dA hJ mixed 13 ⟨fs,[(E,kn d.1 w y z B C),(j,bk u0 s1 f g i)]⟩ (by simp only[*,go_sem]) (by kernel_rfl) ?_
 revert h;refine bS fun Z fv h=>?_
 obtain ⟨hB,hD,bz⟩:=cJ fv
 obtain ⟨hE,fw,fx,gg,ab⟩:=Y.el _ _ bz
 obtain rfl:fw=Z.cells:=gg
 cases fx
 have gl:=ab 0 _ rfl;simp only[go_sem] at gl
 have gn:=ab 1 _ rfl;simp only[go_sem] at gn
 clear ab bz
 revert h;refine bS fun b0 gp h=>?_
 obtain ⟨hF,hG,hI,b1⟩:=nv gp
 have b2:(1:Int).toNat<=((c.length:Int)).toNat:=by omega
 have gB:((c.length:Int)).toNat<=O:=by omega
 have hK:0<=((c.length:Int)):=by omega
 obtain ⟨d143,gC,gM,ad⟩:=az.nC Y (1:Int).toNat ((c.length:Int)).toNat b2 (by omega) b1
 simp only[go_sem] at gC gM b2 gB
 obtain ⟨_,_,gT,hL,hM,hN⟩:=id ad;cases gT
 clear b1
 revert h;refine bS fun hP gV h=>?_
 try simp only[*,go_sem]
 refine ⟨_,bu hJ fun F q=>lW (dj:=114) (dJ:=#[]) (dK:=#[]) p9 ⟨by simp only[go_sem],fun a3 a4 M ae _ h=>by simp only[go_sem];exact CM M ae h⟩ Z b0 (ad.mono (bM q)) gV,b6 ?_⟩
 revert h;refine bS fun hQ g0 h=>?_
 obtain rfl:=sI h
 try simp only[*,go_sem]
 refine ⟨_,bu hJ fun F q=>lW (dj:=78) (dJ:=#[]) (dK:=#[]) eg ⟨by simp only[go_sem],fun a3 a4 M ae _ h=>by simp only[go_sem];exact g5 M ae h⟩ Z b0 (ad.mono (bM q)) g0,?_⟩
 try simp only[*,go_sem]
 refine av ?_
 simp only[*,go_sem]
def mw (s:List aY)(y:aY):Bool:=s.any fun z=>z.e0==y.e0&&(z.e1==y.e1&&z.e2==y.e2)
def yH (y:aY)(s:List aY):Option (Fl (List aY) Unit):=some (.nx (cond (mw s y) s (s++[y])))
theorem yI {x y:aY}(h:x.v=y.v):x=y:=by
 obtain ⟨a,b,c⟩:=x
 obtain ⟨d,e,f⟩:=y
 simp only[aY.v,Value.agg.injEq,Array.mk.injEq,List.cons.injEq,Value.int.injEq,true_and,and_true] at h
 obtain ⟨rfl,rfl,rfl⟩:=h
 rfl
theorem yJ {s:List aY}{y:aY}:mw s y=true↔y.v∈s.map aY.v:=by
 unfold mw
 simp only[List.any_eq_true,Bool.and_eq_true,beq_iff_eq,List.mem_map]
 constructor
 ·rintro ⟨z,d,h0,h1,h2⟩
  refine ⟨z,d,?_⟩
  obtain ⟨a,b,c⟩:=z
  obtain ⟨e,f,g⟩:=y
  simp only at h0 h1 h2
  subst h0 h1 h2
  rfl
 ·rintro ⟨z,d,h⟩
  obtain rfl:=yI h
  exact ⟨z,d,rfl,rfl,rfl⟩
theorem Dw (x y:aY)(F:af):∃b,(∀(Q:Bool->af->Prop),Q b F->aO Tryz.prog (Op.equal 141 x.v y.v) Q F)/\(b=true↔y.v=x.v):=by
 have a:lM Tryz.prog 141=some [true,true,true]:=by kernel_rfl
 have he:kB Tryz.prog 141 x.v y.v=some (x.e0==y.e0&&(x.e1==y.e1&&(x.e2==y.e2&&true))):=by
  simp only[kB,aY.v,a,gQ,fH,Bool.and_self,if_true]
 refine ⟨_,fun Q h=>(r4 he h).1,?_⟩
 simp only[Bool.and_eq_true,beq_iff_eq,and_true]
 constructor
 ·rintro ⟨h0,h1,h2⟩
  simp only[aY.v,h0,h1,h2]
 ·intro h
  obtain rfl:=yI h
  exact ⟨rfl,rfl,rfl⟩
theorem Dx (x:aY)(F:af)(Q:Unit->af->Prop)(h:Q () F):aO Tryz.prog (Instr.checkKey false 10000 141 x.v) Q F:=by
 have c:Tryz.prog.underlying 141=some (.array 3 3):=by kernel_rfl
 have d:Tryz.prog.underlying 3=some (.int .i64):=by kernel_rfl
 have f:bQ Tryz.prog 3=some 1:=by kernel_rfl
 have g:cm Tryz.prog 3=some false:=by kernel_rfl
 have e:(10000:Nat)=9998+1+1:=rfl
 rw[e]
 unfold Instr.checkKey
 simp only[bf,cV,c,aY.v]
 simp only[Std.Legacy.Range.forIn_eq_forIn_range',Std.Legacy.Range.size,Nat.sub_zero,Nat.add_one_sub_one,Nat.div_one,List.range',List.forIn_cons,List.forIn_nil,bf,ek,f,part,ku,g,bt,Bool.false_eq_true,if_false,cU]
 have b:∀(k:IntKind) (a:Int) (Q:Unit->af->Prop) (G:af),Q () G->aO Tryz.prog (Instr.checkKey false 9999 3 (.int k a)) Q G:=by
  intro k a Q G i
  show aO Tryz.prog (Instr.checkKey false (9998+1) 3 (.int k a)) Q G
  unfold Instr.checkKey
  simp only[bf,cV,d,bt]
  exact i
 exact b .i64 x.e0 _ _ (b .i64 x.e1 _ _ (b .i64 x.e2 _ _ h))
def uF (u0:an):Option (Int×Int):=
 ah (eY u0 ([]:(List (an->Option Int)))) fun a=>cond ((a.2 != 0)) (some (0,a.2)) (ah (kN yH (mb a.1) ([]:List aY)) fun o=>aK o (fun st=>some ((st.length:Int),0)) (fun _ _=>none) (fun _=>none))
theorem Dy {ro:Addr->Option Value}(M:cP ro)(u0:an){s1 w x B:Value}(E:bx ro u0 s1 w x B){r:(Int×Int)}(h:uF u0=some r):ay Tryz.prog 39 #[bv u0 s1 w x B] ⟨ro,[]⟩ (fun v _=>v= .tuple #[.int .i64 r.1,.int .i64 r.2]):=by
 unfold uF at h
 have N:=E.oc;simp only[bw] at N
 refine ay.sZ Tryz.func39 rfl Tryz.ntmps39 Tryz.results39 (by simp) fun main J hJ A F hd hs=>?_
 have O:=hs 0
 clear hs
 refine aa hJ (ag hJ ?_)
 simp only[*,go_sem]
 refine au fun P bd R=>?_;try simp only[aj] at R
 try simp only[*,go_sem]
 refine aa hJ (ag hJ ?_)
 revert h;refine bS fun G S h=>?_
 simp only[*,go_sem]
 refine bX hJ _ (ji M u0 E ([]:(List (an->Option Int))) (az.nil _ _) S) fun v H bj T U=>?_
 obtain ⟨V,W,X,Y,rfl,l⟩:=U
 have Z:=l.oc;simp only[bw] at Z
 simp only[bg] at T
 refine aC ?_
 try simp only[*,go_sem]
 refine au fun ab bm ad=>?_;try simp only[aj] at ad
 try simp only[*,go_sem]
 refine aa hJ (aa hJ (ag hJ ?_))
 simp only[*,go_sem]
 revert h;refine jC hJ (by simp only[*,go_sem]) (fun ae h=>?_) fun ae h=>?_
 ·obtain rfl:=sI h
  refine aa hJ (ag hJ ?_)
  simp only[*,go_sem]
  refine aL hJ fun C=>?_
  replace C:=C.nd
  try simp only[keys,List.map_cons,List.map_nil,List.map_append,List.cons_append,List.nil_append,List.nodup_cons,List.mem_cons,List.mem_append,List.not_mem_nil,or_false,not_or] at C
  refine av ?_
  simp only[*,go_sem]
 refine aE hJ ?_
 revert h;refine bS fun o j h=>?_
 repeat refine aa hJ ?_
 refine ag hJ ?_
 simp only[*,go_sem,-j]
 refine Cj fun k f70=>?_
 have bo:=ee f70;have al:=eU f70
 try simp only[aj] at al
 refine aC ?_
 simp only[*,go_sem,-j]
 refine au fun q br ao=>?_;try simp only[aj] at ao
 try simp only[*,go_sem,-j]
 repeat refine aa hJ ?_
 refine ag hJ ?_
 simp only[*,go_sem,-j]
 refine sY hJ aY.v (by simp only[*,go_sem]) (qn G.1 l.e l.p l.y l.t) (by kernel_rfl) (by kernel_rfl) (ρ:=Unit) (fun (s:List aY) ar=>∃(es:Array MapEntry) (b:Nat),ar=(q,.cells #[.map (some k)] 154)::(k,.map es b)::(ab,bl G.1 V W X Y)::(P,bk u0 s1 w x B)::[]/\es.toList.map (·.key)=s.map aY.v) (f:=yH) j ?_ ?_ (by decide) ?_ ?_
 ·exact ⟨#[],0,rfl,rfl⟩
 ·rintro d4 a0 D a2 c d bs I main J hJ _ ⟨es,b,rfl,g⟩
  obtain rfl:=Option.some.inj I
  clear I
  generalize m:kQ _ _ _=u
  have bz:sz u=24:=by rw[<-m,sX];simp only[*,go_sem]
  have b0:u.defers=[]:=by rw[<-m];rfl
  have b1:slot u 6= .pointer (some ⟨q,0,none⟩):=by rw[<-m,lU];simp only[*,go_sem]
  have b2:slot u 19=d.v:=by rw[<-m,lU];simp only[*,go_sem]
  clear m F hd O
  refine fo hJ fun i a=>?_
  replace a:aA H ((a0,.loop D)::(d4,.deferred (some []))::(q,.cells #[.map (some k)] 154)::(k,.map es b)::_):=a
  have b3:=a.hd
  have b4:=a.tl.hd
  have a3:=a.tl.tl.hd
  have a4:=a.tl.tl.tl.hd
  clear a
  replace i:=i.nd
  simp only[keys,List.map_cons,List.map_nil,List.map_append,List.cons_append,List.nil_append,List.nodup_cons,List.mem_cons,List.mem_append,List.not_mem_nil,or_false,not_or] at i
  refine ag hJ ?_
  simp only[*,go_sem,aY.v]
  refine au fun b5 ca a5=>?_;try simp only[aj] at a5
  try simp only[*,go_sem,aY.v]
  simp only[nM,go_sem]
  refine ⟨D,by simp only[*,go_sem],a2,?_⟩
  try simp only[*,go_sem,aY.v]
  refine aU hJ (ag hJ ?_)
  simp only[*,go_sem,aY.v]
  refine Cl (es:=es) (clock:=b) (by kernel_rfl:Tryz.prog.underlying 154=some (.map 141 4)) (by simp only[*,go_sem]) (fun Q h=>Dx d _ Q h) (by kernel_rfl:Tryz.prog.underlying 141=some (.array 3 3)) (fun e he=>?_) fun K a6 a7=>?_
  ·have:e.key∈es.toList.map (·.key):=List.mem_map_of_mem he
   rw[g] at this
   obtain ⟨z,F,a8⟩:=List.mem_map.1 this
   rw[<-a8]
   exact Dw d z _
  ·simp only[pS,kM,go_sem, *]
   refine ⟨{D with state:=.busy},rfl,?_⟩
   simp only[*,go_sem]
   refine ⟨_,Le.sub (List.Sublist.cons _ (List.Sublist.refl _)),rfl,K,a6,rfl,?_⟩
   have a9:K.toList.map (·.key)=(cond (mw c d) c (c++[d])).map aY.v:=by
    rcases a7 with ⟨hm,he⟩|⟨hm,he⟩
    ·have:mw c d=true:=by rw[yJ,<-g];exact hm
     rw[this,he,g];rfl
    ·have:mw c d=false:=by
      rw[Bool.eq_false_iff]
      intro L
      rw[yJ,<-g] at L
      exact hm L
     rw[this,he,g]
     simp only[cond_false,List.map_append,List.map_cons,List.map_nil]
     rfl
   exact a9
 ·rintro d49 ba bb _ c ⟨es,b,rfl,g⟩ i a
  refine ⟨fun n=>?_,fun k1 n=>?_⟩
  ·subst n;dsimp only[aK] at h
   obtain rfl:=sI h
   clear j
   replace a:aA H ((ba,.loop bb)::(d49,.deferred (some []))::(q,.cells #[.map (some k)] 154)::(k,.map es b)::_):=a
   have a3:=a.tl.tl.hd
   have a4:=a.tl.tl.tl.hd
   clear a
   replace i:=i.nd
   simp only[keys,List.map_cons,List.map_nil,List.map_append,List.cons_append,List.nil_append,List.nodup_cons,List.mem_cons,List.mem_append,List.not_mem_nil,or_false,not_or] at i
   repeat refine aa hJ ?_
   refine ag hJ ?_
   simp only[*,go_sem]
   have bc:es.size=c.length:=by simpa using congrArg List.length g
   refine Ck (es:=es) (clock:=b) rfl (by kernel_rfl:Tryz.prog.underlying 154=some (.map 141 4)) (by simp only[*,go_sem]) ?_
   rw[bc]
   refine av ?_
   simp only[*,go_sem]
  ·subst n;dsimp only[aK] at h
   cases h
 ·intro k1 cb n;subst n;dsimp only[aK] at h
  cases h
def ej (u0:Int)(a:Int)(b:Int):Option Bool:=
 cond (decide (a<=u0)) (some (decide (u0<=b))) (some false)
theorem fN {ro:Addr->Option Value}(u0:Int)(a:Int)(b:Int){r:Bool}(h:ej u0 a b=some r):ay Tryz.prog 59 #[.int .i64 u0,.int .i64 a,.int .i64 b] ⟨ro,[]⟩ (fun v _=>v= .bool r):=by
 unfold ej at h
 refine ay.go Tryz.func59 rfl Tryz.ntmps59 Tryz.results59 (by simp) fun main J hJ A d hd hs=>?_
 have e:=hs 0
 have k1:=hs 1
 have f:=hs 2
 clear hs
 refine aa hJ (ag hJ ?_)
 simp only[*,go_sem]
 refine aa hJ (ag hJ ?_)
 revert h;refine cS (fun c h=>?_) fun c h=>?_
 ·obtain rfl:=sI h
  try simp only[*,go_sem]
  refine av ?_
  simp only[*,go_sem]
 obtain rfl:=sI h
 try simp only[*,go_sem]
 refine av ?_
 simp only[*,go_sem]
def jV (u0:an)(a:Int):Option Bool:=
 ah (bL u0.aB 0) fun b=>ah (bL u0.aB (IntKind.i64.wrap ((u0.aB.length:Int) - 1))) fun c=>ah (ej a b.aG c.aG) fun d=>some d
theorem yK {ro:Addr->Option Value}(u0:an){s1 f g i:Value}(a:bx ro u0 s1 f g i)(b:Int){r:Bool}(h:jV u0 b=some r):ay Tryz.prog 53 #[bv u0 s1 f g i,.int .i64 b] ⟨ro,[]⟩ (fun v _=>v= .bool r):=by
 obtain ⟨d3,c4,rfl,E,G,-⟩:=id a.e
 unfold jV at h
 refine ay.go Tryz.func53 rfl Tryz.ntmps53 Tryz.results53 (by simp) fun main J hJ A H hd hs=>?_
 have I:=hs 0
 have k1:=hs 1
 clear hs
 refine aa hJ (ag hJ ?_)
 simp only[*,go_sem]
 refine au fun K L n=>?_;try simp only[aj] at n
 try simp only[*,go_sem]
 refine aa hJ ?_
 refine dc hJ mixed 17 1 (by simp only[*,go_sem]) (by kernel_rfl) ?_
 revert h;refine bS fun j o h=>?_
 obtain ⟨M,N,k⟩:=cJ o
 obtain ⟨O,p,q,s,c⟩:=a.e.el _ _ k
 obtain rfl:p=j.cells:=s
 cases q
 have t:=c 0 _ rfl;simp only[go_sem] at t
 have u:=c 1 _ rfl;simp only[go_sem] at u
 clear c k
 revert h;refine bS fun l w h=>?_
 obtain ⟨P,Q,m⟩:=cJ w
 obtain ⟨R,x,y,z,d⟩:=a.e.el _ _ m
 obtain rfl:x=l.cells:=z
 cases y
 have B:=d 0 _ rfl;simp only[go_sem] at B
 have C:=d 1 _ rfl;simp only[go_sem] at C
 clear d m
 revert h;refine bS fun S D h=>?_
 obtain rfl:=sI h
 try simp only[*,go_sem]
 refine ⟨_,bu hJ fun F T=>fN b j.aG l.aG D,b6 ?_⟩
 try simp only[*,go_sem]
 refine av ?_
 simp only[*,go_sem]
def mz (u0:an)(a:Int):Option Bool:=
 ah (ej a 0 (IntKind.i64.wrap ((u0.aR.length:Int) - 1))) fun b=>some b
theorem Dz {ro:Addr->Option Value}(u0:an){s1 c d f:Value}(a:bx ro u0 s1 c d f)(b:Int){r:Bool}(h:mz u0 b=some r):ay Tryz.prog 108 #[bv u0 s1 c d f,.int .i64 b] ⟨ro,[]⟩ (fun v _=>v= .bool r):=by
 obtain ⟨d3,c4,rfl,j,k,-⟩:=id a.e
 obtain ⟨d10,l,rfl,m,n,-⟩:=id a.p
 obtain ⟨d17,o,rfl,q,s,-⟩:=id a.y
 obtain ⟨d24,u,rfl,w,x,-⟩:=id a.t
 unfold mz at h
 refine ay.go Tryz.func108 rfl Tryz.ntmps108 Tryz.results108 (by simp) fun main J hJ A z hd hs=>?_
 have B:=hs 0
 have k1:=hs 1
 clear hs
 refine aa hJ (ag hJ ?_)
 simp only[*,go_sem]
 refine au fun C D g=>?_;try simp only[aj] at g
 try simp only[*,go_sem]
 refine aa hJ (ag hJ ?_)
 revert h;refine bS fun E i h=>?_
 obtain rfl:=sI h
 simp only[*,go_sem]
 refine aJ hJ _ (fN b 0 (IntKind.i64.wrap ((u0.aR.length:Int) - 1)) i) (aC ?_)
 try simp only[*,go_sem]
 refine av ?_
 simp only[*,go_sem]
def iF (u0:ak)(a:ak):Option Bool:=
 some (decide ((IntKind.i64.wrap (u0.num*a.den))<(IntKind.i64.wrap (a.num*u0.den))))
theorem qJ {ro:Addr->Option Value}(u0:ak)(a:ak){r:Bool}(h:iF u0 a=some r):ay Tryz.prog 81 #[.agg #[.int .i64 u0.num,.int .i64 u0.den],.agg #[.int .i64 a.num,.int .i64 a.den]] ⟨ro,[]⟩ (fun v _=>v= .bool r):=by
 unfold iF at h
 obtain rfl:=sI h
 refine ay.go Tryz.func81 rfl Tryz.ntmps81 Tryz.results81 (by simp) fun main J hJ A b hd hs=>?_
 have c:=hs 0
 have k1:=hs 1
 clear hs
 refine aa hJ (ag hJ ?_)
 simp only[*,go_sem]
 refine au fun d r1 n1=>?_;try simp only[aj] at n1
 refine au fun b2 r2 n2=>?_;try simp only[aj] at n2
 try simp only[*,go_sem]
 refine aa hJ (ag hJ ?_)
 simp only[*,go_sem]
 refine av ?_
 simp only[*,go_sem]
def uG (st:(Int×Int)):Option (Fl (Int×Int) ak):=
 cond (decide (0<st.2)) (ah (kJ st.1 st.2) fun a=>some (.nx (st.2,a))) (some (.bk (st.1,st.2)))
def mA (st:(Int×Int)):Option (Fl (Int×Int) ak):=
 cond (decide (0<st.2)) (ah (kJ st.1 st.2) fun a=>some (.nx (st.2,a))) (some (.bk (st.1,st.2)))
def gz (u0:Int)(a:Int):Option ak:=
 cond (decide (a<0)) (ah (bE (uG) fu ((if IntKind.i64.wrap (0 - u0)<IntKind.i64.wrap (0 - (IntKind.i64.wrap (0 - u0))) then IntKind.i64.wrap (0 - (IntKind.i64.wrap (0 - u0))) else IntKind.i64.wrap (0 - u0)),(IntKind.i64.wrap (0 - a)))) fun o=>aK o (fun b=>ah (fJ (IntKind.i64.wrap (0 - u0)) b.1) fun d=>ah (fJ (IntKind.i64.wrap (0 - a)) b.1) fun e=>some (⟨d,e⟩:ak)) (fun _ _=>none) (fun r=>some r)) (ah (bE (mA) fu ((if u0<IntKind.i64.wrap (0 - u0) then IntKind.i64.wrap (0 - u0) else u0),a)) fun o=>aK o (fun c=>ah (fJ u0 c.1) fun f=>ah (fJ a c.1) fun g=>some (⟨f,g⟩:ak)) (fun _ _=>none) (fun r=>some r))
theorem oe {ro:Addr->Option Value}(u0:Int)(b:Int){r:ak}(h:gz u0 b=some r):ay Tryz.prog 60 #[.int .i64 u0,.int .i64 b] ⟨ro,[]⟩ (fun v _=>v=r.v):=by
 unfold gz at h
 refine ay.go Tryz.func60 rfl Tryz.ntmps60 Tryz.results60 (by simp) fun main J hJ A n hd hs=>?_
 have o:=hs 0
 have k1:=hs 1
 clear hs
 refine aa hJ (ag hJ ?_)
 simp only[*,go_sem]
 refine au fun p r1 n1=>?_;try simp only[aj] at n1
 try simp only[*,go_sem]
 refine aa hJ (aa hJ (ag hJ ?_))
 simp only[*,go_sem]
 revert h;refine jC hJ (by simp only[*,go_sem]) (fun B h=>?_) fun B h=>?_
 ·refine ag hJ ?_
  simp only[*,go_sem]
  refine aa hJ (ag hJ ?_)
  simp only[*,go_sem]
  refine aa hJ (aU hJ ?_)
  revert h;refine bS fun C c D=>?_
  refine bU hJ [5,6,18,19,20,21,22,23] (fun m a F'=>∃(f:Int) (v4:Int),bE (uG) m (f,v4)=some C/\F'=⟨ro,(p,rt 0 0)::[]⟩/\slot a 5= .int .i64 f/\slot a 6= .int .i64 v4) fu ?_ ?_
  ·refine ⟨(if IntKind.i64.wrap (0 - u0)<IntKind.i64.wrap (0 - (IntKind.i64.wrap (0 - u0))) then IntKind.i64.wrap (0 - (IntKind.i64.wrap (0 - u0))) else IntKind.i64.wrap (0 - u0)),(IntKind.i64.wrap (0 - b)),c,rfl,?_⟩
   simp only[*,go_sem]
  rintro g R F' q ⟨f,v4,c,rfl,S,T⟩
  obtain ⟨E,F,G⟩:=q.pick [0,1,4] (by decide)
  simp only[*,go_sem] at E F G
  clear q n hd o k1
  obtain _|g:=g
  ·exact absurd c (by simp only[bE,reduceCtorEq,not_false_eq_true])
  revert c;refine bS fun U h i=>?_
  unfold uG at h
  try dsimp only at h
  refine aa hJ (aa hJ (ag hJ ?_))
  simp only[*,go_sem]
  revert h;refine jC hJ (by simp only[*,go_sem]) (fun H h=>?_) fun H h=>?_
  ·refine aE hJ (aU hJ ?_)
   refine dc hJ mixed 6 1 (by simp only[*,go_sem]) (by kernel_rfl) ?_
   revert h;refine bS fun I s h=>?_
   obtain rfl:=sI h
   obtain ⟨V,W⟩:=sx s
   clear s
   try simp only[*,go_sem]
   refine ⟨g,Nat.lt_succ_self _,_,Le.sub (List.Sublist.refl _),v4,I,i,rfl,?_⟩
   simp only[*,go_sem]
  obtain rfl:=sI h
  refine bR ?_
  simp only[go_sem]
  obtain rfl:=sI i;clear i
  have h:=D
  dsimp only[aK] at h
  refine aa hJ ?_
  refine dc hJ mixed 7 0 (by simp only[*,go_sem]) (by kernel_rfl) ?_
  revert h;refine bS fun X t h=>?_
  obtain ⟨Y,Z⟩:=lQ t
  clear t
  revert h;refine bS fun ab u h=>?_
  obtain rfl:=sI h
  obtain ⟨ad,ae⟩:=lQ u
  clear u
  try simp only[*,go_sem]
  refine av ?_
  simp only[*,go_sem]
 refine aE hJ (aa hJ ?_)
 refine ag hJ ?_
 simp only[*,go_sem]
 refine aa hJ (aU hJ ?_)
 revert h;refine bS fun K d L=>?_
 refine bU hJ [5,6,18,19,20,21,22,23] (fun m a F'=>∃(j:Int) (e:Int),bE (mA) m (j,e)=some K/\F'=⟨ro,(p,rt 0 0)::[]⟩/\slot a 5= .int .i64 j/\slot a 6= .int .i64 e) fu ?_ ?_
 ·refine ⟨(if u0<IntKind.i64.wrap (0 - u0) then IntKind.i64.wrap (0 - u0) else u0),b,d,rfl,?_⟩
  simp only[*,go_sem]
 rintro k al F' w ⟨j,e,d,rfl,ao,ar⟩
 obtain ⟨M,N,O⟩:=w.pick [0,1,4] (by decide)
 simp only[*,go_sem] at M N O
 clear w n hd o k1
 obtain _|k:=k
 ·exact absurd d (by simp only[bE,reduceCtorEq,not_false_eq_true])
 revert d;refine bS fun a0 h l=>?_
 unfold mA at h
 try dsimp only at h
 refine aa hJ (aa hJ (ag hJ ?_))
 simp only[*,go_sem]
 revert h;refine jC hJ (by simp only[*,go_sem]) (fun P h=>?_) fun P h=>?_
 ·refine aE hJ (aU hJ ?_)
  refine dc hJ mixed 6 1 (by simp only[*,go_sem]) (by kernel_rfl) ?_
  revert h;refine bS fun Q x h=>?_
  obtain rfl:=sI h
  obtain ⟨a2,a3⟩:=sx x
  clear x
  try simp only[*,go_sem]
  refine ⟨k,Nat.lt_succ_self _,_,Le.sub (List.Sublist.refl _),e,Q,l,rfl,?_⟩
  simp only[*,go_sem]
 obtain rfl:=sI h
 refine bR ?_
 simp only[go_sem]
 obtain rfl:=sI l;clear l
 have h:=L
 dsimp only[aK] at h
 refine aa hJ ?_
 refine dc hJ mixed 7 0 (by simp only[*,go_sem]) (by kernel_rfl) ?_
 revert h;refine bS fun a4 y h=>?_
 obtain ⟨a5,a6⟩:=lQ y
 clear y
 revert h;refine bS fun a7 z h=>?_
 obtain rfl:=sI h
 obtain ⟨a8,a9⟩:=lQ z
 clear z
 try simp only[*,go_sem]
 refine av ?_
 simp only[*,go_sem]
def iG (u0:ak)(a:ak):Option ak:=
 ah (gz (IntKind.i64.wrap ((IntKind.i64.wrap (u0.num*a.den)) - (IntKind.i64.wrap (a.num*u0.den)))) (IntKind.i64.wrap (u0.den*a.den))) fun b=>some b
theorem og {ro:Addr->Option Value}(u0:ak)(a:ak){r:ak}(h:iG u0 a=some r):ay Tryz.prog 83 #[.agg #[.int .i64 u0.num,.int .i64 u0.den],.agg #[.int .i64 a.num,.int .i64 a.den]] ⟨ro,[]⟩ (fun v _=>v=r.v):=by
 unfold iG at h
 refine ay.go Tryz.func83 rfl Tryz.ntmps83 Tryz.results83 (by simp) fun main J hJ A c hd hs=>?_
 have d:=hs 0
 have k1:=hs 1
 clear hs
 refine aa hJ (ag hJ ?_)
 simp only[*,go_sem]
 refine au fun e r1 n1=>?_;try simp only[aj] at n1
 refine au fun b2 r2 n2=>?_;try simp only[aj] at n2
 refine au fun b3 r3 n3=>?_;try simp only[aj] at n3
 try simp only[*,go_sem]
 refine aa hJ (ag hJ ?_)
 revert h;refine bS fun f b h=>?_
 obtain rfl:=sI h
 simp only[*,go_sem]
 refine aJ hJ _ (oe (IntKind.i64.wrap ((IntKind.i64.wrap (u0.num*a.den)) - (IntKind.i64.wrap (a.num*u0.den)))) (IntKind.i64.wrap (u0.den*a.den)) b) (aC ?_)
 try simp only[*,go_sem]
 refine av ?_
 simp only[*,go_sem]
def jj (u0:an)(a:aP)(c:Int)(b:ak):Option ak:=
 ah (gz (IntKind.i64.wrap ((IntKind.i64.wrap ((IntKind.i64.wrap (a.high*b.den))*(IntKind.i64.wrap (c+a.back))))+(IntKind.i64.wrap ((IntKind.i64.wrap (b.num - (IntKind.i64.wrap (a.high*b.den))))*(IntKind.i64.wrap (u0.bF+a.back)))))) (IntKind.i64.wrap (b.den*(IntKind.i64.wrap (c+a.back))))) fun d=>some d
theorem yL {ro:Addr->Option Value}(u0:an){s1 f g i:Value}(c:bx ro u0 s1 f g i)(a:aP)(d:Int)(b:ak){r:ak}(h:jj u0 a d b=some r):ay Tryz.prog 125 #[bv u0 s1 f g i,.agg #[.int .i64 a.back,.int .i64 a.high],.int .i64 d,.agg #[.int .i64 b.num,.int .i64 b.den]] ⟨ro,[]⟩ (fun v _=>v=r.v):=by
 obtain ⟨d3,c4,rfl,o,q,-⟩:=id c.e
 obtain ⟨d10,s,rfl,u,w,-⟩:=id c.p
 obtain ⟨d17,x,rfl,z,B,-⟩:=id c.y
 obtain ⟨d24,C,rfl,D,E,-⟩:=id c.t
 unfold jj at h
 refine ay.go Tryz.func125 rfl Tryz.ntmps125 Tryz.results125 (by simp) fun main J hJ A F hd hs=>?_
 have G:=hs 0
 have k1:=hs 1
 have H:=hs 2
 have I:=hs 3
 clear hs
 refine aa hJ (ag hJ ?_)
 simp only[*,go_sem]
 refine au fun K L j=>?_;try simp only[aj] at j
 refine au fun M N k=>?_;try simp only[aj] at k
 refine au fun O P l=>?_;try simp only[aj] at l
 refine au fun Q R m=>?_;try simp only[aj] at m
 try simp only[*,go_sem]
 refine aa hJ (ag hJ ?_)
 revert h;refine bS fun S n h=>?_
 obtain rfl:=sI h
 simp only[*,go_sem]
 refine aJ hJ _ (oe (IntKind.i64.wrap ((IntKind.i64.wrap ((IntKind.i64.wrap (a.high*b.den))*(IntKind.i64.wrap (d+a.back))))+(IntKind.i64.wrap ((IntKind.i64.wrap (b.num - (IntKind.i64.wrap (a.high*b.den))))*(IntKind.i64.wrap (u0.bF+a.back)))))) (IntKind.i64.wrap (b.den*(IntKind.i64.wrap (d+a.back)))) n) (aC ?_)
 try simp only[*,go_sem]
 refine av ?_
 simp only[*,go_sem]
def k5 (u0:dw)(a:Int)(b:Int):Option Bool:=
 cond (decide (a<=u0.low)) (cond (decide (u0.low<=u0.high)) (some (decide (u0.high<=b))) (some false)) (some false)
theorem DC {ro:Addr->Option Value}(u0:dw)(a:Int)(b:Int){r:Bool}(h:k5 u0 a b=some r):ay Tryz.prog 109 #[.agg #[.int .i64 u0.low,.int .i64 u0.high],.int .i64 a,.int .i64 b] ⟨ro,[]⟩ (fun v _=>v= .bool r):=by
 unfold k5 at h
 refine ay.go Tryz.func109 rfl Tryz.ntmps109 Tryz.results109 (by simp) fun main J hJ A e hd hs=>?_
 have f:=hs 0
 have k1:=hs 1
 have g:=hs 2
 clear hs
 refine aa hJ (ag hJ ?_)
 simp only[*,go_sem]
 refine au fun i r1 n1=>?_;try simp only[aj] at n1
 try simp only[*,go_sem]
 refine aa hJ (ag hJ ?_)
 revert h;refine cS (fun c h=>?_) fun c h=>?_
 ·revert h;refine cS (fun d h=>?_) fun d h=>?_
  ·obtain rfl:=sI h
   try simp only[*,go_sem]
   refine av ?_
   simp only[*,go_sem]
  obtain rfl:=sI h
  try simp only[*,go_sem]
  refine av ?_
  simp only[*,go_sem]
 obtain rfl:=sI h
 try simp only[*,go_sem]
 refine av ?_
 simp only[*,go_sem]
def fA (u0:ak)(a:ak):Option ak:=
 ah (iF u0 a) fun b=>cond (b) (some a) (some u0)
theorem jW {ro:Addr->Option Value}(u0:ak)(a:ak){r:ak}(h:fA u0 a=some r):ay Tryz.prog 82 #[.agg #[.int .i64 u0.num,.int .i64 u0.den],.agg #[.int .i64 a.num,.int .i64 a.den]] ⟨ro,[]⟩ (fun v _=>v=r.v):=by
 unfold fA at h
 refine ay.go Tryz.func82 rfl Tryz.ntmps82 Tryz.results82 (by simp) fun main J hJ A d hd hs=>?_
 have e:=hs 0
 have k1:=hs 1
 clear hs
 refine aa hJ (ag hJ ?_)
 simp only[*,go_sem]
 refine au fun f r1 n1=>?_;try simp only[aj] at n1
 refine au fun b2 r2 n2=>?_;try simp only[aj] at n2
 refine au fun b3 r3 n3=>?_;try simp only[aj] at n3
 try simp only[*,go_sem]
 refine aa hJ (aa hJ (ag hJ ?_))
 revert h;refine bS fun g b h=>?_
 simp only[*,go_sem]
 refine aJ hJ _ (qJ u0 a b) ?_
 try simp only[*,go_sem]
 revert h;refine jC hJ (by simp only[*,go_sem]) (fun c h=>?_) fun c h=>?_
 ·obtain rfl:=sI h
  refine aa hJ (ag hJ ?_)
  simp only[*,go_sem]
  refine av ?_
  simp only[*,go_sem]
 obtain rfl:=sI h
 refine aE hJ (aa hJ ?_)
 refine ag hJ ?_
 simp only[*,go_sem]
 refine av ?_
 simp only[*,go_sem]
def k6 (u0:an):Option Bool:=
 cond (decide (20<(u0.aB.length:Int))) (some true) (cond (decide (20<(u0.props.length:Int))) (some true) (cond (decide (20<(u0.aR.length:Int))) (some true) (some (decide (20<(u0.told.length:Int))))))
theorem DD {ro:Addr->Option Value}(u0:an){s1 b c d:Value}(a:bx ro u0 s1 b c d){r:Bool}(h:k6 u0=some r):ay Tryz.prog 6 #[bv u0 s1 b c d] ⟨ro,[]⟩ (fun v _=>v= .bool r):=by
 obtain ⟨d3,c4,rfl,k,l,-⟩:=id a.e
 obtain ⟨d10,m,rfl,n,o,-⟩:=id a.p
 obtain ⟨d17,q,rfl,s,u,-⟩:=id a.y
 obtain ⟨d24,w,rfl,x,z,-⟩:=id a.t
 unfold k6 at h
 refine ay.go Tryz.func6 rfl Tryz.ntmps6 Tryz.results6 (by simp) fun main J hJ A B hd hs=>?_
 have C:=hs 0
 clear hs
 refine aa hJ (ag hJ ?_)
 simp only[*,go_sem]
 refine au fun D E f=>?_;try simp only[aj] at f
 try simp only[*,go_sem]
 refine aa hJ (ag hJ ?_)
 revert h;refine cS (fun g h=>?_) fun g h=>?_
 ·obtain rfl:=sI h
  try simp only[*,go_sem]
  refine av ?_
  simp only[*,go_sem]
 revert h;refine cS (fun i h=>?_) fun i h=>?_
 ·obtain rfl:=sI h
  try simp only[*,go_sem]
  refine av ?_
  simp only[*,go_sem]
 revert h;refine cS (fun j h=>?_) fun j h=>?_
 ·obtain rfl:=sI h
  try simp only[*,go_sem]
  refine av ?_
  simp only[*,go_sem]
 obtain rfl:=sI h
 try simp only[*,go_sem]
 refine av ?_
 simp only[*,go_sem]
def fB (u0:Int)(a:Int):Option ak:=
 some (⟨u0,a⟩:ak)
theorem gd {ro:Addr->Option Value}(u0:Int)(a:Int){r:ak}(h:fB u0 a=some r):ay Tryz.prog 42 #[.int .i64 u0,.int .i64 a] ⟨ro,[]⟩ (fun v _=>v=r.v):=by
 unfold fB at h
 obtain rfl:=sI h
 refine ay.go Tryz.func42 rfl Tryz.ntmps42 Tryz.results42 (by simp) fun main J hJ A b hd hs=>?_
 have c:=hs 0
 have k1:=hs 1
 clear hs
 refine aa hJ (ag hJ ?_)
 simp only[*,go_sem]
 refine au fun d r1 n1=>?_;try simp only[aj] at n1
 try simp only[*,go_sem]
 refine aa hJ (ag hJ ?_)
 simp only[*,go_sem]
 refine av ?_
 simp only[*,go_sem]
def oh (u0:Int)(a:Int):Option dw:=
 some (⟨u0,a⟩:dw)
theorem qK {ro:Addr->Option Value}(u0:Int)(a:Int){r:dw}(h:oh u0 a=some r):ay Tryz.prog 48 #[.int .i64 u0,.int .i64 a] ⟨ro,[]⟩ (fun v _=>v=r.v):=by
 unfold oh at h
 obtain rfl:=sI h
 refine ay.go Tryz.func48 rfl Tryz.ntmps48 Tryz.results48 (by simp) fun main J hJ A b hd hs=>?_
 have c:=hs 0
 have k1:=hs 1
 clear hs
 refine aa hJ (ag hJ ?_)
 simp only[*,go_sem]
 refine au fun d r1 n1=>?_;try simp only[aj] at n1
 try simp only[*,go_sem]
 refine aa hJ (ag hJ ?_)
 simp only[*,go_sem]
 refine av ?_
 simp only[*,go_sem]
def k7 (u0:Int)(a:Int):Option aP:=
 some (⟨u0,a⟩:aP)
theorem om {ro:Addr->Option Value}(u0:Int)(a:Int){r:aP}(h:k7 u0 a=some r):ay Tryz.prog 38 #[.int .i64 u0,.int .i64 a] ⟨ro,[]⟩ (fun v _=>v=r.v):=by
 unfold k7 at h
 obtain rfl:=sI h
 refine ay.go Tryz.func38 rfl Tryz.ntmps38 Tryz.results38 (by simp) fun main J hJ A b hd hs=>?_
 have c:=hs 0
 have k1:=hs 1
 clear hs
 refine aa hJ (ag hJ ?_)
 simp only[*,go_sem]
 refine au fun d r1 n1=>?_;try simp only[aj] at n1
 try simp only[*,go_sem]
 refine aa hJ (ag hJ ?_)
 simp only[*,go_sem]
 refine av ?_
 simp only[*,go_sem]
def k8 (u0:Int)(a:Bool):Option bP:=
 some (⟨u0,a⟩:bP)
theorem jk {ro:Addr->Option Value}(u0:Int)(a:Bool){r:bP}(h:k8 u0 a=some r):ay Tryz.prog 47 #[.int .i64 u0,.bool a] ⟨ro,[]⟩ (fun v _=>v=r.v):=by
 unfold k8 at h
 obtain rfl:=sI h
 refine ay.go Tryz.func47 rfl Tryz.ntmps47 Tryz.results47 (by simp) fun main J hJ A b hd hs=>?_
 have c:=hs 0
 have k1:=hs 1
 clear hs
 refine aa hJ (ag hJ ?_)
 simp only[*,go_sem]
 refine au fun d r1 n1=>?_;try simp only[aj] at n1
 try simp only[*,go_sem]
 refine aa hJ (ag hJ ?_)
 simp only[*,go_sem]
 refine av ?_
 simp only[*,go_sem]
def oo (u0:an)(a:bP):Option an:=
 ah (dr ([]:List bP) u0.told) fun b=>ah (dr b ([a])) fun c=>some (⟨u0.bF,u0.bJ,u0.aT,u0.aB,u0.props,u0.aR,c⟩:an)
theorem mB {ro:Addr->Option Value}(u0:an){s1 b c N:Value}(j:bx ro u0 s1 b c N)(a:bP){r:an}(h:oo u0 a=some r):en Tryz.prog 49 #[bv u0 s1 b c N,.agg #[.int .i64 a.aX,.bool a.bn]] ro (fun v aH=>∃O w1 w2 w3,v=bv r O w1 w2 w3/\bx aH r O w1 w2 w3):=by
 obtain ⟨d24,i,rfl,e0,e1,-⟩:=id j.t
 unfold oo at h
 have bo:=j.oc;simp only[bw] at bo
 refine ay.go Tryz.func49 rfl Tryz.ntmps49 Tryz.results49 (by simp) fun main J hJ A e3 hd hs=>?_
 have fa:=hs 0
 have k1:=hs 1
 clear hs
 refine aa hJ (ag hJ ?_)
 simp only[*,go_sem,-h]
 refine au fun d q br=>?_;try simp only[aj] at br
 refine au fun f s bs=>?_;try simp only[aj] at bs
 refine au fun g u b0=>?_;try simp only[aj] at b0
 try simp only[*,go_sem,-h]
 refine aa hJ ?_
 refine aL hJ fun P=>?_
 refine iy hJ mixed [8] (.pure 1 (.rd 2 (.rd 4 (.two 0 (.two 3 (.one 5 (.one 6 (.pure 7 (.last 8 .done)))) 5 (.one 3 (.one 6 (.pure 7 (.last 8 .done))))) 5 (.one 0 (.one 3 (.one 6 (.pure 7 (.last 8 .done))))))))) ⟨ro,[(g,bz 29),(f,.cells #[.int .i64 a.aX,.bool a.bn] 54),(d,bk u0 s1 b c (sl d24 u0.told i))]⟩ (by simp only[*,go_sem,-h]) (by kernel_rfl) ?_
 simp only[*,go_sem,-h]
 refine ja ?_ ?_
 ·simp only[*,go_sem,-h]
  refine au fun C Q R=>?_;have S:=aM.cons R P;try simp only[aj] at R
  try simp only[*,go_sem,-h]
  refine ja ?_ ?_
  ·revert h;refine bS fun b1 b2 h=>?_
   obtain ⟨b3,T⟩:=cW b2
   simp only[*,go_sem,-h]
   have b4:aW cO ro 54 (.slice (some ⟨C,0,none⟩) 0 0) ([]:List bP) [(C,.cells #[] 54)]:=aW.empty Q
   refine nP (r:=cO) (l:=([]:List bP)) (xs:=u0.told) [] ((g,bz 29)::(f,.cells #[.int .i64 a.aX,.bool a.bn] 54)::(d,bk u0 s1 b c (sl d24 u0.told i))::[]) b4 S b3 j.t rfl rfl dR dR gr gv rfl gu (by decide) (by decide) (fun fb w F k m b5=>?_)
   simp only[List.append_nil,List.cons_append,List.nil_append,List.append_assoc] at m
   subst k
   rw[<-T] at F;clear T
   obtain ⟨d144,fg,rfl,fi⟩:=F.len
   have ca:=aM.back (l:=(g,bz 29)::(f,.cells #[.int .i64 a.aX,.bool a.bn] 54)::(d,bk u0 s1 b c (sl d24 u0.told i))::w) (l':=[]++(w++([(g,bz 29),(f,.cells #[.int .i64 a.aX,.bool a.bn] 54),(d,bk u0 s1 b c (sl d24 u0.told i))]++[]))) [] [(g,bz 29),(f,.cells #[.int .i64 a.aX,.bool a.bn] 54),(d,bk u0 s1 b c (sl d24 u0.told i))] w [] (by first|rfl|simp only[List.append_nil,List.cons_append,List.nil_append,List.append_assoc]|(simp only[List.append_nil,List.cons_append,List.nil_append,List.append_assoc];rfl)) (by first|rfl|simp only[List.append_nil,List.cons_append,List.nil_append,List.append_assoc]|(simp only[List.append_nil,List.cons_append,List.nil_append,List.append_assoc];rfl)) b5
   refine ⟨⟨ro,(g,bz 29)::(f,.cells #[.int .i64 a.aX,.bool a.bn] 54)::(d,bk u0 s1 b c (sl d24 u0.told i))::w⟩,Le.back [] [(g,bz 29),(f,.cells #[.int .i64 a.aX,.bool a.bn] 54),(d,bk u0 s1 b c (sl d24 u0.told i))] w [] (by first|rfl|simp only[List.append_nil,List.cons_append,List.nil_append,List.append_assoc]|(simp only[List.append_nil,List.cons_append,List.nil_append,List.append_assoc];rfl)) (by first|rfl|simp only[List.append_nil,List.cons_append,List.nil_append,List.append_assoc]|(simp only[List.append_nil,List.cons_append,List.nil_append,List.append_assoc];rfl)),?_⟩
   refine ⟨by simp only[*,go_sem,-h],bO ?_⟩
   revert h;refine bS fun U cb h=>?_
   obtain ⟨cd,V⟩:=cW cb
   try simp only[*,go_sem,-h]
   refine au fun G W X=>?_;have cf:=aM.cons X ca;try simp only[aj] at X
   try simp only[*,go_sem,-h]
   refine dI (r:=cO) (l:=b1) (x:=a) (cs:=#[.int .i64 a.aX,.bool a.bn]) (e2:=54) [(G,.cells #[.int .i64 a.aX,.bool a.bn] 54),(g,bz 29),(f,.cells #[.int .i64 a.aX,.bool a.bn] 54),(d,bk u0 s1 b c (sl d24 u0.told i))] [] F cf cd rfl (by simp only[*,go_sem,-h]) W rfl rfl dR dR gr gv rfl gu (by decide) (by decide) (fun fp cl H k m fr=>?_)
   simp only[List.append_nil,List.cons_append,List.nil_append,List.append_assoc] at m
   subst k
   rw[<-V] at H;clear V
   obtain ⟨d158,Y,rfl,fs⟩:=H.len
   refine ⟨⟨ro,(G,.cells #[.int .i64 a.aX,.bool a.bn] 54)::(g,bz 29)::(f,.cells #[.int .i64 a.aX,.bool a.bn] 54)::(d,bk u0 s1 b c (sl d24 u0.told i))::cl⟩,Le.refl _,?_⟩
   refine ⟨by simp only[*,go_sem,-h],bO ?_⟩
   try simp only[*,go_sem,-h]
   refine aa hJ ?_
   refine aL hJ fun ft=>?_
   refine ag hJ ?_
   simp only[*,go_sem,-h]
   obtain rfl:=sI h
   refine aL hJ fun Z=>?_
   obtain ⟨fu,ab,D,ad,cy⟩:=H.eC [(G,.cells #[.int .i64 a.aX,.bool a.bn] 54),(g,bk u0 s1 b c (sl d158 U Y)),(f,.cells #[.int .i64 a.aX,.bool a.bn] 54),(d,bk u0 s1 b c (sl d158 U Y))] [] Z (aA.cons W (aA.cons u (aA.cons s (aA.cons q (aA.nil _)))))
   clear Z
   refine cM hJ cy ?_
   obtain ⟨fv,fw,-⟩:=ad.op
   replace j:=j.mono ab
   replace u:=D.tl.hd
   replace s:=D.tl.tl.hd
   replace q:=D.tl.tl.tl.hd
   simp only[bg] at D
   refine av ?_
   simp only[*,go_sem]
   exact ⟨_,ab,Le.sub (List.nil_sublist _),_,_,_,_,rfl,⟨j.e,j.p,j.y,ad⟩⟩
  revert h;refine bS fun cS c0 h=>?_
  obtain ⟨da,ae⟩:=cW c0
  simp only[*,go_sem,-h]
  refine au fun n al ao=>?_;have db:=aM.cons ao S;try simp only[aj] at ao
  try simp only[*,go_sem,-h]
  have dd:aW cO ro 54 (.slice (some ⟨C,0,none⟩) 0 0) ([]:List bP) [(C,.cells #[] 54)]:=aW.empty Q
  refine nP (r:=cO) (l:=([]:List bP)) (xs:=u0.told) [(n,.cells #[.int .i64 a.aX,.bool a.bn] 54)] ((g,bz 29)::(f,.cells #[.int .i64 a.aX,.bool a.bn] 54)::(d,bk u0 s1 b c (sl d24 u0.told i))::[]) dd db da j.t rfl rfl dR dR gr gv rfl gu (by decide) (by decide) (fun fx z I k m df=>?_)
  simp only[List.append_nil,List.cons_append,List.nil_append,List.append_assoc] at m
  subst k
  rw[<-ae] at I;clear ae
  obtain ⟨d179,gg,rfl,gl⟩:=I.len
  have dk:=aM.back (l:=(n,.cells #[.int .i64 a.aX,.bool a.bn] 54)::(g,bz 29)::(f,.cells #[.int .i64 a.aX,.bool a.bn] 54)::(d,bk u0 s1 b c (sl d24 u0.told i))::z) (l':=[(n,.cells #[.int .i64 a.aX,.bool a.bn] 54)]++(z++([(g,bz 29),(f,.cells #[.int .i64 a.aX,.bool a.bn] 54),(d,bk u0 s1 b c (sl d24 u0.told i))]++[]))) [(n,.cells #[.int .i64 a.aX,.bool a.bn] 54)] [(g,bz 29),(f,.cells #[.int .i64 a.aX,.bool a.bn] 54),(d,bk u0 s1 b c (sl d24 u0.told i))] z [] (by first|rfl|simp only[List.append_nil,List.cons_append,List.nil_append,List.append_assoc]|(simp only[List.append_nil,List.cons_append,List.nil_append,List.append_assoc];rfl)) (by first|rfl|simp only[List.append_nil,List.cons_append,List.nil_append,List.append_assoc]|(simp only[List.append_nil,List.cons_append,List.nil_append,List.append_assoc];rfl)) df
  refine ⟨⟨ro,(n,.cells #[.int .i64 a.aX,.bool a.bn] 54)::(g,bz 29)::(f,.cells #[.int .i64 a.aX,.bool a.bn] 54)::(d,bk u0 s1 b c (sl d24 u0.told i))::z⟩,Le.back [(n,.cells #[.int .i64 a.aX,.bool a.bn] 54)] [(g,bz 29),(f,.cells #[.int .i64 a.aX,.bool a.bn] 54),(d,bk u0 s1 b c (sl d24 u0.told i))] z [] (by first|rfl|simp only[List.append_nil,List.cons_append,List.nil_append,List.append_assoc]|(simp only[List.append_nil,List.cons_append,List.nil_append,List.append_assoc];rfl)) (by first|rfl|simp only[List.append_nil,List.cons_append,List.nil_append,List.append_assoc]|(simp only[List.append_nil,List.cons_append,List.nil_append,List.append_assoc];rfl)),?_⟩
  refine ⟨by simp only[*,go_sem,-h],bO ?_⟩
  revert h;refine bS fun ar dp h=>?_
  obtain ⟨dq,a0⟩:=cW dp
  try simp only[*,go_sem,-h]
  refine dI (r:=cO) (l:=cS) (x:=a) (cs:=#[.int .i64 a.aX,.bool a.bn]) (e2:=54) [(n,.cells #[.int .i64 a.aX,.bool a.bn] 54),(g,bz 29),(f,.cells #[.int .i64 a.aX,.bool a.bn] 54),(d,bk u0 s1 b c (sl d24 u0.told i))] [] I dk dq rfl (by simp only[*,go_sem,-h]) al rfl rfl dR dR gr gv rfl gu (by decide) (by decide) (fun gn ds K k m gp=>?_)
  simp only[List.append_nil,List.cons_append,List.nil_append,List.append_assoc] at m
  subst k
  rw[<-a0] at K;clear a0
  obtain ⟨d191,a2,rfl,gB⟩:=K.len
  refine ⟨⟨ro,(n,.cells #[.int .i64 a.aX,.bool a.bn] 54)::(g,bz 29)::(f,.cells #[.int .i64 a.aX,.bool a.bn] 54)::(d,bk u0 s1 b c (sl d24 u0.told i))::ds⟩,Le.refl _,?_⟩
  refine ⟨by simp only[*,go_sem,-h],bO ?_⟩
  try simp only[*,go_sem,-h]
  refine aa hJ ?_
  refine aL hJ fun gC=>?_
  refine ag hJ ?_
  simp only[*,go_sem,-h]
  obtain rfl:=sI h
  refine aL hJ fun a3=>?_
  obtain ⟨gM,a4,E,a5,dt⟩:=K.eC [(n,.cells #[.int .i64 a.aX,.bool a.bn] 54),(g,bk u0 s1 b c (sl d191 ar a2)),(f,.cells #[.int .i64 a.aX,.bool a.bn] 54),(d,bk u0 s1 b c (sl d191 ar a2))] [] a3 (aA.cons al (aA.cons u (aA.cons s (aA.cons q (aA.nil _)))))
  clear a3
  refine cM hJ dt ?_
  obtain ⟨gT,gV,-⟩:=a5.op
  replace j:=j.mono a4
  replace u:=E.tl.hd
  replace s:=E.tl.tl.hd
  replace q:=E.tl.tl.tl.hd
  simp only[bg] at E
  refine av ?_
  simp only[*,go_sem]
  exact ⟨_,a4,Le.sub (List.nil_sublist _),_,_,_,_,rfl,⟨j.e,j.p,j.y,a5⟩⟩
 revert h;refine bS fun du dv h=>?_
 obtain ⟨dC,a6⟩:=cW dv
 simp only[*,go_sem,-h]
 refine au fun o a7 a8=>?_;have dE:=aM.cons a8 P;try simp only[aj] at a8
 try simp only[*,go_sem,-h]
 refine au fun a9 dT ba=>?_;have ea:=aM.cons ba dE;try simp only[aj] at ba
 try simp only[*,go_sem,-h]
 have eb:aW cO ro 54 (.slice (some ⟨a9,0,none⟩) 0 0) ([]:List bP) [(a9,.cells #[] 54)]:=aW.empty dT
 refine nP (r:=cO) (l:=([]:List bP)) (xs:=u0.told) [] ((o,.cells #[.int .i64 a.aX,.bool a.bn] 54)::(g,bz 29)::(f,.cells #[.int .i64 a.aX,.bool a.bn] 54)::(d,bk u0 s1 b c (sl d24 u0.told i))::[]) eb ea dC j.t rfl rfl dR dR gr gv rfl gu (by decide) (by decide) (fun g0 B L k m ec=>?_)
 simp only[List.append_nil,List.cons_append,List.nil_append,List.append_assoc] at m
 subst k
 rw[<-a6] at L;clear a6
 obtain ⟨d214,g1,rfl,g2⟩:=L.len
 have ed:=aM.back (l:=(o,.cells #[.int .i64 a.aX,.bool a.bn] 54)::(g,bz 29)::(f,.cells #[.int .i64 a.aX,.bool a.bn] 54)::(d,bk u0 s1 b c (sl d24 u0.told i))::B) (l':=[]++(B++([(o,.cells #[.int .i64 a.aX,.bool a.bn] 54),(g,bz 29),(f,.cells #[.int .i64 a.aX,.bool a.bn] 54),(d,bk u0 s1 b c (sl d24 u0.told i))]++[]))) [] [(o,.cells #[.int .i64 a.aX,.bool a.bn] 54),(g,bz 29),(f,.cells #[.int .i64 a.aX,.bool a.bn] 54),(d,bk u0 s1 b c (sl d24 u0.told i))] B [] (by first|rfl|simp only[List.append_nil,List.cons_append,List.nil_append,List.append_assoc]|(simp only[List.append_nil,List.cons_append,List.nil_append,List.append_assoc];rfl)) (by first|rfl|simp only[List.append_nil,List.cons_append,List.nil_append,List.append_assoc]|(simp only[List.append_nil,List.cons_append,List.nil_append,List.append_assoc];rfl)) ec
 refine ⟨⟨ro,(o,.cells #[.int .i64 a.aX,.bool a.bn] 54)::(g,bz 29)::(f,.cells #[.int .i64 a.aX,.bool a.bn] 54)::(d,bk u0 s1 b c (sl d24 u0.told i))::B⟩,Le.back [] [(o,.cells #[.int .i64 a.aX,.bool a.bn] 54),(g,bz 29),(f,.cells #[.int .i64 a.aX,.bool a.bn] 54),(d,bk u0 s1 b c (sl d24 u0.told i))] B [] (by first|rfl|simp only[List.append_nil,List.cons_append,List.nil_append,List.append_assoc]|(simp only[List.append_nil,List.cons_append,List.nil_append,List.append_assoc];rfl)) (by first|rfl|simp only[List.append_nil,List.cons_append,List.nil_append,List.append_assoc]|(simp only[List.append_nil,List.cons_append,List.nil_append,List.append_assoc];rfl)),?_⟩
 refine ⟨by simp only[*,go_sem,-h],bO ?_⟩
 revert h;refine bS fun bb eh h=>?_
 obtain ⟨et,bc⟩:=cW eh
 try simp only[*,go_sem,-h]
 refine dI (r:=cO) (l:=du) (x:=a) (cs:=#[.int .i64 a.aX,.bool a.bn]) (e2:=54) [(o,.cells #[.int .i64 a.aX,.bool a.bn] 54),(g,bz 29),(f,.cells #[.int .i64 a.aX,.bool a.bn] 54),(d,bk u0 s1 b c (sl d24 u0.told i))] [] L ed et rfl (by simp only[*,go_sem,-h]) a7 rfl rfl dR dR gr gv rfl gu (by decide) (by decide) (fun g3 ev M k m g4=>?_)
 simp only[List.append_nil,List.cons_append,List.nil_append,List.append_assoc] at m
 subst k
 rw[<-bc] at M;clear bc
 obtain ⟨d226,bd,rfl,ha⟩:=M.len
 refine ⟨⟨ro,(o,.cells #[.int .i64 a.aX,.bool a.bn] 54)::(g,bz 29)::(f,.cells #[.int .i64 a.aX,.bool a.bn] 54)::(d,bk u0 s1 b c (sl d24 u0.told i))::ev⟩,Le.refl _,?_⟩
 refine ⟨by simp only[*,go_sem,-h],bO ?_⟩
 try simp only[*,go_sem,-h]
 refine aa hJ ?_
 refine aL hJ fun hc=>?_
 refine ag hJ ?_
 simp only[*,go_sem,-h]
 obtain rfl:=sI h
 refine aL hJ fun bj=>?_
 obtain ⟨hf,bl,eQ,bm,eS⟩:=M.eC [(o,.cells #[.int .i64 a.aX,.bool a.bn] 54),(g,bk u0 s1 b c (sl d226 bb bd)),(f,.cells #[.int .i64 a.aX,.bool a.bn] 54),(d,bk u0 s1 b c (sl d226 bb bd))] [] bj (aA.cons a7 (aA.cons u (aA.cons s (aA.cons q (aA.nil _)))))
 clear bj
 refine cM hJ eS ?_
 obtain ⟨hg,hh,-⟩:=bm.op
 replace j:=j.mono bl
 simp only[bg] at eQ
 refine av ?_
 simp only[*,go_sem]
 exact ⟨_,bl,Le.sub (List.nil_sublist _),_,_,_,_,rfl,⟨j.e,j.p,j.y,bm⟩⟩
def uH (a:(List Int))(b:Int)(st:(Int×(List b7))):Option (Fl (Int×(List b7)) an):=
 cond (decide (st.1<(a.length:Int))) (ah (bL a st.1) fun c=>ah (dr st.2 ([(⟨c,b⟩:b7)])) fun d=>some (.nx ((IntKind.i64.wrap (st.1+1)),d))) (some (.bk (st.1,st.2)))
def uI (u0:an)(a:(List Int))(b:Int):Option an:=
 ah (dr ([]:List b7) u0.props) fun c=>ah (bE (uH a b) fu (0,c)) fun o=>aK o (fun d=>some (⟨u0.bF,u0.bJ,u0.aT,u0.aB,d.2,u0.aR,u0.told⟩:an)) (fun _ _=>none) (fun r=>some r)
theorem DF {ro:Addr->Option Value}(u0:an){s1 H a b:Value}(k:bx ro u0 s1 H a b)(w:(List Int)){I:Value}(K:az rI ro I w)(n:Int){r:an}(h:uI u0 w n=some r):en Tryz.prog 37 #[bv u0 s1 H a b,I,.int .i64 n] ro (fun v aH=>∃L w1 w2 w3,v=bv r L w1 w2 w3/\bx aH r L w1 w2 w3):=by
 obtain ⟨d10,c,rfl,df,dk,-⟩:=id k.p
 obtain ⟨d31,dp,rfl,dq,ds,-⟩:=id K
 unfold uI at h
 have ab:=k.oc;simp only[bw] at ab
 refine ay.go Tryz.func37 rfl Tryz.ntmps37 Tryz.results37 (by simp) fun main J hJ A ad hd hs=>?_
 have ae:=hs 0
 have k1:=hs 1
 have al:=hs 2
 clear hs
 refine aa hJ (ag hJ ?_)
 simp only[*,go_sem]
 refine au fun f ao ar=>?_;try simp only[aj] at ar
 refine au fun g a0 a2=>?_;try simp only[aj] at a2
 try simp only[*,go_sem]
 refine aa hJ (ag hJ ?_)
 simp only[*,go_sem]
 refine au fun i a3 a4=>?_;try simp only[aj] at a4
 try simp only[*,go_sem]
 refine aa hJ ?_
 refine aL hJ fun a5=>?_
 refine ag hJ ?_
 revert h;refine bS fun a6 a7 h=>?_
 obtain ⟨a8,M⟩:=cW a7
 simp only[*,go_sem]
 refine au fun N a9 O=>?_;have ba:=aM.cons O a5;try simp only[aj] at O
 try simp only[*,go_sem]
 have bb:aW dX ro 146 (.slice (some ⟨N,0,none⟩) 0 0) ([]:List b7) [(N,.cells #[] 146)]:=aW.empty a9
 refine nP (r:=dX) (l:=([]:List b7)) (xs:=u0.props) [] ((i,bk u0 s1 (sl d10 u0.props c) a b)::(g,bz 29)::(f,bk u0 s1 (sl d10 u0.props c) a b)::[]) bb ba a8 k.p rfl rfl jJ jJ pL pN rfl pM (by decide) (by decide) (fun dt o z B C bc=>?_)
 simp only[List.append_nil,List.cons_append,List.nil_append,List.append_assoc] at C
 subst B
 rw[<-M] at z;clear M
 obtain ⟨d48,bd,rfl,bj⟩:=z.len
 have du:=aM.back (l:=(i,bk u0 s1 (sl d10 u0.props c) a b)::(g,bz 29)::(f,bk u0 s1 (sl d10 u0.props c) a b)::o) (l':=[]++(o++([(i,bk u0 s1 (sl d10 u0.props c) a b),(g,bz 29),(f,bk u0 s1 (sl d10 u0.props c) a b)]++[]))) [] [(i,bk u0 s1 (sl d10 u0.props c) a b),(g,bz 29),(f,bk u0 s1 (sl d10 u0.props c) a b)] o [] (by first|rfl|simp only[List.append_nil,List.cons_append,List.nil_append,List.append_assoc]|(simp only[List.append_nil,List.cons_append,List.nil_append,List.append_assoc];rfl)) (by first|rfl|simp only[List.append_nil,List.cons_append,List.nil_append,List.append_assoc]|(simp only[List.append_nil,List.cons_append,List.nil_append,List.append_assoc];rfl)) bc
 refine ⟨⟨ro,(i,bk u0 s1 (sl d10 u0.props c) a b)::(g,bz 29)::(f,bk u0 s1 (sl d10 u0.props c) a b)::o⟩,Le.back [] [(i,bk u0 s1 (sl d10 u0.props c) a b),(g,bz 29),(f,bk u0 s1 (sl d10 u0.props c) a b)] o [] (by first|rfl|simp only[List.append_nil,List.cons_append,List.nil_append,List.append_assoc]|(simp only[List.append_nil,List.cons_append,List.nil_append,List.append_assoc];rfl)) (by first|rfl|simp only[List.append_nil,List.cons_append,List.nil_append,List.append_assoc]|(simp only[List.append_nil,List.cons_append,List.nil_append,List.append_assoc];rfl)),?_⟩
 refine aC ?_
 try simp only[*,go_sem]
 refine aa hJ (aa hJ ?_)
 refine aL hJ fun dv=>?_
 refine ag hJ ?_
 simp only[*,go_sem]
 refine aU hJ ?_
 revert h;refine bS fun bl s bm=>?_
 refine bU hJ [8,15,16,17,18,19,20,21,22,23,24,25,26,27,28,29,30,31] (fun m bo F'=>∃(d57:Option Addr) (j:Nat) (D:List (Nat×Obj)) (u:Int) (d:(List b7)),bE (uH w n) m (u,d)=some bl/\F'=⟨ro,(i,bk u0 s1 (sl d57 d j) a b)::(g,bz 29)::(f,bk u0 s1 (sl d10 u0.props c) a b)::D⟩/\aW dX ro 146 (.slice d57 d.length j) d D/\d.length<=j/\slot bo 8= .int .i64 u) fu ?_ ?_
 ·refine ⟨d48,bd,o,0,a6,s,rfl,z,bj,?_⟩
  simp only[*,go_sem]
 rintro E dC F' P ⟨d57,j,D,u,d,s,rfl,Q,dE,dT⟩
 obtain ⟨br,bs,b0⟩:=P.pick [1,2,6,7] (by decide)
 simp only[*,go_sem] at br bs b0
 clear P ad hd ae k1 al
 obtain _|E:=E
 ·exact absurd s (by simp only[bE,reduceCtorEq,not_false_eq_true])
 revert s;refine bS fun ea h F=>?_
 unfold uH at h
 try dsimp only at h
 refine aa hJ (aa hJ ?_)
 refine aL hJ fun eb=>?_
 refine ag hJ ?_
 simp only[*,go_sem]
 revert h;refine jC hJ (by simp only[*,go_sem]) (fun b1 h=>?_) fun b1 h=>?_
 ·refine aE hJ (aa hJ ?_)
  refine aU hJ ?_
  refine aL hJ fun b2=>?_
  refine iy hJ mixed [11] (.pure 0 (.rd 1 (.pure 2 (.pure 3 (.pure 4 (.rd 5 (.pure 6 (.pure 7 (.one 8 (.one 9 (.pure 10 (.last 11 .done)))))))))))) ⟨ro,[(i,bk u0 s1 (sl d57 d j) a b),(g,bz 29),(f,bk u0 s1 (sl d10 u0.props c) a b)]⟩ (by simp only[*,go_sem]) (by kernel_rfl) ?_
  revert h;refine bS fun q b3 h=>?_
  obtain ⟨ec,ed,R⟩:=cJ b3
  obtain ⟨eh,b4,b5,ca,S⟩:=K.el _ _ R
  obtain rfl:b4=[.int .i64 q]:=ca
  cases b5
  have cb:=S 0 _ rfl;simp only[go_sem] at cb
  clear S R
  revert h;refine bS fun cd cf h=>?_
  obtain rfl:=sI h
  obtain ⟨cl,T⟩:=cW cf
  try simp only[*,go_sem]
  refine au fun U cy V=>?_;have cS:=aM.cons V b2;try simp only[aj] at V
  try simp only[*,go_sem]
  refine dI (r:=dX) (l:=d) (x:=(⟨q,n⟩:b7)) (cs:=#[.int .i64 q,.int .i64 n]) (e2:=146) [(U,.cells #[.int .i64 q,.int .i64 n] 146),(i,bk u0 s1 (sl d57 d j) a b),(g,bz 29),(f,bk u0 s1 (sl d10 u0.props c) a b)] [] Q cS cl rfl (by simp only[*,go_sem]) cy rfl rfl jJ jJ pL pN rfl pM (by decide) (by decide) (fun et W G B C ev=>?_)
  simp only[List.append_nil,List.cons_append,List.nil_append,List.append_assoc] at C
  subst B
  rw[<-T] at G;clear T
  obtain ⟨d111,c0,rfl,da⟩:=G.len
  refine ⟨⟨ro,(U,.cells #[.int .i64 q,.int .i64 n] 146)::(i,bk u0 s1 (sl d57 d j) a b)::(g,bz 29)::(f,bk u0 s1 (sl d10 u0.props c) a b)::W⟩,Le.refl _,?_⟩
  refine ⟨by simp only[*,go_sem],bO ?_⟩
  try simp only[*,go_sem]
  refine aL hJ fun eQ=>?_
  refine ag hJ ?_
  simp only[*,go_sem]
  refine ⟨E,Nat.lt_succ_self _,_,Le.sub (List.Sublist.cons _ (List.Sublist.refl _)),d111,c0,W,(IntKind.i64.wrap (u+1)),cd,F,rfl,G,da,?_⟩
  simp only[*,go_sem]
 obtain rfl:=sI h
 refine bR ?_
 simp only[go_sem]
 obtain rfl:=sI F;clear F
 have h:=bm
 dsimp only[aK] at h
 obtain rfl:=sI h
 refine aa hJ ?_
 refine aL hJ fun eS=>?_
 refine ag hJ ?_
 simp only[*,go_sem]
 refine aL hJ fun X=>?_
 obtain ⟨e0,Y,db,Z,dd⟩:=Q.eC [(i,bk u0 s1 (sl d57 d j) a b),(g,bk u0 s1 (sl d57 d j) a b),(f,bk u0 s1 (sl d10 u0.props c) a b)] [] X (aA.cons a3 (aA.cons a0 (aA.cons ao (aA.nil _))))
 clear X
 refine cM hJ dd ?_
 obtain ⟨e1,e3,-⟩:=Z.op
 replace k:=k.mono Y
 simp only[bg] at db
 refine av ?_
 simp only[*,go_sem]
 exact ⟨_,Y,Le.sub (List.nil_sublist _),_,_,_,_,rfl,⟨k.e,Z,k.y,k.t⟩⟩
def uJ :Option an:=
 ah (fB 1 2) fun a=>ah (oh 10 12) fun b=>ah (oh 10 10) fun c=>some (⟨20,2,a,[(⟨0,2⟩:bZ),(⟨8,4⟩:bZ),(⟨14,4⟩:bZ)],([]:(List b7)),[(⟨2,b⟩:cA),(⟨4,c⟩:cA)],([]:(List bP))⟩:an)
theorem DG {ro:Addr->Option Value}{r:an}(h:uJ=some r):en Tryz.prog 36 #[] ro (fun v aH=>∃m w1 w2 w3,v=bv r m w1 w2 w3/\bx aH r m w1 w2 w3):=by
 unfold uJ at h
 refine ay.go Tryz.func36 rfl Tryz.ntmps36 Tryz.results36 (by simp) fun main J hJ A H hd hs=>?_
 clear hs
 refine aa hJ (ag hJ ?_)
 simp only[*,go_sem]
 refine au fun n r1 n1=>?_;try simp only[aj] at n1
 try simp only[*,go_sem]
 refine aa hJ ?_
 refine aL hJ fun C=>?_
 refine ag hJ ?_
 revert h;refine bS fun g D h=>?_
 simp only[*,go_sem]
 refine aJ hJ _ (gd 1 2 D) (aC ?_)
 revert h;refine bS fun a E h=>?_
 try simp only[*,go_sem]
 refine au fun b5 p q=>?_;have F:=aM.cons q C;try simp only[aj] at q
 try simp only[*,go_sem]
 refine aJ hJ _ (qK 10 12 E) (aC ?_)
 revert h;refine bS fun c G h=>?_
 obtain rfl:=sI h
 try simp only[*,go_sem]
 refine aJ hJ _ (qK 10 10 G) (aC ?_)
 try simp only[*,go_sem]
 refine au fun d i s=>?_;have I:=aM.cons s F;try simp only[aj] at s
 try simp only[*,go_sem]
 refine aL hJ fun t=>?_
 obtain ⟨u,j,w⟩:=e8 (b:=b5) (o:=(.cells #[.int .i64 0,.int .i64 2,.int .i64 8,.int .i64 4,.int .i64 14,.int .i64 4] 132)) [(d,.cells #[.int .i64 2,.int .i64 a.low,.int .i64 a.high,.int .i64 4,.int .i64 c.low,.int .i64 c.high] 148)] ((n,.cells #[.int .i64 20,.int .i64 2,.int .i64 g.num,.int .i64 g.den,.slice (some ⟨b5,0,none⟩) 3 3,.slice none 0 0,.slice (some ⟨d,0,none⟩) 2 2,.slice none 0 0] 29)::[]) t p (aA.cons i (aA.cons r1 (aA.nil _)))
 clear t
 have f:az eD (bI ro b5 (.cells #[.int .i64 0,.int .i64 2,.int .i64 8,.int .i64 4,.int .i64 14,.int .i64 4] 132)) (.slice (some ⟨b5,0,none⟩) 3 3) [(⟨0,2⟩:bZ),(⟨8,4⟩:bZ),(⟨14,4⟩:bZ)]:=(az.flat (r:=eD) (e:=132) (cs:=#[.int .i64 0,.int .i64 2,.int .i64 8,.int .i64 4,.int .i64 14,.int .i64 4]) bZ.cells ([(⟨0,2⟩:bZ),(⟨8,4⟩:bZ),(⟨14,4⟩:bZ)]) (fun _=>rfl) p rfl (by simp))
 generalize bI ro b5 (.cells #[.int .i64 0,.int .i64 2,.int .i64 8,.int .i64 4,.int .i64 14,.int .i64 4] 132)=x at u j w f
 refine cM hJ w ?_
 obtain ⟨K,L,-⟩:=f.op
 replace i:=j.hd
 replace r1:=j.tl.hd
 simp only[bg] at j
 refine aL hJ fun y=>?_
 obtain ⟨k,z,B⟩:=e8 (b:=d) (o:=(.cells #[.int .i64 2,.int .i64 a.low,.int .i64 a.high,.int .i64 4,.int .i64 c.low,.int .i64 c.high] 148)) [] ((n,.cells #[.int .i64 20,.int .i64 2,.int .i64 g.num,.int .i64 g.den,.slice (some ⟨b5,0,none⟩) ([(⟨0,2⟩:bZ),(⟨8,4⟩:bZ),(⟨14,4⟩:bZ)]).length 3,.slice none 0 0,.slice (some ⟨d,0,none⟩) 2 2,.slice none 0 0] 29)::[]) y i (aA.cons r1 (aA.nil _))
 clear y
 have l:az ew (bI x d (.cells #[.int .i64 2,.int .i64 a.low,.int .i64 a.high,.int .i64 4,.int .i64 c.low,.int .i64 c.high] 148)) (.slice (some ⟨d,0,none⟩) 2 2) [(⟨2,a⟩:cA),(⟨4,c⟩:cA)]:=(az.flat (r:=ew) (e:=148) (cs:=#[.int .i64 2,.int .i64 a.low,.int .i64 a.high,.int .i64 4,.int .i64 c.low,.int .i64 c.high]) cA.cells ([(⟨2,a⟩:cA),(⟨4,c⟩:cA)]) (fun _=>rfl) i rfl (by simp))
 generalize bI x d (.cells #[.int .i64 2,.int .i64 a.low,.int .i64 a.high,.int .i64 4,.int .i64 c.low,.int .i64 c.high] 148)=M at k z B l
 refine cM hJ B ?_
 obtain ⟨N,O,-⟩:=l.op
 replace f:=f.mono k
 simp only[bg] at z
 refine av ?_
 simp only[*,go_sem]
 exact ⟨_,(u).trans k,Le.sub (List.nil_sublist _),_,_,_,_,rfl,f,az.nil _ _,l,az.nil _ _⟩
def mC (u0:an)(c:aP)(st:(Int×Int×ak)):Option (Fl (Int×Int×ak) (Int×ak)):=
 cond (decide (st.2.1<(u0.aB.length:Int))) (ah (bL u0.aB st.2.1) fun b=>ah (jj u0 c b.aG (⟨b.high,1⟩:ak)) fun a=>cond ((st.2.1==0)) (some (.nx (st.2.1,(IntKind.i64.wrap (st.2.1+1)),a))) (ah (iF st.2.2 a) fun d=>cond (d) (some (.nx (st.2.1,(IntKind.i64.wrap (st.2.1+1)),a))) (some (.nx (st.1,(IntKind.i64.wrap (st.2.1+1)),st.2.2))))) (some (.bk (st.1,st.2.1,st.2.2)))
def k9 (u0:an)(b:aP):Option (Int×ak):=
 ah (bE (mC u0 b) fu (0,0,(⟨0,0⟩:ak))) fun o=>aK o (fun a=>some (a.1,a.2.2)) (fun _ _=>none) (fun r=>some r)
theorem uK {ro:Addr->Option Value}(u0:an){s1 d f g:Value}(s:bx ro u0 s1 d f g)(a:aP){r:(Int×ak)}(h:k9 u0 a=some r):ay Tryz.prog 58 #[bv u0 s1 d f g,.agg #[.int .i64 a.back,.int .i64 a.high]] ⟨ro,[]⟩ (fun v _=>v= .tuple #[.int .i64 r.1,r.2.v]):=by
 obtain ⟨d3,c4,rfl,al,ao,-⟩:=id s.e
 unfold k9 at h
 refine ay.go Tryz.func58 rfl Tryz.ntmps58 Tryz.results58 (by simp) fun main J hJ A D hd hs=>?_
 have E:=hs 0
 have k1:=hs 1
 clear hs
 refine aa hJ (ag hJ ?_)
 simp only[*,go_sem]
 refine au fun j ar G=>?_;try simp only[aj] at G
 refine au fun k a0 H=>?_;try simp only[aj] at H
 refine au fun o a2 I=>?_;try simp only[aj] at I
 try simp only[*,go_sem]
 refine aa hJ (ag hJ ?_)
 simp only[*,go_sem]
 refine au fun t a3 K=>?_;try simp only[aj] at K
 try simp only[*,go_sem]
 refine aa hJ (aa hJ (ag hJ ?_))
 simp only[*,go_sem]
 refine aU hJ ?_
 revert h;refine bS fun L p M=>?_
 refine bU hJ [6,8,9,11,12,13,14,15,16,17,18,19,20,21,22,23,24,25,26,27,28,29,30,31,32,33,34,35,36,37,38,39,40,41,42] (fun m x F'=>∃(q:Int) (c:Int) (b:ak),bE (mC u0 a) m (q,c,b)=some L/\F'=⟨ro,(t,rt b.num b.den)::(o,rt 0 0)::(k,.cells #[.int .i64 a.back,.int .i64 a.high] 31)::(j,bk u0 (sl d3 u0.aB c4) d f g)::[]⟩/\slot x 6= .int .i64 q/\slot x 8= .int .i64 c) fu ?_ ?_
 ·refine ⟨0,0,(⟨0,0⟩:ak),p,rfl,?_⟩
  simp only[*,go_sem]
 rintro l a4 F' y ⟨q,c,b,p,rfl,a5,a6⟩
 obtain ⟨N,O,P⟩:=y.pick [2,3,4,5,7] (by decide)
 simp only[*,go_sem] at N O P
 clear y D hd E k1
 obtain _|l:=l
 ·exact absurd p (by simp only[bE,reduceCtorEq,not_false_eq_true])
 revert p;refine bS fun a7 h n=>?_
 unfold mC at h
 try dsimp only at h
 refine aa hJ (aa hJ (ag hJ ?_))
 simp only[*,go_sem]
 revert h;refine jC hJ (by simp only[*,go_sem]) (fun Q h=>?_) fun Q h=>?_
 ·refine aE hJ (aa hJ ?_)
  refine aU hJ (aa hJ ?_)
  refine dA hJ mixed 16 ⟨ro,[(t,rt b.num b.den),(o,rt 0 0),(k,.cells #[.int .i64 a.back,.int .i64 a.high] 31),(j,bk u0 (sl d3 u0.aB c4) d f g)]⟩ (by simp only[*,go_sem]) (by kernel_rfl) ?_
  revert h;refine bS fun u R h=>?_
  obtain ⟨a8,a9,z⟩:=cJ R
  obtain ⟨B,S,T,U,w⟩:=s.e.el _ _ z
  obtain rfl:S=u.cells:=U
  cases T
  have V:=w 0 _ rfl;simp only[go_sem] at V
  have W:=w 1 _ rfl;simp only[go_sem] at W
  clear w z
  revert h;refine bS fun i X h=>?_
  try simp only[*,go_sem]
  refine ⟨_,bu hJ fun F Y=>yL u0 (s.mono (bM Y)) a u.aG (⟨u.high,1⟩:ak) X,?_⟩
  try simp only[*,go_sem]
  refine au fun C ba Z=>?_;try simp only[aj] at Z
  try simp only[*,go_sem]
  refine aa hJ (ag hJ ?_)
  revert h;refine cS (fun ab h=>?_) fun ab h=>?_
  ·obtain rfl:=sI h
   try simp only[*,go_sem]
   refine bD hJ (by simp only[*,go_sem]) ?_
   refine dA hJ mixed 3 ⟨ro,[(C,rt i.num i.den),(o,rt 0 0),(k,.cells #[.int .i64 a.back,.int .i64 a.high] 31),(j,bk u0 (sl (some B) u0.aB c4) d f g)]⟩ (by simp only[*,go_sem]) (by kernel_rfl) ?_
   simp only[*,go_sem]
   refine ag hJ ?_
   simp only[*,go_sem]
   refine ⟨l,Nat.lt_succ_self _,_,Le.sub (List.Sublist.cons _ (List.Sublist.refl _)),c,(IntKind.i64.wrap (c+1)),i,n,rfl,?_⟩
   simp only[*,go_sem]
  revert h;refine bS fun bb ad h=>?_
  try simp only[*,go_sem]
  refine aJ hJ _ (qJ b i ad) (aC ?_)
  try simp only[*,go_sem]
  revert h;refine jC hJ (by simp only[*,go_sem]) (fun ae h=>?_) fun ae h=>?_
  ·obtain rfl:=sI h
   refine dA hJ mixed 3 ⟨ro,[(C,rt i.num i.den),(o,rt 0 0),(k,.cells #[.int .i64 a.back,.int .i64 a.high] 31),(j,bk u0 (sl (some B) u0.aB c4) d f g)]⟩ (by simp only[*,go_sem]) (by kernel_rfl) ?_
   simp only[*,go_sem]
   refine ag hJ ?_
   simp only[*,go_sem]
   refine ⟨l,Nat.lt_succ_self _,_,Le.sub (List.Sublist.cons _ (List.Sublist.refl _)),c,(IntKind.i64.wrap (c+1)),i,n,rfl,?_⟩
   simp only[*,go_sem]
  obtain rfl:=sI h
  refine aE hJ (ag hJ ?_)
  simp only[*,go_sem]
  refine ⟨l,Nat.lt_succ_self _,_,Le.sub (List.Sublist.cons _ (List.Sublist.refl _)),q,(IntKind.i64.wrap (c+1)),b,n,rfl,?_⟩
  simp only[*,go_sem]
 obtain rfl:=sI h
 refine bR ?_
 simp only[go_sem]
 obtain rfl:=sI n;clear n
 have h:=M
 dsimp only[aK] at h
 obtain rfl:=sI h
 refine aa hJ ?_
 refine dA hJ mixed 3 ⟨ro,[(t,rt b.num b.den),(k,.cells #[.int .i64 a.back,.int .i64 a.high] 31),(j,bk u0 (sl d3 u0.aB c4) d f g)]⟩ (by simp only[*,go_sem]) (by kernel_rfl) ?_
 simp only[*,go_sem]
 refine av ?_
 simp only[*,go_sem]
def mD (u0:an)(c:Int)(st:Int):Option (Fl Int ak):=
 cond (decide ((IntKind.i64.wrap (st+1))<(u0.aB.length:Int))) (ah (bL u0.aB st) fun a=>ah (bL u0.aB (IntKind.i64.wrap (st+1))) fun b=>cond (decide (c<=b.aG)) (ah (gz (IntKind.i64.wrap ((IntKind.i64.wrap (a.high*(IntKind.i64.wrap (b.aG - a.aG))))+(IntKind.i64.wrap ((IntKind.i64.wrap (b.high - a.high))*(IntKind.i64.wrap (c - a.aG)))))) (IntKind.i64.wrap (b.aG - a.aG))) fun d=>some (.rt d)) (some (.nx (IntKind.i64.wrap (st+1))))) (some (.bk st))
def lf (u0:an)(a:Int):Option ak:=
 ah (bE (mD u0 a) fu 0) fun o=>aK o (fun b=>some (⟨0,0⟩:ak)) (fun _ _=>none) (fun r=>some r)
theorem yM {ro:Addr->Option Value}(u0:an){s1 c d f:Value}(l:bx ro u0 s1 c d f)(g:Int){r:ak}(h:lf u0 g=some r):ay Tryz.prog 54 #[bv u0 s1 c d f,.int .i64 g] ⟨ro,[]⟩ (fun v _=>v=r.v):=by
 obtain ⟨d3,c4,rfl,ab,ad,-⟩:=id l.e
 unfold lf at h
 refine ay.go Tryz.func54 rfl Tryz.ntmps54 Tryz.results54 (by simp) fun main J hJ A y hd hs=>?_
 have z:=hs 0
 have k1:=hs 1
 clear hs
 refine aa hJ (ag hJ ?_)
 simp only[*,go_sem]
 refine au fun q ae B=>?_;try simp only[aj] at B
 refine au fun s al C=>?_;try simp only[aj] at C
 try simp only[*,go_sem]
 refine aa hJ (aa hJ (ag hJ ?_))
 simp only[*,go_sem]
 refine aU hJ ?_
 revert h;refine bS fun D i t=>?_
 refine bU hJ [5,6,7,8,9,10,11,12,13,14,15,16,17,18,19,20,21,22,23,24,25,26,27,28,29,30,31,32,33,34,35,36,37,38,39,40,41,42,43,44,45,46,47,48,49,50,51,52,53,54,55] (fun m E F'=>∃(j:Int),bE (mD u0 g) m j=some D/\F'=⟨ro,(s,rt 0 0)::(q,bk u0 (sl d3 u0.aB c4) c d f)::[]⟩/\slot E 5= .int .i64 j) fu ?_ ?_
 ·refine ⟨0,i,rfl,?_⟩
  simp only[*,go_sem]
 rintro n ao F' u ⟨j,i,rfl,ar⟩
 obtain ⟨F,G,H⟩:=u.pick [1,2,4] (by decide)
 simp only[*,go_sem] at F G H
 clear u y hd z k1
 obtain _|n:=n
 ·exact absurd i (by simp only[bE,reduceCtorEq,not_false_eq_true])
 revert i;refine bS fun a0 h b=>?_
 unfold mD at h
 try dsimp only at h
 refine aa hJ (aa hJ (ag hJ ?_))
 simp only[*,go_sem]
 revert h;refine jC hJ (by simp only[*,go_sem]) (fun I h=>?_) fun I h=>?_
 ·refine aE hJ (aa hJ ?_)
  refine aU hJ (aa hJ ?_)
  refine pO hJ mixed 11 ⟨ro,[(s,rt 0 0),(q,bk u0 (sl d3 u0.aB c4) c d f)]⟩ (by simp only[*,go_sem]) (by kernel_rfl) 132 rfl sG ?_
  revert h;refine bS fun a K h=>?_
  obtain ⟨a2,a3,w⟩:=cJ K
  obtain ⟨a4,L,M,N,o⟩:=l.e.el _ _ w
  obtain rfl:L=a.cells:=N
  cases M
  have O:=o 0 _ rfl;simp only[go_sem] at O
  have P:=o 1 _ rfl;simp only[go_sem] at P
  clear o w
  revert h;refine bS fun k Q h=>?_
  obtain ⟨a5,a6,x⟩:=cJ Q
  obtain ⟨a7,R,S,T,p⟩:=l.e.el _ _ x
  obtain rfl:R=k.cells:=T
  cases S
  have U:=p 0 _ rfl;simp only[go_sem] at U
  have V:=p 1 _ rfl;simp only[go_sem] at V
  clear p x
  try simp only[*,go_sem]
  refine au fun a8 a9 W=>?_;try simp only[aj] at W
  try simp only[*,go_sem]
  refine au fun ba bb X=>?_;try simp only[aj] at X
  try simp only[*,go_sem]
  refine aa hJ (ag hJ ?_)
  simp only[*,go_sem]
  revert h;refine jC hJ (by simp only[*,go_sem]) (fun Y h=>?_) fun Y h=>?_
  ·refine aa hJ (ag hJ ?_)
   revert h;refine bS fun bc Z h=>?_
   obtain rfl:=sI h
   simp only[*,go_sem]
   refine aJ hJ _ (oe (IntKind.i64.wrap ((IntKind.i64.wrap (a.high*(IntKind.i64.wrap (k.aG - a.aG))))+(IntKind.i64.wrap ((IntKind.i64.wrap (k.high - a.high))*(IntKind.i64.wrap (g - a.aG)))))) (IntKind.i64.wrap (k.aG - a.aG)) Z) (aC ?_)
   try simp only[*,go_sem]
   obtain rfl:=sI b;clear b
   have h:=t
   dsimp only[aK] at h
   obtain rfl:=sI h
   refine av ?_
   simp only[*,go_sem]
  obtain rfl:=sI h
  refine aE hJ (ag hJ ?_)
  simp only[*,go_sem]
  refine ⟨n,Nat.lt_succ_self _,_,Le.sub (List.Sublist.cons _ (List.Sublist.cons _ (List.Sublist.refl _))),(IntKind.i64.wrap (j+1)),b,rfl,?_⟩
  simp only[*,go_sem]
 obtain rfl:=sI h
 refine bR ?_
 simp only[go_sem]
 obtain rfl:=sI b;clear b
 have h:=t
 dsimp only[aK] at h
 obtain rfl:=sI h
 refine aa hJ (ag hJ ?_)
 simp only[*,go_sem]
 refine av ?_
 simp only[*,go_sem]
def oq (u0:an)(a:aP):Option ak:=
 ah (k9 u0 a) fun b=>ah (iG (⟨u0.bJ,1⟩:ak) b.2) fun c=>some c
theorem DH {ro:Addr->Option Value}(u0:an){s1 c d f:Value}(a:bx ro u0 s1 c d f)(b:aP){r:ak}(h:oq u0 b=some r):ay Tryz.prog 64 #[bv u0 s1 c d f,.agg #[.int .i64 b.back,.int .i64 b.high]] ⟨ro,[]⟩ (fun v _=>v=r.v):=by
 obtain ⟨d3,c4,rfl,o,q,-⟩:=id a.e
 obtain ⟨d10,s,rfl,u,w,-⟩:=id a.p
 obtain ⟨d17,x,rfl,z,B,-⟩:=id a.y
 obtain ⟨d24,C,rfl,D,E,-⟩:=id a.t
 unfold oq at h
 refine ay.go Tryz.func64 rfl Tryz.ntmps64 Tryz.results64 (by simp) fun main J hJ A F hd hs=>?_
 have G:=hs 0
 have k1:=hs 1
 clear hs
 refine aa hJ (ag hJ ?_)
 simp only[*,go_sem]
 refine au fun H I g=>?_;try simp only[aj] at g
 refine au fun K L i=>?_;try simp only[aj] at i
 refine au fun M N j=>?_;try simp only[aj] at j
 try simp only[*,go_sem]
 refine aa hJ (ag hJ ?_)
 revert h;refine bS fun k l h=>?_
 simp only[*,go_sem]
 refine aJ hJ _ (uK u0 (a.mono aI) b l) (aC ?_)
 try simp only[*,go_sem]
 refine au fun O P m=>?_;try simp only[aj] at m
 try simp only[*,go_sem]
 refine aa hJ (ag hJ ?_)
 revert h;refine bS fun Q n h=>?_
 obtain rfl:=sI h
 simp only[*,go_sem]
 refine aJ hJ _ (og (⟨u0.bJ,1⟩:ak) k.2 n) (aC ?_)
 try simp only[*,go_sem]
 refine av ?_
 simp only[*,go_sem]
def mE (u0:an)(d:aP)(st:(Int×ak)):Option (Fl (Int×ak) (ak×Bool)):=
 cond (decide (st.1<(u0.props.length:Int))) (ah (bL u0.props st.1) fun a=>ah (lf u0 a.place) fun b=>ah (gz (IntKind.i64.wrap (b.num+(IntKind.i64.wrap (a.cX*b.den)))) b.den) fun e=>ah (jj u0 d a.place e) fun c=>cond ((st.1==0)) (ah (fA c c) fun f=>some (.nx ((IntKind.i64.wrap (st.1+1)),f))) (ah (fA st.2 c) fun g=>some (.nx ((IntKind.i64.wrap (st.1+1)),g)))) (some (.bk (st.1,st.2)))
def g6 (u0:an)(a:aP):Option (ak×Bool):=
 ah (bE (mE u0 a) fu (0,(⟨0,0⟩:ak))) fun o=>aK o (fun b=>some (b.2,decide (0<(u0.props.length:Int)))) (fun _ _=>none) (fun r=>some r)
theorem uL {ro:Addr->Option Value}(u0:an){s1 w d e:Value}(i:bx ro u0 s1 w d e)(a:aP){r:(ak×Bool)}(h:g6 u0 a=some r):ay Tryz.prog 68 #[bv u0 s1 w d e,.agg #[.int .i64 a.back,.int .i64 a.high]] ⟨ro,[]⟩ (fun v _=>v= .tuple #[r.1.v,.bool r.2]):=by
 obtain ⟨d10,n,rfl,a7,a8,-⟩:=id i.p
 unfold g6 at h
 refine ay.go Tryz.func68 rfl Tryz.ntmps68 Tryz.results68 (by simp) fun main J hJ A C hd hs=>?_
 have D:=hs 0
 have k1:=hs 1
 clear hs
 refine aa hJ (ag hJ ?_)
 simp only[*,go_sem]
 refine au fun o a9 E=>?_;try simp only[aj] at E
 refine au fun q ba G=>?_;try simp only[aj] at G
 refine au fun x bb H=>?_;try simp only[aj] at H
 try simp only[*,go_sem]
 refine aa hJ (ag hJ ?_)
 simp only[*,go_sem]
 refine au fun s bc I=>?_;try simp only[aj] at I
 try simp only[*,go_sem]
 refine aa hJ (aa hJ (ag hJ ?_))
 simp only[*,go_sem]
 refine aU hJ ?_
 revert h;refine bS fun K j L=>?_
 refine bU hJ [7,8,9,10,11,12,13,14,15,16,17,18,19,20,21,22,23,24,25,26,27,28,29,30,31,32,33,34,35,36,37,38,39,40,41,42,43,44,45,46,47,48] (fun m M F'=>∃(f:Int) (b:ak),bE (mE u0 a) m (f,b)=some K/\F'=⟨ro,(s,rt b.num b.den)::(x,rt 0 0)::(q,.cells #[.int .i64 a.back,.int .i64 a.high] 31)::(o,bk u0 s1 (sl d10 u0.props n) d e)::[]⟩/\slot M 7= .int .i64 f) fu ?_ ?_
 ·refine ⟨0,(⟨0,0⟩:ak),j,rfl,?_⟩
  simp only[*,go_sem]
 rintro k bd F' y ⟨f,b,j,rfl,bj⟩
 obtain ⟨N,O,P⟩:=y.pick [2,3,4,5,6] (by decide)
 simp only[*,go_sem] at N O P
 clear y C hd D k1
 obtain _|k:=k
 ·exact absurd j (by simp only[bE,reduceCtorEq,not_false_eq_true])
 revert j;refine bS fun bl h l=>?_
 unfold mE at h
 try dsimp only at h
 refine aa hJ (aa hJ (ag hJ ?_))
 simp only[*,go_sem]
 revert h;refine jC hJ (by simp only[*,go_sem]) (fun Q h=>?_) fun Q h=>?_
 ·refine aE hJ (aa hJ ?_)
  refine aU hJ (aa hJ ?_)
  refine ag hJ ?_
  revert h;refine bS fun c R h=>?_
  obtain ⟨bm,bo,z⟩:=cJ R
  obtain ⟨S,T,U,V,t⟩:=i.p.el _ _ z
  obtain rfl:T=c.cells:=V
  cases U
  have W:=t 0 _ rfl;simp only[go_sem] at W
  have X:=t 1 _ rfl;simp only[go_sem] at X
  clear t z
  try simp only[*,go_sem]
  refine au fun Y br Z=>?_;try simp only[aj] at Z
  try simp only[*,go_sem]
  refine aa hJ (ag hJ ?_)
  revert h;refine bS fun g ab h=>?_
  simp only[*,go_sem]
  refine aJ hJ _ (yM u0 (i.mono aI) c.place ab) (aC ?_)
  try simp only[*,go_sem]
  refine au fun ad bs ae=>?_;try simp only[aj] at ae
  try simp only[*,go_sem]
  refine aa hJ ?_
  refine dA hJ mixed 16 ⟨ro,[(ad,rt g.num g.den),(Y,.cells #[.int .i64 c.place,.int .i64 c.cX] 146),(s,rt b.num b.den),(x,rt 0 0),(q,.cells #[.int .i64 a.back,.int .i64 a.high] 31),(o,bk u0 s1 (sl (some S) u0.props n) d e)]⟩ (by simp only[*,go_sem]) (by kernel_rfl) ?_
  revert h;refine bS fun al ao h=>?_
  simp only[*,go_sem]
  refine ⟨_,bu hJ fun F B=>oe (IntKind.i64.wrap (g.num+(IntKind.i64.wrap (c.cX*g.den)))) g.den ao,b6 ?_⟩
  revert h;refine bS fun u ar h=>?_
  try simp only[*,go_sem]
  refine ⟨_,bu hJ fun F B=>yL u0 (i.mono (bM B)) a c.place al ar,?_⟩
  try simp only[*,go_sem]
  refine au fun bz b0 a0=>?_;try simp only[aj] at a0
  try simp only[*,go_sem]
  refine aa hJ (aa hJ (ag hJ ?_))
  simp only[*,go_sem]
  revert h;refine jC hJ (by simp only[*,go_sem]) (fun a2 h=>?_) fun a2 h=>?_
  ·refine ag hJ ?_
   simp only[*,go_sem]
   refine ag hJ ?_
   revert h;refine bS fun a3 a4 h=>?_
   obtain rfl:=sI h
   simp only[*,go_sem]
   refine aJ hJ _ (jW u u a4) (aC ?_)
   try simp only[*,go_sem]
   refine ag hJ ?_
   simp only[*,go_sem]
   refine ⟨k,Nat.lt_succ_self _,_,Le.sub (List.Sublist.cons _ (List.Sublist.cons _ (List.Sublist.cons _ (List.Sublist.refl _)))),(IntKind.i64.wrap (f+1)),a3,l,rfl,?_⟩
   simp only[*,go_sem]
  refine aE hJ (ag hJ ?_)
  revert h;refine bS fun a5 a6 h=>?_
  obtain rfl:=sI h
  simp only[*,go_sem]
  refine aJ hJ _ (jW b u a6) (aC ?_)
  try simp only[*,go_sem]
  refine ag hJ ?_
  simp only[*,go_sem]
  refine ⟨k,Nat.lt_succ_self _,_,Le.sub (List.Sublist.cons _ (List.Sublist.cons _ (List.Sublist.cons _ (List.Sublist.refl _)))),(IntKind.i64.wrap (f+1)),a5,l,rfl,?_⟩
  simp only[*,go_sem]
 obtain rfl:=sI h
 refine bR ?_
 simp only[go_sem]
 obtain rfl:=sI l;clear l
 have h:=L
 dsimp only[aK] at h
 obtain rfl:=sI h
 refine aa hJ ?_
 refine dA hJ mixed 5 ⟨ro,[(s,rt b.num b.den),(q,.cells #[.int .i64 a.back,.int .i64 a.high] 31),(o,bk u0 s1 (sl d10 u0.props n) d e)]⟩ (by simp only[*,go_sem]) (by kernel_rfl) ?_
 simp only[*,go_sem]
 refine av ?_
 simp only[*,go_sem]
def mF (u0:an)(b:aP):Option ak:=
 ah (k9 u0 b) fun a=>ah (iF a.2 (⟨u0.bJ,1⟩:ak)) fun e=>cond (e) (ah (g6 u0 b) fun c=>cond (c.2) (ah (fA a.2 c.1) fun f=>ah (iG (⟨u0.bJ,1⟩:ak) f) fun g=>ah (fA g (⟨0,1⟩:ak)) fun h=>some h) (ah (iG (⟨u0.bJ,1⟩:ak) a.2) fun i=>ah (fA i (⟨0,1⟩:ak)) fun j=>some j)) (ah (g6 u0 b) fun d=>cond (d.2) (ah (fA (⟨u0.bJ,1⟩:ak) d.1) fun k=>ah (iG a.2 k) fun l=>ah (fA l (⟨0,1⟩:ak)) fun m=>some m) (ah (iG a.2 (⟨u0.bJ,1⟩:ak)) fun n=>ah (fA n (⟨0,1⟩:ak)) fun o=>some o))
theorem yN {ro:Addr->Option Value}(u0:an){s1 c d e:Value}(f:bx ro u0 s1 c d e)(a:aP){r:ak}(h:mF u0 a=some r):ay Tryz.prog 71 #[bv u0 s1 c d e,.agg #[.int .i64 a.back,.int .i64 a.high]] ⟨ro,[]⟩ (fun v _=>v=r.v):=by
 unfold mF at h
 refine ay.go Tryz.func71 rfl Tryz.ntmps71 Tryz.results71 (by simp) fun main J hJ A g hd hs=>?_
 have i:=hs 0
 have k1:=hs 1
 clear hs
 refine aa hJ (ag hJ ?_)
 simp only[*,go_sem]
 refine au fun j ao k=>?_;try simp only[aj] at k
 refine au fun l ar m=>?_;try simp only[aj] at m
 refine au fun n a0 o=>?_;try simp only[aj] at o
 try simp only[*,go_sem]
 refine aa hJ (ag hJ ?_)
 revert h;refine bS fun b p h=>?_
 simp only[*,go_sem]
 refine aJ hJ _ (uK u0 (f.mono aI) a p) (aC ?_)
 try simp only[*,go_sem]
 refine au fun q a2 s=>?_;try simp only[aj] at s
 try simp only[*,go_sem]
 refine aa hJ ?_
 refine pO hJ mixed 4 ⟨ro,[(q,rt b.2.num b.2.den),(n,rt 0 0),(l,.cells #[.int .i64 a.back,.int .i64 a.high] 31),(j,bk u0 s1 c d e)]⟩ (by simp only[*,go_sem]) (by kernel_rfl) 23 rfl sC ?_
 simp only[*,go_sem]
 refine au fun a3 a4 t=>?_;try simp only[aj] at t
 try simp only[*,go_sem]
 refine au fun a5 a6 u=>?_;try simp only[aj] at u
 try simp only[*,go_sem]
 refine aa hJ (aa hJ (ag hJ ?_))
 revert h;refine bS fun a7 w h=>?_
 simp only[*,go_sem]
 refine aJ hJ _ (qJ b.2 (⟨u0.bJ,1⟩:ak) w) ?_
 try simp only[*,go_sem]
 revert h;refine jC hJ (by simp only[*,go_sem]) (fun x h=>?_) fun x h=>?_
 ·refine ag hJ ?_
  simp only[*,go_sem]
  refine aa hJ (aa hJ (ag hJ ?_))
  revert h;refine bS fun y z h=>?_
  simp only[*,go_sem]
  refine aJ hJ _ (uL u0 (f.mono aI) a z) (aC ?_)
  try simp only[*,go_sem]
  refine au fun a8 a9 B=>?_;try simp only[aj] at B
  try simp only[*,go_sem]
  refine aa hJ ?_
  refine dU [4,7,8,9,10] fun ba C D E=>?_
  simp only[*,go_sem] at C D E
  clear g hd i k1
  refine ag hJ ?_
  simp only[*,go_sem]
  revert h;refine jC hJ (by simp only[*,go_sem]) (fun F h=>?_) fun F h=>?_
  ·refine ag hJ ?_
   revert h;refine bS fun G H h=>?_
   simp only[*,go_sem]
   refine aJ hJ _ (jW b.2 y.1 H) (aC ?_)
   try simp only[*,go_sem]
   refine aa hJ (ag hJ ?_)
   revert h;refine bS fun I K h=>?_
   simp only[*,go_sem]
   refine aJ hJ _ (og (⟨u0.bJ,1⟩:ak) G K) (aC ?_)
   revert h;refine bS fun bb L h=>?_
   obtain rfl:=sI h
   try simp only[*,go_sem]
   refine aJ hJ _ (jW I (⟨0,1⟩:ak) L) (aC ?_)
   try simp only[*,go_sem]
   refine av ?_
   simp only[*,go_sem]
  refine aE hJ (aa hJ ?_)
  refine ag hJ ?_
  revert h;refine bS fun M N h=>?_
  simp only[*,go_sem]
  refine aJ hJ _ (og (⟨u0.bJ,1⟩:ak) b.2 N) (aC ?_)
  revert h;refine bS fun bc O h=>?_
  obtain rfl:=sI h
  try simp only[*,go_sem]
  refine aJ hJ _ (jW M (⟨0,1⟩:ak) O) (aC ?_)
  try simp only[*,go_sem]
  refine av ?_
  simp only[*,go_sem]
 refine aE hJ (aa hJ ?_)
 refine aa hJ (ag hJ ?_)
 revert h;refine bS fun P Q h=>?_
 simp only[*,go_sem]
 refine aJ hJ _ (uL u0 (f.mono aI) a Q) (aC ?_)
 try simp only[*,go_sem]
 refine au fun bd bj R=>?_;try simp only[aj] at R
 try simp only[*,go_sem]
 refine aa hJ ?_
 refine dU [4,7,8,9,10] fun bl S T U=>?_
 simp only[*,go_sem] at S T U
 clear g hd i k1
 refine ag hJ ?_
 simp only[*,go_sem]
 revert h;refine jC hJ (by simp only[*,go_sem]) (fun V h=>?_) fun V h=>?_
 ·refine ag hJ ?_
  revert h;refine bS fun W X h=>?_
  simp only[*,go_sem]
  refine aJ hJ _ (jW (⟨u0.bJ,1⟩:ak) P.1 X) (aC ?_)
  try simp only[*,go_sem]
  refine aa hJ (ag hJ ?_)
  revert h;refine bS fun Y Z h=>?_
  simp only[*,go_sem]
  refine aJ hJ _ (og b.2 W Z) (aC ?_)
  revert h;refine bS fun bm ab h=>?_
  obtain rfl:=sI h
  try simp only[*,go_sem]
  refine aJ hJ _ (jW Y (⟨0,1⟩:ak) ab) (aC ?_)
  try simp only[*,go_sem]
  refine av ?_
  simp only[*,go_sem]
 refine aE hJ (aa hJ ?_)
 refine ag hJ ?_
 revert h;refine bS fun ad ae h=>?_
 simp only[*,go_sem]
 refine aJ hJ _ (og b.2 (⟨u0.bJ,1⟩:ak) ae) (aC ?_)
 revert h;refine bS fun bo al h=>?_
 obtain rfl:=sI h
 try simp only[*,go_sem]
 refine aJ hJ _ (jW ad (⟨0,1⟩:ak) al) (aC ?_)
 try simp only[*,go_sem]
 refine av ?_
 simp only[*,go_sem]
def ot (u0:an)(a:aP):Option Bool:=
 ah (mF u0 a) fun b=>ah (iF u0.aT b) fun c=>some c
theorem DI {ro:Addr->Option Value}(u0:an){s1 b c d:Value}(f:bx ro u0 s1 b c d)(a:aP){r:Bool}(h:ot u0 a=some r):ay Tryz.prog 72 #[bv u0 s1 b c d,.agg #[.int .i64 a.back,.int .i64 a.high]] ⟨ro,[]⟩ (fun v _=>v= .bool r):=by
 unfold ot at h
 refine ay.go Tryz.func72 rfl Tryz.ntmps72 Tryz.results72 (by simp) fun main J hJ A m hd hs=>?_
 have n:=hs 0
 have k1:=hs 1
 clear hs
 refine aa hJ (ag hJ ?_)
 simp only[*,go_sem]
 refine au fun o p g=>?_;try simp only[aj] at g
 refine au fun q s i=>?_;try simp only[aj] at i
 try simp only[*,go_sem]
 refine aa hJ ?_
 refine dc hJ mixed 7 2 (by simp only[*,go_sem]) (by kernel_rfl) ?_
 revert h;refine bS fun j k h=>?_
 simp only[*,go_sem]
 refine ⟨_,bu hJ fun F e=>yN u0 (f.mono (bM e)) a k,b6 ?_⟩
 revert h;refine bS fun t l h=>?_
 obtain rfl:=sI h
 try simp only[*,go_sem]
 refine ⟨_,bu hJ fun F e=>qJ u0.aT j l,b6 ?_⟩
 try simp only[*,go_sem]
 refine av ?_
 simp only[*,go_sem]
def ou (u0:an)(st:(Int×Int)):Option (Fl (Int×Int) Int):=
 cond (decide (st.2<(u0.aB.length:Int))) (ah (bL u0.aB st.2) fun a=>ah (ej a.aG 0 (IntKind.i64.wrap (u0.bF - 1))) fun b=>cond (!b) (some (.rt 1)) (ah (ej a.high 0 60) fun c=>cond (!c) (some (.rt 1)) (cond (decide (0<st.2)) (ah (bL u0.aB (IntKind.i64.wrap (st.2 - 1))) fun d=>cond (decide (a.aG<=d.aG)) (some (.rt 7)) (some (.nx (st.1,(IntKind.i64.wrap (st.2+1)))))) (some (.nx (st.1,(IntKind.i64.wrap (st.2+1)))))))) (some (.bk (st.1,st.2)))
def lg (u0:an):Option Int:=
 ah (ej (u0.aB.length:Int) 2 5) fun a=>cond (!a) (some 2) (ah (bE (ou u0) fu (0,0)) fun o=>aK o (fun b=>some 0) (fun _ _=>none) (fun r=>some r))
theorem DJ {ro:Addr->Option Value}(u0:an){s1 i j k:Value}(l:bx ro u0 s1 i j k){r:Int}(h:lg u0=some r):ay Tryz.prog 61 #[bv u0 s1 i j k] ⟨ro,[]⟩ (fun v _=>v= .int .i64 r):=by
 obtain ⟨d3,c4,rfl,al,ao,-⟩:=id l.e
 unfold lg at h
 refine ay.go Tryz.func61 rfl Tryz.ntmps61 Tryz.results61 (by simp) fun main J hJ A w hd hs=>?_
 have x:=hs 0
 clear hs
 refine aa hJ (ag hJ ?_)
 simp only[*,go_sem]
 refine au fun y ar z=>?_;try simp only[aj] at z
 try simp only[*,go_sem]
 refine aa hJ (aa hJ (ag hJ ?_))
 revert h;refine bS fun a0 B h=>?_
 simp only[*,go_sem]
 refine aJ hJ _ (fN (u0.aB.length:Int) 2 5 B) (aC ?_)
 try simp only[*,go_sem]
 revert h;refine jC hJ (by simp only[*,go_sem]) (fun C h=>?_) fun C h=>?_
 ·obtain rfl:=sI h
  refine aa hJ (ag hJ ?_)
  simp only[*,go_sem]
  refine av ?_
  simp only[*,go_sem]
 refine aE hJ (aa hJ ?_)
 refine aa hJ (ag hJ ?_)
 simp only[*,go_sem]
 refine aU hJ ?_
 revert h;refine bS fun D d f=>?_
 refine bU hJ [2,3,4,10,11,12,13,14,15,16,17,18,19,20,21,22,23,24,25,26,27,28,29,30,31,32,33,34,35,36,37,38,39,40,41,42,43,44,45,46,47,48] (fun m q F'=>∃(b:Int) (c:Int),bE (ou u0) m (b,c)=some D/\F'=⟨ro,(y,bk u0 (sl d3 u0.aB c4) i j k)::[]⟩/\slot q 2= .int .i64 b/\slot q 3= .int .i64 c) fu ?_ ?_
 ·refine ⟨0,0,d,rfl,?_⟩
  simp only[*,go_sem]
 rintro g a2 F' s ⟨b,c,d,rfl,a3,a4⟩
 obtain ⟨E,F,G⟩:=s.pick [1] (by decide)
 simp only[*,go_sem] at E F G
 clear s w hd x
 obtain _|g:=g
 ·exact absurd d (by simp only[bE,reduceCtorEq,not_false_eq_true])
 revert d;refine bS fun a5 h a=>?_
 unfold ou at h
 try dsimp only at h
 refine aa hJ (aa hJ (ag hJ ?_))
 simp only[*,go_sem]
 revert h;refine jC hJ (by simp only[*,go_sem]) (fun H h=>?_) fun H h=>?_
 ·refine aE hJ (aa hJ ?_)
  refine aU hJ (aa hJ ?_)
  refine ag hJ ?_
  revert h;refine bS fun n I h=>?_
  obtain ⟨a6,a7,t⟩:=cJ I
  obtain ⟨a8,K,L,M,o⟩:=l.e.el _ _ t
  obtain rfl:K=n.cells:=M
  cases L
  have N:=o 0 _ rfl;simp only[go_sem] at N
  have O:=o 1 _ rfl;simp only[go_sem] at O
  clear o t
  try simp only[*,go_sem]
  refine au fun a9 ba P=>?_;try simp only[aj] at P
  try simp only[*,go_sem]
  refine aa hJ (aa hJ (ag hJ ?_))
  revert h;refine bS fun bb Q h=>?_
  simp only[*,go_sem]
  refine aJ hJ _ (fN n.aG 0 (IntKind.i64.wrap (u0.bF - 1)) Q) (aC ?_)
  revert h;refine cS (fun R h=>?_) fun R h=>?_
  ·obtain rfl:=sI h
   try simp only[*,go_sem]
   refine bD hJ (by simp only[*,go_sem]) ?_
   refine aa hJ (ag hJ ?_)
   simp only[*,go_sem]
   obtain rfl:=sI a;clear a
   have h:=f
   dsimp only[aK] at h
   obtain rfl:=sI h
   refine av ?_
   simp only[*,go_sem]
  revert h;refine bS fun bc S h=>?_
  try simp only[*,go_sem]
  refine aJ hJ _ (fN n.high 0 60 S) (aC ?_)
  try simp only[*,go_sem]
  revert h;refine jC hJ (by simp only[*,go_sem]) (fun T h=>?_) fun T h=>?_
  ·obtain rfl:=sI h
   refine aa hJ (ag hJ ?_)
   simp only[*,go_sem]
   obtain rfl:=sI a;clear a
   have h:=f
   dsimp only[aK] at h
   obtain rfl:=sI h
   refine av ?_
   simp only[*,go_sem]
  refine aE hJ (aa hJ ?_)
  refine dc hJ mixed 14 2 (by simp only[*,go_sem]) (by kernel_rfl) ?_
  revert h;refine cS (fun U h=>?_) fun U h=>?_
  ·revert h;refine bS fun V W h=>?_
   obtain ⟨bd,bj,u⟩:=cJ W
   obtain ⟨bl,X,Y,Z,p⟩:=l.e.el _ _ u
   obtain rfl:X=V.cells:=Z
   cases Y
   have ab:=p 0 _ rfl;simp only[go_sem] at ab
   have ad:=p 1 _ rfl;simp only[go_sem] at ad
   clear p u
   try simp only[*,go_sem]
   revert h;refine jC hJ (by simp only[*,go_sem]) (fun ae h=>?_) fun ae h=>?_
   ·obtain rfl:=sI h
    refine aa hJ (ag hJ ?_)
    simp only[*,go_sem]
    obtain rfl:=sI a;clear a
    have h:=f
    dsimp only[aK] at h
    obtain rfl:=sI h
    refine av ?_
    simp only[*,go_sem]
   obtain rfl:=sI h
   refine aE hJ (ag hJ ?_)
   simp only[*,go_sem]
   refine ⟨g,Nat.lt_succ_self _,_,Le.sub (List.Sublist.cons _ (List.Sublist.refl _)),b,(IntKind.i64.wrap (c+1)),a,rfl,?_⟩
   simp only[*,go_sem]
  obtain rfl:=sI h
  try simp only[*,go_sem]
  refine bK hJ (by simp only[*,go_sem]) ?_
  refine aE hJ (ag hJ ?_)
  simp only[*,go_sem]
  refine ⟨g,Nat.lt_succ_self _,_,Le.sub (List.Sublist.cons _ (List.Sublist.refl _)),b,(IntKind.i64.wrap (c+1)),a,rfl,?_⟩
  simp only[*,go_sem]
 obtain rfl:=sI h
 refine bR ?_
 simp only[go_sem]
 obtain rfl:=sI a;clear a
 have h:=f
 dsimp only[aK] at h
 obtain rfl:=sI h
 refine aa hJ (ag hJ ?_)
 simp only[*,go_sem]
 refine av ?_
 simp only[*,go_sem]
def yO (u0:an)(st:(Int×Int)):Option (Fl (Int×Int) Int):=
 cond (decide (st.2<(u0.told.length:Int))) (ah (bL u0.told st.2) fun a=>ah (mz u0 a.aX) fun b=>cond (!b) (some (.rt 6)) (some (.nx (st.1,(IntKind.i64.wrap (st.2+1)))))) (some (.bk (st.1,st.2)))
def yP (u0:an)(st:(Int×Int)):Option (Fl (Int×Int) Int):=
 cond (decide (st.2<(u0.aR.length:Int))) (ah (bL u0.aR st.2) fun a=>ah (ej a.back 1 20) fun b=>cond (!b) (some (.rt 1)) (ah (k5 a.high 0 60) fun c=>cond (!c) (some (.rt 1)) (cond (decide (3<=(IntKind.i64.wrap (a.high.high - a.high.low)))) (some (.rt 1)) (some (.nx (st.1,(IntKind.i64.wrap (st.2+1)))))))) (some (.bk (st.1,st.2)))
def ov (u0:an)(st:(Int×Int)):Option (Fl (Int×Int) Int):=
 cond (decide (st.2<(u0.props.length:Int))) (ah (bL u0.props st.2) fun a=>ah (jV u0 a.place) fun b=>cond (!b) (some (.rt 6)) (ah (ej a.cX 1 20) fun c=>cond (!c) (some (.rt 1)) (some (.nx (st.1,(IntKind.i64.wrap (st.2+1))))))) (some (.bk (st.1,st.2)))
def uM (u0:an)(st:(Int×Int)):Option (Fl (Int×Int) Int):=
 cond (decide (st.2<(u0.aR.length:Int))) (ah (bL u0.aR st.2) fun a=>ah (ej a.back 1 20) fun b=>cond (!b) (some (.rt 1)) (ah (k5 a.high 0 60) fun c=>cond (!c) (some (.rt 1)) (cond (decide (3<=(IntKind.i64.wrap (a.high.high - a.high.low)))) (some (.rt 1)) (some (.nx (st.1,(IntKind.i64.wrap (st.2+1)))))))) (some (.bk (st.1,st.2)))
def uN (u0:an)(st:(Int×Int)):Option (Fl (Int×Int) Int):=
 cond (decide (st.2<(u0.told.length:Int))) (ah (bL u0.told st.2) fun a=>ah (mz u0 a.aX) fun b=>cond (!b) (some (.rt 6)) (some (.nx (st.1,(IntKind.i64.wrap (st.2+1)))))) (some (.bk (st.1,st.2)))
def lp (u0:an):Option Int:=
 cond (decide (3<(u0.props.length:Int))) (some 2) (ah (bE (ov u0) fu (0,0)) fun o=>aK o (fun a=>ah (ej (u0.aR.length:Int) 1 3) fun b=>cond (!b) (some 2) (ah (bE (uM u0) fu (a.1,0)) fun o=>aK o (fun c=>cond (decide (3<(u0.told.length:Int))) (some 2) (ah (bE (uN u0) fu (c.1,0)) fun o=>aK o (fun d=>some 0) (fun _ _=>none) (fun r=>some r))) (fun _ _=>none) (fun r=>some r))) (fun _ _=>none) (fun r=>some r))
theorem DK {ro:Addr->Option Value}(u0:an){s1 N O P:Value}(b:bx ro u0 s1 N O P){r:Int}(h:lp u0=some r):ay Tryz.prog 62 #[bv u0 s1 N O P] ⟨ro,[]⟩ (fun v _=>v= .int .i64 r):=by
 obtain ⟨d10,w,rfl,ec,ed,-⟩:=id b.p
 obtain ⟨d17,x,rfl,eh,et,-⟩:=id b.y
 obtain ⟨d24,z,rfl,ev,eQ,-⟩:=id b.t
 unfold lp at h
 refine ay.go Tryz.func62 rfl Tryz.ntmps62 Tryz.results62 (by simp) fun main J hJ A ao hd hs=>?_
 have ar:=hs 0
 clear hs
 refine aa hJ (ag hJ ?_)
 simp only[*,go_sem]
 refine au fun B eS a0=>?_;try simp only[aj] at a0
 try simp only[*,go_sem]
 refine aa hJ (aa hJ (ag hJ ?_))
 simp only[*,go_sem]
 revert h;refine jC hJ (by simp only[*,go_sem]) (fun a2 h=>?_) fun a2 h=>?_
 ·obtain rfl:=sI h
  refine aa hJ (ag hJ ?_)
  simp only[*,go_sem]
  refine av ?_
  simp only[*,go_sem]
 refine aE hJ (aa hJ ?_)
 refine aa hJ (ag hJ ?_)
 simp only[*,go_sem]
 refine aU hJ ?_
 revert h;refine bS fun a3 i C=>?_
 refine bU hJ [2,3,11,12,13,14,15,16,17,18,19,20,21,22,23,24,25,26,27,28,29,30,31,32,33,34] (fun m c F'=>∃(e:Int) (j:Int),bE (ov u0) m (e,j)=some a3/\F'=⟨ro,(B,bk u0 s1 (sl d10 u0.props w) (sl d17 u0.aR x) (sl d24 u0.told z))::[]⟩/\slot c 2= .int .i64 e/\slot c 3= .int .i64 j) fu ?_ ?_
 ·refine ⟨0,0,i,rfl,?_⟩
  simp only[*,go_sem]
 rintro D e0 F' Q ⟨e,j,i,rfl,a4,a5⟩
 obtain ⟨R,S,T⟩:=Q.pick [1] (by decide)
 simp only[*,go_sem] at R S T
 clear Q ao hd ar
 obtain _|D:=D
 ·exact absurd i (by simp only[bE,reduceCtorEq,not_false_eq_true])
 revert i;refine bS fun e1 h d=>?_
 unfold ov at h
 try dsimp only at h
 refine aa hJ (aa hJ (ag hJ ?_))
 simp only[*,go_sem]
 revert h;refine jC hJ (by simp only[*,go_sem]) (fun a6 h=>?_) fun a6 h=>?_
 ·refine aE hJ (aa hJ ?_)
  refine aU hJ (aa hJ ?_)
  refine aa hJ ?_
  refine dc hJ mixed 9 1 (by simp only[*,go_sem]) (by kernel_rfl) ?_
  revert h;refine bS fun E a7 h=>?_
  obtain ⟨e2,e3,U⟩:=cJ a7
  obtain ⟨fa,a8,a9,ba,G⟩:=b.p.el _ _ U
  obtain rfl:a8=E.cells:=ba
  cases a9
  have bb:=G 0 _ rfl;simp only[go_sem] at bb
  have bc:=G 1 _ rfl;simp only[go_sem] at bc
  clear G U
  revert h;refine bS fun fb bd h=>?_
  try simp only[*,go_sem]
  refine ⟨_,bu hJ fun F H=>yK u0 (b.mono (bM H)) E.place bd,b6 ?_⟩
  try simp only[*,go_sem]
  revert h;refine jC hJ (by simp only[*,go_sem]) (fun bj h=>?_) fun bj h=>?_
  ·obtain rfl:=sI h
   refine aa hJ (ag hJ ?_)
   simp only[*,go_sem]
   obtain rfl:=sI d;clear d
   have h:=C
   dsimp only[aK] at h
   obtain rfl:=sI h
   refine av ?_
   simp only[*,go_sem]
  refine aE hJ (aa hJ ?_)
  refine ag hJ ?_
  revert h;refine bS fun fg bl h=>?_
  simp only[*,go_sem]
  refine aJ hJ _ (fN E.cX 1 20 bl) (aC ?_)
  try simp only[*,go_sem]
  revert h;refine jC hJ (by simp only[*,go_sem]) (fun bm h=>?_) fun bm h=>?_
  ·obtain rfl:=sI h
   refine aa hJ (ag hJ ?_)
   simp only[*,go_sem]
   obtain rfl:=sI d;clear d
   have h:=C
   dsimp only[aK] at h
   obtain rfl:=sI h
   refine av ?_
   simp only[*,go_sem]
  obtain rfl:=sI h
  refine aE hJ (ag hJ ?_)
  simp only[*,go_sem]
  refine ⟨D,Nat.lt_succ_self _,_,Le.sub (List.Sublist.refl _),e,(IntKind.i64.wrap (j+1)),d,rfl,?_⟩
  simp only[*,go_sem]
 obtain rfl:=sI h
 refine bR ?_
 simp only[go_sem]
 obtain rfl:=sI d;clear d
 have h:=C
 dsimp only[aK] at h
 refine aa hJ (aa hJ (ag hJ ?_))
 revert h;refine bS fun fi bo h=>?_
 simp only[*,go_sem]
 refine aJ hJ _ (fN (u0.aR.length:Int) 1 3 bo) (aC ?_)
 try simp only[*,go_sem]
 revert h;refine jC hJ (by simp only[*,go_sem]) (fun br h=>?_) fun br h=>?_
 ·obtain rfl:=sI h
  refine aa hJ (ag hJ ?_)
  simp only[*,go_sem]
  refine av ?_
  simp only[*,go_sem]
 refine aE hJ (aa hJ ?_)
 refine aa hJ (ag hJ ?_)
 simp only[*,go_sem]
 refine aU hJ ?_
 revert h;refine bS fun bs k l=>?_
 refine bU hJ [2,4,5,40,41,42,43,44,45,46,47,48,49,50,51,52,53,54,55,56,57,58,59,60,61,62,63,64,65,66,67,68,69,70,71] (fun m c F'=>∃(f:Int) (n:Int),bE (yP u0) m (f,n)=some bs/\F'=⟨ro,(B,bk u0 s1 (sl d10 u0.props w) (sl d17 u0.aR x) (sl d24 u0.told z))::[]⟩/\slot c 2= .int .i64 f/\slot c 4= .int .i64 n) fu ?_ ?_
 ·refine ⟨e,0,k,rfl,?_⟩
  simp only[*,go_sem]
 rintro I fp F' V ⟨f,n,k,rfl,bz,b0⟩
 obtain ⟨W,X,Y⟩:=V.pick [1] (by decide)
 simp only[*,go_sem] at W X Y
 clear V R S T a4 a5
 obtain _|I:=I
 ·exact absurd k (by simp only[bE,reduceCtorEq,not_false_eq_true])
 revert k;refine bS fun fr h a=>?_
 unfold yP at h
 try dsimp only at h
 refine aa hJ (aa hJ (ag hJ ?_))
 simp only[*,go_sem]
 revert h;refine jC hJ (by simp only[*,go_sem]) (fun b1 h=>?_) fun b1 h=>?_
 ·refine aE hJ (aa hJ ?_)
  refine aU hJ (aa hJ ?_)
  refine ag hJ ?_
  revert h;refine bS fun K b2 h=>?_
  obtain ⟨fs,ft,Z⟩:=cJ b2
  obtain ⟨fv,b3,b4,b5,o⟩:=b.y.el _ _ Z
  obtain rfl:b3=K.cells:=b5
  cases b4
  have ca:=o 0 _ rfl;simp only[go_sem] at ca
  have cb:=o 1 _ rfl;simp only[go_sem] at cb
  have cd:=o 2 _ rfl;simp only[go_sem] at cd
  clear o Z
  try simp only[*,go_sem]
  refine au fun fw fx cf=>?_;try simp only[aj] at cf
  try simp only[*,go_sem]
  refine aa hJ (ag hJ ?_)
  revert h;refine bS fun gg cl h=>?_
  simp only[*,go_sem]
  refine aJ hJ _ (fN K.back 1 20 cl) (aC ?_)
  revert h;refine cS (fun cy h=>?_) fun cy h=>?_
  ·obtain rfl:=sI h
   try simp only[*,go_sem]
   refine bD hJ (by simp only[*,go_sem]) ?_
   refine aa hJ (ag hJ ?_)
   simp only[*,go_sem]
   obtain rfl:=sI a;clear a
   have h:=l
   dsimp only[aK] at h
   obtain rfl:=sI h
   refine av ?_
   simp only[*,go_sem]
  revert h;refine bS fun gl c0 h=>?_
  try simp only[*,go_sem]
  refine aJ hJ _ (DC K.high 0 60 c0) (aC ?_)
  revert h;refine cS (fun da h=>?_) fun da h=>?_
  ·obtain rfl:=sI h
   try simp only[*,go_sem]
   refine bD hJ (by simp only[*,go_sem]) ?_
   refine aa hJ (ag hJ ?_)
   simp only[*,go_sem]
   obtain rfl:=sI a;clear a
   have h:=l
   dsimp only[aK] at h
   obtain rfl:=sI h
   refine av ?_
   simp only[*,go_sem]
  try simp only[*,go_sem]
  revert h;refine jC hJ (by simp only[*,go_sem]) (fun db h=>?_) fun db h=>?_
  ·obtain rfl:=sI h
   refine aa hJ (ag hJ ?_)
   simp only[*,go_sem]
   obtain rfl:=sI a;clear a
   have h:=l
   dsimp only[aK] at h
   obtain rfl:=sI h
   refine av ?_
   simp only[*,go_sem]
  obtain rfl:=sI h
  refine aE hJ (ag hJ ?_)
  simp only[*,go_sem]
  refine ⟨I,Nat.lt_succ_self _,_,Le.sub (List.Sublist.cons _ (List.Sublist.refl _)),f,(IntKind.i64.wrap (n+1)),a,rfl,?_⟩
  simp only[*,go_sem]
 obtain rfl:=sI h
 refine bR ?_
 simp only[go_sem]
 obtain rfl:=sI a;clear a
 have h:=l
 dsimp only[aK] at h
 refine aa hJ (aa hJ (ag hJ ?_))
 simp only[*,go_sem]
 revert h;refine jC hJ (by simp only[*,go_sem]) (fun dd h=>?_) fun dd h=>?_
 ·obtain rfl:=sI h
  refine aa hJ (ag hJ ?_)
  simp only[*,go_sem]
  refine av ?_
  simp only[*,go_sem]
 refine aE hJ (aa hJ ?_)
 refine aa hJ (ag hJ ?_)
 simp only[*,go_sem]
 refine aU hJ ?_
 revert h;refine bS fun df q ab=>?_
 refine bU hJ [2,6,76,77,78,79,80,81,82,83,84,85,86,87,88,89,90,91] (fun m c F'=>∃(s:Int) (u:Int),bE (yO u0) m (s,u)=some df/\F'=⟨ro,(B,bk u0 s1 (sl d10 u0.props w) (sl d17 u0.aR x) (sl d24 u0.told z))::[]⟩/\slot c 2= .int .i64 s/\slot c 6= .int .i64 u) fu ?_ ?_
 ·refine ⟨f,0,q,rfl,?_⟩
  simp only[*,go_sem]
 rintro L gn F' ad ⟨s,u,q,rfl,gp,gB⟩
 obtain ⟨dk,dp,dq⟩:=ad.pick [1] (by decide)
 simp only[*,go_sem] at dk dp dq
 clear ad W X Y bz b0
 obtain _|L:=L
 ·exact absurd q (by simp only[bE,reduceCtorEq,not_false_eq_true])
 revert q;refine bS fun gC h g=>?_
 unfold yO at h
 try dsimp only at h
 refine aa hJ (aa hJ (ag hJ ?_))
 simp only[*,go_sem]
 revert h;refine jC hJ (by simp only[*,go_sem]) (fun ds h=>?_) fun ds h=>?_
 ·refine aE hJ (aa hJ ?_)
  refine aU hJ (aa hJ ?_)
  refine dc hJ mixed 9 1 (by simp only[*,go_sem]) (by kernel_rfl) ?_
  revert h;refine bS fun ae dt h=>?_
  obtain ⟨gM,gT,al⟩:=cJ dt
  obtain ⟨gV,du,dv,dC,M⟩:=b.t.el _ _ al
  obtain rfl:du=ae.cells:=dC
  cases dv
  have dE:=M 0 _ rfl;simp only[go_sem] at dE
  have dT:=M 1 _ rfl;simp only[go_sem] at dT
  clear M al
  revert h;refine bS fun g0 ea h=>?_
  try simp only[*,go_sem]
  refine ⟨_,bu hJ fun F H=>Dz u0 (b.mono (bM H)) ae.aX ea,b6 ?_⟩
  try simp only[*,go_sem]
  revert h;refine jC hJ (by simp only[*,go_sem]) (fun eb h=>?_) fun eb h=>?_
  ·obtain rfl:=sI h
   refine aa hJ (ag hJ ?_)
   simp only[*,go_sem]
   obtain rfl:=sI g;clear g
   have h:=ab
   dsimp only[aK] at h
   obtain rfl:=sI h
   refine av ?_
   simp only[*,go_sem]
  obtain rfl:=sI h
  refine aE hJ (ag hJ ?_)
  simp only[*,go_sem]
  refine ⟨L,Nat.lt_succ_self _,_,Le.sub (List.Sublist.refl _),s,(IntKind.i64.wrap (u+1)),g,rfl,?_⟩
  simp only[*,go_sem]
 obtain rfl:=sI h
 refine bR ?_
 simp only[go_sem]
 obtain rfl:=sI g;clear g
 have h:=ab
 dsimp only[aK] at h
 obtain rfl:=sI h
 refine aa hJ (ag hJ ?_)
 simp only[*,go_sem]
 refine av ?_
 simp only[*,go_sem]
def jl (u0:an):Option Int:=
 ah (ej u0.bF 2 60) fun c=>cond (!c) (some 1) (ah (ej u0.bJ 0 60) fun d=>cond (!d) (some 1) (ah (ej u0.aT.den 1 20) fun e=>cond (!e) (some 1) (ah (ej u0.aT.num 0 20) fun f=>cond (!f) (some 1) (ah (gz u0.aT.num u0.aT.den) fun a=>cond (!((a.num==u0.aT.num)&&(a.den==u0.aT.den))) (some 3) (ah (lg u0) fun b=>cond ((b != 0)) (some b) (ah (lp u0) fun g=>some g))))))
theorem uO {ro:Addr->Option Value}(u0:an){s1 a b c:Value}(d:bx ro u0 s1 a b c){r:Int}(h:jl u0=some r):ay Tryz.prog 13 #[bv u0 s1 a b c] ⟨ro,[]⟩ (fun v _=>v= .int .i64 r):=by
 unfold jl at h
 refine ay.go Tryz.func13 rfl Tryz.ntmps13 Tryz.results13 (by simp) fun main J hJ A e hd hs=>?_
 have f:=hs 0
 clear hs
 refine aa hJ (ag hJ ?_)
 simp only[*,go_sem]
 refine au fun E G g=>?_;try simp only[aj] at g
 try simp only[*,go_sem]
 refine aa hJ (aa hJ (ag hJ ?_))
 revert h;refine bS fun H i h=>?_
 simp only[*,go_sem]
 refine aJ hJ _ (fN u0.bF 2 60 i) (aC ?_)
 revert h;refine cS (fun j h=>?_) fun j h=>?_
 ·obtain rfl:=sI h
  try simp only[*,go_sem]
  refine bD hJ (by simp only[*,go_sem]) ?_
  refine aa hJ (ag hJ ?_)
  simp only[*,go_sem]
  refine av ?_
  simp only[*,go_sem]
 revert h;refine bS fun I k h=>?_
 try simp only[*,go_sem]
 refine aJ hJ _ (fN u0.bJ 0 60 k) (aC ?_)
 revert h;refine cS (fun l h=>?_) fun l h=>?_
 ·obtain rfl:=sI h
  try simp only[*,go_sem]
  refine bD hJ (by simp only[*,go_sem]) ?_
  refine aa hJ (ag hJ ?_)
  simp only[*,go_sem]
  refine av ?_
  simp only[*,go_sem]
 revert h;refine bS fun K m h=>?_
 try simp only[*,go_sem]
 refine aJ hJ _ (fN u0.aT.den 1 20 m) (aC ?_)
 revert h;refine cS (fun n h=>?_) fun n h=>?_
 ·obtain rfl:=sI h
  try simp only[*,go_sem]
  refine bD hJ (by simp only[*,go_sem]) ?_
  refine aa hJ (ag hJ ?_)
  simp only[*,go_sem]
  refine av ?_
  simp only[*,go_sem]
 revert h;refine bS fun L o h=>?_
 try simp only[*,go_sem]
 refine aJ hJ _ (fN u0.aT.num 0 20 o) (aC ?_)
 try simp only[*,go_sem]
 revert h;refine jC hJ (by simp only[*,go_sem]) (fun p h=>?_) fun p h=>?_
 ·obtain rfl:=sI h
  refine aa hJ (ag hJ ?_)
  simp only[*,go_sem]
  refine av ?_
  simp only[*,go_sem]
 refine aE hJ (aa hJ ?_)
 refine aa hJ ?_
 refine dc hJ mixed 10 1 (by simp only[*,go_sem]) (by kernel_rfl) ?_
 revert h;refine bS fun M q h=>?_
 simp only[*,go_sem]
 refine ⟨_,bu hJ fun F N=>oe u0.aT.num u0.aT.den q,b6 ?_⟩
 try simp only[*,go_sem]
 revert h;refine jC hJ (by simp only[*,go_sem]) (fun s h=>?_) fun s h=>?_
 ·obtain rfl:=sI h
  refine aa hJ ?_
  refine dU [1,2] fun O t u w=>?_
  simp only[*,go_sem] at t u w
  clear e hd f
  refine ag hJ ?_
  simp only[*,go_sem]
  refine av ?_
  simp only[*,go_sem]
 refine aE hJ (aa hJ ?_)
 refine aa hJ ?_
 refine dU [1,2] fun P x y z=>?_
 simp only[*,go_sem] at x y z
 clear e hd f
 refine ag hJ ?_
 revert h;refine bS fun Q B h=>?_
 simp only[*,go_sem]
 refine aJ hJ _ (DJ u0 (d.mono aI) B) (aC ?_)
 try simp only[*,go_sem]
 refine aa hJ (ag hJ ?_)
 simp only[*,go_sem]
 revert h;refine jC hJ (by simp only[*,go_sem]) (fun C h=>?_) fun C h=>?_
 ·obtain rfl:=sI h
  refine aa hJ (ag hJ ?_)
  simp only[*,go_sem]
  refine av ?_
  simp only[*,go_sem]
 refine aE hJ (aa hJ ?_)
 refine ag hJ ?_
 revert h;refine bS fun R D h=>?_
 obtain rfl:=sI h
 simp only[*,go_sem]
 refine aJ hJ _ (DK u0 (d.mono aI) D) (aC ?_)
 try simp only[*,go_sem]
 refine av ?_
 simp only[*,go_sem]
def mG (u0:aP):Option Int:=
 ah (ej u0.back 1 20) fun a=>cond (!a) (some 1) (ah (ej u0.high 0 60) fun b=>cond (!b) (some 1) (some 0))
theorem DL {ro:Addr->Option Value}(u0:aP){r:Int}(h:mG u0=some r):ay Tryz.prog 124 #[.agg #[.int .i64 u0.back,.int .i64 u0.high]] ⟨ro,[]⟩ (fun v _=>v= .int .i64 r):=by
 unfold mG at h
 refine ay.go Tryz.func124 rfl Tryz.ntmps124 Tryz.results124 (by simp) fun main J hJ A e hd hs=>?_
 have f:=hs 0
 clear hs
 refine aa hJ (ag hJ ?_)
 simp only[*,go_sem]
 refine au fun g r1 n1=>?_;try simp only[aj] at n1
 try simp only[*,go_sem]
 refine aa hJ (aa hJ (ag hJ ?_))
 revert h;refine bS fun i a h=>?_
 simp only[*,go_sem]
 refine aJ hJ _ (fN u0.back 1 20 a) (aC ?_)
 revert h;refine cS (fun b h=>?_) fun b h=>?_
 ·obtain rfl:=sI h
  try simp only[*,go_sem]
  refine bD hJ (by simp only[*,go_sem]) ?_
  refine aa hJ (ag hJ ?_)
  simp only[*,go_sem]
  refine av ?_
  simp only[*,go_sem]
 revert h;refine bS fun j c h=>?_
 try simp only[*,go_sem]
 refine aJ hJ _ (fN u0.high 0 60 c) (aC ?_)
 try simp only[*,go_sem]
 revert h;refine jC hJ (by simp only[*,go_sem]) (fun d h=>?_) fun d h=>?_
 ·obtain rfl:=sI h
  refine aa hJ (ag hJ ?_)
  simp only[*,go_sem]
  refine av ?_
  simp only[*,go_sem]
 obtain rfl:=sI h
 refine aE hJ (aa hJ ?_)
 refine ag hJ ?_
 simp only[*,go_sem]
 refine av ?_
 simp only[*,go_sem]
def jm (u0:an)(b:aP):Option Int:=
 ah (jl u0) fun a=>cond ((a != 0)) (some a) (ah (mG b) fun c=>some c)
theorem qL {ro:Addr->Option Value}(u0:an){s1 c d f:Value}(a:bx ro u0 s1 c d f)(b:aP){r:Int}(h:jm u0 b=some r):ay Tryz.prog 57 #[bv u0 s1 c d f,.agg #[.int .i64 b.back,.int .i64 b.high]] ⟨ro,[]⟩ (fun v _=>v= .int .i64 r):=by
 obtain ⟨d3,c4,rfl,m,n,-⟩:=id a.e
 obtain ⟨d10,o,rfl,q,s,-⟩:=id a.p
 obtain ⟨d17,u,rfl,w,x,-⟩:=id a.y
 obtain ⟨d24,z,rfl,B,C,-⟩:=id a.t
 unfold jm at h
 refine ay.go Tryz.func57 rfl Tryz.ntmps57 Tryz.results57 (by simp) fun main J hJ A D hd hs=>?_
 have E:=hs 0
 have k1:=hs 1
 clear hs
 refine aa hJ (ag hJ ?_)
 simp only[*,go_sem]
 refine au fun F G g=>?_;try simp only[aj] at g
 refine au fun H I i=>?_;try simp only[aj] at i
 try simp only[*,go_sem]
 refine aa hJ (aa hJ (ag hJ ?_))
 revert h;refine bS fun K j h=>?_
 simp only[*,go_sem]
 refine aJ hJ _ (uO u0 (a.mono aI) j) (aC ?_)
 try simp only[*,go_sem]
 refine aa hJ (ag hJ ?_)
 simp only[*,go_sem]
 revert h;refine jC hJ (by simp only[*,go_sem]) (fun k h=>?_) fun k h=>?_
 ·obtain rfl:=sI h
  refine aa hJ (ag hJ ?_)
  simp only[*,go_sem]
  refine av ?_
  simp only[*,go_sem]
 refine aE hJ (aa hJ ?_)
 refine ag hJ ?_
 revert h;refine bS fun L l h=>?_
 obtain rfl:=sI h
 simp only[*,go_sem]
 refine aJ hJ _ (DL b l) (aC ?_)
 try simp only[*,go_sem]
 refine av ?_
 simp only[*,go_sem]
def ow (u0:an)(a:Int):Option (ak×Int):=
 ah (jl u0) fun b=>cond ((b != 0)) (some ((⟨0,0⟩:ak),b)) (ah (jV u0 a) fun c=>cond (!c) (some ((⟨0,0⟩:ak),6)) (ah (lf u0 a) fun d=>some (d,0)))
theorem DN {ro:Addr->Option Value}(u0:an){s1 c d f:Value}(a:bx ro u0 s1 c d f)(b:Int){r:(ak×Int)}(h:ow u0 b=some r):ay Tryz.prog 9 #[bv u0 s1 c d f,.int .i64 b] ⟨ro,[]⟩ (fun v _=>v= .tuple #[r.1.v,.int .i64 r.2]):=by
 obtain ⟨d3,c4,rfl,o,q,-⟩:=id a.e
 obtain ⟨d10,s,rfl,u,w,-⟩:=id a.p
 obtain ⟨d17,x,rfl,z,B,-⟩:=id a.y
 obtain ⟨d24,C,rfl,D,E,-⟩:=id a.t
 unfold ow at h
 refine ay.go Tryz.func9 rfl Tryz.ntmps9 Tryz.results9 (by simp) fun main J hJ A F hd hs=>?_
 have G:=hs 0
 have k1:=hs 1
 clear hs
 refine aa hJ (ag hJ ?_)
 simp only[*,go_sem]
 refine au fun H I g=>?_;try simp only[aj] at g
 refine au fun K L i=>?_;try simp only[aj] at i
 try simp only[*,go_sem]
 refine aa hJ (aa hJ (ag hJ ?_))
 revert h;refine bS fun M j h=>?_
 simp only[*,go_sem]
 refine aJ hJ _ (uO u0 (a.mono aI) j) (aC ?_)
 try simp only[*,go_sem]
 refine aa hJ (ag hJ ?_)
 simp only[*,go_sem]
 revert h;refine jC hJ (by simp only[*,go_sem]) (fun k h=>?_) fun k h=>?_
 ·obtain rfl:=sI h
  refine aa hJ (ag hJ ?_)
  simp only[*,go_sem]
  refine av ?_
  simp only[*,go_sem]
 refine aE hJ (aa hJ ?_)
 refine aa hJ (ag hJ ?_)
 revert h;refine bS fun N l h=>?_
 simp only[*,go_sem]
 refine aJ hJ _ (yK u0 (a.mono aI) b l) (aC ?_)
 try simp only[*,go_sem]
 revert h;refine jC hJ (by simp only[*,go_sem]) (fun m h=>?_) fun m h=>?_
 ·obtain rfl:=sI h
  refine aa hJ (ag hJ ?_)
  simp only[*,go_sem]
  refine av ?_
  simp only[*,go_sem]
 refine aE hJ (aa hJ ?_)
 refine ag hJ ?_
 revert h;refine bS fun O n h=>?_
 obtain rfl:=sI h
 simp only[*,go_sem]
 refine aJ hJ _ (yM u0 (a.mono aI) b n) (aC ?_)
 try simp only[*,go_sem]
 refine av ?_
 simp only[*,go_sem]
def oz (u0:an)(a:aP):Option (Int×ak×Int):=
 ah (jm u0 a) fun b=>cond ((b != 0)) (some (0,(⟨0,0⟩:ak),b)) (ah (k9 u0 a) fun c=>some (c.1,c.2,0))
theorem DO {ro:Addr->Option Value}(u0:an){s1 b c d:Value}(e:bx ro u0 s1 b c d)(a:aP){r:(Int×ak×Int)}(h:oz u0 a=some r):ay Tryz.prog 11 #[bv u0 s1 b c d,.agg #[.int .i64 a.back,.int .i64 a.high]] ⟨ro,[]⟩ (fun v _=>v= .tuple #[.int .i64 r.1,r.2.1.v,.int .i64 r.2.2]):=by
 unfold oz at h
 refine ay.go Tryz.func11 rfl Tryz.ntmps11 Tryz.results11 (by simp) fun main J hJ A s hd hs=>?_
 have t:=hs 0
 have k1:=hs 1
 clear hs
 refine aa hJ (ag hJ ?_)
 simp only[*,go_sem]
 refine au fun g u i=>?_;try simp only[aj] at i
 refine au fun j w k=>?_;try simp only[aj] at k
 refine au fun x y l=>?_;try simp only[aj] at l
 try simp only[*,go_sem]
 refine aa hJ (aa hJ (ag hJ ?_))
 revert h;refine bS fun z m h=>?_
 simp only[*,go_sem]
 refine aJ hJ _ (qL u0 (e.mono aI) a m) (aC ?_)
 try simp only[*,go_sem]
 refine aa hJ (ag hJ ?_)
 simp only[*,go_sem]
 revert h;refine jC hJ (by simp only[*,go_sem]) (fun n h=>?_) fun n h=>?_
 ·obtain rfl:=sI h
  refine aa hJ (ag hJ ?_)
  simp only[*,go_sem]
  refine av ?_
  simp only[*,go_sem]
 refine aE hJ (aa hJ ?_)
 refine ag hJ ?_
 revert h;refine bS fun f o h=>?_
 obtain rfl:=sI h
 simp only[*,go_sem]
 refine aJ hJ _ (uK u0 (e.mono aI) a o) (aC ?_)
 try simp only[*,go_sem]
 refine au fun p B q=>?_;try simp only[aj] at q
 try simp only[*,go_sem]
 refine aa hJ ?_
 refine dA hJ mixed 3 ⟨ro,[(p,rt f.2.num f.2.den),(j,.cells #[.int .i64 a.back,.int .i64 a.high] 31),(g,bk u0 s1 b c d)]⟩ (by simp only[*,go_sem]) (by kernel_rfl) ?_
 simp only[*,go_sem]
 refine av ?_
 simp only[*,go_sem]
def oA (u0:an)(a:aP):Option (ak×Int):=
 ah (jm u0 a) fun b=>cond ((b != 0)) (some ((⟨0,0⟩:ak),b)) (ah (oq u0 a) fun c=>some (c,0))
theorem DQ {ro:Addr->Option Value}(u0:an){s1 c d f:Value}(a:bx ro u0 s1 c d f)(b:aP){r:(ak×Int)}(h:oA u0 b=some r):ay Tryz.prog 15 #[bv u0 s1 c d f,.agg #[.int .i64 b.back,.int .i64 b.high]] ⟨ro,[]⟩ (fun v _=>v= .tuple #[r.1.v,.int .i64 r.2]):=by
 obtain ⟨d3,c4,rfl,n,o,-⟩:=id a.e
 obtain ⟨d10,q,rfl,s,u,-⟩:=id a.p
 obtain ⟨d17,w,rfl,x,z,-⟩:=id a.y
 obtain ⟨d24,B,rfl,C,D,-⟩:=id a.t
 unfold oA at h
 refine ay.go Tryz.func15 rfl Tryz.ntmps15 Tryz.results15 (by simp) fun main J hJ A E hd hs=>?_
 have F:=hs 0
 have k1:=hs 1
 clear hs
 refine aa hJ (ag hJ ?_)
 simp only[*,go_sem]
 refine au fun G H g=>?_;try simp only[aj] at g
 refine au fun I K i=>?_;try simp only[aj] at i
 refine au fun L M j=>?_;try simp only[aj] at j
 try simp only[*,go_sem]
 refine aa hJ (aa hJ (ag hJ ?_))
 revert h;refine bS fun N k h=>?_
 simp only[*,go_sem]
 refine aJ hJ _ (qL u0 (a.mono aI) b k) (aC ?_)
 try simp only[*,go_sem]
 refine aa hJ (ag hJ ?_)
 simp only[*,go_sem]
 revert h;refine jC hJ (by simp only[*,go_sem]) (fun l h=>?_) fun l h=>?_
 ·obtain rfl:=sI h
  refine aa hJ (ag hJ ?_)
  simp only[*,go_sem]
  refine av ?_
  simp only[*,go_sem]
 refine aE hJ (aa hJ ?_)
 refine ag hJ ?_
 revert h;refine bS fun O m h=>?_
 obtain rfl:=sI h
 simp only[*,go_sem]
 refine aJ hJ _ (DH u0 (a.mono aI) b m) (aC ?_)
 try simp only[*,go_sem]
 refine av ?_
 simp only[*,go_sem]
def oB (u0:an)(a:aP):Option (ak×Bool×Int):=
 ah (jm u0 a) fun b=>cond ((b != 0)) (some ((⟨0,0⟩:ak),false,b)) (ah (g6 u0 a) fun c=>some (c.1,c.2,0))
theorem DR {ro:Addr->Option Value}(u0:an){s1 c d f:Value}(a:bx ro u0 s1 c d f)(b:aP){r:(ak×Bool×Int)}(h:oB u0 b=some r):ay Tryz.prog 17 #[bv u0 s1 c d f,.agg #[.int .i64 b.back,.int .i64 b.high]] ⟨ro,[]⟩ (fun v _=>v= .tuple #[r.1.v,.bool r.2.1,.int .i64 r.2.2]):=by
 obtain ⟨d3,c4,rfl,o,q,-⟩:=id a.e
 obtain ⟨d10,s,rfl,u,w,-⟩:=id a.p
 obtain ⟨d17,x,rfl,z,B,-⟩:=id a.y
 obtain ⟨d24,C,rfl,D,E,-⟩:=id a.t
 unfold oB at h
 refine ay.go Tryz.func17 rfl Tryz.ntmps17 Tryz.results17 (by simp) fun main J hJ A F hd hs=>?_
 have G:=hs 0
 have k1:=hs 1
 clear hs
 refine aa hJ (ag hJ ?_)
 simp only[*,go_sem]
 refine au fun H I g=>?_;try simp only[aj] at g
 refine au fun K L i=>?_;try simp only[aj] at i
 refine au fun M N j=>?_;try simp only[aj] at j
 try simp only[*,go_sem]
 refine aa hJ (aa hJ (ag hJ ?_))
 revert h;refine bS fun O k h=>?_
 simp only[*,go_sem]
 refine aJ hJ _ (qL u0 (a.mono aI) b k) (aC ?_)
 try simp only[*,go_sem]
 refine aa hJ (ag hJ ?_)
 simp only[*,go_sem]
 revert h;refine jC hJ (by simp only[*,go_sem]) (fun l h=>?_) fun l h=>?_
 ·obtain rfl:=sI h
  refine aa hJ (ag hJ ?_)
  simp only[*,go_sem]
  refine av ?_
  simp only[*,go_sem]
 refine aE hJ (aa hJ ?_)
 refine ag hJ ?_
 revert h;refine bS fun P m h=>?_
 obtain rfl:=sI h
 simp only[*,go_sem]
 refine aJ hJ _ (uL u0 (a.mono aI) b m) (aC ?_)
 try simp only[*,go_sem]
 refine au fun Q R n=>?_;try simp only[aj] at n
 try simp only[*,go_sem]
 refine aa hJ (ag hJ ?_)
 simp only[*,go_sem]
 refine av ?_
 simp only[*,go_sem]
def oC (u0:an)(a:aP):Option (ak×Bool×Int):=
 ah (jm u0 a) fun b=>cond ((b != 0)) (some ((⟨0,0⟩:ak),false,b)) (ah (mF u0 a) fun c=>ah (ot u0 a) fun d=>some (c,d,0))
theorem DS {ro:Addr->Option Value}(u0:an){s1 b c d:Value}(e:bx ro u0 s1 b c d)(a:aP){r:(ak×Bool×Int)}(h:oC u0 a=some r):ay Tryz.prog 19 #[bv u0 s1 b c d,.agg #[.int .i64 a.back,.int .i64 a.high]] ⟨ro,[]⟩ (fun v _=>v= .tuple #[r.1.v,.bool r.2.1,.int .i64 r.2.2]):=by
 unfold oC at h
 refine ay.go Tryz.func19 rfl Tryz.ntmps19 Tryz.results19 (by simp) fun main J hJ A q hd hs=>?_
 have s:=hs 0
 have k1:=hs 1
 clear hs
 refine aa hJ (ag hJ ?_)
 simp only[*,go_sem]
 refine au fun g t i=>?_;try simp only[aj] at i
 refine au fun j u k=>?_;try simp only[aj] at k
 refine au fun w x l=>?_;try simp only[aj] at l
 try simp only[*,go_sem]
 refine aa hJ (aa hJ (ag hJ ?_))
 revert h;refine bS fun y m h=>?_
 simp only[*,go_sem]
 refine aJ hJ _ (qL u0 (e.mono aI) a m) (aC ?_)
 try simp only[*,go_sem]
 refine aa hJ (ag hJ ?_)
 simp only[*,go_sem]
 revert h;refine jC hJ (by simp only[*,go_sem]) (fun n h=>?_) fun n h=>?_
 ·obtain rfl:=sI h
  refine aa hJ (ag hJ ?_)
  simp only[*,go_sem]
  refine av ?_
  simp only[*,go_sem]
 refine aE hJ (aa hJ ?_)
 refine dA hJ mixed 6 ⟨ro,[(j,.cells #[.int .i64 a.back,.int .i64 a.high] 31),(g,bk u0 s1 b c d)]⟩ (by simp only[*,go_sem]) (by kernel_rfl) ?_
 revert h;refine bS fun z o h=>?_
 simp only[*,go_sem]
 refine ⟨_,bu hJ fun F f=>yN u0 (e.mono (bM f)) a o,b6 ?_⟩
 revert h;refine bS fun B p h=>?_
 obtain rfl:=sI h
 try simp only[*,go_sem]
 refine ⟨_,bu hJ fun F f=>DI u0 (e.mono (bM f)) a p,?_⟩
 try simp only[*,go_sem]
 refine av ?_
 simp only[*,go_sem]
def de {α:Type}(t:Nat->α->Option Int):Nat->List α->Option Int
 |_,[]=>none
 |i,x::l=>match t i x with
  |some r=>some r
  |none=>de t (i+1) l
def gf {σ:Type}(o:Option Int)(s:σ):Fl σ Int:=match o with
 |some r=>.rt r
 |none=>.nx s
theorem oD {α σ:Type}{f:Nat->α->σ->Option (Fl σ Int)}{t:Nat->α->Option Int}:∀(l:List α) (i:Nat) (s:σ),(∀j x s,l[j]?=some x->f (i+j) x s=some (gf (t (i+j) x) s))->bB f i l s=some (gf (de t i l) s)
 |[],i,s,_=>rfl
 |x::l,i,s,h=>by
  have h0:=h 0 x s rfl
  simp only[Nat.add_zero] at h0
  unfold bB de
  rw[h0]
  cases ht:t i x with
  |some r=>rfl
  |none=>
   show bB f (i+1) l s=_
   exact oD l (i+1) s fun j y s a=>by
    have:=h (j+1) y s (by simpa using a)
    rwa [show i+(j+1)=i+1+j by omega] at this
theorem yQ {α σ:Type}{f:σ×Int->Option (Fl (σ×Int) Int)}{t:Nat->α->Option Int}(l:List α)(h:∀(i:Nat) x s,l[i]?=some x->f (s,(i:Int))=some (gf (t i x) (s,((i+1:Nat):Int))))(a:∀s,f (s,(l.length:Int))=some (.bk (s,(l.length:Int)))):
  ∀(k i n:Nat) (s:σ),i+k=l.length->k<n->bE f n (s,(i:Int))=some (gf (de t i (l.drop i)) (s,(l.length:Int)))
 |0,i,n+1,s,c,_=>by
  obtain rfl:i=l.length:=by omega
  unfold bE
  rw[a,List.drop_length]
  rfl
 |k+1,i,n+1,s,c,e=>by
  have b:i<l.length:=by omega
  have d:l[i]?=some l[i]:=List.getElem?_eq_getElem b
  unfold bE
  rw[h i _ s d,List.drop_eq_getElem_cons b]
  unfold de
  cases ht:t i l[i] with
  |some r=>rfl
  |none=>exact yQ l h a k (i+1) n s (by omega) (by omega)
theorem qM {α σ:Type}{f:σ×Int->Option (Fl (σ×Int) Int)}{t:Nat->α->Option Int}(l:List α)(a:l.length<=1000)(h:∀(i:Nat) x s,l[i]?=some x->f (s,(i:Int))=some (gf (t i x) (s,((i+1:Nat):Int))))(b:∀s,f (s,(l.length:Int))=some (.bk (s,(l.length:Int))))(s:σ):
  bE f fu (s,0)=some (gf (de t 0 l) (s,(l.length:Int))):=by
 have:=yQ l h b l.length 0 fu s (by omega) (Nat.lt_of_le_of_lt a (by decide))
 simpa using this
theorem jo:eX=ej:=rfl
theorem DT:nU=k5:=rfl
def bC (a b c:Int):Bool:=decide (b<=a)&&decide (a<=c)
theorem eE (a b c:Int):ej a b c=some (bC a b c):=by
 unfold ej bC
 cases decide (b<=a)<;>rfl
def jX (b:dw)(a c:Int):Bool:=decide (a<=b.low)&&(decide (b.low<=b.high)&&decide (b.high<=c))
theorem yR (b:dw)(a c:Int):k5 b a c=some (jX b a c):=by
 unfold k5 jX
 cases decide (a<=b.low)<;>cases decide (b.low<=b.high)<;>rfl
theorem dL {n:Int}(h: -9223372036854775808<=n/\n<9223372036854775808):IntKind.i64.wrap n=n:=IntWalk.i64_in _ (by constructor<;>omega)
def fO (u:an)(i:Nat)(x:bZ):Option Int:=
 cond (bC x.aG 0 (IntKind.i64.wrap (u.bF - 1))) (cond (bC x.high 0 60) (match i with
  |0=>none
  |j+1=>match u.aB[j]? with
   |some y=>cond (decide (x.aG<=y.aG)) (some 7) none
   |none=>none) (some 1)) (some 1)
theorem yS (u:an)(h:u.aB.length<=20):jQ u=some (cond (bC u.aB.length 2 5) ((de (fO u) 0 u.aB).getD 0) 2)/\lg u=jQ u:=by
 have key:jQ u=some (cond (bC u.aB.length 2 5) ((de (fO u) 0 u.aB).getD 0) 2):=by
  unfold jQ
  rw[jo,eE]
  show cond (!bC (u.aB.length:Int) 2 5) _ _=_
  cases bC (u.aB.length:Int) 2 5 with
  |false=>rfl
  |true=>
   show ah (bB _ 0 u.aB 0) _=_
   rw[oD (t:=fO u) u.aB 0 0 ?_]
   ·show aK (gf _ _) _ _ _=_
    cases de (fO u) 0 u.aB<;>rfl
   ·intro j x s b
    rw[Nat.zero_add]
    unfold qd fO
    rw[jo,eE,eE]
    show cond (!bC x.aG 0 _) _ _=_
    cases bC x.aG 0 (IntKind.i64.wrap (u.bF - 1)) with
    |false=>rfl
    |true=>
     show cond (!bC x.high 0 60) _ _=_
     cases bC x.high 0 60 with
     |false=>rfl
     |true=>
      cases j with
      |zero=>rfl
      |succ j=>
       have e:=(List.getElem?_eq_some_iff.1 b).1
       have a:u.aB[j]?=some u.aB[j]:=List.getElem?_eq_getElem (by omega)
       have hw:IntKind.i64.wrap (((j+1:Nat):Int) - 1)=(j:Int):=by rw[dL (by omega)];omega
       have hd:decide (0<((j+1:Nat):Int))=true:=decide_eq_true (by omega)
       show cond (decide (0<((j+1:Nat):Int))) _ _=_
       rw[hd,hw]
       have c:bL u.aB (j:Int)=some u.aB[j]:=by unfold bL;rw[if_pos (by omega),Int.toNat_natCast,a]
       show ah (bL u.aB (j:Int)) _=_
       rw[c]
       simp only[a]
       show cond (decide (x.aG<=u.aB[j].aG)) _ _=_
       cases decide (x.aG<=u.aB[j].aG)<;>rfl
 refine ⟨key,?_⟩
 rw[key]
 unfold lg
 rw[eE]
 show cond (!bC (u.aB.length:Int) 2 5) _ _=_
 cases bC (u.aB.length:Int) 2 5 with
 |false=>rfl
 |true=>
  show ah (bE _ fu (0,0)) _=_
  rw[qM (t:=fO u) u.aB (by omega) ?_ ?_ 0]
  ·show aK (gf _ _) _ _ _=_
   cases de (fO u) 0 u.aB<;>rfl
  ·intro j x s b
   unfold ou fO
   have e:=(List.getElem?_eq_some_iff.1 b).1
   have d:decide ((j:Int)<(u.aB.length:Int))=true:=decide_eq_true (by omega)
   have f:bL u.aB (j:Int)=some x:=by unfold bL;rw[if_pos (by omega),Int.toNat_natCast,b]
   have g:IntKind.i64.wrap ((j:Int)+1)=((j+1:Nat):Int):=by rw[dL (by omega)];omega
   show cond (decide ((j:Int)<(u.aB.length:Int))) (ah (bL u.aB (j:Int)) _) _=_
   rw[d,f,cond_true]
   show ah (ej x.aG 0 (IntKind.i64.wrap (u.bF - 1))) _=_
   rw[eE]
   show cond (!bC x.aG 0 _) _ (ah (ej x.high 0 60) _)=_
   rw[eE]
   cases bC x.aG 0 (IntKind.i64.wrap (u.bF - 1)) with
   |false=>rfl
   |true=>
    show cond (!bC x.high 0 60) _ _=_
    cases bC x.high 0 60 with
    |false=>rfl
    |true=>
     cases j with
     |zero=>rfl
     |succ j=>
      have a:u.aB[j]?=some u.aB[j]:=List.getElem?_eq_getElem (by omega)
      have hw:IntKind.i64.wrap (((j+1:Nat):Int) - 1)=(j:Int):=by rw[dL (by omega)];omega
      have hd:decide (0<((j+1:Nat):Int))=true:=decide_eq_true (by omega)
      have c:bL u.aB (j:Int)=some u.aB[j]:=by unfold bL;rw[if_pos (by omega),Int.toNat_natCast,a]
      dsimp only
      simp only[hd,hw,c,g,a,ah,cond_true,Bool.not_true,cond_false]
      cases decide (x.aG<=u.aB[j].aG)<;>rfl
  ·intro s
   unfold ou
   have d:decide ((u.aB.length:Int)<(u.aB.length:Int))=false:=decide_eq_false (by omega)
   show cond (decide ((u.aB.length:Int)<(u.aB.length:Int))) _ _=_
   rw[d];rfl
theorem yT {ρ:Type}{f:Int×Int->Option (Fl (Int×Int) ρ)}(d:∀a b:Nat,a<9223372036854775808->b<9223372036854775808->b≠0->f ((a:Int),(b:Int))=some (.nx ((b:Int),((a % b:Nat):Int))))(h0:∀a:Nat,f ((a:Int),0)=some (.bk ((a:Int),0))):
  ∀(b a k:Nat),a<9223372036854775808->b<9223372036854775808->b<k->bE f k ((a:Int),(b:Int))=some (.nx (((Nat.gcd a b:Nat):Int),0)):=by
 intro b
 induction b using Nat.strongRecOn with
 |ind b ih=>
  intro a k e hb g
  obtain ⟨k,rfl⟩:∃m,k=m+1:=⟨k - 1,by omega⟩
  unfold bE
  by_cases c:b=0
  ·subst c
   have:=h0 a
   rw[show ((0:Nat):Int)=0 from rfl,this,Nat.gcd_zero_right]
   rfl
  ·rw[d a b e hb c]
   show bE f k ((b:Int),((a % b:Nat):Int))=_
   have hm:a % b<b:=Nat.mod_lt _ (by omega)
   rw[ih (a % b) hm b k hb (by omega) (by omega),Nat.gcd_comm a b,Nat.gcd_rec b a,Nat.gcd_comm]
theorem yU (a b:Nat)(d:a<9223372036854775808)(hb:b<9223372036854775808)(h:b≠0):kJ (a:Int) (b:Int)=some ((a % b:Nat):Int):=by
 unfold kJ
 have c:¬(b:Int)=0:=by omega
 rw[if_neg c]
 have e:((a:Int).tmod (b:Int))=((a % b:Nat):Int):=by
  rw[Int.tmod_eq_emod_of_nonneg (by omega)];rfl
 rw[e]
theorem DU (a k:Nat)(b:Nat)(c:a<9223372036854775808)(hb:b<9223372036854775808)(d:b<k):bE nW k ((a:Int),(b:Int))=some (.nx (((Nat.gcd a b:Nat):Int),0)):=by
 refine yT (fun a b c hb e=>?_) (fun a=>rfl) b a k c hb d
 unfold nW
 have:(((b:Nat):Int) != 0)=true:=by simp;omega
 dsimp only
 rw[this,yU a b c hb e]
 rfl
theorem DV (a k:Nat)(b:Nat)(c:a<9223372036854775808)(hb:b<9223372036854775808)(d:b<k):bE mA k ((a:Int),(b:Int))=some (.nx (((Nat.gcd a b:Nat):Int),0)):=by
 refine yT (fun a b c hb e=>?_) (fun a=>rfl) b a k c hb d
 unfold mA
 have:decide (0<((b:Nat):Int))=true:=decide_eq_true (by omega)
 dsimp only
 rw[this,yU a b c hb e]
 rfl
def bA (n:Int)(d:Nat):ak:=⟨n.tdiv (Nat.gcd n.natAbs d:Nat),(d:Int).tdiv (Nat.gcd n.natAbs d:Nat)⟩
theorem qN (a b:Int)(hb:0<b)(c: -9000000000000000000<=a/\a<=9000000000000000000):fJ a b=some (a.tdiv b):=by
 unfold fJ
 rw[if_neg (by omega)]
 congr 1
 have h1:(a.tdiv b).natAbs<=a.natAbs:=by rw[Int.natAbs_tdiv];exact Nat.div_le_self _ _
 exact dL (by omega)
theorem yV (n:Int)(h: -9000000000000000000<=n/\n<=9000000000000000000):(if n<IntKind.i64.wrap (0 - n) then IntKind.i64.wrap (0 - n) else n)=(n.natAbs:Int):=by
 rw[dL (by omega)]
 split<;>omega
theorem oE (n:Int)(d:Nat)(a: -9000000000000000000<=n/\n<=9000000000000000000)(hd:0<d)(b:d<900000000000000000):jd n d=some (bA n d):=by
 unfold jd
 rw[yV n a,DU n.natAbs fu d (by omega) (by omega) (Nat.lt_trans b (by decide))]
 have hg:0<Nat.gcd n.natAbs d:=Nat.gcd_pos_of_pos_right _ hd
 show ah (fJ n _) (fun x=>ah (fJ d _) fun y=>_)=_
 rw[qN n _ (by omega) a,qN d _ (by omega) (by omega)]
 rfl
theorem oF (n:Int)(d:Nat)(a: -9000000000000000000<=n/\n<=9000000000000000000)(hd:0<d)(b:d<900000000000000000):gz n d=some (bA n d):=by
 unfold gz
 have:decide ((d:Int)<0)=false:=decide_eq_false (by omega)
 rw[this]
 show ah (bE mA fu _) _=_
 rw[yV n a,DV n.natAbs fu d (by omega) (by omega) (Nat.lt_trans b (by decide))]
 have hg:0<Nat.gcd n.natAbs d:=Nat.gcd_pos_of_pos_right _ hd
 show ah (fJ n _) (fun x=>ah (fJ d _) fun y=>_)=_
 rw[qN n _ (by omega) a,qN d _ (by omega) (by omega)]
 rfl
def gA (u:an)(f:Int->Bool)(_:Nat)(x:b7):Option Int:=cond (f x.place) (cond (bC x.cX 1 20) none (some 1)) (some 6)
def gD (_:Nat)(x:cA):Option Int:=cond (bC x.back 1 20) (cond (jX x.high 0 60) (cond (decide (3<=IntKind.i64.wrap (x.high.high - x.high.low))) (some 1) none) (some 1)) (some 1)
def jY (u:an)(i:Int):Bool:=bC i 0 (IntKind.i64.wrap ((u.aR.length:Int) - 1))
def iH (u:an)(_:Nat)(x:bP):Option Int:=cond (jY u x.aX) none (some 6)
theorem yW (u:an)(i:Int):mz u i=some (jY u i)/\lV u i=some (jY u i):=by
 constructor
 ·unfold mz;rw[eE];rfl
 ·unfold lV;rw[jo,eE];rfl
theorem DW (u:an)(h:Int):gb h u=some (cond (bC h 1 20) 0 1):=by
 unfold gb;rw[jo,eE]
 show cond (!bC h 1 20) _ _=_
 cases bC h 1 20<;>rfl
theorem yX (u:an)(h:0<u.aB.length)(h2:u.aB.length<=20):∃f:Int->Bool,∀p,fy u p=some (f p)/\jV u p=some (f p):=by
 have h0:u.aB[0]?=some u.aB[0]:=List.getElem?_eq_getElem h
 have a:u.aB[u.aB.length - 1]?=some (u.aB[u.aB.length - 1]'(by omega)):=List.getElem?_eq_getElem _
 have hw:IntKind.i64.wrap ((u.aB.length:Int) - 1)=((u.aB.length - 1:Nat):Int):=by rw[dL (by omega)];omega
 have e0:bL u.aB 0=some u.aB[0]:=h0
 have e1:bL u.aB ((u.aB.length - 1:Nat):Int)=some (u.aB[u.aB.length - 1]'(by omega)):=by unfold bL;rw[if_pos (by omega),Int.toNat_natCast,a]
 refine ⟨fun p=>bC p (u.aB[0]).aG (u.aB[u.aB.length - 1]'(by omega)).aG,fun p=>?_⟩
 have k:fy u p=some (bC p (u.aB[0]).aG (u.aB[u.aB.length - 1]'(by omega)).aG):=by
  unfold fy
  rw[hw,e0,e1,jo]
  simp only[ah,eE]
 exact ⟨k,k⟩
def gV (u:an):Int:=cond (bC u.bF 2 60) (cond (bC u.bJ 0 60) (cond (bC u.aT.den 1 20) (cond (bC u.aT.num 0 20) (cond (((bA u.aT.num u.aT.den.toNat).num==u.aT.num)&&((bA u.aT.num u.aT.den.toNat).den==u.aT.den)) 0 3) 1) 1) 1) 1
theorem eZ {a b c:Int}:bC a b c=true↔b<=a/\a<=c:=by unfold bC;simp
theorem yY (u:an):lX u=some (gV u):=by
 unfold lX gV
 rw[jo]
 simp only[eE,ah]
 cases h1:bC u.bF 2 60 with
 |false=>rfl
 |true=>
  cases h2:bC u.bJ 0 60 with
  |false=>rfl
  |true=>
   cases h3:bC u.aT.den 1 20 with
   |false=>rfl
   |true=>
    cases a:bC u.aT.num 0 20 with
    |false=>rfl
    |true=>
     rw[eZ] at h3 a
     have hd:u.aT.den=(u.aT.den.toNat:Int):=by omega
     have:=oE u.aT.num u.aT.den.toNat (by omega) (by omega) (by omega)
     rw[<-hd] at this
     simp only[this,cond_true,Bool.not_true,cond_false]
     cases (((bA u.aT.num u.aT.den.toNat).num==u.aT.num)&&((bA u.aT.num u.aT.den.toNat).den==u.aT.den))<;>rfl
theorem DX (u:an):jl u=cond (gV u != 0) (some (gV u)) (ah (lg u) fun x=>cond (x != 0) (some x) (lp u)):=by
 unfold jl gV
 simp only[eE,ah]
 cases h1:bC u.bF 2 60 with
 |false=>rfl
 |true=>
  cases h2:bC u.bJ 0 60 with
  |false=>rfl
  |true=>
   cases h3:bC u.aT.den 1 20 with
   |false=>rfl
   |true=>
    cases a:bC u.aT.num 0 20 with
    |false=>rfl
    |true=>
     rw[eZ] at h3 a
     have hd:u.aT.den=(u.aT.den.toNat:Int):=by omega
     have:=oF u.aT.num u.aT.den.toNat (by omega) (by omega) (by omega)
     rw[<-hd] at this
     simp only[this,cond_true,Bool.not_true,cond_false]
     cases (((bA u.aT.num u.aT.den.toNat).num==u.aT.num)&&((bA u.aT.num u.aT.den.toNat).den==u.aT.den)) with
     |false=>rfl
     |true=>
      simp only[Bool.not_true,cond_false,cond_true,bne_self_eq_false]
      cases lg u with
      |none=>rfl
      |some x=>
       dsimp only
       cases lp u<;>rfl
theorem uP (u:an):kT u=some (cond (decide (3<(u.told.length:Int))) 2 ((de (iH u) 0 u.told).getD 0)):=by
 unfold kT
 cases decide (3<(u.told.length:Int)) with
 |true=>rfl
 |false=>
  show ah (bB _ 0 u.told 0) _=_
  rw[oD (t:=iH u) u.told 0 0 ?_]
  ·show aK (gf _ _) _ _ _=_
   cases de (iH u) 0 u.told<;>rfl
  ·intro j x s a
   unfold qa iH
   simp only[yW,ah]
   cases jY u x.aX<;>rfl
theorem uQ (u:an):kU u=some (cond (bC u.aR.length 1 3) ((de gD 0 u.aR).getD 0) 2):=by
 unfold kU
 rw[jo,eE]
 simp only[ah]
 cases bC (u.aR.length:Int) 1 3 with
 |false=>rfl
 |true=>
  simp only[Bool.not_true,cond_false,cond_true]
  rw[oD (t:=gD) u.aR 0 0 ?_]
  ·show aK (gf _ _) _ _ _=_
   cases de gD 0 u.aR<;>rfl
  ·intro j x s a
   unfold qb gD
   simp only[jo,DT,eE,yR,ah]
   cases bC x.back 1 20 with
   |false=>rfl
   |true=>
    cases jX x.high 0 60 with
    |false=>rfl
    |true=>
     simp only[Bool.not_true,cond_false,cond_true]
     cases decide (3<=IntKind.i64.wrap (x.high.high - x.high.low))<;>rfl
theorem uR (u:an)(f:Int->Bool)(a:∀p,fy u p=some (f p)/\jV u p=some (f p)):kV u=some (cond (decide (3<(u.props.length:Int))) 2 ((de (gA u f) 0 u.props).getD 0)):=by
 unfold kV
 cases decide (3<(u.props.length:Int)) with
 |true=>rfl
 |false=>
  show ah (bB _ 0 u.props 0) _=_
  rw[oD (t:=gA u f) u.props 0 0 ?_]
  ·show aK (gf _ _) _ _ _=_
   cases de (gA u f) 0 u.props<;>rfl
  ·intro j x s b
   unfold qc gA
   simp only[(a x.place).1,DW,ah]
   cases f x.place with
   |false=>rfl
   |true=>
    cases bC x.cX 1 20<;>rfl
theorem lq {α:Type}{t:Nat->α->Option Int}(h:∀i x r,t i x=some r->r≠0):∀(l:List α) (i:Nat) (r:Int),de t i l=some r->r≠0
 |[],i,r,e=>by cases e
 |x::l,i,r,e=>by
  unfold de at e
  cases ht:t i x with
  |some a=>rw[ht] at e;cases e;exact h i x _ ht
  |none=>rw[ht] at e;exact lq h l (i+1) r e
theorem yZ (u:an)(f:Int->Bool)(i:Nat)(x:b7)(r:Int)(h:gA u f i x=some r):r≠0:=by
 unfold gA at h
 revert h
 cases f x.place<;>cases bC x.cX 1 20<;>intro h<;>cases h<;>decide
theorem y2 (i:Nat)(x:cA)(r:Int)(h:gD i x=some r):r≠0:=by
 unfold gD at h
 revert h
 cases bC x.back 1 20<;>cases jX x.high 0 60<;>cases decide (3<=IntKind.i64.wrap (x.high.high - x.high.low))<;>intro h<;>cases h<;>decide
theorem DY (u:an)(i:Nat)(x:bP)(r:Int)(h:iH u i x=some r):r≠0:=by
 unfold iH at h
 revert h
 cases jY u x.aX<;>intro h<;>cases h<;>decide
theorem y3 {o:Option Int}(h:∀r,o=some r->r≠0):(o.getD 0 != 0)=o.isSome:=by
 cases o with
 |none=>rfl
 |some r=>simpa using h r rfl
theorem DZ (u:an)(f:Int->Bool)(e:∀p,fy u p=some (f p)/\jV u p=some (f p))(h1:u.props.length<=20)(h2:u.aR.length<=20)(h3:u.told.length<=20):
  lp u=ah (kV u) fun x=>cond (x != 0) (some x) (ah (kU u) fun y=>cond (y != 0) (some y) (kT u)):=by
 rw[uR u f e,uQ,uP]
 unfold lp
 simp only[ah]
 cases h:decide (3<(u.props.length:Int)) with
 |true=>rfl
 |false=>
  simp only[cond_false]
  rw[qM (t:=gA u f) u.props (by omega) ?_ ?_ 0]
  ·rw[y3 (lq (yZ u f) u.props 0)]
   cases de (gA u f) 0 u.props with
   |some r=>rfl
   |none=>
    simp only[gf,aK,Option.isSome_none,cond_false,eE]
    cases i:bC (u.aR.length:Int) 1 3 with
    |false=>rfl
    |true=>
     simp only[Bool.not_true,cond_false,cond_true]
     rw[qM (t:=gD) u.aR (by omega) ?_ ?_ 0]
     ·rw[y3 (lq y2 u.aR 0)]
      cases de gD 0 u.aR with
      |some r=>rfl
      |none=>
       simp only[gf,aK,Option.isSome_none,cond_false]
       cases k:decide (3<(u.told.length:Int)) with
       |true=>rfl
       |false=>
        simp only[cond_false]
        rw[qM (t:=iH u) u.told (by omega) ?_ ?_ 0]
        ·cases de (iH u) 0 u.told<;>rfl
        ·intro j x s b
         have g:=(List.getElem?_eq_some_iff.1 b).1
         have a:decide ((j:Int)<(u.told.length:Int))=true:=decide_eq_true (by omega)
         have c:bL u.told (j:Int)=some x:=by unfold bL;rw[if_pos (by omega),Int.toNat_natCast,b]
         have d:IntKind.i64.wrap ((j:Int)+1)=((j+1:Nat):Int):=by rw[dL (by omega)];omega
         unfold uN iH
         simp only[a,c,d,ah,yW,cond_true]
         cases jY u x.aX<;>rfl
        ·intro s
         have a:decide ((u.told.length:Int)<(u.told.length:Int))=false:=decide_eq_false (by omega)
         unfold uN
         simp only[a,cond_false]
     ·intro j x s b
      have g:=(List.getElem?_eq_some_iff.1 b).1
      have a:decide ((j:Int)<(u.aR.length:Int))=true:=decide_eq_true (by omega)
      have c:bL u.aR (j:Int)=some x:=by unfold bL;rw[if_pos (by omega),Int.toNat_natCast,b]
      have d:IntKind.i64.wrap ((j:Int)+1)=((j+1:Nat):Int):=by rw[dL (by omega)];omega
      unfold uM gD
      simp only[a,c,d,ah,eE,yR,cond_true]
      cases bC x.back 1 20<;>cases jX x.high 0 60<;>cases decide (3<=IntKind.i64.wrap (x.high.high - x.high.low))<;>rfl
     ·intro s
      have a:decide ((u.aR.length:Int)<(u.aR.length:Int))=false:=decide_eq_false (by omega)
      unfold uM
      simp only[a,cond_false]
  ·intro j x s b
   have g:=(List.getElem?_eq_some_iff.1 b).1
   have a:decide ((j:Int)<(u.props.length:Int))=true:=decide_eq_true (by omega)
   have c:bL u.props (j:Int)=some x:=by unfold bL;rw[if_pos (by omega),Int.toNat_natCast,b]
   have d:IntKind.i64.wrap ((j:Int)+1)=((j+1:Nat):Int):=by rw[dL (by omega)];omega
   unfold ov gA
   simp only[a,c,d,ah,eE,(e x.place).2,cond_true]
   cases f x.place<;>cases bC x.cX 1 20<;>rfl
  ·intro s
   have a:decide ((u.props.length:Int)<(u.props.length:Int))=false:=decide_eq_false (by omega)
   unfold ov
   simp only[a,cond_false]
theorem y4 (x:Int):cond (x != 0) (some x) (some 0)=some x:=by
 cases h:(x != 0) with
 |true=>rfl
 |false=>
  have:x=0:=by simpa using h
  rw[this];rfl
theorem uS (u:an)(h0:u.aB.length<=20)(h1:u.props.length<=20)(h2:u.aR.length<=20)(h3:u.told.length<=20):jh u=jl u/\∃r,jh u=some r:=by
 obtain ⟨he,c⟩:=yS u h0
 rw[DX,c]
 show kW u=_/\∃r,kW u=some r
 unfold kW
 rw[yY]
 simp only[ah]
 cases hg:(gV u != 0) with
 |true=>exact ⟨rfl,_,rfl⟩
 |false=>
  simp only[cond_false]
  unfold l6
  rw[he]
  simp only[ah]
  cases a:((cond (bC u.aB.length 2 5) ((de (fO u) 0 u.aB).getD 0) 2) != 0) with
  |true=>exact ⟨rfl,_,rfl⟩
  |false=>
   simp only[cond_false]
   have hb:bC u.aB.length 2 5=true:=by
    cases hb:bC (u.aB.length:Int) 2 5 with
    |true=>rfl
    |false=>rw[hb] at a;cases a
   have d:=eZ.1 hb
   obtain ⟨f,b⟩:=yX u (by omega) h0
   rw[DZ u f b h1 h2 h3]
   unfold l5
   rw[uR u f b]
   simp only[ah]
   cases e:((cond (decide (3<(u.props.length:Int))) 2 ((de (gA u f) 0 u.props).getD 0)) != 0) with
   |true=>exact ⟨rfl,_,rfl⟩
   |false=>
    simp only[cond_false]
    unfold lZ
    rw[uQ]
    simp only[ah]
    cases g:((cond (bC u.aR.length 1 3) ((de gD 0 u.aR).getD 0) 2) != 0) with
    |true=>exact ⟨rfl,_,rfl⟩
    |false=>
     simp only[cond_false]
     unfold lY n7
     rw[uP]
     simp only[ah]
     rw[y4]
     exact ⟨rfl,_,rfl⟩
theorem oG {α:Type}{t:Nat->α->Option Int}:∀(l:List α) (i:Nat),de t i l=none->∀j x,l[j]?=some x->t (i+j) x=none
 |[],i,_,j,x,a=>by simp at a
 |y::l,i,h,j,x,a=>by
  unfold de at h
  cases ht:t i y with
  |some r=>rw[ht] at h;cases h
  |none=>
   rw[ht] at h
   cases j with
   |zero=>simp at a;subst a;exact ht
   |succ j=>
    have:=oG l (i+1) h j x (by simpa using a)
    rwa [show i+1+j=i+(j+1) by omega] at this
structure Fit (u:an):Prop where
 bF:2<=u.bF/\u.bF<=60
 bJ:0<=u.bJ/\u.bJ<=60
 den:1<=u.aT.den/\u.aT.den<=20
 num:0<=u.aT.num/\u.aT.num<=20
 aB:2<=u.aB.length/\u.aB.length<=5
 mH:∀(i:Nat) x,u.aB[i]?=some x->(0<=x.aG/\x.aG<=u.bF - 1)/\0<=x.high/\x.high<=60
 D1:∀(i:Nat) x y,u.aB[i]?=some x->u.aB[i+1]?=some y->x.aG<y.aG
 props:u.props.length<=3
 prop:∀(i:Nat) x,u.props[i]?=some x->fy u x.place=some true/\1<=x.cX/\x.cX<=20
 aR:1<=u.aR.length/\u.aR.length<=3
 aX:∀(i:Nat) x,u.aR[i]?=some x->(1<=x.back/\x.back<=20)/\0<=x.high.low/\x.high.low<=x.high.high/\x.high.high<=60/\x.high.high - x.high.low<3
 told:u.told.length<=3
 MK:∀(i:Nat) x,u.told[i]?=some x->0<=x.aX/\x.aX<u.aR.length
theorem qO {o:Option Int}(h:∀r,o=some r->r≠0)(a:o.getD 0=0):o=none:=by
 cases o with
 |none=>rfl
 |some r=>exact absurd a (h r rfl)
theorem D2 (u:an)(i:Nat)(x:bZ)(r:Int)(h:fO u i x=some r):r≠0:=by
 unfold fO at h
 revert h
 cases bC x.aG 0 (IntKind.i64.wrap (u.bF - 1))<;>cases bC x.high 0 60<;>try (intro h;cases h;decide)
 cases i with
 |zero=>intro h;cases h
 |succ j=>
  simp only[cond_true]
  cases u.aB[j]? with
  |none=>intro h;cases h
  |some y=>dsimp only;cases decide (x.aG<=y.aG)<;>intro h<;>cases h<;>decide
theorem y5 (u:an)(h0:u.aB.length<=20)(h:jh u=some 0):Fit u:=by
 have a:kW u=some 0:=h
 clear h
 unfold kW at a
 rw[yY] at a
 simp only[ah] at a
 have hg:gV u=0:=by
  cases hg:(gV u != 0) with
  |true=>rw[hg] at a;exact Option.some.inj a
  |false=>simpa using hg
 rw[hg] at a
 have a:l6 u=some 0:=a
 unfold l6 at a
 rw[(yS u h0).1] at a
 simp only[ah] at a
 generalize g:cond (bC (u.aB.length:Int) 2 5) ((de (fO u) 0 u.aB).getD 0) 2=E at a
 have w:E=0:=by
  cases d:(E != 0) with
  |true=>rw[d] at a;exact Option.some.inj a
  |false=>simpa using d
 rw[w] at a g
 have a:l5 u=some 0:=a
 have hb:bC (u.aB.length:Int) 2 5=true:=by
  cases hb:bC (u.aB.length:Int) 2 5 with
  |true=>rfl
  |false=>rw[hb] at g;cases g
 rw[hb] at g
 have L:=eZ.1 hb
 have o:=oG u.aB 0 (qO (lq (D2 u) u.aB 0) g)
 obtain ⟨f,p⟩:=yX u (by omega) h0
 unfold l5 at a
 rw[uR u f p] at a
 simp only[ah] at a
 generalize j:cond (decide (3<(u.props.length:Int))) 2 ((de (gA u f) 0 u.props).getD 0)=q at a
 have z:q=0:=by
  cases d:(q != 0) with
  |true=>rw[d] at a;exact Option.some.inj a
  |false=>simpa using d
 rw[z] at a j
 have a:lZ u=some 0:=a
 have r:decide (3<(u.props.length:Int))=false:=by
  cases hb:decide (3<(u.props.length:Int)) with
  |false=>rfl
  |true=>rw[hb] at j;cases j
 rw[r] at j
 have A:=oG u.props 0 (qO (lq (yZ u f) u.props 0) j)
 unfold lZ at a
 rw[uQ] at a
 simp only[ah] at a
 generalize k:cond (bC (u.aR.length:Int) 1 3) ((de gD 0 u.aR).getD 0) 2=s at a
 have B:s=0:=by
  cases d:(s != 0) with
  |true=>rw[d] at a;exact Option.some.inj a
  |false=>simpa using d
 rw[B] at a k
 have a:lY u=some 0:=a
 have t:bC (u.aR.length:Int) 1 3=true:=by
  cases hb:bC (u.aR.length:Int) 1 3 with
  |true=>rfl
  |false=>rw[hb] at k;cases k
 rw[t] at k
 have M:=eZ.1 t
 have C:=oG u.aR 0 (qO (lq y2 u.aR 0) k)
 unfold lY n7 at a
 rw[uP] at a
 simp only[ah] at a
 rw[y4] at a
 have l:=Option.some.inj a
 have v:decide (3<(u.told.length:Int))=false:=by
  cases hb:decide (3<(u.told.length:Int)) with
  |false=>rfl
  |true=>rw[hb] at l;cases l
 rw[v] at l
 have D:=oG u.told 0 (qO (lq (DY u) u.told 0) l)
 have N:=of_decide_eq_false r
 have O:=of_decide_eq_false v
 clear a g j k l
 have G:(2<=u.bF/\u.bF<=60)/\(0<=u.bJ/\u.bJ<=60)/\(1<=u.aT.den/\u.aT.den<=20)/\(0<=u.aT.num/\u.aT.num<=20):=by
  unfold gV at hg
  refine ⟨eZ.1 ?_,eZ.1 ?_,eZ.1 ?_,eZ.1 ?_⟩<;>revert hg<;>cases bC u.bF 2 60<;>cases bC u.bJ 0 60<;>cases bC u.aT.den 1 20<;>cases bC u.aT.num 0 20<;>intro hg<;>first|rfl|cases hg
 obtain ⟨F,H,I,J⟩:=G
 have hw:IntKind.i64.wrap (u.bF - 1)=u.bF - 1:=dL (by omega)
 have m:∀(i:Nat) x,u.aB[i]?=some x->bC x.aG 0 (u.bF - 1)=true/\bC x.high 0 60=true:=by
  intro i x b
  have:=o i x b
  unfold fO at this
  rw[hw] at this
  revert this
  cases bC x.aG 0 (u.bF - 1)<;>cases bC x.high 0 60<;>intro h<;>first|exact ⟨rfl,rfl⟩|cases h
 refine ⟨F,H,I,J,by omega,fun i x b=>⟨eZ.1 (m i x b).1,eZ.1 (m i x b).2⟩,fun i x y b n=>?_,by omega,fun i x b=>?_,by omega,fun i x b=>?_,by omega,fun i x b=>?_⟩
 ·have:=o (i+1) y n
  rw[Nat.zero_add] at this
  unfold fO at this
  rw[hw,(m _ _ n).1,(m _ _ n).2] at this
  simp only[cond_true,b] at this
  cases hd:decide (y.aG<=x.aG) with
  |true=>rw[hd] at this;cases this
  |false=>have:=of_decide_eq_false hd;omega
 ·have:=A i x b
  unfold gA at this
  revert this
  rw[(p x.place).1]
  cases f x.place<;>cases hb:bC x.cX 1 20<;>intro h<;>first|exact ⟨rfl,eZ.1 hb⟩|cases h
 ·have:=C i x b
  unfold gD at this
  cases c:bC x.back 1 20 with
  |false=>rw[c] at this;cases this
  |true=>
   cases e:jX x.high 0 60 with
   |false=>rw[c,e] at this;cases this
   |true=>
    rw[c,e] at this
    unfold jX at e
    simp only[Bool.and_eq_true,decide_eq_true_eq] at e
    refine ⟨eZ.1 c,e.1,e.2.1,e.2.2,?_⟩
    cases hd:decide (3<=IntKind.i64.wrap (x.high.high - x.high.low)) with
    |true=>rw[hd] at this;cases this
    |false=>
     have K:=of_decide_eq_false hd
     rw[dL (by omega)] at K
     omega
 ·have:=D i x b
  unfold iH at this
  cases c:jY u x.aX with
  |false=>rw[c] at this;cases this
  |true=>
   unfold jY at c
   rw[dL (by omega)] at c
   have:=eZ.1 c
   omega
theorem uT (g:Nat)(hg:0<g)(n:Int)(d:Nat):bA ((g:Int)*n) (g*d)=bA n d:=by
 unfold bA
 have e1:((g:Int)*n).natAbs=g*n.natAbs:=by rw[Int.natAbs_mul,Int.natAbs_natCast]
 rw[e1,Nat.gcd_mul_left]
 have a:(0:Int)<(g:Int):=by omega
 congr 1
 ·rw[Int.natCast_mul,Int.mul_tdiv_mul_of_pos _ _ a]
 ·rw[Int.natCast_mul,Int.natCast_mul,Int.mul_tdiv_mul_of_pos _ _ a]
theorem uU (n:Int)(d:Nat)(hd:0<d):∃g a:Nat,0<g/\0<a/\d=g*a/\n=(g:Int)*(bA n d).num/\(bA n d).den=(a:Int):=by
 have hg:0<Nat.gcd n.natAbs d:=Nat.gcd_pos_of_pos_right _ hd
 obtain ⟨a,b⟩:=Nat.gcd_dvd_right n.natAbs d
 refine ⟨Nat.gcd n.natAbs d,a,hg,?_,b,?_,?_⟩
 ·rcases Nat.eq_zero_or_pos a with h|h
  ·rw[h,Nat.mul_zero] at b;omega
  ·exact h
 ·have c:((Nat.gcd n.natAbs d:Nat):Int) ∣ n:=Int.ofNat_dvd_left.2 (Nat.gcd_dvd_left _ _)
  unfold bA
  exact (Int.mul_tdiv_cancel' c).symm
 ·have:(d:Int)=((Nat.gcd n.natAbs d:Nat):Int)*(a:Int):=by rw[<-Int.natCast_mul];exact congrArg _ b
  show (d:Int).tdiv ((Nat.gcd n.natAbs d:Nat):Int)=_
  have h2:((Nat.gcd n.natAbs d:Nat):Int)≠0:=by omega
  calc (d:Int).tdiv ((Nat.gcd n.natAbs d:Nat):Int)=(((Nat.gcd n.natAbs d:Nat):Int)*(a:Int)).tdiv ((Nat.gcd n.natAbs d:Nat):Int):=congrArg (fun z=>Int.tdiv z _) this
   _=(a:Int):=Int.mul_tdiv_cancel_left _ h2
theorem dM {x y:Int}{A B:Nat}(a:x.natAbs<=A)(b:y.natAbs<=B):(x*y).natAbs<=A*B:=by
 rw[Int.natAbs_mul];exact Nat.mul_le_mul a b
theorem dN {n:Int}(h:n.natAbs<=9000000000000000000):IntKind.i64.wrap n=n:=dL (by omega)
structure Sm (r:ak)(A B:Nat):Prop where
 num:r.num.natAbs<=A
 den:0<r.den/\r.den<=B
theorem qP {a b:ak}{A B C D:Nat}(c:Sm a A B)(hb:Sm b C D)(h:A*D+C*B<=900000000000000000)(hd:B*D<=800000000000000000):
  iA a b=some (bA (a.num*b.den+b.num*a.den) (a.den*b.den).toNat):=by
 have h1:=dM c.num (show b.den.natAbs<=D by have:=hb.den;omega)
 have h2:=dM hb.num (show a.den.natAbs<=B by have:=c.den;omega)
 have h3:=dM (show a.den.natAbs<=B by have:=c.den;omega) (show b.den.natAbs<=D by have:=hb.den;omega)
 have d:0<a.den*b.den:=Int.mul_pos c.den.1 hb.den.1
 unfold iA
 rw[dN (n:=a.num*b.den) (by omega),dN (n:=b.num*a.den) (by omega),dN (n:=a.den*b.den) (by omega),dN (by omega)]
 have e:a.den*b.den=(((a.den*b.den).toNat:Nat):Int):=by omega
 have:=oE (a.num*b.den+b.num*a.den) (a.den*b.den).toNat (by omega) (by omega) (by omega)
 rw[<-e] at this
 rw[this]
 rfl
theorem y6 {a b:ak}{A B C D:Nat}(c:Sm a A B)(hb:Sm b C D)(h:A*D+C*B<=900000000000000000)(hd:B*D<=800000000000000000):
  iG a b=some (bA (a.num*b.den - b.num*a.den) (a.den*b.den).toNat):=by
 have h1:=dM c.num (show b.den.natAbs<=D by have:=hb.den;omega)
 have h2:=dM hb.num (show a.den.natAbs<=B by have:=c.den;omega)
 have h3:=dM (show a.den.natAbs<=B by have:=c.den;omega) (show b.den.natAbs<=D by have:=hb.den;omega)
 have d:0<a.den*b.den:=Int.mul_pos c.den.1 hb.den.1
 unfold iG
 rw[dN (n:=a.num*b.den) (by omega),dN (n:=b.num*a.den) (by omega),dN (n:=a.den*b.den) (by omega),dN (by omega)]
 have e:a.den*b.den=(((a.den*b.den).toNat:Nat):Int):=by omega
 have:=oF (a.num*b.den - b.num*a.den) (a.den*b.den).toNat (by omega) (by omega) (by omega)
 rw[<-e] at this
 rw[this]
 rfl
theorem uV {a b:ak}{A B C D:Nat}(c:Sm a A B)(hb:Sm b C D)(h:A*D+C*B<=900000000000000000)(hd:B*D<=800000000000000000)(hC:C<=9000000000000000000):
  iB a b=some (bA (a.num*b.den - b.num*a.den) (a.den*b.den).toNat):=by
 unfold iB
 have e:=hb.num
 rw[dN (by omega)]
 have d:Sm (⟨0 - b.num,b.den⟩:ak) C D:=⟨by show (0 - b.num).natAbs<=C;omega,hb.den⟩
 rw[qP c d h hd]
 show some (bA (a.num*b.den+(0 - b.num)*a.den) (a.den*b.den).toNat)=_
 rw[show a.num*b.den+(0 - b.num)*a.den=a.num*b.den - b.num*a.den by rw[Int.zero_sub,Int.neg_mul];omega]
def qQ (x y:bZ)(p:Int):Option ak:=
 gz (IntKind.i64.wrap ((IntKind.i64.wrap (x.high*(IntKind.i64.wrap (y.aG - x.aG))))+(IntKind.i64.wrap ((IntKind.i64.wrap (y.high - x.high))*(IntKind.i64.wrap (p - x.aG)))))) (IntKind.i64.wrap (y.aG - x.aG))
theorem oH {α:Type}{l:List α}{i:Nat}{x:α}(h:l[i]?=some x):bL l (i:Int)=some x:=by unfold bL;rw[if_pos (by omega),Int.toNat_natCast,h]
theorem y7 (i:Nat)(h:i<1000):IntKind.i64.wrap ((i:Int)+1)=((i+1:Nat):Int):=by rw[dL (by omega)];omega
theorem piece (u:an)(p:Int)(f:u.aB.length<=5)(z:bZ)(b:u.aB[u.aB.length - 1]?=some z)(g:p<=z.aG):∀(m i n:Nat) (x y:bZ),i+1+m=u.aB.length - 1->m<n->u.aB[i]?=some x->u.aB[i+1]?=some y->
  ∃(k:Nat) (x y:bZ),i<=k/\u.aB[k]?=some x/\u.aB[k+1]?=some y/\p<=y.aG/\(k=i\/x.aG<p)/\bE (l9 u p) n ((i+1:Nat):Int)=some (.nx ((k+1:Nat):Int))/\
   bE (mD u p) n (i:Int)=ah (qQ x y p) fun r=>some (.rt r)
 |m,i,n+1,x,y,s,t,e,a=>by
  have v:i+1<u.aB.length:=(List.getElem?_eq_some_iff.1 a).1
  have d1:decide (((i+1:Nat):Int)<(u.aB.length:Int))=true:=decide_eq_true (by omega)
  unfold bE l9 mD
  rw[y7 i (by omega),y7 (i+1) (by omega),oH e,oH a,d1]
  simp only[ah,cond_true]
  by_cases c:y.aG<p
  ·have e1:decide (y.aG<p)=true:=decide_eq_true c
   have e2:decide (p<=y.aG)=false:=decide_eq_false (by omega)
   rw[e1,e2]
   simp only[cond_true,cond_false]
   cases m with
   |zero=>
    have:u.aB.length - 1=i+1:=by omega
    rw[this,a] at b
    cases b
    omega
   |succ m=>
    have h:i+1+1<u.aB.length:=by omega
    obtain ⟨k,j,y',h1,h2,h3,l,d,o,q⟩:=piece u p f z b g m (i+1) n y (u.aB[i+1+1]) (by omega) (by omega) a (List.getElem?_eq_getElem h)
    refine ⟨k,j,y',by omega,h2,h3,l,?_,o,q⟩
    rcases d with rfl|d
    ·rw[a] at h2;cases h2;exact .inr c
    ·exact .inr d
  ·have e1:decide (y.aG<p)=false:=decide_eq_false c
   have e2:decide (p<=y.aG)=true:=decide_eq_true (by omega)
   rw[e1,e2]
   refine ⟨i,x,y,Nat.le_refl _,e,a,by omega,.inl rfl,rfl,?_⟩
   simp only[cond_true]
   unfold qQ
   cases gz _ _<;>rfl
theorem jq (n:Int)(d:Nat)(hd:0<d):Sm (bA n d) n.natAbs d:=by
 obtain ⟨g,a,hg,c,e1,e2,b⟩:=uU n d hd
 refine ⟨?_,?_⟩
 ·have:n.natAbs=g*(bA n d).num.natAbs:=by
   have:=congrArg Int.natAbs e2
   rwa [Int.natAbs_mul,Int.natAbs_natCast] at this
  rw[this]
  exact Nat.le_mul_of_pos_left _ hg
 ·rw[b]
  have:a<=d:=by rw[e1];exact Nat.le_mul_of_pos_left _ hg
  omega
theorem y8 (h:Int)(n:Int)(d:Nat)(hd:0<d):bA (h*(bA n d).den+(bA n d).num) ((bA n d).den).toNat=bA (h*d+n) d:=by
 obtain ⟨g,a,hg,f,e1,e2,b⟩:=uU n d hd
 have k1:h*(d:Int)+n=(g:Int)*(h*(a:Int)+(bA n d).num):=by
  rw[Int.mul_add,<-e2,e1,Int.natCast_mul,Int.mul_left_comm]
 rw[b]
 have c:((a:Nat):Int).toNat=a:=Int.toNat_natCast a
 rw[c,k1]
 have e:bA ((g:Int)*(h*(a:Int)+(bA n d).num)) d=bA ((g:Int)*(h*(a:Int)+(bA n d).num)) (g*a):=congrArg _ e1
 rw[e,uT g hg]
theorem y9 (u:an)(F:Fit u)(p:Int)(a z:bZ)(f:u.aB[0]?=some a)(j:u.aB[u.aB.length - 1]?=some z)(l:a.aG<=p)(m:p<=z.aG):
  ∃r,jS u p=some r/\lf u p=some r/\Sm r 7200 60:=by
 have o:=F.aB
 obtain ⟨k,x,y,-,b,e,E,g,q,t⟩:=piece u p o.2 z j m (u.aB.length - 2) 0 fu a (u.aB[1]'(by omega)) (by omega) (Nat.lt_of_le_of_lt (show u.aB.length - 2<=5 by omega) (by decide)) f (List.getElem?_eq_getElem _)
 have G:k+1<u.aB.length:=(List.getElem?_eq_some_iff.1 e).1
 have H:=F.mH k x b
 have I:=F.mH (k+1) y e
 have J:=F.D1 k x y b e
 have K:=F.bF
 have L:x.aG<=p:=by
  rcases g with rfl|g
  ·rw[f] at b;cases b;exact l
  ·omega
 have v:IntKind.i64.wrap (((k+1:Nat):Int) - 1)=(k:Int):=by rw[dL (by omega)];omega
 have w1:IntKind.i64.wrap (y.high - x.high)=y.high - x.high:=dL (by omega)
 have w2:IntKind.i64.wrap (p - x.aG)=p - x.aG:=dL (by omega)
 have w3:IntKind.i64.wrap (y.aG - x.aG)=y.aG - x.aG:=dL (by omega)
 have w:((y.high - x.high)*(p - x.aG)).natAbs<=60*60:=dM (by omega) (by omega)
 have h:(x.high*(y.aG - x.aG)).natAbs<=60*60:=dM (by omega) (by omega)
 obtain ⟨d,hd⟩:∃d:Nat,y.aG - x.aG=d:=⟨(y.aG - x.aG).toNat,by omega⟩
 generalize i:(y.high - x.high)*(p - x.aG)=n at w
 have c:0<d:=by omega
 have M:d<=60:=by omega
 have s1:=jq n d c
 have A:Sm (bA n d) 3600 60:=⟨Nat.le_trans s1.num (by omega),s1.den.1,by have:=s1.den.2;omega⟩
 have B:Sm (⟨x.high,1⟩:ak) 60 1:=⟨by show x.high.natAbs<=60;omega,by show (0:Int)<1;omega,by show (1:Int)<=((1:Nat):Int);omega⟩
 refine ⟨bA (x.high*d+n) d,?_,?_,?_⟩
 ·unfold jS
  have C:bE (l9 u p) fu 1=some (.nx ((k+1:Nat):Int)):=q
  rw[C]
  simp only[ah,aK]
  rw[v,oH b,oH e]
  simp only[fq]
  rw[w1,w2,w3,i,hd,dN (by omega),oE n d (by omega) c (by omega)]
  simp only
  rw[qP B A (by omega) (by omega)]
  show some (bA (x.high*(bA n d).den+(bA n d).num*1) (1*(bA n d).den).toNat)=_
  rw[Int.mul_one,Int.one_mul,y8 x.high n d c]
 ·unfold lf
  have D:bE (mD u p) fu 0=ah (qQ x y p) fun r=>some (.rt r):=t
  rw[D]
  unfold qQ
  rw[w1,w2,w3,dN (n:=x.high*(y.aG - x.aG)) (by omega),i,dN (n:=n) (by omega),hd]
  rw[hd] at h
  rw[dN (n:=x.high*(d:Int)+n) (by omega),oF (x.high*d+n) d (by omega) c (by omega)]
  rfl
 ·have s:=jq (x.high*d+n) d c
  rw[hd] at h
  exact ⟨Nat.le_trans s.num (by omega),s.den.1,by have:=s.den.2;omega⟩
def uW:an:=⟨0,0,(⟨0,0⟩:ak),([]:List bZ),([]:List b7),([]:List cA),([]:List bP)⟩
theorem za {u:an}{c:Int}(a:List (an->Option Int))(h:jh u=some c)(b:c≠0):eY u a=some (uW,c):=by
 unfold eY
 rw[h]
 have:(c != 0)=true:=by simpa using b
 simp only[ah,this,cond_true]
 rfl
theorem zb {u:an}{f:an->Option Int}{x:Int}(h:jh u=some 0)(a:f u=some x):eY u [f]=some (cond (x != 0) (uW,x) (u,0)):=by
 unfold eY
 rw[h]
 simp only[ah,bne_self_eq_false,cond_false]
 unfold bB qt
 simp only[a,ah]
 cases (x != 0)<;>rfl
theorem zd (u:an)(F:Fit u)(p:Int):∃a z,u.aB[0]?=some a/\u.aB[u.aB.length - 1]?=some z/\fy u p=some (bC p a.aG z.aG)/\jV u p=some (bC p a.aG z.aG):=by
 have c:=F.aB
 have h0:u.aB[0]?=some (u.aB[0]'(by omega)):=List.getElem?_eq_getElem _
 have b:u.aB[u.aB.length - 1]?=some (u.aB[u.aB.length - 1]'(by omega)):=List.getElem?_eq_getElem _
 have hw:IntKind.i64.wrap ((u.aB.length:Int) - 1)=((u.aB.length - 1:Nat):Int):=by rw[dL (by omega)];omega
 refine ⟨_,_,h0,b,?_⟩
 have k:fy u p=some (bC p (u.aB[0]'(by omega)).aG (u.aB[u.aB.length - 1]'(by omega)).aG):=by
  unfold fy
  have e0:bL u.aB 0=some (u.aB[0]'(by omega)):=h0
  rw[hw,e0,oH b,jo]
  simp only[ah,eE]
 exact ⟨k,k⟩
theorem D3 (u:an)(h0:u.aB.length<=20)(h1:u.props.length<=20)(h2:u.aR.length<=20)(h3:u.told.length<=20)(p:Int):∃r,me u p=some r/\ow u p=some r:=by
 obtain ⟨e,c,b⟩:=uS u h0 h1 h2 h3
 unfold me ow
 rw[<-e,b]
 by_cases d:c=0
 ·subst d
  have F:=y5 u h0 b
  obtain ⟨a,z,f,g,h,i⟩:=zd u F p
  have hb:jP p u=some (cond (bC p a.aG z.aG) 0 6):=by
   unfold jP
   rw[h]
   simp only[ah]
   cases bC p a.aG z.aG<;>rfl
  rw[zb b hb,i]
  simp only[ah,bne_self_eq_false,cond_false]
  cases j:bC p a.aG z.aG with
  |false=>exact ⟨_,rfl,rfl⟩
  |true=>
   have:=eZ.1 j
   obtain ⟨r,e1,e2,-⟩:=y9 u F p a z f g this.1 this.2
   simp only[cond_true,bne_self_eq_false,cond_false,e1,e2,Bool.not_true]
   exact ⟨_,rfl,rfl⟩
 ·rw[za _ b d]
  have:(c != 0)=true:=by simpa using d
  simp only[ah,this,cond_true]
  exact ⟨_,rfl,rfl⟩
theorem D4 {n m:Int}{d e:Nat}(hd:0<d)(he:0<e)(h:n*(e:Int)=m*(d:Int)):bA n d=bA m e:=by
 have a:=uT e he n d
 have b:=uT d hd m e
 rw[<-a,<-b]
 have e1:(e:Int)*n=(d:Int)*m:=by rw[Int.mul_comm,h,Int.mul_comm]
 rw[e1,Nat.mul_comm e d]
theorem ze (n:Int)(d:Nat)(hd:0<d):(bA n d).num*(d:Int)=n*(bA n d).den/\0<(bA n d).den:=by
 obtain ⟨g,a,hg,c,e1,e2,b⟩:=uU n d hd
 refine ⟨?_,by rw[b];omega⟩
 rw[b]
 have k1:(d:Int)=(g:Int)*(a:Int):=by rw[<-Int.natCast_mul];exact congrArg _ e1
 calc (bA n d).num*(d:Int)=(bA n d).num*((g:Int)*(a:Int)):=by rw[<-k1]
  _=((g:Int)*(bA n d).num)*(a:Int):=by rw[<-Int.mul_assoc,Int.mul_comm (bA n d).num]
  _=n*(a:Int):=by rw[<-e2]
theorem uX {a b:ak}{A B C D:Nat}(c:Sm a A B)(hb:Sm b C D)(h:A*D<=9000000000000000000)(d:C*B<=9000000000000000000):iF a b=some (decide (a.num*b.den<b.num*a.den))/\eg a b=some (decide (a.num*b.den<b.num*a.den)):=by
 have h1:=dM c.num (show b.den.natAbs<=D by have:=hb.den;omega)
 have h2:=dM hb.num (show a.den.natAbs<=B by have:=c.den;omega)
 have k:iF a b=some (decide (a.num*b.den<b.num*a.den)):=by
  unfold iF
  rw[dN (n:=a.num*b.den) (by omega),dN (n:=b.num*a.den) (by omega)]
 exact ⟨k,k⟩
theorem D5 {h md a d e b f c N:Int}(h1:d*b=N*md)(h2:e*f=c*a):(h*(md*a)+d*e)*(b*f)=(h*b*f+N*c)*(md*a):=by
 grind
theorem zf (u:an)(F:Fit u)(s:aP)(hs:(1<=s.back/\s.back<=20)/\0<=s.high/\s.high<=60)(at_:Int)(aG:Int)(H:0<=aG/\aG<=60)(e:ak)(he:Sm e 10000 100):
  ∃c,je u s at_ ⟨aG,e⟩=some ⟨⟨aG,e⟩,at_,c⟩/\jj u s aG e=some c/\c=bA (s.high*e.den*(aG+s.back)+(e.num - s.high*e.den)*(u.bF+s.back)) (e.den*(aG+s.back)).toNat:=by
 have I:=F.bF
 have w1:IntKind.i64.wrap (u.bF+s.back)=u.bF+s.back:=dL (by omega)
 have w2:IntKind.i64.wrap (aG+s.back)=aG+s.back:=dL (by omega)
 obtain ⟨f,b⟩:∃f:Nat,aG+s.back=f:=⟨(aG+s.back).toNat,by omega⟩
 have d:0<f:=by omega
 have J:f<=80:=by omega
 generalize m:u.bF+s.back=c at*
 have o:c.natAbs<=80:=by omega
 have p:Sm (⟨s.high,1⟩:ak) 60 1:=⟨by show s.high.natAbs<=60;omega,by show (0:Int)<1;omega,by show (1:Int)<=((1:Nat):Int);omega⟩
 obtain ⟨a,j⟩:∃n:Nat,e.den=n:=⟨e.den.toNat,by have:=he.den;omega⟩
 have g:0<a:=by have:=he.den;omega
 have K:a<=100:=by have:=he.den;omega
 have A:(s.high*e.den).natAbs<=60*100:=dM (by omega) (by omega)
 have b2:(e.num - s.high*e.den).natAbs<=16000:=by have:=he.num;omega
 have q:=uV he p (by omega) (by omega) (by omega)
 have e1:e.num*(1:Int) - s.high*e.den=e.num - s.high*e.den:=by rw[Int.mul_one]
 have e2:(e.den*(1:Int)).toNat=a:=by rw[Int.mul_one,j,Int.toNat_natCast]
 rw[show ((⟨s.high,1⟩:ak).den)=(1:Int) from rfl,show ((⟨s.high,1⟩:ak).num)=s.high from rfl,e1,e2] at q
 generalize B:e.num - s.high*e.den=N at*
 have sm:=jq N a g
 have r:=jq c f d
 have t:=ze N a g
 have v:=ze c f d
 have L:((bA N a).num*(bA c f).num).natAbs<=16000*80:=dM (Nat.le_trans sm.num b2) (Nat.le_trans r.num o)
 have O:((bA N a).den*(bA c f).den).natAbs<=100*80:=dM (by have:=sm.den;omega) (by have:=r.den;omega)
 have P:0<(bA N a).den*(bA c f).den:=Int.mul_pos t.2 v.2
 obtain ⟨M,w⟩:∃M:Nat,(bA N a).den*(bA c f).den=M:=⟨((bA N a).den*(bA c f).den).toNat,by omega⟩
 have h:0<M:=by omega
 have C:=oE c f (by omega) d (by omega)
 have D:=oE ((bA N a).num*(bA c f).num) M (by omega) h (by omega)
 have sq:=jq ((bA N a).num*(bA c f).num) M h
 have E:Sm (bA ((bA N a).num*(bA c f).num) M) 1280000 8000:=⟨Nat.le_trans sq.num (by omega),sq.den.1,by have:=sq.den.2;omega⟩
 have x:=qP p E (by omega) (by omega)
 have G:s.high*(bA ((bA N a).num*(bA c f).num) M).den+(bA ((bA N a).num*(bA c f).num) M).num*1=s.high*(bA ((bA N a).num*(bA c f).num) M).den+(bA ((bA N a).num*(bA c f).num) M).num:=by rw[Int.mul_one]
 rw[show ((⟨s.high,1⟩:ak).den)=(1:Int) from rfl,show ((⟨s.high,1⟩:ak).num)=s.high from rfl,G,Int.one_mul,y8 s.high _ M h] at x
 have k:e.den*(aG+s.back)=((a*f:Nat):Int):=by rw[j,b,Int.natCast_mul]
 have i:(e.den*(aG+s.back)).toNat=a*f:=by rw[k,Int.toNat_natCast]
 have y:bA (s.high*(M:Int)+(bA N a).num*(bA c f).num) M=bA (s.high*e.den*(aG+s.back)+N*c) (a*f):=by
  refine D4 h (Nat.mul_pos g d) ?_
  rw[Int.natCast_mul,<-w,b,j]
  exact D5 (by rw[t.1]) (by rw[v.1])
 refine ⟨_,?_,?_,rfl⟩
 ·unfold je
  have l:IntKind.i64.wrap (f:Int)=f:=dL (by omega)
  simp only[fq,ah,q,m,w1,b,l,C]
  rw[dN (by omega),dN (n:=(bA N a).den*(bA c f).den) (by omega),w,D]
  simp only[x]
  rw[b] at i y
  rw[i,y]
 ·unfold jj
  have l:IntKind.i64.wrap (f:Int)=f:=dL (by omega)
  have Q:(s.high*e.den*(f:Int)).natAbs<=6000*80:=dM A (by omega)
  have p2:(N*c).natAbs<=16000*80:=dM b2 o
  have p3:(e.den*(f:Int)).natAbs<=100*80:=dM (by omega) (by omega)
  simp only[m,w1,b,l]
  rw[dN (n:=s.high*e.den) (by omega),B,dN (n:=N) (by omega),dN (n:=s.high*e.den*(f:Int)) (by omega),dN (n:=N*c) (by omega),dN (n:=s.high*e.den*(f:Int)+N*c) (by omega),dN (n:=e.den*(f:Int)) (by omega)]
  rw[b] at k i
  have z:=oF (s.high*e.den*(f:Int)+N*c) (a*f) (by omega) (Nat.mul_pos g d) (by omega)
  rw[i]
  rw[<-k] at z
  rw[z]
  rfl
theorem D6 (s:aP)(u:an):ei s u=mG s:=rfl
def lu (s:aP):Int:=cond (bC s.back 1 20) (cond (bC s.high 0 60) 0 1) 1
theorem zg (s:aP):mG s=some (lu s):=by
 unfold mG lu
 simp only[eE,ah]
 cases bC s.back 1 20<;>cases bC s.high 0 60<;>rfl
theorem D7 {s:aP}(h:lu s=0):(1<=s.back/\s.back<=20)/\0<=s.high/\s.high<=60:=by
 unfold lu at h
 cases h1:bC s.back 1 20 with
 |false=>rw[h1] at h;cases h
 |true=>
  cases h2:bC s.high 0 60 with
  |false=>rw[h1,h2] at h;cases h
  |true=>exact ⟨eZ.1 h1,eZ.1 h2⟩
def fP (u:an)(s:aP)(x:bZ):ak:=bA (s.high*1*(x.aG+s.back)+(x.high - s.high*1)*(u.bF+s.back)) (1*(x.aG+s.back)).toNat
theorem zh (u:an)(F:Fit u)(s:aP)(hs:(1<=s.back/\s.back<=20)/\0<=s.high/\s.high<=60)(i:Nat)(x:bZ)(a:u.aB[i]?=some x)(at_:Int):
  je u s at_ ⟨x.aG,⟨x.high,1⟩⟩=some ⟨⟨x.aG,⟨x.high,1⟩⟩,at_,fP u s x⟩/\jj u s x.aG ⟨x.high,1⟩=some (fP u s x):=by
 have p:=F.mH i x a
 have b:=F.bF
 have he:Sm (⟨x.high,1⟩:ak) 10000 100:=⟨by show x.high.natAbs<=10000;omega,by show (0:Int)<1;omega,by show (1:Int)<=((100:Nat):Int);omega⟩
 obtain ⟨c,h1,h2,h3⟩:=zf u F s hs at_ x.aG (by omega) ⟨x.high,1⟩ he
 have:c=fP u s x:=h3
 subst this
 exact ⟨h1,h2⟩
theorem D8 (u:an)(F:Fit u)(s:aP)(hs:(1<=s.back/\s.back<=20)/\0<=s.high/\s.high<=60)(i:Nat)(x:bZ)(a:u.aB[i]?=some x):Sm (fP u s x) 10000 100:=by
 have p:=F.mH i x a
 have b:=F.bF
 unfold fP
 rw[Int.mul_one,Int.one_mul]
 have c:(s.high*(x.aG+s.back)).natAbs<=60*79:=dM (by omega) (by omega)
 have b2:((x.high - s.high)*(u.bF+s.back)).natAbs<=60*80:=dM (by omega) (by omega)
 have h:=jq (s.high*(x.aG+s.back)+(x.high - s.high)*(u.bF+s.back)) (x.aG+s.back).toNat (by omega)
 exact ⟨Nat.le_trans h.num (by omega),h.den.1,by have:=h.den.2;omega⟩
def foldI {α σ:Type}(g:Nat->α->σ->σ):Nat->List α->σ->σ
 |_,[],s=>s
 |i,x::l,s=>foldI g (i+1) l (g i x s)
theorem mI {α σ ρ:Type}{f:Nat->α->σ->Option (Fl σ ρ)}{g:Nat->α->σ->σ}{I:Nat->σ->Prop}:∀(l:List α) (i:Nat) (s:σ),I i s->(∀j x s,l[j]?=some x->I (i+j) s->f (i+j) x s=some (.nx (g (i+j) x s))/\I (i+j+1) (g (i+j) x s))->
  bB f i l s=some (.nx (foldI g i l s))/\I (i+l.length) (foldI g i l s)
 |[],i,s,hs,_=>⟨rfl,hs⟩
 |x::l,i,s,hs,h=>by
  obtain ⟨h0,h1⟩:=h 0 x s rfl hs
  simp only[Nat.add_zero] at h0 h1
  unfold bB foldI
  rw[h0]
  have:=mI l (i+1) _ h1 fun j y s a hs=>by
   have:=h (j+1) y s (by simpa using a) (by rwa [show i+(j+1)=i+1+j by omega])
   rwa [show i+(j+1)=i+1+j by omega] at this
  rwa [show i+1+l.length=i+(x::l).length by simp;omega] at this
theorem zi {α σ τ ρ:Type}{f:τ->Option (Fl τ ρ)}{g:Nat->α->σ->σ}{I:Nat->σ->Prop}(e:σ->Int->τ)(l:List α)(h:∀(i:Nat) x s,l[i]?=some x->I i s->f (e s (i:Int))=some (.nx (e (g i x s) ((i+1:Nat):Int)))/\I (i+1) (g i x s))(a:∀s,f (e s (l.length:Int))=some (.bk (e s (l.length:Int)))):
  ∀(k i n:Nat) (s:σ),I i s->i+k=l.length->k<n->bE f n (e s (i:Int))=some (.nx (e (foldI g i (l.drop i) s) (l.length:Int)))/\I l.length (foldI g i (l.drop i) s)
 |0,i,n+1,s,hs,c,_=>by
  obtain rfl:i=l.length:=by omega
  unfold bE
  rw[a,List.drop_length]
  exact ⟨rfl,hs⟩
 |k+1,i,n+1,s,hs,c,j=>by
  have b:i<l.length:=by omega
  have d:l[i]?=some l[i]:=List.getElem?_eq_getElem b
  obtain ⟨h0,h1⟩:=h i _ s d hs
  unfold bE
  rw[h0,List.drop_eq_getElem_cons b]
  unfold foldI
  exact zi e l h a k (i+1) n _ h1 (by omega) (by omega)
theorem zj {α σ τ ρ:Type}{f:τ->Option (Fl τ ρ)}{g:Nat->α->σ->σ}{I:Nat->σ->Prop}(e:σ->Int->τ)(l:List α)(a:l.length<=1000)(h:∀(i:Nat) x s,l[i]?=some x->I i s->f (e s (i:Int))=some (.nx (e (g i x s) ((i+1:Nat):Int)))/\I (i+1) (g i x s))(b:∀s,f (e s (l.length:Int))=some (.bk (e s (l.length:Int))))(s:σ)(hs:I 0 s):
  bE f fu (e s 0)=some (.nx (e (foldI g 0 l s) (l.length:Int)))/\I l.length (foldI g 0 l s):=by
 have:=zi e l h b l.length 0 fu s hs (by omega) (Nat.lt_of_le_of_lt a (by decide))
 simpa using this
theorem zk {α σ:Type}{g g':Nat->α->σ->σ}:∀(l:List α) (i:Nat) (s:σ),(∀j x s,i<=j->g j x s=g' j x s)->foldI g i l s=foldI g' i l s
 |[],_,_,_=>rfl
 |x::l,i,s,h=>by
  unfold foldI
  rw[h i x s (Nat.le_refl _)]
  exact zk l (i+1) _ fun j x s a=>h j x s (by omega)
def cv (a b:ak):Bool:=decide (a.num*b.den<b.num*a.den)
abbrev SR (r:ak):Prop:=Sm r 2000000 8000
theorem Sm.mono {r:ak}{A B a b:Nat}(h:Sm r A B)(c:A<=a)(hb:B<=b):Sm r a b:=⟨Nat.le_trans h.num c,h.den.1,by have:=h.den.2;omega⟩
theorem uY (u:an)(F:Fit u)(s:aP)(hs:(1<=s.back/\s.back<=20)/\0<=s.high/\s.high<=60)(i:Nat)(x:bZ)(a:u.aB[i]?=some x):SR (fP u s x):=(D8 u F s hs i x a).mono (by decide) (by decide)
theorem lz {a b:ak}(c:SR a)(hb:SR b):iF a b=some (cv a b)/\eg a b=some (cv a b):=uX c hb (by decide) (by decide)
def gB (u:an)(s:aP)(i:Nat)(x:bZ)(st:Int×ak):Int×ak:=cond (cv st.2 (fP u s x)) ((i:Int),fP u s x) st
def gE (u:an)(s:aP)(i:Nat)(x:bZ):bq:=⟨⟨x.aG,⟨x.high,1⟩⟩,(i:Int),fP u s x⟩
def eJ (u:an)(s:aP):Nat->List bZ->List bq
 |_,[]=>[]
 |i,x::l=>gE u s i x::eJ u s (i+1) l
theorem zl (u:an)(s:aP):∀(l:List bZ) (i:Nat) (a:List bq),foldI (fun i x st=>st++[gE u s i x]) i l a=a++eJ u s i l
 |[],i,a=>by simp[foldI,eJ]
 |x::l,i,a=>by simp[foldI,eJ,zl u s l (i+1)]
def gC (i:Nat)(x:bq)(st:bq):bq:=cond (cv st.high x.high) x st
theorem zm (u:an)(s:aP):∀(l:List bZ) (i j:Nat) (c:bq),let r:=foldI gC j (eJ u s i l) c;(r.at_,r.high)=foldI (gB u s) i l (c.at_,c.high)
 |[],i,j,c=>rfl
 |x::l,i,j,c=>by
  simp only[eJ,foldI]
  have:=zm u s l (i+1) (j+1) (gC j (gE u s i x) c)
  simp only at this
  rw[this]
  congr 1
  unfold gC gB gE
  cases cv c.high (fP u s x)<;>rfl
theorem qR (n:Int):fq n=some ⟨n,1⟩:=rfl
def jZ (u:an)(s:aP):Int×ak:=match u.aB with
 |[]=>(0,⟨0,0⟩)
 |x::l=>foldI (gB u s) 1 l (0,fP u s x)
section
variable {u : an} {s : aP} (F : Fit u) (hs : (1 ≤ s.back ∧ s.back ≤ 20) ∧ 0 ≤ s.high ∧ s.high ≤ 60)
include F hs
theorem D9:bB (l7 u s) 0 u.aB ([]:List bq)=some (.nx (eJ u s 0 u.aB)):=by
 have c:=F.aB
 have:=mI (f:=l7 u s) (ρ:=bq) (g:=fun i x st=>st++[gE u s i x]) (I:=fun i st=>st.length=i) u.aB 0 [] rfl (fun j x st a b=>?_)
 ·rw[this.1,zl];rfl
 ·have d:j<u.aB.length:=(List.getElem?_eq_some_iff.1 a).1
  refine ⟨?_,by simp[b]⟩
  unfold l7
  rw[Nat.zero_add] at b ⊢
  simp only[qR,ah,(zh u F s hs j x a (j:Int)).1]
  unfold dr
  rw[if_pos (by simp;omega)]
  rfl
theorem zn:∀(l:List bZ) (i:Nat),(∀(j:Nat) x,l[j]?=some x->u.aB[i+j]?=some x)->∀(j:Nat) c,(eJ u s i l)[j]?=some c->SR c.high
 |[],_,_,j,c,h=>by simp[eJ] at h
 |x::l,i,a,0,c,h=>by
  simp[eJ] at h
  subst h
  exact uY u F s hs i x (a 0 x rfl)
 |x::l,i,a,j+1,c,h=>zn l (i+1) (fun j y b=>by have:=a (j+1) y (by simpa using b);rwa [show i+(j+1)=i+1+j by omega] at this) j c (by simpa [eJ] using h)
theorem uZ:∃c,jR u s=some c/\(c.at_,c.high)=jZ u s/\SR c.high/\k9 u s=some (jZ u s):=by
 have d:=F.aB
 have o:=D9 F hs
 obtain ⟨a,rest,he⟩:∃x l,u.aB=x::l:=by
  cases h:u.aB with
  |nil=>rw[h] at d;simp at d
  |cons x l=>exact ⟨x,l,rfl⟩
 have p:u.aB[0]?=some a:=by rw[he];rfl
 have q:∀(j:Nat) x,rest[j]?=some x->u.aB[1+j]?=some x:=fun j x h=>by rw[he,Nat.add_comm];simpa using h
 have v:rest.length<=4:=by rw[he] at d;simp at d;omega
 have r:SR (fP u s a):=uY u F s hs 0 a p
 have hg:=mI (f:=kS fM) (ρ:=bq) (g:=gC) (I:=fun _ c=>SR c.high) (eJ u s 1 rest) 0 (gE u s 0 a) r (fun j c st m e=>by
  have b:=zn F hs rest 1 q j c m
  refine ⟨?_,?_⟩
  ·unfold kS fM gC
   simp only[(lz e b).2,ah]
   cases cv st.high c.high<;>rfl
  ·unfold gC
   cases cv st.high c.high
   ·exact e
   ·exact b)
 refine ⟨foldI gC 0 (eJ u s 1 rest) (gE u s 0 a),?_,?_,hg.2,?_⟩
 ·unfold jR
  rw[o,he]
  simp only[ah,aK,eJ]
  rw[show bL (gE u s 0 a::eJ u s (0+1) rest) 0=some (gE u s 0 a) from rfl]
  simp only
  have:gY (gE u s 0 a::eJ u s (0+1) rest) 1 (((gE u s 0 a::eJ u s (0+1) rest).length:Nat):Int)=some (eJ u s 1 rest):=by
   unfold gY
   rw[if_pos (by simp only[List.length_cons];omega)]
   simp
  rw[this]
  simp only
  unfold jg
  rw[hg.1]
  rfl
 ·have:=zm u s rest 1 0 (gE u s 0 a)
  simp only at this
  rw[this]
  unfold jZ
  rw[he]
  rfl
 ·unfold k9
  have t:=zj (f:=mC u s) (g:=fun i x st=>if i=0 then ((0:Int),fP u s x) else gB u s i x st) (I:=fun i st=>i=0\/SR st.2) (fun st i=>(st.1,i,st.2)) u.aB (by omega) (fun i x st k e=>?_) (fun st=>?_) ((0:Int),(⟨0,0⟩:ak)) (.inl rfl)
  ·rw[t.1,he]
   simp only[ah,aK,foldI,if_pos]
   rw[zk (g':=gB u s) rest (0+1) _ (fun j x st m=>if_neg (by omega))]
   unfold jZ
   rw[he]
  ·have w:i<u.aB.length:=(List.getElem?_eq_some_iff.1 k).1
   have b:=uY u F s hs i x k
   unfold mC
   simp only
   rw[show decide ((i:Int)<(u.aB.length:Int))=true by simp;omega]
   simp only[cond_true]
   rw[show bL u.aB (i:Int)=some x by unfold bL;rw[if_pos (by omega)];simpa using k]
   simp only[ah,(zh u F s hs i x k 0).2]
   have hw:IntKind.i64.wrap ((i:Int)+1)=((i+1:Nat):Int):=by rw[dL (by omega)];rfl
   rw[hw]
   by_cases h0:i=0
   ·subst h0
    exact ⟨rfl,.inr b⟩
   ·have n:SR st.2:=e.resolve_left h0
    rw[show (((i:Nat):Int)==0)=false by simp;omega]
    simp only[cond_false,(lz n b).1,if_neg h0]
    unfold gB
    cases cv st.2 (fP u s x)
    ·exact ⟨rfl,.inr n⟩
    ·exact ⟨rfl,.inr b⟩
  ·unfold mC
   simp
end
section
variable {u : an} {s : aP} (F : Fit u) (hs : (1 ≤ s.back ∧ s.back ≤ 20) ∧ 0 ≤ s.high ∧ s.high ≤ 60)
include F hs
theorem zo:Sm (⟨u.bJ,1⟩:ak) 60 1:=⟨by have:=F.bJ;show u.bJ.natAbs<=60;omega,by show (0:Int)<1;omega,by show (1:Int)<=((1:Nat):Int);omega⟩
theorem Ea:∃r,l8 u s=some r/\oq u s=some r:=by
 obtain ⟨c,h1,h2,h3,a⟩:=uZ F hs
 have e2:c.high=(jZ u s).2:=by rw[<-h2]
 have p:=zo F hs
 have b:=uV p h3 (by decide) (by decide) (by decide)
 have d:=y6 p h3 (by decide) (by decide)
 unfold l8 oq
 rw[h1,a]
 simp only[ah,qR,b,<-e2,d]
 exact ⟨_,rfl,rfl⟩
end
theorem zp {a b c:ak}(d:0<a.den)(hb:0<b.den)(f:0<c.den)(h1:cv b a=false)(h2:cv b c=true):cv c a=false:=by
 unfold cv at*
 simp only[decide_eq_false_iff_not,decide_eq_true_eq,Int.not_lt] at*
 have k1:a.num*b.den*c.den<=b.num*a.den*c.den:=Int.mul_le_mul_of_nonneg_right h1 (by omega)
 have g:b.num*c.den*a.den<c.num*b.den*a.den:=Int.mul_lt_mul_of_pos_right h2 d
 have e:b.den*(a.num*c.den)<b.den*(c.num*a.den):=by
  have e1:b.den*(a.num*c.den)=a.num*b.den*c.den:=by grind
  have e2:b.den*(c.num*a.den)=c.num*b.den*a.den:=by grind
  have h:b.num*a.den*c.den=b.num*c.den*a.den:=by grind
  omega
 exact Int.le_of_lt (Int.lt_of_mul_lt_mul_left e (by omega))
theorem u5 (a:ak):cv a a=false:=by unfold cv;simp
def u6 (u:an)(s:aP)(aG:Int)(e:ak):ak:=bA (s.high*e.den*(aG+s.back)+(e.num - s.high*e.den)*(u.bF+s.back)) (e.den*(aG+s.back)).toNat
def dg (u:an)(x:b7):ak:=match jS u x.place with
 |some r=>bA (r.num+x.cX*r.den) r.den.toNat
 |none=>⟨0,0⟩
def dY (u:an)(s:aP)(x:b7):ak:=u6 u s x.place (dg u x)
section
variable {u : an} {s : aP} (F : Fit u) (hs : (1 ≤ s.back ∧ s.back ≤ 20) ∧ 0 ≤ s.high ∧ s.high ≤ 60)
include F hs
theorem u7 {i:Nat}{x:b7}(p:u.props[i]?=some x):∃r,jS u x.place=some r/\lf u x.place=some r/\iA r ⟨x.cX,1⟩=some (dg u x)/\
  gz (IntKind.i64.wrap (r.num+IntKind.i64.wrap (x.cX*r.den))) r.den=some (dg u x)/\(∀at_,je u s at_ ⟨x.place,dg u x⟩=some ⟨⟨x.place,dg u x⟩,at_,dY u s x⟩)/\jj u s x.place (dg u x)=some (dY u s x)/\SR (dY u s x):=by
 obtain ⟨q,p2,p3⟩:=F.prop i x p
 obtain ⟨a,z,h,j,k,D⟩:=zd u F x.place
 rw[q] at k
 have hb:bC x.place a.aG z.aG=true:=(Option.some.inj k).symm
 unfold bC at hb
 simp only[Bool.and_eq_true,decide_eq_true_eq] at hb
 have E:=F.mH _ a h
 have G:=F.mH _ z j
 have H:=F.bF
 obtain ⟨r,h1,h2,h3⟩:=y9 u F x.place a z h j hb.1 hb.2
 have sh:Sm (⟨x.cX,1⟩:ak) 20 1:=⟨by show x.cX.natAbs<=20;omega,by show (0:Int)<1;omega,by show (1:Int)<=((1:Nat):Int);omega⟩
 have I:(x.cX*r.den).natAbs<=20*60:=dM (by omega) (by have:=h3.den;omega)
 obtain ⟨d,hd⟩:∃d:Nat,r.den=d:=⟨r.den.toNat,by have:=h3.den;omega⟩
 have l:0<d:=by have:=h3.den;omega
 have J:d<=60:=by have:=h3.den;omega
 have K:=h3.num
 have g:dg u x=bA (r.num+x.cX*r.den) d:=by
  unfold dg
  rw[h1]
  simp only
  rw[hd,Int.toNat_natCast]
 have b:Sm (dg u x) 10000 100:=by
  rw[g]
  have:=jq (r.num+x.cX*r.den) d l
  exact ⟨Nat.le_trans this.num (by omega),this.den.1,by have:=this.den.2;omega⟩
 have t:=qP h3 sh (by decide) (by decide)
 have m:=oF (r.num+x.cX*r.den) d (by omega) l (by omega)
 have o:∀at_,je u s at_ ⟨x.place,dg u x⟩=some ⟨⟨x.place,dg u x⟩,at_,dY u s x⟩/\jj u s x.place (dg u x)=some (dY u s x):=fun at_=>by
  obtain ⟨c,c1,c2,c3⟩:=zf u F s hs at_ x.place ⟨by omega,by omega⟩ (dg u x) b
  subst c3
  exact ⟨c1,c2⟩
 refine ⟨r,h1,h2,?_,?_,fun at_=>(o at_).1,(o 0).2,?_⟩
 ·rw[t,g]
  show some (bA (r.num*1+x.cX*r.den) (r.den*1).toNat)=_
  rw[Int.mul_one,Int.mul_one,hd,Int.toNat_natCast]
 ·rw[dN (n:=x.cX*r.den) (by omega),dN (by omega),g]
  rw[hd] at m ⊢
  exact m
 ·unfold dY u6
  obtain ⟨f,v⟩:∃f:Nat,x.place+s.back=f:=⟨(x.place+s.back).toNat,by omega⟩
  obtain ⟨e,w⟩:∃n:Nat,(dg u x).den=n:=⟨(dg u x).den.toNat,by have:=b.den;omega⟩
  have y:0<e:=by have:=b.den;omega
  have A:e<=100:=by have:=b.den;omega
  have L:=b.num
  have B:(s.high*(dg u x).den).natAbs<=60*100:=dM (by omega) (by omega)
  have b2:(s.high*(dg u x).den*(x.place+s.back)).natAbs<=6000*80:=dM B (by omega)
  have b3:(((dg u x).num - s.high*(dg u x).den)*(u.bF+s.back)).natAbs<=16000*80:=dM (by omega) (by omega)
  have C:((dg u x).den*(x.place+s.back)).toNat=e*f:=by rw[w,v,<-Int.natCast_mul,Int.toNat_natCast]
  rw[C]
  have:=jq (s.high*(dg u x).den*(x.place+s.back)+((dg u x).num - s.high*(dg u x).den)*(u.bF+s.back)) (e*f) (Nat.mul_pos y (by omega))
  have M:e*f<=100*80:=Nat.mul_le_mul A (by omega)
  exact ⟨Nat.le_trans this.num (by omega),this.den.1,by have:=this.den.2;omega⟩
end
def same (x:b7)(e:ak)(y:bq):Bool:=(y.spot.aG==x.place)&&((y.spot.high.num==e.num)&&(y.spot.high.den==e.den))
def gT (u:an)(s:aP)(i:Nat)(x:b7)(st:List bq):List bq:=cond (st.any (same x (dg u x))) st (st++[⟨⟨x.place,dg u x⟩,(i:Int),dY u s x⟩])
def c7 (a b:ak):ak:=cond (cv a b) b a
def gM (u:an)(s:aP)(i:Nat)(x:b7)(b:ak):ak:=if i=0 then dY u s x else c7 b (dY u s x)
theorem zq (x:b7)(e:ak):∀(l:List bq) (i:Nat),bB (n8 x e) i l ()=some (cond (l.any (same x e)) (.br 1 ()) (.nx ()):Fl Unit (List bq))
 |[],i=>rfl
 |y::l,i=>by
  unfold bB n8
  rw[show ((y.spot.aG==x.place)&&((y.spot.high.num==e.num)&&(y.spot.high.den==e.den)))=same x e y from rfl,List.any_cons]
  cases same x e y
  ·simp only[cond_false,ah,Bool.false_or]
   exact zq x e l (i+1)
  ·rfl
theorem u9 {a b:ak}(c:SR a)(hb:SR b):fA a b=some (c7 a b):=by
 unfold fA c7
 simp only[(lz c hb).1,ah]
 cases cv a b<;>rfl
theorem oI {a b:ak}(c:SR a)(hb:SR b):SR (c7 a b):=by unfold c7;cases cv a b;exact c;exact hb
def qS:List bq->ak
 |[]=>⟨0,0⟩
 |c::l=>(foldI gC 0 l c).high
theorem zu {α σ:Type}{g:Nat->α->σ->σ}:∀(l:List α) (i:Nat) (y:α) (s:σ),foldI g i (l++[y]) s=g (i+l.length) y (foldI g i l s)
 |[],i,y,s=>rfl
 |x::l,i,y,s=>by
  simp only[List.cons_append,foldI,List.length_cons]
  rw[zu l (i+1) y]
  congr 1
  omega
theorem Eb (c:bq)(l:List bq)(y:bq):qS (c::l++[y])=c7 (qS (c::l)) y.high:=by
 show (foldI gC 0 (l++[y]) c).high=_
 rw[zu]
 show (cond (cv (foldI gC 0 l c).high y.high) y (foldI gC 0 l c)).high=cond (cv (foldI gC 0 l c).high y.high) y.high (foldI gC 0 l c).high
 cases cv (foldI gC 0 l c).high y.high<;>rfl
structure Tp (u:an)(s:aP)(st:List bq)(b:ak):Prop where
 ne:st≠[]
 vb:b=qS st
 sm:SR b
 le:∀y∈st,cv b y.high=false/\SR y.high/\y.high=u6 u s y.spot.aG y.spot.high
theorem Tp.step {u:an}{s:aP}{st:List bq}{b:ak}(h:Tp u s st b){x:b7}(f:SR (dY u s x))(i:Nat):Tp u s (gT u s i x st) (c7 b (dY u s x)):=by
 unfold gT
 cases m:st.any (same x (dg u x)) with
 |true=>
  simp only[cond_true]
  obtain ⟨y,a,g⟩:=List.any_eq_true.1 m
  have d:=h.le y a
  have e:y.high=dY u s x:=by
   rw[d.2.2]
   unfold same at g
   simp only[Bool.and_eq_true,beq_iff_eq] at g
   obtain ⟨e1,e2,j⟩:=g
   unfold dY
   have:y.spot.high=dg u x:=by
    cases n:y.spot.high;cases o:dg u x
    rw[n,o] at e2 j
    simp only at e2 j
    rw[e2,j]
   rw[e1,this]
  have:c7 b (dY u s x)=b:=by
   unfold c7
   rw[<-e,d.1]
   rfl
  rw[this]
  exact h
 |false=>
  simp only[cond_false]
  obtain ⟨c,l,rfl⟩:∃c l,st=c::l:=by
   cases st with
   |nil=>exact absurd rfl h.ne
   |cons c l=>exact ⟨c,l,rfl⟩
  refine ⟨by simp,?_,oI h.sm f,fun y a=>?_⟩
  ·rw[Eb,<-h.vb]
  ·rcases List.mem_append.1 a with a|a
   ·have d:=h.le y a
    refine ⟨?_,d.2⟩
    unfold c7
    cases k:cv b (dY u s x) with
    |false=>exact d.1
    |true=>exact zp d.2.1.den.1 h.sm.den.1 f.den.1 d.1 k
   ·simp at a
    subst a
    refine ⟨?_,f,rfl⟩
    unfold c7
    cases k:cv b (dY u s x) with
    |false=>exact k
    |true=>exact u5 _
theorem Tp.fold {u:an}{s:aP}:∀(l:List b7) (i:Nat) (st:List bq) (b:ak),1<=i->(∀x∈l,SR (dY u s x))->Tp u s st b->Tp u s (foldI (gT u s) i l st) (foldI (gM u s) i l b)
 |[],_,_,_,_,_,h=>h
 |x::l,i,st,b,d,a,h=>by
  unfold foldI
  have e:gM u s i x b=c7 b (dY u s x):=if_neg (by omega)
  rw[e]
  exact Tp.fold l (i+1) _ _ (by omega) (fun y c=>a y (List.mem_cons_of_mem _ c)) (h.step (a x (List.mem_cons_self ..)) i)
theorem Tp.all {u:an}{s:aP}(x:b7)(l:List b7)(b:∀y∈x::l,SR (dY u s y)):Tp u s (foldI (gT u s) 0 (x::l) []) (foldI (gM u s) 0 (x::l) ⟨0,0⟩):=by
 unfold foldI
 have c:=b x (List.mem_cons_self ..)
 refine Tp.fold l 1 _ _ (Nat.le_refl _) (fun y a=>b y (List.mem_cons_of_mem _ a)) ⟨by simp[gT],?_,?_,?_⟩
 ·simp[gT,gM,qS,foldI]
 ·exact c
 ·intro y a
  simp[gT] at a
  subst a
  exact ⟨by simp[gM];exact u5 _,c,rfl⟩
end Go.Proofs.YtipgiooobncfbaaGreatDoor
end

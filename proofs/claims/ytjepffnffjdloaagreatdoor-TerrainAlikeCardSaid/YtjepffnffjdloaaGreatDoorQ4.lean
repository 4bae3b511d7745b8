/- A part of the proof of a row and its tied card: Q4. -/
import Derived.Test.YtjepffnffjdloaaGreatDoorQ3
set_option linter.all false
section
namespace Go.Proofs.YtjepffnffjdloaaGreatDoor
open Go Go.Sep Go.Proofs
set_option maxRecDepth 100000
set_option maxHeartbeats 4000000
def r7 (u0:aj):Option (aj×Int):=
 ah (hH u0 ([]:(List (aj->Option Int)))) fun a=>cond ((a.2 != 0)) (some ((⟨0,0,(⟨0,0⟩:ak),([]:(List bF)),([]:(List bH)),([]:(List bR)),([]:(List bP))⟩:aj),a.2)) (ah (vA u0.an) fun b=>ah (rT u0.props) fun c=>ah (rS u0.aF) fun d=>ah (rR u0.told) fun e=>some ((⟨u0.aQ,u0.aN,u0.aE,b,c,d,e⟩:aj),0))
theorem vT {ro:Addr->Option Value}(a6:cT ro)(u0:aj){s1 z B C:Value}(E:bG ro u0 s1 z B C){r:(aj×Int)}(h:r7 u0=some r):eu Tryz.prog 96 #[bv u0 s1 z B C] ro (fun v aL=>∃ao w1 w2 w3,v= .tuple #[bv r.1 ao w1 w2 w3,.int .i64 r.2]/\bG aL r.1 ao w1 w2 w3):=by
 unfold r7 at h
 have a7:=E.oc;simp only[bx] at a7
 refine aC.go Tryz.func96 rfl Tryz.ntmps96 Tryz.results96 (by simp) fun main J hJ A a8 hd hs=>?_
 have a9:=hs 0
 clear hs
 refine aa hJ (ag hJ ?_)
 simp only[*,go_sem]
 refine av fun a F ba=>?_;try simp only[au] at ba
 refine av fun b G bb=>?_;try simp only[au] at bb
 try simp only[*,go_sem]
 refine aa hJ (aa hJ (ag hJ ?_))
 revert h;refine bS fun c bc h=>?_
 simp only[*,go_sem]
 refine b8 hJ _ (js a6 u0 E ([]:(List (aj->Option Int))) (aA.nil _ _) bc) fun v U ae al bd=>?_
 obtain ⟨d,f,g,i,j,rfl,bj,bl⟩:=bd
 have bm:=bj.oc;simp only[bx] at bm
 have bo:=bl.oc;simp only[bx] at bo
 replace E:=E.mono ae
 replace G:=al.hd
 replace F:=al.tl.hd
 simp only[bn] at al
 refine aD ?_
 try simp only[*,go_sem]
 refine av fun k K br=>?_;try simp only[au] at br
 try simp only[*,go_sem]
 refine aa hJ (ag hJ ?_)
 simp only[*,go_sem]
 revert h;refine jC hJ (by simp only[*,go_sem]) (fun bs h=>?_) fun bs h=>?_
 ·obtain rfl:=sI h
  refine aa hJ (ag hJ ?_)
  simp only[*,go_sem]
  refine aB ?_
  simp only[*,go_sem]
  exact ⟨_,ae,Le.sub (List.nil_sublist _),_,_,_,_,rfl,⟨aA.nil _ _,aA.nil _ _,aA.nil _ _,aA.nil _ _⟩⟩
 refine aG hJ (aa hJ ?_)
 refine aK hJ fun cS=>?_
 refine gq hJ mixed [13,14,15,16,17,18,19] (.pure 0 (.rd 1 (.pure 3 (.rd 4 (.pure 6 (.rd 7 (.pure 9 (.rd 10 (.one 2 (.pure 12 (.one 5 (.one 8 (.one 11 (.last 13 (.pure 14 (.last 15 (.pure 16 (.last 17 (.pure 18 (.last 19 .done)))))))))))))))))))) ⟨U,[(k,kn c.1 d f g i j),(b,bz 29),(a,bk u0 s1 z B C)]⟩ (by simp only[*,go_sem]) (by kernel_rfl) ?_
 revert h;refine bS fun m b0 h=>?_
 simp only[*,go_sem]
 refine gr hJ (aS:=[]) [(k,kn c.1 d f g i j),(b,bz 29),(a,bk u0 s1 z B C)] [] _ (FD u0.an E.e b0) (fun c0 L ar M N da=>?_)
 simp only[List.append_nil,List.cons_append,List.nil_append,List.append_assoc] at N
 subst M
 obtain ⟨d158,n,rfl,db⟩:=ar.len
 refine ⟨⟨U,(k,kn c.1 d f g i j)::(b,bz 29)::(a,bk u0 s1 z B C)::L⟩,Le.refl _,?_⟩
 refine ⟨by simp only[*,go_sem],bQ ?_⟩
 revert h;refine bS fun o b1 h=>?_
 try simp only[*,go_sem]
 refine gr hJ (aS:=[]) [(k,kn c.1 d f g i j),(b,bz 29),(a,bk u0 s1 z B C)] L _ (Al u0.props E.p b1) (fun dd O V M N df=>?_)
 simp only[List.append_nil,List.cons_append,List.nil_append,List.append_assoc] at N
 subst M
 obtain ⟨d168,q,rfl,dk⟩:=V.len
 refine ⟨⟨U,(k,kn c.1 d f g i j)::(b,bz 29)::(a,bk u0 s1 z B C)::(O++L)⟩,Le.refl _,?_⟩
 refine ⟨by simp only[*,go_sem],bQ ?_⟩
 revert h;refine bS fun s b2 h=>?_
 try simp only[*,go_sem]
 refine gr hJ (aS:=[]) [(k,kn c.1 d f g i j),(b,bz 29),(a,bk u0 s1 z B C)] (O++L) _ (Ak u0.aF E.y b2) (fun dp P H M N dq=>?_)
 simp only[List.append_nil,List.cons_append,List.nil_append,List.append_assoc] at N
 subst M
 obtain ⟨d178,u,rfl,ds⟩:=H.len
 refine ⟨⟨U,(k,kn c.1 d f g i j)::(b,bz 29)::(a,bk u0 s1 z B C)::(P++(O++L))⟩,Le.refl _,?_⟩
 refine ⟨by simp only[*,go_sem],bQ ?_⟩
 revert h;refine bS fun w b3 h=>?_
 obtain rfl:=sI h
 try simp only[*,go_sem]
 refine gr hJ (aS:=[]) [(k,kn c.1 d f g i j),(b,bz 29),(a,bk u0 s1 z B C)] (P++(O++L)) _ (vz u0.told E.t b3) (fun dt Q D M N du=>?_)
 simp only[List.append_nil,List.cons_append,List.nil_append,List.append_assoc] at N
 subst M
 obtain ⟨d188,x,rfl,dv⟩:=D.len
 refine ⟨⟨U,(k,kn c.1 d f g i j)::(b,bz 29)::(a,bk u0 s1 z B C)::(Q++(P++(O++L)))⟩,Le.refl _,?_⟩
 refine ⟨by simp only[*,go_sem],bQ ?_⟩
 try simp only[*,go_sem]
 refine aa hJ ?_
 refine ew [1,2,3] fun dC b4 b5 ca=>?_
 simp only[*,go_sem] at b4 b5 ca
 clear a8 hd a9
 refine aK hJ fun dE=>?_
 refine ag hJ ?_
 simp only[*,go_sem]
 refine aK hJ fun a0=>?_
 obtain ⟨dT,X,R,I,cb⟩:=ar.g7 ((k,kn c.1 d f g i j)::(b,bk u0 (sl d158 m n) (sl d168 o q) (sl d178 s u) (sl d188 w x))::(a,bk u0 (sl d158 m n) (sl d168 o q) (sl d178 s u) (sl d188 w x))::(Q++(P++O))) ((k,kn c.1 d f g i j)::(b,bk u0 (sl d158 m n) (sl d168 o q) (sl d178 s u) (sl d188 w x))::(a,bk u0 (sl d158 m n) (sl d168 o q) (sl d178 s u) (sl d188 w x))::(Q++(P++O))) [] (by first|rfl|simp only[List.append_nil,List.cons_append,List.nil_append,List.append_assoc]|(simp only[List.append_nil,List.cons_append,List.nil_append,List.append_assoc];rfl)) (by first|rfl|simp only[List.append_nil,List.cons_append,List.nil_append,List.append_assoc]|(simp only[List.append_nil,List.cons_append,List.nil_append,List.append_assoc];rfl)) a0 (ay.cons K (ay.cons G (ay.cons F (ay.app D.g8 (ay.app H.g8 (V.g8))))))
 clear a0
 refine cu hJ cb ?_
 obtain ⟨ea,eb,-⟩:=I.op
 replace K:=R.hd
 replace G:=R.tl.hd
 replace F:=R.tl.tl.hd
 replace D:=D.mono X R.tl.tl.tl.l
 replace H:=H.mono X R.tl.tl.tl.r.l
 replace V:=V.mono X R.tl.tl.tl.r.r
 simp only[bn] at R
 refine aK hJ fun a2=>?_
 obtain ⟨ec,Y,S,T,cd⟩:=V.g7 ((k,kn c.1 d f g i j)::(b,bk u0 (sl d158 m n) (sl d168 o q) (sl d178 s u) (sl d188 w x))::(a,bk u0 (sl d158 m n) (sl d168 o q) (sl d178 s u) (sl d188 w x))::(Q++P)) ((k,kn c.1 d f g i j)::(b,bk u0 (sl d158 m n) (sl d168 o q) (sl d178 s u) (sl d188 w x))::(a,bk u0 (sl d158 m n) (sl d168 o q) (sl d178 s u) (sl d188 w x))::(Q++P)) [] (by first|rfl|simp only[List.append_nil,List.cons_append,List.nil_append,List.append_assoc]|(simp only[List.append_nil,List.cons_append,List.nil_append,List.append_assoc];rfl)) (by first|rfl|simp only[List.append_nil,List.cons_append,List.nil_append,List.append_assoc]|(simp only[List.append_nil,List.cons_append,List.nil_append,List.append_assoc];rfl)) a2 (ay.cons K (ay.cons G (ay.cons F (ay.app D.g8 (H.g8)))))
 clear a2
 refine cu hJ cd ?_
 obtain ⟨ed,eh,-⟩:=T.op
 replace I:=I.mono Y
 replace K:=S.hd
 replace G:=S.tl.hd
 replace F:=S.tl.tl.hd
 replace D:=D.mono Y S.tl.tl.tl.l
 replace H:=H.mono Y S.tl.tl.tl.r
 simp only[bn] at S
 refine aK hJ fun a3=>?_
 obtain ⟨et,Z,W,ab,cf⟩:=H.g7 ((k,kn c.1 d f g i j)::(b,bk u0 (sl d158 m n) (sl d168 o q) (sl d178 s u) (sl d188 w x))::(a,bk u0 (sl d158 m n) (sl d168 o q) (sl d178 s u) (sl d188 w x))::Q) ((k,kn c.1 d f g i j)::(b,bk u0 (sl d158 m n) (sl d168 o q) (sl d178 s u) (sl d188 w x))::(a,bk u0 (sl d158 m n) (sl d168 o q) (sl d178 s u) (sl d188 w x))::Q) [] (by first|rfl|simp only[List.append_nil,List.cons_append,List.nil_append,List.append_assoc]|(simp only[List.append_nil,List.cons_append,List.nil_append,List.append_assoc];rfl)) (by first|rfl|simp only[List.append_nil,List.cons_append,List.nil_append,List.append_assoc]|(simp only[List.append_nil,List.cons_append,List.nil_append,List.append_assoc];rfl)) a3 (ay.cons K (ay.cons G (ay.cons F (D.g8))))
 clear a3
 refine cu hJ cf ?_
 obtain ⟨ev,eQ,-⟩:=ab.op
 replace I:=I.mono Z
 replace T:=T.mono Z
 replace K:=W.hd
 replace G:=W.tl.hd
 replace F:=W.tl.tl.hd
 replace D:=D.mono Z W.tl.tl.tl
 simp only[bn] at W
 refine aK hJ fun a4=>?_
 obtain ⟨eS,ad,cl,a5,cy⟩:=D.g7 ((k,kn c.1 d f g i j)::(b,bk u0 (sl d158 m n) (sl d168 o q) (sl d178 s u) (sl d188 w x))::(a,bk u0 (sl d158 m n) (sl d168 o q) (sl d178 s u) (sl d188 w x))::[]) [(k,kn c.1 d f g i j),(b,bk u0 (sl d158 m n) (sl d168 o q) (sl d178 s u) (sl d188 w x)),(a,bk u0 (sl d158 m n) (sl d168 o q) (sl d178 s u) (sl d188 w x))] [] (by first|rfl|simp only[List.append_nil,List.cons_append,List.nil_append,List.append_assoc]|(simp only[List.append_nil,List.cons_append,List.nil_append,List.append_assoc];rfl)) (by first|rfl|simp only[List.append_nil,List.cons_append,List.nil_append,List.append_assoc]|(simp only[List.append_nil,List.cons_append,List.nil_append,List.append_assoc];rfl)) a4 (ay.cons K (ay.cons G (ay.cons F (ay.nil _))))
 clear a4
 refine cu hJ cy ?_
 obtain ⟨e0,e1,-⟩:=a5.op
 replace I:=I.mono ad
 replace T:=T.mono ad
 replace ab:=ab.mono ad
 simp only[bn] at cl
 refine aB ?_
 simp only[*,go_sem]
 exact ⟨_,((((ae).trans X).trans Y).trans Z).trans ad,Le.sub (List.nil_sublist _),_,_,_,_,rfl,⟨I,T,ab,a5⟩⟩
def vU (u0:Int)(a:Int):Option Int:=
 ah (ny u0) fun c=>ah (ny a) fun b=>cond (c) (cond (b) (some 0) (some (-1))) (cond (b) (some 1) (cond (decide (u0<a)) (some (-1)) (cond (decide (a<u0)) (some 1) (some 0))))
theorem FQ {ro:Addr->Option Value}(u0:Int)(a:Int){r:Int}(h:vU u0 a=some r):aC Tryz.prog 106 #[.int .i64 u0,.int .i64 a] ⟨ro,[]⟩ (fun v _=>v= .int .i64 r):=by
 unfold vU at h
 refine aC.go Tryz.func106 rfl Tryz.ntmps106 Tryz.results106 (by simp) fun main J hJ A j hd hs=>?_
 have k:=hs 0
 have k1:=hs 1
 clear hs
 refine aa hJ (ag hJ ?_)
 simp only[*,go_sem]
 refine aa hJ (ag hJ ?_)
 revert h;refine bS fun l b h=>?_
 simp only[*,go_sem]
 refine aR hJ _ (r5 u0 b) (aD ?_)
 try simp only[*,go_sem]
 refine aa hJ (ag hJ ?_)
 revert h;refine bS fun m c h=>?_
 simp only[*,go_sem]
 refine aR hJ _ (r5 a c) (aD ?_)
 try simp only[*,go_sem]
 refine aa hJ (aa hJ (ag hJ ?_))
 simp only[*,go_sem]
 revert h;refine jC hJ (by simp only[*,go_sem]) (fun d h=>?_) fun d h=>?_
 ·refine aa hJ (aa hJ (ag hJ ?_))
  simp only[*,go_sem]
  revert h;refine jC hJ (by simp only[*,go_sem]) (fun e h=>?_) fun e h=>?_
  ·obtain rfl:=sI h
   refine aa hJ (ag hJ ?_)
   simp only[*,go_sem]
   refine aB ?_
   simp only[*,go_sem]
  obtain rfl:=sI h
  refine aG hJ (aa hJ ?_)
  refine ag hJ ?_
  simp only[*,go_sem]
  refine aB ?_
  simp only[*,go_sem]
 refine aG hJ (aa hJ ?_)
 refine aa hJ (ag hJ ?_)
 simp only[*,go_sem]
 revert h;refine jC hJ (by simp only[*,go_sem]) (fun f h=>?_) fun f h=>?_
 ·obtain rfl:=sI h
  refine aa hJ (ag hJ ?_)
  simp only[*,go_sem]
  refine aB ?_
  simp only[*,go_sem]
 refine aG hJ (aa hJ ?_)
 refine aa hJ (ag hJ ?_)
 simp only[*,go_sem]
 revert h;refine jC hJ (by simp only[*,go_sem]) (fun g h=>?_) fun g h=>?_
 ·obtain rfl:=sI h
  refine aa hJ (ag hJ ?_)
  simp only[*,go_sem]
  refine aB ?_
  simp only[*,go_sem]
 refine aG hJ (aa hJ ?_)
 refine aa hJ (ag hJ ?_)
 simp only[*,go_sem]
 revert h;refine jC hJ (by simp only[*,go_sem]) (fun i h=>?_) fun i h=>?_
 ·obtain rfl:=sI h
  refine aa hJ (ag hJ ?_)
  simp only[*,go_sem]
  refine aB ?_
  simp only[*,go_sem]
 obtain rfl:=sI h
 refine aG hJ (aa hJ ?_)
 refine ag hJ ?_
 simp only[*,go_sem]
 refine aB ?_
 simp only[*,go_sem]
def vV (a:(List Int))(i16:Nat)(c:Int)(st:Int):Option (Fl Int Int):=
 cond (decide ((a.length:Int)<=(i16:Int))) (some (.rt 1)) (ah (bK a (i16:Int)) fun d=>ah (vU c d) fun b=>cond ((b != 0)) (some (.rt b)) (some (.nx st)))
def vW (u0:(List Int))(a:(List Int)):Option Int:=
 ah (bE (vV a) 0 u0 0) fun o=>aO o (fun b=>cond (decide ((u0.length:Int)<(a.length:Int))) (some (-1)) (some 0)) (fun _ _=>none) (fun r=>some r)
theorem FR {ro:Addr->Option Value}(u0:(List Int)){s1:Value}(g:aA rI ro s1 u0)(d:(List Int)){i:Value}(j:aA rI ro i d){r:Int}(h:vW u0 d=some r):aC Tryz.prog 73 #[s1,i] ⟨ro,[]⟩ (fun v _=>v= .int .i64 r):=by
 obtain ⟨d3,c4,rfl,T,u,-⟩:=id g
 obtain ⟨d10,U,rfl,V,W,-⟩:=id j
 unfold vW at h
 refine aC.go Tryz.func73 rfl Tryz.ntmps73 Tryz.results73 (by simp) fun main J hJ A w hd hs=>?_
 have y:=hs 0
 have k1:=hs 1
 clear hs
 refine aa hJ (ag hJ ?_)
 simp only[*,go_sem]
 refine aa hJ (aa hJ (ag hJ ?_))
 simp only[*,go_sem]
 refine aY hJ ?_
 revert h;refine bS fun z a e=>?_
 refine cc hJ [4,5,6,7,8,11,12,13,14,15,16,17,18,19,20,21,22,23,24,25,26,27,28,29,30] (fun m a' F'=>∃(i16:Nat) (c:Int),m=u0.length - i16/\i16<=u0.length/\bE (vV d) i16 (u0.drop i16) c=some z/\F'=⟨ro,[]⟩/\slot a' 11= .int .i64 (i16:Int)/\slot a' 4= .int .i64 c) u0.length ?_ ?_
 ·refine ⟨0,0,(Nat.sub_zero _).symm,Nat.zero_le _,a,rfl,?_⟩
  simp only[*,go_sem]
 rintro X Y F' k ⟨i16,c,rfl,Z,a,rfl,ab,ad⟩
 obtain ⟨B,C,D⟩:=k.pick [0,1,9,10] (by decide)
 simp only[*,go_sem] at B C D
 clear k w hd y k1
 refine aa hJ (ag hJ ?_)
 simp only[*,go_sem]
 refine aa hJ ?_
 rcases Nat.lt_or_ge i16 u0.length with E|l
 ·refine bM hJ (by simp only[*,go_sem]) ?_
  refine aG hJ ?_
  obtain ⟨o,f⟩:∃x,u0[i16]?=some x:=⟨_,List.getElem?_eq_getElem E⟩
  rw[c7 f] at a
  revert a;refine bS fun ae h b=>?_
  unfold vV at h
  try dsimp only at h
  obtain ⟨al,F,G,H,p⟩:=g.el _ _ f
  obtain rfl:F=[.int .i64 o]:=H
  cases G
  have I:=p 0 _ rfl;simp only[go_sem] at I
  clear p f
  refine aa hJ (aY hJ (aa hJ ?_))
  refine ag hJ ?_
  simp only[*,go_sem]
  refine aa hJ (aa hJ (ag hJ ?_))
  simp only[*,go_sem]
  revert h;refine jC hJ (by simp only[*,go_sem]) (fun K h=>?_) fun K h=>?_
  ·obtain rfl:=sI h
   refine aa hJ (ag hJ ?_)
   simp only[*,go_sem]
   obtain rfl:=sI b;clear b
   have h:=e
   dsimp only[aO] at h
   obtain rfl:=sI h
   refine aB ?_
   simp only[*,go_sem]
  refine aG hJ (aa hJ ?_)
  refine ag hJ ?_
  revert h;refine bS fun q L h=>?_
  obtain ⟨ao,ar,s⟩:=cM L
  obtain ⟨a0,M,N,O,t⟩:=j.el _ _ s
  obtain rfl:M=[.int .i64 q]:=O
  cases N
  have P:=t 0 _ rfl;simp only[go_sem] at P
  clear t s
  try simp only[*,go_sem]
  refine aa hJ (ag hJ ?_)
  revert h;refine bS fun a2 Q h=>?_
  simp only[*,go_sem]
  refine aR hJ _ (FQ o q Q) (aD ?_)
  try simp only[*,go_sem]
  refine aa hJ (ag hJ ?_)
  simp only[*,go_sem]
  revert h;refine jC hJ (by simp only[*,go_sem]) (fun R h=>?_) fun R h=>?_
  ·obtain rfl:=sI h
   refine aa hJ (ag hJ ?_)
   simp only[*,go_sem]
   obtain rfl:=sI b;clear b
   have h:=e
   dsimp only[aO] at h
   obtain rfl:=sI h
   refine aB ?_
   simp only[*,go_sem]
  obtain rfl:=sI h
  refine aG hJ ?_
  have a3:=cq (n:=i16) (by have:=u;omega)
  refine ag hJ ?_
  simp only[*,go_sem]
  refine ⟨u0.length - (i16+1),by omega,_,Le.sub (List.Sublist.refl _),i16+1,c,rfl,by omega,b,rfl,?_⟩
  simp only[*,go_sem]
 have a4:=Nat.not_lt.2 l
 refine bJ hJ (by simp only[*,go_sem]) ?_
 rw[List.drop_eq_nil_of_le l] at a
 obtain rfl:=sI a;clear a
 have h:=e
 dsimp only[aO] at h
 refine b7 ?_
 simp only[go_sem]
 refine aa hJ (aa hJ (ag hJ ?_))
 simp only[*,go_sem]
 revert h;refine jC hJ (by simp only[*,go_sem]) (fun S h=>?_) fun S h=>?_
 ·obtain rfl:=sI h
  refine aa hJ (ag hJ ?_)
  simp only[*,go_sem]
  refine aB ?_
  simp only[*,go_sem]
 obtain rfl:=sI h
 refine aG hJ (aa hJ ?_)
 refine ag hJ ?_
 simp only[*,go_sem]
 refine aB ?_
 simp only[*,go_sem]
def r8 (u0:(List Int))(a:(List Int)):Option Bool:=
 cond (decide ((a.length:Int)<(u0.length:Int))) (some true) (cond (((a.length:Int)==(u0.length:Int))) (ah (vW a u0) fun b=>some (decide (b<0))) (some false))
theorem FT {ro:Addr->Option Value}(u0:(List Int)){s1:Value}(d:aA rI ro s1 u0)(a:(List Int)){e:Value}(f:aA rI ro e a){r:Bool}(h:r8 u0 a=some r):aC Tryz.prog 72 #[s1,e] ⟨ro,[]⟩ (fun v _=>v= .bool r):=by
 obtain ⟨d3,c4,rfl,i,j,-⟩:=id d
 obtain ⟨d10,k,rfl,l,m,-⟩:=id f
 unfold r8 at h
 refine aC.go Tryz.func72 rfl Tryz.ntmps72 Tryz.results72 (by simp) fun main J hJ A n hd hs=>?_
 have o:=hs 0
 have k1:=hs 1
 clear hs
 refine aa hJ (ag hJ ?_)
 simp only[*,go_sem]
 refine aa hJ (ag hJ ?_)
 revert h;refine cS (fun b h=>?_) fun b h=>?_
 ·obtain rfl:=sI h
  try simp only[Int.ofNat_lt] at b
  try simp only[*,go_sem]
  refine aB ?_
  simp only[*,go_sem]
 try simp only[Int.ofNat_lt] at b
 revert h;refine cS (fun c h=>?_) fun c h=>?_
 ·try simp only[Int.ofNat_lt] at c
  revert h;refine bS fun p g h=>?_
  obtain rfl:=sI h
  try simp only[*,go_sem]
  refine aR hJ _ (FR a (f.mono aJ) u0 (d.mono aJ) g) (aD ?_)
  try simp only[*,go_sem]
  refine aB ?_
  simp only[*,go_sem]
 obtain rfl:=sI h
 try simp only[Int.ofNat_lt] at c
 try simp only[*,go_sem]
 refine aB ?_
 simp only[*,go_sem]
def r9 (u0:aj)(b:Int):Option (Int×Int):=
 ah (hH u0 ([(e7 b)])) fun a=>cond ((a.2 != 0)) (some (0,a.2)) (ah (rM a.1 (fun c=>rO c a.1 b)) fun d=>some (d,0))
theorem Ar {ro:Addr->Option Value}(j:cT ro)(u0:aj){s1 k l m:Value}(i:bG ro u0 s1 k l m)(c:Int){r:(Int×Int)}(h:r9 u0 c=some r):aC Tryz.prog 44 #[bv u0 s1 k l m,.int .i64 c] ⟨ro,[]⟩ (fun v _=>v= .tuple #[.int .i64 r.1,.int .i64 r.2]):=by
 unfold r9 at h
 have G:=i.oc;simp only[bx] at G
 refine aC.go Tryz.func44 rfl Tryz.ntmps44 Tryz.results44 (by simp) fun main J hJ A ae hd hs=>?_
 have al:=hs 0
 have k1:=hs 1
 clear hs
 refine aa hJ (ag hJ ?_)
 simp only[*,go_sem]
 refine av fun H I K=>?_;try simp only[au] at K
 refine av fun u L M=>?_;try simp only[au] at M
 try simp only[*,go_sem]
 refine aa hJ ?_
 refine aK hJ fun N=>?_
 refine ag hJ ?_
 revert h;refine bS fun n O h=>?_
 simp only[*,go_sem]
 refine av fun f w z=>?_;have B:=aM.cons z N;try simp only[au] at z
 try simp only[*,go_sem]
 obtain ⟨q,C,D⟩:=eV (b:=f) (o:=(.cells #[.func (.func 77) #[.int .i64 c] #[]] 102)) [] ((u,ic c)::(H,bk u0 s1 k l m)::[]) B w (ay.cons L (ay.cons I (ay.nil _)))
 have E:aA (cW) (bN ro f (.cells #[.func (.func 77) #[.int .i64 c] #[]] 102)) (.slice (some ⟨f,0,none⟩) 1 1) [(e7 c)]:=(aA.one (r:=(cW)) (e:=102) (cs:=#[.func (.func 77) #[.int .i64 c] #[]]) (x:=(e7 c)) (own:=[(f,.cells #[.func (.func 77) #[.int .i64 c] #[]] 102)]) w (by simp[lk]) ⟨77,#[.int .i64 c],#[],rfl,⟨by simp only[go_sem],fun P a g _ _ _ _ _ Q R S T h=>by simp only[go_sem];exact rq c g ⟨Q,R,S,T⟩ h⟩⟩)
 generalize bN ro f (.cells #[.func (.func 77) #[.int .i64 c] #[]] 102)=ao at E C q D
 refine fS hJ D ?_
 replace i:=i.mono q
 replace j:=j.mono q
 simp only[bn] at C
 have U:=aM.tl B
 refine b8 hJ _ (js j u0 i ([(e7 c)]) E O) fun v ar a0 V W=>?_
 obtain ⟨a2,a3,a4,a5,a6,rfl,d,s⟩:=W
 have X:=d.oc;simp only[bx] at X
 simp only[bn] at V
 obtain ⟨d41,a7,rfl,a8,a9,-⟩:=id d.e
 obtain ⟨d48,ba,rfl,bb,bc,-⟩:=id d.p
 obtain ⟨d55,bd,rfl,bj,bl,-⟩:=id d.y
 obtain ⟨d62,bm,rfl,bo,br,-⟩:=id d.t
 obtain ⟨d69,bs,rfl,bz,b0,-⟩:=id s
 refine aD ?_
 try simp only[*,go_sem]
 refine av fun Y b1 F=>?_;have b2:=aM.cons F U;try simp only[au] at F
 try simp only[*,go_sem]
 refine aa hJ (aa hJ (ag hJ ?_))
 simp only[*,go_sem]
 revert h;refine jC hJ (by simp only[*,go_sem]) (fun Z h=>?_) fun Z h=>?_
 ·obtain rfl:=sI h
  refine aa hJ (ag hJ ?_)
  simp only[*,go_sem]
  refine aB ?_
  simp only[*,go_sem]
 refine aG hJ (aa hJ ?_)
 refine ag hJ ?_
 revert h;refine bS fun b3 ab h=>?_
 obtain rfl:=sI h
 simp only[*,go_sem]
 refine aR hJ _ (Aj (dn:=83) (dQ:=#[]) (dR:=#[.pointer (some ⟨Y,0,none⟩),.pointer (some ⟨u,0,none⟩)]) n.1 (d.mono aJ) (s.mono aJ) (fun g=>rO g n.1 c) ⟨by simp only[go_sem],fun P a g b4 ad=>by simp only[go_sem];exact Fy g n.1 (a _ _ (by simp only[af.cr,go_sem, *])) (a _ _ (by simp only[af.cr,go_sem, *])) (a _ _ (by simp only[af.cr,go_sem, *])) (a _ _ (by simp only[af.cr,go_sem, *])) ((d.e.mono aJ).mono a) (a _ _ (by simp only[af.cr,go_sem, *])) ((d.p.mono aJ).mono a) (a _ _ (by simp only[af.cr,go_sem, *])) ((d.y.mono aJ).mono a) (a _ _ (by simp only[af.cr,go_sem, *])) ((d.t.mono aJ).mono a) (a _ _ (by simp only[af.cr,go_sem, *])) ((s.mono aJ).mono a) (a _ _ (by simp only[af.cr,go_sem, *])) c (a _ _ (by simp only[af.cr,go_sem, *])) ad⟩ ab) (aD ?_)
 try simp only[*,go_sem]
 refine aB ?_
 simp only[*,go_sem]
def pR (u0:aj):Option (Int×Int):=
 ah (hH u0 ([]:(List (aj->Option Int)))) fun a=>cond ((a.2 != 0)) (some (0,a.2)) (ah (rM a.1 (fun b=>rP b a.1)) fun c=>some (c,0))
theorem sd {ro:Addr->Option Value}(l:cT ro)(u0:aj){s1 g i j:Value}(k:bG ro u0 s1 g i j){r:(Int×Int)}(h:pR u0=some r):aC Tryz.prog 23 #[bv u0 s1 g i j] ⟨ro,[]⟩ (fun v _=>v= .tuple #[.int .i64 r.1,.int .i64 r.2]):=by
 unfold pR at h
 have m:=k.oc;simp only[bx] at m
 refine aC.go Tryz.func23 rfl Tryz.ntmps23 Tryz.results23 (by simp) fun main J hJ A D hd hs=>?_
 have E:=hs 0
 clear hs
 refine aa hJ (ag hJ ?_)
 simp only[*,go_sem]
 refine av fun F G n=>?_;try simp only[au] at n
 try simp only[*,go_sem]
 refine aa hJ (ag hJ ?_)
 revert h;refine bS fun c o h=>?_
 simp only[*,go_sem]
 refine b8 hJ _ (js l u0 k ([]:(List (aj->Option Int))) (aA.nil _ _) o) fun v H I q s=>?_
 obtain ⟨K,L,M,N,O,rfl,b,d⟩:=s
 have u:=b.oc;simp only[bx] at u
 simp only[bn] at q
 obtain ⟨d37,P,rfl,Q,R,-⟩:=id b.e
 obtain ⟨d44,S,rfl,T,U,-⟩:=id b.p
 obtain ⟨d51,V,rfl,W,X,-⟩:=id b.y
 obtain ⟨d58,Y,rfl,Z,ab,-⟩:=id b.t
 obtain ⟨d65,ad,rfl,ae,al,-⟩:=id d
 refine aD ?_
 try simp only[*,go_sem]
 refine av fun w ao x=>?_;try simp only[au] at x
 try simp only[*,go_sem]
 refine aa hJ (aa hJ (ag hJ ?_))
 simp only[*,go_sem]
 revert h;refine jC hJ (by simp only[*,go_sem]) (fun z h=>?_) fun z h=>?_
 ·obtain rfl:=sI h
  refine aa hJ (ag hJ ?_)
  simp only[*,go_sem]
  refine aB ?_
  simp only[*,go_sem]
 refine aG hJ (aa hJ ?_)
 refine ag hJ ?_
 revert h;refine bS fun ar B h=>?_
 obtain rfl:=sI h
 simp only[*,go_sem]
 refine aR hJ _ (Aj (dn:=68) (dQ:=#[]) (dR:=#[.pointer (some ⟨w,0,none⟩)]) c.1 (b.mono aJ) (d.mono aJ) (fun f=>rP f c.1) ⟨by simp only[go_sem],fun a0 a f a2 C=>by simp only[go_sem];exact Fz f c.1 (a _ _ (by simp only[af.cr,go_sem, *])) (a _ _ (by simp only[af.cr,go_sem, *])) (a _ _ (by simp only[af.cr,go_sem, *])) (a _ _ (by simp only[af.cr,go_sem, *])) ((b.e.mono aJ).mono a) (a _ _ (by simp only[af.cr,go_sem, *])) ((b.p.mono aJ).mono a) (a _ _ (by simp only[af.cr,go_sem, *])) ((b.y.mono aJ).mono a) (a _ _ (by simp only[af.cr,go_sem, *])) ((b.t.mono aJ).mono a) (a _ _ (by simp only[af.cr,go_sem, *])) ((d.mono aJ).mono a) (a _ _ (by simp only[af.cr,go_sem, *])) C⟩ B) (aD ?_)
 try simp only[*,go_sem]
 refine aB ?_
 simp only[*,go_sem]
def vX (a:(cR×Int))(i74:Nat)(i83:Nat)(b:aX)(st:Int):Option (Fl Int (Int×Int×Int)):=
 ah (aX.get b (i74:Int)) fun c=>ah (jq a.1.book (i74:Int) c) fun d=>ah (fU a.1.book d) fun e=>cond (e) (some (.nx (IntKind.i64.wrap (st+1)))) (some (.nx st))
def vY (b:(cR×Int))(i74:Nat)(c:bR)(st:(Int×Int)):Option (Fl (Int×Int) (Int×Int×Int)):=
 ah (bE (vX b i74) 0 b.1.all 0) fun o=>aO o (fun a=>cond (decide ((if a<IntKind.i64.wrap ((b.1.all.length:Int) - a) then IntKind.i64.wrap ((b.1.all.length:Int) - a) else a)<st.2)) (some (.nx ((i74:Int),(if a<IntKind.i64.wrap ((b.1.all.length:Int) - a) then IntKind.i64.wrap ((b.1.all.length:Int) - a) else a)))) (some (.nx (st.1,st.2)))) (fun _ _=>none) (fun r=>some (.rt r))
def vZ (u0:aj):Option (Int×Int×Int):=
 ah (hH u0 ([]:(List (aj->Option Int)))) fun a=>cond ((a.2 != 0)) (some (0,0,a.2)) (ah (bE (vY a) 0 a.1.book.aF ((-1),(a.1.all.length:Int))) fun o=>aO o (fun b=>some (b.1,b.2,0)) (fun _ _=>none) (fun r=>some r))
theorem FU {ro:Addr->Option Value}(U:cT ro)(u0:aj){s1 f g i:Value}(u:bG ro u0 s1 f g i){r:(Int×Int×Int)}(h:vZ u0=some r):aC Tryz.prog 36 #[bv u0 s1 f g i] ⟨ro,[]⟩ (fun v _=>v= .tuple #[.int .i64 r.1,.int .i64 r.2.1,.int .i64 r.2.2]):=by
 unfold vZ at h
 have V:=u.oc;simp only[bx] at V
 refine aC.go Tryz.func36 rfl Tryz.ntmps36 Tryz.results36 (by simp) fun main J hJ A W hd hs=>?_
 have X:=hs 0
 clear hs
 refine aa hJ (ag hJ ?_)
 simp only[*,go_sem]
 refine av fun w dp Y=>?_;try simp only[au] at Y
 try simp only[*,go_sem]
 refine aa hJ (ag hJ ?_)
 revert h;refine bS fun a Z h=>?_
 simp only[*,go_sem]
 refine b8 hJ _ (js U u0 u ([]:(List (aj->Option Int))) (aA.nil _ _) Z) fun v z dq ab ad=>?_
 obtain ⟨B,C,ds,D,dt,rfl,e,E⟩:=ad
 have ae:=e.oc;simp only[bx] at ae
 simp only[bn] at ab
 obtain ⟨d51,G,rfl,du,H,-⟩:=id e.y
 obtain ⟨d65,I,rfl,dv,K,-⟩:=id E
 refine aD ?_
 try simp only[*,go_sem]
 refine av fun L dC al=>?_;try simp only[au] at al
 try simp only[*,go_sem]
 refine aa hJ (aa hJ (ag hJ ?_))
 simp only[*,go_sem]
 revert h;refine jC hJ (by simp only[*,go_sem]) (fun ao h=>?_) fun ao h=>?_
 ·obtain rfl:=sI h
  refine aa hJ (ag hJ ?_)
  simp only[*,go_sem]
  refine aB ?_
  simp only[*,go_sem]
 refine aG hJ (aa hJ ?_)
 refine dh hJ mixed 5 2 (by simp only[*,go_sem]) (by kernel_rfl) ?_
 simp only[*,go_sem]
 refine aa hJ (aa hJ (ag hJ ?_))
 simp only[*,go_sem]
 refine aY hJ ?_
 revert h;refine bS fun ar c a0=>?_
 refine cc hJ [2,3,6,7,9,10,27,28,29,30,31,32,33,34,35,36,37,38,39,40,41,42,43,44,45,46,47,48,49,50,51,52,53,54,55,56,57,58,59,60,61,62] (fun m a' F'=>∃(i74:Nat) (j:Int) (k:Int),m=a.1.book.aF.length - i74/\i74<=a.1.book.aF.length/\bE (vY a) i74 (a.1.book.aF.drop i74) (j,k)=some ar/\F'=⟨z,(L,kn a.1 B C (sl d51 a.1.book.aF G) D (sl d65 a.1.all I))::(w,bk u0 s1 f g i)::[]⟩/\slot a' 27= .int .i64 (i74:Int)/\slot a' 2= .int .i64 j/\slot a' 3= .int .i64 k) a.1.book.aF.length ?_ ?_
 ·refine ⟨0,(-1),(a.1.all.length:Int),(Nat.sub_zero _).symm,Nat.zero_le _,c,rfl,?_⟩
  simp only[*,go_sem]
 rintro dE a2 F' M ⟨i74,j,k,rfl,dT,c,rfl,a3,a4,a5⟩
 obtain ⟨N,O,P⟩:=M.pick [4,5,26] (by decide)
 simp only[*,go_sem] at N O P
 clear M W hd X
 refine aa hJ (ag hJ ?_)
 simp only[*,go_sem]
 refine aa hJ ?_
 rcases Nat.lt_or_ge i74 a.1.book.aF.length with a6|Q
 ·refine bM hJ (by simp only[*,go_sem]) ?_
  refine aG hJ ?_
  obtain ⟨a7,p⟩:∃x,a.1.book.aF[i74]?=some x:=⟨_,List.getElem?_eq_getElem a6⟩
  rw[c7 p] at c
  revert c;refine bS fun ea h R=>?_
  unfold vY at h
  try dsimp only at h
  obtain ⟨a8,a9,ba,bb,l⟩:=e.y.el _ _ p
  obtain rfl:a9=a7.cells:=bb
  cases ba
  have bc:=l 0 _ rfl;simp only[go_sem] at bc
  have bd:=l 1 _ rfl;simp only[go_sem] at bd
  have bj:=l 2 _ rfl;simp only[go_sem] at bj
  clear l p
  refine aa hJ (aY hJ (aa hJ ?_))
  refine ag hJ ?_
  simp only[*,go_sem]
  refine aa hJ (ag hJ ?_)
  simp only[*,go_sem]
  refine aa hJ (aa hJ (ag hJ ?_))
  simp only[*,go_sem]
  refine aY hJ ?_
  revert h;refine bS fun bl d bm=>?_
  refine cc hJ [7,9,33,34,35,36,37,38,39,40,41,42,43,44,45,46,47,48,49] (fun m a' F'=>∃(i83:Nat) (b:Int),m=a.1.all.length - i83/\i83<=a.1.all.length/\bE (vX a i74) i83 (a.1.all.drop i83) b=some bl/\F'=⟨z,(L,kn a.1 B C (sl (some a8) a.1.book.aF G) D (sl d65 a.1.all I))::(w,bk u0 s1 f g i)::[]⟩/\slot a' 33= .int .i64 (i83:Int)/\slot a' 7= .int .i64 b) a.1.all.length ?_ ?_
  ·refine ⟨0,0,(Nat.sub_zero _).symm,Nat.zero_le _,d,rfl,?_⟩
   simp only[*,go_sem]
  rintro eb bo F' q ⟨i83,b,rfl,ec,d,rfl,ed,eh⟩
  obtain ⟨br,bs,bz⟩:=q.pick [2,3,4,5,6,26,27,28,29,30,31,32] (by decide)
  simp only[*,go_sem] at br bs bz
  have et:dD [2,3,6,7,9,10,27,28,29,30,31,32,33,34,35,36,37,38,39,40,41,42,43,44,45,46,47,48,49,50,51,52,53,54,55,56,57,58,59,60,61,62] bo a2:=(q.jg (by decide)).trans (by simp only[*,go_sem])
  clear q N O P a4 a5 a3
  refine aa hJ (ag hJ ?_)
  simp only[*,go_sem]
  refine aa hJ ?_
  rcases Nat.lt_or_ge i83 a.1.all.length with b0|S
  ·refine bM hJ (by simp only[*,go_sem]) ?_
   refine aG hJ ?_
   obtain ⟨b1,s⟩:∃x,a.1.all[i83]?=some x:=⟨_,List.getElem?_eq_getElem b0⟩
   rw[c7 s] at d
   revert d;refine bS fun ev h T=>?_
   unfold vX at h
   try dsimp only at h
   obtain ⟨eQ,b2,b3,b4,o⟩:=E.el _ _ s
   obtain rfl:b2=b1.cells:=b4
   cases b3
   have b5:=o 0 _ rfl;simp only[go_sem] at b5
   have ca:=o 1 _ rfl;simp only[go_sem] at ca
   have cb:=o 2 _ rfl;simp only[go_sem] at cb
   clear o s
   refine aa hJ (aY hJ (aa hJ ?_))
   refine ag hJ ?_
   simp only[*,go_sem]
   refine av fun eS e0 cd=>?_;try simp only[au] at cd
   try simp only[*,go_sem]
   refine aa hJ ?_
   refine dh hJ mixed 10 3 (by simp only[*,go_sem]) (by kernel_rfl) ?_
   revert h;refine bS fun cf cl h=>?_
   obtain ⟨e1,e2,cy⟩:=aX.get_some cl
   try simp only[go_sem] at cy
   revert h;refine bS fun cS c0 h=>?_
   try simp only[*,go_sem]
   refine ⟨_,bA hJ fun F t=>lZ a.1.book (e.mono (bX t)) (i74:Int) cf c0,bV ?_⟩
   revert h;refine bS fun e3 da h=>?_
   try simp only[*,go_sem]
   refine ⟨_,bA hJ fun F t=>mc a.1.book (e.mono (bX t)) cS da,?_⟩
   try simp only[*,go_sem]
   revert h;refine jC hJ (by simp only[*,go_sem]) (fun db h=>?_) fun db h=>?_
   ·obtain rfl:=sI h
    refine ag hJ ?_
    simp only[*,go_sem]
    have dd:=cq (n:=i83) (by have:=K;omega)
    refine ag hJ ?_
    simp only[*,go_sem]
    refine ⟨a.1.all.length - (i83+1),by omega,_,Le.sub (List.Sublist.cons _ (List.Sublist.refl _)),i83+1,(IntKind.i64.wrap (b+1)),rfl,by omega,T,rfl,?_⟩
    simp only[*,go_sem]
   obtain rfl:=sI h
   refine aG hJ ?_
   have dd:=cq (n:=i83) (by have:=K;omega)
   refine ag hJ ?_
   simp only[*,go_sem]
   refine ⟨a.1.all.length - (i83+1),by omega,_,Le.sub (List.Sublist.cons _ (List.Sublist.refl _)),i83+1,b,rfl,by omega,T,rfl,?_⟩
   simp only[*,go_sem]
  have fa:=Nat.not_lt.2 S
  refine bJ hJ (by simp only[*,go_sem]) ?_
  rw[List.drop_eq_nil_of_le S] at d
  obtain rfl:=sI d;clear d
  have h:=bm
  dsimp only[aO] at h
  refine b7 ?_
  simp only[go_sem]
  refine aa hJ (ag hJ ?_)
  simp only[*,go_sem]
  refine aa hJ (ag hJ ?_)
  simp only[*,go_sem]
  revert h;refine jC hJ (by simp only[*,go_sem]) (fun df h=>?_) fun df h=>?_
  ·obtain rfl:=sI h
   refine ag hJ ?_
   simp only[*,go_sem]
   have dk:=cq (n:=i74) (by have:=H;omega)
   refine ag hJ ?_
   simp only[*,go_sem]
   refine ⟨a.1.book.aF.length - (i74+1),by omega,_,Le.sub (List.Sublist.refl _),i74+1,(i74:Int),(if b<IntKind.i64.wrap ((a.1.all.length:Int) - b) then IntKind.i64.wrap ((a.1.all.length:Int) - b) else b),rfl,by omega,R,rfl,?_⟩
   simp only[*,go_sem]
  obtain rfl:=sI h
  refine aG hJ ?_
  have dk:=cq (n:=i74) (by have:=H;omega)
  refine ag hJ ?_
  simp only[*,go_sem]
  refine ⟨a.1.book.aF.length - (i74+1),by omega,_,Le.sub (List.Sublist.refl _),i74+1,j,k,rfl,by omega,R,rfl,?_⟩
  simp only[*,go_sem]
 have fb:=Nat.not_lt.2 Q
 refine bJ hJ (by simp only[*,go_sem]) ?_
 rw[List.drop_eq_nil_of_le Q] at c
 obtain rfl:=sI c;clear c
 have h:=a0
 dsimp only[aO] at h
 obtain rfl:=sI h
 refine b7 ?_
 simp only[go_sem]
 refine aa hJ (ag hJ ?_)
 simp only[*,go_sem]
 refine aB ?_
 simp only[*,go_sem]
def nB (u0:aj):Option Int:=
 cond (((u0.props.length:Int)==3)) (some 2) (some 0)
theorem FV {ro:Addr->Option Value}(u0:aj){s1 b c d:Value}(a:bG ro u0 s1 b c d){r:Int}(h:nB u0=some r):aC Tryz.prog 90 #[bv u0 s1 b c d] ⟨ro,[]⟩ (fun v _=>v= .int .i64 r):=by
 obtain ⟨d3,c4,rfl,i,j,-⟩:=id a.e
 obtain ⟨d10,k,rfl,l,m,-⟩:=id a.p
 obtain ⟨d17,n,rfl,o,q,-⟩:=id a.y
 obtain ⟨d24,s,rfl,u,w,-⟩:=id a.t
 unfold nB at h
 refine aC.go Tryz.func90 rfl Tryz.ntmps90 Tryz.results90 (by simp) fun main J hJ A x hd hs=>?_
 have z:=hs 0
 clear hs
 refine aa hJ (ag hJ ?_)
 simp only[*,go_sem]
 refine av fun B C f=>?_;try simp only[au] at f
 try simp only[*,go_sem]
 refine aa hJ (aa hJ (ag hJ ?_))
 simp only[*,go_sem]
 revert h;refine jC hJ (by simp only[*,go_sem]) (fun g h=>?_) fun g h=>?_
 ·obtain rfl:=sI h
  refine aa hJ (ag hJ ?_)
  simp only[*,go_sem]
  refine aB ?_
  simp only[*,go_sem]
 obtain rfl:=sI h
 refine aG hJ (aa hJ ?_)
 refine ag hJ ?_
 simp only[*,go_sem]
 refine aB ?_
 simp only[*,go_sem]
def se (u0:aj)(c:bP):Option (aj×Int):=
 ah (eF u0) fun a=>cond ((a != 0)) (some ((⟨0,0,(⟨0,0⟩:ak),([]:(List bF)),([]:(List bH)),([]:(List bR)),([]:(List bP))⟩:aj),a)) (ah (rR u0.told) fun d=>ah (cZ d ([c])) fun e=>ah (r7 (⟨u0.aQ,u0.aN,u0.aE,u0.an,u0.props,u0.aF,e⟩:aj)) fun b=>some (b.1,b.2))
theorem si {ro:Addr->Option Value}(k:cT ro)(u0:aj){s1 c d f:Value}(b:bG ro u0 s1 c d f)(a:bP){r:(aj×Int)}(h:se u0 a=some r):eu Tryz.prog 49 #[bv u0 s1 c d f,.agg #[.int .i64 a.aW,.bool a.bu]] ro (fun v aL=>∃L w1 w2 w3,v= .tuple #[bv r.1 L w1 w2 w3,.int .i64 r.2]/\bG aL r.1 L w1 w2 w3):=by
 unfold se at h
 refine aC.go Tryz.func49 rfl Tryz.ntmps49 Tryz.results49 (by simp) fun main J hJ A ca hd hs=>?_
 have cb:=hs 0
 have k1:=hs 1
 clear hs
 refine aa hJ (ag hJ ?_)
 simp only[*,go_sem]
 refine av fun g u ab=>?_;try simp only[au] at ab
 refine av fun i w ad=>?_;try simp only[au] at ad
 refine av fun j z ae=>?_;try simp only[au] at ae
 try simp only[*,go_sem]
 refine aa hJ (aa hJ (ag hJ ?_))
 revert h;refine bS fun cd al h=>?_
 simp only[*,go_sem]
 refine aR hJ _ (Ae (k.mono aJ) u0 (b.e.mono aJ) (b.p.mono aJ) (b.y.mono aJ) (b.t.mono aJ) al) (aD ?_)
 try simp only[*,go_sem]
 refine aa hJ (ag hJ ?_)
 simp only[*,go_sem]
 revert h;refine jC hJ (by simp only[*,go_sem]) (fun ao h=>?_) fun ao h=>?_
 ·obtain rfl:=sI h
  refine aa hJ (ag hJ ?_)
  simp only[*,go_sem]
  refine aB ?_
  simp only[*,go_sem]
  exact ⟨_,Ext.refl _,Le.sub (List.nil_sublist _),_,_,_,_,rfl,⟨aA.nil _ _,aA.nil _ _,aA.nil _ _,aA.nil _ _⟩⟩
 refine aG hJ (aa hJ ?_)
 refine aK hJ fun ar=>?_
 refine gq hJ mixed [7] (.pure 0 (.rd 1 (.rd 3 (.two 2 (.one 4 (.one 5 (.pure 6 (.last 7 .done)))) 4 (.one 2 (.one 5 (.pure 6 (.last 7 .done)))))))) ⟨ro,[(j,bz 29),(i,.cells #[.int .i64 a.aW,.bool a.bu] 91),(g,bk u0 s1 c d f)]⟩ (by simp only[*,go_sem]) (by kernel_rfl) ?_
 simp only[*,go_sem]
 refine jY ?_ ?_
 ·revert h;refine bS fun a0 a2 h=>?_
  simp only[*,go_sem]
  refine gr hJ (aS:=[]) [(j,bz 29),(i,.cells #[.int .i64 a.aW,.bool a.bu] 91),(g,bk u0 s1 c d f)] [] _ (vz u0.told b.t a2) (fun cf a3 M m n a4=>?_)
  simp only[List.append_nil,List.cons_append,List.nil_append,List.append_assoc] at n
  subst m
  obtain ⟨d174,cl,rfl,cy⟩:=M.len
  refine ⟨⟨ro,(j,bz 29)::(i,.cells #[.int .i64 a.aW,.bool a.bu] 91)::(g,bk u0 s1 c d f)::a3⟩,Le.refl _,?_⟩
  refine ⟨by simp only[*,go_sem],bQ ?_⟩
  revert h;refine bS fun N a5 h=>?_
  obtain ⟨a6,O⟩:=c5 a5
  try simp only[*,go_sem]
  refine av fun D P Q=>?_;have a7:=aM.cons Q a4;try simp only[au] at Q
  try simp only[*,go_sem]
  refine dF (r:=c8) (l:=a0) (x:=a) (cs:=#[.int .i64 a.aW,.bool a.bu]) (e2:=91) [(D,.cells #[.int .i64 a.aW,.bool a.bu] 91),(j,bz 29),(i,.cells #[.int .i64 a.aW,.bool a.bu] 91),(g,bk u0 s1 c d f)] [] M a7 a6 rfl (by simp only[*,go_sem]) P rfl rfl ei ei gZ g6 rfl g5 (by decide) (by decide) (fun cS a8 E m n c0=>?_)
  simp only[List.append_nil,List.cons_append,List.nil_append,List.append_assoc] at n
  subst m
  rw[<-O] at E;clear O
  obtain ⟨d186,a9,rfl,da⟩:=E.len
  refine ⟨⟨ro,(D,.cells #[.int .i64 a.aW,.bool a.bu] 91)::(j,bz 29)::(i,.cells #[.int .i64 a.aW,.bool a.bu] 91)::(g,bk u0 s1 c d f)::a8⟩,Le.refl _,?_⟩
  refine ⟨by simp only[*,go_sem],bQ ?_⟩
  try simp only[*,go_sem]
  refine aa hJ ?_
  refine aK hJ fun R=>?_
  obtain ⟨db,F,B,S,ba⟩:=E.eX [(D,.cells #[.int .i64 a.aW,.bool a.bu] 91),(j,bz 29),(i,.cells #[.int .i64 a.aW,.bool a.bu] 91),(g,bk u0 s1 c d (sl d186 N a9))] [] R (ay.cons P (ay.cons z (ay.cons w (ay.cons u (ay.nil _)))))
  clear R
  refine cu hJ ba ?_
  obtain ⟨dd,df,-⟩:=S.op
  replace b:=b.mono F
  replace z:=B.tl.hd
  replace w:=B.tl.tl.hd
  replace u:=B.tl.tl.tl.hd
  replace k:=k.mono F
  simp only[bn] at B
  refine ag hJ ?_
  revert h;refine bS fun dk bb h=>?_
  obtain rfl:=sI h
  simp only[*,go_sem]
  refine b8 hJ _ (vT k (⟨u0.aQ,u0.aN,u0.aE,u0.an,u0.props,u0.aF,N⟩:aj) ⟨b.e,b.p,b.y,S⟩ bb) fun v dp G C H=>?_
  obtain ⟨dq,ds,dt,du,rfl,o⟩:=H
  replace b:=b.mono G
  replace z:=C.tl.hd
  replace w:=C.tl.tl.hd
  replace u:=C.tl.tl.tl.hd
  replace k:=k.mono G
  simp only[bn] at C
  obtain ⟨d208,dv,rfl,dC,dE,-⟩:=id o.e
  obtain ⟨dT,ea,rfl,eb,ec,-⟩:=id o.p
  obtain ⟨ed,eh,rfl,et,ev,-⟩:=id o.y
  obtain ⟨eQ,eS,rfl,e0,e1,-⟩:=id o.t
  refine aD ?_
  try simp only[*,go_sem]
  refine aB ?_
  simp only[*,go_sem]
  exact ⟨_,(F).trans G,Le.sub (List.nil_sublist _),_,_,_,_,rfl,o⟩
 revert h;refine bS fun bc bd h=>?_
 simp only[*,go_sem]
 refine av fun q T U=>?_;have e3:=aM.cons U ar;try simp only[au] at U
 try simp only[*,go_sem]
 refine gr hJ (aS:=[]) [(q,.cells #[.int .i64 a.aW,.bool a.bu] 91),(j,bz 29),(i,.cells #[.int .i64 a.aW,.bool a.bu] 91),(g,bk u0 s1 c d f)] [] _ (vz u0.told b.t bd) (fun fa bj V m n bl=>?_)
 simp only[List.append_nil,List.cons_append,List.nil_append,List.append_assoc] at n
 subst m
 obtain ⟨fb,fg,rfl,fi⟩:=V.len
 refine ⟨⟨ro,(q,.cells #[.int .i64 a.aW,.bool a.bu] 91)::(j,bz 29)::(i,.cells #[.int .i64 a.aW,.bool a.bu] 91)::(g,bk u0 s1 c d f)::bj⟩,Le.refl _,?_⟩
 refine ⟨by simp only[*,go_sem],bQ ?_⟩
 revert h;refine bS fun W bm h=>?_
 obtain ⟨bo,X⟩:=c5 bm
 try simp only[*,go_sem]
 refine dF (r:=c8) (l:=bc) (x:=a) (cs:=#[.int .i64 a.aW,.bool a.bu]) (e2:=91) [(q,.cells #[.int .i64 a.aW,.bool a.bu] 91),(j,bz 29),(i,.cells #[.int .i64 a.aW,.bool a.bu] 91),(g,bk u0 s1 c d f)] [] V bl bo rfl (by simp only[*,go_sem]) T rfl rfl ei ei gZ g6 rfl g5 (by decide) (by decide) (fun fp br I m n fr=>?_)
 simp only[List.append_nil,List.cons_append,List.nil_append,List.append_assoc] at n
 subst m
 rw[<-X] at I;clear X
 obtain ⟨bs,b0,rfl,fs⟩:=I.len
 refine ⟨⟨ro,(q,.cells #[.int .i64 a.aW,.bool a.bu] 91)::(j,bz 29)::(i,.cells #[.int .i64 a.aW,.bool a.bu] 91)::(g,bk u0 s1 c d f)::br⟩,Le.refl _,?_⟩
 refine ⟨by simp only[*,go_sem],bQ ?_⟩
 try simp only[*,go_sem]
 refine aa hJ ?_
 refine aK hJ fun Y=>?_
 obtain ⟨ft,K,b1,Z,b2⟩:=I.eX [(q,.cells #[.int .i64 a.aW,.bool a.bu] 91),(j,bz 29),(i,.cells #[.int .i64 a.aW,.bool a.bu] 91),(g,bk u0 s1 c d (sl bs W b0))] [] Y (ay.cons T (ay.cons z (ay.cons w (ay.cons u (ay.nil _)))))
 clear Y
 refine cu hJ b2 ?_
 obtain ⟨fu,fv,-⟩:=Z.op
 replace b:=b.mono K
 replace k:=k.mono K
 simp only[bn] at b1
 refine ag hJ ?_
 revert h;refine bS fun fw b3 h=>?_
 obtain rfl:=sI h
 simp only[*,go_sem]
 refine b8 hJ _ (vT k (⟨u0.aQ,u0.aN,u0.aE,u0.an,u0.props,u0.aF,W⟩:aj) ⟨b.e,b.p,b.y,Z⟩ b3) fun v fx b4 b5 H=>?_
 obtain ⟨gg,gl,gn,gp,rfl,s⟩:=H
 simp only[bn] at b5
 obtain ⟨gB,gC,rfl,gM,gT,-⟩:=id s.e
 obtain ⟨gV,g0,rfl,g1,g2,-⟩:=id s.p
 obtain ⟨g3,g4,rfl,ha,hc,-⟩:=id s.y
 obtain ⟨hf,hg,rfl,hh,hi,-⟩:=id s.t
 refine aD ?_
 try simp only[*,go_sem]
 refine aB ?_
 simp only[*,go_sem]
 exact ⟨_,(K).trans b4,Le.sub (List.nil_sublist _),_,_,_,_,rfl,s⟩
def v5 (u0:aj)(c:Int)(a:cV):Option (aj×Int):=
 ah (eO u0 ([(e7 c)])) fun e=>cond ((e.2 != 0)) (some ((⟨0,0,(⟨0,0⟩:ak),([]:(List bF)),([]:(List bH)),([]:(List bR)),([]:(List bP))⟩:aj),e.2)) (ah (pF a 0 60) fun g=>cond (!g) (some ((⟨0,0,(⟨0,0⟩:ak),([]:(List bF)),([]:(List bH)),([]:(List bR)),([]:(List bP))⟩:aj),1)) (ah (rS u0.aF) fun d=>ah (bK d c) fun b=>cond (decide ((if a.high<b.high.high then a.high else b.high.high)<(if b.high.low<a.low then a.low else b.high.low))) (some ((⟨0,0,(⟨0,0⟩:ak),([]:(List bF)),([]:(List bH)),([]:(List bR)),([]:(List bP))⟩:aj),9)) (ah (bK d c) fun h=>ah (r7 (⟨u0.aQ,u0.aN,u0.aE,u0.an,u0.props,(d.set (c).toNat (⟨h.back,(⟨(if b.high.low<a.low then a.low else b.high.low),(if a.high<b.high.high then a.high else b.high.high)⟩:cV)⟩:bR)),u0.told⟩:aj)) fun f=>some (f.1,f.2))))
theorem As {ro:Addr->Option Value}(g:cT ro)(u0:aj){s1 k q l:Value}(f:bG ro u0 s1 k q l)(d:Int)(a:cV){r:(aj×Int)}(h:v5 u0 d a=some r):eu Tryz.prog 51 #[bv u0 s1 k q l,.int .i64 d,.agg #[.int .i64 a.low,.int .i64 a.high]] ro (fun v aL=>∃U w1 w2 w3,v= .tuple #[bv r.1 U w1 w2 w3,.int .i64 r.2]/\bG aL r.1 U w1 w2 w3):=by
 unfold v5 at h
 have ba:=f.oc;simp only[bx] at ba
 refine aC.go Tryz.func51 rfl Tryz.ntmps51 Tryz.results51 (by simp) fun main J hJ A bb hd hs=>?_
 have bc:=hs 0
 have k1:=hs 1
 have bd:=hs 2
 clear hs
 refine aa hJ (ag hJ ?_)
 simp only[*,go_sem]
 refine av fun w z bj=>?_;try simp only[au] at bj
 refine av fun B C bm=>?_;try simp only[au] at bm
 refine av fun D E bo=>?_;try simp only[au] at bo
 try simp only[*,go_sem]
 refine aa hJ (aa hJ ?_)
 refine aK hJ fun br=>?_
 refine ag hJ ?_
 revert h;refine bS fun K bs h=>?_
 simp only[*,go_sem]
 refine av fun s V W=>?_;have X:=aM.cons W br;try simp only[au] at W
 try simp only[*,go_sem]
 obtain ⟨j,u,Y⟩:=eV (b:=s) (o:=(.cells #[.func (.func 77) #[.int .i64 d] #[]] 102)) [] ((D,bz 29)::(B,.cells #[.int .i64 a.low,.int .i64 a.high] 95)::(w,bk u0 s1 k q l)::[]) X V (ay.cons E (ay.cons C (ay.cons z (ay.nil _))))
 have Z:aA (cW) (bN ro s (.cells #[.func (.func 77) #[.int .i64 d] #[]] 102)) (.slice (some ⟨s,0,none⟩) 1 1) [(e7 d)]:=(aA.one (r:=(cW)) (e:=102) (cs:=#[.func (.func 77) #[.int .i64 d] #[]]) (x:=(e7 d)) (own:=[(s,.cells #[.func (.func 77) #[.int .i64 d] #[]] 102)]) V (by simp[lk]) ⟨77,#[.int .i64 d],#[],rfl,⟨by simp only[go_sem],fun fb fg b0 _ _ _ _ _ b1 b2 b3 b4 h=>by simp only[go_sem];exact rq d b0 ⟨b1,b2,b3,b4⟩ h⟩⟩)
 generalize bN ro s (.cells #[.func (.func 77) #[.int .i64 d] #[]] 102)=fi at Z u j Y
 refine fS hJ Y ?_
 replace f:=f.mono j
 replace E:=u.hd
 replace C:=u.tl.hd
 replace z:=u.tl.tl.hd
 replace g:=g.mono j
 simp only[bn] at u
 have b5:=aM.tl X
 refine b8 hJ _ (j7 g u0 f ([(e7 d)]) Z bs) fun v ab m F L=>?_
 obtain ⟨M,N,O,P,rfl,ca⟩:=L
 have cb:=ca.oc;simp only[bx] at cb
 replace f:=f.mono m
 replace E:=F.hd
 replace C:=F.tl.hd
 replace z:=F.tl.tl.hd
 replace g:=g.mono m
 simp only[bn] at F
 refine aD ?_
 try simp only[*,go_sem]
 refine av fun Q cd ad=>?_;have fp:=aM.cons ad b5;try simp only[au] at ad
 try simp only[*,go_sem]
 refine aa hJ (ag hJ ?_)
 simp only[*,go_sem]
 revert h;refine jC hJ (by simp only[*,go_sem]) (fun cf h=>?_) fun cf h=>?_
 ·obtain rfl:=sI h
  refine aa hJ (ag hJ ?_)
  simp only[*,go_sem]
  refine aB ?_
  simp only[*,go_sem]
  exact ⟨_,(j).trans m,Le.sub (List.nil_sublist _),_,_,_,_,rfl,⟨aA.nil _ _,aA.nil _ _,aA.nil _ _,aA.nil _ _⟩⟩
 refine aG hJ (aa hJ ?_)
 refine aa hJ (ag hJ ?_)
 revert h;refine bS fun fr cl h=>?_
 simp only[*,go_sem]
 refine aR hJ _ (Ab a 0 60 cl) (aD ?_)
 try simp only[*,go_sem]
 revert h;refine jC hJ (by simp only[*,go_sem]) (fun cy h=>?_) fun cy h=>?_
 ·obtain rfl:=sI h
  refine aa hJ (ag hJ ?_)
  simp only[*,go_sem]
  refine aB ?_
  simp only[*,go_sem]
  exact ⟨_,(j).trans m,Le.sub (List.nil_sublist _),_,_,_,_,rfl,⟨aA.nil _ _,aA.nil _ _,aA.nil _ _,aA.nil _ _⟩⟩
 refine aG hJ (aa hJ ?_)
 refine aK hJ fun fs=>?_
 refine ag hJ ?_
 revert h;refine bS fun G cS h=>?_
 simp only[*,go_sem]
 refine gr hJ (aS:=[]) [(Q,bl K.1 M N O P),(D,bz 29),(B,.cells #[.int .i64 a.low,.int .i64 a.high] 95),(w,bk u0 s1 k q l)] [] _ (Ak u0.aF f.y cS) (fun ft c0 H da db fu=>?_)
 simp only[List.append_nil,List.cons_append,List.nil_append,List.append_assoc] at db
 subst da
 obtain ⟨d87,ae,rfl,fv⟩:=H.len
 refine ⟨⟨ab,(Q,bl K.1 M N O P)::(D,bz 29)::(B,.cells #[.int .i64 a.low,.int .i64 a.high] 95)::(w,bk u0 s1 k q l)::c0⟩,Le.refl _,?_⟩
 refine aD ?_
 try simp only[*,go_sem]
 refine aa hJ ?_
 refine aK hJ fun al=>?_
 refine ag hJ ?_
 revert h;refine bS fun c dd h=>?_
 obtain ⟨fw,fx,df⟩:=cM dd
 obtain ⟨R,dk,dp,rfl,rfl,gg,dq,S⟩:=H.zV df
 obtain rfl:dp=c.cells:=dq
 have ds:=al.nd
 simp only[keys,List.map_cons,List.map_nil,List.map_append,List.cons_append,List.nil_append,List.nodup_cons,List.mem_cons,List.mem_append,List.not_mem_nil,or_false,not_or] at ds
 have ao:=S 0 _ rfl;simp only[go_sem] at ao;have gl:=(Array.getElem?_eq_some_iff.1 ao).1
 have ar:=S 1 _ rfl;simp only[go_sem] at ar;have gn:=(Array.getElem?_eq_some_iff.1 ar).1
 have a0:=S 2 _ rfl;simp only[go_sem] at a0;have gp:=(Array.getElem?_eq_some_iff.1 a0).1
 try simp only[*,go_sem]
 refine av fun dt du a2=>?_;have gB:=aM.cons a2 al;try simp only[au] at a2
 try simp only[*,go_sem]
 refine aa hJ ?_
 refine ew [1,3,5,6,7,10] fun gC dv dC dE=>?_
 simp only[*,go_sem] at dv dC dE
 clear bb hd bc k1 bd
 refine aK hJ fun dT=>?_
 refine ag hJ ?_
 simp only[*,go_sem]
 refine av fun ea eb a3=>?_;have gM:=aM.cons a3 dT;try simp only[au] at a3
 try simp only[*,go_sem]
 refine aa hJ (aa hJ ?_)
 refine aK hJ fun gT=>?_
 refine ag hJ ?_
 simp only[*,go_sem]
 revert h;refine jC hJ (by simp only[*,go_sem]) (fun ec h=>?_) fun ec h=>?_
 ·obtain rfl:=sI h
  refine aa hJ ?_
  refine aK hJ fun gV=>?_
  refine ag hJ ?_
  simp only[*,go_sem]
  refine aB ?_
  simp only[*,go_sem]
  exact ⟨_,(j).trans m,Le.sub (List.nil_sublist _),_,_,_,_,rfl,⟨aA.nil _ _,aA.nil _ _,aA.nil _ _,aA.nil _ _⟩⟩
 refine aG hJ (aa hJ ?_)
 refine aK hJ fun g0=>?_
 refine ag hJ ?_
 revert h;refine bS fun i ed h=>?_
 obtain ⟨g1,g2,a4⟩:=cM ed
 obtain ⟨eh,et,I⟩:=H.kT a4
 obtain rfl:eh=i.cells:=et
 have a5:=I 0 _ rfl;simp only[go_sem] at a5;have g3:=(Array.getElem?_eq_some_iff.1 a5).1
 have a6:=I 1 _ rfl;simp only[go_sem] at a6;have g4:=(Array.getElem?_eq_some_iff.1 a6).1
 have a7:=I 2 _ rfl;simp only[go_sem] at a7;have ha:=(Array.getElem?_eq_some_iff.1 a7).1
 have ev:aV ek ab 130 (.slice (some ⟨R,0,none⟩) G.length ae) (G.set (d).toNat (⟨i.back,(⟨(if c.high.low<a.low then a.low else c.high.low),(if a.high<c.high.high then a.high else c.high.high)⟩:cV)⟩:bR)) [(R,Obj.cells (dO dk ((d).toNat*3+1) [.int .i64 (if c.high.low<a.low then a.low else c.high.low),.int .i64 (if a.high<c.high.high then a.high else c.high.high)]) 130)]:=by have eQ:=H.part (y:=(⟨i.back,(⟨(if c.high.low<a.low then a.low else c.high.low),(if a.high<c.high.high then a.high else c.high.high)⟩:cV)⟩:bR)) a4 1 [.int .i64 (if c.high.low<a.low then a.low else c.high.low),.int .i64 (if a.high<c.high.high then a.high else c.high.high)] [.int .i64 i.back,.int .i64 i.high.low,.int .i64 i.high.high] [.int .i64 i.back,.int .i64 (if c.high.low<a.low then a.low else c.high.low),.int .i64 (if a.high<c.high.high then a.high else c.high.high)] I rfl rfl (by simp) rfl;exact eQ
 try simp only[*,go_sem]
 refine aa hJ ?_
 refine aK hJ fun a8=>?_
 obtain ⟨hc,T,eS,a9,e0⟩:=ev.eX [(ea,.cells #[.int .i64 (if c.high.low<a.low then a.low else c.high.low),.int .i64 (if a.high<c.high.high then a.high else c.high.high)] 95),(dt,.cells #[.int .i64 c.high.low,.int .i64 c.high.high] 95),(Q,bl K.1 M N O P),(D,bz 29),(B,.cells #[.int .i64 a.low,.int .i64 a.high] 95),(w,bk u0 s1 k (sl (some ⟨R,0,none⟩) G ae) l)] [] a8 (ay.cons eb (ay.cons du (ay.cons cd (ay.cons E (ay.cons C (ay.cons z (ay.nil _)))))))
 clear a8
 refine cu hJ e0 ?_
 obtain ⟨hf,hg,-⟩:=a9.op
 replace f:=f.mono T
 replace g:=g.mono T
 simp only[bn] at eS
 refine ag hJ ?_
 revert h;refine bS fun hh e1 h=>?_
 obtain rfl:=sI h
 simp only[*,go_sem]
 refine b8 hJ _ (vT g (⟨u0.aQ,u0.aN,u0.aE,u0.an,u0.props,(G.set (d).toNat (⟨i.back,(⟨(if c.high.low<a.low then a.low else c.high.low),(if a.high<c.high.high then a.high else c.high.high)⟩:cV)⟩:bR)),u0.told⟩:aj) ⟨f.e,f.p,a9,f.t⟩ e1) fun v hi e2 e3 L=>?_
 obtain ⟨hj,hk,hl,hn,rfl,n⟩:=L
 have fa:=n.oc;simp only[bx] at fa
 simp only[bn] at e3
 obtain ⟨d130,ho,rfl,hp,hq,-⟩:=id n.e
 obtain ⟨d137,hr,rfl,ht,hv,-⟩:=id n.p
 obtain ⟨d144,hx,rfl,hy,hz,-⟩:=id n.y
 obtain ⟨d151,hA,rfl,hB,hD,-⟩:=id n.t
 refine aD ?_
 try simp only[*,go_sem]
 refine aB ?_
 simp only[*,go_sem]
 exact ⟨_,(((j).trans m).trans T).trans e2,Le.sub (List.nil_sublist _),_,_,_,_,rfl,n⟩
def Au (i43:Nat)(a:(List Int))(st:(List Int)):Option (Fl (List Int) (List Int)):=
 ah (cZ st a) fun b=>some (.nx b)
def v7 (i9:Nat)(a:(List Int))(st:Int):Option (Fl Int (List Int)):=
 cond (decide ((IntKind.i64.wrap (st+(a.length:Int)))<0)) (none) (some (.nx (IntKind.i64.wrap (st+(a.length:Int)))))
def FW (i109:Nat)(a:(List Int))(st:(List Int)):Option (Fl (List Int) (List Int)):=
 ah (cZ st a) fun b=>some (.nx b)
def v8 (u0:(List (List Int))):Option (List Int):=
 ah (bE (v7) 0 u0 0) fun o=>aO o (fun a=>ah (vS a) fun b=>ah (bE (FW) 0 u0 b) fun o=>aO o (fun c=>some c) (fun _ _=>none) (fun r=>some r)) (fun _ _=>none) (fun r=>some r)
theorem FX {ro:Addr->Option Value}(u0:(List (List Int))){s1:Value}(f:aA (rL rI) ro s1 u0){r:(List Int)}(h:v8 u0=some r):eu Tryz.prog 91 #[s1] ro (fun v aL=>∃q,v=q/\aA rI aL q r):=by
 obtain ⟨d3,c4,rfl,bs,s,-⟩:=id f
 unfold v8 at h
 refine aC.go Tryz.func91 rfl Tryz.ntmps91 Tryz.results91 (by simp) fun main J hJ A O hd hs=>?_
 have P:=hs 0
 clear hs
 refine aa hJ (ag hJ ?_)
 simp only[*,go_sem]
 refine aa hJ (ag hJ ?_)
 simp only[*,go_sem]
 refine aa hJ (aa hJ (ag hJ ?_))
 simp only[*,go_sem]
 refine aY hJ ?_
 revert h;refine bS fun Q a R=>?_
 refine cc hJ [3,5,11,12,13,14,15,16,17,18,19,20,21,22] (fun m a' F'=>∃(i9:Nat) (d:Int),m=u0.length - i9/\i9<=u0.length/\bE (v7) i9 (u0.drop i9) d=some Q/\F'=⟨ro,[]⟩/\slot a' 11= .int .i64 (i9:Int)/\slot a' 3= .int .i64 d) u0.length ?_ ?_
 ·refine ⟨0,0,(Nat.sub_zero _).symm,Nat.zero_le _,a,rfl,?_⟩
  simp only[*,go_sem]
 rintro bz b0 F' t ⟨i9,d,rfl,b1,a,rfl,S,T⟩
 obtain ⟨u,w,y⟩:=t.pick [0,2,9,10] (by decide)
 simp only[*,go_sem] at u w y
 clear t O hd P
 refine aa hJ (ag hJ ?_)
 simp only[*,go_sem]
 refine aa hJ ?_
 rcases Nat.lt_or_ge i9 u0.length with U|z
 ·refine bM hJ (by simp only[*,go_sem]) ?_
  refine aG hJ ?_
  obtain ⟨V,g⟩:∃x,u0[i9]?=some x:=⟨_,List.getElem?_eq_getElem U⟩
  rw[c7 g] at a
  revert a;refine bS fun b2 h W=>?_
  unfold v7 at h
  try dsimp only at h
  obtain ⟨b3,b4,X,Y,B⟩:=f.el _ _ g
  obtain ⟨b5,rfl,Z⟩:=Y;obtain ⟨d18,ca,rfl,cb,cd,cf⟩:=id Z
  cases X
  have ab:=B 0 _ rfl;simp only[go_sem] at ab
  clear B g
  refine aa hJ (aY hJ (aa hJ ?_))
  refine ag hJ ?_
  simp only[*,go_sem]
  refine aa hJ (ag hJ ?_)
  simp only[*,go_sem]
  refine aa hJ (ag hJ ?_)
  simp only[*,go_sem]
  revert h;refine jC hJ (by simp only[*,go_sem]) (fun ad h=>?_) fun ad h=>?_
  ·refine ag hJ ?_
   cases h
  obtain rfl:=sI h
  refine aG hJ ?_
  have cl:=cq (n:=i9) (by have:=s;omega)
  refine ag hJ ?_
  simp only[*,go_sem]
  refine ⟨u0.length - (i9+1),by omega,_,Le.sub (List.Sublist.refl _),i9+1,(IntKind.i64.wrap (d+(V.length:Int))),rfl,by omega,W,rfl,?_⟩
  simp only[*,go_sem]
 have cy:=Nat.not_lt.2 z
 refine bJ hJ (by simp only[*,go_sem]) ?_
 rw[List.drop_eq_nil_of_le z] at a
 obtain rfl:=sI a;clear a
 have h:=R
 dsimp only[aO] at h
 refine b7 ?_
 simp only[go_sem]
 refine aa hJ ?_
 refine aK hJ fun cS=>?_
 refine ag hJ ?_
 revert h;refine bS fun ae al h=>?_
 simp only[*,go_sem]
 refine gr hJ (aS:=[]) [] [] _ (FP d al) (fun c0 C D i j da=>?_)
 simp only[List.append_nil,List.cons_append,List.nil_append,List.append_assoc] at j
 subst i
 obtain ⟨d32,ao,rfl,ar⟩:=D.len
 refine ⟨⟨ro,C⟩,Le.refl _,?_⟩
 refine aD ?_
 try simp only[*,go_sem]
 refine aa hJ (aa hJ ?_)
 refine aK hJ fun db=>?_
 refine ag hJ ?_
 simp only[*,go_sem]
 refine aY hJ ?_
 revert h;refine bS fun a0 b a2=>?_
 refine cc hJ [6,8,27,28,29,30,31,32,33,34] (fun m a' F'=>∃(i43:Nat) (d38:Option Addr) (e:Nat) (k:List (Nat×Obj)) (c:(List Int)),m=u0.length - i43/\i43<=u0.length/\bE (Au) i43 (u0.drop i43) c=some a0/\F'=⟨ro,k⟩/\aV rI ro 3 (.slice d38 c.length e) c k/\c.length<=e/\slot a' 27= .int .i64 (i43:Int)/\slot a' 6= .slice d38 c.length e) u0.length ?_ ?_
 ·refine ⟨0,d32,ao,C,ae,(Nat.sub_zero _).symm,Nat.zero_le _,b,rfl,D,ar,?_⟩
  simp only[*,go_sem]
 rintro dd df F' E ⟨i43,d38,e,k,c,rfl,dk,b,rfl,F,dp,dq,ds⟩
 obtain ⟨a3,a4,a5⟩:=E.pick [2,25,26] (by decide)
 simp only[*,go_sem] at a3 a4 a5
 clear E u w y T S
 refine aa hJ (ag hJ ?_)
 simp only[*,go_sem]
 refine aa hJ ?_
 rcases Nat.lt_or_ge i43 u0.length with a6|G
 ·refine bM hJ (by simp only[*,go_sem]) ?_
  refine aG hJ ?_
  obtain ⟨a7,o⟩:∃x,u0[i43]?=some x:=⟨_,List.getElem?_eq_getElem a6⟩
  rw[c7 o] at b
  revert b;refine bS fun dt h a8=>?_
  unfold Au at h
  try dsimp only at h
  obtain ⟨du,dv,a9,ba,H⟩:=f.el _ _ o
  obtain ⟨dC,rfl,I⟩:=ba;obtain ⟨d52,dE,rfl,dT,ea,eb⟩:=id I
  cases a9
  have bb:=H 0 _ rfl;simp only[go_sem] at bb
  clear H o
  refine aa hJ (aY hJ (aa hJ ?_))
  refine aK hJ fun ec=>?_
  refine ag hJ ?_
  simp only[*,go_sem]
  refine aK hJ fun bc=>?_
  refine ag hJ ?_
  revert h;refine bS fun bd bj h=>?_
  obtain rfl:=sI h
  obtain ⟨bk,K⟩:=c5 bj
  simp only[*,go_sem]
  refine pz (r:=rI) (l:=c) (xs:=a7) [] [] F bc bk I rfl rfl fH fH kO kQ rfl kP (by decide) (by decide) (fun ed L p i j eh=>?_)
  simp only[List.append_nil,List.cons_append,List.nil_append,List.append_assoc] at j
  subst i
  rw[<-K] at p;clear K
  obtain ⟨d66,bl,rfl,bm⟩:=p.len
  refine ⟨⟨ro,L⟩,Le.refl _,?_⟩
  refine aD ?_
  try simp only[*,go_sem]
  have et:=cq (n:=i43) (by have:=s;omega)
  refine ag hJ ?_
  simp only[*,go_sem]
  refine ⟨u0.length - (i43+1),by omega,_,Le.sub (List.Sublist.refl _),i43+1,d66,bl,L,bd,rfl,by omega,a8,rfl,p,bm,?_⟩
  simp only[*,go_sem]
 have ev:=Nat.not_lt.2 G
 refine bJ hJ (by simp only[*,go_sem]) ?_
 rw[List.drop_eq_nil_of_le G] at b
 obtain rfl:=sI b;clear b
 have h:=a2
 dsimp only[aO] at h
 obtain rfl:=sI h
 refine b7 ?_
 simp only[go_sem]
 refine aa hJ ?_
 refine aK hJ fun eQ=>?_
 refine ag hJ ?_
 simp only[*,go_sem]
 refine aK hJ fun M=>?_
 obtain ⟨eS,bo,e0,N,br⟩:=F.eX [] [] M (ay.nil _)
 clear M
 refine cu hJ br ?_
 obtain ⟨e1,e2,-⟩:=N.op
 refine aB ?_
 simp only[*,go_sem]
 exact ⟨_,bo,Le.sub (List.nil_sublist _),_,rfl,N⟩
def v9 (a:Int)(i44:Nat)(b:aX)(st:(List Int)):Option (Fl (List Int) (List Int)):=
 ah (aX.get b a) fun c=>ah (cZ st ([c])) fun d=>some (.nx d)
def nC (u0:cR)(a:Int):Option (List Int):=
 ah (bE (v9 a) 0 u0.all ([]:List Int)) fun o=>aO o (fun b=>ah (vQ b) fun c=>ah (vR c.2) fun d=>some d) (fun _ _=>none) (fun r=>some r)
theorem sj {ro:Addr->Option Value}(u0:cR){s1 a b c:Value}(b2:bG ro u0.book s1 a b c){y:Value}(z:aA gK ro y u0.all)(s:Int){r:(List Int)}(h:nC u0 s=some r):eu Tryz.prog 78 #[.agg #[.int .i64 u0.book.aQ,.int .i64 u0.book.aN,.int .i64 u0.book.aE.num,.int .i64 u0.book.aE.den,s1,a,b,c,y],.int .i64 s] ro (fun v aL=>∃B,v=B/\aA rI aL B r):=by
 obtain ⟨d31,d,rfl,b3,Q,-⟩:=id z
 unfold nC at h
 refine aC.go Tryz.func78 rfl Tryz.ntmps78 Tryz.results78 (by simp) fun main J hJ A R hd hs=>?_
 have S:=hs 0
 have k1:=hs 1
 clear hs
 refine aa hJ (ag hJ ?_)
 simp only[*,go_sem]
 refine av fun e T U=>?_;try simp only[au] at U
 try simp only[*,go_sem]
 refine aa hJ (ag hJ ?_)
 simp only[*,go_sem]
 refine aa hJ (aa hJ (ag hJ ?_))
 simp only[*,go_sem]
 refine aY hJ ?_
 revert h;refine bS fun V g W=>?_
 refine cc hJ [5,7,11,12,13,14,15,16,17,18,19,20,21] (fun m a' F'=>∃(i44:Nat) (d38:Option Addr) (o:Nat) (t:List (Nat×Obj)) (f:(List Int)),m=u0.all.length - i44/\i44<=u0.all.length/\bE (v9 s) i44 (u0.all.drop i44) f=some V/\F'=⟨ro,(e,kn u0 s1 a b c (sl d31 u0.all d))::t⟩/\aV rI ro 3 (.slice d38 f.length o) f t/\f.length<=o/\slot a' 11= .int .i64 (i44:Int)/\slot a' 5= .slice d38 f.length o) u0.all.length ?_ ?_
 ·refine ⟨0,none,0,[],([]:List Int),(Nat.sub_zero _).symm,Nat.zero_le _,g,rfl,aV.nil _ _ _,Nat.le_refl _,?_⟩
  simp only[*,go_sem]
 rintro b4 b5 F' C ⟨i44,d38,o,t,f,rfl,ca,g,rfl,D,cb,cd,cf⟩
 obtain ⟨X,Y,Z⟩:=C.pick [1,4,9,10] (by decide)
 simp only[*,go_sem] at X Y Z
 clear C R hd S k1
 refine aa hJ (ag hJ ?_)
 simp only[*,go_sem]
 refine aa hJ ?_
 rcases Nat.lt_or_ge i44 u0.all.length with ab|E
 ·refine bM hJ (by simp only[*,go_sem]) ?_
  refine aG hJ ?_
  obtain ⟨i,u⟩:∃x,u0.all[i44]?=some x:=⟨_,List.getElem?_eq_getElem ab⟩
  rw[c7 u] at g
  revert g;refine bS fun cl h ad=>?_
  unfold v9 at h
  try dsimp only at h
  obtain ⟨F,ae,al,ao,p⟩:=z.el _ _ u
  obtain rfl:ae=i.cells:=ao
  cases al
  have ar:=p 0 _ rfl;simp only[go_sem] at ar
  have a0:=p 1 _ rfl;simp only[go_sem] at a0
  have a2:=p 2 _ rfl;simp only[go_sem] at a2
  clear p u
  refine aa hJ (aY hJ (aa hJ ?_))
  refine aK hJ fun a3=>?_
  refine ag hJ ?_
  simp only[*,go_sem]
  refine av fun G cy H=>?_;have cS:=aM.cons H a3;try simp only[au] at H
  try simp only[*,go_sem]
  refine aK hJ fun a4=>?_
  refine ag hJ ?_
  revert h;refine bS fun q a5 h=>?_
  obtain ⟨c0,da,a6⟩:=aX.get_some a5
  try simp only[go_sem] at a6
  revert h;refine bS fun a7 a8 h=>?_
  obtain rfl:=sI h
  obtain ⟨a9,I⟩:=c5 a8
  try simp only[*,go_sem]
  refine av fun K ba L=>?_;have bb:=aM.cons L a4;try simp only[au] at L
  try simp only[*,go_sem]
  refine dF (r:=rI) (l:=f) (x:=q) (cs:=#[.int .i64 q]) (e2:=3) [(K,ic q),(G,.cells #[.int .i64 i.e0,.int .i64 i.e1,.int .i64 i.e2] 120),(e,kn u0 s1 a b c (sl (some F) u0.all d))] [] D bb a9 rfl (by simp only[*,go_sem]) ba rfl rfl fH fH kO kQ rfl kP (by decide) (by decide) (fun db M w j k dd=>?_)
  simp only[List.append_nil,List.cons_append,List.nil_append,List.append_assoc] at k
  subst j
  rw[<-I] at w;clear I
  obtain ⟨d66,bc,rfl,bd⟩:=w.len
  refine ⟨⟨ro,(K,ic q)::(G,.cells #[.int .i64 i.e0,.int .i64 i.e1,.int .i64 i.e2] 120)::(e,kn u0 s1 a b c (sl (some F) u0.all d))::M⟩,Le.refl _,?_⟩
  refine aD ?_
  try simp only[*,go_sem]
  have df:=cq (n:=i44) (by have:=Q;omega)
  refine ag hJ ?_
  simp only[*,go_sem]
  refine ⟨u0.all.length - (i44+1),by omega,_,Le.sub (List.Sublist.cons _ (List.Sublist.cons _ (List.Sublist.refl _))),i44+1,d66,bc,M,a7,rfl,by omega,ad,rfl,w,bd,?_⟩
  simp only[*,go_sem]
 have dk:=Nat.not_lt.2 E
 refine bJ hJ (by simp only[*,go_sem]) ?_
 rw[List.drop_eq_nil_of_le E] at g
 obtain rfl:=sI g;clear g
 have h:=W
 dsimp only[aO] at h
 refine b7 ?_
 simp only[go_sem]
 refine aa hJ ?_
 refine aK hJ fun dp=>?_
 refine ag hJ ?_
 revert h;refine bS fun bj bk h=>?_
 simp only[*,go_sem]
 refine gr hJ [(e,kn u0 s1 a b c (sl d31 u0.all d))] [] _ (FM f D bk) (fun dq bl bm j k ds=>?_)
 obtain ⟨rfl,bo⟩:=bm
 simp only[List.append_nil,List.cons_append,List.nil_append,List.append_assoc] at k
 subst j
 refine ⟨⟨ro,(e,kn u0 s1 a b c (sl d31 u0.all d))::bl⟩,Le.refl _,?_⟩
 try simp only[*,go_sem]
 refine aa hJ ?_
 refine aK hJ fun dt=>?_
 refine ag hJ ?_
 revert h;refine bS fun du br h=>?_
 obtain rfl:=sI h
 simp only[*,go_sem]
 refine gr hJ [(e,kn u0 s1 a b c (sl d31 u0.all d))] [] _ (FN bj.2 bo br) (fun dv bs N j k dC=>?_)
 simp only[List.append_nil,List.cons_append,List.nil_append,List.append_assoc] at k
 subst j
 obtain ⟨d83,dE,rfl,dT⟩:=N.len
 refine ⟨⟨ro,(e,kn u0 s1 a b c (sl d31 u0.all d))::bs⟩,Le.refl _,?_⟩
 refine aD ?_
 try simp only[*,go_sem]
 refine aK hJ fun O=>?_
 obtain ⟨ea,bz,b0,P,b1⟩:=N.eX [(e,kn u0 s1 a b c (sl d31 u0.all d))] [] O (ay.cons T (ay.nil _))
 clear O
 refine cu hJ b1 ?_
 obtain ⟨eb,ec,-⟩:=P.op
 simp only[bn] at b0
 refine aB ?_
 simp only[*,go_sem]
 exact ⟨_,bz,Le.sub (List.nil_sublist _),_,rfl,P⟩
def we (u0:cR)(i47:Nat)(i75:Nat)(b:Int)(st:(List aP)):Option (Fl (List aP) (List aP)):=
 ah (jq u0.book (i47:Int) b) fun a=>ah (vq st a) fun c=>cond (!c) (ah (cZ st ([a])) fun d=>some (.nx d)) (some (.nx st))
def wh (u0:cR)(i47:Nat)(c:bR)(st:(List aP)):Option (Fl (List aP) (List aP)):=
 ah (nC u0 (i47:Int)) fun a=>ah (bE (we u0 i47) 0 a st) fun o=>aO o (fun b=>some (.nx b)) (fun _ _=>none) (fun r=>some (.rt r))
def sk (u0:cR):Option (List aP):=
 ah (bE (wh u0) 0 u0.book.aF ([]:List aP)) fun o=>aO o (fun a=>some a) (fun _ _=>none) (fun r=>some r)
theorem Av {ro:Addr->Option Value}(u0:cR){s1 c Q d:Value}(e:bG ro u0.book s1 c Q d){f:Value}(G:aA gK ro f u0.all){r:(List aP)}(h:sk u0=some r):eu Tryz.prog 85 #[.agg #[.int .i64 u0.book.aQ,.int .i64 u0.book.aN,.int .i64 u0.book.aE.num,.int .i64 u0.book.aE.den,s1,c,Q,d,f]] ro (fun v aL=>∃R,v=R/\aA iI aL R r):=by
 obtain ⟨d17,o,rfl,eS,a7,-⟩:=id e.y
 unfold sk at h
 refine aC.go Tryz.func85 rfl Tryz.ntmps85 Tryz.results85 (by simp) fun main J hJ A a8 hd hs=>?_
 have a9:=hs 0
 clear hs
 refine aa hJ (ag hJ ?_)
 simp only[*,go_sem]
 refine av fun p H ba=>?_;try simp only[au] at ba
 try simp only[*,go_sem]
 refine aa hJ (ag hJ ?_)
 simp only[*,go_sem]
 refine aa hJ (aa hJ (ag hJ ?_))
 simp only[*,go_sem]
 refine aY hJ ?_
 revert h;refine bS fun bb i bc=>?_
 refine cc hJ [3,4,6,7,13,14,15,16,17,18,19,20,21,22,23,24,25,26,27,28,29,30,31,32,33,34,35,36,37,38] (fun m a' F'=>∃(i47:Nat) (u:Addr->Option Value) (d38:Option Addr) (s:Nat) (w:List (Nat×Obj)) (j:(List aP)),m=u0.book.aF.length - i47/\i47<=u0.book.aF.length/\bE (wh u0) i47 (u0.book.aF.drop i47) j=some bb/\F'=⟨u,(p,kn u0 s1 c (sl d17 u0.book.aF o) d f)::w⟩/\Ext ro u/\aV iI u 103 (.slice d38 j.length s) j w/\j.length<=s/\slot a' 13= .int .i64 (i47:Int)/\slot a' 3= .slice d38 j.length s) u0.book.aF.length ?_ ?_
 ·refine ⟨0,ro,none,0,[],([]:List aP),(Nat.sub_zero _).symm,Nat.zero_le _,i,rfl,Ext.refl _,aV.nil _ _ _,Nat.le_refl _,?_⟩
  simp only[*,go_sem]
 rintro e0 bd F' S ⟨i47,u,d38,s,w,j,rfl,e1,i,rfl,z,B,bj,bk,bl⟩
 refine e6 hJ fun _ T=>?_
 replace e:=e.mono z
 replace G:=G.mono z
 replace H:=T.hd
 simp only[bn] at T
 obtain ⟨U,V,W⟩:=S.pick [1,2,12] (by decide)
 simp only[*,go_sem] at U V W
 clear S a8 hd a9
 refine aa hJ (ag hJ ?_)
 simp only[*,go_sem]
 refine aa hJ ?_
 rcases Nat.lt_or_ge i47 u0.book.aF.length with bm|X
 ·refine bM hJ (by simp only[*,go_sem]) ?_
  refine aG hJ ?_
  obtain ⟨bo,I⟩:∃x,u0.book.aF[i47]?=some x:=⟨_,List.getElem?_eq_getElem bm⟩
  rw[c7 I] at i
  revert i;refine bS fun e3 h br=>?_
  unfold wh at h
  try dsimp only at h
  obtain ⟨C,bs,bz,b0,D⟩:=e.y.el _ _ I
  obtain rfl:bs=bo.cells:=b0
  cases bz
  have b1:=D 0 _ rfl;simp only[go_sem] at b1
  have b2:=D 1 _ rfl;simp only[go_sem] at b2
  have b3:=D 2 _ rfl;simp only[go_sem] at b3
  clear D I
  refine aa hJ (aY hJ (aa hJ ?_))
  refine aK hJ fun fa=>?_
  refine ag hJ ?_
  simp only[*,go_sem]
  refine aa hJ ?_
  refine aK hJ fun fb=>?_
  refine ag hJ ?_
  revert h;refine bS fun g b4 h=>?_
  simp only[*,go_sem]
  refine b8 hJ _ (sj u0 e G (i47:Int) b4) fun v E K L b5=>?_
  obtain ⟨fg,rfl,Y⟩:=b5
  replace e:=e.mono K
  replace H:=L.hd
  replace B:=B.mono K L.tl
  simp only[bn] at L
  obtain ⟨d64,fi,rfl,fp,Z,-⟩:=id Y
  refine aD ?_
  try simp only[*,go_sem]
  refine aY hJ ?_
  revert h;refine bS fun ca k cb=>?_
  refine cc hJ [3,6,7,20,21,22,23,24,25,26,27,28,29,30,31,32,33,34,35,36,37] (fun m a' F'=>∃(i75:Nat) (d70:Option Addr) (q:Nat) (t:List (Nat×Obj)) (b:(List aP)),m=g.length - i75/\i75<=g.length/\bE (we u0 i47) i75 (g.drop i75) b=some ca/\F'=⟨E,(p,kn u0 s1 c (sl (some C) u0.book.aF o) d f)::t⟩/\aV iI E 103 (.slice d70 b.length q) b t/\b.length<=q/\slot a' 20= .int .i64 (i75:Int)/\slot a' 3= .slice d70 b.length q) g.length ?_ ?_
  ·refine ⟨0,d38,s,w,j,(Nat.sub_zero _).symm,Nat.zero_le _,k,rfl,B,bj,?_⟩
   simp only[*,go_sem]
  rintro fr cd F' M ⟨i75,d70,q,t,b,rfl,fs,k,rfl,F,ab,ft,fu⟩
  obtain ⟨cf,cl,cy⟩:=M.pick [1,2,4,12,13,14,15,16,17,18,19] (by decide)
  simp only[*,go_sem] at cf cl cy
  have fv:dD [3,4,6,7,13,14,15,16,17,18,19,20,21,22,23,24,25,26,27,28,29,30,31,32,33,34,35,36,37,38] cd bd:=(M.jg (by decide)).trans (by simp only[*,go_sem])
  clear M U V W bl bk
  refine aa hJ (ag hJ ?_)
  simp only[*,go_sem]
  refine aa hJ ?_
  rcases Nat.lt_or_ge i75 g.length with cS|ad
  ·refine bM hJ (by simp only[*,go_sem]) ?_
   refine aG hJ ?_
   obtain ⟨ae,N⟩:∃x,g[i75]?=some x:=⟨_,List.getElem?_eq_getElem cS⟩
   rw[c7 N] at k
   revert k;refine bS fun fw h al=>?_
   unfold we at h
   try dsimp only at h
   obtain ⟨fx,c0,da,db,ao⟩:=Y.el _ _ N
   obtain rfl:c0=[.int .i64 ae]:=db
   cases da
   have dd:=ao 0 _ rfl;simp only[go_sem] at dd
   clear ao N
   refine aa hJ (aY hJ (aa hJ ?_))
   refine aK hJ fun gg=>?_
   refine ag hJ ?_
   simp only[*,go_sem]
   refine aa hJ ?_
   refine aK hJ fun df=>?_
   refine ag hJ ?_
   revert h;refine bS fun a dk h=>?_
   simp only[*,go_sem]
   refine aR hJ _ (lZ u0.book (e.mono aJ) (i47:Int) ae dk) (aD ?_)
   try simp only[*,go_sem]
   refine av fun O gl ar=>?_;have gn:=aM.cons ar df;try simp only[au] at ar
   try simp only[*,go_sem]
   refine aa hJ ?_
   refine aK hJ fun dp=>?_
   refine ag hJ ?_
   revert h;refine bS fun gp dq h=>?_
   simp only[*,go_sem]
   refine aR hJ _ (Fp b (F.z9 [(O,.cells #[.int .i64 a.back,.int .i64 a.high] 103),(p,kn u0 s1 c (sl (some C) u0.book.aF o) d f)] [] (by first|rfl|simp only[List.append_nil,List.cons_append,List.nil_append,List.append_assoc]|(simp only[List.append_nil,List.cons_append,List.nil_append,List.append_assoc];rfl)) dp) a dq) (aD ?_)
   try simp only[*,go_sem]
   revert h;refine jC hJ (by simp only[*,go_sem]) (fun ds h=>?_) fun ds h=>?_
   ·refine aK hJ fun dt=>?_
    refine ag hJ ?_
    revert h;refine bS fun du dv h=>?_
    obtain rfl:=sI h
    obtain ⟨dC,a0⟩:=c5 dv
    simp only[*,go_sem]
    refine av fun a2 dE a3=>?_;have dT:=aM.cons a3 dt;try simp only[au] at a3
    try simp only[*,go_sem]
    refine dF (r:=iI) (l:=b) (x:=a) (cs:=#[.int .i64 a.back,.int .i64 a.high]) (e2:=103) [(a2,.cells #[.int .i64 a.back,.int .i64 a.high] 103),(O,.cells #[.int .i64 a.back,.int .i64 a.high] 103),(p,kn u0 s1 c (sl (some C) u0.book.aF o) d f)] [] F dT dC rfl (by simp only[*,go_sem]) dE rfl rfl zA zA D2 D4 rfl D3 (by decide) (by decide) (fun gB a4 P ea eb gC=>?_)
    simp only[List.append_nil,List.cons_append,List.nil_append,List.append_assoc] at eb
    subst ea
    rw[<-a0] at P;clear a0
    obtain ⟨d102,ec,rfl,ed⟩:=P.len
    refine ⟨⟨E,(a2,.cells #[.int .i64 a.back,.int .i64 a.high] 103)::(O,.cells #[.int .i64 a.back,.int .i64 a.high] 103)::(p,kn u0 s1 c (sl (some C) u0.book.aF o) d f)::a4⟩,Le.refl _,?_⟩
    refine aD ?_
    try simp only[*,go_sem]
    have eh:=cq (n:=i75) (by have:=Z;omega)
    refine ag hJ ?_
    simp only[*,go_sem]
    refine ⟨g.length - (i75+1),by omega,_,Le.sub (List.Sublist.cons _ (List.Sublist.cons _ (List.Sublist.refl _))),i75+1,d102,ec,a4,du,rfl,by omega,al,rfl,P,ed,?_⟩
    simp only[*,go_sem]
   obtain rfl:=sI h
   refine aG hJ ?_
   have eh:=cq (n:=i75) (by have:=Z;omega)
   refine ag hJ ?_
   simp only[*,go_sem]
   refine ⟨g.length - (i75+1),by omega,_,Le.sub (List.Sublist.cons _ (List.Sublist.refl _)),i75+1,d70,q,t,b,rfl,by omega,al,rfl,F,ab,?_⟩
   simp only[*,go_sem]
  have gM:=Nat.not_lt.2 ad
  refine bJ hJ (by simp only[*,go_sem]) ?_
  rw[List.drop_eq_nil_of_le ad] at k
  obtain rfl:=sI k;clear k
  have h:=cb
  dsimp only[aO] at h
  obtain rfl:=sI h
  refine b7 ?_
  simp only[go_sem]
  have gT:=cq (n:=i47) (by have:=a7;omega)
  refine ag hJ ?_
  simp only[*,go_sem]
  refine ⟨u0.book.aF.length - (i47+1),by omega,_,Le.sub (List.Sublist.refl _),i47+1,E,d70,q,t,b,rfl,by omega,br,rfl,(z.trans K),F,ab,?_⟩
  simp only[*,go_sem]
 have gV:=Nat.not_lt.2 X
 refine bJ hJ (by simp only[*,go_sem]) ?_
 rw[List.drop_eq_nil_of_le X] at i
 obtain rfl:=sI i;clear i
 have h:=bc
 dsimp only[aO] at h
 obtain rfl:=sI h
 refine b7 ?_
 simp only[go_sem]
 refine aa hJ ?_
 refine aK hJ fun g0=>?_
 refine ag hJ ?_
 simp only[*,go_sem]
 refine aK hJ fun a5=>?_
 obtain ⟨g1,et,ev,a6,eQ⟩:=B.eX [(p,kn u0 s1 c (sl d17 u0.book.aF o) d f)] [] a5 (ay.cons H (ay.nil _))
 clear a5
 refine cu hJ eQ ?_
 obtain ⟨g2,g3,-⟩:=a6.op
 simp only[bn] at ev
 refine aB ?_
 simp only[*,go_sem]
 exact ⟨_,(z).trans et,Le.sub (List.nil_sublist _),_,rfl,a6⟩
def wj (a:Int)(i109:Nat)(b:bP)(st:((List Int)×(List bP))):Option (Fl ((List Int)×(List bP)) ((List Int)×Int)):=
 ah (uL a (i109:Int)) fun c=>cond (((zm c 1)==1)) (ah (cZ st.1 ([(i109:Int)])) fun d=>ah (cZ st.2 ([b])) fun e=>some (.nx (d,e))) (some (.nx (st.1,st.2)))
def wm (u0:aj)(a:(aj×Int))(c:Int)(st:((List (List Int))×Int)):Option (Fl ((List (List Int))×Int) ((List Int)×Int)):=
 cond (decide (st.2<c)) (ah (bE (wj st.2) 0 u0.told (([]:List Int),([]:List bP))) fun o=>aO o (fun b=>ah (rY (⟨a.1.aQ,a.1.aN,a.1.aE,a.1.an,a.1.props,a.1.aF,b.2⟩:aj)) fun d=>cond (!d) (ah (cZ st.1 ([b.1])) fun e=>some (.nx (e,(IntKind.i64.wrap (st.2+1))))) (some (.nx (st.1,(IntKind.i64.wrap (st.2+1)))))) (fun _ _=>none) (fun r=>some (.rt r))) (some (.bk (st.1,st.2)))
def wo (u0:aj):Option ((List Int)×Int):=
 ah (eO u0 ([]:(List (aj->Option Int)))) fun a=>cond ((a.2 != 0)) (some (([]:(List Int)),a.2)) (ah (rY a.1) fun c=>cond (c) (some (([]:(List Int)),0)) (ah (uK 1 (u0.told.length:Int)) fun d=>ah (bD (wm u0 a d) fu (([]:List (List Int)),0)) fun o=>aO o (fun b=>ah (bK b.1 0) fun e=>ah (gI b.1 1 (b.1.length:Int)) fun f=>ah (vl r8 e f) fun g=>some (g,0)) (fun _ _=>none) (fun r=>some r)))
theorem Aw {ro:Addr->Option Value}(fx:cT ro)(u0:aj){s1 i j b3:Value}(K:bG ro u0 s1 i j b3){r:((List Int)×Int)}(h:wo u0=some r):eu Tryz.prog 31 #[bv u0 s1 i j b3] ro (fun v aL=>∃b4,v= .tuple #[b4,.int .i64 r.2]/\aA rI aL b4 r.1):=by
 obtain ⟨d24,k,rfl,nd,Z,-⟩:=id K.t
 unfold wo at h
 have gg:=K.oc;simp only[bx] at gg
 refine aC.go Tryz.func31 rfl Tryz.ntmps31 Tryz.results31 (by simp) fun main J hJ A gl hd hs=>?_
 have gn:=hs 0
 clear hs
 refine aa hJ (ag hJ ?_)
 simp only[*,go_sem]
 refine av fun o L gp=>?_;try simp only[au] at gp
 try simp only[*,go_sem]
 refine aa hJ (ag hJ ?_)
 revert h;refine bS fun b gB h=>?_
 simp only[*,go_sem]
 refine b8 hJ _ (j7 fx u0 K ([]:(List (aj->Option Int))) (aA.nil _ _) gB) fun v b5 ab ca a6=>?_
 obtain ⟨c,d,f,q,rfl,P⟩:=a6
 have gC:=P.oc;simp only[bx] at gC
 replace K:=K.mono ab
 replace L:=ca.hd
 simp only[bn] at ca
 refine aD ?_
 try simp only[*,go_sem]
 refine av fun s Q gM=>?_;try simp only[au] at gM
 try simp only[*,go_sem]
 refine aa hJ (aa hJ (ag hJ ?_))
 simp only[*,go_sem]
 revert h;refine jC hJ (by simp only[*,go_sem]) (fun gT h=>?_) fun gT h=>?_
 ·obtain rfl:=sI h
  refine aa hJ (ag hJ ?_)
  simp only[*,go_sem]
  refine aB ?_
  simp only[*,go_sem]
  exact ⟨_,ab,Le.sub (List.nil_sublist _),_,rfl,aA.nil _ _⟩
 refine aG hJ (aa hJ ?_)
 refine aa hJ (ag hJ ?_)
 revert h;refine bS fun nf gV h=>?_
 simp only[*,go_sem]
 refine aR hJ _ (An b.1 (P.mono aJ) gV) ?_
 try simp only[*,go_sem]
 revert h;refine jC hJ (by simp only[*,go_sem]) (fun g0 h=>?_) fun g0 h=>?_
 ·obtain rfl:=sI h
  refine aa hJ (ag hJ ?_)
  simp only[*,go_sem]
  refine aB ?_
  simp only[*,go_sem]
  exact ⟨_,ab,Le.sub (List.nil_sublist _),_,rfl,aA.nil _ _⟩
 refine aG hJ (aa hJ ?_)
 refine ag hJ ?_
 simp only[*,go_sem]
 refine aa hJ (aa hJ (ag hJ ?_))
 revert h;refine bS fun g1 cb h=>?_
 obtain ⟨nm,g2⟩:=DR cb
 clear cb
 try simp only[go_sem] at g2
 try simp only[*,go_sem]
 refine aY hJ ?_
 revert h;refine bS fun g3 ad g4=>?_
 refine cc hJ [6,7,8,9,10,11,26,27,28,29,30,31,32,33,34,35,36,37,38,39,40,41,42,43,44,45,46,47,48,49,50,51,52,53,54,55,56,57,58,59,60,61,62,63,64,65] (fun m a' F'=>∃(B:Addr->Option Value) (d71:Option Addr) (S:Nat) (w:List (Nat×Obj)) (I:(List (List Int))) (T:Int),bD (wm u0 b g1) m (I,T)=some g3/\F'=⟨B,(s,bl b.1 c d f q)::(o,bk u0 s1 i j (sl d24 u0.told k))::w⟩/\Ext b5 B/\aV (rL rI) B 64 (.slice d71 I.length S) I w/\I.length<=S/\slot a' 6= .slice d71 I.length S/\slot a' 26= .int .i64 T) fu ?_ ?_
 ·refine ⟨b5,none,0,[],([]:List (List Int)),0,ad,rfl,Ext.refl _,aV.nil _ _ _,Nat.le_refl _,?_⟩
  simp only[*,go_sem]
 rintro ae ha F' cd ⟨B,d71,S,w,I,T,ad,rfl,V,U,hc,hf,hg⟩
 refine e6 hJ fun _ a7=>?_
 replace P:=P.mono V
 replace K:=K.mono V
 replace Q:=a7.hd
 replace L:=a7.tl.hd
 simp only[bn] at a7
 obtain ⟨cf,cl,cy⟩:=cd.pick [1,2,3,4,25] (by decide)
 simp only[*,go_sem] at cf cl cy
 clear cd gl hd gn
 obtain _|ae:=ae
 ·exact absurd ad (by simp only[bD,reduceCtorEq,not_false_eq_true])
 revert ad;refine bS fun nn h al=>?_
 unfold wm at h
 try dsimp only at h
 refine aa hJ ?_
 refine aK hJ fun np=>?_
 refine ag hJ ?_
 simp only[*,go_sem]
 refine aa hJ ?_
 revert h;refine jC hJ (by simp only[*,go_sem]) (fun hh h=>?_) fun hh h=>?_
 ·refine aG hJ (aa hJ ?_)
  refine aY hJ (aa hJ ?_)
  refine aK hJ fun ns=>?_
  refine ag hJ ?_
  simp only[*,go_sem]
  refine aa hJ ?_
  refine aK hJ fun nx=>?_
  refine ag hJ ?_
  simp only[*,go_sem]
  refine aa hJ ?_
  refine aK hJ fun hi=>?_
  refine ag hJ ?_
  simp only[*,go_sem]
  refine av fun z hj cS=>?_;have nz:=aM.cons cS hi;try simp only[au] at cS
  try simp only[*,go_sem]
  refine aa hJ ?_
  refine aK hJ fun nA=>?_
  refine ag hJ ?_
  simp only[*,go_sem]
  refine aa hJ (aa hJ ?_)
  refine aK hJ fun nH=>?_
  refine ag hJ ?_
  simp only[*,go_sem]
  refine aY hJ ?_
  revert h;refine bS fun hk R hl=>?_
  refine cc hJ [8,10,11,35,36,37,38,39,40,41,42,43,44,45,46,47,48,49,50,51,52,53,54,55,56,57] (fun m a' F'=>∃(i109:Nat) (d96:Option Addr) (M:Nat) (W:List (Nat×Obj)) (d103:Option Addr) (u:Nat) (C:List (Nat×Obj)) (D:(List Int)) (g:(List bP)),m=u0.told.length - i109/\i109<=u0.told.length/\bE (wj T) i109 (u0.told.drop i109) (D,g)=some hk/\F'=⟨B,(z,bl b.1 c d f (sl d103 g u))::(s,bl b.1 c d f q)::(o,bk u0 s1 i j (sl d24 u0.told k))::(W++(C++w))⟩/\aV rI B 3 (.slice d96 D.length M) D W/\D.length<=M/\aV c8 B 91 (.slice d103 g.length u) g C/\g.length<=u/\slot a' 35= .int .i64 (i109:Int)/\slot a' 8= .slice d96 D.length M) u0.told.length ?_ ?_
  ·refine ⟨0,none,0,[],none,0,[],([]:List Int),([]:List bP),(Nat.sub_zero _).symm,Nat.zero_le _,R,rfl,aV.nil _ _ _,Nat.le_refl _,aV.nil _ _ _,Nat.le_refl _,?_⟩
   simp only[*,go_sem]
  rintro nI hn F' a8 ⟨i109,d96,M,W,d103,u,C,D,g,rfl,nK,R,rfl,X,ho,N,hp,nQ,nR⟩
  obtain ⟨hq,hr,ht⟩:=a8.pick [1,2,3,4,6,7,9,25,26,27,28,29,30,31,32,33,34] (by decide)
  simp only[*,go_sem] at hq hr ht
  have nT:dD [6,7,8,9,10,11,26,27,28,29,30,31,32,33,34,35,36,37,38,39,40,41,42,43,44,45,46,47,48,49,50,51,52,53,54,55,56,57,58,59,60,61,62,63,64,65] hn ha:=(a8.jg (by decide)).trans (by simp only[*,go_sem])
  clear a8 cf cl cy hf hg
  refine aa hJ (ag hJ ?_)
  simp only[*,go_sem]
  refine aa hJ ?_
  rcases Nat.lt_or_ge i109 u0.told.length with hv|c0
  ·refine bM hJ (by simp only[*,go_sem]) ?_
   refine aG hJ ?_
   obtain ⟨a,a9⟩:∃x,u0.told[i109]?=some x:=⟨_,List.getElem?_eq_getElem hv⟩
   rw[c7 a9] at R
   revert R;refine bS fun nV h ao=>?_
   unfold wj at h
   try dsimp only at h
   obtain ⟨E,hx,hy,hz,ba⟩:=K.t.el _ _ a9
   obtain rfl:hx=a.cells:=hz
   cases hy
   have hA:=ba 0 _ rfl;simp only[go_sem] at hA
   have hB:=ba 1 _ rfl;simp only[go_sem] at hB
   clear ba a9
   refine aa hJ (aY hJ (aa hJ ?_))
   refine aK hJ fun hD=>?_
   refine ag hJ ?_
   simp only[*,go_sem]
   refine av fun F nX da=>?_;have nY:=aM.cons da hD;try simp only[au] at da
   try simp only[*,go_sem]
   refine aa hJ ?_
   refine aK hJ fun n0=>?_
   refine ag hJ ?_
   revert h;refine bS fun n1 db h=>?_
   obtain ⟨n2,hE⟩:=DS db
   clear db
   try simp only[go_sem] at hE
   try simp only[*,go_sem]
   revert h;refine jC hJ (by simp only[*,go_sem]) (fun hF h=>?_) fun hF h=>?_
   ·refine aK hJ fun dd=>?_
    refine gq hJ mixed [13] (.pure 0 (.pure 1 (.pure 4 (.pure 5 (.rd 6 (.rd 7 (.two 2 (.two 3 (.one 8 (.one 9 (.pure 10 (.pure 11 (.pure 12 (.last 13 .done)))))) 8 (.one 3 (.one 9 (.pure 10 (.pure 11 (.pure 12 (.last 13 .done))))))) 8 (.one 2 (.one 3 (.one 9 (.pure 10 (.pure 11 (.pure 12 (.last 13 .done)))))))))))))) ⟨B,[(F,.cells #[.int .i64 a.aW,.bool a.bu] 91),(z,bl b.1 c d f (sl d103 g u)),(s,bl b.1 c d f q),(o,bk u0 s1 i j (sl (some E) u0.told k))]⟩ (by simp only[*,go_sem]) (by kernel_rfl) ?_
    simp only[*,go_sem]
    refine jY ?_ ?_
    ·simp only[*,go_sem]
     refine av fun O df dk=>?_;have dp:=aM.cons dk dd;try simp only[au] at dk
     try simp only[*,go_sem]
     refine jY ?_ ?_
     ·revert h;refine bS fun hG hI h=>?_
      obtain ⟨hK,dq⟩:=c5 hI
      simp only[*,go_sem]
      refine dF (r:=rI) (l:=D) (x:=(i109:Int)) (cs:=#[.int .i64 (i109:Int)]) (e2:=3) [(O,ic (i109:Int)),(F,.cells #[.int .i64 a.aW,.bool a.bu] 91),(z,bl b.1 c d f (sl d103 g u)),(s,bl b.1 c d f q),(o,bk u0 s1 i j (sl (some E) u0.told k))] (C++w) X dp hK rfl (by simp only[*,go_sem]) df rfl rfl fH fH kO kQ rfl kP (by decide) (by decide) (fun n3 ar bb G H hL=>?_)
      simp only[List.append_nil,List.cons_append,List.nil_append,List.append_assoc] at H
      subst G
      rw[<-dq] at bb;clear dq
      obtain ⟨d197,hM,rfl,hN⟩:=bb.len
      refine ⟨⟨B,(O,ic (i109:Int))::(F,.cells #[.int .i64 a.aW,.bool a.bu] 91)::(z,bl b.1 c d f (sl d103 g u))::(s,bl b.1 c d f q)::(o,bk u0 s1 i j (sl (some E) u0.told k))::(ar++(C++w))⟩,Le.refl _,?_⟩
      refine ⟨by simp only[*,go_sem],bQ ?_⟩
      revert h;refine bS fun hP hQ h=>?_
      obtain rfl:=sI h
      obtain ⟨hR,ds⟩:=c5 hQ
      try simp only[*,go_sem]
      refine av fun dt hS du=>?_;have hT:=aM.cons du hL;try simp only[au] at du
      try simp only[*,go_sem]
      refine dF (r:=c8) (l:=g) (x:=a) (cs:=#[.int .i64 a.aW,.bool a.bu]) (e2:=91) ((dt,.cells #[.int .i64 a.aW,.bool a.bu] 91)::(O,ic (i109:Int))::(F,.cells #[.int .i64 a.aW,.bool a.bu] 91)::(z,bl b.1 c d f (sl d103 g u))::(s,bl b.1 c d f q)::(o,bk u0 s1 i j (sl (some E) u0.told k))::ar) w N hT hR rfl (by simp only[*,go_sem]) hS rfl rfl ei ei gZ g6 rfl g5 (by decide) (by decide) (fun oi dv bc G H oj=>?_)
      simp only[List.append_nil,List.cons_append,List.nil_append,List.append_assoc] at H
      subst G
      rw[<-ds] at bc;clear ds
      obtain ⟨d208,hV,rfl,hX⟩:=bc.len
      refine ⟨⟨B,(dt,.cells #[.int .i64 a.aW,.bool a.bu] 91)::(O,ic (i109:Int))::(F,.cells #[.int .i64 a.aW,.bool a.bu] 91)::(z,bl b.1 c d f (sl d103 g u))::(s,bl b.1 c d f q)::(o,bk u0 s1 i j (sl (some E) u0.told k))::(ar++(dv++w))⟩,Le.refl _,?_⟩
      refine ⟨by simp only[*,go_sem],bQ ?_⟩
      try simp only[*,go_sem]
      have bd:=cq (n:=i109) (by have:=Z;omega)
      refine ag hJ ?_
      simp only[*,go_sem]
      refine ⟨u0.told.length - (i109+1),by omega,_,Le.sub (List.Sublist.cons _ (List.Sublist.cons _ (List.Sublist.cons _ (List.Sublist.refl _)))),i109+1,d197,hM,ar,d208,hV,dv,hG,hP,rfl,by omega,ao,rfl,bb,hN,bc,hX,?_⟩
      simp only[*,go_sem]
     revert h;refine bS fun hY hZ h=>?_
     obtain ⟨h0,dC⟩:=c5 hZ
     simp only[*,go_sem]
     refine av fun a0 h1 dE=>?_;have h2:=aM.cons dE dp;try simp only[au] at dE
     try simp only[*,go_sem]
     refine dF (r:=rI) (l:=D) (x:=(i109:Int)) (cs:=#[.int .i64 (i109:Int)]) (e2:=3) [(a0,.cells #[.int .i64 a.aW,.bool a.bu] 91),(O,ic (i109:Int)),(F,.cells #[.int .i64 a.aW,.bool a.bu] 91),(z,bl b.1 c d f (sl d103 g u)),(s,bl b.1 c d f q),(o,bk u0 s1 i j (sl (some E) u0.told k))] (C++w) X h2 h0 rfl (by simp only[*,go_sem]) df rfl rfl fH fH kO kQ rfl kP (by decide) (by decide) (fun ox a2 bj G H h3=>?_)
     simp only[List.append_nil,List.cons_append,List.nil_append,List.append_assoc] at H
     subst G
     rw[<-dC] at bj;clear dC
     obtain ⟨h4,h5,rfl,h6⟩:=bj.len
     refine ⟨⟨B,(a0,.cells #[.int .i64 a.aW,.bool a.bu] 91)::(O,ic (i109:Int))::(F,.cells #[.int .i64 a.aW,.bool a.bu] 91)::(z,bl b.1 c d f (sl d103 g u))::(s,bl b.1 c d f q)::(o,bk u0 s1 i j (sl (some E) u0.told k))::(a2++(C++w))⟩,Le.refl _,?_⟩
     refine ⟨by simp only[*,go_sem],bQ ?_⟩
     revert h;refine bS fun h7 h8 h=>?_
     obtain rfl:=sI h
     obtain ⟨h9,dT⟩:=c5 h8
     try simp only[*,go_sem]
     refine dF (r:=c8) (l:=g) (x:=a) (cs:=#[.int .i64 a.aW,.bool a.bu]) (e2:=91) ((a0,.cells #[.int .i64 a.aW,.bool a.bu] 91)::(O,ic (i109:Int))::(F,.cells #[.int .i64 a.aW,.bool a.bu] 91)::(z,bl b.1 c d f (sl d103 g u))::(s,bl b.1 c d f q)::(o,bk u0 s1 i j (sl (some E) u0.told k))::a2) w N h3 h9 rfl (by simp only[*,go_sem]) h1 rfl rfl ei ei gZ g6 rfl g5 (by decide) (by decide) (fun oy ea bm G H o0=>?_)
     simp only[List.append_nil,List.cons_append,List.nil_append,List.append_assoc] at H
     subst G
     rw[<-dT] at bm;clear dT
     obtain ⟨ib,ih,rfl,ik⟩:=bm.len
     refine ⟨⟨B,(a0,.cells #[.int .i64 a.aW,.bool a.bu] 91)::(O,ic (i109:Int))::(F,.cells #[.int .i64 a.aW,.bool a.bu] 91)::(z,bl b.1 c d f (sl d103 g u))::(s,bl b.1 c d f q)::(o,bk u0 s1 i j (sl (some E) u0.told k))::(a2++(ea++w))⟩,Le.refl _,?_⟩
     refine ⟨by simp only[*,go_sem],bQ ?_⟩
     try simp only[*,go_sem]
     have bd:=cq (n:=i109) (by have:=Z;omega)
     refine ag hJ ?_
     simp only[*,go_sem]
     refine ⟨u0.told.length - (i109+1),by omega,_,Le.sub (List.Sublist.cons _ (List.Sublist.cons _ (List.Sublist.cons _ (List.Sublist.refl _)))),i109+1,h4,h5,a2,ib,ih,ea,hY,h7,rfl,by omega,ao,rfl,bj,h6,bm,ik,?_⟩
     simp only[*,go_sem]
    revert h;refine bS fun il im h=>?_
    obtain ⟨iv,eb⟩:=c5 im
    simp only[*,go_sem]
    refine av fun a3 ix ec=>?_;have j1:=aM.cons ec dd;try simp only[au] at ec
    try simp only[*,go_sem]
    refine av fun a4 j2 ed=>?_;have kh:=aM.cons ed j1;try simp only[au] at ed
    try simp only[*,go_sem]
    refine dF (r:=rI) (l:=D) (x:=(i109:Int)) (cs:=#[.int .i64 (i109:Int)]) (e2:=3) [(a4,ic (i109:Int)),(a3,.cells #[.int .i64 a.aW,.bool a.bu] 91),(F,.cells #[.int .i64 a.aW,.bool a.bu] 91),(z,bl b.1 c d f (sl d103 g u)),(s,bl b.1 c d f q),(o,bk u0 s1 i j (sl (some E) u0.told k))] (C++w) X kh iv rfl (by simp only[*,go_sem]) j2 rfl rfl fH fH kO kQ rfl kP (by decide) (by decide) (fun o1 a5 bo G H kj=>?_)
    simp only[List.append_nil,List.cons_append,List.nil_append,List.append_assoc] at H
    subst G
    rw[<-eb] at bo;clear eb
    obtain ⟨kk,kl,rfl,km⟩:=bo.len
    refine ⟨⟨B,(a4,ic (i109:Int))::(a3,.cells #[.int .i64 a.aW,.bool a.bu] 91)::(F,.cells #[.int .i64 a.aW,.bool a.bu] 91)::(z,bl b.1 c d f (sl d103 g u))::(s,bl b.1 c d f q)::(o,bk u0 s1 i j (sl (some E) u0.told k))::(a5++(C++w))⟩,Le.refl _,?_⟩
    refine ⟨by simp only[*,go_sem],bQ ?_⟩
    revert h;refine bS fun kn kp h=>?_
    obtain rfl:=sI h
    obtain ⟨ks,eh⟩:=c5 kp
    try simp only[*,go_sem]
    refine dF (r:=c8) (l:=g) (x:=a) (cs:=#[.int .i64 a.aW,.bool a.bu]) (e2:=91) ((a4,ic (i109:Int))::(a3,.cells #[.int .i64 a.aW,.bool a.bu] 91)::(F,.cells #[.int .i64 a.aW,.bool a.bu] 91)::(z,bl b.1 c d f (sl d103 g u))::(s,bl b.1 c d f q)::(o,bk u0 s1 i j (sl (some E) u0.told k))::a5) w N kj ks rfl (by simp only[*,go_sem]) ix rfl rfl ei ei gZ g6 rfl g5 (by decide) (by decide) (fun o2 et br G H o4=>?_)
    simp only[List.append_nil,List.cons_append,List.nil_append,List.append_assoc] at H
    subst G
    rw[<-eh] at br;clear eh
    obtain ⟨kt,kv,rfl,kx⟩:=br.len
    refine ⟨⟨B,(a4,ic (i109:Int))::(a3,.cells #[.int .i64 a.aW,.bool a.bu] 91)::(F,.cells #[.int .i64 a.aW,.bool a.bu] 91)::(z,bl b.1 c d f (sl d103 g u))::(s,bl b.1 c d f q)::(o,bk u0 s1 i j (sl (some E) u0.told k))::(a5++(et++w))⟩,Le.refl _,?_⟩
    refine ⟨by simp only[*,go_sem],bQ ?_⟩
    try simp only[*,go_sem]
    have bd:=cq (n:=i109) (by have:=Z;omega)
    refine ag hJ ?_
    simp only[*,go_sem]
    refine ⟨u0.told.length - (i109+1),by omega,_,Le.sub (List.Sublist.cons _ (List.Sublist.cons _ (List.Sublist.cons _ (List.Sublist.refl _)))),i109+1,kk,kl,a5,kt,kv,et,il,kn,rfl,by omega,ao,rfl,bo,km,br,kx,?_⟩
    simp only[*,go_sem]
   obtain rfl:=sI h
   refine aG hJ ?_
   have bd:=cq (n:=i109) (by have:=Z;omega)
   refine ag hJ ?_
   simp only[*,go_sem]
   refine ⟨u0.told.length - (i109+1),by omega,_,Le.sub (List.Sublist.cons _ (List.Sublist.refl _)),i109+1,d96,M,W,d103,u,C,D,g,rfl,by omega,ao,rfl,X,ho,N,hp,?_⟩
   simp only[*,go_sem]
  have pa:=Nat.not_lt.2 c0
  refine bJ hJ (by simp only[*,go_sem]) ?_
  rw[List.drop_eq_nil_of_le c0] at R
  obtain rfl:=sI R;clear R
  have h:=hl
  dsimp only[aO] at h
  refine b7 ?_
  simp only[go_sem]
  refine aa hJ ?_
  refine aK hJ fun ky=>?_
  refine ag hJ ?_
  revert h;refine bS fun pb k0 h=>?_
  simp only[*,go_sem]
  refine aR hJ _ (An (⟨b.1.aQ,b.1.aN,b.1.aE,b.1.an,b.1.props,b.1.aF,g⟩:aj) ⟨(P.e.mono aJ),(P.p.mono aJ),(P.y.mono aJ),(N.z9 ((z,bl b.1 c d f (sl d103 g u))::(s,bl b.1 c d f q)::(o,bk u0 s1 i j (sl d24 u0.told k))::W) w (by first|rfl|simp only[List.append_nil,List.cons_append,List.nil_append,List.append_assoc]|(simp only[List.append_nil,List.cons_append,List.nil_append,List.append_assoc];rfl)) ky)⟩ k0) (aD ?_)
  try simp only[*,go_sem]
  revert h;refine jC hJ (by simp only[*,go_sem]) (fun k2 h=>?_) fun k2 h=>?_
  ·refine aK hJ fun ev=>?_
   obtain ⟨eQ,bs,Y,eS,lb⟩:=X.g7 ((z,bl b.1 c d f (sl d103 g u))::(s,bl b.1 c d f q)::(o,bk u0 s1 i j (sl d24 u0.told k))::(C++w)) [(z,bl b.1 c d f (sl d103 g u)),(s,bl b.1 c d f q),(o,bk u0 s1 i j (sl d24 u0.told k))] (C++w) (by first|rfl|simp only[List.append_nil,List.cons_append,List.nil_append,List.append_assoc]|(simp only[List.append_nil,List.cons_append,List.nil_append,List.append_assoc];rfl)) (by first|rfl|simp only[List.append_nil,List.cons_append,List.nil_append,List.append_assoc]|(simp only[List.append_nil,List.cons_append,List.nil_append,List.append_assoc];rfl)) ev (ay.cons hj (ay.cons Q (ay.cons L (ay.app N.g8 (U.g8)))))
   clear ev
   refine cu hJ lb ?_
   obtain ⟨pd,pf,-⟩:=eS.op
   replace Q:=Y.tl.hd
   replace L:=Y.tl.tl.hd
   replace N:=N.mono bs Y.tl.tl.tl.l
   replace U:=U.mono bs Y.tl.tl.tl.r
   simp only[bn] at Y
   refine aK hJ fun lh=>?_
   refine ag hJ ?_
   revert h;refine bS fun lj lk h=>?_
   obtain rfl:=sI h
   obtain ⟨ll,e0⟩:=c5 lk
   simp only[*,go_sem]
   refine av fun e1 ln e3=>?_;have lo:=aM.cons e3 lh;try simp only[au] at e3
   try simp only[*,go_sem]
   refine dF (r:=(rL rI)) (l:=I) (x:=D) (cs:=#[.slice d96 D.length M]) (e2:=64) ((e1,.cells #[.slice d96 D.length M] 64)::(z,bl b.1 c d f (sl d103 g u))::(s,bl b.1 c d f q)::(o,bk u0 s1 i j (sl d24 u0.told k))::C) [] U lo ll ⟨_,rfl,eS⟩ (by simp only[*,go_sem]) ln rfl rfl kR kR qY q2 rfl qZ (by decide) (by decide) (fun ph fa bz G H pj=>?_)
   simp only[List.append_nil,List.cons_append,List.nil_append,List.append_assoc] at H
   subst G
   rw[<-e0] at bz;clear e0
   obtain ⟨lr,lv,rfl,lx⟩:=bz.len
   refine ⟨⟨eQ,(e1,.cells #[.slice d96 D.length M] 64)::(z,bl b.1 c d f (sl d103 g u))::(s,bl b.1 c d f q)::(o,bk u0 s1 i j (sl d24 u0.told k))::(C++fa)⟩,Le.refl _,?_⟩
   refine aD ?_
   try simp only[*,go_sem]
   refine aK hJ fun pk=>?_
   refine ag hJ ?_
   simp only[*,go_sem]
   refine ⟨ae,Nat.lt_succ_self _,_,Le.sub (List.Sublist.cons _ (List.Sublist.cons _ (List.Sublist.cons₂ _ (List.Sublist.cons₂ _ ((List.Sublist.refl _).trans (List.sublist_append_right _ _)))))),eQ,lr,lv,fa,lj,(IntKind.i64.wrap (T+1)),al,rfl,(V.trans bs),bz,lx,?_⟩
   simp only[*,go_sem]
  obtain rfl:=sI h
  refine aG hJ ?_
  refine aK hJ fun po=>?_
  refine ag hJ ?_
  simp only[*,go_sem]
  refine ⟨ae,Nat.lt_succ_self _,_,Le.sub (List.Sublist.cons _ (List.Sublist.cons₂ _ (List.Sublist.cons₂ _ (((List.Sublist.refl _).trans (List.sublist_append_right _ _)).trans (List.sublist_append_right _ _))))),B,d71,S,w,I,(IntKind.i64.wrap (T+1)),al,rfl,V,U,hc,?_⟩
  simp only[*,go_sem]
 obtain rfl:=sI h
 refine b7 ?_
 simp only[go_sem]
 obtain rfl:=sI al;clear al
 have h:=g4
 dsimp only[aO] at h
 refine aa hJ ?_
 refine aK hJ fun fb=>?_
 obtain ⟨pr,ly,b0,b1,lL⟩:=U.g7 ((s,bl b.1 c d f q)::(o,bk u0 s1 i j (sl d24 u0.told k))::[]) [(s,bl b.1 c d f q),(o,bk u0 s1 i j (sl d24 u0.told k))] [] (by first|rfl|simp only[List.append_nil,List.cons_append,List.nil_append,List.append_assoc]|(simp only[List.append_nil,List.cons_append,List.nil_append,List.append_assoc];rfl)) (by first|rfl|simp only[List.append_nil,List.cons_append,List.nil_append,List.append_assoc]|(simp only[List.append_nil,List.cons_append,List.nil_append,List.append_assoc];rfl)) fb (ay.cons Q (ay.cons L (ay.nil _)))
 clear fb
 refine cu hJ lL ?_
 obtain ⟨ps,pt,-⟩:=b1.op
 replace Q:=b0.hd
 replace L:=b0.tl.hd
 simp only[bn] at b0
 refine dh hJ mixed 5 2 (by simp only[*,go_sem]) (by kernel_rfl) ?_
 revert h;refine bS fun l1 l2 h=>?_
 obtain ⟨pv,pw,fg⟩:=cM l2
 obtain ⟨px,py,l3,l4,fi⟩:=b1.el _ _ fg
 obtain ⟨pA,rfl,fp⟩:=l4;obtain ⟨pB,pC,rfl,pD,pT,p0⟩:=id fp
 cases l3
 have ma:=fi 0 _ rfl;simp only[go_sem] at ma
 clear fi fg
 revert h;refine bS fun mf mi h=>?_
 obtain ⟨p1,q0,q1,fr⟩:=oV mi
 have fs:(1:Int).toNat<=((I.length:Int)).toNat:=by omega
 have ml:((I.length:Int)).toNat<=S:=by omega
 have ra:0<=((I.length:Int)):=by omega
 obtain ⟨rb,mn,mr,ft⟩:=aA.oX b1 (1:Int).toNat ((I.length:Int)).toNat fs (by omega) fr
 simp only[go_sem] at mn mr fs ml
 obtain ⟨_,_,mx,re,rh,rk⟩:=id ft;cases mx
 clear fr
 revert h;refine bS fun rl my h=>?_
 obtain rfl:=sI h
 try simp only[*,go_sem]
 refine b8 hJ _ (Fi (dI:=72) (dX:=#[]) (dY:=#[]) r8 ⟨by simp only[go_sem],fun rn rp m1 _ m2 _ _ na nb h=>by simp only[go_sem];exact FT m1 na m2 nb h⟩ l1 fp mf ft my) fun v rr fv b2 a6=>?_
 obtain ⟨rv,rfl,fw⟩:=a6
 replace Q:=b2.hd
 replace L:=b2.tl.hd
 simp only[bn] at b2
 obtain ⟨rB,sa,rfl,sb,sc,-⟩:=id fw
 have sf:=eN (l:=[(s,bl b.1 c d f q),(o,bk u0 s1 i j (sl d24 u0.told k))]) fv (ay.cons Q (ay.cons L (ay.nil _)))
 refine ⟨by simp only[*,go_sem],?_⟩
 refine kM ?_
 try simp only[*,go_sem]
 refine aB ?_
 simp only[*,go_sem]
 exact ⟨_,(((ab).trans V).trans ly).trans fv,Le.sub (List.nil_sublist _),_,rfl,fw⟩
def wq (a:(cR×Int))(i93:Nat)(b:aP)(st:(List bB)):Option (Fl (List bB) (ak×ak×Bool×Int)):=
 ah (k3 a.1.book b) fun c=>ah (cZ st ([c])) fun d=>some (.nx d)
def wu (u0:aj):Option (ak×ak×Bool×Int):=
 ah (hH u0 ([]:(List (aj->Option Int)))) fun a=>cond ((a.2 != 0)) (some ((⟨0,0⟩:ak),(⟨0,0⟩:ak),false,a.2)) (ah (sk a.1) fun g=>ah (bE (wq a) 0 g ([]:List bB)) fun o=>aO o (fun b=>ah (bK b 0) fun c=>ah (gI b 1 (b.length:Int)) fun d=>ah (j5 gv c d) fun h=>ah (j5 ry c d) fun i=>ah (jo h.high u0.aE) fun e=>ah (jm i.high u0.aE) fun f=>ah (eD f e) fun j=>cond (j) (some ((⟨0,0⟩:ak),(⟨0,0⟩:ak),false,0)) (some (e,f,true,0))) (fun _ _=>none) (fun r=>some r))
theorem FY {ro:Addr->Option Value}(bj:cT ro)(u0:aj){s1 f g i:Value}(ab:bG ro u0 s1 f g i){r:(ak×ak×Bool×Int)}(h:wu u0=some r):aC Tryz.prog 46 #[bv u0 s1 f g i] ⟨ro,[]⟩ (fun v _=>v= .tuple #[r.1.v,r.2.1.v,.bool r.2.2.1,.int .i64 r.2.2.2]):=by
 unfold wu at h
 have bl:=ab.oc;simp only[bx] at bl
 refine aC.go Tryz.func46 rfl Tryz.ntmps46 Tryz.results46 (by simp) fun main J hJ A bm hd hs=>?_
 have bo:=hs 0
 clear hs
 refine aa hJ (ag hJ ?_)
 simp only[*,go_sem]
 refine av fun j L br=>?_;try simp only[au] at br
 refine av fun z M bs=>?_;try simp only[au] at bs
 refine av fun B N bz=>?_;try simp only[au] at bz
 try simp only[*,go_sem]
 refine aa hJ (ag hJ ?_)
 revert h;refine bS fun d b0 h=>?_
 simp only[*,go_sem]
 refine b8 hJ _ (js bj u0 ab ([]:(List (aj->Option Int))) (aA.nil _ _) b0) fun v g0 g1 I O=>?_
 obtain ⟨k,o,p,q,s,rfl,D,ad⟩:=O
 have b1:=D.oc;simp only[bx] at b1
 have b2:=ad.oc;simp only[bx] at b2
 replace N:=I.hd
 replace M:=I.tl.hd
 replace L:=I.tl.tl.hd
 simp only[bn] at I
 refine aD ?_
 try simp only[*,go_sem]
 refine av fun t ae b3=>?_;try simp only[au] at b3
 try simp only[*,go_sem]
 refine aa hJ (aa hJ (ag hJ ?_))
 simp only[*,go_sem]
 revert h;refine jC hJ (by simp only[*,go_sem]) (fun b4 h=>?_) fun b4 h=>?_
 ·obtain rfl:=sI h
  refine aa hJ (ag hJ ?_)
  simp only[*,go_sem]
  refine aB ?_
  simp only[*,go_sem]
 refine aG hJ (aa hJ ?_)
 refine ag hJ ?_
 simp only[*,go_sem]
 refine aa hJ (aa hJ (ag hJ ?_))
 revert h;refine bS fun u b5 h=>?_
 simp only[*,go_sem]
 refine b8 hJ _ (Av d.1 D ad b5) fun v P ca E O=>?_
 obtain ⟨g2,rfl,al⟩:=O
 replace D:=D.mono ca
 replace ae:=E.hd
 replace N:=E.tl.hd
 replace M:=E.tl.tl.hd
 replace L:=E.tl.tl.tl.hd
 simp only[bn] at E
 obtain ⟨d81,g3,rfl,g4,cb,-⟩:=id al
 refine aD ?_
 try simp only[*,go_sem]
 refine aY hJ ?_
 revert h;refine bS fun cd w cf=>?_
 refine cc hJ [7,9,25,26,27,28,29,30,31,32,33,34,35,36] (fun m a' F'=>∃(i93:Nat) (d87:Option Addr) (G:Nat) (Q:List (Nat×Obj)) (e:(List bB)),m=u.length - i93/\i93<=u.length/\bE (wq d) i93 (u.drop i93) e=some cd/\F'=⟨P,(t,kn d.1 k o p q s)::(B,rt 0 0)::(z,rt 0 0)::(j,bk u0 s1 f g i)::Q⟩/\aV j0 P 107 (.slice d87 e.length G) e Q/\e.length<=G/\slot a' 25= .int .i64 (i93:Int)/\slot a' 7= .slice d87 e.length G) u.length ?_ ?_
 ·refine ⟨0,none,0,[],([]:List bB),(Nat.sub_zero _).symm,Nat.zero_le _,w,rfl,aV.nil _ _ _,Nat.le_refl _,?_⟩
  simp only[*,go_sem]
 rintro ha hc F' ao ⟨i93,d87,G,Q,e,rfl,hf,w,rfl,ar,hg,hh,hi⟩
 obtain ⟨cl,cy,cS⟩:=ao.pick [1,2,3,4,5,6,23,24] (by decide)
 simp only[*,go_sem] at cl cy cS
 clear ao bm hd bo
 refine aa hJ (ag hJ ?_)
 simp only[*,go_sem]
 refine aa hJ ?_
 rcases Nat.lt_or_ge i93 u.length with c0|a0
 ·refine bM hJ (by simp only[*,go_sem]) ?_
  refine aG hJ ?_
  obtain ⟨C,R⟩:∃x,u[i93]?=some x:=⟨_,List.getElem?_eq_getElem c0⟩
  rw[c7 R] at w
  revert w;refine bS fun hj h da=>?_
  unfold wq at h
  try dsimp only at h
  obtain ⟨hk,db,dd,df,S⟩:=al.el _ _ R
  obtain rfl:db=C.cells:=df
  cases dd
  have dk:=S 0 _ rfl;simp only[go_sem] at dk
  have dp:=S 1 _ rfl;simp only[go_sem] at dp
  clear S R
  refine aa hJ (aY hJ (aa hJ ?_))
  refine aK hJ fun dq=>?_
  refine ag hJ ?_
  simp only[*,go_sem]
  refine av fun a2 hl a3=>?_;have hn:=aM.cons a3 dq;try simp only[au] at a3
  try simp only[*,go_sem]
  refine aK hJ fun ds=>?_
  refine ag hJ ?_
  revert h;refine bS fun a dt h=>?_
  simp only[*,go_sem]
  refine aR hJ _ (rG d.1.book (D.mono aJ) C dt) (aD ?_)
  revert h;refine bS fun du dv h=>?_
  obtain rfl:=sI h
  obtain ⟨dC,a4⟩:=c5 dv
  try simp only[*,go_sem]
  refine av fun a5 dE a6=>?_;have dT:=aM.cons a6 ds;try simp only[au] at a6
  try simp only[*,go_sem]
  refine dF (r:=j0) (l:=e) (x:=a) (cs:=#[.int .i64 a.spot.ax,.int .i64 a.spot.high.num,.int .i64 a.spot.high.den,.int .i64 a.at_,.int .i64 a.high.num,.int .i64 a.high.den]) (e2:=107) [(a5,.cells #[.int .i64 a.spot.ax,.int .i64 a.spot.high.num,.int .i64 a.spot.high.den,.int .i64 a.at_,.int .i64 a.high.num,.int .i64 a.high.den] 107),(a2,.cells #[.int .i64 C.back,.int .i64 C.high] 103),(t,kn d.1 k o p q s),(B,rt 0 0),(z,rt 0 0),(j,bk u0 s1 f g i)] [] ar dT dC rfl (by simp only[*,go_sem]) dE rfl rfl m5 m5 uO uQ rfl uP (by decide) (by decide) (fun ho a7 T ea eb hp=>?_)
  simp only[List.append_nil,List.cons_append,List.nil_append,List.append_assoc] at eb
  subst ea
  rw[<-a4] at T;clear a4
  obtain ⟨d115,ec,rfl,ed⟩:=T.len
  refine ⟨⟨P,(a5,.cells #[.int .i64 a.spot.ax,.int .i64 a.spot.high.num,.int .i64 a.spot.high.den,.int .i64 a.at_,.int .i64 a.high.num,.int .i64 a.high.den] 107)::(a2,.cells #[.int .i64 C.back,.int .i64 C.high] 103)::(t,kn d.1 k o p q s)::(B,rt 0 0)::(z,rt 0 0)::(j,bk u0 s1 f g i)::a7⟩,Le.refl _,?_⟩
  refine aD ?_
  try simp only[*,go_sem]
  have hq:=cq (n:=i93) (by have:=cb;omega)
  refine ag hJ ?_
  simp only[*,go_sem]
  refine ⟨u.length - (i93+1),by omega,_,Le.sub (List.Sublist.cons _ (List.Sublist.cons _ (List.Sublist.refl _))),i93+1,d115,ec,a7,du,rfl,by omega,da,rfl,T,ed,?_⟩
  simp only[*,go_sem]
 have hr:=Nat.not_lt.2 a0
 refine bJ hJ (by simp only[*,go_sem]) ?_
 rw[List.drop_eq_nil_of_le a0] at w
 obtain rfl:=sI w;clear w
 have h:=cf
 dsimp only[aO] at h
 refine b7 ?_
 simp only[go_sem]
 refine aa hJ ?_
 refine aK hJ fun a8=>?_
 obtain ⟨K,ht,eh,U,et⟩:=ar.eX [(t,kn d.1 k o p q s),(B,rt 0 0),(z,rt 0 0),(j,bk u0 s1 f g i)] [] a8 (ay.cons ae (ay.cons N (ay.cons M (ay.cons L (ay.nil _)))))
 clear a8
 refine cu hJ et ?_
 obtain ⟨hv,hx,-⟩:=U.op
 simp only[bn] at eh
 refine eM hJ mixed 6 ⟨K,[(t,kn d.1 k o p q s),(B,rt 0 0),(z,rt 0 0),(j,bk u0 s1 f g i)]⟩ (by simp only[*,go_sem]) (by kernel_rfl) ?_
 revert h;refine bS fun V ev h=>?_
 obtain ⟨hy,hz,a9⟩:=cM ev
 obtain ⟨hA,eQ,eS,e0,y⟩:=U.el _ _ a9
 obtain rfl:eQ=V.cells:=e0
 cases eS
 have e1:=y 0 _ rfl;simp only[go_sem] at e1
 have e3:=y 1 _ rfl;simp only[go_sem] at e3
 have fa:=y 2 _ rfl;simp only[go_sem] at fa
 have fb:=y 3 _ rfl;simp only[go_sem] at fb
 have fg:=y 4 _ rfl;simp only[go_sem] at fg
 have fi:=y 5 _ rfl;simp only[go_sem] at fi
 clear y a9
 revert h;refine bS fun ba fp h=>?_
 obtain ⟨hB,hD,hE,bb⟩:=oV fp
 have bc:(1:Int).toNat<=((e.length:Int)).toNat:=by omega
 have fr:((e.length:Int)).toNat<=G:=by omega
 have hF:0<=((e.length:Int)):=by omega
 obtain ⟨d132,fs,ft,W⟩:=aA.oX U (1:Int).toNat ((e.length:Int)).toNat bc (by omega) bb
 simp only[go_sem] at fs ft bc fr
 obtain ⟨_,_,fu,hG,hI,hK⟩:=id W;cases fu
 clear bb
 revert h;refine bS fun b fv h=>?_
 try simp only[*,go_sem]
 refine ⟨_,bA hJ fun F H=>ru (dI:=62) (dX:=#[]) (dY:=#[]) gv ⟨by simp only[go_sem],fun fw fx X Y _ h=>by simp only[go_sem];exact ri X Y h⟩ V ba (W.mono (bX H)) fv,?_⟩
 try simp only[*,go_sem]
 refine av fun Z hL gg=>?_;try simp only[au] at gg
 try simp only[*,go_sem]
 refine aa hJ ?_
 refine eM hJ mixed 6 ⟨K,[(Z,.cells #[.int .i64 b.spot.ax,.int .i64 b.spot.high.num,.int .i64 b.spot.high.den,.int .i64 b.at_,.int .i64 b.high.num,.int .i64 b.high.den] 107),(t,kn d.1 k o p q s),(B,rt 0 0),(z,rt 0 0),(j,bk u0 s1 f g i)]⟩ (by simp only[*,go_sem]) (by kernel_rfl) ?_
 revert h;refine bS fun c gl h=>?_
 simp only[*,go_sem]
 refine ⟨_,bA hJ fun F H=>ru (dI:=86) (dX:=#[]) (dY:=#[]) ry ⟨by simp only[go_sem],fun fw fx X Y _ h=>by simp only[go_sem];exact Fa X Y h⟩ V ba (W.mono (bX H)) gl,?_⟩
 try simp only[*,go_sem]
 refine av fun bd hM gn=>?_;try simp only[au] at gn
 try simp only[*,go_sem]
 refine aa hJ ?_
 refine eM hJ mixed 10 ⟨K,[(bd,.cells #[.int .i64 c.spot.ax,.int .i64 c.spot.high.num,.int .i64 c.spot.high.den,.int .i64 c.at_,.int .i64 c.high.num,.int .i64 c.high.den] 107),(Z,.cells #[.int .i64 b.spot.ax,.int .i64 b.spot.high.num,.int .i64 b.spot.high.den,.int .i64 b.at_,.int .i64 b.high.num,.int .i64 b.high.den] 107),(t,kn d.1 k o p q s),(j,bk u0 s1 f g i)]⟩ (by simp only[*,go_sem]) (by kernel_rfl) ?_
 revert h;refine bS fun gp gB h=>?_
 simp only[*,go_sem]
 refine ⟨_,bA hJ fun F H=>pJ b.high u0.aE gB,bV ?_⟩
 revert h;refine bS fun gC gM h=>?_
 try simp only[*,go_sem]
 refine ⟨_,bA hJ fun F H=>pI c.high u0.aE gM,?_⟩
 try simp only[*,go_sem]
 refine aa hJ (aa hJ (ag hJ ?_))
 revert h;refine bS fun hN gT h=>?_
 simp only[*,go_sem]
 refine aR hJ _ (iJ gC gp gT) ?_
 try simp only[*,go_sem]
 revert h;refine jC hJ (by simp only[*,go_sem]) (fun gV h=>?_) fun gV h=>?_
 ·obtain rfl:=sI h
  refine aa hJ (ag hJ ?_)
  simp only[*,go_sem]
  refine aB ?_
  simp only[*,go_sem]
 refine aG hJ (aa hJ ?_)
 refine gq hJ mixed [] (.two 0 (.two 1 (.one 2 (.one 3 (.pure 4 (.pure 5 .done)))) 2 (.one 1 (.one 3 (.pure 4 (.pure 5 .done))))) 1 (.one 0 (.one 2 (.one 3 (.pure 4 (.pure 5 .done)))))) ⟨K,[(bd,.cells #[.int .i64 c.spot.ax,.int .i64 c.spot.high.num,.int .i64 c.spot.high.den,.int .i64 c.at_,.int .i64 c.high.num,.int .i64 c.high.den] 107),(Z,.cells #[.int .i64 b.spot.ax,.int .i64 b.spot.high.num,.int .i64 b.spot.high.den,.int .i64 b.at_,.int .i64 b.high.num,.int .i64 b.high.den] 107),(t,kn d.1 k o p q s),(j,bk u0 s1 f g i)]⟩ (by simp only[*,go_sem]) (by kernel_rfl) ?_
 simp only[*,go_sem]
 refine jY ?_ ?_
 ·simp only[*,go_sem]
  refine jY ?_ ?_
  ·obtain rfl:=sI h
   simp only[*,go_sem]
   refine aB ?_
   simp only[*,go_sem]
  obtain rfl:=sI h
  simp only[*,go_sem]
  refine aB ?_
  simp only[*,go_sem]
 obtain rfl:=sI h
 simp only[*,go_sem]
 refine aB ?_
 simp only[*,go_sem]
def sn (u0:aj)(b:Int):Option ((List Int)×Int):=
 ah (hH u0 ([(e7 b)])) fun a=>cond ((a.2 != 0)) (some (([]:(List Int)),a.2)) (ah (nC a.1 b) fun c=>some (c,0))
theorem wv {ro:Addr->Option Value}(g:cT ro)(u0:aj){s1 i j k:Value}(f:bG ro u0 s1 i j k)(a:Int){r:((List Int)×Int)}(h:sn u0 a=some r):eu Tryz.prog 41 #[bv u0 s1 i j k,.int .i64 a] ro (fun v aL=>∃m,v= .tuple #[m,.int .i64 r.2]/\aA rI aL m r.1):=by
 unfold sn at h
 have D:=f.oc;simp only[bx] at D
 refine aC.go Tryz.func41 rfl Tryz.ntmps41 Tryz.results41 (by simp) fun main J hJ A Y hd hs=>?_
 have Z:=hs 0
 have k1:=hs 1
 clear hs
 refine aa hJ (ag hJ ?_)
 simp only[*,go_sem]
 refine av fun E F G=>?_;try simp only[au] at G
 try simp only[*,go_sem]
 refine aa hJ ?_
 refine aK hJ fun H=>?_
 refine ag hJ ?_
 revert h;refine bS fun I K h=>?_
 simp only[*,go_sem]
 refine av fun c n p=>?_;have q:=aM.cons p H;try simp only[au] at p
 try simp only[*,go_sem]
 obtain ⟨d,s,t⟩:=eV (b:=c) (o:=(.cells #[.func (.func 77) #[.int .i64 a] #[]] 102)) [] ((E,bk u0 s1 i j k)::[]) q n (ay.cons F (ay.nil _))
 have u:aA (cW) (bN ro c (.cells #[.func (.func 77) #[.int .i64 a] #[]] 102)) (.slice (some ⟨c,0,none⟩) 1 1) [(e7 a)]:=(aA.one (r:=(cW)) (e:=102) (cs:=#[.func (.func 77) #[.int .i64 a] #[]]) (x:=(e7 a)) (own:=[(c,.cells #[.func (.func 77) #[.int .i64 a] #[]] 102)]) n (by simp[lk]) ⟨77,#[.int .i64 a],#[],rfl,⟨by simp only[go_sem],fun ab ad L _ _ _ _ _ M N O P h=>by simp only[go_sem];exact rq a L ⟨M,N,O,P⟩ h⟩⟩)
 generalize bN ro c (.cells #[.func (.func 77) #[.int .i64 a] #[]] 102)=ae at u s d t
 refine fS hJ t ?_
 replace f:=f.mono d
 replace g:=g.mono d
 simp only[bn] at s
 have Q:=aM.tl q
 refine b8 hJ _ (js g u0 f ([(e7 a)]) u K) fun v al w R l=>?_
 obtain ⟨ao,ar,a0,a2,a3,rfl,y,z⟩:=l
 have S:=y.oc;simp only[bx] at S
 have T:=z.oc;simp only[bx] at T
 simp only[bn] at R
 refine aD ?_
 try simp only[*,go_sem]
 refine av fun a4 a5 B=>?_;have a6:=aM.cons B Q;try simp only[au] at B
 try simp only[*,go_sem]
 refine aa hJ (aa hJ (ag hJ ?_))
 simp only[*,go_sem]
 revert h;refine jC hJ (by simp only[*,go_sem]) (fun U h=>?_) fun U h=>?_
 ·obtain rfl:=sI h
  refine aa hJ (ag hJ ?_)
  simp only[*,go_sem]
  refine aB ?_
  simp only[*,go_sem]
  exact ⟨_,(d).trans w,Le.sub (List.nil_sublist _),_,rfl,aA.nil _ _⟩
 refine aG hJ (aa hJ ?_)
 refine ag hJ ?_
 revert h;refine bS fun a7 V h=>?_
 obtain rfl:=sI h
 simp only[*,go_sem]
 refine b8 hJ _ (sj I.1 y z a V) fun v a8 W X l=>?_
 obtain ⟨a9,rfl,C⟩:=l
 simp only[bn] at X
 obtain ⟨d89,ba,rfl,bb,bc,-⟩:=id C
 refine aD ?_
 try simp only[*,go_sem]
 refine aB ?_
 simp only[*,go_sem]
 exact ⟨_,((d).trans w).trans W,Le.sub (List.nil_sublist _),_,rfl,C⟩
def wz (a:(cR×Int))(i80:Nat)(i102:Nat)(c:Int)(st:(Int×ak)):Option (Fl (Int×ak) (Int×ak×Int)):=
 ah (jq a.1.book (i80:Int) c) fun b=>ah (fU a.1.book b) fun d=>cond (d) (ah (j6 a.1.book b) fun e=>ah (eD st.2 e) fun f=>cond (f) (ah (j6 a.1.book b) fun g=>some (.nx ((i80:Int),g))) (some (.nx (st.1,st.2)))) (some (.nx (st.1,st.2)))
def wA (a:(cR×Int))(i80:Nat)(d:bR)(st:(Int×ak)):Option (Fl (Int×ak) (Int×ak×Int)):=
 ah (nC a.1 (i80:Int)) fun c=>ah (bE (wz a i80) 0 c (st.1,st.2)) fun o=>aO o (fun b=>some (.nx (b.1,b.2))) (fun _ _=>none) (fun r=>some (.rt r))
def so (u0:aj):Option (Int×ak×Int):=
 ah (hH u0 ([]:(List (aj->Option Int)))) fun a=>cond ((a.2 != 0)) (some (0,(⟨0,0⟩:ak),a.2)) (ah (fT 0) fun c=>ah (bE (wA a) 0 a.1.book.aF ((-1),c)) fun o=>aO o (fun b=>some (b.1,b.2,0)) (fun _ _=>none) (fun r=>some r))
theorem Ax {ro:Addr->Option Value}(ao:cT ro)(u0:aj){s1 j k l:Value}(Q:bG ro u0 s1 j k l){r:(Int×ak×Int)}(h:so u0=some r):aC Tryz.prog 45 #[bv u0 s1 j k l] ⟨ro,[]⟩ (fun v _=>v= .tuple #[.int .i64 r.1,r.2.1.v,.int .i64 r.2.2]):=by
 unfold so at h
 have ar:=Q.oc;simp only[bx] at ar
 refine aC.go Tryz.func45 rfl Tryz.ntmps45 Tryz.results45 (by simp) fun main J hJ A a0 hd hs=>?_
 have a2:=hs 0
 clear hs
 refine aa hJ (ag hJ ?_)
 simp only[*,go_sem]
 refine av fun u et a3=>?_;try simp only[au] at a3
 refine av fun w ev a4=>?_;try simp only[au] at a4
 try simp only[*,go_sem]
 refine aa hJ (ag hJ ?_)
 revert h;refine bS fun a a5 h=>?_
 simp only[*,go_sem]
 refine b8 hJ _ (js ao u0 Q ([]:(List (aj->Option Int))) (aA.nil _ _) a5) fun v R eQ a6 z=>?_
 obtain ⟨B,C,eS,D,E,rfl,b,o⟩:=z
 have a7:=b.oc;simp only[bx] at a7
 have a8:=o.oc;simp only[bx] at a8
 simp only[bn] at a6
 obtain ⟨d52,G,rfl,e0,a9,-⟩:=id b.y
 refine aD ?_
 try simp only[*,go_sem]
 refine av fun H e1 ba=>?_;try simp only[au] at ba
 try simp only[*,go_sem]
 refine aa hJ (aa hJ (ag hJ ?_))
 simp only[*,go_sem]
 revert h;refine jC hJ (by simp only[*,go_sem]) (fun bb h=>?_) fun bb h=>?_
 ·obtain rfl:=sI h
  refine aa hJ (ag hJ ?_)
  simp only[*,go_sem]
  refine aB ?_
  simp only[*,go_sem]
 refine aG hJ (aa hJ ?_)
 refine ag hJ ?_
 revert h;refine bS fun bc bd h=>?_
 simp only[*,go_sem]
 refine aR hJ _ (jl 0 bd) (aD ?_)
 try simp only[*,go_sem]
 refine aa hJ (aa hJ (ag hJ ?_))
 simp only[*,go_sem]
 refine aY hJ ?_
 revert h;refine bS fun bj e bl=>?_
 refine cc hJ [2,6,8,9,25,26,27,28,29,30,31,32,33,34,35,36,37,38,39,40,41,42,43,44,45,46,47,48,49,50,51,52,53,54,55,56,57,58,59] (fun m a' F'=>∃(i80:Nat) (p:Addr->Option Value) (q:Int) (f:ak),m=a.1.book.aF.length - i80/\i80<=a.1.book.aF.length/\bE (wA a) i80 (a.1.book.aF.drop i80) (q,f)=some bj/\F'=⟨p,(H,kn a.1 B C (sl d52 a.1.book.aF G) D E)::(w,rt f.num f.den)::(u,bk u0 s1 j k l)::[]⟩/\Ext R p/\slot a' 25= .int .i64 (i80:Int)/\slot a' 2= .int .i64 q) a.1.book.aF.length ?_ ?_
 ·refine ⟨0,R,(-1),bc,(Nat.sub_zero _).symm,Nat.zero_le _,e,rfl,Ext.refl _,?_⟩
  simp only[*,go_sem]
 rintro e2 bm F' S ⟨i80,p,q,f,rfl,e3,e,rfl,I,bo,br⟩
 refine e6 hJ fun _ bs=>?_
 replace b:=b.mono I
 replace o:=o.mono I
 simp only[bn] at bs
 obtain ⟨T,U,V⟩:=S.pick [3,4,5,24] (by decide)
 simp only[*,go_sem] at T U V
 clear S a0 hd a2
 refine aa hJ (ag hJ ?_)
 simp only[*,go_sem]
 refine aa hJ ?_
 rcases Nat.lt_or_ge i80 a.1.book.aF.length with bz|W
 ·refine bM hJ (by simp only[*,go_sem]) ?_
  refine aG hJ ?_
  obtain ⟨b0,K⟩:∃x,a.1.book.aF[i80]?=some x:=⟨_,List.getElem?_eq_getElem bz⟩
  rw[c7 K] at e
  revert e;refine bS fun fa h b1=>?_
  unfold wA at h
  try dsimp only at h
  obtain ⟨b2,b3,b4,b5,s⟩:=b.y.el _ _ K
  obtain rfl:b3=b0.cells:=b5
  cases b4
  have ca:=s 0 _ rfl;simp only[go_sem] at ca
  have cb:=s 1 _ rfl;simp only[go_sem] at cb
  have cd:=s 2 _ rfl;simp only[go_sem] at cd
  clear s K
  refine aa hJ (aY hJ (aa hJ ?_))
  refine ag hJ ?_
  simp only[*,go_sem]
  refine aa hJ (ag hJ ?_)
  revert h;refine bS fun c cf h=>?_
  simp only[*,go_sem]
  refine b8 hJ _ (sj a.1 b o (i80:Int) cf) fun v X Y cl z=>?_
  obtain ⟨fb,rfl,Z⟩:=z
  replace b:=b.mono Y
  simp only[bn] at cl
  obtain ⟨d95,fg,rfl,fi,L,-⟩:=id Z
  refine aD ?_
  try simp only[*,go_sem]
  refine aY hJ ?_
  revert h;refine bS fun cy g c0=>?_
  refine cc hJ [2,8,9,32,33,34,35,36,37,38,39,40,41,42,43,44,45,46,47,48,49,50,51,52,53,54,55,56,57,58] (fun m a' F'=>∃(i102:Nat) (i:Int) (d:ak),m=c.length - i102/\i102<=c.length/\bE (wz a i80) i102 (c.drop i102) (i,d)=some cy/\F'=⟨X,(H,kn a.1 B C (sl (some b2) a.1.book.aF G) D E)::(w,rt d.num d.den)::(u,bk u0 s1 j k l)::[]⟩/\slot a' 32= .int .i64 (i102:Int)/\slot a' 2= .int .i64 i) c.length ?_ ?_
  ·refine ⟨0,q,f,(Nat.sub_zero _).symm,Nat.zero_le _,g,rfl,?_⟩
   simp only[*,go_sem]
  rintro fp da F' M ⟨i102,i,d,rfl,fr,g,rfl,fs,ft⟩
  obtain ⟨db,dd,df⟩:=M.pick [3,4,5,6,24,25,26,27,28,29,30,31] (by decide)
  simp only[*,go_sem] at db dd df
  have fu:dD [2,6,8,9,25,26,27,28,29,30,31,32,33,34,35,36,37,38,39,40,41,42,43,44,45,46,47,48,49,50,51,52,53,54,55,56,57,58,59] da bm:=(M.jg (by decide)).trans (by simp only[*,go_sem])
  clear M T U V br bo
  refine aa hJ (ag hJ ?_)
  simp only[*,go_sem]
  refine aa hJ ?_
  rcases Nat.lt_or_ge i102 c.length with dk|ab
  ·refine bM hJ (by simp only[*,go_sem]) ?_
   refine aG hJ ?_
   obtain ⟨ad,N⟩:∃x,c[i102]?=some x:=⟨_,List.getElem?_eq_getElem dk⟩
   rw[c7 N] at g
   revert g;refine bS fun fv h O=>?_
   unfold wz at h
   try dsimp only at h
   obtain ⟨fw,dp,dq,ds,ae⟩:=Z.el _ _ N
   obtain rfl:dp=[.int .i64 ad]:=ds
   cases dq
   have dt:=ae 0 _ rfl;simp only[go_sem] at dt
   clear ae N
   refine aa hJ (aY hJ (aa hJ ?_))
   refine ag hJ ?_
   simp only[*,go_sem]
   refine aa hJ (ag hJ ?_)
   revert h;refine bS fun P du h=>?_
   simp only[*,go_sem]
   refine aR hJ _ (lZ a.1.book (b.mono aJ) (i80:Int) ad du) (aD ?_)
   try simp only[*,go_sem]
   refine av fun fx gg dv=>?_;try simp only[au] at dv
   try simp only[*,go_sem]
   refine aa hJ ?_
   refine dh hJ mixed 12 4 (by simp only[*,go_sem]) (by kernel_rfl) ?_
   revert h;refine bS fun gl dC h=>?_
   simp only[*,go_sem]
   refine ⟨_,bA hJ fun F t=>mc a.1.book (b.mono (bX t)) P dC,bV ?_⟩
   revert h;refine cS (fun dE h=>?_) fun dE h=>?_
   ·revert h;refine bS fun dT ea h=>?_
    try simp only[*,go_sem]
    refine ⟨_,bA hJ fun F t=>rH a.1.book (b.mono (bX t)) P ea,bV ?_⟩
    revert h;refine bS fun gn eb h=>?_
    try simp only[*,go_sem]
    refine ⟨_,bA hJ fun F t=>iJ d dT eb,bV ?_⟩
    try simp only[*,go_sem]
    revert h;refine jC hJ (by simp only[*,go_sem]) (fun ec h=>?_) fun ec h=>?_
    ·refine ag hJ ?_
     revert h;refine bS fun ed eh h=>?_
     obtain rfl:=sI h
     simp only[*,go_sem]
     refine aR hJ _ (rH a.1.book (b.mono aJ) P eh) (aD ?_)
     try simp only[*,go_sem]
     have al:=cq (n:=i102) (by have:=L;omega)
     refine ag hJ ?_
     simp only[*,go_sem]
     refine ⟨c.length - (i102+1),by omega,_,Le.sub (List.Sublist.cons _ (List.Sublist.refl _)),i102+1,(i80:Int),ed,rfl,by omega,O,rfl,?_⟩
     simp only[*,go_sem]
    obtain rfl:=sI h
    refine aG hJ ?_
    have al:=cq (n:=i102) (by have:=L;omega)
    refine ag hJ ?_
    simp only[*,go_sem]
    refine ⟨c.length - (i102+1),by omega,_,Le.sub (List.Sublist.cons _ (List.Sublist.refl _)),i102+1,i,d,rfl,by omega,O,rfl,?_⟩
    simp only[*,go_sem]
   obtain rfl:=sI h
   try simp only[*,go_sem]
   refine bJ hJ (by simp only[*,go_sem]) ?_
   refine aG hJ ?_
   have al:=cq (n:=i102) (by have:=L;omega)
   refine ag hJ ?_
   simp only[*,go_sem]
   refine ⟨c.length - (i102+1),by omega,_,Le.sub (List.Sublist.cons _ (List.Sublist.refl _)),i102+1,i,d,rfl,by omega,O,rfl,?_⟩
   simp only[*,go_sem]
  have gp:=Nat.not_lt.2 ab
  refine bJ hJ (by simp only[*,go_sem]) ?_
  rw[List.drop_eq_nil_of_le ab] at g
  obtain rfl:=sI g;clear g
  have h:=c0
  dsimp only[aO] at h
  obtain rfl:=sI h
  refine b7 ?_
  simp only[go_sem]
  have gB:=cq (n:=i80) (by have:=a9;omega)
  refine ag hJ ?_
  simp only[*,go_sem]
  refine ⟨a.1.book.aF.length - (i80+1),by omega,_,Le.sub (List.Sublist.refl _),i80+1,X,i,d,rfl,by omega,b1,rfl,(I.trans Y),?_⟩
  simp only[*,go_sem]
 have gC:=Nat.not_lt.2 W
 refine bJ hJ (by simp only[*,go_sem]) ?_
 rw[List.drop_eq_nil_of_le W] at e
 obtain rfl:=sI e;clear e
 have h:=bl
 dsimp only[aO] at h
 obtain rfl:=sI h
 refine b7 ?_
 simp only[go_sem]
 refine aa hJ ?_
 refine gq hJ mixed [3,4] (.pure 0 (.rd 1 (.pure 2 (.last 3 (.pure 4 .done))))) ⟨p,[(H,kn a.1 B C (sl d52 a.1.book.aF G) D E),(w,rt f.num f.den),(u,bk u0 s1 j k l)]⟩ (by simp only[*,go_sem]) (by kernel_rfl) ?_
 simp only[*,go_sem]
 refine aB ?_
 simp only[*,go_sem]
def wB (b:Int)(a:(cR×Int))(i103:Nat)(c:Int)(st:(List ak)):Option (Fl (List ak) (ak×ak×Int)):=
 ah (jq a.1.book b c) fun d=>ah (nk a.1.book d) fun e=>ah (cZ st ([e])) fun f=>some (.nx f)
def wC (u0:aj)(b:Int):Option (ak×ak×Int):=
 ah (hH u0 ([(e7 b)])) fun a=>cond ((a.2 != 0)) (some ((⟨0,0⟩:ak),(⟨0,0⟩:ak),a.2)) (ah (nC a.1 b) fun f=>ah (bE (wB b a) 0 f ([]:List ak)) fun o=>aO o (fun c=>ah (bK c 0) fun d=>ah (gI c 1 (c.length:Int)) fun e=>ah (g9 rz d e) fun g=>ah (g9 eD d e) fun h=>some (g,h,0)) (fun _ _=>none) (fun r=>some r))
theorem FZ {ro:Addr->Option Value}(S:cT ro)(u0:aj){s1 f g i:Value}(P:bG ro u0 s1 f g i)(a:Int){r:(ak×ak×Int)}(h:wC u0 a=some r):aC Tryz.prog 42 #[bv u0 s1 f g i,.int .i64 a] ⟨ro,[]⟩ (fun v _=>v= .tuple #[r.1.v,r.2.1.v,.int .i64 r.2.2]):=by
 unfold wC at h
 have b2:=P.oc;simp only[bx] at b2
 refine aC.go Tryz.func42 rfl Tryz.ntmps42 Tryz.results42 (by simp) fun main J hJ A b3 hd hs=>?_
 have b4:=hs 0
 have k1:=hs 1
 clear hs
 refine aa hJ (ag hJ ?_)
 simp only[*,go_sem]
 refine av fun j G b5=>?_;try simp only[au] at b5
 refine av fun t H ca=>?_;try simp only[au] at ca
 refine av fun u I cb=>?_;try simp only[au] at cb
 try simp only[*,go_sem]
 refine aa hJ ?_
 refine aK hJ fun cd=>?_
 refine ag hJ ?_
 revert h;refine bS fun d cf h=>?_
 simp only[*,go_sem]
 refine av fun K al ao=>?_;have ar:=aM.cons ao cd;try simp only[au] at ao
 try simp only[*,go_sem]
 obtain ⟨T,L,a0⟩:=eV (b:=K) (o:=(.cells #[.func (.func 77) #[.int .i64 a] #[]] 102)) [] ((u,rt 0 0)::(t,rt 0 0)::(j,bk u0 s1 f g i)::[]) ar al (ay.cons I (ay.cons H (ay.cons G (ay.nil _))))
 have a2:aA (cW) (bN ro K (.cells #[.func (.func 77) #[.int .i64 a] #[]] 102)) (.slice (some ⟨K,0,none⟩) 1 1) [(e7 a)]:=(aA.one (r:=(cW)) (e:=102) (cs:=#[.func (.func 77) #[.int .i64 a] #[]]) (x:=(e7 a)) (own:=[(K,.cells #[.func (.func 77) #[.int .i64 a] #[]] 102)]) al (by simp[lk]) ⟨77,#[.int .i64 a],#[],rfl,⟨by simp only[go_sem],fun a3 a4 M _ _ _ _ _ cl cy cS c0 h=>by simp only[go_sem];exact rq a M ⟨cl,cy,cS,c0⟩ h⟩⟩)
 generalize bN ro K (.cells #[.func (.func 77) #[.int .i64 a] #[]] 102)=g0 at a2 L T a0
 refine fS hJ a0 ?_
 replace P:=P.mono T
 replace I:=L.hd
 replace H:=L.tl.hd
 replace G:=L.tl.tl.hd
 replace S:=S.mono T
 simp only[bn] at L
 have da:=aM.tl ar
 refine b8 hJ _ (js S u0 P ([(e7 a)]) a2 cf) fun v g1 g2 Q U=>?_
 obtain ⟨w,y,z,B,C,rfl,D,a5⟩:=U
 have db:=D.oc;simp only[bx] at db
 have dd:=a5.oc;simp only[bx] at dd
 replace I:=Q.hd
 replace H:=Q.tl.hd
 replace G:=Q.tl.tl.hd
 simp only[bn] at Q
 refine aD ?_
 try simp only[*,go_sem]
 refine av fun E a6 a7=>?_;have g3:=aM.cons a7 da;try simp only[au] at a7
 try simp only[*,go_sem]
 refine aa hJ (aa hJ (ag hJ ?_))
 simp only[*,go_sem]
 revert h;refine jC hJ (by simp only[*,go_sem]) (fun df h=>?_) fun df h=>?_
 ·obtain rfl:=sI h
  refine aa hJ (ag hJ ?_)
  simp only[*,go_sem]
  refine aB ?_
  simp only[*,go_sem]
 refine aG hJ (aa hJ ?_)
 refine ag hJ ?_
 simp only[*,go_sem]
 refine aa hJ (aa hJ (ag hJ ?_))
 revert h;refine bS fun k dk h=>?_
 simp only[*,go_sem]
 refine b8 hJ _ (sj d.1 D a5 a dk) fun v R dp N U=>?_
 obtain ⟨g4,rfl,a8⟩:=U
 replace D:=D.mono dp
 replace a6:=N.hd
 replace I:=N.tl.hd
 replace H:=N.tl.tl.hd
 replace G:=N.tl.tl.tl.hd
 simp only[bn] at N
 obtain ⟨d91,ha,rfl,hc,dq,-⟩:=id a8
 refine aD ?_
 try simp only[*,go_sem]
 refine aY hJ ?_
 revert h;refine bS fun ds p dt=>?_
 refine cc hJ [8,10,29,30,31,32,33,34,35,36,37,38,39,40,41,42,43,44] (fun m a' F'=>∃(i103:Nat) (d97:Option Addr) (O:Nat) (V:List (Nat×Obj)) (c:(List ak)),m=k.length - i103/\i103<=k.length/\bE (wB a d) i103 (k.drop i103) c=some ds/\F'=⟨R,(E,kn d.1 w y z B C)::(u,rt 0 0)::(t,rt 0 0)::(j,bk u0 s1 f g i)::V⟩/\aV kU R 23 (.slice d97 c.length O) c V/\c.length<=O/\slot a' 29= .int .i64 (i103:Int)/\slot a' 8= .slice d97 c.length O) k.length ?_ ?_
 ·refine ⟨0,none,0,[],([]:List ak),(Nat.sub_zero _).symm,Nat.zero_le _,p,rfl,aV.nil _ _ _,Nat.le_refl _,?_⟩
  simp only[*,go_sem]
 rintro hf hg F' a9 ⟨i103,d97,O,V,c,rfl,hh,p,rfl,ba,hi,hj,hk⟩
 obtain ⟨du,dv,dC⟩:=a9.pick [1,4,5,6,7,27,28] (by decide)
 simp only[*,go_sem] at du dv dC
 clear a9 b3 hd b4 k1
 refine aa hJ (ag hJ ?_)
 simp only[*,go_sem]
 refine aa hJ ?_
 rcases Nat.lt_or_ge i103 k.length with dE|bb
 ·refine bM hJ (by simp only[*,go_sem]) ?_
  refine aG hJ ?_
  obtain ⟨bc,W⟩:∃x,k[i103]?=some x:=⟨_,List.getElem?_eq_getElem dE⟩
  rw[c7 W] at p
  revert p;refine bS fun hl h dT=>?_
  unfold wB at h
  try dsimp only at h
  obtain ⟨hn,ea,eb,ec,bd⟩:=a8.el _ _ W
  obtain rfl:ea=[.int .i64 bc]:=ec
  cases eb
  have ed:=bd 0 _ rfl;simp only[go_sem] at ed
  clear bd W
  refine aa hJ (aY hJ (aa hJ ?_))
  refine aK hJ fun ho=>?_
  refine ag hJ ?_
  simp only[*,go_sem]
  refine aK hJ fun eh=>?_
  refine eM hJ mixed 9 ⟨R,[(E,kn d.1 w y z B C),(u,rt 0 0),(t,rt 0 0),(j,bk u0 s1 f g i)]⟩ (by simp only[*,go_sem]) (by kernel_rfl) ?_
  revert h;refine bS fun et ev h=>?_
  simp only[*,go_sem]
  refine ⟨_,bA hJ fun F q=>lZ d.1.book (D.mono (bX q)) a bc ev,bV ?_⟩
  revert h;refine bS fun s eQ h=>?_
  try simp only[*,go_sem]
  refine ⟨_,bA hJ fun F q=>Ah d.1.book (D.mono (bX q)) et eQ,?_⟩
  revert h;refine bS fun eS e0 h=>?_
  obtain rfl:=sI h
  obtain ⟨e1,bj⟩:=c5 e0
  try simp only[*,go_sem]
  refine av fun bl e3 bm=>?_;have fa:=aM.cons bm eh;try simp only[au] at bm
  try simp only[*,go_sem]
  refine dF (r:=kU) (l:=c) (x:=s) (cs:=#[.int .i64 s.num,.int .i64 s.den]) (e2:=23) [(bl,rt s.num s.den),(E,kn d.1 w y z B C),(u,rt 0 0),(t,rt 0 0),(j,bk u0 s1 f g i)] [] ba fa e1 rfl (by simp only[*,go_sem]) e3 rfl rfl zz zz DZ zu rfl D1 (by decide) (by decide) (fun hp bo X fb fg hq=>?_)
  simp only[List.append_nil,List.cons_append,List.nil_append,List.append_assoc] at fg
  subst fb
  rw[<-bj] at X;clear bj
  obtain ⟨d125,fi,rfl,fp⟩:=X.len
  refine ⟨⟨R,(bl,rt s.num s.den)::(E,kn d.1 w y z B C)::(u,rt 0 0)::(t,rt 0 0)::(j,bk u0 s1 f g i)::bo⟩,Le.refl _,?_⟩
  refine ⟨by simp only[*,go_sem],kM ?_⟩
  try simp only[*,go_sem]
  have hr:=cq (n:=i103) (by have:=dq;omega)
  refine ag hJ ?_
  simp only[*,go_sem]
  refine ⟨k.length - (i103+1),by omega,_,Le.sub (List.Sublist.cons _ (List.Sublist.refl _)),i103+1,d125,fi,bo,eS,rfl,by omega,dT,rfl,X,fp,?_⟩
  simp only[*,go_sem]
 have ht:=Nat.not_lt.2 bb
 refine bJ hJ (by simp only[*,go_sem]) ?_
 rw[List.drop_eq_nil_of_le bb] at p
 obtain rfl:=sI p;clear p
 have h:=dt
 dsimp only[aO] at h
 refine b7 ?_
 simp only[go_sem]
 refine aa hJ ?_
 refine aK hJ fun hv=>?_
 refine ag hJ ?_
 simp only[*,go_sem]
 refine aa hJ ?_
 refine aK hJ fun br=>?_
 obtain ⟨fr,hx,fs,Y,ft⟩:=ba.eX [(E,kn d.1 w y z B C),(u,rt 0 0),(t,rt 0 0),(j,bk u0 s1 f g i)] [] br (ay.cons a6 (ay.cons I (ay.cons H (ay.cons G (ay.nil _)))))
 clear br
 refine cu hJ ft ?_
 obtain ⟨hy,hz,-⟩:=Y.op
 simp only[bn] at fs
 refine eM hJ mixed 13 ⟨fr,[(E,kn d.1 w y z B C),(j,bk u0 s1 f g i)]⟩ (by simp only[*,go_sem]) (by kernel_rfl) ?_
 revert h;refine bS fun Z fu h=>?_
 obtain ⟨hA,hB,bs⟩:=cM fu
 obtain ⟨hD,fv,fw,fx,ab⟩:=Y.el _ _ bs
 obtain rfl:fv=Z.cells:=fx
 cases fw
 have gg:=ab 0 _ rfl;simp only[go_sem] at gg
 have gl:=ab 1 _ rfl;simp only[go_sem] at gl
 clear ab bs
 revert h;refine bS fun bz gn h=>?_
 obtain ⟨hE,hF,hG,b0⟩:=oV gn
 have b1:(1:Int).toNat<=((c.length:Int)).toNat:=by omega
 have gp:((c.length:Int)).toNat<=O:=by omega
 have hI:0<=((c.length:Int)):=by omega
 obtain ⟨d143,gB,gC,ad⟩:=aA.oX Y (1:Int).toNat ((c.length:Int)).toNat b1 (by omega) b0
 simp only[go_sem] at gB gC b1 gp
 obtain ⟨_,_,gM,hK,hL,hM⟩:=id ad;cases gM
 clear b0
 revert h;refine bS fun hN gT h=>?_
 try simp only[*,go_sem]
 refine ⟨_,bA hJ fun F q=>ng (dI:=79) (dX:=#[]) (dY:=#[]) rz ⟨by simp only[go_sem],fun a3 a4 M ae _ h=>by simp only[go_sem];exact Fb M ae h⟩ Z bz (ad.mono (bX q)) gT,bV ?_⟩
 revert h;refine bS fun hP gV h=>?_
 obtain rfl:=sI h
 try simp only[*,go_sem]
 refine ⟨_,bA hJ fun F q=>ng (dI:=80) (dX:=#[]) (dY:=#[]) eD ⟨by simp only[go_sem],fun a3 a4 M ae _ h=>by simp only[go_sem];exact iJ M ae h⟩ Z bz (ad.mono (bX q)) gV,?_⟩
 try simp only[*,go_sem]
 refine aB ?_
 simp only[*,go_sem]
def j9 (s:List aX)(y:aX):Bool:=s.any fun z=>z.e0==y.e0&&(z.e1==y.e1&&z.e2==y.e2)
def nD (y:aX)(s:List aX):Option (Fl (List aX) Unit):=some (.nx (cond (j9 s y) s (s++[y])))
theorem wD {x y:aX}(h:x.v=y.v):x=y:=by
 obtain ⟨a,b,c⟩:=x
 obtain ⟨a',d,e⟩:=y
 simp only[aX.v,Value.agg.injEq,Array.mk.injEq,List.cons.injEq,Value.int.injEq,true_and,and_true] at h
 obtain ⟨rfl,rfl,rfl⟩:=h
 rfl
theorem wE {s:List aX}{y:aX}:j9 s y=true↔y.v∈s.map aX.v:=by
 unfold j9
 simp only[List.any_eq_true,Bool.and_eq_true,beq_iff_eq,List.mem_map]
 constructor
 ·rintro ⟨z,d,h0,h1,h2⟩
  refine ⟨z,d,?_⟩
  obtain ⟨a,b,c⟩:=z
  obtain ⟨a',e,f⟩:=y
  simp only at h0 h1 h2
  subst h0 h1 h2
  rfl
 ·rintro ⟨z,d,h⟩
  obtain rfl:=wD h
  exact ⟨z,d,rfl,rfl,rfl⟩
theorem F1 (x y:aX)(F:af):∃b,(∀(Q:Bool->af->Prop),Q b F->aT Tryz.prog (Op.equal 120 x.v y.v) Q F)/\(b=true↔y.v=x.v):=by
 have a:mX Tryz.prog 120=some [true,true,true]:=by kernel_rfl
 have he:lN Tryz.prog 120 x.v y.v=some (x.e0==y.e0&&(x.e1==y.e1&&(x.e2==y.e2&&true))):=by
  simp only[lN,aX.v,a,iC,gi,Bool.and_self,if_true]
 refine ⟨_,fun Q h=>(uq he h).1,?_⟩
 simp only[Bool.and_eq_true,beq_iff_eq,and_true]
 constructor
 ·rintro ⟨h0,h1,h2⟩
  simp only[aX.v,h0,h1,h2]
 ·intro h
  obtain rfl:=wD h
  exact ⟨rfl,rfl,rfl⟩
theorem F2 (x:aX)(F:af)(Q:Unit->af->Prop)(h:Q () F):aT Tryz.prog (Instr.checkKey false 10000 120 x.v) Q F:=by
 have c:Tryz.prog.underlying 120=some (.array 3 3):=by kernel_rfl
 have d:Tryz.prog.underlying 3=some (.int .i64):=by kernel_rfl
 have f:bW Tryz.prog 3=some 1:=by kernel_rfl
 have g:cA Tryz.prog 3=some false:=by kernel_rfl
 have e:(10000:Nat)=9998+1+1:=rfl
 rw[e]
 unfold Instr.checkKey
 simp only[bq,dj,c,aX.v]
 simp only[Std.Legacy.Range.forIn_eq_forIn_range',Std.Legacy.Range.size,Nat.sub_zero,Nat.add_one_sub_one,Nat.div_one,List.range',List.forIn_cons,List.forIn_nil,bq,eE,f,part,lJ,g,bC,Bool.false_eq_true,if_false,de]
 have b:∀(k:IntKind) (a:Int) (Q:Unit->af->Prop) (G:af),Q () G->aT Tryz.prog (Instr.checkKey false 9999 3 (.int k a)) Q G:=by
  intro k a Q G i
  show aT Tryz.prog (Instr.checkKey false (9998+1) 3 (.int k a)) Q G
  unfold Instr.checkKey
  simp only[bq,dj,d,bC]
  exact i
 exact b .i64 x.e0 _ _ (b .i64 x.e1 _ _ (b .i64 x.e2 _ _ h))
def mh (u0:aj):Option (Int×Int):=
 ah (eO u0 ([]:(List (aj->Option Int)))) fun a=>cond ((a.2 != 0)) (some (0,a.2)) (ah (iH nD (mg a.1) ([]:List aX)) fun o=>aO o (fun st=>some ((st.length:Int),0)) (fun _ _=>none) (fun _=>none))
theorem wF {ro:Addr->Option Value}(M:cT ro)(u0:aj){s1 w x B:Value}(E:bG ro u0 s1 w x B){r:(Int×Int)}(h:mh u0=some r):aC Tryz.prog 22 #[bv u0 s1 w x B] ⟨ro,[]⟩ (fun v _=>v= .tuple #[.int .i64 r.1,.int .i64 r.2]):=by
 unfold mh at h
 have N:=E.oc;simp only[bx] at N
 refine aC.vf Tryz.func22 rfl Tryz.ntmps22 Tryz.results22 (by simp) fun main J hJ A F hd hs=>?_
 have O:=hs 0
 clear hs
 refine aa hJ (ag hJ ?_)
 simp only[*,go_sem]
 refine av fun P bc R=>?_;try simp only[au] at R
 try simp only[*,go_sem]
 refine aa hJ (ag hJ ?_)
 revert h;refine bS fun G S h=>?_
 simp only[*,go_sem]
 refine b8 hJ _ (j7 M u0 E ([]:(List (aj->Option Int))) (aA.nil _ _) S) fun v H bd T U=>?_
 obtain ⟨V,W,X,Y,rfl,l⟩:=U
 have Z:=l.oc;simp only[bx] at Z
 simp only[bn] at T
 refine aD ?_
 try simp only[*,go_sem]
 refine av fun ab bj ad=>?_;try simp only[au] at ad
 try simp only[*,go_sem]
 refine aa hJ (aa hJ (ag hJ ?_))
 simp only[*,go_sem]
 revert h;refine jC hJ (by simp only[*,go_sem]) (fun ae h=>?_) fun ae h=>?_
 ·obtain rfl:=sI h
  refine aa hJ (ag hJ ?_)
  simp only[*,go_sem]
  refine aK hJ fun C=>?_
  replace C:=C.nd
  try simp only[keys,List.map_cons,List.map_nil,List.map_append,List.cons_append,List.nil_append,List.nodup_cons,List.mem_cons,List.mem_append,List.not_mem_nil,or_false,not_or] at C
  refine aB ?_
  simp only[*,go_sem]
 refine aG hJ ?_
 revert h;refine bS fun o j h=>?_
 repeat refine aa hJ ?_
 refine ag hJ ?_
 simp only[*,go_sem,-j]
 refine EI fun k f70=>?_
 have bm:=eB f70;have al:=fz f70
 try simp only[au] at al
 refine aD ?_
 simp only[*,go_sem,-j]
 refine av fun q bo ao=>?_;try simp only[au] at ao
 try simp only[*,go_sem,-j]
 repeat refine aa hJ ?_
 refine ag hJ ?_
 simp only[*,go_sem,-j]
 refine ve hJ aX.v (by simp only[*,go_sem]) (rQ G.1 l.e l.p l.y l.t) (by kernel_rfl) (by kernel_rfl) (ρ:=Unit) (fun (s:List aX) ar=>∃(es:Array MapEntry) (b:Nat),ar=(q,.cells #[.map (some k)] 117)::(k,.map es b)::(ab,bl G.1 V W X Y)::(P,bk u0 s1 w x B)::[]/\es.toList.map (·.key)=s.map aX.v) (f:=nD) j ?_ ?_ (by decide) ?_ ?_
 ·exact ⟨#[],0,rfl,rfl⟩
 ·rintro d4 a0 D a2 c d br I main J hJ _ ⟨es,b,rfl,g⟩
  obtain rfl:=Option.some.inj I
  clear I
  generalize m:lY _ _ _=u
  have bs:sz u=24:=by rw[<-m,vc];simp only[*,go_sem]
  have bz:u.defers=[]:=by rw[<-m];rfl
  have b0:slot u 6= .pointer (some ⟨q,0,none⟩):=by rw[<-m,m8];simp only[*,go_sem]
  have b1:slot u 19=d.v:=by rw[<-m,m8];simp only[*,go_sem]
  clear m F hd O
  refine e6 hJ fun i a=>?_
  replace a:ay H ((a0,.loop D)::(d4,.deferred (some []))::(q,.cells #[.map (some k)] 117)::(k,.map es b)::_):=a
  have b2:=a.hd
  have b3:=a.tl.hd
  have a3:=a.tl.tl.hd
  have a4:=a.tl.tl.tl.hd
  clear a
  replace i:=i.nd
  simp only[keys,List.map_cons,List.map_nil,List.map_append,List.cons_append,List.nil_append,List.nodup_cons,List.mem_cons,List.mem_append,List.not_mem_nil,or_false,not_or] at i
  refine ag hJ ?_
  simp only[*,go_sem,aX.v]
  refine av fun b4 b5 a5=>?_;try simp only[au] at a5
  try simp only[*,go_sem,aX.v]
  simp only[pg,go_sem]
  refine ⟨D,by simp only[*,go_sem],a2,?_⟩
  try simp only[*,go_sem,aX.v]
  refine aY hJ (ag hJ ?_)
  simp only[*,go_sem,aX.v]
  refine EK (es:=es) (clock:=b) (by kernel_rfl:Tryz.prog.underlying 117=some (.map 120 4)) (by simp only[*,go_sem]) (fun Q h=>F2 d _ Q h) (by kernel_rfl:Tryz.prog.underlying 120=some (.array 3 3)) (fun e he=>?_) fun K a6 a7=>?_
  ·have:e.key∈es.toList.map (·.key):=List.mem_map_of_mem he
   rw[g] at this
   obtain ⟨z,F,hk⟩:=List.mem_map.1 this
   rw[<-hk]
   exact F1 d z _
  ·simp only[q6,lV,go_sem, *]
   refine ⟨{D with state:=.busy},rfl,?_⟩
   simp only[*,go_sem]
   refine ⟨_,Le.sub (List.Sublist.cons _ (List.Sublist.refl _)),rfl,K,a6,rfl,?_⟩
   have a8:K.toList.map (·.key)=(cond (j9 c d) c (c++[d])).map aX.v:=by
    rcases a7 with ⟨hm,he⟩|⟨hm,he⟩
    ·have:j9 c d=true:=by rw[wE,<-g];exact hm
     rw[this,he,g];rfl
    ·have:j9 c d=false:=by
      rw[Bool.eq_false_iff]
      intro L
      rw[wE,<-g] at L
      exact hm L
     rw[this,he,g]
     simp only[cond_false,List.map_append,List.map_cons,List.map_nil]
     rfl
   exact a8
 ·rintro d49 a9 ba _ c ⟨es,b,rfl,g⟩ i a
  refine ⟨fun n=>?_,fun k1 n=>?_⟩
  ·subst n;dsimp only[aO] at h
   obtain rfl:=sI h
   clear j
   replace a:ay H ((a9,.loop ba)::(d49,.deferred (some []))::(q,.cells #[.map (some k)] 117)::(k,.map es b)::_):=a
   have a3:=a.tl.tl.hd
   have a4:=a.tl.tl.tl.hd
   clear a
   replace i:=i.nd
   simp only[keys,List.map_cons,List.map_nil,List.map_append,List.cons_append,List.nil_append,List.nodup_cons,List.mem_cons,List.mem_append,List.not_mem_nil,or_false,not_or] at i
   repeat refine aa hJ ?_
   refine ag hJ ?_
   simp only[*,go_sem]
   have bb:es.size=c.length:=by simpa using congrArg List.length g
   refine EJ (es:=es) (clock:=b) rfl (by kernel_rfl:Tryz.prog.underlying 117=some (.map 120 4)) (by simp only[*,go_sem]) ?_
   rw[bb]
   refine aB ?_
   simp only[*,go_sem]
  ·subst n;dsimp only[aO] at h
   cases h
 ·intro k1 ca n;subst n;dsimp only[aO] at h
  cases h
def ez (u0:Int)(a:Int)(b:Int):Option Bool:=
 cond (decide (a<=u0)) (some (decide (u0<=b))) (some false)
theorem gO {ro:Addr->Option Value}(u0:Int)(a:Int)(b:Int){r:Bool}(h:ez u0 a b=some r):aC Tryz.prog 14 #[.int .i64 u0,.int .i64 a,.int .i64 b] ⟨ro,[]⟩ (fun v _=>v= .bool r):=by
 unfold ez at h
 refine aC.go Tryz.func14 rfl Tryz.ntmps14 Tryz.results14 (by simp) fun main J hJ A d hd hs=>?_
 have e:=hs 0
 have k1:=hs 1
 have f:=hs 2
 clear hs
 refine aa hJ (ag hJ ?_)
 simp only[*,go_sem]
 refine aa hJ (ag hJ ?_)
 revert h;refine cS (fun c h=>?_) fun c h=>?_
 ·obtain rfl:=sI h
  try simp only[*,go_sem]
  refine aB ?_
  simp only[*,go_sem]
 obtain rfl:=sI h
 try simp only[*,go_sem]
 refine aB ?_
 simp only[*,go_sem]
def mj (u0:aj)(a:Int):Option Bool:=
 ah (bK u0.an 0) fun b=>ah (bK u0.an (IntKind.i64.wrap ((u0.an.length:Int) - 1))) fun c=>ah (ez a b.ax c.ax) fun d=>some d
theorem F3 {ro:Addr->Option Value}(u0:aj){s1 f g i:Value}(a:bG ro u0 s1 f g i)(b:Int){r:Bool}(h:mj u0 b=some r):aC Tryz.prog 107 #[bv u0 s1 f g i,.int .i64 b] ⟨ro,[]⟩ (fun v _=>v= .bool r):=by
 obtain ⟨d3,c4,rfl,E,G,-⟩:=id a.e
 unfold mj at h
 refine aC.go Tryz.func107 rfl Tryz.ntmps107 Tryz.results107 (by simp) fun main J hJ A H hd hs=>?_
 have I:=hs 0
 have k1:=hs 1
 clear hs
 refine aa hJ (ag hJ ?_)
 simp only[*,go_sem]
 refine av fun K L n=>?_;try simp only[au] at n
 try simp only[*,go_sem]
 refine aa hJ ?_
 refine dh hJ mixed 17 1 (by simp only[*,go_sem]) (by kernel_rfl) ?_
 revert h;refine bS fun j o h=>?_
 obtain ⟨M,N,k⟩:=cM o
 obtain ⟨O,p,q,s,c⟩:=a.e.el _ _ k
 obtain rfl:p=j.cells:=s
 cases q
 have t:=c 0 _ rfl;simp only[go_sem] at t
 have u:=c 1 _ rfl;simp only[go_sem] at u
 clear c k
 revert h;refine bS fun l w h=>?_
 obtain ⟨P,Q,m⟩:=cM w
 obtain ⟨R,x,y,z,d⟩:=a.e.el _ _ m
 obtain rfl:x=l.cells:=z
 cases y
 have B:=d 0 _ rfl;simp only[go_sem] at B
 have C:=d 1 _ rfl;simp only[go_sem] at C
 clear d m
 revert h;refine bS fun S D h=>?_
 obtain rfl:=sI h
 try simp only[*,go_sem]
 refine ⟨_,bA hJ fun F T=>gO b j.ax l.ax D,bV ?_⟩
 try simp only[*,go_sem]
 refine aB ?_
 simp only[*,go_sem]
def nE (u0:aj)(a:Int):Option Bool:=
 ah (ez a 0 (IntKind.i64.wrap ((u0.aF.length:Int) - 1))) fun b=>some b
theorem F4 {ro:Addr->Option Value}(u0:aj){s1 c d f:Value}(a:bG ro u0 s1 c d f)(b:Int){r:Bool}(h:nE u0 b=some r):aC Tryz.prog 109 #[bv u0 s1 c d f,.int .i64 b] ⟨ro,[]⟩ (fun v _=>v= .bool r):=by
 obtain ⟨d3,c4,rfl,j,k,-⟩:=id a.e
 obtain ⟨d10,l,rfl,m,n,-⟩:=id a.p
 obtain ⟨d17,o,rfl,q,s,-⟩:=id a.y
 obtain ⟨d24,u,rfl,w,x,-⟩:=id a.t
 unfold nE at h
 refine aC.go Tryz.func109 rfl Tryz.ntmps109 Tryz.results109 (by simp) fun main J hJ A z hd hs=>?_
 have B:=hs 0
 have k1:=hs 1
 clear hs
 refine aa hJ (ag hJ ?_)
 simp only[*,go_sem]
 refine av fun C D g=>?_;try simp only[au] at g
 try simp only[*,go_sem]
 refine aa hJ (ag hJ ?_)
 revert h;refine bS fun E i h=>?_
 obtain rfl:=sI h
 simp only[*,go_sem]
 refine aR hJ _ (gO b 0 (IntKind.i64.wrap ((u0.aF.length:Int) - 1)) i) (aD ?_)
 try simp only[*,go_sem]
 refine aB ?_
 simp only[*,go_sem]
def dS (u0:ak)(a:ak):Option Bool:=
 some (decide ((IntKind.i64.wrap (u0.num*a.den))<(IntKind.i64.wrap (a.num*u0.den))))
theorem kg {ro:Addr->Option Value}(u0:ak)(a:ak){r:Bool}(h:dS u0 a=some r):aC Tryz.prog 28 #[.agg #[.int .i64 u0.num,.int .i64 u0.den],.agg #[.int .i64 a.num,.int .i64 a.den]] ⟨ro,[]⟩ (fun v _=>v= .bool r):=by
 unfold dS at h
 obtain rfl:=sI h
 refine aC.go Tryz.func28 rfl Tryz.ntmps28 Tryz.results28 (by simp) fun main J hJ A b hd hs=>?_
 have c:=hs 0
 have k1:=hs 1
 clear hs
 refine aa hJ (ag hJ ?_)
 simp only[*,go_sem]
 refine av fun d r1 n1=>?_;try simp only[au] at n1
 refine av fun b2 r2 n2=>?_;try simp only[au] at n2
 try simp only[*,go_sem]
 refine aa hJ (ag hJ ?_)
 simp only[*,go_sem]
 refine aB ?_
 simp only[*,go_sem]
def wG (st:(Int×Int)):Option (Fl (Int×Int) ak):=
 cond (decide (0<st.2)) (ah (eU st.1 st.2) fun a=>some (.nx (st.2,a))) (some (.bk (st.1,st.2)))
def nF (st:(Int×Int)):Option (Fl (Int×Int) ak):=
 cond (decide (0<st.2)) (ah (eU st.1 st.2) fun a=>some (.nx (st.2,a))) (some (.bk (st.1,st.2)))
def e8 (u0:Int)(a:Int):Option ak:=
 cond (decide (a<0)) (ah (bD (wG) fu ((if IntKind.i64.wrap (0 - u0)<IntKind.i64.wrap (0 - (IntKind.i64.wrap (0 - u0))) then IntKind.i64.wrap (0 - (IntKind.i64.wrap (0 - u0))) else IntKind.i64.wrap (0 - u0)),(IntKind.i64.wrap (0 - a)))) fun o=>aO o (fun b=>ah (gm (IntKind.i64.wrap (0 - u0)) b.1) fun d=>ah (gm (IntKind.i64.wrap (0 - a)) b.1) fun e=>some (⟨d,e⟩:ak)) (fun _ _=>none) (fun r=>some r)) (ah (bD (nF) fu ((if u0<IntKind.i64.wrap (0 - u0) then IntKind.i64.wrap (0 - u0) else u0),a)) fun o=>aO o (fun c=>ah (gm u0 c.1) fun f=>ah (gm a c.1) fun g=>some (⟨f,g⟩:ak)) (fun _ _=>none) (fun r=>some r))
theorem nG {ro:Addr->Option Value}(u0:Int)(a:Int){r:ak}(h:e8 u0 a=some r):aC Tryz.prog 27 #[.int .i64 u0,.int .i64 a] ⟨ro,[]⟩ (fun v _=>v=r.v):=by
 unfold e8 at h
 refine aC.go Tryz.func27 rfl Tryz.ntmps27 Tryz.results27 (by simp) fun main J hJ A l hd hs=>?_
 have n:=hs 0
 have k1:=hs 1
 clear hs
 refine aa hJ (ag hJ ?_)
 simp only[*,go_sem]
 refine av fun o r1 n1=>?_;try simp only[au] at n1
 try simp only[*,go_sem]
 refine aa hJ (aa hJ (ag hJ ?_))
 simp only[*,go_sem]
 revert h;refine jC hJ (by simp only[*,go_sem]) (fun z h=>?_) fun z h=>?_
 ·refine ag hJ ?_
  simp only[*,go_sem]
  refine aa hJ (ag hJ ?_)
  simp only[*,go_sem]
  refine aa hJ (aY hJ ?_)
  revert h;refine bS fun B b C=>?_
  refine cc hJ [5,6,18,19,20,21,22,23] (fun m a' F'=>∃(e:Int) (v4:Int),bD (wG) m (e,v4)=some B/\F'=⟨ro,(o,rt 0 0)::[]⟩/\slot a' 5= .int .i64 e/\slot a' 6= .int .i64 v4) fu ?_ ?_
  ·refine ⟨(if IntKind.i64.wrap (0 - u0)<IntKind.i64.wrap (0 - (IntKind.i64.wrap (0 - u0))) then IntKind.i64.wrap (0 - (IntKind.i64.wrap (0 - u0))) else IntKind.i64.wrap (0 - u0)),(IntKind.i64.wrap (0 - a)),b,rfl,?_⟩
   simp only[*,go_sem]
  rintro f Q F' p ⟨e,v4,b,rfl,R,S⟩
  obtain ⟨D,E,F⟩:=p.pick [0,1,4] (by decide)
  simp only[*,go_sem] at D E F
  clear p l hd n k1
  obtain _|f:=f
  ·exact absurd b (by simp only[bD,reduceCtorEq,not_false_eq_true])
  revert b;refine bS fun T h g=>?_
  unfold wG at h
  try dsimp only at h
  refine aa hJ (aa hJ (ag hJ ?_))
  simp only[*,go_sem]
  revert h;refine jC hJ (by simp only[*,go_sem]) (fun G h=>?_) fun G h=>?_
  ·refine aG hJ (aY hJ ?_)
   refine dh hJ mixed 6 1 (by simp only[*,go_sem]) (by kernel_rfl) ?_
   revert h;refine bS fun H q h=>?_
   obtain rfl:=sI h
   obtain ⟨U,V⟩:=jS q
   clear q
   try simp only[*,go_sem]
   refine ⟨f,Nat.lt_succ_self _,_,Le.sub (List.Sublist.refl _),v4,H,g,rfl,?_⟩
   simp only[*,go_sem]
  obtain rfl:=sI h
  refine b7 ?_
  simp only[go_sem]
  obtain rfl:=sI g;clear g
  have h:=C
  dsimp only[aO] at h
  refine aa hJ ?_
  refine dh hJ mixed 7 0 (by simp only[*,go_sem]) (by kernel_rfl) ?_
  revert h;refine bS fun W s h=>?_
  obtain ⟨X,Y⟩:=m3 s
  clear s
  revert h;refine bS fun Z t h=>?_
  obtain rfl:=sI h
  obtain ⟨ab,ad⟩:=m3 t
  clear t
  try simp only[*,go_sem]
  refine aB ?_
  simp only[*,go_sem]
 refine aG hJ (aa hJ ?_)
 refine ag hJ ?_
 simp only[*,go_sem]
 refine aa hJ (aY hJ ?_)
 revert h;refine bS fun I c K=>?_
 refine cc hJ [5,6,18,19,20,21,22,23] (fun m a' F'=>∃(i:Int) (d:Int),bD (nF) m (i,d)=some I/\F'=⟨ro,(o,rt 0 0)::[]⟩/\slot a' 5= .int .i64 i/\slot a' 6= .int .i64 d) fu ?_ ?_
 ·refine ⟨(if u0<IntKind.i64.wrap (0 - u0) then IntKind.i64.wrap (0 - u0) else u0),a,c,rfl,?_⟩
  simp only[*,go_sem]
 rintro j ae F' u ⟨i,d,c,rfl,al,ao⟩
 obtain ⟨L,M,N⟩:=u.pick [0,1,4] (by decide)
 simp only[*,go_sem] at L M N
 clear u l hd n k1
 obtain _|j:=j
 ·exact absurd c (by simp only[bD,reduceCtorEq,not_false_eq_true])
 revert c;refine bS fun ar h k=>?_
 unfold nF at h
 try dsimp only at h
 refine aa hJ (aa hJ (ag hJ ?_))
 simp only[*,go_sem]
 revert h;refine jC hJ (by simp only[*,go_sem]) (fun O h=>?_) fun O h=>?_
 ·refine aG hJ (aY hJ ?_)
  refine dh hJ mixed 6 1 (by simp only[*,go_sem]) (by kernel_rfl) ?_
  revert h;refine bS fun P w h=>?_
  obtain rfl:=sI h
  obtain ⟨a0,a2⟩:=jS w
  clear w
  try simp only[*,go_sem]
  refine ⟨j,Nat.lt_succ_self _,_,Le.sub (List.Sublist.refl _),d,P,k,rfl,?_⟩
  simp only[*,go_sem]
 obtain rfl:=sI h
 refine b7 ?_
 simp only[go_sem]
 obtain rfl:=sI k;clear k
 have h:=K
 dsimp only[aO] at h
 refine aa hJ ?_
 refine dh hJ mixed 7 0 (by simp only[*,go_sem]) (by kernel_rfl) ?_
 revert h;refine bS fun a3 x h=>?_
 obtain ⟨a4,a5⟩:=m3 x
 clear x
 revert h;refine bS fun a6 y h=>?_
 obtain rfl:=sI h
 obtain ⟨a7,a8⟩:=m3 y
 clear y
 try simp only[*,go_sem]
 refine aB ?_
 simp only[*,go_sem]
def gx (u0:ak)(a:ak):Option ak:=
 ah (e8 (IntKind.i64.wrap ((IntKind.i64.wrap (u0.num*a.den)) - (IntKind.i64.wrap (a.num*u0.den)))) (IntKind.i64.wrap (u0.den*a.den))) fun b=>some b
theorem F5 {ro:Addr->Option Value}(u0:ak)(a:ak){r:ak}(h:gx u0 a=some r):aC Tryz.prog 16 #[.agg #[.int .i64 u0.num,.int .i64 u0.den],.agg #[.int .i64 a.num,.int .i64 a.den]] ⟨ro,[]⟩ (fun v _=>v=r.v):=by
 unfold gx at h
 refine aC.go Tryz.func16 rfl Tryz.ntmps16 Tryz.results16 (by simp) fun main J hJ A c hd hs=>?_
 have d:=hs 0
 have k1:=hs 1
 clear hs
 refine aa hJ (ag hJ ?_)
 simp only[*,go_sem]
 refine av fun e r1 n1=>?_;try simp only[au] at n1
 refine av fun b2 r2 n2=>?_;try simp only[au] at n2
 refine av fun b3 r3 n3=>?_;try simp only[au] at n3
 try simp only[*,go_sem]
 refine aa hJ (ag hJ ?_)
 revert h;refine bS fun f b h=>?_
 obtain rfl:=sI h
 simp only[*,go_sem]
 refine aR hJ _ (nG (IntKind.i64.wrap ((IntKind.i64.wrap (u0.num*a.den)) - (IntKind.i64.wrap (a.num*u0.den)))) (IntKind.i64.wrap (u0.den*a.den)) b) (aD ?_)
 try simp only[*,go_sem]
 refine aB ?_
 simp only[*,go_sem]
def mm (u0:aj)(a:aP)(c:Int)(b:ak):Option ak:=
 ah (e8 (IntKind.i64.wrap ((IntKind.i64.wrap ((IntKind.i64.wrap (a.high*b.den))*(IntKind.i64.wrap (c+a.back))))+(IntKind.i64.wrap ((IntKind.i64.wrap (b.num - (IntKind.i64.wrap (a.high*b.den))))*(IntKind.i64.wrap (u0.aQ+a.back)))))) (IntKind.i64.wrap (b.den*(IntKind.i64.wrap (c+a.back))))) fun d=>some d
def mo (u0:cV)(a:Int)(b:Int):Option Bool:=
 cond (decide (a<=u0.low)) (cond (decide (u0.low<=u0.high)) (some (decide (u0.high<=b))) (some false)) (some false)
theorem F6 {ro:Addr->Option Value}(u0:cV)(a:Int)(b:Int){r:Bool}(h:mo u0 a b=some r):aC Tryz.prog 108 #[.agg #[.int .i64 u0.low,.int .i64 u0.high],.int .i64 a,.int .i64 b] ⟨ro,[]⟩ (fun v _=>v= .bool r):=by
 unfold mo at h
 refine aC.go Tryz.func108 rfl Tryz.ntmps108 Tryz.results108 (by simp) fun main J hJ A e hd hs=>?_
 have f:=hs 0
 have k1:=hs 1
 have g:=hs 2
 clear hs
 refine aa hJ (ag hJ ?_)
 simp only[*,go_sem]
 refine av fun i r1 n1=>?_;try simp only[au] at n1
 try simp only[*,go_sem]
 refine aa hJ (ag hJ ?_)
 revert h;refine cS (fun c h=>?_) fun c h=>?_
 ·revert h;refine cS (fun d h=>?_) fun d h=>?_
  ·obtain rfl:=sI h
   try simp only[*,go_sem]
   refine aB ?_
   simp only[*,go_sem]
  obtain rfl:=sI h
  try simp only[*,go_sem]
  refine aB ?_
  simp only[*,go_sem]
 obtain rfl:=sI h
 try simp only[*,go_sem]
 refine aB ?_
 simp only[*,go_sem]
def fJ (u0:ak)(a:ak):Option ak:=
 ah (dS u0 a) fun b=>cond (b) (some a) (some u0)
def mq (u0:aj):Option Bool:=
 cond (decide (20<(u0.an.length:Int))) (some true) (cond (decide (20<(u0.props.length:Int))) (some true) (cond (decide (20<(u0.aF.length:Int))) (some true) (some (decide (20<(u0.told.length:Int))))))
theorem F7 {ro:Addr->Option Value}(u0:aj){s1 b c d:Value}(a:bG ro u0 s1 b c d){r:Bool}(h:mq u0=some r):aC Tryz.prog 38 #[bv u0 s1 b c d] ⟨ro,[]⟩ (fun v _=>v= .bool r):=by
 obtain ⟨d3,c4,rfl,k,l,-⟩:=id a.e
 obtain ⟨d10,m,rfl,n,o,-⟩:=id a.p
 obtain ⟨d17,q,rfl,s,u,-⟩:=id a.y
 obtain ⟨d24,w,rfl,x,z,-⟩:=id a.t
 unfold mq at h
 refine aC.go Tryz.func38 rfl Tryz.ntmps38 Tryz.results38 (by simp) fun main J hJ A B hd hs=>?_
 have C:=hs 0
 clear hs
 refine aa hJ (ag hJ ?_)
 simp only[*,go_sem]
 refine av fun D E f=>?_;try simp only[au] at f
 try simp only[*,go_sem]
 refine aa hJ (ag hJ ?_)
 revert h;refine cS (fun g h=>?_) fun g h=>?_
 ·obtain rfl:=sI h
  try simp only[*,go_sem]
  refine aB ?_
  simp only[*,go_sem]
 revert h;refine cS (fun i h=>?_) fun i h=>?_
 ·obtain rfl:=sI h
  try simp only[*,go_sem]
  refine aB ?_
  simp only[*,go_sem]
 revert h;refine cS (fun j h=>?_) fun j h=>?_
 ·obtain rfl:=sI h
  try simp only[*,go_sem]
  refine aB ?_
  simp only[*,go_sem]
 obtain rfl:=sI h
 try simp only[*,go_sem]
 refine aB ?_
 simp only[*,go_sem]
def fD (u0:Int)(a:Int):Option ak:=
 some (⟨u0,a⟩:ak)
theorem gy {ro:Addr->Option Value}(u0:Int)(a:Int){r:ak}(h:fD u0 a=some r):aC Tryz.prog 17 #[.int .i64 u0,.int .i64 a] ⟨ro,[]⟩ (fun v _=>v=r.v):=by
 unfold fD at h
 obtain rfl:=sI h
 refine aC.go Tryz.func17 rfl Tryz.ntmps17 Tryz.results17 (by simp) fun main J hJ A b hd hs=>?_
 have c:=hs 0
 have k1:=hs 1
 clear hs
 refine aa hJ (ag hJ ?_)
 simp only[*,go_sem]
 refine av fun d r1 n1=>?_;try simp only[au] at n1
 try simp only[*,go_sem]
 refine aa hJ (ag hJ ?_)
 simp only[*,go_sem]
 refine aB ?_
 simp only[*,go_sem]
def k5 (u0:Int)(a:Int):Option cV:=
 some (⟨u0,a⟩:cV)
theorem pS {ro:Addr->Option Value}(u0:Int)(a:Int){r:cV}(h:k5 u0 a=some r):aC Tryz.prog 52 #[.int .i64 u0,.int .i64 a] ⟨ro,[]⟩ (fun v _=>v=r.v):=by
 unfold k5 at h
 obtain rfl:=sI h
 refine aC.go Tryz.func52 rfl Tryz.ntmps52 Tryz.results52 (by simp) fun main J hJ A b hd hs=>?_
 have c:=hs 0
 have k1:=hs 1
 clear hs
 refine aa hJ (ag hJ ?_)
 simp only[*,go_sem]
 refine av fun d r1 n1=>?_;try simp only[au] at n1
 try simp only[*,go_sem]
 refine aa hJ (ag hJ ?_)
 simp only[*,go_sem]
 refine aB ?_
 simp only[*,go_sem]
def hO (u0:Int)(a:Int):Option aP:=
 some (⟨u0,a⟩:aP)
theorem k6 {ro:Addr->Option Value}(u0:Int)(a:Int){r:aP}(h:hO u0 a=some r):aC Tryz.prog 25 #[.int .i64 u0,.int .i64 a] ⟨ro,[]⟩ (fun v _=>v=r.v):=by
 unfold hO at h
 obtain rfl:=sI h
 refine aC.go Tryz.func25 rfl Tryz.ntmps25 Tryz.results25 (by simp) fun main J hJ A b hd hs=>?_
 have c:=hs 0
 have k1:=hs 1
 clear hs
 refine aa hJ (ag hJ ?_)
 simp only[*,go_sem]
 refine av fun d r1 n1=>?_;try simp only[au] at n1
 try simp only[*,go_sem]
 refine aa hJ (ag hJ ?_)
 simp only[*,go_sem]
 refine aB ?_
 simp only[*,go_sem]
def mw (u0:Int)(a:Bool):Option bP:=
 some (⟨u0,a⟩:bP)
theorem ki {ro:Addr->Option Value}(u0:Int)(a:Bool){r:bP}(h:mw u0 a=some r):aC Tryz.prog 50 #[.int .i64 u0,.bool a] ⟨ro,[]⟩ (fun v _=>v=r.v):=by
 unfold mw at h
 obtain rfl:=sI h
 refine aC.go Tryz.func50 rfl Tryz.ntmps50 Tryz.results50 (by simp) fun main J hJ A b hd hs=>?_
 have c:=hs 0
 have k1:=hs 1
 clear hs
 refine aa hJ (ag hJ ?_)
 simp only[*,go_sem]
 refine av fun d r1 n1=>?_;try simp only[au] at n1
 try simp only[*,go_sem]
 refine aa hJ (ag hJ ?_)
 simp only[*,go_sem]
 refine aB ?_
 simp only[*,go_sem]
def pU (u0:aj)(a:bP):Option aj:=
 ah (cZ ([]:List bP) u0.told) fun b=>ah (cZ b ([a])) fun c=>some (⟨u0.aQ,u0.aN,u0.aE,u0.an,u0.props,u0.aF,c⟩:aj)
theorem nJ {ro:Addr->Option Value}(u0:aj){s1 b c N:Value}(j:bG ro u0 s1 b c N)(a:bP){r:aj}(h:pU u0 a=some r):eu Tryz.prog 53 #[bv u0 s1 b c N,.agg #[.int .i64 a.aW,.bool a.bu]] ro (fun v aL=>∃O w1 w2 w3,v=bv r O w1 w2 w3/\bG aL r O w1 w2 w3):=by
 obtain ⟨d24,i,rfl,e1,e3,-⟩:=id j.t
 unfold pU at h
 have br:=j.oc;simp only[bx] at br
 refine aC.go Tryz.func53 rfl Tryz.ntmps53 Tryz.results53 (by simp) fun main J hJ A fa hd hs=>?_
 have fb:=hs 0
 have k1:=hs 1
 clear hs
 refine aa hJ (ag hJ ?_)
 simp only[*,go_sem,-h]
 refine av fun d q bs=>?_;try simp only[au] at bs
 refine av fun f s b0=>?_;try simp only[au] at b0
 refine av fun g u b1=>?_;try simp only[au] at b1
 try simp only[*,go_sem,-h]
 refine aa hJ ?_
 refine aK hJ fun P=>?_
 refine gq hJ mixed [8] (.pure 1 (.rd 2 (.rd 4 (.two 0 (.two 3 (.one 5 (.one 6 (.pure 7 (.last 8 .done)))) 5 (.one 3 (.one 6 (.pure 7 (.last 8 .done))))) 5 (.one 0 (.one 3 (.one 6 (.pure 7 (.last 8 .done))))))))) ⟨ro,[(g,bz 29),(f,.cells #[.int .i64 a.aW,.bool a.bu] 91),(d,bk u0 s1 b c (sl d24 u0.told i))]⟩ (by simp only[*,go_sem,-h]) (by kernel_rfl) ?_
 simp only[*,go_sem,-h]
 refine jY ?_ ?_
 ·simp only[*,go_sem,-h]
  refine av fun C Q R=>?_;have S:=aM.cons R P;try simp only[au] at R
  try simp only[*,go_sem,-h]
  refine jY ?_ ?_
  ·revert h;refine bS fun b2 b3 h=>?_
   obtain ⟨b4,T⟩:=c5 b3
   simp only[*,go_sem,-h]
   have b5:aV c8 ro 91 (.slice (some ⟨C,0,none⟩) 0 0) ([]:List bP) [(C,.cells #[] 91)]:=aV.empty Q
   refine pz (r:=c8) (l:=([]:List bP)) (xs:=u0.told) [] ((g,bz 29)::(f,.cells #[.int .i64 a.aW,.bool a.bu] 91)::(d,bk u0 s1 b c (sl d24 u0.told i))::[]) b5 S b4 j.t rfl rfl ei ei gZ g6 rfl g5 (by decide) (by decide) (fun fg w F k m ca=>?_)
   simp only[List.append_nil,List.cons_append,List.nil_append,List.append_assoc] at m
   subst k
   rw[<-T] at F;clear T
   obtain ⟨d144,fi,rfl,fp⟩:=F.len
   have cb:=aM.back (l:=(g,bz 29)::(f,.cells #[.int .i64 a.aW,.bool a.bu] 91)::(d,bk u0 s1 b c (sl d24 u0.told i))::w) (l':=[]++(w++([(g,bz 29),(f,.cells #[.int .i64 a.aW,.bool a.bu] 91),(d,bk u0 s1 b c (sl d24 u0.told i))]++[]))) [] [(g,bz 29),(f,.cells #[.int .i64 a.aW,.bool a.bu] 91),(d,bk u0 s1 b c (sl d24 u0.told i))] w [] (by first|rfl|simp only[List.append_nil,List.cons_append,List.nil_append,List.append_assoc]|(simp only[List.append_nil,List.cons_append,List.nil_append,List.append_assoc];rfl)) (by first|rfl|simp only[List.append_nil,List.cons_append,List.nil_append,List.append_assoc]|(simp only[List.append_nil,List.cons_append,List.nil_append,List.append_assoc];rfl)) ca
   refine ⟨⟨ro,(g,bz 29)::(f,.cells #[.int .i64 a.aW,.bool a.bu] 91)::(d,bk u0 s1 b c (sl d24 u0.told i))::w⟩,Le.back [] [(g,bz 29),(f,.cells #[.int .i64 a.aW,.bool a.bu] 91),(d,bk u0 s1 b c (sl d24 u0.told i))] w [] (by first|rfl|simp only[List.append_nil,List.cons_append,List.nil_append,List.append_assoc]|(simp only[List.append_nil,List.cons_append,List.nil_append,List.append_assoc];rfl)) (by first|rfl|simp only[List.append_nil,List.cons_append,List.nil_append,List.append_assoc]|(simp only[List.append_nil,List.cons_append,List.nil_append,List.append_assoc];rfl)),?_⟩
   refine ⟨by simp only[*,go_sem,-h],bQ ?_⟩
   revert h;refine bS fun U cd h=>?_
   obtain ⟨cf,V⟩:=c5 cd
   try simp only[*,go_sem,-h]
   refine av fun G W X=>?_;have cl:=aM.cons X cb;try simp only[au] at X
   try simp only[*,go_sem,-h]
   refine dF (r:=c8) (l:=b2) (x:=a) (cs:=#[.int .i64 a.aW,.bool a.bu]) (e2:=91) [(G,.cells #[.int .i64 a.aW,.bool a.bu] 91),(g,bz 29),(f,.cells #[.int .i64 a.aW,.bool a.bu] 91),(d,bk u0 s1 b c (sl d24 u0.told i))] [] F cl cf rfl (by simp only[*,go_sem,-h]) W rfl rfl ei ei gZ g6 rfl g5 (by decide) (by decide) (fun fr cy H k m fs=>?_)
   simp only[List.append_nil,List.cons_append,List.nil_append,List.append_assoc] at m
   subst k
   rw[<-V] at H;clear V
   obtain ⟨d158,Y,rfl,ft⟩:=H.len
   refine ⟨⟨ro,(G,.cells #[.int .i64 a.aW,.bool a.bu] 91)::(g,bz 29)::(f,.cells #[.int .i64 a.aW,.bool a.bu] 91)::(d,bk u0 s1 b c (sl d24 u0.told i))::cy⟩,Le.refl _,?_⟩
   refine ⟨by simp only[*,go_sem,-h],bQ ?_⟩
   try simp only[*,go_sem,-h]
   refine aa hJ ?_
   refine aK hJ fun fu=>?_
   refine ag hJ ?_
   simp only[*,go_sem,-h]
   obtain rfl:=sI h
   refine aK hJ fun Z=>?_
   obtain ⟨fv,ab,D,ad,cS⟩:=H.eX [(G,.cells #[.int .i64 a.aW,.bool a.bu] 91),(g,bk u0 s1 b c (sl d158 U Y)),(f,.cells #[.int .i64 a.aW,.bool a.bu] 91),(d,bk u0 s1 b c (sl d158 U Y))] [] Z (ay.cons W (ay.cons u (ay.cons s (ay.cons q (ay.nil _)))))
   clear Z
   refine cu hJ cS ?_
   obtain ⟨fw,fx,-⟩:=ad.op
   replace j:=j.mono ab
   replace u:=D.tl.hd
   replace s:=D.tl.tl.hd
   replace q:=D.tl.tl.tl.hd
   simp only[bn] at D
   refine aB ?_
   simp only[*,go_sem]
   exact ⟨_,ab,Le.sub (List.nil_sublist _),_,_,_,_,rfl,⟨j.e,j.p,j.y,ad⟩⟩
  revert h;refine bS fun c0 da h=>?_
  obtain ⟨db,ae⟩:=c5 da
  simp only[*,go_sem,-h]
  refine av fun n al ao=>?_;have dd:=aM.cons ao S;try simp only[au] at ao
  try simp only[*,go_sem,-h]
  have df:aV c8 ro 91 (.slice (some ⟨C,0,none⟩) 0 0) ([]:List bP) [(C,.cells #[] 91)]:=aV.empty Q
  refine pz (r:=c8) (l:=([]:List bP)) (xs:=u0.told) [(n,.cells #[.int .i64 a.aW,.bool a.bu] 91)] ((g,bz 29)::(f,.cells #[.int .i64 a.aW,.bool a.bu] 91)::(d,bk u0 s1 b c (sl d24 u0.told i))::[]) df dd db j.t rfl rfl ei ei gZ g6 rfl g5 (by decide) (by decide) (fun gg z I k m dk=>?_)
  simp only[List.append_nil,List.cons_append,List.nil_append,List.append_assoc] at m
  subst k
  rw[<-ae] at I;clear ae
  obtain ⟨d179,gl,rfl,gn⟩:=I.len
  have dp:=aM.back (l:=(n,.cells #[.int .i64 a.aW,.bool a.bu] 91)::(g,bz 29)::(f,.cells #[.int .i64 a.aW,.bool a.bu] 91)::(d,bk u0 s1 b c (sl d24 u0.told i))::z) (l':=[(n,.cells #[.int .i64 a.aW,.bool a.bu] 91)]++(z++([(g,bz 29),(f,.cells #[.int .i64 a.aW,.bool a.bu] 91),(d,bk u0 s1 b c (sl d24 u0.told i))]++[]))) [(n,.cells #[.int .i64 a.aW,.bool a.bu] 91)] [(g,bz 29),(f,.cells #[.int .i64 a.aW,.bool a.bu] 91),(d,bk u0 s1 b c (sl d24 u0.told i))] z [] (by first|rfl|simp only[List.append_nil,List.cons_append,List.nil_append,List.append_assoc]|(simp only[List.append_nil,List.cons_append,List.nil_append,List.append_assoc];rfl)) (by first|rfl|simp only[List.append_nil,List.cons_append,List.nil_append,List.append_assoc]|(simp only[List.append_nil,List.cons_append,List.nil_append,List.append_assoc];rfl)) dk
  refine ⟨⟨ro,(n,.cells #[.int .i64 a.aW,.bool a.bu] 91)::(g,bz 29)::(f,.cells #[.int .i64 a.aW,.bool a.bu] 91)::(d,bk u0 s1 b c (sl d24 u0.told i))::z⟩,Le.back [(n,.cells #[.int .i64 a.aW,.bool a.bu] 91)] [(g,bz 29),(f,.cells #[.int .i64 a.aW,.bool a.bu] 91),(d,bk u0 s1 b c (sl d24 u0.told i))] z [] (by first|rfl|simp only[List.append_nil,List.cons_append,List.nil_append,List.append_assoc]|(simp only[List.append_nil,List.cons_append,List.nil_append,List.append_assoc];rfl)) (by first|rfl|simp only[List.append_nil,List.cons_append,List.nil_append,List.append_assoc]|(simp only[List.append_nil,List.cons_append,List.nil_append,List.append_assoc];rfl)),?_⟩
  refine ⟨by simp only[*,go_sem,-h],bQ ?_⟩
  revert h;refine bS fun ar dq h=>?_
  obtain ⟨ds,a0⟩:=c5 dq
  try simp only[*,go_sem,-h]
  refine dF (r:=c8) (l:=c0) (x:=a) (cs:=#[.int .i64 a.aW,.bool a.bu]) (e2:=91) [(n,.cells #[.int .i64 a.aW,.bool a.bu] 91),(g,bz 29),(f,.cells #[.int .i64 a.aW,.bool a.bu] 91),(d,bk u0 s1 b c (sl d24 u0.told i))] [] I dp ds rfl (by simp only[*,go_sem,-h]) al rfl rfl ei ei gZ g6 rfl g5 (by decide) (by decide) (fun gp dt K k m gB=>?_)
  simp only[List.append_nil,List.cons_append,List.nil_append,List.append_assoc] at m
  subst k
  rw[<-a0] at K;clear a0
  obtain ⟨d191,a2,rfl,gC⟩:=K.len
  refine ⟨⟨ro,(n,.cells #[.int .i64 a.aW,.bool a.bu] 91)::(g,bz 29)::(f,.cells #[.int .i64 a.aW,.bool a.bu] 91)::(d,bk u0 s1 b c (sl d24 u0.told i))::dt⟩,Le.refl _,?_⟩
  refine ⟨by simp only[*,go_sem,-h],bQ ?_⟩
  try simp only[*,go_sem,-h]
  refine aa hJ ?_
  refine aK hJ fun gM=>?_
  refine ag hJ ?_
  simp only[*,go_sem,-h]
  obtain rfl:=sI h
  refine aK hJ fun a3=>?_
  obtain ⟨gT,a4,E,a5,du⟩:=K.eX [(n,.cells #[.int .i64 a.aW,.bool a.bu] 91),(g,bk u0 s1 b c (sl d191 ar a2)),(f,.cells #[.int .i64 a.aW,.bool a.bu] 91),(d,bk u0 s1 b c (sl d191 ar a2))] [] a3 (ay.cons al (ay.cons u (ay.cons s (ay.cons q (ay.nil _)))))
  clear a3
  refine cu hJ du ?_
  obtain ⟨gV,g0,-⟩:=a5.op
  replace j:=j.mono a4
  replace u:=E.tl.hd
  replace s:=E.tl.tl.hd
  replace q:=E.tl.tl.tl.hd
  simp only[bn] at E
  refine aB ?_
  simp only[*,go_sem]
  exact ⟨_,a4,Le.sub (List.nil_sublist _),_,_,_,_,rfl,⟨j.e,j.p,j.y,a5⟩⟩
 revert h;refine bS fun dv dC h=>?_
 obtain ⟨dE,a6⟩:=c5 dC
 simp only[*,go_sem,-h]
 refine av fun o a7 a8=>?_;have dT:=aM.cons a8 P;try simp only[au] at a8
 try simp only[*,go_sem,-h]
 refine av fun a9 ea ba=>?_;have eb:=aM.cons ba dT;try simp only[au] at ba
 try simp only[*,go_sem,-h]
 have ec:aV c8 ro 91 (.slice (some ⟨a9,0,none⟩) 0 0) ([]:List bP) [(a9,.cells #[] 91)]:=aV.empty ea
 refine pz (r:=c8) (l:=([]:List bP)) (xs:=u0.told) [] ((o,.cells #[.int .i64 a.aW,.bool a.bu] 91)::(g,bz 29)::(f,.cells #[.int .i64 a.aW,.bool a.bu] 91)::(d,bk u0 s1 b c (sl d24 u0.told i))::[]) ec eb dE j.t rfl rfl ei ei gZ g6 rfl g5 (by decide) (by decide) (fun g1 B L k m ed=>?_)
 simp only[List.append_nil,List.cons_append,List.nil_append,List.append_assoc] at m
 subst k
 rw[<-a6] at L;clear a6
 obtain ⟨g2,g3,rfl,g4⟩:=L.len
 have eh:=aM.back (l:=(o,.cells #[.int .i64 a.aW,.bool a.bu] 91)::(g,bz 29)::(f,.cells #[.int .i64 a.aW,.bool a.bu] 91)::(d,bk u0 s1 b c (sl d24 u0.told i))::B) (l':=[]++(B++([(o,.cells #[.int .i64 a.aW,.bool a.bu] 91),(g,bz 29),(f,.cells #[.int .i64 a.aW,.bool a.bu] 91),(d,bk u0 s1 b c (sl d24 u0.told i))]++[]))) [] [(o,.cells #[.int .i64 a.aW,.bool a.bu] 91),(g,bz 29),(f,.cells #[.int .i64 a.aW,.bool a.bu] 91),(d,bk u0 s1 b c (sl d24 u0.told i))] B [] (by first|rfl|simp only[List.append_nil,List.cons_append,List.nil_append,List.append_assoc]|(simp only[List.append_nil,List.cons_append,List.nil_append,List.append_assoc];rfl)) (by first|rfl|simp only[List.append_nil,List.cons_append,List.nil_append,List.append_assoc]|(simp only[List.append_nil,List.cons_append,List.nil_append,List.append_assoc];rfl)) ed
 refine ⟨⟨ro,(o,.cells #[.int .i64 a.aW,.bool a.bu] 91)::(g,bz 29)::(f,.cells #[.int .i64 a.aW,.bool a.bu] 91)::(d,bk u0 s1 b c (sl d24 u0.told i))::B⟩,Le.back [] [(o,.cells #[.int .i64 a.aW,.bool a.bu] 91),(g,bz 29),(f,.cells #[.int .i64 a.aW,.bool a.bu] 91),(d,bk u0 s1 b c (sl d24 u0.told i))] B [] (by first|rfl|simp only[List.append_nil,List.cons_append,List.nil_append,List.append_assoc]|(simp only[List.append_nil,List.cons_append,List.nil_append,List.append_assoc];rfl)) (by first|rfl|simp only[List.append_nil,List.cons_append,List.nil_append,List.append_assoc]|(simp only[List.append_nil,List.cons_append,List.nil_append,List.append_assoc];rfl)),?_⟩
 refine ⟨by simp only[*,go_sem,-h],bQ ?_⟩
 revert h;refine bS fun bb et h=>?_
 obtain ⟨ev,bc⟩:=c5 et
 try simp only[*,go_sem,-h]
 refine dF (r:=c8) (l:=dv) (x:=a) (cs:=#[.int .i64 a.aW,.bool a.bu]) (e2:=91) [(o,.cells #[.int .i64 a.aW,.bool a.bu] 91),(g,bz 29),(f,.cells #[.int .i64 a.aW,.bool a.bu] 91),(d,bk u0 s1 b c (sl d24 u0.told i))] [] L eh ev rfl (by simp only[*,go_sem,-h]) a7 rfl rfl ei ei gZ g6 rfl g5 (by decide) (by decide) (fun ha eQ M k m hc=>?_)
 simp only[List.append_nil,List.cons_append,List.nil_append,List.append_assoc] at m
 subst k
 rw[<-bc] at M;clear bc
 obtain ⟨bd,bj,rfl,hf⟩:=M.len
 refine ⟨⟨ro,(o,.cells #[.int .i64 a.aW,.bool a.bu] 91)::(g,bz 29)::(f,.cells #[.int .i64 a.aW,.bool a.bu] 91)::(d,bk u0 s1 b c (sl d24 u0.told i))::eQ⟩,Le.refl _,?_⟩
 refine ⟨by simp only[*,go_sem,-h],bQ ?_⟩
 try simp only[*,go_sem,-h]
 refine aa hJ ?_
 refine aK hJ fun hg=>?_
 refine ag hJ ?_
 simp only[*,go_sem,-h]
 obtain rfl:=sI h
 refine aK hJ fun bl=>?_
 obtain ⟨hh,bm,eS,bo,e0⟩:=M.eX [(o,.cells #[.int .i64 a.aW,.bool a.bu] 91),(g,bk u0 s1 b c (sl bd bb bj)),(f,.cells #[.int .i64 a.aW,.bool a.bu] 91),(d,bk u0 s1 b c (sl bd bb bj))] [] bl (ay.cons a7 (ay.cons u (ay.cons s (ay.cons q (ay.nil _)))))
 clear bl
 refine cu hJ e0 ?_
 obtain ⟨hi,hj,-⟩:=bo.op
 replace j:=j.mono bm
 simp only[bn] at eS
 refine aB ?_
 simp only[*,go_sem]
 exact ⟨_,bm,Le.sub (List.nil_sublist _),_,_,_,_,rfl,⟨j.e,j.p,j.y,bo⟩⟩
def nL (a:(List Int))(b:Int)(st:(Int×(List bH))):Option (Fl (Int×(List bH)) aj):=
 cond (decide (st.1<(a.length:Int))) (ah (bK a st.1) fun c=>ah (cZ st.2 ([(⟨c,b⟩:bH)])) fun d=>some (.nx ((IntKind.i64.wrap (st.1+1)),d))) (some (.bk (st.1,st.2)))
def jv (u0:aj)(a:(List Int))(b:Int):Option aj:=
 ah (cZ ([]:List bH) u0.props) fun c=>ah (bD (nL a b) fu (0,c)) fun o=>aO o (fun d=>some (⟨u0.aQ,u0.aN,u0.aE,u0.an,d.2,u0.aF,u0.told⟩:aj)) (fun _ _=>none) (fun r=>some r)
theorem wH {ro:Addr->Option Value}(u0:aj){s1 H a b:Value}(k:bG ro u0 s1 H a b)(w:(List Int)){I:Value}(K:aA rI ro I w)(n:Int){r:aj}(h:jv u0 w n=some r):eu Tryz.prog 30 #[bv u0 s1 H a b,I,.int .i64 n] ro (fun v aL=>∃L w1 w2 w3,v=bv r L w1 w2 w3/\bG aL r L w1 w2 w3):=by
 obtain ⟨d10,c,rfl,dd,df,-⟩:=id k.p
 obtain ⟨d31,dk,rfl,dp,dq,-⟩:=id K
 unfold jv at h
 have ab:=k.oc;simp only[bx] at ab
 refine aC.go Tryz.func30 rfl Tryz.ntmps30 Tryz.results30 (by simp) fun main J hJ A ad hd hs=>?_
 have ae:=hs 0
 have k1:=hs 1
 have al:=hs 2
 clear hs
 refine aa hJ (ag hJ ?_)
 simp only[*,go_sem]
 refine av fun f ao ar=>?_;try simp only[au] at ar
 refine av fun g a0 a2=>?_;try simp only[au] at a2
 try simp only[*,go_sem]
 refine aa hJ (ag hJ ?_)
 simp only[*,go_sem]
 refine av fun i a3 a4=>?_;try simp only[au] at a4
 try simp only[*,go_sem]
 refine aa hJ ?_
 refine aK hJ fun a5=>?_
 refine ag hJ ?_
 revert h;refine bS fun a6 a7 h=>?_
 obtain ⟨a8,M⟩:=c5 a7
 simp only[*,go_sem]
 refine av fun N a9 O=>?_;have ba:=aM.cons O a5;try simp only[au] at O
 try simp only[*,go_sem]
 have bb:aV dW ro 132 (.slice (some ⟨N,0,none⟩) 0 0) ([]:List bH) [(N,.cells #[] 132)]:=aV.empty a9
 refine pz (r:=dW) (l:=([]:List bH)) (xs:=u0.props) [] ((i,bk u0 s1 (sl d10 u0.props c) a b)::(g,bz 29)::(f,bk u0 s1 (sl d10 u0.props c) a b)::[]) bb ba a8 k.p rfl rfl jj jj o3 o6 rfl o5 (by decide) (by decide) (fun ds o z B C bc=>?_)
 simp only[List.append_nil,List.cons_append,List.nil_append,List.append_assoc] at C
 subst B
 rw[<-M] at z;clear M
 obtain ⟨d48,bd,rfl,bj⟩:=z.len
 have dt:=aM.back (l:=(i,bk u0 s1 (sl d10 u0.props c) a b)::(g,bz 29)::(f,bk u0 s1 (sl d10 u0.props c) a b)::o) (l':=[]++(o++([(i,bk u0 s1 (sl d10 u0.props c) a b),(g,bz 29),(f,bk u0 s1 (sl d10 u0.props c) a b)]++[]))) [] [(i,bk u0 s1 (sl d10 u0.props c) a b),(g,bz 29),(f,bk u0 s1 (sl d10 u0.props c) a b)] o [] (by first|rfl|simp only[List.append_nil,List.cons_append,List.nil_append,List.append_assoc]|(simp only[List.append_nil,List.cons_append,List.nil_append,List.append_assoc];rfl)) (by first|rfl|simp only[List.append_nil,List.cons_append,List.nil_append,List.append_assoc]|(simp only[List.append_nil,List.cons_append,List.nil_append,List.append_assoc];rfl)) bc
 refine ⟨⟨ro,(i,bk u0 s1 (sl d10 u0.props c) a b)::(g,bz 29)::(f,bk u0 s1 (sl d10 u0.props c) a b)::o⟩,Le.back [] [(i,bk u0 s1 (sl d10 u0.props c) a b),(g,bz 29),(f,bk u0 s1 (sl d10 u0.props c) a b)] o [] (by first|rfl|simp only[List.append_nil,List.cons_append,List.nil_append,List.append_assoc]|(simp only[List.append_nil,List.cons_append,List.nil_append,List.append_assoc];rfl)) (by first|rfl|simp only[List.append_nil,List.cons_append,List.nil_append,List.append_assoc]|(simp only[List.append_nil,List.cons_append,List.nil_append,List.append_assoc];rfl)),?_⟩
 refine aD ?_
 try simp only[*,go_sem]
 refine aa hJ (aa hJ ?_)
 refine aK hJ fun du=>?_
 refine ag hJ ?_
 simp only[*,go_sem]
 refine aY hJ ?_
 revert h;refine bS fun bl s bm=>?_
 refine cc hJ [8,15,16,17,18,19,20,21,22,23,24,25,26,27,28,29,30,31] (fun m a' F'=>∃(d57:Option Addr) (j:Nat) (D:List (Nat×Obj)) (u:Int) (d:(List bH)),bD (nL w n) m (u,d)=some bl/\F'=⟨ro,(i,bk u0 s1 (sl d57 d j) a b)::(g,bz 29)::(f,bk u0 s1 (sl d10 u0.props c) a b)::D⟩/\aV dW ro 132 (.slice d57 d.length j) d D/\d.length<=j/\slot a' 8= .int .i64 u) fu ?_ ?_
 ·refine ⟨d48,bd,o,0,a6,s,rfl,z,bj,?_⟩
  simp only[*,go_sem]
 rintro E dv F' P ⟨d57,j,D,u,d,s,rfl,Q,dC,dE⟩
 obtain ⟨bo,br,bs⟩:=P.pick [1,2,6,7] (by decide)
 simp only[*,go_sem] at bo br bs
 clear P ad hd ae k1 al
 obtain _|E:=E
 ·exact absurd s (by simp only[bD,reduceCtorEq,not_false_eq_true])
 revert s;refine bS fun dT h F=>?_
 unfold nL at h
 try dsimp only at h
 refine aa hJ (aa hJ ?_)
 refine aK hJ fun ea=>?_
 refine ag hJ ?_
 simp only[*,go_sem]
 revert h;refine jC hJ (by simp only[*,go_sem]) (fun b0 h=>?_) fun b0 h=>?_
 ·refine aG hJ (aa hJ ?_)
  refine aY hJ ?_
  refine aK hJ fun b1=>?_
  refine gq hJ mixed [11] (.pure 0 (.rd 1 (.pure 2 (.pure 3 (.pure 4 (.rd 5 (.pure 6 (.pure 7 (.one 8 (.one 9 (.pure 10 (.last 11 .done)))))))))))) ⟨ro,[(i,bk u0 s1 (sl d57 d j) a b),(g,bz 29),(f,bk u0 s1 (sl d10 u0.props c) a b)]⟩ (by simp only[*,go_sem]) (by kernel_rfl) ?_
  revert h;refine bS fun q b2 h=>?_
  obtain ⟨eb,ec,R⟩:=cM b2
  obtain ⟨ed,b3,b4,b5,S⟩:=K.el _ _ R
  obtain rfl:b3=[.int .i64 q]:=b5
  cases b4
  have ca:=S 0 _ rfl;simp only[go_sem] at ca
  clear S R
  revert h;refine bS fun cb cd h=>?_
  obtain rfl:=sI h
  obtain ⟨cf,T⟩:=c5 cd
  try simp only[*,go_sem]
  refine av fun U cl V=>?_;have cy:=aM.cons V b1;try simp only[au] at V
  try simp only[*,go_sem]
  refine dF (r:=dW) (l:=d) (x:=(⟨q,n⟩:bH)) (cs:=#[.int .i64 q,.int .i64 n]) (e2:=132) [(U,.cells #[.int .i64 q,.int .i64 n] 132),(i,bk u0 s1 (sl d57 d j) a b),(g,bz 29),(f,bk u0 s1 (sl d10 u0.props c) a b)] [] Q cy cf rfl (by simp only[*,go_sem]) cl rfl rfl jj jj o3 o6 rfl o5 (by decide) (by decide) (fun eh W G B C et=>?_)
  simp only[List.append_nil,List.cons_append,List.nil_append,List.append_assoc] at C
  subst B
  rw[<-T] at G;clear T
  obtain ⟨d111,cS,rfl,c0⟩:=G.len
  refine ⟨⟨ro,(U,.cells #[.int .i64 q,.int .i64 n] 132)::(i,bk u0 s1 (sl d57 d j) a b)::(g,bz 29)::(f,bk u0 s1 (sl d10 u0.props c) a b)::W⟩,Le.refl _,?_⟩
  refine ⟨by simp only[*,go_sem],bQ ?_⟩
  try simp only[*,go_sem]
  refine aK hJ fun ev=>?_
  refine ag hJ ?_
  simp only[*,go_sem]
  refine ⟨E,Nat.lt_succ_self _,_,Le.sub (List.Sublist.cons _ (List.Sublist.refl _)),d111,cS,W,(IntKind.i64.wrap (u+1)),cb,F,rfl,G,c0,?_⟩
  simp only[*,go_sem]
 obtain rfl:=sI h
 refine b7 ?_
 simp only[go_sem]
 obtain rfl:=sI F;clear F
 have h:=bm
 dsimp only[aO] at h
 obtain rfl:=sI h
 refine aa hJ ?_
 refine aK hJ fun eQ=>?_
 refine ag hJ ?_
 simp only[*,go_sem]
 refine aK hJ fun X=>?_
 obtain ⟨eS,Y,da,Z,db⟩:=Q.eX [(i,bk u0 s1 (sl d57 d j) a b),(g,bk u0 s1 (sl d57 d j) a b),(f,bk u0 s1 (sl d10 u0.props c) a b)] [] X (ay.cons a3 (ay.cons a0 (ay.cons ao (ay.nil _))))
 clear X
 refine cu hJ db ?_
 obtain ⟨e0,e1,-⟩:=Z.op
 replace k:=k.mono Y
 simp only[bn] at da
 refine aB ?_
 simp only[*,go_sem]
 exact ⟨_,Y,Le.sub (List.nil_sublist _),_,_,_,_,rfl,⟨k.e,Z,k.y,k.t⟩⟩
def wI :Option aj:=
 ah (fD 1 2) fun a=>ah (k5 10 12) fun b=>ah (k5 10 10) fun c=>some (⟨20,2,a,[(⟨0,2⟩:bF),(⟨8,4⟩:bF),(⟨14,4⟩:bF)],([]:(List bH)),[(⟨2,b⟩:bR),(⟨4,c⟩:bR)],([]:(List bP))⟩:aj)
theorem F8 {ro:Addr->Option Value}{r:aj}(h:wI=some r):eu Tryz.prog 40 #[] ro (fun v aL=>∃m w1 w2 w3,v=bv r m w1 w2 w3/\bG aL r m w1 w2 w3):=by
 unfold wI at h
 refine aC.go Tryz.func40 rfl Tryz.ntmps40 Tryz.results40 (by simp) fun main J hJ A H hd hs=>?_
 clear hs
 refine aa hJ (ag hJ ?_)
 simp only[*,go_sem]
 refine av fun n r1 n1=>?_;try simp only[au] at n1
 try simp only[*,go_sem]
 refine aa hJ ?_
 refine aK hJ fun C=>?_
 refine ag hJ ?_
 revert h;refine bS fun g D h=>?_
 simp only[*,go_sem]
 refine aR hJ _ (gy 1 2 D) (aD ?_)
 revert h;refine bS fun a E h=>?_
 try simp only[*,go_sem]
 refine av fun b5 p q=>?_;have F:=aM.cons q C;try simp only[au] at q
 try simp only[*,go_sem]
 refine aR hJ _ (pS 10 12 E) (aD ?_)
 revert h;refine bS fun c G h=>?_
 obtain rfl:=sI h
 try simp only[*,go_sem]
 refine aR hJ _ (pS 10 10 G) (aD ?_)
 try simp only[*,go_sem]
 refine av fun d i s=>?_;have I:=aM.cons s F;try simp only[au] at s
 try simp only[*,go_sem]
 refine aK hJ fun t=>?_
 obtain ⟨u,j,w⟩:=eV (b:=b5) (o:=(.cells #[.int .i64 0,.int .i64 2,.int .i64 8,.int .i64 4,.int .i64 14,.int .i64 4] 45)) [(d,.cells #[.int .i64 2,.int .i64 a.low,.int .i64 a.high,.int .i64 4,.int .i64 c.low,.int .i64 c.high] 130)] ((n,.cells #[.int .i64 20,.int .i64 2,.int .i64 g.num,.int .i64 g.den,.slice (some ⟨b5,0,none⟩) 3 3,.slice none 0 0,.slice (some ⟨d,0,none⟩) 2 2,.slice none 0 0] 29)::[]) t p (ay.cons i (ay.cons r1 (ay.nil _)))
 clear t
 have f:aA ey (bN ro b5 (.cells #[.int .i64 0,.int .i64 2,.int .i64 8,.int .i64 4,.int .i64 14,.int .i64 4] 45)) (.slice (some ⟨b5,0,none⟩) 3 3) [(⟨0,2⟩:bF),(⟨8,4⟩:bF),(⟨14,4⟩:bF)]:=(aA.flat (r:=ey) (e:=45) (cs:=#[.int .i64 0,.int .i64 2,.int .i64 8,.int .i64 4,.int .i64 14,.int .i64 4]) bF.cells ([(⟨0,2⟩:bF),(⟨8,4⟩:bF),(⟨14,4⟩:bF)]) (fun _=>rfl) p rfl (by simp))
 generalize bN ro b5 (.cells #[.int .i64 0,.int .i64 2,.int .i64 8,.int .i64 4,.int .i64 14,.int .i64 4] 45)=x at u j w f
 refine cu hJ w ?_
 obtain ⟨K,L,-⟩:=f.op
 replace i:=j.hd
 replace r1:=j.tl.hd
 simp only[bn] at j
 refine aK hJ fun y=>?_
 obtain ⟨k,z,B⟩:=eV (b:=d) (o:=(.cells #[.int .i64 2,.int .i64 a.low,.int .i64 a.high,.int .i64 4,.int .i64 c.low,.int .i64 c.high] 130)) [] ((n,.cells #[.int .i64 20,.int .i64 2,.int .i64 g.num,.int .i64 g.den,.slice (some ⟨b5,0,none⟩) ([(⟨0,2⟩:bF),(⟨8,4⟩:bF),(⟨14,4⟩:bF)]).length 3,.slice none 0 0,.slice (some ⟨d,0,none⟩) 2 2,.slice none 0 0] 29)::[]) y i (ay.cons r1 (ay.nil _))
 clear y
 have l:aA ek (bN x d (.cells #[.int .i64 2,.int .i64 a.low,.int .i64 a.high,.int .i64 4,.int .i64 c.low,.int .i64 c.high] 130)) (.slice (some ⟨d,0,none⟩) 2 2) [(⟨2,a⟩:bR),(⟨4,c⟩:bR)]:=(aA.flat (r:=ek) (e:=130) (cs:=#[.int .i64 2,.int .i64 a.low,.int .i64 a.high,.int .i64 4,.int .i64 c.low,.int .i64 c.high]) bR.cells ([(⟨2,a⟩:bR),(⟨4,c⟩:bR)]) (fun _=>rfl) i rfl (by simp))
 generalize bN x d (.cells #[.int .i64 2,.int .i64 a.low,.int .i64 a.high,.int .i64 4,.int .i64 c.low,.int .i64 c.high] 130)=M at k z B l
 refine cu hJ B ?_
 obtain ⟨N,O,-⟩:=l.op
 replace f:=f.mono k
 simp only[bn] at z
 refine aB ?_
 simp only[*,go_sem]
 exact ⟨_,(u).trans k,Le.sub (List.nil_sublist _),_,_,_,_,rfl,f,aA.nil _ _,l,aA.nil _ _⟩
def pV (u0:aj)(st:(Int×Int)):Option (Fl (Int×Int) Int):=
 cond (decide (st.2<(u0.an.length:Int))) (ah (bK u0.an st.2) fun a=>ah (ez a.ax 0 (IntKind.i64.wrap (u0.aQ - 1))) fun b=>cond (!b) (some (.rt 1)) (ah (ez a.high 0 60) fun c=>cond (!c) (some (.rt 1)) (cond (decide (0<st.2)) (ah (bK u0.an (IntKind.i64.wrap (st.2 - 1))) fun d=>cond (decide (a.ax<=d.ax)) (some (.rt 7)) (some (.nx (st.1,(IntKind.i64.wrap (st.2+1)))))) (some (.nx (st.1,(IntKind.i64.wrap (st.2+1)))))))) (some (.bk (st.1,st.2)))
def mz (u0:aj):Option Int:=
 ah (ez (u0.an.length:Int) 2 5) fun a=>cond (!a) (some 2) (ah (bD (pV u0) fu (0,0)) fun o=>aO o (fun b=>some 0) (fun _ _=>none) (fun r=>some r))
theorem F9 {ro:Addr->Option Value}(u0:aj){s1 i j k:Value}(l:bG ro u0 s1 i j k){r:Int}(h:mz u0=some r):aC Tryz.prog 75 #[bv u0 s1 i j k] ⟨ro,[]⟩ (fun v _=>v= .int .i64 r):=by
 obtain ⟨d3,c4,rfl,ae,al,-⟩:=id l.e
 unfold mz at h
 refine aC.go Tryz.func75 rfl Tryz.ntmps75 Tryz.results75 (by simp) fun main J hJ A u hd hs=>?_
 have w:=hs 0
 clear hs
 refine aa hJ (ag hJ ?_)
 simp only[*,go_sem]
 refine av fun x ao y=>?_;try simp only[au] at y
 try simp only[*,go_sem]
 refine aa hJ (aa hJ (ag hJ ?_))
 revert h;refine bS fun ar z h=>?_
 simp only[*,go_sem]
 refine aR hJ _ (gO (u0.an.length:Int) 2 5 z) (aD ?_)
 try simp only[*,go_sem]
 revert h;refine jC hJ (by simp only[*,go_sem]) (fun B h=>?_) fun B h=>?_
 ·obtain rfl:=sI h
  refine aa hJ (ag hJ ?_)
  simp only[*,go_sem]
  refine aB ?_
  simp only[*,go_sem]
 refine aG hJ (aa hJ ?_)
 refine aa hJ (ag hJ ?_)
 simp only[*,go_sem]
 refine aY hJ ?_
 revert h;refine bS fun C d f=>?_
 refine cc hJ [2,3,4,10,11,12,13,14,15,16,17,18,19,20,21,22,23,24,25,26,27,28,29,30,31,32,33,34,35,36,37,38,39,40,41,42,43,44,45,46,47,48] (fun m a' F'=>∃(b:Int) (c:Int),bD (pV u0) m (b,c)=some C/\F'=⟨ro,(x,bk u0 (sl d3 u0.an c4) i j k)::[]⟩/\slot a' 2= .int .i64 b/\slot a' 3= .int .i64 c) fu ?_ ?_
 ·refine ⟨0,0,d,rfl,?_⟩
  simp only[*,go_sem]
 rintro g a0 F' q ⟨b,c,d,rfl,a2,a3⟩
 obtain ⟨D,E,F⟩:=q.pick [1] (by decide)
 simp only[*,go_sem] at D E F
 clear q u hd w
 obtain _|g:=g
 ·exact absurd d (by simp only[bD,reduceCtorEq,not_false_eq_true])
 revert d;refine bS fun a4 h a=>?_
 unfold pV at h
 try dsimp only at h
 refine aa hJ (aa hJ (ag hJ ?_))
 simp only[*,go_sem]
 revert h;refine jC hJ (by simp only[*,go_sem]) (fun G h=>?_) fun G h=>?_
 ·refine aG hJ (aa hJ ?_)
  refine aY hJ (aa hJ ?_)
  refine ag hJ ?_
  revert h;refine bS fun n H h=>?_
  obtain ⟨a5,a6,s⟩:=cM H
  obtain ⟨a7,I,K,L,o⟩:=l.e.el _ _ s
  obtain rfl:I=n.cells:=L
  cases K
  have M:=o 0 _ rfl;simp only[go_sem] at M
  have N:=o 1 _ rfl;simp only[go_sem] at N
  clear o s
  try simp only[*,go_sem]
  refine av fun a8 a9 O=>?_;try simp only[au] at O
  try simp only[*,go_sem]
  refine aa hJ (aa hJ (ag hJ ?_))
  revert h;refine bS fun ba P h=>?_
  simp only[*,go_sem]
  refine aR hJ _ (gO n.ax 0 (IntKind.i64.wrap (u0.aQ - 1)) P) (aD ?_)
  revert h;refine cS (fun Q h=>?_) fun Q h=>?_
  ·obtain rfl:=sI h
   try simp only[*,go_sem]
   refine bM hJ (by simp only[*,go_sem]) ?_
   refine aa hJ (ag hJ ?_)
   simp only[*,go_sem]
   obtain rfl:=sI a;clear a
   have h:=f
   dsimp only[aO] at h
   obtain rfl:=sI h
   refine aB ?_
   simp only[*,go_sem]
  revert h;refine bS fun bb R h=>?_
  try simp only[*,go_sem]
  refine aR hJ _ (gO n.high 0 60 R) (aD ?_)
  try simp only[*,go_sem]
  revert h;refine jC hJ (by simp only[*,go_sem]) (fun S h=>?_) fun S h=>?_
  ·obtain rfl:=sI h
   refine aa hJ (ag hJ ?_)
   simp only[*,go_sem]
   obtain rfl:=sI a;clear a
   have h:=f
   dsimp only[aO] at h
   obtain rfl:=sI h
   refine aB ?_
   simp only[*,go_sem]
  refine aG hJ (aa hJ ?_)
  refine dh hJ mixed 14 2 (by simp only[*,go_sem]) (by kernel_rfl) ?_
  revert h;refine cS (fun T h=>?_) fun T h=>?_
  ·revert h;refine bS fun U V h=>?_
   obtain ⟨bc,bd,t⟩:=cM V
   obtain ⟨bj,W,X,Y,p⟩:=l.e.el _ _ t
   obtain rfl:W=U.cells:=Y
   cases X
   have Z:=p 0 _ rfl;simp only[go_sem] at Z
   have ab:=p 1 _ rfl;simp only[go_sem] at ab
   clear p t
   try simp only[*,go_sem]
   revert h;refine jC hJ (by simp only[*,go_sem]) (fun ad h=>?_) fun ad h=>?_
   ·obtain rfl:=sI h
    refine aa hJ (ag hJ ?_)
    simp only[*,go_sem]
    obtain rfl:=sI a;clear a
    have h:=f
    dsimp only[aO] at h
    obtain rfl:=sI h
    refine aB ?_
    simp only[*,go_sem]
   obtain rfl:=sI h
   refine aG hJ (ag hJ ?_)
   simp only[*,go_sem]
   refine ⟨g,Nat.lt_succ_self _,_,Le.sub (List.Sublist.cons _ (List.Sublist.refl _)),b,(IntKind.i64.wrap (c+1)),a,rfl,?_⟩
   simp only[*,go_sem]
  obtain rfl:=sI h
  try simp only[*,go_sem]
  refine bJ hJ (by simp only[*,go_sem]) ?_
  refine aG hJ (ag hJ ?_)
  simp only[*,go_sem]
  refine ⟨g,Nat.lt_succ_self _,_,Le.sub (List.Sublist.cons _ (List.Sublist.refl _)),b,(IntKind.i64.wrap (c+1)),a,rfl,?_⟩
  simp only[*,go_sem]
 obtain rfl:=sI h
 refine b7 ?_
 simp only[go_sem]
 obtain rfl:=sI a;clear a
 have h:=f
 dsimp only[aO] at h
 obtain rfl:=sI h
 refine aa hJ (ag hJ ?_)
 simp only[*,go_sem]
 refine aB ?_
 simp only[*,go_sem]
def Ay (u0:aj)(st:(Int×Int)):Option (Fl (Int×Int) Int):=
 cond (decide (st.2<(u0.told.length:Int))) (ah (bK u0.told st.2) fun a=>ah (nE u0 a.aW) fun b=>cond (!b) (some (.rt 6)) (some (.nx (st.1,(IntKind.i64.wrap (st.2+1)))))) (some (.bk (st.1,st.2)))
def Az (u0:aj)(st:(Int×Int)):Option (Fl (Int×Int) Int):=
 cond (decide (st.2<(u0.aF.length:Int))) (ah (bK u0.aF st.2) fun a=>ah (ez a.back 1 20) fun b=>cond (!b) (some (.rt 1)) (ah (mo a.high 0 60) fun c=>cond (!c) (some (.rt 1)) (cond (decide (3<=(IntKind.i64.wrap (a.high.high - a.high.low)))) (some (.rt 1)) (some (.nx (st.1,(IntKind.i64.wrap (st.2+1)))))))) (some (.bk (st.1,st.2)))
def pW (u0:aj)(st:(Int×Int)):Option (Fl (Int×Int) Int):=
 cond (decide (st.2<(u0.props.length:Int))) (ah (bK u0.props st.2) fun a=>ah (mj u0 a.place) fun b=>cond (!b) (some (.rt 6)) (ah (ez a.cn 1 20) fun c=>cond (!c) (some (.rt 1)) (some (.nx (st.1,(IntKind.i64.wrap (st.2+1))))))) (some (.bk (st.1,st.2)))
def wJ (u0:aj)(st:(Int×Int)):Option (Fl (Int×Int) Int):=
 cond (decide (st.2<(u0.aF.length:Int))) (ah (bK u0.aF st.2) fun a=>ah (ez a.back 1 20) fun b=>cond (!b) (some (.rt 1)) (ah (mo a.high 0 60) fun c=>cond (!c) (some (.rt 1)) (cond (decide (3<=(IntKind.i64.wrap (a.high.high - a.high.low)))) (some (.rt 1)) (some (.nx (st.1,(IntKind.i64.wrap (st.2+1)))))))) (some (.bk (st.1,st.2)))
def wK (u0:aj)(st:(Int×Int)):Option (Fl (Int×Int) Int):=
 cond (decide (st.2<(u0.told.length:Int))) (ah (bK u0.told st.2) fun a=>ah (nE u0 a.aW) fun b=>cond (!b) (some (.rt 6)) (some (.nx (st.1,(IntKind.i64.wrap (st.2+1)))))) (some (.bk (st.1,st.2)))
def mA (u0:aj):Option Int:=
 cond (decide (3<(u0.props.length:Int))) (some 2) (ah (bD (pW u0) fu (0,0)) fun o=>aO o (fun a=>ah (ez (u0.aF.length:Int) 1 3) fun b=>cond (!b) (some 2) (ah (bD (wJ u0) fu (a.1,0)) fun o=>aO o (fun c=>cond (decide (3<(u0.told.length:Int))) (some 2) (ah (bD (wK u0) fu (c.1,0)) fun o=>aO o (fun d=>some 0) (fun _ _=>none) (fun r=>some r))) (fun _ _=>none) (fun r=>some r))) (fun _ _=>none) (fun r=>some r))
theorem Ga {ro:Addr->Option Value}(u0:aj){s1 M N O:Value}(b:bG ro u0 s1 M N O){r:Int}(h:mA u0=some r):aC Tryz.prog 76 #[bv u0 s1 M N O] ⟨ro,[]⟩ (fun v _=>v= .int .i64 r):=by
 obtain ⟨d10,u,rfl,eb,ec,-⟩:=id b.p
 obtain ⟨d17,w,rfl,ed,eh,-⟩:=id b.y
 obtain ⟨d24,x,rfl,et,ev,-⟩:=id b.t
 unfold mA at h
 refine aC.go Tryz.func76 rfl Tryz.ntmps76 Tryz.results76 (by simp) fun main J hJ A al hd hs=>?_
 have ao:=hs 0
 clear hs
 refine aa hJ (ag hJ ?_)
 simp only[*,go_sem]
 refine av fun z eQ ar=>?_;try simp only[au] at ar
 try simp only[*,go_sem]
 refine aa hJ (aa hJ (ag hJ ?_))
 simp only[*,go_sem]
 revert h;refine jC hJ (by simp only[*,go_sem]) (fun a0 h=>?_) fun a0 h=>?_
 ·obtain rfl:=sI h
  refine aa hJ (ag hJ ?_)
  simp only[*,go_sem]
  refine aB ?_
  simp only[*,go_sem]
 refine aG hJ (aa hJ ?_)
 refine aa hJ (ag hJ ?_)
 simp only[*,go_sem]
 refine aY hJ ?_
 revert h;refine bS fun a2 g B=>?_
 refine cc hJ [2,3,11,12,13,14,15,16,17,18,19,20,21,22,23,24,25,26,27,28,29,30,31,32,33,34] (fun m a' F'=>∃(d:Int) (i:Int),bD (pW u0) m (d,i)=some a2/\F'=⟨ro,(z,bk u0 s1 (sl d10 u0.props u) (sl d17 u0.aF w) (sl d24 u0.told x))::[]⟩/\slot a' 2= .int .i64 d/\slot a' 3= .int .i64 i) fu ?_ ?_
 ·refine ⟨0,0,g,rfl,?_⟩
  simp only[*,go_sem]
 rintro C eS F' P ⟨d,i,g,rfl,a3,a4⟩
 obtain ⟨Q,R,S⟩:=P.pick [1] (by decide)
 simp only[*,go_sem] at Q R S
 clear P al hd ao
 obtain _|C:=C
 ·exact absurd g (by simp only[bD,reduceCtorEq,not_false_eq_true])
 revert g;refine bS fun e0 h c=>?_
 unfold pW at h
 try dsimp only at h
 refine aa hJ (aa hJ (ag hJ ?_))
 simp only[*,go_sem]
 revert h;refine jC hJ (by simp only[*,go_sem]) (fun a5 h=>?_) fun a5 h=>?_
 ·refine aG hJ (aa hJ ?_)
  refine aY hJ (aa hJ ?_)
  refine aa hJ ?_
  refine dh hJ mixed 9 1 (by simp only[*,go_sem]) (by kernel_rfl) ?_
  revert h;refine bS fun D a6 h=>?_
  obtain ⟨e1,e2,T⟩:=cM a6
  obtain ⟨e3,a7,a8,a9,E⟩:=b.p.el _ _ T
  obtain rfl:a7=D.cells:=a9
  cases a8
  have ba:=E 0 _ rfl;simp only[go_sem] at ba
  have bb:=E 1 _ rfl;simp only[go_sem] at bb
  clear E T
  revert h;refine bS fun fa bc h=>?_
  try simp only[*,go_sem]
  refine ⟨_,bA hJ fun F G=>F3 u0 (b.mono (bX G)) D.place bc,bV ?_⟩
  try simp only[*,go_sem]
  revert h;refine jC hJ (by simp only[*,go_sem]) (fun bd h=>?_) fun bd h=>?_
  ·obtain rfl:=sI h
   refine aa hJ (ag hJ ?_)
   simp only[*,go_sem]
   obtain rfl:=sI c;clear c
   have h:=B
   dsimp only[aO] at h
   obtain rfl:=sI h
   refine aB ?_
   simp only[*,go_sem]
  refine aG hJ (aa hJ ?_)
  refine ag hJ ?_
  revert h;refine bS fun fb bj h=>?_
  simp only[*,go_sem]
  refine aR hJ _ (gO D.cn 1 20 bj) (aD ?_)
  try simp only[*,go_sem]
  revert h;refine jC hJ (by simp only[*,go_sem]) (fun bl h=>?_) fun bl h=>?_
  ·obtain rfl:=sI h
   refine aa hJ (ag hJ ?_)
   simp only[*,go_sem]
   obtain rfl:=sI c;clear c
   have h:=B
   dsimp only[aO] at h
   obtain rfl:=sI h
   refine aB ?_
   simp only[*,go_sem]
  obtain rfl:=sI h
  refine aG hJ (ag hJ ?_)
  simp only[*,go_sem]
  refine ⟨C,Nat.lt_succ_self _,_,Le.sub (List.Sublist.refl _),d,(IntKind.i64.wrap (i+1)),c,rfl,?_⟩
  simp only[*,go_sem]
 obtain rfl:=sI h
 refine b7 ?_
 simp only[go_sem]
 obtain rfl:=sI c;clear c
 have h:=B
 dsimp only[aO] at h
 refine aa hJ (aa hJ (ag hJ ?_))
 revert h;refine bS fun fg bm h=>?_
 simp only[*,go_sem]
 refine aR hJ _ (gO (u0.aF.length:Int) 1 3 bm) (aD ?_)
 try simp only[*,go_sem]
 revert h;refine jC hJ (by simp only[*,go_sem]) (fun bo h=>?_) fun bo h=>?_
 ·obtain rfl:=sI h
  refine aa hJ (ag hJ ?_)
  simp only[*,go_sem]
  refine aB ?_
  simp only[*,go_sem]
 refine aG hJ (aa hJ ?_)
 refine aa hJ (ag hJ ?_)
 simp only[*,go_sem]
 refine aY hJ ?_
 revert h;refine bS fun br j k=>?_
 refine cc hJ [2,4,5,40,41,42,43,44,45,46,47,48,49,50,51,52,53,54,55,56,57,58,59,60,61,62,63,64,65,66,67,68,69,70,71] (fun m a' F'=>∃(e:Int) (l:Int),bD (Az u0) m (e,l)=some br/\F'=⟨ro,(z,bk u0 s1 (sl d10 u0.props u) (sl d17 u0.aF w) (sl d24 u0.told x))::[]⟩/\slot a' 2= .int .i64 e/\slot a' 4= .int .i64 l) fu ?_ ?_
 ·refine ⟨d,0,j,rfl,?_⟩
  simp only[*,go_sem]
 rintro H fi F' U ⟨e,l,j,rfl,bs,bz⟩
 obtain ⟨V,W,X⟩:=U.pick [1] (by decide)
 simp only[*,go_sem] at V W X
 clear U Q R S a3 a4
 obtain _|H:=H
 ·exact absurd j (by simp only[bD,reduceCtorEq,not_false_eq_true])
 revert j;refine bS fun fp h a=>?_
 unfold Az at h
 try dsimp only at h
 refine aa hJ (aa hJ (ag hJ ?_))
 simp only[*,go_sem]
 revert h;refine jC hJ (by simp only[*,go_sem]) (fun b0 h=>?_) fun b0 h=>?_
 ·refine aG hJ (aa hJ ?_)
  refine aY hJ (aa hJ ?_)
  refine ag hJ ?_
  revert h;refine bS fun I b1 h=>?_
  obtain ⟨fr,fs,Y⟩:=cM b1
  obtain ⟨ft,b2,b3,b4,n⟩:=b.y.el _ _ Y
  obtain rfl:b2=I.cells:=b4
  cases b3
  have b5:=n 0 _ rfl;simp only[go_sem] at b5
  have ca:=n 1 _ rfl;simp only[go_sem] at ca
  have cb:=n 2 _ rfl;simp only[go_sem] at cb
  clear n Y
  try simp only[*,go_sem]
  refine av fun fv fw cd=>?_;try simp only[au] at cd
  try simp only[*,go_sem]
  refine aa hJ (ag hJ ?_)
  revert h;refine bS fun fx cf h=>?_
  simp only[*,go_sem]
  refine aR hJ _ (gO I.back 1 20 cf) (aD ?_)
  revert h;refine cS (fun cl h=>?_) fun cl h=>?_
  ·obtain rfl:=sI h
   try simp only[*,go_sem]
   refine bM hJ (by simp only[*,go_sem]) ?_
   refine aa hJ (ag hJ ?_)
   simp only[*,go_sem]
   obtain rfl:=sI a;clear a
   have h:=k
   dsimp only[aO] at h
   obtain rfl:=sI h
   refine aB ?_
   simp only[*,go_sem]
  revert h;refine bS fun gg cy h=>?_
  try simp only[*,go_sem]
  refine aR hJ _ (F6 I.high 0 60 cy) (aD ?_)
  revert h;refine cS (fun c0 h=>?_) fun c0 h=>?_
  ·obtain rfl:=sI h
   try simp only[*,go_sem]
   refine bM hJ (by simp only[*,go_sem]) ?_
   refine aa hJ (ag hJ ?_)
   simp only[*,go_sem]
   obtain rfl:=sI a;clear a
   have h:=k
   dsimp only[aO] at h
   obtain rfl:=sI h
   refine aB ?_
   simp only[*,go_sem]
  try simp only[*,go_sem]
  revert h;refine jC hJ (by simp only[*,go_sem]) (fun da h=>?_) fun da h=>?_
  ·obtain rfl:=sI h
   refine aa hJ (ag hJ ?_)
   simp only[*,go_sem]
   obtain rfl:=sI a;clear a
   have h:=k
   dsimp only[aO] at h
   obtain rfl:=sI h
   refine aB ?_
   simp only[*,go_sem]
  obtain rfl:=sI h
  refine aG hJ (ag hJ ?_)
  simp only[*,go_sem]
  refine ⟨H,Nat.lt_succ_self _,_,Le.sub (List.Sublist.cons _ (List.Sublist.refl _)),e,(IntKind.i64.wrap (l+1)),a,rfl,?_⟩
  simp only[*,go_sem]
 obtain rfl:=sI h
 refine b7 ?_
 simp only[go_sem]
 obtain rfl:=sI a;clear a
 have h:=k
 dsimp only[aO] at h
 refine aa hJ (aa hJ (ag hJ ?_))
 simp only[*,go_sem]
 revert h;refine jC hJ (by simp only[*,go_sem]) (fun db h=>?_) fun db h=>?_
 ·obtain rfl:=sI h
  refine aa hJ (ag hJ ?_)
  simp only[*,go_sem]
  refine aB ?_
  simp only[*,go_sem]
 refine aG hJ (aa hJ ?_)
 refine aa hJ (ag hJ ?_)
 simp only[*,go_sem]
 refine aY hJ ?_
 revert h;refine bS fun dd o Z=>?_
 refine cc hJ [2,6,76,77,78,79,80,81,82,83,84,85,86,87,88,89,90,91] (fun m a' F'=>∃(q:Int) (s:Int),bD (Ay u0) m (q,s)=some dd/\F'=⟨ro,(z,bk u0 s1 (sl d10 u0.props u) (sl d17 u0.aF w) (sl d24 u0.told x))::[]⟩/\slot a' 2= .int .i64 q/\slot a' 6= .int .i64 s) fu ?_ ?_
 ·refine ⟨e,0,o,rfl,?_⟩
  simp only[*,go_sem]
 rintro K gl F' ab ⟨q,s,o,rfl,gn,gp⟩
 obtain ⟨df,dk,dp⟩:=ab.pick [1] (by decide)
 simp only[*,go_sem] at df dk dp
 clear ab V W X bs bz
 obtain _|K:=K
 ·exact absurd o (by simp only[bD,reduceCtorEq,not_false_eq_true])
 revert o;refine bS fun gB h f=>?_
 unfold Ay at h
 try dsimp only at h
 refine aa hJ (aa hJ (ag hJ ?_))
 simp only[*,go_sem]
 revert h;refine jC hJ (by simp only[*,go_sem]) (fun dq h=>?_) fun dq h=>?_
 ·refine aG hJ (aa hJ ?_)
  refine aY hJ (aa hJ ?_)
  refine dh hJ mixed 9 1 (by simp only[*,go_sem]) (by kernel_rfl) ?_
  revert h;refine bS fun ad ds h=>?_
  obtain ⟨gC,gM,ae⟩:=cM ds
  obtain ⟨gT,dt,du,dv,L⟩:=b.t.el _ _ ae
  obtain rfl:dt=ad.cells:=dv
  cases du
  have dC:=L 0 _ rfl;simp only[go_sem] at dC
  have dE:=L 1 _ rfl;simp only[go_sem] at dE
  clear L ae
  revert h;refine bS fun gV dT h=>?_
  try simp only[*,go_sem]
  refine ⟨_,bA hJ fun F G=>F4 u0 (b.mono (bX G)) ad.aW dT,bV ?_⟩
  try simp only[*,go_sem]
  revert h;refine jC hJ (by simp only[*,go_sem]) (fun ea h=>?_) fun ea h=>?_
  ·obtain rfl:=sI h
   refine aa hJ (ag hJ ?_)
   simp only[*,go_sem]
   obtain rfl:=sI f;clear f
   have h:=Z
   dsimp only[aO] at h
   obtain rfl:=sI h
   refine aB ?_
   simp only[*,go_sem]
  obtain rfl:=sI h
  refine aG hJ (ag hJ ?_)
  simp only[*,go_sem]
  refine ⟨K,Nat.lt_succ_self _,_,Le.sub (List.Sublist.refl _),q,(IntKind.i64.wrap (s+1)),f,rfl,?_⟩
  simp only[*,go_sem]
 obtain rfl:=sI h
 refine b7 ?_
 simp only[go_sem]
 obtain rfl:=sI f;clear f
 have h:=Z
 dsimp only[aO] at h
 obtain rfl:=sI h
 refine aa hJ (ag hJ ?_)
 simp only[*,go_sem]
 refine aB ?_
 simp only[*,go_sem]
def iN (u0:aj):Option Int:=
 ah (ez u0.aQ 2 60) fun c=>cond (!c) (some 1) (ah (ez u0.aN 0 60) fun d=>cond (!d) (some 1) (ah (ez u0.aE.den 1 20) fun e=>cond (!e) (some 1) (ah (ez u0.aE.num 0 20) fun f=>cond (!f) (some 1) (ah (e8 u0.aE.num u0.aE.den) fun a=>cond (!((a.num==u0.aE.num)&&(a.den==u0.aE.den))) (some 3) (ah (mz u0) fun b=>cond ((b != 0)) (some b) (ah (mA u0) fun g=>some g))))))
theorem wL {ro:Addr->Option Value}(u0:aj){s1 a b c:Value}(d:bG ro u0 s1 a b c){r:Int}(h:iN u0=some r):aC Tryz.prog 39 #[bv u0 s1 a b c] ⟨ro,[]⟩ (fun v _=>v= .int .i64 r):=by
 unfold iN at h
 refine aC.go Tryz.func39 rfl Tryz.ntmps39 Tryz.results39 (by simp) fun main J hJ A e hd hs=>?_
 have f:=hs 0
 clear hs
 refine aa hJ (ag hJ ?_)
 simp only[*,go_sem]
 refine av fun E G g=>?_;try simp only[au] at g
 try simp only[*,go_sem]
 refine aa hJ (aa hJ (ag hJ ?_))
 revert h;refine bS fun H i h=>?_
 simp only[*,go_sem]
 refine aR hJ _ (gO u0.aQ 2 60 i) (aD ?_)
 revert h;refine cS (fun j h=>?_) fun j h=>?_
 ·obtain rfl:=sI h
  try simp only[*,go_sem]
  refine bM hJ (by simp only[*,go_sem]) ?_
  refine aa hJ (ag hJ ?_)
  simp only[*,go_sem]
  refine aB ?_
  simp only[*,go_sem]
 revert h;refine bS fun I k h=>?_
 try simp only[*,go_sem]
 refine aR hJ _ (gO u0.aN 0 60 k) (aD ?_)
 revert h;refine cS (fun l h=>?_) fun l h=>?_
 ·obtain rfl:=sI h
  try simp only[*,go_sem]
  refine bM hJ (by simp only[*,go_sem]) ?_
  refine aa hJ (ag hJ ?_)
  simp only[*,go_sem]
  refine aB ?_
  simp only[*,go_sem]
 revert h;refine bS fun K m h=>?_
 try simp only[*,go_sem]
 refine aR hJ _ (gO u0.aE.den 1 20 m) (aD ?_)
 revert h;refine cS (fun n h=>?_) fun n h=>?_
 ·obtain rfl:=sI h
  try simp only[*,go_sem]
  refine bM hJ (by simp only[*,go_sem]) ?_
  refine aa hJ (ag hJ ?_)
  simp only[*,go_sem]
  refine aB ?_
  simp only[*,go_sem]
 revert h;refine bS fun L o h=>?_
 try simp only[*,go_sem]
 refine aR hJ _ (gO u0.aE.num 0 20 o) (aD ?_)
 try simp only[*,go_sem]
 revert h;refine jC hJ (by simp only[*,go_sem]) (fun p h=>?_) fun p h=>?_
 ·obtain rfl:=sI h
  refine aa hJ (ag hJ ?_)
  simp only[*,go_sem]
  refine aB ?_
  simp only[*,go_sem]
 refine aG hJ (aa hJ ?_)
 refine aa hJ ?_
 refine dh hJ mixed 10 1 (by simp only[*,go_sem]) (by kernel_rfl) ?_
 revert h;refine bS fun M q h=>?_
 simp only[*,go_sem]
 refine ⟨_,bA hJ fun F N=>nG u0.aE.num u0.aE.den q,bV ?_⟩
 try simp only[*,go_sem]
 revert h;refine jC hJ (by simp only[*,go_sem]) (fun s h=>?_) fun s h=>?_
 ·obtain rfl:=sI h
  refine aa hJ ?_
  refine ew [1,2] fun O t u w=>?_
  simp only[*,go_sem] at t u w
  clear e hd f
  refine ag hJ ?_
  simp only[*,go_sem]
  refine aB ?_
  simp only[*,go_sem]
 refine aG hJ (aa hJ ?_)
 refine aa hJ ?_
 refine ew [1,2] fun P x y z=>?_
 simp only[*,go_sem] at x y z
 clear e hd f
 refine ag hJ ?_
 revert h;refine bS fun Q B h=>?_
 simp only[*,go_sem]
 refine aR hJ _ (F9 u0 (d.mono aJ) B) (aD ?_)
 try simp only[*,go_sem]
 refine aa hJ (ag hJ ?_)
 simp only[*,go_sem]
 revert h;refine jC hJ (by simp only[*,go_sem]) (fun C h=>?_) fun C h=>?_
 ·obtain rfl:=sI h
  refine aa hJ (ag hJ ?_)
  simp only[*,go_sem]
  refine aB ?_
  simp only[*,go_sem]
 refine aG hJ (aa hJ ?_)
 refine ag hJ ?_
 revert h;refine bS fun R D h=>?_
 obtain rfl:=sI h
 simp only[*,go_sem]
 refine aR hJ _ (Ga u0 (d.mono aJ) D) (aD ?_)
 try simp only[*,go_sem]
 refine aB ?_
 simp only[*,go_sem]
def sr (u0:aP):Option Int:=
 ah (ez u0.back 1 20) fun a=>cond (!a) (some 1) (ah (ez u0.high 0 60) fun b=>cond (!b) (some 1) (some 0))
def su (u0:aj)(b:aP):Option Int:=
 ah (iN u0) fun a=>cond ((a != 0)) (some a) (ah (sr b) fun c=>some c)
theorem Gb:Tryz.prog.underlying 3=some (.int .i64):=by kernel_rfl
theorem Gc:Tryz.prog.underlying 5=some (.int .u8):=by kernel_rfl
attribute [go_sem] Gb Gc
def mB (u0:aj):Option Bool:=
 ah (mq u0) fun a=>cond (!a) (ah (iN u0) fun b=>some (b==0)) (some false)
theorem AA {ro:Addr->Option Value}(u0:aj){s1 b c d:Value}(a:bG ro u0 s1 b c d){r:Bool}(h:mB u0=some r):aC Tryz.prog 9 #[bv u0 s1 b c d] ⟨ro,[]⟩ (fun v _=>v= .bool r):=by
 obtain ⟨d3,c4,rfl,k,l,-⟩:=id a.e
 obtain ⟨d10,m,rfl,n,o,-⟩:=id a.p
 obtain ⟨d17,q,rfl,s,u,-⟩:=id a.y
 obtain ⟨d24,w,rfl,x,z,-⟩:=id a.t
 unfold mB at h
 refine aC.go Tryz.func9 rfl Tryz.ntmps9 Tryz.results9 (by simp) fun main J hJ A B hd hs=>?_
 have C:=hs 0
 clear hs
 refine aa hJ (ag hJ ?_)
 simp only[*,go_sem]
 refine av fun D E f=>?_;try simp only[au] at f
 try simp only[*,go_sem]
 refine aa hJ (ag hJ ?_)
 revert h;refine bS fun F g h=>?_
 simp only[*,go_sem]
 refine aR hJ _ (F7 u0 (a.mono aJ) g) (aD ?_)
 revert h;refine cS (fun i h=>?_) fun i h=>?_
 ·revert h;refine bS fun G j h=>?_
  obtain rfl:=sI h
  try simp only[*,go_sem]
  refine aR hJ _ (wL u0 (a.mono aJ) j) (aD ?_)
  try simp only[*,go_sem]
  refine aB ?_
  simp only[*,go_sem]
 obtain rfl:=sI h
 try simp only[*,go_sem]
 refine aB ?_
 simp only[*,go_sem]
def nM (u0:Int)(a:Int):Option aP:=
 ah (eU (IntKind.i64.wrap u0) 20) fun b=>ah (eU (IntKind.i64.wrap a) 61) fun c=>ah (hO (IntKind.i64.wrap (1+b)) c) fun d=>some d
theorem AB {ro:Addr->Option Value}(u0:Int)(a:Int){r:aP}(h:nM u0 a=some r):aC Tryz.prog 11 #[.int .u8 u0,.int .u8 a] ⟨ro,[]⟩ (fun v _=>v=r.v):=by
 unfold nM at h
 refine aC.go Tryz.func11 rfl Tryz.ntmps11 Tryz.results11 (by simp) fun main J hJ A g hd hs=>?_
 have i:=hs 0
 have k1:=hs 1
 clear hs
 refine aa hJ (ag hJ ?_)
 simp only[*,go_sem]
 refine av fun j r1 n1=>?_;try simp only[au] at n1
 try simp only[*,go_sem]
 refine aa hJ (ag hJ ?_)
 revert h;refine bS fun d b h=>?_
 obtain ⟨k,l⟩:=jS b
 clear b
 revert h;refine bS fun e c h=>?_
 obtain ⟨m,n⟩:=jS c
 clear c
 revert h;refine bS fun o f h=>?_
 obtain rfl:=sI h
 try simp only[*,go_sem]
 refine aR hJ _ (k6 (IntKind.i64.wrap (1+d)) e f) (aD ?_)
 try simp only[*,go_sem]
 refine aB ?_
 simp only[*,go_sem]
def dU (u0:ak):Option Bool:=
 cond (decide (0<u0.den)) (cond (decide (u0.den<1048576)) (ah (ez u0.num (-1073741824) 1073741824) fun b=>cond (b) (ah (e8 u0.num u0.den) fun a=>some ((a.num==u0.num)&&(a.den==u0.den))) (some false)) (some false)) (some false)
theorem iO {ro:Addr->Option Value}(u0:ak){r:Bool}(h:dU u0=some r):aC Tryz.prog 15 #[.agg #[.int .i64 u0.num,.int .i64 u0.den]] ⟨ro,[]⟩ (fun v _=>v= .bool r):=by
 unfold dU at h
 refine aC.go Tryz.func15 rfl Tryz.ntmps15 Tryz.results15 (by simp) fun main J hJ A g hd hs=>?_
 have i:=hs 0
 clear hs
 refine aa hJ (ag hJ ?_)
 simp only[*,go_sem]
 refine av fun j r1 n1=>?_;try simp only[au] at n1
 try simp only[*,go_sem]
 refine aa hJ ?_
 refine dh hJ mixed 23 1 (by simp only[*,go_sem]) (by kernel_rfl) ?_
 revert h;refine cS (fun a h=>?_) fun a h=>?_
 ·revert h;refine cS (fun b h=>?_) fun b h=>?_
  ·revert h;refine bS fun k c h=>?_
   try simp only[*,go_sem]
   refine ⟨_,bA hJ fun F d=>gO u0.num (-1073741824) 1073741824 c,bV ?_⟩
   revert h;refine cS (fun e h=>?_) fun e h=>?_
   ·revert h;refine bS fun l f h=>?_
    obtain rfl:=sI h
    try simp only[*,go_sem]
    refine ⟨_,bA hJ fun F d=>nG u0.num u0.den f,bV ?_⟩
    try simp only[*,go_sem]
    refine aB ?_
    simp only[*,go_sem]
   obtain rfl:=sI h
   try simp only[*,go_sem]
   refine aB ?_
   simp only[*,go_sem]
  obtain rfl:=sI h
  try simp only[*,go_sem]
  refine aB ?_
  simp only[*,go_sem]
 obtain rfl:=sI h
 try simp only[*,go_sem]
 refine aB ?_
 simp only[*,go_sem]
def nN (u0:ak):Option ak:=
 some (⟨(if u0.num<IntKind.i64.wrap (0 - u0.num) then IntKind.i64.wrap (0 - u0.num) else u0.num),u0.den⟩:ak)
theorem AD {ro:Addr->Option Value}(u0:ak){r:ak}(h:nN u0=some r):aC Tryz.prog 29 #[.agg #[.int .i64 u0.num,.int .i64 u0.den]] ⟨ro,[]⟩ (fun v _=>v=r.v):=by
 unfold nN at h
 obtain rfl:=sI h
 refine aC.go Tryz.func29 rfl Tryz.ntmps29 Tryz.results29 (by simp) fun main J hJ A a hd hs=>?_
 have b:=hs 0
 clear hs
 refine aa hJ (ag hJ ?_)
 simp only[*,go_sem]
 refine av fun c r1 n1=>?_;try simp only[au] at n1
 refine av fun b2 r2 n2=>?_;try simp only[au] at n2
 try simp only[*,go_sem]
 refine aa hJ (ag hJ ?_)
 simp only[*,go_sem]
 refine aB ?_
 simp only[*,go_sem]
def sw (u0:aj)(c:aP)(st:(Int×Int×ak)):Option (Fl (Int×Int×ak) (Int×ak)):=
 cond (decide (st.2.1<(u0.an.length:Int))) (ah (bK u0.an st.2.1) fun b=>ah (mm u0 c b.ax (⟨b.high,1⟩:ak)) fun a=>cond ((st.2.1==0)) (some (.nx (st.2.1,(IntKind.i64.wrap (st.2.1+1)),a))) (ah (dS st.2.2 a) fun d=>cond (d) (some (.nx (st.2.1,(IntKind.i64.wrap (st.2.1+1)),a))) (some (.nx (st.1,(IntKind.i64.wrap (st.2.1+1)),st.2.2))))) (some (.bk (st.1,st.2.1,st.2.2)))
def sx (u0:aj)(b:aP):Option (Int×ak):=
 ah (bD (sw u0 b) fu (0,0,(⟨0,0⟩:ak))) fun o=>aO o (fun a=>some (a.1,a.2.2)) (fun _ _=>none) (fun r=>some r)
def sA (u0:aj)(c:Int)(st:Int):Option (Fl Int ak):=
 cond (decide ((IntKind.i64.wrap (st+1))<(u0.an.length:Int))) (ah (bK u0.an st) fun a=>ah (bK u0.an (IntKind.i64.wrap (st+1))) fun b=>cond (decide (c<=b.ax)) (ah (e8 (IntKind.i64.wrap ((IntKind.i64.wrap (a.high*(IntKind.i64.wrap (b.ax - a.ax))))+(IntKind.i64.wrap ((IntKind.i64.wrap (b.high - a.high))*(IntKind.i64.wrap (c - a.ax)))))) (IntKind.i64.wrap (b.ax - a.ax))) fun d=>some (.rt d)) (some (.nx (IntKind.i64.wrap (st+1))))) (some (.bk st))
def nO (u0:aj)(a:Int):Option ak:=
 ah (bD (sA u0 a) fu 0) fun o=>aO o (fun b=>some (⟨0,0⟩:ak)) (fun _ _=>none) (fun r=>some r)
def wM (u0:aj)(a:aP):Option ak:=
 ah (sx u0 a) fun b=>ah (gx (⟨u0.aN,1⟩:ak) b.2) fun c=>some c
def sB (u0:aj)(d:aP)(st:(Int×ak)):Option (Fl (Int×ak) (ak×Bool)):=
 cond (decide (st.1<(u0.props.length:Int))) (ah (bK u0.props st.1) fun a=>ah (nO u0 a.place) fun b=>ah (e8 (IntKind.i64.wrap (b.num+(IntKind.i64.wrap (a.cn*b.den)))) b.den) fun e=>ah (mm u0 d a.place e) fun c=>cond ((st.1==0)) (ah (fJ c c) fun f=>some (.nx ((IntKind.i64.wrap (st.1+1)),f))) (ah (fJ st.2 c) fun g=>some (.nx ((IntKind.i64.wrap (st.1+1)),g)))) (some (.bk (st.1,st.2)))
def ko (u0:aj)(a:aP):Option (ak×Bool):=
 ah (bD (sB u0 a) fu (0,(⟨0,0⟩:ak))) fun o=>aO o (fun b=>some (b.2,decide (0<(u0.props.length:Int)))) (fun _ _=>none) (fun r=>some r)
def pX (u0:aj)(b:aP):Option ak:=
 ah (sx u0 b) fun a=>ah (dS a.2 (⟨u0.aN,1⟩:ak)) fun e=>cond (e) (ah (ko u0 b) fun c=>cond (c.2) (ah (fJ a.2 c.1) fun f=>ah (gx (⟨u0.aN,1⟩:ak) f) fun g=>ah (fJ g (⟨0,1⟩:ak)) fun h=>some h) (ah (gx (⟨u0.aN,1⟩:ak) a.2) fun i=>ah (fJ i (⟨0,1⟩:ak)) fun j=>some j)) (ah (ko u0 b) fun d=>cond (d.2) (ah (fJ (⟨u0.aN,1⟩:ak) d.1) fun k=>ah (gx a.2 k) fun l=>ah (fJ l (⟨0,1⟩:ak)) fun m=>some m) (ah (gx a.2 (⟨u0.aN,1⟩:ak)) fun n=>ah (fJ n (⟨0,1⟩:ak)) fun o=>some o))
def wN (u0:aj)(a:aP):Option Bool:=
 ah (pX u0 a) fun b=>ah (dS u0.aE b) fun c=>some c
def AE (u0:aj)(a:aP):Option (ak×Bool×Int):=
 ah (su u0 a) fun b=>cond ((b != 0)) (some ((⟨0,0⟩:ak),false,b)) (ah (ko u0 a) fun c=>some (c.1,c.2,0))
def dr {α:Type}(t:Nat->α->Option Int):Nat->List α->Option Int
 |_,[]=>none
 |i,x::l=>match t i x with
  |some r=>some r
  |none=>dr t (i+1) l
def gP {σ:Type}(o:Option Int)(s:σ):Fl σ Int:=match o with
 |some r=>.rt r
 |none=>.nx s
theorem pY {α σ:Type}{f:Nat->α->σ->Option (Fl σ Int)}{t:Nat->α->Option Int}:∀(l:List α) (i:Nat) (s:σ),(∀j x s,l[j]?=some x->f (i+j) x s=some (gP (t (i+j) x) s))->bE f i l s=some (gP (dr t i l) s)
 |[],i,s,_=>rfl
 |x::l,i,s,h=>by
  have h0:=h 0 x s rfl
  simp only[Nat.add_zero] at h0
  unfold bE dr
  rw[h0]
  cases ht:t i x with
  |some r=>rfl
  |none=>
   show bE f (i+1) l s=_
   exact pY l (i+1) s fun j y s a=>by
    have:=h (j+1) y s (by simpa using a)
    rwa [show i+(j+1)=i+1+j by omega] at this
theorem AF {α σ:Type}{f:σ×Int->Option (Fl (σ×Int) Int)}{t:Nat->α->Option Int}(l:List α)(h:∀(i:Nat) x s,l[i]?=some x->f (s,(i:Int))=some (gP (t i x) (s,((i+1:Nat):Int))))(a:∀s,f (s,(l.length:Int))=some (.bk (s,(l.length:Int)))):
  ∀(k i n:Nat) (s:σ),i+k=l.length->k<n->bD f n (s,(i:Int))=some (gP (dr t i (l.drop i)) (s,(l.length:Int)))
 |0,i,n+1,s,hi,_=>by
  obtain rfl:i=l.length:=by omega
  unfold bD
  rw[a,List.drop_length]
  rfl
 |k+1,i,n+1,s,hi,hn=>by
  have b:i<l.length:=by omega
  have c:l[i]?=some l[i]:=List.getElem?_eq_getElem b
  unfold bD
  rw[h i _ s c,List.drop_eq_getElem_cons b]
  unfold dr
  cases ht:t i l[i] with
  |some r=>rfl
  |none=>exact AF l h a k (i+1) n s (by omega) (by omega)
theorem sC {α σ:Type}{f:σ×Int->Option (Fl (σ×Int) Int)}{t:Nat->α->Option Int}(l:List α)(a:l.length<=1000)(h:∀(i:Nat) x s,l[i]?=some x->f (s,(i:Int))=some (gP (t i x) (s,((i+1:Nat):Int))))(b:∀s,f (s,(l.length:Int))=some (.bk (s,(l.length:Int))))(s:σ):
  bD f fu (s,0)=some (gP (dr t 0 l) (s,(l.length:Int))):=by
 have:=AF l h b l.length 0 fu s (by omega) (Nat.lt_of_le_of_lt a (by decide))
 simpa using this
theorem kq:fC=ez:=rfl
theorem Gd:pF=mo:=rfl
def bI (a lo hi:Int):Bool:=decide (lo<=a)&&decide (a<=hi)
theorem eP (a lo hi:Int):ez a lo hi=some (bI a lo hi):=by
 unfold ez bI
 cases decide (lo<=a)<;>rfl
def kr (b:cV)(lo hi:Int):Bool:=decide (lo<=b.low)&&(decide (b.low<=b.high)&&decide (b.high<=hi))
theorem AG (b:cV)(lo hi:Int):mo b lo hi=some (kr b lo hi):=by
 unfold mo kr
 cases decide (lo<=b.low)<;>cases decide (b.low<=b.high)<;>rfl
theorem bZ {n:Int}(h: -9223372036854775808<=n/\n<9223372036854775808):IntKind.i64.wrap n=n:=IntWalk.i64_in _ (by constructor<;>omega)
def fX (u:aj)(i:Nat)(x:bF):Option Int:=
 cond (bI x.ax 0 (IntKind.i64.wrap (u.aQ - 1))) (cond (bI x.high 0 60) (match i with
  |0=>none
  |j+1=>match u.an[j]? with
   |some y=>cond (decide (x.ax<=y.ax)) (some 7) none
   |none=>none) (some 1)) (some 1)
theorem wO (u:aj)(g:u.an.length<=20):kV u=some (cond (bI u.an.length 2 5) ((dr (fX u) 0 u.an).getD 0) 2)/\mz u=kV u:=by
 have key:kV u=some (cond (bI u.an.length 2 5) ((dr (fX u) 0 u.an).getD 0) 2):=by
  unfold kV
  rw[kq,eP]
  show cond (!bI (u.an.length:Int) 2 5) _ _=_
  cases bI (u.an.length:Int) 2 5 with
  |false=>rfl
  |true=>
   show ah (bE _ 0 u.an 0) _=_
   rw[pY (t:=fX u) u.an 0 0 ?_]
   ·show aO (gP _ _) _ _ _=_
    cases dr (fX u) 0 u.an<;>rfl
   ·intro j x s b
    rw[Nat.zero_add]
    unfold rE fX
    rw[kq,eP,eP]
    show cond (!bI x.ax 0 _) _ _=_
    cases bI x.ax 0 (IntKind.i64.wrap (u.aQ - 1)) with
    |false=>rfl
    |true=>
     show cond (!bI x.high 0 60) _ _=_
     cases bI x.high 0 60 with
     |false=>rfl
     |true=>
      cases j with
      |zero=>rfl
      |succ j=>
       have d:=(List.getElem?_eq_some_iff.1 b).1
       have a:u.an[j]?=some u.an[j]:=List.getElem?_eq_getElem (by omega)
       have hw:IntKind.i64.wrap (((j+1:Nat):Int) - 1)=(j:Int):=by rw[bZ (by omega)];omega
       have hd:decide (0<((j+1:Nat):Int))=true:=decide_eq_true (by omega)
       show cond (decide (0<((j+1:Nat):Int))) _ _=_
       rw[hd,hw]
       have hi:bK u.an (j:Int)=some u.an[j]:=by unfold bK;rw[if_pos (by omega),Int.toNat_natCast,a]
       show ah (bK u.an (j:Int)) _=_
       rw[hi]
       simp only[a]
       show cond (decide (x.ax<=u.an[j].ax)) _ _=_
       cases decide (x.ax<=u.an[j].ax)<;>rfl
 refine ⟨key,?_⟩
 rw[key]
 unfold mz
 rw[eP]
 show cond (!bI (u.an.length:Int) 2 5) _ _=_
 cases bI (u.an.length:Int) 2 5 with
 |false=>rfl
 |true=>
  show ah (bD _ fu (0,0)) _=_
  rw[sC (t:=fX u) u.an (by omega) ?_ ?_ 0]
  ·show aO (gP _ _) _ _ _=_
   cases dr (fX u) 0 u.an<;>rfl
  ·intro j x s b
   unfold pV fX
   have d:=(List.getElem?_eq_some_iff.1 b).1
   have c:decide ((j:Int)<(u.an.length:Int))=true:=decide_eq_true (by omega)
   have e:bK u.an (j:Int)=some x:=by unfold bK;rw[if_pos (by omega),Int.toNat_natCast,b]
   have f:IntKind.i64.wrap ((j:Int)+1)=((j+1:Nat):Int):=by rw[bZ (by omega)];omega
   show cond (decide ((j:Int)<(u.an.length:Int))) (ah (bK u.an (j:Int)) _) _=_
   rw[c,e,cond_true]
   show ah (ez x.ax 0 (IntKind.i64.wrap (u.aQ - 1))) _=_
   rw[eP]
   show cond (!bI x.ax 0 _) _ (ah (ez x.high 0 60) _)=_
   rw[eP]
   cases bI x.ax 0 (IntKind.i64.wrap (u.aQ - 1)) with
   |false=>rfl
   |true=>
    show cond (!bI x.high 0 60) _ _=_
    cases bI x.high 0 60 with
    |false=>rfl
    |true=>
     cases j with
     |zero=>rfl
     |succ j=>
      have a:u.an[j]?=some u.an[j]:=List.getElem?_eq_getElem (by omega)
      have hw:IntKind.i64.wrap (((j+1:Nat):Int) - 1)=(j:Int):=by rw[bZ (by omega)];omega
      have hd:decide (0<((j+1:Nat):Int))=true:=decide_eq_true (by omega)
      have hi:bK u.an (j:Int)=some u.an[j]:=by unfold bK;rw[if_pos (by omega),Int.toNat_natCast,a]
      dsimp only
      simp only[hd,hw,hi,f,a,ah,cond_true,Bool.not_true,cond_false]
      cases decide (x.ax<=u.an[j].ax)<;>rfl
  ·intro s
   unfold pV
   have c:decide ((u.an.length:Int)<(u.an.length:Int))=false:=decide_eq_false (by omega)
   show cond (decide ((u.an.length:Int)<(u.an.length:Int))) _ _=_
   rw[c];rfl
theorem AH {ρ:Type}{f:Int×Int->Option (Fl (Int×Int) ρ)}(d:∀a b:Nat,a<9223372036854775808->b<9223372036854775808->b≠0->f ((a:Int),(b:Int))=some (.nx ((b:Int),((a % b:Nat):Int))))(h0:∀a:Nat,f ((a:Int),0)=some (.bk ((a:Int),0))):
  ∀(b a k:Nat),a<9223372036854775808->b<9223372036854775808->b<k->bD f k ((a:Int),(b:Int))=some (.nx (((Nat.gcd a b:Nat):Int),0)):=by
 intro b
 induction b using Nat.strongRecOn with
 |ind b ih=>
  intro a k e hb hk
  obtain ⟨k,rfl⟩:∃m,k=m+1:=⟨k - 1,by omega⟩
  unfold bD
  by_cases c:b=0
  ·subst c
   have:=h0 a
   rw[show ((0:Nat):Int)=0 from rfl,this,Nat.gcd_zero_right]
   rfl
  ·rw[d a b e hb c]
   show bD f k ((b:Int),((a % b:Nat):Int))=_
   have hm:a % b<b:=Nat.mod_lt _ (by omega)
   rw[ih (a % b) hm b k hb (by omega) (by omega),Nat.gcd_comm a b,Nat.gcd_rec b a,Nat.gcd_comm]
theorem AI (a b:Nat)(d:a<9223372036854775808)(hb:b<9223372036854775808)(h:b≠0):eU (a:Int) (b:Int)=some ((a % b:Nat):Int):=by
 unfold eU
 have c:¬(b:Int)=0:=by omega
 rw[if_neg c]
 have e:((a:Int).tmod (b:Int))=((a % b:Nat):Int):=by
  rw[Int.tmod_eq_emod_of_nonneg (by omega)];rfl
 rw[e]
theorem Ge (a k:Nat)(b:Nat)(c:a<9223372036854775808)(hb:b<9223372036854775808)(hk:b<k):bD pG k ((a:Int),(b:Int))=some (.nx (((Nat.gcd a b:Nat):Int),0)):=by
 refine AH (fun a b c hb d=>?_) (fun a=>rfl) b a k c hb hk
 unfold pG
 have:(((b:Nat):Int) != 0)=true:=by simp;omega
 dsimp only
 rw[this,AI a b c hb d]
 rfl
theorem Gf (a k:Nat)(b:Nat)(c:a<9223372036854775808)(hb:b<9223372036854775808)(hk:b<k):bD nF k ((a:Int),(b:Int))=some (.nx (((Nat.gcd a b:Nat):Int),0)):=by
 refine AH (fun a b c hb d=>?_) (fun a=>rfl) b a k c hb hk
 unfold nF
 have:decide (0<((b:Nat):Int))=true:=decide_eq_true (by omega)
 dsimp only
 rw[this,AI a b c hb d]
 rfl
def bp (n:Int)(d:Nat):ak:=⟨n.tdiv (Nat.gcd n.natAbs d:Nat),(d:Int).tdiv (Nat.gcd n.natAbs d:Nat)⟩
theorem sD (a b:Int)(hb:0<b)(c: -9000000000000000000<=a/\a<=9000000000000000000):gm a b=some (a.tdiv b):=by
 unfold gm
 rw[if_neg (by omega)]
 congr 1
 have h1:(a.tdiv b).natAbs<=a.natAbs:=by rw[Int.natAbs_tdiv];exact Nat.div_le_self _ _
 exact bZ (by omega)
theorem AJ (n:Int)(h: -9000000000000000000<=n/\n<=9000000000000000000):(if n<IntKind.i64.wrap (0 - n) then IntKind.i64.wrap (0 - n) else n)=(n.natAbs:Int):=by
 rw[bZ (by omega)]
 split<;>omega
theorem pZ (n:Int)(d:Nat)(hn: -9000000000000000000<=n/\n<=9000000000000000000)(hd:0<d)(a:d<900000000000000000):j3 n d=some (bp n d):=by
 unfold j3
 rw[AJ n hn,Ge n.natAbs fu d (by omega) (by omega) (Nat.lt_trans a (by decide))]
 have hg:0<Nat.gcd n.natAbs d:=Nat.gcd_pos_of_pos_right _ hd
 show ah (gm n _) (fun x=>ah (gm d _) fun y=>_)=_
 rw[sD n _ (by omega) hn,sD d _ (by omega) (by omega)]
 rfl
theorem mC (n:Int)(d:Nat)(hn: -9000000000000000000<=n/\n<=9000000000000000000)(hd:0<d)(a:d<900000000000000000):e8 n d=some (bp n d):=by
 unfold e8
 have:decide ((d:Int)<0)=false:=decide_eq_false (by omega)
 rw[this]
 show ah (bD nF fu _) _=_
 rw[AJ n hn,Gf n.natAbs fu d (by omega) (by omega) (Nat.lt_trans a (by decide))]
 have hg:0<Nat.gcd n.natAbs d:=Nat.gcd_pos_of_pos_right _ hd
 show ah (gm n _) (fun x=>ah (gm d _) fun y=>_)=_
 rw[sD n _ (by omega) hn,sD d _ (by omega) (by omega)]
 rfl
def gQ (u:aj)(f:Int->Bool)(_:Nat)(x:bH):Option Int:=cond (f x.place) (cond (bI x.cn 1 20) none (some 1)) (some 6)
def gR (_:Nat)(x:bR):Option Int:=cond (bI x.back 1 20) (cond (kr x.high 0 60) (cond (decide (3<=IntKind.i64.wrap (x.high.high - x.high.low))) (some 1) none) (some 1)) (some 1)
def ku (u:aj)(i:Int):Bool:=bI i 0 (IntKind.i64.wrap ((u.aF.length:Int) - 1))
def iP (u:aj)(_:Nat)(x:bP):Option Int:=cond (ku u x.aW) none (some 6)
theorem AK (u:aj)(i:Int):nE u i=some (ku u i)/\m9 u i=some (ku u i):=by
 constructor
 ·unfold nE;rw[eP];rfl
 ·unfold m9;rw[kq,eP];rfl
theorem Gg (u:aj)(h:Int):gL h u=some (cond (bI h 1 20) 0 1):=by
 unfold gL;rw[kq,eP]
 show cond (!bI h 1 20) _ _=_
 cases bI h 1 20<;>rfl
theorem wP (u:aj)(h:0<u.an.length)(h2:u.an.length<=20):∃f:Int->Bool,∀p,eo u p=some (f p)/\mj u p=some (f p):=by
 have h0:u.an[0]?=some u.an[0]:=List.getElem?_eq_getElem h
 have a:u.an[u.an.length - 1]?=some (u.an[u.an.length - 1]'(by omega)):=List.getElem?_eq_getElem _
 have hw:IntKind.i64.wrap ((u.an.length:Int) - 1)=((u.an.length - 1:Nat):Int):=by rw[bZ (by omega)];omega
 have e0:bK u.an 0=some u.an[0]:=h0
 have e1:bK u.an ((u.an.length - 1:Nat):Int)=some (u.an[u.an.length - 1]'(by omega)):=by unfold bK;rw[if_pos (by omega),Int.toNat_natCast,a]
 refine ⟨fun p=>bI p (u.an[0]).ax (u.an[u.an.length - 1]'(by omega)).ax,fun p=>?_⟩
 have k:eo u p=some (bI p (u.an[0]).ax (u.an[u.an.length - 1]'(by omega)).ax):=by
  unfold eo
  rw[hw,e0,e1,kq]
  simp only[ah,eP]
 exact ⟨k,k⟩
def gV (u:aj):Int:=cond (bI u.aQ 2 60) (cond (bI u.aN 0 60) (cond (bI u.aE.den 1 20) (cond (bI u.aE.num 0 20) (cond (((bp u.aE.num u.aE.den.toNat).num==u.aE.num)&&((bp u.aE.num u.aE.den.toNat).den==u.aE.den)) 0 3) 1) 1) 1) 1
theorem dw {a lo hi:Int}:bI a lo hi=true↔lo<=a/\a<=hi:=by unfold bI;simp
theorem sE (u:aj):nh u=some (gV u):=by
 unfold nh gV
 rw[kq]
 simp only[eP,ah]
 cases h1:bI u.aQ 2 60 with
 |false=>rfl
 |true=>
  cases h2:bI u.aN 0 60 with
  |false=>rfl
  |true=>
   cases h3:bI u.aE.den 1 20 with
   |false=>rfl
   |true=>
    cases a:bI u.aE.num 0 20 with
    |false=>rfl
    |true=>
     rw[dw] at h3 a
     have hd:u.aE.den=(u.aE.den.toNat:Int):=by omega
     have:=pZ u.aE.num u.aE.den.toNat (by omega) (by omega) (by omega)
     rw[<-hd] at this
     simp only[this,cond_true,Bool.not_true,cond_false]
     cases (((bp u.aE.num u.aE.den.toNat).num==u.aE.num)&&((bp u.aE.num u.aE.den.toNat).den==u.aE.den))<;>rfl
theorem Gh (u:aj):iN u=cond (gV u != 0) (some (gV u)) (ah (mz u) fun x=>cond (x != 0) (some x) (mA u)):=by
 unfold iN gV
 simp only[eP,ah]
 cases h1:bI u.aQ 2 60 with
 |false=>rfl
 |true=>
  cases h2:bI u.aN 0 60 with
  |false=>rfl
  |true=>
   cases h3:bI u.aE.den 1 20 with
   |false=>rfl
   |true=>
    cases a:bI u.aE.num 0 20 with
    |false=>rfl
    |true=>
     rw[dw] at h3 a
     have hd:u.aE.den=(u.aE.den.toNat:Int):=by omega
     have:=mC u.aE.num u.aE.den.toNat (by omega) (by omega) (by omega)
     rw[<-hd] at this
     simp only[this,cond_true,Bool.not_true,cond_false]
     cases (((bp u.aE.num u.aE.den.toNat).num==u.aE.num)&&((bp u.aE.num u.aE.den.toNat).den==u.aE.den)) with
     |false=>rfl
     |true=>
      simp only[Bool.not_true,cond_false,cond_true,bne_self_eq_false]
      cases mz u with
      |none=>rfl
      |some x=>
       dsimp only
       cases mA u<;>rfl
theorem sF (u:aj):l6 u=some (cond (decide (3<(u.told.length:Int))) 2 ((dr (iP u) 0 u.told).getD 0)):=by
 unfold l6
 cases decide (3<(u.told.length:Int)) with
 |true=>rfl
 |false=>
  show ah (bE _ 0 u.told 0) _=_
  rw[pY (t:=iP u) u.told 0 0 ?_]
  ·show aO (gP _ _) _ _ _=_
   cases dr (iP u) 0 u.told<;>rfl
  ·intro j x s a
   unfold rA iP
   simp only[AK,ah]
   cases ku u x.aW<;>rfl
theorem sG (u:aj):l7 u=some (cond (bI u.aF.length 1 3) ((dr gR 0 u.aF).getD 0) 2):=by
 unfold l7
 rw[kq,eP]
 simp only[ah]
 cases bI (u.aF.length:Int) 1 3 with
 |false=>rfl
 |true=>
  simp only[Bool.not_true,cond_false,cond_true]
  rw[pY (t:=gR) u.aF 0 0 ?_]
  ·show aO (gP _ _) _ _ _=_
   cases dr gR 0 u.aF<;>rfl
  ·intro j x s a
   unfold rC gR
   simp only[kq,Gd,eP,AG,ah]
   cases bI x.back 1 20 with
   |false=>rfl
   |true=>
    cases kr x.high 0 60 with
    |false=>rfl
    |true=>
     simp only[Bool.not_true,cond_false,cond_true]
     cases decide (3<=IntKind.i64.wrap (x.high.high - x.high.low))<;>rfl
theorem sH (u:aj)(f:Int->Bool)(a:∀p,eo u p=some (f p)/\mj u p=some (f p)):l8 u=some (cond (decide (3<(u.props.length:Int))) 2 ((dr (gQ u f) 0 u.props).getD 0)):=by
 unfold l8
 cases decide (3<(u.props.length:Int)) with
 |true=>rfl
 |false=>
  show ah (bE _ 0 u.props 0) _=_
  rw[pY (t:=gQ u f) u.props 0 0 ?_]
  ·show aO (gP _ _) _ _ _=_
   cases dr (gQ u f) 0 u.props<;>rfl
  ·intro j x s b
   unfold rD gQ
   simp only[(a x.place).1,Gg,ah]
   cases f x.place with
   |false=>rfl
   |true=>
    cases bI x.cn 1 20<;>rfl
theorem mD {α:Type}{t:Nat->α->Option Int}(h:∀i x r,t i x=some r->r≠0):∀(l:List α) (i:Nat) (r:Int),dr t i l=some r->r≠0
 |[],i,r,e=>by cases e
 |x::l,i,r,e=>by
  unfold dr at e
  cases ht:t i x with
  |some a=>rw[ht] at e;cases e;exact h i x _ ht
  |none=>rw[ht] at e;exact mD h l (i+1) r e
theorem AL (u:aj)(f:Int->Bool)(i:Nat)(x:bH)(r:Int)(h:gQ u f i x=some r):r≠0:=by
 unfold gQ at h
 revert h
 cases f x.place<;>cases bI x.cn 1 20<;>intro h<;>cases h<;>decide
theorem AM (i:Nat)(x:bR)(r:Int)(h:gR i x=some r):r≠0:=by
 unfold gR at h
 revert h
 cases bI x.back 1 20<;>cases kr x.high 0 60<;>cases decide (3<=IntKind.i64.wrap (x.high.high - x.high.low))<;>intro h<;>cases h<;>decide
theorem Gi (u:aj)(i:Nat)(x:bP)(r:Int)(h:iP u i x=some r):r≠0:=by
 unfold iP at h
 revert h
 cases ku u x.aW<;>intro h<;>cases h<;>decide
theorem AN {o:Option Int}(h:∀r,o=some r->r≠0):(o.getD 0 != 0)=o.isSome:=by
 cases o with
 |none=>rfl
 |some r=>simpa using h r rfl
theorem Gj (u:aj)(f:Int->Bool)(e:∀p,eo u p=some (f p)/\mj u p=some (f p))(h1:u.props.length<=20)(h2:u.aF.length<=20)(h3:u.told.length<=20):
  mA u=ah (l8 u) fun x=>cond (x != 0) (some x) (ah (l7 u) fun y=>cond (y != 0) (some y) (l6 u)):=by
 rw[sH u f e,sG,sF]
 unfold mA
 simp only[ah]
 cases h:decide (3<(u.props.length:Int)) with
 |true=>rfl
 |false=>
  simp only[cond_false]
  rw[sC (t:=gQ u f) u.props (by omega) ?_ ?_ 0]
  ·rw[AN (mD (AL u f) u.props 0)]
   cases dr (gQ u f) 0 u.props with
   |some r=>rfl
   |none=>
    simp only[gP,aO,Option.isSome_none,cond_false,eP]
    cases i:bI (u.aF.length:Int) 1 3 with
    |false=>rfl
    |true=>
     simp only[Bool.not_true,cond_false,cond_true]
     rw[sC (t:=gR) u.aF (by omega) ?_ ?_ 0]
     ·rw[AN (mD AM u.aF 0)]
      cases dr gR 0 u.aF with
      |some r=>rfl
      |none=>
       simp only[gP,aO,Option.isSome_none,cond_false]
       cases k:decide (3<(u.told.length:Int)) with
       |true=>rfl
       |false=>
        simp only[cond_false]
        rw[sC (t:=iP u) u.told (by omega) ?_ ?_ 0]
        ·cases dr (iP u) 0 u.told<;>rfl
        ·intro j x s b
         have g:=(List.getElem?_eq_some_iff.1 b).1
         have a:decide ((j:Int)<(u.told.length:Int))=true:=decide_eq_true (by omega)
         have c:bK u.told (j:Int)=some x:=by unfold bK;rw[if_pos (by omega),Int.toNat_natCast,b]
         have d:IntKind.i64.wrap ((j:Int)+1)=((j+1:Nat):Int):=by rw[bZ (by omega)];omega
         unfold wK iP
         simp only[a,c,d,ah,AK,cond_true]
         cases ku u x.aW<;>rfl
        ·intro s
         have a:decide ((u.told.length:Int)<(u.told.length:Int))=false:=decide_eq_false (by omega)
         unfold wK
         simp only[a,cond_false]
     ·intro j x s b
      have g:=(List.getElem?_eq_some_iff.1 b).1
      have a:decide ((j:Int)<(u.aF.length:Int))=true:=decide_eq_true (by omega)
      have c:bK u.aF (j:Int)=some x:=by unfold bK;rw[if_pos (by omega),Int.toNat_natCast,b]
      have d:IntKind.i64.wrap ((j:Int)+1)=((j+1:Nat):Int):=by rw[bZ (by omega)];omega
      unfold wJ gR
      simp only[a,c,d,ah,eP,AG,cond_true]
      cases bI x.back 1 20<;>cases kr x.high 0 60<;>cases decide (3<=IntKind.i64.wrap (x.high.high - x.high.low))<;>rfl
     ·intro s
      have a:decide ((u.aF.length:Int)<(u.aF.length:Int))=false:=decide_eq_false (by omega)
      unfold wJ
      simp only[a,cond_false]
  ·intro j x s b
   have g:=(List.getElem?_eq_some_iff.1 b).1
   have a:decide ((j:Int)<(u.props.length:Int))=true:=decide_eq_true (by omega)
   have c:bK u.props (j:Int)=some x:=by unfold bK;rw[if_pos (by omega),Int.toNat_natCast,b]
   have d:IntKind.i64.wrap ((j:Int)+1)=((j+1:Nat):Int):=by rw[bZ (by omega)];omega
   unfold pW gQ
   simp only[a,c,d,ah,eP,(e x.place).2,cond_true]
   cases f x.place<;>cases bI x.cn 1 20<;>rfl
  ·intro s
   have a:decide ((u.props.length:Int)<(u.props.length:Int))=false:=decide_eq_false (by omega)
   unfold pW
   simp only[a,cond_false]
theorem AO (x:Int):cond (x != 0) (some x) (some 0)=some x:=by
 cases h:(x != 0) with
 |true=>rfl
 |false=>
  have:x=0:=by simpa using h
  rw[this];rfl
theorem AP (u:aj)(h0:u.an.length<=20)(h1:u.props.length<=20)(h2:u.aF.length<=20)(h3:u.told.length<=20):eF u=iN u/\∃r,eF u=some r:=by
 obtain ⟨he,c⟩:=wO u h0
 rw[Gh,c]
 show iK u=_/\∃r,iK u=some r
 unfold iK
 rw[sE]
 simp only[ah]
 cases hg:(gV u != 0) with
 |true=>exact ⟨rfl,_,rfl⟩
 |false=>
  simp only[cond_false]
  unfold kZ
  rw[he]
  simp only[ah]
  cases a:((cond (bI u.an.length 2 5) ((dr (fX u) 0 u.an).getD 0) 2) != 0) with
  |true=>exact ⟨rfl,_,rfl⟩
  |false=>
   simp only[cond_false]
   have hb:bI u.an.length 2 5=true:=by
    cases hb:bI (u.an.length:Int) 2 5 with
    |true=>rfl
    |false=>rw[hb] at a;cases a
   have d:=dw.1 hb
   obtain ⟨f,b⟩:=wP u (by omega) h0
   rw[Gj u f b h1 h2 h3]
   unfold kY
   rw[sH u f b]
   simp only[ah]
   cases e:((cond (decide (3<(u.props.length:Int))) 2 ((dr (gQ u f) 0 u.props).getD 0)) != 0) with
   |true=>exact ⟨rfl,_,rfl⟩
   |false=>
    simp only[cond_false]
    unfold kX
    rw[sG]
    simp only[ah]
    cases g:((cond (bI u.aF.length 1 3) ((dr gR 0 u.aF).getD 0) 2) != 0) with
    |true=>exact ⟨rfl,_,rfl⟩
    |false=>
     simp only[cond_false]
     unfold kW ni
     rw[sF]
     simp only[ah]
     rw[AO]
     exact ⟨rfl,_,rfl⟩
theorem p5 {α:Type}{t:Nat->α->Option Int}:∀(l:List α) (i:Nat),dr t i l=none->∀j x,l[j]?=some x->t (i+j) x=none
 |[],i,_,j,x,a=>by simp at a
 |y::l,i,h,j,x,a=>by
  unfold dr at h
  cases ht:t i y with
  |some r=>rw[ht] at h;cases h
  |none=>
   rw[ht] at h
   cases j with
   |zero=>simp at a;subst a;exact ht
   |succ j=>
    have:=p5 l (i+1) h j x (by simpa using a)
    rwa [show i+1+j=i+(j+1) by omega] at this
structure Fit (u:aj):Prop where
 aQ:2<=u.aQ/\u.aQ<=60
 aN:0<=u.aN/\u.aN<=60
 den:1<=u.aE.den/\u.aE.den<=20
 num:0<=u.aE.num/\u.aE.num<=20
 an:2<=u.an.length/\u.an.length<=5
 eH:∀(i:Nat) x,u.an[i]?=some x->(0<=x.ax/\x.ax<=u.aQ - 1)/\0<=x.high/\x.high<=60
 nP:∀(i:Nat) x y,u.an[i]?=some x->u.an[i+1]?=some y->x.ax<y.ax
 props:u.props.length<=3
 prop:∀(i:Nat) x,u.props[i]?=some x->eo u x.place=some true/\1<=x.cn/\x.cn<=20
 aF:1<=u.aF.length/\u.aF.length<=3
 aW:∀(i:Nat) x,u.aF[i]?=some x->(1<=x.back/\x.back<=20)/\0<=x.high.low/\x.high.low<=x.high.high/\x.high.high<=60/\x.high.high - x.high.low<3
 told:u.told.length<=3
 p6:∀(i:Nat) x,u.told[i]?=some x->0<=x.aW/\x.aW<u.aF.length
theorem sJ {o:Option Int}(h:∀r,o=some r->r≠0)(a:o.getD 0=0):o=none:=by
 cases o with
 |none=>rfl
 |some r=>exact absurd a (h r rfl)
theorem Gk (u:aj)(i:Nat)(x:bF)(r:Int)(h:fX u i x=some r):r≠0:=by
 unfold fX at h
 revert h
 cases bI x.ax 0 (IntKind.i64.wrap (u.aQ - 1))<;>cases bI x.high 0 60<;>try (intro h;cases h;decide)
 cases i with
 |zero=>intro h;cases h
 |succ j=>
  simp only[cond_true]
  cases u.an[j]? with
  |none=>intro h;cases h
  |some y=>dsimp only;cases decide (x.ax<=y.ax)<;>intro h<;>cases h<;>decide
theorem sK (u:aj)(h0:u.an.length<=20)(h:eF u=some 0):Fit u:=by
 have a:iK u=some 0:=h
 clear h
 unfold iK at a
 rw[sE] at a
 simp only[ah] at a
 have hg:gV u=0:=by
  cases hg:(gV u != 0) with
  |true=>rw[hg] at a;exact Option.some.inj a
  |false=>simpa using hg
 rw[hg] at a
 have a:kZ u=some 0:=a
 unfold kZ at a
 rw[(wO u h0).1] at a
 simp only[ah] at a
 generalize g:cond (bI (u.an.length:Int) 2 5) ((dr (fX u) 0 u.an).getD 0) 2=E at a
 have w:E=0:=by
  cases d:(E != 0) with
  |true=>rw[d] at a;exact Option.some.inj a
  |false=>simpa using d
 rw[w] at a g
 have a:kY u=some 0:=a
 have hb:bI (u.an.length:Int) 2 5=true:=by
  cases hb:bI (u.an.length:Int) 2 5 with
  |true=>rfl
  |false=>rw[hb] at g;cases g
 rw[hb] at g
 have L:=dw.1 hb
 have o:=p5 u.an 0 (sJ (mD (Gk u) u.an 0) g)
 obtain ⟨f,p⟩:=wP u (by omega) h0
 unfold kY at a
 rw[sH u f p] at a
 simp only[ah] at a
 generalize j:cond (decide (3<(u.props.length:Int))) 2 ((dr (gQ u f) 0 u.props).getD 0)=q at a
 have z:q=0:=by
  cases d:(q != 0) with
  |true=>rw[d] at a;exact Option.some.inj a
  |false=>simpa using d
 rw[z] at a j
 have a:kX u=some 0:=a
 have r:decide (3<(u.props.length:Int))=false:=by
  cases hb:decide (3<(u.props.length:Int)) with
  |false=>rfl
  |true=>rw[hb] at j;cases j
 rw[r] at j
 have A:=p5 u.props 0 (sJ (mD (AL u f) u.props 0) j)
 unfold kX at a
 rw[sG] at a
 simp only[ah] at a
 generalize k:cond (bI (u.aF.length:Int) 1 3) ((dr gR 0 u.aF).getD 0) 2=s at a
 have B:s=0:=by
  cases d:(s != 0) with
  |true=>rw[d] at a;exact Option.some.inj a
  |false=>simpa using d
 rw[B] at a k
 have a:kW u=some 0:=a
 have t:bI (u.aF.length:Int) 1 3=true:=by
  cases hb:bI (u.aF.length:Int) 1 3 with
  |true=>rfl
  |false=>rw[hb] at k;cases k
 rw[t] at k
 have M:=dw.1 t
 have C:=p5 u.aF 0 (sJ (mD AM u.aF 0) k)
 unfold kW ni at a
 rw[sF] at a
 simp only[ah] at a
 rw[AO] at a
 have l:=Option.some.inj a
 have v:decide (3<(u.told.length:Int))=false:=by
  cases hb:decide (3<(u.told.length:Int)) with
  |false=>rfl
  |true=>rw[hb] at l;cases l
 rw[v] at l
 have D:=p5 u.told 0 (sJ (mD (Gi u) u.told 0) l)
 have N:=of_decide_eq_false r
 have O:=of_decide_eq_false v
 clear a g j k l
 have G:(2<=u.aQ/\u.aQ<=60)/\(0<=u.aN/\u.aN<=60)/\(1<=u.aE.den/\u.aE.den<=20)/\(0<=u.aE.num/\u.aE.num<=20):=by
  unfold gV at hg
  refine ⟨dw.1 ?_,dw.1 ?_,dw.1 ?_,dw.1 ?_⟩<;>revert hg<;>cases bI u.aQ 2 60<;>cases bI u.aN 0 60<;>cases bI u.aE.den 1 20<;>cases bI u.aE.num 0 20<;>intro hg<;>first|rfl|cases hg
 obtain ⟨F,H,I,J⟩:=G
 have hw:IntKind.i64.wrap (u.aQ - 1)=u.aQ - 1:=bZ (by omega)
 have m:∀(i:Nat) x,u.an[i]?=some x->bI x.ax 0 (u.aQ - 1)=true/\bI x.high 0 60=true:=by
  intro i x b
  have:=o i x b
  unfold fX at this
  rw[hw] at this
  revert this
  cases bI x.ax 0 (u.aQ - 1)<;>cases bI x.high 0 60<;>intro h<;>first|exact ⟨rfl,rfl⟩|cases h
 refine ⟨F,H,I,J,by omega,fun i x b=>⟨dw.1 (m i x b).1,dw.1 (m i x b).2⟩,fun i x y b n=>?_,by omega,fun i x b=>?_,by omega,fun i x b=>?_,by omega,fun i x b=>?_⟩
 ·have:=o (i+1) y n
  rw[Nat.zero_add] at this
  unfold fX at this
  rw[hw,(m _ _ n).1,(m _ _ n).2] at this
  simp only[cond_true,b] at this
  cases hd:decide (y.ax<=x.ax) with
  |true=>rw[hd] at this;cases this
  |false=>have:=of_decide_eq_false hd;omega
 ·have:=A i x b
  unfold gQ at this
  revert this
  rw[(p x.place).1]
  cases f x.place<;>cases hb:bI x.cn 1 20<;>intro h<;>first|exact ⟨rfl,dw.1 hb⟩|cases h
 ·have:=C i x b
  unfold gR at this
  cases c:bI x.back 1 20 with
  |false=>rw[c] at this;cases this
  |true=>
   cases e:kr x.high 0 60 with
   |false=>rw[c,e] at this;cases this
   |true=>
    rw[c,e] at this
    unfold kr at e
    simp only[Bool.and_eq_true,decide_eq_true_eq] at e
    refine ⟨dw.1 c,e.1,e.2.1,e.2.2,?_⟩
    cases hd:decide (3<=IntKind.i64.wrap (x.high.high - x.high.low)) with
    |true=>rw[hd] at this;cases this
    |false=>
     have K:=of_decide_eq_false hd
     rw[bZ (by omega)] at K
     omega
 ·have:=D i x b
  unfold iP at this
  cases c:ku u x.aW with
  |false=>rw[c] at this;cases this
  |true=>
   unfold ku at c
   rw[bZ (by omega)] at c
   have:=dw.1 c
   omega
theorem wQ (g:Nat)(hg:0<g)(n:Int)(d:Nat):bp ((g:Int)*n) (g*d)=bp n d:=by
 unfold bp
 have e1:((g:Int)*n).natAbs=g*n.natAbs:=by rw[Int.natAbs_mul,Int.natAbs_natCast]
 rw[e1,Nat.gcd_mul_left]
 have a:(0:Int)<(g:Int):=by omega
 congr 1
 ·rw[Int.natCast_mul,Int.mul_tdiv_mul_of_pos _ _ a]
 ·rw[Int.natCast_mul,Int.natCast_mul,Int.mul_tdiv_mul_of_pos _ _ a]
theorem wR (n:Int)(d:Nat)(hd:0<d):∃g d':Nat,0<g/\0<d'/\d=g*d'/\n=(g:Int)*(bp n d).num/\(bp n d).den=(d':Int):=by
 have hg:0<Nat.gcd n.natAbs d:=Nat.gcd_pos_of_pos_right _ hd
 obtain ⟨d',a⟩:=Nat.gcd_dvd_right n.natAbs d
 refine ⟨Nat.gcd n.natAbs d,d',hg,?_,a,?_,?_⟩
 ·rcases Nat.eq_zero_or_pos d' with h|h
  ·rw[h,Nat.mul_zero] at a;omega
  ·exact h
 ·have b:((Nat.gcd n.natAbs d:Nat):Int) ∣ n:=Int.ofNat_dvd_left.2 (Nat.gcd_dvd_left _ _)
  unfold bp
  exact (Int.mul_tdiv_cancel' b).symm
 ·have:(d:Int)=((Nat.gcd n.natAbs d:Nat):Int)*(d':Int):=by rw[<-Int.natCast_mul];exact congrArg _ a
  show (d:Int).tdiv ((Nat.gcd n.natAbs d:Nat):Int)=_
  have h2:((Nat.gcd n.natAbs d:Nat):Int)≠0:=by omega
  calc (d:Int).tdiv ((Nat.gcd n.natAbs d:Nat):Int)=(((Nat.gcd n.natAbs d:Nat):Int)*(d':Int)).tdiv ((Nat.gcd n.natAbs d:Nat):Int):=congrArg (fun z=>Int.tdiv z _) this
   _=(d':Int):=Int.mul_tdiv_cancel_left _ h2
theorem dx {x y:Int}{A B:Nat}(a:x.natAbs<=A)(b:y.natAbs<=B):(x*y).natAbs<=A*B:=by
 rw[Int.natAbs_mul];exact Nat.mul_le_mul a b
theorem dZ {n:Int}(h:n.natAbs<=9000000000000000000):IntKind.i64.wrap n=n:=bZ (by omega)
structure Sm (r:ak)(A B:Nat):Prop where
 num:r.num.natAbs<=A
 den:0<r.den/\r.den<=B
theorem sL {a b:ak}{A B C D:Nat}(c:Sm a A B)(hb:Sm b C D)(h:A*D+C*B<=900000000000000000)(hd:B*D<=800000000000000000):
  jm a b=some (bp (a.num*b.den+b.num*a.den) (a.den*b.den).toNat):=by
 have h1:=dx c.num (show b.den.natAbs<=D by have:=hb.den;omega)
 have h2:=dx hb.num (show a.den.natAbs<=B by have:=c.den;omega)
 have h3:=dx (show a.den.natAbs<=B by have:=c.den;omega) (show b.den.natAbs<=D by have:=hb.den;omega)
 have d:0<a.den*b.den:=Int.mul_pos c.den.1 hb.den.1
 unfold jm
 rw[dZ (n:=a.num*b.den) (by omega),dZ (n:=b.num*a.den) (by omega),dZ (n:=a.den*b.den) (by omega),dZ (by omega)]
 have e:a.den*b.den=(((a.den*b.den).toNat:Nat):Int):=by omega
 have:=pZ (a.num*b.den+b.num*a.den) (a.den*b.den).toNat (by omega) (by omega) (by omega)
 rw[<-e] at this
 rw[this]
 rfl
theorem sM {a b:ak}{A B C D:Nat}(c:Sm a A B)(hb:Sm b C D)(h:A*D+C*B<=900000000000000000)(hd:B*D<=800000000000000000):
  gx a b=some (bp (a.num*b.den - b.num*a.den) (a.den*b.den).toNat):=by
 have h1:=dx c.num (show b.den.natAbs<=D by have:=hb.den;omega)
 have h2:=dx hb.num (show a.den.natAbs<=B by have:=c.den;omega)
 have h3:=dx (show a.den.natAbs<=B by have:=c.den;omega) (show b.den.natAbs<=D by have:=hb.den;omega)
 have d:0<a.den*b.den:=Int.mul_pos c.den.1 hb.den.1
 unfold gx
 rw[dZ (n:=a.num*b.den) (by omega),dZ (n:=b.num*a.den) (by omega),dZ (n:=a.den*b.den) (by omega),dZ (by omega)]
 have e:a.den*b.den=(((a.den*b.den).toNat:Nat):Int):=by omega
 have:=mC (a.num*b.den - b.num*a.den) (a.den*b.den).toNat (by omega) (by omega) (by omega)
 rw[<-e] at this
 rw[this]
 rfl
theorem wS {a b:ak}{A B C D:Nat}(c:Sm a A B)(hb:Sm b C D)(h:A*D+C*B<=900000000000000000)(hd:B*D<=800000000000000000)(hC:C<=9000000000000000000):
  jo a b=some (bp (a.num*b.den - b.num*a.den) (a.den*b.den).toNat):=by
 unfold jo
 have hn:=hb.num
 rw[dZ (by omega)]
 have d:Sm (⟨0 - b.num,b.den⟩:ak) C D:=⟨by show (0 - b.num).natAbs<=C;omega,hb.den⟩
 rw[sL c d h hd]
 show some (bp (a.num*b.den+(0 - b.num)*a.den) (a.den*b.den).toNat)=_
 rw[show a.num*b.den+(0 - b.num)*a.den=a.num*b.den - b.num*a.den by rw[Int.zero_sub,Int.neg_mul];omega]
def sN (x y:bF)(p:Int):Option ak:=
 e8 (IntKind.i64.wrap ((IntKind.i64.wrap (x.high*(IntKind.i64.wrap (y.ax - x.ax))))+(IntKind.i64.wrap ((IntKind.i64.wrap (y.high - x.high))*(IntKind.i64.wrap (p - x.ax)))))) (IntKind.i64.wrap (y.ax - x.ax))
theorem p7 {α:Type}{l:List α}{i:Nat}{x:α}(h:l[i]?=some x):bK l (i:Int)=some x:=by unfold bK;rw[if_pos (by omega),Int.toNat_natCast,h]
theorem AQ (i:Nat)(h:i<1000):IntKind.i64.wrap ((i:Int)+1)=((i+1:Nat):Int):=by rw[bZ (by omega)];omega
theorem piece (u:aj)(p:Int)(f:u.an.length<=5)(z:bF)(b:u.an[u.an.length - 1]?=some z)(g:p<=z.ax):∀(m i n:Nat) (x y:bF),i+1+m=u.an.length - 1->m<n->u.an[i]?=some x->u.an[i+1]?=some y->
  ∃(k:Nat) (x y:bF),i<=k/\u.an[k]?=some x/\u.an[k+1]?=some y/\p<=y.ax/\(k=i\/x.ax<p)/\bD (nq u p) n ((i+1:Nat):Int)=some (.nx ((k+1:Nat):Int))/\
   bD (sA u p) n (i:Int)=ah (sN x y p) fun r=>some (.rt r)
 |m,i,n+1,x,y,s,t,e,a=>by
  have v:i+1<u.an.length:=(List.getElem?_eq_some_iff.1 a).1
  have d1:decide (((i+1:Nat):Int)<(u.an.length:Int))=true:=decide_eq_true (by omega)
  unfold bD nq sA
  rw[AQ i (by omega),AQ (i+1) (by omega),p7 e,p7 a,d1]
  simp only[ah,cond_true]
  by_cases c:y.ax<p
  ·have e1:decide (y.ax<p)=true:=decide_eq_true c
   have e2:decide (p<=y.ax)=false:=decide_eq_false (by omega)
   rw[e1,e2]
   simp only[cond_true,cond_false]
   cases m with
   |zero=>
    have:u.an.length - 1=i+1:=by omega
    rw[this,a] at b
    cases b
    omega
   |succ m=>
    have h:i+1+1<u.an.length:=by omega
    obtain ⟨k,j,y',h1,h2,h3,l,d,o,q⟩:=piece u p f z b g m (i+1) n y (u.an[i+1+1]) (by omega) (by omega) a (List.getElem?_eq_getElem h)
    refine ⟨k,j,y',by omega,h2,h3,l,?_,o,q⟩
    rcases d with rfl|d
    ·rw[a] at h2;cases h2;exact .inr c
    ·exact .inr d
  ·have e1:decide (y.ax<p)=false:=decide_eq_false c
   have e2:decide (p<=y.ax)=true:=decide_eq_true (by omega)
   rw[e1,e2]
   refine ⟨i,x,y,Nat.le_refl _,e,a,by omega,.inl rfl,rfl,?_⟩
   simp only[cond_true]
   unfold sN
   cases e8 _ _<;>rfl
theorem iQ (n:Int)(d:Nat)(hd:0<d):Sm (bp n d) n.natAbs d:=by
 obtain ⟨g,d',hg,b,e1,e2,a⟩:=wR n d hd
 refine ⟨?_,?_⟩
 ·have:n.natAbs=g*(bp n d).num.natAbs:=by
   have:=congrArg Int.natAbs e2
   rwa [Int.natAbs_mul,Int.natAbs_natCast] at this
  rw[this]
  exact Nat.le_mul_of_pos_left _ hg
 ·rw[a]
  have:d'<=d:=by rw[e1];exact Nat.le_mul_of_pos_left _ hg
  omega
theorem AR (h:Int)(n:Int)(d:Nat)(hd:0<d):bp (h*(bp n d).den+(bp n d).num) ((bp n d).den).toNat=bp (h*d+n) d:=by
 obtain ⟨g,d',hg,e,e1,e2,a⟩:=wR n d hd
 have k1:h*(d:Int)+n=(g:Int)*(h*(d':Int)+(bp n d).num):=by
  rw[Int.mul_add,<-e2,e1,Int.natCast_mul,Int.mul_left_comm]
 rw[a]
 have b:((d':Nat):Int).toNat=d':=Int.toNat_natCast d'
 rw[b,k1]
 have c:bp ((g:Int)*(h*(d':Int)+(bp n d).num)) d=bp ((g:Int)*(h*(d':Int)+(bp n d).num)) (g*d'):=congrArg _ e1
 rw[c,wQ g hg]
theorem wT (u:aj)(F:Fit u)(p:Int)(a z:bF)(f:u.an[0]?=some a)(i:u.an[u.an.length - 1]?=some z)(j:a.ax<=p)(l:p<=z.ax):
  ∃r,gw u p=some r/\nO u p=some r/\Sm r 7200 60/\∃(k:Nat) (x y:bF) (d:Nat),u.an[k]?=some x/\u.an[k+1]?=some y/\x.ax<=p/\p<=y.ax/\y.ax - x.ax=d/\0<d/\r=bp (x.high*d+(y.high - x.high)*(p - x.ax)) d:=by
 have m:=F.an
 obtain ⟨k,x,y,-,b,e,o,g,q,t⟩:=piece u p m.2 z i l (u.an.length - 2) 0 fu a (u.an[1]'(by omega)) (by omega) (Nat.lt_of_le_of_lt (show u.an.length - 2<=5 by omega) (by decide)) f (List.getElem?_eq_getElem _)
 have hk:k+1<u.an.length:=(List.getElem?_eq_some_iff.1 e).1
 have G:=F.eH k x b
 have H:=F.eH (k+1) y e
 have I:=F.nP k x y b e
 have J:=F.aQ
 have v:x.ax<=p:=by
  rcases g with rfl|g
  ·rw[f] at b;cases b;exact j
  ·omega
 have w:IntKind.i64.wrap (((k+1:Nat):Int) - 1)=(k:Int):=by rw[bZ (by omega)];omega
 have w1:IntKind.i64.wrap (y.high - x.high)=y.high - x.high:=bZ (by omega)
 have w2:IntKind.i64.wrap (p - x.ax)=p - x.ax:=bZ (by omega)
 have w3:IntKind.i64.wrap (y.ax - x.ax)=y.ax - x.ax:=bZ (by omega)
 have A:((y.high - x.high)*(p - x.ax)).natAbs<=60*60:=dx (by omega) (by omega)
 have h:(x.high*(y.ax - x.ax)).natAbs<=60*60:=dx (by omega) (by omega)
 obtain ⟨d,hd⟩:∃d:Nat,y.ax - x.ax=d:=⟨(y.ax - x.ax).toNat,by omega⟩
 generalize hn:(y.high - x.high)*(p - x.ax)=n at A
 have c:0<d:=by omega
 have K:d<=60:=by omega
 have s1:=iQ n d c
 have B:Sm (bp n d) 3600 60:=⟨Nat.le_trans s1.num (by omega),s1.den.1,by have:=s1.den.2;omega⟩
 have C:Sm (⟨x.high,1⟩:ak) 60 1:=⟨by show x.high.natAbs<=60;omega,by show (0:Int)<1;omega,by show (1:Int)<=((1:Nat):Int);omega⟩
 refine ⟨bp (x.high*d+n) d,?_,?_,?_,k,x,y,d,b,e,v,o,hd,c,by rw[hn]⟩
 ·unfold gw
  have D:bD (nq u p) fu 1=some (.nx ((k+1:Nat):Int)):=q
  rw[D]
  simp only[ah,aO]
  rw[w,p7 b,p7 e]
  simp only[fT]
  rw[w1,w2,w3,hn,hd,dZ (by omega),pZ n d (by omega) c (by omega)]
  simp only
  rw[sL C B (by omega) (by omega)]
  show some (bp (x.high*(bp n d).den+(bp n d).num*1) (1*(bp n d).den).toNat)=_
  rw[Int.mul_one,Int.one_mul,AR x.high n d c]
 ·unfold nO
  have E:bD (sA u p) fu 0=ah (sN x y p) fun r=>some (.rt r):=t
  rw[E]
  unfold sN
  rw[w1,w2,w3,dZ (n:=x.high*(y.ax - x.ax)) (by omega),hn,dZ (n:=n) (by omega),hd]
  rw[hd] at h
  rw[dZ (n:=x.high*(d:Int)+n) (by omega),mC (x.high*d+n) d (by omega) c (by omega)]
  rfl
 ·have s:=iQ (x.high*d+n) d c
  rw[hd] at h
  exact ⟨Nat.le_trans s.num (by omega),s.den.1,by have:=s.den.2;omega⟩
theorem AS (u:aj)(F:Fit u)(p:Int)(a z:bF)(b:u.an[0]?=some a)(c:u.an[u.an.length - 1]?=some z)(d:a.ax<=p)(e:p<=z.ax):
  ∃r,gw u p=some r/\nO u p=some r/\Sm r 7200 60:=by
 obtain ⟨r,h1,h2,h3,-⟩:=wT u F p a z b c d e
 exact ⟨r,h1,h2,h3⟩
def wU:aj:=⟨0,0,(⟨0,0⟩:ak),([]:List bF),([]:List bH),([]:List bR),([]:List bP)⟩
theorem Gl {u:aj}{c:Int}(a:List (aj->Option Int))(h:eF u=some c)(b:c≠0):eO u a=some (wU,c):=by
 unfold eO
 rw[h]
 have:(c != 0)=true:=by simpa using b
 simp only[ah,this,cond_true]
 rfl
theorem AT {u:aj}{f:aj->Option Int}{x:Int}(h:eF u=some 0)(a:f u=some x):eO u [f]=some (cond (x != 0) (wU,x) (u,0)):=by
 unfold eO
 rw[h]
 simp only[ah,bne_self_eq_false,cond_false]
 unfold bE rV
 simp only[a,ah]
 cases (x != 0)<;>rfl
theorem kz (u:aj)(F:Fit u)(p:Int):∃a z,u.an[0]?=some a/\u.an[u.an.length - 1]?=some z/\eo u p=some (bI p a.ax z.ax)/\mj u p=some (bI p a.ax z.ax):=by
 have c:=F.an
 have h0:u.an[0]?=some (u.an[0]'(by omega)):=List.getElem?_eq_getElem _
 have b:u.an[u.an.length - 1]?=some (u.an[u.an.length - 1]'(by omega)):=List.getElem?_eq_getElem _
 have hw:IntKind.i64.wrap ((u.an.length:Int) - 1)=((u.an.length - 1:Nat):Int):=by rw[bZ (by omega)];omega
 refine ⟨_,_,h0,b,?_⟩
 have k:eo u p=some (bI p (u.an[0]'(by omega)).ax (u.an[u.an.length - 1]'(by omega)).ax):=by
  unfold eo
  have e0:bK u.an 0=some (u.an[0]'(by omega)):=h0
  rw[hw,e0,p7 b,kq]
  simp only[ah,eP]
 exact ⟨k,k⟩
theorem p8 {n m:Int}{d e:Nat}(hd:0<d)(he:0<e)(h:n*(e:Int)=m*(d:Int)):bp n d=bp m e:=by
 have a:=wQ e he n d
 have b:=wQ d hd m e
 rw[<-a,<-b]
 have e1:(e:Int)*n=(d:Int)*m:=by rw[Int.mul_comm,h,Int.mul_comm]
 rw[e1,Nat.mul_comm e d]
theorem fE (n:Int)(d:Nat)(hd:0<d):(bp n d).num*(d:Int)=n*(bp n d).den/\0<(bp n d).den:=by
 obtain ⟨g,d',hg,b,e1,e2,a⟩:=wR n d hd
 refine ⟨?_,by rw[a];omega⟩
 rw[a]
 have k1:(d:Int)=(g:Int)*(d':Int):=by rw[<-Int.natCast_mul];exact congrArg _ e1
 calc (bp n d).num*(d:Int)=(bp n d).num*((g:Int)*(d':Int)):=by rw[<-k1]
  _=((g:Int)*(bp n d).num)*(d':Int):=by rw[<-Int.mul_assoc,Int.mul_comm (bp n d).num]
  _=n*(d':Int):=by rw[<-e2]
theorem k7 {a b:ak}{A B C D:Nat}(c:Sm a A B)(hb:Sm b C D)(h:A*D<=9000000000000000000)(d:C*B<=9000000000000000000):dS a b=some (decide (a.num*b.den<b.num*a.den))/\eD a b=some (decide (a.num*b.den<b.num*a.den)):=by
 have h1:=dx c.num (show b.den.natAbs<=D by have:=hb.den;omega)
 have h2:=dx hb.num (show a.den.natAbs<=B by have:=c.den;omega)
 have k:dS a b=some (decide (a.num*b.den<b.num*a.den)):=by
  unfold dS
  rw[dZ (n:=a.num*b.den) (by omega),dZ (n:=b.num*a.den) (by omega)]
 exact ⟨k,k⟩
theorem Gm {h md a d e b f c N:Int}(h1:d*b=N*md)(h2:e*f=c*a):(h*(md*a)+d*e)*(b*f)=(h*b*f+N*c)*(md*a):=by
 grind
theorem AU (u:aj)(F:Fit u)(s:aP)(hs:(1<=s.back/\s.back<=20)/\0<=s.high/\s.high<=60)(at_:Int)(ax:Int)(H:0<=ax/\ax<=60)(e:ak)(he:Sm e 10000 100):
  ∃c,j4 u s at_ ⟨ax,e⟩=some ⟨⟨ax,e⟩,at_,c⟩/\mm u s ax e=some c/\c=bp (s.high*e.den*(ax+s.back)+(e.num - s.high*e.den)*(u.aQ+s.back)) (e.den*(ax+s.back)).toNat:=by
 have I:=F.aQ
 have w1:IntKind.i64.wrap (u.aQ+s.back)=u.aQ+s.back:=bZ (by omega)
 have w2:IntKind.i64.wrap (ax+s.back)=ax+s.back:=bZ (by omega)
 obtain ⟨f,b⟩:∃f:Nat,ax+s.back=f:=⟨(ax+s.back).toNat,by omega⟩
 have d:0<f:=by omega
 have J:f<=80:=by omega
 generalize m:u.aQ+s.back=c at*
 have o:c.natAbs<=80:=by omega
 have p:Sm (⟨s.high,1⟩:ak) 60 1:=⟨by show s.high.natAbs<=60;omega,by show (0:Int)<1;omega,by show (1:Int)<=((1:Nat):Int);omega⟩
 obtain ⟨a,j⟩:∃n:Nat,e.den=n:=⟨e.den.toNat,by have:=he.den;omega⟩
 have g:0<a:=by have:=he.den;omega
 have K:a<=100:=by have:=he.den;omega
 have A:(s.high*e.den).natAbs<=60*100:=dx (by omega) (by omega)
 have b2:(e.num - s.high*e.den).natAbs<=16000:=by have:=he.num;omega
 have q:=wS he p (by omega) (by omega) (by omega)
 have e1:e.num*(1:Int) - s.high*e.den=e.num - s.high*e.den:=by rw[Int.mul_one]
 have e2:(e.den*(1:Int)).toNat=a:=by rw[Int.mul_one,j,Int.toNat_natCast]
 rw[show ((⟨s.high,1⟩:ak).den)=(1:Int) from rfl,show ((⟨s.high,1⟩:ak).num)=s.high from rfl,e1,e2] at q
 generalize B:e.num - s.high*e.den=N at*
 have sm:=iQ N a g
 have r:=iQ c f d
 have t:=fE N a g
 have v:=fE c f d
 have L:((bp N a).num*(bp c f).num).natAbs<=16000*80:=dx (Nat.le_trans sm.num b2) (Nat.le_trans r.num o)
 have O:((bp N a).den*(bp c f).den).natAbs<=100*80:=dx (by have:=sm.den;omega) (by have:=r.den;omega)
 have P:0<(bp N a).den*(bp c f).den:=Int.mul_pos t.2 v.2
 obtain ⟨M,w⟩:∃M:Nat,(bp N a).den*(bp c f).den=M:=⟨((bp N a).den*(bp c f).den).toNat,by omega⟩
 have h:0<M:=by omega
 have C:=pZ c f (by omega) d (by omega)
 have D:=pZ ((bp N a).num*(bp c f).num) M (by omega) h (by omega)
 have sq:=iQ ((bp N a).num*(bp c f).num) M h
 have E:Sm (bp ((bp N a).num*(bp c f).num) M) 1280000 8000:=⟨Nat.le_trans sq.num (by omega),sq.den.1,by have:=sq.den.2;omega⟩
 have x:=sL p E (by omega) (by omega)
 have G:s.high*(bp ((bp N a).num*(bp c f).num) M).den+(bp ((bp N a).num*(bp c f).num) M).num*1=s.high*(bp ((bp N a).num*(bp c f).num) M).den+(bp ((bp N a).num*(bp c f).num) M).num:=by rw[Int.mul_one]
 rw[show ((⟨s.high,1⟩:ak).den)=(1:Int) from rfl,show ((⟨s.high,1⟩:ak).num)=s.high from rfl,G,Int.one_mul,AR s.high _ M h] at x
 have k:e.den*(ax+s.back)=((a*f:Nat):Int):=by rw[j,b,Int.natCast_mul]
 have i:(e.den*(ax+s.back)).toNat=a*f:=by rw[k,Int.toNat_natCast]
 have y:bp (s.high*(M:Int)+(bp N a).num*(bp c f).num) M=bp (s.high*e.den*(ax+s.back)+N*c) (a*f):=by
  refine p8 h (Nat.mul_pos g d) ?_
  rw[Int.natCast_mul,<-w,b,j]
  exact Gm (by rw[t.1]) (by rw[v.1])
 refine ⟨_,?_,?_,rfl⟩
 ·unfold j4
  have l:IntKind.i64.wrap (f:Int)=f:=bZ (by omega)
  simp only[fT,ah,q,m,w1,b,l,C]
  rw[dZ (by omega),dZ (n:=(bp N a).den*(bp c f).den) (by omega),w,D]
  simp only[x]
  rw[b] at i y
  rw[i,y]
 ·unfold mm
  have l:IntKind.i64.wrap (f:Int)=f:=bZ (by omega)
  have Q:(s.high*e.den*(f:Int)).natAbs<=6000*80:=dx A (by omega)
  have p2:(N*c).natAbs<=16000*80:=dx b2 o
  have p3:(e.den*(f:Int)).natAbs<=100*80:=dx (by omega) (by omega)
  simp only[m,w1,b,l]
  rw[dZ (n:=s.high*e.den) (by omega),B,dZ (n:=N) (by omega),dZ (n:=s.high*e.den*(f:Int)) (by omega),dZ (n:=N*c) (by omega),dZ (n:=s.high*e.den*(f:Int)+N*c) (by omega),dZ (n:=e.den*(f:Int)) (by omega)]
  rw[b] at k i
  have z:=mC (s.high*e.den*(f:Int)+N*c) (a*f) (by omega) (Nat.mul_pos g d) (by omega)
  rw[i]
  rw[<-k] at z
  rw[z]
  rfl
theorem AV (s:aP)(u:aj):en s u=sr s:=rfl
def k8 (s:aP):Int:=cond (bI s.back 1 20) (cond (bI s.high 0 60) 0 1) 1
theorem wV (s:aP):sr s=some (k8 s):=by
 unfold sr k8
 simp only[eP,ah]
 cases bI s.back 1 20<;>cases bI s.high 0 60<;>rfl
theorem Gn {s:aP}(h:k8 s=0):(1<=s.back/\s.back<=20)/\0<=s.high/\s.high<=60:=by
 unfold k8 at h
 cases h1:bI s.back 1 20 with
 |false=>rw[h1] at h;cases h
 |true=>
  cases h2:bI s.high 0 60 with
  |false=>rw[h1,h2] at h;cases h
  |true=>exact ⟨dw.1 h1,dw.1 h2⟩
def cU (u:aj)(s:aP)(x:bF):ak:=bp (s.high*1*(x.ax+s.back)+(x.high - s.high*1)*(u.aQ+s.back)) (1*(x.ax+s.back)).toNat
theorem AW (u:aj)(F:Fit u)(s:aP)(hs:(1<=s.back/\s.back<=20)/\0<=s.high/\s.high<=60)(i:Nat)(x:bF)(a:u.an[i]?=some x)(at_:Int):
  j4 u s at_ ⟨x.ax,⟨x.high,1⟩⟩=some ⟨⟨x.ax,⟨x.high,1⟩⟩,at_,cU u s x⟩/\mm u s x.ax ⟨x.high,1⟩=some (cU u s x):=by
 have p:=F.eH i x a
 have b:=F.aQ
 have he:Sm (⟨x.high,1⟩:ak) 10000 100:=⟨by show x.high.natAbs<=10000;omega,by show (0:Int)<1;omega,by show (1:Int)<=((100:Nat):Int);omega⟩
 obtain ⟨c,h1,h2,h3⟩:=AU u F s hs at_ x.ax (by omega) ⟨x.high,1⟩ he
 have:c=cU u s x:=h3
 subst this
 exact ⟨h1,h2⟩
theorem AX (u:aj)(F:Fit u)(s:aP)(hs:(1<=s.back/\s.back<=20)/\0<=s.high/\s.high<=60)(i:Nat)(x:bF)(a:u.an[i]?=some x):Sm (cU u s x) 10000 100:=by
 have p:=F.eH i x a
 have b:=F.aQ
 unfold cU
 rw[Int.mul_one,Int.one_mul]
 have c:(s.high*(x.ax+s.back)).natAbs<=60*79:=dx (by omega) (by omega)
 have b2:((x.high - s.high)*(u.aQ+s.back)).natAbs<=60*80:=dx (by omega) (by omega)
 have h:=iQ (s.high*(x.ax+s.back)+(x.high - s.high)*(u.aQ+s.back)) (x.ax+s.back).toNat (by omega)
 exact ⟨Nat.le_trans h.num (by omega),h.den.1,by have:=h.den.2;omega⟩
def foldI {α σ:Type}(g:Nat->α->σ->σ):Nat->List α->σ->σ
 |_,[],s=>s
 |i,x::l,s=>foldI g (i+1) l (g i x s)
theorem nS {α σ ρ:Type}{f:Nat->α->σ->Option (Fl σ ρ)}{g:Nat->α->σ->σ}{I:Nat->σ->Prop}:∀(l:List α) (i:Nat) (s:σ),I i s->(∀j x s,l[j]?=some x->I (i+j) s->f (i+j) x s=some (.nx (g (i+j) x s))/\I (i+j+1) (g (i+j) x s))->
  bE f i l s=some (.nx (foldI g i l s))/\I (i+l.length) (foldI g i l s)
 |[],i,s,hs,_=>⟨rfl,hs⟩
 |x::l,i,s,hs,h=>by
  obtain ⟨h0,h1⟩:=h 0 x s rfl hs
  simp only[Nat.add_zero] at h0 h1
  unfold bE foldI
  rw[h0]
  have:=nS l (i+1) _ h1 fun j y s a hs=>by
   have:=h (j+1) y s (by simpa using a) (by rwa [show i+(j+1)=i+1+j by omega])
   rwa [show i+(j+1)=i+1+j by omega] at this
  rwa [show i+1+l.length=i+(x::l).length by simp;omega] at this
theorem AY {α σ τ ρ:Type}{f:τ->Option (Fl τ ρ)}{g:Nat->α->σ->σ}{I:Nat->σ->Prop}(e:σ->Int->τ)(l:List α)(h:∀(i:Nat) x s,l[i]?=some x->I i s->f (e s (i:Int))=some (.nx (e (g i x s) ((i+1:Nat):Int)))/\I (i+1) (g i x s))(a:∀s,f (e s (l.length:Int))=some (.bk (e s (l.length:Int)))):
  ∀(k i n:Nat) (s:σ),I i s->i+k=l.length->k<n->bD f n (e s (i:Int))=some (.nx (e (foldI g i (l.drop i) s) (l.length:Int)))/\I l.length (foldI g i (l.drop i) s)
 |0,i,n+1,s,hs,hi,_=>by
  obtain rfl:i=l.length:=by omega
  unfold bD
  rw[a,List.drop_length]
  exact ⟨rfl,hs⟩
 |k+1,i,n+1,s,hs,hi,hn=>by
  have b:i<l.length:=by omega
  have c:l[i]?=some l[i]:=List.getElem?_eq_getElem b
  obtain ⟨h0,h1⟩:=h i _ s c hs
  unfold bD
  rw[h0,List.drop_eq_getElem_cons b]
  unfold foldI
  exact AY e l h a k (i+1) n _ h1 (by omega) (by omega)
theorem sO {α σ τ ρ:Type}{f:τ->Option (Fl τ ρ)}{g:Nat->α->σ->σ}{I:Nat->σ->Prop}(e:σ->Int->τ)(l:List α)(a:l.length<=1000)(h:∀(i:Nat) x s,l[i]?=some x->I i s->f (e s (i:Int))=some (.nx (e (g i x s) ((i+1:Nat):Int)))/\I (i+1) (g i x s))(b:∀s,f (e s (l.length:Int))=some (.bk (e s (l.length:Int))))(s:σ)(hs:I 0 s):
  bD f fu (e s 0)=some (.nx (e (foldI g 0 l s) (l.length:Int)))/\I l.length (foldI g 0 l s):=by
 have:=AY e l h b l.length 0 fu s hs (by omega) (Nat.lt_of_le_of_lt a (by decide))
 simpa using this
theorem AZ {α σ:Type}{g g':Nat->α->σ->σ}:∀(l:List α) (i:Nat) (s:σ),(∀j x s,i<=j->g j x s=g' j x s)->foldI g i l s=foldI g' i l s
 |[],_,_,_=>rfl
 |x::l,i,s,h=>by
  unfold foldI
  rw[h i x s (Nat.le_refl _)]
  exact AZ l (i+1) _ fun j x s a=>h j x s (by omega)
def bg (a b:ak):Bool:=decide (a.num*b.den<b.num*a.den)
abbrev SR (r:ak):Prop:=Sm r 2000000 8000
theorem Sm.mono {r:ak}{A B a b:Nat}(h:Sm r A B)(c:A<=a)(hb:B<=b):Sm r a b:=⟨Nat.le_trans h.num c,h.den.1,by have:=h.den.2;omega⟩
theorem sP (u:aj)(F:Fit u)(s:aP)(hs:(1<=s.back/\s.back<=20)/\0<=s.high/\s.high<=60)(i:Nat)(x:bF)(a:u.an[i]?=some x):SR (cU u s x):=(AX u F s hs i x a).mono (by decide) (by decide)
theorem jw {a b:ak}(c:SR a)(hb:SR b):dS a b=some (bg a b)/\eD a b=some (bg a b):=k7 c hb (by decide) (by decide)
def gB (u:aj)(s:aP)(i:Nat)(x:bF)(st:Int×ak):Int×ak:=cond (bg st.2 (cU u s x)) ((i:Int),cU u s x) st
def hU (u:aj)(s:aP)(i:Nat)(x:bF):bB:=⟨⟨x.ax,⟨x.high,1⟩⟩,(i:Int),cU u s x⟩
def e9 (u:aj)(s:aP):Nat->List bF->List bB
 |_,[]=>[]
 |i,x::l=>hU u s i x::e9 u s (i+1) l
theorem A0 (u:aj)(s:aP):∀(l:List bF) (i:Nat) (a:List bB),foldI (fun i x st=>st++[hU u s i x]) i l a=a++e9 u s i l
 |[],i,a=>by simp[foldI,e9]
 |x::l,i,a=>by simp[foldI,e9,A0 u s l (i+1)]
def gC (i:Nat)(x:bB)(st:bB):bB:=cond (bg st.high x.high) x st
theorem A1 (u:aj)(s:aP):∀(l:List bF) (i j:Nat) (c:bB),let r:=foldI gC j (e9 u s i l) c;(r.at_,r.high)=foldI (gB u s) i l (c.at_,c.high)
 |[],i,j,c=>rfl
 |x::l,i,j,c=>by
  simp only[e9,foldI]
  have:=A1 u s l (i+1) (j+1) (gC j (hU u s i x) c)
  simp only at this
  rw[this]
  congr 1
  unfold gC gB hU
  cases bg c.high (cU u s x)<;>rfl
theorem sQ (n:Int):fT n=some ⟨n,1⟩:=rfl
def bO (u:aj)(s:aP):Int×ak:=match u.an with
 |[]=>(0,⟨0,0⟩)
 |x::l=>foldI (gB u s) 1 l (0,cU u s x)
section
variable {u : aj} {s : aP} (F : Fit u) (hs : (1 ≤ s.back ∧ s.back ≤ 20) ∧ 0 ≤ s.high ∧ s.high ≤ 60)
include F hs
theorem Gq:bE (nj u s) 0 u.an ([]:List bB)=some (.nx (e9 u s 0 u.an)):=by
 have c:=F.an
 have:=nS (f:=nj u s) (ρ:=bB) (g:=fun i x st=>st++[hU u s i x]) (I:=fun i st=>st.length=i) u.an 0 [] rfl (fun j x st a b=>?_)
 ·rw[this.1,A0];rfl
 ·have d:j<u.an.length:=(List.getElem?_eq_some_iff.1 a).1
  refine ⟨?_,by simp[b]⟩
  unfold nj
  rw[Nat.zero_add] at b ⊢
  simp only[sQ,ah,(AW u F s hs j x a (j:Int)).1]
  unfold cZ
  rw[if_pos (by simp;omega)]
  rfl
theorem A2:∀(l:List bF) (i:Nat),(∀(j:Nat) x,l[j]?=some x->u.an[i+j]?=some x)->∀(j:Nat) c,(e9 u s i l)[j]?=some c->SR c.high
 |[],_,_,j,c,h=>by simp[e9] at h
 |x::l,i,a,0,c,h=>by
  simp[e9] at h
  subst h
  exact sP u F s hs i x (a 0 x rfl)
 |x::l,i,a,j+1,c,h=>A2 l (i+1) (fun j y b=>by have:=a (j+1) y (by simpa using b);rwa [show i+(j+1)=i+1+j by omega] at this) j c (by simpa [e9] using h)
theorem nU:∃c,k3 u s=some c/\(c.at_,c.high)=bO u s/\SR c.high/\sx u s=some (bO u s):=by
 have d:=F.an
 have o:=Gq F hs
 obtain ⟨a,rest,he⟩:∃x l,u.an=x::l:=by
  cases h:u.an with
  |nil=>rw[h] at d;simp at d
  |cons x l=>exact ⟨x,l,rfl⟩
 have p:u.an[0]?=some a:=by rw[he];rfl
 have q:∀(j:Nat) x,rest[j]?=some x->u.an[1+j]?=some x:=fun j x h=>by rw[he,Nat.add_comm];simpa using h
 have v:rest.length<=4:=by rw[he] at d;simp at d;omega
 have r:SR (cU u s a):=sP u F s hs 0 a p
 have hg:=nS (f:=l5 gv) (ρ:=bB) (g:=gC) (I:=fun _ c=>SR c.high) (e9 u s 1 rest) 0 (hU u s 0 a) r (fun j c st m e=>by
  have b:=A2 F hs rest 1 q j c m
  refine ⟨?_,?_⟩
  ·unfold l5 gv gC
   simp only[(jw e b).2,ah]
   cases bg st.high c.high<;>rfl
  ·unfold gC
   cases bg st.high c.high
   ·exact e
   ·exact b)
 refine ⟨foldI gC 0 (e9 u s 1 rest) (hU u s 0 a),?_,?_,hg.2,?_⟩
 ·unfold k3
  rw[o,he]
  simp only[ah,aO,e9]
  rw[show bK (hU u s 0 a::e9 u s (0+1) rest) 0=some (hU u s 0 a) from rfl]
  simp only
  have:gI (hU u s 0 a::e9 u s (0+1) rest) 1 (((hU u s 0 a::e9 u s (0+1) rest).length:Nat):Int)=some (e9 u s 1 rest):=by
   unfold gI
   rw[if_pos (by simp only[List.length_cons];omega)]
   simp
  rw[this]
  simp only
  unfold j5
  rw[hg.1]
  rfl
 ·have:=A1 u s rest 1 0 (hU u s 0 a)
  simp only at this
  rw[this]
  unfold bO
  rw[he]
  rfl
 ·unfold sx
  have t:=sO (f:=sw u s) (g:=fun i x st=>if i=0 then ((0:Int),cU u s x) else gB u s i x st) (I:=fun i st=>i=0\/SR st.2) (fun st i=>(st.1,i,st.2)) u.an (by omega) (fun i x st k e=>?_) (fun st=>?_) ((0:Int),(⟨0,0⟩:ak)) (.inl rfl)
  ·rw[t.1,he]
   simp only[ah,aO,foldI,if_pos]
   rw[AZ (g':=gB u s) rest (0+1) _ (fun j x st m=>if_neg (by omega))]
   unfold bO
   rw[he]
  ·have w:i<u.an.length:=(List.getElem?_eq_some_iff.1 k).1
   have b:=sP u F s hs i x k
   unfold sw
   simp only
   rw[show decide ((i:Int)<(u.an.length:Int))=true by simp;omega]
   simp only[cond_true]
   rw[show bK u.an (i:Int)=some x by unfold bK;rw[if_pos (by omega)];simpa using k]
   simp only[ah,(AW u F s hs i x k 0).2]
   have hw:IntKind.i64.wrap ((i:Int)+1)=((i+1:Nat):Int):=by rw[bZ (by omega)];rfl
   rw[hw]
   by_cases h0:i=0
   ·subst h0
    exact ⟨rfl,.inr b⟩
   ·have n:SR st.2:=e.resolve_left h0
    rw[show (((i:Nat):Int)==0)=false by simp;omega]
    simp only[cond_false,(jw n b).1,if_neg h0]
    unfold gB
    cases bg st.2 (cU u s x)
    ·exact ⟨rfl,.inr n⟩
    ·exact ⟨rfl,.inr b⟩
  ·unfold sw
   simp
end
section
variable {u : aj} {s : aP} (F : Fit u) (hs : (1 ≤ s.back ∧ s.back ≤ 20) ∧ 0 ≤ s.high ∧ s.high ≤ 60)
include F hs
theorem p9:Sm (⟨u.aN,1⟩:ak) 60 1:=⟨by have:=F.aN;show u.aN.natAbs<=60;omega,by show (0:Int)<1;omega,by show (1:Int)<=((1:Nat):Int);omega⟩
theorem nW:SR (bO u s).2:=by
 obtain ⟨c,h1,h2,h3,a⟩:=nU F hs
 rw[<-h2];exact h3
theorem Gs:∃r,nk u s=some r/\wM u s=some r:=by
 obtain ⟨c,h1,h2,h3,a⟩:=nU F hs
 have e2:c.high=(bO u s).2:=by rw[<-h2]
 have p:=p9 F hs
 have b:=wS p h3 (by decide) (by decide) (by decide)
 have d:=sM p h3 (by decide) (by decide)
 unfold nk wM
 rw[h1,a]
 simp only[ah,sQ,b,<-e2,d]
 exact ⟨_,rfl,rfl⟩
end
theorem A3 {a b c:ak}(d:0<a.den)(hb:0<b.den)(f:0<c.den)(h1:bg b a=false)(h2:bg b c=true):bg c a=false:=by
 unfold bg at*
 simp only[decide_eq_false_iff_not,decide_eq_true_eq,Int.not_lt] at*
 have k1:a.num*b.den*c.den<=b.num*a.den*c.den:=Int.mul_le_mul_of_nonneg_right h1 (by omega)
 have g:b.num*c.den*a.den<c.num*b.den*a.den:=Int.mul_lt_mul_of_pos_right h2 d
 have e:b.den*(a.num*c.den)<b.den*(c.num*a.den):=by
  have e1:b.den*(a.num*c.den)=a.num*b.den*c.den:=by grind
  have e2:b.den*(c.num*a.den)=c.num*b.den*a.den:=by grind
  have h:b.num*a.den*c.den=b.num*c.den*a.den:=by grind
  omega
 exact Int.le_of_lt (Int.lt_of_mul_lt_mul_left e (by omega))
theorem k9 (a:ak):bg a a=false:=by unfold bg;simp
theorem A4 {a b:ak}(h:bg a b=true):bg b a=false:=by
 unfold bg at*
 simp only[decide_eq_false_iff_not,decide_eq_true_eq,Int.not_lt] at*
 omega
def jx (u:aj)(s:aP)(ax:Int)(e:ak):ak:=bp (s.high*e.den*(ax+s.back)+(e.num - s.high*e.den)*(u.aQ+s.back)) (e.den*(ax+s.back)).toNat
def cC (u:aj)(x:bH):ak:=match gw u x.place with
 |some r=>bp (r.num+x.cn*r.den) r.den.toNat
 |none=>⟨0,0⟩
def dc (u:aj)(s:aP)(x:bH):ak:=jx u s x.place (cC u x)
section
variable {u : aj} {s : aP} (F : Fit u) (hs : (1 ≤ s.back ∧ s.back ≤ 20) ∧ 0 ≤ s.high ∧ s.high ≤ 60)
include F hs
theorem wW {i:Nat}{x:bH}(p:u.props[i]?=some x):∃r,gw u x.place=some r/\nO u x.place=some r/\jm r ⟨x.cn,1⟩=some (cC u x)/\
  e8 (IntKind.i64.wrap (r.num+IntKind.i64.wrap (x.cn*r.den))) r.den=some (cC u x)/\(∀at_,j4 u s at_ ⟨x.place,cC u x⟩=some ⟨⟨x.place,cC u x⟩,at_,dc u s x⟩)/\mm u s x.place (cC u x)=some (dc u s x)/\SR (dc u s x):=by
 obtain ⟨q,p2,p3⟩:=F.prop i x p
 obtain ⟨a,z,h,j,k,D⟩:=kz u F x.place
 rw[q] at k
 have hb:bI x.place a.ax z.ax=true:=(Option.some.inj k).symm
 unfold bI at hb
 simp only[Bool.and_eq_true,decide_eq_true_eq] at hb
 have E:=F.eH _ a h
 have G:=F.eH _ z j
 have H:=F.aQ
 obtain ⟨r,h1,h2,h3⟩:=AS u F x.place a z h j hb.1 hb.2
 have sh:Sm (⟨x.cn,1⟩:ak) 20 1:=⟨by show x.cn.natAbs<=20;omega,by show (0:Int)<1;omega,by show (1:Int)<=((1:Nat):Int);omega⟩
 have I:(x.cn*r.den).natAbs<=20*60:=dx (by omega) (by have:=h3.den;omega)
 obtain ⟨d,hd⟩:∃d:Nat,r.den=d:=⟨r.den.toNat,by have:=h3.den;omega⟩
 have l:0<d:=by have:=h3.den;omega
 have J:d<=60:=by have:=h3.den;omega
 have hn:=h3.num
 have g:cC u x=bp (r.num+x.cn*r.den) d:=by
  unfold cC
  rw[h1]
  simp only
  rw[hd,Int.toNat_natCast]
 have b:Sm (cC u x) 10000 100:=by
  rw[g]
  have:=iQ (r.num+x.cn*r.den) d l
  exact ⟨Nat.le_trans this.num (by omega),this.den.1,by have:=this.den.2;omega⟩
 have t:=sL h3 sh (by decide) (by decide)
 have m:=mC (r.num+x.cn*r.den) d (by omega) l (by omega)
 have o:∀at_,j4 u s at_ ⟨x.place,cC u x⟩=some ⟨⟨x.place,cC u x⟩,at_,dc u s x⟩/\mm u s x.place (cC u x)=some (dc u s x):=fun at_=>by
  obtain ⟨c,c1,c2,c3⟩:=AU u F s hs at_ x.place ⟨by omega,by omega⟩ (cC u x) b
  subst c3
  exact ⟨c1,c2⟩
 refine ⟨r,h1,h2,?_,?_,fun at_=>(o at_).1,(o 0).2,?_⟩
 ·rw[t,g]
  show some (bp (r.num*1+x.cn*r.den) (r.den*1).toNat)=_
  rw[Int.mul_one,Int.mul_one,hd,Int.toNat_natCast]
 ·rw[dZ (n:=x.cn*r.den) (by omega),dZ (by omega),g]
  rw[hd] at m ⊢
  exact m
 ·unfold dc jx
  obtain ⟨f,v⟩:∃f:Nat,x.place+s.back=f:=⟨(x.place+s.back).toNat,by omega⟩
  obtain ⟨e,w⟩:∃n:Nat,(cC u x).den=n:=⟨(cC u x).den.toNat,by have:=b.den;omega⟩
  have y:0<e:=by have:=b.den;omega
  have A:e<=100:=by have:=b.den;omega
  have K:=b.num
  have B:(s.high*(cC u x).den).natAbs<=60*100:=dx (by omega) (by omega)
  have b2:(s.high*(cC u x).den*(x.place+s.back)).natAbs<=6000*80:=dx B (by omega)
  have b3:(((cC u x).num - s.high*(cC u x).den)*(u.aQ+s.back)).natAbs<=16000*80:=dx (by omega) (by omega)
  have C:((cC u x).den*(x.place+s.back)).toNat=e*f:=by rw[w,v,<-Int.natCast_mul,Int.toNat_natCast]
  rw[C]
  have:=iQ (s.high*(cC u x).den*(x.place+s.back)+((cC u x).num - s.high*(cC u x).den)*(u.aQ+s.back)) (e*f) (Nat.mul_pos y (by omega))
  have L:e*f<=100*80:=Nat.mul_le_mul A (by omega)
  exact ⟨Nat.le_trans this.num (by omega),this.den.1,by have:=this.den.2;omega⟩
end
def same (x:bH)(e:ak)(y:bB):Bool:=(y.spot.ax==x.place)&&((y.spot.high.num==e.num)&&(y.spot.high.den==e.den))
def gT (u:aj)(s:aP)(i:Nat)(x:bH)(st:List bB):List bB:=cond (st.any (same x (cC u x))) st (st++[⟨⟨x.place,cC u x⟩,(i:Int),dc u s x⟩])
def cg (a b:ak):ak:=cond (bg a b) b a
def gM (u:aj)(s:aP)(i:Nat)(x:bH)(b:ak):ak:=if i=0 then dc u s x else cg b (dc u s x)
theorem A5 (x:bH)(e:ak):∀(l:List bB) (i:Nat),bE (pL x e) i l ()=some (cond (l.any (same x e)) (.br 1 ()) (.nx ()):Fl Unit (List bB))
 |[],i=>rfl
 |y::l,i=>by
  unfold bE pL
  rw[show ((y.spot.ax==x.place)&&((y.spot.high.num==e.num)&&(y.spot.high.den==e.den)))=same x e y from rfl,List.any_cons]
  cases same x e y
  ·simp only[cond_false,ah,Bool.false_or]
   exact A5 x e l (i+1)
  ·rfl
theorem qa {a b:ak}(c:SR a)(hb:SR b):fJ a b=some (cg a b):=by
 unfold fJ cg
 simp only[(jw c hb).1,ah]
 cases bg a b<;>rfl
theorem lf {a b:ak}(c:SR a)(hb:SR b):SR (cg a b):=by unfold cg;cases bg a b;exact c;exact hb
def sR:List bB->ak
 |[]=>⟨0,0⟩
 |c::l=>(foldI gC 0 l c).high
theorem wX {α σ:Type}{g:Nat->α->σ->σ}:∀(l:List α) (i:Nat) (y:α) (s:σ),foldI g i (l++[y]) s=g (i+l.length) y (foldI g i l s)
 |[],i,y,s=>rfl
 |x::l,i,y,s=>by
  simp only[List.cons_append,foldI,List.length_cons]
  rw[wX l (i+1) y]
  congr 1
  omega
theorem Gt (c:bB)(l:List bB)(y:bB):sR (c::l++[y])=cg (sR (c::l)) y.high:=by
 show (foldI gC 0 (l++[y]) c).high=_
 rw[wX]
 show (cond (bg (foldI gC 0 l c).high y.high) y (foldI gC 0 l c)).high=cond (bg (foldI gC 0 l c).high y.high) y.high (foldI gC 0 l c).high
 cases bg (foldI gC 0 l c).high y.high<;>rfl
structure Tp (u:aj)(s:aP)(st:List bB)(b:ak):Prop where
 ne:st≠[]
 wY:b=sR st
 sm:SR b
 le:∀y∈st,bg b y.high=false/\SR y.high/\y.high=jx u s y.spot.ax y.spot.high
theorem Tp.step {u:aj}{s:aP}{st:List bB}{b:ak}(h:Tp u s st b){x:bH}(f:SR (dc u s x))(i:Nat):Tp u s (gT u s i x st) (cg b (dc u s x)):=by
 unfold gT
 cases m:st.any (same x (cC u x)) with
 |true=>
  simp only[cond_true]
  obtain ⟨y,a,g⟩:=List.any_eq_true.1 m
  have d:=h.le y a
  have e:y.high=dc u s x:=by
   rw[d.2.2]
   unfold same at g
   simp only[Bool.and_eq_true,beq_iff_eq] at g
   obtain ⟨e1,e2,j⟩:=g
   unfold dc
   have:y.spot.high=cC u x:=by
    cases n:y.spot.high;cases o:cC u x
    rw[n,o] at e2 j
    simp only at e2 j
    rw[e2,j]
   rw[e1,this]
  have:cg b (dc u s x)=b:=by
   unfold cg
   rw[<-e,d.1]
   rfl
  rw[this]
  exact h
 |false=>
  simp only[cond_false]
  obtain ⟨c,l,rfl⟩:∃c l,st=c::l:=by
   cases st with
   |nil=>exact absurd rfl h.ne
   |cons c l=>exact ⟨c,l,rfl⟩
  refine ⟨by simp,?_,lf h.sm f,fun y a=>?_⟩
  ·rw[Gt,<-h.wY]
  ·rcases List.mem_append.1 a with a|a
   ·have d:=h.le y a
    refine ⟨?_,d.2⟩
    unfold cg
    cases k:bg b (dc u s x) with
    |false=>exact d.1
    |true=>exact A3 d.2.1.den.1 h.sm.den.1 f.den.1 d.1 k
   ·simp at a
    subst a
    refine ⟨?_,f,rfl⟩
    unfold cg
    cases k:bg b (dc u s x) with
    |false=>exact k
    |true=>exact k9 _
theorem Tp.fold {u:aj}{s:aP}:∀(l:List bH) (i:Nat) (st:List bB) (b:ak),1<=i->(∀x∈l,SR (dc u s x))->Tp u s st b->Tp u s (foldI (gT u s) i l st) (foldI (gM u s) i l b)
 |[],_,_,_,_,_,h=>h
 |x::l,i,st,b,hi,a,h=>by
  unfold foldI
  have e:gM u s i x b=cg b (dc u s x):=if_neg (by omega)
  rw[e]
  exact Tp.fold l (i+1) _ _ (by omega) (fun y c=>a y (List.mem_cons_of_mem _ c)) (h.step (a x (List.mem_cons_self ..)) i)
theorem Tp.all {u:aj}{s:aP}(x:bH)(l:List bH)(b:∀y∈x::l,SR (dc u s y)):Tp u s (foldI (gT u s) 0 (x::l) []) (foldI (gM u s) 0 (x::l) ⟨0,0⟩):=by
 unfold foldI
 have c:=b x (List.mem_cons_self ..)
 refine Tp.fold l 1 _ _ (Nat.le_refl _) (fun y a=>b y (List.mem_cons_of_mem _ a)) ⟨by simp[gT],?_,?_,?_⟩
 ·simp[gT,gM,sR,foldI]
 ·exact c
 ·intro y a
  simp[gT] at a
  subst a
  exact ⟨by simp[gM];exact k9 _,c,rfl⟩
section
variable {u : aj} {s : aP} (F : Fit u) (hs : (1 ≤ s.back ∧ s.back ≤ 20) ∧ 0 ≤ s.high ∧ s.high ≤ 60)
include F hs
theorem Gu:∀x∈u.props,SR (dc u s x):=fun x a=>by
 obtain ⟨i,hi,rfl⟩:=List.getElem_of_mem a
 obtain ⟨r,_,_,_,_,_,_,h⟩:=wW F hs (i:=i) (List.getElem?_eq_getElem hi)
 exact h
theorem Gv:jr u s=some (foldI (gT u s) 0 u.props []):=by
 have d:=F.props
 unfold jr
 have:=nS (f:=pM u s) (ρ:=List bB) (g:=gT u s) (I:=fun i st=>st.length<=i) u.props 0 [] (Nat.le_refl _) (fun j x st a b=>by
  have e:j<u.props.length:=(List.getElem?_eq_some_iff.1 a).1
  obtain ⟨r,h1,h2,h3,h,c,k,l⟩:=wW F hs a
  rw[Nat.zero_add] at b ⊢
  unfold pM
  simp only[h1,ah,sQ,h3,A5]
  unfold gT
  cases m:st.any (same x (cC u x)) with
  |true=>exact ⟨rfl,by simp only[cond_true];omega⟩
  |false=>
   simp only[cond_false,aO,ah,c]
   unfold cZ
   rw[if_pos (by simp;omega)]
   exact ⟨rfl,by simp;omega⟩)
 rw[this.1]
 rfl
theorem sS:ko u s=some (foldI (gM u s) 0 u.props ⟨0,0⟩,decide (0<(u.props.length:Int))):=by
 have k:=F.props
 unfold ko
 have:=sO (f:=sB u s) (g:=gM u s) (I:=fun i b=>i=0\/SR b) (fun b i=>(i,b)) u.props (by omega) (fun i x b c d=>by
  have l:i<u.props.length:=(List.getElem?_eq_some_iff.1 c).1
  obtain ⟨r,h1,h2,h3,h,m,j,a⟩:=wW F hs c
  unfold sB
  simp only
  rw[show decide ((i:Int)<(u.props.length:Int))=true by simp;omega]
  simp only[cond_true]
  rw[show bK u.props (i:Int)=some x by unfold bK;rw[if_pos (by omega)];simpa using c]
  have hw:IntKind.i64.wrap ((i:Int)+1)=((i+1:Nat):Int):=by rw[bZ (by omega)];rfl
  simp only[ah,h2,h,j,hw]
  unfold gM
  by_cases h0:i=0
  ·subst h0
   have e:cg (dc u s x) (dc u s x)=dc u s x:=by unfold cg;rw[k9];rfl
   rw[show (((0:Nat):Int)==0)=true from rfl]
   simp only[cond_true,qa a a,e,if_pos]
   exact ⟨trivial,.inr a⟩
  ·have hb:SR b:=d.resolve_left h0
   rw[show (((i:Nat):Int)==0)=false by simp;omega]
   simp only[cond_false,qa hb a,if_neg h0]
   exact ⟨trivial,.inr (lf hb a)⟩) (fun b=>by unfold sB;simp) (⟨0,0⟩:ak) (.inl rfl)
 rw[this.1]
 rfl
theorem sU:(u.props=[]/\jr u s=some []/\ko u s=some (⟨0,0⟩,false))\/
  ∃st b,jr u s=some st/\ko u s=some (b,true)/\Tp u s st b:=by
 have h1:=Gv F hs
 have h2:=sS F hs
 have h3:=Gu F hs
 cases a:u.props with
 |nil=>
  rw[a] at h1 h2
  exact .inl ⟨rfl,h1,h2⟩
 |cons x l=>
  rw[a] at h1 h2 h3
  refine .inr ⟨_,_,h1,?_,Tp.all x l h3⟩
  rw[h2]
  rw[show decide (0<((x::l).length:Int))=true by simp]
theorem A6 {st:List bB}{b:ak}(h:Tp u s st b):∃c l,st=c::l/\∃m,j5 gv c l=some m/\m.high=b:=by
 obtain ⟨c,l,rfl⟩:∃c l,st=c::l:=by
  cases st with
  |nil=>exact absurd rfl h.ne
  |cons c l=>exact ⟨c,l,rfl⟩
 refine ⟨c,l,rfl,?_⟩
 have hg:=nS (f:=l5 gv) (ρ:=bB) (g:=gC) (I:=fun _ c=>SR c.high) l 0 c (h.le c (List.mem_cons_self ..)).2.1 (fun j x st e a=>by
  have d:SR x.high:=(h.le x (List.mem_cons_of_mem _ (List.mem_of_getElem? e))).2.1
  refine ⟨?_,?_⟩
  ·unfold l5 gv gC
   simp only[(jw a d).2,ah]
   cases bg st.high x.high<;>rfl
  ·unfold gC
   cases bg st.high x.high
   ·exact a
   ·exact d)
 refine ⟨foldI gC 0 l c,?_,h.wY.symm⟩
 unfold j5
 rw[hg.1]
 rfl
end
theorem sV {a b c:ak}(d:0<a.den)(hb:0<b.den)(e:0<c.den)(h1:bg a b=false)(h2:bg b c=false):bg a c=false:=by
 cases h:bg a c with
 |false=>rfl
 |true=>
  have:=A3 hb d e h1 h
  unfold bg at*
  simp only[decide_eq_false_iff_not,decide_eq_true_eq,Int.not_lt] at*
  have k1:b.num*a.den*c.den<=a.num*b.den*c.den:=Int.mul_le_mul_of_nonneg_right h1 (by omega)
  have f:a.num*c.den*b.den<c.num*a.den*b.den:=Int.mul_lt_mul_of_pos_right h hb
  have g:c.num*b.den*a.den<=b.num*c.den*a.den:=Int.mul_le_mul_of_nonneg_right h2 (by omega)
  have e1:a.num*b.den*c.den=a.num*c.den*b.den:=by grind
  have e2:c.num*b.den*a.den=c.num*a.den*b.den:=by grind
  have i:b.num*c.den*a.den=b.num*a.den*c.den:=by grind
  omega
theorem Gw {a b c:ak}(d:0<a.den)(hb:0<b.den)(e:0<c.den)(h1:bg a b=true)(h2:bg b c=true):bg a c=true:=by
 unfold bg at*
 simp only[decide_eq_true_eq] at*
 have k1:a.num*b.den*c.den<b.num*a.den*c.den:=Int.mul_lt_mul_of_pos_right h1 e
 have g:b.num*c.den*a.den<c.num*b.den*a.den:=Int.mul_lt_mul_of_pos_right h2 d
 have f:b.den*(a.num*c.den)<b.den*(c.num*a.den):=by
  have e1:b.den*(a.num*c.den)=a.num*b.den*c.den:=by grind
  have e2:b.den*(c.num*a.den)=c.num*b.den*a.den:=by grind
  have h:b.num*a.den*c.den=b.num*c.den*a.den:=by grind
  omega
 exact Int.lt_of_mul_lt_mul_left f (by omega)
theorem A7 {e y:ak}(he:SR e)(a:SR y):∀(l:List bB) (b:ak),(∀x∈l,SR x.high)->SR b->∀(i j:Nat),
  foldI (fun _ (x:bB) st=>cg st x.high) i l (cg e b)=cg e (foldI (fun _ (x:bB) st=>cg st x.high) j l b)
 |[],b,_,_,i,j=>rfl
 |x::l,b,d,hb,i,j=>by
  unfold foldI
  have c:=d x (List.mem_cons_self ..)
  have key:cg (cg e b) x.high=cg e (cg b x.high):=by
   unfold cg
   cases h1:bg e b<;>cases h2:bg b x.high<;>simp only[cond_true,cond_false,h1,h2]
   ·have:=sV he.den.1 hb.den.1 c.den.1 h1 h2
    rw[this];rfl
   ·rw[Gw he.den.1 hb.den.1 c.den.1 h1 h2]
    rfl
  rw[key]
  exact A7 he a l _ (fun y a=>d y (List.mem_cons_of_mem _ a)) (lf hb c) (i+1) (j+1)
theorem A8:∀(l:List bB) (i:Nat) (c:bB),(foldI gC i l c).high=foldI (fun _ (x:bB) st=>cg st x.high) i l c.high
 |[],_,_=>rfl
 |x::l,i,c=>by
  unfold foldI
  rw[A8 l (i+1)]
  congr 1
  unfold gC cg
  cases bg c.high x.high<;>rfl
theorem A9 {a b:ak}(c:SR a)(hb:SR b):g9 eD a [b]=some (cg a b):=by
 unfold g9 bE pK
 simp only[(jw c hb).2,ah]
 unfold cg
 cases bg a b<;>rfl
theorem Gx {f:Nat->bB->ak->Option (Fl ak ak)}(c:f=l9\/f=mb){st:List bB}(d:∀x∈st,SR x.high){e:ak}(he:SR e):
  bE f 0 st e=some (.nx (foldI (fun _ (x:bB) st=>cg st x.high) 0 st e))/\SR (foldI (fun _ (x:bB) st=>cg st x.high) 0 st e):=
 nS (I:=fun _ r=>SR r) st 0 e he (fun j x r g a=>by
  have b:=d x (List.mem_of_getElem? g)
  rcases c with rfl|rfl
  ·unfold l9
   simp only[A9 a b,ah]
   exact ⟨trivial,lf a b⟩
  ·unfold mb
   simp only[A9 a b,ah]
   exact ⟨trivial,lf a b⟩)
section
variable {u : aj} {s : aP} (F : Fit u) (hs : (1 ≤ s.back ∧ s.back ≤ 20) ∧ 0 ≤ s.high ∧ s.high ≤ 60)
include F hs
theorem Ba {a b:ak}(c:SR a)(hb:SR b):∃d,jo a b=some d/\gx a b=some d/\Sm d 40000000000 64000000:=by
 have e:=wS c hb (by decide) (by decide) (by decide)
 have f:=sM c hb (by decide) (by decide)
 refine ⟨_,e,f,?_⟩
 have h1:=dx c.num (show b.den.natAbs<=8000 by have:=hb.den;omega)
 have h2:=dx hb.num (show a.den.natAbs<=8000 by have:=c.den;omega)
 have h3:=dx (show a.den.natAbs<=8000 by have:=c.den;omega) (show b.den.natAbs<=8000 by have:=hb.den;omega)
 have g:0<a.den*b.den:=Int.mul_pos c.den.1 hb.den.1
 have:=iQ (a.num*b.den - b.num*a.den) (a.den*b.den).toNat (by omega)
 exact ⟨Nat.le_trans this.num (by omega),this.den.1,by have:=this.den.2;omega⟩
theorem Bb:Sm (⟨0,1⟩:ak) 1 1:=⟨by decide,by decide,by decide⟩
theorem Bc {d:ak}(hd:Sm d 40000000000 64000000):∃m,g9 eD d [⟨0,1⟩]=some m/\fJ d ⟨0,1⟩=some m/\Sm m 40000000000 64000000:=by
 have a:=k7 hd (Bb F hs) (by decide) (by decide)
 refine ⟨cond (bg d ⟨0,1⟩) ⟨0,1⟩ d,?_,?_,?_⟩
 ·unfold g9 bE pK
  simp only[a.2,ah]
  unfold bg
  cases decide (d.num*(⟨0,1⟩:ak).den<(⟨0,1⟩:ak).num*d.den)<;>rfl
 ·unfold fJ
  simp only[a.1,ah]
  unfold bg
  cases decide (d.num*(⟨0,1⟩:ak).den<(⟨0,1⟩:ak).num*d.den)<;>rfl
 ·cases bg d ⟨0,1⟩
  ·exact hd
  ·exact (Bb F hs).mono (by decide) (by decide)
theorem Bd {f:Nat->bB->ak->Option (Fl ak ak)}(h:f=l9\/f=mb){e:ak}(he:SR e):
  ∃st m,jr u s=some st/\bE f 0 st e=some (.nx m)/\SR m/\((ko u s=some (⟨0,0⟩,false)/\m=e)\/∃b,ko u s=some (b,true)/\fJ e b=some m):=by
 rcases sU F hs with ⟨_,h1,h2⟩|⟨st,b,h1,h2,h3⟩
 ·exact ⟨[],e,h1,rfl,he,.inl ⟨h2,rfl⟩⟩
 ·have a:∀x∈st,SR x.high:=fun x d=>(h3.le x d).2.1
  obtain ⟨k1,i⟩:=Gx h a he
  refine ⟨st,_,h1,k1,i,.inr ⟨b,h2,?_⟩⟩
  rw[qa he h3.sm]
  obtain ⟨c,l,rfl⟩:∃c l,st=c::l:=by
   cases st with
   |nil=>exact absurd rfl h3.ne
   |cons c l=>exact ⟨c,l,rfl⟩
  have g:=a c (List.mem_cons_self ..)
  have e1:b=foldI (fun _ (x:bB) st=>cg st x.high) 0 l c.high:=by rw[h3.wY];exact A8 l 0 c
  have e2:=A7 he g l c.high (fun x d=>a x (List.mem_cons_of_mem _ d)) g 1 0
  congr 1
  rw[e1,<-e2]
  rfl
theorem wZ:∃r,j6 u s=some r/\pX u s=some r/\Sm r 40000000000 64000000:=by
 obtain ⟨c,h1,h2,h3,i⟩:=nU F hs
 have e2:c.high=(bO u s).2:=by rw[<-h2]
 have p:SR (⟨u.aN,1⟩:ak):=(p9 F hs).mono (by decide) (by decide)
 unfold j6 pX
 rw[h1,i]
 simp only[ah,sQ,<-e2,(jw h3 p).1,(jw h3 p).2]
 cases bg c.high ⟨u.aN,1⟩ with
 |true=>
  simp only[cond_true]
  obtain ⟨st,m,t1,t2,t3,t4⟩:=Bd F hs (.inl rfl) (f:=l9) h3
  obtain ⟨d,d1,d2,d3⟩:=Ba F hs p t3
  obtain ⟨z,g,a,e⟩:=Bc F hs d3
  simp only[t1,t2,aO,d1,g]
  rcases t4 with ⟨k1,rfl⟩|⟨b,k1,h⟩
  ·simp only[k1,cond_false,d2,a]
   exact ⟨z,rfl,rfl,e⟩
  ·simp only[k1,cond_true,h,d2,a]
   exact ⟨z,rfl,rfl,e⟩
 |false=>
  simp only[cond_false]
  obtain ⟨st,m,t1,t2,t3,t4⟩:=Bd F hs (.inr rfl) (f:=mb) p
  obtain ⟨d,d1,d2,d3⟩:=Ba F hs h3 t3
  obtain ⟨z,g,a,e⟩:=Bc F hs d3
  simp only[t1,t2,aO,d1,g]
  rcases t4 with ⟨k1,rfl⟩|⟨b,k1,h⟩
  ·simp only[k1,cond_false,d2,a]
   exact ⟨z,rfl,rfl,e⟩
  ·simp only[k1,cond_true,h,d2,a]
   exact ⟨z,rfl,rfl,e⟩
theorem Gy:∃b,fU u s=some b/\wN u s=some b:=by
 obtain ⟨r,h1,h2,h3⟩:=wZ F hs
 have c:Sm u.aE 20 20:=⟨by have:=F.num;omega,by have:=F.den;omega,by have:=F.den;omega⟩
 have a:=k7 c h3 (by decide) (by decide)
 unfold fU wN
 simp only[h1,h2,a.1,a.2,ah]
 exact ⟨_,rfl,rfl⟩
end
section
variable (u : aj) (h0 : u.an.length ≤ 20) (h1 : u.props.length ≤ 20) (h2 : u.aF.length ≤ 20) (h3 : u.told.length ≤ 20) (s : aP)
include h0 h1 h2 h3
theorem Gz:(∃c,c≠0/\eO u [en s]=some (wU,c)/\su u s=some c)\/
  (Fit u/\((1<=s.back/\s.back<=20)/\0<=s.high/\s.high<=60)/\eO u [en s]=some (u,0)/\su u s=some 0):=by
 obtain ⟨e,c,a⟩:=AP u h0 h1 h2 h3
 unfold su
 rw[<-e,a]
 by_cases b:c=0
 ·subst b
  have F:=sK u h0 a
  have hb:en s u=some (k8 s):=by rw[AV];exact wV s
  rw[AT a hb,wV]
  simp only[ah,bne_self_eq_false,cond_false]
  by_cases d:k8 s=0
  ·rw[d]
   exact .inr ⟨F,Gn d,rfl,rfl⟩
  ·have:(k8 s != 0)=true:=by simpa using d
   rw[this]
   exact .inl ⟨_,d,rfl,rfl⟩
 ·rw[Gl _ a b]
  have:(c != 0)=true:=by simpa using b
  simp only[ah,this,cond_true]
  exact .inl ⟨c,b,rfl,rfl⟩
theorem GA:∃r,gN u s=some r/\AE u s=some r:=by
 unfold gN AE
 rcases Gz u h0 h1 h2 h3 s with ⟨c,d,e1,e2⟩|⟨F,hs,e1,e2⟩
 ·have:(c != 0)=true:=by simpa using d
  simp only[e1,e2,ah,this,cond_true]
  exact ⟨_,rfl,rfl⟩
 ·simp only[e1,e2,ah,bne_self_eq_false,cond_false]
  rcases sU F hs with ⟨_,k1,a⟩|⟨st,b,k1,a,e⟩
  ·simp only[k1,a]
   exact ⟨_,rfl,rfl⟩
  ·obtain ⟨c,l,rfl,m,f,g⟩:=A6 F hs e
   simp only[k1,a]
   have z:((((c::l).length:Nat):Int)==0)=false:=by simp;omega
   have y:gI (c::l) 1 (((c::l).length:Nat):Int)=some l:=by
    unfold gI
    rw[if_pos (by simp only[List.length_cons];omega)]
    simp
   rw[z]
   simp only[cond_false]
   rw[show bK (c::l) 0=some c from rfl,y]
   simp only[f]
   rw[g]
   exact ⟨_,rfl,rfl⟩
end
theorem Be {a b c:ak}(d:0<a.den)(hb:0<b.den)(e:0<c.den)(h1:bg b a=false)(h2:bg b c=true):bg a c=true:=by
 cases h:bg a c with
 |true=>rfl
 |false=>
  have:=sV hb d e h1 h
  rw[h2] at this;cases this
section
variable {u : aj} {s : aP} (F : Fit u) (hs : (1 ≤ s.back ∧ s.back ≤ 20) ∧ 0 ≤ s.high ∧ s.high ≤ 60)
include F hs
structure w5 (u:aj)(s:aP)(i:Nat)(st:Int×ak):Prop where
 there:∃(n:Nat) (p:bF),n<i/\st=((n:Int),cU u s p)/\u.an[n]?=some p/\∀(j:Nat) q,j<n->u.an[j]?=some q->bg (cU u s q) (cU u s p)=true
 PI:∀(j:Nat) q,j<i->u.an[j]?=some q->bg st.2 (cU u s q)=false
theorem Bf:∀(l:List bF) (i:Nat) (st:Int×ak),(∀(j:Nat) x,l[j]?=some x->u.an[i+j]?=some x)->w5 u s i st->w5 u s (i+l.length) (foldI (gB u s) i l st)
 |[],i,st,_,h=>h
 |x::l,i,st,g,h=>by
  have b:u.an[i]?=some x:=g 0 x rfl
  have hd:∀(j:Nat) q,u.an[j]?=some q->0<(cU u s q).den:=fun j q a=>(sP u F s hs j q a).den.1
  unfold foldI
  have key:w5 u s (i+1) (gB u s i x st):=by
   obtain ⟨⟨n,p,hn,e,d,k⟩,hm⟩:=h
   subst e
   unfold gB
   cases c:bg (cU u s p) (cU u s x) with
   |true=>
    simp only[c,cond_true]
    refine ⟨⟨i,x,by omega,rfl,b,fun j q f a=>?_⟩,fun j q f a=>?_⟩
    ·exact Be (hd j q a) (hd n p d) (hd i x b) (hm j q f a) c
    ·by_cases e:j=i
     ·subst e;rw[b] at a;cases a;exact k9 _
     ·exact A4 (Be (hd j q a) (hd n p d) (hd i x b) (hm j q (by omega) a) c)
   |false=>
    simp only[c,cond_false]
    refine ⟨⟨n,p,by omega,rfl,d,k⟩,fun j q f a=>?_⟩
    by_cases e:j=i
    ·subst e;rw[b] at a;cases a;exact c
    ·exact hm j q (by omega) a
  have:=Bf l (i+1) _ (fun j y m=>by have:=g (j+1) y (by simpa using m);rwa [show i+(j+1)=i+1+j by omega] at this) key
  rwa [show i+1+l.length=i+(x::l).length by simp;omega] at this
theorem GB:∃(n:Nat) (p:bF),bO u s=((n:Int),cU u s p)/\u.an[n]?=some p/\(∀(j:Nat) q,u.an[j]?=some q->bg (cU u s p) (cU u s q)=false)/\∀(j:Nat) q,j<n->u.an[j]?=some q->bg (cU u s q) (cU u s p)=true:=by
 have c:=F.an
 cases he:u.an with
 |nil=>rw[he] at c;simp at c
 |cons x l=>
  have d:u.an[0]?=some x:=by rw[he];rfl
  have hb:=Bf F hs l 1 (0,cU u s x) (fun j y f=>by rw[he,Nat.add_comm];simpa using f)
   ⟨⟨0,x,by omega,rfl,d,fun j q b=>absurd b (by omega)⟩,fun j q b a=>by
    obtain rfl:j=0:=by omega
    rw[d] at a;cases a;exact k9 _⟩
  have ev:bO u s=foldI (gB u s) 1 l (0,cU u s x):=by unfold bO;rw[he]
  obtain ⟨⟨n,p,hn,e,g,h⟩,hm⟩:=hb
  rw[e] at hm ev
  refine ⟨n,p,ev,by rw[<-he];exact g,fun j q a=>?_,fun j q b a=>h j q b (by rw[he];exact a)⟩
  refine hm j q ?_ (by rw[he];exact a)
  have:=(List.getElem?_eq_some_iff.1 a).1
  simp at this;omega
end
theorem sW (n:Int)(d:Nat)(hd:0<d):bp (bp n d).num (bp n d).den.toNat=bp n d:=by
 obtain ⟨h1,h2⟩:=fE n d hd
 refine p8 (by omega) hd ?_
 rw[show (((bp n d).den.toNat:Nat):Int)=(bp n d).den by omega]
 exact h1
section
variable {u : aj} {s : aP} (F : Fit u) (hs : (1 ≤ s.back ∧ s.back ≤ 20) ∧ 0 ≤ s.high ∧ s.high ≤ 60)
include F hs
end
theorem sX {u:aj}(F:Fit u):∀(n i:Nat) (x y:bF),u.an[i]?=some x->u.an[i+1+n]?=some y->x.ax<y.ax
 |0,i,x,y,b,a=>F.nP i x y b a
 |n+1,i,x,y,b,a=>by
  have c:i+1+(n+1)<u.an.length:=(List.getElem?_eq_some_iff.1 a).1
  have hm:u.an[i+1+n]?=some (u.an[i+1+n]'(by omega)):=List.getElem?_eq_getElem _
  have h1:=sX F n i x _ b hm
  have h2:=F.nP _ _ y hm (by rw[<-a];congr 1)
  omega
theorem GC {b a h1 h2 f1 f2 p d:Int}(hd:f2 - f1=d)(h:b*d=(h1*d+(h2 - h1)*(p - f1))*a):(b - h1*a)*(f2 - f1)=(h2 - h1)*(p - f1)*a:=by
 subst hd;grind
theorem GD {b c h1 h2 f1 p d:Int}(hd:p - f1=d)(h0:0<d)(h:b*d=(h1*d+(h2 - h1)*(p - f1))*c):b=h2*c:=by
 rw[hd] at h
 refine Int.eq_of_mul_eq_mul_right (a:=d) (by omega) ?_
 grind
theorem GF {b c h1 h2 f1 p d:Int}(hd:p=f1)(h0:0<d)(h:b*d=(h1*d+(h2 - h1)*(p - f1))*c):b=h1*c:=by
 subst hd
 refine Int.eq_of_mul_eq_mul_right (a:=d) (by omega) ?_
 grind
theorem Bg {u:aj}(F:Fit u){p:Int}{a z:bF}(q:u.an[0]?=some a)(r:u.an[u.an.length - 1]?=some z)(s:a.ax<=p)(t:p<=z.ax):
  ∃g,gw u p=some g/\nO u p=some g/\Sm g 7200 60/\(∃n d,0<d/\g=bp n d)/\∀(i:Nat) (x y:bF),u.an[i]?=some x->u.an[i+1]?=some y->x.ax<=p->p<=y.ax->(g.num - x.high*g.den)*(y.ax - x.ax)=(y.high - x.high)*(p - x.ax)*g.den:=by
 obtain ⟨g,h1,h2,h3,k,b,y',d,f,h,v,w,hd,o,hg⟩:=wT u F p a z q r s t
 refine ⟨g,h1,h2,h3,⟨_,d,o,hg⟩,fun i x y l m A p2=>?_⟩
 have j:=(fE (b.high*d+(y'.high - b.high)*(p - b.ax)) d o).1
 rw[<-hg] at j
 rcases Nat.lt_trichotomy i k with c|c|c
 ·have e:i+1=k:=by
   rcases Nat.lt_or_ge (i+1) k with c2|c2
   ·have:=sX F (k - (i+1) - 1) (i+1) y b m (by rw[<-f];congr 1;omega)
    omega
   ·omega
  subst e
  rw[m] at f;cases f
  have:=GF (by omega) (by omega) j
  rw[this,show p=b.ax by omega]
  grind
 ·subst c
  rw[l] at f;cases f
  rw[m] at h;cases h
  exact GC hd j
 ·have e:k+1=i:=by
   rcases Nat.lt_or_ge (k+1) i with c2|c2
   ·have:=sX F (i - (k+1) - 1) (k+1) y' x h (by rw[<-l];congr 1;omega)
    omega
   ·omega
  subst e
  rw[l] at h;cases h
  have:=GD (by omega) (by omega) j
  rw[this,show p=y'.ax by omega]
  grind
def bY (a b:ak):ak:=bp (a.num*b.den - b.num*a.den) (a.den*b.den).toNat
def c6 (u:aj)(s:aP):ak:=foldI (gM u s) 0 u.props ⟨0,0⟩
def fc (u:aj)(s:aP):ak:=cond (bg (bO u s).2 ⟨u.aN,1⟩) ⟨u.aN,1⟩ (bO u s).2
def fY (u:aj)(s:aP):ak:=cond (bg (bO u s).2 ⟨u.aN,1⟩) (bO u s).2 ⟨u.aN,1⟩
def dL (u:aj)(s:aP):ak:=cond (decide (0<(u.props.length:Int))) (cg (fY u s) (c6 u s)) (fY u s)
def b6 (u:aj)(s:aP):ak:=cg (bY (fc u s) (dL u s)) ⟨0,1⟩
theorem GG:Sm (⟨0,1⟩:ak) 1 1:=⟨by decide,by decide,by decide⟩
theorem w6 {a b:ak}(c:SR a)(hb:SR b):Sm (bY a b) 40000000000 64000000:=by
 have h1:=dx c.num (show b.den.natAbs<=8000 by have:=hb.den;omega)
 have h2:=dx hb.num (show a.den.natAbs<=8000 by have:=c.den;omega)
 have h3:=dx (show a.den.natAbs<=8000 by have:=c.den;omega) (show b.den.natAbs<=8000 by have:=hb.den;omega)
 have d:0<a.den*b.den:=Int.mul_pos c.den.1 hb.den.1
 have:=iQ (a.num*b.den - b.num*a.den) (a.den*b.den).toNat (by omega)
 unfold bY
 exact ⟨Nat.le_trans this.num (by omega),this.den.1,by have:=this.den.2;omega⟩
theorem Bh {a b:ak}(c:SR a)(hb:SR b):gx a b=some (bY a b):=sM c hb (by decide) (by decide)
theorem GH {d:ak}(hd:Sm d 40000000000 64000000):fJ d ⟨0,1⟩=some (cg d ⟨0,1⟩):=by
 have a:=k7 hd GG (by decide) (by decide)
 unfold fJ
 simp only[a.1,ah]
 unfold cg bg
 cases decide (d.num*(⟨0,1⟩:ak).den<(⟨0,1⟩:ak).num*d.den)<;>rfl
section
variable {u : aj} {s : aP} (F : Fit u) (hs : (1 ≤ s.back ∧ s.back ≤ 20) ∧ 0 ≤ s.high ∧ s.high ≤ 60)
include F hs
theorem qb:SR (⟨u.aN,1⟩:ak):=(p9 F hs).mono (by decide) (by decide)
theorem qc:SR (fc u s):=by
 unfold fc
 cases bg (bO u s).2 ⟨u.aN,1⟩
 ·exact nW F hs
 ·exact qb F hs
theorem nZ:SR (fY u s):=by
 unfold fY
 cases bg (bO u s).2 ⟨u.aN,1⟩
 ·exact qb F hs
 ·exact nW F hs
theorem iR (h:u.props≠[]):SR (c6 u s):=by
 rcases sU F hs with ⟨h0,_,_⟩|⟨st,b,_,h2,h3⟩
 ·exact absurd h0 h
 ·rw[sS F hs] at h2
  have e:c6 u s=b:=(Prod.mk.inj (Option.some.inj h2)).1
  rw[e];exact h3.sm
theorem n4:SR (dL u s):=by
 unfold dL
 cases h:decide (0<(u.props.length:Int)) with
 |false=>exact nZ F hs
 |true=>
  refine lf (nZ F hs) (iR F hs fun e=>?_)
  rw[e] at h;simp at h
theorem GI:pX u s=some (b6 u s):=by
 obtain ⟨c,h1,h2,h3,g⟩:=nU F hs
 have es:SR (bO u s).2:=nW F hs
 have ps:=qb F hs
 unfold pX
 rw[g,sS F hs]
 simp only[ah,(jw es ps).1]
 have h:=n4 F hs
 have i:=qc F hs
 have key:∀a b:ak,SR a->SR b->ah (gx a b) (fun x=>ah (fJ x ⟨0,1⟩) fun y=>some y)=some (cg (bY a b) ⟨0,1⟩):=fun a b f hb=>by
  rw[Bh f hb]
  simp only[ah]
  rw[GH (w6 f hb)]
 simp only[ah] at key
 unfold b6 dL fc fY
 cases j:bg (bO u s).2 ⟨u.aN,1⟩ with
 |true=>
  simp only[cond_true]
  cases d:decide (0<(u.props.length:Int)) with
  |true=>
   have cs:=iR F hs (fun e=>by rw[e] at d;simp at d)
   simp only[cond_true]
   rw[show foldI (gM u s) 0 u.props ⟨0,0⟩=c6 u s from rfl,qa es cs]
   exact key _ _ ps (lf es cs)
  |false=>exact key _ _ ps es
 |false=>
  simp only[cond_false]
  cases d:decide (0<(u.props.length:Int)) with
  |true=>
   have cs:=iR F hs (fun e=>by rw[e] at d;simp at d)
   simp only[cond_true]
   rw[show foldI (gM u s) 0 u.props ⟨0,0⟩=c6 u s from rfl,qa ps cs]
   exact key _ _ es (lf ps cs)
  |false=>exact key _ _ es ps
theorem w7:j6 u s=some (b6 u s):=by
 obtain ⟨r,h1,h2,_⟩:=wZ F hs
 rw[GI F hs] at h2
 rw[h1,<-h2]
end
structure Vl (r:ak)(n d:Int):Prop where
 eq:r.num*d=n*r.den
 d:0<d
 den:0<r.den
theorem lt_mul {a b c:Int}(d:0<c):(a*c<b*c)↔a<b:=Int.mul_lt_mul_right d
theorem Vl.lt {r a:ak}{n d c d':Int}(h:Vl r n d)(b:Vl a c d'):bg r a=decide (n*d'<c*d):=by
 unfold bg
 rw[decide_eq_decide]
 have e1:r.num*a.den*(d*d')=n*d'*(r.den*a.den):=by have:=h.eq;have:=b.eq;grind
 have e2:a.num*r.den*(d*d')=c*d*(r.den*a.den):=by have:=h.eq;have:=b.eq;grind
 rw[<-lt_mul (Int.mul_pos h.d b.d),e1,e2,lt_mul (Int.mul_pos h.den b.den)]
theorem mE {a b:ak}(c:0<a.den)(hb:0<b.den):Vl (bY a b) (a.num*b.den - b.num*a.den) (a.den*b.den):=by
 have hd:0<a.den*b.den:=Int.mul_pos c hb
 have h:=fE (a.num*b.den - b.num*a.den) (a.den*b.den).toNat (by omega)
 rw[show (((a.den*b.den).toNat:Nat):Int)=a.den*b.den by omega] at h
 exact ⟨h.1,hd,h.2⟩
theorem GJ (n:Int)(d:Nat):bp (-n) d=⟨-(bp n d).num,(bp n d).den⟩:=by
 unfold bp
 rw[Int.natAbs_neg,Int.neg_tdiv]
def iS (r:ak):ak:=⟨if r.num<0 then -r.num else r.num,r.den⟩
theorem mF {d:ak}(hd:0<d.den):cg d ⟨0,1⟩=if d.num<0 then ⟨0,1⟩ else d:=by
 unfold cg bg
 simp only[Int.mul_one,Int.zero_mul]
 by_cases h:d.num<0<;>simp[h]
theorem qd {a b:ak}:bg (cg a b) a=false:=by
 unfold cg
 cases h:bg a b with
 |false=>exact k9 a
 |true=>exact A4 h
theorem GK {a b:ak}:bg (cg a b) b=false:=by
 unfold cg
 cases h:bg a b with
 |false=>exact h
 |true=>exact k9 b
theorem GL {a b:ak}(c:0<a.den)(hb:0<b.den):0<(cg a b).den:=by unfold cg;cases bg a b<;>assumption
theorem w8 {a b d:ak}(f:0<a.den)(hb:0<b.den)(e:0<d.den)(h:bg d b=false):bg (cg a d) (cg a b)=false:=by
 have hm:=GL f e
 unfold cg
 cases c:bg a b with
 |false=>exact qd
 |true=>exact sV hm e hb GK h
theorem Bi {a b d:ak}(c:0<a.den)(hb:0<b.den)(e:0<d.den)(h:bg d b=false):bg (bY a b) (bY a d)=false:=by
 rw[(mE c hb).lt (mE c e),decide_eq_false_iff_not,Int.not_lt]
 unfold bg at h
 rw[decide_eq_false_iff_not,Int.not_lt] at h
 have:=Int.mul_le_mul_of_nonneg_right h (Int.le_of_lt (Int.mul_pos c c))
 grind
theorem Vl.neg {r:ak}{n d:Int}(h:Vl r n d):r.num<0↔n<0:=by
 have h0:Vl ⟨0,1⟩ 0 1:=⟨rfl,by decide,by decide⟩
 have:=h.lt h0
 unfold bg at this
 simpa [decide_eq_decide] using this
theorem GM {P e:ak}(b:0<P.den)(he:0<e.den):bY (cond (bg e P) P e) (cond (bg e P) e P)=iS (bY P e)/\0<=(bY (cond (bg e P) P e) (cond (bg e P) e P)).num:=by
 have a:=mE b he
 cases c:bg e P with
 |true=>
  simp only[cond_true]
  unfold bg at c
  rw[decide_eq_true_eq] at c
  have hn:¬(bY P e).num<0:=by rw[a.neg];omega
  unfold iS
  rw[if_neg hn]
  exact ⟨rfl,by omega⟩
 |false=>
  simp only[cond_false]
  unfold bg at c
  rw[decide_eq_false_iff_not] at c
  have e1:bY e P=⟨-(bY P e).num,(bY P e).den⟩:=by
   unfold bY
   rw[<-GJ,Int.mul_comm e.den P.den]
   congr 1
   omega
  rw[e1]
  unfold iS
  by_cases hn:(bY P e).num<0
  ·rw[if_pos hn]
   exact ⟨rfl,by show 0<= -(bY P e).num;omega⟩
  ·have f:(bY P e).num=0:=by
    have h0:¬0<(bY P e).num:=fun h=>by
     have h1:=Int.mul_pos h a.d
     rw[a.eq] at h1
     have h2:P.num*e.den - e.num*P.den<=0:=by omega
     have h3:=Int.mul_le_mul_of_nonneg_right h2 (Int.le_of_lt a.den)
     omega
    omega
   rw[if_neg hn,f]
   exact ⟨rfl,Int.le_refl 0⟩
section
variable {u : aj} {s : aP} (F : Fit u) (hs : (1 ≤ s.back ∧ s.back ≤ 20) ∧ 0 ≤ s.high ∧ s.high ≤ 60)
include F hs
theorem qe:0<(bY (fc u s) (dL u s)).den:=(w6 (qc F hs) (n4 F hs)).den.1
theorem GN:0<=(b6 u s).num:=by
 unfold b6
 rw[mF (qe F hs)]
 split
 ·exact Int.le_refl 0
 ·omega
theorem Bj:bY (fc u s) (fY u s)=iS (bY ⟨u.aN,1⟩ (bO u s).2)/\0<=(bY (fc u s) (fY u s)).num:=
 GM (P:=⟨u.aN,1⟩) (qb F hs).den.1 (nW F hs).den.1
theorem GO (h:u.props=[]):b6 u s=iS (bY ⟨u.aN,1⟩ (bO u s).2):=by
 obtain ⟨h1,h2⟩:=Bj F hs
 have e:dL u s=fY u s:=by unfold dL;rw[h];rfl
 unfold b6
 rw[mF (qe F hs),e,if_neg (by omega),h1]
theorem GP:bg (dL u s) (fY u s)=false:=by
 unfold dL
 cases decide (0<(u.props.length:Int))
 ·exact k9 _
 ·exact qd
theorem GQ:bg (iS (bY ⟨u.aN,1⟩ (bO u s).2)) (b6 u s)=false:=by
 obtain ⟨h1,h2⟩:=Bj F hs
 have a:=(qc F hs).den.1
 have b:=(nZ F hs).den.1
 have hw:=(n4 F hs).den.1
 have m:=Bi a b hw (GP F hs)
 rw[<-h1]
 have hd:=(w6 (qc F hs) (nZ F hs)).den.1
 unfold b6
 rw[mF (qe F hs)]
 split
 ·unfold bg
  rw[decide_eq_false_iff_not,Int.not_lt]
  show 0*_<=_*1
  omega
 ·exact m
end
theorem Bl {u o:aj}{s:aP}(F:Fit u)(G:Fit o)(hs:(1<=s.back/\s.back<=20)/\0<=s.high/\s.high<=60)(a:fc o s=fc u s)(h:bg (dL o s) (dL u s)=false):bg (b6 u s) (b6 o s)=false:=by
 have m:=Bi (qc F hs).den.1 (n4 F hs).den.1 (n4 G hs).den.1 h
 have d1:=qe F hs
 have d2:=qe G hs
 rw[a] at d2
 unfold b6
 rw[a,mF d1,mF d2]
 by_cases c:(bY (fc u s) (dL u s)).num<0
 ·rw[if_pos c]
  have c2:(bY (fc u s) (dL o s)).num<0:=by
   unfold bg at m
   rw[decide_eq_false_iff_not,Int.not_lt] at m
   rcases Int.lt_or_le (bY (fc u s) (dL o s)).num 0 with x|x
   ·exact x
   ·have h1:=Int.mul_nonneg x (Int.le_of_lt d1)
    have h2:=Int.mul_neg_of_neg_of_pos c d2
    omega
  rw[if_pos c2]
  rfl
 ·rw[if_neg c]
  split
  ·unfold bg
   rw[decide_eq_false_iff_not,Int.not_lt]
   show 0*_<=_*1
   omega
  ·exact m
end Go.Proofs.YtjepffnffjdloaaGreatDoor
end

/- A part of the proof of a row and its tied card: Q4. -/
import Derived.Test.YtjepffnffjdloaaGreatDoorQ3
set_option linter.all false
section
namespace Go.Proofs.YtjepffnffjdloaaGreatDoor
open Go Go.Sep Go.Proofs
set_option maxRecDepth 100000
set_option maxHeartbeats 4000000
def sW (u0:ak):Option (ak×Int):=
 ah (gO u0 ([]:(List (ak->Option Int)))) fun a=>cond ((a.2 != 0)) (some ((⟨0,0,(⟨0,0⟩:av),([]:(List bH)),([]:(List cg)),([]:(List b6)),([]:(List bB))⟩:ak),a.2)) (ah (wv u0.aj) fun b=>ah (sK u0.props) fun c=>ah (sJ u0.aE) fun d=>ah (sH u0.told) fun e=>some ((⟨u0.aZ,u0.bD,u0.aR,b,c,d,e⟩:ak),0))
theorem wO {ro:Addr->Option Value}(a6:cU ro)(u0:ak){s1 z B C:Value}(E:bI ro u0 s1 z B C){r:(ak×Int)}(h:sW u0=some r):en Tryz.prog 96 #[bv u0 s1 z B C] ro (fun v aK=>∃ao w1 w2 w3,v= .tuple #[bv r.1 ao w1 w2 w3,.int .i64 r.2]/\bI aK r.1 ao w1 w2 w3):=by
 unfold sW at h
 have a7:=E.oc;simp only[bC] at a7
 refine aC.go Tryz.func96 rfl Tryz.ntmps96 Tryz.results96 (by simp) fun main J hJ A a8 hd hs=>?_
 have a9:=hs 0
 clear hs
 refine aa hJ (ag hJ ?_)
 simp only[*,go_sem]
 refine ax fun a F ba=>?_;try simp only[au] at ba
 refine ax fun b G bb=>?_;try simp only[au] at bb
 try simp only[*,go_sem]
 refine aa hJ (aa hJ (ag hJ ?_))
 revert h;refine bS fun c bc h=>?_
 simp only[*,go_sem]
 refine bV hJ _ (jL a6 u0 E ([]:(List (ak->Option Int))) (aB.nil _ _) bc) fun v U ae al bd=>?_
 obtain ⟨d,f,g,i,j,rfl,bj,bl⟩:=bd
 have bm:=bj.oc;simp only[bC] at bm
 have bo:=bl.oc;simp only[bC] at bo
 replace E:=E.mono ae
 replace G:=al.hd
 replace F:=al.tl.hd
 simp only[bf] at al
 refine aD ?_
 try simp only[*,go_sem]
 refine ax fun k K br=>?_;try simp only[au] at br
 try simp only[*,go_sem]
 refine aa hJ (ag hJ ?_)
 simp only[*,go_sem]
 revert h;refine jC hJ (by simp only[*,go_sem]) (fun bs h=>?_) fun bs h=>?_
 ·obtain rfl:=sI h
  refine aa hJ (ag hJ ?_)
  simp only[*,go_sem]
  refine ay ?_
  simp only[*,go_sem]
  exact ⟨_,ae,Le.sub (List.nil_sublist _),_,_,_,_,rfl,⟨aB.nil _ _,aB.nil _ _,aB.nil _ _,aB.nil _ _⟩⟩
 refine aF hJ (aa hJ ?_)
 refine aL hJ fun cS=>?_
 refine fN hJ mixed [13,14,15,16,17,18,19] (.pure 0 (.rd 1 (.pure 3 (.rd 4 (.pure 6 (.rd 7 (.pure 9 (.rd 10 (.one 2 (.pure 12 (.one 5 (.one 8 (.one 11 (.last 13 (.pure 14 (.last 15 (.pure 16 (.last 17 (.pure 18 (.last 19 .done)))))))))))))))))))) ⟨U,[(k,kn c.1 d f g i j),(b,bz 29),(a,bk u0 s1 z B C)]⟩ (by simp only[*,go_sem]) (by kernel_rfl) ?_
 revert h;refine bS fun m b0 h=>?_
 simp only[*,go_sem]
 refine gK hJ (aP:=[]) [(k,kn c.1 d f g i j),(b,bz 29),(a,bk u0 s1 z B C)] [] _ (Gx u0.aj E.e b0) (fun c0 L ar M N da=>?_)
 simp only[List.append_nil,List.cons_append,List.nil_append,List.append_assoc] at N
 subst M
 obtain ⟨d158,n,rfl,db⟩:=ar.len
 refine ⟨⟨U,(k,kn c.1 d f g i j)::(b,bz 29)::(a,bk u0 s1 z B C)::L⟩,Le.refl _,?_⟩
 refine ⟨by simp only[*,go_sem],bN ?_⟩
 revert h;refine bS fun o b1 h=>?_
 try simp only[*,go_sem]
 refine gK hJ (aP:=[]) [(k,kn c.1 d f g i j),(b,bz 29),(a,bk u0 s1 z B C)] L _ (A4 u0.props E.p b1) (fun dd O V M N df=>?_)
 simp only[List.append_nil,List.cons_append,List.nil_append,List.append_assoc] at N
 subst M
 obtain ⟨d168,q,rfl,dk⟩:=V.len
 refine ⟨⟨U,(k,kn c.1 d f g i j)::(b,bz 29)::(a,bk u0 s1 z B C)::(O++L)⟩,Le.refl _,?_⟩
 refine ⟨by simp only[*,go_sem],bN ?_⟩
 revert h;refine bS fun s b2 h=>?_
 try simp only[*,go_sem]
 refine gK hJ (aP:=[]) [(k,kn c.1 d f g i j),(b,bz 29),(a,bk u0 s1 z B C)] (O++L) _ (A3 u0.aE E.y b2) (fun dp P H M N dq=>?_)
 simp only[List.append_nil,List.cons_append,List.nil_append,List.append_assoc] at N
 subst M
 obtain ⟨d178,u,rfl,ds⟩:=H.len
 refine ⟨⟨U,(k,kn c.1 d f g i j)::(b,bz 29)::(a,bk u0 s1 z B C)::(P++(O++L))⟩,Le.refl _,?_⟩
 refine ⟨by simp only[*,go_sem],bN ?_⟩
 revert h;refine bS fun w b3 h=>?_
 obtain rfl:=sI h
 try simp only[*,go_sem]
 refine gK hJ (aP:=[]) [(k,kn c.1 d f g i j),(b,bz 29),(a,bk u0 s1 z B C)] (P++(O++L)) _ (wu u0.told E.t b3) (fun dt Q D M N du=>?_)
 simp only[List.append_nil,List.cons_append,List.nil_append,List.append_assoc] at N
 subst M
 obtain ⟨d188,x,rfl,dv⟩:=D.len
 refine ⟨⟨U,(k,kn c.1 d f g i j)::(b,bz 29)::(a,bk u0 s1 z B C)::(Q++(P++(O++L)))⟩,Le.refl _,?_⟩
 refine ⟨by simp only[*,go_sem],bN ?_⟩
 try simp only[*,go_sem]
 refine aa hJ ?_
 refine eC [1,2,3] fun dC b4 b5 ca=>?_
 simp only[*,go_sem] at b4 b5 ca
 clear a8 hd a9
 refine aL hJ fun dE=>?_
 refine ag hJ ?_
 simp only[*,go_sem]
 refine aL hJ fun a0=>?_
 obtain ⟨dT,X,R,I,cb⟩:=ar.lB ((k,kn c.1 d f g i j)::(b,bk u0 (sl d158 m n) (sl d168 o q) (sl d178 s u) (sl d188 w x))::(a,bk u0 (sl d158 m n) (sl d168 o q) (sl d178 s u) (sl d188 w x))::(Q++(P++O))) ((k,kn c.1 d f g i j)::(b,bk u0 (sl d158 m n) (sl d168 o q) (sl d178 s u) (sl d188 w x))::(a,bk u0 (sl d158 m n) (sl d168 o q) (sl d178 s u) (sl d188 w x))::(Q++(P++O))) [] (by first|rfl|simp only[List.append_nil,List.cons_append,List.nil_append,List.append_assoc]|(simp only[List.append_nil,List.cons_append,List.nil_append,List.append_assoc];rfl)) (by first|rfl|simp only[List.append_nil,List.cons_append,List.nil_append,List.append_assoc]|(simp only[List.append_nil,List.cons_append,List.nil_append,List.append_assoc];rfl)) a0 (aA.cons K (aA.cons G (aA.cons F (aA.app D.jE (aA.app H.jE (V.jE))))))
 clear a0
 refine cH hJ cb ?_
 obtain ⟨ea,eb,-⟩:=I.op
 replace K:=R.hd
 replace G:=R.tl.hd
 replace F:=R.tl.tl.hd
 replace D:=D.mono X R.tl.tl.tl.l
 replace H:=H.mono X R.tl.tl.tl.r.l
 replace V:=V.mono X R.tl.tl.tl.r.r
 simp only[bf] at R
 refine aL hJ fun a2=>?_
 obtain ⟨ec,Y,S,T,cd⟩:=V.lB ((k,kn c.1 d f g i j)::(b,bk u0 (sl d158 m n) (sl d168 o q) (sl d178 s u) (sl d188 w x))::(a,bk u0 (sl d158 m n) (sl d168 o q) (sl d178 s u) (sl d188 w x))::(Q++P)) ((k,kn c.1 d f g i j)::(b,bk u0 (sl d158 m n) (sl d168 o q) (sl d178 s u) (sl d188 w x))::(a,bk u0 (sl d158 m n) (sl d168 o q) (sl d178 s u) (sl d188 w x))::(Q++P)) [] (by first|rfl|simp only[List.append_nil,List.cons_append,List.nil_append,List.append_assoc]|(simp only[List.append_nil,List.cons_append,List.nil_append,List.append_assoc];rfl)) (by first|rfl|simp only[List.append_nil,List.cons_append,List.nil_append,List.append_assoc]|(simp only[List.append_nil,List.cons_append,List.nil_append,List.append_assoc];rfl)) a2 (aA.cons K (aA.cons G (aA.cons F (aA.app D.jE (H.jE)))))
 clear a2
 refine cH hJ cd ?_
 obtain ⟨ed,eh,-⟩:=T.op
 replace I:=I.mono Y
 replace K:=S.hd
 replace G:=S.tl.hd
 replace F:=S.tl.tl.hd
 replace D:=D.mono Y S.tl.tl.tl.l
 replace H:=H.mono Y S.tl.tl.tl.r
 simp only[bf] at S
 refine aL hJ fun a3=>?_
 obtain ⟨et,Z,W,ab,cf⟩:=H.lB ((k,kn c.1 d f g i j)::(b,bk u0 (sl d158 m n) (sl d168 o q) (sl d178 s u) (sl d188 w x))::(a,bk u0 (sl d158 m n) (sl d168 o q) (sl d178 s u) (sl d188 w x))::Q) ((k,kn c.1 d f g i j)::(b,bk u0 (sl d158 m n) (sl d168 o q) (sl d178 s u) (sl d188 w x))::(a,bk u0 (sl d158 m n) (sl d168 o q) (sl d178 s u) (sl d188 w x))::Q) [] (by first|rfl|simp only[List.append_nil,List.cons_append,List.nil_append,List.append_assoc]|(simp only[List.append_nil,List.cons_append,List.nil_append,List.append_assoc];rfl)) (by first|rfl|simp only[List.append_nil,List.cons_append,List.nil_append,List.append_assoc]|(simp only[List.append_nil,List.cons_append,List.nil_append,List.append_assoc];rfl)) a3 (aA.cons K (aA.cons G (aA.cons F (D.jE))))
 clear a3
 refine cH hJ cf ?_
 obtain ⟨ev,eQ,-⟩:=ab.op
 replace I:=I.mono Z
 replace T:=T.mono Z
 replace K:=W.hd
 replace G:=W.tl.hd
 replace F:=W.tl.tl.hd
 replace D:=D.mono Z W.tl.tl.tl
 simp only[bf] at W
 refine aL hJ fun a4=>?_
 obtain ⟨eS,ad,cl,a5,cy⟩:=D.lB ((k,kn c.1 d f g i j)::(b,bk u0 (sl d158 m n) (sl d168 o q) (sl d178 s u) (sl d188 w x))::(a,bk u0 (sl d158 m n) (sl d168 o q) (sl d178 s u) (sl d188 w x))::[]) [(k,kn c.1 d f g i j),(b,bk u0 (sl d158 m n) (sl d168 o q) (sl d178 s u) (sl d188 w x)),(a,bk u0 (sl d158 m n) (sl d168 o q) (sl d178 s u) (sl d188 w x))] [] (by first|rfl|simp only[List.append_nil,List.cons_append,List.nil_append,List.append_assoc]|(simp only[List.append_nil,List.cons_append,List.nil_append,List.append_assoc];rfl)) (by first|rfl|simp only[List.append_nil,List.cons_append,List.nil_append,List.append_assoc]|(simp only[List.append_nil,List.cons_append,List.nil_append,List.append_assoc];rfl)) a4 (aA.cons K (aA.cons G (aA.cons F (aA.nil _))))
 clear a4
 refine cH hJ cy ?_
 obtain ⟨e0,e1,-⟩:=a5.op
 replace I:=I.mono ad
 replace T:=T.mono ad
 replace ab:=ab.mono ad
 simp only[bf] at cl
 refine ay ?_
 simp only[*,go_sem]
 exact ⟨_,((((ae).trans X).trans Y).trans Z).trans ad,Le.sub (List.nil_sublist _),_,_,_,_,rfl,⟨I,T,ab,a5⟩⟩
def wP (u0:Int)(a:Int):Option Int:=
 ah (ot u0) fun c=>ah (ot a) fun b=>cond (c) (cond (b) (some 0) (some (-1))) (cond (b) (some 1) (cond (decide (u0<a)) (some (-1)) (cond (decide (a<u0)) (some 1) (some 0))))
theorem GK {ro:Addr->Option Value}(u0:Int)(a:Int){r:Int}(h:wP u0 a=some r):aC Tryz.prog 106 #[.int .i64 u0,.int .i64 a] ⟨ro,[]⟩ (fun v _=>v= .int .i64 r):=by
 unfold wP at h
 refine aC.go Tryz.func106 rfl Tryz.ntmps106 Tryz.results106 (by simp) fun main J hJ A j hd hs=>?_
 have k:=hs 0
 have k1:=hs 1
 clear hs
 refine aa hJ (ag hJ ?_)
 simp only[*,go_sem]
 refine aa hJ (ag hJ ?_)
 revert h;refine bS fun l b h=>?_
 simp only[*,go_sem]
 refine aM hJ _ (sU u0 b) (aD ?_)
 try simp only[*,go_sem]
 refine aa hJ (ag hJ ?_)
 revert h;refine bS fun m c h=>?_
 simp only[*,go_sem]
 refine aM hJ _ (sU a c) (aD ?_)
 try simp only[*,go_sem]
 refine aa hJ (aa hJ (ag hJ ?_))
 simp only[*,go_sem]
 revert h;refine jC hJ (by simp only[*,go_sem]) (fun d h=>?_) fun d h=>?_
 ·refine aa hJ (aa hJ (ag hJ ?_))
  simp only[*,go_sem]
  revert h;refine jC hJ (by simp only[*,go_sem]) (fun e h=>?_) fun e h=>?_
  ·obtain rfl:=sI h
   refine aa hJ (ag hJ ?_)
   simp only[*,go_sem]
   refine ay ?_
   simp only[*,go_sem]
  obtain rfl:=sI h
  refine aF hJ (aa hJ ?_)
  refine ag hJ ?_
  simp only[*,go_sem]
  refine ay ?_
  simp only[*,go_sem]
 refine aF hJ (aa hJ ?_)
 refine aa hJ (ag hJ ?_)
 simp only[*,go_sem]
 revert h;refine jC hJ (by simp only[*,go_sem]) (fun f h=>?_) fun f h=>?_
 ·obtain rfl:=sI h
  refine aa hJ (ag hJ ?_)
  simp only[*,go_sem]
  refine ay ?_
  simp only[*,go_sem]
 refine aF hJ (aa hJ ?_)
 refine aa hJ (ag hJ ?_)
 simp only[*,go_sem]
 revert h;refine jC hJ (by simp only[*,go_sem]) (fun g h=>?_) fun g h=>?_
 ·obtain rfl:=sI h
  refine aa hJ (ag hJ ?_)
  simp only[*,go_sem]
  refine ay ?_
  simp only[*,go_sem]
 refine aF hJ (aa hJ ?_)
 refine aa hJ (ag hJ ?_)
 simp only[*,go_sem]
 revert h;refine jC hJ (by simp only[*,go_sem]) (fun i h=>?_) fun i h=>?_
 ·obtain rfl:=sI h
  refine aa hJ (ag hJ ?_)
  simp only[*,go_sem]
  refine ay ?_
  simp only[*,go_sem]
 obtain rfl:=sI h
 refine aF hJ (aa hJ ?_)
 refine ag hJ ?_
 simp only[*,go_sem]
 refine ay ?_
 simp only[*,go_sem]
def wQ (a:(List Int))(i16:Nat)(c:Int)(st:Int):Option (Fl Int Int):=
 cond (decide ((a.length:Int)<=(i16:Int))) (some (.rt 1)) (ah (bw a (i16:Int)) fun d=>ah (wP c d) fun b=>cond ((b != 0)) (some (.rt b)) (some (.nx st)))
def wR (u0:(List Int))(a:(List Int)):Option Int:=
 ah (bG (wQ a) 0 u0 0) fun o=>aG o (fun b=>cond (decide ((u0.length:Int)<(a.length:Int))) (some (-1)) (some 0)) (fun _ _=>none) (fun r=>some r)
theorem GL {ro:Addr->Option Value}(u0:(List Int)){s1:Value}(g:aB rI ro s1 u0)(d:(List Int)){i:Value}(j:aB rI ro i d){r:Int}(h:wR u0 d=some r):aC Tryz.prog 73 #[s1,i] ⟨ro,[]⟩ (fun v _=>v= .int .i64 r):=by
 obtain ⟨d3,c4,rfl,U,w,-⟩:=id g
 obtain ⟨d10,V,rfl,W,X,-⟩:=id j
 unfold wR at h
 refine aC.go Tryz.func73 rfl Tryz.ntmps73 Tryz.results73 (by simp) fun main J hJ A y hd hs=>?_
 have z:=hs 0
 have k1:=hs 1
 clear hs
 refine aa hJ (ag hJ ?_)
 simp only[*,go_sem]
 refine aa hJ (aa hJ (ag hJ ?_))
 simp only[*,go_sem]
 refine aU hJ ?_
 revert h;refine bS fun B a e=>?_
 refine bX hJ [4,5,6,7,8,11,12,13,14,15,16,17,18,19,20,21,22,23,24,25,26,27,28,29,30] (fun m k F'=>∃(i16:Nat) (c:Int),m=u0.length - i16/\i16<=u0.length/\bG (wQ d) i16 (u0.drop i16) c=some B/\F'=⟨ro,[]⟩/\slot k 11= .int .i64 (i16:Int)/\slot k 4= .int .i64 c) u0.length ?_ ?_
 ·refine ⟨0,0,(Nat.sub_zero _).symm,Nat.zero_le _,a,rfl,?_⟩
  simp only[*,go_sem]
 rintro Y Z F' l ⟨i16,c,rfl,ab,a,rfl,ad,ae⟩
 obtain ⟨C,D,E⟩:=l.pick [0,1,9,10] (by decide)
 simp only[*,go_sem] at C D E
 clear l y hd z k1
 refine aa hJ (ag hJ ?_)
 simp only[*,go_sem]
 refine aa hJ ?_
 rcases Nat.lt_or_ge i16 u0.length with F|o
 ·refine bK hJ (by simp only[*,go_sem]) ?_
  refine aF hJ ?_
  obtain ⟨p,f⟩:∃x,u0[i16]?=some x:=⟨_,List.getElem?_eq_getElem F⟩
  rw[c5 f] at a
  revert a;refine bS fun al h b=>?_
  unfold wQ at h
  try dsimp only at h
  obtain ⟨ao,G,H,I,q⟩:=g.el _ _ f
  obtain rfl:G=[.int .i64 p]:=I
  cases H
  have K:=q 0 _ rfl;simp only[go_sem] at K
  clear q f
  refine aa hJ (aU hJ (aa hJ ?_))
  refine ag hJ ?_
  simp only[*,go_sem]
  refine aa hJ (aa hJ (ag hJ ?_))
  simp only[*,go_sem]
  revert h;refine jC hJ (by simp only[*,go_sem]) (fun L h=>?_) fun L h=>?_
  ·obtain rfl:=sI h
   refine aa hJ (ag hJ ?_)
   simp only[*,go_sem]
   obtain rfl:=sI b;clear b
   have h:=e
   dsimp only[aG] at h
   obtain rfl:=sI h
   refine ay ?_
   simp only[*,go_sem]
  refine aF hJ (aa hJ ?_)
  refine ag hJ ?_
  revert h;refine bS fun s M h=>?_
  obtain ⟨ar,a0,t⟩:=cw M
  obtain ⟨a2,N,O,P,u⟩:=j.el _ _ t
  obtain rfl:N=[.int .i64 s]:=P
  cases O
  have Q:=u 0 _ rfl;simp only[go_sem] at Q
  clear u t
  try simp only[*,go_sem]
  refine aa hJ (ag hJ ?_)
  revert h;refine bS fun a3 R h=>?_
  simp only[*,go_sem]
  refine aM hJ _ (GK p s R) (aD ?_)
  try simp only[*,go_sem]
  refine aa hJ (ag hJ ?_)
  simp only[*,go_sem]
  revert h;refine jC hJ (by simp only[*,go_sem]) (fun S h=>?_) fun S h=>?_
  ·obtain rfl:=sI h
   refine aa hJ (ag hJ ?_)
   simp only[*,go_sem]
   obtain rfl:=sI b;clear b
   have h:=e
   dsimp only[aG] at h
   obtain rfl:=sI h
   refine ay ?_
   simp only[*,go_sem]
  obtain rfl:=sI h
  refine aF hJ ?_
  have a4:=cm (n:=i16) (by have:=w;omega)
  refine ag hJ ?_
  simp only[*,go_sem]
  refine ⟨u0.length - (i16+1),by omega,_,Le.sub (List.Sublist.refl _),i16+1,c,rfl,by omega,b,rfl,?_⟩
  simp only[*,go_sem]
 have a5:=Nat.not_lt.2 o
 refine bL hJ (by simp only[*,go_sem]) ?_
 rw[List.drop_eq_nil_of_le o] at a
 obtain rfl:=sI a;clear a
 have h:=e
 dsimp only[aG] at h
 refine bU ?_
 simp only[go_sem]
 refine aa hJ (aa hJ (ag hJ ?_))
 simp only[*,go_sem]
 revert h;refine jC hJ (by simp only[*,go_sem]) (fun T h=>?_) fun T h=>?_
 ·obtain rfl:=sI h
  refine aa hJ (ag hJ ?_)
  simp only[*,go_sem]
  refine ay ?_
  simp only[*,go_sem]
 obtain rfl:=sI h
 refine aF hJ (aa hJ ?_)
 refine ag hJ ?_
 simp only[*,go_sem]
 refine ay ?_
 simp only[*,go_sem]
def iC (u0:(List Int))(a:(List Int)):Option Bool:=
 cond (decide ((a.length:Int)<(u0.length:Int))) (some true) (cond (((a.length:Int)==(u0.length:Int))) (ah (wR a u0) fun b=>some (decide (b<0))) (some false))
theorem GM {ro:Addr->Option Value}(u0:(List Int)){s1:Value}(d:aB rI ro s1 u0)(a:(List Int)){e:Value}(f:aB rI ro e a){r:Bool}(h:iC u0 a=some r):aC Tryz.prog 72 #[s1,e] ⟨ro,[]⟩ (fun v _=>v= .bool r):=by
 obtain ⟨d3,c4,rfl,i,j,-⟩:=id d
 obtain ⟨d10,k,rfl,l,m,-⟩:=id f
 unfold iC at h
 refine aC.go Tryz.func72 rfl Tryz.ntmps72 Tryz.results72 (by simp) fun main J hJ A n hd hs=>?_
 have o:=hs 0
 have k1:=hs 1
 clear hs
 refine aa hJ (ag hJ ?_)
 simp only[*,go_sem]
 refine aa hJ (ag hJ ?_)
 revert h;refine cS (fun b h=>?_) fun b h=>?_
 ·obtain rfl:=sI h
  try simp only[Int.ofNat_lt] at b
  try simp only[*,go_sem]
  refine ay ?_
  simp only[*,go_sem]
 try simp only[Int.ofNat_lt] at b
 revert h;refine cS (fun c h=>?_) fun c h=>?_
 ·try simp only[Int.ofNat_lt] at c
  revert h;refine bS fun p g h=>?_
  obtain rfl:=sI h
  try simp only[*,go_sem]
  refine aM hJ _ (GL a (f.mono aH) u0 (d.mono aH) g) (aD ?_)
  try simp only[*,go_sem]
  refine ay ?_
  simp only[*,go_sem]
 obtain rfl:=sI h
 try simp only[Int.ofNat_lt] at c
 try simp only[*,go_sem]
 refine ay ?_
 simp only[*,go_sem]
def sX (u0:ak)(b:Int):Option (Int×Int):=
 ah (gO u0 ([(fo b)])) fun a=>cond ((a.2 != 0)) (some (0,a.2)) (ah (oe a.1 (fun c=>sE c a.1 b)) fun d=>some (d,0))
theorem Bb {ro:Addr->Option Value}(j:cU ro)(u0:ak){s1 k l m:Value}(i:bI ro u0 s1 k l m)(c:Int){r:(Int×Int)}(h:sX u0 c=some r):aC Tryz.prog 44 #[bv u0 s1 k l m,.int .i64 c] ⟨ro,[]⟩ (fun v _=>v= .tuple #[.int .i64 r.1,.int .i64 r.2]):=by
 unfold sX at h
 have G:=i.oc;simp only[bC] at G
 refine aC.go Tryz.func44 rfl Tryz.ntmps44 Tryz.results44 (by simp) fun main J hJ A ae hd hs=>?_
 have al:=hs 0
 have k1:=hs 1
 clear hs
 refine aa hJ (ag hJ ?_)
 simp only[*,go_sem]
 refine ax fun H I K=>?_;try simp only[au] at K
 refine ax fun u L M=>?_;try simp only[au] at M
 try simp only[*,go_sem]
 refine aa hJ ?_
 refine aL hJ fun N=>?_
 refine ag hJ ?_
 revert h;refine bS fun n O h=>?_
 simp only[*,go_sem]
 refine ax fun f w z=>?_;have B:=aN.cons z N;try simp only[au] at z
 try simp only[*,go_sem]
 obtain ⟨q,C,D⟩:=ga (b:=f) (o:=(.cells #[.func (.func 77) #[.int .i64 c] #[]] 102)) [] ((u,ic c)::(H,bk u0 s1 k l m)::[]) B w (aA.cons L (aA.cons I (aA.nil _)))
 have E:aB (cV) (bO ro f (.cells #[.func (.func 77) #[.int .i64 c] #[]] 102)) (.slice (some ⟨f,0,none⟩) 1 1) [(fo c)]:=(aB.one (r:=(cV)) (e:=102) (cs:=#[.func (.func 77) #[.int .i64 c] #[]]) (x:=(fo c)) (own:=[(f,.cells #[.func (.func 77) #[.int .i64 c] #[]] 102)]) w (by simp[lk]) ⟨77,#[.int .i64 c],#[],rfl,⟨by simp only[go_sem],fun P a g _ _ _ _ _ Q R S T h=>by simp only[go_sem];exact se c g ⟨Q,R,S,T⟩ h⟩⟩)
 generalize bO ro f (.cells #[.func (.func 77) #[.int .i64 c] #[]] 102)=ao at E C q D
 refine g5 hJ D ?_
 replace i:=i.mono q
 replace j:=j.mono q
 simp only[bf] at C
 have U:=aN.tl B
 refine bV hJ _ (jL j u0 i ([(fo c)]) E O) fun v ar a0 V W=>?_
 obtain ⟨a2,a3,a4,a5,a6,rfl,d,s⟩:=W
 have X:=d.oc;simp only[bC] at X
 simp only[bf] at V
 obtain ⟨d41,a7,rfl,a8,a9,-⟩:=id d.e
 obtain ⟨d48,ba,rfl,bb,bc,-⟩:=id d.p
 obtain ⟨d55,bd,rfl,bj,bl,-⟩:=id d.y
 obtain ⟨d62,bm,rfl,bo,br,-⟩:=id d.t
 obtain ⟨d69,bs,rfl,bz,b0,-⟩:=id s
 refine aD ?_
 try simp only[*,go_sem]
 refine ax fun Y b1 F=>?_;have b2:=aN.cons F U;try simp only[au] at F
 try simp only[*,go_sem]
 refine aa hJ (aa hJ (ag hJ ?_))
 simp only[*,go_sem]
 revert h;refine jC hJ (by simp only[*,go_sem]) (fun Z h=>?_) fun Z h=>?_
 ·obtain rfl:=sI h
  refine aa hJ (ag hJ ?_)
  simp only[*,go_sem]
  refine ay ?_
  simp only[*,go_sem]
 refine aF hJ (aa hJ ?_)
 refine ag hJ ?_
 revert h;refine bS fun b3 ab h=>?_
 obtain rfl:=sI h
 simp only[*,go_sem]
 refine aM hJ _ (A2 (dj:=83) (dS:=#[]) (dU:=#[.pointer (some ⟨Y,0,none⟩),.pointer (some ⟨u,0,none⟩)]) n.1 (d.mono aH) (s.mono aH) (fun g=>sE g n.1 c) ⟨by simp only[go_sem],fun P a g b4 ad=>by simp only[go_sem];exact Gs g n.1 (a _ _ (by simp only[af.cn,go_sem, *])) (a _ _ (by simp only[af.cn,go_sem, *])) (a _ _ (by simp only[af.cn,go_sem, *])) (a _ _ (by simp only[af.cn,go_sem, *])) ((d.e.mono aH).mono a) (a _ _ (by simp only[af.cn,go_sem, *])) ((d.p.mono aH).mono a) (a _ _ (by simp only[af.cn,go_sem, *])) ((d.y.mono aH).mono a) (a _ _ (by simp only[af.cn,go_sem, *])) ((d.t.mono aH).mono a) (a _ _ (by simp only[af.cn,go_sem, *])) ((s.mono aH).mono a) (a _ _ (by simp only[af.cn,go_sem, *])) c (a _ _ (by simp only[af.cn,go_sem, *])) ad⟩ ab) (aD ?_)
 try simp only[*,go_sem]
 refine ay ?_
 simp only[*,go_sem]
def jg (u0:ak):Option (Int×Int):=
 ah (gO u0 ([]:(List (ak->Option Int)))) fun a=>cond ((a.2 != 0)) (some (0,a.2)) (ah (oe a.1 (fun b=>jK b a.1)) fun c=>some (c,0))
theorem ou {ro:Addr->Option Value}(l:cU ro)(u0:ak){s1 g i j:Value}(k:bI ro u0 s1 g i j){r:(Int×Int)}(h:jg u0=some r):aC Tryz.prog 23 #[bv u0 s1 g i j] ⟨ro,[]⟩ (fun v _=>v= .tuple #[.int .i64 r.1,.int .i64 r.2]):=by
 unfold jg at h
 have m:=k.oc;simp only[bC] at m
 refine aC.go Tryz.func23 rfl Tryz.ntmps23 Tryz.results23 (by simp) fun main J hJ A D hd hs=>?_
 have E:=hs 0
 clear hs
 refine aa hJ (ag hJ ?_)
 simp only[*,go_sem]
 refine ax fun F G n=>?_;try simp only[au] at n
 try simp only[*,go_sem]
 refine aa hJ (ag hJ ?_)
 revert h;refine bS fun c o h=>?_
 simp only[*,go_sem]
 refine bV hJ _ (jL l u0 k ([]:(List (ak->Option Int))) (aB.nil _ _) o) fun v H I q s=>?_
 obtain ⟨K,L,M,N,O,rfl,b,d⟩:=s
 have u:=b.oc;simp only[bC] at u
 simp only[bf] at q
 obtain ⟨d37,P,rfl,Q,R,-⟩:=id b.e
 obtain ⟨d44,S,rfl,T,U,-⟩:=id b.p
 obtain ⟨d51,V,rfl,W,X,-⟩:=id b.y
 obtain ⟨d58,Y,rfl,Z,ab,-⟩:=id b.t
 obtain ⟨d65,ad,rfl,ae,al,-⟩:=id d
 refine aD ?_
 try simp only[*,go_sem]
 refine ax fun w ao x=>?_;try simp only[au] at x
 try simp only[*,go_sem]
 refine aa hJ (aa hJ (ag hJ ?_))
 simp only[*,go_sem]
 revert h;refine jC hJ (by simp only[*,go_sem]) (fun z h=>?_) fun z h=>?_
 ·obtain rfl:=sI h
  refine aa hJ (ag hJ ?_)
  simp only[*,go_sem]
  refine ay ?_
  simp only[*,go_sem]
 refine aF hJ (aa hJ ?_)
 refine ag hJ ?_
 revert h;refine bS fun ar B h=>?_
 obtain rfl:=sI h
 simp only[*,go_sem]
 refine aM hJ _ (A2 (dj:=68) (dS:=#[]) (dU:=#[.pointer (some ⟨w,0,none⟩)]) c.1 (b.mono aH) (d.mono aH) (fun f=>jK f c.1) ⟨by simp only[go_sem],fun a0 a f a2 C=>by simp only[go_sem];exact Gt f c.1 (a _ _ (by simp only[af.cn,go_sem, *])) (a _ _ (by simp only[af.cn,go_sem, *])) (a _ _ (by simp only[af.cn,go_sem, *])) (a _ _ (by simp only[af.cn,go_sem, *])) ((b.e.mono aH).mono a) (a _ _ (by simp only[af.cn,go_sem, *])) ((b.p.mono aH).mono a) (a _ _ (by simp only[af.cn,go_sem, *])) ((b.y.mono aH).mono a) (a _ _ (by simp only[af.cn,go_sem, *])) ((b.t.mono aH).mono a) (a _ _ (by simp only[af.cn,go_sem, *])) ((d.mono aH).mono a) (a _ _ (by simp only[af.cn,go_sem, *])) C⟩ B) (aD ?_)
 try simp only[*,go_sem]
 refine ay ?_
 simp only[*,go_sem]
def ov (a:(cI×Int))(i74:Nat)(i83:Nat)(b:aS)(st:Int):Option (Fl Int (Int×Int×Int)):=
 ah (aS.get b (i74:Int)) fun c=>ah (iA a.1.book (i74:Int) c) fun d=>ah (gv a.1.book d) fun e=>cond (e) (some (.nx (IntKind.i64.wrap (st+1)))) (some (.nx st))
def ow (b:(cI×Int))(i74:Nat)(c:b6)(st:(Int×Int)):Option (Fl (Int×Int) (Int×Int×Int)):=
 ah (bG (ov b i74) 0 b.1.all 0) fun o=>aG o (fun a=>cond (decide ((if a<IntKind.i64.wrap ((b.1.all.length:Int) - a) then IntKind.i64.wrap ((b.1.all.length:Int) - a) else a)<st.2)) (some (.nx ((i74:Int),(if a<IntKind.i64.wrap ((b.1.all.length:Int) - a) then IntKind.i64.wrap ((b.1.all.length:Int) - a) else a)))) (some (.nx (st.1,st.2)))) (fun _ _=>none) (fun r=>some (.rt r))
def mX (u0:ak):Option (Int×Int×Int):=
 ah (gO u0 ([]:(List (ak->Option Int)))) fun a=>cond ((a.2 != 0)) (some (0,0,a.2)) (ah (bG (ow a) 0 a.1.book.aE ((-1),(a.1.all.length:Int))) fun o=>aG o (fun b=>some (b.1,b.2,0)) (fun _ _=>none) (fun r=>some r))
theorem Bc {ro:Addr->Option Value}(V:cU ro)(u0:ak){s1 g i j:Value}(w:bI ro u0 s1 g i j){r:(Int×Int×Int)}(h:mX u0=some r):aC Tryz.prog 36 #[bv u0 s1 g i j] ⟨ro,[]⟩ (fun v _=>v= .tuple #[.int .i64 r.1,.int .i64 r.2.1,.int .i64 r.2.2]):=by
 unfold mX at h
 have W:=w.oc;simp only[bC] at W
 refine aC.go Tryz.func36 rfl Tryz.ntmps36 Tryz.results36 (by simp) fun main J hJ A X hd hs=>?_
 have Y:=hs 0
 clear hs
 refine aa hJ (ag hJ ?_)
 simp only[*,go_sem]
 refine ax fun z dq Z=>?_;try simp only[au] at Z
 try simp only[*,go_sem]
 refine aa hJ (ag hJ ?_)
 revert h;refine bS fun a ab h=>?_
 simp only[*,go_sem]
 refine bV hJ _ (jL V u0 w ([]:(List (ak->Option Int))) (aB.nil _ _) ab) fun v B ds ad ae=>?_
 obtain ⟨C,D,dt,E,du,rfl,f,G⟩:=ae
 have al:=f.oc;simp only[bC] at al
 simp only[bf] at ad
 obtain ⟨d51,H,rfl,dv,I,-⟩:=id f.y
 obtain ⟨d65,K,rfl,dC,L,-⟩:=id G
 refine aD ?_
 try simp only[*,go_sem]
 refine ax fun M dE ao=>?_;try simp only[au] at ao
 try simp only[*,go_sem]
 refine aa hJ (aa hJ (ag hJ ?_))
 simp only[*,go_sem]
 revert h;refine jC hJ (by simp only[*,go_sem]) (fun ar h=>?_) fun ar h=>?_
 ·obtain rfl:=sI h
  refine aa hJ (ag hJ ?_)
  simp only[*,go_sem]
  refine ay ?_
  simp only[*,go_sem]
 refine aF hJ (aa hJ ?_)
 refine cY hJ mixed 5 2 (by simp only[*,go_sem]) (by kernel_rfl) ?_
 simp only[*,go_sem]
 refine aa hJ (aa hJ (ag hJ ?_))
 simp only[*,go_sem]
 refine aU hJ ?_
 revert h;refine bS fun a0 c a2=>?_
 refine bX hJ [2,3,6,7,9,10,27,28,29,30,31,32,33,34,35,36,37,38,39,40,41,42,43,44,45,46,47,48,49,50,51,52,53,54,55,56,57,58,59,60,61,62] (fun m e F'=>∃(i74:Nat) (k:Int) (l:Int),m=a.1.book.aE.length - i74/\i74<=a.1.book.aE.length/\bG (ow a) i74 (a.1.book.aE.drop i74) (k,l)=some a0/\F'=⟨B,(M,kn a.1 C D (sl d51 a.1.book.aE H) E (sl d65 a.1.all K))::(z,bk u0 s1 g i j)::[]⟩/\slot e 27= .int .i64 (i74:Int)/\slot e 2= .int .i64 k/\slot e 3= .int .i64 l) a.1.book.aE.length ?_ ?_
 ·refine ⟨0,(-1),(a.1.all.length:Int),(Nat.sub_zero _).symm,Nat.zero_le _,c,rfl,?_⟩
  simp only[*,go_sem]
 rintro dT a3 F' N ⟨i74,k,l,rfl,ea,c,rfl,a4,a5,a6⟩
 obtain ⟨O,P,Q⟩:=N.pick [4,5,26] (by decide)
 simp only[*,go_sem] at O P Q
 clear N X hd Y
 refine aa hJ (ag hJ ?_)
 simp only[*,go_sem]
 refine aa hJ ?_
 rcases Nat.lt_or_ge i74 a.1.book.aE.length with a7|R
 ·refine bK hJ (by simp only[*,go_sem]) ?_
  refine aF hJ ?_
  obtain ⟨a8,q⟩:∃x,a.1.book.aE[i74]?=some x:=⟨_,List.getElem?_eq_getElem a7⟩
  rw[c5 q] at c
  revert c;refine bS fun eb h S=>?_
  unfold ow at h
  try dsimp only at h
  obtain ⟨a9,ba,bb,bc,o⟩:=f.y.el _ _ q
  obtain rfl:ba=a8.cells:=bc
  cases bb
  have bd:=o 0 _ rfl;simp only[go_sem] at bd
  have bj:=o 1 _ rfl;simp only[go_sem] at bj
  have bl:=o 2 _ rfl;simp only[go_sem] at bl
  clear o q
  refine aa hJ (aU hJ (aa hJ ?_))
  refine ag hJ ?_
  simp only[*,go_sem]
  refine aa hJ (ag hJ ?_)
  simp only[*,go_sem]
  refine aa hJ (aa hJ (ag hJ ?_))
  simp only[*,go_sem]
  refine aU hJ ?_
  revert h;refine bS fun bm d bo=>?_
  refine bX hJ [7,9,33,34,35,36,37,38,39,40,41,42,43,44,45,46,47,48,49] (fun m e F'=>∃(i83:Nat) (b:Int),m=a.1.all.length - i83/\i83<=a.1.all.length/\bG (ov a i74) i83 (a.1.all.drop i83) b=some bm/\F'=⟨B,(M,kn a.1 C D (sl (some a9) a.1.book.aE H) E (sl d65 a.1.all K))::(z,bk u0 s1 g i j)::[]⟩/\slot e 33= .int .i64 (i83:Int)/\slot e 7= .int .i64 b) a.1.all.length ?_ ?_
  ·refine ⟨0,0,(Nat.sub_zero _).symm,Nat.zero_le _,d,rfl,?_⟩
   simp only[*,go_sem]
  rintro ec br F' s ⟨i83,b,rfl,ed,d,rfl,eh,et⟩
  obtain ⟨bs,bz,b0⟩:=s.pick [2,3,4,5,6,26,27,28,29,30,31,32] (by decide)
  simp only[*,go_sem] at bs bz b0
  have ev:dB [2,3,6,7,9,10,27,28,29,30,31,32,33,34,35,36,37,38,39,40,41,42,43,44,45,46,47,48,49,50,51,52,53,54,55,56,57,58,59,60,61,62] br a3:=(s.jD (by decide)).trans (by simp only[*,go_sem])
  clear s O P Q a5 a6 a4
  refine aa hJ (ag hJ ?_)
  simp only[*,go_sem]
  refine aa hJ ?_
  rcases Nat.lt_or_ge i83 a.1.all.length with b1|T
  ·refine bK hJ (by simp only[*,go_sem]) ?_
   refine aF hJ ?_
   obtain ⟨b2,t⟩:∃x,a.1.all[i83]?=some x:=⟨_,List.getElem?_eq_getElem b1⟩
   rw[c5 t] at d
   revert d;refine bS fun eQ h U=>?_
   unfold ov at h
   try dsimp only at h
   obtain ⟨eS,b3,b4,b5,p⟩:=G.el _ _ t
   obtain rfl:b3=b2.cells:=b5
   cases b4
   have ca:=p 0 _ rfl;simp only[go_sem] at ca
   have cb:=p 1 _ rfl;simp only[go_sem] at cb
   have cd:=p 2 _ rfl;simp only[go_sem] at cd
   clear p t
   refine aa hJ (aU hJ (aa hJ ?_))
   refine ag hJ ?_
   simp only[*,go_sem]
   refine ax fun e0 e1 cf=>?_;try simp only[au] at cf
   try simp only[*,go_sem]
   refine aa hJ ?_
   refine cY hJ mixed 10 3 (by simp only[*,go_sem]) (by kernel_rfl) ?_
   revert h;refine bS fun cl cy h=>?_
   obtain ⟨e2,e3,cS⟩:=aS.get_some cy
   try simp only[go_sem] at cS
   revert h;refine bS fun c0 da h=>?_
   try simp only[*,go_sem]
   refine ⟨_,bE hJ fun F u=>mN a.1.book (f.mono (cc u)) (i74:Int) cl da,b9 ?_⟩
   revert h;refine bS fun fa db h=>?_
   try simp only[*,go_sem]
   refine ⟨_,bE hJ fun F u=>mU a.1.book (f.mono (cc u)) c0 db,?_⟩
   try simp only[*,go_sem]
   revert h;refine jC hJ (by simp only[*,go_sem]) (fun dd h=>?_) fun dd h=>?_
   ·obtain rfl:=sI h
    refine ag hJ ?_
    simp only[*,go_sem]
    have df:=cm (n:=i83) (by have:=L;omega)
    refine ag hJ ?_
    simp only[*,go_sem]
    refine ⟨a.1.all.length - (i83+1),by omega,_,Le.sub (List.Sublist.cons _ (List.Sublist.refl _)),i83+1,(IntKind.i64.wrap (b+1)),rfl,by omega,U,rfl,?_⟩
    simp only[*,go_sem]
   obtain rfl:=sI h
   refine aF hJ ?_
   have df:=cm (n:=i83) (by have:=L;omega)
   refine ag hJ ?_
   simp only[*,go_sem]
   refine ⟨a.1.all.length - (i83+1),by omega,_,Le.sub (List.Sublist.cons _ (List.Sublist.refl _)),i83+1,b,rfl,by omega,U,rfl,?_⟩
   simp only[*,go_sem]
  have fb:=Nat.not_lt.2 T
  refine bL hJ (by simp only[*,go_sem]) ?_
  rw[List.drop_eq_nil_of_le T] at d
  obtain rfl:=sI d;clear d
  have h:=bo
  dsimp only[aG] at h
  refine bU ?_
  simp only[go_sem]
  refine aa hJ (ag hJ ?_)
  simp only[*,go_sem]
  refine aa hJ (ag hJ ?_)
  simp only[*,go_sem]
  revert h;refine jC hJ (by simp only[*,go_sem]) (fun dk h=>?_) fun dk h=>?_
  ·obtain rfl:=sI h
   refine ag hJ ?_
   simp only[*,go_sem]
   have dp:=cm (n:=i74) (by have:=I;omega)
   refine ag hJ ?_
   simp only[*,go_sem]
   refine ⟨a.1.book.aE.length - (i74+1),by omega,_,Le.sub (List.Sublist.refl _),i74+1,(i74:Int),(if b<IntKind.i64.wrap ((a.1.all.length:Int) - b) then IntKind.i64.wrap ((a.1.all.length:Int) - b) else b),rfl,by omega,S,rfl,?_⟩
   simp only[*,go_sem]
  obtain rfl:=sI h
  refine aF hJ ?_
  have dp:=cm (n:=i74) (by have:=I;omega)
  refine ag hJ ?_
  simp only[*,go_sem]
  refine ⟨a.1.book.aE.length - (i74+1),by omega,_,Le.sub (List.Sublist.refl _),i74+1,k,l,rfl,by omega,S,rfl,?_⟩
  simp only[*,go_sem]
 have ff:=Nat.not_lt.2 R
 refine bL hJ (by simp only[*,go_sem]) ?_
 rw[List.drop_eq_nil_of_le R] at c
 obtain rfl:=sI c;clear c
 have h:=a2
 dsimp only[aG] at h
 obtain rfl:=sI h
 refine bU ?_
 simp only[go_sem]
 refine aa hJ (ag hJ ?_)
 simp only[*,go_sem]
 refine ay ?_
 simp only[*,go_sem]
def oz (u0:ak):Option Int:=
 cond (((u0.props.length:Int)==3)) (some 2) (some 0)
theorem GN {ro:Addr->Option Value}(u0:ak){s1 b c d:Value}(a:bI ro u0 s1 b c d){r:Int}(h:oz u0=some r):aC Tryz.prog 90 #[bv u0 s1 b c d] ⟨ro,[]⟩ (fun v _=>v= .int .i64 r):=by
 obtain ⟨d3,c4,rfl,i,j,-⟩:=id a.e
 obtain ⟨d10,k,rfl,l,m,-⟩:=id a.p
 obtain ⟨d17,n,rfl,o,q,-⟩:=id a.y
 obtain ⟨d24,s,rfl,u,w,-⟩:=id a.t
 unfold oz at h
 refine aC.go Tryz.func90 rfl Tryz.ntmps90 Tryz.results90 (by simp) fun main J hJ A x hd hs=>?_
 have z:=hs 0
 clear hs
 refine aa hJ (ag hJ ?_)
 simp only[*,go_sem]
 refine ax fun B C f=>?_;try simp only[au] at f
 try simp only[*,go_sem]
 refine aa hJ (aa hJ (ag hJ ?_))
 simp only[*,go_sem]
 revert h;refine jC hJ (by simp only[*,go_sem]) (fun g h=>?_) fun g h=>?_
 ·obtain rfl:=sI h
  refine aa hJ (ag hJ ?_)
  simp only[*,go_sem]
  refine ay ?_
  simp only[*,go_sem]
 obtain rfl:=sI h
 refine aF hJ (aa hJ ?_)
 refine ag hJ ?_
 simp only[*,go_sem]
 refine ay ?_
 simp only[*,go_sem]
def sY (u0:ak)(c:bB):Option (ak×Int):=
 ah (dM u0) fun a=>cond ((a != 0)) (some ((⟨0,0,(⟨0,0⟩:av),([]:(List bH)),([]:(List cg)),([]:(List b6)),([]:(List bB))⟩:ak),a)) (ah (sH u0.told) fun d=>ah (cB d ([c])) fun e=>ah (sW (⟨u0.aZ,u0.bD,u0.aR,u0.aj,u0.props,u0.aE,e⟩:ak)) fun b=>some (b.1,b.2))
theorem sZ {ro:Addr->Option Value}(k:cU ro)(u0:ak){s1 c d f:Value}(b:bI ro u0 s1 c d f)(a:bB){r:(ak×Int)}(h:sY u0 a=some r):en Tryz.prog 49 #[bv u0 s1 c d f,.agg #[.int .i64 a.aQ,.bool a.bh]] ro (fun v aK=>∃L w1 w2 w3,v= .tuple #[bv r.1 L w1 w2 w3,.int .i64 r.2]/\bI aK r.1 L w1 w2 w3):=by
 unfold sY at h
 refine aC.go Tryz.func49 rfl Tryz.ntmps49 Tryz.results49 (by simp) fun main J hJ A ca hd hs=>?_
 have cb:=hs 0
 have k1:=hs 1
 clear hs
 refine aa hJ (ag hJ ?_)
 simp only[*,go_sem]
 refine ax fun g u ab=>?_;try simp only[au] at ab
 refine ax fun i w ad=>?_;try simp only[au] at ad
 refine ax fun j z ae=>?_;try simp only[au] at ae
 try simp only[*,go_sem]
 refine aa hJ (aa hJ (ag hJ ?_))
 revert h;refine bS fun cd al h=>?_
 simp only[*,go_sem]
 refine aM hJ _ (AZ (k.mono aH) u0 (b.e.mono aH) (b.p.mono aH) (b.y.mono aH) (b.t.mono aH) al) (aD ?_)
 try simp only[*,go_sem]
 refine aa hJ (ag hJ ?_)
 simp only[*,go_sem]
 revert h;refine jC hJ (by simp only[*,go_sem]) (fun ao h=>?_) fun ao h=>?_
 ·obtain rfl:=sI h
  refine aa hJ (ag hJ ?_)
  simp only[*,go_sem]
  refine ay ?_
  simp only[*,go_sem]
  exact ⟨_,Ext.refl _,Le.sub (List.nil_sublist _),_,_,_,_,rfl,⟨aB.nil _ _,aB.nil _ _,aB.nil _ _,aB.nil _ _⟩⟩
 refine aF hJ (aa hJ ?_)
 refine aL hJ fun ar=>?_
 refine fN hJ mixed [7] (.pure 0 (.rd 1 (.rd 3 (.two 2 (.one 4 (.one 5 (.pure 6 (.last 7 .done)))) 4 (.one 2 (.one 5 (.pure 6 (.last 7 .done)))))))) ⟨ro,[(j,bz 29),(i,.cells #[.int .i64 a.aQ,.bool a.bh] 91),(g,bk u0 s1 c d f)]⟩ (by simp only[*,go_sem]) (by kernel_rfl) ?_
 simp only[*,go_sem]
 refine kz ?_ ?_
 ·revert h;refine bS fun a0 a2 h=>?_
  simp only[*,go_sem]
  refine gK hJ (aP:=[]) [(j,bz 29),(i,.cells #[.int .i64 a.aQ,.bool a.bh] 91),(g,bk u0 s1 c d f)] [] _ (wu u0.told b.t a2) (fun cf a3 M m n a4=>?_)
  simp only[List.append_nil,List.cons_append,List.nil_append,List.append_assoc] at n
  subst m
  obtain ⟨d174,cl,rfl,cy⟩:=M.len
  refine ⟨⟨ro,(j,bz 29)::(i,.cells #[.int .i64 a.aQ,.bool a.bh] 91)::(g,bk u0 s1 c d f)::a3⟩,Le.refl _,?_⟩
  refine ⟨by simp only[*,go_sem],bN ?_⟩
  revert h;refine bS fun N a5 h=>?_
  obtain ⟨a6,O⟩:=cT a5
  try simp only[*,go_sem]
  refine ax fun D P Q=>?_;have a7:=aN.cons Q a4;try simp only[au] at Q
  try simp only[*,go_sem]
  refine dG (r:=cX) (l:=a0) (x:=a) (cs:=#[.int .i64 a.aQ,.bool a.bh]) (e2:=91) [(D,.cells #[.int .i64 a.aQ,.bool a.bh] 91),(j,bz 29),(i,.cells #[.int .i64 a.aQ,.bool a.bh] 91),(g,bk u0 s1 c d f)] [] M a7 a6 rfl (by simp only[*,go_sem]) P rfl rfl dQ dQ g6 g8 rfl g7 (by decide) (by decide) (fun cS a8 E m n c0=>?_)
  simp only[List.append_nil,List.cons_append,List.nil_append,List.append_assoc] at n
  subst m
  rw[<-O] at E;clear O
  obtain ⟨d186,a9,rfl,da⟩:=E.len
  refine ⟨⟨ro,(D,.cells #[.int .i64 a.aQ,.bool a.bh] 91)::(j,bz 29)::(i,.cells #[.int .i64 a.aQ,.bool a.bh] 91)::(g,bk u0 s1 c d f)::a8⟩,Le.refl _,?_⟩
  refine ⟨by simp only[*,go_sem],bN ?_⟩
  try simp only[*,go_sem]
  refine aa hJ ?_
  refine aL hJ fun R=>?_
  obtain ⟨db,F,B,S,ba⟩:=E.eB [(D,.cells #[.int .i64 a.aQ,.bool a.bh] 91),(j,bz 29),(i,.cells #[.int .i64 a.aQ,.bool a.bh] 91),(g,bk u0 s1 c d (sl d186 N a9))] [] R (aA.cons P (aA.cons z (aA.cons w (aA.cons u (aA.nil _)))))
  clear R
  refine cH hJ ba ?_
  obtain ⟨dd,df,-⟩:=S.op
  replace b:=b.mono F
  replace z:=B.tl.hd
  replace w:=B.tl.tl.hd
  replace u:=B.tl.tl.tl.hd
  replace k:=k.mono F
  simp only[bf] at B
  refine ag hJ ?_
  revert h;refine bS fun dk bb h=>?_
  obtain rfl:=sI h
  simp only[*,go_sem]
  refine bV hJ _ (wO k (⟨u0.aZ,u0.bD,u0.aR,u0.aj,u0.props,u0.aE,N⟩:ak) ⟨b.e,b.p,b.y,S⟩ bb) fun v dp G C H=>?_
  obtain ⟨dq,ds,dt,du,rfl,o⟩:=H
  replace b:=b.mono G
  replace z:=C.tl.hd
  replace w:=C.tl.tl.hd
  replace u:=C.tl.tl.tl.hd
  replace k:=k.mono G
  simp only[bf] at C
  obtain ⟨d208,dv,rfl,dC,dE,-⟩:=id o.e
  obtain ⟨dT,ea,rfl,eb,ec,-⟩:=id o.p
  obtain ⟨ed,eh,rfl,et,ev,-⟩:=id o.y
  obtain ⟨eQ,eS,rfl,e0,e1,-⟩:=id o.t
  refine aD ?_
  try simp only[*,go_sem]
  refine ay ?_
  simp only[*,go_sem]
  exact ⟨_,(F).trans G,Le.sub (List.nil_sublist _),_,_,_,_,rfl,o⟩
 revert h;refine bS fun bc bd h=>?_
 simp only[*,go_sem]
 refine ax fun q T U=>?_;have e3:=aN.cons U ar;try simp only[au] at U
 try simp only[*,go_sem]
 refine gK hJ (aP:=[]) [(q,.cells #[.int .i64 a.aQ,.bool a.bh] 91),(j,bz 29),(i,.cells #[.int .i64 a.aQ,.bool a.bh] 91),(g,bk u0 s1 c d f)] [] _ (wu u0.told b.t bd) (fun fa bj V m n bl=>?_)
 simp only[List.append_nil,List.cons_append,List.nil_append,List.append_assoc] at n
 subst m
 obtain ⟨fb,ff,rfl,fg⟩:=V.len
 refine ⟨⟨ro,(q,.cells #[.int .i64 a.aQ,.bool a.bh] 91)::(j,bz 29)::(i,.cells #[.int .i64 a.aQ,.bool a.bh] 91)::(g,bk u0 s1 c d f)::bj⟩,Le.refl _,?_⟩
 refine ⟨by simp only[*,go_sem],bN ?_⟩
 revert h;refine bS fun W bm h=>?_
 obtain ⟨bo,X⟩:=cT bm
 try simp only[*,go_sem]
 refine dG (r:=cX) (l:=bc) (x:=a) (cs:=#[.int .i64 a.aQ,.bool a.bh]) (e2:=91) [(q,.cells #[.int .i64 a.aQ,.bool a.bh] 91),(j,bz 29),(i,.cells #[.int .i64 a.aQ,.bool a.bh] 91),(g,bk u0 s1 c d f)] [] V bl bo rfl (by simp only[*,go_sem]) T rfl rfl dQ dQ g6 g8 rfl g7 (by decide) (by decide) (fun fi br I m n fl=>?_)
 simp only[List.append_nil,List.cons_append,List.nil_append,List.append_assoc] at n
 subst m
 rw[<-X] at I;clear X
 obtain ⟨bs,b0,rfl,fp⟩:=I.len
 refine ⟨⟨ro,(q,.cells #[.int .i64 a.aQ,.bool a.bh] 91)::(j,bz 29)::(i,.cells #[.int .i64 a.aQ,.bool a.bh] 91)::(g,bk u0 s1 c d f)::br⟩,Le.refl _,?_⟩
 refine ⟨by simp only[*,go_sem],bN ?_⟩
 try simp only[*,go_sem]
 refine aa hJ ?_
 refine aL hJ fun Y=>?_
 obtain ⟨fq,K,b1,Z,b2⟩:=I.eB [(q,.cells #[.int .i64 a.aQ,.bool a.bh] 91),(j,bz 29),(i,.cells #[.int .i64 a.aQ,.bool a.bh] 91),(g,bk u0 s1 c d (sl bs W b0))] [] Y (aA.cons T (aA.cons z (aA.cons w (aA.cons u (aA.nil _)))))
 clear Y
 refine cH hJ b2 ?_
 obtain ⟨fr,fs,-⟩:=Z.op
 replace b:=b.mono K
 replace k:=k.mono K
 simp only[bf] at b1
 refine ag hJ ?_
 revert h;refine bS fun ft b3 h=>?_
 obtain rfl:=sI h
 simp only[*,go_sem]
 refine bV hJ _ (wO k (⟨u0.aZ,u0.bD,u0.aR,u0.aj,u0.props,u0.aE,W⟩:ak) ⟨b.e,b.p,b.y,Z⟩ b3) fun v fu b4 b5 H=>?_
 obtain ⟨fv,fw,fx,fP,rfl,s⟩:=H
 simp only[bf] at b5
 obtain ⟨fQ,fS,rfl,fU,gg,-⟩:=id s.e
 obtain ⟨gl,gn,rfl,gp,gB,-⟩:=id s.p
 obtain ⟨gC,gM,rfl,gT,gV,-⟩:=id s.y
 obtain ⟨g0,g1,rfl,g2,g3,-⟩:=id s.t
 refine aD ?_
 try simp only[*,go_sem]
 refine ay ?_
 simp only[*,go_sem]
 exact ⟨_,(K).trans b4,Le.sub (List.nil_sublist _),_,_,_,_,rfl,s⟩
def wS (u0:ak)(c:Int)(a:c6):Option (ak×Int):=
 ah (eT u0 ([(fo c)])) fun e=>cond ((e.2 != 0)) (some ((⟨0,0,(⟨0,0⟩:av),([]:(List bH)),([]:(List cg)),([]:(List b6)),([]:(List bB))⟩:ak),e.2)) (ah (qb a 0 60) fun g=>cond (!g) (some ((⟨0,0,(⟨0,0⟩:av),([]:(List bH)),([]:(List cg)),([]:(List b6)),([]:(List bB))⟩:ak),1)) (ah (sJ u0.aE) fun d=>ah (bw d c) fun b=>cond (decide ((if a.high<b.high.high then a.high else b.high.high)<(if b.high.low<a.low then a.low else b.high.low))) (some ((⟨0,0,(⟨0,0⟩:av),([]:(List bH)),([]:(List cg)),([]:(List b6)),([]:(List bB))⟩:ak),9)) (ah (bw d c) fun h=>ah (sW (⟨u0.aZ,u0.bD,u0.aR,u0.aj,u0.props,(d.set (c).toNat (⟨h.back,(⟨(if b.high.low<a.low then a.low else b.high.low),(if a.high<b.high.high then a.high else b.high.high)⟩:c6)⟩:b6)),u0.told⟩:ak)) fun f=>some (f.1,f.2))))
theorem Bd {ro:Addr->Option Value}(g:cU ro)(u0:ak){s1 k q l:Value}(f:bI ro u0 s1 k q l)(d:Int)(a:c6){r:(ak×Int)}(h:wS u0 d a=some r):en Tryz.prog 51 #[bv u0 s1 k q l,.int .i64 d,.agg #[.int .i64 a.low,.int .i64 a.high]] ro (fun v aK=>∃U w1 w2 w3,v= .tuple #[bv r.1 U w1 w2 w3,.int .i64 r.2]/\bI aK r.1 U w1 w2 w3):=by
 unfold wS at h
 have ba:=f.oc;simp only[bC] at ba
 refine aC.go Tryz.func51 rfl Tryz.ntmps51 Tryz.results51 (by simp) fun main J hJ A bb hd hs=>?_
 have bc:=hs 0
 have k1:=hs 1
 have bd:=hs 2
 clear hs
 refine aa hJ (ag hJ ?_)
 simp only[*,go_sem]
 refine ax fun w z bj=>?_;try simp only[au] at bj
 refine ax fun B C bm=>?_;try simp only[au] at bm
 refine ax fun D E bo=>?_;try simp only[au] at bo
 try simp only[*,go_sem]
 refine aa hJ (aa hJ ?_)
 refine aL hJ fun br=>?_
 refine ag hJ ?_
 revert h;refine bS fun K bs h=>?_
 simp only[*,go_sem]
 refine ax fun s V W=>?_;have X:=aN.cons W br;try simp only[au] at W
 try simp only[*,go_sem]
 obtain ⟨j,u,Y⟩:=ga (b:=s) (o:=(.cells #[.func (.func 77) #[.int .i64 d] #[]] 102)) [] ((D,bz 29)::(B,.cells #[.int .i64 a.low,.int .i64 a.high] 95)::(w,bk u0 s1 k q l)::[]) X V (aA.cons E (aA.cons C (aA.cons z (aA.nil _))))
 have Z:aB (cV) (bO ro s (.cells #[.func (.func 77) #[.int .i64 d] #[]] 102)) (.slice (some ⟨s,0,none⟩) 1 1) [(fo d)]:=(aB.one (r:=(cV)) (e:=102) (cs:=#[.func (.func 77) #[.int .i64 d] #[]]) (x:=(fo d)) (own:=[(s,.cells #[.func (.func 77) #[.int .i64 d] #[]] 102)]) V (by simp[lk]) ⟨77,#[.int .i64 d],#[],rfl,⟨by simp only[go_sem],fun fb ff b0 _ _ _ _ _ b1 b2 b3 b4 h=>by simp only[go_sem];exact se d b0 ⟨b1,b2,b3,b4⟩ h⟩⟩)
 generalize bO ro s (.cells #[.func (.func 77) #[.int .i64 d] #[]] 102)=fg at Z u j Y
 refine g5 hJ Y ?_
 replace f:=f.mono j
 replace E:=u.hd
 replace C:=u.tl.hd
 replace z:=u.tl.tl.hd
 replace g:=g.mono j
 simp only[bf] at u
 have b5:=aN.tl X
 refine bV hJ _ (kH g u0 f ([(fo d)]) Z bs) fun v ab m F L=>?_
 obtain ⟨M,N,O,P,rfl,ca⟩:=L
 have cb:=ca.oc;simp only[bC] at cb
 replace f:=f.mono m
 replace E:=F.hd
 replace C:=F.tl.hd
 replace z:=F.tl.tl.hd
 replace g:=g.mono m
 simp only[bf] at F
 refine aD ?_
 try simp only[*,go_sem]
 refine ax fun Q cd ad=>?_;have fi:=aN.cons ad b5;try simp only[au] at ad
 try simp only[*,go_sem]
 refine aa hJ (ag hJ ?_)
 simp only[*,go_sem]
 revert h;refine jC hJ (by simp only[*,go_sem]) (fun cf h=>?_) fun cf h=>?_
 ·obtain rfl:=sI h
  refine aa hJ (ag hJ ?_)
  simp only[*,go_sem]
  refine ay ?_
  simp only[*,go_sem]
  exact ⟨_,(j).trans m,Le.sub (List.nil_sublist _),_,_,_,_,rfl,⟨aB.nil _ _,aB.nil _ _,aB.nil _ _,aB.nil _ _⟩⟩
 refine aF hJ (aa hJ ?_)
 refine aa hJ (ag hJ ?_)
 revert h;refine bS fun fl cl h=>?_
 simp only[*,go_sem]
 refine aM hJ _ (AW a 0 60 cl) (aD ?_)
 try simp only[*,go_sem]
 revert h;refine jC hJ (by simp only[*,go_sem]) (fun cy h=>?_) fun cy h=>?_
 ·obtain rfl:=sI h
  refine aa hJ (ag hJ ?_)
  simp only[*,go_sem]
  refine ay ?_
  simp only[*,go_sem]
  exact ⟨_,(j).trans m,Le.sub (List.nil_sublist _),_,_,_,_,rfl,⟨aB.nil _ _,aB.nil _ _,aB.nil _ _,aB.nil _ _⟩⟩
 refine aF hJ (aa hJ ?_)
 refine aL hJ fun fp=>?_
 refine ag hJ ?_
 revert h;refine bS fun G cS h=>?_
 simp only[*,go_sem]
 refine gK hJ (aP:=[]) [(Q,bl K.1 M N O P),(D,bz 29),(B,.cells #[.int .i64 a.low,.int .i64 a.high] 95),(w,bk u0 s1 k q l)] [] _ (A3 u0.aE f.y cS) (fun fq c0 H da db fr=>?_)
 simp only[List.append_nil,List.cons_append,List.nil_append,List.append_assoc] at db
 subst da
 obtain ⟨d87,ae,rfl,fs⟩:=H.len
 refine ⟨⟨ab,(Q,bl K.1 M N O P)::(D,bz 29)::(B,.cells #[.int .i64 a.low,.int .i64 a.high] 95)::(w,bk u0 s1 k q l)::c0⟩,Le.refl _,?_⟩
 refine aD ?_
 try simp only[*,go_sem]
 refine aa hJ ?_
 refine aL hJ fun al=>?_
 refine ag hJ ?_
 revert h;refine bS fun c dd h=>?_
 obtain ⟨ft,fu,df⟩:=cw dd
 obtain ⟨R,dk,dp,rfl,rfl,fv,dq,S⟩:=H.AG df
 obtain rfl:dp=c.cells:=dq
 have ds:=al.nd
 simp only[keys,List.map_cons,List.map_nil,List.map_append,List.cons_append,List.nil_append,List.nodup_cons,List.mem_cons,List.mem_append,List.not_mem_nil,or_false,not_or] at ds
 have ao:=S 0 _ rfl;simp only[go_sem] at ao;have fw:=(Array.getElem?_eq_some_iff.1 ao).1
 have ar:=S 1 _ rfl;simp only[go_sem] at ar;have fx:=(Array.getElem?_eq_some_iff.1 ar).1
 have a0:=S 2 _ rfl;simp only[go_sem] at a0;have fP:=(Array.getElem?_eq_some_iff.1 a0).1
 try simp only[*,go_sem]
 refine ax fun dt du a2=>?_;have fQ:=aN.cons a2 al;try simp only[au] at a2
 try simp only[*,go_sem]
 refine aa hJ ?_
 refine eC [1,3,5,6,7,10] fun fS dv dC dE=>?_
 simp only[*,go_sem] at dv dC dE
 clear bb hd bc k1 bd
 refine aL hJ fun dT=>?_
 refine ag hJ ?_
 simp only[*,go_sem]
 refine ax fun ea eb a3=>?_;have fU:=aN.cons a3 dT;try simp only[au] at a3
 try simp only[*,go_sem]
 refine aa hJ (aa hJ ?_)
 refine aL hJ fun gg=>?_
 refine ag hJ ?_
 simp only[*,go_sem]
 revert h;refine jC hJ (by simp only[*,go_sem]) (fun ec h=>?_) fun ec h=>?_
 ·obtain rfl:=sI h
  refine aa hJ ?_
  refine aL hJ fun gl=>?_
  refine ag hJ ?_
  simp only[*,go_sem]
  refine ay ?_
  simp only[*,go_sem]
  exact ⟨_,(j).trans m,Le.sub (List.nil_sublist _),_,_,_,_,rfl,⟨aB.nil _ _,aB.nil _ _,aB.nil _ _,aB.nil _ _⟩⟩
 refine aF hJ (aa hJ ?_)
 refine aL hJ fun gn=>?_
 refine ag hJ ?_
 revert h;refine bS fun i ed h=>?_
 obtain ⟨gp,gB,a4⟩:=cw ed
 obtain ⟨eh,et,I⟩:=H.lC a4
 obtain rfl:eh=i.cells:=et
 have a5:=I 0 _ rfl;simp only[go_sem] at a5;have gC:=(Array.getElem?_eq_some_iff.1 a5).1
 have a6:=I 1 _ rfl;simp only[go_sem] at a6;have gM:=(Array.getElem?_eq_some_iff.1 a6).1
 have a7:=I 2 _ rfl;simp only[go_sem] at a7;have gT:=(Array.getElem?_eq_some_iff.1 a7).1
 have ev:aW eY ab 130 (.slice (some ⟨R,0,none⟩) G.length ae) (G.set (d).toNat (⟨i.back,(⟨(if c.high.low<a.low then a.low else c.high.low),(if a.high<c.high.high then a.high else c.high.high)⟩:c6)⟩:b6)) [(R,Obj.cells (dP dk ((d).toNat*3+1) [.int .i64 (if c.high.low<a.low then a.low else c.high.low),.int .i64 (if a.high<c.high.high then a.high else c.high.high)]) 130)]:=by have eQ:=H.part (y:=(⟨i.back,(⟨(if c.high.low<a.low then a.low else c.high.low),(if a.high<c.high.high then a.high else c.high.high)⟩:c6)⟩:b6)) a4 1 [.int .i64 (if c.high.low<a.low then a.low else c.high.low),.int .i64 (if a.high<c.high.high then a.high else c.high.high)] [.int .i64 i.back,.int .i64 i.high.low,.int .i64 i.high.high] [.int .i64 i.back,.int .i64 (if c.high.low<a.low then a.low else c.high.low),.int .i64 (if a.high<c.high.high then a.high else c.high.high)] I rfl rfl (by simp) rfl;exact eQ
 try simp only[*,go_sem]
 refine aa hJ ?_
 refine aL hJ fun a8=>?_
 obtain ⟨gV,T,eS,a9,e0⟩:=ev.eB [(ea,.cells #[.int .i64 (if c.high.low<a.low then a.low else c.high.low),.int .i64 (if a.high<c.high.high then a.high else c.high.high)] 95),(dt,.cells #[.int .i64 c.high.low,.int .i64 c.high.high] 95),(Q,bl K.1 M N O P),(D,bz 29),(B,.cells #[.int .i64 a.low,.int .i64 a.high] 95),(w,bk u0 s1 k (sl (some ⟨R,0,none⟩) G ae) l)] [] a8 (aA.cons eb (aA.cons du (aA.cons cd (aA.cons E (aA.cons C (aA.cons z (aA.nil _)))))))
 clear a8
 refine cH hJ e0 ?_
 obtain ⟨g0,g1,-⟩:=a9.op
 replace f:=f.mono T
 replace g:=g.mono T
 simp only[bf] at eS
 refine ag hJ ?_
 revert h;refine bS fun g2 e1 h=>?_
 obtain rfl:=sI h
 simp only[*,go_sem]
 refine bV hJ _ (wO g (⟨u0.aZ,u0.bD,u0.aR,u0.aj,u0.props,(G.set (d).toNat (⟨i.back,(⟨(if c.high.low<a.low then a.low else c.high.low),(if a.high<c.high.high then a.high else c.high.high)⟩:c6)⟩:b6)),u0.told⟩:ak) ⟨f.e,f.p,a9,f.t⟩ e1) fun v g3 e2 e3 L=>?_
 obtain ⟨g4,ha,hc,hf,rfl,n⟩:=L
 have fa:=n.oc;simp only[bC] at fa
 simp only[bf] at e3
 obtain ⟨d130,hg,rfl,hh,hi,-⟩:=id n.e
 obtain ⟨d137,hj,rfl,hk,hl,-⟩:=id n.p
 obtain ⟨d144,hn,rfl,ho,hp,-⟩:=id n.y
 obtain ⟨d151,hq,rfl,hr,ht,-⟩:=id n.t
 refine aD ?_
 try simp only[*,go_sem]
 refine ay ?_
 simp only[*,go_sem]
 exact ⟨_,(((j).trans m).trans T).trans e2,Le.sub (List.nil_sublist _),_,_,_,_,rfl,n⟩
def Be (i43:Nat)(a:(List Int))(st:(List Int)):Option (Fl (List Int) (List Int)):=
 ah (cB st a) fun b=>some (.nx b)
def wT (i9:Nat)(a:(List Int))(st:Int):Option (Fl Int (List Int)):=
 cond (decide ((IntKind.i64.wrap (st+(a.length:Int)))<0)) (none) (some (.nx (IntKind.i64.wrap (st+(a.length:Int)))))
def GO (i109:Nat)(a:(List Int))(st:(List Int)):Option (Fl (List Int) (List Int)):=
 ah (cB st a) fun b=>some (.nx b)
def wU (u0:(List (List Int))):Option (List Int):=
 ah (bG (wT) 0 u0 0) fun o=>aG o (fun a=>ah (wN a) fun b=>ah (bG (GO) 0 u0 b) fun o=>aG o (fun c=>some c) (fun _ _=>none) (fun r=>some r)) (fun _ _=>none) (fun r=>some r)
theorem GP {ro:Addr->Option Value}(u0:(List (List Int))){s1:Value}(g:aB (rL rI) ro s1 u0){r:(List Int)}(h:wU u0=some r):en Tryz.prog 91 #[s1] ro (fun v aK=>∃s,v=s/\aB rI aK s r):=by
 obtain ⟨d3,c4,rfl,bz,t,-⟩:=id g
 unfold wU at h
 refine aC.go Tryz.func91 rfl Tryz.ntmps91 Tryz.results91 (by simp) fun main J hJ A P hd hs=>?_
 have Q:=hs 0
 clear hs
 refine aa hJ (ag hJ ?_)
 simp only[*,go_sem]
 refine aa hJ (ag hJ ?_)
 simp only[*,go_sem]
 refine aa hJ (aa hJ (ag hJ ?_))
 simp only[*,go_sem]
 refine aU hJ ?_
 revert h;refine bS fun R a S=>?_
 refine bX hJ [3,5,11,12,13,14,15,16,17,18,19,20,21,22] (fun m d F'=>∃(i9:Nat) (e:Int),m=u0.length - i9/\i9<=u0.length/\bG (wT) i9 (u0.drop i9) e=some R/\F'=⟨ro,[]⟩/\slot d 11= .int .i64 (i9:Int)/\slot d 3= .int .i64 e) u0.length ?_ ?_
 ·refine ⟨0,0,(Nat.sub_zero _).symm,Nat.zero_le _,a,rfl,?_⟩
  simp only[*,go_sem]
 rintro b0 b1 F' u ⟨i9,e,rfl,b2,a,rfl,T,U⟩
 obtain ⟨w,y,z⟩:=u.pick [0,2,9,10] (by decide)
 simp only[*,go_sem] at w y z
 clear u P hd Q
 refine aa hJ (ag hJ ?_)
 simp only[*,go_sem]
 refine aa hJ ?_
 rcases Nat.lt_or_ge i9 u0.length with V|B
 ·refine bK hJ (by simp only[*,go_sem]) ?_
  refine aF hJ ?_
  obtain ⟨W,i⟩:∃x,u0[i9]?=some x:=⟨_,List.getElem?_eq_getElem V⟩
  rw[c5 i] at a
  revert a;refine bS fun b3 h X=>?_
  unfold wT at h
  try dsimp only at h
  obtain ⟨b4,b5,Y,Z,C⟩:=g.el _ _ i
  obtain ⟨ca,rfl,ab⟩:=Z;obtain ⟨d18,cb,rfl,cd,cf,cl⟩:=id ab
  cases Y
  have ad:=C 0 _ rfl;simp only[go_sem] at ad
  clear C i
  refine aa hJ (aU hJ (aa hJ ?_))
  refine ag hJ ?_
  simp only[*,go_sem]
  refine aa hJ (ag hJ ?_)
  simp only[*,go_sem]
  refine aa hJ (ag hJ ?_)
  simp only[*,go_sem]
  revert h;refine jC hJ (by simp only[*,go_sem]) (fun ae h=>?_) fun ae h=>?_
  ·refine ag hJ ?_
   cases h
  obtain rfl:=sI h
  refine aF hJ ?_
  have cy:=cm (n:=i9) (by have:=t;omega)
  refine ag hJ ?_
  simp only[*,go_sem]
  refine ⟨u0.length - (i9+1),by omega,_,Le.sub (List.Sublist.refl _),i9+1,(IntKind.i64.wrap (e+(W.length:Int))),rfl,by omega,X,rfl,?_⟩
  simp only[*,go_sem]
 have cS:=Nat.not_lt.2 B
 refine bL hJ (by simp only[*,go_sem]) ?_
 rw[List.drop_eq_nil_of_le B] at a
 obtain rfl:=sI a;clear a
 have h:=S
 dsimp only[aG] at h
 refine bU ?_
 simp only[go_sem]
 refine aa hJ ?_
 refine aL hJ fun c0=>?_
 refine ag hJ ?_
 revert h;refine bS fun al ao h=>?_
 simp only[*,go_sem]
 refine gK hJ (aP:=[]) [] [] _ (GJ e ao) (fun da D E j k db=>?_)
 simp only[List.append_nil,List.cons_append,List.nil_append,List.append_assoc] at k
 subst j
 obtain ⟨d32,ar,rfl,a0⟩:=E.len
 refine ⟨⟨ro,D⟩,Le.refl _,?_⟩
 refine aD ?_
 try simp only[*,go_sem]
 refine aa hJ (aa hJ ?_)
 refine aL hJ fun dd=>?_
 refine ag hJ ?_
 simp only[*,go_sem]
 refine aU hJ ?_
 revert h;refine bS fun a2 b a3=>?_
 refine bX hJ [6,8,27,28,29,30,31,32,33,34] (fun m d F'=>∃(i43:Nat) (d38:Option Addr) (f:Nat) (o:List (Nat×Obj)) (c:(List Int)),m=u0.length - i43/\i43<=u0.length/\bG (Be) i43 (u0.drop i43) c=some a2/\F'=⟨ro,o⟩/\aW rI ro 3 (.slice d38 c.length f) c o/\c.length<=f/\slot d 27= .int .i64 (i43:Int)/\slot d 6= .slice d38 c.length f) u0.length ?_ ?_
 ·refine ⟨0,d32,ar,D,al,(Nat.sub_zero _).symm,Nat.zero_le _,b,rfl,E,a0,?_⟩
  simp only[*,go_sem]
 rintro df dk F' F ⟨i43,d38,f,o,c,rfl,dp,b,rfl,G,dq,ds,dt⟩
 obtain ⟨a4,a5,a6⟩:=F.pick [2,25,26] (by decide)
 simp only[*,go_sem] at a4 a5 a6
 clear F w y z U T
 refine aa hJ (ag hJ ?_)
 simp only[*,go_sem]
 refine aa hJ ?_
 rcases Nat.lt_or_ge i43 u0.length with a7|H
 ·refine bK hJ (by simp only[*,go_sem]) ?_
  refine aF hJ ?_
  obtain ⟨a8,p⟩:∃x,u0[i43]?=some x:=⟨_,List.getElem?_eq_getElem a7⟩
  rw[c5 p] at b
  revert b;refine bS fun du h a9=>?_
  unfold Be at h
  try dsimp only at h
  obtain ⟨dv,dC,ba,bb,I⟩:=g.el _ _ p
  obtain ⟨dE,rfl,K⟩:=bb;obtain ⟨d52,dT,rfl,ea,eb,ec⟩:=id K
  cases ba
  have bc:=I 0 _ rfl;simp only[go_sem] at bc
  clear I p
  refine aa hJ (aU hJ (aa hJ ?_))
  refine aL hJ fun ed=>?_
  refine ag hJ ?_
  simp only[*,go_sem]
  refine aL hJ fun bd=>?_
  refine ag hJ ?_
  revert h;refine bS fun bj bk h=>?_
  obtain rfl:=sI h
  obtain ⟨bl,L⟩:=cT bk
  simp only[*,go_sem]
  refine kB (r:=rI) (l:=c) (xs:=a8) [] [] G bd bl K rfl rfl eK eK iZ jb rfl ja (by decide) (by decide) (fun eh M q j k et=>?_)
  simp only[List.append_nil,List.cons_append,List.nil_append,List.append_assoc] at k
  subst j
  rw[<-L] at q;clear L
  obtain ⟨d66,bm,rfl,bo⟩:=q.len
  refine ⟨⟨ro,M⟩,Le.refl _,?_⟩
  refine aD ?_
  try simp only[*,go_sem]
  have ev:=cm (n:=i43) (by have:=t;omega)
  refine ag hJ ?_
  simp only[*,go_sem]
  refine ⟨u0.length - (i43+1),by omega,_,Le.sub (List.Sublist.refl _),i43+1,d66,bm,M,bj,rfl,by omega,a9,rfl,q,bo,?_⟩
  simp only[*,go_sem]
 have eQ:=Nat.not_lt.2 H
 refine bL hJ (by simp only[*,go_sem]) ?_
 rw[List.drop_eq_nil_of_le H] at b
 obtain rfl:=sI b;clear b
 have h:=a3
 dsimp only[aG] at h
 obtain rfl:=sI h
 refine bU ?_
 simp only[go_sem]
 refine aa hJ ?_
 refine aL hJ fun eS=>?_
 refine ag hJ ?_
 simp only[*,go_sem]
 refine aL hJ fun N=>?_
 obtain ⟨e0,br,e1,O,bs⟩:=G.eB [] [] N (aA.nil _)
 clear N
 refine cH hJ bs ?_
 obtain ⟨e2,e3,-⟩:=O.op
 refine ay ?_
 simp only[*,go_sem]
 exact ⟨_,br,Le.sub (List.nil_sublist _),_,rfl,O⟩
def wV (a:Int)(i44:Nat)(b:aS)(st:(List Int)):Option (Fl (List Int) (List Int)):=
 ah (aS.get b a) fun c=>ah (cB st ([c])) fun d=>some (.nx d)
def oA (u0:cI)(a:Int):Option (List Int):=
 ah (bG (wV a) 0 u0.all ([]:List Int)) fun o=>aG o (fun b=>ah (wL b) fun c=>ah (wM c.2) fun d=>some d) (fun _ _=>none) (fun r=>some r)
theorem s0 {ro:Addr->Option Value}(u0:cI){s1 a b c:Value}(b3:bI ro u0.book s1 a b c){y:Value}(z:aB hH ro y u0.all)(s:Int){r:(List Int)}(h:oA u0 s=some r):en Tryz.prog 78 #[.agg #[.int .i64 u0.book.aZ,.int .i64 u0.book.bD,.int .i64 u0.book.aR.num,.int .i64 u0.book.aR.den,s1,a,b,c,y],.int .i64 s] ro (fun v aK=>∃B,v=B/\aB rI aK B r):=by
 obtain ⟨d31,d,rfl,b4,R,-⟩:=id z
 unfold oA at h
 refine aC.go Tryz.func78 rfl Tryz.ntmps78 Tryz.results78 (by simp) fun main J hJ A S hd hs=>?_
 have T:=hs 0
 have k1:=hs 1
 clear hs
 refine aa hJ (ag hJ ?_)
 simp only[*,go_sem]
 refine ax fun e U V=>?_;try simp only[au] at V
 try simp only[*,go_sem]
 refine aa hJ (ag hJ ?_)
 simp only[*,go_sem]
 refine aa hJ (aa hJ (ag hJ ?_))
 simp only[*,go_sem]
 refine aU hJ ?_
 revert h;refine bS fun W g X=>?_
 refine bX hJ [5,7,11,12,13,14,15,16,17,18,19,20,21] (fun m C F'=>∃(i44:Nat) (d38:Option Addr) (o:Nat) (t:List (Nat×Obj)) (f:(List Int)),m=u0.all.length - i44/\i44<=u0.all.length/\bG (wV s) i44 (u0.all.drop i44) f=some W/\F'=⟨ro,(e,kn u0 s1 a b c (sl d31 u0.all d))::t⟩/\aW rI ro 3 (.slice d38 f.length o) f t/\f.length<=o/\slot C 11= .int .i64 (i44:Int)/\slot C 5= .slice d38 f.length o) u0.all.length ?_ ?_
 ·refine ⟨0,none,0,[],([]:List Int),(Nat.sub_zero _).symm,Nat.zero_le _,g,rfl,aW.nil _ _ _,Nat.le_refl _,?_⟩
  simp only[*,go_sem]
 rintro b5 ca F' D ⟨i44,d38,o,t,f,rfl,cb,g,rfl,E,cd,cf,cl⟩
 obtain ⟨Y,Z,ab⟩:=D.pick [1,4,9,10] (by decide)
 simp only[*,go_sem] at Y Z ab
 clear D S hd T k1
 refine aa hJ (ag hJ ?_)
 simp only[*,go_sem]
 refine aa hJ ?_
 rcases Nat.lt_or_ge i44 u0.all.length with ad|F
 ·refine bK hJ (by simp only[*,go_sem]) ?_
  refine aF hJ ?_
  obtain ⟨i,u⟩:∃x,u0.all[i44]?=some x:=⟨_,List.getElem?_eq_getElem ad⟩
  rw[c5 u] at g
  revert g;refine bS fun cy h ae=>?_
  unfold wV at h
  try dsimp only at h
  obtain ⟨G,al,ao,ar,p⟩:=z.el _ _ u
  obtain rfl:al=i.cells:=ar
  cases ao
  have a0:=p 0 _ rfl;simp only[go_sem] at a0
  have a2:=p 1 _ rfl;simp only[go_sem] at a2
  have a3:=p 2 _ rfl;simp only[go_sem] at a3
  clear p u
  refine aa hJ (aU hJ (aa hJ ?_))
  refine aL hJ fun a4=>?_
  refine ag hJ ?_
  simp only[*,go_sem]
  refine ax fun H cS I=>?_;have c0:=aN.cons I a4;try simp only[au] at I
  try simp only[*,go_sem]
  refine aL hJ fun a5=>?_
  refine ag hJ ?_
  revert h;refine bS fun q a6 h=>?_
  obtain ⟨da,db,a7⟩:=aS.get_some a6
  try simp only[go_sem] at a7
  revert h;refine bS fun a8 a9 h=>?_
  obtain rfl:=sI h
  obtain ⟨ba,K⟩:=cT a9
  try simp only[*,go_sem]
  refine ax fun L bb M=>?_;have bc:=aN.cons M a5;try simp only[au] at M
  try simp only[*,go_sem]
  refine dG (r:=rI) (l:=f) (x:=q) (cs:=#[.int .i64 q]) (e2:=3) [(L,ic q),(H,.cells #[.int .i64 i.e0,.int .i64 i.e1,.int .i64 i.e2] 120),(e,kn u0 s1 a b c (sl (some G) u0.all d))] [] E bc ba rfl (by simp only[*,go_sem]) bb rfl rfl eK eK iZ jb rfl ja (by decide) (by decide) (fun dd N w j k df=>?_)
  simp only[List.append_nil,List.cons_append,List.nil_append,List.append_assoc] at k
  subst j
  rw[<-K] at w;clear K
  obtain ⟨d66,bd,rfl,bj⟩:=w.len
  refine ⟨⟨ro,(L,ic q)::(H,.cells #[.int .i64 i.e0,.int .i64 i.e1,.int .i64 i.e2] 120)::(e,kn u0 s1 a b c (sl (some G) u0.all d))::N⟩,Le.refl _,?_⟩
  refine aD ?_
  try simp only[*,go_sem]
  have dk:=cm (n:=i44) (by have:=R;omega)
  refine ag hJ ?_
  simp only[*,go_sem]
  refine ⟨u0.all.length - (i44+1),by omega,_,Le.sub (List.Sublist.cons _ (List.Sublist.cons _ (List.Sublist.refl _))),i44+1,d66,bd,N,a8,rfl,by omega,ae,rfl,w,bj,?_⟩
  simp only[*,go_sem]
 have dp:=Nat.not_lt.2 F
 refine bL hJ (by simp only[*,go_sem]) ?_
 rw[List.drop_eq_nil_of_le F] at g
 obtain rfl:=sI g;clear g
 have h:=X
 dsimp only[aG] at h
 refine bU ?_
 simp only[go_sem]
 refine aa hJ ?_
 refine aL hJ fun dq=>?_
 refine ag hJ ?_
 revert h;refine bS fun bk bl h=>?_
 simp only[*,go_sem]
 refine gK hJ [(e,kn u0 s1 a b c (sl d31 u0.all d))] [] _ (GG f E bl) (fun ds bm bo j k dt=>?_)
 obtain ⟨rfl,br⟩:=bo
 simp only[List.append_nil,List.cons_append,List.nil_append,List.append_assoc] at k
 subst j
 refine ⟨⟨ro,(e,kn u0 s1 a b c (sl d31 u0.all d))::bm⟩,Le.refl _,?_⟩
 try simp only[*,go_sem]
 refine aa hJ ?_
 refine aL hJ fun du=>?_
 refine ag hJ ?_
 revert h;refine bS fun dv bs h=>?_
 obtain rfl:=sI h
 simp only[*,go_sem]
 refine gK hJ [(e,kn u0 s1 a b c (sl d31 u0.all d))] [] _ (GH bk.2 br bs) (fun dC bz O j k dE=>?_)
 simp only[List.append_nil,List.cons_append,List.nil_append,List.append_assoc] at k
 subst j
 obtain ⟨d83,dT,rfl,ea⟩:=O.len
 refine ⟨⟨ro,(e,kn u0 s1 a b c (sl d31 u0.all d))::bz⟩,Le.refl _,?_⟩
 refine aD ?_
 try simp only[*,go_sem]
 refine aL hJ fun P=>?_
 obtain ⟨eb,b0,b1,Q,b2⟩:=O.eB [(e,kn u0 s1 a b c (sl d31 u0.all d))] [] P (aA.cons U (aA.nil _))
 clear P
 refine cH hJ b2 ?_
 obtain ⟨ec,ed,-⟩:=Q.op
 simp only[bf] at b1
 refine ay ?_
 simp only[*,go_sem]
 exact ⟨_,b0,Le.sub (List.nil_sublist _),_,rfl,Q⟩
def wW (u0:cI)(i47:Nat)(i75:Nat)(b:Int)(st:(List aO)):Option (Fl (List aO) (List aO)):=
 ah (iA u0.book (i47:Int) b) fun a=>ah (wj st a) fun c=>cond (!c) (ah (cB st ([a])) fun d=>some (.nx d)) (some (.nx st))
def wX (u0:cI)(i47:Nat)(c:b6)(st:(List aO)):Option (Fl (List aO) (List aO)):=
 ah (oA u0 (i47:Int)) fun a=>ah (bG (wW u0 i47) 0 a st) fun o=>aG o (fun b=>some (.nx b)) (fun _ _=>none) (fun r=>some (.rt r))
def s3 (u0:cI):Option (List aO):=
 ah (bG (wX u0) 0 u0.book.aE ([]:List aO)) fun o=>aG o (fun a=>some a) (fun _ _=>none) (fun r=>some r)
theorem Bf {ro:Addr->Option Value}(u0:cI){s1 c R d:Value}(e:bI ro u0.book s1 c R d){f:Value}(H:aB hH ro f u0.all){r:(List aO)}(h:s3 u0=some r):en Tryz.prog 85 #[.agg #[.int .i64 u0.book.aZ,.int .i64 u0.book.bD,.int .i64 u0.book.aR.num,.int .i64 u0.book.aR.den,s1,c,R,d,f]] ro (fun v aK=>∃S,v=S/\aB jc aK S r):=by
 obtain ⟨d17,o,rfl,e0,a8,-⟩:=id e.y
 unfold s3 at h
 refine aC.go Tryz.func85 rfl Tryz.ntmps85 Tryz.results85 (by simp) fun main J hJ A a9 hd hs=>?_
 have ba:=hs 0
 clear hs
 refine aa hJ (ag hJ ?_)
 simp only[*,go_sem]
 refine ax fun p I bb=>?_;try simp only[au] at bb
 try simp only[*,go_sem]
 refine aa hJ (ag hJ ?_)
 simp only[*,go_sem]
 refine aa hJ (aa hJ (ag hJ ?_))
 simp only[*,go_sem]
 refine aU hJ ?_
 revert h;refine bS fun bc i bd=>?_
 refine bX hJ [3,4,6,7,13,14,15,16,17,18,19,20,21,22,23,24,25,26,27,28,29,30,31,32,33,34,35,36,37,38] (fun m s F'=>∃(i47:Nat) (w:Addr->Option Value) (d38:Option Addr) (t:Nat) (z:List (Nat×Obj)) (j:(List aO)),m=u0.book.aE.length - i47/\i47<=u0.book.aE.length/\bG (wX u0) i47 (u0.book.aE.drop i47) j=some bc/\F'=⟨w,(p,kn u0 s1 c (sl d17 u0.book.aE o) d f)::z⟩/\Ext ro w/\aW jc w 103 (.slice d38 j.length t) j z/\j.length<=t/\slot s 13= .int .i64 (i47:Int)/\slot s 3= .slice d38 j.length t) u0.book.aE.length ?_ ?_
 ·refine ⟨0,ro,none,0,[],([]:List aO),(Nat.sub_zero _).symm,Nat.zero_le _,i,rfl,Ext.refl _,aW.nil _ _ _,Nat.le_refl _,?_⟩
  simp only[*,go_sem]
 rintro e1 bj F' T ⟨i47,w,d38,t,z,j,rfl,e3,i,rfl,B,C,bk,bl,bm⟩
 refine gb hJ fun _ U=>?_
 replace e:=e.mono B
 replace H:=H.mono B
 replace I:=U.hd
 simp only[bf] at U
 obtain ⟨V,W,X⟩:=T.pick [1,2,12] (by decide)
 simp only[*,go_sem] at V W X
 clear T a9 hd ba
 refine aa hJ (ag hJ ?_)
 simp only[*,go_sem]
 refine aa hJ ?_
 rcases Nat.lt_or_ge i47 u0.book.aE.length with bo|Y
 ·refine bK hJ (by simp only[*,go_sem]) ?_
  refine aF hJ ?_
  obtain ⟨br,K⟩:∃x,u0.book.aE[i47]?=some x:=⟨_,List.getElem?_eq_getElem bo⟩
  rw[c5 K] at i
  revert i;refine bS fun fa h bs=>?_
  unfold wX at h
  try dsimp only at h
  obtain ⟨D,bz,b0,b1,E⟩:=e.y.el _ _ K
  obtain rfl:bz=br.cells:=b1
  cases b0
  have b2:=E 0 _ rfl;simp only[go_sem] at b2
  have b3:=E 1 _ rfl;simp only[go_sem] at b3
  have b4:=E 2 _ rfl;simp only[go_sem] at b4
  clear E K
  refine aa hJ (aU hJ (aa hJ ?_))
  refine aL hJ fun fb=>?_
  refine ag hJ ?_
  simp only[*,go_sem]
  refine aa hJ ?_
  refine aL hJ fun ff=>?_
  refine ag hJ ?_
  revert h;refine bS fun g b5 h=>?_
  simp only[*,go_sem]
  refine bV hJ _ (s0 u0 e H (i47:Int) b5) fun v F L M ca=>?_
  obtain ⟨fg,rfl,Z⟩:=ca
  replace e:=e.mono L
  replace I:=M.hd
  replace C:=C.mono L M.tl
  simp only[bf] at M
  obtain ⟨d64,fi,rfl,fl,ab,-⟩:=id Z
  refine aD ?_
  try simp only[*,go_sem]
  refine aU hJ ?_
  revert h;refine bS fun cb k cd=>?_
  refine bX hJ [3,6,7,20,21,22,23,24,25,26,27,28,29,30,31,32,33,34,35,36,37] (fun m s F'=>∃(i75:Nat) (d70:Option Addr) (q:Nat) (u:List (Nat×Obj)) (b:(List aO)),m=g.length - i75/\i75<=g.length/\bG (wW u0 i47) i75 (g.drop i75) b=some cb/\F'=⟨F,(p,kn u0 s1 c (sl (some D) u0.book.aE o) d f)::u⟩/\aW jc F 103 (.slice d70 b.length q) b u/\b.length<=q/\slot s 20= .int .i64 (i75:Int)/\slot s 3= .slice d70 b.length q) g.length ?_ ?_
  ·refine ⟨0,d38,t,z,j,(Nat.sub_zero _).symm,Nat.zero_le _,k,rfl,C,bk,?_⟩
   simp only[*,go_sem]
  rintro fp cf F' N ⟨i75,d70,q,u,b,rfl,fq,k,rfl,G,ad,fr,fs⟩
  obtain ⟨cl,cy,cS⟩:=N.pick [1,2,4,12,13,14,15,16,17,18,19] (by decide)
  simp only[*,go_sem] at cl cy cS
  have ft:dB [3,4,6,7,13,14,15,16,17,18,19,20,21,22,23,24,25,26,27,28,29,30,31,32,33,34,35,36,37,38] cf bj:=(N.jD (by decide)).trans (by simp only[*,go_sem])
  clear N V W X bm bl
  refine aa hJ (ag hJ ?_)
  simp only[*,go_sem]
  refine aa hJ ?_
  rcases Nat.lt_or_ge i75 g.length with c0|ae
  ·refine bK hJ (by simp only[*,go_sem]) ?_
   refine aF hJ ?_
   obtain ⟨al,O⟩:∃x,g[i75]?=some x:=⟨_,List.getElem?_eq_getElem c0⟩
   rw[c5 O] at k
   revert k;refine bS fun fu h ao=>?_
   unfold wW at h
   try dsimp only at h
   obtain ⟨fv,da,db,dd,ar⟩:=Z.el _ _ O
   obtain rfl:da=[.int .i64 al]:=dd
   cases db
   have df:=ar 0 _ rfl;simp only[go_sem] at df
   clear ar O
   refine aa hJ (aU hJ (aa hJ ?_))
   refine aL hJ fun fw=>?_
   refine ag hJ ?_
   simp only[*,go_sem]
   refine aa hJ ?_
   refine aL hJ fun dk=>?_
   refine ag hJ ?_
   revert h;refine bS fun a dp h=>?_
   simp only[*,go_sem]
   refine aM hJ _ (mN u0.book (e.mono aH) (i47:Int) al dp) (aD ?_)
   try simp only[*,go_sem]
   refine ax fun P fx a0=>?_;have fP:=aN.cons a0 dk;try simp only[au] at a0
   try simp only[*,go_sem]
   refine aa hJ ?_
   refine aL hJ fun dq=>?_
   refine ag hJ ?_
   revert h;refine bS fun fQ ds h=>?_
   simp only[*,go_sem]
   refine aM hJ _ (Gh b (G.AU [(P,.cells #[.int .i64 a.back,.int .i64 a.high] 103),(p,kn u0 s1 c (sl (some D) u0.book.aE o) d f)] [] (by first|rfl|simp only[List.append_nil,List.cons_append,List.nil_append,List.append_assoc]|(simp only[List.append_nil,List.cons_append,List.nil_append,List.append_assoc];rfl)) dq) a ds) (aD ?_)
   try simp only[*,go_sem]
   revert h;refine jC hJ (by simp only[*,go_sem]) (fun dt h=>?_) fun dt h=>?_
   ·refine aL hJ fun du=>?_
    refine ag hJ ?_
    revert h;refine bS fun dv dC h=>?_
    obtain rfl:=sI h
    obtain ⟨dE,a2⟩:=cT dC
    simp only[*,go_sem]
    refine ax fun a3 dT a4=>?_;have ea:=aN.cons a4 du;try simp only[au] at a4
    try simp only[*,go_sem]
    refine dG (r:=jc) (l:=b) (x:=a) (cs:=#[.int .i64 a.back,.int .i64 a.high]) (e2:=103) [(a3,.cells #[.int .i64 a.back,.int .i64 a.high] 103),(P,.cells #[.int .i64 a.back,.int .i64 a.high] 103),(p,kn u0 s1 c (sl (some D) u0.book.aE o) d f)] [] G ea dE rfl (by simp only[*,go_sem]) dT rfl rfl Ak Ak ER ET rfl ES (by decide) (by decide) (fun fS a5 Q eb ec fU=>?_)
    simp only[List.append_nil,List.cons_append,List.nil_append,List.append_assoc] at ec
    subst eb
    rw[<-a2] at Q;clear a2
    obtain ⟨d102,ed,rfl,eh⟩:=Q.len
    refine ⟨⟨F,(a3,.cells #[.int .i64 a.back,.int .i64 a.high] 103)::(P,.cells #[.int .i64 a.back,.int .i64 a.high] 103)::(p,kn u0 s1 c (sl (some D) u0.book.aE o) d f)::a5⟩,Le.refl _,?_⟩
    refine aD ?_
    try simp only[*,go_sem]
    have et:=cm (n:=i75) (by have:=ab;omega)
    refine ag hJ ?_
    simp only[*,go_sem]
    refine ⟨g.length - (i75+1),by omega,_,Le.sub (List.Sublist.cons _ (List.Sublist.cons _ (List.Sublist.refl _))),i75+1,d102,ed,a5,dv,rfl,by omega,ao,rfl,Q,eh,?_⟩
    simp only[*,go_sem]
   obtain rfl:=sI h
   refine aF hJ ?_
   have et:=cm (n:=i75) (by have:=ab;omega)
   refine ag hJ ?_
   simp only[*,go_sem]
   refine ⟨g.length - (i75+1),by omega,_,Le.sub (List.Sublist.cons _ (List.Sublist.refl _)),i75+1,d70,q,u,b,rfl,by omega,ao,rfl,G,ad,?_⟩
   simp only[*,go_sem]
  have gg:=Nat.not_lt.2 ae
  refine bL hJ (by simp only[*,go_sem]) ?_
  rw[List.drop_eq_nil_of_le ae] at k
  obtain rfl:=sI k;clear k
  have h:=cd
  dsimp only[aG] at h
  obtain rfl:=sI h
  refine bU ?_
  simp only[go_sem]
  have gl:=cm (n:=i47) (by have:=a8;omega)
  refine ag hJ ?_
  simp only[*,go_sem]
  refine ⟨u0.book.aE.length - (i47+1),by omega,_,Le.sub (List.Sublist.refl _),i47+1,F,d70,q,u,b,rfl,by omega,bs,rfl,(B.trans L),G,ad,?_⟩
  simp only[*,go_sem]
 have gn:=Nat.not_lt.2 Y
 refine bL hJ (by simp only[*,go_sem]) ?_
 rw[List.drop_eq_nil_of_le Y] at i
 obtain rfl:=sI i;clear i
 have h:=bd
 dsimp only[aG] at h
 obtain rfl:=sI h
 refine bU ?_
 simp only[go_sem]
 refine aa hJ ?_
 refine aL hJ fun gp=>?_
 refine ag hJ ?_
 simp only[*,go_sem]
 refine aL hJ fun a6=>?_
 obtain ⟨gB,ev,eQ,a7,eS⟩:=C.eB [(p,kn u0 s1 c (sl d17 u0.book.aE o) d f)] [] a6 (aA.cons I (aA.nil _))
 clear a6
 refine cH hJ eS ?_
 obtain ⟨gC,gM,-⟩:=a7.op
 simp only[bf] at eQ
 refine ay ?_
 simp only[*,go_sem]
 exact ⟨_,(B).trans ev,Le.sub (List.nil_sublist _),_,rfl,a7⟩
def qq (a:Int)(i109:Nat)(b:bB)(st:((List Int)×(List bB))):Option (Fl ((List Int)×(List bB)) ((List Int)×Int)):=
 ah (vD a (i109:Int)) fun c=>cond (((Aa c 1)==1)) (ah (cB st.1 ([(i109:Int)])) fun d=>ah (cB st.2 ([b])) fun e=>some (.nx (d,e))) (some (.nx (st.1,st.2)))
def mY (u0:ak)(a:(ak×Int))(c:Int)(st:((List (List Int))×Int)):Option (Fl ((List (List Int))×Int) ((List Int)×Int)):=
 cond (decide (st.2<c)) (ah (bG (qq st.2) 0 u0.told (([]:List Int),([]:List bB))) fun o=>aG o (fun b=>ah (oo (⟨a.1.aZ,a.1.bD,a.1.aR,a.1.aj,a.1.props,a.1.aE,b.2⟩:ak)) fun d=>cond (!d) (ah (cB st.1 ([b.1])) fun e=>some (.nx (e,(IntKind.i64.wrap (st.2+1))))) (some (.nx (st.1,(IntKind.i64.wrap (st.2+1)))))) (fun _ _=>none) (fun r=>some (.rt r))) (some (.bk (st.1,st.2)))
def kJ (u0:ak):Option ((List Int)×Int):=
 ah (eT u0 ([]:(List (ak->Option Int)))) fun a=>cond ((a.2 != 0)) (some (([]:(List Int)),a.2)) (ah (oo a.1) fun c=>cond (c) (some (([]:(List Int)),0)) (ah (rK 1 (u0.told.length:Int)) fun d=>ah (bg (mY u0 a d) fu (([]:List (List Int)),0)) fun o=>aG o (fun b=>ah (bw b.1 0) fun e=>ah (eA b.1 1 (b.1.length:Int)) fun f=>ah (od iC e f) fun g=>some (g,0)) (fun _ _=>none) (fun r=>some r)))
theorem wY {ro:Addr->Option Value}(fv:cU ro)(u0:ak){s1 i j b4:Value}(K:bI ro u0 s1 i j b4){r:((List Int)×Int)}(h:kJ u0=some r):en Tryz.prog 31 #[bv u0 s1 i j b4] ro (fun v aK=>∃b5,v= .tuple #[b5,.int .i64 r.2]/\aB rI aK b5 r.1):=by
 obtain ⟨d24,k,rfl,mx,ab,-⟩:=id K.t
 unfold kJ at h
 have fw:=K.oc;simp only[bC] at fw
 refine aC.go Tryz.func31 rfl Tryz.ntmps31 Tryz.results31 (by simp) fun main J hJ A fx hd hs=>?_
 have fP:=hs 0
 clear hs
 refine aa hJ (ag hJ ?_)
 simp only[*,go_sem]
 refine ax fun o L fQ=>?_;try simp only[au] at fQ
 try simp only[*,go_sem]
 refine aa hJ (ag hJ ?_)
 revert h;refine bS fun b fS h=>?_
 simp only[*,go_sem]
 refine bV hJ _ (kH fv u0 K ([]:(List (ak->Option Int))) (aB.nil _ _) fS) fun v ca ad cb a7=>?_
 obtain ⟨c,d,f,q,rfl,P⟩:=a7
 have fU:=P.oc;simp only[bC] at fU
 replace K:=K.mono ad
 replace L:=cb.hd
 simp only[bf] at cb
 refine aD ?_
 try simp only[*,go_sem]
 refine ax fun s Q gg=>?_;try simp only[au] at gg
 try simp only[*,go_sem]
 refine aa hJ (aa hJ (ag hJ ?_))
 simp only[*,go_sem]
 revert h;refine jC hJ (by simp only[*,go_sem]) (fun gl h=>?_) fun gl h=>?_
 ·obtain rfl:=sI h
  refine aa hJ (ag hJ ?_)
  simp only[*,go_sem]
  refine ay ?_
  simp only[*,go_sem]
  exact ⟨_,ad,Le.sub (List.nil_sublist _),_,rfl,aB.nil _ _⟩
 refine aF hJ (aa hJ ?_)
 refine aa hJ (ag hJ ?_)
 revert h;refine bS fun my gn h=>?_
 simp only[*,go_sem]
 refine aM hJ _ (A7 b.1 (P.mono aH) gn) ?_
 try simp only[*,go_sem]
 revert h;refine jC hJ (by simp only[*,go_sem]) (fun gp h=>?_) fun gp h=>?_
 ·obtain rfl:=sI h
  refine aa hJ (ag hJ ?_)
  simp only[*,go_sem]
  refine ay ?_
  simp only[*,go_sem]
  exact ⟨_,ad,Le.sub (List.nil_sublist _),_,rfl,aB.nil _ _⟩
 refine aF hJ (aa hJ ?_)
 refine ag hJ ?_
 simp only[*,go_sem]
 refine aa hJ (aa hJ (ag hJ ?_))
 revert h;refine bS fun gB cd h=>?_
 obtain ⟨m1,gC⟩:=EG cd
 clear cd
 try simp only[go_sem] at gC
 try simp only[*,go_sem]
 refine aU hJ ?_
 revert h;refine bS fun gM ae gT=>?_
 refine bX hJ [6,7,8,9,10,11,26,27,28,29,30,31,32,33,34,35,36,37,38,39,40,41,42,43,44,45,46,47,48,49,50,51,52,53,54,55,56,57,58,59,60,61,62,63,64,65] (fun m V F'=>∃(B:Addr->Option Value) (d71:Option Addr) (S:Nat) (w:List (Nat×Obj)) (I:(List (List Int))) (T:Int),bg (mY u0 b gB) m (I,T)=some gM/\F'=⟨B,(s,bl b.1 c d f q)::(o,bk u0 s1 i j (sl d24 u0.told k))::w⟩/\Ext ca B/\aW (rL rI) B 64 (.slice d71 I.length S) I w/\I.length<=S/\slot V 6= .slice d71 I.length S/\slot V 26= .int .i64 T) fu ?_ ?_
 ·refine ⟨ca,none,0,[],([]:List (List Int)),0,ae,rfl,Ext.refl _,aW.nil _ _ _,Nat.le_refl _,?_⟩
  simp only[*,go_sem]
 rintro al gV F' cf ⟨B,d71,S,w,I,T,ae,rfl,W,U,g0,g1,g2⟩
 refine gb hJ fun _ a8=>?_
 replace P:=P.mono W
 replace K:=K.mono W
 replace Q:=a8.hd
 replace L:=a8.tl.hd
 simp only[bf] at a8
 obtain ⟨cl,cy,cS⟩:=cf.pick [1,2,3,4,25] (by decide)
 simp only[*,go_sem] at cl cy cS
 clear cf fx hd fP
 obtain _|al:=al
 ·exact absurd ae (by simp only[bg,reduceCtorEq,not_false_eq_true])
 revert ae;refine bS fun m2 h ao=>?_
 unfold mY at h
 try dsimp only at h
 refine aa hJ ?_
 refine aL hJ fun na=>?_
 refine ag hJ ?_
 simp only[*,go_sem]
 refine aa hJ ?_
 revert h;refine jC hJ (by simp only[*,go_sem]) (fun g3 h=>?_) fun g3 h=>?_
 ·refine aF hJ (aa hJ ?_)
  refine aU hJ (aa hJ ?_)
  refine aL hJ fun nb=>?_
  refine ag hJ ?_
  simp only[*,go_sem]
  refine aa hJ ?_
  refine aL hJ fun nd=>?_
  refine ag hJ ?_
  simp only[*,go_sem]
  refine aa hJ ?_
  refine aL hJ fun g4=>?_
  refine ag hJ ?_
  simp only[*,go_sem]
  refine ax fun z ha c0=>?_;have nf:=aN.cons c0 g4;try simp only[au] at c0
  try simp only[*,go_sem]
  refine aa hJ ?_
  refine aL hJ fun nm=>?_
  refine ag hJ ?_
  simp only[*,go_sem]
  refine aa hJ (aa hJ ?_)
  refine aL hJ fun nn=>?_
  refine ag hJ ?_
  simp only[*,go_sem]
  refine aU hJ ?_
  revert h;refine bS fun hc R hf=>?_
  refine bX hJ [8,10,11,35,36,37,38,39,40,41,42,43,44,45,46,47,48,49,50,51,52,53,54,55,56,57] (fun m V F'=>∃(i109:Nat) (d96:Option Addr) (M:Nat) (X:List (Nat×Obj)) (d103:Option Addr) (u:Nat) (C:List (Nat×Obj)) (D:(List Int)) (g:(List bB)),m=u0.told.length - i109/\i109<=u0.told.length/\bG (qq T) i109 (u0.told.drop i109) (D,g)=some hc/\F'=⟨B,(z,bl b.1 c d f (sl d103 g u))::(s,bl b.1 c d f q)::(o,bk u0 s1 i j (sl d24 u0.told k))::(X++(C++w))⟩/\aW rI B 3 (.slice d96 D.length M) D X/\D.length<=M/\aW cX B 91 (.slice d103 g.length u) g C/\g.length<=u/\slot V 35= .int .i64 (i109:Int)/\slot V 8= .slice d96 D.length M) u0.told.length ?_ ?_
  ·refine ⟨0,none,0,[],none,0,[],([]:List Int),([]:List bB),(Nat.sub_zero _).symm,Nat.zero_le _,R,rfl,aW.nil _ _ _,Nat.le_refl _,aW.nil _ _ _,Nat.le_refl _,?_⟩
   simp only[*,go_sem]
  rintro np hg F' a9 ⟨i109,d96,M,X,d103,u,C,D,g,rfl,ns,R,rfl,Y,hh,N,hi,nx,nz⟩
  obtain ⟨hj,hk,hl⟩:=a9.pick [1,2,3,4,6,7,9,25,26,27,28,29,30,31,32,33,34] (by decide)
  simp only[*,go_sem] at hj hk hl
  have nA:dB [6,7,8,9,10,11,26,27,28,29,30,31,32,33,34,35,36,37,38,39,40,41,42,43,44,45,46,47,48,49,50,51,52,53,54,55,56,57,58,59,60,61,62,63,64,65] hg gV:=(a9.jD (by decide)).trans (by simp only[*,go_sem])
  clear a9 cl cy cS g1 g2
  refine aa hJ (ag hJ ?_)
  simp only[*,go_sem]
  refine aa hJ ?_
  rcases Nat.lt_or_ge i109 u0.told.length with hn|da
  ·refine bK hJ (by simp only[*,go_sem]) ?_
   refine aF hJ ?_
   obtain ⟨a,ba⟩:∃x,u0.told[i109]?=some x:=⟨_,List.getElem?_eq_getElem hn⟩
   rw[c5 ba] at R
   revert R;refine bS fun nH h ar=>?_
   unfold qq at h
   try dsimp only at h
   obtain ⟨E,ho,hp,hr,bb⟩:=K.t.el _ _ ba
   obtain rfl:ho=a.cells:=hr
   cases hp
   have ht:=bb 0 _ rfl;simp only[go_sem] at ht
   have hv:=bb 1 _ rfl;simp only[go_sem] at hv
   clear bb ba
   refine aa hJ (aU hJ (aa hJ ?_))
   refine aL hJ fun hx=>?_
   refine ag hJ ?_
   simp only[*,go_sem]
   refine ax fun F nI db=>?_;have nK:=aN.cons db hx;try simp only[au] at db
   try simp only[*,go_sem]
   refine aa hJ ?_
   refine aL hJ fun nQ=>?_
   refine ag hJ ?_
   revert h;refine bS fun nR dd h=>?_
   obtain ⟨nT,hy⟩:=EH dd
   clear dd
   try simp only[go_sem] at hy
   try simp only[*,go_sem]
   revert h;refine jC hJ (by simp only[*,go_sem]) (fun hz h=>?_) fun hz h=>?_
   ·refine aL hJ fun df=>?_
    refine fN hJ mixed [13] (.pure 0 (.pure 1 (.pure 4 (.pure 5 (.rd 6 (.rd 7 (.two 2 (.two 3 (.one 8 (.one 9 (.pure 10 (.pure 11 (.pure 12 (.last 13 .done)))))) 8 (.one 3 (.one 9 (.pure 10 (.pure 11 (.pure 12 (.last 13 .done))))))) 8 (.one 2 (.one 3 (.one 9 (.pure 10 (.pure 11 (.pure 12 (.last 13 .done)))))))))))))) ⟨B,[(F,.cells #[.int .i64 a.aQ,.bool a.bh] 91),(z,bl b.1 c d f (sl d103 g u)),(s,bl b.1 c d f q),(o,bk u0 s1 i j (sl (some E) u0.told k))]⟩ (by simp only[*,go_sem]) (by kernel_rfl) ?_
    simp only[*,go_sem]
    refine kz ?_ ?_
    ·simp only[*,go_sem]
     refine ax fun O dk dp=>?_;have dq:=aN.cons dp df;try simp only[au] at dp
     try simp only[*,go_sem]
     refine kz ?_ ?_
     ·revert h;refine bS fun hA hB h=>?_
      obtain ⟨hD,ds⟩:=cT hB
      simp only[*,go_sem]
      refine dG (r:=rI) (l:=D) (x:=(i109:Int)) (cs:=#[.int .i64 (i109:Int)]) (e2:=3) [(O,ic (i109:Int)),(F,.cells #[.int .i64 a.aQ,.bool a.bh] 91),(z,bl b.1 c d f (sl d103 g u)),(s,bl b.1 c d f q),(o,bk u0 s1 i j (sl (some E) u0.told k))] (C++w) Y dq hD rfl (by simp only[*,go_sem]) dk rfl rfl eK eK iZ jb rfl ja (by decide) (by decide) (fun nV a0 bc G H hE=>?_)
      simp only[List.append_nil,List.cons_append,List.nil_append,List.append_assoc] at H
      subst G
      rw[<-ds] at bc;clear ds
      obtain ⟨d197,hF,rfl,hG⟩:=bc.len
      refine ⟨⟨B,(O,ic (i109:Int))::(F,.cells #[.int .i64 a.aQ,.bool a.bh] 91)::(z,bl b.1 c d f (sl d103 g u))::(s,bl b.1 c d f q)::(o,bk u0 s1 i j (sl (some E) u0.told k))::(a0++(C++w))⟩,Le.refl _,?_⟩
      refine ⟨by simp only[*,go_sem],bN ?_⟩
      revert h;refine bS fun hI hK h=>?_
      obtain rfl:=sI h
      obtain ⟨hL,dt⟩:=cT hK
      try simp only[*,go_sem]
      refine ax fun du hM dv=>?_;have hN:=aN.cons dv hE;try simp only[au] at dv
      try simp only[*,go_sem]
      refine dG (r:=cX) (l:=g) (x:=a) (cs:=#[.int .i64 a.aQ,.bool a.bh]) (e2:=91) ((du,.cells #[.int .i64 a.aQ,.bool a.bh] 91)::(O,ic (i109:Int))::(F,.cells #[.int .i64 a.aQ,.bool a.bh] 91)::(z,bl b.1 c d f (sl d103 g u))::(s,bl b.1 c d f q)::(o,bk u0 s1 i j (sl (some E) u0.told k))::a0) w N hN hL rfl (by simp only[*,go_sem]) hM rfl rfl dQ dQ g6 g8 rfl g7 (by decide) (by decide) (fun nX dC bd G H nY=>?_)
      simp only[List.append_nil,List.cons_append,List.nil_append,List.append_assoc] at H
      subst G
      rw[<-dt] at bd;clear dt
      obtain ⟨d208,hP,rfl,hQ⟩:=bd.len
      refine ⟨⟨B,(du,.cells #[.int .i64 a.aQ,.bool a.bh] 91)::(O,ic (i109:Int))::(F,.cells #[.int .i64 a.aQ,.bool a.bh] 91)::(z,bl b.1 c d f (sl d103 g u))::(s,bl b.1 c d f q)::(o,bk u0 s1 i j (sl (some E) u0.told k))::(a0++(dC++w))⟩,Le.refl _,?_⟩
      refine ⟨by simp only[*,go_sem],bN ?_⟩
      try simp only[*,go_sem]
      have bj:=cm (n:=i109) (by have:=ab;omega)
      refine ag hJ ?_
      simp only[*,go_sem]
      refine ⟨u0.told.length - (i109+1),by omega,_,Le.sub (List.Sublist.cons _ (List.Sublist.cons _ (List.Sublist.cons _ (List.Sublist.refl _)))),i109+1,d197,hF,a0,d208,hP,dC,hA,hI,rfl,by omega,ar,rfl,bc,hG,bd,hQ,?_⟩
      simp only[*,go_sem]
     revert h;refine bS fun hR hS h=>?_
     obtain ⟨hT,dE⟩:=cT hS
     simp only[*,go_sem]
     refine ax fun a2 hV dT=>?_;have hX:=aN.cons dT dq;try simp only[au] at dT
     try simp only[*,go_sem]
     refine dG (r:=rI) (l:=D) (x:=(i109:Int)) (cs:=#[.int .i64 (i109:Int)]) (e2:=3) [(a2,.cells #[.int .i64 a.aQ,.bool a.bh] 91),(O,ic (i109:Int)),(F,.cells #[.int .i64 a.aQ,.bool a.bh] 91),(z,bl b.1 c d f (sl d103 g u)),(s,bl b.1 c d f q),(o,bk u0 s1 i j (sl (some E) u0.told k))] (C++w) Y hX hT rfl (by simp only[*,go_sem]) dk rfl rfl eK eK iZ jb rfl ja (by decide) (by decide) (fun n0 a3 bm G H hY=>?_)
     simp only[List.append_nil,List.cons_append,List.nil_append,List.append_assoc] at H
     subst G
     rw[<-dE] at bm;clear dE
     obtain ⟨hZ,h0,rfl,h1⟩:=bm.len
     refine ⟨⟨B,(a2,.cells #[.int .i64 a.aQ,.bool a.bh] 91)::(O,ic (i109:Int))::(F,.cells #[.int .i64 a.aQ,.bool a.bh] 91)::(z,bl b.1 c d f (sl d103 g u))::(s,bl b.1 c d f q)::(o,bk u0 s1 i j (sl (some E) u0.told k))::(a3++(C++w))⟩,Le.refl _,?_⟩
     refine ⟨by simp only[*,go_sem],bN ?_⟩
     revert h;refine bS fun h2 h3 h=>?_
     obtain rfl:=sI h
     obtain ⟨h4,ea⟩:=cT h3
     try simp only[*,go_sem]
     refine dG (r:=cX) (l:=g) (x:=a) (cs:=#[.int .i64 a.aQ,.bool a.bh]) (e2:=91) ((a2,.cells #[.int .i64 a.aQ,.bool a.bh] 91)::(O,ic (i109:Int))::(F,.cells #[.int .i64 a.aQ,.bool a.bh] 91)::(z,bl b.1 c d f (sl d103 g u))::(s,bl b.1 c d f q)::(o,bk u0 s1 i j (sl (some E) u0.told k))::a3) w N hY h4 rfl (by simp only[*,go_sem]) hV rfl rfl dQ dQ g6 g8 rfl g7 (by decide) (by decide) (fun n1 eb bo G H n2=>?_)
     simp only[List.append_nil,List.cons_append,List.nil_append,List.append_assoc] at H
     subst G
     rw[<-ea] at bo;clear ea
     obtain ⟨h5,h6,rfl,h7⟩:=bo.len
     refine ⟨⟨B,(a2,.cells #[.int .i64 a.aQ,.bool a.bh] 91)::(O,ic (i109:Int))::(F,.cells #[.int .i64 a.aQ,.bool a.bh] 91)::(z,bl b.1 c d f (sl d103 g u))::(s,bl b.1 c d f q)::(o,bk u0 s1 i j (sl (some E) u0.told k))::(a3++(eb++w))⟩,Le.refl _,?_⟩
     refine ⟨by simp only[*,go_sem],bN ?_⟩
     try simp only[*,go_sem]
     have bj:=cm (n:=i109) (by have:=ab;omega)
     refine ag hJ ?_
     simp only[*,go_sem]
     refine ⟨u0.told.length - (i109+1),by omega,_,Le.sub (List.Sublist.cons _ (List.Sublist.cons _ (List.Sublist.cons _ (List.Sublist.refl _)))),i109+1,hZ,h0,a3,h5,h6,eb,hR,h2,rfl,by omega,ar,rfl,bm,h1,bo,h7,?_⟩
     simp only[*,go_sem]
    revert h;refine bS fun h8 h9 h=>?_
    obtain ⟨ib,ec⟩:=cT h9
    simp only[*,go_sem]
    refine ax fun a4 ih ed=>?_;have ik:=aN.cons ed df;try simp only[au] at ed
    try simp only[*,go_sem]
    refine ax fun a5 il eh=>?_;have im:=aN.cons eh ik;try simp only[au] at eh
    try simp only[*,go_sem]
    refine dG (r:=rI) (l:=D) (x:=(i109:Int)) (cs:=#[.int .i64 (i109:Int)]) (e2:=3) [(a5,ic (i109:Int)),(a4,.cells #[.int .i64 a.aQ,.bool a.bh] 91),(F,.cells #[.int .i64 a.aQ,.bool a.bh] 91),(z,bl b.1 c d f (sl d103 g u)),(s,bl b.1 c d f q),(o,bk u0 s1 i j (sl (some E) u0.told k))] (C++w) Y im ib rfl (by simp only[*,go_sem]) il rfl rfl eK eK iZ jb rfl ja (by decide) (by decide) (fun n3 a6 br G H iv=>?_)
    simp only[List.append_nil,List.cons_append,List.nil_append,List.append_assoc] at H
    subst G
    rw[<-ec] at br;clear ec
    obtain ⟨ix,j1,rfl,j2⟩:=br.len
    refine ⟨⟨B,(a5,ic (i109:Int))::(a4,.cells #[.int .i64 a.aQ,.bool a.bh] 91)::(F,.cells #[.int .i64 a.aQ,.bool a.bh] 91)::(z,bl b.1 c d f (sl d103 g u))::(s,bl b.1 c d f q)::(o,bk u0 s1 i j (sl (some E) u0.told k))::(a6++(C++w))⟩,Le.refl _,?_⟩
    refine ⟨by simp only[*,go_sem],bN ?_⟩
    revert h;refine bS fun kh kj h=>?_
    obtain rfl:=sI h
    obtain ⟨kk,et⟩:=cT kj
    try simp only[*,go_sem]
    refine dG (r:=cX) (l:=g) (x:=a) (cs:=#[.int .i64 a.aQ,.bool a.bh]) (e2:=91) ((a5,ic (i109:Int))::(a4,.cells #[.int .i64 a.aQ,.bool a.bh] 91)::(F,.cells #[.int .i64 a.aQ,.bool a.bh] 91)::(z,bl b.1 c d f (sl d103 g u))::(s,bl b.1 c d f q)::(o,bk u0 s1 i j (sl (some E) u0.told k))::a6) w N iv kk rfl (by simp only[*,go_sem]) ih rfl rfl dQ dQ g6 g8 rfl g7 (by decide) (by decide) (fun oi ev bs G H oj=>?_)
    simp only[List.append_nil,List.cons_append,List.nil_append,List.append_assoc] at H
    subst G
    rw[<-et] at bs;clear et
    obtain ⟨kl,km,rfl,kn⟩:=bs.len
    refine ⟨⟨B,(a5,ic (i109:Int))::(a4,.cells #[.int .i64 a.aQ,.bool a.bh] 91)::(F,.cells #[.int .i64 a.aQ,.bool a.bh] 91)::(z,bl b.1 c d f (sl d103 g u))::(s,bl b.1 c d f q)::(o,bk u0 s1 i j (sl (some E) u0.told k))::(a6++(ev++w))⟩,Le.refl _,?_⟩
    refine ⟨by simp only[*,go_sem],bN ?_⟩
    try simp only[*,go_sem]
    have bj:=cm (n:=i109) (by have:=ab;omega)
    refine ag hJ ?_
    simp only[*,go_sem]
    refine ⟨u0.told.length - (i109+1),by omega,_,Le.sub (List.Sublist.cons _ (List.Sublist.cons _ (List.Sublist.cons _ (List.Sublist.refl _)))),i109+1,ix,j1,a6,kl,km,ev,h8,kh,rfl,by omega,ar,rfl,br,j2,bs,kn,?_⟩
    simp only[*,go_sem]
   obtain rfl:=sI h
   refine aF hJ ?_
   have bj:=cm (n:=i109) (by have:=ab;omega)
   refine ag hJ ?_
   simp only[*,go_sem]
   refine ⟨u0.told.length - (i109+1),by omega,_,Le.sub (List.Sublist.cons _ (List.Sublist.refl _)),i109+1,d96,M,X,d103,u,C,D,g,rfl,by omega,ar,rfl,Y,hh,N,hi,?_⟩
   simp only[*,go_sem]
  have ox:=Nat.not_lt.2 da
  refine bL hJ (by simp only[*,go_sem]) ?_
  rw[List.drop_eq_nil_of_le da] at R
  obtain rfl:=sI R;clear R
  have h:=hf
  dsimp only[aG] at h
  refine bU ?_
  simp only[go_sem]
  refine aa hJ ?_
  refine aL hJ fun kp=>?_
  refine ag hJ ?_
  revert h;refine bS fun oy ks h=>?_
  simp only[*,go_sem]
  refine aM hJ _ (A7 (⟨b.1.aZ,b.1.bD,b.1.aR,b.1.aj,b.1.props,b.1.aE,g⟩:ak) ⟨(P.e.mono aH),(P.p.mono aH),(P.y.mono aH),(N.AU ((z,bl b.1 c d f (sl d103 g u))::(s,bl b.1 c d f q)::(o,bk u0 s1 i j (sl d24 u0.told k))::X) w (by first|rfl|simp only[List.append_nil,List.cons_append,List.nil_append,List.append_assoc]|(simp only[List.append_nil,List.cons_append,List.nil_append,List.append_assoc];rfl)) kp)⟩ ks) (aD ?_)
  try simp only[*,go_sem]
  revert h;refine jC hJ (by simp only[*,go_sem]) (fun kt h=>?_) fun kt h=>?_
  ·refine aL hJ fun eQ=>?_
   obtain ⟨eS,bz,Z,e0,kv⟩:=Y.lB ((z,bl b.1 c d f (sl d103 g u))::(s,bl b.1 c d f q)::(o,bk u0 s1 i j (sl d24 u0.told k))::(C++w)) [(z,bl b.1 c d f (sl d103 g u)),(s,bl b.1 c d f q),(o,bk u0 s1 i j (sl d24 u0.told k))] (C++w) (by first|rfl|simp only[List.append_nil,List.cons_append,List.nil_append,List.append_assoc]|(simp only[List.append_nil,List.cons_append,List.nil_append,List.append_assoc];rfl)) (by first|rfl|simp only[List.append_nil,List.cons_append,List.nil_append,List.append_assoc]|(simp only[List.append_nil,List.cons_append,List.nil_append,List.append_assoc];rfl)) eQ (aA.cons ha (aA.cons Q (aA.cons L (aA.app N.jE (U.jE)))))
   clear eQ
   refine cH hJ kv ?_
   obtain ⟨o0,o1,-⟩:=e0.op
   replace Q:=Z.tl.hd
   replace L:=Z.tl.tl.hd
   replace N:=N.mono bz Z.tl.tl.tl.l
   replace U:=U.mono bz Z.tl.tl.tl.r
   simp only[bf] at Z
   refine aL hJ fun kx=>?_
   refine ag hJ ?_
   revert h;refine bS fun ky k0 h=>?_
   obtain rfl:=sI h
   obtain ⟨k2,e1⟩:=cT k0
   simp only[*,go_sem]
   refine ax fun e3 lb fa=>?_;have lh:=aN.cons fa kx;try simp only[au] at fa
   try simp only[*,go_sem]
   refine dG (r:=(rL rI)) (l:=I) (x:=D) (cs:=#[.slice d96 D.length M]) (e2:=64) ((e3,.cells #[.slice d96 D.length M] 64)::(z,bl b.1 c d f (sl d103 g u))::(s,bl b.1 c d f q)::(o,bk u0 s1 i j (sl d24 u0.told k))::C) [] U lh k2 ⟨_,rfl,e0⟩ (by simp only[*,go_sem]) lb rfl rfl lz lz rP rR rfl rQ (by decide) (by decide) (fun o2 fb b0 G H o4=>?_)
   simp only[List.append_nil,List.cons_append,List.nil_append,List.append_assoc] at H
   subst G
   rw[<-e1] at b0;clear e1
   obtain ⟨lj,lk,rfl,ll⟩:=b0.len
   refine ⟨⟨eS,(e3,.cells #[.slice d96 D.length M] 64)::(z,bl b.1 c d f (sl d103 g u))::(s,bl b.1 c d f q)::(o,bk u0 s1 i j (sl d24 u0.told k))::(C++fb)⟩,Le.refl _,?_⟩
   refine aD ?_
   try simp only[*,go_sem]
   refine aL hJ fun pa=>?_
   refine ag hJ ?_
   simp only[*,go_sem]
   refine ⟨al,Nat.lt_succ_self _,_,Le.sub (List.Sublist.cons _ (List.Sublist.cons _ (List.Sublist.cons₂ _ (List.Sublist.cons₂ _ ((List.Sublist.refl _).trans (List.sublist_append_right _ _)))))),eS,lj,lk,fb,ky,(IntKind.i64.wrap (T+1)),ao,rfl,(W.trans bz),b0,ll,?_⟩
   simp only[*,go_sem]
  obtain rfl:=sI h
  refine aF hJ ?_
  refine aL hJ fun pb=>?_
  refine ag hJ ?_
  simp only[*,go_sem]
  refine ⟨al,Nat.lt_succ_self _,_,Le.sub (List.Sublist.cons _ (List.Sublist.cons₂ _ (List.Sublist.cons₂ _ (((List.Sublist.refl _).trans (List.sublist_append_right _ _)).trans (List.sublist_append_right _ _))))),B,d71,S,w,I,(IntKind.i64.wrap (T+1)),ao,rfl,W,U,g0,?_⟩
  simp only[*,go_sem]
 obtain rfl:=sI h
 refine bU ?_
 simp only[go_sem]
 obtain rfl:=sI ao;clear ao
 have h:=gT
 dsimp only[aG] at h
 refine aa hJ ?_
 refine aL hJ fun ff=>?_
 obtain ⟨pd,ln,b1,b2,lo⟩:=U.lB ((s,bl b.1 c d f q)::(o,bk u0 s1 i j (sl d24 u0.told k))::[]) [(s,bl b.1 c d f q),(o,bk u0 s1 i j (sl d24 u0.told k))] [] (by first|rfl|simp only[List.append_nil,List.cons_append,List.nil_append,List.append_assoc]|(simp only[List.append_nil,List.cons_append,List.nil_append,List.append_assoc];rfl)) (by first|rfl|simp only[List.append_nil,List.cons_append,List.nil_append,List.append_assoc]|(simp only[List.append_nil,List.cons_append,List.nil_append,List.append_assoc];rfl)) ff (aA.cons Q (aA.cons L (aA.nil _)))
 clear ff
 refine cH hJ lo ?_
 obtain ⟨pf,ph,-⟩:=b2.op
 replace Q:=b1.hd
 replace L:=b1.tl.hd
 simp only[bf] at b1
 refine cY hJ mixed 5 2 (by simp only[*,go_sem]) (by kernel_rfl) ?_
 revert h;refine bS fun lr lv h=>?_
 obtain ⟨pj,pk,fg⟩:=cw lv
 obtain ⟨po,pr,lx,ly,fi⟩:=b2.el _ _ fg
 obtain ⟨ps,rfl,fl⟩:=ly;obtain ⟨pt,pv,rfl,pw,px,py⟩:=id fl
 cases lx
 have lL:=fi 0 _ rfl;simp only[go_sem] at lL
 clear fi fg
 revert h;refine bS fun l1 l2 h=>?_
 obtain ⟨pA,pB,pC,fp⟩:=j9 l2
 have fq:(1:Int).toNat<=((I.length:Int)).toNat:=by omega
 have l3:((I.length:Int)).toNat<=S:=by omega
 have pD:0<=((I.length:Int)):=by omega
 obtain ⟨pT,l4,ma,fr⟩:=aB.kg b2 (1:Int).toNat ((I.length:Int)).toNat fq (by omega) fp
 simp only[go_sem] at l4 ma fq l3
 obtain ⟨_,_,hq,p0,p1,q0⟩:=id fr;cases hq
 clear fp
 revert h;refine bS fun q1 mf h=>?_
 obtain rfl:=sI h
 try simp only[*,go_sem]
 refine bV hJ _ (Ge (dH:=72) (dZ:=#[]) (ee:=#[]) iC ⟨by simp only[go_sem],fun ra rb mi _ ml _ _ mn mr h=>by simp only[go_sem];exact GM mi mn ml mr h⟩ lr fl l1 fr mf) fun v re fs b3 a7=>?_
 obtain ⟨rh,rfl,ft⟩:=a7
 replace Q:=b3.hd
 replace L:=b3.tl.hd
 simp only[bf] at b3
 obtain ⟨rk,rl,rfl,rn,rp,-⟩:=id ft
 have rr:=eo (l:=[(s,bl b.1 c d f q),(o,bk u0 s1 i j (sl d24 u0.told k))]) fs (aA.cons Q (aA.cons L (aA.nil _)))
 refine ⟨by simp only[*,go_sem],?_⟩
 refine mC ?_
 try simp only[*,go_sem]
 refine ay ?_
 simp only[*,go_sem]
 exact ⟨_,(((ad).trans W).trans ln).trans fs,Le.sub (List.nil_sublist _),_,rfl,ft⟩
def wZ (a:(cI×Int))(i93:Nat)(b:aO)(st:(List bA)):Option (Fl (List bA) (av×av×Bool×Int)):=
 ah (lJ a.1.book b) fun c=>ah (cB st ([c])) fun d=>some (.nx d)
def w5 (u0:ak):Option (av×av×Bool×Int):=
 ah (gO u0 ([]:(List (ak->Option Int)))) fun a=>cond ((a.2 != 0)) (some ((⟨0,0⟩:av),(⟨0,0⟩:av),false,a.2)) (ah (s3 a.1) fun g=>ah (bG (wZ a) 0 g ([]:List bA)) fun o=>aG o (fun b=>ah (bw b 0) fun c=>ah (eA b 1 (b.length:Int)) fun d=>ah (kF gN c d) fun h=>ah (kF sj c d) fun i=>ah (jI h.high u0.aR) fun e=>ah (jH i.high u0.aR) fun f=>ah (eL f e) fun j=>cond (j) (some ((⟨0,0⟩:av),(⟨0,0⟩:av),false,0)) (some (e,f,true,0))) (fun _ _=>none) (fun r=>some r))
theorem GQ {ro:Addr->Option Value}(bl:cU ro)(u0:ak){s1 f g i:Value}(ab:bI ro u0 s1 f g i){r:(av×av×Bool×Int)}(h:w5 u0=some r):aC Tryz.prog 46 #[bv u0 s1 f g i] ⟨ro,[]⟩ (fun v _=>v= .tuple #[r.1.v,r.2.1.v,.bool r.2.2.1,.int .i64 r.2.2.2]):=by
 unfold w5 at h
 have bm:=ab.oc;simp only[bC] at bm
 refine aC.go Tryz.func46 rfl Tryz.ntmps46 Tryz.results46 (by simp) fun main J hJ A bo hd hs=>?_
 have br:=hs 0
 clear hs
 refine aa hJ (ag hJ ?_)
 simp only[*,go_sem]
 refine ax fun j L bs=>?_;try simp only[au] at bs
 refine ax fun z M bz=>?_;try simp only[au] at bz
 refine ax fun B N b0=>?_;try simp only[au] at b0
 try simp only[*,go_sem]
 refine aa hJ (ag hJ ?_)
 revert h;refine bS fun d b1 h=>?_
 simp only[*,go_sem]
 refine bV hJ _ (jL bl u0 ab ([]:(List (ak->Option Int))) (aB.nil _ _) b1) fun v gn gp I O=>?_
 obtain ⟨k,o,p,q,s,rfl,D,ad⟩:=O
 have b2:=D.oc;simp only[bC] at b2
 have b3:=ad.oc;simp only[bC] at b3
 replace N:=I.hd
 replace M:=I.tl.hd
 replace L:=I.tl.tl.hd
 simp only[bf] at I
 refine aD ?_
 try simp only[*,go_sem]
 refine ax fun t ae b4=>?_;try simp only[au] at b4
 try simp only[*,go_sem]
 refine aa hJ (aa hJ (ag hJ ?_))
 simp only[*,go_sem]
 revert h;refine jC hJ (by simp only[*,go_sem]) (fun b5 h=>?_) fun b5 h=>?_
 ·obtain rfl:=sI h
  refine aa hJ (ag hJ ?_)
  simp only[*,go_sem]
  refine ay ?_
  simp only[*,go_sem]
 refine aF hJ (aa hJ ?_)
 refine ag hJ ?_
 simp only[*,go_sem]
 refine aa hJ (aa hJ (ag hJ ?_))
 revert h;refine bS fun u ca h=>?_
 simp only[*,go_sem]
 refine bV hJ _ (Bf d.1 D ad ca) fun v P cb E O=>?_
 obtain ⟨gB,rfl,al⟩:=O
 replace D:=D.mono cb
 replace ae:=E.hd
 replace N:=E.tl.hd
 replace M:=E.tl.tl.hd
 replace L:=E.tl.tl.tl.hd
 simp only[bf] at E
 obtain ⟨d81,gC,rfl,gM,cd,-⟩:=id al
 refine aD ?_
 try simp only[*,go_sem]
 refine aU hJ ?_
 revert h;refine bS fun cf w cl=>?_
 refine bX hJ [7,9,25,26,27,28,29,30,31,32,33,34,35,36] (fun m ao F'=>∃(i93:Nat) (d87:Option Addr) (G:Nat) (Q:List (Nat×Obj)) (e:(List bA)),m=u.length - i93/\i93<=u.length/\bG (wZ d) i93 (u.drop i93) e=some cf/\F'=⟨P,(t,kn d.1 k o p q s)::(B,rt 0 0)::(z,rt 0 0)::(j,bk u0 s1 f g i)::Q⟩/\aW kC P 107 (.slice d87 e.length G) e Q/\e.length<=G/\slot ao 25= .int .i64 (i93:Int)/\slot ao 7= .slice d87 e.length G) u.length ?_ ?_
 ·refine ⟨0,none,0,[],([]:List bA),(Nat.sub_zero _).symm,Nat.zero_le _,w,rfl,aW.nil _ _ _,Nat.le_refl _,?_⟩
  simp only[*,go_sem]
 rintro gT gV F' ar ⟨i93,d87,G,Q,e,rfl,g0,w,rfl,a0,g1,g2,g3⟩
 obtain ⟨cy,cS,c0⟩:=ar.pick [1,2,3,4,5,6,23,24] (by decide)
 simp only[*,go_sem] at cy cS c0
 clear ar bo hd br
 refine aa hJ (ag hJ ?_)
 simp only[*,go_sem]
 refine aa hJ ?_
 rcases Nat.lt_or_ge i93 u.length with da|a2
 ·refine bK hJ (by simp only[*,go_sem]) ?_
  refine aF hJ ?_
  obtain ⟨C,R⟩:∃x,u[i93]?=some x:=⟨_,List.getElem?_eq_getElem da⟩
  rw[c5 R] at w
  revert w;refine bS fun g4 h db=>?_
  unfold wZ at h
  try dsimp only at h
  obtain ⟨ha,dd,df,dk,S⟩:=al.el _ _ R
  obtain rfl:dd=C.cells:=dk
  cases df
  have dp:=S 0 _ rfl;simp only[go_sem] at dp
  have dq:=S 1 _ rfl;simp only[go_sem] at dq
  clear S R
  refine aa hJ (aU hJ (aa hJ ?_))
  refine aL hJ fun ds=>?_
  refine ag hJ ?_
  simp only[*,go_sem]
  refine ax fun a3 hc a4=>?_;have hf:=aN.cons a4 ds;try simp only[au] at a4
  try simp only[*,go_sem]
  refine aL hJ fun dt=>?_
  refine ag hJ ?_
  revert h;refine bS fun a du h=>?_
  simp only[*,go_sem]
  refine aM hJ _ (sx d.1.book (D.mono aH) C du) (aD ?_)
  revert h;refine bS fun dv dC h=>?_
  obtain rfl:=sI h
  obtain ⟨dE,a5⟩:=cT dC
  try simp only[*,go_sem]
  refine ax fun a6 dT a7=>?_;have ea:=aN.cons a7 dt;try simp only[au] at a7
  try simp only[*,go_sem]
  refine dG (r:=kC) (l:=e) (x:=a) (cs:=#[.int .i64 a.spot.an,.int .i64 a.spot.high.num,.int .i64 a.spot.high.den,.int .i64 a.at_,.int .i64 a.high.num,.int .i64 a.high.den]) (e2:=107) [(a6,.cells #[.int .i64 a.spot.an,.int .i64 a.spot.high.num,.int .i64 a.spot.high.den,.int .i64 a.at_,.int .i64 a.high.num,.int .i64 a.high.den] 107),(a3,.cells #[.int .i64 C.back,.int .i64 C.high] 103),(t,kn d.1 k o p q s),(B,rt 0 0),(z,rt 0 0),(j,bk u0 s1 f g i)] [] a0 ea dE rfl (by simp only[*,go_sem]) dT rfl rfl nU nU vE vG rfl vF (by decide) (by decide) (fun hg a8 T eb ec hh=>?_)
  simp only[List.append_nil,List.cons_append,List.nil_append,List.append_assoc] at ec
  subst eb
  rw[<-a5] at T;clear a5
  obtain ⟨d115,ed,rfl,eh⟩:=T.len
  refine ⟨⟨P,(a6,.cells #[.int .i64 a.spot.an,.int .i64 a.spot.high.num,.int .i64 a.spot.high.den,.int .i64 a.at_,.int .i64 a.high.num,.int .i64 a.high.den] 107)::(a3,.cells #[.int .i64 C.back,.int .i64 C.high] 103)::(t,kn d.1 k o p q s)::(B,rt 0 0)::(z,rt 0 0)::(j,bk u0 s1 f g i)::a8⟩,Le.refl _,?_⟩
  refine aD ?_
  try simp only[*,go_sem]
  have hi:=cm (n:=i93) (by have:=cd;omega)
  refine ag hJ ?_
  simp only[*,go_sem]
  refine ⟨u.length - (i93+1),by omega,_,Le.sub (List.Sublist.cons _ (List.Sublist.cons _ (List.Sublist.refl _))),i93+1,d115,ed,a8,dv,rfl,by omega,db,rfl,T,eh,?_⟩
  simp only[*,go_sem]
 have hj:=Nat.not_lt.2 a2
 refine bL hJ (by simp only[*,go_sem]) ?_
 rw[List.drop_eq_nil_of_le a2] at w
 obtain rfl:=sI w;clear w
 have h:=cl
 dsimp only[aG] at h
 refine bU ?_
 simp only[go_sem]
 refine aa hJ ?_
 refine aL hJ fun a9=>?_
 obtain ⟨K,hk,et,U,ev⟩:=a0.eB [(t,kn d.1 k o p q s),(B,rt 0 0),(z,rt 0 0),(j,bk u0 s1 f g i)] [] a9 (aA.cons ae (aA.cons N (aA.cons M (aA.cons L (aA.nil _)))))
 clear a9
 refine cH hJ ev ?_
 obtain ⟨hl,hn,-⟩:=U.op
 simp only[bf] at et
 refine e5 hJ mixed 6 ⟨K,[(t,kn d.1 k o p q s),(B,rt 0 0),(z,rt 0 0),(j,bk u0 s1 f g i)]⟩ (by simp only[*,go_sem]) (by kernel_rfl) ?_
 revert h;refine bS fun V eQ h=>?_
 obtain ⟨ho,hp,ba⟩:=cw eQ
 obtain ⟨hr,eS,e0,e1,y⟩:=U.el _ _ ba
 obtain rfl:eS=V.cells:=e1
 cases e0
 have e3:=y 0 _ rfl;simp only[go_sem] at e3
 have fa:=y 1 _ rfl;simp only[go_sem] at fa
 have fb:=y 2 _ rfl;simp only[go_sem] at fb
 have ff:=y 3 _ rfl;simp only[go_sem] at ff
 have fg:=y 4 _ rfl;simp only[go_sem] at fg
 have fi:=y 5 _ rfl;simp only[go_sem] at fi
 clear y ba
 revert h;refine bS fun bb fl h=>?_
 obtain ⟨ht,hv,hx,bc⟩:=j9 fl
 have bd:(1:Int).toNat<=((e.length:Int)).toNat:=by omega
 have fp:((e.length:Int)).toNat<=G:=by omega
 have hy:0<=((e.length:Int)):=by omega
 obtain ⟨d132,fq,fr,W⟩:=aB.kg U (1:Int).toNat ((e.length:Int)).toNat bd (by omega) bc
 simp only[go_sem] at fq fr bd fp
 obtain ⟨_,_,hq,hz,hA,hB⟩:=id W;cases hq
 clear bc
 revert h;refine bS fun b fs h=>?_
 try simp only[*,go_sem]
 refine ⟨_,bE hJ fun F H=>si (dH:=62) (dZ:=#[]) (ee:=#[]) gN ⟨by simp only[go_sem],fun ft fu X Y _ h=>by simp only[go_sem];exact r8 X Y h⟩ V bb (W.mono (cc H)) fs,?_⟩
 try simp only[*,go_sem]
 refine ax fun Z hD fv=>?_;try simp only[au] at fv
 try simp only[*,go_sem]
 refine aa hJ ?_
 refine e5 hJ mixed 6 ⟨K,[(Z,.cells #[.int .i64 b.spot.an,.int .i64 b.spot.high.num,.int .i64 b.spot.high.den,.int .i64 b.at_,.int .i64 b.high.num,.int .i64 b.high.den] 107),(t,kn d.1 k o p q s),(B,rt 0 0),(z,rt 0 0),(j,bk u0 s1 f g i)]⟩ (by simp only[*,go_sem]) (by kernel_rfl) ?_
 revert h;refine bS fun c fw h=>?_
 simp only[*,go_sem]
 refine ⟨_,bE hJ fun F H=>si (dH:=86) (dZ:=#[]) (ee:=#[]) sj ⟨by simp only[go_sem],fun ft fu X Y _ h=>by simp only[go_sem];exact F7 X Y h⟩ V bb (W.mono (cc H)) fw,?_⟩
 try simp only[*,go_sem]
 refine ax fun bj hE fx=>?_;try simp only[au] at fx
 try simp only[*,go_sem]
 refine aa hJ ?_
 refine e5 hJ mixed 10 ⟨K,[(bj,.cells #[.int .i64 c.spot.an,.int .i64 c.spot.high.num,.int .i64 c.spot.high.den,.int .i64 c.at_,.int .i64 c.high.num,.int .i64 c.high.den] 107),(Z,.cells #[.int .i64 b.spot.an,.int .i64 b.spot.high.num,.int .i64 b.spot.high.den,.int .i64 b.at_,.int .i64 b.high.num,.int .i64 b.high.den] 107),(t,kn d.1 k o p q s),(j,bk u0 s1 f g i)]⟩ (by simp only[*,go_sem]) (by kernel_rfl) ?_
 revert h;refine bS fun fP fQ h=>?_
 simp only[*,go_sem]
 refine ⟨_,bE hJ fun F H=>qf b.high u0.aR fQ,b9 ?_⟩
 revert h;refine bS fun fS fU h=>?_
 try simp only[*,go_sem]
 refine ⟨_,bE hJ fun F H=>qe c.high u0.aR fU,?_⟩
 try simp only[*,go_sem]
 refine aa hJ (aa hJ (ag hJ ?_))
 revert h;refine bS fun hF gg h=>?_
 simp only[*,go_sem]
 refine aM hJ _ (jd fS fP gg) ?_
 try simp only[*,go_sem]
 revert h;refine jC hJ (by simp only[*,go_sem]) (fun gl h=>?_) fun gl h=>?_
 ·obtain rfl:=sI h
  refine aa hJ (ag hJ ?_)
  simp only[*,go_sem]
  refine ay ?_
  simp only[*,go_sem]
 refine aF hJ (aa hJ ?_)
 refine fN hJ mixed [] (.two 0 (.two 1 (.one 2 (.one 3 (.pure 4 (.pure 5 .done)))) 2 (.one 1 (.one 3 (.pure 4 (.pure 5 .done))))) 1 (.one 0 (.one 2 (.one 3 (.pure 4 (.pure 5 .done)))))) ⟨K,[(bj,.cells #[.int .i64 c.spot.an,.int .i64 c.spot.high.num,.int .i64 c.spot.high.den,.int .i64 c.at_,.int .i64 c.high.num,.int .i64 c.high.den] 107),(Z,.cells #[.int .i64 b.spot.an,.int .i64 b.spot.high.num,.int .i64 b.spot.high.den,.int .i64 b.at_,.int .i64 b.high.num,.int .i64 b.high.den] 107),(t,kn d.1 k o p q s),(j,bk u0 s1 f g i)]⟩ (by simp only[*,go_sem]) (by kernel_rfl) ?_
 simp only[*,go_sem]
 refine kz ?_ ?_
 ·simp only[*,go_sem]
  refine kz ?_ ?_
  ·obtain rfl:=sI h
   simp only[*,go_sem]
   refine ay ?_
   simp only[*,go_sem]
  obtain rfl:=sI h
  simp only[*,go_sem]
  refine ay ?_
  simp only[*,go_sem]
 obtain rfl:=sI h
 simp only[*,go_sem]
 refine ay ?_
 simp only[*,go_sem]
def s4 (u0:ak)(b:Int):Option ((List Int)×Int):=
 ah (gO u0 ([(fo b)])) fun a=>cond ((a.2 != 0)) (some (([]:(List Int)),a.2)) (ah (oA a.1 b) fun c=>some (c,0))
theorem w6 {ro:Addr->Option Value}(g:cU ro)(u0:ak){s1 i j k:Value}(f:bI ro u0 s1 i j k)(a:Int){r:((List Int)×Int)}(h:s4 u0 a=some r):en Tryz.prog 41 #[bv u0 s1 i j k,.int .i64 a] ro (fun v aK=>∃m,v= .tuple #[m,.int .i64 r.2]/\aB rI aK m r.1):=by
 unfold s4 at h
 have D:=f.oc;simp only[bC] at D
 refine aC.go Tryz.func41 rfl Tryz.ntmps41 Tryz.results41 (by simp) fun main J hJ A Y hd hs=>?_
 have Z:=hs 0
 have k1:=hs 1
 clear hs
 refine aa hJ (ag hJ ?_)
 simp only[*,go_sem]
 refine ax fun E F G=>?_;try simp only[au] at G
 try simp only[*,go_sem]
 refine aa hJ ?_
 refine aL hJ fun H=>?_
 refine ag hJ ?_
 revert h;refine bS fun I K h=>?_
 simp only[*,go_sem]
 refine ax fun c n p=>?_;have q:=aN.cons p H;try simp only[au] at p
 try simp only[*,go_sem]
 obtain ⟨d,s,t⟩:=ga (b:=c) (o:=(.cells #[.func (.func 77) #[.int .i64 a] #[]] 102)) [] ((E,bk u0 s1 i j k)::[]) q n (aA.cons F (aA.nil _))
 have u:aB (cV) (bO ro c (.cells #[.func (.func 77) #[.int .i64 a] #[]] 102)) (.slice (some ⟨c,0,none⟩) 1 1) [(fo a)]:=(aB.one (r:=(cV)) (e:=102) (cs:=#[.func (.func 77) #[.int .i64 a] #[]]) (x:=(fo a)) (own:=[(c,.cells #[.func (.func 77) #[.int .i64 a] #[]] 102)]) n (by simp[lk]) ⟨77,#[.int .i64 a],#[],rfl,⟨by simp only[go_sem],fun ab ad L _ _ _ _ _ M N O P h=>by simp only[go_sem];exact se a L ⟨M,N,O,P⟩ h⟩⟩)
 generalize bO ro c (.cells #[.func (.func 77) #[.int .i64 a] #[]] 102)=ae at u s d t
 refine g5 hJ t ?_
 replace f:=f.mono d
 replace g:=g.mono d
 simp only[bf] at s
 have Q:=aN.tl q
 refine bV hJ _ (jL g u0 f ([(fo a)]) u K) fun v al w R l=>?_
 obtain ⟨ao,ar,a0,a2,a3,rfl,y,z⟩:=l
 have S:=y.oc;simp only[bC] at S
 have T:=z.oc;simp only[bC] at T
 simp only[bf] at R
 refine aD ?_
 try simp only[*,go_sem]
 refine ax fun a4 a5 B=>?_;have a6:=aN.cons B Q;try simp only[au] at B
 try simp only[*,go_sem]
 refine aa hJ (aa hJ (ag hJ ?_))
 simp only[*,go_sem]
 revert h;refine jC hJ (by simp only[*,go_sem]) (fun U h=>?_) fun U h=>?_
 ·obtain rfl:=sI h
  refine aa hJ (ag hJ ?_)
  simp only[*,go_sem]
  refine ay ?_
  simp only[*,go_sem]
  exact ⟨_,(d).trans w,Le.sub (List.nil_sublist _),_,rfl,aB.nil _ _⟩
 refine aF hJ (aa hJ ?_)
 refine ag hJ ?_
 revert h;refine bS fun a7 V h=>?_
 obtain rfl:=sI h
 simp only[*,go_sem]
 refine bV hJ _ (s0 I.1 y z a V) fun v a8 W X l=>?_
 obtain ⟨a9,rfl,C⟩:=l
 simp only[bf] at X
 obtain ⟨d89,ba,rfl,bb,bc,-⟩:=id C
 refine aD ?_
 try simp only[*,go_sem]
 refine ay ?_
 simp only[*,go_sem]
 exact ⟨_,((d).trans w).trans W,Le.sub (List.nil_sublist _),_,rfl,C⟩
def w7 (a:(cI×Int))(i80:Nat)(i102:Nat)(c:Int)(st:(Int×av)):Option (Fl (Int×av) (Int×av×Int)):=
 ah (iA a.1.book (i80:Int) c) fun b=>ah (gv a.1.book b) fun d=>cond (d) (ah (kG a.1.book b) fun e=>ah (eL st.2 e) fun f=>cond (f) (ah (kG a.1.book b) fun g=>some (.nx ((i80:Int),g))) (some (.nx (st.1,st.2)))) (some (.nx (st.1,st.2)))
def w8 (a:(cI×Int))(i80:Nat)(d:b6)(st:(Int×av)):Option (Fl (Int×av) (Int×av×Int)):=
 ah (oA a.1 (i80:Int)) fun c=>ah (bG (w7 a i80) 0 c (st.1,st.2)) fun o=>aG o (fun b=>some (.nx (b.1,b.2))) (fun _ _=>none) (fun r=>some (.rt r))
def s5 (u0:ak):Option (Int×av×Int):=
 ah (gO u0 ([]:(List (ak->Option Int)))) fun a=>cond ((a.2 != 0)) (some (0,(⟨0,0⟩:av),a.2)) (ah (gr 0) fun c=>ah (bG (w8 a) 0 a.1.book.aE ((-1),c)) fun o=>aG o (fun b=>some (b.1,b.2,0)) (fun _ _=>none) (fun r=>some r))
theorem Bg {ro:Addr->Option Value}(ar:cU ro)(u0:ak){s1 j k l:Value}(R:bI ro u0 s1 j k l){r:(Int×av×Int)}(h:s5 u0=some r):aC Tryz.prog 45 #[bv u0 s1 j k l] ⟨ro,[]⟩ (fun v _=>v= .tuple #[.int .i64 r.1,r.2.1.v,.int .i64 r.2.2]):=by
 unfold s5 at h
 have a0:=R.oc;simp only[bC] at a0
 refine aC.go Tryz.func45 rfl Tryz.ntmps45 Tryz.results45 (by simp) fun main J hJ A a2 hd hs=>?_
 have a3:=hs 0
 clear hs
 refine aa hJ (ag hJ ?_)
 simp only[*,go_sem]
 refine ax fun w ev a4=>?_;try simp only[au] at a4
 refine ax fun z eQ a5=>?_;try simp only[au] at a5
 try simp only[*,go_sem]
 refine aa hJ (ag hJ ?_)
 revert h;refine bS fun a a6 h=>?_
 simp only[*,go_sem]
 refine bV hJ _ (jL ar u0 R ([]:(List (ak->Option Int))) (aB.nil _ _) a6) fun v S eS a7 B=>?_
 obtain ⟨C,D,e0,E,G,rfl,b,p⟩:=B
 have a8:=b.oc;simp only[bC] at a8
 have a9:=p.oc;simp only[bC] at a9
 simp only[bf] at a7
 obtain ⟨d52,H,rfl,e1,ba,-⟩:=id b.y
 refine aD ?_
 try simp only[*,go_sem]
 refine ax fun I e2 bb=>?_;try simp only[au] at bb
 try simp only[*,go_sem]
 refine aa hJ (aa hJ (ag hJ ?_))
 simp only[*,go_sem]
 revert h;refine jC hJ (by simp only[*,go_sem]) (fun bc h=>?_) fun bc h=>?_
 ·obtain rfl:=sI h
  refine aa hJ (ag hJ ?_)
  simp only[*,go_sem]
  refine ay ?_
  simp only[*,go_sem]
 refine aF hJ (aa hJ ?_)
 refine ag hJ ?_
 revert h;refine bS fun bd bj h=>?_
 simp only[*,go_sem]
 refine aM hJ _ (jG 0 bj) (aD ?_)
 try simp only[*,go_sem]
 refine aa hJ (aa hJ (ag hJ ?_))
 simp only[*,go_sem]
 refine aU hJ ?_
 revert h;refine bS fun bl e bm=>?_
 refine bX hJ [2,6,8,9,25,26,27,28,29,30,31,32,33,34,35,36,37,38,39,40,41,42,43,44,45,46,47,48,49,50,51,52,53,54,55,56,57,58,59] (fun m o F'=>∃(i80:Nat) (q:Addr->Option Value) (s:Int) (f:av),m=a.1.book.aE.length - i80/\i80<=a.1.book.aE.length/\bG (w8 a) i80 (a.1.book.aE.drop i80) (s,f)=some bl/\F'=⟨q,(I,kn a.1 C D (sl d52 a.1.book.aE H) E G)::(z,rt f.num f.den)::(w,bk u0 s1 j k l)::[]⟩/\Ext S q/\slot o 25= .int .i64 (i80:Int)/\slot o 2= .int .i64 s) a.1.book.aE.length ?_ ?_
 ·refine ⟨0,S,(-1),bd,(Nat.sub_zero _).symm,Nat.zero_le _,e,rfl,Ext.refl _,?_⟩
  simp only[*,go_sem]
 rintro e3 bo F' T ⟨i80,q,s,f,rfl,fa,e,rfl,K,br,bs⟩
 refine gb hJ fun _ bz=>?_
 replace b:=b.mono K
 replace p:=p.mono K
 simp only[bf] at bz
 obtain ⟨U,V,W⟩:=T.pick [3,4,5,24] (by decide)
 simp only[*,go_sem] at U V W
 clear T a2 hd a3
 refine aa hJ (ag hJ ?_)
 simp only[*,go_sem]
 refine aa hJ ?_
 rcases Nat.lt_or_ge i80 a.1.book.aE.length with b0|X
 ·refine bK hJ (by simp only[*,go_sem]) ?_
  refine aF hJ ?_
  obtain ⟨b1,L⟩:∃x,a.1.book.aE[i80]?=some x:=⟨_,List.getElem?_eq_getElem b0⟩
  rw[c5 L] at e
  revert e;refine bS fun fb h b2=>?_
  unfold w8 at h
  try dsimp only at h
  obtain ⟨b3,b4,b5,ca,t⟩:=b.y.el _ _ L
  obtain rfl:b4=b1.cells:=ca
  cases b5
  have cb:=t 0 _ rfl;simp only[go_sem] at cb
  have cd:=t 1 _ rfl;simp only[go_sem] at cd
  have cf:=t 2 _ rfl;simp only[go_sem] at cf
  clear t L
  refine aa hJ (aU hJ (aa hJ ?_))
  refine ag hJ ?_
  simp only[*,go_sem]
  refine aa hJ (ag hJ ?_)
  revert h;refine bS fun c cl h=>?_
  simp only[*,go_sem]
  refine bV hJ _ (s0 a.1 b p (i80:Int) cl) fun v Y Z cy B=>?_
  obtain ⟨ff,rfl,ab⟩:=B
  replace b:=b.mono Z
  simp only[bf] at cy
  obtain ⟨d95,fg,rfl,fi,M,-⟩:=id ab
  refine aD ?_
  try simp only[*,go_sem]
  refine aU hJ ?_
  revert h;refine bS fun c0 g da=>?_
  refine bX hJ [2,8,9,32,33,34,35,36,37,38,39,40,41,42,43,44,45,46,47,48,49,50,51,52,53,54,55,56,57,58] (fun m o F'=>∃(i102:Nat) (i:Int) (d:av),m=c.length - i102/\i102<=c.length/\bG (w7 a i80) i102 (c.drop i102) (i,d)=some c0/\F'=⟨Y,(I,kn a.1 C D (sl (some b3) a.1.book.aE H) E G)::(z,rt d.num d.den)::(w,bk u0 s1 j k l)::[]⟩/\slot o 32= .int .i64 (i102:Int)/\slot o 2= .int .i64 i) c.length ?_ ?_
  ·refine ⟨0,s,f,(Nat.sub_zero _).symm,Nat.zero_le _,g,rfl,?_⟩
   simp only[*,go_sem]
  rintro fl db F' N ⟨i102,i,d,rfl,fp,g,rfl,fq,fr⟩
  obtain ⟨dd,df,dk⟩:=N.pick [3,4,5,6,24,25,26,27,28,29,30,31] (by decide)
  simp only[*,go_sem] at dd df dk
  have fs:dB [2,6,8,9,25,26,27,28,29,30,31,32,33,34,35,36,37,38,39,40,41,42,43,44,45,46,47,48,49,50,51,52,53,54,55,56,57,58,59] db bo:=(N.jD (by decide)).trans (by simp only[*,go_sem])
  clear N U V W bs br
  refine aa hJ (ag hJ ?_)
  simp only[*,go_sem]
  refine aa hJ ?_
  rcases Nat.lt_or_ge i102 c.length with dp|ad
  ·refine bK hJ (by simp only[*,go_sem]) ?_
   refine aF hJ ?_
   obtain ⟨ae,O⟩:∃x,c[i102]?=some x:=⟨_,List.getElem?_eq_getElem dp⟩
   rw[c5 O] at g
   revert g;refine bS fun ft h P=>?_
   unfold w7 at h
   try dsimp only at h
   obtain ⟨fu,dq,ds,dt,al⟩:=ab.el _ _ O
   obtain rfl:dq=[.int .i64 ae]:=dt
   cases ds
   have du:=al 0 _ rfl;simp only[go_sem] at du
   clear al O
   refine aa hJ (aU hJ (aa hJ ?_))
   refine ag hJ ?_
   simp only[*,go_sem]
   refine aa hJ (ag hJ ?_)
   revert h;refine bS fun Q dv h=>?_
   simp only[*,go_sem]
   refine aM hJ _ (mN a.1.book (b.mono aH) (i80:Int) ae dv) (aD ?_)
   try simp only[*,go_sem]
   refine ax fun fv fw dC=>?_;try simp only[au] at dC
   try simp only[*,go_sem]
   refine aa hJ ?_
   refine cY hJ mixed 12 4 (by simp only[*,go_sem]) (by kernel_rfl) ?_
   revert h;refine bS fun fx dE h=>?_
   simp only[*,go_sem]
   refine ⟨_,bE hJ fun F u=>mU a.1.book (b.mono (cc u)) Q dE,b9 ?_⟩
   revert h;refine cS (fun dT h=>?_) fun dT h=>?_
   ·revert h;refine bS fun ea eb h=>?_
    try simp only[*,go_sem]
    refine ⟨_,bE hJ fun F u=>sA a.1.book (b.mono (cc u)) Q eb,b9 ?_⟩
    revert h;refine bS fun fP ec h=>?_
    try simp only[*,go_sem]
    refine ⟨_,bE hJ fun F u=>jd d ea ec,b9 ?_⟩
    try simp only[*,go_sem]
    revert h;refine jC hJ (by simp only[*,go_sem]) (fun ed h=>?_) fun ed h=>?_
    ·refine ag hJ ?_
     revert h;refine bS fun eh et h=>?_
     obtain rfl:=sI h
     simp only[*,go_sem]
     refine aM hJ _ (sA a.1.book (b.mono aH) Q et) (aD ?_)
     try simp only[*,go_sem]
     have ao:=cm (n:=i102) (by have:=M;omega)
     refine ag hJ ?_
     simp only[*,go_sem]
     refine ⟨c.length - (i102+1),by omega,_,Le.sub (List.Sublist.cons _ (List.Sublist.refl _)),i102+1,(i80:Int),eh,rfl,by omega,P,rfl,?_⟩
     simp only[*,go_sem]
    obtain rfl:=sI h
    refine aF hJ ?_
    have ao:=cm (n:=i102) (by have:=M;omega)
    refine ag hJ ?_
    simp only[*,go_sem]
    refine ⟨c.length - (i102+1),by omega,_,Le.sub (List.Sublist.cons _ (List.Sublist.refl _)),i102+1,i,d,rfl,by omega,P,rfl,?_⟩
    simp only[*,go_sem]
   obtain rfl:=sI h
   try simp only[*,go_sem]
   refine bL hJ (by simp only[*,go_sem]) ?_
   refine aF hJ ?_
   have ao:=cm (n:=i102) (by have:=M;omega)
   refine ag hJ ?_
   simp only[*,go_sem]
   refine ⟨c.length - (i102+1),by omega,_,Le.sub (List.Sublist.cons _ (List.Sublist.refl _)),i102+1,i,d,rfl,by omega,P,rfl,?_⟩
   simp only[*,go_sem]
  have fQ:=Nat.not_lt.2 ad
  refine bL hJ (by simp only[*,go_sem]) ?_
  rw[List.drop_eq_nil_of_le ad] at g
  obtain rfl:=sI g;clear g
  have h:=da
  dsimp only[aG] at h
  obtain rfl:=sI h
  refine bU ?_
  simp only[go_sem]
  have fS:=cm (n:=i80) (by have:=ba;omega)
  refine ag hJ ?_
  simp only[*,go_sem]
  refine ⟨a.1.book.aE.length - (i80+1),by omega,_,Le.sub (List.Sublist.refl _),i80+1,Y,i,d,rfl,by omega,b2,rfl,(K.trans Z),?_⟩
  simp only[*,go_sem]
 have fU:=Nat.not_lt.2 X
 refine bL hJ (by simp only[*,go_sem]) ?_
 rw[List.drop_eq_nil_of_le X] at e
 obtain rfl:=sI e;clear e
 have h:=bm
 dsimp only[aG] at h
 obtain rfl:=sI h
 refine bU ?_
 simp only[go_sem]
 refine aa hJ ?_
 refine fN hJ mixed [3,4] (.pure 0 (.rd 1 (.pure 2 (.last 3 (.pure 4 .done))))) ⟨q,[(I,kn a.1 C D (sl d52 a.1.book.aE H) E G),(z,rt f.num f.den),(w,bk u0 s1 j k l)]⟩ (by simp only[*,go_sem]) (by kernel_rfl) ?_
 simp only[*,go_sem]
 refine ay ?_
 simp only[*,go_sem]
def w9 (b:Int)(a:(cI×Int))(i103:Nat)(c:Int)(st:(List av)):Option (Fl (List av) (av×av×Int)):=
 ah (iA a.1.book b c) fun d=>ah (oa a.1.book d) fun e=>ah (cB st ([e])) fun f=>some (.nx f)
def xb (u0:ak)(b:Int):Option (av×av×Int):=
 ah (gO u0 ([(fo b)])) fun a=>cond ((a.2 != 0)) (some ((⟨0,0⟩:av),(⟨0,0⟩:av),a.2)) (ah (oA a.1 b) fun f=>ah (bG (w9 b a) 0 f ([]:List av)) fun o=>aG o (fun c=>ah (bw c 0) fun d=>ah (eA c 1 (c.length:Int)) fun e=>ah (iB sk d e) fun g=>ah (iB eL d e) fun h=>some (g,h,0)) (fun _ _=>none) (fun r=>some r))
theorem GR {ro:Addr->Option Value}(S:cU ro)(u0:ak){s1 f g i:Value}(P:bI ro u0 s1 f g i)(a:Int){r:(av×av×Int)}(h:xb u0 a=some r):aC Tryz.prog 42 #[bv u0 s1 f g i,.int .i64 a] ⟨ro,[]⟩ (fun v _=>v= .tuple #[r.1.v,r.2.1.v,.int .i64 r.2.2]):=by
 unfold xb at h
 have b3:=P.oc;simp only[bC] at b3
 refine aC.go Tryz.func42 rfl Tryz.ntmps42 Tryz.results42 (by simp) fun main J hJ A b4 hd hs=>?_
 have b5:=hs 0
 have k1:=hs 1
 clear hs
 refine aa hJ (ag hJ ?_)
 simp only[*,go_sem]
 refine ax fun j G ca=>?_;try simp only[au] at ca
 refine ax fun t H cb=>?_;try simp only[au] at cb
 refine ax fun u I cd=>?_;try simp only[au] at cd
 try simp only[*,go_sem]
 refine aa hJ ?_
 refine aL hJ fun cf=>?_
 refine ag hJ ?_
 revert h;refine bS fun d cl h=>?_
 simp only[*,go_sem]
 refine ax fun K al ao=>?_;have ar:=aN.cons ao cf;try simp only[au] at ao
 try simp only[*,go_sem]
 obtain ⟨T,L,a0⟩:=ga (b:=K) (o:=(.cells #[.func (.func 77) #[.int .i64 a] #[]] 102)) [] ((u,rt 0 0)::(t,rt 0 0)::(j,bk u0 s1 f g i)::[]) ar al (aA.cons I (aA.cons H (aA.cons G (aA.nil _))))
 have a2:aB (cV) (bO ro K (.cells #[.func (.func 77) #[.int .i64 a] #[]] 102)) (.slice (some ⟨K,0,none⟩) 1 1) [(fo a)]:=(aB.one (r:=(cV)) (e:=102) (cs:=#[.func (.func 77) #[.int .i64 a] #[]]) (x:=(fo a)) (own:=[(K,.cells #[.func (.func 77) #[.int .i64 a] #[]] 102)]) al (by simp[lk]) ⟨77,#[.int .i64 a],#[],rfl,⟨by simp only[go_sem],fun a3 a4 M _ _ _ _ _ cy cS c0 da h=>by simp only[go_sem];exact se a M ⟨cy,cS,c0,da⟩ h⟩⟩)
 generalize bO ro K (.cells #[.func (.func 77) #[.int .i64 a] #[]] 102)=gn at a2 L T a0
 refine g5 hJ a0 ?_
 replace P:=P.mono T
 replace I:=L.hd
 replace H:=L.tl.hd
 replace G:=L.tl.tl.hd
 replace S:=S.mono T
 simp only[bf] at L
 have db:=aN.tl ar
 refine bV hJ _ (jL S u0 P ([(fo a)]) a2 cl) fun v gp gB Q U=>?_
 obtain ⟨w,y,z,B,C,rfl,D,a5⟩:=U
 have dd:=D.oc;simp only[bC] at dd
 have df:=a5.oc;simp only[bC] at df
 replace I:=Q.hd
 replace H:=Q.tl.hd
 replace G:=Q.tl.tl.hd
 simp only[bf] at Q
 refine aD ?_
 try simp only[*,go_sem]
 refine ax fun E a6 a7=>?_;have gC:=aN.cons a7 db;try simp only[au] at a7
 try simp only[*,go_sem]
 refine aa hJ (aa hJ (ag hJ ?_))
 simp only[*,go_sem]
 revert h;refine jC hJ (by simp only[*,go_sem]) (fun dk h=>?_) fun dk h=>?_
 ·obtain rfl:=sI h
  refine aa hJ (ag hJ ?_)
  simp only[*,go_sem]
  refine ay ?_
  simp only[*,go_sem]
 refine aF hJ (aa hJ ?_)
 refine ag hJ ?_
 simp only[*,go_sem]
 refine aa hJ (aa hJ (ag hJ ?_))
 revert h;refine bS fun k dp h=>?_
 simp only[*,go_sem]
 refine bV hJ _ (s0 d.1 D a5 a dp) fun v R dq N U=>?_
 obtain ⟨gM,rfl,a8⟩:=U
 replace D:=D.mono dq
 replace a6:=N.hd
 replace I:=N.tl.hd
 replace H:=N.tl.tl.hd
 replace G:=N.tl.tl.tl.hd
 simp only[bf] at N
 obtain ⟨d91,gT,rfl,gV,ds,-⟩:=id a8
 refine aD ?_
 try simp only[*,go_sem]
 refine aU hJ ?_
 revert h;refine bS fun dt p du=>?_
 refine bX hJ [8,10,29,30,31,32,33,34,35,36,37,38,39,40,41,42,43,44] (fun m a9 F'=>∃(i103:Nat) (d97:Option Addr) (O:Nat) (V:List (Nat×Obj)) (c:(List av)),m=k.length - i103/\i103<=k.length/\bG (w9 a d) i103 (k.drop i103) c=some dt/\F'=⟨R,(E,kn d.1 w y z B C)::(u,rt 0 0)::(t,rt 0 0)::(j,bk u0 s1 f g i)::V⟩/\aW lD R 23 (.slice d97 c.length O) c V/\c.length<=O/\slot a9 29= .int .i64 (i103:Int)/\slot a9 8= .slice d97 c.length O) k.length ?_ ?_
 ·refine ⟨0,none,0,[],([]:List av),(Nat.sub_zero _).symm,Nat.zero_le _,p,rfl,aW.nil _ _ _,Nat.le_refl _,?_⟩
  simp only[*,go_sem]
 rintro g0 g1 F' ba ⟨i103,d97,O,V,c,rfl,g2,p,rfl,bb,g3,g4,ha⟩
 obtain ⟨dv,dC,dE⟩:=ba.pick [1,4,5,6,7,27,28] (by decide)
 simp only[*,go_sem] at dv dC dE
 clear ba b4 hd b5 k1
 refine aa hJ (ag hJ ?_)
 simp only[*,go_sem]
 refine aa hJ ?_
 rcases Nat.lt_or_ge i103 k.length with dT|bc
 ·refine bK hJ (by simp only[*,go_sem]) ?_
  refine aF hJ ?_
  obtain ⟨bd,W⟩:∃x,k[i103]?=some x:=⟨_,List.getElem?_eq_getElem dT⟩
  rw[c5 W] at p
  revert p;refine bS fun hc h ea=>?_
  unfold w9 at h
  try dsimp only at h
  obtain ⟨hf,eb,ec,ed,bj⟩:=a8.el _ _ W
  obtain rfl:eb=[.int .i64 bd]:=ed
  cases ec
  have eh:=bj 0 _ rfl;simp only[go_sem] at eh
  clear bj W
  refine aa hJ (aU hJ (aa hJ ?_))
  refine aL hJ fun hg=>?_
  refine ag hJ ?_
  simp only[*,go_sem]
  refine aL hJ fun et=>?_
  refine e5 hJ mixed 9 ⟨R,[(E,kn d.1 w y z B C),(u,rt 0 0),(t,rt 0 0),(j,bk u0 s1 f g i)]⟩ (by simp only[*,go_sem]) (by kernel_rfl) ?_
  revert h;refine bS fun ev eQ h=>?_
  simp only[*,go_sem]
  refine ⟨_,bE hJ fun F q=>mN d.1.book (D.mono (cc q)) a bd eQ,b9 ?_⟩
  revert h;refine bS fun s eS h=>?_
  try simp only[*,go_sem]
  refine ⟨_,bE hJ fun F q=>A0 d.1.book (D.mono (cc q)) ev eS,?_⟩
  revert h;refine bS fun e0 e1 h=>?_
  obtain rfl:=sI h
  obtain ⟨e3,bl⟩:=cT e1
  try simp only[*,go_sem]
  refine ax fun bm fa bo=>?_;have fb:=aN.cons bo et;try simp only[au] at bo
  try simp only[*,go_sem]
  refine dG (r:=lD) (l:=c) (x:=s) (cs:=#[.int .i64 s.num,.int .i64 s.den]) (e2:=23) [(bm,rt s.num s.den),(E,kn d.1 w y z B C),(u,rt 0 0),(t,rt 0 0),(j,bk u0 s1 f g i)] [] bb fb e3 rfl (by simp only[*,go_sem]) fa rfl rfl Aj Aj EO Af rfl EP (by decide) (by decide) (fun hh br X ff fg hi=>?_)
  simp only[List.append_nil,List.cons_append,List.nil_append,List.append_assoc] at fg
  subst ff
  rw[<-bl] at X;clear bl
  obtain ⟨d125,fi,rfl,fl⟩:=X.len
  refine ⟨⟨R,(bm,rt s.num s.den)::(E,kn d.1 w y z B C)::(u,rt 0 0)::(t,rt 0 0)::(j,bk u0 s1 f g i)::br⟩,Le.refl _,?_⟩
  refine ⟨by simp only[*,go_sem],mC ?_⟩
  try simp only[*,go_sem]
  have hj:=cm (n:=i103) (by have:=ds;omega)
  refine ag hJ ?_
  simp only[*,go_sem]
  refine ⟨k.length - (i103+1),by omega,_,Le.sub (List.Sublist.cons _ (List.Sublist.refl _)),i103+1,d125,fi,br,e0,rfl,by omega,ea,rfl,X,fl,?_⟩
  simp only[*,go_sem]
 have hk:=Nat.not_lt.2 bc
 refine bL hJ (by simp only[*,go_sem]) ?_
 rw[List.drop_eq_nil_of_le bc] at p
 obtain rfl:=sI p;clear p
 have h:=du
 dsimp only[aG] at h
 refine bU ?_
 simp only[go_sem]
 refine aa hJ ?_
 refine aL hJ fun hl=>?_
 refine ag hJ ?_
 simp only[*,go_sem]
 refine aa hJ ?_
 refine aL hJ fun bs=>?_
 obtain ⟨fp,hn,fq,Y,fr⟩:=bb.eB [(E,kn d.1 w y z B C),(u,rt 0 0),(t,rt 0 0),(j,bk u0 s1 f g i)] [] bs (aA.cons a6 (aA.cons I (aA.cons H (aA.cons G (aA.nil _)))))
 clear bs
 refine cH hJ fr ?_
 obtain ⟨ho,hp,-⟩:=Y.op
 simp only[bf] at fq
 refine e5 hJ mixed 13 ⟨fp,[(E,kn d.1 w y z B C),(j,bk u0 s1 f g i)]⟩ (by simp only[*,go_sem]) (by kernel_rfl) ?_
 revert h;refine bS fun Z fs h=>?_
 obtain ⟨hr,ht,bz⟩:=cw fs
 obtain ⟨hv,ft,fu,fv,ab⟩:=Y.el _ _ bz
 obtain rfl:ft=Z.cells:=fv
 cases fu
 have fw:=ab 0 _ rfl;simp only[go_sem] at fw
 have fx:=ab 1 _ rfl;simp only[go_sem] at fx
 clear ab bz
 revert h;refine bS fun b0 fP h=>?_
 obtain ⟨hx,hy,hz,b1⟩:=j9 fP
 have b2:(1:Int).toNat<=((c.length:Int)).toNat:=by omega
 have fQ:((c.length:Int)).toNat<=O:=by omega
 have hA:0<=((c.length:Int)):=by omega
 obtain ⟨d143,fS,fU,ad⟩:=aB.kg Y (1:Int).toNat ((c.length:Int)).toNat b2 (by omega) b1
 simp only[go_sem] at fS fU b2 fQ
 obtain ⟨_,_,hq,hB,hD,hE⟩:=id ad;cases hq
 clear b1
 revert h;refine bS fun hF gg h=>?_
 try simp only[*,go_sem]
 refine ⟨_,bE hJ fun F q=>n6 (dH:=79) (dZ:=#[]) (ee:=#[]) sk ⟨by simp only[go_sem],fun a3 a4 M ae _ h=>by simp only[go_sem];exact F8 M ae h⟩ Z b0 (ad.mono (cc q)) gg,b9 ?_⟩
 revert h;refine bS fun hG gl h=>?_
 obtain rfl:=sI h
 try simp only[*,go_sem]
 refine ⟨_,bE hJ fun F q=>n6 (dH:=80) (dZ:=#[]) (ee:=#[]) eL ⟨by simp only[go_sem],fun a3 a4 M ae _ h=>by simp only[go_sem];exact jd M ae h⟩ Z b0 (ad.mono (cc q)) gl,?_⟩
 try simp only[*,go_sem]
 refine ay ?_
 simp only[*,go_sem]
def kK (s:List aS)(y:aS):Bool:=s.any fun z=>z.e0==y.e0&&(z.e1==y.e1&&z.e2==y.e2)
def oB (y:aS)(s:List aS):Option (Fl (List aS) Unit):=some (.nx (cond (kK s y) s (s++[y])))
theorem xd {x y:aS}(h:x.v=y.v):x=y:=by
 obtain ⟨a,b,c⟩:=x
 obtain ⟨d,e,f⟩:=y
 simp only[aS.v,Value.agg.injEq,Array.mk.injEq,List.cons.injEq,Value.int.injEq,true_and,and_true] at h
 obtain ⟨rfl,rfl,rfl⟩:=h
 rfl
theorem xe {s:List aS}{y:aS}:kK s y=true↔y.v∈s.map aS.v:=by
 unfold kK
 simp only[List.any_eq_true,Bool.and_eq_true,beq_iff_eq,List.mem_map]
 constructor
 ·rintro ⟨z,d,h0,h1,h2⟩
  refine ⟨z,d,?_⟩
  obtain ⟨a,b,c⟩:=z
  obtain ⟨e,f,g⟩:=y
  simp only at h0 h1 h2
  subst h0 h1 h2
  rfl
 ·rintro ⟨z,d,h⟩
  obtain rfl:=xd h
  exact ⟨z,d,rfl,rfl,rfl⟩
theorem GU (x y:aS)(F:af):∃b,(∀(Q:Bool->af->Prop),Q b F->aT Tryz.prog (Op.equal 120 x.v y.v) Q F)/\(b=true↔y.v=x.v):=by
 have a:nM Tryz.prog 120=some [true,true,true]:=by kernel_rfl
 have he:mq Tryz.prog 120 x.v y.v=some (x.e0==y.e0&&(x.e1==y.e1&&(x.e2==y.e2&&true))):=by
  simp only[mq,aS.v,a,iS,gI,Bool.and_self,if_true]
 refine ⟨_,fun Q h=>(vk he h).1,?_⟩
 simp only[Bool.and_eq_true,beq_iff_eq,and_true]
 constructor
 ·rintro ⟨h0,h1,h2⟩
  simp only[aS.v,h0,h1,h2]
 ·intro h
  obtain rfl:=xd h
  exact ⟨rfl,rfl,rfl⟩
theorem GV (x:aS)(F:af)(Q:Unit->af->Prop)(h:Q () F):aT Tryz.prog (Instr.checkKey false 10000 120 x.v) Q F:=by
 have c:Tryz.prog.underlying 120=some (.array 3 3):=by kernel_rfl
 have d:Tryz.prog.underlying 3=some (.int .i64):=by kernel_rfl
 have f:bW Tryz.prog 3=some 1:=by kernel_rfl
 have g:cv Tryz.prog 3=some false:=by kernel_rfl
 have e:(10000:Nat)=9998+1+1:=rfl
 rw[e]
 unfold Instr.checkKey
 simp only[bn,dh,c,aS.v]
 simp only[Std.Legacy.Range.forIn_eq_forIn_range',Std.Legacy.Range.size,Nat.sub_zero,Nat.add_one_sub_one,Nat.div_one,List.range',List.forIn_cons,List.forIn_nil,bn,eN,f,part,mj,g,bF,Bool.false_eq_true,if_false,c9]
 have b:∀(k:IntKind) (a:Int) (Q:Unit->af->Prop) (G:af),Q () G->aT Tryz.prog (Instr.checkKey false 9999 3 (.int k a)) Q G:=by
  intro k a Q G hq
  show aT Tryz.prog (Instr.checkKey false (9998+1) 3 (.int k a)) Q G
  unfold Instr.checkKey
  simp only[bn,dh,d,bF]
  exact hq
 exact b .i64 x.e0 _ _ (b .i64 x.e1 _ _ (b .i64 x.e2 _ _ h))
def fy (u0:ak):Option (Int×Int):=
 ah (eT u0 ([]:(List (ak->Option Int)))) fun a=>cond ((a.2 != 0)) (some (0,a.2)) (ah (gq oB (mW a.1) ([]:List aS)) fun o=>aG o (fun st=>some ((st.length:Int),0)) (fun _ _=>none) (fun _=>none))
theorem jN {ro:Addr->Option Value}(M:cU ro)(u0:ak){s1 w x B:Value}(E:bI ro u0 s1 w x B){r:(Int×Int)}(h:fy u0=some r):aC Tryz.prog 22 #[bv u0 s1 w x B] ⟨ro,[]⟩ (fun v _=>v= .tuple #[.int .i64 r.1,.int .i64 r.2]):=by
 unfold fy at h
 have N:=E.oc;simp only[bC] at N
 refine aC.vX Tryz.func22 rfl Tryz.ntmps22 Tryz.results22 (by simp) fun main J hJ A F hd hs=>?_
 have O:=hs 0
 clear hs
 refine aa hJ (ag hJ ?_)
 simp only[*,go_sem]
 refine ax fun P bd R=>?_;try simp only[au] at R
 try simp only[*,go_sem]
 refine aa hJ (ag hJ ?_)
 revert h;refine bS fun G S h=>?_
 simp only[*,go_sem]
 refine bV hJ _ (kH M u0 E ([]:(List (ak->Option Int))) (aB.nil _ _) S) fun v H bj T U=>?_
 obtain ⟨V,W,X,Y,rfl,l⟩:=U
 have Z:=l.oc;simp only[bC] at Z
 simp only[bf] at T
 refine aD ?_
 try simp only[*,go_sem]
 refine ax fun ab bm ad=>?_;try simp only[au] at ad
 try simp only[*,go_sem]
 refine aa hJ (aa hJ (ag hJ ?_))
 simp only[*,go_sem]
 revert h;refine jC hJ (by simp only[*,go_sem]) (fun ae h=>?_) fun ae h=>?_
 ·obtain rfl:=sI h
  refine aa hJ (ag hJ ?_)
  simp only[*,go_sem]
  refine aL hJ fun C=>?_
  replace C:=C.nd
  try simp only[keys,List.map_cons,List.map_nil,List.map_append,List.cons_append,List.nil_append,List.nodup_cons,List.mem_cons,List.mem_append,List.not_mem_nil,or_false,not_or] at C
  refine ay ?_
  simp only[*,go_sem]
 refine aF hJ ?_
 revert h;refine bS fun o j h=>?_
 repeat refine aa hJ ?_
 refine ag hJ ?_
 simp only[*,go_sem,-j]
 refine FE fun k f70=>?_
 have bo:=eI f70;have al:=fJ f70
 try simp only[au] at al
 refine aD ?_
 simp only[*,go_sem,-j]
 refine ax fun q br ao=>?_;try simp only[au] at ao
 try simp only[*,go_sem,-j]
 repeat refine aa hJ ?_
 refine ag hJ ?_
 simp only[*,go_sem,-j]
 refine vW hJ aS.v (by simp only[*,go_sem]) (sG G.1 l.e l.p l.y l.t) (by kernel_rfl) (by kernel_rfl) (ρ:=Unit) (fun (s:List aS) ar=>∃(es:Array MapEntry) (b:Nat),ar=(q,.cells #[.map (some k)] 117)::(k,.map es b)::(ab,bl G.1 V W X Y)::(P,bk u0 s1 w x B)::[]/\es.toList.map (·.key)=s.map aS.v) (f:=oB) j ?_ ?_ (by decide) ?_ ?_
 ·exact ⟨#[],0,rfl,rfl⟩
 ·rintro d4 a0 D a2 c d fl I main J hJ _ ⟨es,b,rfl,g⟩
  obtain rfl:=Option.some.inj I
  clear I
  generalize m:mL _ _ _=u
  have bs:sz u=24:=by rw[<-m,vV];simp only[*,go_sem]
  have bz:u.defers=[]:=by rw[<-m];rfl
  have b0:slot u 6= .pointer (some ⟨q,0,none⟩):=by rw[<-m,n4];simp only[*,go_sem]
  have b1:slot u 19=d.v:=by rw[<-m,n4];simp only[*,go_sem]
  clear m F hd O
  refine gb hJ fun i a=>?_
  replace a:aA H ((a0,.loop D)::(d4,.deferred (some []))::(q,.cells #[.map (some k)] 117)::(k,.map es b)::_):=a
  have b2:=a.hd
  have b3:=a.tl.hd
  have a3:=a.tl.tl.hd
  have a4:=a.tl.tl.tl.hd
  clear a
  replace i:=i.nd
  simp only[keys,List.map_cons,List.map_nil,List.map_append,List.cons_append,List.nil_append,List.nodup_cons,List.mem_cons,List.mem_append,List.not_mem_nil,or_false,not_or] at i
  refine ag hJ ?_
  simp only[*,go_sem,aS.v]
  refine ax fun b4 b5 a5=>?_;try simp only[au] at a5
  try simp only[*,go_sem,aS.v]
  simp only[p7,go_sem]
  refine ⟨D,by simp only[*,go_sem],a2,?_⟩
  try simp only[*,go_sem,aS.v]
  refine aU hJ (ag hJ ?_)
  simp only[*,go_sem,aS.v]
  refine FG (es:=es) (clock:=b) (by kernel_rfl:Tryz.prog.underlying 117=some (.map 120 4)) (by simp only[*,go_sem]) (fun Q h=>GV d _ Q h) (by kernel_rfl:Tryz.prog.underlying 120=some (.array 3 3)) (fun e he=>?_) fun K a6 a7=>?_
  ·have:e.key∈es.toList.map (·.key):=List.mem_map_of_mem he
   rw[g] at this
   obtain ⟨z,F,a8⟩:=List.mem_map.1 this
   rw[<-a8]
   exact GU d z _
  ·simp only[rZ,mI,go_sem, *]
   refine ⟨{D with state:=.busy},rfl,?_⟩
   simp only[*,go_sem]
   refine ⟨_,Le.sub (List.Sublist.cons _ (List.Sublist.refl _)),rfl,K,a6,rfl,?_⟩
   have a9:K.toList.map (·.key)=(cond (kK c d) c (c++[d])).map aS.v:=by
    rcases a7 with ⟨hm,he⟩|⟨hm,he⟩
    ·have:kK c d=true:=by rw[xe,<-g];exact hm
     rw[this,he,g];rfl
    ·have:kK c d=false:=by
      rw[Bool.eq_false_iff]
      intro L
      rw[xe,<-g] at L
      exact hm L
     rw[this,he,g]
     simp only[cond_false,List.map_append,List.map_cons,List.map_nil]
     rfl
   exact a9
 ·rintro d49 ba bb _ c ⟨es,b,rfl,g⟩ i a
  refine ⟨fun n=>?_,fun k1 n=>?_⟩
  ·subst n;dsimp only[aG] at h
   obtain rfl:=sI h
   clear j
   replace a:aA H ((ba,.loop bb)::(d49,.deferred (some []))::(q,.cells #[.map (some k)] 117)::(k,.map es b)::_):=a
   have a3:=a.tl.tl.hd
   have a4:=a.tl.tl.tl.hd
   clear a
   replace i:=i.nd
   simp only[keys,List.map_cons,List.map_nil,List.map_append,List.cons_append,List.nil_append,List.nodup_cons,List.mem_cons,List.mem_append,List.not_mem_nil,or_false,not_or] at i
   repeat refine aa hJ ?_
   refine ag hJ ?_
   simp only[*,go_sem]
   have bc:es.size=c.length:=by simpa using congrArg List.length g
   refine FF (es:=es) (clock:=b) rfl (by kernel_rfl:Tryz.prog.underlying 117=some (.map 120 4)) (by simp only[*,go_sem]) ?_
   rw[bc]
   refine ay ?_
   simp only[*,go_sem]
  ·subst n;dsimp only[aG] at h
   cases h
 ·intro k1 ca n;subst n;dsimp only[aG] at h
  cases h
def dI (u0:Int)(a:Int)(b:Int):Option Bool:=
 cond (decide (a<=u0)) (some (decide (u0<=b))) (some false)
theorem fR {ro:Addr->Option Value}(u0:Int)(a:Int)(b:Int){r:Bool}(h:dI u0 a b=some r):aC Tryz.prog 14 #[.int .i64 u0,.int .i64 a,.int .i64 b] ⟨ro,[]⟩ (fun v _=>v= .bool r):=by
 unfold dI at h
 refine aC.go Tryz.func14 rfl Tryz.ntmps14 Tryz.results14 (by simp) fun main J hJ A d hd hs=>?_
 have e:=hs 0
 have k1:=hs 1
 have f:=hs 2
 clear hs
 refine aa hJ (ag hJ ?_)
 simp only[*,go_sem]
 refine aa hJ (ag hJ ?_)
 revert h;refine cS (fun c h=>?_) fun c h=>?_
 ·obtain rfl:=sI h
  try simp only[*,go_sem]
  refine ay ?_
  simp only[*,go_sem]
 obtain rfl:=sI h
 try simp only[*,go_sem]
 refine ay ?_
 simp only[*,go_sem]
def mZ (u0:ak)(a:Int):Option Bool:=
 ah (bw u0.aj 0) fun b=>ah (bw u0.aj (IntKind.i64.wrap ((u0.aj.length:Int) - 1))) fun c=>ah (dI a b.an c.an) fun d=>some d
theorem GW {ro:Addr->Option Value}(u0:ak){s1 f g i:Value}(a:bI ro u0 s1 f g i)(b:Int){r:Bool}(h:mZ u0 b=some r):aC Tryz.prog 107 #[bv u0 s1 f g i,.int .i64 b] ⟨ro,[]⟩ (fun v _=>v= .bool r):=by
 obtain ⟨d3,c4,rfl,E,G,-⟩:=id a.e
 unfold mZ at h
 refine aC.go Tryz.func107 rfl Tryz.ntmps107 Tryz.results107 (by simp) fun main J hJ A H hd hs=>?_
 have I:=hs 0
 have k1:=hs 1
 clear hs
 refine aa hJ (ag hJ ?_)
 simp only[*,go_sem]
 refine ax fun K L n=>?_;try simp only[au] at n
 try simp only[*,go_sem]
 refine aa hJ ?_
 refine cY hJ mixed 17 1 (by simp only[*,go_sem]) (by kernel_rfl) ?_
 revert h;refine bS fun j o h=>?_
 obtain ⟨M,N,k⟩:=cw o
 obtain ⟨O,p,q,s,c⟩:=a.e.el _ _ k
 obtain rfl:p=j.cells:=s
 cases q
 have t:=c 0 _ rfl;simp only[go_sem] at t
 have u:=c 1 _ rfl;simp only[go_sem] at u
 clear c k
 revert h;refine bS fun l w h=>?_
 obtain ⟨P,Q,m⟩:=cw w
 obtain ⟨R,x,y,z,d⟩:=a.e.el _ _ m
 obtain rfl:x=l.cells:=z
 cases y
 have B:=d 0 _ rfl;simp only[go_sem] at B
 have C:=d 1 _ rfl;simp only[go_sem] at C
 clear d m
 revert h;refine bS fun S D h=>?_
 obtain rfl:=sI h
 try simp only[*,go_sem]
 refine ⟨_,bE hJ fun F T=>fR b j.an l.an D,b9 ?_⟩
 try simp only[*,go_sem]
 refine ay ?_
 simp only[*,go_sem]
def oC (u0:ak)(a:Int):Option Bool:=
 ah (dI a 0 (IntKind.i64.wrap ((u0.aE.length:Int) - 1))) fun b=>some b
theorem GX {ro:Addr->Option Value}(u0:ak){s1 c d f:Value}(a:bI ro u0 s1 c d f)(b:Int){r:Bool}(h:oC u0 b=some r):aC Tryz.prog 109 #[bv u0 s1 c d f,.int .i64 b] ⟨ro,[]⟩ (fun v _=>v= .bool r):=by
 obtain ⟨d3,c4,rfl,j,k,-⟩:=id a.e
 obtain ⟨d10,l,rfl,m,n,-⟩:=id a.p
 obtain ⟨d17,o,rfl,q,s,-⟩:=id a.y
 obtain ⟨d24,u,rfl,w,x,-⟩:=id a.t
 unfold oC at h
 refine aC.go Tryz.func109 rfl Tryz.ntmps109 Tryz.results109 (by simp) fun main J hJ A z hd hs=>?_
 have B:=hs 0
 have k1:=hs 1
 clear hs
 refine aa hJ (ag hJ ?_)
 simp only[*,go_sem]
 refine ax fun C D g=>?_;try simp only[au] at g
 try simp only[*,go_sem]
 refine aa hJ (ag hJ ?_)
 revert h;refine bS fun E i h=>?_
 obtain rfl:=sI h
 simp only[*,go_sem]
 refine aM hJ _ (fR b 0 (IntKind.i64.wrap ((u0.aE.length:Int) - 1)) i) (aD ?_)
 try simp only[*,go_sem]
 refine ay ?_
 simp only[*,go_sem]
def lO (u0:av)(a:av):Option Bool:=
 some (decide ((IntKind.i64.wrap (u0.num*a.den))<(IntKind.i64.wrap (a.num*u0.den))))
def xg (st:(Int×Int)):Option (Fl (Int×Int) av):=
 cond (decide (0<st.2)) (ah (eO st.1 st.2) fun a=>some (.nx (st.2,a))) (some (.bk (st.1,st.2)))
def oD (st:(Int×Int)):Option (Fl (Int×Int) av):=
 cond (decide (0<st.2)) (ah (eO st.1 st.2) fun a=>some (.nx (st.2,a))) (some (.bk (st.1,st.2)))
def gP (u0:Int)(a:Int):Option av:=
 cond (decide (a<0)) (ah (bg (xg) fu ((if IntKind.i64.wrap (0 - u0)<IntKind.i64.wrap (0 - (IntKind.i64.wrap (0 - u0))) then IntKind.i64.wrap (0 - (IntKind.i64.wrap (0 - u0))) else IntKind.i64.wrap (0 - u0)),(IntKind.i64.wrap (0 - a)))) fun o=>aG o (fun b=>ah (fK (IntKind.i64.wrap (0 - u0)) b.1) fun d=>ah (fK (IntKind.i64.wrap (0 - a)) b.1) fun e=>some (⟨d,e⟩:av)) (fun _ _=>none) (fun r=>some r)) (ah (bg (oD) fu ((if u0<IntKind.i64.wrap (0 - u0) then IntKind.i64.wrap (0 - u0) else u0),a)) fun o=>aG o (fun c=>ah (fK u0 c.1) fun f=>ah (fK a c.1) fun g=>some (⟨f,g⟩:av)) (fun _ _=>none) (fun r=>some r))
theorem xh {ro:Addr->Option Value}(u0:Int)(b:Int){r:av}(h:gP u0 b=some r):aC Tryz.prog 27 #[.int .i64 u0,.int .i64 b] ⟨ro,[]⟩ (fun v _=>v=r.v):=by
 unfold gP at h
 refine aC.go Tryz.func27 rfl Tryz.ntmps27 Tryz.results27 (by simp) fun main J hJ A n hd hs=>?_
 have o:=hs 0
 have k1:=hs 1
 clear hs
 refine aa hJ (ag hJ ?_)
 simp only[*,go_sem]
 refine ax fun p r1 n1=>?_;try simp only[au] at n1
 try simp only[*,go_sem]
 refine aa hJ (aa hJ (ag hJ ?_))
 simp only[*,go_sem]
 revert h;refine jC hJ (by simp only[*,go_sem]) (fun B h=>?_) fun B h=>?_
 ·refine ag hJ ?_
  simp only[*,go_sem]
  refine aa hJ (ag hJ ?_)
  simp only[*,go_sem]
  refine aa hJ (aU hJ ?_)
  revert h;refine bS fun C c D=>?_
  refine bX hJ [5,6,18,19,20,21,22,23] (fun m a F'=>∃(f:Int) (v4:Int),bg (xg) m (f,v4)=some C/\F'=⟨ro,(p,rt 0 0)::[]⟩/\slot a 5= .int .i64 f/\slot a 6= .int .i64 v4) fu ?_ ?_
  ·refine ⟨(if IntKind.i64.wrap (0 - u0)<IntKind.i64.wrap (0 - (IntKind.i64.wrap (0 - u0))) then IntKind.i64.wrap (0 - (IntKind.i64.wrap (0 - u0))) else IntKind.i64.wrap (0 - u0)),(IntKind.i64.wrap (0 - b)),c,rfl,?_⟩
   simp only[*,go_sem]
  rintro g R F' q ⟨f,v4,c,rfl,S,T⟩
  obtain ⟨E,F,G⟩:=q.pick [0,1,4] (by decide)
  simp only[*,go_sem] at E F G
  clear q n hd o k1
  obtain _|g:=g
  ·exact absurd c (by simp only[bg,reduceCtorEq,not_false_eq_true])
  revert c;refine bS fun U h i=>?_
  unfold xg at h
  try dsimp only at h
  refine aa hJ (aa hJ (ag hJ ?_))
  simp only[*,go_sem]
  revert h;refine jC hJ (by simp only[*,go_sem]) (fun H h=>?_) fun H h=>?_
  ·refine aF hJ (aU hJ ?_)
   refine cY hJ mixed 6 1 (by simp only[*,go_sem]) (by kernel_rfl) ?_
   revert h;refine bS fun I s h=>?_
   obtain rfl:=sI h
   obtain ⟨V,W⟩:=iY s
   clear s
   try simp only[*,go_sem]
   refine ⟨g,Nat.lt_succ_self _,_,Le.sub (List.Sublist.refl _),v4,I,i,rfl,?_⟩
   simp only[*,go_sem]
  obtain rfl:=sI h
  refine bU ?_
  simp only[go_sem]
  obtain rfl:=sI i;clear i
  have h:=D
  dsimp only[aG] at h
  refine aa hJ ?_
  refine cY hJ mixed 7 0 (by simp only[*,go_sem]) (by kernel_rfl) ?_
  revert h;refine bS fun X t h=>?_
  obtain ⟨Y,Z⟩:=mF t
  clear t
  revert h;refine bS fun ab u h=>?_
  obtain rfl:=sI h
  obtain ⟨ad,ae⟩:=mF u
  clear u
  try simp only[*,go_sem]
  refine ay ?_
  simp only[*,go_sem]
 refine aF hJ (aa hJ ?_)
 refine ag hJ ?_
 simp only[*,go_sem]
 refine aa hJ (aU hJ ?_)
 revert h;refine bS fun K d L=>?_
 refine bX hJ [5,6,18,19,20,21,22,23] (fun m a F'=>∃(j:Int) (e:Int),bg (oD) m (j,e)=some K/\F'=⟨ro,(p,rt 0 0)::[]⟩/\slot a 5= .int .i64 j/\slot a 6= .int .i64 e) fu ?_ ?_
 ·refine ⟨(if u0<IntKind.i64.wrap (0 - u0) then IntKind.i64.wrap (0 - u0) else u0),b,d,rfl,?_⟩
  simp only[*,go_sem]
 rintro k al F' w ⟨j,e,d,rfl,ao,ar⟩
 obtain ⟨M,N,O⟩:=w.pick [0,1,4] (by decide)
 simp only[*,go_sem] at M N O
 clear w n hd o k1
 obtain _|k:=k
 ·exact absurd d (by simp only[bg,reduceCtorEq,not_false_eq_true])
 revert d;refine bS fun a0 h l=>?_
 unfold oD at h
 try dsimp only at h
 refine aa hJ (aa hJ (ag hJ ?_))
 simp only[*,go_sem]
 revert h;refine jC hJ (by simp only[*,go_sem]) (fun P h=>?_) fun P h=>?_
 ·refine aF hJ (aU hJ ?_)
  refine cY hJ mixed 6 1 (by simp only[*,go_sem]) (by kernel_rfl) ?_
  revert h;refine bS fun Q x h=>?_
  obtain rfl:=sI h
  obtain ⟨a2,a3⟩:=iY x
  clear x
  try simp only[*,go_sem]
  refine ⟨k,Nat.lt_succ_self _,_,Le.sub (List.Sublist.refl _),e,Q,l,rfl,?_⟩
  simp only[*,go_sem]
 obtain rfl:=sI h
 refine bU ?_
 simp only[go_sem]
 obtain rfl:=sI l;clear l
 have h:=L
 dsimp only[aG] at h
 refine aa hJ ?_
 refine cY hJ mixed 7 0 (by simp only[*,go_sem]) (by kernel_rfl) ?_
 revert h;refine bS fun a4 y h=>?_
 obtain ⟨a5,a6⟩:=mF y
 clear y
 revert h;refine bS fun a7 z h=>?_
 obtain rfl:=sI h
 obtain ⟨a8,a9⟩:=mF z
 clear z
 try simp only[*,go_sem]
 refine ay ?_
 simp only[*,go_sem]
def hU (u0:av)(a:av):Option av:=
 ah (gP (IntKind.i64.wrap ((IntKind.i64.wrap (u0.num*a.den)) - (IntKind.i64.wrap (a.num*u0.den)))) (IntKind.i64.wrap (u0.den*a.den))) fun b=>some b
theorem GY {ro:Addr->Option Value}(u0:av)(a:av){r:av}(h:hU u0 a=some r):aC Tryz.prog 16 #[.agg #[.int .i64 u0.num,.int .i64 u0.den],.agg #[.int .i64 a.num,.int .i64 a.den]] ⟨ro,[]⟩ (fun v _=>v=r.v):=by
 unfold hU at h
 refine aC.go Tryz.func16 rfl Tryz.ntmps16 Tryz.results16 (by simp) fun main J hJ A c hd hs=>?_
 have d:=hs 0
 have k1:=hs 1
 clear hs
 refine aa hJ (ag hJ ?_)
 simp only[*,go_sem]
 refine ax fun e r1 n1=>?_;try simp only[au] at n1
 refine ax fun b2 r2 n2=>?_;try simp only[au] at n2
 refine ax fun b3 r3 n3=>?_;try simp only[au] at n3
 try simp only[*,go_sem]
 refine aa hJ (ag hJ ?_)
 revert h;refine bS fun f b h=>?_
 obtain rfl:=sI h
 simp only[*,go_sem]
 refine aM hJ _ (xh (IntKind.i64.wrap ((IntKind.i64.wrap (u0.num*a.den)) - (IntKind.i64.wrap (a.num*u0.den)))) (IntKind.i64.wrap (u0.den*a.den)) b) (aD ?_)
 try simp only[*,go_sem]
 refine ay ?_
 simp only[*,go_sem]
def m0 (u0:ak)(a:aO)(c:Int)(b:av):Option av:=
 ah (gP (IntKind.i64.wrap ((IntKind.i64.wrap ((IntKind.i64.wrap (a.high*b.den))*(IntKind.i64.wrap (c+a.back))))+(IntKind.i64.wrap ((IntKind.i64.wrap (b.num - (IntKind.i64.wrap (a.high*b.den))))*(IntKind.i64.wrap (u0.aZ+a.back)))))) (IntKind.i64.wrap (b.den*(IntKind.i64.wrap (c+a.back))))) fun d=>some d
def m3 (u0:c6)(a:Int)(b:Int):Option Bool:=
 cond (decide (a<=u0.low)) (cond (decide (u0.low<=u0.high)) (some (decide (u0.high<=b))) (some false)) (some false)
theorem GZ {ro:Addr->Option Value}(u0:c6)(a:Int)(b:Int){r:Bool}(h:m3 u0 a b=some r):aC Tryz.prog 108 #[.agg #[.int .i64 u0.low,.int .i64 u0.high],.int .i64 a,.int .i64 b] ⟨ro,[]⟩ (fun v _=>v= .bool r):=by
 unfold m3 at h
 refine aC.go Tryz.func108 rfl Tryz.ntmps108 Tryz.results108 (by simp) fun main J hJ A e hd hs=>?_
 have f:=hs 0
 have k1:=hs 1
 have g:=hs 2
 clear hs
 refine aa hJ (ag hJ ?_)
 simp only[*,go_sem]
 refine ax fun i r1 n1=>?_;try simp only[au] at n1
 try simp only[*,go_sem]
 refine aa hJ (ag hJ ?_)
 revert h;refine cS (fun c h=>?_) fun c h=>?_
 ·revert h;refine cS (fun d h=>?_) fun d h=>?_
  ·obtain rfl:=sI h
   try simp only[*,go_sem]
   refine ay ?_
   simp only[*,go_sem]
  obtain rfl:=sI h
  try simp only[*,go_sem]
  refine ay ?_
  simp only[*,go_sem]
 obtain rfl:=sI h
 try simp only[*,go_sem]
 refine ay ?_
 simp only[*,go_sem]
def gd (u0:av)(a:av):Option av:=
 ah (lO u0 a) fun b=>cond (b) (some a) (some u0)
def Bh (u0:ak)(a:Int)(b:Int):Option aO:=
 ah (bw u0.aE a) fun c=>some (⟨c.back,b⟩:aO)
def m4 (u0:ak):Option Bool:=
 cond (decide (20<(u0.aj.length:Int))) (some true) (cond (decide (20<(u0.props.length:Int))) (some true) (cond (decide (20<(u0.aE.length:Int))) (some true) (some (decide (20<(u0.told.length:Int))))))
theorem G0 {ro:Addr->Option Value}(u0:ak){s1 b c d:Value}(a:bI ro u0 s1 b c d){r:Bool}(h:m4 u0=some r):aC Tryz.prog 38 #[bv u0 s1 b c d] ⟨ro,[]⟩ (fun v _=>v= .bool r):=by
 obtain ⟨d3,c4,rfl,k,l,-⟩:=id a.e
 obtain ⟨d10,m,rfl,n,o,-⟩:=id a.p
 obtain ⟨d17,q,rfl,s,u,-⟩:=id a.y
 obtain ⟨d24,w,rfl,x,z,-⟩:=id a.t
 unfold m4 at h
 refine aC.go Tryz.func38 rfl Tryz.ntmps38 Tryz.results38 (by simp) fun main J hJ A B hd hs=>?_
 have C:=hs 0
 clear hs
 refine aa hJ (ag hJ ?_)
 simp only[*,go_sem]
 refine ax fun D E f=>?_;try simp only[au] at f
 try simp only[*,go_sem]
 refine aa hJ (ag hJ ?_)
 revert h;refine cS (fun g h=>?_) fun g h=>?_
 ·obtain rfl:=sI h
  try simp only[*,go_sem]
  refine ay ?_
  simp only[*,go_sem]
 revert h;refine cS (fun i h=>?_) fun i h=>?_
 ·obtain rfl:=sI h
  try simp only[*,go_sem]
  refine ay ?_
  simp only[*,go_sem]
 revert h;refine cS (fun j h=>?_) fun j h=>?_
 ·obtain rfl:=sI h
  try simp only[*,go_sem]
  refine ay ?_
  simp only[*,go_sem]
 obtain rfl:=sI h
 try simp only[*,go_sem]
 refine ay ?_
 simp only[*,go_sem]
def fT (u0:Int)(a:Int):Option av:=
 some (⟨u0,a⟩:av)
theorem gQ {ro:Addr->Option Value}(u0:Int)(a:Int){r:av}(h:fT u0 a=some r):aC Tryz.prog 17 #[.int .i64 u0,.int .i64 a] ⟨ro,[]⟩ (fun v _=>v=r.v):=by
 unfold fT at h
 obtain rfl:=sI h
 refine aC.go Tryz.func17 rfl Tryz.ntmps17 Tryz.results17 (by simp) fun main J hJ A b hd hs=>?_
 have c:=hs 0
 have k1:=hs 1
 clear hs
 refine aa hJ (ag hJ ?_)
 simp only[*,go_sem]
 refine ax fun d r1 n1=>?_;try simp only[au] at n1
 try simp only[*,go_sem]
 refine aa hJ (ag hJ ?_)
 simp only[*,go_sem]
 refine ay ?_
 simp only[*,go_sem]
def qs (u0:Int)(a:Int):Option c6:=
 some (⟨u0,a⟩:c6)
theorem s6 {ro:Addr->Option Value}(u0:Int)(a:Int){r:c6}(h:qs u0 a=some r):aC Tryz.prog 52 #[.int .i64 u0,.int .i64 a] ⟨ro,[]⟩ (fun v _=>v=r.v):=by
 unfold qs at h
 obtain rfl:=sI h
 refine aC.go Tryz.func52 rfl Tryz.ntmps52 Tryz.results52 (by simp) fun main J hJ A b hd hs=>?_
 have c:=hs 0
 have k1:=hs 1
 clear hs
 refine aa hJ (ag hJ ?_)
 simp only[*,go_sem]
 refine ax fun d r1 n1=>?_;try simp only[au] at n1
 try simp only[*,go_sem]
 refine aa hJ (ag hJ ?_)
 simp only[*,go_sem]
 refine ay ?_
 simp only[*,go_sem]
def lP (u0:Int)(a:Int):Option aO:=
 some (⟨u0,a⟩:aO)
theorem oE {ro:Addr->Option Value}(u0:Int)(a:Int){r:aO}(h:lP u0 a=some r):aC Tryz.prog 25 #[.int .i64 u0,.int .i64 a] ⟨ro,[]⟩ (fun v _=>v=r.v):=by
 unfold lP at h
 obtain rfl:=sI h
 refine aC.go Tryz.func25 rfl Tryz.ntmps25 Tryz.results25 (by simp) fun main J hJ A b hd hs=>?_
 have c:=hs 0
 have k1:=hs 1
 clear hs
 refine aa hJ (ag hJ ?_)
 simp only[*,go_sem]
 refine ax fun d r1 n1=>?_;try simp only[au] at n1
 try simp only[*,go_sem]
 refine aa hJ (ag hJ ?_)
 simp only[*,go_sem]
 refine ay ?_
 simp only[*,go_sem]
def jO (u0:Int)(a:Bool):Option bB:=
 some (⟨u0,a⟩:bB)
theorem jh {ro:Addr->Option Value}(u0:Int)(a:Bool){r:bB}(h:jO u0 a=some r):aC Tryz.prog 50 #[.int .i64 u0,.bool a] ⟨ro,[]⟩ (fun v _=>v=r.v):=by
 unfold jO at h
 obtain rfl:=sI h
 refine aC.go Tryz.func50 rfl Tryz.ntmps50 Tryz.results50 (by simp) fun main J hJ A b hd hs=>?_
 have c:=hs 0
 have k1:=hs 1
 clear hs
 refine aa hJ (ag hJ ?_)
 simp only[*,go_sem]
 refine ax fun d r1 n1=>?_;try simp only[au] at n1
 try simp only[*,go_sem]
 refine aa hJ (ag hJ ?_)
 simp only[*,go_sem]
 refine ay ?_
 simp only[*,go_sem]
def kL (u0:ak)(a:bB):Option ak:=
 ah (cB ([]:List bB) u0.told) fun b=>ah (cB b ([a])) fun c=>some (⟨u0.aZ,u0.bD,u0.aR,u0.aj,u0.props,u0.aE,c⟩:ak)
theorem lQ {ro:Addr->Option Value}(u0:ak){s1 b c N:Value}(j:bI ro u0 s1 b c N)(a:bB){r:ak}(h:kL u0 a=some r):en Tryz.prog 53 #[bv u0 s1 b c N,.agg #[.int .i64 a.aQ,.bool a.bh]] ro (fun v aK=>∃O w1 w2 w3,v=bv r O w1 w2 w3/\bI aK r O w1 w2 w3):=by
 obtain ⟨d24,i,rfl,e1,e3,-⟩:=id j.t
 unfold kL at h
 have br:=j.oc;simp only[bC] at br
 refine aC.go Tryz.func53 rfl Tryz.ntmps53 Tryz.results53 (by simp) fun main J hJ A fa hd hs=>?_
 have fb:=hs 0
 have k1:=hs 1
 clear hs
 refine aa hJ (ag hJ ?_)
 simp only[*,go_sem,-h]
 refine ax fun d q bs=>?_;try simp only[au] at bs
 refine ax fun f s b0=>?_;try simp only[au] at b0
 refine ax fun g u b1=>?_;try simp only[au] at b1
 try simp only[*,go_sem,-h]
 refine aa hJ ?_
 refine aL hJ fun P=>?_
 refine fN hJ mixed [8] (.pure 1 (.rd 2 (.rd 4 (.two 0 (.two 3 (.one 5 (.one 6 (.pure 7 (.last 8 .done)))) 5 (.one 3 (.one 6 (.pure 7 (.last 8 .done))))) 5 (.one 0 (.one 3 (.one 6 (.pure 7 (.last 8 .done))))))))) ⟨ro,[(g,bz 29),(f,.cells #[.int .i64 a.aQ,.bool a.bh] 91),(d,bk u0 s1 b c (sl d24 u0.told i))]⟩ (by simp only[*,go_sem,-h]) (by kernel_rfl) ?_
 simp only[*,go_sem,-h]
 refine kz ?_ ?_
 ·simp only[*,go_sem,-h]
  refine ax fun C Q R=>?_;have S:=aN.cons R P;try simp only[au] at R
  try simp only[*,go_sem,-h]
  refine kz ?_ ?_
  ·revert h;refine bS fun b2 b3 h=>?_
   obtain ⟨b4,T⟩:=cT b3
   simp only[*,go_sem,-h]
   have b5:aW cX ro 91 (.slice (some ⟨C,0,none⟩) 0 0) ([]:List bB) [(C,.cells #[] 91)]:=aW.empty Q
   refine kB (r:=cX) (l:=([]:List bB)) (xs:=u0.told) [] ((g,bz 29)::(f,.cells #[.int .i64 a.aQ,.bool a.bh] 91)::(d,bk u0 s1 b c (sl d24 u0.told i))::[]) b5 S b4 j.t rfl rfl dQ dQ g6 g8 rfl g7 (by decide) (by decide) (fun ff w F k m ca=>?_)
   simp only[List.append_nil,List.cons_append,List.nil_append,List.append_assoc] at m
   subst k
   rw[<-T] at F;clear T
   obtain ⟨d144,fg,rfl,fi⟩:=F.len
   have cb:=aN.back (l:=(g,bz 29)::(f,.cells #[.int .i64 a.aQ,.bool a.bh] 91)::(d,bk u0 s1 b c (sl d24 u0.told i))::w) (l':=[]++(w++([(g,bz 29),(f,.cells #[.int .i64 a.aQ,.bool a.bh] 91),(d,bk u0 s1 b c (sl d24 u0.told i))]++[]))) [] [(g,bz 29),(f,.cells #[.int .i64 a.aQ,.bool a.bh] 91),(d,bk u0 s1 b c (sl d24 u0.told i))] w [] (by first|rfl|simp only[List.append_nil,List.cons_append,List.nil_append,List.append_assoc]|(simp only[List.append_nil,List.cons_append,List.nil_append,List.append_assoc];rfl)) (by first|rfl|simp only[List.append_nil,List.cons_append,List.nil_append,List.append_assoc]|(simp only[List.append_nil,List.cons_append,List.nil_append,List.append_assoc];rfl)) ca
   refine ⟨⟨ro,(g,bz 29)::(f,.cells #[.int .i64 a.aQ,.bool a.bh] 91)::(d,bk u0 s1 b c (sl d24 u0.told i))::w⟩,Le.back [] [(g,bz 29),(f,.cells #[.int .i64 a.aQ,.bool a.bh] 91),(d,bk u0 s1 b c (sl d24 u0.told i))] w [] (by first|rfl|simp only[List.append_nil,List.cons_append,List.nil_append,List.append_assoc]|(simp only[List.append_nil,List.cons_append,List.nil_append,List.append_assoc];rfl)) (by first|rfl|simp only[List.append_nil,List.cons_append,List.nil_append,List.append_assoc]|(simp only[List.append_nil,List.cons_append,List.nil_append,List.append_assoc];rfl)),?_⟩
   refine ⟨by simp only[*,go_sem,-h],bN ?_⟩
   revert h;refine bS fun U cd h=>?_
   obtain ⟨cf,V⟩:=cT cd
   try simp only[*,go_sem,-h]
   refine ax fun G W X=>?_;have cl:=aN.cons X cb;try simp only[au] at X
   try simp only[*,go_sem,-h]
   refine dG (r:=cX) (l:=b2) (x:=a) (cs:=#[.int .i64 a.aQ,.bool a.bh]) (e2:=91) [(G,.cells #[.int .i64 a.aQ,.bool a.bh] 91),(g,bz 29),(f,.cells #[.int .i64 a.aQ,.bool a.bh] 91),(d,bk u0 s1 b c (sl d24 u0.told i))] [] F cl cf rfl (by simp only[*,go_sem,-h]) W rfl rfl dQ dQ g6 g8 rfl g7 (by decide) (by decide) (fun fl cy H k m fp=>?_)
   simp only[List.append_nil,List.cons_append,List.nil_append,List.append_assoc] at m
   subst k
   rw[<-V] at H;clear V
   obtain ⟨d158,Y,rfl,fq⟩:=H.len
   refine ⟨⟨ro,(G,.cells #[.int .i64 a.aQ,.bool a.bh] 91)::(g,bz 29)::(f,.cells #[.int .i64 a.aQ,.bool a.bh] 91)::(d,bk u0 s1 b c (sl d24 u0.told i))::cy⟩,Le.refl _,?_⟩
   refine ⟨by simp only[*,go_sem,-h],bN ?_⟩
   try simp only[*,go_sem,-h]
   refine aa hJ ?_
   refine aL hJ fun fr=>?_
   refine ag hJ ?_
   simp only[*,go_sem,-h]
   obtain rfl:=sI h
   refine aL hJ fun Z=>?_
   obtain ⟨fs,ab,D,ad,cS⟩:=H.eB [(G,.cells #[.int .i64 a.aQ,.bool a.bh] 91),(g,bk u0 s1 b c (sl d158 U Y)),(f,.cells #[.int .i64 a.aQ,.bool a.bh] 91),(d,bk u0 s1 b c (sl d158 U Y))] [] Z (aA.cons W (aA.cons u (aA.cons s (aA.cons q (aA.nil _)))))
   clear Z
   refine cH hJ cS ?_
   obtain ⟨ft,fu,-⟩:=ad.op
   replace j:=j.mono ab
   replace u:=D.tl.hd
   replace s:=D.tl.tl.hd
   replace q:=D.tl.tl.tl.hd
   simp only[bf] at D
   refine ay ?_
   simp only[*,go_sem]
   exact ⟨_,ab,Le.sub (List.nil_sublist _),_,_,_,_,rfl,⟨j.e,j.p,j.y,ad⟩⟩
  revert h;refine bS fun c0 da h=>?_
  obtain ⟨db,ae⟩:=cT da
  simp only[*,go_sem,-h]
  refine ax fun n al ao=>?_;have dd:=aN.cons ao S;try simp only[au] at ao
  try simp only[*,go_sem,-h]
  have df:aW cX ro 91 (.slice (some ⟨C,0,none⟩) 0 0) ([]:List bB) [(C,.cells #[] 91)]:=aW.empty Q
  refine kB (r:=cX) (l:=([]:List bB)) (xs:=u0.told) [(n,.cells #[.int .i64 a.aQ,.bool a.bh] 91)] ((g,bz 29)::(f,.cells #[.int .i64 a.aQ,.bool a.bh] 91)::(d,bk u0 s1 b c (sl d24 u0.told i))::[]) df dd db j.t rfl rfl dQ dQ g6 g8 rfl g7 (by decide) (by decide) (fun fv z I k m dk=>?_)
  simp only[List.append_nil,List.cons_append,List.nil_append,List.append_assoc] at m
  subst k
  rw[<-ae] at I;clear ae
  obtain ⟨d179,fw,rfl,fx⟩:=I.len
  have dp:=aN.back (l:=(n,.cells #[.int .i64 a.aQ,.bool a.bh] 91)::(g,bz 29)::(f,.cells #[.int .i64 a.aQ,.bool a.bh] 91)::(d,bk u0 s1 b c (sl d24 u0.told i))::z) (l':=[(n,.cells #[.int .i64 a.aQ,.bool a.bh] 91)]++(z++([(g,bz 29),(f,.cells #[.int .i64 a.aQ,.bool a.bh] 91),(d,bk u0 s1 b c (sl d24 u0.told i))]++[]))) [(n,.cells #[.int .i64 a.aQ,.bool a.bh] 91)] [(g,bz 29),(f,.cells #[.int .i64 a.aQ,.bool a.bh] 91),(d,bk u0 s1 b c (sl d24 u0.told i))] z [] (by first|rfl|simp only[List.append_nil,List.cons_append,List.nil_append,List.append_assoc]|(simp only[List.append_nil,List.cons_append,List.nil_append,List.append_assoc];rfl)) (by first|rfl|simp only[List.append_nil,List.cons_append,List.nil_append,List.append_assoc]|(simp only[List.append_nil,List.cons_append,List.nil_append,List.append_assoc];rfl)) dk
  refine ⟨⟨ro,(n,.cells #[.int .i64 a.aQ,.bool a.bh] 91)::(g,bz 29)::(f,.cells #[.int .i64 a.aQ,.bool a.bh] 91)::(d,bk u0 s1 b c (sl d24 u0.told i))::z⟩,Le.back [(n,.cells #[.int .i64 a.aQ,.bool a.bh] 91)] [(g,bz 29),(f,.cells #[.int .i64 a.aQ,.bool a.bh] 91),(d,bk u0 s1 b c (sl d24 u0.told i))] z [] (by first|rfl|simp only[List.append_nil,List.cons_append,List.nil_append,List.append_assoc]|(simp only[List.append_nil,List.cons_append,List.nil_append,List.append_assoc];rfl)) (by first|rfl|simp only[List.append_nil,List.cons_append,List.nil_append,List.append_assoc]|(simp only[List.append_nil,List.cons_append,List.nil_append,List.append_assoc];rfl)),?_⟩
  refine ⟨by simp only[*,go_sem,-h],bN ?_⟩
  revert h;refine bS fun ar dq h=>?_
  obtain ⟨ds,a0⟩:=cT dq
  try simp only[*,go_sem,-h]
  refine dG (r:=cX) (l:=c0) (x:=a) (cs:=#[.int .i64 a.aQ,.bool a.bh]) (e2:=91) [(n,.cells #[.int .i64 a.aQ,.bool a.bh] 91),(g,bz 29),(f,.cells #[.int .i64 a.aQ,.bool a.bh] 91),(d,bk u0 s1 b c (sl d24 u0.told i))] [] I dp ds rfl (by simp only[*,go_sem,-h]) al rfl rfl dQ dQ g6 g8 rfl g7 (by decide) (by decide) (fun fP dt K k m fQ=>?_)
  simp only[List.append_nil,List.cons_append,List.nil_append,List.append_assoc] at m
  subst k
  rw[<-a0] at K;clear a0
  obtain ⟨d191,a2,rfl,fS⟩:=K.len
  refine ⟨⟨ro,(n,.cells #[.int .i64 a.aQ,.bool a.bh] 91)::(g,bz 29)::(f,.cells #[.int .i64 a.aQ,.bool a.bh] 91)::(d,bk u0 s1 b c (sl d24 u0.told i))::dt⟩,Le.refl _,?_⟩
  refine ⟨by simp only[*,go_sem,-h],bN ?_⟩
  try simp only[*,go_sem,-h]
  refine aa hJ ?_
  refine aL hJ fun fU=>?_
  refine ag hJ ?_
  simp only[*,go_sem,-h]
  obtain rfl:=sI h
  refine aL hJ fun a3=>?_
  obtain ⟨gg,a4,E,a5,du⟩:=K.eB [(n,.cells #[.int .i64 a.aQ,.bool a.bh] 91),(g,bk u0 s1 b c (sl d191 ar a2)),(f,.cells #[.int .i64 a.aQ,.bool a.bh] 91),(d,bk u0 s1 b c (sl d191 ar a2))] [] a3 (aA.cons al (aA.cons u (aA.cons s (aA.cons q (aA.nil _)))))
  clear a3
  refine cH hJ du ?_
  obtain ⟨gl,gn,-⟩:=a5.op
  replace j:=j.mono a4
  replace u:=E.tl.hd
  replace s:=E.tl.tl.hd
  replace q:=E.tl.tl.tl.hd
  simp only[bf] at E
  refine ay ?_
  simp only[*,go_sem]
  exact ⟨_,a4,Le.sub (List.nil_sublist _),_,_,_,_,rfl,⟨j.e,j.p,j.y,a5⟩⟩
 revert h;refine bS fun dv dC h=>?_
 obtain ⟨dE,a6⟩:=cT dC
 simp only[*,go_sem,-h]
 refine ax fun o a7 a8=>?_;have dT:=aN.cons a8 P;try simp only[au] at a8
 try simp only[*,go_sem,-h]
 refine ax fun a9 ea ba=>?_;have eb:=aN.cons ba dT;try simp only[au] at ba
 try simp only[*,go_sem,-h]
 have ec:aW cX ro 91 (.slice (some ⟨a9,0,none⟩) 0 0) ([]:List bB) [(a9,.cells #[] 91)]:=aW.empty ea
 refine kB (r:=cX) (l:=([]:List bB)) (xs:=u0.told) [] ((o,.cells #[.int .i64 a.aQ,.bool a.bh] 91)::(g,bz 29)::(f,.cells #[.int .i64 a.aQ,.bool a.bh] 91)::(d,bk u0 s1 b c (sl d24 u0.told i))::[]) ec eb dE j.t rfl rfl dQ dQ g6 g8 rfl g7 (by decide) (by decide) (fun gp B L k m ed=>?_)
 simp only[List.append_nil,List.cons_append,List.nil_append,List.append_assoc] at m
 subst k
 rw[<-a6] at L;clear a6
 obtain ⟨gB,gC,rfl,gM⟩:=L.len
 have eh:=aN.back (l:=(o,.cells #[.int .i64 a.aQ,.bool a.bh] 91)::(g,bz 29)::(f,.cells #[.int .i64 a.aQ,.bool a.bh] 91)::(d,bk u0 s1 b c (sl d24 u0.told i))::B) (l':=[]++(B++([(o,.cells #[.int .i64 a.aQ,.bool a.bh] 91),(g,bz 29),(f,.cells #[.int .i64 a.aQ,.bool a.bh] 91),(d,bk u0 s1 b c (sl d24 u0.told i))]++[]))) [] [(o,.cells #[.int .i64 a.aQ,.bool a.bh] 91),(g,bz 29),(f,.cells #[.int .i64 a.aQ,.bool a.bh] 91),(d,bk u0 s1 b c (sl d24 u0.told i))] B [] (by first|rfl|simp only[List.append_nil,List.cons_append,List.nil_append,List.append_assoc]|(simp only[List.append_nil,List.cons_append,List.nil_append,List.append_assoc];rfl)) (by first|rfl|simp only[List.append_nil,List.cons_append,List.nil_append,List.append_assoc]|(simp only[List.append_nil,List.cons_append,List.nil_append,List.append_assoc];rfl)) ed
 refine ⟨⟨ro,(o,.cells #[.int .i64 a.aQ,.bool a.bh] 91)::(g,bz 29)::(f,.cells #[.int .i64 a.aQ,.bool a.bh] 91)::(d,bk u0 s1 b c (sl d24 u0.told i))::B⟩,Le.back [] [(o,.cells #[.int .i64 a.aQ,.bool a.bh] 91),(g,bz 29),(f,.cells #[.int .i64 a.aQ,.bool a.bh] 91),(d,bk u0 s1 b c (sl d24 u0.told i))] B [] (by first|rfl|simp only[List.append_nil,List.cons_append,List.nil_append,List.append_assoc]|(simp only[List.append_nil,List.cons_append,List.nil_append,List.append_assoc];rfl)) (by first|rfl|simp only[List.append_nil,List.cons_append,List.nil_append,List.append_assoc]|(simp only[List.append_nil,List.cons_append,List.nil_append,List.append_assoc];rfl)),?_⟩
 refine ⟨by simp only[*,go_sem,-h],bN ?_⟩
 revert h;refine bS fun bb et h=>?_
 obtain ⟨ev,bc⟩:=cT et
 try simp only[*,go_sem,-h]
 refine dG (r:=cX) (l:=dv) (x:=a) (cs:=#[.int .i64 a.aQ,.bool a.bh]) (e2:=91) [(o,.cells #[.int .i64 a.aQ,.bool a.bh] 91),(g,bz 29),(f,.cells #[.int .i64 a.aQ,.bool a.bh] 91),(d,bk u0 s1 b c (sl d24 u0.told i))] [] L eh ev rfl (by simp only[*,go_sem,-h]) a7 rfl rfl dQ dQ g6 g8 rfl g7 (by decide) (by decide) (fun gT eQ M k m gV=>?_)
 simp only[List.append_nil,List.cons_append,List.nil_append,List.append_assoc] at m
 subst k
 rw[<-bc] at M;clear bc
 obtain ⟨bd,bj,rfl,g0⟩:=M.len
 refine ⟨⟨ro,(o,.cells #[.int .i64 a.aQ,.bool a.bh] 91)::(g,bz 29)::(f,.cells #[.int .i64 a.aQ,.bool a.bh] 91)::(d,bk u0 s1 b c (sl d24 u0.told i))::eQ⟩,Le.refl _,?_⟩
 refine ⟨by simp only[*,go_sem,-h],bN ?_⟩
 try simp only[*,go_sem,-h]
 refine aa hJ ?_
 refine aL hJ fun g1=>?_
 refine ag hJ ?_
 simp only[*,go_sem,-h]
 obtain rfl:=sI h
 refine aL hJ fun bl=>?_
 obtain ⟨g2,bm,eS,bo,e0⟩:=M.eB [(o,.cells #[.int .i64 a.aQ,.bool a.bh] 91),(g,bk u0 s1 b c (sl bd bb bj)),(f,.cells #[.int .i64 a.aQ,.bool a.bh] 91),(d,bk u0 s1 b c (sl bd bb bj))] [] bl (aA.cons a7 (aA.cons u (aA.cons s (aA.cons q (aA.nil _)))))
 clear bl
 refine cH hJ e0 ?_
 obtain ⟨g3,g4,-⟩:=bo.op
 replace j:=j.mono bm
 simp only[bf] at eS
 refine ay ?_
 simp only[*,go_sem]
 exact ⟨_,bm,Le.sub (List.nil_sublist _),_,_,_,_,rfl,⟨j.e,j.p,j.y,bo⟩⟩
def xj (a:(List Int))(b:Int)(st:(Int×(List cg))):Option (Fl (Int×(List cg)) ak):=
 cond (decide (st.1<(a.length:Int))) (ah (bw a st.1) fun c=>ah (cB st.2 ([(⟨c,b⟩:cg)])) fun d=>some (.nx ((IntKind.i64.wrap (st.1+1)),d))) (some (.bk (st.1,st.2)))
def xk (u0:ak)(a:(List Int))(b:Int):Option ak:=
 ah (cB ([]:List cg) u0.props) fun c=>ah (bg (xj a b) fu (0,c)) fun o=>aG o (fun d=>some (⟨u0.aZ,u0.bD,u0.aR,u0.aj,d.2,u0.aE,u0.told⟩:ak)) (fun _ _=>none) (fun r=>some r)
theorem G1 {ro:Addr->Option Value}(u0:ak){s1 H a b:Value}(k:bI ro u0 s1 H a b)(w:(List Int)){I:Value}(K:aB rI ro I w)(n:Int){r:ak}(h:xk u0 w n=some r):en Tryz.prog 30 #[bv u0 s1 H a b,I,.int .i64 n] ro (fun v aK=>∃L w1 w2 w3,v=bv r L w1 w2 w3/\bI aK r L w1 w2 w3):=by
 obtain ⟨d10,c,rfl,df,dk,-⟩:=id k.p
 obtain ⟨d31,dp,rfl,dq,ds,-⟩:=id K
 unfold xk at h
 have ab:=k.oc;simp only[bC] at ab
 refine aC.go Tryz.func30 rfl Tryz.ntmps30 Tryz.results30 (by simp) fun main J hJ A ad hd hs=>?_
 have ae:=hs 0
 have k1:=hs 1
 have al:=hs 2
 clear hs
 refine aa hJ (ag hJ ?_)
 simp only[*,go_sem]
 refine ax fun f ao ar=>?_;try simp only[au] at ar
 refine ax fun g a0 a2=>?_;try simp only[au] at a2
 try simp only[*,go_sem]
 refine aa hJ (ag hJ ?_)
 simp only[*,go_sem]
 refine ax fun i a3 a4=>?_;try simp only[au] at a4
 try simp only[*,go_sem]
 refine aa hJ ?_
 refine aL hJ fun a5=>?_
 refine ag hJ ?_
 revert h;refine bS fun a6 a7 h=>?_
 obtain ⟨a8,M⟩:=cT a7
 simp only[*,go_sem]
 refine ax fun N a9 O=>?_;have ba:=aN.cons O a5;try simp only[au] at O
 try simp only[*,go_sem]
 have bb:aW eE ro 132 (.slice (some ⟨N,0,none⟩) 0 0) ([]:List cg) [(N,.cells #[] 132)]:=aW.empty a9
 refine kB (r:=eE) (l:=([]:List cg)) (xs:=u0.props) [] ((i,bk u0 s1 (sl d10 u0.props c) a b)::(g,bz 29)::(f,bk u0 s1 (sl d10 u0.props c) a b)::[]) bb ba a8 k.p rfl rfl lu lu rS rU rfl rT (by decide) (by decide) (fun dt o z B C bc=>?_)
 simp only[List.append_nil,List.cons_append,List.nil_append,List.append_assoc] at C
 subst B
 rw[<-M] at z;clear M
 obtain ⟨d48,bd,rfl,bj⟩:=z.len
 have du:=aN.back (l:=(i,bk u0 s1 (sl d10 u0.props c) a b)::(g,bz 29)::(f,bk u0 s1 (sl d10 u0.props c) a b)::o) (l':=[]++(o++([(i,bk u0 s1 (sl d10 u0.props c) a b),(g,bz 29),(f,bk u0 s1 (sl d10 u0.props c) a b)]++[]))) [] [(i,bk u0 s1 (sl d10 u0.props c) a b),(g,bz 29),(f,bk u0 s1 (sl d10 u0.props c) a b)] o [] (by first|rfl|simp only[List.append_nil,List.cons_append,List.nil_append,List.append_assoc]|(simp only[List.append_nil,List.cons_append,List.nil_append,List.append_assoc];rfl)) (by first|rfl|simp only[List.append_nil,List.cons_append,List.nil_append,List.append_assoc]|(simp only[List.append_nil,List.cons_append,List.nil_append,List.append_assoc];rfl)) bc
 refine ⟨⟨ro,(i,bk u0 s1 (sl d10 u0.props c) a b)::(g,bz 29)::(f,bk u0 s1 (sl d10 u0.props c) a b)::o⟩,Le.back [] [(i,bk u0 s1 (sl d10 u0.props c) a b),(g,bz 29),(f,bk u0 s1 (sl d10 u0.props c) a b)] o [] (by first|rfl|simp only[List.append_nil,List.cons_append,List.nil_append,List.append_assoc]|(simp only[List.append_nil,List.cons_append,List.nil_append,List.append_assoc];rfl)) (by first|rfl|simp only[List.append_nil,List.cons_append,List.nil_append,List.append_assoc]|(simp only[List.append_nil,List.cons_append,List.nil_append,List.append_assoc];rfl)),?_⟩
 refine aD ?_
 try simp only[*,go_sem]
 refine aa hJ (aa hJ ?_)
 refine aL hJ fun dv=>?_
 refine ag hJ ?_
 simp only[*,go_sem]
 refine aU hJ ?_
 revert h;refine bS fun bl s bm=>?_
 refine bX hJ [8,15,16,17,18,19,20,21,22,23,24,25,26,27,28,29,30,31] (fun m bo F'=>∃(d57:Option Addr) (j:Nat) (D:List (Nat×Obj)) (u:Int) (d:(List cg)),bg (xj w n) m (u,d)=some bl/\F'=⟨ro,(i,bk u0 s1 (sl d57 d j) a b)::(g,bz 29)::(f,bk u0 s1 (sl d10 u0.props c) a b)::D⟩/\aW eE ro 132 (.slice d57 d.length j) d D/\d.length<=j/\slot bo 8= .int .i64 u) fu ?_ ?_
 ·refine ⟨d48,bd,o,0,a6,s,rfl,z,bj,?_⟩
  simp only[*,go_sem]
 rintro E dC F' P ⟨d57,j,D,u,d,s,rfl,Q,dE,dT⟩
 obtain ⟨br,bs,b0⟩:=P.pick [1,2,6,7] (by decide)
 simp only[*,go_sem] at br bs b0
 clear P ad hd ae k1 al
 obtain _|E:=E
 ·exact absurd s (by simp only[bg,reduceCtorEq,not_false_eq_true])
 revert s;refine bS fun ea h F=>?_
 unfold xj at h
 try dsimp only at h
 refine aa hJ (aa hJ ?_)
 refine aL hJ fun eb=>?_
 refine ag hJ ?_
 simp only[*,go_sem]
 revert h;refine jC hJ (by simp only[*,go_sem]) (fun b1 h=>?_) fun b1 h=>?_
 ·refine aF hJ (aa hJ ?_)
  refine aU hJ ?_
  refine aL hJ fun b2=>?_
  refine fN hJ mixed [11] (.pure 0 (.rd 1 (.pure 2 (.pure 3 (.pure 4 (.rd 5 (.pure 6 (.pure 7 (.one 8 (.one 9 (.pure 10 (.last 11 .done)))))))))))) ⟨ro,[(i,bk u0 s1 (sl d57 d j) a b),(g,bz 29),(f,bk u0 s1 (sl d10 u0.props c) a b)]⟩ (by simp only[*,go_sem]) (by kernel_rfl) ?_
  revert h;refine bS fun q b3 h=>?_
  obtain ⟨ec,ed,R⟩:=cw b3
  obtain ⟨eh,b4,b5,ca,S⟩:=K.el _ _ R
  obtain rfl:b4=[.int .i64 q]:=ca
  cases b5
  have cb:=S 0 _ rfl;simp only[go_sem] at cb
  clear S R
  revert h;refine bS fun cd cf h=>?_
  obtain rfl:=sI h
  obtain ⟨cl,T⟩:=cT cf
  try simp only[*,go_sem]
  refine ax fun U cy V=>?_;have cS:=aN.cons V b2;try simp only[au] at V
  try simp only[*,go_sem]
  refine dG (r:=eE) (l:=d) (x:=(⟨q,n⟩:cg)) (cs:=#[.int .i64 q,.int .i64 n]) (e2:=132) [(U,.cells #[.int .i64 q,.int .i64 n] 132),(i,bk u0 s1 (sl d57 d j) a b),(g,bz 29),(f,bk u0 s1 (sl d10 u0.props c) a b)] [] Q cS cl rfl (by simp only[*,go_sem]) cy rfl rfl lu lu rS rU rfl rT (by decide) (by decide) (fun et W G B C ev=>?_)
  simp only[List.append_nil,List.cons_append,List.nil_append,List.append_assoc] at C
  subst B
  rw[<-T] at G;clear T
  obtain ⟨d111,c0,rfl,da⟩:=G.len
  refine ⟨⟨ro,(U,.cells #[.int .i64 q,.int .i64 n] 132)::(i,bk u0 s1 (sl d57 d j) a b)::(g,bz 29)::(f,bk u0 s1 (sl d10 u0.props c) a b)::W⟩,Le.refl _,?_⟩
  refine ⟨by simp only[*,go_sem],bN ?_⟩
  try simp only[*,go_sem]
  refine aL hJ fun eQ=>?_
  refine ag hJ ?_
  simp only[*,go_sem]
  refine ⟨E,Nat.lt_succ_self _,_,Le.sub (List.Sublist.cons _ (List.Sublist.refl _)),d111,c0,W,(IntKind.i64.wrap (u+1)),cd,F,rfl,G,da,?_⟩
  simp only[*,go_sem]
 obtain rfl:=sI h
 refine bU ?_
 simp only[go_sem]
 obtain rfl:=sI F;clear F
 have h:=bm
 dsimp only[aG] at h
 obtain rfl:=sI h
 refine aa hJ ?_
 refine aL hJ fun eS=>?_
 refine ag hJ ?_
 simp only[*,go_sem]
 refine aL hJ fun X=>?_
 obtain ⟨e0,Y,db,Z,dd⟩:=Q.eB [(i,bk u0 s1 (sl d57 d j) a b),(g,bk u0 s1 (sl d57 d j) a b),(f,bk u0 s1 (sl d10 u0.props c) a b)] [] X (aA.cons a3 (aA.cons a0 (aA.cons ao (aA.nil _))))
 clear X
 refine cH hJ dd ?_
 obtain ⟨e1,e3,-⟩:=Z.op
 replace k:=k.mono Y
 simp only[bf] at db
 refine ay ?_
 simp only[*,go_sem]
 exact ⟨_,Y,Le.sub (List.nil_sublist _),_,_,_,_,rfl,⟨k.e,Z,k.y,k.t⟩⟩
def xl (u0:ak)(a:(List Int))(st:(Int×(List bB))):Option (Fl (Int×(List bB)) ak):=
 cond (decide (st.1<(a.length:Int))) (ah (bw a st.1) fun b=>ah (bw u0.told b) fun c=>ah (cB st.2 ([c])) fun d=>some (.nx ((IntKind.i64.wrap (st.1+1)),d))) (some (.bk (st.1,st.2)))
def kM (u0:ak)(a:(List Int)):Option ak:=
 ah (bg (xl u0 a) fu (0,([]:List bB))) fun o=>aG o (fun b=>some (⟨u0.aZ,u0.bD,u0.aR,u0.aj,u0.props,u0.aE,b.2⟩:ak)) (fun _ _=>none) (fun r=>some r)
theorem xm {ro:Addr->Option Value}(u0:ak){s1 a b D:Value}(f:bI ro u0 s1 a b D)(s:(List Int)){E:Value}(F:aB rI ro E s){r:ak}(h:kM u0 s=some r):en Tryz.prog 33 #[bv u0 s1 a b D,E] ro (fun v aK=>∃G w1 w2 w3,v=bv r G w1 w2 w3/\bI aK r G w1 w2 w3):=by
 obtain ⟨d24,i,rfl,cl,cy,-⟩:=id f.t
 obtain ⟨d31,cS,rfl,c0,da,-⟩:=id F
 unfold kM at h
 have V:=f.oc;simp only[bC] at V
 refine aC.go Tryz.func33 rfl Tryz.ntmps33 Tryz.results33 (by simp) fun main J hJ A W hd hs=>?_
 have X:=hs 0
 have k1:=hs 1
 clear hs
 refine aa hJ (ag hJ ?_)
 simp only[*,go_sem]
 refine ax fun j Y Z=>?_;try simp only[au] at Z
 refine ax fun k ab ad=>?_;try simp only[au] at ad
 try simp only[*,go_sem]
 refine aa hJ (ag hJ ?_)
 simp only[*,go_sem]
 refine ax fun n ae al=>?_;try simp only[au] at al
 try simp only[*,go_sem]
 refine aa hJ (ag hJ ?_)
 simp only[*,go_sem]
 refine aa hJ (aa hJ (ag hJ ?_))
 simp only[*,go_sem]
 refine aU hJ ?_
 revert h;refine bS fun ao o ar=>?_
 refine bX hJ [6,9,10,11,12,13,14,15,16,17,18,19,20,21,22,23,24,25,26,27] (fun m a0 F'=>∃(d41:Option Addr) (d:Nat) (u:List (Nat×Obj)) (q:Int) (c:(List bB)),bg (xl u0 s) m (q,c)=some ao/\F'=⟨ro,(n,bk u0 s1 a b (sl d41 c d))::(k,bz 29)::(j,bk u0 s1 a b (sl d24 u0.told i))::u⟩/\aW cX ro 91 (.slice d41 c.length d) c u/\c.length<=d/\slot a0 6= .int .i64 q) fu ?_ ?_
 ·refine ⟨none,0,[],0,([]:List bB),o,rfl,aW.nil _ _ _,Nat.le_refl _,?_⟩
  simp only[*,go_sem]
 rintro w db F' H ⟨d41,d,u,q,c,o,rfl,I,dd,df⟩
 obtain ⟨a2,a3,a4⟩:=H.pick [1,2,4,5] (by decide)
 simp only[*,go_sem] at a2 a3 a4
 clear H W hd X k1
 obtain _|w:=w
 ·exact absurd o (by simp only[bg,reduceCtorEq,not_false_eq_true])
 revert o;refine bS fun dk h z=>?_
 unfold xl at h
 try dsimp only at h
 refine aa hJ (aa hJ ?_)
 refine aL hJ fun dp=>?_
 refine ag hJ ?_
 simp only[*,go_sem]
 revert h;refine jC hJ (by simp only[*,go_sem]) (fun a5 h=>?_) fun a5 h=>?_
 ·refine aF hJ (aa hJ ?_)
  refine aU hJ ?_
  refine aL hJ fun a6=>?_
  refine fN hJ mixed [13] (.pure 0 (.rd 1 (.pure 2 (.rd 3 (.pure 4 (.pure 5 (.pure 6 (.rd 7 (.pure 8 (.rd 9 (.one 10 (.one 11 (.pure 12 (.last 13 .done)))))))))))))) ⟨ro,[(n,bk u0 s1 a b (sl d41 c d)),(k,bz 29),(j,bk u0 s1 a b (sl d24 u0.told i))]⟩ (by simp only[*,go_sem]) (by kernel_rfl) ?_
  revert h;refine bS fun a7 a8 h=>?_
  obtain ⟨dq,ds,K⟩:=cw a8
  obtain ⟨dt,a9,ba,bb,L⟩:=F.el _ _ K
  obtain rfl:a9=[.int .i64 a7]:=bb
  cases ba
  have bc:=L 0 _ rfl;simp only[go_sem] at bc
  clear L K
  revert h;refine bS fun g bd h=>?_
  obtain ⟨du,dv,M⟩:=cw bd
  obtain ⟨N,bj,bl,bm,B⟩:=f.t.el _ _ M
  obtain rfl:bj=g.cells:=bm
  cases bl
  have bo:=B 0 _ rfl;simp only[go_sem] at bo
  have br:=B 1 _ rfl;simp only[go_sem] at br
  clear B M
  revert h;refine bS fun bs b0 h=>?_
  obtain rfl:=sI h
  obtain ⟨b1,O⟩:=cT b0
  try simp only[*,go_sem]
  refine ax fun P b2 Q=>?_;have b3:=aN.cons Q a6;try simp only[au] at Q
  try simp only[*,go_sem]
  refine dG (r:=cX) (l:=c) (x:=g) (cs:=#[.int .i64 g.aQ,.bool g.bh]) (e2:=91) [(P,.cells #[.int .i64 g.aQ,.bool g.bh] 91),(n,bk u0 s1 a b (sl d41 c d)),(k,bz 29),(j,bk u0 s1 a b (sl (some N) u0.told i))] [] I b3 b1 rfl (by simp only[*,go_sem]) b2 rfl rfl dQ dQ g6 g8 rfl g7 (by decide) (by decide) (fun dC R C b4 b5 dE=>?_)
  simp only[List.append_nil,List.cons_append,List.nil_append,List.append_assoc] at b5
  subst b4
  rw[<-O] at C;clear O
  obtain ⟨d105,ca,rfl,cb⟩:=C.len
  refine ⟨⟨ro,(P,.cells #[.int .i64 g.aQ,.bool g.bh] 91)::(n,bk u0 s1 a b (sl d41 c d))::(k,bz 29)::(j,bk u0 s1 a b (sl (some N) u0.told i))::R⟩,Le.refl _,?_⟩
  refine ⟨by simp only[*,go_sem],bN ?_⟩
  try simp only[*,go_sem]
  refine aL hJ fun dT=>?_
  refine ag hJ ?_
  simp only[*,go_sem]
  refine ⟨w,Nat.lt_succ_self _,_,Le.sub (List.Sublist.cons _ (List.Sublist.refl _)),d105,ca,R,(IntKind.i64.wrap (q+1)),bs,z,rfl,C,cb,?_⟩
  simp only[*,go_sem]
 obtain rfl:=sI h
 refine bU ?_
 simp only[go_sem]
 obtain rfl:=sI z;clear z
 have h:=ar
 dsimp only[aG] at h
 obtain rfl:=sI h
 refine aa hJ ?_
 refine aL hJ fun ea=>?_
 refine ag hJ ?_
 simp only[*,go_sem]
 refine aL hJ fun S=>?_
 obtain ⟨eb,T,cd,U,cf⟩:=I.eB [(n,bk u0 s1 a b (sl d41 c d)),(k,bk u0 s1 a b (sl d41 c d)),(j,bk u0 s1 a b (sl d24 u0.told i))] [] S (aA.cons ae (aA.cons ab (aA.cons Y (aA.nil _))))
 clear S
 refine cH hJ cf ?_
 obtain ⟨ec,ed,-⟩:=U.op
 replace f:=f.mono T
 simp only[bf] at cd
 refine ay ?_
 simp only[*,go_sem]
 exact ⟨_,T,Le.sub (List.nil_sublist _),_,_,_,_,rfl,⟨f.e,f.p,f.y,U⟩⟩
def xo :Option ak:=
 ah (fT 1 2) fun a=>ah (qs 10 12) fun b=>ah (qs 10 10) fun c=>some (⟨20,2,a,[(⟨0,2⟩:bH),(⟨8,4⟩:bH),(⟨14,4⟩:bH)],([]:(List cg)),[(⟨2,b⟩:b6),(⟨4,c⟩:b6)],([]:(List bB))⟩:ak)
theorem G2 {ro:Addr->Option Value}{r:ak}(h:xo=some r):en Tryz.prog 40 #[] ro (fun v aK=>∃m w1 w2 w3,v=bv r m w1 w2 w3/\bI aK r m w1 w2 w3):=by
 unfold xo at h
 refine aC.go Tryz.func40 rfl Tryz.ntmps40 Tryz.results40 (by simp) fun main J hJ A H hd hs=>?_
 clear hs
 refine aa hJ (ag hJ ?_)
 simp only[*,go_sem]
 refine ax fun n r1 n1=>?_;try simp only[au] at n1
 try simp only[*,go_sem]
 refine aa hJ ?_
 refine aL hJ fun C=>?_
 refine ag hJ ?_
 revert h;refine bS fun g D h=>?_
 simp only[*,go_sem]
 refine aM hJ _ (gQ 1 2 D) (aD ?_)
 revert h;refine bS fun a E h=>?_
 try simp only[*,go_sem]
 refine ax fun b5 p q=>?_;have F:=aN.cons q C;try simp only[au] at q
 try simp only[*,go_sem]
 refine aM hJ _ (s6 10 12 E) (aD ?_)
 revert h;refine bS fun c G h=>?_
 obtain rfl:=sI h
 try simp only[*,go_sem]
 refine aM hJ _ (s6 10 10 G) (aD ?_)
 try simp only[*,go_sem]
 refine ax fun d i s=>?_;have I:=aN.cons s F;try simp only[au] at s
 try simp only[*,go_sem]
 refine aL hJ fun t=>?_
 obtain ⟨u,j,w⟩:=ga (b:=b5) (o:=(.cells #[.int .i64 0,.int .i64 2,.int .i64 8,.int .i64 4,.int .i64 14,.int .i64 4] 45)) [(d,.cells #[.int .i64 2,.int .i64 a.low,.int .i64 a.high,.int .i64 4,.int .i64 c.low,.int .i64 c.high] 130)] ((n,.cells #[.int .i64 20,.int .i64 2,.int .i64 g.num,.int .i64 g.den,.slice (some ⟨b5,0,none⟩) 3 3,.slice none 0 0,.slice (some ⟨d,0,none⟩) 2 2,.slice none 0 0] 29)::[]) t p (aA.cons i (aA.cons r1 (aA.nil _)))
 clear t
 have f:aB eD (bO ro b5 (.cells #[.int .i64 0,.int .i64 2,.int .i64 8,.int .i64 4,.int .i64 14,.int .i64 4] 45)) (.slice (some ⟨b5,0,none⟩) 3 3) [(⟨0,2⟩:bH),(⟨8,4⟩:bH),(⟨14,4⟩:bH)]:=(aB.flat (r:=eD) (e:=45) (cs:=#[.int .i64 0,.int .i64 2,.int .i64 8,.int .i64 4,.int .i64 14,.int .i64 4]) bH.cells ([(⟨0,2⟩:bH),(⟨8,4⟩:bH),(⟨14,4⟩:bH)]) (fun _=>rfl) p rfl (by simp))
 generalize bO ro b5 (.cells #[.int .i64 0,.int .i64 2,.int .i64 8,.int .i64 4,.int .i64 14,.int .i64 4] 45)=x at u j w f
 refine cH hJ w ?_
 obtain ⟨K,L,-⟩:=f.op
 replace i:=j.hd
 replace r1:=j.tl.hd
 simp only[bf] at j
 refine aL hJ fun y=>?_
 obtain ⟨k,z,B⟩:=ga (b:=d) (o:=(.cells #[.int .i64 2,.int .i64 a.low,.int .i64 a.high,.int .i64 4,.int .i64 c.low,.int .i64 c.high] 130)) [] ((n,.cells #[.int .i64 20,.int .i64 2,.int .i64 g.num,.int .i64 g.den,.slice (some ⟨b5,0,none⟩) ([(⟨0,2⟩:bH),(⟨8,4⟩:bH),(⟨14,4⟩:bH)]).length 3,.slice none 0 0,.slice (some ⟨d,0,none⟩) 2 2,.slice none 0 0] 29)::[]) y i (aA.cons r1 (aA.nil _))
 clear y
 have l:aB eY (bO x d (.cells #[.int .i64 2,.int .i64 a.low,.int .i64 a.high,.int .i64 4,.int .i64 c.low,.int .i64 c.high] 130)) (.slice (some ⟨d,0,none⟩) 2 2) [(⟨2,a⟩:b6),(⟨4,c⟩:b6)]:=(aB.flat (r:=eY) (e:=130) (cs:=#[.int .i64 2,.int .i64 a.low,.int .i64 a.high,.int .i64 4,.int .i64 c.low,.int .i64 c.high]) b6.cells ([(⟨2,a⟩:b6),(⟨4,c⟩:b6)]) (fun _=>rfl) i rfl (by simp))
 generalize bO x d (.cells #[.int .i64 2,.int .i64 a.low,.int .i64 a.high,.int .i64 4,.int .i64 c.low,.int .i64 c.high] 130)=M at k z B l
 refine cH hJ B ?_
 obtain ⟨N,O,-⟩:=l.op
 replace f:=f.mono k
 simp only[bf] at z
 refine ay ?_
 simp only[*,go_sem]
 exact ⟨_,(u).trans k,Le.sub (List.nil_sublist _),_,_,_,_,rfl,f,aB.nil _ _,l,aB.nil _ _⟩
def G3 (u0:Int)(st:((List Int)×Int)):Option (Fl ((List Int)×Int) (List Int)):=
 cond (decide (st.2<u0)) (ah (cB st.1 ([st.2])) fun a=>some (.nx (a,(IntKind.i64.wrap (st.2+1))))) (some (.bk (st.1,st.2)))
def Bi (u0:Int):Option (List Int):=
 ah (bg (G3 u0) fu (([]:List Int),0)) fun o=>aG o (fun a=>some a.1) (fun _ _=>none) (fun r=>some r)
def xp (u0:(List Int))(a:(List Int))(st:(Bool×Int)):Option (Fl (Bool×Int) Bool):=
 cond (decide (st.2<(u0.length:Int))) (cond (decide (st.2<(a.length:Int))) (ah (bw u0 st.2) fun b=>ah (bw a st.2) fun c=>cond ((b != c)) (some (.rt (decide (b<c)))) (some (.nx (st.1,(IntKind.i64.wrap (st.2+1)))))) (some (.bk (st.1,st.2)))) (some (.bk (st.1,st.2)))
def xq (u0:(List Int))(a:(List Int)):Option Bool:=
 ah (bg (xp u0 a) fu (false,0)) fun o=>aG o (fun b=>some (decide ((u0.length:Int)<(a.length:Int)))) (fun _ _=>none) (fun r=>some r)
theorem G4 {ro:Addr->Option Value}(u0:(List Int)){s1:Value}(i:aB rI ro s1 u0)(e:(List Int)){j:Value}(k:aB rI ro j e){r:Bool}(h:xq u0 e=some r):aC Tryz.prog 74 #[s1,j] ⟨ro,[]⟩ (fun v _=>v= .bool r):=by
 obtain ⟨d3,c4,rfl,R,S,-⟩:=id i
 obtain ⟨d10,T,rfl,U,V,-⟩:=id k
 unfold xq at h
 refine aC.go Tryz.func74 rfl Tryz.ntmps74 Tryz.results74 (by simp) fun main J hJ A t hd hs=>?_
 have u:=hs 0
 have k1:=hs 1
 clear hs
 refine aa hJ (ag hJ ?_)
 simp only[*,go_sem]
 refine aa hJ (aa hJ (ag hJ ?_))
 simp only[*,go_sem]
 refine aU hJ ?_
 revert h;refine bS fun w b f=>?_
 refine bX hJ [4,5,6,7,8,9,10,11,12,13,14,15,16,17,18,19,20,21,22,23,24,25,26,27,28,29,30,31,32,33,34,35] (fun m l F'=>∃(c:Bool) (d:Int),bg (xp u0 e) m (c,d)=some w/\F'=⟨ro,[]⟩/\slot l 4= .bool c/\slot l 5= .int .i64 d) fu ?_ ?_
 ·refine ⟨false,0,b,rfl,?_⟩
  simp only[*,go_sem]
 rintro g W F' n ⟨c,d,b,rfl,X,Y⟩
 obtain ⟨x,y,z⟩:=n.pick [0,1] (by decide)
 simp only[*,go_sem] at x y z
 clear n t hd u k1
 obtain _|g:=g
 ·exact absurd b (by simp only[bg,reduceCtorEq,not_false_eq_true])
 revert b;refine bS fun Z h a=>?_
 unfold xp at h
 try dsimp only at h
 refine aa hJ (aa hJ (ag hJ ?_))
 revert h;refine cS (fun B h=>?_) fun B h=>?_
 ·try simp only[*,go_sem]
  revert h;refine jC hJ (by simp only[*,go_sem]) (fun C h=>?_) fun C h=>?_
  ·refine aF hJ (aa hJ ?_)
   refine aU hJ (aa hJ ?_)
   refine cY hJ mixed 9 0 (by simp only[*,go_sem]) (by kernel_rfl) ?_
   revert h;refine bS fun D E h=>?_
   obtain ⟨ab,ad,o⟩:=cw E
   obtain ⟨ae,F,G,H,p⟩:=i.el _ _ o
   obtain rfl:F=[.int .i64 D]:=H
   cases G
   have I:=p 0 _ rfl;simp only[go_sem] at I
   clear p o
   revert h;refine bS fun K L h=>?_
   obtain ⟨al,ao,q⟩:=cw L
   obtain ⟨ar,M,N,O,s⟩:=k.el _ _ q
   obtain rfl:M=[.int .i64 K]:=O
   cases N
   have P:=s 0 _ rfl;simp only[go_sem] at P
   clear s q
   try simp only[*,go_sem]
   revert h;refine jC hJ (by simp only[*,go_sem]) (fun Q h=>?_) fun Q h=>?_
   ·obtain rfl:=sI h
    refine aa hJ ?_
    refine cY hJ mixed 10 0 (by simp only[*,go_sem]) (by kernel_rfl) ?_
    simp only[*,go_sem]
    obtain rfl:=sI a;clear a
    have h:=f
    dsimp only[aG] at h
    obtain rfl:=sI h
    refine ay ?_
    simp only[*,go_sem]
   obtain rfl:=sI h
   refine aF hJ (ag hJ ?_)
   simp only[*,go_sem]
   refine ⟨g,Nat.lt_succ_self _,_,Le.sub (List.Sublist.refl _),c,(IntKind.i64.wrap (d+1)),a,rfl,?_⟩
   simp only[*,go_sem]
  obtain rfl:=sI h
  refine bU ?_
  simp only[go_sem]
  obtain rfl:=sI a;clear a
  have h:=f
  dsimp only[aG] at h
  obtain rfl:=sI h
  refine aa hJ (ag hJ ?_)
  simp only[*,go_sem]
  refine ay ?_
  simp only[*,go_sem]
 obtain rfl:=sI h
 try simp only[*,go_sem]
 refine bL hJ (by simp only[*,go_sem]) ?_
 refine bU ?_
 simp only[go_sem]
 obtain rfl:=sI a;clear a
 have h:=f
 dsimp only[aG] at h
 obtain rfl:=sI h
 refine aa hJ (ag hJ ?_)
 simp only[*,go_sem]
 refine ay ?_
 simp only[*,go_sem]
def kN (u0:(List Int))(a:(List Int)):Option Bool:=
 cond (decide ((u0.length:Int)<(a.length:Int))) (some true) (cond (((u0.length:Int)==(a.length:Int))) (ah (xq u0 a) fun b=>some b) (some false))
theorem G5 {ro:Addr->Option Value}(u0:(List Int)){s1:Value}(d:aB rI ro s1 u0)(a:(List Int)){e:Value}(f:aB rI ro e a){r:Bool}(h:kN u0 a=some r):aC Tryz.prog 35 #[s1,e] ⟨ro,[]⟩ (fun v _=>v= .bool r):=by
 obtain ⟨d3,c4,rfl,i,j,-⟩:=id d
 obtain ⟨d10,k,rfl,l,m,-⟩:=id f
 unfold kN at h
 refine aC.go Tryz.func35 rfl Tryz.ntmps35 Tryz.results35 (by simp) fun main J hJ A n hd hs=>?_
 have o:=hs 0
 have k1:=hs 1
 clear hs
 refine aa hJ (ag hJ ?_)
 simp only[*,go_sem,-h]
 refine aa hJ (ag hJ ?_)
 revert h;refine cS (fun b h=>?_) fun b h=>?_
 ·try simp only[Int.ofNat_lt] at b
  try simp only[*,go_sem,-h]
  obtain rfl:=sI h
  refine ay ?_
  simp only[*,go_sem]
 try simp only[Int.ofNat_lt] at b
 revert h;refine cS (fun c h=>?_) fun c h=>?_
 ·try simp only[Int.ofNat_lt] at c
  revert h;refine bS fun p g h=>?_
  try simp only[*,go_sem,-h]
  refine aM hJ _ (G4 u0 (d.mono aH) a (f.mono aH) g) (aD ?_)
  try simp only[*,go_sem,-h]
  obtain rfl:=sI h
  refine ay ?_
  simp only[*,go_sem]
 try simp only[Int.ofNat_lt] at c
 try simp only[*,go_sem,-h]
 obtain rfl:=sI h
 refine ay ?_
 simp only[*,go_sem]
def qt (u0:ak)(st:(Int×Int)):Option (Fl (Int×Int) Int):=
 cond (decide (st.2<(u0.aj.length:Int))) (ah (bw u0.aj st.2) fun a=>ah (dI a.an 0 (IntKind.i64.wrap (u0.aZ - 1))) fun b=>cond (!b) (some (.rt 1)) (ah (dI a.high 0 60) fun c=>cond (!c) (some (.rt 1)) (cond (decide (0<st.2)) (ah (bw u0.aj (IntKind.i64.wrap (st.2 - 1))) fun d=>cond (decide (a.an<=d.an)) (some (.rt 7)) (some (.nx (st.1,(IntKind.i64.wrap (st.2+1)))))) (some (.nx (st.1,(IntKind.i64.wrap (st.2+1)))))))) (some (.bk (st.1,st.2)))
def m5 (u0:ak):Option Int:=
 ah (dI (u0.aj.length:Int) 2 5) fun a=>cond (!a) (some 2) (ah (bg (qt u0) fu (0,0)) fun o=>aG o (fun b=>some 0) (fun _ _=>none) (fun r=>some r))
theorem G6 {ro:Addr->Option Value}(u0:ak){s1 i j k:Value}(l:bI ro u0 s1 i j k){r:Int}(h:m5 u0=some r):aC Tryz.prog 75 #[bv u0 s1 i j k] ⟨ro,[]⟩ (fun v _=>v= .int .i64 r):=by
 obtain ⟨d3,c4,rfl,al,ao,-⟩:=id l.e
 unfold m5 at h
 refine aC.go Tryz.func75 rfl Tryz.ntmps75 Tryz.results75 (by simp) fun main J hJ A w hd hs=>?_
 have x:=hs 0
 clear hs
 refine aa hJ (ag hJ ?_)
 simp only[*,go_sem]
 refine ax fun y ar z=>?_;try simp only[au] at z
 try simp only[*,go_sem]
 refine aa hJ (aa hJ (ag hJ ?_))
 revert h;refine bS fun a0 B h=>?_
 simp only[*,go_sem]
 refine aM hJ _ (fR (u0.aj.length:Int) 2 5 B) (aD ?_)
 try simp only[*,go_sem]
 revert h;refine jC hJ (by simp only[*,go_sem]) (fun C h=>?_) fun C h=>?_
 ·obtain rfl:=sI h
  refine aa hJ (ag hJ ?_)
  simp only[*,go_sem]
  refine ay ?_
  simp only[*,go_sem]
 refine aF hJ (aa hJ ?_)
 refine aa hJ (ag hJ ?_)
 simp only[*,go_sem]
 refine aU hJ ?_
 revert h;refine bS fun D d f=>?_
 refine bX hJ [2,3,4,10,11,12,13,14,15,16,17,18,19,20,21,22,23,24,25,26,27,28,29,30,31,32,33,34,35,36,37,38,39,40,41,42,43,44,45,46,47,48] (fun m q F'=>∃(b:Int) (c:Int),bg (qt u0) m (b,c)=some D/\F'=⟨ro,(y,bk u0 (sl d3 u0.aj c4) i j k)::[]⟩/\slot q 2= .int .i64 b/\slot q 3= .int .i64 c) fu ?_ ?_
 ·refine ⟨0,0,d,rfl,?_⟩
  simp only[*,go_sem]
 rintro g a2 F' s ⟨b,c,d,rfl,a3,a4⟩
 obtain ⟨E,F,G⟩:=s.pick [1] (by decide)
 simp only[*,go_sem] at E F G
 clear s w hd x
 obtain _|g:=g
 ·exact absurd d (by simp only[bg,reduceCtorEq,not_false_eq_true])
 revert d;refine bS fun a5 h a=>?_
 unfold qt at h
 try dsimp only at h
 refine aa hJ (aa hJ (ag hJ ?_))
 simp only[*,go_sem]
 revert h;refine jC hJ (by simp only[*,go_sem]) (fun H h=>?_) fun H h=>?_
 ·refine aF hJ (aa hJ ?_)
  refine aU hJ (aa hJ ?_)
  refine ag hJ ?_
  revert h;refine bS fun n I h=>?_
  obtain ⟨a6,a7,t⟩:=cw I
  obtain ⟨a8,K,L,M,o⟩:=l.e.el _ _ t
  obtain rfl:K=n.cells:=M
  cases L
  have N:=o 0 _ rfl;simp only[go_sem] at N
  have O:=o 1 _ rfl;simp only[go_sem] at O
  clear o t
  try simp only[*,go_sem]
  refine ax fun a9 ba P=>?_;try simp only[au] at P
  try simp only[*,go_sem]
  refine aa hJ (aa hJ (ag hJ ?_))
  revert h;refine bS fun bb Q h=>?_
  simp only[*,go_sem]
  refine aM hJ _ (fR n.an 0 (IntKind.i64.wrap (u0.aZ - 1)) Q) (aD ?_)
  revert h;refine cS (fun R h=>?_) fun R h=>?_
  ·obtain rfl:=sI h
   try simp only[*,go_sem]
   refine bK hJ (by simp only[*,go_sem]) ?_
   refine aa hJ (ag hJ ?_)
   simp only[*,go_sem]
   obtain rfl:=sI a;clear a
   have h:=f
   dsimp only[aG] at h
   obtain rfl:=sI h
   refine ay ?_
   simp only[*,go_sem]
  revert h;refine bS fun bc S h=>?_
  try simp only[*,go_sem]
  refine aM hJ _ (fR n.high 0 60 S) (aD ?_)
  try simp only[*,go_sem]
  revert h;refine jC hJ (by simp only[*,go_sem]) (fun T h=>?_) fun T h=>?_
  ·obtain rfl:=sI h
   refine aa hJ (ag hJ ?_)
   simp only[*,go_sem]
   obtain rfl:=sI a;clear a
   have h:=f
   dsimp only[aG] at h
   obtain rfl:=sI h
   refine ay ?_
   simp only[*,go_sem]
  refine aF hJ (aa hJ ?_)
  refine cY hJ mixed 14 2 (by simp only[*,go_sem]) (by kernel_rfl) ?_
  revert h;refine cS (fun U h=>?_) fun U h=>?_
  ·revert h;refine bS fun V W h=>?_
   obtain ⟨bd,bj,u⟩:=cw W
   obtain ⟨bl,X,Y,Z,p⟩:=l.e.el _ _ u
   obtain rfl:X=V.cells:=Z
   cases Y
   have ab:=p 0 _ rfl;simp only[go_sem] at ab
   have ad:=p 1 _ rfl;simp only[go_sem] at ad
   clear p u
   try simp only[*,go_sem]
   revert h;refine jC hJ (by simp only[*,go_sem]) (fun ae h=>?_) fun ae h=>?_
   ·obtain rfl:=sI h
    refine aa hJ (ag hJ ?_)
    simp only[*,go_sem]
    obtain rfl:=sI a;clear a
    have h:=f
    dsimp only[aG] at h
    obtain rfl:=sI h
    refine ay ?_
    simp only[*,go_sem]
   obtain rfl:=sI h
   refine aF hJ (ag hJ ?_)
   simp only[*,go_sem]
   refine ⟨g,Nat.lt_succ_self _,_,Le.sub (List.Sublist.cons _ (List.Sublist.refl _)),b,(IntKind.i64.wrap (c+1)),a,rfl,?_⟩
   simp only[*,go_sem]
  obtain rfl:=sI h
  try simp only[*,go_sem]
  refine bL hJ (by simp only[*,go_sem]) ?_
  refine aF hJ (ag hJ ?_)
  simp only[*,go_sem]
  refine ⟨g,Nat.lt_succ_self _,_,Le.sub (List.Sublist.cons _ (List.Sublist.refl _)),b,(IntKind.i64.wrap (c+1)),a,rfl,?_⟩
  simp only[*,go_sem]
 obtain rfl:=sI h
 refine bU ?_
 simp only[go_sem]
 obtain rfl:=sI a;clear a
 have h:=f
 dsimp only[aG] at h
 obtain rfl:=sI h
 refine aa hJ (ag hJ ?_)
 simp only[*,go_sem]
 refine ay ?_
 simp only[*,go_sem]
def Bj (u0:ak)(st:(Int×Int)):Option (Fl (Int×Int) Int):=
 cond (decide (st.2<(u0.told.length:Int))) (ah (bw u0.told st.2) fun a=>ah (oC u0 a.aQ) fun b=>cond (!b) (some (.rt 6)) (some (.nx (st.1,(IntKind.i64.wrap (st.2+1)))))) (some (.bk (st.1,st.2)))
def Bl (u0:ak)(st:(Int×Int)):Option (Fl (Int×Int) Int):=
 cond (decide (st.2<(u0.aE.length:Int))) (ah (bw u0.aE st.2) fun a=>ah (dI a.back 1 20) fun b=>cond (!b) (some (.rt 1)) (ah (m3 a.high 0 60) fun c=>cond (!c) (some (.rt 1)) (cond (decide (3<=(IntKind.i64.wrap (a.high.high - a.high.low)))) (some (.rt 1)) (some (.nx (st.1,(IntKind.i64.wrap (st.2+1)))))))) (some (.bk (st.1,st.2)))
def qu (u0:ak)(st:(Int×Int)):Option (Fl (Int×Int) Int):=
 cond (decide (st.2<(u0.props.length:Int))) (ah (bw u0.props st.2) fun a=>ah (mZ u0 a.place) fun b=>cond (!b) (some (.rt 6)) (ah (dI a.di 1 20) fun c=>cond (!c) (some (.rt 1)) (some (.nx (st.1,(IntKind.i64.wrap (st.2+1))))))) (some (.bk (st.1,st.2)))
def xu (u0:ak)(st:(Int×Int)):Option (Fl (Int×Int) Int):=
 cond (decide (st.2<(u0.aE.length:Int))) (ah (bw u0.aE st.2) fun a=>ah (dI a.back 1 20) fun b=>cond (!b) (some (.rt 1)) (ah (m3 a.high 0 60) fun c=>cond (!c) (some (.rt 1)) (cond (decide (3<=(IntKind.i64.wrap (a.high.high - a.high.low)))) (some (.rt 1)) (some (.nx (st.1,(IntKind.i64.wrap (st.2+1)))))))) (some (.bk (st.1,st.2)))
def xw (u0:ak)(st:(Int×Int)):Option (Fl (Int×Int) Int):=
 cond (decide (st.2<(u0.told.length:Int))) (ah (bw u0.told st.2) fun a=>ah (oC u0 a.aQ) fun b=>cond (!b) (some (.rt 6)) (some (.nx (st.1,(IntKind.i64.wrap (st.2+1)))))) (some (.bk (st.1,st.2)))
def m6 (u0:ak):Option Int:=
 cond (decide (3<(u0.props.length:Int))) (some 2) (ah (bg (qu u0) fu (0,0)) fun o=>aG o (fun a=>ah (dI (u0.aE.length:Int) 1 3) fun b=>cond (!b) (some 2) (ah (bg (xu u0) fu (a.1,0)) fun o=>aG o (fun c=>cond (decide (3<(u0.told.length:Int))) (some 2) (ah (bg (xw u0) fu (c.1,0)) fun o=>aG o (fun d=>some 0) (fun _ _=>none) (fun r=>some r))) (fun _ _=>none) (fun r=>some r))) (fun _ _=>none) (fun r=>some r))
theorem G7 {ro:Addr->Option Value}(u0:ak){s1 N O P:Value}(b:bI ro u0 s1 N O P){r:Int}(h:m6 u0=some r):aC Tryz.prog 76 #[bv u0 s1 N O P] ⟨ro,[]⟩ (fun v _=>v= .int .i64 r):=by
 obtain ⟨d10,w,rfl,ec,ed,-⟩:=id b.p
 obtain ⟨d17,x,rfl,eh,et,-⟩:=id b.y
 obtain ⟨d24,z,rfl,ev,eQ,-⟩:=id b.t
 unfold m6 at h
 refine aC.go Tryz.func76 rfl Tryz.ntmps76 Tryz.results76 (by simp) fun main J hJ A ao hd hs=>?_
 have ar:=hs 0
 clear hs
 refine aa hJ (ag hJ ?_)
 simp only[*,go_sem]
 refine ax fun B eS a0=>?_;try simp only[au] at a0
 try simp only[*,go_sem]
 refine aa hJ (aa hJ (ag hJ ?_))
 simp only[*,go_sem]
 revert h;refine jC hJ (by simp only[*,go_sem]) (fun a2 h=>?_) fun a2 h=>?_
 ·obtain rfl:=sI h
  refine aa hJ (ag hJ ?_)
  simp only[*,go_sem]
  refine ay ?_
  simp only[*,go_sem]
 refine aF hJ (aa hJ ?_)
 refine aa hJ (ag hJ ?_)
 simp only[*,go_sem]
 refine aU hJ ?_
 revert h;refine bS fun a3 i C=>?_
 refine bX hJ [2,3,11,12,13,14,15,16,17,18,19,20,21,22,23,24,25,26,27,28,29,30,31,32,33,34] (fun m c F'=>∃(e:Int) (j:Int),bg (qu u0) m (e,j)=some a3/\F'=⟨ro,(B,bk u0 s1 (sl d10 u0.props w) (sl d17 u0.aE x) (sl d24 u0.told z))::[]⟩/\slot c 2= .int .i64 e/\slot c 3= .int .i64 j) fu ?_ ?_
 ·refine ⟨0,0,i,rfl,?_⟩
  simp only[*,go_sem]
 rintro D e0 F' Q ⟨e,j,i,rfl,a4,a5⟩
 obtain ⟨R,S,T⟩:=Q.pick [1] (by decide)
 simp only[*,go_sem] at R S T
 clear Q ao hd ar
 obtain _|D:=D
 ·exact absurd i (by simp only[bg,reduceCtorEq,not_false_eq_true])
 revert i;refine bS fun e1 h d=>?_
 unfold qu at h
 try dsimp only at h
 refine aa hJ (aa hJ (ag hJ ?_))
 simp only[*,go_sem]
 revert h;refine jC hJ (by simp only[*,go_sem]) (fun a6 h=>?_) fun a6 h=>?_
 ·refine aF hJ (aa hJ ?_)
  refine aU hJ (aa hJ ?_)
  refine aa hJ ?_
  refine cY hJ mixed 9 1 (by simp only[*,go_sem]) (by kernel_rfl) ?_
  revert h;refine bS fun E a7 h=>?_
  obtain ⟨e2,e3,U⟩:=cw a7
  obtain ⟨fa,a8,a9,ba,G⟩:=b.p.el _ _ U
  obtain rfl:a8=E.cells:=ba
  cases a9
  have bb:=G 0 _ rfl;simp only[go_sem] at bb
  have bc:=G 1 _ rfl;simp only[go_sem] at bc
  clear G U
  revert h;refine bS fun fb bd h=>?_
  try simp only[*,go_sem]
  refine ⟨_,bE hJ fun F H=>GW u0 (b.mono (cc H)) E.place bd,b9 ?_⟩
  try simp only[*,go_sem]
  revert h;refine jC hJ (by simp only[*,go_sem]) (fun bj h=>?_) fun bj h=>?_
  ·obtain rfl:=sI h
   refine aa hJ (ag hJ ?_)
   simp only[*,go_sem]
   obtain rfl:=sI d;clear d
   have h:=C
   dsimp only[aG] at h
   obtain rfl:=sI h
   refine ay ?_
   simp only[*,go_sem]
  refine aF hJ (aa hJ ?_)
  refine ag hJ ?_
  revert h;refine bS fun ff bl h=>?_
  simp only[*,go_sem]
  refine aM hJ _ (fR E.di 1 20 bl) (aD ?_)
  try simp only[*,go_sem]
  revert h;refine jC hJ (by simp only[*,go_sem]) (fun bm h=>?_) fun bm h=>?_
  ·obtain rfl:=sI h
   refine aa hJ (ag hJ ?_)
   simp only[*,go_sem]
   obtain rfl:=sI d;clear d
   have h:=C
   dsimp only[aG] at h
   obtain rfl:=sI h
   refine ay ?_
   simp only[*,go_sem]
  obtain rfl:=sI h
  refine aF hJ (ag hJ ?_)
  simp only[*,go_sem]
  refine ⟨D,Nat.lt_succ_self _,_,Le.sub (List.Sublist.refl _),e,(IntKind.i64.wrap (j+1)),d,rfl,?_⟩
  simp only[*,go_sem]
 obtain rfl:=sI h
 refine bU ?_
 simp only[go_sem]
 obtain rfl:=sI d;clear d
 have h:=C
 dsimp only[aG] at h
 refine aa hJ (aa hJ (ag hJ ?_))
 revert h;refine bS fun fg bo h=>?_
 simp only[*,go_sem]
 refine aM hJ _ (fR (u0.aE.length:Int) 1 3 bo) (aD ?_)
 try simp only[*,go_sem]
 revert h;refine jC hJ (by simp only[*,go_sem]) (fun br h=>?_) fun br h=>?_
 ·obtain rfl:=sI h
  refine aa hJ (ag hJ ?_)
  simp only[*,go_sem]
  refine ay ?_
  simp only[*,go_sem]
 refine aF hJ (aa hJ ?_)
 refine aa hJ (ag hJ ?_)
 simp only[*,go_sem]
 refine aU hJ ?_
 revert h;refine bS fun bs k l=>?_
 refine bX hJ [2,4,5,40,41,42,43,44,45,46,47,48,49,50,51,52,53,54,55,56,57,58,59,60,61,62,63,64,65,66,67,68,69,70,71] (fun m c F'=>∃(f:Int) (n:Int),bg (Bl u0) m (f,n)=some bs/\F'=⟨ro,(B,bk u0 s1 (sl d10 u0.props w) (sl d17 u0.aE x) (sl d24 u0.told z))::[]⟩/\slot c 2= .int .i64 f/\slot c 4= .int .i64 n) fu ?_ ?_
 ·refine ⟨e,0,k,rfl,?_⟩
  simp only[*,go_sem]
 rintro I fi F' V ⟨f,n,k,rfl,bz,b0⟩
 obtain ⟨W,X,Y⟩:=V.pick [1] (by decide)
 simp only[*,go_sem] at W X Y
 clear V R S T a4 a5
 obtain _|I:=I
 ·exact absurd k (by simp only[bg,reduceCtorEq,not_false_eq_true])
 revert k;refine bS fun fl h a=>?_
 unfold Bl at h
 try dsimp only at h
 refine aa hJ (aa hJ (ag hJ ?_))
 simp only[*,go_sem]
 revert h;refine jC hJ (by simp only[*,go_sem]) (fun b1 h=>?_) fun b1 h=>?_
 ·refine aF hJ (aa hJ ?_)
  refine aU hJ (aa hJ ?_)
  refine ag hJ ?_
  revert h;refine bS fun K b2 h=>?_
  obtain ⟨fp,fq,Z⟩:=cw b2
  obtain ⟨fr,b3,b4,b5,o⟩:=b.y.el _ _ Z
  obtain rfl:b3=K.cells:=b5
  cases b4
  have ca:=o 0 _ rfl;simp only[go_sem] at ca
  have cb:=o 1 _ rfl;simp only[go_sem] at cb
  have cd:=o 2 _ rfl;simp only[go_sem] at cd
  clear o Z
  try simp only[*,go_sem]
  refine ax fun fs ft cf=>?_;try simp only[au] at cf
  try simp only[*,go_sem]
  refine aa hJ (ag hJ ?_)
  revert h;refine bS fun fv cl h=>?_
  simp only[*,go_sem]
  refine aM hJ _ (fR K.back 1 20 cl) (aD ?_)
  revert h;refine cS (fun cy h=>?_) fun cy h=>?_
  ·obtain rfl:=sI h
   try simp only[*,go_sem]
   refine bK hJ (by simp only[*,go_sem]) ?_
   refine aa hJ (ag hJ ?_)
   simp only[*,go_sem]
   obtain rfl:=sI a;clear a
   have h:=l
   dsimp only[aG] at h
   obtain rfl:=sI h
   refine ay ?_
   simp only[*,go_sem]
  revert h;refine bS fun fw c0 h=>?_
  try simp only[*,go_sem]
  refine aM hJ _ (GZ K.high 0 60 c0) (aD ?_)
  revert h;refine cS (fun da h=>?_) fun da h=>?_
  ·obtain rfl:=sI h
   try simp only[*,go_sem]
   refine bK hJ (by simp only[*,go_sem]) ?_
   refine aa hJ (ag hJ ?_)
   simp only[*,go_sem]
   obtain rfl:=sI a;clear a
   have h:=l
   dsimp only[aG] at h
   obtain rfl:=sI h
   refine ay ?_
   simp only[*,go_sem]
  try simp only[*,go_sem]
  revert h;refine jC hJ (by simp only[*,go_sem]) (fun db h=>?_) fun db h=>?_
  ·obtain rfl:=sI h
   refine aa hJ (ag hJ ?_)
   simp only[*,go_sem]
   obtain rfl:=sI a;clear a
   have h:=l
   dsimp only[aG] at h
   obtain rfl:=sI h
   refine ay ?_
   simp only[*,go_sem]
  obtain rfl:=sI h
  refine aF hJ (ag hJ ?_)
  simp only[*,go_sem]
  refine ⟨I,Nat.lt_succ_self _,_,Le.sub (List.Sublist.cons _ (List.Sublist.refl _)),f,(IntKind.i64.wrap (n+1)),a,rfl,?_⟩
  simp only[*,go_sem]
 obtain rfl:=sI h
 refine bU ?_
 simp only[go_sem]
 obtain rfl:=sI a;clear a
 have h:=l
 dsimp only[aG] at h
 refine aa hJ (aa hJ (ag hJ ?_))
 simp only[*,go_sem]
 revert h;refine jC hJ (by simp only[*,go_sem]) (fun dd h=>?_) fun dd h=>?_
 ·obtain rfl:=sI h
  refine aa hJ (ag hJ ?_)
  simp only[*,go_sem]
  refine ay ?_
  simp only[*,go_sem]
 refine aF hJ (aa hJ ?_)
 refine aa hJ (ag hJ ?_)
 simp only[*,go_sem]
 refine aU hJ ?_
 revert h;refine bS fun df q ab=>?_
 refine bX hJ [2,6,76,77,78,79,80,81,82,83,84,85,86,87,88,89,90,91] (fun m c F'=>∃(s:Int) (u:Int),bg (Bj u0) m (s,u)=some df/\F'=⟨ro,(B,bk u0 s1 (sl d10 u0.props w) (sl d17 u0.aE x) (sl d24 u0.told z))::[]⟩/\slot c 2= .int .i64 s/\slot c 6= .int .i64 u) fu ?_ ?_
 ·refine ⟨f,0,q,rfl,?_⟩
  simp only[*,go_sem]
 rintro L fx F' ad ⟨s,u,q,rfl,fP,fQ⟩
 obtain ⟨dk,dp,dq⟩:=ad.pick [1] (by decide)
 simp only[*,go_sem] at dk dp dq
 clear ad W X Y bz b0
 obtain _|L:=L
 ·exact absurd q (by simp only[bg,reduceCtorEq,not_false_eq_true])
 revert q;refine bS fun fS h g=>?_
 unfold Bj at h
 try dsimp only at h
 refine aa hJ (aa hJ (ag hJ ?_))
 simp only[*,go_sem]
 revert h;refine jC hJ (by simp only[*,go_sem]) (fun ds h=>?_) fun ds h=>?_
 ·refine aF hJ (aa hJ ?_)
  refine aU hJ (aa hJ ?_)
  refine cY hJ mixed 9 1 (by simp only[*,go_sem]) (by kernel_rfl) ?_
  revert h;refine bS fun ae dt h=>?_
  obtain ⟨fU,gg,al⟩:=cw dt
  obtain ⟨gl,du,dv,dC,M⟩:=b.t.el _ _ al
  obtain rfl:du=ae.cells:=dC
  cases dv
  have dE:=M 0 _ rfl;simp only[go_sem] at dE
  have dT:=M 1 _ rfl;simp only[go_sem] at dT
  clear M al
  revert h;refine bS fun gn ea h=>?_
  try simp only[*,go_sem]
  refine ⟨_,bE hJ fun F H=>GX u0 (b.mono (cc H)) ae.aQ ea,b9 ?_⟩
  try simp only[*,go_sem]
  revert h;refine jC hJ (by simp only[*,go_sem]) (fun eb h=>?_) fun eb h=>?_
  ·obtain rfl:=sI h
   refine aa hJ (ag hJ ?_)
   simp only[*,go_sem]
   obtain rfl:=sI g;clear g
   have h:=ab
   dsimp only[aG] at h
   obtain rfl:=sI h
   refine ay ?_
   simp only[*,go_sem]
  obtain rfl:=sI h
  refine aF hJ (ag hJ ?_)
  simp only[*,go_sem]
  refine ⟨L,Nat.lt_succ_self _,_,Le.sub (List.Sublist.refl _),s,(IntKind.i64.wrap (u+1)),g,rfl,?_⟩
  simp only[*,go_sem]
 obtain rfl:=sI h
 refine bU ?_
 simp only[go_sem]
 obtain rfl:=sI g;clear g
 have h:=ab
 dsimp only[aG] at h
 obtain rfl:=sI h
 refine aa hJ (ag hJ ?_)
 simp only[*,go_sem]
 refine ay ?_
 simp only[*,go_sem]
def ji (u0:ak):Option Int:=
 ah (dI u0.aZ 2 60) fun c=>cond (!c) (some 1) (ah (dI u0.bD 0 60) fun d=>cond (!d) (some 1) (ah (dI u0.aR.den 1 20) fun e=>cond (!e) (some 1) (ah (dI u0.aR.num 0 20) fun f=>cond (!f) (some 1) (ah (gP u0.aR.num u0.aR.den) fun a=>cond (!((a.num==u0.aR.num)&&(a.den==u0.aR.den))) (some 3) (ah (m5 u0) fun b=>cond ((b != 0)) (some b) (ah (m6 u0) fun g=>some g))))))
theorem G8 {ro:Addr->Option Value}(u0:ak){s1 a b c:Value}(d:bI ro u0 s1 a b c){r:Int}(h:ji u0=some r):aC Tryz.prog 39 #[bv u0 s1 a b c] ⟨ro,[]⟩ (fun v _=>v= .int .i64 r):=by
 unfold ji at h
 refine aC.go Tryz.func39 rfl Tryz.ntmps39 Tryz.results39 (by simp) fun main J hJ A e hd hs=>?_
 have f:=hs 0
 clear hs
 refine aa hJ (ag hJ ?_)
 simp only[*,go_sem]
 refine ax fun E G g=>?_;try simp only[au] at g
 try simp only[*,go_sem]
 refine aa hJ (aa hJ (ag hJ ?_))
 revert h;refine bS fun H i h=>?_
 simp only[*,go_sem]
 refine aM hJ _ (fR u0.aZ 2 60 i) (aD ?_)
 revert h;refine cS (fun j h=>?_) fun j h=>?_
 ·obtain rfl:=sI h
  try simp only[*,go_sem]
  refine bK hJ (by simp only[*,go_sem]) ?_
  refine aa hJ (ag hJ ?_)
  simp only[*,go_sem]
  refine ay ?_
  simp only[*,go_sem]
 revert h;refine bS fun I k h=>?_
 try simp only[*,go_sem]
 refine aM hJ _ (fR u0.bD 0 60 k) (aD ?_)
 revert h;refine cS (fun l h=>?_) fun l h=>?_
 ·obtain rfl:=sI h
  try simp only[*,go_sem]
  refine bK hJ (by simp only[*,go_sem]) ?_
  refine aa hJ (ag hJ ?_)
  simp only[*,go_sem]
  refine ay ?_
  simp only[*,go_sem]
 revert h;refine bS fun K m h=>?_
 try simp only[*,go_sem]
 refine aM hJ _ (fR u0.aR.den 1 20 m) (aD ?_)
 revert h;refine cS (fun n h=>?_) fun n h=>?_
 ·obtain rfl:=sI h
  try simp only[*,go_sem]
  refine bK hJ (by simp only[*,go_sem]) ?_
  refine aa hJ (ag hJ ?_)
  simp only[*,go_sem]
  refine ay ?_
  simp only[*,go_sem]
 revert h;refine bS fun L o h=>?_
 try simp only[*,go_sem]
 refine aM hJ _ (fR u0.aR.num 0 20 o) (aD ?_)
 try simp only[*,go_sem]
 revert h;refine jC hJ (by simp only[*,go_sem]) (fun p h=>?_) fun p h=>?_
 ·obtain rfl:=sI h
  refine aa hJ (ag hJ ?_)
  simp only[*,go_sem]
  refine ay ?_
  simp only[*,go_sem]
 refine aF hJ (aa hJ ?_)
 refine aa hJ ?_
 refine cY hJ mixed 10 1 (by simp only[*,go_sem]) (by kernel_rfl) ?_
 revert h;refine bS fun M q h=>?_
 simp only[*,go_sem]
 refine ⟨_,bE hJ fun F N=>xh u0.aR.num u0.aR.den q,b9 ?_⟩
 try simp only[*,go_sem]
 revert h;refine jC hJ (by simp only[*,go_sem]) (fun s h=>?_) fun s h=>?_
 ·obtain rfl:=sI h
  refine aa hJ ?_
  refine eC [1,2] fun O t u w=>?_
  simp only[*,go_sem] at t u w
  clear e hd f
  refine ag hJ ?_
  simp only[*,go_sem]
  refine ay ?_
  simp only[*,go_sem]
 refine aF hJ (aa hJ ?_)
 refine aa hJ ?_
 refine eC [1,2] fun P x y z=>?_
 simp only[*,go_sem] at x y z
 clear e hd f
 refine ag hJ ?_
 revert h;refine bS fun Q B h=>?_
 simp only[*,go_sem]
 refine aM hJ _ (G6 u0 (d.mono aH) B) (aD ?_)
 try simp only[*,go_sem]
 refine aa hJ (ag hJ ?_)
 simp only[*,go_sem]
 revert h;refine jC hJ (by simp only[*,go_sem]) (fun C h=>?_) fun C h=>?_
 ·obtain rfl:=sI h
  refine aa hJ (ag hJ ?_)
  simp only[*,go_sem]
  refine ay ?_
  simp only[*,go_sem]
 refine aF hJ (aa hJ ?_)
 refine ag hJ ?_
 revert h;refine bS fun R D h=>?_
 obtain rfl:=sI h
 simp only[*,go_sem]
 refine aM hJ _ (G7 u0 (d.mono aH) D) (aD ?_)
 try simp only[*,go_sem]
 refine ay ?_
 simp only[*,go_sem]
def s7 (u0:aO):Option Int:=
 ah (dI u0.back 1 20) fun a=>cond (!a) (some 1) (ah (dI u0.high 0 60) fun b=>cond (!b) (some 1) (some 0))
def s8 (u0:ak)(b:aO):Option Int:=
 ah (ji u0) fun a=>cond ((a != 0)) (some a) (ah (s7 b) fun c=>some c)
theorem G9:Tryz.prog.underlying 3=some (.int .i64):=by kernel_rfl
theorem He:Tryz.prog.underlying 5=some (.int .u8):=by kernel_rfl
attribute [go_sem] G9 He
def kO (u0:ak):Option Bool:=
 ah (m4 u0) fun a=>cond (!a) (ah (ji u0) fun b=>some (b==0)) (some false)
theorem s9 {ro:Addr->Option Value}(u0:ak){s1 b c d:Value}(a:bI ro u0 s1 b c d){r:Bool}(h:kO u0=some r):aC Tryz.prog 9 #[bv u0 s1 b c d] ⟨ro,[]⟩ (fun v _=>v= .bool r):=by
 obtain ⟨d3,c4,rfl,k,l,-⟩:=id a.e
 obtain ⟨d10,m,rfl,n,o,-⟩:=id a.p
 obtain ⟨d17,q,rfl,s,u,-⟩:=id a.y
 obtain ⟨d24,w,rfl,x,z,-⟩:=id a.t
 unfold kO at h
 refine aC.go Tryz.func9 rfl Tryz.ntmps9 Tryz.results9 (by simp) fun main J hJ A B hd hs=>?_
 have C:=hs 0
 clear hs
 refine aa hJ (ag hJ ?_)
 simp only[*,go_sem]
 refine ax fun D E f=>?_;try simp only[au] at f
 try simp only[*,go_sem]
 refine aa hJ (ag hJ ?_)
 revert h;refine bS fun F g h=>?_
 simp only[*,go_sem]
 refine aM hJ _ (G0 u0 (a.mono aH) g) (aD ?_)
 revert h;refine cS (fun i h=>?_) fun i h=>?_
 ·revert h;refine bS fun G j h=>?_
  obtain rfl:=sI h
  try simp only[*,go_sem]
  refine aM hJ _ (G8 u0 (a.mono aH) j) (aD ?_)
  try simp only[*,go_sem]
  refine ay ?_
  simp only[*,go_sem]
 obtain rfl:=sI h
 try simp only[*,go_sem]
 refine ay ?_
 simp only[*,go_sem]
def oF (u0:Int)(a:Int):Option aO:=
 ah (eO (IntKind.i64.wrap u0) 20) fun b=>ah (eO (IntKind.i64.wrap a) 61) fun c=>ah (lP (IntKind.i64.wrap (1+b)) c) fun d=>some d
theorem Bm {ro:Addr->Option Value}(u0:Int)(a:Int){r:aO}(h:oF u0 a=some r):aC Tryz.prog 11 #[.int .u8 u0,.int .u8 a] ⟨ro,[]⟩ (fun v _=>v=r.v):=by
 unfold oF at h
 refine aC.go Tryz.func11 rfl Tryz.ntmps11 Tryz.results11 (by simp) fun main J hJ A g hd hs=>?_
 have i:=hs 0
 have k1:=hs 1
 clear hs
 refine aa hJ (ag hJ ?_)
 simp only[*,go_sem]
 refine ax fun j r1 n1=>?_;try simp only[au] at n1
 try simp only[*,go_sem]
 refine aa hJ (ag hJ ?_)
 revert h;refine bS fun d b h=>?_
 obtain ⟨k,l⟩:=iY b
 clear b
 revert h;refine bS fun e c h=>?_
 obtain ⟨m,n⟩:=iY c
 clear c
 revert h;refine bS fun o f h=>?_
 obtain rfl:=sI h
 try simp only[*,go_sem]
 refine aM hJ _ (oE (IntKind.i64.wrap (1+d)) e f) (aD ?_)
 try simp only[*,go_sem]
 refine ay ?_
 simp only[*,go_sem]
def jP (u0:av):Option Bool:=
 cond (decide (0<u0.den)) (cond (decide (u0.den<1048576)) (ah (dI u0.num (-1073741824) 1073741824) fun b=>cond (b) (ah (gP u0.num u0.den) fun a=>some ((a.num==u0.num)&&(a.den==u0.den))) (some false)) (some false)) (some false)
theorem xx {ro:Addr->Option Value}(u0:av){r:Bool}(h:jP u0=some r):aC Tryz.prog 15 #[.agg #[.int .i64 u0.num,.int .i64 u0.den]] ⟨ro,[]⟩ (fun v _=>v= .bool r):=by
 unfold jP at h
 refine aC.go Tryz.func15 rfl Tryz.ntmps15 Tryz.results15 (by simp) fun main J hJ A g hd hs=>?_
 have i:=hs 0
 clear hs
 refine aa hJ (ag hJ ?_)
 simp only[*,go_sem]
 refine ax fun j r1 n1=>?_;try simp only[au] at n1
 try simp only[*,go_sem]
 refine aa hJ ?_
 refine cY hJ mixed 23 1 (by simp only[*,go_sem]) (by kernel_rfl) ?_
 revert h;refine cS (fun a h=>?_) fun a h=>?_
 ·revert h;refine cS (fun b h=>?_) fun b h=>?_
  ·revert h;refine bS fun k c h=>?_
   try simp only[*,go_sem]
   refine ⟨_,bE hJ fun F d=>fR u0.num (-1073741824) 1073741824 c,b9 ?_⟩
   revert h;refine cS (fun e h=>?_) fun e h=>?_
   ·revert h;refine bS fun l f h=>?_
    obtain rfl:=sI h
    try simp only[*,go_sem]
    refine ⟨_,bE hJ fun F d=>xh u0.num u0.den f,b9 ?_⟩
    try simp only[*,go_sem]
    refine ay ?_
    simp only[*,go_sem]
   obtain rfl:=sI h
   try simp only[*,go_sem]
   refine ay ?_
   simp only[*,go_sem]
  obtain rfl:=sI h
  try simp only[*,go_sem]
  refine ay ?_
  simp only[*,go_sem]
 obtain rfl:=sI h
 try simp only[*,go_sem]
 refine ay ?_
 simp only[*,go_sem]
def xy (u0:(List Int))(b:Int)(st:(Int×Int)):Option (Fl (Int×Int) Int):=
 cond (decide (st.2<(u0.length:Int))) (ah (bw u0 st.2) fun a=>ah (dI a 0 (IntKind.i64.wrap (b - 1))) fun c=>cond (!c) (some (.rt 6)) (cond (decide (0<st.2)) (ah (bw u0 (IntKind.i64.wrap (st.2 - 1))) fun d=>cond (decide (a<=d)) (some (.rt 7)) (some (.nx (st.1,(IntKind.i64.wrap (st.2+1)))))) (some (.nx (st.1,(IntKind.i64.wrap (st.2+1))))))) (some (.bk (st.1,st.2)))
def qv (u0:(List Int))(a:Int):Option Int:=
 ah (bg (xy u0 a) fu (0,0)) fun o=>aG o (fun b=>some 0) (fun _ _=>none) (fun r=>some r)
theorem Hf {ro:Addr->Option Value}(u0:(List Int)){s1:Value}(g:aB rI ro s1 u0)(d:Int){r:Int}(h:qv u0 d=some r):aC Tryz.prog 32 #[s1,.int .i64 d] ⟨ro,[]⟩ (fun v _=>v= .int .i64 r):=by
 obtain ⟨d3,c4,rfl,R,S,-⟩:=id g
 unfold qv at h
 refine aC.go Tryz.func32 rfl Tryz.ntmps32 Tryz.results32 (by simp) fun main J hJ A s hd hs=>?_
 have t:=hs 0
 have k1:=hs 1
 clear hs
 refine aa hJ (ag hJ ?_)
 simp only[*,go_sem]
 refine aa hJ (aa hJ (ag hJ ?_))
 simp only[*,go_sem]
 refine aU hJ ?_
 revert h;refine bS fun u e i=>?_
 refine bX hJ [4,5,6,7,8,9,10,11,12,13,14,15,16,17,18,19,20,21,22,23,24,25,26,27,28,29,30,31,32,33] (fun m j F'=>∃(b:Int) (c:Int),bg (xy u0 d) m (b,c)=some u/\F'=⟨ro,[]⟩/\slot j 4= .int .i64 b/\slot j 5= .int .i64 c) fu ?_ ?_
 ·refine ⟨0,0,e,rfl,?_⟩
  simp only[*,go_sem]
 rintro f T F' k ⟨b,c,e,rfl,U,V⟩
 obtain ⟨w,x,y⟩:=k.pick [0,1] (by decide)
 simp only[*,go_sem] at w x y
 clear k s hd t k1
 obtain _|f:=f
 ·exact absurd e (by simp only[bg,reduceCtorEq,not_false_eq_true])
 revert e;refine bS fun W h a=>?_
 unfold xy at h
 try dsimp only at h
 refine aa hJ (aa hJ (ag hJ ?_))
 simp only[*,go_sem]
 revert h;refine jC hJ (by simp only[*,go_sem]) (fun z h=>?_) fun z h=>?_
 ·refine aF hJ (aa hJ ?_)
  refine aU hJ (aa hJ ?_)
  refine aa hJ (ag hJ ?_)
  revert h;refine bS fun l B h=>?_
  obtain ⟨X,Y,n⟩:=cw B
  obtain ⟨Z,C,D,E,o⟩:=g.el _ _ n
  obtain rfl:C=[.int .i64 l]:=E
  cases D
  have F:=o 0 _ rfl;simp only[go_sem] at F
  clear o n
  revert h;refine bS fun ab G h=>?_
  try simp only[*,go_sem]
  refine aM hJ _ (fR l 0 (IntKind.i64.wrap (d - 1)) G) (aD ?_)
  try simp only[*,go_sem]
  revert h;refine jC hJ (by simp only[*,go_sem]) (fun H h=>?_) fun H h=>?_
  ·obtain rfl:=sI h
   refine aa hJ (ag hJ ?_)
   simp only[*,go_sem]
   obtain rfl:=sI a;clear a
   have h:=i
   dsimp only[aG] at h
   obtain rfl:=sI h
   refine ay ?_
   simp only[*,go_sem]
  refine aF hJ (aa hJ ?_)
  refine cY hJ mixed 14 0 (by simp only[*,go_sem]) (by kernel_rfl) ?_
  revert h;refine cS (fun I h=>?_) fun I h=>?_
  ·revert h;refine bS fun K L h=>?_
   obtain ⟨ad,ae,p⟩:=cw L
   obtain ⟨al,M,N,O,q⟩:=g.el _ _ p
   obtain rfl:M=[.int .i64 K]:=O
   cases N
   have P:=q 0 _ rfl;simp only[go_sem] at P
   clear q p
   try simp only[*,go_sem]
   revert h;refine jC hJ (by simp only[*,go_sem]) (fun Q h=>?_) fun Q h=>?_
   ·obtain rfl:=sI h
    refine aa hJ (ag hJ ?_)
    simp only[*,go_sem]
    obtain rfl:=sI a;clear a
    have h:=i
    dsimp only[aG] at h
    obtain rfl:=sI h
    refine ay ?_
    simp only[*,go_sem]
   obtain rfl:=sI h
   refine aF hJ (ag hJ ?_)
   simp only[*,go_sem]
   refine ⟨f,Nat.lt_succ_self _,_,Le.sub (List.Sublist.refl _),b,(IntKind.i64.wrap (c+1)),a,rfl,?_⟩
   simp only[*,go_sem]
  obtain rfl:=sI h
  try simp only[*,go_sem]
  refine bL hJ (by simp only[*,go_sem]) ?_
  refine aF hJ (ag hJ ?_)
  simp only[*,go_sem]
  refine ⟨f,Nat.lt_succ_self _,_,Le.sub (List.Sublist.refl _),b,(IntKind.i64.wrap (c+1)),a,rfl,?_⟩
  simp only[*,go_sem]
 obtain rfl:=sI h
 refine bU ?_
 simp only[go_sem]
 obtain rfl:=sI a;clear a
 have h:=i
 dsimp only[aG] at h
 obtain rfl:=sI h
 refine aa hJ (ag hJ ?_)
 simp only[*,go_sem]
 refine ay ?_
 simp only[*,go_sem]
def ta (u0:(List Int))(a:Int):Option (List Int):=
 ah (eA u0 0 a) fun b=>ah (eA u0 (IntKind.i64.wrap (a+1)) (u0.length:Int)) fun c=>ah (cB ([]:List Int) b) fun d=>ah (cB d c) fun e=>some e
theorem Hg {ro:Addr->Option Value}(u0:(List Int)){s1:Value}(c:aB rI ro s1 u0)(a:Int){r:(List Int)}(h:ta u0 a=some r):en Tryz.prog 34 #[s1,.int .i64 a] ro (fun v aK=>∃i,v=i/\aB rI aK i r):=by
 obtain ⟨d3,c4,rfl,Y,Z,-⟩:=id c
 unfold ta at h
 refine aC.go Tryz.func34 rfl Tryz.ntmps34 Tryz.results34 (by simp) fun main J hJ A ab hd hs=>?_
 have ad:=hs 0
 have k1:=hs 1
 clear hs
 refine aa hJ (ag hJ ?_)
 simp only[*,go_sem,-h]
 refine aa hJ ?_
 refine aL hJ fun z=>?_
 refine fN hJ mixed [] (.pure 1 (.pure 2 (.pure 3 (.pure 5 (.pure 6 (.pure 7 (.pure 8 (.one 0 (.one 4 (.one 9 (.pure 10 .done))))))))))) ⟨ro,[]⟩ (by simp only[*,go_sem,-h]) (by kernel_rfl) ?_
 revert h;refine bS fun B C h=>?_
 obtain ⟨ae,al,ao,j⟩:=j9 C
 have k:(0:Int).toNat<=(a).toNat:=by omega
 have D:(a).toNat<=c4:=by omega
 have ar:0<=(a):=by omega
 obtain ⟨d10,E,F,m⟩:=aB.kg c (0:Int).toNat (a).toNat k (by omega) j
 simp only[go_sem] at E F k D
 obtain ⟨_,_,hq,a0,a2,a3⟩:=id m;cases hq
 clear j
 revert h;refine bS fun G H h=>?_
 obtain ⟨a4,a5,a6,n⟩:=j9 H
 have o:(IntKind.i64.wrap (a+1):Int).toNat<=((u0.length:Int)).toNat:=by omega
 have I:((u0.length:Int)).toNat<=c4:=by omega
 have a7:0<=((u0.length:Int)):=by omega
 obtain ⟨d19,K,L,p⟩:=aB.kg c (IntKind.i64.wrap (a+1):Int).toNat ((u0.length:Int)).toNat o (by omega) n
 simp only[go_sem] at K L o I
 obtain ⟨_,_,hq,a8,a9,ba⟩:=id p;cases hq
 clear n
 revert h;refine bS fun M N h=>?_
 obtain ⟨O,q⟩:=cT N
 try simp only[*,go_sem,-h]
 refine ax fun s P t=>?_;have Q:=aN.cons t z;try simp only[au] at t
 try simp only[*,go_sem,-h]
 have R:aW rI ro 3 (.slice (some ⟨s,0,none⟩) 0 0) ([]:List Int) [(s,.cells #[] 3)]:=aW.empty P
 refine kB (r:=rI) (l:=([]:List Int)) (xs:=B) [] ([]) R Q O m rfl rfl eK eK iZ jb rfl ja (by decide) (by decide) (fun bb b d e f u=>?_)
 simp only[List.append_nil,List.cons_append,List.nil_append,List.append_assoc] at f
 subst e
 rw[<-q] at d;clear q
 obtain ⟨d35,bc,rfl,bd⟩:=d.len
 have S:=aN.back (l:=b) (l':=[]++(b++([]++[]))) [] [] b [] (by first|rfl|simp only[List.append_nil,List.cons_append,List.nil_append,List.append_assoc]|(simp only[List.append_nil,List.cons_append,List.nil_append,List.append_assoc];rfl)) (by first|rfl|simp only[List.append_nil,List.cons_append,List.nil_append,List.append_assoc]|(simp only[List.append_nil,List.cons_append,List.nil_append,List.append_assoc];rfl)) (by first|exact u|simpa only[List.append_nil,List.nil_append,List.cons_append,List.append_assoc] using u)
 refine ⟨⟨ro,b⟩,Le.back [] [] b [] (by first|rfl|simp only[List.append_nil,List.cons_append,List.nil_append,List.append_assoc]|(simp only[List.append_nil,List.cons_append,List.nil_append,List.append_assoc];rfl)) (by first|rfl|simp only[List.append_nil,List.cons_append,List.nil_append,List.append_assoc]|(simp only[List.append_nil,List.cons_append,List.nil_append,List.append_assoc];rfl)),?_⟩
 refine ⟨by simp only[*,go_sem,-h],bN ?_⟩
 revert h;refine bS fun bj T h=>?_
 obtain ⟨U,w⟩:=cT T
 try simp only[*,go_sem,-h]
 refine kB (r:=rI) (l:=M) (xs:=G) [] [] d S U p rfl rfl eK eK iZ jb rfl ja (by decide) (by decide) (fun bk V g e f bl=>?_)
 simp only[List.append_nil,List.cons_append,List.nil_append,List.append_assoc] at f
 subst e
 rw[<-w] at g;clear w
 obtain ⟨d47,bm,rfl,bo⟩:=g.len
 refine ⟨⟨ro,V⟩,Le.refl _,?_⟩
 refine ⟨by simp only[*,go_sem,-h],bN ?_⟩
 try simp only[*,go_sem,-h]
 obtain rfl:=sI h
 refine aL hJ fun x=>?_
 obtain ⟨br,W,bs,y,X⟩:=g.eB [] [] x (aA.nil _)
 clear x
 refine cH hJ X ?_
 obtain ⟨bz,b0,-⟩:=y.op
 refine ay ?_
 simp only[*,go_sem]
 exact ⟨_,W,Le.sub (List.nil_sublist _),_,rfl,y⟩
def tc (u0:ak)(c:aO)(st:(Int×Int×av)):Option (Fl (Int×Int×av) (Int×av)):=
 cond (decide (st.2.1<(u0.aj.length:Int))) (ah (bw u0.aj st.2.1) fun b=>ah (m0 u0 c b.an (⟨b.high,1⟩:av)) fun a=>cond ((st.2.1==0)) (some (.nx (st.2.1,(IntKind.i64.wrap (st.2.1+1)),a))) (ah (lO st.2.2 a) fun d=>cond (d) (some (.nx (st.2.1,(IntKind.i64.wrap (st.2.1+1)),a))) (some (.nx (st.1,(IntKind.i64.wrap (st.2.1+1)),st.2.2))))) (some (.bk (st.1,st.2.1,st.2.2)))
def td (u0:ak)(b:aO):Option (Int×av):=
 ah (bg (tc u0 b) fu (0,0,(⟨0,0⟩:av))) fun o=>aG o (fun a=>some (a.1,a.2.2)) (fun _ _=>none) (fun r=>some r)
def tf (u0:ak)(c:Int)(st:Int):Option (Fl Int av):=
 cond (decide ((IntKind.i64.wrap (st+1))<(u0.aj.length:Int))) (ah (bw u0.aj st) fun a=>ah (bw u0.aj (IntKind.i64.wrap (st+1))) fun b=>cond (decide (c<=b.an)) (ah (gP (IntKind.i64.wrap ((IntKind.i64.wrap (a.high*(IntKind.i64.wrap (b.an - a.an))))+(IntKind.i64.wrap ((IntKind.i64.wrap (b.high - a.high))*(IntKind.i64.wrap (c - a.an)))))) (IntKind.i64.wrap (b.an - a.an))) fun d=>some (.rt d)) (some (.nx (IntKind.i64.wrap (st+1))))) (some (.bk st))
def oG (u0:ak)(a:Int):Option av:=
 ah (bg (tf u0 a) fu 0) fun o=>aG o (fun b=>some (⟨0,0⟩:av)) (fun _ _=>none) (fun r=>some r)
def xz (u0:ak)(a:aO):Option av:=
 ah (td u0 a) fun b=>ah (hU (⟨u0.bD,1⟩:av) b.2) fun c=>some c
def tg (u0:ak)(d:aO)(st:(Int×av)):Option (Fl (Int×av) (av×Bool)):=
 cond (decide (st.1<(u0.props.length:Int))) (ah (bw u0.props st.1) fun a=>ah (oG u0 a.place) fun b=>ah (gP (IntKind.i64.wrap (b.num+(IntKind.i64.wrap (a.di*b.den)))) b.den) fun e=>ah (m0 u0 d a.place e) fun c=>cond ((st.1==0)) (ah (gd c c) fun f=>some (.nx ((IntKind.i64.wrap (st.1+1)),f))) (ah (gd st.2 c) fun g=>some (.nx ((IntKind.i64.wrap (st.1+1)),g)))) (some (.bk (st.1,st.2)))
def kP (u0:ak)(a:aO):Option (av×Bool):=
 ah (bg (tg u0 a) fu (0,(⟨0,0⟩:av))) fun o=>aG o (fun b=>some (b.2,decide (0<(u0.props.length:Int)))) (fun _ _=>none) (fun r=>some r)
def qw (u0:ak)(b:aO):Option av:=
 ah (td u0 b) fun a=>ah (lO a.2 (⟨u0.bD,1⟩:av)) fun e=>cond (e) (ah (kP u0 b) fun c=>cond (c.2) (ah (gd a.2 c.1) fun f=>ah (hU (⟨u0.bD,1⟩:av) f) fun g=>ah (gd g (⟨0,1⟩:av)) fun h=>some h) (ah (hU (⟨u0.bD,1⟩:av) a.2) fun i=>ah (gd i (⟨0,1⟩:av)) fun j=>some j)) (ah (kP u0 b) fun d=>cond (d.2) (ah (gd (⟨u0.bD,1⟩:av) d.1) fun k=>ah (hU a.2 k) fun l=>ah (gd l (⟨0,1⟩:av)) fun m=>some m) (ah (hU a.2 (⟨u0.bD,1⟩:av)) fun n=>ah (gd n (⟨0,1⟩:av)) fun o=>some o))
def th (u0:ak)(a:aO):Option Bool:=
 ah (qw u0 a) fun b=>ah (lO u0.aR b) fun c=>some c
def xA (u0:ak)(b:(List Int))(st:(Bool×Int)):Option (Fl (Bool×Int) Bool):=
 cond (decide (st.2<(u0.told.length:Int))) (ah (bw u0.told st.2) fun a=>ah (bw b a.aQ) fun c=>ah (Bh u0 a.aQ c) fun d=>ah (th u0 d) fun e=>cond (!(e==a.bh)) (some (.rt false)) (some (.nx (st.1,(IntKind.i64.wrap (st.2+1)))))) (some (.bk (st.1,st.2)))
def xB (u0:ak)(a:(List Int)):Option Bool:=
 ah (bg (xA u0 a) fu (false,0)) fun o=>aG o (fun b=>some true) (fun _ _=>none) (fun r=>some r)
def Bn (u0:ak)(a:aO):Option (av×Bool×Int):=
 ah (s8 u0 a) fun b=>cond ((b != 0)) (some ((⟨0,0⟩:av),false,b)) (ah (kP u0 a) fun c=>some (c.1,c.2,0))
def dm {α:Type}(t:Nat->α->Option Int):Nat->List α->Option Int
 |_,[]=>none
 |i,x::l=>match t i x with
  |some r=>some r
  |none=>dm t (i+1) l
def ia {σ:Type}(o:Option Int)(s:σ):Fl σ Int:=match o with
 |some r=>.rt r
 |none=>.nx s
theorem qx {α σ:Type}{f:Nat->α->σ->Option (Fl σ Int)}{t:Nat->α->Option Int}:∀(l:List α) (i:Nat) (s:σ),(∀j x s,l[j]?=some x->f (i+j) x s=some (ia (t (i+j) x) s))->bG f i l s=some (ia (dm t i l) s)
 |[],i,s,_=>rfl
 |x::l,i,s,h=>by
  have h0:=h 0 x s rfl
  simp only[Nat.add_zero] at h0
  unfold bG dm
  rw[h0]
  cases ht:t i x with
  |some r=>rfl
  |none=>
   show bG f (i+1) l s=_
   exact qx l (i+1) s fun j y s a=>by
    have:=h (j+1) y s (by simpa using a)
    rwa [show i+(j+1)=i+1+j by omega] at this
theorem Bo {α σ:Type}{f:σ×Int->Option (Fl (σ×Int) Int)}{t:Nat->α->Option Int}(l:List α)(h:∀(i:Nat) x s,l[i]?=some x->f (s,(i:Int))=some (ia (t i x) (s,((i+1:Nat):Int))))(a:∀s,f (s,(l.length:Int))=some (.bk (s,(l.length:Int)))):
  ∀(k i n:Nat) (s:σ),i+k=l.length->k<n->bg f n (s,(i:Int))=some (ia (dm t i (l.drop i)) (s,(l.length:Int)))
 |0,i,n+1,s,hi,_=>by
  obtain rfl:i=l.length:=by omega
  unfold bg
  rw[a,List.drop_length]
  rfl
 |k+1,i,n+1,s,hi,hn=>by
  have b:i<l.length:=by omega
  have c:l[i]?=some l[i]:=List.getElem?_eq_getElem b
  unfold bg
  rw[h i _ s c,List.drop_eq_getElem_cons b]
  unfold dm
  cases ht:t i l[i] with
  |some r=>rfl
  |none=>exact Bo l h a k (i+1) n s (by omega) (by omega)
theorem tj {α σ:Type}{f:σ×Int->Option (Fl (σ×Int) Int)}{t:Nat->α->Option Int}(l:List α)(a:l.length<=1000)(h:∀(i:Nat) x s,l[i]?=some x->f (s,(i:Int))=some (ia (t i x) (s,((i+1:Nat):Int))))(b:∀s,f (s,(l.length:Int))=some (.bk (s,(l.length:Int))))(s:σ):
  bg f fu (s,0)=some (ia (dm t 0 l) (s,(l.length:Int))):=by
 have:=Bo l h b l.length 0 fu s (by omega) (Nat.lt_of_le_of_lt a (by decide))
 simpa using this
theorem jQ:fO=dI:=rfl
theorem Hh:qb=m3:=rfl
def bJ (a lo hi:Int):Bool:=decide (lo<=a)&&decide (a<=hi)
theorem eu (a lo hi:Int):dI a lo hi=some (bJ a lo hi):=by
 unfold dI bJ
 cases decide (lo<=a)<;>rfl
def kQ (b:c6)(lo hi:Int):Bool:=decide (lo<=b.low)&&(decide (b.low<=b.high)&&decide (b.high<=hi))
theorem Bp (b:c6)(lo hi:Int):m3 b lo hi=some (kQ b lo hi):=by
 unfold m3 kQ
 cases decide (lo<=b.low)<;>cases decide (b.low<=b.high)<;>rfl
theorem bR {n:Int}(h: -9223372036854775808<=n/\n<9223372036854775808):IntKind.i64.wrap n=n:=IntWalk.i64_in _ (by constructor<;>omega)
def gx (u:ak)(i:Nat)(x:bH):Option Int:=
 cond (bJ x.an 0 (IntKind.i64.wrap (u.aZ - 1))) (cond (bJ x.high 0 60) (match i with
  |0=>none
  |j+1=>match u.aj[j]? with
   |some y=>cond (decide (x.an<=y.an)) (some 7) none
   |none=>none) (some 1)) (some 1)
theorem xC (u:ak)(g:u.aj.length<=20):lE u=some (cond (bJ u.aj.length 2 5) ((dm (gx u) 0 u.aj).getD 0) 2)/\m5 u=lE u:=by
 have key:lE u=some (cond (bJ u.aj.length 2 5) ((dm (gx u) 0 u.aj).getD 0) 2):=by
  unfold lE
  rw[jQ,eu]
  show cond (!bJ (u.aj.length:Int) 2 5) _ _=_
  cases bJ (u.aj.length:Int) 2 5 with
  |false=>rfl
  |true=>
   show ah (bG _ 0 u.aj 0) _=_
   rw[qx (t:=gx u) u.aj 0 0 ?_]
   ·show aG (ia _ _) _ _ _=_
    cases dm (gx u) 0 u.aj<;>rfl
   ·intro j x s b
    rw[Nat.zero_add]
    unfold su gx
    rw[jQ,eu,eu]
    show cond (!bJ x.an 0 _) _ _=_
    cases bJ x.an 0 (IntKind.i64.wrap (u.aZ - 1)) with
    |false=>rfl
    |true=>
     show cond (!bJ x.high 0 60) _ _=_
     cases bJ x.high 0 60 with
     |false=>rfl
     |true=>
      cases j with
      |zero=>rfl
      |succ j=>
       have d:=(List.getElem?_eq_some_iff.1 b).1
       have a:u.aj[j]?=some u.aj[j]:=List.getElem?_eq_getElem (by omega)
       have hw:IntKind.i64.wrap (((j+1:Nat):Int) - 1)=(j:Int):=by rw[bR (by omega)];omega
       have hd:decide (0<((j+1:Nat):Int))=true:=decide_eq_true (by omega)
       show cond (decide (0<((j+1:Nat):Int))) _ _=_
       rw[hd,hw]
       have hi:bw u.aj (j:Int)=some u.aj[j]:=by unfold bw;rw[if_pos (by omega),Int.toNat_natCast,a]
       show ah (bw u.aj (j:Int)) _=_
       rw[hi]
       simp only[a]
       show cond (decide (x.an<=u.aj[j].an)) _ _=_
       cases decide (x.an<=u.aj[j].an)<;>rfl
 refine ⟨key,?_⟩
 rw[key]
 unfold m5
 rw[eu]
 show cond (!bJ (u.aj.length:Int) 2 5) _ _=_
 cases bJ (u.aj.length:Int) 2 5 with
 |false=>rfl
 |true=>
  show ah (bg _ fu (0,0)) _=_
  rw[tj (t:=gx u) u.aj (by omega) ?_ ?_ 0]
  ·show aG (ia _ _) _ _ _=_
   cases dm (gx u) 0 u.aj<;>rfl
  ·intro j x s b
   unfold qt gx
   have d:=(List.getElem?_eq_some_iff.1 b).1
   have c:decide ((j:Int)<(u.aj.length:Int))=true:=decide_eq_true (by omega)
   have e:bw u.aj (j:Int)=some x:=by unfold bw;rw[if_pos (by omega),Int.toNat_natCast,b]
   have f:IntKind.i64.wrap ((j:Int)+1)=((j+1:Nat):Int):=by rw[bR (by omega)];omega
   show cond (decide ((j:Int)<(u.aj.length:Int))) (ah (bw u.aj (j:Int)) _) _=_
   rw[c,e,cond_true]
   show ah (dI x.an 0 (IntKind.i64.wrap (u.aZ - 1))) _=_
   rw[eu]
   show cond (!bJ x.an 0 _) _ (ah (dI x.high 0 60) _)=_
   rw[eu]
   cases bJ x.an 0 (IntKind.i64.wrap (u.aZ - 1)) with
   |false=>rfl
   |true=>
    show cond (!bJ x.high 0 60) _ _=_
    cases bJ x.high 0 60 with
    |false=>rfl
    |true=>
     cases j with
     |zero=>rfl
     |succ j=>
      have a:u.aj[j]?=some u.aj[j]:=List.getElem?_eq_getElem (by omega)
      have hw:IntKind.i64.wrap (((j+1:Nat):Int) - 1)=(j:Int):=by rw[bR (by omega)];omega
      have hd:decide (0<((j+1:Nat):Int))=true:=decide_eq_true (by omega)
      have hi:bw u.aj (j:Int)=some u.aj[j]:=by unfold bw;rw[if_pos (by omega),Int.toNat_natCast,a]
      dsimp only
      simp only[hd,hw,hi,f,a,ah,cond_true,Bool.not_true,cond_false]
      cases decide (x.an<=u.aj[j].an)<;>rfl
  ·intro s
   unfold qt
   have c:decide ((u.aj.length:Int)<(u.aj.length:Int))=false:=decide_eq_false (by omega)
   show cond (decide ((u.aj.length:Int)<(u.aj.length:Int))) _ _=_
   rw[c];rfl
theorem Bq {ρ:Type}{f:Int×Int->Option (Fl (Int×Int) ρ)}(d:∀a b:Nat,a<9223372036854775808->b<9223372036854775808->b≠0->f ((a:Int),(b:Int))=some (.nx ((b:Int),((a % b:Nat):Int))))(h0:∀a:Nat,f ((a:Int),0)=some (.bk ((a:Int),0))):
  ∀(b a k:Nat),a<9223372036854775808->b<9223372036854775808->b<k->bg f k ((a:Int),(b:Int))=some (.nx (((Nat.gcd a b:Nat):Int),0)):=by
 intro b
 induction b using Nat.strongRecOn with
 |ind b ih=>
  intro a k e hb g
  obtain ⟨k,rfl⟩:∃m,k=m+1:=⟨k - 1,by omega⟩
  unfold bg
  by_cases c:b=0
  ·subst c
   have:=h0 a
   rw[show ((0:Nat):Int)=0 from rfl,this,Nat.gcd_zero_right]
   rfl
  ·rw[d a b e hb c]
   show bg f k ((b:Int),((a % b:Nat):Int))=_
   have hm:a % b<b:=Nat.mod_lt _ (by omega)
   rw[ih (a % b) hm b k hb (by omega) (by omega),Nat.gcd_comm a b,Nat.gcd_rec b a,Nat.gcd_comm]
theorem Br (a b:Nat)(d:a<9223372036854775808)(hb:b<9223372036854775808)(h:b≠0):eO (a:Int) (b:Int)=some ((a % b:Nat):Int):=by
 unfold eO
 have c:¬(b:Int)=0:=by omega
 rw[if_neg c]
 have e:((a:Int).tmod (b:Int))=((a % b:Nat):Int):=by
  rw[Int.tmod_eq_emod_of_nonneg (by omega)];rfl
 rw[e]
theorem Hi (a k:Nat)(b:Nat)(c:a<9223372036854775808)(hb:b<9223372036854775808)(d:b<k):bg qc k ((a:Int),(b:Int))=some (.nx (((Nat.gcd a b:Nat):Int),0)):=by
 refine Bq (fun a b c hb e=>?_) (fun a=>rfl) b a k c hb d
 unfold qc
 have:(((b:Nat):Int) != 0)=true:=by simp;omega
 dsimp only
 rw[this,Br a b c hb e]
 rfl
theorem Hj (a k:Nat)(b:Nat)(c:a<9223372036854775808)(hb:b<9223372036854775808)(d:b<k):bg oD k ((a:Int),(b:Int))=some (.nx (((Nat.gcd a b:Nat):Int),0)):=by
 refine Bq (fun a b c hb e=>?_) (fun a=>rfl) b a k c hb d
 unfold oD
 have:decide (0<((b:Nat):Int))=true:=decide_eq_true (by omega)
 dsimp only
 rw[this,Br a b c hb e]
 rfl
def bt (n:Int)(d:Nat):av:=⟨n.tdiv (Nat.gcd n.natAbs d:Nat),(d:Int).tdiv (Nat.gcd n.natAbs d:Nat)⟩
theorem tn (a b:Int)(hb:0<b)(c: -9000000000000000000<=a/\a<=9000000000000000000):fK a b=some (a.tdiv b):=by
 unfold fK
 rw[if_neg (by omega)]
 congr 1
 have h1:(a.tdiv b).natAbs<=a.natAbs:=by rw[Int.natAbs_tdiv];exact Nat.div_le_self _ _
 exact bR (by omega)
theorem Bs (n:Int)(h: -9000000000000000000<=n/\n<=9000000000000000000):(if n<IntKind.i64.wrap (0 - n) then IntKind.i64.wrap (0 - n) else n)=(n.natAbs:Int):=by
 rw[bR (by omega)]
 split<;>omega
theorem qy (n:Int)(d:Nat)(hn: -9000000000000000000<=n/\n<=9000000000000000000)(hd:0<d)(a:d<900000000000000000):kD n d=some (bt n d):=by
 unfold kD
 rw[Bs n hn,Hi n.natAbs fu d (by omega) (by omega) (Nat.lt_trans a (by decide))]
 have hg:0<Nat.gcd n.natAbs d:=Nat.gcd_pos_of_pos_right _ hd
 show ah (fK n _) (fun x=>ah (fK d _) fun y=>_)=_
 rw[tn n _ (by omega) hn,tn d _ (by omega) (by omega)]
 rfl
theorem oH (n:Int)(d:Nat)(hn: -9000000000000000000<=n/\n<=9000000000000000000)(hd:0<d)(a:d<900000000000000000):gP n d=some (bt n d):=by
 unfold gP
 have:decide ((d:Int)<0)=false:=decide_eq_false (by omega)
 rw[this]
 show ah (bg oD fu _) _=_
 rw[Bs n hn,Hj n.natAbs fu d (by omega) (by omega) (Nat.lt_trans a (by decide))]
 have hg:0<Nat.gcd n.natAbs d:=Nat.gcd_pos_of_pos_right _ hd
 show ah (fK n _) (fun x=>ah (fK d _) fun y=>_)=_
 rw[tn n _ (by omega) hn,tn d _ (by omega) (by omega)]
 rfl
def ie (u:ak)(f:Int->Bool)(_:Nat)(x:cg):Option Int:=cond (f x.place) (cond (bJ x.di 1 20) none (some 1)) (some 6)
def ig (_:Nat)(x:b6):Option Int:=cond (bJ x.back 1 20) (cond (kQ x.high 0 60) (cond (decide (3<=IntKind.i64.wrap (x.high.high - x.high.low))) (some 1) none) (some 1)) (some 1)
def kR (u:ak)(i:Int):Bool:=bJ i 0 (IntKind.i64.wrap ((u.aE.length:Int) - 1))
def jj (u:ak)(_:Nat)(x:bB):Option Int:=cond (kR u x.aQ) none (some 6)
theorem Bt (u:ak)(i:Int):oC u i=some (kR u i)/\n5 u i=some (kR u i):=by
 constructor
 ·unfold oC;rw[eu];rfl
 ·unfold n5;rw[jQ,eu];rfl
theorem Hl (u:ak)(h:Int):hO h u=some (cond (bJ h 1 20) 0 1):=by
 unfold hO;rw[jQ,eu]
 show cond (!bJ h 1 20) _ _=_
 cases bJ h 1 20<;>rfl
theorem xD (u:ak)(h:0<u.aj.length)(h2:u.aj.length<=20):∃f:Int->Bool,∀p,eP u p=some (f p)/\mZ u p=some (f p):=by
 have h0:u.aj[0]?=some u.aj[0]:=List.getElem?_eq_getElem h
 have a:u.aj[u.aj.length - 1]?=some (u.aj[u.aj.length - 1]'(by omega)):=List.getElem?_eq_getElem _
 have hw:IntKind.i64.wrap ((u.aj.length:Int) - 1)=((u.aj.length - 1:Nat):Int):=by rw[bR (by omega)];omega
 have e0:bw u.aj 0=some u.aj[0]:=h0
 have e1:bw u.aj ((u.aj.length - 1:Nat):Int)=some (u.aj[u.aj.length - 1]'(by omega)):=by unfold bw;rw[if_pos (by omega),Int.toNat_natCast,a]
 refine ⟨fun p=>bJ p (u.aj[0]).an (u.aj[u.aj.length - 1]'(by omega)).an,fun p=>?_⟩
 have k:eP u p=some (bJ p (u.aj[0]).an (u.aj[u.aj.length - 1]'(by omega)).an):=by
  unfold eP
  rw[hw,e0,e1,jQ]
  simp only[ah,eu]
 exact ⟨k,k⟩
def gV (u:ak):Int:=cond (bJ u.aZ 2 60) (cond (bJ u.bD 0 60) (cond (bJ u.aR.den 1 20) (cond (bJ u.aR.num 0 20) (cond (((bt u.aR.num u.aR.den.toNat).num==u.aR.num)&&((bt u.aR.num u.aR.den.toNat).den==u.aR.den)) 0 3) 1) 1) 1) 1
theorem dV {a lo hi:Int}:bJ a lo hi=true↔lo<=a/\a<=hi:=by unfold bJ;simp
theorem tq (u:ak):n7 u=some (gV u):=by
 unfold n7 gV
 rw[jQ]
 simp only[eu,ah]
 cases h1:bJ u.aZ 2 60 with
 |false=>rfl
 |true=>
  cases h2:bJ u.bD 0 60 with
  |false=>rfl
  |true=>
   cases h3:bJ u.aR.den 1 20 with
   |false=>rfl
   |true=>
    cases a:bJ u.aR.num 0 20 with
    |false=>rfl
    |true=>
     rw[dV] at h3 a
     have hd:u.aR.den=(u.aR.den.toNat:Int):=by omega
     have:=qy u.aR.num u.aR.den.toNat (by omega) (by omega) (by omega)
     rw[<-hd] at this
     simp only[this,cond_true,Bool.not_true,cond_false]
     cases (((bt u.aR.num u.aR.den.toNat).num==u.aR.num)&&((bt u.aR.num u.aR.den.toNat).den==u.aR.den))<;>rfl
theorem Ho (u:ak):ji u=cond (gV u != 0) (some (gV u)) (ah (m5 u) fun x=>cond (x != 0) (some x) (m6 u)):=by
 unfold ji gV
 simp only[eu,ah]
 cases h1:bJ u.aZ 2 60 with
 |false=>rfl
 |true=>
  cases h2:bJ u.bD 0 60 with
  |false=>rfl
  |true=>
   cases h3:bJ u.aR.den 1 20 with
   |false=>rfl
   |true=>
    cases a:bJ u.aR.num 0 20 with
    |false=>rfl
    |true=>
     rw[dV] at h3 a
     have hd:u.aR.den=(u.aR.den.toNat:Int):=by omega
     have:=oH u.aR.num u.aR.den.toNat (by omega) (by omega) (by omega)
     rw[<-hd] at this
     simp only[this,cond_true,Bool.not_true,cond_false]
     cases (((bt u.aR.num u.aR.den.toNat).num==u.aR.num)&&((bt u.aR.num u.aR.den.toNat).den==u.aR.den)) with
     |false=>rfl
     |true=>
      simp only[Bool.not_true,cond_false,cond_true,bne_self_eq_false]
      cases m5 u with
      |none=>rfl
      |some x=>
       dsimp only
       cases m6 u<;>rfl
theorem tr (u:ak):mP u=some (cond (decide (3<(u.told.length:Int))) 2 ((dm (jj u) 0 u.told).getD 0)):=by
 unfold mP
 cases decide (3<(u.told.length:Int)) with
 |true=>rfl
 |false=>
  show ah (bG _ 0 u.told 0) _=_
  rw[qx (t:=jj u) u.told 0 0 ?_]
  ·show aG (ia _ _) _ _ _=_
   cases dm (jj u) 0 u.told<;>rfl
  ·intro j x s a
   unfold sn jj
   simp only[Bt,ah]
   cases kR u x.aQ<;>rfl
theorem tu (u:ak):mQ u=some (cond (bJ u.aE.length 1 3) ((dm ig 0 u.aE).getD 0) 2):=by
 unfold mQ
 rw[jQ,eu]
 simp only[ah]
 cases bJ (u.aE.length:Int) 1 3 with
 |false=>rfl
 |true=>
  simp only[Bool.not_true,cond_false,cond_true]
  rw[qx (t:=ig) u.aE 0 0 ?_]
  ·show aG (ia _ _) _ _ _=_
   cases dm ig 0 u.aE<;>rfl
  ·intro j x s a
   unfold so ig
   simp only[jQ,Hh,eu,Bp,ah]
   cases bJ x.back 1 20 with
   |false=>rfl
   |true=>
    cases kQ x.high 0 60 with
    |false=>rfl
    |true=>
     simp only[Bool.not_true,cond_false,cond_true]
     cases decide (3<=IntKind.i64.wrap (x.high.high - x.high.low))<;>rfl
theorem tv (u:ak)(f:Int->Bool)(a:∀p,eP u p=some (f p)/\mZ u p=some (f p)):mR u=some (cond (decide (3<(u.props.length:Int))) 2 ((dm (ie u f) 0 u.props).getD 0)):=by
 unfold mR
 cases decide (3<(u.props.length:Int)) with
 |true=>rfl
 |false=>
  show ah (bG _ 0 u.props 0) _=_
  rw[qx (t:=ie u f) u.props 0 0 ?_]
  ·show aG (ia _ _) _ _ _=_
   cases dm (ie u f) 0 u.props<;>rfl
  ·intro j x s b
   unfold sr ie
   simp only[(a x.place).1,Hl,ah]
   cases f x.place with
   |false=>rfl
   |true=>
    cases bJ x.di 1 20<;>rfl
theorem m7 {α:Type}{t:Nat->α->Option Int}(h:∀i x r,t i x=some r->r≠0):∀(l:List α) (i:Nat) (r:Int),dm t i l=some r->r≠0
 |[],i,r,e=>by cases e
 |x::l,i,r,e=>by
  unfold dm at e
  cases ht:t i x with
  |some a=>rw[ht] at e;cases e;exact h i x _ ht
  |none=>rw[ht] at e;exact m7 h l (i+1) r e
theorem Bu (u:ak)(f:Int->Bool)(i:Nat)(x:cg)(r:Int)(h:ie u f i x=some r):r≠0:=by
 unfold ie at h
 revert h
 cases f x.place<;>cases bJ x.di 1 20<;>intro h<;>cases h<;>decide
theorem Bv (i:Nat)(x:b6)(r:Int)(h:ig i x=some r):r≠0:=by
 unfold ig at h
 revert h
 cases bJ x.back 1 20<;>cases kQ x.high 0 60<;>cases decide (3<=IntKind.i64.wrap (x.high.high - x.high.low))<;>intro h<;>cases h<;>decide
theorem Hp (u:ak)(i:Nat)(x:bB)(r:Int)(h:jj u i x=some r):r≠0:=by
 unfold jj at h
 revert h
 cases kR u x.aQ<;>intro h<;>cases h<;>decide
theorem Bw {o:Option Int}(h:∀r,o=some r->r≠0):(o.getD 0 != 0)=o.isSome:=by
 cases o with
 |none=>rfl
 |some r=>simpa using h r rfl
theorem Hq (u:ak)(f:Int->Bool)(e:∀p,eP u p=some (f p)/\mZ u p=some (f p))(h1:u.props.length<=20)(h2:u.aE.length<=20)(h3:u.told.length<=20):
  m6 u=ah (mR u) fun x=>cond (x != 0) (some x) (ah (mQ u) fun y=>cond (y != 0) (some y) (mP u)):=by
 rw[tv u f e,tu,tr]
 unfold m6
 simp only[ah]
 cases hp:decide (3<(u.props.length:Int)) with
 |true=>rfl
 |false=>
  simp only[cond_false]
  rw[tj (t:=ie u f) u.props (by omega) ?_ ?_ 0]
  ·rw[Bw (m7 (Bu u f) u.props 0)]
   cases dm (ie u f) 0 u.props with
   |some r=>rfl
   |none=>
    simp only[ia,aG,Option.isSome_none,cond_false,eu]
    cases h:bJ (u.aE.length:Int) 1 3 with
    |false=>rfl
    |true=>
     simp only[Bool.not_true,cond_false,cond_true]
     rw[tj (t:=ig) u.aE (by omega) ?_ ?_ 0]
     ·rw[Bw (m7 Bv u.aE 0)]
      cases dm ig 0 u.aE with
      |some r=>rfl
      |none=>
       simp only[ia,aG,Option.isSome_none,cond_false]
       cases i:decide (3<(u.told.length:Int)) with
       |true=>rfl
       |false=>
        simp only[cond_false]
        rw[tj (t:=jj u) u.told (by omega) ?_ ?_ 0]
        ·cases dm (jj u) 0 u.told<;>rfl
        ·intro j x s b
         have g:=(List.getElem?_eq_some_iff.1 b).1
         have a:decide ((j:Int)<(u.told.length:Int))=true:=decide_eq_true (by omega)
         have c:bw u.told (j:Int)=some x:=by unfold bw;rw[if_pos (by omega),Int.toNat_natCast,b]
         have d:IntKind.i64.wrap ((j:Int)+1)=((j+1:Nat):Int):=by rw[bR (by omega)];omega
         unfold xw jj
         simp only[a,c,d,ah,Bt,cond_true]
         cases kR u x.aQ<;>rfl
        ·intro s
         have a:decide ((u.told.length:Int)<(u.told.length:Int))=false:=decide_eq_false (by omega)
         unfold xw
         simp only[a,cond_false]
     ·intro j x s b
      have g:=(List.getElem?_eq_some_iff.1 b).1
      have a:decide ((j:Int)<(u.aE.length:Int))=true:=decide_eq_true (by omega)
      have c:bw u.aE (j:Int)=some x:=by unfold bw;rw[if_pos (by omega),Int.toNat_natCast,b]
      have d:IntKind.i64.wrap ((j:Int)+1)=((j+1:Nat):Int):=by rw[bR (by omega)];omega
      unfold xu ig
      simp only[a,c,d,ah,eu,Bp,cond_true]
      cases bJ x.back 1 20<;>cases kQ x.high 0 60<;>cases decide (3<=IntKind.i64.wrap (x.high.high - x.high.low))<;>rfl
     ·intro s
      have a:decide ((u.aE.length:Int)<(u.aE.length:Int))=false:=decide_eq_false (by omega)
      unfold xu
      simp only[a,cond_false]
  ·intro j x s b
   have g:=(List.getElem?_eq_some_iff.1 b).1
   have a:decide ((j:Int)<(u.props.length:Int))=true:=decide_eq_true (by omega)
   have c:bw u.props (j:Int)=some x:=by unfold bw;rw[if_pos (by omega),Int.toNat_natCast,b]
   have d:IntKind.i64.wrap ((j:Int)+1)=((j+1:Nat):Int):=by rw[bR (by omega)];omega
   unfold qu ie
   simp only[a,c,d,ah,eu,(e x.place).2,cond_true]
   cases f x.place<;>cases bJ x.di 1 20<;>rfl
  ·intro s
   have a:decide ((u.props.length:Int)<(u.props.length:Int))=false:=decide_eq_false (by omega)
   unfold qu
   simp only[a,cond_false]
theorem Bx (x:Int):cond (x != 0) (some x) (some 0)=some x:=by
 cases h:(x != 0) with
 |true=>rfl
 |false=>
  have:x=0:=by simpa using h
  rw[this];rfl
theorem By (u:ak)(h0:u.aj.length<=20)(h1:u.props.length<=20)(h2:u.aE.length<=20)(h3:u.told.length<=20):dM u=ji u/\∃r,dM u=some r:=by
 obtain ⟨he,c⟩:=xC u h0
 rw[Ho,c]
 show je u=_/\∃r,je u=some r
 unfold je
 rw[tq]
 simp only[ah]
 cases hg:(gV u != 0) with
 |true=>exact ⟨rfl,_,rfl⟩
 |false=>
  simp only[cond_false]
  unfold lI
  rw[he]
  simp only[ah]
  cases a:((cond (bJ u.aj.length 2 5) ((dm (gx u) 0 u.aj).getD 0) 2) != 0) with
  |true=>exact ⟨rfl,_,rfl⟩
  |false=>
   simp only[cond_false]
   have hb:bJ u.aj.length 2 5=true:=by
    cases hb:bJ (u.aj.length:Int) 2 5 with
    |true=>rfl
    |false=>rw[hb] at a;cases a
   have d:=dV.1 hb
   obtain ⟨f,b⟩:=xD u (by omega) h0
   rw[Hq u f b h1 h2 h3]
   unfold lH
   rw[tv u f b]
   simp only[ah]
   cases e:((cond (decide (3<(u.props.length:Int))) 2 ((dm (ie u f) 0 u.props).getD 0)) != 0) with
   |true=>exact ⟨rfl,_,rfl⟩
   |false=>
    simp only[cond_false]
    unfold lG
    rw[tu]
    simp only[ah]
    cases g:((cond (bJ u.aE.length 1 3) ((dm ig 0 u.aE).getD 0) 2) != 0) with
    |true=>exact ⟨rfl,_,rfl⟩
    |false=>
     simp only[cond_false]
     unfold lF n8
     rw[tr]
     simp only[ah]
     rw[Bx]
     exact ⟨rfl,_,rfl⟩
theorem qz {α:Type}{t:Nat->α->Option Int}:∀(l:List α) (i:Nat),dm t i l=none->∀j x,l[j]?=some x->t (i+j) x=none
 |[],i,_,j,x,a=>by simp at a
 |y::l,i,h,j,x,a=>by
  unfold dm at h
  cases ht:t i y with
  |some r=>rw[ht] at h;cases h
  |none=>
   rw[ht] at h
   cases j with
   |zero=>simp at a;subst a;exact ht
   |succ j=>
    have:=qz l (i+1) h j x (by simpa using a)
    rwa [show i+1+j=i+(j+1) by omega] at this
structure Fit (u:ak):Prop where
 aZ:2<=u.aZ/\u.aZ<=60
 bD:0<=u.bD/\u.bD<=60
 den:1<=u.aR.den/\u.aR.den<=20
 num:0<=u.aR.num/\u.aR.num<=20
 aj:2<=u.aj.length/\u.aj.length<=5
 dn:∀(i:Nat) x,u.aj[i]?=some x->(0<=x.an/\x.an<=u.aZ - 1)/\0<=x.high/\x.high<=60
 kS:∀(i:Nat) x y,u.aj[i]?=some x->u.aj[i+1]?=some y->x.an<y.an
 props:u.props.length<=3
 prop:∀(i:Nat) x,u.props[i]?=some x->eP u x.place=some true/\1<=x.di/\x.di<=20
 aE:1<=u.aE.length/\u.aE.length<=3
 aQ:∀(i:Nat) x,u.aE[i]?=some x->(1<=x.back/\x.back<=20)/\0<=x.high.low/\x.high.low<=x.high.high/\x.high.high<=60/\x.high.high - x.high.low<3
 told:u.told.length<=3
 m8:∀(i:Nat) x,u.told[i]?=some x->0<=x.aQ/\x.aQ<u.aE.length
theorem tw {o:Option Int}(h:∀r,o=some r->r≠0)(a:o.getD 0=0):o=none:=by
 cases o with
 |none=>rfl
 |some r=>exact absurd a (h r rfl)
theorem Hr (u:ak)(i:Nat)(x:bH)(r:Int)(h:gx u i x=some r):r≠0:=by
 unfold gx at h
 revert h
 cases bJ x.an 0 (IntKind.i64.wrap (u.aZ - 1))<;>cases bJ x.high 0 60<;>try (intro h;cases h;decide)
 cases i with
 |zero=>intro h;cases h
 |succ j=>
  simp only[cond_true]
  cases u.aj[j]? with
  |none=>intro h;cases h
  |some y=>dsimp only;cases decide (x.an<=y.an)<;>intro h<;>cases h<;>decide
theorem Bz (u:ak)(h0:u.aj.length<=20)(h:dM u=some 0):Fit u:=by
 have a:je u=some 0:=h
 clear h
 unfold je at a
 rw[tq] at a
 simp only[ah] at a
 have hg:gV u=0:=by
  cases hg:(gV u != 0) with
  |true=>rw[hg] at a;exact Option.some.inj a
  |false=>simpa using hg
 rw[hg] at a
 have a:lI u=some 0:=a
 unfold lI at a
 rw[(xC u h0).1] at a
 simp only[ah] at a
 generalize g:cond (bJ (u.aj.length:Int) 2 5) ((dm (gx u) 0 u.aj).getD 0) 2=E at a
 have w:E=0:=by
  cases d:(E != 0) with
  |true=>rw[d] at a;exact Option.some.inj a
  |false=>simpa using d
 rw[w] at a g
 have a:lH u=some 0:=a
 have hb:bJ (u.aj.length:Int) 2 5=true:=by
  cases hb:bJ (u.aj.length:Int) 2 5 with
  |true=>rfl
  |false=>rw[hb] at g;cases g
 rw[hb] at g
 have L:=dV.1 hb
 have o:=qz u.aj 0 (tw (m7 (Hr u) u.aj 0) g)
 obtain ⟨f,p⟩:=xD u (by omega) h0
 unfold lH at a
 rw[tv u f p] at a
 simp only[ah] at a
 generalize j:cond (decide (3<(u.props.length:Int))) 2 ((dm (ie u f) 0 u.props).getD 0)=q at a
 have z:q=0:=by
  cases d:(q != 0) with
  |true=>rw[d] at a;exact Option.some.inj a
  |false=>simpa using d
 rw[z] at a j
 have a:lG u=some 0:=a
 have r:decide (3<(u.props.length:Int))=false:=by
  cases hb:decide (3<(u.props.length:Int)) with
  |false=>rfl
  |true=>rw[hb] at j;cases j
 rw[r] at j
 have A:=qz u.props 0 (tw (m7 (Bu u f) u.props 0) j)
 unfold lG at a
 rw[tu] at a
 simp only[ah] at a
 generalize k:cond (bJ (u.aE.length:Int) 1 3) ((dm ig 0 u.aE).getD 0) 2=s at a
 have B:s=0:=by
  cases d:(s != 0) with
  |true=>rw[d] at a;exact Option.some.inj a
  |false=>simpa using d
 rw[B] at a k
 have a:lF u=some 0:=a
 have t:bJ (u.aE.length:Int) 1 3=true:=by
  cases hb:bJ (u.aE.length:Int) 1 3 with
  |true=>rfl
  |false=>rw[hb] at k;cases k
 rw[t] at k
 have M:=dV.1 t
 have C:=qz u.aE 0 (tw (m7 Bv u.aE 0) k)
 unfold lF n8 at a
 rw[tr] at a
 simp only[ah] at a
 rw[Bx] at a
 have l:=Option.some.inj a
 have v:decide (3<(u.told.length:Int))=false:=by
  cases hb:decide (3<(u.told.length:Int)) with
  |false=>rfl
  |true=>rw[hb] at l;cases l
 rw[v] at l
 have D:=qz u.told 0 (tw (m7 (Hp u) u.told 0) l)
 have N:=of_decide_eq_false r
 have O:=of_decide_eq_false v
 clear a g j k l
 have G:(2<=u.aZ/\u.aZ<=60)/\(0<=u.bD/\u.bD<=60)/\(1<=u.aR.den/\u.aR.den<=20)/\(0<=u.aR.num/\u.aR.num<=20):=by
  unfold gV at hg
  refine ⟨dV.1 ?_,dV.1 ?_,dV.1 ?_,dV.1 ?_⟩<;>revert hg<;>cases bJ u.aZ 2 60<;>cases bJ u.bD 0 60<;>cases bJ u.aR.den 1 20<;>cases bJ u.aR.num 0 20<;>intro hg<;>first|rfl|cases hg
 obtain ⟨F,H,I,J⟩:=G
 have hw:IntKind.i64.wrap (u.aZ - 1)=u.aZ - 1:=bR (by omega)
 have m:∀(i:Nat) x,u.aj[i]?=some x->bJ x.an 0 (u.aZ - 1)=true/\bJ x.high 0 60=true:=by
  intro i x b
  have:=o i x b
  unfold gx at this
  rw[hw] at this
  revert this
  cases bJ x.an 0 (u.aZ - 1)<;>cases bJ x.high 0 60<;>intro h<;>first|exact ⟨rfl,rfl⟩|cases h
 refine ⟨F,H,I,J,by omega,fun i x b=>⟨dV.1 (m i x b).1,dV.1 (m i x b).2⟩,fun i x y b n=>?_,by omega,fun i x b=>?_,by omega,fun i x b=>?_,by omega,fun i x b=>?_⟩
 ·have:=o (i+1) y n
  rw[Nat.zero_add] at this
  unfold gx at this
  rw[hw,(m _ _ n).1,(m _ _ n).2] at this
  simp only[cond_true,b] at this
  cases hd:decide (y.an<=x.an) with
  |true=>rw[hd] at this;cases this
  |false=>have:=of_decide_eq_false hd;omega
 ·have:=A i x b
  unfold ie at this
  revert this
  rw[(p x.place).1]
  cases f x.place<;>cases hb:bJ x.di 1 20<;>intro h<;>first|exact ⟨rfl,dV.1 hb⟩|cases h
 ·have:=C i x b
  unfold ig at this
  cases c:bJ x.back 1 20 with
  |false=>rw[c] at this;cases this
  |true=>
   cases e:kQ x.high 0 60 with
   |false=>rw[c,e] at this;cases this
   |true=>
    rw[c,e] at this
    unfold kQ at e
    simp only[Bool.and_eq_true,decide_eq_true_eq] at e
    refine ⟨dV.1 c,e.1,e.2.1,e.2.2,?_⟩
    cases hd:decide (3<=IntKind.i64.wrap (x.high.high - x.high.low)) with
    |true=>rw[hd] at this;cases this
    |false=>
     have K:=of_decide_eq_false hd
     rw[bR (by omega)] at K
     omega
 ·have:=D i x b
  unfold jj at this
  cases c:kR u x.aQ with
  |false=>rw[c] at this;cases this
  |true=>
   unfold kR at c
   rw[bR (by omega)] at c
   have:=dV.1 c
   omega
theorem xE (g:Nat)(hg:0<g)(n:Int)(d:Nat):bt ((g:Int)*n) (g*d)=bt n d:=by
 unfold bt
 have e1:((g:Int)*n).natAbs=g*n.natAbs:=by rw[Int.natAbs_mul,Int.natAbs_natCast]
 rw[e1,Nat.gcd_mul_left]
 have a:(0:Int)<(g:Int):=by omega
 congr 1
 ·rw[Int.natCast_mul,Int.mul_tdiv_mul_of_pos _ _ a]
 ·rw[Int.natCast_mul,Int.natCast_mul,Int.mul_tdiv_mul_of_pos _ _ a]
theorem xF (n:Int)(d:Nat)(hd:0<d):∃g a:Nat,0<g/\0<a/\d=g*a/\n=(g:Int)*(bt n d).num/\(bt n d).den=(a:Int):=by
 have hg:0<Nat.gcd n.natAbs d:=Nat.gcd_pos_of_pos_right _ hd
 obtain ⟨a,b⟩:=Nat.gcd_dvd_right n.natAbs d
 refine ⟨Nat.gcd n.natAbs d,a,hg,?_,b,?_,?_⟩
 ·rcases Nat.eq_zero_or_pos a with h|h
  ·rw[h,Nat.mul_zero] at b;omega
  ·exact h
 ·have c:((Nat.gcd n.natAbs d:Nat):Int) ∣ n:=Int.ofNat_dvd_left.2 (Nat.gcd_dvd_left _ _)
  unfold bt
  exact (Int.mul_tdiv_cancel' c).symm
 ·have:(d:Int)=((Nat.gcd n.natAbs d:Nat):Int)*(a:Int):=by rw[<-Int.natCast_mul];exact congrArg _ b
  show (d:Int).tdiv ((Nat.gcd n.natAbs d:Nat):Int)=_
  have h2:((Nat.gcd n.natAbs d:Nat):Int)≠0:=by omega
  calc (d:Int).tdiv ((Nat.gcd n.natAbs d:Nat):Int)=(((Nat.gcd n.natAbs d:Nat):Int)*(a:Int)).tdiv ((Nat.gcd n.natAbs d:Nat):Int):=congrArg (fun z=>Int.tdiv z _) this
   _=(a:Int):=Int.mul_tdiv_cancel_left _ h2
theorem cJ {x y:Int}{A B:Nat}(a:x.natAbs<=A)(b:y.natAbs<=B):(x*y).natAbs<=A*B:=by
 rw[Int.natAbs_mul];exact Nat.mul_le_mul a b
theorem ef {n:Int}(h:n.natAbs<=9000000000000000000):IntKind.i64.wrap n=n:=bR (by omega)
structure Sm (r:av)(A B:Nat):Prop where
 num:r.num.natAbs<=A
 den:0<r.den/\r.den<=B
theorem tA {a b:av}{A B C D:Nat}(c:Sm a A B)(hb:Sm b C D)(h:A*D+C*B<=900000000000000000)(hd:B*D<=800000000000000000):
  jH a b=some (bt (a.num*b.den+b.num*a.den) (a.den*b.den).toNat):=by
 have h1:=cJ c.num (show b.den.natAbs<=D by have:=hb.den;omega)
 have h2:=cJ hb.num (show a.den.natAbs<=B by have:=c.den;omega)
 have h3:=cJ (show a.den.natAbs<=B by have:=c.den;omega) (show b.den.natAbs<=D by have:=hb.den;omega)
 have d:0<a.den*b.den:=Int.mul_pos c.den.1 hb.den.1
 unfold jH
 rw[ef (n:=a.num*b.den) (by omega),ef (n:=b.num*a.den) (by omega),ef (n:=a.den*b.den) (by omega),ef (by omega)]
 have e:a.den*b.den=(((a.den*b.den).toNat:Nat):Int):=by omega
 have:=qy (a.num*b.den+b.num*a.den) (a.den*b.den).toNat (by omega) (by omega) (by omega)
 rw[<-e] at this
 rw[this]
 rfl
theorem xG {a b:av}{A B C D:Nat}(c:Sm a A B)(hb:Sm b C D)(h:A*D+C*B<=900000000000000000)(hd:B*D<=800000000000000000):
  hU a b=some (bt (a.num*b.den - b.num*a.den) (a.den*b.den).toNat):=by
 have h1:=cJ c.num (show b.den.natAbs<=D by have:=hb.den;omega)
 have h2:=cJ hb.num (show a.den.natAbs<=B by have:=c.den;omega)
 have h3:=cJ (show a.den.natAbs<=B by have:=c.den;omega) (show b.den.natAbs<=D by have:=hb.den;omega)
 have d:0<a.den*b.den:=Int.mul_pos c.den.1 hb.den.1
 unfold hU
 rw[ef (n:=a.num*b.den) (by omega),ef (n:=b.num*a.den) (by omega),ef (n:=a.den*b.den) (by omega),ef (by omega)]
 have e:a.den*b.den=(((a.den*b.den).toNat:Nat):Int):=by omega
 have:=oH (a.num*b.den - b.num*a.den) (a.den*b.den).toNat (by omega) (by omega) (by omega)
 rw[<-e] at this
 rw[this]
 rfl
theorem xH {a b:av}{A B C D:Nat}(c:Sm a A B)(hb:Sm b C D)(h:A*D+C*B<=900000000000000000)(hd:B*D<=800000000000000000)(hC:C<=9000000000000000000):
  jI a b=some (bt (a.num*b.den - b.num*a.den) (a.den*b.den).toNat):=by
 unfold jI
 have hn:=hb.num
 rw[ef (by omega)]
 have d:Sm (⟨0 - b.num,b.den⟩:av) C D:=⟨by show (0 - b.num).natAbs<=C;omega,hb.den⟩
 rw[tA c d h hd]
 show some (bt (a.num*b.den+(0 - b.num)*a.den) (a.den*b.den).toNat)=_
 rw[show a.num*b.den+(0 - b.num)*a.den=a.num*b.den - b.num*a.den by rw[Int.zero_sub,Int.neg_mul];omega]
def tB (x y:bH)(p:Int):Option av:=
 gP (IntKind.i64.wrap ((IntKind.i64.wrap (x.high*(IntKind.i64.wrap (y.an - x.an))))+(IntKind.i64.wrap ((IntKind.i64.wrap (y.high - x.high))*(IntKind.i64.wrap (p - x.an)))))) (IntKind.i64.wrap (y.an - x.an))
theorem oI {α:Type}{l:List α}{i:Nat}{x:α}(h:l[i]?=some x):bw l (i:Int)=some x:=by unfold bw;rw[if_pos (by omega),Int.toNat_natCast,h]
theorem BA (i:Nat)(h:i<1000):IntKind.i64.wrap ((i:Int)+1)=((i+1:Nat):Int):=by rw[bR (by omega)];omega
theorem piece (u:ak)(p:Int)(f:u.aj.length<=5)(z:bH)(b:u.aj[u.aj.length - 1]?=some z)(hp:p<=z.an):∀(m i n:Nat) (x y:bH),i+1+m=u.aj.length - 1->m<n->u.aj[i]?=some x->u.aj[i+1]?=some y->
  ∃(k:Nat) (x y:bH),i<=k/\u.aj[k]?=some x/\u.aj[k+1]?=some y/\p<=y.an/\(k=i\/x.an<p)/\bg (ob u p) n ((i+1:Nat):Int)=some (.nx ((k+1:Nat):Int))/\
   bg (tf u p) n (i:Int)=ah (tB x y p) fun r=>some (.rt r)
 |m,i,n+1,x,y,q,s,e,a=>by
  have t:i+1<u.aj.length:=(List.getElem?_eq_some_iff.1 a).1
  have d1:decide (((i+1:Nat):Int)<(u.aj.length:Int))=true:=decide_eq_true (by omega)
  unfold bg ob tf
  rw[BA i (by omega),BA (i+1) (by omega),oI e,oI a,d1]
  simp only[ah,cond_true]
  by_cases c:y.an<p
  ·have e1:decide (y.an<p)=true:=decide_eq_true c
   have e2:decide (p<=y.an)=false:=decide_eq_false (by omega)
   rw[e1,e2]
   simp only[cond_true,cond_false]
   cases m with
   |zero=>
    have:u.aj.length - 1=i+1:=by omega
    rw[this,a] at b
    cases b
    omega
   |succ m=>
    have g:i+1+1<u.aj.length:=by omega
    obtain ⟨k,h,y',h1,h2,h3,j,d,l,o⟩:=piece u p f z b hp m (i+1) n y (u.aj[i+1+1]) (by omega) (by omega) a (List.getElem?_eq_getElem g)
    refine ⟨k,h,y',by omega,h2,h3,j,?_,l,o⟩
    rcases d with rfl|d
    ·rw[a] at h2;cases h2;exact .inr c
    ·exact .inr d
  ·have e1:decide (y.an<p)=false:=decide_eq_false c
   have e2:decide (p<=y.an)=true:=decide_eq_true (by omega)
   rw[e1,e2]
   refine ⟨i,x,y,Nat.le_refl _,e,a,by omega,.inl rfl,rfl,?_⟩
   simp only[cond_true]
   unfold tB
   cases gP _ _<;>rfl
theorem jk (n:Int)(d:Nat)(hd:0<d):Sm (bt n d) n.natAbs d:=by
 obtain ⟨g,a,hg,c,e1,e2,b⟩:=xF n d hd
 refine ⟨?_,?_⟩
 ·have:n.natAbs=g*(bt n d).num.natAbs:=by
   have:=congrArg Int.natAbs e2
   rwa [Int.natAbs_mul,Int.natAbs_natCast] at this
  rw[this]
  exact Nat.le_mul_of_pos_left _ hg
 ·rw[b]
  have:a<=d:=by rw[e1];exact Nat.le_mul_of_pos_left _ hg
  omega
theorem BB (h:Int)(n:Int)(d:Nat)(hd:0<d):bt (h*(bt n d).den+(bt n d).num) ((bt n d).den).toNat=bt (h*d+n) d:=by
 obtain ⟨g,a,hg,f,e1,e2,b⟩:=xF n d hd
 have k1:h*(d:Int)+n=(g:Int)*(h*(a:Int)+(bt n d).num):=by
  rw[Int.mul_add,<-e2,e1,Int.natCast_mul,Int.mul_left_comm]
 rw[b]
 have c:((a:Nat):Int).toNat=a:=Int.toNat_natCast a
 rw[c,k1]
 have e:bt ((g:Int)*(h*(a:Int)+(bt n d).num)) d=bt ((g:Int)*(h*(a:Int)+(bt n d).num)) (g*a):=congrArg _ e1
 rw[e,xE g hg]
theorem xI (u:ak)(F:Fit u)(p:Int)(a z:bH)(f:u.aj[0]?=some a)(i:u.aj[u.aj.length - 1]?=some z)(j:a.an<=p)(hp:p<=z.an):
  ∃r,gu u p=some r/\oG u p=some r/\Sm r 7200 60/\∃(k:Nat) (x y:bH) (d:Nat),u.aj[k]?=some x/\u.aj[k+1]?=some y/\x.an<=p/\p<=y.an/\y.an - x.an=d/\0<d/\r=bt (x.high*d+(y.high - x.high)*(p - x.an)) d:=by
 have l:=F.aj
 obtain ⟨k,x,y,-,b,e,m,g,o,q⟩:=piece u p l.2 z i hp (u.aj.length - 2) 0 fu a (u.aj[1]'(by omega)) (by omega) (Nat.lt_of_le_of_lt (show u.aj.length - 2<=5 by omega) (by decide)) f (List.getElem?_eq_getElem _)
 have E:k+1<u.aj.length:=(List.getElem?_eq_some_iff.1 e).1
 have G:=F.dn k x b
 have H:=F.dn (k+1) y e
 have I:=F.kS k x y b e
 have J:=F.aZ
 have t:x.an<=p:=by
  rcases g with rfl|g
  ·rw[f] at b;cases b;exact j
  ·omega
 have v:IntKind.i64.wrap (((k+1:Nat):Int) - 1)=(k:Int):=by rw[bR (by omega)];omega
 have w1:IntKind.i64.wrap (y.high - x.high)=y.high - x.high:=bR (by omega)
 have w2:IntKind.i64.wrap (p - x.an)=p - x.an:=bR (by omega)
 have w3:IntKind.i64.wrap (y.an - x.an)=y.an - x.an:=bR (by omega)
 have w:((y.high - x.high)*(p - x.an)).natAbs<=60*60:=cJ (by omega) (by omega)
 have h:(x.high*(y.an - x.an)).natAbs<=60*60:=cJ (by omega) (by omega)
 obtain ⟨d,hd⟩:∃d:Nat,y.an - x.an=d:=⟨(y.an - x.an).toNat,by omega⟩
 generalize hn:(y.high - x.high)*(p - x.an)=n at w
 have c:0<d:=by omega
 have K:d<=60:=by omega
 have s1:=jk n d c
 have A:Sm (bt n d) 3600 60:=⟨Nat.le_trans s1.num (by omega),s1.den.1,by have:=s1.den.2;omega⟩
 have B:Sm (⟨x.high,1⟩:av) 60 1:=⟨by show x.high.natAbs<=60;omega,by show (0:Int)<1;omega,by show (1:Int)<=((1:Nat):Int);omega⟩
 refine ⟨bt (x.high*d+n) d,?_,?_,?_,k,x,y,d,b,e,t,m,hd,c,by rw[hn]⟩
 ·unfold gu
  have C:bg (ob u p) fu 1=some (.nx ((k+1:Nat):Int)):=o
  rw[C]
  simp only[ah,aG]
  rw[v,oI b,oI e]
  simp only[gr]
  rw[w1,w2,w3,hn,hd,ef (by omega),qy n d (by omega) c (by omega)]
  simp only
  rw[tA B A (by omega) (by omega)]
  show some (bt (x.high*(bt n d).den+(bt n d).num*1) (1*(bt n d).den).toNat)=_
  rw[Int.mul_one,Int.one_mul,BB x.high n d c]
 ·unfold oG
  have D:bg (tf u p) fu 0=ah (tB x y p) fun r=>some (.rt r):=q
  rw[D]
  unfold tB
  rw[w1,w2,w3,ef (n:=x.high*(y.an - x.an)) (by omega),hn,ef (n:=n) (by omega),hd]
  rw[hd] at h
  rw[ef (n:=x.high*(d:Int)+n) (by omega),oH (x.high*d+n) d (by omega) c (by omega)]
  rfl
 ·have s:=jk (x.high*d+n) d c
  rw[hd] at h
  exact ⟨Nat.le_trans s.num (by omega),s.den.1,by have:=s.den.2;omega⟩
theorem Hs (u:ak)(F:Fit u)(p:Int)(a z:bH)(b:u.aj[0]?=some a)(c:u.aj[u.aj.length - 1]?=some z)(d:a.an<=p)(hp:p<=z.an):
  ∃r,gu u p=some r/\oG u p=some r/\Sm r 7200 60:=by
 obtain ⟨r,h1,h2,h3,-⟩:=xI u F p a z b c d hp
 exact ⟨r,h1,h2,h3⟩
def tC:ak:=⟨0,0,(⟨0,0⟩:av),([]:List bH),([]:List cg),([]:List b6),([]:List bB)⟩
theorem Ht {u:ak}{c:Int}(fs:List (ak->Option Int))(h:dM u=some c)(a:c≠0):eT u fs=some (tC,c):=by
 unfold eT
 rw[h]
 have:(c != 0)=true:=by simpa using a
 simp only[ah,this,cond_true]
 rfl
theorem xJ {u:ak}{f:ak->Option Int}{x:Int}(h:dM u=some 0)(a:f u=some x):eT u [f]=some (cond (x != 0) (tC,x) (u,0)):=by
 unfold eT
 rw[h]
 simp only[ah,bne_self_eq_false,cond_false]
 unfold bG sM
 simp only[a,ah]
 cases (x != 0)<;>rfl
theorem tD (u:ak)(F:Fit u)(p:Int):∃a z,u.aj[0]?=some a/\u.aj[u.aj.length - 1]?=some z/\eP u p=some (bJ p a.an z.an)/\mZ u p=some (bJ p a.an z.an):=by
 have c:=F.aj
 have h0:u.aj[0]?=some (u.aj[0]'(by omega)):=List.getElem?_eq_getElem _
 have b:u.aj[u.aj.length - 1]?=some (u.aj[u.aj.length - 1]'(by omega)):=List.getElem?_eq_getElem _
 have hw:IntKind.i64.wrap ((u.aj.length:Int) - 1)=((u.aj.length - 1:Nat):Int):=by rw[bR (by omega)];omega
 refine ⟨_,_,h0,b,?_⟩
 have k:eP u p=some (bJ p (u.aj[0]'(by omega)).an (u.aj[u.aj.length - 1]'(by omega)).an):=by
  unfold eP
  have e0:bw u.aj 0=some (u.aj[0]'(by omega)):=h0
  rw[hw,e0,oI b,jQ]
  simp only[ah,eu]
 exact ⟨k,k⟩
theorem xK {n m:Int}{d e:Nat}(hd:0<d)(he:0<e)(h:n*(e:Int)=m*(d:Int)):bt n d=bt m e:=by
 have a:=xE e he n d
 have b:=xE d hd m e
 rw[<-a,<-b]
 have e1:(e:Int)*n=(d:Int)*m:=by rw[Int.mul_comm,h,Int.mul_comm]
 rw[e1,Nat.mul_comm e d]
theorem lR (n:Int)(d:Nat)(hd:0<d):(bt n d).num*(d:Int)=n*(bt n d).den/\0<(bt n d).den:=by
 obtain ⟨g,a,hg,c,e1,e2,b⟩:=xF n d hd
 refine ⟨?_,by rw[b];omega⟩
 rw[b]
 have k1:(d:Int)=(g:Int)*(a:Int):=by rw[<-Int.natCast_mul];exact congrArg _ e1
 calc (bt n d).num*(d:Int)=(bt n d).num*((g:Int)*(a:Int)):=by rw[<-k1]
  _=((g:Int)*(bt n d).num)*(a:Int):=by rw[<-Int.mul_assoc,Int.mul_comm (bt n d).num]
  _=n*(a:Int):=by rw[<-e2]
theorem qA {a b:av}{A B C D:Nat}(c:Sm a A B)(hb:Sm b C D)(h:A*D<=9000000000000000000)(d:C*B<=9000000000000000000):lO a b=some (decide (a.num*b.den<b.num*a.den))/\eL a b=some (decide (a.num*b.den<b.num*a.den)):=by
 have h1:=cJ c.num (show b.den.natAbs<=D by have:=hb.den;omega)
 have h2:=cJ hb.num (show a.den.natAbs<=B by have:=c.den;omega)
 have k:lO a b=some (decide (a.num*b.den<b.num*a.den)):=by
  unfold lO
  rw[ef (n:=a.num*b.den) (by omega),ef (n:=b.num*a.den) (by omega)]
 exact ⟨k,k⟩
theorem Hu {h md a d e b f c N:Int}(h1:d*b=N*md)(h2:e*f=c*a):(h*(md*a)+d*e)*(b*f)=(h*b*f+N*c)*(md*a):=by
 grind
theorem BC (u:ak)(F:Fit u)(s:aO)(hs:(1<=s.back/\s.back<=20)/\0<=s.high/\s.high<=60)(at_:Int)(an:Int)(H:0<=an/\an<=60)(e:av)(he:Sm e 10000 100):
  ∃c,kE u s at_ ⟨an,e⟩=some ⟨⟨an,e⟩,at_,c⟩/\m0 u s an e=some c/\c=bt (s.high*e.den*(an+s.back)+(e.num - s.high*e.den)*(u.aZ+s.back)) (e.den*(an+s.back)).toNat:=by
 have I:=F.aZ
 have w1:IntKind.i64.wrap (u.aZ+s.back)=u.aZ+s.back:=bR (by omega)
 have w2:IntKind.i64.wrap (an+s.back)=an+s.back:=bR (by omega)
 obtain ⟨f,b⟩:∃f:Nat,an+s.back=f:=⟨(an+s.back).toNat,by omega⟩
 have d:0<f:=by omega
 have J:f<=80:=by omega
 generalize m:u.aZ+s.back=c at*
 have o:c.natAbs<=80:=by omega
 have p:Sm (⟨s.high,1⟩:av) 60 1:=⟨by show s.high.natAbs<=60;omega,by show (0:Int)<1;omega,by show (1:Int)<=((1:Nat):Int);omega⟩
 obtain ⟨a,j⟩:∃n:Nat,e.den=n:=⟨e.den.toNat,by have:=he.den;omega⟩
 have g:0<a:=by have:=he.den;omega
 have K:a<=100:=by have:=he.den;omega
 have A:(s.high*e.den).natAbs<=60*100:=cJ (by omega) (by omega)
 have b2:(e.num - s.high*e.den).natAbs<=16000:=by have:=he.num;omega
 have q:=xH he p (by omega) (by omega) (by omega)
 have e1:e.num*(1:Int) - s.high*e.den=e.num - s.high*e.den:=by rw[Int.mul_one]
 have e2:(e.den*(1:Int)).toNat=a:=by rw[Int.mul_one,j,Int.toNat_natCast]
 rw[show ((⟨s.high,1⟩:av).den)=(1:Int) from rfl,show ((⟨s.high,1⟩:av).num)=s.high from rfl,e1,e2] at q
 generalize B:e.num - s.high*e.den=N at*
 have sm:=jk N a g
 have r:=jk c f d
 have t:=lR N a g
 have v:=lR c f d
 have L:((bt N a).num*(bt c f).num).natAbs<=16000*80:=cJ (Nat.le_trans sm.num b2) (Nat.le_trans r.num o)
 have O:((bt N a).den*(bt c f).den).natAbs<=100*80:=cJ (by have:=sm.den;omega) (by have:=r.den;omega)
 have P:0<(bt N a).den*(bt c f).den:=Int.mul_pos t.2 v.2
 obtain ⟨M,w⟩:∃M:Nat,(bt N a).den*(bt c f).den=M:=⟨((bt N a).den*(bt c f).den).toNat,by omega⟩
 have h:0<M:=by omega
 have C:=qy c f (by omega) d (by omega)
 have D:=qy ((bt N a).num*(bt c f).num) M (by omega) h (by omega)
 have sq:=jk ((bt N a).num*(bt c f).num) M h
 have E:Sm (bt ((bt N a).num*(bt c f).num) M) 1280000 8000:=⟨Nat.le_trans sq.num (by omega),sq.den.1,by have:=sq.den.2;omega⟩
 have x:=tA p E (by omega) (by omega)
 have G:s.high*(bt ((bt N a).num*(bt c f).num) M).den+(bt ((bt N a).num*(bt c f).num) M).num*1=s.high*(bt ((bt N a).num*(bt c f).num) M).den+(bt ((bt N a).num*(bt c f).num) M).num:=by rw[Int.mul_one]
 rw[show ((⟨s.high,1⟩:av).den)=(1:Int) from rfl,show ((⟨s.high,1⟩:av).num)=s.high from rfl,G,Int.one_mul,BB s.high _ M h] at x
 have k:e.den*(an+s.back)=((a*f:Nat):Int):=by rw[j,b,Int.natCast_mul]
 have i:(e.den*(an+s.back)).toNat=a*f:=by rw[k,Int.toNat_natCast]
 have y:bt (s.high*(M:Int)+(bt N a).num*(bt c f).num) M=bt (s.high*e.den*(an+s.back)+N*c) (a*f):=by
  refine xK h (Nat.mul_pos g d) ?_
  rw[Int.natCast_mul,<-w,b,j]
  exact Hu (by rw[t.1]) (by rw[v.1])
 refine ⟨_,?_,?_,rfl⟩
 ·unfold kE
  have l:IntKind.i64.wrap (f:Int)=f:=bR (by omega)
  simp only[gr,ah,q,m,w1,b,l,C]
  rw[ef (by omega),ef (n:=(bt N a).den*(bt c f).den) (by omega),w,D]
  simp only[x]
  rw[b] at i y
  rw[i,y]
 ·unfold m0
  have l:IntKind.i64.wrap (f:Int)=f:=bR (by omega)
  have Q:(s.high*e.den*(f:Int)).natAbs<=6000*80:=cJ A (by omega)
  have p2:(N*c).natAbs<=16000*80:=cJ b2 o
  have p3:(e.den*(f:Int)).natAbs<=100*80:=cJ (by omega) (by omega)
  simp only[m,w1,b,l]
  rw[ef (n:=s.high*e.den) (by omega),B,ef (n:=N) (by omega),ef (n:=s.high*e.den*(f:Int)) (by omega),ef (n:=N*c) (by omega),ef (n:=s.high*e.den*(f:Int)+N*c) (by omega),ef (n:=e.den*(f:Int)) (by omega)]
  rw[b] at k i
  have z:=oH (s.high*e.den*(f:Int)+N*c) (a*f) (by omega) (Nat.mul_pos g d) (by omega)
  rw[i]
  rw[<-k] at z
  rw[z]
  rfl
theorem BD (s:aO)(u:ak):er s u=s7 s:=rfl
def lS (s:aO):Int:=cond (bJ s.back 1 20) (cond (bJ s.high 0 60) 0 1) 1
theorem xL (s:aO):s7 s=some (lS s):=by
 unfold s7 lS
 simp only[eu,ah]
 cases bJ s.back 1 20<;>cases bJ s.high 0 60<;>rfl
theorem Hv {s:aO}(h:lS s=0):(1<=s.back/\s.back<=20)/\0<=s.high/\s.high<=60:=by
 unfold lS at h
 cases h1:bJ s.back 1 20 with
 |false=>rw[h1] at h;cases h
 |true=>
  cases h2:bJ s.high 0 60 with
  |false=>rw[h1,h2] at h;cases h
  |true=>exact ⟨dV.1 h1,dV.1 h2⟩
def cE (u:ak)(s:aO)(x:bH):av:=bt (s.high*1*(x.an+s.back)+(x.high - s.high*1)*(u.aZ+s.back)) (1*(x.an+s.back)).toNat
theorem BE (u:ak)(F:Fit u)(s:aO)(hs:(1<=s.back/\s.back<=20)/\0<=s.high/\s.high<=60)(i:Nat)(x:bH)(a:u.aj[i]?=some x)(at_:Int):
  kE u s at_ ⟨x.an,⟨x.high,1⟩⟩=some ⟨⟨x.an,⟨x.high,1⟩⟩,at_,cE u s x⟩/\m0 u s x.an ⟨x.high,1⟩=some (cE u s x):=by
 have p:=F.dn i x a
 have b:=F.aZ
 have he:Sm (⟨x.high,1⟩:av) 10000 100:=⟨by show x.high.natAbs<=10000;omega,by show (0:Int)<1;omega,by show (1:Int)<=((100:Nat):Int);omega⟩
 obtain ⟨c,h1,h2,h3⟩:=BC u F s hs at_ x.an (by omega) ⟨x.high,1⟩ he
 have:c=cE u s x:=h3
 subst this
 exact ⟨h1,h2⟩
theorem BG (u:ak)(F:Fit u)(s:aO)(hs:(1<=s.back/\s.back<=20)/\0<=s.high/\s.high<=60)(i:Nat)(x:bH)(a:u.aj[i]?=some x):Sm (cE u s x) 10000 100:=by
 have p:=F.dn i x a
 have b:=F.aZ
 unfold cE
 rw[Int.mul_one,Int.one_mul]
 have c:(s.high*(x.an+s.back)).natAbs<=60*79:=cJ (by omega) (by omega)
 have b2:((x.high - s.high)*(u.aZ+s.back)).natAbs<=60*80:=cJ (by omega) (by omega)
 have h:=jk (s.high*(x.an+s.back)+(x.high - s.high)*(u.aZ+s.back)) (x.an+s.back).toNat (by omega)
 exact ⟨Nat.le_trans h.num (by omega),h.den.1,by have:=h.den.2;omega⟩
def foldI {α σ:Type}(g:Nat->α->σ->σ):Nat->List α->σ->σ
 |_,[],s=>s
 |i,x::l,s=>foldI g (i+1) l (g i x s)
theorem jR {α σ ρ:Type}{f:Nat->α->σ->Option (Fl σ ρ)}{g:Nat->α->σ->σ}{I:Nat->σ->Prop}:∀(l:List α) (i:Nat) (s:σ),I i s->(∀j x s,l[j]?=some x->I (i+j) s->f (i+j) x s=some (.nx (g (i+j) x s))/\I (i+j+1) (g (i+j) x s))->
  bG f i l s=some (.nx (foldI g i l s))/\I (i+l.length) (foldI g i l s)
 |[],i,s,hs,_=>⟨rfl,hs⟩
 |x::l,i,s,hs,h=>by
  obtain ⟨h0,h1⟩:=h 0 x s rfl hs
  simp only[Nat.add_zero] at h0 h1
  unfold bG foldI
  rw[h0]
  have:=jR l (i+1) _ h1 fun j y s a hs=>by
   have:=h (j+1) y s (by simpa using a) (by rwa [show i+(j+1)=i+1+j by omega])
   rwa [show i+(j+1)=i+1+j by omega] at this
  rwa [show i+1+l.length=i+(x::l).length by simp;omega] at this
theorem BH {α σ τ ρ:Type}{f:τ->Option (Fl τ ρ)}{g:Nat->α->σ->σ}{I:Nat->σ->Prop}(e:σ->Int->τ)(l:List α)(h:∀(i:Nat) x s,l[i]?=some x->I i s->f (e s (i:Int))=some (.nx (e (g i x s) ((i+1:Nat):Int)))/\I (i+1) (g i x s))(a:∀s,f (e s (l.length:Int))=some (.bk (e s (l.length:Int)))):
  ∀(k i n:Nat) (s:σ),I i s->i+k=l.length->k<n->bg f n (e s (i:Int))=some (.nx (e (foldI g i (l.drop i) s) (l.length:Int)))/\I l.length (foldI g i (l.drop i) s)
 |0,i,n+1,s,hs,hi,_=>by
  obtain rfl:i=l.length:=by omega
  unfold bg
  rw[a,List.drop_length]
  exact ⟨rfl,hs⟩
 |k+1,i,n+1,s,hs,hi,hn=>by
  have b:i<l.length:=by omega
  have c:l[i]?=some l[i]:=List.getElem?_eq_getElem b
  obtain ⟨h0,h1⟩:=h i _ s c hs
  unfold bg
  rw[h0,List.drop_eq_getElem_cons b]
  unfold foldI
  exact BH e l h a k (i+1) n _ h1 (by omega) (by omega)
theorem kT {α σ τ ρ:Type}{f:τ->Option (Fl τ ρ)}{g:Nat->α->σ->σ}{I:Nat->σ->Prop}(e:σ->Int->τ)(l:List α)(a:l.length<=1000)(h:∀(i:Nat) x s,l[i]?=some x->I i s->f (e s (i:Int))=some (.nx (e (g i x s) ((i+1:Nat):Int)))/\I (i+1) (g i x s))(b:∀s,f (e s (l.length:Int))=some (.bk (e s (l.length:Int))))(s:σ)(hs:I 0 s):
  bg f fu (e s 0)=some (.nx (e (foldI g 0 l s) (l.length:Int)))/\I l.length (foldI g 0 l s):=by
 have:=BH e l h b l.length 0 fu s hs (by omega) (Nat.lt_of_le_of_lt a (by decide))
 simpa using this
theorem BI {α σ:Type}{g g':Nat->α->σ->σ}:∀(l:List α) (i:Nat) (s:σ),(∀j x s,i<=j->g j x s=g' j x s)->foldI g i l s=foldI g' i l s
 |[],_,_,_=>rfl
 |x::l,i,s,h=>by
  unfold foldI
  rw[h i x s (Nat.le_refl _)]
  exact BI l (i+1) _ fun j x s a=>h j x s (by omega)
def bP (a b:av):Bool:=decide (a.num*b.den<b.num*a.den)
abbrev SR (r:av):Prop:=Sm r 2000000 8000
theorem Sm.mono {r:av}{A B a b:Nat}(h:Sm r A B)(c:A<=a)(hb:B<=b):Sm r a b:=⟨Nat.le_trans h.num c,h.den.1,by have:=h.den.2;omega⟩
theorem qB (u:ak)(F:Fit u)(s:aO)(hs:(1<=s.back/\s.back<=20)/\0<=s.high/\s.high<=60)(i:Nat)(x:bH)(a:u.aj[i]?=some x):SR (cE u s x):=(BG u F s hs i x a).mono (by decide) (by decide)
theorem lT {a b:av}(c:SR a)(hb:SR b):lO a b=some (bP a b)/\eL a b=some (bP a b):=qA c hb (by decide) (by decide)
def gB (u:ak)(s:aO)(i:Nat)(x:bH)(st:Int×av):Int×av:=cond (bP st.2 (cE u s x)) ((i:Int),cE u s x) st
def iD (u:ak)(s:aO)(i:Nat)(x:bH):bA:=⟨⟨x.an,⟨x.high,1⟩⟩,(i:Int),cE u s x⟩
def fz (u:ak)(s:aO):Nat->List bH->List bA
 |_,[]=>[]
 |i,x::l=>iD u s i x::fz u s (i+1) l
theorem BJ (u:ak)(s:aO):∀(l:List bH) (i:Nat) (a:List bA),foldI (fun i x st=>st++[iD u s i x]) i l a=a++fz u s i l
 |[],i,a=>by simp[foldI,fz]
 |x::l,i,a=>by simp[foldI,fz,BJ u s l (i+1)]
def gC (i:Nat)(x:bA)(st:bA):bA:=cond (bP st.high x.high) x st
theorem BK (u:ak)(s:aO):∀(l:List bH) (i j:Nat) (c:bA),let r:=foldI gC j (fz u s i l) c;(r.at_,r.high)=foldI (gB u s) i l (c.at_,c.high)
 |[],i,j,c=>rfl
 |x::l,i,j,c=>by
  simp only[fz,foldI]
  have:=BK u s l (i+1) (j+1) (gC j (iD u s i x) c)
  simp only at this
  rw[this]
  congr 1
  unfold gC gB iD
  cases bP c.high (cE u s x)<;>rfl
theorem tE (n:Int):gr n=some ⟨n,1⟩:=rfl
def c8 (u:ak)(s:aO):Int×av:=match u.aj with
 |[]=>(0,⟨0,0⟩)
 |x::l=>foldI (gB u s) 1 l (0,cE u s x)
section
variable {u : ak} {s : aO} (F : Fit u) (hs : (1 ≤ s.back ∧ s.back ≤ 20) ∧ 0 ≤ s.high ∧ s.high ≤ 60)
include F hs
theorem Hw:bG (n9 u s) 0 u.aj ([]:List bA)=some (.nx (fz u s 0 u.aj)):=by
 have c:=F.aj
 have:=jR (f:=n9 u s) (ρ:=bA) (g:=fun i x st=>st++[iD u s i x]) (I:=fun i st=>st.length=i) u.aj 0 [] rfl (fun j x st a b=>?_)
 ·rw[this.1,BJ];rfl
 ·have d:j<u.aj.length:=(List.getElem?_eq_some_iff.1 a).1
  refine ⟨?_,by simp[b]⟩
  unfold n9
  rw[Nat.zero_add] at b ⊢
  simp only[tE,ah,(BE u F s hs j x a (j:Int)).1]
  unfold cB
  rw[if_pos (by simp;omega)]
  rfl
theorem BL:∀(l:List bH) (i:Nat),(∀(j:Nat) x,l[j]?=some x->u.aj[i+j]?=some x)->∀(j:Nat) c,(fz u s i l)[j]?=some c->SR c.high
 |[],_,_,j,c,h=>by simp[fz] at h
 |x::l,i,a,0,c,h=>by
  simp[fz] at h
  subst h
  exact qB u F s hs i x (a 0 x rfl)
 |x::l,i,a,j+1,c,h=>BL l (i+1) (fun j y b=>by have:=a (j+1) y (by simpa using b);rwa [show i+(j+1)=i+1+j by omega] at this) j c (by simpa [fz] using h)
theorem oJ:∃c,lJ u s=some c/\(c.at_,c.high)=c8 u s/\SR c.high/\td u s=some (c8 u s):=by
 have d:=F.aj
 have o:=Hw F hs
 obtain ⟨a,rest,he⟩:∃x l,u.aj=x::l:=by
  cases h:u.aj with
  |nil=>rw[h] at d;simp at d
  |cons x l=>exact ⟨x,l,rfl⟩
 have p:u.aj[0]?=some a:=by rw[he];rfl
 have q:∀(j:Nat) x,rest[j]?=some x->u.aj[1+j]?=some x:=fun j x h=>by rw[he,Nat.add_comm];simpa using h
 have v:rest.length<=4:=by rw[he] at d;simp at d;omega
 have r:SR (cE u s a):=qB u F s hs 0 a p
 have hg:=jR (f:=mO gN) (ρ:=bA) (g:=gC) (I:=fun _ c=>SR c.high) (fz u s 1 rest) 0 (iD u s 0 a) r (fun j c st m e=>by
  have b:=BL F hs rest 1 q j c m
  refine ⟨?_,?_⟩
  ·unfold mO gN gC
   simp only[(lT e b).2,ah]
   cases bP st.high c.high<;>rfl
  ·unfold gC
   cases bP st.high c.high
   ·exact e
   ·exact b)
 refine ⟨foldI gC 0 (fz u s 1 rest) (iD u s 0 a),?_,?_,hg.2,?_⟩
 ·unfold lJ
  rw[o,he]
  simp only[ah,aG,fz]
  rw[show bw (iD u s 0 a::fz u s (0+1) rest) 0=some (iD u s 0 a) from rfl]
  simp only
  have:eA (iD u s 0 a::fz u s (0+1) rest) 1 (((iD u s 0 a::fz u s (0+1) rest).length:Nat):Int)=some (fz u s 1 rest):=by
   unfold eA
   rw[if_pos (by simp only[List.length_cons];omega)]
   simp
  rw[this]
  simp only
  unfold kF
  rw[hg.1]
  rfl
 ·have:=BK u s rest 1 0 (iD u s 0 a)
  simp only at this
  rw[this]
  unfold c8
  rw[he]
  rfl
 ·unfold td
  have t:=kT (f:=tc u s) (g:=fun i x st=>if i=0 then ((0:Int),cE u s x) else gB u s i x st) (I:=fun i st=>i=0\/SR st.2) (fun st i=>(st.1,i,st.2)) u.aj (by omega) (fun i x st k e=>?_) (fun st=>?_) ((0:Int),(⟨0,0⟩:av)) (.inl rfl)
  ·rw[t.1,he]
   simp only[ah,aG,foldI,if_pos]
   rw[BI (g':=gB u s) rest (0+1) _ (fun j x st m=>if_neg (by omega))]
   unfold c8
   rw[he]
  ·have w:i<u.aj.length:=(List.getElem?_eq_some_iff.1 k).1
   have b:=qB u F s hs i x k
   unfold tc
   simp only
   rw[show decide ((i:Int)<(u.aj.length:Int))=true by simp;omega]
   simp only[cond_true]
   rw[show bw u.aj (i:Int)=some x by unfold bw;rw[if_pos (by omega)];simpa using k]
   simp only[ah,(BE u F s hs i x k 0).2]
   have hw:IntKind.i64.wrap ((i:Int)+1)=((i+1:Nat):Int):=by rw[bR (by omega)];rfl
   rw[hw]
   by_cases h0:i=0
   ·subst h0
    exact ⟨rfl,.inr b⟩
   ·have n:SR st.2:=e.resolve_left h0
    rw[show (((i:Nat):Int)==0)=false by simp;omega]
    simp only[cond_false,(lT n b).1,if_neg h0]
    unfold gB
    cases bP st.2 (cE u s x)
    ·exact ⟨rfl,.inr n⟩
    ·exact ⟨rfl,.inr b⟩
  ·unfold tc
   simp
end
section
variable {u : ak} {s : aO} (F : Fit u) (hs : (1 ≤ s.back ∧ s.back ≤ 20) ∧ 0 ≤ s.high ∧ s.high ≤ 60)
include F hs
theorem tF:Sm (⟨u.bD,1⟩:av) 60 1:=⟨by have:=F.bD;show u.bD.natAbs<=60;omega,by show (0:Int)<1;omega,by show (1:Int)<=((1:Nat):Int);omega⟩
theorem qC:SR (c8 u s).2:=by
 obtain ⟨c,h1,h2,h3,a⟩:=oJ F hs
 rw[<-h2];exact h3
theorem Hx:∃r,oa u s=some r/\xz u s=some r:=by
 obtain ⟨c,h1,h2,h3,a⟩:=oJ F hs
 have e2:c.high=(c8 u s).2:=by rw[<-h2]
 have p:=tF F hs
 have b:=xH p h3 (by decide) (by decide) (by decide)
 have d:=xG p h3 (by decide) (by decide)
 unfold oa xz
 rw[h1,a]
 simp only[ah,tE,b,<-e2,d]
 exact ⟨_,rfl,rfl⟩
end
theorem BM {a b c:av}(d:0<a.den)(hb:0<b.den)(f:0<c.den)(h1:bP b a=false)(h2:bP b c=true):bP c a=false:=by
 unfold bP at*
 simp only[decide_eq_false_iff_not,decide_eq_true_eq,Int.not_lt] at*
 have k1:a.num*b.den*c.den<=b.num*a.den*c.den:=Int.mul_le_mul_of_nonneg_right h1 (by omega)
 have g:b.num*c.den*a.den<c.num*b.den*a.den:=Int.mul_lt_mul_of_pos_right h2 d
 have e:b.den*(a.num*c.den)<b.den*(c.num*a.den):=by
  have e1:b.den*(a.num*c.den)=a.num*b.den*c.den:=by grind
  have e2:b.den*(c.num*a.den)=c.num*b.den*a.den:=by grind
  have h:b.num*a.den*c.den=b.num*c.den*a.den:=by grind
  omega
 exact Int.le_of_lt (Int.lt_of_mul_lt_mul_left e (by omega))
theorem qD (a:av):bP a a=false:=by unfold bP;simp
theorem Hy {a b:av}(h:bP a b=true):bP b a=false:=by
 unfold bP at*
 simp only[decide_eq_false_iff_not,decide_eq_true_eq,Int.not_lt] at*
 omega
def tG (u:ak)(s:aO)(an:Int)(e:av):av:=bt (s.high*e.den*(an+s.back)+(e.num - s.high*e.den)*(u.aZ+s.back)) (e.den*(an+s.back)).toNat
def dy (u:ak)(x:cg):av:=match gu u x.place with
 |some r=>bt (r.num+x.di*r.den) r.den.toNat
 |none=>⟨0,0⟩
def dW (u:ak)(s:aO)(x:cg):av:=tG u s x.place (dy u x)
section
variable {u : ak} {s : aO} (F : Fit u) (hs : (1 ≤ s.back ∧ s.back ≤ 20) ∧ 0 ≤ s.high ∧ s.high ≤ 60)
include F hs
theorem xM {i:Nat}{x:cg}(o:u.props[i]?=some x):∃r,gu u x.place=some r/\oG u x.place=some r/\jH r ⟨x.di,1⟩=some (dy u x)/\
  gP (IntKind.i64.wrap (r.num+IntKind.i64.wrap (x.di*r.den))) r.den=some (dy u x)/\(∀at_,kE u s at_ ⟨x.place,dy u x⟩=some ⟨⟨x.place,dy u x⟩,at_,dW u s x⟩)/\m0 u s x.place (dy u x)=some (dW u s x)/\SR (dW u s x):=by
 obtain ⟨p,p2,p3⟩:=F.prop i x o
 obtain ⟨a,z,h,j,hp,C⟩:=tD u F x.place
 rw[p] at hp
 have hb:bJ x.place a.an z.an=true:=(Option.some.inj hp).symm
 unfold bJ at hb
 simp only[Bool.and_eq_true,decide_eq_true_eq] at hb
 have D:=F.dn _ a h
 have E:=F.dn _ z j
 have G:=F.aZ
 obtain ⟨r,h1,h2,h3⟩:=Hs u F x.place a z h j hb.1 hb.2
 have sh:Sm (⟨x.di,1⟩:av) 20 1:=⟨by show x.di.natAbs<=20;omega,by show (0:Int)<1;omega,by show (1:Int)<=((1:Nat):Int);omega⟩
 have H:(x.di*r.den).natAbs<=20*60:=cJ (by omega) (by have:=h3.den;omega)
 obtain ⟨d,hd⟩:∃d:Nat,r.den=d:=⟨r.den.toNat,by have:=h3.den;omega⟩
 have k:0<d:=by have:=h3.den;omega
 have I:d<=60:=by have:=h3.den;omega
 have hn:=h3.num
 have g:dy u x=bt (r.num+x.di*r.den) d:=by
  unfold dy
  rw[h1]
  simp only
  rw[hd,Int.toNat_natCast]
 have b:Sm (dy u x) 10000 100:=by
  rw[g]
  have:=jk (r.num+x.di*r.den) d k
  exact ⟨Nat.le_trans this.num (by omega),this.den.1,by have:=this.den.2;omega⟩
 have q:=tA h3 sh (by decide) (by decide)
 have l:=oH (r.num+x.di*r.den) d (by omega) k (by omega)
 have m:∀at_,kE u s at_ ⟨x.place,dy u x⟩=some ⟨⟨x.place,dy u x⟩,at_,dW u s x⟩/\m0 u s x.place (dy u x)=some (dW u s x):=fun at_=>by
  obtain ⟨c,c1,c2,c3⟩:=BC u F s hs at_ x.place ⟨by omega,by omega⟩ (dy u x) b
  subst c3
  exact ⟨c1,c2⟩
 refine ⟨r,h1,h2,?_,?_,fun at_=>(m at_).1,(m 0).2,?_⟩
 ·rw[q,g]
  show some (bt (r.num*1+x.di*r.den) (r.den*1).toNat)=_
  rw[Int.mul_one,Int.mul_one,hd,Int.toNat_natCast]
 ·rw[ef (n:=x.di*r.den) (by omega),ef (by omega),g]
  rw[hd] at l ⊢
  exact l
 ·unfold dW tG
  obtain ⟨f,t⟩:∃f:Nat,x.place+s.back=f:=⟨(x.place+s.back).toNat,by omega⟩
  obtain ⟨e,v⟩:∃n:Nat,(dy u x).den=n:=⟨(dy u x).den.toNat,by have:=b.den;omega⟩
  have w:0<e:=by have:=b.den;omega
  have y:e<=100:=by have:=b.den;omega
  have J:=b.num
  have A:(s.high*(dy u x).den).natAbs<=60*100:=cJ (by omega) (by omega)
  have b2:(s.high*(dy u x).den*(x.place+s.back)).natAbs<=6000*80:=cJ A (by omega)
  have b3:(((dy u x).num - s.high*(dy u x).den)*(u.aZ+s.back)).natAbs<=16000*80:=cJ (by omega) (by omega)
  have B:((dy u x).den*(x.place+s.back)).toNat=e*f:=by rw[v,t,<-Int.natCast_mul,Int.toNat_natCast]
  rw[B]
  have:=jk (s.high*(dy u x).den*(x.place+s.back)+((dy u x).num - s.high*(dy u x).den)*(u.aZ+s.back)) (e*f) (Nat.mul_pos w (by omega))
  have K:e*f<=100*80:=Nat.mul_le_mul y (by omega)
  exact ⟨Nat.le_trans this.num (by omega),this.den.1,by have:=this.den.2;omega⟩
end
def same (x:cg)(e:av)(y:bA):Bool:=(y.spot.an==x.place)&&((y.spot.high.num==e.num)&&(y.spot.high.den==e.den))
def gT (u:ak)(s:aO)(i:Nat)(x:cg)(st:List bA):List bA:=cond (st.any (same x (dy u x))) st (st++[⟨⟨x.place,dy u x⟩,(i:Int),dW u s x⟩])
def cZ (a b:av):av:=cond (bP a b) b a
def gM (u:ak)(s:aO)(i:Nat)(x:cg)(b:av):av:=if i=0 then dW u s x else cZ b (dW u s x)
theorem BN (x:cg)(e:av):∀(l:List bA) (i:Nat),bG (qh x e) i l ()=some (cond (l.any (same x e)) (.br 1 ()) (.nx ()):Fl Unit (List bA))
 |[],i=>rfl
 |y::l,i=>by
  unfold bG qh
  rw[show ((y.spot.an==x.place)&&((y.spot.high.num==e.num)&&(y.spot.high.den==e.den)))=same x e y from rfl,List.any_cons]
  cases same x e y
  ·simp only[cond_false,ah,Bool.false_or]
   exact BN x e l (i+1)
  ·rfl
theorem qE {a b:av}(c:SR a)(hb:SR b):gd a b=some (cZ a b):=by
 unfold gd cZ
 simp only[(lT c hb).1,ah]
 cases bP a b<;>rfl
theorem lU {a b:av}(c:SR a)(hb:SR b):SR (cZ a b):=by unfold cZ;cases bP a b;exact c;exact hb
def tH:List bA->av
 |[]=>⟨0,0⟩
 |c::l=>(foldI gC 0 l c).high
theorem BO {α σ:Type}{g:Nat->α->σ->σ}:∀(l:List α) (i:Nat) (y:α) (s:σ),foldI g i (l++[y]) s=g (i+l.length) y (foldI g i l s)
 |[],i,y,s=>rfl
 |x::l,i,y,s=>by
  simp only[List.cons_append,foldI,List.length_cons]
  rw[BO l (i+1) y]
  congr 1
  omega
theorem Hz (c:bA)(l:List bA)(y:bA):tH (c::l++[y])=cZ (tH (c::l)) y.high:=by
 show (foldI gC 0 (l++[y]) c).high=_
 rw[BO]
 show (cond (bP (foldI gC 0 l c).high y.high) y (foldI gC 0 l c)).high=cond (bP (foldI gC 0 l c).high y.high) y.high (foldI gC 0 l c).high
 cases bP (foldI gC 0 l c).high y.high<;>rfl
structure Tp (u:ak)(s:aO)(st:List bA)(b:av):Prop where
 ne:st≠[]
 xN:b=tH st
 sm:SR b
 le:∀y∈st,bP b y.high=false/\SR y.high/\y.high=tG u s y.spot.an y.spot.high
theorem Tp.step {u:ak}{s:aO}{st:List bA}{b:av}(h:Tp u s st b){x:cg}(f:SR (dW u s x))(i:Nat):Tp u s (gT u s i x st) (cZ b (dW u s x)):=by
 unfold gT
 cases m:st.any (same x (dy u x)) with
 |true=>
  simp only[cond_true]
  obtain ⟨y,a,g⟩:=List.any_eq_true.1 m
  have d:=h.le y a
  have e:y.high=dW u s x:=by
   rw[d.2.2]
   unfold same at g
   simp only[Bool.and_eq_true,beq_iff_eq] at g
   obtain ⟨e1,e2,j⟩:=g
   unfold dW
   have:y.spot.high=dy u x:=by
    cases hq:y.spot.high;cases n:dy u x
    rw[hq,n] at e2 j
    simp only at e2 j
    rw[e2,j]
   rw[e1,this]
  have:cZ b (dW u s x)=b:=by
   unfold cZ
   rw[<-e,d.1]
   rfl
  rw[this]
  exact h
 |false=>
  simp only[cond_false]
  obtain ⟨c,l,rfl⟩:∃c l,st=c::l:=by
   cases st with
   |nil=>exact absurd rfl h.ne
   |cons c l=>exact ⟨c,l,rfl⟩
  refine ⟨by simp,?_,lU h.sm f,fun y a=>?_⟩
  ·rw[Hz,<-h.xN]
  ·rcases List.mem_append.1 a with a|a
   ·have d:=h.le y a
    refine ⟨?_,d.2⟩
    unfold cZ
    cases k:bP b (dW u s x) with
    |false=>exact d.1
    |true=>exact BM d.2.1.den.1 h.sm.den.1 f.den.1 d.1 k
   ·simp at a
    subst a
    refine ⟨?_,f,rfl⟩
    unfold cZ
    cases k:bP b (dW u s x) with
    |false=>exact k
    |true=>exact qD _
theorem Tp.fold {u:ak}{s:aO}:∀(l:List cg) (i:Nat) (st:List bA) (b:av),1<=i->(∀x∈l,SR (dW u s x))->Tp u s st b->Tp u s (foldI (gT u s) i l st) (foldI (gM u s) i l b)
 |[],_,_,_,_,_,h=>h
 |x::l,i,st,b,hi,a,h=>by
  unfold foldI
  have e:gM u s i x b=cZ b (dW u s x):=if_neg (by omega)
  rw[e]
  exact Tp.fold l (i+1) _ _ (by omega) (fun y c=>a y (List.mem_cons_of_mem _ c)) (h.step (a x (List.mem_cons_self ..)) i)
theorem Tp.all {u:ak}{s:aO}(x:cg)(l:List cg)(b:∀y∈x::l,SR (dW u s y)):Tp u s (foldI (gT u s) 0 (x::l) []) (foldI (gM u s) 0 (x::l) ⟨0,0⟩):=by
 unfold foldI
 have c:=b x (List.mem_cons_self ..)
 refine Tp.fold l 1 _ _ (Nat.le_refl _) (fun y a=>b y (List.mem_cons_of_mem _ a)) ⟨by simp[gT],?_,?_,?_⟩
 ·simp[gT,gM,tH,foldI]
 ·exact c
 ·intro y a
  simp[gT] at a
  subst a
  exact ⟨by simp[gM];exact qD _,c,rfl⟩
section
variable {u : ak} {s : aO} (F : Fit u) (hs : (1 ≤ s.back ∧ s.back ≤ 20) ∧ 0 ≤ s.high ∧ s.high ≤ 60)
include F hs
theorem HA:∀x∈u.props,SR (dW u s x):=fun x a=>by
 obtain ⟨i,hi,rfl⟩:=List.getElem_of_mem a
 obtain ⟨r,_,_,_,_,_,_,h⟩:=xM F hs (i:=i) (List.getElem?_eq_getElem hi)
 exact h
theorem HB:jJ u s=some (foldI (gT u s) 0 u.props []):=by
 have d:=F.props
 unfold jJ
 have:=jR (f:=qi u s) (ρ:=List bA) (g:=gT u s) (I:=fun i st=>st.length<=i) u.props 0 [] (Nat.le_refl _) (fun j x st a b=>by
  have e:j<u.props.length:=(List.getElem?_eq_some_iff.1 a).1
  obtain ⟨r,h1,h2,h3,h,c,k,l⟩:=xM F hs a
  rw[Nat.zero_add] at b ⊢
  unfold qi
  simp only[h1,ah,tE,h3,BN]
  unfold gT
  cases m:st.any (same x (dy u x)) with
  |true=>exact ⟨rfl,by simp only[cond_true];omega⟩
  |false=>
   simp only[cond_false,aG,ah,c]
   unfold cB
   rw[if_pos (by simp;omega)]
   exact ⟨rfl,by simp;omega⟩)
 rw[this.1]
 rfl
theorem tJ:kP u s=some (foldI (gM u s) 0 u.props ⟨0,0⟩,decide (0<(u.props.length:Int))):=by
 have k:=F.props
 unfold kP
 have:=kT (f:=tg u s) (g:=gM u s) (I:=fun i b=>i=0\/SR b) (fun b i=>(i,b)) u.props (by omega) (fun i x b c d=>by
  have l:i<u.props.length:=(List.getElem?_eq_some_iff.1 c).1
  obtain ⟨r,h1,h2,h3,h,m,j,a⟩:=xM F hs c
  unfold tg
  simp only
  rw[show decide ((i:Int)<(u.props.length:Int))=true by simp;omega]
  simp only[cond_true]
  rw[show bw u.props (i:Int)=some x by unfold bw;rw[if_pos (by omega)];simpa using c]
  have hw:IntKind.i64.wrap ((i:Int)+1)=((i+1:Nat):Int):=by rw[bR (by omega)];rfl
  simp only[ah,h2,h,j,hw]
  unfold gM
  by_cases h0:i=0
  ·subst h0
   have e:cZ (dW u s x) (dW u s x)=dW u s x:=by unfold cZ;rw[qD];rfl
   rw[show (((0:Nat):Int)==0)=true from rfl]
   simp only[cond_true,qE a a,e,if_pos]
   exact ⟨trivial,.inr a⟩
  ·have hb:SR b:=d.resolve_left h0
   rw[show (((i:Nat):Int)==0)=false by simp;omega]
   simp only[cond_false,qE hb a,if_neg h0]
   exact ⟨trivial,.inr (lU hb a)⟩) (fun b=>by unfold tg;simp) (⟨0,0⟩:av) (.inl rfl)
 rw[this.1]
 rfl
theorem tK:(u.props=[]/\jJ u s=some []/\kP u s=some (⟨0,0⟩,false))\/
  ∃st b,jJ u s=some st/\kP u s=some (b,true)/\Tp u s st b:=by
 have h1:=HB F hs
 have h2:=tJ F hs
 have h3:=HA F hs
 cases hp:u.props with
 |nil=>
  rw[hp] at h1 h2
  exact .inl ⟨rfl,h1,h2⟩
 |cons x l=>
  rw[hp] at h1 h2 h3
  refine .inr ⟨_,_,h1,?_,Tp.all x l h3⟩
  rw[h2]
  rw[show decide (0<((x::l).length:Int))=true by simp]
theorem BP {st:List bA}{b:av}(h:Tp u s st b):∃c l,st=c::l/\∃m,kF gN c l=some m/\m.high=b:=by
 obtain ⟨c,l,rfl⟩:∃c l,st=c::l:=by
  cases st with
  |nil=>exact absurd rfl h.ne
  |cons c l=>exact ⟨c,l,rfl⟩
 refine ⟨c,l,rfl,?_⟩
 have hg:=jR (f:=mO gN) (ρ:=bA) (g:=gC) (I:=fun _ c=>SR c.high) l 0 c (h.le c (List.mem_cons_self ..)).2.1 (fun j x st e a=>by
  have d:SR x.high:=(h.le x (List.mem_cons_of_mem _ (List.mem_of_getElem? e))).2.1
  refine ⟨?_,?_⟩
  ·unfold mO gN gC
   simp only[(lT a d).2,ah]
   cases bP st.high x.high<;>rfl
  ·unfold gC
   cases bP st.high x.high
   ·exact a
   ·exact d)
 refine ⟨foldI gC 0 l c,?_,h.xN.symm⟩
 unfold kF
 rw[hg.1]
 rfl
end
theorem BQ {a b c:av}(d:0<a.den)(hb:0<b.den)(e:0<c.den)(h1:bP a b=false)(h2:bP b c=false):bP a c=false:=by
 cases h:bP a c with
 |false=>rfl
 |true=>
  have:=BM hb d e h1 h
  unfold bP at*
  simp only[decide_eq_false_iff_not,decide_eq_true_eq,Int.not_lt] at*
  have k1:b.num*a.den*c.den<=a.num*b.den*c.den:=Int.mul_le_mul_of_nonneg_right h1 (by omega)
  have f:a.num*c.den*b.den<c.num*a.den*b.den:=Int.mul_lt_mul_of_pos_right h hb
  have g:c.num*b.den*a.den<=b.num*c.den*a.den:=Int.mul_le_mul_of_nonneg_right h2 (by omega)
  have e1:a.num*b.den*c.den=a.num*c.den*b.den:=by grind
  have e2:c.num*b.den*a.den=c.num*a.den*b.den:=by grind
  have i:b.num*c.den*a.den=b.num*a.den*c.den:=by grind
  omega
theorem HC {a b c:av}(d:0<a.den)(hb:0<b.den)(e:0<c.den)(h1:bP a b=true)(h2:bP b c=true):bP a c=true:=by
 unfold bP at*
 simp only[decide_eq_true_eq] at*
 have k1:a.num*b.den*c.den<b.num*a.den*c.den:=Int.mul_lt_mul_of_pos_right h1 e
 have g:b.num*c.den*a.den<c.num*b.den*a.den:=Int.mul_lt_mul_of_pos_right h2 d
 have f:b.den*(a.num*c.den)<b.den*(c.num*a.den):=by
  have e1:b.den*(a.num*c.den)=a.num*b.den*c.den:=by grind
  have e2:b.den*(c.num*a.den)=c.num*b.den*a.den:=by grind
  have h:b.num*a.den*c.den=b.num*c.den*a.den:=by grind
  omega
 exact Int.lt_of_mul_lt_mul_left f (by omega)
theorem BR {e y:av}(he:SR e)(a:SR y):∀(l:List bA) (b:av),(∀x∈l,SR x.high)->SR b->∀(i j:Nat),
  foldI (fun _ (x:bA) st=>cZ st x.high) i l (cZ e b)=cZ e (foldI (fun _ (x:bA) st=>cZ st x.high) j l b)
 |[],b,_,_,i,j=>rfl
 |x::l,b,d,hb,i,j=>by
  unfold foldI
  have c:=d x (List.mem_cons_self ..)
  have key:cZ (cZ e b) x.high=cZ e (cZ b x.high):=by
   unfold cZ
   cases h1:bP e b<;>cases h2:bP b x.high<;>simp only[cond_true,cond_false,h1,h2]
   ·have:=BQ he.den.1 hb.den.1 c.den.1 h1 h2
    rw[this];rfl
   ·rw[HC he.den.1 hb.den.1 c.den.1 h1 h2]
    rfl
  rw[key]
  exact BR he a l _ (fun y a=>d y (List.mem_cons_of_mem _ a)) (lU hb c) (i+1) (j+1)
theorem BS:∀(l:List bA) (i:Nat) (c:bA),(foldI gC i l c).high=foldI (fun _ (x:bA) st=>cZ st x.high) i l c.high
 |[],_,_=>rfl
 |x::l,i,c=>by
  unfold foldI
  rw[BS l (i+1)]
  congr 1
  unfold gC cZ
  cases bP c.high x.high<;>rfl
theorem BT {a b:av}(c:SR a)(hb:SR b):iB eL a [b]=some (cZ a b):=by
 unfold iB bG qg
 simp only[(lT c hb).2,ah]
 unfold cZ
 cases bP a b<;>rfl
theorem HD {f:Nat->bA->av->Option (Fl av av)}(c:f=mS\/f=mT){st:List bA}(d:∀x∈st,SR x.high){e:av}(he:SR e):
  bG f 0 st e=some (.nx (foldI (fun _ (x:bA) st=>cZ st x.high) 0 st e))/\SR (foldI (fun _ (x:bA) st=>cZ st x.high) 0 st e):=
 jR (I:=fun _ r=>SR r) st 0 e he (fun j x r g a=>by
  have b:=d x (List.mem_of_getElem? g)
  rcases c with rfl|rfl
  ·unfold mS
   simp only[BT a b,ah]
   exact ⟨trivial,lU a b⟩
  ·unfold mT
   simp only[BT a b,ah]
   exact ⟨trivial,lU a b⟩)
end Go.Proofs.YtjepffnffjdloaaGreatDoor
end

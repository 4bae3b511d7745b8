/- A part of the proof of a row and its tied card: VS1. -/
import Derived.Test.YtjepffnffjdloaaGreatDoorQ10
set_option linter.all false
section
namespace Go.Proofs.YtjepffnffjdloaaGreatDoor
open Go Go.Sep Go.Proofs
set_option maxRecDepth 100000
set_option maxHeartbeats 4000000
attribute [go_sem] List.append_eq
set_option maxHeartbeats 40000000 in
theorem CK {Φ:Goroutine->af->Prop}(hJ:Closed Tryz.prog true (dm Tryz.prog Φ)){A:Act}{ro:Addr->Option Value}(u0:aj)(U:Int)(V:Int)(g:aP)(n:Int)(i:(ak×Bool×Int))(j:(ak×Bool×Int)){w z B C:Nat}(a:cT ro){W X D E:Value}(f:bG ro u0 W X D E)(du:sz A=287/\A.defers=[]/\slot A 3= .int .u8 U/\slot A 5= .int .u8 V/\slot A 6= .pointer (some ⟨C,0,none⟩)/\slot A 12= .bool false/\slot A 13= .pointer (some ⟨B,0,none⟩)/\slot A 14= .int .i64 (IntKind.i64.wrap (1+n))/\slot A 17= .pointer (some ⟨z,0,none⟩)/\slot A 18= .bool i.2.1/\slot A 20= .pointer (some ⟨w,0,none⟩)/\slot A 21= .bool j.2.1)(h:oB u0 U V g n i j=some true):Wp (dm Tryz.prog Φ) (bh (bh (bh (bh (bh (bh (bh (Tryz.f6.body.getD .skip)))))))) (gk Tryz.prog [.tmp 12] (fun v _=>v= .bool true)) A ⟨ro,(w,rt j.1.num j.1.den)::(z,rt i.1.num i.1.den)::(B,.cells #[.int .i64 g.back,.int .i64 g.high] 33)::(C,bk u0 W X D E)::[]⟩:=by
 obtain ⟨dv,hd,dC,dE,dT,ea,eb,ec,ed,eh,et,ev⟩:=du
 obtain ⟨d3,c4,rfl,h4,h5,-⟩:=id f.e
 obtain ⟨d10,Y,rfl,h6,h7,-⟩:=id f.p
 unfold oB at h
 have eQ:=f.oc;simp only[bx] at eQ
 refine e6 hJ fun eS q=>?_
 have e0:=eS.nd
 try simp only[keys,List.map_cons,List.map_nil,List.map_append,List.cons_append,List.nil_append,List.nodup_cons,List.mem_cons,List.mem_append,List.not_mem_nil,or_false,not_or] at e0
 replace F:=q.hd
 replace G:=q.tl.hd
 replace H:=q.tl.tl.hd
 replace I:=q.tl.tl.tl.hd
 simp only[bn] at q
 refine aa hJ (aa hJ (ag hJ ?_))
 try simp (maxSteps:=10000000) only[*,go_sem]
 revert h;refine cS (fun Z h=>?_) fun Z h=>?_
 ·try simp only[Int.ofNat_lt] at Z
  refine bM hJ (by simp (maxSteps:=10000000) only[*,go_sem]) ?_
  refine aa hJ (ag hJ ?_)
  revert h;refine bS fun h8 e1 h=>?_
  obtain rfl:=sI h
  try simp (maxSteps:=10000000) only[*,go_sem]
  refine jh _ (jI a e1) (aD ?_)
  try simp (maxSteps:=10000000) only[*,go_sem]
  refine aB ?_
  try simp only[*,go_sem]
 refine bJ hJ (by simp (maxSteps:=10000000) only[*,go_sem]) ?_
 refine aG hJ (aa hJ ?_)
 refine dh hJ mixed 26 4 (by simp (maxSteps:=10000000) only[*,go_sem]) (by kernel_rfl) ?_
 revert h;refine bS fun c e2 h=>?_
 obtain ⟨h9,ib,ab⟩:=cM e2
 obtain ⟨ad,e3,fa,fb,N⟩:=f.e.el _ _ ab
 obtain rfl:e3=c.cells:=fb
 cases fa
 have fg:=N 0 _ rfl;simp only[go_sem] at fg
 have fi:=N 1 _ rfl;simp only[go_sem] at fi
 clear N ab
 revert h;refine bS fun fp fr h=>?_
 obtain ⟨ih,ik,ae⟩:=cM fr
 obtain ⟨il,fs,ft,fu,O⟩:=f.e.el _ _ ae
 obtain rfl:fs=fp.cells:=fu
 cases ft
 have fv:=O 0 _ rfl;simp only[go_sem] at fv
 have fw:=O 1 _ rfl;simp only[go_sem] at fw
 clear O ae
 revert h;refine bS fun d al h=>?_
 obtain ⟨im,iv⟩:=jS al
 clear al
 try simp (maxSteps:=10000000) only[*,go_sem]
 refine aa hJ ?_
 refine ew [5,6,12,13,14,17,18,20,21,23] fun ix ao ar a0=>?_
 simp only[*,go_sem] at ao ar a0
 clear dv hd dC dE dT ea eb ec ed eh et ev
 refine aK hJ fun fx=>?_
 refine ag hJ ?_
 revert h;refine bS fun P gg h=>?_
 try simp (maxSteps:=10000000) only[*,go_sem]
 refine av fun J a2 a3=>?_;have a4:=aM.cons a3 fx;try simp only[au] at a3
 try simp (maxSteps:=10000000) only[*,go_sem]
 obtain ⟨Q,m,a5⟩:=eV (b:=J) (o:=(ic (IntKind.i64.wrap (c.ax+d)))) [] ((w,rt j.1.num j.1.den)::(z,rt i.1.num i.1.den)::(B,.cells #[.int .i64 g.back,.int .i64 g.high] 33)::(C,bk u0 (sl (some ad) u0.an c4) (sl d10 u0.props Y) D E)::[]) a4 a2 (ay.cons F (ay.cons G (ay.cons H (ay.cons I (ay.nil _)))))
 have a6:aA rI (bN ro J (ic (IntKind.i64.wrap (c.ax+d)))) (.slice (some ⟨J,0,none⟩) 1 1) [IntKind.i64.wrap (c.ax+d)]:=(aA.flat (r:=rI) (e:=3) (cs:=#[.int .i64 (IntKind.i64.wrap (c.ax+d))]) (fun x=>[.int .i64 x]) ([IntKind.i64.wrap (c.ax+d)]) (fun _=>rfl) a2 rfl (by simp))
 generalize bN ro J (ic (IntKind.i64.wrap (c.ax+d)))=jC at a6 m Q a5
 refine fS hJ a5 ?_
 replace f:=f.mono Q
 replace F:=m.hd
 replace G:=m.tl.hd
 replace H:=m.tl.tl.hd
 replace I:=m.tl.tl.tl.hd
 replace a:=a.mono Q
 simp only[bn] at m
 have gl:=aM.tl a4
 refine b8 hJ _ (wH u0 f ([IntKind.i64.wrap (c.ax+d)]) a6 (IntKind.i64.wrap (1+n)) gg) fun v a7 a8 s R=>?_
 obtain ⟨gn,gp,gB,gC,rfl,k⟩:=R
 have gM:=k.oc;simp only[bx] at gM
 replace f:=f.mono a8
 replace F:=s.hd
 replace G:=s.tl.hd
 replace H:=s.tl.tl.hd
 replace I:=s.tl.tl.tl.hd
 replace a:=a.mono a8
 simp only[bn] at s
 refine aD ?_
 try simp (maxSteps:=10000000) only[*,go_sem]
 refine av fun gT gV a9=>?_;have j1:=aM.cons a9 gl;try simp only[au] at a9
 try simp (maxSteps:=10000000) only[*,go_sem]
 refine aa hJ ?_
 refine aK hJ fun g0=>?_
 refine ag hJ ?_
 revert h;refine bS fun ba bb h=>?_
 obtain ⟨j2,kh⟩:=jS bb
 clear bb
 revert h;refine bS fun bc g1 h=>?_
 try simp (maxSteps:=10000000) only[*,go_sem]
 refine av fun K bd bj=>?_;have bl:=aM.cons bj g0;try simp only[au] at bj
 try simp (maxSteps:=10000000) only[*,go_sem]
 obtain ⟨L,bm,bo⟩:=eV (b:=K) (o:=(ic (IntKind.i64.wrap (c.ax+d)))) [] ((gT,bk P gn gp gB gC)::(w,rt j.1.num j.1.den)::(z,rt i.1.num i.1.den)::(B,.cells #[.int .i64 g.back,.int .i64 g.high] 33)::(C,bk u0 (sl (some ad) u0.an c4) (sl d10 u0.props Y) D E)::[]) bl bd (ay.cons gV (ay.cons F (ay.cons G (ay.cons H (ay.cons I (ay.nil _))))))
 have br:aA rI (bN a7 K (ic (IntKind.i64.wrap (c.ax+d)))) (.slice (some ⟨K,0,none⟩) 1 1) [IntKind.i64.wrap (c.ax+d)]:=(aA.flat (r:=rI) (e:=3) (cs:=#[.int .i64 (IntKind.i64.wrap (c.ax+d))]) (fun x=>[.int .i64 x]) ([IntKind.i64.wrap (c.ax+d)]) (fun _=>rfl) bd rfl (by simp))
 generalize bN a7 K (ic (IntKind.i64.wrap (c.ax+d)))=kj at br bm L bo
 refine fS hJ bo ?_
 replace f:=f.mono L
 replace k:=k.mono L
 replace a:=a.mono L
 simp only[bn] at bm
 have g2:=aM.tl bl
 refine b8 hJ _ (wH u0 f ([IntKind.i64.wrap (c.ax+d)]) br (if IntKind.i64.wrap ((IntKind.i64.wrap (1+n))+ba)<20 then IntKind.i64.wrap ((IntKind.i64.wrap (1+n))+ba) else 20) g1) fun v kk bs g3 R=>?_
 obtain ⟨kl,km,kn,kp,rfl,l⟩:=R
 have g4:=l.oc;simp only[bx] at g4
 replace k:=k.mono bs
 replace a:=a.mono bs
 simp only[bn] at g3
 obtain ⟨d156,ks,rfl,kt,kv,-⟩:=id l.e
 obtain ⟨d163,kx,rfl,ky,k0,-⟩:=id l.p
 obtain ⟨d170,k2,rfl,lb,lh,-⟩:=id l.y
 obtain ⟨d177,lj,rfl,lk,ll,-⟩:=id l.t
 refine aD ?_
 try simp (maxSteps:=10000000) only[*,go_sem]
 refine av fun ln lo bz=>?_;have ha:=aM.cons bz g2;try simp only[au] at bz
 try simp (maxSteps:=10000000) only[*,go_sem]
 refine aa hJ (ag hJ ?_)
 revert h;refine bS fun M hc h=>?_
 try simp (maxSteps:=10000000) only[*,go_sem]
 refine aR hJ _ (rX (a.mono aJ) P (k.mono aJ) g hc) (aD ?_)
 try simp (maxSteps:=10000000) only[*,go_sem]
 refine av fun lr lv b0=>?_;have hf:=aM.cons b0 ha;try simp only[au] at b0
 try simp (maxSteps:=10000000) only[*,go_sem]
 refine aa hJ ?_
 refine ew [12,13,16,17,18,20,21,24,25,26,27] fun lx b1 b2 b3=>?_
 simp only[*,go_sem] at b1 b2 b3
 clear ao ar a0
 refine ag hJ ?_
 revert h;refine bS fun S hg h=>?_
 try simp (maxSteps:=10000000) only[*,go_sem]
 refine aR hJ _ (rX (a.mono aJ) bc (l.mono aJ) g hg) (aD ?_)
 try simp (maxSteps:=10000000) only[*,go_sem]
 refine av fun ly lL b4=>?_;have hh:=aM.cons b4 hf;try simp only[au] at b4
 try simp (maxSteps:=10000000) only[*,go_sem]
 refine aa hJ (ag hJ ?_)
 revert h;refine bS fun u hi h=>?_
 try simp (maxSteps:=10000000) only[*,go_sem]
 refine aR hJ _ (k4 (a.mono aJ) P (k.mono aJ) g hi) (aD ?_)
 try simp (maxSteps:=10000000) only[*,go_sem]
 refine av fun l1 l2 b5=>?_;have hj:=aM.cons b5 hh;try simp only[au] at b5
 try simp (maxSteps:=10000000) only[*,go_sem]
 refine aa hJ (ag hJ ?_)
 revert h;refine bS fun T hk h=>?_
 try simp (maxSteps:=10000000) only[*,go_sem]
 refine aR hJ _ (k4 (a.mono aJ) bc (l.mono aJ) g hk) (aD ?_)
 try simp (maxSteps:=10000000) only[*,go_sem]
 refine av fun l3 l4 ca=>?_;have ma:=aM.cons ca hj;try simp only[au] at ca
 try simp (maxSteps:=10000000) only[*,go_sem]
 refine aa hJ (aa hJ ?_)
 refine ew [12,16,17,18,19,20,21,22,26,27,28,29,30,31,32,33,34] fun mf cb cd cf=>?_
 simp only[*,go_sem] at cb cd cf
 clear b1 b2 b3
 refine ag hJ ?_
 revert h;refine cS (fun hl h=>?_) fun hl h=>?_
 ·cases h
 revert h;refine cS (fun hn h=>?_) fun hn h=>?_
 ·cases h
 revert h;refine cS (fun ho h=>?_) fun ho h=>?_
 ·cases h
 revert h;refine cS (fun hp h=>?_) fun hp h=>?_
 ·cases h
 revert h;refine cS (fun cl h=>?_) fun cl h=>?_
 ·cases h
 rw[Bool.not_eq_false'] at cl
 revert h;refine cS (fun cy h=>?_) fun cy h=>?_
 ·cases h
 rw[Bool.not_eq_false'] at cy
 revert h;refine bS fun mi hq h=>?_
 try simp (maxSteps:=10000000) only[*,go_sem]
 refine aR hJ _ (iO M.1 hq) (aD ?_)
 revert h;refine cS (fun c0 h=>?_) fun c0 h=>?_
 ·cases h
 rw[Bool.not_eq_false'] at c0
 revert h;refine bS fun ml hr h=>?_
 try simp (maxSteps:=10000000) only[*,go_sem]
 refine aR hJ _ (iO S.1 hr) (aD ?_)
 revert h;refine cS (fun da h=>?_) fun da h=>?_
 ·cases h
 rw[Bool.not_eq_false'] at da
 revert h;refine bS fun mn hs h=>?_
 try simp (maxSteps:=10000000) only[*,go_sem]
 refine aR hJ _ (iO u.1 hs) (aD ?_)
 revert h;refine cS (fun db h=>?_) fun db h=>?_
 ·cases h
 rw[Bool.not_eq_false'] at db
 revert h;refine bS fun mr ht h=>?_
 try simp (maxSteps:=10000000) only[*,go_sem]
 refine aR hJ _ (iO T.1 ht) (aD ?_)
 try simp (maxSteps:=10000000) only[*,go_sem]
 revert h;refine cS (fun dd h=>?_) fun dd h=>?_
 ·cases h
 refine bJ hJ (by simp (maxSteps:=10000000) only[*,go_sem]) ?_
 rw[Bool.not_eq_false'] at dd
 refine aG hJ (aa hJ ?_)
 refine aa hJ ?_
 refine ew [12,17,18,20,21,26,28,30,31,32,33] fun mx hv hx hy=>?_
 simp only[*,go_sem] at hv hx hy
 clear cb cd cf
 refine ag hJ ?_
 revert h;refine cS (fun hz h=>?_) fun hz h=>?_
 ·revert h;refine bS fun my hA h=>?_
  try simp (maxSteps:=10000000) only[*,go_sem]
  refine aR hJ _ (kg M.1 j.1 hA) (aD ?_)
  revert h;refine cS (fun hB h=>?_) fun hB h=>?_
  ·cases h
  revert h;refine bS fun m1 hD h=>?_
  try simp (maxSteps:=10000000) only[*,go_sem]
  refine aR hJ _ (kg S.1 M.1 hD) (aD ?_)
  revert h;refine cS (fun hE h=>?_) fun hE h=>?_
  ·cases h
  revert h;refine bS fun m2 hF h=>?_
  try simp (maxSteps:=10000000) only[*,go_sem]
  refine aR hJ _ (kg i.1 u.1 hF) (aD ?_)
  revert h;refine cS (fun hG h=>?_) fun hG h=>?_
  ·cases h
  revert h;refine bS fun na hI h=>?_
  try simp (maxSteps:=10000000) only[*,go_sem]
  refine aR hJ _ (kg u.1 T.1 hI) (aD ?_)
  try simp (maxSteps:=10000000) only[*,go_sem]
  revert h;refine cS (fun hK h=>?_) fun hK h=>?_
  ·cases h
  refine bJ hJ (by simp (maxSteps:=10000000) only[*,go_sem]) ?_
  refine aG hJ (aa hJ ?_)
  refine ag hJ ?_
  revert h;refine cS (fun hL h=>?_) fun hL h=>?_
  ·revert h;refine cS (fun hM h=>?_) fun hM h=>?_
   ·revert h;refine bS fun nb hN h=>?_
    obtain rfl:=sI h
    try simp (maxSteps:=10000000) only[*,go_sem]
    refine jh _ (jI a hN) (aD ?_)
    try simp (maxSteps:=10000000) only[*,go_sem]
    refine aB ?_
    try simp only[*,go_sem]
   revert h;refine cS (fun df h=>?_) fun df h=>?_
   ·rw[Bool.not_eq_true'] at df
    revert h;refine bS fun nf hP h=>?_
    obtain rfl:=sI h
    try simp (maxSteps:=10000000) only[*,go_sem]
    refine jh _ (jI a hP) (aD ?_)
    try simp (maxSteps:=10000000) only[*,go_sem]
    refine aB ?_
    try simp only[*,go_sem]
   cases h
  revert h;refine cS (fun dk h=>?_) fun dk h=>?_
  ·rw[Bool.not_eq_true'] at dk
   revert h;refine cS (fun dp h=>?_) fun dp h=>?_
   ·rw[Bool.not_eq_true'] at dp
    revert h;refine bS fun nm hQ h=>?_
    obtain rfl:=sI h
    try simp (maxSteps:=10000000) only[*,go_sem]
    refine jh _ (jI a hQ) (aD ?_)
    try simp (maxSteps:=10000000) only[*,go_sem]
    refine aB ?_
    try simp only[*,go_sem]
   cases h
  cases h
 revert h;refine bS fun nn hR h=>?_
 try simp (maxSteps:=10000000) only[*,go_sem]
 refine aR hJ _ (kg S.1 M.1 hR) (aD ?_)
 revert h;refine cS (fun hS h=>?_) fun hS h=>?_
 ·cases h
 revert h;refine bS fun np hT h=>?_
 try simp (maxSteps:=10000000) only[*,go_sem]
 refine aR hJ _ (kg i.1 u.1 hT) (aD ?_)
 revert h;refine cS (fun hV h=>?_) fun hV h=>?_
 ·cases h
 revert h;refine bS fun ns hX h=>?_
 try simp (maxSteps:=10000000) only[*,go_sem]
 refine aR hJ _ (kg u.1 T.1 hX) (aD ?_)
 try simp (maxSteps:=10000000) only[*,go_sem]
 revert h;refine cS (fun hY h=>?_) fun hY h=>?_
 ·cases h
 refine bJ hJ (by simp (maxSteps:=10000000) only[*,go_sem]) ?_
 refine aG hJ (aa hJ ?_)
 refine ag hJ ?_
 revert h;refine cS (fun hZ h=>?_) fun hZ h=>?_
 ·revert h;refine cS (fun h0 h=>?_) fun h0 h=>?_
  ·revert h;refine bS fun nx h1 h=>?_
   obtain rfl:=sI h
   try simp (maxSteps:=10000000) only[*,go_sem]
   refine jh _ (jI a h1) (aD ?_)
   try simp (maxSteps:=10000000) only[*,go_sem]
   refine aB ?_
   try simp only[*,go_sem]
  revert h;refine cS (fun dq h=>?_) fun dq h=>?_
  ·rw[Bool.not_eq_true'] at dq
   revert h;refine bS fun nz h2 h=>?_
   obtain rfl:=sI h
   try simp (maxSteps:=10000000) only[*,go_sem]
   refine jh _ (jI a h2) (aD ?_)
   try simp (maxSteps:=10000000) only[*,go_sem]
   refine aB ?_
   try simp only[*,go_sem]
  cases h
 revert h;refine cS (fun ds h=>?_) fun ds h=>?_
 ·rw[Bool.not_eq_true'] at ds
  revert h;refine cS (fun dt h=>?_) fun dt h=>?_
  ·rw[Bool.not_eq_true'] at dt
   revert h;refine bS fun nA h3 h=>?_
   obtain rfl:=sI h
   try simp (maxSteps:=10000000) only[*,go_sem]
   refine jh _ (jI a h3) (aD ?_)
   try simp (maxSteps:=10000000) only[*,go_sem]
   refine aB ?_
   try simp only[*,go_sem]
  cases h
 cases h
set_option maxHeartbeats 40000000 in
theorem J4 {ro:Addr->Option Value}(b:cT ro)(u0:aj){s1 q s t:Value}(a:bG ro u0 s1 q s t)(l:Int)(m:Int)(g:Int)(u:Int)(i:Int){r:Bool}(G:r=true)(h:tG u0 l m g u i=some r):ji Tryz.prog 6 #[bv u0 s1 q s t,.int .u8 l,.int .u8 m,.int .u8 g,.int .u8 u,.int .u8 i] ⟨ro,[]⟩ (fun v _=>v= .bool r):=by
 obtain ⟨d10,ba,rfl,bb,bc,-⟩:=id a.p
 subst G
 unfold tG at h
 have H:=a.oc;simp only[bx] at H
 refine ji.go Tryz.func6 rfl Tryz.ntmps6 Tryz.results6 (by simp) (by kernel_rfl) fun Φ hJ A I hd hs=>?_
 have J:=hs 0
 have k1:=hs 1
 have K:=hs 2
 have L:=hs 3
 have M:=hs 4
 have N:=hs 5
 clear hs
 refine aa hJ (ag hJ ?_)
 try simp (maxSteps:=10000000) only[*,go_sem]
 refine av fun bd bj O=>?_;try simp only[au] at O
 try simp (maxSteps:=10000000) only[*,go_sem]
 refine aa hJ (aa hJ (ag hJ ?_))
 revert h;refine bS fun bk P h=>?_
 try simp (maxSteps:=10000000) only[*,go_sem]
 refine aR hJ _ (AA u0 (a.mono aJ) P) (aD ?_)
 try simp (maxSteps:=10000000) only[*,go_sem]
 revert h;refine cS (fun j h=>?_) fun j h=>?_
 ·try simp only[Int.ofNat_lt] at j
  refine bM hJ (by simp (maxSteps:=10000000) only[*,go_sem]) ?_
  rw[Bool.not_eq_true'] at j
  refine aa hJ (ag hJ ?_)
  revert h;refine bS fun bl Q h=>?_
  obtain rfl:=sI h
  try simp (maxSteps:=10000000) only[*,go_sem]
  refine jh _ (jI b Q) (aD ?_)
  try simp (maxSteps:=10000000) only[*,go_sem]
  refine aB ?_
  try simp only[*,go_sem]
 refine bJ hJ (by simp (maxSteps:=10000000) only[*,go_sem]) ?_
 rw[Bool.not_eq_false'] at j
 refine aG hJ (aa hJ ?_)
 refine ag hJ ?_
 revert h;refine bS fun d R h=>?_
 try simp (maxSteps:=10000000) only[*,go_sem]
 refine aR hJ _ (AB l m R) (aD ?_)
 revert h;refine bS fun w x h=>?_
 obtain ⟨bm,bo⟩:=jS x
 clear x
 try simp (maxSteps:=10000000) only[*,go_sem]
 refine av fun br bs S=>?_;try simp only[au] at S
 try simp (maxSteps:=10000000) only[*,go_sem]
 refine aa hJ (ag hJ ?_)
 revert h;refine bS fun n T h=>?_
 try simp (maxSteps:=10000000) only[*,go_sem]
 refine aR hJ _ (nv (b.mono aJ) u0 (a.mono aJ) d T) (aD ?_)
 try simp (maxSteps:=10000000) only[*,go_sem]
 refine av fun bz b0 U=>?_;try simp only[au] at U
 try simp (maxSteps:=10000000) only[*,go_sem]
 refine aa hJ (ag hJ ?_)
 revert h;refine bS fun e V h=>?_
 try simp (maxSteps:=10000000) only[*,go_sem]
 refine aR hJ _ (k4 (b.mono aJ) u0 (a.mono aJ) d V) (aD ?_)
 try simp (maxSteps:=10000000) only[*,go_sem]
 refine av fun b1 b2 W=>?_;try simp only[au] at W
 try simp (maxSteps:=10000000) only[*,go_sem]
 refine aa hJ ?_
 refine ew [3,5,6,12,13,14,15,16,17,18,19] fun b3 X Y Z=>?_
 simp only[*,go_sem] at X Y Z
 clear I hd J k1 K L M N
 refine ag hJ ?_
 revert h;refine bS fun o ab h=>?_
 try simp (maxSteps:=10000000) only[*,go_sem]
 refine aR hJ _ (rX (b.mono aJ) u0 (a.mono aJ) d ab) (aD ?_)
 try simp (maxSteps:=10000000) only[*,go_sem]
 refine av fun b4 b5 ad=>?_;try simp only[au] at ad
 try simp (maxSteps:=10000000) only[*,go_sem]
 refine aa hJ (aa hJ ?_)
 refine dh hJ mixed 70 5 (by simp (maxSteps:=10000000) only[*,go_sem]) (by kernel_rfl) ?_
 revert h;refine cS (fun ae h=>?_) fun ae h=>?_
 ·cases h
 revert h;refine cS (fun al h=>?_) fun al h=>?_
 ·cases h
 revert h;refine cS (fun ao h=>?_) fun ao h=>?_
 ·cases h
 revert h;refine bS fun ca ar h=>?_
 try simp (maxSteps:=10000000) only[*,go_sem]
 refine ⟨_,bA hJ fun F c=>iO n.1 ar,bV ?_⟩
 revert h;refine cS (fun y h=>?_) fun y h=>?_
 ·cases h
 rw[Bool.not_eq_false'] at y
 revert h;refine bS fun cb a0 h=>?_
 try simp (maxSteps:=10000000) only[*,go_sem]
 refine ⟨_,bA hJ fun F c=>iO e.1 a0,bV ?_⟩
 revert h;refine cS (fun z h=>?_) fun z h=>?_
 ·cases h
 rw[Bool.not_eq_false'] at z
 revert h;refine cS (fun a2 h=>?_) fun a2 h=>?_
 ·cases h
 revert h;refine bS fun a3 a4 h=>?_
 try simp (maxSteps:=10000000) only[*,go_sem]
 refine ⟨_,bA hJ fun F c=>AD n.1 a4,bV ?_⟩
 revert h;refine bS fun cd a5 h=>?_
 try simp (maxSteps:=10000000) only[*,go_sem]
 refine ⟨_,bA hJ fun F c=>kg a3 e.1 a5,bV ?_⟩
 revert h;refine cS (fun a6 h=>?_) fun a6 h=>?_
 ·cases h
 revert h;refine bS fun cf a7 h=>?_
 try simp (maxSteps:=10000000) only[*,go_sem]
 refine ⟨_,bA hJ fun F c=>kg u0.aE e.1 a7,bV ?_⟩
 revert h;refine cS (fun B h=>?_) fun B h=>?_
 ·cases h
 rw[Bool.not_eq_false'] at B
 revert h;refine cS (fun k h=>?_) fun k h=>?_
 ·cases h
 rw[Bool.not_eq_false'] at k
 revert h;refine cS (fun f h=>?_) fun f h=>?_
 ·rw[Bool.not_eq_true'] at f
  try rw[f] at k
  revert h;refine bS fun cl a8 h=>?_
  try simp (maxSteps:=10000000) only[*,go_sem]
  refine ⟨_,bA hJ fun F c=>AD n.1 a8,bV ?_⟩
  revert h;refine cS (fun C h=>?_) fun C h=>?_
  ·cases h
  rw[Bool.not_eq_false'] at C
  revert h;refine cS (fun D h=>?_) fun D h=>?_
  ·cases h
  rw[Bool.not_eq_false'] at D
  try simp (maxSteps:=10000000) only[*,go_sem]
  refine bJ hJ (by simp (maxSteps:=10000000) only[*,go_sem]) ?_
  refine aG hJ ?_
  show Wp _ _ _ _ _
  exact cu hJ (Le.sub (.cons₂ _ (.cons₂ _ (.cons _ (.cons₂ _ (.cons₂ _ (List.Sublist.refl _))))))) (CK hJ u0 g i d w e o b a (by simp (maxSteps:=10000000) only[*,go_sem]) h)
 rw[Bool.not_eq_false'] at f
 try rw[f] at k
 revert h;refine bS fun cy a9 h=>?_
 try simp (maxSteps:=10000000) only[*,go_sem]
 refine ⟨_,bA hJ fun F c=>iO o.1 a9,bV ?_⟩
 try simp (maxSteps:=10000000) only[*,go_sem]
 revert h;refine cS (fun E h=>?_) fun E h=>?_
 ·cases h
 refine bJ hJ (by simp (maxSteps:=10000000) only[*,go_sem]) ?_
 rw[Bool.not_eq_false'] at E
 refine aG hJ ?_
 show Wp _ _ _ _ _
 exact cu hJ (Le.sub (.cons₂ _ (.cons₂ _ (.cons _ (.cons₂ _ (.cons₂ _ (List.Sublist.refl _))))))) (CK hJ u0 g i d w e o b a (by simp (maxSteps:=10000000) only[*,go_sem]) h)
end Go.Proofs.YtjepffnffjdloaaGreatDoor
end

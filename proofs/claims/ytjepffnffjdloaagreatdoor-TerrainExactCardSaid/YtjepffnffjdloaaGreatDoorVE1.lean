/- A part of the proof of a row and its tied card: VE1. -/
import Derived.Test.YtjepffnffjdloaaGreatDoorQ10
set_option linter.all false
section
namespace Go.Proofs.YtjepffnffjdloaaGreatDoor
open Go Go.Sep Go.Proofs
set_option maxRecDepth 100000
set_option maxHeartbeats 4000000
def DH (u0:ak)(d:bH)(e:Int)(b:(av×Int))(st:(Bool×Int)):Option (Fl (Bool×Int) Bool):=
 cond (decide ((IntKind.i64.wrap (st.2+1))<(u0.aj.length:Int))) (ah (bw u0.aj st.2) fun a=>ah (bw u0.aj (IntKind.i64.wrap (st.2+1))) fun c=>ah (dI (IntKind.i64.wrap (d.an+e)) a.an c.an) fun f=>cond (f) (cond (((IntKind.i64.wrap ((IntKind.i64.wrap (b.1.num - (IntKind.i64.wrap (a.high*b.1.den))))*(IntKind.i64.wrap (c.an - a.an)))) != (IntKind.i64.wrap ((IntKind.i64.wrap ((IntKind.i64.wrap (c.high - a.high))*(IntKind.i64.wrap ((IntKind.i64.wrap (d.an+e)) - a.an))))*b.1.den)))) (some (.rt false)) (some (.nx (st.1,(IntKind.i64.wrap (st.2+1)))))) (some (.nx (st.1,(IntKind.i64.wrap (st.2+1)))))) (some (.bk (st.1,st.2)))
def pe (u0:ak)(a:aO)(b:(Int×av×Int))(st:(Bool×Int)):Option (Fl (Bool×Int) Bool):=
 cond (decide (st.2<(u0.aj.length:Int))) (ah (bw u0.aj st.2) fun c=>cond ((st.2==b.1)) (cond (((IntKind.i64.wrap ((IntKind.i64.wrap (b.2.1.num - (IntKind.i64.wrap (a.high*b.2.1.den))))*(IntKind.i64.wrap (c.an+a.back)))) != (IntKind.i64.wrap ((IntKind.i64.wrap ((IntKind.i64.wrap (c.high - a.high))*(IntKind.i64.wrap (u0.aZ+a.back))))*b.2.1.den)))) (some (.rt false)) (cond (decide ((IntKind.i64.wrap ((IntKind.i64.wrap (b.2.1.num - (IntKind.i64.wrap (a.high*b.2.1.den))))*(IntKind.i64.wrap (c.an+a.back))))<(IntKind.i64.wrap ((IntKind.i64.wrap ((IntKind.i64.wrap (c.high - a.high))*(IntKind.i64.wrap (u0.aZ+a.back))))*b.2.1.den)))) (some (.rt false)) (cond (decide (st.2<b.1)) (cond (((IntKind.i64.wrap ((IntKind.i64.wrap ((IntKind.i64.wrap (c.high - a.high))*(IntKind.i64.wrap (u0.aZ+a.back))))*b.2.1.den))==(IntKind.i64.wrap ((IntKind.i64.wrap (b.2.1.num - (IntKind.i64.wrap (a.high*b.2.1.den))))*(IntKind.i64.wrap (c.an+a.back)))))) (some (.rt false)) (some (.nx (st.1,(IntKind.i64.wrap (st.2+1)))))) (some (.nx (st.1,(IntKind.i64.wrap (st.2+1)))))))) (cond (decide ((IntKind.i64.wrap ((IntKind.i64.wrap (b.2.1.num - (IntKind.i64.wrap (a.high*b.2.1.den))))*(IntKind.i64.wrap (c.an+a.back))))<(IntKind.i64.wrap ((IntKind.i64.wrap ((IntKind.i64.wrap (c.high - a.high))*(IntKind.i64.wrap (u0.aZ+a.back))))*b.2.1.den)))) (some (.rt false)) (cond (decide (st.2<b.1)) (cond (((IntKind.i64.wrap ((IntKind.i64.wrap ((IntKind.i64.wrap (c.high - a.high))*(IntKind.i64.wrap (u0.aZ+a.back))))*b.2.1.den))==(IntKind.i64.wrap ((IntKind.i64.wrap (b.2.1.num - (IntKind.i64.wrap (a.high*b.2.1.den))))*(IntKind.i64.wrap (c.an+a.back)))))) (some (.rt false)) (some (.nx (st.1,(IntKind.i64.wrap (st.2+1)))))) (some (.nx (st.1,(IntKind.i64.wrap (st.2+1)))))))) (some (.bk (st.1,st.2)))
def uH (u0:ak)(d:bH)(e:Int)(b:(av×Int))(st:(Bool×Int)):Option (Fl (Bool×Int) Bool):=
 cond (decide ((IntKind.i64.wrap (st.2+1))<(u0.aj.length:Int))) (ah (bw u0.aj st.2) fun a=>ah (bw u0.aj (IntKind.i64.wrap (st.2+1))) fun c=>ah (dI (IntKind.i64.wrap (d.an+e)) a.an c.an) fun f=>cond (f) (cond (((IntKind.i64.wrap ((IntKind.i64.wrap (b.1.num - (IntKind.i64.wrap (a.high*b.1.den))))*(IntKind.i64.wrap (c.an - a.an)))) != (IntKind.i64.wrap ((IntKind.i64.wrap ((IntKind.i64.wrap (c.high - a.high))*(IntKind.i64.wrap ((IntKind.i64.wrap (d.an+e)) - a.an))))*b.1.den)))) (some (.rt false)) (some (.nx (st.1,(IntKind.i64.wrap (st.2+1)))))) (some (.nx (st.1,(IntKind.i64.wrap (st.2+1)))))) (some (.bk (st.1,st.2)))
def uI (u0:ak)(h:Int)(i:Int)(j:Int):Option Bool:=
 ah (kO u0) fun k=>cond (!k) (ah (eH) fun l=>some l) (ah (oF h i) fun c=>ah (om u0 c) fun a=>ah (lM u0 c) fun b=>cond ((a.2.2 != 0)) (some false) (cond ((b.2 != 0)) (some false) (ah (dI a.1 0 (IntKind.i64.wrap ((u0.aj.length:Int) - 1))) fun m=>cond (!m) (some false) (ah (jP a.2.1) fun n=>cond (!n) (some false) (ah (jP b.1) fun p=>cond (!p) (some false) (ah (fT u0.bD 1) fun q=>ah (hU q a.2.1) fun f=>cond (!((f.num==b.1.num)&&(f.den==b.1.den))) (some false) (ah (bg (pe u0 c a) fu (false,0)) fun o=>aG o (fun s=>ah (bw u0.aj 0) fun d=>ah (bw u0.aj (IntKind.i64.wrap ((u0.aj.length:Int) - 1))) fun t=>ah (eO (IntKind.i64.wrap j) (IntKind.i64.wrap ((IntKind.i64.wrap (t.an - d.an))+1))) fun g=>ah (lK u0 (IntKind.i64.wrap (d.an+g))) fun e=>cond ((e.2 != 0)) (some false) (ah (jP e.1) fun u=>cond (!u) (some false) (ah (bg (uH u0 d g e) fu (s.1,0)) fun o=>aG o (fun w=>ah (eH) fun v=>some v) (fun _ _=>none) (fun r=>some r)))) (fun _ _=>none) (fun r=>some r))))))))
theorem fc {n:Int}(h:n.natAbs<=1000000000000):IntKind.i64.wrap n=n:=bR (by omega)
section
variable {u : ak} {s : aO} (F : Fit u) (hs : (1 ≤ s.back ∧ s.back ≤ 20) ∧ 0 ≤ s.high ∧ s.high ≤ 60)
include F hs
theorem Lt {x:av}(a:Sm x 10000 100){f:Int}(b:0<=f/\f<=60):IntKind.i64.wrap ((IntKind.i64.wrap (x.num - (IntKind.i64.wrap (s.high*x.den))))*(IntKind.i64.wrap (f+s.back)))=(x.num - s.high*x.den)*(f+s.back):=by
 have hn:=a.num
 have hd:=a.den
 have c:(s.high*x.den).natAbs<=60*100:=cJ (by omega) (by omega)
 have b2:((x.num - s.high*x.den)*(f+s.back)).natAbs<=16000*80:=cJ (by omega) (by omega)
 rw[fc (n:=s.high*x.den) (by omega),fc (n:=x.num - s.high*x.den) (by omega),fc (n:=f+s.back) (by omega),fc (by omega)]
theorem Lu {x:av}(a:Sm x 10000 100){h:Int}(c:0<=h/\h<=60):IntKind.i64.wrap ((IntKind.i64.wrap ((IntKind.i64.wrap (h - s.high))*(IntKind.i64.wrap (u.aZ+s.back))))*x.den)=(h - s.high)*(u.aZ+s.back)*x.den:=by
 have hd:=a.den
 have d:=F.aZ
 have b:((h - s.high)*(u.aZ+s.back)).natAbs<=60*80:=cJ (by omega) (by omega)
 have b2:((h - s.high)*(u.aZ+s.back)*x.den).natAbs<=60*80*100:=cJ b (by omega)
 rw[fc (n:=h - s.high) (by omega),fc (n:=u.aZ+s.back) (by omega),fc (n:=(h - s.high)*(u.aZ+s.back)) (by omega),fc (by omega)]
theorem Lv {n:Nat}{x:av}(a:Sm x 10000 100)(K:∀(i:Nat) p,u.aj[i]?=some p->
  (i=n->(x.num - s.high*x.den)*(p.an+s.back)=(p.high - s.high)*(u.aZ+s.back)*x.den)/\(p.high - s.high)*(u.aZ+s.back)*x.den<=(x.num - s.high*x.den)*(p.an+s.back)/\
  (i<n->(p.high - s.high)*(u.aZ+s.back)*x.den<(x.num - s.high*x.den)*(p.an+s.back))) (st:Bool):
  bg (pe u s ((n:Int),x,(0:Int))) fu (st,0)=some (.nx (st,(u.aj.length:Int))):=by
 have g:=F.aj
 have h:=F.aZ
 refine y8 u.aj (by omega) (fun i p s' hp j=>?_) (fun s'=>?_) st
 ·have fp:=F.dn i p hp
  obtain ⟨k1,b,e⟩:=K i p hp
  unfold pe
  rw[show decide ((s',(i:Int)).2<(u.aj.length:Int))=true by simp;omega]
  simp only[cond_true,gy hp,ah]
  rw[Lt F hs a (f:=p.an) (by omega),Lu F hs a fp.2]
  rw[decide_eq_false (Int.not_lt.2 b)]
  by_cases c:i=n
  ·have k:=k1 c
   subst c
   rw[k]
   simp
  ·rw[show ((i:Int)==(n:Int))=false by simp;omega]
   simp only[cond_false]
   by_cases d:i<n
   ·have k:=e d
    rw[show decide ((i:Int)<(n:Int))=true by simp;omega,show ((p.high - s.high)*(u.aZ+s.back)*x.den==(x.num - s.high*x.den)*(p.an+s.back))=false by rw[beq_eq_false_iff_ne];omega]
    rfl
   ·rw[show decide ((i:Int)<(n:Int))=false by simp;omega]
    rfl
 ·unfold pe
  simp
omit hs
theorem Lx {a:bH}{r k:Int}{g:av}(f:IntKind.i64.wrap (a.an+r)=k)(j:0<=k/\k<=60)(hg:Sm g 7200 60)(K:∀(i:Nat) (x y:bH),u.aj[i]?=some x->u.aj[i+1]?=some y->x.an<=k->k<=y.an->(g.num - x.high*g.den)*(y.an - x.an)=(y.high - x.high)*(k - x.an)*g.den)(st:Bool):
  bg (uH u a r (g,(0:Int))) fu (st,0)=some (.nx (st,((u.aj.dropLast).length:Int))):=by
 have l:=F.aj
 have m:=F.aZ
 refine y8 u.aj.dropLast (by simp;omega) (fun i p s' hp h=>?_) (fun s'=>?_) st
 ·rw[List.length_dropLast] at h
  have b:u.aj[i]?=some (u.aj[i]'(by omega)):=List.getElem?_eq_getElem _
  have d:u.aj[i+1]?=some (u.aj[i+1]'(by omega)):=List.getElem?_eq_getElem _
  generalize u.aj[i]'(by omega)=x at b
  generalize u.aj[i+1]'(by omega)=y at d
  have o:=F.dn i x b
  have q:=F.dn _ y d
  have hn:=hg.num
  have hd:=hg.den
  have hi:bw u.aj ((i:Int)+1)=some y:=gy d
  have k1:=K i x y b d
  unfold uH
  simp only[f]
  rw[fc (n:=(i:Int)+1) (by omega),show decide ((i:Int)+1<(u.aj.length:Int))=true by simp;omega]
  simp only[cond_true,gy b,hi,ah,eu]
  cases c:bJ k x.an y.an with
  |false=>rfl
  |true=>
   have c:=dV.1 c
   have s:(x.high*g.den).natAbs<=60*60:=cJ (by omega) (by omega)
   have t:((g.num - x.high*g.den)*(y.an - x.an)).natAbs<=10800*60:=cJ (by omega) (by omega)
   have b2:((y.high - x.high)*(k - x.an)).natAbs<=60*60:=cJ (by omega) (by omega)
   have b3:((y.high - x.high)*(k - x.an)*g.den).natAbs<=60*60*60:=cJ b2 (by omega)
   have e:=k1 c.1 c.2
   simp only[cond_true]
   rw[fc (n:=x.high*g.den) (by omega),fc (n:=g.num - x.high*g.den) (by omega),fc (n:=y.an - x.an) (by omega),fc (n:=y.high - x.high) (by omega),fc (n:=k - x.an) (by omega),fc (n:=(y.high - x.high)*(k - x.an)) (by omega),fc (n:=(y.high - x.high)*(k - x.an)*g.den) (by omega),fc (n:=(g.num - x.high*g.den)*(y.an - x.an)) (by omega),e]
   simp
 ·unfold uH
  rw[List.length_dropLast,fc (by omega),show decide (((u.aj.length - 1:Nat):Int)+1<(u.aj.length:Int))=false by simp;omega]
  rfl
end
theorem Ly (u:ak)(a:Int)(v:0<=a/\a<=255)(b:Int)(hb:0<=b/\b<=255)(c:Int)(w:0<=c/\c<=255):uI u a b c=some true:=by
 unfold uI
 rcases uG u with e|⟨e,L,h,F⟩
 ·simp only[e,ah,Bool.not_false,cond_true,gF]
 ·obtain ⟨s,es,hs⟩:=DD v hb
  obtain ⟨n,x,y,hn,K,M,A⟩:=HI F hs
  have N:=F.aj
  have d:=IM F h hs
  have f:=yf F h hs
  have i:=Lq F hs
  have j:=Ls F hs
  have k:=xS (qF F hs) (qC F hs)
  have l:=(y9 F hs).1
  rw[y] at d f i j k l
  simp only at d f i j k l
  obtain ⟨p,z,hp,m,ip,B,r,C,o,k1,q⟩:=DF F w
  have fp:=F.dn _ _ hp
  have O:=F.dn _ _ m
  have P:=F.aZ
  obtain ⟨g,D,-,t,E,G⟩:=B1 F hp m k1 q
  have H:=yg F h hp m k1 q D
  have I:jP g=some true:=y7 (t.mono (by decide) (by decide)) E
  have J:bJ (n:Int) 0 (IntKind.i64.wrap ((u.aj.length:Int) - 1))=true:=by rw[fc (by omega)];exact lX (by omega) (by omega)
  simp only[e,ah,Bool.not_true,cond_false,es,d,f,bne_self_eq_false,eu,J,i,j,show fT u.bD 1=some ⟨u.bD,1⟩ from rfl,k,beq_self_eq_true,Bool.and_self,Lv F hs l A,aG,ip,B,C,o,H,I,Lx F (r:=r) o (by omega) t G,gF]
theorem Lz {ro:Addr->Option Value}(o:cU ro)(u0:ak){s1 p q s:Value}(b:bI ro u0 s1 p q s)(D:Int)(E:Int)(Q:Int){r:Bool}(a2:r=true)(h:uI u0 D E Q=some r):fY Tryz.prog 3 #[bv u0 s1 p q s,.int .u8 D,.int .u8 E,.int .u8 Q] ⟨ro,[]⟩ (fun v _=>v= .bool r):=by
 obtain ⟨d3,c4,rfl,g2,g3,-⟩:=id b.e
 subst a2
 unfold uI at h
 refine fY.go Tryz.func3 rfl Tryz.ntmps3 Tryz.results3 (by simp) (by kernel_rfl) fun Φ hJ A a3 hd hs=>?_
 have a4:=hs 0
 have k1:=hs 1
 have a5:=hs 2
 have a6:=hs 3
 clear hs
 refine aa hJ (ag hJ ?_)
 simp only[*,go_sem]
 refine ax fun G g4 a7=>?_;try simp only[au] at a7
 try simp only[*,go_sem]
 refine aa hJ (aa hJ (ag hJ ?_))
 revert h;refine bS fun ha a8 h=>?_
 simp only[*,go_sem]
 refine aM hJ _ (s9 u0 (b.mono aH) a8) (aD ?_)
 try simp only[*,go_sem]
 revert h;refine jC hJ (by simp only[*,go_sem]) (fun a9 h=>?_) fun a9 h=>?_
 ·refine aa hJ (ag hJ ?_)
  revert h;refine bS fun hc ba h=>?_
  obtain rfl:=sI h
  simp only[*,go_sem]
  refine e6 _ (e9 o ba) (aD ?_)
  try simp only[*,go_sem]
  refine ay ?_
  simp only[*,go_sem]
 refine aF hJ (aa hJ ?_)
 refine ag hJ ?_
 revert h;refine bS fun d bb h=>?_
 simp only[*,go_sem]
 refine aM hJ _ (Bm D E bb) (aD ?_)
 try simp only[*,go_sem]
 refine ax fun H hf bc=>?_;try simp only[au] at bc
 try simp only[*,go_sem]
 refine aa hJ (ag hJ ?_)
 revert h;refine bS fun c bd h=>?_
 simp only[*,go_sem]
 refine aM hJ _ (A6 (o.mono aH) u0 (b.mono aH) d bd) (aD ?_)
 try simp only[*,go_sem]
 refine ax fun I hg bj=>?_;try simp only[au] at bj
 try simp only[*,go_sem]
 refine aa hJ (ag hJ ?_)
 revert h;refine bS fun g bl h=>?_
 simp only[*,go_sem]
 refine aM hJ _ (sO (o.mono aH) u0 (b.mono aH) d bl) (aD ?_)
 try simp only[*,go_sem]
 refine ax fun J hh bm=>?_;try simp only[au] at bm
 try simp only[*,go_sem]
 refine aa hJ (aa hJ ?_)
 refine cY hJ mixed 34 4 (by simp only[*,go_sem]) (by kernel_rfl) ?_
 revert h;refine cS (fun bo h=>?_) fun bo h=>?_
 ·cases h
 revert h;refine cS (fun br h=>?_) fun br h=>?_
 ·cases h
 revert h;refine bS fun hi bs h=>?_
 try simp only[*,go_sem]
 refine ⟨_,bE hJ fun F x=>fR c.1 0 (IntKind.i64.wrap ((u0.aj.length:Int) - 1)) bs,b9 ?_⟩
 revert h;refine cS (fun bz h=>?_) fun bz h=>?_
 ·cases h
 revert h;refine bS fun hj b0 h=>?_
 try simp only[*,go_sem]
 refine ⟨_,bE hJ fun F x=>xx c.2.1 b0,b9 ?_⟩
 revert h;refine cS (fun b1 h=>?_) fun b1 h=>?_
 ·cases h
 revert h;refine bS fun hk b2 h=>?_
 try simp only[*,go_sem]
 refine ⟨_,bE hJ fun F x=>xx g.1 b2,b9 ?_⟩
 revert h;refine cS (fun b3 h=>?_) fun b3 h=>?_
 ·cases h
 revert h;refine bS fun b4 b5 h=>?_
 try simp only[*,go_sem]
 refine ⟨_,bE hJ fun F x=>gQ u0.bD 1 b5,b9 ?_⟩
 revert h;refine bS fun hl ca h=>?_
 try simp only[*,go_sem]
 refine ⟨_,bE hJ fun F x=>GY b4 c.2.1 ca,b9 ?_⟩
 try simp only[*,go_sem]
 revert h;refine jC hJ (by simp only[*,go_sem]) (fun cb h=>?_) fun cb h=>?_
 ·cases h
 refine aF hJ (aa hJ ?_)
 refine aa hJ (ag hJ ?_)
 simp only[*,go_sem]
 refine aU hJ ?_
 revert h;refine bS fun cd y j=>?_
 refine bX hJ [8,15,16,17,18,79,80,81,82,83,84,85,86,87,88,89,90,91,92,93,94,95,96,97,98,99,100,101,102,103,104,105,106,107,108,109,110,111,112,113,114,115,116,117,118,119,120,121,122,123,124,125,126,127,128,129,130,131,132,133,134,135,136,137,138,139,140,141] (fun m t F'=>∃(f:Bool) (i:Int),bg (pe u0 d c) m (f,i)=some cd/\F'=⟨ro,(J,rt g.1.num g.1.den)::(I,rt c.2.1.num c.2.1.den)::(H,.cells #[.int .i64 d.back,.int .i64 d.high] 33)::(G,bk u0 (sl d3 u0.aj c4) p q s)::[]⟩/\slot t 8= .bool f/\slot t 15= .int .i64 i) fu ?_ ?_
 ·refine ⟨false,0,y,rfl,?_⟩
  simp only[*,go_sem]
 rintro k hn F' R ⟨f,i,y,rfl,cf,cl⟩
 obtain ⟨S,T,U⟩:=R.pick [3,4,9,10,11] (by decide)
 simp only[*,go_sem] at S T U
 clear R a3 hd a4 k1 a5 a6
 obtain _|k:=k
 ·exact absurd y (by simp only[bg,reduceCtorEq,not_false_eq_true])
 revert y;refine bS fun ho h a=>?_
 unfold pe at h
 try dsimp only at h
 refine aa hJ (aa hJ (ag hJ ?_))
 simp only[*,go_sem]
 revert h;refine jC hJ (by simp only[*,go_sem]) (fun cy h=>?_) fun cy h=>?_
 ·refine aF hJ (aa hJ ?_)
  refine aU hJ (aa hJ ?_)
  refine ag hJ ?_
  revert h;refine bS fun c0 da h=>?_
  obtain ⟨hp,hq,V⟩:=cw da
  obtain ⟨hr,db,dd,df,K⟩:=b.e.el _ _ V
  obtain rfl:db=c0.cells:=df
  cases dd
  have dk:=K 0 _ rfl;simp only[go_sem] at dk
  have dp:=K 1 _ rfl;simp only[go_sem] at dp
  clear K V
  try simp only[*,go_sem]
  refine ax fun ht hv dq=>?_;try simp only[au] at dq
  try simp only[*,go_sem]
  refine aa hJ ?_
  refine cY hJ mixed 30 5 (by simp only[*,go_sem]) (by kernel_rfl) ?_
  simp only[*,go_sem]
  refine aa hJ (ag hJ ?_)
  revert h;refine cS (fun ds h=>?_) fun ds h=>?_
  ·revert h;refine cS (fun dt h=>?_) fun dt h=>?_
   ·obtain rfl:=sI h
    try simp only[*,go_sem]
    refine bK hJ (by simp only[*,go_sem]) ?_
    refine aa hJ (ag hJ ?_)
    simp only[*,go_sem]
    obtain rfl:=sI a;clear a
    have h:=j
    dsimp only[aG] at h
    cases h
   revert h;refine cS (fun du h=>?_) fun du h=>?_
   ·obtain rfl:=sI h
    try simp only[*,go_sem]
    refine bK hJ (by simp only[*,go_sem]) ?_
    refine aa hJ (ag hJ ?_)
    simp only[*,go_sem]
    obtain rfl:=sI a;clear a
    have h:=j
    dsimp only[aG] at h
    cases h
   revert h;refine cS (fun dv h=>?_) fun dv h=>?_
   ·try simp only[*,go_sem]
    revert h;refine jC hJ (by simp only[*,go_sem]) (fun dC h=>?_) fun dC h=>?_
    ·obtain rfl:=sI h
     refine aa hJ (ag hJ ?_)
     simp only[*,go_sem]
     obtain rfl:=sI a;clear a
     have h:=j
     dsimp only[aG] at h
     cases h
    obtain rfl:=sI h
    refine aF hJ (ag hJ ?_)
    simp only[*,go_sem]
    refine ⟨k,Nat.lt_succ_self _,_,Le.sub (List.Sublist.cons _ (List.Sublist.refl _)),f,(IntKind.i64.wrap (i+1)),a,rfl,?_⟩
    simp only[*,go_sem]
   obtain rfl:=sI h
   try simp only[*,go_sem]
   refine bL hJ (by simp only[*,go_sem]) ?_
   refine aF hJ (ag hJ ?_)
   simp only[*,go_sem]
   refine ⟨k,Nat.lt_succ_self _,_,Le.sub (List.Sublist.cons _ (List.Sublist.refl _)),f,(IntKind.i64.wrap (i+1)),a,rfl,?_⟩
   simp only[*,go_sem]
  revert h;refine cS (fun dE h=>?_) fun dE h=>?_
  ·obtain rfl:=sI h
   try simp only[*,go_sem]
   refine bK hJ (by simp only[*,go_sem]) ?_
   refine aa hJ (ag hJ ?_)
   simp only[*,go_sem]
   obtain rfl:=sI a;clear a
   have h:=j
   dsimp only[aG] at h
   cases h
  revert h;refine cS (fun dT h=>?_) fun dT h=>?_
  ·try simp only[*,go_sem]
   revert h;refine jC hJ (by simp only[*,go_sem]) (fun ea h=>?_) fun ea h=>?_
   ·obtain rfl:=sI h
    refine aa hJ (ag hJ ?_)
    simp only[*,go_sem]
    obtain rfl:=sI a;clear a
    have h:=j
    dsimp only[aG] at h
    cases h
   obtain rfl:=sI h
   refine aF hJ (ag hJ ?_)
   simp only[*,go_sem]
   refine ⟨k,Nat.lt_succ_self _,_,Le.sub (List.Sublist.cons _ (List.Sublist.refl _)),f,(IntKind.i64.wrap (i+1)),a,rfl,?_⟩
   simp only[*,go_sem]
  obtain rfl:=sI h
  try simp only[*,go_sem]
  refine bL hJ (by simp only[*,go_sem]) ?_
  refine aF hJ (ag hJ ?_)
  simp only[*,go_sem]
  refine ⟨k,Nat.lt_succ_self _,_,Le.sub (List.Sublist.cons _ (List.Sublist.refl _)),f,(IntKind.i64.wrap (i+1)),a,rfl,?_⟩
  simp only[*,go_sem]
 obtain rfl:=sI h
 refine bU ?_
 simp only[go_sem]
 obtain rfl:=sI a;clear a
 have h:=j
 dsimp only[aG] at h
 refine aa hJ ?_
 refine cY hJ mixed 26 4 (by simp only[*,go_sem]) (by kernel_rfl) ?_
 revert h;refine bS fun z eb h=>?_
 obtain ⟨hx,hy,W⟩:=cw eb
 obtain ⟨X,ec,ed,eh,L⟩:=b.e.el _ _ W
 obtain rfl:ec=z.cells:=eh
 cases ed
 have et:=L 0 _ rfl;simp only[go_sem] at et
 have ev:=L 1 _ rfl;simp only[go_sem] at ev
 clear L W
 revert h;refine bS fun eQ eS h=>?_
 obtain ⟨hz,hA,Y⟩:=cw eS
 obtain ⟨hB,e0,e1,e2,M⟩:=b.e.el _ _ Y
 obtain rfl:e0=eQ.cells:=e2
 cases e1
 have e3:=M 0 _ rfl;simp only[go_sem] at e3
 have fa:=M 1 _ rfl;simp only[go_sem] at fa
 clear M Y
 revert h;refine bS fun N Z h=>?_
 obtain ⟨hD,hE⟩:=iY Z
 clear Z
 try simp only[*,go_sem]
 refine aa hJ (ag hJ ?_)
 revert h;refine bS fun l fb h=>?_
 simp only[*,go_sem]
 refine aM hJ _ (sN (o.mono aH) u0 (b.mono aH) (IntKind.i64.wrap (z.an+N)) fb) (aD ?_)
 try simp only[*,go_sem]
 refine ax fun ab hF ff=>?_;try simp only[au] at ff
 try simp only[*,go_sem]
 refine aa hJ (aa hJ (ag hJ ?_))
 revert h;refine cS (fun fg h=>?_) fun fg h=>?_
 ·cases h
 revert h;refine bS fun hG fi h=>?_
 try simp only[*,go_sem]
 refine aM hJ _ (xx l.1 fi) (aD ?_)
 try simp only[*,go_sem]
 revert h;refine jC hJ (by simp only[*,go_sem]) (fun fl h=>?_) fun fl h=>?_
 ·cases h
 refine aF hJ (aa hJ ?_)
 refine aa hJ (ag hJ ?_)
 simp only[*,go_sem]
 refine aU hJ ?_
 revert h;refine bS fun fp B ad=>?_
 refine bX hJ [8,22,23,24,180,181,182,183,184,185,186,187,188,189,190,191,192,193,194,195,196,197,198,199,200,201,202,203,204,205,206,207,208,209,210,211,212,213,214,215,216,217,218,219,220,221,222,223,224,225,226,227,228,229,230,231,232,233,234] (fun m t F'=>∃(u:Bool) (w:Int),bg (DH u0 z N l) m (u,w)=some fp/\F'=⟨ro,(ab,rt l.1.num l.1.den)::(J,rt g.1.num g.1.den)::(I,rt c.2.1.num c.2.1.den)::(H,.cells #[.int .i64 d.back,.int .i64 d.high] 33)::(G,bk u0 (sl (some X) u0.aj c4) p q s)::[]⟩/\slot t 8= .bool u/\slot t 22= .int .i64 w) fu ?_ ?_
 ·refine ⟨f,0,B,rfl,?_⟩
  simp only[*,go_sem]
 rintro C hI F' ae ⟨u,w,B,rfl,hK,hL⟩
 obtain ⟨fq,fr,fs⟩:=ae.pick [4,19,20] (by decide)
 simp only[*,go_sem] at fq fr fs
 clear ae S T U cf cl
 obtain _|C:=C
 ·exact absurd B (by simp only[bg,reduceCtorEq,not_false_eq_true])
 revert B;refine bS fun hM h n=>?_
 unfold DH at h
 try dsimp only at h
 refine aa hJ (aa hJ (ag hJ ?_))
 simp only[*,go_sem]
 revert h;refine jC hJ (by simp only[*,go_sem]) (fun ft h=>?_) fun ft h=>?_
 ·refine aF hJ (aa hJ ?_)
  refine aU hJ (aa hJ ?_)
  refine rV hJ mixed 11 ⟨ro,[(ab,rt l.1.num l.1.den),(J,rt g.1.num g.1.den),(I,rt c.2.1.num c.2.1.den),(H,.cells #[.int .i64 d.back,.int .i64 d.high] 33),(G,bk u0 (sl (some X) u0.aj c4) p q s)]⟩ (by simp only[*,go_sem]) (by kernel_rfl) 45 rfl mH ?_
  revert h;refine bS fun al fv h=>?_
  obtain ⟨hN,hP,ao⟩:=cw fv
  obtain ⟨hQ,fw,fx,fP,O⟩:=b.e.el _ _ ao
  obtain rfl:fw=al.cells:=fP
  cases fx
  have fQ:=O 0 _ rfl;simp only[go_sem] at fQ
  have fS:=O 1 _ rfl;simp only[go_sem] at fS
  clear O ao
  revert h;refine bS fun ar fU h=>?_
  obtain ⟨hR,hS,a0⟩:=cw fU
  obtain ⟨hT,gg,gl,gn,P⟩:=b.e.el _ _ a0
  obtain rfl:gg=ar.cells:=gn
  cases gl
  have gp:=P 0 _ rfl;simp only[go_sem] at gp
  have gB:=P 1 _ rfl;simp only[go_sem] at gB
  clear P a0
  try simp only[*,go_sem]
  refine ax fun hV hX gC=>?_;try simp only[au] at gC
  try simp only[*,go_sem]
  refine ax fun hY hZ gM=>?_;try simp only[au] at gM
  try simp only[*,go_sem]
  refine aa hJ (ag hJ ?_)
  revert h;refine bS fun h0 gT h=>?_
  simp only[*,go_sem]
  refine aM hJ _ (fR (IntKind.i64.wrap (z.an+N)) al.an ar.an gT) (aD ?_)
  revert h;refine cS (fun gV h=>?_) fun gV h=>?_
  ·try simp only[*,go_sem]
   revert h;refine jC hJ (by simp only[*,go_sem]) (fun g0 h=>?_) fun g0 h=>?_
   ·obtain rfl:=sI h
    refine aa hJ (ag hJ ?_)
    simp only[*,go_sem]
    obtain rfl:=sI n;clear n
    have h:=ad
    dsimp only[aG] at h
    cases h
   obtain rfl:=sI h
   refine aF hJ (ag hJ ?_)
   simp only[*,go_sem]
   refine ⟨C,Nat.lt_succ_self _,_,Le.sub (List.Sublist.cons _ (List.Sublist.cons _ (List.Sublist.refl _))),u,(IntKind.i64.wrap (w+1)),n,rfl,?_⟩
   simp only[*,go_sem]
  obtain rfl:=sI h
  try simp only[*,go_sem]
  refine bL hJ (by simp only[*,go_sem]) ?_
  refine aF hJ (ag hJ ?_)
  simp only[*,go_sem]
  refine ⟨C,Nat.lt_succ_self _,_,Le.sub (List.Sublist.cons _ (List.Sublist.cons _ (List.Sublist.refl _))),u,(IntKind.i64.wrap (w+1)),n,rfl,?_⟩
  simp only[*,go_sem]
 obtain rfl:=sI h
 refine bU ?_
 simp only[go_sem]
 obtain rfl:=sI n;clear n
 have h:=ad
 dsimp only[aG] at h
 refine aa hJ (ag hJ ?_)
 revert h;refine bS fun h1 g1 h=>?_
 obtain rfl:=sI h
 simp only[*,go_sem]
 refine e6 _ (e9 o g1) (aD ?_)
 try simp only[*,go_sem]
 refine ay ?_
 simp only[*,go_sem]
end Go.Proofs.YtjepffnffjdloaaGreatDoor
end

/- A part of the proof: VA2. -/
import Derived.Test.YtcoalekambhghaaGreatDoorQS14
import Derived.Test.YtcoalekambhghaaGreatDoorVA1
set_option linter.all false
section
namespace Go.Proofs.YtcoalekambhghaaGreatDoor
open Go Go.Sep Go.Proofs
set_option maxRecDepth 100000
set_option maxHeartbeats 4000000
def rZ (u0:aH)(a:b7)(d:Int)(e:Int):Option Bool:=
 ak (mq u0) fun h=>cond (h) (ak (gT) fun i=>some i) (cond (decide (20<(a.ax.length:Int))) (ak (gT) fun j=>some j) (cond (decide (20<(a.az.length:Int))) (ak (gT) fun k=>some k) (cond (decide (20<(a.an.length:Int))) (ak (gT) fun l=>some l) (ak (k5 u0 a d e) fun b=>ak (oQ u0 a d e) fun c=>ak (kg u0 a) fun f=>ak (oT u0 a) fun g=>ak (fE u0) fun m=>ak (jw u0) fun n=>cond ((m==n)) (cond (((b.1.step==c.1.step)&&(b.1.cu==c.1.cu))) (cond ((b.2==c.2)) (cond ((f.1==g.1)) (cond ((f.2==g.2)) (ak (gT) fun o=>some o) (some false)) (some false)) (some false)) (some false)) (some false)))))
theorem Jf {ro:Addr->Option Value}(d:dB ro)(u0:aH){s1:Value}(e:aG bJ ro s1 u0.aj)(b:b7){q:Value}(f:aG rI ro q b.ax){s:Value}(g:aG rI ro s b.az){t:Value}(i:aG rI ro t b.an)(j:Int)(k:Int){r:Bool}(G:r=true)(h:rZ u0 b j k=some r):iM Tryz.prog 3 #[.agg #[.int .i64 u0.steps,.int .i64 u0.an,s1],.agg #[q,s,t],.int .i64 j,.int .i64 k] ⟨ro,[]⟩ (fun v _=>v= .bool r):=by
 obtain ⟨d3,c4,rfl,ar,a0,a2⟩:=id e;obtain ⟨d10,H,rfl,a3,a4,a5⟩:=id f;obtain ⟨d17,I,rfl,a6,a7,a8⟩:=id g;obtain ⟨d24,J,rfl,a9,ba,bb⟩:=id i;subst G;unfold rZ at h;refine iM.go Tryz.func3 rfl Tryz.ntmps3 Tryz.results3 aB aS fun Φ hJ A K hd hs=>?_;have L:=hs 0;have k1:=hs 1;have M:=hs 2;have N:=hs 3;clear hs;apply af hJ;apply ah hJ;apply aa _;intro u f29;have bc:=aT f29;have O:=aU f29;try simp only[aN] at O
 intro w f30;have bd:=aT f30;have P:=aU f30;try simp only[aN] at P
 try apply aa _
 apply af hJ;apply af hJ;apply ah hJ;have h':=av h;clear h;obtain ⟨bj,Q,h⟩:=h';apply aa _;refine bl hJ _ (zu u0 (e.mono aX) Q) (aQ ?_);have h':=aD h;clear h;rcases h' with ⟨l,h⟩|⟨l,h⟩
 .try simp only[Int.ofNat_lt] at l
  try apply aa _
  refine aL hJ au ?_;apply af hJ;apply ah hJ;have h':=av h;clear h;obtain ⟨bk,R,h⟩:=h';apply aa _;refine jm _ (jH d R) (aQ ?_);try apply aa _
  have h':=Option.some.inj h;clear h;subst h';apply aI;simp only[*,go_sem]
 try simp only[Int.ofNat_lt] at l
 have h':=aD h;clear h;rcases h' with ⟨m,h⟩|⟨m,h⟩
 .try simp only[Int.ofNat_lt] at m
  try apply aa _
  refine aL hJ au ?_;apply af hJ;apply ah hJ;have h':=av h;clear h;obtain ⟨bm,S,h⟩:=h';apply aa _;refine jm _ (jH d S) (aQ ?_);try apply aa _
  have h':=Option.some.inj h;clear h;subst h';apply aI;simp only[*,go_sem]
 try simp only[Int.ofNat_lt] at m
 have h':=aD h;clear h;rcases h' with ⟨n,h⟩|⟨n,h⟩
 .try simp only[Int.ofNat_lt] at n
  try apply aa _
  refine aL hJ au ?_;apply af hJ;apply ah hJ;have h':=av h;clear h;obtain ⟨bo,T,h⟩:=h';apply aa _;refine jm _ (jH d T) (aQ ?_);try apply aa _
  have h':=Option.some.inj h;clear h;subst h';apply aI;simp only[*,go_sem]
 try simp only[Int.ofNat_lt] at n
 try apply aa _
 have h':=aD h;clear h;rcases h' with ⟨o,h⟩|⟨o,h⟩
 .try simp only[Int.ofNat_lt] at o
  refine aL hJ au ?_;apply af hJ;apply ah hJ;have h':=av h;clear h;obtain ⟨br,U,h⟩:=h';apply aa _;refine jm _ (jH d U) (aQ ?_);try apply aa _
  have h':=Option.some.inj h;clear h;subst h';apply aI;simp only[*,go_sem]
 try simp only[Int.ofNat_lt] at o
 refine aM hJ au ?_;apply aR hJ;apply af hJ;apply ah hJ;have h':=av h;clear h;obtain ⟨p,V,h⟩:=h';apply aa _;refine bl hJ _ (vO (d.mono aX) u0 (e.mono aX) b (f.mono aX) (g.mono aX) (i.mono aX) j k V) (aQ ?_);try apply aa _
 intro x f47;have bs:=aT f47;have W:=aU f47;try simp only[aN] at W
 try apply aa _
 apply af hJ;generalize a:bt _ _ _=c;have b0:sz c=94:=by rw[<-a];simp only[*,go_sem,-h,-a]
 have b1:c.defers=[]:=by rw[<-a];simp only[*,go_sem,-h,-a]
 have b2:slot c 2= .int .i64 j:=by rw[<-a];simp only[*,go_sem,-h,-a]
 have b3:slot c 3= .int .i64 k:=by rw[<-a];simp only[*,go_sem,-h,-a]
 have b4:slot c 4= .pointer (some ⟨u,0,none⟩):=by rw[<-a];simp only[*,go_sem,-h,-a]
 have ca:slot c 5= .pointer (some ⟨w,0,none⟩):=by rw[<-a];simp only[*,go_sem,-h,-a]
 have cb:slot c 8= .bool false:=by rw[<-a];simp only[*,go_sem,-h,-a]
 have cc:slot c 9= .pointer (some ⟨x,0,none⟩):=by rw[<-a];simp only[*,go_sem,-h,-a]
 have cd:slot c 10= .int .i64 p.2:=by rw[<-a];simp only[*,go_sem,-h,-a]
 clear a K hd L k1 M N;apply ah hJ;have h':=av h;clear h;obtain ⟨y,X,h⟩:=h';apply aa _;refine bl hJ _ (E0 u0 (e.mono aX) b (f.mono aX) (g.mono aX) (i.mono aX) j k X) (aQ ?_);try apply aa _
 intro Y f51;have cf:=aT f51;have Z:=aU f51;try simp only[aN] at Z
 try apply aa _
 apply af hJ;apply ah hJ;have h':=av h;clear h;obtain ⟨ck,ab,h⟩:=h';apply aa _;refine bl hJ _ (rq (d.mono aX) u0 (e.mono aX) b (f.mono aX) (g.mono aX) (i.mono aX) ab) (aQ ?_);try apply aa _
 apply af hJ;apply ah hJ;have h':=av h;clear h;obtain ⟨cl,ad,h⟩:=h';apply aa _;refine bl hJ _ (E4 u0 (e.mono aX) b (f.mono aX) (g.mono aX) (i.mono aX) ad) (aQ ?_);try apply aa _
 apply af hJ;refine cB hJ mixed 26 ⟨ro,[(Y,.cells #[.int .i64 y.1.step,.int .i64 y.1.cu] 31),(x,.cells #[.int .i64 p.1.step,.int .i64 p.1.cu] 31),(w,.cells #[.slice d10 b.ax.length H,.slice d17 b.az.length I,.slice d24 b.an.length J] 27),(u,.cells #[.int .i64 u0.steps,.int .i64 u0.an,.slice d3 u0.aj.length c4] 24)]⟩ au aS ?_;have h':=av h;clear h;obtain ⟨cv,ae,h⟩:=h';apply aa _;refine ⟨_,dI hJ fun F hF=>jv (d.mono (fW hF)) u0 (e.mono (fW hF)) ae,ef ?_⟩;have h':=av h;clear h;obtain ⟨cy,al,h⟩:=h';try apply aa _
 refine ⟨_,dI hJ fun F hF=>qV u0 (e.mono (fW hF)) al,ef ?_⟩;have h':=aD h;clear h;rcases h' with ⟨z,h⟩|⟨z,h⟩
 .try simp only[Int.ofNat_lt] at z
  have h':=aD h;clear h;rcases h' with ⟨B,h⟩|⟨B,h⟩
  ·(try simp only[Int.ofNat_lt] at B);have h':=aD h;clear h;rcases h' with ⟨C,h⟩|⟨C,h⟩
   ·(try simp only[Int.ofNat_lt] at C);have h':=aD h;clear h;rcases h' with ⟨D,h⟩|⟨D,h⟩
    ·(try simp only[Int.ofNat_lt] at D);have h':=aD h;clear h;rcases h' with ⟨E,h⟩|⟨E,h⟩
     ·(try simp only[Int.ofNat_lt] at E);have h':=av h;clear h;obtain ⟨c0,ao,h⟩:=h';(try apply aa _);refine jm _ (jH d ao) ⟨au,s3 ?_⟩;(try apply aa _);have h':=Option.some.inj h;clear h;subst h';apply aI;simp only[*,go_sem]
     cases h
    cases h
   cases h
  cases h
 cases h
theorem Jg (b:aH)(t:b7)(k m:Int):rZ b t k m=some true:=by
 unfold rZ;simp only[w8];obtain ⟨g,hg,hs⟩:=zT b;rw[hg];cases g
 .have hb:=hs rfl;simp only[ak,cond];by_cases e:t.ax.length<=20
  .by_cases f:t.az.length<=20
   .by_cases h:t.an.length<=20
    .rw[decide_eq_false (p:=20<(t.ax.length:Int)) ai,decide_eq_false (p:=20<(t.az.length:Int)) ai,decide_eq_false (p:=20<(t.an.length:Int)) ai];obtain ⟨r1,e1,e2⟩:=GV hb t ai k m;obtain ⟨r2,e3,a⟩:=GX hb t ai;obtain ⟨r3,c,d,_⟩:=qY hb;rw[e1,e2,e3,a,c,d];simp
    .rw[decide_eq_true (p:=20<(t.an.length:Int)) ai];cases decide (20<(t.ax.length:Int))<;>cases decide (20<(t.az.length:Int))<;>rfl
   .rw[decide_eq_true (p:=20<(t.az.length:Int)) ai];cases decide (20<(t.ax.length:Int))<;>rfl
  .rw[decide_eq_true (p:=20<(t.ax.length:Int)) ai]
 .rfl
end Go.Proofs.YtcoalekambhghaaGreatDoor
end

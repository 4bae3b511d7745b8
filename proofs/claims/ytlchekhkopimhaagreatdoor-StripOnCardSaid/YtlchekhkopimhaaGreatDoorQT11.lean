/- A part of the proof: QT11. -/
import Derived.Test.YtlchekhkopimhaaGreatDoorQT10
import Derived.Conc.LoneCalls
set_option linter.all false
section
namespace Go.Sep
open Go Go.Conc
open Go.ConcN (sumTo upd upd_ne upd_same sumTo_congr)
open Go.ConcM (OsLater)
open Go.ConcR (WgAt wgBlock stA smA)
def kE (r0 r1:Addr->Option Value):Addr->Option Value:=fun a=>match r0 a with
 |some v=>some v
 |none=>r1 a
theorem xZ {r0 r1:Addr->Option Value}{a:Addr}(h:(kE r0 r1 a).isSome=true):(r0 a).isSome=true\/(r1 a).isSome=true:=by
 unfold kE at h;cases e:r0 a with
 |some v=>exact .inl rfl
 |none=>rw[e] at h;exact .inr h
theorem Jl (r0 r1:Addr->Option Value):Ext r0 (kE r0 r1):=fun a v h=>by unfold kE;rw[h]
theorem Jm {F0 F1:af}{w:World}(b:Has F0 w)(c:Has F1 w):Ext F1.ro (kE F0.ro F1.ro):=fun a v h=>by
 unfold kE
 cases e:F0.ro a with
 |none=>exact h
 |some x=>rw[<-b.ro a x e,c.ro a v h]
section
variable {c:Gy}{bl:Loc->Prop}{cl cl':Cl}{d0 k K:Nat}{x0:Goroutine}{Fr b6:Nat->af}{gs:Array Goroutine}{w w':World}{t u:Trace}{ρ:Nat->Rk}{φ:Nat->Ph}{s:Sg}
def gU (Fr:Nat->af)(i:Nat):af:=⟨kE (Fr 0).ro (Fr (i+1)).ro,(Fr 0).own⟩
theorem dS.dQ (h:dS c.cy K Fr w){i:Nat}(hi:i+1<=K):dS c.cy K (upd Fr 0 (gU Fr i)) w:=by
 have j:∀q,q≠0->upd Fr 0 (gU Fr i) q=Fr q:=fun q f=>upd_ne _ _ f;have self:upd Fr 0 (gU Fr i) 0=gU Fr i:=upd_same _ _ _;have bn:∀q,(upd Fr 0 (gU Fr i) q).own=(Fr q).own:=fun q=>by
  by_cases e:q=0
  .subst e;rw[self];rfl
  .rw[j q e]
 have l:∀a,((gU Fr i).ro a).isSome=true->((Fr 0).ro a).isSome=true\/((Fr (i+1)).ro a).isSome=true:=fun a g=>xZ g;have z:=h.has 0 (Nat.zero_le _);have y:=h.has (i+1) hi;refine ⟨fun q f=>?_,fun q r f d k b hb=>by rw[bn] at hb ⊢;exact h.own q r f d k b hb,fun q r f d k a g=>?_,fun q f b hb=>by rw[bn] at hb;exact h.gJ q f b hb,fun q f a g=>?_,h.fS⟩
 .by_cases e:q=0
  .subst e;rw[self];refine ⟨fun a v d=>?_,z.own,z.nodup,fun a v d=>?_⟩
   .have d:kE (Fr 0).ro (Fr (i+1)).ro a=some v:=d;unfold kE at d;cases e:(Fr 0).ro a with
    |some x=>rw[e] at d;cases d;exact z.ro a _ e
    |none=>rw[e] at d;exact y.ro a v d
   .rcases l a (by rw[d];rfl) with e|e
    .obtain ⟨x,m⟩:=Option.isSome_iff_exists.1 e;exact z.apart a x m
    .exact h.ro (i+1) 0 hi f aa a e
  .rw[j q e];exact h.has q f
 .rw[bn];by_cases e:q=0
  .subst e;rw[self] at g;rcases l a g with x|x
   .exact h.ro 0 r f d k a x
   .by_cases e2:r=i+1
    .subst e2;obtain ⟨v,hv⟩:=Option.isSome_iff_exists.1 x;exact y.apart a v hv
    .exact h.ro (i+1) r hi d (Ne.symm e2) a x
  .rw[j q e] at g;exact h.ro q r f d k a g
 .by_cases e:q=0
  .subst e;rw[self] at g;exact (l a g).elim (h.iS 0 f a) (h.iS (i+1) hi a)
  .rw[j q e] at g;exact h.iS q f a g
theorem fe.dQ (h:fe c bl K Fr w){i:Nat}(hi:i+1<=K):fe c bl K (upd Fr 0 (gU Fr i)) w:=by
 have g:∀q,q≠0->upd Fr 0 (gU Fr i) q=Fr q:=fun q d=>upd_ne _ _ d;have self:upd Fr 0 (gU Fr i) 0=gU Fr i:=upd_same _ _ _;refine ⟨h.os,h.tape,h.output,h.size,h.frame,fun q d b hb=>?_,fun q d a f=>?_,h.apart,h.rq,h.low⟩
 .by_cases e:q=0
  .subst e;rw[self] at hb;exact h.ia 0 d b hb
  .rw[g q e] at hb;exact h.ia q d b hb
 .by_cases e:q=0
  .subst e;rw[self] at f;exact (xZ f).elim (h.iX 0 d a) (h.iX (i+1) hi a)
  .rw[g q e] at f;exact h.iX q d a f
theorem pJ {g r:Nat}(h:dx c.cy t g r)(hn:∀op∈u,op.act.touch?=none):dx c.cy (t++u) g r:=h.app fun idx x hi _ b=>by
 obtain ⟨z,d,a⟩:=touch_of b
 rcases getElem?_append_cases d with ⟨f,_⟩|⟨_,e⟩
 .omega
 .rw[hn z e] at a;cases a
theorem fq.chan (w:World)(cap a b:Nat)(buf:Array Value)(cl:Bool)(d:Nat)(f:Bool):fq c.cy w ((w.at d).setChan c.C cap buf cl a b f):=
 ⟨rfl,rfl,by simp[World.setChan,World.at],.refl _,fun k g=>by simp only[World.setChan,World.at];exact Array.getElem?_setIfInBounds_ne (fun e=>g (.inl e.symm))⟩
theorem cU.meet (h:cU c bl cl d0 k x0 Fr gs w t ρ φ s)(S:d0=0)(hb:cl.born=true){i:Nat}(hi:i<k)(G:(φ i).gp= .cnt)(T:(φ i).stored=false)(U:(φ i).deaf=0){v:Value}{R:hO}(hR:c.pay i=some R)(hv:R (Fr (i+1)).ro v){I:Rk}{F':af}
  (V:(ρ (c.base+i)).kids I) (hle:Le F' (Fr (i+1))) {y0 yi:Goroutine} (W:yi.status= .running) (hW:hU c i I yi F' {φ i with stored:=true}) (X:y0.status= .running) {gs':Array Goroutine} (P:gs'.size=gs.size) (Y:gs'[0]?=some y0) (J:gs'[c.base+i]?=some yi)
  (K:∀j,j≠0->j≠c.base+i->gs'[j]?=gs[j]?) (hm:pz c s.got.length (c.base+i) u) (d:Nat):
  ∃ρ' φ' b6 s',cU c bl cl d0 k y0 b6 gs' ((w.at d).setChan c.C 0 #[] false (s.got.length+1) (s.got.length+1) false) (t++u) ρ' φ' s'/\pU gs.size ρ' ρ/\i<c.n/\i∉s.got/\R (b6 0).ro v/\Ext (Fr 0).ro (b6 0).ro/\(b6 0).own=(Fr 0).own/\s'.got=s.got++[i]:=by
 have L:i<c.n:=Nat.lt_of_lt_of_le hi h.inv.kn
 have Z:cl.ek=false:=by
  cases hs:cl.ek with
  |false=>rfl
  |true=>have:=h.inv.gone (Cl.lF hs) L hb;rw[G] at this;cases this
 have hK:i+1<=cl.emp k:=by have:=Cl.xY cl k;omega
 have ht:=hm.touch
 have hn:∀op∈u,op.act.touch?=none:=fun op B=>(ht op B).1
 have D:∀j,Deaf (t++u) j=Deaf t j:=Deaf_still fun op B=>(ht op B).2.2.2
 have hC:c.C<w.heap.size:=h.parts.fS _ (.inl rfl)
 have ab:Deaf t (c.base+i)=0:=(h.deaf i hi).trans U
 obtain ⟨ad,hinv⟩:=h.inv.pass L G T (by rw[hR];rfl)
 have M:fq c.cy w ((w.at d).setChan c.C 0 #[] false (s.got.length+1) (s.got.length+1) false):=fq.chan w 0 _ _ _ _ d _
 let g:=upd Fr 0 (gU Fr i)
 let o:=upd g (i+1) F'
 have a0:o 0=gU Fr i:=by show upd g (i+1) F' 0=_;rw[upd_ne _ _ aa];exact upd_same _ _ _
 have a1:o (i+1)=F':=upd_same _ _ _
 have Q:∀q,q≠0->q≠i+1->o q=Fr q:=fun q J ae=>by show upd g (i+1) F' q=_;rw[upd_ne _ _ ae];exact upd_ne _ _ J
 have e1:g (i+1)=Fr (i+1):=upd_ne _ _ aa
 have e0:g 0=gU Fr i:=upd_same _ _ _
 have e2:Le F' (g (i+1)):=by rw[e1];exact hle
 have al:dS c.cy (cl.emp k) o ((w.at d).setChan c.C 0 #[] false (s.got.length+1) (s.got.length+1) false):=(h.parts.dQ hK).act hK M e2
 have ao:fe c bl (cl.emp k) o ((w.at d).setChan c.C 0 #[] false (s.got.length+1) (s.got.length+1) false):=(h.env.dQ hK).act hK M e2
 have ar:dN c bl (cl.emp k) (c.jy cl) o w.heap.size (t++u):=by
  have x:=h.gm.meet (b6:=g) hm hK hC (h.deaf0.trans S) ab (fun q N=>upd_ne _ _ N) (fun l b=>by
   rw[e0] at b
   cases l<;>exact b) (fun l b=>by
   rw[e0] at b
   obtain ⟨a,rfl,E⟩:=b
   exact (xZ E).imp (fun z=>⟨a,rfl,z⟩) fun z=>⟨a,rfl,z⟩)
  refine x.Cp (fun p O l b=>?_) fun p O l b=>?_
  .by_cases e:p=i+1
   .subst e
    rw[a1] at b;rw[e1]
    exact hle.s8 b
   .have:o p=g p:=upd_ne _ _ e
    rw[this] at b;exact b
  .by_cases e:p=i+1
   .subst e
    rw[a1] at b;rw[e1]
    obtain ⟨a,rfl,E⟩:=b
    exact (hle.ro a E).imp (fun z=>⟨a,rfl,z⟩) fun z=>z
   .have:o p=g p:=upd_ne _ _ e
    rw[this] at b;exact .inl b
 have a2:((w.at d).setChan c.C 0 #[] false (s.got.length+1) (s.got.length+1) false).heap.size=w.heap.size:=M.size
 have a3:c5 c ((w.at d).setChan c.C 0 #[] false (s.got.length+1) (s.got.length+1) false) {s with got:=s.got++[i]} cl:=by
  refine ⟨?_,?_⟩
  .have:=h.sh.1
   unfold WgAt at*
   simp only[World.setChan,World.at]
   rw[Array.getElem?_setIfInBounds_ne (fun e=>h.ne e.symm)]
   exact this
  .rw[heap_setChan (w.at d) _ _ _ _ _ _ _ hC,Z]
   simp
 refine ⟨iD ρ (c.base+i) I,upd φ i {φ i with stored:=true},o,{s with got:=s.got++[i]},?_,lg (by rw[h.size];omega) V,L,ad,?_,?_,?_,rfl⟩
 .refine ⟨by rw[P];exact h.size,h.base,Y,.inl X,fun j x a4 a5 A=>?_,fun f y=>?_,fun H=>?_,fun f y=>?_,fun H=>?_,fun j a6=>?_,?_,al,a3,hinv,by rw[a2];exact ar,fun f y hg=>?_,fun p a7 e=>?_,fun hs=>?_,ao,h.ne⟩
  .rw[K j aa aa] at A
   obtain ⟨q,N,a8⟩:=h.old j x a4 a5 A
   exact ⟨q,by rw[gK _ _ aa];exact N,by rw[D];exact a8⟩
  .by_cases e:f=i
   .subst e
    refine ⟨yi,J,?_⟩
    rw[jv,upd_same,a1]
    exact .inr (.inl ⟨by rw[G];simp,W,hW⟩)
   .obtain ⟨x,A,a9⟩:=h.wk f y
    refine ⟨x,by rw[K _ (by have:=h.base;omega) aa];exact A,?_⟩
    rw[gK _ _ aa,upd_ne _ _ e,Q _ aa aa]
    exact a9
  .have bd:=h.inv.all H
   obtain ⟨x,A,ba⟩:=h.ck H
   refine ⟨x,by rw[K _ (by have:=h.base;omega) aa];exact A,?_⟩
   rw[gK _ _ aa,Q _ aa aa]
   exact ba
  .rw[D]
   by_cases e:f=i
   .subst e;rw[upd_same];exact h.deaf f y
   .rw[upd_ne _ _ e];exact h.deaf f y
  .rw[D];exact h.kD H
  .rw[D];exact h.above j (by rw[<-P];exact a6)
  .rw[D];exact h.deaf0
  .by_cases e:f=i
   .subst e;rw[upd_same] at hg;exact absurd G hg
   .rw[upd_ne _ _ e] at hg
    obtain ⟨r,F⟩:=h.rel f y hg
    exact ⟨r,pJ F hn⟩
  .obtain ⟨O,E⟩:=h.acq p a7 e
   refine ⟨O,fun f y=>?_⟩
   obtain ⟨r,F,bb⟩:=E f y
   exact ⟨r,pJ F hn,bb.app u⟩
  .obtain ⟨m,bc⟩:=h.jY hs
   exact ⟨m,bc.app (fun _ _ _ F=>pJ F hn) fun op B _=>hn op B⟩
 .rw[a0]
  exact c.mono i R _ _ v hR (Jm (h.parts.has 0 (Nat.zero_le _)) (h.parts.has (i+1) hK)) hv
 .rw[a0];exact Jl _ _
 .rw[a0];rfl
theorem cU.offers (h:cU c bl cl d0 k x0 Fr gs w t ρ φ s){j:Nat}{x:Goroutine}(D:0<j)(m:gs[j]?=some x):offersAt x c.C false=[]/\(offersAt x c.C true=[]\/
  ∃i g v z R o F',j=c.base+i/\i<k/\(φ i).gp= .cnt/\(φ i).stored=false/\(φ i).deaf=0/\x=parked g #[scase c.C v z] .send/\c.pay i=some R/\R (Fr (i+1)).ro v/\(ρ j).kids o/\Le F' (Fr (i+1))/\hU c i o (Go.Conc.served g undef) F' {φ i with stored:=true}):=by
 have quiet:∀{X:Prop},x.status≠ .blocked->offersAt x c.C false=[]/\(offersAt x c.C true=[]\/X):=fun hs=>⟨offersAt_of_not_blocked hs _ _,.inl (offersAt_of_not_blocked hs _ _)⟩
 have L:j<gs.size:=(Array.getElem?_eq_some_iff.1 m).1
 have u:=h.size
 rcases Nat.lt_or_ge j c.base with A|A
 .obtain ⟨q,_,l⟩:=h.old j x D A m
  exact quiet (by rcases l.status with e|e<;>rw[e]<;>simp)
 .rcases Nat.lt_or_ge (j - c.base) k with r|r
  .obtain ⟨y,f,hW⟩:=h.wk (j - c.base) r
   have e:c.base+(j - c.base)=j:=aa
   rw[e] at f
   obtain rfl:y=x:=by rw[m] at f;exact (Option.some.inj f).symm
   rcases hW with ⟨_,q,_,l⟩|⟨_,hs,_⟩|⟨E,F,G,g,v,z,R,o,F',rfl,H,I,B,J,K⟩
   .exact quiet (by rcases l.status with e|e<;>rw[e]<;>simp)
   .exact quiet (by rw[hs];simp)
   .exact ⟨offersAt_parked_send' _ _ _ _ _ _,.inr ⟨j - c.base,g,v,z,R,o,F',e.symm,r,E,F,G,rfl,H,I,by rw[e] at B;exact B,J,K⟩⟩
  .cases hb:cl.born with
   |false=>rw[Cl.xX hb] at u;omega
   |true=>
    rw[Cl.tL hb] at u
    have M:=h.inv.all hb
    obtain ⟨y,f,hC⟩:=h.ck hb
    rw[show c.base+c.n=j by omega] at f
    obtain rfl:y=x:=by rw[m] at f;exact (Option.some.inj f).symm
    rcases hC with ⟨d,q,_,_,l⟩|⟨p,d,a,_,_,ho,hs⟩
    .exact quiet (by rcases l.status with e|e<;>rw[e]<;>simp)
    .have:∀b,offersAt y c.C b=[]:=fun b=>by unfold offersAt;rw[ho];cases y.status<;>rfl
     exact ⟨this _,.inl (this _)⟩
theorem cU.awake (h:cU c bl cl d0 k x0 Fr gs w t ρ φ s):∀x∈gs,Go.Conc.awake x:=by
 intro x f;obtain ⟨j,r,rfl⟩:=Array.mem_iff_getElem.1 f;have f:=Array.getElem?_eq_getElem r;have l:=h.size;rcases Nat.eq_zero_or_pos j with rfl|u
 .obtain rfl:x0=gs[0]:=by have:=h.g0;rw[f] at this;exact (Option.some.inj this).symm
  rcases h.pG with e|⟨_,g,e,_⟩
  .exact awake_of (.inl e)
  .exact awake_of (.inr (.inl (by rw[e];rfl)))
 .rcases Nat.lt_or_ge j c.base with m|m
  .obtain ⟨q,_,i⟩:=h.old j _ u m f;exact awake_of (i.status.elim .inl fun y=>.inr (.inr y))
  .rcases Nat.lt_or_ge (j - c.base) k with o|o
   .obtain ⟨y,b,hW⟩:=h.wk (j - c.base) o;rw[show c.base+(j - c.base)=j by omega] at b;obtain rfl:y=gs[j]:=by rw[f] at b;exact (Option.some.inj b).symm
    rcases hW with ⟨_,q,_,i⟩|⟨_,hs,_⟩|⟨_,_,_,g,v,z,R,A,F',e,_⟩
    .exact awake_of (i.status.elim .inl fun y=>.inr (.inr y))
    .exact awake_of (.inl hs)
    .exact awake_of (.inr (.inl (by rw[e];rfl)))
   .cases hb:cl.born with
    |false=>rw[Cl.xX hb] at l;omega
    |true=>
     rw[Cl.tL hb] at l;have B:=h.inv.all hb;obtain ⟨y,b,hC⟩:=h.ck hb;rw[show c.base+c.n=j by omega] at b;obtain rfl:y=gs[j]:=by rw[f] at b;exact (Option.some.inj b).symm
     rcases hC with ⟨d,q,_,_,i⟩|⟨p,d,a,_,_,ho,hs⟩
     .exact awake_of (i.status.elim .inl fun y=>.inr (.inr y))
     .exact awake_of (hs.imp id fun z=>.inl z.1)
end
theorem hU.x4 {c:Gy}{i:Nat}{r:Rk}{g:Goroutine}{F:af}{ph:Ph}(h:hU c i r g F ph):pE c i r g F ph/\g.status≠ .blocked/\g.status≠ .waiting:=by
 cases r with
 |mk ι f=>
  rcases h with ⟨b,q,d,a⟩|h|h|h
  .refine ⟨.inl ⟨b,q,d,a⟩,?_,?_⟩<;>rcases a.status with e|e<;>rw[e]<;>simp
  .exact ⟨.inr (.inl ⟨by rw[h.2.2.1];simp,h.1,.inr (.inl h)⟩),by rw[h.1];simp,by rw[h.1];simp⟩
  .exact ⟨.inr (.inl ⟨h.2.2.1,h.1,.inr (.inr (.inl h))⟩),by rw[h.1];simp,by rw[h.1];simp⟩
  .exact ⟨.inr (.inl ⟨by rw[h.2.2.1];simp,h.1,.inr (.inr (.inr h))⟩),by rw[h.1];simp,by rw[h.1];simp⟩
theorem jX.cat {c:Gy}{r:Rk}{g:Goroutine}{F:af}{cl:Cl}(h:jX c r g F cl)(s:Sg):pF c r g F cl s/\g.status≠ .blocked/\g.status≠ .waiting:=by
 cases r with
 |mk ι f=>
  rcases h with ⟨d,q,j,k,i⟩|h|h
  .refine ⟨.inl ⟨d,q,j,k,i⟩,?_,?_⟩<;>rcases i.status with e|e<;>rw[e]<;>simp
  .obtain ⟨p,d,a,e,_⟩:=h.2.2.1;have b:({g with status:=.running}:Goroutine)=g:=by have:=h.1;cases g;simp_all
   exact ⟨.inr ⟨p,d,a,e,by rw[b];exact .inr (.inl h),h.2.1,.inl h.1⟩,by rw[h.1];simp,by rw[h.1];simp⟩
  .obtain ⟨p,d,a,e⟩:=h.2.2.1;have b:({g with status:=.running}:Goroutine)=g:=by have:=h.1;cases g;simp_all
   exact ⟨.inr ⟨p,d,a,e,by rw[b];exact .inr (.inr h),h.2.1,.inl h.1⟩,by rw[h.1];simp,by rw[h.1];simp⟩
section
variable {c:Gy}{bl:Loc->Prop}{cl cl':Cl}{d0 k K:Nat}{x0:Goroutine}{Fr b6:Nat->af}{gs:Array Goroutine}{w w':World}{t u:Trace}{ρ:Nat->Rk}{φ:Nat->Ph}{s:Sg}
theorem pK {F:af}(hF:Has F w)(g:w.heap.size<=w'.heap.size){e:Event}(he:gN F.ro (gr F w.heap.size w'.heap.size) e)(p eU:Nat):
  (∀x,(MemAct.ofEvent e).touch?=some x->OkG c F w.heap.size p eU x)/\(MemAct.ofEvent e).low w'.heap.size/\MemAct.ofEvent e≠ .mark (.release (stA c.Wg))/\e.loc≠ .mark .disable/\e.loc≠ .mark .enable:=by
 have hm:∀b,gr F w.heap.size w'.heap.size b->b<w'.heap.size:=fun b hb=>hb.elim (fun x=>Nat.lt_of_lt_of_le (hF.lt x) g) (fun x=>x.2)
 rcases he with ⟨a,wr,rfl,d⟩|⟨r,wr,rfl,d⟩|⟨m,rfl,h⟩
 .refine ⟨fun x f=>?_,?_,by cases wr<;>simp[MemAct.ofEvent],an,an⟩
  .have e1:x=⟨.cell a,wr,.plain⟩:=by cases wr<;>simp[MemAct.ofEvent,MemAct.touch?] at f<;>rw[<-f]
   subst e1
   rcases d with (d|d)|⟨hw,d⟩
   .exact .inl d
   .exact .inr (.inl d.1)
   .exact .inr (.inr (.inl ⟨⟨a,rfl,d⟩,hw⟩))
  .have:a.block<w'.heap.size:=d.elim (hm _) fun x=>Nat.lt_of_lt_of_le (hF.ij x.2) g
   cases wr<;>exact this
 .refine ⟨fun x f=>?_,?_,by cases wr<;>simp[MemAct.ofEvent],an,an⟩
  .have e1:x=⟨.obj r,wr,.plain⟩:=by cases wr<;>simp[MemAct.ofEvent,MemAct.touch?] at f<;>rw[<-f]
   subst e1
   rcases d with d|d
   .exact .inl d
   .exact .inr (.inl d.1)
  .have:=hm _ d
   cases wr<;>exact this
 .cases m<;>simp[pQ] at h<;>exact ⟨fun x d=>by simp[MemAct.ofEvent,MemAct.touch?] at d,trivial,by simp[MemAct.ofEvent],an,an⟩
theorem Jn {ph aX:Ph}{es:Array Event}(h:iH c ph aX es)(F:af){B:Nat}(d:c.Wg<B)(p eU:Nat):∀e∈es,
  (∀x,(MemAct.ofEvent e).touch?=some x->OkG c F B p eU x)/\(MemAct.ofEvent e).low B/\MemAct.ofEvent e≠ .mark (.release (stA c.Wg)):=by
 intro e he
 cases h with
 |book h hd ht hg=>
  rcases h e he with rfl|rfl|⟨a,x,rfl,f⟩
  .exact ⟨fun x b=>by simp[cA,MemAct.ofEvent,MemAct.touch?] at b,trivial,by simp[cA,MemAct.ofEvent]⟩
  .exact ⟨fun x b=>by simp[cA,MemAct.ofEvent,MemAct.touch?] at b,trivial,by simp[cA,MemAct.ofEvent]⟩
  .have hb:a.block<B:=f▸d
   refine ⟨fun y g=>?_,by cases x<;>exact hb,by cases x<;>simp[MemAct.ofEvent]⟩
   have:y=⟨.cell a,x,.atomic⟩:=by cases x<;>simp[MemAct.ofEvent,MemAct.touch?] at g<;>rw[<-g]
   subst this
   exact .inr (.inr (.inr (.inl ⟨.inl ⟨a,rfl,f⟩,an,an⟩)))
 |rel i hd hg=>
  rw[i] at he
  simp only[List.mem_toArray,List.mem_singleton] at he
  subst he
  exact ⟨fun x b=>by simp[cA,MemAct.ofEvent,MemAct.touch?] at b,d,by simp[cA,MemAct.ofEvent]⟩
theorem Jo {ph aX:Ph}{es:Array Event}(h:iH c ph aX es):deafBehind ph.deaf es=aX.deaf:=by
 cases h with
 |book h hd ht hg=>exact hd
 |rel a hd hg=>rw[a,hd.2,hd.1];simp[cA,deafBehind]
theorem Cs {j r:Nat}{ph aX:Ph}{es:Array Event}{fn:FuncId}{pos:String}(h:iH c ph aX es)(hd:Deaf t j=ph.deaf)(i:ph.gp≠ .cnt)(k:dx c.cy t j r):dx c.cy (t++MemOp.ofEvents j fn pos es) j r:=by
 cases h with
 |book h l ht hg=>
  refine k.app fun idx x hi m n=>?_;obtain ⟨z,d,b⟩:=touch_of n;have f:(MemOp.ofEvents j fn pos es)[idx - t.size]?=some z:=by rw[Array.getElem?_append_right hi] at d;exact d
  rw[Go.Conc.ofEvents_eq,Array.getElem?_map] at f;obtain ⟨e,he,rfl⟩:=Option.map_eq_some_iff.1 f;have o:idx - t.size<es.size:=(Array.getElem?_eq_some_iff.1 he).1;rcases ht _ e he with q|q
  .simp only at b;rw[q] at b;cases b
  rcases h e (Array.mem_of_getElem? he) with rfl|rfl|⟨a,y,rfl,p⟩
  .simp[cA,MemAct.ofEvent,MemAct.touch?] at b
  .simp[cA,MemAct.ofEvent,MemAct.touch?] at b
  .have:x=⟨.cell a,y,.atomic⟩:=by cases y<;>simp[MemAct.ofEvent,MemAct.touch?] at b<;>rw[<-b]
   subst this;refine ⟨rfl,?_,a,rfl,p⟩;rintro ⟨g,hg,s⟩;have u:g=j:=by rw[m] at hg;exact (Option.some.inj hg).symm
   subst u;have e1:idx=t.size+(idx - t.size):=aa;rw[e1,Io ph.deaf es (idx - t.size) (Nat.le_of_lt o) t hd] at s;omega
 |rel he l hg=>exact absurd hg i
theorem Jp {j:Nat}{ph aX:Ph}{es:Array Event}{fn:FuncId}{pos:String}(hlen:c.T0<=t.size)(h:iH c ph aX es)(hd:Deaf t j=ph.deaf)(a:ph.gp≠ .cnt->∃r,dx c.cy t j r)(e:aX.gp≠ .cnt):∃r,dx c.cy (t++MemOp.ofEvents j fn pos es) j r:=by
 by_cases b:ph.gp= .cnt
 .cases h with
  |book h d ht hg=>exact absurd (hg.2 b) e
  |rel he d hg=>
   refine ⟨t.size,?_⟩;have f:MemOp.ofEvents j fn pos es=#[{g:=j,fn:=fn,pos:=pos,act:=.mark (.releaseMerge (stA c.Wg))}]:=by rw[Go.Conc.ofEvents_eq,he];simp[cA,MemAct.ofEvent]
   rw[f];have i:(t++#[({g:=j,fn:=fn,pos:=pos,act:=.mark (.releaseMerge (stA c.Wg))}:MemOp)])[t.size]?=some {g:=j,fn:=fn,pos:=pos,act:=.mark (.releaseMerge (stA c.Wg))}:=by
    rw[Array.getElem?_append_right (Nat.le_refl _)];simp
   refine ⟨hlen,act?_of i,by simp[Trace.g?],⟨j,by simp[Trace.g?],by rw[deaf_old (Nat.le_refl _)];exact hd.trans d.1⟩,fun idx x hi m k=>?_⟩;obtain ⟨z,l,_⟩:=touch_of k;have:=lt_size_of_getElem? l;simp at this;omega
 .obtain ⟨r,a⟩:=a b;exact ⟨r,Cs h hd b a⟩
theorem Jq {es:Array Event}(h:EvC c cl cl' es)(F:af){B p:Nat}(i:c.Wg<B)(hC:c.C<B)(k:c.cy.gid p=c.base+c.n):∀e∈es,
  (∀x,(MemAct.ofEvent e).touch?=some x->OkG c F B p (c.base+c.n) x)/\(MemAct.ofEvent e).low B/\MemAct.ofEvent e≠ .mark (.release (stA c.Wg)):=by
 intro e he
 cases h with
 |book l p' d d' e1 e2 h hd=>
  rcases h e he with rfl|rfl|⟨a,g,⟨x,rfl⟩|rfl|rfl⟩
  .exact ⟨fun x f=>by simp[cA,MemAct.ofEvent,MemAct.touch?] at f,trivial,by simp[cA,MemAct.ofEvent]⟩
  .exact ⟨fun x f=>by simp[cA,MemAct.ofEvent,MemAct.touch?] at f,trivial,by simp[cA,MemAct.ofEvent]⟩
  .have hb:a.block<B:=g▸i
   refine ⟨fun y b=>?_,by cases x<;>exact hb,by cases x<;>simp[MemAct.ofEvent]⟩
   have:y=⟨.cell a,x,.atomic⟩:=by cases x<;>simp[MemAct.ofEvent,MemAct.touch?] at b<;>rw[<-b]
   subst this
   exact .inr (.inr (.inr (.inl ⟨.inl ⟨a,rfl,g⟩,an,an⟩)))
  .have hb:a.block<B:=g▸i
   refine ⟨fun y b=>?_,hb,by simp[cA,MemAct.ofEvent]⟩
   have:y=⟨.cell a,false,.said⟩:=by simp[cA,MemAct.ofEvent,MemAct.touch?] at b;rw[<-b]
   subst this
   exact .inr (.inr (.inr (.inl ⟨.inl ⟨a,rfl,g⟩,an,fun _=>k⟩)))
  .have hb:a.block<B:=g▸i
   refine ⟨fun y b=>?_,hb,by simp[cA,MemAct.ofEvent]⟩
   have:y=⟨.cell a,true,.said⟩:=by simp[cA,MemAct.ofEvent,MemAct.touch?] at b;rw[<-b]
   subst this
   exact .inr (.inr (.inr (.inl ⟨.inl ⟨a,rfl,g⟩,an,fun _=>k⟩)))
 |acq j e1 e2=>
  rw[j] at he
  simp only[List.mem_toArray,List.mem_singleton] at he
  subst he
  exact ⟨fun x f=>by simp[cA,MemAct.ofEvent,MemAct.touch?] at f,i,by simp[cA,MemAct.ofEvent]⟩
 |close j e1 e2=>
  rw[j] at he
  simp only[List.mem_toArray,List.mem_cons,List.not_mem_nil,or_false] at he
  rcases he with rfl|rfl
  .refine ⟨fun y b=>?_,hC,by simp[MemAct.ofEvent]⟩
   have:y=⟨.obj c.C,false,.atomic⟩:=by simp[MemAct.ofEvent,MemAct.touch?] at b;rw[<-b]
   subst this
   exact .inr (.inr (.inr (.inl ⟨.inr rfl,an,an⟩)))
  .exact ⟨fun x f=>by simp[MemAct.ofEvent,MemAct.touch?] at f,hC,by simp[MemAct.ofEvent]⟩
theorem Jr {es:Array Event}(h:EvC c cl cl' es):deafBehind cl.deaf es=cl'.deaf:=by
 cases h with
 |book b p' d d' e1 e2 h hd=>rw[e1,e2];exact hd
 |acq a e1 e2=>rw[a,e1,e2];simp[cA,deafBehind,Cl.deaf]
 |close a e1 e2=>rw[a,e1,e2];simp[deafBehind,Cl.deaf]
theorem Js {es:Array Event}(h:EvC c cl cl' es):cl.born=true/\cl'.born=true/\cl.ek=false:=by
 cases h with
 |book b p' d d' e1 e2 h hd=>rw[e1,e2];exact ⟨rfl,rfl,rfl⟩
 |acq a e1 e2=>rw[e1,e2];exact ⟨rfl,rfl,rfl⟩
 |close a e1 e2=>rw[e1,e2];exact ⟨rfl,rfl,rfl⟩
theorem Ct {es:Array Event}{fn:FuncId}{pos:String}{eU:Nat}{B:Nat}(h:EvC c cl cl' es)(ht:dN c bl K eU Fr B t)(hd:Deaf t (c.base+c.n)=cl.deaf)(v:cl.p0= .cZ->∀i,i<c.n->∃r,dx c.cy t (c.base+i) r)
  (w:∀p d,cl= .on p d true->p= .cZ/\∀i,i<c.n->∃r,dx c.cy t (c.base+i) r/\Go.Conc.Knows t (c.base+c.n) r):
  (∀p d,cl'= .on p d true->p= .cZ/\∀i,i<c.n->∃r,dx c.cy (t++MemOp.ofEvents (c.base+c.n) fn pos es) (c.base+i) r/\Go.Conc.Knows (t++MemOp.ofEvents (c.base+c.n) fn pos es) (c.base+c.n) r)/\(cl'.ek=true->∃m,mZ c (t++MemOp.ofEvents (c.base+c.n) fn pos es) m):=by
 have hu:∀op∈MemOp.ofEvents (c.base+c.n) fn pos es,op.g=c.base+c.n:=fun op b=>by obtain ⟨e,_,rfl⟩:=Go.Conc.mem_ofEvents b;rfl
 have ext:∀i,i<c.n->∀r,dx c.cy t (c.base+i) r->dx c.cy (t++MemOp.ofEvents (c.base+c.n) fn pos es) (c.base+i) r:=fun i hi r f=>f.other aa hu
 cases h with
 |book E p' d d' e1 e2 h F=>
  subst e1 e2
  exact ⟨fun p d e=>(by cases e),fun e=>by cases e⟩
 |acq l e1 e2=>
  subst e1 e2
  refine ⟨fun p d e=>⟨(by cases e;rfl),fun i hi=>?_⟩,fun e=>by cases e⟩
  obtain ⟨r,f⟩:=v rfl i hi
  refine ⟨r,ext i hi r f,?_⟩
  have b:MemOp.ofEvents (c.base+c.n) fn pos es=#[{g:=c.base+c.n,fn:=fn,pos:=pos,act:=.mark (.acquire (stA c.Wg))}]:=by rw[Go.Conc.ofEvents_eq,l];simp[cA,MemAct.ofEvent]
  rw[b]
  have s:(t++#[({g:=c.base+c.n,fn:=fn,pos:=pos,act:=.mark (.acquire (stA c.Wg))}:MemOp)])[t.size]?=some {g:=c.base+c.n,fn:=fn,pos:=pos,act:=.mark (.acquire (stA c.Wg))}:=by
   rw[Array.getElem?_append_right (Nat.le_refl _)];simp
  have o:=lt_of_act? f.act
  have norel:=s7 (u:=#[({g:=c.base+c.n,fn:=fn,pos:=pos,act:=.mark (.acquire (stA c.Wg))}:MemOp)]) ht.norel fun op b=>by
   simp only[List.mem_toArray,List.mem_cons,List.not_mem_nil,or_false] at b
   rw[b];simp
  exact ⟨t.size,_,s,rfl,.inr (.single (.inr ⟨.marked (a:=stA c.Wg) o (.inr (by rw[act?_old o];exact f.act)) (act?_of s) (fun k q _=>norel k (Nat.le_of_lt (Nat.lt_of_le_of_lt f.late q))),(heard_old o).2 f.heard,⟨c.base+c.n,by simp[Trace.g?],by rw[deaf_old (Nat.le_refl _)];exact hd⟩⟩))⟩
 |close l e1 e2=>
  subst e1 e2
  refine ⟨fun p d e=>(by cases e),fun _=>⟨t.size+1,?_⟩⟩
  have b:MemOp.ofEvents (c.base+c.n) fn pos es=#[{g:=c.base+c.n,fn:=fn,pos:=pos,act:=.access ⟨.obj c.C,false,true⟩},{g:=c.base+c.n,fn:=fn,pos:=pos,act:=.close c.C}]:=by rw[Go.Conc.ofEvents_eq,l];simp[MemAct.ofEvent]
  have y:(t++MemOp.ofEvents (c.base+c.n) fn pos es)[t.size]?=some {g:=c.base+c.n,fn:=fn,pos:=pos,act:=.access ⟨.obj c.C,false,true⟩}:=by
   rw[b,Array.getElem?_append_right (Nat.le_refl _)];simp
  have j:(t++MemOp.ofEvents (c.base+c.n) fn pos es)[t.size+1]?=some {g:=c.base+c.n,fn:=fn,pos:=pos,act:=.close c.C}:=by
   rw[b,Array.getElem?_append_right aa];simp
  refine ⟨act?_of j,by simp[Trace.g?,j],⟨c.base+c.n,by simp[Trace.g?,j],?_⟩,fun i hi=>?_,fun i x G hg A=>?_⟩
  .rw[deaf_succ y,deaf_old (Nat.le_refl _)]
   exact hd
  .obtain ⟨r,f,q⟩:=(w _ _ rfl).2 i hi
   exact ⟨r,ext i hi r f,q.hb_new aa j rfl⟩
  .obtain ⟨z,D,_⟩:=touch_of A
   have:=lt_size_of_getElem? D
   rw[b] at this
   simp at this
   omega
end
inductive Cu (c:Gy)(cl':Cl)(x0 cX:Goroutine)(F F':af)(s s':Sg):Prop
 |same (h:cX=x0) (hF:F'=F) (hg:s'.got=s.got)
 |pI (g:Goroutine) (h:x0=parked g #[rcase c.C c.z] (.recv true)) (hs:cl'.ek=true) (h':cX={x0 with status:=.running}) (hF:F'=F) (hg:s'.got=s.got)
 |got (g:Goroutine) (h:x0=parked g #[rcase c.C c.z] (.recv true)) (i:Nat) (v:Value) (R:hO) (hi:i<c.n) (hn:i∉s.got) (hR:c.pay i=some R) (hv:R F'.ro v) (he:Ext F.ro F'.ro) (ho:F'.own=F.own) (h':cX=Go.Conc.served g (.tuple #[v,.bool true])) (hg:s'.got=s.got++[i])
theorem tN.rel {c:Gy}{cl':Cl}{x0 cX:Goroutine}(h:tN c cl' x0 cX){F F':af}{s s':Sg}(hF:F'=F)(hg:s'.got=s.got):Cu c cl' x0 cX F F' s s':=by
 cases h with
 |same h=>exact .same h hF hg
 |pI g h hs h'=>exact .pI g h hs h' hF hg
structure Jt (c:Gy)(bl:Loc->Prop)(cl:Cl)(d0 k:Nat)(x0:Goroutine)(F0:af)(gs:Array Goroutine)(t:Trace)(ρ:Nat->Rk)(s:Sg)(m:Machine)(ops:Array MemOp)(sl:Option (Nat×Nat)):Prop where
 ex:∃(gs':Array Goroutine) (w':World) (ρ':Nat->Rk) (φ':Nat->Ph) (b6:Nat->af) (s':Sg) (cl':Cl) (cX:Goroutine),m=crowd gs' w' sl/\cU c bl cl' d0 k cX b6 gs' w' (t++ops) ρ' φ' s'/\
  gs'.size=gs.size/\cl'.born=cl.born/\(cl.born=false->cl'=cl)/\zv gs.size (ρ',runs gs') (ρ,runs gs)/\Cu c cl' x0 cX F0 (b6 0) s s'
section
variable {c:Gy}{bl:Loc->Prop}{cl cl':Cl}{d0 k K:Nat}{x0:Goroutine}{Fr b6:Nat->af}{gs:Array Goroutine}{w w':World}{t u:Trace}{ρ:Nat->Rk}{φ:Nat->Ph}{s:Sg}
theorem c5.keep (h:c5 c w s cl)(he:∀b,c.cy.shared b->w'.heap[b]?=w.heap[b]?):c5 c w' s cl:=by
 obtain ⟨a,d⟩:=h;refine ⟨?_,?_⟩
 .unfold WgAt at*;rw[he _ (.inr (.inl rfl))];exact a
 .rw[he _ (.inl rfl)];exact d
theorem Ju (h:cU c bl cl d0 k x0 Fr gs w t ρ φ s)(hb:cl.born=true):c.jy cl=c.base+c.n:=by cases cl<;>simp[Cl.born] at hb<;>rfl
theorem cU.x5 (h:cU c bl cl d0 k x0 Fr gs w t ρ φ s){p:Nat}(g:p<=cl.emp k){F':af}{es:Array Event}{fn:FuncId}{pos:String}(hF:Has (Fr p) w)(hu:dO (Fr p) F' w w')(f:∀e∈es,gN (Fr p).ro (gr (Fr p) w.heap.size w'.heap.size) e):
  dN c bl (cl.emp k) (c.jy cl) (upd Fr p F') w'.heap.size (t++MemOp.ofEvents (c.cy.gid p) fn pos es):=
 dN.app h.base h.parts h.gm g hu.size (fun op b=>by obtain ⟨e,_,rfl⟩:=Go.Conc.mem_ofEvents b;rfl)
  (fun op b z i=>by obtain ⟨e,he,rfl⟩:=Go.Conc.mem_ofEvents b;exact (pK hF hu.size (f e he) p _).1 z i)
  (fun op b=>by obtain ⟨e,he,rfl⟩:=Go.Conc.mem_ofEvents b;exact (pK (c:=c) hF hu.size (f e he) p 0).2.1)
  (fun op b=>by obtain ⟨e,he,rfl⟩:=Go.Conc.mem_ofEvents b;exact (pK (c:=c) hF hu.size (f e he) p 0).2.2.1) (fun q j=>upd_ne _ _ j)
  (fun l d=>by
   rw[upd_same] at d
   cases l with
   |cell a=>exact hu.own _ d
   |obj r=>exact hu.own _ d
   |_=>exact d.elim)
  (fun l d=>by
   rw[upd_same] at d
   obtain ⟨a,rfl,m⟩:=d
   rcases hu.ro a m with z|z|z
   .exact .inl ⟨a,rfl,z⟩
   .exact .inr (.inl z)
   .exact .inr (.inr z))
theorem cU.x6 (h:cU c bl cl d0 k x0 Fr gs w t ρ φ s){p:Nat}(i:p<=cl.emp k){F':af}{es:Array Event}{fn:FuncId}{pos:String}(hle:Le F' (Fr p)){g:Nat}(j:g=w.heap.size)
  (f:∀e∈es,(∀x,(MemAct.ofEvent e).touch?=some x->OkG c (Fr p) w.heap.size p (c.jy cl) x)/\(MemAct.ofEvent e).low w.heap.size/\MemAct.ofEvent e≠ .mark (.release (stA c.Wg))):
  dN c bl (cl.emp k) (c.jy cl) (upd Fr p F') g (t++MemOp.ofEvents (c.cy.gid p) fn pos es):=by
 subst j
 exact dN.app h.base h.parts h.gm i (Nat.le_refl _) (fun op b=>by obtain ⟨e,_,rfl⟩:=Go.Conc.mem_ofEvents b;rfl)
  (fun op b z m=>by obtain ⟨e,he,rfl⟩:=Go.Conc.mem_ofEvents b;exact (f e he).1 z m)
  (fun op b=>by obtain ⟨e,he,rfl⟩:=Go.Conc.mem_ofEvents b;exact (f e he).2.1)
  (fun op b=>by obtain ⟨e,he,rfl⟩:=Go.Conc.mem_ofEvents b;exact (f e he).2.2) (fun q n=>upd_ne _ _ n)
  (fun l d=>by
   rw[upd_same] at d
   exact .inl (hle.s8 d))
  (fun l d=>by
   rw[upd_same] at d
   obtain ⟨a,rfl,o⟩:=d
   rcases hle.ro a o with z|z
   .exact .inl ⟨a,rfl,z⟩
   .exact .inr (.inl z))
theorem cU.other (h:cU c bl cl d0 k x0 Fr gs w t ρ φ s){j:Nat}{x:Goroutine}(T:0<j)(B:gs[j]?=some x)(F:x.status= .running)(sl:Option (Nat×Nat)):
  ∃m ops,runT c.P (crowd gs w sl) j=(.next m,ops)/\Jt c bl cl d0 k x0 (Fr 0) gs t ρ s m ops sl:=by
 have U:j<gs.size:=(Array.getElem?_eq_some_iff.1 B).1
 have Q:(j==0)=false:=by simp;omega
 have bk:=h.size
 have ft:=h.base
 have cf:c.Wg<w.heap.size:=h.parts.fS _ (.inr (.inl rfl))
 have hC:c.C<w.heap.size:=h.parts.fS _ (.inl rfl)
 rcases Nat.lt_or_ge j c.base with cv|cv
 ·
  obtain ⟨q,a4,Z⟩:=h.old j x T cv B
  cases q with
  |zero=>rw[Z.1] at F;cases F
  |succ q=>
   rcases Z with ⟨a5,_⟩|⟨_,x',es,hm,J,ao⟩
   .rw[a5] at F;cases F
   have l:=runT_crowd_go (P:=c.P) (gs:=gs) (w:=w) (sl:=sl) (i:=j) B (by rw[Q];exact J w)
   obtain ⟨cX,E,I⟩:=h.gL (x':=x') (w':=w) (es:=es) (fn:=x.frame.fn) (pos:=x.frame.place) (ρ':=iD ρ j (Rk.nat q)) (φ':=φ) (b6:=Fr) (s':=s) (cl':=cl) T B rfl (fun _=>rfl) (.inr ⟨Int.le_refl _,rfl⟩) (fun M G=>gK _ _ G) (fun _ _=>rfl) (fun _ _=>rfl)
    (fun _=>⟨q,jv _ _ _,by rw[Deaf_own];exact ao⟩) (fun i e _=>aa) (fun e _=>aa) h.parts h.sh h.inv (h.gm.mute hm) h.env
   exact ⟨_,_,l,⟨_,w,_,φ,Fr,s,cl,cX,rfl,E,an,rfl,fun _=>rfl,.inl (lg U (by rw[a4];exact Rk.uM q)),I.rel rfl rfl⟩⟩
 rcases Nat.lt_or_ge (j - c.base) k with ab|ab
 ·
  obtain ⟨i,rfl⟩:∃i,j=c.base+i:=⟨j - c.base,aa⟩
  replace ab:i<k:=aa
  have a6:i<c.n:=Nat.lt_of_lt_of_le ab h.inv.kn
  have hK:i+1<=cl.emp k:=by have:=Cl.xY cl k;omega
  have bm:c.base+i≠c.base+c.n:=aa
  obtain ⟨y,a7,hW⟩:=h.wk i ab
  obtain rfl:y=x:=by rw[B] at a7;exact (Option.some.inj a7).symm
  have G:∀A,c.base+A≠c.base+i->A≠i:=fun A K e=>K (by rw[e])
  have a8:∀p,c.cy.gid p≠c.base+i->p≠i+1:=fun p D e=>D (by subst e;rfl)
  have hd:=h.deaf i ab
  have V:=h.parts.has (i+1) hK
  rcases hW with ⟨hg,q,a4,Z⟩|⟨hg,_,hW⟩|⟨_,_,_,g,v,z,R,fu,F',e,_⟩
  ·
   cases q with
   |zero=>rw[Z.1] at F;cases F
   |succ q=>
    rcases Z with ⟨a5,_⟩|⟨_,x',es,hm,J,ao⟩
    .rw[a5] at F;cases F
    have l:=runT_crowd_go (P:=c.P) (gs:=gs) (w:=w) (sl:=sl) (i:=c.base+i) B (by rw[Q];exact J w)
    have hinv:cW c k (upd φ i {φ i with deaf:=deafBehind (φ i).deaf es}) cl s:=h.inv.gL a6 rfl (by rw[hg];simp) (by rw[hg];simp) rfl rfl (q3 h.inv.w a6 _ (.inl rfl)) (fun _ D=>h.inv.done i a6 (by rw[hg];simp) (by rw[hg];simp) D)
    have rx:∀r,dx c.cy t (c.base+i) r->dx c.cy (t++MemOp.ofEvents (c.base+i) y.frame.fn y.frame.place es) (c.base+i) r:=fun r l=>pJ l fun op W=>by
     obtain ⟨e,he,rfl⟩:=Go.Conc.mem_ofEvents W
     exact touch_mute (hm e he)
    obtain ⟨cX,E,I⟩:=h.gL (x':=x') (w':=w) (es:=es) (fn:=y.frame.fn) (pos:=y.frame.place) (ρ':=iD ρ (c.base+i) (Rk.nat q)) (φ':=upd φ i {φ i with deaf:=deafBehind (φ i).deaf es}) (b6:=Fr) (s':=s) (cl':=cl) T B rfl (fun _=>rfl) (.inr ⟨Int.le_refl _,rfl⟩) (fun M G=>gK _ _ G) (fun A K=>upd_ne _ _ (G A K)) (fun _ _=>rfl)
     (fun K=>aa) (fun A e L=>by
      obtain rfl:A=i:=aa
      rw[jv,upd_same]
      refine ⟨.inl ⟨hg,q,rfl,ao⟩,by rw[Deaf_own,hd],fun _=>?_,fun _=>rx,by rcases ao.status with e|e<;>rw[e]<;>simp⟩
      obtain ⟨r,l⟩:=h.rel A ab (by rw[hg];simp)
      exact ⟨r,rx r l⟩) (fun e _=>absurd e bm) h.parts h.sh hinv (h.gm.mute hm) h.env
    exact ⟨_,_,l,⟨_,w,_,_,Fr,s,cl,cX,rfl,E,an,rfl,fun _=>rfl,.inl (lg U (by rw[a4];exact Rk.uM q)),I.rel rfl rfl⟩⟩
  .cases X:ρ (c.base+i) with
   |mk ι f=>
    rw[X] at hW
    rcases hW with ⟨dC,_⟩|⟨_,_,ar,bo⟩|⟨_,_,_,bc⟩|⟨_,_,ar,cS,c0,v,z,R,br,F',hR,hv,J,hle,S⟩
    .exact absurd dC hg
    ·
     obtain ⟨N,x',w',es,F',J,hu,bs,H,S⟩:=bo w V
     have l:=runT_crowd_go (P:=c.P) (gs:=gs) (w:=w) (sl:=sl) (i:=c.base+i) B (by rw[Q];exact J)
     obtain ⟨bS,ae,a9⟩:=S.x4
     have b0:Deaf (t++MemOp.ofEvents (c.base+i) y.frame.fn y.frame.place es) (c.base+i)=(φ i).deaf:=by
      rw[Deaf_own,deafBehind_still (fun e he=>(pK (c:=c) V hu.size (H e he) 0 0).2.2.2)]
      exact hd
     obtain ⟨cX,E,I⟩:=h.gL (x':=x') (w':=w') (es:=es) (fn:=y.frame.fn) (pos:=y.frame.place) (ρ':=iD ρ (c.base+i) (f N)) (φ':=φ) (b6:=upd Fr (i+1) F') (s':=s) (cl':=cl) T B rfl (fun _=>rfl) (.inr ⟨Int.le_refl _,rfl⟩) (fun M G=>gK _ _ G) (fun _ _=>rfl) (fun p D=>upd_ne _ _ (a8 p D))
      (fun K=>aa) (fun A e L=>by
       obtain rfl:A=i:=aa
       rw[jv,upd_same]
       exact ⟨bS,b0,fun O=>absurd ar O,fun O=>absurd ar O,ae⟩) (fun e _=>absurd e bm) (h.parts.walk hK hu bs)
      (h.sh.keep fun b hb=>hu.frame b (h.parts.fS b hb) (fun hm=>h.parts.gJ (i+1) hK b hm hb)) h.inv (h.x5 hK V hu H) (h.env.walk h.parts hK hu)
     exact ⟨_,_,l,⟨_,w',_,_,_,s,cl,cX,rfl,E,an,rfl,fun _=>rfl,.inl (lg U (by rw[X];exact ⟨N,rfl⟩)),I.rel (upd_ne _ _ aa) rfl⟩⟩
    ·
     obtain ⟨N,x',w',es,s',aX,F',J,b1,al,hinv,b4,H,ca,hle,S⟩:=bc w s k φ cl V h.sh a6 rfl h.inv
     have l:=runT_crowd_go (P:=c.P) (gs:=gs) (w:=w) (sl:=sl) (i:=c.base+i) B (by rw[Q];exact J)
     obtain ⟨bS,ae,a9⟩:=S.x4
     obtain ⟨cX,E,I⟩:=h.gL (x':=x') (w':=w') (es:=es) (fn:=y.frame.fn) (pos:=y.frame.place) (ρ':=iD ρ (c.base+i) (f N)) (φ':=upd φ i aX) (b6:=upd Fr (i+1) F') (s':=s') (cl':=cl) T B rfl (fun _=>rfl) (ca.imp (fun z=>⟨z,ae,a9⟩) fun z=>⟨z,rfl⟩) (fun M G=>gK _ _ G) (fun A K=>upd_ne _ _ (G A K)) (fun p D=>upd_ne _ _ (a8 p D))
      (fun K=>aa) (fun A e L=>by
       obtain rfl:A=i:=aa
       rw[jv,upd_same,upd_same]
       exact ⟨bS,by rw[Deaf_own,hd];exact Jo H,fun O=>Jp h.gm.len H hd (fun dE=>h.rel A ab dE) O,fun O r l=>Cs H hd O l,ae⟩) (fun e _=>absurd e bm) (h.parts.act hK al hle)
      b1 hinv (h.x6 hK hle al.size fun e he=>Jn H (Fr (i+1)) cf (i+1) _ e he) (h.env.act hK al hle)
     exact ⟨_,_,l,⟨_,w',_,_,_,s',cl,cX,rfl,E,an,rfl,fun _=>rfl,.inl (lg U (by rw[X];exact ⟨N,rfl⟩)),I.rel (upd_ne _ _ aa) b4⟩⟩
    ·
     have dT:cl.ek=false:=by
      cases hs:cl.ek with
      |false=>rfl
      |true=>have:=h.inv.gone (Cl.lF hs) a6 (Cl.pH hs);rw[ar] at this;cases this
     have O:=h.sh.2
     rw[dT] at O
     have da:(ρ (c.base+i)).kids (f br):=by rw[X];exact ⟨br,rfl⟩
     have db:∀fn pos,MemOp.ofEvents (c.base+i) fn pos #[]=#[]:=fun _ _=>by simp[MemOp.ofEvents]
     have dd:∀Y (ad:Goroutine),Y≠0->(gs.setIfInBounds (c.base+i) Go.Conc.ph)[Y]?=some ad->offersAt ad c.C false=[]:=fun Y ad a0 hg=>by
      rcases getElem?_stand gs _ Y ad hg with ⟨_,rfl⟩|⟨_,hg⟩
      .exact offersAt_ph _ _
      .exact (h.offers aa hg).1
     rcases h.pG with df|⟨ea,g,hg,D⟩
     ·
      have l:=crowd_waits (P:=c.P) (gs:=gs) (w:=w) (sl:=sl) (i:=c.base+i) B (by rw[Q];exact J w) (fun fv dk=>by
       simp only[List.mem_toArray,List.mem_singleton] at dk
       subst dk
       refine ways_send_none O (Nat.zero_le _) (partners_nil fun Y ad hg=>?_)
       rcases Nat.eq_zero_or_pos Y with rfl|fw
       .rw[Array.getElem?_setIfInBounds_ne aa,h.g0] at hg
        cases hg
        exact offersAt_of_not_blocked (by rw[df];simp) _ _
       .exact dd Y ad aa hg)
      rw[db] at l
      refine ⟨_,_,l,⟨_,w,ρ,φ,Fr,s,cl,x0,rfl,?_,an,rfl,fun _=>rfl,.inr ⟨rfl,wZ B F (by simp[parked])⟩,.same rfl rfl rfl⟩⟩
      rw[show t++(#[]:Array MemOp)=t by simp]
      refine ⟨by simpa using bk,h.base,by rw[Array.getElem?_setIfInBounds_ne aa];exact h.g0,.inl df,fun M ba a0 hb a2=>?_,fun A L=>?_,fun hb=>?_,h.deaf,h.kD,fun M eb=>h.above M (by simpa using eb),h.deaf0,h.parts,h.sh,h.inv,h.gm,h.rel,h.acq,h.jY,h.env,h.ne⟩
      .rw[Array.getElem?_setIfInBounds_ne aa] at a2
       exact h.old M ba a0 hb a2
      .by_cases e:A=i
       .subst e
        exact ⟨_,Array.getElem?_setIfInBounds_self_of_lt U,.inr (.inr ⟨ar,cS,c0,y,v,z,R,f br,F',rfl,hR,hv,da,hle,S⟩)⟩
       .obtain ⟨ba,a2,ec⟩:=h.wk A L
        exact ⟨ba,by rw[Array.getElem?_setIfInBounds_ne aa];exact a2,ec⟩
      .obtain ⟨ba,a2,ed⟩:=h.ck hb
       exact ⟨ba,by rw[Array.getElem?_setIfInBounds_ne aa];exact a2,ed⟩
     ·
      have dp:gs[0]?=some (parked g #[rcase c.C c.z] (.recv true)):=by rw[h.g0,hg]
      have hb:cl.born=true:=D.2.2.2.1
      have eh:partners (gs.setIfInBounds (c.base+i) Go.Conc.ph) c.C false=[(0,0)]:=by
       rw[partners_one (stand_get aa dp) (fun Y ad a0 et=>dd Y ad a0 et),offersAt_parked_recv,if_pos rfl]
       rfl
      have l:=crowd_send_meets (P:=c.P) (gs:=gs) (w:=w) (sl:=sl) (i:=c.base+i) (j:=0) B (by rw[Q];exact J w) O aa dp eh
      rw[finishComm_recv,finishComm_send,db] at l
      have ev:w.at w.drawn=w:=by cases w;rfl
      obtain ⟨ρ',φ',b6,s',E,eQ,cb,eS,e0,e1,e3,fa⟩:=h.meet ea hb ab ar cS c0 hR hv da hle (y0:=Go.Conc.served g (.tuple #[v,.bool true])) (yi:=Go.Conc.served y undef) rfl S rfl
       (gs':=(gs.setIfInBounds 0 (Go.Conc.served g (.tuple #[v,.bool true]))).setIfInBounds (c.base+i) (Go.Conc.served y undef)) an (by rw[Array.getElem?_setIfInBounds_ne aa];exact Array.getElem?_setIfInBounds_self_of_lt aa) (Array.getElem?_setIfInBounds_self_of_lt (by simpa using U))
       (fun M a0 cb=>by rw[Array.getElem?_setIfInBounds_ne (Ne.symm cb),Array.getElem?_setIfInBounds_ne (Ne.symm a0)])
       (u:=#[{g:=c.base+i,fn:=y.frame.fn,pos:=y.frame.place,act:=.send c.C s.got.length},{g:=0,fn:=g.frame.fn,pos:=g.frame.place,act:=.recv c.C s.got.length 0},{g:=c.base+i,fn:=y.frame.fn,pos:=y.frame.place,act:=.sendDone c.C s.got.length},{g:=0,fn:=g.frame.fn,pos:=g.frame.place,act:=.recvDone c.C s.got.length}])
       ⟨_,_,_,_,rfl,⟨rfl,rfl⟩,⟨rfl,rfl⟩,⟨rfl,rfl⟩,rfl,rfl⟩ w.drawn
      rw[ev] at E
      refine ⟨_,_,l,⟨_,_,ρ',φ',b6,s',cl,_,rfl,?_,an,rfl,fun _=>rfl,.inl eQ,.got g hg i v R cb eS hR e0 e1 e3 rfl fa⟩⟩
      rw[Array.empty_append]
      exact E
  .rw[e] at F;cases F
 ·
  have hb:cl.born=true:=by
   cases hb:cl.born with
   |true=>rfl
   |false=>rw[Cl.xX hb] at bk;omega
  have fb:=Cl.tL hb k
  have dq:=h.inv.all hb
  rw[fb] at bk
  obtain rfl:j=c.base+c.n:=aa
  have hK:c.n+1<=cl.emp k:=aa
  have V:=h.parts.has (c.n+1) hK
  have a8:∀p,c.cy.gid p≠c.base+c.n->p≠c.n+1:=fun p D e=>D (by subst e;rfl)
  have hd:=h.kD hb
  have fc:=Ju h hb
  have fx:∀op∈MemOp.ofEvents (c.base+c.n) x.frame.fn x.frame.place #[],op.g=c.base+c.n:=fun op W=>by obtain ⟨e,_,rfl⟩:=Go.Conc.mem_ofEvents W;rfl
  have bd:∀i,i<k->c.base+i≠c.base+c.n:=fun i hi=>aa
  have ds:cl.p0= .cZ->∀i,i<c.n->∃r,dx c.cy t (c.base+i) r:=fun D i hi=>h.rel i aa (by rw[h.inv.gone D hi hb];simp)
  obtain ⟨y,a7,fg⟩:=h.ck hb
  obtain rfl:y=x:=by rw[B] at a7;exact (Option.some.inj a7).symm
  rcases fg with ⟨d,q,a3,a4,Z⟩|⟨p,d,a,a3,cc,dt,J⟩
  ·
   subst a3
   cases q with
   |zero=>rw[Z.1] at F;cases F
   |succ q=>
    rcases Z with ⟨a5,_⟩|⟨_,x',es,hm,J,ao⟩
    .rw[a5] at F;cases F
    have l:=runT_crowd_go (P:=c.P) (gs:=gs) (w:=w) (sl:=sl) (i:=c.base+c.n) B (by rw[Q];exact J w)
    obtain ⟨m,fh⟩:=h.jY rfl
    obtain ⟨cX,E,I⟩:=h.gL (x':=x') (w':=w) (es:=es) (fn:=y.frame.fn) (pos:=y.frame.place) (ρ':=iD ρ (c.base+c.n) (Rk.nat q)) (φ':=φ) (b6:=Fr) (s':=s) (cl':=.shut (deafBehind d es)) T B rfl (fun e=>absurd rfl e) (.inr ⟨Int.le_refl _,rfl⟩) (fun M G=>gK _ _ G) (fun _ _=>rfl) (fun _ _=>rfl)
     (fun K=>aa) (fun A e L=>absurd e.symm (bd A L)) (fun _ _=>by
      rw[jv]
      exact ⟨.inl ⟨_,q,rfl,rfl,ao⟩,by rw[Deaf_own,hd];rfl,fun p du e=>(by cases e),fun _=>⟨m,fh.app (fun i r hi l=>l.other (g':=c.base+c.n) aa fun op W=>by obtain ⟨e,_,rfl⟩:=Go.Conc.mem_ofEvents W;rfl) fun op W _=>by obtain ⟨e,he,rfl⟩:=Go.Conc.mem_ofEvents W;exact touch_mute (hm e he)⟩⟩)
     h.parts h.sh (h.inv.group h.inv.w rfl rfl) (h.gm.mute hm) h.env
    exact ⟨_,_,l,⟨_,w,_,φ,Fr,s,_,cX,rfl,E,an,rfl,(fun e=>(by rw[hb] at e;cases e)),.inl (lg U (by rw[a4];exact Rk.uM q)),I.rel rfl rfl⟩⟩
  .have ex:({y with status:=.running}:Goroutine)=y:=by cases y;simp_all
   rw[ex] at cc
   cases X:ρ (c.base+c.n) with
   |mk ι f=>
    rw[X] at cc
    rcases cc with ⟨d',q,e,_⟩|⟨_,_,⟨p',d',fi,bj,fz⟩,bo⟩|⟨_,_,_,bc⟩
    .rw[a3] at e;cases e
    ·
     obtain ⟨N,x',w',es,F',bb,hu,bs,H,S⟩:=bo w V
     have l:=runT_crowd_go (P:=c.P) (gs:=gs) (w:=w) (sl:=sl) (i:=c.base+c.n) B (by rw[Q];exact bb)
     obtain ⟨cd,ae,a9⟩:=S.cat s
     have fj:∀op∈MemOp.ofEvents (c.base+c.n) y.frame.fn y.frame.place es,op.g=c.base+c.n:=fun op W=>by obtain ⟨e,_,rfl⟩:=Go.Conc.mem_ofEvents W;rfl
     have b0:Deaf (t++MemOp.ofEvents (c.base+c.n) y.frame.fn y.frame.place es) (c.base+c.n)=cl.deaf:=by
      rw[Deaf_own,deafBehind_still (fun e he=>(pK (c:=c) V hu.size (H e he) 0 0).2.2.2)]
      exact hd
     obtain ⟨cX,E,I⟩:=h.gL (x':=x') (w':=w') (es:=es) (fn:=y.frame.fn) (pos:=y.frame.place) (ρ':=iD ρ (c.base+c.n) (f N)) (φ':=φ) (b6:=upd Fr (c.n+1) F') (s':=s) (cl':=cl) T B rfl (fun _=>rfl) (.inr ⟨Int.le_refl _,rfl⟩) (fun M G=>gK _ _ G) (fun _ _=>rfl) (fun p D=>upd_ne _ _ (a8 p D))
      (fun K=>aa) (fun A e L=>absurd e.symm (bd A L)) (fun _ _=>by
       rw[jv,upd_same]
       refine ⟨cd,b0,fun p du e=>?_,fun hs=>by rw[bj] at hs;cases hs⟩
       obtain ⟨D,fl⟩:=h.acq p du e
       refine ⟨D,fun i hi=>?_⟩
       obtain ⟨r,l,fp⟩:=fl i hi
       exact ⟨r,l.other (g':=c.base+c.n) aa fj,fp.app _⟩) (h.parts.walk hK hu bs)
      (h.sh.keep fun b hb=>hu.frame b (h.parts.fS b hb) (fun hm=>h.parts.gJ (c.n+1) hK b hm hb)) h.inv (h.x5 hK V hu H) (h.env.walk h.parts hK hu)
     exact ⟨_,_,l,⟨_,w',_,_,_,s,cl,cX,rfl,E,an,rfl,fun _=>rfl,.inl (lg U (by rw[X];exact ⟨N,rfl⟩)),I.rel (upd_ne _ _ aa) rfl⟩⟩
    .rcases bc w s φ V h.sh (by rw[<-dq];exact h.inv) with ⟨d',fi,bj,fr,bb⟩|⟨N,x',w',es,s',cl',F',bb,b1,al,hinv,b4,H,ca,hle,S⟩
     ·
      have l:=runT_crowd_go (P:=c.P) (gs:=gs) (w:=w) (sl:=sl) (i:=c.base+c.n) B (by rw[Q];exact bb)
      have fs:gs.map (woken c.P y {y with status:=.blocked} w)=gs:=by
       have:woken c.P y {y with status:=.blocked} w=id:=by funext o;unfold Go.Conc.woken;simp
       rw[this,Array.map_id]
      have he:t++MemOp.ofEvents (c.base+c.n) y.frame.fn y.frame.place #[]=t:=by simp[MemOp.ofEvents]
      obtain ⟨cX,E,I⟩:=h.gL (x':={y with status:=.blocked}) (w':=w) (es:=#[]) (fn:=y.frame.fn) (pos:=y.frame.place) (ρ':=ρ) (φ':=φ) (b6:=Fr) (s':=s) (cl':=cl) T B rfl (fun _=>rfl) (.inr ⟨Int.le_refl _,rfl⟩) (fun _ _=>rfl) (fun _ _=>rfl) (fun _ _=>rfl)
       (fun K=>aa) (fun A e L=>absurd e.symm (bd A L)) (fun _ _=>by
        rw[he]
        refine ⟨.inr ⟨p,d,a,a3,?_,dt,.inr ⟨rfl,?_,fr⟩⟩,hd,h.acq,h.jY⟩
        .have e2:({({y with status:=.blocked}:Goroutine) with status:=.running}:Goroutine)=y:=by cases y;simp_all
         rw[e2,X]
         exact .inr (.inr ⟨F,dt,⟨p,d,a,a3⟩,bc⟩)
        .rw[a3] at bj;cases bj;rfl)
       h.parts h.sh h.inv (by rw[he];exact h.gm) h.env
      refine ⟨_,_,l,⟨_,w,ρ,φ,Fr,s,cl,cX,rfl,E,an,rfl,fun _=>rfl,.inr ⟨rfl,?_⟩,I.rel rfl rfl⟩⟩
      rw[fs];exact wZ B F an
     ·
      have l:=runT_crowd_go (P:=c.P) (gs:=gs) (w:=w) (sl:=sl) (i:=c.base+c.n) B (by rw[Q];exact bb)
      obtain ⟨cd,ae,a9⟩:=S.cat s'
      obtain ⟨dv,b2,b3⟩:=Js H
      obtain ⟨cX,E,I⟩:=h.gL (x':=x') (w':=w') (es:=es) (fn:=y.frame.fn) (pos:=y.frame.place) (ρ':=iD ρ (c.base+c.n) (f N)) (φ':=φ) (b6:=upd Fr (c.n+1) F') (s':=s') (cl':=cl') T B (b2.trans dv.symm) (fun e=>absurd rfl e) (ca.imp (fun z=>⟨z,ae,a9⟩) fun z=>⟨z.1,z.2.trans b3.symm⟩) (fun M G=>gK _ _ G) (fun _ _=>rfl) (fun p D=>upd_ne _ _ (a8 p D))
       (fun K=>aa) (fun A e L=>absurd e.symm (bd A L)) (fun _ _=>by
        rw[jv,upd_same]
        exact ⟨cd,by rw[Deaf_own,hd];exact Jr H,(Ct H h.gm hd ds h.acq).1,(Ct H h.gm hd ds h.acq).2⟩) (h.parts.act hK al hle)
       b1 (by rw[dq];exact hinv) (h.x6 hK hle al.size fun e he=>by rw[fc];exact Jq H (Fr (c.n+1)) cf hC rfl e he) (h.env.act hK al hle)
      exact ⟨_,_,l,⟨_,w',_,_,_,s',cl',cX,rfl,E,an,b2.trans dv.symm,(fun e=>(by rw[hb] at e;cases e)),.inl (lg U (by rw[X];exact ⟨N,rfl⟩)),I.rel (upd_ne _ _ aa) b4⟩⟩
end
inductive Zg where
 |add (k m:Nat)
 |jZ (got:List Nat)
def Zg.ok (c:Gy):Zg->Cl->Nat->Sg->Prop
 | .add k m,cl,a,s=>cl= .none m/\a=k/\s.got=[]
 | .jZ got,cl,a,s=>cl.born=true/\a=c.n/\s.got=got
structure Cv (c:Gy)(F':af)(w':World):Prop where
 os:jE c.w1.os w'.os
 tape:w'.tape=c.w1.tape
 output:w'.output=c.w1.output
 size:c.w1.heap.size<=w'.heap.size
 frame:∀b,b<c.w1.heap.size->b∉keys c.F1.own->¬c.cy.shared b->w'.heap[b]?=c.w1.heap[b]?
 own:∀b∈keys F'.own,b∈keys c.F1.own\/c.w1.heap.size<=b
 ro:∀a,(F'.ro a).isSome=true->(c.F1.ro a).isSome=true\/a.block∈keys c.F1.own\/c.w1.heap.size<=a.block
def gC (c:Gy)(Φ:Goroutine->af->Prop)(bl:Loc->Prop)(gs:Array Goroutine)(w:World)(sl:Option (Nat×Nat))(t:Trace):Prop:=
 ∃(N:Nat) (gs':Array Goroutine) (w':World) (e:Option (Nat×Nat)) (b:Trace) (f:Nat->Nat) (g':Goroutine) (F':af) (d:Loc->Prop),
  runNT c.P N (crowd gs w sl) t=(.next (crowd gs' w' e),b)/\ja c.P d g' F' gs' w' b f/\Cv c F' w'/\(∀l,d l->bl l\/∃a,l= .cell a/\a.block=c.Wg)/\Φ g' F'
def eH (c:Gy)(Φ:Goroutine->af->Prop)(z:Zg)(d0:Nat)(g:Goroutine)(F:af):Prop:=
 g.status= .running/\g.offers=none/\∀(bl:Loc->Prop) (gs:Array Goroutine) (w:World) (sl:Option (Nat×Nat)) (t:Trace) (Fr:Nat->af) (ρ:Nat->Rk) (φ:Nat->Ph) (s:Sg) (cl:Cl) (k:Nat),Fr 0=F->z.ok c cl k s->cU c bl cl d0 k g Fr gs w t ρ φ s->gC c Φ bl gs w sl t
section
variable {c:Gy}{Φ:Goroutine->af->Prop}{bl:Loc->Prop}{cl cl':Cl}{d0 k K:Nat}{x0 g:Goroutine}{F:af}{Fr b6:Nat->af}{gs:Array Goroutine}{w w':World}{t u:Trace}{ρ:Nat->Rk}{φ:Nat->Ph}{s:Sg}
theorem gC.step {gs':Array Goroutine}{w':World}{a sl:Option (Nat×Nat)}{b:Trace}{N:Nat}(d:runNT c.P N (crowd gs w sl) t=(.next (crowd gs' w' a),b))(h:gC c Φ bl gs' w' a b):gC c Φ bl gs w sl t:=by
 obtain ⟨e,f,w2,g,t2,i,j,k,l,m,n⟩:=h;exact ⟨N+e,f,w2,g,t2,i,j,k,l,by rw[kK d];exact m,n⟩
theorem kF {m a:Machine}{ops:Array MemOp}{b:Option (Nat×Nat)}{gs:Array Goroutine}{w:World}{j:Nat}(d:stepT c.P m=runT c.P (crowd gs w b) j)(e:runT c.P (crowd gs w b) j=(.next a,ops))(t:Trace):runNT c.P 1 m t=(.next a,t++ops):=by
 simp only[runNT,d,e]
theorem cU.pick (h:cU c bl cl d0 k x0 Fr gs w t ρ φ s)(b:x0.status= .running)(sl:Option (Nat×Nat)):
  ∃(N:Nat) (gs':Array Goroutine) (w':World) (a l:Option (Nat×Nat)) (f:Trace) (ρ':Nat->Rk) (φ':Nat->Ph) (b6:Nat->af) (s':Sg) (cl':Cl),
   runNT c.P N (crowd gs w sl) t=(.next (crowd gs' w' a),f)/\(∃d,stepT c.P (crowd gs' w' a)=runT c.P (crowd gs' (w'.at d) l) 0)/\cU c bl cl' d0 k x0 b6 gs' w' f ρ' φ' s'/\b6 0=Fr 0/\s'.got=s.got/\cl'.born=cl.born/\(cl.born=false->cl'=cl):=by
 have key:∀(M:Nat) (y:(Nat->Rk)×Nat),∀gs w t ρ φ s cl Fr sl,gs.size=M->y=(ρ,runs gs)->cU c bl cl d0 k x0 Fr gs w t ρ φ s->
   ∃(N:Nat) (gs':Array Goroutine) (w':World) (a l:Option (Nat×Nat)) (f:Trace) (ρ':Nat->Rk) (φ':Nat->Ph) (b6:Nat->af) (s':Sg) (cl':Cl),
   runNT c.P N (crowd gs w sl) t=(.next (crowd gs' w' a),f)/\(∃d,stepT c.P (crowd gs' w' a)=runT c.P (crowd gs' (w'.at d) l) 0)/\cU c bl cl' d0 k x0 b6 gs' w' f ρ' φ' s'/\b6 0=Fr 0/\s'.got=s.got/\cl'.born=cl.born/\(cl.born=false->cl'=cl):=by
  intro M y
  induction (zw M).apply y with
  |intro y _ ih=>
   intro gs w t ρ φ s cl Fr sl hM p h
   subst p
   obtain ⟨j,x,d,a,q,r,n⟩:=crowd_pick (P:=c.P) (w:=w) (sl:=sl) h.awake ⟨0,x0,h.g0,b⟩
   rcases Nat.eq_zero_or_pos j with rfl|u
   .exact ⟨0,gs,w,sl,a,t,ρ,φ,Fr,s,cl,rfl,⟨d,n⟩,h,rfl,rfl,rfl,fun _=>rfl⟩
   .obtain ⟨m,ops,v,⟨gs',w',ρ',φ',b6,s',cl',cX,rfl,z,A,hb,B,o,hR⟩⟩:=(h.at d).other u q r a
    have C:cX=x0/\b6 0=Fr 0/\s'.got=s.got:=by
     cases hR with
     |same i D E=>exact ⟨i,D,E⟩
     |pI g i=>rw[i] at b;cases b
     |got g i=>rw[i] at b;cases b
    obtain ⟨e1,e2,e3⟩:=C
    subst e1
    rw[hM] at o
    obtain ⟨N,F,w2,G,H,t2,I,J,K,s2,L,k1,O,Q,R,S,T,U⟩:=ih (ρ',runs gs') o _ _ _ _ _ _ _ b6 a (A.trans hM) rfl z
    refine ⟨1+N,F,w2,G,H,t2,I,J,K,s2,L,by rw[kK (kF n v t)];exact k1,O,Q,R.trans e2,S.trans e3,T.trans hb,fun e=>?_⟩
    have:=B e
    subst this
    exact U e
 exact key gs.size (ρ,runs gs) gs w t ρ φ s cl Fr sl rfl rfl h
theorem cU.live (h:cU c bl cl d0 k x0 Fr gs w t ρ φ s)(o:xW c cl k x0 gs):∃(j:Nat) (x:Goroutine),gs[j]?=some x/\x.status= .running:=by
 obtain ⟨g,hg,_,_,m,hb,r⟩:=o;have E:=h.inv.all hb;have u:∀i,i<c.n->(φ i).gp≠ .gone->∃(j:Nat) (x:Goroutine),gs[j]?=some x/\x.status= .running:=fun i hi y=>by
  obtain ⟨x,b,hW⟩:=h.wk i aa;rcases hW with ⟨e,_⟩|⟨_,hs,_⟩|⟨_,_,_,g',v,z,R,F,F',e,_⟩
  .exact absurd e y
  .exact ⟨_,x,b,hs⟩
  .exact absurd (show x.status= .blocked by rw[e];rfl) (r i aa x b)
 obtain ⟨x,b,hC⟩:=h.ck hb;rcases hC with ⟨d,q,e,_⟩|⟨p,d,a,e,_,_,hs⟩
 .rw[e] at m;cases m
 .rcases hs with hs|⟨_,A,G⟩
  .exact ⟨_,x,b,hs⟩
  .subst A;have hinv:=h.inv.w.inv;rw[e] at hinv;simp only[Cl.p0] at hinv;have pick:∀f:Gp->Nat,f .gone=0->0<sg c.n φ f->∃(j:Nat) (x:Goroutine),gs[j]?=some x/\x.status= .running:=fun f B C=>by
    obtain ⟨i,hi,D⟩:=Bt C;exact u i hi (fun e=>by rw[e,B] at D;omega)
   rcases hinv with ⟨l,_⟩|⟨_,l,_⟩|⟨_,_,l,_⟩|⟨_,_,_,_,l⟩
   .exact pick Gp.nV rfl l
   .exact pick Gp.n1 rfl aa
   .exact pick Gp.n3 rfl aa
   .omega
theorem cU.join (h:cU c bl cl d0 k x0 Fr gs w t ρ φ s)(M:d0=0)(hs:cl.ek=true){y:MemOp}(z:y.g=0/\y.act= .recvClosed c.C){g':Goroutine}:
  ∃N,ja c.P (fun l=>bl l\/∃a,l= .cell a/\a.block=c.Wg) g' (Fr 0) (gs.setIfInBounds 0 g') w (t++#[y]) N/\Cv c (Fr 0) w:=by
 have hb:=Cl.pH hs
 have O:=h.inv.all hb
 have G:=Cl.tL hb k
 have Q:=h.size
 rw[G] at Q
 have R:0<gs.size:=(Array.getElem?_eq_some_iff.1 h.g0).1
 have S:∀i,i<c.n->(φ i).gp= .gone:=fun i hi=>h.inv.gone (Cl.lF hs) hi hb
 obtain ⟨m,hm⟩:=h.jY hs
 have hC:c.C<w.heap.size:=h.parts.fS _ (.inl rfl)
 have H:=h.gm
 rw[G,O] at H
 have T:=H.past hm z (h.deaf0.trans M) hC
 have I:∀j,j≠0->Deaf (t++#[y]) j=Deaf t j:=fun j U=>Deaf_other t (g':=0) (Ne.symm U) _ (by simp[z.1])
 have J:∀j,∃q,∀x,0<j->gs[j]?=some x->QuitsD c.P q (Deaf t j) x:=fun j=>by
  by_cases B:∃x,0<j/\gs[j]?=some x
  .obtain ⟨x,A,b⟩:=B
   have uniq:∀{q},QuitsD c.P q (Deaf t j) x->∃q,∀x,0<j->gs[j]?=some x->QuitsD c.P q (Deaf t j) x:=fun {q} o=>⟨q,fun y _ z=>by rw[b] at z;cases z;exact o⟩
   rcases Nat.lt_or_ge j c.base with K|K
   .obtain ⟨q,_,o⟩:=h.old j x A K b
    exact uniq o
   .have f:j<gs.size:=(Array.getElem?_eq_some_iff.1 b).1
    rcases Nat.lt_or_ge (j - c.base) k with E|E
    .obtain ⟨F,r,hW⟩:=h.wk (j - c.base) E
     have u:=h.deaf (j - c.base) E
     have hg:=S (j - c.base) aa
     rw[show c.base+(j - c.base)=j by omega] at r u
     obtain rfl:F=x:=by rw[b] at r;exact (Option.some.inj r).symm
     rcases hW with ⟨_,q,_,o⟩|⟨V,_⟩|⟨L,_⟩
     .exact uniq (by rw[u];exact o)
     .exact absurd hg V
     .rw[hg] at L;cases L
    .obtain ⟨F,r,W⟩:=h.ck hb
     have u:=h.kD hb
     rw[show c.base+c.n=j by omega] at r u
     obtain rfl:F=x:=by rw[b] at r;exact (Option.some.inj r).symm
     rcases W with ⟨d,q,e,_,o⟩|⟨p,d,a,e,_⟩
     .rw[e] at u;exact uniq (by rw[u];exact o)
     .rw[e] at hs;cases hs
  .exact ⟨0,fun x A b=>absurd ⟨x,A,b⟩ B⟩
 let q:Nat->Nat:=fun j=>Classical.choose (J j)
 have X:∀j x,0<j->gs[j]?=some x->QuitsD c.P (q j) (Deaf t j) x:=fun j=>Classical.choose_spec (J j)
 refine ⟨q,⟨Array.getElem?_setIfInBounds_self_of_lt R,⟨fun j x A b=>?_,fun j B=>?_⟩,T,h.parts.has 0 (Nat.zero_le _),fun l f v=>?_,fun l f=>?_⟩,h.env.os,h.env.tape,h.env.output,h.env.size,h.env.frame,h.env.ia 0 (Nat.zero_le _),h.env.iX 0 (Nat.zero_le _)⟩
 .rw[Array.getElem?_setIfInBounds_ne aa] at b
  rw[I j aa];exact X j x A b
 .have:gs.size<=j:=by simpa using B
  rw[I j aa];exact h.above j this
 .rcases f with f|⟨a,rfl,D⟩
  .exact h.env.Jj l f v
  .rcases v with v|v
   .exact h.parts.gJ 0 (Nat.zero_le _) _ v (.inr (.inl D))
   .exact h.parts.iS 0 (Nat.zero_le _) a v (.inr (.inl D))
 .rcases f with f|⟨a,rfl,D⟩
  .exact Loc.low_mono h.env.size (h.env.low l f)
  .show a.block<_;rw[D];exact h.parts.fS _ (.inr (.inl rfl))
theorem Jv (h:g.status= .running):({g with status:=.running}:Goroutine)=g:=by cases g;simp_all
theorem Jw {a b:Goroutine}{cs:Array CommCase}{sh:CommShape}(h:parked a cs sh=parked b cs sh)(v:Value):Go.Conc.served a v=Go.Conc.served b v:=by
 cases a;cases b;simp only[parked,Goroutine.mk.injEq,true_and,and_true] at h;obtain ⟨rfl,rfl,rfl⟩:=h;rfl
theorem eH.recv {got:List Nat}(U:g.status= .running)(ho:g.offers=none)(a5:∀w,stepG c.P true g w= .comm g #[rcase c.C c.z] true (.recv true) w #[])
  (hv:∀(i:Nat) (v:Value) (R:hO) (aF:Addr->Option Value),i<c.n->i∉got->c.pay i=some R->R aF v->Ext F.ro aF->eH c Φ (.jZ (got++[i])) 0 (Go.Conc.served g (.tuple #[v,.bool true])) ⟨aF,F.own⟩)
  (bj:(∀i,i<c.n->(c.pay i).isSome=true->i∈got)->Φ (Go.Conc.served g (.tuple #[c.z,.bool false])) F):eH c Φ (.jZ got) 0 g F:=by
 refine ⟨U,ho,fun bl gs w sl t Fr ρ φ s cl k hF ae I=>?_⟩
 have key:∀(M:Nat) (y:(Nat->Rk)×Nat),∀gs w t ρ φ s cl Fr sl x0,gs.size=M->y=(ρ,runs gs)->Fr 0=F->(Zg.jZ got).ok c cl k s->cU c bl cl 0 k x0 Fr gs w t ρ φ s->
   ((x0.status= .running/\∀w,stepG c.P true x0 w= .comm g #[rcase c.C c.z] true (.recv true) w #[])\/x0=parked g #[rcase c.C c.z] (.recv true))->gC c Φ bl gs w sl t:=by
  intro M y
  induction (zw M).apply y with
  |intro y _ ih=>
   intro gs w t ρ φ s cl Fr sl x0 hM N hF ae h V
   subst N
   obtain ⟨hb,J,r⟩:=ae
   have bk:∃(j:Nat) (x:Goroutine),gs[j]?=some x/\x.status= .running:=by
    rcases h.pG with e|⟨_,al⟩
    .exact ⟨0,x0,h.g0,e⟩
    .exact h.live al
   obtain ⟨j,x,d,f,E,W,X⟩:=crowd_pick (P:=c.P) (w:=w) (sl:=sl) h.awake bk
   have hd:=h.at d
   rcases Nat.eq_zero_or_pos j with rfl|bm
   .obtain rfl:x=x0:=by have:=h.g0;rw[E] at this;exact Option.some.inj this
    obtain ⟨_,ao⟩:x.status= .running/\∀w,stepG c.P true x w= .comm g #[rcase c.C c.z] true (.recv true) w #[]:=V.resolve_right fun e=>by rw[e] at W;cases W
    have ar:∀fn pos,MemOp.ofEvents 0 fn pos #[]=#[]:=fun _ _=>by simp[MemOp.ofEvents]
    have a6:0<gs.size:=(Array.getElem?_eq_some_iff.1 E).1
    have K:=hd.sh.2
    by_cases O:partners (gs.setIfInBounds 0 Go.Conc.ph) c.C true=[]
    .cases hs:cl.ek with
     |true=>
      rw[hs] at K
      have b:=crowd_recv_closed (P:=c.P) (gs:=gs) (w:=w.at d) (sl:=f) (i:=0) E (ao _) K O
      rw[finishComm_recv,ar] at b
      obtain ⟨bo,br,bs⟩:=hd.join rfl hs (y:={g:=0,fn:=g.frame.fn,pos:=g.frame.place,act:=.recvClosed c.C}) ⟨rfl,rfl⟩ (g':=Go.Conc.served g (recvd true c.z false))
      refine ⟨1,_,_,_,_,bo,_,Fr 0,_,kF X b t,by rw[Array.empty_append];exact br,bs,fun l bS=>bS,?_⟩
      rw[hF]
      refine bj fun i hi al=>?_
      have a7:=h.inv.gone (Cl.lF hs) hi hb
      rw[<-r]
      exact (h.inv.got i).2 ⟨hi,h.inv.done i hi (by rw[a7];simp) (by rw[a7];simp) al⟩
     |false=>
      rw[hs] at K
      have b:=crowd_waits (P:=c.P) (gs:=gs) (w:=w.at d) (sl:=f) (i:=0) E (ao _) (fun ea a8=>by
       simp only[List.mem_toArray,List.mem_singleton] at a8
       subst a8
       exact ways_recv_none K O)
      rw[ar] at b
      have b0:∀i,i<k->∀y,(gs.setIfInBounds 0 (parked g #[rcase c.C c.z] (.recv true)))[c.base+i]?=some y->y.status≠ .blocked:=fun i hi y N Y=>by
       have a9:=h.base
       rw[Array.getElem?_setIfInBounds_ne aa] at N
       obtain ⟨A,o,hW⟩:=h.wk i hi
       obtain rfl:A=y:=by rw[N] at o;exact (Option.some.inj o).symm
       rcases hW with ⟨_,q,_,b1⟩|⟨_,b2,_⟩|⟨_,_,_,g',v,z,R,ba,F',e,_⟩
       .rcases b1.status with e|e<;>rw[e] at Y<;>cases Y
       .rw[b2] at Y;cases Y
       .have:(c.base+i,0)∈partners (gs.setIfInBounds 0 Go.Conc.ph) c.C true:=mem_partners.2 ⟨A,by rw[Array.getElem?_setIfInBounds_ne aa];exact N,by rw[e,offersAt_parked_send,if_pos rfl];simp⟩
        rw[O] at this;cases this
      have b3:cU c bl cl 0 k (parked g #[rcase c.C c.z] (.recv true)) Fr (gs.setIfInBounds 0 (parked g #[rcase c.C c.z] (.recv true))) (w.at d) t ρ φ s:=by
       have a9:=h.base
       refine ⟨by simpa using hd.size,hd.base,Array.getElem?_setIfInBounds_self_of_lt a6,.inr ⟨rfl,g,rfl,U,ho,hs,hb,b0⟩,fun a A b4 ca o=>?_,fun i hi=>?_,fun Q=>?_,hd.deaf,hd.kD,fun a cb=>hd.above a (by simpa using cb),hd.deaf0,hd.parts,hd.sh,hd.inv,hd.gm,hd.rel,hd.acq,hd.jY,hd.env,hd.ne⟩
       .rw[Array.getElem?_setIfInBounds_ne aa] at o
        exact hd.old a A b4 ca o
       .obtain ⟨A,o,hW⟩:=hd.wk i hi
        exact ⟨A,by rw[Array.getElem?_setIfInBounds_ne aa];exact o,hW⟩
       .obtain ⟨A,o,cc⟩:=hd.ck Q
        exact ⟨A,by rw[Array.getElem?_setIfInBounds_ne aa];exact o,cc⟩
      have bb:=kF X b t
      rw[show t++(#[]:Array MemOp)=t by simp] at bb
      exact gC.step bb (ih (ρ,runs (gs.setIfInBounds 0 (parked g #[rcase c.C c.z] (.recv true)))) (.inr ⟨rfl,wZ E W (by simp[parked])⟩) _ _ _ _ _ _ _ Fr f _ (by simpa using hM) rfl hF ⟨hb,J,r⟩ b3 (.inr rfl))
    ·
     have bc:∀a S,(a,S)∈partners (gs.setIfInBounds 0 Go.Conc.ph) c.C true->S=0/\a≠0/\∃T p Z ab,gs[a]?=some (parked T #[scase c.C p Z] ab):=fun a S hm=>by
      obtain ⟨cd,L,G⟩:=mem_partners.1 hm
      rcases getElem?_stand gs _ a cd L with ⟨_,rfl⟩|⟨a0,L⟩
      .rw[offersAt_ph] at G;cases G
      .rcases (h.offers aa L).2 with e|⟨i,g',v,z,R,ba,F',_,_,_,_,_,e,_⟩
       .rw[e] at G;cases G
       .rw[e,offersAt_parked_send,if_pos rfl] at G
        simp at G
        exact ⟨G,a0,g',v,z,.send,by rw[L,e]⟩
     have cf:cl.ek=false:=by
      cases hs:cl.ek with
      |false=>rfl
      |true=>
       exfalso
       obtain ⟨⟨a,S⟩,hm⟩:=List.exists_mem_of_ne_nil _ O
       obtain ⟨_,a0,g',v,z,ab,L⟩:=bc a S hm
       rcases (h.offers aa L).2 with e|⟨i,_,_,_,_,_,_,_,hi,a2,_⟩
       .rw[offersAt_parked_send,if_pos rfl] at e;cases e
       .have:=h.inv.gone (Cl.lF hs) (by rw[<-J];exact hi) hb;rw[a2] at this;cases this
     rw[cf] at K
     obtain ⟨a,T,p,Z,ab,cv,a0,cy,b⟩:=crowd_recv_meets_some (P:=c.P) (gs:=gs) (w:=w.at d) (sl:=f) (i:=0) E (ao _) K O bc
     rcases (h.offers aa cy).2 with e|⟨i,g',v,z,R,ba,F',cS,c0,a2,da,db,e,hR,dd,df,hle,dk⟩
     .rw[offersAt_parked_send,if_pos rfl] at e;cases e
     ·
      subst cS
      have e1:T.finishComm c.P #[scase c.C p Z] ab 0 undef false=Go.Conc.served g' undef/\T.frame=g'.frame/\p=v:=by
       cases T
       cases g'
       simp only[parked,Goroutine.mk.injEq,Option.some.injEq,Prod.mk.injEq,true_and] at e
       obtain ⟨rfl,rfl,rfl,a3,rfl⟩:=e
       have a3:scase c.C p Z=scase c.C v z:=by simpa using a3
       have dp:p=v:=by have:=congrArg CommCase.send a3;simpa [scase] using this
       exact ⟨rfl,rfl,dp⟩
      obtain ⟨e1,e2,e3⟩:=e1
      subst e3
      have a9:=h.base
      rw[finishComm_recv,e1,e2,ar,Array.empty_append] at b
      obtain ⟨ρ',φ',b6,s',dq,ad,B,D,H,a4,ds,dt⟩:=h.meet rfl hb c0 a2 da db hR dd df hle (y0:=Go.Conc.served g (recvd true p true)) (yi:=Go.Conc.served g' undef) rfl dk rfl
       (gs':=(gs.setIfInBounds (c.base+i) (Go.Conc.served g' undef)).setIfInBounds 0 (Go.Conc.served g (recvd true p true))) an (Array.getElem?_setIfInBounds_self_of_lt (by simpa using a6)) (by rw[Array.getElem?_setIfInBounds_ne aa];exact Array.getElem?_setIfInBounds_self_of_lt (by rw[h.size];have:=Cl.xY cl k;omega))
       (fun eb du dv=>by rw[Array.getElem?_setIfInBounds_ne (Ne.symm du),Array.getElem?_setIfInBounds_ne (Ne.symm dv)])
       (u:=#[{g:=c.base+i,fn:=g'.frame.fn,pos:=g'.frame.place,act:=.send c.C s.got.length},{g:=0,fn:=g.frame.fn,pos:=g.frame.place,act:=.recv c.C s.got.length 0},{g:=c.base+i,fn:=g'.frame.fn,pos:=g'.frame.place,act:=.sendDone c.C s.got.length},{g:=0,fn:=g.frame.fn,pos:=g.frame.place,act:=.recvDone c.C s.got.length}])
       ⟨_,_,_,_,rfl,⟨rfl,rfl⟩,⟨rfl,rfl⟩,⟨rfl,rfl⟩,rfl,rfl⟩ cv
      refine gC.step (kF X b t) ?_
      have hJ:=hv i p R (b6 0).ro B (by rw[<-r];exact D) hR H (by rw[<-hF];exact a4)
      refine hJ.2.2 bl _ _ f _ b6 ρ' φ' s' cl k ?_ ⟨hb,J,by rw[dt,r]⟩ dq
      rw[<-hF,<-ds]
   .obtain ⟨m,ops,b,⟨gs',w',ρ',φ',b6,s',cl',cX,rfl,I,bd,Q,_,ad,hR⟩⟩:=hd.other bm E W f
    rw[hM] at ad
    refine gC.step (kF X b t) ?_
    cases hR with
    |same B D H=>
     subst B
     exact ih (ρ',runs gs') ad _ _ _ _ _ _ _ b6 f _ (bd.trans hM) rfl (D.trans hF) ⟨Q.trans hb,J,H.trans r⟩ I V
    |pI g' B hs D H a4=>
     have e:x0=parked g #[rcase c.C c.z] (.recv true):=V.resolve_left fun z=>by rw[B] at z;cases z.1
     refine ih (ρ',runs gs') ad _ _ _ _ _ _ _ b6 f _ (bd.trans hM) rfl (H.trans hF) ⟨Q.trans hb,J,a4.trans r⟩ I (.inl ⟨by rw[D],fun w=>?_⟩)
     rw[D,e,stepG_tries,Jv U]
     exact a5 w
    |got g' B i v R hi hn dC dE he dT D H=>
     have e:x0=parked g #[rcase c.C c.z] (.recv true):=V.resolve_left fun z=>by rw[B] at z;cases z.1
     have e2:Go.Conc.served g' (.tuple #[v,.bool true])=Go.Conc.served g (.tuple #[v,.bool true]):=Jw (B.symm.trans e) _
     have hJ:=hv i v R (b6 0).ro hi (by rw[<-r];exact hn) dC dE (by rw[<-hF];exact he)
     rw[D,e2] at I
     refine hJ.2.2 bl _ _ f _ b6 ρ' φ' s' cl' k ?_ ⟨Q.trans hb,J,by rw[H,r]⟩ I
     rw[<-hF,<-dT]
 exact key gs.size (ρ,runs gs) gs w t ρ φ s cl Fr sl g rfl rfl hF ae I (.inl ⟨U,a5⟩)
end
section
variable {c:Gy}{Φ:Goroutine->af->Prop}{bl:Loc->Prop}{cl cl':Cl}{d0 k m K:Nat}{x0 g:Goroutine}{F:af}{Fr b6:Nat->af}{gs:Array Goroutine}{w w':World}{t u:Trace}{ρ:Nat->Rk}{φ:Nat->Ph}{s:Sg}{z:Zg}
theorem cU.zero (h:cU c bl cl d0 k g Fr gs w t ρ φ s){g':Goroutine}{es:Array Event}{fn:FuncId}{pos:String}{s':Sg}{iE:Nat}{F':af}(x:g'.status= .running)(j:cl'.born=cl.born)(n:cl.born=true->cl'=cl)
  (F:mayWake c.P g=true\/s'.ws<=s.ws) (hd:deafBehind d0 es=iE) (G:dS c.cy (cl.emp k) (upd Fr 0 F') w') (D:c5 c w' s' cl') (hinv:cW c k φ cl' s')
  (H:dN c bl (cl.emp k) (c.jy cl) (upd Fr 0 F') w'.heap.size (t++MemOp.ofEvents 0 fn pos es)) (I:fe c bl (cl.emp k) (upd Fr 0 F') w'):
  cU c bl cl' iE k g' (upd Fr 0 F') ((gs.map (woken c.P g g' w')).setIfInBounds 0 g') w' (t++MemOp.ofEvents 0 fn pos es) ρ φ s':=by
 have J:0<gs.size:=(Array.getElem?_eq_some_iff.1 h.g0).1
 have T:=h.base
 have hu:∀op∈MemOp.ofEvents 0 fn pos es,op.g=0:=fun op A=>by obtain ⟨e,_,rfl⟩:=Go.Conc.mem_ofEvents A;rfl
 have other:∀a,a≠0->∀y,((gs.map (woken c.P g g' w')).setIfInBounds 0 g')[a]?=some y->∃z,gs[a]?=some z/\y=woken c.P g g' w' z:=fun a l y o=>by
  rw[Array.getElem?_setIfInBounds_ne (Ne.symm l),Array.getElem?_map] at o
  obtain ⟨z,b,rfl⟩:=Option.map_eq_some_iff.1 o
  exact ⟨z,b,rfl⟩
 have at_:∀a z,a≠0->gs[a]?=some z->((gs.map (woken c.P g g' w')).setIfInBounds 0 g')[a]?=some (woken c.P g g' w' z):=fun a z l b=>by
  rw[Array.getElem?_setIfInBounds_ne (Ne.symm l),Array.getElem?_map,b];rfl
 have u:∀a,a≠0->Deaf (t++MemOp.ofEvents 0 fn pos es) a=Deaf t a:=fun a l=>Deaf_other t (Ne.symm l) _ hu
 have K:(mayWake c.P g=true/\g'.status≠ .blocked/\g'.status≠ .waiting)\/s'.ws<=s.ws:=F.imp (fun z=>⟨z,by rw[x];simp,by rw[x];simp⟩) id
 have v:=Cl.Cq j k
 have B:∀i r,dx c.cy t (c.base+i) r->dx c.cy (t++MemOp.ofEvents 0 fn pos es) (c.base+i) r:=fun i r f=>f.other aa hu
 have opn:∀i,i<k->(φ i).gp= .gone\/∃m,w'.heap[c.C]?=some (.chan 0 #[] false m m false):=fun i hi=>by
  cases hs:cl'.ek with
  |false=>have:=D.2;rw[hs] at this;exact .inr ⟨_,this⟩
  |true=>
   have hb:=Cl.pH hs
   exact .inl (hinv.gone (Cl.lF hs) (Nat.lt_of_lt_of_le hi hinv.kn) hb)
 refine ⟨by rw[v];simpa using h.size,h.base,Array.getElem?_setIfInBounds_self_of_lt (by simpa using J),.inl x,fun a y L hb o=>?_,fun i hi=>?_,fun hb=>?_,fun i hi=>?_,fun hb=>?_,fun a M=>?_,?_,by rw[v];exact G,D,hinv,by rw[v,c.Cr j];exact H,fun i hi hg=>?_,fun p d e=>?_,fun hs=>?_,by rw[v];exact I,h.ne⟩
 .obtain ⟨z,b,rfl⟩:=other a aa y o
  obtain ⟨q,N,E⟩:=h.old a z L hb b
  exact ⟨q,N,by rw[woken_quitsD E,u a aa];exact E⟩
 .obtain ⟨z,b,hW⟩:=h.wk i hi
  refine ⟨_,at_ _ z aa b,?_⟩
  rw[upd_ne _ _ aa]
  exact hW.woken (opn i hi)
 .have e:=n (j▸hb)
  subst e
  obtain ⟨z,b,hW⟩:=h.ck hb
  refine ⟨_,at_ _ z aa b,?_⟩
  rw[upd_ne _ _ aa]
  exact hW.woken hinv.wY K
 .rw[u _ aa];exact h.deaf i hi
 .have e:=n (j▸hb)
  subst e
  rw[u _ aa];exact h.kD hb
 .have:gs.size<=a:=by simpa using M
  rw[u a aa]
  exact h.above a this
 .rw[Deaf_own,h.deaf0];exact hd
 .obtain ⟨r,f⟩:=h.rel i hi hg
  exact ⟨r,B i r f⟩
 .have O:=n (by rw[<-j,e];rfl)
  subst O
  obtain ⟨Q,R⟩:=h.acq p d e
  refine ⟨Q,fun i hi=>?_⟩
  obtain ⟨r,f,S⟩:=R i hi
  exact ⟨r,B i r f,S.app _⟩
 .have e:=n (j▸Cl.pH hs)
  subst e
  obtain ⟨m,hm⟩:=h.jY hs
  exact ⟨m,hm.app (fun i r _ f=>B i r f) fun op A hg=>by have:=hu op A;omega⟩
theorem cU.le (h:cU c bl cl d0 k g Fr gs w t ρ φ s){F:af}(hle:Le F (Fr 0)):cU c bl cl d0 k g (upd Fr 0 F) gs w t ρ φ s:=by
 have j:=h.base
 have ht:dN c bl (cl.emp k) (c.jy cl) (upd Fr 0 F) w.heap.size t:=h.gm.Cp (fun p d l b=>by
  by_cases e:p=0
  .subst e;rw[upd_same] at b;exact hle.s8 b
  .rw[upd_ne _ _ e] at b;exact b) fun p d l b=>by
  by_cases e:p=0
  .subst e;rw[upd_same] at b;obtain ⟨a,rfl,f⟩:=b;exact (hle.ro a f).imp (fun z=>⟨a,rfl,z⟩) fun z=>z
  .rw[upd_ne _ _ e] at b;exact .inl b
 refine ⟨h.size,h.base,h.g0,h.pG,h.old,fun i hi=>?_,fun hb=>?_,h.deaf,h.kD,h.above,h.deaf0,h.parts.act (Nat.zero_le _) (.refl _ _) hle,h.sh,h.inv,ht,h.rel,h.acq,h.jY,h.env.act (Nat.zero_le _) (.refl _ _) hle,h.ne⟩
 .rw[upd_ne _ _ aa];exact h.wk i hi
 .rw[upd_ne _ _ aa];exact h.ck hb
theorem eH.mono {F F':af}(hle:Le F F')(h:eH c Φ z d0 g F):eH c Φ z d0 g F':=
 ⟨h.1,h.2.1,fun bl gs w sl t Fr ρ φ s cl k hF a b=>h.2.2 bl gs w sl t (upd Fr 0 F) ρ φ s cl k (upd_same _ _ _) a (b.le (by rw[hF];exact hle))⟩
theorem Zg.keep {s':Sg}(h:z.ok c cl k s)(hg:s'.got=s.got)(hb:cl'.born=cl.born)(hn:cl.born=false->cl'=cl):z.ok c cl' k s':=by
 cases z with
 |add f m=>obtain ⟨e,a,b⟩:=h;exact ⟨(hn (by rw[e];rfl)).trans e,a,hg.trans b⟩
 |jZ got=>obtain ⟨d,a,b⟩:=h;exact ⟨hb.trans d,a,hg.trans b⟩
theorem eH.closed (c:Gy)(Φ:Goroutine->af->Prop)(z:Zg)(d0:Nat):Closed c.P true (eH c Φ z d0) where
 mono hle h:=h.mono hle
 step {fr cs F} h:=by
  refine ⟨rfl,rfl,fun bl gs w sl t Fr ρ φ s cl k hF o q=>?_⟩
  obtain ⟨N,r,w1,I,j,t1,J,K,l,s1,u,v,⟨d,x⟩,m,y,A,B,C⟩:=q.pick rfl sl
  have n:l 0=F:=y.trans hF
  have a:=m.at d
  have f:Has (l 0) (w1.at d):=a.parts.has 0 (Nat.zero_le _)
  obtain ⟨g',w',es,F',hgo,hu,D,g,hJ⟩:=h (w1.at d) (by rw[<-n];exact f)
  rw[<-n] at hu g
  have E:=runT_crowd_go (P:=c.P) (gs:=r) (w:=w1.at d) (sl:=j) (i:=0) m.g0 (show stepG c.P (0==0) (G fr cs) (w1.at d)=_ from hgo)
  have H:=a.zero (cl':=u) (g':=g') (w':=w') (es:=es) (fn:=(G fr cs).frame.fn) (pos:=(G fr cs).frame.place) (s':=s1) (iE:=d0) (F':=F') hJ.1 rfl (fun _=>rfl) (.inr (Int.le_refl _))
   (deafBehind_still (fun e he=>(pK (c:=c) f hu.size (g e he) 0 0).2.2.2) _) (a.parts.walk (Nat.zero_le _) hu D)
   (a.sh.keep fun b hb=>hu.frame b (a.parts.fS b hb) (fun hm=>a.parts.gJ 0 (Nat.zero_le _) b hm hb)) a.inv (a.x5 (p:=0) (Nat.zero_le _) f hu g) (a.env.walk a.parts (Nat.zero_le _) hu)
  exact gC.step v (gC.step (kF x E t1) (hJ.2.2 bl _ w' j _ _ _ _ _ _ _ (upd_same _ _ _) (Zg.keep o A B C) H))
theorem Jx {iE:Nat}{es:Array Event}(h:Ev0 c.cy d0 iE es)(F:af){B:Nat}(f:c.Wg<B):∀e∈es,
  (∀x,(MemAct.ofEvent e).touch?=some x->OkG c F B 0 0 x)/\(MemAct.ofEvent e).low B/\MemAct.ofEvent e≠ .mark (.release (stA c.Wg)):=by
 intro e he
 rcases h.all e he with rfl|rfl|⟨a,d,⟨x,rfl⟩|rfl|rfl⟩
 .exact ⟨fun x g=>by simp[cA,MemAct.ofEvent,MemAct.touch?] at g,trivial,by simp[cA,MemAct.ofEvent]⟩
 .exact ⟨fun x g=>by simp[cA,MemAct.ofEvent,MemAct.touch?] at g,trivial,by simp[cA,MemAct.ofEvent]⟩
 .have hb:a.block<B:=d▸f
  refine ⟨fun y b=>?_,by cases x<;>exact hb,by cases x<;>simp[MemAct.ofEvent]⟩
  have:y=⟨.cell a,x,.atomic⟩:=by cases x<;>simp[MemAct.ofEvent,MemAct.touch?] at b<;>rw[<-b]
  subst this
  exact .inr (.inr (.inr (.inl ⟨.inl ⟨a,rfl,d⟩,an,an⟩)))
 .have hb:a.block<B:=d▸f
  refine ⟨fun y b=>?_,hb,by simp[cA,MemAct.ofEvent]⟩
  have:y=⟨.cell a,false,.said⟩:=by simp[cA,MemAct.ofEvent,MemAct.touch?] at b;rw[<-b]
  subst this
  exact .inr (.inr (.inr (.inl ⟨.inl ⟨a,rfl,d⟩,an,fun _=>rfl⟩)))
 .have hb:a.block<B:=d▸f
  refine ⟨fun y b=>?_,hb,by simp[cA,MemAct.ofEvent]⟩
  have:y=⟨.cell a,true,.said⟩:=by simp[cA,MemAct.ofEvent,MemAct.touch?] at b;rw[<-b]
  subst this
  exact .inr (.inr (.inr (.inl ⟨.inl ⟨a,rfl,d⟩,an,fun _=>rfl⟩)))
theorem eH.act (l:g.status= .running)(ho:g.offers=none)
  (h:∀(w:World) (s:Sg) (φ:Nat->Ph),Has F w->c5 c w s (.none m)->cW c k φ (.none m) s->∃(g':Goroutine) (w':World) (es:Array Event) (s':Sg) (b:Nat) (iE:Nat),
   stepG c.P true g w= .go g' w' es/\c5 c w' s' (.none b)/\fq c.cy w w'/\cW c k φ (.none b) s'/\s'.got=s.got/\Ev0 c.cy d0 iE es/\(mayWake c.P g=true\/s'.ws<=s.ws)/\eH c Φ (.add k b) iE g' F):eH c Φ (.add k m) d0 g F:=by
 refine ⟨l,ho,fun bl gs w sl t Fr ρ φ s cl O hF v x=>?_⟩
 obtain ⟨n,rfl,y⟩:=v
 obtain ⟨N,z,w1,Q,o,t1,R,A,f,s1,S,B,⟨d,C⟩,q,D,E,T,G⟩:=x.pick l sl
 have e1:=G (by rw[n];rfl)
 subst e1
 subst n
 have r:f 0=F:=D.trans hF
 have a:=q.at d
 have H:Has (f 0) (w1.at d):=a.parts.has 0 (Nat.zero_le _)
 obtain ⟨g',w',es,s',b,iE,hgo,I,j,hinv,J,u,K,hJ⟩:=h (w1.at d) s1 A (by rw[<-r];exact H) a.sh a.inv
 have L:=runT_crowd_go (P:=c.P) (gs:=z) (w:=w1.at d) (sl:=o) (i:=0) q.g0 (show stepG c.P (0==0) g (w1.at d)=_ from hgo)
 have M:=a.zero (cl':=.none b) (g':=g') (w':=w') (es:=es) (fn:=g.frame.fn) (pos:=g.frame.place) (s':=s') (iE:=iE) (F':=f 0) hJ.1 rfl (fun e=>(by cases e)) K u.deaf
  (a.parts.act (Nat.zero_le _) j (.refl _)) I hinv (a.x6 (p:=0) (Nat.zero_le _) (.refl _) j.size fun e he=>Jx u (f 0) (a.parts.fS _ (.inr (.inl rfl))) e he) (a.env.act (Nat.zero_le _) j (.refl _))
 exact gC.step B (gC.step (kF C L t1) (hJ.2.2 bl _ w' o _ _ _ _ _ _ _ (by rw[upd_same];exact r) ⟨rfl,rfl,J.trans (E.trans y)⟩ M))
theorem dS.fork (h:dS c.cy K Fr w){f:af}(g:keys f.own=[])(j:∀a,(f.ro a).isSome=true->((Fr 0).ro a).isSome=true)(m:Has f w):dS c.cy (K+1) (upd Fr (K+1) f) w:=by
 have e1:∀q,q<=K->upd Fr (K+1) f q=Fr q:=fun q d=>upd_ne _ _ aa;have e2:upd Fr (K+1) f (K+1)=f:=upd_same _ _ _;have cs:∀q,q<=K+1->q<=K\/q=K+1:=fun q d=>aa;refine ⟨fun q d=>?_,fun q r d k l b hb i=>?_,fun q r d k l a e hb=>?_,fun q d b hb=>?_,fun q d a e=>?_,h.fS⟩
 .rcases cs q d with x|rfl
  .rw[e1 q x];exact h.has q x
  .rw[e2];exact m
 .rcases cs q d with x|rfl
  .rcases cs r k with y|rfl
   .rw[e1 q x] at hb;rw[e1 r y] at i;exact h.own q r x y l b hb i
   .rw[e2,g] at i;cases i
  .rw[e2,g] at hb;cases hb
 .rcases cs r k with y|rfl
  .rw[e1 r y] at hb;rcases cs q d with x|rfl
   .rw[e1 q x] at e;exact h.ro q r x y l a e hb
   .rw[e2] at e;rcases Nat.eq_zero_or_pos r with rfl|n
    .obtain ⟨v,hv⟩:=Option.isSome_iff_exists.1 (j a e);exact (h.has 0 (Nat.zero_le _)).apart a v hv hb
    .exact h.ro 0 r (Nat.zero_le _) y aa a (j a e) hb
  .rw[e2,g] at hb;cases hb
 .rcases cs q d with x|rfl
  .rw[e1 q x] at hb;exact h.gJ q x b hb
  .rw[e2,g] at hb;cases hb
 .rcases cs q d with x|rfl
  .rw[e1 q x] at e;exact h.iS q x a e
  .rw[e2] at e;exact h.iS 0 (Nat.zero_le _) a (j a e)
theorem fe.fork (h:fe c bl K Fr w){d:af}(g:keys d.own=[])(i:∀a,(d.ro a).isSome=true->((Fr 0).ro a).isSome=true):fe c bl (K+1) (upd Fr (K+1) d) w:=by
 have e1:∀q,q<=K->upd Fr (K+1) d q=Fr q:=fun q e=>upd_ne _ _ aa;have e2:upd Fr (K+1) d (K+1)=d:=upd_same _ _ _;have cs:∀q,q<=K+1->q<=K\/q=K+1:=fun q e=>aa;refine ⟨h.os,h.tape,h.output,h.size,h.frame,fun q e b hb=>?_,fun q e a f=>?_,h.apart,h.rq,h.low⟩
 .rcases cs q e with x|rfl
  .rw[e1 q x] at hb;exact h.ia q x b hb
  .rw[e2,g] at hb;cases hb
 .rcases cs q e with x|rfl
  .rw[e1 q x] at f;exact h.iX q x a f
  .rw[e2] at f;exact h.iX 0 (Nat.zero_le _) a (i a f)
theorem Cw {F c:af}(hle:Le c ⟨F.ro,[]⟩):keys c.own=[]/\∀a,(c.ro a).isSome=true->(F.ro a).isSome=true:=by
 refine ⟨?_,fun a d=>?_⟩
 .cases e:keys c.own with
  |nil=>rfl
  |cons b l=>exact absurd (hle.own b (by rw[e];simp)) (by simp[keys])
 .rcases hle.ro a d with x|x
  .exact x
  .simp[keys] at x
theorem Cx {F c:af}(hle:Le c ⟨F.ro,[]⟩)(h:Has F w):Has c w:=hle.has _ ⟨h.ro,fun b o hb=>(by cases hb),List.nodup_nil,fun a v d hm=>(by cases hm)⟩
theorem eH.spawn (H:g.status= .running)(ho:g.offers=none)(I:k<c.n)
  (h:∀w,Has F w->∃g' child,stepG c.P true g w= .spawn g' child w #[]/\eA c k {mp:=.idle,gp:=.cnt,stored:=false,deaf:=0} child ⟨F.ro,[]⟩/\eH c Φ (.add (k+1) 0) 0 g' F):
  eH c Φ (.add k 1) 0 g F:=by
 refine ⟨H,ho,fun bl gs w sl t Fr ρ φ s cl b hF ad ae=>?_⟩
 obtain ⟨U,rfl,al⟩:=ad
 obtain ⟨N,v,w1,bo,V,t1,ao,J,A,s1,br,ar,⟨d,a0⟩,f,a2,a3,bs,a4⟩:=ae.pick H sl
 have e1:=a4 (by rw[U];rfl)
 subst e1
 subst U
 have Q:A 0=F:=a2.trans hF
 have C:=f.at d
 have W:Has (A 0) (w1.at d):=C.parts.has 0 (Nat.zero_le _)
 obtain ⟨g',child,hgo,⟨K,r,hle,hW⟩,hJ⟩:=h (w1.at d) (by rw[<-Q];exact W)
 rw[<-Q] at hle
 obtain ⟨L,R⟩:=Cw hle
 have X:=runT_crowd_spawn (P:=c.P) (gs:=v) (w:=w1.at d) (sl:=V) (i:=0) f.g0 (show stepG c.P (0==0) g (w1.at d)=_ from hgo)
 have S:v.size=c.base+b:=f.size
 have hb:=f.base
 have a5:0<v.size:=aa
 let B:Ph:={mp:=.idle,gp:=.cnt,stored:=false,deaf:=0}
 have o:=C.inv
 have Y:(J b).gp= .new:=by
  have:=(o.born b I)
  rcases Classical.em ((J b).gp= .new) with x|x
  .exact x
  .exact absurd (this.2 x) (Nat.lt_irrefl _)
 obtain ⟨a6,bS⟩:=o.new b I Y
 have hinv:cW c (b+1) (upd J b B) (.none 0) s1:=by
  refine ⟨H9 o.w I B Y rfl,I,fun e=>(by cases e),fun j z=>?_,fun j z hn=>?_,fun j=>?_,o.nodup,o.pay,fun j z M Z a7=>?_⟩<;>by_cases e:j=b
  .subst e;rw[upd_same];exact ⟨fun _=>by simp[B],fun _=>aa⟩
  .rw[upd_ne _ _ e,<-o.born j z];omega
  .subst e;rw[upd_same] at hn;simp[B] at hn
  .rw[upd_ne _ _ e] at hn ⊢;exact o.new j z hn
  .subst e;rw[upd_same,o.got j,a6]
  .rw[upd_ne _ _ e];exact o.got j
  .subst e;rw[upd_same] at M;simp[B] at M
  .rw[upd_ne _ _ e] at M Z ⊢;exact o.done j z M Z a7
 let u:Array MemOp:=#[{g:=0,fn:=g.frame.fn,pos:=g.frame.place,act:=.go v.size},{g:=v.size,fn:=child.frame.fn,pos:=g.frame.place,act:=.start}]
 have a8:((MemOp.ofEvents 0 g.frame.fn g.frame.place #[]).push {g:=0,fn:=g.frame.fn,pos:=g.frame.place,act:=.go v.size}|>.push {g:=v.size,fn:=child.frame.fn,pos:=g.frame.place,act:=.start})=u:=by simp[MemOp.ofEvents,u]
 rw[a8] at X
 have a9:∀op∈u,op.act.touch?=none:=fun op D=>by
  simp only[u,List.mem_toArray,List.mem_cons,List.not_mem_nil,or_false] at D
  rcases D with rfl|rfl<;>rfl
 have ba:dN c bl (b+1) 0 (upd A (b+1) K) w1.heap.size (t1++u):=f.gm.fork ⟨rfl,by rw[S];rfl⟩ ⟨by rw[S];rfl,rfl⟩ f.deaf0 (f.above _ (by rw[S];exact Nat.le_refl _)) (.inl rfl) (fun q T=>upd_ne _ _ (by have:q<=b:=T;omega)) (fun l m=>by
  have m:ei (upd A (b+1) K (b+1)) l:=m
  rw[upd_same] at m
  cases l with
  |cell a=>simp only[ei,L] at m;cases m
  |obj r=>simp only[ei,L] at m;cases m
  |_=>exact m) (fun l m=>by
  have m:fR (upd A (b+1) K (b+1)) l:=m
  rw[upd_same] at m
  obtain ⟨a,rfl,bb⟩:=m
  exact ⟨a,rfl,R a bb⟩)
 have E:∀j,Deaf (t1++u) j=Deaf t1 j:=Deaf_still fun op D=>by
  simp only[u,List.mem_toArray,List.mem_cons,List.not_mem_nil,or_false] at D
  rcases D with rfl|rfl<;>simp
 have bc:cU c bl (.none 0) 0 (b+1) g' (upd A (b+1) K) ((v.setIfInBounds 0 g').push child) (w1.at d) (t1++u) (iD ao (c.base+b) r) (upd J b B) s1:=by
  refine ⟨by simp[Cl.emp];omega,hb,by rw[Array.getElem?_push,if_neg (by simp;omega)];exact Array.getElem?_setIfInBounds_self_of_lt a5,.inl hJ.1,fun j y bd bj O=>?_,fun i hi=>?_,fun e=>(by cases e),fun i hi=>?_,fun e=>(by cases e),fun j z=>?_,?_,C.parts.fork L R (Cx hle W),C.sh,hinv,ba,fun i hi hg=>?_,fun p d e=>(by cases e),fun e=>(by cases e),C.env.fork L R,f.ne⟩
  .rw[Array.getElem?_push,if_neg (by simp;omega),Array.getElem?_setIfInBounds_ne aa] at O
   obtain ⟨q,T,bk⟩:=f.old j y bd bj O
   exact ⟨q,by rw[gK _ _ aa];exact T,by rw[E];exact bk⟩
  .rcases Nat.lt_or_ge i b with G|ab
   .obtain ⟨y,O,bm⟩:=f.wk i G
    refine ⟨y,by rw[Array.getElem?_push,if_neg (by simp;omega),Array.getElem?_setIfInBounds_ne aa];exact O,?_⟩
    rw[gK _ _ aa,upd_ne _ _ aa,upd_ne _ _ aa]
    exact bm
   .obtain rfl:i=b:=aa
    refine ⟨child,by rw[Array.getElem?_push,if_pos (by simp;omega)],?_⟩
    rw[jv,upd_same,upd_same]
    exact hW.x4.1
  .rcases Nat.lt_or_ge i b with G|ab
   .rw[E,upd_ne _ _ aa];exact f.deaf i G
   .obtain rfl:i=b:=aa
    rw[E,upd_same];exact f.above _ aa
  .rw[E];exact f.above j (by simp at z;omega)
  .rw[E];exact f.deaf0
  .rcases Nat.lt_or_ge i b with G|ab
   .rw[upd_ne _ _ aa] at hg
    obtain ⟨r,H⟩:=f.rel i G hg
    exact ⟨r,pJ H a9⟩
   .obtain rfl:i=b:=aa
    rw[upd_same] at hg
    exact absurd rfl hg
 exact gC.step ar (gC.step (kF a0 X t1) (hJ.2.2 bl _ (w1.at d) V _ _ _ _ _ _ _ (by rw[upd_ne _ _ aa];exact Q) ⟨rfl,rfl,a3.trans al⟩ bc))
theorem eH.Jy (A:g.status= .running)(ho:g.offers=none)
  (h:∀w,Has F w->∃g' child,stepG c.P true g w= .spawn g' child w #[]/\eG c (.on (.opn 0) 0 false) child ⟨F.ro,[]⟩/\eH c Φ (.jZ []) 0 g' F):
  eH c Φ (.add c.n 0) 0 g F:=by
 refine ⟨A,ho,fun bl gs w sl t Fr ρ φ s cl a5 hF Q R=>?_⟩
 obtain ⟨J,rfl,S⟩:=Q
 obtain ⟨N,k,w1,a6,K,t1,T,L,o,s1,a7,U,⟨d,V⟩,b,W,X,a8,Y⟩:=R.pick A sl
 have e1:=Y (by rw[J];rfl)
 subst e1
 subst J
 have E:o 0=F:=W.trans hF
 have v:=b.at d
 have M:Has (o 0) (w1.at d):=v.parts.has 0 (Nat.zero_le _)
 obtain ⟨g',child,hgo,⟨B,r,hle,hW⟩,hJ⟩:=h (w1.at d) (by rw[<-E];exact M)
 rw[<-E] at hle
 obtain ⟨C,G⟩:=Cw hle
 have O:=runT_crowd_spawn (P:=c.P) (gs:=k) (w:=w1.at d) (sl:=K) (i:=0) b.g0 (show stepG c.P (0==0) g (w1.at d)=_ from hgo)
 have H:k.size=c.base+c.n:=b.size
 have hb:=b.base
 have Z:0<k.size:=aa
 have m:=v.inv
 have hinv:cW c c.n L (.on (.opn 0) 0 false) s1:=⟨m.w,m.kn,fun _=>rfl,m.born,m.new,m.got,m.nodup,m.pay,m.done⟩
 let u:Array MemOp:=#[{g:=0,fn:=g.frame.fn,pos:=g.frame.place,act:=.go k.size},{g:=k.size,fn:=child.frame.fn,pos:=g.frame.place,act:=.start}]
 have ab:((MemOp.ofEvents 0 g.frame.fn g.frame.place #[]).push {g:=0,fn:=g.frame.fn,pos:=g.frame.place,act:=.go k.size}|>.push {g:=k.size,fn:=child.frame.fn,pos:=g.frame.place,act:=.start})=u:=by simp[MemOp.ofEvents,u]
 rw[ab] at O
 have ad:∀op∈u,op.act.touch?=none:=fun op x=>by
  simp only[u,List.mem_toArray,List.mem_cons,List.not_mem_nil,or_false] at x
  rcases x with rfl|rfl<;>rfl
 have ae:dN c bl (c.n+1) (c.base+c.n) (upd o (c.n+1) B) w1.heap.size (t1++u):=b.gm.fork ⟨rfl,by rw[H];rfl⟩ ⟨by rw[H];rfl,rfl⟩ b.deaf0 (b.above _ (by rw[H];exact Nat.le_refl _)) (.inr rfl) (fun q I=>upd_ne _ _ (by have:q<=c.n:=I;omega)) (fun l f=>by
  have f:ei (upd o (c.n+1) B (c.n+1)) l:=f
  rw[upd_same] at f
  cases l with
  |cell a=>simp only[ei,C] at f;cases f
  |obj r=>simp only[ei,C] at f;cases f
  |_=>exact f) (fun l f=>by
  have f:fR (upd o (c.n+1) B (c.n+1)) l:=f
  rw[upd_same] at f
  obtain ⟨a,rfl,al⟩:=f
  exact ⟨a,rfl,G a al⟩)
 have z:∀j,Deaf (t1++u) j=Deaf t1 j:=Deaf_still fun op x=>by
  simp only[u,List.mem_toArray,List.mem_cons,List.not_mem_nil,or_false] at x
  rcases x with rfl|rfl<;>simp
 have ao:cU c bl (.on (.opn 0) 0 false) 0 c.n g' (upd o (c.n+1) B) ((k.setIfInBounds 0 g').push child) (w1.at d) (t1++u) (iD T (c.base+c.n) r) L s1:=by
  refine ⟨by simp[Cl.emp];omega,hb,by rw[Array.getElem?_push,if_neg (by simp;omega)];exact Array.getElem?_setIfInBounds_self_of_lt Z,.inl hJ.1,fun j y ar a0 D=>?_,fun i hi=>?_,fun _=>?_,fun i hi=>?_,fun _=>?_,fun j a2=>?_,?_,v.parts.fork C G (Cx hle M),v.sh,hinv,ae,fun i hi hg=>?_,fun p d e=>(by cases e),fun e=>(by cases e),v.env.fork C G,b.ne⟩
  .rw[Array.getElem?_push,if_neg (by simp;omega),Array.getElem?_setIfInBounds_ne aa] at D
   obtain ⟨q,I,a3⟩:=b.old j y ar a0 D
   exact ⟨q,by rw[gK _ _ aa];exact I,by rw[z];exact a3⟩
  .obtain ⟨y,D,a4⟩:=b.wk i hi
   refine ⟨y,by rw[Array.getElem?_push,if_neg (by simp;omega),Array.getElem?_setIfInBounds_ne aa];exact D,?_⟩
   rw[gK _ _ aa,upd_ne _ _ aa]
   exact a4
  .refine ⟨child,by rw[Array.getElem?_push,if_pos (by simp;omega)],?_⟩
   rw[jv,upd_same]
   exact (hW.cat s1).1
  .rw[z];exact b.deaf i hi
  .rw[z];exact b.above _ aa
  .rw[z];exact b.above j (by simp at a2;omega)
  .rw[z];exact b.deaf0
  .obtain ⟨r,A⟩:=b.rel i hi hg
   exact ⟨r,pJ A ad⟩
 exact gC.step U (gC.step (kF V O t1) (hJ.2.2 bl _ (w1.at d) K _ _ _ _ _ _ _ (by rw[upd_ne _ _ aa];exact E) ⟨rfl,rfl,X.trans S⟩ ao))
end
theorem iT.Jz {P:Program}{Φ:Goroutine->af->Prop}{g:Goroutine}{F F1:af}{Wg C:Nat}{tW:TypeId}{z:Value}{n:Nat}{pay:Nat->Option hO}(S:∀i R ro aF v,pay i=some R->Ext ro aF->R ro v->R aF v)(J:g.status= .running)(ho:g.offers=none)
  (hle:Le ⟨F1.ro,(Wg,wgBlock tW 0 0)::(C,.chan 0 #[] false 0 0 false)::F1.own⟩ F)
  (h:∀base T0 w1,0<base->Wg≠C->eH ⟨P,Wg,C,tW,z,n,pay,S,base,T0,F1,w1⟩ (iT P Φ) (.add 0 0) 0 g F1):iT P Φ g F:=by
 refine ⟨J,ho,fun bl gs w sl t q m=>?_⟩
 have D:=hle.has w m.has
 have T:0<gs.size:=(Array.getElem?_eq_some_iff.1 m.g0).1
 let c:Gy:=⟨P,Wg,C,tW,z,n,pay,S,gs.size,t.size,F1,w⟩
 have U:=D.nodup
 simp only[keys,List.map_cons,List.nodup_cons,List.mem_cons,not_or] at U
 obtain ⟨⟨n1,V⟩,n3,W⟩:=U
 have E:∀b,c.cy.shared b->b∈keys F.own:=fun b hb=>by
  rcases hb with rfl|rfl|rfl<;>exact hle.own _ (by simp[keys,c])
 have G:∀b,b∈keys F1.own->b∈keys F.own:=fun b hb=>hle.own b (by simp only[keys,List.map_cons,List.mem_cons];exact .inr (.inr hb))
 have L:∀a,(F1.ro a).isSome=true->(F.ro a).isSome=true\/a.block∈keys F.own:=fun a k=>hle.ro a k
 have X:Has F1 w:=⟨D.ro,fun b o hb=>D.own b o (List.mem_cons_of_mem _ (List.mem_cons_of_mem _ hb)),W,fun a v J hm=>D.apart a v J (by simp only[keys,List.map_cons,List.mem_cons];exact .inr (.inr hm))⟩
 have K:∀l,F.iq l->∀i a,touchAt t i=some a->a.loc=l->l.isMemory=true->Go.Conc.Knows t 0 i:=fun l A i a k e hm=>by
  rcases m.past.known i a k (by rw[e];exact hm) with x|⟨x,_⟩
  .exact x
  .exact absurd A (m.apart l (e▸x))
 let φ:Nat->Ph:=fun _=>{mp:=.idle,gp:=.new,stored:=false,deaf:=0}
 let s:Sg:=⟨0,0,[]⟩
 have M:∀f:Gp->Nat,f .new=0->sg n φ f=0:=fun f H=>s6 fun i hi=>H
 have Y:cU c bl (.none 0) 0 0 g (fun _=>F1) gs w t (fun j=>Rk.nat (q j)) φ s:=by
  refine ⟨rfl,T,m.g0,.inl J,fun j x Z _ ab=>⟨q j,rfl,m.lv.old j x Z ab⟩,fun i hi=>aa,fun e=>(by cases e),fun i hi=>aa,fun e=>(by cases e),m.lv.above,m.past.hears,
   ⟨fun p u=>X,fun p q u O ad=>?_,fun p q u O ad=>?_,fun p u b hb hs=>?_,fun p u a k hs=>?_,fun b hb=>m.has.lt (E b hb)⟩,
   ⟨D.own Wg (wgBlock tW 0 0) (.head _),D.own C _ (.tail _ (.head _))⟩,⟨⟨?_⟩,Nat.zero_le _,fun e=>(by cases e),fun i hi=>⟨fun e=>aa,fun e=>by simp[φ] at e⟩,fun i hi _=>⟨rfl,rfl⟩,fun i=>by simp[s,φ],List.nodup_nil,fun i hi=>by simp[s] at hi,fun i hi _ hn=>by simp[φ] at hn⟩,
   ⟨Nat.le_refl _,fun i a k hs=>.inr fun p u=>?_,m.past.clean,fun p u l A=>?_,fun p u l A=>?_,m.past.seen,fun i hi e=>?_,fun i a k hm=>?_,fun i g hg ae al=>.inl (m.past.over i g hg ae al)⟩,
   fun i hi=>aa,fun p d e=>(by cases e),fun e=>(by cases e),⟨.refl _,rfl,rfl,Nat.le_refl _,fun _ _ _ _=>rfl,fun p u b hb=>.inl hb,fun p u a k=>.inl k,fun l A H=>?_,⟨fun a hs hb=>m.apart _ hs (.inl (E _ hb)),fun r hs hb=>m.apart _ hs (E _ hb)⟩,m.low⟩,n1⟩
  .have:p<=0:=u;have:q<=0:=O;omega
  .have:p<=0:=u;have:q<=0:=O;omega
  .rcases hs with e|e|e
   .exact n3 (by rw[<-show b=C from e];exact hb)
   .exact V (by rw[<-show b=Wg from e];exact hb)
   .exact n3 (by rw[<-show b=C from e];exact hb)
  .obtain ⟨v,hv⟩:=Option.isSome_iff_exists.1 k
   refine D.apart a v hv ?_
   rcases hs with e|e|e
   .rw[show a.block=C from e];simp[keys]
   .rw[show a.block=Wg from e];simp[keys]
   .rw[show a.block=C from e];simp[keys]
  .refine ⟨aa,?_,rfl,M _ rfl,M _ rfl⟩
   show (0:Int)=((sg n φ Gp.nV+0:Nat):Int)*c8
   rw[M _ rfl];rfl
  .have u:p<=0:=u
   obtain rfl:p=0:=aa
   rcases hs with ⟨b,e,hb⟩|e
   .exact K a.loc (by rw[e];exact .inl (E _ (.inr (.inl hb)))) i a k rfl (by rw[e];rfl)
   .exact K a.loc (by rw[e];exact E _ (.inl rfl)) i a k rfl (by rw[e];rfl)
  .have u:p<=0:=u
   obtain rfl:p=0:=aa
   intro i a k e
   refine K l ?_ i a k e ?_
   .cases l with
    |cell a=>exact .inl (G _ A)
    |obj r=>exact G _ A
    |_=>exact A.elim
   .cases l<;>first|rfl|exact A.elim
  .have u:p<=0:=u
   obtain rfl:p=0:=aa
   obtain ⟨b,rfl,hb⟩:=A
   exact fun i a k e _=>K (.cell b) ((L b hb).elim (fun x=>Or.inr x) (fun x=>Or.inl x)) i a k e rfl
  .exact absurd (lt_of_act? e) (Nat.not_lt.2 hi)
  .rcases m.past.known i a k hm with x|x
   .exact .inl x
   .exact .inr (.inl x)
  .refine m.apart l A ?_
   cases l with
   |cell a=>exact H.elim (fun x=>.inl (G _ x)) fun x=>(L a x).elim .inr .inl
   |obj r=>exact G _ H
   |_=>exact H
 obtain ⟨N,gs',w',ao,ar,a0,g',F',a2,k1,a3,B,a4,a5⟩:=(h gs.size t.size w T n1).2.2 bl gs w sl t _ _ _ _ _ 0 rfl ⟨rfl,rfl,rfl⟩ Y
 obtain ⟨a6,a7,w2,a8,t2,a9,ba,bb,bc,bd,bj,bk,bm,bo⟩:=a5.2.2 a2 gs' w' ao ar a0 a3
 have Q:fL F F' w w':=⟨B.os,B.tape,B.output,B.size,fun b hb hn=>B.frame b hb (fun x=>hn (G b x)) (fun x=>hn (E b x)),fun a k=>by
  rcases B.ro a k with x|x|x
  .exact (L a x).imp id .inl
  .exact .inr (.inl (G _ x))
  .exact .inr (.inr x),fun b hb=>by
  rcases B.own b hb with x|x
  .exact .inl (G b x)
  .exact .inr x⟩
 refine ⟨N+a6,a7,w2,a8,t2,a9,ba,bb,bc,by rw[kK k1];exact bd,bj,Q.trans bk,fun l A=>?_,bo⟩
 rcases bm l A with x|x|x
 .rcases a4 l x with y|⟨a,rfl,k⟩
  .exact .inl y
  .exact .inr (.inr (show a.block∈keys F.own from E _ (.inr (.inl k))))
 .exact .inr (.inl fun I=>x (Loc.low_mono B.size I))
 .cases l with
  |cell a=>
   rcases Q.own _ x with y|y
   .exact .inr (.inr y)
   .exact .inr (.inl fun I=>absurd I (Nat.not_lt.2 y))
  |obj r=>
   rcases Q.own _ x with y|y
   .exact .inr (.inr y)
   .exact .inr (.inl fun I=>absurd I (Nat.not_lt.2 y))
  |_=>exact x.elim
end Go.Sep
end
section
namespace Go.Sep
open Go Go.Conc
open Go.ConcN (sumTo upd upd_ne upd_same)
open Go.ConcM (OsLater)
open Go.ConcR (WgAt wgBlock stA smA)
abbrev WG (c:Gy)(i:Nat):Ph->Goroutine->af->Prop:=fun ph g F=>eA c i ph g F
section
variable {c:Gy}{i k:Nat}{ph:Ph}{φ:Nat->Ph}{cl:Cl}{s:Sg}{w:World}
theorem x7 {aX:Ph}(hd:aX.deaf=ph.deaf)(hg:aX.gp= .cnt↔ph.gp= .cnt):iH c ph aX #[]:=.book an (by rw[hd];rfl) an hg
theorem hU.left {r:Rk}{g:Goroutine}{F:af}(h:hU c i r g F ph)(hg:ph.gp= .gone):∃q,QuitsD c.P q ph.deaf g:=by
 obtain ⟨ι,f⟩:=r;rcases h with ⟨_,q,_,b⟩|⟨_,_,a,_⟩|⟨_,_,a,_⟩|⟨_,_,a,_⟩
 .exact ⟨q,b⟩
 .rw[hg] at a;cases a
 .exact absurd hg a
 .rw[hg] at a;cases a
theorem WG.eT (c:Gy)(i:Nat)(ph:Ph):ez c.P false (WG c i ph):=⟨fun {fr fr' cs cs' F} hs h=>by
 by_cases hg:ph.gp= .gone
 .obtain ⟨F0,r,hle,hW⟩:=h
  obtain ⟨q,a⟩:=hW.left hg
  exact eA.gone (q:=q+1) hg (.inr ⟨rfl,G fr' cs',#[],an,hs,by rw[deafBehind_nil];exact a⟩)
 .refine eA.act rfl rfl hg fun w s k φ cl f b g d e=>⟨G fr' cs',w,#[],s,ph,hs w,b,.refl _ _,?_,rfl,x7 rfl Iff.rfl,.inr (Int.le_refl _),h⟩
  rw[<-d,w8];exact e⟩
variable {ops:Array Oper}{j n:Nat}{Q:Act->af->Ph->Prop}{a:Act}{F:af}{o:Oper}{f fi:FuncId}{cM:Array Operand}{dI:Array TypeId}{d:Option Tmp}
theorem m0 (ho:ops[j]?=some o)(g:ph.gp≠ .gone)
  (h:∀(w:World) (s:Sg) (k:Nat) (φ:Nat->Ph) (cl:Cl),Has F w->c5 c w s cl->i<c.n->φ i=ph->cW c k φ cl s->
   ∃(v:Value) (w':World) (es:Array Event) (s':Sg) (aX:Ph),(∀(b:Frame) (d:List Item) (cs:List Frame),BF fi b->
    stepG c.P false (G (b.at a (.inRegion ops (j::List.range' (j+1) n)::d)) cs) w= .go (G (b.at (a.put o.dst v) (.inRegion ops (List.range' (j+1) n)::d)) cs) w' es)/\c5 c w' s' cl/\fq c.cy w w'/\cW c k (upd φ i aX) cl s'/\s'.got=s.got/\iH c ph aX es/\
    ((∃call,o.op= .call call/\∀x,call.callee= .value x->∃f,a.eval x= .func (.func f) #[] #[]/\(c.P.funcs[f]?).any (·.body.isSome)=false)\/s'.ws<=s.ws)/\ay (WG c i) fi ops (j+1) n Q (a.put o.dst v) F aX):ay (WG c i) fi ops j (n+1) Q a F ph:=fun b d cs hb l=>by
 rw[List.range'_succ,dy hb.round]
 refine eA.act rfl rfl g fun w s k φ cl e1 e2 e3 m p=>?_
 obtain ⟨v,w',es,s',aX,z,q,r,t,u,y,e,A⟩:=h w s k φ cl e1 e2 e3 m p
 refine ⟨_,w',es,s',aX,z b d cs hb,q,r,t,u,y,?_,?_⟩
 .rcases e with ⟨call,B,C⟩|e
  .refine .inl ?_
   simp only[mayWake,G,Frame.at,ho,Option.map_some,B]
   obtain ⟨callee,args,argTypes⟩:=call
   cases callee with
   |value x=>
    obtain ⟨f,D,hb⟩:=C x rfl
    have:Frame.eval (b.at a (.inRegion ops (j::List.range' (j+1) n)::d)) x= .func (.func f) #[] #[]:=by rw[Frame.eval_at];exact D
    simp only[Frame.at] at this
    simp only[this,hb,Bool.not_false]
   |_=>rfl
  .exact .inr e
 .rw[<-dy hb.round];exact A b d cs hb l
theorem c5.wg (h:c5 c w s cl):w.cell? (stA c.Wg)=some (.int .u64 s.wg)/\w.frozen? (stA c.Wg)=false:=by
 have:=h.1;unfold WgAt wgBlock at this;simp[World.cell?,World.frozen?,stA,this]
theorem c5.ws (h:c5 c w s cl):w.cell? (smA c.Wg)=some (.int .u32 s.ws)/\w.frozen? (smA c.Wg)=false:=by
 have:=h.1;unfold WgAt wgBlock at this;simp[World.cell?,World.frozen?,smA,this]
theorem c5.tO (b:c.Wg≠c.C)(h:c5 c w s cl)(v:Int):c5 c (w.setCell (stA c.Wg) (.int .u64 v)) {s with wg:=v} cl:=by
 obtain ⟨d,e⟩:=h;refine ⟨?_,?_⟩
 .unfold WgAt wgBlock at*;exact (heap_set w (a:=stA c.Wg) d rfl).trans rfl
 .rw[w9 w (Ne.symm b)];exact e
theorem c5.Cz (b:c.Wg≠c.C)(h:c5 c w s cl)(v:Int):c5 c (w.setCell (smA c.Wg) (.int .u32 v)) {s with ws:=v} cl:=by
 obtain ⟨d,e⟩:=h;refine ⟨?_,?_⟩
 .unfold WgAt wgBlock at*;exact (heap_set w (a:=smA c.Wg) d rfl).trans rfl
 .rw[w9 w (Ne.symm b)];exact e
theorem pL:c.cy.shared c.Wg:=.inr (.inl rfl)
theorem JA:iH c ph {ph with deaf:=ph.deaf+1} #[cA .disable]:=
 .book (fun e he=>by simp at he;exact .inl he) rfl (fun j e he=>.inl (by have:=Array.mem_of_getElem? he;simp at this;subst this;rfl)) Iff.rfl
theorem CA {aX:Ph}{a:Addr}(x:Bool)(hd:aX.deaf=ph.deaf)(hg:aX.gp= .cnt↔ph.gp= .cnt)(b:0<ph.deaf)(d:a.block=c.Wg):iH c ph aX #[⟨.cell a,x,true⟩]:=by
 refine .book (fun e he=>?_) (by rw[hd];simp[deafBehind]) (fun j e he=>?_) hg
 .simp at he;exact .inr (.inr ⟨a,x,he,d⟩)
 .match j,he with
  |0,_=>exact .inr (by simpa [deafBehind] using b)
  |j+1,he=>simp at he
theorem JB {aX:Ph}{a:Addr}(hd:aX.deaf=ph.deaf)(hg:aX.gp= .cnt↔ph.gp= .cnt)(b:0<ph.deaf)(d:a.block=c.Wg):iH c ph aX #[⟨.cell a,false,true⟩,⟨.cell a,true,true⟩]:=by
 refine .book (fun e he=>?_) (by rw[hd];simp[deafBehind]) (fun j e he=>?_) hg
 .simp at he;rcases he with he|he<;>exact .inr (.inr ⟨a,_,he,d⟩)
 .match j,he with
  |0,_=>exact .inr (by simpa [deafBehind] using b)
  |1,_=>exact .inr (by simpa [deafBehind] using b)
  |j+2,he=>simp at he
theorem JC {aX:Ph}{a:Addr}(hd:aX.deaf=ph.deaf)(hg:aX.gp= .cnt↔ph.gp= .cnt)(b:a.block=c.Wg):iH c ph aX (semEvents a):=by
 refine .book (fun e he=>?_) (by rw[hd];simp[deafBehind,semEvents]) (fun j e he=>?_) hg
 .simp[semEvents] at he;rcases he with rfl|rfl|rfl|rfl
  .exact .inl rfl
  .exact .inr (.inr ⟨a,_,rfl,b⟩)
  .exact .inr (.inr ⟨a,_,rfl,b⟩)
  .exact .inr (.inl rfl)
 .match j,he with
  |0,he=>simp[semEvents] at he;subst he;exact .inl rfl
  |1,_=>exact .inr (by simp[deafBehind,semEvents])
  |2,_=>exact .inr (by simp[deafBehind,semEvents])
  |3,he=>simp[semEvents] at he;subst he;exact .inl rfl
  |j+4,he=>simp[semEvents] at he
theorem cW.deaf (h:cW c k φ cl s)(hi:i<c.n)(he:φ i=ph)(hg:ph.gp≠ .new)(d:Nat):cW c k (upd φ i {ph with deaf:=d}) cl s:=
 h.gL hi he hg hg rfl rfl (q3 h.w hi _ (.inl (by rw[he]))) fun a b=>by subst he;exact h.done i hi a hg b
theorem cW.tP (h:cW c k φ cl s)(hi:i<c.n)(he:φ i=ph)(a:ph.gp≠ .new)(b:ph.gp≠ .cnt){gp:Gp}(d:gp≠ .new){wg ws:Int}
  (hw:c9 c.n (upd φ i {ph with gp:=gp}) cl.p0 wg ws):cW c k (upd φ i {ph with gp:=gp}) cl {s with wg:=wg,ws:=ws}:=
 h.gL hi he a d rfl rfl hw fun _ e=>by subst he;exact h.done i hi b a e
theorem JD (he:φ i=ph)(a:cW c k φ cl s):cW c k (upd φ i ph) cl s:=by rw[<-he,w8];exact a
theorem JE (e:Entry c.P f (fun _=>do mark .disable;pure Extern.Race.none_)){vals:List Value}(g:At ops j a f vals d)(l:ph.gp≠ .gone)(m:ph.gp≠ .new)
  (h:ay (WG c i) fi ops (j+1) n Q (bC a d (.tuple #[])) F {ph with deaf:=ph.deaf+1}):ay (WG c i) fi ops j (n+1) Q a F ph:=by
 obtain ⟨o,cM,dI,ho,hg,p,_,rfl⟩:=g
 refine m0 ho l fun w s k φ p0 _ hs hi he q=>⟨.tuple #[],w,_,s,_,fun b r cs hb=>?_,hs,.refl _ _,q.deaf hi he m _,rfl,JA,.inr (Int.le_refl _),h⟩
 obtain ⟨fn,f1,f2,f3,f4,f5⟩:=e.ex
 exact stepG_mark0 .disable an ho (cH hg) hb.kind p f1 f2 f3 f4 f5
theorem JG (l:Entry c.P f (Extern.Race.marked .releaseMerge))(m:At ops j a f [.pointer (some (stA c.Wg))] d)(e:ph.gp= .cnt)
  (hd:ph.deaf=0) (p:(c.pay i).isSome=true->ph.stored=true)
  (h:ay (WG c i) fi ops (j+1) n Q (bC a d (.tuple #[])) F {ph with gp:=.rel}):ay (WG c i) fi ops j (n+1) Q a F ph:=by
 obtain ⟨o,cM,dI,ho,hg,q,hv,rfl⟩:=m
 obtain ⟨x,rfl,r⟩:=mQ hv
 refine m0 ho (by rw[e];simp) fun w s k φ p0 _ hs hi he g=>⟨.tuple #[],w,_,s,{ph with gp:=.rel},fun b t cs hb=>?_,hs,.refl _ _,?_,rfl,.rel rfl ⟨hd,hd⟩ e,.inr (Int.le_refl _),h⟩
 .obtain ⟨fn,f1,f2,f3,f4,f5⟩:=l.ex
  exact stepG_markAt .releaseMerge an ho (cH hg) hb.kind q f1 f2 f3 f4 f5 (by simp[fC,r])
 .exact g.gL hi he (by rw[e];simp) an rfl rfl (q3 g.w hi _ (.inr ⟨by rw[he];exact e,rfl⟩)) fun _=>p
theorem JH (ad:Addr){src dst t:TypeId}(hs:c.P.underlying src=some (.pointer t))(hd:c.P.underlying dst=some .unsafePointer)(e:(c.P.info? t).map (fun i=>decide (i.size=0))=some false){x:Operand}
  (g:jw ops j a (.convert src dst x) d) (l:ph.gp≠ .gone) (m:ev a x= .pointer (some ad)) (p:∀w s cl,c5 c w s cl->∃v,w.cell? ad=some v) (h:ay (WG c i) fi ops (j+1) n Q (bC a d (.pointer (some ad))) F ph):ay (WG c i) fi ops j (n+1) Q a F ph:=by
 obtain ⟨o,ho,hg,q,rfl⟩:=g
 refine m0 ho l fun w s k φ p0 _ f hi he r=>⟨_,w,#[],s,ph,fun b z cs hb=>?_,f,.refl _ _,JD he r,rfl,x7 rfl Iff.rfl,.inr (Int.le_refl _),h⟩
 obtain ⟨v,hv⟩:=p w s _ f
 have e1:execOp a.eval o=(do pure (.value (<-convert src dst (.pointer (some ad)))):Sem Next):=by
  unfold execOp
  simp only[q,fC,m]
 have u:(execOp a.eval o).run c.P w= .ok (.value (.pointer (some ad))) w:=by
  rw[e1];simp[run_convert_to_unsafe hs hd e hv]
 have y:(execOp a.eval o).events c.P w #[]=#[]:=by
  rw[e1];simp[events_convert_to_unsafe hs hd e hv]
 rw[stepG_value ho (cH hg) hb.kind u]
 unfold listed
 rw[y,seen_none]
theorem JI (l:Entry c.P f (Extern.Atomic.update (Op.intArith .add) .u64 true))(m:c.Wg≠c.C)(hn:c.n<67108864)(p:At ops j a f [.pointer (some (stA c.Wg)),.int .u64 18446744069414584320] d)
  (e:ph.gp= .rel) (q:0<ph.deaf)
  (h:∀v t:Nat,v<=c.n->t<=1->ay (WG c i) fi ops (j+1) n Q (bC a d (.int .u64 ((v:Int)*4294967296+t))) F {ph with gp:=if v=0/\t=1 then .ld else .gone}):
  ay (WG c i) fi ops j (n+1) Q a F ph:=by
 obtain ⟨o,cM,dI,ho,hg,r,hv,rfl⟩:=p
 obtain ⟨x,y,rfl,u,z⟩:=tc hv
 obtain ⟨fn,f1,f2,f3,f4,f5⟩:=l.ex
 refine m0 ho (by rw[e];simp) fun w s k φ p0 _ hs hi he g=>?_
 obtain ⟨v,t,e1,ht,A,_⟩:=Bu g.w hi ph (by rw[he];exact e)
 obtain ⟨B,D,E,G,_,hw⟩:=Bu g.w hi {ph with gp:=if v=0/\t=1 then .ld else .gone} (by rw[he];exact e)
 obtain ⟨rfl,rfl⟩:v=B/\t=D:=by simp only[c8] at e1 E;omega
 have e2:IntKind.u64.wrap (s.wg+18446744069414584320)=(v:Int)*4294967296+t:=by
  rw[e1]
  unfold IntKind.wrap
  simp only[IntKind.bits,IntKind.signed,c8]
  simp
  omega
 have e3:s.wg - c8=(v:Int)*4294967296+t:=by rw[e1];simp only[c8];omega
 refine ⟨.int .u64 ((v:Int)*4294967296+t),_,_,{s with wg:=(v:Int)*4294967296+t},{ph with gp:=if v=0/\t=1 then .ld else .gone},fun b H cs hb=>by rw[<-e2];exact stepG_add_atomic ho (cH hg) hb.kind r f1 f2 f3 f4 .u64 f5 u z hs.wg.1 hs.wg.2,by rw[<-e2];exact hs.tO m _,.set _ pL,?_,rfl,JB rfl ?_ q rfl,.inr (Int.le_refl _),h v t A ht⟩
 .refine g.tP hi he (by rw[e];simp) (by rw[e];simp) (by split<;>simp) ?_
  rw[<-e3]
  exact hw rfl
 .simp only[e];split<;>simp
theorem JJ (l:Entry c.P f (Extern.Atomic.loadT (.int .u64)))(m:At ops j a f [.pointer (some (stA c.Wg))] d)(e:ph.gp= .ld)(p:0<ph.deaf)
  (h:ay (WG c i) fi ops (j+1) n Q (bC a d (.int .u64 1)) F {ph with gp:=.st}):ay (WG c i) fi ops j (n+1) Q a F ph:=by
 obtain ⟨o,cM,dI,ho,hg,q,hv,rfl⟩:=m
 obtain ⟨x,rfl,r⟩:=mQ hv
 obtain ⟨fn,f1,f2,f3,f4,f5⟩:=l.ex
 refine m0 ho (by rw[e];simp) fun w s k φ p0 _ hs hi he g=>?_
 obtain ⟨e1,hw⟩:=HZ g.w hi {ph with gp:=.st} (by rw[he];exact e) rfl
 exact ⟨.int .u64 1,_,_,s,{ph with gp:=.st},fun b t cs hb=>by rw[<-e1];exact stepG_load_atomic ho (cH hg) hb.kind q f1 f2 f3 f4 .u64 f5 r hs.wg.1,hs,.refl _ _,g.tP hi he (by rw[e];simp) (by rw[e];simp) an hw,rfl,CA false rfl (by simp[e]) p rfl,.inr (Int.le_refl _),h⟩
theorem JK (l:Entry c.P f Extern.Atomic.storeT)(m:c.Wg≠c.C)(p:At ops j a f [.pointer (some (stA c.Wg)),.int .u64 0] d)(e:ph.gp= .st)(q:0<ph.deaf)
  (h:ay (WG c i) fi ops (j+1) n Q (bC a d (.tuple #[])) F {ph with gp:=.sm}):ay (WG c i) fi ops j (n+1) Q a F ph:=by
 obtain ⟨o,cM,dI,ho,hg,r,hv,rfl⟩:=p
 obtain ⟨x,y,rfl,t,u⟩:=tc hv
 obtain ⟨fn,f1,f2,f3,f4,f5⟩:=l.ex
 refine m0 ho (by rw[e];simp) fun w s k φ p0 _ hs hi he g=>?_
 obtain ⟨e1,hw⟩:=H6 g.w hi {ph with gp:=.sm} (by rw[he];exact e) rfl
 exact ⟨.tuple #[],_,_,{s with wg:=0},{ph with gp:=.sm},fun b v cs hb=>stepG_store_atomic ho (cH hg) hb.kind r f1 f2 f3 f4 f5 t u hs.wg.1 hs.wg.2,hs.tO m _,.set _ pL,g.tP hi he (by rw[e];simp) (by rw[e];simp) an hw,rfl,CA true rfl (by simp[e]) q rfl,.inr (Int.le_refl _),h⟩
theorem JL (q r:Value)(l:Entry c.P f Extern.Sync.semrelease)(t:c.Wg≠c.C)(u:At ops j a f [.pointer (some (smA c.Wg)),q,r] d)(e:ph.gp= .sm)
  (h:ay (WG c i) fi ops (j+1) n Q (bC a d (.tuple #[])) F {ph with gp:=.gone}):ay (WG c i) fi ops j (n+1) Q a F ph:=by
 obtain ⟨o,cM,dI,ho,hg,m,hv,rfl⟩:=u
 obtain ⟨x,y,z,rfl,g,_,_⟩:=BH hv
 obtain ⟨fn,f1,f2,f3,f4,f5⟩:=l.ex
 refine m0 ho (by rw[e];simp) fun w s k φ p0 _ hs hi he p=>?_
 obtain ⟨e1,hw⟩:=H7 p.w hi {ph with gp:=.gone} (by rw[he];exact e) rfl
 have v:IntKind.u32.wrap (s.ws+1)=s.ws+1:=by rw[e1];decide
 refine ⟨.tuple #[],_,_,{s with ws:=s.ws+1},{ph with gp:=.gone},fun b A cs hb=>stepG_semrelease ho (cH hg) hb.kind m f1 f2 f3 f4 f5 (by simp[fC,g]) hs.ws.1 hs.ws.2,by rw[v];exact hs.Cz t _,.set _ pL,
  p.tP hi he (by rw[e];simp) (by rw[e];simp) an hw,rfl,JC rfl (by simp[e]) rfl,.inl ⟨_,m,fun x g=>?_⟩,h⟩
 cases g
 exact ⟨f,rfl,l.It⟩
theorem x8 {v:Value}{R:hO}{x y:Operand}(hR:c.pay i=some R)(hv:R F.ro v)(k:jw ops j a (.send x y) d)(l:ev a x= .chan (some c.C))(m:ev a y=v)(p:ph.gp= .cnt)(q:ph.stored=false)(hd:ph.deaf=0)
  (h:ay (WG c i) fi ops (j+1) n Q (bC a d undef) F {ph with stored:=true}):ay (WG c i) fi ops j (n+1) Q a F ph:=fun b f cs hb r=>by
 obtain ⟨o,ho,hg,g,rfl⟩:=k
 rw[List.range'_succ,dy hb.round]
 refine eA.send (z:=.tuple #[]) rfl rfl p q hd hR hv (fun w=>?_) ?_
 .rw[stepG_comm (cases:=#[scase c.C v (.tuple #[])]) (blocking:=true) (shape:=.send) (w':=w) ho (cH hg) hb.kind (by
   unfold execOp
   simp only[g,fC,l,m]
   simp[scase])]
  have he:(execOp a.eval o).events c.P w #[]=#[]:=by
   unfold execOp
   simp only[g]
   rfl
  unfold listed
  rw[he,seen_none]
 .have e:Go.Conc.served (G (b.at a (.inRegion ops (j::List.range' (j+1) n)::f)) cs) undef=G (b.at (a.put o.dst undef) (.inRegion ops (List.range' (j+1) n)::f)) cs:=by
   rw[served_G]
   simp[ho]
  rw[e,<-dy hb.round]
  exact h b f cs hb r
end
end Go.Sep
end
section
namespace Go.Sep
open Go Go.Conc
open Go.ConcN (sumTo upd upd_ne upd_same)
open Go.ConcR (stA smA)
section
variable {c:Gy}{i:Nat}{ph:Ph}{F:af}{f fd:FuncId}
theorem JM (g:Entry c.P f (fun _=>do mark .enable;pure Extern.Race.none_))(hg:ph.gp= .gone){d:Nat}(hd:ph.deaf=d+1){b:Frame}{a:Act}{todo:List Item}{cs:List Frame}{e:List Deferred}(j:a.defers=dcall f #[]::e)
  (h:WG c i {ph with deaf:=d} (G {b.at ⟨a.tmps,e⟩ todo with mode:=.returning} cs) F):WG c i ph (G {b.at a todo with mode:=.returning} cs) F:=by
 obtain ⟨F0,r,hle,hW⟩:=h
 obtain ⟨q,k⟩:=hW.left hg
 obtain ⟨fn,f1,f2,f3,f4,f5⟩:=g.ex
 refine eA.gone (q:=q+1) hg (QuitsD.unwind_mark .enable rfl an j f1 f2 f3 f4 f5 ?_)
 rw[hd]
 exact k
theorem dH.JN {f0:FuncId}(m:Entry c.P f (fun _=>do mark .enable;pure Extern.Race.none_)){fn:Func}{cd:Code}{n:Nat}{args:Array Value}{R:Value->af->Ph->Prop}(k:c.P.funcs[f0]?=some fn)(hb:fn.body=some cd)(l:fn.results=#[])(hn:fn.ntmps=n)(s:args.size<=n)
  (h:∀A:Act,sz A=n->A.defers=[]->(∀i,slot A i=args.getD i undef)->cV (WG c i) f0 cd (ko f R) A F ph):dH c.P (WG c i) f0 args F ph R:=by
 intro d cs hR
 let b:Frame:={(default:Frame) with fn:=f0,kind:=.normal}
 have o:b.roundOf=none:=rfl
 have p:Frame.enter c.P f0 args .normal=on b {tmps:=args++Array.replicate (fn.ntmps - args.size) undef,defers:=[]} [.code cd]:=by
  simp[Frame.enter,on,k,hb,b]
  rfl
 rw[p]
 have hM:=WG.eT c i
 have leave:∀(a:Act) (todo:List Item) F' (aX:Ph),(a.defers=[dcall f #[]]/\aX.gp= .gone/\∃g,aX.deaf=g+1/\R (.tuple #[]) F' {aX with deaf:=g})->WG c i aX (G {on b a todo with mode:=.returning} (d::cs)) F':=by
  intro a todo F' aX ⟨hd,hg,g,q,r⟩
  rw[dy o]
  refine JM m hg q hd ((hM _).move (fr':=d.finish (.tuple #[])) (cs':=cs) (fun w=>?_) (hR _ F' _ r))
  exact stepG_leave rfl rfl k (results_none l _ c.P w) (events_results_none l _ _)
 refine h _ (by simp[sz,hn];omega) rfl (fun i=>?_) b [] (d::cs) ⟨by simp[b],rfl,rfl⟩ fun e a F' aX j=>?_
 .simp only[slot,hn,Array.getD_eq_getD_getElem?]
  rcases Nat.lt_or_ge i args.size with hi|hi
  .rw[Array.getElem?_append_left hi]
  .rw[Array.getElem?_append_right hi,Array.getElem?_replicate,Array.getElem?_eq_none hi]
   split<;>rfl
 .cases e with
  |normal=>exact (hM aX).move (fun _=>kI rfl) (leave a _ F' aX j)
  |exit i=>exact j.elim
  |ret=>exact fun t=>(hM aX).move (fun _=>stepG_ret' rfl) (leave a _ F' aX j)
theorem JO {f0:FuncId}{fn:Func}{cd:Code}{n:Nat}{args:Array Value}{R:af->Ph->Prop}(j:c.P.funcs[f0]?=some fn)(m:(fn.name== "runtime.NumGoroutine")=false)(hb:fn.body=some cd)(k:fn.results=#[])(hn:fn.ntmps=n)(q:args.size<=n)
  {b:Frame} {a:Act} {todo:List Item} {cs:List Frame} {f:List Deferred} (o:a.defers=dcall f0 args::f)
  (h:∀A:Act,sz A=n->A.defers=[]->(∀i,slot A i=args.getD i undef)->cV (WG c i) f0 cd (xj R) A F ph)
  (hR:∀F' aX,R F' aX->WG c i aX (G {b.at ⟨a.tmps,f⟩ todo with mode:=.returning} cs) F'):WG c i ph (G {b.at a todo with mode:=.returning} cs) F:=by
 have hM:=WG.eT c i
 refine (hM ph).move (fun w=>stepG_unwind_enter o j m hb) ?_
 have leave:∀(d:Act) (l:List Item) F' (aX:Ph),(d.defers=[]/\R F' aX)->WG c i aX (G {(baseD f0).at d l with mode:=.returning} ({b.at ⟨a.tmps,f⟩ todo with mode:=.returning}::cs)) F':=by
  intro d l F' aX ⟨hd,p⟩
  exact (hM _).move (fun w=>stepG_leave_deferred rfl hd j (results_none k _ c.P w) (events_results_none k _ _) rfl) (hR F' aX p)
 have:=h {tmps:=args++Array.replicate (fn.ntmps - args.size) undef,defers:=[]} (by simp[sz,hn];omega) rfl (fun i=>?_) (baseD f0) [] ({b.at ⟨a.tmps,f⟩ todo with mode:=.returning}::cs) ⟨by simp[baseD],rfl,rfl⟩ fun e d F' aX g=>?_
 .rw[dy rfl] at this;exact this
 .simp only[slot,hn,Array.getD_eq_getD_getElem?]
  rcases Nat.lt_or_ge i args.size with hi|hi
  .rw[Array.getElem?_append_left hi]
  .rw[Array.getElem?_append_right hi,Array.getElem?_replicate,Array.getElem?_eq_none hi]
   split<;>rfl
 .cases e with
  |normal=>exact (hM aX).move (fun _=>kI rfl) (leave d _ F' aX g)
  |exit i=>exact g.elim
  |ret=>exact fun r=>(hM aX).move (fun _=>stepG_ret' rfl) (leave d _ F' aX g)
def ru (c:Gy)(i:Nat)(fd:FuncId)(v:Value):Ex->Act->af->Ph->Prop
 | .exit _,_,_,_=>False
 |_,a,_,ph=>a.defers=[dcall fd #[v]]/\∃st,ph=⟨.idle,.cnt,st,0⟩/\((c.pay i).isSome=true->st=true)
theorem JP {fn b:Func}{cd l:Code}{n nd:Nat}{v:Value}(m:c.P.funcs[f]?=some fn)(p:(fn.name== "runtime.NumGoroutine")=false)(hb:fn.body=some cd)(r:fn.results=#[])(hn:fn.ntmps=n){caps:Array Value}(I:caps.size<=n)
  (t:c.P.funcs[fd]?=some b) (u:(b.name== "runtime.NumGoroutine")=false) (x:b.body=some l) (y:b.results=#[]) (z:b.ntmps=nd) (B:1<=nd)
  (hd:∀(st:Bool) (F:af),((c.pay i).isSome=true->st=true)->∀A:Act,sz A=nd->A.defers=[]->(∀j,slot A j=(#[v]:Array Value).getD j undef)->cV (WG c i) fd l (xj fun F' aX=>aX=⟨.idle,.gone,st,0⟩) A F ⟨.idle,.cnt,st,0⟩)
  (h:∀A:Act,sz A=n->A.defers=[]->(∀j,slot A j=caps.getD j undef)->cV (WG c i) f cd (ru c i fd v) A F ⟨.idle,.cnt,false,0⟩):
  eA c i ⟨.idle,.cnt,false,0⟩ (born c.P {target:=.fn (.func f) caps,args:=#[]}) F:=by
 have hM:=WG.eT c i
 have e0:∀w,stepG c.P false (born c.P {target:=.fn (.func f) caps,args:=#[]}) w= .go (G ((baseD f).at {tmps:=caps++Array.replicate (fn.ntmps - caps.size) undef,defers:=[]} [.code cd]) [g8 c.P]) w #[]:=fun w=>by
  have:=B3 (P:=c.P) (w:=w) (caps:=caps) (args:=#[]) m p hb
  simpa using this
 refine eA.act (c:=c) (i:=i) rfl rfl an fun w s k φ p0 e1 e2 e3 C D=>⟨_,w,#[],s,⟨.idle,.cnt,false,0⟩,e0 w,e2,.refl _ _,?_,rfl,x7 rfl Iff.rfl,.inr (Int.le_refl _),?_⟩
 .rw[<-C,w8];exact D
 have out:∀(a:Act) (o:List Item) F' (aX:Ph),(a.defers=[dcall fd #[v]]/\∃st,aX=⟨.idle,.cnt,st,0⟩/\((c.pay i).isSome=true->st=true))->WG c i aX (G {(baseD f).at a o with mode:=.returning} [g8 c.P]) F':=by
  rintro a o F' aX ⟨k1,st,rfl,E⟩
  refine JO t u x y z (by simpa using B) k1 (fun A x1 x2 x3=>hd st F' E A x1 x2 x3) fun J K H=>?_
  subst H
  refine eA.gone (q:=2) rfl (QuitsD.ctl rfl (fun w=>B4 rfl rfl m r) (QuitsD.ctl rfl (fun w=>B5) ⟨rfl,rfl⟩))
 have:=h {tmps:=caps++Array.replicate (fn.ntmps - caps.size) undef,defers:=[]} (by simp[sz,hn];omega) rfl (fun j=>?_) (baseD f) [] [g8 c.P] ⟨by simp[baseD],rfl,rfl⟩ fun e a F' aX g=>?_
 .rw[dy rfl] at this;exact this
 .simp only[slot,hn,Array.getD_eq_getD_getElem?]
  rcases Nat.lt_or_ge j caps.size with d|d
  .rw[Array.getElem?_append_left d]
  .rw[Array.getElem?_append_right d,Array.getElem?_replicate,Array.getElem?_eq_none d]
   split<;>rfl
 .cases e with
  |normal=>exact (hM aX).move (fun _=>kI rfl) (out a _ F' aX g)
  |exit i=>exact g.elim
  |ret=>exact fun L=>(hM aX).move (fun _=>stepG_ret' rfl) (out a _ F' aX g)
end
attribute [go_sem] ru
end Go.Sep
end

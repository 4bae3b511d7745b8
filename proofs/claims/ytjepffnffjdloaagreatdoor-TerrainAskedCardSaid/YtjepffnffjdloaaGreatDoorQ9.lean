/- A part of the proof of a row and its tied card: Q9. -/
import Derived.Test.YtjepffnffjdloaaGreatDoorQ8
import Derived.Conc.AtomicLaws2
import Derived.Conc.WgArith
set_option linter.all false
section
namespace Go.Sep
open Go Go.Conc
open Go.ConcN (sumTo upd upd_ne upd_same)
open Go.ConcM (MuAt muA msA muBlock OsLater)
open Go.ConcR (WgAt wgBlock stA smA)
section
variable {c : Cy} {i : Nat} {ph : Ph} {ops : Array Oper} {j n : Nat} {Q : Act → af → Ph → Prop} {a : Act} {F : af} {f fi : FuncId} {d : Option Tmp}
theorem dA {s:Sh}:s.ms<=s.ms/\s.ws<=s.ws:=⟨Int.le_refl _,Int.le_refl _⟩
theorem yJ (g:Entry c.P f (fun _=>do mark .disable;pure Extern.Race.none_)){vals:List Value}(l:At ops j a f vals d)(h1:ph.gp≠ .gone)(h2:ph.gp≠ .new)
  (h:ai (WJ c i) fi ops (j+1) n Q (aX a d (.tuple #[])) F {ph with deaf:=ph.deaf+1}):ai (WJ c i) fi ops j (n+1) Q a F ph:=by
 obtain ⟨o,cr,c7,e,hg,m,_,rfl⟩:=l
 refine fD e h1 fun w s k φ p0 _ hs hi he p=>.inr ⟨.tuple #[],w,_,s,_,fun b q cs hb=>?_,hs,.refl _ _,p.Df hi he h2 _,J2,.inr dA,h⟩
 obtain ⟨fn,f1,f2,f3,f4,f5⟩:=g.ex
 exact stepG_mark0 .disable (by simp) e (b7 hg) hb.kind m f1 f2 f3 f4 f5
theorem uu (l:Entry c.P f (fun _=>do mark .enable;pure Extern.Race.none_)){vals:List Value}(m:At ops j a f vals d)(h1:ph.gp≠ .gone)(h2:ph.gp≠ .new){e:Nat}(hd:ph.deaf=e+1)
  (h:ai (WJ c i) fi ops (j+1) n Q (aX a d (.tuple #[])) F {ph with deaf:=e}):ai (WJ c i) fi ops j (n+1) Q a F ph:=by
 obtain ⟨o,cr,c7,g,hg,p,_,rfl⟩:=m
 refine fD g h1 fun w s k φ p0 _ hs hi he q=>.inr ⟨.tuple #[],w,_,s,_,fun b r cs hb=>?_,hs,.refl _ _,q.Df hi he h2 _,J3 hd,.inr dA,h⟩
 obtain ⟨fn,f1,f2,f3,f4,f5⟩:=l.ex
 exact stepG_mark0 .enable (by simp) g (b7 hg) hb.kind p f1 f2 f3 f4 f5
theorem o6 {k:Nat}{φ:Nat->Ph}{p0:P0}{s:Sh}(he:φ i=ph)(a:Inv c.n c.bs k φ p0 s):Inv c.n c.bs k (upd φ i ph) p0 s:=by rw[<-he,yE];exact a
theorem Dg (g:Entry c.P f (Extern.Race.marked .acquire))(l:At ops j a f [.pointer (some (muA c.Mu))] d)(h1:ph.gp= .cnt)
  (h:ai (WJ c i) fi ops (j+1) n Q (aX a d (.tuple #[])) F ph):ai (WJ c i) fi ops j (n+1) Q a F ph:=by
 obtain ⟨o,cr,c7,e,hg,m,p,rfl⟩:=l
 obtain ⟨x,rfl,q⟩:=jY p
 refine fD e (by rw[h1];simp) fun w s k φ p0 _ hs hi he r=>.inr ⟨.tuple #[],w,_,s,ph,fun b t cs hb=>?_,hs,.refl _ _,o6 he r,.word (.acquire (muA c.Mu)) rfl (.inl rfl) rfl ⟨h1,h1⟩,.inr dA,h⟩
 obtain ⟨fn,f1,f2,f3,f4,f5⟩:=g.ex
 exact stepG_markAt .acquire (by simp) e (b7 hg) hb.kind m f1 f2 f3 f4 f5 (by simp[ez,q])
theorem J4 (g:Entry c.P f (Extern.Race.marked .releaseMerge))(l:At ops j a f [.pointer (some (muA c.Mu))] d)(h1:ph.gp= .cnt)
  (h:ai (WJ c i) fi ops (j+1) n Q (aX a d (.tuple #[])) F ph):ai (WJ c i) fi ops j (n+1) Q a F ph:=by
 obtain ⟨o,cr,c7,e,hg,m,p,rfl⟩:=l
 obtain ⟨x,rfl,q⟩:=jY p
 refine fD e (by rw[h1];simp) fun w s k φ p0 _ hs hi he r=>.inr ⟨.tuple #[],w,_,s,ph,fun b t cs hb=>?_,hs,.refl _ _,o6 he r,.word (.releaseMerge (muA c.Mu)) rfl (.inr rfl) rfl ⟨h1,h1⟩,.inr dA,h⟩
 obtain ⟨fn,f1,f2,f3,f4,f5⟩:=g.ex
 exact stepG_markAt .releaseMerge (by simp) e (b7 hg) hb.kind m f1 f2 f3 f4 f5 (by simp[ez,q])
theorem J5 (p:Entry c.P f (Extern.Race.marked .releaseMerge))(q:At ops j a f [.pointer (some (stA c.Wg))] d)(h1:ph.gp= .cnt)
  (hd:ph.deaf=0) (r:ph.mp= .idle\/ph.mp= .fin) (t:ph.stored=c.bs i)
  (h:ai (WJ c i) fi ops (j+1) n Q (aX a d (.tuple #[])) F {mp:=.fin,gp:=.rel,stored:=ph.stored,deaf:=0}):ai (WJ c i) fi ops j (n+1) Q a F ph:=by
 obtain ⟨o,cr,c7,l,hg,u,v,rfl⟩:=q
 obtain ⟨x,rfl,y⟩:=jY v
 refine fD l (by rw[h1];simp) fun w s k φ p0 _ hs hi he g=>.inr ⟨.tuple #[],w,_,s,{mp:=.fin,gp:=.rel,stored:=ph.stored,deaf:=0},fun b z cs hb=>?_,hs,.refl _ _,?_,.rel rfl ⟨hd,rfl⟩ h1,.inr dA,h⟩
 ·obtain ⟨fn,f1,f2,f3,f4,f5⟩:=p.ex
  exact stepG_markAt .releaseMerge (by simp) l (b7 hg) hb.kind u f1 f2 f3 f4 f5 (by simp[ez,y])
 ·obtain ⟨C,S,W,L,m,hm⟩:=g.m
  refine g.jV hi he (by rw[h1];simp) (by simp) ⟨C,S,W,L,m,nk hm hi _ ?_⟩ (tZ g.w hi _ (.inr ⟨by rw[he];exact h1,rfl⟩)) ?_ (fun _=>⟨t,rfl⟩)
  ·rw[he];rcases r with e|e
   ·exact .inr ⟨e,rfl⟩
   ·exact .inl e.symm
  ·have:=g.i.all i hi
   rw[he] at this
   exact (yI this).symm
theorem uv (old nw:Int)(G:Entry c.P f (Extern.Atomic.casT (.int .i32)))(H:c.Mu≠c.Wg/\c.Mu≠c.Is/\c.Wg≠c.Is)(I:At ops j a f [.pointer (some (muA c.Mu)),.int .i32 old,.int .i32 nw] d)
  (h1:ph.gp= .cnt) (h0:0<ph.deaf)
  (J:∀φ ms C S W L m,φ i=ph->i<c.n->ck c.n φ old ms C S W L m->∃mp,(∃e g h l p,ck c.n (upd φ i {ph with mp:=mp}) nw ms e g h l p)/\ai (WJ c i) fi ops (j+1) n Q (aX a d (.bool true)) F {ph with mp:=mp})
  (K:∀φ mu ms C S W L m,φ i=ph->i<c.n->ck c.n φ mu ms C S W L m->mu≠old->∃mp,(∃e g h l p,ck c.n (upd φ i {ph with mp:=mp}) mu ms e g h l p)/\ai (WJ c i) fi ops (j+1) n Q (aX a d (.bool false)) F {ph with mp:=mp}):ai (WJ c i) fi ops j (n+1) Q a F ph:=by
 obtain ⟨o,cr,c7,q,hg,A,M,rfl⟩:=I
 obtain ⟨x,y,z,rfl,B,D,E⟩:=qV M
 obtain ⟨fn,f1,f2,f3,f4,f5⟩:=G.ex
 refine fD q (by rw[h1];simp) fun w s k φ p0 _ hs hi he r=>.inr ?_
 obtain ⟨C,S,W,L,m,hm⟩:=r.m
 by_cases t:s.mu=old
 ·subst t
  obtain ⟨mp,u,v⟩:=J φ s.ms C S W L m he hi hm
  exact ⟨.bool true,_,_,{s with mu:=nw},{ph with mp:=mp},fun b N cs hb=>stepG_cas_hit q (b7 hg) hb.kind A f1 f2 f3 f4 .i32 f5 B D E hs.mu.1 hs.mu.2,hs.Dc H nw,.set _ (.inl rfl),r.mutex hi he h1 u,yG rfl Iff.rfl h0 (.inr ⟨rfl,h1⟩),.inr dA,v⟩
 ·obtain ⟨mp,u,v⟩:=K φ s.mu s.ms C S W L m he hi hm t
  exact ⟨.bool false,_,_,{s with mu:=s.mu},{ph with mp:=mp},fun b N cs hb=>stepG_cas_miss q (b7 hg) hb.kind A f1 f2 f3 f4 .i32 f5 B D E hs.mu.1 hs.mu.2 t,hs,.refl _ _,r.mutex hi he h1 u,yF false rfl Iff.rfl h0 (.inr ⟨rfl,h1⟩),.inr dA,v⟩
theorem yK (dl:Int)(p:Entry c.P f (Extern.Atomic.update (Op.intArith .add) .i32 true))(q:c.Mu≠c.Wg/\c.Mu≠c.Is/\c.Wg≠c.Is)(r:At ops j a f [.pointer (some (muA c.Mu)),.int .i32 dl] d)
  (h1:ph.gp= .cnt) (h0:0<ph.deaf)
  (h:∀φ mu ms C S W L m,φ i=ph->i<c.n->ck c.n φ mu ms C S W L m->∃mp nw,IntKind.i32.wrap (mu+dl)=nw/\(∃t u v z A,ck c.n (upd φ i {ph with mp:=mp}) nw ms t u v z A)/\ai (WJ c i) fi ops (j+1) n Q (aX a d (.int .i32 nw)) F {ph with mp:=mp}):
  ai (WJ c i) fi ops j (n+1) Q a F ph:=by
 obtain ⟨o,cr,c7,g,hg,B,D,rfl⟩:=r
 obtain ⟨x,y,rfl,E,G⟩:=qU D
 obtain ⟨fn,f1,f2,f3,f4,f5⟩:=p.ex
 refine fD g (by rw[h1];simp) fun w s k φ p0 _ hs hi he l=>.inr ?_
 obtain ⟨C,S,W,L,m,hm⟩:=l.m
 obtain ⟨mp,nw,e,H,I⟩:=h φ s.mu s.ms C S W L m he hi hm
 exact ⟨.int .i32 nw,_,_,{s with mu:=nw},{ph with mp:=mp},fun b J cs hb=>by rw[<-e];exact stepG_add_atomic g (b7 hg) hb.kind B f1 f2 f3 f4 .i32 f5 E G hs.mu.1 hs.mu.2,by rw[<-e];exact hs.Dc q _,.set _ (.inl rfl),l.mutex hi he h1 H,yG rfl Iff.rfl h0 (.inr ⟨rfl,h1⟩),.inr dA,I⟩
theorem o7 {ty:TypeId}(l:(c.P.funcs[fi]?).any (·.norace)=true)(e:c.P.underlying ty=some (.int .i32)){x:Operand}(p:nt ops j a (.load ty x) d)(h1:ph.gp= .cnt)(q:ev a x= .pointer (some (muA c.Mu)))
  (h:∀φ mu ms C S W L m,φ i=ph->i<c.n->ck c.n φ mu ms C S W L m->∃mp,(∃r t u v y,ck c.n (upd φ i {ph with mp:=mp}) mu ms r t u v y)/\ai (WJ c i) fi ops (j+1) n Q (aX a d (.int .i32 mu)) F {ph with mp:=mp}):
  ai (WJ c i) fi ops j (n+1) Q a F ph:=by
 obtain ⟨o,f,hg,z,rfl⟩:=p
 refine fD f (by rw[h1];simp) fun w s k φ p0 _ hs hi he g=>.inr ?_
 obtain ⟨C,S,W,L,m,hm⟩:=g.m
 obtain ⟨mp,A,B⟩:=h φ s.mu s.ms C S W L m he hi hm
 have e1:execOp a.eval o=(do pure (.value (<-loadVar ty (muA c.Mu))):Sem Next):=by
  unfold execOp
  simp only[z,ez,q]
  rfl
 have D:(execOp a.eval o).run c.P w= .ok (.value (.int .i32 s.mu)) w:=by
  rw[e1]
  have:=hs.mu.1
  simp[loadVar,isAgg,run_underlying e,this]
 have E:(execOp a.eval o).events c.P w #[]=#[⟨.cell (muA c.Mu),false,false⟩]:=by
  rw[e1]
  have:=hs.mu.1
  simp[loadVar,isAgg,run_underlying e,events_load,this]
 have G:seen c.P fi #[⟨.cell (muA c.Mu),false,false⟩]=#[]:=by rw[seen_def];simp[seenStep,l]
 refine ⟨.int .i32 s.mu,w,#[],{s with mu:=s.mu},{ph with mp:=mp},fun b H cs hb=>?_,hs,.refl _ _,g.mutex hi he h1 A,nu rfl Iff.rfl,.inr dA,B⟩
 rw[stepG_value f (b7 hg) hb.kind D]
 unfold listed
 rw[E,hb.fn,G]
end
section
variable {c : Cy} {i : Nat} {ph : Ph} {ops : Array Oper} {j n : Nat} {Q : Act → af → Ph → Prop} {a : Act} {F : af} {f fi : FuncId} {d : Option Tmp}
theorem J6 (r t:Value)(u:Entry c.P f Extern.Sync.semacquire)(v:c.Mu≠c.Wg/\c.Mu≠c.Is/\c.Wg≠c.Is)(A:At ops j a f [.pointer (some (msA c.Mu)),r,t] d)
  (h1:ph.gp= .cnt) {G:Nat} (hm:ph.mp= .iG G) (h:ai (WJ c i) fi ops (j+1) n Q (aX a d (.tuple #[])) F {ph with mp:=.jT G}):ai (WJ c i) fi ops j (n+1) Q a F ph:=by
 obtain ⟨o,cr,c7,e,hg,g,B,rfl⟩:=A
 obtain ⟨x,y,z,rfl,l,_,_⟩:=qV B
 obtain ⟨fn,f1,f2,f3,f4,f5⟩:=u.ex
 refine fD e (by rw[h1];simp) fun w s k φ p0 _ hs hi he p=>?_
 by_cases h0:s.ms=0
 ·refine .inl ⟨by rw[hm];rfl,h0,fun b D cs=>stepG_semacquire_wait e (b7 hg) g f1 f2 f3 f4 f5 (ad:=msA c.Mu) (by simp[ez,l]) (by rw[hs.ms.1,h0])⟩
 ·obtain ⟨C,S,W,L,m,q⟩:=p.m
  have E:=q.cnt
  refine .inr ⟨.tuple #[],_,_,{s with ms:=s.ms - 1},{ph with mp:=.jT G},fun b D cs hb=>stepG_semacquire e (b7 hg) hb.kind g f1 f2 f3 f4 f5 (by simp[ez,l]) hs.ms.1 h0 hs.ms.2,hs.Dd v _,.set _ (.inl rfl),
   p.mutex hi he h1 ⟨C,S,W,L,m - 1,Jc q hi _ (by rw[he];exact hm) rfl (by omega)⟩,yH rfl Iff.rfl (.inr ⟨rfl,h1⟩),.inr ⟨by simp only;omega,Int.le_refl _⟩,h⟩
theorem Dh (t u:Value)(l:Entry c.P f Extern.Sync.semrelease)(v:c.Mu≠c.Wg/\c.Mu≠c.Is/\c.Wg≠c.Is)(A:At ops j a f [.pointer (some (msA c.Mu)),t,u] d)
  (h1:ph.gp= .cnt) (hm:ph.mp= .oS\/ph.mp= .oT) (h:ai (WJ c i) fi ops (j+1) n Q (aX a d (.tuple #[])) F {ph with mp:=.fin}):ai (WJ c i) fi ops j (n+1) Q a F ph:=by
 obtain ⟨o,cr,c7,p,hg,q,B,rfl⟩:=A
 obtain ⟨x,y,z,rfl,g,_,_⟩:=qV B
 obtain ⟨fn,f1,f2,f3,f4,f5⟩:=l.ex
 refine fD p (by rw[h1];simp) fun w s k φ p0 _ hs hi he r=>.inr ?_
 obtain ⟨C,S,W,L,m,e⟩:=r.m
 have E:=e.cnt
 have hb:=e.st.w
 have G:=e.st.s
 have H:m<=1:=by
  rcases Nat.lt_or_ge S 1 with y|y
  ·have:=e.norm (by omega);omega
  ·have:=e.gf (by omega);omega
 have D:IntKind.u32.wrap (s.ms+1)=s.ms+1:=by
  unfold IntKind.wrap
  simp[IntKind.bits,IntKind.signed]
  omega
 refine ⟨.tuple #[],_,_,{s with ms:=s.ms+1},{ph with mp:=.fin},fun b I cs hb=>stepG_semrelease p (b7 hg) hb.kind q f1 f2 f3 f4 f5 (by simp[ez,g]) hs.ms.1 hs.ms.2,by rw[D];exact hs.Dd v _,.set _ (.inl rfl),
  r.mutex hi he h1 ⟨C,S,W,L,m+1,Ji e hi _ (by rw[he];exact hm) rfl⟩,yH rfl Iff.rfl (.inr ⟨rfl,h1⟩),.inl ⟨_,q,fun x g=>?_⟩,h⟩
 cases g
 exact ⟨f,rfl,l.C3⟩
theorem Di (l:Entry c.P f Extern.OsHooks.nano)(e:(c.P.funcs[f]?).any (·.norace)=true){vals:List Value}(m:At ops j a f vals d)
  (h1:ph.gp≠ .gone) (h:∀x:Int,ai (WJ c i) fi ops (j+1) n Q (aX a d (.int .i64 x)) F ph):ai (WJ c i) fi ops j (n+1) Q a F ph:=by
 obtain ⟨o,cr,c7,g,hg,p,_,rfl⟩:=m
 obtain ⟨fn,f1,f2,f3,f4,f5⟩:=l.ex
 refine fD g h1 fun w s k φ p0 _ hs hi he q=>.inr ⟨_,w.later,#[],s,ph,fun b r cs hb=>stepG_nanotime g (b7 hg) hb.kind p f1 f2 f3 f4 f5 (by rw[f1] at e;simpa using e),hs,⟨rfl,rfl,rfl,⟨w.tick,rfl⟩,fun _ _=>rfl⟩,o6 he q,nu rfl Iff.rfl,.inr dA,h _⟩
theorem J7 (it:Int)(m:Entry c.P f Extern.Sync.canSpin)(p:At ops j a f [.int .i64 it] d)
  (h1:ph.gp≠ .gone) (h:∀t:Bool,(t=true->it<4)->ai (WJ c i) fi ops (j+1) n Q (aX a d (.bool t)) F ph):ai (WJ c i) fi ops j (n+1) Q a F ph:=by
 obtain ⟨o,cr,c7,e,hg,g,q,rfl⟩:=p
 obtain ⟨x,rfl,r⟩:=jY q
 obtain ⟨fn,f1,f2,f3,f4,f5⟩:=m.ex
 have hm:(#[x]:Array Operand).map a.eval=#[.int .i64 it]:=by simp[ez,r]
 refine fD e h1 fun w s k φ p0 _ hs hi he l=>.inr ?_
 by_cases u:4<=it
 ·exact ⟨_,w,#[],s,ph,fun b v cs hb=>stepG_canSpin_no e (b7 hg) hb.kind g f1 f2 f3 f4 f5 hm u,hs,.refl _ _,o6 he l,nu rfl Iff.rfl,.inr dA,h false (by simp)⟩
 ·exact ⟨_,w.asked,#[],s,ph,fun b v cs hb=>stepG_canSpin_ask e (b7 hg) hb.kind g f1 f2 f3 f4 f5 hm (by omega),hs,⟨rfl,rfl,rfl,.refl _,fun _ _=>rfl⟩,o6 he l,nu rfl Iff.rfl,.inr dA,h _ (fun _=>by omega)⟩
end
theorem ai.entry {P:Program}{main:Bool}{S:Type}{JF:S->Goroutine->af->Prop}{fi f:FuncId}{ops:Array Oper}{j n:Nat}{Q:Act->af->S->Prop}{a:Act}{F:af}{ph:S}{d:Option Tmp}(v:Value)(e:dO P main (JF ph))(g:Entry P f (fun _=>pure v))
  {vals:List Value} (i:At ops j a f vals d) (h:ai JF fi ops (j+1) n Q (aX a d v) F ph):ai JF fi ops j (n+1) Q a F ph:=fun b c cs hb k=>by
 obtain ⟨fn,f1,f2,f3,f4,f5⟩:=g.ex
 obtain ⟨o,cr,c7,l,hg,m,_,rfl⟩:=i
 rw[List.range'_succ,eG hb.round]
 refine e.move (fr':=b.at (a.put o.dst v) (.inRegion ops (List.range' (j+1) n)::c)) (fun w=>stepG_entry_pure v l (b7 hg) hb.kind m f1 f2 f3 f4 f5) (by rw[<-eG hb.round];exact h b c cs hb k)
section
variable {c : Cy} {i : Nat} {ph : Ph} {ops : Array Oper} {j n : Nat} {Q : Act → af → Ph → Prop} {a : Act} {F : af} {f fi : FuncId} {d : Option Tmp}
theorem uw (ad:Addr){src dst t:TypeId}(hs:c.P.underlying src=some (.pointer t))(hd:c.P.underlying dst=some .unsafePointer)(e:(c.P.info? t).map (fun i=>decide (i.size=0))=some false){x:Operand}
  (m:nt ops j a (.convert src dst x) d) (h1:ph.gp≠ .gone) (p:ev a x= .pointer (some ad)) (q:∀w s,cq c w s->∃v,w.cell? ad=some v) (h:ai (WJ c i) fi ops (j+1) n Q (aX a d (.pointer (some ad))) F ph):ai (WJ c i) fi ops j (n+1) Q a F ph:=by
 obtain ⟨o,f,hg,r,rfl⟩:=m
 refine fD f h1 fun w s k φ p0 _ g hi he u=>.inr ⟨_,w,#[],s,ph,fun b A cs hb=>?_,g,.refl _ _,o6 he u,nu rfl Iff.rfl,.inr dA,h⟩
 obtain ⟨v,l⟩:=q w s g
 have e1:execOp a.eval o=(do pure (.value (<-convert src dst (.pointer (some ad)))):Sem Next):=by
  unfold execOp
  simp only[r,ez,p]
 have y:(execOp a.eval o).run c.P w= .ok (.value (.pointer (some ad))) w:=by
  rw[e1];simp[run_convert_to_unsafe hs hd e l]
 have z:(execOp a.eval o).events c.P w #[]=#[]:=by
  rw[e1];simp[events_convert_to_unsafe hs hd e l]
 rw[stepG_value f (b7 hg) hb.kind y]
 unfold listed
 rw[z,seen_none]
theorem J8 {ty:TypeId}(H:c.P.underlying ty=some .bool)(v:bW c.P ty=some 1)(z:(c.P.funcs[fi]?).any (·.norace)=false)(A:c.Mu≠c.Wg/\c.Mu≠c.Is/\c.Wg≠c.Is){x y:Operand}
  (B:nt ops j a (.store ty x y) d) (h1:ph.gp= .cnt) (f:ev a x= .pointer (some ⟨c.Is,i,none⟩)) (g:ev a y= .bool true) (h:ai (WJ c i) fi ops (j+1) n Q (aX a d undef) F {ph with stored:=true}):ai (WJ c i) fi ops j (n+1) Q a F ph:=by
 obtain ⟨o,l,hg,p,rfl⟩:=B
 refine fD l (by rw[h1];simp) fun w s k φ p0 _ hs hi he e=>.inr ?_
 have hlen:=e.i.len
 have q:w.cell? ⟨c.Is,i,none⟩=some (.bool (s.is[i]'(by omega))):=by
  have:=hs.2.2
  simp[World.cell?,this,hlen,hi]
 have r:w.frozen? ⟨c.Is,i,none⟩=false:=by
  have:=hs.2.2
  simp[World.frozen?,this]
 have t:(sizeOf ty).run c.P w= .ok 1 w:=by
  obtain ⟨inf,h1,h2⟩:=Option.map_eq_some_iff.1 v
  simp[Go.sizeOf,typeInfo,h1,h2]
 have u:Instr.sureAddr (.pointer (some ⟨c.Is,i,none⟩))=(Pure.pure ⟨c.Is,i,none⟩:Sem Addr):=rfl
 have D:(execOp a.eval o).run c.P w= .ok .skip (w.setCell ⟨c.Is,i,none⟩ (.bool true)):=by
  unfold execOp
  simp only[p,ez,f,g]
  simp[Instr.storeAt,u,storeVar,t,Value.cells,storeCells,Addr.add,q,r,run_store c.P w ⟨c.Is,i,none⟩ (.bool true) .plain rfl,Result.andThen]
 have E:(execOp a.eval o).events c.P w #[]=#[⟨.cell ⟨c.Is,i,none⟩,true,false⟩]:=by
  unfold execOp
  simp only[p,ez,f,g]
  simp[Instr.storeAt,u,storeVar,t,Value.cells,storeCells,Addr.add,q,r,events_store c.P w _ ⟨c.Is,i,none⟩ (.bool true) .plain rfl,run_store c.P w ⟨c.Is,i,none⟩ (.bool true) .plain rfl,Result.evThen]
 have G:seen c.P fi #[⟨.cell ⟨c.Is,i,none⟩,true,false⟩]=#[⟨.cell ⟨c.Is,i,none⟩,true,false⟩]:=by rw[seen_def];simp[seenStep,z]
 obtain ⟨C,S,W,L,m,hm⟩:=e.m
 refine ⟨undef,_,_,{s with is:=s.is.set i true},{ph with stored:=true},fun b I cs hb=>?_,hs.J1 A i true,.set _ (.inr (.inr rfl)),?_,.store rfl rfl ⟨h1,h1⟩,.inr dA,h⟩
 ·rw[stepG_none l (b7 hg) hb.kind D]
  unfold listed
  rw[E,hb.fn,G]
 ·exact e.jV hi he (by rw[h1];simp) (by simp[h1]) ⟨C,S,W,L,m,nk hm hi _ (.inl (by rw[he]))⟩ (tZ e.w hi _ (.inl (by rw[he]))) rfl (fun hn=>absurd h1 hn)
end
theorem ai.shr {P:Program}{main:Bool}{S:Type}{JF:S->Goroutine->af->Prop}{fi:FuncId}{ops:Array Oper}{j n:Nat}{Q:Act->af->S->Prop}{a:Act}{F:af}{ph:S}{d:Option Tmp}{t f:TypeId}{k b:IntKind}{u m:Int}(v:Int)(g:dO P main (JF ph)){x y:Operand}
  (i:nt ops j a (.binOp .shr t x y f) d) (l:ev a x= .int k u) (p:ev a y= .int b m) (hm:0<=m) (c:u.fdiv (2 ^ min m.toNat k.bits)=v) (h:ai JF fi ops (j+1) n Q (aX a d (.int k v)) F ph):ai JF fi ops j (n+1) Q a F ph:=by
 obtain ⟨o,q,hg,r,rfl⟩:=i
 have e:¬m<0:=by omega
 have e1:execOp a.eval o=(do eqGuard .shr t x y (.int k u) (.int b m);pure (.value (<-binOp .shr t (.int k u) (.int b m))):Sem Next):=by
  unfold execOp
  simp only[r,ez,l,p]
  simp
 refine ai.plain g (.int k v) q hg (fun w=>?_) (fun w=>?_) h
 ·rw[e1];subst c;simp[eqGuard,binOp,Op.shift,e]
 ·rw[e1];subst c;simp[eqGuard,binOp,Op.shift,e]
theorem ai.nv {P:Program}{main:Bool}{S:Type}{JF:S->Goroutine->af->Prop}{fi:FuncId}{ops:Array Oper}{j n:Nat}{Q:Act->af->S->Prop}{a:Act}{F:af}{ph:S}{d:Option Tmp}{t b:TypeId}(u v:Int)(c:dO P main (JF ph)){x y:Operand}
  (e:nt ops j a (.binOp .shr t x y b) d) (f:ev a x= .int .i32 u) (g:ev a y= .int .u64 3) (i:u.fdiv 8=v) (h:ai JF fi ops (j+1) n Q (aX a d (.int .i32 v)) F ph):ai JF fi ops j (n+1) Q a F ph:=
 ai.shr v c e f g (by decide) i h
end Go.Sep
end
section
namespace Go.Proofs.YtjepffnffjdloaaGreatDoor
open Go Go.Sep Go.Proofs Go.Conc
open Go.ConcN (upd upd_same)
open Go.ConcM (muA msA)
open Go.ConcR (stA smA)
set_option maxRecDepth 100000
set_option maxHeartbeats 4000000
section
variable {Mu Wg Is n base T0 i : Nat} {bs : Nat → Bool} {st : Bool} {F : af}
theorem yL (w:World)(s:Sh)(h:cq (CY Mu Wg Is n bs base T0) w s):∃v,w.cell? ⟨Mu,0,none⟩=some v:=⟨_,h.mu.1⟩
theorem J9 (b:Mu≠Wg/\Mu≠Is/\Wg≠Is)
  (c:cz Tryz.prog (WJ (CY Mu Wg Is n bs base T0) i) 172 #[.pointer (some (muA Mu))] F ⟨.idle,.cnt,st,1⟩ (fun v F' aI=>v= .tuple #[]/\F'=F/\aI=⟨.held,.cnt,st,0⟩)):
  cz Tryz.prog (WJ (CY Mu Wg Is n bs base T0) i) 147 #[.pointer (some (muA Mu))] F ⟨.idle,.cnt,st,0⟩ (fun v F' aI=>v= .tuple #[]/\F'=F/\aI=⟨.held,.cnt,st,0⟩):=by
 have a:=WJ.ek (CY Mu Wg Is n bs base T0) i
 have hJ:∀ph:Ph,ph.gp= .cnt->Go.Sep.Closed Tryz.prog false (WJ (CY Mu Wg Is n bs base T0) i ph):=fun ph h=>Wk.closed (CY Mu Wg Is n bs base T0) i ph h
 refine cz.go (main:=false) a Tryz.func147 rfl Tryz.ntmps147 (by simp) fun A e hd hs=>?_
 have f:=hs 0
 clear hs
 repeat refine az (a _) ?_
 refine cR a ?_
 refine yJ qT ⟨_,_,_,rfl,(by first|rfl|simp only[*,go_sem,Int.reduceBEq,Int.reduceBNe]),rfl,by first|(simp only[*,go_sem,muA,msA,stA,smA,Int.reduceBEq,Int.reduceBNe];done)|(simp only[*,go_sem,muA,msA,stA,smA,Int.reduceBEq,Int.reduceBNe];rfl),rfl⟩ (by simp) (by simp) ?_
 refine ai.nil a ?_;try simp only[go_sem]
 repeat refine az (a _) ?_
 refine cR a ?_
 refine ai.bu (hJ _ rfl) 3 (n:=1) _ rfl rfl ?_;simp only[*,go_sem,muA,msA,stA,smA,Int.reduceBEq,Int.reduceBNe]
 refine uv 0 1 um b ⟨_,_,_,rfl,(by first|rfl|simp only[*,go_sem,Int.reduceBEq,Int.reduceBNe]),rfl,by first|(simp only[*,go_sem,muA,msA,stA,smA,Int.reduceBEq,Int.reduceBNe];done)|(simp only[*,go_sem,muA,msA,stA,smA,Int.reduceBEq,Int.reduceBNe];rfl),rfl⟩ (by rfl) (by simp) (fun φ ms C S W L m he hi hm=>⟨.held,⟨0,0,0,1,m,I7 hm hi _ (by rw[he]) rfl rfl⟩,?_⟩) (fun φ mu ms C S W L m he hi hm g=>⟨.idle,⟨C,S,W,L,m,nk hm hi _ (.inl (by rw[he]))⟩,?_⟩)
 ·refine ai.nil a ?_;try simp only[go_sem]
  repeat refine az (a _) ?_
  refine cQ (a _) (by simp only[*,go_sem,Int.reduceBEq,Int.reduceBNe]) ?_
  repeat refine az (a _) ?_
  refine cQ (a _) (by simp only[*,go_sem,Int.reduceBEq,Int.reduceBNe]) ?_
  repeat refine az (a _) ?_
  refine cR a ?_
  refine uu l8 ⟨_,_,_,rfl,(by first|rfl|simp only[*,go_sem,Int.reduceBEq,Int.reduceBNe]),rfl,by first|(simp only[*,go_sem,muA,msA,stA,smA,Int.reduceBEq,Int.reduceBNe];done)|(simp only[*,go_sem,muA,msA,stA,smA,Int.reduceBEq,Int.reduceBNe];rfl),rfl⟩ (by simp) (by simp) rfl ?_
  refine ai.nil a ?_;try simp only[go_sem]
  repeat refine az (a _) ?_
  refine cR a ?_
  refine ai.bu (hJ _ rfl) 1 (n:=2) _ rfl rfl ?_;simp only[*,go_sem,muA,msA,stA,smA,Int.reduceBEq,Int.reduceBNe]
  refine uw ⟨Mu,0,none⟩ yA l9 yC ⟨_,rfl,(by first|rfl|simp only[*,go_sem,Int.reduceBEq,Int.reduceBNe]),rfl,rfl⟩ (by simp) (by simp only[*,go_sem,muA,msA,stA,smA,Int.reduceBEq,Int.reduceBNe]) yL ?_
  refine Dg uk ⟨_,_,_,rfl,(by first|rfl|simp only[*,go_sem,Int.reduceBEq,Int.reduceBNe]),rfl,by first|(simp only[*,go_sem,muA,msA,stA,smA,Int.reduceBEq,Int.reduceBNe];done)|(simp only[*,go_sem,muA,msA,stA,smA,Int.reduceBEq,Int.reduceBNe];rfl),rfl⟩ (by rfl) ?_
  refine ai.nil a ?_;try simp only[go_sem]
  refine fC ?_;try simp only[go_sem]
  exact o3 rfl (by simp only[*,go_sem]) ⟨rfl,rfl,rfl⟩
 ·refine ai.nil a ?_;try simp only[go_sem]
  repeat refine az (a _) ?_
  refine cx (a _) (by simp only[*,go_sem,Int.reduceBEq,Int.reduceBNe]) ?_
  refine cA (a _) ?_;try simp only[go_sem]
  repeat refine az (a _) ?_
  refine cR a ?_
  refine ai.bu (hJ _ rfl) 1 (n:=1) _ rfl rfl ?_;simp only[*,go_sem,muA,msA,stA,smA,Int.reduceBEq,Int.reduceBNe]
  refine ai.gj (a _) rfl rfl rfl E7 (by simp only[*,go_sem,muA]) c fun v F' aI d=>?_
  obtain ⟨rfl,rfl,rfl⟩:=d
  refine ai.nil a ?_
  exact l6 rfl (by simp only[*,go_sem]) ⟨rfl,rfl,rfl⟩
def jv (C S W:Nat)(nw:Int)(G:Nat):Mp:=if S=1 then .oT else if 0<C/\W=0 then .gA nw G else .fin
def Ka (Mu n:Nat)(st:Bool)(F:af)(m:Nat)(a:Act)(F':af)(aI:Ph):Prop:=
 ∃(old:Int) (C S W L G:Nat),F'=F/\slot a 0= .pointer (some ⟨Mu,0,none⟩)/\slot a 4= .int .i32 old/\sz a=43/\a.defers=[]/\Wd old C S W L/\C<=3*n/\G<=m/\
   ((S=0/\L=0/\W=0/\0<C/\aI=⟨.gA old G,.cnt,st,1⟩)\/(¬(S=0/\L=0/\W=0/\0<C)/\aI=⟨.fin,.cnt,st,1⟩))
theorem Kb (j:Mu≠Wg/\Mu≠Is/\Wg≠Is)(hn:n<67108864){nw:Int}{C S W G:Nat}(hw:Wd nw C S W 0)(hC:C<=3*n):
  cz Tryz.prog (WJ (CY Mu Wg Is n bs base T0) i) 174 #[.pointer (some (muA Mu)),.int .i32 nw] F ⟨jv C S W nw G,.cnt,st,1⟩ (fun v F' aI=>v= .tuple #[]/\F'=F/\aI=⟨.fin,.cnt,st,1⟩):=by
 have a:=WJ.ek (CY Mu Wg Is n bs base T0) i
 have hJ:∀ph:Ph,ph.gp= .cnt->Go.Sep.Closed Tryz.prog false (WJ (CY Mu Wg Is n bs base T0) i ph):=fun ph h=>Wk.closed (CY Mu Wg Is n bs base T0) i ph h
 refine cz.go (main:=false) a Tryz.func174 rfl Tryz.ntmps174 (by simp) fun A y hd hs=>?_
 have z:=hs 0
 have k1:=hs 1
 clear hs
 have B:=hw.st.s
 have hW:=hw.st.w
 have w1:IntKind.i32.wrap (nw+1)=nw+1:=by have e0:=hw.st.eq;exact iI (by omega) (by omega)
 have D:Wd (nw+1) C S W 1:=by have e0:=hw.st.eq;exact wd ⟨by omega,by omega,hW,B⟩ (by omega)
 have M:dN (nw+1) 1=1:=D.a1
 repeat refine az (a _) ?_
 refine cR a ?_
 refine ai.bu (hJ _ rfl) 4 (n:=0) _ rfl rfl ?_;simp only[*,go_sem,muA,msA,stA,smA,Int.reduceBEq,Int.reduceBNe]
 refine ai.nil a ?_;try simp only[go_sem]
 repeat refine az (a _) ?_
 refine cx (a _) (by simp only[*,go_sem,Int.reduceBEq,Int.reduceBNe]) ?_
 refine cA (a _) ?_;try simp only[go_sem]
 rcases (by omega:S=1\/S=0) with rfl|rfl
 ·
  have b4:dN nw 4=4:=hw.a4
  repeat refine az (a _) ?_
  refine cR a ?_
  refine ai.bu (hJ _ rfl) 3 (n:=0) _ rfl rfl ?_;simp only[*,go_sem,muA,msA,stA,smA,Int.reduceBEq,Int.reduceBNe]
  refine ai.nil a ?_;try simp only[go_sem]
  repeat refine az (a _) ?_
  refine cx (a _) (by simp only[*,go_sem,Int.reduceBEq,Int.reduceBNe]) ?_
  repeat refine az (a _) ?_
  refine cR a ?_
  refine ai.bu (hJ _ rfl) 3 (n:=1) _ rfl rfl ?_;simp only[*,go_sem,muA,msA,stA,smA,Int.reduceBEq,Int.reduceBNe]
  refine Dh (.bool true) (.int .i64 2) C5 j ⟨_,_,_,rfl,(by first|rfl|simp only[*,go_sem,Int.reduceBEq,Int.reduceBNe]),rfl,by first|(simp only[*,go_sem,muA,msA,stA,smA,Int.reduceBEq,Int.reduceBNe];done)|(simp only[*,go_sem,muA,msA,stA,smA,Int.reduceBEq,Int.reduceBNe];rfl),rfl⟩ (by rfl) (by simp[jv]) ?_
  refine ai.nil a ?_;try simp only[go_sem]
  exact l6 rfl (by simp only[*,go_sem]) ⟨rfl,rfl,rfl⟩
 ·have b4:dN nw 4=0:=hw.a4
  repeat refine az (a _) ?_
  refine cR a ?_
  refine ai.bu (hJ _ rfl) 3 (n:=0) _ rfl rfl ?_;simp only[*,go_sem,muA,msA,stA,smA,Int.reduceBEq,Int.reduceBNe]
  refine ai.nil a ?_;try simp only[go_sem]
  repeat refine az (a _) ?_
  refine cQ (a _) (by simp only[*,go_sem,Int.reduceBEq,Int.reduceBNe]) ?_
  repeat refine az (a _) ?_
  refine cR a ?_
  refine ai.bu (hJ _ rfl) 2 (n:=0) _ rfl rfl ?_;simp only[*,go_sem,muA,msA,stA,smA,Int.reduceBEq,Int.reduceBNe]
  refine ai.nil a ?_;try simp only[go_sem]
  repeat refine az (a _) ?_
  refine jW a ?_
  refine qS a (fun m N F' aI=>Ka Mu n st F m N F' aI) G ?_ ?_
  ·refine ⟨nw,C,0,W,0,G,rfl,by simp only[*,go_sem,muA],by simp only[*,go_sem],by simp only[*,go_sem],by simp only[*,go_sem],hw,hC,Nat.le_refl _,?_⟩
   by_cases f:0<C/\W=0
   ·exact .inl ⟨rfl,rfl,f.2,f.1,by simp[jv,f]⟩
   ·exact .inr ⟨fun x=>f ⟨x.2.2.2,x.2.2.1⟩,by simp[jv,f]⟩
  ·clear hw hC b4 M D w1 B hW z k1 y hd
   rintro m A F' aI ⟨old,C,S,W,L,G,rfl,z,ad,y,hd,hw,hC,ae,O⟩
   repeat refine az (a _) ?_
   refine jW a ?_
   have sh:old.fdiv 8=(C:Int):=hw.sh
   rcases O with ⟨rfl,rfl,rfl,k,rfl⟩|⟨al,rfl⟩
   ·
    have P:dN old 7=0:=hw.a7
    have E:((C:Int)==0)=false:=by simp;omega
    repeat refine az (a _) ?_
    refine cR a ?_
    refine ai.bu (hJ _ rfl) 1 (n:=7) _ rfl rfl ?_;simp only[*,go_sem,muA,msA,stA,smA,Int.reduceBEq,Int.reduceBNe]
    refine ai.nv old (C:Int) (a _) ⟨_,rfl,(by first|rfl|simp only[*,go_sem,Int.reduceBEq,Int.reduceBNe]),rfl,rfl⟩ (by simp only[*,go_sem,muA,msA,stA,smA,Int.reduceBEq,Int.reduceBNe]) (by simp only[*,go_sem,muA,msA,stA,smA,Int.reduceBEq,Int.reduceBNe]) hw.sh ?_
    refine ai.bu (hJ _ rfl) 6 (n:=0) _ rfl rfl ?_;simp only[*,go_sem,muA,msA,stA,smA,Int.reduceBEq,Int.reduceBNe]
    refine ai.nil a ?_;try simp only[go_sem]
    repeat refine az (a _) ?_
    refine cx (a _) (by simp only[*,go_sem,Int.reduceBEq,Int.reduceBNe]) ?_
    refine cA (a _) ?_;try simp only[go_sem]
    have ao:IntKind.i32.wrap (old - 8)=old - 8:=by have e0:=hw.st.eq;exact iI (by omega) (by omega)
    have Q:Wd (old - 8) (C - 1) 0 0 0:=by have e0:=hw.st.eq;exact wd ⟨by omega,by omega,by omega,by omega⟩ (by omega)
    have o2:jo (old - 8) 2=old - 8+2:=Q.o2
    repeat refine az (a _) ?_
    refine cR a ?_
    refine ai.bu (hJ _ rfl) 4 (n:=0) _ rfl rfl ?_;simp only[*,go_sem,muA,msA,stA,smA,Int.reduceBEq,Int.reduceBNe]
    refine ai.nil a ?_;try simp only[go_sem]
    repeat refine az (a _) ?_
    refine cR a ?_
    refine ai.bu (hJ _ rfl) 5 (n:=1) _ rfl rfl ?_;simp only[*,go_sem,muA,msA,stA,smA,Int.reduceBEq,Int.reduceBNe]
    refine uv old (old - 8+2) um j ⟨_,_,_,rfl,(by first|rfl|simp only[*,go_sem,Int.reduceBEq,Int.reduceBNe]),rfl,by first|(simp only[*,go_sem,muA,msA,stA,smA,Int.reduceBEq,Int.reduceBNe];done)|(simp only[*,go_sem,muA,msA,stA,smA,Int.reduceBEq,Int.reduceBNe];rfl),rfl⟩ (by rfl) (by simp) (fun φ ms R T U V l he hi hm=>?_) (fun φ mu ms R T U V l he hi hm X=>?_)
    ·obtain ⟨rfl,rfl,rfl,rfl⟩:=hm.st.uniq hw.st
     refine ⟨.oS,⟨_,_,_,_,l,Jg hm hi _ (by rw[he]) rfl rfl rfl rfl k⟩,?_⟩
     refine ai.nil a ?_;try simp only[go_sem]
     repeat refine az (a _) ?_
     refine cQ (a _) (by simp only[*,go_sem,Int.reduceBEq,Int.reduceBNe]) ?_
     repeat refine az (a _) ?_
     refine cR a ?_
     refine ai.bu (hJ _ rfl) 3 (n:=1) _ rfl rfl ?_;simp only[*,go_sem,muA,msA,stA,smA,Int.reduceBEq,Int.reduceBNe]
     refine Dh (.bool false) (.int .i64 2) C5 j ⟨_,_,_,rfl,(by first|rfl|simp only[*,go_sem,Int.reduceBEq,Int.reduceBNe]),rfl,by first|(simp only[*,go_sem,muA,msA,stA,smA,Int.reduceBEq,Int.reduceBNe];done)|(simp only[*,go_sem,muA,msA,stA,smA,Int.reduceBEq,Int.reduceBNe];rfl),rfl⟩ (by rfl) (by simp) ?_
     refine ai.nil a ?_;try simp only[go_sem]
     refine fC ?_;try simp only[go_sem]
     exact o3 rfl (by simp only[*,go_sem]) ⟨rfl,rfl,rfl⟩
    ·obtain ⟨Y,ar,Z⟩:=Jh hm hi {mp:=.gA mu (bM n φ ms),gp:=.cnt,stored:=st,deaf:=1} (by rw[he]) rfl
     have a0:bM n φ ms<G:=Z X
     refine ⟨.gA mu (bM n φ ms),⟨_,_,_,_,l,Y⟩,?_⟩
     refine ai.nil a ?_;try simp only[go_sem]
     repeat refine az (a _) ?_
     refine cx (a _) (by simp only[*,go_sem,Int.reduceBEq,Int.reduceBNe]) ?_
     refine cA (a _) ?_;try simp only[go_sem]
     repeat refine az (a _) ?_
     refine cR a ?_
     refine ai.bu (hJ _ rfl) 3 (n:=2) _ rfl rfl ?_;simp only[*,go_sem,muA,msA,stA,smA,Int.reduceBEq,Int.reduceBNe]
     refine o7 J0 o5 ⟨_,rfl,(by first|rfl|simp only[*,go_sem,Int.reduceBEq,Int.reduceBNe]),rfl,rfl⟩ (by rfl) (by simp only[*,go_sem,muA,msA,stA,smA,Int.reduceBEq,Int.reduceBNe]) (fun c g d o p q r H I J e=>?_)
     have K:=wd e.st (by have:=e.bound;simp only[CY] at this;omega)
     by_cases b:p=0/\r=0/\q=0/\0<o
     ·obtain ⟨t,u,_⟩:=CG e J {mp:=.gA g (bM n c d),gp:=.cnt,stored:=st,deaf:=1} (by rw[I]) (.inl ⟨b.1,b.2.1,b.2.2.1,b.2.2.2,rfl⟩)
      have ab:bM n c d<=bM n φ ms:=u
      refine ⟨.gA g (bM n c d),⟨_,_,_,_,H,t⟩,?_⟩
      refine ai.bu (hJ _ rfl) 1 (n:=0) _ rfl rfl ?_;simp only[*,go_sem,muA,msA,stA,smA,Int.reduceBEq,Int.reduceBNe]
      refine ai.nil a ?_;try simp only[go_sem]
      exact ⟨bM n c d,by omega,g,o,p,q,r,bM n c d,rfl,(by simp only[*,go_sem,muA,msA,stA,smA,Int.reduceBEq,Int.reduceBNe]),(by simp only[*,go_sem,muA,msA,stA,smA,Int.reduceBEq,Int.reduceBNe]),(by simp only[*,go_sem,muA,msA,stA,smA,Int.reduceBEq,Int.reduceBNe]),(by simp only[*,go_sem,muA,msA,stA,smA,Int.reduceBEq,Int.reduceBNe]),K,e.bound,Nat.le_refl _,.inl ⟨b.1,b.2.1,b.2.2.1,b.2.2.2,rfl⟩⟩
     ·obtain ⟨t,u,_⟩:=CG e J {mp:=.fin,gp:=.cnt,stored:=st,deaf:=1} (by rw[I]) (.inr ⟨b,rfl⟩)
      have ab:bM n c d<=bM n φ ms:=u
      refine ⟨.fin,⟨_,_,_,_,H,t⟩,?_⟩
      refine ai.bu (hJ _ rfl) 1 (n:=0) _ rfl rfl ?_;simp only[*,go_sem,muA,msA,stA,smA,Int.reduceBEq,Int.reduceBNe]
      refine ai.nil a ?_;try simp only[go_sem]
      exact ⟨bM n c d,by omega,g,o,p,q,r,bM n c d,rfl,(by simp only[*,go_sem,muA,msA,stA,smA,Int.reduceBEq,Int.reduceBNe]),(by simp only[*,go_sem,muA,msA,stA,smA,Int.reduceBEq,Int.reduceBNe]),(by simp only[*,go_sem,muA,msA,stA,smA,Int.reduceBEq,Int.reduceBNe]),(by simp only[*,go_sem,muA,msA,stA,smA,Int.reduceBEq,Int.reduceBNe]),K,e.bound,Nat.le_refl _,.inr ⟨b,rfl⟩⟩
   ·
    by_cases k:C=0
    ·have E:((C:Int)==0)=true:=by simp[k]
     repeat refine az (a _) ?_
     refine cR a ?_
     refine ai.bu (hJ _ rfl) 1 (n:=7) _ rfl rfl ?_;simp only[*,go_sem,muA,msA,stA,smA,Int.reduceBEq,Int.reduceBNe]
     refine ai.nv old (C:Int) (a _) ⟨_,rfl,(by first|rfl|simp only[*,go_sem,Int.reduceBEq,Int.reduceBNe]),rfl,rfl⟩ (by simp only[*,go_sem,muA,msA,stA,smA,Int.reduceBEq,Int.reduceBNe]) (by simp only[*,go_sem,muA,msA,stA,smA,Int.reduceBEq,Int.reduceBNe]) hw.sh ?_
     refine ai.bu (hJ _ rfl) 6 (n:=0) _ rfl rfl ?_;simp only[*,go_sem,muA,msA,stA,smA,Int.reduceBEq,Int.reduceBNe]
     refine ai.nil a ?_;try simp only[go_sem]
     repeat refine az (a _) ?_
     refine cQ (a _) (by simp only[*,go_sem,Int.reduceBEq,Int.reduceBNe]) ?_
     refine fC ?_;try simp only[go_sem]
     exact o3 rfl (by simp only[*,go_sem]) ⟨rfl,rfl,rfl⟩
    ·have E:((C:Int)==0)=false:=by simp;omega
     have P:=hw.a7
     have a2:(((4*S+(2*W+L):Nat):Int) != 0)=true:=by simp;omega
     repeat refine az (a _) ?_
     refine cR a ?_
     refine ai.bu (hJ _ rfl) 1 (n:=7) _ rfl rfl ?_;simp only[*,go_sem,muA,msA,stA,smA,Int.reduceBEq,Int.reduceBNe]
     refine ai.nv old (C:Int) (a _) ⟨_,rfl,(by first|rfl|simp only[*,go_sem,Int.reduceBEq,Int.reduceBNe]),rfl,rfl⟩ (by simp only[*,go_sem,muA,msA,stA,smA,Int.reduceBEq,Int.reduceBNe]) (by simp only[*,go_sem,muA,msA,stA,smA,Int.reduceBEq,Int.reduceBNe]) hw.sh ?_
     refine ai.bu (hJ _ rfl) 6 (n:=0) _ rfl rfl ?_;simp only[*,go_sem,muA,msA,stA,smA,Int.reduceBEq,Int.reduceBNe]
     refine ai.nil a ?_;try simp only[go_sem]
     repeat refine az (a _) ?_
     refine cQ (a _) (by simp only[*,go_sem,Int.reduceBEq,Int.reduceBNe]) ?_
     refine fC ?_;try simp only[go_sem]
     exact o3 rfl (by simp only[*,go_sem]) ⟨rfl,rfl,rfl⟩
theorem Kc (d:Mu≠Wg/\Mu≠Is/\Wg≠Is)(hn:n<67108864):
  cz Tryz.prog (WJ (CY Mu Wg Is n bs base T0) i) 148 #[.pointer (some (muA Mu))] F ⟨.held,.cnt,st,0⟩ (fun v F' aI=>v= .tuple #[]/\F'=F/\aI=⟨.fin,.cnt,st,0⟩):=by
 have a:=WJ.ek (CY Mu Wg Is n bs base T0) i
 have hJ:∀ph:Ph,ph.gp= .cnt->Go.Sep.Closed Tryz.prog false (WJ (CY Mu Wg Is n bs base T0) i ph):=fun ph h=>Wk.closed (CY Mu Wg Is n bs base T0) i ph h
 refine cz.go (main:=false) a Tryz.func148 rfl Tryz.ntmps148 (by simp) fun A r hd hs=>?_
 have t:=hs 0
 clear hs
 repeat refine az (a _) ?_
 refine cQ (a _) (by simp only[*,go_sem,Int.reduceBEq,Int.reduceBNe]) ?_
 repeat refine az (a _) ?_
 refine cR a ?_
 refine ai.bu (hJ _ rfl) 3 (n:=1) _ rfl rfl ?_;simp only[*,go_sem,muA,msA,stA,smA,Int.reduceBEq,Int.reduceBNe]
 refine o7 JZ o5 ⟨_,rfl,(by first|rfl|simp only[*,go_sem,Int.reduceBEq,Int.reduceBNe]),rfl,rfl⟩ (by rfl) (by simp only[*,go_sem,muA,msA,stA,smA,Int.reduceBEq,Int.reduceBNe]) (fun u x y z B D E f g j k=>⟨.held,⟨_,_,_,_,f,nk k j _ (.inl (by rw[g]))⟩,?_⟩)
 refine ai.nil a ?_;try simp only[go_sem]
 repeat refine az (a _) ?_
 refine cR a ?_
 refine ai.bu (hJ _ rfl) 1 (n:=2) _ rfl rfl ?_;simp only[*,go_sem,muA,msA,stA,smA,Int.reduceBEq,Int.reduceBNe]
 refine uw ⟨Mu,0,none⟩ yA l9 yC ⟨_,rfl,(by first|rfl|simp only[*,go_sem,Int.reduceBEq,Int.reduceBNe]),rfl,rfl⟩ (by simp) (by simp only[*,go_sem,muA,msA,stA,smA,Int.reduceBEq,Int.reduceBNe]) yL ?_
 refine J4 C4 ⟨_,_,_,rfl,(by first|rfl|simp only[*,go_sem,Int.reduceBEq,Int.reduceBNe]),rfl,by first|(simp only[*,go_sem,muA,msA,stA,smA,Int.reduceBEq,Int.reduceBNe];done)|(simp only[*,go_sem,muA,msA,stA,smA,Int.reduceBEq,Int.reduceBNe];rfl),rfl⟩ (by rfl) ?_
 refine ai.nil a ?_;try simp only[go_sem]
 repeat refine az (a _) ?_
 refine cR a ?_
 refine yJ qT ⟨_,_,_,rfl,(by first|rfl|simp only[*,go_sem,Int.reduceBEq,Int.reduceBNe]),rfl,by first|(simp only[*,go_sem,muA,msA,stA,smA,Int.reduceBEq,Int.reduceBNe];done)|(simp only[*,go_sem,muA,msA,stA,smA,Int.reduceBEq,Int.reduceBNe];rfl),rfl⟩ (by simp) (by simp) ?_
 refine ai.nil a ?_;try simp only[go_sem]
 repeat refine az (a _) ?_
 refine cR a ?_
 refine ai.bu (hJ _ rfl) 3 (n:=2) _ rfl rfl ?_;simp only[*,go_sem,muA,msA,stA,smA,Int.reduceBEq,Int.reduceBNe]
 refine yK (-1) yy d ⟨_,_,_,rfl,(by first|rfl|simp only[*,go_sem,Int.reduceBEq,Int.reduceBNe]),rfl,by first|(simp only[*,go_sem,muA,msA,stA,smA,Int.reduceBEq,Int.reduceBNe];done)|(simp only[*,go_sem,muA,msA,stA,smA,Int.reduceBEq,Int.reduceBNe];rfl),rfl⟩ (by rfl) (by simp) (fun φ mu ms C S W L m he hi hm=>?_)
 have l:=CF hm hi (by rw[he])
 subst l
 have hb:C<=3*n:=hm.bound
 have o:=hm.st.s
 have hW:=hm.st.w
 have b:IntKind.i32.wrap (mu+ -1)=mu - 1:=by have e0:=hm.st.eq;exact iI (by omega) (by omega)
 have e:St (mu - 1) C S W 0:=⟨by have e0:=hm.st.eq;omega,by omega,hW,o⟩
 have hw:Wd (mu - 1) C S W 0:=wd e (by omega)
 have c:ck n (upd φ i ⟨jv C S W (mu - 1) (sm n φ Mp.wt+2*m),.cnt,st,1⟩) (mu - 1) ms C S W 0 m:=by
  refine Jf hm hi _ (by rw[he]) ?_
  by_cases h1:S=1
  ·exact .inl ⟨h1,by simp[jv,h1]⟩
  ·by_cases h2:0<C/\W=0
   ·exact .inr (.inl ⟨by omega,h2.1,h2.2,by simp[jv,h1,h2]⟩)
   ·exact .inr (.inr ⟨by omega,by omega,by simp[jv,h1,h2]⟩)
 refine ⟨jv C S W (mu - 1) (sm n φ Mp.wt+2*m),mu - 1,b,⟨_,_,_,_,m,c⟩,?_⟩
 refine ai.bu (hJ _ rfl) 1 (n:=0) _ rfl rfl ?_;simp only[*,go_sem,muA,msA,stA,smA,Int.reduceBEq,Int.reduceBNe]
 refine ai.nil a ?_;try simp only[go_sem]
 by_cases h0:mu - 1=0
 ·have e0:=e.eq
  have p:jv C S W (mu - 1) (sm n φ Mp.wt+2*m)= .fin:=by
   have:C=0:=by omega
   have:S=0:=by omega
   simp[jv, *]
  clear hw c b e0
  rw[p]
  rw[h0]
  repeat refine az (a _) ?_
  refine cR a ?_
  refine ai.bu (hJ _ rfl) 2 (n:=0) _ rfl rfl ?_;simp only[*,go_sem,muA,msA,stA,smA,Int.reduceBEq,Int.reduceBNe]
  refine ai.nil a ?_;try simp only[go_sem]
  repeat refine az (a _) ?_
  refine cx (a _) (by simp only[*,go_sem,Int.reduceBEq,Int.reduceBNe]) ?_
  refine cA (a _) ?_;try simp only[go_sem]
  repeat refine az (a _) ?_
  refine cR a ?_
  refine uu l8 ⟨_,_,_,rfl,(by first|rfl|simp only[*,go_sem,Int.reduceBEq,Int.reduceBNe]),rfl,by first|(simp only[*,go_sem,muA,msA,stA,smA,Int.reduceBEq,Int.reduceBNe];done)|(simp only[*,go_sem,muA,msA,stA,smA,Int.reduceBEq,Int.reduceBNe];rfl),rfl⟩ (by simp) (by simp) rfl ?_
  refine ai.nil a ?_;try simp only[go_sem]
  exact l6 rfl (by simp only[*,go_sem]) ⟨rfl,rfl,rfl⟩
 ·have G:(mu - 1 != 0)=true:=by simpa using h0
  clear c b h0
  repeat refine az (a _) ?_
  refine cR a ?_
  refine ai.bu (hJ _ rfl) 2 (n:=0) _ rfl rfl ?_;simp only[*,go_sem,muA,msA,stA,smA,Int.reduceBEq,Int.reduceBNe]
  refine ai.nil a ?_;try simp only[go_sem]
  repeat refine az (a _) ?_
  refine cQ (a _) (by simp only[*,go_sem,Int.reduceBEq,Int.reduceBNe]) ?_
  repeat refine az (a _) ?_
  refine cR a ?_
  refine ai.bu (hJ _ rfl) 2 (n:=1) _ rfl rfl ?_;simp only[*,go_sem,muA,msA,stA,smA,Int.reduceBEq,Int.reduceBNe]
  refine ai.gj (a _) rfl rfl rfl E8 (by simp only[*,go_sem,muA]) (Kb d hn hw hb) fun v F' aI q=>?_
  obtain ⟨rfl,rfl,rfl⟩:=q
  refine ai.nil a ?_;try simp only[go_sem]
  repeat refine az (a _) ?_
  refine cR a ?_
  refine uu l8 ⟨_,_,_,rfl,(by first|rfl|simp only[*,go_sem,Int.reduceBEq,Int.reduceBNe]),rfl,by first|(simp only[*,go_sem,muA,msA,stA,smA,Int.reduceBEq,Int.reduceBNe];done)|(simp only[*,go_sem,muA,msA,stA,smA,Int.reduceBEq,Int.reduceBNe];rfl),rfl⟩ (by simp) (by simp) rfl ?_
  refine ai.nil a ?_;try simp only[go_sem]
  exact l6 rfl (by simp only[*,go_sem]) ⟨rfl,rfl,rfl⟩
end
end Go.Proofs.YtjepffnffjdloaaGreatDoor
end
section
namespace Go.Sep
open Go Go.Conc
def uy {S:Type}(fA:Act->af->S->Prop)(Q:Ex->Act->af->S->Prop):Ex->Act->af->S->Prop
 | .normal,a,F,ph=>fA a F ph
 |e,a,F,ph=>Q e a F ph
attribute [go_sem] uy
theorem kZ {P:Program}{main:Bool}{S:Type}{JF:S->Goroutine->af->Prop}{fi:FuncId}{Q:Ex->Act->af->S->Prop}{a:Act}{F:af}{ph:S}(b:∀ph,dO P main (JF ph)){x y:Code}(fA:Act->af->S->Prop)
  (h1:cF JF fi x (uy fA Q) a F ph) (h2:∀a F ph,fA a F ph->cF JF fi y Q a F ph):cF JF fi (.seq x y) Q a F ph:=
 az (b _) (h1.mono fun e a F ph h=>by
  cases e with
  |normal=>exact h2 a F ph h
  |exit i=>exact h
  |ret=>exact h)
theorem uz {P:Program}{main:Bool}{S:Type}{JF:S->Goroutine->af->Prop}{fi:FuncId}{Q:Ex->Act->af->S->Prop}{a:Act}{F:af}{ph:S}(b:∀ph,dO P main (JF ph)){x:Code}(fA:Act->af->S->Prop)
  (h1:cF JF fi x (uy fA Q) a F ph) (h2:∀a F ph,fA a F ph->Q .normal a F ph):cF JF fi x Q a F ph:=
 h1.mono fun e a F ph h=>by
  cases e with
  |normal=>exact h2 a F ph h
  |exit i=>exact h
  |ret=>exact h
theorem aV {P:Program}{main:Bool}{S:Type}{JF:S->Goroutine->af->Prop}{fi:FuncId}{Q:Ex->Act->af->S->Prop}{a:Act}{F:af}{ph:S}(b:∀ph,dO P main (JF ph)){id:Nat}{ops:Array Oper}
  (h:∀K:Act->af->S->Prop,(∀a F ph,Q .normal a F ph->K a F ph)->ai JF fi ops 0 ops.size K a F ph):cF JF fi (.region id ops false) Q a F ph:=cR b (h _ fun _ _ _ h=>h)
theorem ey {S:Type}{fA:Act->af->S->Prop}{Q:Ex->Act->af->S->Prop}{a:Act}{F:af}{ph:S}(h:fA a F ph):uy fA Q .normal a F ph:=h
theorem jf {S:Type}{I:Nat->Act->af->S->Prop}{n:Nat}{Q:Ex->Act->af->S->Prop}{a:Act}{F:af}{ph:S}(h:∃m,m<n/\I m a F ph):yw I n Q .normal a F ph:=h
theorem Ke {x:Int}(h1: -9223372036854775808<=x)(h2:x<9223372036854775808):IntKind.i64.wrap x=x:=by
 unfold IntKind.wrap
 simp[IntKind.bits,IntKind.signed]
 omega
end Go.Sep
namespace Go.Proofs.YtjepffnffjdloaaGreatDoor
open Go Go.Sep Go.Proofs Go.Conc
open Go.ConcN (upd upd_same)
open Go.ConcM (muA msA)
open Go.ConcR (stA smA)
set_option maxRecDepth 100000
set_option maxHeartbeats 8000000
set_option linter.all false
def uA (Mu n:Nat)(st:Bool)(F:af)(m:Nat)(a:Act)(F':af)(ph:Ph):Prop:=
 ∃(wt it old:Int) (sv aw:Bool) (C S W L G:Nat),F'=F/\slot a 0= .pointer (some ⟨Mu,0,none⟩)/\slot a 2= .int .i64 wt/\slot a 3= .bool sv/\slot a 4= .bool aw/\slot a 5= .int .i64 it/\slot a 6= .int .i32 old/\sz a=139/\a.defers=[]/\
  Wd old C S W L/\C<=3*n/\0<=it/\it<=4/\(sv=true->aw=true)/\(aw=true->S=0/\W=1)/\8*G+(5 - it).toNat<=m/\ph=⟨.want aw old G,.cnt,st,1⟩
def uB (Mu:Nat)(st:Bool)(F:af)(a:Act)(F':af)(ph:Ph):Prop:=F'=F/\slot a 0= .pointer (some ⟨Mu,0,none⟩)/\sz a=139/\a.defers=[]/\ph=⟨.held,.cnt,st,1⟩
def Kf (Mu:Nat)(st:Bool)(F:af)(wt it:Int)(sv:Bool)(G:Nat)(a:Act)(F':af)(ph:Ph):Prop:=
 ∃(aw:Bool) (o:Int) (b:Nat),F'=F/\slot a 0= .pointer (some ⟨Mu,0,none⟩)/\slot a 2= .int .i64 wt/\slot a 3= .bool sv/\slot a 4= .bool aw/\slot a 5= .int .i64 it/\sz a=139/\a.defers=[]/\(sv=true->aw=true)/\b<=G/\ph=⟨.want aw o b,.cnt,st,1⟩
def qW (Mu:Nat)(st:Bool)(F:af)(wt it old:Int)(x:Option Int)(sv aw:Bool)(G:Nat)(a:Act)(F':af)(ph:Ph):Prop:=
 F'=F/\slot a 0= .pointer (some ⟨Mu,0,none⟩)/\slot a 2= .int .i64 wt/\slot a 3= .bool sv/\slot a 4= .bool aw/\slot a 5= .int .i64 it/\slot a 6= .int .i32 old/\(∀y,x=some y->slot a 7= .int .i32 y)/\sz a=139/\a.defers=[]/\ph=⟨.want aw old G,.cnt,st,1⟩
def Dj (Mu:Nat)(st:Bool)(F:af)(sv:Bool)(mp:Mp)(a:Act)(F':af)(ph:Ph):Prop:=
 ∃wt:Int,F'=F/\slot a 0= .pointer (some ⟨Mu,0,none⟩)/\slot a 2= .int .i64 wt/\slot a 3= .bool sv/\sz a=139/\a.defers=[]/\ph=⟨mp,.cnt,st,1⟩
def Dk (Mu:Nat)(st:Bool)(F:af)(mp:Mp)(a:Act)(F':af)(ph:Ph):Prop:=
 ∃(wt:Int) (sv:Bool),F'=F/\slot a 0= .pointer (some ⟨Mu,0,none⟩)/\slot a 2= .int .i64 wt/\slot a 3= .bool sv/\sz a=139/\a.defers=[]/\ph=⟨mp,.cnt,st,1⟩
def Kg (Mu:Nat)(st:Bool)(F:af)(y:Bool)(a:Act)(F':af)(ph:Ph):Prop:=
 ∃e:Bool,F'=F/\slot a 0= .pointer (some ⟨Mu,0,none⟩)/\slot a 9= .int .i32 (-7)/\slot a 123= .bool e/\sz a=139/\a.defers=[]/\(e=false->y=true)/\ph=⟨.kW y,.cnt,st,1⟩
section
variable {Mu Wg Is n base T0 i : Nat} {bs : Nat → Bool} {st : Bool} {F : af}
theorem Kh (a6:Mu≠Wg/\Mu≠Is/\Wg≠Is)(hn:n<67108864):
  cz Tryz.prog (WJ (CY Mu Wg Is n bs base T0) i) 172 #[.pointer (some (muA Mu))] F ⟨.idle,.cnt,st,1⟩ (fun v F' aI=>v= .tuple #[]/\F'=F/\aI=⟨.held,.cnt,st,0⟩):=by
 have a:=WJ.ek (CY Mu Wg Is n bs base T0) i
 have hJ:∀ph:Ph,ph.gp= .cnt->Go.Sep.Closed Tryz.prog false (WJ (CY Mu Wg Is n bs base T0) i ph):=fun ph h=>Wk.closed (CY Mu Wg Is n bs base T0) i ph h
 refine cz.go (main:=false) a Tryz.func172 rfl Tryz.ntmps172 (by simp) fun A d hd hs=>?_
 have f:=hs 0
 clear hs
 repeat refine az (a _) ?_
 refine aV a fun K b=>?_
 refine ai.bu (hJ _ rfl) 1 (n:=0) _ rfl rfl ?_;simp only[*,go_sem,-b,-a,-hJ,muA,msA,stA,smA,Int.reduceBEq,Int.reduceBNe]
 refine ai.nil a (b _ _ _ ?_);clear b K
 repeat refine az (a _) ?_
 refine aV a fun K b=>?_
 refine ai.bu (hJ _ rfl) 1 (n:=0) _ rfl rfl ?_;simp only[*,go_sem,-b,-a,-hJ,muA,msA,stA,smA,Int.reduceBEq,Int.reduceBNe]
 refine ai.nil a (b _ _ _ ?_);clear b K
 repeat refine az (a _) ?_
 refine aV a fun K b=>?_
 refine ai.bu (hJ _ rfl) 1 (n:=0) _ rfl rfl ?_;simp only[*,go_sem,-b,-a,-hJ,muA,msA,stA,smA,Int.reduceBEq,Int.reduceBNe]
 refine ai.nil a (b _ _ _ ?_);clear b K
 repeat refine az (a _) ?_
 refine aV a fun K b=>?_
 refine ai.bu (hJ _ rfl) 1 (n:=0) _ rfl rfl ?_;simp only[*,go_sem,-b,-a,-hJ,muA,msA,stA,smA,Int.reduceBEq,Int.reduceBNe]
 refine ai.nil a (b _ _ _ ?_);clear b K
 repeat refine az (a _) ?_
 refine aV a fun K b=>?_
 refine ai.bu (hJ _ rfl) 3 (n:=2) _ rfl rfl ?_;simp only[*,go_sem,-b,-a,-hJ,muA,msA,stA,smA,Int.reduceBEq,Int.reduceBNe]
 refine o7 uo o5 ⟨_,rfl,(by first|(simp only[*,go_sem,-b,-a,-hJ];done)|rfl),rfl,rfl⟩ (by rfl) (by simp only[*,go_sem,-b,-a,-hJ,muA,msA,stA,smA,Int.reduceBEq,Int.reduceBNe]) (fun φ mu ms C S W L m he hi hm=>⟨.want false mu (bM n φ ms),⟨_,_,_,_,m,I8 hm hi _ (by rw[he]) rfl⟩,?_⟩)
 have hw:=wd hm.st (by have:C<=3*n:=hm.bound;omega)
 have hC:C<=3*n:=hm.bound
 refine ai.bu (hJ _ rfl) 1 (n:=0) _ rfl rfl ?_;simp only[*,go_sem,-b,-a,-hJ,muA,msA,stA,smA,Int.reduceBEq,Int.reduceBNe]
 refine ai.nil a (b _ _ _ ?_);clear b K
 refine kZ a (uB Mu st F) ?_ ?_
 ·repeat refine az (a _) ?_
  refine jW a ?_
  refine qS a (uA Mu n st F) (8*bM n φ ms+5) ?_ ?_
  ·exact ⟨0,0,mu,false,false,C,S,W,L,bM n φ ms,rfl,(by simp only[*,go_sem,-a,-hJ,muA,msA,stA,smA,Int.reduceBEq,Int.reduceBNe]),(by simp only[*,go_sem,-a,-hJ,muA,msA,stA,smA,Int.reduceBEq,Int.reduceBNe]),(by simp only[*,go_sem,-a,-hJ,muA,msA,stA,smA,Int.reduceBEq,Int.reduceBNe]),(by simp only[*,go_sem,-a,-hJ,muA,msA,stA,smA,Int.reduceBEq,Int.reduceBNe]),(by simp only[*,go_sem,-a,-hJ,muA,msA,stA,smA,Int.reduceBEq,Int.reduceBNe]),(by simp only[*,go_sem,-a,-hJ,muA,msA,stA,smA,Int.reduceBEq,Int.reduceBNe]),(by simp only[*,go_sem,-a,-hJ,muA,msA,stA,smA,Int.reduceBEq,Int.reduceBNe]),(by simp only[*,go_sem,-a,-hJ,muA,msA,stA,smA,Int.reduceBEq,Int.reduceBNe]),hw,hC,by omega,by omega,by simp,by simp,by simp,rfl⟩
  ·clear hw hC hm hi he d hd f
   rintro m A F' aI ⟨wt,it,old,sv,aw,C,S,W,L,G,rfl,f,k,o,z,D,I,d,hd,hw,hC,e3,fa,V,X,fb,rfl⟩
   have cS:S=0\/S=1:=by have:=hw.st.s;omega
   have a7:L=0\/L=1:=by have:=hw.st.l;omega
   have bd:W=0\/W=1:=by have:=hw.st.w;omega
   repeat refine az (a _) ?_
   refine jW a ?_
   refine kZ a (qW Mu st F' wt it old none sv aw G) ?_ ?_
   ·
    by_cases Y:S=0/\L=1
    ·obtain ⟨rfl,rfl⟩:=Y
     have b5:dN old 5=1:=hw.a5
     repeat refine az (a _) ?_
     refine aV a fun K b=>?_
     refine ai.bu (hJ _ rfl) 5 (n:=2) _ rfl rfl ?_;simp only[*,go_sem,-b,-a,-hJ,muA,msA,stA,smA,Int.reduceBEq,Int.reduceBNe]
     refine J7 it JP ⟨_,_,_,rfl,(by first|(simp only[*,go_sem,-b,-a,-hJ];done)|rfl),rfl,by first|(simp only[*,go_sem,-b,-a,-hJ,muA,msA,stA,smA,Int.reduceBEq,Int.reduceBNe];done)|(simp only[*,go_sem,-b,-a,-hJ,muA,msA,stA,smA,Int.reduceBEq,Int.reduceBNe];rfl),rfl⟩ (by simp) fun t ht=>?_
     refine ai.bu (hJ _ rfl) 1 (n:=0) _ rfl rfl ?_;simp only[*,go_sem,-b,-a,-hJ,muA,msA,stA,smA,Int.reduceBEq,Int.reduceBNe]
     refine ai.nil a (b _ _ _ ?_);clear b K
     cases t
     ·repeat refine az (a _) ?_
      refine cx (a _) (by simp only[*,go_sem,-a,-hJ,Int.reduceBEq,Int.reduceBNe]) ?_
      refine cA (a _) ?_
      exact ey ⟨rfl,(by simp only[*,go_sem,-a,-hJ,muA,msA,stA,smA,Int.reduceBEq,Int.reduceBNe]),(by simp only[*,go_sem,-a,-hJ,muA,msA,stA,smA,Int.reduceBEq,Int.reduceBNe]),(by simp only[*,go_sem,-a,-hJ,muA,msA,stA,smA,Int.reduceBEq,Int.reduceBNe]),(by simp only[*,go_sem,-a,-hJ,muA,msA,stA,smA,Int.reduceBEq,Int.reduceBNe]),(by simp only[*,go_sem,-a,-hJ,muA,msA,stA,smA,Int.reduceBEq,Int.reduceBNe]),(by simp only[*,go_sem,-a,-hJ,muA,msA,stA,smA,Int.reduceBEq,Int.reduceBNe]),by simp,(by simp only[*,go_sem,-a,-hJ,muA,msA,stA,smA,Int.reduceBEq,Int.reduceBNe]),(by simp only[*,go_sem,-a,-hJ,muA,msA,stA,smA,Int.reduceBEq,Int.reduceBNe]),rfl⟩
     ·have ff:=ht rfl
      repeat refine az (a _) ?_
      refine cQ (a _) (by simp only[*,go_sem,-a,-hJ,Int.reduceBEq,Int.reduceBNe]) ?_
      refine kZ a (Kf Mu st F' wt it sv G) ?_ ?_
      ·cases aw
       ·obtain rfl:sv=false:=by cases sv<;>simp_all
        rcases bd with rfl|rfl
        ·have b2:dN old 2=0:=hw.a2
         by_cases dE:C=0
         ·have br:((C:Int) != 0)=false:=by simp[dE]
          repeat refine az (a _) ?_
          refine aV a fun K b=>?_
          refine ai.bu (hJ _ rfl) 9 (n:=12) _ rfl rfl ?_;simp only[*,go_sem,-b,-a,-hJ,muA,msA,stA,smA,Int.reduceBEq,Int.reduceBNe]
          refine ai.nv old (C:Int) (a _) ⟨_,rfl,(by first|(simp only[*,go_sem,-b,-a,-hJ];done)|rfl),rfl,rfl⟩ (by simp only[*,go_sem,-b,-a,-hJ,muA,msA,stA,smA,Int.reduceBEq,Int.reduceBNe]) (by simp only[*,go_sem,-b,-a,-hJ,muA,msA,stA,smA,Int.reduceBEq,Int.reduceBNe]) hw.sh ?_
          refine ai.bu (hJ _ rfl) 11 (n:=0) _ rfl rfl ?_;simp only[*,go_sem,-b,-a,-hJ,muA,msA,stA,smA,Int.reduceBEq,Int.reduceBNe]
          refine ai.nil a (b _ _ _ ?_);clear b K
          repeat refine az (a _) ?_
          refine cx (a _) (by simp only[*,go_sem,-a,-hJ,Int.reduceBEq,Int.reduceBNe]) ?_
          refine cA (a _) ?_
          exact ey ⟨false,old,G,rfl,(by simp only[*,go_sem,-a,-hJ,muA,msA,stA,smA,Int.reduceBEq,Int.reduceBNe]),(by simp only[*,go_sem,-a,-hJ,muA,msA,stA,smA,Int.reduceBEq,Int.reduceBNe]),(by simp only[*,go_sem,-a,-hJ,muA,msA,stA,smA,Int.reduceBEq,Int.reduceBNe]),(by simp only[*,go_sem,-a,-hJ,muA,msA,stA,smA,Int.reduceBEq,Int.reduceBNe]),(by simp only[*,go_sem,-a,-hJ,muA,msA,stA,smA,Int.reduceBEq,Int.reduceBNe]),(by simp only[*,go_sem,-a,-hJ,muA,msA,stA,smA,Int.reduceBEq,Int.reduceBNe]),(by simp only[*,go_sem,-a,-hJ,muA,msA,stA,smA,Int.reduceBEq,Int.reduceBNe]),by simp,Nat.le_refl _,rfl⟩
         ·have br:((C:Int) != 0)=true:=by simp;omega
          have o2:jo old 2=old+2:=hw.o2
          repeat refine az (a _) ?_
          refine aV a fun K b=>?_
          refine ai.bu (hJ _ rfl) 9 (n:=12) _ rfl rfl ?_;simp only[*,go_sem,-b,-a,-hJ,muA,msA,stA,smA,Int.reduceBEq,Int.reduceBNe]
          refine ai.nv old (C:Int) (a _) ⟨_,rfl,(by first|(simp only[*,go_sem,-b,-a,-hJ];done)|rfl),rfl,rfl⟩ (by simp only[*,go_sem,-b,-a,-hJ,muA,msA,stA,smA,Int.reduceBEq,Int.reduceBNe]) (by simp only[*,go_sem,-b,-a,-hJ,muA,msA,stA,smA,Int.reduceBEq,Int.reduceBNe]) hw.sh ?_
          refine ai.bu (hJ _ rfl) 9 (n:=2) _ rfl rfl ?_;simp only[*,go_sem,-b,-a,-hJ,muA,msA,stA,smA,Int.reduceBEq,Int.reduceBNe]
          refine uv old (old+2) um a6 ⟨_,_,_,rfl,(by first|(simp only[*,go_sem,-b,-a,-hJ];done)|rfl),rfl,by first|(simp only[*,go_sem,-b,-a,-hJ,muA,msA,stA,smA,Int.reduceBEq,Int.reduceBNe];done)|(simp only[*,go_sem,-b,-a,-hJ,muA,msA,stA,smA,Int.reduceBEq,Int.reduceBNe];rfl),rfl⟩ (by rfl) (by simp) (fun φ ms bz al bS Z p he hi hm=>?_) (fun φ mu ms bz al bS Z p he hi hm df=>?_)
          ·obtain ⟨rfl,rfl,rfl,rfl⟩:=hm.st.uniq hw.st
           refine ⟨.want true old G,⟨_,_,_,_,p,I9 hm hi _ (by rw[he]) rfl rfl rfl rfl rfl⟩,?_⟩
           refine ai.bu (hJ _ rfl) 1 (n:=0) _ rfl rfl ?_;simp only[*,go_sem,-b,-a,-hJ,muA,msA,stA,smA,Int.reduceBEq,Int.reduceBNe]
           refine ai.nil a (b _ _ _ ?_);clear b K
           repeat refine az (a _) ?_
           refine cQ (a _) (by simp only[*,go_sem,-a,-hJ,Int.reduceBEq,Int.reduceBNe]) ?_
           repeat refine az (a _) ?_
           refine aV a fun K b=>?_
           refine ai.bu (hJ _ rfl) 1 (n:=0) _ rfl rfl ?_;simp only[*,go_sem,-b,-a,-hJ,muA,msA,stA,smA,Int.reduceBEq,Int.reduceBNe]
           refine ai.nil a (b _ _ _ ?_);clear b K
           exact ey ⟨true,old,G,rfl,(by simp only[*,go_sem,-a,-hJ,muA,msA,stA,smA,Int.reduceBEq,Int.reduceBNe]),(by simp only[*,go_sem,-a,-hJ,muA,msA,stA,smA,Int.reduceBEq,Int.reduceBNe]),(by simp only[*,go_sem,-a,-hJ,muA,msA,stA,smA,Int.reduceBEq,Int.reduceBNe]),(by simp only[*,go_sem,-a,-hJ,muA,msA,stA,smA,Int.reduceBEq,Int.reduceBNe]),(by simp only[*,go_sem,-a,-hJ,muA,msA,stA,smA,Int.reduceBEq,Int.reduceBNe]),(by simp only[*,go_sem,-a,-hJ,muA,msA,stA,smA,Int.reduceBEq,Int.reduceBNe]),(by simp only[*,go_sem,-a,-hJ,muA,msA,stA,smA,Int.reduceBEq,Int.reduceBNe]),by simp,Nat.le_refl _,rfl⟩
          ·obtain ⟨J,a8,bj⟩:=tX hm hi {mp:=.want false mu (bM n φ ms),gp:=.cnt,stored:=st,deaf:=1} (by rw[he]) rfl
           refine ⟨.want false mu (bM n φ ms),⟨_,_,_,_,p,J⟩,?_⟩
           refine ai.bu (hJ _ rfl) 1 (n:=0) _ rfl rfl ?_;simp only[*,go_sem,-b,-a,-hJ,muA,msA,stA,smA,Int.reduceBEq,Int.reduceBNe]
           refine ai.nil a (b _ _ _ ?_);clear b K
           repeat refine az (a _) ?_
           refine cx (a _) (by simp only[*,go_sem,-a,-hJ,Int.reduceBEq,Int.reduceBNe]) ?_
           refine cA (a _) ?_
           exact ey ⟨false,mu,bM n φ ms,rfl,(by simp only[*,go_sem,-a,-hJ,muA,msA,stA,smA,Int.reduceBEq,Int.reduceBNe]),(by simp only[*,go_sem,-a,-hJ,muA,msA,stA,smA,Int.reduceBEq,Int.reduceBNe]),(by simp only[*,go_sem,-a,-hJ,muA,msA,stA,smA,Int.reduceBEq,Int.reduceBNe]),(by simp only[*,go_sem,-a,-hJ,muA,msA,stA,smA,Int.reduceBEq,Int.reduceBNe]),(by simp only[*,go_sem,-a,-hJ,muA,msA,stA,smA,Int.reduceBEq,Int.reduceBNe]),(by simp only[*,go_sem,-a,-hJ,muA,msA,stA,smA,Int.reduceBEq,Int.reduceBNe]),(by simp only[*,go_sem,-a,-hJ,muA,msA,stA,smA,Int.reduceBEq,Int.reduceBNe]),by simp,a8,rfl⟩
        ·have b2:dN old 2=2:=hw.a2
         repeat refine az (a _) ?_
         refine aV a fun K b=>?_
         refine ai.bu (hJ _ rfl) 21 (n:=0) _ rfl rfl ?_;simp only[*,go_sem,-b,-a,-hJ,muA,msA,stA,smA,Int.reduceBEq,Int.reduceBNe]
         refine ai.nil a (b _ _ _ ?_);clear b K
         repeat refine az (a _) ?_
         refine cx (a _) (by simp only[*,go_sem,-a,-hJ,Int.reduceBEq,Int.reduceBNe]) ?_
         refine cA (a _) ?_
         exact ey ⟨false,old,G,rfl,(by simp only[*,go_sem,-a,-hJ,muA,msA,stA,smA,Int.reduceBEq,Int.reduceBNe]),(by simp only[*,go_sem,-a,-hJ,muA,msA,stA,smA,Int.reduceBEq,Int.reduceBNe]),(by simp only[*,go_sem,-a,-hJ,muA,msA,stA,smA,Int.reduceBEq,Int.reduceBNe]),(by simp only[*,go_sem,-a,-hJ,muA,msA,stA,smA,Int.reduceBEq,Int.reduceBNe]),(by simp only[*,go_sem,-a,-hJ,muA,msA,stA,smA,Int.reduceBEq,Int.reduceBNe]),(by simp only[*,go_sem,-a,-hJ,muA,msA,stA,smA,Int.reduceBEq,Int.reduceBNe]),(by simp only[*,go_sem,-a,-hJ,muA,msA,stA,smA,Int.reduceBEq,Int.reduceBNe]),by simp,Nat.le_refl _,rfl⟩
       ·repeat refine az (a _) ?_
        refine aV a fun K b=>?_
        refine ai.bu (hJ _ rfl) 21 (n:=0) _ rfl rfl ?_;simp only[*,go_sem,-b,-a,-hJ,muA,msA,stA,smA,Int.reduceBEq,Int.reduceBNe]
        refine ai.nil a (b _ _ _ ?_);clear b K
        repeat refine az (a _) ?_
        refine cx (a _) (by simp only[*,go_sem,-a,-hJ,Int.reduceBEq,Int.reduceBNe]) ?_
        refine cA (a _) ?_
        exact ey ⟨true,old,G,rfl,(by simp only[*,go_sem,-a,-hJ,muA,msA,stA,smA,Int.reduceBEq,Int.reduceBNe]),(by simp only[*,go_sem,-a,-hJ,muA,msA,stA,smA,Int.reduceBEq,Int.reduceBNe]),(by simp only[*,go_sem,-a,-hJ,muA,msA,stA,smA,Int.reduceBEq,Int.reduceBNe]),(by simp only[*,go_sem,-a,-hJ,muA,msA,stA,smA,Int.reduceBEq,Int.reduceBNe]),(by simp only[*,go_sem,-a,-hJ,muA,msA,stA,smA,Int.reduceBEq,Int.reduceBNe]),(by simp only[*,go_sem,-a,-hJ,muA,msA,stA,smA,Int.reduceBEq,Int.reduceBNe]),(by simp only[*,go_sem,-a,-hJ,muA,msA,stA,smA,Int.reduceBEq,Int.reduceBNe]),by simp,Nat.le_refl _,rfl⟩
      ·clear f k o z D I d hd b5
       rintro A c ab ⟨bk,o2,dT,rfl,f,k,o,z,D,d,hd,ea,fg,rfl⟩
       have fi:IntKind.i64.wrap (it+1)=it+1:=Ke (by omega) (by omega)
       repeat refine az (a _) ?_
       refine aV a fun K b=>?_
       refine ai.entry _ (a _) JQ ⟨_,_,_,rfl,(by first|(simp only[*,go_sem,-b,-a,-hJ];done)|rfl),rfl,by first|(simp only[*,go_sem,-b,-a,-hJ,muA,msA,stA,smA,Int.reduceBEq,Int.reduceBNe];done)|(simp only[*,go_sem,-b,-a,-hJ,muA,msA,stA,smA,Int.reduceBEq,Int.reduceBNe];rfl),rfl⟩ ?_
       refine ai.nil a (b _ _ _ ?_);clear b K
       repeat refine az (a _) ?_
       refine aV a fun K b=>?_
       refine ai.bu (hJ _ rfl) 3 (n:=0) _ rfl rfl ?_;simp only[*,go_sem,-b,-a,-hJ,muA,msA,stA,smA,Int.reduceBEq,Int.reduceBNe]
       refine ai.nil a (b _ _ _ ?_);clear b K
       repeat refine az (a _) ?_
       refine aV a fun K b=>?_
       refine ai.bu (hJ _ rfl) 3 (n:=2) _ rfl rfl ?_;simp only[*,go_sem,-b,-a,-hJ,muA,msA,stA,smA,Int.reduceBEq,Int.reduceBNe]
       refine o7 uo o5 ⟨_,rfl,(by first|(simp only[*,go_sem,-b,-a,-hJ];done)|rfl),rfl,rfl⟩ (by rfl) (by simp only[*,go_sem,-b,-a,-hJ,muA,msA,stA,smA,Int.reduceBEq,Int.reduceBNe]) (fun φ mu ms P S3 bl b0 b1 he hi hm=>?_)
       obtain ⟨J,a8,bj⟩:=tX hm hi {mp:=.want bk mu (bM n φ ms),gp:=.cnt,stored:=st,deaf:=1} (by rw[he]) rfl
       have ad:=wd hm.st (by have:P<=3*n:=hm.bound;omega)
       have a9:P<=3*n:=hm.bound
       have ca:bM n φ ms<=dT:=a8
       have cb:bk=true->S3=0/\bl=1:=fun e=>by subst e;exact CD hm hi (by rw[he])
       refine ⟨.want bk mu (bM n φ ms),⟨_,_,_,_,b1,J⟩,?_⟩
       refine ai.bu (hJ _ rfl) 1 (n:=0) _ rfl rfl ?_;simp only[*,go_sem,-b,-a,-hJ,muA,msA,stA,smA,Int.reduceBEq,Int.reduceBNe]
       refine ai.nil a (b _ _ _ ?_);clear b K
       refine oZ ?_
       change ∃p,p<m/\uA Mu n st c p _ _ _
       exact ⟨8*bM n φ ms+(5 - (it+1)).toNat,by omega,wt,it+1,mu,sv,bk,P,S3,bl,b0,bM n φ ms,rfl,(by simp only[*,go_sem,-a,-hJ,muA,msA,stA,smA,Int.reduceBEq,Int.reduceBNe]),(by simp only[*,go_sem,-a,-hJ,muA,msA,stA,smA,Int.reduceBEq,Int.reduceBNe]),(by simp only[*,go_sem,-a,-hJ,muA,msA,stA,smA,Int.reduceBEq,Int.reduceBNe]),(by simp only[*,go_sem,-a,-hJ,muA,msA,stA,smA,Int.reduceBEq,Int.reduceBNe]),(by simp only[*,go_sem,-a,-hJ,muA,msA,stA,smA,Int.reduceBEq,Int.reduceBNe]),(by simp only[*,go_sem,-a,-hJ,muA,msA,stA,smA,Int.reduceBEq,Int.reduceBNe]),(by simp only[*,go_sem,-a,-hJ,muA,msA,stA,smA,Int.reduceBEq,Int.reduceBNe]),(by simp only[*,go_sem,-a,-hJ,muA,msA,stA,smA,Int.reduceBEq,Int.reduceBNe]),ad,a9,by omega,by omega,ea,cb,Nat.le_refl _,rfl⟩
    ·have b5:=hw.a5
     have cd:(((4*S+L:Nat):Int)==1)=false:=by simp;omega
     repeat refine az (a _) ?_
     refine aV a fun K b=>?_
     refine ai.bu (hJ _ rfl) 7 (n:=0) _ rfl rfl ?_;simp only[*,go_sem,-b,-a,-hJ,muA,msA,stA,smA,Int.reduceBEq,Int.reduceBNe]
     refine ai.nil a (b _ _ _ ?_);clear b K
     repeat refine az (a _) ?_
     refine cx (a _) (by simp only[*,go_sem,-a,-hJ,Int.reduceBEq,Int.reduceBNe]) ?_
     refine cA (a _) ?_
     exact ey ⟨rfl,(by simp only[*,go_sem,-a,-hJ,muA,msA,stA,smA,Int.reduceBEq,Int.reduceBNe]),(by simp only[*,go_sem,-a,-hJ,muA,msA,stA,smA,Int.reduceBEq,Int.reduceBNe]),(by simp only[*,go_sem,-a,-hJ,muA,msA,stA,smA,Int.reduceBEq,Int.reduceBNe]),(by simp only[*,go_sem,-a,-hJ,muA,msA,stA,smA,Int.reduceBEq,Int.reduceBNe]),(by simp only[*,go_sem,-a,-hJ,muA,msA,stA,smA,Int.reduceBEq,Int.reduceBNe]),(by simp only[*,go_sem,-a,-hJ,muA,msA,stA,smA,Int.reduceBEq,Int.reduceBNe]),by simp,(by simp only[*,go_sem,-a,-hJ,muA,msA,stA,smA,Int.reduceBEq,Int.reduceBNe]),(by simp only[*,go_sem,-a,-hJ,muA,msA,stA,smA,Int.reduceBEq,Int.reduceBNe]),rfl⟩
   ·clear f k o z D I d hd
    rintro A c ab ⟨rfl,f,k,o,z,D,I,q,d,hd,rfl⟩
    clear q
    repeat refine az (a _) ?_
    refine aV a fun K b=>?_
    refine ai.bu (hJ _ rfl) 2 (n:=0) _ rfl rfl ?_;simp only[*,go_sem,-b,-a,-hJ,muA,msA,stA,smA,Int.reduceBEq,Int.reduceBNe]
    refine ai.nil a (b _ _ _ ?_);clear b K
    obtain ⟨Q,j,r⟩:∃Q:Int,(S=0->Q=old+1 - L)/\(S=1->Q=old):=⟨if S=0 then old+1 - L else old,fun e=>by simp[e],fun e=>by simp[e]⟩
    refine kZ a (qW Mu st c wt it old (some Q) sv aw G) ?_ ?_
    ·rcases cS with rfl|rfl
     ·have b4:dN old 4=0:=hw.a4
      have o1:jo old 1=Q:=by rw[j rfl,hw.o1];omega
      clear j r
      repeat refine az (a _) ?_
      refine aV a fun K b=>?_
      refine ai.bu (hJ _ rfl) 3 (n:=0) _ rfl rfl ?_;simp only[*,go_sem,-b,-a,-hJ,muA,msA,stA,smA,Int.reduceBEq,Int.reduceBNe]
      refine ai.nil a (b _ _ _ ?_);clear b K
      repeat refine az (a _) ?_
      refine cQ (a _) (by simp only[*,go_sem,-a,-hJ,Int.reduceBEq,Int.reduceBNe]) ?_
      repeat refine az (a _) ?_
      refine aV a fun K b=>?_
      refine ai.bu (hJ _ rfl) 3 (n:=0) _ rfl rfl ?_;simp only[*,go_sem,-b,-a,-hJ,muA,msA,stA,smA,Int.reduceBEq,Int.reduceBNe]
      refine ai.nil a (b _ _ _ ?_);clear b K
      exact ey ⟨rfl,(by simp only[*,go_sem,-a,-hJ,muA,msA,stA,smA,Int.reduceBEq,Int.reduceBNe]),(by simp only[*,go_sem,-a,-hJ,muA,msA,stA,smA,Int.reduceBEq,Int.reduceBNe]),(by simp only[*,go_sem,-a,-hJ,muA,msA,stA,smA,Int.reduceBEq,Int.reduceBNe]),(by simp only[*,go_sem,-a,-hJ,muA,msA,stA,smA,Int.reduceBEq,Int.reduceBNe]),(by simp only[*,go_sem,-a,-hJ,muA,msA,stA,smA,Int.reduceBEq,Int.reduceBNe]),(by simp only[*,go_sem,-a,-hJ,muA,msA,stA,smA,Int.reduceBEq,Int.reduceBNe]),fun y g=>by cases g;simp only[*,go_sem,-a,-hJ],(by simp only[*,go_sem,-a,-hJ,muA,msA,stA,smA,Int.reduceBEq,Int.reduceBNe]),(by simp only[*,go_sem,-a,-hJ,muA,msA,stA,smA,Int.reduceBEq,Int.reduceBNe]),rfl⟩
     ·have b4:dN old 4=4:=hw.a4
      obtain rfl:=r rfl
      clear j r
      repeat refine az (a _) ?_
      refine aV a fun K b=>?_
      refine ai.bu (hJ _ rfl) 3 (n:=0) _ rfl rfl ?_;simp only[*,go_sem,-b,-a,-hJ,muA,msA,stA,smA,Int.reduceBEq,Int.reduceBNe]
      refine ai.nil a (b _ _ _ ?_);clear b K
      repeat refine az (a _) ?_
      refine cx (a _) (by simp only[*,go_sem,-a,-hJ,Int.reduceBEq,Int.reduceBNe]) ?_
      refine cA (a _) ?_
      exact ey ⟨rfl,(by simp only[*,go_sem,-a,-hJ,muA,msA,stA,smA,Int.reduceBEq,Int.reduceBNe]),(by simp only[*,go_sem,-a,-hJ,muA,msA,stA,smA,Int.reduceBEq,Int.reduceBNe]),(by simp only[*,go_sem,-a,-hJ,muA,msA,stA,smA,Int.reduceBEq,Int.reduceBNe]),(by simp only[*,go_sem,-a,-hJ,muA,msA,stA,smA,Int.reduceBEq,Int.reduceBNe]),(by simp only[*,go_sem,-a,-hJ,muA,msA,stA,smA,Int.reduceBEq,Int.reduceBNe]),(by simp only[*,go_sem,-a,-hJ,muA,msA,stA,smA,Int.reduceBEq,Int.reduceBNe]),fun y g=>by cases g;simp only[*,go_sem,-a,-hJ],(by simp only[*,go_sem,-a,-hJ,muA,msA,stA,smA,Int.reduceBEq,Int.reduceBNe]),(by simp only[*,go_sem,-a,-hJ,muA,msA,stA,smA,Int.reduceBEq,Int.reduceBNe]),rfl⟩
    clear f k o z D I d hd
    rintro A c ab ⟨rfl,f,k,o,z,D,I,q,d,hd,rfl⟩
    replace q:=q _ rfl
    obtain ⟨R,x,E⟩:∃R:Int,(S=1\/L=1->R=Q+8)/\(S=0->L=0->R=Q):=⟨if S=1\/L=1 then Q+8 else Q,fun e=>by simp[e],fun e cf=>by simp[e,cf]⟩
    refine kZ a (qW Mu st c wt it old (some R) sv aw G) ?_ ?_
    ·by_cases Y:S=1\/L=1
     ·have b5:=hw.a5
      have cd:(((4*S+L:Nat):Int) != 0)=true:=by simp;omega
      have fl:IntKind.i32.wrap (Q+8)=R:=by
       have e0:=hw.st.eq
       rw[x Y]
       refine iI ?_ ?_<;>rcases cS with rfl|rfl<;>first|(have:=j rfl;omega)|(have:=r rfl;omega)
      clear j r x E Y
      repeat refine az (a _) ?_
      refine aV a fun K b=>?_
      refine ai.bu (hJ _ rfl) 3 (n:=0) _ rfl rfl ?_;simp only[*,go_sem,-b,-a,-hJ,muA,msA,stA,smA,Int.reduceBEq,Int.reduceBNe]
      refine ai.nil a (b _ _ _ ?_);clear b K
      repeat refine az (a _) ?_
      refine cQ (a _) (by simp only[*,go_sem,-a,-hJ,Int.reduceBEq,Int.reduceBNe]) ?_
      repeat refine az (a _) ?_
      refine aV a fun K b=>?_
      refine ai.bu (hJ _ rfl) 3 (n:=0) _ rfl rfl ?_;simp only[*,go_sem,-b,-a,-hJ,muA,msA,stA,smA,Int.reduceBEq,Int.reduceBNe]
      refine ai.nil a (b _ _ _ ?_);clear b K
      exact ey ⟨rfl,(by simp only[*,go_sem,-a,-hJ,muA,msA,stA,smA,Int.reduceBEq,Int.reduceBNe]),(by simp only[*,go_sem,-a,-hJ,muA,msA,stA,smA,Int.reduceBEq,Int.reduceBNe]),(by simp only[*,go_sem,-a,-hJ,muA,msA,stA,smA,Int.reduceBEq,Int.reduceBNe]),(by simp only[*,go_sem,-a,-hJ,muA,msA,stA,smA,Int.reduceBEq,Int.reduceBNe]),(by simp only[*,go_sem,-a,-hJ,muA,msA,stA,smA,Int.reduceBEq,Int.reduceBNe]),(by simp only[*,go_sem,-a,-hJ,muA,msA,stA,smA,Int.reduceBEq,Int.reduceBNe]),fun y g=>by cases g;simp only[*,go_sem,-a,-hJ],(by simp only[*,go_sem,-a,-hJ,muA,msA,stA,smA,Int.reduceBEq,Int.reduceBNe]),(by simp only[*,go_sem,-a,-hJ,muA,msA,stA,smA,Int.reduceBEq,Int.reduceBNe]),rfl⟩
     ·obtain rfl:S=0:=by omega
      obtain rfl:L=0:=by omega
      have b5:dN old 5=0:=hw.a5
      obtain rfl:=E rfl rfl
      clear j r x E Y
      repeat refine az (a _) ?_
      refine aV a fun K b=>?_
      refine ai.bu (hJ _ rfl) 3 (n:=0) _ rfl rfl ?_;simp only[*,go_sem,-b,-a,-hJ,muA,msA,stA,smA,Int.reduceBEq,Int.reduceBNe]
      refine ai.nil a (b _ _ _ ?_);clear b K
      repeat refine az (a _) ?_
      refine cx (a _) (by simp only[*,go_sem,-a,-hJ,Int.reduceBEq,Int.reduceBNe]) ?_
      refine cA (a _) ?_
      exact ey ⟨rfl,(by simp only[*,go_sem,-a,-hJ,muA,msA,stA,smA,Int.reduceBEq,Int.reduceBNe]),(by simp only[*,go_sem,-a,-hJ,muA,msA,stA,smA,Int.reduceBEq,Int.reduceBNe]),(by simp only[*,go_sem,-a,-hJ,muA,msA,stA,smA,Int.reduceBEq,Int.reduceBNe]),(by simp only[*,go_sem,-a,-hJ,muA,msA,stA,smA,Int.reduceBEq,Int.reduceBNe]),(by simp only[*,go_sem,-a,-hJ,muA,msA,stA,smA,Int.reduceBEq,Int.reduceBNe]),(by simp only[*,go_sem,-a,-hJ,muA,msA,stA,smA,Int.reduceBEq,Int.reduceBNe]),fun y g=>by cases g;simp only[*,go_sem,-a,-hJ],(by simp only[*,go_sem,-a,-hJ,muA,msA,stA,smA,Int.reduceBEq,Int.reduceBNe]),(by simp only[*,go_sem,-a,-hJ,muA,msA,stA,smA,Int.reduceBEq,Int.reduceBNe]),rfl⟩
    clear f k o z D I q d hd
    rintro A c ab ⟨rfl,f,k,o,z,D,I,q,d,hd,rfl⟩
    replace q:=q _ rfl
    obtain ⟨M,N,u⟩:∃M:Int,(sv=true->L=1->M=R+4)/\(¬(sv=true/\L=1)->M=R):=⟨if sv=true/\L=1 then R+4 else R,fun e cf=>by simp[e,cf],fun e=>by simp[e]⟩
    refine kZ a (qW Mu st c wt it old (some M) sv aw G) ?_ ?_
    ·cases sv
     ·obtain rfl:=u (by simp)
      clear j r x E N u
      repeat refine az (a _) ?_
      refine aV a fun K b=>?_
      refine ai.bu (hJ _ rfl) 6 (n:=0) _ rfl rfl ?_;simp only[*,go_sem,-b,-a,-hJ,muA,msA,stA,smA,Int.reduceBEq,Int.reduceBNe]
      refine ai.nil a (b _ _ _ ?_);clear b K
      repeat refine az (a _) ?_
      refine cx (a _) (by simp only[*,go_sem,-a,-hJ,Int.reduceBEq,Int.reduceBNe]) ?_
      refine cA (a _) ?_
      exact ey ⟨rfl,(by simp only[*,go_sem,-a,-hJ,muA,msA,stA,smA,Int.reduceBEq,Int.reduceBNe]),(by simp only[*,go_sem,-a,-hJ,muA,msA,stA,smA,Int.reduceBEq,Int.reduceBNe]),(by simp only[*,go_sem,-a,-hJ,muA,msA,stA,smA,Int.reduceBEq,Int.reduceBNe]),(by simp only[*,go_sem,-a,-hJ,muA,msA,stA,smA,Int.reduceBEq,Int.reduceBNe]),(by simp only[*,go_sem,-a,-hJ,muA,msA,stA,smA,Int.reduceBEq,Int.reduceBNe]),(by simp only[*,go_sem,-a,-hJ,muA,msA,stA,smA,Int.reduceBEq,Int.reduceBNe]),fun y g=>by cases g;simp only[*,go_sem,-a,-hJ],(by simp only[*,go_sem,-a,-hJ,muA,msA,stA,smA,Int.reduceBEq,Int.reduceBNe]),(by simp only[*,go_sem,-a,-hJ,muA,msA,stA,smA,Int.reduceBEq,Int.reduceBNe]),rfl⟩
     ·obtain rfl:aw=true:=V rfl
      rcases a7 with rfl|rfl
      ·have eb:dN old 1=0:=hw.a1
       obtain rfl:=u (by simp)
       clear j r x E N u
       repeat refine az (a _) ?_
       refine aV a fun K b=>?_
       refine ai.bu (hJ _ rfl) 6 (n:=0) _ rfl rfl ?_;simp only[*,go_sem,-b,-a,-hJ,muA,msA,stA,smA,Int.reduceBEq,Int.reduceBNe]
       refine ai.nil a (b _ _ _ ?_);clear b K
       repeat refine az (a _) ?_
       refine cx (a _) (by simp only[*,go_sem,-a,-hJ,Int.reduceBEq,Int.reduceBNe]) ?_
       refine cA (a _) ?_
       exact ey ⟨rfl,(by simp only[*,go_sem,-a,-hJ,muA,msA,stA,smA,Int.reduceBEq,Int.reduceBNe]),(by simp only[*,go_sem,-a,-hJ,muA,msA,stA,smA,Int.reduceBEq,Int.reduceBNe]),(by simp only[*,go_sem,-a,-hJ,muA,msA,stA,smA,Int.reduceBEq,Int.reduceBNe]),(by simp only[*,go_sem,-a,-hJ,muA,msA,stA,smA,Int.reduceBEq,Int.reduceBNe]),(by simp only[*,go_sem,-a,-hJ,muA,msA,stA,smA,Int.reduceBEq,Int.reduceBNe]),(by simp only[*,go_sem,-a,-hJ,muA,msA,stA,smA,Int.reduceBEq,Int.reduceBNe]),fun y g=>by cases g;simp only[*,go_sem,-a,-hJ],(by simp only[*,go_sem,-a,-hJ,muA,msA,stA,smA,Int.reduceBEq,Int.reduceBNe]),(by simp only[*,go_sem,-a,-hJ,muA,msA,stA,smA,Int.reduceBEq,Int.reduceBNe]),rfl⟩
      ·have eb:dN old 1=1:=hw.a1
       have o4:jo R 4=M:=by
        have e0:=hw.st.eq
        obtain ⟨rfl,rfl⟩:=X rfl
        have e1:=j rfl
        have e2:=x (.inr rfl)
        rw[N rfl rfl,(wd (C:=C+1) (S:=0) (W:=1) (L:=1) ⟨by omega,by omega,by omega,by omega⟩ (by omega)).o4]
        omega
       clear j r x E N u
       repeat refine az (a _) ?_
       refine aV a fun K b=>?_
       refine ai.bu (hJ _ rfl) 6 (n:=0) _ rfl rfl ?_;simp only[*,go_sem,-b,-a,-hJ,muA,msA,stA,smA,Int.reduceBEq,Int.reduceBNe]
       refine ai.nil a (b _ _ _ ?_);clear b K
       repeat refine az (a _) ?_
       refine cQ (a _) (by simp only[*,go_sem,-a,-hJ,Int.reduceBEq,Int.reduceBNe]) ?_
       repeat refine az (a _) ?_
       refine aV a fun K b=>?_
       refine ai.bu (hJ _ rfl) 3 (n:=0) _ rfl rfl ?_;simp only[*,go_sem,-b,-a,-hJ,muA,msA,stA,smA,Int.reduceBEq,Int.reduceBNe]
       refine ai.nil a (b _ _ _ ?_);clear b K
       exact ey ⟨rfl,(by simp only[*,go_sem,-a,-hJ,muA,msA,stA,smA,Int.reduceBEq,Int.reduceBNe]),(by simp only[*,go_sem,-a,-hJ,muA,msA,stA,smA,Int.reduceBEq,Int.reduceBNe]),(by simp only[*,go_sem,-a,-hJ,muA,msA,stA,smA,Int.reduceBEq,Int.reduceBNe]),(by simp only[*,go_sem,-a,-hJ,muA,msA,stA,smA,Int.reduceBEq,Int.reduceBNe]),(by simp only[*,go_sem,-a,-hJ,muA,msA,stA,smA,Int.reduceBEq,Int.reduceBNe]),(by simp only[*,go_sem,-a,-hJ,muA,msA,stA,smA,Int.reduceBEq,Int.reduceBNe]),fun y g=>by cases g;simp only[*,go_sem,-a,-hJ],(by simp only[*,go_sem,-a,-hJ,muA,msA,stA,smA,Int.reduceBEq,Int.reduceBNe]),(by simp only[*,go_sem,-a,-hJ,muA,msA,stA,smA,Int.reduceBEq,Int.reduceBNe]),rfl⟩
    clear f k o z D I q d hd
    rintro A c ab ⟨rfl,f,k,o,z,D,I,q,d,hd,rfl⟩
    replace q:=q _ rfl
    obtain ⟨ae,T,U⟩:∃ae:Int,(aw=true->ae=M - 2)/\(aw=false->ae=M):=⟨if aw then M - 2 else M,fun e=>by simp[e],fun e=>by simp[e]⟩
    refine kZ a (qW Mu st c wt it old (some ae) sv aw G) ?_ ?_
    ·cases aw
     ·obtain rfl:=U rfl
      clear j r x E N u T U
      repeat refine az (a _) ?_
      refine aV a fun K b=>?_
      refine ai.bu (hJ _ rfl) 1 (n:=0) _ rfl rfl ?_;simp only[*,go_sem,-b,-a,-hJ,muA,msA,stA,smA,Int.reduceBEq,Int.reduceBNe]
      refine ai.nil a (b _ _ _ ?_);clear b K
      repeat refine az (a _) ?_
      refine cx (a _) (by simp only[*,go_sem,-a,-hJ,Int.reduceBEq,Int.reduceBNe]) ?_
      refine cA (a _) ?_
      exact ey ⟨rfl,(by simp only[*,go_sem,-a,-hJ,muA,msA,stA,smA,Int.reduceBEq,Int.reduceBNe]),(by simp only[*,go_sem,-a,-hJ,muA,msA,stA,smA,Int.reduceBEq,Int.reduceBNe]),(by simp only[*,go_sem,-a,-hJ,muA,msA,stA,smA,Int.reduceBEq,Int.reduceBNe]),(by simp only[*,go_sem,-a,-hJ,muA,msA,stA,smA,Int.reduceBEq,Int.reduceBNe]),(by simp only[*,go_sem,-a,-hJ,muA,msA,stA,smA,Int.reduceBEq,Int.reduceBNe]),(by simp only[*,go_sem,-a,-hJ,muA,msA,stA,smA,Int.reduceBEq,Int.reduceBNe]),fun y g=>by cases g;simp only[*,go_sem,-a,-hJ],(by simp only[*,go_sem,-a,-hJ,muA,msA,stA,smA,Int.reduceBEq,Int.reduceBNe]),(by simp only[*,go_sem,-a,-hJ,muA,msA,stA,smA,Int.reduceBEq,Int.reduceBNe]),rfl⟩
     ·obtain ⟨rfl,rfl⟩:=X rfl
      have ad:∃P S3,Wd M P S3 1 1:=by
       have e0:=hw.st.eq
       have e1:=j rfl
       rcases a7 with rfl|rfl
       ·have e2:=E rfl rfl
        have ao:=u (by simp)
        exact ⟨C,0,wd ⟨by omega,by omega,by omega,by omega⟩ (by omega)⟩
       ·have e2:=x (.inr rfl)
        cases sv
        ·have ao:=u (by simp)
         exact ⟨C+1,0,wd ⟨by omega,by omega,by omega,by omega⟩ (by omega)⟩
        ·have ao:=N rfl rfl
         exact ⟨C+1,1,wd ⟨by omega,by omega,by omega,by omega⟩ (by omega)⟩
      obtain ⟨P,S3,ad⟩:=ad
      have b2:dN M 2=2:=ad.a2
      have n2:qR M 2=ae:=by rw[T rfl,ad.n2];rfl
      clear j r x E N u T U
      repeat refine az (a _) ?_
      refine aV a fun K b=>?_
      refine ai.bu (hJ _ rfl) 1 (n:=0) _ rfl rfl ?_;simp only[*,go_sem,-b,-a,-hJ,muA,msA,stA,smA,Int.reduceBEq,Int.reduceBNe]
      refine ai.nil a (b _ _ _ ?_);clear b K
      repeat refine az (a _) ?_
      refine cQ (a _) (by simp only[*,go_sem,-a,-hJ,Int.reduceBEq,Int.reduceBNe]) ?_
      repeat refine az (a _) ?_
      refine aV a fun K b=>?_
      refine ai.bu (hJ _ rfl) 3 (n:=0) _ rfl rfl ?_;simp only[*,go_sem,-b,-a,-hJ,muA,msA,stA,smA,Int.reduceBEq,Int.reduceBNe]
      refine ai.nil a (b _ _ _ ?_);clear b K
      repeat refine az (a _) ?_
      refine cx (a _) (by simp only[*,go_sem,-a,-hJ,Int.reduceBEq,Int.reduceBNe]) ?_
      refine cA (a _) ?_
      repeat refine az (a _) ?_
      refine aV a fun K b=>?_
      refine ai.bu (hJ _ rfl) 3 (n:=0) _ rfl rfl ?_;simp only[*,go_sem,-b,-a,-hJ,muA,msA,stA,smA,Int.reduceBEq,Int.reduceBNe]
      refine ai.nil a (b _ _ _ ?_);clear b K
      exact ey ⟨rfl,(by simp only[*,go_sem,-a,-hJ,muA,msA,stA,smA,Int.reduceBEq,Int.reduceBNe]),(by simp only[*,go_sem,-a,-hJ,muA,msA,stA,smA,Int.reduceBEq,Int.reduceBNe]),(by simp only[*,go_sem,-a,-hJ,muA,msA,stA,smA,Int.reduceBEq,Int.reduceBNe]),(by simp only[*,go_sem,-a,-hJ,muA,msA,stA,smA,Int.reduceBEq,Int.reduceBNe]),(by simp only[*,go_sem,-a,-hJ,muA,msA,stA,smA,Int.reduceBEq,Int.reduceBNe]),(by simp only[*,go_sem,-a,-hJ,muA,msA,stA,smA,Int.reduceBEq,Int.reduceBNe]),fun y g=>by cases g;simp only[*,go_sem,-a,-hJ],(by simp only[*,go_sem,-a,-hJ,muA,msA,stA,smA,Int.reduceBEq,Int.reduceBNe]),(by simp only[*,go_sem,-a,-hJ,muA,msA,stA,smA,Int.reduceBEq,Int.reduceBNe]),rfl⟩
    clear f k o z D I q d hd
    rintro A c ab ⟨rfl,f,k,o,z,D,I,q,d,hd,rfl⟩
    replace q:=q _ rfl
    repeat refine az (a _) ?_
    refine aV a fun K b=>?_
    refine ai.bu (hJ _ rfl) 5 (n:=1) _ rfl rfl ?_;simp only[*,go_sem,-b,-a,-hJ,muA,msA,stA,smA,Int.reduceBEq,Int.reduceBNe]
    refine uv old ae um a6 ⟨_,_,_,rfl,(by first|(simp only[*,go_sem,-b,-a,-hJ];done)|rfl),rfl,by first|(simp only[*,go_sem,-b,-a,-hJ,muA,msA,stA,smA,Int.reduceBEq,Int.reduceBNe];done)|(simp only[*,go_sem,-b,-a,-hJ,muA,msA,stA,smA,Int.reduceBEq,Int.reduceBNe];rfl),rfl⟩ (by rfl) (by simp) (fun φ ms bz al bS Z p he hi hm=>?_) (fun φ mu ms bz al bS Z p he hi hm df=>?_)
    ·obtain ⟨rfl,rfl,rfl,rfl⟩:=hm.st.uniq hw.st
     by_cases Y:al=0/\Z=0
     ·obtain ⟨rfl,rfl⟩:=Y
      have O:ae=old+1 - (if aw then 2 else 0):=by
       have e1:=j rfl
       have e2:=E rfl rfl
       have ao:=u (by simp)
       cases aw
       ·have O:=U rfl
        simp;omega
       ·have O:=T rfl
        simp;omega
      have b5:dN old 5=0:=hw.a5
      refine ⟨.held,by rw[O];exact ⟨_,_,_,_,p,Ja hm hi _ (by rw[he]) rfl rfl rfl (fun e=>(X e).2)⟩,?_⟩
      clear j r x E N u T U O he hi hm V X cS a7 bd
      refine ai.nil a (b _ _ _ ?_);clear b K
      repeat refine az (a _) ?_
      refine cQ (a _) (by simp only[*,go_sem,-a,-hJ,Int.reduceBEq,Int.reduceBNe]) ?_
      repeat refine az (a _) ?_
      refine aV a fun K b=>?_
      refine ai.bu (hJ _ rfl) 3 (n:=0) _ rfl rfl ?_;simp only[*,go_sem,-b,-a,-hJ,muA,msA,stA,smA,Int.reduceBEq,Int.reduceBNe]
      refine ai.nil a (b _ _ _ ?_);clear b K
      repeat refine az (a _) ?_
      refine cQ (a _) (by simp only[*,go_sem,-a,-hJ,Int.reduceBEq,Int.reduceBNe]) ?_
      refine oZ ?_
      change uB Mu st c _ _ _
      exact ⟨rfl,(by simp only[*,go_sem,-a,-hJ,muA,msA,stA,smA,Int.reduceBEq,Int.reduceBNe]),(by simp only[*,go_sem,-a,-hJ,muA,msA,stA,smA,Int.reduceBEq,Int.reduceBNe]),(by simp only[*,go_sem,-a,-hJ,muA,msA,stA,smA,Int.reduceBEq,Int.reduceBNe]),rfl⟩
     ·have cl:al=1\/Z=1:=by omega
      have O:ae=old+8+(if sv then 4 else 0) - (if aw then 2 else 0):=by
       have e2:=x cl
       rcases cS with rfl|rfl
       ·have e1:=j rfl
        obtain rfl:Z=1:=by omega
        cases sv
        ·have ao:=u (by simp)
         cases aw
         ·have O:=U rfl
          simp;omega
         ·have O:=T rfl
          simp;omega
        ·obtain rfl:aw=true:=V rfl
         have ao:=N rfl rfl
         have O:=T rfl
         simp;omega
       ·have ec:aw=false:=by
         cases aw
         ·rfl
         ·exact absurd (X rfl).1 (by omega)
        subst ec
        have ed:sv=false:=by
         cases sv
         ·rfl
         ·exact absurd (V rfl) (by simp)
        subst ed
        have e1:=r rfl
        have ao:=u (by simp)
        have O:=U rfl
        simp;omega
      have dk:sv=true->aw=true/\Z=1:=fun e=>⟨V e,by have:=X (V e);omega⟩
      have dp:bM n φ ms<=G:=(hm.seen i hi (some old) G (by rw[he];rfl)).1
      have b5:=hw.a5
      have cd:(((4*al+Z:Nat):Int)==0)=false:=by simp;omega
      refine ⟨.iG (bM n φ ms),by rw[O];exact ⟨_,_,_,_,p,Jb hm hi _ (by rw[he]) rfl cl dk⟩,?_⟩
      clear j r x E N u T U O he hi hm V X cS a7 bd Y cl dk
      revert dp
      generalize bM n φ ms=B
      intro dp
      refine ai.nil a (b _ _ _ ?_);clear b K
      repeat refine az (a _) ?_
      refine cQ (a _) (by simp only[*,go_sem,-a,-hJ,Int.reduceBEq,Int.reduceBNe]) ?_
      repeat refine az (a _) ?_
      refine aV a fun K b=>?_
      refine ai.bu (hJ _ rfl) 3 (n:=0) _ rfl rfl ?_;simp only[*,go_sem,-b,-a,-hJ,muA,msA,stA,smA,Int.reduceBEq,Int.reduceBNe]
      refine ai.nil a (b _ _ _ ?_);clear b K
      repeat refine az (a _) ?_
      refine cx (a _) (by simp only[*,go_sem,-a,-hJ,Int.reduceBEq,Int.reduceBNe]) ?_
      refine cA (a _) ?_
      repeat refine az (a _) ?_
      refine aV a fun K b=>?_
      refine ai.bu (hJ _ rfl) 3 (n:=0) _ rfl rfl ?_;simp only[*,go_sem,-b,-a,-hJ,muA,msA,stA,smA,Int.reduceBEq,Int.reduceBNe]
      refine ai.nil a (b _ _ _ ?_);clear b K
      repeat refine az (a _) ?_
      refine aV a fun K b=>?_
      refine ai.bu (hJ _ rfl) 2 (n:=0) _ rfl rfl ?_;simp only[*,go_sem,-b,-a,-hJ,muA,msA,stA,smA,Int.reduceBEq,Int.reduceBNe]
      refine ai.nil a (b _ _ _ ?_);clear b K
      first|refine kZ a (Dj Mu st c sv (.iG B)) ?_ ?_|refine uz a (Dj Mu st c sv (.iG B)) ?_ ?_
      ·cases fp:(wt==0)
       ·repeat refine az (a _) ?_
        refine cx (a _) (by simp only[*,go_sem,-a,-hJ,Int.reduceBEq,Int.reduceBNe]) ?_
        refine cA (a _) ?_
        exact ey ⟨wt,rfl,(by simp only[*,go_sem,-a,-hJ,muA,msA,stA,smA,Int.reduceBEq,Int.reduceBNe]),(by simp only[*,go_sem,-a,-hJ,muA,msA,stA,smA,Int.reduceBEq,Int.reduceBNe]),(by simp only[*,go_sem,-a,-hJ,muA,msA,stA,smA,Int.reduceBEq,Int.reduceBNe]),(by simp only[*,go_sem,-a,-hJ,muA,msA,stA,smA,Int.reduceBEq,Int.reduceBNe]),(by simp only[*,go_sem,-a,-hJ,muA,msA,stA,smA,Int.reduceBEq,Int.reduceBNe]),rfl⟩
       ·repeat refine az (a _) ?_
        refine cQ (a _) (by simp only[*,go_sem,-a,-hJ,Int.reduceBEq,Int.reduceBNe]) ?_
        repeat refine az (a _) ?_
        refine aV a fun K b=>?_
        refine Di C6 Db ⟨_,_,_,rfl,(by first|(simp only[*,go_sem,-b,-a,-hJ];done)|rfl),rfl,by first|(simp only[*,go_sem,-b,-a,-hJ,muA,msA,stA,smA,Int.reduceBEq,Int.reduceBNe];done)|(simp only[*,go_sem,-b,-a,-hJ,muA,msA,stA,smA,Int.reduceBEq,Int.reduceBNe];rfl),rfl⟩ (by simp) fun t=>?_
        refine ai.bu (hJ _ rfl) 1 (n:=0) _ rfl rfl ?_;simp only[*,go_sem,-b,-a,-hJ,muA,msA,stA,smA,Int.reduceBEq,Int.reduceBNe]
        refine ai.nil a (b _ _ _ ?_);clear b K
        exact ey ⟨t,rfl,(by simp only[*,go_sem,-a,-hJ,muA,msA,stA,smA,Int.reduceBEq,Int.reduceBNe]),(by simp only[*,go_sem,-a,-hJ,muA,msA,stA,smA,Int.reduceBEq,Int.reduceBNe]),(by simp only[*,go_sem,-a,-hJ,muA,msA,stA,smA,Int.reduceBEq,Int.reduceBNe]),(by simp only[*,go_sem,-a,-hJ,muA,msA,stA,smA,Int.reduceBEq,Int.reduceBNe]),(by simp only[*,go_sem,-a,-hJ,muA,msA,stA,smA,Int.reduceBEq,Int.reduceBNe]),rfl⟩
      clear f k o z D I q d hd b5 cd
      rintro A c ab ⟨dq,rfl,f,k,o,d,hd,rfl⟩
      repeat refine az (a _) ?_
      refine aV a fun K b=>?_
      refine ai.bu (hJ _ rfl) 4 (n:=1) _ rfl rfl ?_;simp only[*,go_sem,-b,-a,-hJ,muA,msA,stA,smA,Int.reduceBEq,Int.reduceBNe]
      refine J6 (slot A 8) (.int .i64 2) JO a6 ⟨_,_,_,rfl,(by first|(simp only[*,go_sem,-b,-a,-hJ];done)|rfl),rfl,by first|(simp only[*,go_sem,-b,-a,-hJ,muA,msA,stA,smA,Int.reduceBEq,Int.reduceBNe];done)|(simp only[*,go_sem,-b,-a,-hJ,muA,msA,stA,smA,Int.reduceBEq,Int.reduceBNe];rfl),rfl⟩ (by rfl) rfl ?_
      refine ai.nil a (b _ _ _ ?_);clear b K
      first|refine kZ a (Dk Mu st c (.jT B)) ?_ ?_|refine uz a (Dk Mu st c (.jT B)) ?_ ?_
      ·cases sv
       ·repeat refine az (a _) ?_
        refine aV a fun K b=>?_
        refine ai.bu (hJ _ rfl) 2 (n:=6) _ rfl rfl ?_;simp only[*,go_sem,-b,-a,-hJ,muA,msA,stA,smA,Int.reduceBEq,Int.reduceBNe]
        refine Di C6 Db ⟨_,_,_,rfl,(by first|(simp only[*,go_sem,-b,-a,-hJ];done)|rfl),rfl,by first|(simp only[*,go_sem,-b,-a,-hJ,muA,msA,stA,smA,Int.reduceBEq,Int.reduceBNe];done)|(simp only[*,go_sem,-b,-a,-hJ,muA,msA,stA,smA,Int.reduceBEq,Int.reduceBNe];rfl),rfl⟩ (by simp) fun t=>?_
        refine ai.bu (hJ _ rfl) 5 (n:=0) _ rfl rfl ?_;simp only[*,go_sem,-b,-a,-hJ,muA,msA,stA,smA,Int.reduceBEq,Int.reduceBNe]
        refine ai.nil a (b _ _ _ ?_);clear b K
        exact ey ⟨dq,_,rfl,(by simp only[*,go_sem,-a,-hJ,muA,msA,stA,smA,Int.reduceBEq,Int.reduceBNe]),(by simp only[*,go_sem,-a,-hJ,muA,msA,stA,smA,Int.reduceBEq,Int.reduceBNe]),(by simp only[*,go_sem,-a,-hJ,muA,msA,stA,smA,Int.reduceBEq,Int.reduceBNe];rfl),(by simp only[*,go_sem,-a,-hJ,muA,msA,stA,smA,Int.reduceBEq,Int.reduceBNe]),(by simp only[*,go_sem,-a,-hJ,muA,msA,stA,smA,Int.reduceBEq,Int.reduceBNe]),rfl⟩
       ·repeat refine az (a _) ?_
        refine aV a fun K b=>?_
        refine ai.bu (hJ _ rfl) 8 (n:=0) _ rfl rfl ?_;simp only[*,go_sem,-b,-a,-hJ,muA,msA,stA,smA,Int.reduceBEq,Int.reduceBNe]
        refine ai.nil a (b _ _ _ ?_);clear b K
        exact ey ⟨dq,true,rfl,(by simp only[*,go_sem,-a,-hJ,muA,msA,stA,smA,Int.reduceBEq,Int.reduceBNe]),(by simp only[*,go_sem,-a,-hJ,muA,msA,stA,smA,Int.reduceBEq,Int.reduceBNe]),(by simp only[*,go_sem,-a,-hJ,muA,msA,stA,smA,Int.reduceBEq,Int.reduceBNe]),(by simp only[*,go_sem,-a,-hJ,muA,msA,stA,smA,Int.reduceBEq,Int.reduceBNe]),(by simp only[*,go_sem,-a,-hJ,muA,msA,stA,smA,Int.reduceBEq,Int.reduceBNe]),rfl⟩
      clear f k o d hd
      rintro A c ab ⟨eh,ds,rfl,f,k,o,d,hd,rfl⟩
      repeat refine az (a _) ?_
      refine aV a fun K b=>?_
      refine ai.bu (hJ _ rfl) 3 (n:=2) _ rfl rfl ?_;simp only[*,go_sem,-b,-a,-hJ,muA,msA,stA,smA,Int.reduceBEq,Int.reduceBNe]
      refine o7 uo o5 ⟨_,rfl,(by first|(simp only[*,go_sem,-b,-a,-hJ];done)|rfl),rfl,rfl⟩ (by rfl) (by simp only[*,go_sem,-b,-a,-hJ,muA,msA,stA,smA,Int.reduceBEq,Int.reduceBNe]) (fun φ mu ms H ba cy c0 bm he hi hm=>?_)
      have dt:H<=3*n:=hm.bound
      have ar:=wd hm.st (by omega)
      rcases (by have:=hm.st.s;omega:ba=0\/ba=1) with rfl|rfl
      ·obtain ⟨J,rfl,da⟩:=Jd hm hi {mp:=.want true mu (bM n φ ms),gp:=.cnt,stored:=st,deaf:=1} (by rw[he]) rfl rfl
       have fq:bM n φ ms<B:=da
       refine ⟨.want true mu (bM n φ ms),⟨_,_,_,_,bm,J⟩,?_⟩
       have b4:dN mu 4=0:=ar.a4
       clear J da
       refine ai.bu (hJ _ rfl) 1 (n:=0) _ rfl rfl ?_;simp only[*,go_sem,-b,-a,-hJ,muA,msA,stA,smA,Int.reduceBEq,Int.reduceBNe]
       refine ai.nil a (b _ _ _ ?_);clear b K
       repeat refine az (a _) ?_
       refine aV a fun K b=>?_
       refine ai.bu (hJ _ rfl) 3 (n:=0) _ rfl rfl ?_;simp only[*,go_sem,-b,-a,-hJ,muA,msA,stA,smA,Int.reduceBEq,Int.reduceBNe]
       refine ai.nil a (b _ _ _ ?_);clear b K
       repeat refine az (a _) ?_
       refine cx (a _) (by simp only[*,go_sem,-a,-hJ,Int.reduceBEq,Int.reduceBNe]) ?_
       refine cA (a _) ?_
       repeat refine az (a _) ?_
       refine aV a fun K b=>?_
       refine ai.bu (hJ _ rfl) 1 (n:=0) _ rfl rfl ?_;simp only[*,go_sem,-b,-a,-hJ,muA,msA,stA,smA,Int.reduceBEq,Int.reduceBNe]
       refine ai.nil a (b _ _ _ ?_);clear b K
       repeat refine az (a _) ?_
       refine aV a fun K b=>?_
       refine ai.bu (hJ _ rfl) 1 (n:=0) _ rfl rfl ?_;simp only[*,go_sem,-b,-a,-hJ,muA,msA,stA,smA,Int.reduceBEq,Int.reduceBNe]
       refine ai.nil a (b _ _ _ ?_);clear b K
       change ∃p,p<m/\uA Mu n st c p _ _ _
       exact ⟨8*bM n φ ms+5,by omega,eh,0,mu,ds,true,H,0,1,c0,bM n φ ms,rfl,(by simp only[*,go_sem,-a,-hJ,muA,msA,stA,smA,Int.reduceBEq,Int.reduceBNe]),(by simp only[*,go_sem,-a,-hJ,muA,msA,stA,smA,Int.reduceBEq,Int.reduceBNe]),(by simp only[*,go_sem,-a,-hJ,muA,msA,stA,smA,Int.reduceBEq,Int.reduceBNe]),(by simp only[*,go_sem,-a,-hJ,muA,msA,stA,smA,Int.reduceBEq,Int.reduceBNe]),(by simp only[*,go_sem,-a,-hJ,muA,msA,stA,smA,Int.reduceBEq,Int.reduceBNe]),(by simp only[*,go_sem,-a,-hJ,muA,msA,stA,smA,Int.reduceBEq,Int.reduceBNe]),(by simp only[*,go_sem,-a,-hJ,muA,msA,stA,smA,Int.reduceBEq,Int.reduceBNe]),(by simp only[*,go_sem,-a,-hJ,muA,msA,stA,smA,Int.reduceBEq,Int.reduceBNe]),ar,dt,by omega,by omega,fun _=>rfl,fun _=>⟨rfl,rfl⟩,by simp,rfl⟩
      ·obtain ⟨J,rfl,rfl,et⟩:=Je hm hi {mp:=.kW (decide (2<=H)),gp:=.cnt,stored:=st,deaf:=1} (by rw[he]) rfl rfl
       refine ⟨.kW (decide (2<=H)),⟨_,_,_,_,bm,J⟩,?_⟩
       have b4:dN mu 4=4:=ar.a4
       have b3:dN mu 3=0:=ar.a3
       have br:((H:Int)==0)=false:=by simp;omega
       have db:=ar.sh
       obtain ⟨y,g⟩:∃y,decide (2<=H)=y:=⟨_,rfl⟩
       have a0:((H:Int)==1)=false->y=true:=fun e=>by rw[<-g];simp at e ⊢;omega
       rw[g]
       clear J he hi hm ar dt et g
       refine ai.bu (hJ _ rfl) 1 (n:=0) _ rfl rfl ?_;simp only[*,go_sem,-b,-a,-hJ,muA,msA,stA,smA,Int.reduceBEq,Int.reduceBNe]
       refine ai.nil a (b _ _ _ ?_);clear b K
       repeat refine az (a _) ?_
       refine aV a fun K b=>?_
       refine ai.bu (hJ _ rfl) 3 (n:=0) _ rfl rfl ?_;simp only[*,go_sem,-b,-a,-hJ,muA,msA,stA,smA,Int.reduceBEq,Int.reduceBNe]
       refine ai.nil a (b _ _ _ ?_);clear b K
       repeat refine az (a _) ?_
       refine cQ (a _) (by simp only[*,go_sem,-a,-hJ,Int.reduceBEq,Int.reduceBNe]) ?_
       repeat refine az (a _) ?_
       refine aV a fun K b=>?_
       refine ai.bu (hJ _ rfl) 5 (n:=3) _ rfl rfl ?_;simp only[*,go_sem,-b,-a,-hJ,muA,msA,stA,smA,Int.reduceBEq,Int.reduceBNe]
       refine ai.nv mu (H:Int) (a _) ⟨_,rfl,(by first|(simp only[*,go_sem,-b,-a,-hJ];done)|rfl),rfl,rfl⟩ (by simp only[*,go_sem,-b,-a,-hJ,muA,msA,stA,smA,Int.reduceBEq,Int.reduceBNe]) (by simp only[*,go_sem,-b,-a,-hJ,muA,msA,stA,smA,Int.reduceBEq,Int.reduceBNe]) db ?_
       refine ai.bu (hJ _ rfl) 2 (n:=0) _ rfl rfl ?_;simp only[*,go_sem,-b,-a,-hJ,muA,msA,stA,smA,Int.reduceBEq,Int.reduceBNe]
       refine ai.nil a (b _ _ _ ?_);clear b K
       repeat refine az (a _) ?_
       refine cx (a _) (by simp only[*,go_sem,-a,-hJ,Int.reduceBEq,Int.reduceBNe]) ?_
       refine cA (a _) ?_
       repeat refine az (a _) ?_
       refine aV a fun K b=>?_
       refine ai.bu (hJ _ rfl) 1 (n:=0) _ rfl rfl ?_;simp only[*,go_sem,-b,-a,-hJ,muA,msA,stA,smA,Int.reduceBEq,Int.reduceBNe]
       refine ai.nil a (b _ _ _ ?_);clear b K
       repeat refine az (a _) ?_
       refine uz a (Kg Mu st c y) ?_ ?_
       ·cases ds
        ·repeat refine az (a _) ?_
         refine aV a fun K b=>?_
         refine ai.bu (hJ _ rfl) 7 (n:=0) _ rfl rfl ?_;simp only[*,go_sem,-b,-a,-hJ,muA,msA,stA,smA,Int.reduceBEq,Int.reduceBNe]
         refine ai.nil a (b _ _ _ ?_);clear b K
         exact ey ⟨true,rfl,(by simp only[*,go_sem,-a,-hJ,muA,msA,stA,smA,Int.reduceBEq,Int.reduceBNe]),(by simp only[*,go_sem,-a,-hJ,muA,msA,stA,smA,Int.reduceBEq,Int.reduceBNe]),(by simp only[*,go_sem,-a,-hJ,muA,msA,stA,smA,Int.reduceBEq,Int.reduceBNe]),(by simp only[*,go_sem,-a,-hJ,muA,msA,stA,smA,Int.reduceBEq,Int.reduceBNe]),(by simp only[*,go_sem,-a,-hJ,muA,msA,stA,smA,Int.reduceBEq,Int.reduceBNe]),by simp,rfl⟩
        ·repeat refine az (a _) ?_
         refine aV a fun K b=>?_
         refine ai.bu (hJ _ rfl) 4 (n:=3) _ rfl rfl ?_;simp only[*,go_sem,-b,-a,-hJ,muA,msA,stA,smA,Int.reduceBEq,Int.reduceBNe]
         refine ai.nv mu (H:Int) (a _) ⟨_,rfl,(by first|(simp only[*,go_sem,-b,-a,-hJ];done)|rfl),rfl,rfl⟩ (by simp only[*,go_sem,-b,-a,-hJ,muA,msA,stA,smA,Int.reduceBEq,Int.reduceBNe]) (by simp only[*,go_sem,-b,-a,-hJ,muA,msA,stA,smA,Int.reduceBEq,Int.reduceBNe]) db ?_
         refine ai.bu (hJ _ rfl) 2 (n:=0) _ rfl rfl ?_;simp only[*,go_sem,-b,-a,-hJ,muA,msA,stA,smA,Int.reduceBEq,Int.reduceBNe]
         refine ai.nil a (b _ _ _ ?_);clear b K
         exact ey ⟨(H:Int)==1,rfl,(by simp only[*,go_sem,-a,-hJ,muA,msA,stA,smA,Int.reduceBEq,Int.reduceBNe]),(by simp only[*,go_sem,-a,-hJ,muA,msA,stA,smA,Int.reduceBEq,Int.reduceBNe]),(by simp only[*,go_sem,-a,-hJ,muA,msA,stA,smA,Int.reduceBEq,Int.reduceBNe]),(by simp only[*,go_sem,-a,-hJ,muA,msA,stA,smA,Int.reduceBEq,Int.reduceBNe]),(by simp only[*,go_sem,-a,-hJ,muA,msA,stA,smA,Int.reduceBEq,Int.reduceBNe]),a0,rfl⟩
       clear f k o d hd b4 b3 br db a0
       rintro A c ab ⟨e,rfl,f,fr,fs,d,hd,a0,rfl⟩
       cases e
       ·obtain rfl:=a0 rfl
        clear a0
        repeat refine az (a _) ?_
        refine cx (a _) (by simp only[*,go_sem,-a,-hJ,Int.reduceBEq,Int.reduceBNe]) ?_
        refine cA (a _) ?_
        repeat refine az (a _) ?_
        refine aV a fun K b=>?_
        refine ai.bu (hJ _ rfl) 4 (n:=1) _ rfl rfl ?_;simp only[*,go_sem,-b,-a,-hJ,muA,msA,stA,smA,Int.reduceBEq,Int.reduceBNe]
        refine yK (-7) yy a6 ⟨_,_,_,rfl,(by first|(simp only[*,go_sem,-b,-a,-hJ];done)|rfl),rfl,by first|(simp only[*,go_sem,-b,-a,-hJ,muA,msA,stA,smA,Int.reduceBEq,Int.reduceBNe];done)|(simp only[*,go_sem,-b,-a,-hJ,muA,msA,stA,smA,Int.reduceBEq,Int.reduceBNe];rfl),rfl⟩ (by rfl) (by simp) (fun φ mu ms P S3 bl b0 b1 he hi hm=>⟨.held,_,?_,⟨_,_,_,_,_,CE hm hi {mp:=.held,gp:=.cnt,stored:=st,deaf:=1} false (by rw[he]) rfl (fun _=>rfl)⟩,?_⟩)
        ·have e0:=hm.st.eq
         have a9:P<=3*n:=hm.bound
         have ev:=hm.st.s
         have eQ:=hm.st.w
         have eS:=hm.st.l
         rw[iI (by omega) (by omega)]
         simp;omega
        refine ai.nil a (b _ _ _ ?_);clear b K
        refine oZ ?_
        change uB Mu st c _ _ _
        exact ⟨rfl,(by simp only[*,go_sem,-a,-hJ,muA,msA,stA,smA,Int.reduceBEq,Int.reduceBNe]),(by simp only[*,go_sem,-a,-hJ,muA,msA,stA,smA,Int.reduceBEq,Int.reduceBNe]),(by simp only[*,go_sem,-a,-hJ,muA,msA,stA,smA,Int.reduceBEq,Int.reduceBNe]),rfl⟩
       ·clear a0
        repeat refine az (a _) ?_
        refine cQ (a _) (by simp only[*,go_sem,-a,-hJ,Int.reduceBEq,Int.reduceBNe]) ?_
        repeat refine az (a _) ?_
        refine aV a fun K b=>?_
        refine ai.bu (hJ _ rfl) 3 (n:=0) _ rfl rfl ?_;simp only[*,go_sem,-b,-a,-hJ,muA,msA,stA,smA,Int.reduceBEq,Int.reduceBNe]
        refine ai.nil a (b _ _ _ ?_);clear b K
        repeat refine az (a _) ?_
        refine aV a fun K b=>?_
        refine ai.bu (hJ _ rfl) 4 (n:=1) _ rfl rfl ?_;simp only[*,go_sem,-b,-a,-hJ,muA,msA,stA,smA,Int.reduceBEq,Int.reduceBNe]
        refine yK (-11) yy a6 ⟨_,_,_,rfl,(by first|(simp only[*,go_sem,-b,-a,-hJ];done)|rfl),rfl,by first|(simp only[*,go_sem,-b,-a,-hJ,muA,msA,stA,smA,Int.reduceBEq,Int.reduceBNe];done)|(simp only[*,go_sem,-b,-a,-hJ,muA,msA,stA,smA,Int.reduceBEq,Int.reduceBNe];rfl),rfl⟩ (by rfl) (by simp) (fun φ mu ms P S3 bl b0 b1 he hi hm=>⟨.held,_,?_,⟨_,_,_,_,_,CE hm hi {mp:=.held,gp:=.cnt,stored:=st,deaf:=1} true (by rw[he]) rfl (by simp)⟩,?_⟩)
        ·have e0:=hm.st.eq
         have a9:P<=3*n:=hm.bound
         have ev:=hm.st.s
         have eQ:=hm.st.w
         have eS:=hm.st.l
         rw[iI (by omega) (by omega)]
         simp;omega
        refine ai.nil a (b _ _ _ ?_);clear b K
        refine oZ ?_
        change uB Mu st c _ _ _
        exact ⟨rfl,(by simp only[*,go_sem,-a,-hJ,muA,msA,stA,smA,Int.reduceBEq,Int.reduceBNe]),(by simp only[*,go_sem,-a,-hJ,muA,msA,stA,smA,Int.reduceBEq,Int.reduceBNe]),(by simp only[*,go_sem,-a,-hJ,muA,msA,stA,smA,Int.reduceBEq,Int.reduceBNe]),rfl⟩
    ·obtain ⟨J,a8,bj⟩:=tX hm hi {mp:=.want aw mu (bM n φ ms),gp:=.cnt,stored:=st,deaf:=1} (by rw[he]) rfl
     have da:bM n φ ms<G:=bj df
     refine ⟨.want aw mu (bM n φ ms),⟨_,_,_,_,p,J⟩,?_⟩
     clear j r x E N u T U J a8 bj he hi hm X cS a7 bd
     refine ai.nil a (b _ _ _ ?_);clear b K
     repeat refine az (a _) ?_
     refine cx (a _) (by simp only[*,go_sem,-a,-hJ,Int.reduceBEq,Int.reduceBNe]) ?_
     repeat refine az (a _) ?_
     refine aV a fun K b=>?_
     refine ai.bu (hJ _ rfl) 3 (n:=2) _ rfl rfl ?_;simp only[*,go_sem,-b,-a,-hJ,muA,msA,stA,smA,Int.reduceBEq,Int.reduceBNe]
     refine o7 uo o5 ⟨_,rfl,(by first|(simp only[*,go_sem,-b,-a,-hJ];done)|rfl),rfl,rfl⟩ (by rfl) (by simp only[*,go_sem,-b,-a,-hJ,muA,msA,stA,smA,Int.reduceBEq,Int.reduceBNe]) (fun bb dd bc H ba cy c0 bm du dv bo=>?_)
     obtain ⟨ca,dC,_⟩:=tX bo dv {mp:=.want aw dd (bM n bb bc),gp:=.cnt,stored:=st,deaf:=1} (by rw[du]) rfl
     have ft:bM n bb bc<=bM n φ ms:=dC
     have a9:H<=3*n:=bo.bound
     have ad:=wd bo.st (by omega)
     have cb:aw=true->ba=0/\cy=1:=fun e=>by subst e;exact CD bo dv (by rw[du])
     refine ⟨.want aw dd (bM n bb bc),⟨_,_,_,_,bm,ca⟩,?_⟩
     clear ca dC
     refine ai.bu (hJ _ rfl) 1 (n:=0) _ rfl rfl ?_;simp only[*,go_sem,-b,-a,-hJ,muA,msA,stA,smA,Int.reduceBEq,Int.reduceBNe]
     refine ai.nil a (b _ _ _ ?_);clear b K
     change ∃p,p<m/\uA Mu n st c p _ _ _
     exact ⟨8*bM n bb bc+(5 - it).toNat,by omega,wt,it,dd,sv,aw,H,ba,cy,c0,bM n bb bc,rfl,(by simp only[*,go_sem,-a,-hJ,muA,msA,stA,smA,Int.reduceBEq,Int.reduceBNe]),(by simp only[*,go_sem,-a,-hJ,muA,msA,stA,smA,Int.reduceBEq,Int.reduceBNe]),(by simp only[*,go_sem,-a,-hJ,muA,msA,stA,smA,Int.reduceBEq,Int.reduceBNe]),(by simp only[*,go_sem,-a,-hJ,muA,msA,stA,smA,Int.reduceBEq,Int.reduceBNe]),(by simp only[*,go_sem,-a,-hJ,muA,msA,stA,smA,Int.reduceBEq,Int.reduceBNe]),(by simp only[*,go_sem,-a,-hJ,muA,msA,stA,smA,Int.reduceBEq,Int.reduceBNe]),(by simp only[*,go_sem,-a,-hJ,muA,msA,stA,smA,Int.reduceBEq,Int.reduceBNe]),(by simp only[*,go_sem,-a,-hJ,muA,msA,stA,smA,Int.reduceBEq,Int.reduceBNe]),ad,a9,by omega,by omega,V,cb,Nat.le_refl _,rfl⟩
 ·rintro A F' aI ⟨rfl,f,d,hd,rfl⟩
  repeat refine az (a _) ?_
  refine cQ (a _) (by simp only[*,go_sem,-a,-hJ,Int.reduceBEq,Int.reduceBNe]) ?_
  repeat refine az (a _) ?_
  refine aV a fun K b=>?_
  refine uu l8 ⟨_,_,_,rfl,(by first|(simp only[*,go_sem,-b,-a,-hJ];done)|rfl),rfl,by first|(simp only[*,go_sem,-b,-a,-hJ,muA,msA,stA,smA,Int.reduceBEq,Int.reduceBNe];done)|(simp only[*,go_sem,-b,-a,-hJ,muA,msA,stA,smA,Int.reduceBEq,Int.reduceBNe];rfl),rfl⟩ (by simp) (by simp) rfl ?_
  refine ai.nil a (b _ _ _ ?_);clear b K
  repeat refine az (a _) ?_
  refine aV a fun K b=>?_
  refine ai.bu (hJ _ rfl) 1 (n:=2) _ rfl rfl ?_;simp only[*,go_sem,-b,-a,-hJ,muA,msA,stA,smA,Int.reduceBEq,Int.reduceBNe]
  refine uw ⟨Mu,0,none⟩ yA l9 yC ⟨_,rfl,(by first|(simp only[*,go_sem,-b,-a,-hJ];done)|rfl),rfl,rfl⟩ (by simp) (by simp only[*,go_sem,-b,-a,-hJ,muA,msA,stA,smA,Int.reduceBEq,Int.reduceBNe]) yL ?_
  refine Dg uk ⟨_,_,_,rfl,(by first|(simp only[*,go_sem,-b,-a,-hJ];done)|rfl),rfl,by first|(simp only[*,go_sem,-b,-a,-hJ,muA,msA,stA,smA,Int.reduceBEq,Int.reduceBNe];done)|(simp only[*,go_sem,-b,-a,-hJ,muA,msA,stA,smA,Int.reduceBEq,Int.reduceBNe];rfl),rfl⟩ (by rfl) ?_
  refine ai.nil a (b _ _ _ ?_);clear b K
  exact l6 rfl (by simp only[*,go_sem,-a,-hJ]) ⟨rfl,rfl,rfl⟩
end
end Go.Proofs.YtjepffnffjdloaaGreatDoor
end
section
namespace Go.Proofs.YtjepffnffjdloaaGreatDoor
open Go Go.Sep Go.Proofs Go.Conc
open Go.ConcN (upd upd_same)
open Go.ConcM (muA msA)
open Go.ConcR (stA smA)
set_option maxRecDepth 100000
set_option maxHeartbeats 4000000
section
variable {Mu Wg Is n base T0 i : Nat} {bs : Nat → Bool} {st : Bool} {F : af}
theorem Ki (b:Mu≠Wg/\Mu≠Is/\Wg≠Is)(hn:n<67108864):
  cz Tryz.prog (WJ (CY Mu Wg Is n bs base T0) i) 120 #[.pointer (some (muA Mu))] F ⟨.idle,.cnt,st,0⟩ (fun v F' aI=>v= .tuple #[]/\F'=F/\aI=⟨.held,.cnt,st,0⟩):=by
 have a:=WJ.ek (CY Mu Wg Is n bs base T0) i
 have hJ:∀ph:Ph,ph.gp= .cnt->Go.Sep.Closed Tryz.prog false (WJ (CY Mu Wg Is n bs base T0) i ph):=fun ph h=>Wk.closed (CY Mu Wg Is n bs base T0) i ph h
 refine cz.go (main:=false) a Tryz.func120 rfl Tryz.ntmps120 (by simp) fun A d hd hs=>?_
 have e:=hs 0
 clear hs
 repeat refine az (a _) ?_
 refine cR a ?_
 refine ai.bu (hJ _ rfl) 3 (n:=1) _ rfl rfl ?_;simp only[*,go_sem,muA,msA,stA,smA,Int.reduceBEq,Int.reduceBNe]
 refine ai.gj (a _) rfl rfl rfl E4 (by simp only[*,go_sem,muA]) (J9 b (Kh b hn)) fun v F' aI c=>?_
 obtain ⟨rfl,rfl,rfl⟩:=c
 refine ai.nil a ?_
 exact l6 rfl (by simp only[*,go_sem]) ⟨rfl,rfl,rfl⟩
theorem Kj (b:Mu≠Wg/\Mu≠Is/\Wg≠Is)(hn:n<67108864):
  cz Tryz.prog (WJ (CY Mu Wg Is n bs base T0) i) 121 #[.pointer (some (muA Mu))] F ⟨.held,.cnt,st,0⟩ (fun v F' aI=>v= .tuple #[]/\F'=F/\aI=⟨.fin,.cnt,st,0⟩):=by
 have a:=WJ.ek (CY Mu Wg Is n bs base T0) i
 have hJ:∀ph:Ph,ph.gp= .cnt->Go.Sep.Closed Tryz.prog false (WJ (CY Mu Wg Is n bs base T0) i ph):=fun ph h=>Wk.closed (CY Mu Wg Is n bs base T0) i ph h
 refine cz.go (main:=false) a Tryz.func121 rfl Tryz.ntmps121 (by simp) fun A d hd hs=>?_
 have e:=hs 0
 clear hs
 repeat refine az (a _) ?_
 refine cR a ?_
 refine ai.bu (hJ _ rfl) 3 (n:=1) _ rfl rfl ?_;simp only[*,go_sem,muA,msA,stA,smA,Int.reduceBEq,Int.reduceBNe]
 refine ai.gj (a _) rfl rfl rfl E5 (by simp only[*,go_sem,muA]) (Kc b hn) fun v F' aI c=>?_
 obtain ⟨rfl,rfl,rfl⟩:=c
 refine ai.nil a ?_
 exact l6 rfl (by simp only[*,go_sem]) ⟨rfl,rfl,rfl⟩
end
end Go.Proofs.YtjepffnffjdloaaGreatDoor
end
section
namespace Go.Sep
open Go Go.Conc
def uC (op:BinOp)(u v:Value):Option Value:=match op with
 | .shl=>match u,v with
  | .int k a,.int _ b=>if b<0 then none else some (.int k (k.wrap (a*2 ^ min b.toNat k.bits)))
  |_,_=>none
 | .shr=>match u,v with
  | .int k a,.int _ b=>if b<0 then none else some (.int k (a.fdiv (2 ^ min b.toNat k.bits)))
  |_,_=>none
 |_=>nJ op u v
def o8 (P:Program)(op:Op)(a:Act):Option Value:=match op with
 | .move x| .assign x=>some (ev a x)
 | .nilCheck x=>match ev a x with
  | .pointer (some ad)=>some (.pointer (some ad))
  |_=>none
 | .pick c x y=>match ev a c with
  | .bool b=>some (if b then ev a x else ev a y)
  |_=>none
 | .binOp op t x y _=>uC op (ev a x) (ev a y)
 | .unOp op _ x=>mo op (ev a x)
 | .convert src dst x=>mw P src dst (ev a x)
 | .fieldAddr s x n=>match ev a x with
  | .pointer (some ad)=>match cG P s n with
   |some k=>some (.pointer (some (ad.add k)))
   |none=>none
  |_=>none
 |_=>none
theorem Kk {P:Program}{op:BinOp}{t:TypeId}{x y:Operand}{u v r:Value}(h:uC op u v=some r)(w:World):
  (do eqGuard op t x y u v;pure (.value (<-binOp op t u v)):Sem Next).run P w= .ok (.value r) w/\(do eqGuard op t x y u v;pure (.value (<-binOp op t u v)):Sem Next).events P w #[]=#[]:=by
 unfold uC at h
 split at h
 ·split at h
  case h_2=>cases h
  split at h
  ·cases h
  ·rename_i hb;cases h;simp[eqGuard,binOp,Op.shift,hb]
 ·split at h
  case h_2=>cases h
  split at h
  ·cases h
  ·rename_i hb;cases h;simp[eqGuard,binOp,Op.shift,hb]
 ·rename_i n1 n2
  unfold nJ at h
  split at h
  case h_2=>cases h
  rename_i k a d b
  split at h
  case isFalse=>cases h
  rename_i c
  subst c
  cases op<;>simp only[binOp,ne_eq,not_true_eq_false,if_false,Op.intArith,Op.intDiv,Op.intCmp,Op.intBits,Op.shift,eqGuard] at h ⊢<;>first
   |(cases h;done)
   |(exact absurd rfl n1)
   |(exact absurd rfl n2)
   |(cases h;simp;done)
   |(split at h
     ·cases h
     ·rename_i hb;cases h;simp[hb])
theorem Dl {P:Program}{o:Oper}{a:Act}{v:Value}(h:o8 P o.op a=some v)(w:World):(execOp a.eval o).run P w= .ok (.value v) w/\(execOp a.eval o).events P w #[]=#[]:=by
 obtain ⟨dst,op,type,pos,after,guard⟩:=o
 unfold execOp
 simp only[ez] at h ⊢
 unfold o8 at h
 cases op<;>simp only[reduceCtorEq] at h ⊢
 case move x=>cases h;simp
 case assign x=>cases h;simp
 case nilCheck x=>
  split at h
  ·rename_i ad e;cases h;simp[e]
  ·cases h
 case pick c x y=>
  split at h
  ·rename_i b hb;cases h;simp[hb,asBool]
  ·cases h
 case binOp op t x y r=>have:=Kk (P:=P) (t:=t) (x:=x) (y:=y) h w;simpa using this
 case unOp op t x=>
  revert h
  cases ev a x<;>cases op<;>simp only[mo,reduceCtorEq,false_implies,Option.some.injEq]<;>intro h<;>subst h<;>simp[Op.unary,Op.intArith]
 case convert src dst x=>
  revert h
  cases e:ev a x<;>simp only[mw,reduceCtorEq,false_implies]
  intro h
  split at h
  ·rename_i k1 u h1 h2
   cases h
   simp[convert,run_underlying h1,run_underlying h2,Conv.intToInt]
  ·cases h
 case fieldAddr s x n=>
  split at h
  case h_2=>cases h
  rename_i ad i
  split at h
  case h_2=>cases h
  rename_i k d
  cases h
  unfold cG at d
  split at d
  case h_2=>cases d
  rename_i fs g
  split at d
  case h_2=>cases d
  rename_i f j
  split at d
  case h_2=>cases d
  rename_i m hm
  cases d
  obtain ⟨inf,l,p⟩:=Option.map_eq_some_iff.1 hm
  have q:Instr.sureAddr (.pointer (some ad))=(Pure.pure ad:Sem Addr):=rfl
  simp[Instr.fieldAt,run_underlying g,g,j,i,q,fieldPlace,Go.sizeOf,typeInfo,l,p,Result.andThen,Result.evThen]
def iM (P:Program)(ops:Array Oper)(K:Act->Prop):List Oper->Act->Prop
 |[],a=>K a
 |o::rest,a=>match cu ops o a with
  |some true=>match o8 P o.op a with
   |some v=>iM P ops K rest (aX a o.dst v)
   |none=>False
  |some false=>iM P ops K rest (aX a o.dst undef)
  |none=>False
theorem Kl {P:Program}{ops:Array Oper}{K:Act->Prop}{a:Act}:iM P ops K [] a=K a:=(Eq.refl _).trans (Eq.refl _)
theorem Km {P:Program}{ops:Array Oper}{K:Act->Prop}{o:Oper}{rest:List Oper}{a:Act}:iM P ops K (o::rest) a=match cu ops o a with
  |some true=>match o8 P o.op a with
   |some v=>iM P ops K rest (aX a o.dst v)
   |none=>False
  |some false=>iM P ops K rest (aX a o.dst undef)
  |none=>False:=(Eq.refl _).trans (Eq.refl _)
attribute [go_sem] Kl Km o8 uC
section
variable {P : Program} {main : Bool} {S : Type} {JF : S → Goroutine → af → Prop} {fi : FuncId} {ops : Array Oper} {F : af} {ph : S} {Q : Act → af → S → Prop}
theorem yM (d:dO P main (JF ph)):∀(l:List Oper) (i n:Nat) (a:Act),(∀j o,l[j]?=some o->ops[i+j]?=some o)->iM P ops (fun b=>ai JF fi ops (i+l.length) n Q b F ph) l a->ai JF fi ops i (l.length+n) Q a F ph
 |[],i,n,a,_,h=>by rw[List.length_nil,Nat.zero_add];exact h
 |o::rest,i,n,a,k,h=>by
  have m:ops[i]?=some o:=k 0 o rfl
  have p:∀j x,rest[j]?=some x->ops[i+1+j]?=some x:=fun j x q=>by rw[Nat.add_assoc,Nat.add_comm 1 j];exact k (j+1) x q
  have e:(o::rest).length+n=(rest.length+n)+1:=by rw[List.length_cons];omega
  have e2:∀b,ai JF fi ops (i+(o::rest).length) n Q b F ph->ai JF fi ops (i+1+rest.length) n Q b F ph:=fun b x=>by
   rw[show i+1+rest.length=i+(o::rest).length by rw[List.length_cons];omega];exact x
  rw[e]
  have mono:∀(l:List Oper) (a:Act) {K f:Act->Prop},(∀a,K a->f a)->iM P ops K l a->iM P ops f l a:=by
   intro l
   induction l with
   |nil=>intro a K f g h;exact g a h
   |cons o l ih=>
    intro a K f g h
    unfold iM at h ⊢
    cases hg:cu ops o a with
    |none=>rw[hg] at h;exact h.elim
    |some t=>
     rw[hg] at h
     cases t with
     |false=>exact ih _ g h
     |true=>
      simp only at h ⊢
      cases c:o8 P o.op a with
      |none=>rw[c] at h;exact h.elim
      |some v=>rw[c] at h;exact ih _ g h
  unfold iM at h
  split at h
  ·rename_i hg
   split at h
   ·rename_i v c
    exact ai.plain d v m hg (fun w=>(Dl c w).1) (fun w=>(Dl c w).2) (yM d rest (i+1) n _ p (mono _ _ e2 h))
   ·exact h.elim
  ·rename_i hg
   exact ai.skip d m hg (yM d rest (i+1) n _ p (mono _ _ e2 h))
  ·exact h.elim
theorem ai.pure (d:dO P main (JF ph))(m:Nat){i n:Nat}{a:Act}(l:List Oper)(c:(ops.toList.drop i).take m=l)(hm:l.length=m)(h:iM P ops (fun e=>ai JF fi ops (i+m) n Q e F ph) l a):ai JF fi ops i (m+n) Q a F ph:=by
 subst hm
 refine yM d l i n a (fun j o b=>?_) h
 rw[<-c] at b
 have f:j<l.length:=by
  rcases Nat.lt_or_ge j l.length with x|x
  ·exact x
  ·rw[c,List.getElem?_eq_none x] at b;cases b
 rw[List.getElem?_take,if_pos f,List.getElem?_drop] at b
 simpa using b
end
end Go.Sep
end
section
namespace Go.Sep
open Go Go.Conc
open Go.ConcN (sumTo upd upd_ne upd_same)
open Go.ConcM (MuAt muA msA muBlock OsLater)
open Go.ConcR (WgAt wgBlock stA smA)
section
variable {c : Cy} {i : Nat} {ph : Ph} {ops : Array Oper} {j n : Nat} {Q : Act → af → Ph → Prop} {a : Act} {F : af} {f fi : FuncId} {d : Option Tmp}
theorem Inv.group {k:Nat}{φ:Nat->Ph}{p0:P0}{s:Sh}(h:Inv c.n c.bs k φ p0 s)(hi:i<c.n)(he:φ i=ph)(h1:ph.gp≠ .new)(h2:ph.gp≠ .cnt){gp:Gp}(a:gp≠ .new){wg ws:Int}
  (hw:dr c.n (upd φ i {ph with gp:=gp}) p0 wg ws):Inv c.n c.bs k (upd φ i {ph with gp:=gp}) p0 {s with wg:=wg,ws:=ws}:=by
 obtain ⟨C,S,W,L,m,hm⟩:=h.m
 refine h.jV hi he h1 a ⟨C,S,W,L,m,nk hm hi _ (.inl (by rw[he]))⟩ hw ?_ (fun _=>?_)
 ·have:=h.i.all i hi
  rw[he] at this
  exact (yI this).symm
 ·have:=h.i.done i hi (by rw[he];exact h2) (by rw[he];exact h1)
  rw[he] at this
  exact this
theorem Kn (l:Entry c.P f (Extern.Atomic.update (Op.intArith .add) .u64 true))(m:c.Mu≠c.Wg/\c.Mu≠c.Is/\c.Wg≠c.Is)(hn:c.n<67108864)(p:At ops j a f [.pointer (some (stA c.Wg)),.int .u64 18446744069414584320] d)
  (h1:ph.gp= .rel) (h0:0<ph.deaf)
  (h:∀v t:Nat,v<=c.n->t<=1->ai (WJ c i) fi ops (j+1) n Q (aX a d (.int .u64 ((v:Int)*4294967296+t))) F {ph with gp:=if v=0/\t=1 then .ld else .gone}):
  ai (WJ c i) fi ops j (n+1) Q a F ph:=by
 obtain ⟨o,cr,c7,g,hg,q,r,rfl⟩:=p
 obtain ⟨x,y,rfl,u,z⟩:=qU r
 obtain ⟨fn,f1,f2,f3,f4,f5⟩:=l.ex
 refine fD g (by rw[h1];simp) fun w s k φ p0 _ hs hi he e=>.inr ?_
 obtain ⟨v,t,e1,ht,A,_⟩:=CH e.w hi ph (by rw[he];exact h1)
 obtain ⟨B,C,D,G,_,hw⟩:=CH e.w hi {ph with gp:=if v=0/\t=1 then .ld else .gone} (by rw[he];exact h1)
 obtain ⟨rfl,rfl⟩:v=B/\t=C:=by simp only[cO] at e1 D;omega
 have e2:IntKind.u64.wrap (s.wg+18446744069414584320)=(v:Int)*4294967296+t:=by
  rw[e1]
  unfold IntKind.wrap
  simp only[IntKind.bits,IntKind.signed,cO]
  simp
  omega
 have E:s.wg - cO=(v:Int)*4294967296+t:=by rw[e1];simp only[cO];omega
 refine ⟨.int .u64 ((v:Int)*4294967296+t),_,_,{s with wg:=(v:Int)*4294967296+t},{ph with gp:=if v=0/\t=1 then .ld else .gone},fun b H cs hb=>by rw[<-e2];exact stepG_add_atomic g (b7 hg) hb.kind q f1 f2 f3 f4 .u64 f5 u z hs.wg.1 hs.wg.2,by rw[<-e2];exact hs.uq m _,.set _ (.inr (.inl rfl)),?_,yG rfl ?_ h0 (.inl rfl),.inr dA,h v t A ht⟩
 ·refine e.group hi he (by rw[h1];simp) (by rw[h1];simp) (by split<;>simp) ?_
  rw[<-E]
  exact hw rfl
 ·simp only[h1];split<;>simp
theorem Ko (l:Entry c.P f (Extern.Atomic.loadT (.int .u64)))(m:At ops j a f [.pointer (some (stA c.Wg))] d)(h1:ph.gp= .ld)(h0:0<ph.deaf)
  (h:ai (WJ c i) fi ops (j+1) n Q (aX a d (.int .u64 1)) F {ph with gp:=.st}):ai (WJ c i) fi ops j (n+1) Q a F ph:=by
 obtain ⟨o,cr,c7,e,hg,p,q,rfl⟩:=m
 obtain ⟨x,rfl,r⟩:=jY q
 obtain ⟨fn,f1,f2,f3,f4,f5⟩:=l.ex
 refine fD e (by rw[h1];simp) fun w s k φ p0 _ hs hi he g=>.inr ?_
 obtain ⟨e1,hw⟩:=Jk g.w hi {ph with gp:=.st} (by rw[he];exact h1) rfl
 exact ⟨.int .u64 1,_,_,s,{ph with gp:=.st},fun b t cs hb=>by rw[<-e1];exact stepG_load_atomic e (b7 hg) hb.kind p f1 f2 f3 f4 .u64 f5 r hs.wg.1,hs,.refl _ _,g.group hi he (by rw[h1];simp) (by rw[h1];simp) (by simp) hw,yF false rfl (by simp[h1]) h0 (.inl rfl),.inr dA,h⟩
theorem Kp (l:Entry c.P f Extern.Atomic.storeT)(m:c.Mu≠c.Wg/\c.Mu≠c.Is/\c.Wg≠c.Is)(p:At ops j a f [.pointer (some (stA c.Wg)),.int .u64 0] d)(h1:ph.gp= .st)(h0:0<ph.deaf)
  (h:ai (WJ c i) fi ops (j+1) n Q (aX a d (.tuple #[])) F {ph with gp:=.sm}):ai (WJ c i) fi ops j (n+1) Q a F ph:=by
 obtain ⟨o,cr,c7,e,hg,q,r,rfl⟩:=p
 obtain ⟨x,y,rfl,t,u⟩:=qU r
 obtain ⟨fn,f1,f2,f3,f4,f5⟩:=l.ex
 refine fD e (by rw[h1];simp) fun w s k φ p0 _ hs hi he g=>.inr ?_
 obtain ⟨e1,hw⟩:=Jl g.w hi {ph with gp:=.sm} (by rw[he];exact h1) rfl
 exact ⟨.tuple #[],_,_,{s with wg:=0},{ph with gp:=.sm},fun b v cs hb=>stepG_store_atomic e (b7 hg) hb.kind q f1 f2 f3 f4 f5 t u hs.wg.1 hs.wg.2,hs.uq m _,.set _ (.inr (.inl rfl)),g.group hi he (by rw[h1];simp) (by rw[h1];simp) (by simp) hw,yF true rfl (by simp[h1]) h0 (.inl rfl),.inr dA,h⟩
theorem Kq (q r:Value)(g:Entry c.P f Extern.Sync.semrelease)(t:c.Mu≠c.Wg/\c.Mu≠c.Is/\c.Wg≠c.Is)(u:At ops j a f [.pointer (some (smA c.Wg)),q,r] d)(h1:ph.gp= .sm)
  (h:ai (WJ c i) fi ops (j+1) n Q (aX a d (.tuple #[])) F {ph with gp:=.gone}):ai (WJ c i) fi ops j (n+1) Q a F ph:=by
 obtain ⟨o,cr,c7,l,hg,m,v,rfl⟩:=u
 obtain ⟨x,y,z,rfl,e,_,_⟩:=qV v
 obtain ⟨fn,f1,f2,f3,f4,f5⟩:=g.ex
 refine fD l (by rw[h1];simp) fun w s k φ p0 _ hs hi he p=>.inr ?_
 obtain ⟨e1,hw⟩:=Jm p.w hi {ph with gp:=.gone} (by rw[he];exact h1) rfl
 have A:IntKind.u32.wrap (s.ws+1)=s.ws+1:=by rw[e1];decide
 refine ⟨.tuple #[],_,_,{s with ws:=s.ws+1},{ph with gp:=.gone},fun b B cs hb=>stepG_semrelease l (b7 hg) hb.kind m f1 f2 f3 f4 f5 (by simp[ez,e]) hs.ws.1 hs.ws.2,by rw[A];exact hs.De t _,.set _ (.inr (.inl rfl)),
  p.group hi he (by rw[h1];simp) (by rw[h1];simp) (by simp) hw,yH rfl (by simp[h1]) (.inl rfl),.inl ⟨_,m,fun x e=>?_⟩,h⟩
 cases e
 exact ⟨f,rfl,g.C3⟩
end
end Go.Sep
end
section
namespace Go.Sep
open Go Go.Conc
open Go.ConcN (sumTo upd upd_ne upd_same)
theorem ai.defer {P:Program}{main:Bool}{S:Type}{JF:S->Goroutine->af->Prop}{fi f:FuncId}{ops:Array Oper}{j n:Nat}{Q:Act->af->S->Prop}{a:Act}{F:af}{ph:S}(e:dO P main (JF ph)){o:Oper}{cr:Array Operand}{c7:Array TypeId}{vals:Array Value}
  (g:ops[j]?=some o) (hg:cu ops o a=some true) (k:o.op= .defer {callee:=.value (.func f),args:=cr,argTypes:=c7}) (hd:o.dst=none) (l:cr.map a.eval=vals)
  (h:∀c:Act,(∀i,slot c i=slot a i)->sz c=sz a->c.defers=dcall f vals::a.defers->ai JF fi ops (j+1) n Q c F ph):ai JF fi ops j (n+1) Q a F ph:=fun b d cs hb m=>by
 rw[List.range'_succ,eG hb.round]
 refine e.move (fr':=b.at (Act.put ⟨a.tmps,dcall f (cr.map a.eval)::a.defers⟩ o.dst undef) (.inRegion ops (List.range' (j+1) n)::d)) (fun w=>stepG_defer g (b7 hg) hb.kind k) ?_
 rw[<-eG hb.round,hd,l]
 exact h ⟨a.tmps,dcall f vals::a.defers⟩ (fun _=>rfl) rfl rfl b d cs hb m
section
variable {c : Cy} {i : Nat} {ph : Ph} {F : af} {f : FuncId}
theorem Kr (g:Entry c.P f (fun _=>do mark .enable;pure Extern.Race.none_))(hg:ph.gp= .gone){d:Nat}(hd:ph.deaf=d+1){b:Frame}{a:Act}{todo:List Item}{cs:List Frame}{e:List Deferred}(j:a.defers=dcall f #[]::e)
  (h:WJ c i {ph with deaf:=d} (G {b.at ⟨a.tmps,e⟩ todo with mode:=.returning} cs) F):WJ c i ph (G {b.at a todo with mode:=.returning} cs) F:=by
 obtain ⟨F0,r,hle,hW⟩:=h
 obtain ⟨q,_,hq⟩:=hW.left hg
 obtain ⟨fn,f1,f2,f3,f4,f5⟩:=g.ex
 refine Wk.gone (q:=q+1) hg (QuitsD.unwind_mark .enable rfl (by simp) j f1 f2 f3 f4 f5 ?_)
 rw[hd]
 exact hq
def k3 (f:FuncId)(R:Value->af->Ph->Prop):Ex->Act->af->Ph->Prop
 | .exit _,_,_,_=>False
 |_,a,F,ph=>a.defers=[dcall f #[]]/\ph.gp= .gone/\∃b,ph.deaf=b+1/\R (.tuple #[]) F {ph with deaf:=b}
theorem cz.Ks {f0:FuncId}(m:Entry c.P f (fun _=>do mark .enable;pure Extern.Race.none_)){fn:Func}{cd:Code}{n:Nat}{args:Array Value}{R:Value->af->Ph->Prop}(k:c.P.funcs[f0]?=some fn)(hb:fn.body=some cd)(l:fn.results=#[])(hn:fn.ntmps=n)(t:args.size<=n)
  (h:∀A:Act,sz A=n->A.defers=[]->(∀i,slot A i=args.getD i undef)->cF (WJ c i) f0 cd (k3 f R) A F ph):cz c.P (WJ c i) f0 args F ph R:=by
 intro d cs o
 let b:Frame:={(default:Frame) with fn:=f0,kind:=.normal}
 have p:b.roundOf=none:=rfl
 have q:Frame.enter c.P f0 args .normal=on b {tmps:=args++Array.replicate (fn.ntmps - args.size) undef,defers:=[]} [.code cd]:=by
  simp[Frame.enter,on,k,hb,b]
  rfl
 rw[q]
 have g:=WJ.ek c i
 have leave:∀(a:Act) (todo:List Item) F' (aI:Ph),(a.defers=[dcall f #[]]/\aI.gp= .gone/\∃j,aI.deaf=j+1/\R (.tuple #[]) F' {aI with deaf:=j})->WJ c i aI (G {on b a todo with mode:=.returning} (d::cs)) F':=by
  intro a todo F' aI ⟨hd,hg,j,r,s⟩
  rw[eG p]
  refine Kr m hg r hd ((g _).move (fr':=d.finish (.tuple #[])) (cs':=cs) (fun w=>?_) (o _ F' _ s))
  exact stepG_leave rfl rfl k (results_none l _ c.P w) (events_results_none l _ _)
 refine h _ (by simp[sz,hn];omega) rfl (fun i=>?_) b [] (d::cs) ⟨by simp[b],rfl,rfl⟩ fun e a F' aI hq=>?_
 ·simp only[slot,hn,Array.getD_eq_getD_getElem?]
  rcases Nat.lt_or_ge i args.size with hi|hi
  ·rw[Array.getElem?_append_left hi]
  ·rw[Array.getElem?_append_right hi,Array.getElem?_replicate,Array.getElem?_eq_none hi]
   split<;>rfl
 ·cases e with
  |normal=>exact (g aI).move (fun _=>me rfl) (leave a _ F' aI hq)
  |exit i=>exact hq.elim
  |ret=>exact fun u=>(g aI).move (fun _=>stepG_ret' rfl) (leave a _ F' aI hq)
def yN (R:af->Ph->Prop):Ex->Act->af->Ph->Prop
 | .exit _,_,_,_=>False
 |_,a,F,ph=>a.defers=[]/\R F ph
theorem Kt {f0:FuncId}{fn:Func}{cd:Code}{n:Nat}{args:Array Value}{R:af->Ph->Prop}(j:c.P.funcs[f0]?=some fn)(m:(fn.name== "runtime.NumGoroutine")=false)(hb:fn.body=some cd)(k:fn.results=#[])(hn:fn.ntmps=n)(r:args.size<=n)
  {b:Frame} {a:Act} {todo:List Item} {cs:List Frame} {f:List Deferred} (o:a.defers=dcall f0 args::f)
  (h:∀A:Act,sz A=n->A.defers=[]->(∀i,slot A i=args.getD i undef)->cF (WJ c i) f0 cd (yN R) A F ph)
  (p:∀F' aI,R F' aI->WJ c i aI (G {b.at ⟨a.tmps,f⟩ todo with mode:=.returning} cs) F'):WJ c i ph (G {b.at a todo with mode:=.returning} cs) F:=by
 have g:=WJ.ek c i
 refine (g ph).move (fun w=>stepG_unwind_enter o j m hb) ?_
 have leave:∀(d:Act) (l:List Item) F' (aI:Ph),(d.defers=[]/\R F' aI)->WJ c i aI (G {(baseD f0).at d l with mode:=.returning} ({b.at ⟨a.tmps,f⟩ todo with mode:=.returning}::cs)) F':=by
  intro d l F' aI ⟨hd,q⟩
  exact (g _).move (fun w=>stepG_leave_deferred rfl hd j (results_none k _ c.P w) (events_results_none k _ _) rfl) (p F' aI q)
 have:=h {tmps:=args++Array.replicate (fn.ntmps - args.size) undef,defers:=[]} (by simp[sz,hn];omega) rfl (fun i=>?_) (baseD f0) [] ({b.at ⟨a.tmps,f⟩ todo with mode:=.returning}::cs) ⟨by simp[baseD],rfl,rfl⟩ fun e d F' aI hq=>?_
 ·rw[eG rfl] at this;exact this
 ·simp only[slot,hn,Array.getD_eq_getD_getElem?]
  rcases Nat.lt_or_ge i args.size with hi|hi
  ·rw[Array.getElem?_append_left hi]
  ·rw[Array.getElem?_append_right hi,Array.getElem?_replicate,Array.getElem?_eq_none hi]
   split<;>rfl
 ·cases e with
  |normal=>exact (g aI).move (fun _=>me rfl) (leave d _ F' aI hq)
  |exit i=>exact hq.elim
  |ret=>exact fun s=>(g aI).move (fun _=>stepG_ret' rfl) (leave d _ F' aI hq)
end
attribute [go_sem] k3 yN
end Go.Sep
end
section
namespace Go.Sep
open Go
def k4 (x y:Int):Int:=IntKind.u64.wrap ((BitVec.ofInt 64 x&&& BitVec.ofInt 64 y).toNat:Int)
@[go_sem] theorem Rp (x y:Int):IntKind.u64.wrap ((@HAnd.hAnd (BitVec 64) (BitVec 64) (BitVec 64) (@instHAndOfAndOp (BitVec IntKind.u64.bits) (@BitVec.instAndOp IntKind.u64.bits)) (BitVec.ofInt 64 x) (BitVec.ofInt 64 y)).toNat:Int)=k4 x y:=rfl
theorem yO (v t:Nat)(a:v<2147483648)(ht:t<=1):k4 ((v:Int)*4294967296+(t:Int)) 2147483648=0:=Go.ConcN.st_flag v t a ht
theorem yP (v t:Nat)(a:v<2147483648)(ht:t<=1):k4 ((v:Int)*4294967296+(t:Int)) 2147483647=(t:Int):=Go.ConcN.st_waiters v t a ht
theorem yQ (v t:Nat)(ht:t<=1):((v:Int)*4294967296+(t:Int)).fdiv 4294967296=v:=by
 rw[Int.fdiv_eq_ediv_of_nonneg _ (by decide)]
 omega
end Go.Sep
namespace Go.Proofs.YtjepffnffjdloaaGreatDoor
open Go Go.Sep Go.Proofs Go.Conc
open Go.ConcN (upd upd_same)
open Go.ConcM (muA msA)
open Go.ConcR (stA smA)
set_option maxRecDepth 100000
set_option maxHeartbeats 4000000
set_option linter.all false
section
variable {Mu Wg Is n base T0 i : Nat} {bs : Nat → Bool} {st : Bool} {F : af}
theorem Ku (w:World)(s:Sh)(h:cq (CY Mu Wg Is n bs base T0) w s):∃v,w.cell? ⟨Wg,0,none⟩=some v:=⟨_,h.wg.1⟩
theorem Kv (b:Mu≠Wg/\Mu≠Is/\Wg≠Is)(hn:n<67108864){mp:Mp}:
  cz Tryz.prog (WJ (CY Mu Wg Is n bs base T0) i) 140 #[.pointer (some (stA Wg)),.int .u64 18446744069414584320] F ⟨mp,.rel,st,1⟩
   (fun r F' aI=>F'=F/\∃v t:Nat,v<=n/\t<=1/\r= .int .u64 ((v:Int)*4294967296+(t:Int))/\aI=⟨mp,if v=0/\t=1 then .ld else .gone,st,1⟩):=by
 have a:=WJ.ek (CY Mu Wg Is n bs base T0) i
 refine cz.go (main:=false) a Tryz.func140 rfl Tryz.ntmps140 (by simp) fun A d hd hs=>?_
 have e:=hs 0
 have k1:=hs 1
 clear hs
 repeat refine az (a _) ?_
 refine cR a ?_
 refine ai.pure (a _) 1 (n:=0) _ rfl rfl ?_;simp only[*,go_sem,muA,msA,stA,smA,Int.reduceBEq,Int.reduceBNe]
 refine ai.nil a ?_;try simp only[go_sem]
 repeat refine az (a _) ?_
 refine cR a ?_
 refine ai.pure (a _) 4 (n:=2) _ rfl rfl ?_;simp only[*,go_sem,muA,msA,stA,smA,Int.reduceBEq,Int.reduceBNe]
 refine Kn C7 b hn ⟨_,_,_,rfl,(by first|rfl|simp only[*,go_sem,Int.reduceBEq,Int.reduceBNe]),rfl,by first|(simp only[*,go_sem,muA,msA,stA,smA,Int.reduceBEq,Int.reduceBNe];done)|(simp only[*,go_sem,muA,msA,stA,smA,Int.reduceBEq,Int.reduceBNe];rfl),rfl⟩ (by rfl) (by simp) fun v t c ht=>?_
 refine ai.pure (a _) 1 (n:=0) _ rfl rfl ?_;simp only[*,go_sem,muA,msA,stA,smA,Int.reduceBEq,Int.reduceBNe]
 refine ai.nil a ?_;try simp only[go_sem]
 refine fC ?_;try simp only[go_sem]
 exact (l7 rfl (by simp only[*,go_sem]) (by simp only[*,go_sem]) ⟨rfl,v,t,c,ht,rfl,rfl⟩).2
theorem Kw {mp:Mp}:
  cz Tryz.prog (WJ (CY Mu Wg Is n bs base T0) i) 142 #[.pointer (some (stA Wg))] F ⟨mp,.ld,st,1⟩
   (fun r F' aI=>F'=F/\r= .int .u64 1/\aI=⟨mp,.st,st,1⟩):=by
 have a:=WJ.ek (CY Mu Wg Is n bs base T0) i
 refine cz.go (main:=false) a Tryz.func142 rfl Tryz.ntmps142 (by simp) fun A b hd hs=>?_
 have c:=hs 0
 clear hs
 repeat refine az (a _) ?_
 refine cR a ?_
 refine ai.pure (a _) 1 (n:=0) _ rfl rfl ?_;simp only[*,go_sem,muA,msA,stA,smA,Int.reduceBEq,Int.reduceBNe]
 refine ai.nil a ?_;try simp only[go_sem]
 repeat refine az (a _) ?_
 refine cR a ?_
 refine ai.pure (a _) 3 (n:=2) _ rfl rfl ?_;simp only[*,go_sem,muA,msA,stA,smA,Int.reduceBEq,Int.reduceBNe]
 refine Ko yz ⟨_,_,_,rfl,(by first|rfl|simp only[*,go_sem,Int.reduceBEq,Int.reduceBNe]),rfl,by first|(simp only[*,go_sem,muA,msA,stA,smA,Int.reduceBEq,Int.reduceBNe];done)|(simp only[*,go_sem,muA,msA,stA,smA,Int.reduceBEq,Int.reduceBNe];rfl),rfl⟩ (by rfl) (by simp) ?_
 refine ai.pure (a _) 1 (n:=0) _ rfl rfl ?_;simp only[*,go_sem,muA,msA,stA,smA,Int.reduceBEq,Int.reduceBNe]
 refine ai.nil a ?_;try simp only[go_sem]
 refine fC ?_;try simp only[go_sem]
 exact (l7 rfl (by simp only[*,go_sem]) (by simp only[*,go_sem]) ⟨rfl,rfl,rfl⟩).2
theorem Kx (b:Mu≠Wg/\Mu≠Is/\Wg≠Is){mp:Mp}:
  cz Tryz.prog (WJ (CY Mu Wg Is n bs base T0) i) 143 #[.pointer (some (stA Wg)),.int .u64 0] F ⟨mp,.st,st,1⟩
   (fun r F' aI=>F'=F/\r= .tuple #[]/\aI=⟨mp,.sm,st,1⟩):=by
 have a:=WJ.ek (CY Mu Wg Is n bs base T0) i
 refine cz.go (main:=false) a Tryz.func143 rfl Tryz.ntmps143 (by simp) fun A c hd hs=>?_
 have d:=hs 0
 have k1:=hs 1
 clear hs
 repeat refine az (a _) ?_
 refine cR a ?_
 refine ai.pure (a _) 4 (n:=1) _ rfl rfl ?_;simp only[*,go_sem,muA,msA,stA,smA,Int.reduceBEq,Int.reduceBNe]
 refine Kp JS b ⟨_,_,_,rfl,(by first|rfl|simp only[*,go_sem,Int.reduceBEq,Int.reduceBNe]),rfl,by first|(simp only[*,go_sem,muA,msA,stA,smA,Int.reduceBEq,Int.reduceBNe];done)|(simp only[*,go_sem,muA,msA,stA,smA,Int.reduceBEq,Int.reduceBNe];rfl),rfl⟩ (by rfl) (by simp) ?_
 refine ai.nil a ?_;try simp only[go_sem]
 exact l6 rfl (by simp only[*,go_sem]) ⟨rfl,rfl,rfl⟩
end
end Go.Proofs.YtjepffnffjdloaaGreatDoor
end
section
namespace Go.Sep
open Go Go.Conc
open Go.ConcN (sumTo upd upd_ne upd_same)
open Go.ConcM (MuAt muA msA muBlock OsLater)
open Go.ConcR (WgAt wgBlock stA smA)
structure X where
 Mu:Nat
 Wg:Nat
 Is:Nat
 n:Nat
 bs:Nat->Bool
 base:Nat
 T0:Nat
 B0:Nat
inductive Z where
 |free
 |co (x:X) (k:Nat) (p:P0) (d:Nat)
structure PT where
 P:Program
 tM:TypeId
 tW:TypeId
 tI:TypeId
abbrev X.cy (x:X)(T:PT):Cy:=⟨T.P,x.Mu,x.Wg,x.Is,T.tM,T.tW,T.tI,x.n,x.bs,x.base,x.T0⟩
def ZJ (T:PT)(Φ:Goroutine->af->Prop):Z->Goroutine->af->Prop
 | .free=>iL T.P Φ
 | .co x k p d=>fun g F=>(p= .reg->k=x.n)/\ej (x.cy T) x.B0 (iL T.P Φ) k p d g F
section
variable {T : PT} {Φ : Goroutine → af → Prop} {x : X} {k d : Nat} {p : P0} {ops : Array Oper} {j n : Nat} {Q : Act → af → Z → Prop} {a : Act} {F : af} {o : Oper} {f fi : FuncId} {dt : Option Tmp}
theorem Dm {c:Cy}:Ev0 c d d #[]:=⟨by simp,rfl⟩
theorem Ky {c:Cy}:Ev0 c d (d+1) #[cC .disable]:=⟨fun e he=>by simp at he;exact .inl he,rfl⟩
theorem Dn {c:Cy}:Ev0 c (d+1) d #[cC .enable]:=⟨fun e he=>by simp at he;exact .inr (.inl he),rfl⟩
theorem yR {c:Cy}{ad:Addr}(y:Bool)(h:ad.block=c.Wg):Ev0 c d d #[⟨.cell ad,y,true⟩]:=⟨fun e he=>by simp at he;exact .inr (.inr ⟨ad,h,.inl ⟨y,he⟩⟩),by simp[deafBehind]⟩
theorem Dp {c:Cy}{ad:Addr}(h:ad.block=c.Wg):Ev0 c d d #[⟨.cell ad,false,true⟩,⟨.cell ad,true,true⟩]:=
 ⟨fun e he=>by simp at he;rcases he with he|he<;>exact .inr (.inr ⟨ad,h,.inl ⟨_,he⟩⟩),by simp[deafBehind]⟩
theorem Kz {c:Cy}{ad:Addr}(h:ad.block=c.Wg):Ev0 c d d #[cC (.read ad)]:=⟨fun e he=>by simp at he;exact .inr (.inr ⟨ad,h,.inr (.inl he)⟩),by simp[deafBehind,cC]⟩
theorem KA {c:Cy}{ad:Addr}(h:ad.block=c.Wg):Ev0 c d d #[cC (.write ad)]:=⟨fun e he=>by simp at he;exact .inr (.inr ⟨ad,h,.inr (.inr he)⟩),by simp[deafBehind,cC]⟩
theorem KB {c:Cy}{ad:Addr}(h:ad.block=c.Wg):Ev0 c d d (semEvents ad):=by
 refine ⟨fun e he=>?_,by simp[deafBehind,semEvents]⟩
 simp[semEvents] at he
 rcases he with rfl|rfl|rfl|rfl
 ·exact .inl rfl
 ·exact .inr (.inr ⟨ad,h,.inl ⟨_,rfl⟩⟩)
 ·exact .inr (.inr ⟨ad,h,.inl ⟨_,rfl⟩⟩)
 ·exact .inr (.inl rfl)
theorem ZJ.ek (T:PT)(Φ:Goroutine->af->Prop)(z:Z):dO T.P true (ZJ T Φ z):=by
 cases z with
 |free=>exact Closed.ek (CW T.P Φ)
 |co x k p d=>
  refine ⟨fun {fr fr' cs cs' F} hs h=>⟨h.1,ej.yt (c:=x.cy T) rfl rfl h.1 fun w s φ h1 h2 h3=>?_⟩⟩
  exact ⟨_,w,#[],s,p,d,hs w,h2,.refl _ _,h3,Dm,.inr dA,h.2⟩
theorem ZJ.closed (T:PT)(Φ:Goroutine->af->Prop){z:Z}(a:∀x k d,z≠ .co x k .reg d):Closed T.P true (ZJ T Φ z):=by
 cases z with
 |free=>exact CW T.P Φ
 |co x k p d=>
  have hp:p≠ .reg:=fun e=>a x k d (by rw[e])
  have hC:=ej.closed (x.cy T) x.B0 (iL T.P Φ) k p d hp
  exact ⟨fun hle h=>⟨h.1,hC.mono hle h.2⟩,fun {fr cs F} h=>⟨fun e=>absurd e hp,hC.step fun w hw=>by
   obtain ⟨g',w',es,F',k1,b,c,f,g⟩:=h w hw
   exact ⟨g',w',es,F',k1,b,c,f,g.2⟩⟩⟩
theorem k5 (A:ops[j]?=some o)(i:p= .reg->k=x.n)
  (h:∀(w:World) (s:Sh) (φ:Nat->Ph),Has F w->cq (x.cy T) w s->Inv x.n x.bs k φ p s->
   ∃(v:Value) (w':World) (es:Array Event) (s':Sh) (f:P0) (g:Nat),(∀(b:Frame) (e:List Item) (cs:List Frame),BF fi b->
    stepG T.P true (G (b.at a (.inRegion ops (j::List.range' (j+1) n)::e)) cs) w= .go (G (b.at (a.put o.dst v) (.inRegion ops (List.range' (j+1) n)::e)) cs) w' es)/\cq (x.cy T) w' s'/\ir (x.cy T) w w'/\Inv x.n x.bs k φ f s'/\Ev0 (x.cy T) d g es/\
    (s'.ms<=s.ms/\s'.ws<=s.ws)/\ai (ZJ T Φ) fi ops (j+1) n Q (a.put o.dst v) F (.co x k f g)):ai (ZJ T Φ) fi ops j (n+1) Q a F (.co x k p d):=fun b e cs hb l=>by
 rw[List.range'_succ,eG hb.round]
 refine ⟨i,ej.yt (c:=x.cy T) rfl rfl i fun w s φ e1 e2 m=>?_⟩
 obtain ⟨v,w',es,s',f,g,k1,q,r,t,u,y,z⟩:=h w s φ e1 e2 m
 have:=z b e cs hb l
 rw[eG hb.round] at this
 exact ⟨_,w',es,s',f,g,k1 b e cs hb,q,r,t,u,.inr y,this.2⟩
theorem o9 {k:Nat}{φ:Nat->Ph}{p a:P0}{s:Sh}(h:Inv x.n x.bs k φ p s){wg ws:Int}(hw:dr x.n φ a wg ws):Inv x.n x.bs k φ a {s with wg:=wg,ws:=ws}:=⟨h.m,hw,h.i⟩
theorem Dq (i:Entry T.P f (fun _=>do mark .disable;pure Extern.Race.none_)){vals:List Value}(l:At ops j a f vals dt)(m:p= .reg->k=x.n)(c:P0)(hp:∀φ wg ws,dr x.n φ p wg ws->dr x.n φ c wg ws)
  (h:ai (ZJ T Φ) fi ops (j+1) n Q (aX a dt (.tuple #[])) F (.co x k c (d+1))):ai (ZJ T Φ) fi ops j (n+1) Q a F (.co x k p d):=by
 obtain ⟨o,cr,c7,e,hg,q,_,rfl⟩:=l
 obtain ⟨fn,f1,f2,f3,f4,f5⟩:=i.ex
 exact k5 e m fun w s φ _ hs g=>⟨.tuple #[],w,_,s,c,d+1,fun b r cs hb=>stepG_mark0 .disable (by simp) e (b7 hg) hb.kind q f1 f2 f3 f4 f5,hs,.refl _ _,o9 g (hp _ _ _ g.w),Ky,dA,h⟩
theorem Dr (e:Entry T.P f (fun _=>do mark .enable;pure Extern.Race.none_)){vals:List Value}(g:At ops j a f vals dt)(i:p= .reg->k=x.n)
  (h:ai (ZJ T Φ) fi ops (j+1) n Q (aX a dt (.tuple #[])) F (.co x k p d)):ai (ZJ T Φ) fi ops j (n+1) Q a F (.co x k p (d+1)):=by
 obtain ⟨o,cr,c7,c,hg,l,_,rfl⟩:=g
 obtain ⟨fn,f1,f2,f3,f4,f5⟩:=e.ex
 exact k5 c i fun w s φ _ hs m=>⟨.tuple #[],w,_,s,p,d,fun b q cs hb=>stepG_mark0 .enable (by simp) c (b7 hg) hb.kind l f1 f2 f3 f4 f5,hs,.refl _ _,m,Dn,dA,h⟩
theorem KC (e:Entry T.P f (Extern.Race.marked .read))(g:At ops j a f [.pointer (some (smA x.Wg))] dt)(i:p= .reg->k=x.n)
  (h:ai (ZJ T Φ) fi ops (j+1) n Q (aX a dt (.tuple #[])) F (.co x k p d)):ai (ZJ T Φ) fi ops j (n+1) Q a F (.co x k p d):=by
 obtain ⟨o,cr,c7,c,hg,l,m,rfl⟩:=g
 obtain ⟨y,rfl,q⟩:=jY m
 obtain ⟨fn,f1,f2,f3,f4,f5⟩:=e.ex
 exact k5 c i fun w s φ _ hs r=>⟨.tuple #[],w,_,s,p,d,fun b t cs hb=>stepG_markAt .read (by simp) c (b7 hg) hb.kind l f1 f2 f3 f4 f5 (by simp[ez,q]),hs,.refl _ _,r,Kz (ad:=smA x.Wg) rfl,dA,h⟩
theorem KD (e:Entry T.P f (Extern.Race.marked .write))(g:At ops j a f [.pointer (some (smA x.Wg))] dt)(i:p= .reg->k=x.n)
  (h:ai (ZJ T Φ) fi ops (j+1) n Q (aX a dt (.tuple #[])) F (.co x k p d)):ai (ZJ T Φ) fi ops j (n+1) Q a F (.co x k p d):=by
 obtain ⟨o,cr,c7,c,hg,l,m,rfl⟩:=g
 obtain ⟨y,rfl,q⟩:=jY m
 obtain ⟨fn,f1,f2,f3,f4,f5⟩:=e.ex
 exact k5 c i fun w s φ _ hs r=>⟨.tuple #[],w,_,s,p,d,fun b t cs hb=>stepG_markAt .write (by simp) c (b7 hg) hb.kind l f1 f2 f3 f4 f5 (by simp[ez,q]),hs,.refl _ _,r,KA (ad:=smA x.Wg) rfl,dA,h⟩
theorem uD (ad:Addr){src dst t:TypeId}(hs:T.P.underlying src=some (.pointer t))(hd:T.P.underlying dst=some .unsafePointer)(c:(T.P.info? t).map (fun i=>decide (i.size=0))=some false){y:Operand}
  (l:nt ops j a (.convert src dst y) dt) (m:p= .reg->k=x.n) (q:ev a y= .pointer (some ad)) (r:∀w s,cq (x.cy T) w s->∃v,w.cell? ad=some v) (h:ai (ZJ T Φ) fi ops (j+1) n Q (aX a dt (.pointer (some ad))) F (.co x k p d)):ai (ZJ T Φ) fi ops j (n+1) Q a F (.co x k p d):=by
 obtain ⟨o,e,hg,u,rfl⟩:=l
 refine k5 e m fun w s φ _ f z=>⟨_,w,#[],s,p,d,fun b C cs hb=>?_,f,.refl _ _,z,Dm,dA,h⟩
 obtain ⟨v,g⟩:=r w s f
 have e1:execOp a.eval o=(do pure (.value (<-convert src dst (.pointer (some ad)))):Sem Next):=by
  unfold execOp
  simp only[u,ez,q]
 have A:(execOp a.eval o).run T.P w= .ok (.value (.pointer (some ad))) w:=by
  rw[e1];simp[run_convert_to_unsafe hs hd c g]
 have B:(execOp a.eval o).events T.P w #[]=#[]:=by
  rw[e1];simp[events_convert_to_unsafe hs hd c g]
 rw[stepG_value e (b7 hg) hb.kind A]
 unfold listed
 rw[B,seen_none]
theorem KE (i:Entry T.P f (Extern.Atomic.update (Op.intArith .add) .u64 true))(l:x.Mu≠x.Wg/\x.Mu≠x.Is/\x.Wg≠x.Is)(hn:x.n<67108864)(m:At ops j a f [.pointer (some (stA x.Wg)),.int .u64 4294967296] dt)
  (h:∀v:Nat,v<=x.n->ai (ZJ T Φ) fi ops (j+1) n Q (aX a dt (.int .u64 (((v+1:Nat):Int)*4294967296+((0:Nat):Int)))) F (.co x k (.opn 1) d)):ai (ZJ T Φ) fi ops j (n+1) Q a F (.co x k (.opn 0) d):=by
 obtain ⟨o,cr,c7,c,hg,p,q,rfl⟩:=m
 obtain ⟨y,z,rfl,r,t⟩:=qU q
 obtain ⟨fn,f1,f2,f3,f4,f5⟩:=i.ex
 refine k5 c (fun e=>by cases e) fun w s φ _ hs g=>?_
 obtain ⟨v,e1,u,hw⟩:=Jn g.w
 have e2:IntKind.u64.wrap (s.wg+4294967296)=((v+1:Nat):Int)*4294967296+((0:Nat):Int):=by
  rw[e1]
  unfold IntKind.wrap
  simp only[IntKind.bits,IntKind.signed,cO]
  simp
  omega
 have A:s.wg+cO=((v+1:Nat):Int)*4294967296+((0:Nat):Int):=by rw[e1];simp only[cO];omega
 rw[A] at hw
 exact ⟨_,_,_,{s with wg:=((v+1:Nat):Int)*4294967296+((0:Nat):Int)},.opn 1,d,fun b B cs hb=>by rw[<-e2];exact stepG_add_atomic c (b7 hg) hb.kind p f1 f2 f3 f4 .u64 f5 r t hs.wg.1 hs.wg.2,by rw[<-e2];exact hs.uq l _,.set _ (.inr (.inl rfl)),o9 g hw,Dp rfl,dA,h v u⟩
theorem KF (i:Entry T.P f (Extern.Atomic.loadT (.int .u64)))(l:At ops j a f [.pointer (some (stA x.Wg))] dt){u:Nat}
  (h:∀v:Nat,v<=u->ai (ZJ T Φ) fi ops (j+1) n Q (aX a dt (.int .u64 ((v:Int)*4294967296+((0:Nat):Int)))) F (.co x k (if v=0 then .eV else .look v) d)):ai (ZJ T Φ) fi ops j (n+1) Q a F (.co x k (.look u) d):=by
 obtain ⟨o,cr,c7,c,hg,m,p,rfl⟩:=l
 obtain ⟨y,rfl,q⟩:=jY p
 obtain ⟨fn,f1,f2,f3,f4,f5⟩:=i.ex
 refine k5 c (fun e=>by cases e) fun w s φ _ hs g=>?_
 obtain ⟨v,e1,r,hw⟩:=Jq g.w
 have e2:s.wg=(v:Int)*4294967296+((0:Nat):Int):=by rw[e1];simp only[cO];omega
 exact ⟨_,_,_,s,_,d,fun b t cs hb=>by rw[<-e2];exact stepG_load_atomic c (b7 hg) hb.kind m f1 f2 f3 f4 .u64 f5 q hs.wg.1,hs,.refl _ _,o9 g hw,yR false rfl,dA,h v r⟩
theorem KG (i:Entry T.P f (Extern.Atomic.loadT (.int .u64)))(l:At ops j a f [.pointer (some (stA x.Wg))] dt)
  (h:ai (ZJ T Φ) fi ops (j+1) n Q (aX a dt (.int .u64 0)) F (.co x k .eV d)):ai (ZJ T Φ) fi ops j (n+1) Q a F (.co x k .eV d):=by
 obtain ⟨o,cr,c7,c,hg,m,p,rfl⟩:=l
 obtain ⟨y,rfl,q⟩:=jY p
 obtain ⟨fn,f1,f2,f3,f4,f5⟩:=i.ex
 refine k5 c (fun e=>by cases e) fun w s φ _ hs g=>?_
 have e2:s.wg=0:=(CI g.w).1
 exact ⟨_,_,_,s,_,d,fun b r cs hb=>by rw[<-e2];exact stepG_load_atomic c (b7 hg) hb.kind m f1 f2 f3 f4 .u64 f5 q hs.wg.1,hs,.refl _ _,g,yR false rfl,dA,h⟩
theorem KH (q:Entry T.P f (Extern.Atomic.casT (.int .u64)))(r:x.Mu≠x.Wg/\x.Mu≠x.Is/\x.Wg≠x.Is){v:Nat}(t:0<v)(H:k=x.n)(u:At ops j a f [.pointer (some (stA x.Wg)),.int .u64 ((v:Int)*4294967296+((0:Nat):Int)),.int .u64 ((v:Int)*4294967296+((0:Nat):Int)+1)] dt)
  (A:ai (ZJ T Φ) fi ops (j+1) n Q (aX a dt (.bool true)) F (.co x k .reg d)) (B:ai (ZJ T Φ) fi ops (j+1) n Q (aX a dt (.bool false)) F (.co x k (.look (v - 1)) d)):ai (ZJ T Φ) fi ops j (n+1) Q a F (.co x k (.look v) d):=by
 obtain ⟨o,cr,c7,g,hg,h,C,rfl⟩:=u
 obtain ⟨y,z,I,rfl,i,l,m⟩:=qV C
 obtain ⟨fn,f1,f2,f3,f4,f5⟩:=q.ex
 refine k5 g (fun e=>by cases e) fun w s φ _ hs c=>?_
 by_cases e:s.wg=(v:Int)*4294967296+((0:Nat):Int)
 ·have e1:s.wg=(v:Int)*cO:=by rw[e];simp only[cO];omega
  have hw:=c.w
  rw[e1] at hw
  have p:=Jr hw t
  have D:(v:Int)*cO+1=(v:Int)*4294967296+((0:Nat):Int)+1:=by simp only[cO];omega
  rw[D] at p
  exact ⟨.bool true,_,_,{s with wg:=(v:Int)*4294967296+((0:Nat):Int)+1},.reg,d,fun b E cs hb=>stepG_cas_hit g (b7 hg) hb.kind h f1 f2 f3 f4 .u64 f5 i l m (by rw[<-e];exact hs.wg.1) hs.wg.2,hs.uq r _,.set _ (.inr (.inl rfl)),o9 c p,Dp rfl,dA,A⟩
 ·have e1:s.wg≠(v:Int)*cO:=fun G=>e (by rw[G];simp only[cO];omega)
  exact ⟨.bool false,_,_,s,.look (v - 1),d,fun b E cs hb=>stepG_cas_miss g (b7 hg) hb.kind h f1 f2 f3 f4 .u64 f5 i l m hs.wg.1 hs.wg.2 e,hs,.refl _ _,o9 c (Js c.w e1).2,yR false rfl,dA,B⟩
theorem KI (p:Value)(q:Entry T.P f Extern.Sync.semacquire)(r:x.Mu≠x.Wg/\x.Mu≠x.Is/\x.Wg≠x.Is)(e:k=x.n)(t:At ops j a f [.pointer (some (smA x.Wg)),p] dt)
  (h:ai (ZJ T Φ) fi ops (j+1) n Q (aX a dt (.tuple #[])) F (.co x k .eV d)):ai (ZJ T Φ) fi ops j (n+1) Q a F (.co x k .reg d):=fun b u cs hb v=>by
 obtain ⟨o,cr,c7,g,hg,i,A,rfl⟩:=t
 obtain ⟨y,z,rfl,l,_⟩:=qU A
 obtain ⟨fn,f1,f2,f3,f4,f5⟩:=q.ex
 rw[List.range'_succ,eG hb.round]
 refine ⟨fun _=>e,ej.act (c:=x.cy T) rfl rfl (fun _=>⟨e,fun w s hs h0=>?_⟩) fun w s φ e1 hs m B=>?_⟩
 ·exact stepG_semacquire_wait g (b7 hg) i f1 f2 f3 f4 f5 (ad:=smA x.Wg) (by simp[ez,l]) (by rw[hs.ws.1,h0])
 ·have h0:=B rfl
  obtain ⟨C,D,hw⟩:=Jt m.w h0
  have:=h b u cs hb v
  rw[eG hb.round] at this
  exact ⟨_,_,_,{s with ws:=s.ws - 1},.eV,d,stepG_semacquire g (b7 hg) hb.kind i f1 f2 f3 f4 f5 (by simp[ez,l]) hs.ws.1 h0 hs.ws.2,hs.De r _,.set _ (.inr (.inl rfl)),o9 m hw,KB rfl,.inr ⟨Int.le_refl _,by simp only;omega⟩,this.2⟩
theorem Ds (d:Entry T.P f (Extern.Race.marked .acquire))(e:k=x.n)(g:At ops j a f [.pointer (some (stA x.Wg))] dt)
  (h:ai (ZJ T Φ) fi ops (j+1) n Q (aX a dt (.tuple #[])) ⟨F.ro,(x.Is,(x.cy T).fin)::F.own⟩ .free):ai (ZJ T Φ) fi ops j (n+1) Q a F (.co x k .eV 0):=fun b i cs hb l=>by
 obtain ⟨o,cr,c7,m,hg,p,q,rfl⟩:=g
 obtain ⟨y,rfl,r⟩:=jY q
 obtain ⟨fn,f1,f2,f3,f4,f5⟩:=d.ex
 rw[List.range'_succ,eG hb.round]
 subst e
 have:=h b i cs hb l
 rw[eG hb.round] at this
 exact ⟨fun _=>rfl,ej.join (c:=x.cy T) rfl rfl fun w hw=>⟨_,stepG_markAt .acquire (by simp) m (b7 hg) hb.kind p f1 f2 f3 f4 f5 (by simp[ez,r]),rfl,this⟩⟩
theorem KJ (i:k<x.n){d:Deferred}{fv:Operand}{g:Fn}{caps:Array Value}(l:ops[j]?=some o)(hg:cu ops o a=some true)(f:∀w,(execOp a.eval o).run T.P w= .ok (.spawn d) w/\(execOp a.eval o).events T.P w #[]=#[])(hd:d.target= .fn g caps)
  (hW:Wk (x.cy T) k ⟨.idle,.cnt,false,0⟩ (born T.P d) ⟨F.ro,[]⟩) (h:ai (ZJ T Φ) fi ops (j+1) n Q (aX a o.dst undef) F (.co x (k+1) (.opn 0) 0)):ai (ZJ T Φ) fi ops j (n+1) Q a F (.co x k (.opn 1) 0):=fun b m cs hb p=>by
 rw[List.range'_succ,eG hb.round]
 have:=h b m cs hb p
 rw[eG hb.round] at this
 refine ⟨fun e=>(by cases e),ej.spawn (c:=x.cy T) rfl rfl i fun w hw=>⟨_,_,?_,hW,rfl,rfl,this.2⟩⟩
 rw[stepG_spawn l (b7 hg) hb.kind (f w).1 hd]
 unfold listed
 rw[(f w).2,seen_none]
 rfl
end
section
variable {T : PT} {Φ : Goroutine → af → Prop} {fi f : FuncId}
theorem KL {cd:Code}{Q:Ex->Act->af->Z->Prop}{a:Act}{F:af}(c:af)(Mu Wg Is n:Nat)(bs:Nat->Bool)
  (hle:Le ⟨c.ro,(Mu,muBlock T.tM 0 0)::(Wg,wgBlock T.tW 0 0)::(Is,.cells (List.replicate n (Value.bool false)).toArray T.tI)::c.own⟩ F)
  (h:∀base B0 T0,0<base->(Mu≠Wg/\Mu≠Is/\Wg≠Is)->cF (ZJ T Φ) fi cd Q a c (.co ⟨Mu,Wg,Is,n,bs,base,T0,B0⟩ 0 (.opn 0) 0)):cF (ZJ T Φ) fi cd Q a F .free:=fun b k cs hb d=>
 iL.found bs rfl rfl hle fun base B0 T0 h0 e=>(h base B0 T0 h0 e b k cs hb d).2
theorem KM (l:Entry T.P f (fun _=>do mark .enable;pure Extern.Race.none_)){x:X}{k d:Nat}{p:P0}{F:af}(e:p= .reg->k=x.n){b:Frame}{a:Act}{todo:List Item}{cs:List Frame}{i:List Deferred}(m:a.defers=dcall f #[]::i)
  (h:ZJ T Φ (.co x k p d) (G {b.at ⟨a.tmps,i⟩ todo with mode:=.returning} cs) F):ZJ T Φ (.co x k p (d+1)) (G {b.at a todo with mode:=.returning} cs) F:=by
 obtain ⟨fn,f1,f2,f3,f4,f5⟩:=l.ex
 refine ⟨e,ej.yt (c:=x.cy T) rfl rfl e fun w s φ e1 hs o=>⟨_,w,#[cC .enable],s,p,d,?_,hs,.refl _ _,o,Dn,.inr dA,h.2⟩⟩
 exact stepG_unwind_entry (v:=.tuple #[]) m f1 f2 f3 f4 f5 (by simp[Extern.Race.none_]) (by simp[cC]) (by
  intro y j
  simp[cC] at j
  subst j
  exact ⟨rfl,fun g h=>by cases h⟩)
def yS (f:FuncId)(R:Value->af->Z->Prop):Ex->Act->af->Z->Prop
 | .exit _,_,_,_=>False
 |_,a,F,z=>a.defers=[dcall f #[]]/\∃x k p d,(p= .reg->k=x.n)/\z= .co x k p (d+1)/\R (.tuple #[]) F (.co x k p d)
theorem cz.KN {f0:FuncId}(o:Entry T.P f (fun _=>do mark .enable;pure Extern.Race.none_)){fn:Func}{cd:Code}{n:Nat}{args:Array Value}{R:Value->af->Z->Prop}{F:af}{z:Z}(l:T.P.funcs[f0]?=some fn)(hb:fn.body=some cd)(m:fn.results=#[])(hn:fn.ntmps=n)(y:args.size<=n)
  (h:∀A:Act,sz A=n->A.defers=[]->(∀i,slot A i=args.getD i undef)->cF (ZJ T Φ) f0 cd (yS f R) A F z):cz T.P (ZJ T Φ) f0 args F z R:=by
 intro g cs q
 let b:Frame:={(default:Frame) with fn:=f0,kind:=.normal}
 have r:b.roundOf=none:=rfl
 have s:Frame.enter T.P f0 args .normal=on b {tmps:=args++Array.replicate (fn.ntmps - args.size) undef,defers:=[]} [.code cd]:=by
  simp[Frame.enter,on,l,hb,b]
  rfl
 rw[s]
 have j:=ZJ.ek T Φ
 have leave:∀(c:Act) (todo:List Item) F' (a:Z),(c.defers=[dcall f #[]]/\∃x k p d,(p= .reg->k=x.n)/\a= .co x k p (d+1)/\R (.tuple #[]) F' (.co x k p d))->ZJ T Φ a (G {on b c todo with mode:=.returning} (g::cs)) F':=by
  intro c todo F' a ⟨hd,x,k,p,d,t,u,v⟩
  subst u
  rw[eG r]
  refine KM o t hd ((j _).move (fr':=g.finish (.tuple #[])) (cs':=cs) (fun w=>?_) (q _ F' _ v))
  exact stepG_leave rfl rfl l (results_none m _ T.P w) (events_results_none m _ _)
 refine h _ (by simp[sz,hn];omega) rfl (fun i=>?_) b [] (g::cs) ⟨by simp[b],rfl,rfl⟩ fun e c F' a hq=>?_
 ·simp only[slot,hn,Array.getD_eq_getD_getElem?]
  rcases Nat.lt_or_ge i args.size with hi|hi
  ·rw[Array.getElem?_append_left hi]
  ·rw[Array.getElem?_append_right hi,Array.getElem?_replicate,Array.getElem?_eq_none hi]
   split<;>rfl
 ·cases e with
  |normal=>exact (j a).move (fun _=>me rfl) (leave c _ F' a hq)
  |exit i=>exact hq.elim
  |ret=>exact fun B=>(j a).move (fun _=>stepG_ret' rfl) (leave c _ F' a hq)
theorem fL.KO {args:Array Value}{ro:Addr->Option Value}{R:Value->af->Prop}(h:∀Φ,cz T.P (ZJ T Φ) f args ⟨ro,[]⟩ .free (fun v F' z=>z= .free/\R v F')):fL T.P f args ⟨ro,[]⟩ R:=
 fL.JN fun Φ c cs a=>h Φ c cs fun v F' z ⟨b,d⟩=>by subst b;exact a v F' d
end
end Go.Sep
end
section
namespace Go.Proofs.YtjepffnffjdloaaGreatDoor
open Go Go.Sep Go.Proofs Go.Conc
open Go.ConcN (upd upd_same)
open Go.ConcM (muA msA)
open Go.ConcR (stA smA)
set_option maxRecDepth 100000
set_option maxHeartbeats 4000000
noncomputable abbrev TT:PT:=⟨Tryz.prog,166,173,4⟩
theorem KP {f:FuncId}{R:Value->af->Z->Prop}{a:Act}{F:af}{x:X}{k d:Nat}{p:P0}(hd:a.defers=[dcall f #[]])(b:p= .reg->k=x.n)(c:R (.tuple #[]) F (.co x k p d)):yS f R .ret a F (.co x k p (d+1)):=⟨hd,x,k,p,d,b,rfl,c⟩
section
variable {Φ : Goroutine → af → Prop} {x : X} {F : af} {k : Nat}
theorem Dt (w:World)(s:Sh)(h:cq (x.cy TT) w s):∃v,w.cell? ⟨x.Wg,0,none⟩=some v:=⟨_,h.wg.1⟩
theorem Du (w:World)(s:Sh)(h:cq (x.cy TT) w s):∃v,w.cell? ⟨x.Wg,1,none⟩=some v:=⟨_,h.ws.1⟩
theorem KQ (c:x.Mu≠x.Wg/\x.Mu≠x.Is/\x.Wg≠x.Is)(hn:x.n<67108864):
  cz Tryz.prog (ZJ TT Φ) 140 #[.pointer (some (stA x.Wg)),.int .u64 4294967296] F (.co x k (.opn 0) 1)
   (fun r F' d=>F'=F/\∃v:Nat,v<=x.n/\r= .int .u64 (((v+1:Nat):Int)*4294967296+((0:Nat):Int))/\d= .co x k (.opn 1) 1):=by
 have a:=ZJ.ek TT Φ
 have hJ:True:=trivial
 refine cz.go (main:=true) a Tryz.func140 rfl Tryz.ntmps140 (by simp) fun A f hd hs=>?_
 have g:=hs 0
 have k1:=hs 1
 clear hs
 repeat refine az (a _) ?_
 refine aV a fun K b=>?_
 refine ai.pure (a _) 1 (n:=0) _ rfl rfl ?_;simp only[*,go_sem,-b,-a,muA,msA,stA,smA,Int.reduceBEq,Int.reduceBNe]
 refine ai.nil a (b _ _ _ ?_);clear b K
 repeat refine az (a _) ?_
 refine aV a fun K b=>?_
 refine ai.pure (a _) 4 (n:=2) _ rfl rfl ?_;simp only[*,go_sem,-b,-a,muA,msA,stA,smA,Int.reduceBEq,Int.reduceBNe]
 refine KE C7 c hn ⟨_,_,_,rfl,(by first|(simp only[*,go_sem,-b,-a,-hJ];done)|rfl),rfl,by first|(simp only[*,go_sem,-b,-a,-hJ,muA,msA,stA,smA,Int.reduceBEq,Int.reduceBNe];done)|(simp only[*,go_sem,-b,-a,-hJ,muA,msA,stA,smA,Int.reduceBEq,Int.reduceBNe];rfl),rfl⟩ fun v e=>?_
 refine ai.pure (a _) 1 (n:=0) _ rfl rfl ?_;simp only[*,go_sem,-b,-a,muA,msA,stA,smA,Int.reduceBEq,Int.reduceBNe]
 refine ai.nil a (b _ _ _ ?_);clear b K
 exact fC (l7 rfl (by simp only[*,go_sem,-a,-hJ,muA,msA,stA,smA,Int.reduceBEq,Int.reduceBNe]) (by simp only[*,go_sem,-a,-hJ,muA,msA,stA,smA,Int.reduceBEq,Int.reduceBNe]) ⟨rfl,v,e,rfl,rfl⟩).2
theorem KR {u:Nat}:
  cz Tryz.prog (ZJ TT Φ) 142 #[.pointer (some (stA x.Wg))] F (.co x k (.look u) 1)
   (fun r F' c=>F'=F/\∃v:Nat,v<=u/\r= .int .u64 ((v:Int)*4294967296+((0:Nat):Int))/\c= .co x k (if v=0 then .eV else .look v) 1):=by
 have a:=ZJ.ek TT Φ
 have hJ:True:=trivial
 refine cz.go (main:=true) a Tryz.func142 rfl Tryz.ntmps142 (by simp) fun A e hd hs=>?_
 have f:=hs 0
 clear hs
 repeat refine az (a _) ?_
 refine aV a fun K b=>?_
 refine ai.pure (a _) 1 (n:=0) _ rfl rfl ?_;simp only[*,go_sem,-b,-a,muA,msA,stA,smA,Int.reduceBEq,Int.reduceBNe]
 refine ai.nil a (b _ _ _ ?_);clear b K
 repeat refine az (a _) ?_
 refine aV a fun K b=>?_
 refine ai.pure (a _) 3 (n:=2) _ rfl rfl ?_;simp only[*,go_sem,-b,-a,muA,msA,stA,smA,Int.reduceBEq,Int.reduceBNe]
 refine KF yz ⟨_,_,_,rfl,(by first|(simp only[*,go_sem,-b,-a,-hJ];done)|rfl),rfl,by first|(simp only[*,go_sem,-b,-a,-hJ,muA,msA,stA,smA,Int.reduceBEq,Int.reduceBNe];done)|(simp only[*,go_sem,-b,-a,-hJ,muA,msA,stA,smA,Int.reduceBEq,Int.reduceBNe];rfl),rfl⟩ fun v d=>?_
 refine ai.pure (a _) 1 (n:=0) _ rfl rfl ?_;simp only[*,go_sem,-b,-a,muA,msA,stA,smA,Int.reduceBEq,Int.reduceBNe]
 refine ai.nil a (b _ _ _ ?_);clear b K
 exact fC (l7 rfl (by simp only[*,go_sem,-a,-hJ,muA,msA,stA,smA,Int.reduceBEq,Int.reduceBNe]) (by simp only[*,go_sem,-a,-hJ,muA,msA,stA,smA,Int.reduceBEq,Int.reduceBNe]) ⟨rfl,v,d,rfl,rfl⟩).2
theorem KS:
  cz Tryz.prog (ZJ TT Φ) 142 #[.pointer (some (stA x.Wg))] F (.co x k .eV 1)
   (fun r F' c=>F'=F/\r= .int .u64 0/\c= .co x k .eV 1):=by
 have a:=ZJ.ek TT Φ
 have hJ:True:=trivial
 refine cz.go (main:=true) a Tryz.func142 rfl Tryz.ntmps142 (by simp) fun A d hd hs=>?_
 have e:=hs 0
 clear hs
 repeat refine az (a _) ?_
 refine aV a fun K b=>?_
 refine ai.pure (a _) 1 (n:=0) _ rfl rfl ?_;simp only[*,go_sem,-b,-a,muA,msA,stA,smA,Int.reduceBEq,Int.reduceBNe]
 refine ai.nil a (b _ _ _ ?_);clear b K
 repeat refine az (a _) ?_
 refine aV a fun K b=>?_
 refine ai.pure (a _) 3 (n:=2) _ rfl rfl ?_;simp only[*,go_sem,-b,-a,muA,msA,stA,smA,Int.reduceBEq,Int.reduceBNe]
 refine KG yz ⟨_,_,_,rfl,(by first|(simp only[*,go_sem,-b,-a,-hJ];done)|rfl),rfl,by first|(simp only[*,go_sem,-b,-a,-hJ,muA,msA,stA,smA,Int.reduceBEq,Int.reduceBNe];done)|(simp only[*,go_sem,-b,-a,-hJ,muA,msA,stA,smA,Int.reduceBEq,Int.reduceBNe];rfl),rfl⟩ ?_
 refine ai.pure (a _) 1 (n:=0) _ rfl rfl ?_;simp only[*,go_sem,-b,-a,muA,msA,stA,smA,Int.reduceBEq,Int.reduceBNe]
 refine ai.nil a (b _ _ _ ?_);clear b K
 exact fC (l7 rfl (by simp only[*,go_sem,-a,-hJ,muA,msA,stA,smA,Int.reduceBEq,Int.reduceBNe]) (by simp only[*,go_sem,-a,-hJ,muA,msA,stA,smA,Int.reduceBEq,Int.reduceBNe]) ⟨rfl,rfl,rfl⟩).2
theorem KT (d:x.Mu≠x.Wg/\x.Mu≠x.Is/\x.Wg≠x.Is){v:Nat}(e:0<v):
  cz Tryz.prog (ZJ TT Φ) 151 #[.pointer (some (stA x.Wg)),.int .u64 ((v:Int)*4294967296+((0:Nat):Int)),.int .u64 ((v:Int)*4294967296+((0:Nat):Int)+1)] F (.co x x.n (.look v) 1)
   (fun r F' c=>F'=F/\((r= .bool true/\c= .co x x.n .reg 1)\/(r= .bool false/\c= .co x x.n (.look (v - 1)) 1))):=by
 have a:=ZJ.ek TT Φ
 have hJ:True:=trivial
 refine cz.go (main:=true) a Tryz.func151 rfl Tryz.ntmps151 (by simp) fun A f hd hs=>?_
 have g:=hs 0
 have k1:=hs 1
 have h:=hs 2
 clear hs
 repeat refine az (a _) ?_
 refine aV a fun K b=>?_
 refine ai.pure (a _) 1 (n:=0) _ rfl rfl ?_;simp only[*,go_sem,-b,-a,muA,msA,stA,smA,Int.reduceBEq,Int.reduceBNe]
 refine ai.nil a (b _ _ _ ?_);clear b K
 repeat refine az (a _) ?_
 refine aV a fun K b=>?_
 refine ai.pure (a _) 5 (n:=2) _ rfl rfl ?_;simp only[*,go_sem,-b,-a,muA,msA,stA,smA,Int.reduceBEq,Int.reduceBNe]
 refine KH JR d e rfl ⟨_,_,_,rfl,(by first|(simp only[*,go_sem,-b,-a,-hJ];done)|rfl),rfl,by first|(simp only[*,go_sem,-b,-a,-hJ,muA,msA,stA,smA,Int.reduceBEq,Int.reduceBNe];done)|(simp only[*,go_sem,-b,-a,-hJ,muA,msA,stA,smA,Int.reduceBEq,Int.reduceBNe];rfl),rfl⟩ ?_ ?_
 ·refine ai.pure (a _) 1 (n:=0) _ rfl rfl ?_;simp only[*,go_sem,-b,-a,muA,msA,stA,smA,Int.reduceBEq,Int.reduceBNe]
  refine ai.nil a (b _ _ _ ?_);clear b K
  exact fC (l7 rfl (by simp only[*,go_sem,-a,-hJ,muA,msA,stA,smA,Int.reduceBEq,Int.reduceBNe]) (by simp only[*,go_sem,-a,-hJ,muA,msA,stA,smA,Int.reduceBEq,Int.reduceBNe]) ⟨rfl,.inl ⟨rfl,rfl⟩⟩).2
 ·refine ai.pure (a _) 1 (n:=0) _ rfl rfl ?_;simp only[*,go_sem,-b,-a,muA,msA,stA,smA,Int.reduceBEq,Int.reduceBNe]
  refine ai.nil a (b _ _ _ ?_);clear b K
  exact fC (l7 rfl (by simp only[*,go_sem,-a,-hJ,muA,msA,stA,smA,Int.reduceBEq,Int.reduceBNe]) (by simp only[*,go_sem,-a,-hJ,muA,msA,stA,smA,Int.reduceBEq,Int.reduceBNe]) ⟨rfl,.inr ⟨rfl,rfl⟩⟩).2
end
def KU (Wg:Nat)(F:af)(z:Z)(v:Int)(a:Act)(F':af)(b:Z):Prop:=
 F'=F/\slot a 1= .int .i64 1/\slot a 7= .int .i32 v/\slot a 8= .int .u32 0/\sz a=117/\a.defers=[dcall 135 #[]]/\b=z
section
variable {Φ : Goroutine → af → Prop} {x : X} {F : af} {k : Nat}
theorem KV (o:x.Mu≠x.Wg/\x.Mu≠x.Is/\x.Wg≠x.Is)(hn:x.n<67108864):
  cz Tryz.prog (ZJ TT Φ) 115 #[.pointer (some (stA x.Wg)),.int .i64 1] F (.co x k (.opn 0) 0)
   (fun r F' g=>r= .tuple #[]/\F'=F/\g= .co x k (.opn 1) 0):=by
 have a:=ZJ.ek TT Φ
 have hJ:True:=trivial
 refine cz.KN l8 Tryz.func115 rfl rfl Tryz.ntmps115 (by simp) fun A i hd hs=>?_
 have p:=hs 0
 have k1:=hs 1
 clear hs
 have c1:decide ((1:Int)<0)=false:=by decide
 have c2:decide ((1:Int)>0)=true:=by decide
 repeat refine az (a _) ?_
 refine cQ (a _) (by simp only[*,go_sem,-a,-hJ,Int.reduceBEq,Int.reduceBNe]) ?_
 repeat refine az (a _) ?_
 refine aV a fun K b=>?_
 refine ai.pure (a _) 2 (n:=0) _ rfl rfl ?_;simp only[*,go_sem,-b,-a,muA,msA,stA,smA,Int.reduceBEq,Int.reduceBNe]
 refine ai.nil a (b _ _ _ ?_);clear b K
 repeat refine az (a _) ?_
 refine cx (a _) (by simp only[*,go_sem,-a,-hJ,Int.reduceBEq,Int.reduceBNe]) ?_
 refine cA (a _) ?_
 repeat refine az (a _) ?_
 refine aV a fun K b=>?_
 refine Dq qT ⟨_,_,_,rfl,(by first|(simp only[*,go_sem,-b,-a,-hJ];done)|rfl),rfl,by first|(simp only[*,go_sem,-b,-a,-hJ,muA,msA,stA,smA,Int.reduceBEq,Int.reduceBNe];done)|(simp only[*,go_sem,-b,-a,-hJ,muA,msA,stA,smA,Int.reduceBEq,Int.reduceBNe];rfl),rfl⟩ (fun e=>by cases e) (.opn 0) (fun _ _ _ h=>h) ?_
 refine ai.nil a (b _ _ _ ?_);clear b K
 repeat refine az (a _) ?_
 refine aV a fun K b=>?_
 refine ai.defer (a _) rfl (by first|(simp only[*,go_sem,-b,-a,-hJ];done)|rfl) rfl rfl (by simp;rfl) fun d e1 e2 j=>?_
 have l0:slot d 0= .pointer (some ⟨x.Wg,0,none⟩):=(e1 0).trans (by simp only[*,go_sem,-a,-hJ,muA,msA,stA,smA,Int.reduceBEq,Int.reduceBNe])
 have l:slot d 1= .int .i64 1:=(e1 1).trans (by simp only[*,go_sem,-a,-hJ,muA,msA,stA,smA,Int.reduceBEq,Int.reduceBNe])
 replace i:sz d=117:=e2.trans (by simp only[*,go_sem,-a,-hJ,muA,msA,stA,smA,Int.reduceBEq,Int.reduceBNe])
 replace hd:d.defers=[dcall 135 #[]]:=j.trans (by simp only[*,go_sem,-a,-hJ,muA,msA,stA,smA,Int.reduceBEq,Int.reduceBNe])
 clear e1 e2 j p k1
 refine ai.nil a (b _ _ _ ?_);clear b K
 repeat refine az (a _) ?_
 refine aV a fun K b=>?_
 refine ai.pure (a _) 1 (n:=0) _ rfl rfl ?_;simp only[*,go_sem,-b,-a,muA,msA,stA,smA,Int.reduceBEq,Int.reduceBNe]
 refine ai.nil a (b _ _ _ ?_);clear b K
 repeat refine az (a _) ?_
 refine aV a fun K b=>?_
 refine ai.entry (.bool false) (a _) C8 ⟨_,_,_,rfl,(by first|(simp only[*,go_sem,-b,-a,-hJ];done)|rfl),rfl,by first|(simp only[*,go_sem,-b,-a,-hJ,muA,msA,stA,smA,Int.reduceBEq,Int.reduceBNe];done)|(simp only[*,go_sem,-b,-a,-hJ,muA,msA,stA,smA,Int.reduceBEq,Int.reduceBNe];rfl),rfl⟩ ?_
 refine ai.nil a (b _ _ _ ?_);clear b K
 repeat refine az (a _) ?_
 refine cx (a _) (by simp only[*,go_sem,-a,-hJ,Int.reduceBEq,Int.reduceBNe]) ?_
 refine cA (a _) ?_
 have w1:IntKind.u64.wrap 1=1:=by decide
 have w2:IntKind.u64.wrap (1*2 ^ min 32 64)=4294967296:=by decide
 repeat refine az (a _) ?_
 refine aV a fun K b=>?_
 refine ai.pure (a _) 6 (n:=2) _ rfl rfl ?_;simp only[*,go_sem,-b,-a,muA,msA,stA,smA,Int.reduceBEq,Int.reduceBNe]
 refine ai.gj (a _) rfl (by first|(simp only[*,go_sem,-b,-a,-hJ];done)|rfl) rfl Am (by simp only[*,go_sem,-b,-a,-hJ,muA,msA,stA,smA,Int.reduceBEq,Int.reduceBNe]) (KQ o hn) fun r F' aI q=>?_
 obtain ⟨rfl,v,s,rfl,rfl⟩:=q
 obtain ⟨y,c⟩:∃y:Int,y=((v+1:Nat):Int)*4294967296+((0:Nat):Int):=⟨_,rfl⟩
 rw[<-c]
 have a1:k4 y 2147483648=0:=by rw[c];exact yO (v+1) 0 (by omega) (by omega)
 have a2:k4 y 2147483647=0:=by rw[c];exact yP (v+1) 0 (by omega) (by omega)
 obtain ⟨V,m⟩:∃V:Int,V=((v+1:Nat):Int):=⟨_,rfl⟩
 have a3:y.fdiv (2 ^ min 32 64)=V:=by rw[c,m];exact yQ (v+1) 0 (by omega)
 have a4:IntKind.i32.wrap V=V:=iI (by omega) (by omega)
 have a5:IntKind.u32.wrap 0=0:=by decide
 have w:IntKind.i32.wrap 1=1:=by decide
 have c3:decide (V<0)=false:=by simp;omega
 have c4:decide (V>0)=true:=by simp;omega
 have f:(V==1)=true\/(V==1)=false:=by cases (V==1)<;>simp
 clear c m s
 refine ai.pure (a _) 1 (n:=0) _ rfl rfl ?_;simp only[*,go_sem,-b,-a,muA,msA,stA,smA,Int.reduceBEq,Int.reduceBNe]
 refine ai.nil a (b _ _ _ ?_);clear b K
 repeat refine az (a _) ?_
 refine aV a fun K b=>?_
 refine ai.pure (a _) 7 (n:=0) _ rfl rfl ?_;simp only[*,go_sem,-b,-a,muA,msA,stA,smA,Int.reduceBEq,Int.reduceBNe]
 refine ai.nil a (b _ _ _ ?_);clear b K
 repeat refine az (a _) ?_
 refine cx (a _) (by simp only[*,go_sem,-a,-hJ,Int.reduceBEq,Int.reduceBNe]) ?_
 refine cA (a _) ?_
 repeat refine az (a _) ?_
 refine aV a fun K b=>?_
 refine ai.pure (a _) 4 (n:=0) _ rfl rfl ?_;simp only[*,go_sem,-b,-a,muA,msA,stA,smA,Int.reduceBEq,Int.reduceBNe]
 refine ai.nil a (b _ _ _ ?_);clear b K
 repeat refine az (a _) ?_
 refine aV a fun K b=>?_
 refine ai.pure (a _) 4 (n:=0) _ rfl rfl ?_;simp only[*,go_sem,-b,-a,muA,msA,stA,smA,Int.reduceBEq,Int.reduceBNe]
 refine ai.nil a (b _ _ _ ?_);clear b K
 repeat refine az (a _) ?_
 refine aV a fun K b=>?_
 refine ai.pure (a _) 10 (n:=0) _ rfl rfl ?_;simp only[*,go_sem,-b,-a,muA,msA,stA,smA,Int.reduceBEq,Int.reduceBNe]
 refine ai.nil a (b _ _ _ ?_);clear b K
 repeat refine az (a _) ?_
 refine uz a (KU x.Wg F' (.co x k (.opn 1) 1) V) ?_ ?_
 ·rcases f with f|f
  ·repeat refine az (a _) ?_
   refine cQ (a _) (by simp only[*,go_sem,-a,-hJ,Int.reduceBEq,Int.reduceBNe]) ?_
   repeat refine az (a _) ?_
   refine aV a fun K b=>?_
   refine ai.pure (a _) 3 (n:=2) _ rfl rfl ?_;simp only[*,go_sem,-b,-a,muA,msA,stA,smA,Int.reduceBEq,Int.reduceBNe]
   refine uD ⟨x.Wg,1,none⟩ C9 l9 Da ⟨_,rfl,(by first|(simp only[*,go_sem,-b,-a,-hJ];done)|rfl),rfl,rfl⟩ (fun e=>by cases e) (by simp only[*,go_sem,-b,-a,-hJ,muA,msA,stA,smA,Int.reduceBEq,Int.reduceBNe]) Du ?_
   refine KC JU ⟨_,_,_,rfl,(by first|(simp only[*,go_sem,-b,-a,-hJ];done)|rfl),rfl,by first|(simp only[*,go_sem,-b,-a,-hJ,muA,msA,stA,smA,Int.reduceBEq,Int.reduceBNe];done)|(simp only[*,go_sem,-b,-a,-hJ,muA,msA,stA,smA,Int.reduceBEq,Int.reduceBNe];rfl),rfl⟩ (fun e=>by cases e) ?_
   refine ai.nil a (b _ _ _ ?_);clear b K
   exact ey ⟨rfl,(by simp only[*,go_sem,-a,-hJ,muA,msA,stA,smA,Int.reduceBEq,Int.reduceBNe]),(by simp only[*,go_sem,-a,-hJ,muA,msA,stA,smA,Int.reduceBEq,Int.reduceBNe]),(by simp only[*,go_sem,-a,-hJ,muA,msA,stA,smA,Int.reduceBEq,Int.reduceBNe]),(by simp only[*,go_sem,-a,-hJ,muA,msA,stA,smA,Int.reduceBEq,Int.reduceBNe]),(by simp only[*,go_sem,-a,-hJ,muA,msA,stA,smA,Int.reduceBEq,Int.reduceBNe]),rfl⟩
  ·repeat refine az (a _) ?_
   refine cx (a _) (by simp only[*,go_sem,-a,-hJ,Int.reduceBEq,Int.reduceBNe]) ?_
   refine cA (a _) ?_
   exact ey ⟨rfl,(by simp only[*,go_sem,-a,-hJ,muA,msA,stA,smA,Int.reduceBEq,Int.reduceBNe]),(by simp only[*,go_sem,-a,-hJ,muA,msA,stA,smA,Int.reduceBEq,Int.reduceBNe]),(by simp only[*,go_sem,-a,-hJ,muA,msA,stA,smA,Int.reduceBEq,Int.reduceBNe]),(by simp only[*,go_sem,-a,-hJ,muA,msA,stA,smA,Int.reduceBEq,Int.reduceBNe]),(by simp only[*,go_sem,-a,-hJ,muA,msA,stA,smA,Int.reduceBEq,Int.reduceBNe]),rfl⟩
 clear f l0 l i hd a1 a2 a3
 rintro A t z ⟨rfl,l,B,C,i,hd,rfl⟩
 repeat refine az (a _) ?_
 refine aV a fun K b=>?_
 refine ai.pure (a _) 2 (n:=0) _ rfl rfl ?_;simp only[*,go_sem,-b,-a,muA,msA,stA,smA,Int.reduceBEq,Int.reduceBNe]
 refine ai.nil a (b _ _ _ ?_);clear b K
 repeat refine az (a _) ?_
 refine cx (a _) (by simp only[*,go_sem,-a,-hJ,Int.reduceBEq,Int.reduceBNe]) ?_
 refine cA (a _) ?_
 repeat refine az (a _) ?_
 refine aV a fun K b=>?_
 refine ai.pure (a _) 12 (n:=0) _ rfl rfl ?_;simp only[*,go_sem,-b,-a,muA,msA,stA,smA,Int.reduceBEq,Int.reduceBNe]
 refine ai.nil a (b _ _ _ ?_);clear b K
 repeat refine az (a _) ?_
 refine cx (a _) (by simp only[*,go_sem,-a,-hJ,Int.reduceBEq,Int.reduceBNe]) ?_
 refine cA (a _) ?_
 repeat refine az (a _) ?_
 refine aV a fun K b=>?_
 refine ai.pure (a _) 6 (n:=0) _ rfl rfl ?_;simp only[*,go_sem,-b,-a,muA,msA,stA,smA,Int.reduceBEq,Int.reduceBNe]
 refine ai.nil a (b _ _ _ ?_);clear b K
 repeat refine az (a _) ?_
 refine cQ (a _) (by simp only[*,go_sem,-a,-hJ,Int.reduceBEq,Int.reduceBNe]) ?_
 exact fC (show yS 135 (fun r u g=>r= .tuple #[]/\u=t/\g= .co x k (.opn 1) 0) .ret _ _ _ from KP (by simp only[*,go_sem,-a,-hJ,muA,msA,stA,smA,Int.reduceBEq,Int.reduceBNe]) (fun e=>by cases e) ⟨rfl,rfl,rfl⟩)
end
def Dv (x:X)(F:af)(m:Nat)(a:Act)(F':af)(z:Z):Prop:=
 ∃u:Nat,u<=m/\u<=x.n/\F'=F/\slot a 0= .pointer (some ⟨x.Wg,0,none⟩)/\sz a=84/\a.defers=[]/\z= .co x x.n (.look u) 1
section
variable {Φ : Goroutine → af → Prop} {x : X} {F : af} {k : Nat}
theorem KW (l:x.Mu≠x.Wg/\x.Mu≠x.Is/\x.Wg≠x.Is)(hn:x.n<67108864):
  cz Tryz.prog (ZJ TT Φ) 122 #[.pointer (some (stA x.Wg))] F (.co x x.n (.opn 0) 0)
   (fun r F' d=>r= .tuple #[]/\F'=⟨F.ro,(x.Is,(x.cy TT).fin)::F.own⟩/\d= .free):=by
 have a:=ZJ.ek TT Φ
 have hJ:True:=trivial
 refine cz.go (main:=true) a Tryz.func122 rfl Tryz.ntmps122 (by simp) fun A o hd hs=>?_
 have p:=hs 0
 clear hs
 repeat refine az (a _) ?_
 refine cQ (a _) (by simp only[*,go_sem,-a,-hJ,Int.reduceBEq,Int.reduceBNe]) ?_
 repeat refine az (a _) ?_
 refine aV a fun K b=>?_
 refine Dq qT ⟨_,_,_,rfl,(by first|(simp only[*,go_sem,-b,-a,-hJ];done)|rfl),rfl,by first|(simp only[*,go_sem,-b,-a,-hJ,muA,msA,stA,smA,Int.reduceBEq,Int.reduceBNe];done)|(simp only[*,go_sem,-b,-a,-hJ,muA,msA,stA,smA,Int.reduceBEq,Int.reduceBNe];rfl),rfl⟩ (fun e=>by cases e) (.look x.n) (fun _ _ _ h=>Jp h) ?_
 refine ai.nil a (b _ _ _ ?_);clear b K
 repeat refine az (a _) ?_
 refine jW a ?_
 refine qS a (Dv x F) x.n ?_ ?_
 ·exact ⟨x.n,Nat.le_refl _,Nat.le_refl _,rfl,(by simp only[*,go_sem,-a,-hJ,muA,msA,stA,smA,Int.reduceBEq,Int.reduceBNe]),(by simp only[*,go_sem,-a,-hJ,muA,msA,stA,smA,Int.reduceBEq,Int.reduceBNe]),(by simp only[*,go_sem,-a,-hJ,muA,msA,stA,smA,Int.reduceBEq,Int.reduceBNe]),rfl⟩
 ·clear o hd p
  rintro m A F' d ⟨u,z,B,rfl,p,o,hd,rfl⟩
  repeat refine az (a _) ?_
  refine jW a ?_
  repeat refine az (a _) ?_
  refine aV a fun K b=>?_
  refine ai.pure (a _) 3 (n:=2) _ rfl rfl ?_;simp only[*,go_sem,-b,-a,muA,msA,stA,smA,Int.reduceBEq,Int.reduceBNe]
  refine ai.gj (a _) rfl (by first|(simp only[*,go_sem,-b,-a,-hJ];done)|rfl) rfl vH (by simp only[*,go_sem,-b,-a,-hJ,muA,msA,stA,smA,Int.reduceBEq,Int.reduceBNe]) KR fun r j C f=>?_
  obtain ⟨rfl,v,t,rfl,rfl⟩:=f
  obtain ⟨y,c⟩:∃y:Int,y=(v:Int)*4294967296+((0:Nat):Int):=⟨_,rfl⟩
  rw[<-c]
  have a1:k4 y 2147483648=0:=by rw[c];exact yO v 0 (by omega) (by omega)
  have a2:k4 y 2147483647=0:=by rw[c];exact yP v 0 (by omega) (by omega)
  obtain ⟨V,g⟩:∃V:Int,V=(v:Int):=⟨_,rfl⟩
  have a3:y.fdiv (2 ^ min 32 64)=V:=by rw[c,g];exact yQ v 0 (by omega)
  have a4:IntKind.i32.wrap V=V:=iI (by omega) (by omega)
  have a5:IntKind.u32.wrap 0=0:=by decide
  have D:IntKind.u64.wrap (y+1)=y+1:=by
   unfold IntKind.wrap
   simp only[IntKind.bits,IntKind.signed]
   simp
   omega
  by_cases i:v=0
  ·
   have c1:(V==0)=true:=by rw[g,i];rfl
   have hp:(if v=0 then P0.eV else .look v)= .eV:=if_pos i
   rw[hp]
   clear hp c g t i
   refine ai.pure (a _) 1 (n:=0) _ rfl rfl ?_;simp only[*,go_sem,-b,-a,muA,msA,stA,smA,Int.reduceBEq,Int.reduceBNe]
   refine ai.nil a (b _ _ _ ?_);clear b K
   repeat refine az (a _) ?_
   refine aV a fun K b=>?_
   refine ai.pure (a _) 4 (n:=0) _ rfl rfl ?_;simp only[*,go_sem,-b,-a,muA,msA,stA,smA,Int.reduceBEq,Int.reduceBNe]
   refine ai.nil a (b _ _ _ ?_);clear b K
   repeat refine az (a _) ?_
   refine aV a fun K b=>?_
   refine ai.pure (a _) 4 (n:=0) _ rfl rfl ?_;simp only[*,go_sem,-b,-a,muA,msA,stA,smA,Int.reduceBEq,Int.reduceBNe]
   refine ai.nil a (b _ _ _ ?_);clear b K
   repeat refine az (a _) ?_
   refine aV a fun K b=>?_
   refine ai.pure (a _) 2 (n:=0) _ rfl rfl ?_;simp only[*,go_sem,-b,-a,muA,msA,stA,smA,Int.reduceBEq,Int.reduceBNe]
   refine ai.nil a (b _ _ _ ?_);clear b K
   repeat refine az (a _) ?_
   refine cQ (a _) (by simp only[*,go_sem,-a,-hJ,Int.reduceBEq,Int.reduceBNe]) ?_
   repeat refine az (a _) ?_
   refine cQ (a _) (by simp only[*,go_sem,-a,-hJ,Int.reduceBEq,Int.reduceBNe]) ?_
   repeat refine az (a _) ?_
   refine aV a fun K b=>?_
   refine Dr l8 ⟨_,_,_,rfl,(by first|(simp only[*,go_sem,-b,-a,-hJ];done)|rfl),rfl,by first|(simp only[*,go_sem,-b,-a,-hJ,muA,msA,stA,smA,Int.reduceBEq,Int.reduceBNe];done)|(simp only[*,go_sem,-b,-a,-hJ,muA,msA,stA,smA,Int.reduceBEq,Int.reduceBNe];rfl),rfl⟩ (fun e=>by cases e) ?_
   refine ai.nil a (b _ _ _ ?_);clear b K
   repeat refine az (a _) ?_
   refine aV a fun K b=>?_
   refine ai.pure (a _) 1 (n:=2) _ rfl rfl ?_;simp only[*,go_sem,-b,-a,muA,msA,stA,smA,Int.reduceBEq,Int.reduceBNe]
   refine uD ⟨x.Wg,0,none⟩ yB l9 yD ⟨_,rfl,(by first|(simp only[*,go_sem,-b,-a,-hJ];done)|rfl),rfl,rfl⟩ (fun e=>by cases e) (by simp only[*,go_sem,-b,-a,-hJ,muA,msA,stA,smA,Int.reduceBEq,Int.reduceBNe]) Dt ?_
   refine Ds uk rfl ⟨_,_,_,rfl,(by first|(simp only[*,go_sem,-b,-a,-hJ];done)|rfl),rfl,by first|(simp only[*,go_sem,-b,-a,-hJ,muA,msA,stA,smA,Int.reduceBEq,Int.reduceBNe];done)|(simp only[*,go_sem,-b,-a,-hJ,muA,msA,stA,smA,Int.reduceBEq,Int.reduceBNe];rfl),rfl⟩ ?_
   refine ai.nil a (b _ _ _ ?_);clear b K
   repeat refine az (a _) ?_
   refine aV a fun K b=>?_
   refine ai.pure (a _) 11 (n:=0) _ rfl rfl ?_;simp only[*,go_sem,-b,-a,muA,msA,stA,smA,Int.reduceBEq,Int.reduceBNe]
   refine ai.nil a (b _ _ _ ?_);clear b K
   repeat refine az (a _) ?_
   refine cx (a _) (by simp only[*,go_sem,-a,-hJ,Int.reduceBEq,Int.reduceBNe]) ?_
   refine cA (a _) ?_
   exact fC (show jX Tryz.prog Tryz.f122 (fun (r:Value) (F':af) (d:Z)=>r= .tuple #[]/\F'=⟨j.ro,(x.Is,(x.cy TT).fin)::j.own⟩/\d=Z.free) .ret _ _ _ from o3 rfl (by simp only[*,go_sem,-a,-hJ,muA,msA,stA,smA,Int.reduceBEq,Int.reduceBNe]) ⟨rfl,rfl,rfl⟩)
  ·have c1:(V==0)=false:=by simp;omega
   have hp:(if v=0 then P0.eV else .look v)= .look v:=if_neg i
   rw[hp]
   have k:=KT (Φ:=Φ) (F:=j) l (v:=v) (by omega)
   rw[<-c] at k
   clear hp c g
   refine ai.pure (a _) 1 (n:=0) _ rfl rfl ?_;simp only[*,go_sem,-b,-a,muA,msA,stA,smA,Int.reduceBEq,Int.reduceBNe]
   refine ai.nil a (b _ _ _ ?_);clear b K
   repeat refine az (a _) ?_
   refine aV a fun K b=>?_
   refine ai.pure (a _) 4 (n:=0) _ rfl rfl ?_;simp only[*,go_sem,-b,-a,muA,msA,stA,smA,Int.reduceBEq,Int.reduceBNe]
   refine ai.nil a (b _ _ _ ?_);clear b K
   repeat refine az (a _) ?_
   refine aV a fun K b=>?_
   refine ai.pure (a _) 4 (n:=0) _ rfl rfl ?_;simp only[*,go_sem,-b,-a,muA,msA,stA,smA,Int.reduceBEq,Int.reduceBNe]
   refine ai.nil a (b _ _ _ ?_);clear b K
   repeat refine az (a _) ?_
   refine aV a fun K b=>?_
   refine ai.pure (a _) 2 (n:=0) _ rfl rfl ?_;simp only[*,go_sem,-b,-a,muA,msA,stA,smA,Int.reduceBEq,Int.reduceBNe]
   refine ai.nil a (b _ _ _ ?_);clear b K
   repeat refine az (a _) ?_
   refine cx (a _) (by simp only[*,go_sem,-a,-hJ,Int.reduceBEq,Int.reduceBNe]) ?_
   refine cA (a _) ?_
   repeat refine az (a _) ?_
   refine aV a fun K b=>?_
   refine ai.pure (a _) 6 (n:=1) _ rfl rfl ?_;simp only[*,go_sem,-b,-a,muA,msA,stA,smA,Int.reduceBEq,Int.reduceBNe]
   refine ai.gj (a _) rfl (by first|(simp only[*,go_sem,-b,-a,-hJ];done)|rfl) rfl E6 (by simp only[*,go_sem,-b,-a,-hJ,muA,msA,stA,smA,Int.reduceBEq,Int.reduceBNe]) k fun r w E f=>?_
   clear k
   obtain ⟨rfl,⟨rfl,rfl⟩|⟨rfl,rfl⟩⟩:=f
   ·
    refine ai.nil a (b _ _ _ ?_);clear b K
    repeat refine az (a _) ?_
    refine cQ (a _) (by simp only[*,go_sem,-a,-hJ,Int.reduceBEq,Int.reduceBNe]) ?_
    repeat refine az (a _) ?_
    refine aV a fun K b=>?_
    refine ai.pure (a _) 4 (n:=0) _ rfl rfl ?_;simp only[*,go_sem,-b,-a,muA,msA,stA,smA,Int.reduceBEq,Int.reduceBNe]
    refine ai.nil a (b _ _ _ ?_);clear b K
    repeat refine az (a _) ?_
    refine cQ (a _) (by simp only[*,go_sem,-a,-hJ,Int.reduceBEq,Int.reduceBNe]) ?_
    repeat refine az (a _) ?_
    refine aV a fun K b=>?_
    refine ai.pure (a _) 3 (n:=2) _ rfl rfl ?_;simp only[*,go_sem,-b,-a,muA,msA,stA,smA,Int.reduceBEq,Int.reduceBNe]
    refine uD ⟨x.Wg,1,none⟩ C9 l9 Da ⟨_,rfl,(by first|(simp only[*,go_sem,-b,-a,-hJ];done)|rfl),rfl,rfl⟩ (fun _=>rfl) (by simp only[*,go_sem,-b,-a,-hJ,muA,msA,stA,smA,Int.reduceBEq,Int.reduceBNe]) Du ?_
    refine KD JV ⟨_,_,_,rfl,(by first|(simp only[*,go_sem,-b,-a,-hJ];done)|rfl),rfl,by first|(simp only[*,go_sem,-b,-a,-hJ,muA,msA,stA,smA,Int.reduceBEq,Int.reduceBNe];done)|(simp only[*,go_sem,-b,-a,-hJ,muA,msA,stA,smA,Int.reduceBEq,Int.reduceBNe];rfl),rfl⟩ (fun _=>rfl) ?_
    refine ai.nil a (b _ _ _ ?_);clear b K
    repeat refine az (a _) ?_
    refine aV a fun K b=>?_
    refine ai.pure (a _) 1 (n:=0) _ rfl rfl ?_;simp only[*,go_sem,-b,-a,muA,msA,stA,smA,Int.reduceBEq,Int.reduceBNe]
    refine ai.nil a (b _ _ _ ?_);clear b K
    repeat refine az (a _) ?_
    refine aV a fun K b=>?_
    refine ai.pure (a _) 6 (n:=0) _ rfl rfl ?_;simp only[*,go_sem,-b,-a,muA,msA,stA,smA,Int.reduceBEq,Int.reduceBNe]
    refine ai.nil a (b _ _ _ ?_);clear b K
    repeat refine az (a _) ?_
    refine cx (a _) (by simp only[*,go_sem,-a,-hJ,Int.reduceBEq,Int.reduceBNe]) ?_
    refine cA (a _) ?_
    repeat refine az (a _) ?_
    refine aV a fun K b=>?_
    refine ai.pure (a _) 4 (n:=1) _ rfl rfl ?_;simp only[*,go_sem,-b,-a,muA,msA,stA,smA,Int.reduceBEq,Int.reduceBNe]
    refine KI (.bool false) JW l rfl ⟨_,_,_,rfl,(by first|(simp only[*,go_sem,-b,-a,-hJ];done)|rfl),rfl,by first|(simp only[*,go_sem,-b,-a,-hJ,muA,msA,stA,smA,Int.reduceBEq,Int.reduceBNe];done)|(simp only[*,go_sem,-b,-a,-hJ,muA,msA,stA,smA,Int.reduceBEq,Int.reduceBNe];rfl),rfl⟩ ?_
    refine ai.nil a (b _ _ _ ?_);clear b K
    repeat refine az (a _) ?_
    refine aV a fun K b=>?_
    refine ai.pure (a _) 3 (n:=3) _ rfl rfl ?_;simp only[*,go_sem,-b,-a,muA,msA,stA,smA,Int.reduceBEq,Int.reduceBNe]
    refine ai.gj (a _) rfl (by first|(simp only[*,go_sem,-b,-a,-hJ];done)|rfl) rfl vH (by simp only[*,go_sem,-b,-a,-hJ,muA,msA,stA,smA,Int.reduceBEq,Int.reduceBNe]) KS fun r q G f=>?_
    obtain ⟨rfl,rfl,rfl⟩:=f
    refine ai.pure (a _) 2 (n:=0) _ rfl rfl ?_;simp only[*,go_sem,-b,-a,muA,msA,stA,smA,Int.reduceBEq,Int.reduceBNe]
    refine ai.nil a (b _ _ _ ?_);clear b K
    repeat refine az (a _) ?_
    refine cQ (a _) (by simp only[*,go_sem,-a,-hJ,Int.reduceBEq,Int.reduceBNe]) ?_
    repeat refine az (a _) ?_
    refine aV a fun K b=>?_
    refine Dr l8 ⟨_,_,_,rfl,(by first|(simp only[*,go_sem,-b,-a,-hJ];done)|rfl),rfl,by first|(simp only[*,go_sem,-b,-a,-hJ,muA,msA,stA,smA,Int.reduceBEq,Int.reduceBNe];done)|(simp only[*,go_sem,-b,-a,-hJ,muA,msA,stA,smA,Int.reduceBEq,Int.reduceBNe];rfl),rfl⟩ (fun e=>by cases e) ?_
    refine ai.nil a (b _ _ _ ?_);clear b K
    repeat refine az (a _) ?_
    refine aV a fun K b=>?_
    refine ai.pure (a _) 1 (n:=2) _ rfl rfl ?_;simp only[*,go_sem,-b,-a,muA,msA,stA,smA,Int.reduceBEq,Int.reduceBNe]
    refine uD ⟨x.Wg,0,none⟩ yB l9 yD ⟨_,rfl,(by first|(simp only[*,go_sem,-b,-a,-hJ];done)|rfl),rfl,rfl⟩ (fun e=>by cases e) (by simp only[*,go_sem,-b,-a,-hJ,muA,msA,stA,smA,Int.reduceBEq,Int.reduceBNe]) Dt ?_
    refine Ds uk rfl ⟨_,_,_,rfl,(by first|(simp only[*,go_sem,-b,-a,-hJ];done)|rfl),rfl,by first|(simp only[*,go_sem,-b,-a,-hJ,muA,msA,stA,smA,Int.reduceBEq,Int.reduceBNe];done)|(simp only[*,go_sem,-b,-a,-hJ,muA,msA,stA,smA,Int.reduceBEq,Int.reduceBNe];rfl),rfl⟩ ?_
    refine ai.nil a (b _ _ _ ?_);clear b K
    repeat refine az (a _) ?_
    refine aV a fun K b=>?_
    refine ai.pure (a _) 1 (n:=0) _ rfl rfl ?_;simp only[*,go_sem,-b,-a,muA,msA,stA,smA,Int.reduceBEq,Int.reduceBNe]
    refine ai.nil a (b _ _ _ ?_);clear b K
    repeat refine az (a _) ?_
    refine cx (a _) (by simp only[*,go_sem,-a,-hJ,Int.reduceBEq,Int.reduceBNe]) ?_
    refine cA (a _) ?_
    exact fC (show jX Tryz.prog Tryz.f122 (fun (r:Value) (F':af) (d:Z)=>r= .tuple #[]/\F'=⟨q.ro,(x.Is,(x.cy TT).fin)::q.own⟩/\d=Z.free) .ret _ _ _ from o3 rfl (by simp only[*,go_sem,-a,-hJ,muA,msA,stA,smA,Int.reduceBEq,Int.reduceBNe]) ⟨rfl,rfl,rfl⟩)
   ·
    refine ai.nil a (b _ _ _ ?_);clear b K
    repeat refine az (a _) ?_
    refine cx (a _) (by simp only[*,go_sem,-a,-hJ,Int.reduceBEq,Int.reduceBNe]) ?_
    refine cA (a _) ?_
    change ∃s,s<m/\Dv x w s _ _ _
    exact ⟨v - 1,by omega,v - 1,Nat.le_refl _,by omega,rfl,(by simp only[*,go_sem,-a,-hJ,muA,msA,stA,smA,Int.reduceBEq,Int.reduceBNe]),(by simp only[*,go_sem,-a,-hJ,muA,msA,stA,smA,Int.reduceBEq,Int.reduceBNe]),(by simp only[*,go_sem,-a,-hJ,muA,msA,stA,smA,Int.reduceBEq,Int.reduceBNe]),rfl⟩
end
end Go.Proofs.YtjepffnffjdloaaGreatDoor
end
section
namespace Go.Sep
open Go Go.Conc
variable {P : Program}
theorem KX {t e:TypeId}{i:TypeInfo}{n:Nat}{R:Value->af->Prop}{F:af}(hu:P.underlying t=some (.slice e))(hi:P.info? e=some i)(hb:i.bytes=1)(hs:bW P e=some 1)(c:zeroOf P e=some (.bool false))(hn:n<1048576)
  (h:∀b,dL F b->R (.slice (some ⟨b,0,none⟩) n n) (F.push b (.cells (List.replicate n (Value.bool false)).toArray e))):eX P (Instr.makeSlice t (.int .i64 n) (.int .i64 n)) R F:=by
 unfold eX
 have hw:IntKind.i64.wrap (n:Int)=(n:Int):=by
  unfold IntKind.wrap
  simp[IntKind.bits,IntKind.signed]
  omega
 have e1:¬((n:Int)<0\/(1:Int)*(n:Int)>2 ^ 48):=by
  have:((2:Int) ^ 48)=281474976710656:=by decide
  omega
 simp only[Instr.makeSlice,bn,dh,hu,zM,pI,hi,hb,hw]
 have e2:(((n:Int)<0||decide (((1:Nat):Int)*(n:Int)>2 ^ 48))||decide ((n:Int)<0)||decide ((n:Int)>(n:Int)))=false:=by
  have:((2:Int) ^ 48)=281474976710656:=by decide
  simp only[Bool.or_eq_false_iff,decide_eq_false_iff_not]
  omega
 rw[if_neg (by rw[e2];simp)]
 simp only[bn]
 refine vo _ ?_
 simp only[bn,eN,hs,Int.toNat_natCast,Nat.mul_one]
 have fin:∀zero:Array Value,(n≠0->zero=#[.bool false])->aT P (newRow e ((Array.range n).map (fun j=>zero[j % zero.size]!))) (fun a G=>aT P (Pure.pure (Value.slice (some a) n n)) R G) F:=fun zero hzero=>by
  simp only[newRow,bn,pH,bF]
  have d:((Array.range n).map (fun j=>zero[j % zero.size]!))=(List.replicate n (Value.bool false)).toArray:=by
   rcases Nat.eq_zero_or_pos n with rfl|hp
   ·simp
   ·rw[hzero (by omega)]
    rw[<-Array.toList_inj]
    simp only[Array.toList_map,Array.toList_range]
    apply List.ext_getElem
    ·simp
    ·intro i h1 h2
     simp[Nat.mod_one]
  rw[d]
  exact ⟨rfl,h⟩
 by_cases h0:n=0
 ·rw[if_pos h0]
  exact fin #[] (fun x=>absurd h0 x)
 ·rw[if_neg h0]
  rw[bn,mh,c]
  exact fin #[.bool false] (fun _=>rfl)
section
variable {T : PT} {Φ : Goroutine → af → Prop} {fi : FuncId}
def yT:Z->Bool| .co _ _ .reg _=>false|_=>true
theorem ZJ.KY (T:PT)(Φ:Goroutine->af->Prop)(z:Z)(h:yT z=true):Closed T.P true (ZJ T Φ z):=ZJ.closed T Φ fun x k d e=>by subst e;simp[yT] at h
theorem Dw {P:Program}{main:Bool}{S:Type}{JF:S->Goroutine->af->Prop}{ph:S}(hJ:Closed P main (JF ph)){c:Code}{Q:Ex->Act->af->S->Prop}{a:Act}{F F':af}(hle:Le F F')(h:cF JF fi c Q a F ph):cF JF fi c Q a F' ph:=
 fun b k cs hb d=>hJ.mono hle (h b k cs hb d)
theorem yU {P:Program}{main:Bool}{S:Type}{JF:S->Goroutine->af->Prop}{ph:S}(hJ:Closed P main (JF ph)){c:Code}{Q:Ex->Act->af->S->Prop}{a:Act}{F:af}(h:aN (keys F.own)->aA F.ro F.own->cF JF fi c Q a F ph):cF JF fi c Q a F ph:=by
 intro b k cs hb d
 by_cases hw:∃w,Has F w
 ·obtain ⟨w,hw⟩:=hw
  refine h ⟨hw.nodup⟩ (fun b hb off sp=>?_) b k cs hb d
  cases e:F.ro ⟨b,off,sp⟩ with
  |none=>rfl
  |some v=>exact absurd hb (hw.apart _ v e)
 ·exact hJ.step fun w f=>absurd ⟨w,f⟩ hw
end
theorem ny {ro:Addr->Option Value}{b a off:Nat}{sp:Option Nat}{o:Obj}(h:ro ⟨a,off,sp⟩=none)(c:a≠b):bO ro b o ⟨a,off,sp⟩=none:=by simp[bO,h,c]
theorem KZ {ro:Addr->Option Value}{b3 b4 b a I M W:Nat}{i o4 g c d e f:Obj}(p:aN (keys [(W,f),(M,e),(a,c),(I,d),(b,g),(b4,o4),(b3,i)]))(l:aA ro [(W,f),(M,e),(a,c),(I,d),(b,g),(b4,o4),(b3,i)]):
  ∃j,Ext ro j/\Le ⟨j,[(M,e),(W,f),(I,d)]⟩ ⟨ro,[(W,f),(M,e),(a,c),(I,d),(b,g),(b4,o4),(b3,i)]⟩/\
   (∀off v,cellOf i off=some v->j ⟨b3,off,none⟩=some v)/\(∀off v,cellOf o4 off=some v->j ⟨b4,off,none⟩=some v)/\(∀off v,cellOf g off=some v->j ⟨b,off,none⟩=some v)/\(∀off v,cellOf c off=some v->j ⟨a,off,none⟩=some v):=by
 have hd:=p.1
 simp only[keys,List.map_cons,List.map_nil,List.nodup_cons,List.mem_cons,List.not_mem_nil,not_or] at hd
 obtain ⟨⟨-,a1,-,a2,a3,a4,-⟩,⟨G,-,H,J,K,-⟩,⟨c1,c2,c3,c4,-⟩,⟨i1,i2,i3,-⟩,⟨e1,e2,-⟩,⟨r,-⟩,-⟩:=hd
 have r3:∀off sp,ro ⟨b3,off,sp⟩=none:=l b3 (by simp[keys])
 have s:∀off sp,ro ⟨b4,off,sp⟩=none:=l b4 (by simp[keys])
 have t:∀off sp,ro ⟨b,off,sp⟩=none:=l b (by simp[keys])
 have u:∀off sp,ro ⟨a,off,sp⟩=none:=l a (by simp[keys])
 clear l p
 have w:b4≠b3:=r
 have x:b≠b3:=e2
 have y:b≠b4:=e1
 have z:a≠b3:=c4
 have A:a≠b4:=c3
 have B:a≠b:=c2
 let s1:=bO ro b3 i
 let s2:=bO s1 b4 o4
 let k:=bO s2 b g
 let n:=bO k a c
 have C:Ext ro s1:=gm _ _ _
 have q:Ext s1 s2:=gm _ _ _
 have o:Ext s2 k:=gm _ _ _
 have m:Ext k n:=gm _ _ _
 have t4:∀off sp,s1 ⟨b4,off,sp⟩=none:=fun off sp=>ny (s off sp) w
 have t7:∀off sp,s2 ⟨b,off,sp⟩=none:=fun off sp=>ny (ny (t off sp) x) y
 have t8:∀off sp,k ⟨a,off,sp⟩=none:=fun off sp=>ny (ny (ny (u off sp) z) A) B
 have k1:Le ⟨s1,[(W,f),(M,e),(a,c),(I,d),(b,g),(b4,o4)]⟩ ⟨ro,[(W,f),(M,e),(a,c),(I,d),(b,g),(b4,o4),(b3,i)]⟩:=
  j8 (by simp[lk, *]) (by simp) (by simp[au,Ne.symm, *])
 have D:Le ⟨s2,[(W,f),(M,e),(a,c),(I,d),(b,g)]⟩ ⟨s1,[(W,f),(M,e),(a,c),(I,d),(b,g),(b4,o4)]⟩:=
  j8 (by simp[lk, *]) (by simp) (by simp[au,Ne.symm, *])
 have E:Le ⟨k,[(W,f),(M,e),(a,c),(I,d)]⟩ ⟨s2,[(W,f),(M,e),(a,c),(I,d),(b,g)]⟩:=
  j8 (by simp[lk, *]) (by simp) (by simp[au,Ne.symm, *])
 have F:Le ⟨n,[(W,f),(M,e),(I,d)]⟩ ⟨k,[(W,f),(M,e),(a,c),(I,d)]⟩:=
  j8 (by simp[lk, *]) (by simp) (by simp[au,Ne.symm, *])
 refine ⟨n,((C.trans q).trans o).trans m,Ao.trans (((F.trans E).trans D).trans k1),fun off v h=>?_,fun off v h=>?_,fun off v h=>?_,fun off v h=>?_⟩
 ·exact m _ _ (o _ _ (q _ _ ((iW r3).trans h)))
 ·exact m _ _ (o _ _ ((iW t4).trans h))
 ·exact m _ _ ((iW t7).trans h)
 ·exact (iW t8).trans h
theorem K0 {ro:Addr->Option Value}{a b2:Nat}{o1 o2:Obj}(d:aN (keys [(b2,o2),(a,o1)]))(c:aA ro [(b2,o2),(a,o1)]):
  ∃b,Ext ro b/\Le ⟨b,[]⟩ ⟨ro,[(b2,o2),(a,o1)]⟩/\(∀off v,cellOf o1 off=some v->b ⟨a,off,none⟩=some v)/\(∀off v,cellOf o2 off=some v->b ⟨b2,off,none⟩=some v):=by
 have hd:=d.1
 simp only[keys,List.map_cons,List.map_nil,List.nodup_cons,List.mem_cons,List.not_mem_nil,not_or] at hd
 have r1:∀off sp,ro ⟨a,off,sp⟩=none:=c a (by simp[keys])
 have r2:∀off sp,ro ⟨b2,off,sp⟩=none:=c b2 (by simp[keys])
 have e:b2≠a:=by obtain ⟨⟨z,-⟩,-⟩:=hd;exact z
 have t2:∀off sp,bO ro a o1 ⟨b2,off,sp⟩=none:=fun off sp=>ny (r2 off sp) e
 have k1:Le ⟨bO ro a o1,[(b2,o2)]⟩ ⟨ro,[(b2,o2),(a,o1)]⟩:=j8 (by simp[lk, *]) (by simp) (by simp[au,Ne.symm, *])
 have f:Le ⟨bO (bO ro a o1) b2 o2,[]⟩ ⟨bO ro a o1,[(b2,o2)]⟩:=j8 (by simp only[lk];simp) (by simp) trivial
 exact ⟨_,(gm _ _ _).trans (gm _ _ _),f.trans k1,fun off v h=>gm _ _ _ _ _ ((iW r1).trans h),fun off v h=>(iW t2).trans h⟩
theorem K1 {T:PT}{Φ:Goroutine->af->Prop}{x:X}{k:Nat}{ops:Array Oper}{j n:Nat}{Q:Act->af->Z->Prop}{a:Act}{F:af}{fi:FuncId}(b:k<x.n){y:Operand}{f0:FuncId}{c7:Array TypeId}{caps:Array Value}(c:nt ops j a (.go {callee:=.value y,args:=#[],argTypes:=c7}) none)(d:ev a y= .func (.func f0) #[] caps)
  (hW:Wk (x.cy T) k ⟨.idle,.cnt,false,0⟩ (born T.P {target:=.fn (.func f0) caps,args:=#[]}) ⟨F.ro,[]⟩) (h:ai (ZJ T Φ) fi ops (j+1) n Q (aX a none undef) F (.co x (k+1) (.opn 0) 0)):ai (ZJ T Φ) fi ops j (n+1) Q a F (.co x k (.opn 1) 0):=by
 obtain ⟨o,e,hg,f,hd⟩:=c
 have e1:execOp a.eval o=(pure (.spawn {target:=.fn (.func f0) caps,args:=#[]}):Sem Next):=by
  unfold execOp
  have e0:(#[]:Array Value)++Array.map (ev a) #[]=#[]:=by simp
  simp only[f,resolve,ez,d,Deferred.ofValue,e0]
  rfl
 refine KJ (fv:=y) b e hg (fun w=>?_) rfl hW (by rw[hd];exact h)
 rw[e1]
 exact ⟨rfl,rfl⟩
end Go.Sep
end
section
namespace Go.Proofs.YtjepffnffjdloaaGreatDoor
open Go Go.Sep Go.Proofs Go.Conc
open Go.ConcN (upd upd_same)
open Go.ConcM (muA msA)
open Go.ConcR (stA smA)
set_option maxRecDepth 100000
set_option maxHeartbeats 4000000
def K2 (Wg:Nat)(st:Bool)(F:af)(m:Nat)(a:Act)(F':af)(ph:Ph):Prop:=
 ∃t8:Int,F'=F/\slot a 0= .pointer (some ⟨Wg,0,none⟩)/\slot a 8= .int .u32 t8/\sz a=117/\a.defers=[dcall 135 #[]]/\((m=1/\t8=1/\ph=⟨.fin,.sm,st,1⟩)\/(m=0/\t8=0/\ph=⟨.fin,.gone,st,1⟩))
theorem K3 {f:FuncId}{R:Value->af->Ph->Prop}{a:Act}{F:af}{ph:Ph}{b:Nat}(hd:a.defers=[dcall f #[]])(hg:ph.gp= .gone)(h:ph.deaf=b+1)(c:R (.tuple #[]) F {ph with deaf:=b}):k3 f R .normal a F ph:=⟨hd,hg,b,h,c⟩
theorem uE {f:FuncId}{R:Value->af->Ph->Prop}{a:Act}{F:af}{ph:Ph}{b:Nat}(hd:a.defers=[dcall f #[]])(hg:ph.gp= .gone)(h:ph.deaf=b+1)(c:R (.tuple #[]) F {ph with deaf:=b}):k3 f R .ret a F ph:=⟨hd,hg,b,h,c⟩
section
variable {Mu Wg Is n base T0 i : Nat} {bs : Nat → Bool} {st : Bool} {F : af}
theorem K4 (h:Mu≠Wg/\Mu≠Is/\Wg≠Is)(hn:n<67108864){mp:Mp}(u:mp= .idle\/mp= .fin)(w:st=bs i):
  cz Tryz.prog (WJ (CY Mu Wg Is n bs base T0) i) 115 #[.pointer (some (stA Wg)),.int .i64 (-1)] F ⟨mp,.cnt,st,0⟩
   (fun r F' aI=>r= .tuple #[]/\F'=F/\aI=⟨.fin,.gone,st,0⟩):=by
 have a:=WJ.ek (CY Mu Wg Is n bs base T0) i
 refine cz.Ks l8 Tryz.func115 rfl rfl Tryz.ntmps115 (by simp) fun A j hd hs=>?_
 have hJ:True:=trivial
 have y:=hs 0
 have k1:=hs 1
 clear hs
 subst w
 have c1:decide ((-1:Int)<0)=true:=by decide
 have c2:decide ((-1:Int)>0)=false:=by decide
 repeat refine az (a _) ?_
 refine cQ (a _) (by simp only[*,go_sem,-a,-hJ,Int.reduceBEq,Int.reduceBNe]) ?_
 repeat refine az (a _) ?_
 refine aV a fun K b=>?_
 refine ai.pure (a _) 2 (n:=0) _ rfl rfl ?_;simp only[*,go_sem,-b,-a,muA,msA,stA,smA,Int.reduceBEq,Int.reduceBNe]
 refine ai.nil a (b _ _ _ ?_);clear b K
 repeat refine az (a _) ?_
 refine cQ (a _) (by simp only[*,go_sem,-a,-hJ,Int.reduceBEq,Int.reduceBNe]) ?_
 repeat refine az (a _) ?_
 refine aV a fun K b=>?_
 refine ai.pure (a _) 1 (n:=2) _ rfl rfl ?_;simp only[*,go_sem,-b,-a,muA,msA,stA,smA,Int.reduceBEq,Int.reduceBNe]
 refine uw ⟨Wg,0,none⟩ yB l9 yD ⟨_,rfl,(by first|(simp only[*,go_sem,-b,-a,-hJ];done)|rfl),rfl,rfl⟩ (by simp) (by simp only[*,go_sem,-b,-a,-hJ,muA,msA,stA,smA,Int.reduceBEq,Int.reduceBNe]) Ku ?_
 refine J5 C4 ⟨_,_,_,rfl,(by first|(simp only[*,go_sem,-b,-a,-hJ];done)|rfl),rfl,by first|(simp only[*,go_sem,-b,-a,-hJ,muA,msA,stA,smA,Int.reduceBEq,Int.reduceBNe];done)|(simp only[*,go_sem,-b,-a,-hJ,muA,msA,stA,smA,Int.reduceBEq,Int.reduceBNe];rfl),rfl⟩ rfl rfl u rfl ?_
 refine ai.nil a (b _ _ _ ?_);clear b K
 repeat refine az (a _) ?_
 refine aV a fun K b=>?_
 refine yJ qT ⟨_,_,_,rfl,(by first|(simp only[*,go_sem,-b,-a,-hJ];done)|rfl),rfl,by first|(simp only[*,go_sem,-b,-a,-hJ,muA,msA,stA,smA,Int.reduceBEq,Int.reduceBNe];done)|(simp only[*,go_sem,-b,-a,-hJ,muA,msA,stA,smA,Int.reduceBEq,Int.reduceBNe];rfl),rfl⟩ (by simp) (by simp) ?_
 refine ai.nil a (b _ _ _ ?_);clear b K
 repeat refine az (a _) ?_
 refine aV a fun K b=>?_
 refine ai.defer (a _) rfl (by first|(simp only[*,go_sem,-b,-a,-hJ];done)|rfl) rfl rfl (by simp;rfl) fun g e1 e2 o=>?_
 have l0:slot g 0= .pointer (some ⟨Wg,0,none⟩):=(e1 0).trans (by simp only[*,go_sem,-a,-hJ,muA,msA,stA,smA,Int.reduceBEq,Int.reduceBNe])
 have z:slot g 1= .int .i64 (-1):=(e1 1).trans (by simp only[*,go_sem,-a,-hJ,muA,msA,stA,smA,Int.reduceBEq,Int.reduceBNe])
 replace j:sz g=117:=e2.trans (by simp only[*,go_sem,-a,-hJ,muA,msA,stA,smA,Int.reduceBEq,Int.reduceBNe])
 replace hd:g.defers=[dcall 135 #[]]:=o.trans (by simp only[*,go_sem,-a,-hJ,muA,msA,stA,smA,Int.reduceBEq,Int.reduceBNe])
 clear e1 e2 o y k1
 refine ai.nil a (b _ _ _ ?_);clear b K
 repeat refine az (a _) ?_
 refine aV a fun K b=>?_
 refine ai.pure (a _) 1 (n:=0) _ rfl rfl ?_;simp only[*,go_sem,-b,-a,muA,msA,stA,smA,Int.reduceBEq,Int.reduceBNe]
 refine ai.nil a (b _ _ _ ?_);clear b K
 repeat refine az (a _) ?_
 refine aV a fun K b=>?_
 refine ai.entry (.bool false) (a _) C8 ⟨_,_,_,rfl,(by first|(simp only[*,go_sem,-b,-a,-hJ];done)|rfl),rfl,by first|(simp only[*,go_sem,-b,-a,-hJ,muA,msA,stA,smA,Int.reduceBEq,Int.reduceBNe];done)|(simp only[*,go_sem,-b,-a,-hJ,muA,msA,stA,smA,Int.reduceBEq,Int.reduceBNe];rfl),rfl⟩ ?_
 refine ai.nil a (b _ _ _ ?_);clear b K
 repeat refine az (a _) ?_
 refine cx (a _) (by simp only[*,go_sem,-a,-hJ,Int.reduceBEq,Int.reduceBNe]) ?_
 refine cA (a _) ?_
 have w1:IntKind.u64.wrap (-1)=18446744073709551615:=by decide
 have w2:IntKind.u64.wrap (18446744073709551615*2 ^ min 32 64)=18446744069414584320:=by decide
 repeat refine az (a _) ?_
 refine aV a fun K b=>?_
 refine ai.pure (a _) 6 (n:=2) _ rfl rfl ?_;simp only[*,go_sem,-b,-a,muA,msA,stA,smA,Int.reduceBEq,Int.reduceBNe]
 refine ai.gj (a _) rfl (by first|(simp only[*,go_sem,-b,-a,-hJ];done)|rfl) rfl Am (by simp only[*,go_sem,-b,-a,-hJ,muA,msA,stA,smA,Int.reduceBEq,Int.reduceBNe]) (Kv h hn) fun r F' aI f=>?_
 obtain ⟨rfl,v,t,p,ht,rfl,rfl⟩:=f
 obtain ⟨x,d⟩:∃x:Int,x=(v:Int)*4294967296+(t:Int):=⟨_,rfl⟩
 rw[<-d]
 have a1:k4 x 2147483648=0:=by rw[d];exact yO v t (by omega) ht
 have a2:k4 x 2147483647=(t:Int):=by rw[d];exact yP v t (by omega) ht
 have a3:x.fdiv (2 ^ min 32 64)=(v:Int):=by rw[d];exact yQ v t ht
 have a4:IntKind.i32.wrap (v:Int)=(v:Int):=iI (by omega) (by omega)
 have a5:IntKind.u32.wrap (t:Int)=(t:Int):=by
  unfold IntKind.wrap
  simp[IntKind.bits,IntKind.signed]
  omega
 have k:v=0->t=1->((1:Int) != x)=false:=fun e B=>by rw[d,e,B];rfl
 clear d
 refine ai.pure (a _) 1 (n:=0) _ rfl rfl ?_;simp only[*,go_sem,-b,-a,muA,msA,stA,smA,Int.reduceBEq,Int.reduceBNe]
 refine ai.nil a (b _ _ _ ?_);clear b K
 repeat refine az (a _) ?_
 refine aV a fun K b=>?_
 refine ai.pure (a _) 7 (n:=0) _ rfl rfl ?_;simp only[*,go_sem,-b,-a,muA,msA,stA,smA,Int.reduceBEq,Int.reduceBNe]
 refine ai.nil a (b _ _ _ ?_);clear b K
 repeat refine az (a _) ?_
 refine cx (a _) (by simp only[*,go_sem,-a,-hJ,Int.reduceBEq,Int.reduceBNe]) ?_
 refine cA (a _) ?_
 repeat refine az (a _) ?_
 refine aV a fun K b=>?_
 refine ai.pure (a _) 4 (n:=0) _ rfl rfl ?_;simp only[*,go_sem,-b,-a,muA,msA,stA,smA,Int.reduceBEq,Int.reduceBNe]
 refine ai.nil a (b _ _ _ ?_);clear b K
 repeat refine az (a _) ?_
 refine aV a fun K b=>?_
 refine ai.pure (a _) 4 (n:=0) _ rfl rfl ?_;simp only[*,go_sem,-b,-a,muA,msA,stA,smA,Int.reduceBEq,Int.reduceBNe]
 refine ai.nil a (b _ _ _ ?_);clear b K
 repeat refine az (a _) ?_
 refine aV a fun K b=>?_
 refine ai.pure (a _) 10 (n:=0) _ rfl rfl ?_;simp only[*,go_sem,-b,-a,muA,msA,stA,smA,Int.reduceBEq,Int.reduceBNe]
 refine ai.nil a (b _ _ _ ?_);clear b K
 repeat refine az (a _) ?_
 refine cx (a _) (by simp only[*,go_sem,-a,-hJ,Int.reduceBEq,Int.reduceBNe]) ?_
 refine cA (a _) ?_
 have c3:decide ((v:Int)<0)=false:=by simp
 repeat refine az (a _) ?_
 refine aV a fun K b=>?_
 refine ai.pure (a _) 2 (n:=0) _ rfl rfl ?_;simp only[*,go_sem,-b,-a,muA,msA,stA,smA,Int.reduceBEq,Int.reduceBNe]
 refine ai.nil a (b _ _ _ ?_);clear b K
 repeat refine az (a _) ?_
 refine cx (a _) (by simp only[*,go_sem,-a,-hJ,Int.reduceBEq,Int.reduceBNe]) ?_
 refine cA (a _) ?_
 have q:t=0\/t=1:=by omega
 by_cases hC:v=0/\t=1
 ·
  obtain ⟨rfl,rfl⟩:=hC
  have C:((1:Int) != x)=false:=k rfl rfl
  have hg:(if (0:Nat)=0/\(1:Nat)=1 then Gp.ld else Gp.gone)= .ld:=rfl
  rw[hg]
  have D:((1:Nat):Int)=1:=rfl
  clear hg k q p ht
  repeat refine az (a _) ?_
  refine aV a fun K b=>?_
  refine ai.pure (a _) 12 (n:=0) _ rfl rfl ?_;simp only[*,go_sem,-b,-a,muA,msA,stA,smA,Int.reduceBEq,Int.reduceBNe]
  refine ai.nil a (b _ _ _ ?_);clear b K
  repeat refine az (a _) ?_
  refine cx (a _) (by simp only[*,go_sem,-a,-hJ,Int.reduceBEq,Int.reduceBNe]) ?_
  refine cA (a _) ?_
  repeat refine az (a _) ?_
  refine aV a fun K b=>?_
  refine ai.pure (a _) 6 (n:=0) _ rfl rfl ?_;simp only[*,go_sem,-b,-a,muA,msA,stA,smA,Int.reduceBEq,Int.reduceBNe]
  refine ai.nil a (b _ _ _ ?_);clear b K
  repeat refine az (a _) ?_
  refine cx (a _) (by simp only[*,go_sem,-a,-hJ,Int.reduceBEq,Int.reduceBNe]) ?_
  refine cA (a _) ?_
  repeat refine az (a _) ?_
  refine aV a fun K b=>?_
  refine ai.pure (a _) 3 (n:=3) _ rfl rfl ?_;simp only[*,go_sem,-b,-a,muA,msA,stA,smA,Int.reduceBEq,Int.reduceBNe]
  refine ai.gj (a _) rfl (by first|(simp only[*,go_sem,-b,-a,-hJ];done)|rfl) rfl vH (by simp only[*,go_sem,-b,-a,-hJ,muA,msA,stA,smA,Int.reduceBEq,Int.reduceBNe]) Kw fun r F' aI f=>?_
  obtain ⟨rfl,rfl,rfl⟩:=f
  refine ai.pure (a _) 2 (n:=0) _ rfl rfl ?_;simp only[*,go_sem,-b,-a,muA,msA,stA,smA,Int.reduceBEq,Int.reduceBNe]
  refine ai.nil a (b _ _ _ ?_);clear b K
  repeat refine az (a _) ?_
  refine cx (a _) (by simp only[*,go_sem,-a,-hJ,Int.reduceBEq,Int.reduceBNe]) ?_
  refine cA (a _) ?_
  repeat refine az (a _) ?_
  refine aV a fun K b=>?_
  refine ai.pure (a _) 3 (n:=1) _ rfl rfl ?_;simp only[*,go_sem,-b,-a,muA,msA,stA,smA,Int.reduceBEq,Int.reduceBNe]
  refine ai.gj (a _) rfl (by first|(simp only[*,go_sem,-b,-a,-hJ];done)|rfl) rfl E3 (by simp only[*,go_sem,-b,-a,-hJ,muA,msA,stA,smA,Int.reduceBEq,Int.reduceBNe]) (Kx h) fun r F' aI f=>?_
  obtain ⟨rfl,rfl,rfl⟩:=f
  refine ai.nil a (b _ _ _ ?_);clear b K
  repeat refine az (a _) ?_
  refine aV a fun K b=>?_
  refine ai.pure (a _) 1 (n:=0) _ rfl rfl ?_;simp only[*,go_sem,-b,-a,muA,msA,stA,smA,Int.reduceBEq,Int.reduceBNe]
  refine ai.nil a (b _ _ _ ?_);clear b K
  repeat refine az (a _) ?_
  refine cx (a _) (by simp only[*,go_sem,-a,-hJ,Int.reduceBEq,Int.reduceBNe]) ?_
  refine cA (a _) ?_
  repeat refine az (a _) ?_
  refine jW a ?_
  refine qS a (K2 Wg (bs i) F') 1 ?_ ?_
  ·exact ⟨1,rfl,(by simp only[*,go_sem,-a,-hJ,muA,msA,stA,smA,Int.reduceBEq,Int.reduceBNe]),(by simp only[*,go_sem,-a,-hJ,muA,msA,stA,smA,Int.reduceBEq,Int.reduceBNe]),(by simp only[*,go_sem,-a,-hJ,muA,msA,stA,smA,Int.reduceBEq,Int.reduceBNe]),(by simp only[*,go_sem,-a,-hJ,muA,msA,stA,smA,Int.reduceBEq,Int.reduceBNe]),.inl ⟨rfl,rfl,rfl⟩⟩
  ·clear l0 z j hd c1 c2 c3 C a1 a2 a3 a4 a5 w1 w2 D
   rintro m A E H ⟨t8,rfl,l0,I,j,hd,⟨rfl,rfl,rfl⟩|⟨rfl,rfl,rfl⟩⟩
   ·have G:((1:Int) != 0)=true:=rfl
    have w3:IntKind.u32.wrap (1 - 1)=0:=by decide
    repeat refine az (a _) ?_
    refine aV a fun K b=>?_
    refine ai.pure (a _) 2 (n:=0) _ rfl rfl ?_;simp only[*,go_sem,-b,-a,muA,msA,stA,smA,Int.reduceBEq,Int.reduceBNe]
    refine ai.nil a (b _ _ _ ?_);clear b K
    repeat refine az (a _) ?_
    refine cQ (a _) (by simp only[*,go_sem,-a,-hJ,Int.reduceBEq,Int.reduceBNe]) ?_
    refine cA (a _) ?_
    repeat refine az (a _) ?_
    refine jW a ?_
    repeat refine az (a _) ?_
    refine aV a fun K b=>?_
    refine ai.pure (a _) 3 (n:=1) _ rfl rfl ?_;simp only[*,go_sem,-b,-a,muA,msA,stA,smA,Int.reduceBEq,Int.reduceBNe]
    refine Kq (.bool false) (.int .i64 0) JX h ⟨_,_,_,rfl,(by first|(simp only[*,go_sem,-b,-a,-hJ];done)|rfl),rfl,by first|(simp only[*,go_sem,-b,-a,-hJ,muA,msA,stA,smA,Int.reduceBEq,Int.reduceBNe];done)|(simp only[*,go_sem,-b,-a,-hJ,muA,msA,stA,smA,Int.reduceBEq,Int.reduceBNe];rfl),rfl⟩ (by rfl) ?_
    refine ai.nil a (b _ _ _ ?_);clear b K
    repeat refine az (a _) ?_
    refine aV a fun K b=>?_
    refine ai.pure (a _) 3 (n:=0) _ rfl rfl ?_;simp only[*,go_sem,-b,-a,muA,msA,stA,smA,Int.reduceBEq,Int.reduceBNe]
    refine ai.nil a (b _ _ _ ?_);clear b K
    exact ⟨0,by omega,0,rfl,(by simp only[*,go_sem,-a,-hJ,muA,msA,stA,smA,Int.reduceBEq,Int.reduceBNe]),(by simp only[*,go_sem,-a,-hJ,muA,msA,stA,smA,Int.reduceBEq,Int.reduceBNe]),(by simp only[*,go_sem,-a,-hJ,muA,msA,stA,smA,Int.reduceBEq,Int.reduceBNe]),(by simp only[*,go_sem,-a,-hJ,muA,msA,stA,smA,Int.reduceBEq,Int.reduceBNe]),.inr ⟨rfl,rfl,rfl⟩⟩
   ·have G:((0:Int) != 0)=false:=rfl
    repeat refine az (a _) ?_
    refine aV a fun K b=>?_
    refine ai.pure (a _) 2 (n:=0) _ rfl rfl ?_;simp only[*,go_sem,-b,-a,muA,msA,stA,smA,Int.reduceBEq,Int.reduceBNe]
    refine ai.nil a (b _ _ _ ?_);clear b K
    repeat refine az (a _) ?_
    refine cx (a _) (by simp only[*,go_sem,-a,-hJ,Int.reduceBEq,Int.reduceBNe]) ?_
    exact oZ (show k3 135 (fun r c aI=>r= .tuple #[]/\c=E/\aI=⟨.fin,.gone,bs i,0⟩) .normal _ _ _ from K3 (by simp only[*,go_sem,-a,-hJ,muA,msA,stA,smA,Int.reduceBEq,Int.reduceBNe]) rfl rfl ⟨rfl,rfl,rfl⟩)
 ·
  rw[if_neg hC]
  have s:(0<v/\decide ((v:Int)>0)=true)\/(v=0/\decide ((v:Int)>0)=false/\((t:Int)==0)=true):=by
   rcases Nat.eq_zero_or_pos v with e|e
   ·refine .inr ⟨e,by simp[e],?_⟩
    obtain rfl:t=0:=by omega
    rfl
   ·exact .inl ⟨e,by simp;omega⟩
  have a7:((t:Int) != 0)=false\/((t:Int) != 0)=true:=by cases ((t:Int) != 0)<;>simp
  clear k hC p ht q
  rcases a7 with a7|a7
  ·repeat refine az (a _) ?_
   refine aV a fun K b=>?_
   refine ai.pure (a _) 12 (n:=0) _ rfl rfl ?_;simp only[*,go_sem,-b,-a,muA,msA,stA,smA,Int.reduceBEq,Int.reduceBNe]
   refine ai.nil a (b _ _ _ ?_);clear b K
   repeat refine az (a _) ?_
   refine cx (a _) (by simp only[*,go_sem,-a,-hJ,Int.reduceBEq,Int.reduceBNe]) ?_
   refine cA (a _) ?_
   rcases s with ⟨_,l⟩|⟨_,l,b2⟩
   ·repeat refine az (a _) ?_
    refine aV a fun K b=>?_
    refine ai.pure (a _) 6 (n:=0) _ rfl rfl ?_;simp only[*,go_sem,-b,-a,muA,msA,stA,smA,Int.reduceBEq,Int.reduceBNe]
    refine ai.nil a (b _ _ _ ?_);clear b K
    repeat refine az (a _) ?_
    refine cQ (a _) (by simp only[*,go_sem,-a,-hJ,Int.reduceBEq,Int.reduceBNe]) ?_
    exact fC (show k3 135 (fun r c aI=>r= .tuple #[]/\c=F'/\aI=⟨.fin,.gone,bs i,0⟩) .ret _ _ _ from uE (by simp only[*,go_sem,-a,-hJ,muA,msA,stA,smA,Int.reduceBEq,Int.reduceBNe]) rfl rfl ⟨rfl,rfl,rfl⟩)
   ·repeat refine az (a _) ?_
    refine aV a fun K b=>?_
    refine ai.pure (a _) 6 (n:=0) _ rfl rfl ?_;simp only[*,go_sem,-b,-a,muA,msA,stA,smA,Int.reduceBEq,Int.reduceBNe]
    refine ai.nil a (b _ _ _ ?_);clear b K
    repeat refine az (a _) ?_
    refine cQ (a _) (by simp only[*,go_sem,-a,-hJ,Int.reduceBEq,Int.reduceBNe]) ?_
    exact fC (show k3 135 (fun r c aI=>r= .tuple #[]/\c=F'/\aI=⟨.fin,.gone,bs i,0⟩) .ret _ _ _ from uE (by simp only[*,go_sem,-a,-hJ,muA,msA,stA,smA,Int.reduceBEq,Int.reduceBNe]) rfl rfl ⟨rfl,rfl,rfl⟩)
  ·repeat refine az (a _) ?_
   refine aV a fun K b=>?_
   refine ai.pure (a _) 12 (n:=0) _ rfl rfl ?_;simp only[*,go_sem,-b,-a,muA,msA,stA,smA,Int.reduceBEq,Int.reduceBNe]
   refine ai.nil a (b _ _ _ ?_);clear b K
   repeat refine az (a _) ?_
   refine cx (a _) (by simp only[*,go_sem,-a,-hJ,Int.reduceBEq,Int.reduceBNe]) ?_
   refine cA (a _) ?_
   rcases s with ⟨_,l⟩|⟨_,l,b2⟩
   ·repeat refine az (a _) ?_
    refine aV a fun K b=>?_
    refine ai.pure (a _) 6 (n:=0) _ rfl rfl ?_;simp only[*,go_sem,-b,-a,muA,msA,stA,smA,Int.reduceBEq,Int.reduceBNe]
    refine ai.nil a (b _ _ _ ?_);clear b K
    repeat refine az (a _) ?_
    refine cQ (a _) (by simp only[*,go_sem,-a,-hJ,Int.reduceBEq,Int.reduceBNe]) ?_
    exact fC (show k3 135 (fun r c aI=>r= .tuple #[]/\c=F'/\aI=⟨.fin,.gone,bs i,0⟩) .ret _ _ _ from uE (by simp only[*,go_sem,-a,-hJ,muA,msA,stA,smA,Int.reduceBEq,Int.reduceBNe]) rfl rfl ⟨rfl,rfl,rfl⟩)
   ·repeat refine az (a _) ?_
    refine aV a fun K b=>?_
    refine ai.pure (a _) 6 (n:=0) _ rfl rfl ?_;simp only[*,go_sem,-b,-a,muA,msA,stA,smA,Int.reduceBEq,Int.reduceBNe]
    refine ai.nil a (b _ _ _ ?_);clear b K
    repeat refine az (a _) ?_
    refine cQ (a _) (by simp only[*,go_sem,-a,-hJ,Int.reduceBEq,Int.reduceBNe]) ?_
    exact fC (show k3 135 (fun r c aI=>r= .tuple #[]/\c=F'/\aI=⟨.fin,.gone,bs i,0⟩) .ret _ _ _ from uE (by simp only[*,go_sem,-a,-hJ,muA,msA,stA,smA,Int.reduceBEq,Int.reduceBNe]) rfl rfl ⟨rfl,rfl,rfl⟩)
end
end Go.Proofs.YtjepffnffjdloaaGreatDoor
end
section
namespace Go.Sep
open Go Go.Conc
open Go.ConcN (sumTo upd upd_ne upd_same)
def jw (P:Program):Frame:={(default:Frame) with fn:=P.funcs.size,defers:=[],mode:=.panicking [goexitEntry]}
section
variable {P : Program} {f : FuncId} {fn : Func} {cd : Code} {w : World} {caps args : Array Value}
theorem K5 (a:P.funcs[f]?=some fn)(b:(fn.name== "runtime.NumGoroutine")=false)(hb:fn.body=some cd):
  stepG P false (born P {target:=.fn (.func f) caps,args:=args}) w= .go (G ((baseD f).at {tmps:=args++caps++Array.replicate (fn.ntmps - (args++caps).size) undef,defers:=[]} [.code cd]) [jw P]) w #[]:=by
 have h1:¬fn.name= "runtime.NumGoroutine":=by simpa using b
 rw[<-enter_atD (args++caps) a hb]
 simp[born,G,stepG,unwind,callDeferred,invoke,callFunc,a,h1,hb,GStep.after,seen_none,jw]
theorem K6 {b:Frame}{a:Act}{todo:List Item}(hn:b.kind= .deferred)(hd:a.defers=[])(d:P.funcs[b.fn]?=some fn)(c:fn.results=#[]):
  stepG P false (G {b.at a todo with mode:=.returning} [jw P]) w= .go (G (jw P) []) w #[]:=by
 have he:(results fn a.tmps).events P w #[]=#[]:=events_results_none c _ _
 have e:(results fn a.tmps).run P w= .ok (.tuple #[]) w:=results_none c _ P w
 simp[G,stepG,unwind,doReturn,Frame.at,hn,hd,d,e,he,jw,goexitEntry,seen_none,GStep.after]
theorem K7:stepG P false (G (jw P) []) w= .go {frame:=jw P,callers:=[],status:=.finished,dying:=none} w #[]:=by
 have e:(default:Frame).todo=[]:=rfl
 simp[G,stepG,unwind,jw,goexitEntry,Frame.catches,e]
end
section
variable {c : Cy} {i : Nat} {F : af} {f fd : FuncId}
def yV (c:Cy)(i:Nat)(fd:FuncId)(v:Value):Ex->Act->af->Ph->Prop
 | .exit _,_,_,_=>False
 |_,a,_,ph=>a.defers=[dcall fd #[v]]/\(ph.mp= .idle\/ph.mp= .fin)/\ph.gp= .cnt/\ph.stored=c.bs i/\ph.deaf=0
theorem worker {fn b:Func}{cd g:Code}{n nd:Nat}{v:Value}(l:c.P.funcs[f]?=some fn)(x:(fn.name== "runtime.NumGoroutine")=false)(hb:fn.body=some cd)(y:fn.results=#[])(hn:fn.ntmps=n){caps:Array Value}(M:caps.size<=n)
  (z:c.P.funcs[fd]?=some b) (B:(b.name== "runtime.NumGoroutine")=false) (C:b.body=some g) (D:b.results=#[]) (E:b.ntmps=nd) (h1:1<=nd)
  (hd:∀(mp:Mp) (F:af),mp= .idle\/mp= .fin->∀A:Act,sz A=nd->A.defers=[]->(∀j,slot A j=(#[v]:Array Value).getD j undef)->cF (WJ c i) fd g (yN fun F' aI=>aI=⟨.fin,.gone,c.bs i,0⟩) A F ⟨mp,.cnt,c.bs i,0⟩)
  (h:∀A:Act,sz A=n->A.defers=[]->(∀j,slot A j=caps.getD j undef)->cF (WJ c i) f cd (yV c i fd v) A F ⟨.idle,.cnt,false,0⟩):
  Wk c i ⟨.idle,.cnt,false,0⟩ (born c.P {target:=.fn (.func f) caps,args:=#[]}) F:=by
 have m:=WJ.ek c i
 have e0:∀w,stepG c.P false (born c.P {target:=.fn (.func f) caps,args:=#[]}) w= .go (G ((baseD f).at {tmps:=caps++Array.replicate (fn.ntmps - caps.size) undef,defers:=[]} [.code cd]) [jw c.P]) w #[]:=fun w=>by
  have:=K5 (P:=c.P) (w:=w) (caps:=caps) (args:=#[]) l x hb
  simpa using this
 refine Wk.act (c:=c) (i:=i) rfl rfl (by simp) fun w s k φ p0 e1 e2 N H I=>.inr ⟨_,w,#[],s,⟨.idle,.cnt,false,0⟩,e0 w,e2,.refl _ _,?_,nu rfl Iff.rfl,.inr dA,?_⟩
 ·rw[<-H,yE];exact I
 have out:∀(a:Act) (o:List Item) F' (aI:Ph),(a.defers=[dcall fd #[v]]/\(aI.mp= .idle\/aI.mp= .fin)/\aI.gp= .cnt/\aI.stored=c.bs i/\aI.deaf=0)->WJ c i aI (G {(baseD f).at a o with mode:=.returning} [jw c.P]) F':=by
  intro a o F' aI ⟨k1,p,r,t,u⟩
  obtain ⟨mp,gp,st,O⟩:=aI
  simp only at p r t u
  subst r t u
  refine Kt z B C D E (by simpa using h1) k1 (fun A J K L=>hd mp F' p A J K L) fun Q R hp=>?_
  subst hp
  refine Wk.gone (q:=2) rfl (QuitsD.ctl rfl (fun w=>K6 rfl rfl l y) (QuitsD.ctl rfl (fun w=>K7) ⟨rfl,rfl⟩))
 have:=h {tmps:=caps++Array.replicate (fn.ntmps - caps.size) undef,defers:=[]} (by simp[sz,hn];omega) rfl (fun j=>?_) (baseD f) [] [jw c.P] ⟨by simp[baseD],rfl,rfl⟩ fun e a F' aI hq=>?_
 ·rw[eG rfl] at this;exact this
 ·simp only[slot,hn,Array.getD_eq_getD_getElem?]
  rcases Nat.lt_or_ge j caps.size with d|d
  ·rw[Array.getElem?_append_left d]
  ·rw[Array.getElem?_append_right d,Array.getElem?_replicate,Array.getElem?_eq_none d]
   split<;>rfl
 ·cases e with
  |normal=>exact (m aI).move (fun _=>me rfl) (out a _ F' aI hq)
  |exit i=>exact hq.elim
  |ret=>exact fun S=>(m aI).move (fun _=>stepG_ret' rfl) (out a _ F' aI hq)
end
attribute [go_sem] yV
end Go.Sep
end
section
namespace Go.Proofs.YtjepffnffjdloaaGreatDoor
open Go Go.Sep Go.Proofs Go.Conc
open Go.ConcN (upd upd_same)
open Go.ConcM (muA msA)
open Go.ConcR (stA smA)
set_option maxRecDepth 100000
set_option maxHeartbeats 4000000
theorem K8:(Tryz.prog.funcs[116]?).any (·.norace)=false:=by kernel_rfl
section
variable {Mu Wg Is n base T0 i : Nat} {bs : Nat → Bool}
theorem K9 (o:Mu≠Wg/\Mu≠Is/\Wg≠Is)(hn:n<67108864)(a5:i<n){ro:Addr->Option Value}(u0:cI){s1:Value}(q:aB eD ro s1 u0.book.aj){K:Value}(r:aB eE ro K u0.book.props){L:Value}(s:aB eY ro L u0.book.aE){M:Value}(u:aB cX ro M u0.book.told)
  (z:Int) (B:List Int) {N:Value} (w:aB rI ro N B) (C:List aO) {O:Value} (g:aB jc ro O C) {f b2 b3 b4 P Q:Nat}
  (g0:ro ⟨f,0,none⟩=some (.int .i64 u0.book.aZ)) (R:ro ⟨f,1,none⟩=some (.int .i64 u0.book.bD)) (S:ro ⟨f,2,none⟩=some (.int .i64 u0.book.aR.num)) (T:ro ⟨f,3,none⟩=some (.int .i64 u0.book.aR.den)) (U:ro ⟨f,4,none⟩=some s1) (V:ro ⟨f,5,none⟩=some K) (W:ro ⟨f,6,none⟩=some L) (X:ro ⟨f,7,none⟩=some M)
  (Y:ro ⟨b2,0,none⟩=some (.int .i64 z)) (Z:ro ⟨b3,0,none⟩=some N) (ab:ro ⟨b4,0,none⟩=some O) (D:ro ⟨P,0,none⟩=some (.slice (some ⟨Is,0,none⟩) n n)) (E:ro ⟨Q,0,none⟩=some (.int .i64 i))
  (h:ah (sR u0.book z B) (fun b=>sD b C)=some (bs i)):
  Wk (CY Mu Wg Is n bs base T0) i ⟨.idle,.cnt,false,0⟩ (born Tryz.prog {target:=.fn (.func 116) #[.pointer (some ⟨Wg,0,none⟩),.pointer (some ⟨f,0,none⟩),.pointer (some ⟨b2,0,none⟩),.pointer (some ⟨b3,0,none⟩),.pointer (some ⟨b4,0,none⟩),.pointer (some ⟨Mu,0,none⟩),.pointer (some ⟨P,0,none⟩),.pointer (some ⟨Q,0,none⟩)],args:=#[]}) ⟨ro,[]⟩:=by
 have d:=WJ.ek (CY Mu Wg Is n bs base T0) i
 have hJ:∀ph:Ph,ph.gp= .cnt->Go.Sep.Closed Tryz.prog false (WJ (CY Mu Wg Is n bs base T0) i ph):=fun ph h=>Wk.closed (CY Mu Wg Is n bs base T0) i ph h
 refine worker (c:=CY Mu Wg Is n bs base T0) (i:=i) (fd:=117) (v:=.pointer (some ⟨Wg,0,none⟩)) Tryz.func116 rfl rfl rfl Tryz.ntmps116 (by simp) Tryz.func117 rfl rfl rfl Tryz.ntmps117 (by simp) ?_ ?_
 ·intro mp F a6 A G hd hs
  have x:=hs 0
  clear hs h g0 R S T U V W X Y Z ab D E q r s u w g hJ a5
  repeat refine az (d _) ?_
  refine cR d ?_
  refine ai.pure (d _) 1 (n:=1) _ rfl rfl ?_;simp only[*,go_sem,muA,msA,stA,smA,Int.reduceBEq,Int.reduceBNe]
  refine ai.gj (d _) rfl rfl rfl Al (by simp only[*,go_sem,stA]) (K4 o hn a6 rfl) fun v F' aI j=>?_
  obtain ⟨rfl,rfl,rfl⟩:=j
  refine ai.nil d ?_
  exact ⟨(by simp only[*,go_sem,muA,msA,stA,smA,Int.reduceBEq,Int.reduceBNe]),rfl⟩
 ·intro ad G hd hs
  have x:=hs 0
  have k1:=hs 1
  have ae:=hs 2
  have al:=hs 3
  have ao:=hs 4
  have ar:=hs 5
  have a0:=hs 6
  have a2:=hs 7
  clear hs
  repeat refine az (d _) ?_
  refine cR d ?_
  refine ai.defer (d _) (vals:=#[.pointer (some ⟨Wg,0,none⟩)]) rfl (by rfl) rfl rfl (by simp only[List.map_toArray,List.map_cons,List.map_nil];rw[show ad.eval (.tmp 0)=slot ad 0 from rfl,x];rfl) fun A e1 e2 H=>?_
  replace x:=(e1 0).trans x
  replace k1:=(e1 1).trans k1
  replace ae:=(e1 2).trans ae
  replace al:=(e1 3).trans al
  replace ao:=(e1 4).trans ao
  replace ar:=(e1 5).trans ar
  replace a0:=(e1 6).trans a0
  replace a2:=(e1 7).trans a2
  replace G:sz A=20:=e2.trans G
  rw[hd] at H
  replace hd:=H
  clear e1 e2 H
  refine ai.nil d ?_;try simp only[go_sem]
  obtain ⟨d3,c4,rfl,a7,a8,a9⟩:=id q
  obtain ⟨d10,dq,rfl,ba,bb,bc⟩:=id r
  obtain ⟨d17,ds,rfl,bd,bj,bk⟩:=id s
  obtain ⟨d24,dt,rfl,bl,bm,bo⟩:=id u
  obtain ⟨d38,du,rfl,br,bz,bS⟩:=id w
  obtain ⟨d45,dv,rfl,b0,b1,I⟩:=id g
  repeat refine az (d _) ?_
  have l:=hJ ⟨.idle,.cnt,false,0⟩ rfl
  refine cF.of l ?_
  refine Fa l mixed [0,1,2,3,5] [4,6] ⟨ro,[]⟩ (by simp only[*,go_sem,-h]) (by kernel_rfl) ?_
  have b5:=fX h;clear h;obtain ⟨ca,a3,h⟩:=b5
  simp only[*,go_sem,-h,-hJ,-d]
  refine vC l _ (Gz u0.book ⟨q,r,s,u⟩ z B w a3) fun v dC m cb j=>?_
  obtain ⟨dE,dT,ea,eb,rfl,k⟩:=j
  replace g:=g.mono m;clear I;obtain ⟨_,_,I⟩:=g.op
  obtain ⟨d63,ec,rfl,cd,cf,cl⟩:=id k.e
  obtain ⟨d68,ed,rfl,cy,cS,c0⟩:=id k.p
  obtain ⟨d73,eh,rfl,da,db,dd⟩:=id k.y
  obtain ⟨d78,et,rfl,df,dk,dp⟩:=id k.t
  replace D:=m _ _ D
  replace E:=m _ _ E
  clear g0 R S T U V W X Y Z ab
  refine ⟨⟨m,fun a J=>by simp[keys] at J,trivial⟩,mC ?_⟩
  simp only[*,go_sem,-h,-hJ,-d]
  refine aM l _ (Gq ca (k.mono aH) C (g.mono aH) h) ?_
  refine ⟨⟨m,fun a J=>by simp[keys] at J,trivial⟩,?_⟩
  clear q r s u w g k a9 bc bk bo bS I cl c0 dd dp h a3 a7 ba bd bl br b0 cd cy da df a8 bb bj bm bz b1 cf cS db dk l cb
  have i0:(0:Int)<=(i:Int):=by omega
  have i1:(i:Int)<(n:Int):=by omega
  cases a4:bs i
  ·repeat refine az (d _) ?_
   refine cx (d _) (by simp only[*,go_sem,Int.reduceBEq,Int.reduceBNe]) ?_
   refine cA (d _) ?_
   exact ⟨(by simp only[*,go_sem,muA,msA,stA,smA,Int.reduceBEq,Int.reduceBNe]),.inl rfl,rfl,a4.symm,rfl⟩
  ·repeat refine az (d _) ?_
   refine cQ (d _) (by simp only[*,go_sem,Int.reduceBEq,Int.reduceBNe]) ?_
   repeat refine az (d _) ?_
   refine cR d ?_
   refine ai.gj (d _) rfl (by rfl) rfl E0 (by simp only[*,go_sem,muA,msA,stA,smA,Int.reduceBEq,Int.reduceBNe]) (Ki o hn) fun v F' aI j=>?_
   obtain ⟨rfl,rfl,rfl⟩:=j
   refine ai.nil d ?_;try simp only[go_sem]
   repeat refine az (d _) ?_
   refine cR d ?_
   refine ai.bu (hJ _ rfl) 3 (n:=1) _ rfl rfl ?_;simp only[*,go_sem,muA,msA,stA,smA,Int.reduceBEq,Int.reduceBNe]
   refine J8 JY Ae K8 o ⟨_,rfl,(by first|rfl|simp only[*,go_sem,Int.reduceBEq,Int.reduceBNe]),rfl,rfl⟩ (by rfl) (by simp only[*,go_sem]) (by simp only[*,go_sem]) ?_
   refine ai.nil d ?_;try simp only[go_sem]
   repeat refine az (d _) ?_
   refine cR d ?_
   refine ai.gj (d _) rfl (by rfl) rfl E1 (by simp only[*,go_sem,muA,msA,stA,smA,Int.reduceBEq,Int.reduceBNe]) (Kj o hn) fun v F' aI j=>?_
   obtain ⟨rfl,rfl,rfl⟩:=j
   refine ai.nil d ?_
   exact (show yV _ _ _ _ .normal _ _ _ from ⟨(by simp only[*,go_sem,muA,msA,stA,smA,Int.reduceBEq,Int.reduceBNe]),.inr rfl,rfl,a4.symm,rfl⟩)
end
end Go.Proofs.YtjepffnffjdloaaGreatDoor
end
section
namespace Go.Proofs.YtjepffnffjdloaaGreatDoor
open Go Go.Sep Go.Proofs Go.Conc
open Go.ConcN (upd upd_same)
open Go.ConcM (muA msA muBlock)
open Go.ConcR (stA smA wgBlock)
set_option maxRecDepth 100000
set_option maxHeartbeats 4000000
def La (u0:cI)(a:Int)(c:List aO)(d:List Int):Option Bool:=ah (sR u0.book a d) fun b=>sD b c
def qX (f:List Int->Option Bool):List (List Int)->Option (List Bool)
 |[]=>some []
 |x::l=>ah (f x) fun b=>ah (qX f l) fun r=>some (b::r)
def yW (a:List Bool)(i23:Nat)(b:List Int)(st:List (List Int)):Option (Fl (List (List Int)) (List (List Int))):=
 ah (bw a (i23:Int)) fun c=>cond (c) (ah (cB st ([b])) fun d=>some (.nx d)) (some (.nx st))
def uF (u0:cI)(b:Int)(a:List (List Int)):Option (List (List Int)):=
 cond (decide (a.length<1048576)) (ah (s3 u0) fun c=>ah (qX (La u0 b c) a) fun bl=>ah (bG (yW bl) 0 a ([]:List (List Int))) fun o=>aG o (fun d=>some d) (fun _ _=>none) (fun r=>some r)) none
theorem Dx {f:List Int->Option Bool}:∀{l:List (List Int)} {bl:List Bool},qX f l=some bl->bl.length=l.length/\∀(i:Nat) (a:List Int),l[i]?=some a->f a=some (bl[i]?.getD false)
 |[],bl,h=>by
  simp[qX] at h;subst h
  exact ⟨rfl,fun i a hi=>by simp at hi⟩
 |x::l,bl,h=>by
  unfold qX at h
  obtain ⟨b,hb,h⟩:=fX h
  obtain ⟨r,c,h⟩:=fX h
  have h:=Option.some.inj h
  subst h
  obtain ⟨e1,e2⟩:=Dx c
  refine ⟨by simp[e1],fun i a hi=>?_⟩
  cases i with
  |zero=>simp at hi;subst hi;simpa using hb
  |succ i=>simp at hi;simpa using e2 i a hi
def Dy (x:X)(d:Addr->Option Value)(b3 b4 e f:Nat)(b:Value)(m:Nat)(a:Act)(F:af)(z:Z):Prop:=
 ∃(i:Nat) (c:Addr->Option Value),m=x.n - i/\i<=x.n/\F=⟨c,[]⟩/\Ext d c/\slot a 2=b/\slot a 3= .pointer (some ⟨b3,0,none⟩)/\slot a 4= .pointer (some ⟨b4,0,none⟩)/\slot a 6= .slice none 0 0/\slot a 7= .pointer (some ⟨e,0,none⟩)/\slot a 8= .pointer (some ⟨f,0,none⟩)/\slot a 9= .pointer (some ⟨x.Mu,0,none⟩)/\slot a 10= .pointer (some ⟨x.Wg,0,none⟩)/\slot a 21=b/\slot a 22= .int .i64 x.n/\slot a 23= .int .i64 i/\sz a=49/\a.defers=[]/\z= .co x i (.opn 0) 0
theorem Lb (l:List Bool):(l.map fun b=>[Value.bool b]).flatten=l.map Value.bool:=by
 induction l with
 |nil=>rfl
 |cons b l ih=>simp only[List.map_cons,List.flatten_cons,ih];rfl
theorem Lc:Tryz.prog.underlying 159=some (.slice 4):=by kernel_rfl
theorem Ld:Tryz.prog.info? 4=some ((Tryz.prog.info? 4).getD default):=by kernel_rfl
theorem Dz {ro:Addr->Option Value}(u0:cI){s1:Value}(q:aB eD ro s1 u0.book.aj){bo:Value}(s:aB eE ro bo u0.book.props){br:Value}(u:aB eY ro br u0.book.aE){bs:Value}(w:aB cX ro bs u0.book.told){bz:Value}(a4:aB hH ro bz u0.all)(ae:Int)(d:List (List Int)){bS:Value}(o:aB (rL rI) ro bS d){r:List (List Int)}(h:uF u0 ae d=some r):
  pX Tryz.prog 92 #[.agg #[.int .i64 u0.book.aZ,.int .i64 u0.book.bD,.int .i64 u0.book.aR.num,.int .i64 u0.book.aR.den,s1,bo,br,bs,bz],.int .i64 ae,bS] ro (fun v aK=>∃b0,v=b0/\aB (rL rI) aK b0 r):=by
 refine fL.KO (T:=TT) fun Φ=>?_
 obtain ⟨d3,c4,rfl,fu,fv,fw⟩:=id q
 obtain ⟨d10,fx,rfl,fP,fQ,R⟩:=id s
 obtain ⟨d17,I,rfl,fS,fU,gg⟩:=id u
 obtain ⟨d24,gl,rfl,gn,gp,gB⟩:=id w
 obtain ⟨d31,ih,rfl,gC,gM,gT⟩:=id a4
 obtain ⟨d38,b1,rfl,ik,b2,C⟩:=id o
 unfold uF at h
 have hlen:d.length<1048576:=by
  rcases Nat.lt_or_ge d.length 1048576 with y|y
  ·exact y
  ·rw[show decide (d.length<1048576)=false by simp;omega] at h;cases h
 rw[show decide (d.length<1048576)=true by simp;omega] at h
 simp only[cond_true] at h
 obtain ⟨b5,ca,h⟩:=fX h
 obtain ⟨bl,cb,h⟩:=fX h
 obtain ⟨cd,cf⟩:=Dx cb
 have a:=ZJ.ek TT Φ
 have hJ:=fun (z:Z) (S:yT z=true)=>ZJ.KY TT Φ z S
 refine cz.go (main:=true) a Tryz.func92 rfl Tryz.ntmps92 (by simp) fun A S hd hs=>?_
 have gV:=hs 0
 have k1:=hs 1
 have cl:=hs 2
 clear hs cb
 repeat refine az (a _) ?_
 refine aV a fun K c=>?_
 refine ai.bu (hJ _ rfl) 3 (n:=0) _ rfl rfl ?_;simp only[*,go_sem,-c,-a,-hJ,muA,msA,stA,smA,Int.reduceBEq,Int.reduceBNe]
 intro b3 f3;have r3:=eI f3;have n3:=fJ f3
 try simp only[au] at n3
 intro b4 f4;have g0:=eI f4;have cS:=fJ f4
 try simp only[au] at cS
 try simp only[*,go_sem,-c,-a,-hJ,-h]
 refine ai.nil a (c _ _ _ ?_);clear c K
 have p:=hJ .free rfl
 repeat refine az (a _) ?_
 refine aV a fun K c=>?_
 refine ai.bu (hJ _ rfl) 4 (n:=0) _ rfl rfl ?_;simp only[*,go_sem,-c,-a,-hJ,muA,msA,stA,smA,Int.reduceBEq,Int.reduceBNe]
 refine vC p _ (Bf u0 ⟨q,s,u,w⟩ a4 ca) fun v il J g1 U=>?_
 obtain ⟨im,rfl,L⟩:=U
 replace q:=q.mono J
 replace s:=s.mono J
 replace u:=u.mono J
 replace w:=w.mono J
 replace o:=o.mono J
 obtain ⟨d45,g2,rfl,g3,g4,ha⟩:=id L
 clear fw R gg gB gT C ha r3 g0
 refine aD ?_
 try simp only[*,go_sem,-c,-a,-hJ,-h,-p]
 intro a5 f7;have hc:=eI f7;have c0:=fJ f7
 try simp only[au] at c0
 try simp only[*,go_sem,-c,-a,-hJ,-h,-p]
 refine ai.nil a (c _ _ _ ?_);clear c K
 repeat refine az (a _) ?_
 refine aV a fun K c=>?_
 refine ai.bu (hJ _ rfl) 5 (n:=0) _ rfl rfl ?_;simp only[*,go_sem,-c,-a,-hJ,muA,msA,stA,smA,Int.reduceBEq,Int.reduceBNe]
 refine KX Lc Ld rfl Ae EN hlen fun k a6=>?_
 have rI:=eI a6;have nI:=fJ a6
 try simp only[au] at nI
 refine aD ?_
 try simp only[*,go_sem,-c,-a,-hJ,-h,-p]
 intro V f8;have hf:=eI f8;have da:=fJ f8
 try simp only[au] at da
 try simp only[*,go_sem,-c,-a,-hJ,-h,-p]
 refine ai.nil a (c _ _ _ ?_);clear c K
 repeat refine az (a _) ?_
 refine aV a fun K c=>?_
 refine ai.bu (hJ _ rfl) 1 (n:=0) _ rfl rfl ?_;simp only[*,go_sem,-c,-a,-hJ,muA,msA,stA,smA,Int.reduceBEq,Int.reduceBNe]
 intro M f9;have hg:=eI f9;have db:=fJ f9
 try simp only[au] at db
 try simp only[*,go_sem,-c,-a,-hJ,-h,-p]
 refine ai.nil a (c _ _ _ ?_);clear c K
 repeat refine az (a _) ?_
 refine aV a fun K c=>?_
 refine ai.bu (hJ _ rfl) 1 (n:=0) _ rfl rfl ?_;simp only[*,go_sem,-c,-a,-hJ,muA,msA,stA,smA,Int.reduceBEq,Int.reduceBNe]
 intro N f10;have hh:=eI f10;have dd:=fJ f10
 try simp only[au] at dd
 try simp only[*,go_sem,-c,-a,-hJ,-h,-p]
 refine ai.nil a (c _ _ _ ?_);clear c K
 repeat refine az (a _) ?_
 refine aV a fun K c=>?_
 refine ai.bu (hJ _ rfl) 3 (n:=0) _ rfl rfl ?_;simp only[*,go_sem,-c,-a,-hJ,muA,msA,stA,smA,Int.reduceBEq,Int.reduceBNe]
 refine ai.nil a (c _ _ _ ?_);clear c K
 refine yU p fun nd no=>?_
 obtain ⟨al,D,hle,B,df,dk,dp⟩:=KZ nd no
 clear nd no
 refine KL (T:=TT) (Φ:=Φ) ⟨al,[]⟩ M N k d.length (fun i=>bl[i]?.getD false) hle ?_
 intro base B0 T0 hj ao
 clear hle
 have hn:d.length<67108864:=by omega
 replace q:=q.mono D
 replace s:=s.mono D
 replace u:=u.mono D
 replace w:=w.mono D
 replace o:=o.mono D
 replace L:=L.mono D
 have dq:=B 0 (.int .i64 u0.book.aZ) rfl
 have ds:=B 1 (.int .i64 u0.book.bD) rfl
 have dt:=B 2 (.int .i64 u0.book.aR.num) rfl
 have du:=B 3 (.int .i64 u0.book.aR.den) rfl
 have dv:=B 4 (.slice d3 u0.book.aj.length c4) rfl
 have dC:=B 5 (.slice d10 u0.book.props.length fx) rfl
 have dE:=B 6 (.slice d17 u0.book.aE.length I) rfl
 have dT:=B 7 (.slice d24 u0.book.told.length gl) rfl
 have ea:=df 0 (.int .i64 ae) rfl
 have eb:=dk 0 (.slice d45 b5.length g2) rfl
 have a7:=dp 0 (.slice (some ⟨k,0,none⟩) d.length d.length) rfl
 clear B df dk dp f3 f4 f7 f8 f9 f10 a6 n3 cS c0 da db dd nI hc hf hg hh rI g1
 repeat refine az (a _) ?_
 refine jW a ?_
 refine qS a (Dy (⟨M,N,k,d.length,(fun i=>bl[i]?.getD false),base,T0,B0⟩:X) al b3 b4 a5 V (.slice d38 d.length b1)) d.length ?_ ?_
 ·exact ⟨0,al,rfl,Nat.zero_le _,rfl,Ext.refl _,(by simp only[*,go_sem,-a,-hJ,muA,msA,stA,smA,Int.reduceBEq,Int.reduceBNe]),(by simp only[*,go_sem,-a,-hJ,muA,msA,stA,smA,Int.reduceBEq,Int.reduceBNe]),(by simp only[*,go_sem,-a,-hJ,muA,msA,stA,smA,Int.reduceBEq,Int.reduceBNe]),(by simp only[*,go_sem,-a,-hJ,muA,msA,stA,smA,Int.reduceBEq,Int.reduceBNe]),(by simp only[*,go_sem,-a,-hJ,muA,msA,stA,smA,Int.reduceBEq,Int.reduceBNe]),(by simp only[*,go_sem,-a,-hJ,muA,msA,stA,smA,Int.reduceBEq,Int.reduceBNe]),(by simp only[*,go_sem,-a,-hJ,muA,msA,stA,smA,Int.reduceBEq,Int.reduceBNe]),(by simp only[*,go_sem,-a,-hJ,muA,msA,stA,smA,Int.reduceBEq,Int.reduceBNe]),(by simp only[*,go_sem,-a,-hJ,muA,msA,stA,smA,Int.reduceBEq,Int.reduceBNe]),(by simp only[*,go_sem,-a,-hJ,muA,msA,stA,smA,Int.reduceBEq,Int.reduceBNe]),(by simp only[*,go_sem,-a,-hJ,muA,msA,stA,smA,Int.reduceBEq,Int.reduceBNe]),(by simp only[*,go_sem,-a,-hJ,muA,msA,stA,smA,Int.reduceBEq,Int.reduceBNe]),(by simp only[*,go_sem,-a,-hJ,muA,msA,stA,smA,Int.reduceBEq,Int.reduceBNe]),rfl⟩
 clear gV k1 cl S hd
 rintro m A F' ec ⟨i,P,rfl,hi,rfl,e,cl,hk,hl,iv,ho,ix,hp,hq,hr,ht,hv,S,hd,rfl⟩
 have hi:i<=d.length:=hi
 replace q:=q.mono e
 replace s:=s.mono e
 replace u:=u.mono e
 replace w:=w.mono e
 replace o:=o.mono e
 replace L:=L.mono e
 rcases Nat.lt_or_ge i d.length with ar|hx
 ·have c1:decide ((i:Int)<(d.length:Int))=true:=by simp;omega
  have i0:(0:Int)<=(i:Int):=by omega
  have i1:(i:Int)<(d.length:Int):=by omega
  obtain ⟨a8,ed⟩:∃x,d[i]?=some x:=⟨_,List.getElem?_eq_getElem ar⟩
  obtain ⟨_,_,C⟩:=o.op
  obtain ⟨hy,eh,a9,ba,W⟩:=C _ _ ed
  obtain ⟨hz,rfl,Y⟩:=ba
  obtain ⟨d32,ab,rfl,hA,hB,-⟩:=id Y
  cases a9
  have hD:=W 0 _ rfl
  simp only[go_sem] at hD
  clear W C
  have et:=cm (n:=i) (by omega)
  repeat refine az (a _) ?_
  refine aV a fun K c=>?_
  refine ai.bu (hJ _ rfl) 1 (n:=0) _ rfl rfl ?_;simp only[*,go_sem,-c,-a,-hJ,muA,msA,stA,smA,Int.reduceBEq,Int.reduceBNe]
  refine ai.nil a (c _ _ _ ?_);clear c K
  repeat refine az (a _) ?_
  refine cQ (a _) (by simp only[*,go_sem,-a,-hJ,Int.reduceBEq,Int.reduceBNe]) ?_
  refine cA (a _) ?_
  repeat refine az (a _) ?_
  refine jW a ?_
  repeat refine az (a _) ?_
  refine aV a fun K c=>?_
  refine ai.bu (hJ _ rfl) 7 (n:=0) _ rfl rfl ?_;simp only[*,go_sem,-c,-a,-hJ,muA,msA,stA,smA,Int.reduceBEq,Int.reduceBNe]
  intro hE f11;have hF:=eI f11;have ev:=fJ f11
  try simp only[au] at ev
  try simp only[*,go_sem,-c,-a,-hJ,-h,-p]
  intro hG f12;have hI:=eI f12;have eQ:=fJ f12
  try simp only[au] at eQ
  try simp only[*,go_sem,-c,-a,-hJ,-h,-p]
  refine ai.nil a (c _ _ _ ?_);clear c K
  refine yU (hJ _ rfl) fun nd no=>?_
  obtain ⟨hK,f,hle,eS,e0⟩:=K0 nd no
  clear nd no f11 f12 hF hI ev eQ
  refine Dw (hJ _ rfl) hle ?_
  clear hle
  have hL:=eS 0 (.int .i64 i) rfl
  have hM:=e0 0 (.slice d32 a8.length ab) rfl
  clear eS e0
  repeat refine az (a _) ?_
  refine aV a fun K c=>?_
  refine ai.gj (a _) rfl (by first|(simp only[*,go_sem,-c,-a,-hJ];done)|rfl) rfl Al (by simp only[*,go_sem,-c,-a,-hJ,muA,msA,stA,smA,Int.reduceBEq,Int.reduceBNe]) (KV ao hn) fun v F' ec U=>?_
  obtain ⟨rfl,rfl,rfl⟩:=U
  refine ai.nil a (c _ _ _ ?_);clear c K
  repeat refine az (a _) ?_
  refine aV a fun K c=>?_
  refine ai.bu (hJ _ rfl) 1 (n:=1) _ rfl rfl ?_;simp only[*,go_sem,-c,-a,-hJ,muA,msA,stA,smA,Int.reduceBEq,Int.reduceBNe]
  refine K1 (caps:=#[.pointer (some ⟨N,0,none⟩),.pointer (some ⟨b3,0,none⟩),.pointer (some ⟨b4,0,none⟩),.pointer (some ⟨hG,0,none⟩),.pointer (some ⟨a5,0,none⟩),.pointer (some ⟨M,0,none⟩),.pointer (some ⟨V,0,none⟩),.pointer (some ⟨hE,0,none⟩)]) (f0:=116) ar ⟨_,rfl,(by first|(simp only[*,go_sem,-c,-a,-hJ];done)|rfl),rfl,rfl⟩ (by simp only[*,go_sem,-c,-a,-hJ,muA,msA,stA,smA,Int.reduceBEq,Int.reduceBNe]) ?_ ?_
  ·exact K9 ao hn ar u0 (q.mono f) (s.mono f) (u.mono f) (w.mono f) ae a8 (Y.mono f) b5 (L.mono f) (f _ _ (e _ _ dq)) (f _ _ (e _ _ ds)) (f _ _ (e _ _ dt)) (f _ _ (e _ _ du)) (f _ _ (e _ _ dv)) (f _ _ (e _ _ dC)) (f _ _ (e _ _ dE)) (f _ _ (e _ _ dT)) (f _ _ (e _ _ ea)) hM (f _ _ (e _ _ eb)) (f _ _ (e _ _ a7)) hL (cf i a8 ed)
  refine ai.nil a (c _ _ _ ?_);clear c K
  repeat refine az (a _) ?_
  refine aV a fun K c=>?_
  refine ai.bu (hJ _ rfl) 2 (n:=0) _ rfl rfl ?_;simp only[*,go_sem,-c,-a,-hJ,muA,msA,stA,smA,Int.reduceBEq,Int.reduceBNe]
  refine ai.nil a (c _ _ _ ?_);clear c K
  change ∃e1,e1<d.length - i/\Dy _ al b3 b4 a5 V _ e1 _ _ _
  exact ⟨d.length - (i+1),by omega,i+1,hK,rfl,ar,rfl,e.trans f,(by simp only[*,go_sem,-a,-hJ,muA,msA,stA,smA,Int.reduceBEq,Int.reduceBNe]),(by simp only[*,go_sem,-a,-hJ,muA,msA,stA,smA,Int.reduceBEq,Int.reduceBNe]),(by simp only[*,go_sem,-a,-hJ,muA,msA,stA,smA,Int.reduceBEq,Int.reduceBNe]),(by simp only[*,go_sem,-a,-hJ,muA,msA,stA,smA,Int.reduceBEq,Int.reduceBNe]),(by simp only[*,go_sem,-a,-hJ,muA,msA,stA,smA,Int.reduceBEq,Int.reduceBNe]),(by simp only[*,go_sem,-a,-hJ,muA,msA,stA,smA,Int.reduceBEq,Int.reduceBNe]),(by simp only[*,go_sem,-a,-hJ,muA,msA,stA,smA,Int.reduceBEq,Int.reduceBNe]),(by simp only[*,go_sem,-a,-hJ,muA,msA,stA,smA,Int.reduceBEq,Int.reduceBNe]),(by simp only[*,go_sem,-a,-hJ,muA,msA,stA,smA,Int.reduceBEq,Int.reduceBNe]),(by simp only[*,go_sem,-a,-hJ,muA,msA,stA,smA,Int.reduceBEq,Int.reduceBNe]),(by simp only[*,go_sem,-a,-hJ,muA,msA,stA,smA,Int.reduceBEq,Int.reduceBNe]),(by simp only[*,go_sem,-a,-hJ,muA,msA,stA,smA,Int.reduceBEq,Int.reduceBNe]),(by simp only[*,go_sem,-a,-hJ,muA,msA,stA,smA,Int.reduceBEq,Int.reduceBNe]),rfl⟩
 ·have c1:decide ((i:Int)<(d.length:Int))=false:=by simp;omega
  obtain rfl:i=d.length:=by omega
  repeat refine az (a _) ?_
  refine aV a fun K c=>?_
  refine ai.bu (hJ _ rfl) 1 (n:=0) _ rfl rfl ?_;simp only[*,go_sem,-c,-a,-hJ,muA,msA,stA,smA,Int.reduceBEq,Int.reduceBNe]
  refine ai.nil a (c _ _ _ ?_);clear c K
  repeat refine az (a _) ?_
  refine cx (a _) (by simp only[*,go_sem,-a,-hJ,Int.reduceBEq,Int.reduceBNe]) ?_
  refine oZ ?_
  simp only[go_sem]
  repeat refine az (a _) ?_
  refine aV a fun K c=>?_
  refine ai.gj (a _) rfl (by first|(simp only[*,go_sem,-c,-a,-hJ];done)|rfl) rfl E2 (by simp only[*,go_sem,-c,-a,-hJ,muA,msA,stA,smA,Int.reduceBEq,Int.reduceBNe]) (KW ao hn) fun v F' ec U=>?_
  obtain ⟨rfl,rfl,rfl⟩:=U
  refine ai.nil a (c _ _ _ ?_);clear c K
  refine yU p fun nd no=>?_
  have rI:∀off sp,P ⟨k,off,sp⟩=none:=fun off sp=>no k (by simp[keys]) off sp
  have hle:Le ⟨bO P k (X.cy (⟨M,N,k,d.length,(fun i=>bl[i]?.getD false),base,T0,B0⟩:X) TT).fin,[]⟩ ⟨P,[(k,(X.cy (⟨M,N,k,d.length,(fun i=>bl[i]?.getD false),base,T0,B0⟩:X) TT).fin)]⟩:=j8 (by simp[lk]) (by simp) trivial
  have ad:aB rB (bO P k (X.cy (⟨M,N,k,d.length,(fun i=>bl[i]?.getD false),base,T0,B0⟩:X) TT).fin) (.slice (some ⟨k,0,none⟩) bl.length bl.length) bl:=aB.flat (fun b=>[.bool b]) bl (fun _=>rfl) rI (by
   show (((List.range d.length).map fun i=>Value.bool (bl[i]?.getD false)).toArray).toList=_
   rw[<-cd]
   apply List.ext_getElem?
   intro j
   rw[Lb bl]
   simp only[List.getElem?_map]
   rcases Nat.lt_or_ge j bl.length with y|y
   ·simp[y]
   ·simp[y]) (by omega)
  obtain ⟨E,bb⟩:∃E,E=bO P k (X.cy (⟨M,N,k,d.length,(fun i=>bl[i]?.getD false),base,T0,B0⟩:X) TT).fin:=⟨_,rfl⟩
  have a0:Ext P E:=by rw[bb];exact gm _ _ _
  have hN:Ext ro E:=J.trans (D.trans (e.trans a0))
  rw[<-bb] at hle ad
  refine Dw p hle ?_
  replace o:=o.mono a0
  have a7:E ⟨V,0,none⟩=some (.slice (some ⟨k,0,none⟩) bl.length bl.length):=by rw[cd];exact a0 _ _ (e _ _ a7)
  clear hle nd no bb rI dq ds dt du dv dC dE dT ea eb a hJ ao hn hj q s u w L ca cf c1 hlen hx hi a0 J D e hk hl ho hp hq hr ht hv fu fv fP fQ fS fU gn gp a4 gC gM g3 g4
  obtain ⟨_,_,C⟩:=o.op
  obtain ⟨_,_,R⟩:=ad.op
  have hJ:=p
  clear p
  refine cF.of hJ ?_
  repeat refine aa hJ ?_
  refine ag hJ ?_
  simp only[*,go_sem,-h]
  repeat refine aa hJ ?_
  refine ag hJ ?_
  simp only[*,go_sem,-h]
  repeat refine aa hJ ?_
  refine aU hJ ?_
  have g:=fX h;clear h;obtain ⟨hP,G,hQ⟩:=g;have h:=True.intro
  refine bX hJ [13,14,15,34,35,36,37,38,39,40,41,42,43,44,45,46,47] (fun m e3 F'=>∃(i23:Nat) (d17:Option Addr) (I:Nat) (a2:List (Nat×Obj)) (H:(List (List Int))),m=d.length - i23/\i23<=d.length/\bG (yW bl) i23 (d.drop i23) H=some hP/\F'=⟨E,a2⟩/\aW (rL rI) E 64 (.slice d17 H.length I) H a2/\H.length<=I/\slot e3 34= .int .i64 (i23:Int)/\slot e3 13= .slice d17 H.length I) d.length ?_ ?_
  ·refine ⟨0,none,0,[],([]:List (List Int)),(Nat.sub_zero _).symm,Nat.zero_le _,G,rfl,aW.nil _ _ _,Nat.le_refl _,?_⟩
   simp only[*,go_sem,-h]
  ·rintro jC Q F' O ⟨i23,d17,I,a2,H,rfl,j1,G,rfl,bc,hR,j2,kh⟩
   have h:=True.intro
   have kj:sz Q=49:=by rw[O.size];simp only[*,go_sem,-h]
   have kk:Q.defers=[]:=by rw[O.defers];simp only[*,go_sem,-h]
   have kl:slot Q 6= .slice none 0 0:=by rw[O.fj 6 (by decide)];simp only[*,go_sem,-h]
   have km:slot Q 8= .pointer (some ⟨V,0,none⟩):=by rw[O.fj 8 (by decide)];simp only[*,go_sem,-h]
   have kn:slot Q 32= .slice d38 d.length b1:=by rw[O.fj 32 (by decide)];simp only[*,go_sem,-h]
   have kp:slot Q 33= .int .i64 (d.length:Int):=by rw[O.fj 33 (by decide)];simp only[*,go_sem,-h]
   clear O S hd
   repeat refine aa hJ ?_
   refine ag hJ ?_
   simp only[*,go_sem,-h]
   repeat refine aa hJ ?_
   rcases Nat.lt_or_ge i23 d.length with hS|fa
   ·refine bK hJ (by simp only[*,go_sem,-h]) ?_
    refine aF hJ ?_
    obtain ⟨a3,bd⟩:∃x,d[i23]?=some x:=⟨_,List.getElem?_eq_getElem hS⟩
    rw[c5 bd] at G
    have g:=fX G;clear G h;obtain ⟨ks,h,fb⟩:=g
    unfold yW at h
    try dsimp only at h
    obtain ⟨kt,kv,hT,hV,ff⟩:=C _ _ bd
    obtain ⟨hz,rfl,Y⟩:=hV;obtain ⟨d32,ab,rfl,hA,hB,kx⟩:=id Y
    cases hT
    have hX:=ff 0 _ rfl;simp only[go_sem] at hX
    clear ff bd
    repeat refine aa hJ ?_
    refine aU hJ ?_
    repeat refine aa hJ ?_
    refine aL hJ fun ky=>?_
    refine ag hJ ?_
    simp only[*,go_sem,-h]
    repeat refine aa hJ ?_
    refine aL hJ fun k0=>?_
    refine ag hJ ?_
    have g:=fX h;clear h;obtain ⟨hY,hZ,h⟩:=g
    obtain ⟨k2,lb,fg⟩:=cw hZ
    obtain ⟨hy,eh,a9,ba,W⟩:=R _ _ fg
    obtain rfl:eh=[.bool hY]:=ba
    cases a9
    have h0:=W 0 _ rfl;simp only[go_sem] at h0
    clear W fg
    try simp only[*,go_sem,-h]
    have g:=iX h;clear h;rcases g with ⟨bj,h⟩|⟨bj,h⟩
    ·try simp only[Int.ofNat_lt] at bj
     refine bK hJ (by simp only[*,go_sem,-h]) ?_
     refine aL hJ fun h1=>?_
     refine ag hJ ?_
     have g:=fX h;clear h;obtain ⟨h2,h3,h⟩:=g
     obtain ⟨h4,fi⟩:=cT h3
     simp only[*,go_sem,-h]
     intro fl f45;have h5:=eI f45;have fp:=fJ f45
     have h6:=aN.cons fp h1
     try simp only[au] at fp
     try simp only[*,go_sem,-h]
     refine AD (r:=(rL rI)) (l:=H) (x:=a3) (cs:=#[.slice d32 a3.length ab]) (e2:=64) [(fl,.cells #[.slice d32 a3.length ab] 64)] [] (by first|rfl|simp only[List.append_nil,List.cons_append,List.nil_append,List.append_assoc]|(simp only[List.append_nil,List.cons_append,List.nil_append,List.append_assoc];rfl)) bc h6 h4 ⟨_,rfl,Y⟩ (by simp only[*,go_sem,-h]) h5 rfl rfl lz lz rP rR rfl rQ (by decide) (by decide) (fun lh fq bk h7 h8 lj=>?_)
     simp only[List.append_nil,List.cons_append,List.nil_append,List.append_assoc] at h8
     subst h7
     rw[<-fi] at bk;clear fi
     obtain ⟨d53,h9,rfl,ib⟩:=bk.len
     refine ⟨⟨E,(fl,.cells #[.slice d32 a3.length ab] 64)::fq⟩,Le.refl _,?_⟩
     refine aD ?_
     try simp only[*,go_sem,-h]
     have g:=Option.some.inj h;clear h;subst g
     have h:=True.intro
     have et:=cm (n:=i23) (by have:=b2;omega)
     refine ag hJ ?_
     simp only[*,go_sem,-h]
     refine ⟨d.length - (i23+1),by omega,_,Le.sub (List.Sublist.cons _ (List.Sublist.refl _)),i23+1,d53,h9,fq,h2,rfl,by omega,fb,rfl,bk,ib,?_⟩
     simp only[*,go_sem,-h]
    ·try simp only[Int.ofNat_lt] at bj
     refine bL hJ (by simp only[*,go_sem,-h]) ?_
     refine aF hJ ?_
     have g:=Option.some.inj h;clear h;subst g
     have h:=True.intro
     have et:=cm (n:=i23) (by have:=b2;omega)
     refine ag hJ ?_
     simp only[*,go_sem,-h]
     refine ⟨d.length - (i23+1),by omega,_,Le.sub (List.Sublist.refl _),i23+1,d17,I,a2,H,rfl,by omega,fb,rfl,bc,hR,?_⟩
     simp only[*,go_sem,-h]
   ·have ll:=Nat.not_lt.2 fa
    refine bL hJ (by simp only[*,go_sem,-h]) ?_
    rw[List.drop_eq_nil_of_le fa] at G
    have g:=Option.some.inj G;clear G h;subst g
    have h:=hQ
    dsimp only[aG] at h
    refine bU ?_
    simp only[go_sem]
    repeat refine aa hJ ?_
    refine aL hJ fun ln=>?_
    refine ag hJ ?_
    simp only[*,go_sem,-h]
    have g:=Option.some.inj h;clear h;subst g
    refine aL hJ fun fr=>?_
    obtain ⟨fs,bm,lo,ft,ic⟩:=bc.lB (([]:List (Nat×Obj))) [] [] (by first|rfl|simp only[List.append_nil,List.cons_append,List.nil_append,List.append_assoc]|(simp only[List.append_nil,List.cons_append,List.nil_append,List.append_assoc];rfl)) (by first|rfl|simp only[List.append_nil,List.cons_append,List.nil_append,List.append_assoc]|(simp only[List.append_nil,List.cons_append,List.nil_append,List.append_assoc];rfl)) fr (aA.nil _)
    clear fr
    refine cH (F:=⟨fs,([]:List (Nat×Obj))⟩) hJ ic ?_
    obtain ⟨lr,lv,lx⟩:=ft.op
    replace o:=o.mono bm;clear C;obtain ⟨_,_,C⟩:=o.op
    replace ad:=ad.mono bm;clear R;obtain ⟨_,_,R⟩:=ad.op
    refine ay ?_
    exact (l7 (t:=6) rfl (by simp only[*,go_sem]) (by simp only[*,go_sem]) ⟨rfl,fs,hN.trans bm,Le.refl _,_,rfl,ft⟩).2
end Go.Proofs.YtjepffnffjdloaaGreatDoor
end
section
namespace Go.Proofs.YtjepffnffjdloaaGreatDoor
open Go Go.Sep Go.Proofs
set_option maxRecDepth 100000
set_option maxHeartbeats 4000000
def yX (u0:ak)(b:Int):Option ((List Int)×Int):=
 ah (gO u0 ([(hO b),oz])) fun a=>cond ((a.2 != 0)) (some (([]:(List Int)),a.2)) (ah (sS a.1.book ([([]:(List Int))])) fun c=>ah (uF a.1 b c) fun d=>ah (wU d) fun e=>some (e,0))
theorem Lf {ro:Addr->Option Value}(L:cU ro)(u0:ak){s1 g i j:Value}(D:bI ro u0 s1 g i j)(a:Int){r:((List Int)×Int)}(h:yX u0 a=some r):pX Tryz.prog 47 #[bv u0 s1 g i j,.int .i64 a] ro (fun v aK=>∃W,v= .tuple #[W,.int .i64 r.2]/\aB rI aK W r.1):=by
 unfold yX at h
 have ba:=D.oc;simp only[bC] at ba
 refine fL.go Tryz.func47 rfl Tryz.ntmps47 Tryz.results47 (by simp) fun Φ hJ A b5 hd hs=>?_
 have ca:=hs 0
 have k1:=hs 1
 clear hs
 refine aa hJ (ag hJ ?_)
 simp only[*,go_sem]
 refine ax fun w c bb=>?_;try simp only[au] at bb
 try simp only[*,go_sem]
 refine aa hJ ?_
 refine aL hJ fun bc=>?_
 refine ag hJ ?_
 revert h;refine bS fun n bd h=>?_
 simp only[*,go_sem]
 refine ax fun z X Y=>?_;have Z:=aN.cons Y bc;try simp only[au] at Y
 try simp only[*,go_sem]
 obtain ⟨B,M,ab⟩:=ga (b:=z) (o:=(.cells #[.func (.func 89) #[.int .i64 a] #[],.func (.func 90) #[] #[]] 102)) [] ((w,bk u0 s1 g i j)::[]) Z X (aA.cons c (aA.nil _))
 have ad:aB (cV) (bO ro z (.cells #[.func (.func 89) #[.int .i64 a] #[],.func (.func 90) #[] #[]] 102)) (.slice (some ⟨z,0,none⟩) 2 2) [(hO a),oz]:=(aB.two (r:=(cV)) (e:=102) (v:=.func (.func 89) #[.int .i64 a] #[]) (u:=.func (.func 90) #[] #[]) (x:=(hO a)) (y:=oz) (own:=[(z,.cells #[.func (.func 89) #[.int .i64 a] #[],.func (.func 90) #[] #[]] 102)]) X (by simp[lk]) rfl ⟨89,#[.int .i64 a],#[],rfl,⟨by simp only[go_sem],fun bj bl N _ _ _ _ _ O P Q R h=>by simp only[go_sem];exact v5 a N ⟨O,P,Q,R⟩ h⟩⟩ ⟨90,#[],#[],rfl,⟨by simp only[go_sem],fun bj bl N _ _ _ _ _ O P Q R h=>by simp only[go_sem];exact GN N ⟨O,P,Q,R⟩ h⟩⟩)
 generalize bO ro z (.cells #[.func (.func 89) #[.int .i64 a] #[],.func (.func 90) #[] #[]] 102)=cb at ad M B ab
 refine g5 hJ ab ?_
 replace D:=D.mono B
 replace c:=M.hd
 replace L:=L.mono B
 simp only[bf] at M
 have bm:=aN.tl Z
 refine bV hJ _ (jL L u0 D ([(hO a),oz]) ad bd) fun v ae al ao k=>?_
 obtain ⟨E,F,G,H,I,rfl,d,q⟩:=k
 have bo:=d.oc;simp only[bC] at bo
 have br:=q.oc;simp only[bC] at br
 replace c:=ao.hd
 simp only[bf] at ao
 refine aD ?_
 try simp only[*,go_sem]
 refine ax fun J f ar=>?_;have cd:=aN.cons ar bm;try simp only[au] at ar
 try simp only[*,go_sem]
 refine aa hJ (aa hJ (ag hJ ?_))
 simp only[*,go_sem]
 revert h;refine jC hJ (by simp only[*,go_sem]) (fun bs h=>?_) fun bs h=>?_
 ·obtain rfl:=sI h
  refine aa hJ (ag hJ ?_)
  simp only[*,go_sem]
  refine ay ?_
  simp only[*,go_sem]
  exact ⟨_,(B).trans al,Le.sub (List.nil_sublist _),_,rfl,aB.nil _ _⟩
 refine aF hJ (aa hJ ?_)
 refine aL hJ fun bz=>?_
 refine cY hJ mixed 4 2 (by simp only[*,go_sem]) (by kernel_rfl) ?_
 revert h;refine bS fun b0 b1 h=>?_
 simp only[*,go_sem]
 refine ax fun C a0 a2=>?_;have a3:=aN.cons a2 bz;try simp only[au] at a2
 try simp only[*,go_sem]
 obtain ⟨m,K,a4⟩:=ga (b:=C) (o:=(.cells #[.slice none 0 0] 64)) [] ((J,kn n.1 E F G H I)::(w,bk u0 s1 g i j)::[]) a3 a0 (aA.cons f (aA.cons c (aA.nil _)))
 have a5:aB (rL rI) (bO ae C (.cells #[.slice none 0 0] 64)) (.slice (some ⟨C,0,none⟩) 1 1) [([]:(List Int))]:=(aB.one (r:=(rL rI)) (e:=64) (cs:=#[.slice none 0 0]) (x:=([]:(List Int))) (own:=[(C,.cells #[.slice none 0 0] 64)]) a0 (by simp[lk]) ⟨_,rfl,aB.nil _ _⟩)
 generalize bO ae C (.cells #[.slice none 0 0] 64)=cf at a5 K m a4
 refine g5 hJ a4 ?_
 replace d:=d.mono m
 replace q:=q.mono m
 replace f:=K.hd
 replace c:=K.tl.hd
 simp only[bf] at K
 have cl:=aN.tl a3
 refine bV hJ _ (A9 n.1.book d ([([]:(List Int))]) a5 b1) fun v cy s S k=>?_
 obtain ⟨cS,rfl,a6⟩:=k
 replace d:=d.mono s
 replace q:=q.mono s
 replace f:=S.hd
 replace c:=S.tl.hd
 simp only[bf] at S
 obtain ⟨d92,c0,rfl,da,db,-⟩:=id a6
 have dd:=eo (l:=[(J,kn n.1 E F G H I),(w,bk u0 s1 g i j)]) (m.trans s) (aA.cons f (aA.cons c (aA.nil _)))
 refine ⟨by simp only[*,go_sem],?_⟩
 refine mC ?_
 revert h;refine bS fun b2 b3 h=>?_
 try simp only[*,go_sem]
 refine r6 _ (Dz n.1 d.e d.p d.y d.t q a b0 a6 b3) fun v df T U k=>?_
 obtain ⟨dk,rfl,a7⟩:=k
 replace f:=U.hd
 replace c:=U.tl.hd
 simp only[bf] at U
 obtain ⟨d111,dp,rfl,dq,ds,-⟩:=id a7
 have dt:=eo (l:=[(J,kn n.1 E F G H I),(w,bk u0 s1 g i j)]) ((m.trans s).trans T) (aA.cons f (aA.cons c (aA.nil _)))
 refine ⟨by simp only[*,go_sem],?_⟩
 refine mC ?_
 revert h;refine bS fun du b4 h=>?_
 obtain rfl:=sI h
 try simp only[*,go_sem]
 refine bV hJ _ (GP b2 a7 b4) fun v dv a8 V k=>?_
 obtain ⟨dC,rfl,a9⟩:=k
 replace f:=V.hd
 replace c:=V.tl.hd
 simp only[bf] at V
 obtain ⟨d124,dE,rfl,dT,ea,-⟩:=id a9
 have eb:=eo (l:=[(J,kn n.1 E F G H I),(w,bk u0 s1 g i j)]) (((m.trans s).trans T).trans a8) (aA.cons f (aA.cons c (aA.nil _)))
 refine ⟨by simp only[*,go_sem],?_⟩
 refine mC ?_
 try simp only[*,go_sem]
 refine ay ?_
 simp only[*,go_sem]
 exact ⟨_,(((((B).trans al).trans m).trans s).trans T).trans a8,Le.sub (List.nil_sublist _),_,rfl,a9⟩
def yY (u0:ak)(c:Int)(a:(cI×Int))(st:(Bool×Int×(List (List Int))×Int)):Option (Fl (Bool×Int×(List (List Int))×Int) ((List Int)×Bool×Int)):=
 cond (decide (st.2.2.2<(IntKind.i64.wrap ((IntKind.i64.wrap (3 - (u0.props.length:Int)))+1)))) (ah (uF a.1 c st.2.2.1) fun b=>cond (decide (0<(b.length:Int))) (ah (bw b 0) fun d=>some (.rt (d,true,0))) (ah (sS a.1.book st.2.2.1) fun e=>some (.nx (st.1,st.2.1,e,(IntKind.i64.wrap (st.2.2.2+1)))))) (some (.bk (st.1,st.2.1,st.2.2.1,st.2.2.2)))
def yZ (u0:ak)(b:Int):Option ((List Int)×Bool×Int):=
 ah (gO u0 ([(hO b)])) fun a=>cond ((a.2 != 0)) (some (([]:(List Int)),false,a.2)) (ah (bg (yY u0 b a) fu (false,a.2,([([]:(List Int))]),0)) fun o=>aG o (fun c=>some (([]:(List Int)),false,0)) (fun _ _=>none) (fun r=>some r))
theorem Lg {ro:Addr->Option Value}(K:cU ro)(u0:ak){s1 S k l:Value}(n:bI ro u0 s1 S k l)(a:Int){r:((List Int)×Bool×Int)}(h:yZ u0 a=some r):pX Tryz.prog 48 #[bv u0 s1 S k l,.int .i64 a] ro (fun v aK=>∃T,v= .tuple #[T,.bool r.2.1,.int .i64 r.2.2]/\aB rI aK T r.1):=by
 obtain ⟨d10,L,rfl,ed,eh,-⟩:=id n.p
 unfold yZ at h
 have bm:=n.oc;simp only[bC] at bm
 refine fL.go Tryz.func48 rfl Tryz.ntmps48 Tryz.results48 (by simp) fun Φ hJ A bo hd hs=>?_
 have br:=hs 0
 have k1:=hs 1
 clear hs
 refine aa hJ (ag hJ ?_)
 simp only[*,go_sem]
 refine ax fun M C bs=>?_;try simp only[au] at bs
 try simp only[*,go_sem]
 refine aa hJ ?_
 refine aL hJ fun bz=>?_
 refine ag hJ ?_
 revert h;refine bS fun f b0 h=>?_
 simp only[*,go_sem]
 refine ax fun q U V=>?_;have W:=aN.cons V bz;try simp only[au] at V
 try simp only[*,go_sem]
 obtain ⟨g,N,X⟩:=ga (b:=q) (o:=(.cells #[.func (.func 89) #[.int .i64 a] #[]] 102)) [] ((M,bk u0 s1 (sl d10 u0.props L) k l)::[]) W U (aA.cons C (aA.nil _))
 have Y:aB (cV) (bO ro q (.cells #[.func (.func 89) #[.int .i64 a] #[]] 102)) (.slice (some ⟨q,0,none⟩) 1 1) [(hO a)]:=(aB.one (r:=(cV)) (e:=102) (cs:=#[.func (.func 89) #[.int .i64 a] #[]]) (x:=(hO a)) (own:=[(q,.cells #[.func (.func 89) #[.int .i64 a] #[]] 102)]) U (by simp[lk]) ⟨89,#[.int .i64 a],#[],rfl,⟨by simp only[go_sem],fun et ev b1 _ _ _ _ _ b2 b3 b4 b5 h=>by simp only[go_sem];exact v5 a b1 ⟨b2,b3,b4,b5⟩ h⟩⟩)
 generalize bO ro q (.cells #[.func (.func 89) #[.int .i64 a] #[]] 102)=eQ at Y N g X
 refine g5 hJ X ?_
 replace n:=n.mono g
 replace C:=N.hd
 replace K:=K.mono g
 simp only[bf] at N
 have ca:=aN.tl W
 refine bV hJ _ (jL K u0 n ([(hO a)]) Y b0) fun v Z O ab s=>?_
 obtain ⟨ad,ae,al,ao,ar,rfl,c,i⟩:=s
 have cb:=c.oc;simp only[bC] at cb
 have cd:=i.oc;simp only[bC] at cd
 replace C:=ab.hd
 simp only[bf] at ab
 refine aD ?_
 try simp only[*,go_sem]
 refine ax fun a0 cf a2=>?_;have eS:=aN.cons a2 ca;try simp only[au] at a2
 try simp only[*,go_sem]
 refine aa hJ (aa hJ (ag hJ ?_))
 simp only[*,go_sem]
 revert h;refine jC hJ (by simp only[*,go_sem]) (fun cl h=>?_) fun cl h=>?_
 ·obtain rfl:=sI h
  refine aa hJ (ag hJ ?_)
  simp only[*,go_sem]
  refine ay ?_
  simp only[*,go_sem]
  exact ⟨_,(g).trans O,Le.sub (List.nil_sublist _),_,rfl,aB.nil _ _⟩
 refine aF hJ (aa hJ ?_)
 refine aL hJ fun cy=>?_
 refine ag hJ ?_
 simp only[*,go_sem]
 refine ax fun j a3 a4=>?_;have e0:=aN.cons a4 cy;try simp only[au] at a4
 try simp only[*,go_sem]
 refine aa hJ (aa hJ (ag hJ ?_))
 simp only[*,go_sem]
 refine aL hJ fun a5=>?_
 obtain ⟨u,a6,a7⟩:=ga (b:=j) (o:=(.cells #[.slice none 0 0] 64)) [] ((a0,kn f.1 ad ae al ao ar)::(M,bk u0 s1 (sl d10 u0.props L) k l)::[]) a5 a3 (aA.cons cf (aA.cons C (aA.nil _)))
 clear a5
 have P:aB (rL rI) (bO Z j (.cells #[.slice none 0 0] 64)) (.slice (some ⟨j,0,none⟩) 1 1) [([]:(List Int))]:=(aB.one (r:=(rL rI)) (e:=64) (cs:=#[.slice none 0 0]) (x:=([]:(List Int))) (own:=[(j,.cells #[.slice none 0 0] 64)]) a3 (by simp[lk]) ⟨_,rfl,aB.nil _ _⟩)
 generalize bO Z j (.cells #[.slice none 0 0] 64)=a8 at u a6 a7 P
 refine cH hJ a7 ?_
 obtain ⟨e1,e2,-⟩:=P.op
 replace c:=c.mono u
 replace i:=i.mono u
 simp only[bf] at a6
 refine aU hJ ?_
 revert h;refine bS fun cS D a9=>?_
 refine bX hJ [4,5,6,8,9,27,28,29,30,31,32,33,34,35,36,37,38,39,40,41,42,43] (fun m E F'=>∃(F:Addr->Option Value) (d98:Option Addr) (Q:Nat) (G:Bool) (H:Int) (d:(List (List Int))) (I:Int),bg (yY u0 a f) m (G,H,d,I)=some cS/\F'=⟨F,(a0,kn f.1 ad ae al ao ar)::(M,bk u0 s1 (sl d10 u0.props L) k l)::[]⟩/\Ext a8 F/\aB (rL rI) F (.slice d98 d.length Q) d/\slot E 5= .bool G/\slot E 6= .int .i64 H/\slot E 8= .slice d98 d.length Q/\slot E 27= .int .i64 I) fu ?_ ?_
 ·refine ⟨a8,(some ⟨j,0,none⟩),1,false,f.2,([([]:(List Int))]),0,D,rfl,Ext.refl _,P,?_⟩
  simp only[*,go_sem]
 rintro R e3 F' ba ⟨F,d98,Q,G,H,d,I,D,rfl,w,z,fa,fb,ff,fg⟩
 refine gb hJ fun _ c0=>?_
 replace c:=c.mono w
 replace i:=i.mono w
 simp only[bf] at c0
 obtain ⟨fi,fl,-⟩:=z.op
 obtain ⟨da,db,dd⟩:=ba.pick [1,7,26] (by decide)
 simp only[*,go_sem] at da db dd
 clear ba bo hd br k1
 obtain _|R:=R
 ·exact absurd D (by simp only[bg,reduceCtorEq,not_false_eq_true])
 revert D;refine bS fun fp h B=>?_
 unfold yY at h
 try dsimp only at h
 refine aa hJ (ag hJ ?_)
 simp only[*,go_sem]
 refine aa hJ ?_
 revert h;refine jC hJ (by simp only[*,go_sem]) (fun df h=>?_) fun df h=>?_
 ·refine aF hJ (aa hJ ?_)
  refine aU hJ (aa hJ ?_)
  refine aa hJ (ag hJ ?_)
  revert h;refine bS fun fq dk h=>?_
  simp only[*,go_sem]
  refine r6 _ (Dz f.1 c.e c.p c.y c.t i a d z dk) fun v fr J dp s=>?_
  obtain ⟨fs,rfl,bb⟩:=s
  replace z:=z.mono J
  replace c:=c.mono J
  simp only[bf] at dp
  obtain ⟨d121,ft,rfl,fv,fw,-⟩:=id bb
  refine aD ?_
  try simp only[*,go_sem]
  refine aa hJ (ag hJ ?_)
  simp only[*,go_sem]
  revert h;refine jC hJ (by simp only[*,go_sem]) (fun dq h=>?_) fun dq h=>?_
  ·refine aa hJ (ag hJ ?_)
   revert h;refine bS fun fx ds h=>?_
   obtain rfl:=sI h
   obtain ⟨fP,fQ,bc⟩:=cw ds
   obtain ⟨fS,fU,dt,du,bd⟩:=bb.el _ _ bc
   obtain ⟨gg,rfl,bj⟩:=du;obtain ⟨d130,gl,rfl,gn,gp,gB⟩:=id bj
   cases dt
   have dv:=bd 0 _ rfl;simp only[go_sem] at dv
   clear bd bc
   try simp only[*,go_sem]
   obtain rfl:=sI B;clear B
   have h:=a9
   dsimp only[aG] at h
   obtain rfl:=sI h
   refine ay ?_
   simp only[*,go_sem]
   exact ⟨_,((((g).trans O).trans u).trans w).trans J,Le.sub (List.nil_sublist _),_,rfl,bj⟩
  refine aF hJ (ag hJ ?_)
  revert h;refine bS fun dC dE h=>?_
  obtain rfl:=sI h
  simp only[*,go_sem]
  refine bV hJ _ (A9 f.1.book c d z dE) fun v dT ea eb s=>?_
  obtain ⟨gC,rfl,bl⟩:=s
  simp only[bf] at eb
  obtain ⟨d144,ec,rfl,gM,gT,-⟩:=id bl
  refine aD ?_
  try simp only[*,go_sem]
  refine ag hJ ?_
  simp only[*,go_sem]
  refine ⟨R,Nat.lt_succ_self _,_,Le.sub (List.Sublist.refl _),dT,d144,ec,G,H,dC,(IntKind.i64.wrap (I+1)),B,rfl,(w.trans (J.trans ea)),bl,?_⟩
  simp only[*,go_sem]
 obtain rfl:=sI h
 refine bU ?_
 simp only[go_sem]
 obtain rfl:=sI B;clear B
 have h:=a9
 dsimp only[aG] at h
 obtain rfl:=sI h
 refine aa hJ (ag hJ ?_)
 simp only[*,go_sem]
 refine ay ?_
 simp only[*,go_sem]
 exact ⟨_,(((g).trans O).trans u).trans w,Le.sub (List.nil_sublist _),_,rfl,aB.nil _ _⟩
def y2 (a:(Int×Int×Int))(e:(ak×Int))(b:((List Int)×Int))(f:(ak×Int))(g:(ak×Int))(c:(Int×Int))(d:((List Int)×Int)):Option Bool:=
 cond ((a.2.2==0)) (cond ((e.2==0)) (cond ((b.2==0)) (cond ((f.2==9)) (cond ((g.2==0)) (cond ((c.2==0)) (cond ((d.2==0)) (cond ((a.1==0)) (cond ((a.2.1==2)) (ah (mV b.1 ([11,12])) fun h=>cond (h) (cond ((c.1==2)) (ah (mV d.1 ([1])) fun i=>some i) (some false)) (some false)) (some false)) (some false)) (some false)) (some false)) (some false)) (some false)) (some false)) (some false)) (some false)
def y3 (a:ak):Option Bool:=
 ah (mX a) fun d=>ah (jO 0 true) fun e=>ah (sY a e) fun b=>ah (s4 b.1 0) fun f=>ah (jO 1 true) fun g=>ah (sY a g) fun h=>ah (qs 12 12) fun i=>ah (wS a 0 i) fun c=>ah (jg c.1) fun j=>ah (jO 0 true) fun k=>ah (kL a k) fun l=>ah (jO 1 true) fun m=>ah (kL l m) fun n=>ah (jO 0 false) fun o=>ah (kL n o) fun p=>ah (kJ p) fun q=>y2 d b f h c j q
def y4 (d:ak)(f:(Int×Int))(g:(Int×Int))(h:(Int×Int))(i:(Int×Int))(b:(Int×av×Int))(c:(Int×av×Int))(a:(av×av×Bool×Int)):Option Bool:=
 ah (yX d 2) fun j=>ah (yZ d 2) fun e=>cond ((f.2 != 0)) (some false) (cond ((g.2 != 0)) (some false) (cond ((h.2 != 0)) (some false) (cond ((i.2 != 0)) (some false) (cond ((b.2.2 != 0)) (some false) (cond ((c.2.2 != 0)) (some false) (cond ((a.2.2.2 != 0)) (some false) (cond ((j.2 != 0)) (some false) (cond ((e.2.2 != 0)) (some false) (cond ((f.1 != 0)) (some false) (cond ((g.1 != 2)) (some false) (cond ((h.1 != 0)) (some false) (cond ((i.1 != 1)) (some false) (cond ((b.1 != 0)) (some false) (ah (fT 1 1) fun k=>cond (!((b.2.1.num==k.num)&&(b.2.1.den==k.den))) (some false) (cond ((c.1 != (-1))) (some false) (ah (fT 0 1) fun l=>cond (!((c.2.1.num==l.num)&&(c.2.1.den==l.den))) (some false) (cond (!a.2.2.1) (some false) (ah (fT 3 2) fun m=>cond (!((a.1.num==m.num)&&(a.1.den==m.den))) (some false) (ah (fT 3 2) fun n=>cond (!((a.2.1.num==n.num)&&(a.2.1.den==n.den))) (some false) (ah (mV j.1 ([11,12,13,14])) fun o=>cond (!o) (some false) (cond (!e.2.1) (some false) (ah (mV e.1 ([11])) fun p=>cond (!p) (some false) (y3 d)))))))))))))))))))))))
def y5 (a:ak)(b:ak):Option Bool:=
 ah (sX a 0) fun c=>ah (sX a 1) fun d=>ah (jg a) fun e=>ah (jg b) fun f=>ah (s5 a) fun g=>ah (s5 b) fun h=>ah (w5 a) fun i=>y4 a c d e f g h i
def y6 (b:ak)(s:ak)(g:(av×Int))(c:(Int×av×Int))(h:(av×Int))(d:(av×Bool×Int))(e:(av×Bool×Int))(f:(av×Bool×Int)):Option Bool:=
 ah (fy b) fun i=>ah (s4 b 0) fun j=>ah (xb b 0) fun a=>cond ((g.2 != 0)) (some false) (cond ((c.2.2 != 0)) (some false) (cond ((h.2 != 0)) (some false) (cond ((d.2.2 != 0)) (some false) (cond ((e.2.2 != 0)) (some false) (cond ((f.2.2 != 0)) (some false) (cond ((i.2 != 0)) (some false) (cond ((j.2 != 0)) (some false) (cond ((a.2.2 != 0)) (some false) (ah (fT 13 4) fun k=>cond (!((g.1.num==k.num)&&(g.1.den==k.den))) (some false) (cond ((c.1 != 2)) (some false) (ah (fT 11 8) fun l=>cond (!((c.2.1.num==l.num)&&(c.2.1.den==l.den))) (some false) (ah (fT 1 4) fun m=>cond (!((h.1.num==m.num)&&(h.1.den==m.den))) (some false) (ah (fT 24 13) fun n=>cond (!((d.1.num==n.num)&&(d.1.den==n.den))) (some false) (cond (!d.2.1) (some false) (ah (fT 2 13) fun o=>cond (!((e.1.num==o.num)&&(e.1.den==o.den))) (some false) (cond (e.2.1) (some false) (ah (fT 1 1) fun p=>cond (!((f.1.num==p.num)&&(f.1.den==p.den))) (some false) (cond (!f.2.1) (some false) (cond ((i.1 != 3)) (some false) (ah (mV j.1 ([10,11,12])) fun t=>cond (!t) (some false) (ah (fT 1 4) fun q=>cond (!((a.1.num==q.num)&&(a.1.den==q.den))) (some false) (ah (fT 1 1) fun r=>cond (!((a.2.1.num==r.num)&&(a.2.1.den==r.den))) (some false) (y5 b s)))))))))))))))))))))))
def eH :Option Bool:=
 ah (xo) fun a=>ah (xk a ([11]) 2) fun b=>ah (lK a 5) fun c=>ah (lP 2 11) fun d=>ah (om a d) fun e=>ah (lP 2 10) fun f=>ah (lM a f) fun g=>ah (lP 2 12) fun h=>ah (kI b h) fun i=>ah (lP 2 12) fun j=>ah (lN b j) fun k=>ah (lP 2 12) fun l=>ah (lN a l) fun m=>y6 a b c e g i k m
theorem gF:eH=some true:=by decide+kernel
set_option maxHeartbeats 40000000 in
theorem DC {Φ:Goroutine->af->Prop}(hJ:Closed Tryz.prog true (dY Tryz.prog Φ)){A:Act}{ro:Addr->Option Value}(a:(Int×Int×Int))(f:(ak×Int))(b:((List Int)×Int))(g:(ak×Int))(i:(ak×Int))(d:(Int×Int))(c:((List Int)×Int))(Q:cU ro){j:Value}(k:aB rI ro j b.1){l:Value}(m:aB rI ro l c.1)(q:sz A=439/\A.defers=[]/\slot A 0= .bool false/\slot A 4= .int .i64 a.2.2/\slot A 7= .int .i64 f.2/\slot A 9= .int .i64 b.2/\slot A 12= .int .i64 g.2/\slot A 15= .int .i64 i.2/\slot A 18= .int .i64 d.2/\slot A 20= .int .i64 c.2/\slot A 21=j/\slot A 28= .int .i64 d.1/\slot A 40= .int .i64 a.1/\slot A 41= .int .i64 a.2.1/\slot A 43=l)(h:y2 a f b g i d c=some true):Wp (dY Tryz.prog Φ) (bx (bx (bx (bx (bx (bx (bx (bx (bx (bx (bx (bx (bx (bx (bx (bx (bx (bx (bx (bx (bx (bx (bx (bx (bx (bx (bx (bx (bx (bx (bx (bx (Tryz.f10.body.getD .skip))))))))))))))))))))))))))))))))) (iT Tryz.prog [.tmp 0] (fun v _=>v= .bool true)) A ⟨ro,[]⟩:=by
 obtain ⟨R,hd,S,T,U,V,W,X,Y,Z,ab,ad,ae,al,ao⟩:=q
 obtain ⟨ar,a0,rfl,a2,a3,-⟩:=id k
 obtain ⟨a4,a5,rfl,a6,a7,-⟩:=id m
 unfold y2 at h
 refine gb hJ fun s t=>?_
 have u:=s.nd
 try simp only[keys,List.map_cons,List.map_nil,List.map_append,List.cons_append,List.nil_append,List.nodup_cons,List.mem_cons,List.mem_append,List.not_mem_nil,or_false,not_or] at u
 simp only[bf] at t
 refine aa hJ ?_
 refine aL hJ fun w=>?_
 refine ep hJ fun K n=>?_
 revert h;refine cS (fun y h=>?_) fun y h=>?_
 ·revert h;refine cS (fun z h=>?_) fun z h=>?_
  ·revert h;refine cS (fun B h=>?_) fun B h=>?_
   ·revert h;refine cS (fun C h=>?_) fun C h=>?_
    ·revert h;refine cS (fun D h=>?_) fun D h=>?_
     ·revert h;refine cS (fun E h=>?_) fun E h=>?_
      ·revert h;refine cS (fun F h=>?_) fun F h=>?_
       ·revert h;refine cS (fun G h=>?_) fun G h=>?_
        ·revert h;refine cS (fun H h=>?_) fun H h=>?_
         ·revert h;refine bS fun a8 I h=>?_
          try simp (maxSteps:=10000000) only[*,go_sem]
          refine ax fun a9 J o=>?_;have L:=aN.cons o w;try simp only[au] at o
          try simp (maxSteps:=10000000) only[*,go_sem]
          refine aM hJ _ (qk b.1 (k.mono aH) ([11,12]) ((aB.flat (r:=rI) (e:=3) (cs:=#[.int .i64 11,.int .i64 12]) (fun x=>[.int .i64 x]) ([11,12]) (fun _=>rfl) J rfl (by simp)).mono (ki (by simp (maxSteps:=10000000) only[*,go_sem]))) I) (aD ?_)
          revert h;refine cS (fun M h=>?_) fun M h=>?_
          ·revert h;refine cS (fun N h=>?_) fun N h=>?_
           ·revert h;refine bS fun ba O h=>?_
            obtain rfl:=sI h
            try simp (maxSteps:=10000000) only[*,go_sem]
            refine ax fun bb P p=>?_;have bc:=aN.cons p L;try simp only[au] at p
            try simp (maxSteps:=10000000) only[*,go_sem]
            refine aM hJ _ (qk c.1 (m.mono aH) ([1]) ((aB.flat (r:=rI) (e:=3) (cs:=#[.int .i64 1]) (fun x=>[.int .i64 x]) ([1]) (fun _=>rfl) P rfl (by simp)).mono (ki (by simp (maxSteps:=10000000) only[*,go_sem]))) O) (aD ?_)
            try simp (maxSteps:=10000000) only[*,go_sem]
            refine n.go ?_;clear n K
            refine ay ?_
            try simp only[*,go_sem]
           cases h
          cases h
         cases h
        cases h
       cases h
      cases h
     cases h
    cases h
   cases h
  cases h
 cases h
set_option maxHeartbeats 40000000 in
theorem Lh {Φ:Goroutine->af->Prop}(hJ:Closed Tryz.prog true (dY Tryz.prog Φ)){A:Act}{ro:Addr->Option Value}(d:ak)(eQ:((List Int)×Int))(eS:(Int×Int))(e0:(Int×Int))(b0:(Int×Int))(e1:(Int×Int))(e2:(Int×av×Int))(e3:(Int×av×Int))(fa:(av×av×Bool×Int)){i:Nat}(a:cU ro){b1:Value}(fb:aB rI ro b1 eQ.1){j k m n:Value}(c:bI ro d j k m n)(ff:sz A=439/\A.defers=[]/\slot A 0= .bool false/\slot A 1= .pointer (some ⟨i,0,none⟩)/\slot A 4= .int .i64 eS.2/\slot A 7= .int .i64 e0.2/\slot A 9= .int .i64 b0.2/\slot A 12= .int .i64 e1.2/\slot A 15= .int .i64 e2.2.2/\slot A 18= .int .i64 e3.2.2/\slot A 20= .int .i64 fa.2.2.2/\slot A 21=b1/\slot A 28= .int .i64 b0.1)(h:y3 d=some true):Wp (dY Tryz.prog Φ) (bx (bx (bx (bx (bx (bx (bx (bx (bx (bx (bx (bx (bx (bx (bx (bx (bx (bx (bx (bx (bx (bx (bx (bx (bx (Tryz.f10.body.getD .skip)))))))))))))))))))))))))) (iT Tryz.prog [.tmp 0] (fun v _=>v= .bool true)) A ⟨ro,(i,bk d j k m n)::[]⟩:=by
 obtain ⟨b2,hd,b3,k1,b4,b5,ca,cb,cd,cf,cl,cy,cS⟩:=ff
 obtain ⟨d125,ih,rfl,ik,il,-⟩:=id fb
 unfold y3 at h
 have fg:=c.oc;simp only[bC] at fg
 refine gb hJ fun a2 c0=>?_
 have fi:=a2.nd
 try simp only[keys,List.map_cons,List.map_nil,List.map_append,List.cons_append,List.nil_append,List.nodup_cons,List.mem_cons,List.mem_append,List.not_mem_nil,or_false,not_or] at fi
 replace g:=c0.hd
 simp only[bf] at c0
 refine aa hJ (ep hJ fun K b=>?_)
 revert h;refine bS fun da fl h=>?_
 try simp (maxSteps:=10000000) only[*,go_sem]
 refine aM hJ _ (Bc (a.mono aH) d (c.mono aH) fl) (aD ?_)
 try simp (maxSteps:=10000000) only[*,go_sem]
 refine b.go ?_;clear b K
 refine aa hJ ?_
 refine kA hJ mixed [] (.rd 0 (.rd 1 (.two 2 (.pure 3 (.pure 4 (.pure 5 (.one 6 (.one 7 (.pure 8 .done)))))) 6 (.one 2 (.pure 3 (.pure 4 (.pure 5 (.one 7 (.pure 8 .done))))))))) ⟨ro,[(i,bk d j k m n)]⟩ (by simp (maxSteps:=10000000) only[*,go_sem]) (by kernel_rfl) fun K b=>?_
 revert h;refine bS fun db fp h=>?_
 try simp (maxSteps:=10000000) only[*,go_sem]
 refine ⟨_,bE hJ fun F u=>jh 0 true fp,bN ?_⟩
 try simp (maxSteps:=10000000) only[*,go_sem]
 refine kz ?_ ?_
 ·revert h;refine bS fun Z fq h=>?_
  try simp (maxSteps:=10000000) only[*,go_sem]
  refine bV hJ _ (sZ a d c db fq) fun v im a3 dd f=>?_
  obtain ⟨df,dk,dp,dq,rfl,ds⟩:=f
  have fr:=ds.oc;simp only[bC] at fr
  replace c:=c.mono a3
  replace g:=dd.hd
  replace a:=a.mono a3
  simp only[bf] at dd
  have iv:=eo (l:=[(i,bk d j k m n)]) a3 (aA.cons g (aA.nil _))
  refine ⟨by simp (maxSteps:=10000000) only[*,go_sem],?_⟩
  refine bN ?_
  try simp (maxSteps:=10000000) only[*,go_sem]
  refine ax fun w s dt=>?_;have ix:=aN.cons dt a2;try simp only[au] at dt
  try simp (maxSteps:=10000000) only[*,go_sem]
  refine b.go ?_;clear b K
  refine aa hJ (ep hJ fun K b=>?_)
  revert h;refine bS fun fs ft h=>?_
  try simp (maxSteps:=10000000) only[*,go_sem]
  refine bV hJ _ (w6 a Z.1 ds 0 ft) fun v fu du a4 f=>?_
  obtain ⟨jC,rfl,o⟩:=f
  have fv:=o.oc;simp only[bC] at fv
  replace c:=c.mono du
  replace s:=a4.hd
  replace g:=a4.tl.hd
  replace a:=a.mono du
  simp only[bf] at a4
  refine aD ?_
  try simp (maxSteps:=10000000) only[*,go_sem]
  refine b.go ?_;clear b K
  refine aa hJ ?_
  refine kA hJ mixed [] (.rd 0 (.rd 1 (.one 2 (.pure 3 (.pure 4 (.pure 5 (.pure 6 .done))))))) ⟨fu,[(w,bk Z.1 df dk dp dq),(i,bk d j k m n)]⟩ (by simp (maxSteps:=10000000) only[*,go_sem]) (by kernel_rfl) fun K b=>?_
  revert h;refine bS fun fw fx h=>?_
  try simp (maxSteps:=10000000) only[*,go_sem]
  refine ⟨_,bE hJ fun F u=>jh 1 true fx,bN ?_⟩
  revert h;refine bS fun fP fQ h=>?_
  try simp (maxSteps:=10000000) only[*,go_sem]
  refine bV hJ _ (sZ a d c fw fQ) fun v fS ab a5 f=>?_
  obtain ⟨j1,j2,kh,kj,rfl,N⟩:=f
  have fU:=N.oc;simp only[bC] at fU
  replace o:=o.mono ab
  replace c:=c.mono ab
  replace s:=a5.hd
  replace g:=a5.tl.hd
  replace a:=a.mono ab
  simp only[bf] at a5
  obtain ⟨kk,kl,rfl,km,kn,-⟩:=id N.e
  obtain ⟨kp,ks,rfl,kt,kv,-⟩:=id N.p
  obtain ⟨kx,ky,rfl,k0,k2,-⟩:=id N.y
  obtain ⟨lb,lh,rfl,lj,lk,-⟩:=id N.t
  have ll:=eo (l:=[(w,bk Z.1 df dk dp dq),(i,bk d j k m n)]) ab (aA.cons s (aA.cons g (aA.nil _)))
  refine ⟨by simp (maxSteps:=10000000) only[*,go_sem],?_⟩
  refine bN ?_
  try simp (maxSteps:=10000000) only[*,go_sem]
  refine b.go ?_;clear b K
  refine aa hJ ?_
  refine eC [0,1,4,7,9,12,15,18,20,21,28,40,41,42] fun ln gg gl gn=>?_
  simp only[*,go_sem] at gg gl gn
  clear b2 hd b3 k1 b4 b5 ca cb cd cf cl cy cS
  refine kA hJ mixed [] (.rd 0 (.rd 1 (.one 2 (.pure 3 (.pure 4 (.pure 5 (.one 6 (.pure 7 .done)))))))) ⟨fS,[(i,bk d j k m n)]⟩ (by simp (maxSteps:=10000000) only[*,go_sem]) (by kernel_rfl) fun K b=>?_
  revert h;refine bS fun gp gB h=>?_
  try simp (maxSteps:=10000000) only[*,go_sem]
  refine ⟨_,bE hJ fun F u=>s6 12 12 gB,bN ?_⟩
  revert h;refine bS fun x gC h=>?_
  try simp (maxSteps:=10000000) only[*,go_sem]
  refine bV hJ _ (Bd a d c 0 gp gC) fun v gM ad a6 f=>?_
  obtain ⟨O,P,Q,R,rfl,dv⟩:=f
  have gT:=dv.oc;simp only[bC] at gT
  replace o:=o.mono ad
  replace c:=c.mono ad
  replace s:=a6.hd
  replace g:=a6.tl.hd
  replace a:=a.mono ad
  simp only[bf] at a6
  have lo:=eo (l:=[(i,bk d j k m n)]) ad (aA.cons g (aA.nil _))
  refine ⟨by simp (maxSteps:=10000000) only[*,go_sem],?_⟩
  refine bN ?_
  try simp (maxSteps:=10000000) only[*,go_sem]
  refine b.go ?_;clear b K
  refine aa hJ (ep hJ fun K b=>?_)
  revert h;refine bS fun gV g0 h=>?_
  try simp (maxSteps:=10000000) only[*,go_sem]
  refine aM hJ _ (ou (a.mono aH) x.1 (dv.mono aH) g0) (aD ?_)
  try simp (maxSteps:=10000000) only[*,go_sem]
  refine b.go ?_;clear b K
  refine aa hJ ?_
  refine kA hJ mixed [] (.rd 0 (.rd 1 (.one 2 (.rd 3 (.one 4 (.rd 5 (.one 6 (.one 7 (.pure 8 (.pure 9 (.pure 10 (.pure 11 (.pure 12 .done))))))))))))) ⟨gM,[(w,bk x.1 O P Q R),(i,bk d j k m n)]⟩ (by simp (maxSteps:=10000000) only[*,go_sem]) (by kernel_rfl) fun K b=>?_
  revert h;refine bS fun g1 g2 h=>?_
  try simp (maxSteps:=10000000) only[*,go_sem]
  refine ⟨_,bE hJ fun F u=>jh 0 true g2,bN ?_⟩
  revert h;refine bS fun g3 g4 h=>?_
  try simp (maxSteps:=10000000) only[*,go_sem]
  refine bV hJ _ (lQ d c g1 g4) fun v lr z a7 f=>?_
  obtain ⟨lv,lx,ly,lL,rfl,D⟩:=f
  have ha:=D.oc;simp only[bC] at ha
  replace o:=o.mono z
  replace c:=c.mono z
  replace s:=a7.hd
  replace g:=a7.tl.hd
  replace a:=a.mono z
  simp only[bf] at a7
  obtain ⟨l1,l2,rfl,l3,l4,-⟩:=id D.e
  obtain ⟨ma,mf,rfl,mi,ml,-⟩:=id D.p
  obtain ⟨mn,mr,rfl,mx,my,-⟩:=id D.y
  obtain ⟨m1,m2,rfl,na,nb,-⟩:=id D.t
  have nf:=eo (l:=[(w,bk x.1 O P Q R),(i,bk d j k m n)]) z (aA.cons s (aA.cons g (aA.nil _)))
  refine ⟨by simp (maxSteps:=10000000) only[*,go_sem],?_⟩
  refine bN ?_
  revert h;refine bS fun hc hf h=>?_
  try simp (maxSteps:=10000000) only[*,go_sem]
  refine ⟨_,bE hJ fun F u=>jh 1 true hf,bN ?_⟩
  revert h;refine bS fun hg hh h=>?_
  try simp (maxSteps:=10000000) only[*,go_sem]
  refine bV hJ _ (lQ g3 D hc hh) fun v nm E a8 f=>?_
  obtain ⟨nn,np,ns,nx,rfl,G⟩:=f
  have hi:=G.oc;simp only[bC] at hi
  replace o:=o.mono E
  replace c:=c.mono E
  replace s:=a8.hd
  replace g:=a8.tl.hd
  replace a:=a.mono E
  simp only[bf] at a8
  obtain ⟨nz,nA,rfl,nH,nI,-⟩:=id G.e
  obtain ⟨nK,nQ,rfl,nR,nT,-⟩:=id G.p
  obtain ⟨nV,nX,rfl,nY,n0,-⟩:=id G.y
  obtain ⟨n1,n2,rfl,n3,oi,-⟩:=id G.t
  have oj:=eo (l:=[(w,bk x.1 O P Q R),(i,bk d j k m n)]) (z.trans E) (aA.cons s (aA.cons g (aA.nil _)))
  refine ⟨by simp (maxSteps:=10000000) only[*,go_sem],?_⟩
  refine bN ?_
  revert h;refine bS fun hj hk h=>?_
  try simp (maxSteps:=10000000) only[*,go_sem]
  refine ⟨_,bE hJ fun F u=>jh 0 false hk,bN ?_⟩
  revert h;refine bS fun hl hn h=>?_
  try simp (maxSteps:=10000000) only[*,go_sem]
  refine bV hJ _ (lQ hg G hj hn) fun v ox S a9 f=>?_
  obtain ⟨oy,o0,o1,o2,rfl,H⟩:=f
  have ho:=H.oc;simp only[bC] at ho
  replace o:=o.mono S
  replace c:=c.mono S
  replace s:=a9.hd
  replace g:=a9.tl.hd
  replace a:=a.mono S
  simp only[bf] at a9
  obtain ⟨o4,pa,rfl,pb,pd,-⟩:=id H.e
  obtain ⟨pf,ph,rfl,pj,pk,-⟩:=id H.p
  obtain ⟨po,pr,rfl,ps,pt,-⟩:=id H.y
  obtain ⟨pv,pw,rfl,px,py,-⟩:=id H.t
  have pA:=eo (l:=[(w,bk x.1 O P Q R),(i,bk d j k m n)]) ((z.trans E).trans S) (aA.cons s (aA.cons g (aA.nil _)))
  refine ⟨by simp (maxSteps:=10000000) only[*,go_sem],?_⟩
  refine bN ?_
  revert h;refine bS fun hp hq h=>?_
  try simp (maxSteps:=10000000) only[*,go_sem]
  refine bV hJ _ (wY a hl H hq) fun v pB ae ba f=>?_
  obtain ⟨pC,rfl,dC⟩:=f
  replace o:=o.mono ae
  replace c:=c.mono ae
  replace s:=ba.hd
  replace g:=ba.tl.hd
  replace a:=a.mono ae
  simp only[bf] at ba
  obtain ⟨pD,pT,rfl,p0,p1,-⟩:=id dC
  have q0:=eo (l:=[(w,bk x.1 O P Q R),(i,bk d j k m n)]) (((z.trans E).trans S).trans ae) (aA.cons s (aA.cons g (aA.nil _)))
  refine ⟨by simp (maxSteps:=10000000) only[*,go_sem],?_⟩
  refine bN ?_
  try simp (maxSteps:=10000000) only[*,go_sem]
  refine b.go ?_;clear b K
  show Wp _ _ _ _ _
  exact cH hJ (Le.sub (.cons _ (.cons _ (List.Sublist.refl _)))) (DC hJ da Z fs fP x gV hp a o dC (by simp (maxSteps:=10000000) only[*,go_sem]) h)
 revert h;refine bS fun al hr h=>?_
 try simp (maxSteps:=10000000) only[*,go_sem]
 refine ax fun B r dE=>?_;have q1:=aN.cons dE a2;try simp only[au] at dE
 try simp (maxSteps:=10000000) only[*,go_sem]
 refine bV hJ _ (sZ a d c db hr) fun v ra bb bc f=>?_
 obtain ⟨dT,ea,eb,ec,rfl,ed⟩:=f
 have hs:=ed.oc;simp only[bC] at hs
 replace c:=c.mono bb
 replace r:=bc.hd
 replace g:=bc.tl.hd
 replace a:=a.mono bb
 simp only[bf] at bc
 have rb:=eo (l:=[(i,bk d j k m n)]) bb (aA.cons g (aA.nil _))
 refine ⟨by simp (maxSteps:=10000000) only[*,go_sem],?_⟩
 refine bN ?_
 try simp (maxSteps:=10000000) only[*,go_sem]
 refine b.go ?_;clear b K
 refine aa hJ (ep hJ fun K b=>?_)
 revert h;refine bS fun ht hv h=>?_
 try simp (maxSteps:=10000000) only[*,go_sem]
 refine bV hJ _ (w6 a al.1 ed 0 hv) fun v hx eh bd f=>?_
 obtain ⟨re,rfl,q⟩:=f
 have hy:=q.oc;simp only[bC] at hy
 replace c:=c.mono eh
 replace r:=bd.hd
 replace g:=bd.tl.hd
 replace a:=a.mono eh
 simp only[bf] at bd
 refine aD ?_
 try simp (maxSteps:=10000000) only[*,go_sem]
 refine b.go ?_;clear b K
 refine aa hJ ?_
 refine kA hJ mixed [] (.rd 0 (.rd 1 (.one 2 (.pure 3 (.pure 4 (.pure 5 (.pure 6 .done))))))) ⟨hx,[(B,bk al.1 dT ea eb ec),(i,bk d j k m n)]⟩ (by simp (maxSteps:=10000000) only[*,go_sem]) (by kernel_rfl) fun K b=>?_
 revert h;refine bS fun hz hA h=>?_
 try simp (maxSteps:=10000000) only[*,go_sem]
 refine ⟨_,bE hJ fun F u=>jh 1 true hA,bN ?_⟩
 revert h;refine bS fun hB hD h=>?_
 try simp (maxSteps:=10000000) only[*,go_sem]
 refine bV hJ _ (sZ a d c hz hD) fun v hE ao bj f=>?_
 obtain ⟨rh,rk,rl,rn,rfl,T⟩:=f
 have hF:=T.oc;simp only[bC] at hF
 replace q:=q.mono ao
 replace c:=c.mono ao
 replace r:=bj.hd
 replace g:=bj.tl.hd
 replace a:=a.mono ao
 simp only[bf] at bj
 obtain ⟨rp,rr,rfl,rv,rB,-⟩:=id T.e
 obtain ⟨rL,sa,rfl,sb,sc,-⟩:=id T.p
 obtain ⟨sf,sg,rfl,sh,sl,-⟩:=id T.y
 obtain ⟨sm,ss,rfl,sy,sI,-⟩:=id T.t
 have sT:=eo (l:=[(B,bk al.1 dT ea eb ec),(i,bk d j k m n)]) ao (aA.cons r (aA.cons g (aA.nil _)))
 refine ⟨by simp (maxSteps:=10000000) only[*,go_sem],?_⟩
 refine bN ?_
 try simp (maxSteps:=10000000) only[*,go_sem]
 refine b.go ?_;clear b K
 refine aa hJ ?_
 refine eC [0,1,4,7,9,12,15,18,20,21,28,40,41,42] fun tb hG hI hK=>?_
 simp only[*,go_sem] at hG hI hK
 clear b2 hd b3 k1 b4 b5 ca cb cd cf cl cy cS
 refine kA hJ mixed [] (.rd 0 (.rd 1 (.one 2 (.pure 3 (.pure 4 (.pure 5 (.one 6 (.pure 7 .done)))))))) ⟨hE,[(i,bk d j k m n)]⟩ (by simp (maxSteps:=10000000) only[*,go_sem]) (by kernel_rfl) fun K b=>?_
 revert h;refine bS fun hL hM h=>?_
 try simp (maxSteps:=10000000) only[*,go_sem]
 refine ⟨_,bE hJ fun F u=>s6 12 12 hM,bN ?_⟩
 revert h;refine bS fun C hN h=>?_
 try simp (maxSteps:=10000000) only[*,go_sem]
 refine bV hJ _ (Bd a d c 0 hL hN) fun v hP ar bl f=>?_
 obtain ⟨U,V,W,X,rfl,et⟩:=f
 have hQ:=et.oc;simp only[bC] at hQ
 replace q:=q.mono ar
 replace c:=c.mono ar
 replace r:=bl.hd
 replace g:=bl.tl.hd
 replace a:=a.mono ar
 simp only[bf] at bl
 have te:=eo (l:=[(i,bk d j k m n)]) ar (aA.cons g (aA.nil _))
 refine ⟨by simp (maxSteps:=10000000) only[*,go_sem],?_⟩
 refine bN ?_
 try simp (maxSteps:=10000000) only[*,go_sem]
 refine b.go ?_;clear b K
 refine aa hJ (ep hJ fun K b=>?_)
 revert h;refine bS fun hR hS h=>?_
 try simp (maxSteps:=10000000) only[*,go_sem]
 refine aM hJ _ (ou (a.mono aH) C.1 (et.mono aH) hS) (aD ?_)
 try simp (maxSteps:=10000000) only[*,go_sem]
 refine b.go ?_;clear b K
 refine aa hJ ?_
 refine kA hJ mixed [] (.rd 0 (.rd 1 (.one 2 (.rd 3 (.one 4 (.rd 5 (.one 6 (.one 7 (.pure 8 (.pure 9 (.pure 10 (.pure 11 (.pure 12 .done))))))))))))) ⟨hP,[(B,bk C.1 U V W X),(i,bk d j k m n)]⟩ (by simp (maxSteps:=10000000) only[*,go_sem]) (by kernel_rfl) fun K b=>?_
 revert h;refine bS fun hT hV h=>?_
 try simp (maxSteps:=10000000) only[*,go_sem]
 refine ⟨_,bE hJ fun F u=>jh 0 true hV,bN ?_⟩
 revert h;refine bS fun hX hY h=>?_
 try simp (maxSteps:=10000000) only[*,go_sem]
 refine bV hJ _ (lQ d c hT hY) fun v ti I bm f=>?_
 obtain ⟨tk,tm,tp,ts,rfl,J⟩:=f
 have hZ:=J.oc;simp only[bC] at hZ
 replace q:=q.mono I
 replace r:=bm.hd
 replace g:=bm.tl.hd
 replace a:=a.mono I
 simp only[bf] at bm
 obtain ⟨tt,tx,rfl,tz,tI,-⟩:=id J.e
 obtain ⟨tM,tW,rfl,ub,ui,-⟩:=id J.p
 obtain ⟨u1,u2,rfl,u3,u4,-⟩:=id J.y
 obtain ⟨va,vd,rfl,vs,vx,-⟩:=id J.t
 have vy:=eo (l:=[(B,bk C.1 U V W X),(i,bk d j k m n)]) I (aA.cons r (aA.cons g (aA.nil _)))
 refine ⟨by simp (maxSteps:=10000000) only[*,go_sem],?_⟩
 refine bN ?_
 revert h;refine bS fun h0 h1 h=>?_
 try simp (maxSteps:=10000000) only[*,go_sem]
 refine ⟨_,bE hJ fun F u=>jh 1 true h1,bN ?_⟩
 revert h;refine bS fun h2 h3 h=>?_
 try simp (maxSteps:=10000000) only[*,go_sem]
 refine bV hJ _ (lQ hX J h0 h3) fun v v3 Y bo f=>?_
 obtain ⟨wa,wb,wc,wi,rfl,L⟩:=f
 have h4:=L.oc;simp only[bC] at h4
 replace q:=q.mono Y
 replace r:=bo.hd
 replace g:=bo.tl.hd
 replace a:=a.mono Y
 simp only[bf] at bo
 obtain ⟨wx,wy,rfl,w0,xa,-⟩:=id L.e
 obtain ⟨xc,xf,rfl,xi,xn,-⟩:=id L.p
 obtain ⟨xr,xt,rfl,xv,x0,-⟩:=id L.y
 obtain ⟨x1,yi,rfl,yk,yn,-⟩:=id L.t
 have yr:=eo (l:=[(B,bk C.1 U V W X),(i,bk d j k m n)]) (I.trans Y) (aA.cons r (aA.cons g (aA.nil _)))
 refine ⟨by simp (maxSteps:=10000000) only[*,go_sem],?_⟩
 refine bN ?_
 revert h;refine bS fun h5 h6 h=>?_
 try simp (maxSteps:=10000000) only[*,go_sem]
 refine ⟨_,bE hJ fun F u=>jh 0 false h6,bN ?_⟩
 revert h;refine bS fun h7 h8 h=>?_
 try simp (maxSteps:=10000000) only[*,go_sem]
 refine bV hJ _ (lQ h2 L h5 h8) fun v ys a0 br f=>?_
 obtain ⟨yv,y0,y1,zc,rfl,M⟩:=f
 have h9:=M.oc;simp only[bC] at h9
 replace q:=q.mono a0
 replace r:=br.hd
 replace g:=br.tl.hd
 replace a:=a.mono a0
 simp only[bf] at br
 obtain ⟨zr,zs,rfl,zt,Ag,-⟩:=id M.e
 obtain ⟨At,BF,rfl,B0,Cd,-⟩:=id M.p
 obtain ⟨Cy,CY,rfl,Ex,Fl,-⟩:=id M.y
 obtain ⟨F0,Gp,rfl,Gr,Ha,-⟩:=id M.t
 have Hb:=eo (l:=[(B,bk C.1 U V W X),(i,bk d j k m n)]) ((I.trans Y).trans a0) (aA.cons r (aA.cons g (aA.nil _)))
 refine ⟨by simp (maxSteps:=10000000) only[*,go_sem],?_⟩
 refine bN ?_
 revert h;refine bS fun ib ic h=>?_
 try simp (maxSteps:=10000000) only[*,go_sem]
 refine bV hJ _ (wY a h7 M ic) fun v Hc bs bz f=>?_
 obtain ⟨Hd,rfl,ev⟩:=f
 replace q:=q.mono bs
 replace r:=bz.hd
 replace g:=bz.tl.hd
 replace a:=a.mono bs
 simp only[bf] at bz
 obtain ⟨Hk,Hm,rfl,Hn,H0,-⟩:=id ev
 have H2:=eo (l:=[(B,bk C.1 U V W X),(i,bk d j k m n)]) (((I.trans Y).trans a0).trans bs) (aA.cons r (aA.cons g (aA.nil _)))
 refine ⟨by simp (maxSteps:=10000000) only[*,go_sem],?_⟩
 refine bN ?_
 try simp (maxSteps:=10000000) only[*,go_sem]
 refine b.go ?_;clear b K
 show Wp _ _ _ _ _
 exact cH hJ (Le.sub (.cons _ (.cons _ (List.Sublist.refl _)))) (DC hJ da al ht hB C hR ib a q ev (by simp (maxSteps:=10000000) only[*,go_sem]) h)
set_option maxHeartbeats 40000000 in
theorem Li {Φ:Goroutine->af->Prop}(hJ:Closed Tryz.prog true (dY Tryz.prog Φ)){A:Act}{ro:Addr->Option Value}(g:ak)(q:((List Int)×Int))(N:(av×av×Int))(k:(Int×Int))(l:(Int×Int))(m:(Int×Int))(n:(Int×Int))(c:(Int×av×Int))(d:(Int×av×Int))(a:(av×av×Bool×Int)){s t u w y:Nat}(i:cU ro){I:Value}(j:aB rI ro I q.1){z B C D:Value}(f:bI ro g z B C D)(O:sz A=439/\A.defers=[]/\slot A 0= .bool false/\slot A 1= .pointer (some ⟨y,0,none⟩)/\slot A 4= .int .i64 k.2/\slot A 7= .int .i64 l.2/\slot A 9= .int .i64 m.2/\slot A 12= .int .i64 n.2/\slot A 15= .int .i64 c.2.2/\slot A 18= .int .i64 d.2.2/\slot A 20= .int .i64 a.2.2.2/\slot A 21=I/\slot A 22= .int .i64 q.2/\slot A 25= .int .i64 N.2.2/\slot A 26= .int .i64 k.1/\slot A 27= .int .i64 l.1/\slot A 28= .int .i64 m.1/\slot A 29= .int .i64 n.1/\slot A 30= .int .i64 c.1/\slot A 31= .pointer (some ⟨w,0,none⟩)/\slot A 32= .int .i64 d.1/\slot A 33= .pointer (some ⟨u,0,none⟩)/\slot A 34= .pointer (some ⟨t,0,none⟩)/\slot A 35= .pointer (some ⟨s,0,none⟩)/\slot A 36= .bool a.2.2.1)(h:y4 g k l m n c d a=some true):Wp (dY Tryz.prog Φ) (bx (bx (bx (bx (bx (bx (bx (bx (bx (bx (bx (bx (bx (bx (bx (bx (bx (bx (bx (bx (bx (Tryz.f10.body.getD .skip)))))))))))))))))))))) (iT Tryz.prog [.tmp 0] (fun v _=>v= .bool true)) A ⟨ro,(s,rt a.2.1.num a.2.1.den)::(t,rt a.1.num a.1.den)::(u,rt d.2.1.num d.2.1.den)::(w,rt c.2.1.num c.2.1.den)::(y,bk g z B C D)::[]⟩:=by
 obtain ⟨P,hd,Q,k1,R,S,T,U,V,W,X,Y,Z,ab,ad,ae,al,ao,ar,a0,a2,a3,a4,a5,a6⟩:=O
 unfold y4 at h
 have a7:=f.oc;simp only[bC] at a7
 have a8:=j.oc;simp only[bC] at a8
 refine gb hJ fun a9 ba=>?_
 have bb:=a9.nd
 try simp only[keys,List.map_cons,List.map_nil,List.map_append,List.cons_append,List.nil_append,List.nodup_cons,List.mem_cons,List.mem_append,List.not_mem_nil,or_false,not_or] at bb
 simp only[bf] at ba
 refine aa hJ (ep hJ fun K b=>?_)
 revert h;refine bS fun bc bd h=>?_
 try simp (maxSteps:=10000000) only[*,go_sem]
 refine r6 _ (Lf i g f 2 bd) fun v e0 E bj G=>?_
 obtain ⟨e1,rfl,o⟩:=G
 have bl:=o.oc;simp only[bC] at bl
 replace j:=j.mono E
 replace f:=f.mono E
 replace i:=i.mono E
 simp only[bf] at bj
 refine aD ?_
 try simp (maxSteps:=10000000) only[*,go_sem]
 refine b.go ?_;clear b K
 refine aa hJ (ep hJ fun K b=>?_)
 revert h;refine bS fun bm bo h=>?_
 try simp (maxSteps:=10000000) only[*,go_sem]
 refine r6 _ (Lg i g f 2 bo) fun v br p bs G=>?_
 obtain ⟨e2,rfl,J⟩:=G
 have bz:=J.oc;simp only[bC] at bz
 replace j:=j.mono p
 replace f:=f.mono p
 replace o:=o.mono p
 replace i:=i.mono p
 simp only[bf] at bs
 refine aD ?_
 try simp (maxSteps:=10000000) only[*,go_sem]
 refine b.go ?_;clear b K
 refine aa hJ (aa hJ (ep hJ fun K b=>?_))
 revert h;refine cS (fun b0 h=>?_) fun b0 h=>?_
 ·cases h
 revert h;refine cS (fun b1 h=>?_) fun b1 h=>?_
 ·cases h
 revert h;refine cS (fun b2 h=>?_) fun b2 h=>?_
 ·cases h
 revert h;refine cS (fun b3 h=>?_) fun b3 h=>?_
 ·cases h
 revert h;refine cS (fun b4 h=>?_) fun b4 h=>?_
 ·cases h
 revert h;refine cS (fun b5 h=>?_) fun b5 h=>?_
 ·cases h
 revert h;refine cS (fun ca h=>?_) fun ca h=>?_
 ·cases h
 revert h;refine cS (fun cb h=>?_) fun cb h=>?_
 ·cases h
 try simp (maxSteps:=10000000) only[*,go_sem]
 revert h;refine cS (fun cd h=>?_) fun cd h=>?_
 ·cases h
 refine b.go ?_;clear b K
 refine bL hJ (by simp (maxSteps:=10000000) only[*,go_sem]) ?_
 refine aF hJ (aa hJ ?_)
 refine aa hJ ?_
 refine eC [0,1,4,7,9,12,15,18,20,21,26,27,28,29,30,31,32,33,34,35,36,37,38,39] fun e3 cf cl cy=>?_
 simp only[*,go_sem] at cf cl cy
 clear P hd Q k1 R S T U V W X Y Z ab ad ae al ao ar a0 a2 a3 a4 a5 a6
 refine aL hJ fun c0=>?_
 refine kA hJ mixed [] (.pure 0 (.pure 1 (.pure 2 (.pure 3 (.pure 4 (.pure 5 (.pure 6 (.pure 7 (.pure 8 (.pure 9 (.pure 10 (.pure 11 (.pure 12 (.pure 13 (.pure 14 (.pure 15 (.pure 16 (.pure 17 (.pure 18 (.rd 19 (.rd 20 (.pure 21 (.pure 22 (.pure 23 (.pure 24 (.pure 25 (.pure 26 (.pure 27 (.rd 28 (.rd 29 (.pure 30 (.pure 31 (.pure 32 (.pure 33 (.pure 34 (.pure 35 (.pure 36 (.rd 37 (.rd 38 (.pure 39 (.pure 40 (.pure 41 (.rd 42 (.rd 43 (.pure 44 (.pure 45 (.pure 46 (.pure 47 (.one 48 (.one 49 (.pure 50 (.pure 51 (.pure 52 (.pure 53 (.pure 54 (.pure 55 (.pure 56 (.pure 57 (.one 58 (.one 59 (.pure 60 (.pure 61 .done)))))))))))))))))))))))))))))))))))))))))))))))))))))))))))))) ⟨br,[(s,rt a.2.1.num a.2.1.den),(t,rt a.1.num a.1.den),(u,rt d.2.1.num d.2.1.den),(w,rt c.2.1.num c.2.1.den),(y,bk g z B C D)]⟩ (by simp (maxSteps:=10000000) only[*,go_sem]) (by kernel_rfl) fun K b=>?_
 revert h;refine cS (fun da h=>?_) fun da h=>?_
 ·cases h
 revert h;refine cS (fun db h=>?_) fun db h=>?_
 ·cases h
 revert h;refine cS (fun dd h=>?_) fun dd h=>?_
 ·cases h
 revert h;refine cS (fun df h=>?_) fun df h=>?_
 ·cases h
 revert h;refine cS (fun dk h=>?_) fun dk h=>?_
 ·cases h
 revert h;refine bS fun fa dp h=>?_
 try simp (maxSteps:=10000000) only[*,go_sem]
 refine ⟨_,bE hJ fun F H=>gQ 1 1 dp,bN ?_⟩
 revert h;refine cS (fun dq h=>?_) fun dq h=>?_
 ·cases h
 revert h;refine cS (fun ds h=>?_) fun ds h=>?_
 ·cases h
 revert h;refine bS fun fb dt h=>?_
 try simp (maxSteps:=10000000) only[*,go_sem]
 refine ⟨_,bE hJ fun F H=>gQ 0 1 dt,bN ?_⟩
 revert h;refine cS (fun du h=>?_) fun du h=>?_
 ·cases h
 revert h;refine cS (fun dv h=>?_) fun dv h=>?_
 ·cases h
 revert h;refine bS fun ff dC h=>?_
 try simp (maxSteps:=10000000) only[*,go_sem]
 refine ⟨_,bE hJ fun F H=>gQ 3 2 dC,bN ?_⟩
 revert h;refine cS (fun dE h=>?_) fun dE h=>?_
 ·cases h
 revert h;refine bS fun fg dT h=>?_
 try simp (maxSteps:=10000000) only[*,go_sem]
 refine ⟨_,bE hJ fun F H=>gQ 3 2 dT,bN ?_⟩
 revert h;refine cS (fun ea h=>?_) fun ea h=>?_
 ·cases h
 revert h;refine bS fun fi eb h=>?_
 try simp (maxSteps:=10000000) only[*,go_sem]
 refine ax fun fl ec L=>?_;have ed:=aN.cons L c0;try simp only[au] at L
 try simp (maxSteps:=10000000) only[*,go_sem]
 refine aM hJ _ (qk bc.1 (o.mono aH) ([11,12,13,14]) ((aB.flat (r:=rI) (e:=3) (cs:=#[.int .i64 11,.int .i64 12,.int .i64 13,.int .i64 14]) (fun x=>[.int .i64 x]) ([11,12,13,14]) (fun _=>rfl) ec rfl (by simp)).mono (ki (by simp (maxSteps:=10000000) only[*,go_sem]))) eb) ⟨by simp (maxSteps:=10000000) only[*,go_sem],bN ?_⟩
 revert h;refine cS (fun eh h=>?_) fun eh h=>?_
 ·cases h
 revert h;refine cS (fun et h=>?_) fun et h=>?_
 ·cases h
 revert h;refine bS fun fp ev h=>?_
 try simp (maxSteps:=10000000) only[*,go_sem]
 refine ax fun fq eQ M=>?_;have fr:=aN.cons M ed;try simp only[au] at M
 try simp (maxSteps:=10000000) only[*,go_sem]
 refine aM hJ _ (qk bm.1 (J.mono aH) ([11]) ((aB.flat (r:=rI) (e:=3) (cs:=#[.int .i64 11]) (fun x=>[.int .i64 x]) ([11]) (fun _=>rfl) eQ rfl (by simp)).mono (ki (by simp (maxSteps:=10000000) only[*,go_sem]))) ev) ⟨by simp (maxSteps:=10000000) only[*,go_sem],bN ?_⟩
 try simp (maxSteps:=10000000) only[*,go_sem]
 revert h;refine cS (fun eS h=>?_) fun eS h=>?_
 ·cases h
 refine b.go ?_;clear b K
 refine bL hJ (by simp (maxSteps:=10000000) only[*,go_sem]) ?_
 refine aF hJ ?_
 show Wp _ _ _ _ _
 exact cH hJ (Le.sub (.cons _ (.cons _ (.cons _ (.cons _ (.cons _ (.cons _ (.cons₂ _ (List.Sublist.refl _))))))))) (Lh hJ g q k l m n c d a i j f (by simp (maxSteps:=10000000) only[*,go_sem]) h)
set_option maxHeartbeats 40000000 in
theorem Lj {Φ:Goroutine->af->Prop}(hJ:Closed Tryz.prog true (dY Tryz.prog Φ)){A:Act}{ro:Addr->Option Value}(c:ak)(g:ak)(G:(av×Int))(H:(Int×av×Int))(I:(av×Int))(J:(av×Bool×Int))(L:(av×Bool×Int))(M:(av×Bool×Int))(N:(Int×Int))(i:((List Int)×Int))(j:(av×av×Int)){k l:Nat}(d:cU ro){m:Value}(n:aB rI ro m i.1){o q r s:Value}(f:bI ro g o q r s){u w x z:Value}(b:bI ro c u w x z)(O:sz A=439/\A.defers=[]/\slot A 0= .bool false/\slot A 1= .pointer (some ⟨l,0,none⟩)/\slot A 2= .pointer (some ⟨k,0,none⟩)/\slot A 4= .int .i64 G.2/\slot A 7= .int .i64 H.2.2/\slot A 9= .int .i64 I.2/\slot A 12= .int .i64 J.2.2/\slot A 15= .int .i64 L.2.2/\slot A 18= .int .i64 M.2.2/\slot A 20= .int .i64 N.2/\slot A 21=m/\slot A 22= .int .i64 i.2/\slot A 25= .int .i64 j.2.2)(h:y5 c g=some true):Wp (dY Tryz.prog Φ) (bx (bx (bx (bx (bx (bx (bx (bx (bx (bx (bx (bx (bx (bx (Tryz.f10.body.getD .skip))))))))))))))) (iT Tryz.prog [.tmp 0] (fun v _=>v= .bool true)) A ⟨ro,(k,bk g o q r s)::(l,bk c u w x z)::[]⟩:=by
 obtain ⟨P,hd,Q,k1,R,S,T,U,V,W,X,Y,Z,ab,ad⟩:=O
 obtain ⟨d45,b1,rfl,b2,b3,-⟩:=id f.e
 obtain ⟨d52,b4,rfl,b5,ca,-⟩:=id f.p
 obtain ⟨d59,cb,rfl,cd,cf,-⟩:=id f.y
 obtain ⟨d66,cl,rfl,cy,cS,-⟩:=id f.t
 obtain ⟨d8,c0,rfl,da,db,-⟩:=id b.e
 obtain ⟨d15,dd,rfl,df,dk,-⟩:=id b.p
 obtain ⟨d22,dp,rfl,dq,ds,-⟩:=id b.y
 obtain ⟨d29,dt,rfl,du,dv,-⟩:=id b.t
 unfold y5 at h
 have ae:=f.oc;simp only[bC] at ae
 have al:=b.oc;simp only[bC] at al
 have ao:=n.oc;simp only[bC] at ao
 refine gb hJ fun B ar=>?_
 have a0:=B.nd
 try simp only[keys,List.map_cons,List.map_nil,List.map_append,List.cons_append,List.nil_append,List.nodup_cons,List.mem_cons,List.mem_append,List.not_mem_nil,or_false,not_or] at a0
 simp only[bf] at ar
 refine aa hJ (ep hJ fun K a=>?_)
 revert h;refine bS fun a2 a3 h=>?_
 try simp (maxSteps:=10000000) only[*,go_sem]
 refine aM hJ _ (Bb (d.mono aH) c (b.mono aH) 0 a3) (aD ?_)
 try simp (maxSteps:=10000000) only[*,go_sem]
 refine a.go ?_;clear a K
 refine aa hJ (ep hJ fun K a=>?_)
 revert h;refine bS fun a4 a5 h=>?_
 try simp (maxSteps:=10000000) only[*,go_sem]
 refine aM hJ _ (Bb (d.mono aH) c (b.mono aH) 1 a5) (aD ?_)
 try simp (maxSteps:=10000000) only[*,go_sem]
 refine a.go ?_;clear a K
 refine aa hJ (ep hJ fun K a=>?_)
 revert h;refine bS fun a6 a7 h=>?_
 try simp (maxSteps:=10000000) only[*,go_sem]
 refine aM hJ _ (ou (d.mono aH) c (b.mono aH) a7) (aD ?_)
 try simp (maxSteps:=10000000) only[*,go_sem]
 refine a.go ?_;clear a K
 refine aa hJ (ep hJ fun K a=>?_)
 revert h;refine bS fun a8 a9 h=>?_
 try simp (maxSteps:=10000000) only[*,go_sem]
 refine aM hJ _ (ou (d.mono aH) g (f.mono aH) a9) (aD ?_)
 try simp (maxSteps:=10000000) only[*,go_sem]
 refine a.go ?_;clear a K
 refine aa hJ (ep hJ fun K a=>?_)
 revert h;refine bS fun ba bb h=>?_
 try simp (maxSteps:=10000000) only[*,go_sem]
 refine aM hJ _ (Bg (d.mono aH) c (b.mono aH) bb) (aD ?_)
 try simp (maxSteps:=10000000) only[*,go_sem]
 refine ax fun dC dE C=>?_;have bc:=aN.cons C B;try simp only[au] at C
 try simp (maxSteps:=10000000) only[*,go_sem]
 refine a.go ?_;clear a K
 refine aa hJ ?_
 refine eC [0,1,2,4,7,9,12,15,18,20,21,22,25,26,27,28,29,30,31] fun dT bd bj bl=>?_
 simp only[*,go_sem] at bd bj bl
 clear P hd Q k1 R S T U V W X Y Z ab ad
 refine ep hJ fun K a=>?_
 revert h;refine bS fun bm bo h=>?_
 try simp (maxSteps:=10000000) only[*,go_sem]
 refine aM hJ _ (Bg (d.mono aH) g (f.mono aH) bo) (aD ?_)
 try simp (maxSteps:=10000000) only[*,go_sem]
 refine ax fun ea eb D=>?_;have br:=aN.cons D bc;try simp only[au] at D
 try simp (maxSteps:=10000000) only[*,go_sem]
 refine a.go ?_;clear a K
 refine aa hJ (ep hJ fun K a=>?_)
 revert h;refine bS fun bs bz h=>?_
 try simp (maxSteps:=10000000) only[*,go_sem]
 refine aM hJ _ (GQ (d.mono aH) c (b.mono aH) bz) (aD ?_)
 try simp (maxSteps:=10000000) only[*,go_sem]
 refine ax fun ec ed E=>?_;have b0:=aN.cons E br;try simp only[au] at E
 refine ax fun eh et F=>?_;have ev:=aN.cons F b0;try simp only[au] at F
 try simp (maxSteps:=10000000) only[*,go_sem]
 refine a.go ?_;clear a K
 show Wp _ _ _ _ _
 exact cH hJ (Le.sub (.cons₂ _ (.cons₂ _ (.cons₂ _ (.cons₂ _ (.cons _ (.cons₂ _ (List.Sublist.refl _)))))))) (Li hJ c i j a2 a4 a6 a8 ba bm bs d n b (by simp (maxSteps:=10000000) only[*,go_sem]) h)
set_option maxHeartbeats 40000000 in
theorem Ll {Φ:Goroutine->af->Prop}(hJ:Closed Tryz.prog true (dY Tryz.prog Φ)){A:Act}{ro:Addr->Option Value}(b:ak)(n:ak)(i:(av×Int))(c:(Int×av×Int))(j:(av×Int))(d:(av×Bool×Int))(f:(av×Bool×Int))(g:(av×Bool×Int)){q s t u w y z B:Nat}(m:cU ro){C D E G:Value}(p:bI ro n C D E G){H I J L:Value}(k:bI ro b H I J L)(T:sz A=439/\A.defers=[]/\slot A 0= .bool false/\slot A 1= .pointer (some ⟨B,0,none⟩)/\slot A 2= .pointer (some ⟨z,0,none⟩)/\slot A 3= .pointer (some ⟨y,0,none⟩)/\slot A 4= .int .i64 i.2/\slot A 5= .int .i64 c.1/\slot A 6= .pointer (some ⟨w,0,none⟩)/\slot A 7= .int .i64 c.2.2/\slot A 8= .pointer (some ⟨u,0,none⟩)/\slot A 9= .int .i64 j.2/\slot A 10= .pointer (some ⟨t,0,none⟩)/\slot A 11= .bool d.2.1/\slot A 12= .int .i64 d.2.2/\slot A 13= .pointer (some ⟨s,0,none⟩)/\slot A 14= .bool f.2.1/\slot A 15= .int .i64 f.2.2/\slot A 16= .pointer (some ⟨q,0,none⟩)/\slot A 17= .bool g.2.1/\slot A 18= .int .i64 g.2.2)(h:y6 b n i c j d f g=some true):Wp (dY Tryz.prog Φ) (bx (bx (bx (bx (bx (bx (bx (bx (bx (Tryz.f10.body.getD .skip)))))))))) (iT Tryz.prog [.tmp 0] (fun v _=>v= .bool true)) A ⟨ro,(q,rt g.1.num g.1.den)::(s,rt f.1.num f.1.den)::(t,rt d.1.num d.1.den)::(u,rt j.1.num j.1.den)::(w,rt c.2.1.num c.2.1.den)::(y,rt i.1.num i.1.den)::(z,bk n C D E G)::(B,bk b H I J L)::[]⟩:=by
 obtain ⟨U,hd,V,k1,W,X,Y,Z,ab,ad,ae,al,ao,ar,a0,a2,a3,a4,a5,a6,a7⟩:=T
 unfold y6 at h
 have a8:=p.oc;simp only[bC] at a8
 have a9:=k.oc;simp only[bC] at a9
 refine gb hJ fun O ba=>?_
 have bb:=O.nd
 try simp only[keys,List.map_cons,List.map_nil,List.map_append,List.cons_append,List.nil_append,List.nodup_cons,List.mem_cons,List.mem_append,List.not_mem_nil,or_false,not_or] at bb
 simp only[bf] at ba
 refine aa hJ (ep hJ fun K a=>?_)
 revert h;refine bS fun bc bd h=>?_
 try simp (maxSteps:=10000000) only[*,go_sem]
 refine aM hJ _ (jN (m.mono aH) b (k.mono aH) bd) (aD ?_)
 try simp (maxSteps:=10000000) only[*,go_sem]
 refine a.go ?_;clear a K
 refine aa hJ (ep hJ fun K a=>?_)
 revert h;refine bS fun P bj h=>?_
 try simp (maxSteps:=10000000) only[*,go_sem]
 refine bV hJ _ (w6 m b k 0 bj) fun v bl M bm bo=>?_
 obtain ⟨e3,rfl,N⟩:=bo
 have br:=N.oc;simp only[bC] at br
 replace k:=k.mono M
 replace p:=p.mono M
 replace m:=m.mono M
 simp only[bf] at bm
 refine aD ?_
 try simp (maxSteps:=10000000) only[*,go_sem]
 refine a.go ?_;clear a K
 refine aa hJ (ep hJ fun K a=>?_)
 revert h;refine bS fun o bs h=>?_
 try simp (maxSteps:=10000000) only[*,go_sem]
 refine aM hJ _ (GR (m.mono aH) b (k.mono aH) 0 bs) (aD ?_)
 try simp (maxSteps:=10000000) only[*,go_sem]
 refine ax fun bz fa Q=>?_;have b0:=aN.cons Q O;try simp only[au] at Q
 refine ax fun b1 fb R=>?_;have ff:=aN.cons R b0;try simp only[au] at R
 try simp (maxSteps:=10000000) only[*,go_sem]
 refine a.go ?_;clear a K
 refine aa hJ (aa hJ (ep hJ fun K a=>?_))
 revert h;refine cS (fun b2 h=>?_) fun b2 h=>?_
 ·cases h
 revert h;refine cS (fun b3 h=>?_) fun b3 h=>?_
 ·cases h
 revert h;refine cS (fun b4 h=>?_) fun b4 h=>?_
 ·cases h
 revert h;refine cS (fun b5 h=>?_) fun b5 h=>?_
 ·cases h
 revert h;refine cS (fun ca h=>?_) fun ca h=>?_
 ·cases h
 revert h;refine cS (fun cb h=>?_) fun cb h=>?_
 ·cases h
 revert h;refine cS (fun cd h=>?_) fun cd h=>?_
 ·cases h
 revert h;refine cS (fun cf h=>?_) fun cf h=>?_
 ·cases h
 try simp (maxSteps:=10000000) only[*,go_sem]
 revert h;refine cS (fun cl h=>?_) fun cl h=>?_
 ·cases h
 refine a.go ?_;clear a K
 refine bL hJ (by simp (maxSteps:=10000000) only[*,go_sem]) ?_
 refine aF hJ (aa hJ ?_)
 refine aa hJ ?_
 refine eC [0,1,2,3,4,5,6,7,8,9,10,11,12,13,14,15,16,17,18,19,20,21,22,23,24,25] fun fg cy c0 da=>?_
 simp only[*,go_sem] at cy c0 da
 clear U hd V k1 W X Y Z ab ad ae al ao ar a0 a2 a3 a4 a5 a6 a7
 refine aL hJ fun db=>?_
 refine kA hJ mixed [] (.rd 0 (.rd 1 (.pure 2 (.pure 3 (.pure 4 (.pure 5 (.pure 6 (.pure 7 (.rd 8 (.rd 9 (.pure 10 (.pure 11 (.pure 12 (.rd 13 (.rd 14 (.pure 15 (.pure 16 (.pure 17 (.rd 18 (.rd 19 (.pure 20 (.pure 21 (.pure 22 (.pure 23 (.pure 24 (.pure 25 (.pure 26 (.rd 27 (.rd 28 (.pure 29 (.pure 30 (.pure 31 (.pure 32 (.pure 33 (.pure 34 (.rd 35 (.rd 36 (.pure 37 (.pure 38 (.pure 39 (.pure 40 (.pure 41 (.pure 42 (.pure 43 (.pure 44 (.pure 45 (.pure 46 (.pure 47 (.pure 48 (.one 49 (.one 50 (.pure 51 (.pure 52 (.pure 53 (.rd 54 (.rd 55 (.pure 56 (.pure 57 (.pure 58 (.rd 59 (.rd 60 (.pure 61 (.pure 62 .done))))))))))))))))))))))))))))))))))))))))))))))))))))))))))))))) ⟨bl,[(b1,rt o.2.1.num o.2.1.den),(bz,rt o.1.num o.1.den),(q,rt g.1.num g.1.den),(s,rt f.1.num f.1.den),(t,rt d.1.num d.1.den),(u,rt j.1.num j.1.den),(w,rt c.2.1.num c.2.1.den),(y,rt i.1.num i.1.den),(z,bk n C D E G),(B,bk b H I J L)]⟩ (by simp (maxSteps:=10000000) only[*,go_sem]) (by kernel_rfl) fun K a=>?_
 revert h;refine bS fun fi dd h=>?_
 try simp (maxSteps:=10000000) only[*,go_sem]
 refine ⟨_,bE hJ fun F l=>gQ 13 4 dd,bN ?_⟩
 revert h;refine cS (fun df h=>?_) fun df h=>?_
 ·cases h
 revert h;refine cS (fun dk h=>?_) fun dk h=>?_
 ·cases h
 revert h;refine bS fun fl dp h=>?_
 try simp (maxSteps:=10000000) only[*,go_sem]
 refine ⟨_,bE hJ fun F l=>gQ 11 8 dp,bN ?_⟩
 revert h;refine cS (fun dq h=>?_) fun dq h=>?_
 ·cases h
 revert h;refine bS fun fp ds h=>?_
 try simp (maxSteps:=10000000) only[*,go_sem]
 refine ⟨_,bE hJ fun F l=>gQ 1 4 ds,bN ?_⟩
 revert h;refine cS (fun dt h=>?_) fun dt h=>?_
 ·cases h
 revert h;refine bS fun fq du h=>?_
 try simp (maxSteps:=10000000) only[*,go_sem]
 refine ⟨_,bE hJ fun F l=>gQ 24 13 du,bN ?_⟩
 revert h;refine cS (fun dv h=>?_) fun dv h=>?_
 ·cases h
 revert h;refine cS (fun dC h=>?_) fun dC h=>?_
 ·cases h
 revert h;refine bS fun fr dE h=>?_
 try simp (maxSteps:=10000000) only[*,go_sem]
 refine ⟨_,bE hJ fun F l=>gQ 2 13 dE,bN ?_⟩
 revert h;refine cS (fun dT h=>?_) fun dT h=>?_
 ·cases h
 revert h;refine cS (fun ea h=>?_) fun ea h=>?_
 ·cases h
 revert h;refine bS fun fs eb h=>?_
 try simp (maxSteps:=10000000) only[*,go_sem]
 refine ⟨_,bE hJ fun F l=>gQ 1 1 eb,bN ?_⟩
 revert h;refine cS (fun ec h=>?_) fun ec h=>?_
 ·cases h
 revert h;refine cS (fun ed h=>?_) fun ed h=>?_
 ·cases h
 revert h;refine cS (fun eh h=>?_) fun eh h=>?_
 ·cases h
 revert h;refine bS fun ft et h=>?_
 try simp (maxSteps:=10000000) only[*,go_sem]
 refine ax fun fu ev S=>?_;have fv:=aN.cons S db;try simp only[au] at S
 try simp (maxSteps:=10000000) only[*,go_sem]
 refine aM hJ _ (qk P.1 (N.mono aH) ([10,11,12]) ((aB.flat (r:=rI) (e:=3) (cs:=#[.int .i64 10,.int .i64 11,.int .i64 12]) (fun x=>[.int .i64 x]) ([10,11,12]) (fun _=>rfl) ev rfl (by simp)).mono (ki (by simp (maxSteps:=10000000) only[*,go_sem]))) et) ⟨by simp (maxSteps:=10000000) only[*,go_sem],bN ?_⟩
 revert h;refine cS (fun eQ h=>?_) fun eQ h=>?_
 ·cases h
 revert h;refine bS fun fw eS h=>?_
 try simp (maxSteps:=10000000) only[*,go_sem]
 refine ⟨_,bE hJ fun F l=>gQ 1 4 eS,bN ?_⟩
 revert h;refine cS (fun e0 h=>?_) fun e0 h=>?_
 ·cases h
 revert h;refine bS fun fx e1 h=>?_
 try simp (maxSteps:=10000000) only[*,go_sem]
 refine ⟨_,bE hJ fun F l=>gQ 1 1 e1,bN ?_⟩
 try simp (maxSteps:=10000000) only[*,go_sem]
 revert h;refine cS (fun e2 h=>?_) fun e2 h=>?_
 ·cases h
 refine a.go ?_;clear a K
 refine bL hJ (by simp (maxSteps:=10000000) only[*,go_sem]) ?_
 refine aF hJ ?_
 show Wp _ _ _ _ _
 exact cH hJ (Le.sub (.cons _ (.cons _ (.cons _ (.cons _ (.cons _ (.cons _ (.cons _ (.cons _ (.cons _ (.cons₂ _ (.cons₂ _ (List.Sublist.refl _))))))))))))) (Lj hJ b n i c j d f g bc P o m N p k (by simp (maxSteps:=10000000) only[*,go_sem]) h)
set_option maxHeartbeats 40000000 in
theorem Lm {ro:Addr->Option Value}(d:cU ro){r:Bool}(I:r=true)(h:eH=some r):fL Tryz.prog 10 #[] ⟨ro,[]⟩ (fun v _=>v= .bool r):=by
 subst I
 unfold eH at h
 refine fL.go Tryz.func10 rfl Tryz.ntmps10 Tryz.results10 (by simp) fun Φ hJ A J hd hs=>?_
 clear hs
 refine aa hJ (ep hJ fun K a=>?_)
 try simp (maxSteps:=10000000) only[*,go_sem]
 refine a.go ?_;clear a K
 refine aa hJ (ep hJ fun K a=>?_)
 revert h;refine bS fun g L h=>?_
 try simp (maxSteps:=10000000) only[*,go_sem]
 refine bV hJ _ (G2 L) fun v n M b5 k=>?_
 obtain ⟨N,O,P,Q,rfl,f⟩:=k
 have R:=f.oc;simp only[bC] at R
 replace d:=d.mono M
 refine aD ?_
 try simp (maxSteps:=10000000) only[*,go_sem]
 refine ax fun S T U=>?_;try simp only[au] at U
 try simp (maxSteps:=10000000) only[*,go_sem]
 refine a.go ?_;clear a K
 refine aa hJ ?_
 refine aL hJ fun V=>?_
 refine ep hJ fun K a=>?_
 revert h;refine bS fun l W h=>?_
 try simp (maxSteps:=10000000) only[*,go_sem]
 refine ax fun i p q=>?_;have s:=aN.cons q V;try simp only[au] at q
 try simp (maxSteps:=10000000) only[*,go_sem]
 obtain ⟨m,t,u⟩:=ga (b:=i) (o:=(ic 11)) [] ((S,bk g N O P Q)::[]) s p (aA.cons T (aA.nil _))
 have w:aB rI (bO n i (ic 11)) (.slice (some ⟨i,0,none⟩) 1 1) [11]:=(aB.flat (r:=rI) (e:=3) (cs:=#[.int .i64 11]) (fun x=>[.int .i64 x]) ([11]) (fun _=>rfl) p rfl (by simp))
 generalize bO n i (ic 11)=ca at w t m u
 refine g5 hJ u ?_
 replace f:=f.mono m
 replace d:=d.mono m
 simp only[bf] at t
 have X:=aN.tl s
 refine bV hJ _ (G1 g f ([11]) w 2 W) fun v cb y Y k=>?_
 obtain ⟨cd,cf,cl,cy,rfl,j⟩:=k
 have Z:=j.oc;simp only[bC] at Z
 replace f:=f.mono y
 replace d:=d.mono y
 simp only[bf] at Y
 refine aD ?_
 try simp (maxSteps:=10000000) only[*,go_sem]
 refine ax fun cS c0 z=>?_;have ab:=aN.cons z X;try simp only[au] at z
 try simp (maxSteps:=10000000) only[*,go_sem]
 refine a.go ?_;clear a K
 refine aa hJ (ep hJ fun K a=>?_)
 revert h;refine bS fun ad ae h=>?_
 try simp (maxSteps:=10000000) only[*,go_sem]
 refine aM hJ _ (sN (d.mono aH) g (f.mono aH) 5 ae) (aD ?_)
 try simp (maxSteps:=10000000) only[*,go_sem]
 refine ax fun da db B=>?_;have al:=aN.cons B ab;try simp only[au] at B
 try simp (maxSteps:=10000000) only[*,go_sem]
 refine a.go ?_;clear a K
 refine aa hJ ?_
 refine p9 hJ mixed 7 3 (by simp (maxSteps:=10000000) only[*,go_sem]) (by kernel_rfl) fun K a=>?_
 revert h;refine bS fun ao ar h=>?_
 try simp (maxSteps:=10000000) only[*,go_sem]
 refine ⟨_,bE hJ fun F c=>oE 2 11 ar,b9 ?_⟩
 revert h;refine bS fun a0 a2 h=>?_
 try simp (maxSteps:=10000000) only[*,go_sem]
 refine ⟨_,bE hJ fun F c=>A6 (d.mono (cc c)) g (f.mono (cc c)) ao a2,b9 ?_⟩
 try simp (maxSteps:=10000000) only[*,go_sem]
 refine ax fun dd df C=>?_;have a3:=aN.cons C al;try simp only[au] at C
 try simp (maxSteps:=10000000) only[*,go_sem]
 refine a.go ?_;clear a K
 refine aa hJ ?_
 refine p9 hJ mixed 6 4 (by simp (maxSteps:=10000000) only[*,go_sem]) (by kernel_rfl) fun K a=>?_
 revert h;refine bS fun a4 a5 h=>?_
 try simp (maxSteps:=10000000) only[*,go_sem]
 refine ⟨_,bE hJ fun F c=>oE 2 10 a5,b9 ?_⟩
 revert h;refine bS fun a6 a7 h=>?_
 try simp (maxSteps:=10000000) only[*,go_sem]
 refine ⟨_,bE hJ fun F c=>sO (d.mono (cc c)) g (f.mono (cc c)) a4 a7,b9 ?_⟩
 try simp (maxSteps:=10000000) only[*,go_sem]
 refine ax fun dk dp D=>?_;have a8:=aN.cons D a3;try simp only[au] at D
 try simp (maxSteps:=10000000) only[*,go_sem]
 refine a.go ?_;clear a K
 refine aa hJ ?_
 refine eC [0,1,2,3,4,5,6,7,8,9] fun dq a9 ba bb=>?_
 simp only[*,go_sem] at a9 ba bb
 clear J hd
 refine p9 hJ mixed 7 5 (by simp (maxSteps:=10000000) only[*,go_sem]) (by kernel_rfl) fun K a=>?_
 revert h;refine bS fun bc bd h=>?_
 try simp (maxSteps:=10000000) only[*,go_sem]
 refine ⟨_,bE hJ fun F c=>oE 2 12 bd,b9 ?_⟩
 revert h;refine bS fun bj bl h=>?_
 try simp (maxSteps:=10000000) only[*,go_sem]
 refine ⟨_,bE hJ fun F c=>wz (d.mono (cc c)) l (j.mono (cc c)) bc bl,b9 ?_⟩
 try simp (maxSteps:=10000000) only[*,go_sem]
 refine ax fun ds dt E=>?_;have bm:=aN.cons E a8;try simp only[au] at E
 try simp (maxSteps:=10000000) only[*,go_sem]
 refine a.go ?_;clear a K
 refine aa hJ ?_
 refine p9 hJ mixed 7 6 (by simp (maxSteps:=10000000) only[*,go_sem]) (by kernel_rfl) fun K a=>?_
 revert h;refine bS fun bo br h=>?_
 try simp (maxSteps:=10000000) only[*,go_sem]
 refine ⟨_,bE hJ fun F c=>oE 2 12 br,b9 ?_⟩
 revert h;refine bS fun bs bz h=>?_
 try simp (maxSteps:=10000000) only[*,go_sem]
 refine ⟨_,bE hJ fun F c=>sP (d.mono (cc c)) l (j.mono (cc c)) bo bz,b9 ?_⟩
 try simp (maxSteps:=10000000) only[*,go_sem]
 refine ax fun du dv G=>?_;have b0:=aN.cons G bm;try simp only[au] at G
 try simp (maxSteps:=10000000) only[*,go_sem]
 refine a.go ?_;clear a K
 refine aa hJ ?_
 refine p9 hJ mixed 7 7 (by simp (maxSteps:=10000000) only[*,go_sem]) (by kernel_rfl) fun K a=>?_
 revert h;refine bS fun b1 b2 h=>?_
 try simp (maxSteps:=10000000) only[*,go_sem]
 refine ⟨_,bE hJ fun F c=>oE 2 12 b2,b9 ?_⟩
 revert h;refine bS fun b3 b4 h=>?_
 try simp (maxSteps:=10000000) only[*,go_sem]
 refine ⟨_,bE hJ fun F c=>sP (d.mono (cc c)) g (f.mono (cc c)) b1 b4,b9 ?_⟩
 try simp (maxSteps:=10000000) only[*,go_sem]
 refine ax fun dC dE H=>?_;have dT:=aN.cons H b0;try simp only[au] at H
 try simp (maxSteps:=10000000) only[*,go_sem]
 refine a.go ?_;clear a K
 show Wp _ _ _ _ _
 exact cH hJ (Le.sub (.cons₂ _ (.cons₂ _ (.cons₂ _ (.cons₂ _ (.cons₂ _ (.cons₂ _ (.cons₂ _ (.cons₂ _ (List.Sublist.refl _)))))))))) (Ll hJ g l ad a0 a6 bj bs b3 d j f (by simp (maxSteps:=10000000) only[*,go_sem]) h)
theorem e9 {ro:Addr->Option Value}(a:cU ro){r:Bool}(h:eH=some r):fL Tryz.prog 10 #[] ⟨ro,[]⟩ (fun v _=>v= .bool r):=
 Lm a (Option.some.inj (h.symm.trans gF)) h
end Go.Proofs.YtjepffnffjdloaaGreatDoor
end

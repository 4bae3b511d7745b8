/- A part of the proof of a row and its tied card: part 9. -/
import Derived.Test.YtipgiooobncfbaaGreatDoorQ8
import Derived.Conc.AtomicLaws2
import Derived.Conc.WgArith
set_option linter.all false
section
namespace Go.Sep
open Go Go.Conc
open Go.ConcN (sumTo upd upd_ne upd_same)
open Go.ConcM (MuAt muA msA muBlock OsLater)
open Go.ConcR (WgAt wgBlock stA smA)
section
variable {c : Cy} {i : Nat} {ph : Ph} {ops : Array Oper} {j n : Nat} {Q : Act → ag → Ph → Prop} {a : Act} {F : ag} {f fi : FuncId} {d : Option Tmp}
theorem dm {s:Sh}:s.ms<=s.ms/\s.ws<=s.ws:=⟨Int.le_refl _,Int.le_refl _⟩
theorem w6 (g:Entry c.P f (fun _=>do mark .disable;pure Extern.Race.none_)){vals:List Value}(l:At ops j a f vals d)(h1:ph.gp≠ .gone)(h2:ph.gp≠ .new)
  (h:ai (WJ c i) fi ops (j+1) n Q (aY a d (.tuple #[])) F {ph with deaf:=ph.deaf+1}):ai (WJ c i) fi ops j (n+1) Q a F ph:=by
 obtain ⟨o,cp,cZ,e,hg,m,_,rfl⟩:=l
 refine eY e h1 fun w s k φ p0 _ hs hi he p=>.inr ⟨.tuple #[],w,_,s,_,fun b q cs hb=>?_,hs,.refl _ _,p.BK hi he h2 _,HQ,.inr dm,h⟩
 obtain ⟨fn,f1,f2,f3,f4,f5⟩:=g.ex
 exact stepG_mark0 .disable (by simp) e (b7 hg) hb.kind m f1 f2 f3 f4 f5
theorem sS (l:Entry c.P f (fun _=>do mark .enable;pure Extern.Race.none_)){vals:List Value}(m:At ops j a f vals d)(h1:ph.gp≠ .gone)(h2:ph.gp≠ .new){e:Nat}(hd:ph.deaf=e+1)
  (h:ai (WJ c i) fi ops (j+1) n Q (aY a d (.tuple #[])) F {ph with deaf:=e}):ai (WJ c i) fi ops j (n+1) Q a F ph:=by
 obtain ⟨o,cp,cZ,g,hg,p,_,rfl⟩:=m
 refine eY g h1 fun w s k φ p0 _ hs hi he q=>.inr ⟨.tuple #[],w,_,s,_,fun b r cs hb=>?_,hs,.refl _ _,q.BK hi he h2 _,HR hd,.inr dm,h⟩
 obtain ⟨fn,f1,f2,f3,f4,f5⟩:=l.ex
 exact stepG_mark0 .enable (by simp) g (b7 hg) hb.kind p f1 f2 f3 f4 f5
theorem od {k:Nat}{φ:Nat->Ph}{p0:P0}{s:Sh}(he:φ i=ph)(a:Inv c.n c.bs k φ p0 s):Inv c.n c.bs k (upd φ i ph) p0 s:=by rw[<-he,wW];exact a
theorem BL (g:Entry c.P f (Extern.Race.marked .acquire))(l:At ops j a f [.pointer (some (muA c.Mu))] d)(h1:ph.gp= .cnt)
  (h:ai (WJ c i) fi ops (j+1) n Q (aY a d (.tuple #[])) F ph):ai (WJ c i) fi ops j (n+1) Q a F ph:=by
 obtain ⟨o,cp,cZ,e,hg,m,p,rfl⟩:=l
 obtain ⟨x,rfl,q⟩:=jo p
 refine eY e (by rw[h1];simp) fun w s k φ p0 _ hs hi he r=>.inr ⟨.tuple #[],w,_,s,ph,fun b t cs hb=>?_,hs,.refl _ _,od he r,.word (.acquire (muA c.Mu)) rfl (.inl rfl) rfl ⟨h1,h1⟩,.inr dm,h⟩
 obtain ⟨fn,f1,f2,f3,f4,f5⟩:=g.ex
 exact stepG_markAt .acquire (by simp) e (b7 hg) hb.kind m f1 f2 f3 f4 f5 (by simp[ei,q])
theorem HS (g:Entry c.P f (Extern.Race.marked .releaseMerge))(l:At ops j a f [.pointer (some (muA c.Mu))] d)(h1:ph.gp= .cnt)
  (h:ai (WJ c i) fi ops (j+1) n Q (aY a d (.tuple #[])) F ph):ai (WJ c i) fi ops j (n+1) Q a F ph:=by
 obtain ⟨o,cp,cZ,e,hg,m,p,rfl⟩:=l
 obtain ⟨x,rfl,q⟩:=jo p
 refine eY e (by rw[h1];simp) fun w s k φ p0 _ hs hi he r=>.inr ⟨.tuple #[],w,_,s,ph,fun b t cs hb=>?_,hs,.refl _ _,od he r,.word (.releaseMerge (muA c.Mu)) rfl (.inr rfl) rfl ⟨h1,h1⟩,.inr dm,h⟩
 obtain ⟨fn,f1,f2,f3,f4,f5⟩:=g.ex
 exact stepG_markAt .releaseMerge (by simp) e (b7 hg) hb.kind m f1 f2 f3 f4 f5 (by simp[ei,q])
theorem HT (p:Entry c.P f (Extern.Race.marked .releaseMerge))(q:At ops j a f [.pointer (some (stA c.Wg))] d)(h1:ph.gp= .cnt)
  (hd:ph.deaf=0) (r:ph.mp= .idle\/ph.mp= .fin) (t:ph.stored=c.bs i)
  (h:ai (WJ c i) fi ops (j+1) n Q (aY a d (.tuple #[])) F {mp:=.fin,gp:=.rel,stored:=ph.stored,deaf:=0}):ai (WJ c i) fi ops j (n+1) Q a F ph:=by
 obtain ⟨o,cp,cZ,l,hg,u,v,rfl⟩:=q
 obtain ⟨x,rfl,y⟩:=jo v
 refine eY l (by rw[h1];simp) fun w s k φ p0 _ hs hi he g=>.inr ⟨.tuple #[],w,_,s,{mp:=.fin,gp:=.rel,stored:=ph.stored,deaf:=0},fun b z cs hb=>?_,hs,.refl _ _,?_,.rel rfl ⟨hd,rfl⟩ h1,.inr dm,h⟩
 ·obtain ⟨fn,f1,f2,f3,f4,f5⟩:=p.ex
  exact stepG_markAt .releaseMerge (by simp) l (b7 hg) hb.kind u f1 f2 f3 f4 f5 (by simp[ei,y])
 ·obtain ⟨C,S,W,L,m,hm⟩:=g.m
  refine g.jk hi he (by rw[h1];simp) (by simp) ⟨C,S,W,L,m,mA hm hi _ ?_⟩ (sH g.w hi _ (.inr ⟨by rw[he];exact h1,rfl⟩)) ?_ (fun _=>⟨t,rfl⟩)
  ·rw[he];rcases r with e|e
   ·exact .inr ⟨e,rfl⟩
   ·exact .inl e.symm
  ·have:=g.i.all i hi
   rw[he] at this
   exact (w5 this).symm
theorem sU (old nw:Int)(G:Entry c.P f (Extern.Atomic.casT (.int .i32)))(H:c.Mu≠c.Wg/\c.Mu≠c.Is/\c.Wg≠c.Is)(I:At ops j a f [.pointer (some (muA c.Mu)),.int .i32 old,.int .i32 nw] d)
  (h1:ph.gp= .cnt) (h0:0<ph.deaf)
  (J:∀φ ms C S W L m,φ i=ph->i<c.n->cg c.n φ old ms C S W L m->∃mp,(∃e g h l p,cg c.n (upd φ i {ph with mp:=mp}) nw ms e g h l p)/\ai (WJ c i) fi ops (j+1) n Q (aY a d (.bool true)) F {ph with mp:=mp})
  (K:∀φ mu ms C S W L m,φ i=ph->i<c.n->cg c.n φ mu ms C S W L m->mu≠old->∃mp,(∃e g h l p,cg c.n (upd φ i {ph with mp:=mp}) mu ms e g h l p)/\ai (WJ c i) fi ops (j+1) n Q (aY a d (.bool false)) F {ph with mp:=mp}):ai (WJ c i) fi ops j (n+1) Q a F ph:=by
 obtain ⟨o,cp,cZ,q,hg,A,M,rfl⟩:=I
 obtain ⟨x,y,z,rfl,B,D,E⟩:=qp M
 obtain ⟨fn,f1,f2,f3,f4,f5⟩:=G.ex
 refine eY q (by rw[h1];simp) fun w s k φ p0 _ hs hi he r=>.inr ?_
 obtain ⟨C,S,W,L,m,hm⟩:=r.m
 by_cases t:s.mu=old
 ·subst t
  obtain ⟨mp,u,v⟩:=J φ s.ms C S W L m he hi hm
  exact ⟨.bool true,_,_,{s with mu:=nw},{ph with mp:=mp},fun b N cs hb=>stepG_cas_hit q (b7 hg) hb.kind A f1 f2 f3 f4 .i32 f5 B D E hs.mu.1 hs.mu.2,hs.BH H nw,.set _ (.inl rfl),r.mutex hi he h1 u,wY rfl Iff.rfl h0 (.inr ⟨rfl,h1⟩),.inr dm,v⟩
 ·obtain ⟨mp,u,v⟩:=K φ s.mu s.ms C S W L m he hi hm t
  exact ⟨.bool false,_,_,{s with mu:=s.mu},{ph with mp:=mp},fun b N cs hb=>stepG_cas_miss q (b7 hg) hb.kind A f1 f2 f3 f4 .i32 f5 B D E hs.mu.1 hs.mu.2 t,hs,.refl _ _,r.mutex hi he h1 u,wX false rfl Iff.rfl h0 (.inr ⟨rfl,h1⟩),.inr dm,v⟩
theorem w7 (dl:Int)(p:Entry c.P f (Extern.Atomic.update (Op.intArith .add) .i32 true))(q:c.Mu≠c.Wg/\c.Mu≠c.Is/\c.Wg≠c.Is)(r:At ops j a f [.pointer (some (muA c.Mu)),.int .i32 dl] d)
  (h1:ph.gp= .cnt) (h0:0<ph.deaf)
  (h:∀φ mu ms C S W L m,φ i=ph->i<c.n->cg c.n φ mu ms C S W L m->∃mp nw,IntKind.i32.wrap (mu+dl)=nw/\(∃t u v z A,cg c.n (upd φ i {ph with mp:=mp}) nw ms t u v z A)/\ai (WJ c i) fi ops (j+1) n Q (aY a d (.int .i32 nw)) F {ph with mp:=mp}):
  ai (WJ c i) fi ops j (n+1) Q a F ph:=by
 obtain ⟨o,cp,cZ,g,hg,B,D,rfl⟩:=r
 obtain ⟨x,y,rfl,E,G⟩:=qo D
 obtain ⟨fn,f1,f2,f3,f4,f5⟩:=p.ex
 refine eY g (by rw[h1];simp) fun w s k φ p0 _ hs hi he l=>.inr ?_
 obtain ⟨C,S,W,L,m,hm⟩:=l.m
 obtain ⟨mp,nw,e,H,I⟩:=h φ s.mu s.ms C S W L m he hi hm
 exact ⟨.int .i32 nw,_,_,{s with mu:=nw},{ph with mp:=mp},fun b J cs hb=>by rw[<-e];exact stepG_add_atomic g (b7 hg) hb.kind B f1 f2 f3 f4 .i32 f5 E G hs.mu.1 hs.mu.2,by rw[<-e];exact hs.BH q _,.set _ (.inl rfl),l.mutex hi he h1 H,wY rfl Iff.rfl h0 (.inr ⟨rfl,h1⟩),.inr dm,I⟩
theorem oe {ty:TypeId}(l:(c.P.funcs[fi]?).any (·.norace)=true)(e:c.P.underlying ty=some (.int .i32)){x:Operand}(p:mC ops j a (.load ty x) d)(h1:ph.gp= .cnt)(q:ev a x= .pointer (some (muA c.Mu)))
  (h:∀φ mu ms C S W L m,φ i=ph->i<c.n->cg c.n φ mu ms C S W L m->∃mp,(∃r t u v y,cg c.n (upd φ i {ph with mp:=mp}) mu ms r t u v y)/\ai (WJ c i) fi ops (j+1) n Q (aY a d (.int .i32 mu)) F {ph with mp:=mp}):
  ai (WJ c i) fi ops j (n+1) Q a F ph:=by
 obtain ⟨o,f,hg,z,rfl⟩:=p
 refine eY f (by rw[h1];simp) fun w s k φ p0 _ hs hi he g=>.inr ?_
 obtain ⟨C,S,W,L,m,hm⟩:=g.m
 obtain ⟨mp,A,B⟩:=h φ s.mu s.ms C S W L m he hi hm
 have e1:execOp a.eval o=(do pure (.value (<-loadVar ty (muA c.Mu))):Sem Next):=by
  unfold execOp
  simp only[z,ei,q]
  rfl
 have D:(execOp a.eval o).run c.P w= .ok (.value (.int .i32 s.mu)) w:=by
  rw[e1]
  have:=hs.mu.1
  simp[loadVar,isAgg,run_underlying e,this]
 have E:(execOp a.eval o).events c.P w #[]=#[⟨.cell (muA c.Mu),false,false⟩]:=by
  rw[e1]
  have:=hs.mu.1
  simp[loadVar,isAgg,run_underlying e,events_load,this]
 have G:seen c.P fi #[⟨.cell (muA c.Mu),false,false⟩]=#[]:=by rw[seen_def];simp[seenStep,l]
 refine ⟨.int .i32 s.mu,w,#[],{s with mu:=s.mu},{ph with mp:=mp},fun b H cs hb=>?_,hs,.refl _ _,g.mutex hi he h1 A,mD rfl Iff.rfl,.inr dm,B⟩
 rw[stepG_value f (b7 hg) hb.kind D]
 unfold listed
 rw[E,hb.fn,G]
end
section
variable {c : Cy} {i : Nat} {ph : Ph} {ops : Array Oper} {j n : Nat} {Q : Act → ag → Ph → Prop} {a : Act} {F : ag} {f fi : FuncId} {d : Option Tmp}
theorem HU (r t:Value)(u:Entry c.P f Extern.Sync.semacquire)(v:c.Mu≠c.Wg/\c.Mu≠c.Is/\c.Wg≠c.Is)(A:At ops j a f [.pointer (some (msA c.Mu)),r,t] d)
  (h1:ph.gp= .cnt) {G:Nat} (hm:ph.mp= .g5 G) (h:ai (WJ c i) fi ops (j+1) n Q (aY a d (.tuple #[])) F {ph with mp:=.ji G}):ai (WJ c i) fi ops j (n+1) Q a F ph:=by
 obtain ⟨o,cp,cZ,e,hg,g,B,rfl⟩:=A
 obtain ⟨x,y,z,rfl,l,_,_⟩:=qp B
 obtain ⟨fn,f1,f2,f3,f4,f5⟩:=u.ex
 refine eY e (by rw[h1];simp) fun w s k φ p0 _ hs hi he p=>?_
 by_cases h0:s.ms=0
 ·refine .inl ⟨by rw[hm];rfl,h0,fun b D cs=>stepG_semacquire_wait e (b7 hg) g f1 f2 f3 f4 f5 (ad:=msA c.Mu) (by simp[ei,l]) (by rw[hs.ms.1,h0])⟩
 ·obtain ⟨C,S,W,L,m,q⟩:=p.m
  have E:=q.cnt
  refine .inr ⟨.tuple #[],_,_,{s with ms:=s.ms - 1},{ph with mp:=.ji G},fun b D cs hb=>stepG_semacquire e (b7 hg) hb.kind g f1 f2 f3 f4 f5 (by simp[ei,l]) hs.ms.1 h0 hs.ms.2,hs.BI v _,.set _ (.inl rfl),
   p.mutex hi he h1 ⟨C,S,W,L,m - 1,GV q hi _ (by rw[he];exact hm) rfl (by omega)⟩,wZ rfl Iff.rfl (.inr ⟨rfl,h1⟩),.inr ⟨by simp only;omega,Int.le_refl _⟩,h⟩
theorem BM (t u:Value)(l:Entry c.P f Extern.Sync.semrelease)(v:c.Mu≠c.Wg/\c.Mu≠c.Is/\c.Wg≠c.Is)(A:At ops j a f [.pointer (some (msA c.Mu)),t,u] d)
  (h1:ph.gp= .cnt) (hm:ph.mp= .nW\/ph.mp= .nZ) (h:ai (WJ c i) fi ops (j+1) n Q (aY a d (.tuple #[])) F {ph with mp:=.fin}):ai (WJ c i) fi ops j (n+1) Q a F ph:=by
 obtain ⟨o,cp,cZ,p,hg,q,B,rfl⟩:=A
 obtain ⟨x,y,z,rfl,g,_,_⟩:=qp B
 obtain ⟨fn,f1,f2,f3,f4,f5⟩:=l.ex
 refine eY p (by rw[h1];simp) fun w s k φ p0 _ hs hi he r=>.inr ?_
 obtain ⟨C,S,W,L,m,e⟩:=r.m
 have E:=e.cnt
 have hb:=e.st.w
 have G:=e.st.s
 have H:m<=1:=by
  rcases Nat.lt_or_ge S 1 with y|y
  ·have:=e.norm (by omega);omega
  ·have:=e.fy (by omega);omega
 have D:IntKind.u32.wrap (s.ms+1)=s.ms+1:=by
  unfold IntKind.wrap
  simp[IntKind.bits,IntKind.signed]
  omega
 refine ⟨.tuple #[],_,_,{s with ms:=s.ms+1},{ph with mp:=.fin},fun b I cs hb=>stepG_semrelease p (b7 hg) hb.kind q f1 f2 f3 f4 f5 (by simp[ei,g]) hs.ms.1 hs.ms.2,by rw[D];exact hs.BI v _,.set _ (.inl rfl),
  r.mutex hi he h1 ⟨C,S,W,L,m+1,G1 e hi _ (by rw[he];exact hm) rfl⟩,wZ rfl Iff.rfl (.inr ⟨rfl,h1⟩),.inl ⟨_,q,fun x g=>?_⟩,h⟩
 cases g
 exact ⟨f,rfl,l.Bx⟩
theorem BN (l:Entry c.P f Extern.OsHooks.nano)(e:(c.P.funcs[f]?).any (·.norace)=true){vals:List Value}(m:At ops j a f vals d)
  (h1:ph.gp≠ .gone) (h:∀x:Int,ai (WJ c i) fi ops (j+1) n Q (aY a d (.int .i64 x)) F ph):ai (WJ c i) fi ops j (n+1) Q a F ph:=by
 obtain ⟨o,cp,cZ,g,hg,p,_,rfl⟩:=m
 obtain ⟨fn,f1,f2,f3,f4,f5⟩:=l.ex
 refine eY g h1 fun w s k φ p0 _ hs hi he q=>.inr ⟨_,w.later,#[],s,ph,fun b r cs hb=>stepG_nanotime g (b7 hg) hb.kind p f1 f2 f3 f4 f5 (by rw[f1] at e;simpa using e),hs,⟨rfl,rfl,rfl,⟨w.tick,rfl⟩,fun _ _=>rfl⟩,od he q,mD rfl Iff.rfl,.inr dm,h _⟩
theorem HV (it:Int)(m:Entry c.P f Extern.Sync.canSpin)(p:At ops j a f [.int .i64 it] d)
  (h1:ph.gp≠ .gone) (h:∀t:Bool,(t=true->it<4)->ai (WJ c i) fi ops (j+1) n Q (aY a d (.bool t)) F ph):ai (WJ c i) fi ops j (n+1) Q a F ph:=by
 obtain ⟨o,cp,cZ,e,hg,g,q,rfl⟩:=p
 obtain ⟨x,rfl,r⟩:=jo q
 obtain ⟨fn,f1,f2,f3,f4,f5⟩:=m.ex
 have hm:(#[x]:Array Operand).map a.eval=#[.int .i64 it]:=by simp[ei,r]
 refine eY e h1 fun w s k φ p0 _ hs hi he l=>.inr ?_
 by_cases u:4<=it
 ·exact ⟨_,w,#[],s,ph,fun b v cs hb=>stepG_canSpin_no e (b7 hg) hb.kind g f1 f2 f3 f4 f5 hm u,hs,.refl _ _,od he l,mD rfl Iff.rfl,.inr dm,h false (by simp)⟩
 ·exact ⟨_,w.asked,#[],s,ph,fun b v cs hb=>stepG_canSpin_ask e (b7 hg) hb.kind g f1 f2 f3 f4 f5 hm (by omega),hs,⟨rfl,rfl,rfl,.refl _,fun _ _=>rfl⟩,od he l,mD rfl Iff.rfl,.inr dm,h _ (fun _=>by omega)⟩
end
theorem ai.entry {P:Program}{main:Bool}{S:Type}{JF:S->Goroutine->ag->Prop}{fi f:FuncId}{ops:Array Oper}{j n:Nat}{Q:Act->ag->S->Prop}{a:Act}{F:ag}{ph:S}{d:Option Tmp}(v:Value)(e:dH P main (JF ph))(g:Entry P f (fun _=>pure v))
  {vals:List Value} (i:At ops j a f vals d) (h:ai JF fi ops (j+1) n Q (aY a d v) F ph):ai JF fi ops j (n+1) Q a F ph:=fun b c cs hb k=>by
 obtain ⟨fn,f1,f2,f3,f4,f5⟩:=g.ex
 obtain ⟨o,cp,cZ,l,hg,m,_,rfl⟩:=i
 rw[List.range'_succ,eo hb.round]
 refine e.move (fr':=b.at (a.put o.dst v) (.inRegion ops (List.range' (j+1) n)::c)) (fun w=>stepG_entry_pure v l (b7 hg) hb.kind m f1 f2 f3 f4 f5) (by rw[<-eo hb.round];exact h b c cs hb k)
section
variable {c : Cy} {i : Nat} {ph : Ph} {ops : Array Oper} {j n : Nat} {Q : Act → ag → Ph → Prop} {a : Act} {F : ag} {f fi : FuncId} {d : Option Tmp}
theorem sV (ad:Addr){src dst t:TypeId}(hs:c.P.underlying src=some (.pointer t))(hd:c.P.underlying dst=some .unsafePointer)(e:(c.P.info? t).map (fun i=>decide (i.size=0))=some false){x:Operand}
  (m:mC ops j a (.convert src dst x) d) (h1:ph.gp≠ .gone) (p:ev a x= .pointer (some ad)) (q:∀w s,cn c w s->∃v,w.cell? ad=some v) (h:ai (WJ c i) fi ops (j+1) n Q (aY a d (.pointer (some ad))) F ph):ai (WJ c i) fi ops j (n+1) Q a F ph:=by
 obtain ⟨o,f,hg,r,rfl⟩:=m
 refine eY f h1 fun w s k φ p0 _ g hi he u=>.inr ⟨_,w,#[],s,ph,fun b A cs hb=>?_,g,.refl _ _,od he u,mD rfl Iff.rfl,.inr dm,h⟩
 obtain ⟨v,l⟩:=q w s g
 have e1:execOp a.eval o=(do pure (.value (<-convert src dst (.pointer (some ad)))):Sem Next):=by
  unfold execOp
  simp only[r,ei,p]
 have y:(execOp a.eval o).run c.P w= .ok (.value (.pointer (some ad))) w:=by
  rw[e1];simp[run_convert_to_unsafe hs hd e l]
 have z:(execOp a.eval o).events c.P w #[]=#[]:=by
  rw[e1];simp[events_convert_to_unsafe hs hd e l]
 rw[stepG_value f (b7 hg) hb.kind y]
 unfold listed
 rw[z,seen_none]
theorem HW {ty:TypeId}(I:c.P.underlying ty=some .bool)(v:bW c.P ty=some 1)(z:(c.P.funcs[fi]?).any (·.norace)=false)(A:c.Mu≠c.Wg/\c.Mu≠c.Is/\c.Wg≠c.Is){x y:Operand}
  (B:mC ops j a (.store ty x y) d) (h1:ph.gp= .cnt) (f:ev a x= .pointer (some ⟨c.Is,i,none⟩)) (g:ev a y= .bool true) (h:ai (WJ c i) fi ops (j+1) n Q (aY a d undef) F {ph with stored:=true}):ai (WJ c i) fi ops j (n+1) Q a F ph:=by
 obtain ⟨o,l,hg,p,rfl⟩:=B
 refine eY l (by rw[h1];simp) fun w s k φ p0 _ hs hi he e=>.inr ?_
 have hlen:=e.i.len
 have q:w.cell? ⟨c.Is,i,none⟩=some (.bool (s.is[i]'(by omega))):=by
  have:=hs.2.2
  simp[World.cell?,this,hlen,hi]
 have r:w.frozen? ⟨c.Is,i,none⟩=false:=by
  have:=hs.2.2
  simp[World.frozen?,this]
 have t:(sizeOf ty).run c.P w= .ok 1 w:=by
  obtain ⟨inf,h1,h2⟩:=Option.map_eq_some_iff.1 v
  simp[Go.sizeOf,typeInfo,h1,h2]
 have u:Instr.sureAddr (.pointer (some ⟨c.Is,i,none⟩))=(Pure.pure ⟨c.Is,i,none⟩:Sem Addr):=rfl
 have D:(execOp a.eval o).run c.P w= .ok .skip (w.setCell ⟨c.Is,i,none⟩ (.bool true)):=by
  unfold execOp
  simp only[p,ei,f,g]
  simp[Instr.storeAt,u,storeVar,t,Value.cells,storeCells,Addr.add,q,r,run_store c.P w ⟨c.Is,i,none⟩ (.bool true) .plain rfl,Result.andThen]
 have E:(execOp a.eval o).events c.P w #[]=#[⟨.cell ⟨c.Is,i,none⟩,true,false⟩]:=by
  unfold execOp
  simp only[p,ei,f,g]
  simp[Instr.storeAt,u,storeVar,t,Value.cells,storeCells,Addr.add,q,r,events_store c.P w _ ⟨c.Is,i,none⟩ (.bool true) .plain rfl,run_store c.P w ⟨c.Is,i,none⟩ (.bool true) .plain rfl,Result.evThen]
 have G:seen c.P fi #[⟨.cell ⟨c.Is,i,none⟩,true,false⟩]=#[⟨.cell ⟨c.Is,i,none⟩,true,false⟩]:=by rw[seen_def];simp[seenStep,z]
 obtain ⟨C,S,W,L,m,hm⟩:=e.m
 refine ⟨undef,_,_,{s with is:=s.is.set i true},{ph with stored:=true},fun b J cs hb=>?_,hs.HP A i true,.set _ (.inr (.inr rfl)),?_,.store rfl rfl ⟨h1,h1⟩,.inr dm,h⟩
 ·rw[stepG_none l (b7 hg) hb.kind D]
  unfold listed
  rw[E,hb.fn,G]
 ·exact e.jk hi he (by rw[h1];simp) (by simp[h1]) ⟨C,S,W,L,m,mA hm hi _ (.inl (by rw[he]))⟩ (sH e.w hi _ (.inl (by rw[he]))) rfl (fun H=>absurd h1 H)
end
theorem ai.shr {P:Program}{main:Bool}{S:Type}{JF:S->Goroutine->ag->Prop}{fi:FuncId}{ops:Array Oper}{j n:Nat}{Q:Act->ag->S->Prop}{a:Act}{F:ag}{ph:S}{d:Option Tmp}{t f:TypeId}{k b:IntKind}{u m:Int}(v:Int)(g:dH P main (JF ph)){x y:Operand}
  (i:mC ops j a (.binOp .shr t x y f) d) (l:ev a x= .int k u) (p:ev a y= .int b m) (hm:0<=m) (c:u.fdiv (2 ^ min m.toNat k.bits)=v) (h:ai JF fi ops (j+1) n Q (aY a d (.int k v)) F ph):ai JF fi ops j (n+1) Q a F ph:=by
 obtain ⟨o,q,hg,r,rfl⟩:=i
 have e:¬m<0:=by omega
 have e1:execOp a.eval o=(do eqGuard .shr t x y (.int k u) (.int b m);pure (.value (<-binOp .shr t (.int k u) (.int b m))):Sem Next):=by
  unfold execOp
  simp only[r,ei,l,p]
  simp
 refine ai.plain g (.int k v) q hg (fun w=>?_) (fun w=>?_) h
 ·rw[e1];subst c;simp[eqGuard,binOp,Op.shift,e]
 ·rw[e1];subst c;simp[eqGuard,binOp,Op.shift,e]
theorem ai.mE {P:Program}{main:Bool}{S:Type}{JF:S->Goroutine->ag->Prop}{fi:FuncId}{ops:Array Oper}{j n:Nat}{Q:Act->ag->S->Prop}{a:Act}{F:ag}{ph:S}{d:Option Tmp}{t b:TypeId}(u v:Int)(c:dH P main (JF ph)){x y:Operand}
  (e:mC ops j a (.binOp .shr t x y b) d) (f:ev a x= .int .i32 u) (g:ev a y= .int .u64 3) (i:u.fdiv 8=v) (h:ai JF fi ops (j+1) n Q (aY a d (.int .i32 v)) F ph):ai JF fi ops j (n+1) Q a F ph:=
 ai.shr v c e f g (by decide) i h
end Go.Sep
end
section
namespace Go.Proofs.YtipgiooobncfbaaGreatDoor
open Go Go.Sep Go.Proofs Go.Conc
open Go.ConcN (upd upd_same)
open Go.ConcM (muA msA)
open Go.ConcR (stA smA)
set_option maxRecDepth 100000
set_option maxHeartbeats 4000000
section
variable {Mu Wg Is n base T0 i : Nat} {bs : Nat → Bool} {st : Bool} {F : ag}
theorem w8 (w:World)(s:Sh)(h:cn (CY Mu Wg Is n bs base T0) w s):∃v,w.cell? ⟨Mu,0,none⟩=some v:=⟨_,h.mu.1⟩
theorem HX (b:Mu≠Wg/\Mu≠Is/\Wg≠Is)
  (c:cw Tryz.prog (WJ (CY Mu Wg Is n bs base T0) i) 183 #[.pointer (some (muA Mu))] F ⟨.idle,.cnt,st,1⟩ (fun v F' aJ=>v= .tuple #[]/\F'=F/\aJ=⟨.held,.cnt,st,0⟩)):
  cw Tryz.prog (WJ (CY Mu Wg Is n bs base T0) i) 165 #[.pointer (some (muA Mu))] F ⟨.idle,.cnt,st,0⟩ (fun v F' aJ=>v= .tuple #[]/\F'=F/\aJ=⟨.held,.cnt,st,0⟩):=by
 have a:=WJ.dX (CY Mu Wg Is n bs base T0) i
 have hJ:∀ph:Ph,ph.gp= .cnt->Go.Sep.Closed Tryz.prog false (WJ (CY Mu Wg Is n bs base T0) i ph):=fun ph h=>Wk.closed (CY Mu Wg Is n bs base T0) i ph h
 refine cw.go (main:=false) a Tryz.func165 rfl Tryz.ntmps165 (by simp) fun A e hd hs=>?_
 have f:=hs 0
 clear hs
 repeat refine ay (a _) ?_
 refine cP a ?_
 refine w6 qn ⟨_,_,_,rfl,(by first|rfl|simp only[*,go_sem,Int.reduceBEq,Int.reduceBNe]),rfl,by first|(simp only[*,go_sem,muA,msA,stA,smA,Int.reduceBEq,Int.reduceBNe];done)|(simp only[*,go_sem,muA,msA,stA,smA,Int.reduceBEq,Int.reduceBNe];rfl),rfl⟩ (by simp) (by simp) ?_
 refine ai.nil a ?_;try simp only[go_sem]
 repeat refine ay (a _) ?_
 refine cP a ?_
 refine ai.bp (hJ _ rfl) 3 (n:=1) _ rfl rfl ?_;simp only[*,go_sem,muA,msA,stA,smA,Int.reduceBEq,Int.reduceBNe]
 refine sU 0 1 sP b ⟨_,_,_,rfl,(by first|rfl|simp only[*,go_sem,Int.reduceBEq,Int.reduceBNe]),rfl,by first|(simp only[*,go_sem,muA,msA,stA,smA,Int.reduceBEq,Int.reduceBNe];done)|(simp only[*,go_sem,muA,msA,stA,smA,Int.reduceBEq,Int.reduceBNe];rfl),rfl⟩ (by rfl) (by simp) (fun φ ms C S W L m he hi hm=>⟨.held,⟨0,0,0,1,m,GO hm hi _ (by rw[he]) rfl rfl⟩,?_⟩) (fun φ mu ms C S W L m he hi hm g=>⟨.idle,⟨C,S,W,L,m,mA hm hi _ (.inl (by rw[he]))⟩,?_⟩)
 ·refine ai.nil a ?_;try simp only[go_sem]
  repeat refine ay (a _) ?_
  refine cO (a _) (by simp only[*,go_sem,Int.reduceBEq,Int.reduceBNe]) ?_
  repeat refine ay (a _) ?_
  refine cO (a _) (by simp only[*,go_sem,Int.reduceBEq,Int.reduceBNe]) ?_
  repeat refine ay (a _) ?_
  refine cP a ?_
  refine sS kP ⟨_,_,_,rfl,(by first|rfl|simp only[*,go_sem,Int.reduceBEq,Int.reduceBNe]),rfl,by first|(simp only[*,go_sem,muA,msA,stA,smA,Int.reduceBEq,Int.reduceBNe];done)|(simp only[*,go_sem,muA,msA,stA,smA,Int.reduceBEq,Int.reduceBNe];rfl),rfl⟩ (by simp) (by simp) rfl ?_
  refine ai.nil a ?_;try simp only[go_sem]
  repeat refine ay (a _) ?_
  refine cP a ?_
  refine ai.bp (hJ _ rfl) 1 (n:=2) _ rfl rfl ?_;simp only[*,go_sem,muA,msA,stA,smA,Int.reduceBEq,Int.reduceBNe]
  refine sV ⟨Mu,0,none⟩ wS kQ wU ⟨_,rfl,(by first|rfl|simp only[*,go_sem,Int.reduceBEq,Int.reduceBNe]),rfl,rfl⟩ (by simp) (by simp only[*,go_sem,muA,msA,stA,smA,Int.reduceBEq,Int.reduceBNe]) w8 ?_
  refine BL sO ⟨_,_,_,rfl,(by first|rfl|simp only[*,go_sem,Int.reduceBEq,Int.reduceBNe]),rfl,by first|(simp only[*,go_sem,muA,msA,stA,smA,Int.reduceBEq,Int.reduceBNe];done)|(simp only[*,go_sem,muA,msA,stA,smA,Int.reduceBEq,Int.reduceBNe];rfl),rfl⟩ (by rfl) ?_
  refine ai.nil a ?_;try simp only[go_sem]
  refine eX ?_;try simp only[go_sem]
  exact oa rfl (by simp only[*,go_sem]) ⟨rfl,rfl,rfl⟩
 ·refine ai.nil a ?_;try simp only[go_sem]
  repeat refine ay (a _) ?_
  refine cv (a _) (by simp only[*,go_sem,Int.reduceBEq,Int.reduceBNe]) ?_
  refine cx (a _) ?_;try simp only[go_sem]
  repeat refine ay (a _) ?_
  refine cP a ?_
  refine ai.bp (hJ _ rfl) 1 (n:=1) _ rfl rfl ?_;simp only[*,go_sem,muA,msA,stA,smA,Int.reduceBEq,Int.reduceBNe]
  refine ai.fB (a _) rfl rfl rfl Dn (by simp only[*,go_sem,muA]) c fun v F' aJ d=>?_
  obtain ⟨rfl,rfl,rfl⟩:=d
  refine ai.nil a ?_
  exact kN rfl (by simp only[*,go_sem]) ⟨rfl,rfl,rfl⟩
def iP (C S W:Nat)(nw:Int)(G:Nat):Mp:=if S=1 then .nZ else if 0<C/\W=0 then .fN nw G else .fin
def HY (Mu n:Nat)(st:Bool)(F:ag)(m:Nat)(a:Act)(F':ag)(aJ:Ph):Prop:=
 ∃(old:Int) (C S W L G:Nat),F'=F/\slot a 0= .pointer (some ⟨Mu,0,none⟩)/\slot a 4= .int .i32 old/\sz a=43/\a.defers=[]/\Wd old C S W L/\C<=3*n/\G<=m/\
   ((S=0/\L=0/\W=0/\0<C/\aJ=⟨.fN old G,.cnt,st,1⟩)\/(¬(S=0/\L=0/\W=0/\0<C)/\aJ=⟨.fin,.cnt,st,1⟩))
theorem HZ (j:Mu≠Wg/\Mu≠Is/\Wg≠Is)(ad:n<67108864){nw:Int}{C S W G:Nat}(hw:Wd nw C S W 0)(hC:C<=3*n):
  cw Tryz.prog (WJ (CY Mu Wg Is n bs base T0) i) 185 #[.pointer (some (muA Mu)),.int .i32 nw] F ⟨iP C S W nw G,.cnt,st,1⟩ (fun v F' aJ=>v= .tuple #[]/\F'=F/\aJ=⟨.fin,.cnt,st,1⟩):=by
 have a:=WJ.dX (CY Mu Wg Is n bs base T0) i
 have hJ:∀ph:Ph,ph.gp= .cnt->Go.Sep.Closed Tryz.prog false (WJ (CY Mu Wg Is n bs base T0) i ph):=fun ph h=>Wk.closed (CY Mu Wg Is n bs base T0) i ph h
 refine cw.go (main:=false) a Tryz.func185 rfl Tryz.ntmps185 (by simp) fun A y hd hs=>?_
 have z:=hs 0
 have k1:=hs 1
 clear hs
 have B:=hw.st.s
 have hW:=hw.st.w
 have w1:IntKind.i32.wrap (nw+1)=nw+1:=by have e0:=hw.st.eq;exact g7 (by omega) (by omega)
 have D:Wd (nw+1) C S W 1:=by have e0:=hw.st.eq;exact wd ⟨by omega,by omega,hW,B⟩ (by omega)
 have M:dG (nw+1) 1=1:=D.a1
 repeat refine ay (a _) ?_
 refine cP a ?_
 refine ai.bp (hJ _ rfl) 4 (n:=0) _ rfl rfl ?_;simp only[*,go_sem,muA,msA,stA,smA,Int.reduceBEq,Int.reduceBNe]
 refine ai.nil a ?_;try simp only[go_sem]
 repeat refine ay (a _) ?_
 refine cv (a _) (by simp only[*,go_sem,Int.reduceBEq,Int.reduceBNe]) ?_
 refine cx (a _) ?_;try simp only[go_sem]
 rcases (by omega:S=1\/S=0) with rfl|rfl
 ·
  have b4:dG nw 4=4:=hw.a4
  repeat refine ay (a _) ?_
  refine cP a ?_
  refine ai.bp (hJ _ rfl) 3 (n:=0) _ rfl rfl ?_;simp only[*,go_sem,muA,msA,stA,smA,Int.reduceBEq,Int.reduceBNe]
  refine ai.nil a ?_;try simp only[go_sem]
  repeat refine ay (a _) ?_
  refine cv (a _) (by simp only[*,go_sem,Int.reduceBEq,Int.reduceBNe]) ?_
  repeat refine ay (a _) ?_
  refine cP a ?_
  refine ai.bp (hJ _ rfl) 3 (n:=1) _ rfl rfl ?_;simp only[*,go_sem,muA,msA,stA,smA,Int.reduceBEq,Int.reduceBNe]
  refine BM (.bool true) (.int .i64 2) Bz j ⟨_,_,_,rfl,(by first|rfl|simp only[*,go_sem,Int.reduceBEq,Int.reduceBNe]),rfl,by first|(simp only[*,go_sem,muA,msA,stA,smA,Int.reduceBEq,Int.reduceBNe];done)|(simp only[*,go_sem,muA,msA,stA,smA,Int.reduceBEq,Int.reduceBNe];rfl),rfl⟩ (by rfl) (by simp[iP]) ?_
  refine ai.nil a ?_;try simp only[go_sem]
  exact kN rfl (by simp only[*,go_sem]) ⟨rfl,rfl,rfl⟩
 ·have b4:dG nw 4=0:=hw.a4
  repeat refine ay (a _) ?_
  refine cP a ?_
  refine ai.bp (hJ _ rfl) 3 (n:=0) _ rfl rfl ?_;simp only[*,go_sem,muA,msA,stA,smA,Int.reduceBEq,Int.reduceBNe]
  refine ai.nil a ?_;try simp only[go_sem]
  repeat refine ay (a _) ?_
  refine cO (a _) (by simp only[*,go_sem,Int.reduceBEq,Int.reduceBNe]) ?_
  repeat refine ay (a _) ?_
  refine cP a ?_
  refine ai.bp (hJ _ rfl) 2 (n:=0) _ rfl rfl ?_;simp only[*,go_sem,muA,msA,stA,smA,Int.reduceBEq,Int.reduceBNe]
  refine ai.nil a ?_;try simp only[go_sem]
  repeat refine ay (a _) ?_
  refine jl a ?_
  refine qm a (fun m N F' aJ=>HY Mu n st F m N F' aJ) G ?_ ?_
  ·refine ⟨nw,C,0,W,0,G,rfl,by simp only[*,go_sem,muA],by simp only[*,go_sem],by simp only[*,go_sem],by simp only[*,go_sem],hw,hC,Nat.le_refl _,?_⟩
   by_cases f:0<C/\W=0
   ·exact .inl ⟨rfl,rfl,f.2,f.1,by simp[iP,f]⟩
   ·exact .inr ⟨fun x=>f ⟨x.2.2.2,x.2.2.1⟩,by simp[iP,f]⟩
  ·clear hw hC b4 M D w1 B hW z k1 y hd
   rintro m A F' aJ ⟨old,C,S,W,L,G,rfl,z,ae,y,hd,hw,hC,al,O⟩
   repeat refine ay (a _) ?_
   refine jl a ?_
   have sh:old.fdiv 8=(C:Int):=hw.sh
   rcases O with ⟨rfl,rfl,rfl,k,rfl⟩|⟨ao,rfl⟩
   ·
    have P:dG old 7=0:=hw.a7
    have E:((C:Int)==0)=false:=by simp;omega
    repeat refine ay (a _) ?_
    refine cP a ?_
    refine ai.bp (hJ _ rfl) 1 (n:=7) _ rfl rfl ?_;simp only[*,go_sem,muA,msA,stA,smA,Int.reduceBEq,Int.reduceBNe]
    refine ai.mE old (C:Int) (a _) ⟨_,rfl,(by first|rfl|simp only[*,go_sem,Int.reduceBEq,Int.reduceBNe]),rfl,rfl⟩ (by simp only[*,go_sem,muA,msA,stA,smA,Int.reduceBEq,Int.reduceBNe]) (by simp only[*,go_sem,muA,msA,stA,smA,Int.reduceBEq,Int.reduceBNe]) hw.sh ?_
    refine ai.bp (hJ _ rfl) 6 (n:=0) _ rfl rfl ?_;simp only[*,go_sem,muA,msA,stA,smA,Int.reduceBEq,Int.reduceBNe]
    refine ai.nil a ?_;try simp only[go_sem]
    repeat refine ay (a _) ?_
    refine cv (a _) (by simp only[*,go_sem,Int.reduceBEq,Int.reduceBNe]) ?_
    refine cx (a _) ?_;try simp only[go_sem]
    have ar:IntKind.i32.wrap (old - 8)=old - 8:=by have e0:=hw.st.eq;exact g7 (by omega) (by omega)
    have Q:Wd (old - 8) (C - 1) 0 0 0:=by have e0:=hw.st.eq;exact wd ⟨by omega,by omega,by omega,by omega⟩ (by omega)
    have o2:iK (old - 8) 2=old - 8+2:=Q.o2
    repeat refine ay (a _) ?_
    refine cP a ?_
    refine ai.bp (hJ _ rfl) 4 (n:=0) _ rfl rfl ?_;simp only[*,go_sem,muA,msA,stA,smA,Int.reduceBEq,Int.reduceBNe]
    refine ai.nil a ?_;try simp only[go_sem]
    repeat refine ay (a _) ?_
    refine cP a ?_
    refine ai.bp (hJ _ rfl) 5 (n:=1) _ rfl rfl ?_;simp only[*,go_sem,muA,msA,stA,smA,Int.reduceBEq,Int.reduceBNe]
    refine sU old (old - 8+2) sP j ⟨_,_,_,rfl,(by first|rfl|simp only[*,go_sem,Int.reduceBEq,Int.reduceBNe]),rfl,by first|(simp only[*,go_sem,muA,msA,stA,smA,Int.reduceBEq,Int.reduceBNe];done)|(simp only[*,go_sem,muA,msA,stA,smA,Int.reduceBEq,Int.reduceBNe];rfl),rfl⟩ (by rfl) (by simp) (fun φ ms R T U V l he hi hm=>?_) (fun φ mu ms R T U V l he hi hm X=>?_)
    ·obtain ⟨rfl,rfl,rfl,rfl⟩:=hm.st.uniq hw.st
     refine ⟨.nW,⟨_,_,_,_,l,GZ hm hi _ (by rw[he]) rfl rfl rfl rfl k⟩,?_⟩
     refine ai.nil a ?_;try simp only[go_sem]
     repeat refine ay (a _) ?_
     refine cO (a _) (by simp only[*,go_sem,Int.reduceBEq,Int.reduceBNe]) ?_
     repeat refine ay (a _) ?_
     refine cP a ?_
     refine ai.bp (hJ _ rfl) 3 (n:=1) _ rfl rfl ?_;simp only[*,go_sem,muA,msA,stA,smA,Int.reduceBEq,Int.reduceBNe]
     refine BM (.bool false) (.int .i64 2) Bz j ⟨_,_,_,rfl,(by first|rfl|simp only[*,go_sem,Int.reduceBEq,Int.reduceBNe]),rfl,by first|(simp only[*,go_sem,muA,msA,stA,smA,Int.reduceBEq,Int.reduceBNe];done)|(simp only[*,go_sem,muA,msA,stA,smA,Int.reduceBEq,Int.reduceBNe];rfl),rfl⟩ (by rfl) (by simp) ?_
     refine ai.nil a ?_;try simp only[go_sem]
     refine eX ?_;try simp only[go_sem]
     exact oa rfl (by simp only[*,go_sem]) ⟨rfl,rfl,rfl⟩
    ·obtain ⟨Y,a0,Z⟩:=G0 hm hi {mp:=.fN mu (bH n φ ms),gp:=.cnt,stored:=st,deaf:=1} (by rw[he]) rfl
     have a2:bH n φ ms<G:=Z X
     refine ⟨.fN mu (bH n φ ms),⟨_,_,_,_,l,Y⟩,?_⟩
     refine ai.nil a ?_;try simp only[go_sem]
     repeat refine ay (a _) ?_
     refine cv (a _) (by simp only[*,go_sem,Int.reduceBEq,Int.reduceBNe]) ?_
     refine cx (a _) ?_;try simp only[go_sem]
     repeat refine ay (a _) ?_
     refine cP a ?_
     refine ai.bp (hJ _ rfl) 3 (n:=2) _ rfl rfl ?_;simp only[*,go_sem,muA,msA,stA,smA,Int.reduceBEq,Int.reduceBNe]
     refine oe HO ob ⟨_,rfl,(by first|rfl|simp only[*,go_sem,Int.reduceBEq,Int.reduceBNe]),rfl,rfl⟩ (by rfl) (by simp only[*,go_sem,muA,msA,stA,smA,Int.reduceBEq,Int.reduceBNe]) (fun c g d o p q r H I J e=>?_)
     have K:=wd e.st (by have:=e.bound;simp only[CY] at this;omega)
     by_cases b:p=0/\r=0/\q=0/\0<o
     ·obtain ⟨t,u,_⟩:=Bb e J {mp:=.fN g (bH n c d),gp:=.cnt,stored:=st,deaf:=1} (by rw[I]) (.inl ⟨b.1,b.2.1,b.2.2.1,b.2.2.2,rfl⟩)
      have ab:bH n c d<=bH n φ ms:=u
      refine ⟨.fN g (bH n c d),⟨_,_,_,_,H,t⟩,?_⟩
      refine ai.bp (hJ _ rfl) 1 (n:=0) _ rfl rfl ?_;simp only[*,go_sem,muA,msA,stA,smA,Int.reduceBEq,Int.reduceBNe]
      refine ai.nil a ?_;try simp only[go_sem]
      exact ⟨bH n c d,by omega,g,o,p,q,r,bH n c d,rfl,(by simp only[*,go_sem,muA,msA,stA,smA,Int.reduceBEq,Int.reduceBNe]),(by simp only[*,go_sem,muA,msA,stA,smA,Int.reduceBEq,Int.reduceBNe]),(by simp only[*,go_sem,muA,msA,stA,smA,Int.reduceBEq,Int.reduceBNe]),(by simp only[*,go_sem,muA,msA,stA,smA,Int.reduceBEq,Int.reduceBNe]),K,e.bound,Nat.le_refl _,.inl ⟨b.1,b.2.1,b.2.2.1,b.2.2.2,rfl⟩⟩
     ·obtain ⟨t,u,_⟩:=Bb e J {mp:=.fin,gp:=.cnt,stored:=st,deaf:=1} (by rw[I]) (.inr ⟨b,rfl⟩)
      have ab:bH n c d<=bH n φ ms:=u
      refine ⟨.fin,⟨_,_,_,_,H,t⟩,?_⟩
      refine ai.bp (hJ _ rfl) 1 (n:=0) _ rfl rfl ?_;simp only[*,go_sem,muA,msA,stA,smA,Int.reduceBEq,Int.reduceBNe]
      refine ai.nil a ?_;try simp only[go_sem]
      exact ⟨bH n c d,by omega,g,o,p,q,r,bH n c d,rfl,(by simp only[*,go_sem,muA,msA,stA,smA,Int.reduceBEq,Int.reduceBNe]),(by simp only[*,go_sem,muA,msA,stA,smA,Int.reduceBEq,Int.reduceBNe]),(by simp only[*,go_sem,muA,msA,stA,smA,Int.reduceBEq,Int.reduceBNe]),(by simp only[*,go_sem,muA,msA,stA,smA,Int.reduceBEq,Int.reduceBNe]),K,e.bound,Nat.le_refl _,.inr ⟨b,rfl⟩⟩
   ·
    by_cases k:C=0
    ·have E:((C:Int)==0)=true:=by simp[k]
     repeat refine ay (a _) ?_
     refine cP a ?_
     refine ai.bp (hJ _ rfl) 1 (n:=7) _ rfl rfl ?_;simp only[*,go_sem,muA,msA,stA,smA,Int.reduceBEq,Int.reduceBNe]
     refine ai.mE old (C:Int) (a _) ⟨_,rfl,(by first|rfl|simp only[*,go_sem,Int.reduceBEq,Int.reduceBNe]),rfl,rfl⟩ (by simp only[*,go_sem,muA,msA,stA,smA,Int.reduceBEq,Int.reduceBNe]) (by simp only[*,go_sem,muA,msA,stA,smA,Int.reduceBEq,Int.reduceBNe]) hw.sh ?_
     refine ai.bp (hJ _ rfl) 6 (n:=0) _ rfl rfl ?_;simp only[*,go_sem,muA,msA,stA,smA,Int.reduceBEq,Int.reduceBNe]
     refine ai.nil a ?_;try simp only[go_sem]
     repeat refine ay (a _) ?_
     refine cO (a _) (by simp only[*,go_sem,Int.reduceBEq,Int.reduceBNe]) ?_
     refine eX ?_;try simp only[go_sem]
     exact oa rfl (by simp only[*,go_sem]) ⟨rfl,rfl,rfl⟩
    ·have E:((C:Int)==0)=false:=by simp;omega
     have P:=hw.a7
     have a3:(((4*S+(2*W+L):Nat):Int) != 0)=true:=by simp;omega
     repeat refine ay (a _) ?_
     refine cP a ?_
     refine ai.bp (hJ _ rfl) 1 (n:=7) _ rfl rfl ?_;simp only[*,go_sem,muA,msA,stA,smA,Int.reduceBEq,Int.reduceBNe]
     refine ai.mE old (C:Int) (a _) ⟨_,rfl,(by first|rfl|simp only[*,go_sem,Int.reduceBEq,Int.reduceBNe]),rfl,rfl⟩ (by simp only[*,go_sem,muA,msA,stA,smA,Int.reduceBEq,Int.reduceBNe]) (by simp only[*,go_sem,muA,msA,stA,smA,Int.reduceBEq,Int.reduceBNe]) hw.sh ?_
     refine ai.bp (hJ _ rfl) 6 (n:=0) _ rfl rfl ?_;simp only[*,go_sem,muA,msA,stA,smA,Int.reduceBEq,Int.reduceBNe]
     refine ai.nil a ?_;try simp only[go_sem]
     repeat refine ay (a _) ?_
     refine cO (a _) (by simp only[*,go_sem,Int.reduceBEq,Int.reduceBNe]) ?_
     refine eX ?_;try simp only[go_sem]
     exact oa rfl (by simp only[*,go_sem]) ⟨rfl,rfl,rfl⟩
theorem H6 (d:Mu≠Wg/\Mu≠Is/\Wg≠Is)(f:n<67108864):
  cw Tryz.prog (WJ (CY Mu Wg Is n bs base T0) i) 166 #[.pointer (some (muA Mu))] F ⟨.held,.cnt,st,0⟩ (fun v F' aJ=>v= .tuple #[]/\F'=F/\aJ=⟨.fin,.cnt,st,0⟩):=by
 have a:=WJ.dX (CY Mu Wg Is n bs base T0) i
 have hJ:∀ph:Ph,ph.gp= .cnt->Go.Sep.Closed Tryz.prog false (WJ (CY Mu Wg Is n bs base T0) i ph):=fun ph h=>Wk.closed (CY Mu Wg Is n bs base T0) i ph h
 refine cw.go (main:=false) a Tryz.func166 rfl Tryz.ntmps166 (by simp) fun A t hd hs=>?_
 have u:=hs 0
 clear hs
 repeat refine ay (a _) ?_
 refine cO (a _) (by simp only[*,go_sem,Int.reduceBEq,Int.reduceBNe]) ?_
 repeat refine ay (a _) ?_
 refine cP a ?_
 refine ai.bp (hJ _ rfl) 3 (n:=1) _ rfl rfl ?_;simp only[*,go_sem,muA,msA,stA,smA,Int.reduceBEq,Int.reduceBNe]
 refine oe HN ob ⟨_,rfl,(by first|rfl|simp only[*,go_sem,Int.reduceBEq,Int.reduceBNe]),rfl,rfl⟩ (by rfl) (by simp only[*,go_sem,muA,msA,stA,smA,Int.reduceBEq,Int.reduceBNe]) (fun x y z B D E G g j k l=>⟨.held,⟨_,_,_,_,g,mA l k _ (.inl (by rw[j]))⟩,?_⟩)
 refine ai.nil a ?_;try simp only[go_sem]
 repeat refine ay (a _) ?_
 refine cP a ?_
 refine ai.bp (hJ _ rfl) 1 (n:=2) _ rfl rfl ?_;simp only[*,go_sem,muA,msA,stA,smA,Int.reduceBEq,Int.reduceBNe]
 refine sV ⟨Mu,0,none⟩ wS kQ wU ⟨_,rfl,(by first|rfl|simp only[*,go_sem,Int.reduceBEq,Int.reduceBNe]),rfl,rfl⟩ (by simp) (by simp only[*,go_sem,muA,msA,stA,smA,Int.reduceBEq,Int.reduceBNe]) w8 ?_
 refine HS By ⟨_,_,_,rfl,(by first|rfl|simp only[*,go_sem,Int.reduceBEq,Int.reduceBNe]),rfl,by first|(simp only[*,go_sem,muA,msA,stA,smA,Int.reduceBEq,Int.reduceBNe];done)|(simp only[*,go_sem,muA,msA,stA,smA,Int.reduceBEq,Int.reduceBNe];rfl),rfl⟩ (by rfl) ?_
 refine ai.nil a ?_;try simp only[go_sem]
 repeat refine ay (a _) ?_
 refine cP a ?_
 refine w6 qn ⟨_,_,_,rfl,(by first|rfl|simp only[*,go_sem,Int.reduceBEq,Int.reduceBNe]),rfl,by first|(simp only[*,go_sem,muA,msA,stA,smA,Int.reduceBEq,Int.reduceBNe];done)|(simp only[*,go_sem,muA,msA,stA,smA,Int.reduceBEq,Int.reduceBNe];rfl),rfl⟩ (by simp) (by simp) ?_
 refine ai.nil a ?_;try simp only[go_sem]
 repeat refine ay (a _) ?_
 refine cP a ?_
 refine ai.bp (hJ _ rfl) 3 (n:=2) _ rfl rfl ?_;simp only[*,go_sem,muA,msA,stA,smA,Int.reduceBEq,Int.reduceBNe]
 refine w7 (-1) wQ d ⟨_,_,_,rfl,(by first|rfl|simp only[*,go_sem,Int.reduceBEq,Int.reduceBNe]),rfl,by first|(simp only[*,go_sem,muA,msA,stA,smA,Int.reduceBEq,Int.reduceBNe];done)|(simp only[*,go_sem,muA,msA,stA,smA,Int.reduceBEq,Int.reduceBNe];rfl),rfl⟩ (by rfl) (by simp) (fun φ mu ms C S W L m he hi hm=>?_)
 have o:=Ba hm hi (by rw[he])
 subst o
 have hb:C<=3*n:=hm.bound
 have p:=hm.st.s
 have hW:=hm.st.w
 have b:IntKind.i32.wrap (mu+ -1)=mu - 1:=by have e0:=hm.st.eq;exact g7 (by omega) (by omega)
 have e:St (mu - 1) C S W 0:=⟨by have e0:=hm.st.eq;omega,by omega,hW,p⟩
 have hw:Wd (mu - 1) C S W 0:=wd e (by omega)
 have c:cg n (upd φ i ⟨iP C S W (mu - 1) (sm n φ Mp.wt+2*m),.cnt,st,1⟩) (mu - 1) ms C S W 0 m:=by
  refine GY hm hi _ (by rw[he]) ?_
  by_cases h1:S=1
  ·exact .inl ⟨h1,by simp[iP,h1]⟩
  ·by_cases h2:0<C/\W=0
   ·exact .inr (.inl ⟨by omega,h2.1,h2.2,by simp[iP,h1,h2]⟩)
   ·exact .inr (.inr ⟨by omega,by omega,by simp[iP,h1,h2]⟩)
 refine ⟨iP C S W (mu - 1) (sm n φ Mp.wt+2*m),mu - 1,b,⟨_,_,_,_,m,c⟩,?_⟩
 refine ai.bp (hJ _ rfl) 1 (n:=0) _ rfl rfl ?_;simp only[*,go_sem,muA,msA,stA,smA,Int.reduceBEq,Int.reduceBNe]
 refine ai.nil a ?_;try simp only[go_sem]
 by_cases h0:mu - 1=0
 ·have e0:=e.eq
  have q:iP C S W (mu - 1) (sm n φ Mp.wt+2*m)= .fin:=by
   have:C=0:=by omega
   have:S=0:=by omega
   simp[iP, *]
  clear hw c b e0
  rw[q]
  rw[h0]
  repeat refine ay (a _) ?_
  refine cP a ?_
  refine ai.bp (hJ _ rfl) 2 (n:=0) _ rfl rfl ?_;simp only[*,go_sem,muA,msA,stA,smA,Int.reduceBEq,Int.reduceBNe]
  refine ai.nil a ?_;try simp only[go_sem]
  repeat refine ay (a _) ?_
  refine cv (a _) (by simp only[*,go_sem,Int.reduceBEq,Int.reduceBNe]) ?_
  refine cx (a _) ?_;try simp only[go_sem]
  repeat refine ay (a _) ?_
  refine cP a ?_
  refine sS kP ⟨_,_,_,rfl,(by first|rfl|simp only[*,go_sem,Int.reduceBEq,Int.reduceBNe]),rfl,by first|(simp only[*,go_sem,muA,msA,stA,smA,Int.reduceBEq,Int.reduceBNe];done)|(simp only[*,go_sem,muA,msA,stA,smA,Int.reduceBEq,Int.reduceBNe];rfl),rfl⟩ (by simp) (by simp) rfl ?_
  refine ai.nil a ?_;try simp only[go_sem]
  exact kN rfl (by simp only[*,go_sem]) ⟨rfl,rfl,rfl⟩
 ·have H:(mu - 1 != 0)=true:=by simpa using h0
  clear c b h0
  repeat refine ay (a _) ?_
  refine cP a ?_
  refine ai.bp (hJ _ rfl) 2 (n:=0) _ rfl rfl ?_;simp only[*,go_sem,muA,msA,stA,smA,Int.reduceBEq,Int.reduceBNe]
  refine ai.nil a ?_;try simp only[go_sem]
  repeat refine ay (a _) ?_
  refine cO (a _) (by simp only[*,go_sem,Int.reduceBEq,Int.reduceBNe]) ?_
  repeat refine ay (a _) ?_
  refine cP a ?_
  refine ai.bp (hJ _ rfl) 2 (n:=1) _ rfl rfl ?_;simp only[*,go_sem,muA,msA,stA,smA,Int.reduceBEq,Int.reduceBNe]
  refine ai.fB (a _) rfl rfl rfl Dp (by simp only[*,go_sem,muA]) (HZ d f hw hb) fun v F' aJ r=>?_
  obtain ⟨rfl,rfl,rfl⟩:=r
  refine ai.nil a ?_;try simp only[go_sem]
  repeat refine ay (a _) ?_
  refine cP a ?_
  refine sS kP ⟨_,_,_,rfl,(by first|rfl|simp only[*,go_sem,Int.reduceBEq,Int.reduceBNe]),rfl,by first|(simp only[*,go_sem,muA,msA,stA,smA,Int.reduceBEq,Int.reduceBNe];done)|(simp only[*,go_sem,muA,msA,stA,smA,Int.reduceBEq,Int.reduceBNe];rfl),rfl⟩ (by simp) (by simp) rfl ?_
  refine ai.nil a ?_;try simp only[go_sem]
  exact kN rfl (by simp only[*,go_sem]) ⟨rfl,rfl,rfl⟩
end
end Go.Proofs.YtipgiooobncfbaaGreatDoor
end
section
namespace Go.Sep
open Go Go.Conc
def sW {S:Type}(b:Act->ag->S->Prop)(Q:Ex->Act->ag->S->Prop):Ex->Act->ag->S->Prop
 | .normal,a,F,ph=>b a F ph
 |e,a,F,ph=>Q e a F ph
attribute [go_sem] sW
theorem jW {P:Program}{main:Bool}{S:Type}{JF:S->Goroutine->ag->Prop}{fi:FuncId}{Q:Ex->Act->ag->S->Prop}{a:Act}{F:ag}{ph:S}(c:∀ph,dH P main (JF ph)){x y:Code}(b:Act->ag->S->Prop)
  (h1:cC JF fi x (sW b Q) a F ph) (h2:∀a F ph,b a F ph->cC JF fi y Q a F ph):cC JF fi (.seq x y) Q a F ph:=
 ay (c _) (h1.mono fun e a F ph h=>by
  cases e with
  |normal=>exact h2 a F ph h
  |exit i=>exact h
  |ret=>exact h)
theorem sX {P:Program}{main:Bool}{S:Type}{JF:S->Goroutine->ag->Prop}{fi:FuncId}{Q:Ex->Act->ag->S->Prop}{a:Act}{F:ag}{ph:S}(c:∀ph,dH P main (JF ph)){x:Code}(b:Act->ag->S->Prop)
  (h1:cC JF fi x (sW b Q) a F ph) (h2:∀a F ph,b a F ph->Q .normal a F ph):cC JF fi x Q a F ph:=
 h1.mono fun e a F ph h=>by
  cases e with
  |normal=>exact h2 a F ph h
  |exit i=>exact h
  |ret=>exact h
theorem aW {P:Program}{main:Bool}{S:Type}{JF:S->Goroutine->ag->Prop}{fi:FuncId}{Q:Ex->Act->ag->S->Prop}{a:Act}{F:ag}{ph:S}(b:∀ph,dH P main (JF ph)){id:Nat}{ops:Array Oper}
  (h:∀K:Act->ag->S->Prop,(∀a F ph,Q .normal a F ph->K a F ph)->ai JF fi ops 0 ops.size K a F ph):cC JF fi (.region id ops false) Q a F ph:=cP b (h _ fun _ _ _ h=>h)
theorem eg {S:Type}{b:Act->ag->S->Prop}{Q:Ex->Act->ag->S->Prop}{a:Act}{F:ag}{ph:S}(h:b a F ph):sW b Q .normal a F ph:=h
theorem iI {S:Type}{I:Nat->Act->ag->S->Prop}{n:Nat}{Q:Ex->Act->ag->S->Prop}{a:Act}{F:ag}{ph:S}(h:∃m,m<n/\I m a F ph):wO I n Q .normal a F ph:=h
theorem H7 {x:Int}(h1: -9223372036854775808<=x)(h2:x<9223372036854775808):IntKind.i64.wrap x=x:=by
 unfold IntKind.wrap
 simp[IntKind.bits,IntKind.signed]
 omega
end Go.Sep
namespace Go.Proofs.YtipgiooobncfbaaGreatDoor
open Go Go.Sep Go.Proofs Go.Conc
open Go.ConcN (upd upd_same)
open Go.ConcM (muA msA)
open Go.ConcR (stA smA)
set_option maxRecDepth 100000
set_option maxHeartbeats 8000000
set_option linter.all false
def sY (Mu n:Nat)(st:Bool)(F:ag)(m:Nat)(a:Act)(F':ag)(ph:Ph):Prop:=
 ∃(wt it old:Int) (sv aw:Bool) (C S W L G:Nat),F'=F/\slot a 0= .pointer (some ⟨Mu,0,none⟩)/\slot a 2= .int .i64 wt/\slot a 3= .bool sv/\slot a 4= .bool aw/\slot a 5= .int .i64 it/\slot a 6= .int .i32 old/\sz a=139/\a.defers=[]/\
  Wd old C S W L/\C<=3*n/\0<=it/\it<=4/\(sv=true->aw=true)/\(aw=true->S=0/\W=1)/\8*G+(5 - it).toNat<=m/\ph=⟨.want aw old G,.cnt,st,1⟩
def sZ (Mu:Nat)(st:Bool)(F:ag)(a:Act)(F':ag)(ph:Ph):Prop:=F'=F/\slot a 0= .pointer (some ⟨Mu,0,none⟩)/\sz a=139/\a.defers=[]/\ph=⟨.held,.cnt,st,1⟩
def H8 (Mu:Nat)(st:Bool)(F:ag)(wt it:Int)(sv:Bool)(G:Nat)(a:Act)(F':ag)(ph:Ph):Prop:=
 ∃(aw:Bool) (o:Int) (b:Nat),F'=F/\slot a 0= .pointer (some ⟨Mu,0,none⟩)/\slot a 2= .int .i64 wt/\slot a 3= .bool sv/\slot a 4= .bool aw/\slot a 5= .int .i64 it/\sz a=139/\a.defers=[]/\(sv=true->aw=true)/\b<=G/\ph=⟨.want aw o b,.cnt,st,1⟩
def qq (Mu:Nat)(st:Bool)(F:ag)(wt it old:Int)(x:Option Int)(sv aw:Bool)(G:Nat)(a:Act)(F':ag)(ph:Ph):Prop:=
 F'=F/\slot a 0= .pointer (some ⟨Mu,0,none⟩)/\slot a 2= .int .i64 wt/\slot a 3= .bool sv/\slot a 4= .bool aw/\slot a 5= .int .i64 it/\slot a 6= .int .i32 old/\(∀y,x=some y->slot a 7= .int .i32 y)/\sz a=139/\a.defers=[]/\ph=⟨.want aw old G,.cnt,st,1⟩
def BO (Mu:Nat)(st:Bool)(F:ag)(sv:Bool)(mp:Mp)(a:Act)(F':ag)(ph:Ph):Prop:=
 ∃wt:Int,F'=F/\slot a 0= .pointer (some ⟨Mu,0,none⟩)/\slot a 2= .int .i64 wt/\slot a 3= .bool sv/\sz a=139/\a.defers=[]/\ph=⟨mp,.cnt,st,1⟩
def BP (Mu:Nat)(st:Bool)(F:ag)(mp:Mp)(a:Act)(F':ag)(ph:Ph):Prop:=
 ∃(wt:Int) (sv:Bool),F'=F/\slot a 0= .pointer (some ⟨Mu,0,none⟩)/\slot a 2= .int .i64 wt/\slot a 3= .bool sv/\sz a=139/\a.defers=[]/\ph=⟨mp,.cnt,st,1⟩
def H9 (Mu:Nat)(st:Bool)(F:ag)(y:Bool)(a:Act)(F':ag)(ph:Ph):Prop:=
 ∃e:Bool,F'=F/\slot a 0= .pointer (some ⟨Mu,0,none⟩)/\slot a 9= .int .i32 (-7)/\slot a 123= .bool e/\sz a=139/\a.defers=[]/\(e=false->y=true)/\ph=⟨.jT y,.cnt,st,1⟩
section
variable {Mu Wg Is n base T0 i : Nat} {bs : Nat → Bool} {st : Bool} {F : ag}
theorem Ia (a6:Mu≠Wg/\Mu≠Is/\Wg≠Is)(e3:n<67108864):
  cw Tryz.prog (WJ (CY Mu Wg Is n bs base T0) i) 183 #[.pointer (some (muA Mu))] F ⟨.idle,.cnt,st,1⟩ (fun v F' aJ=>v= .tuple #[]/\F'=F/\aJ=⟨.held,.cnt,st,0⟩):=by
 have a:=WJ.dX (CY Mu Wg Is n bs base T0) i
 have hJ:∀ph:Ph,ph.gp= .cnt->Go.Sep.Closed Tryz.prog false (WJ (CY Mu Wg Is n bs base T0) i ph):=fun ph h=>Wk.closed (CY Mu Wg Is n bs base T0) i ph h
 refine cw.go (main:=false) a Tryz.func183 rfl Tryz.ntmps183 (by simp) fun A d hd hs=>?_
 have f:=hs 0
 clear hs
 repeat refine ay (a _) ?_
 refine aW a fun K b=>?_
 refine ai.bp (hJ _ rfl) 1 (n:=0) _ rfl rfl ?_;simp only[*,go_sem,-b,-a,-hJ,muA,msA,stA,smA,Int.reduceBEq,Int.reduceBNe]
 refine ai.nil a (b _ _ _ ?_);clear b K
 repeat refine ay (a _) ?_
 refine aW a fun K b=>?_
 refine ai.bp (hJ _ rfl) 1 (n:=0) _ rfl rfl ?_;simp only[*,go_sem,-b,-a,-hJ,muA,msA,stA,smA,Int.reduceBEq,Int.reduceBNe]
 refine ai.nil a (b _ _ _ ?_);clear b K
 repeat refine ay (a _) ?_
 refine aW a fun K b=>?_
 refine ai.bp (hJ _ rfl) 1 (n:=0) _ rfl rfl ?_;simp only[*,go_sem,-b,-a,-hJ,muA,msA,stA,smA,Int.reduceBEq,Int.reduceBNe]
 refine ai.nil a (b _ _ _ ?_);clear b K
 repeat refine ay (a _) ?_
 refine aW a fun K b=>?_
 refine ai.bp (hJ _ rfl) 1 (n:=0) _ rfl rfl ?_;simp only[*,go_sem,-b,-a,-hJ,muA,msA,stA,smA,Int.reduceBEq,Int.reduceBNe]
 refine ai.nil a (b _ _ _ ?_);clear b K
 repeat refine ay (a _) ?_
 refine aW a fun K b=>?_
 refine ai.bp (hJ _ rfl) 3 (n:=2) _ rfl rfl ?_;simp only[*,go_sem,-b,-a,-hJ,muA,msA,stA,smA,Int.reduceBEq,Int.reduceBNe]
 refine oe sQ ob ⟨_,rfl,(by first|(simp only[*,go_sem,-b,-a,-hJ];done)|rfl),rfl,rfl⟩ (by rfl) (by simp only[*,go_sem,-b,-a,-hJ,muA,msA,stA,smA,Int.reduceBEq,Int.reduceBNe]) (fun φ mu ms C S W L m he hi hm=>⟨.want false mu (bH n φ ms),⟨_,_,_,_,m,GP hm hi _ (by rw[he]) rfl⟩,?_⟩)
 have hw:=wd hm.st (by have:C<=3*n:=hm.bound;omega)
 have hC:C<=3*n:=hm.bound
 refine ai.bp (hJ _ rfl) 1 (n:=0) _ rfl rfl ?_;simp only[*,go_sem,-b,-a,-hJ,muA,msA,stA,smA,Int.reduceBEq,Int.reduceBNe]
 refine ai.nil a (b _ _ _ ?_);clear b K
 refine jW a (sZ Mu st F) ?_ ?_
 ·repeat refine ay (a _) ?_
  refine jl a ?_
  refine qm a (sY Mu n st F) (8*bH n φ ms+5) ?_ ?_
  ·exact ⟨0,0,mu,false,false,C,S,W,L,bH n φ ms,rfl,(by simp only[*,go_sem,-a,-hJ,muA,msA,stA,smA,Int.reduceBEq,Int.reduceBNe]),(by simp only[*,go_sem,-a,-hJ,muA,msA,stA,smA,Int.reduceBEq,Int.reduceBNe]),(by simp only[*,go_sem,-a,-hJ,muA,msA,stA,smA,Int.reduceBEq,Int.reduceBNe]),(by simp only[*,go_sem,-a,-hJ,muA,msA,stA,smA,Int.reduceBEq,Int.reduceBNe]),(by simp only[*,go_sem,-a,-hJ,muA,msA,stA,smA,Int.reduceBEq,Int.reduceBNe]),(by simp only[*,go_sem,-a,-hJ,muA,msA,stA,smA,Int.reduceBEq,Int.reduceBNe]),(by simp only[*,go_sem,-a,-hJ,muA,msA,stA,smA,Int.reduceBEq,Int.reduceBNe]),(by simp only[*,go_sem,-a,-hJ,muA,msA,stA,smA,Int.reduceBEq,Int.reduceBNe]),hw,hC,by omega,by omega,by simp,by simp,by simp,rfl⟩
  ·clear hw hC hm hi he d hd f
   rintro m A F' aJ ⟨wt,it,old,sv,aw,C,S,W,L,G,rfl,f,k,o,z,D,I,d,hd,hw,hC,fa,fb,V,X,fg,rfl⟩
   have cS:S=0\/S=1:=by have:=hw.st.s;omega
   have a7:L=0\/L=1:=by have:=hw.st.l;omega
   have bd:W=0\/W=1:=by have:=hw.st.w;omega
   repeat refine ay (a _) ?_
   refine jl a ?_
   refine jW a (qq Mu st F' wt it old none sv aw G) ?_ ?_
   ·
    by_cases Y:S=0/\L=1
    ·obtain ⟨rfl,rfl⟩:=Y
     have b5:dG old 5=1:=hw.a5
     repeat refine ay (a _) ?_
     refine aW a fun K b=>?_
     refine ai.bp (hJ _ rfl) 5 (n:=2) _ rfl rfl ?_;simp only[*,go_sem,-b,-a,-hJ,muA,msA,stA,smA,Int.reduceBEq,Int.reduceBNe]
     refine HV it HE ⟨_,_,_,rfl,(by first|(simp only[*,go_sem,-b,-a,-hJ];done)|rfl),rfl,by first|(simp only[*,go_sem,-b,-a,-hJ,muA,msA,stA,smA,Int.reduceBEq,Int.reduceBNe];done)|(simp only[*,go_sem,-b,-a,-hJ,muA,msA,stA,smA,Int.reduceBEq,Int.reduceBNe];rfl),rfl⟩ (by simp) fun t ht=>?_
     refine ai.bp (hJ _ rfl) 1 (n:=0) _ rfl rfl ?_;simp only[*,go_sem,-b,-a,-hJ,muA,msA,stA,smA,Int.reduceBEq,Int.reduceBNe]
     refine ai.nil a (b _ _ _ ?_);clear b K
     cases t
     ·repeat refine ay (a _) ?_
      refine cv (a _) (by simp only[*,go_sem,-a,-hJ,Int.reduceBEq,Int.reduceBNe]) ?_
      refine cx (a _) ?_
      exact eg ⟨rfl,(by simp only[*,go_sem,-a,-hJ,muA,msA,stA,smA,Int.reduceBEq,Int.reduceBNe]),(by simp only[*,go_sem,-a,-hJ,muA,msA,stA,smA,Int.reduceBEq,Int.reduceBNe]),(by simp only[*,go_sem,-a,-hJ,muA,msA,stA,smA,Int.reduceBEq,Int.reduceBNe]),(by simp only[*,go_sem,-a,-hJ,muA,msA,stA,smA,Int.reduceBEq,Int.reduceBNe]),(by simp only[*,go_sem,-a,-hJ,muA,msA,stA,smA,Int.reduceBEq,Int.reduceBNe]),(by simp only[*,go_sem,-a,-hJ,muA,msA,stA,smA,Int.reduceBEq,Int.reduceBNe]),by simp,(by simp only[*,go_sem,-a,-hJ,muA,msA,stA,smA,Int.reduceBEq,Int.reduceBNe]),(by simp only[*,go_sem,-a,-hJ,muA,msA,stA,smA,Int.reduceBEq,Int.reduceBNe]),rfl⟩
     ·have fi:=ht rfl
      repeat refine ay (a _) ?_
      refine cO (a _) (by simp only[*,go_sem,-a,-hJ,Int.reduceBEq,Int.reduceBNe]) ?_
      refine jW a (H8 Mu st F' wt it sv G) ?_ ?_
      ·cases aw
       ·obtain rfl:sv=false:=by cases sv<;>simp_all
        rcases bd with rfl|rfl
        ·have b2:dG old 2=0:=hw.a2
         by_cases dE:C=0
         ·have br:((C:Int) != 0)=false:=by simp[dE]
          repeat refine ay (a _) ?_
          refine aW a fun K b=>?_
          refine ai.bp (hJ _ rfl) 9 (n:=12) _ rfl rfl ?_;simp only[*,go_sem,-b,-a,-hJ,muA,msA,stA,smA,Int.reduceBEq,Int.reduceBNe]
          refine ai.mE old (C:Int) (a _) ⟨_,rfl,(by first|(simp only[*,go_sem,-b,-a,-hJ];done)|rfl),rfl,rfl⟩ (by simp only[*,go_sem,-b,-a,-hJ,muA,msA,stA,smA,Int.reduceBEq,Int.reduceBNe]) (by simp only[*,go_sem,-b,-a,-hJ,muA,msA,stA,smA,Int.reduceBEq,Int.reduceBNe]) hw.sh ?_
          refine ai.bp (hJ _ rfl) 11 (n:=0) _ rfl rfl ?_;simp only[*,go_sem,-b,-a,-hJ,muA,msA,stA,smA,Int.reduceBEq,Int.reduceBNe]
          refine ai.nil a (b _ _ _ ?_);clear b K
          repeat refine ay (a _) ?_
          refine cv (a _) (by simp only[*,go_sem,-a,-hJ,Int.reduceBEq,Int.reduceBNe]) ?_
          refine cx (a _) ?_
          exact eg ⟨false,old,G,rfl,(by simp only[*,go_sem,-a,-hJ,muA,msA,stA,smA,Int.reduceBEq,Int.reduceBNe]),(by simp only[*,go_sem,-a,-hJ,muA,msA,stA,smA,Int.reduceBEq,Int.reduceBNe]),(by simp only[*,go_sem,-a,-hJ,muA,msA,stA,smA,Int.reduceBEq,Int.reduceBNe]),(by simp only[*,go_sem,-a,-hJ,muA,msA,stA,smA,Int.reduceBEq,Int.reduceBNe]),(by simp only[*,go_sem,-a,-hJ,muA,msA,stA,smA,Int.reduceBEq,Int.reduceBNe]),(by simp only[*,go_sem,-a,-hJ,muA,msA,stA,smA,Int.reduceBEq,Int.reduceBNe]),(by simp only[*,go_sem,-a,-hJ,muA,msA,stA,smA,Int.reduceBEq,Int.reduceBNe]),by simp,Nat.le_refl _,rfl⟩
         ·have br:((C:Int) != 0)=true:=by simp;omega
          have o2:iK old 2=old+2:=hw.o2
          repeat refine ay (a _) ?_
          refine aW a fun K b=>?_
          refine ai.bp (hJ _ rfl) 9 (n:=12) _ rfl rfl ?_;simp only[*,go_sem,-b,-a,-hJ,muA,msA,stA,smA,Int.reduceBEq,Int.reduceBNe]
          refine ai.mE old (C:Int) (a _) ⟨_,rfl,(by first|(simp only[*,go_sem,-b,-a,-hJ];done)|rfl),rfl,rfl⟩ (by simp only[*,go_sem,-b,-a,-hJ,muA,msA,stA,smA,Int.reduceBEq,Int.reduceBNe]) (by simp only[*,go_sem,-b,-a,-hJ,muA,msA,stA,smA,Int.reduceBEq,Int.reduceBNe]) hw.sh ?_
          refine ai.bp (hJ _ rfl) 9 (n:=2) _ rfl rfl ?_;simp only[*,go_sem,-b,-a,-hJ,muA,msA,stA,smA,Int.reduceBEq,Int.reduceBNe]
          refine sU old (old+2) sP a6 ⟨_,_,_,rfl,(by first|(simp only[*,go_sem,-b,-a,-hJ];done)|rfl),rfl,by first|(simp only[*,go_sem,-b,-a,-hJ,muA,msA,stA,smA,Int.reduceBEq,Int.reduceBNe];done)|(simp only[*,go_sem,-b,-a,-hJ,muA,msA,stA,smA,Int.reduceBEq,Int.reduceBNe];rfl),rfl⟩ (by rfl) (by simp) (fun φ ms bz al bS Z p he hi hm=>?_) (fun φ mu ms bz al bS Z p he hi hm df=>?_)
          ·obtain ⟨rfl,rfl,rfl,rfl⟩:=hm.st.uniq hw.st
           refine ⟨.want true old G,⟨_,_,_,_,p,GQ hm hi _ (by rw[he]) rfl rfl rfl rfl rfl⟩,?_⟩
           refine ai.bp (hJ _ rfl) 1 (n:=0) _ rfl rfl ?_;simp only[*,go_sem,-b,-a,-hJ,muA,msA,stA,smA,Int.reduceBEq,Int.reduceBNe]
           refine ai.nil a (b _ _ _ ?_);clear b K
           repeat refine ay (a _) ?_
           refine cO (a _) (by simp only[*,go_sem,-a,-hJ,Int.reduceBEq,Int.reduceBNe]) ?_
           repeat refine ay (a _) ?_
           refine aW a fun K b=>?_
           refine ai.bp (hJ _ rfl) 1 (n:=0) _ rfl rfl ?_;simp only[*,go_sem,-b,-a,-hJ,muA,msA,stA,smA,Int.reduceBEq,Int.reduceBNe]
           refine ai.nil a (b _ _ _ ?_);clear b K
           exact eg ⟨true,old,G,rfl,(by simp only[*,go_sem,-a,-hJ,muA,msA,stA,smA,Int.reduceBEq,Int.reduceBNe]),(by simp only[*,go_sem,-a,-hJ,muA,msA,stA,smA,Int.reduceBEq,Int.reduceBNe]),(by simp only[*,go_sem,-a,-hJ,muA,msA,stA,smA,Int.reduceBEq,Int.reduceBNe]),(by simp only[*,go_sem,-a,-hJ,muA,msA,stA,smA,Int.reduceBEq,Int.reduceBNe]),(by simp only[*,go_sem,-a,-hJ,muA,msA,stA,smA,Int.reduceBEq,Int.reduceBNe]),(by simp only[*,go_sem,-a,-hJ,muA,msA,stA,smA,Int.reduceBEq,Int.reduceBNe]),(by simp only[*,go_sem,-a,-hJ,muA,msA,stA,smA,Int.reduceBEq,Int.reduceBNe]),by simp,Nat.le_refl _,rfl⟩
          ·obtain ⟨J,a8,bj⟩:=sF hm hi {mp:=.want false mu (bH n φ ms),gp:=.cnt,stored:=st,deaf:=1} (by rw[he]) rfl
           refine ⟨.want false mu (bH n φ ms),⟨_,_,_,_,p,J⟩,?_⟩
           refine ai.bp (hJ _ rfl) 1 (n:=0) _ rfl rfl ?_;simp only[*,go_sem,-b,-a,-hJ,muA,msA,stA,smA,Int.reduceBEq,Int.reduceBNe]
           refine ai.nil a (b _ _ _ ?_);clear b K
           repeat refine ay (a _) ?_
           refine cv (a _) (by simp only[*,go_sem,-a,-hJ,Int.reduceBEq,Int.reduceBNe]) ?_
           refine cx (a _) ?_
           exact eg ⟨false,mu,bH n φ ms,rfl,(by simp only[*,go_sem,-a,-hJ,muA,msA,stA,smA,Int.reduceBEq,Int.reduceBNe]),(by simp only[*,go_sem,-a,-hJ,muA,msA,stA,smA,Int.reduceBEq,Int.reduceBNe]),(by simp only[*,go_sem,-a,-hJ,muA,msA,stA,smA,Int.reduceBEq,Int.reduceBNe]),(by simp only[*,go_sem,-a,-hJ,muA,msA,stA,smA,Int.reduceBEq,Int.reduceBNe]),(by simp only[*,go_sem,-a,-hJ,muA,msA,stA,smA,Int.reduceBEq,Int.reduceBNe]),(by simp only[*,go_sem,-a,-hJ,muA,msA,stA,smA,Int.reduceBEq,Int.reduceBNe]),(by simp only[*,go_sem,-a,-hJ,muA,msA,stA,smA,Int.reduceBEq,Int.reduceBNe]),by simp,a8,rfl⟩
        ·have b2:dG old 2=2:=hw.a2
         repeat refine ay (a _) ?_
         refine aW a fun K b=>?_
         refine ai.bp (hJ _ rfl) 21 (n:=0) _ rfl rfl ?_;simp only[*,go_sem,-b,-a,-hJ,muA,msA,stA,smA,Int.reduceBEq,Int.reduceBNe]
         refine ai.nil a (b _ _ _ ?_);clear b K
         repeat refine ay (a _) ?_
         refine cv (a _) (by simp only[*,go_sem,-a,-hJ,Int.reduceBEq,Int.reduceBNe]) ?_
         refine cx (a _) ?_
         exact eg ⟨false,old,G,rfl,(by simp only[*,go_sem,-a,-hJ,muA,msA,stA,smA,Int.reduceBEq,Int.reduceBNe]),(by simp only[*,go_sem,-a,-hJ,muA,msA,stA,smA,Int.reduceBEq,Int.reduceBNe]),(by simp only[*,go_sem,-a,-hJ,muA,msA,stA,smA,Int.reduceBEq,Int.reduceBNe]),(by simp only[*,go_sem,-a,-hJ,muA,msA,stA,smA,Int.reduceBEq,Int.reduceBNe]),(by simp only[*,go_sem,-a,-hJ,muA,msA,stA,smA,Int.reduceBEq,Int.reduceBNe]),(by simp only[*,go_sem,-a,-hJ,muA,msA,stA,smA,Int.reduceBEq,Int.reduceBNe]),(by simp only[*,go_sem,-a,-hJ,muA,msA,stA,smA,Int.reduceBEq,Int.reduceBNe]),by simp,Nat.le_refl _,rfl⟩
       ·repeat refine ay (a _) ?_
        refine aW a fun K b=>?_
        refine ai.bp (hJ _ rfl) 21 (n:=0) _ rfl rfl ?_;simp only[*,go_sem,-b,-a,-hJ,muA,msA,stA,smA,Int.reduceBEq,Int.reduceBNe]
        refine ai.nil a (b _ _ _ ?_);clear b K
        repeat refine ay (a _) ?_
        refine cv (a _) (by simp only[*,go_sem,-a,-hJ,Int.reduceBEq,Int.reduceBNe]) ?_
        refine cx (a _) ?_
        exact eg ⟨true,old,G,rfl,(by simp only[*,go_sem,-a,-hJ,muA,msA,stA,smA,Int.reduceBEq,Int.reduceBNe]),(by simp only[*,go_sem,-a,-hJ,muA,msA,stA,smA,Int.reduceBEq,Int.reduceBNe]),(by simp only[*,go_sem,-a,-hJ,muA,msA,stA,smA,Int.reduceBEq,Int.reduceBNe]),(by simp only[*,go_sem,-a,-hJ,muA,msA,stA,smA,Int.reduceBEq,Int.reduceBNe]),(by simp only[*,go_sem,-a,-hJ,muA,msA,stA,smA,Int.reduceBEq,Int.reduceBNe]),(by simp only[*,go_sem,-a,-hJ,muA,msA,stA,smA,Int.reduceBEq,Int.reduceBNe]),(by simp only[*,go_sem,-a,-hJ,muA,msA,stA,smA,Int.reduceBEq,Int.reduceBNe]),by simp,Nat.le_refl _,rfl⟩
      ·clear f k o z D I d hd b5
       rintro A c ab ⟨bk,o2,dT,rfl,f,k,o,z,D,d,hd,ea,fp,rfl⟩
       have fr:IntKind.i64.wrap (it+1)=it+1:=H7 (by omega) (by omega)
       repeat refine ay (a _) ?_
       refine aW a fun K b=>?_
       refine ai.entry _ (a _) HF ⟨_,_,_,rfl,(by first|(simp only[*,go_sem,-b,-a,-hJ];done)|rfl),rfl,by first|(simp only[*,go_sem,-b,-a,-hJ,muA,msA,stA,smA,Int.reduceBEq,Int.reduceBNe];done)|(simp only[*,go_sem,-b,-a,-hJ,muA,msA,stA,smA,Int.reduceBEq,Int.reduceBNe];rfl),rfl⟩ ?_
       refine ai.nil a (b _ _ _ ?_);clear b K
       repeat refine ay (a _) ?_
       refine aW a fun K b=>?_
       refine ai.bp (hJ _ rfl) 3 (n:=0) _ rfl rfl ?_;simp only[*,go_sem,-b,-a,-hJ,muA,msA,stA,smA,Int.reduceBEq,Int.reduceBNe]
       refine ai.nil a (b _ _ _ ?_);clear b K
       repeat refine ay (a _) ?_
       refine aW a fun K b=>?_
       refine ai.bp (hJ _ rfl) 3 (n:=2) _ rfl rfl ?_;simp only[*,go_sem,-b,-a,-hJ,muA,msA,stA,smA,Int.reduceBEq,Int.reduceBNe]
       refine oe sQ ob ⟨_,rfl,(by first|(simp only[*,go_sem,-b,-a,-hJ];done)|rfl),rfl,rfl⟩ (by rfl) (by simp only[*,go_sem,-b,-a,-hJ,muA,msA,stA,smA,Int.reduceBEq,Int.reduceBNe]) (fun φ mu ms P S3 bl b0 b1 he hi hm=>?_)
       obtain ⟨J,a8,bj⟩:=sF hm hi {mp:=.want bk mu (bH n φ ms),gp:=.cnt,stored:=st,deaf:=1} (by rw[he]) rfl
       have ad:=wd hm.st (by have:P<=3*n:=hm.bound;omega)
       have a9:P<=3*n:=hm.bound
       have ca:bH n φ ms<=dT:=a8
       have cb:bk=true->S3=0/\bl=1:=fun e=>by subst e;exact A8 hm hi (by rw[he])
       refine ⟨.want bk mu (bH n φ ms),⟨_,_,_,_,b1,J⟩,?_⟩
       refine ai.bp (hJ _ rfl) 1 (n:=0) _ rfl rfl ?_;simp only[*,go_sem,-b,-a,-hJ,muA,msA,stA,smA,Int.reduceBEq,Int.reduceBNe]
       refine ai.nil a (b _ _ _ ?_);clear b K
       refine n9 ?_
       change ∃p,p<m/\sY Mu n st c p _ _ _
       exact ⟨8*bH n φ ms+(5 - (it+1)).toNat,by omega,wt,it+1,mu,sv,bk,P,S3,bl,b0,bH n φ ms,rfl,(by simp only[*,go_sem,-a,-hJ,muA,msA,stA,smA,Int.reduceBEq,Int.reduceBNe]),(by simp only[*,go_sem,-a,-hJ,muA,msA,stA,smA,Int.reduceBEq,Int.reduceBNe]),(by simp only[*,go_sem,-a,-hJ,muA,msA,stA,smA,Int.reduceBEq,Int.reduceBNe]),(by simp only[*,go_sem,-a,-hJ,muA,msA,stA,smA,Int.reduceBEq,Int.reduceBNe]),(by simp only[*,go_sem,-a,-hJ,muA,msA,stA,smA,Int.reduceBEq,Int.reduceBNe]),(by simp only[*,go_sem,-a,-hJ,muA,msA,stA,smA,Int.reduceBEq,Int.reduceBNe]),(by simp only[*,go_sem,-a,-hJ,muA,msA,stA,smA,Int.reduceBEq,Int.reduceBNe]),(by simp only[*,go_sem,-a,-hJ,muA,msA,stA,smA,Int.reduceBEq,Int.reduceBNe]),ad,a9,by omega,by omega,ea,cb,Nat.le_refl _,rfl⟩
    ·have b5:=hw.a5
     have cd:(((4*S+L:Nat):Int)==1)=false:=by simp;omega
     repeat refine ay (a _) ?_
     refine aW a fun K b=>?_
     refine ai.bp (hJ _ rfl) 7 (n:=0) _ rfl rfl ?_;simp only[*,go_sem,-b,-a,-hJ,muA,msA,stA,smA,Int.reduceBEq,Int.reduceBNe]
     refine ai.nil a (b _ _ _ ?_);clear b K
     repeat refine ay (a _) ?_
     refine cv (a _) (by simp only[*,go_sem,-a,-hJ,Int.reduceBEq,Int.reduceBNe]) ?_
     refine cx (a _) ?_
     exact eg ⟨rfl,(by simp only[*,go_sem,-a,-hJ,muA,msA,stA,smA,Int.reduceBEq,Int.reduceBNe]),(by simp only[*,go_sem,-a,-hJ,muA,msA,stA,smA,Int.reduceBEq,Int.reduceBNe]),(by simp only[*,go_sem,-a,-hJ,muA,msA,stA,smA,Int.reduceBEq,Int.reduceBNe]),(by simp only[*,go_sem,-a,-hJ,muA,msA,stA,smA,Int.reduceBEq,Int.reduceBNe]),(by simp only[*,go_sem,-a,-hJ,muA,msA,stA,smA,Int.reduceBEq,Int.reduceBNe]),(by simp only[*,go_sem,-a,-hJ,muA,msA,stA,smA,Int.reduceBEq,Int.reduceBNe]),by simp,(by simp only[*,go_sem,-a,-hJ,muA,msA,stA,smA,Int.reduceBEq,Int.reduceBNe]),(by simp only[*,go_sem,-a,-hJ,muA,msA,stA,smA,Int.reduceBEq,Int.reduceBNe]),rfl⟩
   ·clear f k o z D I d hd
    rintro A c ab ⟨rfl,f,k,o,z,D,I,q,d,hd,rfl⟩
    clear q
    repeat refine ay (a _) ?_
    refine aW a fun K b=>?_
    refine ai.bp (hJ _ rfl) 2 (n:=0) _ rfl rfl ?_;simp only[*,go_sem,-b,-a,-hJ,muA,msA,stA,smA,Int.reduceBEq,Int.reduceBNe]
    refine ai.nil a (b _ _ _ ?_);clear b K
    obtain ⟨Q,j,r⟩:∃Q:Int,(S=0->Q=old+1 - L)/\(S=1->Q=old):=⟨if S=0 then old+1 - L else old,fun e=>by simp[e],fun e=>by simp[e]⟩
    refine jW a (qq Mu st c wt it old (some Q) sv aw G) ?_ ?_
    ·rcases cS with rfl|rfl
     ·have b4:dG old 4=0:=hw.a4
      have o1:iK old 1=Q:=by rw[j rfl,hw.o1];omega
      clear j r
      repeat refine ay (a _) ?_
      refine aW a fun K b=>?_
      refine ai.bp (hJ _ rfl) 3 (n:=0) _ rfl rfl ?_;simp only[*,go_sem,-b,-a,-hJ,muA,msA,stA,smA,Int.reduceBEq,Int.reduceBNe]
      refine ai.nil a (b _ _ _ ?_);clear b K
      repeat refine ay (a _) ?_
      refine cO (a _) (by simp only[*,go_sem,-a,-hJ,Int.reduceBEq,Int.reduceBNe]) ?_
      repeat refine ay (a _) ?_
      refine aW a fun K b=>?_
      refine ai.bp (hJ _ rfl) 3 (n:=0) _ rfl rfl ?_;simp only[*,go_sem,-b,-a,-hJ,muA,msA,stA,smA,Int.reduceBEq,Int.reduceBNe]
      refine ai.nil a (b _ _ _ ?_);clear b K
      exact eg ⟨rfl,(by simp only[*,go_sem,-a,-hJ,muA,msA,stA,smA,Int.reduceBEq,Int.reduceBNe]),(by simp only[*,go_sem,-a,-hJ,muA,msA,stA,smA,Int.reduceBEq,Int.reduceBNe]),(by simp only[*,go_sem,-a,-hJ,muA,msA,stA,smA,Int.reduceBEq,Int.reduceBNe]),(by simp only[*,go_sem,-a,-hJ,muA,msA,stA,smA,Int.reduceBEq,Int.reduceBNe]),(by simp only[*,go_sem,-a,-hJ,muA,msA,stA,smA,Int.reduceBEq,Int.reduceBNe]),(by simp only[*,go_sem,-a,-hJ,muA,msA,stA,smA,Int.reduceBEq,Int.reduceBNe]),fun y g=>by cases g;simp only[*,go_sem,-a,-hJ],(by simp only[*,go_sem,-a,-hJ,muA,msA,stA,smA,Int.reduceBEq,Int.reduceBNe]),(by simp only[*,go_sem,-a,-hJ,muA,msA,stA,smA,Int.reduceBEq,Int.reduceBNe]),rfl⟩
     ·have b4:dG old 4=4:=hw.a4
      obtain rfl:=r rfl
      clear j r
      repeat refine ay (a _) ?_
      refine aW a fun K b=>?_
      refine ai.bp (hJ _ rfl) 3 (n:=0) _ rfl rfl ?_;simp only[*,go_sem,-b,-a,-hJ,muA,msA,stA,smA,Int.reduceBEq,Int.reduceBNe]
      refine ai.nil a (b _ _ _ ?_);clear b K
      repeat refine ay (a _) ?_
      refine cv (a _) (by simp only[*,go_sem,-a,-hJ,Int.reduceBEq,Int.reduceBNe]) ?_
      refine cx (a _) ?_
      exact eg ⟨rfl,(by simp only[*,go_sem,-a,-hJ,muA,msA,stA,smA,Int.reduceBEq,Int.reduceBNe]),(by simp only[*,go_sem,-a,-hJ,muA,msA,stA,smA,Int.reduceBEq,Int.reduceBNe]),(by simp only[*,go_sem,-a,-hJ,muA,msA,stA,smA,Int.reduceBEq,Int.reduceBNe]),(by simp only[*,go_sem,-a,-hJ,muA,msA,stA,smA,Int.reduceBEq,Int.reduceBNe]),(by simp only[*,go_sem,-a,-hJ,muA,msA,stA,smA,Int.reduceBEq,Int.reduceBNe]),(by simp only[*,go_sem,-a,-hJ,muA,msA,stA,smA,Int.reduceBEq,Int.reduceBNe]),fun y g=>by cases g;simp only[*,go_sem,-a,-hJ],(by simp only[*,go_sem,-a,-hJ,muA,msA,stA,smA,Int.reduceBEq,Int.reduceBNe]),(by simp only[*,go_sem,-a,-hJ,muA,msA,stA,smA,Int.reduceBEq,Int.reduceBNe]),rfl⟩
    clear f k o z D I d hd
    rintro A c ab ⟨rfl,f,k,o,z,D,I,q,d,hd,rfl⟩
    replace q:=q _ rfl
    obtain ⟨R,x,E⟩:∃R:Int,(S=1\/L=1->R=Q+8)/\(S=0->L=0->R=Q):=⟨if S=1\/L=1 then Q+8 else Q,fun e=>by simp[e],fun e cf=>by simp[e,cf]⟩
    refine jW a (qq Mu st c wt it old (some R) sv aw G) ?_ ?_
    ·by_cases Y:S=1\/L=1
     ·have b5:=hw.a5
      have cd:(((4*S+L:Nat):Int) != 0)=true:=by simp;omega
      have fs:IntKind.i32.wrap (Q+8)=R:=by
       have e0:=hw.st.eq
       rw[x Y]
       refine g7 ?_ ?_<;>rcases cS with rfl|rfl<;>first|(have:=j rfl;omega)|(have:=r rfl;omega)
      clear j r x E Y
      repeat refine ay (a _) ?_
      refine aW a fun K b=>?_
      refine ai.bp (hJ _ rfl) 3 (n:=0) _ rfl rfl ?_;simp only[*,go_sem,-b,-a,-hJ,muA,msA,stA,smA,Int.reduceBEq,Int.reduceBNe]
      refine ai.nil a (b _ _ _ ?_);clear b K
      repeat refine ay (a _) ?_
      refine cO (a _) (by simp only[*,go_sem,-a,-hJ,Int.reduceBEq,Int.reduceBNe]) ?_
      repeat refine ay (a _) ?_
      refine aW a fun K b=>?_
      refine ai.bp (hJ _ rfl) 3 (n:=0) _ rfl rfl ?_;simp only[*,go_sem,-b,-a,-hJ,muA,msA,stA,smA,Int.reduceBEq,Int.reduceBNe]
      refine ai.nil a (b _ _ _ ?_);clear b K
      exact eg ⟨rfl,(by simp only[*,go_sem,-a,-hJ,muA,msA,stA,smA,Int.reduceBEq,Int.reduceBNe]),(by simp only[*,go_sem,-a,-hJ,muA,msA,stA,smA,Int.reduceBEq,Int.reduceBNe]),(by simp only[*,go_sem,-a,-hJ,muA,msA,stA,smA,Int.reduceBEq,Int.reduceBNe]),(by simp only[*,go_sem,-a,-hJ,muA,msA,stA,smA,Int.reduceBEq,Int.reduceBNe]),(by simp only[*,go_sem,-a,-hJ,muA,msA,stA,smA,Int.reduceBEq,Int.reduceBNe]),(by simp only[*,go_sem,-a,-hJ,muA,msA,stA,smA,Int.reduceBEq,Int.reduceBNe]),fun y g=>by cases g;simp only[*,go_sem,-a,-hJ],(by simp only[*,go_sem,-a,-hJ,muA,msA,stA,smA,Int.reduceBEq,Int.reduceBNe]),(by simp only[*,go_sem,-a,-hJ,muA,msA,stA,smA,Int.reduceBEq,Int.reduceBNe]),rfl⟩
     ·obtain rfl:S=0:=by omega
      obtain rfl:L=0:=by omega
      have b5:dG old 5=0:=hw.a5
      obtain rfl:=E rfl rfl
      clear j r x E Y
      repeat refine ay (a _) ?_
      refine aW a fun K b=>?_
      refine ai.bp (hJ _ rfl) 3 (n:=0) _ rfl rfl ?_;simp only[*,go_sem,-b,-a,-hJ,muA,msA,stA,smA,Int.reduceBEq,Int.reduceBNe]
      refine ai.nil a (b _ _ _ ?_);clear b K
      repeat refine ay (a _) ?_
      refine cv (a _) (by simp only[*,go_sem,-a,-hJ,Int.reduceBEq,Int.reduceBNe]) ?_
      refine cx (a _) ?_
      exact eg ⟨rfl,(by simp only[*,go_sem,-a,-hJ,muA,msA,stA,smA,Int.reduceBEq,Int.reduceBNe]),(by simp only[*,go_sem,-a,-hJ,muA,msA,stA,smA,Int.reduceBEq,Int.reduceBNe]),(by simp only[*,go_sem,-a,-hJ,muA,msA,stA,smA,Int.reduceBEq,Int.reduceBNe]),(by simp only[*,go_sem,-a,-hJ,muA,msA,stA,smA,Int.reduceBEq,Int.reduceBNe]),(by simp only[*,go_sem,-a,-hJ,muA,msA,stA,smA,Int.reduceBEq,Int.reduceBNe]),(by simp only[*,go_sem,-a,-hJ,muA,msA,stA,smA,Int.reduceBEq,Int.reduceBNe]),fun y g=>by cases g;simp only[*,go_sem,-a,-hJ],(by simp only[*,go_sem,-a,-hJ,muA,msA,stA,smA,Int.reduceBEq,Int.reduceBNe]),(by simp only[*,go_sem,-a,-hJ,muA,msA,stA,smA,Int.reduceBEq,Int.reduceBNe]),rfl⟩
    clear f k o z D I q d hd
    rintro A c ab ⟨rfl,f,k,o,z,D,I,q,d,hd,rfl⟩
    replace q:=q _ rfl
    obtain ⟨M,N,u⟩:∃M:Int,(sv=true->L=1->M=R+4)/\(¬(sv=true/\L=1)->M=R):=⟨if sv=true/\L=1 then R+4 else R,fun e cf=>by simp[e,cf],fun e=>by simp[e]⟩
    refine jW a (qq Mu st c wt it old (some M) sv aw G) ?_ ?_
    ·cases sv
     ·obtain rfl:=u (by simp)
      clear j r x E N u
      repeat refine ay (a _) ?_
      refine aW a fun K b=>?_
      refine ai.bp (hJ _ rfl) 6 (n:=0) _ rfl rfl ?_;simp only[*,go_sem,-b,-a,-hJ,muA,msA,stA,smA,Int.reduceBEq,Int.reduceBNe]
      refine ai.nil a (b _ _ _ ?_);clear b K
      repeat refine ay (a _) ?_
      refine cv (a _) (by simp only[*,go_sem,-a,-hJ,Int.reduceBEq,Int.reduceBNe]) ?_
      refine cx (a _) ?_
      exact eg ⟨rfl,(by simp only[*,go_sem,-a,-hJ,muA,msA,stA,smA,Int.reduceBEq,Int.reduceBNe]),(by simp only[*,go_sem,-a,-hJ,muA,msA,stA,smA,Int.reduceBEq,Int.reduceBNe]),(by simp only[*,go_sem,-a,-hJ,muA,msA,stA,smA,Int.reduceBEq,Int.reduceBNe]),(by simp only[*,go_sem,-a,-hJ,muA,msA,stA,smA,Int.reduceBEq,Int.reduceBNe]),(by simp only[*,go_sem,-a,-hJ,muA,msA,stA,smA,Int.reduceBEq,Int.reduceBNe]),(by simp only[*,go_sem,-a,-hJ,muA,msA,stA,smA,Int.reduceBEq,Int.reduceBNe]),fun y g=>by cases g;simp only[*,go_sem,-a,-hJ],(by simp only[*,go_sem,-a,-hJ,muA,msA,stA,smA,Int.reduceBEq,Int.reduceBNe]),(by simp only[*,go_sem,-a,-hJ,muA,msA,stA,smA,Int.reduceBEq,Int.reduceBNe]),rfl⟩
     ·obtain rfl:aw=true:=V rfl
      rcases a7 with rfl|rfl
      ·have eb:dG old 1=0:=hw.a1
       obtain rfl:=u (by simp)
       clear j r x E N u
       repeat refine ay (a _) ?_
       refine aW a fun K b=>?_
       refine ai.bp (hJ _ rfl) 6 (n:=0) _ rfl rfl ?_;simp only[*,go_sem,-b,-a,-hJ,muA,msA,stA,smA,Int.reduceBEq,Int.reduceBNe]
       refine ai.nil a (b _ _ _ ?_);clear b K
       repeat refine ay (a _) ?_
       refine cv (a _) (by simp only[*,go_sem,-a,-hJ,Int.reduceBEq,Int.reduceBNe]) ?_
       refine cx (a _) ?_
       exact eg ⟨rfl,(by simp only[*,go_sem,-a,-hJ,muA,msA,stA,smA,Int.reduceBEq,Int.reduceBNe]),(by simp only[*,go_sem,-a,-hJ,muA,msA,stA,smA,Int.reduceBEq,Int.reduceBNe]),(by simp only[*,go_sem,-a,-hJ,muA,msA,stA,smA,Int.reduceBEq,Int.reduceBNe]),(by simp only[*,go_sem,-a,-hJ,muA,msA,stA,smA,Int.reduceBEq,Int.reduceBNe]),(by simp only[*,go_sem,-a,-hJ,muA,msA,stA,smA,Int.reduceBEq,Int.reduceBNe]),(by simp only[*,go_sem,-a,-hJ,muA,msA,stA,smA,Int.reduceBEq,Int.reduceBNe]),fun y g=>by cases g;simp only[*,go_sem,-a,-hJ],(by simp only[*,go_sem,-a,-hJ,muA,msA,stA,smA,Int.reduceBEq,Int.reduceBNe]),(by simp only[*,go_sem,-a,-hJ,muA,msA,stA,smA,Int.reduceBEq,Int.reduceBNe]),rfl⟩
      ·have eb:dG old 1=1:=hw.a1
       have o4:iK R 4=M:=by
        have e0:=hw.st.eq
        obtain ⟨rfl,rfl⟩:=X rfl
        have e1:=j rfl
        have e2:=x (.inr rfl)
        rw[N rfl rfl,(wd (C:=C+1) (S:=0) (W:=1) (L:=1) ⟨by omega,by omega,by omega,by omega⟩ (by omega)).o4]
        omega
       clear j r x E N u
       repeat refine ay (a _) ?_
       refine aW a fun K b=>?_
       refine ai.bp (hJ _ rfl) 6 (n:=0) _ rfl rfl ?_;simp only[*,go_sem,-b,-a,-hJ,muA,msA,stA,smA,Int.reduceBEq,Int.reduceBNe]
       refine ai.nil a (b _ _ _ ?_);clear b K
       repeat refine ay (a _) ?_
       refine cO (a _) (by simp only[*,go_sem,-a,-hJ,Int.reduceBEq,Int.reduceBNe]) ?_
       repeat refine ay (a _) ?_
       refine aW a fun K b=>?_
       refine ai.bp (hJ _ rfl) 3 (n:=0) _ rfl rfl ?_;simp only[*,go_sem,-b,-a,-hJ,muA,msA,stA,smA,Int.reduceBEq,Int.reduceBNe]
       refine ai.nil a (b _ _ _ ?_);clear b K
       exact eg ⟨rfl,(by simp only[*,go_sem,-a,-hJ,muA,msA,stA,smA,Int.reduceBEq,Int.reduceBNe]),(by simp only[*,go_sem,-a,-hJ,muA,msA,stA,smA,Int.reduceBEq,Int.reduceBNe]),(by simp only[*,go_sem,-a,-hJ,muA,msA,stA,smA,Int.reduceBEq,Int.reduceBNe]),(by simp only[*,go_sem,-a,-hJ,muA,msA,stA,smA,Int.reduceBEq,Int.reduceBNe]),(by simp only[*,go_sem,-a,-hJ,muA,msA,stA,smA,Int.reduceBEq,Int.reduceBNe]),(by simp only[*,go_sem,-a,-hJ,muA,msA,stA,smA,Int.reduceBEq,Int.reduceBNe]),fun y g=>by cases g;simp only[*,go_sem,-a,-hJ],(by simp only[*,go_sem,-a,-hJ,muA,msA,stA,smA,Int.reduceBEq,Int.reduceBNe]),(by simp only[*,go_sem,-a,-hJ,muA,msA,stA,smA,Int.reduceBEq,Int.reduceBNe]),rfl⟩
    clear f k o z D I q d hd
    rintro A c ab ⟨rfl,f,k,o,z,D,I,q,d,hd,rfl⟩
    replace q:=q _ rfl
    obtain ⟨ae,T,U⟩:∃ae:Int,(aw=true->ae=M - 2)/\(aw=false->ae=M):=⟨if aw then M - 2 else M,fun e=>by simp[e],fun e=>by simp[e]⟩
    refine jW a (qq Mu st c wt it old (some ae) sv aw G) ?_ ?_
    ·cases aw
     ·obtain rfl:=U rfl
      clear j r x E N u T U
      repeat refine ay (a _) ?_
      refine aW a fun K b=>?_
      refine ai.bp (hJ _ rfl) 1 (n:=0) _ rfl rfl ?_;simp only[*,go_sem,-b,-a,-hJ,muA,msA,stA,smA,Int.reduceBEq,Int.reduceBNe]
      refine ai.nil a (b _ _ _ ?_);clear b K
      repeat refine ay (a _) ?_
      refine cv (a _) (by simp only[*,go_sem,-a,-hJ,Int.reduceBEq,Int.reduceBNe]) ?_
      refine cx (a _) ?_
      exact eg ⟨rfl,(by simp only[*,go_sem,-a,-hJ,muA,msA,stA,smA,Int.reduceBEq,Int.reduceBNe]),(by simp only[*,go_sem,-a,-hJ,muA,msA,stA,smA,Int.reduceBEq,Int.reduceBNe]),(by simp only[*,go_sem,-a,-hJ,muA,msA,stA,smA,Int.reduceBEq,Int.reduceBNe]),(by simp only[*,go_sem,-a,-hJ,muA,msA,stA,smA,Int.reduceBEq,Int.reduceBNe]),(by simp only[*,go_sem,-a,-hJ,muA,msA,stA,smA,Int.reduceBEq,Int.reduceBNe]),(by simp only[*,go_sem,-a,-hJ,muA,msA,stA,smA,Int.reduceBEq,Int.reduceBNe]),fun y g=>by cases g;simp only[*,go_sem,-a,-hJ],(by simp only[*,go_sem,-a,-hJ,muA,msA,stA,smA,Int.reduceBEq,Int.reduceBNe]),(by simp only[*,go_sem,-a,-hJ,muA,msA,stA,smA,Int.reduceBEq,Int.reduceBNe]),rfl⟩
     ·obtain ⟨rfl,rfl⟩:=X rfl
      have ad:∃P S3,Wd M P S3 1 1:=by
       have e0:=hw.st.eq
       have e1:=j rfl
       rcases a7 with rfl|rfl
       ·have e2:=E rfl rfl
        have ao:=u (by simp)
        exact ⟨C,0,wd ⟨by omega,by omega,by omega,by omega⟩ (by omega)⟩
       ·have e2:=x (.inr rfl)
        cases sv
        ·have ao:=u (by simp)
         exact ⟨C+1,0,wd ⟨by omega,by omega,by omega,by omega⟩ (by omega)⟩
        ·have ao:=N rfl rfl
         exact ⟨C+1,1,wd ⟨by omega,by omega,by omega,by omega⟩ (by omega)⟩
      obtain ⟨P,S3,ad⟩:=ad
      have b2:dG M 2=2:=ad.a2
      have n2:ql M 2=ae:=by rw[T rfl,ad.n2];rfl
      clear j r x E N u T U
      repeat refine ay (a _) ?_
      refine aW a fun K b=>?_
      refine ai.bp (hJ _ rfl) 1 (n:=0) _ rfl rfl ?_;simp only[*,go_sem,-b,-a,-hJ,muA,msA,stA,smA,Int.reduceBEq,Int.reduceBNe]
      refine ai.nil a (b _ _ _ ?_);clear b K
      repeat refine ay (a _) ?_
      refine cO (a _) (by simp only[*,go_sem,-a,-hJ,Int.reduceBEq,Int.reduceBNe]) ?_
      repeat refine ay (a _) ?_
      refine aW a fun K b=>?_
      refine ai.bp (hJ _ rfl) 3 (n:=0) _ rfl rfl ?_;simp only[*,go_sem,-b,-a,-hJ,muA,msA,stA,smA,Int.reduceBEq,Int.reduceBNe]
      refine ai.nil a (b _ _ _ ?_);clear b K
      repeat refine ay (a _) ?_
      refine cv (a _) (by simp only[*,go_sem,-a,-hJ,Int.reduceBEq,Int.reduceBNe]) ?_
      refine cx (a _) ?_
      repeat refine ay (a _) ?_
      refine aW a fun K b=>?_
      refine ai.bp (hJ _ rfl) 3 (n:=0) _ rfl rfl ?_;simp only[*,go_sem,-b,-a,-hJ,muA,msA,stA,smA,Int.reduceBEq,Int.reduceBNe]
      refine ai.nil a (b _ _ _ ?_);clear b K
      exact eg ⟨rfl,(by simp only[*,go_sem,-a,-hJ,muA,msA,stA,smA,Int.reduceBEq,Int.reduceBNe]),(by simp only[*,go_sem,-a,-hJ,muA,msA,stA,smA,Int.reduceBEq,Int.reduceBNe]),(by simp only[*,go_sem,-a,-hJ,muA,msA,stA,smA,Int.reduceBEq,Int.reduceBNe]),(by simp only[*,go_sem,-a,-hJ,muA,msA,stA,smA,Int.reduceBEq,Int.reduceBNe]),(by simp only[*,go_sem,-a,-hJ,muA,msA,stA,smA,Int.reduceBEq,Int.reduceBNe]),(by simp only[*,go_sem,-a,-hJ,muA,msA,stA,smA,Int.reduceBEq,Int.reduceBNe]),fun y g=>by cases g;simp only[*,go_sem,-a,-hJ],(by simp only[*,go_sem,-a,-hJ,muA,msA,stA,smA,Int.reduceBEq,Int.reduceBNe]),(by simp only[*,go_sem,-a,-hJ,muA,msA,stA,smA,Int.reduceBEq,Int.reduceBNe]),rfl⟩
    clear f k o z D I q d hd
    rintro A c ab ⟨rfl,f,k,o,z,D,I,q,d,hd,rfl⟩
    replace q:=q _ rfl
    repeat refine ay (a _) ?_
    refine aW a fun K b=>?_
    refine ai.bp (hJ _ rfl) 5 (n:=1) _ rfl rfl ?_;simp only[*,go_sem,-b,-a,-hJ,muA,msA,stA,smA,Int.reduceBEq,Int.reduceBNe]
    refine sU old ae sP a6 ⟨_,_,_,rfl,(by first|(simp only[*,go_sem,-b,-a,-hJ];done)|rfl),rfl,by first|(simp only[*,go_sem,-b,-a,-hJ,muA,msA,stA,smA,Int.reduceBEq,Int.reduceBNe];done)|(simp only[*,go_sem,-b,-a,-hJ,muA,msA,stA,smA,Int.reduceBEq,Int.reduceBNe];rfl),rfl⟩ (by rfl) (by simp) (fun φ ms bz al bS Z p he hi hm=>?_) (fun φ mu ms bz al bS Z p he hi hm df=>?_)
    ·obtain ⟨rfl,rfl,rfl,rfl⟩:=hm.st.uniq hw.st
     by_cases Y:al=0/\Z=0
     ·obtain ⟨rfl,rfl⟩:=Y
      have O:ae=old+1 - (if aw then 2 else 0):=by
       have e1:=j rfl
       have e2:=E rfl rfl
       have ao:=u (by simp)
       cases aw
       ·have O:=U rfl
        simp;omega
       ·have O:=T rfl
        simp;omega
      have b5:dG old 5=0:=hw.a5
      refine ⟨.held,by rw[O];exact ⟨_,_,_,_,p,GR hm hi _ (by rw[he]) rfl rfl rfl (fun e=>(X e).2)⟩,?_⟩
      clear j r x E N u T U O he hi hm V X cS a7 bd
      refine ai.nil a (b _ _ _ ?_);clear b K
      repeat refine ay (a _) ?_
      refine cO (a _) (by simp only[*,go_sem,-a,-hJ,Int.reduceBEq,Int.reduceBNe]) ?_
      repeat refine ay (a _) ?_
      refine aW a fun K b=>?_
      refine ai.bp (hJ _ rfl) 3 (n:=0) _ rfl rfl ?_;simp only[*,go_sem,-b,-a,-hJ,muA,msA,stA,smA,Int.reduceBEq,Int.reduceBNe]
      refine ai.nil a (b _ _ _ ?_);clear b K
      repeat refine ay (a _) ?_
      refine cO (a _) (by simp only[*,go_sem,-a,-hJ,Int.reduceBEq,Int.reduceBNe]) ?_
      refine n9 ?_
      change sZ Mu st c _ _ _
      exact ⟨rfl,(by simp only[*,go_sem,-a,-hJ,muA,msA,stA,smA,Int.reduceBEq,Int.reduceBNe]),(by simp only[*,go_sem,-a,-hJ,muA,msA,stA,smA,Int.reduceBEq,Int.reduceBNe]),(by simp only[*,go_sem,-a,-hJ,muA,msA,stA,smA,Int.reduceBEq,Int.reduceBNe]),rfl⟩
     ·have cl:al=1\/Z=1:=by omega
      have O:ae=old+8+(if sv then 4 else 0) - (if aw then 2 else 0):=by
       have e2:=x cl
       rcases cS with rfl|rfl
       ·have e1:=j rfl
        obtain rfl:Z=1:=by omega
        cases sv
        ·have ao:=u (by simp)
         cases aw
         ·have O:=U rfl
          simp;omega
         ·have O:=T rfl
          simp;omega
        ·obtain rfl:aw=true:=V rfl
         have ao:=N rfl rfl
         have O:=T rfl
         simp;omega
       ·have ec:aw=false:=by
         cases aw
         ·rfl
         ·exact absurd (X rfl).1 (by omega)
        subst ec
        have ed:sv=false:=by
         cases sv
         ·rfl
         ·exact absurd (V rfl) (by simp)
        subst ed
        have e1:=r rfl
        have ao:=u (by simp)
        have O:=U rfl
        simp;omega
      have dk:sv=true->aw=true/\Z=1:=fun e=>⟨V e,by have:=X (V e);omega⟩
      have dp:bH n φ ms<=G:=(hm.seen i hi (some old) G (by rw[he];rfl)).1
      have b5:=hw.a5
      have cd:(((4*al+Z:Nat):Int)==0)=false:=by simp;omega
      refine ⟨.g5 (bH n φ ms),by rw[O];exact ⟨_,_,_,_,p,GU hm hi _ (by rw[he]) rfl cl dk⟩,?_⟩
      clear j r x E N u T U O he hi hm V X cS a7 bd Y cl dk
      revert dp
      generalize bH n φ ms=B
      intro dp
      refine ai.nil a (b _ _ _ ?_);clear b K
      repeat refine ay (a _) ?_
      refine cO (a _) (by simp only[*,go_sem,-a,-hJ,Int.reduceBEq,Int.reduceBNe]) ?_
      repeat refine ay (a _) ?_
      refine aW a fun K b=>?_
      refine ai.bp (hJ _ rfl) 3 (n:=0) _ rfl rfl ?_;simp only[*,go_sem,-b,-a,-hJ,muA,msA,stA,smA,Int.reduceBEq,Int.reduceBNe]
      refine ai.nil a (b _ _ _ ?_);clear b K
      repeat refine ay (a _) ?_
      refine cv (a _) (by simp only[*,go_sem,-a,-hJ,Int.reduceBEq,Int.reduceBNe]) ?_
      refine cx (a _) ?_
      repeat refine ay (a _) ?_
      refine aW a fun K b=>?_
      refine ai.bp (hJ _ rfl) 3 (n:=0) _ rfl rfl ?_;simp only[*,go_sem,-b,-a,-hJ,muA,msA,stA,smA,Int.reduceBEq,Int.reduceBNe]
      refine ai.nil a (b _ _ _ ?_);clear b K
      repeat refine ay (a _) ?_
      refine aW a fun K b=>?_
      refine ai.bp (hJ _ rfl) 2 (n:=0) _ rfl rfl ?_;simp only[*,go_sem,-b,-a,-hJ,muA,msA,stA,smA,Int.reduceBEq,Int.reduceBNe]
      refine ai.nil a (b _ _ _ ?_);clear b K
      first|refine jW a (BO Mu st c sv (.g5 B)) ?_ ?_|refine sX a (BO Mu st c sv (.g5 B)) ?_ ?_
      ·cases ft:(wt==0)
       ·repeat refine ay (a _) ?_
        refine cv (a _) (by simp only[*,go_sem,-a,-hJ,Int.reduceBEq,Int.reduceBNe]) ?_
        refine cx (a _) ?_
        exact eg ⟨wt,rfl,(by simp only[*,go_sem,-a,-hJ,muA,msA,stA,smA,Int.reduceBEq,Int.reduceBNe]),(by simp only[*,go_sem,-a,-hJ,muA,msA,stA,smA,Int.reduceBEq,Int.reduceBNe]),(by simp only[*,go_sem,-a,-hJ,muA,msA,stA,smA,Int.reduceBEq,Int.reduceBNe]),(by simp only[*,go_sem,-a,-hJ,muA,msA,stA,smA,Int.reduceBEq,Int.reduceBNe]),(by simp only[*,go_sem,-a,-hJ,muA,msA,stA,smA,Int.reduceBEq,Int.reduceBNe]),rfl⟩
       ·repeat refine ay (a _) ?_
        refine cO (a _) (by simp only[*,go_sem,-a,-hJ,Int.reduceBEq,Int.reduceBNe]) ?_
        repeat refine ay (a _) ?_
        refine aW a fun K b=>?_
        refine BN BA BG ⟨_,_,_,rfl,(by first|(simp only[*,go_sem,-b,-a,-hJ];done)|rfl),rfl,by first|(simp only[*,go_sem,-b,-a,-hJ,muA,msA,stA,smA,Int.reduceBEq,Int.reduceBNe];done)|(simp only[*,go_sem,-b,-a,-hJ,muA,msA,stA,smA,Int.reduceBEq,Int.reduceBNe];rfl),rfl⟩ (by simp) fun t=>?_
        refine ai.bp (hJ _ rfl) 1 (n:=0) _ rfl rfl ?_;simp only[*,go_sem,-b,-a,-hJ,muA,msA,stA,smA,Int.reduceBEq,Int.reduceBNe]
        refine ai.nil a (b _ _ _ ?_);clear b K
        exact eg ⟨t,rfl,(by simp only[*,go_sem,-a,-hJ,muA,msA,stA,smA,Int.reduceBEq,Int.reduceBNe]),(by simp only[*,go_sem,-a,-hJ,muA,msA,stA,smA,Int.reduceBEq,Int.reduceBNe]),(by simp only[*,go_sem,-a,-hJ,muA,msA,stA,smA,Int.reduceBEq,Int.reduceBNe]),(by simp only[*,go_sem,-a,-hJ,muA,msA,stA,smA,Int.reduceBEq,Int.reduceBNe]),(by simp only[*,go_sem,-a,-hJ,muA,msA,stA,smA,Int.reduceBEq,Int.reduceBNe]),rfl⟩
      clear f k o z D I q d hd b5 cd
      rintro A c ab ⟨dq,rfl,f,k,o,d,hd,rfl⟩
      repeat refine ay (a _) ?_
      refine aW a fun K b=>?_
      refine ai.bp (hJ _ rfl) 4 (n:=1) _ rfl rfl ?_;simp only[*,go_sem,-b,-a,-hJ,muA,msA,stA,smA,Int.reduceBEq,Int.reduceBNe]
      refine HU (slot A 8) (.int .i64 2) HD a6 ⟨_,_,_,rfl,(by first|(simp only[*,go_sem,-b,-a,-hJ];done)|rfl),rfl,by first|(simp only[*,go_sem,-b,-a,-hJ,muA,msA,stA,smA,Int.reduceBEq,Int.reduceBNe];done)|(simp only[*,go_sem,-b,-a,-hJ,muA,msA,stA,smA,Int.reduceBEq,Int.reduceBNe];rfl),rfl⟩ (by rfl) rfl ?_
      refine ai.nil a (b _ _ _ ?_);clear b K
      first|refine jW a (BP Mu st c (.ji B)) ?_ ?_|refine sX a (BP Mu st c (.ji B)) ?_ ?_
      ·cases sv
       ·repeat refine ay (a _) ?_
        refine aW a fun K b=>?_
        refine ai.bp (hJ _ rfl) 2 (n:=6) _ rfl rfl ?_;simp only[*,go_sem,-b,-a,-hJ,muA,msA,stA,smA,Int.reduceBEq,Int.reduceBNe]
        refine BN BA BG ⟨_,_,_,rfl,(by first|(simp only[*,go_sem,-b,-a,-hJ];done)|rfl),rfl,by first|(simp only[*,go_sem,-b,-a,-hJ,muA,msA,stA,smA,Int.reduceBEq,Int.reduceBNe];done)|(simp only[*,go_sem,-b,-a,-hJ,muA,msA,stA,smA,Int.reduceBEq,Int.reduceBNe];rfl),rfl⟩ (by simp) fun t=>?_
        refine ai.bp (hJ _ rfl) 5 (n:=0) _ rfl rfl ?_;simp only[*,go_sem,-b,-a,-hJ,muA,msA,stA,smA,Int.reduceBEq,Int.reduceBNe]
        refine ai.nil a (b _ _ _ ?_);clear b K
        exact eg ⟨dq,_,rfl,(by simp only[*,go_sem,-a,-hJ,muA,msA,stA,smA,Int.reduceBEq,Int.reduceBNe]),(by simp only[*,go_sem,-a,-hJ,muA,msA,stA,smA,Int.reduceBEq,Int.reduceBNe]),(by simp only[*,go_sem,-a,-hJ,muA,msA,stA,smA,Int.reduceBEq,Int.reduceBNe];rfl),(by simp only[*,go_sem,-a,-hJ,muA,msA,stA,smA,Int.reduceBEq,Int.reduceBNe]),(by simp only[*,go_sem,-a,-hJ,muA,msA,stA,smA,Int.reduceBEq,Int.reduceBNe]),rfl⟩
       ·repeat refine ay (a _) ?_
        refine aW a fun K b=>?_
        refine ai.bp (hJ _ rfl) 8 (n:=0) _ rfl rfl ?_;simp only[*,go_sem,-b,-a,-hJ,muA,msA,stA,smA,Int.reduceBEq,Int.reduceBNe]
        refine ai.nil a (b _ _ _ ?_);clear b K
        exact eg ⟨dq,true,rfl,(by simp only[*,go_sem,-a,-hJ,muA,msA,stA,smA,Int.reduceBEq,Int.reduceBNe]),(by simp only[*,go_sem,-a,-hJ,muA,msA,stA,smA,Int.reduceBEq,Int.reduceBNe]),(by simp only[*,go_sem,-a,-hJ,muA,msA,stA,smA,Int.reduceBEq,Int.reduceBNe]),(by simp only[*,go_sem,-a,-hJ,muA,msA,stA,smA,Int.reduceBEq,Int.reduceBNe]),(by simp only[*,go_sem,-a,-hJ,muA,msA,stA,smA,Int.reduceBEq,Int.reduceBNe]),rfl⟩
      clear f k o d hd
      rintro A c ab ⟨eh,ds,rfl,f,k,o,d,hd,rfl⟩
      repeat refine ay (a _) ?_
      refine aW a fun K b=>?_
      refine ai.bp (hJ _ rfl) 3 (n:=2) _ rfl rfl ?_;simp only[*,go_sem,-b,-a,-hJ,muA,msA,stA,smA,Int.reduceBEq,Int.reduceBNe]
      refine oe sQ ob ⟨_,rfl,(by first|(simp only[*,go_sem,-b,-a,-hJ];done)|rfl),rfl,rfl⟩ (by rfl) (by simp only[*,go_sem,-b,-a,-hJ,muA,msA,stA,smA,Int.reduceBEq,Int.reduceBNe]) (fun φ mu ms H ba cy c0 bm he hi hm=>?_)
      have dt:H<=3*n:=hm.bound
      have ar:=wd hm.st (by omega)
      rcases (by have:=hm.st.s;omega:ba=0\/ba=1) with rfl|rfl
      ·obtain ⟨J,rfl,da⟩:=GW hm hi {mp:=.want true mu (bH n φ ms),gp:=.cnt,stored:=st,deaf:=1} (by rw[he]) rfl rfl
       have fu:bH n φ ms<B:=da
       refine ⟨.want true mu (bH n φ ms),⟨_,_,_,_,bm,J⟩,?_⟩
       have b4:dG mu 4=0:=ar.a4
       clear J da
       refine ai.bp (hJ _ rfl) 1 (n:=0) _ rfl rfl ?_;simp only[*,go_sem,-b,-a,-hJ,muA,msA,stA,smA,Int.reduceBEq,Int.reduceBNe]
       refine ai.nil a (b _ _ _ ?_);clear b K
       repeat refine ay (a _) ?_
       refine aW a fun K b=>?_
       refine ai.bp (hJ _ rfl) 3 (n:=0) _ rfl rfl ?_;simp only[*,go_sem,-b,-a,-hJ,muA,msA,stA,smA,Int.reduceBEq,Int.reduceBNe]
       refine ai.nil a (b _ _ _ ?_);clear b K
       repeat refine ay (a _) ?_
       refine cv (a _) (by simp only[*,go_sem,-a,-hJ,Int.reduceBEq,Int.reduceBNe]) ?_
       refine cx (a _) ?_
       repeat refine ay (a _) ?_
       refine aW a fun K b=>?_
       refine ai.bp (hJ _ rfl) 1 (n:=0) _ rfl rfl ?_;simp only[*,go_sem,-b,-a,-hJ,muA,msA,stA,smA,Int.reduceBEq,Int.reduceBNe]
       refine ai.nil a (b _ _ _ ?_);clear b K
       repeat refine ay (a _) ?_
       refine aW a fun K b=>?_
       refine ai.bp (hJ _ rfl) 1 (n:=0) _ rfl rfl ?_;simp only[*,go_sem,-b,-a,-hJ,muA,msA,stA,smA,Int.reduceBEq,Int.reduceBNe]
       refine ai.nil a (b _ _ _ ?_);clear b K
       change ∃p,p<m/\sY Mu n st c p _ _ _
       exact ⟨8*bH n φ ms+5,by omega,eh,0,mu,ds,true,H,0,1,c0,bH n φ ms,rfl,(by simp only[*,go_sem,-a,-hJ,muA,msA,stA,smA,Int.reduceBEq,Int.reduceBNe]),(by simp only[*,go_sem,-a,-hJ,muA,msA,stA,smA,Int.reduceBEq,Int.reduceBNe]),(by simp only[*,go_sem,-a,-hJ,muA,msA,stA,smA,Int.reduceBEq,Int.reduceBNe]),(by simp only[*,go_sem,-a,-hJ,muA,msA,stA,smA,Int.reduceBEq,Int.reduceBNe]),(by simp only[*,go_sem,-a,-hJ,muA,msA,stA,smA,Int.reduceBEq,Int.reduceBNe]),(by simp only[*,go_sem,-a,-hJ,muA,msA,stA,smA,Int.reduceBEq,Int.reduceBNe]),(by simp only[*,go_sem,-a,-hJ,muA,msA,stA,smA,Int.reduceBEq,Int.reduceBNe]),(by simp only[*,go_sem,-a,-hJ,muA,msA,stA,smA,Int.reduceBEq,Int.reduceBNe]),ar,dt,by omega,by omega,fun _=>rfl,fun _=>⟨rfl,rfl⟩,by simp,rfl⟩
      ·obtain ⟨J,rfl,rfl,et⟩:=GX hm hi {mp:=.jT (decide (2<=H)),gp:=.cnt,stored:=st,deaf:=1} (by rw[he]) rfl rfl
       refine ⟨.jT (decide (2<=H)),⟨_,_,_,_,bm,J⟩,?_⟩
       have b4:dG mu 4=4:=ar.a4
       have b3:dG mu 3=0:=ar.a3
       have br:((H:Int)==0)=false:=by simp;omega
       have db:=ar.sh
       obtain ⟨y,g⟩:∃y,decide (2<=H)=y:=⟨_,rfl⟩
       have a0:((H:Int)==1)=false->y=true:=fun e=>by rw[<-g];simp at e ⊢;omega
       rw[g]
       clear J he hi hm ar dt et g
       refine ai.bp (hJ _ rfl) 1 (n:=0) _ rfl rfl ?_;simp only[*,go_sem,-b,-a,-hJ,muA,msA,stA,smA,Int.reduceBEq,Int.reduceBNe]
       refine ai.nil a (b _ _ _ ?_);clear b K
       repeat refine ay (a _) ?_
       refine aW a fun K b=>?_
       refine ai.bp (hJ _ rfl) 3 (n:=0) _ rfl rfl ?_;simp only[*,go_sem,-b,-a,-hJ,muA,msA,stA,smA,Int.reduceBEq,Int.reduceBNe]
       refine ai.nil a (b _ _ _ ?_);clear b K
       repeat refine ay (a _) ?_
       refine cO (a _) (by simp only[*,go_sem,-a,-hJ,Int.reduceBEq,Int.reduceBNe]) ?_
       repeat refine ay (a _) ?_
       refine aW a fun K b=>?_
       refine ai.bp (hJ _ rfl) 5 (n:=3) _ rfl rfl ?_;simp only[*,go_sem,-b,-a,-hJ,muA,msA,stA,smA,Int.reduceBEq,Int.reduceBNe]
       refine ai.mE mu (H:Int) (a _) ⟨_,rfl,(by first|(simp only[*,go_sem,-b,-a,-hJ];done)|rfl),rfl,rfl⟩ (by simp only[*,go_sem,-b,-a,-hJ,muA,msA,stA,smA,Int.reduceBEq,Int.reduceBNe]) (by simp only[*,go_sem,-b,-a,-hJ,muA,msA,stA,smA,Int.reduceBEq,Int.reduceBNe]) db ?_
       refine ai.bp (hJ _ rfl) 2 (n:=0) _ rfl rfl ?_;simp only[*,go_sem,-b,-a,-hJ,muA,msA,stA,smA,Int.reduceBEq,Int.reduceBNe]
       refine ai.nil a (b _ _ _ ?_);clear b K
       repeat refine ay (a _) ?_
       refine cv (a _) (by simp only[*,go_sem,-a,-hJ,Int.reduceBEq,Int.reduceBNe]) ?_
       refine cx (a _) ?_
       repeat refine ay (a _) ?_
       refine aW a fun K b=>?_
       refine ai.bp (hJ _ rfl) 1 (n:=0) _ rfl rfl ?_;simp only[*,go_sem,-b,-a,-hJ,muA,msA,stA,smA,Int.reduceBEq,Int.reduceBNe]
       refine ai.nil a (b _ _ _ ?_);clear b K
       repeat refine ay (a _) ?_
       refine sX a (H9 Mu st c y) ?_ ?_
       ·cases ds
        ·repeat refine ay (a _) ?_
         refine aW a fun K b=>?_
         refine ai.bp (hJ _ rfl) 7 (n:=0) _ rfl rfl ?_;simp only[*,go_sem,-b,-a,-hJ,muA,msA,stA,smA,Int.reduceBEq,Int.reduceBNe]
         refine ai.nil a (b _ _ _ ?_);clear b K
         exact eg ⟨true,rfl,(by simp only[*,go_sem,-a,-hJ,muA,msA,stA,smA,Int.reduceBEq,Int.reduceBNe]),(by simp only[*,go_sem,-a,-hJ,muA,msA,stA,smA,Int.reduceBEq,Int.reduceBNe]),(by simp only[*,go_sem,-a,-hJ,muA,msA,stA,smA,Int.reduceBEq,Int.reduceBNe]),(by simp only[*,go_sem,-a,-hJ,muA,msA,stA,smA,Int.reduceBEq,Int.reduceBNe]),(by simp only[*,go_sem,-a,-hJ,muA,msA,stA,smA,Int.reduceBEq,Int.reduceBNe]),by simp,rfl⟩
        ·repeat refine ay (a _) ?_
         refine aW a fun K b=>?_
         refine ai.bp (hJ _ rfl) 4 (n:=3) _ rfl rfl ?_;simp only[*,go_sem,-b,-a,-hJ,muA,msA,stA,smA,Int.reduceBEq,Int.reduceBNe]
         refine ai.mE mu (H:Int) (a _) ⟨_,rfl,(by first|(simp only[*,go_sem,-b,-a,-hJ];done)|rfl),rfl,rfl⟩ (by simp only[*,go_sem,-b,-a,-hJ,muA,msA,stA,smA,Int.reduceBEq,Int.reduceBNe]) (by simp only[*,go_sem,-b,-a,-hJ,muA,msA,stA,smA,Int.reduceBEq,Int.reduceBNe]) db ?_
         refine ai.bp (hJ _ rfl) 2 (n:=0) _ rfl rfl ?_;simp only[*,go_sem,-b,-a,-hJ,muA,msA,stA,smA,Int.reduceBEq,Int.reduceBNe]
         refine ai.nil a (b _ _ _ ?_);clear b K
         exact eg ⟨(H:Int)==1,rfl,(by simp only[*,go_sem,-a,-hJ,muA,msA,stA,smA,Int.reduceBEq,Int.reduceBNe]),(by simp only[*,go_sem,-a,-hJ,muA,msA,stA,smA,Int.reduceBEq,Int.reduceBNe]),(by simp only[*,go_sem,-a,-hJ,muA,msA,stA,smA,Int.reduceBEq,Int.reduceBNe]),(by simp only[*,go_sem,-a,-hJ,muA,msA,stA,smA,Int.reduceBEq,Int.reduceBNe]),(by simp only[*,go_sem,-a,-hJ,muA,msA,stA,smA,Int.reduceBEq,Int.reduceBNe]),a0,rfl⟩
       clear f k o d hd b4 b3 br db a0
       rintro A c ab ⟨e,rfl,f,fv,fw,d,hd,a0,rfl⟩
       cases e
       ·obtain rfl:=a0 rfl
        clear a0
        repeat refine ay (a _) ?_
        refine cv (a _) (by simp only[*,go_sem,-a,-hJ,Int.reduceBEq,Int.reduceBNe]) ?_
        refine cx (a _) ?_
        repeat refine ay (a _) ?_
        refine aW a fun K b=>?_
        refine ai.bp (hJ _ rfl) 4 (n:=1) _ rfl rfl ?_;simp only[*,go_sem,-b,-a,-hJ,muA,msA,stA,smA,Int.reduceBEq,Int.reduceBNe]
        refine w7 (-7) wQ a6 ⟨_,_,_,rfl,(by first|(simp only[*,go_sem,-b,-a,-hJ];done)|rfl),rfl,by first|(simp only[*,go_sem,-b,-a,-hJ,muA,msA,stA,smA,Int.reduceBEq,Int.reduceBNe];done)|(simp only[*,go_sem,-b,-a,-hJ,muA,msA,stA,smA,Int.reduceBEq,Int.reduceBNe];rfl),rfl⟩ (by rfl) (by simp) (fun φ mu ms P S3 bl b0 b1 he hi hm=>⟨.held,_,?_,⟨_,_,_,_,_,A9 hm hi {mp:=.held,gp:=.cnt,stored:=st,deaf:=1} false (by rw[he]) rfl (fun _=>rfl)⟩,?_⟩)
        ·have e0:=hm.st.eq
         have a9:P<=3*n:=hm.bound
         have ev:=hm.st.s
         have eQ:=hm.st.w
         have eS:=hm.st.l
         rw[g7 (by omega) (by omega)]
         simp;omega
        refine ai.nil a (b _ _ _ ?_);clear b K
        refine n9 ?_
        change sZ Mu st c _ _ _
        exact ⟨rfl,(by simp only[*,go_sem,-a,-hJ,muA,msA,stA,smA,Int.reduceBEq,Int.reduceBNe]),(by simp only[*,go_sem,-a,-hJ,muA,msA,stA,smA,Int.reduceBEq,Int.reduceBNe]),(by simp only[*,go_sem,-a,-hJ,muA,msA,stA,smA,Int.reduceBEq,Int.reduceBNe]),rfl⟩
       ·clear a0
        repeat refine ay (a _) ?_
        refine cO (a _) (by simp only[*,go_sem,-a,-hJ,Int.reduceBEq,Int.reduceBNe]) ?_
        repeat refine ay (a _) ?_
        refine aW a fun K b=>?_
        refine ai.bp (hJ _ rfl) 3 (n:=0) _ rfl rfl ?_;simp only[*,go_sem,-b,-a,-hJ,muA,msA,stA,smA,Int.reduceBEq,Int.reduceBNe]
        refine ai.nil a (b _ _ _ ?_);clear b K
        repeat refine ay (a _) ?_
        refine aW a fun K b=>?_
        refine ai.bp (hJ _ rfl) 4 (n:=1) _ rfl rfl ?_;simp only[*,go_sem,-b,-a,-hJ,muA,msA,stA,smA,Int.reduceBEq,Int.reduceBNe]
        refine w7 (-11) wQ a6 ⟨_,_,_,rfl,(by first|(simp only[*,go_sem,-b,-a,-hJ];done)|rfl),rfl,by first|(simp only[*,go_sem,-b,-a,-hJ,muA,msA,stA,smA,Int.reduceBEq,Int.reduceBNe];done)|(simp only[*,go_sem,-b,-a,-hJ,muA,msA,stA,smA,Int.reduceBEq,Int.reduceBNe];rfl),rfl⟩ (by rfl) (by simp) (fun φ mu ms P S3 bl b0 b1 he hi hm=>⟨.held,_,?_,⟨_,_,_,_,_,A9 hm hi {mp:=.held,gp:=.cnt,stored:=st,deaf:=1} true (by rw[he]) rfl (by simp)⟩,?_⟩)
        ·have e0:=hm.st.eq
         have a9:P<=3*n:=hm.bound
         have ev:=hm.st.s
         have eQ:=hm.st.w
         have eS:=hm.st.l
         rw[g7 (by omega) (by omega)]
         simp;omega
        refine ai.nil a (b _ _ _ ?_);clear b K
        refine n9 ?_
        change sZ Mu st c _ _ _
        exact ⟨rfl,(by simp only[*,go_sem,-a,-hJ,muA,msA,stA,smA,Int.reduceBEq,Int.reduceBNe]),(by simp only[*,go_sem,-a,-hJ,muA,msA,stA,smA,Int.reduceBEq,Int.reduceBNe]),(by simp only[*,go_sem,-a,-hJ,muA,msA,stA,smA,Int.reduceBEq,Int.reduceBNe]),rfl⟩
    ·obtain ⟨J,a8,bj⟩:=sF hm hi {mp:=.want aw mu (bH n φ ms),gp:=.cnt,stored:=st,deaf:=1} (by rw[he]) rfl
     have da:bH n φ ms<G:=bj df
     refine ⟨.want aw mu (bH n φ ms),⟨_,_,_,_,p,J⟩,?_⟩
     clear j r x E N u T U J a8 bj he hi hm X cS a7 bd
     refine ai.nil a (b _ _ _ ?_);clear b K
     repeat refine ay (a _) ?_
     refine cv (a _) (by simp only[*,go_sem,-a,-hJ,Int.reduceBEq,Int.reduceBNe]) ?_
     repeat refine ay (a _) ?_
     refine aW a fun K b=>?_
     refine ai.bp (hJ _ rfl) 3 (n:=2) _ rfl rfl ?_;simp only[*,go_sem,-b,-a,-hJ,muA,msA,stA,smA,Int.reduceBEq,Int.reduceBNe]
     refine oe sQ ob ⟨_,rfl,(by first|(simp only[*,go_sem,-b,-a,-hJ];done)|rfl),rfl,rfl⟩ (by rfl) (by simp only[*,go_sem,-b,-a,-hJ,muA,msA,stA,smA,Int.reduceBEq,Int.reduceBNe]) (fun bb dd bc H ba cy c0 bm du dv bo=>?_)
     obtain ⟨ca,dC,_⟩:=sF bo dv {mp:=.want aw dd (bH n bb bc),gp:=.cnt,stored:=st,deaf:=1} (by rw[du]) rfl
     have fx:bH n bb bc<=bH n φ ms:=dC
     have a9:H<=3*n:=bo.bound
     have ad:=wd bo.st (by omega)
     have cb:aw=true->ba=0/\cy=1:=fun e=>by subst e;exact A8 bo dv (by rw[du])
     refine ⟨.want aw dd (bH n bb bc),⟨_,_,_,_,bm,ca⟩,?_⟩
     clear ca dC
     refine ai.bp (hJ _ rfl) 1 (n:=0) _ rfl rfl ?_;simp only[*,go_sem,-b,-a,-hJ,muA,msA,stA,smA,Int.reduceBEq,Int.reduceBNe]
     refine ai.nil a (b _ _ _ ?_);clear b K
     change ∃p,p<m/\sY Mu n st c p _ _ _
     exact ⟨8*bH n bb bc+(5 - it).toNat,by omega,wt,it,dd,sv,aw,H,ba,cy,c0,bH n bb bc,rfl,(by simp only[*,go_sem,-a,-hJ,muA,msA,stA,smA,Int.reduceBEq,Int.reduceBNe]),(by simp only[*,go_sem,-a,-hJ,muA,msA,stA,smA,Int.reduceBEq,Int.reduceBNe]),(by simp only[*,go_sem,-a,-hJ,muA,msA,stA,smA,Int.reduceBEq,Int.reduceBNe]),(by simp only[*,go_sem,-a,-hJ,muA,msA,stA,smA,Int.reduceBEq,Int.reduceBNe]),(by simp only[*,go_sem,-a,-hJ,muA,msA,stA,smA,Int.reduceBEq,Int.reduceBNe]),(by simp only[*,go_sem,-a,-hJ,muA,msA,stA,smA,Int.reduceBEq,Int.reduceBNe]),(by simp only[*,go_sem,-a,-hJ,muA,msA,stA,smA,Int.reduceBEq,Int.reduceBNe]),(by simp only[*,go_sem,-a,-hJ,muA,msA,stA,smA,Int.reduceBEq,Int.reduceBNe]),ad,a9,by omega,by omega,V,cb,Nat.le_refl _,rfl⟩
 ·rintro A F' aJ ⟨rfl,f,d,hd,rfl⟩
  repeat refine ay (a _) ?_
  refine cO (a _) (by simp only[*,go_sem,-a,-hJ,Int.reduceBEq,Int.reduceBNe]) ?_
  repeat refine ay (a _) ?_
  refine aW a fun K b=>?_
  refine sS kP ⟨_,_,_,rfl,(by first|(simp only[*,go_sem,-b,-a,-hJ];done)|rfl),rfl,by first|(simp only[*,go_sem,-b,-a,-hJ,muA,msA,stA,smA,Int.reduceBEq,Int.reduceBNe];done)|(simp only[*,go_sem,-b,-a,-hJ,muA,msA,stA,smA,Int.reduceBEq,Int.reduceBNe];rfl),rfl⟩ (by simp) (by simp) rfl ?_
  refine ai.nil a (b _ _ _ ?_);clear b K
  repeat refine ay (a _) ?_
  refine aW a fun K b=>?_
  refine ai.bp (hJ _ rfl) 1 (n:=2) _ rfl rfl ?_;simp only[*,go_sem,-b,-a,-hJ,muA,msA,stA,smA,Int.reduceBEq,Int.reduceBNe]
  refine sV ⟨Mu,0,none⟩ wS kQ wU ⟨_,rfl,(by first|(simp only[*,go_sem,-b,-a,-hJ];done)|rfl),rfl,rfl⟩ (by simp) (by simp only[*,go_sem,-b,-a,-hJ,muA,msA,stA,smA,Int.reduceBEq,Int.reduceBNe]) w8 ?_
  refine BL sO ⟨_,_,_,rfl,(by first|(simp only[*,go_sem,-b,-a,-hJ];done)|rfl),rfl,by first|(simp only[*,go_sem,-b,-a,-hJ,muA,msA,stA,smA,Int.reduceBEq,Int.reduceBNe];done)|(simp only[*,go_sem,-b,-a,-hJ,muA,msA,stA,smA,Int.reduceBEq,Int.reduceBNe];rfl),rfl⟩ (by rfl) ?_
  refine ai.nil a (b _ _ _ ?_);clear b K
  exact kN rfl (by simp only[*,go_sem,-a,-hJ]) ⟨rfl,rfl,rfl⟩
end
end Go.Proofs.YtipgiooobncfbaaGreatDoor
end
section
namespace Go.Proofs.YtipgiooobncfbaaGreatDoor
open Go Go.Sep Go.Proofs Go.Conc
open Go.ConcN (upd upd_same)
open Go.ConcM (muA msA)
open Go.ConcR (stA smA)
set_option maxRecDepth 100000
set_option maxHeartbeats 4000000
section
variable {Mu Wg Is n base T0 i : Nat} {bs : Nat → Bool} {st : Bool} {F : ag}
theorem Ib (b:Mu≠Wg/\Mu≠Is/\Wg≠Is)(c:n<67108864):
  cw Tryz.prog (WJ (CY Mu Wg Is n bs base T0) i) 134 #[.pointer (some (muA Mu))] F ⟨.idle,.cnt,st,0⟩ (fun v F' aJ=>v= .tuple #[]/\F'=F/\aJ=⟨.held,.cnt,st,0⟩):=by
 have a:=WJ.dX (CY Mu Wg Is n bs base T0) i
 have hJ:∀ph:Ph,ph.gp= .cnt->Go.Sep.Closed Tryz.prog false (WJ (CY Mu Wg Is n bs base T0) i ph):=fun ph h=>Wk.closed (CY Mu Wg Is n bs base T0) i ph h
 refine cw.go (main:=false) a Tryz.func134 rfl Tryz.ntmps134 (by simp) fun A e hd hs=>?_
 have f:=hs 0
 clear hs
 repeat refine ay (a _) ?_
 refine cP a ?_
 refine ai.bp (hJ _ rfl) 3 (n:=1) _ rfl rfl ?_;simp only[*,go_sem,muA,msA,stA,smA,Int.reduceBEq,Int.reduceBNe]
 refine ai.fB (a _) rfl rfl rfl Dk (by simp only[*,go_sem,muA]) (HX b (Ia b c)) fun v F' aJ d=>?_
 obtain ⟨rfl,rfl,rfl⟩:=d
 refine ai.nil a ?_
 exact kN rfl (by simp only[*,go_sem]) ⟨rfl,rfl,rfl⟩
theorem Ic (b:Mu≠Wg/\Mu≠Is/\Wg≠Is)(c:n<67108864):
  cw Tryz.prog (WJ (CY Mu Wg Is n bs base T0) i) 135 #[.pointer (some (muA Mu))] F ⟨.held,.cnt,st,0⟩ (fun v F' aJ=>v= .tuple #[]/\F'=F/\aJ=⟨.fin,.cnt,st,0⟩):=by
 have a:=WJ.dX (CY Mu Wg Is n bs base T0) i
 have hJ:∀ph:Ph,ph.gp= .cnt->Go.Sep.Closed Tryz.prog false (WJ (CY Mu Wg Is n bs base T0) i ph):=fun ph h=>Wk.closed (CY Mu Wg Is n bs base T0) i ph h
 refine cw.go (main:=false) a Tryz.func135 rfl Tryz.ntmps135 (by simp) fun A e hd hs=>?_
 have f:=hs 0
 clear hs
 repeat refine ay (a _) ?_
 refine cP a ?_
 refine ai.bp (hJ _ rfl) 3 (n:=1) _ rfl rfl ?_;simp only[*,go_sem,muA,msA,stA,smA,Int.reduceBEq,Int.reduceBNe]
 refine ai.fB (a _) rfl rfl rfl Dl (by simp only[*,go_sem,muA]) (H6 b c) fun v F' aJ d=>?_
 obtain ⟨rfl,rfl,rfl⟩:=d
 refine ai.nil a ?_
 exact kN rfl (by simp only[*,go_sem]) ⟨rfl,rfl,rfl⟩
end
end Go.Proofs.YtipgiooobncfbaaGreatDoor
end
section
namespace Go.Sep
open Go Go.Conc
def s0 (op:BinOp)(u v:Value):Option Value:=match op with
 | .shl=>match u,v with
  | .int k a,.int _ b=>if b<0 then none else some (.int k (k.wrap (a*2 ^ min b.toNat k.bits)))
  |_,_=>none
 | .shr=>match u,v with
  | .int k a,.int _ b=>if b<0 then none else some (.int k (a.fdiv (2 ^ min b.toNat k.bits)))
  |_,_=>none
 |_=>mK op u v
def og (P:Program)(op:Op)(a:Act):Option Value:=match op with
 | .move x| .assign x=>some (ev a x)
 | .nilCheck x=>match ev a x with
  | .pointer (some ad)=>some (.pointer (some ad))
  |_=>none
 | .pick c x y=>match ev a c with
  | .bool b=>some (if b then ev a x else ev a y)
  |_=>none
 | .binOp op t x y _=>s0 op (ev a x) (ev a y)
 | .unOp op _ x=>kY op (ev a x)
 | .convert src dst x=>k3 P src dst (ev a x)
 | .fieldAddr s x n=>match ev a x with
  | .pointer (some ad)=>match cD P s n with
   |some k=>some (.pointer (some (ad.add k)))
   |none=>none
  |_=>none
 |_=>none
theorem Ie {P:Program}{op:BinOp}{t:TypeId}{x y:Operand}{u v r:Value}(h:s0 op u v=some r)(w:World):
  (do eqGuard op t x y u v;pure (.value (<-binOp op t u v)):Sem Next).run P w= .ok (.value r) w/\(do eqGuard op t x y u v;pure (.value (<-binOp op t u v)):Sem Next).events P w #[]=#[]:=by
 unfold s0 at h
 split at h
 ·split at h
  case h_2=>cases h
  split at h
  ·cases h
  ·rename_i hb;cases h;simp[eqGuard,binOp,Op.shift,hb]
 ·split at h
  case h_2=>cases h
  split at h
  ·cases h
  ·rename_i hb;cases h;simp[eqGuard,binOp,Op.shift,hb]
 ·rename_i n1 n2
  unfold mK at h
  split at h
  case h_2=>cases h
  rename_i k a d b
  split at h
  case isFalse=>cases h
  rename_i c
  subst c
  cases op<;>simp only[binOp,ne_eq,not_true_eq_false,if_false,Op.intArith,Op.intDiv,Op.intCmp,Op.intBits,Op.shift,eqGuard] at h ⊢<;>first
   |(cases h;done)
   |(exact absurd rfl n1)
   |(exact absurd rfl n2)
   |(cases h;simp;done)
   |(split at h
     ·cases h
     ·rename_i hb;cases h;simp[hb])
theorem BQ {P:Program}{o:Oper}{a:Act}{v:Value}(h:og P o.op a=some v)(w:World):(execOp a.eval o).run P w= .ok (.value v) w/\(execOp a.eval o).events P w #[]=#[]:=by
 obtain ⟨dst,op,type,pos,after,guard⟩:=o
 unfold execOp
 simp only[ei] at h ⊢
 unfold og at h
 cases op<;>simp only[reduceCtorEq] at h ⊢
 case move x=>cases h;simp
 case assign x=>cases h;simp
 case nilCheck x=>
  split at h
  ·rename_i ad e;cases h;simp[e]
  ·cases h
 case pick c x y=>
  split at h
  ·rename_i b hb;cases h;simp[hb,asBool]
  ·cases h
 case binOp op t x y r=>have:=Ie (P:=P) (t:=t) (x:=x) (y:=y) h w;simpa using this
 case unOp op t x=>
  revert h
  cases ev a x<;>cases op<;>simp only[kY,reduceCtorEq,false_implies,Option.some.injEq]<;>intro h<;>subst h<;>simp[Op.unary,Op.intArith]
 case convert src dst x=>
  revert h
  cases e:ev a x<;>simp only[k3,reduceCtorEq,false_implies]
  intro h
  split at h
  ·rename_i k1 u h1 h2
   cases h
   simp[convert,run_underlying h1,run_underlying h2,Conv.intToInt]
  ·cases h
 case fieldAddr s x n=>
  split at h
  case h_2=>cases h
  rename_i ad i
  split at h
  case h_2=>cases h
  rename_i k d
  cases h
  unfold cD at d
  split at d
  case h_2=>cases d
  rename_i z g
  split at d
  case h_2=>cases d
  rename_i f j
  split at d
  case h_2=>cases d
  rename_i m hm
  cases d
  obtain ⟨inf,l,p⟩:=Option.map_eq_some_iff.1 hm
  have q:Instr.sureAddr (.pointer (some ad))=(Pure.pure ad:Sem Addr):=rfl
  simp[Instr.fieldAt,run_underlying g,g,j,i,q,fieldPlace,Go.sizeOf,typeInfo,l,p,Result.andThen,Result.evThen]
def hO (P:Program)(ops:Array Oper)(K:Act->Prop):List Oper->Act->Prop
 |[],a=>K a
 |o::rest,a=>match cq ops o a with
  |some true=>match og P o.op a with
   |some v=>hO P ops K rest (aY a o.dst v)
   |none=>False
  |some false=>hO P ops K rest (aY a o.dst undef)
  |none=>False
theorem Ig {P:Program}{ops:Array Oper}{K:Act->Prop}{a:Act}:hO P ops K [] a=K a:=(Eq.refl _).trans (Eq.refl _)
theorem Ih {P:Program}{ops:Array Oper}{K:Act->Prop}{o:Oper}{rest:List Oper}{a:Act}:hO P ops K (o::rest) a=match cq ops o a with
  |some true=>match og P o.op a with
   |some v=>hO P ops K rest (aY a o.dst v)
   |none=>False
  |some false=>hO P ops K rest (aY a o.dst undef)
  |none=>False:=(Eq.refl _).trans (Eq.refl _)
attribute [go_sem] Ig Ih og s0
section
variable {P : Program} {main : Bool} {S : Type} {JF : S → Goroutine → ag → Prop} {fi : FuncId} {ops : Array Oper} {F : ag} {ph : S} {Q : Act → ag → S → Prop}
theorem w9 (d:dH P main (JF ph)):∀(l:List Oper) (i n:Nat) (a:Act),(∀j o,l[j]?=some o->ops[i+j]?=some o)->hO P ops (fun b=>ai JF fi ops (i+l.length) n Q b F ph) l a->ai JF fi ops i (l.length+n) Q a F ph
 |[],i,n,a,_,h=>by rw[List.length_nil,Nat.zero_add];exact h
 |o::rest,i,n,a,k,h=>by
  have m:ops[i]?=some o:=k 0 o rfl
  have p:∀j x,rest[j]?=some x->ops[i+1+j]?=some x:=fun j x q=>by rw[Nat.add_assoc,Nat.add_comm 1 j];exact k (j+1) x q
  have e:(o::rest).length+n=(rest.length+n)+1:=by rw[List.length_cons];omega
  have e2:∀b,ai JF fi ops (i+(o::rest).length) n Q b F ph->ai JF fi ops (i+1+rest.length) n Q b F ph:=fun b x=>by
   rw[show i+1+rest.length=i+(o::rest).length by rw[List.length_cons];omega];exact x
  rw[e]
  have mono:∀(l:List Oper) (a:Act) {K f:Act->Prop},(∀a,K a->f a)->hO P ops K l a->hO P ops f l a:=by
   intro l
   induction l with
   |nil=>intro a K f g h;exact g a h
   |cons o l ih=>
    intro a K f g h
    unfold hO at h ⊢
    cases hg:cq ops o a with
    |none=>rw[hg] at h;exact h.elim
    |some t=>
     rw[hg] at h
     cases t with
     |false=>exact ih _ g h
     |true=>
      simp only at h ⊢
      cases c:og P o.op a with
      |none=>rw[c] at h;exact h.elim
      |some v=>rw[c] at h;exact ih _ g h
  unfold hO at h
  split at h
  ·rename_i hg
   split at h
   ·rename_i v c
    exact ai.plain d v m hg (fun w=>(BQ c w).1) (fun w=>(BQ c w).2) (w9 d rest (i+1) n _ p (mono _ _ e2 h))
   ·exact h.elim
  ·rename_i hg
   exact ai.skip d m hg (w9 d rest (i+1) n _ p (mono _ _ e2 h))
  ·exact h.elim
theorem ai.pure (d:dH P main (JF ph))(m:Nat){i n:Nat}{a:Act}(l:List Oper)(c:(ops.toList.drop i).take m=l)(hm:l.length=m)(h:hO P ops (fun e=>ai JF fi ops (i+m) n Q e F ph) l a):ai JF fi ops i (m+n) Q a F ph:=by
 subst hm
 refine w9 d l i n a (fun j o b=>?_) h
 rw[<-c] at b
 have f:j<l.length:=by
  rcases Nat.lt_or_ge j l.length with x|x
  ·exact x
  ·rw[c,List.getElem?_eq_none x] at b;cases b
 rw[List.getElem?_take,if_pos f,List.getElem?_drop] at b
 simpa using b
end
end Go.Sep
end
section
namespace Go.Sep
open Go Go.Conc
open Go.ConcN (sumTo upd upd_ne upd_same)
open Go.ConcM (MuAt muA msA muBlock OsLater)
open Go.ConcR (WgAt wgBlock stA smA)
section
variable {c : Cy} {i : Nat} {ph : Ph} {ops : Array Oper} {j n : Nat} {Q : Act → ag → Ph → Prop} {a : Act} {F : ag} {f fi : FuncId} {d : Option Tmp}
theorem Inv.group {k:Nat}{φ:Nat->Ph}{p0:P0}{s:Sh}(h:Inv c.n c.bs k φ p0 s)(hi:i<c.n)(he:φ i=ph)(h1:ph.gp≠ .new)(h2:ph.gp≠ .cnt){gp:Gp}(a:gp≠ .new){wg ws:Int}
  (hw:de c.n (upd φ i {ph with gp:=gp}) p0 wg ws):Inv c.n c.bs k (upd φ i {ph with gp:=gp}) p0 {s with wg:=wg,ws:=ws}:=by
 obtain ⟨C,S,W,L,m,hm⟩:=h.m
 refine h.jk hi he h1 a ⟨C,S,W,L,m,mA hm hi _ (.inl (by rw[he]))⟩ hw ?_ (fun _=>?_)
 ·have:=h.i.all i hi
  rw[he] at this
  exact (w5 this).symm
 ·have:=h.i.done i hi (by rw[he];exact h2) (by rw[he];exact h1)
  rw[he] at this
  exact this
theorem Ii (l:Entry c.P f (Extern.Atomic.update (Op.intArith .add) .u64 true))(m:c.Mu≠c.Wg/\c.Mu≠c.Is/\c.Wg≠c.Is)(G:c.n<67108864)(p:At ops j a f [.pointer (some (stA c.Wg)),.int .u64 18446744069414584320] d)
  (h1:ph.gp= .rel) (h0:0<ph.deaf)
  (h:∀v t:Nat,v<=c.n->t<=1->ai (WJ c i) fi ops (j+1) n Q (aY a d (.int .u64 ((v:Int)*4294967296+t))) F {ph with gp:=if v=0/\t=1 then .ld else .gone}):
  ai (WJ c i) fi ops j (n+1) Q a F ph:=by
 obtain ⟨o,cp,cZ,g,hg,q,r,rfl⟩:=p
 obtain ⟨x,y,rfl,u,z⟩:=qo r
 obtain ⟨fn,f1,f2,f3,f4,f5⟩:=l.ex
 refine eY g (by rw[h1];simp) fun w s k φ p0 _ hs hi he e=>.inr ?_
 obtain ⟨v,t,e1,ht,A,_⟩:=Bc e.w hi ph (by rw[he];exact h1)
 obtain ⟨B,C,D,H,_,hw⟩:=Bc e.w hi {ph with gp:=if v=0/\t=1 then .ld else .gone} (by rw[he];exact h1)
 obtain ⟨rfl,rfl⟩:v=B/\t=C:=by simp only[cM] at e1 D;omega
 have e2:IntKind.u64.wrap (s.wg+18446744069414584320)=(v:Int)*4294967296+t:=by
  rw[e1]
  unfold IntKind.wrap
  simp only[IntKind.bits,IntKind.signed,cM]
  simp
  omega
 have E:s.wg - cM=(v:Int)*4294967296+t:=by rw[e1];simp only[cM];omega
 refine ⟨.int .u64 ((v:Int)*4294967296+t),_,_,{s with wg:=(v:Int)*4294967296+t},{ph with gp:=if v=0/\t=1 then .ld else .gone},fun b I cs hb=>by rw[<-e2];exact stepG_add_atomic g (b7 hg) hb.kind q f1 f2 f3 f4 .u64 f5 u z hs.wg.1 hs.wg.2,by rw[<-e2];exact hs.sR m _,.set _ (.inr (.inl rfl)),?_,wY rfl ?_ h0 (.inl rfl),.inr dm,h v t A ht⟩
 ·refine e.group hi he (by rw[h1];simp) (by rw[h1];simp) (by split<;>simp) ?_
  rw[<-E]
  exact hw rfl
 ·simp only[h1];split<;>simp
theorem Ij (l:Entry c.P f (Extern.Atomic.loadT (.int .u64)))(m:At ops j a f [.pointer (some (stA c.Wg))] d)(h1:ph.gp= .ld)(h0:0<ph.deaf)
  (h:ai (WJ c i) fi ops (j+1) n Q (aY a d (.int .u64 1)) F {ph with gp:=.st}):ai (WJ c i) fi ops j (n+1) Q a F ph:=by
 obtain ⟨o,cp,cZ,e,hg,p,q,rfl⟩:=m
 obtain ⟨x,rfl,r⟩:=jo q
 obtain ⟨fn,f1,f2,f3,f4,f5⟩:=l.ex
 refine eY e (by rw[h1];simp) fun w s k φ p0 _ hs hi he g=>.inr ?_
 obtain ⟨e1,hw⟩:=G3 g.w hi {ph with gp:=.st} (by rw[he];exact h1) rfl
 exact ⟨.int .u64 1,_,_,s,{ph with gp:=.st},fun b t cs hb=>by rw[<-e1];exact stepG_load_atomic e (b7 hg) hb.kind p f1 f2 f3 f4 .u64 f5 r hs.wg.1,hs,.refl _ _,g.group hi he (by rw[h1];simp) (by rw[h1];simp) (by simp) hw,wX false rfl (by simp[h1]) h0 (.inl rfl),.inr dm,h⟩
theorem Ik (l:Entry c.P f Extern.Atomic.storeT)(m:c.Mu≠c.Wg/\c.Mu≠c.Is/\c.Wg≠c.Is)(p:At ops j a f [.pointer (some (stA c.Wg)),.int .u64 0] d)(h1:ph.gp= .st)(h0:0<ph.deaf)
  (h:ai (WJ c i) fi ops (j+1) n Q (aY a d (.tuple #[])) F {ph with gp:=.sm}):ai (WJ c i) fi ops j (n+1) Q a F ph:=by
 obtain ⟨o,cp,cZ,e,hg,q,r,rfl⟩:=p
 obtain ⟨x,y,rfl,t,u⟩:=qo r
 obtain ⟨fn,f1,f2,f3,f4,f5⟩:=l.ex
 refine eY e (by rw[h1];simp) fun w s k φ p0 _ hs hi he g=>.inr ?_
 obtain ⟨e1,hw⟩:=G4 g.w hi {ph with gp:=.sm} (by rw[he];exact h1) rfl
 exact ⟨.tuple #[],_,_,{s with wg:=0},{ph with gp:=.sm},fun b v cs hb=>stepG_store_atomic e (b7 hg) hb.kind q f1 f2 f3 f4 f5 t u hs.wg.1 hs.wg.2,hs.sR m _,.set _ (.inr (.inl rfl)),g.group hi he (by rw[h1];simp) (by rw[h1];simp) (by simp) hw,wX true rfl (by simp[h1]) h0 (.inl rfl),.inr dm,h⟩
theorem Il (q r:Value)(g:Entry c.P f Extern.Sync.semrelease)(t:c.Mu≠c.Wg/\c.Mu≠c.Is/\c.Wg≠c.Is)(u:At ops j a f [.pointer (some (smA c.Wg)),q,r] d)(h1:ph.gp= .sm)
  (h:ai (WJ c i) fi ops (j+1) n Q (aY a d (.tuple #[])) F {ph with gp:=.gone}):ai (WJ c i) fi ops j (n+1) Q a F ph:=by
 obtain ⟨o,cp,cZ,l,hg,m,v,rfl⟩:=u
 obtain ⟨x,y,z,rfl,e,_,_⟩:=qp v
 obtain ⟨fn,f1,f2,f3,f4,f5⟩:=g.ex
 refine eY l (by rw[h1];simp) fun w s k φ p0 _ hs hi he p=>.inr ?_
 obtain ⟨e1,hw⟩:=G5 p.w hi {ph with gp:=.gone} (by rw[he];exact h1) rfl
 have A:IntKind.u32.wrap (s.ws+1)=s.ws+1:=by rw[e1];decide
 refine ⟨.tuple #[],_,_,{s with ws:=s.ws+1},{ph with gp:=.gone},fun b B cs hb=>stepG_semrelease l (b7 hg) hb.kind m f1 f2 f3 f4 f5 (by simp[ei,e]) hs.ws.1 hs.ws.2,by rw[A];exact hs.BJ t _,.set _ (.inr (.inl rfl)),
  p.group hi he (by rw[h1];simp) (by rw[h1];simp) (by simp) hw,wZ rfl (by simp[h1]) (.inl rfl),.inl ⟨_,m,fun x e=>?_⟩,h⟩
 cases e
 exact ⟨f,rfl,g.Bx⟩
end
end Go.Sep
end
section
namespace Go.Sep
open Go Go.Conc
open Go.ConcN (sumTo upd upd_ne upd_same)
theorem ai.defer {P:Program}{main:Bool}{S:Type}{JF:S->Goroutine->ag->Prop}{fi f:FuncId}{ops:Array Oper}{j n:Nat}{Q:Act->ag->S->Prop}{a:Act}{F:ag}{ph:S}(e:dH P main (JF ph)){o:Oper}{cp:Array Operand}{cZ:Array TypeId}{vals:Array Value}
  (g:ops[j]?=some o) (hg:cq ops o a=some true) (k:o.op= .defer {callee:=.value (.func f),args:=cp,argTypes:=cZ}) (hd:o.dst=none) (l:cp.map a.eval=vals)
  (h:∀c:Act,(∀i,slot c i=slot a i)->sz c=sz a->c.defers=dcall f vals::a.defers->ai JF fi ops (j+1) n Q c F ph):ai JF fi ops j (n+1) Q a F ph:=fun b d cs hb m=>by
 rw[List.range'_succ,eo hb.round]
 refine e.move (fr':=b.at (Act.put ⟨a.tmps,dcall f (cp.map a.eval)::a.defers⟩ o.dst undef) (.inRegion ops (List.range' (j+1) n)::d)) (fun w=>stepG_defer g (b7 hg) hb.kind k) ?_
 rw[<-eo hb.round,hd,l]
 exact h ⟨a.tmps,dcall f vals::a.defers⟩ (fun _=>rfl) rfl rfl b d cs hb m
section
variable {c : Cy} {i : Nat} {ph : Ph} {F : ag} {f : FuncId}
theorem Im (g:Entry c.P f (fun _=>do mark .enable;pure Extern.Race.none_))(hg:ph.gp= .gone){d:Nat}(hd:ph.deaf=d+1){b:Frame}{a:Act}{todo:List Item}{cs:List Frame}{e:List Deferred}(j:a.defers=dcall f #[]::e)
  (h:WJ c i {ph with deaf:=d} (G {b.at ⟨a.tmps,e⟩ todo with mode:=.returning} cs) F):WJ c i ph (G {b.at a todo with mode:=.returning} cs) F:=by
 obtain ⟨F0,r,hle,hW⟩:=h
 obtain ⟨q,_,k⟩:=hW.left hg
 obtain ⟨fn,f1,f2,f3,f4,f5⟩:=g.ex
 refine Wk.gone (q:=q+1) hg (QuitsD.unwind_mark .enable rfl (by simp) j f1 f2 f3 f4 f5 ?_)
 rw[hd]
 exact k
def jX (f:FuncId)(R:Value->ag->Ph->Prop):Ex->Act->ag->Ph->Prop
 | .exit _,_,_,_=>False
 |_,a,F,ph=>a.defers=[dcall f #[]]/\ph.gp= .gone/\∃b,ph.deaf=b+1/\R (.tuple #[]) F {ph with deaf:=b}
theorem cw.Io {f0:FuncId}(p:Entry c.P f (fun _=>do mark .enable;pure Extern.Race.none_)){fn:Func}{cd:Code}{n:Nat}{args:Array Value}{R:Value->ag->Ph->Prop}(l:c.P.funcs[f0]?=some fn)(hb:fn.body=some cd)(m:fn.results=#[])(o:fn.ntmps=n)(v:args.size<=n)
  (h:∀A:Act,sz A=n->A.defers=[]->(∀i,slot A i=args.getD i undef)->cC (WJ c i) f0 cd (jX f R) A F ph):cw c.P (WJ c i) f0 args F ph R:=by
 intro d cs q
 let b:Frame:={(default:Frame) with fn:=f0,kind:=.normal}
 have r:b.roundOf=none:=rfl
 have s:Frame.enter c.P f0 args .normal=on b {tmps:=args++Array.replicate (fn.ntmps - args.size) undef,defers:=[]} [.code cd]:=by
  simp[Frame.enter,on,l,hb,b]
  rfl
 rw[s]
 have g:=WJ.dX c i
 have leave:∀(a:Act) (todo:List Item) F' (aJ:Ph),(a.defers=[dcall f #[]]/\aJ.gp= .gone/\∃j,aJ.deaf=j+1/\R (.tuple #[]) F' {aJ with deaf:=j})->WJ c i aJ (G {on b a todo with mode:=.returning} (d::cs)) F':=by
  intro a todo F' aJ ⟨hd,hg,j,t,u⟩
  rw[eo r]
  refine Im p hg t hd ((g _).move (fr':=d.finish (.tuple #[])) (cs':=cs) (fun w=>?_) (q _ F' _ u))
  exact stepG_leave rfl rfl l (results_none m _ c.P w) (events_results_none m _ _)
 refine h _ (by simp[sz,o];omega) rfl (fun i=>?_) b [] (d::cs) ⟨by simp[b],rfl,rfl⟩ fun e a F' aJ k=>?_
 ·simp only[slot,o,Array.getD_eq_getD_getElem?]
  rcases Nat.lt_or_ge i args.size with hi|hi
  ·rw[Array.getElem?_append_left hi]
  ·rw[Array.getElem?_append_right hi,Array.getElem?_replicate,Array.getElem?_eq_none hi]
   split<;>rfl
 ·cases e with
  |normal=>exact (g aJ).move (fun _=>kT rfl) (leave a _ F' aJ k)
  |exit i=>exact k.elim
  |ret=>exact fun x=>(g aJ).move (fun _=>stepG_ret' rfl) (leave a _ F' aJ k)
def xb (R:ag->Ph->Prop):Ex->Act->ag->Ph->Prop
 | .exit _,_,_,_=>False
 |_,a,F,ph=>a.defers=[]/\R F ph
theorem Ip {f0:FuncId}{fn:Func}{cd:Code}{n:Nat}{args:Array Value}{R:ag->Ph->Prop}(k:c.P.funcs[f0]?=some fn)(p:(fn.name== "runtime.NumGoroutine")=false)(hb:fn.body=some cd)(l:fn.results=#[])(m:fn.ntmps=n)(t:args.size<=n)
  {b:Frame} {a:Act} {todo:List Item} {cs:List Frame} {f:List Deferred} (q:a.defers=dcall f0 args::f)
  (h:∀A:Act,sz A=n->A.defers=[]->(∀i,slot A i=args.getD i undef)->cC (WJ c i) f0 cd (xb R) A F ph)
  (r:∀F' aJ,R F' aJ->WJ c i aJ (G {b.at ⟨a.tmps,f⟩ todo with mode:=.returning} cs) F'):WJ c i ph (G {b.at a todo with mode:=.returning} cs) F:=by
 have g:=WJ.dX c i
 refine (g ph).move (fun w=>stepG_unwind_enter q k p hb) ?_
 have leave:∀(d:Act) (o:List Item) F' (aJ:Ph),(d.defers=[]/\R F' aJ)->WJ c i aJ (G {(baseD f0).at d o with mode:=.returning} ({b.at ⟨a.tmps,f⟩ todo with mode:=.returning}::cs)) F':=by
  intro d o F' aJ ⟨hd,s⟩
  exact (g _).move (fun w=>stepG_leave_deferred rfl hd k (results_none l _ c.P w) (events_results_none l _ _) rfl) (r F' aJ s)
 have:=h {tmps:=args++Array.replicate (fn.ntmps - args.size) undef,defers:=[]} (by simp[sz,m];omega) rfl (fun i=>?_) (baseD f0) [] ({b.at ⟨a.tmps,f⟩ todo with mode:=.returning}::cs) ⟨by simp[baseD],rfl,rfl⟩ fun e d F' aJ j=>?_
 ·rw[eo rfl] at this;exact this
 ·simp only[slot,m,Array.getD_eq_getD_getElem?]
  rcases Nat.lt_or_ge i args.size with hi|hi
  ·rw[Array.getElem?_append_left hi]
  ·rw[Array.getElem?_append_right hi,Array.getElem?_replicate,Array.getElem?_eq_none hi]
   split<;>rfl
 ·cases e with
  |normal=>exact (g aJ).move (fun _=>kT rfl) (leave d _ F' aJ j)
  |exit i=>exact j.elim
  |ret=>exact fun u=>(g aJ).move (fun _=>stepG_ret' rfl) (leave d _ F' aJ j)
end
attribute [go_sem] jX xb
end Go.Sep
end
section
namespace Go.Sep
open Go
def jY (x y:Int):Int:=IntKind.u64.wrap ((BitVec.ofInt 64 x&&& BitVec.ofInt 64 y).toNat:Int)
@[go_sem] theorem O6 (x y:Int):IntKind.u64.wrap ((@HAnd.hAnd (BitVec 64) (BitVec 64) (BitVec 64) (@instHAndOfAndOp (BitVec IntKind.u64.bits) (@BitVec.instAndOp IntKind.u64.bits)) (BitVec.ofInt 64 x) (BitVec.ofInt 64 y)).toNat:Int)=jY x y:=rfl
theorem xd (v t:Nat)(a:v<2147483648)(ht:t<=1):jY ((v:Int)*4294967296+(t:Int)) 2147483648=0:=Go.ConcN.st_flag v t a ht
theorem xe (v t:Nat)(a:v<2147483648)(ht:t<=1):jY ((v:Int)*4294967296+(t:Int)) 2147483647=(t:Int):=Go.ConcN.st_waiters v t a ht
theorem xg (v t:Nat)(ht:t<=1):((v:Int)*4294967296+(t:Int)).fdiv 4294967296=v:=by
 rw[Int.fdiv_eq_ediv_of_nonneg _ (by decide)]
 omega
end Go.Sep
namespace Go.Proofs.YtipgiooobncfbaaGreatDoor
open Go Go.Sep Go.Proofs Go.Conc
open Go.ConcN (upd upd_same)
open Go.ConcM (muA msA)
open Go.ConcR (stA smA)
set_option maxRecDepth 100000
set_option maxHeartbeats 4000000
set_option linter.all false
section
variable {Mu Wg Is n base T0 i : Nat} {bs : Nat → Bool} {st : Bool} {F : ag}
theorem Iq (w:World)(s:Sh)(h:cn (CY Mu Wg Is n bs base T0) w s):∃v,w.cell? ⟨Wg,0,none⟩=some v:=⟨_,h.wg.1⟩
theorem Ir (b:Mu≠Wg/\Mu≠Is/\Wg≠Is)(c:n<67108864){mp:Mp}:
  cw Tryz.prog (WJ (CY Mu Wg Is n bs base T0) i) 158 #[.pointer (some (stA Wg)),.int .u64 18446744069414584320] F ⟨mp,.rel,st,1⟩
   (fun r F' aJ=>F'=F/\∃v t:Nat,v<=n/\t<=1/\r= .int .u64 ((v:Int)*4294967296+(t:Int))/\aJ=⟨mp,if v=0/\t=1 then .ld else .gone,st,1⟩):=by
 have a:=WJ.dX (CY Mu Wg Is n bs base T0) i
 refine cw.go (main:=false) a Tryz.func158 rfl Tryz.ntmps158 (by simp) fun A e hd hs=>?_
 have f:=hs 0
 have k1:=hs 1
 clear hs
 repeat refine ay (a _) ?_
 refine cP a ?_
 refine ai.pure (a _) 1 (n:=0) _ rfl rfl ?_;simp only[*,go_sem,muA,msA,stA,smA,Int.reduceBEq,Int.reduceBNe]
 refine ai.nil a ?_;try simp only[go_sem]
 repeat refine ay (a _) ?_
 refine cP a ?_
 refine ai.pure (a _) 4 (n:=2) _ rfl rfl ?_;simp only[*,go_sem,muA,msA,stA,smA,Int.reduceBEq,Int.reduceBNe]
 refine Ii BB b c ⟨_,_,_,rfl,(by first|rfl|simp only[*,go_sem,Int.reduceBEq,Int.reduceBNe]),rfl,by first|(simp only[*,go_sem,muA,msA,stA,smA,Int.reduceBEq,Int.reduceBNe];done)|(simp only[*,go_sem,muA,msA,stA,smA,Int.reduceBEq,Int.reduceBNe];rfl),rfl⟩ (by rfl) (by simp) fun v t d ht=>?_
 refine ai.pure (a _) 1 (n:=0) _ rfl rfl ?_;simp only[*,go_sem,muA,msA,stA,smA,Int.reduceBEq,Int.reduceBNe]
 refine ai.nil a ?_;try simp only[go_sem]
 refine eX ?_;try simp only[go_sem]
 exact (kO rfl (by simp only[*,go_sem]) (by simp only[*,go_sem]) ⟨rfl,v,t,d,ht,rfl,rfl⟩).2
theorem It {mp:Mp}:
  cw Tryz.prog (WJ (CY Mu Wg Is n bs base T0) i) 160 #[.pointer (some (stA Wg))] F ⟨mp,.ld,st,1⟩
   (fun r F' aJ=>F'=F/\r= .int .u64 1/\aJ=⟨mp,.st,st,1⟩):=by
 have a:=WJ.dX (CY Mu Wg Is n bs base T0) i
 refine cw.go (main:=false) a Tryz.func160 rfl Tryz.ntmps160 (by simp) fun A b hd hs=>?_
 have c:=hs 0
 clear hs
 repeat refine ay (a _) ?_
 refine cP a ?_
 refine ai.pure (a _) 1 (n:=0) _ rfl rfl ?_;simp only[*,go_sem,muA,msA,stA,smA,Int.reduceBEq,Int.reduceBNe]
 refine ai.nil a ?_;try simp only[go_sem]
 repeat refine ay (a _) ?_
 refine cP a ?_
 refine ai.pure (a _) 3 (n:=2) _ rfl rfl ?_;simp only[*,go_sem,muA,msA,stA,smA,Int.reduceBEq,Int.reduceBNe]
 refine Ij wR ⟨_,_,_,rfl,(by first|rfl|simp only[*,go_sem,Int.reduceBEq,Int.reduceBNe]),rfl,by first|(simp only[*,go_sem,muA,msA,stA,smA,Int.reduceBEq,Int.reduceBNe];done)|(simp only[*,go_sem,muA,msA,stA,smA,Int.reduceBEq,Int.reduceBNe];rfl),rfl⟩ (by rfl) (by simp) ?_
 refine ai.pure (a _) 1 (n:=0) _ rfl rfl ?_;simp only[*,go_sem,muA,msA,stA,smA,Int.reduceBEq,Int.reduceBNe]
 refine ai.nil a ?_;try simp only[go_sem]
 refine eX ?_;try simp only[go_sem]
 exact (kO rfl (by simp only[*,go_sem]) (by simp only[*,go_sem]) ⟨rfl,rfl,rfl⟩).2
theorem Iu (b:Mu≠Wg/\Mu≠Is/\Wg≠Is){mp:Mp}:
  cw Tryz.prog (WJ (CY Mu Wg Is n bs base T0) i) 161 #[.pointer (some (stA Wg)),.int .u64 0] F ⟨mp,.st,st,1⟩
   (fun r F' aJ=>F'=F/\r= .tuple #[]/\aJ=⟨mp,.sm,st,1⟩):=by
 have a:=WJ.dX (CY Mu Wg Is n bs base T0) i
 refine cw.go (main:=false) a Tryz.func161 rfl Tryz.ntmps161 (by simp) fun A c hd hs=>?_
 have d:=hs 0
 have k1:=hs 1
 clear hs
 repeat refine ay (a _) ?_
 refine cP a ?_
 refine ai.pure (a _) 4 (n:=1) _ rfl rfl ?_;simp only[*,go_sem,muA,msA,stA,smA,Int.reduceBEq,Int.reduceBNe]
 refine Ik HH b ⟨_,_,_,rfl,(by first|rfl|simp only[*,go_sem,Int.reduceBEq,Int.reduceBNe]),rfl,by first|(simp only[*,go_sem,muA,msA,stA,smA,Int.reduceBEq,Int.reduceBNe];done)|(simp only[*,go_sem,muA,msA,stA,smA,Int.reduceBEq,Int.reduceBNe];rfl),rfl⟩ (by rfl) (by simp) ?_
 refine ai.nil a ?_;try simp only[go_sem]
 exact kN rfl (by simp only[*,go_sem]) ⟨rfl,rfl,rfl⟩
end
end Go.Proofs.YtipgiooobncfbaaGreatDoor
end
section
namespace Go.Sep
open Go Go.Conc
open Go.ConcN (sumTo upd upd_ne upd_same)
open Go.ConcM (MuAt muA msA muBlock OsLater)
open Go.ConcR (WgAt wgBlock stA smA)
structure X where
 Mu:Nat
 Wg:Nat
 Is:Nat
 n:Nat
 bs:Nat->Bool
 base:Nat
 T0:Nat
 B0:Nat
inductive Z where
 |free
 |co (x:X) (k:Nat) (p:P0) (d:Nat)
structure PT where
 P:Program
 tM:TypeId
 tW:TypeId
 tI:TypeId
abbrev X.cy (x:X)(T:PT):Cy:=⟨T.P,x.Mu,x.Wg,x.Is,T.tM,T.tW,T.tI,x.n,x.bs,x.base,x.T0⟩
def ZJ (T:PT)(Φ:Goroutine->ag->Prop):Z->Goroutine->ag->Prop
 | .free=>hH T.P Φ
 | .co x k p d=>fun g F=>(p= .reg->k=x.n)/\dW (x.cy T) x.B0 (hH T.P Φ) k p d g F
section
variable {T : PT} {Φ : Goroutine → ag → Prop} {x : X} {k d : Nat} {p : P0} {ops : Array Oper} {j n : Nat} {Q : Act → ag → Z → Prop} {a : Act} {F : ag} {o : Oper} {f fi : FuncId} {dt : Option Tmp}
theorem BR {c:Cy}:Ev0 c d d #[]:=⟨by simp,rfl⟩
theorem Iv {c:Cy}:Ev0 c d (d+1) #[cz .disable]:=⟨fun e he=>by simp at he;exact .inl he,rfl⟩
theorem BS {c:Cy}:Ev0 c (d+1) d #[cz .enable]:=⟨fun e he=>by simp at he;exact .inr (.inl he),rfl⟩
theorem xh {c:Cy}{ad:Addr}(y:Bool)(h:ad.block=c.Wg):Ev0 c d d #[⟨.cell ad,y,true⟩]:=⟨fun e he=>by simp at he;exact .inr (.inr ⟨ad,h,.inl ⟨y,he⟩⟩),by simp[deafBehind]⟩
theorem BT {c:Cy}{ad:Addr}(h:ad.block=c.Wg):Ev0 c d d #[⟨.cell ad,false,true⟩,⟨.cell ad,true,true⟩]:=
 ⟨fun e he=>by simp at he;rcases he with he|he<;>exact .inr (.inr ⟨ad,h,.inl ⟨_,he⟩⟩),by simp[deafBehind]⟩
theorem Iw {c:Cy}{ad:Addr}(h:ad.block=c.Wg):Ev0 c d d #[cz (.read ad)]:=⟨fun e he=>by simp at he;exact .inr (.inr ⟨ad,h,.inr (.inl he)⟩),by simp[deafBehind,cz]⟩
theorem Ix {c:Cy}{ad:Addr}(h:ad.block=c.Wg):Ev0 c d d #[cz (.write ad)]:=⟨fun e he=>by simp at he;exact .inr (.inr ⟨ad,h,.inr (.inr he)⟩),by simp[deafBehind,cz]⟩
theorem Iy {c:Cy}{ad:Addr}(h:ad.block=c.Wg):Ev0 c d d (semEvents ad):=by
 refine ⟨fun e he=>?_,by simp[deafBehind,semEvents]⟩
 simp[semEvents] at he
 rcases he with rfl|rfl|rfl|rfl
 ·exact .inl rfl
 ·exact .inr (.inr ⟨ad,h,.inl ⟨_,rfl⟩⟩)
 ·exact .inr (.inr ⟨ad,h,.inl ⟨_,rfl⟩⟩)
 ·exact .inr (.inl rfl)
theorem ZJ.dX (T:PT)(Φ:Goroutine->ag->Prop)(z:Z):dH T.P true (ZJ T Φ z):=by
 cases z with
 |free=>exact Closed.dX (Br T.P Φ)
 |co x k p d=>
  refine ⟨fun {fr fr' cs cs' F} hs h=>⟨h.1,dW.wM (c:=x.cy T) rfl rfl h.1 fun w s φ h1 h2 h3=>?_⟩⟩
  exact ⟨_,w,#[],s,p,d,hs w,h2,.refl _ _,h3,BR,.inr dm,h.2⟩
theorem ZJ.closed (T:PT)(Φ:Goroutine->ag->Prop){z:Z}(b:∀x k d,z≠ .co x k .reg d):Closed T.P true (ZJ T Φ z):=by
 cases z with
 |free=>exact Br T.P Φ
 |co x k p d=>
  have a:p≠ .reg:=fun e=>b x k d (by rw[e])
  have hC:=dW.closed (x.cy T) x.B0 (hH T.P Φ) k p d a
  exact ⟨fun hle h=>⟨h.1,hC.mono hle h.2⟩,fun {fr cs F} h=>⟨fun e=>absurd e a,hC.step fun w hw=>by
   obtain ⟨g',w',es,F',k1,c,f,g,i⟩:=h w hw
   exact ⟨g',w',es,F',k1,c,f,g,i.2⟩⟩⟩
theorem jZ (A:ops[j]?=some o)(i:p= .reg->k=x.n)
  (h:∀(w:World) (s:Sh) (φ:Nat->Ph),Has F w->cn (x.cy T) w s->Inv x.n x.bs k φ p s->
   ∃(v:Value) (w':World) (es:Array Event) (s':Sh) (f:P0) (g:Nat),(∀(b:Frame) (e:List Item) (cs:List Frame),BF fi b->
    stepG T.P true (G (b.at a (.inRegion ops (j::List.range' (j+1) n)::e)) cs) w= .go (G (b.at (a.put o.dst v) (.inRegion ops (List.range' (j+1) n)::e)) cs) w' es)/\cn (x.cy T) w' s'/\gH (x.cy T) w w'/\Inv x.n x.bs k φ f s'/\Ev0 (x.cy T) d g es/\
    (s'.ms<=s.ms/\s'.ws<=s.ws)/\ai (ZJ T Φ) fi ops (j+1) n Q (a.put o.dst v) F (.co x k f g)):ai (ZJ T Φ) fi ops j (n+1) Q a F (.co x k p d):=fun b e cs hb l=>by
 rw[List.range'_succ,eo hb.round]
 refine ⟨i,dW.wM (c:=x.cy T) rfl rfl i fun w s φ e1 e2 m=>?_⟩
 obtain ⟨v,w',es,s',f,g,k1,q,r,t,u,y,z⟩:=h w s φ e1 e2 m
 have:=z b e cs hb l
 rw[eo hb.round] at this
 exact ⟨_,w',es,s',f,g,k1 b e cs hb,q,r,t,u,.inr y,this.2⟩
theorem oh {k:Nat}{φ:Nat->Ph}{p a:P0}{s:Sh}(h:Inv x.n x.bs k φ p s){wg ws:Int}(hw:de x.n φ a wg ws):Inv x.n x.bs k φ a {s with wg:=wg,ws:=ws}:=⟨h.m,hw,h.i⟩
theorem BU (i:Entry T.P f (fun _=>do mark .disable;pure Extern.Race.none_)){vals:List Value}(l:At ops j a f vals dt)(m:p= .reg->k=x.n)(c:P0)(q:∀φ wg ws,de x.n φ p wg ws->de x.n φ c wg ws)
  (h:ai (ZJ T Φ) fi ops (j+1) n Q (aY a dt (.tuple #[])) F (.co x k c (d+1))):ai (ZJ T Φ) fi ops j (n+1) Q a F (.co x k p d):=by
 obtain ⟨o,cp,cZ,e,hg,r,_,rfl⟩:=l
 obtain ⟨fn,f1,f2,f3,f4,f5⟩:=i.ex
 exact jZ e m fun w s φ _ hs g=>⟨.tuple #[],w,_,s,c,d+1,fun b t cs hb=>stepG_mark0 .disable (by simp) e (b7 hg) hb.kind r f1 f2 f3 f4 f5,hs,.refl _ _,oh g (q _ _ _ g.w),Iv,dm,h⟩
theorem BV (e:Entry T.P f (fun _=>do mark .enable;pure Extern.Race.none_)){vals:List Value}(g:At ops j a f vals dt)(i:p= .reg->k=x.n)
  (h:ai (ZJ T Φ) fi ops (j+1) n Q (aY a dt (.tuple #[])) F (.co x k p d)):ai (ZJ T Φ) fi ops j (n+1) Q a F (.co x k p (d+1)):=by
 obtain ⟨o,cp,cZ,c,hg,l,_,rfl⟩:=g
 obtain ⟨fn,f1,f2,f3,f4,f5⟩:=e.ex
 exact jZ c i fun w s φ _ hs m=>⟨.tuple #[],w,_,s,p,d,fun b q cs hb=>stepG_mark0 .enable (by simp) c (b7 hg) hb.kind l f1 f2 f3 f4 f5,hs,.refl _ _,m,BS,dm,h⟩
theorem Iz (e:Entry T.P f (Extern.Race.marked .read))(g:At ops j a f [.pointer (some (smA x.Wg))] dt)(i:p= .reg->k=x.n)
  (h:ai (ZJ T Φ) fi ops (j+1) n Q (aY a dt (.tuple #[])) F (.co x k p d)):ai (ZJ T Φ) fi ops j (n+1) Q a F (.co x k p d):=by
 obtain ⟨o,cp,cZ,c,hg,l,m,rfl⟩:=g
 obtain ⟨y,rfl,q⟩:=jo m
 obtain ⟨fn,f1,f2,f3,f4,f5⟩:=e.ex
 exact jZ c i fun w s φ _ hs r=>⟨.tuple #[],w,_,s,p,d,fun b t cs hb=>stepG_markAt .read (by simp) c (b7 hg) hb.kind l f1 f2 f3 f4 f5 (by simp[ei,q]),hs,.refl _ _,r,Iw (ad:=smA x.Wg) rfl,dm,h⟩
theorem IA (e:Entry T.P f (Extern.Race.marked .write))(g:At ops j a f [.pointer (some (smA x.Wg))] dt)(i:p= .reg->k=x.n)
  (h:ai (ZJ T Φ) fi ops (j+1) n Q (aY a dt (.tuple #[])) F (.co x k p d)):ai (ZJ T Φ) fi ops j (n+1) Q a F (.co x k p d):=by
 obtain ⟨o,cp,cZ,c,hg,l,m,rfl⟩:=g
 obtain ⟨y,rfl,q⟩:=jo m
 obtain ⟨fn,f1,f2,f3,f4,f5⟩:=e.ex
 exact jZ c i fun w s φ _ hs r=>⟨.tuple #[],w,_,s,p,d,fun b t cs hb=>stepG_markAt .write (by simp) c (b7 hg) hb.kind l f1 f2 f3 f4 f5 (by simp[ei,q]),hs,.refl _ _,r,Ix (ad:=smA x.Wg) rfl,dm,h⟩
theorem s3 (ad:Addr){src dst t:TypeId}(hs:T.P.underlying src=some (.pointer t))(hd:T.P.underlying dst=some .unsafePointer)(c:(T.P.info? t).map (fun i=>decide (i.size=0))=some false){y:Operand}
  (l:mC ops j a (.convert src dst y) dt) (m:p= .reg->k=x.n) (q:ev a y= .pointer (some ad)) (r:∀w s,cn (x.cy T) w s->∃v,w.cell? ad=some v) (h:ai (ZJ T Φ) fi ops (j+1) n Q (aY a dt (.pointer (some ad))) F (.co x k p d)):ai (ZJ T Φ) fi ops j (n+1) Q a F (.co x k p d):=by
 obtain ⟨o,e,hg,u,rfl⟩:=l
 refine jZ e m fun w s φ _ f z=>⟨_,w,#[],s,p,d,fun b C cs hb=>?_,f,.refl _ _,z,BR,dm,h⟩
 obtain ⟨v,g⟩:=r w s f
 have e1:execOp a.eval o=(do pure (.value (<-convert src dst (.pointer (some ad)))):Sem Next):=by
  unfold execOp
  simp only[u,ei,q]
 have A:(execOp a.eval o).run T.P w= .ok (.value (.pointer (some ad))) w:=by
  rw[e1];simp[run_convert_to_unsafe hs hd c g]
 have B:(execOp a.eval o).events T.P w #[]=#[]:=by
  rw[e1];simp[events_convert_to_unsafe hs hd c g]
 rw[stepG_value e (b7 hg) hb.kind A]
 unfold listed
 rw[B,seen_none]
theorem IB (i:Entry T.P f (Extern.Atomic.update (Op.intArith .add) .u64 true))(l:x.Mu≠x.Wg/\x.Mu≠x.Is/\x.Wg≠x.Is)(B:x.n<67108864)(m:At ops j a f [.pointer (some (stA x.Wg)),.int .u64 4294967296] dt)
  (h:∀v:Nat,v<=x.n->ai (ZJ T Φ) fi ops (j+1) n Q (aY a dt (.int .u64 (((v+1:Nat):Int)*4294967296+((0:Nat):Int)))) F (.co x k (.opn 1) d)):ai (ZJ T Φ) fi ops j (n+1) Q a F (.co x k (.opn 0) d):=by
 obtain ⟨o,cp,cZ,c,hg,p,q,rfl⟩:=m
 obtain ⟨y,z,rfl,r,t⟩:=qo q
 obtain ⟨fn,f1,f2,f3,f4,f5⟩:=i.ex
 refine jZ c (fun e=>by cases e) fun w s φ _ hs g=>?_
 obtain ⟨v,e1,u,hw⟩:=G6 g.w
 have e2:IntKind.u64.wrap (s.wg+4294967296)=((v+1:Nat):Int)*4294967296+((0:Nat):Int):=by
  rw[e1]
  unfold IntKind.wrap
  simp only[IntKind.bits,IntKind.signed,cM]
  simp
  omega
 have A:s.wg+cM=((v+1:Nat):Int)*4294967296+((0:Nat):Int):=by rw[e1];simp only[cM];omega
 rw[A] at hw
 exact ⟨_,_,_,{s with wg:=((v+1:Nat):Int)*4294967296+((0:Nat):Int)},.opn 1,d,fun b C cs hb=>by rw[<-e2];exact stepG_add_atomic c (b7 hg) hb.kind p f1 f2 f3 f4 .u64 f5 r t hs.wg.1 hs.wg.2,by rw[<-e2];exact hs.sR l _,.set _ (.inr (.inl rfl)),oh g hw,BT rfl,dm,h v u⟩
theorem IC (i:Entry T.P f (Extern.Atomic.loadT (.int .u64)))(l:At ops j a f [.pointer (some (stA x.Wg))] dt){u:Nat}
  (h:∀v:Nat,v<=u->ai (ZJ T Φ) fi ops (j+1) n Q (aY a dt (.int .u64 ((v:Int)*4294967296+((0:Nat):Int)))) F (.co x k (if v=0 then .eC else .look v) d)):ai (ZJ T Φ) fi ops j (n+1) Q a F (.co x k (.look u) d):=by
 obtain ⟨o,cp,cZ,c,hg,m,p,rfl⟩:=l
 obtain ⟨y,rfl,q⟩:=jo p
 obtain ⟨fn,f1,f2,f3,f4,f5⟩:=i.ex
 refine jZ c (fun e=>by cases e) fun w s φ _ hs g=>?_
 obtain ⟨v,e1,r,hw⟩:=G9 g.w
 have e2:s.wg=(v:Int)*4294967296+((0:Nat):Int):=by rw[e1];simp only[cM];omega
 exact ⟨_,_,_,s,_,d,fun b t cs hb=>by rw[<-e2];exact stepG_load_atomic c (b7 hg) hb.kind m f1 f2 f3 f4 .u64 f5 q hs.wg.1,hs,.refl _ _,oh g hw,xh false rfl,dm,h v r⟩
theorem ID (i:Entry T.P f (Extern.Atomic.loadT (.int .u64)))(l:At ops j a f [.pointer (some (stA x.Wg))] dt)
  (h:ai (ZJ T Φ) fi ops (j+1) n Q (aY a dt (.int .u64 0)) F (.co x k .eC d)):ai (ZJ T Φ) fi ops j (n+1) Q a F (.co x k .eC d):=by
 obtain ⟨o,cp,cZ,c,hg,m,p,rfl⟩:=l
 obtain ⟨y,rfl,q⟩:=jo p
 obtain ⟨fn,f1,f2,f3,f4,f5⟩:=i.ex
 refine jZ c (fun e=>by cases e) fun w s φ _ hs g=>?_
 have e2:s.wg=0:=(Bd g.w).1
 exact ⟨_,_,_,s,_,d,fun b r cs hb=>by rw[<-e2];exact stepG_load_atomic c (b7 hg) hb.kind m f1 f2 f3 f4 .u64 f5 q hs.wg.1,hs,.refl _ _,g,xh false rfl,dm,h⟩
theorem IE (q:Entry T.P f (Extern.Atomic.casT (.int .u64)))(r:x.Mu≠x.Wg/\x.Mu≠x.Is/\x.Wg≠x.Is){v:Nat}(t:0<v)(H:k=x.n)(u:At ops j a f [.pointer (some (stA x.Wg)),.int .u64 ((v:Int)*4294967296+((0:Nat):Int)),.int .u64 ((v:Int)*4294967296+((0:Nat):Int)+1)] dt)
  (A:ai (ZJ T Φ) fi ops (j+1) n Q (aY a dt (.bool true)) F (.co x k .reg d)) (B:ai (ZJ T Φ) fi ops (j+1) n Q (aY a dt (.bool false)) F (.co x k (.look (v - 1)) d)):ai (ZJ T Φ) fi ops j (n+1) Q a F (.co x k (.look v) d):=by
 obtain ⟨o,cp,cZ,g,hg,h,C,rfl⟩:=u
 obtain ⟨y,z,I,rfl,i,l,m⟩:=qp C
 obtain ⟨fn,f1,f2,f3,f4,f5⟩:=q.ex
 refine jZ g (fun e=>by cases e) fun w s φ _ hs c=>?_
 by_cases e:s.wg=(v:Int)*4294967296+((0:Nat):Int)
 ·have e1:s.wg=(v:Int)*cM:=by rw[e];simp only[cM];omega
  have hw:=c.w
  rw[e1] at hw
  have p:=He hw t
  have D:(v:Int)*cM+1=(v:Int)*4294967296+((0:Nat):Int)+1:=by simp only[cM];omega
  rw[D] at p
  exact ⟨.bool true,_,_,{s with wg:=(v:Int)*4294967296+((0:Nat):Int)+1},.reg,d,fun b E cs hb=>stepG_cas_hit g (b7 hg) hb.kind h f1 f2 f3 f4 .u64 f5 i l m (by rw[<-e];exact hs.wg.1) hs.wg.2,hs.sR r _,.set _ (.inr (.inl rfl)),oh c p,BT rfl,dm,A⟩
 ·have e1:s.wg≠(v:Int)*cM:=fun G=>e (by rw[G];simp only[cM];omega)
  exact ⟨.bool false,_,_,s,.look (v - 1),d,fun b E cs hb=>stepG_cas_miss g (b7 hg) hb.kind h f1 f2 f3 f4 .u64 f5 i l m hs.wg.1 hs.wg.2 e,hs,.refl _ _,oh c (Hf c.w e1).2,xh false rfl,dm,B⟩
theorem IF (p:Value)(q:Entry T.P f Extern.Sync.semacquire)(r:x.Mu≠x.Wg/\x.Mu≠x.Is/\x.Wg≠x.Is)(e:k=x.n)(t:At ops j a f [.pointer (some (smA x.Wg)),p] dt)
  (h:ai (ZJ T Φ) fi ops (j+1) n Q (aY a dt (.tuple #[])) F (.co x k .eC d)):ai (ZJ T Φ) fi ops j (n+1) Q a F (.co x k .reg d):=fun b u cs hb v=>by
 obtain ⟨o,cp,cZ,g,hg,i,A,rfl⟩:=t
 obtain ⟨y,z,rfl,l,_⟩:=qo A
 obtain ⟨fn,f1,f2,f3,f4,f5⟩:=q.ex
 rw[List.range'_succ,eo hb.round]
 refine ⟨fun _=>e,dW.act (c:=x.cy T) rfl rfl (fun _=>⟨e,fun w s hs h0=>?_⟩) fun w s φ e1 hs m B=>?_⟩
 ·exact stepG_semacquire_wait g (b7 hg) i f1 f2 f3 f4 f5 (ad:=smA x.Wg) (by simp[ei,l]) (by rw[hs.ws.1,h0])
 ·have h0:=B rfl
  obtain ⟨C,D,hw⟩:=Hg m.w h0
  have:=h b u cs hb v
  rw[eo hb.round] at this
  exact ⟨_,_,_,{s with ws:=s.ws - 1},.eC,d,stepG_semacquire g (b7 hg) hb.kind i f1 f2 f3 f4 f5 (by simp[ei,l]) hs.ws.1 h0 hs.ws.2,hs.BJ r _,.set _ (.inr (.inl rfl)),oh m hw,Iy rfl,.inr ⟨Int.le_refl _,by simp only;omega⟩,this.2⟩
theorem BW (d:Entry T.P f (Extern.Race.marked .acquire))(e:k=x.n)(g:At ops j a f [.pointer (some (stA x.Wg))] dt)
  (h:ai (ZJ T Φ) fi ops (j+1) n Q (aY a dt (.tuple #[])) ⟨F.ro,(x.Is,(x.cy T).fin)::F.own⟩ .free):ai (ZJ T Φ) fi ops j (n+1) Q a F (.co x k .eC 0):=fun b i cs hb l=>by
 obtain ⟨o,cp,cZ,m,hg,p,q,rfl⟩:=g
 obtain ⟨y,rfl,r⟩:=jo q
 obtain ⟨fn,f1,f2,f3,f4,f5⟩:=d.ex
 rw[List.range'_succ,eo hb.round]
 subst e
 have:=h b i cs hb l
 rw[eo hb.round] at this
 exact ⟨fun _=>rfl,dW.join (c:=x.cy T) rfl rfl fun w hw=>⟨_,stepG_markAt .acquire (by simp) m (b7 hg) hb.kind p f1 f2 f3 f4 f5 (by simp[ei,r]),rfl,this⟩⟩
theorem IG (i:k<x.n){d:Deferred}{fv:Operand}{g:Fn}{caps:Array Value}(l:ops[j]?=some o)(hg:cq ops o a=some true)(f:∀w,(execOp a.eval o).run T.P w= .ok (.spawn d) w/\(execOp a.eval o).events T.P w #[]=#[])(hd:d.target= .fn g caps)
  (hW:Wk (x.cy T) k ⟨.idle,.cnt,false,0⟩ (born T.P d) ⟨F.ro,[]⟩) (h:ai (ZJ T Φ) fi ops (j+1) n Q (aY a o.dst undef) F (.co x (k+1) (.opn 0) 0)):ai (ZJ T Φ) fi ops j (n+1) Q a F (.co x k (.opn 1) 0):=fun b m cs hb p=>by
 rw[List.range'_succ,eo hb.round]
 have:=h b m cs hb p
 rw[eo hb.round] at this
 refine ⟨fun e=>(by cases e),dW.spawn (c:=x.cy T) rfl rfl i fun w hw=>⟨_,_,?_,hW,rfl,rfl,this.2⟩⟩
 rw[stepG_spawn l (b7 hg) hb.kind (f w).1 hd]
 unfold listed
 rw[(f w).2,seen_none]
 rfl
end
section
variable {T : PT} {Φ : Goroutine → ag → Prop} {fi f : FuncId}
theorem II {cd:Code}{Q:Ex->Act->ag->Z->Prop}{a:Act}{F:ag}(c:ag)(Mu Wg Is n:Nat)(bs:Nat->Bool)
  (hle:Le ⟨c.ro,(Mu,muBlock T.tM 0 0)::(Wg,wgBlock T.tW 0 0)::(Is,.cells (List.replicate n (Value.bool false)).toArray T.tI)::c.own⟩ F)
  (h:∀base B0 T0,0<base->(Mu≠Wg/\Mu≠Is/\Wg≠Is)->cC (ZJ T Φ) fi cd Q a c (.co ⟨Mu,Wg,Is,n,bs,base,T0,B0⟩ 0 (.opn 0) 0)):cC (ZJ T Φ) fi cd Q a F .free:=fun b k cs hb d=>
 hH.found bs rfl rfl hle fun base B0 T0 h0 e=>(h base B0 T0 h0 e b k cs hb d).2
theorem IJ (l:Entry T.P f (fun _=>do mark .enable;pure Extern.Race.none_)){x:X}{k d:Nat}{p:P0}{F:ag}(e:p= .reg->k=x.n){b:Frame}{a:Act}{todo:List Item}{cs:List Frame}{i:List Deferred}(m:a.defers=dcall f #[]::i)
  (h:ZJ T Φ (.co x k p d) (G {b.at ⟨a.tmps,i⟩ todo with mode:=.returning} cs) F):ZJ T Φ (.co x k p (d+1)) (G {b.at a todo with mode:=.returning} cs) F:=by
 obtain ⟨fn,f1,f2,f3,f4,f5⟩:=l.ex
 refine ⟨e,dW.wM (c:=x.cy T) rfl rfl e fun w s φ e1 hs o=>⟨_,w,#[cz .enable],s,p,d,?_,hs,.refl _ _,o,BS,.inr dm,h.2⟩⟩
 exact stepG_unwind_entry (v:=.tuple #[]) m f1 f2 f3 f4 f5 (by simp[Extern.Race.none_]) (by simp[cz]) (by
  intro y j
  simp[cz] at j
  subst j
  exact ⟨rfl,fun g h=>by cases h⟩)
def xj (f:FuncId)(R:Value->ag->Z->Prop):Ex->Act->ag->Z->Prop
 | .exit _,_,_,_=>False
 |_,a,F,z=>a.defers=[dcall f #[]]/\∃x k p d,(p= .reg->k=x.n)/\z= .co x k p (d+1)/\R (.tuple #[]) F (.co x k p d)
theorem cw.IK {f0:FuncId}(r:Entry T.P f (fun _=>do mark .enable;pure Extern.Race.none_)){fn:Func}{cd:Code}{n:Nat}{args:Array Value}{R:Value->ag->Z->Prop}{F:ag}{z:Z}(m:T.P.funcs[f0]?=some fn)(hb:fn.body=some cd)(o:fn.results=#[])(q:fn.ntmps=n)(C:args.size<=n)
  (h:∀A:Act,sz A=n->A.defers=[]->(∀i,slot A i=args.getD i undef)->cC (ZJ T Φ) f0 cd (xj f R) A F z):cw T.P (ZJ T Φ) f0 args F z R:=by
 intro g cs s
 let b:Frame:={(default:Frame) with fn:=f0,kind:=.normal}
 have t:b.roundOf=none:=rfl
 have u:Frame.enter T.P f0 args .normal=on b {tmps:=args++Array.replicate (fn.ntmps - args.size) undef,defers:=[]} [.code cd]:=by
  simp[Frame.enter,on,m,hb,b]
  rfl
 rw[u]
 have j:=ZJ.dX T Φ
 have leave:∀(c:Act) (todo:List Item) F' (a:Z),(c.defers=[dcall f #[]]/\∃x k p d,(p= .reg->k=x.n)/\a= .co x k p (d+1)/\R (.tuple #[]) F' (.co x k p d))->ZJ T Φ a (G {on b c todo with mode:=.returning} (g::cs)) F':=by
  intro c todo F' a ⟨hd,x,k,p,d,v,y,B⟩
  subst y
  rw[eo t]
  refine IJ r v hd ((j _).move (fr':=g.finish (.tuple #[])) (cs':=cs) (fun w=>?_) (s _ F' _ B))
  exact stepG_leave rfl rfl m (results_none o _ T.P w) (events_results_none o _ _)
 refine h _ (by simp[sz,q];omega) rfl (fun i=>?_) b [] (g::cs) ⟨by simp[b],rfl,rfl⟩ fun e c F' a l=>?_
 ·simp only[slot,q,Array.getD_eq_getD_getElem?]
  rcases Nat.lt_or_ge i args.size with hi|hi
  ·rw[Array.getElem?_append_left hi]
  ·rw[Array.getElem?_append_right hi,Array.getElem?_replicate,Array.getElem?_eq_none hi]
   split<;>rfl
 ·cases e with
  |normal=>exact (j a).move (fun _=>kT rfl) (leave c _ F' a l)
  |exit i=>exact l.elim
  |ret=>exact fun D=>(j a).move (fun _=>stepG_ret' rfl) (leave c _ F' a l)
theorem e9.IL {args:Array Value}{ro:Addr->Option Value}{R:Value->ag->Prop}(h:∀Φ,cw T.P (ZJ T Φ) f args ⟨ro,[]⟩ .free (fun v F' z=>z= .free/\R v F')):e9 T.P f args ⟨ro,[]⟩ R:=
 e9.HC fun Φ c cs a=>h Φ c cs fun v F' z ⟨b,d⟩=>by subst b;exact a v F' d
end
end Go.Sep
end
section
namespace Go.Proofs.YtipgiooobncfbaaGreatDoor
open Go Go.Sep Go.Proofs Go.Conc
open Go.ConcN (upd upd_same)
open Go.ConcM (muA msA)
open Go.ConcR (stA smA)
set_option maxRecDepth 100000
set_option maxHeartbeats 4000000
noncomputable abbrev TT:PT:=⟨Tryz.prog,175,182,4⟩
theorem IM {f:FuncId}{R:Value->ag->Z->Prop}{a:Act}{F:ag}{x:X}{k d:Nat}{p:P0}(hd:a.defers=[dcall f #[]])(b:p= .reg->k=x.n)(c:R (.tuple #[]) F (.co x k p d)):xj f R .ret a F (.co x k p (d+1)):=⟨hd,x,k,p,d,b,rfl,c⟩
section
variable {Φ : Goroutine → ag → Prop} {x : X} {F : ag} {k : Nat}
theorem BX (w:World)(s:Sh)(h:cn (x.cy TT) w s):∃v,w.cell? ⟨x.Wg,0,none⟩=some v:=⟨_,h.wg.1⟩
theorem BY (w:World)(s:Sh)(h:cn (x.cy TT) w s):∃v,w.cell? ⟨x.Wg,1,none⟩=some v:=⟨_,h.ws.1⟩
theorem IN (c:x.Mu≠x.Wg/\x.Mu≠x.Is/\x.Wg≠x.Is)(d:x.n<67108864):
  cw Tryz.prog (ZJ TT Φ) 158 #[.pointer (some (stA x.Wg)),.int .u64 4294967296] F (.co x k (.opn 0) 1)
   (fun r F' e=>F'=F/\∃v:Nat,v<=x.n/\r= .int .u64 (((v+1:Nat):Int)*4294967296+((0:Nat):Int))/\e= .co x k (.opn 1) 1):=by
 have a:=ZJ.dX TT Φ
 have hJ:True:=trivial
 refine cw.go (main:=true) a Tryz.func158 rfl Tryz.ntmps158 (by simp) fun A g hd hs=>?_
 have h:=hs 0
 have k1:=hs 1
 clear hs
 repeat refine ay (a _) ?_
 refine aW a fun K b=>?_
 refine ai.pure (a _) 1 (n:=0) _ rfl rfl ?_;simp only[*,go_sem,-b,-a,muA,msA,stA,smA,Int.reduceBEq,Int.reduceBNe]
 refine ai.nil a (b _ _ _ ?_);clear b K
 repeat refine ay (a _) ?_
 refine aW a fun K b=>?_
 refine ai.pure (a _) 4 (n:=2) _ rfl rfl ?_;simp only[*,go_sem,-b,-a,muA,msA,stA,smA,Int.reduceBEq,Int.reduceBNe]
 refine IB BB c d ⟨_,_,_,rfl,(by first|(simp only[*,go_sem,-b,-a,-hJ];done)|rfl),rfl,by first|(simp only[*,go_sem,-b,-a,-hJ,muA,msA,stA,smA,Int.reduceBEq,Int.reduceBNe];done)|(simp only[*,go_sem,-b,-a,-hJ,muA,msA,stA,smA,Int.reduceBEq,Int.reduceBNe];rfl),rfl⟩ fun v f=>?_
 refine ai.pure (a _) 1 (n:=0) _ rfl rfl ?_;simp only[*,go_sem,-b,-a,muA,msA,stA,smA,Int.reduceBEq,Int.reduceBNe]
 refine ai.nil a (b _ _ _ ?_);clear b K
 exact eX (kO rfl (by simp only[*,go_sem,-a,-hJ,muA,msA,stA,smA,Int.reduceBEq,Int.reduceBNe]) (by simp only[*,go_sem,-a,-hJ,muA,msA,stA,smA,Int.reduceBEq,Int.reduceBNe]) ⟨rfl,v,f,rfl,rfl⟩).2
theorem IP {u:Nat}:
  cw Tryz.prog (ZJ TT Φ) 160 #[.pointer (some (stA x.Wg))] F (.co x k (.look u) 1)
   (fun r F' c=>F'=F/\∃v:Nat,v<=u/\r= .int .u64 ((v:Int)*4294967296+((0:Nat):Int))/\c= .co x k (if v=0 then .eC else .look v) 1):=by
 have a:=ZJ.dX TT Φ
 have hJ:True:=trivial
 refine cw.go (main:=true) a Tryz.func160 rfl Tryz.ntmps160 (by simp) fun A e hd hs=>?_
 have f:=hs 0
 clear hs
 repeat refine ay (a _) ?_
 refine aW a fun K b=>?_
 refine ai.pure (a _) 1 (n:=0) _ rfl rfl ?_;simp only[*,go_sem,-b,-a,muA,msA,stA,smA,Int.reduceBEq,Int.reduceBNe]
 refine ai.nil a (b _ _ _ ?_);clear b K
 repeat refine ay (a _) ?_
 refine aW a fun K b=>?_
 refine ai.pure (a _) 3 (n:=2) _ rfl rfl ?_;simp only[*,go_sem,-b,-a,muA,msA,stA,smA,Int.reduceBEq,Int.reduceBNe]
 refine IC wR ⟨_,_,_,rfl,(by first|(simp only[*,go_sem,-b,-a,-hJ];done)|rfl),rfl,by first|(simp only[*,go_sem,-b,-a,-hJ,muA,msA,stA,smA,Int.reduceBEq,Int.reduceBNe];done)|(simp only[*,go_sem,-b,-a,-hJ,muA,msA,stA,smA,Int.reduceBEq,Int.reduceBNe];rfl),rfl⟩ fun v d=>?_
 refine ai.pure (a _) 1 (n:=0) _ rfl rfl ?_;simp only[*,go_sem,-b,-a,muA,msA,stA,smA,Int.reduceBEq,Int.reduceBNe]
 refine ai.nil a (b _ _ _ ?_);clear b K
 exact eX (kO rfl (by simp only[*,go_sem,-a,-hJ,muA,msA,stA,smA,Int.reduceBEq,Int.reduceBNe]) (by simp only[*,go_sem,-a,-hJ,muA,msA,stA,smA,Int.reduceBEq,Int.reduceBNe]) ⟨rfl,v,d,rfl,rfl⟩).2
theorem IQ:
  cw Tryz.prog (ZJ TT Φ) 160 #[.pointer (some (stA x.Wg))] F (.co x k .eC 1)
   (fun r F' c=>F'=F/\r= .int .u64 0/\c= .co x k .eC 1):=by
 have a:=ZJ.dX TT Φ
 have hJ:True:=trivial
 refine cw.go (main:=true) a Tryz.func160 rfl Tryz.ntmps160 (by simp) fun A d hd hs=>?_
 have e:=hs 0
 clear hs
 repeat refine ay (a _) ?_
 refine aW a fun K b=>?_
 refine ai.pure (a _) 1 (n:=0) _ rfl rfl ?_;simp only[*,go_sem,-b,-a,muA,msA,stA,smA,Int.reduceBEq,Int.reduceBNe]
 refine ai.nil a (b _ _ _ ?_);clear b K
 repeat refine ay (a _) ?_
 refine aW a fun K b=>?_
 refine ai.pure (a _) 3 (n:=2) _ rfl rfl ?_;simp only[*,go_sem,-b,-a,muA,msA,stA,smA,Int.reduceBEq,Int.reduceBNe]
 refine ID wR ⟨_,_,_,rfl,(by first|(simp only[*,go_sem,-b,-a,-hJ];done)|rfl),rfl,by first|(simp only[*,go_sem,-b,-a,-hJ,muA,msA,stA,smA,Int.reduceBEq,Int.reduceBNe];done)|(simp only[*,go_sem,-b,-a,-hJ,muA,msA,stA,smA,Int.reduceBEq,Int.reduceBNe];rfl),rfl⟩ ?_
 refine ai.pure (a _) 1 (n:=0) _ rfl rfl ?_;simp only[*,go_sem,-b,-a,muA,msA,stA,smA,Int.reduceBEq,Int.reduceBNe]
 refine ai.nil a (b _ _ _ ?_);clear b K
 exact eX (kO rfl (by simp only[*,go_sem,-a,-hJ,muA,msA,stA,smA,Int.reduceBEq,Int.reduceBNe]) (by simp only[*,go_sem,-a,-hJ,muA,msA,stA,smA,Int.reduceBEq,Int.reduceBNe]) ⟨rfl,rfl,rfl⟩).2
theorem IS (d:x.Mu≠x.Wg/\x.Mu≠x.Is/\x.Wg≠x.Is){v:Nat}(e:0<v):
  cw Tryz.prog (ZJ TT Φ) 169 #[.pointer (some (stA x.Wg)),.int .u64 ((v:Int)*4294967296+((0:Nat):Int)),.int .u64 ((v:Int)*4294967296+((0:Nat):Int)+1)] F (.co x x.n (.look v) 1)
   (fun r F' c=>F'=F/\((r= .bool true/\c= .co x x.n .reg 1)\/(r= .bool false/\c= .co x x.n (.look (v - 1)) 1))):=by
 have a:=ZJ.dX TT Φ
 have hJ:True:=trivial
 refine cw.go (main:=true) a Tryz.func169 rfl Tryz.ntmps169 (by simp) fun A f hd hs=>?_
 have g:=hs 0
 have k1:=hs 1
 have h:=hs 2
 clear hs
 repeat refine ay (a _) ?_
 refine aW a fun K b=>?_
 refine ai.pure (a _) 1 (n:=0) _ rfl rfl ?_;simp only[*,go_sem,-b,-a,muA,msA,stA,smA,Int.reduceBEq,Int.reduceBNe]
 refine ai.nil a (b _ _ _ ?_);clear b K
 repeat refine ay (a _) ?_
 refine aW a fun K b=>?_
 refine ai.pure (a _) 5 (n:=2) _ rfl rfl ?_;simp only[*,go_sem,-b,-a,muA,msA,stA,smA,Int.reduceBEq,Int.reduceBNe]
 refine IE HG d e rfl ⟨_,_,_,rfl,(by first|(simp only[*,go_sem,-b,-a,-hJ];done)|rfl),rfl,by first|(simp only[*,go_sem,-b,-a,-hJ,muA,msA,stA,smA,Int.reduceBEq,Int.reduceBNe];done)|(simp only[*,go_sem,-b,-a,-hJ,muA,msA,stA,smA,Int.reduceBEq,Int.reduceBNe];rfl),rfl⟩ ?_ ?_
 ·refine ai.pure (a _) 1 (n:=0) _ rfl rfl ?_;simp only[*,go_sem,-b,-a,muA,msA,stA,smA,Int.reduceBEq,Int.reduceBNe]
  refine ai.nil a (b _ _ _ ?_);clear b K
  exact eX (kO rfl (by simp only[*,go_sem,-a,-hJ,muA,msA,stA,smA,Int.reduceBEq,Int.reduceBNe]) (by simp only[*,go_sem,-a,-hJ,muA,msA,stA,smA,Int.reduceBEq,Int.reduceBNe]) ⟨rfl,.inl ⟨rfl,rfl⟩⟩).2
 ·refine ai.pure (a _) 1 (n:=0) _ rfl rfl ?_;simp only[*,go_sem,-b,-a,muA,msA,stA,smA,Int.reduceBEq,Int.reduceBNe]
  refine ai.nil a (b _ _ _ ?_);clear b K
  exact eX (kO rfl (by simp only[*,go_sem,-a,-hJ,muA,msA,stA,smA,Int.reduceBEq,Int.reduceBNe]) (by simp only[*,go_sem,-a,-hJ,muA,msA,stA,smA,Int.reduceBEq,Int.reduceBNe]) ⟨rfl,.inr ⟨rfl,rfl⟩⟩).2
end
def IT (Wg:Nat)(F:ag)(z:Z)(v:Int)(a:Act)(F':ag)(b:Z):Prop:=
 F'=F/\slot a 1= .int .i64 1/\slot a 7= .int .i32 v/\slot a 8= .int .u32 0/\sz a=117/\a.defers=[dcall 153 #[]]/\b=z
section
variable {Φ : Goroutine → ag → Prop} {x : X} {F : ag} {k : Nat}
theorem IU (o:x.Mu≠x.Wg/\x.Mu≠x.Is/\x.Wg≠x.Is)(p:x.n<67108864):
  cw Tryz.prog (ZJ TT Φ) 129 #[.pointer (some (stA x.Wg)),.int .i64 1] F (.co x k (.opn 0) 0)
   (fun r F' g=>r= .tuple #[]/\F'=F/\g= .co x k (.opn 1) 0):=by
 have a:=ZJ.dX TT Φ
 have hJ:True:=trivial
 refine cw.IK kP Tryz.func129 rfl rfl Tryz.ntmps129 (by simp) fun A i hd hs=>?_
 have q:=hs 0
 have k1:=hs 1
 clear hs
 have c1:decide ((1:Int)<0)=false:=by decide
 have c2:decide ((1:Int)>0)=true:=by decide
 repeat refine ay (a _) ?_
 refine cO (a _) (by simp only[*,go_sem,-a,-hJ,Int.reduceBEq,Int.reduceBNe]) ?_
 repeat refine ay (a _) ?_
 refine aW a fun K b=>?_
 refine ai.pure (a _) 2 (n:=0) _ rfl rfl ?_;simp only[*,go_sem,-b,-a,muA,msA,stA,smA,Int.reduceBEq,Int.reduceBNe]
 refine ai.nil a (b _ _ _ ?_);clear b K
 repeat refine ay (a _) ?_
 refine cv (a _) (by simp only[*,go_sem,-a,-hJ,Int.reduceBEq,Int.reduceBNe]) ?_
 refine cx (a _) ?_
 repeat refine ay (a _) ?_
 refine aW a fun K b=>?_
 refine BU qn ⟨_,_,_,rfl,(by first|(simp only[*,go_sem,-b,-a,-hJ];done)|rfl),rfl,by first|(simp only[*,go_sem,-b,-a,-hJ,muA,msA,stA,smA,Int.reduceBEq,Int.reduceBNe];done)|(simp only[*,go_sem,-b,-a,-hJ,muA,msA,stA,smA,Int.reduceBEq,Int.reduceBNe];rfl),rfl⟩ (fun e=>by cases e) (.opn 0) (fun _ _ _ h=>h) ?_
 refine ai.nil a (b _ _ _ ?_);clear b K
 repeat refine ay (a _) ?_
 refine aW a fun K b=>?_
 refine ai.defer (a _) rfl (by first|(simp only[*,go_sem,-b,-a,-hJ];done)|rfl) rfl rfl (by simp;rfl) fun d e1 e2 j=>?_
 have l0:slot d 0= .pointer (some ⟨x.Wg,0,none⟩):=(e1 0).trans (by simp only[*,go_sem,-a,-hJ,muA,msA,stA,smA,Int.reduceBEq,Int.reduceBNe])
 have l:slot d 1= .int .i64 1:=(e1 1).trans (by simp only[*,go_sem,-a,-hJ,muA,msA,stA,smA,Int.reduceBEq,Int.reduceBNe])
 replace i:sz d=117:=e2.trans (by simp only[*,go_sem,-a,-hJ,muA,msA,stA,smA,Int.reduceBEq,Int.reduceBNe])
 replace hd:d.defers=[dcall 153 #[]]:=j.trans (by simp only[*,go_sem,-a,-hJ,muA,msA,stA,smA,Int.reduceBEq,Int.reduceBNe])
 clear e1 e2 j q k1
 refine ai.nil a (b _ _ _ ?_);clear b K
 repeat refine ay (a _) ?_
 refine aW a fun K b=>?_
 refine ai.pure (a _) 1 (n:=0) _ rfl rfl ?_;simp only[*,go_sem,-b,-a,muA,msA,stA,smA,Int.reduceBEq,Int.reduceBNe]
 refine ai.nil a (b _ _ _ ?_);clear b K
 repeat refine ay (a _) ?_
 refine aW a fun K b=>?_
 refine ai.entry (.bool false) (a _) BC ⟨_,_,_,rfl,(by first|(simp only[*,go_sem,-b,-a,-hJ];done)|rfl),rfl,by first|(simp only[*,go_sem,-b,-a,-hJ,muA,msA,stA,smA,Int.reduceBEq,Int.reduceBNe];done)|(simp only[*,go_sem,-b,-a,-hJ,muA,msA,stA,smA,Int.reduceBEq,Int.reduceBNe];rfl),rfl⟩ ?_
 refine ai.nil a (b _ _ _ ?_);clear b K
 repeat refine ay (a _) ?_
 refine cv (a _) (by simp only[*,go_sem,-a,-hJ,Int.reduceBEq,Int.reduceBNe]) ?_
 refine cx (a _) ?_
 have w1:IntKind.u64.wrap 1=1:=by decide
 have w2:IntKind.u64.wrap (1*2 ^ min 32 64)=4294967296:=by decide
 repeat refine ay (a _) ?_
 refine aW a fun K b=>?_
 refine ai.pure (a _) 6 (n:=2) _ rfl rfl ?_;simp only[*,go_sem,-b,-a,muA,msA,stA,smA,Int.reduceBEq,Int.reduceBNe]
 refine ai.fB (a _) rfl (by first|(simp only[*,go_sem,-b,-a,-hJ];done)|rfl) rfl yP (by simp only[*,go_sem,-b,-a,-hJ,muA,msA,stA,smA,Int.reduceBEq,Int.reduceBNe]) (IN o p) fun r F' aJ s=>?_
 obtain ⟨rfl,v,t,rfl,rfl⟩:=s
 obtain ⟨y,c⟩:∃y:Int,y=((v+1:Nat):Int)*4294967296+((0:Nat):Int):=⟨_,rfl⟩
 rw[<-c]
 have a1:jY y 2147483648=0:=by rw[c];exact xd (v+1) 0 (by omega) (by omega)
 have a2:jY y 2147483647=0:=by rw[c];exact xe (v+1) 0 (by omega) (by omega)
 obtain ⟨V,m⟩:∃V:Int,V=((v+1:Nat):Int):=⟨_,rfl⟩
 have a3:y.fdiv (2 ^ min 32 64)=V:=by rw[c,m];exact xg (v+1) 0 (by omega)
 have a4:IntKind.i32.wrap V=V:=g7 (by omega) (by omega)
 have a5:IntKind.u32.wrap 0=0:=by decide
 have z:IntKind.i32.wrap 1=1:=by decide
 have c3:decide (V<0)=false:=by simp;omega
 have c4:decide (V>0)=true:=by simp;omega
 have f:(V==1)=true\/(V==1)=false:=by cases (V==1)<;>simp
 clear c m t
 refine ai.pure (a _) 1 (n:=0) _ rfl rfl ?_;simp only[*,go_sem,-b,-a,muA,msA,stA,smA,Int.reduceBEq,Int.reduceBNe]
 refine ai.nil a (b _ _ _ ?_);clear b K
 repeat refine ay (a _) ?_
 refine aW a fun K b=>?_
 refine ai.pure (a _) 7 (n:=0) _ rfl rfl ?_;simp only[*,go_sem,-b,-a,muA,msA,stA,smA,Int.reduceBEq,Int.reduceBNe]
 refine ai.nil a (b _ _ _ ?_);clear b K
 repeat refine ay (a _) ?_
 refine cv (a _) (by simp only[*,go_sem,-a,-hJ,Int.reduceBEq,Int.reduceBNe]) ?_
 refine cx (a _) ?_
 repeat refine ay (a _) ?_
 refine aW a fun K b=>?_
 refine ai.pure (a _) 4 (n:=0) _ rfl rfl ?_;simp only[*,go_sem,-b,-a,muA,msA,stA,smA,Int.reduceBEq,Int.reduceBNe]
 refine ai.nil a (b _ _ _ ?_);clear b K
 repeat refine ay (a _) ?_
 refine aW a fun K b=>?_
 refine ai.pure (a _) 4 (n:=0) _ rfl rfl ?_;simp only[*,go_sem,-b,-a,muA,msA,stA,smA,Int.reduceBEq,Int.reduceBNe]
 refine ai.nil a (b _ _ _ ?_);clear b K
 repeat refine ay (a _) ?_
 refine aW a fun K b=>?_
 refine ai.pure (a _) 10 (n:=0) _ rfl rfl ?_;simp only[*,go_sem,-b,-a,muA,msA,stA,smA,Int.reduceBEq,Int.reduceBNe]
 refine ai.nil a (b _ _ _ ?_);clear b K
 repeat refine ay (a _) ?_
 refine sX a (IT x.Wg F' (.co x k (.opn 1) 1) V) ?_ ?_
 ·rcases f with f|f
  ·repeat refine ay (a _) ?_
   refine cO (a _) (by simp only[*,go_sem,-a,-hJ,Int.reduceBEq,Int.reduceBNe]) ?_
   repeat refine ay (a _) ?_
   refine aW a fun K b=>?_
   refine ai.pure (a _) 3 (n:=2) _ rfl rfl ?_;simp only[*,go_sem,-b,-a,muA,msA,stA,smA,Int.reduceBEq,Int.reduceBNe]
   refine s3 ⟨x.Wg,1,none⟩ BD kQ BE ⟨_,rfl,(by first|(simp only[*,go_sem,-b,-a,-hJ];done)|rfl),rfl,rfl⟩ (fun e=>by cases e) (by simp only[*,go_sem,-b,-a,-hJ,muA,msA,stA,smA,Int.reduceBEq,Int.reduceBNe]) BY ?_
   refine Iz HI ⟨_,_,_,rfl,(by first|(simp only[*,go_sem,-b,-a,-hJ];done)|rfl),rfl,by first|(simp only[*,go_sem,-b,-a,-hJ,muA,msA,stA,smA,Int.reduceBEq,Int.reduceBNe];done)|(simp only[*,go_sem,-b,-a,-hJ,muA,msA,stA,smA,Int.reduceBEq,Int.reduceBNe];rfl),rfl⟩ (fun e=>by cases e) ?_
   refine ai.nil a (b _ _ _ ?_);clear b K
   exact eg ⟨rfl,(by simp only[*,go_sem,-a,-hJ,muA,msA,stA,smA,Int.reduceBEq,Int.reduceBNe]),(by simp only[*,go_sem,-a,-hJ,muA,msA,stA,smA,Int.reduceBEq,Int.reduceBNe]),(by simp only[*,go_sem,-a,-hJ,muA,msA,stA,smA,Int.reduceBEq,Int.reduceBNe]),(by simp only[*,go_sem,-a,-hJ,muA,msA,stA,smA,Int.reduceBEq,Int.reduceBNe]),(by simp only[*,go_sem,-a,-hJ,muA,msA,stA,smA,Int.reduceBEq,Int.reduceBNe]),rfl⟩
  ·repeat refine ay (a _) ?_
   refine cv (a _) (by simp only[*,go_sem,-a,-hJ,Int.reduceBEq,Int.reduceBNe]) ?_
   refine cx (a _) ?_
   exact eg ⟨rfl,(by simp only[*,go_sem,-a,-hJ,muA,msA,stA,smA,Int.reduceBEq,Int.reduceBNe]),(by simp only[*,go_sem,-a,-hJ,muA,msA,stA,smA,Int.reduceBEq,Int.reduceBNe]),(by simp only[*,go_sem,-a,-hJ,muA,msA,stA,smA,Int.reduceBEq,Int.reduceBNe]),(by simp only[*,go_sem,-a,-hJ,muA,msA,stA,smA,Int.reduceBEq,Int.reduceBNe]),(by simp only[*,go_sem,-a,-hJ,muA,msA,stA,smA,Int.reduceBEq,Int.reduceBNe]),rfl⟩
 clear f l0 l i hd a1 a2 a3
 rintro A u B ⟨rfl,l,C,D,i,hd,rfl⟩
 repeat refine ay (a _) ?_
 refine aW a fun K b=>?_
 refine ai.pure (a _) 2 (n:=0) _ rfl rfl ?_;simp only[*,go_sem,-b,-a,muA,msA,stA,smA,Int.reduceBEq,Int.reduceBNe]
 refine ai.nil a (b _ _ _ ?_);clear b K
 repeat refine ay (a _) ?_
 refine cv (a _) (by simp only[*,go_sem,-a,-hJ,Int.reduceBEq,Int.reduceBNe]) ?_
 refine cx (a _) ?_
 repeat refine ay (a _) ?_
 refine aW a fun K b=>?_
 refine ai.pure (a _) 12 (n:=0) _ rfl rfl ?_;simp only[*,go_sem,-b,-a,muA,msA,stA,smA,Int.reduceBEq,Int.reduceBNe]
 refine ai.nil a (b _ _ _ ?_);clear b K
 repeat refine ay (a _) ?_
 refine cv (a _) (by simp only[*,go_sem,-a,-hJ,Int.reduceBEq,Int.reduceBNe]) ?_
 refine cx (a _) ?_
 repeat refine ay (a _) ?_
 refine aW a fun K b=>?_
 refine ai.pure (a _) 6 (n:=0) _ rfl rfl ?_;simp only[*,go_sem,-b,-a,muA,msA,stA,smA,Int.reduceBEq,Int.reduceBNe]
 refine ai.nil a (b _ _ _ ?_);clear b K
 repeat refine ay (a _) ?_
 refine cO (a _) (by simp only[*,go_sem,-a,-hJ,Int.reduceBEq,Int.reduceBNe]) ?_
 exact eX (show xj 153 (fun r w g=>r= .tuple #[]/\w=u/\g= .co x k (.opn 1) 0) .ret _ _ _ from IM (by simp only[*,go_sem,-a,-hJ,muA,msA,stA,smA,Int.reduceBEq,Int.reduceBNe]) (fun e=>by cases e) ⟨rfl,rfl,rfl⟩)
end
def BZ (x:X)(F:ag)(m:Nat)(a:Act)(F':ag)(z:Z):Prop:=
 ∃u:Nat,u<=m/\u<=x.n/\F'=F/\slot a 0= .pointer (some ⟨x.Wg,0,none⟩)/\sz a=84/\a.defers=[]/\z= .co x x.n (.look u) 1
section
variable {Φ : Goroutine → ag → Prop} {x : X} {F : ag} {k : Nat}
theorem IV (o:x.Mu≠x.Wg/\x.Mu≠x.Is/\x.Wg≠x.Is)(B:x.n<67108864):
  cw Tryz.prog (ZJ TT Φ) 136 #[.pointer (some (stA x.Wg))] F (.co x x.n (.opn 0) 0)
   (fun r F' d=>r= .tuple #[]/\F'=⟨F.ro,(x.Is,(x.cy TT).fin)::F.own⟩/\d= .free):=by
 have a:=ZJ.dX TT Φ
 have hJ:True:=trivial
 refine cw.go (main:=true) a Tryz.func136 rfl Tryz.ntmps136 (by simp) fun A p hd hs=>?_
 have q:=hs 0
 clear hs
 repeat refine ay (a _) ?_
 refine cO (a _) (by simp only[*,go_sem,-a,-hJ,Int.reduceBEq,Int.reduceBNe]) ?_
 repeat refine ay (a _) ?_
 refine aW a fun K b=>?_
 refine BU qn ⟨_,_,_,rfl,(by first|(simp only[*,go_sem,-b,-a,-hJ];done)|rfl),rfl,by first|(simp only[*,go_sem,-b,-a,-hJ,muA,msA,stA,smA,Int.reduceBEq,Int.reduceBNe];done)|(simp only[*,go_sem,-b,-a,-hJ,muA,msA,stA,smA,Int.reduceBEq,Int.reduceBNe];rfl),rfl⟩ (fun e=>by cases e) (.look x.n) (fun _ _ _ h=>G8 h) ?_
 refine ai.nil a (b _ _ _ ?_);clear b K
 repeat refine ay (a _) ?_
 refine jl a ?_
 refine qm a (BZ x F) x.n ?_ ?_
 ·exact ⟨x.n,Nat.le_refl _,Nat.le_refl _,rfl,(by simp only[*,go_sem,-a,-hJ,muA,msA,stA,smA,Int.reduceBEq,Int.reduceBNe]),(by simp only[*,go_sem,-a,-hJ,muA,msA,stA,smA,Int.reduceBEq,Int.reduceBNe]),(by simp only[*,go_sem,-a,-hJ,muA,msA,stA,smA,Int.reduceBEq,Int.reduceBNe]),rfl⟩
 ·clear p hd q
  rintro m A F' d ⟨u,C,D,rfl,q,p,hd,rfl⟩
  repeat refine ay (a _) ?_
  refine jl a ?_
  repeat refine ay (a _) ?_
  refine aW a fun K b=>?_
  refine ai.pure (a _) 3 (n:=2) _ rfl rfl ?_;simp only[*,go_sem,-b,-a,muA,msA,stA,smA,Int.reduceBEq,Int.reduceBNe]
  refine ai.fB (a _) rfl (by first|(simp only[*,go_sem,-b,-a,-hJ];done)|rfl) rfl uq (by simp only[*,go_sem,-b,-a,-hJ,muA,msA,stA,smA,Int.reduceBEq,Int.reduceBNe]) IP fun r k E f=>?_
  obtain ⟨rfl,v,w,rfl,rfl⟩:=f
  obtain ⟨y,c⟩:∃y:Int,y=(v:Int)*4294967296+((0:Nat):Int):=⟨_,rfl⟩
  rw[<-c]
  have a1:jY y 2147483648=0:=by rw[c];exact xd v 0 (by omega) (by omega)
  have a2:jY y 2147483647=0:=by rw[c];exact xe v 0 (by omega) (by omega)
  obtain ⟨V,i⟩:∃V:Int,V=(v:Int):=⟨_,rfl⟩
  have a3:y.fdiv (2 ^ min 32 64)=V:=by rw[c,i];exact xg v 0 (by omega)
  have a4:IntKind.i32.wrap V=V:=g7 (by omega) (by omega)
  have a5:IntKind.u32.wrap 0=0:=by decide
  have G:IntKind.u64.wrap (y+1)=y+1:=by
   unfold IntKind.wrap
   simp only[IntKind.bits,IntKind.signed]
   simp
   omega
  by_cases j:v=0
  ·
   have c1:(V==0)=true:=by rw[i,j];rfl
   have g:(if v=0 then P0.eC else .look v)= .eC:=if_pos j
   rw[g]
   clear g c i w j
   refine ai.pure (a _) 1 (n:=0) _ rfl rfl ?_;simp only[*,go_sem,-b,-a,muA,msA,stA,smA,Int.reduceBEq,Int.reduceBNe]
   refine ai.nil a (b _ _ _ ?_);clear b K
   repeat refine ay (a _) ?_
   refine aW a fun K b=>?_
   refine ai.pure (a _) 4 (n:=0) _ rfl rfl ?_;simp only[*,go_sem,-b,-a,muA,msA,stA,smA,Int.reduceBEq,Int.reduceBNe]
   refine ai.nil a (b _ _ _ ?_);clear b K
   repeat refine ay (a _) ?_
   refine aW a fun K b=>?_
   refine ai.pure (a _) 4 (n:=0) _ rfl rfl ?_;simp only[*,go_sem,-b,-a,muA,msA,stA,smA,Int.reduceBEq,Int.reduceBNe]
   refine ai.nil a (b _ _ _ ?_);clear b K
   repeat refine ay (a _) ?_
   refine aW a fun K b=>?_
   refine ai.pure (a _) 2 (n:=0) _ rfl rfl ?_;simp only[*,go_sem,-b,-a,muA,msA,stA,smA,Int.reduceBEq,Int.reduceBNe]
   refine ai.nil a (b _ _ _ ?_);clear b K
   repeat refine ay (a _) ?_
   refine cO (a _) (by simp only[*,go_sem,-a,-hJ,Int.reduceBEq,Int.reduceBNe]) ?_
   repeat refine ay (a _) ?_
   refine cO (a _) (by simp only[*,go_sem,-a,-hJ,Int.reduceBEq,Int.reduceBNe]) ?_
   repeat refine ay (a _) ?_
   refine aW a fun K b=>?_
   refine BV kP ⟨_,_,_,rfl,(by first|(simp only[*,go_sem,-b,-a,-hJ];done)|rfl),rfl,by first|(simp only[*,go_sem,-b,-a,-hJ,muA,msA,stA,smA,Int.reduceBEq,Int.reduceBNe];done)|(simp only[*,go_sem,-b,-a,-hJ,muA,msA,stA,smA,Int.reduceBEq,Int.reduceBNe];rfl),rfl⟩ (fun e=>by cases e) ?_
   refine ai.nil a (b _ _ _ ?_);clear b K
   repeat refine ay (a _) ?_
   refine aW a fun K b=>?_
   refine ai.pure (a _) 1 (n:=2) _ rfl rfl ?_;simp only[*,go_sem,-b,-a,muA,msA,stA,smA,Int.reduceBEq,Int.reduceBNe]
   refine s3 ⟨x.Wg,0,none⟩ wT kQ wV ⟨_,rfl,(by first|(simp only[*,go_sem,-b,-a,-hJ];done)|rfl),rfl,rfl⟩ (fun e=>by cases e) (by simp only[*,go_sem,-b,-a,-hJ,muA,msA,stA,smA,Int.reduceBEq,Int.reduceBNe]) BX ?_
   refine BW sO rfl ⟨_,_,_,rfl,(by first|(simp only[*,go_sem,-b,-a,-hJ];done)|rfl),rfl,by first|(simp only[*,go_sem,-b,-a,-hJ,muA,msA,stA,smA,Int.reduceBEq,Int.reduceBNe];done)|(simp only[*,go_sem,-b,-a,-hJ,muA,msA,stA,smA,Int.reduceBEq,Int.reduceBNe];rfl),rfl⟩ ?_
   refine ai.nil a (b _ _ _ ?_);clear b K
   repeat refine ay (a _) ?_
   refine aW a fun K b=>?_
   refine ai.pure (a _) 11 (n:=0) _ rfl rfl ?_;simp only[*,go_sem,-b,-a,muA,msA,stA,smA,Int.reduceBEq,Int.reduceBNe]
   refine ai.nil a (b _ _ _ ?_);clear b K
   repeat refine ay (a _) ?_
   refine cv (a _) (by simp only[*,go_sem,-a,-hJ,Int.reduceBEq,Int.reduceBNe]) ?_
   refine cx (a _) ?_
   exact eX (show jm Tryz.prog Tryz.f136 (fun (r:Value) (F':ag) (d:Z)=>r= .tuple #[]/\F'=⟨k.ro,(x.Is,(x.cy TT).fin)::k.own⟩/\d=Z.free) .ret _ _ _ from oa rfl (by simp only[*,go_sem,-a,-hJ,muA,msA,stA,smA,Int.reduceBEq,Int.reduceBNe]) ⟨rfl,rfl,rfl⟩)
  ·have c1:(V==0)=false:=by simp;omega
   have g:(if v=0 then P0.eC else .look v)= .look v:=if_neg j
   rw[g]
   have l:=IS (Φ:=Φ) (F:=k) o (v:=v) (by omega)
   rw[<-c] at l
   clear g c i
   refine ai.pure (a _) 1 (n:=0) _ rfl rfl ?_;simp only[*,go_sem,-b,-a,muA,msA,stA,smA,Int.reduceBEq,Int.reduceBNe]
   refine ai.nil a (b _ _ _ ?_);clear b K
   repeat refine ay (a _) ?_
   refine aW a fun K b=>?_
   refine ai.pure (a _) 4 (n:=0) _ rfl rfl ?_;simp only[*,go_sem,-b,-a,muA,msA,stA,smA,Int.reduceBEq,Int.reduceBNe]
   refine ai.nil a (b _ _ _ ?_);clear b K
   repeat refine ay (a _) ?_
   refine aW a fun K b=>?_
   refine ai.pure (a _) 4 (n:=0) _ rfl rfl ?_;simp only[*,go_sem,-b,-a,muA,msA,stA,smA,Int.reduceBEq,Int.reduceBNe]
   refine ai.nil a (b _ _ _ ?_);clear b K
   repeat refine ay (a _) ?_
   refine aW a fun K b=>?_
   refine ai.pure (a _) 2 (n:=0) _ rfl rfl ?_;simp only[*,go_sem,-b,-a,muA,msA,stA,smA,Int.reduceBEq,Int.reduceBNe]
   refine ai.nil a (b _ _ _ ?_);clear b K
   repeat refine ay (a _) ?_
   refine cv (a _) (by simp only[*,go_sem,-a,-hJ,Int.reduceBEq,Int.reduceBNe]) ?_
   refine cx (a _) ?_
   repeat refine ay (a _) ?_
   refine aW a fun K b=>?_
   refine ai.pure (a _) 6 (n:=1) _ rfl rfl ?_;simp only[*,go_sem,-b,-a,muA,msA,stA,smA,Int.reduceBEq,Int.reduceBNe]
   refine ai.fB (a _) rfl (by first|(simp only[*,go_sem,-b,-a,-hJ];done)|rfl) rfl Dm (by simp only[*,go_sem,-b,-a,-hJ,muA,msA,stA,smA,Int.reduceBEq,Int.reduceBNe]) l fun r z H f=>?_
   clear l
   obtain ⟨rfl,⟨rfl,rfl⟩|⟨rfl,rfl⟩⟩:=f
   ·
    refine ai.nil a (b _ _ _ ?_);clear b K
    repeat refine ay (a _) ?_
    refine cO (a _) (by simp only[*,go_sem,-a,-hJ,Int.reduceBEq,Int.reduceBNe]) ?_
    repeat refine ay (a _) ?_
    refine aW a fun K b=>?_
    refine ai.pure (a _) 4 (n:=0) _ rfl rfl ?_;simp only[*,go_sem,-b,-a,muA,msA,stA,smA,Int.reduceBEq,Int.reduceBNe]
    refine ai.nil a (b _ _ _ ?_);clear b K
    repeat refine ay (a _) ?_
    refine cO (a _) (by simp only[*,go_sem,-a,-hJ,Int.reduceBEq,Int.reduceBNe]) ?_
    repeat refine ay (a _) ?_
    refine aW a fun K b=>?_
    refine ai.pure (a _) 3 (n:=2) _ rfl rfl ?_;simp only[*,go_sem,-b,-a,muA,msA,stA,smA,Int.reduceBEq,Int.reduceBNe]
    refine s3 ⟨x.Wg,1,none⟩ BD kQ BE ⟨_,rfl,(by first|(simp only[*,go_sem,-b,-a,-hJ];done)|rfl),rfl,rfl⟩ (fun _=>rfl) (by simp only[*,go_sem,-b,-a,-hJ,muA,msA,stA,smA,Int.reduceBEq,Int.reduceBNe]) BY ?_
    refine IA HJ ⟨_,_,_,rfl,(by first|(simp only[*,go_sem,-b,-a,-hJ];done)|rfl),rfl,by first|(simp only[*,go_sem,-b,-a,-hJ,muA,msA,stA,smA,Int.reduceBEq,Int.reduceBNe];done)|(simp only[*,go_sem,-b,-a,-hJ,muA,msA,stA,smA,Int.reduceBEq,Int.reduceBNe];rfl),rfl⟩ (fun _=>rfl) ?_
    refine ai.nil a (b _ _ _ ?_);clear b K
    repeat refine ay (a _) ?_
    refine aW a fun K b=>?_
    refine ai.pure (a _) 1 (n:=0) _ rfl rfl ?_;simp only[*,go_sem,-b,-a,muA,msA,stA,smA,Int.reduceBEq,Int.reduceBNe]
    refine ai.nil a (b _ _ _ ?_);clear b K
    repeat refine ay (a _) ?_
    refine aW a fun K b=>?_
    refine ai.pure (a _) 6 (n:=0) _ rfl rfl ?_;simp only[*,go_sem,-b,-a,muA,msA,stA,smA,Int.reduceBEq,Int.reduceBNe]
    refine ai.nil a (b _ _ _ ?_);clear b K
    repeat refine ay (a _) ?_
    refine cv (a _) (by simp only[*,go_sem,-a,-hJ,Int.reduceBEq,Int.reduceBNe]) ?_
    refine cx (a _) ?_
    repeat refine ay (a _) ?_
    refine aW a fun K b=>?_
    refine ai.pure (a _) 4 (n:=1) _ rfl rfl ?_;simp only[*,go_sem,-b,-a,muA,msA,stA,smA,Int.reduceBEq,Int.reduceBNe]
    refine IF (.bool false) HK o rfl ⟨_,_,_,rfl,(by first|(simp only[*,go_sem,-b,-a,-hJ];done)|rfl),rfl,by first|(simp only[*,go_sem,-b,-a,-hJ,muA,msA,stA,smA,Int.reduceBEq,Int.reduceBNe];done)|(simp only[*,go_sem,-b,-a,-hJ,muA,msA,stA,smA,Int.reduceBEq,Int.reduceBNe];rfl),rfl⟩ ?_
    refine ai.nil a (b _ _ _ ?_);clear b K
    repeat refine ay (a _) ?_
    refine aW a fun K b=>?_
    refine ai.pure (a _) 3 (n:=3) _ rfl rfl ?_;simp only[*,go_sem,-b,-a,muA,msA,stA,smA,Int.reduceBEq,Int.reduceBNe]
    refine ai.fB (a _) rfl (by first|(simp only[*,go_sem,-b,-a,-hJ];done)|rfl) rfl uq (by simp only[*,go_sem,-b,-a,-hJ,muA,msA,stA,smA,Int.reduceBEq,Int.reduceBNe]) IQ fun r s I f=>?_
    obtain ⟨rfl,rfl,rfl⟩:=f
    refine ai.pure (a _) 2 (n:=0) _ rfl rfl ?_;simp only[*,go_sem,-b,-a,muA,msA,stA,smA,Int.reduceBEq,Int.reduceBNe]
    refine ai.nil a (b _ _ _ ?_);clear b K
    repeat refine ay (a _) ?_
    refine cO (a _) (by simp only[*,go_sem,-a,-hJ,Int.reduceBEq,Int.reduceBNe]) ?_
    repeat refine ay (a _) ?_
    refine aW a fun K b=>?_
    refine BV kP ⟨_,_,_,rfl,(by first|(simp only[*,go_sem,-b,-a,-hJ];done)|rfl),rfl,by first|(simp only[*,go_sem,-b,-a,-hJ,muA,msA,stA,smA,Int.reduceBEq,Int.reduceBNe];done)|(simp only[*,go_sem,-b,-a,-hJ,muA,msA,stA,smA,Int.reduceBEq,Int.reduceBNe];rfl),rfl⟩ (fun e=>by cases e) ?_
    refine ai.nil a (b _ _ _ ?_);clear b K
    repeat refine ay (a _) ?_
    refine aW a fun K b=>?_
    refine ai.pure (a _) 1 (n:=2) _ rfl rfl ?_;simp only[*,go_sem,-b,-a,muA,msA,stA,smA,Int.reduceBEq,Int.reduceBNe]
    refine s3 ⟨x.Wg,0,none⟩ wT kQ wV ⟨_,rfl,(by first|(simp only[*,go_sem,-b,-a,-hJ];done)|rfl),rfl,rfl⟩ (fun e=>by cases e) (by simp only[*,go_sem,-b,-a,-hJ,muA,msA,stA,smA,Int.reduceBEq,Int.reduceBNe]) BX ?_
    refine BW sO rfl ⟨_,_,_,rfl,(by first|(simp only[*,go_sem,-b,-a,-hJ];done)|rfl),rfl,by first|(simp only[*,go_sem,-b,-a,-hJ,muA,msA,stA,smA,Int.reduceBEq,Int.reduceBNe];done)|(simp only[*,go_sem,-b,-a,-hJ,muA,msA,stA,smA,Int.reduceBEq,Int.reduceBNe];rfl),rfl⟩ ?_
    refine ai.nil a (b _ _ _ ?_);clear b K
    repeat refine ay (a _) ?_
    refine aW a fun K b=>?_
    refine ai.pure (a _) 1 (n:=0) _ rfl rfl ?_;simp only[*,go_sem,-b,-a,muA,msA,stA,smA,Int.reduceBEq,Int.reduceBNe]
    refine ai.nil a (b _ _ _ ?_);clear b K
    repeat refine ay (a _) ?_
    refine cv (a _) (by simp only[*,go_sem,-a,-hJ,Int.reduceBEq,Int.reduceBNe]) ?_
    refine cx (a _) ?_
    exact eX (show jm Tryz.prog Tryz.f136 (fun (r:Value) (F':ag) (d:Z)=>r= .tuple #[]/\F'=⟨s.ro,(x.Is,(x.cy TT).fin)::s.own⟩/\d=Z.free) .ret _ _ _ from oa rfl (by simp only[*,go_sem,-a,-hJ,muA,msA,stA,smA,Int.reduceBEq,Int.reduceBNe]) ⟨rfl,rfl,rfl⟩)
   ·
    refine ai.nil a (b _ _ _ ?_);clear b K
    repeat refine ay (a _) ?_
    refine cv (a _) (by simp only[*,go_sem,-a,-hJ,Int.reduceBEq,Int.reduceBNe]) ?_
    refine cx (a _) ?_
    change ∃t,t<m/\BZ x z t _ _ _
    exact ⟨v - 1,by omega,v - 1,Nat.le_refl _,by omega,rfl,(by simp only[*,go_sem,-a,-hJ,muA,msA,stA,smA,Int.reduceBEq,Int.reduceBNe]),(by simp only[*,go_sem,-a,-hJ,muA,msA,stA,smA,Int.reduceBEq,Int.reduceBNe]),(by simp only[*,go_sem,-a,-hJ,muA,msA,stA,smA,Int.reduceBEq,Int.reduceBNe]),rfl⟩
end
end Go.Proofs.YtipgiooobncfbaaGreatDoor
end
section
namespace Go.Sep
open Go Go.Conc
variable {P : Program}
theorem IW {t e:TypeId}{i:TypeInfo}{n:Nat}{R:Value->ag->Prop}{F:ag}(hu:P.underlying t=some (.slice e))(hi:P.info? e=some i)(hb:i.bytes=1)(hs:bW P e=some 1)(c:zeroOf P e=some (.bool false))(f:n<1048576)
  (h:∀b,dD F b->R (.slice (some ⟨b,0,none⟩) n n) (F.push b (.cells (List.replicate n (Value.bool false)).toArray e))):eE P (Instr.makeSlice t (.int .i64 n) (.int .i64 n)) R F:=by
 unfold eE
 have hw:IntKind.i64.wrap (n:Int)=(n:Int):=by
  unfold IntKind.wrap
  simp[IntKind.bits,IntKind.signed]
  omega
 have e1:¬((n:Int)<0\/(1:Int)*(n:Int)>2 ^ 48):=by
  have:((2:Int) ^ 48)=281474976710656:=by decide
  omega
 simp only[Instr.makeSlice,bn,c8,hu,yb,oA,hi,hb,hw]
 have e2:(((n:Int)<0||decide (((1:Nat):Int)*(n:Int)>2 ^ 48))||decide ((n:Int)<0)||decide ((n:Int)>(n:Int)))=false:=by
  have:((2:Int) ^ 48)=281474976710656:=by decide
  simp only[Bool.or_eq_false_iff,decide_eq_false_iff_not]
  omega
 rw[if_neg (by rw[e2];simp)]
 simp only[bn]
 refine tK _ ?_
 simp only[bn,ey,hs,Int.toNat_natCast,Nat.mul_one]
 have fin:∀zero:Array Value,(n≠0->zero=#[.bool false])->aS P (newRow e ((Array.range n).map (fun j=>zero[j % zero.size]!))) (fun a G=>aS P (Pure.pure (Value.slice (some a) n n)) R G) F:=fun zero hzero=>by
  simp only[newRow,bn,oz,bC]
  have d:((Array.range n).map (fun j=>zero[j % zero.size]!))=(List.replicate n (Value.bool false)).toArray:=by
   rcases Nat.eq_zero_or_pos n with rfl|g
   ·simp
   ·rw[hzero (by omega)]
    rw[<-Array.toList_inj]
    simp only[Array.toList_map,Array.toList_range]
    apply List.ext_getElem
    ·simp
    ·intro i h1 h2
     simp[Nat.mod_one]
  rw[d]
  exact ⟨rfl,h⟩
 by_cases h0:n=0
 ·rw[if_pos h0]
  exact fin #[] (fun x=>absurd h0 x)
 ·rw[if_neg h0]
  rw[bn,kV,c]
  exact fin #[.bool false] (fun _=>rfl)
section
variable {T : PT} {Φ : Goroutine → ag → Prop} {fi : FuncId}
def xk:Z->Bool| .co _ _ .reg _=>false|_=>true
theorem ZJ.IX (T:PT)(Φ:Goroutine->ag->Prop)(z:Z)(h:xk z=true):Closed T.P true (ZJ T Φ z):=ZJ.closed T Φ fun x k d e=>by subst e;simp[xk] at h
theorem B1 {P:Program}{main:Bool}{S:Type}{JF:S->Goroutine->ag->Prop}{ph:S}(hJ:Closed P main (JF ph)){c:Code}{Q:Ex->Act->ag->S->Prop}{a:Act}{F F':ag}(hle:Le F F')(h:cC JF fi c Q a F ph):cC JF fi c Q a F' ph:=
 fun b k cs hb d=>hJ.mono hle (h b k cs hb d)
theorem xl {P:Program}{main:Bool}{S:Type}{JF:S->Goroutine->ag->Prop}{ph:S}(hJ:Closed P main (JF ph)){c:Code}{Q:Ex->Act->ag->S->Prop}{a:Act}{F:ag}(h:aL (keys F.own)->az F.ro F.own->cC JF fi c Q a F ph):cC JF fi c Q a F ph:=by
 intro b k cs hb d
 by_cases hw:∃w,Has F w
 ·obtain ⟨w,hw⟩:=hw
  refine h ⟨hw.nodup⟩ (fun b hb off sp=>?_) b k cs hb d
  cases e:F.ro ⟨b,off,sp⟩ with
  |none=>rfl
  |some v=>exact absurd hb (hw.apart _ v e)
 ·exact hJ.step fun w f=>absurd ⟨w,f⟩ hw
end
theorem mF {ro:Addr->Option Value}{b a off:Nat}{sp:Option Nat}{o:Obj}(h:ro ⟨a,off,sp⟩=none)(c:a≠b):bO ro b o ⟨a,off,sp⟩=none:=by simp[bO,h,c]
theorem IY {ro:Addr->Option Value}{b3 b4 b a I M W:Nat}{i o4 g c d e f:Obj}(p:aL (keys [(W,f),(M,e),(a,c),(I,d),(b,g),(b4,o4),(b3,i)]))(l:az ro [(W,f),(M,e),(a,c),(I,d),(b,g),(b4,o4),(b3,i)]):
  ∃j,Ext ro j/\Le ⟨j,[(M,e),(W,f),(I,d)]⟩ ⟨ro,[(W,f),(M,e),(a,c),(I,d),(b,g),(b4,o4),(b3,i)]⟩/\
   (∀off v,cellOf i off=some v->j ⟨b3,off,none⟩=some v)/\(∀off v,cellOf o4 off=some v->j ⟨b4,off,none⟩=some v)/\(∀off v,cellOf g off=some v->j ⟨b,off,none⟩=some v)/\(∀off v,cellOf c off=some v->j ⟨a,off,none⟩=some v):=by
 have hd:=p.1
 simp only[keys,List.map_cons,List.map_nil,List.nodup_cons,List.mem_cons,List.not_mem_nil,not_or] at hd
 obtain ⟨⟨-,a1,-,a2,a3,a4,-⟩,⟨G,-,H,J,K,-⟩,⟨c1,c2,c3,c4,-⟩,⟨i1,i2,i3,-⟩,⟨e1,e2,-⟩,⟨r,-⟩,-⟩:=hd
 have r3:∀off sp,ro ⟨b3,off,sp⟩=none:=l b3 (by simp[keys])
 have s:∀off sp,ro ⟨b4,off,sp⟩=none:=l b4 (by simp[keys])
 have t:∀off sp,ro ⟨b,off,sp⟩=none:=l b (by simp[keys])
 have u:∀off sp,ro ⟨a,off,sp⟩=none:=l a (by simp[keys])
 clear l p
 have w:b4≠b3:=r
 have x:b≠b3:=e2
 have y:b≠b4:=e1
 have z:a≠b3:=c4
 have A:a≠b4:=c3
 have B:a≠b:=c2
 let s1:=bO ro b3 i
 let s2:=bO s1 b4 o4
 let k:=bO s2 b g
 let n:=bO k a c
 have C:Ext ro s1:=fE _ _ _
 have q:Ext s1 s2:=fE _ _ _
 have o:Ext s2 k:=fE _ _ _
 have m:Ext k n:=fE _ _ _
 have t4:∀off sp,s1 ⟨b4,off,sp⟩=none:=fun off sp=>mF (s off sp) w
 have t7:∀off sp,s2 ⟨b,off,sp⟩=none:=fun off sp=>mF (mF (t off sp) x) y
 have t8:∀off sp,k ⟨a,off,sp⟩=none:=fun off sp=>mF (mF (mF (u off sp) z) A) B
 have k1:Le ⟨s1,[(W,f),(M,e),(a,c),(I,d),(b,g),(b4,o4)]⟩ ⟨ro,[(W,f),(M,e),(a,c),(I,d),(b,g),(b4,o4),(b3,i)]⟩:=
  jx (by simp[lk, *]) (by simp) (by simp[ak,Ne.symm, *])
 have D:Le ⟨s2,[(W,f),(M,e),(a,c),(I,d),(b,g)]⟩ ⟨s1,[(W,f),(M,e),(a,c),(I,d),(b,g),(b4,o4)]⟩:=
  jx (by simp[lk, *]) (by simp) (by simp[ak,Ne.symm, *])
 have E:Le ⟨k,[(W,f),(M,e),(a,c),(I,d)]⟩ ⟨s2,[(W,f),(M,e),(a,c),(I,d),(b,g)]⟩:=
  jx (by simp[lk, *]) (by simp) (by simp[ak,Ne.symm, *])
 have F:Le ⟨n,[(W,f),(M,e),(I,d)]⟩ ⟨k,[(W,f),(M,e),(a,c),(I,d)]⟩:=
  jx (by simp[lk, *]) (by simp) (by simp[ak,Ne.symm, *])
 refine ⟨n,((C.trans q).trans o).trans m,yR.trans (((F.trans E).trans D).trans k1),fun off v h=>?_,fun off v h=>?_,fun off v h=>?_,fun off v h=>?_⟩
 ·exact m _ _ (o _ _ (q _ _ ((iy r3).trans h)))
 ·exact m _ _ (o _ _ ((iy t4).trans h))
 ·exact m _ _ ((iy t7).trans h)
 ·exact (iy t8).trans h
theorem IZ {ro:Addr->Option Value}{a b2:Nat}{o1 o2:Obj}(d:aL (keys [(b2,o2),(a,o1)]))(c:az ro [(b2,o2),(a,o1)]):
  ∃b,Ext ro b/\Le ⟨b,[]⟩ ⟨ro,[(b2,o2),(a,o1)]⟩/\(∀off v,cellOf o1 off=some v->b ⟨a,off,none⟩=some v)/\(∀off v,cellOf o2 off=some v->b ⟨b2,off,none⟩=some v):=by
 have hd:=d.1
 simp only[keys,List.map_cons,List.map_nil,List.nodup_cons,List.mem_cons,List.not_mem_nil,not_or] at hd
 have r1:∀off sp,ro ⟨a,off,sp⟩=none:=c a (by simp[keys])
 have r2:∀off sp,ro ⟨b2,off,sp⟩=none:=c b2 (by simp[keys])
 have e:b2≠a:=by obtain ⟨⟨z,-⟩,-⟩:=hd;exact z
 have t2:∀off sp,bO ro a o1 ⟨b2,off,sp⟩=none:=fun off sp=>mF (r2 off sp) e
 have k1:Le ⟨bO ro a o1,[(b2,o2)]⟩ ⟨ro,[(b2,o2),(a,o1)]⟩:=jx (by simp[lk, *]) (by simp) (by simp[ak,Ne.symm, *])
 have f:Le ⟨bO (bO ro a o1) b2 o2,[]⟩ ⟨bO ro a o1,[(b2,o2)]⟩:=jx (by simp only[lk];simp) (by simp) trivial
 exact ⟨_,(fE _ _ _).trans (fE _ _ _),f.trans k1,fun off v h=>fE _ _ _ _ _ ((iy r1).trans h),fun off v h=>(iy t2).trans h⟩
theorem I0 {T:PT}{Φ:Goroutine->ag->Prop}{x:X}{k:Nat}{ops:Array Oper}{j n:Nat}{Q:Act->ag->Z->Prop}{a:Act}{F:ag}{fi:FuncId}(b:k<x.n){y:Operand}{f0:FuncId}{cZ:Array TypeId}{caps:Array Value}(c:mC ops j a (.go {callee:=.value y,args:=#[],argTypes:=cZ}) none)(d:ev a y= .func (.func f0) #[] caps)
  (hW:Wk (x.cy T) k ⟨.idle,.cnt,false,0⟩ (born T.P {target:=.fn (.func f0) caps,args:=#[]}) ⟨F.ro,[]⟩) (h:ai (ZJ T Φ) fi ops (j+1) n Q (aY a none undef) F (.co x (k+1) (.opn 0) 0)):ai (ZJ T Φ) fi ops j (n+1) Q a F (.co x k (.opn 1) 0):=by
 obtain ⟨o,e,hg,f,hd⟩:=c
 have e1:execOp a.eval o=(pure (.spawn {target:=.fn (.func f0) caps,args:=#[]}):Sem Next):=by
  unfold execOp
  have e0:(#[]:Array Value)++Array.map (ev a) #[]=#[]:=by simp
  simp only[f,resolve,ei,d,Deferred.ofValue,e0]
  rfl
 refine IG (fv:=y) b e hg (fun w=>?_) rfl hW (by rw[hd];exact h)
 rw[e1]
 exact ⟨rfl,rfl⟩
end Go.Sep
end
section
namespace Go.Proofs.YtipgiooobncfbaaGreatDoor
open Go Go.Sep Go.Proofs Go.Conc
open Go.ConcN (upd upd_same)
open Go.ConcM (muA msA)
open Go.ConcR (stA smA)
set_option maxRecDepth 100000
set_option maxHeartbeats 4000000
def I1 (Wg:Nat)(st:Bool)(F:ag)(m:Nat)(a:Act)(F':ag)(ph:Ph):Prop:=
 ∃t8:Int,F'=F/\slot a 0= .pointer (some ⟨Wg,0,none⟩)/\slot a 8= .int .u32 t8/\sz a=117/\a.defers=[dcall 153 #[]]/\((m=1/\t8=1/\ph=⟨.fin,.sm,st,1⟩)\/(m=0/\t8=0/\ph=⟨.fin,.gone,st,1⟩))
theorem I2 {f:FuncId}{R:Value->ag->Ph->Prop}{a:Act}{F:ag}{ph:Ph}{b:Nat}(hd:a.defers=[dcall f #[]])(hg:ph.gp= .gone)(h:ph.deaf=b+1)(c:R (.tuple #[]) F {ph with deaf:=b}):jX f R .normal a F ph:=⟨hd,hg,b,h,c⟩
theorem s4 {f:FuncId}{R:Value->ag->Ph->Prop}{a:Act}{F:ag}{ph:Ph}{b:Nat}(hd:a.defers=[dcall f #[]])(hg:ph.gp= .gone)(h:ph.deaf=b+1)(c:R (.tuple #[]) F {ph with deaf:=b}):jX f R .ret a F ph:=⟨hd,hg,b,h,c⟩
section
variable {Mu Wg Is n base T0 i : Nat} {bs : Nat → Bool} {st : Bool} {F : ag}
theorem I3 (h:Mu≠Wg/\Mu≠Is/\Wg≠Is)(u:n<67108864){mp:Mp}(w:mp= .idle\/mp= .fin)(y:st=bs i):
  cw Tryz.prog (WJ (CY Mu Wg Is n bs base T0) i) 129 #[.pointer (some (stA Wg)),.int .i64 (-1)] F ⟨mp,.cnt,st,0⟩
   (fun r F' aJ=>r= .tuple #[]/\F'=F/\aJ=⟨.fin,.gone,st,0⟩):=by
 have a:=WJ.dX (CY Mu Wg Is n bs base T0) i
 refine cw.Io kP Tryz.func129 rfl rfl Tryz.ntmps129 (by simp) fun A j hd hs=>?_
 have hJ:True:=trivial
 have z:=hs 0
 have k1:=hs 1
 clear hs
 subst y
 have c1:decide ((-1:Int)<0)=true:=by decide
 have c2:decide ((-1:Int)>0)=false:=by decide
 repeat refine ay (a _) ?_
 refine cO (a _) (by simp only[*,go_sem,-a,-hJ,Int.reduceBEq,Int.reduceBNe]) ?_
 repeat refine ay (a _) ?_
 refine aW a fun K b=>?_
 refine ai.pure (a _) 2 (n:=0) _ rfl rfl ?_;simp only[*,go_sem,-b,-a,muA,msA,stA,smA,Int.reduceBEq,Int.reduceBNe]
 refine ai.nil a (b _ _ _ ?_);clear b K
 repeat refine ay (a _) ?_
 refine cO (a _) (by simp only[*,go_sem,-a,-hJ,Int.reduceBEq,Int.reduceBNe]) ?_
 repeat refine ay (a _) ?_
 refine aW a fun K b=>?_
 refine ai.pure (a _) 1 (n:=2) _ rfl rfl ?_;simp only[*,go_sem,-b,-a,muA,msA,stA,smA,Int.reduceBEq,Int.reduceBNe]
 refine sV ⟨Wg,0,none⟩ wT kQ wV ⟨_,rfl,(by first|(simp only[*,go_sem,-b,-a,-hJ];done)|rfl),rfl,rfl⟩ (by simp) (by simp only[*,go_sem,-b,-a,-hJ,muA,msA,stA,smA,Int.reduceBEq,Int.reduceBNe]) Iq ?_
 refine HT By ⟨_,_,_,rfl,(by first|(simp only[*,go_sem,-b,-a,-hJ];done)|rfl),rfl,by first|(simp only[*,go_sem,-b,-a,-hJ,muA,msA,stA,smA,Int.reduceBEq,Int.reduceBNe];done)|(simp only[*,go_sem,-b,-a,-hJ,muA,msA,stA,smA,Int.reduceBEq,Int.reduceBNe];rfl),rfl⟩ rfl rfl w rfl ?_
 refine ai.nil a (b _ _ _ ?_);clear b K
 repeat refine ay (a _) ?_
 refine aW a fun K b=>?_
 refine w6 qn ⟨_,_,_,rfl,(by first|(simp only[*,go_sem,-b,-a,-hJ];done)|rfl),rfl,by first|(simp only[*,go_sem,-b,-a,-hJ,muA,msA,stA,smA,Int.reduceBEq,Int.reduceBNe];done)|(simp only[*,go_sem,-b,-a,-hJ,muA,msA,stA,smA,Int.reduceBEq,Int.reduceBNe];rfl),rfl⟩ (by simp) (by simp) ?_
 refine ai.nil a (b _ _ _ ?_);clear b K
 repeat refine ay (a _) ?_
 refine aW a fun K b=>?_
 refine ai.defer (a _) rfl (by first|(simp only[*,go_sem,-b,-a,-hJ];done)|rfl) rfl rfl (by simp;rfl) fun g e1 e2 o=>?_
 have l0:slot g 0= .pointer (some ⟨Wg,0,none⟩):=(e1 0).trans (by simp only[*,go_sem,-a,-hJ,muA,msA,stA,smA,Int.reduceBEq,Int.reduceBNe])
 have B:slot g 1= .int .i64 (-1):=(e1 1).trans (by simp only[*,go_sem,-a,-hJ,muA,msA,stA,smA,Int.reduceBEq,Int.reduceBNe])
 replace j:sz g=117:=e2.trans (by simp only[*,go_sem,-a,-hJ,muA,msA,stA,smA,Int.reduceBEq,Int.reduceBNe])
 replace hd:g.defers=[dcall 153 #[]]:=o.trans (by simp only[*,go_sem,-a,-hJ,muA,msA,stA,smA,Int.reduceBEq,Int.reduceBNe])
 clear e1 e2 o z k1
 refine ai.nil a (b _ _ _ ?_);clear b K
 repeat refine ay (a _) ?_
 refine aW a fun K b=>?_
 refine ai.pure (a _) 1 (n:=0) _ rfl rfl ?_;simp only[*,go_sem,-b,-a,muA,msA,stA,smA,Int.reduceBEq,Int.reduceBNe]
 refine ai.nil a (b _ _ _ ?_);clear b K
 repeat refine ay (a _) ?_
 refine aW a fun K b=>?_
 refine ai.entry (.bool false) (a _) BC ⟨_,_,_,rfl,(by first|(simp only[*,go_sem,-b,-a,-hJ];done)|rfl),rfl,by first|(simp only[*,go_sem,-b,-a,-hJ,muA,msA,stA,smA,Int.reduceBEq,Int.reduceBNe];done)|(simp only[*,go_sem,-b,-a,-hJ,muA,msA,stA,smA,Int.reduceBEq,Int.reduceBNe];rfl),rfl⟩ ?_
 refine ai.nil a (b _ _ _ ?_);clear b K
 repeat refine ay (a _) ?_
 refine cv (a _) (by simp only[*,go_sem,-a,-hJ,Int.reduceBEq,Int.reduceBNe]) ?_
 refine cx (a _) ?_
 have w1:IntKind.u64.wrap (-1)=18446744073709551615:=by decide
 have w2:IntKind.u64.wrap (18446744073709551615*2 ^ min 32 64)=18446744069414584320:=by decide
 repeat refine ay (a _) ?_
 refine aW a fun K b=>?_
 refine ai.pure (a _) 6 (n:=2) _ rfl rfl ?_;simp only[*,go_sem,-b,-a,muA,msA,stA,smA,Int.reduceBEq,Int.reduceBNe]
 refine ai.fB (a _) rfl (by first|(simp only[*,go_sem,-b,-a,-hJ];done)|rfl) rfl yP (by simp only[*,go_sem,-b,-a,-hJ,muA,msA,stA,smA,Int.reduceBEq,Int.reduceBNe]) (Ir h u) fun r F' aJ f=>?_
 obtain ⟨rfl,v,t,p,ht,rfl,rfl⟩:=f
 obtain ⟨x,d⟩:∃x:Int,x=(v:Int)*4294967296+(t:Int):=⟨_,rfl⟩
 rw[<-d]
 have a1:jY x 2147483648=0:=by rw[d];exact xd v t (by omega) ht
 have a2:jY x 2147483647=(t:Int):=by rw[d];exact xe v t (by omega) ht
 have a3:x.fdiv (2 ^ min 32 64)=(v:Int):=by rw[d];exact xg v t ht
 have a4:IntKind.i32.wrap (v:Int)=(v:Int):=g7 (by omega) (by omega)
 have a5:IntKind.u32.wrap (t:Int)=(t:Int):=by
  unfold IntKind.wrap
  simp[IntKind.bits,IntKind.signed]
  omega
 have k:v=0->t=1->((1:Int) != x)=false:=fun e C=>by rw[d,e,C];rfl
 clear d
 refine ai.pure (a _) 1 (n:=0) _ rfl rfl ?_;simp only[*,go_sem,-b,-a,muA,msA,stA,smA,Int.reduceBEq,Int.reduceBNe]
 refine ai.nil a (b _ _ _ ?_);clear b K
 repeat refine ay (a _) ?_
 refine aW a fun K b=>?_
 refine ai.pure (a _) 7 (n:=0) _ rfl rfl ?_;simp only[*,go_sem,-b,-a,muA,msA,stA,smA,Int.reduceBEq,Int.reduceBNe]
 refine ai.nil a (b _ _ _ ?_);clear b K
 repeat refine ay (a _) ?_
 refine cv (a _) (by simp only[*,go_sem,-a,-hJ,Int.reduceBEq,Int.reduceBNe]) ?_
 refine cx (a _) ?_
 repeat refine ay (a _) ?_
 refine aW a fun K b=>?_
 refine ai.pure (a _) 4 (n:=0) _ rfl rfl ?_;simp only[*,go_sem,-b,-a,muA,msA,stA,smA,Int.reduceBEq,Int.reduceBNe]
 refine ai.nil a (b _ _ _ ?_);clear b K
 repeat refine ay (a _) ?_
 refine aW a fun K b=>?_
 refine ai.pure (a _) 4 (n:=0) _ rfl rfl ?_;simp only[*,go_sem,-b,-a,muA,msA,stA,smA,Int.reduceBEq,Int.reduceBNe]
 refine ai.nil a (b _ _ _ ?_);clear b K
 repeat refine ay (a _) ?_
 refine aW a fun K b=>?_
 refine ai.pure (a _) 10 (n:=0) _ rfl rfl ?_;simp only[*,go_sem,-b,-a,muA,msA,stA,smA,Int.reduceBEq,Int.reduceBNe]
 refine ai.nil a (b _ _ _ ?_);clear b K
 repeat refine ay (a _) ?_
 refine cv (a _) (by simp only[*,go_sem,-a,-hJ,Int.reduceBEq,Int.reduceBNe]) ?_
 refine cx (a _) ?_
 have c3:decide ((v:Int)<0)=false:=by simp
 repeat refine ay (a _) ?_
 refine aW a fun K b=>?_
 refine ai.pure (a _) 2 (n:=0) _ rfl rfl ?_;simp only[*,go_sem,-b,-a,muA,msA,stA,smA,Int.reduceBEq,Int.reduceBNe]
 refine ai.nil a (b _ _ _ ?_);clear b K
 repeat refine ay (a _) ?_
 refine cv (a _) (by simp only[*,go_sem,-a,-hJ,Int.reduceBEq,Int.reduceBNe]) ?_
 refine cx (a _) ?_
 have q:t=0\/t=1:=by omega
 by_cases hC:v=0/\t=1
 ·
  obtain ⟨rfl,rfl⟩:=hC
  have D:((1:Int) != x)=false:=k rfl rfl
  have hg:(if (0:Nat)=0/\(1:Nat)=1 then Gp.ld else Gp.gone)= .ld:=rfl
  rw[hg]
  have E:((1:Nat):Int)=1:=rfl
  clear hg k q p ht
  repeat refine ay (a _) ?_
  refine aW a fun K b=>?_
  refine ai.pure (a _) 12 (n:=0) _ rfl rfl ?_;simp only[*,go_sem,-b,-a,muA,msA,stA,smA,Int.reduceBEq,Int.reduceBNe]
  refine ai.nil a (b _ _ _ ?_);clear b K
  repeat refine ay (a _) ?_
  refine cv (a _) (by simp only[*,go_sem,-a,-hJ,Int.reduceBEq,Int.reduceBNe]) ?_
  refine cx (a _) ?_
  repeat refine ay (a _) ?_
  refine aW a fun K b=>?_
  refine ai.pure (a _) 6 (n:=0) _ rfl rfl ?_;simp only[*,go_sem,-b,-a,muA,msA,stA,smA,Int.reduceBEq,Int.reduceBNe]
  refine ai.nil a (b _ _ _ ?_);clear b K
  repeat refine ay (a _) ?_
  refine cv (a _) (by simp only[*,go_sem,-a,-hJ,Int.reduceBEq,Int.reduceBNe]) ?_
  refine cx (a _) ?_
  repeat refine ay (a _) ?_
  refine aW a fun K b=>?_
  refine ai.pure (a _) 3 (n:=3) _ rfl rfl ?_;simp only[*,go_sem,-b,-a,muA,msA,stA,smA,Int.reduceBEq,Int.reduceBNe]
  refine ai.fB (a _) rfl (by first|(simp only[*,go_sem,-b,-a,-hJ];done)|rfl) rfl uq (by simp only[*,go_sem,-b,-a,-hJ,muA,msA,stA,smA,Int.reduceBEq,Int.reduceBNe]) It fun r F' aJ f=>?_
  obtain ⟨rfl,rfl,rfl⟩:=f
  refine ai.pure (a _) 2 (n:=0) _ rfl rfl ?_;simp only[*,go_sem,-b,-a,muA,msA,stA,smA,Int.reduceBEq,Int.reduceBNe]
  refine ai.nil a (b _ _ _ ?_);clear b K
  repeat refine ay (a _) ?_
  refine cv (a _) (by simp only[*,go_sem,-a,-hJ,Int.reduceBEq,Int.reduceBNe]) ?_
  refine cx (a _) ?_
  repeat refine ay (a _) ?_
  refine aW a fun K b=>?_
  refine ai.pure (a _) 3 (n:=1) _ rfl rfl ?_;simp only[*,go_sem,-b,-a,muA,msA,stA,smA,Int.reduceBEq,Int.reduceBNe]
  refine ai.fB (a _) rfl (by first|(simp only[*,go_sem,-b,-a,-hJ];done)|rfl) rfl Dj (by simp only[*,go_sem,-b,-a,-hJ,muA,msA,stA,smA,Int.reduceBEq,Int.reduceBNe]) (Iu h) fun r F' aJ f=>?_
  obtain ⟨rfl,rfl,rfl⟩:=f
  refine ai.nil a (b _ _ _ ?_);clear b K
  repeat refine ay (a _) ?_
  refine aW a fun K b=>?_
  refine ai.pure (a _) 1 (n:=0) _ rfl rfl ?_;simp only[*,go_sem,-b,-a,muA,msA,stA,smA,Int.reduceBEq,Int.reduceBNe]
  refine ai.nil a (b _ _ _ ?_);clear b K
  repeat refine ay (a _) ?_
  refine cv (a _) (by simp only[*,go_sem,-a,-hJ,Int.reduceBEq,Int.reduceBNe]) ?_
  refine cx (a _) ?_
  repeat refine ay (a _) ?_
  refine jl a ?_
  refine qm a (I1 Wg (bs i) F') 1 ?_ ?_
  ·exact ⟨1,rfl,(by simp only[*,go_sem,-a,-hJ,muA,msA,stA,smA,Int.reduceBEq,Int.reduceBNe]),(by simp only[*,go_sem,-a,-hJ,muA,msA,stA,smA,Int.reduceBEq,Int.reduceBNe]),(by simp only[*,go_sem,-a,-hJ,muA,msA,stA,smA,Int.reduceBEq,Int.reduceBNe]),(by simp only[*,go_sem,-a,-hJ,muA,msA,stA,smA,Int.reduceBEq,Int.reduceBNe]),.inl ⟨rfl,rfl,rfl⟩⟩
  ·clear l0 B j hd c1 c2 c3 D a1 a2 a3 a4 a5 w1 w2 E
   rintro m A G I ⟨t8,rfl,l0,J,j,hd,⟨rfl,rfl,rfl⟩|⟨rfl,rfl,rfl⟩⟩
   ·have H:((1:Int) != 0)=true:=rfl
    have w3:IntKind.u32.wrap (1 - 1)=0:=by decide
    repeat refine ay (a _) ?_
    refine aW a fun K b=>?_
    refine ai.pure (a _) 2 (n:=0) _ rfl rfl ?_;simp only[*,go_sem,-b,-a,muA,msA,stA,smA,Int.reduceBEq,Int.reduceBNe]
    refine ai.nil a (b _ _ _ ?_);clear b K
    repeat refine ay (a _) ?_
    refine cO (a _) (by simp only[*,go_sem,-a,-hJ,Int.reduceBEq,Int.reduceBNe]) ?_
    refine cx (a _) ?_
    repeat refine ay (a _) ?_
    refine jl a ?_
    repeat refine ay (a _) ?_
    refine aW a fun K b=>?_
    refine ai.pure (a _) 3 (n:=1) _ rfl rfl ?_;simp only[*,go_sem,-b,-a,muA,msA,stA,smA,Int.reduceBEq,Int.reduceBNe]
    refine Il (.bool false) (.int .i64 0) HL h ⟨_,_,_,rfl,(by first|(simp only[*,go_sem,-b,-a,-hJ];done)|rfl),rfl,by first|(simp only[*,go_sem,-b,-a,-hJ,muA,msA,stA,smA,Int.reduceBEq,Int.reduceBNe];done)|(simp only[*,go_sem,-b,-a,-hJ,muA,msA,stA,smA,Int.reduceBEq,Int.reduceBNe];rfl),rfl⟩ (by rfl) ?_
    refine ai.nil a (b _ _ _ ?_);clear b K
    repeat refine ay (a _) ?_
    refine aW a fun K b=>?_
    refine ai.pure (a _) 3 (n:=0) _ rfl rfl ?_;simp only[*,go_sem,-b,-a,muA,msA,stA,smA,Int.reduceBEq,Int.reduceBNe]
    refine ai.nil a (b _ _ _ ?_);clear b K
    exact ⟨0,by omega,0,rfl,(by simp only[*,go_sem,-a,-hJ,muA,msA,stA,smA,Int.reduceBEq,Int.reduceBNe]),(by simp only[*,go_sem,-a,-hJ,muA,msA,stA,smA,Int.reduceBEq,Int.reduceBNe]),(by simp only[*,go_sem,-a,-hJ,muA,msA,stA,smA,Int.reduceBEq,Int.reduceBNe]),(by simp only[*,go_sem,-a,-hJ,muA,msA,stA,smA,Int.reduceBEq,Int.reduceBNe]),.inr ⟨rfl,rfl,rfl⟩⟩
   ·have H:((0:Int) != 0)=false:=rfl
    repeat refine ay (a _) ?_
    refine aW a fun K b=>?_
    refine ai.pure (a _) 2 (n:=0) _ rfl rfl ?_;simp only[*,go_sem,-b,-a,muA,msA,stA,smA,Int.reduceBEq,Int.reduceBNe]
    refine ai.nil a (b _ _ _ ?_);clear b K
    repeat refine ay (a _) ?_
    refine cv (a _) (by simp only[*,go_sem,-a,-hJ,Int.reduceBEq,Int.reduceBNe]) ?_
    exact n9 (show jX 153 (fun r c aJ=>r= .tuple #[]/\c=G/\aJ=⟨.fin,.gone,bs i,0⟩) .normal _ _ _ from I2 (by simp only[*,go_sem,-a,-hJ,muA,msA,stA,smA,Int.reduceBEq,Int.reduceBNe]) rfl rfl ⟨rfl,rfl,rfl⟩)
 ·
  rw[if_neg hC]
  have s:(0<v/\decide ((v:Int)>0)=true)\/(v=0/\decide ((v:Int)>0)=false/\((t:Int)==0)=true):=by
   rcases Nat.eq_zero_or_pos v with e|e
   ·refine .inr ⟨e,by simp[e],?_⟩
    obtain rfl:t=0:=by omega
    rfl
   ·exact .inl ⟨e,by simp;omega⟩
  have a7:((t:Int) != 0)=false\/((t:Int) != 0)=true:=by cases ((t:Int) != 0)<;>simp
  clear k hC p ht q
  rcases a7 with a7|a7
  ·repeat refine ay (a _) ?_
   refine aW a fun K b=>?_
   refine ai.pure (a _) 12 (n:=0) _ rfl rfl ?_;simp only[*,go_sem,-b,-a,muA,msA,stA,smA,Int.reduceBEq,Int.reduceBNe]
   refine ai.nil a (b _ _ _ ?_);clear b K
   repeat refine ay (a _) ?_
   refine cv (a _) (by simp only[*,go_sem,-a,-hJ,Int.reduceBEq,Int.reduceBNe]) ?_
   refine cx (a _) ?_
   rcases s with ⟨_,l⟩|⟨_,l,b2⟩
   ·repeat refine ay (a _) ?_
    refine aW a fun K b=>?_
    refine ai.pure (a _) 6 (n:=0) _ rfl rfl ?_;simp only[*,go_sem,-b,-a,muA,msA,stA,smA,Int.reduceBEq,Int.reduceBNe]
    refine ai.nil a (b _ _ _ ?_);clear b K
    repeat refine ay (a _) ?_
    refine cO (a _) (by simp only[*,go_sem,-a,-hJ,Int.reduceBEq,Int.reduceBNe]) ?_
    exact eX (show jX 153 (fun r c aJ=>r= .tuple #[]/\c=F'/\aJ=⟨.fin,.gone,bs i,0⟩) .ret _ _ _ from s4 (by simp only[*,go_sem,-a,-hJ,muA,msA,stA,smA,Int.reduceBEq,Int.reduceBNe]) rfl rfl ⟨rfl,rfl,rfl⟩)
   ·repeat refine ay (a _) ?_
    refine aW a fun K b=>?_
    refine ai.pure (a _) 6 (n:=0) _ rfl rfl ?_;simp only[*,go_sem,-b,-a,muA,msA,stA,smA,Int.reduceBEq,Int.reduceBNe]
    refine ai.nil a (b _ _ _ ?_);clear b K
    repeat refine ay (a _) ?_
    refine cO (a _) (by simp only[*,go_sem,-a,-hJ,Int.reduceBEq,Int.reduceBNe]) ?_
    exact eX (show jX 153 (fun r c aJ=>r= .tuple #[]/\c=F'/\aJ=⟨.fin,.gone,bs i,0⟩) .ret _ _ _ from s4 (by simp only[*,go_sem,-a,-hJ,muA,msA,stA,smA,Int.reduceBEq,Int.reduceBNe]) rfl rfl ⟨rfl,rfl,rfl⟩)
  ·repeat refine ay (a _) ?_
   refine aW a fun K b=>?_
   refine ai.pure (a _) 12 (n:=0) _ rfl rfl ?_;simp only[*,go_sem,-b,-a,muA,msA,stA,smA,Int.reduceBEq,Int.reduceBNe]
   refine ai.nil a (b _ _ _ ?_);clear b K
   repeat refine ay (a _) ?_
   refine cv (a _) (by simp only[*,go_sem,-a,-hJ,Int.reduceBEq,Int.reduceBNe]) ?_
   refine cx (a _) ?_
   rcases s with ⟨_,l⟩|⟨_,l,b2⟩
   ·repeat refine ay (a _) ?_
    refine aW a fun K b=>?_
    refine ai.pure (a _) 6 (n:=0) _ rfl rfl ?_;simp only[*,go_sem,-b,-a,muA,msA,stA,smA,Int.reduceBEq,Int.reduceBNe]
    refine ai.nil a (b _ _ _ ?_);clear b K
    repeat refine ay (a _) ?_
    refine cO (a _) (by simp only[*,go_sem,-a,-hJ,Int.reduceBEq,Int.reduceBNe]) ?_
    exact eX (show jX 153 (fun r c aJ=>r= .tuple #[]/\c=F'/\aJ=⟨.fin,.gone,bs i,0⟩) .ret _ _ _ from s4 (by simp only[*,go_sem,-a,-hJ,muA,msA,stA,smA,Int.reduceBEq,Int.reduceBNe]) rfl rfl ⟨rfl,rfl,rfl⟩)
   ·repeat refine ay (a _) ?_
    refine aW a fun K b=>?_
    refine ai.pure (a _) 6 (n:=0) _ rfl rfl ?_;simp only[*,go_sem,-b,-a,muA,msA,stA,smA,Int.reduceBEq,Int.reduceBNe]
    refine ai.nil a (b _ _ _ ?_);clear b K
    repeat refine ay (a _) ?_
    refine cO (a _) (by simp only[*,go_sem,-a,-hJ,Int.reduceBEq,Int.reduceBNe]) ?_
    exact eX (show jX 153 (fun r c aJ=>r= .tuple #[]/\c=F'/\aJ=⟨.fin,.gone,bs i,0⟩) .ret _ _ _ from s4 (by simp only[*,go_sem,-a,-hJ,muA,msA,stA,smA,Int.reduceBEq,Int.reduceBNe]) rfl rfl ⟨rfl,rfl,rfl⟩)
end
end Go.Proofs.YtipgiooobncfbaaGreatDoor
end
section
namespace Go.Sep
open Go Go.Conc
open Go.ConcN (sumTo upd upd_ne upd_same)
def iQ (P:Program):Frame:={(default:Frame) with fn:=P.funcs.size,defers:=[],mode:=.panicking [goexitEntry]}
section
variable {P : Program} {f : FuncId} {fn : Func} {cd : Code} {w : World} {caps args : Array Value}
theorem I4 (a:P.funcs[f]?=some fn)(b:(fn.name== "runtime.NumGoroutine")=false)(hb:fn.body=some cd):
  stepG P false (born P {target:=.fn (.func f) caps,args:=args}) w= .go (G ((baseD f).at {tmps:=args++caps++Array.replicate (fn.ntmps - (args++caps).size) undef,defers:=[]} [.code cd]) [iQ P]) w #[]:=by
 have h1:¬fn.name= "runtime.NumGoroutine":=by simpa using b
 rw[<-enter_atD (args++caps) a hb]
 simp[born,G,stepG,unwind,callDeferred,invoke,callFunc,a,h1,hb,GStep.after,seen_none,iQ]
theorem I5 {b:Frame}{a:Act}{todo:List Item}(d:b.kind= .deferred)(hd:a.defers=[])(e:P.funcs[b.fn]?=some fn)(c:fn.results=#[]):
  stepG P false (G {b.at a todo with mode:=.returning} [iQ P]) w= .go (G (iQ P) []) w #[]:=by
 have he:(results fn a.tmps).events P w #[]=#[]:=events_results_none c _ _
 have f:(results fn a.tmps).run P w= .ok (.tuple #[]) w:=results_none c _ P w
 simp[G,stepG,unwind,doReturn,Frame.at,d,hd,e,f,he,iQ,goexitEntry,seen_none,GStep.after]
theorem I6:stepG P false (G (iQ P) []) w= .go {frame:=iQ P,callers:=[],status:=.finished,dying:=none} w #[]:=by
 have e:(default:Frame).todo=[]:=rfl
 simp[G,stepG,unwind,iQ,goexitEntry,Frame.catches,e]
end
section
variable {c : Cy} {i : Nat} {F : ag} {f fd : FuncId}
def xm (c:Cy)(i:Nat)(fd:FuncId)(v:Value):Ex->Act->ag->Ph->Prop
 | .exit _,_,_,_=>False
 |_,a,_,ph=>a.defers=[dcall fd #[v]]/\(ph.mp= .idle\/ph.mp= .fin)/\ph.gp= .cnt/\ph.stored=c.bs i/\ph.deaf=0
theorem worker {fn b:Func}{cd l:Code}{n nd:Nat}{v:Value}(m:c.P.funcs[f]?=some fn)(z:(fn.name== "runtime.NumGoroutine")=false)(hb:fn.body=some cd)(B:fn.results=#[])(o:fn.ntmps=n){caps:Array Value}(Q:caps.size<=n)
  (C:c.P.funcs[fd]?=some b) (D:(b.name== "runtime.NumGoroutine")=false) (E:b.body=some l) (H:b.results=#[]) (I:b.ntmps=nd) (h1:1<=nd)
  (hd:∀(mp:Mp) (F:ag),mp= .idle\/mp= .fin->∀A:Act,sz A=nd->A.defers=[]->(∀j,slot A j=(#[v]:Array Value).getD j undef)->cC (WJ c i) fd l (xb fun F' aJ=>aJ=⟨.fin,.gone,c.bs i,0⟩) A F ⟨mp,.cnt,c.bs i,0⟩)
  (h:∀A:Act,sz A=n->A.defers=[]->(∀j,slot A j=caps.getD j undef)->cC (WJ c i) f cd (xm c i fd v) A F ⟨.idle,.cnt,false,0⟩):
  Wk c i ⟨.idle,.cnt,false,0⟩ (born c.P {target:=.fn (.func f) caps,args:=#[]}) F:=by
 have p:=WJ.dX c i
 have e0:∀w,stepG c.P false (born c.P {target:=.fn (.func f) caps,args:=#[]}) w= .go (G ((baseD f).at {tmps:=caps++Array.replicate (fn.ntmps - caps.size) undef,defers:=[]} [.code cd]) [iQ c.P]) w #[]:=fun w=>by
  have:=I4 (P:=c.P) (w:=w) (caps:=caps) (args:=#[]) m z hb
  simpa using this
 refine Wk.act (c:=c) (i:=i) rfl rfl (by simp) fun w s k φ p0 e1 e2 R J K=>.inr ⟨_,w,#[],s,⟨.idle,.cnt,false,0⟩,e0 w,e2,.refl _ _,?_,mD rfl Iff.rfl,.inr dm,?_⟩
 ·rw[<-J,wW];exact K
 have out:∀(a:Act) (r:List Item) F' (aJ:Ph),(a.defers=[dcall fd #[v]]/\(aJ.mp= .idle\/aJ.mp= .fin)/\aJ.gp= .cnt/\aJ.stored=c.bs i/\aJ.deaf=0)->WJ c i aJ (G {(baseD f).at a r with mode:=.returning} [iQ c.P]) F':=by
  intro a r F' aJ ⟨k1,t,u,x,y⟩
  obtain ⟨mp,gp,st,S⟩:=aJ
  simp only at t u x y
  subst u x y
  refine Ip C D E H I (by simpa using h1) k1 (fun A L M N=>hd mp F' t A L M N) fun T U O=>?_
  subst O
  refine Wk.gone (q:=2) rfl (QuitsD.ctl rfl (fun w=>I5 rfl rfl m B) (QuitsD.ctl rfl (fun w=>I6) ⟨rfl,rfl⟩))
 have:=h {tmps:=caps++Array.replicate (fn.ntmps - caps.size) undef,defers:=[]} (by simp[sz,o];omega) rfl (fun j=>?_) (baseD f) [] [iQ c.P] ⟨by simp[baseD],rfl,rfl⟩ fun e a F' aJ g=>?_
 ·rw[eo rfl] at this;exact this
 ·simp only[slot,o,Array.getD_eq_getD_getElem?]
  rcases Nat.lt_or_ge j caps.size with d|d
  ·rw[Array.getElem?_append_left d]
  ·rw[Array.getElem?_append_right d,Array.getElem?_replicate,Array.getElem?_eq_none d]
   split<;>rfl
 ·cases e with
  |normal=>exact (p aJ).move (fun _=>kT rfl) (out a _ F' aJ g)
  |exit i=>exact g.elim
  |ret=>exact fun V=>(p aJ).move (fun _=>stepG_ret' rfl) (out a _ F' aJ g)
end
attribute [go_sem] xm
end Go.Sep
end
section
namespace Go.Proofs.YtipgiooobncfbaaGreatDoor
open Go Go.Sep Go.Proofs Go.Conc
open Go.ConcN (upd upd_same)
open Go.ConcM (muA msA)
open Go.ConcR (stA smA)
set_option maxRecDepth 100000
set_option maxHeartbeats 4000000
theorem I7:(Tryz.prog.funcs[130]?).any (·.norace)=false:=by kernel_rfl
section
variable {Mu Wg Is n base T0 i : Nat} {bs : Nat → Bool}
theorem I8 (o:Mu≠Wg/\Mu≠Is/\Wg≠Is)(z:n<67108864)(a6:i<n){ro:Addr->Option Value}(u0:cL){s1:Value}(q:ax eN ro s1 u0.book.aB){L:Value}(r:ax ej ro L u0.book.props){M:Value}(s:ax ek ro M u0.book.aC){N:Value}(u:ax cU ro N u0.book.told)
  (B:Int) (C:List Int) {O:Value} (w:ax rI ro O C) (D:List bf) {P:Value} (g:ax iD ro P D) {f b2 b3 b4 Q R:Nat}
  (g0:ro ⟨f,0,none⟩=some (.int .i64 u0.book.bF)) (S:ro ⟨f,1,none⟩=some (.int .i64 u0.book.bL)) (T:ro ⟨f,2,none⟩=some (.int .i64 u0.book.aV.num)) (U:ro ⟨f,3,none⟩=some (.int .i64 u0.book.aV.den)) (V:ro ⟨f,4,none⟩=some s1) (W:ro ⟨f,5,none⟩=some L) (X:ro ⟨f,6,none⟩=some M) (Y:ro ⟨f,7,none⟩=some N)
  (Z:ro ⟨b2,0,none⟩=some (.int .i64 B)) (ab:ro ⟨b3,0,none⟩=some O) (ad:ro ⟨b4,0,none⟩=some P) (E:ro ⟨Q,0,none⟩=some (.slice (some ⟨Is,0,none⟩) n n)) (G:ro ⟨R,0,none⟩=some (.int .i64 i))
  (h:ah (rT u0.book B C) (fun b=>rJ b D)=some (bs i)):
  Wk (CY Mu Wg Is n bs base T0) i ⟨.idle,.cnt,false,0⟩ (born Tryz.prog {target:=.fn (.func 130) #[.pointer (some ⟨Wg,0,none⟩),.pointer (some ⟨f,0,none⟩),.pointer (some ⟨b2,0,none⟩),.pointer (some ⟨b3,0,none⟩),.pointer (some ⟨b4,0,none⟩),.pointer (some ⟨Mu,0,none⟩),.pointer (some ⟨Q,0,none⟩),.pointer (some ⟨R,0,none⟩)],args:=#[]}) ⟨ro,[]⟩:=by
 have d:=WJ.dX (CY Mu Wg Is n bs base T0) i
 have hJ:∀ph:Ph,ph.gp= .cnt->Go.Sep.Closed Tryz.prog false (WJ (CY Mu Wg Is n bs base T0) i ph):=fun ph h=>Wk.closed (CY Mu Wg Is n bs base T0) i ph h
 refine worker (c:=CY Mu Wg Is n bs base T0) (i:=i) (fd:=131) (v:=.pointer (some ⟨Wg,0,none⟩)) Tryz.func130 rfl rfl rfl Tryz.ntmps130 (by simp) Tryz.func131 rfl rfl rfl Tryz.ntmps131 (by simp) ?_ ?_
 ·intro mp F a7 A H hd hs
  have x:=hs 0
  clear hs h g0 S T U V W X Y Z ab ad E G q r s u w g hJ a6
  repeat refine ay (d _) ?_
  refine cP d ?_
  refine ai.pure (d _) 1 (n:=1) _ rfl rfl ?_;simp only[*,go_sem,muA,msA,stA,smA,Int.reduceBEq,Int.reduceBNe]
  refine ai.fB (d _) rfl rfl rfl yO (by simp only[*,go_sem,stA]) (I3 o z a7 rfl) fun v F' aJ j=>?_
  obtain ⟨rfl,rfl,rfl⟩:=j
  refine ai.nil d ?_
  exact ⟨(by simp only[*,go_sem,muA,msA,stA,smA,Int.reduceBEq,Int.reduceBNe]),rfl⟩
 ·intro ae H hd hs
  have x:=hs 0
  have k1:=hs 1
  have al:=hs 2
  have ao:=hs 3
  have ar:=hs 4
  have a0:=hs 5
  have a2:=hs 6
  have a3:=hs 7
  clear hs
  repeat refine ay (d _) ?_
  refine cP d ?_
  refine ai.defer (d _) (vals:=#[.pointer (some ⟨Wg,0,none⟩)]) rfl (by rfl) rfl rfl (by simp only[List.map_toArray,List.map_cons,List.map_nil];rw[show ae.eval (.tmp 0)=slot ae 0 from rfl,x];rfl) fun A e1 e2 I=>?_
  replace x:=(e1 0).trans x
  replace k1:=(e1 1).trans k1
  replace al:=(e1 2).trans al
  replace ao:=(e1 3).trans ao
  replace ar:=(e1 4).trans ar
  replace a0:=(e1 5).trans a0
  replace a2:=(e1 6).trans a2
  replace a3:=(e1 7).trans a3
  replace H:sz A=20:=e2.trans H
  rw[hd] at I
  replace hd:=I
  clear e1 e2 I
  refine ai.nil d ?_;try simp only[go_sem]
  obtain ⟨d3,c4,rfl,a8,a9,ba⟩:=id q
  obtain ⟨d10,ds,rfl,bb,bc,bd⟩:=id r
  obtain ⟨d17,dt,rfl,bj,bk,bl⟩:=id s
  obtain ⟨d24,du,rfl,bm,bo,br⟩:=id u
  obtain ⟨d38,dv,rfl,bz,bS,b0⟩:=id w
  obtain ⟨d45,dC,rfl,b1,b5,J⟩:=id g
  repeat refine ay (d _) ?_
  have l:=hJ ⟨.idle,.cnt,false,0⟩ rfl
  refine cC.of l ?_
  refine Dr l mixed [0,1,2,3,5] [4,6] ⟨ro,[]⟩ (by simp only[*,go_sem,-h]) (by kernel_rfl) ?_
  have ca:=fj h;clear h;obtain ⟨cb,a4,h⟩:=ca
  simp only[*,go_sem,-h,-hJ,-d]
  refine ua l _ (EP u0.book ⟨q,r,s,u⟩ B C w a4) fun v dE m cd j=>?_
  obtain ⟨dT,ea,eb,ec,rfl,k⟩:=j
  replace g:=g.mono m;clear J;obtain ⟨_,_,J⟩:=g.op
  obtain ⟨d63,ed,rfl,cf,cl,cy⟩:=id k.e
  obtain ⟨d68,eh,rfl,cS,c0,da⟩:=id k.p
  obtain ⟨d73,et,rfl,db,dd,df⟩:=id k.y
  obtain ⟨d78,ev,rfl,dk,dp,dq⟩:=id k.t
  replace E:=m _ _ E
  replace G:=m _ _ G
  clear g0 S T U V W X Y Z ab ad
  refine ⟨⟨m,fun a K=>by simp[keys] at K,trivial⟩,k8 ?_⟩
  simp only[*,go_sem,-h,-hJ,-d]
  refine aO l _ (ED cb (k.mono aN) D (g.mono aN) h) ?_
  refine ⟨⟨m,fun a K=>by simp[keys] at K,trivial⟩,?_⟩
  clear q r s u w g k ba bd bl br b0 J cy da df dq h a4 a8 bb bj bm bz b1 cf cS db dk a9 bc bk bo bS b5 cl c0 dd dp l cd
  have i0:(0:Int)<=(i:Int):=by omega
  have i1:(i:Int)<(n:Int):=by omega
  cases a5:bs i
  ·repeat refine ay (d _) ?_
   refine cv (d _) (by simp only[*,go_sem,Int.reduceBEq,Int.reduceBNe]) ?_
   refine cx (d _) ?_
   exact ⟨(by simp only[*,go_sem,muA,msA,stA,smA,Int.reduceBEq,Int.reduceBNe]),.inl rfl,rfl,a5.symm,rfl⟩
  ·repeat refine ay (d _) ?_
   refine cO (d _) (by simp only[*,go_sem,Int.reduceBEq,Int.reduceBNe]) ?_
   repeat refine ay (d _) ?_
   refine cP d ?_
   refine ai.fB (d _) rfl (by rfl) rfl Dg (by simp only[*,go_sem,muA,msA,stA,smA,Int.reduceBEq,Int.reduceBNe]) (Ib o z) fun v F' aJ j=>?_
   obtain ⟨rfl,rfl,rfl⟩:=j
   refine ai.nil d ?_;try simp only[go_sem]
   repeat refine ay (d _) ?_
   refine cP d ?_
   refine ai.bp (hJ _ rfl) 3 (n:=1) _ rfl rfl ?_;simp only[*,go_sem,muA,msA,stA,smA,Int.reduceBEq,Int.reduceBNe]
   refine HW HM yG I7 o ⟨_,rfl,(by first|rfl|simp only[*,go_sem,Int.reduceBEq,Int.reduceBNe]),rfl,rfl⟩ (by rfl) (by simp only[*,go_sem]) (by simp only[*,go_sem]) ?_
   refine ai.nil d ?_;try simp only[go_sem]
   repeat refine ay (d _) ?_
   refine cP d ?_
   refine ai.fB (d _) rfl (by rfl) rfl Dh (by simp only[*,go_sem,muA,msA,stA,smA,Int.reduceBEq,Int.reduceBNe]) (Ic o z) fun v F' aJ j=>?_
   obtain ⟨rfl,rfl,rfl⟩:=j
   refine ai.nil d ?_
   exact (show xm _ _ _ _ .normal _ _ _ from ⟨(by simp only[*,go_sem,muA,msA,stA,smA,Int.reduceBEq,Int.reduceBNe]),.inr rfl,rfl,a5.symm,rfl⟩)
end
end Go.Proofs.YtipgiooobncfbaaGreatDoor
end
section
namespace Go.Proofs.YtipgiooobncfbaaGreatDoor
open Go Go.Sep Go.Proofs Go.Conc
open Go.ConcN (upd upd_same)
open Go.ConcM (muA msA muBlock)
open Go.ConcR (stA smA wgBlock)
set_option maxRecDepth 100000
set_option maxHeartbeats 4000000
def I9 (u0:cL)(a:Int)(c:List bf)(d:List Int):Option Bool:=ah (rT u0.book a d) fun b=>rJ b c
def qs (f:List Int->Option Bool):List (List Int)->Option (List Bool)
 |[]=>some []
 |x::l=>ah (f x) fun b=>ah (qs f l) fun r=>some (b::r)
def xo (a:List Bool)(i23:Nat)(b:List Int)(st:List (List Int)):Option (Fl (List (List Int)) (List (List Int))):=
 ah (bq a (i23:Int)) fun c=>cond (c) (ah (cI st ([b])) fun d=>some (.nx d)) (some (.nx st))
def s5 (u0:cL)(b:Int)(a:List (List Int)):Option (List (List Int)):=
 cond (decide (a.length<1048576)) (ah (r4 u0) fun c=>ah (qs (I9 u0 b c) a) fun bl=>ah (bE (xo bl) 0 a ([]:List (List Int))) fun o=>aF o (fun d=>some d) (fun _ _=>none) (fun r=>some r)) none
theorem B2 {f:List Int->Option Bool}:∀{l:List (List Int)} {bl:List Bool},qs f l=some bl->bl.length=l.length/\∀(i:Nat) (a:List Int),l[i]?=some a->f a=some (bl[i]?.getD false)
 |[],bl,h=>by
  simp[qs] at h;subst h
  exact ⟨rfl,fun i a hi=>by simp at hi⟩
 |x::l,bl,h=>by
  unfold qs at h
  obtain ⟨b,hb,h⟩:=fj h
  obtain ⟨r,c,h⟩:=fj h
  have h:=Option.some.inj h
  subst h
  obtain ⟨e1,e2⟩:=B2 c
  refine ⟨by simp[e1],fun i a hi=>?_⟩
  cases i with
  |zero=>simp at hi;subst hi;simpa using hb
  |succ i=>simp at hi;simpa using e2 i a hi
def B3 (x:X)(d:Addr->Option Value)(b3 b4 e f:Nat)(b:Value)(m:Nat)(a:Act)(F:ag)(z:Z):Prop:=
 ∃(i:Nat) (c:Addr->Option Value),m=x.n - i/\i<=x.n/\F=⟨c,[]⟩/\Ext d c/\slot a 2=b/\slot a 3= .pointer (some ⟨b3,0,none⟩)/\slot a 4= .pointer (some ⟨b4,0,none⟩)/\slot a 6= .slice none 0 0/\slot a 7= .pointer (some ⟨e,0,none⟩)/\slot a 8= .pointer (some ⟨f,0,none⟩)/\slot a 9= .pointer (some ⟨x.Mu,0,none⟩)/\slot a 10= .pointer (some ⟨x.Wg,0,none⟩)/\slot a 21=b/\slot a 22= .int .i64 x.n/\slot a 23= .int .i64 i/\sz a=49/\a.defers=[]/\z= .co x i (.opn 0) 0
theorem Ja (l:List Bool):(l.map fun b=>[Value.bool b]).flatten=l.map Value.bool:=by
 induction l with
 |nil=>rfl
 |cons b l ih=>simp only[List.map_cons,List.flatten_cons,ih];rfl
theorem Jb:Tryz.prog.underlying 168=some (.slice 4):=by kernel_rfl
theorem Jc:Tryz.prog.info? 4=some ((Tryz.prog.info? 4).getD default):=by kernel_rfl
theorem B4 {ro:Addr->Option Value}(u0:cL){s1:Value}(q:ax eN ro s1 u0.book.aB){br:Value}(s:ax ej ro br u0.book.props){bs:Value}(u:ax ek ro bs u0.book.aC){bz:Value}(w:ax cU ro bz u0.book.told){bS:Value}(a5:ax gy ro bS u0.all)(ae:Int)(d:List (List Int)){b0:Value}(o:ax (rL rI) ro b0 d){r:List (List Int)}(h:s5 u0 ae d=some r):
  oS Tryz.prog 87 #[.agg #[.int .i64 u0.book.bF,.int .i64 u0.book.bL,.int .i64 u0.book.aV.num,.int .i64 u0.book.aV.den,s1,br,bs,bz,bS],.int .i64 ae,b0] ro (fun v aI=>∃b1,v=b1/\ax (rL rI) aI b1 r):=by
 refine e9.IL (T:=TT) fun Φ=>?_
 obtain ⟨d3,c4,rfl,gg,gl,gn⟩:=id q
 obtain ⟨d10,gp,rfl,gB,gC,R⟩:=id s
 obtain ⟨d17,I,rfl,gM,gT,gV⟩:=id u
 obtain ⟨d24,g0,rfl,g1,g2,g3⟩:=id w
 obtain ⟨d31,j1,rfl,g4,ha,hc⟩:=id a5
 obtain ⟨d38,b2,rfl,j2,b5,C⟩:=id o
 unfold s5 at h
 have hlen:d.length<1048576:=by
  rcases Nat.lt_or_ge d.length 1048576 with y|y
  ·exact y
  ·rw[show decide (d.length<1048576)=false by simp;omega] at h;cases h
 rw[show decide (d.length<1048576)=true by simp;omega] at h
 simp only[cond_true] at h
 obtain ⟨ca,cb,h⟩:=fj h
 obtain ⟨bl,cd,h⟩:=fj h
 obtain ⟨cf,cl⟩:=B2 cd
 have a:=ZJ.dX TT Φ
 have hJ:=fun (z:Z) (S:xk z=true)=>ZJ.IX TT Φ z S
 refine cw.go (main:=true) a Tryz.func87 rfl Tryz.ntmps87 (by simp) fun A S hd hs=>?_
 have hf:=hs 0
 have k1:=hs 1
 have cS:=hs 2
 clear hs cd
 repeat refine ay (a _) ?_
 refine aW a fun K c=>?_
 refine ai.bp (hJ _ rfl) 3 (n:=0) _ rfl rfl ?_;simp only[*,go_sem,-c,-a,-hJ,muA,msA,stA,smA,Int.reduceBEq,Int.reduceBNe]
 intro b3 f3;have r3:=ep f3;have n3:=e8 f3
 try simp only[ak] at n3
 intro b4 f4;have hg:=ep f4;have c0:=e8 f4
 try simp only[ak] at c0
 try simp only[*,go_sem,-c,-a,-hJ,-h]
 refine ai.nil a (c _ _ _ ?_);clear c K
 have p:=hJ .free rfl
 repeat refine ay (a _) ?_
 refine aW a fun K c=>?_
 refine ai.bp (hJ _ rfl) 4 (n:=0) _ rfl rfl ?_;simp only[*,go_sem,-c,-a,-hJ,muA,msA,stA,smA,Int.reduceBEq,Int.reduceBNe]
 refine ua p _ (zL u0 ⟨q,s,u,w⟩ a5 cb) fun v kh J hh U=>?_
 obtain ⟨kj,rfl,L⟩:=U
 replace q:=q.mono J
 replace s:=s.mono J
 replace u:=u.mono J
 replace w:=w.mono J
 replace o:=o.mono J
 obtain ⟨d45,hj,rfl,hk,hl,hn⟩:=id L
 clear gn R gV g3 hc C hn r3 hg
 refine aE ?_
 try simp only[*,go_sem,-c,-a,-hJ,-h,-p]
 intro a6 f7;have ho:=ep f7;have da:=e8 f7
 try simp only[ak] at da
 try simp only[*,go_sem,-c,-a,-hJ,-h,-p]
 refine ai.nil a (c _ _ _ ?_);clear c K
 repeat refine ay (a _) ?_
 refine aW a fun K c=>?_
 refine ai.bp (hJ _ rfl) 5 (n:=0) _ rfl rfl ?_;simp only[*,go_sem,-c,-a,-hJ,muA,msA,stA,smA,Int.reduceBEq,Int.reduceBNe]
 refine IW Jb Jc rfl yG C5 hlen fun k a7=>?_
 have rI:=ep a7;have nI:=e8 a7
 try simp only[ak] at nI
 refine aE ?_
 try simp only[*,go_sem,-c,-a,-hJ,-h,-p]
 intro V f8;have hp:=ep f8;have db:=e8 f8
 try simp only[ak] at db
 try simp only[*,go_sem,-c,-a,-hJ,-h,-p]
 refine ai.nil a (c _ _ _ ?_);clear c K
 repeat refine ay (a _) ?_
 refine aW a fun K c=>?_
 refine ai.bp (hJ _ rfl) 1 (n:=0) _ rfl rfl ?_;simp only[*,go_sem,-c,-a,-hJ,muA,msA,stA,smA,Int.reduceBEq,Int.reduceBNe]
 intro M f9;have hq:=ep f9;have dd:=e8 f9
 try simp only[ak] at dd
 try simp only[*,go_sem,-c,-a,-hJ,-h,-p]
 refine ai.nil a (c _ _ _ ?_);clear c K
 repeat refine ay (a _) ?_
 refine aW a fun K c=>?_
 refine ai.bp (hJ _ rfl) 1 (n:=0) _ rfl rfl ?_;simp only[*,go_sem,-c,-a,-hJ,muA,msA,stA,smA,Int.reduceBEq,Int.reduceBNe]
 intro N f10;have hr:=ep f10;have df:=e8 f10
 try simp only[ak] at df
 try simp only[*,go_sem,-c,-a,-hJ,-h,-p]
 refine ai.nil a (c _ _ _ ?_);clear c K
 repeat refine ay (a _) ?_
 refine aW a fun K c=>?_
 refine ai.bp (hJ _ rfl) 3 (n:=0) _ rfl rfl ?_;simp only[*,go_sem,-c,-a,-hJ,muA,msA,stA,smA,Int.reduceBEq,Int.reduceBNe]
 refine ai.nil a (c _ _ _ ?_);clear c K
 refine xl p fun nd no=>?_
 obtain ⟨al,D,hle,B,dk,dp,dq⟩:=IY nd no
 clear nd no
 refine II (T:=TT) (Φ:=Φ) ⟨al,[]⟩ M N k d.length (fun i=>bl[i]?.getD false) hle ?_
 intro base B0 T0 ht ao
 clear hle
 have ar:d.length<67108864:=by omega
 replace q:=q.mono D
 replace s:=s.mono D
 replace u:=u.mono D
 replace w:=w.mono D
 replace o:=o.mono D
 replace L:=L.mono D
 have ds:=B 0 (.int .i64 u0.book.bF) rfl
 have dt:=B 1 (.int .i64 u0.book.bL) rfl
 have du:=B 2 (.int .i64 u0.book.aV.num) rfl
 have dv:=B 3 (.int .i64 u0.book.aV.den) rfl
 have dC:=B 4 (.slice d3 u0.book.aB.length c4) rfl
 have dE:=B 5 (.slice d10 u0.book.props.length gp) rfl
 have dT:=B 6 (.slice d17 u0.book.aC.length I) rfl
 have ea:=B 7 (.slice d24 u0.book.told.length g0) rfl
 have eb:=dk 0 (.int .i64 ae) rfl
 have ec:=dp 0 (.slice d45 ca.length hj) rfl
 have a8:=dq 0 (.slice (some ⟨k,0,none⟩) d.length d.length) rfl
 clear B dk dp dq f3 f4 f7 f8 f9 f10 a7 n3 c0 da db dd df nI ho hp hq hr rI hh
 repeat refine ay (a _) ?_
 refine jl a ?_
 refine qm a (B3 (⟨M,N,k,d.length,(fun i=>bl[i]?.getD false),base,T0,B0⟩:X) al b3 b4 a6 V (.slice d38 d.length b2)) d.length ?_ ?_
 ·exact ⟨0,al,rfl,Nat.zero_le _,rfl,Ext.refl _,(by simp only[*,go_sem,-a,-hJ,muA,msA,stA,smA,Int.reduceBEq,Int.reduceBNe]),(by simp only[*,go_sem,-a,-hJ,muA,msA,stA,smA,Int.reduceBEq,Int.reduceBNe]),(by simp only[*,go_sem,-a,-hJ,muA,msA,stA,smA,Int.reduceBEq,Int.reduceBNe]),(by simp only[*,go_sem,-a,-hJ,muA,msA,stA,smA,Int.reduceBEq,Int.reduceBNe]),(by simp only[*,go_sem,-a,-hJ,muA,msA,stA,smA,Int.reduceBEq,Int.reduceBNe]),(by simp only[*,go_sem,-a,-hJ,muA,msA,stA,smA,Int.reduceBEq,Int.reduceBNe]),(by simp only[*,go_sem,-a,-hJ,muA,msA,stA,smA,Int.reduceBEq,Int.reduceBNe]),(by simp only[*,go_sem,-a,-hJ,muA,msA,stA,smA,Int.reduceBEq,Int.reduceBNe]),(by simp only[*,go_sem,-a,-hJ,muA,msA,stA,smA,Int.reduceBEq,Int.reduceBNe]),(by simp only[*,go_sem,-a,-hJ,muA,msA,stA,smA,Int.reduceBEq,Int.reduceBNe]),(by simp only[*,go_sem,-a,-hJ,muA,msA,stA,smA,Int.reduceBEq,Int.reduceBNe]),(by simp only[*,go_sem,-a,-hJ,muA,msA,stA,smA,Int.reduceBEq,Int.reduceBNe]),(by simp only[*,go_sem,-a,-hJ,muA,msA,stA,smA,Int.reduceBEq,Int.reduceBNe]),rfl⟩
 clear hf k1 cS S hd
 rintro m A F' ed ⟨i,P,rfl,hi,rfl,e,cS,hv,hx,kk,hy,kl,hz,hA,hB,hD,hE,S,hd,rfl⟩
 have hi:i<=d.length:=hi
 replace q:=q.mono e
 replace s:=s.mono e
 replace u:=u.mono e
 replace w:=w.mono e
 replace o:=o.mono e
 replace L:=L.mono e
 rcases Nat.lt_or_ge i d.length with a0|hF
 ·have c1:decide ((i:Int)<(d.length:Int))=true:=by simp;omega
  have i0:(0:Int)<=(i:Int):=by omega
  have i1:(i:Int)<(d.length:Int):=by omega
  obtain ⟨a9,eh⟩:∃x,d[i]?=some x:=⟨_,List.getElem?_eq_getElem a0⟩
  obtain ⟨_,_,C⟩:=o.op
  obtain ⟨hG,et,ba,bb,W⟩:=C _ _ eh
  obtain ⟨hI,rfl,Y⟩:=bb
  obtain ⟨d32,ab,rfl,hK,hL,-⟩:=id Y
  cases ba
  have hM:=W 0 _ rfl
  simp only[go_sem] at hM
  clear W C
  have ev:=cj (n:=i) (by omega)
  repeat refine ay (a _) ?_
  refine aW a fun K c=>?_
  refine ai.bp (hJ _ rfl) 1 (n:=0) _ rfl rfl ?_;simp only[*,go_sem,-c,-a,-hJ,muA,msA,stA,smA,Int.reduceBEq,Int.reduceBNe]
  refine ai.nil a (c _ _ _ ?_);clear c K
  repeat refine ay (a _) ?_
  refine cO (a _) (by simp only[*,go_sem,-a,-hJ,Int.reduceBEq,Int.reduceBNe]) ?_
  refine cx (a _) ?_
  repeat refine ay (a _) ?_
  refine jl a ?_
  repeat refine ay (a _) ?_
  refine aW a fun K c=>?_
  refine ai.bp (hJ _ rfl) 7 (n:=0) _ rfl rfl ?_;simp only[*,go_sem,-c,-a,-hJ,muA,msA,stA,smA,Int.reduceBEq,Int.reduceBNe]
  intro hN f11;have hP:=ep f11;have eQ:=e8 f11
  try simp only[ak] at eQ
  try simp only[*,go_sem,-c,-a,-hJ,-h,-p]
  intro hQ f12;have hR:=ep f12;have eS:=e8 f12
  try simp only[ak] at eS
  try simp only[*,go_sem,-c,-a,-hJ,-h,-p]
  refine ai.nil a (c _ _ _ ?_);clear c K
  refine xl (hJ _ rfl) fun nd no=>?_
  obtain ⟨hS,f,hle,e0,e1⟩:=IZ nd no
  clear nd no f11 f12 hP hR eQ eS
  refine B1 (hJ _ rfl) hle ?_
  clear hle
  have hT:=e0 0 (.int .i64 i) rfl
  have hV:=e1 0 (.slice d32 a9.length ab) rfl
  clear e0 e1
  repeat refine ay (a _) ?_
  refine aW a fun K c=>?_
  refine ai.fB (a _) rfl (by first|(simp only[*,go_sem,-c,-a,-hJ];done)|rfl) rfl yO (by simp only[*,go_sem,-c,-a,-hJ,muA,msA,stA,smA,Int.reduceBEq,Int.reduceBNe]) (IU ao ar) fun v F' ed U=>?_
  obtain ⟨rfl,rfl,rfl⟩:=U
  refine ai.nil a (c _ _ _ ?_);clear c K
  repeat refine ay (a _) ?_
  refine aW a fun K c=>?_
  refine ai.bp (hJ _ rfl) 1 (n:=1) _ rfl rfl ?_;simp only[*,go_sem,-c,-a,-hJ,muA,msA,stA,smA,Int.reduceBEq,Int.reduceBNe]
  refine I0 (caps:=#[.pointer (some ⟨N,0,none⟩),.pointer (some ⟨b3,0,none⟩),.pointer (some ⟨b4,0,none⟩),.pointer (some ⟨hQ,0,none⟩),.pointer (some ⟨a6,0,none⟩),.pointer (some ⟨M,0,none⟩),.pointer (some ⟨V,0,none⟩),.pointer (some ⟨hN,0,none⟩)]) (f0:=130) a0 ⟨_,rfl,(by first|(simp only[*,go_sem,-c,-a,-hJ];done)|rfl),rfl,rfl⟩ (by simp only[*,go_sem,-c,-a,-hJ,muA,msA,stA,smA,Int.reduceBEq,Int.reduceBNe]) ?_ ?_
  ·exact I8 ao ar a0 u0 (q.mono f) (s.mono f) (u.mono f) (w.mono f) ae a9 (Y.mono f) ca (L.mono f) (f _ _ (e _ _ ds)) (f _ _ (e _ _ dt)) (f _ _ (e _ _ du)) (f _ _ (e _ _ dv)) (f _ _ (e _ _ dC)) (f _ _ (e _ _ dE)) (f _ _ (e _ _ dT)) (f _ _ (e _ _ ea)) (f _ _ (e _ _ eb)) hV (f _ _ (e _ _ ec)) (f _ _ (e _ _ a8)) hT (cl i a9 eh)
  refine ai.nil a (c _ _ _ ?_);clear c K
  repeat refine ay (a _) ?_
  refine aW a fun K c=>?_
  refine ai.bp (hJ _ rfl) 2 (n:=0) _ rfl rfl ?_;simp only[*,go_sem,-c,-a,-hJ,muA,msA,stA,smA,Int.reduceBEq,Int.reduceBNe]
  refine ai.nil a (c _ _ _ ?_);clear c K
  change ∃e3,e3<d.length - i/\B3 _ al b3 b4 a6 V _ e3 _ _ _
  exact ⟨d.length - (i+1),by omega,i+1,hS,rfl,a0,rfl,e.trans f,(by simp only[*,go_sem,-a,-hJ,muA,msA,stA,smA,Int.reduceBEq,Int.reduceBNe]),(by simp only[*,go_sem,-a,-hJ,muA,msA,stA,smA,Int.reduceBEq,Int.reduceBNe]),(by simp only[*,go_sem,-a,-hJ,muA,msA,stA,smA,Int.reduceBEq,Int.reduceBNe]),(by simp only[*,go_sem,-a,-hJ,muA,msA,stA,smA,Int.reduceBEq,Int.reduceBNe]),(by simp only[*,go_sem,-a,-hJ,muA,msA,stA,smA,Int.reduceBEq,Int.reduceBNe]),(by simp only[*,go_sem,-a,-hJ,muA,msA,stA,smA,Int.reduceBEq,Int.reduceBNe]),(by simp only[*,go_sem,-a,-hJ,muA,msA,stA,smA,Int.reduceBEq,Int.reduceBNe]),(by simp only[*,go_sem,-a,-hJ,muA,msA,stA,smA,Int.reduceBEq,Int.reduceBNe]),(by simp only[*,go_sem,-a,-hJ,muA,msA,stA,smA,Int.reduceBEq,Int.reduceBNe]),(by simp only[*,go_sem,-a,-hJ,muA,msA,stA,smA,Int.reduceBEq,Int.reduceBNe]),(by simp only[*,go_sem,-a,-hJ,muA,msA,stA,smA,Int.reduceBEq,Int.reduceBNe]),(by simp only[*,go_sem,-a,-hJ,muA,msA,stA,smA,Int.reduceBEq,Int.reduceBNe]),(by simp only[*,go_sem,-a,-hJ,muA,msA,stA,smA,Int.reduceBEq,Int.reduceBNe]),rfl⟩
 ·have c1:decide ((i:Int)<(d.length:Int))=false:=by simp;omega
  obtain rfl:i=d.length:=by omega
  repeat refine ay (a _) ?_
  refine aW a fun K c=>?_
  refine ai.bp (hJ _ rfl) 1 (n:=0) _ rfl rfl ?_;simp only[*,go_sem,-c,-a,-hJ,muA,msA,stA,smA,Int.reduceBEq,Int.reduceBNe]
  refine ai.nil a (c _ _ _ ?_);clear c K
  repeat refine ay (a _) ?_
  refine cv (a _) (by simp only[*,go_sem,-a,-hJ,Int.reduceBEq,Int.reduceBNe]) ?_
  refine n9 ?_
  simp only[go_sem]
  repeat refine ay (a _) ?_
  refine aW a fun K c=>?_
  refine ai.fB (a _) rfl (by first|(simp only[*,go_sem,-c,-a,-hJ];done)|rfl) rfl Di (by simp only[*,go_sem,-c,-a,-hJ,muA,msA,stA,smA,Int.reduceBEq,Int.reduceBNe]) (IV ao ar) fun v F' ed U=>?_
  obtain ⟨rfl,rfl,rfl⟩:=U
  refine ai.nil a (c _ _ _ ?_);clear c K
  refine xl p fun nd no=>?_
  have rI:∀off sp,P ⟨k,off,sp⟩=none:=fun off sp=>no k (by simp[keys]) off sp
  have hle:Le ⟨bO P k (X.cy (⟨M,N,k,d.length,(fun i=>bl[i]?.getD false),base,T0,B0⟩:X) TT).fin,[]⟩ ⟨P,[(k,(X.cy (⟨M,N,k,d.length,(fun i=>bl[i]?.getD false),base,T0,B0⟩:X) TT).fin)]⟩:=jx (by simp[lk]) (by simp) trivial
  have ad:ax rB (bO P k (X.cy (⟨M,N,k,d.length,(fun i=>bl[i]?.getD false),base,T0,B0⟩:X) TT).fin) (.slice (some ⟨k,0,none⟩) bl.length bl.length) bl:=ax.flat (fun b=>[.bool b]) bl (fun _=>rfl) rI (by
   show (((List.range d.length).map fun i=>Value.bool (bl[i]?.getD false)).toArray).toList=_
   rw[<-cf]
   apply List.ext_getElem?
   intro j
   rw[Ja bl]
   simp only[List.getElem?_map]
   rcases Nat.lt_or_ge j bl.length with y|y
   ·simp[y]
   ·simp[y]) (by omega)
  obtain ⟨E,bc⟩:∃E,E=bO P k (X.cy (⟨M,N,k,d.length,(fun i=>bl[i]?.getD false),base,T0,B0⟩:X) TT).fin:=⟨_,rfl⟩
  have a2:Ext P E:=by rw[bc];exact fE _ _ _
  have hX:Ext ro E:=J.trans (D.trans (e.trans a2))
  rw[<-bc] at hle ad
  refine B1 p hle ?_
  replace o:=o.mono a2
  have a8:E ⟨V,0,none⟩=some (.slice (some ⟨k,0,none⟩) bl.length bl.length):=by rw[cf];exact a2 _ _ (e _ _ a8)
  clear hle nd no bc rI ds dt du dv dC dE dT ea eb ec a hJ ao ar ht q s u w L cb cl c1 hlen hF hi a2 J D e hv hx hy hz hA hB hD hE gg gl gB gC gM gT g1 g2 a5 g4 ha hk hl
  obtain ⟨_,_,C⟩:=o.op
  obtain ⟨_,_,R⟩:=ad.op
  have hJ:=p
  clear p
  refine cC.of hJ ?_
  repeat refine aa hJ ?_
  refine af hJ ?_
  simp only[*,go_sem,-h]
  repeat refine aa hJ ?_
  refine af hJ ?_
  simp only[*,go_sem,-h]
  repeat refine aa hJ ?_
  refine aM hJ ?_
  have g:=fj h;clear h;obtain ⟨hY,G,hZ⟩:=g;have h:=True.intro
  refine bM hJ [13,14,15,34,35,36,37,38,39,40,41,42,43,44,45,46,47] (fun m fa F'=>∃(i23:Nat) (d17:Option Addr) (I:Nat) (a3:List (Nat×Obj)) (H:(List (List Int))),m=d.length - i23/\i23<=d.length/\bE (xo bl) i23 (d.drop i23) H=some hY/\F'=⟨E,a3⟩/\aP (rL rI) E 46 (.slice d17 H.length I) H a3/\H.length<=I/\slot fa 34= .int .i64 (i23:Int)/\slot fa 13= .slice d17 H.length I) d.length ?_ ?_
  ·refine ⟨0,none,0,[],([]:List (List Int)),(Nat.sub_zero _).symm,Nat.zero_le _,G,rfl,aP.nil _ _ _,Nat.le_refl _,?_⟩
   simp only[*,go_sem,-h]
  ·rintro km Q F' O ⟨i23,d17,I,a3,H,rfl,kn,G,rfl,bd,h0,kp,ks⟩
   have h:=True.intro
   have kt:sz Q=49:=by rw[O.size];simp only[*,go_sem,-h]
   have kv:Q.defers=[]:=by rw[O.defers];simp only[*,go_sem,-h]
   have kx:slot Q 6= .slice none 0 0:=by rw[O.dJ 6 (by decide)];simp only[*,go_sem,-h]
   have ky:slot Q 8= .pointer (some ⟨V,0,none⟩):=by rw[O.dJ 8 (by decide)];simp only[*,go_sem,-h]
   have k0:slot Q 32= .slice d38 d.length b2:=by rw[O.dJ 32 (by decide)];simp only[*,go_sem,-h]
   have k2:slot Q 33= .int .i64 (d.length:Int):=by rw[O.dJ 33 (by decide)];simp only[*,go_sem,-h]
   clear O S hd
   repeat refine aa hJ ?_
   refine af hJ ?_
   simp only[*,go_sem,-h]
   repeat refine aa hJ ?_
   rcases Nat.lt_or_ge i23 d.length with h1|fb
   ·refine bD hJ (by simp only[*,go_sem,-h]) ?_
    refine aD hJ ?_
    obtain ⟨a4,bj⟩:∃x,d[i23]?=some x:=⟨_,List.getElem?_eq_getElem h1⟩
    rw[cX bj] at G
    have g:=fj G;clear G h;obtain ⟨lb,h,fg⟩:=g
    unfold xo at h
    try dsimp only at h
    obtain ⟨lh,lj,h2,h3,fi⟩:=C _ _ bj
    obtain ⟨hI,rfl,Y⟩:=h3;obtain ⟨d32,ab,rfl,hK,hL,ll⟩:=id Y
    cases h2
    have h4:=fi 0 _ rfl;simp only[go_sem] at h4
    clear fi bj
    repeat refine aa hJ ?_
    refine aM hJ ?_
    repeat refine aa hJ ?_
    refine aH hJ fun ln=>?_
    refine af hJ ?_
    simp only[*,go_sem,-h]
    repeat refine aa hJ ?_
    refine aH hJ fun lo=>?_
    refine af hJ ?_
    have g:=fj h;clear h;obtain ⟨h5,h6,h⟩:=g
    obtain ⟨lr,lv,fp⟩:=bX h6
    obtain ⟨hG,et,ba,bb,W⟩:=R _ _ fp
    obtain rfl:et=[.bool h5]:=bb
    cases ba
    have h7:=W 0 _ rfl;simp only[go_sem] at h7
    clear W fp
    try simp only[*,go_sem,-h]
    have g:=iz h;clear h;rcases g with ⟨bk,h⟩|⟨bk,h⟩
    ·try simp only[Int.ofNat_lt] at bk
     refine bD hJ (by simp only[*,go_sem,-h]) ?_
     refine aH hJ fun h8=>?_
     refine af hJ ?_
     have g:=fj h;clear h;obtain ⟨h9,ib,h⟩:=g
     obtain ⟨ic,fr⟩:=cG ib
     simp only[*,go_sem,-h]
     intro fs f45;have ih:=ep f45;have ft:=e8 f45
     have ik:=aL.cons ft h8
     try simp only[ak] at ft
     try simp only[*,go_sem,-h]
     refine qX (r:=(rL rI)) (l:=H) (x:=a4) (cs:=#[.slice d32 a4.length ab]) (e2:=46) [(fs,.cells #[.slice d32 a4.length ab] 46)] [] (by first|rfl|simp only[List.append_nil,List.cons_append,List.nil_append,List.append_assoc]|(simp only[List.append_nil,List.cons_append,List.nil_append,List.append_assoc];rfl)) bd ik ic ⟨_,rfl,Y⟩ (by simp only[*,go_sem,-h]) ih rfl rfl fV fV lq lz rfl lu (by decide) (by decide) (fun lx fu bm il im ly=>?_)
     simp only[List.append_nil,List.cons_append,List.nil_append,List.append_assoc] at im
     subst il
     rw[<-fr] at bm;clear fr
     obtain ⟨d53,iv,rfl,ix⟩:=bm.len
     refine ⟨⟨E,(fs,.cells #[.slice d32 a4.length ab] 46)::fu⟩,Le.refl _,?_⟩
     refine aE ?_
     try simp only[*,go_sem,-h]
     have g:=Option.some.inj h;clear h;subst g
     have h:=True.intro
     have ev:=cj (n:=i23) (by have:=b5;omega)
     refine af hJ ?_
     simp only[*,go_sem,-h]
     refine ⟨d.length - (i23+1),by omega,_,Le.sub (List.Sublist.cons _ (List.Sublist.refl _)),i23+1,d53,iv,fu,h9,rfl,by omega,fg,rfl,bm,ix,?_⟩
     simp only[*,go_sem,-h]
    ·try simp only[Int.ofNat_lt] at bk
     refine bI hJ (by simp only[*,go_sem,-h]) ?_
     refine aD hJ ?_
     have g:=Option.some.inj h;clear h;subst g
     have h:=True.intro
     have ev:=cj (n:=i23) (by have:=b5;omega)
     refine af hJ ?_
     simp only[*,go_sem,-h]
     refine ⟨d.length - (i23+1),by omega,_,Le.sub (List.Sublist.refl _),i23+1,d17,I,a3,H,rfl,by omega,fg,rfl,bd,h0,?_⟩
     simp only[*,go_sem,-h]
   ·have lL:=Nat.not_lt.2 fb
    refine bI hJ (by simp only[*,go_sem,-h]) ?_
    rw[List.drop_eq_nil_of_le fb] at G
    have g:=Option.some.inj G;clear G h;subst g
    have h:=hZ
    dsimp only[aF] at h
    refine bJ ?_
    simp only[go_sem]
    repeat refine aa hJ ?_
    refine aH hJ fun l1=>?_
    refine af hJ ?_
    simp only[*,go_sem,-h]
    have g:=Option.some.inj h;clear h;subst g
    refine aH hJ fun fv=>?_
    obtain ⟨fw,bo,l2,fx,jC⟩:=bd.ki (([]:List (Nat×Obj))) [] [] (by first|rfl|simp only[List.append_nil,List.cons_append,List.nil_append,List.append_assoc]|(simp only[List.append_nil,List.cons_append,List.nil_append,List.append_assoc];rfl)) (by first|rfl|simp only[List.append_nil,List.cons_append,List.nil_append,List.append_assoc]|(simp only[List.append_nil,List.cons_append,List.nil_append,List.append_assoc];rfl)) fv (az.nil _)
    clear fv
    refine cA (F:=⟨fw,([]:List (Nat×Obj))⟩) hJ jC ?_
    obtain ⟨l3,l4,ma⟩:=fx.op
    replace o:=o.mono bo;clear C;obtain ⟨_,_,C⟩:=o.op
    replace ad:=ad.mono bo;clear R;obtain ⟨_,_,R⟩:=ad.op
    refine av ?_
    exact (kO (t:=6) rfl (by simp only[*,go_sem]) (by simp only[*,go_sem]) ⟨rfl,fw,hX.trans bo,Le.refl _,_,rfl,fx⟩).2
end Go.Proofs.YtipgiooobncfbaaGreatDoor
end
section
namespace Go.Proofs.YtipgiooobncfbaaGreatDoor
open Go Go.Sep Go.Proofs
set_option maxRecDepth 100000
set_option maxHeartbeats 4000000
def xp (u0:aj)(b:Int):Option ((List Int)×Int):=
 ah (fo u0 ([(gz b),ny])) fun a=>cond ((a.2 != 0)) (some (([]:(List Int)),a.2)) (ah (rU a.1.book ([([]:(List Int))])) fun c=>ah (s5 a.1 b c) fun d=>ah (vv d) fun e=>some (e,0))
theorem Jd {ro:Addr->Option Value}(L:cY ro)(u0:aj){s1 g i j:Value}(D:bt ro u0 s1 g i j)(a:Int){r:((List Int)×Int)}(h:xp u0 a=some r):oS Tryz.prog 22 #[bv u0 s1 g i j,.int .i64 a] ro (fun v aI=>∃W,v= .tuple #[W,.int .i64 r.2]/\ax rI aI W r.1):=by
 unfold xp at h
 have ba:=D.oc;simp only[bw] at ba
 refine e9.go Tryz.func22 rfl Tryz.ntmps22 Tryz.results22 (by simp) fun Φ hJ A b5 hd hs=>?_
 have ca:=hs 0
 have k1:=hs 1
 clear hs
 refine aa hJ (af hJ ?_)
 simp only[*,go_sem]
 refine an fun w c bb=>?_;try simp only[ak] at bb
 try simp only[*,go_sem]
 refine aa hJ ?_
 refine aH hJ fun bc=>?_
 refine af hJ ?_
 revert h;refine bS fun n bd h=>?_
 simp only[*,go_sem]
 refine an fun z X Y=>?_;have Z:=aL.cons Y bc;try simp only[ak] at Y
 try simp only[*,go_sem]
 obtain ⟨B,M,ab⟩:=fc (b:=z) (o:=(.cells #[.func (.func 84) #[.int .i64 a] #[],.func (.func 85) #[] #[]] 86)) [] ((w,bk u0 s1 g i j)::[]) Z X (az.cons c (az.nil _))
 have ad:ax (cR) (bO ro z (.cells #[.func (.func 84) #[.int .i64 a] #[],.func (.func 85) #[] #[]] 86)) (.slice (some ⟨z,0,none⟩) 2 2) [(gz a),ny]:=(ax.two (r:=(cR)) (e:=86) (v:=.func (.func 84) #[.int .i64 a] #[]) (u:=.func (.func 85) #[] #[]) (x:=(gz a)) (y:=ny) (own:=[(z,.cells #[.func (.func 84) #[.int .i64 a] #[],.func (.func 85) #[] #[]] 86)]) X (by simp[lk]) rfl ⟨84,#[.int .i64 a],#[],rfl,⟨by simp only[go_sem],fun bj bl N _ _ _ _ _ O P Q R h=>by simp only[go_sem];exact uN a N ⟨O,P,Q,R⟩ h⟩⟩ ⟨85,#[],#[],rfl,⟨by simp only[go_sem],fun bj bl N _ _ _ _ _ O P Q R h=>by simp only[go_sem];exact E3 N ⟨O,P,Q,R⟩ h⟩⟩)
 generalize bO ro z (.cells #[.func (.func 84) #[.int .i64 a] #[],.func (.func 85) #[] #[]] 86)=cb at ad M B ab
 refine gk hJ ab ?_
 replace D:=D.mono B
 replace c:=M.hd
 replace L:=L.mono B
 simp only[aU] at M
 have bm:=aL.tl Z
 refine bN hJ _ (ja L u0 D ([(gz a),ny]) ad bd) fun v ae al ao k=>?_
 obtain ⟨E,F,G,H,I,rfl,d,q⟩:=k
 have bo:=d.oc;simp only[bw] at bo
 have br:=q.oc;simp only[bw] at br
 replace c:=ao.hd
 simp only[aU] at ao
 refine aE ?_
 try simp only[*,go_sem]
 refine an fun J f ar=>?_;have cd:=aL.cons ar bm;try simp only[ak] at ar
 try simp only[*,go_sem]
 refine aa hJ (aa hJ (af hJ ?_))
 simp only[*,go_sem]
 revert h;refine jC hJ (by simp only[*,go_sem]) (fun bs h=>?_) fun bs h=>?_
 ·obtain rfl:=sI h
  refine aa hJ (af hJ ?_)
  simp only[*,go_sem]
  refine av ?_
  simp only[*,go_sem]
  exact ⟨_,(B).trans al,Le.sub (List.nil_sublist _),_,rfl,ax.nil _ _⟩
 refine aD hJ (aa hJ ?_)
 refine aH hJ fun bz=>?_
 refine cQ hJ mixed 4 2 (by simp only[*,go_sem]) (by kernel_rfl) ?_
 revert h;refine bS fun b0 b1 h=>?_
 simp only[*,go_sem]
 refine an fun C a0 a2=>?_;have a3:=aL.cons a2 bz;try simp only[ak] at a2
 try simp only[*,go_sem]
 obtain ⟨m,K,a4⟩:=fc (b:=C) (o:=(.cells #[.slice none 0 0] 46)) [] ((J,kn n.1 E F G H I)::(w,bk u0 s1 g i j)::[]) a3 a0 (az.cons f (az.cons c (az.nil _)))
 have a5:ax (rL rI) (bO ae C (.cells #[.slice none 0 0] 46)) (.slice (some ⟨C,0,none⟩) 1 1) [([]:(List Int))]:=(ax.one (r:=(rL rI)) (e:=46) (cs:=#[.slice none 0 0]) (x:=([]:(List Int))) (own:=[(C,.cells #[.slice none 0 0] 46)]) a0 (by simp[lk]) ⟨_,rfl,ax.nil _ _⟩)
 generalize bO ae C (.cells #[.slice none 0 0] 46)=cf at a5 K m a4
 refine gk hJ a4 ?_
 replace d:=d.mono m
 replace q:=q.mono m
 replace f:=K.hd
 replace c:=K.tl.hd
 simp only[aU] at K
 have cl:=aL.tl a3
 refine bN hJ _ (zG n.1.book d ([([]:(List Int))]) a5 b1) fun v cy s S k=>?_
 obtain ⟨cS,rfl,a6⟩:=k
 replace d:=d.mono s
 replace q:=q.mono s
 replace f:=S.hd
 replace c:=S.tl.hd
 simp only[aU] at S
 obtain ⟨d92,c0,rfl,da,db,-⟩:=id a6
 have dd:=eu (l:=[(J,kn n.1 E F G H I),(w,bk u0 s1 g i j)]) (m.trans s) (az.cons f (az.cons c (az.nil _)))
 refine ⟨by simp only[*,go_sem],?_⟩
 refine k8 ?_
 revert h;refine bS fun b2 b3 h=>?_
 try simp only[*,go_sem]
 refine q5 _ (B4 n.1 d.e d.p d.y d.t q a b0 a6 b3) fun v df T U k=>?_
 obtain ⟨dk,rfl,a7⟩:=k
 replace f:=U.hd
 replace c:=U.tl.hd
 simp only[aU] at U
 obtain ⟨d111,dp,rfl,dq,ds,-⟩:=id a7
 have dt:=eu (l:=[(J,kn n.1 E F G H I),(w,bk u0 s1 g i j)]) ((m.trans s).trans T) (az.cons f (az.cons c (az.nil _)))
 refine ⟨by simp only[*,go_sem],?_⟩
 refine k8 ?_
 revert h;refine bS fun du b4 h=>?_
 obtain rfl:=sI h
 try simp only[*,go_sem]
 refine bN hJ _ (E5 b2 a7 b4) fun v dv a8 V k=>?_
 obtain ⟨dC,rfl,a9⟩:=k
 replace f:=V.hd
 replace c:=V.tl.hd
 simp only[aU] at V
 obtain ⟨d124,dE,rfl,dT,ea,-⟩:=id a9
 have eb:=eu (l:=[(J,kn n.1 E F G H I),(w,bk u0 s1 g i j)]) (((m.trans s).trans T).trans a8) (az.cons f (az.cons c (az.nil _)))
 refine ⟨by simp only[*,go_sem],?_⟩
 refine k8 ?_
 try simp only[*,go_sem]
 refine av ?_
 simp only[*,go_sem]
 exact ⟨_,(((((B).trans al).trans m).trans s).trans T).trans a8,Le.sub (List.nil_sublist _),_,rfl,a9⟩
def xq (u0:aj)(c:Int)(a:(cL×Int))(st:(Bool×Int×(List (List Int))×Int)):Option (Fl (Bool×Int×(List (List Int))×Int) ((List Int)×Bool×Int)):=
 cond (decide (st.2.2.2<(IntKind.i64.wrap ((IntKind.i64.wrap (3 - (u0.props.length:Int)))+1)))) (ah (s5 a.1 c st.2.2.1) fun b=>cond (decide (0<(b.length:Int))) (ah (bq b 0) fun d=>some (.rt (d,true,0))) (ah (rU a.1.book st.2.2.1) fun e=>some (.nx (st.1,st.2.1,e,(IntKind.i64.wrap (st.2.2.2+1)))))) (some (.bk (st.1,st.2.1,st.2.2.1,st.2.2.2)))
def xu (u0:aj)(b:Int):Option ((List Int)×Bool×Int):=
 ah (fo u0 ([(gz b)])) fun a=>cond ((a.2 != 0)) (some (([]:(List Int)),false,a.2)) (ah (aR (xq u0 b a) fu (false,a.2,([([]:(List Int))]),0)) fun o=>aF o (fun c=>some (([]:(List Int)),false,0)) (fun _ _=>none) (fun r=>some r))
theorem Je {ro:Addr->Option Value}(K:cY ro)(u0:aj){s1 S k l:Value}(n:bt ro u0 s1 S k l)(a:Int){r:((List Int)×Bool×Int)}(h:xu u0 a=some r):oS Tryz.prog 25 #[bv u0 s1 S k l,.int .i64 a] ro (fun v aI=>∃T,v= .tuple #[T,.bool r.2.1,.int .i64 r.2.2]/\ax rI aI T r.1):=by
 obtain ⟨d10,L,rfl,ed,eh,-⟩:=id n.p
 unfold xu at h
 have bm:=n.oc;simp only[bw] at bm
 refine e9.go Tryz.func25 rfl Tryz.ntmps25 Tryz.results25 (by simp) fun Φ hJ A bo hd hs=>?_
 have br:=hs 0
 have k1:=hs 1
 clear hs
 refine aa hJ (af hJ ?_)
 simp only[*,go_sem]
 refine an fun M C bs=>?_;try simp only[ak] at bs
 try simp only[*,go_sem]
 refine aa hJ ?_
 refine aH hJ fun bz=>?_
 refine af hJ ?_
 revert h;refine bS fun f b0 h=>?_
 simp only[*,go_sem]
 refine an fun q U V=>?_;have W:=aL.cons V bz;try simp only[ak] at V
 try simp only[*,go_sem]
 obtain ⟨g,N,X⟩:=fc (b:=q) (o:=(.cells #[.func (.func 84) #[.int .i64 a] #[]] 86)) [] ((M,bk u0 s1 (sl d10 u0.props L) k l)::[]) W U (az.cons C (az.nil _))
 have Y:ax (cR) (bO ro q (.cells #[.func (.func 84) #[.int .i64 a] #[]] 86)) (.slice (some ⟨q,0,none⟩) 1 1) [(gz a)]:=(ax.one (r:=(cR)) (e:=86) (cs:=#[.func (.func 84) #[.int .i64 a] #[]]) (x:=(gz a)) (own:=[(q,.cells #[.func (.func 84) #[.int .i64 a] #[]] 86)]) U (by simp[lk]) ⟨84,#[.int .i64 a],#[],rfl,⟨by simp only[go_sem],fun et ev b1 _ _ _ _ _ b2 b3 b4 b5 h=>by simp only[go_sem];exact uN a b1 ⟨b2,b3,b4,b5⟩ h⟩⟩)
 generalize bO ro q (.cells #[.func (.func 84) #[.int .i64 a] #[]] 86)=eQ at Y N g X
 refine gk hJ X ?_
 replace n:=n.mono g
 replace C:=N.hd
 replace K:=K.mono g
 simp only[aU] at N
 have ca:=aL.tl W
 refine bN hJ _ (ja K u0 n ([(gz a)]) Y b0) fun v Z O ab s=>?_
 obtain ⟨ad,ae,al,ao,ar,rfl,c,i⟩:=s
 have cb:=c.oc;simp only[bw] at cb
 have cd:=i.oc;simp only[bw] at cd
 replace C:=ab.hd
 simp only[aU] at ab
 refine aE ?_
 try simp only[*,go_sem]
 refine an fun a0 cf a2=>?_;have eS:=aL.cons a2 ca;try simp only[ak] at a2
 try simp only[*,go_sem]
 refine aa hJ (aa hJ (af hJ ?_))
 simp only[*,go_sem]
 revert h;refine jC hJ (by simp only[*,go_sem]) (fun cl h=>?_) fun cl h=>?_
 ·obtain rfl:=sI h
  refine aa hJ (af hJ ?_)
  simp only[*,go_sem]
  refine av ?_
  simp only[*,go_sem]
  exact ⟨_,(g).trans O,Le.sub (List.nil_sublist _),_,rfl,ax.nil _ _⟩
 refine aD hJ (aa hJ ?_)
 refine aH hJ fun cy=>?_
 refine af hJ ?_
 simp only[*,go_sem]
 refine an fun j a3 a4=>?_;have e0:=aL.cons a4 cy;try simp only[ak] at a4
 try simp only[*,go_sem]
 refine aa hJ (aa hJ (af hJ ?_))
 simp only[*,go_sem]
 refine aH hJ fun a5=>?_
 obtain ⟨u,a6,a7⟩:=fc (b:=j) (o:=(.cells #[.slice none 0 0] 46)) [] ((a0,kn f.1 ad ae al ao ar)::(M,bk u0 s1 (sl d10 u0.props L) k l)::[]) a5 a3 (az.cons cf (az.cons C (az.nil _)))
 clear a5
 have P:ax (rL rI) (bO Z j (.cells #[.slice none 0 0] 46)) (.slice (some ⟨j,0,none⟩) 1 1) [([]:(List Int))]:=(ax.one (r:=(rL rI)) (e:=46) (cs:=#[.slice none 0 0]) (x:=([]:(List Int))) (own:=[(j,.cells #[.slice none 0 0] 46)]) a3 (by simp[lk]) ⟨_,rfl,ax.nil _ _⟩)
 generalize bO Z j (.cells #[.slice none 0 0] 46)=a8 at u a6 a7 P
 refine cA hJ a7 ?_
 obtain ⟨e1,e2,-⟩:=P.op
 replace c:=c.mono u
 replace i:=i.mono u
 simp only[aU] at a6
 refine aM hJ ?_
 revert h;refine bS fun cS D a9=>?_
 refine bM hJ [4,5,6,8,9,27,28,29,30,31,32,33,34,35,36,37,38,39,40,41,42,43] (fun m E F'=>∃(F:Addr->Option Value) (d98:Option Addr) (Q:Nat) (G:Bool) (H:Int) (d:(List (List Int))) (I:Int),aR (xq u0 a f) m (G,H,d,I)=some cS/\F'=⟨F,(a0,kn f.1 ad ae al ao ar)::(M,bk u0 s1 (sl d10 u0.props L) k l)::[]⟩/\Ext a8 F/\ax (rL rI) F (.slice d98 d.length Q) d/\slot E 5= .bool G/\slot E 6= .int .i64 H/\slot E 8= .slice d98 d.length Q/\slot E 27= .int .i64 I) fu ?_ ?_
 ·refine ⟨a8,(some ⟨j,0,none⟩),1,false,f.2,([([]:(List Int))]),0,D,rfl,Ext.refl _,P,?_⟩
  simp only[*,go_sem]
 rintro R e3 F' ba ⟨F,d98,Q,G,H,d,I,D,rfl,w,z,fa,fb,fg,fi⟩
 refine ez hJ fun _ c0=>?_
 replace c:=c.mono w
 replace i:=i.mono w
 simp only[aU] at c0
 obtain ⟨fp,fr,-⟩:=z.op
 obtain ⟨da,db,dd⟩:=ba.pick [1,7,26] (by decide)
 simp only[*,go_sem] at da db dd
 clear ba bo hd br k1
 obtain _|R:=R
 ·exact absurd D (by simp only[aR,reduceCtorEq,not_false_eq_true])
 revert D;refine bS fun fs h B=>?_
 unfold xq at h
 try dsimp only at h
 refine aa hJ (af hJ ?_)
 simp only[*,go_sem]
 refine aa hJ ?_
 revert h;refine jC hJ (by simp only[*,go_sem]) (fun df h=>?_) fun df h=>?_
 ·refine aD hJ (aa hJ ?_)
  refine aM hJ (aa hJ ?_)
  refine aa hJ (af hJ ?_)
  revert h;refine bS fun ft dk h=>?_
  simp only[*,go_sem]
  refine q5 _ (B4 f.1 c.e c.p c.y c.t i a d z dk) fun v fv J dp s=>?_
  obtain ⟨fw,rfl,bb⟩:=s
  replace z:=z.mono J
  replace c:=c.mono J
  simp only[aU] at dp
  obtain ⟨d121,fx,rfl,gg,gl,-⟩:=id bb
  refine aE ?_
  try simp only[*,go_sem]
  refine aa hJ (af hJ ?_)
  simp only[*,go_sem]
  revert h;refine jC hJ (by simp only[*,go_sem]) (fun dq h=>?_) fun dq h=>?_
  ·refine aa hJ (af hJ ?_)
   revert h;refine bS fun gn ds h=>?_
   obtain rfl:=sI h
   obtain ⟨gp,gB,bc⟩:=bX ds
   obtain ⟨gC,gM,dt,du,bd⟩:=bb.el _ _ bc
   obtain ⟨gT,rfl,bj⟩:=du;obtain ⟨d130,gV,rfl,g0,g1,g2⟩:=id bj
   cases dt
   have dv:=bd 0 _ rfl;simp only[go_sem] at dv
   clear bd bc
   try simp only[*,go_sem]
   obtain rfl:=sI B;clear B
   have h:=a9
   dsimp only[aF] at h
   obtain rfl:=sI h
   refine av ?_
   simp only[*,go_sem]
   exact ⟨_,((((g).trans O).trans u).trans w).trans J,Le.sub (List.nil_sublist _),_,rfl,bj⟩
  refine aD hJ (af hJ ?_)
  revert h;refine bS fun dC dE h=>?_
  obtain rfl:=sI h
  simp only[*,go_sem]
  refine bN hJ _ (zG f.1.book c d z dE) fun v dT ea eb s=>?_
  obtain ⟨g3,rfl,bl⟩:=s
  simp only[aU] at eb
  obtain ⟨d144,ec,rfl,g4,ha,-⟩:=id bl
  refine aE ?_
  try simp only[*,go_sem]
  refine af hJ ?_
  simp only[*,go_sem]
  refine ⟨R,Nat.lt_succ_self _,_,Le.sub (List.Sublist.refl _),dT,d144,ec,G,H,dC,(IntKind.i64.wrap (I+1)),B,rfl,(w.trans (J.trans ea)),bl,?_⟩
  simp only[*,go_sem]
 obtain rfl:=sI h
 refine bJ ?_
 simp only[go_sem]
 obtain rfl:=sI B;clear B
 have h:=a9
 dsimp only[aF] at h
 obtain rfl:=sI h
 refine aa hJ (af hJ ?_)
 simp only[*,go_sem]
 refine av ?_
 simp only[*,go_sem]
 exact ⟨_,(((g).trans O).trans u).trans w,Le.sub (List.nil_sublist _),_,rfl,ax.nil _ _⟩
def xw (a:(Int×Int×Int))(e:(aj×Int))(b:((List Int)×Int))(f:(aj×Int))(g:(aj×Int))(c:(Int×Int))(d:((List Int)×Int)):Option Bool:=
 cond ((a.2.2==0)) (cond ((e.2==0)) (cond ((b.2==0)) (cond ((f.2==9)) (cond ((g.2==0)) (cond ((c.2==0)) (cond ((d.2==0)) (cond ((a.1==0)) (cond ((a.2.1==2)) (ah (lP b.1 ([11,12])) fun h=>cond (h) (cond ((c.1==2)) (ah (lP d.1 ([1])) fun i=>some i) (some false)) (some false)) (some false)) (some false)) (some false)) (some false)) (some false)) (some false)) (some false)) (some false)) (some false)
def xx (a:aj):Option Bool:=
 ah (nv a) fun d=>ah (lX 0 true) fun e=>ah (lR a e) fun b=>ah (r5 b.1 0) fun f=>ah (lX 1 true) fun g=>ah (lR a g) fun h=>ah (pQ 12 12) fun i=>ah (nB a 0 i) fun c=>ah (pM c.1) fun j=>ah (lX 0 true) fun k=>ah (lY a k) fun l=>ah (lX 1 true) fun m=>ah (lY l m) fun n=>ah (lX 0 false) fun o=>ah (lY n o) fun p=>ah (kB p) fun q=>xw d b f h c j q
def xy (d:aj)(f:(Int×Int))(g:(Int×Int))(h:(Int×Int))(i:(Int×Int))(b:(Int×au×Int))(c:(Int×au×Int))(a:(au×au×Bool×Int)):Option Bool:=
 ah (xp d 2) fun j=>ah (xu d 2) fun e=>cond ((f.2 != 0)) (some false) (cond ((g.2 != 0)) (some false) (cond ((h.2 != 0)) (some false) (cond ((i.2 != 0)) (some false) (cond ((b.2.2 != 0)) (some false) (cond ((c.2.2 != 0)) (some false) (cond ((a.2.2.2 != 0)) (some false) (cond ((j.2 != 0)) (some false) (cond ((e.2.2 != 0)) (some false) (cond ((f.1 != 0)) (some false) (cond ((g.1 != 2)) (some false) (cond ((h.1 != 0)) (some false) (cond ((i.1 != 1)) (some false) (cond ((b.1 != 0)) (some false) (ah (fJ 1 1) fun k=>cond (!((b.2.1.num==k.num)&&(b.2.1.den==k.den))) (some false) (cond ((c.1 != (-1))) (some false) (ah (fJ 0 1) fun l=>cond (!((c.2.1.num==l.num)&&(c.2.1.den==l.den))) (some false) (cond (!a.2.2.1) (some false) (ah (fJ 3 2) fun m=>cond (!((a.1.num==m.num)&&(a.1.den==m.den))) (some false) (ah (fJ 3 2) fun n=>cond (!((a.2.1.num==n.num)&&(a.2.1.den==n.den))) (some false) (ah (lP j.1 ([11,12,13,14])) fun o=>cond (!o) (some false) (cond (!e.2.1) (some false) (ah (lP e.1 ([11])) fun p=>cond (!p) (some false) (xx d)))))))))))))))))))))))
def xz (a:aj)(b:aj):Option Bool:=
 ah (rX a 0) fun c=>ah (rX a 1) fun d=>ah (pM a) fun e=>ah (pM b) fun f=>ah (r6 a) fun g=>ah (r6 b) fun h=>ah (vD a) fun i=>xy a c d e f g h i
def xA (b:aj)(s:aj)(g:(au×Int))(c:(Int×au×Int))(h:(au×Int))(d:(au×Bool×Int))(e:(au×Bool×Int))(f:(au×Bool×Int)):Option Bool:=
 ah (vJ b) fun i=>ah (r5 b 0) fun j=>ah (vI b 0) fun a=>cond ((g.2 != 0)) (some false) (cond ((c.2.2 != 0)) (some false) (cond ((h.2 != 0)) (some false) (cond ((d.2.2 != 0)) (some false) (cond ((e.2.2 != 0)) (some false) (cond ((f.2.2 != 0)) (some false) (cond ((i.2 != 0)) (some false) (cond ((j.2 != 0)) (some false) (cond ((a.2.2 != 0)) (some false) (ah (fJ 13 4) fun k=>cond (!((g.1.num==k.num)&&(g.1.den==k.den))) (some false) (cond ((c.1 != 2)) (some false) (ah (fJ 11 8) fun l=>cond (!((c.2.1.num==l.num)&&(c.2.1.den==l.den))) (some false) (ah (fJ 1 4) fun m=>cond (!((h.1.num==m.num)&&(h.1.den==m.den))) (some false) (ah (fJ 24 13) fun n=>cond (!((d.1.num==n.num)&&(d.1.den==n.den))) (some false) (cond (!d.2.1) (some false) (ah (fJ 2 13) fun o=>cond (!((e.1.num==o.num)&&(e.1.den==o.den))) (some false) (cond (e.2.1) (some false) (ah (fJ 1 1) fun p=>cond (!((f.1.num==p.num)&&(f.1.den==p.den))) (some false) (cond (!f.2.1) (some false) (cond ((i.1 != 3)) (some false) (ah (lP j.1 ([10,11,12])) fun t=>cond (!t) (some false) (ah (fJ 1 4) fun q=>cond (!((a.1.num==q.num)&&(a.1.den==q.den))) (some false) (ah (fJ 1 1) fun r=>cond (!((a.2.1.num==r.num)&&(a.2.1.den==r.den))) (some false) (xz b s)))))))))))))))))))))))
def om :Option Bool:=
 ah (vO) fun a=>ah (vM a ([11]) 2) fun b=>ah (uY a 5) fun c=>ah (lW 2 11) fun d=>ah (uZ a d) fun e=>ah (lW 2 10) fun f=>ah (u5 a f) fun g=>ah (lW 2 12) fun h=>ah (u6 b h) fun i=>ah (lW 2 12) fun j=>ah (rR b j) fun k=>ah (lW 2 12) fun l=>ah (rR a l) fun m=>xA a b c e g i k m
theorem xB:om=some true:=by decide+kernel
set_option maxHeartbeats 40000000 in
theorem B5 {Φ:Goroutine->ag->Prop}(hJ:Closed Tryz.prog true (dP Tryz.prog Φ)){A:Act}{ro:Addr->Option Value}(a:(Int×Int×Int))(f:(aj×Int))(b:((List Int)×Int))(g:(aj×Int))(i:(aj×Int))(d:(Int×Int))(c:((List Int)×Int))(Q:cY ro){j:Value}(k:ax rI ro j b.1){l:Value}(m:ax rI ro l c.1)(q:sz A=439/\A.defers=[]/\slot A 0= .bool false/\slot A 4= .int .i64 a.2.2/\slot A 7= .int .i64 f.2/\slot A 9= .int .i64 b.2/\slot A 12= .int .i64 g.2/\slot A 15= .int .i64 i.2/\slot A 18= .int .i64 d.2/\slot A 20= .int .i64 c.2/\slot A 21=j/\slot A 28= .int .i64 d.1/\slot A 40= .int .i64 a.1/\slot A 41= .int .i64 a.2.1/\slot A 43=l)(h:xw a f b g i d c=some true):Wp (dP Tryz.prog Φ) (bu (bu (bu (bu (bu (bu (bu (bu (bu (bu (bu (bu (bu (bu (bu (bu (bu (bu (bu (bu (bu (bu (bu (bu (bu (bu (bu (bu (bu (bu (bu (bu (Tryz.f7.body.getD .skip))))))))))))))))))))))))))))))))) (ir Tryz.prog [.tmp 0] (fun v _=>v= .bool true)) A ⟨ro,[]⟩:=by
 obtain ⟨R,hd,S,T,U,V,W,X,Y,Z,ab,ad,ae,al,ao⟩:=q
 obtain ⟨ar,a0,rfl,a2,a3,-⟩:=id k
 obtain ⟨a4,a5,rfl,a6,a7,-⟩:=id m
 unfold xw at h
 refine ez hJ fun s t=>?_
 have u:=s.nd
 try simp only[keys,List.map_cons,List.map_nil,List.map_append,List.cons_append,List.nil_append,List.nodup_cons,List.mem_cons,List.mem_append,List.not_mem_nil,or_false,not_or] at u
 simp only[aU] at t
 refine aa hJ ?_
 refine aH hJ fun w=>?_
 refine dZ hJ fun K n=>?_
 revert h;refine cS (fun y h=>?_) fun y h=>?_
 ·revert h;refine cS (fun z h=>?_) fun z h=>?_
  ·revert h;refine cS (fun B h=>?_) fun B h=>?_
   ·revert h;refine cS (fun C h=>?_) fun C h=>?_
    ·revert h;refine cS (fun D h=>?_) fun D h=>?_
     ·revert h;refine cS (fun E h=>?_) fun E h=>?_
      ·revert h;refine cS (fun F h=>?_) fun F h=>?_
       ·revert h;refine cS (fun G h=>?_) fun G h=>?_
        ·revert h;refine cS (fun H h=>?_) fun H h=>?_
         ·revert h;refine bS fun a8 I h=>?_
          try simp (maxSteps:=10000000) only[*,go_sem]
          refine an fun a9 J o=>?_;have L:=aL.cons o w;try simp only[ak] at o
          try simp (maxSteps:=10000000) only[*,go_sem]
          refine aO hJ _ (pG b.1 (k.mono aN) ([11,12]) ((ax.flat (r:=rI) (e:=3) (cs:=#[.int .i64 11,.int .i64 12]) (fun x=>[.int .i64 x]) ([11,12]) (fun _=>rfl) J rfl (by simp)).mono (jy (by simp (maxSteps:=10000000) only[*,go_sem]))) I) (aE ?_)
          revert h;refine cS (fun M h=>?_) fun M h=>?_
          ·revert h;refine cS (fun N h=>?_) fun N h=>?_
           ·revert h;refine bS fun ba O h=>?_
            obtain rfl:=sI h
            try simp (maxSteps:=10000000) only[*,go_sem]
            refine an fun bb P p=>?_;have bc:=aL.cons p L;try simp only[ak] at p
            try simp (maxSteps:=10000000) only[*,go_sem]
            refine aO hJ _ (pG c.1 (m.mono aN) ([1]) ((ax.flat (r:=rI) (e:=3) (cs:=#[.int .i64 1]) (fun x=>[.int .i64 x]) ([1]) (fun _=>rfl) P rfl (by simp)).mono (jy (by simp (maxSteps:=10000000) only[*,go_sem]))) O) (aE ?_)
            try simp (maxSteps:=10000000) only[*,go_sem]
            refine n.go ?_;clear n K
            refine av ?_
            try simp only[*,go_sem]
           cases h
          cases h
         cases h
        cases h
       cases h
      cases h
     cases h
    cases h
   cases h
  cases h
 cases h
set_option maxHeartbeats 40000000 in
theorem Jf {Φ:Goroutine->ag->Prop}(hJ:Closed Tryz.prog true (dP Tryz.prog Φ)){A:Act}{ro:Addr->Option Value}(d:aj)(eQ:((List Int)×Int))(eS:(Int×Int))(e0:(Int×Int))(b0:(Int×Int))(e1:(Int×Int))(e2:(Int×au×Int))(e3:(Int×au×Int))(fa:(au×au×Bool×Int)){i:Nat}(a:cY ro){b1:Value}(fb:ax rI ro b1 eQ.1){j k m n:Value}(c:bt ro d j k m n)(fg:sz A=439/\A.defers=[]/\slot A 0= .bool false/\slot A 1= .pointer (some ⟨i,0,none⟩)/\slot A 4= .int .i64 eS.2/\slot A 7= .int .i64 e0.2/\slot A 9= .int .i64 b0.2/\slot A 12= .int .i64 e1.2/\slot A 15= .int .i64 e2.2.2/\slot A 18= .int .i64 e3.2.2/\slot A 20= .int .i64 fa.2.2.2/\slot A 21=b1/\slot A 28= .int .i64 b0.1)(h:xx d=some true):Wp (dP Tryz.prog Φ) (bu (bu (bu (bu (bu (bu (bu (bu (bu (bu (bu (bu (bu (bu (bu (bu (bu (bu (bu (bu (bu (bu (bu (bu (bu (Tryz.f7.body.getD .skip)))))))))))))))))))))))))) (ir Tryz.prog [.tmp 0] (fun v _=>v= .bool true)) A ⟨ro,(i,bk d j k m n)::[]⟩:=by
 obtain ⟨b2,hd,b3,k1,b4,b5,ca,cb,cd,cf,cl,cy,cS⟩:=fg
 obtain ⟨d125,j1,rfl,j2,kh,-⟩:=id fb
 unfold xx at h
 have fi:=c.oc;simp only[bw] at fi
 refine ez hJ fun a2 c0=>?_
 have fp:=a2.nd
 try simp only[keys,List.map_cons,List.map_nil,List.map_append,List.cons_append,List.nil_append,List.nodup_cons,List.mem_cons,List.mem_append,List.not_mem_nil,or_false,not_or] at fp
 replace g:=c0.hd
 simp only[aU] at c0
 refine aa hJ (dZ hJ fun K b=>?_)
 revert h;refine bS fun da fr h=>?_
 try simp (maxSteps:=10000000) only[*,go_sem]
 refine aO hJ _ (zJ (a.mono aN) d (c.mono aN) fr) (aE ?_)
 try simp (maxSteps:=10000000) only[*,go_sem]
 refine b.go ?_;clear b K
 refine aa hJ ?_
 refine jF hJ mixed [] (.rd 0 (.rd 1 (.two 2 (.pure 3 (.pure 4 (.pure 5 (.one 6 (.one 7 (.pure 8 .done)))))) 6 (.one 2 (.pure 3 (.pure 4 (.pure 5 (.one 7 (.pure 8 .done))))))))) ⟨ro,[(i,bk d j k m n)]⟩ (by simp (maxSteps:=10000000) only[*,go_sem]) (by kernel_rfl) fun K b=>?_
 revert h;refine bS fun db fs h=>?_
 try simp (maxSteps:=10000000) only[*,go_sem]
 refine ⟨_,bB hJ fun F u=>jM 0 true fs,bU ?_⟩
 try simp (maxSteps:=10000000) only[*,go_sem]
 refine jE ?_ ?_
 ·revert h;refine bS fun Z ft h=>?_
  try simp (maxSteps:=10000000) only[*,go_sem]
  refine bN hJ _ (pN a d c db ft) fun v kj a3 dd f=>?_
  obtain ⟨df,dk,dp,dq,rfl,ds⟩:=f
  have fu:=ds.oc;simp only[bw] at fu
  replace c:=c.mono a3
  replace g:=dd.hd
  replace a:=a.mono a3
  simp only[aU] at dd
  have kk:=eu (l:=[(i,bk d j k m n)]) a3 (az.cons g (az.nil _))
  refine ⟨by simp (maxSteps:=10000000) only[*,go_sem],?_⟩
  refine bU ?_
  try simp (maxSteps:=10000000) only[*,go_sem]
  refine an fun w s dt=>?_;have kl:=aL.cons dt a2;try simp only[ak] at dt
  try simp (maxSteps:=10000000) only[*,go_sem]
  refine b.go ?_;clear b K
  refine aa hJ (dZ hJ fun K b=>?_)
  revert h;refine bS fun fv fw h=>?_
  try simp (maxSteps:=10000000) only[*,go_sem]
  refine bN hJ _ (vE a Z.1 ds 0 fw) fun v fx du a4 f=>?_
  obtain ⟨km,rfl,o⟩:=f
  have gg:=o.oc;simp only[bw] at gg
  replace c:=c.mono du
  replace s:=a4.hd
  replace g:=a4.tl.hd
  replace a:=a.mono du
  simp only[aU] at a4
  refine aE ?_
  try simp (maxSteps:=10000000) only[*,go_sem]
  refine b.go ?_;clear b K
  refine aa hJ ?_
  refine jF hJ mixed [] (.rd 0 (.rd 1 (.one 2 (.pure 3 (.pure 4 (.pure 5 (.pure 6 .done))))))) ⟨fx,[(w,bk Z.1 df dk dp dq),(i,bk d j k m n)]⟩ (by simp (maxSteps:=10000000) only[*,go_sem]) (by kernel_rfl) fun K b=>?_
  revert h;refine bS fun gl gn h=>?_
  try simp (maxSteps:=10000000) only[*,go_sem]
  refine ⟨_,bB hJ fun F u=>jM 1 true gn,bU ?_⟩
  revert h;refine bS fun gp gB h=>?_
  try simp (maxSteps:=10000000) only[*,go_sem]
  refine bN hJ _ (pN a d c gl gB) fun v gC ab a5 f=>?_
  obtain ⟨kn,kp,ks,kt,rfl,N⟩:=f
  have gM:=N.oc;simp only[bw] at gM
  replace o:=o.mono ab
  replace c:=c.mono ab
  replace s:=a5.hd
  replace g:=a5.tl.hd
  replace a:=a.mono ab
  simp only[aU] at a5
  obtain ⟨kv,kx,rfl,ky,k0,-⟩:=id N.e
  obtain ⟨k2,lb,rfl,lh,lj,-⟩:=id N.p
  obtain ⟨lk,ll,rfl,ln,lo,-⟩:=id N.y
  obtain ⟨lr,lv,rfl,lx,ly,-⟩:=id N.t
  have lL:=eu (l:=[(w,bk Z.1 df dk dp dq),(i,bk d j k m n)]) ab (az.cons s (az.cons g (az.nil _)))
  refine ⟨by simp (maxSteps:=10000000) only[*,go_sem],?_⟩
  refine bU ?_
  try simp (maxSteps:=10000000) only[*,go_sem]
  refine b.go ?_;clear b K
  refine aa hJ ?_
  refine eM [0,1,4,7,9,12,15,18,20,21,28,40,41,42] fun l1 gT gV g0=>?_
  simp only[*,go_sem] at gT gV g0
  clear b2 hd b3 k1 b4 b5 ca cb cd cf cl cy cS
  refine jF hJ mixed [] (.rd 0 (.rd 1 (.one 2 (.pure 3 (.pure 4 (.pure 5 (.one 6 (.pure 7 .done)))))))) ⟨gC,[(i,bk d j k m n)]⟩ (by simp (maxSteps:=10000000) only[*,go_sem]) (by kernel_rfl) fun K b=>?_
  revert h;refine bS fun g1 g2 h=>?_
  try simp (maxSteps:=10000000) only[*,go_sem]
  refine ⟨_,bB hJ fun F u=>sd 12 12 g2,bU ?_⟩
  revert h;refine bS fun x g3 h=>?_
  try simp (maxSteps:=10000000) only[*,go_sem]
  refine bN hJ _ (vt a d c 0 g1 g3) fun v g4 ad a6 f=>?_
  obtain ⟨O,P,Q,R,rfl,dv⟩:=f
  have ha:=dv.oc;simp only[bw] at ha
  replace o:=o.mono ad
  replace c:=c.mono ad
  replace s:=a6.hd
  replace g:=a6.tl.hd
  replace a:=a.mono ad
  simp only[aU] at a6
  have l2:=eu (l:=[(i,bk d j k m n)]) ad (az.cons g (az.nil _))
  refine ⟨by simp (maxSteps:=10000000) only[*,go_sem],?_⟩
  refine bU ?_
  try simp (maxSteps:=10000000) only[*,go_sem]
  refine b.go ?_;clear b K
  refine aa hJ (dZ hJ fun K b=>?_)
  revert h;refine bS fun hc hf h=>?_
  try simp (maxSteps:=10000000) only[*,go_sem]
  refine aO hJ _ (rY (a.mono aN) x.1 (dv.mono aN) hf) (aE ?_)
  try simp (maxSteps:=10000000) only[*,go_sem]
  refine b.go ?_;clear b K
  refine aa hJ ?_
  refine jF hJ mixed [] (.rd 0 (.rd 1 (.one 2 (.rd 3 (.one 4 (.rd 5 (.one 6 (.one 7 (.pure 8 (.pure 9 (.pure 10 (.pure 11 (.pure 12 .done))))))))))))) ⟨g4,[(w,bk x.1 O P Q R),(i,bk d j k m n)]⟩ (by simp (maxSteps:=10000000) only[*,go_sem]) (by kernel_rfl) fun K b=>?_
  revert h;refine bS fun hg hh h=>?_
  try simp (maxSteps:=10000000) only[*,go_sem]
  refine ⟨_,bB hJ fun F u=>jM 0 true hh,bU ?_⟩
  revert h;refine bS fun hi hj h=>?_
  try simp (maxSteps:=10000000) only[*,go_sem]
  refine bN hJ _ (lZ d c hg hj) fun v l3 z a7 f=>?_
  obtain ⟨l4,ma,mf,mi,rfl,D⟩:=f
  have hk:=D.oc;simp only[bw] at hk
  replace o:=o.mono z
  replace c:=c.mono z
  replace s:=a7.hd
  replace g:=a7.tl.hd
  replace a:=a.mono z
  simp only[aU] at a7
  obtain ⟨ml,mn,rfl,mr,mx,-⟩:=id D.e
  obtain ⟨my,m1,rfl,m2,na,-⟩:=id D.p
  obtain ⟨nb,nf,rfl,nm,nn,-⟩:=id D.y
  obtain ⟨np,ns,rfl,nx,nz,-⟩:=id D.t
  have nA:=eu (l:=[(w,bk x.1 O P Q R),(i,bk d j k m n)]) z (az.cons s (az.cons g (az.nil _)))
  refine ⟨by simp (maxSteps:=10000000) only[*,go_sem],?_⟩
  refine bU ?_
  revert h;refine bS fun hl hn h=>?_
  try simp (maxSteps:=10000000) only[*,go_sem]
  refine ⟨_,bB hJ fun F u=>jM 1 true hn,bU ?_⟩
  revert h;refine bS fun ho hp h=>?_
  try simp (maxSteps:=10000000) only[*,go_sem]
  refine bN hJ _ (lZ hi D hl hp) fun v nH E a8 f=>?_
  obtain ⟨nI,nK,nQ,nR,rfl,G⟩:=f
  have hq:=G.oc;simp only[bw] at hq
  replace o:=o.mono E
  replace c:=c.mono E
  replace s:=a8.hd
  replace g:=a8.tl.hd
  replace a:=a.mono E
  simp only[aU] at a8
  obtain ⟨nT,nV,rfl,nX,nY,-⟩:=id G.e
  obtain ⟨n0,n1,rfl,n2,n3,-⟩:=id G.p
  obtain ⟨oi,oj,rfl,ox,oy,-⟩:=id G.y
  obtain ⟨o0,o1,rfl,o2,o4,-⟩:=id G.t
  have pa:=eu (l:=[(w,bk x.1 O P Q R),(i,bk d j k m n)]) (z.trans E) (az.cons s (az.cons g (az.nil _)))
  refine ⟨by simp (maxSteps:=10000000) only[*,go_sem],?_⟩
  refine bU ?_
  revert h;refine bS fun hr hs h=>?_
  try simp (maxSteps:=10000000) only[*,go_sem]
  refine ⟨_,bB hJ fun F u=>jM 0 false hs,bU ?_⟩
  revert h;refine bS fun ht hv h=>?_
  try simp (maxSteps:=10000000) only[*,go_sem]
  refine bN hJ _ (lZ ho G hr hv) fun v pb S a9 f=>?_
  obtain ⟨pd,pf,ph,pj,rfl,H⟩:=f
  have hx:=H.oc;simp only[bw] at hx
  replace o:=o.mono S
  replace c:=c.mono S
  replace s:=a9.hd
  replace g:=a9.tl.hd
  replace a:=a.mono S
  simp only[aU] at a9
  obtain ⟨pk,po,rfl,pr,ps,-⟩:=id H.e
  obtain ⟨pt,pv,rfl,pw,px,-⟩:=id H.p
  obtain ⟨py,pA,rfl,pB,pC,-⟩:=id H.y
  obtain ⟨pD,pT,rfl,p0,p1,-⟩:=id H.t
  have q0:=eu (l:=[(w,bk x.1 O P Q R),(i,bk d j k m n)]) ((z.trans E).trans S) (az.cons s (az.cons g (az.nil _)))
  refine ⟨by simp (maxSteps:=10000000) only[*,go_sem],?_⟩
  refine bU ?_
  revert h;refine bS fun hy hz h=>?_
  try simp (maxSteps:=10000000) only[*,go_sem]
  refine bN hJ _ (vB a ht H hz) fun v q1 ae ba f=>?_
  obtain ⟨ra,rfl,dC⟩:=f
  replace o:=o.mono ae
  replace c:=c.mono ae
  replace s:=ba.hd
  replace g:=ba.tl.hd
  replace a:=a.mono ae
  simp only[aU] at ba
  obtain ⟨rb,re,rfl,rh,rk,-⟩:=id dC
  have rl:=eu (l:=[(w,bk x.1 O P Q R),(i,bk d j k m n)]) (((z.trans E).trans S).trans ae) (az.cons s (az.cons g (az.nil _)))
  refine ⟨by simp (maxSteps:=10000000) only[*,go_sem],?_⟩
  refine bU ?_
  try simp (maxSteps:=10000000) only[*,go_sem]
  refine b.go ?_;clear b K
  show Wp _ _ _ _ _
  exact cA hJ (Le.sub (.cons _ (.cons _ (List.Sublist.refl _)))) (B5 hJ da Z fv gp x hc hy a o dC (by simp (maxSteps:=10000000) only[*,go_sem]) h)
 revert h;refine bS fun al hA h=>?_
 try simp (maxSteps:=10000000) only[*,go_sem]
 refine an fun B r dE=>?_;have rn:=aL.cons dE a2;try simp only[ak] at dE
 try simp (maxSteps:=10000000) only[*,go_sem]
 refine bN hJ _ (pN a d c db hA) fun v rp bb bc f=>?_
 obtain ⟨dT,ea,eb,ec,rfl,ed⟩:=f
 have hB:=ed.oc;simp only[bw] at hB
 replace c:=c.mono bb
 replace r:=bc.hd
 replace g:=bc.tl.hd
 replace a:=a.mono bb
 simp only[aU] at bc
 have rr:=eu (l:=[(i,bk d j k m n)]) bb (az.cons g (az.nil _))
 refine ⟨by simp (maxSteps:=10000000) only[*,go_sem],?_⟩
 refine bU ?_
 try simp (maxSteps:=10000000) only[*,go_sem]
 refine b.go ?_;clear b K
 refine aa hJ (dZ hJ fun K b=>?_)
 revert h;refine bS fun hD hE h=>?_
 try simp (maxSteps:=10000000) only[*,go_sem]
 refine bN hJ _ (vE a al.1 ed 0 hE) fun v hF eh bd f=>?_
 obtain ⟨rv,rfl,q⟩:=f
 have hG:=q.oc;simp only[bw] at hG
 replace c:=c.mono eh
 replace r:=bd.hd
 replace g:=bd.tl.hd
 replace a:=a.mono eh
 simp only[aU] at bd
 refine aE ?_
 try simp (maxSteps:=10000000) only[*,go_sem]
 refine b.go ?_;clear b K
 refine aa hJ ?_
 refine jF hJ mixed [] (.rd 0 (.rd 1 (.one 2 (.pure 3 (.pure 4 (.pure 5 (.pure 6 .done))))))) ⟨hF,[(B,bk al.1 dT ea eb ec),(i,bk d j k m n)]⟩ (by simp (maxSteps:=10000000) only[*,go_sem]) (by kernel_rfl) fun K b=>?_
 revert h;refine bS fun hI hK h=>?_
 try simp (maxSteps:=10000000) only[*,go_sem]
 refine ⟨_,bB hJ fun F u=>jM 1 true hK,bU ?_⟩
 revert h;refine bS fun hL hM h=>?_
 try simp (maxSteps:=10000000) only[*,go_sem]
 refine bN hJ _ (pN a d c hI hM) fun v hN ao bj f=>?_
 obtain ⟨rB,rL,sa,sb,rfl,T⟩:=f
 have hP:=T.oc;simp only[bw] at hP
 replace q:=q.mono ao
 replace c:=c.mono ao
 replace r:=bj.hd
 replace g:=bj.tl.hd
 replace a:=a.mono ao
 simp only[aU] at bj
 obtain ⟨sc,sf,rfl,sg,sh,-⟩:=id T.e
 obtain ⟨sl,sm,rfl,ss,sy,-⟩:=id T.p
 obtain ⟨sI,sT,rfl,tb,te,-⟩:=id T.y
 obtain ⟨ti,tk,rfl,tm,tp,-⟩:=id T.t
 have ts:=eu (l:=[(B,bk al.1 dT ea eb ec),(i,bk d j k m n)]) ao (az.cons r (az.cons g (az.nil _)))
 refine ⟨by simp (maxSteps:=10000000) only[*,go_sem],?_⟩
 refine bU ?_
 try simp (maxSteps:=10000000) only[*,go_sem]
 refine b.go ?_;clear b K
 refine aa hJ ?_
 refine eM [0,1,4,7,9,12,15,18,20,21,28,40,41,42] fun tt hQ hR hS=>?_
 simp only[*,go_sem] at hQ hR hS
 clear b2 hd b3 k1 b4 b5 ca cb cd cf cl cy cS
 refine jF hJ mixed [] (.rd 0 (.rd 1 (.one 2 (.pure 3 (.pure 4 (.pure 5 (.one 6 (.pure 7 .done)))))))) ⟨hN,[(i,bk d j k m n)]⟩ (by simp (maxSteps:=10000000) only[*,go_sem]) (by kernel_rfl) fun K b=>?_
 revert h;refine bS fun hT hV h=>?_
 try simp (maxSteps:=10000000) only[*,go_sem]
 refine ⟨_,bB hJ fun F u=>sd 12 12 hV,bU ?_⟩
 revert h;refine bS fun C hX h=>?_
 try simp (maxSteps:=10000000) only[*,go_sem]
 refine bN hJ _ (vt a d c 0 hT hX) fun v hY ar bl f=>?_
 obtain ⟨U,V,W,X,rfl,et⟩:=f
 have hZ:=et.oc;simp only[bw] at hZ
 replace q:=q.mono ar
 replace c:=c.mono ar
 replace r:=bl.hd
 replace g:=bl.tl.hd
 replace a:=a.mono ar
 simp only[aU] at bl
 have tx:=eu (l:=[(i,bk d j k m n)]) ar (az.cons g (az.nil _))
 refine ⟨by simp (maxSteps:=10000000) only[*,go_sem],?_⟩
 refine bU ?_
 try simp (maxSteps:=10000000) only[*,go_sem]
 refine b.go ?_;clear b K
 refine aa hJ (dZ hJ fun K b=>?_)
 revert h;refine bS fun h0 h1 h=>?_
 try simp (maxSteps:=10000000) only[*,go_sem]
 refine aO hJ _ (rY (a.mono aN) C.1 (et.mono aN) h1) (aE ?_)
 try simp (maxSteps:=10000000) only[*,go_sem]
 refine b.go ?_;clear b K
 refine aa hJ ?_
 refine jF hJ mixed [] (.rd 0 (.rd 1 (.one 2 (.rd 3 (.one 4 (.rd 5 (.one 6 (.one 7 (.pure 8 (.pure 9 (.pure 10 (.pure 11 (.pure 12 .done))))))))))))) ⟨hY,[(B,bk C.1 U V W X),(i,bk d j k m n)]⟩ (by simp (maxSteps:=10000000) only[*,go_sem]) (by kernel_rfl) fun K b=>?_
 revert h;refine bS fun h2 h3 h=>?_
 try simp (maxSteps:=10000000) only[*,go_sem]
 refine ⟨_,bB hJ fun F u=>jM 0 true h3,bU ?_⟩
 revert h;refine bS fun h4 h5 h=>?_
 try simp (maxSteps:=10000000) only[*,go_sem]
 refine bN hJ _ (lZ d c h2 h5) fun v tz I bm f=>?_
 obtain ⟨tI,tM,tW,ub,rfl,J⟩:=f
 have h6:=J.oc;simp only[bw] at h6
 replace q:=q.mono I
 replace r:=bm.hd
 replace g:=bm.tl.hd
 replace a:=a.mono I
 simp only[aU] at bm
 obtain ⟨ui,u1,rfl,u2,u3,-⟩:=id J.e
 obtain ⟨u4,va,rfl,vd,vs,-⟩:=id J.p
 obtain ⟨vx,vy,rfl,v3,wa,-⟩:=id J.y
 obtain ⟨wb,wc,rfl,wi,wx,-⟩:=id J.t
 have wy:=eu (l:=[(B,bk C.1 U V W X),(i,bk d j k m n)]) I (az.cons r (az.cons g (az.nil _)))
 refine ⟨by simp (maxSteps:=10000000) only[*,go_sem],?_⟩
 refine bU ?_
 revert h;refine bS fun h7 h8 h=>?_
 try simp (maxSteps:=10000000) only[*,go_sem]
 refine ⟨_,bB hJ fun F u=>jM 1 true h8,bU ?_⟩
 revert h;refine bS fun h9 ib h=>?_
 try simp (maxSteps:=10000000) only[*,go_sem]
 refine bN hJ _ (lZ h4 J h7 ib) fun v w0 Y bo f=>?_
 obtain ⟨xa,xc,xf,xi,rfl,L⟩:=f
 have ic:=L.oc;simp only[bw] at ic
 replace q:=q.mono Y
 replace r:=bo.hd
 replace g:=bo.tl.hd
 replace a:=a.mono Y
 simp only[aU] at bo
 obtain ⟨xn,xr,rfl,xt,xv,-⟩:=id L.e
 obtain ⟨x0,x1,rfl,yi,yk,-⟩:=id L.p
 obtain ⟨yn,yr,rfl,ys,yv,-⟩:=id L.y
 obtain ⟨y0,y1,rfl,zc,zr,-⟩:=id L.t
 have zs:=eu (l:=[(B,bk C.1 U V W X),(i,bk d j k m n)]) (I.trans Y) (az.cons r (az.cons g (az.nil _)))
 refine ⟨by simp (maxSteps:=10000000) only[*,go_sem],?_⟩
 refine bU ?_
 revert h;refine bS fun ih ik h=>?_
 try simp (maxSteps:=10000000) only[*,go_sem]
 refine ⟨_,bB hJ fun F u=>jM 0 false ik,bU ?_⟩
 revert h;refine bS fun il im h=>?_
 try simp (maxSteps:=10000000) only[*,go_sem]
 refine bN hJ _ (lZ h9 L ih im) fun v zt a0 br f=>?_
 obtain ⟨Ag,At,BF,B0,rfl,M⟩:=f
 have iv:=M.oc;simp only[bw] at iv
 replace q:=q.mono a0
 replace r:=br.hd
 replace g:=br.tl.hd
 replace a:=a.mono a0
 simp only[aU] at br
 obtain ⟨Cy,CY,rfl,Ex,Fl,-⟩:=id M.e
 obtain ⟨F0,Gp,rfl,Gr,Ha,-⟩:=id M.p
 obtain ⟨Hb,Hc,rfl,Hd,Hk,-⟩:=id M.y
 obtain ⟨Hm,Hn,rfl,H0,H2,-⟩:=id M.t
 have H3:=eu (l:=[(B,bk C.1 U V W X),(i,bk d j k m n)]) ((I.trans Y).trans a0) (az.cons r (az.cons g (az.nil _)))
 refine ⟨by simp (maxSteps:=10000000) only[*,go_sem],?_⟩
 refine bU ?_
 revert h;refine bS fun ix jC h=>?_
 try simp (maxSteps:=10000000) only[*,go_sem]
 refine bN hJ _ (vB a il M jC) fun v H4 bs bz f=>?_
 obtain ⟨H5,rfl,ev⟩:=f
 replace q:=q.mono bs
 replace r:=bz.hd
 replace g:=bz.tl.hd
 replace a:=a.mono bs
 simp only[aU] at bz
 obtain ⟨Is,IH,rfl,JF,Kd,-⟩:=id ev
 have Lk:=eu (l:=[(B,bk C.1 U V W X),(i,bk d j k m n)]) (((I.trans Y).trans a0).trans bs) (az.cons r (az.cons g (az.nil _)))
 refine ⟨by simp (maxSteps:=10000000) only[*,go_sem],?_⟩
 refine bU ?_
 try simp (maxSteps:=10000000) only[*,go_sem]
 refine b.go ?_;clear b K
 show Wp _ _ _ _ _
 exact cA hJ (Le.sub (.cons _ (.cons _ (List.Sublist.refl _)))) (B5 hJ da al hD hL C h0 ix a q ev (by simp (maxSteps:=10000000) only[*,go_sem]) h)
set_option maxHeartbeats 40000000 in
theorem Jg {Φ:Goroutine->ag->Prop}(hJ:Closed Tryz.prog true (dP Tryz.prog Φ)){A:Act}{ro:Addr->Option Value}(g:aj)(q:((List Int)×Int))(N:(au×au×Int))(k:(Int×Int))(l:(Int×Int))(m:(Int×Int))(n:(Int×Int))(c:(Int×au×Int))(d:(Int×au×Int))(a:(au×au×Bool×Int)){s t u w y:Nat}(i:cY ro){I:Value}(j:ax rI ro I q.1){z B C D:Value}(f:bt ro g z B C D)(O:sz A=439/\A.defers=[]/\slot A 0= .bool false/\slot A 1= .pointer (some ⟨y,0,none⟩)/\slot A 4= .int .i64 k.2/\slot A 7= .int .i64 l.2/\slot A 9= .int .i64 m.2/\slot A 12= .int .i64 n.2/\slot A 15= .int .i64 c.2.2/\slot A 18= .int .i64 d.2.2/\slot A 20= .int .i64 a.2.2.2/\slot A 21=I/\slot A 22= .int .i64 q.2/\slot A 25= .int .i64 N.2.2/\slot A 26= .int .i64 k.1/\slot A 27= .int .i64 l.1/\slot A 28= .int .i64 m.1/\slot A 29= .int .i64 n.1/\slot A 30= .int .i64 c.1/\slot A 31= .pointer (some ⟨w,0,none⟩)/\slot A 32= .int .i64 d.1/\slot A 33= .pointer (some ⟨u,0,none⟩)/\slot A 34= .pointer (some ⟨t,0,none⟩)/\slot A 35= .pointer (some ⟨s,0,none⟩)/\slot A 36= .bool a.2.2.1)(h:xy g k l m n c d a=some true):Wp (dP Tryz.prog Φ) (bu (bu (bu (bu (bu (bu (bu (bu (bu (bu (bu (bu (bu (bu (bu (bu (bu (bu (bu (bu (bu (Tryz.f7.body.getD .skip)))))))))))))))))))))) (ir Tryz.prog [.tmp 0] (fun v _=>v= .bool true)) A ⟨ro,(s,rt a.2.1.num a.2.1.den)::(t,rt a.1.num a.1.den)::(u,rt d.2.1.num d.2.1.den)::(w,rt c.2.1.num c.2.1.den)::(y,bk g z B C D)::[]⟩:=by
 obtain ⟨P,hd,Q,k1,R,S,T,U,V,W,X,Y,Z,ab,ad,ae,al,ao,ar,a0,a2,a3,a4,a5,a6⟩:=O
 unfold xy at h
 have a7:=f.oc;simp only[bw] at a7
 have a8:=j.oc;simp only[bw] at a8
 refine ez hJ fun a9 ba=>?_
 have bb:=a9.nd
 try simp only[keys,List.map_cons,List.map_nil,List.map_append,List.cons_append,List.nil_append,List.nodup_cons,List.mem_cons,List.mem_append,List.not_mem_nil,or_false,not_or] at bb
 simp only[aU] at ba
 refine aa hJ (dZ hJ fun K b=>?_)
 revert h;refine bS fun bc bd h=>?_
 try simp (maxSteps:=10000000) only[*,go_sem]
 refine q5 _ (Jd i g f 2 bd) fun v e0 E bj G=>?_
 obtain ⟨e1,rfl,o⟩:=G
 have bl:=o.oc;simp only[bw] at bl
 replace j:=j.mono E
 replace f:=f.mono E
 replace i:=i.mono E
 simp only[aU] at bj
 refine aE ?_
 try simp (maxSteps:=10000000) only[*,go_sem]
 refine b.go ?_;clear b K
 refine aa hJ (dZ hJ fun K b=>?_)
 revert h;refine bS fun bm bo h=>?_
 try simp (maxSteps:=10000000) only[*,go_sem]
 refine q5 _ (Je i g f 2 bo) fun v br p bs G=>?_
 obtain ⟨e2,rfl,J⟩:=G
 have bz:=J.oc;simp only[bw] at bz
 replace j:=j.mono p
 replace f:=f.mono p
 replace o:=o.mono p
 replace i:=i.mono p
 simp only[aU] at bs
 refine aE ?_
 try simp (maxSteps:=10000000) only[*,go_sem]
 refine b.go ?_;clear b K
 refine aa hJ (aa hJ (dZ hJ fun K b=>?_))
 revert h;refine cS (fun b0 h=>?_) fun b0 h=>?_
 ·cases h
 revert h;refine cS (fun b1 h=>?_) fun b1 h=>?_
 ·cases h
 revert h;refine cS (fun b2 h=>?_) fun b2 h=>?_
 ·cases h
 revert h;refine cS (fun b3 h=>?_) fun b3 h=>?_
 ·cases h
 revert h;refine cS (fun b4 h=>?_) fun b4 h=>?_
 ·cases h
 revert h;refine cS (fun b5 h=>?_) fun b5 h=>?_
 ·cases h
 revert h;refine cS (fun ca h=>?_) fun ca h=>?_
 ·cases h
 revert h;refine cS (fun cb h=>?_) fun cb h=>?_
 ·cases h
 try simp (maxSteps:=10000000) only[*,go_sem]
 revert h;refine cS (fun cd h=>?_) fun cd h=>?_
 ·cases h
 refine b.go ?_;clear b K
 refine bI hJ (by simp (maxSteps:=10000000) only[*,go_sem]) ?_
 refine aD hJ (aa hJ ?_)
 refine aa hJ ?_
 refine eM [0,1,4,7,9,12,15,18,20,21,26,27,28,29,30,31,32,33,34,35,36,37,38,39] fun e3 cf cl cy=>?_
 simp only[*,go_sem] at cf cl cy
 clear P hd Q k1 R S T U V W X Y Z ab ad ae al ao ar a0 a2 a3 a4 a5 a6
 refine aH hJ fun c0=>?_
 refine jF hJ mixed [] (.pure 0 (.pure 1 (.pure 2 (.pure 3 (.pure 4 (.pure 5 (.pure 6 (.pure 7 (.pure 8 (.pure 9 (.pure 10 (.pure 11 (.pure 12 (.pure 13 (.pure 14 (.pure 15 (.pure 16 (.pure 17 (.pure 18 (.rd 19 (.rd 20 (.pure 21 (.pure 22 (.pure 23 (.pure 24 (.pure 25 (.pure 26 (.pure 27 (.rd 28 (.rd 29 (.pure 30 (.pure 31 (.pure 32 (.pure 33 (.pure 34 (.pure 35 (.pure 36 (.rd 37 (.rd 38 (.pure 39 (.pure 40 (.pure 41 (.rd 42 (.rd 43 (.pure 44 (.pure 45 (.pure 46 (.pure 47 (.one 48 (.one 49 (.pure 50 (.pure 51 (.pure 52 (.pure 53 (.pure 54 (.pure 55 (.pure 56 (.pure 57 (.one 58 (.one 59 (.pure 60 (.pure 61 .done)))))))))))))))))))))))))))))))))))))))))))))))))))))))))))))) ⟨br,[(s,rt a.2.1.num a.2.1.den),(t,rt a.1.num a.1.den),(u,rt d.2.1.num d.2.1.den),(w,rt c.2.1.num c.2.1.den),(y,bk g z B C D)]⟩ (by simp (maxSteps:=10000000) only[*,go_sem]) (by kernel_rfl) fun K b=>?_
 revert h;refine cS (fun da h=>?_) fun da h=>?_
 ·cases h
 revert h;refine cS (fun db h=>?_) fun db h=>?_
 ·cases h
 revert h;refine cS (fun dd h=>?_) fun dd h=>?_
 ·cases h
 revert h;refine cS (fun df h=>?_) fun df h=>?_
 ·cases h
 revert h;refine cS (fun dk h=>?_) fun dk h=>?_
 ·cases h
 revert h;refine bS fun fa dp h=>?_
 try simp (maxSteps:=10000000) only[*,go_sem]
 refine ⟨_,bB hJ fun F H=>gA 1 1 dp,bU ?_⟩
 revert h;refine cS (fun dq h=>?_) fun dq h=>?_
 ·cases h
 revert h;refine cS (fun ds h=>?_) fun ds h=>?_
 ·cases h
 revert h;refine bS fun fb dt h=>?_
 try simp (maxSteps:=10000000) only[*,go_sem]
 refine ⟨_,bB hJ fun F H=>gA 0 1 dt,bU ?_⟩
 revert h;refine cS (fun du h=>?_) fun du h=>?_
 ·cases h
 revert h;refine cS (fun dv h=>?_) fun dv h=>?_
 ·cases h
 revert h;refine bS fun fg dC h=>?_
 try simp (maxSteps:=10000000) only[*,go_sem]
 refine ⟨_,bB hJ fun F H=>gA 3 2 dC,bU ?_⟩
 revert h;refine cS (fun dE h=>?_) fun dE h=>?_
 ·cases h
 revert h;refine bS fun fi dT h=>?_
 try simp (maxSteps:=10000000) only[*,go_sem]
 refine ⟨_,bB hJ fun F H=>gA 3 2 dT,bU ?_⟩
 revert h;refine cS (fun ea h=>?_) fun ea h=>?_
 ·cases h
 revert h;refine bS fun fp eb h=>?_
 try simp (maxSteps:=10000000) only[*,go_sem]
 refine an fun fr ec L=>?_;have ed:=aL.cons L c0;try simp only[ak] at L
 try simp (maxSteps:=10000000) only[*,go_sem]
 refine aO hJ _ (pG bc.1 (o.mono aN) ([11,12,13,14]) ((ax.flat (r:=rI) (e:=3) (cs:=#[.int .i64 11,.int .i64 12,.int .i64 13,.int .i64 14]) (fun x=>[.int .i64 x]) ([11,12,13,14]) (fun _=>rfl) ec rfl (by simp)).mono (jy (by simp (maxSteps:=10000000) only[*,go_sem]))) eb) ⟨by simp (maxSteps:=10000000) only[*,go_sem],bU ?_⟩
 revert h;refine cS (fun eh h=>?_) fun eh h=>?_
 ·cases h
 revert h;refine cS (fun et h=>?_) fun et h=>?_
 ·cases h
 revert h;refine bS fun fs ev h=>?_
 try simp (maxSteps:=10000000) only[*,go_sem]
 refine an fun ft eQ M=>?_;have fu:=aL.cons M ed;try simp only[ak] at M
 try simp (maxSteps:=10000000) only[*,go_sem]
 refine aO hJ _ (pG bm.1 (J.mono aN) ([11]) ((ax.flat (r:=rI) (e:=3) (cs:=#[.int .i64 11]) (fun x=>[.int .i64 x]) ([11]) (fun _=>rfl) eQ rfl (by simp)).mono (jy (by simp (maxSteps:=10000000) only[*,go_sem]))) ev) ⟨by simp (maxSteps:=10000000) only[*,go_sem],bU ?_⟩
 try simp (maxSteps:=10000000) only[*,go_sem]
 revert h;refine cS (fun eS h=>?_) fun eS h=>?_
 ·cases h
 refine b.go ?_;clear b K
 refine bI hJ (by simp (maxSteps:=10000000) only[*,go_sem]) ?_
 refine aD hJ ?_
 show Wp _ _ _ _ _
 exact cA hJ (Le.sub (.cons _ (.cons _ (.cons _ (.cons _ (.cons _ (.cons _ (.cons₂ _ (List.Sublist.refl _))))))))) (Jf hJ g q k l m n c d a i j f (by simp (maxSteps:=10000000) only[*,go_sem]) h)
set_option maxHeartbeats 40000000 in
theorem Jh {Φ:Goroutine->ag->Prop}(hJ:Closed Tryz.prog true (dP Tryz.prog Φ)){A:Act}{ro:Addr->Option Value}(c:aj)(g:aj)(G:(au×Int))(H:(Int×au×Int))(I:(au×Int))(J:(au×Bool×Int))(L:(au×Bool×Int))(M:(au×Bool×Int))(N:(Int×Int))(i:((List Int)×Int))(j:(au×au×Int)){k l:Nat}(d:cY ro){m:Value}(n:ax rI ro m i.1){o q r s:Value}(f:bt ro g o q r s){u w x z:Value}(b:bt ro c u w x z)(O:sz A=439/\A.defers=[]/\slot A 0= .bool false/\slot A 1= .pointer (some ⟨l,0,none⟩)/\slot A 2= .pointer (some ⟨k,0,none⟩)/\slot A 4= .int .i64 G.2/\slot A 7= .int .i64 H.2.2/\slot A 9= .int .i64 I.2/\slot A 12= .int .i64 J.2.2/\slot A 15= .int .i64 L.2.2/\slot A 18= .int .i64 M.2.2/\slot A 20= .int .i64 N.2/\slot A 21=m/\slot A 22= .int .i64 i.2/\slot A 25= .int .i64 j.2.2)(h:xz c g=some true):Wp (dP Tryz.prog Φ) (bu (bu (bu (bu (bu (bu (bu (bu (bu (bu (bu (bu (bu (bu (Tryz.f7.body.getD .skip))))))))))))))) (ir Tryz.prog [.tmp 0] (fun v _=>v= .bool true)) A ⟨ro,(k,bk g o q r s)::(l,bk c u w x z)::[]⟩:=by
 obtain ⟨P,hd,Q,k1,R,S,T,U,V,W,X,Y,Z,ab,ad⟩:=O
 obtain ⟨d45,b1,rfl,b2,b3,-⟩:=id f.e
 obtain ⟨d52,b4,rfl,b5,ca,-⟩:=id f.p
 obtain ⟨d59,cb,rfl,cd,cf,-⟩:=id f.y
 obtain ⟨d66,cl,rfl,cy,cS,-⟩:=id f.t
 obtain ⟨d8,c0,rfl,da,db,-⟩:=id b.e
 obtain ⟨d15,dd,rfl,df,dk,-⟩:=id b.p
 obtain ⟨d22,dp,rfl,dq,ds,-⟩:=id b.y
 obtain ⟨d29,dt,rfl,du,dv,-⟩:=id b.t
 unfold xz at h
 have ae:=f.oc;simp only[bw] at ae
 have al:=b.oc;simp only[bw] at al
 have ao:=n.oc;simp only[bw] at ao
 refine ez hJ fun B ar=>?_
 have a0:=B.nd
 try simp only[keys,List.map_cons,List.map_nil,List.map_append,List.cons_append,List.nil_append,List.nodup_cons,List.mem_cons,List.mem_append,List.not_mem_nil,or_false,not_or] at a0
 simp only[aU] at ar
 refine aa hJ (dZ hJ fun K a=>?_)
 revert h;refine bS fun a2 a3 h=>?_
 try simp (maxSteps:=10000000) only[*,go_sem]
 refine aO hJ _ (zI (d.mono aN) c (b.mono aN) 0 a3) (aE ?_)
 try simp (maxSteps:=10000000) only[*,go_sem]
 refine a.go ?_;clear a K
 refine aa hJ (dZ hJ fun K a=>?_)
 revert h;refine bS fun a4 a5 h=>?_
 try simp (maxSteps:=10000000) only[*,go_sem]
 refine aO hJ _ (zI (d.mono aN) c (b.mono aN) 1 a5) (aE ?_)
 try simp (maxSteps:=10000000) only[*,go_sem]
 refine a.go ?_;clear a K
 refine aa hJ (dZ hJ fun K a=>?_)
 revert h;refine bS fun a6 a7 h=>?_
 try simp (maxSteps:=10000000) only[*,go_sem]
 refine aO hJ _ (rY (d.mono aN) c (b.mono aN) a7) (aE ?_)
 try simp (maxSteps:=10000000) only[*,go_sem]
 refine a.go ?_;clear a K
 refine aa hJ (dZ hJ fun K a=>?_)
 revert h;refine bS fun a8 a9 h=>?_
 try simp (maxSteps:=10000000) only[*,go_sem]
 refine aO hJ _ (rY (d.mono aN) g (f.mono aN) a9) (aE ?_)
 try simp (maxSteps:=10000000) only[*,go_sem]
 refine a.go ?_;clear a K
 refine aa hJ (dZ hJ fun K a=>?_)
 revert h;refine bS fun ba bb h=>?_
 try simp (maxSteps:=10000000) only[*,go_sem]
 refine aO hJ _ (zM (d.mono aN) c (b.mono aN) bb) (aE ?_)
 try simp (maxSteps:=10000000) only[*,go_sem]
 refine an fun dC dE C=>?_;have bc:=aL.cons C B;try simp only[ak] at C
 try simp (maxSteps:=10000000) only[*,go_sem]
 refine a.go ?_;clear a K
 refine aa hJ ?_
 refine eM [0,1,2,4,7,9,12,15,18,20,21,22,25,26,27,28,29,30,31] fun dT bd bj bl=>?_
 simp only[*,go_sem] at bd bj bl
 clear P hd Q k1 R S T U V W X Y Z ab ad
 refine dZ hJ fun K a=>?_
 revert h;refine bS fun bm bo h=>?_
 try simp (maxSteps:=10000000) only[*,go_sem]
 refine aO hJ _ (zM (d.mono aN) g (f.mono aN) bo) (aE ?_)
 try simp (maxSteps:=10000000) only[*,go_sem]
 refine an fun ea eb D=>?_;have br:=aL.cons D bc;try simp only[ak] at D
 try simp (maxSteps:=10000000) only[*,go_sem]
 refine a.go ?_;clear a K
 refine aa hJ (dZ hJ fun K a=>?_)
 revert h;refine bS fun bs bz h=>?_
 try simp (maxSteps:=10000000) only[*,go_sem]
 refine aO hJ _ (E6 (d.mono aN) c (b.mono aN) bz) (aE ?_)
 try simp (maxSteps:=10000000) only[*,go_sem]
 refine an fun ec ed E=>?_;have b0:=aL.cons E br;try simp only[ak] at E
 refine an fun eh et F=>?_;have ev:=aL.cons F b0;try simp only[ak] at F
 try simp (maxSteps:=10000000) only[*,go_sem]
 refine a.go ?_;clear a K
 show Wp _ _ _ _ _
 exact cA hJ (Le.sub (.cons₂ _ (.cons₂ _ (.cons₂ _ (.cons₂ _ (.cons _ (.cons₂ _ (List.Sublist.refl _)))))))) (Jg hJ c i j a2 a4 a6 a8 ba bm bs d n b (by simp (maxSteps:=10000000) only[*,go_sem]) h)
set_option maxHeartbeats 40000000 in
theorem Ji {Φ:Goroutine->ag->Prop}(hJ:Closed Tryz.prog true (dP Tryz.prog Φ)){A:Act}{ro:Addr->Option Value}(b:aj)(n:aj)(i:(au×Int))(c:(Int×au×Int))(j:(au×Int))(d:(au×Bool×Int))(f:(au×Bool×Int))(g:(au×Bool×Int)){q s t u w y z B:Nat}(m:cY ro){C D E G:Value}(p:bt ro n C D E G){H I J L:Value}(k:bt ro b H I J L)(T:sz A=439/\A.defers=[]/\slot A 0= .bool false/\slot A 1= .pointer (some ⟨B,0,none⟩)/\slot A 2= .pointer (some ⟨z,0,none⟩)/\slot A 3= .pointer (some ⟨y,0,none⟩)/\slot A 4= .int .i64 i.2/\slot A 5= .int .i64 c.1/\slot A 6= .pointer (some ⟨w,0,none⟩)/\slot A 7= .int .i64 c.2.2/\slot A 8= .pointer (some ⟨u,0,none⟩)/\slot A 9= .int .i64 j.2/\slot A 10= .pointer (some ⟨t,0,none⟩)/\slot A 11= .bool d.2.1/\slot A 12= .int .i64 d.2.2/\slot A 13= .pointer (some ⟨s,0,none⟩)/\slot A 14= .bool f.2.1/\slot A 15= .int .i64 f.2.2/\slot A 16= .pointer (some ⟨q,0,none⟩)/\slot A 17= .bool g.2.1/\slot A 18= .int .i64 g.2.2)(h:xA b n i c j d f g=some true):Wp (dP Tryz.prog Φ) (bu (bu (bu (bu (bu (bu (bu (bu (bu (Tryz.f7.body.getD .skip)))))))))) (ir Tryz.prog [.tmp 0] (fun v _=>v= .bool true)) A ⟨ro,(q,rt g.1.num g.1.den)::(s,rt f.1.num f.1.den)::(t,rt d.1.num d.1.den)::(u,rt j.1.num j.1.den)::(w,rt c.2.1.num c.2.1.den)::(y,rt i.1.num i.1.den)::(z,bk n C D E G)::(B,bk b H I J L)::[]⟩:=by
 obtain ⟨U,hd,V,k1,W,X,Y,Z,ab,ad,ae,al,ao,ar,a0,a2,a3,a4,a5,a6,a7⟩:=T
 unfold xA at h
 have a8:=p.oc;simp only[bw] at a8
 have a9:=k.oc;simp only[bw] at a9
 refine ez hJ fun O ba=>?_
 have bb:=O.nd
 try simp only[keys,List.map_cons,List.map_nil,List.map_append,List.cons_append,List.nil_append,List.nodup_cons,List.mem_cons,List.mem_append,List.not_mem_nil,or_false,not_or] at bb
 simp only[aU] at ba
 refine aa hJ (dZ hJ fun K a=>?_)
 revert h;refine bS fun bc bd h=>?_
 try simp (maxSteps:=10000000) only[*,go_sem]
 refine aO hJ _ (Fa (m.mono aN) b (k.mono aN) bd) (aE ?_)
 try simp (maxSteps:=10000000) only[*,go_sem]
 refine a.go ?_;clear a K
 refine aa hJ (dZ hJ fun K a=>?_)
 revert h;refine bS fun P bj h=>?_
 try simp (maxSteps:=10000000) only[*,go_sem]
 refine bN hJ _ (vE m b k 0 bj) fun v bl M bm bo=>?_
 obtain ⟨e3,rfl,N⟩:=bo
 have br:=N.oc;simp only[bw] at br
 replace k:=k.mono M
 replace p:=p.mono M
 replace m:=m.mono M
 simp only[aU] at bm
 refine aE ?_
 try simp (maxSteps:=10000000) only[*,go_sem]
 refine a.go ?_;clear a K
 refine aa hJ (dZ hJ fun K a=>?_)
 revert h;refine bS fun o bs h=>?_
 try simp (maxSteps:=10000000) only[*,go_sem]
 refine aO hJ _ (E7 (m.mono aN) b (k.mono aN) 0 bs) (aE ?_)
 try simp (maxSteps:=10000000) only[*,go_sem]
 refine an fun bz fa Q=>?_;have b0:=aL.cons Q O;try simp only[ak] at Q
 refine an fun b1 fb R=>?_;have fg:=aL.cons R b0;try simp only[ak] at R
 try simp (maxSteps:=10000000) only[*,go_sem]
 refine a.go ?_;clear a K
 refine aa hJ (aa hJ (dZ hJ fun K a=>?_))
 revert h;refine cS (fun b2 h=>?_) fun b2 h=>?_
 ·cases h
 revert h;refine cS (fun b3 h=>?_) fun b3 h=>?_
 ·cases h
 revert h;refine cS (fun b4 h=>?_) fun b4 h=>?_
 ·cases h
 revert h;refine cS (fun b5 h=>?_) fun b5 h=>?_
 ·cases h
 revert h;refine cS (fun ca h=>?_) fun ca h=>?_
 ·cases h
 revert h;refine cS (fun cb h=>?_) fun cb h=>?_
 ·cases h
 revert h;refine cS (fun cd h=>?_) fun cd h=>?_
 ·cases h
 revert h;refine cS (fun cf h=>?_) fun cf h=>?_
 ·cases h
 try simp (maxSteps:=10000000) only[*,go_sem]
 revert h;refine cS (fun cl h=>?_) fun cl h=>?_
 ·cases h
 refine a.go ?_;clear a K
 refine bI hJ (by simp (maxSteps:=10000000) only[*,go_sem]) ?_
 refine aD hJ (aa hJ ?_)
 refine aa hJ ?_
 refine eM [0,1,2,3,4,5,6,7,8,9,10,11,12,13,14,15,16,17,18,19,20,21,22,23,24,25] fun fi cy c0 da=>?_
 simp only[*,go_sem] at cy c0 da
 clear U hd V k1 W X Y Z ab ad ae al ao ar a0 a2 a3 a4 a5 a6 a7
 refine aH hJ fun db=>?_
 refine jF hJ mixed [] (.rd 0 (.rd 1 (.pure 2 (.pure 3 (.pure 4 (.pure 5 (.pure 6 (.pure 7 (.rd 8 (.rd 9 (.pure 10 (.pure 11 (.pure 12 (.rd 13 (.rd 14 (.pure 15 (.pure 16 (.pure 17 (.rd 18 (.rd 19 (.pure 20 (.pure 21 (.pure 22 (.pure 23 (.pure 24 (.pure 25 (.pure 26 (.rd 27 (.rd 28 (.pure 29 (.pure 30 (.pure 31 (.pure 32 (.pure 33 (.pure 34 (.rd 35 (.rd 36 (.pure 37 (.pure 38 (.pure 39 (.pure 40 (.pure 41 (.pure 42 (.pure 43 (.pure 44 (.pure 45 (.pure 46 (.pure 47 (.pure 48 (.one 49 (.one 50 (.pure 51 (.pure 52 (.pure 53 (.rd 54 (.rd 55 (.pure 56 (.pure 57 (.pure 58 (.rd 59 (.rd 60 (.pure 61 (.pure 62 .done))))))))))))))))))))))))))))))))))))))))))))))))))))))))))))))) ⟨bl,[(b1,rt o.2.1.num o.2.1.den),(bz,rt o.1.num o.1.den),(q,rt g.1.num g.1.den),(s,rt f.1.num f.1.den),(t,rt d.1.num d.1.den),(u,rt j.1.num j.1.den),(w,rt c.2.1.num c.2.1.den),(y,rt i.1.num i.1.den),(z,bk n C D E G),(B,bk b H I J L)]⟩ (by simp (maxSteps:=10000000) only[*,go_sem]) (by kernel_rfl) fun K a=>?_
 revert h;refine bS fun fp dd h=>?_
 try simp (maxSteps:=10000000) only[*,go_sem]
 refine ⟨_,bB hJ fun F l=>gA 13 4 dd,bU ?_⟩
 revert h;refine cS (fun df h=>?_) fun df h=>?_
 ·cases h
 revert h;refine cS (fun dk h=>?_) fun dk h=>?_
 ·cases h
 revert h;refine bS fun fr dp h=>?_
 try simp (maxSteps:=10000000) only[*,go_sem]
 refine ⟨_,bB hJ fun F l=>gA 11 8 dp,bU ?_⟩
 revert h;refine cS (fun dq h=>?_) fun dq h=>?_
 ·cases h
 revert h;refine bS fun fs ds h=>?_
 try simp (maxSteps:=10000000) only[*,go_sem]
 refine ⟨_,bB hJ fun F l=>gA 1 4 ds,bU ?_⟩
 revert h;refine cS (fun dt h=>?_) fun dt h=>?_
 ·cases h
 revert h;refine bS fun ft du h=>?_
 try simp (maxSteps:=10000000) only[*,go_sem]
 refine ⟨_,bB hJ fun F l=>gA 24 13 du,bU ?_⟩
 revert h;refine cS (fun dv h=>?_) fun dv h=>?_
 ·cases h
 revert h;refine cS (fun dC h=>?_) fun dC h=>?_
 ·cases h
 revert h;refine bS fun fu dE h=>?_
 try simp (maxSteps:=10000000) only[*,go_sem]
 refine ⟨_,bB hJ fun F l=>gA 2 13 dE,bU ?_⟩
 revert h;refine cS (fun dT h=>?_) fun dT h=>?_
 ·cases h
 revert h;refine cS (fun ea h=>?_) fun ea h=>?_
 ·cases h
 revert h;refine bS fun fv eb h=>?_
 try simp (maxSteps:=10000000) only[*,go_sem]
 refine ⟨_,bB hJ fun F l=>gA 1 1 eb,bU ?_⟩
 revert h;refine cS (fun ec h=>?_) fun ec h=>?_
 ·cases h
 revert h;refine cS (fun ed h=>?_) fun ed h=>?_
 ·cases h
 revert h;refine cS (fun eh h=>?_) fun eh h=>?_
 ·cases h
 revert h;refine bS fun fw et h=>?_
 try simp (maxSteps:=10000000) only[*,go_sem]
 refine an fun fx ev S=>?_;have gg:=aL.cons S db;try simp only[ak] at S
 try simp (maxSteps:=10000000) only[*,go_sem]
 refine aO hJ _ (pG P.1 (N.mono aN) ([10,11,12]) ((ax.flat (r:=rI) (e:=3) (cs:=#[.int .i64 10,.int .i64 11,.int .i64 12]) (fun x=>[.int .i64 x]) ([10,11,12]) (fun _=>rfl) ev rfl (by simp)).mono (jy (by simp (maxSteps:=10000000) only[*,go_sem]))) et) ⟨by simp (maxSteps:=10000000) only[*,go_sem],bU ?_⟩
 revert h;refine cS (fun eQ h=>?_) fun eQ h=>?_
 ·cases h
 revert h;refine bS fun gl eS h=>?_
 try simp (maxSteps:=10000000) only[*,go_sem]
 refine ⟨_,bB hJ fun F l=>gA 1 4 eS,bU ?_⟩
 revert h;refine cS (fun e0 h=>?_) fun e0 h=>?_
 ·cases h
 revert h;refine bS fun gn e1 h=>?_
 try simp (maxSteps:=10000000) only[*,go_sem]
 refine ⟨_,bB hJ fun F l=>gA 1 1 e1,bU ?_⟩
 try simp (maxSteps:=10000000) only[*,go_sem]
 revert h;refine cS (fun e2 h=>?_) fun e2 h=>?_
 ·cases h
 refine a.go ?_;clear a K
 refine bI hJ (by simp (maxSteps:=10000000) only[*,go_sem]) ?_
 refine aD hJ ?_
 show Wp _ _ _ _ _
 exact cA hJ (Le.sub (.cons _ (.cons _ (.cons _ (.cons _ (.cons _ (.cons _ (.cons _ (.cons _ (.cons _ (.cons₂ _ (.cons₂ _ (List.Sublist.refl _))))))))))))) (Jh hJ b n i c j d f g bc P o m N p k (by simp (maxSteps:=10000000) only[*,go_sem]) h)
set_option maxHeartbeats 40000000 in
theorem Jj {ro:Addr->Option Value}(d:cY ro){r:Bool}(I:r=true)(h:om=some r):e9 Tryz.prog 7 #[] ⟨ro,[]⟩ (fun v _=>v= .bool r):=by
 subst I
 unfold om at h
 refine e9.go Tryz.func7 rfl Tryz.ntmps7 Tryz.results7 (by simp) fun Φ hJ A J hd hs=>?_
 clear hs
 refine aa hJ (dZ hJ fun K a=>?_)
 try simp (maxSteps:=10000000) only[*,go_sem]
 refine a.go ?_;clear a K
 refine aa hJ (dZ hJ fun K a=>?_)
 revert h;refine bS fun g L h=>?_
 try simp (maxSteps:=10000000) only[*,go_sem]
 refine bN hJ _ (Fi L) fun v n M b5 k=>?_
 obtain ⟨N,O,P,Q,rfl,f⟩:=k
 have R:=f.oc;simp only[bw] at R
 replace d:=d.mono M
 refine aE ?_
 try simp (maxSteps:=10000000) only[*,go_sem]
 refine an fun S T U=>?_;try simp only[ak] at U
 try simp (maxSteps:=10000000) only[*,go_sem]
 refine a.go ?_;clear a K
 refine aa hJ ?_
 refine aH hJ fun V=>?_
 refine dZ hJ fun K a=>?_
 revert h;refine bS fun l W h=>?_
 try simp (maxSteps:=10000000) only[*,go_sem]
 refine an fun i p q=>?_;have s:=aL.cons q V;try simp only[ak] at q
 try simp (maxSteps:=10000000) only[*,go_sem]
 obtain ⟨m,t,u⟩:=fc (b:=i) (o:=(ic 11)) [] ((S,bk g N O P Q)::[]) s p (az.cons T (az.nil _))
 have w:ax rI (bO n i (ic 11)) (.slice (some ⟨i,0,none⟩) 1 1) [11]:=(ax.flat (r:=rI) (e:=3) (cs:=#[.int .i64 11]) (fun x=>[.int .i64 x]) ([11]) (fun _=>rfl) p rfl (by simp))
 generalize bO n i (ic 11)=ca at w t m u
 refine gk hJ u ?_
 replace f:=f.mono m
 replace d:=d.mono m
 simp only[aU] at t
 have X:=aL.tl s
 refine bN hJ _ (Ff g f ([11]) w 2 W) fun v cb y Y k=>?_
 obtain ⟨cd,cf,cl,cy,rfl,j⟩:=k
 have Z:=j.oc;simp only[bw] at Z
 replace f:=f.mono y
 replace d:=d.mono y
 simp only[aU] at Y
 refine aE ?_
 try simp (maxSteps:=10000000) only[*,go_sem]
 refine an fun cS c0 z=>?_;have ab:=aL.cons z X;try simp only[ak] at z
 try simp (maxSteps:=10000000) only[*,go_sem]
 refine a.go ?_;clear a K
 refine aa hJ (dZ hJ fun K a=>?_)
 revert h;refine bS fun ad ae h=>?_
 try simp (maxSteps:=10000000) only[*,go_sem]
 refine aO hJ _ (EK (d.mono aN) g (f.mono aN) 5 ae) (aE ?_)
 try simp (maxSteps:=10000000) only[*,go_sem]
 refine an fun da db B=>?_;have al:=aL.cons B ab;try simp only[ak] at B
 try simp (maxSteps:=10000000) only[*,go_sem]
 refine a.go ?_;clear a K
 refine aa hJ ?_
 refine oZ hJ mixed 7 3 (by simp (maxSteps:=10000000) only[*,go_sem]) (by kernel_rfl) fun K a=>?_
 revert h;refine bS fun ao ar h=>?_
 try simp (maxSteps:=10000000) only[*,go_sem]
 refine ⟨_,bB hJ fun F c=>pR 2 11 ar,cc ?_⟩
 revert h;refine bS fun a0 a2 h=>?_
 try simp (maxSteps:=10000000) only[*,go_sem]
 refine ⟨_,bB hJ fun F c=>EL (d.mono (bQ c)) g (f.mono (bQ c)) ao a2,cc ?_⟩
 try simp (maxSteps:=10000000) only[*,go_sem]
 refine an fun dd df C=>?_;have a3:=aL.cons C al;try simp only[ak] at C
 try simp (maxSteps:=10000000) only[*,go_sem]
 refine a.go ?_;clear a K
 refine aa hJ ?_
 refine oZ hJ mixed 6 4 (by simp (maxSteps:=10000000) only[*,go_sem]) (by kernel_rfl) fun K a=>?_
 revert h;refine bS fun a4 a5 h=>?_
 try simp (maxSteps:=10000000) only[*,go_sem]
 refine ⟨_,bB hJ fun F c=>pR 2 10 a5,cc ?_⟩
 revert h;refine bS fun a6 a7 h=>?_
 try simp (maxSteps:=10000000) only[*,go_sem]
 refine ⟨_,bB hJ fun F c=>EM (d.mono (bQ c)) g (f.mono (bQ c)) a4 a7,cc ?_⟩
 try simp (maxSteps:=10000000) only[*,go_sem]
 refine an fun dk dp D=>?_;have a8:=aL.cons D a3;try simp only[ak] at D
 try simp (maxSteps:=10000000) only[*,go_sem]
 refine a.go ?_;clear a K
 refine aa hJ ?_
 refine eM [0,1,2,3,4,5,6,7,8,9] fun dq a9 ba bb=>?_
 simp only[*,go_sem] at a9 ba bb
 clear J hd
 refine oZ hJ mixed 7 5 (by simp (maxSteps:=10000000) only[*,go_sem]) (by kernel_rfl) fun K a=>?_
 revert h;refine bS fun bc bd h=>?_
 try simp (maxSteps:=10000000) only[*,go_sem]
 refine ⟨_,bB hJ fun F c=>pR 2 12 bd,cc ?_⟩
 revert h;refine bS fun bj bl h=>?_
 try simp (maxSteps:=10000000) only[*,go_sem]
 refine ⟨_,bB hJ fun F c=>EN (d.mono (bQ c)) l (j.mono (bQ c)) bc bl,cc ?_⟩
 try simp (maxSteps:=10000000) only[*,go_sem]
 refine an fun ds dt E=>?_;have bm:=aL.cons E a8;try simp only[ak] at E
 try simp (maxSteps:=10000000) only[*,go_sem]
 refine a.go ?_;clear a K
 refine aa hJ ?_
 refine oZ hJ mixed 7 6 (by simp (maxSteps:=10000000) only[*,go_sem]) (by kernel_rfl) fun K a=>?_
 revert h;refine bS fun bo br h=>?_
 try simp (maxSteps:=10000000) only[*,go_sem]
 refine ⟨_,bB hJ fun F c=>pR 2 12 br,cc ?_⟩
 revert h;refine bS fun bs bz h=>?_
 try simp (maxSteps:=10000000) only[*,go_sem]
 refine ⟨_,bB hJ fun F c=>zD (d.mono (bQ c)) l (j.mono (bQ c)) bo bz,cc ?_⟩
 try simp (maxSteps:=10000000) only[*,go_sem]
 refine an fun du dv G=>?_;have b0:=aL.cons G bm;try simp only[ak] at G
 try simp (maxSteps:=10000000) only[*,go_sem]
 refine a.go ?_;clear a K
 refine aa hJ ?_
 refine oZ hJ mixed 7 7 (by simp (maxSteps:=10000000) only[*,go_sem]) (by kernel_rfl) fun K a=>?_
 revert h;refine bS fun b1 b2 h=>?_
 try simp (maxSteps:=10000000) only[*,go_sem]
 refine ⟨_,bB hJ fun F c=>pR 2 12 b2,cc ?_⟩
 revert h;refine bS fun b3 b4 h=>?_
 try simp (maxSteps:=10000000) only[*,go_sem]
 refine ⟨_,bB hJ fun F c=>zD (d.mono (bQ c)) g (f.mono (bQ c)) b1 b4,cc ?_⟩
 try simp (maxSteps:=10000000) only[*,go_sem]
 refine an fun dC dE H=>?_;have dT:=aL.cons H b0;try simp only[ak] at H
 try simp (maxSteps:=10000000) only[*,go_sem]
 refine a.go ?_;clear a K
 show Wp _ _ _ _ _
 exact cA hJ (Le.sub (.cons₂ _ (.cons₂ _ (.cons₂ _ (.cons₂ _ (.cons₂ _ (.cons₂ _ (.cons₂ _ (.cons₂ _ (List.Sublist.refl _)))))))))) (Ji hJ g l ad a0 a6 bj bs b3 d j f (by simp (maxSteps:=10000000) only[*,go_sem]) h)
theorem B6 {ro:Addr->Option Value}(a:cY ro){r:Bool}(h:om=some r):e9 Tryz.prog 7 #[] ⟨ro,[]⟩ (fun v _=>v= .bool r):=
 Jj a (Option.some.inj (h.symm.trans xB)) h
end Go.Proofs.YtipgiooobncfbaaGreatDoor
end

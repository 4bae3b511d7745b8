/- A part of the proof of a row and its tied card: QJ9. -/
import Derived.Test.YtpgcmoanfifglaaGreatDoorQJ8
import Derived.Conc.AtomicLaws2
import Derived.Conc.WgArith
set_option linter.all false
section
namespace Go.Sep
open Go Go.Conc
open Go.ConcN (sumTo upd upd_ne upd_same)
open Go.ConcM (MuAt muA msA muBlock OsLater)
open Go.ConcR (WgAt wgBlock stA smA)
section
variable {c : Cy} {i : Nat} {ph : Ph} {ops : Array Oper} {j n : Nat} {Q : Act → aa → Ph → Prop} {a : Act} {F : aa} {f fi : FuncId} {d : Option Tmp}
theorem dF {s:Sh}:s.ms<=s.ms/\s.ws<=s.ws:=⟨Int.le_refl _,Int.le_refl _⟩
theorem x9 (g:Entry c.P f (fun _=>do mark .disable;pure Extern.Race.none_)){vals:List Value}(l:At ops j a f vals d)(h1:ph.gp≠ .gone)(m:ph.gp≠ .new)
  (h:ai (WJ c i) fi ops (j+1) n Q (aZ a d (.tuple #[])) F {ph with deaf:=ph.deaf+1}):ai (WJ c i) fi ops j (n+1) Q a F ph:=by
 obtain ⟨o,cw,dg,e,hg,p,_,rfl⟩:=l
 refine fq e h1 fun w s k φ p0 _ hs hi he q=>.inr ⟨.tuple #[],w,_,s,_,fun b r cs hb=>?_,hs,.refl _ _,q.CO hi he m _,Js,.inr dF,h⟩
 obtain ⟨fn,f1,f2,f3,f4,f5⟩:=g.ex
 exact stepG_mark0 .disable (by simp) e (b9 hg) hb.kind p f1 f2 f3 f4 f5
theorem tA (l:Entry c.P f (fun _=>do mark .enable;pure Extern.Race.none_)){vals:List Value}(m:At ops j a f vals d)(h1:ph.gp≠ .gone)(p:ph.gp≠ .new){e:Nat}(hd:ph.deaf=e+1)
  (h:ai (WJ c i) fi ops (j+1) n Q (aZ a d (.tuple #[])) F {ph with deaf:=e}):ai (WJ c i) fi ops j (n+1) Q a F ph:=by
 obtain ⟨o,cw,dg,g,hg,q,_,rfl⟩:=m
 refine fq g h1 fun w s k φ p0 _ hs hi he r=>.inr ⟨.tuple #[],w,_,s,_,fun b t cs hb=>?_,hs,.refl _ _,r.CO hi he p _,Jt hd,.inr dF,h⟩
 obtain ⟨fn,f1,f2,f3,f4,f5⟩:=l.ex
 exact stepG_mark0 .enable (by simp) g (b9 hg) hb.kind q f1 f2 f3 f4 f5
theorem ow {k:Nat}{φ:Nat->Ph}{p0:P0}{s:Sh}(he:φ i=ph)(a:Inv c.n c.bs k φ p0 s):Inv c.n c.bs k (upd φ i ph) p0 s:=by rw[<-he,x4];exact a
theorem CP (g:Entry c.P f (Extern.Race.marked .acquire))(l:At ops j a f [.pointer (some (muA c.Mu))] d)(h1:ph.gp= .cnt)
  (h:ai (WJ c i) fi ops (j+1) n Q (aZ a d (.tuple #[])) F ph):ai (WJ c i) fi ops j (n+1) Q a F ph:=by
 obtain ⟨o,cw,dg,e,hg,m,p,rfl⟩:=l
 obtain ⟨x,rfl,q⟩:=jN p
 refine fq e (by rw[h1];simp) fun w s k φ p0 _ hs hi he r=>.inr ⟨.tuple #[],w,_,s,ph,fun b t cs hb=>?_,hs,.refl _ _,ow he r,.word (.acquire (muA c.Mu)) rfl (.inl rfl) rfl ⟨h1,h1⟩,.inr dF,h⟩
 obtain ⟨fn,f1,f2,f3,f4,f5⟩:=g.ex
 exact stepG_markAt .acquire (by simp) e (b9 hg) hb.kind m f1 f2 f3 f4 f5 (by simp[ep,q])
theorem Ju (g:Entry c.P f (Extern.Race.marked .releaseMerge))(l:At ops j a f [.pointer (some (muA c.Mu))] d)(h1:ph.gp= .cnt)
  (h:ai (WJ c i) fi ops (j+1) n Q (aZ a d (.tuple #[])) F ph):ai (WJ c i) fi ops j (n+1) Q a F ph:=by
 obtain ⟨o,cw,dg,e,hg,m,p,rfl⟩:=l
 obtain ⟨x,rfl,q⟩:=jN p
 refine fq e (by rw[h1];simp) fun w s k φ p0 _ hs hi he r=>.inr ⟨.tuple #[],w,_,s,ph,fun b t cs hb=>?_,hs,.refl _ _,ow he r,.word (.releaseMerge (muA c.Mu)) rfl (.inr rfl) rfl ⟨h1,h1⟩,.inr dF,h⟩
 obtain ⟨fn,f1,f2,f3,f4,f5⟩:=g.ex
 exact stepG_markAt .releaseMerge (by simp) e (b9 hg) hb.kind m f1 f2 f3 f4 f5 (by simp[ep,q])
theorem Jv (p:Entry c.P f (Extern.Race.marked .releaseMerge))(q:At ops j a f [.pointer (some (stA c.Wg))] d)(h1:ph.gp= .cnt)
  (hd:ph.deaf=0) (r:ph.mp= .idle\/ph.mp= .fin) (t:ph.stored=c.bs i)
  (h:ai (WJ c i) fi ops (j+1) n Q (aZ a d (.tuple #[])) F {mp:=.fin,gp:=.rel,stored:=ph.stored,deaf:=0}):ai (WJ c i) fi ops j (n+1) Q a F ph:=by
 obtain ⟨o,cw,dg,l,hg,u,v,rfl⟩:=q
 obtain ⟨x,rfl,y⟩:=jN v
 refine fq l (by rw[h1];simp) fun w s k φ p0 _ hs hi he g=>.inr ⟨.tuple #[],w,_,s,{mp:=.fin,gp:=.rel,stored:=ph.stored,deaf:=0},fun b z cs hb=>?_,hs,.refl _ _,?_,.rel rfl ⟨hd,rfl⟩ h1,.inr dF,h⟩
 ·obtain ⟨fn,f1,f2,f3,f4,f5⟩:=p.ex
  exact stepG_markAt .releaseMerge (by simp) l (b9 hg) hb.kind u f1 f2 f3 f4 f5 (by simp[ep,y])
 ·obtain ⟨C,S,W,L,m,hm⟩:=g.m
  refine g.jK hi he (by rw[h1];simp) (by simp) ⟨C,S,W,L,m,mS hm hi _ ?_⟩ (tf g.w hi _ (.inr ⟨by rw[he];exact h1,rfl⟩)) ?_ (fun _=>⟨t,rfl⟩)
  ·rw[he];rcases r with e|e
   ·exact .inr ⟨e,rfl⟩
   ·exact .inl e.symm
  ·have:=g.i.all i hi
   rw[he] at this
   exact (x8 this).symm
theorem tB (old nw:Int)(G:Entry c.P f (Extern.Atomic.casT (.int .i32)))(aF:c.Mu≠c.Wg/\c.Mu≠c.Is/\c.Wg≠c.Is)(H:At ops j a f [.pointer (some (muA c.Mu)),.int .i32 old,.int .i32 nw] d)
  (h1:ph.gp= .cnt) (h0:0<ph.deaf)
  (I:∀φ ms C S W L m,φ i=ph->i<c.n->cm c.n φ old ms C S W L m->∃mp,(∃e g h l p,cm c.n (upd φ i {ph with mp:=mp}) nw ms e g h l p)/\ai (WJ c i) fi ops (j+1) n Q (aZ a d (.bool true)) F {ph with mp:=mp})
  (J:∀φ mu ms C S W L m,φ i=ph->i<c.n->cm c.n φ mu ms C S W L m->mu≠old->∃mp,(∃e g h l p,cm c.n (upd φ i {ph with mp:=mp}) mu ms e g h l p)/\ai (WJ c i) fi ops (j+1) n Q (aZ a d (.bool false)) F {ph with mp:=mp}):ai (WJ c i) fi ops j (n+1) Q a F ph:=by
 obtain ⟨o,cw,dg,q,hg,A,K,rfl⟩:=H
 obtain ⟨x,y,z,rfl,B,D,E⟩:=qz K
 obtain ⟨fn,f1,f2,f3,f4,f5⟩:=G.ex
 refine fq q (by rw[h1];simp) fun w s k φ p0 _ hs hi he r=>.inr ?_
 obtain ⟨C,S,W,L,m,hm⟩:=r.m
 by_cases t:s.mu=old
 ·subst t
  obtain ⟨mp,u,v⟩:=I φ s.ms C S W L m he hi hm
  exact ⟨.bool true,_,_,{s with mu:=nw},{ph with mp:=mp},fun b M cs hb=>stepG_cas_hit q (b9 hg) hb.kind A f1 f2 f3 f4 .i32 f5 B D E hs.mu.1 hs.mu.2,hs.CL aF nw,.set _ (.inl rfl),r.mutex hi he h1 u,x6 rfl Iff.rfl h0 (.inr ⟨rfl,h1⟩),.inr dF,v⟩
 ·obtain ⟨mp,u,v⟩:=J φ s.mu s.ms C S W L m he hi hm t
  exact ⟨.bool false,_,_,{s with mu:=s.mu},{ph with mp:=mp},fun b M cs hb=>stepG_cas_miss q (b9 hg) hb.kind A f1 f2 f3 f4 .i32 f5 B D E hs.mu.1 hs.mu.2 t,hs,.refl _ _,r.mutex hi he h1 u,x5 false rfl Iff.rfl h0 (.inr ⟨rfl,h1⟩),.inr dF,v⟩
theorem ya (dl:Int)(p:Entry c.P f (Extern.Atomic.update (Op.intArith .add) .i32 true))(aF:c.Mu≠c.Wg/\c.Mu≠c.Is/\c.Wg≠c.Is)(q:At ops j a f [.pointer (some (muA c.Mu)),.int .i32 dl] d)
  (h1:ph.gp= .cnt) (h0:0<ph.deaf)
  (h:∀φ mu ms C S W L m,φ i=ph->i<c.n->cm c.n φ mu ms C S W L m->∃mp nw,IntKind.i32.wrap (mu+dl)=nw/\(∃r t u v z,cm c.n (upd φ i {ph with mp:=mp}) nw ms r t u v z)/\ai (WJ c i) fi ops (j+1) n Q (aZ a d (.int .i32 nw)) F {ph with mp:=mp}):
  ai (WJ c i) fi ops j (n+1) Q a F ph:=by
 obtain ⟨o,cw,dg,g,hg,A,B,rfl⟩:=q
 obtain ⟨x,y,rfl,D,E⟩:=qy B
 obtain ⟨fn,f1,f2,f3,f4,f5⟩:=p.ex
 refine fq g (by rw[h1];simp) fun w s k φ p0 _ hs hi he l=>.inr ?_
 obtain ⟨C,S,W,L,m,hm⟩:=l.m
 obtain ⟨mp,nw,e,G,H⟩:=h φ s.mu s.ms C S W L m he hi hm
 exact ⟨.int .i32 nw,_,_,{s with mu:=nw},{ph with mp:=mp},fun b I cs hb=>by rw[<-e];exact stepG_add_atomic g (b9 hg) hb.kind A f1 f2 f3 f4 .i32 f5 D E hs.mu.1 hs.mu.2,by rw[<-e];exact hs.CL aF _,.set _ (.inl rfl),l.mutex hi he h1 G,x6 rfl Iff.rfl h0 (.inr ⟨rfl,h1⟩),.inr dF,H⟩
theorem oz {ty:TypeId}(l:(c.P.funcs[fi]?).any (·.norace)=true)(e:c.P.underlying ty=some (.int .i32)){x:Operand}(p:mU ops j a (.load ty x) d)(h1:ph.gp= .cnt)(q:ev a x= .pointer (some (muA c.Mu)))
  (h:∀φ mu ms C S W L m,φ i=ph->i<c.n->cm c.n φ mu ms C S W L m->∃mp,(∃r t u v y,cm c.n (upd φ i {ph with mp:=mp}) mu ms r t u v y)/\ai (WJ c i) fi ops (j+1) n Q (aZ a d (.int .i32 mu)) F {ph with mp:=mp}):
  ai (WJ c i) fi ops j (n+1) Q a F ph:=by
 obtain ⟨o,f,hg,z,rfl⟩:=p
 refine fq f (by rw[h1];simp) fun w s k φ p0 _ hs hi he g=>.inr ?_
 obtain ⟨C,S,W,L,m,hm⟩:=g.m
 obtain ⟨mp,A,B⟩:=h φ s.mu s.ms C S W L m he hi hm
 have e1:execOp a.eval o=(do pure (.value (<-loadVar ty (muA c.Mu))):Sem Next):=by
  unfold execOp
  simp only[z,ep,q]
  rfl
 have D:(execOp a.eval o).run c.P w= .ok (.value (.int .i32 s.mu)) w:=by
  rw[e1]
  have:=hs.mu.1
  simp[loadVar,isAgg,run_underlying e,this]
 have E:(execOp a.eval o).events c.P w #[]=#[⟨.cell (muA c.Mu),false,false⟩]:=by
  rw[e1]
  have:=hs.mu.1
  simp[loadVar,isAgg,run_underlying e,events_load,this]
 have G:seen c.P fi #[⟨.cell (muA c.Mu),false,false⟩]=#[]:=by rw[seen_def];simp[seenStep,l]
 refine ⟨.int .i32 s.mu,w,#[],{s with mu:=s.mu},{ph with mp:=mp},fun b H cs hb=>?_,hs,.refl _ _,g.mutex hi he h1 A,mV rfl Iff.rfl,.inr dF,B⟩
 rw[stepG_value f (b9 hg) hb.kind D]
 unfold listed
 rw[E,hb.fn,G]
end
section
variable {c : Cy} {i : Nat} {ph : Ph} {ops : Array Oper} {j n : Nat} {Q : Act → aa → Ph → Prop} {a : Act} {F : aa} {f fi : FuncId} {d : Option Tmp}
theorem Jw (r t:Value)(u:Entry c.P f Extern.Sync.semacquire)(aF:c.Mu≠c.Wg/\c.Mu≠c.Is/\c.Wg≠c.Is)(v:At ops j a f [.pointer (some (msA c.Mu)),r,t] d)
  (h1:ph.gp= .cnt) {G:Nat} (hm:ph.mp= .iA G) (h:ai (WJ c i) fi ops (j+1) n Q (aZ a d (.tuple #[])) F {ph with mp:=.jI G}):ai (WJ c i) fi ops j (n+1) Q a F ph:=by
 obtain ⟨o,cw,dg,e,hg,g,A,rfl⟩:=v
 obtain ⟨x,y,z,rfl,l,_,_⟩:=qz A
 obtain ⟨fn,f1,f2,f3,f4,f5⟩:=u.ex
 refine fq e (by rw[h1];simp) fun w s k φ p0 _ hs hi he p=>?_
 by_cases h0:s.ms=0
 ·refine .inl ⟨by rw[hm];rfl,h0,fun b B cs=>stepG_semacquire_wait e (b9 hg) g f1 f2 f3 f4 f5 (ad:=msA c.Mu) (by simp[ep,l]) (by rw[hs.ms.1,h0])⟩
 ·obtain ⟨C,S,W,L,m,q⟩:=p.m
  have D:=q.cnt
  refine .inr ⟨.tuple #[],_,_,{s with ms:=s.ms - 1},{ph with mp:=.jI G},fun b B cs hb=>stepG_semacquire e (b9 hg) hb.kind g f1 f2 f3 f4 f5 (by simp[ep,l]) hs.ms.1 h0 hs.ms.2,hs.CM aF _,.set _ (.inl rfl),
   p.mutex hi he h1 ⟨C,S,W,L,m - 1,IB q hi _ (by rw[he];exact hm) rfl (by omega)⟩,x7 rfl Iff.rfl (.inr ⟨rfl,h1⟩),.inr ⟨by simp only;omega,Int.le_refl _⟩,h⟩
theorem CQ (t u:Value)(l:Entry c.P f Extern.Sync.semrelease)(aF:c.Mu≠c.Wg/\c.Mu≠c.Is/\c.Wg≠c.Is)(v:At ops j a f [.pointer (some (msA c.Mu)),t,u] d)
  (h1:ph.gp= .cnt) (hm:ph.mp= .od\/ph.mp= .oe) (h:ai (WJ c i) fi ops (j+1) n Q (aZ a d (.tuple #[])) F {ph with mp:=.fin}):ai (WJ c i) fi ops j (n+1) Q a F ph:=by
 obtain ⟨o,cw,dg,p,hg,q,A,rfl⟩:=v
 obtain ⟨x,y,z,rfl,g,_,_⟩:=qz A
 obtain ⟨fn,f1,f2,f3,f4,f5⟩:=l.ex
 refine fq p (by rw[h1];simp) fun w s k φ p0 _ hs hi he r=>.inr ?_
 obtain ⟨C,S,W,L,m,e⟩:=r.m
 have D:=e.cnt
 have hb:=e.st.w
 have E:=e.st.s
 have G:m<=1:=by
  rcases Nat.lt_or_ge S 1 with y|y
  ·have:=e.norm (by omega);omega
  ·have:=e.fS (by omega);omega
 have B:IntKind.u32.wrap (s.ms+1)=s.ms+1:=by
  unfold IntKind.wrap
  simp[IntKind.bits,IntKind.signed]
  omega
 refine ⟨.tuple #[],_,_,{s with ms:=s.ms+1},{ph with mp:=.fin},fun b H cs hb=>stepG_semrelease p (b9 hg) hb.kind q f1 f2 f3 f4 f5 (by simp[ep,g]) hs.ms.1 hs.ms.2,by rw[B];exact hs.CM aF _,.set _ (.inl rfl),
  r.mutex hi he h1 ⟨C,S,W,L,m+1,II e hi _ (by rw[he];exact hm) rfl⟩,x7 rfl Iff.rfl (.inr ⟨rfl,h1⟩),.inl ⟨_,q,fun x g=>?_⟩,h⟩
 cases g
 exact ⟨f,rfl,l.CC⟩
theorem CR (l:Entry c.P f Extern.OsHooks.nano)(e:(c.P.funcs[f]?).any (·.norace)=true){vals:List Value}(m:At ops j a f vals d)
  (h1:ph.gp≠ .gone) (h:∀x:Int,ai (WJ c i) fi ops (j+1) n Q (aZ a d (.int .i64 x)) F ph):ai (WJ c i) fi ops j (n+1) Q a F ph:=by
 obtain ⟨o,cw,dg,g,hg,p,_,rfl⟩:=m
 obtain ⟨fn,f1,f2,f3,f4,f5⟩:=l.ex
 refine fq g h1 fun w s k φ p0 _ hs hi he q=>.inr ⟨_,w.later,#[],s,ph,fun b r cs hb=>stepG_nanotime g (b9 hg) hb.kind p f1 f2 f3 f4 f5 (by rw[f1] at e;simpa using e),hs,⟨rfl,rfl,rfl,⟨w.tick,rfl⟩,fun _ _=>rfl⟩,ow he q,mV rfl Iff.rfl,.inr dF,h _⟩
theorem Jx (it:Int)(m:Entry c.P f Extern.Sync.canSpin)(p:At ops j a f [.int .i64 it] d)
  (h1:ph.gp≠ .gone) (h:∀t:Bool,(t=true->it<4)->ai (WJ c i) fi ops (j+1) n Q (aZ a d (.bool t)) F ph):ai (WJ c i) fi ops j (n+1) Q a F ph:=by
 obtain ⟨o,cw,dg,e,hg,g,q,rfl⟩:=p
 obtain ⟨x,rfl,r⟩:=jN q
 obtain ⟨fn,f1,f2,f3,f4,f5⟩:=m.ex
 have hm:(#[x]:Array Operand).map a.eval=#[.int .i64 it]:=by simp[ep,r]
 refine fq e h1 fun w s k φ p0 _ hs hi he l=>.inr ?_
 by_cases u:4<=it
 ·exact ⟨_,w,#[],s,ph,fun b v cs hb=>stepG_canSpin_no e (b9 hg) hb.kind g f1 f2 f3 f4 f5 hm u,hs,.refl _ _,ow he l,mV rfl Iff.rfl,.inr dF,h false (by simp)⟩
 ·exact ⟨_,w.asked,#[],s,ph,fun b v cs hb=>stepG_canSpin_ask e (b9 hg) hb.kind g f1 f2 f3 f4 f5 hm (by omega),hs,⟨rfl,rfl,rfl,.refl _,fun _ _=>rfl⟩,ow he l,mV rfl Iff.rfl,.inr dF,h _ (fun _=>by omega)⟩
end
theorem ai.entry {P:Program}{main:Bool}{S:Type}{JF:S->Goroutine->aa->Prop}{fi f:FuncId}{ops:Array Oper}{j n:Nat}{Q:Act->aa->S->Prop}{a:Act}{F:aa}{ph:S}{d:Option Tmp}(v:Value)(e:dR P main (JF ph))(g:Entry P f (fun _=>pure v))
  {vals:List Value} (i:At ops j a f vals d) (h:ai JF fi ops (j+1) n Q (aZ a d v) F ph):ai JF fi ops j (n+1) Q a F ph:=fun b c cs hb k=>by
 obtain ⟨fn,f1,f2,f3,f4,f5⟩:=g.ex
 obtain ⟨o,cw,dg,l,hg,m,_,rfl⟩:=i
 rw[List.range'_succ,eA hb.round]
 refine e.move (fr':=b.at (a.put o.dst v) (.inRegion ops (List.range' (j+1) n)::c)) (fun w=>stepG_entry_pure v l (b9 hg) hb.kind m f1 f2 f3 f4 f5) (by rw[<-eA hb.round];exact h b c cs hb k)
section
variable {c : Cy} {i : Nat} {ph : Ph} {ops : Array Oper} {j n : Nat} {Q : Act → aa → Ph → Prop} {a : Act} {F : aa} {f fi : FuncId} {d : Option Tmp}
theorem tC (ad:Addr){src dst t:TypeId}(hs:c.P.underlying src=some (.pointer t))(hd:c.P.underlying dst=some .unsafePointer)(e:(c.P.info? t).map (fun i=>decide (i.size=0))=some false){x:Operand}
  (m:mU ops j a (.convert src dst x) d) (h1:ph.gp≠ .gone) (p:ev a x= .pointer (some ad)) (q:∀w s,cv c w s->∃v,w.cell? ad=some v) (h:ai (WJ c i) fi ops (j+1) n Q (aZ a d (.pointer (some ad))) F ph):ai (WJ c i) fi ops j (n+1) Q a F ph:=by
 obtain ⟨o,f,hg,r,rfl⟩:=m
 refine fq f h1 fun w s k φ p0 _ g hi he u=>.inr ⟨_,w,#[],s,ph,fun b A cs hb=>?_,g,.refl _ _,ow he u,mV rfl Iff.rfl,.inr dF,h⟩
 obtain ⟨v,l⟩:=q w s g
 have e1:execOp a.eval o=(do pure (.value (<-convert src dst (.pointer (some ad)))):Sem Next):=by
  unfold execOp
  simp only[r,ep,p]
 have y:(execOp a.eval o).run c.P w= .ok (.value (.pointer (some ad))) w:=by
  rw[e1];simp[run_convert_to_unsafe hs hd e l]
 have z:(execOp a.eval o).events c.P w #[]=#[]:=by
  rw[e1];simp[events_convert_to_unsafe hs hd e l]
 rw[stepG_value f (b9 hg) hb.kind y]
 unfold listed
 rw[z,seen_none]
theorem Jy {ty:TypeId}(I:c.P.underlying ty=some .bool)(v:bW c.P ty=some 1)(z:(c.P.funcs[fi]?).any (·.norace)=false)(aF:c.Mu≠c.Wg/\c.Mu≠c.Is/\c.Wg≠c.Is){x y:Operand}
  (A:mU ops j a (.store ty x y) d) (h1:ph.gp= .cnt) (f:ev a x= .pointer (some ⟨c.Is,i,none⟩)) (g:ev a y= .bool true) (h:ai (WJ c i) fi ops (j+1) n Q (aZ a d undef) F {ph with stored:=true}):ai (WJ c i) fi ops j (n+1) Q a F ph:=by
 obtain ⟨o,l,hg,p,rfl⟩:=A
 refine fq l (by rw[h1];simp) fun w s k φ p0 _ hs hi he e=>.inr ?_
 have hlen:=e.i.len
 have q:w.cell? ⟨c.Is,i,none⟩=some (.bool (s.is[i]'(by omega))):=by
  have:=hs.2.2
  simp[World.cell?,this,hlen,hi]
 have r:w.frozen? ⟨c.Is,i,none⟩=false:=by
  have:=hs.2.2
  simp[World.frozen?,this]
 have t:(sizeOf ty).run c.P w= .ok 1 w:=by
  obtain ⟨inf,h1,B⟩:=Option.map_eq_some_iff.1 v
  simp[Go.sizeOf,typeInfo,h1,B]
 have u:Instr.sureAddr (.pointer (some ⟨c.Is,i,none⟩))=(Pure.pure ⟨c.Is,i,none⟩:Sem Addr):=rfl
 have D:(execOp a.eval o).run c.P w= .ok .skip (w.setCell ⟨c.Is,i,none⟩ (.bool true)):=by
  unfold execOp
  simp only[p,ep,f,g]
  simp[Instr.storeAt,u,storeVar,t,Value.cells,storeCells,Addr.add,q,r,run_store c.P w ⟨c.Is,i,none⟩ (.bool true) .plain rfl,Result.andThen]
 have E:(execOp a.eval o).events c.P w #[]=#[⟨.cell ⟨c.Is,i,none⟩,true,false⟩]:=by
  unfold execOp
  simp only[p,ep,f,g]
  simp[Instr.storeAt,u,storeVar,t,Value.cells,storeCells,Addr.add,q,r,events_store c.P w _ ⟨c.Is,i,none⟩ (.bool true) .plain rfl,run_store c.P w ⟨c.Is,i,none⟩ (.bool true) .plain rfl,Result.evThen]
 have G:seen c.P fi #[⟨.cell ⟨c.Is,i,none⟩,true,false⟩]=#[⟨.cell ⟨c.Is,i,none⟩,true,false⟩]:=by rw[seen_def];simp[seenStep,z]
 obtain ⟨C,S,W,L,m,hm⟩:=e.m
 refine ⟨undef,_,_,{s with is:=s.is.set i true},{ph with stored:=true},fun b J cs hb=>?_,hs.Jr aF i true,.set _ (.inr (.inr rfl)),?_,.store rfl rfl ⟨h1,h1⟩,.inr dF,h⟩
 ·rw[stepG_none l (b9 hg) hb.kind D]
  unfold listed
  rw[E,hb.fn,G]
 ·exact e.jK hi he (by rw[h1];simp) (by simp[h1]) ⟨C,S,W,L,m,mS hm hi _ (.inl (by rw[he]))⟩ (tf e.w hi _ (.inl (by rw[he]))) rfl (fun H=>absurd h1 H)
end
theorem ai.shr {P:Program}{main:Bool}{S:Type}{JF:S->Goroutine->aa->Prop}{fi:FuncId}{ops:Array Oper}{j n:Nat}{Q:Act->aa->S->Prop}{a:Act}{F:aa}{ph:S}{d:Option Tmp}{t f:TypeId}{k b:IntKind}{u m:Int}(v:Int)(g:dR P main (JF ph)){x y:Operand}
  (i:mU ops j a (.binOp .shr t x y f) d) (l:ev a x= .int k u) (p:ev a y= .int b m) (hm:0<=m) (c:u.fdiv (2 ^ min m.toNat k.bits)=v) (h:ai JF fi ops (j+1) n Q (aZ a d (.int k v)) F ph):ai JF fi ops j (n+1) Q a F ph:=by
 obtain ⟨o,q,hg,r,rfl⟩:=i
 have e:¬m<0:=by omega
 have e1:execOp a.eval o=(do eqGuard .shr t x y (.int k u) (.int b m);pure (.value (<-binOp .shr t (.int k u) (.int b m))):Sem Next):=by
  unfold execOp
  simp only[r,ep,l,p]
  simp
 refine ai.plain g (.int k v) q hg (fun w=>?_) (fun w=>?_) h
 ·rw[e1];subst c;simp[eqGuard,binOp,Op.shift,e]
 ·rw[e1];subst c;simp[eqGuard,binOp,Op.shift,e]
theorem ai.mW {P:Program}{main:Bool}{S:Type}{JF:S->Goroutine->aa->Prop}{fi:FuncId}{ops:Array Oper}{j n:Nat}{Q:Act->aa->S->Prop}{a:Act}{F:aa}{ph:S}{d:Option Tmp}{t b:TypeId}(u v:Int)(c:dR P main (JF ph)){x y:Operand}
  (e:mU ops j a (.binOp .shr t x y b) d) (f:ev a x= .int .i32 u) (g:ev a y= .int .u64 3) (i:u.fdiv 8=v) (h:ai JF fi ops (j+1) n Q (aZ a d (.int .i32 v)) F ph):ai JF fi ops j (n+1) Q a F ph:=
 ai.shr v c e f g (by decide) i h
end Go.Sep
end
section
namespace Go.Proofs.YtpgcmoanfifglaaGreatDoor
open Go Go.Sep Go.Proofs Go.Conc
open Go.ConcN (upd upd_same)
open Go.ConcM (muA msA)
open Go.ConcR (stA smA)
set_option maxRecDepth 100000
set_option maxHeartbeats 4000000
attribute [local go_sem] Int.reduceBEq Int.reduceBNe muA msA stA smA
section
variable {Mu Wg Is n base T0 i : Nat} {bs : Nat → Bool} {st : Bool} {F : aa}
theorem yb (w:World)(s:Sh)(h:cv (CY Mu Wg Is n bs base T0) w s):∃v,w.cell? ⟨Mu,0,none⟩=some v:=⟨_,h.mu.1⟩
theorem Jz (aF:Mu≠Wg/\Mu≠Is/\Wg≠Is)
  (b:cB Tryz.prog (WJ (CY Mu Wg Is n bs base T0) i) 194 #[.pointer (some (muA Mu))] F ⟨.idle,.cnt,st,1⟩ (fun v F' aK=>v= .tuple #[]/\F'=F/\aK=⟨.held,.cnt,st,0⟩)):
  cB Tryz.prog (WJ (CY Mu Wg Is n bs base T0) i) 165 #[.pointer (some (muA Mu))] F ⟨.idle,.cnt,st,0⟩ (fun v F' aK=>v= .tuple #[]/\F'=F/\aK=⟨.held,.cnt,st,0⟩):=by
 have a:=WJ.ej (CY Mu Wg Is n bs base T0) i
 have hJ:∀ph:Ph,ph.gp= .cnt->Go.Sep.Closed Tryz.prog false (WJ (CY Mu Wg Is n bs base T0) i ph):=fun ph h=>Wk.closed (CY Mu Wg Is n bs base T0) i ph h
 refine cB.go (main:=false) a Tryz.func165 rfl Tryz.ntmps165 (by simp) fun A d hd hs=>?_
 have e:=hs 0
 clear hs
 repeat refine av (a _) ?_
 refine cW a ?_
 refine x9 qx ⟨_,_,_,rfl,(by first|rfl|simp only[*,go_sem]),rfl,by first|(simp only[*,go_sem];done)|(simp only[*,go_sem];rfl),rfl⟩ (by simp) (by simp) ?_
 refine ai.nil a ?_;try simp only[go_sem]
 repeat refine av (a _) ?_
 refine cW a ?_
 refine ai.bA (hJ _ rfl) 3 (n:=1) _ rfl rfl ?_;simp only[*,go_sem]
 refine tB 0 1 tu aF ⟨_,_,_,rfl,(by first|rfl|simp only[*,go_sem]),rfl,by first|(simp only[*,go_sem];done)|(simp only[*,go_sem];rfl),rfl⟩ (by rfl) (by simp) (fun φ ms C S W L m he hi hm=>⟨.held,⟨0,0,0,1,m,Iw hm hi _ (by rw[he]) rfl rfl⟩,?_⟩) (fun φ mu ms C S W L m he hi hm f=>⟨.idle,⟨C,S,W,L,m,mS hm hi _ (.inl (by rw[he]))⟩,?_⟩)
 ·refine ai.nil a ?_;try simp only[go_sem]
  repeat refine av (a _) ?_
  refine cV (a _) (by simp only[*,go_sem]) ?_
  repeat refine av (a _) ?_
  refine cV (a _) (by simp only[*,go_sem]) ?_
  repeat refine av (a _) ?_
  refine cW a ?_
  refine tA lJ ⟨_,_,_,rfl,(by first|rfl|simp only[*,go_sem]),rfl,by first|(simp only[*,go_sem];done)|(simp only[*,go_sem];rfl),rfl⟩ (by simp) (by simp) rfl ?_
  refine ai.nil a ?_;try simp only[go_sem]
  repeat refine av (a _) ?_
  refine cW a ?_
  refine ai.bA (hJ _ rfl) 1 (n:=2) _ rfl rfl ?_;simp only[*,go_sem]
  refine tC ⟨Mu,0,none⟩ xY lK x2 ⟨_,rfl,(by first|rfl|simp only[*,go_sem]),rfl,rfl⟩ (by simp) (by simp only[*,go_sem]) yb ?_
  refine CP tr ⟨_,_,_,rfl,(by first|rfl|simp only[*,go_sem]),rfl,by first|(simp only[*,go_sem];done)|(simp only[*,go_sem];rfl),rfl⟩ (by rfl) ?_
  refine ai.nil a ?_;try simp only[go_sem]
  refine fl ?_;try simp only[go_sem]
  exact ou rfl (by simp only[*,go_sem]) ⟨rfl,rfl,rfl⟩
 ·refine ai.nil a ?_;try simp only[go_sem]
  repeat refine av (a _) ?_
  refine cA (a _) (by simp only[*,go_sem]) ?_
  refine cC (a _) ?_;try simp only[go_sem]
  repeat refine av (a _) ?_
  refine cW a ?_
  refine ai.bA (hJ _ rfl) 1 (n:=1) _ rfl rfl ?_;simp only[*,go_sem]
  refine ai.fV (a _) rfl rfl rfl EO (by simp only[*,go_sem,muA]) b fun v F' aK c=>?_
  obtain ⟨rfl,rfl,rfl⟩:=c
  refine ai.nil a ?_
  exact lH rfl (by simp only[*,go_sem]) ⟨rfl,rfl,rfl⟩
def jo (C S W:Nat)(nw:Int)(G:Nat):Mp:=if S=1 then .oe else if 0<C/\W=0 then .gk nw G else .fin
def JA (Mu n:Nat)(st:Bool)(F:aa)(m:Nat)(a:Act)(F':aa)(aK:Ph):Prop:=
 ∃(old:Int) (C S W L G:Nat),F'=F/\slot a 0= .pointer (some ⟨Mu,0,none⟩)/\slot a 4= .int .i32 old/\sz a=43/\a.defers=[]/\Wd old C S W L/\C<=3*n/\G<=m/\
   ((S=0/\L=0/\W=0/\0<C/\aK=⟨.gk old G,.cnt,st,1⟩)\/(¬(S=0/\L=0/\W=0/\0<C)/\aK=⟨.fin,.cnt,st,1⟩))
theorem JB (aF:Mu≠Wg/\Mu≠Is/\Wg≠Is)(ab:n<67108864){nw:Int}{C S W G:Nat}(hw:Wd nw C S W 0)(hC:C<=3*n):
  cB Tryz.prog (WJ (CY Mu Wg Is n bs base T0) i) 196 #[.pointer (some (muA Mu)),.int .i32 nw] F ⟨jo C S W nw G,.cnt,st,1⟩ (fun v F' aK=>v= .tuple #[]/\F'=F/\aK=⟨.fin,.cnt,st,1⟩):=by
 have a:=WJ.ej (CY Mu Wg Is n bs base T0) i
 have hJ:∀ph:Ph,ph.gp= .cnt->Go.Sep.Closed Tryz.prog false (WJ (CY Mu Wg Is n bs base T0) i ph):=fun ph h=>Wk.closed (CY Mu Wg Is n bs base T0) i ph h
 refine cB.go (main:=false) a Tryz.func196 rfl Tryz.ntmps196 (by simp) fun A u hd hs=>?_
 have y:=hs 0
 have k1:=hs 1
 clear hs
 have z:=hw.st.s
 have hW:=hw.st.w
 have w1:IntKind.i32.wrap (nw+1)=nw+1:=by have e0:=hw.st.eq;exact iC (by omega) (by omega)
 have B:Wd (nw+1) C S W 1:=by have e0:=hw.st.eq;exact wd ⟨by omega,by omega,hW,z⟩ (by omega)
 have K:dQ (nw+1) 1=1:=B.a1
 repeat refine av (a _) ?_
 refine cW a ?_
 refine ai.bA (hJ _ rfl) 4 (n:=0) _ rfl rfl ?_;simp only[*,go_sem]
 refine ai.nil a ?_;try simp only[go_sem]
 repeat refine av (a _) ?_
 refine cA (a _) (by simp only[*,go_sem]) ?_
 refine cC (a _) ?_;try simp only[go_sem]
 rcases (by omega:S=1\/S=0) with rfl|rfl
 ·
  have b4:dQ nw 4=4:=hw.a4
  repeat refine av (a _) ?_
  refine cW a ?_
  refine ai.bA (hJ _ rfl) 3 (n:=0) _ rfl rfl ?_;simp only[*,go_sem]
  refine ai.nil a ?_;try simp only[go_sem]
  repeat refine av (a _) ?_
  refine cA (a _) (by simp only[*,go_sem]) ?_
  repeat refine av (a _) ?_
  refine cW a ?_
  refine ai.bA (hJ _ rfl) 3 (n:=1) _ rfl rfl ?_;simp only[*,go_sem]
  refine CQ (.bool true) (.int .i64 2) CE aF ⟨_,_,_,rfl,(by first|rfl|simp only[*,go_sem]),rfl,by first|(simp only[*,go_sem];done)|(simp only[*,go_sem];rfl),rfl⟩ (by rfl) (by simp[jo]) ?_
  refine ai.nil a ?_;try simp only[go_sem]
  exact lH rfl (by simp only[*,go_sem]) ⟨rfl,rfl,rfl⟩
 ·have b4:dQ nw 4=0:=hw.a4
  repeat refine av (a _) ?_
  refine cW a ?_
  refine ai.bA (hJ _ rfl) 3 (n:=0) _ rfl rfl ?_;simp only[*,go_sem]
  refine ai.nil a ?_;try simp only[go_sem]
  repeat refine av (a _) ?_
  refine cV (a _) (by simp only[*,go_sem]) ?_
  repeat refine av (a _) ?_
  refine cW a ?_
  refine ai.bA (hJ _ rfl) 2 (n:=0) _ rfl rfl ?_;simp only[*,go_sem]
  refine ai.nil a ?_;try simp only[go_sem]
  repeat refine av (a _) ?_
  refine jL a ?_
  refine qw a (fun m M F' aK=>JA Mu n st F m M F' aK) G ?_ ?_
  ·refine ⟨nw,C,0,W,0,G,rfl,by simp only[*,go_sem,muA],by simp only[*,go_sem],by simp only[*,go_sem],by simp only[*,go_sem],hw,hC,Nat.le_refl _,?_⟩
   by_cases f:0<C/\W=0
   ·exact .inl ⟨rfl,rfl,f.2,f.1,by simp[jo,f]⟩
   ·exact .inr ⟨fun x=>f ⟨x.2.2.2,x.2.2.1⟩,by simp[jo,f]⟩
  ·clear hw hC b4 K B w1 z hW y k1 u hd
   rintro m A F' aK ⟨old,C,S,W,L,G,rfl,y,ad,u,hd,hw,hC,ae,N⟩
   repeat refine av (a _) ?_
   refine jL a ?_
   have sh:old.fdiv 8=(C:Int):=hw.sh
   rcases N with ⟨rfl,rfl,rfl,j,rfl⟩|⟨al,rfl⟩
   ·
    have O:dQ old 7=0:=hw.a7
    have D:((C:Int)==0)=false:=by simp;omega
    repeat refine av (a _) ?_
    refine cW a ?_
    refine ai.bA (hJ _ rfl) 1 (n:=7) _ rfl rfl ?_;simp only[*,go_sem]
    refine ai.mW old (C:Int) (a _) ⟨_,rfl,(by first|rfl|simp only[*,go_sem]),rfl,rfl⟩ (by simp only[*,go_sem]) (by simp only[*,go_sem]) hw.sh ?_
    refine ai.bA (hJ _ rfl) 6 (n:=0) _ rfl rfl ?_;simp only[*,go_sem]
    refine ai.nil a ?_;try simp only[go_sem]
    repeat refine av (a _) ?_
    refine cA (a _) (by simp only[*,go_sem]) ?_
    refine cC (a _) ?_;try simp only[go_sem]
    have ao:IntKind.i32.wrap (old - 8)=old - 8:=by have e0:=hw.st.eq;exact iC (by omega) (by omega)
    have P:Wd (old - 8) (C - 1) 0 0 0:=by have e0:=hw.st.eq;exact wd ⟨by omega,by omega,by omega,by omega⟩ (by omega)
    have o2:ji (old - 8) 2=old - 8+2:=P.o2
    repeat refine av (a _) ?_
    refine cW a ?_
    refine ai.bA (hJ _ rfl) 4 (n:=0) _ rfl rfl ?_;simp only[*,go_sem]
    refine ai.nil a ?_;try simp only[go_sem]
    repeat refine av (a _) ?_
    refine cW a ?_
    refine ai.bA (hJ _ rfl) 5 (n:=1) _ rfl rfl ?_;simp only[*,go_sem]
    refine tB old (old - 8+2) tu aF ⟨_,_,_,rfl,(by first|rfl|simp only[*,go_sem]),rfl,by first|(simp only[*,go_sem];done)|(simp only[*,go_sem];rfl),rfl⟩ (by rfl) (by simp) (fun φ ms Q R T U k he hi hm=>?_) (fun φ mu ms Q R T U k he hi hm V=>?_)
    ·obtain ⟨rfl,rfl,rfl,rfl⟩:=hm.st.uniq hw.st
     refine ⟨.od,⟨_,_,_,_,k,IF hm hi _ (by rw[he]) rfl rfl rfl rfl j⟩,?_⟩
     refine ai.nil a ?_;try simp only[go_sem]
     repeat refine av (a _) ?_
     refine cV (a _) (by simp only[*,go_sem]) ?_
     repeat refine av (a _) ?_
     refine cW a ?_
     refine ai.bA (hJ _ rfl) 3 (n:=1) _ rfl rfl ?_;simp only[*,go_sem]
     refine CQ (.bool false) (.int .i64 2) CE aF ⟨_,_,_,rfl,(by first|rfl|simp only[*,go_sem]),rfl,by first|(simp only[*,go_sem];done)|(simp only[*,go_sem];rfl),rfl⟩ (by rfl) (by simp) ?_
     refine ai.nil a ?_;try simp only[go_sem]
     refine fl ?_;try simp only[go_sem]
     exact ou rfl (by simp only[*,go_sem]) ⟨rfl,rfl,rfl⟩
    ·obtain ⟨X,ar,Y⟩:=IG hm hi {mp:=.gk mu (bK n φ ms),gp:=.cnt,stored:=st,deaf:=1} (by rw[he]) rfl
     have a0:bK n φ ms<G:=Y V
     refine ⟨.gk mu (bK n φ ms),⟨_,_,_,_,k,X⟩,?_⟩
     refine ai.nil a ?_;try simp only[go_sem]
     repeat refine av (a _) ?_
     refine cA (a _) (by simp only[*,go_sem]) ?_
     refine cC (a _) ?_;try simp only[go_sem]
     repeat refine av (a _) ?_
     refine cW a ?_
     refine ai.bA (hJ _ rfl) 3 (n:=2) _ rfl rfl ?_;simp only[*,go_sem]
     refine oz Jq ov ⟨_,rfl,(by first|rfl|simp only[*,go_sem]),rfl,rfl⟩ (by rfl) (by simp only[*,go_sem]) (fun c g d l o p q E H I e=>?_)
     have J:=wd e.st (by have:=e.bound;simp only[CY] at this;omega)
     by_cases b:o=0/\q=0/\p=0/\0<l
     ·obtain ⟨r,t,_⟩:=Cg e I {mp:=.gk g (bK n c d),gp:=.cnt,stored:=st,deaf:=1} (by rw[H]) (.inl ⟨b.1,b.2.1,b.2.2.1,b.2.2.2,rfl⟩)
      have Z:bK n c d<=bK n φ ms:=t
      refine ⟨.gk g (bK n c d),⟨_,_,_,_,E,r⟩,?_⟩
      refine ai.bA (hJ _ rfl) 1 (n:=0) _ rfl rfl ?_;simp only[*,go_sem]
      refine ai.nil a ?_;try simp only[go_sem]
      exact ⟨bK n c d,by omega,g,l,o,p,q,bK n c d,rfl,(by simp only[*,go_sem]),(by simp only[*,go_sem]),(by simp only[*,go_sem]),(by simp only[*,go_sem]),J,e.bound,Nat.le_refl _,.inl ⟨b.1,b.2.1,b.2.2.1,b.2.2.2,rfl⟩⟩
     ·obtain ⟨r,t,_⟩:=Cg e I {mp:=.fin,gp:=.cnt,stored:=st,deaf:=1} (by rw[H]) (.inr ⟨b,rfl⟩)
      have Z:bK n c d<=bK n φ ms:=t
      refine ⟨.fin,⟨_,_,_,_,E,r⟩,?_⟩
      refine ai.bA (hJ _ rfl) 1 (n:=0) _ rfl rfl ?_;simp only[*,go_sem]
      refine ai.nil a ?_;try simp only[go_sem]
      exact ⟨bK n c d,by omega,g,l,o,p,q,bK n c d,rfl,(by simp only[*,go_sem]),(by simp only[*,go_sem]),(by simp only[*,go_sem]),(by simp only[*,go_sem]),J,e.bound,Nat.le_refl _,.inr ⟨b,rfl⟩⟩
   ·
    by_cases j:C=0
    ·have D:((C:Int)==0)=true:=by simp[j]
     repeat refine av (a _) ?_
     refine cW a ?_
     refine ai.bA (hJ _ rfl) 1 (n:=7) _ rfl rfl ?_;simp only[*,go_sem]
     refine ai.mW old (C:Int) (a _) ⟨_,rfl,(by first|rfl|simp only[*,go_sem]),rfl,rfl⟩ (by simp only[*,go_sem]) (by simp only[*,go_sem]) hw.sh ?_
     refine ai.bA (hJ _ rfl) 6 (n:=0) _ rfl rfl ?_;simp only[*,go_sem]
     refine ai.nil a ?_;try simp only[go_sem]
     repeat refine av (a _) ?_
     refine cV (a _) (by simp only[*,go_sem]) ?_
     refine fl ?_;try simp only[go_sem]
     exact ou rfl (by simp only[*,go_sem]) ⟨rfl,rfl,rfl⟩
    ·have D:((C:Int)==0)=false:=by simp;omega
     have O:=hw.a7
     have a2:(((4*S+(2*W+L):Nat):Int) != 0)=true:=by simp;omega
     repeat refine av (a _) ?_
     refine cW a ?_
     refine ai.bA (hJ _ rfl) 1 (n:=7) _ rfl rfl ?_;simp only[*,go_sem]
     refine ai.mW old (C:Int) (a _) ⟨_,rfl,(by first|rfl|simp only[*,go_sem]),rfl,rfl⟩ (by simp only[*,go_sem]) (by simp only[*,go_sem]) hw.sh ?_
     refine ai.bA (hJ _ rfl) 6 (n:=0) _ rfl rfl ?_;simp only[*,go_sem]
     refine ai.nil a ?_;try simp only[go_sem]
     repeat refine av (a _) ?_
     refine cV (a _) (by simp only[*,go_sem]) ?_
     refine fl ?_;try simp only[go_sem]
     exact ou rfl (by simp only[*,go_sem]) ⟨rfl,rfl,rfl⟩
theorem JC (aF:Mu≠Wg/\Mu≠Is/\Wg≠Is)(f:n<67108864):
  cB Tryz.prog (WJ (CY Mu Wg Is n bs base T0) i) 166 #[.pointer (some (muA Mu))] F ⟨.held,.cnt,st,0⟩ (fun v F' aK=>v= .tuple #[]/\F'=F/\aK=⟨.fin,.cnt,st,0⟩):=by
 have a:=WJ.ej (CY Mu Wg Is n bs base T0) i
 have hJ:∀ph:Ph,ph.gp= .cnt->Go.Sep.Closed Tryz.prog false (WJ (CY Mu Wg Is n bs base T0) i ph):=fun ph h=>Wk.closed (CY Mu Wg Is n bs base T0) i ph h
 refine cB.go (main:=false) a Tryz.func166 rfl Tryz.ntmps166 (by simp) fun A t hd hs=>?_
 have u:=hs 0
 clear hs
 repeat refine av (a _) ?_
 refine cV (a _) (by simp only[*,go_sem]) ?_
 repeat refine av (a _) ?_
 refine cW a ?_
 refine ai.bA (hJ _ rfl) 3 (n:=1) _ rfl rfl ?_;simp only[*,go_sem]
 refine oz Jp ov ⟨_,rfl,(by first|rfl|simp only[*,go_sem]),rfl,rfl⟩ (by rfl) (by simp only[*,go_sem]) (fun x y z B D E G g j k l=>⟨.held,⟨_,_,_,_,g,mS l k _ (.inl (by rw[j]))⟩,?_⟩)
 refine ai.nil a ?_;try simp only[go_sem]
 repeat refine av (a _) ?_
 refine cW a ?_
 refine ai.bA (hJ _ rfl) 1 (n:=2) _ rfl rfl ?_;simp only[*,go_sem]
 refine tC ⟨Mu,0,none⟩ xY lK x2 ⟨_,rfl,(by first|rfl|simp only[*,go_sem]),rfl,rfl⟩ (by simp) (by simp only[*,go_sem]) yb ?_
 refine Ju CD ⟨_,_,_,rfl,(by first|rfl|simp only[*,go_sem]),rfl,by first|(simp only[*,go_sem];done)|(simp only[*,go_sem];rfl),rfl⟩ (by rfl) ?_
 refine ai.nil a ?_;try simp only[go_sem]
 repeat refine av (a _) ?_
 refine cW a ?_
 refine x9 qx ⟨_,_,_,rfl,(by first|rfl|simp only[*,go_sem]),rfl,by first|(simp only[*,go_sem];done)|(simp only[*,go_sem];rfl),rfl⟩ (by simp) (by simp) ?_
 refine ai.nil a ?_;try simp only[go_sem]
 repeat refine av (a _) ?_
 refine cW a ?_
 refine ai.bA (hJ _ rfl) 3 (n:=2) _ rfl rfl ?_;simp only[*,go_sem]
 refine ya (-1) xW aF ⟨_,_,_,rfl,(by first|rfl|simp only[*,go_sem]),rfl,by first|(simp only[*,go_sem];done)|(simp only[*,go_sem];rfl),rfl⟩ (by rfl) (by simp) (fun φ mu ms C S W L m he hi hm=>?_)
 have o:=Cf hm hi (by rw[he])
 subst o
 have hb:C<=3*n:=hm.bound
 have p:=hm.st.s
 have hW:=hm.st.w
 have c:IntKind.i32.wrap (mu+ -1)=mu - 1:=by have e0:=hm.st.eq;exact iC (by omega) (by omega)
 have e:St (mu - 1) C S W 0:=⟨by have e0:=hm.st.eq;omega,by omega,hW,p⟩
 have hw:Wd (mu - 1) C S W 0:=wd e (by omega)
 have d:cm n (upd φ i ⟨jo C S W (mu - 1) (sm n φ Mp.wt+2*m),.cnt,st,1⟩) (mu - 1) ms C S W 0 m:=by
  refine IE hm hi _ (by rw[he]) ?_
  by_cases h1:S=1
  ·exact .inl ⟨h1,by simp[jo,h1]⟩
  ·by_cases b:0<C/\W=0
   ·exact .inr (.inl ⟨by omega,b.1,b.2,by simp[jo,h1,b]⟩)
   ·exact .inr (.inr ⟨by omega,by omega,by simp[jo,h1,b]⟩)
 refine ⟨jo C S W (mu - 1) (sm n φ Mp.wt+2*m),mu - 1,c,⟨_,_,_,_,m,d⟩,?_⟩
 refine ai.bA (hJ _ rfl) 1 (n:=0) _ rfl rfl ?_;simp only[*,go_sem]
 refine ai.nil a ?_;try simp only[go_sem]
 by_cases h0:mu - 1=0
 ·have e0:=e.eq
  have q:jo C S W (mu - 1) (sm n φ Mp.wt+2*m)= .fin:=by
   have:C=0:=by omega
   have:S=0:=by omega
   simp[jo, *]
  clear hw d c e0
  rw[q]
  rw[h0]
  repeat refine av (a _) ?_
  refine cW a ?_
  refine ai.bA (hJ _ rfl) 2 (n:=0) _ rfl rfl ?_;simp only[*,go_sem]
  refine ai.nil a ?_;try simp only[go_sem]
  repeat refine av (a _) ?_
  refine cA (a _) (by simp only[*,go_sem]) ?_
  refine cC (a _) ?_;try simp only[go_sem]
  repeat refine av (a _) ?_
  refine cW a ?_
  refine tA lJ ⟨_,_,_,rfl,(by first|rfl|simp only[*,go_sem]),rfl,by first|(simp only[*,go_sem];done)|(simp only[*,go_sem];rfl),rfl⟩ (by simp) (by simp) rfl ?_
  refine ai.nil a ?_;try simp only[go_sem]
  exact lH rfl (by simp only[*,go_sem]) ⟨rfl,rfl,rfl⟩
 ·have H:(mu - 1 != 0)=true:=by simpa using h0
  clear d c h0
  repeat refine av (a _) ?_
  refine cW a ?_
  refine ai.bA (hJ _ rfl) 2 (n:=0) _ rfl rfl ?_;simp only[*,go_sem]
  refine ai.nil a ?_;try simp only[go_sem]
  repeat refine av (a _) ?_
  refine cV (a _) (by simp only[*,go_sem]) ?_
  repeat refine av (a _) ?_
  refine cW a ?_
  refine ai.bA (hJ _ rfl) 2 (n:=1) _ rfl rfl ?_;simp only[*,go_sem]
  refine ai.fV (a _) rfl rfl rfl EP (by simp only[*,go_sem,muA]) (JB aF f hw hb) fun v F' aK r=>?_
  obtain ⟨rfl,rfl,rfl⟩:=r
  refine ai.nil a ?_;try simp only[go_sem]
  repeat refine av (a _) ?_
  refine cW a ?_
  refine tA lJ ⟨_,_,_,rfl,(by first|rfl|simp only[*,go_sem]),rfl,by first|(simp only[*,go_sem];done)|(simp only[*,go_sem];rfl),rfl⟩ (by simp) (by simp) rfl ?_
  refine ai.nil a ?_;try simp only[go_sem]
  exact lH rfl (by simp only[*,go_sem]) ⟨rfl,rfl,rfl⟩
end
end Go.Proofs.YtpgcmoanfifglaaGreatDoor
end
section
namespace Go.Sep
open Go Go.Conc
def tD {S:Type}(b:Act->aa->S->Prop)(Q:Ex->Act->aa->S->Prop):Ex->Act->aa->S->Prop
 | .normal,a,F,ph=>b a F ph
 |e,a,F,ph=>Q e a F ph
attribute [go_sem] tD
theorem kK {P:Program}{main:Bool}{S:Type}{JF:S->Goroutine->aa->Prop}{fi:FuncId}{Q:Ex->Act->aa->S->Prop}{a:Act}{F:aa}{ph:S}(c:∀ph,dR P main (JF ph)){x y:Code}(b:Act->aa->S->Prop)
  (h1:cK JF fi x (tD b Q) a F ph) (d:∀a F ph,b a F ph->cK JF fi y Q a F ph):cK JF fi (.seq x y) Q a F ph:=
 av (c _) (h1.mono fun e a F ph h=>by
  cases e with
  |normal=>exact d a F ph h
  |exit i=>exact h
  |ret=>exact h)
theorem tE {P:Program}{main:Bool}{S:Type}{JF:S->Goroutine->aa->Prop}{fi:FuncId}{Q:Ex->Act->aa->S->Prop}{a:Act}{F:aa}{ph:S}(d:∀ph,dR P main (JF ph)){x:Code}(b:Act->aa->S->Prop)
  (h1:cK JF fi x (tD b Q) a F ph) (c:∀a F ph,b a F ph->Q .normal a F ph):cK JF fi x Q a F ph:=
 h1.mono fun e a F ph h=>by
  cases e with
  |normal=>exact c a F ph h
  |exit i=>exact h
  |ret=>exact h
theorem aY {P:Program}{main:Bool}{S:Type}{JF:S->Goroutine->aa->Prop}{fi:FuncId}{Q:Ex->Act->aa->S->Prop}{a:Act}{F:aa}{ph:S}(b:∀ph,dR P main (JF ph)){id:Nat}{ops:Array Oper}
  (h:∀K:Act->aa->S->Prop,(∀a F ph,Q .normal a F ph->K a F ph)->ai JF fi ops 0 ops.size K a F ph):cK JF fi (.region id ops false) Q a F ph:=cW b (h _ fun _ _ _ h=>h)
theorem eo {S:Type}{b:Act->aa->S->Prop}{Q:Ex->Act->aa->S->Prop}{a:Act}{F:aa}{ph:S}(h:b a F ph):tD b Q .normal a F ph:=h
theorem jc {S:Type}{I:Nat->Act->aa->S->Prop}{n:Nat}{Q:Ex->Act->aa->S->Prop}{a:Act}{F:aa}{ph:S}(h:∃m,m<n/\I m a F ph):xU I n Q .normal a F ph:=h
theorem JD {x:Int}(h1: -9223372036854775808<=x)(a:x<9223372036854775808):IntKind.i64.wrap x=x:=by
 unfold IntKind.wrap;simp[IntKind.bits,IntKind.signed];omega
end Go.Sep
namespace Go.Proofs.YtpgcmoanfifglaaGreatDoor
open Go Go.Sep Go.Proofs Go.Conc
open Go.ConcN (upd upd_same)
open Go.ConcM (muA msA)
open Go.ConcR (stA smA)
set_option maxRecDepth 100000
set_option maxHeartbeats 8000000
set_option linter.all false
attribute [local go_sem] Int.reduceBEq Int.reduceBNe muA msA stA smA
def tF (Mu n:Nat)(st:Bool)(F:aa)(m:Nat)(a:Act)(F':aa)(ph:Ph):Prop:=
 ∃(wt it old:Int) (sv aw:Bool) (C S W L G:Nat),F'=F/\slot a 0= .pointer (some ⟨Mu,0,none⟩)/\slot a 2= .int .i64 wt/\slot a 3= .bool sv/\slot a 4= .bool aw/\slot a 5= .int .i64 it/\slot a 6= .int .i32 old/\sz a=139/\a.defers=[]/\
  Wd old C S W L/\C<=3*n/\0<=it/\it<=4/\(sv=true->aw=true)/\(aw=true->S=0/\W=1)/\8*G+(5 - it).toNat<=m/\ph=⟨.want aw old G,.cnt,st,1⟩
def tG (Mu:Nat)(st:Bool)(F:aa)(a:Act)(F':aa)(ph:Ph):Prop:=F'=F/\slot a 0= .pointer (some ⟨Mu,0,none⟩)/\sz a=139/\a.defers=[]/\ph=⟨.held,.cnt,st,1⟩
def JE (Mu:Nat)(st:Bool)(F:aa)(wt it:Int)(sv:Bool)(G:Nat)(a:Act)(F':aa)(ph:Ph):Prop:=
 ∃(aw:Bool) (o:Int) (b:Nat),F'=F/\slot a 0= .pointer (some ⟨Mu,0,none⟩)/\slot a 2= .int .i64 wt/\slot a 3= .bool sv/\slot a 4= .bool aw/\slot a 5= .int .i64 it/\sz a=139/\a.defers=[]/\(sv=true->aw=true)/\b<=G/\ph=⟨.want aw o b,.cnt,st,1⟩
def qA (Mu:Nat)(st:Bool)(F:aa)(wt it old:Int)(x:Option Int)(sv aw:Bool)(G:Nat)(a:Act)(F':aa)(ph:Ph):Prop:=
 F'=F/\slot a 0= .pointer (some ⟨Mu,0,none⟩)/\slot a 2= .int .i64 wt/\slot a 3= .bool sv/\slot a 4= .bool aw/\slot a 5= .int .i64 it/\slot a 6= .int .i32 old/\(∀y,x=some y->slot a 7= .int .i32 y)/\sz a=139/\a.defers=[]/\ph=⟨.want aw old G,.cnt,st,1⟩
def CS (Mu:Nat)(st:Bool)(F:aa)(sv:Bool)(mp:Mp)(a:Act)(F':aa)(ph:Ph):Prop:=
 ∃wt:Int,F'=F/\slot a 0= .pointer (some ⟨Mu,0,none⟩)/\slot a 2= .int .i64 wt/\slot a 3= .bool sv/\sz a=139/\a.defers=[]/\ph=⟨mp,.cnt,st,1⟩
def CU (Mu:Nat)(st:Bool)(F:aa)(mp:Mp)(a:Act)(F':aa)(ph:Ph):Prop:=
 ∃(wt:Int) (sv:Bool),F'=F/\slot a 0= .pointer (some ⟨Mu,0,none⟩)/\slot a 2= .int .i64 wt/\slot a 3= .bool sv/\sz a=139/\a.defers=[]/\ph=⟨mp,.cnt,st,1⟩
def JG (Mu:Nat)(st:Bool)(F:aa)(y:Bool)(a:Act)(F':aa)(ph:Ph):Prop:=
 ∃e:Bool,F'=F/\slot a 0= .pointer (some ⟨Mu,0,none⟩)/\slot a 9= .int .i32 (-7)/\slot a 123= .bool e/\sz a=139/\a.defers=[]/\(e=false->y=true)/\ph=⟨.kH y,.cnt,st,1⟩
section
variable {Mu Wg Is n base T0 i : Nat} {bs : Nat → Bool} {st : Bool} {F : aa}
theorem JH (aF:Mu≠Wg/\Mu≠Is/\Wg≠Is)(eQ:n<67108864):
  cB Tryz.prog (WJ (CY Mu Wg Is n bs base T0) i) 194 #[.pointer (some (muA Mu))] F ⟨.idle,.cnt,st,1⟩ (fun v F' aK=>v= .tuple #[]/\F'=F/\aK=⟨.held,.cnt,st,0⟩):=by
 have a:=WJ.ej (CY Mu Wg Is n bs base T0) i
 have hJ:∀ph:Ph,ph.gp= .cnt->Go.Sep.Closed Tryz.prog false (WJ (CY Mu Wg Is n bs base T0) i ph):=fun ph h=>Wk.closed (CY Mu Wg Is n bs base T0) i ph h
 refine cB.go (main:=false) a Tryz.func194 rfl Tryz.ntmps194 (by simp) fun A d hd hs=>?_
 have f:=hs 0
 clear hs
 repeat refine av (a _) ?_
 refine aY a fun K b=>?_
 refine ai.bA (hJ _ rfl) 1 (n:=0) _ rfl rfl ?_;simp only[*,go_sem,-b,-a,-hJ]
 refine ai.nil a (b _ _ _ ?_);clear b K
 repeat refine av (a _) ?_
 refine aY a fun K b=>?_
 refine ai.bA (hJ _ rfl) 1 (n:=0) _ rfl rfl ?_;simp only[*,go_sem,-b,-a,-hJ]
 refine ai.nil a (b _ _ _ ?_);clear b K
 repeat refine av (a _) ?_
 refine aY a fun K b=>?_
 refine ai.bA (hJ _ rfl) 1 (n:=0) _ rfl rfl ?_;simp only[*,go_sem,-b,-a,-hJ]
 refine ai.nil a (b _ _ _ ?_);clear b K
 repeat refine av (a _) ?_
 refine aY a fun K b=>?_
 refine ai.bA (hJ _ rfl) 1 (n:=0) _ rfl rfl ?_;simp only[*,go_sem,-b,-a,-hJ]
 refine ai.nil a (b _ _ _ ?_);clear b K
 repeat refine av (a _) ?_
 refine aY a fun K b=>?_
 refine ai.bA (hJ _ rfl) 3 (n:=2) _ rfl rfl ?_;simp only[*,go_sem,-b,-a,-hJ]
 refine oz tv ov ⟨_,rfl,(by first|(simp only[*,go_sem,-b,-a,-hJ];done)|rfl),rfl,rfl⟩ (by rfl) (by simp only[*,go_sem,-b,-a,-hJ]) (fun φ mu ms C S W L m he hi hm=>⟨.want false mu (bK n φ ms),⟨_,_,_,_,m,Ix hm hi _ (by rw[he]) rfl⟩,?_⟩)
 have hw:=wd hm.st (by have:C<=3*n:=hm.bound;omega)
 have hC:C<=3*n:=hm.bound
 refine ai.bA (hJ _ rfl) 1 (n:=0) _ rfl rfl ?_;simp only[*,go_sem,-b,-a,-hJ]
 refine ai.nil a (b _ _ _ ?_);clear b K
 refine kK a (tG Mu st F) ?_ ?_
 ·repeat refine av (a _) ?_
  refine jL a ?_
  refine qw a (tF Mu n st F) (8*bK n φ ms+5) ?_ ?_
  ·exact ⟨0,0,mu,false,false,C,S,W,L,bK n φ ms,rfl,(by simp only[*,go_sem,-a,-hJ]),(by simp only[*,go_sem,-a,-hJ]),(by simp only[*,go_sem,-a,-hJ]),(by simp only[*,go_sem,-a,-hJ]),(by simp only[*,go_sem,-a,-hJ]),(by simp only[*,go_sem,-a,-hJ]),(by simp only[*,go_sem,-a,-hJ]),(by simp only[*,go_sem,-a,-hJ]),hw,hC,by omega,by omega,by simp,by simp,by simp,rfl⟩
  ·clear hw hC hm hi he d hd f
   rintro m A F' aK ⟨wt,it,old,sv,aw,C,S,W,L,G,rfl,f,k,o,z,D,I,d,hd,hw,hC,eS,e3,V,X,fa,rfl⟩
   have cS:S=0\/S=1:=by have:=hw.st.s;omega
   have a7:L=0\/L=1:=by have:=hw.st.l;omega
   have bd:W=0\/W=1:=by have:=hw.st.w;omega
   repeat refine av (a _) ?_
   refine jL a ?_
   refine kK a (qA Mu st F' wt it old none sv aw G) ?_ ?_
   ·
    by_cases Y:S=0/\L=1
    ·obtain ⟨rfl,rfl⟩:=Y
     have b5:dQ old 5=1:=hw.a5
     repeat refine av (a _) ?_
     refine aY a fun K b=>?_
     refine ai.bA (hJ _ rfl) 5 (n:=2) _ rfl rfl ?_;simp only[*,go_sem,-b,-a,-hJ]
     refine Jx it Jg ⟨_,_,_,rfl,(by first|(simp only[*,go_sem,-b,-a,-hJ];done)|rfl),rfl,by first|(simp only[*,go_sem,-b,-a,-hJ];done)|(simp only[*,go_sem,-b,-a,-hJ];rfl),rfl⟩ (by simp) fun t ht=>?_
     refine ai.bA (hJ _ rfl) 1 (n:=0) _ rfl rfl ?_;simp only[*,go_sem,-b,-a,-hJ]
     refine ai.nil a (b _ _ _ ?_);clear b K
     cases t
     ·repeat refine av (a _) ?_
      refine cA (a _) (by simp only[*,go_sem,-a,-hJ]) ?_
      refine cC (a _) ?_
      exact eo ⟨rfl,(by simp only[*,go_sem,-a,-hJ]),(by simp only[*,go_sem,-a,-hJ]),(by simp only[*,go_sem,-a,-hJ]),(by simp only[*,go_sem,-a,-hJ]),(by simp only[*,go_sem,-a,-hJ]),(by simp only[*,go_sem,-a,-hJ]),by simp,(by simp only[*,go_sem,-a,-hJ]),(by simp only[*,go_sem,-a,-hJ]),rfl⟩
     ·have fb:=ht rfl
      repeat refine av (a _) ?_
      refine cV (a _) (by simp only[*,go_sem,-a,-hJ]) ?_
      refine kK a (JE Mu st F' wt it sv G) ?_ ?_
      ·cases aw
       ·obtain rfl:sv=false:=by cases sv<;>simp_all
        rcases bd with rfl|rfl
        ·have b2:dQ old 2=0:=hw.a2
         by_cases dC:C=0
         ·have br:((C:Int) != 0)=false:=by simp[dC]
          repeat refine av (a _) ?_
          refine aY a fun K b=>?_
          refine ai.bA (hJ _ rfl) 9 (n:=12) _ rfl rfl ?_;simp only[*,go_sem,-b,-a,-hJ]
          refine ai.mW old (C:Int) (a _) ⟨_,rfl,(by first|(simp only[*,go_sem,-b,-a,-hJ];done)|rfl),rfl,rfl⟩ (by simp only[*,go_sem,-b,-a,-hJ]) (by simp only[*,go_sem,-b,-a,-hJ]) hw.sh ?_
          refine ai.bA (hJ _ rfl) 11 (n:=0) _ rfl rfl ?_;simp only[*,go_sem,-b,-a,-hJ]
          refine ai.nil a (b _ _ _ ?_);clear b K
          repeat refine av (a _) ?_
          refine cA (a _) (by simp only[*,go_sem,-a,-hJ]) ?_
          refine cC (a _) ?_
          exact eo ⟨false,old,G,rfl,(by simp only[*,go_sem,-a,-hJ]),(by simp only[*,go_sem,-a,-hJ]),(by simp only[*,go_sem,-a,-hJ]),(by simp only[*,go_sem,-a,-hJ]),(by simp only[*,go_sem,-a,-hJ]),(by simp only[*,go_sem,-a,-hJ]),(by simp only[*,go_sem,-a,-hJ]),by simp,Nat.le_refl _,rfl⟩
         ·have br:((C:Int) != 0)=true:=by simp;omega
          have o2:ji old 2=old+2:=hw.o2
          repeat refine av (a _) ?_
          refine aY a fun K b=>?_
          refine ai.bA (hJ _ rfl) 9 (n:=12) _ rfl rfl ?_;simp only[*,go_sem,-b,-a,-hJ]
          refine ai.mW old (C:Int) (a _) ⟨_,rfl,(by first|(simp only[*,go_sem,-b,-a,-hJ];done)|rfl),rfl,rfl⟩ (by simp only[*,go_sem,-b,-a,-hJ]) (by simp only[*,go_sem,-b,-a,-hJ]) hw.sh ?_
          refine ai.bA (hJ _ rfl) 9 (n:=2) _ rfl rfl ?_;simp only[*,go_sem,-b,-a,-hJ]
          refine tB old (old+2) tu aF ⟨_,_,_,rfl,(by first|(simp only[*,go_sem,-b,-a,-hJ];done)|rfl),rfl,by first|(simp only[*,go_sem,-b,-a,-hJ];done)|(simp only[*,go_sem,-b,-a,-hJ];rfl),rfl⟩ (by rfl) (by simp) (fun φ ms bz ao bS Z p he hi hm=>?_) (fun φ mu ms bz ao bS Z p he hi hm dd=>?_)
          ·obtain ⟨rfl,rfl,rfl,rfl⟩:=hm.st.uniq hw.st
           refine ⟨.want true old G,⟨_,_,_,_,p,Iy hm hi _ (by rw[he]) rfl rfl rfl rfl rfl⟩,?_⟩
           refine ai.bA (hJ _ rfl) 1 (n:=0) _ rfl rfl ?_;simp only[*,go_sem,-b,-a,-hJ]
           refine ai.nil a (b _ _ _ ?_);clear b K
           repeat refine av (a _) ?_
           refine cV (a _) (by simp only[*,go_sem,-a,-hJ]) ?_
           repeat refine av (a _) ?_
           refine aY a fun K b=>?_
           refine ai.bA (hJ _ rfl) 1 (n:=0) _ rfl rfl ?_;simp only[*,go_sem,-b,-a,-hJ]
           refine ai.nil a (b _ _ _ ?_);clear b K
           exact eo ⟨true,old,G,rfl,(by simp only[*,go_sem,-a,-hJ]),(by simp only[*,go_sem,-a,-hJ]),(by simp only[*,go_sem,-a,-hJ]),(by simp only[*,go_sem,-a,-hJ]),(by simp only[*,go_sem,-a,-hJ]),(by simp only[*,go_sem,-a,-hJ]),(by simp only[*,go_sem,-a,-hJ]),by simp,Nat.le_refl _,rfl⟩
          ·obtain ⟨J,a8,bj⟩:=tc hm hi {mp:=.want false mu (bK n φ ms),gp:=.cnt,stored:=st,deaf:=1} (by rw[he]) rfl
           refine ⟨.want false mu (bK n φ ms),⟨_,_,_,_,p,J⟩,?_⟩
           refine ai.bA (hJ _ rfl) 1 (n:=0) _ rfl rfl ?_;simp only[*,go_sem,-b,-a,-hJ]
           refine ai.nil a (b _ _ _ ?_);clear b K
           repeat refine av (a _) ?_
           refine cA (a _) (by simp only[*,go_sem,-a,-hJ]) ?_
           refine cC (a _) ?_
           exact eo ⟨false,mu,bK n φ ms,rfl,(by simp only[*,go_sem,-a,-hJ]),(by simp only[*,go_sem,-a,-hJ]),(by simp only[*,go_sem,-a,-hJ]),(by simp only[*,go_sem,-a,-hJ]),(by simp only[*,go_sem,-a,-hJ]),(by simp only[*,go_sem,-a,-hJ]),(by simp only[*,go_sem,-a,-hJ]),by simp,a8,rfl⟩
        ·have b2:dQ old 2=2:=hw.a2
         repeat refine av (a _) ?_
         refine aY a fun K b=>?_
         refine ai.bA (hJ _ rfl) 21 (n:=0) _ rfl rfl ?_;simp only[*,go_sem,-b,-a,-hJ]
         refine ai.nil a (b _ _ _ ?_);clear b K
         repeat refine av (a _) ?_
         refine cA (a _) (by simp only[*,go_sem,-a,-hJ]) ?_
         refine cC (a _) ?_
         exact eo ⟨false,old,G,rfl,(by simp only[*,go_sem,-a,-hJ]),(by simp only[*,go_sem,-a,-hJ]),(by simp only[*,go_sem,-a,-hJ]),(by simp only[*,go_sem,-a,-hJ]),(by simp only[*,go_sem,-a,-hJ]),(by simp only[*,go_sem,-a,-hJ]),(by simp only[*,go_sem,-a,-hJ]),by simp,Nat.le_refl _,rfl⟩
       ·repeat refine av (a _) ?_
        refine aY a fun K b=>?_
        refine ai.bA (hJ _ rfl) 21 (n:=0) _ rfl rfl ?_;simp only[*,go_sem,-b,-a,-hJ]
        refine ai.nil a (b _ _ _ ?_);clear b K
        repeat refine av (a _) ?_
        refine cA (a _) (by simp only[*,go_sem,-a,-hJ]) ?_
        refine cC (a _) ?_
        exact eo ⟨true,old,G,rfl,(by simp only[*,go_sem,-a,-hJ]),(by simp only[*,go_sem,-a,-hJ]),(by simp only[*,go_sem,-a,-hJ]),(by simp only[*,go_sem,-a,-hJ]),(by simp only[*,go_sem,-a,-hJ]),(by simp only[*,go_sem,-a,-hJ]),(by simp only[*,go_sem,-a,-hJ]),by simp,Nat.le_refl _,rfl⟩
      ·clear f k o z D I d hd b5
       rintro A c ab ⟨bk,o2,dE,rfl,f,k,o,z,D,d,hd,dT,fg,rfl⟩
       have fi:IntKind.i64.wrap (it+1)=it+1:=JD (by omega) (by omega)
       repeat refine av (a _) ?_
       refine aY a fun K b=>?_
       refine ai.entry _ (a _) Jh ⟨_,_,_,rfl,(by first|(simp only[*,go_sem,-b,-a,-hJ];done)|rfl),rfl,by first|(simp only[*,go_sem,-b,-a,-hJ];done)|(simp only[*,go_sem,-b,-a,-hJ];rfl),rfl⟩ ?_
       refine ai.nil a (b _ _ _ ?_);clear b K
       repeat refine av (a _) ?_
       refine aY a fun K b=>?_
       refine ai.bA (hJ _ rfl) 3 (n:=0) _ rfl rfl ?_;simp only[*,go_sem,-b,-a,-hJ]
       refine ai.nil a (b _ _ _ ?_);clear b K
       repeat refine av (a _) ?_
       refine aY a fun K b=>?_
       refine ai.bA (hJ _ rfl) 3 (n:=2) _ rfl rfl ?_;simp only[*,go_sem,-b,-a,-hJ]
       refine oz tv ov ⟨_,rfl,(by first|(simp only[*,go_sem,-b,-a,-hJ];done)|rfl),rfl,rfl⟩ (by rfl) (by simp only[*,go_sem,-b,-a,-hJ]) (fun φ mu ms P al bl b0 b1 he hi hm=>?_)
       obtain ⟨J,a8,bj⟩:=tc hm hi {mp:=.want bk mu (bK n φ ms),gp:=.cnt,stored:=st,deaf:=1} (by rw[he]) rfl
       have ad:=wd hm.st (by have:P<=3*n:=hm.bound;omega)
       have a9:P<=3*n:=hm.bound
       have ca:bK n φ ms<=dE:=a8
       have cb:bk=true->al=0/\bl=1:=fun e=>by subst e;exact Cd hm hi (by rw[he])
       refine ⟨.want bk mu (bK n φ ms),⟨_,_,_,_,b1,J⟩,?_⟩
       refine ai.bA (hJ _ rfl) 1 (n:=0) _ rfl rfl ?_;simp only[*,go_sem,-b,-a,-hJ]
       refine ai.nil a (b _ _ _ ?_);clear b K
       refine ot ?_
       change ∃p,p<m/\tF Mu n st c p _ _ _
       exact ⟨8*bK n φ ms+(5 - (it+1)).toNat,by omega,wt,it+1,mu,sv,bk,P,al,bl,b0,bK n φ ms,rfl,(by simp only[*,go_sem,-a,-hJ]),(by simp only[*,go_sem,-a,-hJ]),(by simp only[*,go_sem,-a,-hJ]),(by simp only[*,go_sem,-a,-hJ]),(by simp only[*,go_sem,-a,-hJ]),(by simp only[*,go_sem,-a,-hJ]),(by simp only[*,go_sem,-a,-hJ]),(by simp only[*,go_sem,-a,-hJ]),ad,a9,by omega,by omega,dT,cb,Nat.le_refl _,rfl⟩
    ·have b5:=hw.a5
     have cd:(((4*S+L:Nat):Int)==1)=false:=by simp;omega
     repeat refine av (a _) ?_
     refine aY a fun K b=>?_
     refine ai.bA (hJ _ rfl) 7 (n:=0) _ rfl rfl ?_;simp only[*,go_sem,-b,-a,-hJ]
     refine ai.nil a (b _ _ _ ?_);clear b K
     repeat refine av (a _) ?_
     refine cA (a _) (by simp only[*,go_sem,-a,-hJ]) ?_
     refine cC (a _) ?_
     exact eo ⟨rfl,(by simp only[*,go_sem,-a,-hJ]),(by simp only[*,go_sem,-a,-hJ]),(by simp only[*,go_sem,-a,-hJ]),(by simp only[*,go_sem,-a,-hJ]),(by simp only[*,go_sem,-a,-hJ]),(by simp only[*,go_sem,-a,-hJ]),by simp,(by simp only[*,go_sem,-a,-hJ]),(by simp only[*,go_sem,-a,-hJ]),rfl⟩
   ·clear f k o z D I d hd
    rintro A c ab ⟨rfl,f,k,o,z,D,I,q,d,hd,rfl⟩
    clear q
    repeat refine av (a _) ?_
    refine aY a fun K b=>?_
    refine ai.bA (hJ _ rfl) 2 (n:=0) _ rfl rfl ?_;simp only[*,go_sem,-b,-a,-hJ]
    refine ai.nil a (b _ _ _ ?_);clear b K
    obtain ⟨Q,j,r⟩:∃Q:Int,(S=0->Q=old+1 - L)/\(S=1->Q=old):=⟨if S=0 then old+1 - L else old,fun e=>by simp[e],fun e=>by simp[e]⟩
    refine kK a (qA Mu st c wt it old (some Q) sv aw G) ?_ ?_
    ·rcases cS with rfl|rfl
     ·have b4:dQ old 4=0:=hw.a4
      have o1:ji old 1=Q:=by rw[j rfl,hw.o1];omega
      clear j r
      repeat refine av (a _) ?_
      refine aY a fun K b=>?_
      refine ai.bA (hJ _ rfl) 3 (n:=0) _ rfl rfl ?_;simp only[*,go_sem,-b,-a,-hJ]
      refine ai.nil a (b _ _ _ ?_);clear b K
      repeat refine av (a _) ?_
      refine cV (a _) (by simp only[*,go_sem,-a,-hJ]) ?_
      repeat refine av (a _) ?_
      refine aY a fun K b=>?_
      refine ai.bA (hJ _ rfl) 3 (n:=0) _ rfl rfl ?_;simp only[*,go_sem,-b,-a,-hJ]
      refine ai.nil a (b _ _ _ ?_);clear b K
      exact eo ⟨rfl,(by simp only[*,go_sem,-a,-hJ]),(by simp only[*,go_sem,-a,-hJ]),(by simp only[*,go_sem,-a,-hJ]),(by simp only[*,go_sem,-a,-hJ]),(by simp only[*,go_sem,-a,-hJ]),(by simp only[*,go_sem,-a,-hJ]),fun y g=>by cases g;simp only[*,go_sem,-a,-hJ],(by simp only[*,go_sem,-a,-hJ]),(by simp only[*,go_sem,-a,-hJ]),rfl⟩
     ·have b4:dQ old 4=4:=hw.a4
      obtain rfl:=r rfl
      clear j r
      repeat refine av (a _) ?_
      refine aY a fun K b=>?_
      refine ai.bA (hJ _ rfl) 3 (n:=0) _ rfl rfl ?_;simp only[*,go_sem,-b,-a,-hJ]
      refine ai.nil a (b _ _ _ ?_);clear b K
      repeat refine av (a _) ?_
      refine cA (a _) (by simp only[*,go_sem,-a,-hJ]) ?_
      refine cC (a _) ?_
      exact eo ⟨rfl,(by simp only[*,go_sem,-a,-hJ]),(by simp only[*,go_sem,-a,-hJ]),(by simp only[*,go_sem,-a,-hJ]),(by simp only[*,go_sem,-a,-hJ]),(by simp only[*,go_sem,-a,-hJ]),(by simp only[*,go_sem,-a,-hJ]),fun y g=>by cases g;simp only[*,go_sem,-a,-hJ],(by simp only[*,go_sem,-a,-hJ]),(by simp only[*,go_sem,-a,-hJ]),rfl⟩
    clear f k o z D I d hd
    rintro A c ab ⟨rfl,f,k,o,z,D,I,q,d,hd,rfl⟩
    replace q:=q _ rfl
    obtain ⟨R,x,E⟩:∃R:Int,(S=1\/L=1->R=Q+8)/\(S=0->L=0->R=Q):=⟨if S=1\/L=1 then Q+8 else Q,fun e=>by simp[e],fun e cf=>by simp[e,cf]⟩
    refine kK a (qA Mu st c wt it old (some R) sv aw G) ?_ ?_
    ·by_cases Y:S=1\/L=1
     ·have b5:=hw.a5
      have cd:(((4*S+L:Nat):Int) != 0)=true:=by simp;omega
      have fo:IntKind.i32.wrap (Q+8)=R:=by
       have e0:=hw.st.eq
       rw[x Y]
       refine iC ?_ ?_<;>rcases cS with rfl|rfl<;>first|(have:=j rfl;omega)|(have:=r rfl;omega)
      clear j r x E Y
      repeat refine av (a _) ?_
      refine aY a fun K b=>?_
      refine ai.bA (hJ _ rfl) 3 (n:=0) _ rfl rfl ?_;simp only[*,go_sem,-b,-a,-hJ]
      refine ai.nil a (b _ _ _ ?_);clear b K
      repeat refine av (a _) ?_
      refine cV (a _) (by simp only[*,go_sem,-a,-hJ]) ?_
      repeat refine av (a _) ?_
      refine aY a fun K b=>?_
      refine ai.bA (hJ _ rfl) 3 (n:=0) _ rfl rfl ?_;simp only[*,go_sem,-b,-a,-hJ]
      refine ai.nil a (b _ _ _ ?_);clear b K
      exact eo ⟨rfl,(by simp only[*,go_sem,-a,-hJ]),(by simp only[*,go_sem,-a,-hJ]),(by simp only[*,go_sem,-a,-hJ]),(by simp only[*,go_sem,-a,-hJ]),(by simp only[*,go_sem,-a,-hJ]),(by simp only[*,go_sem,-a,-hJ]),fun y g=>by cases g;simp only[*,go_sem,-a,-hJ],(by simp only[*,go_sem,-a,-hJ]),(by simp only[*,go_sem,-a,-hJ]),rfl⟩
     ·obtain rfl:S=0:=by omega
      obtain rfl:L=0:=by omega
      have b5:dQ old 5=0:=hw.a5
      obtain rfl:=E rfl rfl
      clear j r x E Y
      repeat refine av (a _) ?_
      refine aY a fun K b=>?_
      refine ai.bA (hJ _ rfl) 3 (n:=0) _ rfl rfl ?_;simp only[*,go_sem,-b,-a,-hJ]
      refine ai.nil a (b _ _ _ ?_);clear b K
      repeat refine av (a _) ?_
      refine cA (a _) (by simp only[*,go_sem,-a,-hJ]) ?_
      refine cC (a _) ?_
      exact eo ⟨rfl,(by simp only[*,go_sem,-a,-hJ]),(by simp only[*,go_sem,-a,-hJ]),(by simp only[*,go_sem,-a,-hJ]),(by simp only[*,go_sem,-a,-hJ]),(by simp only[*,go_sem,-a,-hJ]),(by simp only[*,go_sem,-a,-hJ]),fun y g=>by cases g;simp only[*,go_sem,-a,-hJ],(by simp only[*,go_sem,-a,-hJ]),(by simp only[*,go_sem,-a,-hJ]),rfl⟩
    clear f k o z D I q d hd
    rintro A c ab ⟨rfl,f,k,o,z,D,I,q,d,hd,rfl⟩
    replace q:=q _ rfl
    obtain ⟨M,N,u⟩:∃M:Int,(sv=true->L=1->M=R+4)/\(¬(sv=true/\L=1)->M=R):=⟨if sv=true/\L=1 then R+4 else R,fun e cf=>by simp[e,cf],fun e=>by simp[e]⟩
    refine kK a (qA Mu st c wt it old (some M) sv aw G) ?_ ?_
    ·cases sv
     ·obtain rfl:=u (by simp)
      clear j r x E N u
      repeat refine av (a _) ?_
      refine aY a fun K b=>?_
      refine ai.bA (hJ _ rfl) 6 (n:=0) _ rfl rfl ?_;simp only[*,go_sem,-b,-a,-hJ]
      refine ai.nil a (b _ _ _ ?_);clear b K
      repeat refine av (a _) ?_
      refine cA (a _) (by simp only[*,go_sem,-a,-hJ]) ?_
      refine cC (a _) ?_
      exact eo ⟨rfl,(by simp only[*,go_sem,-a,-hJ]),(by simp only[*,go_sem,-a,-hJ]),(by simp only[*,go_sem,-a,-hJ]),(by simp only[*,go_sem,-a,-hJ]),(by simp only[*,go_sem,-a,-hJ]),(by simp only[*,go_sem,-a,-hJ]),fun y g=>by cases g;simp only[*,go_sem,-a,-hJ],(by simp only[*,go_sem,-a,-hJ]),(by simp only[*,go_sem,-a,-hJ]),rfl⟩
     ·obtain rfl:aw=true:=V rfl
      rcases a7 with rfl|rfl
      ·have ea:dQ old 1=0:=hw.a1
       obtain rfl:=u (by simp)
       clear j r x E N u
       repeat refine av (a _) ?_
       refine aY a fun K b=>?_
       refine ai.bA (hJ _ rfl) 6 (n:=0) _ rfl rfl ?_;simp only[*,go_sem,-b,-a,-hJ]
       refine ai.nil a (b _ _ _ ?_);clear b K
       repeat refine av (a _) ?_
       refine cA (a _) (by simp only[*,go_sem,-a,-hJ]) ?_
       refine cC (a _) ?_
       exact eo ⟨rfl,(by simp only[*,go_sem,-a,-hJ]),(by simp only[*,go_sem,-a,-hJ]),(by simp only[*,go_sem,-a,-hJ]),(by simp only[*,go_sem,-a,-hJ]),(by simp only[*,go_sem,-a,-hJ]),(by simp only[*,go_sem,-a,-hJ]),fun y g=>by cases g;simp only[*,go_sem,-a,-hJ],(by simp only[*,go_sem,-a,-hJ]),(by simp only[*,go_sem,-a,-hJ]),rfl⟩
      ·have ea:dQ old 1=1:=hw.a1
       have o4:ji R 4=M:=by
        have e0:=hw.st.eq
        obtain ⟨rfl,rfl⟩:=X rfl
        have e1:=j rfl
        have e2:=x (.inr rfl)
        rw[N rfl rfl,(wd (C:=C+1) (S:=0) (W:=1) (L:=1) ⟨by omega,by omega,by omega,by omega⟩ (by omega)).o4]
        omega
       clear j r x E N u
       repeat refine av (a _) ?_
       refine aY a fun K b=>?_
       refine ai.bA (hJ _ rfl) 6 (n:=0) _ rfl rfl ?_;simp only[*,go_sem,-b,-a,-hJ]
       refine ai.nil a (b _ _ _ ?_);clear b K
       repeat refine av (a _) ?_
       refine cV (a _) (by simp only[*,go_sem,-a,-hJ]) ?_
       repeat refine av (a _) ?_
       refine aY a fun K b=>?_
       refine ai.bA (hJ _ rfl) 3 (n:=0) _ rfl rfl ?_;simp only[*,go_sem,-b,-a,-hJ]
       refine ai.nil a (b _ _ _ ?_);clear b K
       exact eo ⟨rfl,(by simp only[*,go_sem,-a,-hJ]),(by simp only[*,go_sem,-a,-hJ]),(by simp only[*,go_sem,-a,-hJ]),(by simp only[*,go_sem,-a,-hJ]),(by simp only[*,go_sem,-a,-hJ]),(by simp only[*,go_sem,-a,-hJ]),fun y g=>by cases g;simp only[*,go_sem,-a,-hJ],(by simp only[*,go_sem,-a,-hJ]),(by simp only[*,go_sem,-a,-hJ]),rfl⟩
    clear f k o z D I q d hd
    rintro A c ab ⟨rfl,f,k,o,z,D,I,q,d,hd,rfl⟩
    replace q:=q _ rfl
    obtain ⟨ae,T,U⟩:∃ae:Int,(aw=true->ae=M - 2)/\(aw=false->ae=M):=⟨if aw then M - 2 else M,fun e=>by simp[e],fun e=>by simp[e]⟩
    refine kK a (qA Mu st c wt it old (some ae) sv aw G) ?_ ?_
    ·cases aw
     ·obtain rfl:=U rfl
      clear j r x E N u T U
      repeat refine av (a _) ?_
      refine aY a fun K b=>?_
      refine ai.bA (hJ _ rfl) 1 (n:=0) _ rfl rfl ?_;simp only[*,go_sem,-b,-a,-hJ]
      refine ai.nil a (b _ _ _ ?_);clear b K
      repeat refine av (a _) ?_
      refine cA (a _) (by simp only[*,go_sem,-a,-hJ]) ?_
      refine cC (a _) ?_
      exact eo ⟨rfl,(by simp only[*,go_sem,-a,-hJ]),(by simp only[*,go_sem,-a,-hJ]),(by simp only[*,go_sem,-a,-hJ]),(by simp only[*,go_sem,-a,-hJ]),(by simp only[*,go_sem,-a,-hJ]),(by simp only[*,go_sem,-a,-hJ]),fun y g=>by cases g;simp only[*,go_sem,-a,-hJ],(by simp only[*,go_sem,-a,-hJ]),(by simp only[*,go_sem,-a,-hJ]),rfl⟩
     ·obtain ⟨rfl,rfl⟩:=X rfl
      have ad:∃P al,Wd M P al 1 1:=by
       have e0:=hw.st.eq
       have e1:=j rfl
       rcases a7 with rfl|rfl
       ·have e2:=E rfl rfl
        have ar:=u (by simp)
        exact ⟨C,0,wd ⟨by omega,by omega,by omega,by omega⟩ (by omega)⟩
       ·have e2:=x (.inr rfl)
        cases sv
        ·have ar:=u (by simp)
         exact ⟨C+1,0,wd ⟨by omega,by omega,by omega,by omega⟩ (by omega)⟩
        ·have ar:=N rfl rfl
         exact ⟨C+1,1,wd ⟨by omega,by omega,by omega,by omega⟩ (by omega)⟩
      obtain ⟨P,al,ad⟩:=ad
      have b2:dQ M 2=2:=ad.a2
      have n2:qv M 2=ae:=by rw[T rfl,ad.n2];rfl
      clear j r x E N u T U
      repeat refine av (a _) ?_
      refine aY a fun K b=>?_
      refine ai.bA (hJ _ rfl) 1 (n:=0) _ rfl rfl ?_;simp only[*,go_sem,-b,-a,-hJ]
      refine ai.nil a (b _ _ _ ?_);clear b K
      repeat refine av (a _) ?_
      refine cV (a _) (by simp only[*,go_sem,-a,-hJ]) ?_
      repeat refine av (a _) ?_
      refine aY a fun K b=>?_
      refine ai.bA (hJ _ rfl) 3 (n:=0) _ rfl rfl ?_;simp only[*,go_sem,-b,-a,-hJ]
      refine ai.nil a (b _ _ _ ?_);clear b K
      repeat refine av (a _) ?_
      refine cA (a _) (by simp only[*,go_sem,-a,-hJ]) ?_
      refine cC (a _) ?_
      repeat refine av (a _) ?_
      refine aY a fun K b=>?_
      refine ai.bA (hJ _ rfl) 3 (n:=0) _ rfl rfl ?_;simp only[*,go_sem,-b,-a,-hJ]
      refine ai.nil a (b _ _ _ ?_);clear b K
      exact eo ⟨rfl,(by simp only[*,go_sem,-a,-hJ]),(by simp only[*,go_sem,-a,-hJ]),(by simp only[*,go_sem,-a,-hJ]),(by simp only[*,go_sem,-a,-hJ]),(by simp only[*,go_sem,-a,-hJ]),(by simp only[*,go_sem,-a,-hJ]),fun y g=>by cases g;simp only[*,go_sem,-a,-hJ],(by simp only[*,go_sem,-a,-hJ]),(by simp only[*,go_sem,-a,-hJ]),rfl⟩
    clear f k o z D I q d hd
    rintro A c ab ⟨rfl,f,k,o,z,D,I,q,d,hd,rfl⟩
    replace q:=q _ rfl
    repeat refine av (a _) ?_
    refine aY a fun K b=>?_
    refine ai.bA (hJ _ rfl) 5 (n:=1) _ rfl rfl ?_;simp only[*,go_sem,-b,-a,-hJ]
    refine tB old ae tu aF ⟨_,_,_,rfl,(by first|(simp only[*,go_sem,-b,-a,-hJ];done)|rfl),rfl,by first|(simp only[*,go_sem,-b,-a,-hJ];done)|(simp only[*,go_sem,-b,-a,-hJ];rfl),rfl⟩ (by rfl) (by simp) (fun φ ms bz ao bS Z p he hi hm=>?_) (fun φ mu ms bz ao bS Z p he hi hm dd=>?_)
    ·obtain ⟨rfl,rfl,rfl,rfl⟩:=hm.st.uniq hw.st
     by_cases Y:ao=0/\Z=0
     ·obtain ⟨rfl,rfl⟩:=Y
      have O:ae=old+1 - (if aw then 2 else 0):=by
       have e1:=j rfl
       have e2:=E rfl rfl
       have ar:=u (by simp)
       cases aw
       ·have O:=U rfl
        simp;omega
       ·have O:=T rfl
        simp;omega
      have b5:dQ old 5=0:=hw.a5
      refine ⟨.held,by rw[O];exact ⟨_,_,_,_,p,Iz hm hi _ (by rw[he]) rfl rfl rfl (fun e=>(X e).2)⟩,?_⟩
      clear j r x E N u T U O he hi hm V X cS a7 bd
      refine ai.nil a (b _ _ _ ?_);clear b K
      repeat refine av (a _) ?_
      refine cV (a _) (by simp only[*,go_sem,-a,-hJ]) ?_
      repeat refine av (a _) ?_
      refine aY a fun K b=>?_
      refine ai.bA (hJ _ rfl) 3 (n:=0) _ rfl rfl ?_;simp only[*,go_sem,-b,-a,-hJ]
      refine ai.nil a (b _ _ _ ?_);clear b K
      repeat refine av (a _) ?_
      refine cV (a _) (by simp only[*,go_sem,-a,-hJ]) ?_
      refine ot ?_
      change tG Mu st c _ _ _
      exact ⟨rfl,(by simp only[*,go_sem,-a,-hJ]),(by simp only[*,go_sem,-a,-hJ]),(by simp only[*,go_sem,-a,-hJ]),rfl⟩
     ·have cl:ao=1\/Z=1:=by omega
      have O:ae=old+8+(if sv then 4 else 0) - (if aw then 2 else 0):=by
       have e2:=x cl
       rcases cS with rfl|rfl
       ·have e1:=j rfl
        obtain rfl:Z=1:=by omega
        cases sv
        ·have ar:=u (by simp)
         cases aw
         ·have O:=U rfl
          simp;omega
         ·have O:=T rfl
          simp;omega
        ·obtain rfl:aw=true:=V rfl
         have ar:=N rfl rfl
         have O:=T rfl
         simp;omega
       ·have eb:aw=false:=by
         cases aw
         ·rfl
         ·exact absurd (X rfl).1 (by omega)
        subst eb
        have ec:sv=false:=by
         cases sv
         ·rfl
         ·exact absurd (V rfl) (by simp)
        subst ec
        have e1:=r rfl
        have ar:=u (by simp)
        have O:=U rfl
        simp;omega
      have df:sv=true->aw=true/\Z=1:=fun e=>⟨V e,by have:=X (V e);omega⟩
      have dk:bK n φ ms<=G:=(hm.seen i hi (some old) G (by rw[he];rfl)).1
      have b5:=hw.a5
      have cd:(((4*ao+Z:Nat):Int)==0)=false:=by simp;omega
      refine ⟨.iA (bK n φ ms),by rw[O];exact ⟨_,_,_,_,p,IA hm hi _ (by rw[he]) rfl cl df⟩,?_⟩
      clear j r x E N u T U O he hi hm V X cS a7 bd Y cl df
      revert dk
      generalize bK n φ ms=B
      intro dk
      refine ai.nil a (b _ _ _ ?_);clear b K
      repeat refine av (a _) ?_
      refine cV (a _) (by simp only[*,go_sem,-a,-hJ]) ?_
      repeat refine av (a _) ?_
      refine aY a fun K b=>?_
      refine ai.bA (hJ _ rfl) 3 (n:=0) _ rfl rfl ?_;simp only[*,go_sem,-b,-a,-hJ]
      refine ai.nil a (b _ _ _ ?_);clear b K
      repeat refine av (a _) ?_
      refine cA (a _) (by simp only[*,go_sem,-a,-hJ]) ?_
      refine cC (a _) ?_
      repeat refine av (a _) ?_
      refine aY a fun K b=>?_
      refine ai.bA (hJ _ rfl) 3 (n:=0) _ rfl rfl ?_;simp only[*,go_sem,-b,-a,-hJ]
      refine ai.nil a (b _ _ _ ?_);clear b K
      repeat refine av (a _) ?_
      refine aY a fun K b=>?_
      refine ai.bA (hJ _ rfl) 2 (n:=0) _ rfl rfl ?_;simp only[*,go_sem,-b,-a,-hJ]
      refine ai.nil a (b _ _ _ ?_);clear b K
      first|refine kK a (CS Mu st c sv (.iA B)) ?_ ?_|refine tE a (CS Mu st c sv (.iA B)) ?_ ?_
      ·cases fp:(wt==0)
       ·repeat refine av (a _) ?_
        refine cA (a _) (by simp only[*,go_sem,-a,-hJ]) ?_
        refine cC (a _) ?_
        exact eo ⟨wt,rfl,(by simp only[*,go_sem,-a,-hJ]),(by simp only[*,go_sem,-a,-hJ]),(by simp only[*,go_sem,-a,-hJ]),(by simp only[*,go_sem,-a,-hJ]),(by simp only[*,go_sem,-a,-hJ]),rfl⟩
       ·repeat refine av (a _) ?_
        refine cV (a _) (by simp only[*,go_sem,-a,-hJ]) ?_
        repeat refine av (a _) ?_
        refine aY a fun K b=>?_
        refine CR CF CK ⟨_,_,_,rfl,(by first|(simp only[*,go_sem,-b,-a,-hJ];done)|rfl),rfl,by first|(simp only[*,go_sem,-b,-a,-hJ];done)|(simp only[*,go_sem,-b,-a,-hJ];rfl),rfl⟩ (by simp) fun t=>?_
        refine ai.bA (hJ _ rfl) 1 (n:=0) _ rfl rfl ?_;simp only[*,go_sem,-b,-a,-hJ]
        refine ai.nil a (b _ _ _ ?_);clear b K
        exact eo ⟨t,rfl,(by simp only[*,go_sem,-a,-hJ]),(by simp only[*,go_sem,-a,-hJ]),(by simp only[*,go_sem,-a,-hJ]),(by simp only[*,go_sem,-a,-hJ]),(by simp only[*,go_sem,-a,-hJ]),rfl⟩
      clear f k o z D I q d hd b5 cd
      rintro A c ab ⟨dp,rfl,f,k,o,d,hd,rfl⟩
      repeat refine av (a _) ?_
      refine aY a fun K b=>?_
      refine ai.bA (hJ _ rfl) 4 (n:=1) _ rfl rfl ?_;simp only[*,go_sem,-b,-a,-hJ]
      refine Jw (slot A 8) (.int .i64 2) Jf aF ⟨_,_,_,rfl,(by first|(simp only[*,go_sem,-b,-a,-hJ];done)|rfl),rfl,by first|(simp only[*,go_sem,-b,-a,-hJ];done)|(simp only[*,go_sem,-b,-a,-hJ];rfl),rfl⟩ (by rfl) rfl ?_
      refine ai.nil a (b _ _ _ ?_);clear b K
      first|refine kK a (CU Mu st c (.jI B)) ?_ ?_|refine tE a (CU Mu st c (.jI B)) ?_ ?_
      ·cases sv
       ·repeat refine av (a _) ?_
        refine aY a fun K b=>?_
        refine ai.bA (hJ _ rfl) 2 (n:=6) _ rfl rfl ?_;simp only[*,go_sem,-b,-a,-hJ]
        refine CR CF CK ⟨_,_,_,rfl,(by first|(simp only[*,go_sem,-b,-a,-hJ];done)|rfl),rfl,by first|(simp only[*,go_sem,-b,-a,-hJ];done)|(simp only[*,go_sem,-b,-a,-hJ];rfl),rfl⟩ (by simp) fun t=>?_
        refine ai.bA (hJ _ rfl) 5 (n:=0) _ rfl rfl ?_;simp only[*,go_sem,-b,-a,-hJ]
        refine ai.nil a (b _ _ _ ?_);clear b K
        exact eo ⟨dp,_,rfl,(by simp only[*,go_sem,-a,-hJ]),(by simp only[*,go_sem,-a,-hJ]),(by simp only[*,go_sem,-a,-hJ];rfl),(by simp only[*,go_sem,-a,-hJ]),(by simp only[*,go_sem,-a,-hJ]),rfl⟩
       ·repeat refine av (a _) ?_
        refine aY a fun K b=>?_
        refine ai.bA (hJ _ rfl) 8 (n:=0) _ rfl rfl ?_;simp only[*,go_sem,-b,-a,-hJ]
        refine ai.nil a (b _ _ _ ?_);clear b K
        exact eo ⟨dp,true,rfl,(by simp only[*,go_sem,-a,-hJ]),(by simp only[*,go_sem,-a,-hJ]),(by simp only[*,go_sem,-a,-hJ]),(by simp only[*,go_sem,-a,-hJ]),(by simp only[*,go_sem,-a,-hJ]),rfl⟩
      clear f k o d hd
      rintro A c ab ⟨ed,dq,rfl,f,k,o,d,hd,rfl⟩
      repeat refine av (a _) ?_
      refine aY a fun K b=>?_
      refine ai.bA (hJ _ rfl) 3 (n:=2) _ rfl rfl ?_;simp only[*,go_sem,-b,-a,-hJ]
      refine oz tv ov ⟨_,rfl,(by first|(simp only[*,go_sem,-b,-a,-hJ];done)|rfl),rfl,rfl⟩ (by rfl) (by simp only[*,go_sem,-b,-a,-hJ]) (fun φ mu ms H ba cu cy bm he hi hm=>?_)
      have ds:H<=3*n:=hm.bound
      have a0:=wd hm.st (by omega)
      rcases (by have:=hm.st.s;omega:ba=0\/ba=1) with rfl|rfl
      ·obtain ⟨J,rfl,c0⟩:=IC hm hi {mp:=.want true mu (bK n φ ms),gp:=.cnt,stored:=st,deaf:=1} (by rw[he]) rfl rfl
       have fr:bK n φ ms<B:=c0
       refine ⟨.want true mu (bK n φ ms),⟨_,_,_,_,bm,J⟩,?_⟩
       have b4:dQ mu 4=0:=a0.a4
       clear J c0
       refine ai.bA (hJ _ rfl) 1 (n:=0) _ rfl rfl ?_;simp only[*,go_sem,-b,-a,-hJ]
       refine ai.nil a (b _ _ _ ?_);clear b K
       repeat refine av (a _) ?_
       refine aY a fun K b=>?_
       refine ai.bA (hJ _ rfl) 3 (n:=0) _ rfl rfl ?_;simp only[*,go_sem,-b,-a,-hJ]
       refine ai.nil a (b _ _ _ ?_);clear b K
       repeat refine av (a _) ?_
       refine cA (a _) (by simp only[*,go_sem,-a,-hJ]) ?_
       refine cC (a _) ?_
       repeat refine av (a _) ?_
       refine aY a fun K b=>?_
       refine ai.bA (hJ _ rfl) 1 (n:=0) _ rfl rfl ?_;simp only[*,go_sem,-b,-a,-hJ]
       refine ai.nil a (b _ _ _ ?_);clear b K
       repeat refine av (a _) ?_
       refine aY a fun K b=>?_
       refine ai.bA (hJ _ rfl) 1 (n:=0) _ rfl rfl ?_;simp only[*,go_sem,-b,-a,-hJ]
       refine ai.nil a (b _ _ _ ?_);clear b K
       change ∃p,p<m/\tF Mu n st c p _ _ _
       exact ⟨8*bK n φ ms+5,by omega,ed,0,mu,dq,true,H,0,1,cy,bK n φ ms,rfl,(by simp only[*,go_sem,-a,-hJ]),(by simp only[*,go_sem,-a,-hJ]),(by simp only[*,go_sem,-a,-hJ]),(by simp only[*,go_sem,-a,-hJ]),(by simp only[*,go_sem,-a,-hJ]),(by simp only[*,go_sem,-a,-hJ]),(by simp only[*,go_sem,-a,-hJ]),(by simp only[*,go_sem,-a,-hJ]),a0,ds,by omega,by omega,fun _=>rfl,fun _=>⟨rfl,rfl⟩,by simp,rfl⟩
      ·obtain ⟨J,rfl,rfl,eh⟩:=ID hm hi {mp:=.kH (decide (2<=H)),gp:=.cnt,stored:=st,deaf:=1} (by rw[he]) rfl rfl
       refine ⟨.kH (decide (2<=H)),⟨_,_,_,_,bm,J⟩,?_⟩
       have b4:dQ mu 4=4:=a0.a4
       have b3:dQ mu 3=0:=a0.a3
       have br:((H:Int)==0)=false:=by simp;omega
       have da:=a0.sh
       obtain ⟨y,g⟩:∃y,decide (2<=H)=y:=⟨_,rfl⟩
       have a6:((H:Int)==1)=false->y=true:=fun e=>by rw[<-g];simp at e ⊢;omega
       rw[g]
       clear J he hi hm a0 ds eh g
       refine ai.bA (hJ _ rfl) 1 (n:=0) _ rfl rfl ?_;simp only[*,go_sem,-b,-a,-hJ]
       refine ai.nil a (b _ _ _ ?_);clear b K
       repeat refine av (a _) ?_
       refine aY a fun K b=>?_
       refine ai.bA (hJ _ rfl) 3 (n:=0) _ rfl rfl ?_;simp only[*,go_sem,-b,-a,-hJ]
       refine ai.nil a (b _ _ _ ?_);clear b K
       repeat refine av (a _) ?_
       refine cV (a _) (by simp only[*,go_sem,-a,-hJ]) ?_
       repeat refine av (a _) ?_
       refine aY a fun K b=>?_
       refine ai.bA (hJ _ rfl) 5 (n:=3) _ rfl rfl ?_;simp only[*,go_sem,-b,-a,-hJ]
       refine ai.mW mu (H:Int) (a _) ⟨_,rfl,(by first|(simp only[*,go_sem,-b,-a,-hJ];done)|rfl),rfl,rfl⟩ (by simp only[*,go_sem,-b,-a,-hJ]) (by simp only[*,go_sem,-b,-a,-hJ]) da ?_
       refine ai.bA (hJ _ rfl) 2 (n:=0) _ rfl rfl ?_;simp only[*,go_sem,-b,-a,-hJ]
       refine ai.nil a (b _ _ _ ?_);clear b K
       repeat refine av (a _) ?_
       refine cA (a _) (by simp only[*,go_sem,-a,-hJ]) ?_
       refine cC (a _) ?_
       repeat refine av (a _) ?_
       refine aY a fun K b=>?_
       refine ai.bA (hJ _ rfl) 1 (n:=0) _ rfl rfl ?_;simp only[*,go_sem,-b,-a,-hJ]
       refine ai.nil a (b _ _ _ ?_);clear b K
       repeat refine av (a _) ?_
       refine tE a (JG Mu st c y) ?_ ?_
       ·cases dq
        ·repeat refine av (a _) ?_
         refine aY a fun K b=>?_
         refine ai.bA (hJ _ rfl) 7 (n:=0) _ rfl rfl ?_;simp only[*,go_sem,-b,-a,-hJ]
         refine ai.nil a (b _ _ _ ?_);clear b K
         exact eo ⟨true,rfl,(by simp only[*,go_sem,-a,-hJ]),(by simp only[*,go_sem,-a,-hJ]),(by simp only[*,go_sem,-a,-hJ]),(by simp only[*,go_sem,-a,-hJ]),(by simp only[*,go_sem,-a,-hJ]),by simp,rfl⟩
        ·repeat refine av (a _) ?_
         refine aY a fun K b=>?_
         refine ai.bA (hJ _ rfl) 4 (n:=3) _ rfl rfl ?_;simp only[*,go_sem,-b,-a,-hJ]
         refine ai.mW mu (H:Int) (a _) ⟨_,rfl,(by first|(simp only[*,go_sem,-b,-a,-hJ];done)|rfl),rfl,rfl⟩ (by simp only[*,go_sem,-b,-a,-hJ]) (by simp only[*,go_sem,-b,-a,-hJ]) da ?_
         refine ai.bA (hJ _ rfl) 2 (n:=0) _ rfl rfl ?_;simp only[*,go_sem,-b,-a,-hJ]
         refine ai.nil a (b _ _ _ ?_);clear b K
         exact eo ⟨(H:Int)==1,rfl,(by simp only[*,go_sem,-a,-hJ]),(by simp only[*,go_sem,-a,-hJ]),(by simp only[*,go_sem,-a,-hJ]),(by simp only[*,go_sem,-a,-hJ]),(by simp only[*,go_sem,-a,-hJ]),a6,rfl⟩
       clear f k o d hd b4 b3 br da a6
       rintro A c ab ⟨e,rfl,f,fs,ft,d,hd,a6,rfl⟩
       cases e
       ·obtain rfl:=a6 rfl
        clear a6
        repeat refine av (a _) ?_
        refine cA (a _) (by simp only[*,go_sem,-a,-hJ]) ?_
        refine cC (a _) ?_
        repeat refine av (a _) ?_
        refine aY a fun K b=>?_
        refine ai.bA (hJ _ rfl) 4 (n:=1) _ rfl rfl ?_;simp only[*,go_sem,-b,-a,-hJ]
        refine ya (-7) xW aF ⟨_,_,_,rfl,(by first|(simp only[*,go_sem,-b,-a,-hJ];done)|rfl),rfl,by first|(simp only[*,go_sem,-b,-a,-hJ];done)|(simp only[*,go_sem,-b,-a,-hJ];rfl),rfl⟩ (by rfl) (by simp) (fun φ mu ms P al bl b0 b1 he hi hm=>⟨.held,_,?_,⟨_,_,_,_,_,Ce hm hi {mp:=.held,gp:=.cnt,stored:=st,deaf:=1} false (by rw[he]) rfl (fun _=>rfl)⟩,?_⟩)
        ·have e0:=hm.st.eq
         have a9:P<=3*n:=hm.bound
         have et:=hm.st.s
         have eu:=hm.st.w
         have ev:=hm.st.l
         rw[iC (by omega) (by omega)]
         simp;omega
        refine ai.nil a (b _ _ _ ?_);clear b K
        refine ot ?_
        change tG Mu st c _ _ _
        exact ⟨rfl,(by simp only[*,go_sem,-a,-hJ]),(by simp only[*,go_sem,-a,-hJ]),(by simp only[*,go_sem,-a,-hJ]),rfl⟩
       ·clear a6
        repeat refine av (a _) ?_
        refine cV (a _) (by simp only[*,go_sem,-a,-hJ]) ?_
        repeat refine av (a _) ?_
        refine aY a fun K b=>?_
        refine ai.bA (hJ _ rfl) 3 (n:=0) _ rfl rfl ?_;simp only[*,go_sem,-b,-a,-hJ]
        refine ai.nil a (b _ _ _ ?_);clear b K
        repeat refine av (a _) ?_
        refine aY a fun K b=>?_
        refine ai.bA (hJ _ rfl) 4 (n:=1) _ rfl rfl ?_;simp only[*,go_sem,-b,-a,-hJ]
        refine ya (-11) xW aF ⟨_,_,_,rfl,(by first|(simp only[*,go_sem,-b,-a,-hJ];done)|rfl),rfl,by first|(simp only[*,go_sem,-b,-a,-hJ];done)|(simp only[*,go_sem,-b,-a,-hJ];rfl),rfl⟩ (by rfl) (by simp) (fun φ mu ms P al bl b0 b1 he hi hm=>⟨.held,_,?_,⟨_,_,_,_,_,Ce hm hi {mp:=.held,gp:=.cnt,stored:=st,deaf:=1} true (by rw[he]) rfl (by simp)⟩,?_⟩)
        ·have e0:=hm.st.eq
         have a9:P<=3*n:=hm.bound
         have et:=hm.st.s
         have eu:=hm.st.w
         have ev:=hm.st.l
         rw[iC (by omega) (by omega)]
         simp;omega
        refine ai.nil a (b _ _ _ ?_);clear b K
        refine ot ?_
        change tG Mu st c _ _ _
        exact ⟨rfl,(by simp only[*,go_sem,-a,-hJ]),(by simp only[*,go_sem,-a,-hJ]),(by simp only[*,go_sem,-a,-hJ]),rfl⟩
    ·obtain ⟨J,a8,bj⟩:=tc hm hi {mp:=.want aw mu (bK n φ ms),gp:=.cnt,stored:=st,deaf:=1} (by rw[he]) rfl
     have c0:bK n φ ms<G:=bj dd
     refine ⟨.want aw mu (bK n φ ms),⟨_,_,_,_,p,J⟩,?_⟩
     clear j r x E N u T U J a8 bj he hi hm X cS a7 bd
     refine ai.nil a (b _ _ _ ?_);clear b K
     repeat refine av (a _) ?_
     refine cA (a _) (by simp only[*,go_sem,-a,-hJ]) ?_
     repeat refine av (a _) ?_
     refine aY a fun K b=>?_
     refine ai.bA (hJ _ rfl) 3 (n:=2) _ rfl rfl ?_;simp only[*,go_sem,-b,-a,-hJ]
     refine oz tv ov ⟨_,rfl,(by first|(simp only[*,go_sem,-b,-a,-hJ];done)|rfl),rfl,rfl⟩ (by rfl) (by simp only[*,go_sem,-b,-a,-hJ]) (fun bb db bc H ba cu cy bm dt du bo=>?_)
     obtain ⟨ca,dv,_⟩:=tc bo du {mp:=.want aw db (bK n bb bc),gp:=.cnt,stored:=st,deaf:=1} (by rw[dt]) rfl
     have fu:bK n bb bc<=bK n φ ms:=dv
     have a9:H<=3*n:=bo.bound
     have ad:=wd bo.st (by omega)
     have cb:aw=true->ba=0/\cu=1:=fun e=>by subst e;exact Cd bo du (by rw[dt])
     refine ⟨.want aw db (bK n bb bc),⟨_,_,_,_,bm,ca⟩,?_⟩
     clear ca dv
     refine ai.bA (hJ _ rfl) 1 (n:=0) _ rfl rfl ?_;simp only[*,go_sem,-b,-a,-hJ]
     refine ai.nil a (b _ _ _ ?_);clear b K
     change ∃p,p<m/\tF Mu n st c p _ _ _
     exact ⟨8*bK n bb bc+(5 - it).toNat,by omega,wt,it,db,sv,aw,H,ba,cu,cy,bK n bb bc,rfl,(by simp only[*,go_sem,-a,-hJ]),(by simp only[*,go_sem,-a,-hJ]),(by simp only[*,go_sem,-a,-hJ]),(by simp only[*,go_sem,-a,-hJ]),(by simp only[*,go_sem,-a,-hJ]),(by simp only[*,go_sem,-a,-hJ]),(by simp only[*,go_sem,-a,-hJ]),(by simp only[*,go_sem,-a,-hJ]),ad,a9,by omega,by omega,V,cb,Nat.le_refl _,rfl⟩
 ·rintro A F' aK ⟨rfl,f,d,hd,rfl⟩
  repeat refine av (a _) ?_
  refine cV (a _) (by simp only[*,go_sem,-a,-hJ]) ?_
  repeat refine av (a _) ?_
  refine aY a fun K b=>?_
  refine tA lJ ⟨_,_,_,rfl,(by first|(simp only[*,go_sem,-b,-a,-hJ];done)|rfl),rfl,by first|(simp only[*,go_sem,-b,-a,-hJ];done)|(simp only[*,go_sem,-b,-a,-hJ];rfl),rfl⟩ (by simp) (by simp) rfl ?_
  refine ai.nil a (b _ _ _ ?_);clear b K
  repeat refine av (a _) ?_
  refine aY a fun K b=>?_
  refine ai.bA (hJ _ rfl) 1 (n:=2) _ rfl rfl ?_;simp only[*,go_sem,-b,-a,-hJ]
  refine tC ⟨Mu,0,none⟩ xY lK x2 ⟨_,rfl,(by first|(simp only[*,go_sem,-b,-a,-hJ];done)|rfl),rfl,rfl⟩ (by simp) (by simp only[*,go_sem,-b,-a,-hJ]) yb ?_
  refine CP tr ⟨_,_,_,rfl,(by first|(simp only[*,go_sem,-b,-a,-hJ];done)|rfl),rfl,by first|(simp only[*,go_sem,-b,-a,-hJ];done)|(simp only[*,go_sem,-b,-a,-hJ];rfl),rfl⟩ (by rfl) ?_
  refine ai.nil a (b _ _ _ ?_);clear b K
  exact lH rfl (by simp only[*,go_sem,-a,-hJ]) ⟨rfl,rfl,rfl⟩
end
end Go.Proofs.YtpgcmoanfifglaaGreatDoor
end
section
namespace Go.Proofs.YtpgcmoanfifglaaGreatDoor
open Go Go.Sep Go.Proofs Go.Conc
open Go.ConcN (upd upd_same)
open Go.ConcM (muA msA)
open Go.ConcR (stA smA)
set_option maxRecDepth 100000
set_option maxHeartbeats 4000000
attribute [local go_sem] Int.reduceBEq Int.reduceBNe muA msA stA smA
section
variable {Mu Wg Is n base T0 i : Nat} {bs : Nat → Bool} {st : Bool} {F : aa}
theorem JI (aF:Mu≠Wg/\Mu≠Is/\Wg≠Is)(b:n<67108864):
  cB Tryz.prog (WJ (CY Mu Wg Is n bs base T0) i) 137 #[.pointer (some (muA Mu))] F ⟨.idle,.cnt,st,0⟩ (fun v F' aK=>v= .tuple #[]/\F'=F/\aK=⟨.held,.cnt,st,0⟩):=by
 have a:=WJ.ej (CY Mu Wg Is n bs base T0) i
 have hJ:∀ph:Ph,ph.gp= .cnt->Go.Sep.Closed Tryz.prog false (WJ (CY Mu Wg Is n bs base T0) i ph):=fun ph h=>Wk.closed (CY Mu Wg Is n bs base T0) i ph h
 refine cB.go (main:=false) a Tryz.func137 rfl Tryz.ntmps137 (by simp) fun A d hd hs=>?_
 have e:=hs 0
 clear hs
 repeat refine av (a _) ?_
 refine cW a ?_
 refine ai.bA (hJ _ rfl) 3 (n:=1) _ rfl rfl ?_;simp only[*,go_sem]
 refine ai.fV (a _) rfl rfl rfl EL (by simp only[*,go_sem,muA]) (Jz aF (JH aF b)) fun v F' aK c=>?_
 obtain ⟨rfl,rfl,rfl⟩:=c
 refine ai.nil a ?_
 exact lH rfl (by simp only[*,go_sem]) ⟨rfl,rfl,rfl⟩
theorem JJ (aF:Mu≠Wg/\Mu≠Is/\Wg≠Is)(b:n<67108864):
  cB Tryz.prog (WJ (CY Mu Wg Is n bs base T0) i) 138 #[.pointer (some (muA Mu))] F ⟨.held,.cnt,st,0⟩ (fun v F' aK=>v= .tuple #[]/\F'=F/\aK=⟨.fin,.cnt,st,0⟩):=by
 have a:=WJ.ej (CY Mu Wg Is n bs base T0) i
 have hJ:∀ph:Ph,ph.gp= .cnt->Go.Sep.Closed Tryz.prog false (WJ (CY Mu Wg Is n bs base T0) i ph):=fun ph h=>Wk.closed (CY Mu Wg Is n bs base T0) i ph h
 refine cB.go (main:=false) a Tryz.func138 rfl Tryz.ntmps138 (by simp) fun A d hd hs=>?_
 have e:=hs 0
 clear hs
 repeat refine av (a _) ?_
 refine cW a ?_
 refine ai.bA (hJ _ rfl) 3 (n:=1) _ rfl rfl ?_;simp only[*,go_sem]
 refine ai.fV (a _) rfl rfl rfl EM (by simp only[*,go_sem,muA]) (JC aF b) fun v F' aK c=>?_
 obtain ⟨rfl,rfl,rfl⟩:=c
 refine ai.nil a ?_
 exact lH rfl (by simp only[*,go_sem]) ⟨rfl,rfl,rfl⟩
end
end Go.Proofs.YtpgcmoanfifglaaGreatDoor
end
section
namespace Go.Sep
open Go Go.Conc
def tH (op:BinOp)(u v:Value):Option Value:=match op with
 | .shl=>match u,v with
  | .int k a,.int _ b=>if b<0 then none else some (.int k (k.wrap (a*2 ^ min b.toNat k.bits)))
  |_,_=>none
 | .shr=>match u,v with
  | .int k a,.int _ b=>if b<0 then none else some (.int k (a.fdiv (2 ^ min b.toNat k.bits)))
  |_,_=>none
 |_=>m5 op u v
def oA (P:Program)(op:Op)(a:Act):Option Value:=match op with
 | .move x| .assign x=>some (ev a x)
 | .nilCheck x=>match ev a x with
  | .pointer (some ad)=>some (.pointer (some ad))
  |_=>none
 | .pick c x y=>match ev a c with
  | .bool b=>some (if b then ev a x else ev a y)
  |_=>none
 | .binOp op t x y _=>tH op (ev a x) (ev a y)
 | .unOp op _ x=>lT op (ev a x)
 | .convert src dst x=>lV P src dst (ev a x)
 | .fieldAddr s x n=>match ev a x with
  | .pointer (some ad)=>match cM P s n with
   |some k=>some (.pointer (some (ad.add k)))
   |none=>none
  |_=>none
 |_=>none
theorem JK {P:Program}{op:BinOp}{t:TypeId}{x y:Operand}{u v r:Value}(h:tH op u v=some r)(w:World):
  (do eqGuard op t x y u v;pure (.value (<-binOp op t u v)):Sem Next).run P w= .ok (.value r) w/\(do eqGuard op t x y u v;pure (.value (<-binOp op t u v)):Sem Next).events P w #[]=#[]:=by
 unfold tH at h
 split at h
 ·split at h
  case h_2=>cases h
  split at h
  ·cases h
  ·rename_i hb;cases h;simp[eqGuard,binOp,Op.shift,hb]
 ·split at h
  case h_2=>cases h
  split at h
  ·cases h
  ·rename_i hb;cases h;simp[eqGuard,binOp,Op.shift,hb]
 ·rename_i n1 n2
  unfold m5 at h
  split at h
  case h_2=>cases h
  rename_i k a d b
  split at h
  case isFalse=>cases h
  rename_i c
  subst c
  cases op<;>simp only[binOp,ne_eq,not_true_eq_false,if_false,Op.intArith,Op.intDiv,Op.intCmp,Op.intBits,Op.shift,eqGuard] at h ⊢<;>first
   |(cases h;done)
   |(exact absurd rfl n1)
   |(exact absurd rfl n2)
   |(cases h;simp;done)
   |(split at h
     ·cases h
     ·rename_i hb;cases h;simp[hb])
theorem CV {P:Program}{o:Oper}{a:Act}{v:Value}(h:oA P o.op a=some v)(w:World):(execOp a.eval o).run P w= .ok (.value v) w/\(execOp a.eval o).events P w #[]=#[]:=by
 obtain ⟨dst,op,type,pos,after,guard⟩:=o;unfold execOp;simp only[ep] at h ⊢;unfold oA at h;cases op<;>simp only[reduceCtorEq] at h ⊢
 case move x=>cases h;simp
 case assign x=>cases h;simp
 case nilCheck x=>
  split at h
  ·rename_i ad e;cases h;simp[e]
  ·cases h
 case pick c x y=>
  split at h
  ·rename_i b hb;cases h;simp[hb,asBool]
  ·cases h
 case binOp op t x y r=>have:=JK (P:=P) (t:=t) (x:=x) (y:=y) h w;simpa using this
 case unOp op t x=>
  revert h;cases ev a x<;>cases op<;>simp only[lT,reduceCtorEq,false_implies,Option.some.injEq]<;>intro h<;>subst h<;>simp[Op.unary,Op.intArith]
 case convert src dst x=>
  revert h;cases e:ev a x<;>simp only[lV,reduceCtorEq,false_implies];intro h;split at h
  ·rename_i k1 z h1 i;cases h;simp[convert,run_underlying h1,run_underlying i,Conv.intToInt]
  ·cases h
 case fieldAddr s x n=>
  split at h
  case h_2=>cases h
  rename_i ad j;split at h
  case h_2=>cases h
  rename_i k d;cases h;unfold cM at d;split at d
  case h_2=>cases d
  rename_i A g;split at d
  case h_2=>cases d
  rename_i f l;split at d
  case h_2=>cases d
  rename_i m hm;cases d;obtain ⟨inf,p,q⟩:=Option.map_eq_some_iff.1 hm;have u:Instr.sureAddr (.pointer (some ad))=(Pure.pure ad:Sem Addr):=rfl;simp[Instr.fieldAt,run_underlying g,g,l,j,u,fieldPlace,Go.sizeOf,typeInfo,p,q,Result.andThen,Result.evThen]
def iG (P:Program)(ops:Array Oper)(K:Act->Prop):List Oper->Act->Prop
 |[],a=>K a
 |o::rest,a=>match cz ops o a with
  |some true=>match oA P o.op a with
   |some v=>iG P ops K rest (aZ a o.dst v)
   |none=>False
  |some false=>iG P ops K rest (aZ a o.dst undef)
  |none=>False
theorem JL {P:Program}{ops:Array Oper}{K:Act->Prop}{a:Act}:iG P ops K [] a=K a:=(Eq.refl _).trans (Eq.refl _)
theorem JM {P:Program}{ops:Array Oper}{K:Act->Prop}{o:Oper}{rest:List Oper}{a:Act}:iG P ops K (o::rest) a=match cz ops o a with
  |some true=>match oA P o.op a with
   |some v=>iG P ops K rest (aZ a o.dst v)
   |none=>False
  |some false=>iG P ops K rest (aZ a o.dst undef)
  |none=>False:=(Eq.refl _).trans (Eq.refl _)
attribute [go_sem] JL JM oA tH
section
variable {P : Program} {main : Bool} {S : Type} {JF : S → Goroutine → aa → Prop} {fi : FuncId} {ops : Array Oper} {F : aa} {ph : S} {Q : Act → aa → S → Prop}
theorem yc (d:dR P main (JF ph)):∀(l:List Oper) (i n:Nat) (a:Act),(∀j o,l[j]?=some o->ops[i+j]?=some o)->iG P ops (fun b=>ai JF fi ops (i+l.length) n Q b F ph) l a->ai JF fi ops i (l.length+n) Q a F ph
 |[],i,n,a,_,h=>by rw[List.length_nil,Nat.zero_add];exact h
 |o::rest,i,n,a,k,h=>by
  have m:ops[i]?=some o:=k 0 o rfl
  have p:∀j x,rest[j]?=some x->ops[i+1+j]?=some x:=fun j x q=>by rw[Nat.add_assoc,Nat.add_comm 1 j];exact k (j+1) x q
  have e:(o::rest).length+n=(rest.length+n)+1:=by rw[List.length_cons];omega
  have e2:∀b,ai JF fi ops (i+(o::rest).length) n Q b F ph->ai JF fi ops (i+1+rest.length) n Q b F ph:=fun b x=>by
   rw[show i+1+rest.length=i+(o::rest).length by rw[List.length_cons];omega];exact x
  rw[e]
  have mono:∀(l:List Oper) (a:Act) {K f:Act->Prop},(∀a,K a->f a)->iG P ops K l a->iG P ops f l a:=by
   intro l
   induction l with
   |nil=>intro a K f g h;exact g a h
   |cons o l ih=>
    intro a K f g h
    unfold iG at h ⊢
    cases hg:cz ops o a with
    |none=>rw[hg] at h;exact h.elim
    |some t=>
     rw[hg] at h
     cases t with
     |false=>exact ih _ g h
     |true=>
      simp only at h ⊢
      cases c:oA P o.op a with
      |none=>rw[c] at h;exact h.elim
      |some v=>rw[c] at h;exact ih _ g h
  unfold iG at h
  split at h
  ·rename_i hg
   split at h
   ·rename_i v c
    exact ai.plain d v m hg (fun w=>(CV c w).1) (fun w=>(CV c w).2) (yc d rest (i+1) n _ p (mono _ _ e2 h))
   ·exact h.elim
  ·rename_i hg
   exact ai.skip d m hg (yc d rest (i+1) n _ p (mono _ _ e2 h))
  ·exact h.elim
theorem ai.pure (d:dR P main (JF ph))(m:Nat){i n:Nat}{a:Act}(l:List Oper)(c:(ops.toList.drop i).take m=l)(hm:l.length=m)(h:iG P ops (fun e=>ai JF fi ops (i+m) n Q e F ph) l a):ai JF fi ops i (m+n) Q a F ph:=by
 subst hm;refine yc d l i n a (fun j o b=>?_) h;rw[<-c] at b;have f:j<l.length:=by
  rcases Nat.lt_or_ge j l.length with x|x
  ·exact x
  ·rw[c,List.getElem?_eq_none x] at b;cases b
 rw[List.getElem?_take,if_pos f,List.getElem?_drop] at b;simpa using b
end
end Go.Sep
end
section
namespace Go.Sep
open Go Go.Conc
open Go.ConcN (sumTo upd upd_ne upd_same)
open Go.ConcM (MuAt muA msA muBlock OsLater)
open Go.ConcR (WgAt wgBlock stA smA)
section
variable {c : Cy} {i : Nat} {ph : Ph} {ops : Array Oper} {j n : Nat} {Q : Act → aa → Ph → Prop} {a : Act} {F : aa} {f fi : FuncId} {d : Option Tmp}
theorem Inv.group {k:Nat}{φ:Nat->Ph}{p0:P0}{s:Sh}(h:Inv c.n c.bs k φ p0 s)(hi:i<c.n)(he:φ i=ph)(h1:ph.gp≠ .new)(a:ph.gp≠ .cnt){gp:Gp}(b:gp≠ .new){wg ws:Int}
  (hw:dz c.n (upd φ i {ph with gp:=gp}) p0 wg ws):Inv c.n c.bs k (upd φ i {ph with gp:=gp}) p0 {s with wg:=wg,ws:=ws}:=by
 obtain ⟨C,S,W,L,m,hm⟩:=h.m
 refine h.jK hi he h1 b ⟨C,S,W,L,m,mS hm hi _ (.inl (by rw[he]))⟩ hw ?_ (fun _=>?_)
 ·have:=h.i.all i hi
  rw[he] at this
  exact (x8 this).symm
 ·have:=h.i.done i hi (by rw[he];exact a) (by rw[he];exact h1)
  rw[he] at this
  exact this
theorem JN (l:Entry c.P f (Extern.Atomic.update (Op.intArith .add) .u64 true))(aF:c.Mu≠c.Wg/\c.Mu≠c.Is/\c.Wg≠c.Is)(E:c.n<67108864)(m:At ops j a f [.pointer (some (stA c.Wg)),.int .u64 18446744069414584320] d)
  (h1:ph.gp= .rel) (h0:0<ph.deaf)
  (h:∀v t:Nat,v<=c.n->t<=1->ai (WJ c i) fi ops (j+1) n Q (aZ a d (.int .u64 ((v:Int)*4294967296+t))) F {ph with gp:=if v=0/\t=1 then .ld else .gone}):
  ai (WJ c i) fi ops j (n+1) Q a F ph:=by
 obtain ⟨o,cw,dg,g,hg,p,q,rfl⟩:=m
 obtain ⟨x,y,rfl,r,u⟩:=qy q
 obtain ⟨fn,f1,f2,f3,f4,f5⟩:=l.ex
 refine fq g (by rw[h1];simp) fun w s k φ p0 _ hs hi he e=>.inr ?_
 obtain ⟨v,t,e1,ht,z,_⟩:=Ch e.w hi ph (by rw[he];exact h1)
 obtain ⟨A,B,C,G,_,hw⟩:=Ch e.w hi {ph with gp:=if v=0/\t=1 then .ld else .gone} (by rw[he];exact h1)
 obtain ⟨rfl,rfl⟩:v=A/\t=B:=by simp only[cT] at e1 C;omega
 have e2:IntKind.u64.wrap (s.wg+18446744069414584320)=(v:Int)*4294967296+t:=by
  rw[e1]
  unfold IntKind.wrap
  simp only[IntKind.bits,IntKind.signed,cT]
  simp
  omega
 have D:s.wg - cT=(v:Int)*4294967296+t:=by rw[e1];simp only[cT];omega
 refine ⟨.int .u64 ((v:Int)*4294967296+t),_,_,{s with wg:=(v:Int)*4294967296+t},{ph with gp:=if v=0/\t=1 then .ld else .gone},fun b H cs hb=>by rw[<-e2];exact stepG_add_atomic g (b9 hg) hb.kind p f1 f2 f3 f4 .u64 f5 r u hs.wg.1 hs.wg.2,by rw[<-e2];exact hs.tw aF _,.set _ (.inr (.inl rfl)),?_,x6 rfl ?_ h0 (.inl rfl),.inr dF,h v t z ht⟩
 ·refine e.group hi he (by rw[h1];simp) (by rw[h1];simp) (by split<;>simp) ?_
  rw[<-D]
  exact hw rfl
 ·simp only[h1];split<;>simp
theorem JO (l:Entry c.P f (Extern.Atomic.loadT (.int .u64)))(m:At ops j a f [.pointer (some (stA c.Wg))] d)(h1:ph.gp= .ld)(h0:0<ph.deaf)
  (h:ai (WJ c i) fi ops (j+1) n Q (aZ a d (.int .u64 1)) F {ph with gp:=.st}):ai (WJ c i) fi ops j (n+1) Q a F ph:=by
 obtain ⟨o,cw,dg,e,hg,p,q,rfl⟩:=m
 obtain ⟨x,rfl,r⟩:=jN q
 obtain ⟨fn,f1,f2,f3,f4,f5⟩:=l.ex
 refine fq e (by rw[h1];simp) fun w s k φ p0 _ hs hi he g=>.inr ?_
 obtain ⟨e1,hw⟩:=IK g.w hi {ph with gp:=.st} (by rw[he];exact h1) rfl
 exact ⟨.int .u64 1,_,_,s,{ph with gp:=.st},fun b t cs hb=>by rw[<-e1];exact stepG_load_atomic e (b9 hg) hb.kind p f1 f2 f3 f4 .u64 f5 r hs.wg.1,hs,.refl _ _,g.group hi he (by rw[h1];simp) (by rw[h1];simp) (by simp) hw,x5 false rfl (by simp[h1]) h0 (.inl rfl),.inr dF,h⟩
theorem JP (l:Entry c.P f Extern.Atomic.storeT)(aF:c.Mu≠c.Wg/\c.Mu≠c.Is/\c.Wg≠c.Is)(m:At ops j a f [.pointer (some (stA c.Wg)),.int .u64 0] d)(h1:ph.gp= .st)(h0:0<ph.deaf)
  (h:ai (WJ c i) fi ops (j+1) n Q (aZ a d (.tuple #[])) F {ph with gp:=.sm}):ai (WJ c i) fi ops j (n+1) Q a F ph:=by
 obtain ⟨o,cw,dg,e,hg,p,q,rfl⟩:=m
 obtain ⟨x,y,rfl,r,t⟩:=qy q
 obtain ⟨fn,f1,f2,f3,f4,f5⟩:=l.ex
 refine fq e (by rw[h1];simp) fun w s k φ p0 _ hs hi he g=>.inr ?_
 obtain ⟨e1,hw⟩:=IL g.w hi {ph with gp:=.sm} (by rw[he];exact h1) rfl
 exact ⟨.tuple #[],_,_,{s with wg:=0},{ph with gp:=.sm},fun b u cs hb=>stepG_store_atomic e (b9 hg) hb.kind p f1 f2 f3 f4 f5 r t hs.wg.1 hs.wg.2,hs.tw aF _,.set _ (.inr (.inl rfl)),g.group hi he (by rw[h1];simp) (by rw[h1];simp) (by simp) hw,x5 true rfl (by simp[h1]) h0 (.inl rfl),.inr dF,h⟩
theorem JQ (q r:Value)(g:Entry c.P f Extern.Sync.semrelease)(aF:c.Mu≠c.Wg/\c.Mu≠c.Is/\c.Wg≠c.Is)(t:At ops j a f [.pointer (some (smA c.Wg)),q,r] d)(h1:ph.gp= .sm)
  (h:ai (WJ c i) fi ops (j+1) n Q (aZ a d (.tuple #[])) F {ph with gp:=.gone}):ai (WJ c i) fi ops j (n+1) Q a F ph:=by
 obtain ⟨o,cw,dg,l,hg,m,u,rfl⟩:=t
 obtain ⟨x,y,z,rfl,e,_,_⟩:=qz u
 obtain ⟨fn,f1,f2,f3,f4,f5⟩:=g.ex
 refine fq l (by rw[h1];simp) fun w s k φ p0 _ hs hi he p=>.inr ?_
 obtain ⟨e1,hw⟩:=IM p.w hi {ph with gp:=.gone} (by rw[he];exact h1) rfl
 have v:IntKind.u32.wrap (s.ws+1)=s.ws+1:=by rw[e1];decide
 refine ⟨.tuple #[],_,_,{s with ws:=s.ws+1},{ph with gp:=.gone},fun b A cs hb=>stepG_semrelease l (b9 hg) hb.kind m f1 f2 f3 f4 f5 (by simp[ep,e]) hs.ws.1 hs.ws.2,by rw[v];exact hs.CN aF _,.set _ (.inr (.inl rfl)),
  p.group hi he (by rw[h1];simp) (by rw[h1];simp) (by simp) hw,x7 rfl (by simp[h1]) (.inl rfl),.inl ⟨_,m,fun x e=>?_⟩,h⟩
 cases e
 exact ⟨f,rfl,g.CC⟩
end
end Go.Sep
end
section
namespace Go.Sep
open Go Go.Conc
open Go.ConcN (sumTo upd upd_ne upd_same)
theorem ai.defer {P:Program}{main:Bool}{S:Type}{JF:S->Goroutine->aa->Prop}{fi f:FuncId}{ops:Array Oper}{j n:Nat}{Q:Act->aa->S->Prop}{a:Act}{F:aa}{ph:S}(e:dR P main (JF ph)){o:Oper}{cw:Array Operand}{dg:Array TypeId}{vals:Array Value}
  (g:ops[j]?=some o) (hg:cz ops o a=some true) (k:o.op= .defer {callee:=.value (.func f),args:=cw,argTypes:=dg}) (hd:o.dst=none) (l:cw.map a.eval=vals)
  (h:∀c:Act,(∀i,slot c i=slot a i)->sz c=sz a->c.defers=dcall f vals::a.defers->ai JF fi ops (j+1) n Q c F ph):ai JF fi ops j (n+1) Q a F ph:=fun b d cs hb m=>by
 rw[List.range'_succ,eA hb.round]
 refine e.move (fr':=b.at (Act.put ⟨a.tmps,dcall f (cw.map a.eval)::a.defers⟩ o.dst undef) (.inRegion ops (List.range' (j+1) n)::d)) (fun w=>stepG_defer g (b9 hg) hb.kind k) ?_
 rw[<-eA hb.round,hd,l]
 exact h ⟨a.tmps,dcall f vals::a.defers⟩ (fun _=>rfl) rfl rfl b d cs hb m
section
variable {c : Cy} {i : Nat} {ph : Ph} {F : aa} {f : FuncId}
theorem JR (g:Entry c.P f (fun _=>do mark .enable;pure Extern.Race.none_))(hg:ph.gp= .gone){d:Nat}(hd:ph.deaf=d+1){b:Frame}{a:Act}{todo:List Item}{cs:List Frame}{e:List Deferred}(j:a.defers=dcall f #[]::e)
  (h:WJ c i {ph with deaf:=d} (G {b.at ⟨a.tmps,e⟩ todo with mode:=.returning} cs) F):WJ c i ph (G {b.at a todo with mode:=.returning} cs) F:=by
 obtain ⟨F0,r,hle,hW⟩:=h
 obtain ⟨q,_,k⟩:=hW.left hg
 obtain ⟨fn,f1,f2,f3,f4,f5⟩:=g.ex
 refine Wk.gone (q:=q+1) hg (QuitsD.unwind_mark .enable rfl (by simp) j f1 f2 f3 f4 f5 ?_)
 rw[hd]
 exact k
def kL (f:FuncId)(R:Value->aa->Ph->Prop):Ex->Act->aa->Ph->Prop
 | .exit _,_,_,_=>False
 |_,a,F,ph=>a.defers=[dcall f #[]]/\ph.gp= .gone/\∃b,ph.deaf=b+1/\R (.tuple #[]) F {ph with deaf:=b}
theorem cB.JS {f0:FuncId}(p:Entry c.P f (fun _=>do mark .enable;pure Extern.Race.none_)){fn:Func}{cd:Code}{n:Nat}{args:Array Value}{R:Value->aa->Ph->Prop}(l:c.P.funcs[f0]?=some fn)(hb:fn.body=some cd)(m:fn.results=#[])(o:fn.ntmps=n)(v:args.size<=n)
  (h:∀A:Act,sz A=n->A.defers=[]->(∀i,slot A i=args.getD i undef)->cK (WJ c i) f0 cd (kL f R) A F ph):cB c.P (WJ c i) f0 args F ph R:=by
 intro d cs q
 let b:Frame:={(default:Frame) with fn:=f0,kind:=.normal}
 have r:b.roundOf=none:=rfl
 have s:Frame.enter c.P f0 args .normal=on b {tmps:=args++Array.replicate (fn.ntmps - args.size) undef,defers:=[]} [.code cd]:=by
  simp[Frame.enter,on,l,hb,b]
  rfl
 rw[s]
 have g:=WJ.ej c i
 have leave:∀(a:Act) (todo:List Item) F' (aK:Ph),(a.defers=[dcall f #[]]/\aK.gp= .gone/\∃j,aK.deaf=j+1/\R (.tuple #[]) F' {aK with deaf:=j})->WJ c i aK (G {on b a todo with mode:=.returning} (d::cs)) F':=by
  intro a todo F' aK ⟨hd,hg,j,t,u⟩
  rw[eA r]
  refine JR p hg t hd ((g _).move (fr':=d.finish (.tuple #[])) (cs':=cs) (fun w=>?_) (q _ F' _ u))
  exact stepG_leave rfl rfl l (results_none m _ c.P w) (events_results_none m _ _)
 refine h _ (by simp[sz,o];omega) rfl (fun i=>?_) b [] (d::cs) ⟨by simp[b],rfl,rfl⟩ fun e a F' aK k=>?_
 ·simp only[slot,o,Array.getD_eq_getD_getElem?]
  rcases Nat.lt_or_ge i args.size with hi|hi
  ·rw[Array.getElem?_append_left hi]
  ·rw[Array.getElem?_append_right hi,Array.getElem?_replicate,Array.getElem?_eq_none hi]
   split<;>rfl
 ·cases e with
  |normal=>exact (g aK).move (fun _=>lO rfl) (leave a _ F' aK k)
  |exit i=>exact k.elim
  |ret=>exact fun x=>(g aK).move (fun _=>stepG_ret' rfl) (leave a _ F' aK k)
def yd (R:aa->Ph->Prop):Ex->Act->aa->Ph->Prop
 | .exit _,_,_,_=>False
 |_,a,F,ph=>a.defers=[]/\R F ph
theorem JU {f0:FuncId}{fn:Func}{cd:Code}{n:Nat}{args:Array Value}{R:aa->Ph->Prop}(k:c.P.funcs[f0]?=some fn)(p:(fn.name== "runtime.NumGoroutine")=false)(hb:fn.body=some cd)(l:fn.results=#[])(m:fn.ntmps=n)(t:args.size<=n)
  {b:Frame} {a:Act} {todo:List Item} {cs:List Frame} {f:List Deferred} (q:a.defers=dcall f0 args::f)
  (h:∀A:Act,sz A=n->A.defers=[]->(∀i,slot A i=args.getD i undef)->cK (WJ c i) f0 cd (yd R) A F ph)
  (r:∀F' aK,R F' aK->WJ c i aK (G {b.at ⟨a.tmps,f⟩ todo with mode:=.returning} cs) F'):WJ c i ph (G {b.at a todo with mode:=.returning} cs) F:=by
 have g:=WJ.ej c i
 refine (g ph).move (fun w=>stepG_unwind_enter q k p hb) ?_
 have leave:∀(d:Act) (o:List Item) F' (aK:Ph),(d.defers=[]/\R F' aK)->WJ c i aK (G {(baseD f0).at d o with mode:=.returning} ({b.at ⟨a.tmps,f⟩ todo with mode:=.returning}::cs)) F':=by
  intro d o F' aK ⟨hd,s⟩
  exact (g _).move (fun w=>stepG_leave_deferred rfl hd k (results_none l _ c.P w) (events_results_none l _ _) rfl) (r F' aK s)
 have:=h {tmps:=args++Array.replicate (fn.ntmps - args.size) undef,defers:=[]} (by simp[sz,m];omega) rfl (fun i=>?_) (baseD f0) [] ({b.at ⟨a.tmps,f⟩ todo with mode:=.returning}::cs) ⟨by simp[baseD],rfl,rfl⟩ fun e d F' aK j=>?_
 ·rw[eA rfl] at this;exact this
 ·simp only[slot,m,Array.getD_eq_getD_getElem?]
  rcases Nat.lt_or_ge i args.size with hi|hi
  ·rw[Array.getElem?_append_left hi]
  ·rw[Array.getElem?_append_right hi,Array.getElem?_replicate,Array.getElem?_eq_none hi]
   split<;>rfl
 ·cases e with
  |normal=>exact (g aK).move (fun _=>lO rfl) (leave d _ F' aK j)
  |exit i=>exact j.elim
  |ret=>exact fun u=>(g aK).move (fun _=>stepG_ret' rfl) (leave d _ F' aK j)
end
attribute [go_sem] kL yd
end Go.Sep
end
section
namespace Go.Sep
open Go
def kM (x y:Int):Int:=IntKind.u64.wrap ((BitVec.ofInt 64 x&&& BitVec.ofInt 64 y).toNat:Int)
@[go_sem] theorem Rh (x y:Int):IntKind.u64.wrap ((@HAnd.hAnd (BitVec 64) (BitVec 64) (BitVec 64) (@instHAndOfAndOp (BitVec IntKind.u64.bits) (@BitVec.instAndOp IntKind.u64.bits)) (BitVec.ofInt 64 x) (BitVec.ofInt 64 y)).toNat:Int)=kM x y:=rfl
theorem ye (v t:Nat)(a:v<2147483648)(ht:t<=1):kM ((v:Int)*4294967296+(t:Int)) 2147483648=0:=Go.ConcN.st_flag v t a ht
theorem yf (v t:Nat)(a:v<2147483648)(ht:t<=1):kM ((v:Int)*4294967296+(t:Int)) 2147483647=(t:Int):=Go.ConcN.st_waiters v t a ht
theorem yg (v t:Nat)(ht:t<=1):((v:Int)*4294967296+(t:Int)).fdiv 4294967296=v:=by
 rw[Int.fdiv_eq_ediv_of_nonneg _ (by decide)];omega
end Go.Sep
namespace Go.Proofs.YtpgcmoanfifglaaGreatDoor
open Go Go.Sep Go.Proofs Go.Conc
open Go.ConcN (upd upd_same)
open Go.ConcM (muA msA)
open Go.ConcR (stA smA)
set_option maxRecDepth 100000
set_option maxHeartbeats 4000000
set_option linter.all false
attribute [local go_sem] Int.reduceBEq Int.reduceBNe muA msA stA smA
section
variable {Mu Wg Is n base T0 i : Nat} {bs : Nat → Bool} {st : Bool} {F : aa}
theorem JV (w:World)(s:Sh)(h:cv (CY Mu Wg Is n bs base T0) w s):∃v,w.cell? ⟨Wg,0,none⟩=some v:=⟨_,h.wg.1⟩
theorem JW (aF:Mu≠Wg/\Mu≠Is/\Wg≠Is)(b:n<67108864){mp:Mp}:
  cB Tryz.prog (WJ (CY Mu Wg Is n bs base T0) i) 158 #[.pointer (some (stA Wg)),.int .u64 18446744069414584320] F ⟨mp,.rel,st,1⟩
   (fun r F' aK=>F'=F/\∃v t:Nat,v<=n/\t<=1/\r= .int .u64 ((v:Int)*4294967296+(t:Int))/\aK=⟨mp,if v=0/\t=1 then .ld else .gone,st,1⟩):=by
 have a:=WJ.ej (CY Mu Wg Is n bs base T0) i
 refine cB.go (main:=false) a Tryz.func158 rfl Tryz.ntmps158 (by simp) fun A d hd hs=>?_
 have e:=hs 0
 have k1:=hs 1
 clear hs
 repeat refine av (a _) ?_
 refine cW a ?_
 refine ai.pure (a _) 1 (n:=0) _ rfl rfl ?_;simp only[*,go_sem]
 refine ai.nil a ?_;try simp only[go_sem]
 repeat refine av (a _) ?_
 refine cW a ?_
 refine ai.pure (a _) 4 (n:=2) _ rfl rfl ?_;simp only[*,go_sem]
 refine JN CG aF b ⟨_,_,_,rfl,(by first|rfl|simp only[*,go_sem]),rfl,by first|(simp only[*,go_sem];done)|(simp only[*,go_sem];rfl),rfl⟩ (by rfl) (by simp) fun v t c ht=>?_
 refine ai.pure (a _) 1 (n:=0) _ rfl rfl ?_;simp only[*,go_sem]
 refine ai.nil a ?_;try simp only[go_sem]
 refine fl ?_;try simp only[go_sem]
 exact (lI rfl (by simp only[*,go_sem]) (by simp only[*,go_sem]) ⟨rfl,v,t,c,ht,rfl,rfl⟩).2
theorem JX {mp:Mp}:
  cB Tryz.prog (WJ (CY Mu Wg Is n bs base T0) i) 160 #[.pointer (some (stA Wg))] F ⟨mp,.ld,st,1⟩
   (fun r F' aK=>F'=F/\r= .int .u64 1/\aK=⟨mp,.st,st,1⟩):=by
 have a:=WJ.ej (CY Mu Wg Is n bs base T0) i
 refine cB.go (main:=false) a Tryz.func160 rfl Tryz.ntmps160 (by simp) fun A b hd hs=>?_
 have c:=hs 0
 clear hs
 repeat refine av (a _) ?_
 refine cW a ?_
 refine ai.pure (a _) 1 (n:=0) _ rfl rfl ?_;simp only[*,go_sem]
 refine ai.nil a ?_;try simp only[go_sem]
 repeat refine av (a _) ?_
 refine cW a ?_
 refine ai.pure (a _) 3 (n:=2) _ rfl rfl ?_;simp only[*,go_sem]
 refine JO xX ⟨_,_,_,rfl,(by first|rfl|simp only[*,go_sem]),rfl,by first|(simp only[*,go_sem];done)|(simp only[*,go_sem];rfl),rfl⟩ (by rfl) (by simp) ?_
 refine ai.pure (a _) 1 (n:=0) _ rfl rfl ?_;simp only[*,go_sem]
 refine ai.nil a ?_;try simp only[go_sem]
 refine fl ?_;try simp only[go_sem]
 exact (lI rfl (by simp only[*,go_sem]) (by simp only[*,go_sem]) ⟨rfl,rfl,rfl⟩).2
theorem JY (aF:Mu≠Wg/\Mu≠Is/\Wg≠Is){mp:Mp}:
  cB Tryz.prog (WJ (CY Mu Wg Is n bs base T0) i) 161 #[.pointer (some (stA Wg)),.int .u64 0] F ⟨mp,.st,st,1⟩
   (fun r F' aK=>F'=F/\r= .tuple #[]/\aK=⟨mp,.sm,st,1⟩):=by
 have a:=WJ.ej (CY Mu Wg Is n bs base T0) i
 refine cB.go (main:=false) a Tryz.func161 rfl Tryz.ntmps161 (by simp) fun A b hd hs=>?_
 have c:=hs 0
 have k1:=hs 1
 clear hs
 repeat refine av (a _) ?_
 refine cW a ?_
 refine ai.pure (a _) 4 (n:=1) _ rfl rfl ?_;simp only[*,go_sem]
 refine JP Jj aF ⟨_,_,_,rfl,(by first|rfl|simp only[*,go_sem]),rfl,by first|(simp only[*,go_sem];done)|(simp only[*,go_sem];rfl),rfl⟩ (by rfl) (by simp) ?_
 refine ai.nil a ?_;try simp only[go_sem]
 exact lH rfl (by simp only[*,go_sem]) ⟨rfl,rfl,rfl⟩
end
end Go.Proofs.YtpgcmoanfifglaaGreatDoor
end
section
namespace Go.Sep
open Go Go.Conc
open Go.ConcN (sumTo upd upd_ne upd_same)
open Go.ConcM (MuAt muA msA muBlock OsLater)
open Go.ConcR (WgAt wgBlock stA smA)
structure X where
 Mu:Nat
 Wg:Nat
 Is:Nat
 n:Nat
 bs:Nat->Bool
 base:Nat
 T0:Nat
 B0:Nat
inductive Z where
 |free
 |co (x:X) (k:Nat) (p:P0) (d:Nat)
structure PT where
 P:Program
 tM:TypeId
 tW:TypeId
 tI:TypeId
abbrev X.cy (x:X)(T:PT):Cy:=⟨T.P,x.Mu,x.Wg,x.Is,T.tM,T.tW,T.tI,x.n,x.bs,x.base,x.T0⟩
def ZJ (T:PT)(Φ:Goroutine->aa->Prop):Z->Goroutine->aa->Prop
 | .free=>iF T.P Φ
 | .co x k p d=>fun g F=>(p= .reg->k=x.n)/\ei (x.cy T) x.B0 (iF T.P Φ) k p d g F
section
variable {T : PT} {Φ : Goroutine → aa → Prop} {x : X} {k d : Nat} {p : P0} {ops : Array Oper} {j n : Nat} {Q : Act → aa → Z → Prop} {a : Act} {F : aa} {o : Oper} {f fi : FuncId} {dt : Option Tmp}
theorem CW {c:Cy}:Ev0 c d d #[]:=⟨by simp,rfl⟩
theorem JZ {c:Cy}:Ev0 c d (d+1) #[cE .disable]:=⟨fun e he=>by simp at he;exact .inl he,rfl⟩
theorem CX {c:Cy}:Ev0 c (d+1) d #[cE .enable]:=⟨fun e he=>by simp at he;exact .inr (.inl he),rfl⟩
theorem yh {c:Cy}{ad:Addr}(y:Bool)(h:ad.block=c.Wg):Ev0 c d d #[⟨.cell ad,y,true⟩]:=⟨fun e he=>by simp at he;exact .inr (.inr ⟨ad,h,.inl ⟨y,he⟩⟩),by simp[deafBehind]⟩
theorem CZ {c:Cy}{ad:Addr}(h:ad.block=c.Wg):Ev0 c d d #[⟨.cell ad,false,true⟩,⟨.cell ad,true,true⟩]:=
 ⟨fun e he=>by simp at he;rcases he with he|he<;>exact .inr (.inr ⟨ad,h,.inl ⟨_,he⟩⟩),by simp[deafBehind]⟩
theorem J0 {c:Cy}{ad:Addr}(h:ad.block=c.Wg):Ev0 c d d #[cE (.read ad)]:=⟨fun e he=>by simp at he;exact .inr (.inr ⟨ad,h,.inr (.inl he)⟩),by simp[deafBehind,cE]⟩
theorem J1 {c:Cy}{ad:Addr}(h:ad.block=c.Wg):Ev0 c d d #[cE (.write ad)]:=⟨fun e he=>by simp at he;exact .inr (.inr ⟨ad,h,.inr (.inr he)⟩),by simp[deafBehind,cE]⟩
theorem J2 {c:Cy}{ad:Addr}(h:ad.block=c.Wg):Ev0 c d d (semEvents ad):=by
 refine ⟨fun e he=>?_,by simp[deafBehind,semEvents]⟩;simp[semEvents] at he;rcases he with rfl|rfl|rfl|rfl
 ·exact .inl rfl
 ·exact .inr (.inr ⟨ad,h,.inl ⟨_,rfl⟩⟩)
 ·exact .inr (.inr ⟨ad,h,.inl ⟨_,rfl⟩⟩)
 ·exact .inr (.inl rfl)
theorem ZJ.ej (T:PT)(Φ:Goroutine->aa->Prop)(z:Z):dR T.P true (ZJ T Φ z):=by
 cases z with
 |free=>exact Closed.ej (Cv T.P Φ)
 |co x k p d=>
  refine ⟨fun {fr fr' cs cs' F} hs h=>⟨h.1,ei.xS (c:=x.cy T) rfl rfl h.1 fun w s φ h1 a b=>?_⟩⟩;exact ⟨_,w,#[],s,p,d,hs w,a,.refl _ _,b,CW,.inr dF,h.2⟩
theorem ZJ.closed (T:PT)(Φ:Goroutine->aa->Prop){z:Z}(b:∀x k d,z≠ .co x k .reg d):Closed T.P true (ZJ T Φ z):=by
 cases z with
 |free=>exact Cv T.P Φ
 |co x k p d=>
  have a:p≠ .reg:=fun e=>b x k d (by rw[e]);have hC:=ei.closed (x.cy T) x.B0 (iF T.P Φ) k p d a
  exact ⟨fun hle h=>⟨h.1,hC.mono hle h.2⟩,fun {fr cs F} h=>⟨fun e=>absurd e a,hC.step fun w hw=>by
   obtain ⟨g',w',es,F',k1,c,f,g,i⟩:=h w hw
   exact ⟨g',w',es,F',k1,c,f,g,i.2⟩⟩⟩
theorem kN (A:ops[j]?=some o)(i:p= .reg->k=x.n)
  (h:∀(w:World) (s:Sh) (φ:Nat->Ph),Has F w->cv (x.cy T) w s->Inv x.n x.bs k φ p s->
   ∃(v:Value) (w':World) (es:Array Event) (s':Sh) (f:P0) (g:Nat),(∀(b:Frame) (e:List Item) (cs:List Frame),BF fi b->
    stepG T.P true (G (b.at a (.inRegion ops (j::List.range' (j+1) n)::e)) cs) w= .go (G (b.at (a.put o.dst v) (.inRegion ops (List.range' (j+1) n)::e)) cs) w' es)/\cv (x.cy T) w' s'/\g5 (x.cy T) w w'/\Inv x.n x.bs k φ f s'/\Ev0 (x.cy T) d g es/\
    (s'.ms<=s.ms/\s'.ws<=s.ws)/\ai (ZJ T Φ) fi ops (j+1) n Q (a.put o.dst v) F (.co x k f g)):ai (ZJ T Φ) fi ops j (n+1) Q a F (.co x k p d):=fun b e cs hb l=>by
 rw[List.range'_succ,eA hb.round]
 refine ⟨i,ei.xS (c:=x.cy T) rfl rfl i fun w s φ e1 e2 m=>?_⟩
 obtain ⟨v,w',es,s',f,g,k1,q,r,t,u,y,z⟩:=h w s φ e1 e2 m
 have:=z b e cs hb l
 rw[eA hb.round] at this
 exact ⟨_,w',es,s',f,g,k1 b e cs hb,q,r,t,u,.inr y,this.2⟩
theorem oB {k:Nat}{φ:Nat->Ph}{p a:P0}{s:Sh}(h:Inv x.n x.bs k φ p s){wg ws:Int}(hw:dz x.n φ a wg ws):Inv x.n x.bs k φ a {s with wg:=wg,ws:=ws}:=⟨h.m,hw,h.i⟩
theorem C0 (i:Entry T.P f (fun _=>do mark .disable;pure Extern.Race.none_)){vals:List Value}(l:At ops j a f vals dt)(m:p= .reg->k=x.n)(c:P0)(q:∀φ wg ws,dz x.n φ p wg ws->dz x.n φ c wg ws)
  (h:ai (ZJ T Φ) fi ops (j+1) n Q (aZ a dt (.tuple #[])) F (.co x k c (d+1))):ai (ZJ T Φ) fi ops j (n+1) Q a F (.co x k p d):=by
 obtain ⟨o,cw,dg,e,hg,r,_,rfl⟩:=l
 obtain ⟨fn,f1,f2,f3,f4,f5⟩:=i.ex
 exact kN e m fun w s φ _ hs g=>⟨.tuple #[],w,_,s,c,d+1,fun b t cs hb=>stepG_mark0 .disable (by simp) e (b9 hg) hb.kind r f1 f2 f3 f4 f5,hs,.refl _ _,oB g (q _ _ _ g.w),JZ,dF,h⟩
theorem C1 (e:Entry T.P f (fun _=>do mark .enable;pure Extern.Race.none_)){vals:List Value}(g:At ops j a f vals dt)(i:p= .reg->k=x.n)
  (h:ai (ZJ T Φ) fi ops (j+1) n Q (aZ a dt (.tuple #[])) F (.co x k p d)):ai (ZJ T Φ) fi ops j (n+1) Q a F (.co x k p (d+1)):=by
 obtain ⟨o,cw,dg,c,hg,l,_,rfl⟩:=g
 obtain ⟨fn,f1,f2,f3,f4,f5⟩:=e.ex
 exact kN c i fun w s φ _ hs m=>⟨.tuple #[],w,_,s,p,d,fun b q cs hb=>stepG_mark0 .enable (by simp) c (b9 hg) hb.kind l f1 f2 f3 f4 f5,hs,.refl _ _,m,CX,dF,h⟩
theorem J3 (e:Entry T.P f (Extern.Race.marked .read))(g:At ops j a f [.pointer (some (smA x.Wg))] dt)(i:p= .reg->k=x.n)
  (h:ai (ZJ T Φ) fi ops (j+1) n Q (aZ a dt (.tuple #[])) F (.co x k p d)):ai (ZJ T Φ) fi ops j (n+1) Q a F (.co x k p d):=by
 obtain ⟨o,cw,dg,c,hg,l,m,rfl⟩:=g
 obtain ⟨y,rfl,q⟩:=jN m
 obtain ⟨fn,f1,f2,f3,f4,f5⟩:=e.ex
 exact kN c i fun w s φ _ hs r=>⟨.tuple #[],w,_,s,p,d,fun b t cs hb=>stepG_markAt .read (by simp) c (b9 hg) hb.kind l f1 f2 f3 f4 f5 (by simp[ep,q]),hs,.refl _ _,r,J0 (ad:=smA x.Wg) rfl,dF,h⟩
theorem J4 (e:Entry T.P f (Extern.Race.marked .write))(g:At ops j a f [.pointer (some (smA x.Wg))] dt)(i:p= .reg->k=x.n)
  (h:ai (ZJ T Φ) fi ops (j+1) n Q (aZ a dt (.tuple #[])) F (.co x k p d)):ai (ZJ T Φ) fi ops j (n+1) Q a F (.co x k p d):=by
 obtain ⟨o,cw,dg,c,hg,l,m,rfl⟩:=g
 obtain ⟨y,rfl,q⟩:=jN m
 obtain ⟨fn,f1,f2,f3,f4,f5⟩:=e.ex
 exact kN c i fun w s φ _ hs r=>⟨.tuple #[],w,_,s,p,d,fun b t cs hb=>stepG_markAt .write (by simp) c (b9 hg) hb.kind l f1 f2 f3 f4 f5 (by simp[ep,q]),hs,.refl _ _,r,J1 (ad:=smA x.Wg) rfl,dF,h⟩
theorem tJ (ad:Addr){src dst t:TypeId}(hs:T.P.underlying src=some (.pointer t))(hd:T.P.underlying dst=some .unsafePointer)(c:(T.P.info? t).map (fun i=>decide (i.size=0))=some false){y:Operand}
  (l:mU ops j a (.convert src dst y) dt) (m:p= .reg->k=x.n) (q:ev a y= .pointer (some ad)) (r:∀w s,cv (x.cy T) w s->∃v,w.cell? ad=some v) (h:ai (ZJ T Φ) fi ops (j+1) n Q (aZ a dt (.pointer (some ad))) F (.co x k p d)):ai (ZJ T Φ) fi ops j (n+1) Q a F (.co x k p d):=by
 obtain ⟨o,e,hg,u,rfl⟩:=l
 refine kN e m fun w s φ _ f z=>⟨_,w,#[],s,p,d,fun b C cs hb=>?_,f,.refl _ _,z,CW,dF,h⟩
 obtain ⟨v,g⟩:=r w s f
 have e1:execOp a.eval o=(do pure (.value (<-convert src dst (.pointer (some ad)))):Sem Next):=by
  unfold execOp
  simp only[u,ep,q]
 have A:(execOp a.eval o).run T.P w= .ok (.value (.pointer (some ad))) w:=by
  rw[e1];simp[run_convert_to_unsafe hs hd c g]
 have B:(execOp a.eval o).events T.P w #[]=#[]:=by
  rw[e1];simp[events_convert_to_unsafe hs hd c g]
 rw[stepG_value e (b9 hg) hb.kind A]
 unfold listed
 rw[B,seen_none]
theorem J5 (i:Entry T.P f (Extern.Atomic.update (Op.intArith .add) .u64 true))(aF:x.Mu≠x.Wg/\x.Mu≠x.Is/\x.Wg≠x.Is)(A:x.n<67108864)(l:At ops j a f [.pointer (some (stA x.Wg)),.int .u64 4294967296] dt)
  (h:∀v:Nat,v<=x.n->ai (ZJ T Φ) fi ops (j+1) n Q (aZ a dt (.int .u64 (((v+1:Nat):Int)*4294967296+((0:Nat):Int)))) F (.co x k (.opn 1) d)):ai (ZJ T Φ) fi ops j (n+1) Q a F (.co x k (.opn 0) d):=by
 obtain ⟨o,cw,dg,c,hg,m,p,rfl⟩:=l
 obtain ⟨y,z,rfl,q,r⟩:=qy p
 obtain ⟨fn,f1,f2,f3,f4,f5⟩:=i.ex
 refine kN c (fun e=>by cases e) fun w s φ _ hs g=>?_
 obtain ⟨v,e1,t,hw⟩:=IN g.w
 have e2:IntKind.u64.wrap (s.wg+4294967296)=((v+1:Nat):Int)*4294967296+((0:Nat):Int):=by
  rw[e1]
  unfold IntKind.wrap
  simp only[IntKind.bits,IntKind.signed,cT]
  simp
  omega
 have u:s.wg+cT=((v+1:Nat):Int)*4294967296+((0:Nat):Int):=by rw[e1];simp only[cT];omega
 rw[u] at hw
 exact ⟨_,_,_,{s with wg:=((v+1:Nat):Int)*4294967296+((0:Nat):Int)},.opn 1,d,fun b B cs hb=>by rw[<-e2];exact stepG_add_atomic c (b9 hg) hb.kind m f1 f2 f3 f4 .u64 f5 q r hs.wg.1 hs.wg.2,by rw[<-e2];exact hs.tw aF _,.set _ (.inr (.inl rfl)),oB g hw,CZ rfl,dF,h v t⟩
theorem J6 (i:Entry T.P f (Extern.Atomic.loadT (.int .u64)))(l:At ops j a f [.pointer (some (stA x.Wg))] dt){u:Nat}
  (h:∀v:Nat,v<=u->ai (ZJ T Φ) fi ops (j+1) n Q (aZ a dt (.int .u64 ((v:Int)*4294967296+((0:Nat):Int)))) F (.co x k (if v=0 then .eJ else .look v) d)):ai (ZJ T Φ) fi ops j (n+1) Q a F (.co x k (.look u) d):=by
 obtain ⟨o,cw,dg,c,hg,m,p,rfl⟩:=l
 obtain ⟨y,rfl,q⟩:=jN p
 obtain ⟨fn,f1,f2,f3,f4,f5⟩:=i.ex
 refine kN c (fun e=>by cases e) fun w s φ _ hs g=>?_
 obtain ⟨v,e1,r,hw⟩:=IS g.w
 have e2:s.wg=(v:Int)*4294967296+((0:Nat):Int):=by rw[e1];simp only[cT];omega
 exact ⟨_,_,_,s,_,d,fun b t cs hb=>by rw[<-e2];exact stepG_load_atomic c (b9 hg) hb.kind m f1 f2 f3 f4 .u64 f5 q hs.wg.1,hs,.refl _ _,oB g hw,yh false rfl,dF,h v r⟩
theorem J7 (i:Entry T.P f (Extern.Atomic.loadT (.int .u64)))(l:At ops j a f [.pointer (some (stA x.Wg))] dt)
  (h:ai (ZJ T Φ) fi ops (j+1) n Q (aZ a dt (.int .u64 0)) F (.co x k .eJ d)):ai (ZJ T Φ) fi ops j (n+1) Q a F (.co x k .eJ d):=by
 obtain ⟨o,cw,dg,c,hg,m,p,rfl⟩:=l
 obtain ⟨y,rfl,q⟩:=jN p
 obtain ⟨fn,f1,f2,f3,f4,f5⟩:=i.ex
 refine kN c (fun e=>by cases e) fun w s φ _ hs g=>?_
 have e2:s.wg=0:=(Ci g.w).1
 exact ⟨_,_,_,s,_,d,fun b r cs hb=>by rw[<-e2];exact stepG_load_atomic c (b9 hg) hb.kind m f1 f2 f3 f4 .u64 f5 q hs.wg.1,hs,.refl _ _,g,yh false rfl,dF,h⟩
theorem J8 (q:Entry T.P f (Extern.Atomic.casT (.int .u64)))(aF:x.Mu≠x.Wg/\x.Mu≠x.Is/\x.Wg≠x.Is){v:Nat}(r:0<v)(G:k=x.n)(t:At ops j a f [.pointer (some (stA x.Wg)),.int .u64 ((v:Int)*4294967296+((0:Nat):Int)),.int .u64 ((v:Int)*4294967296+((0:Nat):Int)+1)] dt)
  (u:ai (ZJ T Φ) fi ops (j+1) n Q (aZ a dt (.bool true)) F (.co x k .reg d)) (A:ai (ZJ T Φ) fi ops (j+1) n Q (aZ a dt (.bool false)) F (.co x k (.look (v - 1)) d)):ai (ZJ T Φ) fi ops j (n+1) Q a F (.co x k (.look v) d):=by
 obtain ⟨o,cw,dg,g,hg,h,B,rfl⟩:=t
 obtain ⟨y,z,H,rfl,i,l,m⟩:=qz B
 obtain ⟨fn,f1,f2,f3,f4,f5⟩:=q.ex
 refine kN g (fun e=>by cases e) fun w s φ _ hs c=>?_
 by_cases e:s.wg=(v:Int)*4294967296+((0:Nat):Int)
 ·have e1:s.wg=(v:Int)*cT:=by rw[e];simp only[cT];omega
  have hw:=c.w
  rw[e1] at hw
  have p:=IT hw r
  have C:(v:Int)*cT+1=(v:Int)*4294967296+((0:Nat):Int)+1:=by simp only[cT];omega
  rw[C] at p
  exact ⟨.bool true,_,_,{s with wg:=(v:Int)*4294967296+((0:Nat):Int)+1},.reg,d,fun b D cs hb=>stepG_cas_hit g (b9 hg) hb.kind h f1 f2 f3 f4 .u64 f5 i l m (by rw[<-e];exact hs.wg.1) hs.wg.2,hs.tw aF _,.set _ (.inr (.inl rfl)),oB c p,CZ rfl,dF,u⟩
 ·have e1:s.wg≠(v:Int)*cT:=fun E=>e (by rw[E];simp only[cT];omega)
  exact ⟨.bool false,_,_,s,.look (v - 1),d,fun b D cs hb=>stepG_cas_miss g (b9 hg) hb.kind h f1 f2 f3 f4 .u64 f5 i l m hs.wg.1 hs.wg.2 e,hs,.refl _ _,oB c (IU c.w e1).2,yh false rfl,dF,A⟩
theorem J9 (p:Value)(q:Entry T.P f Extern.Sync.semacquire)(aF:x.Mu≠x.Wg/\x.Mu≠x.Is/\x.Wg≠x.Is)(e:k=x.n)(r:At ops j a f [.pointer (some (smA x.Wg)),p] dt)
  (h:ai (ZJ T Φ) fi ops (j+1) n Q (aZ a dt (.tuple #[])) F (.co x k .eJ d)):ai (ZJ T Φ) fi ops j (n+1) Q a F (.co x k .reg d):=fun b t cs hb u=>by
 obtain ⟨o,cw,dg,g,hg,i,v,rfl⟩:=r
 obtain ⟨y,z,rfl,l,_⟩:=qy v
 obtain ⟨fn,f1,f2,f3,f4,f5⟩:=q.ex
 rw[List.range'_succ,eA hb.round]
 refine ⟨fun _=>e,ei.act (c:=x.cy T) rfl rfl (fun _=>⟨e,fun w s hs h0=>?_⟩) fun w s φ e1 hs m A=>?_⟩
 ·exact stepG_semacquire_wait g (b9 hg) i f1 f2 f3 f4 f5 (ad:=smA x.Wg) (by simp[ep,l]) (by rw[hs.ws.1,h0])
 ·have h0:=A rfl
  obtain ⟨B,C,hw⟩:=IV m.w h0
  have:=h b t cs hb u
  rw[eA hb.round] at this
  exact ⟨_,_,_,{s with ws:=s.ws - 1},.eJ,d,stepG_semacquire g (b9 hg) hb.kind i f1 f2 f3 f4 f5 (by simp[ep,l]) hs.ws.1 h0 hs.ws.2,hs.CN aF _,.set _ (.inr (.inl rfl)),oB m hw,J2 rfl,.inr ⟨Int.le_refl _,by simp only;omega⟩,this.2⟩
theorem C2 (d:Entry T.P f (Extern.Race.marked .acquire))(e:k=x.n)(g:At ops j a f [.pointer (some (stA x.Wg))] dt)
  (h:ai (ZJ T Φ) fi ops (j+1) n Q (aZ a dt (.tuple #[])) ⟨F.ro,(x.Is,(x.cy T).fin)::F.own⟩ .free):ai (ZJ T Φ) fi ops j (n+1) Q a F (.co x k .eJ 0):=fun b i cs hb l=>by
 obtain ⟨o,cw,dg,m,hg,p,q,rfl⟩:=g
 obtain ⟨y,rfl,r⟩:=jN q
 obtain ⟨fn,f1,f2,f3,f4,f5⟩:=d.ex
 rw[List.range'_succ,eA hb.round]
 subst e
 have:=h b i cs hb l
 rw[eA hb.round] at this
 exact ⟨fun _=>rfl,ei.join (c:=x.cy T) rfl rfl fun w hw=>⟨_,stepG_markAt .acquire (by simp) m (b9 hg) hb.kind p f1 f2 f3 f4 f5 (by simp[ep,r]),rfl,this⟩⟩
theorem Ka (i:k<x.n){d:Deferred}{fv:Operand}{g:Fn}{caps:Array Value}(l:ops[j]?=some o)(hg:cz ops o a=some true)(f:∀w,(execOp a.eval o).run T.P w= .ok (.spawn d) w/\(execOp a.eval o).events T.P w #[]=#[])(hd:d.target= .fn g caps)
  (hW:Wk (x.cy T) k ⟨.idle,.cnt,false,0⟩ (born T.P d) ⟨F.ro,[]⟩) (h:ai (ZJ T Φ) fi ops (j+1) n Q (aZ a o.dst undef) F (.co x (k+1) (.opn 0) 0)):ai (ZJ T Φ) fi ops j (n+1) Q a F (.co x k (.opn 1) 0):=fun b m cs hb p=>by
 rw[List.range'_succ,eA hb.round]
 have:=h b m cs hb p
 rw[eA hb.round] at this
 refine ⟨fun e=>(by cases e),ei.spawn (c:=x.cy T) rfl rfl i fun w hw=>⟨_,_,?_,hW,rfl,rfl,this.2⟩⟩
 rw[stepG_spawn l (b9 hg) hb.kind (f w).1 hd]
 unfold listed
 rw[(f w).2,seen_none]
 rfl
end
section
variable {T : PT} {Φ : Goroutine → aa → Prop} {fi f : FuncId}
theorem Kb {cd:Code}{Q:Ex->Act->aa->Z->Prop}{a:Act}{F:aa}(c:aa)(Mu Wg Is n:Nat)(bs:Nat->Bool)
  (hle:Le ⟨c.ro,(Mu,muBlock T.tM 0 0)::(Wg,wgBlock T.tW 0 0)::(Is,.cells (List.replicate n (Value.bool false)).toArray T.tI)::c.own⟩ F)
  (h:∀base B0 T0,0<base->(Mu≠Wg/\Mu≠Is/\Wg≠Is)->cK (ZJ T Φ) fi cd Q a c (.co ⟨Mu,Wg,Is,n,bs,base,T0,B0⟩ 0 (.opn 0) 0)):cK (ZJ T Φ) fi cd Q a F .free:=fun b k cs hb d=>
 iF.found bs rfl rfl hle fun base B0 T0 h0 aF=>(h base B0 T0 h0 aF b k cs hb d).2
theorem Kc (l:Entry T.P f (fun _=>do mark .enable;pure Extern.Race.none_)){x:X}{k d:Nat}{p:P0}{F:aa}(e:p= .reg->k=x.n){b:Frame}{a:Act}{todo:List Item}{cs:List Frame}{i:List Deferred}(m:a.defers=dcall f #[]::i)
  (h:ZJ T Φ (.co x k p d) (G {b.at ⟨a.tmps,i⟩ todo with mode:=.returning} cs) F):ZJ T Φ (.co x k p (d+1)) (G {b.at a todo with mode:=.returning} cs) F:=by
 obtain ⟨fn,f1,f2,f3,f4,f5⟩:=l.ex
 refine ⟨e,ei.xS (c:=x.cy T) rfl rfl e fun w s φ e1 hs o=>⟨_,w,#[cE .enable],s,p,d,?_,hs,.refl _ _,o,CX,.inr dF,h.2⟩⟩
 exact stepG_unwind_entry (v:=.tuple #[]) m f1 f2 f3 f4 f5 (by simp[Extern.Race.none_]) (by simp[cE]) (by
  intro y j
  simp[cE] at j
  subst j
  exact ⟨rfl,fun g h=>by cases h⟩)
def yj (f:FuncId)(R:Value->aa->Z->Prop):Ex->Act->aa->Z->Prop
 | .exit _,_,_,_=>False
 |_,a,F,z=>a.defers=[dcall f #[]]/\∃x k p d,(p= .reg->k=x.n)/\z= .co x k p (d+1)/\R (.tuple #[]) F (.co x k p d)
theorem cB.Ke {f0:FuncId}(r:Entry T.P f (fun _=>do mark .enable;pure Extern.Race.none_)){fn:Func}{cd:Code}{n:Nat}{args:Array Value}{R:Value->aa->Z->Prop}{F:aa}{z:Z}(m:T.P.funcs[f0]?=some fn)(hb:fn.body=some cd)(o:fn.results=#[])(q:fn.ntmps=n)(C:args.size<=n)
  (h:∀A:Act,sz A=n->A.defers=[]->(∀i,slot A i=args.getD i undef)->cK (ZJ T Φ) f0 cd (yj f R) A F z):cB T.P (ZJ T Φ) f0 args F z R:=by
 intro g cs s
 let b:Frame:={(default:Frame) with fn:=f0,kind:=.normal}
 have t:b.roundOf=none:=rfl
 have u:Frame.enter T.P f0 args .normal=on b {tmps:=args++Array.replicate (fn.ntmps - args.size) undef,defers:=[]} [.code cd]:=by
  simp[Frame.enter,on,m,hb,b]
  rfl
 rw[u]
 have j:=ZJ.ej T Φ
 have leave:∀(c:Act) (todo:List Item) F' (a:Z),(c.defers=[dcall f #[]]/\∃x k p d,(p= .reg->k=x.n)/\a= .co x k p (d+1)/\R (.tuple #[]) F' (.co x k p d))->ZJ T Φ a (G {on b c todo with mode:=.returning} (g::cs)) F':=by
  intro c todo F' a ⟨hd,x,k,p,d,v,y,B⟩
  subst y
  rw[eA t]
  refine Kc r v hd ((j _).move (fr':=g.finish (.tuple #[])) (cs':=cs) (fun w=>?_) (s _ F' _ B))
  exact stepG_leave rfl rfl m (results_none o _ T.P w) (events_results_none o _ _)
 refine h _ (by simp[sz,q];omega) rfl (fun i=>?_) b [] (g::cs) ⟨by simp[b],rfl,rfl⟩ fun e c F' a l=>?_
 ·simp only[slot,q,Array.getD_eq_getD_getElem?]
  rcases Nat.lt_or_ge i args.size with hi|hi
  ·rw[Array.getElem?_append_left hi]
  ·rw[Array.getElem?_append_right hi,Array.getElem?_replicate,Array.getElem?_eq_none hi]
   split<;>rfl
 ·cases e with
  |normal=>exact (j a).move (fun _=>lO rfl) (leave c _ F' a l)
  |exit i=>exact l.elim
  |ret=>exact fun D=>(j a).move (fun _=>stepG_ret' rfl) (leave c _ F' a l)
theorem fG.Kf {args:Array Value}{ro:Addr->Option Value}{R:Value->aa->Prop}(h:∀Φ,cB T.P (ZJ T Φ) f args ⟨ro,[]⟩ .free (fun v F' z=>z= .free/\R v F')):fG T.P f args ⟨ro,[]⟩ R:=
 fG.Je fun Φ c cs a=>h Φ c cs fun v F' z ⟨b,d⟩=>by subst b;exact a v F' d
end
end Go.Sep
end
section
namespace Go.Proofs.YtpgcmoanfifglaaGreatDoor
open Go Go.Sep Go.Proofs Go.Conc
open Go.ConcN (upd upd_same)
open Go.ConcM (muA msA)
open Go.ConcR (stA smA)
set_option maxRecDepth 100000
set_option maxHeartbeats 4000000
attribute [local go_sem] Int.reduceBEq Int.reduceBNe muA msA stA smA
noncomputable abbrev TT:PT:=⟨Tryz.prog,184,191,4⟩
theorem Kg {f:FuncId}{R:Value->aa->Z->Prop}{a:Act}{F:aa}{x:X}{k d:Nat}{p:P0}(hd:a.defers=[dcall f #[]])(b:p= .reg->k=x.n)(c:R (.tuple #[]) F (.co x k p d)):yj f R .ret a F (.co x k p (d+1)):=⟨hd,x,k,p,d,b,rfl,c⟩
section
variable {Φ : Goroutine → aa → Prop} {x : X} {F : aa} {k : Nat}
theorem C3 (w:World)(s:Sh)(h:cv (x.cy TT) w s):∃v,w.cell? ⟨x.Wg,0,none⟩=some v:=⟨_,h.wg.1⟩
theorem C4 (w:World)(s:Sh)(h:cv (x.cy TT) w s):∃v,w.cell? ⟨x.Wg,1,none⟩=some v:=⟨_,h.ws.1⟩
theorem Kh (aF:x.Mu≠x.Wg/\x.Mu≠x.Is/\x.Wg≠x.Is)(c:x.n<67108864):
  cB Tryz.prog (ZJ TT Φ) 158 #[.pointer (some (stA x.Wg)),.int .u64 4294967296] F (.co x k (.opn 0) 1)
   (fun r F' d=>F'=F/\∃v:Nat,v<=x.n/\r= .int .u64 (((v+1:Nat):Int)*4294967296+((0:Nat):Int))/\d= .co x k (.opn 1) 1):=by
 have a:=ZJ.ej TT Φ
 have hJ:True:=trivial
 refine cB.go (main:=true) a Tryz.func158 rfl Tryz.ntmps158 (by simp) fun A f hd hs=>?_
 have g:=hs 0
 have k1:=hs 1
 clear hs
 repeat refine av (a _) ?_
 refine aY a fun K b=>?_
 refine ai.pure (a _) 1 (n:=0) _ rfl rfl ?_;simp only[*,go_sem,-b,-a]
 refine ai.nil a (b _ _ _ ?_);clear b K
 repeat refine av (a _) ?_
 refine aY a fun K b=>?_
 refine ai.pure (a _) 4 (n:=2) _ rfl rfl ?_;simp only[*,go_sem,-b,-a]
 refine J5 CG aF c ⟨_,_,_,rfl,(by first|(simp only[*,go_sem,-b,-a,-hJ];done)|rfl),rfl,by first|(simp only[*,go_sem,-b,-a,-hJ];done)|(simp only[*,go_sem,-b,-a,-hJ];rfl),rfl⟩ fun v e=>?_
 refine ai.pure (a _) 1 (n:=0) _ rfl rfl ?_;simp only[*,go_sem,-b,-a]
 refine ai.nil a (b _ _ _ ?_);clear b K
 exact fl (lI rfl (by simp only[*,go_sem,-a,-hJ]) (by simp only[*,go_sem,-a,-hJ]) ⟨rfl,v,e,rfl,rfl⟩).2
theorem Ki {u:Nat}:
  cB Tryz.prog (ZJ TT Φ) 160 #[.pointer (some (stA x.Wg))] F (.co x k (.look u) 1)
   (fun r F' c=>F'=F/\∃v:Nat,v<=u/\r= .int .u64 ((v:Int)*4294967296+((0:Nat):Int))/\c= .co x k (if v=0 then .eJ else .look v) 1):=by
 have a:=ZJ.ej TT Φ
 have hJ:True:=trivial
 refine cB.go (main:=true) a Tryz.func160 rfl Tryz.ntmps160 (by simp) fun A e hd hs=>?_
 have f:=hs 0
 clear hs
 repeat refine av (a _) ?_
 refine aY a fun K b=>?_
 refine ai.pure (a _) 1 (n:=0) _ rfl rfl ?_;simp only[*,go_sem,-b,-a]
 refine ai.nil a (b _ _ _ ?_);clear b K
 repeat refine av (a _) ?_
 refine aY a fun K b=>?_
 refine ai.pure (a _) 3 (n:=2) _ rfl rfl ?_;simp only[*,go_sem,-b,-a]
 refine J6 xX ⟨_,_,_,rfl,(by first|(simp only[*,go_sem,-b,-a,-hJ];done)|rfl),rfl,by first|(simp only[*,go_sem,-b,-a,-hJ];done)|(simp only[*,go_sem,-b,-a,-hJ];rfl),rfl⟩ fun v d=>?_
 refine ai.pure (a _) 1 (n:=0) _ rfl rfl ?_;simp only[*,go_sem,-b,-a]
 refine ai.nil a (b _ _ _ ?_);clear b K
 exact fl (lI rfl (by simp only[*,go_sem,-a,-hJ]) (by simp only[*,go_sem,-a,-hJ]) ⟨rfl,v,d,rfl,rfl⟩).2
theorem Kj:
  cB Tryz.prog (ZJ TT Φ) 160 #[.pointer (some (stA x.Wg))] F (.co x k .eJ 1)
   (fun r F' c=>F'=F/\r= .int .u64 0/\c= .co x k .eJ 1):=by
 have a:=ZJ.ej TT Φ
 have hJ:True:=trivial
 refine cB.go (main:=true) a Tryz.func160 rfl Tryz.ntmps160 (by simp) fun A d hd hs=>?_
 have e:=hs 0
 clear hs
 repeat refine av (a _) ?_
 refine aY a fun K b=>?_
 refine ai.pure (a _) 1 (n:=0) _ rfl rfl ?_;simp only[*,go_sem,-b,-a]
 refine ai.nil a (b _ _ _ ?_);clear b K
 repeat refine av (a _) ?_
 refine aY a fun K b=>?_
 refine ai.pure (a _) 3 (n:=2) _ rfl rfl ?_;simp only[*,go_sem,-b,-a]
 refine J7 xX ⟨_,_,_,rfl,(by first|(simp only[*,go_sem,-b,-a,-hJ];done)|rfl),rfl,by first|(simp only[*,go_sem,-b,-a,-hJ];done)|(simp only[*,go_sem,-b,-a,-hJ];rfl),rfl⟩ ?_
 refine ai.pure (a _) 1 (n:=0) _ rfl rfl ?_;simp only[*,go_sem,-b,-a]
 refine ai.nil a (b _ _ _ ?_);clear b K
 exact fl (lI rfl (by simp only[*,go_sem,-a,-hJ]) (by simp only[*,go_sem,-a,-hJ]) ⟨rfl,rfl,rfl⟩).2
theorem Kk (aF:x.Mu≠x.Wg/\x.Mu≠x.Is/\x.Wg≠x.Is){v:Nat}(d:0<v):
  cB Tryz.prog (ZJ TT Φ) 169 #[.pointer (some (stA x.Wg)),.int .u64 ((v:Int)*4294967296+((0:Nat):Int)),.int .u64 ((v:Int)*4294967296+((0:Nat):Int)+1)] F (.co x x.n (.look v) 1)
   (fun r F' c=>F'=F/\((r= .bool true/\c= .co x x.n .reg 1)\/(r= .bool false/\c= .co x x.n (.look (v - 1)) 1))):=by
 have a:=ZJ.ej TT Φ
 have hJ:True:=trivial
 refine cB.go (main:=true) a Tryz.func169 rfl Tryz.ntmps169 (by simp) fun A e hd hs=>?_
 have f:=hs 0
 have k1:=hs 1
 have g:=hs 2
 clear hs
 repeat refine av (a _) ?_
 refine aY a fun K b=>?_
 refine ai.pure (a _) 1 (n:=0) _ rfl rfl ?_;simp only[*,go_sem,-b,-a]
 refine ai.nil a (b _ _ _ ?_);clear b K
 repeat refine av (a _) ?_
 refine aY a fun K b=>?_
 refine ai.pure (a _) 5 (n:=2) _ rfl rfl ?_;simp only[*,go_sem,-b,-a]
 refine J8 Ji aF d rfl ⟨_,_,_,rfl,(by first|(simp only[*,go_sem,-b,-a,-hJ];done)|rfl),rfl,by first|(simp only[*,go_sem,-b,-a,-hJ];done)|(simp only[*,go_sem,-b,-a,-hJ];rfl),rfl⟩ ?_ ?_
 ·refine ai.pure (a _) 1 (n:=0) _ rfl rfl ?_;simp only[*,go_sem,-b,-a]
  refine ai.nil a (b _ _ _ ?_);clear b K
  exact fl (lI rfl (by simp only[*,go_sem,-a,-hJ]) (by simp only[*,go_sem,-a,-hJ]) ⟨rfl,.inl ⟨rfl,rfl⟩⟩).2
 ·refine ai.pure (a _) 1 (n:=0) _ rfl rfl ?_;simp only[*,go_sem,-b,-a]
  refine ai.nil a (b _ _ _ ?_);clear b K
  exact fl (lI rfl (by simp only[*,go_sem,-a,-hJ]) (by simp only[*,go_sem,-a,-hJ]) ⟨rfl,.inr ⟨rfl,rfl⟩⟩).2
end
attribute [local go_sem] Int.reduceBEq Int.reduceBNe muA msA stA smA
def Kl (Wg:Nat)(F:aa)(z:Z)(v:Int)(a:Act)(F':aa)(b:Z):Prop:=
 F'=F/\slot a 1= .int .i64 1/\slot a 7= .int .i32 v/\slot a 8= .int .u32 0/\sz a=117/\a.defers=[dcall 153 #[]]/\b=z
section
variable {Φ : Goroutine → aa → Prop} {x : X} {F : aa} {k : Nat}
theorem Km (aF:x.Mu≠x.Wg/\x.Mu≠x.Is/\x.Wg≠x.Is)(o:x.n<67108864):
  cB Tryz.prog (ZJ TT Φ) 132 #[.pointer (some (stA x.Wg)),.int .i64 1] F (.co x k (.opn 0) 0)
   (fun r F' g=>r= .tuple #[]/\F'=F/\g= .co x k (.opn 1) 0):=by
 have a:=ZJ.ej TT Φ
 have hJ:True:=trivial
 refine cB.Ke lJ Tryz.func132 rfl rfl Tryz.ntmps132 (by simp) fun A i hd hs=>?_
 have p:=hs 0
 have k1:=hs 1
 clear hs
 have c1:decide ((1:Int)<0)=false:=by decide
 have c2:decide ((1:Int)>0)=true:=by decide
 repeat refine av (a _) ?_
 refine cV (a _) (by simp only[*,go_sem,-a,-hJ]) ?_
 repeat refine av (a _) ?_
 refine aY a fun K b=>?_
 refine ai.pure (a _) 2 (n:=0) _ rfl rfl ?_;simp only[*,go_sem,-b,-a]
 refine ai.nil a (b _ _ _ ?_);clear b K
 repeat refine av (a _) ?_
 refine cA (a _) (by simp only[*,go_sem,-a,-hJ]) ?_
 refine cC (a _) ?_
 repeat refine av (a _) ?_
 refine aY a fun K b=>?_
 refine C0 qx ⟨_,_,_,rfl,(by first|(simp only[*,go_sem,-b,-a,-hJ];done)|rfl),rfl,by first|(simp only[*,go_sem,-b,-a,-hJ];done)|(simp only[*,go_sem,-b,-a,-hJ];rfl),rfl⟩ (fun e=>by cases e) (.opn 0) (fun _ _ _ h=>h) ?_
 refine ai.nil a (b _ _ _ ?_);clear b K
 repeat refine av (a _) ?_
 refine aY a fun K b=>?_
 refine ai.defer (a _) rfl (by first|(simp only[*,go_sem,-b,-a,-hJ];done)|rfl) rfl rfl (by simp;rfl) fun d e1 e2 j=>?_
 have l0:slot d 0= .pointer (some ⟨x.Wg,0,none⟩):=(e1 0).trans (by simp only[*,go_sem,-a,-hJ])
 have l:slot d 1= .int .i64 1:=(e1 1).trans (by simp only[*,go_sem,-a,-hJ])
 replace i:sz d=117:=e2.trans (by simp only[*,go_sem,-a,-hJ])
 replace hd:d.defers=[dcall 153 #[]]:=j.trans (by simp only[*,go_sem,-a,-hJ])
 clear e1 e2 j p k1
 refine ai.nil a (b _ _ _ ?_);clear b K
 repeat refine av (a _) ?_
 refine aY a fun K b=>?_
 refine ai.pure (a _) 1 (n:=0) _ rfl rfl ?_;simp only[*,go_sem,-b,-a]
 refine ai.nil a (b _ _ _ ?_);clear b K
 repeat refine av (a _) ?_
 refine aY a fun K b=>?_
 refine ai.entry (.bool false) (a _) CH ⟨_,_,_,rfl,(by first|(simp only[*,go_sem,-b,-a,-hJ];done)|rfl),rfl,by first|(simp only[*,go_sem,-b,-a,-hJ];done)|(simp only[*,go_sem,-b,-a,-hJ];rfl),rfl⟩ ?_
 refine ai.nil a (b _ _ _ ?_);clear b K
 repeat refine av (a _) ?_
 refine cA (a _) (by simp only[*,go_sem,-a,-hJ]) ?_
 refine cC (a _) ?_
 have w1:IntKind.u64.wrap 1=1:=by decide
 have w2:IntKind.u64.wrap (1*2 ^ min 32 64)=4294967296:=by decide
 repeat refine av (a _) ?_
 refine aY a fun K b=>?_
 refine ai.pure (a _) 6 (n:=2) _ rfl rfl ?_;simp only[*,go_sem,-b,-a]
 refine ai.fV (a _) rfl (by first|(simp only[*,go_sem,-b,-a,-hJ];done)|rfl) rfl zQ (by simp only[*,go_sem,-b,-a,-hJ]) (Kh aF o) fun r F' aK q=>?_
 obtain ⟨rfl,v,s,rfl,rfl⟩:=q
 obtain ⟨y,c⟩:∃y:Int,y=((v+1:Nat):Int)*4294967296+((0:Nat):Int):=⟨_,rfl⟩
 rw[<-c]
 have a1:hH y 2147483648=0:=by show kM y 2147483648=0;rw[c];exact ye (v+1) 0 (by omega) (by omega)
 have a2:hH y 2147483647=0:=by show kM y 2147483647=0;rw[c];exact yf (v+1) 0 (by omega) (by omega)
 obtain ⟨V,m⟩:∃V:Int,V=((v+1:Nat):Int):=⟨_,rfl⟩
 have a3:y.fdiv (2 ^ min 32 64)=V:=by rw[c,m];exact yg (v+1) 0 (by omega)
 have a4:IntKind.i32.wrap V=V:=iC (by omega) (by omega)
 have a5:IntKind.u32.wrap 0=0:=by decide
 have w:IntKind.i32.wrap 1=1:=by decide
 have c3:decide (V<0)=false:=by simp;omega
 have c4:decide (V>0)=true:=by simp;omega
 have f:(V==1)=true\/(V==1)=false:=by cases (V==1)<;>simp
 clear c m s
 refine ai.pure (a _) 1 (n:=0) _ rfl rfl ?_;simp only[*,go_sem,-b,-a]
 refine ai.nil a (b _ _ _ ?_);clear b K
 repeat refine av (a _) ?_
 refine aY a fun K b=>?_
 refine ai.pure (a _) 7 (n:=0) _ rfl rfl ?_;simp only[*,go_sem,-b,-a]
 refine ai.nil a (b _ _ _ ?_);clear b K
 repeat refine av (a _) ?_
 refine cA (a _) (by simp only[*,go_sem,-a,-hJ]) ?_
 refine cC (a _) ?_
 repeat refine av (a _) ?_
 refine aY a fun K b=>?_
 refine ai.pure (a _) 4 (n:=0) _ rfl rfl ?_;simp only[*,go_sem,-b,-a]
 refine ai.nil a (b _ _ _ ?_);clear b K
 repeat refine av (a _) ?_
 refine aY a fun K b=>?_
 refine ai.pure (a _) 4 (n:=0) _ rfl rfl ?_;simp only[*,go_sem,-b,-a]
 refine ai.nil a (b _ _ _ ?_);clear b K
 repeat refine av (a _) ?_
 refine aY a fun K b=>?_
 refine ai.pure (a _) 10 (n:=0) _ rfl rfl ?_;simp only[*,go_sem,-b,-a]
 refine ai.nil a (b _ _ _ ?_);clear b K
 repeat refine av (a _) ?_
 refine tE a (Kl x.Wg F' (.co x k (.opn 1) 1) V) ?_ ?_
 ·rcases f with f|f
  ·repeat refine av (a _) ?_
   refine cV (a _) (by simp only[*,go_sem,-a,-hJ]) ?_
   repeat refine av (a _) ?_
   refine aY a fun K b=>?_
   refine ai.pure (a _) 3 (n:=2) _ rfl rfl ?_;simp only[*,go_sem,-b,-a]
   refine tJ ⟨x.Wg,1,none⟩ CI lK CJ ⟨_,rfl,(by first|(simp only[*,go_sem,-b,-a,-hJ];done)|rfl),rfl,rfl⟩ (fun e=>by cases e) (by simp only[*,go_sem,-b,-a,-hJ]) C4 ?_
   refine J3 Jk ⟨_,_,_,rfl,(by first|(simp only[*,go_sem,-b,-a,-hJ];done)|rfl),rfl,by first|(simp only[*,go_sem,-b,-a,-hJ];done)|(simp only[*,go_sem,-b,-a,-hJ];rfl),rfl⟩ (fun e=>by cases e) ?_
   refine ai.nil a (b _ _ _ ?_);clear b K
   exact eo ⟨rfl,(by simp only[*,go_sem,-a,-hJ]),(by simp only[*,go_sem,-a,-hJ]),(by simp only[*,go_sem,-a,-hJ]),(by simp only[*,go_sem,-a,-hJ]),(by simp only[*,go_sem,-a,-hJ]),rfl⟩
  ·repeat refine av (a _) ?_
   refine cA (a _) (by simp only[*,go_sem,-a,-hJ]) ?_
   refine cC (a _) ?_
   exact eo ⟨rfl,(by simp only[*,go_sem,-a,-hJ]),(by simp only[*,go_sem,-a,-hJ]),(by simp only[*,go_sem,-a,-hJ]),(by simp only[*,go_sem,-a,-hJ]),(by simp only[*,go_sem,-a,-hJ]),rfl⟩
 clear f l0 l i hd a1 a2 a3
 rintro A t z ⟨rfl,l,B,C,i,hd,rfl⟩
 repeat refine av (a _) ?_
 refine aY a fun K b=>?_
 refine ai.pure (a _) 2 (n:=0) _ rfl rfl ?_;simp only[*,go_sem,-b,-a]
 refine ai.nil a (b _ _ _ ?_);clear b K
 repeat refine av (a _) ?_
 refine cA (a _) (by simp only[*,go_sem,-a,-hJ]) ?_
 refine cC (a _) ?_
 repeat refine av (a _) ?_
 refine aY a fun K b=>?_
 refine ai.pure (a _) 12 (n:=0) _ rfl rfl ?_;simp only[*,go_sem,-b,-a]
 refine ai.nil a (b _ _ _ ?_);clear b K
 repeat refine av (a _) ?_
 refine cA (a _) (by simp only[*,go_sem,-a,-hJ]) ?_
 refine cC (a _) ?_
 repeat refine av (a _) ?_
 refine aY a fun K b=>?_
 refine ai.pure (a _) 6 (n:=0) _ rfl rfl ?_;simp only[*,go_sem,-b,-a]
 refine ai.nil a (b _ _ _ ?_);clear b K
 repeat refine av (a _) ?_
 refine cV (a _) (by simp only[*,go_sem,-a,-hJ]) ?_
 exact fl (show yj 153 (fun r u g=>r= .tuple #[]/\u=t/\g= .co x k (.opn 1) 0) .ret _ _ _ from Kg (by simp only[*,go_sem,-a,-hJ]) (fun e=>by cases e) ⟨rfl,rfl,rfl⟩)
end
attribute [local go_sem] Int.reduceBEq Int.reduceBNe muA msA stA smA
def C5 (x:X)(F:aa)(m:Nat)(a:Act)(F':aa)(z:Z):Prop:=
 ∃u:Nat,u<=m/\u<=x.n/\F'=F/\slot a 0= .pointer (some ⟨x.Wg,0,none⟩)/\sz a=84/\a.defers=[]/\z= .co x x.n (.look u) 1
section
variable {Φ : Goroutine → aa → Prop} {x : X} {F : aa} {k : Nat}
theorem Kn (aF:x.Mu≠x.Wg/\x.Mu≠x.Is/\x.Wg≠x.Is)(z:x.n<67108864):
  cB Tryz.prog (ZJ TT Φ) 139 #[.pointer (some (stA x.Wg))] F (.co x x.n (.opn 0) 0)
   (fun r F' d=>r= .tuple #[]/\F'=⟨F.ro,(x.Is,(x.cy TT).fin)::F.own⟩/\d= .free):=by
 have a:=ZJ.ej TT Φ
 have hJ:True:=trivial
 refine cB.go (main:=true) a Tryz.func139 rfl Tryz.ntmps139 (by simp) fun A o hd hs=>?_
 have p:=hs 0
 clear hs
 repeat refine av (a _) ?_
 refine cV (a _) (by simp only[*,go_sem,-a,-hJ]) ?_
 repeat refine av (a _) ?_
 refine aY a fun K b=>?_
 refine C0 qx ⟨_,_,_,rfl,(by first|(simp only[*,go_sem,-b,-a,-hJ];done)|rfl),rfl,by first|(simp only[*,go_sem,-b,-a,-hJ];done)|(simp only[*,go_sem,-b,-a,-hJ];rfl),rfl⟩ (fun e=>by cases e) (.look x.n) (fun _ _ _ h=>IQ h) ?_
 refine ai.nil a (b _ _ _ ?_);clear b K
 repeat refine av (a _) ?_
 refine jL a ?_
 refine qw a (C5 x F) x.n ?_ ?_
 ·exact ⟨x.n,Nat.le_refl _,Nat.le_refl _,rfl,(by simp only[*,go_sem,-a,-hJ]),(by simp only[*,go_sem,-a,-hJ]),(by simp only[*,go_sem,-a,-hJ]),rfl⟩
 ·clear o hd p
  rintro m A F' d ⟨u,B,C,rfl,p,o,hd,rfl⟩
  repeat refine av (a _) ?_
  refine jL a ?_
  repeat refine av (a _) ?_
  refine aY a fun K b=>?_
  refine ai.pure (a _) 3 (n:=2) _ rfl rfl ?_;simp only[*,go_sem,-b,-a]
  refine ai.fV (a _) rfl (by first|(simp only[*,go_sem,-b,-a,-hJ];done)|rfl) rfl u5 (by simp only[*,go_sem,-b,-a,-hJ]) Ki fun r k D f=>?_
  obtain ⟨rfl,v,t,rfl,rfl⟩:=f
  obtain ⟨y,c⟩:∃y:Int,y=(v:Int)*4294967296+((0:Nat):Int):=⟨_,rfl⟩
  rw[<-c]
  have a1:hH y 2147483648=0:=by show kM y 2147483648=0;rw[c];exact ye v 0 (by omega) (by omega)
  have a2:hH y 2147483647=0:=by show kM y 2147483647=0;rw[c];exact yf v 0 (by omega) (by omega)
  obtain ⟨V,i⟩:∃V:Int,V=(v:Int):=⟨_,rfl⟩
  have a3:y.fdiv (2 ^ min 32 64)=V:=by rw[c,i];exact yg v 0 (by omega)
  have a4:IntKind.i32.wrap V=V:=iC (by omega) (by omega)
  have a5:IntKind.u32.wrap 0=0:=by decide
  have E:IntKind.u64.wrap (y+1)=y+1:=by
   unfold IntKind.wrap
   simp only[IntKind.bits,IntKind.signed]
   simp
   omega
  by_cases j:v=0
  ·
   have c1:(V==0)=true:=by rw[i,j];rfl
   have g:(if v=0 then P0.eJ else .look v)= .eJ:=if_pos j
   rw[g]
   clear g c i t j
   refine ai.pure (a _) 1 (n:=0) _ rfl rfl ?_;simp only[*,go_sem,-b,-a]
   refine ai.nil a (b _ _ _ ?_);clear b K
   repeat refine av (a _) ?_
   refine aY a fun K b=>?_
   refine ai.pure (a _) 4 (n:=0) _ rfl rfl ?_;simp only[*,go_sem,-b,-a]
   refine ai.nil a (b _ _ _ ?_);clear b K
   repeat refine av (a _) ?_
   refine aY a fun K b=>?_
   refine ai.pure (a _) 4 (n:=0) _ rfl rfl ?_;simp only[*,go_sem,-b,-a]
   refine ai.nil a (b _ _ _ ?_);clear b K
   repeat refine av (a _) ?_
   refine aY a fun K b=>?_
   refine ai.pure (a _) 2 (n:=0) _ rfl rfl ?_;simp only[*,go_sem,-b,-a]
   refine ai.nil a (b _ _ _ ?_);clear b K
   repeat refine av (a _) ?_
   refine cV (a _) (by simp only[*,go_sem,-a,-hJ]) ?_
   repeat refine av (a _) ?_
   refine cV (a _) (by simp only[*,go_sem,-a,-hJ]) ?_
   repeat refine av (a _) ?_
   refine aY a fun K b=>?_
   refine C1 lJ ⟨_,_,_,rfl,(by first|(simp only[*,go_sem,-b,-a,-hJ];done)|rfl),rfl,by first|(simp only[*,go_sem,-b,-a,-hJ];done)|(simp only[*,go_sem,-b,-a,-hJ];rfl),rfl⟩ (fun e=>by cases e) ?_
   refine ai.nil a (b _ _ _ ?_);clear b K
   repeat refine av (a _) ?_
   refine aY a fun K b=>?_
   refine ai.pure (a _) 1 (n:=2) _ rfl rfl ?_;simp only[*,go_sem,-b,-a]
   refine tJ ⟨x.Wg,0,none⟩ xZ lK x3 ⟨_,rfl,(by first|(simp only[*,go_sem,-b,-a,-hJ];done)|rfl),rfl,rfl⟩ (fun e=>by cases e) (by simp only[*,go_sem,-b,-a,-hJ]) C3 ?_
   refine C2 tr rfl ⟨_,_,_,rfl,(by first|(simp only[*,go_sem,-b,-a,-hJ];done)|rfl),rfl,by first|(simp only[*,go_sem,-b,-a,-hJ];done)|(simp only[*,go_sem,-b,-a,-hJ];rfl),rfl⟩ ?_
   refine ai.nil a (b _ _ _ ?_);clear b K
   repeat refine av (a _) ?_
   refine aY a fun K b=>?_
   refine ai.pure (a _) 11 (n:=0) _ rfl rfl ?_;simp only[*,go_sem,-b,-a]
   refine ai.nil a (b _ _ _ ?_);clear b K
   repeat refine av (a _) ?_
   refine cA (a _) (by simp only[*,go_sem,-a,-hJ]) ?_
   refine cC (a _) ?_
   exact fl (show jM Tryz.prog Tryz.f139 (fun (r:Value) (F':aa) (d:Z)=>r= .tuple #[]/\F'=⟨k.ro,(x.Is,(x.cy TT).fin)::k.own⟩/\d=Z.free) .ret _ _ _ from ou rfl (by simp only[*,go_sem,-a,-hJ]) ⟨rfl,rfl,rfl⟩)
  ·have c1:(V==0)=false:=by simp;omega
   have g:(if v=0 then P0.eJ else .look v)= .look v:=if_neg j
   rw[g]
   have l:=Kk (Φ:=Φ) (F:=k) aF (v:=v) (by omega)
   rw[<-c] at l
   clear g c i
   refine ai.pure (a _) 1 (n:=0) _ rfl rfl ?_;simp only[*,go_sem,-b,-a]
   refine ai.nil a (b _ _ _ ?_);clear b K
   repeat refine av (a _) ?_
   refine aY a fun K b=>?_
   refine ai.pure (a _) 4 (n:=0) _ rfl rfl ?_;simp only[*,go_sem,-b,-a]
   refine ai.nil a (b _ _ _ ?_);clear b K
   repeat refine av (a _) ?_
   refine aY a fun K b=>?_
   refine ai.pure (a _) 4 (n:=0) _ rfl rfl ?_;simp only[*,go_sem,-b,-a]
   refine ai.nil a (b _ _ _ ?_);clear b K
   repeat refine av (a _) ?_
   refine aY a fun K b=>?_
   refine ai.pure (a _) 2 (n:=0) _ rfl rfl ?_;simp only[*,go_sem,-b,-a]
   refine ai.nil a (b _ _ _ ?_);clear b K
   repeat refine av (a _) ?_
   refine cA (a _) (by simp only[*,go_sem,-a,-hJ]) ?_
   refine cC (a _) ?_
   repeat refine av (a _) ?_
   refine aY a fun K b=>?_
   refine ai.pure (a _) 6 (n:=1) _ rfl rfl ?_;simp only[*,go_sem,-b,-a]
   refine ai.fV (a _) rfl (by first|(simp only[*,go_sem,-b,-a,-hJ];done)|rfl) rfl EN (by simp only[*,go_sem,-b,-a,-hJ]) l fun r w G f=>?_
   clear l
   obtain ⟨rfl,⟨rfl,rfl⟩|⟨rfl,rfl⟩⟩:=f
   ·
    refine ai.nil a (b _ _ _ ?_);clear b K
    repeat refine av (a _) ?_
    refine cV (a _) (by simp only[*,go_sem,-a,-hJ]) ?_
    repeat refine av (a _) ?_
    refine aY a fun K b=>?_
    refine ai.pure (a _) 4 (n:=0) _ rfl rfl ?_;simp only[*,go_sem,-b,-a]
    refine ai.nil a (b _ _ _ ?_);clear b K
    repeat refine av (a _) ?_
    refine cV (a _) (by simp only[*,go_sem,-a,-hJ]) ?_
    repeat refine av (a _) ?_
    refine aY a fun K b=>?_
    refine ai.pure (a _) 3 (n:=2) _ rfl rfl ?_;simp only[*,go_sem,-b,-a]
    refine tJ ⟨x.Wg,1,none⟩ CI lK CJ ⟨_,rfl,(by first|(simp only[*,go_sem,-b,-a,-hJ];done)|rfl),rfl,rfl⟩ (fun _=>rfl) (by simp only[*,go_sem,-b,-a,-hJ]) C4 ?_
    refine J4 Jl ⟨_,_,_,rfl,(by first|(simp only[*,go_sem,-b,-a,-hJ];done)|rfl),rfl,by first|(simp only[*,go_sem,-b,-a,-hJ];done)|(simp only[*,go_sem,-b,-a,-hJ];rfl),rfl⟩ (fun _=>rfl) ?_
    refine ai.nil a (b _ _ _ ?_);clear b K
    repeat refine av (a _) ?_
    refine aY a fun K b=>?_
    refine ai.pure (a _) 1 (n:=0) _ rfl rfl ?_;simp only[*,go_sem,-b,-a]
    refine ai.nil a (b _ _ _ ?_);clear b K
    repeat refine av (a _) ?_
    refine aY a fun K b=>?_
    refine ai.pure (a _) 6 (n:=0) _ rfl rfl ?_;simp only[*,go_sem,-b,-a]
    refine ai.nil a (b _ _ _ ?_);clear b K
    repeat refine av (a _) ?_
    refine cA (a _) (by simp only[*,go_sem,-a,-hJ]) ?_
    refine cC (a _) ?_
    repeat refine av (a _) ?_
    refine aY a fun K b=>?_
    refine ai.pure (a _) 4 (n:=1) _ rfl rfl ?_;simp only[*,go_sem,-b,-a]
    refine J9 (.bool false) Jm aF rfl ⟨_,_,_,rfl,(by first|(simp only[*,go_sem,-b,-a,-hJ];done)|rfl),rfl,by first|(simp only[*,go_sem,-b,-a,-hJ];done)|(simp only[*,go_sem,-b,-a,-hJ];rfl),rfl⟩ ?_
    refine ai.nil a (b _ _ _ ?_);clear b K
    repeat refine av (a _) ?_
    refine aY a fun K b=>?_
    refine ai.pure (a _) 3 (n:=3) _ rfl rfl ?_;simp only[*,go_sem,-b,-a]
    refine ai.fV (a _) rfl (by first|(simp only[*,go_sem,-b,-a,-hJ];done)|rfl) rfl u5 (by simp only[*,go_sem,-b,-a,-hJ]) Kj fun r q H f=>?_
    obtain ⟨rfl,rfl,rfl⟩:=f
    refine ai.pure (a _) 2 (n:=0) _ rfl rfl ?_;simp only[*,go_sem,-b,-a]
    refine ai.nil a (b _ _ _ ?_);clear b K
    repeat refine av (a _) ?_
    refine cV (a _) (by simp only[*,go_sem,-a,-hJ]) ?_
    repeat refine av (a _) ?_
    refine aY a fun K b=>?_
    refine C1 lJ ⟨_,_,_,rfl,(by first|(simp only[*,go_sem,-b,-a,-hJ];done)|rfl),rfl,by first|(simp only[*,go_sem,-b,-a,-hJ];done)|(simp only[*,go_sem,-b,-a,-hJ];rfl),rfl⟩ (fun e=>by cases e) ?_
    refine ai.nil a (b _ _ _ ?_);clear b K
    repeat refine av (a _) ?_
    refine aY a fun K b=>?_
    refine ai.pure (a _) 1 (n:=2) _ rfl rfl ?_;simp only[*,go_sem,-b,-a]
    refine tJ ⟨x.Wg,0,none⟩ xZ lK x3 ⟨_,rfl,(by first|(simp only[*,go_sem,-b,-a,-hJ];done)|rfl),rfl,rfl⟩ (fun e=>by cases e) (by simp only[*,go_sem,-b,-a,-hJ]) C3 ?_
    refine C2 tr rfl ⟨_,_,_,rfl,(by first|(simp only[*,go_sem,-b,-a,-hJ];done)|rfl),rfl,by first|(simp only[*,go_sem,-b,-a,-hJ];done)|(simp only[*,go_sem,-b,-a,-hJ];rfl),rfl⟩ ?_
    refine ai.nil a (b _ _ _ ?_);clear b K
    repeat refine av (a _) ?_
    refine aY a fun K b=>?_
    refine ai.pure (a _) 1 (n:=0) _ rfl rfl ?_;simp only[*,go_sem,-b,-a]
    refine ai.nil a (b _ _ _ ?_);clear b K
    repeat refine av (a _) ?_
    refine cA (a _) (by simp only[*,go_sem,-a,-hJ]) ?_
    refine cC (a _) ?_
    exact fl (show jM Tryz.prog Tryz.f139 (fun (r:Value) (F':aa) (d:Z)=>r= .tuple #[]/\F'=⟨q.ro,(x.Is,(x.cy TT).fin)::q.own⟩/\d=Z.free) .ret _ _ _ from ou rfl (by simp only[*,go_sem,-a,-hJ]) ⟨rfl,rfl,rfl⟩)
   ·
    refine ai.nil a (b _ _ _ ?_);clear b K
    repeat refine av (a _) ?_
    refine cA (a _) (by simp only[*,go_sem,-a,-hJ]) ?_
    refine cC (a _) ?_
    change ∃s,s<m/\C5 x w s _ _ _
    exact ⟨v - 1,by omega,v - 1,Nat.le_refl _,by omega,rfl,(by simp only[*,go_sem,-a,-hJ]),(by simp only[*,go_sem,-a,-hJ]),(by simp only[*,go_sem,-a,-hJ]),rfl⟩
end
end Go.Proofs.YtpgcmoanfifglaaGreatDoor
end
section
namespace Go.Sep
open Go Go.Conc
variable {P : Program}
theorem Ko {t e:TypeId}{i:TypeInfo}{n:Nat}{R:Value->aa->Prop}{F:aa}(hu:P.underlying t=some (.slice e))(hi:P.info? e=some i)(hb:i.bytes=1)(hs:bW P e=some 1)(c:zeroOf P e=some (.bool false))(f:n<1048576)
  (h:∀b,dP F b->R (.slice (some ⟨b,0,none⟩) n n) (F.push b (.cells (List.replicate n (Value.bool false)).toArray e))):eL P (Instr.makeSlice t (.int .i64 n) (.int .i64 n)) R F:=by
 unfold eL
 have hw:IntKind.i64.wrap (n:Int)=(n:Int):=by
  unfold IntKind.wrap
  simp[IntKind.bits,IntKind.signed]
  omega
 have e1:¬((n:Int)<0\/(1:Int)*(n:Int)>2 ^ 48):=by
  have:((2:Int) ^ 48)=281474976710656:=by decide
  omega
 simp only[Instr.makeSlice,bq,dn,hu,zd,oM,hi,hb,hw]
 have e2:(((n:Int)<0||decide (((1:Nat):Int)*(n:Int)>2 ^ 48))||decide ((n:Int)<0)||decide ((n:Int)>(n:Int)))=false:=by
  have:((2:Int) ^ 48)=281474976710656:=by decide
  simp only[Bool.or_eq_false_iff,decide_eq_false_iff_not]
  omega
 rw[if_neg (by rw[e2];simp)]
 simp only[bq]
 refine uG _ ?_
 simp only[bq,eE,hs,Int.toNat_natCast,Nat.mul_one]
 have fin:∀zero:Array Value,(n≠0->zero=#[.bool false])->aT P (newRow e ((Array.range n).map (fun j=>zero[j % zero.size]!))) (fun a G=>aT P (Pure.pure (Value.slice (some a) n n)) R G) F:=fun zero hzero=>by
  simp only[newRow,bq,oL,bG]
  have d:((Array.range n).map (fun j=>zero[j % zero.size]!))=(List.replicate n (Value.bool false)).toArray:=by
   rcases Nat.eq_zero_or_pos n with rfl|g
   ·simp
   ·rw[hzero (by omega)]
    rw[<-Array.toList_inj]
    simp only[Array.toList_map,Array.toList_range]
    apply List.ext_getElem
    ·simp
    ·intro i h1 k
     simp[Nat.mod_one]
  rw[d]
  exact ⟨rfl,h⟩
 by_cases h0:n=0
 ·rw[if_pos h0]
  exact fin #[] (fun x=>absurd h0 x)
 ·rw[if_neg h0]
  rw[bq,lQ,c]
  exact fin #[.bool false] (fun _=>rfl)
section
variable {T : PT} {Φ : Goroutine → aa → Prop} {fi : FuncId}
def yl:Z->Bool| .co _ _ .reg _=>false|_=>true
theorem ZJ.Kp (T:PT)(Φ:Goroutine->aa->Prop)(z:Z)(h:yl z=true):Closed T.P true (ZJ T Φ z):=ZJ.closed T Φ fun x k d e=>by subst e;simp[yl] at h
theorem C6 {P:Program}{main:Bool}{S:Type}{JF:S->Goroutine->aa->Prop}{ph:S}(hJ:Closed P main (JF ph)){c:Code}{Q:Ex->Act->aa->S->Prop}{a:Act}{F F':aa}(hle:Le F F')(h:cK JF fi c Q a F ph):cK JF fi c Q a F' ph:=
 fun b k cs hb d=>hJ.mono hle (h b k cs hb d)
theorem ym {P:Program}{main:Bool}{S:Type}{JF:S->Goroutine->aa->Prop}{ph:S}(hJ:Closed P main (JF ph)){c:Code}{Q:Ex->Act->aa->S->Prop}{a:Act}{F:aa}(h:aP (keys F.own)->aD F.ro F.own->cK JF fi c Q a F ph):cK JF fi c Q a F ph:=by
 intro b k cs hb d;by_cases hw:∃w,Has F w
 ·obtain ⟨w,hw⟩:=hw;refine h ⟨hw.nodup⟩ (fun b hb off sp=>?_) b k cs hb d;cases e:F.ro ⟨b,off,sp⟩ with
  |none=>rfl
  |some v=>exact absurd hb (hw.apart _ v e)
 ·exact hJ.step fun w f=>absurd ⟨w,f⟩ hw
end
theorem mX {ro:Addr->Option Value}{b a off:Nat}{sp:Option Nat}{o:Obj}(h:ro ⟨a,off,sp⟩=none)(aF:a≠b):bR ro b o ⟨a,off,sp⟩=none:=by simp[bR,h,aF]
theorem Kq {ro:Addr->Option Value}{b3 b4 b a I M W:Nat}{i o4 g c d e f:Obj}(p:aP (keys [(W,f),(M,e),(a,c),(I,d),(b,g),(b4,o4),(b3,i)]))(l:aD ro [(W,f),(M,e),(a,c),(I,d),(b,g),(b4,o4),(b3,i)]):
  ∃j,Ext ro j/\Le ⟨j,[(M,e),(W,f),(I,d)]⟩ ⟨ro,[(W,f),(M,e),(a,c),(I,d),(b,g),(b4,o4),(b3,i)]⟩/\
   (∀off v,cellOf i off=some v->j ⟨b3,off,none⟩=some v)/\(∀off v,cellOf o4 off=some v->j ⟨b4,off,none⟩=some v)/\(∀off v,cellOf g off=some v->j ⟨b,off,none⟩=some v)/\(∀off v,cellOf c off=some v->j ⟨a,off,none⟩=some v):=by
 have hd:=p.1
 simp only[keys,List.map_cons,List.map_nil,List.nodup_cons,List.mem_cons,List.not_mem_nil,not_or] at hd
 obtain ⟨⟨-,a1,-,a2,a3,a4,-⟩,⟨G,-,H,J,K,-⟩,⟨c1,c2,c3,c4,-⟩,⟨i1,i2,i3,-⟩,⟨e1,e2,-⟩,⟨r,-⟩,-⟩:=hd
 have r3:∀off sp,ro ⟨b3,off,sp⟩=none:=l b3 (by simp[keys])
 have s:∀off sp,ro ⟨b4,off,sp⟩=none:=l b4 (by simp[keys])
 have t:∀off sp,ro ⟨b,off,sp⟩=none:=l b (by simp[keys])
 have u:∀off sp,ro ⟨a,off,sp⟩=none:=l a (by simp[keys])
 clear l p
 have w:b4≠b3:=r
 have x:b≠b3:=e2
 have y:b≠b4:=e1
 have z:a≠b3:=c4
 have A:a≠b4:=c3
 have B:a≠b:=c2
 let s1:=bR ro b3 i
 let s2:=bR s1 b4 o4
 let k:=bR s2 b g
 let n:=bR k a c
 have C:Ext ro s1:=fY _ _ _
 have q:Ext s1 s2:=fY _ _ _
 have o:Ext s2 k:=fY _ _ _
 have m:Ext k n:=fY _ _ _
 have t4:∀off sp,s1 ⟨b4,off,sp⟩=none:=fun off sp=>mX (s off sp) w
 have t7:∀off sp,s2 ⟨b,off,sp⟩=none:=fun off sp=>mX (mX (t off sp) x) y
 have t8:∀off sp,k ⟨a,off,sp⟩=none:=fun off sp=>mX (mX (mX (u off sp) z) A) B
 have k1:Le ⟨s1,[(W,f),(M,e),(a,c),(I,d),(b,g),(b4,o4)]⟩ ⟨ro,[(W,f),(M,e),(a,c),(I,d),(b,g),(b4,o4),(b3,i)]⟩:=
  jV (by simp[lk, *]) (by simp) (by simp[au,Ne.symm, *])
 have D:Le ⟨s2,[(W,f),(M,e),(a,c),(I,d),(b,g)]⟩ ⟨s1,[(W,f),(M,e),(a,c),(I,d),(b,g),(b4,o4)]⟩:=
  jV (by simp[lk, *]) (by simp) (by simp[au,Ne.symm, *])
 have E:Le ⟨k,[(W,f),(M,e),(a,c),(I,d)]⟩ ⟨s2,[(W,f),(M,e),(a,c),(I,d),(b,g)]⟩:=
  jV (by simp[lk, *]) (by simp) (by simp[au,Ne.symm, *])
 have F:Le ⟨n,[(W,f),(M,e),(I,d)]⟩ ⟨k,[(W,f),(M,e),(a,c),(I,d)]⟩:=
  jV (by simp[lk, *]) (by simp) (by simp[au,Ne.symm, *])
 refine ⟨n,((C.trans q).trans o).trans m,zS.trans (((F.trans E).trans D).trans k1),fun off v h=>?_,fun off v h=>?_,fun off v h=>?_,fun off v h=>?_⟩
 ·exact m _ _ (o _ _ (q _ _ ((iQ r3).trans h)))
 ·exact m _ _ (o _ _ ((iQ t4).trans h))
 ·exact m _ _ ((iQ t7).trans h)
 ·exact (iQ t8).trans h
theorem Kr {ro:Addr->Option Value}{a b2:Nat}{o1 o2:Obj}(d:aP (keys [(b2,o2),(a,o1)]))(c:aD ro [(b2,o2),(a,o1)]):
  ∃b,Ext ro b/\Le ⟨b,[]⟩ ⟨ro,[(b2,o2),(a,o1)]⟩/\(∀off v,cellOf o1 off=some v->b ⟨a,off,none⟩=some v)/\(∀off v,cellOf o2 off=some v->b ⟨b2,off,none⟩=some v):=by
 have hd:=d.1
 simp only[keys,List.map_cons,List.map_nil,List.nodup_cons,List.mem_cons,List.not_mem_nil,not_or] at hd
 have r1:∀off sp,ro ⟨a,off,sp⟩=none:=c a (by simp[keys])
 have r2:∀off sp,ro ⟨b2,off,sp⟩=none:=c b2 (by simp[keys])
 have e:b2≠a:=by obtain ⟨⟨z,-⟩,-⟩:=hd;exact z
 have t2:∀off sp,bR ro a o1 ⟨b2,off,sp⟩=none:=fun off sp=>mX (r2 off sp) e
 have k1:Le ⟨bR ro a o1,[(b2,o2)]⟩ ⟨ro,[(b2,o2),(a,o1)]⟩:=jV (by simp[lk, *]) (by simp) (by simp[au,Ne.symm, *])
 have f:Le ⟨bR (bR ro a o1) b2 o2,[]⟩ ⟨bR ro a o1,[(b2,o2)]⟩:=jV (by simp only[lk];simp) (by simp) trivial
 exact ⟨_,(fY _ _ _).trans (fY _ _ _),f.trans k1,fun off v h=>fY _ _ _ _ _ ((iQ r1).trans h),fun off v h=>(iQ t2).trans h⟩
theorem Ks {T:PT}{Φ:Goroutine->aa->Prop}{x:X}{k:Nat}{ops:Array Oper}{j n:Nat}{Q:Act->aa->Z->Prop}{a:Act}{F:aa}{fi:FuncId}(b:k<x.n){y:Operand}{f0:FuncId}{dg:Array TypeId}{caps:Array Value}(c:mU ops j a (.go {callee:=.value y,args:=#[],argTypes:=dg}) none)(d:ev a y= .func (.func f0) #[] caps)
  (hW:Wk (x.cy T) k ⟨.idle,.cnt,false,0⟩ (born T.P {target:=.fn (.func f0) caps,args:=#[]}) ⟨F.ro,[]⟩) (h:ai (ZJ T Φ) fi ops (j+1) n Q (aZ a none undef) F (.co x (k+1) (.opn 0) 0)):ai (ZJ T Φ) fi ops j (n+1) Q a F (.co x k (.opn 1) 0):=by
 obtain ⟨o,e,hg,f,hd⟩:=c
 have e1:execOp a.eval o=(pure (.spawn {target:=.fn (.func f0) caps,args:=#[]}):Sem Next):=by
  unfold execOp
  have e0:(#[]:Array Value)++Array.map (ev a) #[]=#[]:=by simp
  simp only[f,resolve,ep,d,Deferred.ofValue,e0]
  rfl
 refine Ka (fv:=y) b e hg (fun w=>?_) rfl hW (by rw[hd];exact h)
 rw[e1]
 exact ⟨rfl,rfl⟩
end Go.Sep
end
section
namespace Go.Proofs.YtpgcmoanfifglaaGreatDoor
open Go Go.Sep Go.Proofs Go.Conc
open Go.ConcN (upd upd_same)
open Go.ConcM (muA msA)
open Go.ConcR (stA smA)
set_option maxRecDepth 100000
set_option maxHeartbeats 4000000
attribute [local go_sem] Int.reduceBEq Int.reduceBNe muA msA stA smA
def Kt (Wg:Nat)(st:Bool)(F:aa)(m:Nat)(a:Act)(F':aa)(ph:Ph):Prop:=
 ∃t8:Int,F'=F/\slot a 0= .pointer (some ⟨Wg,0,none⟩)/\slot a 8= .int .u32 t8/\sz a=117/\a.defers=[dcall 153 #[]]/\((m=1/\t8=1/\ph=⟨.fin,.sm,st,1⟩)\/(m=0/\t8=0/\ph=⟨.fin,.gone,st,1⟩))
theorem Ku {f:FuncId}{R:Value->aa->Ph->Prop}{a:Act}{F:aa}{ph:Ph}{b:Nat}(hd:a.defers=[dcall f #[]])(hg:ph.gp= .gone)(h:ph.deaf=b+1)(c:R (.tuple #[]) F {ph with deaf:=b}):kL f R .normal a F ph:=⟨hd,hg,b,h,c⟩
theorem tK {f:FuncId}{R:Value->aa->Ph->Prop}{a:Act}{F:aa}{ph:Ph}{b:Nat}(hd:a.defers=[dcall f #[]])(hg:ph.gp= .gone)(h:ph.deaf=b+1)(c:R (.tuple #[]) F {ph with deaf:=b}):kL f R .ret a F ph:=⟨hd,hg,b,h,c⟩
section
variable {Mu Wg Is n base T0 i : Nat} {bs : Nat → Bool} {st : Bool} {F : aa}
theorem Kv (aF:Mu≠Wg/\Mu≠Is/\Wg≠Is)(s:n<67108864){mp:Mp}(u:mp= .idle\/mp= .fin)(w:st=bs i):
  cB Tryz.prog (WJ (CY Mu Wg Is n bs base T0) i) 132 #[.pointer (some (stA Wg)),.int .i64 (-1)] F ⟨mp,.cnt,st,0⟩
   (fun r F' aK=>r= .tuple #[]/\F'=F/\aK=⟨.fin,.gone,st,0⟩):=by
 have a:=WJ.ej (CY Mu Wg Is n bs base T0) i
 refine cB.JS lJ Tryz.func132 rfl rfl Tryz.ntmps132 (by simp) fun A h hd hs=>?_
 have hJ:True:=trivial
 have y:=hs 0
 have k1:=hs 1
 clear hs
 subst w
 have c1:decide ((-1:Int)<0)=true:=by decide
 have c2:decide ((-1:Int)>0)=false:=by decide
 repeat refine av (a _) ?_
 refine cV (a _) (by simp only[*,go_sem,-a,-hJ]) ?_
 repeat refine av (a _) ?_
 refine aY a fun K b=>?_
 refine ai.pure (a _) 2 (n:=0) _ rfl rfl ?_;simp only[*,go_sem,-b,-a]
 refine ai.nil a (b _ _ _ ?_);clear b K
 repeat refine av (a _) ?_
 refine cV (a _) (by simp only[*,go_sem,-a,-hJ]) ?_
 repeat refine av (a _) ?_
 refine aY a fun K b=>?_
 refine ai.pure (a _) 1 (n:=2) _ rfl rfl ?_;simp only[*,go_sem,-b,-a]
 refine tC ⟨Wg,0,none⟩ xZ lK x3 ⟨_,rfl,(by first|(simp only[*,go_sem,-b,-a,-hJ];done)|rfl),rfl,rfl⟩ (by simp) (by simp only[*,go_sem,-b,-a,-hJ]) JV ?_
 refine Jv CD ⟨_,_,_,rfl,(by first|(simp only[*,go_sem,-b,-a,-hJ];done)|rfl),rfl,by first|(simp only[*,go_sem,-b,-a,-hJ];done)|(simp only[*,go_sem,-b,-a,-hJ];rfl),rfl⟩ rfl rfl u rfl ?_
 refine ai.nil a (b _ _ _ ?_);clear b K
 repeat refine av (a _) ?_
 refine aY a fun K b=>?_
 refine x9 qx ⟨_,_,_,rfl,(by first|(simp only[*,go_sem,-b,-a,-hJ];done)|rfl),rfl,by first|(simp only[*,go_sem,-b,-a,-hJ];done)|(simp only[*,go_sem,-b,-a,-hJ];rfl),rfl⟩ (by simp) (by simp) ?_
 refine ai.nil a (b _ _ _ ?_);clear b K
 repeat refine av (a _) ?_
 refine aY a fun K b=>?_
 refine ai.defer (a _) rfl (by first|(simp only[*,go_sem,-b,-a,-hJ];done)|rfl) rfl rfl (by simp;rfl) fun g e1 e2 l=>?_
 have l0:slot g 0= .pointer (some ⟨Wg,0,none⟩):=(e1 0).trans (by simp only[*,go_sem,-a,-hJ])
 have z:slot g 1= .int .i64 (-1):=(e1 1).trans (by simp only[*,go_sem,-a,-hJ])
 replace h:sz g=117:=e2.trans (by simp only[*,go_sem,-a,-hJ])
 replace hd:g.defers=[dcall 153 #[]]:=l.trans (by simp only[*,go_sem,-a,-hJ])
 clear e1 e2 l y k1
 refine ai.nil a (b _ _ _ ?_);clear b K
 repeat refine av (a _) ?_
 refine aY a fun K b=>?_
 refine ai.pure (a _) 1 (n:=0) _ rfl rfl ?_;simp only[*,go_sem,-b,-a]
 refine ai.nil a (b _ _ _ ?_);clear b K
 repeat refine av (a _) ?_
 refine aY a fun K b=>?_
 refine ai.entry (.bool false) (a _) CH ⟨_,_,_,rfl,(by first|(simp only[*,go_sem,-b,-a,-hJ];done)|rfl),rfl,by first|(simp only[*,go_sem,-b,-a,-hJ];done)|(simp only[*,go_sem,-b,-a,-hJ];rfl),rfl⟩ ?_
 refine ai.nil a (b _ _ _ ?_);clear b K
 repeat refine av (a _) ?_
 refine cA (a _) (by simp only[*,go_sem,-a,-hJ]) ?_
 refine cC (a _) ?_
 have w1:IntKind.u64.wrap (-1)=18446744073709551615:=by decide
 have w2:IntKind.u64.wrap (18446744073709551615*2 ^ min 32 64)=18446744069414584320:=by decide
 repeat refine av (a _) ?_
 refine aY a fun K b=>?_
 refine ai.pure (a _) 6 (n:=2) _ rfl rfl ?_;simp only[*,go_sem,-b,-a]
 refine ai.fV (a _) rfl (by first|(simp only[*,go_sem,-b,-a,-hJ];done)|rfl) rfl zQ (by simp only[*,go_sem,-b,-a,-hJ]) (JW aF s) fun r F' aK f=>?_
 obtain ⟨rfl,v,t,o,ht,rfl,rfl⟩:=f
 obtain ⟨x,d⟩:∃x:Int,x=(v:Int)*4294967296+(t:Int):=⟨_,rfl⟩
 rw[<-d]
 have a1:hH x 2147483648=0:=by show kM x 2147483648=0;rw[d];exact ye v t (by omega) ht
 have a2:hH x 2147483647=(t:Int):=by show kM x 2147483647=(t:Int);rw[d];exact yf v t (by omega) ht
 have a3:x.fdiv (2 ^ min 32 64)=(v:Int):=by rw[d];exact yg v t ht
 have a4:IntKind.i32.wrap (v:Int)=(v:Int):=iC (by omega) (by omega)
 have a5:IntKind.u32.wrap (t:Int)=(t:Int):=by
  unfold IntKind.wrap
  simp[IntKind.bits,IntKind.signed]
  omega
 have j:v=0->t=1->((1:Int) != x)=false:=fun e B=>by rw[d,e,B];rfl
 clear d
 refine ai.pure (a _) 1 (n:=0) _ rfl rfl ?_;simp only[*,go_sem,-b,-a]
 refine ai.nil a (b _ _ _ ?_);clear b K
 repeat refine av (a _) ?_
 refine aY a fun K b=>?_
 refine ai.pure (a _) 7 (n:=0) _ rfl rfl ?_;simp only[*,go_sem,-b,-a]
 refine ai.nil a (b _ _ _ ?_);clear b K
 repeat refine av (a _) ?_
 refine cA (a _) (by simp only[*,go_sem,-a,-hJ]) ?_
 refine cC (a _) ?_
 repeat refine av (a _) ?_
 refine aY a fun K b=>?_
 refine ai.pure (a _) 4 (n:=0) _ rfl rfl ?_;simp only[*,go_sem,-b,-a]
 refine ai.nil a (b _ _ _ ?_);clear b K
 repeat refine av (a _) ?_
 refine aY a fun K b=>?_
 refine ai.pure (a _) 4 (n:=0) _ rfl rfl ?_;simp only[*,go_sem,-b,-a]
 refine ai.nil a (b _ _ _ ?_);clear b K
 repeat refine av (a _) ?_
 refine aY a fun K b=>?_
 refine ai.pure (a _) 10 (n:=0) _ rfl rfl ?_;simp only[*,go_sem,-b,-a]
 refine ai.nil a (b _ _ _ ?_);clear b K
 repeat refine av (a _) ?_
 refine cA (a _) (by simp only[*,go_sem,-a,-hJ]) ?_
 refine cC (a _) ?_
 have c3:decide ((v:Int)<0)=false:=by simp
 repeat refine av (a _) ?_
 refine aY a fun K b=>?_
 refine ai.pure (a _) 2 (n:=0) _ rfl rfl ?_;simp only[*,go_sem,-b,-a]
 refine ai.nil a (b _ _ _ ?_);clear b K
 repeat refine av (a _) ?_
 refine cA (a _) (by simp only[*,go_sem,-a,-hJ]) ?_
 refine cC (a _) ?_
 have p:t=0\/t=1:=by omega
 by_cases hC:v=0/\t=1
 ·
  obtain ⟨rfl,rfl⟩:=hC
  have C:((1:Int) != x)=false:=j rfl rfl
  have hg:(if (0:Nat)=0/\(1:Nat)=1 then Gp.ld else Gp.gone)= .ld:=rfl
  rw[hg]
  have D:((1:Nat):Int)=1:=rfl
  clear hg j p o ht
  repeat refine av (a _) ?_
  refine aY a fun K b=>?_
  refine ai.pure (a _) 12 (n:=0) _ rfl rfl ?_;simp only[*,go_sem,-b,-a]
  refine ai.nil a (b _ _ _ ?_);clear b K
  repeat refine av (a _) ?_
  refine cA (a _) (by simp only[*,go_sem,-a,-hJ]) ?_
  refine cC (a _) ?_
  repeat refine av (a _) ?_
  refine aY a fun K b=>?_
  refine ai.pure (a _) 6 (n:=0) _ rfl rfl ?_;simp only[*,go_sem,-b,-a]
  refine ai.nil a (b _ _ _ ?_);clear b K
  repeat refine av (a _) ?_
  refine cA (a _) (by simp only[*,go_sem,-a,-hJ]) ?_
  refine cC (a _) ?_
  repeat refine av (a _) ?_
  refine aY a fun K b=>?_
  refine ai.pure (a _) 3 (n:=3) _ rfl rfl ?_;simp only[*,go_sem,-b,-a]
  refine ai.fV (a _) rfl (by first|(simp only[*,go_sem,-b,-a,-hJ];done)|rfl) rfl u5 (by simp only[*,go_sem,-b,-a,-hJ]) JX fun r F' aK f=>?_
  obtain ⟨rfl,rfl,rfl⟩:=f
  refine ai.pure (a _) 2 (n:=0) _ rfl rfl ?_;simp only[*,go_sem,-b,-a]
  refine ai.nil a (b _ _ _ ?_);clear b K
  repeat refine av (a _) ?_
  refine cA (a _) (by simp only[*,go_sem,-a,-hJ]) ?_
  refine cC (a _) ?_
  repeat refine av (a _) ?_
  refine aY a fun K b=>?_
  refine ai.pure (a _) 3 (n:=1) _ rfl rfl ?_;simp only[*,go_sem,-b,-a]
  refine ai.fV (a _) rfl (by first|(simp only[*,go_sem,-b,-a,-hJ];done)|rfl) rfl EK (by simp only[*,go_sem,-b,-a,-hJ]) (JY aF) fun r F' aK f=>?_
  obtain ⟨rfl,rfl,rfl⟩:=f
  refine ai.nil a (b _ _ _ ?_);clear b K
  repeat refine av (a _) ?_
  refine aY a fun K b=>?_
  refine ai.pure (a _) 1 (n:=0) _ rfl rfl ?_;simp only[*,go_sem,-b,-a]
  refine ai.nil a (b _ _ _ ?_);clear b K
  repeat refine av (a _) ?_
  refine cA (a _) (by simp only[*,go_sem,-a,-hJ]) ?_
  refine cC (a _) ?_
  repeat refine av (a _) ?_
  refine jL a ?_
  refine qw a (Kt Wg (bs i) F') 1 ?_ ?_
  ·exact ⟨1,rfl,(by simp only[*,go_sem,-a,-hJ]),(by simp only[*,go_sem,-a,-hJ]),(by simp only[*,go_sem,-a,-hJ]),(by simp only[*,go_sem,-a,-hJ]),.inl ⟨rfl,rfl,rfl⟩⟩
  ·clear l0 z h hd c1 c2 c3 C a1 a2 a3 a4 a5 w1 w2 D
   rintro m A E H ⟨t8,rfl,l0,I,h,hd,⟨rfl,rfl,rfl⟩|⟨rfl,rfl,rfl⟩⟩
   ·have G:((1:Int) != 0)=true:=rfl
    have w3:IntKind.u32.wrap (1 - 1)=0:=by decide
    repeat refine av (a _) ?_
    refine aY a fun K b=>?_
    refine ai.pure (a _) 2 (n:=0) _ rfl rfl ?_;simp only[*,go_sem,-b,-a]
    refine ai.nil a (b _ _ _ ?_);clear b K
    repeat refine av (a _) ?_
    refine cV (a _) (by simp only[*,go_sem,-a,-hJ]) ?_
    refine cC (a _) ?_
    repeat refine av (a _) ?_
    refine jL a ?_
    repeat refine av (a _) ?_
    refine aY a fun K b=>?_
    refine ai.pure (a _) 3 (n:=1) _ rfl rfl ?_;simp only[*,go_sem,-b,-a]
    refine JQ (.bool false) (.int .i64 0) Jn aF ⟨_,_,_,rfl,(by first|(simp only[*,go_sem,-b,-a,-hJ];done)|rfl),rfl,by first|(simp only[*,go_sem,-b,-a,-hJ];done)|(simp only[*,go_sem,-b,-a,-hJ];rfl),rfl⟩ (by rfl) ?_
    refine ai.nil a (b _ _ _ ?_);clear b K
    repeat refine av (a _) ?_
    refine aY a fun K b=>?_
    refine ai.pure (a _) 3 (n:=0) _ rfl rfl ?_;simp only[*,go_sem,-b,-a]
    refine ai.nil a (b _ _ _ ?_);clear b K
    exact ⟨0,by omega,0,rfl,(by simp only[*,go_sem,-a,-hJ]),(by simp only[*,go_sem,-a,-hJ]),(by simp only[*,go_sem,-a,-hJ]),(by simp only[*,go_sem,-a,-hJ]),.inr ⟨rfl,rfl,rfl⟩⟩
   ·have G:((0:Int) != 0)=false:=rfl
    repeat refine av (a _) ?_
    refine aY a fun K b=>?_
    refine ai.pure (a _) 2 (n:=0) _ rfl rfl ?_;simp only[*,go_sem,-b,-a]
    refine ai.nil a (b _ _ _ ?_);clear b K
    repeat refine av (a _) ?_
    refine cA (a _) (by simp only[*,go_sem,-a,-hJ]) ?_
    exact ot (show kL 153 (fun r c aK=>r= .tuple #[]/\c=E/\aK=⟨.fin,.gone,bs i,0⟩) .normal _ _ _ from Ku (by simp only[*,go_sem,-a,-hJ]) rfl rfl ⟨rfl,rfl,rfl⟩)
 ·
  rw[if_neg hC]
  have q:(0<v/\decide ((v:Int)>0)=true)\/(v=0/\decide ((v:Int)>0)=false/\((t:Int)==0)=true):=by
   rcases Nat.eq_zero_or_pos v with e|e
   ·refine .inr ⟨e,by simp[e],?_⟩
    obtain rfl:t=0:=by omega
    rfl
   ·exact .inl ⟨e,by simp;omega⟩
  have a7:((t:Int) != 0)=false\/((t:Int) != 0)=true:=by cases ((t:Int) != 0)<;>simp
  clear j hC o ht p
  rcases a7 with a7|a7
  ·repeat refine av (a _) ?_
   refine aY a fun K b=>?_
   refine ai.pure (a _) 12 (n:=0) _ rfl rfl ?_;simp only[*,go_sem,-b,-a]
   refine ai.nil a (b _ _ _ ?_);clear b K
   repeat refine av (a _) ?_
   refine cA (a _) (by simp only[*,go_sem,-a,-hJ]) ?_
   refine cC (a _) ?_
   rcases q with ⟨_,k⟩|⟨_,k,b2⟩
   ·repeat refine av (a _) ?_
    refine aY a fun K b=>?_
    refine ai.pure (a _) 6 (n:=0) _ rfl rfl ?_;simp only[*,go_sem,-b,-a]
    refine ai.nil a (b _ _ _ ?_);clear b K
    repeat refine av (a _) ?_
    refine cV (a _) (by simp only[*,go_sem,-a,-hJ]) ?_
    exact fl (show kL 153 (fun r c aK=>r= .tuple #[]/\c=F'/\aK=⟨.fin,.gone,bs i,0⟩) .ret _ _ _ from tK (by simp only[*,go_sem,-a,-hJ]) rfl rfl ⟨rfl,rfl,rfl⟩)
   ·repeat refine av (a _) ?_
    refine aY a fun K b=>?_
    refine ai.pure (a _) 6 (n:=0) _ rfl rfl ?_;simp only[*,go_sem,-b,-a]
    refine ai.nil a (b _ _ _ ?_);clear b K
    repeat refine av (a _) ?_
    refine cV (a _) (by simp only[*,go_sem,-a,-hJ]) ?_
    exact fl (show kL 153 (fun r c aK=>r= .tuple #[]/\c=F'/\aK=⟨.fin,.gone,bs i,0⟩) .ret _ _ _ from tK (by simp only[*,go_sem,-a,-hJ]) rfl rfl ⟨rfl,rfl,rfl⟩)
  ·repeat refine av (a _) ?_
   refine aY a fun K b=>?_
   refine ai.pure (a _) 12 (n:=0) _ rfl rfl ?_;simp only[*,go_sem,-b,-a]
   refine ai.nil a (b _ _ _ ?_);clear b K
   repeat refine av (a _) ?_
   refine cA (a _) (by simp only[*,go_sem,-a,-hJ]) ?_
   refine cC (a _) ?_
   rcases q with ⟨_,k⟩|⟨_,k,b2⟩
   ·repeat refine av (a _) ?_
    refine aY a fun K b=>?_
    refine ai.pure (a _) 6 (n:=0) _ rfl rfl ?_;simp only[*,go_sem,-b,-a]
    refine ai.nil a (b _ _ _ ?_);clear b K
    repeat refine av (a _) ?_
    refine cV (a _) (by simp only[*,go_sem,-a,-hJ]) ?_
    exact fl (show kL 153 (fun r c aK=>r= .tuple #[]/\c=F'/\aK=⟨.fin,.gone,bs i,0⟩) .ret _ _ _ from tK (by simp only[*,go_sem,-a,-hJ]) rfl rfl ⟨rfl,rfl,rfl⟩)
   ·repeat refine av (a _) ?_
    refine aY a fun K b=>?_
    refine ai.pure (a _) 6 (n:=0) _ rfl rfl ?_;simp only[*,go_sem,-b,-a]
    refine ai.nil a (b _ _ _ ?_);clear b K
    repeat refine av (a _) ?_
    refine cV (a _) (by simp only[*,go_sem,-a,-hJ]) ?_
    exact fl (show kL 153 (fun r c aK=>r= .tuple #[]/\c=F'/\aK=⟨.fin,.gone,bs i,0⟩) .ret _ _ _ from tK (by simp only[*,go_sem,-a,-hJ]) rfl rfl ⟨rfl,rfl,rfl⟩)
end
end Go.Proofs.YtpgcmoanfifglaaGreatDoor
end
section
namespace Go.Sep
open Go Go.Conc
open Go.ConcN (sumTo upd upd_ne upd_same)
def jq (P:Program):Frame:={(default:Frame) with fn:=P.funcs.size,defers:=[],mode:=.panicking [goexitEntry]}
section
variable {P : Program} {f : FuncId} {fn : Func} {cd : Code} {w : World} {caps args : Array Value}
theorem Kw (a:P.funcs[f]?=some fn)(b:(fn.name== "runtime.NumGoroutine")=false)(hb:fn.body=some cd):
  stepG P false (born P {target:=.fn (.func f) caps,args:=args}) w= .go (G ((baseD f).at {tmps:=args++caps++Array.replicate (fn.ntmps - (args++caps).size) undef,defers:=[]} [.code cd]) [jq P]) w #[]:=by
 have h1:¬fn.name= "runtime.NumGoroutine":=by simpa using b
 rw[<-enter_atD (args++caps) a hb]
 simp[born,G,stepG,unwind,callDeferred,invoke,callFunc,a,h1,hb,GStep.after,seen_none,jq]
theorem Kx {b:Frame}{a:Act}{todo:List Item}(d:b.kind= .deferred)(hd:a.defers=[])(e:P.funcs[b.fn]?=some fn)(c:fn.results=#[]):
  stepG P false (G {b.at a todo with mode:=.returning} [jq P]) w= .go (G (jq P) []) w #[]:=by
 have he:(results fn a.tmps).events P w #[]=#[]:=events_results_none c _ _
 have f:(results fn a.tmps).run P w= .ok (.tuple #[]) w:=results_none c _ P w
 simp[G,stepG,unwind,doReturn,Frame.at,d,hd,e,f,he,jq,goexitEntry,seen_none,GStep.after]
theorem Ky:stepG P false (G (jq P) []) w= .go {frame:=jq P,callers:=[],status:=.finished,dying:=none} w #[]:=by
 have e:(default:Frame).todo=[]:=rfl;simp[G,stepG,unwind,jq,goexitEntry,Frame.catches,e]
end
section
variable {c : Cy} {i : Nat} {F : aa} {f fd : FuncId}
def yo (c:Cy)(i:Nat)(fd:FuncId)(v:Value):Ex->Act->aa->Ph->Prop
 | .exit _,_,_,_=>False
 |_,a,_,ph=>a.defers=[dcall fd #[v]]/\(ph.mp= .idle\/ph.mp= .fin)/\ph.gp= .cnt/\ph.stored=c.bs i/\ph.deaf=0
theorem worker {fn b:Func}{cd l:Code}{n nd:Nat}{v:Value}(m:c.P.funcs[f]?=some fn)(z:(fn.name== "runtime.NumGoroutine")=false)(hb:fn.body=some cd)(B:fn.results=#[])(o:fn.ntmps=n){caps:Array Value}(Q:caps.size<=n)
  (C:c.P.funcs[fd]?=some b) (D:(b.name== "runtime.NumGoroutine")=false) (E:b.body=some l) (H:b.results=#[]) (I:b.ntmps=nd) (h1:1<=nd)
  (hd:∀(mp:Mp) (F:aa),mp= .idle\/mp= .fin->∀A:Act,sz A=nd->A.defers=[]->(∀j,slot A j=(#[v]:Array Value).getD j undef)->cK (WJ c i) fd l (yd fun F' aK=>aK=⟨.fin,.gone,c.bs i,0⟩) A F ⟨mp,.cnt,c.bs i,0⟩)
  (h:∀A:Act,sz A=n->A.defers=[]->(∀j,slot A j=caps.getD j undef)->cK (WJ c i) f cd (yo c i fd v) A F ⟨.idle,.cnt,false,0⟩):
  Wk c i ⟨.idle,.cnt,false,0⟩ (born c.P {target:=.fn (.func f) caps,args:=#[]}) F:=by
 have p:=WJ.ej c i
 have e0:∀w,stepG c.P false (born c.P {target:=.fn (.func f) caps,args:=#[]}) w= .go (G ((baseD f).at {tmps:=caps++Array.replicate (fn.ntmps - caps.size) undef,defers:=[]} [.code cd]) [jq c.P]) w #[]:=fun w=>by
  have:=Kw (P:=c.P) (w:=w) (caps:=caps) (args:=#[]) m z hb
  simpa using this
 refine Wk.act (c:=c) (i:=i) rfl rfl (by simp) fun w s k φ p0 e1 e2 R J K=>.inr ⟨_,w,#[],s,⟨.idle,.cnt,false,0⟩,e0 w,e2,.refl _ _,?_,mV rfl Iff.rfl,.inr dF,?_⟩
 ·rw[<-J,x4];exact K
 have out:∀(a:Act) (r:List Item) F' (aK:Ph),(a.defers=[dcall fd #[v]]/\(aK.mp= .idle\/aK.mp= .fin)/\aK.gp= .cnt/\aK.stored=c.bs i/\aK.deaf=0)->WJ c i aK (G {(baseD f).at a r with mode:=.returning} [jq c.P]) F':=by
  intro a r F' aK ⟨k1,t,u,x,y⟩
  obtain ⟨mp,gp,st,S⟩:=aK
  simp only at t u x y
  subst u x y
  refine JU C D E H I (by simpa using h1) k1 (fun A L M N=>hd mp F' t A L M N) fun T U O=>?_
  subst O
  refine Wk.gone (q:=2) rfl (QuitsD.ctl rfl (fun w=>Kx rfl rfl m B) (QuitsD.ctl rfl (fun w=>Ky) ⟨rfl,rfl⟩))
 have:=h {tmps:=caps++Array.replicate (fn.ntmps - caps.size) undef,defers:=[]} (by simp[sz,o];omega) rfl (fun j=>?_) (baseD f) [] [jq c.P] ⟨by simp[baseD],rfl,rfl⟩ fun e a F' aK g=>?_
 ·rw[eA rfl] at this;exact this
 ·simp only[slot,o,Array.getD_eq_getD_getElem?]
  rcases Nat.lt_or_ge j caps.size with d|d
  ·rw[Array.getElem?_append_left d]
  ·rw[Array.getElem?_append_right d,Array.getElem?_replicate,Array.getElem?_eq_none d]
   split<;>rfl
 ·cases e with
  |normal=>exact (p aK).move (fun _=>lO rfl) (out a _ F' aK g)
  |exit i=>exact g.elim
  |ret=>exact fun V=>(p aK).move (fun _=>stepG_ret' rfl) (out a _ F' aK g)
end
attribute [go_sem] yo
end Go.Sep
end
section
namespace Go.Proofs.YtpgcmoanfifglaaGreatDoor
open Go Go.Sep Go.Proofs Go.Conc
open Go.ConcN (upd upd_same)
open Go.ConcM (muA msA)
open Go.ConcR (stA smA)
set_option maxRecDepth 100000
set_option maxHeartbeats 4000000
attribute [local go_sem] Int.reduceBEq Int.reduceBNe muA msA stA smA
theorem Kz:(Tryz.prog.funcs[133]?).any (·.norace)=false:=by kernel_rfl
section
variable {Mu Wg Is n base T0 i : Nat} {bs : Nat → Bool}
theorem KA (aF:Mu≠Wg/\Mu≠Is/\Wg≠Is)(x:n<67108864)(a5:i<n){ro:Addr->Option Value}(u0:cL){s1:Value}(o:aB eW ro s1 u0.book.ay){K:Value}(q:aB er ro K u0.book.props){L:Value}(r:aB eN ro L u0.book.aE){M:Value}(s:aB dc ro M u0.book.told)
  (z:Int) (B:List Int) {N:Value} (u:aB rI ro N B) (C:List aU) {O:Value} (g:aB iV ro O C) {f b2 b3 b4 P Q:Nat}
  (g0:ro ⟨f,0,none⟩=some (.int .i64 u0.book.bE)) (R:ro ⟨f,1,none⟩=some (.int .i64 u0.book.bI)) (S:ro ⟨f,2,none⟩=some (.int .i64 u0.book.aN.num)) (T:ro ⟨f,3,none⟩=some (.int .i64 u0.book.aN.den)) (U:ro ⟨f,4,none⟩=some s1) (V:ro ⟨f,5,none⟩=some K) (W:ro ⟨f,6,none⟩=some L) (X:ro ⟨f,7,none⟩=some M)
  (Y:ro ⟨b2,0,none⟩=some (.int .i64 z)) (Z:ro ⟨b3,0,none⟩=some N) (ab:ro ⟨b4,0,none⟩=some O) (D:ro ⟨P,0,none⟩=some (.slice (some ⟨Is,0,none⟩) n n)) (E:ro ⟨Q,0,none⟩=some (.int .i64 i))
  (h:ag (sj u0.book z B) (fun b=>rX b C)=some (bs i)):
  Wk (CY Mu Wg Is n bs base T0) i ⟨.idle,.cnt,false,0⟩ (born Tryz.prog {target:=.fn (.func 133) #[.pointer (some ⟨Wg,0,none⟩),.pointer (some ⟨f,0,none⟩),.pointer (some ⟨b2,0,none⟩),.pointer (some ⟨b3,0,none⟩),.pointer (some ⟨b4,0,none⟩),.pointer (some ⟨Mu,0,none⟩),.pointer (some ⟨P,0,none⟩),.pointer (some ⟨Q,0,none⟩)],args:=#[]}) ⟨ro,[]⟩:=by
 have d:=WJ.ej (CY Mu Wg Is n bs base T0) i
 have hJ:∀ph:Ph,ph.gp= .cnt->Go.Sep.Closed Tryz.prog false (WJ (CY Mu Wg Is n bs base T0) i ph):=fun ph h=>Wk.closed (CY Mu Wg Is n bs base T0) i ph h
 refine worker (c:=CY Mu Wg Is n bs base T0) (i:=i) (fd:=134) (v:=.pointer (some ⟨Wg,0,none⟩)) Tryz.func133 rfl rfl rfl Tryz.ntmps133 (by simp) Tryz.func134 rfl rfl rfl Tryz.ntmps134 (by simp) ?_ ?_
 ·intro mp F a6 A G hd hs
  have w:=hs 0
  clear hs h g0 R S T U V W X Y Z ab D E o q r s u g hJ a5
  repeat refine av (d _) ?_
  refine cW d ?_
  refine ai.pure (d _) 1 (n:=1) _ rfl rfl ?_;simp only[*,go_sem]
  refine ai.fV (d _) rfl rfl rfl zP (by simp only[*,go_sem,stA]) (Kv aF x a6 rfl) fun v F' aK j=>?_
  obtain ⟨rfl,rfl,rfl⟩:=j
  refine ai.nil d ?_
  exact ⟨(by simp only[*,go_sem]),rfl⟩
 ·intro ad G hd hs
  have w:=hs 0
  have k1:=hs 1
  have ae:=hs 2
  have al:=hs 3
  have ao:=hs 4
  have ar:=hs 5
  have a0:=hs 6
  have a2:=hs 7
  clear hs
  repeat refine av (d _) ?_
  refine cW d ?_
  refine ai.defer (d _) (vals:=#[.pointer (some ⟨Wg,0,none⟩)]) rfl (by rfl) rfl rfl (by simp only[List.map_toArray,List.map_cons,List.map_nil];rw[show ad.eval (.tmp 0)=slot ad 0 from rfl,w];rfl) fun A e1 e2 H=>?_
  replace w:=(e1 0).trans w
  replace k1:=(e1 1).trans k1
  replace ae:=(e1 2).trans ae
  replace al:=(e1 3).trans al
  replace ao:=(e1 4).trans ao
  replace ar:=(e1 5).trans ar
  replace a0:=(e1 6).trans a0
  replace a2:=(e1 7).trans a2
  replace G:sz A=20:=e2.trans G
  rw[hd] at H
  replace hd:=H
  clear e1 e2 H
  refine ai.nil d ?_;try simp only[go_sem]
  obtain ⟨d3,c4,rfl,a7,a8,a9⟩:=id o
  obtain ⟨d10,dp,rfl,ba,bb,bc⟩:=id q
  obtain ⟨d17,dq,rfl,bd,bj,bk⟩:=id r
  obtain ⟨d24,ds,rfl,bl,bm,bo⟩:=id s
  obtain ⟨d38,dt,rfl,br,bz,bS⟩:=id u
  obtain ⟨d45,du,rfl,b0,b1,I⟩:=id g
  repeat refine av (d _) ?_
  have l:=hJ ⟨.idle,.cnt,false,0⟩ rfl
  refine cK.of l ?_
  refine ES l mixed [0,1,2,3,5] [4,6] ⟨ro,[]⟩ (by simp only[*,go_sem,-h]) (by kernel_rfl) ?_
  have b5:=fM h;clear h;obtain ⟨ca,a3,h⟩:=b5
  simp only[*,go_sem,-h,-hJ,-d]
  refine uR l _ (Gi u0.book ⟨o,q,r,s⟩ z B u a3) fun v dv m cb j=>?_
  obtain ⟨dC,dE,dT,ea,rfl,k⟩:=j
  replace g:=g.mono m;clear I;obtain ⟨_,_,I⟩:=g.op
  obtain ⟨d63,eb,rfl,cd,cf,cl⟩:=id k.e
  obtain ⟨d68,ec,rfl,cu,cy,cS⟩:=id k.p
  obtain ⟨d73,ed,rfl,c0,da,db⟩:=id k.y
  obtain ⟨d78,eh,rfl,dd,df,dk⟩:=id k.t
  replace D:=m _ _ D
  replace E:=m _ _ E
  clear g0 R S T U V W X Y Z ab
  refine ⟨⟨m,fun a J=>by simp[keys] at J,trivial⟩,jT ?_⟩
  simp only[*,go_sem,-h,-hJ,-d]
  refine bg l _ (F6 ca (k.mono aR) C (g.mono aR) h) ?_
  refine ⟨⟨m,fun a J=>by simp[keys] at J,trivial⟩,?_⟩
  clear o q r s u g k a9 bc bk bo bS I cl cS db dk h a3 a7 ba bd bl br b0 cd cu c0 dd a8 bb bj bm bz b1 cf cy da df l cb
  have i0:(0:Int)<=(i:Int):=by omega
  have i1:(i:Int)<(n:Int):=by omega
  cases a4:bs i
  ·repeat refine av (d _) ?_
   refine cA (d _) (by simp only[*,go_sem]) ?_
   refine cC (d _) ?_
   exact ⟨(by simp only[*,go_sem]),.inl rfl,rfl,a4.symm,rfl⟩
  ·repeat refine av (d _) ?_
   refine cV (d _) (by simp only[*,go_sem]) ?_
   repeat refine av (d _) ?_
   refine cW d ?_
   refine ai.fV (d _) rfl (by rfl) rfl EH (by simp only[*,go_sem]) (JI aF x) fun v F' aK j=>?_
   obtain ⟨rfl,rfl,rfl⟩:=j
   refine ai.nil d ?_;try simp only[go_sem]
   repeat refine av (d _) ?_
   refine cW d ?_
   refine ai.bA (hJ _ rfl) 3 (n:=1) _ rfl rfl ?_;simp only[*,go_sem]
   refine Jy Jo zH Kz aF ⟨_,rfl,(by first|rfl|simp only[*,go_sem]),rfl,rfl⟩ (by rfl) (by simp only[*,go_sem]) (by simp only[*,go_sem]) ?_
   refine ai.nil d ?_;try simp only[go_sem]
   repeat refine av (d _) ?_
   refine cW d ?_
   refine ai.fV (d _) rfl (by rfl) rfl EI (by simp only[*,go_sem]) (JJ aF x) fun v F' aK j=>?_
   obtain ⟨rfl,rfl,rfl⟩:=j
   refine ai.nil d ?_
   exact (show yo _ _ _ _ .normal _ _ _ from ⟨(by simp only[*,go_sem]),.inr rfl,rfl,a4.symm,rfl⟩)
end
end Go.Proofs.YtpgcmoanfifglaaGreatDoor
end
section
namespace Go.Proofs.YtpgcmoanfifglaaGreatDoor
open Go Go.Sep Go.Proofs Go.Conc
open Go.ConcN (upd upd_same)
open Go.ConcM (muA msA muBlock)
open Go.ConcR (stA smA wgBlock)
set_option maxRecDepth 100000
set_option maxHeartbeats 4000000
attribute [local go_sem] Int.reduceBEq Int.reduceBNe muA msA stA smA
def KB (u0:cL)(a:Int)(c:List aU)(d:List Int):Option Bool:=ag (sj u0.book a d) fun b=>rX b c
def qB (f:List Int->Option Bool):List (List Int)->Option (List Bool)
 |[]=>some []
 |x::l=>ag (f x) fun b=>ag (qB f l) fun r=>some (b::r)
def yp (a:List Bool)(i23:Nat)(b:List Int)(st:List (List Int)):Option (Fl (List (List Int)) (List (List Int))):=
 ag (bp a (i23:Int)) fun c=>cond (c) (ag (c6 st ([b])) fun d=>some (.nx d)) (some (.nx st))
def tL (u0:cL)(b:Int)(a:List (List Int)):Option (List (List Int)):=
 cond (decide (a.length<1048576)) (ag (nM u0) fun c=>ag (qB (KB u0 b c) a) fun bl=>ag (bF (yp bl) 0 a ([]:List (List Int))) fun o=>aG o (fun d=>some d) (fun _ _=>none) (fun r=>some r)) none
theorem C7 {f:List Int->Option Bool}:∀{l:List (List Int)} {bl:List Bool},qB f l=some bl->bl.length=l.length/\∀(i:Nat) (a:List Int),l[i]?=some a->f a=some (bl[i]?.getD false)
 |[],bl,h=>by
  simp[qB] at h;subst h
  exact ⟨rfl,fun i a hi=>by simp at hi⟩
 |x::l,bl,h=>by
  unfold qB at h
  obtain ⟨b,hb,h⟩:=fM h
  obtain ⟨r,c,h⟩:=fM h
  have h:=Option.some.inj h
  subst h
  obtain ⟨e1,e2⟩:=C7 c
  refine ⟨by simp[e1],fun i a hi=>?_⟩
  cases i with
  |zero=>simp at hi;subst hi;simpa using hb
  |succ i=>simp at hi;simpa using e2 i a hi
def C8 (x:X)(d:Addr->Option Value)(b3 b4 e f:Nat)(b:Value)(m:Nat)(a:Act)(F:aa)(z:Z):Prop:=
 ∃(i:Nat) (c:Addr->Option Value),m=x.n - i/\i<=x.n/\F=⟨c,[]⟩/\Ext d c/\slot a 2=b/\slot a 3= .pointer (some ⟨b3,0,none⟩)/\slot a 4= .pointer (some ⟨b4,0,none⟩)/\slot a 6= .slice none 0 0/\slot a 7= .pointer (some ⟨e,0,none⟩)/\slot a 8= .pointer (some ⟨f,0,none⟩)/\slot a 9= .pointer (some ⟨x.Mu,0,none⟩)/\slot a 10= .pointer (some ⟨x.Wg,0,none⟩)/\slot a 21=b/\slot a 22= .int .i64 x.n/\slot a 23= .int .i64 i/\sz a=49/\a.defers=[]/\z= .co x i (.opn 0) 0
theorem KC (l:List Bool):(l.map fun b=>[Value.bool b]).flatten=l.map Value.bool:=by
 induction l with
 |nil=>rfl
 |cons b l ih=>simp only[List.map_cons,List.flatten_cons,ih];rfl
theorem KD:Tryz.prog.underlying 177=some (.slice 4):=by kernel_rfl
theorem KE:Tryz.prog.info? 4=some ((Tryz.prog.info? 4).getD default):=by kernel_rfl
theorem C9 {ro:Addr->Option Value}(u0:cL){s1:Value}(q:aB eW ro s1 u0.book.ay){bo:Value}(s:aB er ro bo u0.book.props){br:Value}(u:aB eN ro br u0.book.aE){bs:Value}(w:aB dc ro bs u0.book.told){bz:Value}(a4:aB gP ro bz u0.all)(ae:Int)(d:List (List Int)){bS:Value}(o:aB (rL rI) ro bS d){r:List (List Int)}(h:tL u0 ae d=some r):
  o7 Tryz.prog 99 #[.agg #[.int .i64 u0.book.bE,.int .i64 u0.book.bI,.int .i64 u0.book.aN.num,.int .i64 u0.book.aN.den,s1,bo,br,bs,bz],.int .i64 ae,bS] ro (fun v aM=>∃b0,v=b0/\aB (rL rI) aM b0 r):=by
 refine fG.Kf (T:=TT) fun Φ=>?_
 obtain ⟨d3,c4,rfl,fu,fv,fw⟩:=id q
 obtain ⟨d10,fx,rfl,gg,gl,R⟩:=id s
 obtain ⟨d17,I,rfl,gn,gp,gB⟩:=id u
 obtain ⟨d24,gC,rfl,gM,gT,gV⟩:=id w
 obtain ⟨d31,im,rfl,g0,g1,g2⟩:=id a4
 obtain ⟨d38,b1,rfl,iv,b2,C⟩:=id o
 unfold tL at h
 have hlen:d.length<1048576:=by
  rcases Nat.lt_or_ge d.length 1048576 with y|y
  ·exact y
  ·rw[show decide (d.length<1048576)=false by simp;omega] at h;cases h
 rw[show decide (d.length<1048576)=true by simp;omega] at h
 simp only[cond_true] at h
 obtain ⟨b5,ca,h⟩:=fM h
 obtain ⟨bl,cb,h⟩:=fM h
 obtain ⟨cd,cf⟩:=C7 cb
 have a:=ZJ.ej TT Φ
 have hJ:=fun (z:Z) (S:yl z=true)=>ZJ.Kp TT Φ z S
 refine cB.go (main:=true) a Tryz.func99 rfl Tryz.ntmps99 (by simp) fun A S hd hs=>?_
 have g3:=hs 0
 have k1:=hs 1
 have cl:=hs 2
 clear hs cb
 repeat refine av (a _) ?_
 refine aY a fun K c=>?_
 refine ai.bA (hJ _ rfl) 3 (n:=0) _ rfl rfl ?_;simp only[*,go_sem,-c,-a,-hJ]
 intro b3 f3;have r3:=eB f3;have n3:=fE f3
 try simp only[au] at n3
 intro b4 f4;have g4:=eB f4;have cu:=fE f4
 try simp only[au] at cu
 try simp only[*,go_sem,-c,-a,-hJ,-h]
 refine ai.nil a (c _ _ _ ?_);clear c K
 have p:=hJ .free rfl
 repeat refine av (a _) ?_
 refine aY a fun K c=>?_
 refine ai.bA (hJ _ rfl) 4 (n:=0) _ rfl rfl ?_;simp only[*,go_sem,-c,-a,-hJ]
 refine uR p _ (AM u0 ⟨q,s,u,w⟩ a4 ca) fun v ix J ha U=>?_
 obtain ⟨jC,rfl,L⟩:=U
 replace q:=q.mono J
 replace s:=s.mono J
 replace u:=u.mono J
 replace w:=w.mono J
 replace o:=o.mono J
 obtain ⟨d45,hc,rfl,hf,hg,hh⟩:=id L
 clear fw R gB gV g2 C hh r3 g4
 refine aJ ?_
 try simp only[*,go_sem,-c,-a,-hJ,-h,-p]
 intro a5 f7;have hj:=eB f7;have cS:=fE f7
 try simp only[au] at cS
 try simp only[*,go_sem,-c,-a,-hJ,-h,-p]
 refine ai.nil a (c _ _ _ ?_);clear c K
 repeat refine av (a _) ?_
 refine aY a fun K c=>?_
 refine ai.bA (hJ _ rfl) 5 (n:=0) _ rfl rfl ?_;simp only[*,go_sem,-c,-a,-hJ]
 refine Ko KD KE rfl zH Es hlen fun k a6=>?_
 have rI:=eB a6;have nI:=fE a6
 try simp only[au] at nI
 refine aJ ?_
 try simp only[*,go_sem,-c,-a,-hJ,-h,-p]
 intro V f8;have hk:=eB f8;have c0:=fE f8
 try simp only[au] at c0
 try simp only[*,go_sem,-c,-a,-hJ,-h,-p]
 refine ai.nil a (c _ _ _ ?_);clear c K
 repeat refine av (a _) ?_
 refine aY a fun K c=>?_
 refine ai.bA (hJ _ rfl) 1 (n:=0) _ rfl rfl ?_;simp only[*,go_sem,-c,-a,-hJ]
 intro M f9;have hl:=eB f9;have da:=fE f9
 try simp only[au] at da
 try simp only[*,go_sem,-c,-a,-hJ,-h,-p]
 refine ai.nil a (c _ _ _ ?_);clear c K
 repeat refine av (a _) ?_
 refine aY a fun K c=>?_
 refine ai.bA (hJ _ rfl) 1 (n:=0) _ rfl rfl ?_;simp only[*,go_sem,-c,-a,-hJ]
 intro N f10;have hn:=eB f10;have db:=fE f10
 try simp only[au] at db
 try simp only[*,go_sem,-c,-a,-hJ,-h,-p]
 refine ai.nil a (c _ _ _ ?_);clear c K
 repeat refine av (a _) ?_
 refine aY a fun K c=>?_
 refine ai.bA (hJ _ rfl) 3 (n:=0) _ rfl rfl ?_;simp only[*,go_sem,-c,-a,-hJ]
 refine ai.nil a (c _ _ _ ?_);clear c K
 refine ym p fun nd no=>?_
 obtain ⟨al,D,hle,B,dd,df,dk⟩:=Kq nd no
 clear nd no
 refine Kb (T:=TT) (Φ:=Φ) ⟨al,[]⟩ M N k d.length (fun i=>bl[i]?.getD false) hle ?_
 intro base B0 T0 ho aF
 clear hle
 have ao:d.length<67108864:=by omega
 replace q:=q.mono D
 replace s:=s.mono D
 replace u:=u.mono D
 replace w:=w.mono D
 replace o:=o.mono D
 replace L:=L.mono D
 have dp:=B 0 (.int .i64 u0.book.bE) rfl
 have dq:=B 1 (.int .i64 u0.book.bI) rfl
 have ds:=B 2 (.int .i64 u0.book.aN.num) rfl
 have dt:=B 3 (.int .i64 u0.book.aN.den) rfl
 have du:=B 4 (.slice d3 u0.book.ay.length c4) rfl
 have dv:=B 5 (.slice d10 u0.book.props.length fx) rfl
 have dC:=B 6 (.slice d17 u0.book.aE.length I) rfl
 have dE:=B 7 (.slice d24 u0.book.told.length gC) rfl
 have dT:=dd 0 (.int .i64 ae) rfl
 have ea:=df 0 (.slice d45 b5.length hc) rfl
 have a7:=dk 0 (.slice (some ⟨k,0,none⟩) d.length d.length) rfl
 clear B dd df dk f3 f4 f7 f8 f9 f10 a6 n3 cu cS c0 da db nI hj hk hl hn rI ha
 repeat refine av (a _) ?_
 refine jL a ?_
 refine qw a (C8 (⟨M,N,k,d.length,(fun i=>bl[i]?.getD false),base,T0,B0⟩:X) al b3 b4 a5 V (.slice d38 d.length b1)) d.length ?_ ?_
 ·exact ⟨0,al,rfl,Nat.zero_le _,rfl,Ext.refl _,(by simp only[*,go_sem,-a,-hJ]),(by simp only[*,go_sem,-a,-hJ]),(by simp only[*,go_sem,-a,-hJ]),(by simp only[*,go_sem,-a,-hJ]),(by simp only[*,go_sem,-a,-hJ]),(by simp only[*,go_sem,-a,-hJ]),(by simp only[*,go_sem,-a,-hJ]),(by simp only[*,go_sem,-a,-hJ]),(by simp only[*,go_sem,-a,-hJ]),(by simp only[*,go_sem,-a,-hJ]),(by simp only[*,go_sem,-a,-hJ]),(by simp only[*,go_sem,-a,-hJ]),(by simp only[*,go_sem,-a,-hJ]),rfl⟩
 clear g3 k1 cl S hd
 rintro m A F' eb ⟨i,P,rfl,hi,rfl,e,cl,hp,hq,j1,hr,j2,ht,hv,hx,hy,hz,S,hd,rfl⟩
 have hi:i<=d.length:=hi
 replace q:=q.mono e
 replace s:=s.mono e
 replace u:=u.mono e
 replace w:=w.mono e
 replace o:=o.mono e
 replace L:=L.mono e
 rcases Nat.lt_or_ge i d.length with ar|hA
 ·have c1:decide ((i:Int)<(d.length:Int))=true:=by simp;omega
  have i0:(0:Int)<=(i:Int):=by omega
  have i1:(i:Int)<(d.length:Int):=by omega
  obtain ⟨a8,ec⟩:∃x,d[i]?=some x:=⟨_,List.getElem?_eq_getElem ar⟩
  obtain ⟨_,_,C⟩:=o.op
  obtain ⟨hB,ed,a9,ba,W⟩:=C _ _ ec
  obtain ⟨hD,rfl,Y⟩:=ba
  obtain ⟨d32,ab,rfl,hE,hF,-⟩:=id Y
  cases a9
  have hG:=W 0 _ rfl
  simp only[go_sem] at hG
  clear W C
  have eh:=cn (n:=i) (by omega)
  repeat refine av (a _) ?_
  refine aY a fun K c=>?_
  refine ai.bA (hJ _ rfl) 1 (n:=0) _ rfl rfl ?_;simp only[*,go_sem,-c,-a,-hJ]
  refine ai.nil a (c _ _ _ ?_);clear c K
  repeat refine av (a _) ?_
  refine cV (a _) (by simp only[*,go_sem,-a,-hJ]) ?_
  refine cC (a _) ?_
  repeat refine av (a _) ?_
  refine jL a ?_
  repeat refine av (a _) ?_
  refine aY a fun K c=>?_
  refine ai.bA (hJ _ rfl) 7 (n:=0) _ rfl rfl ?_;simp only[*,go_sem,-c,-a,-hJ]
  intro hI f11;have hK:=eB f11;have et:=fE f11
  try simp only[au] at et
  try simp only[*,go_sem,-c,-a,-hJ,-h,-p]
  intro hL f12;have hM:=eB f12;have eu:=fE f12
  try simp only[au] at eu
  try simp only[*,go_sem,-c,-a,-hJ,-h,-p]
  refine ai.nil a (c _ _ _ ?_);clear c K
  refine ym (hJ _ rfl) fun nd no=>?_
  obtain ⟨hN,f,hle,ev,eQ⟩:=Kr nd no
  clear nd no f11 f12 hK hM et eu
  refine C6 (hJ _ rfl) hle ?_
  clear hle
  have hP:=ev 0 (.int .i64 i) rfl
  have hQ:=eQ 0 (.slice d32 a8.length ab) rfl
  clear ev eQ
  repeat refine av (a _) ?_
  refine aY a fun K c=>?_
  refine ai.fV (a _) rfl (by first|(simp only[*,go_sem,-c,-a,-hJ];done)|rfl) rfl zP (by simp only[*,go_sem,-c,-a,-hJ]) (Km aF ao) fun v F' eb U=>?_
  obtain ⟨rfl,rfl,rfl⟩:=U
  refine ai.nil a (c _ _ _ ?_);clear c K
  repeat refine av (a _) ?_
  refine aY a fun K c=>?_
  refine ai.bA (hJ _ rfl) 1 (n:=1) _ rfl rfl ?_;simp only[*,go_sem,-c,-a,-hJ]
  refine Ks (caps:=#[.pointer (some ⟨N,0,none⟩),.pointer (some ⟨b3,0,none⟩),.pointer (some ⟨b4,0,none⟩),.pointer (some ⟨hL,0,none⟩),.pointer (some ⟨a5,0,none⟩),.pointer (some ⟨M,0,none⟩),.pointer (some ⟨V,0,none⟩),.pointer (some ⟨hI,0,none⟩)]) (f0:=133) ar ⟨_,rfl,(by first|(simp only[*,go_sem,-c,-a,-hJ];done)|rfl),rfl,rfl⟩ (by simp only[*,go_sem,-c,-a,-hJ]) ?_ ?_
  ·exact KA aF ao ar u0 (q.mono f) (s.mono f) (u.mono f) (w.mono f) ae a8 (Y.mono f) b5 (L.mono f) (f _ _ (e _ _ dp)) (f _ _ (e _ _ dq)) (f _ _ (e _ _ ds)) (f _ _ (e _ _ dt)) (f _ _ (e _ _ du)) (f _ _ (e _ _ dv)) (f _ _ (e _ _ dC)) (f _ _ (e _ _ dE)) (f _ _ (e _ _ dT)) hQ (f _ _ (e _ _ ea)) (f _ _ (e _ _ a7)) hP (cf i a8 ec)
  refine ai.nil a (c _ _ _ ?_);clear c K
  repeat refine av (a _) ?_
  refine aY a fun K c=>?_
  refine ai.bA (hJ _ rfl) 2 (n:=0) _ rfl rfl ?_;simp only[*,go_sem,-c,-a,-hJ]
  refine ai.nil a (c _ _ _ ?_);clear c K
  change ∃eS,eS<d.length - i/\C8 _ al b3 b4 a5 V _ eS _ _ _
  exact ⟨d.length - (i+1),by omega,i+1,hN,rfl,ar,rfl,e.trans f,(by simp only[*,go_sem,-a,-hJ]),(by simp only[*,go_sem,-a,-hJ]),(by simp only[*,go_sem,-a,-hJ]),(by simp only[*,go_sem,-a,-hJ]),(by simp only[*,go_sem,-a,-hJ]),(by simp only[*,go_sem,-a,-hJ]),(by simp only[*,go_sem,-a,-hJ]),(by simp only[*,go_sem,-a,-hJ]),(by simp only[*,go_sem,-a,-hJ]),(by simp only[*,go_sem,-a,-hJ]),(by simp only[*,go_sem,-a,-hJ]),(by simp only[*,go_sem,-a,-hJ]),(by simp only[*,go_sem,-a,-hJ]),rfl⟩
 ·have c1:decide ((i:Int)<(d.length:Int))=false:=by simp;omega
  obtain rfl:i=d.length:=by omega
  repeat refine av (a _) ?_
  refine aY a fun K c=>?_
  refine ai.bA (hJ _ rfl) 1 (n:=0) _ rfl rfl ?_;simp only[*,go_sem,-c,-a,-hJ]
  refine ai.nil a (c _ _ _ ?_);clear c K
  repeat refine av (a _) ?_
  refine cA (a _) (by simp only[*,go_sem,-a,-hJ]) ?_
  refine ot ?_
  simp only[go_sem]
  repeat refine av (a _) ?_
  refine aY a fun K c=>?_
  refine ai.fV (a _) rfl (by first|(simp only[*,go_sem,-c,-a,-hJ];done)|rfl) rfl EJ (by simp only[*,go_sem,-c,-a,-hJ]) (Kn aF ao) fun v F' eb U=>?_
  obtain ⟨rfl,rfl,rfl⟩:=U
  refine ai.nil a (c _ _ _ ?_);clear c K
  refine ym p fun nd no=>?_
  have rI:∀off sp,P ⟨k,off,sp⟩=none:=fun off sp=>no k (by simp[keys]) off sp
  have hle:Le ⟨bR P k (X.cy (⟨M,N,k,d.length,(fun i=>bl[i]?.getD false),base,T0,B0⟩:X) TT).fin,[]⟩ ⟨P,[(k,(X.cy (⟨M,N,k,d.length,(fun i=>bl[i]?.getD false),base,T0,B0⟩:X) TT).fin)]⟩:=jV (by simp[lk]) (by simp) trivial
  have ad:aB rB (bR P k (X.cy (⟨M,N,k,d.length,(fun i=>bl[i]?.getD false),base,T0,B0⟩:X) TT).fin) (.slice (some ⟨k,0,none⟩) bl.length bl.length) bl:=aB.flat (fun b=>[.bool b]) bl (fun _=>rfl) rI (by
   show (((List.range d.length).map fun i=>Value.bool (bl[i]?.getD false)).toArray).toList=_
   rw[<-cd]
   apply List.ext_getElem?
   intro j
   rw[KC bl]
   simp only[List.getElem?_map]
   rcases Nat.lt_or_ge j bl.length with y|y
   ·simp[y]
   ·simp[y]) (by omega)
  obtain ⟨E,bb⟩:∃E,E=bR P k (X.cy (⟨M,N,k,d.length,(fun i=>bl[i]?.getD false),base,T0,B0⟩:X) TT).fin:=⟨_,rfl⟩
  have a0:Ext P E:=by rw[bb];exact fY _ _ _
  have hR:Ext ro E:=J.trans (D.trans (e.trans a0))
  rw[<-bb] at hle ad
  refine C6 p hle ?_
  replace o:=o.mono a0
  have a7:E ⟨V,0,none⟩=some (.slice (some ⟨k,0,none⟩) bl.length bl.length):=by rw[cd];exact a0 _ _ (e _ _ a7)
  clear hle nd no bb rI dp dq ds dt du dv dC dE dT ea a hJ aF ao ho q s u w L ca cf c1 hlen hA hi a0 J D e hp hq hr ht hv hx hy hz fu fv gg gl gn gp gM gT a4 g0 g1 hf hg
  obtain ⟨_,_,C⟩:=o.op
  obtain ⟨_,_,R⟩:=ad.op
  have hJ:=p
  clear p
  refine cK.of hJ ?_
  repeat refine af hJ ?_
  refine aj hJ ?_
  simp only[*,go_sem,-h]
  repeat refine af hJ ?_
  refine aj hJ ?_
  simp only[*,go_sem,-h]
  repeat refine af hJ ?_
  refine aQ hJ ?_
  have g:=fM h;clear h;obtain ⟨hS,G,hT⟩:=g;have h:=True.intro
  refine bU hJ [13,14,15,34,35,36,37,38,39,40,41,42,43,44,45,46,47] (fun m e0 F'=>∃(i23:Nat) (d17:Option Addr) (I:Nat) (a2:List (Nat×Obj)) (H:(List (List Int))),m=d.length - i23/\i23<=d.length/\bF (yp bl) i23 (d.drop i23) H=some hS/\F'=⟨E,a2⟩/\aO (rL rI) E 35 (.slice d17 H.length I) H a2/\H.length<=I/\slot e0 34= .int .i64 (i23:Int)/\slot e0 13= .slice d17 H.length I) d.length ?_ ?_
  ·refine ⟨0,none,0,[],([]:List (List Int)),(Nat.sub_zero _).symm,Nat.zero_le _,G,rfl,aO.nil _ _ _,Nat.le_refl _,?_⟩
   simp only[*,go_sem,-h]
  ·rintro kh Q F' O ⟨i23,d17,I,a2,H,rfl,kj,G,rfl,bc,hV,kk,kl⟩
   have h:=True.intro
   have km:sz Q=49:=by rw[O.size];simp only[*,go_sem,-h]
   have kn:Q.defers=[]:=by rw[O.defers];simp only[*,go_sem,-h]
   have kp:slot Q 6= .slice none 0 0:=by rw[O.fc 6 (by decide)];simp only[*,go_sem,-h]
   have ks:slot Q 8= .pointer (some ⟨V,0,none⟩):=by rw[O.fc 8 (by decide)];simp only[*,go_sem,-h]
   have kt:slot Q 32= .slice d38 d.length b1:=by rw[O.fc 32 (by decide)];simp only[*,go_sem,-h]
   have kv:slot Q 33= .int .i64 (d.length:Int):=by rw[O.fc 33 (by decide)];simp only[*,go_sem,-h]
   clear O S hd
   repeat refine af hJ ?_
   refine aj hJ ?_
   simp only[*,go_sem,-h]
   repeat refine af hJ ?_
   rcases Nat.lt_or_ge i23 d.length with hX|e1
   ·refine bP hJ (by simp only[*,go_sem,-h]) ?_
    refine aI hJ ?_
    obtain ⟨a3,bd⟩:∃x,d[i23]?=some x:=⟨_,List.getElem?_eq_getElem hX⟩
    rw[c8 bd] at G
    have g:=fM G;clear G h;obtain ⟨kx,h,e3⟩:=g
    unfold yp at h
    try dsimp only at h
    obtain ⟨ky,k0,hY,hZ,fa⟩:=C _ _ bd
    obtain ⟨hD,rfl,Y⟩:=hZ;obtain ⟨d32,ab,rfl,hE,hF,k2⟩:=id Y
    cases hY
    have h0:=fa 0 _ rfl;simp only[go_sem] at h0
    clear fa bd
    repeat refine af hJ ?_
    refine aQ hJ ?_
    repeat refine af hJ ?_
    refine aA hJ fun lb=>?_
    refine aj hJ ?_
    simp only[*,go_sem,-h]
    repeat refine af hJ ?_
    refine aA hJ fun lh=>?_
    refine aj hJ ?_
    have g:=fM h;clear h;obtain ⟨h1,h2,h⟩:=g
    obtain ⟨lj,ll,fb⟩:=c5 h2
    obtain ⟨hB,ed,a9,ba,W⟩:=R _ _ fb
    obtain rfl:ed=[.bool h1]:=ba
    cases a9
    have h3:=W 0 _ rfl;simp only[go_sem] at h3
    clear W fb
    try simp only[*,go_sem,-h]
    have g:=iR h;clear h;rcases g with ⟨bj,h⟩|⟨bj,h⟩
    ·try simp only[Int.ofNat_lt] at bj
     refine bP hJ (by simp only[*,go_sem,-h]) ?_
     refine aA hJ fun h4=>?_
     refine aj hJ ?_
     have g:=fM h;clear h;obtain ⟨h5,h6,h⟩:=g
     obtain ⟨h7,fg⟩:=dr h6
     simp only[*,go_sem,-h]
     intro fi f45;have h8:=eB f45;have fo:=fE f45
     have h9:=aP.cons fo h4
     try simp only[au] at fo
     try simp only[*,go_sem,-h]
     refine z6 (r:=(rL rI)) (l:=H) (x:=a3) (cs:=#[.slice d32 a3.length ab]) (e2:=35) [(fi,.cells #[.slice d32 a3.length ab] 35)] [] (by first|rfl|simp only[aV]|(simp only[aV];rfl)) bc h9 h7 ⟨_,rfl,Y⟩ (by simp only[*,go_sem,-h]) h8 rfl rfl kY kY q5 q7 rfl q6 (by decide) (by decide) (fun ln fp bk ib ic lo=>?_)
     simp only[aV] at ic
     subst ib
     rw[<-fg] at bk;clear fg
     obtain ⟨d53,ih,rfl,ik⟩:=bk.len
     refine ⟨⟨E,(fi,.cells #[.slice d32 a3.length ab] 35)::fp⟩,Le.refl _,?_⟩
     refine aJ ?_
     try simp only[*,go_sem,-h]
     have g:=Option.some.inj h;clear h;subst g
     have h:=True.intro
     have eh:=cn (n:=i23) (by have:=b2;omega)
     refine aj hJ ?_
     simp only[*,go_sem,-h]
     refine ⟨d.length - (i23+1),by omega,_,Le.sub (List.Sublist.cons _ (List.Sublist.refl _)),i23+1,d53,ih,fp,h5,rfl,by omega,e3,rfl,bk,ik,?_⟩
     simp only[*,go_sem,-h]
    ·try simp only[Int.ofNat_lt] at bj
     refine bL hJ (by simp only[*,go_sem,-h]) ?_
     refine aI hJ ?_
     have g:=Option.some.inj h;clear h;subst g
     have h:=True.intro
     have eh:=cn (n:=i23) (by have:=b2;omega)
     refine aj hJ ?_
     simp only[*,go_sem,-h]
     refine ⟨d.length - (i23+1),by omega,_,Le.sub (List.Sublist.refl _),i23+1,d17,I,a2,H,rfl,by omega,e3,rfl,bc,hV,?_⟩
     simp only[*,go_sem,-h]
   ·have lr:=Nat.not_lt.2 e1
    refine bL hJ (by simp only[*,go_sem,-h]) ?_
    rw[List.drop_eq_nil_of_le e1] at G
    have g:=Option.some.inj G;clear G h;subst g
    have h:=hT
    dsimp only[aG] at h
    refine bN ?_
    simp only[go_sem]
    repeat refine af hJ ?_
    refine aA hJ fun lv=>?_
    refine aj hJ ?_
    simp only[*,go_sem,-h]
    have g:=Option.some.inj h;clear h;subst g
    refine aA hJ fun fr=>?_
    obtain ⟨fs,bm,lx,ft,il⟩:=bc.k3 (([]:List (Nat×Obj))) [] [] (by first|rfl|simp only[aV]|(simp only[aV];rfl)) (by first|rfl|simp only[aV]|(simp only[aV];rfl)) fr (aD.nil _)
    clear fr
    refine cF (F:=⟨fs,([]:List (Nat×Obj))⟩) hJ il ?_
    obtain ⟨ly,lL,l1⟩:=ft.op
    replace o:=o.mono bm;clear C;obtain ⟨_,_,C⟩:=o.op
    replace ad:=ad.mono bm;clear R;obtain ⟨_,_,R⟩:=ad.op
    refine az ?_
    exact (lI (t:=6) rfl (by simp only[*,go_sem]) (by simp only[*,go_sem]) ⟨rfl,fs,hR.trans bm,Le.refl _,_,rfl,ft⟩).2
end Go.Proofs.YtpgcmoanfifglaaGreatDoor
end
section
namespace Go.Proofs.YtpgcmoanfifglaaGreatDoor
open Go Go.Sep Go.Proofs
set_option maxRecDepth 100000
set_option maxHeartbeats 4000000
def yq (u0:ak)(b:Int):Option ((List Int)×Int):=
 ag (gz u0 ([(gR b),nJ])) fun a=>cond ((a.2 != 0)) (some (([]:(List Int)),a.2)) (ag (sk a.1.book ([([]:(List Int))])) fun c=>ag (tL a.1 b c) fun d=>ag (wI d) fun e=>some (e,0))
theorem KF {ro:Addr->Option Value}(L:de ro)(u0:ak){s1 g i j:Value}(D:bJ ro u0 s1 g i j)(a:Int){r:((List Int)×Int)}(h:yq u0 a=some r):o7 Tryz.prog 43 #[bv u0 s1 g i j,.int .i64 a] ro (fun v aM=>∃W,v= .tuple #[W,.int .i64 r.2]/\aB rI aM W r.1):=by
 unfold yq at h;have ba:=D.oc;simp only[bH] at ba;refine fG.go Tryz.func43 rfl Tryz.ntmps43 Tryz.results43 (by simp) fun Φ hJ A b5 hd hs=>?_;have ca:=hs 0;have k1:=hs 1;clear hs;refine ah hJ ?_;simp only[*,go_sem];refine ax fun w c bb=>?_;try simp only[au] at bb
 try simp only[*,go_sem]
 refine af hJ ?_;refine aA hJ fun bc=>?_;refine aj hJ ?_;revert h;refine bS fun n bd h=>?_;simp only[*,go_sem];refine ax fun z X Y=>?_;have Z:=aP.cons Y bc;try simp only[au] at Y
 try simp only[*,go_sem]
 obtain ⟨B,M,ab⟩:=fP (b:=z) (o:=(.cells #[.func (.func 96) #[.int .i64 a] #[],.func (.func 97) #[] #[]] 127)) [] ((w,bk u0 s1 g i j)::[]) Z X (aD.cons c (aD.nil _));have ad:aB (cY) (bR ro z (.cells #[.func (.func 96) #[.int .i64 a] #[],.func (.func 97) #[] #[]] 127)) (.slice (some ⟨z,0,none⟩) 2 2) [(gR a),nJ]:=(aB.two (r:=(cY)) (e:=127) (v:=.func (.func 96) #[.int .i64 a] #[]) (u:=.func (.func 97) #[] #[]) (x:=(gR a)) (y:=nJ) (own:=[(z,.cells #[.func (.func 96) #[.int .i64 a] #[],.func (.func 97) #[] #[]] 127)]) X (by simp[lk]) rfl ⟨96,#[.int .i64 a],#[],rfl,⟨by simp only[go_sem],fun bj bl N _ _ _ _ _ O P Q R h=>by simp only[go_sem];exact vp a N ⟨O,P,Q,R⟩ h⟩⟩ ⟨97,#[],#[],rfl,⟨by simp only[go_sem],fun bj bl N _ _ _ _ _ O P Q R h=>by simp only[go_sem];exact GM N ⟨O,P,Q,R⟩ h⟩⟩)
 generalize bR ro z (.cells #[.func (.func 96) #[.int .i64 a] #[],.func (.func 97) #[] #[]] 127)=cb at ad M B ab;refine gO hJ ab ?_;replace D:=D.mono B;replace c:=M.hd;replace L:=L.mono B;simp only[bu] at M;have bm:=aP.tl Z;refine b8 hJ _ (jD L u0 D ([(gR a),nJ]) ad bd) fun v ae al ao k=>?_;obtain ⟨E,F,G,H,I,rfl,d,q⟩:=k;have bo:=d.oc;simp only[bH] at bo;have br:=q.oc;simp only[bH] at br;replace c:=ao.hd;simp only[bu] at ao;refine aJ ?_;try simp only[*,go_sem]
 refine ax fun J f ar=>?_;have cd:=aP.cons ar bm;try simp only[au] at ar
 try simp only[*,go_sem]
 refine af hJ (ah hJ ?_);simp only[*,go_sem];revert h;refine jC hJ (by simp only[*,go_sem]) (fun bs h=>?_) fun bs h=>?_
 ·obtain rfl:=sI h;refine ah hJ ?_;simp only[*,go_sem];refine az ?_;simp only[*,go_sem];exact ⟨_,(B).trans al,Le.sub (List.nil_sublist _),_,rfl,aB.nil _ _⟩
 refine aI hJ (af hJ ?_);refine aA hJ fun bz=>?_;refine cR hJ mixed 4 2 (by simp only[*,go_sem]) (by kernel_rfl) ?_;revert h;refine bS fun b0 b1 h=>?_;simp only[*,go_sem];refine ax fun C a0 a2=>?_;have a3:=aP.cons a2 bz;try simp only[au] at a2
 try simp only[*,go_sem]
 obtain ⟨m,K,a4⟩:=fP (b:=C) (o:=(.cells #[.slice none 0 0] 35)) [] ((J,kn n.1 E F G H I)::(w,bk u0 s1 g i j)::[]) a3 a0 (aD.cons f (aD.cons c (aD.nil _)));have a5:aB (rL rI) (bR ae C (.cells #[.slice none 0 0] 35)) (.slice (some ⟨C,0,none⟩) 1 1) [([]:(List Int))]:=(aB.one (r:=(rL rI)) (e:=35) (cs:=#[.slice none 0 0]) (x:=([]:(List Int))) (own:=[(C,.cells #[.slice none 0 0] 35)]) a0 (by simp[lk]) ⟨_,rfl,aB.nil _ _⟩)
 generalize bR ae C (.cells #[.slice none 0 0] 35)=cf at a5 K m a4;refine gO hJ a4 ?_;replace d:=d.mono m;replace q:=q.mono m;replace f:=K.hd;replace c:=K.tl.hd;simp only[bu] at K;have cl:=aP.tl a3;refine b8 hJ _ (AE n.1.book d ([([]:(List Int))]) a5 b1) fun v cu s S k=>?_;obtain ⟨cy,rfl,a6⟩:=k;replace d:=d.mono s;replace q:=q.mono s;replace f:=S.hd;replace c:=S.tl.hd;simp only[bu] at S;obtain ⟨d92,cS,rfl,c0,da,-⟩:=id a6;have db:=eM (l:=[(J,kn n.1 E F G H I),(w,bk u0 s1 g i j)]) (m.trans s) (aD.cons f (aD.cons c (aD.nil _)));refine ⟨by simp only[*,go_sem],?_⟩;refine jT ?_;revert h;refine bS fun b2 b3 h=>?_;try simp only[*,go_sem]
 refine rA _ (C9 n.1 d.e d.p d.y d.t q a b0 a6 b3) fun v dd T U k=>?_;obtain ⟨df,rfl,a7⟩:=k;replace f:=U.hd;replace c:=U.tl.hd;simp only[bu] at U;obtain ⟨d111,dk,rfl,dp,dq,-⟩:=id a7;have ds:=eM (l:=[(J,kn n.1 E F G H I),(w,bk u0 s1 g i j)]) ((m.trans s).trans T) (aD.cons f (aD.cons c (aD.nil _)));refine ⟨by simp only[*,go_sem],?_⟩;refine jT ?_;revert h;refine bS fun dt b4 h=>?_;obtain rfl:=sI h;try simp only[*,go_sem]
 refine b8 hJ _ (GO b2 a7 b4) fun v du a8 V k=>?_;obtain ⟨dv,rfl,a9⟩:=k;replace f:=V.hd;replace c:=V.tl.hd;simp only[bu] at V;obtain ⟨d124,dC,rfl,dE,dT,-⟩:=id a9;have ea:=eM (l:=[(J,kn n.1 E F G H I),(w,bk u0 s1 g i j)]) (((m.trans s).trans T).trans a8) (aD.cons f (aD.cons c (aD.nil _)));refine ⟨by simp only[*,go_sem],?_⟩;refine jT ?_;try simp only[*,go_sem]
 refine az ?_;simp only[*,go_sem];exact ⟨_,(((((B).trans al).trans m).trans s).trans T).trans a8,Le.sub (List.nil_sublist _),_,rfl,a9⟩
def yt (u0:ak)(c:Int)(a:(cL×Int))(st:(Bool×Int×(List (List Int))×Int)):Option (Fl (Bool×Int×(List (List Int))×Int) ((List Int)×Bool×Int)):=
 cond (decide (st.2.2.2<(IntKind.i64.wrap ((IntKind.i64.wrap (3 - (u0.props.length:Int)))+1)))) (ag (tL a.1 c st.2.2.1) fun b=>cond (decide (0<(b.length:Int))) (ag (bp b 0) fun d=>some (.rt (d,true,0))) (ag (sk a.1.book st.2.2.1) fun e=>some (.nx (st.1,st.2.1,e,(IntKind.i64.wrap (st.2.2.2+1)))))) (some (.bk (st.1,st.2.1,st.2.2.1,st.2.2.2)))
def yu (u0:ak)(b:Int):Option ((List Int)×Bool×Int):=
 ag (gz u0 ([(gR b)])) fun a=>cond ((a.2 != 0)) (some (([]:(List Int)),false,a.2)) (ag (bn (yt u0 b a) fu (false,a.2,([([]:(List Int))]),0)) fun o=>aG o (fun c=>some (([]:(List Int)),false,0)) (fun _ _=>none) (fun r=>some r))
theorem KG {ro:Addr->Option Value}(K:de ro)(u0:ak){s1 S k l:Value}(n:bJ ro u0 s1 S k l)(a:Int){r:((List Int)×Bool×Int)}(h:yu u0 a=some r):o7 Tryz.prog 47 #[bv u0 s1 S k l,.int .i64 a] ro (fun v aM=>∃T,v= .tuple #[T,.bool r.2.1,.int .i64 r.2.2]/\aB rI aM T r.1):=by
 obtain ⟨d10,L,rfl,ec,ed,-⟩:=id n.p;unfold yu at h;have bm:=n.oc;simp only[bH] at bm;refine fG.go Tryz.func47 rfl Tryz.ntmps47 Tryz.results47 (by simp) fun Φ hJ A bo hd hs=>?_;have br:=hs 0;have k1:=hs 1;clear hs;refine ah hJ ?_;simp only[*,go_sem];refine ax fun M C bs=>?_;try simp only[au] at bs
 try simp only[*,go_sem]
 refine af hJ ?_;refine aA hJ fun bz=>?_;refine aj hJ ?_;revert h;refine bS fun f b0 h=>?_;simp only[*,go_sem];refine ax fun q U V=>?_;have W:=aP.cons V bz;try simp only[au] at V
 try simp only[*,go_sem]
 obtain ⟨g,N,X⟩:=fP (b:=q) (o:=(.cells #[.func (.func 96) #[.int .i64 a] #[]] 127)) [] ((M,bk u0 s1 (sl d10 u0.props L) k l)::[]) W U (aD.cons C (aD.nil _));have Y:aB (cY) (bR ro q (.cells #[.func (.func 96) #[.int .i64 a] #[]] 127)) (.slice (some ⟨q,0,none⟩) 1 1) [(gR a)]:=(aB.one (r:=(cY)) (e:=127) (cs:=#[.func (.func 96) #[.int .i64 a] #[]]) (x:=(gR a)) (own:=[(q,.cells #[.func (.func 96) #[.int .i64 a] #[]] 127)]) U (by simp[lk]) ⟨96,#[.int .i64 a],#[],rfl,⟨by simp only[go_sem],fun eh et b1 _ _ _ _ _ b2 b3 b4 b5 h=>by simp only[go_sem];exact vp a b1 ⟨b2,b3,b4,b5⟩ h⟩⟩)
 generalize bR ro q (.cells #[.func (.func 96) #[.int .i64 a] #[]] 127)=eu at Y N g X;refine gO hJ X ?_;replace n:=n.mono g;replace C:=N.hd;replace K:=K.mono g;simp only[bu] at N;have ca:=aP.tl W;refine b8 hJ _ (jD K u0 n ([(gR a)]) Y b0) fun v Z O ab s=>?_;obtain ⟨ad,ae,al,ao,ar,rfl,c,i⟩:=s;have cb:=c.oc;simp only[bH] at cb;have cd:=i.oc;simp only[bH] at cd;replace C:=ab.hd;simp only[bu] at ab;refine aJ ?_;try simp only[*,go_sem]
 refine ax fun a0 cf a2=>?_;have ev:=aP.cons a2 ca;try simp only[au] at a2
 try simp only[*,go_sem]
 refine af hJ (ah hJ ?_);simp only[*,go_sem];revert h;refine jC hJ (by simp only[*,go_sem]) (fun cl h=>?_) fun cl h=>?_
 ·obtain rfl:=sI h;refine ah hJ ?_;simp only[*,go_sem];refine az ?_;simp only[*,go_sem];exact ⟨_,(g).trans O,Le.sub (List.nil_sublist _),_,rfl,aB.nil _ _⟩
 refine aI hJ (af hJ ?_);refine aA hJ fun cu=>?_;refine aj hJ ?_;simp only[*,go_sem];refine ax fun j a3 a4=>?_;have eQ:=aP.cons a4 cu;try simp only[au] at a4
 try simp only[*,go_sem]
 refine af hJ (ah hJ ?_);simp only[*,go_sem];refine aA hJ fun a5=>?_;obtain ⟨u,a6,a7⟩:=fP (b:=j) (o:=(.cells #[.slice none 0 0] 35)) [] ((a0,kn f.1 ad ae al ao ar)::(M,bk u0 s1 (sl d10 u0.props L) k l)::[]) a5 a3 (aD.cons cf (aD.cons C (aD.nil _)));clear a5;have P:aB (rL rI) (bR Z j (.cells #[.slice none 0 0] 35)) (.slice (some ⟨j,0,none⟩) 1 1) [([]:(List Int))]:=(aB.one (r:=(rL rI)) (e:=35) (cs:=#[.slice none 0 0]) (x:=([]:(List Int))) (own:=[(j,.cells #[.slice none 0 0] 35)]) a3 (by simp[lk]) ⟨_,rfl,aB.nil _ _⟩)
 generalize bR Z j (.cells #[.slice none 0 0] 35)=a8 at u a6 a7 P;refine cF hJ a7 ?_;obtain ⟨eS,e0,-⟩:=P.op;replace c:=c.mono u;replace i:=i.mono u;simp only[bu] at a6;refine aQ hJ ?_;revert h;refine bS fun cy D a9=>?_;refine bU hJ [4,5,6,8,9,27,28,29,30,31,32,33,34,35,36,37,38,39,40,41,42,43] (fun m E F'=>∃(F:Addr->Option Value) (d98:Option Addr) (Q:Nat) (G:Bool) (H:Int) (d:(List (List Int))) (I:Int),bn (yt u0 a f) m (G,H,d,I)=some cy/\F'=⟨F,(a0,kn f.1 ad ae al ao ar)::(M,bk u0 s1 (sl d10 u0.props L) k l)::[]⟩/\Ext a8 F/\aB (rL rI) F (.slice d98 d.length Q) d/\slot E 5= .bool G/\slot E 6= .int .i64 H/\slot E 8= .slice d98 d.length Q/\slot E 27= .int .i64 I) fu ?_ ?_
 ·refine ⟨a8,(some ⟨j,0,none⟩),1,false,f.2,([([]:(List Int))]),0,D,rfl,Ext.refl _,P,?_⟩;simp only[*,go_sem]
 rintro R e1 F' ba ⟨F,d98,Q,G,H,d,I,D,rfl,w,z,e2,e3,fa,fb⟩;refine fZ hJ fun _ cS=>?_;replace c:=c.mono w;replace i:=i.mono w;simp only[bu] at cS;obtain ⟨fg,fi,-⟩:=z.op;obtain ⟨c0,da,db⟩:=ba.pick [1,7,26] (by decide);simp only[*,go_sem] at c0 da db;clear ba bo hd br k1;obtain _|R:=R
 ·exact absurd D (by simp only[bn,reduceCtorEq,not_false_eq_true])
 revert D;refine bS fun fo h B=>?_;unfold yt at h;try dsimp only at h
 refine ah hJ ?_;simp only[*,go_sem];refine af hJ ?_;revert h;refine jC hJ (by simp only[*,go_sem]) (fun dd h=>?_) fun dd h=>?_
 ·refine aI hJ (af hJ ?_);refine aQ hJ (af hJ ?_);refine ah hJ ?_;revert h;refine bS fun fp df h=>?_;simp only[*,go_sem];refine rA _ (C9 f.1 c.e c.p c.y c.t i a d z df) fun v fr J dk s=>?_;obtain ⟨fs,rfl,bb⟩:=s;replace z:=z.mono J;replace c:=c.mono J;simp only[bu] at dk;obtain ⟨d121,ft,rfl,fv,fw,-⟩:=id bb;refine aJ ?_;try simp only[*,go_sem]
  refine ah hJ ?_;simp only[*,go_sem];revert h;refine jC hJ (by simp only[*,go_sem]) (fun dp h=>?_) fun dp h=>?_
  ·refine ah hJ ?_;revert h;refine bS fun fx dq h=>?_;obtain rfl:=sI h;obtain ⟨gg,gl,bc⟩:=c5 dq;obtain ⟨gn,gp,ds,dt,bd⟩:=bb.el _ _ bc;obtain ⟨gB,rfl,bj⟩:=dt;obtain ⟨d130,gC,rfl,gM,gT,gV⟩:=id bj;cases ds;have du:=bd 0 _ rfl;simp only[go_sem] at du;clear bd bc;(try simp only[*,go_sem]);obtain rfl:=sI B;clear B;have h:=a9;dsimp only[aG] at h;obtain rfl:=sI h;refine az ?_;simp only[*,go_sem];exact ⟨_,((((g).trans O).trans u).trans w).trans J,Le.sub (List.nil_sublist _),_,rfl,bj⟩
  refine aI hJ (aj hJ ?_);revert h;refine bS fun dv dC h=>?_;obtain rfl:=sI h;simp only[*,go_sem];refine b8 hJ _ (AE f.1.book c d z dC) fun v dE dT ea s=>?_;obtain ⟨g0,rfl,bl⟩:=s;simp only[bu] at ea;obtain ⟨d144,eb,rfl,g1,g2,-⟩:=id bl;refine aJ ?_;try simp only[*,go_sem]
  refine aj hJ ?_;simp only[*,go_sem];refine ⟨R,Nat.lt_succ_self _,_,Le.sub (List.Sublist.refl _),dE,d144,eb,G,H,dv,(IntKind.i64.wrap (I+1)),B,rfl,(w.trans (J.trans dT)),bl,?_⟩;simp only[*,go_sem]
 obtain rfl:=sI h;refine bN ?_;simp only[go_sem];obtain rfl:=sI B;clear B;have h:=a9;dsimp only[aG] at h;obtain rfl:=sI h;refine ah hJ ?_;simp only[*,go_sem];refine az ?_;simp only[*,go_sem];exact ⟨_,(((g).trans O).trans u).trans w,Le.sub (List.nil_sublist _),_,rfl,aB.nil _ _⟩
def yw (a:(Int×Int×Int))(e:(ak×Int))(b:((List Int)×Int))(f:(ak×Int))(g:(ak×Int))(c:(Int×Int))(d:((List Int)×Int)):Option Bool:=
 cond ((a.2.2==0)) (cond ((e.2==0)) (cond ((b.2==0)) (cond ((f.2==9)) (cond ((g.2==0)) (cond ((c.2==0)) (cond ((d.2==0)) (cond ((a.1==0)) (cond ((a.2.1==2)) (ag (mz b.1 ([11,12])) fun h=>cond (h) (cond ((c.1==2)) (ag (mz d.1 ([1])) fun i=>some i) (some false)) (some false)) (some false)) (some false)) (some false)) (some false)) (some false)) (some false)) (some false)) (some false)) (some false)
def yx (a:ak):Option Bool:=
 ag (wF a) fun d=>ag (mG 0 true) fun e=>ag (sD a e) fun b=>ag (lq b.1 0) fun f=>ag (mG 1 true) fun g=>ag (sD a g) fun h=>ag (p6 12 12) fun i=>ag (wG a 0 i) fun c=>ag (iu c.1) fun j=>ag (mG 0 true) fun k=>ag (p8 a k) fun l=>ag (mG 1 true) fun m=>ag (p8 l m) fun n=>ag (mG 0 false) fun o=>ag (p8 n o) fun p=>ag (wL p) fun q=>yw d b f h c j q
def yy (d:ak)(f:(Int×Int))(g:(Int×Int))(h:(Int×Int))(i:(Int×Int))(b:(Int×an×Int))(c:(Int×an×Int))(a:(an×an×Bool×Int)):Option Bool:=
 ag (yq d 2) fun j=>ag (yu d 2) fun e=>cond ((f.2 != 0)) (some false) (cond ((g.2 != 0)) (some false) (cond ((h.2 != 0)) (some false) (cond ((i.2 != 0)) (some false) (cond ((b.2.2 != 0)) (some false) (cond ((c.2.2 != 0)) (some false) (cond ((a.2.2.2 != 0)) (some false) (cond ((j.2 != 0)) (some false) (cond ((e.2.2 != 0)) (some false) (cond ((f.1 != 0)) (some false) (cond ((g.1 != 2)) (some false) (cond ((h.1 != 0)) (some false) (cond ((i.1 != 1)) (some false) (cond ((b.1 != 0)) (some false) (ag (fK 1 1) fun k=>cond (!((b.2.1.num==k.num)&&(b.2.1.den==k.den))) (some false) (cond ((c.1 != (-1))) (some false) (ag (fK 0 1) fun l=>cond (!((c.2.1.num==l.num)&&(c.2.1.den==l.den))) (some false) (cond (!a.2.2.1) (some false) (ag (fK 3 2) fun m=>cond (!((a.1.num==m.num)&&(a.1.den==m.den))) (some false) (ag (fK 3 2) fun n=>cond (!((a.2.1.num==n.num)&&(a.2.1.den==n.den))) (some false) (ag (mz j.1 ([11,12,13,14])) fun o=>cond (!o) (some false) (cond (!e.2.1) (some false) (ag (mz e.1 ([11])) fun p=>cond (!p) (some false) (yx d)))))))))))))))))))))))
def yz (a:ak)(b:ak):Option Bool:=
 ag (sC a 0) fun c=>ag (sC a 1) fun d=>ag (iu a) fun e=>ag (iu b) fun f=>ag (sG a) fun g=>ag (sG b) fun h=>ag (jG a) fun i=>yy a c d e f g h i
def yA (b:ak)(s:ak)(g:(an×Int))(c:(Int×an×Int))(h:(an×Int))(d:(an×Bool×Int))(e:(an×Bool×Int))(f:(an×Bool×Int)):Option Bool:=
 ag (wR b) fun i=>ag (lq b 0) fun j=>ag (wQ b 0) fun a=>cond ((g.2 != 0)) (some false) (cond ((c.2.2 != 0)) (some false) (cond ((h.2 != 0)) (some false) (cond ((d.2.2 != 0)) (some false) (cond ((e.2.2 != 0)) (some false) (cond ((f.2.2 != 0)) (some false) (cond ((i.2 != 0)) (some false) (cond ((j.2 != 0)) (some false) (cond ((a.2.2 != 0)) (some false) (ag (fK 13 4) fun k=>cond (!((g.1.num==k.num)&&(g.1.den==k.den))) (some false) (cond ((c.1 != 2)) (some false) (ag (fK 11 8) fun l=>cond (!((c.2.1.num==l.num)&&(c.2.1.den==l.den))) (some false) (ag (fK 1 4) fun m=>cond (!((h.1.num==m.num)&&(h.1.den==m.den))) (some false) (ag (fK 24 13) fun n=>cond (!((d.1.num==n.num)&&(d.1.den==n.den))) (some false) (cond (!d.2.1) (some false) (ag (fK 2 13) fun o=>cond (!((e.1.num==o.num)&&(e.1.den==o.den))) (some false) (cond (e.2.1) (some false) (ag (fK 1 1) fun p=>cond (!((f.1.num==p.num)&&(f.1.den==p.den))) (some false) (cond (!f.2.1) (some false) (cond ((i.1 != 3)) (some false) (ag (mz j.1 ([10,11,12])) fun t=>cond (!t) (some false) (ag (fK 1 4) fun q=>cond (!((a.1.num==q.num)&&(a.1.den==q.den))) (some false) (ag (fK 1 1) fun r=>cond (!((a.2.1.num==r.num)&&(a.2.1.den==r.den))) (some false) (yz b s)))))))))))))))))))))))
def mY :Option Bool:=
 ag (wW) fun a=>ag (wV a ([11]) 2) fun b=>ag (vD a 5) fun c=>ag (mF 2 11) fun d=>ag (vE a d) fun e=>ag (mF 2 10) fun f=>ag (vF a f) fun g=>ag (mF 2 12) fun h=>ag (vG b h) fun i=>ag (mF 2 12) fun j=>ag (sd b j) fun k=>ag (mF 2 12) fun l=>ag (sd a l) fun m=>yA a b c e g i k m
theorem tN:mY=some true:=by decide+kernel
set_option maxHeartbeats 40000000 in
theorem Da {Φ:Goroutine->aa->Prop}(hJ:Closed Tryz.prog true (dX Tryz.prog Φ)){A:Act}{ro:Addr->Option Value}(a:(Int×Int×Int))(f:(ak×Int))(b:((List Int)×Int))(g:(ak×Int))(i:(ak×Int))(d:(Int×Int))(c:((List Int)×Int))(Q:de ro){j:Value}(k:aB rI ro j b.1){l:Value}(m:aB rI ro l c.1)(q:sz A=439/\A.defers=[]/\slot A 0= .bool false/\slot A 4= .int .i64 a.2.2/\slot A 7= .int .i64 f.2/\slot A 9= .int .i64 b.2/\slot A 12= .int .i64 g.2/\slot A 15= .int .i64 i.2/\slot A 18= .int .i64 d.2/\slot A 20= .int .i64 c.2/\slot A 21=j/\slot A 28= .int .i64 d.1/\slot A 40= .int .i64 a.1/\slot A 41= .int .i64 a.2.1/\slot A 43=l)(h:yw a f b g i d c=some true):Wp (dX Tryz.prog Φ) (bC (bC (bC (bC (bC (bC (bC (bC (bC (bC (bC (bC (bC (bC (bC (bC (bC (bC (bC (bC (bC (bC (bC (bC (bC (bC (bC (bC (bC (bC (bC (bC (Tryz.f13.body.getD .skip))))))))))))))))))))))))))))))))) (iN Tryz.prog [.tmp 0] (fun v _=>v= .bool true)) A ⟨ro,[]⟩:=by
 obtain ⟨R,hd,S,T,U,V,W,X,Y,Z,ab,ad,ae,al,ao⟩:=q;obtain ⟨ar,a0,rfl,a2,a3,-⟩:=id k;obtain ⟨a4,a5,rfl,a6,a7,-⟩:=id m;unfold yw at h;refine fZ hJ fun s t=>?_;have u:=s.nd;try simp only[keys,List.map_cons,List.map_nil,List.map_append,List.cons_append,List.nil_append,List.nodup_cons,List.mem_cons,List.mem_append,List.not_mem_nil,or_false,not_or] at u
 simp only[bu] at t;refine af hJ ?_;refine aA hJ fun w=>?_;refine en hJ fun K n=>?_;revert h;refine cS (fun y h=>?_) fun y h=>?_
 ·revert h;refine cS (fun z h=>?_) fun z h=>?_
  ·revert h;refine cS (fun B h=>?_) fun B h=>?_
   ·revert h;refine cS (fun C h=>?_) fun C h=>?_
    ·revert h;refine cS (fun D h=>?_) fun D h=>?_
     ·revert h;refine cS (fun E h=>?_) fun E h=>?_
      ·revert h;refine cS (fun F h=>?_) fun F h=>?_
       ·revert h;refine cS (fun G h=>?_) fun G h=>?_
        ·revert h;refine cS (fun H h=>?_) fun H h=>?_
         ·revert h;refine bS fun a8 I h=>?_;(try simp (maxSteps:=9^9) only[*,go_sem]);refine ax fun a9 J o=>?_;have L:=aP.cons o w;try simp only[au] at o
          (try simp (maxSteps:=9^9) only[*,go_sem]);refine bg hJ _ (pP b.1 (k.mono aR) ([11,12]) ((aB.flat (r:=rI) (e:=3) (cs:=#[.int .i64 11,.int .i64 12]) (fun x=>[.int .i64 x]) ([11,12]) (fun _=>rfl) J rfl (by simp)).mono (jX (by simp (maxSteps:=9^9) only[*,go_sem]))) I) (aJ ?_);revert h;refine cS (fun M h=>?_) fun M h=>?_
          ·revert h;refine cS (fun N h=>?_) fun N h=>?_
           ·revert h;refine bS fun ba O h=>?_;obtain rfl:=sI h;(try simp (maxSteps:=9^9) only[*,go_sem]);refine ax fun bb P p=>?_;have bc:=aP.cons p L;try simp only[au] at p
            (try simp (maxSteps:=9^9) only[*,go_sem]);refine bg hJ _ (pP c.1 (m.mono aR) ([1]) ((aB.flat (r:=rI) (e:=3) (cs:=#[.int .i64 1]) (fun x=>[.int .i64 x]) ([1]) (fun _=>rfl) P rfl (by simp)).mono (jX (by simp (maxSteps:=9^9) only[*,go_sem]))) O) (aJ ?_);(try simp (maxSteps:=9^9) only[*,go_sem]);refine n.go ?_;clear n K;refine az ?_;try simp only[*,go_sem]
           cases h
          cases h
         cases h
        cases h
       cases h
      cases h
     cases h
    cases h
   cases h
  cases h
 cases h
set_option maxHeartbeats 40000000 in
theorem KH {Φ:Goroutine->aa->Prop}(hJ:Closed Tryz.prog true (dX Tryz.prog Φ)){A:Act}{ro:Addr->Option Value}(d:ak)(eu:((List Int)×Int))(ev:(Int×Int))(eQ:(Int×Int))(b0:(Int×Int))(eS:(Int×Int))(e0:(Int×an×Int))(e1:(Int×an×Int))(e2:(an×an×Bool×Int)){i:Nat}(a:de ro){b1:Value}(e3:aB rI ro b1 eu.1){j k m n:Value}(c:bJ ro d j k m n)(fa:sz A=439/\A.defers=[]/\slot A 0= .bool false/\slot A 1= .pointer (some ⟨i,0,none⟩)/\slot A 4= .int .i64 ev.2/\slot A 7= .int .i64 eQ.2/\slot A 9= .int .i64 b0.2/\slot A 12= .int .i64 eS.2/\slot A 15= .int .i64 e0.2.2/\slot A 18= .int .i64 e1.2.2/\slot A 20= .int .i64 e2.2.2.2/\slot A 21=b1/\slot A 28= .int .i64 b0.1)(h:yx d=some true):Wp (dX Tryz.prog Φ) (bC (bC (bC (bC (bC (bC (bC (bC (bC (bC (bC (bC (bC (bC (bC (bC (bC (bC (bC (bC (bC (bC (bC (bC (bC (Tryz.f13.body.getD .skip)))))))))))))))))))))))))) (iN Tryz.prog [.tmp 0] (fun v _=>v= .bool true)) A ⟨ro,(i,bk d j k m n)::[]⟩:=by
 obtain ⟨b2,hd,b3,k1,b4,b5,ca,cb,cd,cf,cl,cu,cy⟩:=fa;obtain ⟨d125,iv,rfl,ix,jC,-⟩:=id e3;unfold yx at h;have fb:=c.oc;simp only[bH] at fb;refine fZ hJ fun a2 cS=>?_;have fg:=a2.nd;try simp only[keys,List.map_cons,List.map_nil,List.map_append,List.cons_append,List.nil_append,List.nodup_cons,List.mem_cons,List.mem_append,List.not_mem_nil,or_false,not_or] at fg
 replace g:=cS.hd;simp only[bu] at cS;refine af hJ (en hJ fun K b=>?_);revert h;refine bS fun c0 fi h=>?_;try simp (maxSteps:=9^9) only[*,go_sem]
 refine bg hJ _ (GL (a.mono aR) d (c.mono aR) fi) (aJ ?_);try simp (maxSteps:=9^9) only[*,go_sem]
 refine b.go ?_;clear b K;refine af hJ ?_;refine j5 hJ mixed [] (.rd 0 (.rd 1 (.two 2 (.pure 3 (.pure 4 (.pure 5 (.one 6 (.one 7 (.pure 8 .done)))))) 6 (.one 2 (.pure 3 (.pure 4 (.pure 5 (.one 7 (.pure 8 .done))))))))) ⟨ro,[(i,bk d j k m n)]⟩ (by simp (maxSteps:=9^9) only[*,go_sem]) (by kernel_rfl) fun K b=>?_;revert h;refine bS fun da fo h=>?_;try simp (maxSteps:=9^9) only[*,go_sem]
 refine ⟨_,bD hJ fun F u=>kq 0 true fo,bX ?_⟩;try simp (maxSteps:=9^9) only[*,go_sem]
 refine j4 ?_ ?_
 ·revert h;refine bS fun Z fp h=>?_;try simp (maxSteps:=9^9) only[*,go_sem]
  refine b8 hJ _ (sE a d c da fp) fun v j1 a3 db f=>?_;obtain ⟨dd,df,dk,dp,rfl,dq⟩:=f;have fr:=dq.oc;simp only[bH] at fr;replace c:=c.mono a3;replace g:=db.hd;replace a:=a.mono a3;simp only[bu] at db;have j2:=eM (l:=[(i,bk d j k m n)]) a3 (aD.cons g (aD.nil _));refine ⟨by simp (maxSteps:=9^9) only[*,go_sem],?_⟩;refine bX ?_;try simp (maxSteps:=9^9) only[*,go_sem]
  refine ax fun w s ds=>?_;have kh:=aP.cons ds a2;try simp only[au] at ds
  try simp (maxSteps:=9^9) only[*,go_sem]
  refine b.go ?_;clear b K;refine af hJ (en hJ fun K b=>?_);revert h;refine bS fun fs ft h=>?_;try simp (maxSteps:=9^9) only[*,go_sem]
  refine b8 hJ _ (wM a Z.1 dq 0 ft) fun v fu dt a4 f=>?_;obtain ⟨kj,rfl,o⟩:=f;have fv:=o.oc;simp only[bH] at fv;replace c:=c.mono dt;replace s:=a4.hd;replace g:=a4.tl.hd;replace a:=a.mono dt;simp only[bu] at a4;refine aJ ?_;try simp (maxSteps:=9^9) only[*,go_sem]
  refine b.go ?_;clear b K;refine af hJ ?_;refine j5 hJ mixed [] (.rd 0 (.rd 1 (.one 2 (.pure 3 (.pure 4 (.pure 5 (.pure 6 .done))))))) ⟨fu,[(w,bk Z.1 dd df dk dp),(i,bk d j k m n)]⟩ (by simp (maxSteps:=9^9) only[*,go_sem]) (by kernel_rfl) fun K b=>?_;revert h;refine bS fun fw fx h=>?_;try simp (maxSteps:=9^9) only[*,go_sem]
  refine ⟨_,bD hJ fun F u=>kq 1 true fx,bX ?_⟩;revert h;refine bS fun gg gl h=>?_;try simp (maxSteps:=9^9) only[*,go_sem]
  refine b8 hJ _ (sE a d c fw gl) fun v gn ab a5 f=>?_;obtain ⟨kk,kl,km,kn,rfl,N⟩:=f;have gp:=N.oc;simp only[bH] at gp;replace o:=o.mono ab;replace c:=c.mono ab;replace s:=a5.hd;replace g:=a5.tl.hd;replace a:=a.mono ab;simp only[bu] at a5;obtain ⟨kp,ks,rfl,kt,kv,-⟩:=id N.e;obtain ⟨kx,ky,rfl,k0,k2,-⟩:=id N.p;obtain ⟨lb,lh,rfl,lj,lk,-⟩:=id N.y;obtain ⟨ll,ln,rfl,lo,lr,-⟩:=id N.t;have lv:=eM (l:=[(w,bk Z.1 dd df dk dp),(i,bk d j k m n)]) ab (aD.cons s (aD.cons g (aD.nil _)));refine ⟨by simp (maxSteps:=9^9) only[*,go_sem],?_⟩;refine bX ?_;try simp (maxSteps:=9^9) only[*,go_sem]
  refine b.go ?_;clear b K;refine af hJ ?_;refine eV [0,1,4,7,9,12,15,18,20,21,28,40,41,42] fun lx gB gC gM=>?_;simp only[*,go_sem] at gB gC gM;clear b2 hd b3 k1 b4 b5 ca cb cd cf cl cu cy;refine j5 hJ mixed [] (.rd 0 (.rd 1 (.one 2 (.pure 3 (.pure 4 (.pure 5 (.one 6 (.pure 7 .done)))))))) ⟨gn,[(i,bk d j k m n)]⟩ (by simp (maxSteps:=9^9) only[*,go_sem]) (by kernel_rfl) fun K b=>?_;revert h;refine bS fun gT gV h=>?_;try simp (maxSteps:=9^9) only[*,go_sem]
  refine ⟨_,bD hJ fun F u=>sH 12 12 gV,bX ?_⟩;revert h;refine bS fun x g0 h=>?_;try simp (maxSteps:=9^9) only[*,go_sem]
  refine b8 hJ _ (AK a d c 0 gT g0) fun v g1 ad a6 f=>?_;obtain ⟨O,P,Q,R,rfl,du⟩:=f;have g2:=du.oc;simp only[bH] at g2;replace o:=o.mono ad;replace c:=c.mono ad;replace s:=a6.hd;replace g:=a6.tl.hd;replace a:=a.mono ad;simp only[bu] at a6;have ly:=eM (l:=[(i,bk d j k m n)]) ad (aD.cons g (aD.nil _));refine ⟨by simp (maxSteps:=9^9) only[*,go_sem],?_⟩;refine bX ?_;try simp (maxSteps:=9^9) only[*,go_sem]
  refine b.go ?_;clear b K;refine af hJ (en hJ fun K b=>?_);revert h;refine bS fun g3 g4 h=>?_;try simp (maxSteps:=9^9) only[*,go_sem]
  refine bg hJ _ (pZ (a.mono aR) x.1 (du.mono aR) g4) (aJ ?_);try simp (maxSteps:=9^9) only[*,go_sem]
  refine b.go ?_;clear b K;refine af hJ ?_;refine j5 hJ mixed [] (.rd 0 (.rd 1 (.one 2 (.rd 3 (.one 4 (.rd 5 (.one 6 (.one 7 (.pure 8 (.pure 9 (.pure 10 (.pure 11 (.pure 12 .done))))))))))))) ⟨g1,[(w,bk x.1 O P Q R),(i,bk d j k m n)]⟩ (by simp (maxSteps:=9^9) only[*,go_sem]) (by kernel_rfl) fun K b=>?_;revert h;refine bS fun ha hc h=>?_;try simp (maxSteps:=9^9) only[*,go_sem]
  refine ⟨_,bD hJ fun F u=>kq 0 true hc,bX ?_⟩;revert h;refine bS fun hf hg h=>?_;try simp (maxSteps:=9^9) only[*,go_sem]
  refine b8 hJ _ (nU d c ha hg) fun v lL z a7 f=>?_;obtain ⟨l1,l2,l3,l4,rfl,D⟩:=f;have hh:=D.oc;simp only[bH] at hh;replace o:=o.mono z;replace c:=c.mono z;replace s:=a7.hd;replace g:=a7.tl.hd;replace a:=a.mono z;simp only[bu] at a7;obtain ⟨ma,mf,rfl,mi,ml,-⟩:=id D.e;obtain ⟨mn,mr,rfl,mx,my,-⟩:=id D.p;obtain ⟨m1,m2,rfl,na,nb,-⟩:=id D.y;obtain ⟨nf,nm,rfl,nn,np,-⟩:=id D.t;have ns:=eM (l:=[(w,bk x.1 O P Q R),(i,bk d j k m n)]) z (aD.cons s (aD.cons g (aD.nil _)));refine ⟨by simp (maxSteps:=9^9) only[*,go_sem],?_⟩;refine bX ?_;revert h;refine bS fun hi hj h=>?_;try simp (maxSteps:=9^9) only[*,go_sem]
  refine ⟨_,bD hJ fun F u=>kq 1 true hj,bX ?_⟩;revert h;refine bS fun hk hl h=>?_;try simp (maxSteps:=9^9) only[*,go_sem]
  refine b8 hJ _ (nU hf D hi hl) fun v nx E a8 f=>?_;obtain ⟨nz,nA,nH,nI,rfl,G⟩:=f;have hn:=G.oc;simp only[bH] at hn;replace o:=o.mono E;replace c:=c.mono E;replace s:=a8.hd;replace g:=a8.tl.hd;replace a:=a.mono E;simp only[bu] at a8;obtain ⟨nK,nQ,rfl,nR,nT,-⟩:=id G.e;obtain ⟨nV,nX,rfl,nY,n0,-⟩:=id G.p;obtain ⟨n1,n2,rfl,n3,oi,-⟩:=id G.y;obtain ⟨oj,ox,rfl,oy,o0,-⟩:=id G.t;have o1:=eM (l:=[(w,bk x.1 O P Q R),(i,bk d j k m n)]) (z.trans E) (aD.cons s (aD.cons g (aD.nil _)));refine ⟨by simp (maxSteps:=9^9) only[*,go_sem],?_⟩;refine bX ?_;revert h;refine bS fun ho hp h=>?_;try simp (maxSteps:=9^9) only[*,go_sem]
  refine ⟨_,bD hJ fun F u=>kq 0 false hp,bX ?_⟩;revert h;refine bS fun hq hr h=>?_;try simp (maxSteps:=9^9) only[*,go_sem]
  refine b8 hJ _ (nU hk G ho hr) fun v o2 S a9 f=>?_;obtain ⟨o4,pa,pb,pd,rfl,H⟩:=f;have hs:=H.oc;simp only[bH] at hs;replace o:=o.mono S;replace c:=c.mono S;replace s:=a9.hd;replace g:=a9.tl.hd;replace a:=a.mono S;simp only[bu] at a9;obtain ⟨pf,ph,rfl,pj,pk,-⟩:=id H.e;obtain ⟨po,pr,rfl,ps,pt,-⟩:=id H.p;obtain ⟨pv,pw,rfl,px,py,-⟩:=id H.y;obtain ⟨pA,pB,rfl,pC,pD,-⟩:=id H.t;have pL:=eM (l:=[(w,bk x.1 O P Q R),(i,bk d j k m n)]) ((z.trans E).trans S) (aD.cons s (aD.cons g (aD.nil _)));refine ⟨by simp (maxSteps:=9^9) only[*,go_sem],?_⟩;refine bX ?_;revert h;refine bS fun ht hv h=>?_;try simp (maxSteps:=9^9) only[*,go_sem]
  refine b8 hJ _ (AN a hq H hv) fun v pT ae ba f=>?_;obtain ⟨p0,rfl,dv⟩:=f;replace o:=o.mono ae;replace c:=c.mono ae;replace s:=ba.hd;replace g:=ba.tl.hd;replace a:=a.mono ae;simp only[bu] at ba;obtain ⟨p1,q0,rfl,q1,ra,-⟩:=id dv;have rb:=eM (l:=[(w,bk x.1 O P Q R),(i,bk d j k m n)]) (((z.trans E).trans S).trans ae) (aD.cons s (aD.cons g (aD.nil _)));refine ⟨by simp (maxSteps:=9^9) only[*,go_sem],?_⟩;refine bX ?_;try simp (maxSteps:=9^9) only[*,go_sem]
  refine b.go ?_;clear b K;show Wp _ _ _ _ _;exact cF hJ (Le.sub (.cons _ (.cons _ (List.Sublist.refl _)))) (Da hJ c0 Z fs gg x g3 ht a o dv (by simp (maxSteps:=9^9) only[*,go_sem]) h)
 revert h;refine bS fun al hx h=>?_;try simp (maxSteps:=9^9) only[*,go_sem]
 refine ax fun B r dC=>?_;have re:=aP.cons dC a2;try simp only[au] at dC
 try simp (maxSteps:=9^9) only[*,go_sem]
 refine b8 hJ _ (sE a d c da hx) fun v rh bb bc f=>?_;obtain ⟨dE,dT,ea,eb,rfl,ec⟩:=f;have hy:=ec.oc;simp only[bH] at hy;replace c:=c.mono bb;replace r:=bc.hd;replace g:=bc.tl.hd;replace a:=a.mono bb;simp only[bu] at bc;have rk:=eM (l:=[(i,bk d j k m n)]) bb (aD.cons g (aD.nil _));refine ⟨by simp (maxSteps:=9^9) only[*,go_sem],?_⟩;refine bX ?_;try simp (maxSteps:=9^9) only[*,go_sem]
 refine b.go ?_;clear b K;refine af hJ (en hJ fun K b=>?_);revert h;refine bS fun hz hA h=>?_;try simp (maxSteps:=9^9) only[*,go_sem]
 refine b8 hJ _ (wM a al.1 ec 0 hA) fun v hB ed bd f=>?_;obtain ⟨rl,rfl,q⟩:=f;have hD:=q.oc;simp only[bH] at hD;replace c:=c.mono ed;replace r:=bd.hd;replace g:=bd.tl.hd;replace a:=a.mono ed;simp only[bu] at bd;refine aJ ?_;try simp (maxSteps:=9^9) only[*,go_sem]
 refine b.go ?_;clear b K;refine af hJ ?_;refine j5 hJ mixed [] (.rd 0 (.rd 1 (.one 2 (.pure 3 (.pure 4 (.pure 5 (.pure 6 .done))))))) ⟨hB,[(B,bk al.1 dE dT ea eb),(i,bk d j k m n)]⟩ (by simp (maxSteps:=9^9) only[*,go_sem]) (by kernel_rfl) fun K b=>?_;revert h;refine bS fun hE hF h=>?_;try simp (maxSteps:=9^9) only[*,go_sem]
 refine ⟨_,bD hJ fun F u=>kq 1 true hF,bX ?_⟩;revert h;refine bS fun hG hI h=>?_;try simp (maxSteps:=9^9) only[*,go_sem]
 refine b8 hJ _ (sE a d c hE hI) fun v hK ao bj f=>?_;obtain ⟨rn,rp,rr,rv,rfl,T⟩:=f;have hL:=T.oc;simp only[bH] at hL;replace q:=q.mono ao;replace c:=c.mono ao;replace r:=bj.hd;replace g:=bj.tl.hd;replace a:=a.mono ao;simp only[bu] at bj;obtain ⟨rB,rL,rfl,sa,sb,-⟩:=id T.e;obtain ⟨sc,sf,rfl,sg,sh,-⟩:=id T.p;obtain ⟨sl,sm,rfl,ss,sy,-⟩:=id T.y;obtain ⟨sI,sT,rfl,tb,te,-⟩:=id T.t;have ti:=eM (l:=[(B,bk al.1 dE dT ea eb),(i,bk d j k m n)]) ao (aD.cons r (aD.cons g (aD.nil _)));refine ⟨by simp (maxSteps:=9^9) only[*,go_sem],?_⟩;refine bX ?_;try simp (maxSteps:=9^9) only[*,go_sem]
 refine b.go ?_;clear b K;refine af hJ ?_;refine eV [0,1,4,7,9,12,15,18,20,21,28,40,41,42] fun tk hM hN hP=>?_;simp only[*,go_sem] at hM hN hP;clear b2 hd b3 k1 b4 b5 ca cb cd cf cl cu cy;refine j5 hJ mixed [] (.rd 0 (.rd 1 (.one 2 (.pure 3 (.pure 4 (.pure 5 (.one 6 (.pure 7 .done)))))))) ⟨hK,[(i,bk d j k m n)]⟩ (by simp (maxSteps:=9^9) only[*,go_sem]) (by kernel_rfl) fun K b=>?_;revert h;refine bS fun hQ hR h=>?_;try simp (maxSteps:=9^9) only[*,go_sem]
 refine ⟨_,bD hJ fun F u=>sH 12 12 hR,bX ?_⟩;revert h;refine bS fun C hS h=>?_;try simp (maxSteps:=9^9) only[*,go_sem]
 refine b8 hJ _ (AK a d c 0 hQ hS) fun v hT ar bl f=>?_;obtain ⟨U,V,W,X,rfl,eh⟩:=f;have hV:=eh.oc;simp only[bH] at hV;replace q:=q.mono ar;replace c:=c.mono ar;replace r:=bl.hd;replace g:=bl.tl.hd;replace a:=a.mono ar;simp only[bu] at bl;have tm:=eM (l:=[(i,bk d j k m n)]) ar (aD.cons g (aD.nil _));refine ⟨by simp (maxSteps:=9^9) only[*,go_sem],?_⟩;refine bX ?_;try simp (maxSteps:=9^9) only[*,go_sem]
 refine b.go ?_;clear b K;refine af hJ (en hJ fun K b=>?_);revert h;refine bS fun hX hY h=>?_;try simp (maxSteps:=9^9) only[*,go_sem]
 refine bg hJ _ (pZ (a.mono aR) C.1 (eh.mono aR) hY) (aJ ?_);try simp (maxSteps:=9^9) only[*,go_sem]
 refine b.go ?_;clear b K;refine af hJ ?_;refine j5 hJ mixed [] (.rd 0 (.rd 1 (.one 2 (.rd 3 (.one 4 (.rd 5 (.one 6 (.one 7 (.pure 8 (.pure 9 (.pure 10 (.pure 11 (.pure 12 .done))))))))))))) ⟨hT,[(B,bk C.1 U V W X),(i,bk d j k m n)]⟩ (by simp (maxSteps:=9^9) only[*,go_sem]) (by kernel_rfl) fun K b=>?_;revert h;refine bS fun hZ h0 h=>?_;try simp (maxSteps:=9^9) only[*,go_sem]
 refine ⟨_,bD hJ fun F u=>kq 0 true h0,bX ?_⟩;revert h;refine bS fun h1 h2 h=>?_;try simp (maxSteps:=9^9) only[*,go_sem]
 refine b8 hJ _ (nU d c hZ h2) fun v tp I bm f=>?_;obtain ⟨ts,tt,tx,tz,rfl,J⟩:=f;have h3:=J.oc;simp only[bH] at h3;replace q:=q.mono I;replace r:=bm.hd;replace g:=bm.tl.hd;replace a:=a.mono I;simp only[bu] at bm;obtain ⟨tI,tM,rfl,tW,ub,-⟩:=id J.e;obtain ⟨ui,u1,rfl,u2,u3,-⟩:=id J.p;obtain ⟨u4,va,rfl,vd,vs,-⟩:=id J.y;obtain ⟨vx,vy,rfl,v3,wa,-⟩:=id J.t;have wb:=eM (l:=[(B,bk C.1 U V W X),(i,bk d j k m n)]) I (aD.cons r (aD.cons g (aD.nil _)));refine ⟨by simp (maxSteps:=9^9) only[*,go_sem],?_⟩;refine bX ?_;revert h;refine bS fun h4 h5 h=>?_;try simp (maxSteps:=9^9) only[*,go_sem]
 refine ⟨_,bD hJ fun F u=>kq 1 true h5,bX ?_⟩;revert h;refine bS fun h6 h7 h=>?_;try simp (maxSteps:=9^9) only[*,go_sem]
 refine b8 hJ _ (nU h1 J h4 h7) fun v wc Y bo f=>?_;obtain ⟨wi,wx,wy,w0,rfl,L⟩:=f;have h8:=L.oc;simp only[bH] at h8;replace q:=q.mono Y;replace r:=bo.hd;replace g:=bo.tl.hd;replace a:=a.mono Y;simp only[bu] at bo;obtain ⟨xa,xc,rfl,xf,xi,-⟩:=id L.e;obtain ⟨xn,xr,rfl,xt,xv,-⟩:=id L.p;obtain ⟨x0,x1,rfl,yi,yk,-⟩:=id L.y;obtain ⟨yn,yr,rfl,ys,yv,-⟩:=id L.t;have y0:=eM (l:=[(B,bk C.1 U V W X),(i,bk d j k m n)]) (I.trans Y) (aD.cons r (aD.cons g (aD.nil _)));refine ⟨by simp (maxSteps:=9^9) only[*,go_sem],?_⟩;refine bX ?_;revert h;refine bS fun h9 ib h=>?_;try simp (maxSteps:=9^9) only[*,go_sem]
 refine ⟨_,bD hJ fun F u=>kq 0 false ib,bX ?_⟩;revert h;refine bS fun ic ih h=>?_;try simp (maxSteps:=9^9) only[*,go_sem]
 refine b8 hJ _ (nU h6 L h9 ih) fun v y1 a0 br f=>?_;obtain ⟨zc,zr,zs,zt,rfl,M⟩:=f;have ik:=M.oc;simp only[bH] at ik;replace q:=q.mono a0;replace r:=br.hd;replace g:=br.tl.hd;replace a:=a.mono a0;simp only[bu] at br;obtain ⟨Ag,At,rfl,Bd,BF,-⟩:=id M.e;obtain ⟨B0,Cy,rfl,CY,Ex,-⟩:=id M.p;obtain ⟨Fl,F0,rfl,Gp,Gr,-⟩:=id M.y;obtain ⟨Ha,Hb,rfl,Hc,Hd,-⟩:=id M.t;have Hk:=eM (l:=[(B,bk C.1 U V W X),(i,bk d j k m n)]) ((I.trans Y).trans a0) (aD.cons r (aD.cons g (aD.nil _)));refine ⟨by simp (maxSteps:=9^9) only[*,go_sem],?_⟩;refine bX ?_;revert h;refine bS fun il im h=>?_;try simp (maxSteps:=9^9) only[*,go_sem]
 refine b8 hJ _ (AN a ic M im) fun v Hm bs bz f=>?_;obtain ⟨Hn,rfl,et⟩:=f;replace q:=q.mono bs;replace r:=bz.hd;replace g:=bz.tl.hd;replace a:=a.mono bs;simp only[bu] at bz;obtain ⟨H0,H2,rfl,H3,H4,-⟩:=id et;have H5:=eM (l:=[(B,bk C.1 U V W X),(i,bk d j k m n)]) (((I.trans Y).trans a0).trans bs) (aD.cons r (aD.cons g (aD.nil _)));refine ⟨by simp (maxSteps:=9^9) only[*,go_sem],?_⟩;refine bX ?_;try simp (maxSteps:=9^9) only[*,go_sem]
 refine b.go ?_;clear b K;show Wp _ _ _ _ _;exact cF hJ (Le.sub (.cons _ (.cons _ (List.Sublist.refl _)))) (Da hJ c0 al hz hG C hX il a q et (by simp (maxSteps:=9^9) only[*,go_sem]) h)
set_option maxHeartbeats 40000000 in
theorem KI {Φ:Goroutine->aa->Prop}(hJ:Closed Tryz.prog true (dX Tryz.prog Φ)){A:Act}{ro:Addr->Option Value}(g:ak)(q:((List Int)×Int))(N:(an×an×Int))(k:(Int×Int))(l:(Int×Int))(m:(Int×Int))(n:(Int×Int))(c:(Int×an×Int))(d:(Int×an×Int))(a:(an×an×Bool×Int)){s t u w y:Nat}(i:de ro){I:Value}(j:aB rI ro I q.1){z B C D:Value}(f:bJ ro g z B C D)(O:sz A=439/\A.defers=[]/\slot A 0= .bool false/\slot A 1= .pointer (some ⟨y,0,none⟩)/\slot A 4= .int .i64 k.2/\slot A 7= .int .i64 l.2/\slot A 9= .int .i64 m.2/\slot A 12= .int .i64 n.2/\slot A 15= .int .i64 c.2.2/\slot A 18= .int .i64 d.2.2/\slot A 20= .int .i64 a.2.2.2/\slot A 21=I/\slot A 22= .int .i64 q.2/\slot A 25= .int .i64 N.2.2/\slot A 26= .int .i64 k.1/\slot A 27= .int .i64 l.1/\slot A 28= .int .i64 m.1/\slot A 29= .int .i64 n.1/\slot A 30= .int .i64 c.1/\slot A 31= .pointer (some ⟨w,0,none⟩)/\slot A 32= .int .i64 d.1/\slot A 33= .pointer (some ⟨u,0,none⟩)/\slot A 34= .pointer (some ⟨t,0,none⟩)/\slot A 35= .pointer (some ⟨s,0,none⟩)/\slot A 36= .bool a.2.2.1)(h:yy g k l m n c d a=some true):Wp (dX Tryz.prog Φ) (bC (bC (bC (bC (bC (bC (bC (bC (bC (bC (bC (bC (bC (bC (bC (bC (bC (bC (bC (bC (bC (Tryz.f13.body.getD .skip)))))))))))))))))))))) (iN Tryz.prog [.tmp 0] (fun v _=>v= .bool true)) A ⟨ro,(s,rt a.2.1.num a.2.1.den)::(t,rt a.1.num a.1.den)::(u,rt d.2.1.num d.2.1.den)::(w,rt c.2.1.num c.2.1.den)::(y,bk g z B C D)::[]⟩:=by
 obtain ⟨P,hd,Q,k1,R,S,T,U,V,W,X,Y,Z,ab,ad,ae,al,ao,ar,a0,a2,a3,a4,a5,a6⟩:=O;unfold yy at h;have a7:=f.oc;simp only[bH] at a7;have a8:=j.oc;simp only[bH] at a8;refine fZ hJ fun a9 ba=>?_;have bb:=a9.nd;try simp only[keys,List.map_cons,List.map_nil,List.map_append,List.cons_append,List.nil_append,List.nodup_cons,List.mem_cons,List.mem_append,List.not_mem_nil,or_false,not_or] at bb
 simp only[bu] at ba;refine af hJ (en hJ fun K b=>?_);revert h;refine bS fun bc bd h=>?_;try simp (maxSteps:=9^9) only[*,go_sem]
 refine rA _ (KF i g f 2 bd) fun v eQ E bj G=>?_;obtain ⟨eS,rfl,o⟩:=G;have bl:=o.oc;simp only[bH] at bl;replace j:=j.mono E;replace f:=f.mono E;replace i:=i.mono E;simp only[bu] at bj;refine aJ ?_;try simp (maxSteps:=9^9) only[*,go_sem]
 refine b.go ?_;clear b K;refine af hJ (en hJ fun K b=>?_);revert h;refine bS fun bm bo h=>?_;try simp (maxSteps:=9^9) only[*,go_sem]
 refine rA _ (KG i g f 2 bo) fun v br p bs G=>?_;obtain ⟨e0,rfl,J⟩:=G;have bz:=J.oc;simp only[bH] at bz;replace j:=j.mono p;replace f:=f.mono p;replace o:=o.mono p;replace i:=i.mono p;simp only[bu] at bs;refine aJ ?_;try simp (maxSteps:=9^9) only[*,go_sem]
 refine b.go ?_;clear b K;refine af hJ (af hJ (en hJ fun K b=>?_));revert h;refine cS (fun b0 h=>?_) fun b0 h=>?_
 ·cases h
 revert h;refine cS (fun b1 h=>?_) fun b1 h=>?_
 ·cases h
 revert h;refine cS (fun b2 h=>?_) fun b2 h=>?_
 ·cases h
 revert h;refine cS (fun b3 h=>?_) fun b3 h=>?_
 ·cases h
 revert h;refine cS (fun b4 h=>?_) fun b4 h=>?_
 ·cases h
 revert h;refine cS (fun b5 h=>?_) fun b5 h=>?_
 ·cases h
 revert h;refine cS (fun ca h=>?_) fun ca h=>?_
 ·cases h
 revert h;refine cS (fun cb h=>?_) fun cb h=>?_
 ·cases h
 try simp (maxSteps:=9^9) only[*,go_sem]
 revert h;refine cS (fun cd h=>?_) fun cd h=>?_
 ·cases h
 refine b.go ?_;clear b K;refine bL hJ (by simp (maxSteps:=9^9) only[*,go_sem]) ?_;refine aI hJ (af hJ ?_);refine af hJ ?_;refine eV [0,1,4,7,9,12,15,18,20,21,26,27,28,29,30,31,32,33,34,35,36,37,38,39] fun e1 cf cl cu=>?_;simp only[*,go_sem] at cf cl cu;clear P hd Q k1 R S T U V W X Y Z ab ad ae al ao ar a0 a2 a3 a4 a5 a6;refine aA hJ fun cy=>?_;refine j5 hJ mixed [] (.pure 0 (.pure 1 (.pure 2 (.pure 3 (.pure 4 (.pure 5 (.pure 6 (.pure 7 (.pure 8 (.pure 9 (.pure 10 (.pure 11 (.pure 12 (.pure 13 (.pure 14 (.pure 15 (.pure 16 (.pure 17 (.pure 18 (.rd 19 (.rd 20 (.pure 21 (.pure 22 (.pure 23 (.pure 24 (.pure 25 (.pure 26 (.pure 27 (.rd 28 (.rd 29 (.pure 30 (.pure 31 (.pure 32 (.pure 33 (.pure 34 (.pure 35 (.pure 36 (.rd 37 (.rd 38 (.pure 39 (.pure 40 (.pure 41 (.rd 42 (.rd 43 (.pure 44 (.pure 45 (.pure 46 (.pure 47 (.one 48 (.one 49 (.pure 50 (.pure 51 (.pure 52 (.pure 53 (.pure 54 (.pure 55 (.pure 56 (.pure 57 (.one 58 (.one 59 (.pure 60 (.pure 61 .done)))))))))))))))))))))))))))))))))))))))))))))))))))))))))))))) ⟨br,[(s,rt a.2.1.num a.2.1.den),(t,rt a.1.num a.1.den),(u,rt d.2.1.num d.2.1.den),(w,rt c.2.1.num c.2.1.den),(y,bk g z B C D)]⟩ (by simp (maxSteps:=9^9) only[*,go_sem]) (by kernel_rfl) fun K b=>?_;revert h;refine cS (fun c0 h=>?_) fun c0 h=>?_
 ·cases h
 revert h;refine cS (fun da h=>?_) fun da h=>?_
 ·cases h
 revert h;refine cS (fun db h=>?_) fun db h=>?_
 ·cases h
 revert h;refine cS (fun dd h=>?_) fun dd h=>?_
 ·cases h
 revert h;refine cS (fun df h=>?_) fun df h=>?_
 ·cases h
 revert h;refine bS fun e2 dk h=>?_;try simp (maxSteps:=9^9) only[*,go_sem]
 refine ⟨_,bD hJ fun F H=>gE 1 1 dk,bX ?_⟩;revert h;refine cS (fun dp h=>?_) fun dp h=>?_
 ·cases h
 revert h;refine cS (fun dq h=>?_) fun dq h=>?_
 ·cases h
 revert h;refine bS fun e3 ds h=>?_;try simp (maxSteps:=9^9) only[*,go_sem]
 refine ⟨_,bD hJ fun F H=>gE 0 1 ds,bX ?_⟩;revert h;refine cS (fun dt h=>?_) fun dt h=>?_
 ·cases h
 revert h;refine cS (fun du h=>?_) fun du h=>?_
 ·cases h
 revert h;refine bS fun fa dv h=>?_;try simp (maxSteps:=9^9) only[*,go_sem]
 refine ⟨_,bD hJ fun F H=>gE 3 2 dv,bX ?_⟩;revert h;refine cS (fun dC h=>?_) fun dC h=>?_
 ·cases h
 revert h;refine bS fun fb dE h=>?_;try simp (maxSteps:=9^9) only[*,go_sem]
 refine ⟨_,bD hJ fun F H=>gE 3 2 dE,bX ?_⟩;revert h;refine cS (fun dT h=>?_) fun dT h=>?_
 ·cases h
 revert h;refine bS fun fg ea h=>?_;try simp (maxSteps:=9^9) only[*,go_sem]
 refine ax fun fi eb L=>?_;have ec:=aP.cons L cy;try simp only[au] at L
 try simp (maxSteps:=9^9) only[*,go_sem]
 refine bg hJ _ (pP bc.1 (o.mono aR) ([11,12,13,14]) ((aB.flat (r:=rI) (e:=3) (cs:=#[.int .i64 11,.int .i64 12,.int .i64 13,.int .i64 14]) (fun x=>[.int .i64 x]) ([11,12,13,14]) (fun _=>rfl) eb rfl (by simp)).mono (jX (by simp (maxSteps:=9^9) only[*,go_sem]))) ea) ⟨by simp (maxSteps:=9^9) only[*,go_sem],bX ?_⟩;revert h;refine cS (fun ed h=>?_) fun ed h=>?_
 ·cases h
 revert h;refine cS (fun eh h=>?_) fun eh h=>?_
 ·cases h
 revert h;refine bS fun fo et h=>?_;try simp (maxSteps:=9^9) only[*,go_sem]
 refine ax fun fp eu M=>?_;have fr:=aP.cons M ec;try simp only[au] at M
 try simp (maxSteps:=9^9) only[*,go_sem]
 refine bg hJ _ (pP bm.1 (J.mono aR) ([11]) ((aB.flat (r:=rI) (e:=3) (cs:=#[.int .i64 11]) (fun x=>[.int .i64 x]) ([11]) (fun _=>rfl) eu rfl (by simp)).mono (jX (by simp (maxSteps:=9^9) only[*,go_sem]))) et) ⟨by simp (maxSteps:=9^9) only[*,go_sem],bX ?_⟩;try simp (maxSteps:=9^9) only[*,go_sem]
 revert h;refine cS (fun ev h=>?_) fun ev h=>?_
 ·cases h
 refine b.go ?_;clear b K;refine bL hJ (by simp (maxSteps:=9^9) only[*,go_sem]) ?_;refine aI hJ ?_;show Wp _ _ _ _ _;exact cF hJ (Le.sub (.cons _ (.cons _ (.cons _ (.cons _ (.cons _ (.cons _ (.cons₂ _ (List.Sublist.refl _))))))))) (KH hJ g q k l m n c d a i j f (by simp (maxSteps:=9^9) only[*,go_sem]) h)
set_option maxHeartbeats 40000000 in
theorem KJ {Φ:Goroutine->aa->Prop}(hJ:Closed Tryz.prog true (dX Tryz.prog Φ)){A:Act}{ro:Addr->Option Value}(c:ak)(g:ak)(G:(an×Int))(H:(Int×an×Int))(I:(an×Int))(J:(an×Bool×Int))(L:(an×Bool×Int))(M:(an×Bool×Int))(N:(Int×Int))(i:((List Int)×Int))(j:(an×an×Int)){k l:Nat}(d:de ro){m:Value}(n:aB rI ro m i.1){o q r s:Value}(f:bJ ro g o q r s){u w x z:Value}(b:bJ ro c u w x z)(O:sz A=439/\A.defers=[]/\slot A 0= .bool false/\slot A 1= .pointer (some ⟨l,0,none⟩)/\slot A 2= .pointer (some ⟨k,0,none⟩)/\slot A 4= .int .i64 G.2/\slot A 7= .int .i64 H.2.2/\slot A 9= .int .i64 I.2/\slot A 12= .int .i64 J.2.2/\slot A 15= .int .i64 L.2.2/\slot A 18= .int .i64 M.2.2/\slot A 20= .int .i64 N.2/\slot A 21=m/\slot A 22= .int .i64 i.2/\slot A 25= .int .i64 j.2.2)(h:yz c g=some true):Wp (dX Tryz.prog Φ) (bC (bC (bC (bC (bC (bC (bC (bC (bC (bC (bC (bC (bC (bC (Tryz.f13.body.getD .skip))))))))))))))) (iN Tryz.prog [.tmp 0] (fun v _=>v= .bool true)) A ⟨ro,(k,bk g o q r s)::(l,bk c u w x z)::[]⟩:=by
 obtain ⟨P,hd,Q,k1,R,S,T,U,V,W,X,Y,Z,ab,ad⟩:=O;obtain ⟨d45,b1,rfl,b2,b3,-⟩:=id f.e;obtain ⟨d52,b4,rfl,b5,ca,-⟩:=id f.p;obtain ⟨d59,cb,rfl,cd,cf,-⟩:=id f.y;obtain ⟨d66,cl,rfl,cu,cy,-⟩:=id f.t;obtain ⟨d8,cS,rfl,c0,da,-⟩:=id b.e;obtain ⟨d15,db,rfl,dd,df,-⟩:=id b.p;obtain ⟨d22,dk,rfl,dp,dq,-⟩:=id b.y;obtain ⟨d29,ds,rfl,dt,du,-⟩:=id b.t;unfold yz at h;have ae:=f.oc;simp only[bH] at ae;have al:=b.oc;simp only[bH] at al;have ao:=n.oc;simp only[bH] at ao;refine fZ hJ fun B ar=>?_;have a0:=B.nd;try simp only[keys,List.map_cons,List.map_nil,List.map_append,List.cons_append,List.nil_append,List.nodup_cons,List.mem_cons,List.mem_append,List.not_mem_nil,or_false,not_or] at a0
 simp only[bu] at ar;refine af hJ (en hJ fun K a=>?_);revert h;refine bS fun a2 a3 h=>?_;try simp (maxSteps:=9^9) only[*,go_sem]
 refine bg hJ _ (AJ (d.mono aR) c (b.mono aR) 0 a3) (aJ ?_);try simp (maxSteps:=9^9) only[*,go_sem]
 refine a.go ?_;clear a K;refine af hJ (en hJ fun K a=>?_);revert h;refine bS fun a4 a5 h=>?_;try simp (maxSteps:=9^9) only[*,go_sem]
 refine bg hJ _ (AJ (d.mono aR) c (b.mono aR) 1 a5) (aJ ?_);try simp (maxSteps:=9^9) only[*,go_sem]
 refine a.go ?_;clear a K;refine af hJ (en hJ fun K a=>?_);revert h;refine bS fun a6 a7 h=>?_;try simp (maxSteps:=9^9) only[*,go_sem]
 refine bg hJ _ (pZ (d.mono aR) c (b.mono aR) a7) (aJ ?_);try simp (maxSteps:=9^9) only[*,go_sem]
 refine a.go ?_;clear a K;refine af hJ (en hJ fun K a=>?_);revert h;refine bS fun a8 a9 h=>?_;try simp (maxSteps:=9^9) only[*,go_sem]
 refine bg hJ _ (pZ (d.mono aR) g (f.mono aR) a9) (aJ ?_);try simp (maxSteps:=9^9) only[*,go_sem]
 refine a.go ?_;clear a K;refine af hJ (en hJ fun K a=>?_);revert h;refine bS fun ba bb h=>?_;try simp (maxSteps:=9^9) only[*,go_sem]
 refine bg hJ _ (AP (d.mono aR) c (b.mono aR) bb) (aJ ?_);try simp (maxSteps:=9^9) only[*,go_sem]
 refine ax fun dv dC C=>?_;have bc:=aP.cons C B;try simp only[au] at C
 try simp (maxSteps:=9^9) only[*,go_sem]
 refine a.go ?_;clear a K;refine af hJ ?_;refine eV [0,1,2,4,7,9,12,15,18,20,21,22,25,26,27,28,29,30,31] fun dE bd bj bl=>?_;simp only[*,go_sem] at bd bj bl;clear P hd Q k1 R S T U V W X Y Z ab ad;refine en hJ fun K a=>?_;revert h;refine bS fun bm bo h=>?_;try simp (maxSteps:=9^9) only[*,go_sem]
 refine bg hJ _ (AP (d.mono aR) g (f.mono aR) bo) (aJ ?_);try simp (maxSteps:=9^9) only[*,go_sem]
 refine ax fun dT ea D=>?_;have br:=aP.cons D bc;try simp only[au] at D
 try simp (maxSteps:=9^9) only[*,go_sem]
 refine a.go ?_;clear a K;refine af hJ (en hJ fun K a=>?_);revert h;refine bS fun bs bz h=>?_;try simp (maxSteps:=9^9) only[*,go_sem]
 refine bg hJ _ (AO (d.mono aR) c (b.mono aR) bz) (aJ ?_);try simp (maxSteps:=9^9) only[*,go_sem]
 refine ax fun eb ec E=>?_;have b0:=aP.cons E br;try simp only[au] at E
 refine ax fun ed eh F=>?_;have et:=aP.cons F b0;try simp only[au] at F
 try simp (maxSteps:=9^9) only[*,go_sem]
 refine a.go ?_;clear a K;show Wp _ _ _ _ _;exact cF hJ (Le.sub (.cons₂ _ (.cons₂ _ (.cons₂ _ (.cons₂ _ (.cons _ (.cons₂ _ (List.Sublist.refl _)))))))) (KI hJ c i j a2 a4 a6 a8 ba bm bs d n b (by simp (maxSteps:=9^9) only[*,go_sem]) h)
set_option maxHeartbeats 40000000 in
theorem KL {Φ:Goroutine->aa->Prop}(hJ:Closed Tryz.prog true (dX Tryz.prog Φ)){A:Act}{ro:Addr->Option Value}(b:ak)(n:ak)(i:(an×Int))(c:(Int×an×Int))(j:(an×Int))(d:(an×Bool×Int))(f:(an×Bool×Int))(g:(an×Bool×Int)){q s t u w y z B:Nat}(m:de ro){C D E G:Value}(p:bJ ro n C D E G){H I J L:Value}(k:bJ ro b H I J L)(T:sz A=439/\A.defers=[]/\slot A 0= .bool false/\slot A 1= .pointer (some ⟨B,0,none⟩)/\slot A 2= .pointer (some ⟨z,0,none⟩)/\slot A 3= .pointer (some ⟨y,0,none⟩)/\slot A 4= .int .i64 i.2/\slot A 5= .int .i64 c.1/\slot A 6= .pointer (some ⟨w,0,none⟩)/\slot A 7= .int .i64 c.2.2/\slot A 8= .pointer (some ⟨u,0,none⟩)/\slot A 9= .int .i64 j.2/\slot A 10= .pointer (some ⟨t,0,none⟩)/\slot A 11= .bool d.2.1/\slot A 12= .int .i64 d.2.2/\slot A 13= .pointer (some ⟨s,0,none⟩)/\slot A 14= .bool f.2.1/\slot A 15= .int .i64 f.2.2/\slot A 16= .pointer (some ⟨q,0,none⟩)/\slot A 17= .bool g.2.1/\slot A 18= .int .i64 g.2.2)(h:yA b n i c j d f g=some true):Wp (dX Tryz.prog Φ) (bC (bC (bC (bC (bC (bC (bC (bC (bC (Tryz.f13.body.getD .skip)))))))))) (iN Tryz.prog [.tmp 0] (fun v _=>v= .bool true)) A ⟨ro,(q,rt g.1.num g.1.den)::(s,rt f.1.num f.1.den)::(t,rt d.1.num d.1.den)::(u,rt j.1.num j.1.den)::(w,rt c.2.1.num c.2.1.den)::(y,rt i.1.num i.1.den)::(z,bk n C D E G)::(B,bk b H I J L)::[]⟩:=by
 obtain ⟨U,hd,V,k1,W,X,Y,Z,ab,ad,ae,al,ao,ar,a0,a2,a3,a4,a5,a6,a7⟩:=T;unfold yA at h;have a8:=p.oc;simp only[bH] at a8;have a9:=k.oc;simp only[bH] at a9;refine fZ hJ fun O ba=>?_;have bb:=O.nd;try simp only[keys,List.map_cons,List.map_nil,List.map_append,List.cons_append,List.nil_append,List.nodup_cons,List.mem_cons,List.mem_append,List.not_mem_nil,or_false,not_or] at bb
 simp only[bu] at ba;refine af hJ (en hJ fun K a=>?_);revert h;refine bS fun bc bd h=>?_;try simp (maxSteps:=9^9) only[*,go_sem]
 refine bg hJ _ (GU (m.mono aR) b (k.mono aR) bd) (aJ ?_);try simp (maxSteps:=9^9) only[*,go_sem]
 refine a.go ?_;clear a K;refine af hJ (en hJ fun K a=>?_);revert h;refine bS fun P bj h=>?_;try simp (maxSteps:=9^9) only[*,go_sem]
 refine b8 hJ _ (wM m b k 0 bj) fun v bl M bm bo=>?_;obtain ⟨e1,rfl,N⟩:=bo;have br:=N.oc;simp only[bH] at br;replace k:=k.mono M;replace p:=p.mono M;replace m:=m.mono M;simp only[bu] at bm;refine aJ ?_;try simp (maxSteps:=9^9) only[*,go_sem]
 refine a.go ?_;clear a K;refine af hJ (en hJ fun K a=>?_);revert h;refine bS fun o bs h=>?_;try simp (maxSteps:=9^9) only[*,go_sem]
 refine bg hJ _ (GP (m.mono aR) b (k.mono aR) 0 bs) (aJ ?_);try simp (maxSteps:=9^9) only[*,go_sem]
 refine ax fun bz e2 Q=>?_;have b0:=aP.cons Q O;try simp only[au] at Q
 refine ax fun b1 e3 R=>?_;have fa:=aP.cons R b0;try simp only[au] at R
 try simp (maxSteps:=9^9) only[*,go_sem]
 refine a.go ?_;clear a K;refine af hJ (af hJ (en hJ fun K a=>?_));revert h;refine cS (fun b2 h=>?_) fun b2 h=>?_
 ·cases h
 revert h;refine cS (fun b3 h=>?_) fun b3 h=>?_
 ·cases h
 revert h;refine cS (fun b4 h=>?_) fun b4 h=>?_
 ·cases h
 revert h;refine cS (fun b5 h=>?_) fun b5 h=>?_
 ·cases h
 revert h;refine cS (fun ca h=>?_) fun ca h=>?_
 ·cases h
 revert h;refine cS (fun cb h=>?_) fun cb h=>?_
 ·cases h
 revert h;refine cS (fun cd h=>?_) fun cd h=>?_
 ·cases h
 revert h;refine cS (fun cf h=>?_) fun cf h=>?_
 ·cases h
 try simp (maxSteps:=9^9) only[*,go_sem]
 revert h;refine cS (fun cl h=>?_) fun cl h=>?_
 ·cases h
 refine a.go ?_;clear a K;refine bL hJ (by simp (maxSteps:=9^9) only[*,go_sem]) ?_;refine aI hJ (af hJ ?_);refine af hJ ?_;refine eV [0,1,2,3,4,5,6,7,8,9,10,11,12,13,14,15,16,17,18,19,20,21,22,23,24,25] fun fb cu cy c0=>?_;simp only[*,go_sem] at cu cy c0;clear U hd V k1 W X Y Z ab ad ae al ao ar a0 a2 a3 a4 a5 a6 a7;refine aA hJ fun da=>?_;refine j5 hJ mixed [] (.rd 0 (.rd 1 (.pure 2 (.pure 3 (.pure 4 (.pure 5 (.pure 6 (.pure 7 (.rd 8 (.rd 9 (.pure 10 (.pure 11 (.pure 12 (.rd 13 (.rd 14 (.pure 15 (.pure 16 (.pure 17 (.rd 18 (.rd 19 (.pure 20 (.pure 21 (.pure 22 (.pure 23 (.pure 24 (.pure 25 (.pure 26 (.rd 27 (.rd 28 (.pure 29 (.pure 30 (.pure 31 (.pure 32 (.pure 33 (.pure 34 (.rd 35 (.rd 36 (.pure 37 (.pure 38 (.pure 39 (.pure 40 (.pure 41 (.pure 42 (.pure 43 (.pure 44 (.pure 45 (.pure 46 (.pure 47 (.pure 48 (.one 49 (.one 50 (.pure 51 (.pure 52 (.pure 53 (.rd 54 (.rd 55 (.pure 56 (.pure 57 (.pure 58 (.rd 59 (.rd 60 (.pure 61 (.pure 62 .done))))))))))))))))))))))))))))))))))))))))))))))))))))))))))))))) ⟨bl,[(b1,rt o.2.1.num o.2.1.den),(bz,rt o.1.num o.1.den),(q,rt g.1.num g.1.den),(s,rt f.1.num f.1.den),(t,rt d.1.num d.1.den),(u,rt j.1.num j.1.den),(w,rt c.2.1.num c.2.1.den),(y,rt i.1.num i.1.den),(z,bk n C D E G),(B,bk b H I J L)]⟩ (by simp (maxSteps:=9^9) only[*,go_sem]) (by kernel_rfl) fun K a=>?_;revert h;refine bS fun fg db h=>?_;try simp (maxSteps:=9^9) only[*,go_sem]
 refine ⟨_,bD hJ fun F l=>gE 13 4 db,bX ?_⟩;revert h;refine cS (fun dd h=>?_) fun dd h=>?_
 ·cases h
 revert h;refine cS (fun df h=>?_) fun df h=>?_
 ·cases h
 revert h;refine bS fun fi dk h=>?_;try simp (maxSteps:=9^9) only[*,go_sem]
 refine ⟨_,bD hJ fun F l=>gE 11 8 dk,bX ?_⟩;revert h;refine cS (fun dp h=>?_) fun dp h=>?_
 ·cases h
 revert h;refine bS fun fo dq h=>?_;try simp (maxSteps:=9^9) only[*,go_sem]
 refine ⟨_,bD hJ fun F l=>gE 1 4 dq,bX ?_⟩;revert h;refine cS (fun ds h=>?_) fun ds h=>?_
 ·cases h
 revert h;refine bS fun fp dt h=>?_;try simp (maxSteps:=9^9) only[*,go_sem]
 refine ⟨_,bD hJ fun F l=>gE 24 13 dt,bX ?_⟩;revert h;refine cS (fun du h=>?_) fun du h=>?_
 ·cases h
 revert h;refine cS (fun dv h=>?_) fun dv h=>?_
 ·cases h
 revert h;refine bS fun fr dC h=>?_;try simp (maxSteps:=9^9) only[*,go_sem]
 refine ⟨_,bD hJ fun F l=>gE 2 13 dC,bX ?_⟩;revert h;refine cS (fun dE h=>?_) fun dE h=>?_
 ·cases h
 revert h;refine cS (fun dT h=>?_) fun dT h=>?_
 ·cases h
 revert h;refine bS fun fs ea h=>?_;try simp (maxSteps:=9^9) only[*,go_sem]
 refine ⟨_,bD hJ fun F l=>gE 1 1 ea,bX ?_⟩;revert h;refine cS (fun eb h=>?_) fun eb h=>?_
 ·cases h
 revert h;refine cS (fun ec h=>?_) fun ec h=>?_
 ·cases h
 revert h;refine cS (fun ed h=>?_) fun ed h=>?_
 ·cases h
 revert h;refine bS fun ft eh h=>?_;try simp (maxSteps:=9^9) only[*,go_sem]
 refine ax fun fu et S=>?_;have fv:=aP.cons S da;try simp only[au] at S
 try simp (maxSteps:=9^9) only[*,go_sem]
 refine bg hJ _ (pP P.1 (N.mono aR) ([10,11,12]) ((aB.flat (r:=rI) (e:=3) (cs:=#[.int .i64 10,.int .i64 11,.int .i64 12]) (fun x=>[.int .i64 x]) ([10,11,12]) (fun _=>rfl) et rfl (by simp)).mono (jX (by simp (maxSteps:=9^9) only[*,go_sem]))) eh) ⟨by simp (maxSteps:=9^9) only[*,go_sem],bX ?_⟩;revert h;refine cS (fun eu h=>?_) fun eu h=>?_
 ·cases h
 revert h;refine bS fun fw ev h=>?_;try simp (maxSteps:=9^9) only[*,go_sem]
 refine ⟨_,bD hJ fun F l=>gE 1 4 ev,bX ?_⟩;revert h;refine cS (fun eQ h=>?_) fun eQ h=>?_
 ·cases h
 revert h;refine bS fun fx eS h=>?_;try simp (maxSteps:=9^9) only[*,go_sem]
 refine ⟨_,bD hJ fun F l=>gE 1 1 eS,bX ?_⟩;try simp (maxSteps:=9^9) only[*,go_sem]
 revert h;refine cS (fun e0 h=>?_) fun e0 h=>?_
 ·cases h
 refine a.go ?_;clear a K;refine bL hJ (by simp (maxSteps:=9^9) only[*,go_sem]) ?_;refine aI hJ ?_;show Wp _ _ _ _ _;exact cF hJ (Le.sub (.cons _ (.cons _ (.cons _ (.cons _ (.cons _ (.cons _ (.cons _ (.cons _ (.cons _ (.cons₂ _ (.cons₂ _ (List.Sublist.refl _))))))))))))) (KJ hJ b n i c j d f g bc P o m N p k (by simp (maxSteps:=9^9) only[*,go_sem]) h)
set_option maxHeartbeats 40000000 in
theorem KM {ro:Addr->Option Value}(d:de ro){r:Bool}(I:r=true)(h:mY=some r):fG Tryz.prog 13 #[] ⟨ro,[]⟩ (fun v _=>v= .bool r):=by
 subst I;unfold mY at h;refine fG.go Tryz.func13 rfl Tryz.ntmps13 Tryz.results13 (by simp) fun Φ hJ A J hd hs=>?_;clear hs;refine af hJ (en hJ fun K a=>?_);try simp (maxSteps:=9^9) only[*,go_sem]
 refine a.go ?_;clear a K;refine af hJ (en hJ fun K a=>?_);revert h;refine bS fun g L h=>?_;try simp (maxSteps:=9^9) only[*,go_sem]
 refine b8 hJ _ (G0 L) fun v n M b5 k=>?_;obtain ⟨N,O,P,Q,rfl,f⟩:=k;have R:=f.oc;simp only[bH] at R;replace d:=d.mono M;refine aJ ?_;try simp (maxSteps:=9^9) only[*,go_sem]
 refine ax fun S T U=>?_;try simp only[au] at U
 try simp (maxSteps:=9^9) only[*,go_sem]
 refine a.go ?_;clear a K;refine af hJ ?_;refine aA hJ fun V=>?_;refine en hJ fun K a=>?_;revert h;refine bS fun l W h=>?_;try simp (maxSteps:=9^9) only[*,go_sem]
 refine ax fun i p q=>?_;have s:=aP.cons q V;try simp only[au] at q
 try simp (maxSteps:=9^9) only[*,go_sem]
 obtain ⟨m,t,u⟩:=fP (b:=i) (o:=(ic 11)) [] ((S,bk g N O P Q)::[]) s p (aD.cons T (aD.nil _));have w:aB rI (bR n i (ic 11)) (.slice (some ⟨i,0,none⟩) 1 1) [11]:=(aB.flat (r:=rI) (e:=3) (cs:=#[.int .i64 11]) (fun x=>[.int .i64 x]) ([11]) (fun _=>rfl) p rfl (by simp))
 generalize bR n i (ic 11)=ca at w t m u;refine gO hJ u ?_;replace f:=f.mono m;replace d:=d.mono m;simp only[bu] at t;have X:=aP.tl s;refine b8 hJ _ (GZ g f ([11]) w 2 W) fun v cb y Y k=>?_;obtain ⟨cd,cf,cl,cu,rfl,j⟩:=k;have Z:=j.oc;simp only[bH] at Z;replace f:=f.mono y;replace d:=d.mono y;simp only[bu] at Y;refine aJ ?_;try simp (maxSteps:=9^9) only[*,go_sem]
 refine ax fun cy cS z=>?_;have ab:=aP.cons z X;try simp only[au] at z
 try simp (maxSteps:=9^9) only[*,go_sem]
 refine a.go ?_;clear a K;refine af hJ (en hJ fun K a=>?_);revert h;refine bS fun ad ae h=>?_;try simp (maxSteps:=9^9) only[*,go_sem]
 refine bg hJ _ (Gd (d.mono aR) g (f.mono aR) 5 ae) (aJ ?_);try simp (maxSteps:=9^9) only[*,go_sem]
 refine ax fun c0 da B=>?_;have al:=aP.cons B ab;try simp only[au] at B
 try simp (maxSteps:=9^9) only[*,go_sem]
 refine a.go ?_;clear a K;refine af hJ ?_;refine pz hJ mixed 7 3 (by simp (maxSteps:=9^9) only[*,go_sem]) (by kernel_rfl) fun K a=>?_;revert h;refine bS fun ao ar h=>?_;try simp (maxSteps:=9^9) only[*,go_sem]
 refine ⟨_,bD hJ fun F c=>p7 2 11 ar,bZ ?_⟩;revert h;refine bS fun a0 a2 h=>?_;try simp (maxSteps:=9^9) only[*,go_sem]
 refine ⟨_,bD hJ fun F c=>Ge (d.mono (cg c)) g (f.mono (cg c)) ao a2,bZ ?_⟩;try simp (maxSteps:=9^9) only[*,go_sem]
 refine ax fun db dd C=>?_;have a3:=aP.cons C al;try simp only[au] at C
 try simp (maxSteps:=9^9) only[*,go_sem]
 refine a.go ?_;clear a K;refine af hJ ?_;refine pz hJ mixed 6 4 (by simp (maxSteps:=9^9) only[*,go_sem]) (by kernel_rfl) fun K a=>?_;revert h;refine bS fun a4 a5 h=>?_;try simp (maxSteps:=9^9) only[*,go_sem]
 refine ⟨_,bD hJ fun F c=>p7 2 10 a5,bZ ?_⟩;revert h;refine bS fun a6 a7 h=>?_;try simp (maxSteps:=9^9) only[*,go_sem]
 refine ⟨_,bD hJ fun F c=>Gf (d.mono (cg c)) g (f.mono (cg c)) a4 a7,bZ ?_⟩;try simp (maxSteps:=9^9) only[*,go_sem]
 refine ax fun df dk D=>?_;have a8:=aP.cons D a3;try simp only[au] at D
 try simp (maxSteps:=9^9) only[*,go_sem]
 refine a.go ?_;clear a K;refine af hJ ?_;refine eV [0,1,2,3,4,5,6,7,8,9] fun dp a9 ba bb=>?_;simp only[*,go_sem] at a9 ba bb;clear J hd;refine pz hJ mixed 7 5 (by simp (maxSteps:=9^9) only[*,go_sem]) (by kernel_rfl) fun K a=>?_;revert h;refine bS fun bc bd h=>?_;try simp (maxSteps:=9^9) only[*,go_sem]
 refine ⟨_,bD hJ fun F c=>p7 2 12 bd,bZ ?_⟩;revert h;refine bS fun bj bl h=>?_;try simp (maxSteps:=9^9) only[*,go_sem]
 refine ⟨_,bD hJ fun F c=>Gg (d.mono (cg c)) l (j.mono (cg c)) bc bl,bZ ?_⟩;try simp (maxSteps:=9^9) only[*,go_sem]
 refine ax fun dq ds E=>?_;have bm:=aP.cons E a8;try simp only[au] at E
 try simp (maxSteps:=9^9) only[*,go_sem]
 refine a.go ?_;clear a K;refine af hJ ?_;refine pz hJ mixed 7 6 (by simp (maxSteps:=9^9) only[*,go_sem]) (by kernel_rfl) fun K a=>?_;revert h;refine bS fun bo br h=>?_;try simp (maxSteps:=9^9) only[*,go_sem]
 refine ⟨_,bD hJ fun F c=>p7 2 12 br,bZ ?_⟩;revert h;refine bS fun bs bz h=>?_;try simp (maxSteps:=9^9) only[*,go_sem]
 refine ⟨_,bD hJ fun F c=>AA (d.mono (cg c)) l (j.mono (cg c)) bo bz,bZ ?_⟩;try simp (maxSteps:=9^9) only[*,go_sem]
 refine ax fun dt du G=>?_;have b0:=aP.cons G bm;try simp only[au] at G
 try simp (maxSteps:=9^9) only[*,go_sem]
 refine a.go ?_;clear a K;refine af hJ ?_;refine pz hJ mixed 7 7 (by simp (maxSteps:=9^9) only[*,go_sem]) (by kernel_rfl) fun K a=>?_;revert h;refine bS fun b1 b2 h=>?_;try simp (maxSteps:=9^9) only[*,go_sem]
 refine ⟨_,bD hJ fun F c=>p7 2 12 b2,bZ ?_⟩;revert h;refine bS fun b3 b4 h=>?_;try simp (maxSteps:=9^9) only[*,go_sem]
 refine ⟨_,bD hJ fun F c=>AA (d.mono (cg c)) g (f.mono (cg c)) b1 b4,bZ ?_⟩;try simp (maxSteps:=9^9) only[*,go_sem]
 refine ax fun dv dC H=>?_;have dE:=aP.cons H b0;try simp only[au] at H
 try simp (maxSteps:=9^9) only[*,go_sem]
 refine a.go ?_;clear a K;show Wp _ _ _ _ _;exact cF hJ (Le.sub (.cons₂ _ (.cons₂ _ (.cons₂ _ (.cons₂ _ (.cons₂ _ (.cons₂ _ (.cons₂ _ (.cons₂ _ (List.Sublist.refl _)))))))))) (KL hJ g l ad a0 a6 bj bs b3 d j f (by simp (maxSteps:=9^9) only[*,go_sem]) h)
theorem yB {ro:Addr->Option Value}(a:de ro){r:Bool}(h:mY=some r):fG Tryz.prog 13 #[] ⟨ro,[]⟩ (fun v _=>v= .bool r):=
 KM a (Option.some.inj (h.symm.trans tN)) h
end Go.Proofs.YtpgcmoanfifglaaGreatDoor
end
section
namespace Go.Proofs.YtpgcmoanfifglaaGreatDoor
open Go Go.Sep Go.Proofs
def tO (u0:ak)(d:Int):Option Bool:=
 ag (nW (⟨u0.bE,u0.bI,u0.aN,u0.ay,u0.props,u0.aE,([]:(List bO))⟩:ak)) fun e=>cond (!e) (ag (mY) fun f=>some f) (ag (jG (⟨u0.bE,u0.bI,u0.aN,u0.ay,u0.props,u0.aE,([]:(List bO))⟩:ak)) fun a=>ag (iS (IntKind.i64.wrap d) 61) fun c=>ag (sJ (⟨u0.bE,u0.bI,u0.aN,u0.ay,u0.props,u0.aE,([]:(List bO))⟩:ak) c) fun g=>ag (iu g) fun b=>cond ((a.2.2.2 != 0)) (some false) (cond ((b.2 != 0)) (some false) (cond (a.2.2.1) (ag (nZ a.1) fun h=>cond (!h) (some false) (ag (nZ a.2.1) fun i=>cond (!i) (some false) (ag (gA a.2.1 a.1) fun j=>cond (j) (some false) (ag (fK c 1) fun k=>ag (qb k a.1 a.2.1) fun l=>cond (((b.1==1)==l)) (ag (mY) fun m=>some m) (some false))))) (cond (!((a.1.num==0)&&(a.1.den==0))) (some false) (cond (!((a.2.1.num==0)&&(a.2.1.den==0))) (some false) (cond (((b.1==1)==false)) (ag (mY) fun n=>some n) (some false)))))))
end Go.Proofs.YtpgcmoanfifglaaGreatDoor
end
section
namespace Go.Proofs.YtpgcmoanfifglaaGreatDoor
open Go Go.Sep Go.Proofs
set_option maxRecDepth 100000
set_option maxHeartbeats 4000000
theorem KN {ro:Addr->Option Value}(b:de ro)(u0:ak){s1 k l m:Value}(a:bJ ro u0 s1 k l m)(n:Int){r:Bool}(z:r=true)(h:tO u0 n=some r):l7 Tryz.prog 5 #[bv u0 s1 k l m,.int .u8 n] ⟨ro,[]⟩ (fun v _=>v= .bool r):=by
 obtain ⟨d24,a6,rfl,a7,a8,-⟩:=id a.t;subst z;unfold tO at h;refine l7.go Tryz.func5 rfl Tryz.ntmps5 Tryz.results5 (by simp) (by kernel_rfl) fun Φ hJ A B hd hs=>?_;have C:=hs 0;have k1:=hs 1;clear hs;refine ah hJ ?_;simp only[*,go_sem];refine ax fun a9 ba D=>?_;try simp only[au] at D
 try simp only[*,go_sem]
 refine ah hJ ?_;simp only[*,go_sem];refine af hJ (ah hJ ?_);revert h;refine bS fun bb E h=>?_;simp only[*,go_sem];refine bg hJ _ (G6 (⟨u0.bE,u0.bI,u0.aN,u0.ay,u0.props,u0.aE,([]:(List bO))⟩:ak) ⟨(a.e.mono aR),(a.p.mono aR),(a.y.mono aR),(aB.nil _ _)⟩ E) (aJ ?_);try simp only[*,go_sem]
 revert h;refine jC hJ (by simp only[*,go_sem]) (fun f h=>?_) fun f h=>?_
 ·rw[Bool.not_eq_true'] at f;refine ah hJ ?_;revert h;refine bS fun bc G h=>?_;obtain rfl:=sI h;simp only[*,go_sem];refine uW _ (yB b G) (aJ ?_);try simp only[*,go_sem]
  refine az ?_;simp only[*,go_sem]
 rw[Bool.not_eq_false'] at f;refine aI hJ (af hJ ?_);refine aj hJ ?_;revert h;refine bS fun c H h=>?_;simp only[*,go_sem];refine bg hJ _ (AO (b.mono aR) (⟨u0.bE,u0.bI,u0.aN,u0.ay,u0.props,u0.aE,([]:(List bO))⟩:ak) ⟨(a.e.mono aR),(a.p.mono aR),(a.y.mono aR),(aB.nil _ _)⟩ H) (aJ ?_);try simp only[*,go_sem]
 refine ax fun bd bj I=>?_;try simp only[au] at I
 refine ax fun bk bl J=>?_;try simp only[au] at J
 try simp only[*,go_sem]
 refine ah hJ ?_;revert h;refine bS fun o q h=>?_;obtain ⟨bm,bo⟩:=q4 q;clear q;try simp only[*,go_sem]
 refine ah hJ ?_;revert h;refine bS fun K L h=>?_;simp only[*,go_sem];refine b8 hJ _ (G8 (⟨u0.bE,u0.bI,u0.aN,u0.ay,u0.props,u0.aE,([]:(List bO))⟩:ak) ⟨a.e,a.p,a.y,(aB.nil _ _)⟩ o L) fun v br M N O=>?_;obtain ⟨bs,bz,b0,b1,rfl,d⟩:=O;replace b:=b.mono M;simp only[bu] at N;obtain ⟨d48,b2,rfl,b3,b4,-⟩:=id d.e;obtain ⟨d55,b5,rfl,ca,cb,-⟩:=id d.p;obtain ⟨d62,cd,rfl,cf,cl,-⟩:=id d.y;obtain ⟨d69,cu,rfl,cy,c0,-⟩:=id d.t;refine aJ ?_;revert h;refine bS fun da P h=>?_;try simp only[*,go_sem]
 refine bg hJ _ (pZ (b.mono aR) K (d.mono aR) P) (aJ ?_);try simp only[*,go_sem]
 refine af hJ (af hJ ?_);refine eV [4,5,6,7,8,9,10,11] fun db g i j=>?_;simp only[*,go_sem] at g i j;clear B hd C k1;refine aj hJ ?_;revert h;refine cS (fun Q h=>?_) fun Q h=>?_
 ·cases h
 revert h;refine cS (fun R h=>?_) fun R h=>?_
 ·cases h
 revert h;refine cS (fun S h=>?_) fun S h=>?_
 ·revert h;refine bS fun dd T h=>?_;try simp only[*,go_sem]
  refine bg hJ _ (AX c.1 T) (aJ ?_);revert h;refine cS (fun s h=>?_) fun s h=>?_
  ·cases h
  rw[Bool.not_eq_false'] at s;revert h;refine bS fun df U h=>?_;try simp only[*,go_sem]
  refine bg hJ _ (AX c.2.1 U) (aJ ?_);revert h;refine cS (fun u h=>?_) fun u h=>?_
  ·cases h
  rw[Bool.not_eq_false'] at u;revert h;refine bS fun dk V h=>?_;try simp only[*,go_sem]
  refine bg hJ _ (wS c.2.1 c.1 V) (aJ ?_);revert h;refine cS (fun W h=>?_) fun W h=>?_
  ·cases h
  try simp only[*,go_sem]
  refine bL hJ (by simp only[*,go_sem]) ?_;refine aI hJ (af hJ ?_);refine eV [4,5,6,7,9,10] fun dp X Y Z=>?_;simp only[*,go_sem] at X Y Z;clear g i j;refine cR hJ mixed 12 3 (by simp only[*,go_sem]) (by kernel_rfl) ?_;revert h;refine bS fun ab ad h=>?_;simp only[*,go_sem];refine ⟨_,bD hJ fun F ae=>gE o 1 ad,bZ ?_⟩;revert h;refine bS fun dq al h=>?_;try simp only[*,go_sem]
  refine ⟨_,bD hJ fun F ae=>G7 ab c.1 c.2.1 al,bZ ?_⟩;revert h;refine cS (fun ao h=>?_) fun ao h=>?_
  ·revert h;refine bS fun ds ar h=>?_;obtain rfl:=sI h;(try simp only[*,go_sem]);refine uW _ (yB b ar) ⟨by simp only[*,go_sem],jT ?_⟩;(try simp only[*,go_sem]);refine az ?_;simp only[*,go_sem]
  cases h
 revert h;refine cS (fun w h=>?_) fun w h=>?_
 ·cases h
 rw[Bool.not_eq_false'] at w;try simp only[*,go_sem]
 revert h;refine jC hJ (by simp only[*,go_sem]) (fun x h=>?_) fun x h=>?_
 ·cases h
 rw[Bool.not_eq_false'] at x;refine aI hJ (af hJ ?_);refine eV [4,5,6,7,9,10] fun dt a0 a2 a3=>?_;simp only[*,go_sem] at a0 a2 a3;clear g i j;refine cR hJ mixed 12 3 (by simp only[*,go_sem]) (by kernel_rfl) ?_;revert h;refine cS (fun a4 h=>?_) fun a4 h=>?_
 ·revert h;refine bS fun du a5 h=>?_;obtain rfl:=sI h;try simp only[*,go_sem]
  refine uW _ (yB b a5) ⟨by simp only[*,go_sem],jT ?_⟩;try simp only[*,go_sem]
  refine az ?_;simp only[*,go_sem]
 cases h
theorem KO {u:ak}(h:mE u=some false):xB u:=by
 unfold mE at h;rcases iR h with ⟨a,h⟩|⟨a,h⟩
 ·cases h
 rcases iR h with ⟨b,h⟩|⟨b,h⟩
 ·cases h
 rcases iR h with ⟨c,h⟩|⟨c,h⟩
 ·cases h
 have d:=Option.some.inj h;simp only[decide_eq_false_iff_not] at a b c d;exact ⟨by omega,by omega,by omega,by omega⟩
theorem KP (u:ak):∃b,mE u=some b:=by
 unfold mE;cases decide (20<(u.ay.length:Int))<;>cases decide (20<(u.props.length:Int))<;>cases decide (20<(u.aE.length:Int))<;>exact ⟨_,rfl⟩
theorem KQ (u:ak):nW u=some false\/(nW u=some true/\xB u/\eX u=some 0/\Fit u):=by
 unfold nW;obtain ⟨b,hb⟩:=KP u;rw[hb];cases b with
 |true=>exact .inl rfl
 |false=>
  have L:=KO hb;obtain ⟨c,h1,a⟩:=bars L;simp only[ag,Bool.not_false,cond_true,a];cases d:(c==0) with
  |false=>exact .inl rfl
  |true=>
   have e:c=0:=by simpa using d
   subst e;exact .inr ⟨rfl,L,h1,Hp u L.e h1⟩
theorem KR {a b:Int}(hb:0<b):iS a b=some (a.tmod b):=by
 unfold iS;rw[if_neg (by omega)]
theorem KS {a b:Int}(c:0<=a)(hb:0<b):0<=a.tmod b/\a.tmod b<b:=⟨Int.tmod_nonneg _ c,Int.tmod_lt_of_pos _ hb⟩
theorem Db {x:an}(hs:Sm x 1000000000 1048575)(a:∃n d,0<d/\x=bB n d):nZ x=some true:=by
 obtain ⟨n,d,hd,e⟩:=a;have h1:=hs.num;have b:=hs.den;have k:gD x.num x.den=some x:=by
  have:=n4 x.num x.den.toNat (by omega) (by omega) (by omega);rw[show ((x.den.toNat:Nat):Int)=x.den by omega] at this;rw[this,e,HG n d hd]
 unfold nZ;rw[decide_eq_true b.1,decide_eq_true (show x.den<1048576 by omega),eY,xH (by omega) (by omega),k];simp only[cond_true,ag,beq_self_eq_true,Bool.and_self]
theorem yC {a b:an}{A B C D:Nat}(c:Sm a A B)(hb:Sm b C D):Sm (cH a b) (A*D+C*B) (B*D)/\∃n d,0<d/\cH a b=bB n d:=by
 have h1:=dy c.num (show b.den.natAbs<=D by have:=hb.den;omega);have e:=dy hb.num (show a.den.natAbs<=B by have:=c.den;omega);have f:=dy (show a.den.natAbs<=B by have:=c.den;omega) (show b.den.natAbs<=D by have:=hb.den;omega);have g:0<a.den*b.den:=Int.mul_pos c.den.1 hb.den.1;have:=je (a.num*b.den - b.num*a.den) (a.den*b.den).toNat (by omega);refine ⟨?_,_,_,by omega,rfl⟩;unfold cH;exact ⟨Nat.le_trans this.num (by omega),this.den.1,by have:=this.den.2;omega⟩
section
variable {u : ak} {s : aU} (F : Fit u) (hs : (1 ≤ s.back ∧ s.back ≤ 20) ∧ 0 ≤ s.high ∧ s.high ≤ 60)
include F hs
theorem qC:Sm (cD u s).2 10000 100/\∃n d,0<d/\(cD u s).2=bB n d:=by
 obtain ⟨n,p,e,a,-⟩:=HF F hs;have b:=F.kz n p a;rw[e];exact ⟨Bf u F s hs n p a,_,_,by omega,rfl⟩
end
abbrev Lw (x:an):Prop:=∃n d,0<d/\x=bB n d
theorem Lw.more {a b:an}(c:Lw a)(hb:Lw b):Lw (cp a b):=by
 unfold cp;cases bh a b;exact c;exact hb
section
variable {u : ak} {s : aU} (F : Fit u) (hs : (1 ≤ s.back ∧ s.back ≤ 20) ∧ 0 ≤ s.high ∧ s.high ≤ 60)
include F hs
theorem Dc:Sm u.aN 20 20:=⟨by have:=F.num;omega,by have:=F.den;omega,by have:=F.den;omega⟩
end
theorem KT {x p q:an}{A B:Nat}(b:Sm x A B)(c:Sm p A B)(d:Sm q A B)(a:A*B<=9000000000000000000):qb x p q=some (!bh x p&&!bh q x):=by
 have h1:=(kA b c a a).1;have e:=(kA d b a a).1;unfold qb;simp only[decide_eq_true b.den.1,decide_eq_true c.den.1,decide_eq_true d.den.1,cond_true,h1,e,ag];unfold bh;cases decide (x.num*p.den<p.num*x.den)<;>rfl
def gH (a b:an):an:=cond (bh b a) b a
section
variable {u : ak} (F : Fit u) (h : eX u = some 0) {i : Nat} {e : bY} (he : u.aE[i]? = some e)
include F h he
theorem KU:fJ u [eG (i:Int)]=some (u,0):=by
 have hi:i<u.aE.length:=(List.getElem?_eq_some_iff.1 he).1;rw[Hs h (H8 u i),(H9 F).2 ⟨by omega,by omega⟩];rfl
theorem Dd:lq u (i:Int)=some (if (bQ u).isEmpty then ([],9) else (dN u i e,0)):=by
 unfold lq;rw[s8 F (KU F h he)];cases hs:(bQ u).isEmpty with
 |true=>rfl
 |false=>
  simp only[ag,Bool.false_eq_true,if_false,bne_self_eq_false,cond_false];rw[Cb F (by intro c;rw[c] at hs;cases hs) he]
omit h in
theorem oC {n:Int}(a:n∈dN u i e):(1<=e.back/\e.back<=20)/\0<=n/\n<=60:=by
 obtain ⟨c1,c2,c3,c4,b⟩:=F.aW _ _ he;have:=BK.1 (List.mem_filter.1 a).1;exact ⟨c1,by omega,by omega⟩
end
abbrev Bd (s:aU):Prop:=(1<=s.back/\s.back<=20)/\0<=s.high/\s.high<=60
section
variable {u : ak} (F : Fit u)
include F
omit F in
theorem oD {i:Nat}{e:bY}(he:u.aE[i]?=some e)(n:Int):eO u i n=⟨e.back,n⟩:=by unfold eO;rw[he];rfl
def oE (u:ak)(k:Nat)(i:Nat)(m:Int):Prop:=i<k/\∃e,u.aE[i]?=some e/\m∈dN u i e
omit F in
theorem yD {α:Type}{l:List α}{j:Nat}{x y:α}(h:l[j]?=some x):y∈l.take (j+1)↔y∈l.take j\/y=x:=by
 rw[List.take_add_one,h];simp
end
theorem KV (l:List aU)(x:aU):pQ l x=some (l.any fun y=>x.back==y.back&&x.high==y.high):=by
 unfold pQ rU
 rw[s4 (t:=fun i y=>if (x.back==y.back&&x.high==y.high) then some (i:Int) else none) l 0 0 fun j y s b=>by
  unfold rT
  cases (x.back==y.back&&x.high==y.high)<;>rfl]
 obtain ⟨r,h1,a⟩:=xq (g:=fun y=>x.back==y.back&&x.high==y.high) l 0;rw[h1,<-a];cases r with
 |none=>rfl
 |some n=>simp[ag,aG,lA]
theorem KW (l:List aU)(x:aU):(l.any fun y=>x.back==y.back&&x.high==y.high)=true↔x∈l:=by
 rw[List.any_eq_true];constructor
 ·rintro ⟨y,a,e⟩;simp only[Bool.and_eq_true,beq_iff_eq] at e;obtain ⟨e1,e2⟩:=e;cases x;cases y;simp only at e1 e2;subst e1;subst e2;exact a
 ·exact fun h=>⟨x,h,by simp⟩
def Sg (u:ak)(D:Nat->Int->Prop)(m:Nat)(l:List aU):Prop:=l.length<=m/\∀s,s∈l↔∃i n,D i n/\s=eO u i n
section
variable {u : ak} (F : Fit u) (aF : bQ u ≠ [])
theorem De {D E:Nat->Int->Prop}{m k:Nat}{l:List aU}(h:∀i m,D i m↔E i m)(a:m<=k)(W:Sg u D m l):Sg u E k l:=by
 have:D=E:=by funext i m;exact propext (h i m)
 rw[<-this];exact ⟨Nat.le_trans W.1 a,W.2⟩
include F aF
theorem Df {i:Nat}{e:bY}(he:u.aE[i]?=some e):1<=(dN u i e).length/\(dN u i e).length<=3:=by
 obtain ⟨c,T,h1,a,b⟩:=xM F aF he;rw[b,List.length_map];exact B9 a
theorem KX {k:Nat}{e:bY}(he:u.aE[k]?=some e){l:List aU}(W:Sg u (oE u k) (3*k) l):
  ∃q,bF (lp ⟨u,(bQ u).map c7⟩ k) 0 (dN u k e) l=some (.nx q)/\Sg u (oE u (k+1)) (3*(k+1)) q:=by
 have w:=(Df F aF he).2
 have x:k<u.aE.length:=(List.getElem?_eq_some_iff.1 he).1
 have o:=F.aE
 have key:=iw (f:=lp ⟨u,(bQ u).map c7⟩ k) (ρ:=List aU) (g:=fun _ n (l:List aU)=>cond (!(l.any fun y=>e.back==y.back&&n==y.high)) (l++[⟨e.back,n⟩]) l)
  (I:=fun j l=>j<=3/\Sg u (fun i m=>oE u k i m\/(i=k/\m∈(dN u k e).take j)) (3*k+j) l) (dN u k e) 0 l
  ⟨by omega,De (fun i m=>by simp) (by omega) W⟩
  (fun j n l d p=>by
   have z:j<(dN u k e).length:=(List.getElem?_eq_some_iff.1 d).1
   have r:=KW l ⟨e.back,n⟩
   have t:=KV l ⟨e.back,n⟩
   have h1:=p.2.1
   rw[Nat.zero_add] at p h1 ⊢
   refine ⟨?_,by omega,?_,fun s=>?_⟩
   ·unfold lp ij
    simp only[mL he,ag,t]
    cases (l.any fun y=>e.back==y.back&&n==y.high) with
    |true=>rfl
    |false=>
     simp only[Bool.not_false,cond_true]
     unfold c6
     rw[if_pos (by simp;omega)]
   ·cases (l.any fun y=>e.back==y.back&&n==y.high)<;>simp<;>omega
   ·have key:s∈(cond (!(l.any fun y=>e.back==y.back&&n==y.high)) (l++[⟨e.back,n⟩]) l)↔s∈l\/s=⟨e.back,n⟩:=by
     cases c:(l.any fun y=>e.back==y.back&&n==y.high) with
     |true=>
      simp only[Bool.not_true,cond_false]
      have:=r.1 c
      constructor
      ·exact fun h=>.inl h
      ·rintro (h|rfl)
       ·exact h
       ·exact this
     |false=>simp
    rw[key,p.2.2 s]
    constructor
    ·rintro (⟨i,m,h,rfl⟩|rfl)
     ·refine ⟨i,m,?_,rfl⟩
      rcases h with h|⟨h,a⟩
      ·exact .inl h
      ·exact .inr ⟨h,(yD d).2 (.inl a)⟩
     ·exact ⟨k,n,.inr ⟨rfl,(yD d).2 (.inr rfl)⟩,(oD he n).symm⟩
    ·rintro ⟨i,m,h,rfl⟩
     rcases h with h|⟨rfl,a⟩
     ·exact .inl ⟨i,m,.inl h,rfl⟩
     ·rcases (yD d).1 a with a|rfl
      ·exact .inl ⟨i,m,.inr ⟨rfl,a⟩,rfl⟩
      ·exact .inr (oD he m))
 refine ⟨_,key.1,De (fun i m=>?_) (by omega) key.2.2⟩
 rw[Nat.zero_add,List.take_length]
 unfold oE
 constructor
 ·rintro (⟨h1,b⟩|⟨rfl,h⟩)
  ·exact ⟨by omega,b⟩
  ·exact ⟨by omega,e,he,h⟩
 ·rintro ⟨h1,v,b,o⟩
  by_cases c:i=k
  ·subst c
   rw[he] at b;cases b
   exact .inr ⟨rfl,o⟩
  ·exact .inl ⟨by omega,v,b,o⟩
theorem KY:∃l,nM ⟨u,(bQ u).map c7⟩=some l/\l≠[]/\l.length<=9/\∀s,s∈l↔∃i e n,u.aE[i]?=some e/\n∈dN u i e/\s=⟨e.back,n⟩:=by
 have m:=F.aE;have key:=iw (f:=p5 ⟨u,(bQ u).map c7⟩) (ρ:=List aU)
  (g:=fun i e l=>match bF (lp ⟨u,(bQ u).map c7⟩ i) 0 (dN u i e) l with|some (.nx s)=>s|_=>l)
  (I:=fun i l=>Sg u (oE u i) (3*i) l) u.aE 0 [] ⟨by simp,fun s=>⟨fun h=>by simp at h,fun ⟨i,n,h,_⟩=>absurd h.1 (by omega)⟩⟩
  (fun j e l he b=>by
   rw[Nat.zero_add] at b ⊢;obtain ⟨s1,k1,d⟩:=KX F aF he b;simp only[k1];refine ⟨?_,d⟩;unfold p5
   simp only[Cb F aF he,ag,k1,aG])
 obtain ⟨k1,d,k⟩:=key;have hm:∀s,s∈(foldI (fun i e l=>match bF (lp ⟨u,(bQ u).map c7⟩ i) 0 (dN u i e) l with|some (.nx s)=>s|_=>l) 0 u.aE [])↔∃i e n,u.aE[i]?=some e/\n∈dN u i e/\s=⟨e.back,n⟩:=fun s=>by
  rw[k s];unfold oE;constructor
  ·rintro ⟨i,n,⟨_,e,he,a⟩,rfl⟩;exact ⟨i,e,n,he,a,oD he n⟩
  ·rintro ⟨i,e,n,he,a,rfl⟩;exact ⟨i,n,⟨by have:=(List.getElem?_eq_some_iff.1 he).1;omega,e,he,a⟩,(oD he n).symm⟩
 refine ⟨_,?_,?_,by omega,hm⟩
 ·unfold nM;simp only[k1,ag,aG]
 ·have h0:u.aE[0]?=some (u.aE[0]'(by omega)):=List.getElem?_eq_getElem _;obtain ⟨f1,-⟩:=Df F aF h0;obtain ⟨n,a⟩:=List.exists_mem_of_length_pos (l:=dN u 0 (u.aE[0]'(by omega))) (by omega);intro c;have:=(hm ⟨_,n⟩).2 ⟨0,_,n,h0,a,rfl⟩;rw[c] at this;cases this
end
theorem KZ {n m a b:Nat}(h1:n=m->a=b)(e:n=0->a=0)(hm:0<m)(f:0<b):kG n m=0\/kG n m=kG a b:=by
 unfold kG;by_cases c:n=m
 ·right;rw[if_pos c,if_pos (h1 c)]
 ·rw[if_neg c];by_cases d:n=0
  ·right;rw[if_pos d,if_neg (by have:=e d;omega),if_pos (e d)]
  ·left;rw[if_neg d]
theorem Di:∀(l:List an) (i:Nat) (a:an),(∀x,x∈a::l->0<x.den)->foldI (fun _ y st=>gH st y) i l a∈a::l/\∀y,y∈a::l->bh y (foldI (fun _ y st=>gH st y) i l a)=false
 |[],i,a,h=>⟨List.mem_singleton.2 rfl,fun y d=>by rw[List.mem_singleton.1 d];exact jf _⟩
 |b::l,i,a,h=>by
  have k:=h a (by simp)
  have hb:=h b (by simp)
  unfold foldI
  have hm:gH a b=a\/gH a b=b:=by unfold gH;cases bh b a<;>simp
  have hd:0<(gH a b).den:=by rcases hm with e|e<;>rw[e]<;>assumption
  obtain ⟨h1,g⟩:=Di l (i+1) (gH a b) fun x f=>by
   rcases List.mem_cons.1 f with rfl|f
   ·exact hd
   ·exact h x (by simp[f])
  have j:0<(foldI (fun _ y st=>gH st y) (i+1) l (gH a b)).den:=by
   rcases List.mem_cons.1 h1 with e|e
   ·rw[e];exact hd
   ·exact h _ (by simp[e])
  refine ⟨?_,fun y d=>?_⟩
  ·rcases List.mem_cons.1 h1 with e|e
   ·rw[e];rcases hm with e|e<;>rw[e]<;>simp
   ·simp[e]
  ·have h0:=g _ (List.mem_cons_self ..)
   rcases List.mem_cons.1 d with rfl|d
   ·refine kC k hd j ?_ h0
    unfold gH
    cases c:bh b y
    ·exact jf _
    ·exact xj c
   rcases List.mem_cons.1 d with rfl|d
   ·refine kC hb hd j ?_ h0
    unfold gH
    cases c:bh y a
    ·exact c
    ·exact jf _
   ·exact g y (by simp[d])
theorem Dj:∀(l:List an) (i:Nat) (a:an),(∀x,x∈a::l->0<x.den)->foldI (fun _ y st=>cp st y) i l a∈a::l/\∀y,y∈a::l->bh (foldI (fun _ y st=>cp st y) i l a) y=false
 |[],i,a,h=>⟨List.mem_singleton.2 rfl,fun y d=>by rw[List.mem_singleton.1 d];exact jf _⟩
 |b::l,i,a,h=>by
  have k:=h a (by simp)
  have hb:=h b (by simp)
  unfold foldI
  have hm:cp a b=a\/cp a b=b:=by unfold cp;cases bh a b<;>simp
  have hd:0<(cp a b).den:=by rcases hm with e|e<;>rw[e]<;>assumption
  obtain ⟨h1,g⟩:=Dj l (i+1) (cp a b) fun x f=>by
   rcases List.mem_cons.1 f with rfl|f
   ·exact hd
   ·exact h x (by simp[f])
  have j:0<(foldI (fun _ y st=>cp st y) (i+1) l (cp a b)).den:=by
   rcases List.mem_cons.1 h1 with e|e
   ·rw[e];exact hd
   ·exact h _ (by simp[e])
  refine ⟨?_,fun y d=>?_⟩
  ·rcases List.mem_cons.1 h1 with e|e
   ·rw[e];rcases hm with e|e<;>rw[e]<;>simp
   ·simp[e]
  ·have h0:=g _ (List.mem_cons_self ..)
   rcases List.mem_cons.1 d with rfl|d
   ·refine kC j hd k h0 ?_
    unfold cp
    cases c:bh y b
    ·exact jf _
    ·exact xj c
   rcases List.mem_cons.1 d with rfl|d
   ·refine kC j hd hb h0 ?_
    unfold cp
    cases c:bh a y
    ·exact c
    ·exact jf _
   ·exact g y (by simp[d])
def e5 (a b:an):an:=bB (a.num*b.den+b.num*a.den) (a.den*b.den).toNat
theorem qD {a b:an}(c:0<a.den)(hb:0<b.den):Vl (e5 a b) (a.num*b.den+b.num*a.den) (a.den*b.den):=by
 have hd:0<a.den*b.den:=Int.mul_pos c hb;have h:=qk (a.num*b.den+b.num*a.den) (a.den*b.den).toNat (by omega);rw[show (((a.den*b.den).toNat:Nat):Int)=a.den*b.den by omega] at h;exact ⟨h.1,hd,h.2⟩
theorem Dk {a b:an}{A B C D:Nat}(c:Sm a A B)(hb:Sm b C D):Sm (e5 a b) (A*D+C*B) (B*D)/\Lw (e5 a b):=by
 have d:Sm (⟨-b.num,b.den⟩:an) C D:=⟨by have:=hb.num;show (-b.num).natAbs<=C;omega,hb.den⟩
 have:=yC c d;have e:cH a ⟨-b.num,b.den⟩=e5 a b:=by
  unfold cH e5;simp only[Int.neg_mul];rw[Int.sub_neg]
 rw[e] at this;exact this
def oF (i:Nat)(x:bt)(st:bt):bt:=cond (bh x.high st.high) x st
theorem Dl:∀(l:List bt) (i:Nat) (c:bt),(foldI oF i l c).high=foldI (fun _ (x:bt) st=>gH st x.high) i l c.high
 |[],_,_=>rfl
 |x::l,i,c=>by
  unfold foldI
  rw[Dl l (i+1)]
  congr 1
  unfold oF gH
  cases bh x.high c.high<;>rfl
theorem K4 {c:bt}{l:List bt}(h:∀x,x∈c::l->SR x.high):∃m,iZ gb c l=some m/\m.high=foldI (fun _ y st=>cp st y) 0 (l.map (·.high)) c.high:=by
 have hg:=iw (f:=j9 gb) (ρ:=bt) (g:=gC) (I:=fun _ c=>SR c.high) l 0 c (h c (List.mem_cons_self ..)) (fun j x st d a=>by
  have b:SR x.high:=h x (List.mem_cons_of_mem _ (List.mem_of_getElem? d));refine ⟨?_,?_⟩
  ·unfold j9 gb gC;simp only[(kB a b).2,ag];cases bh st.high x.high<;>rfl
  ·unfold gC;cases bh st.high x.high
   ·exact a
   ·exact b)
 refine ⟨foldI gC 0 l c,?_,by rw[xo,s9]⟩;unfold iZ;rw[hg.1];rfl
theorem K5 {c:bt}{l:List bt}(h:∀x,x∈c::l->SR x.high):∃m,iZ mg c l=some m/\m.high=foldI (fun _ y st=>gH st y) 0 (l.map (·.high)) c.high:=by
 have hg:=iw (f:=j9 mg) (ρ:=bt) (g:=oF) (I:=fun _ c=>SR c.high) l 0 c (h c (List.mem_cons_self ..)) (fun j x st d a=>by
  have b:SR x.high:=h x (List.mem_cons_of_mem _ (List.mem_of_getElem? d));refine ⟨?_,?_⟩
  ·unfold j9 mg gb oF;simp only[(kB b a).2,ag];cases bh x.high st.high<;>rfl
  ·unfold oF;cases bh x.high st.high
   ·exact a
   ·exact b)
 refine ⟨foldI oF 0 l c,?_,by rw[Dl,s9]⟩;unfold iZ;rw[hg.1];rfl
theorem K6 {α:Type}(c:α)(l:List α):g9 (c::l) 1 (((c::l).length:Nat):Int)=some l:=by
 unfold g9;rw[if_pos (by simp only[List.length_cons];omega)];simp
def fy (u:ak)(s:aU):bt:=(jz u s).getD ⟨⟨0,⟨0,0⟩⟩,0,⟨0,0⟩⟩
section
variable {u : ak} (F : Fit u)
include F
theorem tP {s:aU}(hs:Bd s):jz u s=some (fy u s)/\(fy u s).high=(cD u s).2/\SR (fy u s).high:=by
 obtain ⟨c,h1,a,b,-⟩:=sY F hs;have e:fy u s=c:=by unfold fy;rw[h1];rfl
 rw[e];exact ⟨h1,by rw[<-a],b⟩
theorem K7 {l:List aU}(b:l.length<=9)(hb:∀s,s∈l->Bd s)(K:cL)(a:K.book=u):bF (nN (K,0)) 0 l []=some (.nx (l.map (fy u))):=by
 have key:=iw (f:=nN (K,0)) (ρ:=an×an×Bool×Int) (g:=fun _ s (r:List bt)=>r++(fun s=>[fy u s]) s) (I:=fun j r=>r.length<=j/\j<=9) l 0 [] ⟨by simp,by omega⟩
  (fun j s r hs c=>by
   have d:j<l.length:=(List.getElem?_eq_some_iff.1 hs).1;refine ⟨?_,?_⟩
   ·unfold nN;simp only[a,ag,(tP F (hb s (List.mem_of_getElem? hs))).1];unfold c6;rw[if_pos (by simp;omega)]
   ·simp only[List.length_append,List.length_singleton];omega)
 rw[key.1,qs,List.nil_append,xL]
theorem K8 (h:eX u=some 0):((bQ u).isEmpty=true/\jG u=some (⟨0,0⟩,⟨0,0⟩,false,9))\/
  ((bQ u).isEmpty=false/\∃M m,(∃i e n,u.aE[i]?=some e/\n∈dN u i e/\M=(cD u ⟨e.back,n⟩).2)/\(∃i e n,u.aE[i]?=some e/\n∈dN u i e/\m=(cD u ⟨e.back,n⟩).2)/\
   (∀i e n,u.aE[i]?=some e->n∈dN u i e->bh M (cD u ⟨e.back,n⟩).2=false/\bh (cD u ⟨e.back,n⟩).2 m=false)/\
   jG u=some (if bh (e5 m u.aN) (cH M u.aN) then (⟨0,0⟩,⟨0,0⟩,false,0) else (cH M u.aN,e5 m u.aN,true,0))):=by
 cases hs:(bQ u).isEmpty with
 |true=>
  left
  refine ⟨rfl,?_⟩
  unfold jG
  rw[s8 F (xC h),hs]
  rfl
 |false=>
  right
  have aF:bQ u≠[]:=by intro c;rw[c] at hs;cases hs
  obtain ⟨L,k1,D,E,k⟩:=KY F aF
  have g:∀s,s∈L->Bd s:=fun s hs=>by
   obtain ⟨i,e,n,he,o,rfl⟩:=(k s).1 hs
   exact oC F he o
  have G:=K7 F E g ⟨u,(bQ u).map c7⟩ rfl
  obtain ⟨d,r,rfl⟩:∃a l,L=a::l:=by
   cases L with
   |nil=>exact absurd rfl D
   |cons a l=>exact ⟨a,l,rfl⟩
  have t:∀x,x∈fy u d::r.map (fy u)->SR x.high:=fun x j=>by
   rw[<-List.map_cons,List.mem_map] at j
   obtain ⟨s,hs,rfl⟩:=j
   exact (tP F (g s hs)).2.2
  obtain ⟨a,a1,a2⟩:=K4 t
  obtain ⟨b,H,b2⟩:=K5 t
  have I:(r.map (fy u)).map (·.high)=r.map fun s=>(cD u s).2:=by
   rw[List.map_map]
   exact List.map_congr_left fun s hs=>(tP F (g s (List.mem_cons_of_mem _ hs))).2.1
  have e0:(fy u d).high=(cD u d).2:=(tP F (g d (List.mem_cons_self ..))).2.1
  rw[I,e0] at a2 b2
  have hd:∀x,x∈(cD u d).2::r.map (fun s=>(cD u s).2)->0<x.den:=fun x j=>by
   rw[<-List.map_cons (f:=fun s=>(cD u s).2),List.mem_map] at j
   obtain ⟨s,hs,rfl⟩:=j
   exact (n6 F (g s hs)).den.1
  obtain ⟨p,p2⟩:=Dj _ 0 _ hd
  obtain ⟨q,v⟩:=Di _ 0 _ hd
  rw[<-a2] at p p2
  rw[<-b2] at q v
  rw[<-List.map_cons (f:=fun s=>(cD u s).2),List.mem_map] at p q
  obtain ⟨sp,w,z⟩:=p
  obtain ⟨sq,A,eq⟩:=q
  obtain ⟨i1,e1,n1,J,K,N⟩:=(k sp).1 w
  obtain ⟨i2,e2,n2,O,P,Q⟩:=(k sq).1 A
  refine ⟨rfl,a.high,b.high,⟨i1,e1,n1,J,K,by rw[<-z,N]⟩,⟨i2,e2,n2,O,P,by rw[<-eq,Q]⟩,fun i e n he o=>?_,?_⟩
  ·have hm:(cD u ⟨e.back,n⟩).2∈(cD u d).2::r.map (fun s=>(cD u s).2):=by
    rw[<-List.map_cons (f:=fun s=>(cD u s).2)]
    exact List.mem_map.2 ⟨_,(k _).2 ⟨i,e,n,he,o,rfl⟩,rfl⟩
   exact ⟨p2 _ hm,v _ hm⟩
  ·have f:=Dc F (g d (List.mem_cons_self ..))
   have B:Sm a.high 10000 100:=by rw[<-z];exact (qC F (g sp w)).1
   have C:Sm b.high 10000 100:=by rw[<-eq];exact (qC F (g sq A)).1
   have v1:iY a.high u.aN=some (cH a.high u.aN):=xg B f (by decide) (by decide) (by decide)
   have v2:iX b.high u.aN=some (e5 b.high u.aN):=qi C f (by decide) (by decide)
   have R:ew (e5 b.high u.aN) (cH a.high u.aN)=some (bh (e5 b.high u.aN) (cH a.high u.aN)):=(kA (Dk C f).1 (yC B f).1 (by decide) (by decide)).2
   unfold jG
   rw[s8 F (xC h),hs]
   simp only[ag,Bool.false_eq_true,if_false,bne_self_eq_false,cond_false,k1,G,aG]
   have y:g9 ((d::r).map (fy u)) 1 ((((d::r).map (fy u)).length:Nat):Int)=some (r.map (fy u)):=K6 (fy u d) (r.map (fy u))
   simp only[show bp ((d::r).map (fy u)) 0=some (fy u d) from rfl,y,a1,H,v1,v2,R]
   cases bh (e5 b.high u.aN) (cH a.high u.aN)<;>rfl
end
theorem Dm {f:an}(a:0<f.den):Vl f f.num f.den:=⟨rfl,a,a⟩
theorem K9 {r:an}{n d:Int}(h:Vl r n d):Vl ⟨-r.num,r.den⟩ (-n) d:=⟨by have:=h.eq;simp only[Int.neg_mul];omega,h.d,h.den⟩
theorem La {r f:an}(b:0<r.den)(a:0<f.den)(h0:0<=f.num):bh f (kE r)=(bh f r||bh f ⟨-r.num,r.den⟩):=by
 have d:0<=f.num*r.den:=Int.mul_nonneg h0 (by omega);unfold kE;by_cases c:r.num<0
 ·rw[if_pos c];have:bh f r=false:=by
   unfold bh;have p2:r.num*f.den<0:=Int.mul_neg_of_neg_of_pos c a;rw[decide_eq_false_iff_not];omega
  rw[this];rfl
 ·rw[if_neg c];have:bh f ⟨-r.num,r.den⟩=false:=by
   unfold bh;have p2:0<=r.num*f.den:=Int.mul_nonneg (by omega) (by omega);simp only[Int.neg_mul];rw[decide_eq_false_iff_not];omega
  rw[this,Bool.or_false]
theorem within {n:Int}{x f:an}(d:0<x.den)(c:0<f.den)(h0:0<=f.num):bh f (kE (cH ⟨n,1⟩ x))=(bh (e5 x f) ⟨n,1⟩||bh ⟨n,1⟩ (cH x f)):=by
 have v:=mO (a:=⟨n,1⟩) (b:=x) (show (0:Int)<1 by decide) d;have w:Vl (⟨n,1⟩:an) n 1:=⟨rfl,by decide,(by decide:(0:Int)<1)⟩
 rw[La v.den c h0,(Dm c).lt v,(Dm c).lt (K9 v),(qD d c).lt w,w.lt (mO d c)];simp only[Int.one_mul,Int.mul_one];congr 1
 ·rw[decide_eq_decide];have e1:(n*x.den - x.num)*f.den=n*(x.den*f.den) - x.num*f.den:=by grind
  rw[e1];omega
 ·rw[decide_eq_decide];have e1: -(n*x.den - x.num)*f.den=x.num*f.den - n*(x.den*f.den):=by grind
  rw[e1];omega
theorem Lb {a b f:an}(d:0<a.den)(hb:0<b.den)(c:0<f.den):bh (e5 a f) (e5 b f)=bh a b:=by
 rw[(qD d c).lt (qD hb c)];unfold bh;rw[decide_eq_decide];have e1:(a.num*f.den+f.num*a.den)*(b.den*f.den)=a.num*b.den*(f.den*f.den)+f.num*a.den*b.den*f.den:=by grind
 have e2:(b.num*f.den+f.num*b.den)*(a.den*f.den)=b.num*a.den*(f.den*f.den)+f.num*a.den*b.den*f.den:=by grind
 rw[e1,e2,<-lt_mul (Int.mul_pos c c) (a:=a.num*b.den)];omega
theorem Lc {a b f:an}(d:0<a.den)(hb:0<b.den)(c:0<f.den):bh (cH a f) (cH b f)=bh a b:=by
 rw[(mO d c).lt (mO hb c)];unfold bh;rw[decide_eq_decide];have e1:(a.num*f.den - f.num*a.den)*(b.den*f.den)=a.num*b.den*(f.den*f.den) - f.num*a.den*b.den*f.den:=by grind
 have e2:(b.num*f.den - f.num*b.den)*(a.den*f.den)=b.num*a.den*(f.den*f.den) - f.num*a.den*b.den*f.den:=by grind
 rw[e1,e2,<-lt_mul (Int.mul_pos c c) (a:=a.num*b.den)];omega
theorem Ld {n:Int}{x M m f:an}(b:0<x.den)(c:0<M.den)(hm:0<m.den)(a:0<f.den)(h1:bh M x=false)(d:bh x m=false)
  (k1:bh (e5 m f) ⟨n,1⟩=false) (e:bh ⟨n,1⟩ (cH M f)=false):bh (e5 x f) ⟨n,1⟩=false/\bh ⟨n,1⟩ (cH x f)=false:=
 ⟨kC (qD b a).den (qD hm a).den (by decide:(0:Int)<1) (by rw[Lb b hm a];exact d) k1,
  kC (by decide:(0:Int)<1) (mO c a).den (mO b a).den e (by rw[Lc c b a];exact h1)⟩
end Go.Proofs.YtpgcmoanfifglaaGreatDoor
end

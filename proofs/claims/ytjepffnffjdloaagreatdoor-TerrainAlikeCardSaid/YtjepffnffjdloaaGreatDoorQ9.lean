/- A part of the proof of a row and its tied card: Q9. -/
import Derived.Test.YtjepffnffjdloaaGreatDoorQ8
import Derived.Conc.AtomicLaws2
import Derived.Conc.WgArith
set_option linter.all false
section
namespace Go.Sep
open Go Go.Conc
open Go.ConcN (sumTo upd upd_ne upd_same)
open Go.ConcM (MuAt muA msA muBlock OsLater)
open Go.ConcR (WgAt wgBlock stA smA)
section
variable {c : Cy} {i : Nat} {ph : Ph} {ops : Array Oper} {j n : Nat} {Q : Act → af → Ph → Prop} {a : Act} {F : af} {f fi : FuncId} {d : Option Tmp}
theorem dB {s:Sh}:s.ms<=s.ms/\s.ws<=s.ws:=⟨Int.le_refl _,Int.le_refl _⟩
theorem xL (g:Entry c.P f (fun _=>do mark .disable;pure Extern.Race.none_)){vals:List Value}(l:At ops j a f vals d)(h1:ph.gp≠ .gone)(h2:ph.gp≠ .new)
  (h:ai (WJ c i) fi ops (j+1) n Q (aZ a d (.tuple #[])) F {ph with deaf:=ph.deaf+1}):ai (WJ c i) fi ops j (n+1) Q a F ph:=by
 obtain ⟨o,cx,c9,e,hg,m,_,rfl⟩:=l
 refine fh e h1 fun w s k φ p0 _ hs hi he p=>.inr ⟨.tuple #[],w,_,s,_,fun b q cs hb=>?_,hs,.refl _ _,p.Cg hi he h2 _,Iv,.inr dB,h⟩
 obtain ⟨fn,f1,f2,f3,f4,f5⟩:=g.ex
 exact stepG_mark0 .disable (by simp) e (cj hg) hb.kind m f1 f2 f3 f4 f5
theorem tn (l:Entry c.P f (fun _=>do mark .enable;pure Extern.Race.none_)){vals:List Value}(m:At ops j a f vals d)(h1:ph.gp≠ .gone)(h2:ph.gp≠ .new){e:Nat}(hd:ph.deaf=e+1)
  (h:ai (WJ c i) fi ops (j+1) n Q (aZ a d (.tuple #[])) F {ph with deaf:=e}):ai (WJ c i) fi ops j (n+1) Q a F ph:=by
 obtain ⟨o,cx,c9,g,hg,p,_,rfl⟩:=m
 refine fh g h1 fun w s k φ p0 _ hs hi he q=>.inr ⟨.tuple #[],w,_,s,_,fun b r cs hb=>?_,hs,.refl _ _,q.Cg hi he h2 _,Iw hd,.inr dB,h⟩
 obtain ⟨fn,f1,f2,f3,f4,f5⟩:=l.ex
 exact stepG_mark0 .enable (by simp) g (cj hg) hb.kind p f1 f2 f3 f4 f5
theorem ot {k:Nat}{φ:Nat->Ph}{p0:P0}{s:Sh}(he:φ i=ph)(a:Inv c.n c.bs k φ p0 s):Inv c.n c.bs k (upd φ i ph) p0 s:=by rw[<-he,xG];exact a
theorem Ch (g:Entry c.P f (Extern.Race.marked .acquire))(l:At ops j a f [.pointer (some (muA c.Mu))] d)(h1:ph.gp= .cnt)
  (h:ai (WJ c i) fi ops (j+1) n Q (aZ a d (.tuple #[])) F ph):ai (WJ c i) fi ops j (n+1) Q a F ph:=by
 obtain ⟨o,cx,c9,e,hg,m,p,rfl⟩:=l
 obtain ⟨x,rfl,q⟩:=jH p
 refine fh e (by rw[h1];simp) fun w s k φ p0 _ hs hi he r=>.inr ⟨.tuple #[],w,_,s,ph,fun b t cs hb=>?_,hs,.refl _ _,ot he r,.word (.acquire (muA c.Mu)) rfl (.inl rfl) rfl ⟨h1,h1⟩,.inr dB,h⟩
 obtain ⟨fn,f1,f2,f3,f4,f5⟩:=g.ex
 exact stepG_markAt .acquire (by simp) e (cj hg) hb.kind m f1 f2 f3 f4 f5 (by simp[er,q])
theorem Ix (g:Entry c.P f (Extern.Race.marked .releaseMerge))(l:At ops j a f [.pointer (some (muA c.Mu))] d)(h1:ph.gp= .cnt)
  (h:ai (WJ c i) fi ops (j+1) n Q (aZ a d (.tuple #[])) F ph):ai (WJ c i) fi ops j (n+1) Q a F ph:=by
 obtain ⟨o,cx,c9,e,hg,m,p,rfl⟩:=l
 obtain ⟨x,rfl,q⟩:=jH p
 refine fh e (by rw[h1];simp) fun w s k φ p0 _ hs hi he r=>.inr ⟨.tuple #[],w,_,s,ph,fun b t cs hb=>?_,hs,.refl _ _,ot he r,.word (.releaseMerge (muA c.Mu)) rfl (.inr rfl) rfl ⟨h1,h1⟩,.inr dB,h⟩
 obtain ⟨fn,f1,f2,f3,f4,f5⟩:=g.ex
 exact stepG_markAt .releaseMerge (by simp) e (cj hg) hb.kind m f1 f2 f3 f4 f5 (by simp[er,q])
theorem Iy (p:Entry c.P f (Extern.Race.marked .releaseMerge))(q:At ops j a f [.pointer (some (stA c.Wg))] d)(h1:ph.gp= .cnt)
  (hd:ph.deaf=0) (r:ph.mp= .idle\/ph.mp= .fin) (t:ph.stored=c.bs i)
  (h:ai (WJ c i) fi ops (j+1) n Q (aZ a d (.tuple #[])) F {mp:=.fin,gp:=.rel,stored:=ph.stored,deaf:=0}):ai (WJ c i) fi ops j (n+1) Q a F ph:=by
 obtain ⟨o,cx,c9,l,hg,u,v,rfl⟩:=q
 obtain ⟨x,rfl,y⟩:=jH v
 refine fh l (by rw[h1];simp) fun w s k φ p0 _ hs hi he g=>.inr ⟨.tuple #[],w,_,s,{mp:=.fin,gp:=.rel,stored:=ph.stored,deaf:=0},fun b z cs hb=>?_,hs,.refl _ _,?_,.rel rfl ⟨hd,rfl⟩ h1,.inr dB,h⟩
 ·obtain ⟨fn,f1,f2,f3,f4,f5⟩:=p.ex
  exact stepG_markAt .releaseMerge (by simp) l (cj hg) hb.kind u f1 f2 f3 f4 f5 (by simp[er,y])
 ·obtain ⟨C,S,W,L,m,hm⟩:=g.m
  refine g.jE hi he (by rw[h1];simp) (by simp) ⟨C,S,W,L,m,mI hm hi _ ?_⟩ (s7 g.w hi _ (.inr ⟨by rw[he];exact h1,rfl⟩)) ?_ (fun _=>⟨t,rfl⟩)
  ·rw[he];rcases r with e|e
   ·exact .inr ⟨e,rfl⟩
   ·exact .inl e.symm
  ·have:=g.i.all i hi
   rw[he] at this
   exact (xK this).symm
theorem tq (old nw:Int)(E:Entry c.P f (Extern.Atomic.casT (.int .i32)))(G:c.Mu≠c.Wg/\c.Mu≠c.Is/\c.Wg≠c.Is)(H:At ops j a f [.pointer (some (muA c.Mu)),.int .i32 old,.int .i32 nw] d)
  (h1:ph.gp= .cnt) (h0:0<ph.deaf)
  (I:∀φ ms C S W L m,φ i=ph->i<c.n->cp c.n φ old ms C S W L m->∃mp,(∃e g h l p,cp c.n (upd φ i {ph with mp:=mp}) nw ms e g h l p)/\ai (WJ c i) fi ops (j+1) n Q (aZ a d (.bool true)) F {ph with mp:=mp})
  (J:∀φ mu ms C S W L m,φ i=ph->i<c.n->cp c.n φ mu ms C S W L m->mu≠old->∃mp,(∃e g h l p,cp c.n (upd φ i {ph with mp:=mp}) mu ms e g h l p)/\ai (WJ c i) fi ops (j+1) n Q (aZ a d (.bool false)) F {ph with mp:=mp}):ai (WJ c i) fi ops j (n+1) Q a F ph:=by
 obtain ⟨o,cx,c9,q,hg,v,K,rfl⟩:=H
 obtain ⟨x,y,z,rfl,A,B,D⟩:=qt K
 obtain ⟨fn,f1,f2,f3,f4,f5⟩:=E.ex
 refine fh q (by rw[h1];simp) fun w s k φ p0 _ hs hi he r=>.inr ?_
 obtain ⟨C,S,W,L,m,hm⟩:=r.m
 by_cases t:s.mu=old
 ·subst t
  obtain ⟨mp,u,hk⟩:=I φ s.ms C S W L m he hi hm
  exact ⟨.bool true,_,_,{s with mu:=nw},{ph with mp:=mp},fun b M cs hb=>stepG_cas_hit q (cj hg) hb.kind v f1 f2 f3 f4 .i32 f5 A B D hs.mu.1 hs.mu.2,hs.Cd G nw,.set _ (.inl rfl),r.mutex hi he h1 u,xI rfl Iff.rfl h0 (.inr ⟨rfl,h1⟩),.inr dB,hk⟩
 ·obtain ⟨mp,u,hk⟩:=J φ s.mu s.ms C S W L m he hi hm t
  exact ⟨.bool false,_,_,{s with mu:=s.mu},{ph with mp:=mp},fun b M cs hb=>stepG_cas_miss q (cj hg) hb.kind v f1 f2 f3 f4 .i32 f5 A B D hs.mu.1 hs.mu.2 t,hs,.refl _ _,r.mutex hi he h1 u,xH false rfl Iff.rfl h0 (.inr ⟨rfl,h1⟩),.inr dB,hk⟩
theorem xM (dl:Int)(p:Entry c.P f (Extern.Atomic.update (Op.intArith .add) .i32 true))(q:c.Mu≠c.Wg/\c.Mu≠c.Is/\c.Wg≠c.Is)(r:At ops j a f [.pointer (some (muA c.Mu)),.int .i32 dl] d)
  (h1:ph.gp= .cnt) (h0:0<ph.deaf)
  (h:∀φ mu ms C S W L m,φ i=ph->i<c.n->cp c.n φ mu ms C S W L m->∃mp nw,IntKind.i32.wrap (mu+dl)=nw/\(∃t u v z A,cp c.n (upd φ i {ph with mp:=mp}) nw ms t u v z A)/\ai (WJ c i) fi ops (j+1) n Q (aZ a d (.int .i32 nw)) F {ph with mp:=mp}):
  ai (WJ c i) fi ops j (n+1) Q a F ph:=by
 obtain ⟨o,cx,c9,g,hg,B,D,rfl⟩:=r
 obtain ⟨x,y,rfl,E,G⟩:=qs D
 obtain ⟨fn,f1,f2,f3,f4,f5⟩:=p.ex
 refine fh g (by rw[h1];simp) fun w s k φ p0 _ hs hi he l=>.inr ?_
 obtain ⟨C,S,W,L,m,hm⟩:=l.m
 obtain ⟨mp,nw,e,H,hk⟩:=h φ s.mu s.ms C S W L m he hi hm
 exact ⟨.int .i32 nw,_,_,{s with mu:=nw},{ph with mp:=mp},fun b I cs hb=>by rw[<-e];exact stepG_add_atomic g (cj hg) hb.kind B f1 f2 f3 f4 .i32 f5 E G hs.mu.1 hs.mu.2,by rw[<-e];exact hs.Cd q _,.set _ (.inl rfl),l.mutex hi he h1 H,xI rfl Iff.rfl h0 (.inr ⟨rfl,h1⟩),.inr dB,hk⟩
theorem ou {ty:TypeId}(l:(c.P.funcs[fi]?).any (·.norace)=true)(e:c.P.underlying ty=some (.int .i32)){x:Operand}(p:mK ops j a (.load ty x) d)(h1:ph.gp= .cnt)(q:ev a x= .pointer (some (muA c.Mu)))
  (h:∀φ mu ms C S W L m,φ i=ph->i<c.n->cp c.n φ mu ms C S W L m->∃mp,(∃r t u v y,cp c.n (upd φ i {ph with mp:=mp}) mu ms r t u v y)/\ai (WJ c i) fi ops (j+1) n Q (aZ a d (.int .i32 mu)) F {ph with mp:=mp}):
  ai (WJ c i) fi ops j (n+1) Q a F ph:=by
 obtain ⟨o,f,hg,z,rfl⟩:=p
 refine fh f (by rw[h1];simp) fun w s k φ p0 _ hs hi he g=>.inr ?_
 obtain ⟨C,S,W,L,m,hm⟩:=g.m
 obtain ⟨mp,A,hk⟩:=h φ s.mu s.ms C S W L m he hi hm
 have e1:execOp a.eval o=(do pure (.value (<-loadVar ty (muA c.Mu))):Sem Next):=by
  unfold execOp
  simp only[z,er,q]
  rfl
 have B:(execOp a.eval o).run c.P w= .ok (.value (.int .i32 s.mu)) w:=by
  rw[e1]
  have:=hs.mu.1
  simp[loadVar,isAgg,run_underlying e,this]
 have D:(execOp a.eval o).events c.P w #[]=#[⟨.cell (muA c.Mu),false,false⟩]:=by
  rw[e1]
  have:=hs.mu.1
  simp[loadVar,isAgg,run_underlying e,events_load,this]
 have E:seen c.P fi #[⟨.cell (muA c.Mu),false,false⟩]=#[]:=by rw[seen_def];simp[seenStep,l]
 refine ⟨.int .i32 s.mu,w,#[],{s with mu:=s.mu},{ph with mp:=mp},fun b G cs hb=>?_,hs,.refl _ _,g.mutex hi he h1 A,mL rfl Iff.rfl,.inr dB,hk⟩
 rw[stepG_value f (cj hg) hb.kind B]
 unfold listed
 rw[D,hb.fn,E]
end
section
variable {c : Cy} {i : Nat} {ph : Ph} {ops : Array Oper} {j n : Nat} {Q : Act → af → Ph → Prop} {a : Act} {F : af} {f fi : FuncId} {d : Option Tmp}
theorem Iz (r t:Value)(u:Entry c.P f Extern.Sync.semacquire)(v:c.Mu≠c.Wg/\c.Mu≠c.Is/\c.Wg≠c.Is)(A:At ops j a f [.pointer (some (msA c.Mu)),r,t] d)
  (h1:ph.gp= .cnt) {G:Nat} (hm:ph.mp= .ia G) (h:ai (WJ c i) fi ops (j+1) n Q (aZ a d (.tuple #[])) F {ph with mp:=.jB G}):ai (WJ c i) fi ops j (n+1) Q a F ph:=by
 obtain ⟨o,cx,c9,e,hg,g,B,rfl⟩:=A
 obtain ⟨x,y,z,rfl,l,_,_⟩:=qt B
 obtain ⟨fn,f1,f2,f3,f4,f5⟩:=u.ex
 refine fh e (by rw[h1];simp) fun w s k φ p0 _ hs hi he p=>?_
 by_cases h0:s.ms=0
 ·refine .inl ⟨by rw[hm];rfl,h0,fun b D cs=>stepG_semacquire_wait e (cj hg) g f1 f2 f3 f4 f5 (ad:=msA c.Mu) (by simp[er,l]) (by rw[hs.ms.1,h0])⟩
 ·obtain ⟨C,S,W,L,m,q⟩:=p.m
  have E:=q.cnt
  refine .inr ⟨.tuple #[],_,_,{s with ms:=s.ms - 1},{ph with mp:=.jB G},fun b D cs hb=>stepG_semacquire e (cj hg) hb.kind g f1 f2 f3 f4 f5 (by simp[er,l]) hs.ms.1 h0 hs.ms.2,hs.Ce v _,.set _ (.inl rfl),
   p.mutex hi he h1 ⟨C,S,W,L,m - 1,Hx q hi _ (by rw[he];exact hm) rfl (by omega)⟩,xJ rfl Iff.rfl (.inr ⟨rfl,h1⟩),.inr ⟨by simp only;omega,Int.le_refl _⟩,h⟩
theorem Ci (t u:Value)(l:Entry c.P f Extern.Sync.semrelease)(v:c.Mu≠c.Wg/\c.Mu≠c.Is/\c.Wg≠c.Is)(A:At ops j a f [.pointer (some (msA c.Mu)),t,u] d)
  (h1:ph.gp= .cnt) (hm:ph.mp= .n9\/ph.mp= .oa) (h:ai (WJ c i) fi ops (j+1) n Q (aZ a d (.tuple #[])) F {ph with mp:=.fin}):ai (WJ c i) fi ops j (n+1) Q a F ph:=by
 obtain ⟨o,cx,c9,p,hg,q,B,rfl⟩:=A
 obtain ⟨x,y,z,rfl,g,_,_⟩:=qt B
 obtain ⟨fn,f1,f2,f3,f4,f5⟩:=l.ex
 refine fh p (by rw[h1];simp) fun w s k φ p0 _ hs hi he r=>.inr ?_
 obtain ⟨C,S,W,L,m,e⟩:=r.m
 have E:=e.cnt
 have hb:=e.st.w
 have G:=e.st.s
 have H:m<=1:=by
  rcases Nat.lt_or_ge S 1 with y|y
  ·have:=e.norm (by omega);omega
  ·have:=e.fM (by omega);omega
 have D:IntKind.u32.wrap (s.ms+1)=s.ms+1:=by
  unfold IntKind.wrap
  simp[IntKind.bits,IntKind.signed]
  omega
 refine ⟨.tuple #[],_,_,{s with ms:=s.ms+1},{ph with mp:=.fin},fun b I cs hb=>stepG_semrelease p (cj hg) hb.kind q f1 f2 f3 f4 f5 (by simp[er,g]) hs.ms.1 hs.ms.2,by rw[D];exact hs.Ce v _,.set _ (.inl rfl),
  r.mutex hi he h1 ⟨C,S,W,L,m+1,HD e hi _ (by rw[he];exact hm) rfl⟩,xJ rfl Iff.rfl (.inr ⟨rfl,h1⟩),.inl ⟨_,q,fun x g=>?_⟩,h⟩
 cases g
 exact ⟨f,rfl,l.B4⟩
theorem Cj (l:Entry c.P f Extern.OsHooks.nano)(e:(c.P.funcs[f]?).any (·.norace)=true){vals:List Value}(m:At ops j a f vals d)
  (h1:ph.gp≠ .gone) (h:∀x:Int,ai (WJ c i) fi ops (j+1) n Q (aZ a d (.int .i64 x)) F ph):ai (WJ c i) fi ops j (n+1) Q a F ph:=by
 obtain ⟨o,cx,c9,g,hg,p,_,rfl⟩:=m
 obtain ⟨fn,f1,f2,f3,f4,f5⟩:=l.ex
 refine fh g h1 fun w s k φ p0 _ hs hi he q=>.inr ⟨_,w.later,#[],s,ph,fun b r cs hb=>stepG_nanotime g (cj hg) hb.kind p f1 f2 f3 f4 f5 (by rw[f1] at e;simpa using e),hs,⟨rfl,rfl,rfl,⟨w.tick,rfl⟩,fun _ _=>rfl⟩,ot he q,mL rfl Iff.rfl,.inr dB,h _⟩
theorem IA (it:Int)(m:Entry c.P f Extern.Sync.canSpin)(p:At ops j a f [.int .i64 it] d)
  (h1:ph.gp≠ .gone) (h:∀t:Bool,(t=true->it<4)->ai (WJ c i) fi ops (j+1) n Q (aZ a d (.bool t)) F ph):ai (WJ c i) fi ops j (n+1) Q a F ph:=by
 obtain ⟨o,cx,c9,e,hg,g,q,rfl⟩:=p
 obtain ⟨x,rfl,r⟩:=jH q
 obtain ⟨fn,f1,f2,f3,f4,f5⟩:=m.ex
 have hm:(#[x]:Array Operand).map a.eval=#[.int .i64 it]:=by simp[er,r]
 refine fh e h1 fun w s k φ p0 _ hs hi he l=>.inr ?_
 by_cases u:4<=it
 ·exact ⟨_,w,#[],s,ph,fun b v cs hb=>stepG_canSpin_no e (cj hg) hb.kind g f1 f2 f3 f4 f5 hm u,hs,.refl _ _,ot he l,mL rfl Iff.rfl,.inr dB,h false (by simp)⟩
 ·exact ⟨_,w.asked,#[],s,ph,fun b v cs hb=>stepG_canSpin_ask e (cj hg) hb.kind g f1 f2 f3 f4 f5 hm (by omega),hs,⟨rfl,rfl,rfl,.refl _,fun _ _=>rfl⟩,ot he l,mL rfl Iff.rfl,.inr dB,h _ (fun _=>by omega)⟩
end
theorem ai.entry {P:Program}{main:Bool}{S:Type}{JF:S->Goroutine->af->Prop}{fi f:FuncId}{ops:Array Oper}{j n:Nat}{Q:Act->af->S->Prop}{a:Act}{F:af}{ph:S}{d:Option Tmp}(v:Value)(e:dN P main (JF ph))(g:Entry P f (fun _=>pure v))
  {vals:List Value} (i:At ops j a f vals d) (h:ai JF fi ops (j+1) n Q (aZ a d v) F ph):ai JF fi ops j (n+1) Q a F ph:=fun b c cs hb hk=>by
 obtain ⟨fn,f1,f2,f3,f4,f5⟩:=g.ex
 obtain ⟨o,cx,c9,k,hg,l,_,rfl⟩:=i
 rw[List.range'_succ,eA hb.round]
 refine e.move (fr':=b.at (a.put o.dst v) (.inRegion ops (List.range' (j+1) n)::c)) (fun w=>stepG_entry_pure v k (cj hg) hb.kind l f1 f2 f3 f4 f5) (by rw[<-eA hb.round];exact h b c cs hb hk)
section
variable {c : Cy} {i : Nat} {ph : Ph} {ops : Array Oper} {j n : Nat} {Q : Act → af → Ph → Prop} {a : Act} {F : af} {f fi : FuncId} {d : Option Tmp}
theorem tr (ad:Addr){src dst t:TypeId}(hs:c.P.underlying src=some (.pointer t))(hd:c.P.underlying dst=some .unsafePointer)(e:(c.P.info? t).map (fun i=>decide (i.size=0))=some false){x:Operand}
  (m:mK ops j a (.convert src dst x) d) (h1:ph.gp≠ .gone) (p:ev a x= .pointer (some ad)) (q:∀w s,cw c w s->∃v,w.cell? ad=some v) (h:ai (WJ c i) fi ops (j+1) n Q (aZ a d (.pointer (some ad))) F ph):ai (WJ c i) fi ops j (n+1) Q a F ph:=by
 obtain ⟨o,f,hg,r,rfl⟩:=m
 refine fh f h1 fun w s k φ p0 _ g hi he u=>.inr ⟨_,w,#[],s,ph,fun b A cs hb=>?_,g,.refl _ _,ot he u,mL rfl Iff.rfl,.inr dB,h⟩
 obtain ⟨v,l⟩:=q w s g
 have e1:execOp a.eval o=(do pure (.value (<-convert src dst (.pointer (some ad)))):Sem Next):=by
  unfold execOp
  simp only[r,er,p]
 have y:(execOp a.eval o).run c.P w= .ok (.value (.pointer (some ad))) w:=by
  rw[e1];simp[run_convert_to_unsafe hs hd e l]
 have z:(execOp a.eval o).events c.P w #[]=#[]:=by
  rw[e1];simp[events_convert_to_unsafe hs hd e l]
 rw[stepG_value f (cj hg) hb.kind y]
 unfold listed
 rw[z,seen_none]
theorem IB {ty:TypeId}(H:c.P.underlying ty=some .bool)(v:bW c.P ty=some 1)(z:(c.P.funcs[fi]?).any (·.norace)=false)(A:c.Mu≠c.Wg/\c.Mu≠c.Is/\c.Wg≠c.Is){x y:Operand}
  (B:mK ops j a (.store ty x y) d) (h1:ph.gp= .cnt) (f:ev a x= .pointer (some ⟨c.Is,i,none⟩)) (g:ev a y= .bool true) (h:ai (WJ c i) fi ops (j+1) n Q (aZ a d undef) F {ph with stored:=true}):ai (WJ c i) fi ops j (n+1) Q a F ph:=by
 obtain ⟨o,l,hg,p,rfl⟩:=B
 refine fh l (by rw[h1];simp) fun w s k φ p0 _ hs hi he e=>.inr ?_
 have hlen:=e.i.len
 have q:w.cell? ⟨c.Is,i,none⟩=some (.bool (s.is[i]'(by omega))):=by
  have:=hs.2.2
  simp[World.cell?,this,hlen,hi]
 have r:w.frozen? ⟨c.Is,i,none⟩=false:=by
  have:=hs.2.2
  simp[World.frozen?,this]
 have t:(sizeOf ty).run c.P w= .ok 1 w:=by
  obtain ⟨inf,h1,h2⟩:=Option.map_eq_some_iff.1 v
  simp[Go.sizeOf,typeInfo,h1,h2]
 have u:Instr.sureAddr (.pointer (some ⟨c.Is,i,none⟩))=(Pure.pure ⟨c.Is,i,none⟩:Sem Addr):=rfl
 have D:(execOp a.eval o).run c.P w= .ok .skip (w.setCell ⟨c.Is,i,none⟩ (.bool true)):=by
  unfold execOp
  simp only[p,er,f,g]
  simp[Instr.storeAt,u,storeVar,t,Value.cells,storeCells,Addr.add,q,r,run_store c.P w ⟨c.Is,i,none⟩ (.bool true) .plain rfl,Result.andThen]
 have E:(execOp a.eval o).events c.P w #[]=#[⟨.cell ⟨c.Is,i,none⟩,true,false⟩]:=by
  unfold execOp
  simp only[p,er,f,g]
  simp[Instr.storeAt,u,storeVar,t,Value.cells,storeCells,Addr.add,q,r,events_store c.P w _ ⟨c.Is,i,none⟩ (.bool true) .plain rfl,run_store c.P w ⟨c.Is,i,none⟩ (.bool true) .plain rfl,Result.evThen]
 have G:seen c.P fi #[⟨.cell ⟨c.Is,i,none⟩,true,false⟩]=#[⟨.cell ⟨c.Is,i,none⟩,true,false⟩]:=by rw[seen_def];simp[seenStep,z]
 obtain ⟨C,S,W,L,m,hm⟩:=e.m
 refine ⟨undef,_,_,{s with is:=s.is.set i true},{ph with stored:=true},fun b I cs hb=>?_,hs.Iu A i true,.set _ (.inr (.inr rfl)),?_,.store rfl rfl ⟨h1,h1⟩,.inr dB,h⟩
 ·rw[stepG_none l (cj hg) hb.kind D]
  unfold listed
  rw[E,hb.fn,G]
 ·exact e.jE hi he (by rw[h1];simp) (by simp[h1]) ⟨C,S,W,L,m,mI hm hi _ (.inl (by rw[he]))⟩ (s7 e.w hi _ (.inl (by rw[he]))) rfl (fun hn=>absurd h1 hn)
end
theorem ai.shr {P:Program}{main:Bool}{S:Type}{JF:S->Goroutine->af->Prop}{fi:FuncId}{ops:Array Oper}{j n:Nat}{Q:Act->af->S->Prop}{a:Act}{F:af}{ph:S}{d:Option Tmp}{t f:TypeId}{k b:IntKind}{u m:Int}(v:Int)(g:dN P main (JF ph)){x y:Operand}
  (i:mK ops j a (.binOp .shr t x y f) d) (l:ev a x= .int k u) (p:ev a y= .int b m) (hm:0<=m) (c:u.fdiv (2 ^ min m.toNat k.bits)=v) (h:ai JF fi ops (j+1) n Q (aZ a d (.int k v)) F ph):ai JF fi ops j (n+1) Q a F ph:=by
 obtain ⟨o,q,hg,r,rfl⟩:=i
 have e:¬m<0:=by omega
 have e1:execOp a.eval o=(do eqGuard .shr t x y (.int k u) (.int b m);pure (.value (<-binOp .shr t (.int k u) (.int b m))):Sem Next):=by
  unfold execOp
  simp only[r,er,l,p]
  simp
 refine ai.plain g (.int k v) q hg (fun w=>?_) (fun w=>?_) h
 ·rw[e1];subst c;simp[eqGuard,binOp,Op.shift,e]
 ·rw[e1];subst c;simp[eqGuard,binOp,Op.shift,e]
theorem ai.mM {P:Program}{main:Bool}{S:Type}{JF:S->Goroutine->af->Prop}{fi:FuncId}{ops:Array Oper}{j n:Nat}{Q:Act->af->S->Prop}{a:Act}{F:af}{ph:S}{d:Option Tmp}{t b:TypeId}(u v:Int)(c:dN P main (JF ph)){x y:Operand}
  (e:mK ops j a (.binOp .shr t x y b) d) (f:ev a x= .int .i32 u) (g:ev a y= .int .u64 3) (i:u.fdiv 8=v) (h:ai JF fi ops (j+1) n Q (aZ a d (.int .i32 v)) F ph):ai JF fi ops j (n+1) Q a F ph:=
 ai.shr v c e f g (by decide) i h
end Go.Sep
end
section
namespace Go.Proofs.YtjepffnffjdloaaGreatDoor
open Go Go.Sep Go.Proofs Go.Conc
open Go.ConcN (upd upd_same)
open Go.ConcM (muA msA)
open Go.ConcR (stA smA)
set_option maxRecDepth 100000
set_option maxHeartbeats 4000000
section
variable {Mu Wg Is n base T0 i : Nat} {bs : Nat → Bool} {st : Bool} {F : af}
theorem xN (w:World)(s:Sh)(h:cw (CY Mu Wg Is n bs base T0) w s):∃v,w.cell? ⟨Mu,0,none⟩=some v:=⟨_,h.mu.1⟩
theorem IC (b:Mu≠Wg/\Mu≠Is/\Wg≠Is)
  (c:cD Tryz.prog (WJ (CY Mu Wg Is n bs base T0) i) 172 #[.pointer (some (muA Mu))] F ⟨.idle,.cnt,st,1⟩ (fun v F' aH=>v= .tuple #[]/\F'=F/\aH=⟨.held,.cnt,st,0⟩)):
  cD Tryz.prog (WJ (CY Mu Wg Is n bs base T0) i) 147 #[.pointer (some (muA Mu))] F ⟨.idle,.cnt,st,0⟩ (fun v F' aH=>v= .tuple #[]/\F'=F/\aH=⟨.held,.cnt,st,0⟩):=by
 have a:=WJ.eg (CY Mu Wg Is n bs base T0) i
 have hJ:∀ph:Ph,ph.gp= .cnt->Go.Sep.Closed Tryz.prog false (WJ (CY Mu Wg Is n bs base T0) i ph):=fun ph h=>Wk.closed (CY Mu Wg Is n bs base T0) i ph h
 refine cD.go (main:=false) a Tryz.func147 rfl Tryz.ntmps147 (by simp) fun A e hd hs=>?_
 have f:=hs 0
 clear hs
 repeat refine az (a _) ?_
 refine cQ a ?_
 refine xL qq ⟨_,_,_,rfl,(by first|rfl|simp only[*,go_sem,Int.reduceBEq,Int.reduceBNe]),rfl,by first|(simp only[*,go_sem,muA,msA,stA,smA,Int.reduceBEq,Int.reduceBNe];done)|(simp only[*,go_sem,muA,msA,stA,smA,Int.reduceBEq,Int.reduceBNe];rfl),rfl⟩ (by simp) (by simp) ?_
 refine ai.nil a ?_;try simp only[go_sem]
 repeat refine az (a _) ?_
 refine cQ a ?_
 refine ai.bw (hJ _ rfl) 3 (n:=1) _ rfl rfl ?_;simp only[*,go_sem,muA,msA,stA,smA,Int.reduceBEq,Int.reduceBNe]
 refine tq 0 1 tg b ⟨_,_,_,rfl,(by first|rfl|simp only[*,go_sem,Int.reduceBEq,Int.reduceBNe]),rfl,by first|(simp only[*,go_sem,muA,msA,stA,smA,Int.reduceBEq,Int.reduceBNe];done)|(simp only[*,go_sem,muA,msA,stA,smA,Int.reduceBEq,Int.reduceBNe];rfl),rfl⟩ (by rfl) (by simp) (fun φ ms C S W L m he hi hm=>⟨.held,⟨0,0,0,1,m,Hs hm hi _ (by rw[he]) rfl rfl⟩,?_⟩) (fun φ mu ms C S W L m he hi hm g=>⟨.idle,⟨C,S,W,L,m,mI hm hi _ (.inl (by rw[he]))⟩,?_⟩)
 ·refine ai.nil a ?_;try simp only[go_sem]
  repeat refine az (a _) ?_
  refine cP (a _) (by simp only[*,go_sem,Int.reduceBEq,Int.reduceBNe]) ?_
  repeat refine az (a _) ?_
  refine cP (a _) (by simp only[*,go_sem,Int.reduceBEq,Int.reduceBNe]) ?_
  repeat refine az (a _) ?_
  refine cQ a ?_
  refine tn lA ⟨_,_,_,rfl,(by first|rfl|simp only[*,go_sem,Int.reduceBEq,Int.reduceBNe]),rfl,by first|(simp only[*,go_sem,muA,msA,stA,smA,Int.reduceBEq,Int.reduceBNe];done)|(simp only[*,go_sem,muA,msA,stA,smA,Int.reduceBEq,Int.reduceBNe];rfl),rfl⟩ (by simp) (by simp) rfl ?_
  refine ai.nil a ?_;try simp only[go_sem]
  repeat refine az (a _) ?_
  refine cQ a ?_
  refine ai.bw (hJ _ rfl) 1 (n:=2) _ rfl rfl ?_;simp only[*,go_sem,muA,msA,stA,smA,Int.reduceBEq,Int.reduceBNe]
  refine tr ⟨Mu,0,none⟩ xC lB xE ⟨_,rfl,(by first|rfl|simp only[*,go_sem,Int.reduceBEq,Int.reduceBNe]),rfl,rfl⟩ (by simp) (by simp only[*,go_sem,muA,msA,stA,smA,Int.reduceBEq,Int.reduceBNe]) xN ?_
  refine Ch tf ⟨_,_,_,rfl,(by first|rfl|simp only[*,go_sem,Int.reduceBEq,Int.reduceBNe]),rfl,by first|(simp only[*,go_sem,muA,msA,stA,smA,Int.reduceBEq,Int.reduceBNe];done)|(simp only[*,go_sem,muA,msA,stA,smA,Int.reduceBEq,Int.reduceBNe];rfl),rfl⟩ (by rfl) ?_
  refine ai.nil a ?_;try simp only[go_sem]
  refine ff ?_;try simp only[go_sem]
  exact oo rfl (by simp only[*,go_sem]) ⟨rfl,rfl,rfl⟩
 ·refine ai.nil a ?_;try simp only[go_sem]
  repeat refine az (a _) ?_
  refine cB (a _) (by simp only[*,go_sem,Int.reduceBEq,Int.reduceBNe]) ?_
  refine cE (a _) ?_;try simp only[go_sem]
  repeat refine az (a _) ?_
  refine cQ a ?_
  refine ai.bw (hJ _ rfl) 1 (n:=1) _ rfl rfl ?_;simp only[*,go_sem,muA,msA,stA,smA,Int.reduceBEq,Int.reduceBNe]
  refine ai.fP (a _) rfl rfl rfl Ef (by simp only[*,go_sem,muA]) c fun v F' aH d=>?_
  obtain ⟨rfl,rfl,rfl⟩:=d
  refine ai.nil a ?_
  exact lu rfl (by simp only[*,go_sem]) ⟨rfl,rfl,rfl⟩
def iZ (C S W:Nat)(nw:Int)(G:Nat):Mp:=if S=1 then .oa else if 0<C/\W=0 then .fZ nw G else .fin
def ID (Mu n:Nat)(st:Bool)(F:af)(m:Nat)(a':Act)(F':af)(aH:Ph):Prop:=
 ∃(old:Int) (C S W L G:Nat),F'=F/\slot a' 0= .pointer (some ⟨Mu,0,none⟩)/\slot a' 4= .int .i32 old/\sz a'=43/\a'.defers=[]/\Wd old C S W L/\C<=3*n/\G<=m/\
   ((S=0/\L=0/\W=0/\0<C/\aH=⟨.fZ old G,.cnt,st,1⟩)\/(¬(S=0/\L=0/\W=0/\0<C)/\aH=⟨.fin,.cnt,st,1⟩))
theorem IE (j:Mu≠Wg/\Mu≠Is/\Wg≠Is)(hn:n<67108864){nw:Int}{C S W G:Nat}(hw:Wd nw C S W 0)(hC:C<=3*n):
  cD Tryz.prog (WJ (CY Mu Wg Is n bs base T0) i) 174 #[.pointer (some (muA Mu)),.int .i32 nw] F ⟨iZ C S W nw G,.cnt,st,1⟩ (fun v F' aH=>v= .tuple #[]/\F'=F/\aH=⟨.fin,.cnt,st,1⟩):=by
 have a:=WJ.eg (CY Mu Wg Is n bs base T0) i
 have hJ:∀ph:Ph,ph.gp= .cnt->Go.Sep.Closed Tryz.prog false (WJ (CY Mu Wg Is n bs base T0) i ph):=fun ph h=>Wk.closed (CY Mu Wg Is n bs base T0) i ph h
 refine cD.go (main:=false) a Tryz.func174 rfl Tryz.ntmps174 (by simp) fun A y hd hs=>?_
 have z:=hs 0
 have k1:=hs 1
 clear hs
 have B:=hw.st.s
 have hW:=hw.st.w
 have w1:IntKind.i32.wrap (nw+1)=nw+1:=by have e0:=hw.st.eq;exact ig (by omega) (by omega)
 have D:Wd (nw+1) C S W 1:=by have e0:=hw.st.eq;exact wd ⟨by omega,by omega,hW,B⟩ (by omega)
 have M:dM (nw+1) 1=1:=D.a1
 repeat refine az (a _) ?_
 refine cQ a ?_
 refine ai.bw (hJ _ rfl) 4 (n:=0) _ rfl rfl ?_;simp only[*,go_sem,muA,msA,stA,smA,Int.reduceBEq,Int.reduceBNe]
 refine ai.nil a ?_;try simp only[go_sem]
 repeat refine az (a _) ?_
 refine cB (a _) (by simp only[*,go_sem,Int.reduceBEq,Int.reduceBNe]) ?_
 refine cE (a _) ?_;try simp only[go_sem]
 rcases (by omega:S=1\/S=0) with rfl|rfl
 ·
  have b4:dM nw 4=4:=hw.a4
  repeat refine az (a _) ?_
  refine cQ a ?_
  refine ai.bw (hJ _ rfl) 3 (n:=0) _ rfl rfl ?_;simp only[*,go_sem,muA,msA,stA,smA,Int.reduceBEq,Int.reduceBNe]
  refine ai.nil a ?_;try simp only[go_sem]
  repeat refine az (a _) ?_
  refine cB (a _) (by simp only[*,go_sem,Int.reduceBEq,Int.reduceBNe]) ?_
  repeat refine az (a _) ?_
  refine cQ a ?_
  refine ai.bw (hJ _ rfl) 3 (n:=1) _ rfl rfl ?_;simp only[*,go_sem,muA,msA,stA,smA,Int.reduceBEq,Int.reduceBNe]
  refine Ci (.bool true) (.int .i64 2) B6 j ⟨_,_,_,rfl,(by first|rfl|simp only[*,go_sem,Int.reduceBEq,Int.reduceBNe]),rfl,by first|(simp only[*,go_sem,muA,msA,stA,smA,Int.reduceBEq,Int.reduceBNe];done)|(simp only[*,go_sem,muA,msA,stA,smA,Int.reduceBEq,Int.reduceBNe];rfl),rfl⟩ (by rfl) (by simp[iZ]) ?_
  refine ai.nil a ?_;try simp only[go_sem]
  exact lu rfl (by simp only[*,go_sem]) ⟨rfl,rfl,rfl⟩
 ·have b4:dM nw 4=0:=hw.a4
  repeat refine az (a _) ?_
  refine cQ a ?_
  refine ai.bw (hJ _ rfl) 3 (n:=0) _ rfl rfl ?_;simp only[*,go_sem,muA,msA,stA,smA,Int.reduceBEq,Int.reduceBNe]
  refine ai.nil a ?_;try simp only[go_sem]
  repeat refine az (a _) ?_
  refine cP (a _) (by simp only[*,go_sem,Int.reduceBEq,Int.reduceBNe]) ?_
  repeat refine az (a _) ?_
  refine cQ a ?_
  refine ai.bw (hJ _ rfl) 2 (n:=0) _ rfl rfl ?_;simp only[*,go_sem,muA,msA,stA,smA,Int.reduceBEq,Int.reduceBNe]
  refine ai.nil a ?_;try simp only[go_sem]
  repeat refine az (a _) ?_
  refine jF a ?_
  refine qp a (fun m a' F' aH=>ID Mu n st F m a' F' aH) G ?_ ?_
  ·refine ⟨nw,C,0,W,0,G,rfl,by simp only[*,go_sem,muA],by simp only[*,go_sem],by simp only[*,go_sem],by simp only[*,go_sem],hw,hC,Nat.le_refl _,?_⟩
   by_cases f:0<C/\W=0
   ·exact .inl ⟨rfl,rfl,f.2,f.1,by simp[iZ,f]⟩
   ·exact .inr ⟨fun x=>f ⟨x.2.2.2,x.2.2.1⟩,by simp[iZ,f]⟩
  ·clear hw hC b4 M D w1 B hW z k1 y hd
   rintro m A F' aH ⟨old,C,S,W,L,G,rfl,z,ab,y,hd,hw,hC,ad,N⟩
   repeat refine az (a _) ?_
   refine jF a ?_
   have sh:old.fdiv 8=(C:Int):=hw.sh
   rcases N with ⟨rfl,rfl,rfl,k,rfl⟩|⟨ae,rfl⟩
   ·
    have O:dM old 7=0:=hw.a7
    have E:((C:Int)==0)=false:=by simp;omega
    repeat refine az (a _) ?_
    refine cQ a ?_
    refine ai.bw (hJ _ rfl) 1 (n:=7) _ rfl rfl ?_;simp only[*,go_sem,muA,msA,stA,smA,Int.reduceBEq,Int.reduceBNe]
    refine ai.mM old (C:Int) (a _) ⟨_,rfl,(by first|rfl|simp only[*,go_sem,Int.reduceBEq,Int.reduceBNe]),rfl,rfl⟩ (by simp only[*,go_sem,muA,msA,stA,smA,Int.reduceBEq,Int.reduceBNe]) (by simp only[*,go_sem,muA,msA,stA,smA,Int.reduceBEq,Int.reduceBNe]) hw.sh ?_
    refine ai.bw (hJ _ rfl) 6 (n:=0) _ rfl rfl ?_;simp only[*,go_sem,muA,msA,stA,smA,Int.reduceBEq,Int.reduceBNe]
    refine ai.nil a ?_;try simp only[go_sem]
    repeat refine az (a _) ?_
    refine cB (a _) (by simp only[*,go_sem,Int.reduceBEq,Int.reduceBNe]) ?_
    refine cE (a _) ?_;try simp only[go_sem]
    have al:IntKind.i32.wrap (old - 8)=old - 8:=by have e0:=hw.st.eq;exact ig (by omega) (by omega)
    have P:Wd (old - 8) (C - 1) 0 0 0:=by have e0:=hw.st.eq;exact wd ⟨by omega,by omega,by omega,by omega⟩ (by omega)
    have o2:iU (old - 8) 2=old - 8+2:=P.o2
    repeat refine az (a _) ?_
    refine cQ a ?_
    refine ai.bw (hJ _ rfl) 4 (n:=0) _ rfl rfl ?_;simp only[*,go_sem,muA,msA,stA,smA,Int.reduceBEq,Int.reduceBNe]
    refine ai.nil a ?_;try simp only[go_sem]
    repeat refine az (a _) ?_
    refine cQ a ?_
    refine ai.bw (hJ _ rfl) 5 (n:=1) _ rfl rfl ?_;simp only[*,go_sem,muA,msA,stA,smA,Int.reduceBEq,Int.reduceBNe]
    refine tq old (old - 8+2) tg j ⟨_,_,_,rfl,(by first|rfl|simp only[*,go_sem,Int.reduceBEq,Int.reduceBNe]),rfl,by first|(simp only[*,go_sem,muA,msA,stA,smA,Int.reduceBEq,Int.reduceBNe];done)|(simp only[*,go_sem,muA,msA,stA,smA,Int.reduceBEq,Int.reduceBNe];rfl),rfl⟩ (by rfl) (by simp) (fun φ ms Q R T U l he hi hm=>?_) (fun φ mu ms Q R T U l he hi hm V=>?_)
    ·obtain ⟨rfl,rfl,rfl,rfl⟩:=hm.st.uniq hw.st
     refine ⟨.n9,⟨_,_,_,_,l,HB hm hi _ (by rw[he]) rfl rfl rfl rfl k⟩,?_⟩
     refine ai.nil a ?_;try simp only[go_sem]
     repeat refine az (a _) ?_
     refine cP (a _) (by simp only[*,go_sem,Int.reduceBEq,Int.reduceBNe]) ?_
     repeat refine az (a _) ?_
     refine cQ a ?_
     refine ai.bw (hJ _ rfl) 3 (n:=1) _ rfl rfl ?_;simp only[*,go_sem,muA,msA,stA,smA,Int.reduceBEq,Int.reduceBNe]
     refine Ci (.bool false) (.int .i64 2) B6 j ⟨_,_,_,rfl,(by first|rfl|simp only[*,go_sem,Int.reduceBEq,Int.reduceBNe]),rfl,by first|(simp only[*,go_sem,muA,msA,stA,smA,Int.reduceBEq,Int.reduceBNe];done)|(simp only[*,go_sem,muA,msA,stA,smA,Int.reduceBEq,Int.reduceBNe];rfl),rfl⟩ (by rfl) (by simp) ?_
     refine ai.nil a ?_;try simp only[go_sem]
     refine ff ?_;try simp only[go_sem]
     exact oo rfl (by simp only[*,go_sem]) ⟨rfl,rfl,rfl⟩
    ·obtain ⟨X,ao,Y⟩:=HC hm hi {mp:=.fZ mu (bL n φ ms),gp:=.cnt,stored:=st,deaf:=1} (by rw[he]) rfl
     have ar:bL n φ ms<G:=Y V
     refine ⟨.fZ mu (bL n φ ms),⟨_,_,_,_,l,X⟩,?_⟩
     refine ai.nil a ?_;try simp only[go_sem]
     repeat refine az (a _) ?_
     refine cB (a _) (by simp only[*,go_sem,Int.reduceBEq,Int.reduceBNe]) ?_
     refine cE (a _) ?_;try simp only[go_sem]
     repeat refine az (a _) ?_
     refine cQ a ?_
     refine ai.bw (hJ _ rfl) 3 (n:=2) _ rfl rfl ?_;simp only[*,go_sem,muA,msA,stA,smA,Int.reduceBEq,Int.reduceBNe]
     refine ou It oq ⟨_,rfl,(by first|rfl|simp only[*,go_sem,Int.reduceBEq,Int.reduceBNe]),rfl,rfl⟩ (by rfl) (by simp only[*,go_sem,muA,msA,stA,smA,Int.reduceBEq,Int.reduceBNe]) (fun c g d o p q r H I J e=>?_)
     have K:=wd e.st (by have:=e.bound;simp only[CY] at this;omega)
     by_cases b:p=0/\r=0/\q=0/\0<o
     ·obtain ⟨t,u,_⟩:=BI e J {mp:=.fZ g (bL n c d),gp:=.cnt,stored:=st,deaf:=1} (by rw[I]) (.inl ⟨b.1,b.2.1,b.2.2.1,b.2.2.2,rfl⟩)
      have Z:bL n c d<=bL n φ ms:=u
      refine ⟨.fZ g (bL n c d),⟨_,_,_,_,H,t⟩,?_⟩
      refine ai.bw (hJ _ rfl) 1 (n:=0) _ rfl rfl ?_;simp only[*,go_sem,muA,msA,stA,smA,Int.reduceBEq,Int.reduceBNe]
      refine ai.nil a ?_;try simp only[go_sem]
      exact ⟨bL n c d,by omega,g,o,p,q,r,bL n c d,rfl,(by simp only[*,go_sem,muA,msA,stA,smA,Int.reduceBEq,Int.reduceBNe]),(by simp only[*,go_sem,muA,msA,stA,smA,Int.reduceBEq,Int.reduceBNe]),(by simp only[*,go_sem,muA,msA,stA,smA,Int.reduceBEq,Int.reduceBNe]),(by simp only[*,go_sem,muA,msA,stA,smA,Int.reduceBEq,Int.reduceBNe]),K,e.bound,Nat.le_refl _,.inl ⟨b.1,b.2.1,b.2.2.1,b.2.2.2,rfl⟩⟩
     ·obtain ⟨t,u,_⟩:=BI e J {mp:=.fin,gp:=.cnt,stored:=st,deaf:=1} (by rw[I]) (.inr ⟨b,rfl⟩)
      have Z:bL n c d<=bL n φ ms:=u
      refine ⟨.fin,⟨_,_,_,_,H,t⟩,?_⟩
      refine ai.bw (hJ _ rfl) 1 (n:=0) _ rfl rfl ?_;simp only[*,go_sem,muA,msA,stA,smA,Int.reduceBEq,Int.reduceBNe]
      refine ai.nil a ?_;try simp only[go_sem]
      exact ⟨bL n c d,by omega,g,o,p,q,r,bL n c d,rfl,(by simp only[*,go_sem,muA,msA,stA,smA,Int.reduceBEq,Int.reduceBNe]),(by simp only[*,go_sem,muA,msA,stA,smA,Int.reduceBEq,Int.reduceBNe]),(by simp only[*,go_sem,muA,msA,stA,smA,Int.reduceBEq,Int.reduceBNe]),(by simp only[*,go_sem,muA,msA,stA,smA,Int.reduceBEq,Int.reduceBNe]),K,e.bound,Nat.le_refl _,.inr ⟨b,rfl⟩⟩
   ·
    by_cases k:C=0
    ·have E:((C:Int)==0)=true:=by simp[k]
     repeat refine az (a _) ?_
     refine cQ a ?_
     refine ai.bw (hJ _ rfl) 1 (n:=7) _ rfl rfl ?_;simp only[*,go_sem,muA,msA,stA,smA,Int.reduceBEq,Int.reduceBNe]
     refine ai.mM old (C:Int) (a _) ⟨_,rfl,(by first|rfl|simp only[*,go_sem,Int.reduceBEq,Int.reduceBNe]),rfl,rfl⟩ (by simp only[*,go_sem,muA,msA,stA,smA,Int.reduceBEq,Int.reduceBNe]) (by simp only[*,go_sem,muA,msA,stA,smA,Int.reduceBEq,Int.reduceBNe]) hw.sh ?_
     refine ai.bw (hJ _ rfl) 6 (n:=0) _ rfl rfl ?_;simp only[*,go_sem,muA,msA,stA,smA,Int.reduceBEq,Int.reduceBNe]
     refine ai.nil a ?_;try simp only[go_sem]
     repeat refine az (a _) ?_
     refine cP (a _) (by simp only[*,go_sem,Int.reduceBEq,Int.reduceBNe]) ?_
     refine ff ?_;try simp only[go_sem]
     exact oo rfl (by simp only[*,go_sem]) ⟨rfl,rfl,rfl⟩
    ·have E:((C:Int)==0)=false:=by simp;omega
     have O:=hw.a7
     have a0:(((4*S+(2*W+L):Nat):Int) != 0)=true:=by simp;omega
     repeat refine az (a _) ?_
     refine cQ a ?_
     refine ai.bw (hJ _ rfl) 1 (n:=7) _ rfl rfl ?_;simp only[*,go_sem,muA,msA,stA,smA,Int.reduceBEq,Int.reduceBNe]
     refine ai.mM old (C:Int) (a _) ⟨_,rfl,(by first|rfl|simp only[*,go_sem,Int.reduceBEq,Int.reduceBNe]),rfl,rfl⟩ (by simp only[*,go_sem,muA,msA,stA,smA,Int.reduceBEq,Int.reduceBNe]) (by simp only[*,go_sem,muA,msA,stA,smA,Int.reduceBEq,Int.reduceBNe]) hw.sh ?_
     refine ai.bw (hJ _ rfl) 6 (n:=0) _ rfl rfl ?_;simp only[*,go_sem,muA,msA,stA,smA,Int.reduceBEq,Int.reduceBNe]
     refine ai.nil a ?_;try simp only[go_sem]
     repeat refine az (a _) ?_
     refine cP (a _) (by simp only[*,go_sem,Int.reduceBEq,Int.reduceBNe]) ?_
     refine ff ?_;try simp only[go_sem]
     exact oo rfl (by simp only[*,go_sem]) ⟨rfl,rfl,rfl⟩
theorem IF (d:Mu≠Wg/\Mu≠Is/\Wg≠Is)(hn:n<67108864):
  cD Tryz.prog (WJ (CY Mu Wg Is n bs base T0) i) 148 #[.pointer (some (muA Mu))] F ⟨.held,.cnt,st,0⟩ (fun v F' aH=>v= .tuple #[]/\F'=F/\aH=⟨.fin,.cnt,st,0⟩):=by
 have a:=WJ.eg (CY Mu Wg Is n bs base T0) i
 have hJ:∀ph:Ph,ph.gp= .cnt->Go.Sep.Closed Tryz.prog false (WJ (CY Mu Wg Is n bs base T0) i ph):=fun ph h=>Wk.closed (CY Mu Wg Is n bs base T0) i ph h
 refine cD.go (main:=false) a Tryz.func148 rfl Tryz.ntmps148 (by simp) fun A r hd hs=>?_
 have t:=hs 0
 clear hs
 repeat refine az (a _) ?_
 refine cP (a _) (by simp only[*,go_sem,Int.reduceBEq,Int.reduceBNe]) ?_
 repeat refine az (a _) ?_
 refine cQ a ?_
 refine ai.bw (hJ _ rfl) 3 (n:=1) _ rfl rfl ?_;simp only[*,go_sem,muA,msA,stA,smA,Int.reduceBEq,Int.reduceBNe]
 refine ou Ir oq ⟨_,rfl,(by first|rfl|simp only[*,go_sem,Int.reduceBEq,Int.reduceBNe]),rfl,rfl⟩ (by rfl) (by simp only[*,go_sem,muA,msA,stA,smA,Int.reduceBEq,Int.reduceBNe]) (fun u x y z B D E f g j k=>⟨.held,⟨_,_,_,_,f,mI k j _ (.inl (by rw[g]))⟩,?_⟩)
 refine ai.nil a ?_;try simp only[go_sem]
 repeat refine az (a _) ?_
 refine cQ a ?_
 refine ai.bw (hJ _ rfl) 1 (n:=2) _ rfl rfl ?_;simp only[*,go_sem,muA,msA,stA,smA,Int.reduceBEq,Int.reduceBNe]
 refine tr ⟨Mu,0,none⟩ xC lB xE ⟨_,rfl,(by first|rfl|simp only[*,go_sem,Int.reduceBEq,Int.reduceBNe]),rfl,rfl⟩ (by simp) (by simp only[*,go_sem,muA,msA,stA,smA,Int.reduceBEq,Int.reduceBNe]) xN ?_
 refine Ix B5 ⟨_,_,_,rfl,(by first|rfl|simp only[*,go_sem,Int.reduceBEq,Int.reduceBNe]),rfl,by first|(simp only[*,go_sem,muA,msA,stA,smA,Int.reduceBEq,Int.reduceBNe];done)|(simp only[*,go_sem,muA,msA,stA,smA,Int.reduceBEq,Int.reduceBNe];rfl),rfl⟩ (by rfl) ?_
 refine ai.nil a ?_;try simp only[go_sem]
 repeat refine az (a _) ?_
 refine cQ a ?_
 refine xL qq ⟨_,_,_,rfl,(by first|rfl|simp only[*,go_sem,Int.reduceBEq,Int.reduceBNe]),rfl,by first|(simp only[*,go_sem,muA,msA,stA,smA,Int.reduceBEq,Int.reduceBNe];done)|(simp only[*,go_sem,muA,msA,stA,smA,Int.reduceBEq,Int.reduceBNe];rfl),rfl⟩ (by simp) (by simp) ?_
 refine ai.nil a ?_;try simp only[go_sem]
 repeat refine az (a _) ?_
 refine cQ a ?_
 refine ai.bw (hJ _ rfl) 3 (n:=2) _ rfl rfl ?_;simp only[*,go_sem,muA,msA,stA,smA,Int.reduceBEq,Int.reduceBNe]
 refine xM (-1) xA d ⟨_,_,_,rfl,(by first|rfl|simp only[*,go_sem,Int.reduceBEq,Int.reduceBNe]),rfl,by first|(simp only[*,go_sem,muA,msA,stA,smA,Int.reduceBEq,Int.reduceBNe];done)|(simp only[*,go_sem,muA,msA,stA,smA,Int.reduceBEq,Int.reduceBNe];rfl),rfl⟩ (by rfl) (by simp) (fun φ mu ms C S W L m he hi hm=>?_)
 have l:=BH hm hi (by rw[he])
 subst l
 have hb:C<=3*n:=hm.bound
 have o:=hm.st.s
 have hW:=hm.st.w
 have b:IntKind.i32.wrap (mu+ -1)=mu - 1:=by have e0:=hm.st.eq;exact ig (by omega) (by omega)
 have e:St (mu - 1) C S W 0:=⟨by have e0:=hm.st.eq;omega,by omega,hW,o⟩
 have hw:Wd (mu - 1) C S W 0:=wd e (by omega)
 have c:cp n (upd φ i ⟨iZ C S W (mu - 1) (sm n φ Mp.wt+2*m),.cnt,st,1⟩) (mu - 1) ms C S W 0 m:=by
  refine HA hm hi _ (by rw[he]) ?_
  by_cases h1:S=1
  ·exact .inl ⟨h1,by simp[iZ,h1]⟩
  ·by_cases h2:0<C/\W=0
   ·exact .inr (.inl ⟨by omega,h2.1,h2.2,by simp[iZ,h1,h2]⟩)
   ·exact .inr (.inr ⟨by omega,by omega,by simp[iZ,h1,h2]⟩)
 refine ⟨iZ C S W (mu - 1) (sm n φ Mp.wt+2*m),mu - 1,b,⟨_,_,_,_,m,c⟩,?_⟩
 refine ai.bw (hJ _ rfl) 1 (n:=0) _ rfl rfl ?_;simp only[*,go_sem,muA,msA,stA,smA,Int.reduceBEq,Int.reduceBNe]
 refine ai.nil a ?_;try simp only[go_sem]
 by_cases h0:mu - 1=0
 ·have e0:=e.eq
  have p:iZ C S W (mu - 1) (sm n φ Mp.wt+2*m)= .fin:=by
   have:C=0:=by omega
   have:S=0:=by omega
   simp[iZ, *]
  clear hw c b e0
  rw[p]
  rw[h0]
  repeat refine az (a _) ?_
  refine cQ a ?_
  refine ai.bw (hJ _ rfl) 2 (n:=0) _ rfl rfl ?_;simp only[*,go_sem,muA,msA,stA,smA,Int.reduceBEq,Int.reduceBNe]
  refine ai.nil a ?_;try simp only[go_sem]
  repeat refine az (a _) ?_
  refine cB (a _) (by simp only[*,go_sem,Int.reduceBEq,Int.reduceBNe]) ?_
  refine cE (a _) ?_;try simp only[go_sem]
  repeat refine az (a _) ?_
  refine cQ a ?_
  refine tn lA ⟨_,_,_,rfl,(by first|rfl|simp only[*,go_sem,Int.reduceBEq,Int.reduceBNe]),rfl,by first|(simp only[*,go_sem,muA,msA,stA,smA,Int.reduceBEq,Int.reduceBNe];done)|(simp only[*,go_sem,muA,msA,stA,smA,Int.reduceBEq,Int.reduceBNe];rfl),rfl⟩ (by simp) (by simp) rfl ?_
  refine ai.nil a ?_;try simp only[go_sem]
  exact lu rfl (by simp only[*,go_sem]) ⟨rfl,rfl,rfl⟩
 ·have G:(mu - 1 != 0)=true:=by simpa using h0
  clear c b h0
  repeat refine az (a _) ?_
  refine cQ a ?_
  refine ai.bw (hJ _ rfl) 2 (n:=0) _ rfl rfl ?_;simp only[*,go_sem,muA,msA,stA,smA,Int.reduceBEq,Int.reduceBNe]
  refine ai.nil a ?_;try simp only[go_sem]
  repeat refine az (a _) ?_
  refine cP (a _) (by simp only[*,go_sem,Int.reduceBEq,Int.reduceBNe]) ?_
  repeat refine az (a _) ?_
  refine cQ a ?_
  refine ai.bw (hJ _ rfl) 2 (n:=1) _ rfl rfl ?_;simp only[*,go_sem,muA,msA,stA,smA,Int.reduceBEq,Int.reduceBNe]
  refine ai.fP (a _) rfl rfl rfl Eg (by simp only[*,go_sem,muA]) (IE d hn hw hb) fun v F' aH q=>?_
  obtain ⟨rfl,rfl,rfl⟩:=q
  refine ai.nil a ?_;try simp only[go_sem]
  repeat refine az (a _) ?_
  refine cQ a ?_
  refine tn lA ⟨_,_,_,rfl,(by first|rfl|simp only[*,go_sem,Int.reduceBEq,Int.reduceBNe]),rfl,by first|(simp only[*,go_sem,muA,msA,stA,smA,Int.reduceBEq,Int.reduceBNe];done)|(simp only[*,go_sem,muA,msA,stA,smA,Int.reduceBEq,Int.reduceBNe];rfl),rfl⟩ (by simp) (by simp) rfl ?_
  refine ai.nil a ?_;try simp only[go_sem]
  exact lu rfl (by simp only[*,go_sem]) ⟨rfl,rfl,rfl⟩
end
end Go.Proofs.YtjepffnffjdloaaGreatDoor
end
section
namespace Go.Sep
open Go Go.Conc
def tu {S:Type}(b:Act->af->S->Prop)(Q:Ex->Act->af->S->Prop):Ex->Act->af->S->Prop
 | .normal,a,F,ph=>b a F ph
 |e,a,F,ph=>Q e a F ph
attribute [go_sem] tu
theorem kD {P:Program}{main:Bool}{S:Type}{JF:S->Goroutine->af->Prop}{fi:FuncId}{Q:Ex->Act->af->S->Prop}{a:Act}{F:af}{ph:S}(c:∀ph,dN P main (JF ph)){x y:Code}(b:Act->af->S->Prop)
  (h1:cH JF fi x (tu b Q) a F ph) (h2:∀a F ph,b a F ph->cH JF fi y Q a F ph):cH JF fi (.seq x y) Q a F ph:=
 az (c _) (h1.mono fun e a F ph h=>by
  cases e with
  |normal=>exact h2 a F ph h
  |exit i=>exact h
  |ret=>exact h)
theorem tv {P:Program}{main:Bool}{S:Type}{JF:S->Goroutine->af->Prop}{fi:FuncId}{Q:Ex->Act->af->S->Prop}{a:Act}{F:af}{ph:S}(c:∀ph,dN P main (JF ph)){x:Code}(b:Act->af->S->Prop)
  (h1:cH JF fi x (tu b Q) a F ph) (h2:∀a F ph,b a F ph->Q .normal a F ph):cH JF fi x Q a F ph:=
 h1.mono fun e a F ph h=>by
  cases e with
  |normal=>exact h2 a F ph h
  |exit i=>exact h
  |ret=>exact h
theorem aU {P:Program}{main:Bool}{S:Type}{JF:S->Goroutine->af->Prop}{fi:FuncId}{Q:Ex->Act->af->S->Prop}{a:Act}{F:af}{ph:S}(b:∀ph,dN P main (JF ph)){id:Nat}{ops:Array Oper}
  (h:∀K:Act->af->S->Prop,(∀a F ph,Q .normal a F ph->K a F ph)->ai JF fi ops 0 ops.size K a F ph):cH JF fi (.region id ops false) Q a F ph:=cQ b (h _ fun _ _ _ h=>h)
theorem ep {S:Type}{b:Act->af->S->Prop}{Q:Ex->Act->af->S->Prop}{a:Act}{F:af}{ph:S}(h:b a F ph):tu b Q .normal a F ph:=h
theorem iL {S:Type}{I:Nat->Act->af->S->Prop}{n:Nat}{Q:Ex->Act->af->S->Prop}{a:Act}{F:af}{ph:S}(h:∃m,m<n/\I m a F ph):xy I n Q .normal a F ph:=h
theorem IG {x:Int}(h1: -9223372036854775808<=x)(h2:x<9223372036854775808):IntKind.i64.wrap x=x:=by
 unfold IntKind.wrap
 simp[IntKind.bits,IntKind.signed]
 omega
end Go.Sep
namespace Go.Proofs.YtjepffnffjdloaaGreatDoor
open Go Go.Sep Go.Proofs Go.Conc
open Go.ConcN (upd upd_same)
open Go.ConcM (muA msA)
open Go.ConcR (stA smA)
set_option maxRecDepth 100000
set_option maxHeartbeats 8000000
set_option linter.all false
def tw (Mu n:Nat)(st:Bool)(F:af)(m:Nat)(a:Act)(F':af)(ph:Ph):Prop:=
 ∃(wt it old:Int) (sv aw:Bool) (C S W L G:Nat),F'=F/\slot a 0= .pointer (some ⟨Mu,0,none⟩)/\slot a 2= .int .i64 wt/\slot a 3= .bool sv/\slot a 4= .bool aw/\slot a 5= .int .i64 it/\slot a 6= .int .i32 old/\sz a=139/\a.defers=[]/\
  Wd old C S W L/\C<=3*n/\0<=it/\it<=4/\(sv=true->aw=true)/\(aw=true->S=0/\W=1)/\8*G+(5 - it).toNat<=m/\ph=⟨.want aw old G,.cnt,st,1⟩
def tA (Mu:Nat)(st:Bool)(F:af)(a:Act)(F':af)(ph:Ph):Prop:=F'=F/\slot a 0= .pointer (some ⟨Mu,0,none⟩)/\sz a=139/\a.defers=[]/\ph=⟨.held,.cnt,st,1⟩
def II (Mu:Nat)(st:Bool)(F:af)(wt it:Int)(sv:Bool)(G:Nat)(a:Act)(F':af)(ph:Ph):Prop:=
 ∃(aw:Bool) (o:Int) (b:Nat),F'=F/\slot a 0= .pointer (some ⟨Mu,0,none⟩)/\slot a 2= .int .i64 wt/\slot a 3= .bool sv/\slot a 4= .bool aw/\slot a 5= .int .i64 it/\sz a=139/\a.defers=[]/\(sv=true->aw=true)/\b<=G/\ph=⟨.want aw o b,.cnt,st,1⟩
def qu (Mu:Nat)(st:Bool)(F:af)(wt it old:Int)(x:Option Int)(sv aw:Bool)(G:Nat)(a:Act)(F':af)(ph:Ph):Prop:=
 F'=F/\slot a 0= .pointer (some ⟨Mu,0,none⟩)/\slot a 2= .int .i64 wt/\slot a 3= .bool sv/\slot a 4= .bool aw/\slot a 5= .int .i64 it/\slot a 6= .int .i32 old/\(∀y,x=some y->slot a 7= .int .i32 y)/\sz a=139/\a.defers=[]/\ph=⟨.want aw old G,.cnt,st,1⟩
def Ck (Mu:Nat)(st:Bool)(F:af)(sv:Bool)(mp:Mp)(a:Act)(F':af)(ph:Ph):Prop:=
 ∃wt:Int,F'=F/\slot a 0= .pointer (some ⟨Mu,0,none⟩)/\slot a 2= .int .i64 wt/\slot a 3= .bool sv/\sz a=139/\a.defers=[]/\ph=⟨mp,.cnt,st,1⟩
def Cl (Mu:Nat)(st:Bool)(F:af)(mp:Mp)(a:Act)(F':af)(ph:Ph):Prop:=
 ∃(wt:Int) (sv:Bool),F'=F/\slot a 0= .pointer (some ⟨Mu,0,none⟩)/\slot a 2= .int .i64 wt/\slot a 3= .bool sv/\sz a=139/\a.defers=[]/\ph=⟨mp,.cnt,st,1⟩
def IJ (Mu:Nat)(st:Bool)(F:af)(y:Bool)(a:Act)(F':af)(ph:Ph):Prop:=
 ∃e:Bool,F'=F/\slot a 0= .pointer (some ⟨Mu,0,none⟩)/\slot a 9= .int .i32 (-7)/\slot a 123= .bool e/\sz a=139/\a.defers=[]/\(e=false->y=true)/\ph=⟨.kA y,.cnt,st,1⟩
section
variable {Mu Wg Is n base T0 i : Nat} {bs : Nat → Bool} {st : Bool} {F : af}
theorem IK (a7:Mu≠Wg/\Mu≠Is/\Wg≠Is)(hn:n<67108864):
  cD Tryz.prog (WJ (CY Mu Wg Is n bs base T0) i) 172 #[.pointer (some (muA Mu))] F ⟨.idle,.cnt,st,1⟩ (fun v F' aH=>v= .tuple #[]/\F'=F/\aH=⟨.held,.cnt,st,0⟩):=by
 have a:=WJ.eg (CY Mu Wg Is n bs base T0) i
 have hJ:∀ph:Ph,ph.gp= .cnt->Go.Sep.Closed Tryz.prog false (WJ (CY Mu Wg Is n bs base T0) i ph):=fun ph h=>Wk.closed (CY Mu Wg Is n bs base T0) i ph h
 refine cD.go (main:=false) a Tryz.func172 rfl Tryz.ntmps172 (by simp) fun A d hd hs=>?_
 have f:=hs 0
 clear hs
 repeat refine az (a _) ?_
 refine aU a fun K b=>?_
 refine ai.bw (hJ _ rfl) 1 (n:=0) _ rfl rfl ?_;simp only[*,go_sem,-b,-a,-hJ,muA,msA,stA,smA,Int.reduceBEq,Int.reduceBNe]
 refine ai.nil a (b _ _ _ ?_);clear b K
 repeat refine az (a _) ?_
 refine aU a fun K b=>?_
 refine ai.bw (hJ _ rfl) 1 (n:=0) _ rfl rfl ?_;simp only[*,go_sem,-b,-a,-hJ,muA,msA,stA,smA,Int.reduceBEq,Int.reduceBNe]
 refine ai.nil a (b _ _ _ ?_);clear b K
 repeat refine az (a _) ?_
 refine aU a fun K b=>?_
 refine ai.bw (hJ _ rfl) 1 (n:=0) _ rfl rfl ?_;simp only[*,go_sem,-b,-a,-hJ,muA,msA,stA,smA,Int.reduceBEq,Int.reduceBNe]
 refine ai.nil a (b _ _ _ ?_);clear b K
 repeat refine az (a _) ?_
 refine aU a fun K b=>?_
 refine ai.bw (hJ _ rfl) 1 (n:=0) _ rfl rfl ?_;simp only[*,go_sem,-b,-a,-hJ,muA,msA,stA,smA,Int.reduceBEq,Int.reduceBNe]
 refine ai.nil a (b _ _ _ ?_);clear b K
 repeat refine az (a _) ?_
 refine aU a fun K b=>?_
 refine ai.bw (hJ _ rfl) 3 (n:=2) _ rfl rfl ?_;simp only[*,go_sem,-b,-a,-hJ,muA,msA,stA,smA,Int.reduceBEq,Int.reduceBNe]
 refine ou th oq ⟨_,rfl,(by first|(simp only[*,go_sem,-b,-a,-hJ];done)|rfl),rfl,rfl⟩ (by rfl) (by simp only[*,go_sem,-b,-a,-hJ,muA,msA,stA,smA,Int.reduceBEq,Int.reduceBNe]) (fun φ mu ms C S W L m he hi hm=>⟨.want false mu (bL n φ ms),⟨_,_,_,_,m,Ht hm hi _ (by rw[he]) rfl⟩,?_⟩)
 have hw:=wd hm.st (by have:C<=3*n:=hm.bound;omega)
 have hC:C<=3*n:=hm.bound
 refine ai.bw (hJ _ rfl) 1 (n:=0) _ rfl rfl ?_;simp only[*,go_sem,-b,-a,-hJ,muA,msA,stA,smA,Int.reduceBEq,Int.reduceBNe]
 refine ai.nil a (b _ _ _ ?_);clear b K
 refine kD a (tA Mu st F) ?_ ?_
 ·repeat refine az (a _) ?_
  refine jF a ?_
  refine qp a (tw Mu n st F) (8*bL n φ ms+5) ?_ ?_
  ·exact ⟨0,0,mu,false,false,C,S,W,L,bL n φ ms,rfl,(by simp only[*,go_sem,-a,-hJ,muA,msA,stA,smA,Int.reduceBEq,Int.reduceBNe]),(by simp only[*,go_sem,-a,-hJ,muA,msA,stA,smA,Int.reduceBEq,Int.reduceBNe]),(by simp only[*,go_sem,-a,-hJ,muA,msA,stA,smA,Int.reduceBEq,Int.reduceBNe]),(by simp only[*,go_sem,-a,-hJ,muA,msA,stA,smA,Int.reduceBEq,Int.reduceBNe]),(by simp only[*,go_sem,-a,-hJ,muA,msA,stA,smA,Int.reduceBEq,Int.reduceBNe]),(by simp only[*,go_sem,-a,-hJ,muA,msA,stA,smA,Int.reduceBEq,Int.reduceBNe]),(by simp only[*,go_sem,-a,-hJ,muA,msA,stA,smA,Int.reduceBEq,Int.reduceBNe]),(by simp only[*,go_sem,-a,-hJ,muA,msA,stA,smA,Int.reduceBEq,Int.reduceBNe]),hw,hC,by omega,by omega,by simp,by simp,by simp,rfl⟩
  ·clear hw hC hm hi he d hd f
   rintro m A F' aH ⟨wt,it,old,sv,aw,C,S,W,L,G,rfl,f,k,o,z,D,I,d,hd,hw,hC,fa,fb,V,X,fg,rfl⟩
   have cS:S=0\/S=1:=by have:=hw.st.s;omega
   have a8:L=0\/L=1:=by have:=hw.st.l;omega
   have bj:W=0\/W=1:=by have:=hw.st.w;omega
   repeat refine az (a _) ?_
   refine jF a ?_
   refine kD a (qu Mu st F' wt it old none sv aw G) ?_ ?_
   ·
    by_cases Y:S=0/\L=1
    ·obtain ⟨rfl,rfl⟩:=Y
     have b5:dM old 5=1:=hw.a5
     repeat refine az (a _) ?_
     refine aU a fun K b=>?_
     refine ai.bw (hJ _ rfl) 5 (n:=2) _ rfl rfl ?_;simp only[*,go_sem,-b,-a,-hJ,muA,msA,stA,smA,Int.reduceBEq,Int.reduceBNe]
     refine IA it Ih ⟨_,_,_,rfl,(by first|(simp only[*,go_sem,-b,-a,-hJ];done)|rfl),rfl,by first|(simp only[*,go_sem,-b,-a,-hJ,muA,msA,stA,smA,Int.reduceBEq,Int.reduceBNe];done)|(simp only[*,go_sem,-b,-a,-hJ,muA,msA,stA,smA,Int.reduceBEq,Int.reduceBNe];rfl),rfl⟩ (by simp) fun t ht=>?_
     refine ai.bw (hJ _ rfl) 1 (n:=0) _ rfl rfl ?_;simp only[*,go_sem,-b,-a,-hJ,muA,msA,stA,smA,Int.reduceBEq,Int.reduceBNe]
     refine ai.nil a (b _ _ _ ?_);clear b K
     cases t
     ·repeat refine az (a _) ?_
      refine cB (a _) (by simp only[*,go_sem,-a,-hJ,Int.reduceBEq,Int.reduceBNe]) ?_
      refine cE (a _) ?_
      exact ep ⟨rfl,(by simp only[*,go_sem,-a,-hJ,muA,msA,stA,smA,Int.reduceBEq,Int.reduceBNe]),(by simp only[*,go_sem,-a,-hJ,muA,msA,stA,smA,Int.reduceBEq,Int.reduceBNe]),(by simp only[*,go_sem,-a,-hJ,muA,msA,stA,smA,Int.reduceBEq,Int.reduceBNe]),(by simp only[*,go_sem,-a,-hJ,muA,msA,stA,smA,Int.reduceBEq,Int.reduceBNe]),(by simp only[*,go_sem,-a,-hJ,muA,msA,stA,smA,Int.reduceBEq,Int.reduceBNe]),(by simp only[*,go_sem,-a,-hJ,muA,msA,stA,smA,Int.reduceBEq,Int.reduceBNe]),by simp,(by simp only[*,go_sem,-a,-hJ,muA,msA,stA,smA,Int.reduceBEq,Int.reduceBNe]),(by simp only[*,go_sem,-a,-hJ,muA,msA,stA,smA,Int.reduceBEq,Int.reduceBNe]),rfl⟩
     ·have fi:=ht rfl
      repeat refine az (a _) ?_
      refine cP (a _) (by simp only[*,go_sem,-a,-hJ,Int.reduceBEq,Int.reduceBNe]) ?_
      refine kD a (II Mu st F' wt it sv G) ?_ ?_
      ·cases aw
       ·obtain rfl:sv=false:=by cases sv<;>simp_all
        rcases bj with rfl|rfl
        ·have b2:dM old 2=0:=hw.a2
         by_cases dT:C=0
         ·have bz:((C:Int) != 0)=false:=by simp[dT]
          repeat refine az (a _) ?_
          refine aU a fun K b=>?_
          refine ai.bw (hJ _ rfl) 9 (n:=12) _ rfl rfl ?_;simp only[*,go_sem,-b,-a,-hJ,muA,msA,stA,smA,Int.reduceBEq,Int.reduceBNe]
          refine ai.mM old (C:Int) (a _) ⟨_,rfl,(by first|(simp only[*,go_sem,-b,-a,-hJ];done)|rfl),rfl,rfl⟩ (by simp only[*,go_sem,-b,-a,-hJ,muA,msA,stA,smA,Int.reduceBEq,Int.reduceBNe]) (by simp only[*,go_sem,-b,-a,-hJ,muA,msA,stA,smA,Int.reduceBEq,Int.reduceBNe]) hw.sh ?_
          refine ai.bw (hJ _ rfl) 11 (n:=0) _ rfl rfl ?_;simp only[*,go_sem,-b,-a,-hJ,muA,msA,stA,smA,Int.reduceBEq,Int.reduceBNe]
          refine ai.nil a (b _ _ _ ?_);clear b K
          repeat refine az (a _) ?_
          refine cB (a _) (by simp only[*,go_sem,-a,-hJ,Int.reduceBEq,Int.reduceBNe]) ?_
          refine cE (a _) ?_
          exact ep ⟨false,old,G,rfl,(by simp only[*,go_sem,-a,-hJ,muA,msA,stA,smA,Int.reduceBEq,Int.reduceBNe]),(by simp only[*,go_sem,-a,-hJ,muA,msA,stA,smA,Int.reduceBEq,Int.reduceBNe]),(by simp only[*,go_sem,-a,-hJ,muA,msA,stA,smA,Int.reduceBEq,Int.reduceBNe]),(by simp only[*,go_sem,-a,-hJ,muA,msA,stA,smA,Int.reduceBEq,Int.reduceBNe]),(by simp only[*,go_sem,-a,-hJ,muA,msA,stA,smA,Int.reduceBEq,Int.reduceBNe]),(by simp only[*,go_sem,-a,-hJ,muA,msA,stA,smA,Int.reduceBEq,Int.reduceBNe]),(by simp only[*,go_sem,-a,-hJ,muA,msA,stA,smA,Int.reduceBEq,Int.reduceBNe]),by simp,Nat.le_refl _,rfl⟩
         ·have bz:((C:Int) != 0)=true:=by simp;omega
          have o2:iU old 2=old+2:=hw.o2
          repeat refine az (a _) ?_
          refine aU a fun K b=>?_
          refine ai.bw (hJ _ rfl) 9 (n:=12) _ rfl rfl ?_;simp only[*,go_sem,-b,-a,-hJ,muA,msA,stA,smA,Int.reduceBEq,Int.reduceBNe]
          refine ai.mM old (C:Int) (a _) ⟨_,rfl,(by first|(simp only[*,go_sem,-b,-a,-hJ];done)|rfl),rfl,rfl⟩ (by simp only[*,go_sem,-b,-a,-hJ,muA,msA,stA,smA,Int.reduceBEq,Int.reduceBNe]) (by simp only[*,go_sem,-b,-a,-hJ,muA,msA,stA,smA,Int.reduceBEq,Int.reduceBNe]) hw.sh ?_
          refine ai.bw (hJ _ rfl) 9 (n:=2) _ rfl rfl ?_;simp only[*,go_sem,-b,-a,-hJ,muA,msA,stA,smA,Int.reduceBEq,Int.reduceBNe]
          refine tq old (old+2) tg a7 ⟨_,_,_,rfl,(by first|(simp only[*,go_sem,-b,-a,-hJ];done)|rfl),rfl,by first|(simp only[*,go_sem,-b,-a,-hJ,muA,msA,stA,smA,Int.reduceBEq,Int.reduceBNe];done)|(simp only[*,go_sem,-b,-a,-hJ,muA,msA,stA,smA,Int.reduceBEq,Int.reduceBNe];rfl),rfl⟩ (by rfl) (by simp) (fun φ ms bS ao b0 Z p he hi hm=>?_) (fun φ mu ms bS ao b0 Z p he hi hm dk=>?_)
          ·obtain ⟨rfl,rfl,rfl,rfl⟩:=hm.st.uniq hw.st
           refine ⟨.want true old G,⟨_,_,_,_,p,Hu hm hi _ (by rw[he]) rfl rfl rfl rfl rfl⟩,?_⟩
           refine ai.bw (hJ _ rfl) 1 (n:=0) _ rfl rfl ?_;simp only[*,go_sem,-b,-a,-hJ,muA,msA,stA,smA,Int.reduceBEq,Int.reduceBNe]
           refine ai.nil a (b _ _ _ ?_);clear b K
           repeat refine az (a _) ?_
           refine cP (a _) (by simp only[*,go_sem,-a,-hJ,Int.reduceBEq,Int.reduceBNe]) ?_
           repeat refine az (a _) ?_
           refine aU a fun K b=>?_
           refine ai.bw (hJ _ rfl) 1 (n:=0) _ rfl rfl ?_;simp only[*,go_sem,-b,-a,-hJ,muA,msA,stA,smA,Int.reduceBEq,Int.reduceBNe]
           refine ai.nil a (b _ _ _ ?_);clear b K
           exact ep ⟨true,old,G,rfl,(by simp only[*,go_sem,-a,-hJ,muA,msA,stA,smA,Int.reduceBEq,Int.reduceBNe]),(by simp only[*,go_sem,-a,-hJ,muA,msA,stA,smA,Int.reduceBEq,Int.reduceBNe]),(by simp only[*,go_sem,-a,-hJ,muA,msA,stA,smA,Int.reduceBEq,Int.reduceBNe]),(by simp only[*,go_sem,-a,-hJ,muA,msA,stA,smA,Int.reduceBEq,Int.reduceBNe]),(by simp only[*,go_sem,-a,-hJ,muA,msA,stA,smA,Int.reduceBEq,Int.reduceBNe]),(by simp only[*,go_sem,-a,-hJ,muA,msA,stA,smA,Int.reduceBEq,Int.reduceBNe]),(by simp only[*,go_sem,-a,-hJ,muA,msA,stA,smA,Int.reduceBEq,Int.reduceBNe]),by simp,Nat.le_refl _,rfl⟩
          ·obtain ⟨J,a9,bk⟩:=s5 hm hi {mp:=.want false mu (bL n φ ms),gp:=.cnt,stored:=st,deaf:=1} (by rw[he]) rfl
           refine ⟨.want false mu (bL n φ ms),⟨_,_,_,_,p,J⟩,?_⟩
           refine ai.bw (hJ _ rfl) 1 (n:=0) _ rfl rfl ?_;simp only[*,go_sem,-b,-a,-hJ,muA,msA,stA,smA,Int.reduceBEq,Int.reduceBNe]
           refine ai.nil a (b _ _ _ ?_);clear b K
           repeat refine az (a _) ?_
           refine cB (a _) (by simp only[*,go_sem,-a,-hJ,Int.reduceBEq,Int.reduceBNe]) ?_
           refine cE (a _) ?_
           exact ep ⟨false,mu,bL n φ ms,rfl,(by simp only[*,go_sem,-a,-hJ,muA,msA,stA,smA,Int.reduceBEq,Int.reduceBNe]),(by simp only[*,go_sem,-a,-hJ,muA,msA,stA,smA,Int.reduceBEq,Int.reduceBNe]),(by simp only[*,go_sem,-a,-hJ,muA,msA,stA,smA,Int.reduceBEq,Int.reduceBNe]),(by simp only[*,go_sem,-a,-hJ,muA,msA,stA,smA,Int.reduceBEq,Int.reduceBNe]),(by simp only[*,go_sem,-a,-hJ,muA,msA,stA,smA,Int.reduceBEq,Int.reduceBNe]),(by simp only[*,go_sem,-a,-hJ,muA,msA,stA,smA,Int.reduceBEq,Int.reduceBNe]),(by simp only[*,go_sem,-a,-hJ,muA,msA,stA,smA,Int.reduceBEq,Int.reduceBNe]),by simp,a9,rfl⟩
        ·have b2:dM old 2=2:=hw.a2
         repeat refine az (a _) ?_
         refine aU a fun K b=>?_
         refine ai.bw (hJ _ rfl) 21 (n:=0) _ rfl rfl ?_;simp only[*,go_sem,-b,-a,-hJ,muA,msA,stA,smA,Int.reduceBEq,Int.reduceBNe]
         refine ai.nil a (b _ _ _ ?_);clear b K
         repeat refine az (a _) ?_
         refine cB (a _) (by simp only[*,go_sem,-a,-hJ,Int.reduceBEq,Int.reduceBNe]) ?_
         refine cE (a _) ?_
         exact ep ⟨false,old,G,rfl,(by simp only[*,go_sem,-a,-hJ,muA,msA,stA,smA,Int.reduceBEq,Int.reduceBNe]),(by simp only[*,go_sem,-a,-hJ,muA,msA,stA,smA,Int.reduceBEq,Int.reduceBNe]),(by simp only[*,go_sem,-a,-hJ,muA,msA,stA,smA,Int.reduceBEq,Int.reduceBNe]),(by simp only[*,go_sem,-a,-hJ,muA,msA,stA,smA,Int.reduceBEq,Int.reduceBNe]),(by simp only[*,go_sem,-a,-hJ,muA,msA,stA,smA,Int.reduceBEq,Int.reduceBNe]),(by simp only[*,go_sem,-a,-hJ,muA,msA,stA,smA,Int.reduceBEq,Int.reduceBNe]),(by simp only[*,go_sem,-a,-hJ,muA,msA,stA,smA,Int.reduceBEq,Int.reduceBNe]),by simp,Nat.le_refl _,rfl⟩
       ·repeat refine az (a _) ?_
        refine aU a fun K b=>?_
        refine ai.bw (hJ _ rfl) 21 (n:=0) _ rfl rfl ?_;simp only[*,go_sem,-b,-a,-hJ,muA,msA,stA,smA,Int.reduceBEq,Int.reduceBNe]
        refine ai.nil a (b _ _ _ ?_);clear b K
        repeat refine az (a _) ?_
        refine cB (a _) (by simp only[*,go_sem,-a,-hJ,Int.reduceBEq,Int.reduceBNe]) ?_
        refine cE (a _) ?_
        exact ep ⟨true,old,G,rfl,(by simp only[*,go_sem,-a,-hJ,muA,msA,stA,smA,Int.reduceBEq,Int.reduceBNe]),(by simp only[*,go_sem,-a,-hJ,muA,msA,stA,smA,Int.reduceBEq,Int.reduceBNe]),(by simp only[*,go_sem,-a,-hJ,muA,msA,stA,smA,Int.reduceBEq,Int.reduceBNe]),(by simp only[*,go_sem,-a,-hJ,muA,msA,stA,smA,Int.reduceBEq,Int.reduceBNe]),(by simp only[*,go_sem,-a,-hJ,muA,msA,stA,smA,Int.reduceBEq,Int.reduceBNe]),(by simp only[*,go_sem,-a,-hJ,muA,msA,stA,smA,Int.reduceBEq,Int.reduceBNe]),(by simp only[*,go_sem,-a,-hJ,muA,msA,stA,smA,Int.reduceBEq,Int.reduceBNe]),by simp,Nat.le_refl _,rfl⟩
      ·clear f k o z D I d hd b5
       rintro A c ab ⟨bl,o2,ea,rfl,f,k,o,z,D,d,hd,eb,fp,rfl⟩
       have fr:IntKind.i64.wrap (it+1)=it+1:=IG (by omega) (by omega)
       repeat refine az (a _) ?_
       refine aU a fun K b=>?_
       refine ai.entry _ (a _) Ii ⟨_,_,_,rfl,(by first|(simp only[*,go_sem,-b,-a,-hJ];done)|rfl),rfl,by first|(simp only[*,go_sem,-b,-a,-hJ,muA,msA,stA,smA,Int.reduceBEq,Int.reduceBNe];done)|(simp only[*,go_sem,-b,-a,-hJ,muA,msA,stA,smA,Int.reduceBEq,Int.reduceBNe];rfl),rfl⟩ ?_
       refine ai.nil a (b _ _ _ ?_);clear b K
       repeat refine az (a _) ?_
       refine aU a fun K b=>?_
       refine ai.bw (hJ _ rfl) 3 (n:=0) _ rfl rfl ?_;simp only[*,go_sem,-b,-a,-hJ,muA,msA,stA,smA,Int.reduceBEq,Int.reduceBNe]
       refine ai.nil a (b _ _ _ ?_);clear b K
       repeat refine az (a _) ?_
       refine aU a fun K b=>?_
       refine ai.bw (hJ _ rfl) 3 (n:=2) _ rfl rfl ?_;simp only[*,go_sem,-b,-a,-hJ,muA,msA,stA,smA,Int.reduceBEq,Int.reduceBNe]
       refine ou th oq ⟨_,rfl,(by first|(simp only[*,go_sem,-b,-a,-hJ];done)|rfl),rfl,rfl⟩ (by rfl) (by simp only[*,go_sem,-b,-a,-hJ,muA,msA,stA,smA,Int.reduceBEq,Int.reduceBNe]) (fun φ mu ms P al bm b1 ca he hi hm=>?_)
       obtain ⟨J,a9,bk⟩:=s5 hm hi {mp:=.want bl mu (bL n φ ms),gp:=.cnt,stored:=st,deaf:=1} (by rw[he]) rfl
       have ad:=wd hm.st (by have:P<=3*n:=hm.bound;omega)
       have ba:P<=3*n:=hm.bound
       have cb:bL n φ ms<=ea:=a9
       have cd:bl=true->al=0/\bm=1:=fun e=>by subst e;exact BE hm hi (by rw[he])
       refine ⟨.want bl mu (bL n φ ms),⟨_,_,_,_,ca,J⟩,?_⟩
       refine ai.bw (hJ _ rfl) 1 (n:=0) _ rfl rfl ?_;simp only[*,go_sem,-b,-a,-hJ,muA,msA,stA,smA,Int.reduceBEq,Int.reduceBNe]
       refine ai.nil a (b _ _ _ ?_);clear b K
       refine om ?_
       change ∃p,p<m/\tw Mu n st c p _ _ _
       exact ⟨8*bL n φ ms+(5 - (it+1)).toNat,by omega,wt,it+1,mu,sv,bl,P,al,bm,b1,bL n φ ms,rfl,(by simp only[*,go_sem,-a,-hJ,muA,msA,stA,smA,Int.reduceBEq,Int.reduceBNe]),(by simp only[*,go_sem,-a,-hJ,muA,msA,stA,smA,Int.reduceBEq,Int.reduceBNe]),(by simp only[*,go_sem,-a,-hJ,muA,msA,stA,smA,Int.reduceBEq,Int.reduceBNe]),(by simp only[*,go_sem,-a,-hJ,muA,msA,stA,smA,Int.reduceBEq,Int.reduceBNe]),(by simp only[*,go_sem,-a,-hJ,muA,msA,stA,smA,Int.reduceBEq,Int.reduceBNe]),(by simp only[*,go_sem,-a,-hJ,muA,msA,stA,smA,Int.reduceBEq,Int.reduceBNe]),(by simp only[*,go_sem,-a,-hJ,muA,msA,stA,smA,Int.reduceBEq,Int.reduceBNe]),(by simp only[*,go_sem,-a,-hJ,muA,msA,stA,smA,Int.reduceBEq,Int.reduceBNe]),ad,ba,by omega,by omega,eb,cd,Nat.le_refl _,rfl⟩
    ·have b5:=hw.a5
     have cf:(((4*S+L:Nat):Int)==1)=false:=by simp;omega
     repeat refine az (a _) ?_
     refine aU a fun K b=>?_
     refine ai.bw (hJ _ rfl) 7 (n:=0) _ rfl rfl ?_;simp only[*,go_sem,-b,-a,-hJ,muA,msA,stA,smA,Int.reduceBEq,Int.reduceBNe]
     refine ai.nil a (b _ _ _ ?_);clear b K
     repeat refine az (a _) ?_
     refine cB (a _) (by simp only[*,go_sem,-a,-hJ,Int.reduceBEq,Int.reduceBNe]) ?_
     refine cE (a _) ?_
     exact ep ⟨rfl,(by simp only[*,go_sem,-a,-hJ,muA,msA,stA,smA,Int.reduceBEq,Int.reduceBNe]),(by simp only[*,go_sem,-a,-hJ,muA,msA,stA,smA,Int.reduceBEq,Int.reduceBNe]),(by simp only[*,go_sem,-a,-hJ,muA,msA,stA,smA,Int.reduceBEq,Int.reduceBNe]),(by simp only[*,go_sem,-a,-hJ,muA,msA,stA,smA,Int.reduceBEq,Int.reduceBNe]),(by simp only[*,go_sem,-a,-hJ,muA,msA,stA,smA,Int.reduceBEq,Int.reduceBNe]),(by simp only[*,go_sem,-a,-hJ,muA,msA,stA,smA,Int.reduceBEq,Int.reduceBNe]),by simp,(by simp only[*,go_sem,-a,-hJ,muA,msA,stA,smA,Int.reduceBEq,Int.reduceBNe]),(by simp only[*,go_sem,-a,-hJ,muA,msA,stA,smA,Int.reduceBEq,Int.reduceBNe]),rfl⟩
   ·clear f k o z D I d hd
    rintro A c ab ⟨rfl,f,k,o,z,D,I,q,d,hd,rfl⟩
    clear q
    repeat refine az (a _) ?_
    refine aU a fun K b=>?_
    refine ai.bw (hJ _ rfl) 2 (n:=0) _ rfl rfl ?_;simp only[*,go_sem,-b,-a,-hJ,muA,msA,stA,smA,Int.reduceBEq,Int.reduceBNe]
    refine ai.nil a (b _ _ _ ?_);clear b K
    obtain ⟨Q,j,r⟩:∃Q:Int,(S=0->Q=old+1 - L)/\(S=1->Q=old):=⟨if S=0 then old+1 - L else old,fun e=>by simp[e],fun e=>by simp[e]⟩
    refine kD a (qu Mu st c wt it old (some Q) sv aw G) ?_ ?_
    ·rcases cS with rfl|rfl
     ·have b4:dM old 4=0:=hw.a4
      have o1:iU old 1=Q:=by rw[j rfl,hw.o1];omega
      clear j r
      repeat refine az (a _) ?_
      refine aU a fun K b=>?_
      refine ai.bw (hJ _ rfl) 3 (n:=0) _ rfl rfl ?_;simp only[*,go_sem,-b,-a,-hJ,muA,msA,stA,smA,Int.reduceBEq,Int.reduceBNe]
      refine ai.nil a (b _ _ _ ?_);clear b K
      repeat refine az (a _) ?_
      refine cP (a _) (by simp only[*,go_sem,-a,-hJ,Int.reduceBEq,Int.reduceBNe]) ?_
      repeat refine az (a _) ?_
      refine aU a fun K b=>?_
      refine ai.bw (hJ _ rfl) 3 (n:=0) _ rfl rfl ?_;simp only[*,go_sem,-b,-a,-hJ,muA,msA,stA,smA,Int.reduceBEq,Int.reduceBNe]
      refine ai.nil a (b _ _ _ ?_);clear b K
      exact ep ⟨rfl,(by simp only[*,go_sem,-a,-hJ,muA,msA,stA,smA,Int.reduceBEq,Int.reduceBNe]),(by simp only[*,go_sem,-a,-hJ,muA,msA,stA,smA,Int.reduceBEq,Int.reduceBNe]),(by simp only[*,go_sem,-a,-hJ,muA,msA,stA,smA,Int.reduceBEq,Int.reduceBNe]),(by simp only[*,go_sem,-a,-hJ,muA,msA,stA,smA,Int.reduceBEq,Int.reduceBNe]),(by simp only[*,go_sem,-a,-hJ,muA,msA,stA,smA,Int.reduceBEq,Int.reduceBNe]),(by simp only[*,go_sem,-a,-hJ,muA,msA,stA,smA,Int.reduceBEq,Int.reduceBNe]),fun y g=>by cases g;simp only[*,go_sem,-a,-hJ],(by simp only[*,go_sem,-a,-hJ,muA,msA,stA,smA,Int.reduceBEq,Int.reduceBNe]),(by simp only[*,go_sem,-a,-hJ,muA,msA,stA,smA,Int.reduceBEq,Int.reduceBNe]),rfl⟩
     ·have b4:dM old 4=4:=hw.a4
      obtain rfl:=r rfl
      clear j r
      repeat refine az (a _) ?_
      refine aU a fun K b=>?_
      refine ai.bw (hJ _ rfl) 3 (n:=0) _ rfl rfl ?_;simp only[*,go_sem,-b,-a,-hJ,muA,msA,stA,smA,Int.reduceBEq,Int.reduceBNe]
      refine ai.nil a (b _ _ _ ?_);clear b K
      repeat refine az (a _) ?_
      refine cB (a _) (by simp only[*,go_sem,-a,-hJ,Int.reduceBEq,Int.reduceBNe]) ?_
      refine cE (a _) ?_
      exact ep ⟨rfl,(by simp only[*,go_sem,-a,-hJ,muA,msA,stA,smA,Int.reduceBEq,Int.reduceBNe]),(by simp only[*,go_sem,-a,-hJ,muA,msA,stA,smA,Int.reduceBEq,Int.reduceBNe]),(by simp only[*,go_sem,-a,-hJ,muA,msA,stA,smA,Int.reduceBEq,Int.reduceBNe]),(by simp only[*,go_sem,-a,-hJ,muA,msA,stA,smA,Int.reduceBEq,Int.reduceBNe]),(by simp only[*,go_sem,-a,-hJ,muA,msA,stA,smA,Int.reduceBEq,Int.reduceBNe]),(by simp only[*,go_sem,-a,-hJ,muA,msA,stA,smA,Int.reduceBEq,Int.reduceBNe]),fun y g=>by cases g;simp only[*,go_sem,-a,-hJ],(by simp only[*,go_sem,-a,-hJ,muA,msA,stA,smA,Int.reduceBEq,Int.reduceBNe]),(by simp only[*,go_sem,-a,-hJ,muA,msA,stA,smA,Int.reduceBEq,Int.reduceBNe]),rfl⟩
    clear f k o z D I d hd
    rintro A c ab ⟨rfl,f,k,o,z,D,I,q,d,hd,rfl⟩
    replace q:=q _ rfl
    obtain ⟨R,x,E⟩:∃R:Int,(S=1\/L=1->R=Q+8)/\(S=0->L=0->R=Q):=⟨if S=1\/L=1 then Q+8 else Q,fun e=>by simp[e],fun e cl=>by simp[e,cl]⟩
    refine kD a (qu Mu st c wt it old (some R) sv aw G) ?_ ?_
    ·by_cases Y:S=1\/L=1
     ·have b5:=hw.a5
      have cf:(((4*S+L:Nat):Int) != 0)=true:=by simp;omega
      have fs:IntKind.i32.wrap (Q+8)=R:=by
       have e0:=hw.st.eq
       rw[x Y]
       refine ig ?_ ?_<;>rcases cS with rfl|rfl<;>first|(have:=j rfl;omega)|(have:=r rfl;omega)
      clear j r x E Y
      repeat refine az (a _) ?_
      refine aU a fun K b=>?_
      refine ai.bw (hJ _ rfl) 3 (n:=0) _ rfl rfl ?_;simp only[*,go_sem,-b,-a,-hJ,muA,msA,stA,smA,Int.reduceBEq,Int.reduceBNe]
      refine ai.nil a (b _ _ _ ?_);clear b K
      repeat refine az (a _) ?_
      refine cP (a _) (by simp only[*,go_sem,-a,-hJ,Int.reduceBEq,Int.reduceBNe]) ?_
      repeat refine az (a _) ?_
      refine aU a fun K b=>?_
      refine ai.bw (hJ _ rfl) 3 (n:=0) _ rfl rfl ?_;simp only[*,go_sem,-b,-a,-hJ,muA,msA,stA,smA,Int.reduceBEq,Int.reduceBNe]
      refine ai.nil a (b _ _ _ ?_);clear b K
      exact ep ⟨rfl,(by simp only[*,go_sem,-a,-hJ,muA,msA,stA,smA,Int.reduceBEq,Int.reduceBNe]),(by simp only[*,go_sem,-a,-hJ,muA,msA,stA,smA,Int.reduceBEq,Int.reduceBNe]),(by simp only[*,go_sem,-a,-hJ,muA,msA,stA,smA,Int.reduceBEq,Int.reduceBNe]),(by simp only[*,go_sem,-a,-hJ,muA,msA,stA,smA,Int.reduceBEq,Int.reduceBNe]),(by simp only[*,go_sem,-a,-hJ,muA,msA,stA,smA,Int.reduceBEq,Int.reduceBNe]),(by simp only[*,go_sem,-a,-hJ,muA,msA,stA,smA,Int.reduceBEq,Int.reduceBNe]),fun y g=>by cases g;simp only[*,go_sem,-a,-hJ],(by simp only[*,go_sem,-a,-hJ,muA,msA,stA,smA,Int.reduceBEq,Int.reduceBNe]),(by simp only[*,go_sem,-a,-hJ,muA,msA,stA,smA,Int.reduceBEq,Int.reduceBNe]),rfl⟩
     ·obtain rfl:S=0:=by omega
      obtain rfl:L=0:=by omega
      have b5:dM old 5=0:=hw.a5
      obtain rfl:=E rfl rfl
      clear j r x E Y
      repeat refine az (a _) ?_
      refine aU a fun K b=>?_
      refine ai.bw (hJ _ rfl) 3 (n:=0) _ rfl rfl ?_;simp only[*,go_sem,-b,-a,-hJ,muA,msA,stA,smA,Int.reduceBEq,Int.reduceBNe]
      refine ai.nil a (b _ _ _ ?_);clear b K
      repeat refine az (a _) ?_
      refine cB (a _) (by simp only[*,go_sem,-a,-hJ,Int.reduceBEq,Int.reduceBNe]) ?_
      refine cE (a _) ?_
      exact ep ⟨rfl,(by simp only[*,go_sem,-a,-hJ,muA,msA,stA,smA,Int.reduceBEq,Int.reduceBNe]),(by simp only[*,go_sem,-a,-hJ,muA,msA,stA,smA,Int.reduceBEq,Int.reduceBNe]),(by simp only[*,go_sem,-a,-hJ,muA,msA,stA,smA,Int.reduceBEq,Int.reduceBNe]),(by simp only[*,go_sem,-a,-hJ,muA,msA,stA,smA,Int.reduceBEq,Int.reduceBNe]),(by simp only[*,go_sem,-a,-hJ,muA,msA,stA,smA,Int.reduceBEq,Int.reduceBNe]),(by simp only[*,go_sem,-a,-hJ,muA,msA,stA,smA,Int.reduceBEq,Int.reduceBNe]),fun y g=>by cases g;simp only[*,go_sem,-a,-hJ],(by simp only[*,go_sem,-a,-hJ,muA,msA,stA,smA,Int.reduceBEq,Int.reduceBNe]),(by simp only[*,go_sem,-a,-hJ,muA,msA,stA,smA,Int.reduceBEq,Int.reduceBNe]),rfl⟩
    clear f k o z D I q d hd
    rintro A c ab ⟨rfl,f,k,o,z,D,I,q,d,hd,rfl⟩
    replace q:=q _ rfl
    obtain ⟨M,N,u⟩:∃M:Int,(sv=true->L=1->M=R+4)/\(¬(sv=true/\L=1)->M=R):=⟨if sv=true/\L=1 then R+4 else R,fun e cl=>by simp[e,cl],fun e=>by simp[e]⟩
    refine kD a (qu Mu st c wt it old (some M) sv aw G) ?_ ?_
    ·cases sv
     ·obtain rfl:=u (by simp)
      clear j r x E N u
      repeat refine az (a _) ?_
      refine aU a fun K b=>?_
      refine ai.bw (hJ _ rfl) 6 (n:=0) _ rfl rfl ?_;simp only[*,go_sem,-b,-a,-hJ,muA,msA,stA,smA,Int.reduceBEq,Int.reduceBNe]
      refine ai.nil a (b _ _ _ ?_);clear b K
      repeat refine az (a _) ?_
      refine cB (a _) (by simp only[*,go_sem,-a,-hJ,Int.reduceBEq,Int.reduceBNe]) ?_
      refine cE (a _) ?_
      exact ep ⟨rfl,(by simp only[*,go_sem,-a,-hJ,muA,msA,stA,smA,Int.reduceBEq,Int.reduceBNe]),(by simp only[*,go_sem,-a,-hJ,muA,msA,stA,smA,Int.reduceBEq,Int.reduceBNe]),(by simp only[*,go_sem,-a,-hJ,muA,msA,stA,smA,Int.reduceBEq,Int.reduceBNe]),(by simp only[*,go_sem,-a,-hJ,muA,msA,stA,smA,Int.reduceBEq,Int.reduceBNe]),(by simp only[*,go_sem,-a,-hJ,muA,msA,stA,smA,Int.reduceBEq,Int.reduceBNe]),(by simp only[*,go_sem,-a,-hJ,muA,msA,stA,smA,Int.reduceBEq,Int.reduceBNe]),fun y g=>by cases g;simp only[*,go_sem,-a,-hJ],(by simp only[*,go_sem,-a,-hJ,muA,msA,stA,smA,Int.reduceBEq,Int.reduceBNe]),(by simp only[*,go_sem,-a,-hJ,muA,msA,stA,smA,Int.reduceBEq,Int.reduceBNe]),rfl⟩
     ·obtain rfl:aw=true:=V rfl
      rcases a8 with rfl|rfl
      ·have ec:dM old 1=0:=hw.a1
       obtain rfl:=u (by simp)
       clear j r x E N u
       repeat refine az (a _) ?_
       refine aU a fun K b=>?_
       refine ai.bw (hJ _ rfl) 6 (n:=0) _ rfl rfl ?_;simp only[*,go_sem,-b,-a,-hJ,muA,msA,stA,smA,Int.reduceBEq,Int.reduceBNe]
       refine ai.nil a (b _ _ _ ?_);clear b K
       repeat refine az (a _) ?_
       refine cB (a _) (by simp only[*,go_sem,-a,-hJ,Int.reduceBEq,Int.reduceBNe]) ?_
       refine cE (a _) ?_
       exact ep ⟨rfl,(by simp only[*,go_sem,-a,-hJ,muA,msA,stA,smA,Int.reduceBEq,Int.reduceBNe]),(by simp only[*,go_sem,-a,-hJ,muA,msA,stA,smA,Int.reduceBEq,Int.reduceBNe]),(by simp only[*,go_sem,-a,-hJ,muA,msA,stA,smA,Int.reduceBEq,Int.reduceBNe]),(by simp only[*,go_sem,-a,-hJ,muA,msA,stA,smA,Int.reduceBEq,Int.reduceBNe]),(by simp only[*,go_sem,-a,-hJ,muA,msA,stA,smA,Int.reduceBEq,Int.reduceBNe]),(by simp only[*,go_sem,-a,-hJ,muA,msA,stA,smA,Int.reduceBEq,Int.reduceBNe]),fun y g=>by cases g;simp only[*,go_sem,-a,-hJ],(by simp only[*,go_sem,-a,-hJ,muA,msA,stA,smA,Int.reduceBEq,Int.reduceBNe]),(by simp only[*,go_sem,-a,-hJ,muA,msA,stA,smA,Int.reduceBEq,Int.reduceBNe]),rfl⟩
      ·have ec:dM old 1=1:=hw.a1
       have o4:iU R 4=M:=by
        have e0:=hw.st.eq
        obtain ⟨rfl,rfl⟩:=X rfl
        have e1:=j rfl
        have e2:=x (.inr rfl)
        rw[N rfl rfl,(wd (C:=C+1) (S:=0) (W:=1) (L:=1) ⟨by omega,by omega,by omega,by omega⟩ (by omega)).o4]
        omega
       clear j r x E N u
       repeat refine az (a _) ?_
       refine aU a fun K b=>?_
       refine ai.bw (hJ _ rfl) 6 (n:=0) _ rfl rfl ?_;simp only[*,go_sem,-b,-a,-hJ,muA,msA,stA,smA,Int.reduceBEq,Int.reduceBNe]
       refine ai.nil a (b _ _ _ ?_);clear b K
       repeat refine az (a _) ?_
       refine cP (a _) (by simp only[*,go_sem,-a,-hJ,Int.reduceBEq,Int.reduceBNe]) ?_
       repeat refine az (a _) ?_
       refine aU a fun K b=>?_
       refine ai.bw (hJ _ rfl) 3 (n:=0) _ rfl rfl ?_;simp only[*,go_sem,-b,-a,-hJ,muA,msA,stA,smA,Int.reduceBEq,Int.reduceBNe]
       refine ai.nil a (b _ _ _ ?_);clear b K
       exact ep ⟨rfl,(by simp only[*,go_sem,-a,-hJ,muA,msA,stA,smA,Int.reduceBEq,Int.reduceBNe]),(by simp only[*,go_sem,-a,-hJ,muA,msA,stA,smA,Int.reduceBEq,Int.reduceBNe]),(by simp only[*,go_sem,-a,-hJ,muA,msA,stA,smA,Int.reduceBEq,Int.reduceBNe]),(by simp only[*,go_sem,-a,-hJ,muA,msA,stA,smA,Int.reduceBEq,Int.reduceBNe]),(by simp only[*,go_sem,-a,-hJ,muA,msA,stA,smA,Int.reduceBEq,Int.reduceBNe]),(by simp only[*,go_sem,-a,-hJ,muA,msA,stA,smA,Int.reduceBEq,Int.reduceBNe]),fun y g=>by cases g;simp only[*,go_sem,-a,-hJ],(by simp only[*,go_sem,-a,-hJ,muA,msA,stA,smA,Int.reduceBEq,Int.reduceBNe]),(by simp only[*,go_sem,-a,-hJ,muA,msA,stA,smA,Int.reduceBEq,Int.reduceBNe]),rfl⟩
    clear f k o z D I q d hd
    rintro A c ab ⟨rfl,f,k,o,z,D,I,q,d,hd,rfl⟩
    replace q:=q _ rfl
    obtain ⟨ae,T,U⟩:∃ae:Int,(aw=true->ae=M - 2)/\(aw=false->ae=M):=⟨if aw then M - 2 else M,fun e=>by simp[e],fun e=>by simp[e]⟩
    refine kD a (qu Mu st c wt it old (some ae) sv aw G) ?_ ?_
    ·cases aw
     ·obtain rfl:=U rfl
      clear j r x E N u T U
      repeat refine az (a _) ?_
      refine aU a fun K b=>?_
      refine ai.bw (hJ _ rfl) 1 (n:=0) _ rfl rfl ?_;simp only[*,go_sem,-b,-a,-hJ,muA,msA,stA,smA,Int.reduceBEq,Int.reduceBNe]
      refine ai.nil a (b _ _ _ ?_);clear b K
      repeat refine az (a _) ?_
      refine cB (a _) (by simp only[*,go_sem,-a,-hJ,Int.reduceBEq,Int.reduceBNe]) ?_
      refine cE (a _) ?_
      exact ep ⟨rfl,(by simp only[*,go_sem,-a,-hJ,muA,msA,stA,smA,Int.reduceBEq,Int.reduceBNe]),(by simp only[*,go_sem,-a,-hJ,muA,msA,stA,smA,Int.reduceBEq,Int.reduceBNe]),(by simp only[*,go_sem,-a,-hJ,muA,msA,stA,smA,Int.reduceBEq,Int.reduceBNe]),(by simp only[*,go_sem,-a,-hJ,muA,msA,stA,smA,Int.reduceBEq,Int.reduceBNe]),(by simp only[*,go_sem,-a,-hJ,muA,msA,stA,smA,Int.reduceBEq,Int.reduceBNe]),(by simp only[*,go_sem,-a,-hJ,muA,msA,stA,smA,Int.reduceBEq,Int.reduceBNe]),fun y g=>by cases g;simp only[*,go_sem,-a,-hJ],(by simp only[*,go_sem,-a,-hJ,muA,msA,stA,smA,Int.reduceBEq,Int.reduceBNe]),(by simp only[*,go_sem,-a,-hJ,muA,msA,stA,smA,Int.reduceBEq,Int.reduceBNe]),rfl⟩
     ·obtain ⟨rfl,rfl⟩:=X rfl
      have ad:∃P al,Wd M P al 1 1:=by
       have e0:=hw.st.eq
       have e1:=j rfl
       rcases a8 with rfl|rfl
       ·have e2:=E rfl rfl
        have ar:=u (by simp)
        exact ⟨C,0,wd ⟨by omega,by omega,by omega,by omega⟩ (by omega)⟩
       ·have e2:=x (.inr rfl)
        cases sv
        ·have ar:=u (by simp)
         exact ⟨C+1,0,wd ⟨by omega,by omega,by omega,by omega⟩ (by omega)⟩
        ·have ar:=N rfl rfl
         exact ⟨C+1,1,wd ⟨by omega,by omega,by omega,by omega⟩ (by omega)⟩
      obtain ⟨P,al,ad⟩:=ad
      have b2:dM M 2=2:=ad.a2
      have n2:qo M 2=ae:=by rw[T rfl,ad.n2];rfl
      clear j r x E N u T U
      repeat refine az (a _) ?_
      refine aU a fun K b=>?_
      refine ai.bw (hJ _ rfl) 1 (n:=0) _ rfl rfl ?_;simp only[*,go_sem,-b,-a,-hJ,muA,msA,stA,smA,Int.reduceBEq,Int.reduceBNe]
      refine ai.nil a (b _ _ _ ?_);clear b K
      repeat refine az (a _) ?_
      refine cP (a _) (by simp only[*,go_sem,-a,-hJ,Int.reduceBEq,Int.reduceBNe]) ?_
      repeat refine az (a _) ?_
      refine aU a fun K b=>?_
      refine ai.bw (hJ _ rfl) 3 (n:=0) _ rfl rfl ?_;simp only[*,go_sem,-b,-a,-hJ,muA,msA,stA,smA,Int.reduceBEq,Int.reduceBNe]
      refine ai.nil a (b _ _ _ ?_);clear b K
      repeat refine az (a _) ?_
      refine cB (a _) (by simp only[*,go_sem,-a,-hJ,Int.reduceBEq,Int.reduceBNe]) ?_
      refine cE (a _) ?_
      repeat refine az (a _) ?_
      refine aU a fun K b=>?_
      refine ai.bw (hJ _ rfl) 3 (n:=0) _ rfl rfl ?_;simp only[*,go_sem,-b,-a,-hJ,muA,msA,stA,smA,Int.reduceBEq,Int.reduceBNe]
      refine ai.nil a (b _ _ _ ?_);clear b K
      exact ep ⟨rfl,(by simp only[*,go_sem,-a,-hJ,muA,msA,stA,smA,Int.reduceBEq,Int.reduceBNe]),(by simp only[*,go_sem,-a,-hJ,muA,msA,stA,smA,Int.reduceBEq,Int.reduceBNe]),(by simp only[*,go_sem,-a,-hJ,muA,msA,stA,smA,Int.reduceBEq,Int.reduceBNe]),(by simp only[*,go_sem,-a,-hJ,muA,msA,stA,smA,Int.reduceBEq,Int.reduceBNe]),(by simp only[*,go_sem,-a,-hJ,muA,msA,stA,smA,Int.reduceBEq,Int.reduceBNe]),(by simp only[*,go_sem,-a,-hJ,muA,msA,stA,smA,Int.reduceBEq,Int.reduceBNe]),fun y g=>by cases g;simp only[*,go_sem,-a,-hJ],(by simp only[*,go_sem,-a,-hJ,muA,msA,stA,smA,Int.reduceBEq,Int.reduceBNe]),(by simp only[*,go_sem,-a,-hJ,muA,msA,stA,smA,Int.reduceBEq,Int.reduceBNe]),rfl⟩
    clear f k o z D I q d hd
    rintro A c ab ⟨rfl,f,k,o,z,D,I,q,d,hd,rfl⟩
    replace q:=q _ rfl
    repeat refine az (a _) ?_
    refine aU a fun K b=>?_
    refine ai.bw (hJ _ rfl) 5 (n:=1) _ rfl rfl ?_;simp only[*,go_sem,-b,-a,-hJ,muA,msA,stA,smA,Int.reduceBEq,Int.reduceBNe]
    refine tq old ae tg a7 ⟨_,_,_,rfl,(by first|(simp only[*,go_sem,-b,-a,-hJ];done)|rfl),rfl,by first|(simp only[*,go_sem,-b,-a,-hJ,muA,msA,stA,smA,Int.reduceBEq,Int.reduceBNe];done)|(simp only[*,go_sem,-b,-a,-hJ,muA,msA,stA,smA,Int.reduceBEq,Int.reduceBNe];rfl),rfl⟩ (by rfl) (by simp) (fun φ ms bS ao b0 Z p he hi hm=>?_) (fun φ mu ms bS ao b0 Z p he hi hm dk=>?_)
    ·obtain ⟨rfl,rfl,rfl,rfl⟩:=hm.st.uniq hw.st
     by_cases Y:ao=0/\Z=0
     ·obtain ⟨rfl,rfl⟩:=Y
      have O:ae=old+1 - (if aw then 2 else 0):=by
       have e1:=j rfl
       have e2:=E rfl rfl
       have ar:=u (by simp)
       cases aw
       ·have O:=U rfl
        simp;omega
       ·have O:=T rfl
        simp;omega
      have b5:dM old 5=0:=hw.a5
      refine ⟨.held,by rw[O];exact ⟨_,_,_,_,p,Hv hm hi _ (by rw[he]) rfl rfl rfl (fun e=>(X e).2)⟩,?_⟩
      clear j r x E N u T U O he hi hm V X cS a8 bj
      refine ai.nil a (b _ _ _ ?_);clear b K
      repeat refine az (a _) ?_
      refine cP (a _) (by simp only[*,go_sem,-a,-hJ,Int.reduceBEq,Int.reduceBNe]) ?_
      repeat refine az (a _) ?_
      refine aU a fun K b=>?_
      refine ai.bw (hJ _ rfl) 3 (n:=0) _ rfl rfl ?_;simp only[*,go_sem,-b,-a,-hJ,muA,msA,stA,smA,Int.reduceBEq,Int.reduceBNe]
      refine ai.nil a (b _ _ _ ?_);clear b K
      repeat refine az (a _) ?_
      refine cP (a _) (by simp only[*,go_sem,-a,-hJ,Int.reduceBEq,Int.reduceBNe]) ?_
      refine om ?_
      change tA Mu st c _ _ _
      exact ⟨rfl,(by simp only[*,go_sem,-a,-hJ,muA,msA,stA,smA,Int.reduceBEq,Int.reduceBNe]),(by simp only[*,go_sem,-a,-hJ,muA,msA,stA,smA,Int.reduceBEq,Int.reduceBNe]),(by simp only[*,go_sem,-a,-hJ,muA,msA,stA,smA,Int.reduceBEq,Int.reduceBNe]),rfl⟩
     ·have cy:ao=1\/Z=1:=by omega
      have O:ae=old+8+(if sv then 4 else 0) - (if aw then 2 else 0):=by
       have e2:=x cy
       rcases cS with rfl|rfl
       ·have e1:=j rfl
        obtain rfl:Z=1:=by omega
        cases sv
        ·have ar:=u (by simp)
         cases aw
         ·have O:=U rfl
          simp;omega
         ·have O:=T rfl
          simp;omega
        ·obtain rfl:aw=true:=V rfl
         have ar:=N rfl rfl
         have O:=T rfl
         simp;omega
       ·have ed:aw=false:=by
         cases aw
         ·rfl
         ·exact absurd (X rfl).1 (by omega)
        subst ed
        have eh:sv=false:=by
         cases sv
         ·rfl
         ·exact absurd (V rfl) (by simp)
        subst eh
        have e1:=r rfl
        have ar:=u (by simp)
        have O:=U rfl
        simp;omega
      have dp:sv=true->aw=true/\Z=1:=fun e=>⟨V e,by have:=X (V e);omega⟩
      have dq:bL n φ ms<=G:=(hm.seen i hi (some old) G (by rw[he];rfl)).1
      have b5:=hw.a5
      have cf:(((4*ao+Z:Nat):Int)==0)=false:=by simp;omega
      refine ⟨.ia (bL n φ ms),by rw[O];exact ⟨_,_,_,_,p,Hw hm hi _ (by rw[he]) rfl cy dp⟩,?_⟩
      clear j r x E N u T U O he hi hm V X cS a8 bj Y cy dp
      revert dq
      generalize bL n φ ms=B
      intro dq
      refine ai.nil a (b _ _ _ ?_);clear b K
      repeat refine az (a _) ?_
      refine cP (a _) (by simp only[*,go_sem,-a,-hJ,Int.reduceBEq,Int.reduceBNe]) ?_
      repeat refine az (a _) ?_
      refine aU a fun K b=>?_
      refine ai.bw (hJ _ rfl) 3 (n:=0) _ rfl rfl ?_;simp only[*,go_sem,-b,-a,-hJ,muA,msA,stA,smA,Int.reduceBEq,Int.reduceBNe]
      refine ai.nil a (b _ _ _ ?_);clear b K
      repeat refine az (a _) ?_
      refine cB (a _) (by simp only[*,go_sem,-a,-hJ,Int.reduceBEq,Int.reduceBNe]) ?_
      refine cE (a _) ?_
      repeat refine az (a _) ?_
      refine aU a fun K b=>?_
      refine ai.bw (hJ _ rfl) 3 (n:=0) _ rfl rfl ?_;simp only[*,go_sem,-b,-a,-hJ,muA,msA,stA,smA,Int.reduceBEq,Int.reduceBNe]
      refine ai.nil a (b _ _ _ ?_);clear b K
      repeat refine az (a _) ?_
      refine aU a fun K b=>?_
      refine ai.bw (hJ _ rfl) 2 (n:=0) _ rfl rfl ?_;simp only[*,go_sem,-b,-a,-hJ,muA,msA,stA,smA,Int.reduceBEq,Int.reduceBNe]
      refine ai.nil a (b _ _ _ ?_);clear b K
      first|refine kD a (Ck Mu st c sv (.ia B)) ?_ ?_|refine tv a (Ck Mu st c sv (.ia B)) ?_ ?_
      ·cases ft:(wt==0)
       ·repeat refine az (a _) ?_
        refine cB (a _) (by simp only[*,go_sem,-a,-hJ,Int.reduceBEq,Int.reduceBNe]) ?_
        refine cE (a _) ?_
        exact ep ⟨wt,rfl,(by simp only[*,go_sem,-a,-hJ,muA,msA,stA,smA,Int.reduceBEq,Int.reduceBNe]),(by simp only[*,go_sem,-a,-hJ,muA,msA,stA,smA,Int.reduceBEq,Int.reduceBNe]),(by simp only[*,go_sem,-a,-hJ,muA,msA,stA,smA,Int.reduceBEq,Int.reduceBNe]),(by simp only[*,go_sem,-a,-hJ,muA,msA,stA,smA,Int.reduceBEq,Int.reduceBNe]),(by simp only[*,go_sem,-a,-hJ,muA,msA,stA,smA,Int.reduceBEq,Int.reduceBNe]),rfl⟩
       ·repeat refine az (a _) ?_
        refine cP (a _) (by simp only[*,go_sem,-a,-hJ,Int.reduceBEq,Int.reduceBNe]) ?_
        repeat refine az (a _) ?_
        refine aU a fun K b=>?_
        refine Cj B7 Cc ⟨_,_,_,rfl,(by first|(simp only[*,go_sem,-b,-a,-hJ];done)|rfl),rfl,by first|(simp only[*,go_sem,-b,-a,-hJ,muA,msA,stA,smA,Int.reduceBEq,Int.reduceBNe];done)|(simp only[*,go_sem,-b,-a,-hJ,muA,msA,stA,smA,Int.reduceBEq,Int.reduceBNe];rfl),rfl⟩ (by simp) fun t=>?_
        refine ai.bw (hJ _ rfl) 1 (n:=0) _ rfl rfl ?_;simp only[*,go_sem,-b,-a,-hJ,muA,msA,stA,smA,Int.reduceBEq,Int.reduceBNe]
        refine ai.nil a (b _ _ _ ?_);clear b K
        exact ep ⟨t,rfl,(by simp only[*,go_sem,-a,-hJ,muA,msA,stA,smA,Int.reduceBEq,Int.reduceBNe]),(by simp only[*,go_sem,-a,-hJ,muA,msA,stA,smA,Int.reduceBEq,Int.reduceBNe]),(by simp only[*,go_sem,-a,-hJ,muA,msA,stA,smA,Int.reduceBEq,Int.reduceBNe]),(by simp only[*,go_sem,-a,-hJ,muA,msA,stA,smA,Int.reduceBEq,Int.reduceBNe]),(by simp only[*,go_sem,-a,-hJ,muA,msA,stA,smA,Int.reduceBEq,Int.reduceBNe]),rfl⟩
      clear f k o z D I q d hd b5 cf
      rintro A c ab ⟨ds,rfl,f,k,o,d,hd,rfl⟩
      repeat refine az (a _) ?_
      refine aU a fun K b=>?_
      refine ai.bw (hJ _ rfl) 4 (n:=1) _ rfl rfl ?_;simp only[*,go_sem,-b,-a,-hJ,muA,msA,stA,smA,Int.reduceBEq,Int.reduceBNe]
      refine Iz (slot A 8) (.int .i64 2) Ig a7 ⟨_,_,_,rfl,(by first|(simp only[*,go_sem,-b,-a,-hJ];done)|rfl),rfl,by first|(simp only[*,go_sem,-b,-a,-hJ,muA,msA,stA,smA,Int.reduceBEq,Int.reduceBNe];done)|(simp only[*,go_sem,-b,-a,-hJ,muA,msA,stA,smA,Int.reduceBEq,Int.reduceBNe];rfl),rfl⟩ (by rfl) rfl ?_
      refine ai.nil a (b _ _ _ ?_);clear b K
      first|refine kD a (Cl Mu st c (.jB B)) ?_ ?_|refine tv a (Cl Mu st c (.jB B)) ?_ ?_
      ·cases sv
       ·repeat refine az (a _) ?_
        refine aU a fun K b=>?_
        refine ai.bw (hJ _ rfl) 2 (n:=6) _ rfl rfl ?_;simp only[*,go_sem,-b,-a,-hJ,muA,msA,stA,smA,Int.reduceBEq,Int.reduceBNe]
        refine Cj B7 Cc ⟨_,_,_,rfl,(by first|(simp only[*,go_sem,-b,-a,-hJ];done)|rfl),rfl,by first|(simp only[*,go_sem,-b,-a,-hJ,muA,msA,stA,smA,Int.reduceBEq,Int.reduceBNe];done)|(simp only[*,go_sem,-b,-a,-hJ,muA,msA,stA,smA,Int.reduceBEq,Int.reduceBNe];rfl),rfl⟩ (by simp) fun t=>?_
        refine ai.bw (hJ _ rfl) 5 (n:=0) _ rfl rfl ?_;simp only[*,go_sem,-b,-a,-hJ,muA,msA,stA,smA,Int.reduceBEq,Int.reduceBNe]
        refine ai.nil a (b _ _ _ ?_);clear b K
        exact ep ⟨ds,_,rfl,(by simp only[*,go_sem,-a,-hJ,muA,msA,stA,smA,Int.reduceBEq,Int.reduceBNe]),(by simp only[*,go_sem,-a,-hJ,muA,msA,stA,smA,Int.reduceBEq,Int.reduceBNe]),(by simp only[*,go_sem,-a,-hJ,muA,msA,stA,smA,Int.reduceBEq,Int.reduceBNe];rfl),(by simp only[*,go_sem,-a,-hJ,muA,msA,stA,smA,Int.reduceBEq,Int.reduceBNe]),(by simp only[*,go_sem,-a,-hJ,muA,msA,stA,smA,Int.reduceBEq,Int.reduceBNe]),rfl⟩
       ·repeat refine az (a _) ?_
        refine aU a fun K b=>?_
        refine ai.bw (hJ _ rfl) 8 (n:=0) _ rfl rfl ?_;simp only[*,go_sem,-b,-a,-hJ,muA,msA,stA,smA,Int.reduceBEq,Int.reduceBNe]
        refine ai.nil a (b _ _ _ ?_);clear b K
        exact ep ⟨ds,true,rfl,(by simp only[*,go_sem,-a,-hJ,muA,msA,stA,smA,Int.reduceBEq,Int.reduceBNe]),(by simp only[*,go_sem,-a,-hJ,muA,msA,stA,smA,Int.reduceBEq,Int.reduceBNe]),(by simp only[*,go_sem,-a,-hJ,muA,msA,stA,smA,Int.reduceBEq,Int.reduceBNe]),(by simp only[*,go_sem,-a,-hJ,muA,msA,stA,smA,Int.reduceBEq,Int.reduceBNe]),(by simp only[*,go_sem,-a,-hJ,muA,msA,stA,smA,Int.reduceBEq,Int.reduceBNe]),rfl⟩
      clear f k o d hd
      rintro A c ab ⟨et,dt,rfl,f,k,o,d,hd,rfl⟩
      repeat refine az (a _) ?_
      refine aU a fun K b=>?_
      refine ai.bw (hJ _ rfl) 3 (n:=2) _ rfl rfl ?_;simp only[*,go_sem,-b,-a,-hJ,muA,msA,stA,smA,Int.reduceBEq,Int.reduceBNe]
      refine ou th oq ⟨_,rfl,(by first|(simp only[*,go_sem,-b,-a,-hJ];done)|rfl),rfl,rfl⟩ (by rfl) (by simp only[*,go_sem,-b,-a,-hJ,muA,msA,stA,smA,Int.reduceBEq,Int.reduceBNe]) (fun φ mu ms H bb c0 da bo he hi hm=>?_)
      have du:H<=3*n:=hm.bound
      have a0:=wd hm.st (by omega)
      rcases (by have:=hm.st.s;omega:bb=0\/bb=1) with rfl|rfl
      ·obtain ⟨J,rfl,db⟩:=Hy hm hi {mp:=.want true mu (bL n φ ms),gp:=.cnt,stored:=st,deaf:=1} (by rw[he]) rfl rfl
       have fu:bL n φ ms<B:=db
       refine ⟨.want true mu (bL n φ ms),⟨_,_,_,_,bo,J⟩,?_⟩
       have b4:dM mu 4=0:=a0.a4
       clear J db
       refine ai.bw (hJ _ rfl) 1 (n:=0) _ rfl rfl ?_;simp only[*,go_sem,-b,-a,-hJ,muA,msA,stA,smA,Int.reduceBEq,Int.reduceBNe]
       refine ai.nil a (b _ _ _ ?_);clear b K
       repeat refine az (a _) ?_
       refine aU a fun K b=>?_
       refine ai.bw (hJ _ rfl) 3 (n:=0) _ rfl rfl ?_;simp only[*,go_sem,-b,-a,-hJ,muA,msA,stA,smA,Int.reduceBEq,Int.reduceBNe]
       refine ai.nil a (b _ _ _ ?_);clear b K
       repeat refine az (a _) ?_
       refine cB (a _) (by simp only[*,go_sem,-a,-hJ,Int.reduceBEq,Int.reduceBNe]) ?_
       refine cE (a _) ?_
       repeat refine az (a _) ?_
       refine aU a fun K b=>?_
       refine ai.bw (hJ _ rfl) 1 (n:=0) _ rfl rfl ?_;simp only[*,go_sem,-b,-a,-hJ,muA,msA,stA,smA,Int.reduceBEq,Int.reduceBNe]
       refine ai.nil a (b _ _ _ ?_);clear b K
       repeat refine az (a _) ?_
       refine aU a fun K b=>?_
       refine ai.bw (hJ _ rfl) 1 (n:=0) _ rfl rfl ?_;simp only[*,go_sem,-b,-a,-hJ,muA,msA,stA,smA,Int.reduceBEq,Int.reduceBNe]
       refine ai.nil a (b _ _ _ ?_);clear b K
       change ∃p,p<m/\tw Mu n st c p _ _ _
       exact ⟨8*bL n φ ms+5,by omega,et,0,mu,dt,true,H,0,1,da,bL n φ ms,rfl,(by simp only[*,go_sem,-a,-hJ,muA,msA,stA,smA,Int.reduceBEq,Int.reduceBNe]),(by simp only[*,go_sem,-a,-hJ,muA,msA,stA,smA,Int.reduceBEq,Int.reduceBNe]),(by simp only[*,go_sem,-a,-hJ,muA,msA,stA,smA,Int.reduceBEq,Int.reduceBNe]),(by simp only[*,go_sem,-a,-hJ,muA,msA,stA,smA,Int.reduceBEq,Int.reduceBNe]),(by simp only[*,go_sem,-a,-hJ,muA,msA,stA,smA,Int.reduceBEq,Int.reduceBNe]),(by simp only[*,go_sem,-a,-hJ,muA,msA,stA,smA,Int.reduceBEq,Int.reduceBNe]),(by simp only[*,go_sem,-a,-hJ,muA,msA,stA,smA,Int.reduceBEq,Int.reduceBNe]),(by simp only[*,go_sem,-a,-hJ,muA,msA,stA,smA,Int.reduceBEq,Int.reduceBNe]),a0,du,by omega,by omega,fun _=>rfl,fun _=>⟨rfl,rfl⟩,by simp,rfl⟩
      ·obtain ⟨J,rfl,rfl,ev⟩:=Hz hm hi {mp:=.kA (decide (2<=H)),gp:=.cnt,stored:=st,deaf:=1} (by rw[he]) rfl rfl
       refine ⟨.kA (decide (2<=H)),⟨_,_,_,_,bo,J⟩,?_⟩
       have b4:dM mu 4=4:=a0.a4
       have b3:dM mu 3=0:=a0.a3
       have bz:((H:Int)==0)=false:=by simp;omega
       have dd:=a0.sh
       obtain ⟨y,g⟩:∃y,decide (2<=H)=y:=⟨_,rfl⟩
       have a6:((H:Int)==1)=false->y=true:=fun e=>by rw[<-g];simp at e ⊢;omega
       rw[g]
       clear J he hi hm a0 du ev g
       refine ai.bw (hJ _ rfl) 1 (n:=0) _ rfl rfl ?_;simp only[*,go_sem,-b,-a,-hJ,muA,msA,stA,smA,Int.reduceBEq,Int.reduceBNe]
       refine ai.nil a (b _ _ _ ?_);clear b K
       repeat refine az (a _) ?_
       refine aU a fun K b=>?_
       refine ai.bw (hJ _ rfl) 3 (n:=0) _ rfl rfl ?_;simp only[*,go_sem,-b,-a,-hJ,muA,msA,stA,smA,Int.reduceBEq,Int.reduceBNe]
       refine ai.nil a (b _ _ _ ?_);clear b K
       repeat refine az (a _) ?_
       refine cP (a _) (by simp only[*,go_sem,-a,-hJ,Int.reduceBEq,Int.reduceBNe]) ?_
       repeat refine az (a _) ?_
       refine aU a fun K b=>?_
       refine ai.bw (hJ _ rfl) 5 (n:=3) _ rfl rfl ?_;simp only[*,go_sem,-b,-a,-hJ,muA,msA,stA,smA,Int.reduceBEq,Int.reduceBNe]
       refine ai.mM mu (H:Int) (a _) ⟨_,rfl,(by first|(simp only[*,go_sem,-b,-a,-hJ];done)|rfl),rfl,rfl⟩ (by simp only[*,go_sem,-b,-a,-hJ,muA,msA,stA,smA,Int.reduceBEq,Int.reduceBNe]) (by simp only[*,go_sem,-b,-a,-hJ,muA,msA,stA,smA,Int.reduceBEq,Int.reduceBNe]) dd ?_
       refine ai.bw (hJ _ rfl) 2 (n:=0) _ rfl rfl ?_;simp only[*,go_sem,-b,-a,-hJ,muA,msA,stA,smA,Int.reduceBEq,Int.reduceBNe]
       refine ai.nil a (b _ _ _ ?_);clear b K
       repeat refine az (a _) ?_
       refine cB (a _) (by simp only[*,go_sem,-a,-hJ,Int.reduceBEq,Int.reduceBNe]) ?_
       refine cE (a _) ?_
       repeat refine az (a _) ?_
       refine aU a fun K b=>?_
       refine ai.bw (hJ _ rfl) 1 (n:=0) _ rfl rfl ?_;simp only[*,go_sem,-b,-a,-hJ,muA,msA,stA,smA,Int.reduceBEq,Int.reduceBNe]
       refine ai.nil a (b _ _ _ ?_);clear b K
       repeat refine az (a _) ?_
       refine tv a (IJ Mu st c y) ?_ ?_
       ·cases dt
        ·repeat refine az (a _) ?_
         refine aU a fun K b=>?_
         refine ai.bw (hJ _ rfl) 7 (n:=0) _ rfl rfl ?_;simp only[*,go_sem,-b,-a,-hJ,muA,msA,stA,smA,Int.reduceBEq,Int.reduceBNe]
         refine ai.nil a (b _ _ _ ?_);clear b K
         exact ep ⟨true,rfl,(by simp only[*,go_sem,-a,-hJ,muA,msA,stA,smA,Int.reduceBEq,Int.reduceBNe]),(by simp only[*,go_sem,-a,-hJ,muA,msA,stA,smA,Int.reduceBEq,Int.reduceBNe]),(by simp only[*,go_sem,-a,-hJ,muA,msA,stA,smA,Int.reduceBEq,Int.reduceBNe]),(by simp only[*,go_sem,-a,-hJ,muA,msA,stA,smA,Int.reduceBEq,Int.reduceBNe]),(by simp only[*,go_sem,-a,-hJ,muA,msA,stA,smA,Int.reduceBEq,Int.reduceBNe]),by simp,rfl⟩
        ·repeat refine az (a _) ?_
         refine aU a fun K b=>?_
         refine ai.bw (hJ _ rfl) 4 (n:=3) _ rfl rfl ?_;simp only[*,go_sem,-b,-a,-hJ,muA,msA,stA,smA,Int.reduceBEq,Int.reduceBNe]
         refine ai.mM mu (H:Int) (a _) ⟨_,rfl,(by first|(simp only[*,go_sem,-b,-a,-hJ];done)|rfl),rfl,rfl⟩ (by simp only[*,go_sem,-b,-a,-hJ,muA,msA,stA,smA,Int.reduceBEq,Int.reduceBNe]) (by simp only[*,go_sem,-b,-a,-hJ,muA,msA,stA,smA,Int.reduceBEq,Int.reduceBNe]) dd ?_
         refine ai.bw (hJ _ rfl) 2 (n:=0) _ rfl rfl ?_;simp only[*,go_sem,-b,-a,-hJ,muA,msA,stA,smA,Int.reduceBEq,Int.reduceBNe]
         refine ai.nil a (b _ _ _ ?_);clear b K
         exact ep ⟨(H:Int)==1,rfl,(by simp only[*,go_sem,-a,-hJ,muA,msA,stA,smA,Int.reduceBEq,Int.reduceBNe]),(by simp only[*,go_sem,-a,-hJ,muA,msA,stA,smA,Int.reduceBEq,Int.reduceBNe]),(by simp only[*,go_sem,-a,-hJ,muA,msA,stA,smA,Int.reduceBEq,Int.reduceBNe]),(by simp only[*,go_sem,-a,-hJ,muA,msA,stA,smA,Int.reduceBEq,Int.reduceBNe]),(by simp only[*,go_sem,-a,-hJ,muA,msA,stA,smA,Int.reduceBEq,Int.reduceBNe]),a6,rfl⟩
       clear f k o d hd b4 b3 bz dd a6
       rintro A c ab ⟨e,rfl,f,fv,fw,d,hd,a6,rfl⟩
       cases e
       ·obtain rfl:=a6 rfl
        clear a6
        repeat refine az (a _) ?_
        refine cB (a _) (by simp only[*,go_sem,-a,-hJ,Int.reduceBEq,Int.reduceBNe]) ?_
        refine cE (a _) ?_
        repeat refine az (a _) ?_
        refine aU a fun K b=>?_
        refine ai.bw (hJ _ rfl) 4 (n:=1) _ rfl rfl ?_;simp only[*,go_sem,-b,-a,-hJ,muA,msA,stA,smA,Int.reduceBEq,Int.reduceBNe]
        refine xM (-7) xA a7 ⟨_,_,_,rfl,(by first|(simp only[*,go_sem,-b,-a,-hJ];done)|rfl),rfl,by first|(simp only[*,go_sem,-b,-a,-hJ,muA,msA,stA,smA,Int.reduceBEq,Int.reduceBNe];done)|(simp only[*,go_sem,-b,-a,-hJ,muA,msA,stA,smA,Int.reduceBEq,Int.reduceBNe];rfl),rfl⟩ (by rfl) (by simp) (fun φ mu ms P al bm b1 ca he hi hm=>⟨.held,_,?_,⟨_,_,_,_,_,BG hm hi {mp:=.held,gp:=.cnt,stored:=st,deaf:=1} false (by rw[he]) rfl (fun _=>rfl)⟩,?_⟩)
        ·have e0:=hm.st.eq
         have ba:P<=3*n:=hm.bound
         have eQ:=hm.st.s
         have eS:=hm.st.w
         have e3:=hm.st.l
         rw[ig (by omega) (by omega)]
         simp;omega
        refine ai.nil a (b _ _ _ ?_);clear b K
        refine om ?_
        change tA Mu st c _ _ _
        exact ⟨rfl,(by simp only[*,go_sem,-a,-hJ,muA,msA,stA,smA,Int.reduceBEq,Int.reduceBNe]),(by simp only[*,go_sem,-a,-hJ,muA,msA,stA,smA,Int.reduceBEq,Int.reduceBNe]),(by simp only[*,go_sem,-a,-hJ,muA,msA,stA,smA,Int.reduceBEq,Int.reduceBNe]),rfl⟩
       ·clear a6
        repeat refine az (a _) ?_
        refine cP (a _) (by simp only[*,go_sem,-a,-hJ,Int.reduceBEq,Int.reduceBNe]) ?_
        repeat refine az (a _) ?_
        refine aU a fun K b=>?_
        refine ai.bw (hJ _ rfl) 3 (n:=0) _ rfl rfl ?_;simp only[*,go_sem,-b,-a,-hJ,muA,msA,stA,smA,Int.reduceBEq,Int.reduceBNe]
        refine ai.nil a (b _ _ _ ?_);clear b K
        repeat refine az (a _) ?_
        refine aU a fun K b=>?_
        refine ai.bw (hJ _ rfl) 4 (n:=1) _ rfl rfl ?_;simp only[*,go_sem,-b,-a,-hJ,muA,msA,stA,smA,Int.reduceBEq,Int.reduceBNe]
        refine xM (-11) xA a7 ⟨_,_,_,rfl,(by first|(simp only[*,go_sem,-b,-a,-hJ];done)|rfl),rfl,by first|(simp only[*,go_sem,-b,-a,-hJ,muA,msA,stA,smA,Int.reduceBEq,Int.reduceBNe];done)|(simp only[*,go_sem,-b,-a,-hJ,muA,msA,stA,smA,Int.reduceBEq,Int.reduceBNe];rfl),rfl⟩ (by rfl) (by simp) (fun φ mu ms P al bm b1 ca he hi hm=>⟨.held,_,?_,⟨_,_,_,_,_,BG hm hi {mp:=.held,gp:=.cnt,stored:=st,deaf:=1} true (by rw[he]) rfl (by simp)⟩,?_⟩)
        ·have e0:=hm.st.eq
         have ba:P<=3*n:=hm.bound
         have eQ:=hm.st.s
         have eS:=hm.st.w
         have e3:=hm.st.l
         rw[ig (by omega) (by omega)]
         simp;omega
        refine ai.nil a (b _ _ _ ?_);clear b K
        refine om ?_
        change tA Mu st c _ _ _
        exact ⟨rfl,(by simp only[*,go_sem,-a,-hJ,muA,msA,stA,smA,Int.reduceBEq,Int.reduceBNe]),(by simp only[*,go_sem,-a,-hJ,muA,msA,stA,smA,Int.reduceBEq,Int.reduceBNe]),(by simp only[*,go_sem,-a,-hJ,muA,msA,stA,smA,Int.reduceBEq,Int.reduceBNe]),rfl⟩
    ·obtain ⟨J,a9,bk⟩:=s5 hm hi {mp:=.want aw mu (bL n φ ms),gp:=.cnt,stored:=st,deaf:=1} (by rw[he]) rfl
     have db:bL n φ ms<G:=bk dk
     refine ⟨.want aw mu (bL n φ ms),⟨_,_,_,_,p,J⟩,?_⟩
     clear j r x E N u T U J a9 bk he hi hm X cS a8 bj
     refine ai.nil a (b _ _ _ ?_);clear b K
     repeat refine az (a _) ?_
     refine cB (a _) (by simp only[*,go_sem,-a,-hJ,Int.reduceBEq,Int.reduceBNe]) ?_
     repeat refine az (a _) ?_
     refine aU a fun K b=>?_
     refine ai.bw (hJ _ rfl) 3 (n:=2) _ rfl rfl ?_;simp only[*,go_sem,-b,-a,-hJ,muA,msA,stA,smA,Int.reduceBEq,Int.reduceBNe]
     refine ou th oq ⟨_,rfl,(by first|(simp only[*,go_sem,-b,-a,-hJ];done)|rfl),rfl,rfl⟩ (by rfl) (by simp only[*,go_sem,-b,-a,-hJ,muA,msA,stA,smA,Int.reduceBEq,Int.reduceBNe]) (fun bc df bd H bb c0 da bo dv dC br=>?_)
     obtain ⟨cb,dE,_⟩:=s5 br dC {mp:=.want aw df (bL n bc bd),gp:=.cnt,stored:=st,deaf:=1} (by rw[dv]) rfl
     have fx:bL n bc bd<=bL n φ ms:=dE
     have ba:H<=3*n:=br.bound
     have ad:=wd br.st (by omega)
     have cd:aw=true->bb=0/\c0=1:=fun e=>by subst e;exact BE br dC (by rw[dv])
     refine ⟨.want aw df (bL n bc bd),⟨_,_,_,_,bo,cb⟩,?_⟩
     clear cb dE
     refine ai.bw (hJ _ rfl) 1 (n:=0) _ rfl rfl ?_;simp only[*,go_sem,-b,-a,-hJ,muA,msA,stA,smA,Int.reduceBEq,Int.reduceBNe]
     refine ai.nil a (b _ _ _ ?_);clear b K
     change ∃p,p<m/\tw Mu n st c p _ _ _
     exact ⟨8*bL n bc bd+(5 - it).toNat,by omega,wt,it,df,sv,aw,H,bb,c0,da,bL n bc bd,rfl,(by simp only[*,go_sem,-a,-hJ,muA,msA,stA,smA,Int.reduceBEq,Int.reduceBNe]),(by simp only[*,go_sem,-a,-hJ,muA,msA,stA,smA,Int.reduceBEq,Int.reduceBNe]),(by simp only[*,go_sem,-a,-hJ,muA,msA,stA,smA,Int.reduceBEq,Int.reduceBNe]),(by simp only[*,go_sem,-a,-hJ,muA,msA,stA,smA,Int.reduceBEq,Int.reduceBNe]),(by simp only[*,go_sem,-a,-hJ,muA,msA,stA,smA,Int.reduceBEq,Int.reduceBNe]),(by simp only[*,go_sem,-a,-hJ,muA,msA,stA,smA,Int.reduceBEq,Int.reduceBNe]),(by simp only[*,go_sem,-a,-hJ,muA,msA,stA,smA,Int.reduceBEq,Int.reduceBNe]),(by simp only[*,go_sem,-a,-hJ,muA,msA,stA,smA,Int.reduceBEq,Int.reduceBNe]),ad,ba,by omega,by omega,V,cd,Nat.le_refl _,rfl⟩
 ·rintro A F' aH ⟨rfl,f,d,hd,rfl⟩
  repeat refine az (a _) ?_
  refine cP (a _) (by simp only[*,go_sem,-a,-hJ,Int.reduceBEq,Int.reduceBNe]) ?_
  repeat refine az (a _) ?_
  refine aU a fun K b=>?_
  refine tn lA ⟨_,_,_,rfl,(by first|(simp only[*,go_sem,-b,-a,-hJ];done)|rfl),rfl,by first|(simp only[*,go_sem,-b,-a,-hJ,muA,msA,stA,smA,Int.reduceBEq,Int.reduceBNe];done)|(simp only[*,go_sem,-b,-a,-hJ,muA,msA,stA,smA,Int.reduceBEq,Int.reduceBNe];rfl),rfl⟩ (by simp) (by simp) rfl ?_
  refine ai.nil a (b _ _ _ ?_);clear b K
  repeat refine az (a _) ?_
  refine aU a fun K b=>?_
  refine ai.bw (hJ _ rfl) 1 (n:=2) _ rfl rfl ?_;simp only[*,go_sem,-b,-a,-hJ,muA,msA,stA,smA,Int.reduceBEq,Int.reduceBNe]
  refine tr ⟨Mu,0,none⟩ xC lB xE ⟨_,rfl,(by first|(simp only[*,go_sem,-b,-a,-hJ];done)|rfl),rfl,rfl⟩ (by simp) (by simp only[*,go_sem,-b,-a,-hJ,muA,msA,stA,smA,Int.reduceBEq,Int.reduceBNe]) xN ?_
  refine Ch tf ⟨_,_,_,rfl,(by first|(simp only[*,go_sem,-b,-a,-hJ];done)|rfl),rfl,by first|(simp only[*,go_sem,-b,-a,-hJ,muA,msA,stA,smA,Int.reduceBEq,Int.reduceBNe];done)|(simp only[*,go_sem,-b,-a,-hJ,muA,msA,stA,smA,Int.reduceBEq,Int.reduceBNe];rfl),rfl⟩ (by rfl) ?_
  refine ai.nil a (b _ _ _ ?_);clear b K
  exact lu rfl (by simp only[*,go_sem,-a,-hJ]) ⟨rfl,rfl,rfl⟩
end
end Go.Proofs.YtjepffnffjdloaaGreatDoor
end
section
namespace Go.Proofs.YtjepffnffjdloaaGreatDoor
open Go Go.Sep Go.Proofs Go.Conc
open Go.ConcN (upd upd_same)
open Go.ConcM (muA msA)
open Go.ConcR (stA smA)
set_option maxRecDepth 100000
set_option maxHeartbeats 4000000
section
variable {Mu Wg Is n base T0 i : Nat} {bs : Nat → Bool} {st : Bool} {F : af}
theorem IL (b:Mu≠Wg/\Mu≠Is/\Wg≠Is)(hn:n<67108864):
  cD Tryz.prog (WJ (CY Mu Wg Is n bs base T0) i) 120 #[.pointer (some (muA Mu))] F ⟨.idle,.cnt,st,0⟩ (fun v F' aH=>v= .tuple #[]/\F'=F/\aH=⟨.held,.cnt,st,0⟩):=by
 have a:=WJ.eg (CY Mu Wg Is n bs base T0) i
 have hJ:∀ph:Ph,ph.gp= .cnt->Go.Sep.Closed Tryz.prog false (WJ (CY Mu Wg Is n bs base T0) i ph):=fun ph h=>Wk.closed (CY Mu Wg Is n bs base T0) i ph h
 refine cD.go (main:=false) a Tryz.func120 rfl Tryz.ntmps120 (by simp) fun A d hd hs=>?_
 have e:=hs 0
 clear hs
 repeat refine az (a _) ?_
 refine cQ a ?_
 refine ai.bw (hJ _ rfl) 3 (n:=1) _ rfl rfl ?_;simp only[*,go_sem,muA,msA,stA,smA,Int.reduceBEq,Int.reduceBNe]
 refine ai.fP (a _) rfl rfl rfl Ec (by simp only[*,go_sem,muA]) (IC b (IK b hn)) fun v F' aH c=>?_
 obtain ⟨rfl,rfl,rfl⟩:=c
 refine ai.nil a ?_
 exact lu rfl (by simp only[*,go_sem]) ⟨rfl,rfl,rfl⟩
theorem IM (b:Mu≠Wg/\Mu≠Is/\Wg≠Is)(hn:n<67108864):
  cD Tryz.prog (WJ (CY Mu Wg Is n bs base T0) i) 121 #[.pointer (some (muA Mu))] F ⟨.held,.cnt,st,0⟩ (fun v F' aH=>v= .tuple #[]/\F'=F/\aH=⟨.fin,.cnt,st,0⟩):=by
 have a:=WJ.eg (CY Mu Wg Is n bs base T0) i
 have hJ:∀ph:Ph,ph.gp= .cnt->Go.Sep.Closed Tryz.prog false (WJ (CY Mu Wg Is n bs base T0) i ph):=fun ph h=>Wk.closed (CY Mu Wg Is n bs base T0) i ph h
 refine cD.go (main:=false) a Tryz.func121 rfl Tryz.ntmps121 (by simp) fun A d hd hs=>?_
 have e:=hs 0
 clear hs
 repeat refine az (a _) ?_
 refine cQ a ?_
 refine ai.bw (hJ _ rfl) 3 (n:=1) _ rfl rfl ?_;simp only[*,go_sem,muA,msA,stA,smA,Int.reduceBEq,Int.reduceBNe]
 refine ai.fP (a _) rfl rfl rfl Ed (by simp only[*,go_sem,muA]) (IF b hn) fun v F' aH c=>?_
 obtain ⟨rfl,rfl,rfl⟩:=c
 refine ai.nil a ?_
 exact lu rfl (by simp only[*,go_sem]) ⟨rfl,rfl,rfl⟩
end
end Go.Proofs.YtjepffnffjdloaaGreatDoor
end
section
namespace Go.Sep
open Go Go.Conc
def tB (op:BinOp)(u v:Value):Option Value:=match op with
 | .shl=>match u,v with
  | .int k a,.int _ b=>if b<0 then none else some (.int k (k.wrap (a*2 ^ min b.toNat k.bits)))
  |_,_=>none
 | .shr=>match u,v with
  | .int k a,.int _ b=>if b<0 then none else some (.int k (a.fdiv (2 ^ min b.toNat k.bits)))
  |_,_=>none
 |_=>mV op u v
def ov (P:Program)(op:Op)(a:Act):Option Value:=match op with
 | .move x| .assign x=>some (ev a x)
 | .nilCheck x=>match ev a x with
  | .pointer (some ad)=>some (.pointer (some ad))
  |_=>none
 | .pick c x y=>match ev a c with
  | .bool b=>some (if b then ev a x else ev a y)
  |_=>none
 | .binOp op t x y _=>tB op (ev a x) (ev a y)
 | .unOp op _ x=>lM op (ev a x)
 | .convert src dst x=>lO P src dst (ev a x)
 | .fieldAddr s x n=>match ev a x with
  | .pointer (some ad)=>match cI P s n with
   |some k=>some (.pointer (some (ad.add k)))
   |none=>none
  |_=>none
 |_=>none
theorem IN {P:Program}{op:BinOp}{t:TypeId}{x y:Operand}{u v r:Value}(h:tB op u v=some r)(w:World):
  (do eqGuard op t x y u v;pure (.value (<-binOp op t u v)):Sem Next).run P w= .ok (.value r) w/\(do eqGuard op t x y u v;pure (.value (<-binOp op t u v)):Sem Next).events P w #[]=#[]:=by
 unfold tB at h
 split at h
 ·split at h
  case h_2=>cases h
  split at h
  ·cases h
  ·rename_i hb;cases h;simp[eqGuard,binOp,Op.shift,hb]
 ·split at h
  case h_2=>cases h
  split at h
  ·cases h
  ·rename_i hb;cases h;simp[eqGuard,binOp,Op.shift,hb]
 ·rename_i n1 n2
  unfold mV at h
  split at h
  case h_2=>cases h
  rename_i k a c b
  split at h
  case isFalse=>cases h
  rename_i hk
  subst hk
  cases op<;>simp only[binOp,ne_eq,not_true_eq_false,if_false,Op.intArith,Op.intDiv,Op.intCmp,Op.intBits,Op.shift,eqGuard] at h ⊢<;>first
   |(cases h;done)
   |(exact absurd rfl n1)
   |(exact absurd rfl n2)
   |(cases h;simp;done)
   |(split at h
     ·cases h
     ·rename_i hb;cases h;simp[hb])
theorem Cm {P:Program}{o:Oper}{a:Act}{v:Value}(h:ov P o.op a=some v)(w:World):(execOp a.eval o).run P w= .ok (.value v) w/\(execOp a.eval o).events P w #[]=#[]:=by
 obtain ⟨dst,op,type,pos,after,guard⟩:=o
 unfold execOp
 simp only[er] at h ⊢
 unfold ov at h
 cases op<;>simp only[reduceCtorEq] at h ⊢
 case move x=>cases h;simp
 case assign x=>cases h;simp
 case nilCheck x=>
  split at h
  ·rename_i ad d;cases h;simp[d]
  ·cases h
 case pick c x y=>
  split at h
  ·rename_i b hb;cases h;simp[hb,asBool]
  ·cases h
 case binOp op t x y r=>have:=IN (P:=P) (t:=t) (x:=x) (y:=y) h w;simpa using this
 case unOp op t x=>
  revert h
  cases ev a x<;>cases op<;>simp only[lM,reduceCtorEq,false_implies,Option.some.injEq]<;>intro h<;>subst h<;>simp[Op.unary,Op.intArith]
 case convert src dst x=>
  revert h
  cases d:ev a x<;>simp only[lO,reduceCtorEq,false_implies]
  intro h
  split at h
  ·rename_i k1 q h1 h2
   cases h
   simp[convert,run_underlying h1,run_underlying h2,Conv.intToInt]
  ·cases h
 case fieldAddr s x n=>
  split at h
  case h_2=>cases h
  rename_i ad g
  split at h
  case h_2=>cases h
  rename_i k hk
  cases h
  unfold cI at hk
  split at hk
  case h_2=>cases hk
  rename_i u e
  split at hk
  case h_2=>cases hk
  rename_i f i
  split at hk
  case h_2=>cases hk
  rename_i m hm
  cases hk
  obtain ⟨inf,j,l⟩:=Option.map_eq_some_iff.1 hm
  have p:Instr.sureAddr (.pointer (some ad))=(Pure.pure ad:Sem Addr):=rfl
  simp[Instr.fieldAt,run_underlying e,e,i,g,p,fieldPlace,Go.sizeOf,typeInfo,j,l,Result.andThen,Result.evThen]
def iu (P:Program)(ops:Array Oper)(K:Act->Prop):List Oper->Act->Prop
 |[],a=>K a
 |o::rest,a=>match cz ops o a with
  |some true=>match ov P o.op a with
   |some v=>iu P ops K rest (aZ a o.dst v)
   |none=>False
  |some false=>iu P ops K rest (aZ a o.dst undef)
  |none=>False
theorem IP {P:Program}{ops:Array Oper}{K:Act->Prop}{a:Act}:iu P ops K [] a=K a:=(Eq.refl _).trans (Eq.refl _)
theorem IQ {P:Program}{ops:Array Oper}{K:Act->Prop}{o:Oper}{rest:List Oper}{a:Act}:iu P ops K (o::rest) a=match cz ops o a with
  |some true=>match ov P o.op a with
   |some v=>iu P ops K rest (aZ a o.dst v)
   |none=>False
  |some false=>iu P ops K rest (aZ a o.dst undef)
  |none=>False:=(Eq.refl _).trans (Eq.refl _)
attribute [go_sem] IP IQ ov tB
section
variable {P : Program} {main : Bool} {S : Type} {JF : S → Goroutine → af → Prop} {fi : FuncId} {ops : Array Oper} {F : af} {ph : S} {Q : Act → af → S → Prop}
theorem xO (c:dN P main (JF ph)):∀(l:List Oper) (i n:Nat) (a:Act),(∀j o,l[j]?=some o->ops[i+j]?=some o)->iu P ops (fun a'=>ai JF fi ops (i+l.length) n Q a' F ph) l a->ai JF fi ops i (l.length+n) Q a F ph
 |[],i,n,a,_,h=>by rw[List.length_nil,Nat.zero_add];exact h
 |o::rest,i,n,a,f,h=>by
  have g:ops[i]?=some o:=f 0 o rfl
  have k:∀j x,rest[j]?=some x->ops[i+1+j]?=some x:=fun j x m=>by rw[Nat.add_assoc,Nat.add_comm 1 j];exact f (j+1) x m
  have e:(o::rest).length+n=(rest.length+n)+1:=by rw[List.length_cons];omega
  have e2:∀a',ai JF fi ops (i+(o::rest).length) n Q a' F ph->ai JF fi ops (i+1+rest.length) n Q a' F ph:=fun a' x=>by
   rw[show i+1+rest.length=i+(o::rest).length by rw[List.length_cons];omega];exact x
  rw[e]
  have mono:∀(l:List Oper) (a:Act) {K d:Act->Prop},(∀a,K a->d a)->iu P ops K l a->iu P ops d l a:=by
   intro l
   induction l with
   |nil=>intro a K d hk h;exact hk a h
   |cons o l ih=>
    intro a K d hk h
    unfold iu at h ⊢
    cases hg:cz ops o a with
    |none=>rw[hg] at h;exact h.elim
    |some t=>
     rw[hg] at h
     cases t with
     |false=>exact ih _ hk h
     |true=>
      simp only at h ⊢
      cases b:ov P o.op a with
      |none=>rw[b] at h;exact h.elim
      |some v=>rw[b] at h;exact ih _ hk h
  unfold iu at h
  split at h
  ·rename_i hg
   split at h
   ·rename_i v b
    exact ai.plain c v g hg (fun w=>(Cm b w).1) (fun w=>(Cm b w).2) (xO c rest (i+1) n _ k (mono _ _ e2 h))
   ·exact h.elim
  ·rename_i hg
   exact ai.skip c g hg (xO c rest (i+1) n _ k (mono _ _ e2 h))
  ·exact h.elim
theorem ai.pure (d:dN P main (JF ph))(m:Nat){i n:Nat}{a:Act}(l:List Oper)(c:(ops.toList.drop i).take m=l)(hm:l.length=m)(h:iu P ops (fun a'=>ai JF fi ops (i+m) n Q a' F ph) l a):ai JF fi ops i (m+n) Q a F ph:=by
 subst hm
 refine xO d l i n a (fun j o b=>?_) h
 rw[<-c] at b
 have e:j<l.length:=by
  rcases Nat.lt_or_ge j l.length with x|x
  ·exact x
  ·rw[c,List.getElem?_eq_none x] at b;cases b
 rw[List.getElem?_take,if_pos e,List.getElem?_drop] at b
 simpa using b
end
end Go.Sep
end
section
namespace Go.Sep
open Go Go.Conc
open Go.ConcN (sumTo upd upd_ne upd_same)
open Go.ConcM (MuAt muA msA muBlock OsLater)
open Go.ConcR (WgAt wgBlock stA smA)
section
variable {c : Cy} {i : Nat} {ph : Ph} {ops : Array Oper} {j n : Nat} {Q : Act → af → Ph → Prop} {a : Act} {F : af} {f fi : FuncId} {d : Option Tmp}
theorem Inv.group {k:Nat}{φ:Nat->Ph}{p0:P0}{s:Sh}(h:Inv c.n c.bs k φ p0 s)(hi:i<c.n)(he:φ i=ph)(h1:ph.gp≠ .new)(h2:ph.gp≠ .cnt){gp:Gp}(a:gp≠ .new){wg ws:Int}
  (hw:dy c.n (upd φ i {ph with gp:=gp}) p0 wg ws):Inv c.n c.bs k (upd φ i {ph with gp:=gp}) p0 {s with wg:=wg,ws:=ws}:=by
 obtain ⟨C,S,W,L,m,hm⟩:=h.m
 refine h.jE hi he h1 a ⟨C,S,W,L,m,mI hm hi _ (.inl (by rw[he]))⟩ hw ?_ (fun _=>?_)
 ·have:=h.i.all i hi
  rw[he] at this
  exact (xK this).symm
 ·have:=h.i.done i hi (by rw[he];exact h2) (by rw[he];exact h1)
  rw[he] at this
  exact this
theorem IS (l:Entry c.P f (Extern.Atomic.update (Op.intArith .add) .u64 true))(m:c.Mu≠c.Wg/\c.Mu≠c.Is/\c.Wg≠c.Is)(hn:c.n<67108864)(p:At ops j a f [.pointer (some (stA c.Wg)),.int .u64 18446744069414584320] d)
  (h1:ph.gp= .rel) (h0:0<ph.deaf)
  (h:∀v t:Nat,v<=c.n->t<=1->ai (WJ c i) fi ops (j+1) n Q (aZ a d (.int .u64 ((v:Int)*4294967296+t))) F {ph with gp:=if v=0/\t=1 then .ld else .gone}):
  ai (WJ c i) fi ops j (n+1) Q a F ph:=by
 obtain ⟨o,cx,c9,g,hg,q,r,rfl⟩:=p
 obtain ⟨x,y,rfl,u,z⟩:=qs r
 obtain ⟨fn,f1,f2,f3,f4,f5⟩:=l.ex
 refine fh g (by rw[h1];simp) fun w s k φ p0 _ hs hi he e=>.inr ?_
 obtain ⟨v,t,e1,ht,A,_⟩:=BJ e.w hi ph (by rw[he];exact h1)
 obtain ⟨B,C,D,G,_,hw⟩:=BJ e.w hi {ph with gp:=if v=0/\t=1 then .ld else .gone} (by rw[he];exact h1)
 obtain ⟨rfl,rfl⟩:v=B/\t=C:=by simp only[cN] at e1 D;omega
 have e2:IntKind.u64.wrap (s.wg+18446744069414584320)=(v:Int)*4294967296+t:=by
  rw[e1]
  unfold IntKind.wrap
  simp only[IntKind.bits,IntKind.signed,cN]
  simp
  omega
 have E:s.wg - cN=(v:Int)*4294967296+t:=by rw[e1];simp only[cN];omega
 refine ⟨.int .u64 ((v:Int)*4294967296+t),_,_,{s with wg:=(v:Int)*4294967296+t},{ph with gp:=if v=0/\t=1 then .ld else .gone},fun b H cs hb=>by rw[<-e2];exact stepG_add_atomic g (cj hg) hb.kind q f1 f2 f3 f4 .u64 f5 u z hs.wg.1 hs.wg.2,by rw[<-e2];exact hs.tj m _,.set _ (.inr (.inl rfl)),?_,xI rfl ?_ h0 (.inl rfl),.inr dB,h v t A ht⟩
 ·refine e.group hi he (by rw[h1];simp) (by rw[h1];simp) (by split<;>simp) ?_
  rw[<-E]
  exact hw rfl
 ·simp only[h1];split<;>simp
theorem IT (l:Entry c.P f (Extern.Atomic.loadT (.int .u64)))(m:At ops j a f [.pointer (some (stA c.Wg))] d)(h1:ph.gp= .ld)(h0:0<ph.deaf)
  (h:ai (WJ c i) fi ops (j+1) n Q (aZ a d (.int .u64 1)) F {ph with gp:=.st}):ai (WJ c i) fi ops j (n+1) Q a F ph:=by
 obtain ⟨o,cx,c9,e,hg,p,q,rfl⟩:=m
 obtain ⟨x,rfl,r⟩:=jH q
 obtain ⟨fn,f1,f2,f3,f4,f5⟩:=l.ex
 refine fh e (by rw[h1];simp) fun w s k φ p0 _ hs hi he g=>.inr ?_
 obtain ⟨e1,hw⟩:=HF g.w hi {ph with gp:=.st} (by rw[he];exact h1) rfl
 exact ⟨.int .u64 1,_,_,s,{ph with gp:=.st},fun b t cs hb=>by rw[<-e1];exact stepG_load_atomic e (cj hg) hb.kind p f1 f2 f3 f4 .u64 f5 r hs.wg.1,hs,.refl _ _,g.group hi he (by rw[h1];simp) (by rw[h1];simp) (by simp) hw,xH false rfl (by simp[h1]) h0 (.inl rfl),.inr dB,h⟩
theorem IU (l:Entry c.P f Extern.Atomic.storeT)(m:c.Mu≠c.Wg/\c.Mu≠c.Is/\c.Wg≠c.Is)(p:At ops j a f [.pointer (some (stA c.Wg)),.int .u64 0] d)(h1:ph.gp= .st)(h0:0<ph.deaf)
  (h:ai (WJ c i) fi ops (j+1) n Q (aZ a d (.tuple #[])) F {ph with gp:=.sm}):ai (WJ c i) fi ops j (n+1) Q a F ph:=by
 obtain ⟨o,cx,c9,e,hg,q,r,rfl⟩:=p
 obtain ⟨x,y,rfl,t,u⟩:=qs r
 obtain ⟨fn,f1,f2,f3,f4,f5⟩:=l.ex
 refine fh e (by rw[h1];simp) fun w s k φ p0 _ hs hi he g=>.inr ?_
 obtain ⟨e1,hw⟩:=HG g.w hi {ph with gp:=.sm} (by rw[he];exact h1) rfl
 exact ⟨.tuple #[],_,_,{s with wg:=0},{ph with gp:=.sm},fun b v cs hb=>stepG_store_atomic e (cj hg) hb.kind q f1 f2 f3 f4 f5 t u hs.wg.1 hs.wg.2,hs.tj m _,.set _ (.inr (.inl rfl)),g.group hi he (by rw[h1];simp) (by rw[h1];simp) (by simp) hw,xH true rfl (by simp[h1]) h0 (.inl rfl),.inr dB,h⟩
theorem IV (q r:Value)(g:Entry c.P f Extern.Sync.semrelease)(t:c.Mu≠c.Wg/\c.Mu≠c.Is/\c.Wg≠c.Is)(u:At ops j a f [.pointer (some (smA c.Wg)),q,r] d)(h1:ph.gp= .sm)
  (h:ai (WJ c i) fi ops (j+1) n Q (aZ a d (.tuple #[])) F {ph with gp:=.gone}):ai (WJ c i) fi ops j (n+1) Q a F ph:=by
 obtain ⟨o,cx,c9,l,hg,m,v,rfl⟩:=u
 obtain ⟨x,y,z,rfl,e,_,_⟩:=qt v
 obtain ⟨fn,f1,f2,f3,f4,f5⟩:=g.ex
 refine fh l (by rw[h1];simp) fun w s k φ p0 _ hs hi he p=>.inr ?_
 obtain ⟨e1,hw⟩:=HH p.w hi {ph with gp:=.gone} (by rw[he];exact h1) rfl
 have A:IntKind.u32.wrap (s.ws+1)=s.ws+1:=by rw[e1];decide
 refine ⟨.tuple #[],_,_,{s with ws:=s.ws+1},{ph with gp:=.gone},fun b B cs hb=>stepG_semrelease l (cj hg) hb.kind m f1 f2 f3 f4 f5 (by simp[er,e]) hs.ws.1 hs.ws.2,by rw[A];exact hs.Cf t _,.set _ (.inr (.inl rfl)),
  p.group hi he (by rw[h1];simp) (by rw[h1];simp) (by simp) hw,xJ rfl (by simp[h1]) (.inl rfl),.inl ⟨_,m,fun x e=>?_⟩,h⟩
 cases e
 exact ⟨f,rfl,g.B4⟩
end
end Go.Sep
end
section
namespace Go.Sep
open Go Go.Conc
open Go.ConcN (sumTo upd upd_ne upd_same)
theorem ai.defer {P:Program}{main:Bool}{S:Type}{JF:S->Goroutine->af->Prop}{fi f:FuncId}{ops:Array Oper}{j n:Nat}{Q:Act->af->S->Prop}{a:Act}{F:af}{ph:S}(d:dN P main (JF ph)){o:Oper}{cx:Array Operand}{c9:Array TypeId}{vals:Array Value}
  (e:ops[j]?=some o) (hg:cz ops o a=some true) (g:o.op= .defer {callee:=.value (.func f),args:=cx,argTypes:=c9}) (hd:o.dst=none) (k:cx.map a.eval=vals)
  (h:∀a':Act,(∀i,slot a' i=slot a i)->sz a'=sz a->a'.defers=dcall f vals::a.defers->ai JF fi ops (j+1) n Q a' F ph):ai JF fi ops j (n+1) Q a F ph:=fun b c cs hb hk=>by
 rw[List.range'_succ,eA hb.round]
 refine d.move (fr':=b.at (Act.put ⟨a.tmps,dcall f (cx.map a.eval)::a.defers⟩ o.dst undef) (.inRegion ops (List.range' (j+1) n)::c)) (fun w=>stepG_defer e (cj hg) hb.kind g) ?_
 rw[<-eA hb.round,hd,k]
 exact h ⟨a.tmps,dcall f vals::a.defers⟩ (fun _=>rfl) rfl rfl b c cs hb hk
section
variable {c : Cy} {i : Nat} {ph : Ph} {F : af} {f : FuncId}
theorem IW (g:Entry c.P f (fun _=>do mark .enable;pure Extern.Race.none_))(hg:ph.gp= .gone){d:Nat}(hd:ph.deaf=d+1){b:Frame}{a:Act}{todo:List Item}{cs:List Frame}{e:List Deferred}(j:a.defers=dcall f #[]::e)
  (h:WJ c i {ph with deaf:=d} (G {b.at ⟨a.tmps,e⟩ todo with mode:=.returning} cs) F):WJ c i ph (G {b.at a todo with mode:=.returning} cs) F:=by
 obtain ⟨F0,r,hle,hW⟩:=h
 obtain ⟨q,_,k⟩:=hW.left hg
 obtain ⟨fn,f1,f2,f3,f4,f5⟩:=g.ex
 refine Wk.gone (q:=q+1) hg (QuitsD.unwind_mark .enable rfl (by simp) j f1 f2 f3 f4 f5 ?_)
 rw[hd]
 exact k
def kE (f:FuncId)(R:Value->af->Ph->Prop):Ex->Act->af->Ph->Prop
 | .exit _,_,_,_=>False
 |_,a,F,ph=>a.defers=[dcall f #[]]/\ph.gp= .gone/\∃b,ph.deaf=b+1/\R (.tuple #[]) F {ph with deaf:=b}
theorem cD.IX {f0:FuncId}(m:Entry c.P f (fun _=>do mark .enable;pure Extern.Race.none_)){fn:Func}{cd:Code}{n:Nat}{args:Array Value}{R:Value->af->Ph->Prop}(k:c.P.funcs[f0]?=some fn)(hb:fn.body=some cd)(l:fn.results=#[])(hn:fn.ntmps=n)(t:args.size<=n)
  (h:∀A:Act,sz A=n->A.defers=[]->(∀i,slot A i=args.getD i undef)->cH (WJ c i) f0 cd (kE f R) A F ph):cD c.P (WJ c i) f0 args F ph R:=by
 intro a cs o
 let b:Frame:={(default:Frame) with fn:=f0,kind:=.normal}
 have p:b.roundOf=none:=rfl
 have q:Frame.enter c.P f0 args .normal=on b {tmps:=args++Array.replicate (fn.ntmps - args.size) undef,defers:=[]} [.code cd]:=by
  simp[Frame.enter,on,k,hb,b]
  rfl
 rw[q]
 have d:=WJ.eg c i
 have leave:∀(a':Act) (todo:List Item) F' (aH:Ph),(a'.defers=[dcall f #[]]/\aH.gp= .gone/\∃g,aH.deaf=g+1/\R (.tuple #[]) F' {aH with deaf:=g})->WJ c i aH (G {on b a' todo with mode:=.returning} (a::cs)) F':=by
  intro a' todo F' aH ⟨hd,hg,g,r,s⟩
  rw[eA p]
  refine IW m hg r hd ((d _).move (fr':=a.finish (.tuple #[])) (cs':=cs) (fun w=>?_) (o _ F' _ s))
  exact stepG_leave rfl rfl k (results_none l _ c.P w) (events_results_none l _ _)
 refine h _ (by simp[sz,hn];omega) rfl (fun i=>?_) b [] (a::cs) ⟨by simp[b],rfl,rfl⟩ fun e a' F' aH j=>?_
 ·simp only[slot,hn,Array.getD_eq_getD_getElem?]
  rcases Nat.lt_or_ge i args.size with hi|hi
  ·rw[Array.getElem?_append_left hi]
  ·rw[Array.getElem?_append_right hi,Array.getElem?_replicate,Array.getElem?_eq_none hi]
   split<;>rfl
 ·cases e with
  |normal=>exact (d aH).move (fun _=>lG rfl) (leave a' _ F' aH j)
  |exit i=>exact j.elim
  |ret=>exact fun u=>(d aH).move (fun _=>stepG_ret' rfl) (leave a' _ F' aH j)
def xP (R:af->Ph->Prop):Ex->Act->af->Ph->Prop
 | .exit _,_,_,_=>False
 |_,a,F,ph=>a.defers=[]/\R F ph
theorem IY {f0:FuncId}{fn:Func}{cd:Code}{n:Nat}{args:Array Value}{R:af->Ph->Prop}(j:c.P.funcs[f0]?=some fn)(m:(fn.name== "runtime.NumGoroutine")=false)(hb:fn.body=some cd)(k:fn.results=#[])(hn:fn.ntmps=n)(r:args.size<=n)
  {b:Frame} {a:Act} {todo:List Item} {cs:List Frame} {d:List Deferred} (o:a.defers=dcall f0 args::d)
  (h:∀A:Act,sz A=n->A.defers=[]->(∀i,slot A i=args.getD i undef)->cH (WJ c i) f0 cd (xP R) A F ph)
  (p:∀F' aH,R F' aH->WJ c i aH (G {b.at ⟨a.tmps,d⟩ todo with mode:=.returning} cs) F'):WJ c i ph (G {b.at a todo with mode:=.returning} cs) F:=by
 have f:=WJ.eg c i
 refine (f ph).move (fun w=>stepG_unwind_enter o j m hb) ?_
 have leave:∀(a':Act) (l:List Item) F' (aH:Ph),(a'.defers=[]/\R F' aH)->WJ c i aH (G {(baseD f0).at a' l with mode:=.returning} ({b.at ⟨a.tmps,d⟩ todo with mode:=.returning}::cs)) F':=by
  intro a' l F' aH ⟨hd,q⟩
  exact (f _).move (fun w=>stepG_leave_deferred rfl hd j (results_none k _ c.P w) (events_results_none k _ _) rfl) (p F' aH q)
 have:=h {tmps:=args++Array.replicate (fn.ntmps - args.size) undef,defers:=[]} (by simp[sz,hn];omega) rfl (fun i=>?_) (baseD f0) [] ({b.at ⟨a.tmps,d⟩ todo with mode:=.returning}::cs) ⟨by simp[baseD],rfl,rfl⟩ fun e a' F' aH g=>?_
 ·rw[eA rfl] at this;exact this
 ·simp only[slot,hn,Array.getD_eq_getD_getElem?]
  rcases Nat.lt_or_ge i args.size with hi|hi
  ·rw[Array.getElem?_append_left hi]
  ·rw[Array.getElem?_append_right hi,Array.getElem?_replicate,Array.getElem?_eq_none hi]
   split<;>rfl
 ·cases e with
  |normal=>exact (f aH).move (fun _=>lG rfl) (leave a' _ F' aH g)
  |exit i=>exact g.elim
  |ret=>exact fun s=>(f aH).move (fun _=>stepG_ret' rfl) (leave a' _ F' aH g)
end
attribute [go_sem] kE xP
end Go.Sep
end
section
namespace Go.Sep
open Go
def kF (x y:Int):Int:=IntKind.u64.wrap ((BitVec.ofInt 64 x&&& BitVec.ofInt 64 y).toNat:Int)
@[go_sem] theorem PM (x y:Int):IntKind.u64.wrap ((@HAnd.hAnd (BitVec 64) (BitVec 64) (BitVec 64) (@instHAndOfAndOp (BitVec IntKind.u64.bits) (@BitVec.instAndOp IntKind.u64.bits)) (BitVec.ofInt 64 x) (BitVec.ofInt 64 y)).toNat:Int)=kF x y:=rfl
theorem xQ (v t:Nat)(a:v<2147483648)(ht:t<=1):kF ((v:Int)*4294967296+(t:Int)) 2147483648=0:=Go.ConcN.st_flag v t a ht
theorem xR (v t:Nat)(a:v<2147483648)(ht:t<=1):kF ((v:Int)*4294967296+(t:Int)) 2147483647=(t:Int):=Go.ConcN.st_waiters v t a ht
theorem xS (v t:Nat)(ht:t<=1):((v:Int)*4294967296+(t:Int)).fdiv 4294967296=v:=by
 rw[Int.fdiv_eq_ediv_of_nonneg _ (by decide)]
 omega
end Go.Sep
namespace Go.Proofs.YtjepffnffjdloaaGreatDoor
open Go Go.Sep Go.Proofs Go.Conc
open Go.ConcN (upd upd_same)
open Go.ConcM (muA msA)
open Go.ConcR (stA smA)
set_option maxRecDepth 100000
set_option maxHeartbeats 4000000
set_option linter.all false
section
variable {Mu Wg Is n base T0 i : Nat} {bs : Nat → Bool} {st : Bool} {F : af}
theorem IZ (w:World)(s:Sh)(h:cw (CY Mu Wg Is n bs base T0) w s):∃v,w.cell? ⟨Wg,0,none⟩=some v:=⟨_,h.wg.1⟩
theorem I0 (b:Mu≠Wg/\Mu≠Is/\Wg≠Is)(hn:n<67108864){mp:Mp}:
  cD Tryz.prog (WJ (CY Mu Wg Is n bs base T0) i) 140 #[.pointer (some (stA Wg)),.int .u64 18446744069414584320] F ⟨mp,.rel,st,1⟩
   (fun r F' aH=>F'=F/\∃v t:Nat,v<=n/\t<=1/\r= .int .u64 ((v:Int)*4294967296+(t:Int))/\aH=⟨mp,if v=0/\t=1 then .ld else .gone,st,1⟩):=by
 have a:=WJ.eg (CY Mu Wg Is n bs base T0) i
 refine cD.go (main:=false) a Tryz.func140 rfl Tryz.ntmps140 (by simp) fun A d hd hs=>?_
 have e:=hs 0
 have k1:=hs 1
 clear hs
 repeat refine az (a _) ?_
 refine cQ a ?_
 refine ai.pure (a _) 1 (n:=0) _ rfl rfl ?_;simp only[*,go_sem,muA,msA,stA,smA,Int.reduceBEq,Int.reduceBNe]
 refine ai.nil a ?_;try simp only[go_sem]
 repeat refine az (a _) ?_
 refine cQ a ?_
 refine ai.pure (a _) 4 (n:=2) _ rfl rfl ?_;simp only[*,go_sem,muA,msA,stA,smA,Int.reduceBEq,Int.reduceBNe]
 refine IS B8 b hn ⟨_,_,_,rfl,(by first|rfl|simp only[*,go_sem,Int.reduceBEq,Int.reduceBNe]),rfl,by first|(simp only[*,go_sem,muA,msA,stA,smA,Int.reduceBEq,Int.reduceBNe];done)|(simp only[*,go_sem,muA,msA,stA,smA,Int.reduceBEq,Int.reduceBNe];rfl),rfl⟩ (by rfl) (by simp) fun v t c ht=>?_
 refine ai.pure (a _) 1 (n:=0) _ rfl rfl ?_;simp only[*,go_sem,muA,msA,stA,smA,Int.reduceBEq,Int.reduceBNe]
 refine ai.nil a ?_;try simp only[go_sem]
 refine ff ?_;try simp only[go_sem]
 exact (lz rfl (by simp only[*,go_sem]) (by simp only[*,go_sem]) ⟨rfl,v,t,c,ht,rfl,rfl⟩).2
theorem I1 {mp:Mp}:
  cD Tryz.prog (WJ (CY Mu Wg Is n bs base T0) i) 142 #[.pointer (some (stA Wg))] F ⟨mp,.ld,st,1⟩
   (fun r F' aH=>F'=F/\r= .int .u64 1/\aH=⟨mp,.st,st,1⟩):=by
 have a:=WJ.eg (CY Mu Wg Is n bs base T0) i
 refine cD.go (main:=false) a Tryz.func142 rfl Tryz.ntmps142 (by simp) fun A b hd hs=>?_
 have c:=hs 0
 clear hs
 repeat refine az (a _) ?_
 refine cQ a ?_
 refine ai.pure (a _) 1 (n:=0) _ rfl rfl ?_;simp only[*,go_sem,muA,msA,stA,smA,Int.reduceBEq,Int.reduceBNe]
 refine ai.nil a ?_;try simp only[go_sem]
 repeat refine az (a _) ?_
 refine cQ a ?_
 refine ai.pure (a _) 3 (n:=2) _ rfl rfl ?_;simp only[*,go_sem,muA,msA,stA,smA,Int.reduceBEq,Int.reduceBNe]
 refine IT xB ⟨_,_,_,rfl,(by first|rfl|simp only[*,go_sem,Int.reduceBEq,Int.reduceBNe]),rfl,by first|(simp only[*,go_sem,muA,msA,stA,smA,Int.reduceBEq,Int.reduceBNe];done)|(simp only[*,go_sem,muA,msA,stA,smA,Int.reduceBEq,Int.reduceBNe];rfl),rfl⟩ (by rfl) (by simp) ?_
 refine ai.pure (a _) 1 (n:=0) _ rfl rfl ?_;simp only[*,go_sem,muA,msA,stA,smA,Int.reduceBEq,Int.reduceBNe]
 refine ai.nil a ?_;try simp only[go_sem]
 refine ff ?_;try simp only[go_sem]
 exact (lz rfl (by simp only[*,go_sem]) (by simp only[*,go_sem]) ⟨rfl,rfl,rfl⟩).2
theorem I2 (b:Mu≠Wg/\Mu≠Is/\Wg≠Is){mp:Mp}:
  cD Tryz.prog (WJ (CY Mu Wg Is n bs base T0) i) 143 #[.pointer (some (stA Wg)),.int .u64 0] F ⟨mp,.st,st,1⟩
   (fun r F' aH=>F'=F/\r= .tuple #[]/\aH=⟨mp,.sm,st,1⟩):=by
 have a:=WJ.eg (CY Mu Wg Is n bs base T0) i
 refine cD.go (main:=false) a Tryz.func143 rfl Tryz.ntmps143 (by simp) fun A c hd hs=>?_
 have d:=hs 0
 have k1:=hs 1
 clear hs
 repeat refine az (a _) ?_
 refine cQ a ?_
 refine ai.pure (a _) 4 (n:=1) _ rfl rfl ?_;simp only[*,go_sem,muA,msA,stA,smA,Int.reduceBEq,Int.reduceBNe]
 refine IU Ik b ⟨_,_,_,rfl,(by first|rfl|simp only[*,go_sem,Int.reduceBEq,Int.reduceBNe]),rfl,by first|(simp only[*,go_sem,muA,msA,stA,smA,Int.reduceBEq,Int.reduceBNe];done)|(simp only[*,go_sem,muA,msA,stA,smA,Int.reduceBEq,Int.reduceBNe];rfl),rfl⟩ (by rfl) (by simp) ?_
 refine ai.nil a ?_;try simp only[go_sem]
 exact lu rfl (by simp only[*,go_sem]) ⟨rfl,rfl,rfl⟩
end
end Go.Proofs.YtjepffnffjdloaaGreatDoor
end
section
namespace Go.Sep
open Go Go.Conc
open Go.ConcN (sumTo upd upd_ne upd_same)
open Go.ConcM (MuAt muA msA muBlock OsLater)
open Go.ConcR (WgAt wgBlock stA smA)
structure X where
 Mu:Nat
 Wg:Nat
 Is:Nat
 n:Nat
 bs:Nat->Bool
 base:Nat
 T0:Nat
 B0:Nat
inductive Z where
 |free
 |co (x:X) (k:Nat) (p:P0) (d:Nat)
structure PT where
 P:Program
 tM:TypeId
 tW:TypeId
 tI:TypeId
abbrev X.cy (x:X)(T:PT):Cy:=⟨T.P,x.Mu,x.Wg,x.Is,T.tM,T.tW,T.tI,x.n,x.bs,x.base,x.T0⟩
def ZJ (T:PT)(Φ:Goroutine->af->Prop):Z->Goroutine->af->Prop
 | .free=>ir T.P Φ
 | .co x k p d=>fun g F=>(p= .reg->k=x.n)/\ef (x.cy T) x.B0 (ir T.P Φ) k p d g F
section
variable {T : PT} {Φ : Goroutine → af → Prop} {x : X} {k d : Nat} {p : P0} {ops : Array Oper} {j n : Nat} {Q : Act → af → Z → Prop} {a : Act} {F : af} {o : Oper} {f fi : FuncId} {dt : Option Tmp}
theorem Cn {c:Cy}:Ev0 c d d #[]:=⟨by simp,rfl⟩
theorem I3 {c:Cy}:Ev0 c d (d+1) #[cF .disable]:=⟨fun e he=>by simp at he;exact .inl he,rfl⟩
theorem Co {c:Cy}:Ev0 c (d+1) d #[cF .enable]:=⟨fun e he=>by simp at he;exact .inr (.inl he),rfl⟩
theorem xT {c:Cy}{ad:Addr}(y:Bool)(h:ad.block=c.Wg):Ev0 c d d #[⟨.cell ad,y,true⟩]:=⟨fun e he=>by simp at he;exact .inr (.inr ⟨ad,h,.inl ⟨y,he⟩⟩),by simp[deafBehind]⟩
theorem Cp {c:Cy}{ad:Addr}(h:ad.block=c.Wg):Ev0 c d d #[⟨.cell ad,false,true⟩,⟨.cell ad,true,true⟩]:=
 ⟨fun e he=>by simp at he;rcases he with he|he<;>exact .inr (.inr ⟨ad,h,.inl ⟨_,he⟩⟩),by simp[deafBehind]⟩
theorem I4 {c:Cy}{ad:Addr}(h:ad.block=c.Wg):Ev0 c d d #[cF (.read ad)]:=⟨fun e he=>by simp at he;exact .inr (.inr ⟨ad,h,.inr (.inl he)⟩),by simp[deafBehind,cF]⟩
theorem I5 {c:Cy}{ad:Addr}(h:ad.block=c.Wg):Ev0 c d d #[cF (.write ad)]:=⟨fun e he=>by simp at he;exact .inr (.inr ⟨ad,h,.inr (.inr he)⟩),by simp[deafBehind,cF]⟩
theorem I6 {c:Cy}{ad:Addr}(h:ad.block=c.Wg):Ev0 c d d (semEvents ad):=by
 refine ⟨fun e he=>?_,by simp[deafBehind,semEvents]⟩
 simp[semEvents] at he
 rcases he with rfl|rfl|rfl|rfl
 ·exact .inl rfl
 ·exact .inr (.inr ⟨ad,h,.inl ⟨_,rfl⟩⟩)
 ·exact .inr (.inr ⟨ad,h,.inl ⟨_,rfl⟩⟩)
 ·exact .inr (.inl rfl)
theorem ZJ.eg (T:PT)(Φ:Goroutine->af->Prop)(z:Z):dN T.P true (ZJ T Φ z):=by
 cases z with
 |free=>exact Closed.eg (BX T.P Φ)
 |co x k p d=>
  refine ⟨fun {fr fr' cs cs' F} hs h=>⟨h.1,ef.xw (c:=x.cy T) rfl rfl h.1 fun w s φ h1 h2 h3=>?_⟩⟩
  exact ⟨_,w,#[],s,p,d,hs w,h2,.refl _ _,h3,Cn,.inr dB,h.2⟩
theorem ZJ.closed (T:PT)(Φ:Goroutine->af->Prop){z:Z}(b:∀x k d,z≠ .co x k .reg d):Closed T.P true (ZJ T Φ z):=by
 cases z with
 |free=>exact BX T.P Φ
 |co x k p d=>
  have a:p≠ .reg:=fun e=>b x k d (by rw[e])
  have hC:=ef.closed (x.cy T) x.B0 (ir T.P Φ) k p d a
  exact ⟨fun hle h=>⟨h.1,hC.mono hle h.2⟩,fun {fr cs F} h=>⟨fun e=>absurd e a,hC.step fun w hw=>by
   obtain ⟨g',w',es,F',k1,c,f,g,i⟩:=h w hw
   exact ⟨g',w',es,F',k1,c,f,g,i.2⟩⟩⟩
theorem kG (y:ops[j]?=some o)(hk:p= .reg->k=x.n)
  (h:∀(w:World) (s:Sh) (φ:Nat->Ph),Has F w->cw (x.cy T) w s->Inv x.n x.bs k φ p s->
   ∃(v:Value) (w':World) (es:Array Event) (s':Sh) (f:P0) (d':Nat),(∀(b:Frame) (e:List Item) (cs:List Frame),BF fi b->
    stepG T.P true (G (b.at a (.inRegion ops (j::List.range' (j+1) n)::e)) cs) w= .go (G (b.at (a.put o.dst v) (.inRegion ops (List.range' (j+1) n)::e)) cs) w' es)/\cw (x.cy T) w' s'/\gS (x.cy T) w w'/\Inv x.n x.bs k φ f s'/\Ev0 (x.cy T) d d' es/\
    (s'.ms<=s.ms/\s'.ws<=s.ws)/\ai (ZJ T Φ) fi ops (j+1) n Q (a.put o.dst v) F (.co x k f d')):ai (ZJ T Φ) fi ops j (n+1) Q a F (.co x k p d):=fun b e cs hb g=>by
 rw[List.range'_succ,eA hb.round]
 refine ⟨hk,ef.xw (c:=x.cy T) rfl rfl hk fun w s φ e1 e2 i=>?_⟩
 obtain ⟨v,w',es,s',f,d',k1,l,m,q,r,t,u⟩:=h w s φ e1 e2 i
 have:=u b e cs hb g
 rw[eA hb.round] at this
 exact ⟨_,w',es,s',f,d',k1 b e cs hb,l,m,q,r,.inr t,this.2⟩
theorem ow {k:Nat}{φ:Nat->Ph}{p a:P0}{s:Sh}(h:Inv x.n x.bs k φ p s){wg ws:Int}(hw:dy x.n φ a wg ws):Inv x.n x.bs k φ a {s with wg:=wg,ws:=ws}:=⟨h.m,hw,h.i⟩
theorem Cq (i:Entry T.P f (fun _=>do mark .disable;pure Extern.Race.none_)){vals:List Value}(l:At ops j a f vals dt)(hk:p= .reg->k=x.n)(c:P0)(m:∀φ wg ws,dy x.n φ p wg ws->dy x.n φ c wg ws)
  (h:ai (ZJ T Φ) fi ops (j+1) n Q (aZ a dt (.tuple #[])) F (.co x k c (d+1))):ai (ZJ T Φ) fi ops j (n+1) Q a F (.co x k p d):=by
 obtain ⟨o,cx,c9,e,hg,q,_,rfl⟩:=l
 obtain ⟨fn,f1,f2,f3,f4,f5⟩:=i.ex
 exact kG e hk fun w s φ _ hs g=>⟨.tuple #[],w,_,s,c,d+1,fun b r cs hb=>stepG_mark0 .disable (by simp) e (cj hg) hb.kind q f1 f2 f3 f4 f5,hs,.refl _ _,ow g (m _ _ _ g.w),I3,dB,h⟩
theorem Cr (e:Entry T.P f (fun _=>do mark .enable;pure Extern.Race.none_)){vals:List Value}(g:At ops j a f vals dt)(hk:p= .reg->k=x.n)
  (h:ai (ZJ T Φ) fi ops (j+1) n Q (aZ a dt (.tuple #[])) F (.co x k p d)):ai (ZJ T Φ) fi ops j (n+1) Q a F (.co x k p (d+1)):=by
 obtain ⟨o,cx,c9,c,hg,i,_,rfl⟩:=g
 obtain ⟨fn,f1,f2,f3,f4,f5⟩:=e.ex
 exact kG c hk fun w s φ _ hs l=>⟨.tuple #[],w,_,s,p,d,fun b m cs hb=>stepG_mark0 .enable (by simp) c (cj hg) hb.kind i f1 f2 f3 f4 f5,hs,.refl _ _,l,Co,dB,h⟩
theorem I7 (e:Entry T.P f (Extern.Race.marked .read))(g:At ops j a f [.pointer (some (smA x.Wg))] dt)(hk:p= .reg->k=x.n)
  (h:ai (ZJ T Φ) fi ops (j+1) n Q (aZ a dt (.tuple #[])) F (.co x k p d)):ai (ZJ T Φ) fi ops j (n+1) Q a F (.co x k p d):=by
 obtain ⟨o,cx,c9,c,hg,i,l,rfl⟩:=g
 obtain ⟨y,rfl,m⟩:=jH l
 obtain ⟨fn,f1,f2,f3,f4,f5⟩:=e.ex
 exact kG c hk fun w s φ _ hs q=>⟨.tuple #[],w,_,s,p,d,fun b r cs hb=>stepG_markAt .read (by simp) c (cj hg) hb.kind i f1 f2 f3 f4 f5 (by simp[er,m]),hs,.refl _ _,q,I4 (ad:=smA x.Wg) rfl,dB,h⟩
theorem I8 (e:Entry T.P f (Extern.Race.marked .write))(g:At ops j a f [.pointer (some (smA x.Wg))] dt)(hk:p= .reg->k=x.n)
  (h:ai (ZJ T Φ) fi ops (j+1) n Q (aZ a dt (.tuple #[])) F (.co x k p d)):ai (ZJ T Φ) fi ops j (n+1) Q a F (.co x k p d):=by
 obtain ⟨o,cx,c9,c,hg,i,l,rfl⟩:=g
 obtain ⟨y,rfl,m⟩:=jH l
 obtain ⟨fn,f1,f2,f3,f4,f5⟩:=e.ex
 exact kG c hk fun w s φ _ hs q=>⟨.tuple #[],w,_,s,p,d,fun b r cs hb=>stepG_markAt .write (by simp) c (cj hg) hb.kind i f1 f2 f3 f4 f5 (by simp[er,m]),hs,.refl _ _,q,I5 (ad:=smA x.Wg) rfl,dB,h⟩
theorem tC (ad:Addr){src dst t:TypeId}(hs:T.P.underlying src=some (.pointer t))(hd:T.P.underlying dst=some .unsafePointer)(c:(T.P.info? t).map (fun i=>decide (i.size=0))=some false){y:Operand}
  (l:mK ops j a (.convert src dst y) dt) (hk:p= .reg->k=x.n) (m:ev a y= .pointer (some ad)) (q:∀w s,cw (x.cy T) w s->∃v,w.cell? ad=some v) (h:ai (ZJ T Φ) fi ops (j+1) n Q (aZ a dt (.pointer (some ad))) F (.co x k p d)):ai (ZJ T Φ) fi ops j (n+1) Q a F (.co x k p d):=by
 obtain ⟨o,e,hg,r,rfl⟩:=l
 refine kG e hk fun w s φ _ f u=>⟨_,w,#[],s,p,d,fun b B cs hb=>?_,f,.refl _ _,u,Cn,dB,h⟩
 obtain ⟨v,g⟩:=q w s f
 have e1:execOp a.eval o=(do pure (.value (<-convert src dst (.pointer (some ad)))):Sem Next):=by
  unfold execOp
  simp only[r,er,m]
 have z:(execOp a.eval o).run T.P w= .ok (.value (.pointer (some ad))) w:=by
  rw[e1];simp[run_convert_to_unsafe hs hd c g]
 have A:(execOp a.eval o).events T.P w #[]=#[]:=by
  rw[e1];simp[events_convert_to_unsafe hs hd c g]
 rw[stepG_value e (cj hg) hb.kind z]
 unfold listed
 rw[A,seen_none]
theorem I9 (i:Entry T.P f (Extern.Atomic.update (Op.intArith .add) .u64 true))(l:x.Mu≠x.Wg/\x.Mu≠x.Is/\x.Wg≠x.Is)(hn:x.n<67108864)(m:At ops j a f [.pointer (some (stA x.Wg)),.int .u64 4294967296] dt)
  (h:∀v:Nat,v<=x.n->ai (ZJ T Φ) fi ops (j+1) n Q (aZ a dt (.int .u64 (((v+1:Nat):Int)*4294967296+((0:Nat):Int)))) F (.co x k (.opn 1) d)):ai (ZJ T Φ) fi ops j (n+1) Q a F (.co x k (.opn 0) d):=by
 obtain ⟨o,cx,c9,c,hg,p,q,rfl⟩:=m
 obtain ⟨y,z,rfl,r,t⟩:=qs q
 obtain ⟨fn,f1,f2,f3,f4,f5⟩:=i.ex
 refine kG c (fun e=>by cases e) fun w s φ _ hs g=>?_
 obtain ⟨v,e1,u,hw⟩:=HI g.w
 have e2:IntKind.u64.wrap (s.wg+4294967296)=((v+1:Nat):Int)*4294967296+((0:Nat):Int):=by
  rw[e1]
  unfold IntKind.wrap
  simp only[IntKind.bits,IntKind.signed,cN]
  simp
  omega
 have A:s.wg+cN=((v+1:Nat):Int)*4294967296+((0:Nat):Int):=by rw[e1];simp only[cN];omega
 rw[A] at hw
 exact ⟨_,_,_,{s with wg:=((v+1:Nat):Int)*4294967296+((0:Nat):Int)},.opn 1,d,fun b B cs hb=>by rw[<-e2];exact stepG_add_atomic c (cj hg) hb.kind p f1 f2 f3 f4 .u64 f5 r t hs.wg.1 hs.wg.2,by rw[<-e2];exact hs.tj l _,.set _ (.inr (.inl rfl)),ow g hw,Cp rfl,dB,h v u⟩
theorem Ja (i:Entry T.P f (Extern.Atomic.loadT (.int .u64)))(l:At ops j a f [.pointer (some (stA x.Wg))] dt){u:Nat}
  (h:∀v:Nat,v<=u->ai (ZJ T Φ) fi ops (j+1) n Q (aZ a dt (.int .u64 ((v:Int)*4294967296+((0:Nat):Int)))) F (.co x k (if v=0 then .eJ else .look v) d)):ai (ZJ T Φ) fi ops j (n+1) Q a F (.co x k (.look u) d):=by
 obtain ⟨o,cx,c9,c,hg,m,p,rfl⟩:=l
 obtain ⟨y,rfl,q⟩:=jH p
 obtain ⟨fn,f1,f2,f3,f4,f5⟩:=i.ex
 refine kG c (fun e=>by cases e) fun w s φ _ hs g=>?_
 obtain ⟨v,e1,r,hw⟩:=HL g.w
 have e2:s.wg=(v:Int)*4294967296+((0:Nat):Int):=by rw[e1];simp only[cN];omega
 exact ⟨_,_,_,s,_,d,fun b t cs hb=>by rw[<-e2];exact stepG_load_atomic c (cj hg) hb.kind m f1 f2 f3 f4 .u64 f5 q hs.wg.1,hs,.refl _ _,ow g hw,xT false rfl,dB,h v r⟩
theorem Jb (i:Entry T.P f (Extern.Atomic.loadT (.int .u64)))(l:At ops j a f [.pointer (some (stA x.Wg))] dt)
  (h:ai (ZJ T Φ) fi ops (j+1) n Q (aZ a dt (.int .u64 0)) F (.co x k .eJ d)):ai (ZJ T Φ) fi ops j (n+1) Q a F (.co x k .eJ d):=by
 obtain ⟨o,cx,c9,c,hg,m,p,rfl⟩:=l
 obtain ⟨y,rfl,q⟩:=jH p
 obtain ⟨fn,f1,f2,f3,f4,f5⟩:=i.ex
 refine kG c (fun e=>by cases e) fun w s φ _ hs g=>?_
 have e2:s.wg=0:=(BK g.w).1
 exact ⟨_,_,_,s,_,d,fun b r cs hb=>by rw[<-e2];exact stepG_load_atomic c (cj hg) hb.kind m f1 f2 f3 f4 .u64 f5 q hs.wg.1,hs,.refl _ _,g,xT false rfl,dB,h⟩
theorem Jc (q:Entry T.P f (Extern.Atomic.casT (.int .u64)))(r:x.Mu≠x.Wg/\x.Mu≠x.Is/\x.Wg≠x.Is){v:Nat}(t:0<v)(hk:k=x.n)(u:At ops j a f [.pointer (some (stA x.Wg)),.int .u64 ((v:Int)*4294967296+((0:Nat):Int)),.int .u64 ((v:Int)*4294967296+((0:Nat):Int)+1)] dt)
  (A:ai (ZJ T Φ) fi ops (j+1) n Q (aZ a dt (.bool true)) F (.co x k .reg d)) (B:ai (ZJ T Φ) fi ops (j+1) n Q (aZ a dt (.bool false)) F (.co x k (.look (v - 1)) d)):ai (ZJ T Φ) fi ops j (n+1) Q a F (.co x k (.look v) d):=by
 obtain ⟨o,cx,c9,g,hg,h,C,rfl⟩:=u
 obtain ⟨y,z,H,rfl,i,l,m⟩:=qt C
 obtain ⟨fn,f1,f2,f3,f4,f5⟩:=q.ex
 refine kG g (fun e=>by cases e) fun w s φ _ hs c=>?_
 by_cases e:s.wg=(v:Int)*4294967296+((0:Nat):Int)
 ·have e1:s.wg=(v:Int)*cN:=by rw[e];simp only[cN];omega
  have hw:=c.w
  rw[e1] at hw
  have p:=HM hw t
  have D:(v:Int)*cN+1=(v:Int)*4294967296+((0:Nat):Int)+1:=by simp only[cN];omega
  rw[D] at p
  exact ⟨.bool true,_,_,{s with wg:=(v:Int)*4294967296+((0:Nat):Int)+1},.reg,d,fun b E cs hb=>stepG_cas_hit g (cj hg) hb.kind h f1 f2 f3 f4 .u64 f5 i l m (by rw[<-e];exact hs.wg.1) hs.wg.2,hs.tj r _,.set _ (.inr (.inl rfl)),ow c p,Cp rfl,dB,A⟩
 ·have e1:s.wg≠(v:Int)*cN:=fun G=>e (by rw[G];simp only[cN];omega)
  exact ⟨.bool false,_,_,s,.look (v - 1),d,fun b E cs hb=>stepG_cas_miss g (cj hg) hb.kind h f1 f2 f3 f4 .u64 f5 i l m hs.wg.1 hs.wg.2 e,hs,.refl _ _,ow c (HN c.w e1).2,xT false rfl,dB,B⟩
theorem Jd (m:Value)(p:Entry T.P f Extern.Sync.semacquire)(q:x.Mu≠x.Wg/\x.Mu≠x.Is/\x.Wg≠x.Is)(hk:k=x.n)(r:At ops j a f [.pointer (some (smA x.Wg)),m] dt)
  (h:ai (ZJ T Φ) fi ops (j+1) n Q (aZ a dt (.tuple #[])) F (.co x k .eJ d)):ai (ZJ T Φ) fi ops j (n+1) Q a F (.co x k .reg d):=fun b t cs hb u=>by
 obtain ⟨o,cx,c9,e,hg,g,v,rfl⟩:=r
 obtain ⟨y,z,rfl,i,_⟩:=qs v
 obtain ⟨fn,f1,f2,f3,f4,f5⟩:=p.ex
 rw[List.range'_succ,eA hb.round]
 refine ⟨fun _=>hk,ef.act (c:=x.cy T) rfl rfl (fun _=>⟨hk,fun w s hs h0=>?_⟩) fun w s φ e1 hs l A=>?_⟩
 ·exact stepG_semacquire_wait e (cj hg) g f1 f2 f3 f4 f5 (ad:=smA x.Wg) (by simp[er,i]) (by rw[hs.ws.1,h0])
 ·have h0:=A rfl
  obtain ⟨B,C,hw⟩:=HO l.w h0
  have:=h b t cs hb u
  rw[eA hb.round] at this
  exact ⟨_,_,_,{s with ws:=s.ws - 1},.eJ,d,stepG_semacquire e (cj hg) hb.kind g f1 f2 f3 f4 f5 (by simp[er,i]) hs.ws.1 h0 hs.ws.2,hs.Cf q _,.set _ (.inr (.inl rfl)),ow l hw,I6 rfl,.inr ⟨Int.le_refl _,by simp only;omega⟩,this.2⟩
theorem Cs (d:Entry T.P f (Extern.Race.marked .acquire))(hk:k=x.n)(e:At ops j a f [.pointer (some (stA x.Wg))] dt)
  (h:ai (ZJ T Φ) fi ops (j+1) n Q (aZ a dt (.tuple #[])) ⟨F.ro,(x.Is,(x.cy T).fin)::F.own⟩ .free):ai (ZJ T Φ) fi ops j (n+1) Q a F (.co x k .eJ 0):=fun b g cs hb i=>by
 obtain ⟨o,cx,c9,l,hg,m,p,rfl⟩:=e
 obtain ⟨y,rfl,q⟩:=jH p
 obtain ⟨fn,f1,f2,f3,f4,f5⟩:=d.ex
 rw[List.range'_succ,eA hb.round]
 subst hk
 have:=h b g cs hb i
 rw[eA hb.round] at this
 exact ⟨fun _=>rfl,ef.join (c:=x.cy T) rfl rfl fun w hw=>⟨_,stepG_markAt .acquire (by simp) l (cj hg) hb.kind m f1 f2 f3 f4 f5 (by simp[er,q]),rfl,this⟩⟩
theorem Je (hk:k<x.n){d:Deferred}{fv:Operand}{g:Fn}{caps:Array Value}(i:ops[j]?=some o)(hg:cz ops o a=some true)(f:∀w,(execOp a.eval o).run T.P w= .ok (.spawn d) w/\(execOp a.eval o).events T.P w #[]=#[])(hd:d.target= .fn g caps)
  (hW:Wk (x.cy T) k ⟨.idle,.cnt,false,0⟩ (born T.P d) ⟨F.ro,[]⟩) (h:ai (ZJ T Φ) fi ops (j+1) n Q (aZ a o.dst undef) F (.co x (k+1) (.opn 0) 0)):ai (ZJ T Φ) fi ops j (n+1) Q a F (.co x k (.opn 1) 0):=fun b l cs hb m=>by
 rw[List.range'_succ,eA hb.round]
 have:=h b l cs hb m
 rw[eA hb.round] at this
 refine ⟨fun e=>(by cases e),ef.spawn (c:=x.cy T) rfl rfl hk fun w hw=>⟨_,_,?_,hW,rfl,rfl,this.2⟩⟩
 rw[stepG_spawn i (cj hg) hb.kind (f w).1 hd]
 unfold listed
 rw[(f w).2,seen_none]
 rfl
end
section
variable {T : PT} {Φ : Goroutine → af → Prop} {fi f : FuncId}
theorem Jf {cd:Code}{Q:Ex->Act->af->Z->Prop}{a:Act}{F:af}(c:af)(Mu Wg Is n:Nat)(bs:Nat->Bool)
  (hle:Le ⟨c.ro,(Mu,muBlock T.tM 0 0)::(Wg,wgBlock T.tW 0 0)::(Is,.cells (List.replicate n (Value.bool false)).toArray T.tI)::c.own⟩ F)
  (h:∀base B0 T0,0<base->(Mu≠Wg/\Mu≠Is/\Wg≠Is)->cH (ZJ T Φ) fi cd Q a c (.co ⟨Mu,Wg,Is,n,bs,base,T0,B0⟩ 0 (.opn 0) 0)):cH (ZJ T Φ) fi cd Q a F .free:=fun b k cs hb hk=>
 ir.found bs rfl rfl hle fun base B0 T0 h0 d=>(h base B0 T0 h0 d b k cs hb hk).2
theorem Jg (j:Entry T.P f (fun _=>do mark .enable;pure Extern.Race.none_)){x:X}{k d:Nat}{p:P0}{F:af}(hk:p= .reg->k=x.n){b:Frame}{a:Act}{todo:List Item}{cs:List Frame}{e:List Deferred}(l:a.defers=dcall f #[]::e)
  (h:ZJ T Φ (.co x k p d) (G {b.at ⟨a.tmps,e⟩ todo with mode:=.returning} cs) F):ZJ T Φ (.co x k p (d+1)) (G {b.at a todo with mode:=.returning} cs) F:=by
 obtain ⟨fn,f1,f2,f3,f4,f5⟩:=j.ex
 refine ⟨hk,ef.xw (c:=x.cy T) rfl rfl hk fun w s φ e1 hs m=>⟨_,w,#[cF .enable],s,p,d,?_,hs,.refl _ _,m,Co,.inr dB,h.2⟩⟩
 exact stepG_unwind_entry (v:=.tuple #[]) l f1 f2 f3 f4 f5 (by simp[Extern.Race.none_]) (by simp[cF]) (by
  intro y i
  simp[cF] at i
  subst i
  exact ⟨rfl,fun g h=>by cases h⟩)
def xU (f:FuncId)(R:Value->af->Z->Prop):Ex->Act->af->Z->Prop
 | .exit _,_,_,_=>False
 |_,a,F,z=>a.defers=[dcall f #[]]/\∃x k p d,(p= .reg->k=x.n)/\z= .co x k p (d+1)/\R (.tuple #[]) F (.co x k p d)
theorem cD.Jh {f0:FuncId}(o:Entry T.P f (fun _=>do mark .enable;pure Extern.Race.none_)){fn:Func}{cd:Code}{n:Nat}{args:Array Value}{R:Value->af->Z->Prop}{F:af}{z:Z}(l:T.P.funcs[f0]?=some fn)(hb:fn.body=some cd)(m:fn.results=#[])(hn:fn.ntmps=n)(v:args.size<=n)
  (h:∀A:Act,sz A=n->A.defers=[]->(∀i,slot A i=args.getD i undef)->cH (ZJ T Φ) f0 cd (xU f R) A F z):cD T.P (ZJ T Φ) f0 args F z R:=by
 intro c cs q
 let b:Frame:={(default:Frame) with fn:=f0,kind:=.normal}
 have r:b.roundOf=none:=rfl
 have s:Frame.enter T.P f0 args .normal=on b {tmps:=args++Array.replicate (fn.ntmps - args.size) undef,defers:=[]} [.code cd]:=by
  simp[Frame.enter,on,l,hb,b]
  rfl
 rw[s]
 have g:=ZJ.eg T Φ
 have leave:∀(a':Act) (todo:List Item) F' (a:Z),(a'.defers=[dcall f #[]]/\∃x k p d,(p= .reg->k=x.n)/\a= .co x k p (d+1)/\R (.tuple #[]) F' (.co x k p d))->ZJ T Φ a (G {on b a' todo with mode:=.returning} (c::cs)) F':=by
  intro a' todo F' a ⟨hd,x,k,p,d,hk,t,u⟩
  subst t
  rw[eA r]
  refine Jg o hk hd ((g _).move (fr':=c.finish (.tuple #[])) (cs':=cs) (fun w=>?_) (q _ F' _ u))
  exact stepG_leave rfl rfl l (results_none m _ T.P w) (events_results_none m _ _)
 refine h _ (by simp[sz,hn];omega) rfl (fun i=>?_) b [] (c::cs) ⟨by simp[b],rfl,rfl⟩ fun e a' F' a j=>?_
 ·simp only[slot,hn,Array.getD_eq_getD_getElem?]
  rcases Nat.lt_or_ge i args.size with hi|hi
  ·rw[Array.getElem?_append_left hi]
  ·rw[Array.getElem?_append_right hi,Array.getElem?_replicate,Array.getElem?_eq_none hi]
   split<;>rfl
 ·cases e with
  |normal=>exact (g a).move (fun _=>lG rfl) (leave a' _ F' a j)
  |exit i=>exact j.elim
  |ret=>exact fun y=>(g a).move (fun _=>stepG_ret' rfl) (leave a' _ F' a j)
theorem fA.Ji {args:Array Value}{ro:Addr->Option Value}{R:Value->af->Prop}(h:∀Φ,cD T.P (ZJ T Φ) f args ⟨ro,[]⟩ .free (fun v F' z=>z= .free/\R v F')):fA T.P f args ⟨ro,[]⟩ R:=
 fA.Ie fun Φ c cs a=>h Φ c cs fun v F' z ⟨b,d⟩=>by subst b;exact a v F' d
end
end Go.Sep
end
section
namespace Go.Proofs.YtjepffnffjdloaaGreatDoor
open Go Go.Sep Go.Proofs Go.Conc
open Go.ConcN (upd upd_same)
open Go.ConcM (muA msA)
open Go.ConcR (stA smA)
set_option maxRecDepth 100000
set_option maxHeartbeats 4000000
noncomputable abbrev TT:PT:=⟨Tryz.prog,166,173,4⟩
theorem Jj {f:FuncId}{R:Value->af->Z->Prop}{a:Act}{F:af}{x:X}{k d:Nat}{p:P0}(hd:a.defers=[dcall f #[]])(hk:p= .reg->k=x.n)(b:R (.tuple #[]) F (.co x k p d)):xU f R .ret a F (.co x k p (d+1)):=⟨hd,x,k,p,d,hk,rfl,b⟩
section
variable {Φ : Goroutine → af → Prop} {x : X} {F : af} {k : Nat}
theorem Ct (w:World)(s:Sh)(h:cw (x.cy TT) w s):∃v,w.cell? ⟨x.Wg,0,none⟩=some v:=⟨_,h.wg.1⟩
theorem Cu (w:World)(s:Sh)(h:cw (x.cy TT) w s):∃v,w.cell? ⟨x.Wg,1,none⟩=some v:=⟨_,h.ws.1⟩
theorem Jk (c:x.Mu≠x.Wg/\x.Mu≠x.Is/\x.Wg≠x.Is)(hn:x.n<67108864):
  cD Tryz.prog (ZJ TT Φ) 140 #[.pointer (some (stA x.Wg)),.int .u64 4294967296] F (.co x k (.opn 0) 1)
   (fun r F' d=>F'=F/\∃v:Nat,v<=x.n/\r= .int .u64 (((v+1:Nat):Int)*4294967296+((0:Nat):Int))/\d= .co x k (.opn 1) 1):=by
 have a:=ZJ.eg TT Φ
 have hJ:True:=trivial
 refine cD.go (main:=true) a Tryz.func140 rfl Tryz.ntmps140 (by simp) fun A f hd hs=>?_
 have g:=hs 0
 have k1:=hs 1
 clear hs
 repeat refine az (a _) ?_
 refine aU a fun K b=>?_
 refine ai.pure (a _) 1 (n:=0) _ rfl rfl ?_;simp only[*,go_sem,-b,-a,muA,msA,stA,smA,Int.reduceBEq,Int.reduceBNe]
 refine ai.nil a (b _ _ _ ?_);clear b K
 repeat refine az (a _) ?_
 refine aU a fun K b=>?_
 refine ai.pure (a _) 4 (n:=2) _ rfl rfl ?_;simp only[*,go_sem,-b,-a,muA,msA,stA,smA,Int.reduceBEq,Int.reduceBNe]
 refine I9 B8 c hn ⟨_,_,_,rfl,(by first|(simp only[*,go_sem,-b,-a,-hJ];done)|rfl),rfl,by first|(simp only[*,go_sem,-b,-a,-hJ,muA,msA,stA,smA,Int.reduceBEq,Int.reduceBNe];done)|(simp only[*,go_sem,-b,-a,-hJ,muA,msA,stA,smA,Int.reduceBEq,Int.reduceBNe];rfl),rfl⟩ fun v e=>?_
 refine ai.pure (a _) 1 (n:=0) _ rfl rfl ?_;simp only[*,go_sem,-b,-a,muA,msA,stA,smA,Int.reduceBEq,Int.reduceBNe]
 refine ai.nil a (b _ _ _ ?_);clear b K
 exact ff (lz rfl (by simp only[*,go_sem,-a,-hJ,muA,msA,stA,smA,Int.reduceBEq,Int.reduceBNe]) (by simp only[*,go_sem,-a,-hJ,muA,msA,stA,smA,Int.reduceBEq,Int.reduceBNe]) ⟨rfl,v,e,rfl,rfl⟩).2
theorem Jl {u:Nat}:
  cD Tryz.prog (ZJ TT Φ) 142 #[.pointer (some (stA x.Wg))] F (.co x k (.look u) 1)
   (fun r F' c=>F'=F/\∃v:Nat,v<=u/\r= .int .u64 ((v:Int)*4294967296+((0:Nat):Int))/\c= .co x k (if v=0 then .eJ else .look v) 1):=by
 have a:=ZJ.eg TT Φ
 have hJ:True:=trivial
 refine cD.go (main:=true) a Tryz.func142 rfl Tryz.ntmps142 (by simp) fun A e hd hs=>?_
 have f:=hs 0
 clear hs
 repeat refine az (a _) ?_
 refine aU a fun K b=>?_
 refine ai.pure (a _) 1 (n:=0) _ rfl rfl ?_;simp only[*,go_sem,-b,-a,muA,msA,stA,smA,Int.reduceBEq,Int.reduceBNe]
 refine ai.nil a (b _ _ _ ?_);clear b K
 repeat refine az (a _) ?_
 refine aU a fun K b=>?_
 refine ai.pure (a _) 3 (n:=2) _ rfl rfl ?_;simp only[*,go_sem,-b,-a,muA,msA,stA,smA,Int.reduceBEq,Int.reduceBNe]
 refine Ja xB ⟨_,_,_,rfl,(by first|(simp only[*,go_sem,-b,-a,-hJ];done)|rfl),rfl,by first|(simp only[*,go_sem,-b,-a,-hJ,muA,msA,stA,smA,Int.reduceBEq,Int.reduceBNe];done)|(simp only[*,go_sem,-b,-a,-hJ,muA,msA,stA,smA,Int.reduceBEq,Int.reduceBNe];rfl),rfl⟩ fun v d=>?_
 refine ai.pure (a _) 1 (n:=0) _ rfl rfl ?_;simp only[*,go_sem,-b,-a,muA,msA,stA,smA,Int.reduceBEq,Int.reduceBNe]
 refine ai.nil a (b _ _ _ ?_);clear b K
 exact ff (lz rfl (by simp only[*,go_sem,-a,-hJ,muA,msA,stA,smA,Int.reduceBEq,Int.reduceBNe]) (by simp only[*,go_sem,-a,-hJ,muA,msA,stA,smA,Int.reduceBEq,Int.reduceBNe]) ⟨rfl,v,d,rfl,rfl⟩).2
theorem Jm:
  cD Tryz.prog (ZJ TT Φ) 142 #[.pointer (some (stA x.Wg))] F (.co x k .eJ 1)
   (fun r F' c=>F'=F/\r= .int .u64 0/\c= .co x k .eJ 1):=by
 have a:=ZJ.eg TT Φ
 have hJ:True:=trivial
 refine cD.go (main:=true) a Tryz.func142 rfl Tryz.ntmps142 (by simp) fun A d hd hs=>?_
 have e:=hs 0
 clear hs
 repeat refine az (a _) ?_
 refine aU a fun K b=>?_
 refine ai.pure (a _) 1 (n:=0) _ rfl rfl ?_;simp only[*,go_sem,-b,-a,muA,msA,stA,smA,Int.reduceBEq,Int.reduceBNe]
 refine ai.nil a (b _ _ _ ?_);clear b K
 repeat refine az (a _) ?_
 refine aU a fun K b=>?_
 refine ai.pure (a _) 3 (n:=2) _ rfl rfl ?_;simp only[*,go_sem,-b,-a,muA,msA,stA,smA,Int.reduceBEq,Int.reduceBNe]
 refine Jb xB ⟨_,_,_,rfl,(by first|(simp only[*,go_sem,-b,-a,-hJ];done)|rfl),rfl,by first|(simp only[*,go_sem,-b,-a,-hJ,muA,msA,stA,smA,Int.reduceBEq,Int.reduceBNe];done)|(simp only[*,go_sem,-b,-a,-hJ,muA,msA,stA,smA,Int.reduceBEq,Int.reduceBNe];rfl),rfl⟩ ?_
 refine ai.pure (a _) 1 (n:=0) _ rfl rfl ?_;simp only[*,go_sem,-b,-a,muA,msA,stA,smA,Int.reduceBEq,Int.reduceBNe]
 refine ai.nil a (b _ _ _ ?_);clear b K
 exact ff (lz rfl (by simp only[*,go_sem,-a,-hJ,muA,msA,stA,smA,Int.reduceBEq,Int.reduceBNe]) (by simp only[*,go_sem,-a,-hJ,muA,msA,stA,smA,Int.reduceBEq,Int.reduceBNe]) ⟨rfl,rfl,rfl⟩).2
theorem Jn (d:x.Mu≠x.Wg/\x.Mu≠x.Is/\x.Wg≠x.Is){v:Nat}(e:0<v):
  cD Tryz.prog (ZJ TT Φ) 151 #[.pointer (some (stA x.Wg)),.int .u64 ((v:Int)*4294967296+((0:Nat):Int)),.int .u64 ((v:Int)*4294967296+((0:Nat):Int)+1)] F (.co x x.n (.look v) 1)
   (fun r F' c=>F'=F/\((r= .bool true/\c= .co x x.n .reg 1)\/(r= .bool false/\c= .co x x.n (.look (v - 1)) 1))):=by
 have a:=ZJ.eg TT Φ
 have hJ:True:=trivial
 refine cD.go (main:=true) a Tryz.func151 rfl Tryz.ntmps151 (by simp) fun A f hd hs=>?_
 have g:=hs 0
 have k1:=hs 1
 have h:=hs 2
 clear hs
 repeat refine az (a _) ?_
 refine aU a fun K b=>?_
 refine ai.pure (a _) 1 (n:=0) _ rfl rfl ?_;simp only[*,go_sem,-b,-a,muA,msA,stA,smA,Int.reduceBEq,Int.reduceBNe]
 refine ai.nil a (b _ _ _ ?_);clear b K
 repeat refine az (a _) ?_
 refine aU a fun K b=>?_
 refine ai.pure (a _) 5 (n:=2) _ rfl rfl ?_;simp only[*,go_sem,-b,-a,muA,msA,stA,smA,Int.reduceBEq,Int.reduceBNe]
 refine Jc Ij d e rfl ⟨_,_,_,rfl,(by first|(simp only[*,go_sem,-b,-a,-hJ];done)|rfl),rfl,by first|(simp only[*,go_sem,-b,-a,-hJ,muA,msA,stA,smA,Int.reduceBEq,Int.reduceBNe];done)|(simp only[*,go_sem,-b,-a,-hJ,muA,msA,stA,smA,Int.reduceBEq,Int.reduceBNe];rfl),rfl⟩ ?_ ?_
 ·refine ai.pure (a _) 1 (n:=0) _ rfl rfl ?_;simp only[*,go_sem,-b,-a,muA,msA,stA,smA,Int.reduceBEq,Int.reduceBNe]
  refine ai.nil a (b _ _ _ ?_);clear b K
  exact ff (lz rfl (by simp only[*,go_sem,-a,-hJ,muA,msA,stA,smA,Int.reduceBEq,Int.reduceBNe]) (by simp only[*,go_sem,-a,-hJ,muA,msA,stA,smA,Int.reduceBEq,Int.reduceBNe]) ⟨rfl,.inl ⟨rfl,rfl⟩⟩).2
 ·refine ai.pure (a _) 1 (n:=0) _ rfl rfl ?_;simp only[*,go_sem,-b,-a,muA,msA,stA,smA,Int.reduceBEq,Int.reduceBNe]
  refine ai.nil a (b _ _ _ ?_);clear b K
  exact ff (lz rfl (by simp only[*,go_sem,-a,-hJ,muA,msA,stA,smA,Int.reduceBEq,Int.reduceBNe]) (by simp only[*,go_sem,-a,-hJ,muA,msA,stA,smA,Int.reduceBEq,Int.reduceBNe]) ⟨rfl,.inr ⟨rfl,rfl⟩⟩).2
end
def Jo (Wg:Nat)(F:af)(z:Z)(v:Int)(a:Act)(F':af)(b:Z):Prop:=
 F'=F/\slot a 1= .int .i64 1/\slot a 7= .int .i32 v/\slot a 8= .int .u32 0/\sz a=117/\a.defers=[dcall 135 #[]]/\b=z
section
variable {Φ : Goroutine → af → Prop} {x : X} {F : af} {k : Nat}
theorem Jp (o:x.Mu≠x.Wg/\x.Mu≠x.Is/\x.Wg≠x.Is)(hn:x.n<67108864):
  cD Tryz.prog (ZJ TT Φ) 115 #[.pointer (some (stA x.Wg)),.int .i64 1] F (.co x k (.opn 0) 0)
   (fun r F' g=>r= .tuple #[]/\F'=F/\g= .co x k (.opn 1) 0):=by
 have a:=ZJ.eg TT Φ
 have hJ:True:=trivial
 refine cD.Jh lA Tryz.func115 rfl rfl Tryz.ntmps115 (by simp) fun A i hd hs=>?_
 have p:=hs 0
 have k1:=hs 1
 clear hs
 have c1:decide ((1:Int)<0)=false:=by decide
 have c2:decide ((1:Int)>0)=true:=by decide
 repeat refine az (a _) ?_
 refine cP (a _) (by simp only[*,go_sem,-a,-hJ,Int.reduceBEq,Int.reduceBNe]) ?_
 repeat refine az (a _) ?_
 refine aU a fun K b=>?_
 refine ai.pure (a _) 2 (n:=0) _ rfl rfl ?_;simp only[*,go_sem,-b,-a,muA,msA,stA,smA,Int.reduceBEq,Int.reduceBNe]
 refine ai.nil a (b _ _ _ ?_);clear b K
 repeat refine az (a _) ?_
 refine cB (a _) (by simp only[*,go_sem,-a,-hJ,Int.reduceBEq,Int.reduceBNe]) ?_
 refine cE (a _) ?_
 repeat refine az (a _) ?_
 refine aU a fun K b=>?_
 refine Cq qq ⟨_,_,_,rfl,(by first|(simp only[*,go_sem,-b,-a,-hJ];done)|rfl),rfl,by first|(simp only[*,go_sem,-b,-a,-hJ,muA,msA,stA,smA,Int.reduceBEq,Int.reduceBNe];done)|(simp only[*,go_sem,-b,-a,-hJ,muA,msA,stA,smA,Int.reduceBEq,Int.reduceBNe];rfl),rfl⟩ (fun e=>by cases e) (.opn 0) (fun _ _ _ h=>h) ?_
 refine ai.nil a (b _ _ _ ?_);clear b K
 repeat refine az (a _) ?_
 refine aU a fun K b=>?_
 refine ai.defer (a _) rfl (by first|(simp only[*,go_sem,-b,-a,-hJ];done)|rfl) rfl rfl (by simp;rfl) fun d e1 e2 j=>?_
 have l0:slot d 0= .pointer (some ⟨x.Wg,0,none⟩):=(e1 0).trans (by simp only[*,go_sem,-a,-hJ,muA,msA,stA,smA,Int.reduceBEq,Int.reduceBNe])
 have l:slot d 1= .int .i64 1:=(e1 1).trans (by simp only[*,go_sem,-a,-hJ,muA,msA,stA,smA,Int.reduceBEq,Int.reduceBNe])
 replace i:sz d=117:=e2.trans (by simp only[*,go_sem,-a,-hJ,muA,msA,stA,smA,Int.reduceBEq,Int.reduceBNe])
 replace hd:d.defers=[dcall 135 #[]]:=j.trans (by simp only[*,go_sem,-a,-hJ,muA,msA,stA,smA,Int.reduceBEq,Int.reduceBNe])
 clear e1 e2 j p k1
 refine ai.nil a (b _ _ _ ?_);clear b K
 repeat refine az (a _) ?_
 refine aU a fun K b=>?_
 refine ai.pure (a _) 1 (n:=0) _ rfl rfl ?_;simp only[*,go_sem,-b,-a,muA,msA,stA,smA,Int.reduceBEq,Int.reduceBNe]
 refine ai.nil a (b _ _ _ ?_);clear b K
 repeat refine az (a _) ?_
 refine aU a fun K b=>?_
 refine ai.entry (.bool false) (a _) B9 ⟨_,_,_,rfl,(by first|(simp only[*,go_sem,-b,-a,-hJ];done)|rfl),rfl,by first|(simp only[*,go_sem,-b,-a,-hJ,muA,msA,stA,smA,Int.reduceBEq,Int.reduceBNe];done)|(simp only[*,go_sem,-b,-a,-hJ,muA,msA,stA,smA,Int.reduceBEq,Int.reduceBNe];rfl),rfl⟩ ?_
 refine ai.nil a (b _ _ _ ?_);clear b K
 repeat refine az (a _) ?_
 refine cB (a _) (by simp only[*,go_sem,-a,-hJ,Int.reduceBEq,Int.reduceBNe]) ?_
 refine cE (a _) ?_
 have w1:IntKind.u64.wrap 1=1:=by decide
 have w2:IntKind.u64.wrap (1*2 ^ min 32 64)=4294967296:=by decide
 repeat refine az (a _) ?_
 refine aU a fun K b=>?_
 refine ai.pure (a _) 6 (n:=2) _ rfl rfl ?_;simp only[*,go_sem,-b,-a,muA,msA,stA,smA,Int.reduceBEq,Int.reduceBNe]
 refine ai.fP (a _) rfl (by first|(simp only[*,go_sem,-b,-a,-hJ];done)|rfl) rfl zC (by simp only[*,go_sem,-b,-a,-hJ,muA,msA,stA,smA,Int.reduceBEq,Int.reduceBNe]) (Jk o hn) fun r F' aH q=>?_
 obtain ⟨rfl,v,s,rfl,rfl⟩:=q
 obtain ⟨y,c⟩:∃y:Int,y=((v+1:Nat):Int)*4294967296+((0:Nat):Int):=⟨_,rfl⟩
 rw[<-c]
 have a1:kF y 2147483648=0:=by rw[c];exact xQ (v+1) 0 (by omega) (by omega)
 have a2:kF y 2147483647=0:=by rw[c];exact xR (v+1) 0 (by omega) (by omega)
 obtain ⟨V,m⟩:∃V:Int,V=((v+1:Nat):Int):=⟨_,rfl⟩
 have a3:y.fdiv (2 ^ min 32 64)=V:=by rw[c,m];exact xS (v+1) 0 (by omega)
 have a4:IntKind.i32.wrap V=V:=ig (by omega) (by omega)
 have a5:IntKind.u32.wrap 0=0:=by decide
 have w:IntKind.i32.wrap 1=1:=by decide
 have c3:decide (V<0)=false:=by simp;omega
 have c4:decide (V>0)=true:=by simp;omega
 have f:(V==1)=true\/(V==1)=false:=by cases (V==1)<;>simp
 clear c m s
 refine ai.pure (a _) 1 (n:=0) _ rfl rfl ?_;simp only[*,go_sem,-b,-a,muA,msA,stA,smA,Int.reduceBEq,Int.reduceBNe]
 refine ai.nil a (b _ _ _ ?_);clear b K
 repeat refine az (a _) ?_
 refine aU a fun K b=>?_
 refine ai.pure (a _) 7 (n:=0) _ rfl rfl ?_;simp only[*,go_sem,-b,-a,muA,msA,stA,smA,Int.reduceBEq,Int.reduceBNe]
 refine ai.nil a (b _ _ _ ?_);clear b K
 repeat refine az (a _) ?_
 refine cB (a _) (by simp only[*,go_sem,-a,-hJ,Int.reduceBEq,Int.reduceBNe]) ?_
 refine cE (a _) ?_
 repeat refine az (a _) ?_
 refine aU a fun K b=>?_
 refine ai.pure (a _) 4 (n:=0) _ rfl rfl ?_;simp only[*,go_sem,-b,-a,muA,msA,stA,smA,Int.reduceBEq,Int.reduceBNe]
 refine ai.nil a (b _ _ _ ?_);clear b K
 repeat refine az (a _) ?_
 refine aU a fun K b=>?_
 refine ai.pure (a _) 4 (n:=0) _ rfl rfl ?_;simp only[*,go_sem,-b,-a,muA,msA,stA,smA,Int.reduceBEq,Int.reduceBNe]
 refine ai.nil a (b _ _ _ ?_);clear b K
 repeat refine az (a _) ?_
 refine aU a fun K b=>?_
 refine ai.pure (a _) 10 (n:=0) _ rfl rfl ?_;simp only[*,go_sem,-b,-a,muA,msA,stA,smA,Int.reduceBEq,Int.reduceBNe]
 refine ai.nil a (b _ _ _ ?_);clear b K
 repeat refine az (a _) ?_
 refine tv a (Jo x.Wg F' (.co x k (.opn 1) 1) V) ?_ ?_
 ·rcases f with f|f
  ·repeat refine az (a _) ?_
   refine cP (a _) (by simp only[*,go_sem,-a,-hJ,Int.reduceBEq,Int.reduceBNe]) ?_
   repeat refine az (a _) ?_
   refine aU a fun K b=>?_
   refine ai.pure (a _) 3 (n:=2) _ rfl rfl ?_;simp only[*,go_sem,-b,-a,muA,msA,stA,smA,Int.reduceBEq,Int.reduceBNe]
   refine tC ⟨x.Wg,1,none⟩ Ca lB Cb ⟨_,rfl,(by first|(simp only[*,go_sem,-b,-a,-hJ];done)|rfl),rfl,rfl⟩ (fun e=>by cases e) (by simp only[*,go_sem,-b,-a,-hJ,muA,msA,stA,smA,Int.reduceBEq,Int.reduceBNe]) Cu ?_
   refine I7 Il ⟨_,_,_,rfl,(by first|(simp only[*,go_sem,-b,-a,-hJ];done)|rfl),rfl,by first|(simp only[*,go_sem,-b,-a,-hJ,muA,msA,stA,smA,Int.reduceBEq,Int.reduceBNe];done)|(simp only[*,go_sem,-b,-a,-hJ,muA,msA,stA,smA,Int.reduceBEq,Int.reduceBNe];rfl),rfl⟩ (fun e=>by cases e) ?_
   refine ai.nil a (b _ _ _ ?_);clear b K
   exact ep ⟨rfl,(by simp only[*,go_sem,-a,-hJ,muA,msA,stA,smA,Int.reduceBEq,Int.reduceBNe]),(by simp only[*,go_sem,-a,-hJ,muA,msA,stA,smA,Int.reduceBEq,Int.reduceBNe]),(by simp only[*,go_sem,-a,-hJ,muA,msA,stA,smA,Int.reduceBEq,Int.reduceBNe]),(by simp only[*,go_sem,-a,-hJ,muA,msA,stA,smA,Int.reduceBEq,Int.reduceBNe]),(by simp only[*,go_sem,-a,-hJ,muA,msA,stA,smA,Int.reduceBEq,Int.reduceBNe]),rfl⟩
  ·repeat refine az (a _) ?_
   refine cB (a _) (by simp only[*,go_sem,-a,-hJ,Int.reduceBEq,Int.reduceBNe]) ?_
   refine cE (a _) ?_
   exact ep ⟨rfl,(by simp only[*,go_sem,-a,-hJ,muA,msA,stA,smA,Int.reduceBEq,Int.reduceBNe]),(by simp only[*,go_sem,-a,-hJ,muA,msA,stA,smA,Int.reduceBEq,Int.reduceBNe]),(by simp only[*,go_sem,-a,-hJ,muA,msA,stA,smA,Int.reduceBEq,Int.reduceBNe]),(by simp only[*,go_sem,-a,-hJ,muA,msA,stA,smA,Int.reduceBEq,Int.reduceBNe]),(by simp only[*,go_sem,-a,-hJ,muA,msA,stA,smA,Int.reduceBEq,Int.reduceBNe]),rfl⟩
 clear f l0 l i hd a1 a2 a3
 rintro A t z ⟨rfl,l,B,C,i,hd,rfl⟩
 repeat refine az (a _) ?_
 refine aU a fun K b=>?_
 refine ai.pure (a _) 2 (n:=0) _ rfl rfl ?_;simp only[*,go_sem,-b,-a,muA,msA,stA,smA,Int.reduceBEq,Int.reduceBNe]
 refine ai.nil a (b _ _ _ ?_);clear b K
 repeat refine az (a _) ?_
 refine cB (a _) (by simp only[*,go_sem,-a,-hJ,Int.reduceBEq,Int.reduceBNe]) ?_
 refine cE (a _) ?_
 repeat refine az (a _) ?_
 refine aU a fun K b=>?_
 refine ai.pure (a _) 12 (n:=0) _ rfl rfl ?_;simp only[*,go_sem,-b,-a,muA,msA,stA,smA,Int.reduceBEq,Int.reduceBNe]
 refine ai.nil a (b _ _ _ ?_);clear b K
 repeat refine az (a _) ?_
 refine cB (a _) (by simp only[*,go_sem,-a,-hJ,Int.reduceBEq,Int.reduceBNe]) ?_
 refine cE (a _) ?_
 repeat refine az (a _) ?_
 refine aU a fun K b=>?_
 refine ai.pure (a _) 6 (n:=0) _ rfl rfl ?_;simp only[*,go_sem,-b,-a,muA,msA,stA,smA,Int.reduceBEq,Int.reduceBNe]
 refine ai.nil a (b _ _ _ ?_);clear b K
 repeat refine az (a _) ?_
 refine cP (a _) (by simp only[*,go_sem,-a,-hJ,Int.reduceBEq,Int.reduceBNe]) ?_
 exact ff (show xU 135 (fun r u g=>r= .tuple #[]/\u=t/\g= .co x k (.opn 1) 0) .ret _ _ _ from Jj (by simp only[*,go_sem,-a,-hJ,muA,msA,stA,smA,Int.reduceBEq,Int.reduceBNe]) (fun e=>by cases e) ⟨rfl,rfl,rfl⟩)
end
def Cv (x:X)(F:af)(m:Nat)(a:Act)(F':af)(z:Z):Prop:=
 ∃u:Nat,u<=m/\u<=x.n/\F'=F/\slot a 0= .pointer (some ⟨x.Wg,0,none⟩)/\sz a=84/\a.defers=[]/\z= .co x x.n (.look u) 1
section
variable {Φ : Goroutine → af → Prop} {x : X} {F : af} {k : Nat}
theorem Jq (o:x.Mu≠x.Wg/\x.Mu≠x.Is/\x.Wg≠x.Is)(hn:x.n<67108864):
  cD Tryz.prog (ZJ TT Φ) 122 #[.pointer (some (stA x.Wg))] F (.co x x.n (.opn 0) 0)
   (fun r F' d=>r= .tuple #[]/\F'=⟨F.ro,(x.Is,(x.cy TT).fin)::F.own⟩/\d= .free):=by
 have a:=ZJ.eg TT Φ
 have hJ:True:=trivial
 refine cD.go (main:=true) a Tryz.func122 rfl Tryz.ntmps122 (by simp) fun A p hd hs=>?_
 have q:=hs 0
 clear hs
 repeat refine az (a _) ?_
 refine cP (a _) (by simp only[*,go_sem,-a,-hJ,Int.reduceBEq,Int.reduceBNe]) ?_
 repeat refine az (a _) ?_
 refine aU a fun K b=>?_
 refine Cq qq ⟨_,_,_,rfl,(by first|(simp only[*,go_sem,-b,-a,-hJ];done)|rfl),rfl,by first|(simp only[*,go_sem,-b,-a,-hJ,muA,msA,stA,smA,Int.reduceBEq,Int.reduceBNe];done)|(simp only[*,go_sem,-b,-a,-hJ,muA,msA,stA,smA,Int.reduceBEq,Int.reduceBNe];rfl),rfl⟩ (fun e=>by cases e) (.look x.n) (fun _ _ _ h=>HK h) ?_
 refine ai.nil a (b _ _ _ ?_);clear b K
 repeat refine az (a _) ?_
 refine jF a ?_
 refine qp a (Cv x F) x.n ?_ ?_
 ·exact ⟨x.n,Nat.le_refl _,Nat.le_refl _,rfl,(by simp only[*,go_sem,-a,-hJ,muA,msA,stA,smA,Int.reduceBEq,Int.reduceBNe]),(by simp only[*,go_sem,-a,-hJ,muA,msA,stA,smA,Int.reduceBEq,Int.reduceBNe]),(by simp only[*,go_sem,-a,-hJ,muA,msA,stA,smA,Int.reduceBEq,Int.reduceBNe]),rfl⟩
 ·clear p hd q
  rintro m A F' d ⟨u,B,C,rfl,q,p,hd,rfl⟩
  repeat refine az (a _) ?_
  refine jF a ?_
  repeat refine az (a _) ?_
  refine aU a fun K b=>?_
  refine ai.pure (a _) 3 (n:=2) _ rfl rfl ?_;simp only[*,go_sem,-b,-a,muA,msA,stA,smA,Int.reduceBEq,Int.reduceBNe]
  refine ai.fP (a _) rfl (by first|(simp only[*,go_sem,-b,-a,-hJ];done)|rfl) rfl uR (by simp only[*,go_sem,-b,-a,-hJ,muA,msA,stA,smA,Int.reduceBEq,Int.reduceBNe]) Jl fun r k D f=>?_
  obtain ⟨rfl,v,w,rfl,rfl⟩:=f
  obtain ⟨y,c⟩:∃y:Int,y=(v:Int)*4294967296+((0:Nat):Int):=⟨_,rfl⟩
  rw[<-c]
  have a1:kF y 2147483648=0:=by rw[c];exact xQ v 0 (by omega) (by omega)
  have a2:kF y 2147483647=0:=by rw[c];exact xR v 0 (by omega) (by omega)
  obtain ⟨V,i⟩:∃V:Int,V=(v:Int):=⟨_,rfl⟩
  have a3:y.fdiv (2 ^ min 32 64)=V:=by rw[c,i];exact xS v 0 (by omega)
  have a4:IntKind.i32.wrap V=V:=ig (by omega) (by omega)
  have a5:IntKind.u32.wrap 0=0:=by decide
  have E:IntKind.u64.wrap (y+1)=y+1:=by
   unfold IntKind.wrap
   simp only[IntKind.bits,IntKind.signed]
   simp
   omega
  by_cases j:v=0
  ·
   have c1:(V==0)=true:=by rw[i,j];rfl
   have g:(if v=0 then P0.eJ else .look v)= .eJ:=if_pos j
   rw[g]
   clear g c i w j
   refine ai.pure (a _) 1 (n:=0) _ rfl rfl ?_;simp only[*,go_sem,-b,-a,muA,msA,stA,smA,Int.reduceBEq,Int.reduceBNe]
   refine ai.nil a (b _ _ _ ?_);clear b K
   repeat refine az (a _) ?_
   refine aU a fun K b=>?_
   refine ai.pure (a _) 4 (n:=0) _ rfl rfl ?_;simp only[*,go_sem,-b,-a,muA,msA,stA,smA,Int.reduceBEq,Int.reduceBNe]
   refine ai.nil a (b _ _ _ ?_);clear b K
   repeat refine az (a _) ?_
   refine aU a fun K b=>?_
   refine ai.pure (a _) 4 (n:=0) _ rfl rfl ?_;simp only[*,go_sem,-b,-a,muA,msA,stA,smA,Int.reduceBEq,Int.reduceBNe]
   refine ai.nil a (b _ _ _ ?_);clear b K
   repeat refine az (a _) ?_
   refine aU a fun K b=>?_
   refine ai.pure (a _) 2 (n:=0) _ rfl rfl ?_;simp only[*,go_sem,-b,-a,muA,msA,stA,smA,Int.reduceBEq,Int.reduceBNe]
   refine ai.nil a (b _ _ _ ?_);clear b K
   repeat refine az (a _) ?_
   refine cP (a _) (by simp only[*,go_sem,-a,-hJ,Int.reduceBEq,Int.reduceBNe]) ?_
   repeat refine az (a _) ?_
   refine cP (a _) (by simp only[*,go_sem,-a,-hJ,Int.reduceBEq,Int.reduceBNe]) ?_
   repeat refine az (a _) ?_
   refine aU a fun K b=>?_
   refine Cr lA ⟨_,_,_,rfl,(by first|(simp only[*,go_sem,-b,-a,-hJ];done)|rfl),rfl,by first|(simp only[*,go_sem,-b,-a,-hJ,muA,msA,stA,smA,Int.reduceBEq,Int.reduceBNe];done)|(simp only[*,go_sem,-b,-a,-hJ,muA,msA,stA,smA,Int.reduceBEq,Int.reduceBNe];rfl),rfl⟩ (fun e=>by cases e) ?_
   refine ai.nil a (b _ _ _ ?_);clear b K
   repeat refine az (a _) ?_
   refine aU a fun K b=>?_
   refine ai.pure (a _) 1 (n:=2) _ rfl rfl ?_;simp only[*,go_sem,-b,-a,muA,msA,stA,smA,Int.reduceBEq,Int.reduceBNe]
   refine tC ⟨x.Wg,0,none⟩ xD lB xF ⟨_,rfl,(by first|(simp only[*,go_sem,-b,-a,-hJ];done)|rfl),rfl,rfl⟩ (fun e=>by cases e) (by simp only[*,go_sem,-b,-a,-hJ,muA,msA,stA,smA,Int.reduceBEq,Int.reduceBNe]) Ct ?_
   refine Cs tf rfl ⟨_,_,_,rfl,(by first|(simp only[*,go_sem,-b,-a,-hJ];done)|rfl),rfl,by first|(simp only[*,go_sem,-b,-a,-hJ,muA,msA,stA,smA,Int.reduceBEq,Int.reduceBNe];done)|(simp only[*,go_sem,-b,-a,-hJ,muA,msA,stA,smA,Int.reduceBEq,Int.reduceBNe];rfl),rfl⟩ ?_
   refine ai.nil a (b _ _ _ ?_);clear b K
   repeat refine az (a _) ?_
   refine aU a fun K b=>?_
   refine ai.pure (a _) 11 (n:=0) _ rfl rfl ?_;simp only[*,go_sem,-b,-a,muA,msA,stA,smA,Int.reduceBEq,Int.reduceBNe]
   refine ai.nil a (b _ _ _ ?_);clear b K
   repeat refine az (a _) ?_
   refine cB (a _) (by simp only[*,go_sem,-a,-hJ,Int.reduceBEq,Int.reduceBNe]) ?_
   refine cE (a _) ?_
   exact ff (show jG Tryz.prog Tryz.f122 (fun (r:Value) (F':af) (d:Z)=>r= .tuple #[]/\F'=⟨k.ro,(x.Is,(x.cy TT).fin)::k.own⟩/\d=Z.free) .ret _ _ _ from oo rfl (by simp only[*,go_sem,-a,-hJ,muA,msA,stA,smA,Int.reduceBEq,Int.reduceBNe]) ⟨rfl,rfl,rfl⟩)
  ·have c1:(V==0)=false:=by simp;omega
   have g:(if v=0 then P0.eJ else .look v)= .look v:=if_neg j
   rw[g]
   have l:=Jn (Φ:=Φ) (F:=k) o (v:=v) (by omega)
   rw[<-c] at l
   clear g c i
   refine ai.pure (a _) 1 (n:=0) _ rfl rfl ?_;simp only[*,go_sem,-b,-a,muA,msA,stA,smA,Int.reduceBEq,Int.reduceBNe]
   refine ai.nil a (b _ _ _ ?_);clear b K
   repeat refine az (a _) ?_
   refine aU a fun K b=>?_
   refine ai.pure (a _) 4 (n:=0) _ rfl rfl ?_;simp only[*,go_sem,-b,-a,muA,msA,stA,smA,Int.reduceBEq,Int.reduceBNe]
   refine ai.nil a (b _ _ _ ?_);clear b K
   repeat refine az (a _) ?_
   refine aU a fun K b=>?_
   refine ai.pure (a _) 4 (n:=0) _ rfl rfl ?_;simp only[*,go_sem,-b,-a,muA,msA,stA,smA,Int.reduceBEq,Int.reduceBNe]
   refine ai.nil a (b _ _ _ ?_);clear b K
   repeat refine az (a _) ?_
   refine aU a fun K b=>?_
   refine ai.pure (a _) 2 (n:=0) _ rfl rfl ?_;simp only[*,go_sem,-b,-a,muA,msA,stA,smA,Int.reduceBEq,Int.reduceBNe]
   refine ai.nil a (b _ _ _ ?_);clear b K
   repeat refine az (a _) ?_
   refine cB (a _) (by simp only[*,go_sem,-a,-hJ,Int.reduceBEq,Int.reduceBNe]) ?_
   refine cE (a _) ?_
   repeat refine az (a _) ?_
   refine aU a fun K b=>?_
   refine ai.pure (a _) 6 (n:=1) _ rfl rfl ?_;simp only[*,go_sem,-b,-a,muA,msA,stA,smA,Int.reduceBEq,Int.reduceBNe]
   refine ai.fP (a _) rfl (by first|(simp only[*,go_sem,-b,-a,-hJ];done)|rfl) rfl Ee (by simp only[*,go_sem,-b,-a,-hJ,muA,msA,stA,smA,Int.reduceBEq,Int.reduceBNe]) l fun r z G f=>?_
   clear l
   obtain ⟨rfl,⟨rfl,rfl⟩|⟨rfl,rfl⟩⟩:=f
   ·
    refine ai.nil a (b _ _ _ ?_);clear b K
    repeat refine az (a _) ?_
    refine cP (a _) (by simp only[*,go_sem,-a,-hJ,Int.reduceBEq,Int.reduceBNe]) ?_
    repeat refine az (a _) ?_
    refine aU a fun K b=>?_
    refine ai.pure (a _) 4 (n:=0) _ rfl rfl ?_;simp only[*,go_sem,-b,-a,muA,msA,stA,smA,Int.reduceBEq,Int.reduceBNe]
    refine ai.nil a (b _ _ _ ?_);clear b K
    repeat refine az (a _) ?_
    refine cP (a _) (by simp only[*,go_sem,-a,-hJ,Int.reduceBEq,Int.reduceBNe]) ?_
    repeat refine az (a _) ?_
    refine aU a fun K b=>?_
    refine ai.pure (a _) 3 (n:=2) _ rfl rfl ?_;simp only[*,go_sem,-b,-a,muA,msA,stA,smA,Int.reduceBEq,Int.reduceBNe]
    refine tC ⟨x.Wg,1,none⟩ Ca lB Cb ⟨_,rfl,(by first|(simp only[*,go_sem,-b,-a,-hJ];done)|rfl),rfl,rfl⟩ (fun _=>rfl) (by simp only[*,go_sem,-b,-a,-hJ,muA,msA,stA,smA,Int.reduceBEq,Int.reduceBNe]) Cu ?_
    refine I8 Im ⟨_,_,_,rfl,(by first|(simp only[*,go_sem,-b,-a,-hJ];done)|rfl),rfl,by first|(simp only[*,go_sem,-b,-a,-hJ,muA,msA,stA,smA,Int.reduceBEq,Int.reduceBNe];done)|(simp only[*,go_sem,-b,-a,-hJ,muA,msA,stA,smA,Int.reduceBEq,Int.reduceBNe];rfl),rfl⟩ (fun _=>rfl) ?_
    refine ai.nil a (b _ _ _ ?_);clear b K
    repeat refine az (a _) ?_
    refine aU a fun K b=>?_
    refine ai.pure (a _) 1 (n:=0) _ rfl rfl ?_;simp only[*,go_sem,-b,-a,muA,msA,stA,smA,Int.reduceBEq,Int.reduceBNe]
    refine ai.nil a (b _ _ _ ?_);clear b K
    repeat refine az (a _) ?_
    refine aU a fun K b=>?_
    refine ai.pure (a _) 6 (n:=0) _ rfl rfl ?_;simp only[*,go_sem,-b,-a,muA,msA,stA,smA,Int.reduceBEq,Int.reduceBNe]
    refine ai.nil a (b _ _ _ ?_);clear b K
    repeat refine az (a _) ?_
    refine cB (a _) (by simp only[*,go_sem,-a,-hJ,Int.reduceBEq,Int.reduceBNe]) ?_
    refine cE (a _) ?_
    repeat refine az (a _) ?_
    refine aU a fun K b=>?_
    refine ai.pure (a _) 4 (n:=1) _ rfl rfl ?_;simp only[*,go_sem,-b,-a,muA,msA,stA,smA,Int.reduceBEq,Int.reduceBNe]
    refine Jd (.bool false) Io o rfl ⟨_,_,_,rfl,(by first|(simp only[*,go_sem,-b,-a,-hJ];done)|rfl),rfl,by first|(simp only[*,go_sem,-b,-a,-hJ,muA,msA,stA,smA,Int.reduceBEq,Int.reduceBNe];done)|(simp only[*,go_sem,-b,-a,-hJ,muA,msA,stA,smA,Int.reduceBEq,Int.reduceBNe];rfl),rfl⟩ ?_
    refine ai.nil a (b _ _ _ ?_);clear b K
    repeat refine az (a _) ?_
    refine aU a fun K b=>?_
    refine ai.pure (a _) 3 (n:=3) _ rfl rfl ?_;simp only[*,go_sem,-b,-a,muA,msA,stA,smA,Int.reduceBEq,Int.reduceBNe]
    refine ai.fP (a _) rfl (by first|(simp only[*,go_sem,-b,-a,-hJ];done)|rfl) rfl uR (by simp only[*,go_sem,-b,-a,-hJ,muA,msA,stA,smA,Int.reduceBEq,Int.reduceBNe]) Jm fun r s H f=>?_
    obtain ⟨rfl,rfl,rfl⟩:=f
    refine ai.pure (a _) 2 (n:=0) _ rfl rfl ?_;simp only[*,go_sem,-b,-a,muA,msA,stA,smA,Int.reduceBEq,Int.reduceBNe]
    refine ai.nil a (b _ _ _ ?_);clear b K
    repeat refine az (a _) ?_
    refine cP (a _) (by simp only[*,go_sem,-a,-hJ,Int.reduceBEq,Int.reduceBNe]) ?_
    repeat refine az (a _) ?_
    refine aU a fun K b=>?_
    refine Cr lA ⟨_,_,_,rfl,(by first|(simp only[*,go_sem,-b,-a,-hJ];done)|rfl),rfl,by first|(simp only[*,go_sem,-b,-a,-hJ,muA,msA,stA,smA,Int.reduceBEq,Int.reduceBNe];done)|(simp only[*,go_sem,-b,-a,-hJ,muA,msA,stA,smA,Int.reduceBEq,Int.reduceBNe];rfl),rfl⟩ (fun e=>by cases e) ?_
    refine ai.nil a (b _ _ _ ?_);clear b K
    repeat refine az (a _) ?_
    refine aU a fun K b=>?_
    refine ai.pure (a _) 1 (n:=2) _ rfl rfl ?_;simp only[*,go_sem,-b,-a,muA,msA,stA,smA,Int.reduceBEq,Int.reduceBNe]
    refine tC ⟨x.Wg,0,none⟩ xD lB xF ⟨_,rfl,(by first|(simp only[*,go_sem,-b,-a,-hJ];done)|rfl),rfl,rfl⟩ (fun e=>by cases e) (by simp only[*,go_sem,-b,-a,-hJ,muA,msA,stA,smA,Int.reduceBEq,Int.reduceBNe]) Ct ?_
    refine Cs tf rfl ⟨_,_,_,rfl,(by first|(simp only[*,go_sem,-b,-a,-hJ];done)|rfl),rfl,by first|(simp only[*,go_sem,-b,-a,-hJ,muA,msA,stA,smA,Int.reduceBEq,Int.reduceBNe];done)|(simp only[*,go_sem,-b,-a,-hJ,muA,msA,stA,smA,Int.reduceBEq,Int.reduceBNe];rfl),rfl⟩ ?_
    refine ai.nil a (b _ _ _ ?_);clear b K
    repeat refine az (a _) ?_
    refine aU a fun K b=>?_
    refine ai.pure (a _) 1 (n:=0) _ rfl rfl ?_;simp only[*,go_sem,-b,-a,muA,msA,stA,smA,Int.reduceBEq,Int.reduceBNe]
    refine ai.nil a (b _ _ _ ?_);clear b K
    repeat refine az (a _) ?_
    refine cB (a _) (by simp only[*,go_sem,-a,-hJ,Int.reduceBEq,Int.reduceBNe]) ?_
    refine cE (a _) ?_
    exact ff (show jG Tryz.prog Tryz.f122 (fun (r:Value) (F':af) (d:Z)=>r= .tuple #[]/\F'=⟨s.ro,(x.Is,(x.cy TT).fin)::s.own⟩/\d=Z.free) .ret _ _ _ from oo rfl (by simp only[*,go_sem,-a,-hJ,muA,msA,stA,smA,Int.reduceBEq,Int.reduceBNe]) ⟨rfl,rfl,rfl⟩)
   ·
    refine ai.nil a (b _ _ _ ?_);clear b K
    repeat refine az (a _) ?_
    refine cB (a _) (by simp only[*,go_sem,-a,-hJ,Int.reduceBEq,Int.reduceBNe]) ?_
    refine cE (a _) ?_
    change ∃t,t<m/\Cv x z t _ _ _
    exact ⟨v - 1,by omega,v - 1,Nat.le_refl _,by omega,rfl,(by simp only[*,go_sem,-a,-hJ,muA,msA,stA,smA,Int.reduceBEq,Int.reduceBNe]),(by simp only[*,go_sem,-a,-hJ,muA,msA,stA,smA,Int.reduceBEq,Int.reduceBNe]),(by simp only[*,go_sem,-a,-hJ,muA,msA,stA,smA,Int.reduceBEq,Int.reduceBNe]),rfl⟩
end
end Go.Proofs.YtjepffnffjdloaaGreatDoor
end
section
namespace Go.Sep
open Go Go.Conc
variable {P : Program}
theorem Jr {t e:TypeId}{i:TypeInfo}{n:Nat}{R:Value->af->Prop}{F:af}(hu:P.underlying t=some (.slice e))(hi:P.info? e=some i)(hb:i.bytes=1)(hs:bW P e=some 1)(c:zeroOf P e=some (.bool false))(hn:n<1048576)
  (h:∀b,dK F b->R (.slice (some ⟨b,0,none⟩) n n) (F.push b (.cells (List.replicate n (Value.bool false)).toArray e))):eL P (Instr.makeSlice t (.int .i64 n) (.int .i64 n)) R F:=by
 unfold eL
 have hw:IntKind.i64.wrap (n:Int)=(n:Int):=by
  unfold IntKind.wrap
  simp[IntKind.bits,IntKind.signed]
  omega
 have e1:¬((n:Int)<0\/(1:Int)*(n:Int)>2 ^ 48):=by
  have:((2:Int) ^ 48)=281474976710656:=by decide
  omega
 simp only[Instr.makeSlice,bq,dj,hu,yV,oJ,hi,hb,hw]
 have e2:(((n:Int)<0||decide (((1:Nat):Int)*(n:Int)>2 ^ 48))||decide ((n:Int)<0)||decide ((n:Int)>(n:Int)))=false:=by
  have:((2:Int) ^ 48)=281474976710656:=by decide
  simp only[Bool.or_eq_false_iff,decide_eq_false_iff_not]
  omega
 rw[if_neg (by rw[e2];simp)]
 simp only[bq]
 refine uy _ ?_
 simp only[bq,eE,hs,Int.toNat_natCast,Nat.mul_one]
 have fin:∀zero:Array Value,(n≠0->zero=#[.bool false])->aT P (newRow e ((Array.range n).map (fun j=>zero[j % zero.size]!))) (fun a G=>aT P (Pure.pure (Value.slice (some a) n n)) R G) F:=fun zero hzero=>by
  simp only[newRow,bq,oI,bC]
  have d:((Array.range n).map (fun j=>zero[j % zero.size]!))=(List.replicate n (Value.bool false)).toArray:=by
   rcases Nat.eq_zero_or_pos n with rfl|f
   ·simp
   ·rw[hzero (by omega)]
    rw[<-Array.toList_inj]
    simp only[Array.toList_map,Array.toList_range]
    apply List.ext_getElem
    ·simp
    ·intro i h1 h2
     simp[Nat.mod_one]
  rw[d]
  exact ⟨rfl,h⟩
 by_cases h0:n=0
 ·rw[if_pos h0]
  exact fin #[] (fun x=>absurd h0 x)
 ·rw[if_neg h0]
  rw[bq,lI,c]
  exact fin #[.bool false] (fun _=>rfl)
section
variable {T : PT} {Φ : Goroutine → af → Prop} {fi : FuncId}
def xV:Z->Bool| .co _ _ .reg _=>false|_=>true
theorem ZJ.Js (T:PT)(Φ:Goroutine->af->Prop)(z:Z)(h:xV z=true):Closed T.P true (ZJ T Φ z):=ZJ.closed T Φ fun x k d e=>by subst e;simp[xV] at h
theorem Cw {P:Program}{main:Bool}{S:Type}{JF:S->Goroutine->af->Prop}{ph:S}(hJ:Closed P main (JF ph)){c:Code}{Q:Ex->Act->af->S->Prop}{a:Act}{F F':af}(hle:Le F F')(h:cH JF fi c Q a F ph):cH JF fi c Q a F' ph:=
 fun b k cs hb hk=>hJ.mono hle (h b k cs hb hk)
theorem xW {P:Program}{main:Bool}{S:Type}{JF:S->Goroutine->af->Prop}{ph:S}(hJ:Closed P main (JF ph)){c:Code}{Q:Ex->Act->af->S->Prop}{a:Act}{F:af}(h:aM (keys F.own)->ay F.ro F.own->cH JF fi c Q a F ph):cH JF fi c Q a F ph:=by
 intro b k cs hb hk
 by_cases hw:∃w,Has F w
 ·obtain ⟨w,hw⟩:=hw
  refine h ⟨hw.nodup⟩ (fun b hb off sp=>?_) b k cs hb hk
  cases d:F.ro ⟨b,off,sp⟩ with
  |none=>rfl
  |some v=>exact absurd hb (hw.apart _ v d)
 ·exact hJ.step fun w e=>absurd ⟨w,e⟩ hw
end
theorem mN {ro:Addr->Option Value}{b a off:Nat}{sp:Option Nat}{o:Obj}(h:ro ⟨a,off,sp⟩=none)(c:a≠b):bN ro b o ⟨a,off,sp⟩=none:=by simp[bN,h,c]
theorem Jt {ro:Addr->Option Value}{b3 b4 b a I M W:Nat}{i o4 g c d e f:Obj}(p:aM (keys [(W,f),(M,e),(a,c),(I,d),(b,g),(b4,o4),(b3,i)]))(l:ay ro [(W,f),(M,e),(a,c),(I,d),(b,g),(b4,o4),(b3,i)]):
  ∃j,Ext ro j/\Le ⟨j,[(M,e),(W,f),(I,d)]⟩ ⟨ro,[(W,f),(M,e),(a,c),(I,d),(b,g),(b4,o4),(b3,i)]⟩/\
   (∀off v,cellOf i off=some v->j ⟨b3,off,none⟩=some v)/\(∀off v,cellOf o4 off=some v->j ⟨b4,off,none⟩=some v)/\(∀off v,cellOf g off=some v->j ⟨b,off,none⟩=some v)/\(∀off v,cellOf c off=some v->j ⟨a,off,none⟩=some v):=by
 have hd:=p.1
 simp only[keys,List.map_cons,List.map_nil,List.nodup_cons,List.mem_cons,List.not_mem_nil,not_or] at hd
 obtain ⟨⟨-,a1,-,a2,a3,a4,-⟩,⟨G,-,H,J,K,-⟩,⟨c1,c2,c3,c4,-⟩,⟨i1,i2,i3,-⟩,⟨e1,e2,-⟩,⟨r,-⟩,-⟩:=hd
 have r3:∀off sp,ro ⟨b3,off,sp⟩=none:=l b3 (by simp[keys])
 have s:∀off sp,ro ⟨b4,off,sp⟩=none:=l b4 (by simp[keys])
 have t:∀off sp,ro ⟨b,off,sp⟩=none:=l b (by simp[keys])
 have u:∀off sp,ro ⟨a,off,sp⟩=none:=l a (by simp[keys])
 clear l p
 have w:b4≠b3:=r
 have x:b≠b3:=e2
 have y:b≠b4:=e1
 have z:a≠b3:=c4
 have A:a≠b4:=c3
 have B:a≠b:=c2
 let s1:=bN ro b3 i
 let s2:=bN s1 b4 o4
 let k:=bN s2 b g
 let n:=bN k a c
 have C:Ext ro s1:=fR _ _ _
 have q:Ext s1 s2:=fR _ _ _
 have o:Ext s2 k:=fR _ _ _
 have m:Ext k n:=fR _ _ _
 have t4:∀off sp,s1 ⟨b4,off,sp⟩=none:=fun off sp=>mN (s off sp) w
 have t7:∀off sp,s2 ⟨b,off,sp⟩=none:=fun off sp=>mN (mN (t off sp) x) y
 have t8:∀off sp,k ⟨a,off,sp⟩=none:=fun off sp=>mN (mN (mN (u off sp) z) A) B
 have k1:Le ⟨s1,[(W,f),(M,e),(a,c),(I,d),(b,g),(b4,o4)]⟩ ⟨ro,[(W,f),(M,e),(a,c),(I,d),(b,g),(b4,o4),(b3,i)]⟩:=
  jR (by simp[lk, *]) (by simp) (by simp[au,Ne.symm, *])
 have D:Le ⟨s2,[(W,f),(M,e),(a,c),(I,d),(b,g)]⟩ ⟨s1,[(W,f),(M,e),(a,c),(I,d),(b,g),(b4,o4)]⟩:=
  jR (by simp[lk, *]) (by simp) (by simp[au,Ne.symm, *])
 have E:Le ⟨k,[(W,f),(M,e),(a,c),(I,d)]⟩ ⟨s2,[(W,f),(M,e),(a,c),(I,d),(b,g)]⟩:=
  jR (by simp[lk, *]) (by simp) (by simp[au,Ne.symm, *])
 have F:Le ⟨n,[(W,f),(M,e),(I,d)]⟩ ⟨k,[(W,f),(M,e),(a,c),(I,d)]⟩:=
  jR (by simp[lk, *]) (by simp) (by simp[au,Ne.symm, *])
 refine ⟨n,((C.trans q).trans o).trans m,zE.trans (((F.trans E).trans D).trans k1),fun off v h=>?_,fun off v h=>?_,fun off v h=>?_,fun off v h=>?_⟩
 ·exact m _ _ (o _ _ (q _ _ ((iF r3).trans h)))
 ·exact m _ _ (o _ _ ((iF t4).trans h))
 ·exact m _ _ ((iF t7).trans h)
 ·exact (iF t8).trans h
theorem Ju {ro:Addr->Option Value}{a b2:Nat}{o1 o2:Obj}(d:aM (keys [(b2,o2),(a,o1)]))(c:ay ro [(b2,o2),(a,o1)]):
  ∃b,Ext ro b/\Le ⟨b,[]⟩ ⟨ro,[(b2,o2),(a,o1)]⟩/\(∀off v,cellOf o1 off=some v->b ⟨a,off,none⟩=some v)/\(∀off v,cellOf o2 off=some v->b ⟨b2,off,none⟩=some v):=by
 have hd:=d.1
 simp only[keys,List.map_cons,List.map_nil,List.nodup_cons,List.mem_cons,List.not_mem_nil,not_or] at hd
 have r1:∀off sp,ro ⟨a,off,sp⟩=none:=c a (by simp[keys])
 have r2:∀off sp,ro ⟨b2,off,sp⟩=none:=c b2 (by simp[keys])
 have e:b2≠a:=by obtain ⟨⟨z,-⟩,-⟩:=hd;exact z
 have t2:∀off sp,bN ro a o1 ⟨b2,off,sp⟩=none:=fun off sp=>mN (r2 off sp) e
 have k1:Le ⟨bN ro a o1,[(b2,o2)]⟩ ⟨ro,[(b2,o2),(a,o1)]⟩:=jR (by simp[lk, *]) (by simp) (by simp[au,Ne.symm, *])
 have f:Le ⟨bN (bN ro a o1) b2 o2,[]⟩ ⟨bN ro a o1,[(b2,o2)]⟩:=jR (by simp only[lk];simp) (by simp) trivial
 exact ⟨_,(fR _ _ _).trans (fR _ _ _),f.trans k1,fun off v h=>fR _ _ _ _ _ ((iF r1).trans h),fun off v h=>(iF t2).trans h⟩
theorem Jv {T:PT}{Φ:Goroutine->af->Prop}{x:X}{k:Nat}{ops:Array Oper}{j n:Nat}{Q:Act->af->Z->Prop}{a:Act}{F:af}{fi:FuncId}(hk:k<x.n){y:Operand}{f0:FuncId}{c9:Array TypeId}{caps:Array Value}(b:mK ops j a (.go {callee:=.value y,args:=#[],argTypes:=c9}) none)(c:ev a y= .func (.func f0) #[] caps)
  (hW:Wk (x.cy T) k ⟨.idle,.cnt,false,0⟩ (born T.P {target:=.fn (.func f0) caps,args:=#[]}) ⟨F.ro,[]⟩) (h:ai (ZJ T Φ) fi ops (j+1) n Q (aZ a none undef) F (.co x (k+1) (.opn 0) 0)):ai (ZJ T Φ) fi ops j (n+1) Q a F (.co x k (.opn 1) 0):=by
 obtain ⟨o,d,hg,e,hd⟩:=b
 have e1:execOp a.eval o=(pure (.spawn {target:=.fn (.func f0) caps,args:=#[]}):Sem Next):=by
  unfold execOp
  have e0:(#[]:Array Value)++Array.map (ev a) #[]=#[]:=by simp
  simp only[e,resolve,er,c,Deferred.ofValue,e0]
  rfl
 refine Je (fv:=y) hk d hg (fun w=>?_) rfl hW (by rw[hd];exact h)
 rw[e1]
 exact ⟨rfl,rfl⟩
end Go.Sep
end
section
namespace Go.Proofs.YtjepffnffjdloaaGreatDoor
open Go Go.Sep Go.Proofs Go.Conc
open Go.ConcN (upd upd_same)
open Go.ConcM (muA msA)
open Go.ConcR (stA smA)
set_option maxRecDepth 100000
set_option maxHeartbeats 4000000
def Jw (Wg:Nat)(st:Bool)(F:af)(m:Nat)(a:Act)(F':af)(ph:Ph):Prop:=
 ∃t8:Int,F'=F/\slot a 0= .pointer (some ⟨Wg,0,none⟩)/\slot a 8= .int .u32 t8/\sz a=117/\a.defers=[dcall 135 #[]]/\((m=1/\t8=1/\ph=⟨.fin,.sm,st,1⟩)\/(m=0/\t8=0/\ph=⟨.fin,.gone,st,1⟩))
theorem Jx {f:FuncId}{R:Value->af->Ph->Prop}{a:Act}{F:af}{ph:Ph}{b:Nat}(hd:a.defers=[dcall f #[]])(hg:ph.gp= .gone)(h:ph.deaf=b+1)(c:R (.tuple #[]) F {ph with deaf:=b}):kE f R .normal a F ph:=⟨hd,hg,b,h,c⟩
theorem tD {f:FuncId}{R:Value->af->Ph->Prop}{a:Act}{F:af}{ph:Ph}{b:Nat}(hd:a.defers=[dcall f #[]])(hg:ph.gp= .gone)(h:ph.deaf=b+1)(c:R (.tuple #[]) F {ph with deaf:=b}):kE f R .ret a F ph:=⟨hd,hg,b,h,c⟩
section
variable {Mu Wg Is n base T0 i : Nat} {bs : Nat → Bool} {st : Bool} {F : af}
theorem Jy (h:Mu≠Wg/\Mu≠Is/\Wg≠Is)(hn:n<67108864){mp:Mp}(u:mp= .idle\/mp= .fin)(w:st=bs i):
  cD Tryz.prog (WJ (CY Mu Wg Is n bs base T0) i) 115 #[.pointer (some (stA Wg)),.int .i64 (-1)] F ⟨mp,.cnt,st,0⟩
   (fun r F' aH=>r= .tuple #[]/\F'=F/\aH=⟨.fin,.gone,st,0⟩):=by
 have a:=WJ.eg (CY Mu Wg Is n bs base T0) i
 refine cD.IX lA Tryz.func115 rfl rfl Tryz.ntmps115 (by simp) fun A j hd hs=>?_
 have hJ:True:=trivial
 have y:=hs 0
 have k1:=hs 1
 clear hs
 subst w
 have c1:decide ((-1:Int)<0)=true:=by decide
 have c2:decide ((-1:Int)>0)=false:=by decide
 repeat refine az (a _) ?_
 refine cP (a _) (by simp only[*,go_sem,-a,-hJ,Int.reduceBEq,Int.reduceBNe]) ?_
 repeat refine az (a _) ?_
 refine aU a fun K b=>?_
 refine ai.pure (a _) 2 (n:=0) _ rfl rfl ?_;simp only[*,go_sem,-b,-a,muA,msA,stA,smA,Int.reduceBEq,Int.reduceBNe]
 refine ai.nil a (b _ _ _ ?_);clear b K
 repeat refine az (a _) ?_
 refine cP (a _) (by simp only[*,go_sem,-a,-hJ,Int.reduceBEq,Int.reduceBNe]) ?_
 repeat refine az (a _) ?_
 refine aU a fun K b=>?_
 refine ai.pure (a _) 1 (n:=2) _ rfl rfl ?_;simp only[*,go_sem,-b,-a,muA,msA,stA,smA,Int.reduceBEq,Int.reduceBNe]
 refine tr ⟨Wg,0,none⟩ xD lB xF ⟨_,rfl,(by first|(simp only[*,go_sem,-b,-a,-hJ];done)|rfl),rfl,rfl⟩ (by simp) (by simp only[*,go_sem,-b,-a,-hJ,muA,msA,stA,smA,Int.reduceBEq,Int.reduceBNe]) IZ ?_
 refine Iy B5 ⟨_,_,_,rfl,(by first|(simp only[*,go_sem,-b,-a,-hJ];done)|rfl),rfl,by first|(simp only[*,go_sem,-b,-a,-hJ,muA,msA,stA,smA,Int.reduceBEq,Int.reduceBNe];done)|(simp only[*,go_sem,-b,-a,-hJ,muA,msA,stA,smA,Int.reduceBEq,Int.reduceBNe];rfl),rfl⟩ rfl rfl u rfl ?_
 refine ai.nil a (b _ _ _ ?_);clear b K
 repeat refine az (a _) ?_
 refine aU a fun K b=>?_
 refine xL qq ⟨_,_,_,rfl,(by first|(simp only[*,go_sem,-b,-a,-hJ];done)|rfl),rfl,by first|(simp only[*,go_sem,-b,-a,-hJ,muA,msA,stA,smA,Int.reduceBEq,Int.reduceBNe];done)|(simp only[*,go_sem,-b,-a,-hJ,muA,msA,stA,smA,Int.reduceBEq,Int.reduceBNe];rfl),rfl⟩ (by simp) (by simp) ?_
 refine ai.nil a (b _ _ _ ?_);clear b K
 repeat refine az (a _) ?_
 refine aU a fun K b=>?_
 refine ai.defer (a _) rfl (by first|(simp only[*,go_sem,-b,-a,-hJ];done)|rfl) rfl rfl (by simp;rfl) fun g e1 e2 o=>?_
 have l0:slot g 0= .pointer (some ⟨Wg,0,none⟩):=(e1 0).trans (by simp only[*,go_sem,-a,-hJ,muA,msA,stA,smA,Int.reduceBEq,Int.reduceBNe])
 have z:slot g 1= .int .i64 (-1):=(e1 1).trans (by simp only[*,go_sem,-a,-hJ,muA,msA,stA,smA,Int.reduceBEq,Int.reduceBNe])
 replace j:sz g=117:=e2.trans (by simp only[*,go_sem,-a,-hJ,muA,msA,stA,smA,Int.reduceBEq,Int.reduceBNe])
 replace hd:g.defers=[dcall 135 #[]]:=o.trans (by simp only[*,go_sem,-a,-hJ,muA,msA,stA,smA,Int.reduceBEq,Int.reduceBNe])
 clear e1 e2 o y k1
 refine ai.nil a (b _ _ _ ?_);clear b K
 repeat refine az (a _) ?_
 refine aU a fun K b=>?_
 refine ai.pure (a _) 1 (n:=0) _ rfl rfl ?_;simp only[*,go_sem,-b,-a,muA,msA,stA,smA,Int.reduceBEq,Int.reduceBNe]
 refine ai.nil a (b _ _ _ ?_);clear b K
 repeat refine az (a _) ?_
 refine aU a fun K b=>?_
 refine ai.entry (.bool false) (a _) B9 ⟨_,_,_,rfl,(by first|(simp only[*,go_sem,-b,-a,-hJ];done)|rfl),rfl,by first|(simp only[*,go_sem,-b,-a,-hJ,muA,msA,stA,smA,Int.reduceBEq,Int.reduceBNe];done)|(simp only[*,go_sem,-b,-a,-hJ,muA,msA,stA,smA,Int.reduceBEq,Int.reduceBNe];rfl),rfl⟩ ?_
 refine ai.nil a (b _ _ _ ?_);clear b K
 repeat refine az (a _) ?_
 refine cB (a _) (by simp only[*,go_sem,-a,-hJ,Int.reduceBEq,Int.reduceBNe]) ?_
 refine cE (a _) ?_
 have w1:IntKind.u64.wrap (-1)=18446744073709551615:=by decide
 have w2:IntKind.u64.wrap (18446744073709551615*2 ^ min 32 64)=18446744069414584320:=by decide
 repeat refine az (a _) ?_
 refine aU a fun K b=>?_
 refine ai.pure (a _) 6 (n:=2) _ rfl rfl ?_;simp only[*,go_sem,-b,-a,muA,msA,stA,smA,Int.reduceBEq,Int.reduceBNe]
 refine ai.fP (a _) rfl (by first|(simp only[*,go_sem,-b,-a,-hJ];done)|rfl) rfl zC (by simp only[*,go_sem,-b,-a,-hJ,muA,msA,stA,smA,Int.reduceBEq,Int.reduceBNe]) (I0 h hn) fun r F' aH f=>?_
 obtain ⟨rfl,v,t,p,ht,rfl,rfl⟩:=f
 obtain ⟨x,d⟩:∃x:Int,x=(v:Int)*4294967296+(t:Int):=⟨_,rfl⟩
 rw[<-d]
 have a1:kF x 2147483648=0:=by rw[d];exact xQ v t (by omega) ht
 have a2:kF x 2147483647=(t:Int):=by rw[d];exact xR v t (by omega) ht
 have a3:x.fdiv (2 ^ min 32 64)=(v:Int):=by rw[d];exact xS v t ht
 have a4:IntKind.i32.wrap (v:Int)=(v:Int):=ig (by omega) (by omega)
 have a5:IntKind.u32.wrap (t:Int)=(t:Int):=by
  unfold IntKind.wrap
  simp[IntKind.bits,IntKind.signed]
  omega
 have k:v=0->t=1->((1:Int) != x)=false:=fun e B=>by rw[d,e,B];rfl
 clear d
 refine ai.pure (a _) 1 (n:=0) _ rfl rfl ?_;simp only[*,go_sem,-b,-a,muA,msA,stA,smA,Int.reduceBEq,Int.reduceBNe]
 refine ai.nil a (b _ _ _ ?_);clear b K
 repeat refine az (a _) ?_
 refine aU a fun K b=>?_
 refine ai.pure (a _) 7 (n:=0) _ rfl rfl ?_;simp only[*,go_sem,-b,-a,muA,msA,stA,smA,Int.reduceBEq,Int.reduceBNe]
 refine ai.nil a (b _ _ _ ?_);clear b K
 repeat refine az (a _) ?_
 refine cB (a _) (by simp only[*,go_sem,-a,-hJ,Int.reduceBEq,Int.reduceBNe]) ?_
 refine cE (a _) ?_
 repeat refine az (a _) ?_
 refine aU a fun K b=>?_
 refine ai.pure (a _) 4 (n:=0) _ rfl rfl ?_;simp only[*,go_sem,-b,-a,muA,msA,stA,smA,Int.reduceBEq,Int.reduceBNe]
 refine ai.nil a (b _ _ _ ?_);clear b K
 repeat refine az (a _) ?_
 refine aU a fun K b=>?_
 refine ai.pure (a _) 4 (n:=0) _ rfl rfl ?_;simp only[*,go_sem,-b,-a,muA,msA,stA,smA,Int.reduceBEq,Int.reduceBNe]
 refine ai.nil a (b _ _ _ ?_);clear b K
 repeat refine az (a _) ?_
 refine aU a fun K b=>?_
 refine ai.pure (a _) 10 (n:=0) _ rfl rfl ?_;simp only[*,go_sem,-b,-a,muA,msA,stA,smA,Int.reduceBEq,Int.reduceBNe]
 refine ai.nil a (b _ _ _ ?_);clear b K
 repeat refine az (a _) ?_
 refine cB (a _) (by simp only[*,go_sem,-a,-hJ,Int.reduceBEq,Int.reduceBNe]) ?_
 refine cE (a _) ?_
 have c3:decide ((v:Int)<0)=false:=by simp
 repeat refine az (a _) ?_
 refine aU a fun K b=>?_
 refine ai.pure (a _) 2 (n:=0) _ rfl rfl ?_;simp only[*,go_sem,-b,-a,muA,msA,stA,smA,Int.reduceBEq,Int.reduceBNe]
 refine ai.nil a (b _ _ _ ?_);clear b K
 repeat refine az (a _) ?_
 refine cB (a _) (by simp only[*,go_sem,-a,-hJ,Int.reduceBEq,Int.reduceBNe]) ?_
 refine cE (a _) ?_
 have q:t=0\/t=1:=by omega
 by_cases hC:v=0/\t=1
 ·
  obtain ⟨rfl,rfl⟩:=hC
  have C:((1:Int) != x)=false:=k rfl rfl
  have hg:(if (0:Nat)=0/\(1:Nat)=1 then Gp.ld else Gp.gone)= .ld:=rfl
  rw[hg]
  have D:((1:Nat):Int)=1:=rfl
  clear hg k q p ht
  repeat refine az (a _) ?_
  refine aU a fun K b=>?_
  refine ai.pure (a _) 12 (n:=0) _ rfl rfl ?_;simp only[*,go_sem,-b,-a,muA,msA,stA,smA,Int.reduceBEq,Int.reduceBNe]
  refine ai.nil a (b _ _ _ ?_);clear b K
  repeat refine az (a _) ?_
  refine cB (a _) (by simp only[*,go_sem,-a,-hJ,Int.reduceBEq,Int.reduceBNe]) ?_
  refine cE (a _) ?_
  repeat refine az (a _) ?_
  refine aU a fun K b=>?_
  refine ai.pure (a _) 6 (n:=0) _ rfl rfl ?_;simp only[*,go_sem,-b,-a,muA,msA,stA,smA,Int.reduceBEq,Int.reduceBNe]
  refine ai.nil a (b _ _ _ ?_);clear b K
  repeat refine az (a _) ?_
  refine cB (a _) (by simp only[*,go_sem,-a,-hJ,Int.reduceBEq,Int.reduceBNe]) ?_
  refine cE (a _) ?_
  repeat refine az (a _) ?_
  refine aU a fun K b=>?_
  refine ai.pure (a _) 3 (n:=3) _ rfl rfl ?_;simp only[*,go_sem,-b,-a,muA,msA,stA,smA,Int.reduceBEq,Int.reduceBNe]
  refine ai.fP (a _) rfl (by first|(simp only[*,go_sem,-b,-a,-hJ];done)|rfl) rfl uR (by simp only[*,go_sem,-b,-a,-hJ,muA,msA,stA,smA,Int.reduceBEq,Int.reduceBNe]) I1 fun r F' aH f=>?_
  obtain ⟨rfl,rfl,rfl⟩:=f
  refine ai.pure (a _) 2 (n:=0) _ rfl rfl ?_;simp only[*,go_sem,-b,-a,muA,msA,stA,smA,Int.reduceBEq,Int.reduceBNe]
  refine ai.nil a (b _ _ _ ?_);clear b K
  repeat refine az (a _) ?_
  refine cB (a _) (by simp only[*,go_sem,-a,-hJ,Int.reduceBEq,Int.reduceBNe]) ?_
  refine cE (a _) ?_
  repeat refine az (a _) ?_
  refine aU a fun K b=>?_
  refine ai.pure (a _) 3 (n:=1) _ rfl rfl ?_;simp only[*,go_sem,-b,-a,muA,msA,stA,smA,Int.reduceBEq,Int.reduceBNe]
  refine ai.fP (a _) rfl (by first|(simp only[*,go_sem,-b,-a,-hJ];done)|rfl) rfl Eb (by simp only[*,go_sem,-b,-a,-hJ,muA,msA,stA,smA,Int.reduceBEq,Int.reduceBNe]) (I2 h) fun r F' aH f=>?_
  obtain ⟨rfl,rfl,rfl⟩:=f
  refine ai.nil a (b _ _ _ ?_);clear b K
  repeat refine az (a _) ?_
  refine aU a fun K b=>?_
  refine ai.pure (a _) 1 (n:=0) _ rfl rfl ?_;simp only[*,go_sem,-b,-a,muA,msA,stA,smA,Int.reduceBEq,Int.reduceBNe]
  refine ai.nil a (b _ _ _ ?_);clear b K
  repeat refine az (a _) ?_
  refine cB (a _) (by simp only[*,go_sem,-a,-hJ,Int.reduceBEq,Int.reduceBNe]) ?_
  refine cE (a _) ?_
  repeat refine az (a _) ?_
  refine jF a ?_
  refine qp a (Jw Wg (bs i) F') 1 ?_ ?_
  ·exact ⟨1,rfl,(by simp only[*,go_sem,-a,-hJ,muA,msA,stA,smA,Int.reduceBEq,Int.reduceBNe]),(by simp only[*,go_sem,-a,-hJ,muA,msA,stA,smA,Int.reduceBEq,Int.reduceBNe]),(by simp only[*,go_sem,-a,-hJ,muA,msA,stA,smA,Int.reduceBEq,Int.reduceBNe]),(by simp only[*,go_sem,-a,-hJ,muA,msA,stA,smA,Int.reduceBEq,Int.reduceBNe]),.inl ⟨rfl,rfl,rfl⟩⟩
  ·clear l0 z j hd c1 c2 c3 C a1 a2 a3 a4 a5 w1 w2 D
   rintro m A E H ⟨t8,rfl,l0,I,j,hd,⟨rfl,rfl,rfl⟩|⟨rfl,rfl,rfl⟩⟩
   ·have G:((1:Int) != 0)=true:=rfl
    have w3:IntKind.u32.wrap (1 - 1)=0:=by decide
    repeat refine az (a _) ?_
    refine aU a fun K b=>?_
    refine ai.pure (a _) 2 (n:=0) _ rfl rfl ?_;simp only[*,go_sem,-b,-a,muA,msA,stA,smA,Int.reduceBEq,Int.reduceBNe]
    refine ai.nil a (b _ _ _ ?_);clear b K
    repeat refine az (a _) ?_
    refine cP (a _) (by simp only[*,go_sem,-a,-hJ,Int.reduceBEq,Int.reduceBNe]) ?_
    refine cE (a _) ?_
    repeat refine az (a _) ?_
    refine jF a ?_
    repeat refine az (a _) ?_
    refine aU a fun K b=>?_
    refine ai.pure (a _) 3 (n:=1) _ rfl rfl ?_;simp only[*,go_sem,-b,-a,muA,msA,stA,smA,Int.reduceBEq,Int.reduceBNe]
    refine IV (.bool false) (.int .i64 0) Ip h ⟨_,_,_,rfl,(by first|(simp only[*,go_sem,-b,-a,-hJ];done)|rfl),rfl,by first|(simp only[*,go_sem,-b,-a,-hJ,muA,msA,stA,smA,Int.reduceBEq,Int.reduceBNe];done)|(simp only[*,go_sem,-b,-a,-hJ,muA,msA,stA,smA,Int.reduceBEq,Int.reduceBNe];rfl),rfl⟩ (by rfl) ?_
    refine ai.nil a (b _ _ _ ?_);clear b K
    repeat refine az (a _) ?_
    refine aU a fun K b=>?_
    refine ai.pure (a _) 3 (n:=0) _ rfl rfl ?_;simp only[*,go_sem,-b,-a,muA,msA,stA,smA,Int.reduceBEq,Int.reduceBNe]
    refine ai.nil a (b _ _ _ ?_);clear b K
    exact ⟨0,by omega,0,rfl,(by simp only[*,go_sem,-a,-hJ,muA,msA,stA,smA,Int.reduceBEq,Int.reduceBNe]),(by simp only[*,go_sem,-a,-hJ,muA,msA,stA,smA,Int.reduceBEq,Int.reduceBNe]),(by simp only[*,go_sem,-a,-hJ,muA,msA,stA,smA,Int.reduceBEq,Int.reduceBNe]),(by simp only[*,go_sem,-a,-hJ,muA,msA,stA,smA,Int.reduceBEq,Int.reduceBNe]),.inr ⟨rfl,rfl,rfl⟩⟩
   ·have G:((0:Int) != 0)=false:=rfl
    repeat refine az (a _) ?_
    refine aU a fun K b=>?_
    refine ai.pure (a _) 2 (n:=0) _ rfl rfl ?_;simp only[*,go_sem,-b,-a,muA,msA,stA,smA,Int.reduceBEq,Int.reduceBNe]
    refine ai.nil a (b _ _ _ ?_);clear b K
    repeat refine az (a _) ?_
    refine cB (a _) (by simp only[*,go_sem,-a,-hJ,Int.reduceBEq,Int.reduceBNe]) ?_
    exact om (show kE 135 (fun r c aH=>r= .tuple #[]/\c=E/\aH=⟨.fin,.gone,bs i,0⟩) .normal _ _ _ from Jx (by simp only[*,go_sem,-a,-hJ,muA,msA,stA,smA,Int.reduceBEq,Int.reduceBNe]) rfl rfl ⟨rfl,rfl,rfl⟩)
 ·
  rw[if_neg hC]
  have s:(0<v/\decide ((v:Int)>0)=true)\/(v=0/\decide ((v:Int)>0)=false/\((t:Int)==0)=true):=by
   rcases Nat.eq_zero_or_pos v with e|e
   ·refine .inr ⟨e,by simp[e],?_⟩
    obtain rfl:t=0:=by omega
    rfl
   ·exact .inl ⟨e,by simp;omega⟩
  have a7:((t:Int) != 0)=false\/((t:Int) != 0)=true:=by cases ((t:Int) != 0)<;>simp
  clear k hC p ht q
  rcases a7 with a7|a7
  ·repeat refine az (a _) ?_
   refine aU a fun K b=>?_
   refine ai.pure (a _) 12 (n:=0) _ rfl rfl ?_;simp only[*,go_sem,-b,-a,muA,msA,stA,smA,Int.reduceBEq,Int.reduceBNe]
   refine ai.nil a (b _ _ _ ?_);clear b K
   repeat refine az (a _) ?_
   refine cB (a _) (by simp only[*,go_sem,-a,-hJ,Int.reduceBEq,Int.reduceBNe]) ?_
   refine cE (a _) ?_
   rcases s with ⟨_,l⟩|⟨_,l,b2⟩
   ·repeat refine az (a _) ?_
    refine aU a fun K b=>?_
    refine ai.pure (a _) 6 (n:=0) _ rfl rfl ?_;simp only[*,go_sem,-b,-a,muA,msA,stA,smA,Int.reduceBEq,Int.reduceBNe]
    refine ai.nil a (b _ _ _ ?_);clear b K
    repeat refine az (a _) ?_
    refine cP (a _) (by simp only[*,go_sem,-a,-hJ,Int.reduceBEq,Int.reduceBNe]) ?_
    exact ff (show kE 135 (fun r c aH=>r= .tuple #[]/\c=F'/\aH=⟨.fin,.gone,bs i,0⟩) .ret _ _ _ from tD (by simp only[*,go_sem,-a,-hJ,muA,msA,stA,smA,Int.reduceBEq,Int.reduceBNe]) rfl rfl ⟨rfl,rfl,rfl⟩)
   ·repeat refine az (a _) ?_
    refine aU a fun K b=>?_
    refine ai.pure (a _) 6 (n:=0) _ rfl rfl ?_;simp only[*,go_sem,-b,-a,muA,msA,stA,smA,Int.reduceBEq,Int.reduceBNe]
    refine ai.nil a (b _ _ _ ?_);clear b K
    repeat refine az (a _) ?_
    refine cP (a _) (by simp only[*,go_sem,-a,-hJ,Int.reduceBEq,Int.reduceBNe]) ?_
    exact ff (show kE 135 (fun r c aH=>r= .tuple #[]/\c=F'/\aH=⟨.fin,.gone,bs i,0⟩) .ret _ _ _ from tD (by simp only[*,go_sem,-a,-hJ,muA,msA,stA,smA,Int.reduceBEq,Int.reduceBNe]) rfl rfl ⟨rfl,rfl,rfl⟩)
  ·repeat refine az (a _) ?_
   refine aU a fun K b=>?_
   refine ai.pure (a _) 12 (n:=0) _ rfl rfl ?_;simp only[*,go_sem,-b,-a,muA,msA,stA,smA,Int.reduceBEq,Int.reduceBNe]
   refine ai.nil a (b _ _ _ ?_);clear b K
   repeat refine az (a _) ?_
   refine cB (a _) (by simp only[*,go_sem,-a,-hJ,Int.reduceBEq,Int.reduceBNe]) ?_
   refine cE (a _) ?_
   rcases s with ⟨_,l⟩|⟨_,l,b2⟩
   ·repeat refine az (a _) ?_
    refine aU a fun K b=>?_
    refine ai.pure (a _) 6 (n:=0) _ rfl rfl ?_;simp only[*,go_sem,-b,-a,muA,msA,stA,smA,Int.reduceBEq,Int.reduceBNe]
    refine ai.nil a (b _ _ _ ?_);clear b K
    repeat refine az (a _) ?_
    refine cP (a _) (by simp only[*,go_sem,-a,-hJ,Int.reduceBEq,Int.reduceBNe]) ?_
    exact ff (show kE 135 (fun r c aH=>r= .tuple #[]/\c=F'/\aH=⟨.fin,.gone,bs i,0⟩) .ret _ _ _ from tD (by simp only[*,go_sem,-a,-hJ,muA,msA,stA,smA,Int.reduceBEq,Int.reduceBNe]) rfl rfl ⟨rfl,rfl,rfl⟩)
   ·repeat refine az (a _) ?_
    refine aU a fun K b=>?_
    refine ai.pure (a _) 6 (n:=0) _ rfl rfl ?_;simp only[*,go_sem,-b,-a,muA,msA,stA,smA,Int.reduceBEq,Int.reduceBNe]
    refine ai.nil a (b _ _ _ ?_);clear b K
    repeat refine az (a _) ?_
    refine cP (a _) (by simp only[*,go_sem,-a,-hJ,Int.reduceBEq,Int.reduceBNe]) ?_
    exact ff (show kE 135 (fun r c aH=>r= .tuple #[]/\c=F'/\aH=⟨.fin,.gone,bs i,0⟩) .ret _ _ _ from tD (by simp only[*,go_sem,-a,-hJ,muA,msA,stA,smA,Int.reduceBEq,Int.reduceBNe]) rfl rfl ⟨rfl,rfl,rfl⟩)
end
end Go.Proofs.YtjepffnffjdloaaGreatDoor
end
section
namespace Go.Sep
open Go Go.Conc
open Go.ConcN (sumTo upd upd_ne upd_same)
def ja (P:Program):Frame:={(default:Frame) with fn:=P.funcs.size,defers:=[],mode:=.panicking [goexitEntry]}
section
variable {P : Program} {f : FuncId} {fn : Func} {cd : Code} {w : World} {caps args : Array Value}
theorem Jz (a:P.funcs[f]?=some fn)(b:(fn.name== "runtime.NumGoroutine")=false)(hb:fn.body=some cd):
  stepG P false (born P {target:=.fn (.func f) caps,args:=args}) w= .go (G ((baseD f).at {tmps:=args++caps++Array.replicate (fn.ntmps - (args++caps).size) undef,defers:=[]} [.code cd]) [ja P]) w #[]:=by
 have h1:¬fn.name= "runtime.NumGoroutine":=by simpa using b
 rw[<-enter_atD (args++caps) a hb]
 simp[born,G,stepG,unwind,callDeferred,invoke,callFunc,a,h1,hb,GStep.after,seen_none,ja]
theorem JA {b:Frame}{a:Act}{todo:List Item}(hn:b.kind= .deferred)(hd:a.defers=[])(d:P.funcs[b.fn]?=some fn)(c:fn.results=#[]):
  stepG P false (G {b.at a todo with mode:=.returning} [ja P]) w= .go (G (ja P) []) w #[]:=by
 have he:(results fn a.tmps).events P w #[]=#[]:=events_results_none c _ _
 have e:(results fn a.tmps).run P w= .ok (.tuple #[]) w:=results_none c _ P w
 simp[G,stepG,unwind,doReturn,Frame.at,hn,hd,d,e,he,ja,goexitEntry,seen_none,GStep.after]
theorem JB:stepG P false (G (ja P) []) w= .go {frame:=ja P,callers:=[],status:=.finished,dying:=none} w #[]:=by
 have e:(default:Frame).todo=[]:=rfl
 simp[G,stepG,unwind,ja,goexitEntry,Frame.catches,e]
end
section
variable {c : Cy} {i : Nat} {F : af} {f fd : FuncId}
def xX (c:Cy)(i:Nat)(fd:FuncId)(v:Value):Ex->Act->af->Ph->Prop
 | .exit _,_,_,_=>False
 |_,a,_,ph=>a.defers=[dcall fd #[v]]/\(ph.mp= .idle\/ph.mp= .fin)/\ph.gp= .cnt/\ph.stored=c.bs i/\ph.deaf=0
theorem worker {fn a:Func}{cd g:Code}{n nd:Nat}{v:Value}(l:c.P.funcs[f]?=some fn)(x:(fn.name== "runtime.NumGoroutine")=false)(hb:fn.body=some cd)(y:fn.results=#[])(hn:fn.ntmps=n){caps:Array Value}(N:caps.size<=n)
  (z:c.P.funcs[fd]?=some a) (B:(a.name== "runtime.NumGoroutine")=false) (C:a.body=some g) (D:a.results=#[]) (E:a.ntmps=nd) (h1:1<=nd)
  (hd:∀(mp:Mp) (F:af),mp= .idle\/mp= .fin->∀A:Act,sz A=nd->A.defers=[]->(∀j,slot A j=(#[v]:Array Value).getD j undef)->cH (WJ c i) fd g (xP fun F' aH=>aH=⟨.fin,.gone,c.bs i,0⟩) A F ⟨mp,.cnt,c.bs i,0⟩)
  (h:∀A:Act,sz A=n->A.defers=[]->(∀j,slot A j=caps.getD j undef)->cH (WJ c i) f cd (xX c i fd v) A F ⟨.idle,.cnt,false,0⟩):
  Wk c i ⟨.idle,.cnt,false,0⟩ (born c.P {target:=.fn (.func f) caps,args:=#[]}) F:=by
 have m:=WJ.eg c i
 have e0:∀w,stepG c.P false (born c.P {target:=.fn (.func f) caps,args:=#[]}) w= .go (G ((baseD f).at {tmps:=caps++Array.replicate (fn.ntmps - caps.size) undef,defers:=[]} [.code cd]) [ja c.P]) w #[]:=fun w=>by
  have:=Jz (P:=c.P) (w:=w) (caps:=caps) (args:=#[]) l x hb
  simpa using this
 refine Wk.act (c:=c) (i:=i) rfl rfl (by simp) fun w s k φ p0 e1 e2 O H I=>.inr ⟨_,w,#[],s,⟨.idle,.cnt,false,0⟩,e0 w,e2,.refl _ _,?_,mL rfl Iff.rfl,.inr dB,?_⟩
 ·rw[<-H,xG];exact I
 have out:∀(a':Act) (o:List Item) F' (aH:Ph),(a'.defers=[dcall fd #[v]]/\(aH.mp= .idle\/aH.mp= .fin)/\aH.gp= .cnt/\aH.stored=c.bs i/\aH.deaf=0)->WJ c i aH (G {(baseD f).at a' o with mode:=.returning} [ja c.P]) F':=by
  intro a' o F' aH ⟨k1,p,r,t,u⟩
  obtain ⟨mp,gp,st,Q⟩:=aH
  simp only at p r t u
  subst r t u
  refine IY z B C D E (by simpa using h1) k1 (fun A J K L=>hd mp F' p A J K L) fun R S M=>?_
  subst M
  refine Wk.gone (q:=2) rfl (QuitsD.ctl rfl (fun w=>JA rfl rfl l y) (QuitsD.ctl rfl (fun w=>JB) ⟨rfl,rfl⟩))
 have:=h {tmps:=caps++Array.replicate (fn.ntmps - caps.size) undef,defers:=[]} (by simp[sz,hn];omega) rfl (fun j=>?_) (baseD f) [] [ja c.P] ⟨by simp[baseD],rfl,rfl⟩ fun e a' F' aH d=>?_
 ·rw[eA rfl] at this;exact this
 ·simp only[slot,hn,Array.getD_eq_getD_getElem?]
  rcases Nat.lt_or_ge j caps.size with b|b
  ·rw[Array.getElem?_append_left b]
  ·rw[Array.getElem?_append_right b,Array.getElem?_replicate,Array.getElem?_eq_none b]
   split<;>rfl
 ·cases e with
  |normal=>exact (m aH).move (fun _=>lG rfl) (out a' _ F' aH d)
  |exit i=>exact d.elim
  |ret=>exact fun T=>(m aH).move (fun _=>stepG_ret' rfl) (out a' _ F' aH d)
end
attribute [go_sem] xX
end Go.Sep
end
section
namespace Go.Proofs.YtjepffnffjdloaaGreatDoor
open Go Go.Sep Go.Proofs Go.Conc
open Go.ConcN (upd upd_same)
open Go.ConcM (muA msA)
open Go.ConcR (stA smA)
set_option maxRecDepth 100000
set_option maxHeartbeats 4000000
theorem JC:(Tryz.prog.funcs[116]?).any (·.norace)=false:=by kernel_rfl
section
variable {Mu Wg Is n base T0 i : Nat} {bs : Nat → Bool}
theorem JD (o:Mu≠Wg/\Mu≠Is/\Wg≠Is)(hn:n<67108864)(a5:i<n){ro:Addr->Option Value}(u0:cR){s1:Value}(q:aA ey ro s1 u0.book.an){K:Value}(r:aA dW ro K u0.book.props){L:Value}(s:aA ek ro L u0.book.aF){M:Value}(u:aA c8 ro M u0.book.told)
  (z:Int) (B:List Int) {N:Value} (w:aA rI ro N B) (C:List aP) {O:Value} (g:aA iI ro O C) {f b2 b3 b4 P Q:Nat}
  (g0:ro ⟨f,0,none⟩=some (.int .i64 u0.book.aQ)) (R:ro ⟨f,1,none⟩=some (.int .i64 u0.book.aN)) (S:ro ⟨f,2,none⟩=some (.int .i64 u0.book.aE.num)) (T:ro ⟨f,3,none⟩=some (.int .i64 u0.book.aE.den)) (U:ro ⟨f,4,none⟩=some s1) (V:ro ⟨f,5,none⟩=some K) (W:ro ⟨f,6,none⟩=some L) (X:ro ⟨f,7,none⟩=some M)
  (Y:ro ⟨b2,0,none⟩=some (.int .i64 z)) (Z:ro ⟨b3,0,none⟩=some N) (ab:ro ⟨b4,0,none⟩=some O) (D:ro ⟨P,0,none⟩=some (.slice (some ⟨Is,0,none⟩) n n)) (E:ro ⟨Q,0,none⟩=some (.int .i64 i))
  (h:ah (rZ u0.book z B) (fun b=>rN b C)=some (bs i)):
  Wk (CY Mu Wg Is n bs base T0) i ⟨.idle,.cnt,false,0⟩ (born Tryz.prog {target:=.fn (.func 116) #[.pointer (some ⟨Wg,0,none⟩),.pointer (some ⟨f,0,none⟩),.pointer (some ⟨b2,0,none⟩),.pointer (some ⟨b3,0,none⟩),.pointer (some ⟨b4,0,none⟩),.pointer (some ⟨Mu,0,none⟩),.pointer (some ⟨P,0,none⟩),.pointer (some ⟨Q,0,none⟩)],args:=#[]}) ⟨ro,[]⟩:=by
 have d:=WJ.eg (CY Mu Wg Is n bs base T0) i
 have hJ:∀ph:Ph,ph.gp= .cnt->Go.Sep.Closed Tryz.prog false (WJ (CY Mu Wg Is n bs base T0) i ph):=fun ph h=>Wk.closed (CY Mu Wg Is n bs base T0) i ph h
 refine worker (c:=CY Mu Wg Is n bs base T0) (i:=i) (fd:=117) (v:=.pointer (some ⟨Wg,0,none⟩)) Tryz.func116 rfl rfl rfl Tryz.ntmps116 (by simp) Tryz.func117 rfl rfl rfl Tryz.ntmps117 (by simp) ?_ ?_
 ·intro mp F a6 A G hd hs
  have x:=hs 0
  clear hs h g0 R S T U V W X Y Z ab D E q r s u w g hJ a5
  repeat refine az (d _) ?_
  refine cQ d ?_
  refine ai.pure (d _) 1 (n:=1) _ rfl rfl ?_;simp only[*,go_sem,muA,msA,stA,smA,Int.reduceBEq,Int.reduceBNe]
  refine ai.fP (d _) rfl rfl rfl zB (by simp only[*,go_sem,stA]) (Jy o hn a6 rfl) fun v F' aH j=>?_
  obtain ⟨rfl,rfl,rfl⟩:=j
  refine ai.nil d ?_
  exact ⟨(by simp only[*,go_sem,muA,msA,stA,smA,Int.reduceBEq,Int.reduceBNe]),rfl⟩
 ·intro ad G hd hs
  have x:=hs 0
  have k1:=hs 1
  have ae:=hs 2
  have al:=hs 3
  have ao:=hs 4
  have ar:=hs 5
  have a0:=hs 6
  have a2:=hs 7
  clear hs
  repeat refine az (d _) ?_
  refine cQ d ?_
  refine ai.defer (d _) (vals:=#[.pointer (some ⟨Wg,0,none⟩)]) rfl (by rfl) rfl rfl (by simp only[List.map_toArray,List.map_cons,List.map_nil];rw[show ad.eval (.tmp 0)=slot ad 0 from rfl,x];rfl) fun A e1 e2 H=>?_
  replace x:=(e1 0).trans x
  replace k1:=(e1 1).trans k1
  replace ae:=(e1 2).trans ae
  replace al:=(e1 3).trans al
  replace ao:=(e1 4).trans ao
  replace ar:=(e1 5).trans ar
  replace a0:=(e1 6).trans a0
  replace a2:=(e1 7).trans a2
  replace G:sz A=20:=e2.trans G
  rw[hd] at H
  replace hd:=H
  clear e1 e2 H
  refine ai.nil d ?_;try simp only[go_sem]
  obtain ⟨d3,c4,rfl,a7,a8,a9⟩:=id q
  obtain ⟨d10,dq,rfl,ba,bb,bc⟩:=id r
  obtain ⟨d17,ds,rfl,bd,bj,bk⟩:=id s
  obtain ⟨d24,dt,rfl,bl,bm,bo⟩:=id u
  obtain ⟨d38,du,rfl,br,bz,bS⟩:=id w
  obtain ⟨d45,dv,rfl,b0,b1,I⟩:=id g
  repeat refine az (d _) ?_
  have l:=hJ ⟨.idle,.cnt,false,0⟩ rfl
  refine cH.of l ?_
  refine Ei l mixed [0,1,2,3,5] [4,6] ⟨ro,[]⟩ (by simp only[*,go_sem,-h]) (by kernel_rfl) ?_
  have b5:=fG h;clear h;obtain ⟨ca,a3,h⟩:=b5
  simp only[*,go_sem,-h,-hJ,-d]
  refine uJ l _ (FG u0.book ⟨q,r,s,u⟩ z B w a3) fun v dC m cb j=>?_
  obtain ⟨dE,dT,ea,eb,rfl,k⟩:=j
  replace g:=g.mono m;clear I;obtain ⟨_,_,I⟩:=g.op
  obtain ⟨d63,ec,rfl,cd,cf,cl⟩:=id k.e
  obtain ⟨d68,ed,rfl,cy,cS,c0⟩:=id k.p
  obtain ⟨d73,eh,rfl,da,db,dd⟩:=id k.y
  obtain ⟨d78,et,rfl,df,dk,dp⟩:=id k.t
  replace D:=m _ _ D
  replace E:=m _ _ E
  clear g0 R S T U V W X Y Z ab
  refine ⟨⟨m,fun a J=>by simp[keys] at J,trivial⟩,kM ?_⟩
  simp only[*,go_sem,-h,-hJ,-d]
  refine aR l _ (Fx ca (k.mono aJ) C (g.mono aJ) h) ?_
  refine ⟨⟨m,fun a J=>by simp[keys] at J,trivial⟩,?_⟩
  clear q r s u w g k a9 bc bk bo bS I cl c0 dd dp h a3 a7 ba bd bl br b0 cd cy da df a8 bb bj bm bz b1 cf cS db dk l cb
  have i0:(0:Int)<=(i:Int):=by omega
  have i1:(i:Int)<(n:Int):=by omega
  cases a4:bs i
  ·repeat refine az (d _) ?_
   refine cB (d _) (by simp only[*,go_sem,Int.reduceBEq,Int.reduceBNe]) ?_
   refine cE (d _) ?_
   exact ⟨(by simp only[*,go_sem,muA,msA,stA,smA,Int.reduceBEq,Int.reduceBNe]),.inl rfl,rfl,a4.symm,rfl⟩
  ·repeat refine az (d _) ?_
   refine cP (d _) (by simp only[*,go_sem,Int.reduceBEq,Int.reduceBNe]) ?_
   repeat refine az (d _) ?_
   refine cQ d ?_
   refine ai.fP (d _) rfl (by rfl) rfl D8 (by simp only[*,go_sem,muA,msA,stA,smA,Int.reduceBEq,Int.reduceBNe]) (IL o hn) fun v F' aH j=>?_
   obtain ⟨rfl,rfl,rfl⟩:=j
   refine ai.nil d ?_;try simp only[go_sem]
   repeat refine az (d _) ?_
   refine cQ d ?_
   refine ai.bw (hJ _ rfl) 3 (n:=1) _ rfl rfl ?_;simp only[*,go_sem,muA,msA,stA,smA,Int.reduceBEq,Int.reduceBNe]
   refine IB Iq zq JC o ⟨_,rfl,(by first|rfl|simp only[*,go_sem,Int.reduceBEq,Int.reduceBNe]),rfl,rfl⟩ (by rfl) (by simp only[*,go_sem]) (by simp only[*,go_sem]) ?_
   refine ai.nil d ?_;try simp only[go_sem]
   repeat refine az (d _) ?_
   refine cQ d ?_
   refine ai.fP (d _) rfl (by rfl) rfl D9 (by simp only[*,go_sem,muA,msA,stA,smA,Int.reduceBEq,Int.reduceBNe]) (IM o hn) fun v F' aH j=>?_
   obtain ⟨rfl,rfl,rfl⟩:=j
   refine ai.nil d ?_
   exact (show xX _ _ _ _ .normal _ _ _ from ⟨(by simp only[*,go_sem,muA,msA,stA,smA,Int.reduceBEq,Int.reduceBNe]),.inr rfl,rfl,a4.symm,rfl⟩)
end
end Go.Proofs.YtjepffnffjdloaaGreatDoor
end
section
namespace Go.Proofs.YtjepffnffjdloaaGreatDoor
open Go Go.Sep Go.Proofs Go.Conc
open Go.ConcN (upd upd_same)
open Go.ConcM (muA msA muBlock)
open Go.ConcR (stA smA wgBlock)
set_option maxRecDepth 100000
set_option maxHeartbeats 4000000
def JE (u0:cR)(a:Int)(c:List aP)(d:List Int):Option Bool:=ah (rZ u0.book a d) fun b=>rN b c
def qv (f:List Int->Option Bool):List (List Int)->Option (List Bool)
 |[]=>some []
 |x::l=>ah (f x) fun b=>ah (qv f l) fun r=>some (b::r)
def xY (a:List Bool)(i23:Nat)(b:List Int)(st:List (List Int)):Option (Fl (List (List Int)) (List (List Int))):=
 ah (bK a (i23:Int)) fun c=>cond (c) (ah (cZ st ([b])) fun d=>some (.nx d)) (some (.nx st))
def tE (u0:cR)(b:Int)(a:List (List Int)):Option (List (List Int)):=
 cond (decide (a.length<1048576)) (ah (sk u0) fun c=>ah (qv (JE u0 b c) a) fun bl=>ah (bE (xY bl) 0 a ([]:List (List Int))) fun o=>aO o (fun d=>some d) (fun _ _=>none) (fun r=>some r)) none
theorem Cx {f:List Int->Option Bool}:∀{l:List (List Int)} {bl:List Bool},qv f l=some bl->bl.length=l.length/\∀(i:Nat) (a:List Int),l[i]?=some a->f a=some (bl[i]?.getD false)
 |[],bl,h=>by
  simp[qv] at h;subst h
  exact ⟨rfl,fun i a hi=>by simp at hi⟩
 |x::l,bl,h=>by
  unfold qv at h
  obtain ⟨b,hb,h⟩:=fG h
  obtain ⟨r,c,h⟩:=fG h
  have h:=Option.some.inj h
  subst h
  obtain ⟨e1,e2⟩:=Cx c
  refine ⟨by simp[e1],fun i a hi=>?_⟩
  cases i with
  |zero=>simp at hi;subst hi;simpa using hb
  |succ i=>simp at hi;simpa using e2 i a hi
def Cz (x:X)(d:Addr->Option Value)(b3 b4 e f:Nat)(b:Value)(m:Nat)(a:Act)(F:af)(z:Z):Prop:=
 ∃(i:Nat) (c:Addr->Option Value),m=x.n - i/\i<=x.n/\F=⟨c,[]⟩/\Ext d c/\slot a 2=b/\slot a 3= .pointer (some ⟨b3,0,none⟩)/\slot a 4= .pointer (some ⟨b4,0,none⟩)/\slot a 6= .slice none 0 0/\slot a 7= .pointer (some ⟨e,0,none⟩)/\slot a 8= .pointer (some ⟨f,0,none⟩)/\slot a 9= .pointer (some ⟨x.Mu,0,none⟩)/\slot a 10= .pointer (some ⟨x.Wg,0,none⟩)/\slot a 21=b/\slot a 22= .int .i64 x.n/\slot a 23= .int .i64 i/\sz a=49/\a.defers=[]/\z= .co x i (.opn 0) 0
theorem JG (l:List Bool):(l.map fun b=>[Value.bool b]).flatten=l.map Value.bool:=by
 induction l with
 |nil=>rfl
 |cons b l ih=>simp only[List.map_cons,List.flatten_cons,ih];rfl
theorem JH:Tryz.prog.underlying 159=some (.slice 4):=by kernel_rfl
theorem JI:Tryz.prog.info? 4=some ((Tryz.prog.info? 4).getD default):=by kernel_rfl
theorem CA {ro:Addr->Option Value}(u0:cR){s1:Value}(q:aA ey ro s1 u0.book.an){bo:Value}(s:aA dW ro bo u0.book.props){br:Value}(u:aA ek ro br u0.book.aF){bs:Value}(w:aA c8 ro bs u0.book.told){bz:Value}(a4:aA gK ro bz u0.all)(ae:Int)(d:List (List Int)){bS:Value}(o:aA (rL rI) ro bS d){r:List (List Int)}(h:tE u0 ae d=some r):
  oZ Tryz.prog 92 #[.agg #[.int .i64 u0.book.aQ,.int .i64 u0.book.aN,.int .i64 u0.book.aE.num,.int .i64 u0.book.aE.den,s1,bo,br,bs,bz],.int .i64 ae,bS] ro (fun v aL=>∃b0,v=b0/\aA (rL rI) aL b0 r):=by
 refine fA.Ji (T:=TT) fun Φ=>?_
 obtain ⟨d3,c4,rfl,fw,fx,gg⟩:=id q
 obtain ⟨d10,gl,rfl,gn,gp,R⟩:=id s
 obtain ⟨d17,I,rfl,gB,gC,gM⟩:=id u
 obtain ⟨d24,gT,rfl,gV,g0,g1⟩:=id w
 obtain ⟨d31,jC,rfl,g2,g3,g4⟩:=id a4
 obtain ⟨d38,b1,rfl,j1,b2,C⟩:=id o
 unfold tE at h
 have hlen:d.length<1048576:=by
  rcases Nat.lt_or_ge d.length 1048576 with y|y
  ·exact y
  ·rw[show decide (d.length<1048576)=false by simp;omega] at h;cases h
 rw[show decide (d.length<1048576)=true by simp;omega] at h
 simp only[cond_true] at h
 obtain ⟨b5,ca,h⟩:=fG h
 obtain ⟨bl,cb,h⟩:=fG h
 obtain ⟨cd,cf⟩:=Cx cb
 have a:=ZJ.eg TT Φ
 have hJ:=fun (z:Z) (S:xV z=true)=>ZJ.Js TT Φ z S
 refine cD.go (main:=true) a Tryz.func92 rfl Tryz.ntmps92 (by simp) fun A S hd hs=>?_
 have ha:=hs 0
 have k1:=hs 1
 have cl:=hs 2
 clear hs cb
 repeat refine az (a _) ?_
 refine aU a fun K c=>?_
 refine ai.bw (hJ _ rfl) 3 (n:=0) _ rfl rfl ?_;simp only[*,go_sem,-c,-a,-hJ,muA,msA,stA,smA,Int.reduceBEq,Int.reduceBNe]
 intro b3 f3;have r3:=eB f3;have n3:=fz f3
 try simp only[au] at n3
 intro b4 f4;have hc:=eB f4;have cS:=fz f4
 try simp only[au] at cS
 try simp only[*,go_sem,-c,-a,-hJ,-h]
 refine ai.nil a (c _ _ _ ?_);clear c K
 have p:=hJ .free rfl
 repeat refine az (a _) ?_
 refine aU a fun K c=>?_
 refine ai.bw (hJ _ rfl) 4 (n:=0) _ rfl rfl ?_;simp only[*,go_sem,-c,-a,-hJ,muA,msA,stA,smA,Int.reduceBEq,Int.reduceBNe]
 refine uJ p _ (Av u0 ⟨q,s,u,w⟩ a4 ca) fun v j2 J hf U=>?_
 obtain ⟨kh,rfl,L⟩:=U
 replace q:=q.mono J
 replace s:=s.mono J
 replace u:=u.mono J
 replace w:=w.mono J
 replace o:=o.mono J
 obtain ⟨d45,hg,rfl,hh,hj,hk⟩:=id L
 clear gg R gM g1 g4 C hk r3 hc
 refine aD ?_
 try simp only[*,go_sem,-c,-a,-hJ,-h,-p]
 intro a5 f7;have hl:=eB f7;have c0:=fz f7
 try simp only[au] at c0
 try simp only[*,go_sem,-c,-a,-hJ,-h,-p]
 refine ai.nil a (c _ _ _ ?_);clear c K
 repeat refine az (a _) ?_
 refine aU a fun K c=>?_
 refine ai.bw (hJ _ rfl) 5 (n:=0) _ rfl rfl ?_;simp only[*,go_sem,-c,-a,-hJ,muA,msA,stA,smA,Int.reduceBEq,Int.reduceBNe]
 refine Jr JH JI rfl zq DY hlen fun k a6=>?_
 have rI:=eB a6;have nI:=fz a6
 try simp only[au] at nI
 refine aD ?_
 try simp only[*,go_sem,-c,-a,-hJ,-h,-p]
 intro V f8;have ho:=eB f8;have da:=fz f8
 try simp only[au] at da
 try simp only[*,go_sem,-c,-a,-hJ,-h,-p]
 refine ai.nil a (c _ _ _ ?_);clear c K
 repeat refine az (a _) ?_
 refine aU a fun K c=>?_
 refine ai.bw (hJ _ rfl) 1 (n:=0) _ rfl rfl ?_;simp only[*,go_sem,-c,-a,-hJ,muA,msA,stA,smA,Int.reduceBEq,Int.reduceBNe]
 intro M f9;have hp:=eB f9;have db:=fz f9
 try simp only[au] at db
 try simp only[*,go_sem,-c,-a,-hJ,-h,-p]
 refine ai.nil a (c _ _ _ ?_);clear c K
 repeat refine az (a _) ?_
 refine aU a fun K c=>?_
 refine ai.bw (hJ _ rfl) 1 (n:=0) _ rfl rfl ?_;simp only[*,go_sem,-c,-a,-hJ,muA,msA,stA,smA,Int.reduceBEq,Int.reduceBNe]
 intro N f10;have hq:=eB f10;have dd:=fz f10
 try simp only[au] at dd
 try simp only[*,go_sem,-c,-a,-hJ,-h,-p]
 refine ai.nil a (c _ _ _ ?_);clear c K
 repeat refine az (a _) ?_
 refine aU a fun K c=>?_
 refine ai.bw (hJ _ rfl) 3 (n:=0) _ rfl rfl ?_;simp only[*,go_sem,-c,-a,-hJ,muA,msA,stA,smA,Int.reduceBEq,Int.reduceBNe]
 refine ai.nil a (c _ _ _ ?_);clear c K
 refine xW p fun nd no=>?_
 obtain ⟨al,D,hle,B,df,dk,dp⟩:=Jt nd no
 clear nd no
 refine Jf (T:=TT) (Φ:=Φ) ⟨al,[]⟩ M N k d.length (fun i=>bl[i]?.getD false) hle ?_
 intro base B0 T0 hr ao
 clear hle
 have hn:d.length<67108864:=by omega
 replace q:=q.mono D
 replace s:=s.mono D
 replace u:=u.mono D
 replace w:=w.mono D
 replace o:=o.mono D
 replace L:=L.mono D
 have dq:=B 0 (.int .i64 u0.book.aQ) rfl
 have ds:=B 1 (.int .i64 u0.book.aN) rfl
 have dt:=B 2 (.int .i64 u0.book.aE.num) rfl
 have du:=B 3 (.int .i64 u0.book.aE.den) rfl
 have dv:=B 4 (.slice d3 u0.book.an.length c4) rfl
 have dC:=B 5 (.slice d10 u0.book.props.length gl) rfl
 have dE:=B 6 (.slice d17 u0.book.aF.length I) rfl
 have dT:=B 7 (.slice d24 u0.book.told.length gT) rfl
 have ea:=df 0 (.int .i64 ae) rfl
 have eb:=dk 0 (.slice d45 b5.length hg) rfl
 have a7:=dp 0 (.slice (some ⟨k,0,none⟩) d.length d.length) rfl
 clear B df dk dp f3 f4 f7 f8 f9 f10 a6 n3 cS c0 da db dd nI hl ho hp hq rI hf
 repeat refine az (a _) ?_
 refine jF a ?_
 refine qp a (Cz (⟨M,N,k,d.length,(fun i=>bl[i]?.getD false),base,T0,B0⟩:X) al b3 b4 a5 V (.slice d38 d.length b1)) d.length ?_ ?_
 ·exact ⟨0,al,rfl,Nat.zero_le _,rfl,Ext.refl _,(by simp only[*,go_sem,-a,-hJ,muA,msA,stA,smA,Int.reduceBEq,Int.reduceBNe]),(by simp only[*,go_sem,-a,-hJ,muA,msA,stA,smA,Int.reduceBEq,Int.reduceBNe]),(by simp only[*,go_sem,-a,-hJ,muA,msA,stA,smA,Int.reduceBEq,Int.reduceBNe]),(by simp only[*,go_sem,-a,-hJ,muA,msA,stA,smA,Int.reduceBEq,Int.reduceBNe]),(by simp only[*,go_sem,-a,-hJ,muA,msA,stA,smA,Int.reduceBEq,Int.reduceBNe]),(by simp only[*,go_sem,-a,-hJ,muA,msA,stA,smA,Int.reduceBEq,Int.reduceBNe]),(by simp only[*,go_sem,-a,-hJ,muA,msA,stA,smA,Int.reduceBEq,Int.reduceBNe]),(by simp only[*,go_sem,-a,-hJ,muA,msA,stA,smA,Int.reduceBEq,Int.reduceBNe]),(by simp only[*,go_sem,-a,-hJ,muA,msA,stA,smA,Int.reduceBEq,Int.reduceBNe]),(by simp only[*,go_sem,-a,-hJ,muA,msA,stA,smA,Int.reduceBEq,Int.reduceBNe]),(by simp only[*,go_sem,-a,-hJ,muA,msA,stA,smA,Int.reduceBEq,Int.reduceBNe]),(by simp only[*,go_sem,-a,-hJ,muA,msA,stA,smA,Int.reduceBEq,Int.reduceBNe]),(by simp only[*,go_sem,-a,-hJ,muA,msA,stA,smA,Int.reduceBEq,Int.reduceBNe]),rfl⟩
 clear ha k1 cl S hd
 rintro m A F' ec ⟨i,P,rfl,hi,rfl,e,cl,ht,hv,kj,hx,kk,hy,hz,hA,hB,hD,S,hd,rfl⟩
 have hi:i<=d.length:=hi
 replace q:=q.mono e
 replace s:=s.mono e
 replace u:=u.mono e
 replace w:=w.mono e
 replace o:=o.mono e
 replace L:=L.mono e
 rcases Nat.lt_or_ge i d.length with ar|hE
 ·have c1:decide ((i:Int)<(d.length:Int))=true:=by simp;omega
  have i0:(0:Int)<=(i:Int):=by omega
  have i1:(i:Int)<(d.length:Int):=by omega
  obtain ⟨a8,ed⟩:∃x,d[i]?=some x:=⟨_,List.getElem?_eq_getElem ar⟩
  obtain ⟨_,_,C⟩:=o.op
  obtain ⟨hF,eh,a9,ba,W⟩:=C _ _ ed
  obtain ⟨hG,rfl,Y⟩:=ba
  obtain ⟨d32,ab,rfl,hI,hK,-⟩:=id Y
  cases a9
  have hL:=W 0 _ rfl
  simp only[go_sem] at hL
  clear W C
  have et:=cq (n:=i) (by omega)
  repeat refine az (a _) ?_
  refine aU a fun K c=>?_
  refine ai.bw (hJ _ rfl) 1 (n:=0) _ rfl rfl ?_;simp only[*,go_sem,-c,-a,-hJ,muA,msA,stA,smA,Int.reduceBEq,Int.reduceBNe]
  refine ai.nil a (c _ _ _ ?_);clear c K
  repeat refine az (a _) ?_
  refine cP (a _) (by simp only[*,go_sem,-a,-hJ,Int.reduceBEq,Int.reduceBNe]) ?_
  refine cE (a _) ?_
  repeat refine az (a _) ?_
  refine jF a ?_
  repeat refine az (a _) ?_
  refine aU a fun K c=>?_
  refine ai.bw (hJ _ rfl) 7 (n:=0) _ rfl rfl ?_;simp only[*,go_sem,-c,-a,-hJ,muA,msA,stA,smA,Int.reduceBEq,Int.reduceBNe]
  intro hM f11;have hN:=eB f11;have ev:=fz f11
  try simp only[au] at ev
  try simp only[*,go_sem,-c,-a,-hJ,-h,-p]
  intro hP f12;have hQ:=eB f12;have eQ:=fz f12
  try simp only[au] at eQ
  try simp only[*,go_sem,-c,-a,-hJ,-h,-p]
  refine ai.nil a (c _ _ _ ?_);clear c K
  refine xW (hJ _ rfl) fun nd no=>?_
  obtain ⟨hR,f,hle,eS,e0⟩:=Ju nd no
  clear nd no f11 f12 hN hQ ev eQ
  refine Cw (hJ _ rfl) hle ?_
  clear hle
  have hS:=eS 0 (.int .i64 i) rfl
  have hT:=e0 0 (.slice d32 a8.length ab) rfl
  clear eS e0
  repeat refine az (a _) ?_
  refine aU a fun K c=>?_
  refine ai.fP (a _) rfl (by first|(simp only[*,go_sem,-c,-a,-hJ];done)|rfl) rfl zB (by simp only[*,go_sem,-c,-a,-hJ,muA,msA,stA,smA,Int.reduceBEq,Int.reduceBNe]) (Jp ao hn) fun v F' ec U=>?_
  obtain ⟨rfl,rfl,rfl⟩:=U
  refine ai.nil a (c _ _ _ ?_);clear c K
  repeat refine az (a _) ?_
  refine aU a fun K c=>?_
  refine ai.bw (hJ _ rfl) 1 (n:=1) _ rfl rfl ?_;simp only[*,go_sem,-c,-a,-hJ,muA,msA,stA,smA,Int.reduceBEq,Int.reduceBNe]
  refine Jv (caps:=#[.pointer (some ⟨N,0,none⟩),.pointer (some ⟨b3,0,none⟩),.pointer (some ⟨b4,0,none⟩),.pointer (some ⟨hP,0,none⟩),.pointer (some ⟨a5,0,none⟩),.pointer (some ⟨M,0,none⟩),.pointer (some ⟨V,0,none⟩),.pointer (some ⟨hM,0,none⟩)]) (f0:=116) ar ⟨_,rfl,(by first|(simp only[*,go_sem,-c,-a,-hJ];done)|rfl),rfl,rfl⟩ (by simp only[*,go_sem,-c,-a,-hJ,muA,msA,stA,smA,Int.reduceBEq,Int.reduceBNe]) ?_ ?_
  ·exact JD ao hn ar u0 (q.mono f) (s.mono f) (u.mono f) (w.mono f) ae a8 (Y.mono f) b5 (L.mono f) (f _ _ (e _ _ dq)) (f _ _ (e _ _ ds)) (f _ _ (e _ _ dt)) (f _ _ (e _ _ du)) (f _ _ (e _ _ dv)) (f _ _ (e _ _ dC)) (f _ _ (e _ _ dE)) (f _ _ (e _ _ dT)) (f _ _ (e _ _ ea)) hT (f _ _ (e _ _ eb)) (f _ _ (e _ _ a7)) hS (cf i a8 ed)
  refine ai.nil a (c _ _ _ ?_);clear c K
  repeat refine az (a _) ?_
  refine aU a fun K c=>?_
  refine ai.bw (hJ _ rfl) 2 (n:=0) _ rfl rfl ?_;simp only[*,go_sem,-c,-a,-hJ,muA,msA,stA,smA,Int.reduceBEq,Int.reduceBNe]
  refine ai.nil a (c _ _ _ ?_);clear c K
  change ∃e1,e1<d.length - i/\Cz _ al b3 b4 a5 V _ e1 _ _ _
  exact ⟨d.length - (i+1),by omega,i+1,hR,rfl,ar,rfl,e.trans f,(by simp only[*,go_sem,-a,-hJ,muA,msA,stA,smA,Int.reduceBEq,Int.reduceBNe]),(by simp only[*,go_sem,-a,-hJ,muA,msA,stA,smA,Int.reduceBEq,Int.reduceBNe]),(by simp only[*,go_sem,-a,-hJ,muA,msA,stA,smA,Int.reduceBEq,Int.reduceBNe]),(by simp only[*,go_sem,-a,-hJ,muA,msA,stA,smA,Int.reduceBEq,Int.reduceBNe]),(by simp only[*,go_sem,-a,-hJ,muA,msA,stA,smA,Int.reduceBEq,Int.reduceBNe]),(by simp only[*,go_sem,-a,-hJ,muA,msA,stA,smA,Int.reduceBEq,Int.reduceBNe]),(by simp only[*,go_sem,-a,-hJ,muA,msA,stA,smA,Int.reduceBEq,Int.reduceBNe]),(by simp only[*,go_sem,-a,-hJ,muA,msA,stA,smA,Int.reduceBEq,Int.reduceBNe]),(by simp only[*,go_sem,-a,-hJ,muA,msA,stA,smA,Int.reduceBEq,Int.reduceBNe]),(by simp only[*,go_sem,-a,-hJ,muA,msA,stA,smA,Int.reduceBEq,Int.reduceBNe]),(by simp only[*,go_sem,-a,-hJ,muA,msA,stA,smA,Int.reduceBEq,Int.reduceBNe]),(by simp only[*,go_sem,-a,-hJ,muA,msA,stA,smA,Int.reduceBEq,Int.reduceBNe]),(by simp only[*,go_sem,-a,-hJ,muA,msA,stA,smA,Int.reduceBEq,Int.reduceBNe]),rfl⟩
 ·have c1:decide ((i:Int)<(d.length:Int))=false:=by simp;omega
  obtain rfl:i=d.length:=by omega
  repeat refine az (a _) ?_
  refine aU a fun K c=>?_
  refine ai.bw (hJ _ rfl) 1 (n:=0) _ rfl rfl ?_;simp only[*,go_sem,-c,-a,-hJ,muA,msA,stA,smA,Int.reduceBEq,Int.reduceBNe]
  refine ai.nil a (c _ _ _ ?_);clear c K
  repeat refine az (a _) ?_
  refine cB (a _) (by simp only[*,go_sem,-a,-hJ,Int.reduceBEq,Int.reduceBNe]) ?_
  refine om ?_
  simp only[go_sem]
  repeat refine az (a _) ?_
  refine aU a fun K c=>?_
  refine ai.fP (a _) rfl (by first|(simp only[*,go_sem,-c,-a,-hJ];done)|rfl) rfl Ea (by simp only[*,go_sem,-c,-a,-hJ,muA,msA,stA,smA,Int.reduceBEq,Int.reduceBNe]) (Jq ao hn) fun v F' ec U=>?_
  obtain ⟨rfl,rfl,rfl⟩:=U
  refine ai.nil a (c _ _ _ ?_);clear c K
  refine xW p fun nd no=>?_
  have rI:∀off sp,P ⟨k,off,sp⟩=none:=fun off sp=>no k (by simp[keys]) off sp
  have hle:Le ⟨bN P k (X.cy (⟨M,N,k,d.length,(fun i=>bl[i]?.getD false),base,T0,B0⟩:X) TT).fin,[]⟩ ⟨P,[(k,(X.cy (⟨M,N,k,d.length,(fun i=>bl[i]?.getD false),base,T0,B0⟩:X) TT).fin)]⟩:=jR (by simp[lk]) (by simp) trivial
  have ad:aA rB (bN P k (X.cy (⟨M,N,k,d.length,(fun i=>bl[i]?.getD false),base,T0,B0⟩:X) TT).fin) (.slice (some ⟨k,0,none⟩) bl.length bl.length) bl:=aA.flat (fun b=>[.bool b]) bl (fun _=>rfl) rI (by
   show (((List.range d.length).map fun i=>Value.bool (bl[i]?.getD false)).toArray).toList=_
   rw[<-cd]
   apply List.ext_getElem?
   intro j
   rw[JG bl]
   simp only[List.getElem?_map]
   rcases Nat.lt_or_ge j bl.length with y|y
   ·simp[y]
   ·simp[y]) (by omega)
  obtain ⟨E,bb⟩:∃E,E=bN P k (X.cy (⟨M,N,k,d.length,(fun i=>bl[i]?.getD false),base,T0,B0⟩:X) TT).fin:=⟨_,rfl⟩
  have a0:Ext P E:=by rw[bb];exact fR _ _ _
  have hV:Ext ro E:=J.trans (D.trans (e.trans a0))
  rw[<-bb] at hle ad
  refine Cw p hle ?_
  replace o:=o.mono a0
  have a7:E ⟨V,0,none⟩=some (.slice (some ⟨k,0,none⟩) bl.length bl.length):=by rw[cd];exact a0 _ _ (e _ _ a7)
  clear hle nd no bb rI dq ds dt du dv dC dE dT ea eb a hJ ao hn hr q s u w L ca cf c1 hlen hE hi a0 J D e ht hv hx hy hz hA hB hD fw fx gn gp gB gC gV g0 a4 g2 g3 hh hj
  obtain ⟨_,_,C⟩:=o.op
  obtain ⟨_,_,R⟩:=ad.op
  have hJ:=p
  clear p
  refine cH.of hJ ?_
  repeat refine aa hJ ?_
  refine ag hJ ?_
  simp only[*,go_sem,-h]
  repeat refine aa hJ ?_
  refine ag hJ ?_
  simp only[*,go_sem,-h]
  repeat refine aa hJ ?_
  refine aY hJ ?_
  have g:=fG h;clear h;obtain ⟨hX,G,hY⟩:=g;have h:=True.intro
  refine cc hJ [13,14,15,34,35,36,37,38,39,40,41,42,43,44,45,46,47] (fun m a' F'=>∃(i23:Nat) (d17:Option Addr) (I:Nat) (a2:List (Nat×Obj)) (H:(List (List Int))),m=d.length - i23/\i23<=d.length/\bE (xY bl) i23 (d.drop i23) H=some hX/\F'=⟨E,a2⟩/\aV (rL rI) E 64 (.slice d17 H.length I) H a2/\H.length<=I/\slot a' 34= .int .i64 (i23:Int)/\slot a' 13= .slice d17 H.length I) d.length ?_ ?_
  ·refine ⟨0,none,0,[],([]:List (List Int)),(Nat.sub_zero _).symm,Nat.zero_le _,G,rfl,aV.nil _ _ _,Nat.le_refl _,?_⟩
   simp only[*,go_sem,-h]
  ·rintro kl Q F' O ⟨i23,d17,I,a2,H,rfl,km,G,rfl,bc,hZ,kn,kp⟩
   have h:=True.intro
   have ks:sz Q=49:=by rw[O.size];simp only[*,go_sem,-h]
   have kt:Q.defers=[]:=by rw[O.defers];simp only[*,go_sem,-h]
   have kv:slot Q 6= .slice none 0 0:=by rw[O.e5 6 (by decide)];simp only[*,go_sem,-h]
   have kx:slot Q 8= .pointer (some ⟨V,0,none⟩):=by rw[O.e5 8 (by decide)];simp only[*,go_sem,-h]
   have ky:slot Q 32= .slice d38 d.length b1:=by rw[O.e5 32 (by decide)];simp only[*,go_sem,-h]
   have k0:slot Q 33= .int .i64 (d.length:Int):=by rw[O.e5 33 (by decide)];simp only[*,go_sem,-h]
   clear O S hd
   repeat refine aa hJ ?_
   refine ag hJ ?_
   simp only[*,go_sem,-h]
   repeat refine aa hJ ?_
   rcases Nat.lt_or_ge i23 d.length with h0|e3
   ·refine bM hJ (by simp only[*,go_sem,-h]) ?_
    refine aG hJ ?_
    obtain ⟨a3,bd⟩:∃x,d[i23]?=some x:=⟨_,List.getElem?_eq_getElem h0⟩
    rw[c7 bd] at G
    have g:=fG G;clear G h;obtain ⟨k2,h,fa⟩:=g
    unfold xY at h
    try dsimp only at h
    obtain ⟨lb,lh,h1,h2,fb⟩:=C _ _ bd
    obtain ⟨hG,rfl,Y⟩:=h2;obtain ⟨d32,ab,rfl,hI,hK,lj⟩:=id Y
    cases h1
    have h3:=fb 0 _ rfl;simp only[go_sem] at h3
    clear fb bd
    repeat refine aa hJ ?_
    refine aY hJ ?_
    repeat refine aa hJ ?_
    refine aK hJ fun ll=>?_
    refine ag hJ ?_
    simp only[*,go_sem,-h]
    repeat refine aa hJ ?_
    refine aK hJ fun ln=>?_
    refine ag hJ ?_
    have g:=fG h;clear h;obtain ⟨h4,h5,h⟩:=g
    obtain ⟨lo,lr,fg⟩:=cM h5
    obtain ⟨hF,eh,a9,ba,W⟩:=R _ _ fg
    obtain rfl:eh=[.bool h4]:=ba
    cases a9
    have h6:=W 0 _ rfl;simp only[go_sem] at h6
    clear W fg
    try simp only[*,go_sem,-h]
    have g:=iG h;clear h;rcases g with ⟨bj,h⟩|⟨bj,h⟩
    ·try simp only[Int.ofNat_lt] at bj
     refine bM hJ (by simp only[*,go_sem,-h]) ?_
     refine aK hJ fun h7=>?_
     refine ag hJ ?_
     have g:=fG h;clear h;obtain ⟨h8,h9,h⟩:=g
     obtain ⟨ib,fi⟩:=c5 h9
     simp only[*,go_sem,-h]
     intro fp f45;have ic:=eB f45;have fr:=fz f45
     have ih:=aM.cons fr h7
     try simp only[au] at fr
     try simp only[*,go_sem,-h]
     refine zS (r:=(rL rI)) (l:=H) (x:=a3) (cs:=#[.slice d32 a3.length ab]) (e2:=64) [(fp,.cells #[.slice d32 a3.length ab] 64)] [] (by first|rfl|simp only[List.append_nil,List.cons_append,List.nil_append,List.append_assoc]|(simp only[List.append_nil,List.cons_append,List.nil_append,List.append_assoc];rfl)) bc ih ib ⟨_,rfl,Y⟩ (by simp only[*,go_sem,-h]) ic rfl rfl kR kR qY q2 rfl qZ (by decide) (by decide) (fun lv fs bk ik il lx=>?_)
     simp only[List.append_nil,List.cons_append,List.nil_append,List.append_assoc] at il
     subst ik
     rw[<-fi] at bk;clear fi
     obtain ⟨d53,im,rfl,iv⟩:=bk.len
     refine ⟨⟨E,(fp,.cells #[.slice d32 a3.length ab] 64)::fs⟩,Le.refl _,?_⟩
     refine aD ?_
     try simp only[*,go_sem,-h]
     have g:=Option.some.inj h;clear h;subst g
     have h:=True.intro
     have et:=cq (n:=i23) (by have:=b2;omega)
     refine ag hJ ?_
     simp only[*,go_sem,-h]
     refine ⟨d.length - (i23+1),by omega,_,Le.sub (List.Sublist.cons _ (List.Sublist.refl _)),i23+1,d53,im,fs,h8,rfl,by omega,fa,rfl,bk,iv,?_⟩
     simp only[*,go_sem,-h]
    ·try simp only[Int.ofNat_lt] at bj
     refine bJ hJ (by simp only[*,go_sem,-h]) ?_
     refine aG hJ ?_
     have g:=Option.some.inj h;clear h;subst g
     have h:=True.intro
     have et:=cq (n:=i23) (by have:=b2;omega)
     refine ag hJ ?_
     simp only[*,go_sem,-h]
     refine ⟨d.length - (i23+1),by omega,_,Le.sub (List.Sublist.refl _),i23+1,d17,I,a2,H,rfl,by omega,fa,rfl,bc,hZ,?_⟩
     simp only[*,go_sem,-h]
   ·have ly:=Nat.not_lt.2 e3
    refine bJ hJ (by simp only[*,go_sem,-h]) ?_
    rw[List.drop_eq_nil_of_le e3] at G
    have g:=Option.some.inj G;clear G h;subst g
    have h:=hY
    dsimp only[aO] at h
    refine b7 ?_
    simp only[go_sem]
    repeat refine aa hJ ?_
    refine aK hJ fun lL=>?_
    refine ag hJ ?_
    simp only[*,go_sem,-h]
    have g:=Option.some.inj h;clear h;subst g
    refine aK hJ fun ft=>?_
    obtain ⟨fu,bm,l1,fv,ix⟩:=bc.g7 (([]:List (Nat×Obj))) [] [] (by first|rfl|simp only[List.append_nil,List.cons_append,List.nil_append,List.append_assoc]|(simp only[List.append_nil,List.cons_append,List.nil_append,List.append_assoc];rfl)) (by first|rfl|simp only[List.append_nil,List.cons_append,List.nil_append,List.append_assoc]|(simp only[List.append_nil,List.cons_append,List.nil_append,List.append_assoc];rfl)) ft (ay.nil _)
    clear ft
    refine cu (F:=⟨fu,([]:List (Nat×Obj))⟩) hJ ix ?_
    obtain ⟨l2,l3,l4⟩:=fv.op
    replace o:=o.mono bm;clear C;obtain ⟨_,_,C⟩:=o.op
    replace ad:=ad.mono bm;clear R;obtain ⟨_,_,R⟩:=ad.op
    refine aB ?_
    exact (lz (t:=6) rfl (by simp only[*,go_sem]) (by simp only[*,go_sem]) ⟨rfl,fu,hV.trans bm,Le.refl _,_,rfl,fv⟩).2
end Go.Proofs.YtjepffnffjdloaaGreatDoor
end
section
namespace Go.Proofs.YtjepffnffjdloaaGreatDoor
open Go Go.Sep Go.Proofs
set_option maxRecDepth 100000
set_option maxHeartbeats 4000000
def xZ (u0:aj)(b:Int):Option ((List Int)×Int):=
 ah (hH u0 ([(gL b),nB])) fun a=>cond ((a.2 != 0)) (some (([]:(List Int)),a.2)) (ah (r4 a.1.book ([([]:(List Int))])) fun c=>ah (tE a.1 b c) fun d=>ah (v8 d) fun e=>some (e,0))
theorem JJ {ro:Addr->Option Value}(L:cT ro)(u0:aj){s1 g i j:Value}(D:bG ro u0 s1 g i j)(a:Int){r:((List Int)×Int)}(h:xZ u0 a=some r):oZ Tryz.prog 47 #[bv u0 s1 g i j,.int .i64 a] ro (fun v aL=>∃W,v= .tuple #[W,.int .i64 r.2]/\aA rI aL W r.1):=by
 unfold xZ at h
 have ba:=D.oc;simp only[bx] at ba
 refine fA.go Tryz.func47 rfl Tryz.ntmps47 Tryz.results47 (by simp) fun Φ hJ A b5 hd hs=>?_
 have ca:=hs 0
 have k1:=hs 1
 clear hs
 refine aa hJ (ag hJ ?_)
 simp only[*,go_sem]
 refine av fun w c bb=>?_;try simp only[au] at bb
 try simp only[*,go_sem]
 refine aa hJ ?_
 refine aK hJ fun bc=>?_
 refine ag hJ ?_
 revert h;refine bS fun n bd h=>?_
 simp only[*,go_sem]
 refine av fun z X Y=>?_;have Z:=aM.cons Y bc;try simp only[au] at Y
 try simp only[*,go_sem]
 obtain ⟨B,M,ab⟩:=eV (b:=z) (o:=(.cells #[.func (.func 89) #[.int .i64 a] #[],.func (.func 90) #[] #[]] 102)) [] ((w,bk u0 s1 g i j)::[]) Z X (ay.cons c (ay.nil _))
 have ad:aA (cW) (bN ro z (.cells #[.func (.func 89) #[.int .i64 a] #[],.func (.func 90) #[] #[]] 102)) (.slice (some ⟨z,0,none⟩) 2 2) [(gL a),nB]:=(aA.two (r:=(cW)) (e:=102) (v:=.func (.func 89) #[.int .i64 a] #[]) (u:=.func (.func 90) #[] #[]) (x:=(gL a)) (y:=nB) (own:=[(z,.cells #[.func (.func 89) #[.int .i64 a] #[],.func (.func 90) #[] #[]] 102)]) X (by simp[lk]) rfl ⟨89,#[.int .i64 a],#[],rfl,⟨by simp only[go_sem],fun bj bl N _ _ _ _ _ O P Q R h=>by simp only[go_sem];exact vi a N ⟨O,P,Q,R⟩ h⟩⟩ ⟨90,#[],#[],rfl,⟨by simp only[go_sem],fun bj bl N _ _ _ _ _ O P Q R h=>by simp only[go_sem];exact FV N ⟨O,P,Q,R⟩ h⟩⟩)
 generalize bN ro z (.cells #[.func (.func 89) #[.int .i64 a] #[],.func (.func 90) #[] #[]] 102)=cb at ad M B ab
 refine fS hJ ab ?_
 replace D:=D.mono B
 replace c:=M.hd
 replace L:=L.mono B
 simp only[bn] at M
 have bm:=aM.tl Z
 refine b8 hJ _ (js L u0 D ([(gL a),nB]) ad bd) fun v ae al ao k=>?_
 obtain ⟨E,F,G,H,I,rfl,d,q⟩:=k
 have bo:=d.oc;simp only[bx] at bo
 have br:=q.oc;simp only[bx] at br
 replace c:=ao.hd
 simp only[bn] at ao
 refine aD ?_
 try simp only[*,go_sem]
 refine av fun J f ar=>?_;have cd:=aM.cons ar bm;try simp only[au] at ar
 try simp only[*,go_sem]
 refine aa hJ (aa hJ (ag hJ ?_))
 simp only[*,go_sem]
 revert h;refine jC hJ (by simp only[*,go_sem]) (fun bs h=>?_) fun bs h=>?_
 ·obtain rfl:=sI h
  refine aa hJ (ag hJ ?_)
  simp only[*,go_sem]
  refine aB ?_
  simp only[*,go_sem]
  exact ⟨_,(B).trans al,Le.sub (List.nil_sublist _),_,rfl,aA.nil _ _⟩
 refine aG hJ (aa hJ ?_)
 refine aK hJ fun bz=>?_
 refine dh hJ mixed 4 2 (by simp only[*,go_sem]) (by kernel_rfl) ?_
 revert h;refine bS fun b0 b1 h=>?_
 simp only[*,go_sem]
 refine av fun C a0 a2=>?_;have a3:=aM.cons a2 bz;try simp only[au] at a2
 try simp only[*,go_sem]
 obtain ⟨m,K,a4⟩:=eV (b:=C) (o:=(.cells #[.slice none 0 0] 64)) [] ((J,kn n.1 E F G H I)::(w,bk u0 s1 g i j)::[]) a3 a0 (ay.cons f (ay.cons c (ay.nil _)))
 have a5:aA (rL rI) (bN ae C (.cells #[.slice none 0 0] 64)) (.slice (some ⟨C,0,none⟩) 1 1) [([]:(List Int))]:=(aA.one (r:=(rL rI)) (e:=64) (cs:=#[.slice none 0 0]) (x:=([]:(List Int))) (own:=[(C,.cells #[.slice none 0 0] 64)]) a0 (by simp[lk]) ⟨_,rfl,aA.nil _ _⟩)
 generalize bN ae C (.cells #[.slice none 0 0] 64)=cf at a5 K m a4
 refine fS hJ a4 ?_
 replace d:=d.mono m
 replace q:=q.mono m
 replace f:=K.hd
 replace c:=K.tl.hd
 simp only[bn] at K
 have cl:=aM.tl a3
 refine b8 hJ _ (Ap n.1.book d ([([]:(List Int))]) a5 b1) fun v cy s S k=>?_
 obtain ⟨cS,rfl,a6⟩:=k
 replace d:=d.mono s
 replace q:=q.mono s
 replace f:=S.hd
 replace c:=S.tl.hd
 simp only[bn] at S
 obtain ⟨d92,c0,rfl,da,db,-⟩:=id a6
 have dd:=eN (l:=[(J,kn n.1 E F G H I),(w,bk u0 s1 g i j)]) (m.trans s) (ay.cons f (ay.cons c (ay.nil _)))
 refine ⟨by simp only[*,go_sem],?_⟩
 refine kM ?_
 revert h;refine bS fun b2 b3 h=>?_
 try simp only[*,go_sem]
 refine q9 _ (CA n.1 d.e d.p d.y d.t q a b0 a6 b3) fun v df T U k=>?_
 obtain ⟨dk,rfl,a7⟩:=k
 replace f:=U.hd
 replace c:=U.tl.hd
 simp only[bn] at U
 obtain ⟨d111,dp,rfl,dq,ds,-⟩:=id a7
 have dt:=eN (l:=[(J,kn n.1 E F G H I),(w,bk u0 s1 g i j)]) ((m.trans s).trans T) (ay.cons f (ay.cons c (ay.nil _)))
 refine ⟨by simp only[*,go_sem],?_⟩
 refine kM ?_
 revert h;refine bS fun du b4 h=>?_
 obtain rfl:=sI h
 try simp only[*,go_sem]
 refine b8 hJ _ (FX b2 a7 b4) fun v dv a8 V k=>?_
 obtain ⟨dC,rfl,a9⟩:=k
 replace f:=V.hd
 replace c:=V.tl.hd
 simp only[bn] at V
 obtain ⟨d124,dE,rfl,dT,ea,-⟩:=id a9
 have eb:=eN (l:=[(J,kn n.1 E F G H I),(w,bk u0 s1 g i j)]) (((m.trans s).trans T).trans a8) (ay.cons f (ay.cons c (ay.nil _)))
 refine ⟨by simp only[*,go_sem],?_⟩
 refine kM ?_
 try simp only[*,go_sem]
 refine aB ?_
 simp only[*,go_sem]
 exact ⟨_,(((((B).trans al).trans m).trans s).trans T).trans a8,Le.sub (List.nil_sublist _),_,rfl,a9⟩
def x2 (u0:aj)(c:Int)(a:(cR×Int))(st:(Bool×Int×(List (List Int))×Int)):Option (Fl (Bool×Int×(List (List Int))×Int) ((List Int)×Bool×Int)):=
 cond (decide (st.2.2.2<(IntKind.i64.wrap ((IntKind.i64.wrap (3 - (u0.props.length:Int)))+1)))) (ah (tE a.1 c st.2.2.1) fun b=>cond (decide (0<(b.length:Int))) (ah (bK b 0) fun d=>some (.rt (d,true,0))) (ah (r4 a.1.book st.2.2.1) fun e=>some (.nx (st.1,st.2.1,e,(IntKind.i64.wrap (st.2.2.2+1)))))) (some (.bk (st.1,st.2.1,st.2.2.1,st.2.2.2)))
def x3 (u0:aj)(b:Int):Option ((List Int)×Bool×Int):=
 ah (hH u0 ([(gL b)])) fun a=>cond ((a.2 != 0)) (some (([]:(List Int)),false,a.2)) (ah (bD (x2 u0 b a) fu (false,a.2,([([]:(List Int))]),0)) fun o=>aO o (fun c=>some (([]:(List Int)),false,0)) (fun _ _=>none) (fun r=>some r))
theorem JK {ro:Addr->Option Value}(J:cT ro)(u0:aj){s1 R k l:Value}(n:bG ro u0 s1 R k l)(a:Int){r:((List Int)×Bool×Int)}(h:x3 u0 a=some r):oZ Tryz.prog 48 #[bv u0 s1 R k l,.int .i64 a] ro (fun v aL=>∃S,v= .tuple #[S,.bool r.2.1,.int .i64 r.2.2]/\aA rI aL S r.1):=by
 obtain ⟨d10,K,rfl,ec,ed,-⟩:=id n.p
 unfold x3 at h
 have bl:=n.oc;simp only[bx] at bl
 refine fA.go Tryz.func48 rfl Tryz.ntmps48 Tryz.results48 (by simp) fun Φ hJ A bm hd hs=>?_
 have bo:=hs 0
 have k1:=hs 1
 clear hs
 refine aa hJ (ag hJ ?_)
 simp only[*,go_sem]
 refine av fun L C br=>?_;try simp only[au] at br
 try simp only[*,go_sem]
 refine aa hJ ?_
 refine aK hJ fun bs=>?_
 refine ag hJ ?_
 revert h;refine bS fun f bz h=>?_
 simp only[*,go_sem]
 refine av fun q T U=>?_;have V:=aM.cons U bs;try simp only[au] at U
 try simp only[*,go_sem]
 obtain ⟨g,M,W⟩:=eV (b:=q) (o:=(.cells #[.func (.func 89) #[.int .i64 a] #[]] 102)) [] ((L,bk u0 s1 (sl d10 u0.props K) k l)::[]) V T (ay.cons C (ay.nil _))
 have X:aA (cW) (bN ro q (.cells #[.func (.func 89) #[.int .i64 a] #[]] 102)) (.slice (some ⟨q,0,none⟩) 1 1) [(gL a)]:=(aA.one (r:=(cW)) (e:=102) (cs:=#[.func (.func 89) #[.int .i64 a] #[]]) (x:=(gL a)) (own:=[(q,.cells #[.func (.func 89) #[.int .i64 a] #[]] 102)]) T (by simp[lk]) ⟨89,#[.int .i64 a],#[],rfl,⟨by simp only[go_sem],fun eh et b0 _ _ _ _ _ b1 b2 b3 b4 h=>by simp only[go_sem];exact vi a b0 ⟨b1,b2,b3,b4⟩ h⟩⟩)
 generalize bN ro q (.cells #[.func (.func 89) #[.int .i64 a] #[]] 102)=ev at X M g W
 refine fS hJ W ?_
 replace n:=n.mono g
 replace C:=M.hd
 replace J:=J.mono g
 simp only[bn] at M
 have b5:=aM.tl V
 refine b8 hJ _ (js J u0 n ([(gL a)]) X bz) fun v Y N Z s=>?_
 obtain ⟨ab,ad,ae,al,ao,rfl,c,i⟩:=s
 have ca:=c.oc;simp only[bx] at ca
 have cb:=i.oc;simp only[bx] at cb
 replace C:=Z.hd
 simp only[bn] at Z
 refine aD ?_
 try simp only[*,go_sem]
 refine av fun ar cd a0=>?_;have eQ:=aM.cons a0 b5;try simp only[au] at a0
 try simp only[*,go_sem]
 refine aa hJ (aa hJ (ag hJ ?_))
 simp only[*,go_sem]
 revert h;refine jC hJ (by simp only[*,go_sem]) (fun cf h=>?_) fun cf h=>?_
 ·obtain rfl:=sI h
  refine aa hJ (ag hJ ?_)
  simp only[*,go_sem]
  refine aB ?_
  simp only[*,go_sem]
  exact ⟨_,(g).trans N,Le.sub (List.nil_sublist _),_,rfl,aA.nil _ _⟩
 refine aG hJ (aa hJ ?_)
 refine aK hJ fun cl=>?_
 refine ag hJ ?_
 simp only[*,go_sem]
 refine av fun j a2 a3=>?_;have eS:=aM.cons a3 cl;try simp only[au] at a3
 try simp only[*,go_sem]
 refine aa hJ (aa hJ (ag hJ ?_))
 simp only[*,go_sem]
 refine aK hJ fun a4=>?_
 obtain ⟨u,a5,a6⟩:=eV (b:=j) (o:=(.cells #[.slice none 0 0] 64)) [] ((ar,kn f.1 ab ad ae al ao)::(L,bk u0 s1 (sl d10 u0.props K) k l)::[]) a4 a2 (ay.cons cd (ay.cons C (ay.nil _)))
 clear a4
 have O:aA (rL rI) (bN Y j (.cells #[.slice none 0 0] 64)) (.slice (some ⟨j,0,none⟩) 1 1) [([]:(List Int))]:=(aA.one (r:=(rL rI)) (e:=64) (cs:=#[.slice none 0 0]) (x:=([]:(List Int))) (own:=[(j,.cells #[.slice none 0 0] 64)]) a2 (by simp[lk]) ⟨_,rfl,aA.nil _ _⟩)
 generalize bN Y j (.cells #[.slice none 0 0] 64)=a7 at u a5 a6 O
 refine cu hJ a6 ?_
 obtain ⟨e0,e1,-⟩:=O.op
 replace c:=c.mono u
 replace i:=i.mono u
 simp only[bn] at a5
 refine aY hJ ?_
 revert h;refine bS fun cy D a8=>?_
 refine cc hJ [4,5,6,8,9,27,28,29,30,31,32,33,34,35,36,37,38,39,40,41,42,43] (fun m a' F'=>∃(E:Addr->Option Value) (d98:Option Addr) (P:Nat) (F:Bool) (G:Int) (d:(List (List Int))) (H:Int),bD (x2 u0 a f) m (F,G,d,H)=some cy/\F'=⟨E,(ar,kn f.1 ab ad ae al ao)::(L,bk u0 s1 (sl d10 u0.props K) k l)::[]⟩/\Ext a7 E/\aA (rL rI) E (.slice d98 d.length P) d/\slot a' 5= .bool F/\slot a' 6= .int .i64 G/\slot a' 8= .slice d98 d.length P/\slot a' 27= .int .i64 H) fu ?_ ?_
 ·refine ⟨a7,(some ⟨j,0,none⟩),1,false,f.2,([([]:(List Int))]),0,D,rfl,Ext.refl _,O,?_⟩
  simp only[*,go_sem]
 rintro Q e2 F' a9 ⟨E,d98,P,F,G,d,H,D,rfl,w,z,e3,fa,fb,fg⟩
 refine e6 hJ fun _ cS=>?_
 replace c:=c.mono w
 replace i:=i.mono w
 simp only[bn] at cS
 obtain ⟨fi,fp,-⟩:=z.op
 obtain ⟨c0,da,db⟩:=a9.pick [1,7,26] (by decide)
 simp only[*,go_sem] at c0 da db
 clear a9 bm hd bo k1
 obtain _|Q:=Q
 ·exact absurd D (by simp only[bD,reduceCtorEq,not_false_eq_true])
 revert D;refine bS fun fr h B=>?_
 unfold x2 at h
 try dsimp only at h
 refine aa hJ (ag hJ ?_)
 simp only[*,go_sem]
 refine aa hJ ?_
 revert h;refine jC hJ (by simp only[*,go_sem]) (fun dd h=>?_) fun dd h=>?_
 ·refine aG hJ (aa hJ ?_)
  refine aY hJ (aa hJ ?_)
  refine aa hJ (ag hJ ?_)
  revert h;refine bS fun fs df h=>?_
  simp only[*,go_sem]
  refine q9 _ (CA f.1 c.e c.p c.y c.t i a d z df) fun v ft I dk s=>?_
  obtain ⟨fv,rfl,ba⟩:=s
  replace z:=z.mono I
  replace c:=c.mono I
  simp only[bn] at dk
  obtain ⟨d121,fw,rfl,fx,gg,-⟩:=id ba
  refine aD ?_
  try simp only[*,go_sem]
  refine aa hJ (ag hJ ?_)
  simp only[*,go_sem]
  revert h;refine jC hJ (by simp only[*,go_sem]) (fun dp h=>?_) fun dp h=>?_
  ·refine aa hJ (ag hJ ?_)
   revert h;refine bS fun gl dq h=>?_
   obtain rfl:=sI h
   obtain ⟨gn,gp,bb⟩:=cM dq
   obtain ⟨gB,gC,ds,dt,bc⟩:=ba.el _ _ bb
   obtain ⟨gM,rfl,bd⟩:=dt;obtain ⟨d130,gT,rfl,gV,g0,g1⟩:=id bd
   cases ds
   have du:=bc 0 _ rfl;simp only[go_sem] at du
   clear bc bb
   try simp only[*,go_sem]
   obtain rfl:=sI B;clear B
   have h:=a8
   dsimp only[aO] at h
   obtain rfl:=sI h
   refine aB ?_
   simp only[*,go_sem]
   exact ⟨_,((((g).trans N).trans u).trans w).trans I,Le.sub (List.nil_sublist _),_,rfl,bd⟩
  refine aG hJ (ag hJ ?_)
  revert h;refine bS fun dv dC h=>?_
  obtain rfl:=sI h
  simp only[*,go_sem]
  refine b8 hJ _ (Ap f.1.book c d z dC) fun v dE dT ea s=>?_
  obtain ⟨g2,rfl,bj⟩:=s
  simp only[bn] at ea
  obtain ⟨d144,eb,rfl,g3,g4,-⟩:=id bj
  refine aD ?_
  try simp only[*,go_sem]
  refine ag hJ ?_
  simp only[*,go_sem]
  refine ⟨Q,Nat.lt_succ_self _,_,Le.sub (List.Sublist.refl _),dE,d144,eb,F,G,dv,(IntKind.i64.wrap (H+1)),B,rfl,(w.trans (I.trans dT)),bj,?_⟩
  simp only[*,go_sem]
 obtain rfl:=sI h
 refine b7 ?_
 simp only[go_sem]
 obtain rfl:=sI B;clear B
 have h:=a8
 dsimp only[aO] at h
 obtain rfl:=sI h
 refine aa hJ (ag hJ ?_)
 simp only[*,go_sem]
 refine aB ?_
 simp only[*,go_sem]
 exact ⟨_,(((g).trans N).trans u).trans w,Le.sub (List.nil_sublist _),_,rfl,aA.nil _ _⟩
def x4 (a:(Int×Int×Int))(e:(aj×Int))(b:((List Int)×Int))(f:(aj×Int))(g:(aj×Int))(c:(Int×Int))(d:((List Int)×Int)):Option Bool:=
 cond ((a.2.2==0)) (cond ((e.2==0)) (cond ((b.2==0)) (cond ((f.2==9)) (cond ((g.2==0)) (cond ((c.2==0)) (cond ((d.2==0)) (cond ((a.1==0)) (cond ((a.2.1==2)) (ah (me b.1 ([11,12])) fun h=>cond (h) (cond ((c.1==2)) (ah (me d.1 ([1])) fun i=>some i) (some false)) (some false)) (some false)) (some false)) (some false)) (some false)) (some false)) (some false)) (some false)) (some false)) (some false)
def x5 (a:aj):Option Bool:=
 ah (vZ a) fun d=>ah (mw 0 true) fun e=>ah (se a e) fun b=>ah (sn b.1 0) fun f=>ah (mw 1 true) fun g=>ah (se a g) fun h=>ah (k5 12 12) fun i=>ah (v5 a 0 i) fun c=>ah (pR c.1) fun j=>ah (mw 0 true) fun k=>ah (pU a k) fun l=>ah (mw 1 true) fun m=>ah (pU l m) fun n=>ah (mw 0 false) fun o=>ah (pU n o) fun p=>ah (wo p) fun q=>x4 d b f h c j q
def x6 (d:aj)(f:(Int×Int))(g:(Int×Int))(h:(Int×Int))(i:(Int×Int))(b:(Int×ak×Int))(c:(Int×ak×Int))(a:(ak×ak×Bool×Int)):Option Bool:=
 ah (xZ d 2) fun j=>ah (x3 d 2) fun e=>cond ((f.2 != 0)) (some false) (cond ((g.2 != 0)) (some false) (cond ((h.2 != 0)) (some false) (cond ((i.2 != 0)) (some false) (cond ((b.2.2 != 0)) (some false) (cond ((c.2.2 != 0)) (some false) (cond ((a.2.2.2 != 0)) (some false) (cond ((j.2 != 0)) (some false) (cond ((e.2.2 != 0)) (some false) (cond ((f.1 != 0)) (some false) (cond ((g.1 != 2)) (some false) (cond ((h.1 != 0)) (some false) (cond ((i.1 != 1)) (some false) (cond ((b.1 != 0)) (some false) (ah (fD 1 1) fun k=>cond (!((b.2.1.num==k.num)&&(b.2.1.den==k.den))) (some false) (cond ((c.1 != (-1))) (some false) (ah (fD 0 1) fun l=>cond (!((c.2.1.num==l.num)&&(c.2.1.den==l.den))) (some false) (cond (!a.2.2.1) (some false) (ah (fD 3 2) fun m=>cond (!((a.1.num==m.num)&&(a.1.den==m.den))) (some false) (ah (fD 3 2) fun n=>cond (!((a.2.1.num==n.num)&&(a.2.1.den==n.den))) (some false) (ah (me j.1 ([11,12,13,14])) fun o=>cond (!o) (some false) (cond (!e.2.1) (some false) (ah (me e.1 ([11])) fun p=>cond (!p) (some false) (x5 d)))))))))))))))))))))))
def x7 (a:aj)(b:aj):Option Bool:=
 ah (r9 a 0) fun c=>ah (r9 a 1) fun d=>ah (pR a) fun e=>ah (pR b) fun f=>ah (so a) fun g=>ah (so b) fun h=>ah (wu a) fun i=>x6 a c d e f g h i
def x8 (b:aj)(s:aj)(g:(ak×Int))(c:(Int×ak×Int))(h:(ak×Int))(d:(ak×Bool×Int))(e:(ak×Bool×Int))(f:(ak×Bool×Int)):Option Bool:=
 ah (mh b) fun i=>ah (sn b 0) fun j=>ah (wC b 0) fun a=>cond ((g.2 != 0)) (some false) (cond ((c.2.2 != 0)) (some false) (cond ((h.2 != 0)) (some false) (cond ((d.2.2 != 0)) (some false) (cond ((e.2.2 != 0)) (some false) (cond ((f.2.2 != 0)) (some false) (cond ((i.2 != 0)) (some false) (cond ((j.2 != 0)) (some false) (cond ((a.2.2 != 0)) (some false) (ah (fD 13 4) fun k=>cond (!((g.1.num==k.num)&&(g.1.den==k.den))) (some false) (cond ((c.1 != 2)) (some false) (ah (fD 11 8) fun l=>cond (!((c.2.1.num==l.num)&&(c.2.1.den==l.den))) (some false) (ah (fD 1 4) fun m=>cond (!((h.1.num==m.num)&&(h.1.den==m.den))) (some false) (ah (fD 24 13) fun n=>cond (!((d.1.num==n.num)&&(d.1.den==n.den))) (some false) (cond (!d.2.1) (some false) (ah (fD 2 13) fun o=>cond (!((e.1.num==o.num)&&(e.1.den==o.den))) (some false) (cond (e.2.1) (some false) (ah (fD 1 1) fun p=>cond (!((f.1.num==p.num)&&(f.1.den==p.den))) (some false) (cond (!f.2.1) (some false) (cond ((i.1 != 3)) (some false) (ah (me j.1 ([10,11,12])) fun t=>cond (!t) (some false) (ah (fD 1 4) fun q=>cond (!((a.1.num==q.num)&&(a.1.den==q.den))) (some false) (ah (fD 1 1) fun r=>cond (!((a.2.1.num==r.num)&&(a.2.1.den==r.den))) (some false) (x7 b s)))))))))))))))))))))))
def gD :Option Bool:=
 ah (wI) fun a=>ah (jv a ([11]) 2) fun b=>ah (vB a 5) fun c=>ah (hO 2 11) fun d=>ah (j8 a d) fun e=>ah (hO 2 10) fun f=>ah (iM a f) fun g=>ah (hO 2 12) fun h=>ah (gN b h) fun i=>ah (hO 2 12) fun j=>ah (fV b j) fun k=>ah (hO 2 12) fun l=>ah (fV a l) fun m=>x8 a b c e g i k m
theorem mO:gD=some true:=by decide+kernel
set_option maxHeartbeats 40000000 in
theorem CB {Φ:Goroutine->af->Prop}(hJ:Closed Tryz.prog true (dm Tryz.prog Φ)){A:Act}{ro:Addr->Option Value}(a:(Int×Int×Int))(f:(aj×Int))(b:((List Int)×Int))(g:(aj×Int))(i:(aj×Int))(d:(Int×Int))(c:((List Int)×Int))(Q:cT ro){j:Value}(k:aA rI ro j b.1){l:Value}(m:aA rI ro l c.1)(q:sz A=439/\A.defers=[]/\slot A 0= .bool false/\slot A 4= .int .i64 a.2.2/\slot A 7= .int .i64 f.2/\slot A 9= .int .i64 b.2/\slot A 12= .int .i64 g.2/\slot A 15= .int .i64 i.2/\slot A 18= .int .i64 d.2/\slot A 20= .int .i64 c.2/\slot A 21=j/\slot A 28= .int .i64 d.1/\slot A 40= .int .i64 a.1/\slot A 41= .int .i64 a.2.1/\slot A 43=l)(h:x4 a f b g i d c=some true):Wp (dm Tryz.prog Φ) (bh (bh (bh (bh (bh (bh (bh (bh (bh (bh (bh (bh (bh (bh (bh (bh (bh (bh (bh (bh (bh (bh (bh (bh (bh (bh (bh (bh (bh (bh (bh (bh (Tryz.f10.body.getD .skip))))))))))))))))))))))))))))))))) (gk Tryz.prog [.tmp 0] (fun v _=>v= .bool true)) A ⟨ro,[]⟩:=by
 obtain ⟨R,hd,S,T,U,V,W,X,Y,Z,ab,ad,ae,al,ao⟩:=q
 obtain ⟨ar,a0,rfl,a2,a3,-⟩:=id k
 obtain ⟨a4,a5,rfl,a6,a7,-⟩:=id m
 unfold x4 at h
 refine e6 hJ fun s t=>?_
 have u:=s.nd
 try simp only[keys,List.map_cons,List.map_nil,List.map_append,List.cons_append,List.nil_append,List.nodup_cons,List.mem_cons,List.mem_append,List.not_mem_nil,or_false,not_or] at u
 simp only[bn] at t
 refine aa hJ ?_
 refine aK hJ fun w=>?_
 refine ej hJ fun K n=>?_
 revert h;refine cS (fun y h=>?_) fun y h=>?_
 ·revert h;refine cS (fun z h=>?_) fun z h=>?_
  ·revert h;refine cS (fun B h=>?_) fun B h=>?_
   ·revert h;refine cS (fun C h=>?_) fun C h=>?_
    ·revert h;refine cS (fun D h=>?_) fun D h=>?_
     ·revert h;refine cS (fun E h=>?_) fun E h=>?_
      ·revert h;refine cS (fun F h=>?_) fun F h=>?_
       ·revert h;refine cS (fun G h=>?_) fun G h=>?_
        ·revert h;refine cS (fun H h=>?_) fun H h=>?_
         ·revert h;refine bS fun a8 I h=>?_
          try simp (maxSteps:=10000000) only[*,go_sem]
          refine av fun a9 J o=>?_;have L:=aM.cons o w;try simp only[au] at o
          try simp (maxSteps:=10000000) only[*,go_sem]
          refine aR hJ _ (pN b.1 (k.mono aJ) ([11,12]) ((aA.flat (r:=rI) (e:=3) (cs:=#[.int .i64 11,.int .i64 12]) (fun x=>[.int .i64 x]) ([11,12]) (fun _=>rfl) J rfl (by simp)).mono (jT (by simp (maxSteps:=10000000) only[*,go_sem]))) I) (aD ?_)
          revert h;refine cS (fun M h=>?_) fun M h=>?_
          ·revert h;refine cS (fun N h=>?_) fun N h=>?_
           ·revert h;refine bS fun ba O h=>?_
            obtain rfl:=sI h
            try simp (maxSteps:=10000000) only[*,go_sem]
            refine av fun bb P p=>?_;have bc:=aM.cons p L;try simp only[au] at p
            try simp (maxSteps:=10000000) only[*,go_sem]
            refine aR hJ _ (pN c.1 (m.mono aJ) ([1]) ((aA.flat (r:=rI) (e:=3) (cs:=#[.int .i64 1]) (fun x=>[.int .i64 x]) ([1]) (fun _=>rfl) P rfl (by simp)).mono (jT (by simp (maxSteps:=10000000) only[*,go_sem]))) O) (aD ?_)
            try simp (maxSteps:=10000000) only[*,go_sem]
            refine n.go ?_;clear n K
            refine aB ?_
            try simp only[*,go_sem]
           cases h
          cases h
         cases h
        cases h
       cases h
      cases h
     cases h
    cases h
   cases h
  cases h
 cases h
set_option maxHeartbeats 40000000 in
theorem JL {Φ:Goroutine->af->Prop}(hJ:Closed Tryz.prog true (dm Tryz.prog Φ)){A:Act}{ro:Addr->Option Value}(d:aj)(eQ:((List Int)×Int))(eS:(Int×Int))(e0:(Int×Int))(b0:(Int×Int))(e1:(Int×Int))(e2:(Int×ak×Int))(e3:(Int×ak×Int))(fa:(ak×ak×Bool×Int)){i:Nat}(a:cT ro){b1:Value}(fb:aA rI ro b1 eQ.1){j k m n:Value}(c:bG ro d j k m n)(fg:sz A=439/\A.defers=[]/\slot A 0= .bool false/\slot A 1= .pointer (some ⟨i,0,none⟩)/\slot A 4= .int .i64 eS.2/\slot A 7= .int .i64 e0.2/\slot A 9= .int .i64 b0.2/\slot A 12= .int .i64 e1.2/\slot A 15= .int .i64 e2.2.2/\slot A 18= .int .i64 e3.2.2/\slot A 20= .int .i64 fa.2.2.2/\slot A 21=b1/\slot A 28= .int .i64 b0.1)(h:x5 d=some true):Wp (dm Tryz.prog Φ) (bh (bh (bh (bh (bh (bh (bh (bh (bh (bh (bh (bh (bh (bh (bh (bh (bh (bh (bh (bh (bh (bh (bh (bh (bh (Tryz.f10.body.getD .skip)))))))))))))))))))))))))) (gk Tryz.prog [.tmp 0] (fun v _=>v= .bool true)) A ⟨ro,(i,bk d j k m n)::[]⟩:=by
 obtain ⟨b2,hd,b3,k1,b4,b5,ca,cb,cd,cf,cl,cy,cS⟩:=fg
 obtain ⟨d125,j1,rfl,j2,kh,-⟩:=id fb
 unfold x5 at h
 have fi:=c.oc;simp only[bx] at fi
 refine e6 hJ fun a2 c0=>?_
 have fp:=a2.nd
 try simp only[keys,List.map_cons,List.map_nil,List.map_append,List.cons_append,List.nil_append,List.nodup_cons,List.mem_cons,List.mem_append,List.not_mem_nil,or_false,not_or] at fp
 replace g:=c0.hd
 simp only[bn] at c0
 refine aa hJ (ej hJ fun K b=>?_)
 revert h;refine bS fun da fr h=>?_
 try simp (maxSteps:=10000000) only[*,go_sem]
 refine aR hJ _ (FU (a.mono aJ) d (c.mono aJ) fr) (aD ?_)
 try simp (maxSteps:=10000000) only[*,go_sem]
 refine b.go ?_;clear b K
 refine aa hJ ?_
 refine jZ hJ mixed [] (.rd 0 (.rd 1 (.two 2 (.pure 3 (.pure 4 (.pure 5 (.one 6 (.one 7 (.pure 8 .done)))))) 6 (.one 2 (.pure 3 (.pure 4 (.pure 5 (.one 7 (.pure 8 .done))))))))) ⟨ro,[(i,bk d j k m n)]⟩ (by simp (maxSteps:=10000000) only[*,go_sem]) (by kernel_rfl) fun K b=>?_
 revert h;refine bS fun db fs h=>?_
 try simp (maxSteps:=10000000) only[*,go_sem]
 refine ⟨_,bA hJ fun F u=>ki 0 true fs,bQ ?_⟩
 try simp (maxSteps:=10000000) only[*,go_sem]
 refine jY ?_ ?_
 ·revert h;refine bS fun Z ft h=>?_
  try simp (maxSteps:=10000000) only[*,go_sem]
  refine b8 hJ _ (si a d c db ft) fun v kj a3 dd f=>?_
  obtain ⟨df,dk,dp,dq,rfl,ds⟩:=f
  have fu:=ds.oc;simp only[bx] at fu
  replace c:=c.mono a3
  replace g:=dd.hd
  replace a:=a.mono a3
  simp only[bn] at dd
  have kk:=eN (l:=[(i,bk d j k m n)]) a3 (ay.cons g (ay.nil _))
  refine ⟨by simp (maxSteps:=10000000) only[*,go_sem],?_⟩
  refine bQ ?_
  try simp (maxSteps:=10000000) only[*,go_sem]
  refine av fun w s dt=>?_;have kl:=aM.cons dt a2;try simp only[au] at dt
  try simp (maxSteps:=10000000) only[*,go_sem]
  refine b.go ?_;clear b K
  refine aa hJ (ej hJ fun K b=>?_)
  revert h;refine bS fun fv fw h=>?_
  try simp (maxSteps:=10000000) only[*,go_sem]
  refine b8 hJ _ (wv a Z.1 ds 0 fw) fun v fx du a4 f=>?_
  obtain ⟨km,rfl,o⟩:=f
  have gg:=o.oc;simp only[bx] at gg
  replace c:=c.mono du
  replace s:=a4.hd
  replace g:=a4.tl.hd
  replace a:=a.mono du
  simp only[bn] at a4
  refine aD ?_
  try simp (maxSteps:=10000000) only[*,go_sem]
  refine b.go ?_;clear b K
  refine aa hJ ?_
  refine jZ hJ mixed [] (.rd 0 (.rd 1 (.one 2 (.pure 3 (.pure 4 (.pure 5 (.pure 6 .done))))))) ⟨fx,[(w,bk Z.1 df dk dp dq),(i,bk d j k m n)]⟩ (by simp (maxSteps:=10000000) only[*,go_sem]) (by kernel_rfl) fun K b=>?_
  revert h;refine bS fun gl gn h=>?_
  try simp (maxSteps:=10000000) only[*,go_sem]
  refine ⟨_,bA hJ fun F u=>ki 1 true gn,bQ ?_⟩
  revert h;refine bS fun gp gB h=>?_
  try simp (maxSteps:=10000000) only[*,go_sem]
  refine b8 hJ _ (si a d c gl gB) fun v gC ab a5 f=>?_
  obtain ⟨kn,kp,ks,kt,rfl,N⟩:=f
  have gM:=N.oc;simp only[bx] at gM
  replace o:=o.mono ab
  replace c:=c.mono ab
  replace s:=a5.hd
  replace g:=a5.tl.hd
  replace a:=a.mono ab
  simp only[bn] at a5
  obtain ⟨kv,kx,rfl,ky,k0,-⟩:=id N.e
  obtain ⟨k2,lb,rfl,lh,lj,-⟩:=id N.p
  obtain ⟨lk,ll,rfl,ln,lo,-⟩:=id N.y
  obtain ⟨lr,lv,rfl,lx,ly,-⟩:=id N.t
  have lL:=eN (l:=[(w,bk Z.1 df dk dp dq),(i,bk d j k m n)]) ab (ay.cons s (ay.cons g (ay.nil _)))
  refine ⟨by simp (maxSteps:=10000000) only[*,go_sem],?_⟩
  refine bQ ?_
  try simp (maxSteps:=10000000) only[*,go_sem]
  refine b.go ?_;clear b K
  refine aa hJ ?_
  refine ew [0,1,4,7,9,12,15,18,20,21,28,40,41,42] fun l1 gT gV g0=>?_
  simp only[*,go_sem] at gT gV g0
  clear b2 hd b3 k1 b4 b5 ca cb cd cf cl cy cS
  refine jZ hJ mixed [] (.rd 0 (.rd 1 (.one 2 (.pure 3 (.pure 4 (.pure 5 (.one 6 (.pure 7 .done)))))))) ⟨gC,[(i,bk d j k m n)]⟩ (by simp (maxSteps:=10000000) only[*,go_sem]) (by kernel_rfl) fun K b=>?_
  revert h;refine bS fun g1 g2 h=>?_
  try simp (maxSteps:=10000000) only[*,go_sem]
  refine ⟨_,bA hJ fun F u=>pS 12 12 g2,bQ ?_⟩
  revert h;refine bS fun x g3 h=>?_
  try simp (maxSteps:=10000000) only[*,go_sem]
  refine b8 hJ _ (As a d c 0 g1 g3) fun v g4 ad a6 f=>?_
  obtain ⟨O,P,Q,R,rfl,dv⟩:=f
  have ha:=dv.oc;simp only[bx] at ha
  replace o:=o.mono ad
  replace c:=c.mono ad
  replace s:=a6.hd
  replace g:=a6.tl.hd
  replace a:=a.mono ad
  simp only[bn] at a6
  have l2:=eN (l:=[(i,bk d j k m n)]) ad (ay.cons g (ay.nil _))
  refine ⟨by simp (maxSteps:=10000000) only[*,go_sem],?_⟩
  refine bQ ?_
  try simp (maxSteps:=10000000) only[*,go_sem]
  refine b.go ?_;clear b K
  refine aa hJ (ej hJ fun K b=>?_)
  revert h;refine bS fun hc hf h=>?_
  try simp (maxSteps:=10000000) only[*,go_sem]
  refine aR hJ _ (sd (a.mono aJ) x.1 (dv.mono aJ) hf) (aD ?_)
  try simp (maxSteps:=10000000) only[*,go_sem]
  refine b.go ?_;clear b K
  refine aa hJ ?_
  refine jZ hJ mixed [] (.rd 0 (.rd 1 (.one 2 (.rd 3 (.one 4 (.rd 5 (.one 6 (.one 7 (.pure 8 (.pure 9 (.pure 10 (.pure 11 (.pure 12 .done))))))))))))) ⟨g4,[(w,bk x.1 O P Q R),(i,bk d j k m n)]⟩ (by simp (maxSteps:=10000000) only[*,go_sem]) (by kernel_rfl) fun K b=>?_
  revert h;refine bS fun hg hh h=>?_
  try simp (maxSteps:=10000000) only[*,go_sem]
  refine ⟨_,bA hJ fun F u=>ki 0 true hh,bQ ?_⟩
  revert h;refine bS fun hi hj h=>?_
  try simp (maxSteps:=10000000) only[*,go_sem]
  refine b8 hJ _ (nJ d c hg hj) fun v l3 z a7 f=>?_
  obtain ⟨l4,ma,mf,mi,rfl,D⟩:=f
  have hk:=D.oc;simp only[bx] at hk
  replace o:=o.mono z
  replace c:=c.mono z
  replace s:=a7.hd
  replace g:=a7.tl.hd
  replace a:=a.mono z
  simp only[bn] at a7
  obtain ⟨ml,mn,rfl,mr,mx,-⟩:=id D.e
  obtain ⟨my,m1,rfl,m2,na,-⟩:=id D.p
  obtain ⟨nb,nf,rfl,nm,nn,-⟩:=id D.y
  obtain ⟨np,ns,rfl,nx,nz,-⟩:=id D.t
  have nA:=eN (l:=[(w,bk x.1 O P Q R),(i,bk d j k m n)]) z (ay.cons s (ay.cons g (ay.nil _)))
  refine ⟨by simp (maxSteps:=10000000) only[*,go_sem],?_⟩
  refine bQ ?_
  revert h;refine bS fun hl hn h=>?_
  try simp (maxSteps:=10000000) only[*,go_sem]
  refine ⟨_,bA hJ fun F u=>ki 1 true hn,bQ ?_⟩
  revert h;refine bS fun ho hp h=>?_
  try simp (maxSteps:=10000000) only[*,go_sem]
  refine b8 hJ _ (nJ hi D hl hp) fun v nH E a8 f=>?_
  obtain ⟨nI,nK,nQ,nR,rfl,G⟩:=f
  have hq:=G.oc;simp only[bx] at hq
  replace o:=o.mono E
  replace c:=c.mono E
  replace s:=a8.hd
  replace g:=a8.tl.hd
  replace a:=a.mono E
  simp only[bn] at a8
  obtain ⟨nT,nV,rfl,nX,nY,-⟩:=id G.e
  obtain ⟨n0,n1,rfl,n2,n3,-⟩:=id G.p
  obtain ⟨oi,oj,rfl,ox,oy,-⟩:=id G.y
  obtain ⟨o0,o1,rfl,o2,o4,-⟩:=id G.t
  have pa:=eN (l:=[(w,bk x.1 O P Q R),(i,bk d j k m n)]) (z.trans E) (ay.cons s (ay.cons g (ay.nil _)))
  refine ⟨by simp (maxSteps:=10000000) only[*,go_sem],?_⟩
  refine bQ ?_
  revert h;refine bS fun hr hs h=>?_
  try simp (maxSteps:=10000000) only[*,go_sem]
  refine ⟨_,bA hJ fun F u=>ki 0 false hs,bQ ?_⟩
  revert h;refine bS fun ht hv h=>?_
  try simp (maxSteps:=10000000) only[*,go_sem]
  refine b8 hJ _ (nJ ho G hr hv) fun v pb S a9 f=>?_
  obtain ⟨pd,pf,ph,pj,rfl,H⟩:=f
  have hx:=H.oc;simp only[bx] at hx
  replace o:=o.mono S
  replace c:=c.mono S
  replace s:=a9.hd
  replace g:=a9.tl.hd
  replace a:=a.mono S
  simp only[bn] at a9
  obtain ⟨pk,po,rfl,pr,ps,-⟩:=id H.e
  obtain ⟨pt,pv,rfl,pw,px,-⟩:=id H.p
  obtain ⟨py,pA,rfl,pB,pC,-⟩:=id H.y
  obtain ⟨pD,pT,rfl,p0,p1,-⟩:=id H.t
  have q0:=eN (l:=[(w,bk x.1 O P Q R),(i,bk d j k m n)]) ((z.trans E).trans S) (ay.cons s (ay.cons g (ay.nil _)))
  refine ⟨by simp (maxSteps:=10000000) only[*,go_sem],?_⟩
  refine bQ ?_
  revert h;refine bS fun hy hz h=>?_
  try simp (maxSteps:=10000000) only[*,go_sem]
  refine b8 hJ _ (Aw a ht H hz) fun v q1 ae ba f=>?_
  obtain ⟨ra,rfl,dC⟩:=f
  replace o:=o.mono ae
  replace c:=c.mono ae
  replace s:=ba.hd
  replace g:=ba.tl.hd
  replace a:=a.mono ae
  simp only[bn] at ba
  obtain ⟨rb,re,rfl,rh,rk,-⟩:=id dC
  have rl:=eN (l:=[(w,bk x.1 O P Q R),(i,bk d j k m n)]) (((z.trans E).trans S).trans ae) (ay.cons s (ay.cons g (ay.nil _)))
  refine ⟨by simp (maxSteps:=10000000) only[*,go_sem],?_⟩
  refine bQ ?_
  try simp (maxSteps:=10000000) only[*,go_sem]
  refine b.go ?_;clear b K
  show Wp _ _ _ _ _
  exact cu hJ (Le.sub (.cons _ (.cons _ (List.Sublist.refl _)))) (CB hJ da Z fv gp x hc hy a o dC (by simp (maxSteps:=10000000) only[*,go_sem]) h)
 revert h;refine bS fun al hA h=>?_
 try simp (maxSteps:=10000000) only[*,go_sem]
 refine av fun B r dE=>?_;have rn:=aM.cons dE a2;try simp only[au] at dE
 try simp (maxSteps:=10000000) only[*,go_sem]
 refine b8 hJ _ (si a d c db hA) fun v rp bb bc f=>?_
 obtain ⟨dT,ea,eb,ec,rfl,ed⟩:=f
 have hB:=ed.oc;simp only[bx] at hB
 replace c:=c.mono bb
 replace r:=bc.hd
 replace g:=bc.tl.hd
 replace a:=a.mono bb
 simp only[bn] at bc
 have rr:=eN (l:=[(i,bk d j k m n)]) bb (ay.cons g (ay.nil _))
 refine ⟨by simp (maxSteps:=10000000) only[*,go_sem],?_⟩
 refine bQ ?_
 try simp (maxSteps:=10000000) only[*,go_sem]
 refine b.go ?_;clear b K
 refine aa hJ (ej hJ fun K b=>?_)
 revert h;refine bS fun hD hE h=>?_
 try simp (maxSteps:=10000000) only[*,go_sem]
 refine b8 hJ _ (wv a al.1 ed 0 hE) fun v hF eh bd f=>?_
 obtain ⟨rv,rfl,q⟩:=f
 have hG:=q.oc;simp only[bx] at hG
 replace c:=c.mono eh
 replace r:=bd.hd
 replace g:=bd.tl.hd
 replace a:=a.mono eh
 simp only[bn] at bd
 refine aD ?_
 try simp (maxSteps:=10000000) only[*,go_sem]
 refine b.go ?_;clear b K
 refine aa hJ ?_
 refine jZ hJ mixed [] (.rd 0 (.rd 1 (.one 2 (.pure 3 (.pure 4 (.pure 5 (.pure 6 .done))))))) ⟨hF,[(B,bk al.1 dT ea eb ec),(i,bk d j k m n)]⟩ (by simp (maxSteps:=10000000) only[*,go_sem]) (by kernel_rfl) fun K b=>?_
 revert h;refine bS fun hI hK h=>?_
 try simp (maxSteps:=10000000) only[*,go_sem]
 refine ⟨_,bA hJ fun F u=>ki 1 true hK,bQ ?_⟩
 revert h;refine bS fun hL hM h=>?_
 try simp (maxSteps:=10000000) only[*,go_sem]
 refine b8 hJ _ (si a d c hI hM) fun v hN ao bj f=>?_
 obtain ⟨rB,rL,sa,sb,rfl,T⟩:=f
 have hP:=T.oc;simp only[bx] at hP
 replace q:=q.mono ao
 replace c:=c.mono ao
 replace r:=bj.hd
 replace g:=bj.tl.hd
 replace a:=a.mono ao
 simp only[bn] at bj
 obtain ⟨sc,sf,rfl,sg,sh,-⟩:=id T.e
 obtain ⟨sl,sm,rfl,ss,sy,-⟩:=id T.p
 obtain ⟨sI,sT,rfl,tb,te,-⟩:=id T.y
 obtain ⟨ti,tk,rfl,tm,tp,-⟩:=id T.t
 have ts:=eN (l:=[(B,bk al.1 dT ea eb ec),(i,bk d j k m n)]) ao (ay.cons r (ay.cons g (ay.nil _)))
 refine ⟨by simp (maxSteps:=10000000) only[*,go_sem],?_⟩
 refine bQ ?_
 try simp (maxSteps:=10000000) only[*,go_sem]
 refine b.go ?_;clear b K
 refine aa hJ ?_
 refine ew [0,1,4,7,9,12,15,18,20,21,28,40,41,42] fun tt hQ hR hS=>?_
 simp only[*,go_sem] at hQ hR hS
 clear b2 hd b3 k1 b4 b5 ca cb cd cf cl cy cS
 refine jZ hJ mixed [] (.rd 0 (.rd 1 (.one 2 (.pure 3 (.pure 4 (.pure 5 (.one 6 (.pure 7 .done)))))))) ⟨hN,[(i,bk d j k m n)]⟩ (by simp (maxSteps:=10000000) only[*,go_sem]) (by kernel_rfl) fun K b=>?_
 revert h;refine bS fun hT hV h=>?_
 try simp (maxSteps:=10000000) only[*,go_sem]
 refine ⟨_,bA hJ fun F u=>pS 12 12 hV,bQ ?_⟩
 revert h;refine bS fun C hX h=>?_
 try simp (maxSteps:=10000000) only[*,go_sem]
 refine b8 hJ _ (As a d c 0 hT hX) fun v hY ar bl f=>?_
 obtain ⟨U,V,W,X,rfl,et⟩:=f
 have hZ:=et.oc;simp only[bx] at hZ
 replace q:=q.mono ar
 replace c:=c.mono ar
 replace r:=bl.hd
 replace g:=bl.tl.hd
 replace a:=a.mono ar
 simp only[bn] at bl
 have tx:=eN (l:=[(i,bk d j k m n)]) ar (ay.cons g (ay.nil _))
 refine ⟨by simp (maxSteps:=10000000) only[*,go_sem],?_⟩
 refine bQ ?_
 try simp (maxSteps:=10000000) only[*,go_sem]
 refine b.go ?_;clear b K
 refine aa hJ (ej hJ fun K b=>?_)
 revert h;refine bS fun h0 h1 h=>?_
 try simp (maxSteps:=10000000) only[*,go_sem]
 refine aR hJ _ (sd (a.mono aJ) C.1 (et.mono aJ) h1) (aD ?_)
 try simp (maxSteps:=10000000) only[*,go_sem]
 refine b.go ?_;clear b K
 refine aa hJ ?_
 refine jZ hJ mixed [] (.rd 0 (.rd 1 (.one 2 (.rd 3 (.one 4 (.rd 5 (.one 6 (.one 7 (.pure 8 (.pure 9 (.pure 10 (.pure 11 (.pure 12 .done))))))))))))) ⟨hY,[(B,bk C.1 U V W X),(i,bk d j k m n)]⟩ (by simp (maxSteps:=10000000) only[*,go_sem]) (by kernel_rfl) fun K b=>?_
 revert h;refine bS fun h2 h3 h=>?_
 try simp (maxSteps:=10000000) only[*,go_sem]
 refine ⟨_,bA hJ fun F u=>ki 0 true h3,bQ ?_⟩
 revert h;refine bS fun h4 h5 h=>?_
 try simp (maxSteps:=10000000) only[*,go_sem]
 refine b8 hJ _ (nJ d c h2 h5) fun v tz I bm f=>?_
 obtain ⟨tI,tM,tW,ub,rfl,J⟩:=f
 have h6:=J.oc;simp only[bx] at h6
 replace q:=q.mono I
 replace r:=bm.hd
 replace g:=bm.tl.hd
 replace a:=a.mono I
 simp only[bn] at bm
 obtain ⟨ui,u1,rfl,u2,u3,-⟩:=id J.e
 obtain ⟨u4,va,rfl,vd,vs,-⟩:=id J.p
 obtain ⟨vx,vy,rfl,v3,wa,-⟩:=id J.y
 obtain ⟨wb,wc,rfl,wi,wx,-⟩:=id J.t
 have wy:=eN (l:=[(B,bk C.1 U V W X),(i,bk d j k m n)]) I (ay.cons r (ay.cons g (ay.nil _)))
 refine ⟨by simp (maxSteps:=10000000) only[*,go_sem],?_⟩
 refine bQ ?_
 revert h;refine bS fun h7 h8 h=>?_
 try simp (maxSteps:=10000000) only[*,go_sem]
 refine ⟨_,bA hJ fun F u=>ki 1 true h8,bQ ?_⟩
 revert h;refine bS fun h9 ib h=>?_
 try simp (maxSteps:=10000000) only[*,go_sem]
 refine b8 hJ _ (nJ h4 J h7 ib) fun v w0 Y bo f=>?_
 obtain ⟨xa,xc,xf,xi,rfl,L⟩:=f
 have ic:=L.oc;simp only[bx] at ic
 replace q:=q.mono Y
 replace r:=bo.hd
 replace g:=bo.tl.hd
 replace a:=a.mono Y
 simp only[bn] at bo
 obtain ⟨xn,xr,rfl,xt,xv,-⟩:=id L.e
 obtain ⟨x0,x1,rfl,yi,yk,-⟩:=id L.p
 obtain ⟨yn,yr,rfl,ys,yv,-⟩:=id L.y
 obtain ⟨y0,y1,rfl,zc,zr,-⟩:=id L.t
 have zs:=eN (l:=[(B,bk C.1 U V W X),(i,bk d j k m n)]) (I.trans Y) (ay.cons r (ay.cons g (ay.nil _)))
 refine ⟨by simp (maxSteps:=10000000) only[*,go_sem],?_⟩
 refine bQ ?_
 revert h;refine bS fun ih ik h=>?_
 try simp (maxSteps:=10000000) only[*,go_sem]
 refine ⟨_,bA hJ fun F u=>ki 0 false ik,bQ ?_⟩
 revert h;refine bS fun il im h=>?_
 try simp (maxSteps:=10000000) only[*,go_sem]
 refine b8 hJ _ (nJ h9 L ih im) fun v zt a0 br f=>?_
 obtain ⟨Af,Ag,At,BF,rfl,M⟩:=f
 have iv:=M.oc;simp only[bx] at iv
 replace q:=q.mono a0
 replace r:=br.hd
 replace g:=br.tl.hd
 replace a:=a.mono a0
 simp only[bn] at br
 obtain ⟨B0,Cy,rfl,CY,Ex,-⟩:=id M.e
 obtain ⟨Fl,F0,rfl,Gp,Gr,-⟩:=id M.p
 obtain ⟨Ha,Hb,rfl,Hc,Hd,-⟩:=id M.y
 obtain ⟨Hk,Hm,rfl,Hn,H0,-⟩:=id M.t
 have H2:=eN (l:=[(B,bk C.1 U V W X),(i,bk d j k m n)]) ((I.trans Y).trans a0) (ay.cons r (ay.cons g (ay.nil _)))
 refine ⟨by simp (maxSteps:=10000000) only[*,go_sem],?_⟩
 refine bQ ?_
 revert h;refine bS fun ix jC h=>?_
 try simp (maxSteps:=10000000) only[*,go_sem]
 refine b8 hJ _ (Aw a il M jC) fun v H3 bs bz f=>?_
 obtain ⟨H4,rfl,ev⟩:=f
 replace q:=q.mono bs
 replace r:=bz.hd
 replace g:=bz.tl.hd
 replace a:=a.mono bs
 simp only[bn] at bz
 obtain ⟨H5,Is,rfl,IH,JF,-⟩:=id ev
 have Kd:=eN (l:=[(B,bk C.1 U V W X),(i,bk d j k m n)]) (((I.trans Y).trans a0).trans bs) (ay.cons r (ay.cons g (ay.nil _)))
 refine ⟨by simp (maxSteps:=10000000) only[*,go_sem],?_⟩
 refine bQ ?_
 try simp (maxSteps:=10000000) only[*,go_sem]
 refine b.go ?_;clear b K
 show Wp _ _ _ _ _
 exact cu hJ (Le.sub (.cons _ (.cons _ (List.Sublist.refl _)))) (CB hJ da al hD hL C h0 ix a q ev (by simp (maxSteps:=10000000) only[*,go_sem]) h)
set_option maxHeartbeats 40000000 in
theorem JM {Φ:Goroutine->af->Prop}(hJ:Closed Tryz.prog true (dm Tryz.prog Φ)){A:Act}{ro:Addr->Option Value}(g:aj)(q:((List Int)×Int))(N:(ak×ak×Int))(k:(Int×Int))(l:(Int×Int))(m:(Int×Int))(n:(Int×Int))(c:(Int×ak×Int))(d:(Int×ak×Int))(a:(ak×ak×Bool×Int)){s t u w y:Nat}(i:cT ro){I:Value}(j:aA rI ro I q.1){z B C D:Value}(f:bG ro g z B C D)(O:sz A=439/\A.defers=[]/\slot A 0= .bool false/\slot A 1= .pointer (some ⟨y,0,none⟩)/\slot A 4= .int .i64 k.2/\slot A 7= .int .i64 l.2/\slot A 9= .int .i64 m.2/\slot A 12= .int .i64 n.2/\slot A 15= .int .i64 c.2.2/\slot A 18= .int .i64 d.2.2/\slot A 20= .int .i64 a.2.2.2/\slot A 21=I/\slot A 22= .int .i64 q.2/\slot A 25= .int .i64 N.2.2/\slot A 26= .int .i64 k.1/\slot A 27= .int .i64 l.1/\slot A 28= .int .i64 m.1/\slot A 29= .int .i64 n.1/\slot A 30= .int .i64 c.1/\slot A 31= .pointer (some ⟨w,0,none⟩)/\slot A 32= .int .i64 d.1/\slot A 33= .pointer (some ⟨u,0,none⟩)/\slot A 34= .pointer (some ⟨t,0,none⟩)/\slot A 35= .pointer (some ⟨s,0,none⟩)/\slot A 36= .bool a.2.2.1)(h:x6 g k l m n c d a=some true):Wp (dm Tryz.prog Φ) (bh (bh (bh (bh (bh (bh (bh (bh (bh (bh (bh (bh (bh (bh (bh (bh (bh (bh (bh (bh (bh (Tryz.f10.body.getD .skip)))))))))))))))))))))) (gk Tryz.prog [.tmp 0] (fun v _=>v= .bool true)) A ⟨ro,(s,rt a.2.1.num a.2.1.den)::(t,rt a.1.num a.1.den)::(u,rt d.2.1.num d.2.1.den)::(w,rt c.2.1.num c.2.1.den)::(y,bk g z B C D)::[]⟩:=by
 obtain ⟨P,hd,Q,k1,R,S,T,U,V,W,X,Y,Z,ab,ad,ae,al,ao,ar,a0,a2,a3,a4,a5,a6⟩:=O
 unfold x6 at h
 have a7:=f.oc;simp only[bx] at a7
 have a8:=j.oc;simp only[bx] at a8
 refine e6 hJ fun a9 ba=>?_
 have bb:=a9.nd
 try simp only[keys,List.map_cons,List.map_nil,List.map_append,List.cons_append,List.nil_append,List.nodup_cons,List.mem_cons,List.mem_append,List.not_mem_nil,or_false,not_or] at bb
 simp only[bn] at ba
 refine aa hJ (ej hJ fun K b=>?_)
 revert h;refine bS fun bc bd h=>?_
 try simp (maxSteps:=10000000) only[*,go_sem]
 refine q9 _ (JJ i g f 2 bd) fun v e0 E bj G=>?_
 obtain ⟨e1,rfl,o⟩:=G
 have bl:=o.oc;simp only[bx] at bl
 replace j:=j.mono E
 replace f:=f.mono E
 replace i:=i.mono E
 simp only[bn] at bj
 refine aD ?_
 try simp (maxSteps:=10000000) only[*,go_sem]
 refine b.go ?_;clear b K
 refine aa hJ (ej hJ fun K b=>?_)
 revert h;refine bS fun bm bo h=>?_
 try simp (maxSteps:=10000000) only[*,go_sem]
 refine q9 _ (JK i g f 2 bo) fun v br p bs G=>?_
 obtain ⟨e2,rfl,J⟩:=G
 have bz:=J.oc;simp only[bx] at bz
 replace j:=j.mono p
 replace f:=f.mono p
 replace o:=o.mono p
 replace i:=i.mono p
 simp only[bn] at bs
 refine aD ?_
 try simp (maxSteps:=10000000) only[*,go_sem]
 refine b.go ?_;clear b K
 refine aa hJ (aa hJ (ej hJ fun K b=>?_))
 revert h;refine cS (fun b0 h=>?_) fun b0 h=>?_
 ·cases h
 revert h;refine cS (fun b1 h=>?_) fun b1 h=>?_
 ·cases h
 revert h;refine cS (fun b2 h=>?_) fun b2 h=>?_
 ·cases h
 revert h;refine cS (fun b3 h=>?_) fun b3 h=>?_
 ·cases h
 revert h;refine cS (fun b4 h=>?_) fun b4 h=>?_
 ·cases h
 revert h;refine cS (fun b5 h=>?_) fun b5 h=>?_
 ·cases h
 revert h;refine cS (fun ca h=>?_) fun ca h=>?_
 ·cases h
 revert h;refine cS (fun cb h=>?_) fun cb h=>?_
 ·cases h
 try simp (maxSteps:=10000000) only[*,go_sem]
 revert h;refine cS (fun cd h=>?_) fun cd h=>?_
 ·cases h
 refine b.go ?_;clear b K
 refine bJ hJ (by simp (maxSteps:=10000000) only[*,go_sem]) ?_
 refine aG hJ (aa hJ ?_)
 refine aa hJ ?_
 refine ew [0,1,4,7,9,12,15,18,20,21,26,27,28,29,30,31,32,33,34,35,36,37,38,39] fun e3 cf cl cy=>?_
 simp only[*,go_sem] at cf cl cy
 clear P hd Q k1 R S T U V W X Y Z ab ad ae al ao ar a0 a2 a3 a4 a5 a6
 refine aK hJ fun c0=>?_
 refine jZ hJ mixed [] (.pure 0 (.pure 1 (.pure 2 (.pure 3 (.pure 4 (.pure 5 (.pure 6 (.pure 7 (.pure 8 (.pure 9 (.pure 10 (.pure 11 (.pure 12 (.pure 13 (.pure 14 (.pure 15 (.pure 16 (.pure 17 (.pure 18 (.rd 19 (.rd 20 (.pure 21 (.pure 22 (.pure 23 (.pure 24 (.pure 25 (.pure 26 (.pure 27 (.rd 28 (.rd 29 (.pure 30 (.pure 31 (.pure 32 (.pure 33 (.pure 34 (.pure 35 (.pure 36 (.rd 37 (.rd 38 (.pure 39 (.pure 40 (.pure 41 (.rd 42 (.rd 43 (.pure 44 (.pure 45 (.pure 46 (.pure 47 (.one 48 (.one 49 (.pure 50 (.pure 51 (.pure 52 (.pure 53 (.pure 54 (.pure 55 (.pure 56 (.pure 57 (.one 58 (.one 59 (.pure 60 (.pure 61 .done)))))))))))))))))))))))))))))))))))))))))))))))))))))))))))))) ⟨br,[(s,rt a.2.1.num a.2.1.den),(t,rt a.1.num a.1.den),(u,rt d.2.1.num d.2.1.den),(w,rt c.2.1.num c.2.1.den),(y,bk g z B C D)]⟩ (by simp (maxSteps:=10000000) only[*,go_sem]) (by kernel_rfl) fun K b=>?_
 revert h;refine cS (fun da h=>?_) fun da h=>?_
 ·cases h
 revert h;refine cS (fun db h=>?_) fun db h=>?_
 ·cases h
 revert h;refine cS (fun dd h=>?_) fun dd h=>?_
 ·cases h
 revert h;refine cS (fun df h=>?_) fun df h=>?_
 ·cases h
 revert h;refine cS (fun dk h=>?_) fun dk h=>?_
 ·cases h
 revert h;refine bS fun fa dp h=>?_
 try simp (maxSteps:=10000000) only[*,go_sem]
 refine ⟨_,bA hJ fun F H=>gy 1 1 dp,bQ ?_⟩
 revert h;refine cS (fun dq h=>?_) fun dq h=>?_
 ·cases h
 revert h;refine cS (fun ds h=>?_) fun ds h=>?_
 ·cases h
 revert h;refine bS fun fb dt h=>?_
 try simp (maxSteps:=10000000) only[*,go_sem]
 refine ⟨_,bA hJ fun F H=>gy 0 1 dt,bQ ?_⟩
 revert h;refine cS (fun du h=>?_) fun du h=>?_
 ·cases h
 revert h;refine cS (fun dv h=>?_) fun dv h=>?_
 ·cases h
 revert h;refine bS fun fg dC h=>?_
 try simp (maxSteps:=10000000) only[*,go_sem]
 refine ⟨_,bA hJ fun F H=>gy 3 2 dC,bQ ?_⟩
 revert h;refine cS (fun dE h=>?_) fun dE h=>?_
 ·cases h
 revert h;refine bS fun fi dT h=>?_
 try simp (maxSteps:=10000000) only[*,go_sem]
 refine ⟨_,bA hJ fun F H=>gy 3 2 dT,bQ ?_⟩
 revert h;refine cS (fun ea h=>?_) fun ea h=>?_
 ·cases h
 revert h;refine bS fun fp eb h=>?_
 try simp (maxSteps:=10000000) only[*,go_sem]
 refine av fun fr ec L=>?_;have ed:=aM.cons L c0;try simp only[au] at L
 try simp (maxSteps:=10000000) only[*,go_sem]
 refine aR hJ _ (pN bc.1 (o.mono aJ) ([11,12,13,14]) ((aA.flat (r:=rI) (e:=3) (cs:=#[.int .i64 11,.int .i64 12,.int .i64 13,.int .i64 14]) (fun x=>[.int .i64 x]) ([11,12,13,14]) (fun _=>rfl) ec rfl (by simp)).mono (jT (by simp (maxSteps:=10000000) only[*,go_sem]))) eb) ⟨by simp (maxSteps:=10000000) only[*,go_sem],bQ ?_⟩
 revert h;refine cS (fun eh h=>?_) fun eh h=>?_
 ·cases h
 revert h;refine cS (fun et h=>?_) fun et h=>?_
 ·cases h
 revert h;refine bS fun fs ev h=>?_
 try simp (maxSteps:=10000000) only[*,go_sem]
 refine av fun ft eQ M=>?_;have fu:=aM.cons M ed;try simp only[au] at M
 try simp (maxSteps:=10000000) only[*,go_sem]
 refine aR hJ _ (pN bm.1 (J.mono aJ) ([11]) ((aA.flat (r:=rI) (e:=3) (cs:=#[.int .i64 11]) (fun x=>[.int .i64 x]) ([11]) (fun _=>rfl) eQ rfl (by simp)).mono (jT (by simp (maxSteps:=10000000) only[*,go_sem]))) ev) ⟨by simp (maxSteps:=10000000) only[*,go_sem],bQ ?_⟩
 try simp (maxSteps:=10000000) only[*,go_sem]
 revert h;refine cS (fun eS h=>?_) fun eS h=>?_
 ·cases h
 refine b.go ?_;clear b K
 refine bJ hJ (by simp (maxSteps:=10000000) only[*,go_sem]) ?_
 refine aG hJ ?_
 show Wp _ _ _ _ _
 exact cu hJ (Le.sub (.cons _ (.cons _ (.cons _ (.cons _ (.cons _ (.cons _ (.cons₂ _ (List.Sublist.refl _))))))))) (JL hJ g q k l m n c d a i j f (by simp (maxSteps:=10000000) only[*,go_sem]) h)
set_option maxHeartbeats 40000000 in
theorem JN {Φ:Goroutine->af->Prop}(hJ:Closed Tryz.prog true (dm Tryz.prog Φ)){A:Act}{ro:Addr->Option Value}(c:aj)(g:aj)(G:(ak×Int))(H:(Int×ak×Int))(I:(ak×Int))(J:(ak×Bool×Int))(L:(ak×Bool×Int))(M:(ak×Bool×Int))(N:(Int×Int))(i:((List Int)×Int))(j:(ak×ak×Int)){k l:Nat}(d:cT ro){m:Value}(n:aA rI ro m i.1){o q r s:Value}(f:bG ro g o q r s){u w x z:Value}(b:bG ro c u w x z)(O:sz A=439/\A.defers=[]/\slot A 0= .bool false/\slot A 1= .pointer (some ⟨l,0,none⟩)/\slot A 2= .pointer (some ⟨k,0,none⟩)/\slot A 4= .int .i64 G.2/\slot A 7= .int .i64 H.2.2/\slot A 9= .int .i64 I.2/\slot A 12= .int .i64 J.2.2/\slot A 15= .int .i64 L.2.2/\slot A 18= .int .i64 M.2.2/\slot A 20= .int .i64 N.2/\slot A 21=m/\slot A 22= .int .i64 i.2/\slot A 25= .int .i64 j.2.2)(h:x7 c g=some true):Wp (dm Tryz.prog Φ) (bh (bh (bh (bh (bh (bh (bh (bh (bh (bh (bh (bh (bh (bh (Tryz.f10.body.getD .skip))))))))))))))) (gk Tryz.prog [.tmp 0] (fun v _=>v= .bool true)) A ⟨ro,(k,bk g o q r s)::(l,bk c u w x z)::[]⟩:=by
 obtain ⟨P,hd,Q,k1,R,S,T,U,V,W,X,Y,Z,ab,ad⟩:=O
 obtain ⟨d45,b1,rfl,b2,b3,-⟩:=id f.e
 obtain ⟨d52,b4,rfl,b5,ca,-⟩:=id f.p
 obtain ⟨d59,cb,rfl,cd,cf,-⟩:=id f.y
 obtain ⟨d66,cl,rfl,cy,cS,-⟩:=id f.t
 obtain ⟨d8,c0,rfl,da,db,-⟩:=id b.e
 obtain ⟨d15,dd,rfl,df,dk,-⟩:=id b.p
 obtain ⟨d22,dp,rfl,dq,ds,-⟩:=id b.y
 obtain ⟨d29,dt,rfl,du,dv,-⟩:=id b.t
 unfold x7 at h
 have ae:=f.oc;simp only[bx] at ae
 have al:=b.oc;simp only[bx] at al
 have ao:=n.oc;simp only[bx] at ao
 refine e6 hJ fun B ar=>?_
 have a0:=B.nd
 try simp only[keys,List.map_cons,List.map_nil,List.map_append,List.cons_append,List.nil_append,List.nodup_cons,List.mem_cons,List.mem_append,List.not_mem_nil,or_false,not_or] at a0
 simp only[bn] at ar
 refine aa hJ (ej hJ fun K a=>?_)
 revert h;refine bS fun a2 a3 h=>?_
 try simp (maxSteps:=10000000) only[*,go_sem]
 refine aR hJ _ (Ar (d.mono aJ) c (b.mono aJ) 0 a3) (aD ?_)
 try simp (maxSteps:=10000000) only[*,go_sem]
 refine a.go ?_;clear a K
 refine aa hJ (ej hJ fun K a=>?_)
 revert h;refine bS fun a4 a5 h=>?_
 try simp (maxSteps:=10000000) only[*,go_sem]
 refine aR hJ _ (Ar (d.mono aJ) c (b.mono aJ) 1 a5) (aD ?_)
 try simp (maxSteps:=10000000) only[*,go_sem]
 refine a.go ?_;clear a K
 refine aa hJ (ej hJ fun K a=>?_)
 revert h;refine bS fun a6 a7 h=>?_
 try simp (maxSteps:=10000000) only[*,go_sem]
 refine aR hJ _ (sd (d.mono aJ) c (b.mono aJ) a7) (aD ?_)
 try simp (maxSteps:=10000000) only[*,go_sem]
 refine a.go ?_;clear a K
 refine aa hJ (ej hJ fun K a=>?_)
 revert h;refine bS fun a8 a9 h=>?_
 try simp (maxSteps:=10000000) only[*,go_sem]
 refine aR hJ _ (sd (d.mono aJ) g (f.mono aJ) a9) (aD ?_)
 try simp (maxSteps:=10000000) only[*,go_sem]
 refine a.go ?_;clear a K
 refine aa hJ (ej hJ fun K a=>?_)
 revert h;refine bS fun ba bb h=>?_
 try simp (maxSteps:=10000000) only[*,go_sem]
 refine aR hJ _ (Ax (d.mono aJ) c (b.mono aJ) bb) (aD ?_)
 try simp (maxSteps:=10000000) only[*,go_sem]
 refine av fun dC dE C=>?_;have bc:=aM.cons C B;try simp only[au] at C
 try simp (maxSteps:=10000000) only[*,go_sem]
 refine a.go ?_;clear a K
 refine aa hJ ?_
 refine ew [0,1,2,4,7,9,12,15,18,20,21,22,25,26,27,28,29,30,31] fun dT bd bj bl=>?_
 simp only[*,go_sem] at bd bj bl
 clear P hd Q k1 R S T U V W X Y Z ab ad
 refine ej hJ fun K a=>?_
 revert h;refine bS fun bm bo h=>?_
 try simp (maxSteps:=10000000) only[*,go_sem]
 refine aR hJ _ (Ax (d.mono aJ) g (f.mono aJ) bo) (aD ?_)
 try simp (maxSteps:=10000000) only[*,go_sem]
 refine av fun ea eb D=>?_;have br:=aM.cons D bc;try simp only[au] at D
 try simp (maxSteps:=10000000) only[*,go_sem]
 refine a.go ?_;clear a K
 refine aa hJ (ej hJ fun K a=>?_)
 revert h;refine bS fun bs bz h=>?_
 try simp (maxSteps:=10000000) only[*,go_sem]
 refine aR hJ _ (FY (d.mono aJ) c (b.mono aJ) bz) (aD ?_)
 try simp (maxSteps:=10000000) only[*,go_sem]
 refine av fun ec ed E=>?_;have b0:=aM.cons E br;try simp only[au] at E
 refine av fun eh et F=>?_;have ev:=aM.cons F b0;try simp only[au] at F
 try simp (maxSteps:=10000000) only[*,go_sem]
 refine a.go ?_;clear a K
 show Wp _ _ _ _ _
 exact cu hJ (Le.sub (.cons₂ _ (.cons₂ _ (.cons₂ _ (.cons₂ _ (.cons _ (.cons₂ _ (List.Sublist.refl _)))))))) (JM hJ c i j a2 a4 a6 a8 ba bm bs d n b (by simp (maxSteps:=10000000) only[*,go_sem]) h)
set_option maxHeartbeats 40000000 in
theorem JO {Φ:Goroutine->af->Prop}(hJ:Closed Tryz.prog true (dm Tryz.prog Φ)){A:Act}{ro:Addr->Option Value}(b:aj)(n:aj)(i:(ak×Int))(c:(Int×ak×Int))(j:(ak×Int))(d:(ak×Bool×Int))(f:(ak×Bool×Int))(g:(ak×Bool×Int)){q s t u w y z B:Nat}(m:cT ro){C D E G:Value}(p:bG ro n C D E G){H I J L:Value}(k:bG ro b H I J L)(T:sz A=439/\A.defers=[]/\slot A 0= .bool false/\slot A 1= .pointer (some ⟨B,0,none⟩)/\slot A 2= .pointer (some ⟨z,0,none⟩)/\slot A 3= .pointer (some ⟨y,0,none⟩)/\slot A 4= .int .i64 i.2/\slot A 5= .int .i64 c.1/\slot A 6= .pointer (some ⟨w,0,none⟩)/\slot A 7= .int .i64 c.2.2/\slot A 8= .pointer (some ⟨u,0,none⟩)/\slot A 9= .int .i64 j.2/\slot A 10= .pointer (some ⟨t,0,none⟩)/\slot A 11= .bool d.2.1/\slot A 12= .int .i64 d.2.2/\slot A 13= .pointer (some ⟨s,0,none⟩)/\slot A 14= .bool f.2.1/\slot A 15= .int .i64 f.2.2/\slot A 16= .pointer (some ⟨q,0,none⟩)/\slot A 17= .bool g.2.1/\slot A 18= .int .i64 g.2.2)(h:x8 b n i c j d f g=some true):Wp (dm Tryz.prog Φ) (bh (bh (bh (bh (bh (bh (bh (bh (bh (Tryz.f10.body.getD .skip)))))))))) (gk Tryz.prog [.tmp 0] (fun v _=>v= .bool true)) A ⟨ro,(q,rt g.1.num g.1.den)::(s,rt f.1.num f.1.den)::(t,rt d.1.num d.1.den)::(u,rt j.1.num j.1.den)::(w,rt c.2.1.num c.2.1.den)::(y,rt i.1.num i.1.den)::(z,bk n C D E G)::(B,bk b H I J L)::[]⟩:=by
 obtain ⟨U,hd,V,k1,W,X,Y,Z,ab,ad,ae,al,ao,ar,a0,a2,a3,a4,a5,a6,a7⟩:=T
 unfold x8 at h
 have a8:=p.oc;simp only[bx] at a8
 have a9:=k.oc;simp only[bx] at a9
 refine e6 hJ fun O ba=>?_
 have bb:=O.nd
 try simp only[keys,List.map_cons,List.map_nil,List.map_append,List.cons_append,List.nil_append,List.nodup_cons,List.mem_cons,List.mem_append,List.not_mem_nil,or_false,not_or] at bb
 simp only[bn] at ba
 refine aa hJ (ej hJ fun K a=>?_)
 revert h;refine bS fun bc bd h=>?_
 try simp (maxSteps:=10000000) only[*,go_sem]
 refine aR hJ _ (wF (m.mono aJ) b (k.mono aJ) bd) (aD ?_)
 try simp (maxSteps:=10000000) only[*,go_sem]
 refine a.go ?_;clear a K
 refine aa hJ (ej hJ fun K a=>?_)
 revert h;refine bS fun P bj h=>?_
 try simp (maxSteps:=10000000) only[*,go_sem]
 refine b8 hJ _ (wv m b k 0 bj) fun v bl M bm bo=>?_
 obtain ⟨e3,rfl,N⟩:=bo
 have br:=N.oc;simp only[bx] at br
 replace k:=k.mono M
 replace p:=p.mono M
 replace m:=m.mono M
 simp only[bn] at bm
 refine aD ?_
 try simp (maxSteps:=10000000) only[*,go_sem]
 refine a.go ?_;clear a K
 refine aa hJ (ej hJ fun K a=>?_)
 revert h;refine bS fun o bs h=>?_
 try simp (maxSteps:=10000000) only[*,go_sem]
 refine aR hJ _ (FZ (m.mono aJ) b (k.mono aJ) 0 bs) (aD ?_)
 try simp (maxSteps:=10000000) only[*,go_sem]
 refine av fun bz fa Q=>?_;have b0:=aM.cons Q O;try simp only[au] at Q
 refine av fun b1 fb R=>?_;have fg:=aM.cons R b0;try simp only[au] at R
 try simp (maxSteps:=10000000) only[*,go_sem]
 refine a.go ?_;clear a K
 refine aa hJ (aa hJ (ej hJ fun K a=>?_))
 revert h;refine cS (fun b2 h=>?_) fun b2 h=>?_
 ·cases h
 revert h;refine cS (fun b3 h=>?_) fun b3 h=>?_
 ·cases h
 revert h;refine cS (fun b4 h=>?_) fun b4 h=>?_
 ·cases h
 revert h;refine cS (fun b5 h=>?_) fun b5 h=>?_
 ·cases h
 revert h;refine cS (fun ca h=>?_) fun ca h=>?_
 ·cases h
 revert h;refine cS (fun cb h=>?_) fun cb h=>?_
 ·cases h
 revert h;refine cS (fun cd h=>?_) fun cd h=>?_
 ·cases h
 revert h;refine cS (fun cf h=>?_) fun cf h=>?_
 ·cases h
 try simp (maxSteps:=10000000) only[*,go_sem]
 revert h;refine cS (fun cl h=>?_) fun cl h=>?_
 ·cases h
 refine a.go ?_;clear a K
 refine bJ hJ (by simp (maxSteps:=10000000) only[*,go_sem]) ?_
 refine aG hJ (aa hJ ?_)
 refine aa hJ ?_
 refine ew [0,1,2,3,4,5,6,7,8,9,10,11,12,13,14,15,16,17,18,19,20,21,22,23,24,25] fun fi cy c0 da=>?_
 simp only[*,go_sem] at cy c0 da
 clear U hd V k1 W X Y Z ab ad ae al ao ar a0 a2 a3 a4 a5 a6 a7
 refine aK hJ fun db=>?_
 refine jZ hJ mixed [] (.rd 0 (.rd 1 (.pure 2 (.pure 3 (.pure 4 (.pure 5 (.pure 6 (.pure 7 (.rd 8 (.rd 9 (.pure 10 (.pure 11 (.pure 12 (.rd 13 (.rd 14 (.pure 15 (.pure 16 (.pure 17 (.rd 18 (.rd 19 (.pure 20 (.pure 21 (.pure 22 (.pure 23 (.pure 24 (.pure 25 (.pure 26 (.rd 27 (.rd 28 (.pure 29 (.pure 30 (.pure 31 (.pure 32 (.pure 33 (.pure 34 (.rd 35 (.rd 36 (.pure 37 (.pure 38 (.pure 39 (.pure 40 (.pure 41 (.pure 42 (.pure 43 (.pure 44 (.pure 45 (.pure 46 (.pure 47 (.pure 48 (.one 49 (.one 50 (.pure 51 (.pure 52 (.pure 53 (.rd 54 (.rd 55 (.pure 56 (.pure 57 (.pure 58 (.rd 59 (.rd 60 (.pure 61 (.pure 62 .done))))))))))))))))))))))))))))))))))))))))))))))))))))))))))))))) ⟨bl,[(b1,rt o.2.1.num o.2.1.den),(bz,rt o.1.num o.1.den),(q,rt g.1.num g.1.den),(s,rt f.1.num f.1.den),(t,rt d.1.num d.1.den),(u,rt j.1.num j.1.den),(w,rt c.2.1.num c.2.1.den),(y,rt i.1.num i.1.den),(z,bk n C D E G),(B,bk b H I J L)]⟩ (by simp (maxSteps:=10000000) only[*,go_sem]) (by kernel_rfl) fun K a=>?_
 revert h;refine bS fun fp dd h=>?_
 try simp (maxSteps:=10000000) only[*,go_sem]
 refine ⟨_,bA hJ fun F l=>gy 13 4 dd,bQ ?_⟩
 revert h;refine cS (fun df h=>?_) fun df h=>?_
 ·cases h
 revert h;refine cS (fun dk h=>?_) fun dk h=>?_
 ·cases h
 revert h;refine bS fun fr dp h=>?_
 try simp (maxSteps:=10000000) only[*,go_sem]
 refine ⟨_,bA hJ fun F l=>gy 11 8 dp,bQ ?_⟩
 revert h;refine cS (fun dq h=>?_) fun dq h=>?_
 ·cases h
 revert h;refine bS fun fs ds h=>?_
 try simp (maxSteps:=10000000) only[*,go_sem]
 refine ⟨_,bA hJ fun F l=>gy 1 4 ds,bQ ?_⟩
 revert h;refine cS (fun dt h=>?_) fun dt h=>?_
 ·cases h
 revert h;refine bS fun ft du h=>?_
 try simp (maxSteps:=10000000) only[*,go_sem]
 refine ⟨_,bA hJ fun F l=>gy 24 13 du,bQ ?_⟩
 revert h;refine cS (fun dv h=>?_) fun dv h=>?_
 ·cases h
 revert h;refine cS (fun dC h=>?_) fun dC h=>?_
 ·cases h
 revert h;refine bS fun fu dE h=>?_
 try simp (maxSteps:=10000000) only[*,go_sem]
 refine ⟨_,bA hJ fun F l=>gy 2 13 dE,bQ ?_⟩
 revert h;refine cS (fun dT h=>?_) fun dT h=>?_
 ·cases h
 revert h;refine cS (fun ea h=>?_) fun ea h=>?_
 ·cases h
 revert h;refine bS fun fv eb h=>?_
 try simp (maxSteps:=10000000) only[*,go_sem]
 refine ⟨_,bA hJ fun F l=>gy 1 1 eb,bQ ?_⟩
 revert h;refine cS (fun ec h=>?_) fun ec h=>?_
 ·cases h
 revert h;refine cS (fun ed h=>?_) fun ed h=>?_
 ·cases h
 revert h;refine cS (fun eh h=>?_) fun eh h=>?_
 ·cases h
 revert h;refine bS fun fw et h=>?_
 try simp (maxSteps:=10000000) only[*,go_sem]
 refine av fun fx ev S=>?_;have gg:=aM.cons S db;try simp only[au] at S
 try simp (maxSteps:=10000000) only[*,go_sem]
 refine aR hJ _ (pN P.1 (N.mono aJ) ([10,11,12]) ((aA.flat (r:=rI) (e:=3) (cs:=#[.int .i64 10,.int .i64 11,.int .i64 12]) (fun x=>[.int .i64 x]) ([10,11,12]) (fun _=>rfl) ev rfl (by simp)).mono (jT (by simp (maxSteps:=10000000) only[*,go_sem]))) et) ⟨by simp (maxSteps:=10000000) only[*,go_sem],bQ ?_⟩
 revert h;refine cS (fun eQ h=>?_) fun eQ h=>?_
 ·cases h
 revert h;refine bS fun gl eS h=>?_
 try simp (maxSteps:=10000000) only[*,go_sem]
 refine ⟨_,bA hJ fun F l=>gy 1 4 eS,bQ ?_⟩
 revert h;refine cS (fun e0 h=>?_) fun e0 h=>?_
 ·cases h
 revert h;refine bS fun gn e1 h=>?_
 try simp (maxSteps:=10000000) only[*,go_sem]
 refine ⟨_,bA hJ fun F l=>gy 1 1 e1,bQ ?_⟩
 try simp (maxSteps:=10000000) only[*,go_sem]
 revert h;refine cS (fun e2 h=>?_) fun e2 h=>?_
 ·cases h
 refine a.go ?_;clear a K
 refine bJ hJ (by simp (maxSteps:=10000000) only[*,go_sem]) ?_
 refine aG hJ ?_
 show Wp _ _ _ _ _
 exact cu hJ (Le.sub (.cons _ (.cons _ (.cons _ (.cons _ (.cons _ (.cons _ (.cons _ (.cons _ (.cons _ (.cons₂ _ (.cons₂ _ (List.Sublist.refl _))))))))))))) (JN hJ b n i c j d f g bc P o m N p k (by simp (maxSteps:=10000000) only[*,go_sem]) h)
set_option maxHeartbeats 40000000 in
theorem JP {ro:Addr->Option Value}(d:cT ro){r:Bool}(I:r=true)(h:gD=some r):fA Tryz.prog 10 #[] ⟨ro,[]⟩ (fun v _=>v= .bool r):=by
 subst I
 unfold gD at h
 refine fA.go Tryz.func10 rfl Tryz.ntmps10 Tryz.results10 (by simp) fun Φ hJ A J hd hs=>?_
 clear hs
 refine aa hJ (ej hJ fun K a=>?_)
 try simp (maxSteps:=10000000) only[*,go_sem]
 refine a.go ?_;clear a K
 refine aa hJ (ej hJ fun K a=>?_)
 revert h;refine bS fun g L h=>?_
 try simp (maxSteps:=10000000) only[*,go_sem]
 refine b8 hJ _ (F8 L) fun v n M b5 k=>?_
 obtain ⟨N,O,P,Q,rfl,f⟩:=k
 have R:=f.oc;simp only[bx] at R
 replace d:=d.mono M
 refine aD ?_
 try simp (maxSteps:=10000000) only[*,go_sem]
 refine av fun S T U=>?_;try simp only[au] at U
 try simp (maxSteps:=10000000) only[*,go_sem]
 refine a.go ?_;clear a K
 refine aa hJ ?_
 refine aK hJ fun V=>?_
 refine ej hJ fun K a=>?_
 revert h;refine bS fun l W h=>?_
 try simp (maxSteps:=10000000) only[*,go_sem]
 refine av fun i p q=>?_;have s:=aM.cons q V;try simp only[au] at q
 try simp (maxSteps:=10000000) only[*,go_sem]
 obtain ⟨m,t,u⟩:=eV (b:=i) (o:=(ic 11)) [] ((S,bk g N O P Q)::[]) s p (ay.cons T (ay.nil _))
 have w:aA rI (bN n i (ic 11)) (.slice (some ⟨i,0,none⟩) 1 1) [11]:=(aA.flat (r:=rI) (e:=3) (cs:=#[.int .i64 11]) (fun x=>[.int .i64 x]) ([11]) (fun _=>rfl) p rfl (by simp))
 generalize bN n i (ic 11)=ca at w t m u
 refine fS hJ u ?_
 replace f:=f.mono m
 replace d:=d.mono m
 simp only[bn] at t
 have X:=aM.tl s
 refine b8 hJ _ (wH g f ([11]) w 2 W) fun v cb y Y k=>?_
 obtain ⟨cd,cf,cl,cy,rfl,j⟩:=k
 have Z:=j.oc;simp only[bx] at Z
 replace f:=f.mono y
 replace d:=d.mono y
 simp only[bn] at Y
 refine aD ?_
 try simp (maxSteps:=10000000) only[*,go_sem]
 refine av fun cS c0 z=>?_;have ab:=aM.cons z X;try simp only[au] at z
 try simp (maxSteps:=10000000) only[*,go_sem]
 refine a.go ?_;clear a K
 refine aa hJ (ej hJ fun K a=>?_)
 revert h;refine bS fun ad ae h=>?_
 try simp (maxSteps:=10000000) only[*,go_sem]
 refine aR hJ _ (FE (d.mono aJ) g (f.mono aJ) 5 ae) (aD ?_)
 try simp (maxSteps:=10000000) only[*,go_sem]
 refine av fun da db B=>?_;have al:=aM.cons B ab;try simp only[au] at B
 try simp (maxSteps:=10000000) only[*,go_sem]
 refine a.go ?_;clear a K
 refine aa hJ ?_
 refine pq hJ mixed 7 3 (by simp (maxSteps:=10000000) only[*,go_sem]) (by kernel_rfl) fun K a=>?_
 revert h;refine bS fun ao ar h=>?_
 try simp (maxSteps:=10000000) only[*,go_sem]
 refine ⟨_,bA hJ fun F c=>k6 2 11 ar,bV ?_⟩
 revert h;refine bS fun a0 a2 h=>?_
 try simp (maxSteps:=10000000) only[*,go_sem]
 refine ⟨_,bA hJ fun F c=>rW (d.mono (bX c)) g (f.mono (bX c)) ao a2,bV ?_⟩
 try simp (maxSteps:=10000000) only[*,go_sem]
 refine av fun dd df C=>?_;have a3:=aM.cons C al;try simp only[au] at C
 try simp (maxSteps:=10000000) only[*,go_sem]
 refine a.go ?_;clear a K
 refine aa hJ ?_
 refine pq hJ mixed 6 4 (by simp (maxSteps:=10000000) only[*,go_sem]) (by kernel_rfl) fun K a=>?_
 revert h;refine bS fun a4 a5 h=>?_
 try simp (maxSteps:=10000000) only[*,go_sem]
 refine ⟨_,bA hJ fun F c=>k6 2 10 a5,bV ?_⟩
 revert h;refine bS fun a6 a7 h=>?_
 try simp (maxSteps:=10000000) only[*,go_sem]
 refine ⟨_,bA hJ fun F c=>nv (d.mono (bX c)) g (f.mono (bX c)) a4 a7,bV ?_⟩
 try simp (maxSteps:=10000000) only[*,go_sem]
 refine av fun dk dp D=>?_;have a8:=aM.cons D a3;try simp only[au] at D
 try simp (maxSteps:=10000000) only[*,go_sem]
 refine a.go ?_;clear a K
 refine aa hJ ?_
 refine ew [0,1,2,3,4,5,6,7,8,9] fun dq a9 ba bb=>?_
 simp only[*,go_sem] at a9 ba bb
 clear J hd
 refine pq hJ mixed 7 5 (by simp (maxSteps:=10000000) only[*,go_sem]) (by kernel_rfl) fun K a=>?_
 revert h;refine bS fun bc bd h=>?_
 try simp (maxSteps:=10000000) only[*,go_sem]
 refine ⟨_,bA hJ fun F c=>k6 2 12 bd,bV ?_⟩
 revert h;refine bS fun bj bl h=>?_
 try simp (maxSteps:=10000000) only[*,go_sem]
 refine ⟨_,bA hJ fun F c=>rX (d.mono (bX c)) l (j.mono (bX c)) bc bl,bV ?_⟩
 try simp (maxSteps:=10000000) only[*,go_sem]
 refine av fun ds dt E=>?_;have bm:=aM.cons E a8;try simp only[au] at E
 try simp (maxSteps:=10000000) only[*,go_sem]
 refine a.go ?_;clear a K
 refine aa hJ ?_
 refine pq hJ mixed 7 6 (by simp (maxSteps:=10000000) only[*,go_sem]) (by kernel_rfl) fun K a=>?_
 revert h;refine bS fun bo br h=>?_
 try simp (maxSteps:=10000000) only[*,go_sem]
 refine ⟨_,bA hJ fun F c=>k6 2 12 br,bV ?_⟩
 revert h;refine bS fun bs bz h=>?_
 try simp (maxSteps:=10000000) only[*,go_sem]
 refine ⟨_,bA hJ fun F c=>k4 (d.mono (bX c)) l (j.mono (bX c)) bo bz,bV ?_⟩
 try simp (maxSteps:=10000000) only[*,go_sem]
 refine av fun du dv G=>?_;have b0:=aM.cons G bm;try simp only[au] at G
 try simp (maxSteps:=10000000) only[*,go_sem]
 refine a.go ?_;clear a K
 refine aa hJ ?_
 refine pq hJ mixed 7 7 (by simp (maxSteps:=10000000) only[*,go_sem]) (by kernel_rfl) fun K a=>?_
 revert h;refine bS fun b1 b2 h=>?_
 try simp (maxSteps:=10000000) only[*,go_sem]
 refine ⟨_,bA hJ fun F c=>k6 2 12 b2,bV ?_⟩
 revert h;refine bS fun b3 b4 h=>?_
 try simp (maxSteps:=10000000) only[*,go_sem]
 refine ⟨_,bA hJ fun F c=>k4 (d.mono (bX c)) g (f.mono (bX c)) b1 b4,bV ?_⟩
 try simp (maxSteps:=10000000) only[*,go_sem]
 refine av fun dC dE H=>?_;have dT:=aM.cons H b0;try simp only[au] at H
 try simp (maxSteps:=10000000) only[*,go_sem]
 refine a.go ?_;clear a K
 show Wp _ _ _ _ _
 exact cu hJ (Le.sub (.cons₂ _ (.cons₂ _ (.cons₂ _ (.cons₂ _ (.cons₂ _ (.cons₂ _ (.cons₂ _ (.cons₂ _ (List.Sublist.refl _)))))))))) (JO hJ g l ad a0 a6 bj bs b3 d j f (by simp (maxSteps:=10000000) only[*,go_sem]) h)
theorem jI {ro:Addr->Option Value}(a:cT ro){r:Bool}(h:gD=some r):fA Tryz.prog 10 #[] ⟨ro,[]⟩ (fun v _=>v= .bool r):=
 JP a (Option.some.inj (h.symm.trans mO)) h
end Go.Proofs.YtjepffnffjdloaaGreatDoor
end

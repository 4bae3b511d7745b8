/- A part of the proof of a row and its tied card: QK9. -/
import Derived.Test.YtpgcmoanfifglaaGreatDoorQK8
import Derived.Conc.AtomicLaws2
import Derived.Conc.WgArith
set_option linter.all false
section
namespace Go.Sep
open Go Go.Conc
open Go.ConcN (sumTo upd upd_ne upd_same)
open Go.ConcM (MuAt muA msA muBlock OsLater)
open Go.ConcR (WgAt wgBlock stA smA)
section
variable {c : Cy} {i : Nat} {ph : Ph} {ops : Array Oper} {j n : Nat} {Q : Act → aa → Ph → Prop} {a : Act} {F : aa} {f fi : FuncId} {d : Option Tmp}
theorem dG {s:Sh}:s.ms<=s.ms/\s.ws<=s.ws:=⟨Int.le_refl _,Int.le_refl _⟩
theorem x9 (g:Entry c.P f (fun _=>do mark .disable;pure Extern.Race.none_)){vals:List Value}(hA:At ops j a f vals d)(l:ph.gp≠ .gone)(m:ph.gp≠ .new)
  (h:ai (WJ c i) fi ops (j+1) n Q (bf a d (.tuple #[])) F {ph with deaf:=ph.deaf+1}):ai (WJ c i) fi ops j (n+1) Q a F ph:=by
 obtain ⟨o,cw,dj,e,hg,p,_,rfl⟩:=hA
 refine fl e l fun w s k φ p0 _ hs hi he q=>.inr ⟨.tuple #[],w,_,s,_,fun b r cs hb=>?_,hs,.refl _ _,q.CL hi he m _,Jf,.inr dG,h⟩
 obtain ⟨fn,f1,f2,f3,f4,f5⟩:=g.ex
 exact stepG_mark0 .disable (by simp) e (cg hg) hb.kind p f1 f2 f3 f4 f5
theorem tq (l:Entry c.P f (fun _=>do mark .enable;pure Extern.Race.none_)){vals:List Value}(hA:At ops j a f vals d)(m:ph.gp≠ .gone)(p:ph.gp≠ .new){e:Nat}(hd:ph.deaf=e+1)
  (h:ai (WJ c i) fi ops (j+1) n Q (bf a d (.tuple #[])) F {ph with deaf:=e}):ai (WJ c i) fi ops j (n+1) Q a F ph:=by
 obtain ⟨o,cw,dj,g,hg,q,_,rfl⟩:=hA
 refine fl g m fun w s k φ p0 _ hs hi he r=>.inr ⟨.tuple #[],w,_,s,_,fun b t cs hb=>?_,hs,.refl _ _,r.CL hi he p _,Jg hd,.inr dG,h⟩
 obtain ⟨fn,f1,f2,f3,f4,f5⟩:=l.ex
 exact stepG_mark0 .enable (by simp) g (cg hg) hb.kind q f1 f2 f3 f4 f5
theorem oD {k:Nat}{φ:Nat->Ph}{p0:P0}{s:Sh}(he:φ i=ph)(a:Inv c.n c.bs k φ p0 s):Inv c.n c.bs k (upd φ i ph) p0 s:=by rw[<-he,x4];exact a
theorem CM (l:Entry c.P f (Extern.Race.marked .acquire))(hA:At ops j a f [.pointer (some (muA c.Mu))] d)(e:ph.gp= .cnt)
  (h:ai (WJ c i) fi ops (j+1) n Q (bf a d (.tuple #[])) F ph):ai (WJ c i) fi ops j (n+1) Q a F ph:=by
 obtain ⟨o,cw,dj,g,hg,m,p,rfl⟩:=hA
 obtain ⟨x,rfl,hx⟩:=jO p
 refine fl g (by rw[e];simp) fun w s k φ p0 _ hs hi he q=>.inr ⟨.tuple #[],w,_,s,ph,fun b r cs hb=>?_,hs,.refl _ _,oD he q,.word (.acquire (muA c.Mu)) rfl (.inl rfl) rfl ⟨e,e⟩,.inr dG,h⟩
 obtain ⟨fn,f1,f2,f3,f4,f5⟩:=l.ex
 exact stepG_markAt .acquire (by simp) g (cg hg) hb.kind m f1 f2 f3 f4 f5 (by simp[ey,hx])
theorem Jh (l:Entry c.P f (Extern.Race.marked .releaseMerge))(hA:At ops j a f [.pointer (some (muA c.Mu))] d)(e:ph.gp= .cnt)
  (h:ai (WJ c i) fi ops (j+1) n Q (bf a d (.tuple #[])) F ph):ai (WJ c i) fi ops j (n+1) Q a F ph:=by
 obtain ⟨o,cw,dj,g,hg,m,p,rfl⟩:=hA
 obtain ⟨x,rfl,hx⟩:=jO p
 refine fl g (by rw[e];simp) fun w s k φ p0 _ hs hi he q=>.inr ⟨.tuple #[],w,_,s,ph,fun b r cs hb=>?_,hs,.refl _ _,oD he q,.word (.releaseMerge (muA c.Mu)) rfl (.inr rfl) rfl ⟨e,e⟩,.inr dG,h⟩
 obtain ⟨fn,f1,f2,f3,f4,f5⟩:=l.ex
 exact stepG_markAt .releaseMerge (by simp) g (cg hg) hb.kind m f1 f2 f3 f4 f5 (by simp[ey,hx])
theorem Ji (q:Entry c.P f (Extern.Race.marked .releaseMerge))(hA:At ops j a f [.pointer (some (stA c.Wg))] d)(g:ph.gp= .cnt)
  (hd:ph.deaf=0) (r:ph.mp= .idle\/ph.mp= .fin) (t:ph.stored=c.bs i)
  (h:ai (WJ c i) fi ops (j+1) n Q (bf a d (.tuple #[])) F {mp:=.fin,gp:=.rel,stored:=ph.stored,deaf:=0}):ai (WJ c i) fi ops j (n+1) Q a F ph:=by
 obtain ⟨o,cw,dj,p,hg,u,v,rfl⟩:=hA
 obtain ⟨x,rfl,hx⟩:=jO v
 refine fl p (by rw[g];simp) fun w s k φ p0 _ hs hi he l=>.inr ⟨.tuple #[],w,_,s,{mp:=.fin,gp:=.rel,stored:=ph.stored,deaf:=0},fun b y cs hb=>?_,hs,.refl _ _,?_,.rel rfl ⟨hd,rfl⟩ g,.inr dG,h⟩
 ·obtain ⟨fn,f1,f2,f3,f4,f5⟩:=q.ex
  exact stepG_markAt .releaseMerge (by simp) p (cg hg) hb.kind u f1 f2 f3 f4 f5 (by simp[ey,hx])
 ·obtain ⟨C,S,W,L,m,hm⟩:=l.m
  refine l.jL hi he (by rw[g];simp) (by simp) ⟨C,S,W,L,m,mR hm hi _ ?_⟩ (s8 l.w hi _ (.inr ⟨by rw[he];exact g,rfl⟩)) ?_ (fun _=>⟨t,rfl⟩)
  ·rw[he];rcases r with e|e
   ·exact .inr ⟨e,rfl⟩
   ·exact .inl e.symm
  ·have:=l.i.all i hi
   rw[he] at this
   exact (x8 this).symm
theorem tr (old nw:Int)(H:Entry c.P f (Extern.Atomic.casT (.int .i32)))(aG:c.Mu≠c.Wg/\c.Mu≠c.Is/\c.Wg≠c.Is)(hA:At ops j a f [.pointer (some (muA c.Mu)),.int .i32 old,.int .i32 nw] d)
  (e:ph.gp= .cnt) (B:0<ph.deaf)
  (I:∀φ ms C S W L m,φ i=ph->i<c.n->cn c.n φ old ms C S W L m->∃mp,(∃g h l p q,cn c.n (upd φ i {ph with mp:=mp}) nw ms g h l p q)/\ai (WJ c i) fi ops (j+1) n Q (bf a d (.bool true)) F {ph with mp:=mp})
  (J:∀φ mu ms C S W L m,φ i=ph->i<c.n->cn c.n φ mu ms C S W L m->mu≠old->∃mp,(∃g h l p q,cn c.n (upd φ i {ph with mp:=mp}) mu ms g h l p q)/\ai (WJ c i) fi ops (j+1) n Q (bf a d (.bool false)) F {ph with mp:=mp}):ai (WJ c i) fi ops j (n+1) Q a F ph:=by
 obtain ⟨o,cw,dj,r,hg,D,K,rfl⟩:=hA
 obtain ⟨x,y,z,rfl,hx,E,G⟩:=qx K
 obtain ⟨fn,f1,f2,f3,f4,f5⟩:=H.ex
 refine fl r (by rw[e];simp) fun w s k φ p0 _ hs hi he t=>.inr ?_
 obtain ⟨C,S,W,L,m,hm⟩:=t.m
 by_cases u:s.mu=old
 ·subst u
  obtain ⟨mp,v,A⟩:=I φ s.ms C S W L m he hi hm
  exact ⟨.bool true,_,_,{s with mu:=nw},{ph with mp:=mp},fun b M cs hb=>stepG_cas_hit r (cg hg) hb.kind D f1 f2 f3 f4 .i32 f5 hx E G hs.mu.1 hs.mu.2,hs.CI aG nw,.set _ (.inl rfl),t.mutex hi he e v,x6 rfl Iff.rfl B (.inr ⟨rfl,e⟩),.inr dG,A⟩
 ·obtain ⟨mp,v,A⟩:=J φ s.mu s.ms C S W L m he hi hm u
  exact ⟨.bool false,_,_,{s with mu:=s.mu},{ph with mp:=mp},fun b M cs hb=>stepG_cas_miss r (cg hg) hb.kind D f1 f2 f3 f4 .i32 f5 hx E G hs.mu.1 hs.mu.2 u,hs,.refl _ _,t.mutex hi he e v,x5 false rfl Iff.rfl B (.inr ⟨rfl,e⟩),.inr dG,A⟩
theorem ya (dl:Int)(q:Entry c.P f (Extern.Atomic.update (Op.intArith .add) .i32 true))(aG:c.Mu≠c.Wg/\c.Mu≠c.Is/\c.Wg≠c.Is)(hA:At ops j a f [.pointer (some (muA c.Mu)),.int .i32 dl] d)
  (g:ph.gp= .cnt) (r:0<ph.deaf)
  (h:∀φ mu ms C S W L m,φ i=ph->i<c.n->cn c.n φ mu ms C S W L m->∃mp nw,IntKind.i32.wrap (mu+dl)=nw/\(∃t u v z A,cn c.n (upd φ i {ph with mp:=mp}) nw ms t u v z A)/\ai (WJ c i) fi ops (j+1) n Q (bf a d (.int .i32 nw)) F {ph with mp:=mp}):
  ai (WJ c i) fi ops j (n+1) Q a F ph:=by
 obtain ⟨o,cw,dj,l,hg,B,D,rfl⟩:=hA
 obtain ⟨x,y,rfl,hx,E⟩:=qw D
 obtain ⟨fn,f1,f2,f3,f4,f5⟩:=q.ex
 refine fl l (by rw[g];simp) fun w s k φ p0 _ hs hi he p=>.inr ?_
 obtain ⟨C,S,W,L,m,hm⟩:=p.m
 obtain ⟨mp,nw,e,G,H⟩:=h φ s.mu s.ms C S W L m he hi hm
 exact ⟨.int .i32 nw,_,_,{s with mu:=nw},{ph with mp:=mp},fun b I cs hb=>by rw[<-e];exact stepG_add_atomic l (cg hg) hb.kind B f1 f2 f3 f4 .i32 f5 hx E hs.mu.1 hs.mu.2,by rw[<-e];exact hs.CI aG _,.set _ (.inl rfl),p.mutex hi he g G,x6 rfl Iff.rfl r (.inr ⟨rfl,g⟩),.inr dG,H⟩
theorem oE {ty:TypeId}(p:(c.P.funcs[fi]?).any (·.norace)=true)(e:c.P.underlying ty=some (.int .i32)){x:Operand}(hA:mT ops j a (.load ty x) d)(f:ph.gp= .cnt)(hx:ev a x= .pointer (some (muA c.Mu)))
  (h:∀φ mu ms C S W L m,φ i=ph->i<c.n->cn c.n φ mu ms C S W L m->∃mp,(∃q r t u v,cn c.n (upd φ i {ph with mp:=mp}) mu ms q r t u v)/\ai (WJ c i) fi ops (j+1) n Q (bf a d (.int .i32 mu)) F {ph with mp:=mp}):
  ai (WJ c i) fi ops j (n+1) Q a F ph:=by
 obtain ⟨o,g,hg,y,rfl⟩:=hA
 refine fl g (by rw[f];simp) fun w s k φ p0 _ hs hi he l=>.inr ?_
 obtain ⟨C,S,W,L,m,hm⟩:=l.m
 obtain ⟨mp,z,A⟩:=h φ s.mu s.ms C S W L m he hi hm
 have e1:execOp a.eval o=(do pure (.value (<-loadVar ty (muA c.Mu))):Sem Next):=by
  unfold execOp
  simp only[y,ey,hx]
  rfl
 have B:(execOp a.eval o).run c.P w= .ok (.value (.int .i32 s.mu)) w:=by
  rw[e1]
  have:=hs.mu.1
  simp[loadVar,isAgg,run_underlying e,this]
 have D:(execOp a.eval o).events c.P w #[]=#[⟨.cell (muA c.Mu),false,false⟩]:=by
  rw[e1]
  have:=hs.mu.1
  simp[loadVar,isAgg,run_underlying e,events_load,this]
 have E:seen c.P fi #[⟨.cell (muA c.Mu),false,false⟩]=#[]:=by rw[seen_def];simp[seenStep,p]
 refine ⟨.int .i32 s.mu,w,#[],{s with mu:=s.mu},{ph with mp:=mp},fun b G cs hb=>?_,hs,.refl _ _,l.mutex hi he f z,mU rfl Iff.rfl,.inr dG,A⟩
 rw[stepG_value g (cg hg) hb.kind B]
 unfold listed
 rw[D,hb.fn,E]
end
section
variable {c : Cy} {i : Nat} {ph : Ph} {ops : Array Oper} {j n : Nat} {Q : Act → aa → Ph → Prop} {a : Act} {F : aa} {f fi : FuncId} {d : Option Tmp}
theorem Jj (r t:Value)(u:Entry c.P f Extern.Sync.semacquire)(aG:c.Mu≠c.Wg/\c.Mu≠c.Is/\c.Wg≠c.Is)(hA:At ops j a f [.pointer (some (msA c.Mu)),r,t] d)
  (e:ph.gp= .cnt) {G:Nat} (hm:ph.mp= .iF G) (h:ai (WJ c i) fi ops (j+1) n Q (bf a d (.tuple #[])) F {ph with mp:=.jJ G}):ai (WJ c i) fi ops j (n+1) Q a F ph:=by
 obtain ⟨o,cw,dj,g,hg,p,v,rfl⟩:=hA
 obtain ⟨x,y,z,rfl,hx,_,_⟩:=qx v
 obtain ⟨fn,f1,f2,f3,f4,f5⟩:=u.ex
 refine fl g (by rw[e];simp) fun w s k φ p0 _ hs hi he q=>?_
 by_cases l:s.ms=0
 ·refine .inl ⟨by rw[hm];rfl,l,fun b A cs=>stepG_semacquire_wait g (cg hg) p f1 f2 f3 f4 f5 (ad:=msA c.Mu) (by simp[ey,hx]) (by rw[hs.ms.1,l])⟩
 ·obtain ⟨C,S,W,L,m,hM⟩:=q.m
  have B:=hM.cnt
  refine .inr ⟨.tuple #[],_,_,{s with ms:=s.ms - 1},{ph with mp:=.jJ G},fun b A cs hb=>stepG_semacquire g (cg hg) hb.kind p f1 f2 f3 f4 f5 (by simp[ey,hx]) hs.ms.1 l hs.ms.2,hs.CJ aG _,.set _ (.inl rfl),
   q.mutex hi he e ⟨C,S,W,L,m - 1,Im hM hi _ (by rw[he];exact hm) rfl (by omega)⟩,x7 rfl Iff.rfl (.inr ⟨rfl,e⟩),.inr ⟨by simp only;omega,Int.le_refl _⟩,h⟩
theorem CN (r t:Value)(g:Entry c.P f Extern.Sync.semrelease)(aG:c.Mu≠c.Wg/\c.Mu≠c.Is/\c.Wg≠c.Is)(hA:At ops j a f [.pointer (some (msA c.Mu)),r,t] d)
  (e:ph.gp= .cnt) (hm:ph.mp= .oo\/ph.mp= .oq) (h:ai (WJ c i) fi ops (j+1) n Q (bf a d (.tuple #[])) F {ph with mp:=.fin}):ai (WJ c i) fi ops j (n+1) Q a F ph:=by
 obtain ⟨o,cw,dj,l,hg,p,u,rfl⟩:=hA
 obtain ⟨x,y,z,rfl,hx,_,_⟩:=qx u
 obtain ⟨fn,f1,f2,f3,f4,f5⟩:=g.ex
 refine fl l (by rw[e];simp) fun w s k φ p0 _ hs hi he q=>.inr ?_
 obtain ⟨C,S,W,L,m,hM⟩:=q.m
 have A:=hM.cnt
 have hb:=hM.st.w
 have B:=hM.st.s
 have D:m<=1:=by
  rcases Nat.lt_or_ge S 1 with y|y
  ·have:=hM.norm (by omega);omega
  ·have:=hM.fT (by omega);omega
 have v:IntKind.u32.wrap (s.ms+1)=s.ms+1:=by
  unfold IntKind.wrap
  simp[IntKind.bits,IntKind.signed]
  omega
 refine ⟨.tuple #[],_,_,{s with ms:=s.ms+1},{ph with mp:=.fin},fun b E cs hb=>stepG_semrelease l (cg hg) hb.kind p f1 f2 f3 f4 f5 (by simp[ey,hx]) hs.ms.1 hs.ms.2,by rw[v];exact hs.CJ aG _,.set _ (.inl rfl),
  q.mutex hi he e ⟨C,S,W,L,m+1,Iu hM hi _ (by rw[he];exact hm) rfl⟩,x7 rfl Iff.rfl (.inr ⟨rfl,e⟩),.inl ⟨_,p,fun x hx=>?_⟩,h⟩
 cases hx
 exact ⟨f,rfl,g.Cz⟩
theorem CO (l:Entry c.P f Extern.OsHooks.nano)(e:(c.P.funcs[f]?).any (·.norace)=true){vals:List Value}(hA:At ops j a f vals d)
  (m:ph.gp≠ .gone) (h:∀x:Int,ai (WJ c i) fi ops (j+1) n Q (bf a d (.int .i64 x)) F ph):ai (WJ c i) fi ops j (n+1) Q a F ph:=by
 obtain ⟨o,cw,dj,g,hg,p,_,rfl⟩:=hA
 obtain ⟨fn,f1,f2,f3,f4,f5⟩:=l.ex
 refine fl g m fun w s k φ p0 _ hs hi he q=>.inr ⟨_,w.later,#[],s,ph,fun b r cs hb=>stepG_nanotime g (cg hg) hb.kind p f1 f2 f3 f4 f5 (by rw[f1] at e;simpa using e),hs,⟨rfl,rfl,rfl,⟨w.tick,rfl⟩,fun _ _=>rfl⟩,oD he q,mU rfl Iff.rfl,.inr dG,h _⟩
theorem Jk (it:Int)(m:Entry c.P f Extern.Sync.canSpin)(hA:At ops j a f [.int .i64 it] d)
  (p:ph.gp≠ .gone) (h:∀t:Bool,(t=true->it<4)->ai (WJ c i) fi ops (j+1) n Q (bf a d (.bool t)) F ph):ai (WJ c i) fi ops j (n+1) Q a F ph:=by
 obtain ⟨o,cw,dj,e,hg,g,q,rfl⟩:=hA
 obtain ⟨x,rfl,hx⟩:=jO q
 obtain ⟨fn,f1,f2,f3,f4,f5⟩:=m.ex
 have hm:(#[x]:Array Operand).map a.eval=#[.int .i64 it]:=by simp[ey,hx]
 refine fl e p fun w s k φ p0 _ hs hi he l=>.inr ?_
 by_cases r:4<=it
 ·exact ⟨_,w,#[],s,ph,fun b u cs hb=>stepG_canSpin_no e (cg hg) hb.kind g f1 f2 f3 f4 f5 hm r,hs,.refl _ _,oD he l,mU rfl Iff.rfl,.inr dG,h false (by simp)⟩
 ·exact ⟨_,w.asked,#[],s,ph,fun b u cs hb=>stepG_canSpin_ask e (cg hg) hb.kind g f1 f2 f3 f4 f5 hm (by omega),hs,⟨rfl,rfl,rfl,.refl _,fun _ _=>rfl⟩,oD he l,mU rfl Iff.rfl,.inr dG,h _ (fun _=>by omega)⟩
end
theorem ai.entry {P:Program}{main:Bool}{S:Type}{JF:S->Goroutine->aa->Prop}{fi f:FuncId}{ops:Array Oper}{j n:Nat}{Q:Act->aa->S->Prop}{a:Act}{F:aa}{ph:S}{d:Option Tmp}(v:Value)(hM:dU P main (JF ph))(e:Entry P f (fun _=>pure v))
  {vals:List Value} (hA:At ops j a f vals d) (h:ai JF fi ops (j+1) n Q (bf a d v) F ph):ai JF fi ops j (n+1) Q a F ph:=fun b c cs hb g=>by
 obtain ⟨fn,f1,f2,f3,f4,f5⟩:=e.ex
 obtain ⟨o,cw,dj,i,hg,k,_,rfl⟩:=hA
 rw[List.range'_succ,eD hb.round]
 refine hM.move (fr':=b.at (a.put o.dst v) (.inRegion ops (List.range' (j+1) n)::c)) (fun w=>stepG_entry_pure v i (cg hg) hb.kind k f1 f2 f3 f4 f5) (by rw[<-eD hb.round];exact h b c cs hb g)
section
variable {c : Cy} {i : Nat} {ph : Ph} {ops : Array Oper} {j n : Nat} {Q : Act → aa → Ph → Prop} {a : Act} {F : aa} {f fi : FuncId} {d : Option Tmp}
theorem tu (ad:Addr){src dst t:TypeId}(hs:c.P.underlying src=some (.pointer t))(hd:c.P.underlying dst=some .unsafePointer)(e:(c.P.info? t).map (fun i=>decide (i.size=0))=some false){x:Operand}
  (hA:mT ops j a (.convert src dst x) d) (m:ph.gp≠ .gone) (hx:ev a x= .pointer (some ad)) (p:∀w s,cv c w s->∃v,w.cell? ad=some v) (h:ai (WJ c i) fi ops (j+1) n Q (bf a d (.pointer (some ad))) F ph):ai (WJ c i) fi ops j (n+1) Q a F ph:=by
 obtain ⟨o,f,hg,q,rfl⟩:=hA
 refine fl f m fun w s k φ p0 _ g hi he r=>.inr ⟨_,w,#[],s,ph,fun b z cs hb=>?_,g,.refl _ _,oD he r,mU rfl Iff.rfl,.inr dG,h⟩
 obtain ⟨v,l⟩:=p w s g
 have e1:execOp a.eval o=(do pure (.value (<-convert src dst (.pointer (some ad)))):Sem Next):=by
  unfold execOp
  simp only[q,ey,hx]
 have u:(execOp a.eval o).run c.P w= .ok (.value (.pointer (some ad))) w:=by
  rw[e1];simp[run_convert_to_unsafe hs hd e l]
 have y:(execOp a.eval o).events c.P w #[]=#[]:=by
  rw[e1];simp[events_convert_to_unsafe hs hd e l]
 rw[stepG_value f (cg hg) hb.kind u]
 unfold listed
 rw[y,seen_none]
theorem Jl {ty:TypeId}(H:c.P.underlying ty=some .bool)(v:bY c.P ty=some 1)(z:(c.P.funcs[fi]?).any (·.norace)=false)(aG:c.Mu≠c.Wg/\c.Mu≠c.Is/\c.Wg≠c.Is){x y:Operand}
  (hA:mT ops j a (.store ty x y) d) (e:ph.gp= .cnt) (hx:ev a x= .pointer (some ⟨c.Is,i,none⟩)) (g:ev a y= .bool true) (h:ai (WJ c i) fi ops (j+1) n Q (bf a d undef) F {ph with stored:=true}):ai (WJ c i) fi ops j (n+1) Q a F ph:=by
 obtain ⟨o,l,hg,p,rfl⟩:=hA
 refine fl l (by rw[e];simp) fun w s k φ p0 _ hs hi he f=>.inr ?_
 have hlen:=f.i.len
 have q:w.cell? ⟨c.Is,i,none⟩=some (.bool (s.is[i]'(by omega))):=by
  have:=hs.2.2
  simp[World.cell?,this,hlen,hi]
 have r:w.frozen? ⟨c.Is,i,none⟩=false:=by
  have:=hs.2.2
  simp[World.frozen?,this]
 have t:(sizeOf ty).run c.P w= .ok 1 w:=by
  obtain ⟨inf,e,A⟩:=Option.map_eq_some_iff.1 v
  simp[Go.sizeOf,typeInfo,e,A]
 have u:Instr.sureAddr (.pointer (some ⟨c.Is,i,none⟩))=(Pure.pure ⟨c.Is,i,none⟩:Sem Addr):=rfl
 have B:(execOp a.eval o).run c.P w= .ok .skip (w.setCell ⟨c.Is,i,none⟩ (.bool true)):=by
  unfold execOp
  simp only[p,ey,hx,g]
  simp[Instr.storeAt,u,storeVar,t,Value.cells,storeCells,Addr.add,q,r,run_store c.P w ⟨c.Is,i,none⟩ (.bool true) .plain rfl,Result.andThen]
 have D:(execOp a.eval o).events c.P w #[]=#[⟨.cell ⟨c.Is,i,none⟩,true,false⟩]:=by
  unfold execOp
  simp only[p,ey,hx,g]
  simp[Instr.storeAt,u,storeVar,t,Value.cells,storeCells,Addr.add,q,r,events_store c.P w _ ⟨c.Is,i,none⟩ (.bool true) .plain rfl,run_store c.P w ⟨c.Is,i,none⟩ (.bool true) .plain rfl,Result.evThen]
 have E:seen c.P fi #[⟨.cell ⟨c.Is,i,none⟩,true,false⟩]=#[⟨.cell ⟨c.Is,i,none⟩,true,false⟩]:=by rw[seen_def];simp[seenStep,z]
 obtain ⟨C,S,W,L,m,hm⟩:=f.m
 refine ⟨undef,_,_,{s with is:=s.is.set i true},{ph with stored:=true},fun b I cs hb=>?_,hs.Je aG i true,.set _ (.inr (.inr rfl)),?_,.store rfl rfl ⟨e,e⟩,.inr dG,h⟩
 ·rw[stepG_none l (cg hg) hb.kind B]
  unfold listed
  rw[D,hb.fn,E]
 ·exact f.jL hi he (by rw[e];simp) (by simp[e]) ⟨C,S,W,L,m,mR hm hi _ (.inl (by rw[he]))⟩ (s8 f.w hi _ (.inl (by rw[he]))) rfl (fun G=>absurd e G)
end
theorem ai.shr {P:Program}{main:Bool}{S:Type}{JF:S->Goroutine->aa->Prop}{fi:FuncId}{ops:Array Oper}{j n:Nat}{Q:Act->aa->S->Prop}{a:Act}{F:aa}{ph:S}{d:Option Tmp}{t f:TypeId}{k b:IntKind}{u m:Int}(v:Int)(hM:dU P main (JF ph)){x y:Operand}
  (hA:mT ops j a (.binOp .shr t x y f) d) (hx:ev a x= .int k u) (g:ev a y= .int b m) (hm:0<=m) (c:u.fdiv (2 ^ min m.toNat k.bits)=v) (h:ai JF fi ops (j+1) n Q (bf a d (.int k v)) F ph):ai JF fi ops j (n+1) Q a F ph:=by
 obtain ⟨o,i,hg,l,rfl⟩:=hA
 have e:¬m<0:=by omega
 have e1:execOp a.eval o=(do eqGuard .shr t x y (.int k u) (.int b m);pure (.value (<-binOp .shr t (.int k u) (.int b m))):Sem Next):=by
  unfold execOp
  simp only[l,ey,hx,g]
  simp
 refine ai.plain hM (.int k v) i hg (fun w=>?_) (fun w=>?_) h
 ·rw[e1];subst c;simp[eqGuard,binOp,Op.shift,e]
 ·rw[e1];subst c;simp[eqGuard,binOp,Op.shift,e]
theorem ai.mV {P:Program}{main:Bool}{S:Type}{JF:S->Goroutine->aa->Prop}{fi:FuncId}{ops:Array Oper}{j n:Nat}{Q:Act->aa->S->Prop}{a:Act}{F:aa}{ph:S}{d:Option Tmp}{t b:TypeId}(u v:Int)(hM:dU P main (JF ph)){x y:Operand}
  (hA:mT ops j a (.binOp .shr t x y b) d) (hx:ev a x= .int .i32 u) (c:ev a y= .int .u64 3) (e:u.fdiv 8=v) (h:ai JF fi ops (j+1) n Q (bf a d (.int .i32 v)) F ph):ai JF fi ops j (n+1) Q a F ph:=
 ai.shr v hM hA hx c (by decide) e h
end Go.Sep
end
section
namespace Go.Proofs.YtpgcmoanfifglaaGreatDoor
open Go Go.Sep Go.Proofs Go.Conc
open Go.ConcN (upd upd_same)
open Go.ConcM (muA msA)
open Go.ConcR (stA smA)
set_option maxRecDepth 100000
set_option maxHeartbeats 4000000
attribute [local go_sem] Int.reduceBEq Int.reduceBNe muA msA stA smA
section
variable {Mu Wg Is n base T0 i : Nat} {bs : Nat → Bool} {st : Bool} {F : aa}
theorem yb (w:World)(s:Sh)(h:cv (CY Mu Wg Is n bs base T0) w s):∃v,w.cell? ⟨Mu,0,none⟩=some v:=⟨_,h.mu.1⟩
theorem Jm (aG:Mu≠Wg/\Mu≠Is/\Wg≠Is)
  (a:cD Tryz.prog (WJ (CY Mu Wg Is n bs base T0) i) 194 #[.pointer (some (muA Mu))] F ⟨.idle,.cnt,st,1⟩ (fun v F' aL=>v= .tuple #[]/\F'=F/\aL=⟨.held,.cnt,st,0⟩)):
  cD Tryz.prog (WJ (CY Mu Wg Is n bs base T0) i) 165 #[.pointer (some (muA Mu))] F ⟨.idle,.cnt,st,0⟩ (fun v F' aL=>v= .tuple #[]/\F'=F/\aL=⟨.held,.cnt,st,0⟩):=by
 have hM:=WJ.ek (CY Mu Wg Is n bs base T0) i
 have hJ:∀ph:Ph,ph.gp= .cnt->Go.Sep.Closed Tryz.prog false (WJ (CY Mu Wg Is n bs base T0) i ph):=fun ph h=>Wk.closed (CY Mu Wg Is n bs base T0) i ph h
 refine cD.go (main:=false) hM Tryz.func165 rfl Tryz.ntmps165 (by simp) fun A c hd hs=>?_
 have d:=hs 0
 clear hs
 repeat refine ax (hM _) ?_
 refine cX hM ?_
 refine x9 qv ⟨_,_,_,rfl,(by first|rfl|simp only[*,go_sem]),rfl,by first|(simp only[*,go_sem];done)|(simp only[*,go_sem];rfl),rfl⟩ (by simp) (by simp) ?_
 refine ai.nil hM ?_;try simp only[go_sem]
 repeat refine ax (hM _) ?_
 refine cX hM ?_
 refine ai.bD (hJ _ rfl) 3 (n:=1) _ rfl rfl ?_;simp only[*,go_sem]
 refine tr 0 1 th aG ⟨_,_,_,rfl,(by first|rfl|simp only[*,go_sem]),rfl,by first|(simp only[*,go_sem];done)|(simp only[*,go_sem];rfl),rfl⟩ (by rfl) (by simp) (fun φ ms C S W L m he hi hm=>⟨.held,⟨0,0,0,1,m,Ih hm hi _ (by rw[he]) rfl rfl⟩,?_⟩) (fun φ mu ms C S W L m he hi hm e=>⟨.idle,⟨C,S,W,L,m,mR hm hi _ (.inl (by rw[he]))⟩,?_⟩)
 ·refine ai.nil hM ?_;try simp only[go_sem]
  repeat refine ax (hM _) ?_
  refine cW (hM _) (by simp only[*,go_sem]) ?_
  repeat refine ax (hM _) ?_
  refine cW (hM _) (by simp only[*,go_sem]) ?_
  repeat refine ax (hM _) ?_
  refine cX hM ?_
  refine tq lF ⟨_,_,_,rfl,(by first|rfl|simp only[*,go_sem]),rfl,by first|(simp only[*,go_sem];done)|(simp only[*,go_sem];rfl),rfl⟩ (by simp) (by simp) rfl ?_
  refine ai.nil hM ?_;try simp only[go_sem]
  repeat refine ax (hM _) ?_
  refine cX hM ?_
  refine ai.bD (hJ _ rfl) 1 (n:=2) _ rfl rfl ?_;simp only[*,go_sem]
  refine tu ⟨Mu,0,none⟩ xY lG x2 ⟨_,rfl,(by first|rfl|simp only[*,go_sem]),rfl,rfl⟩ (by simp) (by simp only[*,go_sem]) yb ?_
  refine CM tg ⟨_,_,_,rfl,(by first|rfl|simp only[*,go_sem]),rfl,by first|(simp only[*,go_sem];done)|(simp only[*,go_sem];rfl),rfl⟩ (by rfl) ?_
  refine ai.nil hM ?_;try simp only[go_sem]
  refine fj ?_;try simp only[go_sem]
  exact oB rfl (by simp only[*,go_sem]) ⟨rfl,rfl,rfl⟩
 ·refine ai.nil hM ?_;try simp only[go_sem]
  repeat refine ax (hM _) ?_
  refine cA (hM _) (by simp only[*,go_sem]) ?_
  refine cE (hM _) ?_;try simp only[go_sem]
  repeat refine ax (hM _) ?_
  refine cX hM ?_
  refine ai.bD (hJ _ rfl) 1 (n:=1) _ rfl rfl ?_;simp only[*,go_sem]
  refine ai.fW (hM _) rfl rfl rfl EH (by simp only[*,go_sem,muA]) a fun v F' aL b=>?_
  obtain ⟨rfl,rfl,rfl⟩:=b
  refine ai.nil hM ?_
  exact lD rfl (by simp only[*,go_sem]) ⟨rfl,rfl,rfl⟩
def jo (C S W:Nat)(nw:Int)(G:Nat):Mp:=if S=1 then .oq else if 0<C/\W=0 then .gj nw G else .fin
def Jn (Mu n:Nat)(st:Bool)(F:aa)(m:Nat)(a:Act)(F':aa)(aL:Ph):Prop:=
 ∃(old:Int) (C S W L G:Nat),F'=F/\slot a 0= .pointer (some ⟨Mu,0,none⟩)/\slot a 4= .int .i32 old/\sz a=43/\a.defers=[]/\Wd old C S W L/\C<=3*n/\G<=m/\
   ((S=0/\L=0/\W=0/\0<C/\aL=⟨.gj old G,.cnt,st,1⟩)\/(¬(S=0/\L=0/\W=0/\0<C)/\aL=⟨.fin,.cnt,st,1⟩))
theorem Jo (aG:Mu≠Wg/\Mu≠Is/\Wg≠Is)(Z:n<67108864){nw:Int}{C S W G:Nat}(hw:Wd nw C S W 0)(hC:C<=3*n):
  cD Tryz.prog (WJ (CY Mu Wg Is n bs base T0) i) 196 #[.pointer (some (muA Mu)),.int .i32 nw] F ⟨jo C S W nw G,.cnt,st,1⟩ (fun v F' aL=>v= .tuple #[]/\F'=F/\aL=⟨.fin,.cnt,st,1⟩):=by
 have hM:=WJ.ek (CY Mu Wg Is n bs base T0) i
 have hJ:∀ph:Ph,ph.gp= .cnt->Go.Sep.Closed Tryz.prog false (WJ (CY Mu Wg Is n bs base T0) i ph):=fun ph h=>Wk.closed (CY Mu Wg Is n bs base T0) i ph h
 refine cD.go (main:=false) hM Tryz.func196 rfl Tryz.ntmps196 (by simp) fun A t hd hs=>?_
 have u:=hs 0
 have k1:=hs 1
 clear hs
 have y:=hw.st.s
 have hW:=hw.st.w
 have w1:IntKind.i32.wrap (nw+1)=nw+1:=by have e0:=hw.st.eq;exact iH (by omega) (by omega)
 have z:Wd (nw+1) C S W 1:=by have e0:=hw.st.eq;exact wd ⟨by omega,by omega,hW,y⟩ (by omega)
 have J:dS (nw+1) 1=1:=z.a1
 repeat refine ax (hM _) ?_
 refine cX hM ?_
 refine ai.bD (hJ _ rfl) 4 (n:=0) _ rfl rfl ?_;simp only[*,go_sem]
 refine ai.nil hM ?_;try simp only[go_sem]
 repeat refine ax (hM _) ?_
 refine cA (hM _) (by simp only[*,go_sem]) ?_
 refine cE (hM _) ?_;try simp only[go_sem]
 rcases (by omega:S=1\/S=0) with rfl|rfl
 ·
  have b4:dS nw 4=4:=hw.a4
  repeat refine ax (hM _) ?_
  refine cX hM ?_
  refine ai.bD (hJ _ rfl) 3 (n:=0) _ rfl rfl ?_;simp only[*,go_sem]
  refine ai.nil hM ?_;try simp only[go_sem]
  repeat refine ax (hM _) ?_
  refine cA (hM _) (by simp only[*,go_sem]) ?_
  repeat refine ax (hM _) ?_
  refine cX hM ?_
  refine ai.bD (hJ _ rfl) 3 (n:=1) _ rfl rfl ?_;simp only[*,go_sem]
  refine CN (.bool true) (.int .i64 2) CB aG ⟨_,_,_,rfl,(by first|rfl|simp only[*,go_sem]),rfl,by first|(simp only[*,go_sem];done)|(simp only[*,go_sem];rfl),rfl⟩ (by rfl) (by simp[jo]) ?_
  refine ai.nil hM ?_;try simp only[go_sem]
  exact lD rfl (by simp only[*,go_sem]) ⟨rfl,rfl,rfl⟩
 ·have b4:dS nw 4=0:=hw.a4
  repeat refine ax (hM _) ?_
  refine cX hM ?_
  refine ai.bD (hJ _ rfl) 3 (n:=0) _ rfl rfl ?_;simp only[*,go_sem]
  refine ai.nil hM ?_;try simp only[go_sem]
  repeat refine ax (hM _) ?_
  refine cW (hM _) (by simp only[*,go_sem]) ?_
  repeat refine ax (hM _) ?_
  refine cX hM ?_
  refine ai.bD (hJ _ rfl) 2 (n:=0) _ rfl rfl ?_;simp only[*,go_sem]
  refine ai.nil hM ?_;try simp only[go_sem]
  repeat refine ax (hM _) ?_
  refine jM hM ?_
  refine qu hM (fun m K F' aL=>Jn Mu n st F m K F' aL) G ?_ ?_
  ·refine ⟨nw,C,0,W,0,G,rfl,by simp only[*,go_sem,muA],by simp only[*,go_sem],by simp only[*,go_sem],by simp only[*,go_sem],hw,hC,Nat.le_refl _,?_⟩
   by_cases e:0<C/\W=0
   ·exact .inl ⟨rfl,rfl,e.2,e.1,by simp[jo,e]⟩
   ·exact .inr ⟨fun x=>e ⟨x.2.2.2,x.2.2.1⟩,by simp[jo,e]⟩
  ·clear hw hC b4 J z w1 y hW u k1 t hd
   rintro m A F' aL ⟨old,C,S,W,L,G,rfl,u,ab,t,hd,hw,hC,ad,M⟩
   repeat refine ax (hM _) ?_
   refine jM hM ?_
   have sh:old.fdiv 8=(C:Int):=hw.sh
   rcases M with ⟨rfl,rfl,rfl,g,rfl⟩|⟨ae,rfl⟩
   ·
    have N:dS old 7=0:=hw.a7
    have B:((C:Int)==0)=false:=by simp;omega
    repeat refine ax (hM _) ?_
    refine cX hM ?_
    refine ai.bD (hJ _ rfl) 1 (n:=7) _ rfl rfl ?_;simp only[*,go_sem]
    refine ai.mV old (C:Int) (hM _) ⟨_,rfl,(by first|rfl|simp only[*,go_sem]),rfl,rfl⟩ (by simp only[*,go_sem]) (by simp only[*,go_sem]) hw.sh ?_
    refine ai.bD (hJ _ rfl) 6 (n:=0) _ rfl rfl ?_;simp only[*,go_sem]
    refine ai.nil hM ?_;try simp only[go_sem]
    repeat refine ax (hM _) ?_
    refine cA (hM _) (by simp only[*,go_sem]) ?_
    refine cE (hM _) ?_;try simp only[go_sem]
    have al:IntKind.i32.wrap (old - 8)=old - 8:=by have e0:=hw.st.eq;exact iH (by omega) (by omega)
    have O:Wd (old - 8) (C - 1) 0 0 0:=by have e0:=hw.st.eq;exact wd ⟨by omega,by omega,by omega,by omega⟩ (by omega)
    have o2:ji (old - 8) 2=old - 8+2:=O.o2
    repeat refine ax (hM _) ?_
    refine cX hM ?_
    refine ai.bD (hJ _ rfl) 4 (n:=0) _ rfl rfl ?_;simp only[*,go_sem]
    refine ai.nil hM ?_;try simp only[go_sem]
    repeat refine ax (hM _) ?_
    refine cX hM ?_
    refine ai.bD (hJ _ rfl) 5 (n:=1) _ rfl rfl ?_;simp only[*,go_sem]
    refine tr old (old - 8+2) th aG ⟨_,_,_,rfl,(by first|rfl|simp only[*,go_sem]),rfl,by first|(simp only[*,go_sem];done)|(simp only[*,go_sem];rfl),rfl⟩ (by rfl) (by simp) (fun φ ms P Q R T j he hi hm=>?_) (fun φ mu ms P Q R T j he hi hm U=>?_)
    ·obtain ⟨rfl,rfl,rfl,rfl⟩:=hm.st.uniq hw.st
     refine ⟨.oo,⟨_,_,_,_,j,Ir hm hi _ (by rw[he]) rfl rfl rfl rfl g⟩,?_⟩
     refine ai.nil hM ?_;try simp only[go_sem]
     repeat refine ax (hM _) ?_
     refine cW (hM _) (by simp only[*,go_sem]) ?_
     repeat refine ax (hM _) ?_
     refine cX hM ?_
     refine ai.bD (hJ _ rfl) 3 (n:=1) _ rfl rfl ?_;simp only[*,go_sem]
     refine CN (.bool false) (.int .i64 2) CB aG ⟨_,_,_,rfl,(by first|rfl|simp only[*,go_sem]),rfl,by first|(simp only[*,go_sem];done)|(simp only[*,go_sem];rfl),rfl⟩ (by rfl) (by simp) ?_
     refine ai.nil hM ?_;try simp only[go_sem]
     refine fj ?_;try simp only[go_sem]
     exact oB rfl (by simp only[*,go_sem]) ⟨rfl,rfl,rfl⟩
    ·obtain ⟨V,ao,X⟩:=It hm hi {mp:=.gj mu (bM n φ ms),gp:=.cnt,stored:=st,deaf:=1} (by rw[he]) rfl
     have ar:bM n φ ms<G:=X U
     refine ⟨.gj mu (bM n φ ms),⟨_,_,_,_,j,V⟩,?_⟩
     refine ai.nil hM ?_;try simp only[go_sem]
     repeat refine ax (hM _) ?_
     refine cA (hM _) (by simp only[*,go_sem]) ?_
     refine cE (hM _) ?_;try simp only[go_sem]
     repeat refine ax (hM _) ?_
     refine cX hM ?_
     refine ai.bD (hJ _ rfl) 3 (n:=2) _ rfl rfl ?_;simp only[*,go_sem]
     refine oE Jd oC ⟨_,rfl,(by first|rfl|simp only[*,go_sem]),rfl,rfl⟩ (by rfl) (by simp only[*,go_sem]) (fun b f c k l o p D E H d=>?_)
     have I:=wd d.st (by have:=d.bound;simp only[CY] at this;omega)
     by_cases a:l=0/\p=0/\o=0/\0<k
     ·obtain ⟨q,r,_⟩:=Cc d H {mp:=.gj f (bM n b c),gp:=.cnt,stored:=st,deaf:=1} (by rw[E]) (.inl ⟨a.1,a.2.1,a.2.2.1,a.2.2.2,rfl⟩)
      have Y:bM n b c<=bM n φ ms:=r
      refine ⟨.gj f (bM n b c),⟨_,_,_,_,D,q⟩,?_⟩
      refine ai.bD (hJ _ rfl) 1 (n:=0) _ rfl rfl ?_;simp only[*,go_sem]
      refine ai.nil hM ?_;try simp only[go_sem]
      exact ⟨bM n b c,by omega,f,k,l,o,p,bM n b c,rfl,(by simp only[*,go_sem]),(by simp only[*,go_sem]),(by simp only[*,go_sem]),(by simp only[*,go_sem]),I,d.bound,Nat.le_refl _,.inl ⟨a.1,a.2.1,a.2.2.1,a.2.2.2,rfl⟩⟩
     ·obtain ⟨q,r,_⟩:=Cc d H {mp:=.fin,gp:=.cnt,stored:=st,deaf:=1} (by rw[E]) (.inr ⟨a,rfl⟩)
      have Y:bM n b c<=bM n φ ms:=r
      refine ⟨.fin,⟨_,_,_,_,D,q⟩,?_⟩
      refine ai.bD (hJ _ rfl) 1 (n:=0) _ rfl rfl ?_;simp only[*,go_sem]
      refine ai.nil hM ?_;try simp only[go_sem]
      exact ⟨bM n b c,by omega,f,k,l,o,p,bM n b c,rfl,(by simp only[*,go_sem]),(by simp only[*,go_sem]),(by simp only[*,go_sem]),(by simp only[*,go_sem]),I,d.bound,Nat.le_refl _,.inr ⟨a,rfl⟩⟩
   ·
    by_cases g:C=0
    ·have B:((C:Int)==0)=true:=by simp[g]
     repeat refine ax (hM _) ?_
     refine cX hM ?_
     refine ai.bD (hJ _ rfl) 1 (n:=7) _ rfl rfl ?_;simp only[*,go_sem]
     refine ai.mV old (C:Int) (hM _) ⟨_,rfl,(by first|rfl|simp only[*,go_sem]),rfl,rfl⟩ (by simp only[*,go_sem]) (by simp only[*,go_sem]) hw.sh ?_
     refine ai.bD (hJ _ rfl) 6 (n:=0) _ rfl rfl ?_;simp only[*,go_sem]
     refine ai.nil hM ?_;try simp only[go_sem]
     repeat refine ax (hM _) ?_
     refine cW (hM _) (by simp only[*,go_sem]) ?_
     refine fj ?_;try simp only[go_sem]
     exact oB rfl (by simp only[*,go_sem]) ⟨rfl,rfl,rfl⟩
    ·have B:((C:Int)==0)=false:=by simp;omega
     have N:=hw.a7
     have a0:(((4*S+(2*W+L):Nat):Int) != 0)=true:=by simp;omega
     repeat refine ax (hM _) ?_
     refine cX hM ?_
     refine ai.bD (hJ _ rfl) 1 (n:=7) _ rfl rfl ?_;simp only[*,go_sem]
     refine ai.mV old (C:Int) (hM _) ⟨_,rfl,(by first|rfl|simp only[*,go_sem]),rfl,rfl⟩ (by simp only[*,go_sem]) (by simp only[*,go_sem]) hw.sh ?_
     refine ai.bD (hJ _ rfl) 6 (n:=0) _ rfl rfl ?_;simp only[*,go_sem]
     refine ai.nil hM ?_;try simp only[go_sem]
     repeat refine ax (hM _) ?_
     refine cW (hM _) (by simp only[*,go_sem]) ?_
     refine fj ?_;try simp only[go_sem]
     exact oB rfl (by simp only[*,go_sem]) ⟨rfl,rfl,rfl⟩
theorem Jp (aG:Mu≠Wg/\Mu≠Is/\Wg≠Is)(f:n<67108864):
  cD Tryz.prog (WJ (CY Mu Wg Is n bs base T0) i) 166 #[.pointer (some (muA Mu))] F ⟨.held,.cnt,st,0⟩ (fun v F' aL=>v= .tuple #[]/\F'=F/\aL=⟨.fin,.cnt,st,0⟩):=by
 have hM:=WJ.ek (CY Mu Wg Is n bs base T0) i
 have hJ:∀ph:Ph,ph.gp= .cnt->Go.Sep.Closed Tryz.prog false (WJ (CY Mu Wg Is n bs base T0) i ph):=fun ph h=>Wk.closed (CY Mu Wg Is n bs base T0) i ph h
 refine cD.go (main:=false) hM Tryz.func166 rfl Tryz.ntmps166 (by simp) fun A t hd hs=>?_
 have u:=hs 0
 clear hs
 repeat refine ax (hM _) ?_
 refine cW (hM _) (by simp only[*,go_sem]) ?_
 repeat refine ax (hM _) ?_
 refine cX hM ?_
 refine ai.bD (hJ _ rfl) 3 (n:=1) _ rfl rfl ?_;simp only[*,go_sem]
 refine oE Jc oC ⟨_,rfl,(by first|rfl|simp only[*,go_sem]),rfl,rfl⟩ (by rfl) (by simp only[*,go_sem]) (fun x y z B D E G g j k l=>⟨.held,⟨_,_,_,_,g,mR l k _ (.inl (by rw[j]))⟩,?_⟩)
 refine ai.nil hM ?_;try simp only[go_sem]
 repeat refine ax (hM _) ?_
 refine cX hM ?_
 refine ai.bD (hJ _ rfl) 1 (n:=2) _ rfl rfl ?_;simp only[*,go_sem]
 refine tu ⟨Mu,0,none⟩ xY lG x2 ⟨_,rfl,(by first|rfl|simp only[*,go_sem]),rfl,rfl⟩ (by simp) (by simp only[*,go_sem]) yb ?_
 refine Jh CA ⟨_,_,_,rfl,(by first|rfl|simp only[*,go_sem]),rfl,by first|(simp only[*,go_sem];done)|(simp only[*,go_sem];rfl),rfl⟩ (by rfl) ?_
 refine ai.nil hM ?_;try simp only[go_sem]
 repeat refine ax (hM _) ?_
 refine cX hM ?_
 refine x9 qv ⟨_,_,_,rfl,(by first|rfl|simp only[*,go_sem]),rfl,by first|(simp only[*,go_sem];done)|(simp only[*,go_sem];rfl),rfl⟩ (by simp) (by simp) ?_
 refine ai.nil hM ?_;try simp only[go_sem]
 repeat refine ax (hM _) ?_
 refine cX hM ?_
 refine ai.bD (hJ _ rfl) 3 (n:=2) _ rfl rfl ?_;simp only[*,go_sem]
 refine ya (-1) xW aG ⟨_,_,_,rfl,(by first|rfl|simp only[*,go_sem]),rfl,by first|(simp only[*,go_sem];done)|(simp only[*,go_sem];rfl),rfl⟩ (by rfl) (by simp) (fun φ mu ms C S W L m he hi hm=>?_)
 have o:=Cb hm hi (by rw[he])
 subst o
 have hb:C<=3*n:=hm.bound
 have p:=hm.st.s
 have hW:=hm.st.w
 have c:IntKind.i32.wrap (mu+ -1)=mu - 1:=by have e0:=hm.st.eq;exact iH (by omega) (by omega)
 have e:St (mu - 1) C S W 0:=⟨by have e0:=hm.st.eq;omega,by omega,hW,p⟩
 have hw:Wd (mu - 1) C S W 0:=wd e (by omega)
 have hx:cn n (upd φ i ⟨jo C S W (mu - 1) (sm n φ Mp.wt+2*m),.cnt,st,1⟩) (mu - 1) ms C S W 0 m:=by
  refine Iq hm hi _ (by rw[he]) ?_
  by_cases a:S=1
  ·exact .inl ⟨a,by simp[jo,a]⟩
  ·by_cases b:0<C/\W=0
   ·exact .inr (.inl ⟨by omega,b.1,b.2,by simp[jo,a,b]⟩)
   ·exact .inr (.inr ⟨by omega,by omega,by simp[jo,a,b]⟩)
 refine ⟨jo C S W (mu - 1) (sm n φ Mp.wt+2*m),mu - 1,c,⟨_,_,_,_,m,hx⟩,?_⟩
 refine ai.bD (hJ _ rfl) 1 (n:=0) _ rfl rfl ?_;simp only[*,go_sem]
 refine ai.nil hM ?_;try simp only[go_sem]
 by_cases d:mu - 1=0
 ·have e0:=e.eq
  have q:jo C S W (mu - 1) (sm n φ Mp.wt+2*m)= .fin:=by
   have:C=0:=by omega
   have:S=0:=by omega
   simp[jo, *]
  clear hw hx c e0
  rw[q]
  rw[d]
  repeat refine ax (hM _) ?_
  refine cX hM ?_
  refine ai.bD (hJ _ rfl) 2 (n:=0) _ rfl rfl ?_;simp only[*,go_sem]
  refine ai.nil hM ?_;try simp only[go_sem]
  repeat refine ax (hM _) ?_
  refine cA (hM _) (by simp only[*,go_sem]) ?_
  refine cE (hM _) ?_;try simp only[go_sem]
  repeat refine ax (hM _) ?_
  refine cX hM ?_
  refine tq lF ⟨_,_,_,rfl,(by first|rfl|simp only[*,go_sem]),rfl,by first|(simp only[*,go_sem];done)|(simp only[*,go_sem];rfl),rfl⟩ (by simp) (by simp) rfl ?_
  refine ai.nil hM ?_;try simp only[go_sem]
  exact lD rfl (by simp only[*,go_sem]) ⟨rfl,rfl,rfl⟩
 ·have H:(mu - 1 != 0)=true:=by simpa using d
  clear hx c d
  repeat refine ax (hM _) ?_
  refine cX hM ?_
  refine ai.bD (hJ _ rfl) 2 (n:=0) _ rfl rfl ?_;simp only[*,go_sem]
  refine ai.nil hM ?_;try simp only[go_sem]
  repeat refine ax (hM _) ?_
  refine cW (hM _) (by simp only[*,go_sem]) ?_
  repeat refine ax (hM _) ?_
  refine cX hM ?_
  refine ai.bD (hJ _ rfl) 2 (n:=1) _ rfl rfl ?_;simp only[*,go_sem]
  refine ai.fW (hM _) rfl rfl rfl EI (by simp only[*,go_sem,muA]) (Jo aG f hw hb) fun v F' aL r=>?_
  obtain ⟨rfl,rfl,rfl⟩:=r
  refine ai.nil hM ?_;try simp only[go_sem]
  repeat refine ax (hM _) ?_
  refine cX hM ?_
  refine tq lF ⟨_,_,_,rfl,(by first|rfl|simp only[*,go_sem]),rfl,by first|(simp only[*,go_sem];done)|(simp only[*,go_sem];rfl),rfl⟩ (by simp) (by simp) rfl ?_
  refine ai.nil hM ?_;try simp only[go_sem]
  exact lD rfl (by simp only[*,go_sem]) ⟨rfl,rfl,rfl⟩
end
end Go.Proofs.YtpgcmoanfifglaaGreatDoor
end
section
namespace Go.Sep
open Go Go.Conc
def tv {S:Type}(b:Act->aa->S->Prop)(Q:Ex->Act->aa->S->Prop):Ex->Act->aa->S->Prop
 | .normal,a,F,ph=>b a F ph
 |e,a,F,ph=>Q e a F ph
attribute [go_sem] tv
theorem kH {P:Program}{main:Bool}{S:Type}{JF:S->Goroutine->aa->Prop}{fi:FuncId}{Q:Ex->Act->aa->S->Prop}{a:Act}{F:aa}{ph:S}(hM:∀ph,dU P main (JF ph)){x y:Code}(b:Act->aa->S->Prop)
  (c:cJ JF fi x (tv b Q) a F ph) (d:∀a F ph,b a F ph->cJ JF fi y Q a F ph):cJ JF fi (.seq x y) Q a F ph:=
 ax (hM _) (c.mono fun e a F ph h=>by
  cases e with
  |normal=>exact d a F ph h
  |exit i=>exact h
  |ret=>exact h)
theorem tw {P:Program}{main:Bool}{S:Type}{JF:S->Goroutine->aa->Prop}{fi:FuncId}{Q:Ex->Act->aa->S->Prop}{a:Act}{F:aa}{ph:S}(hM:∀ph,dU P main (JF ph)){x:Code}(b:Act->aa->S->Prop)
  (c:cJ JF fi x (tv b Q) a F ph) (d:∀a F ph,b a F ph->Q .normal a F ph):cJ JF fi x Q a F ph:=
 c.mono fun e a F ph h=>by
  cases e with
  |normal=>exact d a F ph h
  |exit i=>exact h
  |ret=>exact h
theorem aZ {P:Program}{main:Bool}{S:Type}{JF:S->Goroutine->aa->Prop}{fi:FuncId}{Q:Ex->Act->aa->S->Prop}{a:Act}{F:aa}{ph:S}(hM:∀ph,dU P main (JF ph)){id:Nat}{ops:Array Oper}
  (h:∀K:Act->aa->S->Prop,(∀a F ph,Q .normal a F ph->K a F ph)->ai JF fi ops 0 ops.size K a F ph):cJ JF fi (.region id ops false) Q a F ph:=cX hM (h _ fun _ _ _ h=>h)
theorem ew {S:Type}{b:Act->aa->S->Prop}{Q:Ex->Act->aa->S->Prop}{a:Act}{F:aa}{ph:S}(h:b a F ph):tv b Q .normal a F ph:=h
theorem je {S:Type}{I:Nat->Act->aa->S->Prop}{n:Nat}{Q:Ex->Act->aa->S->Prop}{a:Act}{F:aa}{ph:S}(h:∃m,m<n/\I m a F ph):xU I n Q .normal a F ph:=h
theorem Jq {x:Int}(a: -9223372036854775808<=x)(b:x<9223372036854775808):IntKind.i64.wrap x=x:=by
 unfold IntKind.wrap;simp[IntKind.bits,IntKind.signed];omega
end Go.Sep
namespace Go.Proofs.YtpgcmoanfifglaaGreatDoor
open Go Go.Sep Go.Proofs Go.Conc
open Go.ConcN (upd upd_same)
open Go.ConcM (muA msA)
open Go.ConcR (stA smA)
set_option maxRecDepth 100000
set_option maxHeartbeats 8000000
set_option linter.all false
attribute [local go_sem] Int.reduceBEq Int.reduceBNe muA msA stA smA
def tA (Mu n:Nat)(st:Bool)(F:aa)(m:Nat)(a:Act)(F':aa)(ph:Ph):Prop:=
 ∃(wt it old:Int) (sv aw:Bool) (C S W L G:Nat),F'=F/\slot a 0= .pointer (some ⟨Mu,0,none⟩)/\slot a 2= .int .i64 wt/\slot a 3= .bool sv/\slot a 4= .bool aw/\slot a 5= .int .i64 it/\slot a 6= .int .i32 old/\sz a=139/\a.defers=[]/\
  Wd old C S W L/\C<=3*n/\0<=it/\it<=4/\(sv=true->aw=true)/\(aw=true->S=0/\W=1)/\8*G+(5 - it).toNat<=m/\ph=⟨.want aw old G,.cnt,st,1⟩
def tB (Mu:Nat)(st:Bool)(F:aa)(a:Act)(F':aa)(ph:Ph):Prop:=F'=F/\slot a 0= .pointer (some ⟨Mu,0,none⟩)/\sz a=139/\a.defers=[]/\ph=⟨.held,.cnt,st,1⟩
def Jr (Mu:Nat)(st:Bool)(F:aa)(wt it:Int)(sv:Bool)(G:Nat)(a:Act)(F':aa)(ph:Ph):Prop:=
 ∃(aw:Bool) (o:Int) (b:Nat),F'=F/\slot a 0= .pointer (some ⟨Mu,0,none⟩)/\slot a 2= .int .i64 wt/\slot a 3= .bool sv/\slot a 4= .bool aw/\slot a 5= .int .i64 it/\sz a=139/\a.defers=[]/\(sv=true->aw=true)/\b<=G/\ph=⟨.want aw o b,.cnt,st,1⟩
def qy (Mu:Nat)(st:Bool)(F:aa)(wt it old:Int)(x:Option Int)(sv aw:Bool)(G:Nat)(a:Act)(F':aa)(ph:Ph):Prop:=
 F'=F/\slot a 0= .pointer (some ⟨Mu,0,none⟩)/\slot a 2= .int .i64 wt/\slot a 3= .bool sv/\slot a 4= .bool aw/\slot a 5= .int .i64 it/\slot a 6= .int .i32 old/\(∀y,x=some y->slot a 7= .int .i32 y)/\sz a=139/\a.defers=[]/\ph=⟨.want aw old G,.cnt,st,1⟩
def CP (Mu:Nat)(st:Bool)(F:aa)(sv:Bool)(mp:Mp)(a:Act)(F':aa)(ph:Ph):Prop:=
 ∃wt:Int,F'=F/\slot a 0= .pointer (some ⟨Mu,0,none⟩)/\slot a 2= .int .i64 wt/\slot a 3= .bool sv/\sz a=139/\a.defers=[]/\ph=⟨mp,.cnt,st,1⟩
def CQ (Mu:Nat)(st:Bool)(F:aa)(mp:Mp)(a:Act)(F':aa)(ph:Ph):Prop:=
 ∃(wt:Int) (sv:Bool),F'=F/\slot a 0= .pointer (some ⟨Mu,0,none⟩)/\slot a 2= .int .i64 wt/\slot a 3= .bool sv/\sz a=139/\a.defers=[]/\ph=⟨mp,.cnt,st,1⟩
def Js (Mu:Nat)(st:Bool)(F:aa)(y:Bool)(a:Act)(F':aa)(ph:Ph):Prop:=
 ∃e:Bool,F'=F/\slot a 0= .pointer (some ⟨Mu,0,none⟩)/\slot a 9= .int .i32 (-7)/\slot a 123= .bool e/\sz a=139/\a.defers=[]/\(e=false->y=true)/\ph=⟨.kE y,.cnt,st,1⟩
section
variable {Mu Wg Is n base T0 i : Nat} {bs : Nat → Bool} {st : Bool} {F : aa}
theorem Jt (aG:Mu≠Wg/\Mu≠Is/\Wg≠Is)(ev:n<67108864):
  cD Tryz.prog (WJ (CY Mu Wg Is n bs base T0) i) 194 #[.pointer (some (muA Mu))] F ⟨.idle,.cnt,st,1⟩ (fun v F' aL=>v= .tuple #[]/\F'=F/\aL=⟨.held,.cnt,st,0⟩):=by
 have hM:=WJ.ek (CY Mu Wg Is n bs base T0) i
 have hJ:∀ph:Ph,ph.gp= .cnt->Go.Sep.Closed Tryz.prog false (WJ (CY Mu Wg Is n bs base T0) i ph):=fun ph h=>Wk.closed (CY Mu Wg Is n bs base T0) i ph h
 refine cD.go (main:=false) hM Tryz.func194 rfl Tryz.ntmps194 (by simp) fun A c hd hs=>?_
 have d:=hs 0
 clear hs
 repeat refine ax (hM _) ?_
 refine aZ hM fun K a=>?_
 refine ai.bD (hJ _ rfl) 1 (n:=0) _ rfl rfl ?_;simp only[*,go_sem,-a,-hM,-hJ]
 refine ai.nil hM (a _ _ _ ?_);clear a K
 repeat refine ax (hM _) ?_
 refine aZ hM fun K a=>?_
 refine ai.bD (hJ _ rfl) 1 (n:=0) _ rfl rfl ?_;simp only[*,go_sem,-a,-hM,-hJ]
 refine ai.nil hM (a _ _ _ ?_);clear a K
 repeat refine ax (hM _) ?_
 refine aZ hM fun K a=>?_
 refine ai.bD (hJ _ rfl) 1 (n:=0) _ rfl rfl ?_;simp only[*,go_sem,-a,-hM,-hJ]
 refine ai.nil hM (a _ _ _ ?_);clear a K
 repeat refine ax (hM _) ?_
 refine aZ hM fun K a=>?_
 refine ai.bD (hJ _ rfl) 1 (n:=0) _ rfl rfl ?_;simp only[*,go_sem,-a,-hM,-hJ]
 refine ai.nil hM (a _ _ _ ?_);clear a K
 repeat refine ax (hM _) ?_
 refine aZ hM fun K a=>?_
 refine ai.bD (hJ _ rfl) 3 (n:=2) _ rfl rfl ?_;simp only[*,go_sem,-a,-hM,-hJ]
 refine oE tj oC ⟨_,rfl,(by first|(simp only[*,go_sem,-a,-hM,-hJ];done)|rfl),rfl,rfl⟩ (by rfl) (by simp only[*,go_sem,-a,-hM,-hJ]) (fun φ mu ms C S W L m he hi hm=>⟨.want false mu (bM n φ ms),⟨_,_,_,_,m,Ii hm hi _ (by rw[he]) rfl⟩,?_⟩)
 have hw:=wd hm.st (by have:C<=3*n:=hm.bound;omega)
 have hC:C<=3*n:=hm.bound
 refine ai.bD (hJ _ rfl) 1 (n:=0) _ rfl rfl ?_;simp only[*,go_sem,-a,-hM,-hJ]
 refine ai.nil hM (a _ _ _ ?_);clear a K
 refine kH hM (tB Mu st F) ?_ ?_
 ·repeat refine ax (hM _) ?_
  refine jM hM ?_
  refine qu hM (tA Mu n st F) (8*bM n φ ms+5) ?_ ?_
  ·exact ⟨0,0,mu,false,false,C,S,W,L,bM n φ ms,rfl,(by simp only[*,go_sem,-hM,-hJ]),(by simp only[*,go_sem,-hM,-hJ]),(by simp only[*,go_sem,-hM,-hJ]),(by simp only[*,go_sem,-hM,-hJ]),(by simp only[*,go_sem,-hM,-hJ]),(by simp only[*,go_sem,-hM,-hJ]),(by simp only[*,go_sem,-hM,-hJ]),(by simp only[*,go_sem,-hM,-hJ]),hw,hC,by omega,by omega,by simp,by simp,by simp,rfl⟩
  ·clear hw hC hm hi he c hd d
   rintro m A F' aL ⟨wt,it,old,sv,aw,C,S,W,L,G,rfl,d,j,k,x,z,H,c,hd,hw,hC,eQ,eS,U,V,e3,rfl⟩
   have cS:S=0\/S=1:=by have:=hw.st.s;omega
   have a6:L=0\/L=1:=by have:=hw.st.l;omega
   have bc:W=0\/W=1:=by have:=hw.st.w;omega
   repeat refine ax (hM _) ?_
   refine jM hM ?_
   refine kH hM (qy Mu st F' wt it old none sv aw G) ?_ ?_
   ·
    by_cases X:S=0/\L=1
    ·obtain ⟨rfl,rfl⟩:=X
     have b5:dS old 5=1:=hw.a5
     repeat refine ax (hM _) ?_
     refine aZ hM fun K a=>?_
     refine ai.bD (hJ _ rfl) 5 (n:=2) _ rfl rfl ?_;simp only[*,go_sem,-a,-hM,-hJ]
     refine Jk it I3 ⟨_,_,_,rfl,(by first|(simp only[*,go_sem,-a,-hM,-hJ];done)|rfl),rfl,by first|(simp only[*,go_sem,-a,-hM,-hJ];done)|(simp only[*,go_sem,-a,-hM,-hJ];rfl),rfl⟩ (by simp) fun t ht=>?_
     refine ai.bD (hJ _ rfl) 1 (n:=0) _ rfl rfl ?_;simp only[*,go_sem,-a,-hM,-hJ]
     refine ai.nil hM (a _ _ _ ?_);clear a K
     cases t
     ·repeat refine ax (hM _) ?_
      refine cA (hM _) (by simp only[*,go_sem,-hM,-hJ]) ?_
      refine cE (hM _) ?_
      exact ew ⟨rfl,(by simp only[*,go_sem,-hM,-hJ]),(by simp only[*,go_sem,-hM,-hJ]),(by simp only[*,go_sem,-hM,-hJ]),(by simp only[*,go_sem,-hM,-hJ]),(by simp only[*,go_sem,-hM,-hJ]),(by simp only[*,go_sem,-hM,-hJ]),by simp,(by simp only[*,go_sem,-hM,-hJ]),(by simp only[*,go_sem,-hM,-hJ]),rfl⟩
     ·have fa:=ht rfl
      repeat refine ax (hM _) ?_
      refine cW (hM _) (by simp only[*,go_sem,-hM,-hJ]) ?_
      refine kH hM (Jr Mu st F' wt it sv G) ?_ ?_
      ·cases aw
       ·obtain rfl:sv=false:=by cases sv<;>simp_all
        rcases bc with rfl|rfl
        ·have b2:dS old 2=0:=hw.a2
         by_cases dv:C=0
         ·have bo:((C:Int) != 0)=false:=by simp[dv]
          repeat refine ax (hM _) ?_
          refine aZ hM fun K a=>?_
          refine ai.bD (hJ _ rfl) 9 (n:=12) _ rfl rfl ?_;simp only[*,go_sem,-a,-hM,-hJ]
          refine ai.mV old (C:Int) (hM _) ⟨_,rfl,(by first|(simp only[*,go_sem,-a,-hM,-hJ];done)|rfl),rfl,rfl⟩ (by simp only[*,go_sem,-a,-hM,-hJ]) (by simp only[*,go_sem,-a,-hM,-hJ]) hw.sh ?_
          refine ai.bD (hJ _ rfl) 11 (n:=0) _ rfl rfl ?_;simp only[*,go_sem,-a,-hM,-hJ]
          refine ai.nil hM (a _ _ _ ?_);clear a K
          repeat refine ax (hM _) ?_
          refine cA (hM _) (by simp only[*,go_sem,-hM,-hJ]) ?_
          refine cE (hM _) ?_
          exact ew ⟨false,old,G,rfl,(by simp only[*,go_sem,-hM,-hJ]),(by simp only[*,go_sem,-hM,-hJ]),(by simp only[*,go_sem,-hM,-hJ]),(by simp only[*,go_sem,-hM,-hJ]),(by simp only[*,go_sem,-hM,-hJ]),(by simp only[*,go_sem,-hM,-hJ]),(by simp only[*,go_sem,-hM,-hJ]),by simp,Nat.le_refl _,rfl⟩
         ·have bo:((C:Int) != 0)=true:=by simp;omega
          have o2:ji old 2=old+2:=hw.o2
          repeat refine ax (hM _) ?_
          refine aZ hM fun K a=>?_
          refine ai.bD (hJ _ rfl) 9 (n:=12) _ rfl rfl ?_;simp only[*,go_sem,-a,-hM,-hJ]
          refine ai.mV old (C:Int) (hM _) ⟨_,rfl,(by first|(simp only[*,go_sem,-a,-hM,-hJ];done)|rfl),rfl,rfl⟩ (by simp only[*,go_sem,-a,-hM,-hJ]) (by simp only[*,go_sem,-a,-hM,-hJ]) hw.sh ?_
          refine ai.bD (hJ _ rfl) 9 (n:=2) _ rfl rfl ?_;simp only[*,go_sem,-a,-hM,-hJ]
          refine tr old (old+2) th aG ⟨_,_,_,rfl,(by first|(simp only[*,go_sem,-a,-hM,-hJ];done)|rfl),rfl,by first|(simp only[*,go_sem,-a,-hM,-hJ];done)|(simp only[*,go_sem,-a,-hM,-hJ];rfl),rfl⟩ (by rfl) (by simp) (fun φ ms br al bz Y o he hi hm=>?_) (fun φ mu ms br al bz Y o he hi hm db=>?_)
          ·obtain ⟨rfl,rfl,rfl,rfl⟩:=hm.st.uniq hw.st
           refine ⟨.want true old G,⟨_,_,_,_,o,Ij hm hi _ (by rw[he]) rfl rfl rfl rfl rfl⟩,?_⟩
           refine ai.bD (hJ _ rfl) 1 (n:=0) _ rfl rfl ?_;simp only[*,go_sem,-a,-hM,-hJ]
           refine ai.nil hM (a _ _ _ ?_);clear a K
           repeat refine ax (hM _) ?_
           refine cW (hM _) (by simp only[*,go_sem,-hM,-hJ]) ?_
           repeat refine ax (hM _) ?_
           refine aZ hM fun K a=>?_
           refine ai.bD (hJ _ rfl) 1 (n:=0) _ rfl rfl ?_;simp only[*,go_sem,-a,-hM,-hJ]
           refine ai.nil hM (a _ _ _ ?_);clear a K
           exact ew ⟨true,old,G,rfl,(by simp only[*,go_sem,-hM,-hJ]),(by simp only[*,go_sem,-hM,-hJ]),(by simp only[*,go_sem,-hM,-hJ]),(by simp only[*,go_sem,-hM,-hJ]),(by simp only[*,go_sem,-hM,-hJ]),(by simp only[*,go_sem,-hM,-hJ]),(by simp only[*,go_sem,-hM,-hJ]),by simp,Nat.le_refl _,rfl⟩
          ·obtain ⟨I,a7,bd⟩:=s6 hm hi {mp:=.want false mu (bM n φ ms),gp:=.cnt,stored:=st,deaf:=1} (by rw[he]) rfl
           refine ⟨.want false mu (bM n φ ms),⟨_,_,_,_,o,I⟩,?_⟩
           refine ai.bD (hJ _ rfl) 1 (n:=0) _ rfl rfl ?_;simp only[*,go_sem,-a,-hM,-hJ]
           refine ai.nil hM (a _ _ _ ?_);clear a K
           repeat refine ax (hM _) ?_
           refine cA (hM _) (by simp only[*,go_sem,-hM,-hJ]) ?_
           refine cE (hM _) ?_
           exact ew ⟨false,mu,bM n φ ms,rfl,(by simp only[*,go_sem,-hM,-hJ]),(by simp only[*,go_sem,-hM,-hJ]),(by simp only[*,go_sem,-hM,-hJ]),(by simp only[*,go_sem,-hM,-hJ]),(by simp only[*,go_sem,-hM,-hJ]),(by simp only[*,go_sem,-hM,-hJ]),(by simp only[*,go_sem,-hM,-hJ]),by simp,a7,rfl⟩
        ·have b2:dS old 2=2:=hw.a2
         repeat refine ax (hM _) ?_
         refine aZ hM fun K a=>?_
         refine ai.bD (hJ _ rfl) 21 (n:=0) _ rfl rfl ?_;simp only[*,go_sem,-a,-hM,-hJ]
         refine ai.nil hM (a _ _ _ ?_);clear a K
         repeat refine ax (hM _) ?_
         refine cA (hM _) (by simp only[*,go_sem,-hM,-hJ]) ?_
         refine cE (hM _) ?_
         exact ew ⟨false,old,G,rfl,(by simp only[*,go_sem,-hM,-hJ]),(by simp only[*,go_sem,-hM,-hJ]),(by simp only[*,go_sem,-hM,-hJ]),(by simp only[*,go_sem,-hM,-hJ]),(by simp only[*,go_sem,-hM,-hJ]),(by simp only[*,go_sem,-hM,-hJ]),(by simp only[*,go_sem,-hM,-hJ]),by simp,Nat.le_refl _,rfl⟩
       ·repeat refine ax (hM _) ?_
        refine aZ hM fun K a=>?_
        refine ai.bD (hJ _ rfl) 21 (n:=0) _ rfl rfl ?_;simp only[*,go_sem,-a,-hM,-hJ]
        refine ai.nil hM (a _ _ _ ?_);clear a K
        repeat refine ax (hM _) ?_
        refine cA (hM _) (by simp only[*,go_sem,-hM,-hJ]) ?_
        refine cE (hM _) ?_
        exact ew ⟨true,old,G,rfl,(by simp only[*,go_sem,-hM,-hJ]),(by simp only[*,go_sem,-hM,-hJ]),(by simp only[*,go_sem,-hM,-hJ]),(by simp only[*,go_sem,-hM,-hJ]),(by simp only[*,go_sem,-hM,-hJ]),(by simp only[*,go_sem,-hM,-hJ]),(by simp only[*,go_sem,-hM,-hJ]),by simp,Nat.le_refl _,rfl⟩
      ·clear d j k x z H c hd b5
       rintro A b Z ⟨bj,o2,dC,rfl,d,j,k,x,z,c,hd,dE,fb,rfl⟩
       have fg:IntKind.i64.wrap (it+1)=it+1:=Jq (by omega) (by omega)
       repeat refine ax (hM _) ?_
       refine aZ hM fun K a=>?_
       refine ai.entry _ (hM _) I4 ⟨_,_,_,rfl,(by first|(simp only[*,go_sem,-a,-hM,-hJ];done)|rfl),rfl,by first|(simp only[*,go_sem,-a,-hM,-hJ];done)|(simp only[*,go_sem,-a,-hM,-hJ];rfl),rfl⟩ ?_
       refine ai.nil hM (a _ _ _ ?_);clear a K
       repeat refine ax (hM _) ?_
       refine aZ hM fun K a=>?_
       refine ai.bD (hJ _ rfl) 3 (n:=0) _ rfl rfl ?_;simp only[*,go_sem,-a,-hM,-hJ]
       refine ai.nil hM (a _ _ _ ?_);clear a K
       repeat refine ax (hM _) ?_
       refine aZ hM fun K a=>?_
       refine ai.bD (hJ _ rfl) 3 (n:=2) _ rfl rfl ?_;simp only[*,go_sem,-a,-hM,-hJ]
       refine oE tj oC ⟨_,rfl,(by first|(simp only[*,go_sem,-a,-hM,-hJ];done)|rfl),rfl,rfl⟩ (by rfl) (by simp only[*,go_sem,-a,-hM,-hJ]) (fun φ mu ms O ae bk bS b0 he hi hm=>?_)
       obtain ⟨I,a7,bd⟩:=s6 hm hi {mp:=.want bj mu (bM n φ ms),gp:=.cnt,stored:=st,deaf:=1} (by rw[he]) rfl
       have ab:=wd hm.st (by have:O<=3*n:=hm.bound;omega)
       have a8:O<=3*n:=hm.bound
       have b1:bM n φ ms<=dC:=a7
       have ca:bj=true->ae=0/\bk=1:=fun e=>by subst e;exact B9 hm hi (by rw[he])
       refine ⟨.want bj mu (bM n φ ms),⟨_,_,_,_,b0,I⟩,?_⟩
       refine ai.bD (hJ _ rfl) 1 (n:=0) _ rfl rfl ?_;simp only[*,go_sem,-a,-hM,-hJ]
       refine ai.nil hM (a _ _ _ ?_);clear a K
       refine oA ?_
       change ∃o,o<m/\tA Mu n st b o _ _ _
       exact ⟨8*bM n φ ms+(5 - (it+1)).toNat,by omega,wt,it+1,mu,sv,bj,O,ae,bk,bS,bM n φ ms,rfl,(by simp only[*,go_sem,-hM,-hJ]),(by simp only[*,go_sem,-hM,-hJ]),(by simp only[*,go_sem,-hM,-hJ]),(by simp only[*,go_sem,-hM,-hJ]),(by simp only[*,go_sem,-hM,-hJ]),(by simp only[*,go_sem,-hM,-hJ]),(by simp only[*,go_sem,-hM,-hJ]),(by simp only[*,go_sem,-hM,-hJ]),ab,a8,by omega,by omega,dE,ca,Nat.le_refl _,rfl⟩
    ·have b5:=hw.a5
     have cb:(((4*S+L:Nat):Int)==1)=false:=by simp;omega
     repeat refine ax (hM _) ?_
     refine aZ hM fun K a=>?_
     refine ai.bD (hJ _ rfl) 7 (n:=0) _ rfl rfl ?_;simp only[*,go_sem,-a,-hM,-hJ]
     refine ai.nil hM (a _ _ _ ?_);clear a K
     repeat refine ax (hM _) ?_
     refine cA (hM _) (by simp only[*,go_sem,-hM,-hJ]) ?_
     refine cE (hM _) ?_
     exact ew ⟨rfl,(by simp only[*,go_sem,-hM,-hJ]),(by simp only[*,go_sem,-hM,-hJ]),(by simp only[*,go_sem,-hM,-hJ]),(by simp only[*,go_sem,-hM,-hJ]),(by simp only[*,go_sem,-hM,-hJ]),(by simp only[*,go_sem,-hM,-hJ]),by simp,(by simp only[*,go_sem,-hM,-hJ]),(by simp only[*,go_sem,-hM,-hJ]),rfl⟩
   ·clear d j k x z H c hd
    rintro A b Z ⟨rfl,d,j,k,x,z,H,p,c,hd,rfl⟩
    clear p
    repeat refine ax (hM _) ?_
    refine aZ hM fun K a=>?_
    refine ai.bD (hJ _ rfl) 2 (n:=0) _ rfl rfl ?_;simp only[*,go_sem,-a,-hM,-hJ]
    refine ai.nil hM (a _ _ _ ?_);clear a K
    obtain ⟨P,g,q⟩:∃P:Int,(S=0->P=old+1 - L)/\(S=1->P=old):=⟨if S=0 then old+1 - L else old,fun e=>by simp[e],fun e=>by simp[e]⟩
    refine kH hM (qy Mu st b wt it old (some P) sv aw G) ?_ ?_
    ·rcases cS with rfl|rfl
     ·have b4:dS old 4=0:=hw.a4
      have o1:ji old 1=P:=by rw[g rfl,hw.o1];omega
      clear g q
      repeat refine ax (hM _) ?_
      refine aZ hM fun K a=>?_
      refine ai.bD (hJ _ rfl) 3 (n:=0) _ rfl rfl ?_;simp only[*,go_sem,-a,-hM,-hJ]
      refine ai.nil hM (a _ _ _ ?_);clear a K
      repeat refine ax (hM _) ?_
      refine cW (hM _) (by simp only[*,go_sem,-hM,-hJ]) ?_
      repeat refine ax (hM _) ?_
      refine aZ hM fun K a=>?_
      refine ai.bD (hJ _ rfl) 3 (n:=0) _ rfl rfl ?_;simp only[*,go_sem,-a,-hM,-hJ]
      refine ai.nil hM (a _ _ _ ?_);clear a K
      exact ew ⟨rfl,(by simp only[*,go_sem,-hM,-hJ]),(by simp only[*,go_sem,-hM,-hJ]),(by simp only[*,go_sem,-hM,-hJ]),(by simp only[*,go_sem,-hM,-hJ]),(by simp only[*,go_sem,-hM,-hJ]),(by simp only[*,go_sem,-hM,-hJ]),fun y f=>by cases f;simp only[*,go_sem,-hM,-hJ],(by simp only[*,go_sem,-hM,-hJ]),(by simp only[*,go_sem,-hM,-hJ]),rfl⟩
     ·have b4:dS old 4=4:=hw.a4
      obtain rfl:=q rfl
      clear g q
      repeat refine ax (hM _) ?_
      refine aZ hM fun K a=>?_
      refine ai.bD (hJ _ rfl) 3 (n:=0) _ rfl rfl ?_;simp only[*,go_sem,-a,-hM,-hJ]
      refine ai.nil hM (a _ _ _ ?_);clear a K
      repeat refine ax (hM _) ?_
      refine cA (hM _) (by simp only[*,go_sem,-hM,-hJ]) ?_
      refine cE (hM _) ?_
      exact ew ⟨rfl,(by simp only[*,go_sem,-hM,-hJ]),(by simp only[*,go_sem,-hM,-hJ]),(by simp only[*,go_sem,-hM,-hJ]),(by simp only[*,go_sem,-hM,-hJ]),(by simp only[*,go_sem,-hM,-hJ]),(by simp only[*,go_sem,-hM,-hJ]),fun y f=>by cases f;simp only[*,go_sem,-hM,-hJ],(by simp only[*,go_sem,-hM,-hJ]),(by simp only[*,go_sem,-hM,-hJ]),rfl⟩
    clear d j k x z H c hd
    rintro A b Z ⟨rfl,d,j,k,x,z,H,p,c,hd,rfl⟩
    replace p:=p _ rfl
    obtain ⟨Q,u,D⟩:∃Q:Int,(S=1\/L=1->Q=P+8)/\(S=0->L=0->Q=P):=⟨if S=1\/L=1 then P+8 else P,fun e=>by simp[e],fun e cd=>by simp[e,cd]⟩
    refine kH hM (qy Mu st b wt it old (some Q) sv aw G) ?_ ?_
    ·by_cases X:S=1\/L=1
     ·have b5:=hw.a5
      have cb:(((4*S+L:Nat):Int) != 0)=true:=by simp;omega
      have fi:IntKind.i32.wrap (P+8)=Q:=by
       have e0:=hw.st.eq
       rw[u X]
       refine iH ?_ ?_<;>rcases cS with rfl|rfl<;>first|(have:=g rfl;omega)|(have:=q rfl;omega)
      clear g q u D X
      repeat refine ax (hM _) ?_
      refine aZ hM fun K a=>?_
      refine ai.bD (hJ _ rfl) 3 (n:=0) _ rfl rfl ?_;simp only[*,go_sem,-a,-hM,-hJ]
      refine ai.nil hM (a _ _ _ ?_);clear a K
      repeat refine ax (hM _) ?_
      refine cW (hM _) (by simp only[*,go_sem,-hM,-hJ]) ?_
      repeat refine ax (hM _) ?_
      refine aZ hM fun K a=>?_
      refine ai.bD (hJ _ rfl) 3 (n:=0) _ rfl rfl ?_;simp only[*,go_sem,-a,-hM,-hJ]
      refine ai.nil hM (a _ _ _ ?_);clear a K
      exact ew ⟨rfl,(by simp only[*,go_sem,-hM,-hJ]),(by simp only[*,go_sem,-hM,-hJ]),(by simp only[*,go_sem,-hM,-hJ]),(by simp only[*,go_sem,-hM,-hJ]),(by simp only[*,go_sem,-hM,-hJ]),(by simp only[*,go_sem,-hM,-hJ]),fun y f=>by cases f;simp only[*,go_sem,-hM,-hJ],(by simp only[*,go_sem,-hM,-hJ]),(by simp only[*,go_sem,-hM,-hJ]),rfl⟩
     ·obtain rfl:S=0:=by omega
      obtain rfl:L=0:=by omega
      have b5:dS old 5=0:=hw.a5
      obtain rfl:=D rfl rfl
      clear g q u D X
      repeat refine ax (hM _) ?_
      refine aZ hM fun K a=>?_
      refine ai.bD (hJ _ rfl) 3 (n:=0) _ rfl rfl ?_;simp only[*,go_sem,-a,-hM,-hJ]
      refine ai.nil hM (a _ _ _ ?_);clear a K
      repeat refine ax (hM _) ?_
      refine cA (hM _) (by simp only[*,go_sem,-hM,-hJ]) ?_
      refine cE (hM _) ?_
      exact ew ⟨rfl,(by simp only[*,go_sem,-hM,-hJ]),(by simp only[*,go_sem,-hM,-hJ]),(by simp only[*,go_sem,-hM,-hJ]),(by simp only[*,go_sem,-hM,-hJ]),(by simp only[*,go_sem,-hM,-hJ]),(by simp only[*,go_sem,-hM,-hJ]),fun y f=>by cases f;simp only[*,go_sem,-hM,-hJ],(by simp only[*,go_sem,-hM,-hJ]),(by simp only[*,go_sem,-hM,-hJ]),rfl⟩
    clear d j k x z H p c hd
    rintro A b Z ⟨rfl,d,j,k,x,z,H,p,c,hd,rfl⟩
    replace p:=p _ rfl
    obtain ⟨J,M,r⟩:∃J:Int,(sv=true->L=1->J=Q+4)/\(¬(sv=true/\L=1)->J=Q):=⟨if sv=true/\L=1 then Q+4 else Q,fun e cd=>by simp[e,cd],fun e=>by simp[e]⟩
    refine kH hM (qy Mu st b wt it old (some J) sv aw G) ?_ ?_
    ·cases sv
     ·obtain rfl:=r (by simp)
      clear g q u D M r
      repeat refine ax (hM _) ?_
      refine aZ hM fun K a=>?_
      refine ai.bD (hJ _ rfl) 6 (n:=0) _ rfl rfl ?_;simp only[*,go_sem,-a,-hM,-hJ]
      refine ai.nil hM (a _ _ _ ?_);clear a K
      repeat refine ax (hM _) ?_
      refine cA (hM _) (by simp only[*,go_sem,-hM,-hJ]) ?_
      refine cE (hM _) ?_
      exact ew ⟨rfl,(by simp only[*,go_sem,-hM,-hJ]),(by simp only[*,go_sem,-hM,-hJ]),(by simp only[*,go_sem,-hM,-hJ]),(by simp only[*,go_sem,-hM,-hJ]),(by simp only[*,go_sem,-hM,-hJ]),(by simp only[*,go_sem,-hM,-hJ]),fun y f=>by cases f;simp only[*,go_sem,-hM,-hJ],(by simp only[*,go_sem,-hM,-hJ]),(by simp only[*,go_sem,-hM,-hJ]),rfl⟩
     ·obtain rfl:aw=true:=U rfl
      rcases a6 with rfl|rfl
      ·have dT:dS old 1=0:=hw.a1
       obtain rfl:=r (by simp)
       clear g q u D M r
       repeat refine ax (hM _) ?_
       refine aZ hM fun K a=>?_
       refine ai.bD (hJ _ rfl) 6 (n:=0) _ rfl rfl ?_;simp only[*,go_sem,-a,-hM,-hJ]
       refine ai.nil hM (a _ _ _ ?_);clear a K
       repeat refine ax (hM _) ?_
       refine cA (hM _) (by simp only[*,go_sem,-hM,-hJ]) ?_
       refine cE (hM _) ?_
       exact ew ⟨rfl,(by simp only[*,go_sem,-hM,-hJ]),(by simp only[*,go_sem,-hM,-hJ]),(by simp only[*,go_sem,-hM,-hJ]),(by simp only[*,go_sem,-hM,-hJ]),(by simp only[*,go_sem,-hM,-hJ]),(by simp only[*,go_sem,-hM,-hJ]),fun y f=>by cases f;simp only[*,go_sem,-hM,-hJ],(by simp only[*,go_sem,-hM,-hJ]),(by simp only[*,go_sem,-hM,-hJ]),rfl⟩
      ·have dT:dS old 1=1:=hw.a1
       have o4:ji Q 4=J:=by
        have e0:=hw.st.eq
        obtain ⟨rfl,rfl⟩:=V rfl
        have e1:=g rfl
        have e2:=u (.inr rfl)
        rw[M rfl rfl,(wd (C:=C+1) (S:=0) (W:=1) (L:=1) ⟨by omega,by omega,by omega,by omega⟩ (by omega)).o4]
        omega
       clear g q u D M r
       repeat refine ax (hM _) ?_
       refine aZ hM fun K a=>?_
       refine ai.bD (hJ _ rfl) 6 (n:=0) _ rfl rfl ?_;simp only[*,go_sem,-a,-hM,-hJ]
       refine ai.nil hM (a _ _ _ ?_);clear a K
       repeat refine ax (hM _) ?_
       refine cW (hM _) (by simp only[*,go_sem,-hM,-hJ]) ?_
       repeat refine ax (hM _) ?_
       refine aZ hM fun K a=>?_
       refine ai.bD (hJ _ rfl) 3 (n:=0) _ rfl rfl ?_;simp only[*,go_sem,-a,-hM,-hJ]
       refine ai.nil hM (a _ _ _ ?_);clear a K
       exact ew ⟨rfl,(by simp only[*,go_sem,-hM,-hJ]),(by simp only[*,go_sem,-hM,-hJ]),(by simp only[*,go_sem,-hM,-hJ]),(by simp only[*,go_sem,-hM,-hJ]),(by simp only[*,go_sem,-hM,-hJ]),(by simp only[*,go_sem,-hM,-hJ]),fun y f=>by cases f;simp only[*,go_sem,-hM,-hJ],(by simp only[*,go_sem,-hM,-hJ]),(by simp only[*,go_sem,-hM,-hJ]),rfl⟩
    clear d j k x z H p c hd
    rintro A b Z ⟨rfl,d,j,k,x,z,H,p,c,hd,rfl⟩
    replace p:=p _ rfl
    obtain ⟨ad,R,T⟩:∃ad:Int,(aw=true->ad=J - 2)/\(aw=false->ad=J):=⟨if aw then J - 2 else J,fun e=>by simp[e],fun e=>by simp[e]⟩
    refine kH hM (qy Mu st b wt it old (some ad) sv aw G) ?_ ?_
    ·cases aw
     ·obtain rfl:=T rfl
      clear g q u D M r R T
      repeat refine ax (hM _) ?_
      refine aZ hM fun K a=>?_
      refine ai.bD (hJ _ rfl) 1 (n:=0) _ rfl rfl ?_;simp only[*,go_sem,-a,-hM,-hJ]
      refine ai.nil hM (a _ _ _ ?_);clear a K
      repeat refine ax (hM _) ?_
      refine cA (hM _) (by simp only[*,go_sem,-hM,-hJ]) ?_
      refine cE (hM _) ?_
      exact ew ⟨rfl,(by simp only[*,go_sem,-hM,-hJ]),(by simp only[*,go_sem,-hM,-hJ]),(by simp only[*,go_sem,-hM,-hJ]),(by simp only[*,go_sem,-hM,-hJ]),(by simp only[*,go_sem,-hM,-hJ]),(by simp only[*,go_sem,-hM,-hJ]),fun y f=>by cases f;simp only[*,go_sem,-hM,-hJ],(by simp only[*,go_sem,-hM,-hJ]),(by simp only[*,go_sem,-hM,-hJ]),rfl⟩
     ·obtain ⟨rfl,rfl⟩:=V rfl
      have ab:∃O ae,Wd J O ae 1 1:=by
       have e0:=hw.st.eq
       have e1:=g rfl
       rcases a6 with rfl|rfl
       ·have e2:=D rfl rfl
        have ao:=r (by simp)
        exact ⟨C,0,wd ⟨by omega,by omega,by omega,by omega⟩ (by omega)⟩
       ·have e2:=u (.inr rfl)
        cases sv
        ·have ao:=r (by simp)
         exact ⟨C+1,0,wd ⟨by omega,by omega,by omega,by omega⟩ (by omega)⟩
        ·have ao:=M rfl rfl
         exact ⟨C+1,1,wd ⟨by omega,by omega,by omega,by omega⟩ (by omega)⟩
      obtain ⟨O,ae,ab⟩:=ab
      have b2:dS J 2=2:=ab.a2
      have n2:qt J 2=ad:=by rw[R rfl,ab.n2];rfl
      clear g q u D M r R T
      repeat refine ax (hM _) ?_
      refine aZ hM fun K a=>?_
      refine ai.bD (hJ _ rfl) 1 (n:=0) _ rfl rfl ?_;simp only[*,go_sem,-a,-hM,-hJ]
      refine ai.nil hM (a _ _ _ ?_);clear a K
      repeat refine ax (hM _) ?_
      refine cW (hM _) (by simp only[*,go_sem,-hM,-hJ]) ?_
      repeat refine ax (hM _) ?_
      refine aZ hM fun K a=>?_
      refine ai.bD (hJ _ rfl) 3 (n:=0) _ rfl rfl ?_;simp only[*,go_sem,-a,-hM,-hJ]
      refine ai.nil hM (a _ _ _ ?_);clear a K
      repeat refine ax (hM _) ?_
      refine cA (hM _) (by simp only[*,go_sem,-hM,-hJ]) ?_
      refine cE (hM _) ?_
      repeat refine ax (hM _) ?_
      refine aZ hM fun K a=>?_
      refine ai.bD (hJ _ rfl) 3 (n:=0) _ rfl rfl ?_;simp only[*,go_sem,-a,-hM,-hJ]
      refine ai.nil hM (a _ _ _ ?_);clear a K
      exact ew ⟨rfl,(by simp only[*,go_sem,-hM,-hJ]),(by simp only[*,go_sem,-hM,-hJ]),(by simp only[*,go_sem,-hM,-hJ]),(by simp only[*,go_sem,-hM,-hJ]),(by simp only[*,go_sem,-hM,-hJ]),(by simp only[*,go_sem,-hM,-hJ]),fun y f=>by cases f;simp only[*,go_sem,-hM,-hJ],(by simp only[*,go_sem,-hM,-hJ]),(by simp only[*,go_sem,-hM,-hJ]),rfl⟩
    clear d j k x z H p c hd
    rintro A b Z ⟨rfl,d,j,k,x,z,H,p,c,hd,rfl⟩
    replace p:=p _ rfl
    repeat refine ax (hM _) ?_
    refine aZ hM fun K a=>?_
    refine ai.bD (hJ _ rfl) 5 (n:=1) _ rfl rfl ?_;simp only[*,go_sem,-a,-hM,-hJ]
    refine tr old ad th aG ⟨_,_,_,rfl,(by first|(simp only[*,go_sem,-a,-hM,-hJ];done)|rfl),rfl,by first|(simp only[*,go_sem,-a,-hM,-hJ];done)|(simp only[*,go_sem,-a,-hM,-hJ];rfl),rfl⟩ (by rfl) (by simp) (fun φ ms br al bz Y o he hi hm=>?_) (fun φ mu ms br al bz Y o he hi hm db=>?_)
    ·obtain ⟨rfl,rfl,rfl,rfl⟩:=hm.st.uniq hw.st
     by_cases X:al=0/\Y=0
     ·obtain ⟨rfl,rfl⟩:=X
      have N:ad=old+1 - (if aw then 2 else 0):=by
       have e1:=g rfl
       have e2:=D rfl rfl
       have ao:=r (by simp)
       cases aw
       ·have N:=T rfl
        simp;omega
       ·have N:=R rfl
        simp;omega
      have b5:dS old 5=0:=hw.a5
      refine ⟨.held,by rw[N];exact ⟨_,_,_,_,o,Ik hm hi _ (by rw[he]) rfl rfl rfl (fun e=>(V e).2)⟩,?_⟩
      clear g q u D M r R T N he hi hm U V cS a6 bc
      refine ai.nil hM (a _ _ _ ?_);clear a K
      repeat refine ax (hM _) ?_
      refine cW (hM _) (by simp only[*,go_sem,-hM,-hJ]) ?_
      repeat refine ax (hM _) ?_
      refine aZ hM fun K a=>?_
      refine ai.bD (hJ _ rfl) 3 (n:=0) _ rfl rfl ?_;simp only[*,go_sem,-a,-hM,-hJ]
      refine ai.nil hM (a _ _ _ ?_);clear a K
      repeat refine ax (hM _) ?_
      refine cW (hM _) (by simp only[*,go_sem,-hM,-hJ]) ?_
      refine oA ?_
      change tB Mu st b _ _ _
      exact ⟨rfl,(by simp only[*,go_sem,-hM,-hJ]),(by simp only[*,go_sem,-hM,-hJ]),(by simp only[*,go_sem,-hM,-hJ]),rfl⟩
     ·have cf:al=1\/Y=1:=by omega
      have N:ad=old+8+(if sv then 4 else 0) - (if aw then 2 else 0):=by
       have e2:=u cf
       rcases cS with rfl|rfl
       ·have e1:=g rfl
        obtain rfl:Y=1:=by omega
        cases sv
        ·have ao:=r (by simp)
         cases aw
         ·have N:=T rfl
          simp;omega
         ·have N:=R rfl
          simp;omega
        ·obtain rfl:aw=true:=U rfl
         have ao:=M rfl rfl
         have N:=R rfl
         simp;omega
       ·have ea:aw=false:=by
         cases aw
         ·rfl
         ·exact absurd (V rfl).1 (by omega)
        subst ea
        have eb:sv=false:=by
         cases sv
         ·rfl
         ·exact absurd (U rfl) (by simp)
        subst eb
        have e1:=q rfl
        have ao:=r (by simp)
        have N:=T rfl
        simp;omega
      have dd:sv=true->aw=true/\Y=1:=fun e=>⟨U e,by have:=V (U e);omega⟩
      have df:bM n φ ms<=G:=(hm.seen i hi (some old) G (by rw[he];rfl)).1
      have b5:=hw.a5
      have cb:(((4*al+Y:Nat):Int)==0)=false:=by simp;omega
      refine ⟨.iF (bM n φ ms),by rw[N];exact ⟨_,_,_,_,o,Il hm hi _ (by rw[he]) rfl cf dd⟩,?_⟩
      clear g q u D M r R T N he hi hm U V cS a6 bc X cf dd
      revert df
      generalize bM n φ ms=B
      intro df
      refine ai.nil hM (a _ _ _ ?_);clear a K
      repeat refine ax (hM _) ?_
      refine cW (hM _) (by simp only[*,go_sem,-hM,-hJ]) ?_
      repeat refine ax (hM _) ?_
      refine aZ hM fun K a=>?_
      refine ai.bD (hJ _ rfl) 3 (n:=0) _ rfl rfl ?_;simp only[*,go_sem,-a,-hM,-hJ]
      refine ai.nil hM (a _ _ _ ?_);clear a K
      repeat refine ax (hM _) ?_
      refine cA (hM _) (by simp only[*,go_sem,-hM,-hJ]) ?_
      refine cE (hM _) ?_
      repeat refine ax (hM _) ?_
      refine aZ hM fun K a=>?_
      refine ai.bD (hJ _ rfl) 3 (n:=0) _ rfl rfl ?_;simp only[*,go_sem,-a,-hM,-hJ]
      refine ai.nil hM (a _ _ _ ?_);clear a K
      repeat refine ax (hM _) ?_
      refine aZ hM fun K a=>?_
      refine ai.bD (hJ _ rfl) 2 (n:=0) _ rfl rfl ?_;simp only[*,go_sem,-a,-hM,-hJ]
      refine ai.nil hM (a _ _ _ ?_);clear a K
      first|refine kH hM (CP Mu st b sv (.iF B)) ?_ ?_|refine tw hM (CP Mu st b sv (.iF B)) ?_ ?_
      ·cases fo:(wt==0)
       ·repeat refine ax (hM _) ?_
        refine cA (hM _) (by simp only[*,go_sem,-hM,-hJ]) ?_
        refine cE (hM _) ?_
        exact ew ⟨wt,rfl,(by simp only[*,go_sem,-hM,-hJ]),(by simp only[*,go_sem,-hM,-hJ]),(by simp only[*,go_sem,-hM,-hJ]),(by simp only[*,go_sem,-hM,-hJ]),(by simp only[*,go_sem,-hM,-hJ]),rfl⟩
       ·repeat refine ax (hM _) ?_
        refine cW (hM _) (by simp only[*,go_sem,-hM,-hJ]) ?_
        repeat refine ax (hM _) ?_
        refine aZ hM fun K a=>?_
        refine CO CC CH ⟨_,_,_,rfl,(by first|(simp only[*,go_sem,-a,-hM,-hJ];done)|rfl),rfl,by first|(simp only[*,go_sem,-a,-hM,-hJ];done)|(simp only[*,go_sem,-a,-hM,-hJ];rfl),rfl⟩ (by simp) fun t=>?_
        refine ai.bD (hJ _ rfl) 1 (n:=0) _ rfl rfl ?_;simp only[*,go_sem,-a,-hM,-hJ]
        refine ai.nil hM (a _ _ _ ?_);clear a K
        exact ew ⟨t,rfl,(by simp only[*,go_sem,-hM,-hJ]),(by simp only[*,go_sem,-hM,-hJ]),(by simp only[*,go_sem,-hM,-hJ]),(by simp only[*,go_sem,-hM,-hJ]),(by simp only[*,go_sem,-hM,-hJ]),rfl⟩
      clear d j k x z H p c hd b5 cb
      rintro A b Z ⟨dk,rfl,d,j,k,c,hd,rfl⟩
      repeat refine ax (hM _) ?_
      refine aZ hM fun K a=>?_
      refine ai.bD (hJ _ rfl) 4 (n:=1) _ rfl rfl ?_;simp only[*,go_sem,-a,-hM,-hJ]
      refine Jj (slot A 8) (.int .i64 2) I2 aG ⟨_,_,_,rfl,(by first|(simp only[*,go_sem,-a,-hM,-hJ];done)|rfl),rfl,by first|(simp only[*,go_sem,-a,-hM,-hJ];done)|(simp only[*,go_sem,-a,-hM,-hJ];rfl),rfl⟩ (by rfl) rfl ?_
      refine ai.nil hM (a _ _ _ ?_);clear a K
      first|refine kH hM (CQ Mu st b (.jJ B)) ?_ ?_|refine tw hM (CQ Mu st b (.jJ B)) ?_ ?_
      ·cases sv
       ·repeat refine ax (hM _) ?_
        refine aZ hM fun K a=>?_
        refine ai.bD (hJ _ rfl) 2 (n:=6) _ rfl rfl ?_;simp only[*,go_sem,-a,-hM,-hJ]
        refine CO CC CH ⟨_,_,_,rfl,(by first|(simp only[*,go_sem,-a,-hM,-hJ];done)|rfl),rfl,by first|(simp only[*,go_sem,-a,-hM,-hJ];done)|(simp only[*,go_sem,-a,-hM,-hJ];rfl),rfl⟩ (by simp) fun t=>?_
        refine ai.bD (hJ _ rfl) 5 (n:=0) _ rfl rfl ?_;simp only[*,go_sem,-a,-hM,-hJ]
        refine ai.nil hM (a _ _ _ ?_);clear a K
        exact ew ⟨dk,_,rfl,(by simp only[*,go_sem,-hM,-hJ]),(by simp only[*,go_sem,-hM,-hJ]),(by simp only[*,go_sem,-hM,-hJ];rfl),(by simp only[*,go_sem,-hM,-hJ]),(by simp only[*,go_sem,-hM,-hJ]),rfl⟩
       ·repeat refine ax (hM _) ?_
        refine aZ hM fun K a=>?_
        refine ai.bD (hJ _ rfl) 8 (n:=0) _ rfl rfl ?_;simp only[*,go_sem,-a,-hM,-hJ]
        refine ai.nil hM (a _ _ _ ?_);clear a K
        exact ew ⟨dk,true,rfl,(by simp only[*,go_sem,-hM,-hJ]),(by simp only[*,go_sem,-hM,-hJ]),(by simp only[*,go_sem,-hM,-hJ]),(by simp only[*,go_sem,-hM,-hJ]),(by simp only[*,go_sem,-hM,-hJ]),rfl⟩
      clear d j k c hd
      rintro A b Z ⟨ec,dp,rfl,d,j,k,c,hd,rfl⟩
      repeat refine ax (hM _) ?_
      refine aZ hM fun K a=>?_
      refine ai.bD (hJ _ rfl) 3 (n:=2) _ rfl rfl ?_;simp only[*,go_sem,-a,-hM,-hJ]
      refine oE tj oC ⟨_,rfl,(by first|(simp only[*,go_sem,-a,-hM,-hJ];done)|rfl),rfl,rfl⟩ (by rfl) (by simp only[*,go_sem,-a,-hM,-hJ]) (fun φ mu ms E a9 cl cu bl he hi hm=>?_)
      have dq:E<=3*n:=hm.bound
      have ar:=wd hm.st (by omega)
      rcases (by have:=hm.st.s;omega:a9=0\/a9=1) with rfl|rfl
      ·obtain ⟨I,rfl,cy⟩:=Io hm hi {mp:=.want true mu (bM n φ ms),gp:=.cnt,stored:=st,deaf:=1} (by rw[he]) rfl rfl
       have fp:bM n φ ms<B:=cy
       refine ⟨.want true mu (bM n φ ms),⟨_,_,_,_,bl,I⟩,?_⟩
       have b4:dS mu 4=0:=ar.a4
       clear I cy
       refine ai.bD (hJ _ rfl) 1 (n:=0) _ rfl rfl ?_;simp only[*,go_sem,-a,-hM,-hJ]
       refine ai.nil hM (a _ _ _ ?_);clear a K
       repeat refine ax (hM _) ?_
       refine aZ hM fun K a=>?_
       refine ai.bD (hJ _ rfl) 3 (n:=0) _ rfl rfl ?_;simp only[*,go_sem,-a,-hM,-hJ]
       refine ai.nil hM (a _ _ _ ?_);clear a K
       repeat refine ax (hM _) ?_
       refine cA (hM _) (by simp only[*,go_sem,-hM,-hJ]) ?_
       refine cE (hM _) ?_
       repeat refine ax (hM _) ?_
       refine aZ hM fun K a=>?_
       refine ai.bD (hJ _ rfl) 1 (n:=0) _ rfl rfl ?_;simp only[*,go_sem,-a,-hM,-hJ]
       refine ai.nil hM (a _ _ _ ?_);clear a K
       repeat refine ax (hM _) ?_
       refine aZ hM fun K a=>?_
       refine ai.bD (hJ _ rfl) 1 (n:=0) _ rfl rfl ?_;simp only[*,go_sem,-a,-hM,-hJ]
       refine ai.nil hM (a _ _ _ ?_);clear a K
       change ∃o,o<m/\tA Mu n st b o _ _ _
       exact ⟨8*bM n φ ms+5,by omega,ec,0,mu,dp,true,E,0,1,cu,bM n φ ms,rfl,(by simp only[*,go_sem,-hM,-hJ]),(by simp only[*,go_sem,-hM,-hJ]),(by simp only[*,go_sem,-hM,-hJ]),(by simp only[*,go_sem,-hM,-hJ]),(by simp only[*,go_sem,-hM,-hJ]),(by simp only[*,go_sem,-hM,-hJ]),(by simp only[*,go_sem,-hM,-hJ]),(by simp only[*,go_sem,-hM,-hJ]),ar,dq,by omega,by omega,fun _=>rfl,fun _=>⟨rfl,rfl⟩,by simp,rfl⟩
      ·obtain ⟨I,rfl,rfl,ed⟩:=Ip hm hi {mp:=.kE (decide (2<=E)),gp:=.cnt,stored:=st,deaf:=1} (by rw[he]) rfl rfl
       refine ⟨.kE (decide (2<=E)),⟨_,_,_,_,bl,I⟩,?_⟩
       have b4:dS mu 4=4:=ar.a4
       have b3:dS mu 3=0:=ar.a3
       have bo:((E:Int)==0)=false:=by simp;omega
       have c0:=ar.sh
       obtain ⟨y,f⟩:∃y,decide (2<=E)=y:=⟨_,rfl⟩
       have a0:((E:Int)==1)=false->y=true:=fun e=>by rw[<-f];simp at e ⊢;omega
       rw[f]
       clear I he hi hm ar dq ed f
       refine ai.bD (hJ _ rfl) 1 (n:=0) _ rfl rfl ?_;simp only[*,go_sem,-a,-hM,-hJ]
       refine ai.nil hM (a _ _ _ ?_);clear a K
       repeat refine ax (hM _) ?_
       refine aZ hM fun K a=>?_
       refine ai.bD (hJ _ rfl) 3 (n:=0) _ rfl rfl ?_;simp only[*,go_sem,-a,-hM,-hJ]
       refine ai.nil hM (a _ _ _ ?_);clear a K
       repeat refine ax (hM _) ?_
       refine cW (hM _) (by simp only[*,go_sem,-hM,-hJ]) ?_
       repeat refine ax (hM _) ?_
       refine aZ hM fun K a=>?_
       refine ai.bD (hJ _ rfl) 5 (n:=3) _ rfl rfl ?_;simp only[*,go_sem,-a,-hM,-hJ]
       refine ai.mV mu (E:Int) (hM _) ⟨_,rfl,(by first|(simp only[*,go_sem,-a,-hM,-hJ];done)|rfl),rfl,rfl⟩ (by simp only[*,go_sem,-a,-hM,-hJ]) (by simp only[*,go_sem,-a,-hM,-hJ]) c0 ?_
       refine ai.bD (hJ _ rfl) 2 (n:=0) _ rfl rfl ?_;simp only[*,go_sem,-a,-hM,-hJ]
       refine ai.nil hM (a _ _ _ ?_);clear a K
       repeat refine ax (hM _) ?_
       refine cA (hM _) (by simp only[*,go_sem,-hM,-hJ]) ?_
       refine cE (hM _) ?_
       repeat refine ax (hM _) ?_
       refine aZ hM fun K a=>?_
       refine ai.bD (hJ _ rfl) 1 (n:=0) _ rfl rfl ?_;simp only[*,go_sem,-a,-hM,-hJ]
       refine ai.nil hM (a _ _ _ ?_);clear a K
       repeat refine ax (hM _) ?_
       refine tw hM (Js Mu st b y) ?_ ?_
       ·cases dp
        ·repeat refine ax (hM _) ?_
         refine aZ hM fun K a=>?_
         refine ai.bD (hJ _ rfl) 7 (n:=0) _ rfl rfl ?_;simp only[*,go_sem,-a,-hM,-hJ]
         refine ai.nil hM (a _ _ _ ?_);clear a K
         exact ew ⟨true,rfl,(by simp only[*,go_sem,-hM,-hJ]),(by simp only[*,go_sem,-hM,-hJ]),(by simp only[*,go_sem,-hM,-hJ]),(by simp only[*,go_sem,-hM,-hJ]),(by simp only[*,go_sem,-hM,-hJ]),by simp,rfl⟩
        ·repeat refine ax (hM _) ?_
         refine aZ hM fun K a=>?_
         refine ai.bD (hJ _ rfl) 4 (n:=3) _ rfl rfl ?_;simp only[*,go_sem,-a,-hM,-hJ]
         refine ai.mV mu (E:Int) (hM _) ⟨_,rfl,(by first|(simp only[*,go_sem,-a,-hM,-hJ];done)|rfl),rfl,rfl⟩ (by simp only[*,go_sem,-a,-hM,-hJ]) (by simp only[*,go_sem,-a,-hM,-hJ]) c0 ?_
         refine ai.bD (hJ _ rfl) 2 (n:=0) _ rfl rfl ?_;simp only[*,go_sem,-a,-hM,-hJ]
         refine ai.nil hM (a _ _ _ ?_);clear a K
         exact ew ⟨(E:Int)==1,rfl,(by simp only[*,go_sem,-hM,-hJ]),(by simp only[*,go_sem,-hM,-hJ]),(by simp only[*,go_sem,-hM,-hJ]),(by simp only[*,go_sem,-hM,-hJ]),(by simp only[*,go_sem,-hM,-hJ]),a0,rfl⟩
       clear d j k c hd b4 b3 bo c0 a0
       rintro A b Z ⟨e,rfl,d,fr,fs,c,hd,a0,rfl⟩
       cases e
       ·obtain rfl:=a0 rfl
        clear a0
        repeat refine ax (hM _) ?_
        refine cA (hM _) (by simp only[*,go_sem,-hM,-hJ]) ?_
        refine cE (hM _) ?_
        repeat refine ax (hM _) ?_
        refine aZ hM fun K a=>?_
        refine ai.bD (hJ _ rfl) 4 (n:=1) _ rfl rfl ?_;simp only[*,go_sem,-a,-hM,-hJ]
        refine ya (-7) xW aG ⟨_,_,_,rfl,(by first|(simp only[*,go_sem,-a,-hM,-hJ];done)|rfl),rfl,by first|(simp only[*,go_sem,-a,-hM,-hJ];done)|(simp only[*,go_sem,-a,-hM,-hJ];rfl),rfl⟩ (by rfl) (by simp) (fun φ mu ms O ae bk bS b0 he hi hm=>⟨.held,_,?_,⟨_,_,_,_,_,Ca hm hi {mp:=.held,gp:=.cnt,stored:=st,deaf:=1} false (by rw[he]) rfl (fun _=>rfl)⟩,?_⟩)
        ·have e0:=hm.st.eq
         have a8:O<=3*n:=hm.bound
         have eh:=hm.st.s
         have et:=hm.st.w
         have eu:=hm.st.l
         rw[iH (by omega) (by omega)]
         simp;omega
        refine ai.nil hM (a _ _ _ ?_);clear a K
        refine oA ?_
        change tB Mu st b _ _ _
        exact ⟨rfl,(by simp only[*,go_sem,-hM,-hJ]),(by simp only[*,go_sem,-hM,-hJ]),(by simp only[*,go_sem,-hM,-hJ]),rfl⟩
       ·clear a0
        repeat refine ax (hM _) ?_
        refine cW (hM _) (by simp only[*,go_sem,-hM,-hJ]) ?_
        repeat refine ax (hM _) ?_
        refine aZ hM fun K a=>?_
        refine ai.bD (hJ _ rfl) 3 (n:=0) _ rfl rfl ?_;simp only[*,go_sem,-a,-hM,-hJ]
        refine ai.nil hM (a _ _ _ ?_);clear a K
        repeat refine ax (hM _) ?_
        refine aZ hM fun K a=>?_
        refine ai.bD (hJ _ rfl) 4 (n:=1) _ rfl rfl ?_;simp only[*,go_sem,-a,-hM,-hJ]
        refine ya (-11) xW aG ⟨_,_,_,rfl,(by first|(simp only[*,go_sem,-a,-hM,-hJ];done)|rfl),rfl,by first|(simp only[*,go_sem,-a,-hM,-hJ];done)|(simp only[*,go_sem,-a,-hM,-hJ];rfl),rfl⟩ (by rfl) (by simp) (fun φ mu ms O ae bk bS b0 he hi hm=>⟨.held,_,?_,⟨_,_,_,_,_,Ca hm hi {mp:=.held,gp:=.cnt,stored:=st,deaf:=1} true (by rw[he]) rfl (by simp)⟩,?_⟩)
        ·have e0:=hm.st.eq
         have a8:O<=3*n:=hm.bound
         have eh:=hm.st.s
         have et:=hm.st.w
         have eu:=hm.st.l
         rw[iH (by omega) (by omega)]
         simp;omega
        refine ai.nil hM (a _ _ _ ?_);clear a K
        refine oA ?_
        change tB Mu st b _ _ _
        exact ⟨rfl,(by simp only[*,go_sem,-hM,-hJ]),(by simp only[*,go_sem,-hM,-hJ]),(by simp only[*,go_sem,-hM,-hJ]),rfl⟩
    ·obtain ⟨I,a7,bd⟩:=s6 hm hi {mp:=.want aw mu (bM n φ ms),gp:=.cnt,stored:=st,deaf:=1} (by rw[he]) rfl
     have cy:bM n φ ms<G:=bd db
     refine ⟨.want aw mu (bM n φ ms),⟨_,_,_,_,o,I⟩,?_⟩
     clear g q u D M r R T I a7 bd he hi hm V cS a6 bc
     refine ai.nil hM (a _ _ _ ?_);clear a K
     repeat refine ax (hM _) ?_
     refine cA (hM _) (by simp only[*,go_sem,-hM,-hJ]) ?_
     repeat refine ax (hM _) ?_
     refine aZ hM fun K a=>?_
     refine ai.bD (hJ _ rfl) 3 (n:=2) _ rfl rfl ?_;simp only[*,go_sem,-a,-hM,-hJ]
     refine oE tj oC ⟨_,rfl,(by first|(simp only[*,go_sem,-a,-hM,-hJ];done)|rfl),rfl,rfl⟩ (by rfl) (by simp only[*,go_sem,-a,-hM,-hJ]) (fun ba da bb E a9 cl cu bl ds dt bm=>?_)
     obtain ⟨b1,du,_⟩:=s6 bm dt {mp:=.want aw da (bM n ba bb),gp:=.cnt,stored:=st,deaf:=1} (by rw[ds]) rfl
     have ft:bM n ba bb<=bM n φ ms:=du
     have a8:E<=3*n:=bm.bound
     have ab:=wd bm.st (by omega)
     have ca:aw=true->a9=0/\cl=1:=fun e=>by subst e;exact B9 bm dt (by rw[ds])
     refine ⟨.want aw da (bM n ba bb),⟨_,_,_,_,bl,b1⟩,?_⟩
     clear b1 du
     refine ai.bD (hJ _ rfl) 1 (n:=0) _ rfl rfl ?_;simp only[*,go_sem,-a,-hM,-hJ]
     refine ai.nil hM (a _ _ _ ?_);clear a K
     change ∃o,o<m/\tA Mu n st b o _ _ _
     exact ⟨8*bM n ba bb+(5 - it).toNat,by omega,wt,it,da,sv,aw,E,a9,cl,cu,bM n ba bb,rfl,(by simp only[*,go_sem,-hM,-hJ]),(by simp only[*,go_sem,-hM,-hJ]),(by simp only[*,go_sem,-hM,-hJ]),(by simp only[*,go_sem,-hM,-hJ]),(by simp only[*,go_sem,-hM,-hJ]),(by simp only[*,go_sem,-hM,-hJ]),(by simp only[*,go_sem,-hM,-hJ]),(by simp only[*,go_sem,-hM,-hJ]),ab,a8,by omega,by omega,U,ca,Nat.le_refl _,rfl⟩
 ·rintro A F' aL ⟨rfl,d,c,hd,rfl⟩
  repeat refine ax (hM _) ?_
  refine cW (hM _) (by simp only[*,go_sem,-hM,-hJ]) ?_
  repeat refine ax (hM _) ?_
  refine aZ hM fun K a=>?_
  refine tq lF ⟨_,_,_,rfl,(by first|(simp only[*,go_sem,-a,-hM,-hJ];done)|rfl),rfl,by first|(simp only[*,go_sem,-a,-hM,-hJ];done)|(simp only[*,go_sem,-a,-hM,-hJ];rfl),rfl⟩ (by simp) (by simp) rfl ?_
  refine ai.nil hM (a _ _ _ ?_);clear a K
  repeat refine ax (hM _) ?_
  refine aZ hM fun K a=>?_
  refine ai.bD (hJ _ rfl) 1 (n:=2) _ rfl rfl ?_;simp only[*,go_sem,-a,-hM,-hJ]
  refine tu ⟨Mu,0,none⟩ xY lG x2 ⟨_,rfl,(by first|(simp only[*,go_sem,-a,-hM,-hJ];done)|rfl),rfl,rfl⟩ (by simp) (by simp only[*,go_sem,-a,-hM,-hJ]) yb ?_
  refine CM tg ⟨_,_,_,rfl,(by first|(simp only[*,go_sem,-a,-hM,-hJ];done)|rfl),rfl,by first|(simp only[*,go_sem,-a,-hM,-hJ];done)|(simp only[*,go_sem,-a,-hM,-hJ];rfl),rfl⟩ (by rfl) ?_
  refine ai.nil hM (a _ _ _ ?_);clear a K
  exact lD rfl (by simp only[*,go_sem,-hM,-hJ]) ⟨rfl,rfl,rfl⟩
end
end Go.Proofs.YtpgcmoanfifglaaGreatDoor
end
section
namespace Go.Proofs.YtpgcmoanfifglaaGreatDoor
open Go Go.Sep Go.Proofs Go.Conc
open Go.ConcN (upd upd_same)
open Go.ConcM (muA msA)
open Go.ConcR (stA smA)
set_option maxRecDepth 100000
set_option maxHeartbeats 4000000
attribute [local go_sem] Int.reduceBEq Int.reduceBNe muA msA stA smA
section
variable {Mu Wg Is n base T0 i : Nat} {bs : Nat → Bool} {st : Bool} {F : aa}
theorem Ju (aG:Mu≠Wg/\Mu≠Is/\Wg≠Is)(a:n<67108864):
  cD Tryz.prog (WJ (CY Mu Wg Is n bs base T0) i) 137 #[.pointer (some (muA Mu))] F ⟨.idle,.cnt,st,0⟩ (fun v F' aL=>v= .tuple #[]/\F'=F/\aL=⟨.held,.cnt,st,0⟩):=by
 have hM:=WJ.ek (CY Mu Wg Is n bs base T0) i
 have hJ:∀ph:Ph,ph.gp= .cnt->Go.Sep.Closed Tryz.prog false (WJ (CY Mu Wg Is n bs base T0) i ph):=fun ph h=>Wk.closed (CY Mu Wg Is n bs base T0) i ph h
 refine cD.go (main:=false) hM Tryz.func137 rfl Tryz.ntmps137 (by simp) fun A c hd hs=>?_
 have d:=hs 0
 clear hs
 repeat refine ax (hM _) ?_
 refine cX hM ?_
 refine ai.bD (hJ _ rfl) 3 (n:=1) _ rfl rfl ?_;simp only[*,go_sem]
 refine ai.fW (hM _) rfl rfl rfl EE (by simp only[*,go_sem,muA]) (Jm aG (Jt aG a)) fun v F' aL b=>?_
 obtain ⟨rfl,rfl,rfl⟩:=b
 refine ai.nil hM ?_
 exact lD rfl (by simp only[*,go_sem]) ⟨rfl,rfl,rfl⟩
theorem Jv (aG:Mu≠Wg/\Mu≠Is/\Wg≠Is)(a:n<67108864):
  cD Tryz.prog (WJ (CY Mu Wg Is n bs base T0) i) 138 #[.pointer (some (muA Mu))] F ⟨.held,.cnt,st,0⟩ (fun v F' aL=>v= .tuple #[]/\F'=F/\aL=⟨.fin,.cnt,st,0⟩):=by
 have hM:=WJ.ek (CY Mu Wg Is n bs base T0) i
 have hJ:∀ph:Ph,ph.gp= .cnt->Go.Sep.Closed Tryz.prog false (WJ (CY Mu Wg Is n bs base T0) i ph):=fun ph h=>Wk.closed (CY Mu Wg Is n bs base T0) i ph h
 refine cD.go (main:=false) hM Tryz.func138 rfl Tryz.ntmps138 (by simp) fun A c hd hs=>?_
 have d:=hs 0
 clear hs
 repeat refine ax (hM _) ?_
 refine cX hM ?_
 refine ai.bD (hJ _ rfl) 3 (n:=1) _ rfl rfl ?_;simp only[*,go_sem]
 refine ai.fW (hM _) rfl rfl rfl EF (by simp only[*,go_sem,muA]) (Jp aG a) fun v F' aL b=>?_
 obtain ⟨rfl,rfl,rfl⟩:=b
 refine ai.nil hM ?_
 exact lD rfl (by simp only[*,go_sem]) ⟨rfl,rfl,rfl⟩
end
end Go.Proofs.YtpgcmoanfifglaaGreatDoor
end
section
namespace Go.Sep
open Go Go.Conc
def tC (op:BinOp)(u v:Value):Option Value:=match op with
 | .shl=>match u,v with
  | .int k a,.int _ b=>if b<0 then none else some (.int k (k.wrap (a*2 ^ min b.toNat k.bits)))
  |_,_=>none
 | .shr=>match u,v with
  | .int k a,.int _ b=>if b<0 then none else some (.int k (a.fdiv (2 ^ min b.toNat k.bits)))
  |_,_=>none
 |_=>m7 op u v
def oF (P:Program)(op:Op)(a:Act):Option Value:=match op with
 | .move x| .assign x=>some (ev a x)
 | .nilCheck x=>match ev a x with
  | .pointer (some ad)=>some (.pointer (some ad))
  |_=>none
 | .pick c x y=>match ev a c with
  | .bool b=>some (if b then ev a x else ev a y)
  |_=>none
 | .binOp op t x y _=>tC op (ev a x) (ev a y)
 | .unOp op _ x=>lQ op (ev a x)
 | .convert src dst x=>lS P src dst (ev a x)
 | .fieldAddr s x n=>match ev a x with
  | .pointer (some ad)=>match cN P s n with
   |some k=>some (.pointer (some (ad.add k)))
   |none=>none
  |_=>none
 |_=>none
theorem Jw {P:Program}{op:BinOp}{t:TypeId}{x y:Operand}{u v r:Value}(h:tC op u v=some r)(w:World):
  (do eqGuard op t x y u v;pure (.value (<-binOp op t u v)):Sem Next).run P w= .ok (.value r) w/\(do eqGuard op t x y u v;pure (.value (<-binOp op t u v)):Sem Next).events P w #[]=#[]:=by
 unfold tC at h
 split at h
 ·split at h
  case h_2=>cases h
  split at h
  ·cases h
  ·rename_i hb;cases h;simp[eqGuard,binOp,Op.shift,hb]
 ·split at h
  case h_2=>cases h
  split at h
  ·cases h
  ·rename_i hb;cases h;simp[eqGuard,binOp,Op.shift,hb]
 ·rename_i n1 n2
  unfold m7 at h
  split at h
  case h_2=>cases h
  rename_i k a d b
  split at h
  case isFalse=>cases h
  rename_i c
  subst c
  cases op<;>simp only[binOp,ne_eq,not_true_eq_false,if_false,Op.intArith,Op.intDiv,Op.intCmp,Op.intBits,Op.shift,eqGuard] at h ⊢<;>first
   |(cases h;done)
   |(exact absurd rfl n1)
   |(exact absurd rfl n2)
   |(cases h;simp;done)
   |(split at h
     ·cases h
     ·rename_i hb;cases h;simp[hb])
theorem CR {P:Program}{o:Oper}{a:Act}{v:Value}(h:oF P o.op a=some v)(w:World):(execOp a.eval o).run P w= .ok (.value v) w/\(execOp a.eval o).events P w #[]=#[]:=by
 obtain ⟨dst,op,type,pos,after,guard⟩:=o;unfold execOp;simp only[ey] at h ⊢;unfold oF at h;cases op<;>simp only[reduceCtorEq] at h ⊢
 case move x=>cases h;simp
 case assign x=>cases h;simp
 case nilCheck x=>
  split at h
  ·rename_i ad hx;cases h;simp[hx]
  ·cases h
 case pick c x y=>
  split at h
  ·rename_i b hb;cases h;simp[hb,asBool]
  ·cases h
 case binOp op t x y r=>have:=Jw (P:=P) (t:=t) (x:=x) (y:=y) h w;simpa using this
 case unOp op t x=>
  revert h;cases ev a x<;>cases op<;>simp only[lQ,reduceCtorEq,false_implies,Option.some.injEq]<;>intro h<;>subst h<;>simp[Op.unary,Op.intArith]
 case convert src dst x=>
  revert h;cases hx:ev a x<;>simp only[lS,reduceCtorEq,false_implies];intro h;split at h
  ·rename_i k1 u g i;cases h;simp[convert,run_underlying g,run_underlying i,Conv.intToInt]
  ·cases h
 case fieldAddr s x n=>
  split at h
  case h_2=>cases h
  rename_i ad j;split at h
  case h_2=>cases h
  rename_i k d;cases h;unfold cN at d;split at d
  case h_2=>cases d
  rename_i z e;split at d
  case h_2=>cases d
  rename_i f hf;split at d
  case h_2=>cases d
  rename_i m hm;cases d;obtain ⟨inf,l,p⟩:=Option.map_eq_some_iff.1 hm;have q:Instr.sureAddr (.pointer (some ad))=(Pure.pure ad:Sem Addr):=rfl;simp[Instr.fieldAt,run_underlying e,e,hf,j,q,fieldPlace,Go.sizeOf,typeInfo,l,p,Result.andThen,Result.evThen]
def iL (P:Program)(ops:Array Oper)(K:Act->Prop):List Oper->Act->Prop
 |[],a=>K a
 |o::rest,a=>match cz ops o a with
  |some true=>match oF P o.op a with
   |some v=>iL P ops K rest (bf a o.dst v)
   |none=>False
  |some false=>iL P ops K rest (bf a o.dst undef)
  |none=>False
theorem Jx {P:Program}{ops:Array Oper}{K:Act->Prop}{a:Act}:iL P ops K [] a=K a:=(Eq.refl _).trans (Eq.refl _)
theorem Jy {P:Program}{ops:Array Oper}{K:Act->Prop}{o:Oper}{rest:List Oper}{a:Act}:iL P ops K (o::rest) a=match cz ops o a with
  |some true=>match oF P o.op a with
   |some v=>iL P ops K rest (bf a o.dst v)
   |none=>False
  |some false=>iL P ops K rest (bf a o.dst undef)
  |none=>False:=(Eq.refl _).trans (Eq.refl _)
attribute [go_sem] Jx Jy oF tC
section
variable {P : Program} {main : Bool} {S : Type} {JF : S → Goroutine → aa → Prop} {fi : FuncId} {ops : Array Oper} {F : aa} {ph : S} {Q : Act → aa → S → Prop}
theorem yc (hM:dU P main (JF ph)):∀(l:List Oper) (i n:Nat) (a:Act),(∀j o,l[j]?=some o->ops[i+j]?=some o)->iL P ops (fun b=>ai JF fi ops (i+l.length) n Q b F ph) l a->ai JF fi ops i (l.length+n) Q a F ph
 |[],i,n,a,_,h=>by rw[List.length_nil,Nat.zero_add];exact h
 |o::rest,i,n,a,hl,h=>by
  have g:ops[i]?=some o:=hl 0 o rfl
  have k:∀j x,rest[j]?=some x->ops[i+1+j]?=some x:=fun j x hx=>by rw[Nat.add_assoc,Nat.add_comm 1 j];exact hl (j+1) x hx
  have e:(o::rest).length+n=(rest.length+n)+1:=by rw[List.length_cons];omega
  have e2:∀b,ai JF fi ops (i+(o::rest).length) n Q b F ph->ai JF fi ops (i+1+rest.length) n Q b F ph:=fun b x=>by
   rw[show i+1+rest.length=i+(o::rest).length by rw[List.length_cons];omega];exact x
  rw[e]
  have mono:∀(l:List Oper) (a:Act) {K d:Act->Prop},(∀a,K a->d a)->iL P ops K l a->iL P ops d l a:=by
   intro l
   induction l with
   |nil=>intro a K d f h;exact f a h
   |cons o l ih=>
    intro a K d f h
    unfold iL at h ⊢
    cases hg:cz ops o a with
    |none=>rw[hg] at h;exact h.elim
    |some t=>
     rw[hg] at h
     cases t with
     |false=>exact ih _ f h
     |true=>
      simp only at h ⊢
      cases c:oF P o.op a with
      |none=>rw[c] at h;exact h.elim
      |some v=>rw[c] at h;exact ih _ f h
  unfold iL at h
  split at h
  ·rename_i hg
   split at h
   ·rename_i v c
    exact ai.plain hM v g hg (fun w=>(CR c w).1) (fun w=>(CR c w).2) (yc hM rest (i+1) n _ k (mono _ _ e2 h))
   ·exact h.elim
  ·rename_i hg
   exact ai.skip hM g hg (yc hM rest (i+1) n _ k (mono _ _ e2 h))
  ·exact h.elim
theorem ai.pure (hM:dU P main (JF ph))(m:Nat){i n:Nat}{a:Act}(l:List Oper)(hl:(ops.toList.drop i).take m=l)(hm:l.length=m)(h:iL P ops (fun c=>ai JF fi ops (i+m) n Q c F ph) l a):ai JF fi ops i (m+n) Q a F ph:=by
 subst hm;refine yc hM l i n a (fun j o b=>?_) h;rw[<-hl] at b;have d:j<l.length:=by
  rcases Nat.lt_or_ge j l.length with x|x
  ·exact x
  ·rw[hl,List.getElem?_eq_none x] at b;cases b
 rw[List.getElem?_take,if_pos d,List.getElem?_drop] at b;simpa using b
end
end Go.Sep
end
section
namespace Go.Sep
open Go Go.Conc
open Go.ConcN (sumTo upd upd_ne upd_same)
open Go.ConcM (MuAt muA msA muBlock OsLater)
open Go.ConcR (WgAt wgBlock stA smA)
section
variable {c : Cy} {i : Nat} {ph : Ph} {ops : Array Oper} {j n : Nat} {Q : Act → aa → Ph → Prop} {a : Act} {F : aa} {f fi : FuncId} {d : Option Tmp}
theorem Inv.group {k:Nat}{φ:Nat->Ph}{p0:P0}{s:Sh}(h:Inv c.n c.bs k φ p0 s)(hi:i<c.n)(he:φ i=ph)(a:ph.gp≠ .new)(b:ph.gp≠ .cnt){gp:Gp}(d:gp≠ .new){wg ws:Int}
  (hw:dA c.n (upd φ i {ph with gp:=gp}) p0 wg ws):Inv c.n c.bs k (upd φ i {ph with gp:=gp}) p0 {s with wg:=wg,ws:=ws}:=by
 obtain ⟨C,S,W,L,m,hm⟩:=h.m
 refine h.jL hi he a d ⟨C,S,W,L,m,mR hm hi _ (.inl (by rw[he]))⟩ hw ?_ (fun _=>?_)
 ·have:=h.i.all i hi
  rw[he] at this
  exact (x8 this).symm
 ·have:=h.i.done i hi (by rw[he];exact b) (by rw[he];exact a)
  rw[he] at this
  exact this
theorem Jz (m:Entry c.P f (Extern.Atomic.update (Op.intArith .add) .u64 true))(aG:c.Mu≠c.Wg/\c.Mu≠c.Is/\c.Wg≠c.Is)(E:c.n<67108864)(hA:At ops j a f [.pointer (some (stA c.Wg)),.int .u64 18446744069414584320] d)
  (e:ph.gp= .rel) (p:0<ph.deaf)
  (h:∀v t:Nat,v<=c.n->t<=1->ai (WJ c i) fi ops (j+1) n Q (bf a d (.int .u64 ((v:Int)*4294967296+t))) F {ph with gp:=if v=0/\t=1 then .ld else .gone}):
  ai (WJ c i) fi ops j (n+1) Q a F ph:=by
 obtain ⟨o,cw,dj,l,hg,q,r,rfl⟩:=hA
 obtain ⟨x,y,rfl,hx,u⟩:=qw r
 obtain ⟨fn,f1,f2,f3,f4,f5⟩:=m.ex
 refine fl l (by rw[e];simp) fun w s k φ p0 _ hs hi he g=>.inr ?_
 obtain ⟨v,t,e1,ht,z,_⟩:=Cd g.w hi ph (by rw[he];exact e)
 obtain ⟨A,B,C,G,_,hw⟩:=Cd g.w hi {ph with gp:=if v=0/\t=1 then .ld else .gone} (by rw[he];exact e)
 obtain ⟨rfl,rfl⟩:v=A/\t=B:=by simp only[cU] at e1 C;omega
 have e2:IntKind.u64.wrap (s.wg+18446744069414584320)=(v:Int)*4294967296+t:=by
  rw[e1]
  unfold IntKind.wrap
  simp only[IntKind.bits,IntKind.signed,cU]
  simp
  omega
 have D:s.wg - cU=(v:Int)*4294967296+t:=by rw[e1];simp only[cU];omega
 refine ⟨.int .u64 ((v:Int)*4294967296+t),_,_,{s with wg:=(v:Int)*4294967296+t},{ph with gp:=if v=0/\t=1 then .ld else .gone},fun b H cs hb=>by rw[<-e2];exact stepG_add_atomic l (cg hg) hb.kind q f1 f2 f3 f4 .u64 f5 hx u hs.wg.1 hs.wg.2,by rw[<-e2];exact hs.tn aG _,.set _ (.inr (.inl rfl)),?_,x6 rfl ?_ p (.inl rfl),.inr dG,h v t z ht⟩
 ·refine g.group hi he (by rw[e];simp) (by rw[e];simp) (by split<;>simp) ?_
  rw[<-D]
  exact hw rfl
 ·simp only[e];split<;>simp
theorem JA (m:Entry c.P f (Extern.Atomic.loadT (.int .u64)))(hA:At ops j a f [.pointer (some (stA c.Wg))] d)(e:ph.gp= .ld)(p:0<ph.deaf)
  (h:ai (WJ c i) fi ops (j+1) n Q (bf a d (.int .u64 1)) F {ph with gp:=.st}):ai (WJ c i) fi ops j (n+1) Q a F ph:=by
 obtain ⟨o,cw,dj,g,hg,q,r,rfl⟩:=hA
 obtain ⟨x,rfl,hx⟩:=jO r
 obtain ⟨fn,f1,f2,f3,f4,f5⟩:=m.ex
 refine fl g (by rw[e];simp) fun w s k φ p0 _ hs hi he l=>.inr ?_
 obtain ⟨e1,hw⟩:=Iw l.w hi {ph with gp:=.st} (by rw[he];exact e) rfl
 exact ⟨.int .u64 1,_,_,s,{ph with gp:=.st},fun b t cs hb=>by rw[<-e1];exact stepG_load_atomic g (cg hg) hb.kind q f1 f2 f3 f4 .u64 f5 hx hs.wg.1,hs,.refl _ _,l.group hi he (by rw[e];simp) (by rw[e];simp) (by simp) hw,x5 false rfl (by simp[e]) p (.inl rfl),.inr dG,h⟩
theorem JB (m:Entry c.P f Extern.Atomic.storeT)(aG:c.Mu≠c.Wg/\c.Mu≠c.Is/\c.Wg≠c.Is)(hA:At ops j a f [.pointer (some (stA c.Wg)),.int .u64 0] d)(e:ph.gp= .st)(p:0<ph.deaf)
  (h:ai (WJ c i) fi ops (j+1) n Q (bf a d (.tuple #[])) F {ph with gp:=.sm}):ai (WJ c i) fi ops j (n+1) Q a F ph:=by
 obtain ⟨o,cw,dj,g,hg,q,r,rfl⟩:=hA
 obtain ⟨x,y,rfl,hx,t⟩:=qw r
 obtain ⟨fn,f1,f2,f3,f4,f5⟩:=m.ex
 refine fl g (by rw[e];simp) fun w s k φ p0 _ hs hi he l=>.inr ?_
 obtain ⟨e1,hw⟩:=Ix l.w hi {ph with gp:=.sm} (by rw[he];exact e) rfl
 exact ⟨.tuple #[],_,_,{s with wg:=0},{ph with gp:=.sm},fun b u cs hb=>stepG_store_atomic g (cg hg) hb.kind q f1 f2 f3 f4 f5 hx t hs.wg.1 hs.wg.2,hs.tn aG _,.set _ (.inr (.inl rfl)),l.group hi he (by rw[e];simp) (by rw[e];simp) (by simp) hw,x5 true rfl (by simp[e]) p (.inl rfl),.inr dG,h⟩
theorem JC (q r:Value)(g:Entry c.P f Extern.Sync.semrelease)(aG:c.Mu≠c.Wg/\c.Mu≠c.Is/\c.Wg≠c.Is)(hA:At ops j a f [.pointer (some (smA c.Wg)),q,r] d)(e:ph.gp= .sm)
  (h:ai (WJ c i) fi ops (j+1) n Q (bf a d (.tuple #[])) F {ph with gp:=.gone}):ai (WJ c i) fi ops j (n+1) Q a F ph:=by
 obtain ⟨o,cw,dj,l,hg,m,t,rfl⟩:=hA
 obtain ⟨x,y,z,rfl,hx,_,_⟩:=qx t
 obtain ⟨fn,f1,f2,f3,f4,f5⟩:=g.ex
 refine fl l (by rw[e];simp) fun w s k φ p0 _ hs hi he p=>.inr ?_
 obtain ⟨e1,hw⟩:=Iy p.w hi {ph with gp:=.gone} (by rw[he];exact e) rfl
 have u:IntKind.u32.wrap (s.ws+1)=s.ws+1:=by rw[e1];decide
 refine ⟨.tuple #[],_,_,{s with ws:=s.ws+1},{ph with gp:=.gone},fun b v cs hb=>stepG_semrelease l (cg hg) hb.kind m f1 f2 f3 f4 f5 (by simp[ey,hx]) hs.ws.1 hs.ws.2,by rw[u];exact hs.CK aG _,.set _ (.inr (.inl rfl)),
  p.group hi he (by rw[e];simp) (by rw[e];simp) (by simp) hw,x7 rfl (by simp[e]) (.inl rfl),.inl ⟨_,m,fun x hx=>?_⟩,h⟩
 cases hx
 exact ⟨f,rfl,g.Cz⟩
end
end Go.Sep
end
section
namespace Go.Sep
open Go Go.Conc
open Go.ConcN (sumTo upd upd_ne upd_same)
theorem ai.defer {P:Program}{main:Bool}{S:Type}{JF:S->Goroutine->aa->Prop}{fi f:FuncId}{ops:Array Oper}{j n:Nat}{Q:Act->aa->S->Prop}{a:Act}{F:aa}{ph:S}(hM:dU P main (JF ph)){o:Oper}{cw:Array Operand}{dj:Array TypeId}{vals:Array Value}
  (e:ops[j]?=some o) (hg:cz ops o a=some true) (g:o.op= .defer {callee:=.value (.func f),args:=cw,argTypes:=dj}) (hd:o.dst=none) (k:cw.map a.eval=vals)
  (h:∀c:Act,(∀i,slot c i=slot a i)->sz c=sz a->c.defers=dcall f vals::a.defers->ai JF fi ops (j+1) n Q c F ph):ai JF fi ops j (n+1) Q a F ph:=fun b d cs hb l=>by
 rw[List.range'_succ,eD hb.round]
 refine hM.move (fr':=b.at (Act.put ⟨a.tmps,dcall f (cw.map a.eval)::a.defers⟩ o.dst undef) (.inRegion ops (List.range' (j+1) n)::d)) (fun w=>stepG_defer e (cg hg) hb.kind g) ?_
 rw[<-eD hb.round,hd,k]
 exact h ⟨a.tmps,dcall f vals::a.defers⟩ (fun _=>rfl) rfl rfl b d cs hb l
section
variable {c : Cy} {i : Nat} {ph : Ph} {F : aa} {f : FuncId}
theorem JD (g:Entry c.P f (fun _=>do mark .enable;pure Extern.Race.none_))(hg:ph.gp= .gone){d:Nat}(hd:ph.deaf=d+1){b:Frame}{a:Act}{todo:List Item}{cs:List Frame}{e:List Deferred}(j:a.defers=dcall f #[]::e)
  (h:WJ c i {ph with deaf:=d} (G {b.at ⟨a.tmps,e⟩ todo with mode:=.returning} cs) F):WJ c i ph (G {b.at a todo with mode:=.returning} cs) F:=by
 obtain ⟨F0,r,hle,hW⟩:=h
 obtain ⟨q,_,k⟩:=hW.left hg
 obtain ⟨fn,f1,f2,f3,f4,f5⟩:=g.ex
 refine Wk.gone (q:=q+1) hg (QuitsD.unwind_mark .enable rfl (by simp) j f1 f2 f3 f4 f5 ?_)
 rw[hd]
 exact k
def kI (f:FuncId)(R:Value->aa->Ph->Prop):Ex->Act->aa->Ph->Prop
 | .exit _,_,_,_=>False
 |_,a,F,ph=>a.defers=[dcall f #[]]/\ph.gp= .gone/\∃b,ph.deaf=b+1/\R (.tuple #[]) F {ph with deaf:=b}
theorem cD.JE {f0:FuncId}(m:Entry c.P f (fun _=>do mark .enable;pure Extern.Race.none_)){fn:Func}{cd:Code}{n:Nat}{args:Array Value}{R:Value->aa->Ph->Prop}(hf:c.P.funcs[f0]?=some fn)(hb:fn.body=some cd)(k:fn.results=#[])(l:fn.ntmps=n)(t:args.size<=n)
  (h:∀A:Act,sz A=n->A.defers=[]->(∀i,slot A i=args.getD i undef)->cJ (WJ c i) f0 cd (kI f R) A F ph):cD c.P (WJ c i) f0 args F ph R:=by
 intro d cs o
 let b:Frame:={(default:Frame) with fn:=f0,kind:=.normal}
 have p:b.roundOf=none:=rfl
 have q:Frame.enter c.P f0 args .normal=on b {tmps:=args++Array.replicate (fn.ntmps - args.size) undef,defers:=[]} [.code cd]:=by
  simp[Frame.enter,on,hf,hb,b]
  rfl
 rw[q]
 have hM:=WJ.ek c i
 have leave:∀(a:Act) (todo:List Item) F' (aL:Ph),(a.defers=[dcall f #[]]/\aL.gp= .gone/\∃g,aL.deaf=g+1/\R (.tuple #[]) F' {aL with deaf:=g})->WJ c i aL (G {on b a todo with mode:=.returning} (d::cs)) F':=by
  intro a todo F' aL ⟨hd,hg,g,r,s⟩
  rw[eD p]
  refine JD m hg r hd ((hM _).move (fr':=d.finish (.tuple #[])) (cs':=cs) (fun w=>?_) (o _ F' _ s))
  exact stepG_leave rfl rfl hf (results_none k _ c.P w) (events_results_none k _ _)
 refine h _ (by simp[sz,l];omega) rfl (fun i=>?_) b [] (d::cs) ⟨by simp[b],rfl,rfl⟩ fun e a F' aL j=>?_
 ·simp only[slot,l,Array.getD_eq_getD_getElem?]
  rcases Nat.lt_or_ge i args.size with hi|hi
  ·rw[Array.getElem?_append_left hi]
  ·rw[Array.getElem?_append_right hi,Array.getElem?_replicate,Array.getElem?_eq_none hi]
   split<;>rfl
 ·cases e with
  |normal=>exact (hM aL).move (fun _=>lK rfl) (leave a _ F' aL j)
  |exit i=>exact j.elim
  |ret=>exact fun u=>(hM aL).move (fun _=>stepG_ret' rfl) (leave a _ F' aL j)
def yd (R:aa->Ph->Prop):Ex->Act->aa->Ph->Prop
 | .exit _,_,_,_=>False
 |_,a,F,ph=>a.defers=[]/\R F ph
theorem JG {f0:FuncId}{fn:Func}{cd:Code}{n:Nat}{args:Array Value}{R:aa->Ph->Prop}(hf:c.P.funcs[f0]?=some fn)(m:(fn.name== "runtime.NumGoroutine")=false)(hb:fn.body=some cd)(j:fn.results=#[])(k:fn.ntmps=n)(r:args.size<=n)
  {b:Frame} {a:Act} {todo:List Item} {cs:List Frame} {f:List Deferred} (o:a.defers=dcall f0 args::f)
  (h:∀A:Act,sz A=n->A.defers=[]->(∀i,slot A i=args.getD i undef)->cJ (WJ c i) f0 cd (yd R) A F ph)
  (p:∀F' aL,R F' aL->WJ c i aL (G {b.at ⟨a.tmps,f⟩ todo with mode:=.returning} cs) F'):WJ c i ph (G {b.at a todo with mode:=.returning} cs) F:=by
 have hM:=WJ.ek c i
 refine (hM ph).move (fun w=>stepG_unwind_enter o hf m hb) ?_
 have leave:∀(d:Act) (l:List Item) F' (aL:Ph),(d.defers=[]/\R F' aL)->WJ c i aL (G {(baseD f0).at d l with mode:=.returning} ({b.at ⟨a.tmps,f⟩ todo with mode:=.returning}::cs)) F':=by
  intro d l F' aL ⟨hd,q⟩
  exact (hM _).move (fun w=>stepG_leave_deferred rfl hd hf (results_none j _ c.P w) (events_results_none j _ _) rfl) (p F' aL q)
 have:=h {tmps:=args++Array.replicate (fn.ntmps - args.size) undef,defers:=[]} (by simp[sz,k];omega) rfl (fun i=>?_) (baseD f0) [] ({b.at ⟨a.tmps,f⟩ todo with mode:=.returning}::cs) ⟨by simp[baseD],rfl,rfl⟩ fun e d F' aL g=>?_
 ·rw[eD rfl] at this;exact this
 ·simp only[slot,k,Array.getD_eq_getD_getElem?]
  rcases Nat.lt_or_ge i args.size with hi|hi
  ·rw[Array.getElem?_append_left hi]
  ·rw[Array.getElem?_append_right hi,Array.getElem?_replicate,Array.getElem?_eq_none hi]
   split<;>rfl
 ·cases e with
  |normal=>exact (hM aL).move (fun _=>lK rfl) (leave d _ F' aL g)
  |exit i=>exact g.elim
  |ret=>exact fun s=>(hM aL).move (fun _=>stepG_ret' rfl) (leave d _ F' aL g)
end
attribute [go_sem] kI yd
end Go.Sep
end
section
namespace Go.Sep
open Go
def kJ (x y:Int):Int:=IntKind.u64.wrap ((BitVec.ofInt 64 x&&& BitVec.ofInt 64 y).toNat:Int)
@[go_sem] theorem Q6 (x y:Int):IntKind.u64.wrap ((@HAnd.hAnd (BitVec 64) (BitVec 64) (BitVec 64) (@instHAndOfAndOp (BitVec IntKind.u64.bits) (@BitVec.instAndOp IntKind.u64.bits)) (BitVec.ofInt 64 x) (BitVec.ofInt 64 y)).toNat:Int)=kJ x y:=rfl
theorem ye (v t:Nat)(a:v<2147483648)(ht:t<=1):kJ ((v:Int)*4294967296+(t:Int)) 2147483648=0:=Go.ConcN.st_flag v t a ht
theorem yf (v t:Nat)(a:v<2147483648)(ht:t<=1):kJ ((v:Int)*4294967296+(t:Int)) 2147483647=(t:Int):=Go.ConcN.st_waiters v t a ht
theorem yg (v t:Nat)(ht:t<=1):((v:Int)*4294967296+(t:Int)).fdiv 4294967296=v:=by
 rw[Int.fdiv_eq_ediv_of_nonneg _ (by decide)];omega
end Go.Sep
namespace Go.Proofs.YtpgcmoanfifglaaGreatDoor
open Go Go.Sep Go.Proofs Go.Conc
open Go.ConcN (upd upd_same)
open Go.ConcM (muA msA)
open Go.ConcR (stA smA)
set_option maxRecDepth 100000
set_option maxHeartbeats 4000000
set_option linter.all false
attribute [local go_sem] Int.reduceBEq Int.reduceBNe muA msA stA smA
section
variable {Mu Wg Is n base T0 i : Nat} {bs : Nat → Bool} {st : Bool} {F : aa}
theorem JH (w:World)(s:Sh)(h:cv (CY Mu Wg Is n bs base T0) w s):∃v,w.cell? ⟨Wg,0,none⟩=some v:=⟨_,h.wg.1⟩
theorem JI (aG:Mu≠Wg/\Mu≠Is/\Wg≠Is)(a:n<67108864){mp:Mp}:
  cD Tryz.prog (WJ (CY Mu Wg Is n bs base T0) i) 158 #[.pointer (some (stA Wg)),.int .u64 18446744069414584320] F ⟨mp,.rel,st,1⟩
   (fun r F' aL=>F'=F/\∃v t:Nat,v<=n/\t<=1/\r= .int .u64 ((v:Int)*4294967296+(t:Int))/\aL=⟨mp,if v=0/\t=1 then .ld else .gone,st,1⟩):=by
 have hM:=WJ.ek (CY Mu Wg Is n bs base T0) i
 refine cD.go (main:=false) hM Tryz.func158 rfl Tryz.ntmps158 (by simp) fun A c hd hs=>?_
 have d:=hs 0
 have k1:=hs 1
 clear hs
 repeat refine ax (hM _) ?_
 refine cX hM ?_
 refine ai.pure (hM _) 1 (n:=0) _ rfl rfl ?_;simp only[*,go_sem]
 refine ai.nil hM ?_;try simp only[go_sem]
 repeat refine ax (hM _) ?_
 refine cX hM ?_
 refine ai.pure (hM _) 4 (n:=2) _ rfl rfl ?_;simp only[*,go_sem]
 refine Jz CD aG a ⟨_,_,_,rfl,(by first|rfl|simp only[*,go_sem]),rfl,by first|(simp only[*,go_sem];done)|(simp only[*,go_sem];rfl),rfl⟩ (by rfl) (by simp) fun v t b ht=>?_
 refine ai.pure (hM _) 1 (n:=0) _ rfl rfl ?_;simp only[*,go_sem]
 refine ai.nil hM ?_;try simp only[go_sem]
 refine fj ?_;try simp only[go_sem]
 exact (lE rfl (by simp only[*,go_sem]) (by simp only[*,go_sem]) ⟨rfl,v,t,b,ht,rfl,rfl⟩).2
theorem JJ {mp:Mp}:
  cD Tryz.prog (WJ (CY Mu Wg Is n bs base T0) i) 160 #[.pointer (some (stA Wg))] F ⟨mp,.ld,st,1⟩
   (fun r F' aL=>F'=F/\r= .int .u64 1/\aL=⟨mp,.st,st,1⟩):=by
 have hM:=WJ.ek (CY Mu Wg Is n bs base T0) i
 refine cD.go (main:=false) hM Tryz.func160 rfl Tryz.ntmps160 (by simp) fun A a hd hs=>?_
 have b:=hs 0
 clear hs
 repeat refine ax (hM _) ?_
 refine cX hM ?_
 refine ai.pure (hM _) 1 (n:=0) _ rfl rfl ?_;simp only[*,go_sem]
 refine ai.nil hM ?_;try simp only[go_sem]
 repeat refine ax (hM _) ?_
 refine cX hM ?_
 refine ai.pure (hM _) 3 (n:=2) _ rfl rfl ?_;simp only[*,go_sem]
 refine JA xX ⟨_,_,_,rfl,(by first|rfl|simp only[*,go_sem]),rfl,by first|(simp only[*,go_sem];done)|(simp only[*,go_sem];rfl),rfl⟩ (by rfl) (by simp) ?_
 refine ai.pure (hM _) 1 (n:=0) _ rfl rfl ?_;simp only[*,go_sem]
 refine ai.nil hM ?_;try simp only[go_sem]
 refine fj ?_;try simp only[go_sem]
 exact (lE rfl (by simp only[*,go_sem]) (by simp only[*,go_sem]) ⟨rfl,rfl,rfl⟩).2
theorem JK (aG:Mu≠Wg/\Mu≠Is/\Wg≠Is){mp:Mp}:
  cD Tryz.prog (WJ (CY Mu Wg Is n bs base T0) i) 161 #[.pointer (some (stA Wg)),.int .u64 0] F ⟨mp,.st,st,1⟩
   (fun r F' aL=>F'=F/\r= .tuple #[]/\aL=⟨mp,.sm,st,1⟩):=by
 have hM:=WJ.ek (CY Mu Wg Is n bs base T0) i
 refine cD.go (main:=false) hM Tryz.func161 rfl Tryz.ntmps161 (by simp) fun A a hd hs=>?_
 have b:=hs 0
 have k1:=hs 1
 clear hs
 repeat refine ax (hM _) ?_
 refine cX hM ?_
 refine ai.pure (hM _) 4 (n:=1) _ rfl rfl ?_;simp only[*,go_sem]
 refine JB I6 aG ⟨_,_,_,rfl,(by first|rfl|simp only[*,go_sem]),rfl,by first|(simp only[*,go_sem];done)|(simp only[*,go_sem];rfl),rfl⟩ (by rfl) (by simp) ?_
 refine ai.nil hM ?_;try simp only[go_sem]
 exact lD rfl (by simp only[*,go_sem]) ⟨rfl,rfl,rfl⟩
end
end Go.Proofs.YtpgcmoanfifglaaGreatDoor
end
section
namespace Go.Sep
open Go Go.Conc
open Go.ConcN (sumTo upd upd_ne upd_same)
open Go.ConcM (MuAt muA msA muBlock OsLater)
open Go.ConcR (WgAt wgBlock stA smA)
structure X where
 Mu:Nat
 Wg:Nat
 Is:Nat
 n:Nat
 bs:Nat->Bool
 base:Nat
 T0:Nat
 B0:Nat
inductive Z where
 |free
 |co (x:X) (k:Nat) (p:P0) (d:Nat)
structure PT where
 P:Program
 tM:TypeId
 tW:TypeId
 tI:TypeId
abbrev X.cy (x:X)(T:PT):Cy:=⟨T.P,x.Mu,x.Wg,x.Is,T.tM,T.tW,T.tI,x.n,x.bs,x.base,x.T0⟩
def ZJ (T:PT)(Φ:Goroutine->aa->Prop):Z->Goroutine->aa->Prop
 | .free=>iK T.P Φ
 | .co x k p d=>fun g F=>(p= .reg->k=x.n)/\ej (x.cy T) x.B0 (iK T.P Φ) k p d g F
section
variable {T : PT} {Φ : Goroutine → aa → Prop} {x : X} {k d : Nat} {p : P0} {ops : Array Oper} {j n : Nat} {Q : Act → aa → Z → Prop} {a : Act} {F : aa} {o : Oper} {f fi : FuncId} {dt : Option Tmp}
theorem CS {c:Cy}:Ev0 c d d #[]:=⟨by simp,rfl⟩
theorem JL {c:Cy}:Ev0 c d (d+1) #[cF .disable]:=⟨fun e he=>by simp at he;exact .inl he,rfl⟩
theorem CU {c:Cy}:Ev0 c (d+1) d #[cF .enable]:=⟨fun e he=>by simp at he;exact .inr (.inl he),rfl⟩
theorem yh {c:Cy}{ad:Addr}(y:Bool)(h:ad.block=c.Wg):Ev0 c d d #[⟨.cell ad,y,true⟩]:=⟨fun e he=>by simp at he;exact .inr (.inr ⟨ad,h,.inl ⟨y,he⟩⟩),by simp[deafBehind]⟩
theorem CV {c:Cy}{ad:Addr}(h:ad.block=c.Wg):Ev0 c d d #[⟨.cell ad,false,true⟩,⟨.cell ad,true,true⟩]:=
 ⟨fun e he=>by simp at he;rcases he with he|he<;>exact .inr (.inr ⟨ad,h,.inl ⟨_,he⟩⟩),by simp[deafBehind]⟩
theorem JM {c:Cy}{ad:Addr}(h:ad.block=c.Wg):Ev0 c d d #[cF (.read ad)]:=⟨fun e he=>by simp at he;exact .inr (.inr ⟨ad,h,.inr (.inl he)⟩),by simp[deafBehind,cF]⟩
theorem JN {c:Cy}{ad:Addr}(h:ad.block=c.Wg):Ev0 c d d #[cF (.write ad)]:=⟨fun e he=>by simp at he;exact .inr (.inr ⟨ad,h,.inr (.inr he)⟩),by simp[deafBehind,cF]⟩
theorem JO {c:Cy}{ad:Addr}(h:ad.block=c.Wg):Ev0 c d d (semEvents ad):=by
 refine ⟨fun e he=>?_,by simp[deafBehind,semEvents]⟩;simp[semEvents] at he;rcases he with rfl|rfl|rfl|rfl
 ·exact .inl rfl
 ·exact .inr (.inr ⟨ad,h,.inl ⟨_,rfl⟩⟩)
 ·exact .inr (.inr ⟨ad,h,.inl ⟨_,rfl⟩⟩)
 ·exact .inr (.inl rfl)
theorem ZJ.ek (T:PT)(Φ:Goroutine->aa->Prop)(z:Z):dU T.P true (ZJ T Φ z):=by
 cases z with
 |free=>exact Closed.ek (Cr T.P Φ)
 |co x k p d=>
  refine ⟨fun {fr fr' cs cs' F} hs h=>⟨h.1,ej.xS (c:=x.cy T) rfl rfl h.1 fun w s φ e a b=>?_⟩⟩;exact ⟨_,w,#[],s,p,d,hs w,a,.refl _ _,b,CS,.inr dG,h.2⟩
theorem ZJ.closed (T:PT)(Φ:Goroutine->aa->Prop){z:Z}(b:∀x k d,z≠ .co x k .reg d):Closed T.P true (ZJ T Φ z):=by
 cases z with
 |free=>exact Cr T.P Φ
 |co x k p d=>
  have a:p≠ .reg:=fun e=>b x k d (by rw[e]);have hC:=ej.closed (x.cy T) x.B0 (iK T.P Φ) k p d a
  exact ⟨fun hle h=>⟨h.1,hC.mono hle h.2⟩,fun {fr cs F} h=>⟨fun e=>absurd e a,hC.step fun w hw=>by
   obtain ⟨g',w',es,F',k1,c,f,g,i⟩:=h w hw
   exact ⟨g',w',es,F',k1,c,f,g,i.2⟩⟩⟩
theorem kK (A:ops[j]?=some o)(i:p= .reg->k=x.n)
  (h:∀(w:World) (s:Sh) (φ:Nat->Ph),Has F w->cv (x.cy T) w s->Inv x.n x.bs k φ p s->
   ∃(v:Value) (w':World) (es:Array Event) (s':Sh) (f:P0) (g:Nat),(∀(b:Frame) (e:List Item) (cs:List Frame),BF fi b->
    stepG T.P true (G (b.at a (.inRegion ops (j::List.range' (j+1) n)::e)) cs) w= .go (G (b.at (a.put o.dst v) (.inRegion ops (List.range' (j+1) n)::e)) cs) w' es)/\cv (x.cy T) w' s'/\gZ (x.cy T) w w'/\Inv x.n x.bs k φ f s'/\Ev0 (x.cy T) d g es/\
    (s'.ms<=s.ms/\s'.ws<=s.ws)/\ai (ZJ T Φ) fi ops (j+1) n Q (a.put o.dst v) F (.co x k f g)):ai (ZJ T Φ) fi ops j (n+1) Q a F (.co x k p d):=fun b e cs hb l=>by
 rw[List.range'_succ,eD hb.round]
 refine ⟨i,ej.xS (c:=x.cy T) rfl rfl i fun w s φ e1 e2 m=>?_⟩
 obtain ⟨v,w',es,s',f,g,k1,q,r,t,u,y,z⟩:=h w s φ e1 e2 m
 have:=z b e cs hb l
 rw[eD hb.round] at this
 exact ⟨_,w',es,s',f,g,k1 b e cs hb,q,r,t,u,.inr y,this.2⟩
theorem oG {k:Nat}{φ:Nat->Ph}{p a:P0}{s:Sh}(h:Inv x.n x.bs k φ p s){wg ws:Int}(hw:dA x.n φ a wg ws):Inv x.n x.bs k φ a {s with wg:=wg,ws:=ws}:=⟨h.m,hw,h.i⟩
theorem CW (i:Entry T.P f (fun _=>do mark .disable;pure Extern.Race.none_)){vals:List Value}(hA:At ops j a f vals dt)(l:p= .reg->k=x.n)(c:P0)(m:∀φ wg ws,dA x.n φ p wg ws->dA x.n φ c wg ws)
  (h:ai (ZJ T Φ) fi ops (j+1) n Q (bf a dt (.tuple #[])) F (.co x k c (d+1))):ai (ZJ T Φ) fi ops j (n+1) Q a F (.co x k p d):=by
 obtain ⟨o,cw,dj,e,hg,q,_,rfl⟩:=hA
 obtain ⟨fn,f1,f2,f3,f4,f5⟩:=i.ex
 exact kK e l fun w s φ _ hs g=>⟨.tuple #[],w,_,s,c,d+1,fun b r cs hb=>stepG_mark0 .disable (by simp) e (cg hg) hb.kind q f1 f2 f3 f4 f5,hs,.refl _ _,oG g (m _ _ _ g.w),JL,dG,h⟩
theorem CX (e:Entry T.P f (fun _=>do mark .enable;pure Extern.Race.none_)){vals:List Value}(hA:At ops j a f vals dt)(g:p= .reg->k=x.n)
  (h:ai (ZJ T Φ) fi ops (j+1) n Q (bf a dt (.tuple #[])) F (.co x k p d)):ai (ZJ T Φ) fi ops j (n+1) Q a F (.co x k p (d+1)):=by
 obtain ⟨o,cw,dj,c,hg,i,_,rfl⟩:=hA
 obtain ⟨fn,f1,f2,f3,f4,f5⟩:=e.ex
 exact kK c g fun w s φ _ hs l=>⟨.tuple #[],w,_,s,p,d,fun b m cs hb=>stepG_mark0 .enable (by simp) c (cg hg) hb.kind i f1 f2 f3 f4 f5,hs,.refl _ _,l,CU,dG,h⟩
theorem JP (e:Entry T.P f (Extern.Race.marked .read))(hA:At ops j a f [.pointer (some (smA x.Wg))] dt)(g:p= .reg->k=x.n)
  (h:ai (ZJ T Φ) fi ops (j+1) n Q (bf a dt (.tuple #[])) F (.co x k p d)):ai (ZJ T Φ) fi ops j (n+1) Q a F (.co x k p d):=by
 obtain ⟨o,cw,dj,c,hg,i,l,rfl⟩:=hA
 obtain ⟨y,rfl,hx⟩:=jO l
 obtain ⟨fn,f1,f2,f3,f4,f5⟩:=e.ex
 exact kK c g fun w s φ _ hs m=>⟨.tuple #[],w,_,s,p,d,fun b q cs hb=>stepG_markAt .read (by simp) c (cg hg) hb.kind i f1 f2 f3 f4 f5 (by simp[ey,hx]),hs,.refl _ _,m,JM (ad:=smA x.Wg) rfl,dG,h⟩
theorem JQ (e:Entry T.P f (Extern.Race.marked .write))(hA:At ops j a f [.pointer (some (smA x.Wg))] dt)(g:p= .reg->k=x.n)
  (h:ai (ZJ T Φ) fi ops (j+1) n Q (bf a dt (.tuple #[])) F (.co x k p d)):ai (ZJ T Φ) fi ops j (n+1) Q a F (.co x k p d):=by
 obtain ⟨o,cw,dj,c,hg,i,l,rfl⟩:=hA
 obtain ⟨y,rfl,hx⟩:=jO l
 obtain ⟨fn,f1,f2,f3,f4,f5⟩:=e.ex
 exact kK c g fun w s φ _ hs m=>⟨.tuple #[],w,_,s,p,d,fun b q cs hb=>stepG_markAt .write (by simp) c (cg hg) hb.kind i f1 f2 f3 f4 f5 (by simp[ey,hx]),hs,.refl _ _,m,JN (ad:=smA x.Wg) rfl,dG,h⟩
theorem tD (ad:Addr){src dst t:TypeId}(hs:T.P.underlying src=some (.pointer t))(hd:T.P.underlying dst=some .unsafePointer)(c:(T.P.info? t).map (fun i=>decide (i.size=0))=some false){y:Operand}
  (hA:mT ops j a (.convert src dst y) dt) (l:p= .reg->k=x.n) (hx:ev a y= .pointer (some ad)) (m:∀w s,cv (x.cy T) w s->∃v,w.cell? ad=some v) (h:ai (ZJ T Φ) fi ops (j+1) n Q (bf a dt (.pointer (some ad))) F (.co x k p d)):ai (ZJ T Φ) fi ops j (n+1) Q a F (.co x k p d):=by
 obtain ⟨o,e,hg,q,rfl⟩:=hA
 refine kK e l fun w s φ _ f r=>⟨_,w,#[],s,p,d,fun b A cs hb=>?_,f,.refl _ _,r,CS,dG,h⟩
 obtain ⟨v,g⟩:=m w s f
 have e1:execOp a.eval o=(do pure (.value (<-convert src dst (.pointer (some ad)))):Sem Next):=by
  unfold execOp
  simp only[q,ey,hx]
 have u:(execOp a.eval o).run T.P w= .ok (.value (.pointer (some ad))) w:=by
  rw[e1];simp[run_convert_to_unsafe hs hd c g]
 have z:(execOp a.eval o).events T.P w #[]=#[]:=by
  rw[e1];simp[events_convert_to_unsafe hs hd c g]
 rw[stepG_value e (cg hg) hb.kind u]
 unfold listed
 rw[z,seen_none]
theorem JR (i:Entry T.P f (Extern.Atomic.update (Op.intArith .add) .u64 true))(aG:x.Mu≠x.Wg/\x.Mu≠x.Is/\x.Wg≠x.Is)(t:x.n<67108864)(hA:At ops j a f [.pointer (some (stA x.Wg)),.int .u64 4294967296] dt)
  (h:∀v:Nat,v<=x.n->ai (ZJ T Φ) fi ops (j+1) n Q (bf a dt (.int .u64 (((v+1:Nat):Int)*4294967296+((0:Nat):Int)))) F (.co x k (.opn 1) d)):ai (ZJ T Φ) fi ops j (n+1) Q a F (.co x k (.opn 0) d):=by
 obtain ⟨o,cw,dj,c,hg,l,m,rfl⟩:=hA
 obtain ⟨y,z,rfl,hx,p⟩:=qw m
 obtain ⟨fn,f1,f2,f3,f4,f5⟩:=i.ex
 refine kK c (fun e=>by cases e) fun w s φ _ hs g=>?_
 obtain ⟨v,e1,q,hw⟩:=Iz g.w
 have e2:IntKind.u64.wrap (s.wg+4294967296)=((v+1:Nat):Int)*4294967296+((0:Nat):Int):=by
  rw[e1]
  unfold IntKind.wrap
  simp only[IntKind.bits,IntKind.signed,cU]
  simp
  omega
 have r:s.wg+cU=((v+1:Nat):Int)*4294967296+((0:Nat):Int):=by rw[e1];simp only[cU];omega
 rw[r] at hw
 exact ⟨_,_,_,{s with wg:=((v+1:Nat):Int)*4294967296+((0:Nat):Int)},.opn 1,d,fun b u cs hb=>by rw[<-e2];exact stepG_add_atomic c (cg hg) hb.kind l f1 f2 f3 f4 .u64 f5 hx p hs.wg.1 hs.wg.2,by rw[<-e2];exact hs.tn aG _,.set _ (.inr (.inl rfl)),oG g hw,CV rfl,dG,h v q⟩
theorem JS (i:Entry T.P f (Extern.Atomic.loadT (.int .u64)))(hA:At ops j a f [.pointer (some (stA x.Wg))] dt){u:Nat}
  (h:∀v:Nat,v<=u->ai (ZJ T Φ) fi ops (j+1) n Q (bf a dt (.int .u64 ((v:Int)*4294967296+((0:Nat):Int)))) F (.co x k (if v=0 then .eM else .look v) d)):ai (ZJ T Φ) fi ops j (n+1) Q a F (.co x k (.look u) d):=by
 obtain ⟨o,cw,dj,c,hg,l,m,rfl⟩:=hA
 obtain ⟨y,rfl,hx⟩:=jO m
 obtain ⟨fn,f1,f2,f3,f4,f5⟩:=i.ex
 refine kK c (fun e=>by cases e) fun w s φ _ hs g=>?_
 obtain ⟨v,e1,p,hw⟩:=IC g.w
 have e2:s.wg=(v:Int)*4294967296+((0:Nat):Int):=by rw[e1];simp only[cU];omega
 exact ⟨_,_,_,s,_,d,fun b q cs hb=>by rw[<-e2];exact stepG_load_atomic c (cg hg) hb.kind l f1 f2 f3 f4 .u64 f5 hx hs.wg.1,hs,.refl _ _,oG g hw,yh false rfl,dG,h v p⟩
theorem JU (i:Entry T.P f (Extern.Atomic.loadT (.int .u64)))(hA:At ops j a f [.pointer (some (stA x.Wg))] dt)
  (h:ai (ZJ T Φ) fi ops (j+1) n Q (bf a dt (.int .u64 0)) F (.co x k .eM d)):ai (ZJ T Φ) fi ops j (n+1) Q a F (.co x k .eM d):=by
 obtain ⟨o,cw,dj,c,hg,l,m,rfl⟩:=hA
 obtain ⟨y,rfl,hx⟩:=jO m
 obtain ⟨fn,f1,f2,f3,f4,f5⟩:=i.ex
 refine kK c (fun e=>by cases e) fun w s φ _ hs g=>?_
 have e2:s.wg=0:=(Ce g.w).1
 exact ⟨_,_,_,s,_,d,fun b p cs hb=>by rw[<-e2];exact stepG_load_atomic c (cg hg) hb.kind l f1 f2 f3 f4 .u64 f5 hx hs.wg.1,hs,.refl _ _,g,yh false rfl,dG,h⟩
theorem JV (p:Entry T.P f (Extern.Atomic.casT (.int .u64)))(aG:x.Mu≠x.Wg/\x.Mu≠x.Is/\x.Wg≠x.Is){v:Nat}(q:0<v)(D:k=x.n)(hA:At ops j a f [.pointer (some (stA x.Wg)),.int .u64 ((v:Int)*4294967296+((0:Nat):Int)),.int .u64 ((v:Int)*4294967296+((0:Nat):Int)+1)] dt)
  (r:ai (ZJ T Φ) fi ops (j+1) n Q (bf a dt (.bool true)) F (.co x k .reg d)) (t:ai (ZJ T Φ) fi ops (j+1) n Q (bf a dt (.bool false)) F (.co x k (.look (v - 1)) d)):ai (ZJ T Φ) fi ops j (n+1) Q a F (.co x k (.look v) d):=by
 obtain ⟨o,cw,dj,g,hg,h,u,rfl⟩:=hA
 obtain ⟨y,z,E,rfl,hx,i,l⟩:=qx u
 obtain ⟨fn,f1,f2,f3,f4,f5⟩:=p.ex
 refine kK g (fun e=>by cases e) fun w s φ _ hs c=>?_
 by_cases e:s.wg=(v:Int)*4294967296+((0:Nat):Int)
 ·have e1:s.wg=(v:Int)*cU:=by rw[e];simp only[cU];omega
  have hw:=c.w
  rw[e1] at hw
  have m:=ID hw q
  have A:(v:Int)*cU+1=(v:Int)*4294967296+((0:Nat):Int)+1:=by simp only[cU];omega
  rw[A] at m
  exact ⟨.bool true,_,_,{s with wg:=(v:Int)*4294967296+((0:Nat):Int)+1},.reg,d,fun b B cs hb=>stepG_cas_hit g (cg hg) hb.kind h f1 f2 f3 f4 .u64 f5 hx i l (by rw[<-e];exact hs.wg.1) hs.wg.2,hs.tn aG _,.set _ (.inr (.inl rfl)),oG c m,CV rfl,dG,r⟩
 ·have e1:s.wg≠(v:Int)*cU:=fun C=>e (by rw[C];simp only[cU];omega)
  exact ⟨.bool false,_,_,s,.look (v - 1),d,fun b B cs hb=>stepG_cas_miss g (cg hg) hb.kind h f1 f2 f3 f4 .u64 f5 hx i l hs.wg.1 hs.wg.2 e,hs,.refl _ _,oG c (IE c.w e1).2,yh false rfl,dG,t⟩
theorem JW (p:Value)(q:Entry T.P f Extern.Sync.semacquire)(aG:x.Mu≠x.Wg/\x.Mu≠x.Is/\x.Wg≠x.Is)(g:k=x.n)(hA:At ops j a f [.pointer (some (smA x.Wg)),p] dt)
  (h:ai (ZJ T Φ) fi ops (j+1) n Q (bf a dt (.tuple #[])) F (.co x k .eM d)):ai (ZJ T Φ) fi ops j (n+1) Q a F (.co x k .reg d):=fun b r cs hb t=>by
 obtain ⟨o,cw,dj,i,hg,l,u,rfl⟩:=hA
 obtain ⟨y,z,rfl,hx,_⟩:=qw u
 obtain ⟨fn,f1,f2,f3,f4,f5⟩:=q.ex
 rw[List.range'_succ,eD hb.round]
 refine ⟨fun _=>g,ej.act (c:=x.cy T) rfl rfl (fun _=>⟨g,fun w s hs e=>?_⟩) fun w s φ e1 hs m v=>?_⟩
 ·exact stepG_semacquire_wait i (cg hg) l f1 f2 f3 f4 f5 (ad:=smA x.Wg) (by simp[ey,hx]) (by rw[hs.ws.1,e])
 ·have e:=v rfl
  obtain ⟨A,B,hw⟩:=IF m.w e
  have:=h b r cs hb t
  rw[eD hb.round] at this
  exact ⟨_,_,_,{s with ws:=s.ws - 1},.eM,d,stepG_semacquire i (cg hg) hb.kind l f1 f2 f3 f4 f5 (by simp[ey,hx]) hs.ws.1 e hs.ws.2,hs.CK aG _,.set _ (.inr (.inl rfl)),oG m hw,JO rfl,.inr ⟨Int.le_refl _,by simp only;omega⟩,this.2⟩
theorem CZ (d:Entry T.P f (Extern.Race.marked .acquire))(e:k=x.n)(hA:At ops j a f [.pointer (some (stA x.Wg))] dt)
  (h:ai (ZJ T Φ) fi ops (j+1) n Q (bf a dt (.tuple #[])) ⟨F.ro,(x.Is,(x.cy T).fin)::F.own⟩ .free):ai (ZJ T Φ) fi ops j (n+1) Q a F (.co x k .eM 0):=fun b g cs hb i=>by
 obtain ⟨o,cw,dj,l,hg,m,p,rfl⟩:=hA
 obtain ⟨y,rfl,hx⟩:=jO p
 obtain ⟨fn,f1,f2,f3,f4,f5⟩:=d.ex
 rw[List.range'_succ,eD hb.round]
 subst e
 have:=h b g cs hb i
 rw[eD hb.round] at this
 exact ⟨fun _=>rfl,ej.join (c:=x.cy T) rfl rfl fun w hw=>⟨_,stepG_markAt .acquire (by simp) l (cg hg) hb.kind m f1 f2 f3 f4 f5 (by simp[ey,hx]),rfl,this⟩⟩
theorem JX (i:k<x.n){d:Deferred}{fv:Operand}{g:Fn}{caps:Array Value}(l:ops[j]?=some o)(hg:cz ops o a=some true)(f:∀w,(execOp a.eval o).run T.P w= .ok (.spawn d) w/\(execOp a.eval o).events T.P w #[]=#[])(hd:d.target= .fn g caps)
  (hW:Wk (x.cy T) k ⟨.idle,.cnt,false,0⟩ (born T.P d) ⟨F.ro,[]⟩) (h:ai (ZJ T Φ) fi ops (j+1) n Q (bf a o.dst undef) F (.co x (k+1) (.opn 0) 0)):ai (ZJ T Φ) fi ops j (n+1) Q a F (.co x k (.opn 1) 0):=fun b m cs hb p=>by
 rw[List.range'_succ,eD hb.round]
 have:=h b m cs hb p
 rw[eD hb.round] at this
 refine ⟨fun e=>(by cases e),ej.spawn (c:=x.cy T) rfl rfl i fun w hw=>⟨_,_,?_,hW,rfl,rfl,this.2⟩⟩
 rw[stepG_spawn l (cg hg) hb.kind (f w).1 hd]
 unfold listed
 rw[(f w).2,seen_none]
 rfl
end
section
variable {T : PT} {Φ : Goroutine → aa → Prop} {fi f : FuncId}
theorem JY {cd:Code}{Q:Ex->Act->aa->Z->Prop}{a:Act}{F:aa}(c:aa)(Mu Wg Is n:Nat)(bs:Nat->Bool)
  (hle:Le ⟨c.ro,(Mu,muBlock T.tM 0 0)::(Wg,wgBlock T.tW 0 0)::(Is,.cells (List.replicate n (Value.bool false)).toArray T.tI)::c.own⟩ F)
  (h:∀base B0 T0,0<base->(Mu≠Wg/\Mu≠Is/\Wg≠Is)->cJ (ZJ T Φ) fi cd Q a c (.co ⟨Mu,Wg,Is,n,bs,base,T0,B0⟩ 0 (.opn 0) 0)):cJ (ZJ T Φ) fi cd Q a F .free:=fun b k cs hb d=>
 iK.found bs rfl rfl hle fun base B0 T0 e aG=>(h base B0 T0 e aG b k cs hb d).2
theorem JZ (l:Entry T.P f (fun _=>do mark .enable;pure Extern.Race.none_)){x:X}{k d:Nat}{p:P0}{F:aa}(e:p= .reg->k=x.n){b:Frame}{a:Act}{todo:List Item}{cs:List Frame}{i:List Deferred}(m:a.defers=dcall f #[]::i)
  (h:ZJ T Φ (.co x k p d) (G {b.at ⟨a.tmps,i⟩ todo with mode:=.returning} cs) F):ZJ T Φ (.co x k p (d+1)) (G {b.at a todo with mode:=.returning} cs) F:=by
 obtain ⟨fn,f1,f2,f3,f4,f5⟩:=l.ex
 refine ⟨e,ej.xS (c:=x.cy T) rfl rfl e fun w s φ e1 hs o=>⟨_,w,#[cF .enable],s,p,d,?_,hs,.refl _ _,o,CU,.inr dG,h.2⟩⟩
 exact stepG_unwind_entry (v:=.tuple #[]) m f1 f2 f3 f4 f5 (by simp[Extern.Race.none_]) (by simp[cF]) (by
  intro y j
  simp[cF] at j
  subst j
  exact ⟨rfl,fun g h=>by cases h⟩)
def yj (f:FuncId)(R:Value->aa->Z->Prop):Ex->Act->aa->Z->Prop
 | .exit _,_,_,_=>False
 |_,a,F,z=>a.defers=[dcall f #[]]/\∃x k p d,(p= .reg->k=x.n)/\z= .co x k p (d+1)/\R (.tuple #[]) F (.co x k p d)
theorem cD.J0 {f0:FuncId}(o:Entry T.P f (fun _=>do mark .enable;pure Extern.Race.none_)){fn:Func}{cd:Code}{n:Nat}{args:Array Value}{R:Value->aa->Z->Prop}{F:aa}{z:Z}(hf:T.P.funcs[f0]?=some fn)(hb:fn.body=some cd)(l:fn.results=#[])(m:fn.ntmps=n)(y:args.size<=n)
  (h:∀A:Act,sz A=n->A.defers=[]->(∀i,slot A i=args.getD i undef)->cJ (ZJ T Φ) f0 cd (yj f R) A F z):cD T.P (ZJ T Φ) f0 args F z R:=by
 intro g cs q
 let b:Frame:={(default:Frame) with fn:=f0,kind:=.normal}
 have r:b.roundOf=none:=rfl
 have s:Frame.enter T.P f0 args .normal=on b {tmps:=args++Array.replicate (fn.ntmps - args.size) undef,defers:=[]} [.code cd]:=by
  simp[Frame.enter,on,hf,hb,b]
  rfl
 rw[s]
 have hM:=ZJ.ek T Φ
 have leave:∀(c:Act) (todo:List Item) F' (a:Z),(c.defers=[dcall f #[]]/\∃x k p d,(p= .reg->k=x.n)/\a= .co x k p (d+1)/\R (.tuple #[]) F' (.co x k p d))->ZJ T Φ a (G {on b c todo with mode:=.returning} (g::cs)) F':=by
  intro c todo F' a ⟨hd,x,k,p,d,t,u,v⟩
  subst u
  rw[eD r]
  refine JZ o t hd ((hM _).move (fr':=g.finish (.tuple #[])) (cs':=cs) (fun w=>?_) (q _ F' _ v))
  exact stepG_leave rfl rfl hf (results_none l _ T.P w) (events_results_none l _ _)
 refine h _ (by simp[sz,m];omega) rfl (fun i=>?_) b [] (g::cs) ⟨by simp[b],rfl,rfl⟩ fun e c F' a j=>?_
 ·simp only[slot,m,Array.getD_eq_getD_getElem?]
  rcases Nat.lt_or_ge i args.size with hi|hi
  ·rw[Array.getElem?_append_left hi]
  ·rw[Array.getElem?_append_right hi,Array.getElem?_replicate,Array.getElem?_eq_none hi]
   split<;>rfl
 ·cases e with
  |normal=>exact (hM a).move (fun _=>lK rfl) (leave c _ F' a j)
  |exit i=>exact j.elim
  |ret=>exact fun B=>(hM a).move (fun _=>stepG_ret' rfl) (leave c _ F' a j)
theorem fF.J1 {args:Array Value}{ro:Addr->Option Value}{R:Value->aa->Prop}(h:∀Φ,cD T.P (ZJ T Φ) f args ⟨ro,[]⟩ .free (fun v F' z=>z= .free/\R v F')):fF T.P f args ⟨ro,[]⟩ R:=
 fF.I1 fun Φ c cs a=>h Φ c cs fun v F' z ⟨b,d⟩=>by subst b;exact a v F' d
end
end Go.Sep
end
section
namespace Go.Proofs.YtpgcmoanfifglaaGreatDoor
open Go Go.Sep Go.Proofs Go.Conc
open Go.ConcN (upd upd_same)
open Go.ConcM (muA msA)
open Go.ConcR (stA smA)
set_option maxRecDepth 100000
set_option maxHeartbeats 4000000
attribute [local go_sem] Int.reduceBEq Int.reduceBNe muA msA stA smA
noncomputable abbrev TT:PT:=⟨Tryz.prog,184,191,4⟩
theorem J2 {f:FuncId}{R:Value->aa->Z->Prop}{a:Act}{F:aa}{x:X}{k d:Nat}{p:P0}(hd:a.defers=[dcall f #[]])(b:p= .reg->k=x.n)(c:R (.tuple #[]) F (.co x k p d)):yj f R .ret a F (.co x k p (d+1)):=⟨hd,x,k,p,d,b,rfl,c⟩
section
variable {Φ : Goroutine → aa → Prop} {x : X} {F : aa} {k : Nat}
theorem C0 (w:World)(s:Sh)(h:cv (x.cy TT) w s):∃v,w.cell? ⟨x.Wg,0,none⟩=some v:=⟨_,h.wg.1⟩
theorem C1 (w:World)(s:Sh)(h:cv (x.cy TT) w s):∃v,w.cell? ⟨x.Wg,1,none⟩=some v:=⟨_,h.ws.1⟩
theorem J3 (aG:x.Mu≠x.Wg/\x.Mu≠x.Is/\x.Wg≠x.Is)(b:x.n<67108864):
  cD Tryz.prog (ZJ TT Φ) 158 #[.pointer (some (stA x.Wg)),.int .u64 4294967296] F (.co x k (.opn 0) 1)
   (fun r F' c=>F'=F/\∃v:Nat,v<=x.n/\r= .int .u64 (((v+1:Nat):Int)*4294967296+((0:Nat):Int))/\c= .co x k (.opn 1) 1):=by
 have hM:=ZJ.ek TT Φ
 have hJ:True:=trivial
 refine cD.go (main:=true) hM Tryz.func158 rfl Tryz.ntmps158 (by simp) fun A e hd hs=>?_
 have f:=hs 0
 have k1:=hs 1
 clear hs
 repeat refine ax (hM _) ?_
 refine aZ hM fun K a=>?_
 refine ai.pure (hM _) 1 (n:=0) _ rfl rfl ?_;simp only[*,go_sem,-a,-hM]
 refine ai.nil hM (a _ _ _ ?_);clear a K
 repeat refine ax (hM _) ?_
 refine aZ hM fun K a=>?_
 refine ai.pure (hM _) 4 (n:=2) _ rfl rfl ?_;simp only[*,go_sem,-a,-hM]
 refine JR CD aG b ⟨_,_,_,rfl,(by first|(simp only[*,go_sem,-a,-hM,-hJ];done)|rfl),rfl,by first|(simp only[*,go_sem,-a,-hM,-hJ];done)|(simp only[*,go_sem,-a,-hM,-hJ];rfl),rfl⟩ fun v d=>?_
 refine ai.pure (hM _) 1 (n:=0) _ rfl rfl ?_;simp only[*,go_sem,-a,-hM]
 refine ai.nil hM (a _ _ _ ?_);clear a K
 exact fj (lE rfl (by simp only[*,go_sem,-hM,-hJ]) (by simp only[*,go_sem,-hM,-hJ]) ⟨rfl,v,d,rfl,rfl⟩).2
theorem J4 {u:Nat}:
  cD Tryz.prog (ZJ TT Φ) 160 #[.pointer (some (stA x.Wg))] F (.co x k (.look u) 1)
   (fun r F' b=>F'=F/\∃v:Nat,v<=u/\r= .int .u64 ((v:Int)*4294967296+((0:Nat):Int))/\b= .co x k (if v=0 then .eM else .look v) 1):=by
 have hM:=ZJ.ek TT Φ
 have hJ:True:=trivial
 refine cD.go (main:=true) hM Tryz.func160 rfl Tryz.ntmps160 (by simp) fun A d hd hs=>?_
 have e:=hs 0
 clear hs
 repeat refine ax (hM _) ?_
 refine aZ hM fun K a=>?_
 refine ai.pure (hM _) 1 (n:=0) _ rfl rfl ?_;simp only[*,go_sem,-a,-hM]
 refine ai.nil hM (a _ _ _ ?_);clear a K
 repeat refine ax (hM _) ?_
 refine aZ hM fun K a=>?_
 refine ai.pure (hM _) 3 (n:=2) _ rfl rfl ?_;simp only[*,go_sem,-a,-hM]
 refine JS xX ⟨_,_,_,rfl,(by first|(simp only[*,go_sem,-a,-hM,-hJ];done)|rfl),rfl,by first|(simp only[*,go_sem,-a,-hM,-hJ];done)|(simp only[*,go_sem,-a,-hM,-hJ];rfl),rfl⟩ fun v c=>?_
 refine ai.pure (hM _) 1 (n:=0) _ rfl rfl ?_;simp only[*,go_sem,-a,-hM]
 refine ai.nil hM (a _ _ _ ?_);clear a K
 exact fj (lE rfl (by simp only[*,go_sem,-hM,-hJ]) (by simp only[*,go_sem,-hM,-hJ]) ⟨rfl,v,c,rfl,rfl⟩).2
theorem J5:
  cD Tryz.prog (ZJ TT Φ) 160 #[.pointer (some (stA x.Wg))] F (.co x k .eM 1)
   (fun r F' b=>F'=F/\r= .int .u64 0/\b= .co x k .eM 1):=by
 have hM:=ZJ.ek TT Φ
 have hJ:True:=trivial
 refine cD.go (main:=true) hM Tryz.func160 rfl Tryz.ntmps160 (by simp) fun A c hd hs=>?_
 have d:=hs 0
 clear hs
 repeat refine ax (hM _) ?_
 refine aZ hM fun K a=>?_
 refine ai.pure (hM _) 1 (n:=0) _ rfl rfl ?_;simp only[*,go_sem,-a,-hM]
 refine ai.nil hM (a _ _ _ ?_);clear a K
 repeat refine ax (hM _) ?_
 refine aZ hM fun K a=>?_
 refine ai.pure (hM _) 3 (n:=2) _ rfl rfl ?_;simp only[*,go_sem,-a,-hM]
 refine JU xX ⟨_,_,_,rfl,(by first|(simp only[*,go_sem,-a,-hM,-hJ];done)|rfl),rfl,by first|(simp only[*,go_sem,-a,-hM,-hJ];done)|(simp only[*,go_sem,-a,-hM,-hJ];rfl),rfl⟩ ?_
 refine ai.pure (hM _) 1 (n:=0) _ rfl rfl ?_;simp only[*,go_sem,-a,-hM]
 refine ai.nil hM (a _ _ _ ?_);clear a K
 exact fj (lE rfl (by simp only[*,go_sem,-hM,-hJ]) (by simp only[*,go_sem,-hM,-hJ]) ⟨rfl,rfl,rfl⟩).2
theorem J6 (aG:x.Mu≠x.Wg/\x.Mu≠x.Is/\x.Wg≠x.Is){v:Nat}(c:0<v):
  cD Tryz.prog (ZJ TT Φ) 169 #[.pointer (some (stA x.Wg)),.int .u64 ((v:Int)*4294967296+((0:Nat):Int)),.int .u64 ((v:Int)*4294967296+((0:Nat):Int)+1)] F (.co x x.n (.look v) 1)
   (fun r F' b=>F'=F/\((r= .bool true/\b= .co x x.n .reg 1)\/(r= .bool false/\b= .co x x.n (.look (v - 1)) 1))):=by
 have hM:=ZJ.ek TT Φ
 have hJ:True:=trivial
 refine cD.go (main:=true) hM Tryz.func169 rfl Tryz.ntmps169 (by simp) fun A d hd hs=>?_
 have e:=hs 0
 have k1:=hs 1
 have f:=hs 2
 clear hs
 repeat refine ax (hM _) ?_
 refine aZ hM fun K a=>?_
 refine ai.pure (hM _) 1 (n:=0) _ rfl rfl ?_;simp only[*,go_sem,-a,-hM]
 refine ai.nil hM (a _ _ _ ?_);clear a K
 repeat refine ax (hM _) ?_
 refine aZ hM fun K a=>?_
 refine ai.pure (hM _) 5 (n:=2) _ rfl rfl ?_;simp only[*,go_sem,-a,-hM]
 refine JV I5 aG c rfl ⟨_,_,_,rfl,(by first|(simp only[*,go_sem,-a,-hM,-hJ];done)|rfl),rfl,by first|(simp only[*,go_sem,-a,-hM,-hJ];done)|(simp only[*,go_sem,-a,-hM,-hJ];rfl),rfl⟩ ?_ ?_
 ·refine ai.pure (hM _) 1 (n:=0) _ rfl rfl ?_;simp only[*,go_sem,-a,-hM]
  refine ai.nil hM (a _ _ _ ?_);clear a K
  exact fj (lE rfl (by simp only[*,go_sem,-hM,-hJ]) (by simp only[*,go_sem,-hM,-hJ]) ⟨rfl,.inl ⟨rfl,rfl⟩⟩).2
 ·refine ai.pure (hM _) 1 (n:=0) _ rfl rfl ?_;simp only[*,go_sem,-a,-hM]
  refine ai.nil hM (a _ _ _ ?_);clear a K
  exact fj (lE rfl (by simp only[*,go_sem,-hM,-hJ]) (by simp only[*,go_sem,-hM,-hJ]) ⟨rfl,.inr ⟨rfl,rfl⟩⟩).2
end
attribute [local go_sem] Int.reduceBEq Int.reduceBNe muA msA stA smA
def J7 (Wg:Nat)(F:aa)(z:Z)(v:Int)(a:Act)(F':aa)(b:Z):Prop:=
 F'=F/\slot a 1= .int .i64 1/\slot a 7= .int .i32 v/\slot a 8= .int .u32 0/\sz a=117/\a.defers=[dcall 153 #[]]/\b=z
section
variable {Φ : Goroutine → aa → Prop} {x : X} {F : aa} {k : Nat}
theorem J8 (aG:x.Mu≠x.Wg/\x.Mu≠x.Is/\x.Wg≠x.Is)(m:x.n<67108864):
  cD Tryz.prog (ZJ TT Φ) 132 #[.pointer (some (stA x.Wg)),.int .i64 1] F (.co x k (.opn 0) 0)
   (fun r F' f=>r= .tuple #[]/\F'=F/\f= .co x k (.opn 1) 0):=by
 have hM:=ZJ.ek TT Φ
 have hJ:True:=trivial
 refine cD.J0 lF Tryz.func132 rfl rfl Tryz.ntmps132 (by simp) fun A g hd hs=>?_
 have o:=hs 0
 have k1:=hs 1
 clear hs
 have c1:decide ((1:Int)<0)=false:=by decide
 have c2:decide ((1:Int)>0)=true:=by decide
 repeat refine ax (hM _) ?_
 refine cW (hM _) (by simp only[*,go_sem,-hM,-hJ]) ?_
 repeat refine ax (hM _) ?_
 refine aZ hM fun K a=>?_
 refine ai.pure (hM _) 2 (n:=0) _ rfl rfl ?_;simp only[*,go_sem,-a,-hM]
 refine ai.nil hM (a _ _ _ ?_);clear a K
 repeat refine ax (hM _) ?_
 refine cA (hM _) (by simp only[*,go_sem,-hM,-hJ]) ?_
 refine cE (hM _) ?_
 repeat refine ax (hM _) ?_
 refine aZ hM fun K a=>?_
 refine CW qv ⟨_,_,_,rfl,(by first|(simp only[*,go_sem,-a,-hM,-hJ];done)|rfl),rfl,by first|(simp only[*,go_sem,-a,-hM,-hJ];done)|(simp only[*,go_sem,-a,-hM,-hJ];rfl),rfl⟩ (fun e=>by cases e) (.opn 0) (fun _ _ _ h=>h) ?_
 refine ai.nil hM (a _ _ _ ?_);clear a K
 repeat refine ax (hM _) ?_
 refine aZ hM fun K a=>?_
 refine ai.defer (hM _) rfl (by first|(simp only[*,go_sem,-a,-hM,-hJ];done)|rfl) rfl rfl (by simp;rfl) fun c e1 e2 i=>?_
 have l0:slot c 0= .pointer (some ⟨x.Wg,0,none⟩):=(e1 0).trans (by simp only[*,go_sem,-hM,-hJ])
 have j:slot c 1= .int .i64 1:=(e1 1).trans (by simp only[*,go_sem,-hM,-hJ])
 replace g:sz c=117:=e2.trans (by simp only[*,go_sem,-hM,-hJ])
 replace hd:c.defers=[dcall 153 #[]]:=i.trans (by simp only[*,go_sem,-hM,-hJ])
 clear e1 e2 i o k1
 refine ai.nil hM (a _ _ _ ?_);clear a K
 repeat refine ax (hM _) ?_
 refine aZ hM fun K a=>?_
 refine ai.pure (hM _) 1 (n:=0) _ rfl rfl ?_;simp only[*,go_sem,-a,-hM]
 refine ai.nil hM (a _ _ _ ?_);clear a K
 repeat refine ax (hM _) ?_
 refine aZ hM fun K a=>?_
 refine ai.entry (.bool false) (hM _) CE ⟨_,_,_,rfl,(by first|(simp only[*,go_sem,-a,-hM,-hJ];done)|rfl),rfl,by first|(simp only[*,go_sem,-a,-hM,-hJ];done)|(simp only[*,go_sem,-a,-hM,-hJ];rfl),rfl⟩ ?_
 refine ai.nil hM (a _ _ _ ?_);clear a K
 repeat refine ax (hM _) ?_
 refine cA (hM _) (by simp only[*,go_sem,-hM,-hJ]) ?_
 refine cE (hM _) ?_
 have w1:IntKind.u64.wrap 1=1:=by decide
 have w2:IntKind.u64.wrap (1*2 ^ min 32 64)=4294967296:=by decide
 repeat refine ax (hM _) ?_
 refine aZ hM fun K a=>?_
 refine ai.pure (hM _) 6 (n:=2) _ rfl rfl ?_;simp only[*,go_sem,-a,-hM]
 refine ai.fW (hM _) rfl (by first|(simp only[*,go_sem,-a,-hM,-hJ];done)|rfl) rfl zQ (by simp only[*,go_sem,-a,-hM,-hJ]) (J3 aG m) fun r F' aL p=>?_
 obtain ⟨rfl,v,q,rfl,rfl⟩:=p
 obtain ⟨y,b⟩:∃y:Int,y=((v+1:Nat):Int)*4294967296+((0:Nat):Int):=⟨_,rfl⟩
 rw[<-b]
 have a1:hO y 2147483648=0:=by show kJ y 2147483648=0;rw[b];exact ye (v+1) 0 (by omega) (by omega)
 have a2:hO y 2147483647=0:=by show kJ y 2147483647=0;rw[b];exact yf (v+1) 0 (by omega) (by omega)
 obtain ⟨V,l⟩:∃V:Int,V=((v+1:Nat):Int):=⟨_,rfl⟩
 have a3:y.fdiv (2 ^ min 32 64)=V:=by rw[b,l];exact yg (v+1) 0 (by omega)
 have a4:IntKind.i32.wrap V=V:=iH (by omega) (by omega)
 have a5:IntKind.u32.wrap 0=0:=by decide
 have u:IntKind.i32.wrap 1=1:=by decide
 have c3:decide (V<0)=false:=by simp;omega
 have c4:decide (V>0)=true:=by simp;omega
 have d:(V==1)=true\/(V==1)=false:=by cases (V==1)<;>simp
 clear b l q
 refine ai.pure (hM _) 1 (n:=0) _ rfl rfl ?_;simp only[*,go_sem,-a,-hM]
 refine ai.nil hM (a _ _ _ ?_);clear a K
 repeat refine ax (hM _) ?_
 refine aZ hM fun K a=>?_
 refine ai.pure (hM _) 7 (n:=0) _ rfl rfl ?_;simp only[*,go_sem,-a,-hM]
 refine ai.nil hM (a _ _ _ ?_);clear a K
 repeat refine ax (hM _) ?_
 refine cA (hM _) (by simp only[*,go_sem,-hM,-hJ]) ?_
 refine cE (hM _) ?_
 repeat refine ax (hM _) ?_
 refine aZ hM fun K a=>?_
 refine ai.pure (hM _) 4 (n:=0) _ rfl rfl ?_;simp only[*,go_sem,-a,-hM]
 refine ai.nil hM (a _ _ _ ?_);clear a K
 repeat refine ax (hM _) ?_
 refine aZ hM fun K a=>?_
 refine ai.pure (hM _) 4 (n:=0) _ rfl rfl ?_;simp only[*,go_sem,-a,-hM]
 refine ai.nil hM (a _ _ _ ?_);clear a K
 repeat refine ax (hM _) ?_
 refine aZ hM fun K a=>?_
 refine ai.pure (hM _) 10 (n:=0) _ rfl rfl ?_;simp only[*,go_sem,-a,-hM]
 refine ai.nil hM (a _ _ _ ?_);clear a K
 repeat refine ax (hM _) ?_
 refine tw hM (J7 x.Wg F' (.co x k (.opn 1) 1) V) ?_ ?_
 ·rcases d with d|d
  ·repeat refine ax (hM _) ?_
   refine cW (hM _) (by simp only[*,go_sem,-hM,-hJ]) ?_
   repeat refine ax (hM _) ?_
   refine aZ hM fun K a=>?_
   refine ai.pure (hM _) 3 (n:=2) _ rfl rfl ?_;simp only[*,go_sem,-a,-hM]
   refine tD ⟨x.Wg,1,none⟩ CF lG CG ⟨_,rfl,(by first|(simp only[*,go_sem,-a,-hM,-hJ];done)|rfl),rfl,rfl⟩ (fun e=>by cases e) (by simp only[*,go_sem,-a,-hM,-hJ]) C1 ?_
   refine JP I7 ⟨_,_,_,rfl,(by first|(simp only[*,go_sem,-a,-hM,-hJ];done)|rfl),rfl,by first|(simp only[*,go_sem,-a,-hM,-hJ];done)|(simp only[*,go_sem,-a,-hM,-hJ];rfl),rfl⟩ (fun e=>by cases e) ?_
   refine ai.nil hM (a _ _ _ ?_);clear a K
   exact ew ⟨rfl,(by simp only[*,go_sem,-hM,-hJ]),(by simp only[*,go_sem,-hM,-hJ]),(by simp only[*,go_sem,-hM,-hJ]),(by simp only[*,go_sem,-hM,-hJ]),(by simp only[*,go_sem,-hM,-hJ]),rfl⟩
  ·repeat refine ax (hM _) ?_
   refine cA (hM _) (by simp only[*,go_sem,-hM,-hJ]) ?_
   refine cE (hM _) ?_
   exact ew ⟨rfl,(by simp only[*,go_sem,-hM,-hJ]),(by simp only[*,go_sem,-hM,-hJ]),(by simp only[*,go_sem,-hM,-hJ]),(by simp only[*,go_sem,-hM,-hJ]),(by simp only[*,go_sem,-hM,-hJ]),rfl⟩
 clear d l0 j g hd a1 a2 a3
 rintro A s w ⟨rfl,j,z,B,g,hd,rfl⟩
 repeat refine ax (hM _) ?_
 refine aZ hM fun K a=>?_
 refine ai.pure (hM _) 2 (n:=0) _ rfl rfl ?_;simp only[*,go_sem,-a,-hM]
 refine ai.nil hM (a _ _ _ ?_);clear a K
 repeat refine ax (hM _) ?_
 refine cA (hM _) (by simp only[*,go_sem,-hM,-hJ]) ?_
 refine cE (hM _) ?_
 repeat refine ax (hM _) ?_
 refine aZ hM fun K a=>?_
 refine ai.pure (hM _) 12 (n:=0) _ rfl rfl ?_;simp only[*,go_sem,-a,-hM]
 refine ai.nil hM (a _ _ _ ?_);clear a K
 repeat refine ax (hM _) ?_
 refine cA (hM _) (by simp only[*,go_sem,-hM,-hJ]) ?_
 refine cE (hM _) ?_
 repeat refine ax (hM _) ?_
 refine aZ hM fun K a=>?_
 refine ai.pure (hM _) 6 (n:=0) _ rfl rfl ?_;simp only[*,go_sem,-a,-hM]
 refine ai.nil hM (a _ _ _ ?_);clear a K
 repeat refine ax (hM _) ?_
 refine cW (hM _) (by simp only[*,go_sem,-hM,-hJ]) ?_
 exact fj (show yj 153 (fun r t f=>r= .tuple #[]/\t=s/\f= .co x k (.opn 1) 0) .ret _ _ _ from J2 (by simp only[*,go_sem,-hM,-hJ]) (fun e=>by cases e) ⟨rfl,rfl,rfl⟩)
end
attribute [local go_sem] Int.reduceBEq Int.reduceBNe muA msA stA smA
def C2 (x:X)(F:aa)(m:Nat)(a:Act)(F':aa)(z:Z):Prop:=
 ∃u:Nat,u<=m/\u<=x.n/\F'=F/\slot a 0= .pointer (some ⟨x.Wg,0,none⟩)/\sz a=84/\a.defers=[]/\z= .co x x.n (.look u) 1
section
variable {Φ : Goroutine → aa → Prop} {x : X} {F : aa} {k : Nat}
theorem J9 (aG:x.Mu≠x.Wg/\x.Mu≠x.Is/\x.Wg≠x.Is)(w:x.n<67108864):
  cD Tryz.prog (ZJ TT Φ) 139 #[.pointer (some (stA x.Wg))] F (.co x x.n (.opn 0) 0)
   (fun r F' c=>r= .tuple #[]/\F'=⟨F.ro,(x.Is,(x.cy TT).fin)::F.own⟩/\c= .free):=by
 have hM:=ZJ.ek TT Φ
 have hJ:True:=trivial
 refine cD.go (main:=true) hM Tryz.func139 rfl Tryz.ntmps139 (by simp) fun A l hd hs=>?_
 have o:=hs 0
 clear hs
 repeat refine ax (hM _) ?_
 refine cW (hM _) (by simp only[*,go_sem,-hM,-hJ]) ?_
 repeat refine ax (hM _) ?_
 refine aZ hM fun K a=>?_
 refine CW qv ⟨_,_,_,rfl,(by first|(simp only[*,go_sem,-a,-hM,-hJ];done)|rfl),rfl,by first|(simp only[*,go_sem,-a,-hM,-hJ];done)|(simp only[*,go_sem,-a,-hM,-hJ];rfl),rfl⟩ (fun e=>by cases e) (.look x.n) (fun _ _ _ h=>IB h) ?_
 refine ai.nil hM (a _ _ _ ?_);clear a K
 repeat refine ax (hM _) ?_
 refine jM hM ?_
 refine qu hM (C2 x F) x.n ?_ ?_
 ·exact ⟨x.n,Nat.le_refl _,Nat.le_refl _,rfl,(by simp only[*,go_sem,-hM,-hJ]),(by simp only[*,go_sem,-hM,-hJ]),(by simp only[*,go_sem,-hM,-hJ]),rfl⟩
 ·clear l hd o
  rintro m A F' c ⟨u,z,B,rfl,o,l,hd,rfl⟩
  repeat refine ax (hM _) ?_
  refine jM hM ?_
  repeat refine ax (hM _) ?_
  refine aZ hM fun K a=>?_
  refine ai.pure (hM _) 3 (n:=2) _ rfl rfl ?_;simp only[*,go_sem,-a,-hM]
  refine ai.fW (hM _) rfl (by first|(simp only[*,go_sem,-a,-hM,-hJ];done)|rfl) rfl uY (by simp only[*,go_sem,-a,-hM,-hJ]) J4 fun r j C d=>?_
  obtain ⟨rfl,v,s,rfl,rfl⟩:=d
  obtain ⟨y,b⟩:∃y:Int,y=(v:Int)*4294967296+((0:Nat):Int):=⟨_,rfl⟩
  rw[<-b]
  have a1:hO y 2147483648=0:=by show kJ y 2147483648=0;rw[b];exact ye v 0 (by omega) (by omega)
  have a2:hO y 2147483647=0:=by show kJ y 2147483647=0;rw[b];exact yf v 0 (by omega) (by omega)
  obtain ⟨V,g⟩:∃V:Int,V=(v:Int):=⟨_,rfl⟩
  have a3:y.fdiv (2 ^ min 32 64)=V:=by rw[b,g];exact yg v 0 (by omega)
  have a4:IntKind.i32.wrap V=V:=iH (by omega) (by omega)
  have a5:IntKind.u32.wrap 0=0:=by decide
  have D:IntKind.u64.wrap (y+1)=y+1:=by
   unfold IntKind.wrap
   simp only[IntKind.bits,IntKind.signed]
   simp
   omega
  by_cases i:v=0
  ·
   have c1:(V==0)=true:=by rw[g,i];rfl
   have f:(if v=0 then P0.eM else .look v)= .eM:=if_pos i
   rw[f]
   clear f b g s i
   refine ai.pure (hM _) 1 (n:=0) _ rfl rfl ?_;simp only[*,go_sem,-a,-hM]
   refine ai.nil hM (a _ _ _ ?_);clear a K
   repeat refine ax (hM _) ?_
   refine aZ hM fun K a=>?_
   refine ai.pure (hM _) 4 (n:=0) _ rfl rfl ?_;simp only[*,go_sem,-a,-hM]
   refine ai.nil hM (a _ _ _ ?_);clear a K
   repeat refine ax (hM _) ?_
   refine aZ hM fun K a=>?_
   refine ai.pure (hM _) 4 (n:=0) _ rfl rfl ?_;simp only[*,go_sem,-a,-hM]
   refine ai.nil hM (a _ _ _ ?_);clear a K
   repeat refine ax (hM _) ?_
   refine aZ hM fun K a=>?_
   refine ai.pure (hM _) 2 (n:=0) _ rfl rfl ?_;simp only[*,go_sem,-a,-hM]
   refine ai.nil hM (a _ _ _ ?_);clear a K
   repeat refine ax (hM _) ?_
   refine cW (hM _) (by simp only[*,go_sem,-hM,-hJ]) ?_
   repeat refine ax (hM _) ?_
   refine cW (hM _) (by simp only[*,go_sem,-hM,-hJ]) ?_
   repeat refine ax (hM _) ?_
   refine aZ hM fun K a=>?_
   refine CX lF ⟨_,_,_,rfl,(by first|(simp only[*,go_sem,-a,-hM,-hJ];done)|rfl),rfl,by first|(simp only[*,go_sem,-a,-hM,-hJ];done)|(simp only[*,go_sem,-a,-hM,-hJ];rfl),rfl⟩ (fun e=>by cases e) ?_
   refine ai.nil hM (a _ _ _ ?_);clear a K
   repeat refine ax (hM _) ?_
   refine aZ hM fun K a=>?_
   refine ai.pure (hM _) 1 (n:=2) _ rfl rfl ?_;simp only[*,go_sem,-a,-hM]
   refine tD ⟨x.Wg,0,none⟩ xZ lG x3 ⟨_,rfl,(by first|(simp only[*,go_sem,-a,-hM,-hJ];done)|rfl),rfl,rfl⟩ (fun e=>by cases e) (by simp only[*,go_sem,-a,-hM,-hJ]) C0 ?_
   refine CZ tg rfl ⟨_,_,_,rfl,(by first|(simp only[*,go_sem,-a,-hM,-hJ];done)|rfl),rfl,by first|(simp only[*,go_sem,-a,-hM,-hJ];done)|(simp only[*,go_sem,-a,-hM,-hJ];rfl),rfl⟩ ?_
   refine ai.nil hM (a _ _ _ ?_);clear a K
   repeat refine ax (hM _) ?_
   refine aZ hM fun K a=>?_
   refine ai.pure (hM _) 11 (n:=0) _ rfl rfl ?_;simp only[*,go_sem,-a,-hM]
   refine ai.nil hM (a _ _ _ ?_);clear a K
   repeat refine ax (hM _) ?_
   refine cA (hM _) (by simp only[*,go_sem,-hM,-hJ]) ?_
   refine cE (hM _) ?_
   exact fj (show jN Tryz.prog Tryz.f139 (fun (r:Value) (F':aa) (c:Z)=>r= .tuple #[]/\F'=⟨j.ro,(x.Is,(x.cy TT).fin)::j.own⟩/\c=Z.free) .ret _ _ _ from oB rfl (by simp only[*,go_sem,-hM,-hJ]) ⟨rfl,rfl,rfl⟩)
  ·have c1:(V==0)=false:=by simp;omega
   have f:(if v=0 then P0.eM else .look v)= .look v:=if_neg i
   rw[f]
   have k:=J6 (Φ:=Φ) (F:=j) aG (v:=v) (by omega)
   rw[<-b] at k
   clear f b g
   refine ai.pure (hM _) 1 (n:=0) _ rfl rfl ?_;simp only[*,go_sem,-a,-hM]
   refine ai.nil hM (a _ _ _ ?_);clear a K
   repeat refine ax (hM _) ?_
   refine aZ hM fun K a=>?_
   refine ai.pure (hM _) 4 (n:=0) _ rfl rfl ?_;simp only[*,go_sem,-a,-hM]
   refine ai.nil hM (a _ _ _ ?_);clear a K
   repeat refine ax (hM _) ?_
   refine aZ hM fun K a=>?_
   refine ai.pure (hM _) 4 (n:=0) _ rfl rfl ?_;simp only[*,go_sem,-a,-hM]
   refine ai.nil hM (a _ _ _ ?_);clear a K
   repeat refine ax (hM _) ?_
   refine aZ hM fun K a=>?_
   refine ai.pure (hM _) 2 (n:=0) _ rfl rfl ?_;simp only[*,go_sem,-a,-hM]
   refine ai.nil hM (a _ _ _ ?_);clear a K
   repeat refine ax (hM _) ?_
   refine cA (hM _) (by simp only[*,go_sem,-hM,-hJ]) ?_
   refine cE (hM _) ?_
   repeat refine ax (hM _) ?_
   refine aZ hM fun K a=>?_
   refine ai.pure (hM _) 6 (n:=1) _ rfl rfl ?_;simp only[*,go_sem,-a,-hM]
   refine ai.fW (hM _) rfl (by first|(simp only[*,go_sem,-a,-hM,-hJ];done)|rfl) rfl EG (by simp only[*,go_sem,-a,-hM,-hJ]) k fun r t E d=>?_
   clear k
   obtain ⟨rfl,⟨rfl,rfl⟩|⟨rfl,rfl⟩⟩:=d
   ·
    refine ai.nil hM (a _ _ _ ?_);clear a K
    repeat refine ax (hM _) ?_
    refine cW (hM _) (by simp only[*,go_sem,-hM,-hJ]) ?_
    repeat refine ax (hM _) ?_
    refine aZ hM fun K a=>?_
    refine ai.pure (hM _) 4 (n:=0) _ rfl rfl ?_;simp only[*,go_sem,-a,-hM]
    refine ai.nil hM (a _ _ _ ?_);clear a K
    repeat refine ax (hM _) ?_
    refine cW (hM _) (by simp only[*,go_sem,-hM,-hJ]) ?_
    repeat refine ax (hM _) ?_
    refine aZ hM fun K a=>?_
    refine ai.pure (hM _) 3 (n:=2) _ rfl rfl ?_;simp only[*,go_sem,-a,-hM]
    refine tD ⟨x.Wg,1,none⟩ CF lG CG ⟨_,rfl,(by first|(simp only[*,go_sem,-a,-hM,-hJ];done)|rfl),rfl,rfl⟩ (fun _=>rfl) (by simp only[*,go_sem,-a,-hM,-hJ]) C1 ?_
    refine JQ I8 ⟨_,_,_,rfl,(by first|(simp only[*,go_sem,-a,-hM,-hJ];done)|rfl),rfl,by first|(simp only[*,go_sem,-a,-hM,-hJ];done)|(simp only[*,go_sem,-a,-hM,-hJ];rfl),rfl⟩ (fun _=>rfl) ?_
    refine ai.nil hM (a _ _ _ ?_);clear a K
    repeat refine ax (hM _) ?_
    refine aZ hM fun K a=>?_
    refine ai.pure (hM _) 1 (n:=0) _ rfl rfl ?_;simp only[*,go_sem,-a,-hM]
    refine ai.nil hM (a _ _ _ ?_);clear a K
    repeat refine ax (hM _) ?_
    refine aZ hM fun K a=>?_
    refine ai.pure (hM _) 6 (n:=0) _ rfl rfl ?_;simp only[*,go_sem,-a,-hM]
    refine ai.nil hM (a _ _ _ ?_);clear a K
    repeat refine ax (hM _) ?_
    refine cA (hM _) (by simp only[*,go_sem,-hM,-hJ]) ?_
    refine cE (hM _) ?_
    repeat refine ax (hM _) ?_
    refine aZ hM fun K a=>?_
    refine ai.pure (hM _) 4 (n:=1) _ rfl rfl ?_;simp only[*,go_sem,-a,-hM]
    refine JW (.bool false) I9 aG rfl ⟨_,_,_,rfl,(by first|(simp only[*,go_sem,-a,-hM,-hJ];done)|rfl),rfl,by first|(simp only[*,go_sem,-a,-hM,-hJ];done)|(simp only[*,go_sem,-a,-hM,-hJ];rfl),rfl⟩ ?_
    refine ai.nil hM (a _ _ _ ?_);clear a K
    repeat refine ax (hM _) ?_
    refine aZ hM fun K a=>?_
    refine ai.pure (hM _) 3 (n:=3) _ rfl rfl ?_;simp only[*,go_sem,-a,-hM]
    refine ai.fW (hM _) rfl (by first|(simp only[*,go_sem,-a,-hM,-hJ];done)|rfl) rfl uY (by simp only[*,go_sem,-a,-hM,-hJ]) J5 fun r p G d=>?_
    obtain ⟨rfl,rfl,rfl⟩:=d
    refine ai.pure (hM _) 2 (n:=0) _ rfl rfl ?_;simp only[*,go_sem,-a,-hM]
    refine ai.nil hM (a _ _ _ ?_);clear a K
    repeat refine ax (hM _) ?_
    refine cW (hM _) (by simp only[*,go_sem,-hM,-hJ]) ?_
    repeat refine ax (hM _) ?_
    refine aZ hM fun K a=>?_
    refine CX lF ⟨_,_,_,rfl,(by first|(simp only[*,go_sem,-a,-hM,-hJ];done)|rfl),rfl,by first|(simp only[*,go_sem,-a,-hM,-hJ];done)|(simp only[*,go_sem,-a,-hM,-hJ];rfl),rfl⟩ (fun e=>by cases e) ?_
    refine ai.nil hM (a _ _ _ ?_);clear a K
    repeat refine ax (hM _) ?_
    refine aZ hM fun K a=>?_
    refine ai.pure (hM _) 1 (n:=2) _ rfl rfl ?_;simp only[*,go_sem,-a,-hM]
    refine tD ⟨x.Wg,0,none⟩ xZ lG x3 ⟨_,rfl,(by first|(simp only[*,go_sem,-a,-hM,-hJ];done)|rfl),rfl,rfl⟩ (fun e=>by cases e) (by simp only[*,go_sem,-a,-hM,-hJ]) C0 ?_
    refine CZ tg rfl ⟨_,_,_,rfl,(by first|(simp only[*,go_sem,-a,-hM,-hJ];done)|rfl),rfl,by first|(simp only[*,go_sem,-a,-hM,-hJ];done)|(simp only[*,go_sem,-a,-hM,-hJ];rfl),rfl⟩ ?_
    refine ai.nil hM (a _ _ _ ?_);clear a K
    repeat refine ax (hM _) ?_
    refine aZ hM fun K a=>?_
    refine ai.pure (hM _) 1 (n:=0) _ rfl rfl ?_;simp only[*,go_sem,-a,-hM]
    refine ai.nil hM (a _ _ _ ?_);clear a K
    repeat refine ax (hM _) ?_
    refine cA (hM _) (by simp only[*,go_sem,-hM,-hJ]) ?_
    refine cE (hM _) ?_
    exact fj (show jN Tryz.prog Tryz.f139 (fun (r:Value) (F':aa) (c:Z)=>r= .tuple #[]/\F'=⟨p.ro,(x.Is,(x.cy TT).fin)::p.own⟩/\c=Z.free) .ret _ _ _ from oB rfl (by simp only[*,go_sem,-hM,-hJ]) ⟨rfl,rfl,rfl⟩)
   ·
    refine ai.nil hM (a _ _ _ ?_);clear a K
    repeat refine ax (hM _) ?_
    refine cA (hM _) (by simp only[*,go_sem,-hM,-hJ]) ?_
    refine cE (hM _) ?_
    change ∃q,q<m/\C2 x t q _ _ _
    exact ⟨v - 1,by omega,v - 1,Nat.le_refl _,by omega,rfl,(by simp only[*,go_sem,-hM,-hJ]),(by simp only[*,go_sem,-hM,-hJ]),(by simp only[*,go_sem,-hM,-hJ]),rfl⟩
end
end Go.Proofs.YtpgcmoanfifglaaGreatDoor
end
section
namespace Go.Sep
open Go Go.Conc
variable {P : Program}
theorem Ka {t e:TypeId}{i:TypeInfo}{n:Nat}{R:Value->aa->Prop}{F:aa}(hu:P.underlying t=some (.slice e))(hi:P.info? e=some i)(hb:i.bytes=1)(hs:bY P e=some 1)(d:zeroOf P e=some (.bool false))(g:n<1048576)
  (h:∀b,dQ F b->R (.slice (some ⟨b,0,none⟩) n n) (F.push b (.cells (List.replicate n (Value.bool false)).toArray e))):eO P (Instr.makeSlice t (.int .i64 n) (.int .i64 n)) R F:=by
 unfold eO
 have hw:IntKind.i64.wrap (n:Int)=(n:Int):=by
  unfold IntKind.wrap
  simp[IntKind.bits,IntKind.signed]
  omega
 have e1:¬((n:Int)<0\/(1:Int)*(n:Int)>2 ^ 48):=by
  have:((2:Int) ^ 48)=281474976710656:=by decide
  omega
 simp only[Instr.makeSlice,bq,dy,hu,zd,oR,hi,hb,hw]
 have e2:(((n:Int)<0||decide (((1:Nat):Int)*(n:Int)>2 ^ 48))||decide ((n:Int)<0)||decide ((n:Int)>(n:Int)))=false:=by
  have:((2:Int) ^ 48)=281474976710656:=by decide
  simp only[Bool.or_eq_false_iff,decide_eq_false_iff_not]
  omega
 rw[if_neg (by rw[e2];simp)]
 simp only[bq]
 refine uD _ ?_
 simp only[bq,eG,hs,Int.toNat_natCast,Nat.mul_one]
 have fin:∀zero:Array Value,(n≠0->zero=#[.bool false])->aU P (newRow e ((Array.range n).map (fun j=>zero[j % zero.size]!))) (fun a G=>aU P (Pure.pure (Value.slice (some a) n n)) R G) F:=fun zero hzero=>by
  simp only[newRow,bq,oQ,bF]
  have f:((Array.range n).map (fun j=>zero[j % zero.size]!))=(List.replicate n (Value.bool false)).toArray:=by
   rcases Nat.eq_zero_or_pos n with rfl|k
   ·simp
   ·rw[hzero (by omega)]
    rw[<-Array.toList_inj]
    simp only[Array.toList_map,Array.toList_range]
    apply List.ext_getElem
    ·simp
    ·intro i l m
     simp[Nat.mod_one]
  rw[f]
  exact ⟨rfl,h⟩
 by_cases c:n=0
 ·rw[if_pos c]
  exact fin #[] (fun x=>absurd c x)
 ·rw[if_neg c]
  rw[bq,lN,d]
  exact fin #[.bool false] (fun _=>rfl)
section
variable {T : PT} {Φ : Goroutine → aa → Prop} {fi : FuncId}
def yl:Z->Bool| .co _ _ .reg _=>false|_=>true
theorem ZJ.Kb (T:PT)(Φ:Goroutine->aa->Prop)(z:Z)(h:yl z=true):Closed T.P true (ZJ T Φ z):=ZJ.closed T Φ fun x k d e=>by subst e;simp[yl] at h
theorem C3 {P:Program}{main:Bool}{S:Type}{JF:S->Goroutine->aa->Prop}{ph:S}(hJ:Closed P main (JF ph)){c:Code}{Q:Ex->Act->aa->S->Prop}{a:Act}{F F':aa}(hle:Le F F')(h:cJ JF fi c Q a F ph):cJ JF fi c Q a F' ph:=
 fun b k cs hb d=>hJ.mono hle (h b k cs hb d)
theorem ym {P:Program}{main:Bool}{S:Type}{JF:S->Goroutine->aa->Prop}{ph:S}(hJ:Closed P main (JF ph)){c:Code}{Q:Ex->Act->aa->S->Prop}{a:Act}{F:aa}(h:aQ (keys F.own)->aE F.ro F.own->cJ JF fi c Q a F ph):cJ JF fi c Q a F ph:=by
 intro b k cs hb d;by_cases hw:∃w,Has F w
 ·obtain ⟨w,hw⟩:=hw;refine h ⟨hw.nodup⟩ (fun b hb off sp=>?_) b k cs hb d;cases e:F.ro ⟨b,off,sp⟩ with
  |none=>rfl
  |some v=>exact absurd hb (hw.apart _ v e)
 ·exact hJ.step fun w f=>absurd ⟨w,f⟩ hw
end
theorem mW {ro:Addr->Option Value}{b a off:Nat}{sp:Option Nat}{o:Obj}(h:ro ⟨a,off,sp⟩=none)(aG:a≠b):bT ro b o ⟨a,off,sp⟩=none:=by simp[bT,h,aG]
theorem Kc {ro:Addr->Option Value}{b3 b4 b a I M W:Nat}{i o4 g c d e f:Obj}(p:aQ (keys [(W,f),(M,e),(a,c),(I,d),(b,g),(b4,o4),(b3,i)]))(l:aE ro [(W,f),(M,e),(a,c),(I,d),(b,g),(b4,o4),(b3,i)]):
  ∃j,Ext ro j/\Le ⟨j,[(M,e),(W,f),(I,d)]⟩ ⟨ro,[(W,f),(M,e),(a,c),(I,d),(b,g),(b4,o4),(b3,i)]⟩/\
   (∀off v,cellOf i off=some v->j ⟨b3,off,none⟩=some v)/\(∀off v,cellOf o4 off=some v->j ⟨b4,off,none⟩=some v)/\(∀off v,cellOf g off=some v->j ⟨b,off,none⟩=some v)/\(∀off v,cellOf c off=some v->j ⟨a,off,none⟩=some v):=by
 have hd:=p.1
 simp only[keys,List.map_cons,List.map_nil,List.nodup_cons,List.mem_cons,List.not_mem_nil,not_or] at hd
 obtain ⟨⟨-,a1,-,a2,a3,a4,-⟩,⟨G,-,H,J,K,-⟩,⟨c1,c2,c3,c4,-⟩,⟨i1,i2,i3,-⟩,⟨e1,e2,-⟩,⟨r,-⟩,-⟩:=hd
 have r3:∀off sp,ro ⟨b3,off,sp⟩=none:=l b3 (by simp[keys])
 have s:∀off sp,ro ⟨b4,off,sp⟩=none:=l b4 (by simp[keys])
 have t:∀off sp,ro ⟨b,off,sp⟩=none:=l b (by simp[keys])
 have u:∀off sp,ro ⟨a,off,sp⟩=none:=l a (by simp[keys])
 clear l p
 have w:b4≠b3:=r
 have x:b≠b3:=e2
 have y:b≠b4:=e1
 have z:a≠b3:=c4
 have A:a≠b4:=c3
 have B:a≠b:=c2
 let s1:=bT ro b3 i
 let s2:=bT s1 b4 o4
 let k:=bT s2 b g
 let n:=bT k a c
 have C:Ext ro s1:=fY _ _ _
 have q:Ext s1 s2:=fY _ _ _
 have o:Ext s2 k:=fY _ _ _
 have m:Ext k n:=fY _ _ _
 have t4:∀off sp,s1 ⟨b4,off,sp⟩=none:=fun off sp=>mW (s off sp) w
 have t7:∀off sp,s2 ⟨b,off,sp⟩=none:=fun off sp=>mW (mW (t off sp) x) y
 have t8:∀off sp,k ⟨a,off,sp⟩=none:=fun off sp=>mW (mW (mW (u off sp) z) A) B
 have k1:Le ⟨s1,[(W,f),(M,e),(a,c),(I,d),(b,g),(b4,o4)]⟩ ⟨ro,[(W,f),(M,e),(a,c),(I,d),(b,g),(b4,o4),(b3,i)]⟩:=
  jV (by simp[lk, *]) (by simp) (by simp[au,Ne.symm, *])
 have D:Le ⟨s2,[(W,f),(M,e),(a,c),(I,d),(b,g)]⟩ ⟨s1,[(W,f),(M,e),(a,c),(I,d),(b,g),(b4,o4)]⟩:=
  jV (by simp[lk, *]) (by simp) (by simp[au,Ne.symm, *])
 have E:Le ⟨k,[(W,f),(M,e),(a,c),(I,d)]⟩ ⟨s2,[(W,f),(M,e),(a,c),(I,d),(b,g)]⟩:=
  jV (by simp[lk, *]) (by simp) (by simp[au,Ne.symm, *])
 have F:Le ⟨n,[(W,f),(M,e),(I,d)]⟩ ⟨k,[(W,f),(M,e),(a,c),(I,d)]⟩:=
  jV (by simp[lk, *]) (by simp) (by simp[au,Ne.symm, *])
 refine ⟨n,((C.trans q).trans o).trans m,zS.trans (((F.trans E).trans D).trans k1),fun off v h=>?_,fun off v h=>?_,fun off v h=>?_,fun off v h=>?_⟩
 ·exact m _ _ (o _ _ (q _ _ ((iU r3).trans h)))
 ·exact m _ _ (o _ _ ((iU t4).trans h))
 ·exact m _ _ ((iU t7).trans h)
 ·exact (iU t8).trans h
theorem Ke {ro:Addr->Option Value}{a b2:Nat}{o1 o2:Obj}(d:aQ (keys [(b2,o2),(a,o1)]))(c:aE ro [(b2,o2),(a,o1)]):
  ∃b,Ext ro b/\Le ⟨b,[]⟩ ⟨ro,[(b2,o2),(a,o1)]⟩/\(∀off v,cellOf o1 off=some v->b ⟨a,off,none⟩=some v)/\(∀off v,cellOf o2 off=some v->b ⟨b2,off,none⟩=some v):=by
 have hd:=d.1
 simp only[keys,List.map_cons,List.map_nil,List.nodup_cons,List.mem_cons,List.not_mem_nil,not_or] at hd
 have r1:∀off sp,ro ⟨a,off,sp⟩=none:=c a (by simp[keys])
 have r2:∀off sp,ro ⟨b2,off,sp⟩=none:=c b2 (by simp[keys])
 have e:b2≠a:=by obtain ⟨⟨z,-⟩,-⟩:=hd;exact z
 have t2:∀off sp,bT ro a o1 ⟨b2,off,sp⟩=none:=fun off sp=>mW (r2 off sp) e
 have k1:Le ⟨bT ro a o1,[(b2,o2)]⟩ ⟨ro,[(b2,o2),(a,o1)]⟩:=jV (by simp[lk, *]) (by simp) (by simp[au,Ne.symm, *])
 have f:Le ⟨bT (bT ro a o1) b2 o2,[]⟩ ⟨bT ro a o1,[(b2,o2)]⟩:=jV (by simp only[lk];simp) (by simp) trivial
 exact ⟨_,(fY _ _ _).trans (fY _ _ _),f.trans k1,fun off v h=>fY _ _ _ _ _ ((iU r1).trans h),fun off v h=>(iU t2).trans h⟩
theorem Kf {T:PT}{Φ:Goroutine->aa->Prop}{x:X}{k:Nat}{ops:Array Oper}{j n:Nat}{Q:Act->aa->Z->Prop}{a:Act}{F:aa}{fi:FuncId}(b:k<x.n){y:Operand}{f0:FuncId}{dj:Array TypeId}{caps:Array Value}(hA:mT ops j a (.go {callee:=.value y,args:=#[],argTypes:=dj}) none)(c:ev a y= .func (.func f0) #[] caps)
  (hW:Wk (x.cy T) k ⟨.idle,.cnt,false,0⟩ (born T.P {target:=.fn (.func f0) caps,args:=#[]}) ⟨F.ro,[]⟩) (h:ai (ZJ T Φ) fi ops (j+1) n Q (bf a none undef) F (.co x (k+1) (.opn 0) 0)):ai (ZJ T Φ) fi ops j (n+1) Q a F (.co x k (.opn 1) 0):=by
 obtain ⟨o,d,hg,e,hd⟩:=hA
 have e1:execOp a.eval o=(pure (.spawn {target:=.fn (.func f0) caps,args:=#[]}):Sem Next):=by
  unfold execOp
  have e0:(#[]:Array Value)++Array.map (ev a) #[]=#[]:=by simp
  simp only[e,resolve,ey,c,Deferred.ofValue,e0]
  rfl
 refine JX (fv:=y) b d hg (fun w=>?_) rfl hW (by rw[hd];exact h)
 rw[e1]
 exact ⟨rfl,rfl⟩
end Go.Sep
end
section
namespace Go.Proofs.YtpgcmoanfifglaaGreatDoor
open Go Go.Sep Go.Proofs Go.Conc
open Go.ConcN (upd upd_same)
open Go.ConcM (muA msA)
open Go.ConcR (stA smA)
set_option maxRecDepth 100000
set_option maxHeartbeats 4000000
attribute [local go_sem] Int.reduceBEq Int.reduceBNe muA msA stA smA
def Kg (Wg:Nat)(st:Bool)(F:aa)(m:Nat)(a:Act)(F':aa)(ph:Ph):Prop:=
 ∃t8:Int,F'=F/\slot a 0= .pointer (some ⟨Wg,0,none⟩)/\slot a 8= .int .u32 t8/\sz a=117/\a.defers=[dcall 153 #[]]/\((m=1/\t8=1/\ph=⟨.fin,.sm,st,1⟩)\/(m=0/\t8=0/\ph=⟨.fin,.gone,st,1⟩))
theorem Kh {f:FuncId}{R:Value->aa->Ph->Prop}{a:Act}{F:aa}{ph:Ph}{b:Nat}(hd:a.defers=[dcall f #[]])(hg:ph.gp= .gone)(h:ph.deaf=b+1)(c:R (.tuple #[]) F {ph with deaf:=b}):kI f R .normal a F ph:=⟨hd,hg,b,h,c⟩
theorem tE {f:FuncId}{R:Value->aa->Ph->Prop}{a:Act}{F:aa}{ph:Ph}{b:Nat}(hd:a.defers=[dcall f #[]])(hg:ph.gp= .gone)(h:ph.deaf=b+1)(c:R (.tuple #[]) F {ph with deaf:=b}):kI f R .ret a F ph:=⟨hd,hg,b,h,c⟩
section
variable {Mu Wg Is n base T0 i : Nat} {bs : Nat → Bool} {st : Bool} {F : aa}
theorem Ki (aG:Mu≠Wg/\Mu≠Is/\Wg≠Is)(p:n<67108864){mp:Mp}(q:mp= .idle\/mp= .fin)(s:st=bs i):
  cD Tryz.prog (WJ (CY Mu Wg Is n bs base T0) i) 132 #[.pointer (some (stA Wg)),.int .i64 (-1)] F ⟨mp,.cnt,st,0⟩
   (fun r F' aL=>r= .tuple #[]/\F'=F/\aL=⟨.fin,.gone,st,0⟩):=by
 have hM:=WJ.ek (CY Mu Wg Is n bs base T0) i
 refine cD.JE lF Tryz.func132 rfl rfl Tryz.ntmps132 (by simp) fun A f hd hs=>?_
 have hJ:True:=trivial
 have u:=hs 0
 have k1:=hs 1
 clear hs
 subst s
 have c1:decide ((-1:Int)<0)=true:=by decide
 have c2:decide ((-1:Int)>0)=false:=by decide
 repeat refine ax (hM _) ?_
 refine cW (hM _) (by simp only[*,go_sem,-hM,-hJ]) ?_
 repeat refine ax (hM _) ?_
 refine aZ hM fun K a=>?_
 refine ai.pure (hM _) 2 (n:=0) _ rfl rfl ?_;simp only[*,go_sem,-a,-hM]
 refine ai.nil hM (a _ _ _ ?_);clear a K
 repeat refine ax (hM _) ?_
 refine cW (hM _) (by simp only[*,go_sem,-hM,-hJ]) ?_
 repeat refine ax (hM _) ?_
 refine aZ hM fun K a=>?_
 refine ai.pure (hM _) 1 (n:=2) _ rfl rfl ?_;simp only[*,go_sem,-a,-hM]
 refine tu ⟨Wg,0,none⟩ xZ lG x3 ⟨_,rfl,(by first|(simp only[*,go_sem,-a,-hM,-hJ];done)|rfl),rfl,rfl⟩ (by simp) (by simp only[*,go_sem,-a,-hM,-hJ]) JH ?_
 refine Ji CA ⟨_,_,_,rfl,(by first|(simp only[*,go_sem,-a,-hM,-hJ];done)|rfl),rfl,by first|(simp only[*,go_sem,-a,-hM,-hJ];done)|(simp only[*,go_sem,-a,-hM,-hJ];rfl),rfl⟩ rfl rfl q rfl ?_
 refine ai.nil hM (a _ _ _ ?_);clear a K
 repeat refine ax (hM _) ?_
 refine aZ hM fun K a=>?_
 refine x9 qv ⟨_,_,_,rfl,(by first|(simp only[*,go_sem,-a,-hM,-hJ];done)|rfl),rfl,by first|(simp only[*,go_sem,-a,-hM,-hJ];done)|(simp only[*,go_sem,-a,-hM,-hJ];rfl),rfl⟩ (by simp) (by simp) ?_
 refine ai.nil hM (a _ _ _ ?_);clear a K
 repeat refine ax (hM _) ?_
 refine aZ hM fun K a=>?_
 refine ai.defer (hM _) rfl (by first|(simp only[*,go_sem,-a,-hM,-hJ];done)|rfl) rfl rfl (by simp;rfl) fun d e1 e2 j=>?_
 have l0:slot d 0= .pointer (some ⟨Wg,0,none⟩):=(e1 0).trans (by simp only[*,go_sem,-hM,-hJ])
 have w:slot d 1= .int .i64 (-1):=(e1 1).trans (by simp only[*,go_sem,-hM,-hJ])
 replace f:sz d=117:=e2.trans (by simp only[*,go_sem,-hM,-hJ])
 replace hd:d.defers=[dcall 153 #[]]:=j.trans (by simp only[*,go_sem,-hM,-hJ])
 clear e1 e2 j u k1
 refine ai.nil hM (a _ _ _ ?_);clear a K
 repeat refine ax (hM _) ?_
 refine aZ hM fun K a=>?_
 refine ai.pure (hM _) 1 (n:=0) _ rfl rfl ?_;simp only[*,go_sem,-a,-hM]
 refine ai.nil hM (a _ _ _ ?_);clear a K
 repeat refine ax (hM _) ?_
 refine aZ hM fun K a=>?_
 refine ai.entry (.bool false) (hM _) CE ⟨_,_,_,rfl,(by first|(simp only[*,go_sem,-a,-hM,-hJ];done)|rfl),rfl,by first|(simp only[*,go_sem,-a,-hM,-hJ];done)|(simp only[*,go_sem,-a,-hM,-hJ];rfl),rfl⟩ ?_
 refine ai.nil hM (a _ _ _ ?_);clear a K
 repeat refine ax (hM _) ?_
 refine cA (hM _) (by simp only[*,go_sem,-hM,-hJ]) ?_
 refine cE (hM _) ?_
 have w1:IntKind.u64.wrap (-1)=18446744073709551615:=by decide
 have w2:IntKind.u64.wrap (18446744073709551615*2 ^ min 32 64)=18446744069414584320:=by decide
 repeat refine ax (hM _) ?_
 refine aZ hM fun K a=>?_
 refine ai.pure (hM _) 6 (n:=2) _ rfl rfl ?_;simp only[*,go_sem,-a,-hM]
 refine ai.fW (hM _) rfl (by first|(simp only[*,go_sem,-a,-hM,-hJ];done)|rfl) rfl zQ (by simp only[*,go_sem,-a,-hM,-hJ]) (JI aG p) fun r F' aL c=>?_
 obtain ⟨rfl,v,t,k,ht,rfl,rfl⟩:=c
 obtain ⟨x,hx⟩:∃x:Int,x=(v:Int)*4294967296+(t:Int):=⟨_,rfl⟩
 rw[<-hx]
 have a1:hO x 2147483648=0:=by show kJ x 2147483648=0;rw[hx];exact ye v t (by omega) ht
 have a2:hO x 2147483647=(t:Int):=by show kJ x 2147483647=(t:Int);rw[hx];exact yf v t (by omega) ht
 have a3:x.fdiv (2 ^ min 32 64)=(v:Int):=by rw[hx];exact yg v t ht
 have a4:IntKind.i32.wrap (v:Int)=(v:Int):=iH (by omega) (by omega)
 have a5:IntKind.u32.wrap (t:Int)=(t:Int):=by
  unfold IntKind.wrap
  simp[IntKind.bits,IntKind.signed]
  omega
 have g:v=0->t=1->((1:Int) != x)=false:=fun e y=>by rw[hx,e,y];rfl
 clear hx
 refine ai.pure (hM _) 1 (n:=0) _ rfl rfl ?_;simp only[*,go_sem,-a,-hM]
 refine ai.nil hM (a _ _ _ ?_);clear a K
 repeat refine ax (hM _) ?_
 refine aZ hM fun K a=>?_
 refine ai.pure (hM _) 7 (n:=0) _ rfl rfl ?_;simp only[*,go_sem,-a,-hM]
 refine ai.nil hM (a _ _ _ ?_);clear a K
 repeat refine ax (hM _) ?_
 refine cA (hM _) (by simp only[*,go_sem,-hM,-hJ]) ?_
 refine cE (hM _) ?_
 repeat refine ax (hM _) ?_
 refine aZ hM fun K a=>?_
 refine ai.pure (hM _) 4 (n:=0) _ rfl rfl ?_;simp only[*,go_sem,-a,-hM]
 refine ai.nil hM (a _ _ _ ?_);clear a K
 repeat refine ax (hM _) ?_
 refine aZ hM fun K a=>?_
 refine ai.pure (hM _) 4 (n:=0) _ rfl rfl ?_;simp only[*,go_sem,-a,-hM]
 refine ai.nil hM (a _ _ _ ?_);clear a K
 repeat refine ax (hM _) ?_
 refine aZ hM fun K a=>?_
 refine ai.pure (hM _) 10 (n:=0) _ rfl rfl ?_;simp only[*,go_sem,-a,-hM]
 refine ai.nil hM (a _ _ _ ?_);clear a K
 repeat refine ax (hM _) ?_
 refine cA (hM _) (by simp only[*,go_sem,-hM,-hJ]) ?_
 refine cE (hM _) ?_
 have c3:decide ((v:Int)<0)=false:=by simp
 repeat refine ax (hM _) ?_
 refine aZ hM fun K a=>?_
 refine ai.pure (hM _) 2 (n:=0) _ rfl rfl ?_;simp only[*,go_sem,-a,-hM]
 refine ai.nil hM (a _ _ _ ?_);clear a K
 repeat refine ax (hM _) ?_
 refine cA (hM _) (by simp only[*,go_sem,-hM,-hJ]) ?_
 refine cE (hM _) ?_
 have l:t=0\/t=1:=by omega
 by_cases hC:v=0/\t=1
 ·
  obtain ⟨rfl,rfl⟩:=hC
  have z:((1:Int) != x)=false:=g rfl rfl
  have hg:(if (0:Nat)=0/\(1:Nat)=1 then Gp.ld else Gp.gone)= .ld:=rfl
  rw[hg]
  have B:((1:Nat):Int)=1:=rfl
  clear hg g l k ht
  repeat refine ax (hM _) ?_
  refine aZ hM fun K a=>?_
  refine ai.pure (hM _) 12 (n:=0) _ rfl rfl ?_;simp only[*,go_sem,-a,-hM]
  refine ai.nil hM (a _ _ _ ?_);clear a K
  repeat refine ax (hM _) ?_
  refine cA (hM _) (by simp only[*,go_sem,-hM,-hJ]) ?_
  refine cE (hM _) ?_
  repeat refine ax (hM _) ?_
  refine aZ hM fun K a=>?_
  refine ai.pure (hM _) 6 (n:=0) _ rfl rfl ?_;simp only[*,go_sem,-a,-hM]
  refine ai.nil hM (a _ _ _ ?_);clear a K
  repeat refine ax (hM _) ?_
  refine cA (hM _) (by simp only[*,go_sem,-hM,-hJ]) ?_
  refine cE (hM _) ?_
  repeat refine ax (hM _) ?_
  refine aZ hM fun K a=>?_
  refine ai.pure (hM _) 3 (n:=3) _ rfl rfl ?_;simp only[*,go_sem,-a,-hM]
  refine ai.fW (hM _) rfl (by first|(simp only[*,go_sem,-a,-hM,-hJ];done)|rfl) rfl uY (by simp only[*,go_sem,-a,-hM,-hJ]) JJ fun r F' aL c=>?_
  obtain ⟨rfl,rfl,rfl⟩:=c
  refine ai.pure (hM _) 2 (n:=0) _ rfl rfl ?_;simp only[*,go_sem,-a,-hM]
  refine ai.nil hM (a _ _ _ ?_);clear a K
  repeat refine ax (hM _) ?_
  refine cA (hM _) (by simp only[*,go_sem,-hM,-hJ]) ?_
  refine cE (hM _) ?_
  repeat refine ax (hM _) ?_
  refine aZ hM fun K a=>?_
  refine ai.pure (hM _) 3 (n:=1) _ rfl rfl ?_;simp only[*,go_sem,-a,-hM]
  refine ai.fW (hM _) rfl (by first|(simp only[*,go_sem,-a,-hM,-hJ];done)|rfl) rfl ED (by simp only[*,go_sem,-a,-hM,-hJ]) (JK aG) fun r F' aL c=>?_
  obtain ⟨rfl,rfl,rfl⟩:=c
  refine ai.nil hM (a _ _ _ ?_);clear a K
  repeat refine ax (hM _) ?_
  refine aZ hM fun K a=>?_
  refine ai.pure (hM _) 1 (n:=0) _ rfl rfl ?_;simp only[*,go_sem,-a,-hM]
  refine ai.nil hM (a _ _ _ ?_);clear a K
  repeat refine ax (hM _) ?_
  refine cA (hM _) (by simp only[*,go_sem,-hM,-hJ]) ?_
  refine cE (hM _) ?_
  repeat refine ax (hM _) ?_
  refine jM hM ?_
  refine qu hM (Kg Wg (bs i) F') 1 ?_ ?_
  ·exact ⟨1,rfl,(by simp only[*,go_sem,-hM,-hJ]),(by simp only[*,go_sem,-hM,-hJ]),(by simp only[*,go_sem,-hM,-hJ]),(by simp only[*,go_sem,-hM,-hJ]),.inl ⟨rfl,rfl,rfl⟩⟩
  ·clear l0 w f hd c1 c2 c3 z a1 a2 a3 a4 a5 w1 w2 B
   rintro m A C E ⟨t8,rfl,l0,G,f,hd,⟨rfl,rfl,rfl⟩|⟨rfl,rfl,rfl⟩⟩
   ·have D:((1:Int) != 0)=true:=rfl
    have w3:IntKind.u32.wrap (1 - 1)=0:=by decide
    repeat refine ax (hM _) ?_
    refine aZ hM fun K a=>?_
    refine ai.pure (hM _) 2 (n:=0) _ rfl rfl ?_;simp only[*,go_sem,-a,-hM]
    refine ai.nil hM (a _ _ _ ?_);clear a K
    repeat refine ax (hM _) ?_
    refine cW (hM _) (by simp only[*,go_sem,-hM,-hJ]) ?_
    refine cE (hM _) ?_
    repeat refine ax (hM _) ?_
    refine jM hM ?_
    repeat refine ax (hM _) ?_
    refine aZ hM fun K a=>?_
    refine ai.pure (hM _) 3 (n:=1) _ rfl rfl ?_;simp only[*,go_sem,-a,-hM]
    refine JC (.bool false) (.int .i64 0) Ja aG ⟨_,_,_,rfl,(by first|(simp only[*,go_sem,-a,-hM,-hJ];done)|rfl),rfl,by first|(simp only[*,go_sem,-a,-hM,-hJ];done)|(simp only[*,go_sem,-a,-hM,-hJ];rfl),rfl⟩ (by rfl) ?_
    refine ai.nil hM (a _ _ _ ?_);clear a K
    repeat refine ax (hM _) ?_
    refine aZ hM fun K a=>?_
    refine ai.pure (hM _) 3 (n:=0) _ rfl rfl ?_;simp only[*,go_sem,-a,-hM]
    refine ai.nil hM (a _ _ _ ?_);clear a K
    exact ⟨0,by omega,0,rfl,(by simp only[*,go_sem,-hM,-hJ]),(by simp only[*,go_sem,-hM,-hJ]),(by simp only[*,go_sem,-hM,-hJ]),(by simp only[*,go_sem,-hM,-hJ]),.inr ⟨rfl,rfl,rfl⟩⟩
   ·have D:((0:Int) != 0)=false:=rfl
    repeat refine ax (hM _) ?_
    refine aZ hM fun K a=>?_
    refine ai.pure (hM _) 2 (n:=0) _ rfl rfl ?_;simp only[*,go_sem,-a,-hM]
    refine ai.nil hM (a _ _ _ ?_);clear a K
    repeat refine ax (hM _) ?_
    refine cA (hM _) (by simp only[*,go_sem,-hM,-hJ]) ?_
    exact oA (show kI 153 (fun r b aL=>r= .tuple #[]/\b=C/\aL=⟨.fin,.gone,bs i,0⟩) .normal _ _ _ from Kh (by simp only[*,go_sem,-hM,-hJ]) rfl rfl ⟨rfl,rfl,rfl⟩)
 ·
  rw[if_neg hC]
  have o:(0<v/\decide ((v:Int)>0)=true)\/(v=0/\decide ((v:Int)>0)=false/\((t:Int)==0)=true):=by
   rcases Nat.eq_zero_or_pos v with e|e
   ·refine .inr ⟨e,by simp[e],?_⟩
    obtain rfl:t=0:=by omega
    rfl
   ·exact .inl ⟨e,by simp;omega⟩
  have a7:((t:Int) != 0)=false\/((t:Int) != 0)=true:=by cases ((t:Int) != 0)<;>simp
  clear g hC k ht l
  rcases a7 with a7|a7
  ·repeat refine ax (hM _) ?_
   refine aZ hM fun K a=>?_
   refine ai.pure (hM _) 12 (n:=0) _ rfl rfl ?_;simp only[*,go_sem,-a,-hM]
   refine ai.nil hM (a _ _ _ ?_);clear a K
   repeat refine ax (hM _) ?_
   refine cA (hM _) (by simp only[*,go_sem,-hM,-hJ]) ?_
   refine cE (hM _) ?_
   rcases o with ⟨_,h⟩|⟨_,h,b2⟩
   ·repeat refine ax (hM _) ?_
    refine aZ hM fun K a=>?_
    refine ai.pure (hM _) 6 (n:=0) _ rfl rfl ?_;simp only[*,go_sem,-a,-hM]
    refine ai.nil hM (a _ _ _ ?_);clear a K
    repeat refine ax (hM _) ?_
    refine cW (hM _) (by simp only[*,go_sem,-hM,-hJ]) ?_
    exact fj (show kI 153 (fun r b aL=>r= .tuple #[]/\b=F'/\aL=⟨.fin,.gone,bs i,0⟩) .ret _ _ _ from tE (by simp only[*,go_sem,-hM,-hJ]) rfl rfl ⟨rfl,rfl,rfl⟩)
   ·repeat refine ax (hM _) ?_
    refine aZ hM fun K a=>?_
    refine ai.pure (hM _) 6 (n:=0) _ rfl rfl ?_;simp only[*,go_sem,-a,-hM]
    refine ai.nil hM (a _ _ _ ?_);clear a K
    repeat refine ax (hM _) ?_
    refine cW (hM _) (by simp only[*,go_sem,-hM,-hJ]) ?_
    exact fj (show kI 153 (fun r b aL=>r= .tuple #[]/\b=F'/\aL=⟨.fin,.gone,bs i,0⟩) .ret _ _ _ from tE (by simp only[*,go_sem,-hM,-hJ]) rfl rfl ⟨rfl,rfl,rfl⟩)
  ·repeat refine ax (hM _) ?_
   refine aZ hM fun K a=>?_
   refine ai.pure (hM _) 12 (n:=0) _ rfl rfl ?_;simp only[*,go_sem,-a,-hM]
   refine ai.nil hM (a _ _ _ ?_);clear a K
   repeat refine ax (hM _) ?_
   refine cA (hM _) (by simp only[*,go_sem,-hM,-hJ]) ?_
   refine cE (hM _) ?_
   rcases o with ⟨_,h⟩|⟨_,h,b2⟩
   ·repeat refine ax (hM _) ?_
    refine aZ hM fun K a=>?_
    refine ai.pure (hM _) 6 (n:=0) _ rfl rfl ?_;simp only[*,go_sem,-a,-hM]
    refine ai.nil hM (a _ _ _ ?_);clear a K
    repeat refine ax (hM _) ?_
    refine cW (hM _) (by simp only[*,go_sem,-hM,-hJ]) ?_
    exact fj (show kI 153 (fun r b aL=>r= .tuple #[]/\b=F'/\aL=⟨.fin,.gone,bs i,0⟩) .ret _ _ _ from tE (by simp only[*,go_sem,-hM,-hJ]) rfl rfl ⟨rfl,rfl,rfl⟩)
   ·repeat refine ax (hM _) ?_
    refine aZ hM fun K a=>?_
    refine ai.pure (hM _) 6 (n:=0) _ rfl rfl ?_;simp only[*,go_sem,-a,-hM]
    refine ai.nil hM (a _ _ _ ?_);clear a K
    repeat refine ax (hM _) ?_
    refine cW (hM _) (by simp only[*,go_sem,-hM,-hJ]) ?_
    exact fj (show kI 153 (fun r b aL=>r= .tuple #[]/\b=F'/\aL=⟨.fin,.gone,bs i,0⟩) .ret _ _ _ from tE (by simp only[*,go_sem,-hM,-hJ]) rfl rfl ⟨rfl,rfl,rfl⟩)
end
end Go.Proofs.YtpgcmoanfifglaaGreatDoor
end
section
namespace Go.Sep
open Go Go.Conc
open Go.ConcN (sumTo upd upd_ne upd_same)
def jq (P:Program):Frame:={(default:Frame) with fn:=P.funcs.size,defers:=[],mode:=.panicking [goexitEntry]}
section
variable {P : Program} {f : FuncId} {fn : Func} {cd : Code} {w : World} {caps args : Array Value}
theorem Kj (hf:P.funcs[f]?=some fn)(a:(fn.name== "runtime.NumGoroutine")=false)(hb:fn.body=some cd):
  stepG P false (born P {target:=.fn (.func f) caps,args:=args}) w= .go (G ((baseD f).at {tmps:=args++caps++Array.replicate (fn.ntmps - (args++caps).size) undef,defers:=[]} [.code cd]) [jq P]) w #[]:=by
 have b:¬fn.name= "runtime.NumGoroutine":=by simpa using a
 rw[<-enter_atD (args++caps) hf hb]
 simp[born,G,stepG,unwind,callDeferred,invoke,callFunc,hf,b,hb,GStep.after,seen_none,jq]
theorem Kk {b:Frame}{a:Act}{todo:List Item}(d:b.kind= .deferred)(hd:a.defers=[])(hf:P.funcs[b.fn]?=some fn)(c:fn.results=#[]):
  stepG P false (G {b.at a todo with mode:=.returning} [jq P]) w= .go (G (jq P) []) w #[]:=by
 have he:(results fn a.tmps).events P w #[]=#[]:=events_results_none c _ _
 have e:(results fn a.tmps).run P w= .ok (.tuple #[]) w:=results_none c _ P w
 simp[G,stepG,unwind,doReturn,Frame.at,d,hd,hf,e,he,jq,goexitEntry,seen_none,GStep.after]
theorem Kl:stepG P false (G (jq P) []) w= .go {frame:=jq P,callers:=[],status:=.finished,dying:=none} w #[]:=by
 have e:(default:Frame).todo=[]:=rfl;simp[G,stepG,unwind,jq,goexitEntry,Frame.catches,e]
end
section
variable {c : Cy} {i : Nat} {F : aa} {f fd : FuncId}
def yo (c:Cy)(i:Nat)(fd:FuncId)(v:Value):Ex->Act->aa->Ph->Prop
 | .exit _,_,_,_=>False
 |_,a,_,ph=>a.defers=[dcall fd #[v]]/\(ph.mp= .idle\/ph.mp= .fin)/\ph.gp= .cnt/\ph.stored=c.bs i/\ph.deaf=0
theorem worker {fn b:Func}{cd l:Code}{n nd:Nat}{v:Value}(hf:c.P.funcs[f]?=some fn)(x:(fn.name== "runtime.NumGoroutine")=false)(hb:fn.body=some cd)(y:fn.results=#[])(m:fn.ntmps=n){caps:Array Value}(O:caps.size<=n)
  (z:c.P.funcs[fd]?=some b) (B:(b.name== "runtime.NumGoroutine")=false) (C:b.body=some l) (D:b.results=#[]) (E:b.ntmps=nd) (H:1<=nd)
  (hd:∀(mp:Mp) (F:aa),mp= .idle\/mp= .fin->∀A:Act,sz A=nd->A.defers=[]->(∀j,slot A j=(#[v]:Array Value).getD j undef)->cJ (WJ c i) fd l (yd fun F' aL=>aL=⟨.fin,.gone,c.bs i,0⟩) A F ⟨mp,.cnt,c.bs i,0⟩)
  (h:∀A:Act,sz A=n->A.defers=[]->(∀j,slot A j=caps.getD j undef)->cJ (WJ c i) f cd (yo c i fd v) A F ⟨.idle,.cnt,false,0⟩):
  Wk c i ⟨.idle,.cnt,false,0⟩ (born c.P {target:=.fn (.func f) caps,args:=#[]}) F:=by
 have hM:=WJ.ek c i
 have e0:∀w,stepG c.P false (born c.P {target:=.fn (.func f) caps,args:=#[]}) w= .go (G ((baseD f).at {tmps:=caps++Array.replicate (fn.ntmps - caps.size) undef,defers:=[]} [.code cd]) [jq c.P]) w #[]:=fun w=>by
  have:=Kj (P:=c.P) (w:=w) (caps:=caps) (args:=#[]) hf x hb
  simpa using this
 refine Wk.act (c:=c) (i:=i) rfl rfl (by simp) fun w s k φ p0 e1 e2 Q I J=>.inr ⟨_,w,#[],s,⟨.idle,.cnt,false,0⟩,e0 w,e2,.refl _ _,?_,mU rfl Iff.rfl,.inr dG,?_⟩
 ·rw[<-I,x4];exact J
 have out:∀(a:Act) (o:List Item) F' (aL:Ph),(a.defers=[dcall fd #[v]]/\(aL.mp= .idle\/aL.mp= .fin)/\aL.gp= .cnt/\aL.stored=c.bs i/\aL.deaf=0)->WJ c i aL (G {(baseD f).at a o with mode:=.returning} [jq c.P]) F':=by
  intro a o F' aL ⟨k1,p,r,t,u⟩
  obtain ⟨mp,gp,st,R⟩:=aL
  simp only at p r t u
  subst r t u
  refine JG z B C D E (by simpa using H) k1 (fun A K L M=>hd mp F' p A K L M) fun S T N=>?_
  subst N
  refine Wk.gone (q:=2) rfl (QuitsD.ctl rfl (fun w=>Kk rfl rfl hf y) (QuitsD.ctl rfl (fun w=>Kl) ⟨rfl,rfl⟩))
 have:=h {tmps:=caps++Array.replicate (fn.ntmps - caps.size) undef,defers:=[]} (by simp[sz,m];omega) rfl (fun j=>?_) (baseD f) [] [jq c.P] ⟨by simp[baseD],rfl,rfl⟩ fun e a F' aL g=>?_
 ·rw[eD rfl] at this;exact this
 ·simp only[slot,m,Array.getD_eq_getD_getElem?]
  rcases Nat.lt_or_ge j caps.size with d|d
  ·rw[Array.getElem?_append_left d]
  ·rw[Array.getElem?_append_right d,Array.getElem?_replicate,Array.getElem?_eq_none d]
   split<;>rfl
 ·cases e with
  |normal=>exact (hM aL).move (fun _=>lK rfl) (out a _ F' aL g)
  |exit i=>exact g.elim
  |ret=>exact fun U=>(hM aL).move (fun _=>stepG_ret' rfl) (out a _ F' aL g)
end
attribute [go_sem] yo
end Go.Sep
end
section
namespace Go.Proofs.YtpgcmoanfifglaaGreatDoor
open Go Go.Sep Go.Proofs Go.Conc
open Go.ConcN (upd upd_same)
open Go.ConcM (muA msA)
open Go.ConcR (stA smA)
set_option maxRecDepth 100000
set_option maxHeartbeats 4000000
attribute [local go_sem] Int.reduceBEq Int.reduceBNe muA msA stA smA
theorem Km:(Tryz.prog.funcs[133]?).any (·.norace)=false:=by kernel_rfl
section
variable {Mu Wg Is n base T0 i : Nat} {bs : Nat → Bool}
theorem Kn (aG:Mu≠Wg/\Mu≠Is/\Wg≠Is)(w:n<67108864)(a4:i<n){ro:Addr->Option Value}(u0:cM){s1:Value}(m:aB eY ro s1 u0.book.aD){J:Value}(o:aB ez ro J u0.book.props){K:Value}(q:aB eT ro K u0.book.aH){L:Value}(r:aB di ro L u0.book.told)
  (x:Int) (z:List Int) {M:Value} (s:aB rI ro M z) (B:List aY) {N:Value} (f:aB iY ro N B) {d b2 b3 b4 O P:Nat}
  (g0:ro ⟨d,0,none⟩=some (.int .i64 u0.book.bH)) (Q:ro ⟨d,1,none⟩=some (.int .i64 u0.book.bV)) (R:ro ⟨d,2,none⟩=some (.int .i64 u0.book.aF.num)) (S:ro ⟨d,3,none⟩=some (.int .i64 u0.book.aF.den)) (T:ro ⟨d,4,none⟩=some s1) (U:ro ⟨d,5,none⟩=some J) (V:ro ⟨d,6,none⟩=some K) (W:ro ⟨d,7,none⟩=some L)
  (X:ro ⟨b2,0,none⟩=some (.int .i64 x)) (Y:ro ⟨b3,0,none⟩=some M) (Z:ro ⟨b4,0,none⟩=some N) (C:ro ⟨O,0,none⟩=some (.slice (some ⟨Is,0,none⟩) n n)) (D:ro ⟨P,0,none⟩=some (.int .i64 i))
  (h:ag (si u0.book x z) (fun b=>rW b B)=some (bs i)):
  Wk (CY Mu Wg Is n bs base T0) i ⟨.idle,.cnt,false,0⟩ (born Tryz.prog {target:=.fn (.func 133) #[.pointer (some ⟨Wg,0,none⟩),.pointer (some ⟨d,0,none⟩),.pointer (some ⟨b2,0,none⟩),.pointer (some ⟨b3,0,none⟩),.pointer (some ⟨b4,0,none⟩),.pointer (some ⟨Mu,0,none⟩),.pointer (some ⟨O,0,none⟩),.pointer (some ⟨P,0,none⟩)],args:=#[]}) ⟨ro,[]⟩:=by
 have hM:=WJ.ek (CY Mu Wg Is n bs base T0) i
 have hJ:∀ph:Ph,ph.gp= .cnt->Go.Sep.Closed Tryz.prog false (WJ (CY Mu Wg Is n bs base T0) i ph):=fun ph h=>Wk.closed (CY Mu Wg Is n bs base T0) i ph h
 refine worker (c:=CY Mu Wg Is n bs base T0) (i:=i) (fd:=134) (v:=.pointer (some ⟨Wg,0,none⟩)) Tryz.func133 rfl rfl rfl Tryz.ntmps133 (by simp) Tryz.func134 rfl rfl rfl Tryz.ntmps134 (by simp) ?_ ?_
 ·intro mp F a5 A E hd hs
  have u:=hs 0
  clear hs h g0 Q R S T U V W X Y Z C D m o q r s f hJ a4
  repeat refine ax (hM _) ?_
  refine cX hM ?_
  refine ai.pure (hM _) 1 (n:=1) _ rfl rfl ?_;simp only[*,go_sem]
  refine ai.fW (hM _) rfl rfl rfl zP (by simp only[*,go_sem,stA]) (Ki aG w a5 rfl) fun v F' aL g=>?_
  obtain ⟨rfl,rfl,rfl⟩:=g
  refine ai.nil hM ?_
  exact ⟨(by simp only[*,go_sem]),rfl⟩
 ·intro ab E hd hs
  have u:=hs 0
  have k1:=hs 1
  have ad:=hs 2
  have ae:=hs 3
  have al:=hs 4
  have ao:=hs 5
  have ar:=hs 6
  have a0:=hs 7
  clear hs
  repeat refine ax (hM _) ?_
  refine cX hM ?_
  refine ai.defer (hM _) (vals:=#[.pointer (some ⟨Wg,0,none⟩)]) rfl (by rfl) rfl rfl (by simp only[List.map_toArray,List.map_cons,List.map_nil];rw[show ab.eval (.tmp 0)=slot ab 0 from rfl,u];rfl) fun A e1 e2 G=>?_
  replace u:=(e1 0).trans u
  replace k1:=(e1 1).trans k1
  replace ad:=(e1 2).trans ad
  replace ae:=(e1 3).trans ae
  replace al:=(e1 4).trans al
  replace ao:=(e1 5).trans ao
  replace ar:=(e1 6).trans ar
  replace a0:=(e1 7).trans a0
  replace E:sz A=20:=e2.trans E
  rw[hd] at G
  replace hd:=G
  clear e1 e2 G
  refine ai.nil hM ?_;try simp only[go_sem]
  obtain ⟨d3,c4,rfl,a6,a7,a8⟩:=id m
  obtain ⟨d10,dk,rfl,a9,ba,bb⟩:=id o
  obtain ⟨d17,dp,rfl,bc,bd,bj⟩:=id q
  obtain ⟨d24,dq,rfl,bk,bl,bm⟩:=id r
  obtain ⟨d38,ds,rfl,bo,br,bz⟩:=id s
  obtain ⟨d45,dt,rfl,bS,b0,H⟩:=id f
  repeat refine ax (hM _) ?_
  have k:=hJ ⟨.idle,.cnt,false,0⟩ rfl
  refine cJ.of k ?_
  refine EK k mixed [0,1,2,3,5] [4,6] ⟨ro,[]⟩ (by simp only[*,go_sem,-h]) (by kernel_rfl) ?_
  have b1:=fL h;clear h;obtain ⟨b5,a2,h⟩:=b1
  simp only[*,go_sem,-h,-hJ,-hM]
  refine uO k _ (Ga u0.book ⟨m,o,q,r⟩ x z s a2) fun v du l ca g=>?_
  obtain ⟨dv,dC,dE,dT,rfl,j⟩:=g
  replace f:=f.mono l;clear H;obtain ⟨_,_,H⟩:=f.op
  obtain ⟨d63,ea,rfl,cb,cd,cf⟩:=id j.e
  obtain ⟨d68,eb,rfl,cl,cu,cy⟩:=id j.p
  obtain ⟨d73,ec,rfl,cS,c0,da⟩:=id j.y
  obtain ⟨d78,ed,rfl,db,dd,df⟩:=id j.t
  replace C:=l _ _ C
  replace D:=l _ _ D
  clear g0 Q R S T U V W X Y Z
  refine ⟨⟨l,fun a I=>by simp[keys] at I,trivial⟩,lW ?_⟩
  simp only[*,go_sem,-h,-hJ,-hM]
  refine bn k _ (FY b5 (j.mono aW) B (f.mono aW) h) ?_
  refine ⟨⟨l,fun a I=>by simp[keys] at I,trivial⟩,?_⟩
  clear m o q r s f j a8 bb bj bm bz H cf cy da df h a2 a6 a9 bc bk bo bS cb cl cS db a7 ba bd bl br b0 cd cu c0 dd k ca
  have i0:(0:Int)<=(i:Int):=by omega
  have i1:(i:Int)<(n:Int):=by omega
  cases a3:bs i
  ·repeat refine ax (hM _) ?_
   refine cA (hM _) (by simp only[*,go_sem]) ?_
   refine cE (hM _) ?_
   exact ⟨(by simp only[*,go_sem]),.inl rfl,rfl,a3.symm,rfl⟩
  ·repeat refine ax (hM _) ?_
   refine cW (hM _) (by simp only[*,go_sem]) ?_
   repeat refine ax (hM _) ?_
   refine cX hM ?_
   refine ai.fW (hM _) rfl (by rfl) rfl EA (by simp only[*,go_sem]) (Ju aG w) fun v F' aL g=>?_
   obtain ⟨rfl,rfl,rfl⟩:=g
   refine ai.nil hM ?_;try simp only[go_sem]
   repeat refine ax (hM _) ?_
   refine cX hM ?_
   refine ai.bD (hJ _ rfl) 3 (n:=1) _ rfl rfl ?_;simp only[*,go_sem]
   refine Jl Jb zH Km aG ⟨_,rfl,(by first|rfl|simp only[*,go_sem]),rfl,rfl⟩ (by rfl) (by simp only[*,go_sem]) (by simp only[*,go_sem]) ?_
   refine ai.nil hM ?_;try simp only[go_sem]
   repeat refine ax (hM _) ?_
   refine cX hM ?_
   refine ai.fW (hM _) rfl (by rfl) rfl EB (by simp only[*,go_sem]) (Jv aG w) fun v F' aL g=>?_
   obtain ⟨rfl,rfl,rfl⟩:=g
   refine ai.nil hM ?_
   exact (show yo _ _ _ _ .normal _ _ _ from ⟨(by simp only[*,go_sem]),.inr rfl,rfl,a3.symm,rfl⟩)
end
end Go.Proofs.YtpgcmoanfifglaaGreatDoor
end
section
namespace Go.Proofs.YtpgcmoanfifglaaGreatDoor
open Go Go.Sep Go.Proofs Go.Conc
open Go.ConcN (upd upd_same)
open Go.ConcM (muA msA muBlock)
open Go.ConcR (stA smA wgBlock)
set_option maxRecDepth 100000
set_option maxHeartbeats 4000000
attribute [local go_sem] Int.reduceBEq Int.reduceBNe muA msA stA smA
def Ko (u0:cM)(a:Int)(c:List aY)(d:List Int):Option Bool:=ag (si u0.book a d) fun b=>rW b c
def qz (f:List Int->Option Bool):List (List Int)->Option (List Bool)
 |[]=>some []
 |x::l=>ag (f x) fun b=>ag (qz f l) fun r=>some (b::r)
def yp (a:List Bool)(i23:Nat)(b:List Int)(st:List (List Int)):Option (Fl (List (List Int)) (List (List Int))):=
 ag (bh a (i23:Int)) fun c=>cond (c) (ag (cZ st ([b])) fun d=>some (.nx d)) (some (.nx st))
def tF (u0:cM)(b:Int)(a:List (List Int)):Option (List (List Int)):=
 cond (decide (a.length<1048576)) (ag (nW u0) fun c=>ag (qz (Ko u0 b c) a) fun bl=>ag (bE (yp bl) 0 a ([]:List (List Int))) fun o=>aA o (fun d=>some d) (fun _ _=>none) (fun r=>some r)) none
theorem C4 {f:List Int->Option Bool}:∀{l:List (List Int)} {bl:List Bool},qz f l=some bl->bl.length=l.length/\∀(i:Nat) (a:List Int),l[i]?=some a->f a=some (bl[i]?.getD false)
 |[],bl,h=>by
  simp[qz] at h;subst h
  exact ⟨rfl,fun i a hi=>by simp at hi⟩
 |x::l,bl,h=>by
  unfold qz at h
  obtain ⟨b,hb,h⟩:=fL h
  obtain ⟨r,c,h⟩:=fL h
  have h:=Option.some.inj h
  subst h
  obtain ⟨e1,e2⟩:=C4 c
  refine ⟨by simp[e1],fun i a hi=>?_⟩
  cases i with
  |zero=>simp at hi;subst hi;simpa using hb
  |succ i=>simp at hi;simpa using e2 i a hi
def C5 (x:X)(d:Addr->Option Value)(b3 b4 e f:Nat)(b:Value)(m:Nat)(a:Act)(F:aa)(z:Z):Prop:=
 ∃(i:Nat) (c:Addr->Option Value),m=x.n - i/\i<=x.n/\F=⟨c,[]⟩/\Ext d c/\slot a 2=b/\slot a 3= .pointer (some ⟨b3,0,none⟩)/\slot a 4= .pointer (some ⟨b4,0,none⟩)/\slot a 6= .slice none 0 0/\slot a 7= .pointer (some ⟨e,0,none⟩)/\slot a 8= .pointer (some ⟨f,0,none⟩)/\slot a 9= .pointer (some ⟨x.Mu,0,none⟩)/\slot a 10= .pointer (some ⟨x.Wg,0,none⟩)/\slot a 21=b/\slot a 22= .int .i64 x.n/\slot a 23= .int .i64 i/\sz a=49/\a.defers=[]/\z= .co x i (.opn 0) 0
theorem Kp (l:List Bool):(l.map fun b=>[Value.bool b]).flatten=l.map Value.bool:=by
 induction l with
 |nil=>rfl
 |cons b l ih=>simp only[List.map_cons,List.flatten_cons,ih];rfl
theorem Kq:Tryz.prog.underlying 177=some (.slice 4):=by kernel_rfl
theorem Kr:Tryz.prog.info? 4=some ((Tryz.prog.info? 4).getD default):=by kernel_rfl
theorem C6 {ro:Addr->Option Value}(u0:cM){s1:Value}(p:aB eY ro s1 u0.book.aD){bm:Value}(q:aB ez ro bm u0.book.props){bo:Value}(s:aB eT ro bo u0.book.aH){br:Value}(u:aB di ro br u0.book.told){bs:Value}(a3:aB gP ro bs u0.all)(ad:Int)(c:List (List Int)){bz:Value}(k:aB (rL rI) ro bz c){r:List (List Int)}(h:tF u0 ad c=some r):
  pn Tryz.prog 99 #[.agg #[.int .i64 u0.book.bH,.int .i64 u0.book.bV,.int .i64 u0.book.aF.num,.int .i64 u0.book.aF.den,s1,bm,bo,br,bs],.int .i64 ad,bz] ro (fun v aN=>∃bS,v=bS/\aB (rL rI) aN bS r):=by
 refine fF.J1 (T:=TT) fun Φ=>?_
 obtain ⟨d3,c4,rfl,ft,fu,fv⟩:=id p
 obtain ⟨d10,fw,rfl,fx,gg,Q⟩:=id q
 obtain ⟨d17,H,rfl,gl,gn,gp⟩:=id s
 obtain ⟨d24,gB,rfl,gC,gM,gT⟩:=id u
 obtain ⟨d31,im,rfl,gV,g0,g1⟩:=id a3
 obtain ⟨d38,b0,rfl,iv,b1,B⟩:=id k
 unfold tF at h
 have hlen:c.length<1048576:=by
  rcases Nat.lt_or_ge c.length 1048576 with y|y
  ·exact y
  ·rw[show decide (c.length<1048576)=false by simp;omega] at h;cases h
 rw[show decide (c.length<1048576)=true by simp;omega] at h
 simp only[cond_true] at h
 obtain ⟨b2,b5,h⟩:=fL h
 obtain ⟨bl,ca,h⟩:=fL h
 obtain ⟨cb,cd⟩:=C4 ca
 have hM:=ZJ.ek TT Φ
 have hJ:=fun (z:Z) (R:yl z=true)=>ZJ.Kb TT Φ z R
 refine cD.go (main:=true) hM Tryz.func99 rfl Tryz.ntmps99 (by simp) fun A R hd hs=>?_
 have g2:=hs 0
 have k1:=hs 1
 have cf:=hs 2
 clear hs ca
 repeat refine ax (hM _) ?_
 refine aZ hM fun K a=>?_
 refine ai.bD (hJ _ rfl) 3 (n:=0) _ rfl rfl ?_;simp only[*,go_sem,-a,-hM,-hJ]
 intro b3 f3;have r3:=eE f3;have n3:=fC f3
 try simp only[au] at n3
 intro b4 f4;have g3:=eE f4;have cl:=fC f4
 try simp only[au] at cl
 try simp only[*,go_sem,-a,-hM,-hJ,-h]
 refine ai.nil hM (a _ _ _ ?_);clear a K
 have o:=hJ .free rfl
 repeat refine ax (hM _) ?_
 refine aZ hM fun K a=>?_
 refine ai.bD (hJ _ rfl) 4 (n:=0) _ rfl rfl ?_;simp only[*,go_sem,-a,-hM,-hJ]
 refine uO o _ (AN u0 ⟨p,q,s,u⟩ a3 b5) fun v ix I g4 S=>?_
 obtain ⟨jC,rfl,J⟩:=S
 replace p:=p.mono I
 replace q:=q.mono I
 replace s:=s.mono I
 replace u:=u.mono I
 replace k:=k.mono I
 obtain ⟨d45,ha,rfl,hc,hf,hg⟩:=id J
 clear fv Q gp gT g1 B hg r3 g3
 refine aK ?_
 try simp only[*,go_sem,-a,-hM,-hJ,-h,-o]
 intro a4 f7;have hh:=eE f7;have cu:=fC f7
 try simp only[au] at cu
 try simp only[*,go_sem,-a,-hM,-hJ,-h,-o]
 refine ai.nil hM (a _ _ _ ?_);clear a K
 repeat refine ax (hM _) ?_
 refine aZ hM fun K a=>?_
 refine ai.bD (hJ _ rfl) 5 (n:=0) _ rfl rfl ?_;simp only[*,go_sem,-a,-hM,-hJ]
 refine Ka Kq Kr rfl zH Em hlen fun g a5=>?_
 have rI:=eE a5;have nI:=fC a5
 try simp only[au] at nI
 refine aK ?_
 try simp only[*,go_sem,-a,-hM,-hJ,-h,-o]
 intro U f8;have hj:=eE f8;have cS:=fC f8
 try simp only[au] at cS
 try simp only[*,go_sem,-a,-hM,-hJ,-h,-o]
 refine ai.nil hM (a _ _ _ ?_);clear a K
 repeat refine ax (hM _) ?_
 refine aZ hM fun K a=>?_
 refine ai.bD (hJ _ rfl) 1 (n:=0) _ rfl rfl ?_;simp only[*,go_sem,-a,-hM,-hJ]
 intro L f9;have hk:=eE f9;have c0:=fC f9
 try simp only[au] at c0
 try simp only[*,go_sem,-a,-hM,-hJ,-h,-o]
 refine ai.nil hM (a _ _ _ ?_);clear a K
 repeat refine ax (hM _) ?_
 refine aZ hM fun K a=>?_
 refine ai.bD (hJ _ rfl) 1 (n:=0) _ rfl rfl ?_;simp only[*,go_sem,-a,-hM,-hJ]
 intro M f10;have hl:=eE f10;have da:=fC f10
 try simp only[au] at da
 try simp only[*,go_sem,-a,-hM,-hJ,-h,-o]
 refine ai.nil hM (a _ _ _ ?_);clear a K
 repeat refine ax (hM _) ?_
 refine aZ hM fun K a=>?_
 refine ai.bD (hJ _ rfl) 3 (n:=0) _ rfl rfl ?_;simp only[*,go_sem,-a,-hM,-hJ]
 refine ai.nil hM (a _ _ _ ?_);clear a K
 refine ym o fun nd no=>?_
 obtain ⟨ae,C,hle,w,db,dd,df⟩:=Kc nd no
 clear nd no
 refine JY (T:=TT) (Φ:=Φ) ⟨ae,[]⟩ L M g c.length (fun i=>bl[i]?.getD false) hle ?_
 intro base B0 T0 hn aG
 clear hle
 have al:c.length<67108864:=by omega
 replace p:=p.mono C
 replace q:=q.mono C
 replace s:=s.mono C
 replace u:=u.mono C
 replace k:=k.mono C
 replace J:=J.mono C
 have dk:=w 0 (.int .i64 u0.book.bH) rfl
 have dp:=w 1 (.int .i64 u0.book.bV) rfl
 have dq:=w 2 (.int .i64 u0.book.aF.num) rfl
 have ds:=w 3 (.int .i64 u0.book.aF.den) rfl
 have dt:=w 4 (.slice d3 u0.book.aD.length c4) rfl
 have du:=w 5 (.slice d10 u0.book.props.length fw) rfl
 have dv:=w 6 (.slice d17 u0.book.aH.length H) rfl
 have dC:=w 7 (.slice d24 u0.book.told.length gB) rfl
 have dE:=db 0 (.int .i64 ad) rfl
 have dT:=dd 0 (.slice d45 b2.length ha) rfl
 have a6:=df 0 (.slice (some ⟨g,0,none⟩) c.length c.length) rfl
 clear w db dd df f3 f4 f7 f8 f9 f10 a5 n3 cl cu cS c0 da nI hh hj hk hl rI g4
 repeat refine ax (hM _) ?_
 refine jM hM ?_
 refine qu hM (C5 (⟨L,M,g,c.length,(fun i=>bl[i]?.getD false),base,T0,B0⟩:X) ae b3 b4 a4 U (.slice d38 c.length b0)) c.length ?_ ?_
 ·exact ⟨0,ae,rfl,Nat.zero_le _,rfl,Ext.refl _,(by simp only[*,go_sem,-hM,-hJ]),(by simp only[*,go_sem,-hM,-hJ]),(by simp only[*,go_sem,-hM,-hJ]),(by simp only[*,go_sem,-hM,-hJ]),(by simp only[*,go_sem,-hM,-hJ]),(by simp only[*,go_sem,-hM,-hJ]),(by simp only[*,go_sem,-hM,-hJ]),(by simp only[*,go_sem,-hM,-hJ]),(by simp only[*,go_sem,-hM,-hJ]),(by simp only[*,go_sem,-hM,-hJ]),(by simp only[*,go_sem,-hM,-hJ]),(by simp only[*,go_sem,-hM,-hJ]),(by simp only[*,go_sem,-hM,-hJ]),rfl⟩
 clear g2 k1 cf R hd
 rintro m A F' ea ⟨i,O,rfl,hi,rfl,d,cf,ho,hp,j1,hq,j2,hr,ht,hv,hx,hy,R,hd,rfl⟩
 have hi:i<=c.length:=hi
 replace p:=p.mono d
 replace q:=q.mono d
 replace s:=s.mono d
 replace u:=u.mono d
 replace k:=k.mono d
 replace J:=J.mono d
 rcases Nat.lt_or_ge i c.length with ao|hz
 ·have c1:decide ((i:Int)<(c.length:Int))=true:=by simp;omega
  have i0:(0:Int)<=(i:Int):=by omega
  have i1:(i:Int)<(c.length:Int):=by omega
  obtain ⟨a7,eb⟩:∃x,c[i]?=some x:=⟨_,List.getElem?_eq_getElem ao⟩
  obtain ⟨_,_,B⟩:=k.op
  obtain ⟨hA,ec,a8,a9,V⟩:=B _ _ eb
  obtain ⟨hB,rfl,W⟩:=a9
  obtain ⟨d32,Y,rfl,hD,hE,-⟩:=id W
  cases a8
  have hF:=V 0 _ rfl
  simp only[go_sem] at hF
  clear V B
  have ed:=cp (n:=i) (by omega)
  repeat refine ax (hM _) ?_
  refine aZ hM fun K a=>?_
  refine ai.bD (hJ _ rfl) 1 (n:=0) _ rfl rfl ?_;simp only[*,go_sem,-a,-hM,-hJ]
  refine ai.nil hM (a _ _ _ ?_);clear a K
  repeat refine ax (hM _) ?_
  refine cW (hM _) (by simp only[*,go_sem,-hM,-hJ]) ?_
  refine cE (hM _) ?_
  repeat refine ax (hM _) ?_
  refine jM hM ?_
  repeat refine ax (hM _) ?_
  refine aZ hM fun K a=>?_
  refine ai.bD (hJ _ rfl) 7 (n:=0) _ rfl rfl ?_;simp only[*,go_sem,-a,-hM,-hJ]
  intro hG f11;have hI:=eE f11;have eh:=fC f11
  try simp only[au] at eh
  try simp only[*,go_sem,-a,-hM,-hJ,-h,-o]
  intro hK f12;have hL:=eE f12;have et:=fC f12
  try simp only[au] at et
  try simp only[*,go_sem,-a,-hM,-hJ,-h,-o]
  refine ai.nil hM (a _ _ _ ?_);clear a K
  refine ym (hJ _ rfl) fun nd no=>?_
  obtain ⟨hN,e,hle,eu,ev⟩:=Ke nd no
  clear nd no f11 f12 hI hL eh et
  refine C3 (hJ _ rfl) hle ?_
  clear hle
  have hP:=eu 0 (.int .i64 i) rfl
  have hQ:=ev 0 (.slice d32 a7.length Y) rfl
  clear eu ev
  repeat refine ax (hM _) ?_
  refine aZ hM fun K a=>?_
  refine ai.fW (hM _) rfl (by first|(simp only[*,go_sem,-a,-hM,-hJ];done)|rfl) rfl zP (by simp only[*,go_sem,-a,-hM,-hJ]) (J8 aG al) fun v F' ea S=>?_
  obtain ⟨rfl,rfl,rfl⟩:=S
  refine ai.nil hM (a _ _ _ ?_);clear a K
  repeat refine ax (hM _) ?_
  refine aZ hM fun K a=>?_
  refine ai.bD (hJ _ rfl) 1 (n:=1) _ rfl rfl ?_;simp only[*,go_sem,-a,-hM,-hJ]
  refine Kf (caps:=#[.pointer (some ⟨M,0,none⟩),.pointer (some ⟨b3,0,none⟩),.pointer (some ⟨b4,0,none⟩),.pointer (some ⟨hK,0,none⟩),.pointer (some ⟨a4,0,none⟩),.pointer (some ⟨L,0,none⟩),.pointer (some ⟨U,0,none⟩),.pointer (some ⟨hG,0,none⟩)]) (f0:=133) ao ⟨_,rfl,(by first|(simp only[*,go_sem,-a,-hM,-hJ];done)|rfl),rfl,rfl⟩ (by simp only[*,go_sem,-a,-hM,-hJ]) ?_ ?_
  ·exact Kn aG al ao u0 (p.mono e) (q.mono e) (s.mono e) (u.mono e) ad a7 (W.mono e) b2 (J.mono e) (e _ _ (d _ _ dk)) (e _ _ (d _ _ dp)) (e _ _ (d _ _ dq)) (e _ _ (d _ _ ds)) (e _ _ (d _ _ dt)) (e _ _ (d _ _ du)) (e _ _ (d _ _ dv)) (e _ _ (d _ _ dC)) (e _ _ (d _ _ dE)) hQ (e _ _ (d _ _ dT)) (e _ _ (d _ _ a6)) hP (cd i a7 eb)
  refine ai.nil hM (a _ _ _ ?_);clear a K
  repeat refine ax (hM _) ?_
  refine aZ hM fun K a=>?_
  refine ai.bD (hJ _ rfl) 2 (n:=0) _ rfl rfl ?_;simp only[*,go_sem,-a,-hM,-hJ]
  refine ai.nil hM (a _ _ _ ?_);clear a K
  change ∃eQ,eQ<c.length - i/\C5 _ ae b3 b4 a4 U _ eQ _ _ _
  exact ⟨c.length - (i+1),by omega,i+1,hN,rfl,ao,rfl,d.trans e,(by simp only[*,go_sem,-hM,-hJ]),(by simp only[*,go_sem,-hM,-hJ]),(by simp only[*,go_sem,-hM,-hJ]),(by simp only[*,go_sem,-hM,-hJ]),(by simp only[*,go_sem,-hM,-hJ]),(by simp only[*,go_sem,-hM,-hJ]),(by simp only[*,go_sem,-hM,-hJ]),(by simp only[*,go_sem,-hM,-hJ]),(by simp only[*,go_sem,-hM,-hJ]),(by simp only[*,go_sem,-hM,-hJ]),(by simp only[*,go_sem,-hM,-hJ]),(by simp only[*,go_sem,-hM,-hJ]),(by simp only[*,go_sem,-hM,-hJ]),rfl⟩
 ·have c1:decide ((i:Int)<(c.length:Int))=false:=by simp;omega
  obtain rfl:i=c.length:=by omega
  repeat refine ax (hM _) ?_
  refine aZ hM fun K a=>?_
  refine ai.bD (hJ _ rfl) 1 (n:=0) _ rfl rfl ?_;simp only[*,go_sem,-a,-hM,-hJ]
  refine ai.nil hM (a _ _ _ ?_);clear a K
  repeat refine ax (hM _) ?_
  refine cA (hM _) (by simp only[*,go_sem,-hM,-hJ]) ?_
  refine oA ?_
  simp only[go_sem]
  repeat refine ax (hM _) ?_
  refine aZ hM fun K a=>?_
  refine ai.fW (hM _) rfl (by first|(simp only[*,go_sem,-a,-hM,-hJ];done)|rfl) rfl EC (by simp only[*,go_sem,-a,-hM,-hJ]) (J9 aG al) fun v F' ea S=>?_
  obtain ⟨rfl,rfl,rfl⟩:=S
  refine ai.nil hM (a _ _ _ ?_);clear a K
  refine ym o fun nd no=>?_
  have rI:∀off sp,O ⟨g,off,sp⟩=none:=fun off sp=>no g (by simp[keys]) off sp
  have hle:Le ⟨bT O g (X.cy (⟨L,M,g,c.length,(fun i=>bl[i]?.getD false),base,T0,B0⟩:X) TT).fin,[]⟩ ⟨O,[(g,(X.cy (⟨L,M,g,c.length,(fun i=>bl[i]?.getD false),base,T0,B0⟩:X) TT).fin)]⟩:=jV (by simp[lk]) (by simp) trivial
  have ab:aB rB (bT O g (X.cy (⟨L,M,g,c.length,(fun i=>bl[i]?.getD false),base,T0,B0⟩:X) TT).fin) (.slice (some ⟨g,0,none⟩) bl.length bl.length) bl:=aB.flat (fun b=>[.bool b]) bl (fun _=>rfl) rI (by
   show (((List.range c.length).map fun i=>Value.bool (bl[i]?.getD false)).toArray).toList=_
   rw[<-cb]
   apply List.ext_getElem?
   intro j
   rw[Kp bl]
   simp only[List.getElem?_map]
   rcases Nat.lt_or_ge j bl.length with y|y
   ·simp[y]
   ·simp[y]) (by omega)
  obtain ⟨D,ba⟩:∃D,D=bT O g (X.cy (⟨L,M,g,c.length,(fun i=>bl[i]?.getD false),base,T0,B0⟩:X) TT).fin:=⟨_,rfl⟩
  have ar:Ext O D:=by rw[ba];exact fY _ _ _
  have hR:Ext ro D:=I.trans (C.trans (d.trans ar))
  rw[<-ba] at hle ab
  refine C3 o hle ?_
  replace k:=k.mono ar
  have a6:D ⟨U,0,none⟩=some (.slice (some ⟨g,0,none⟩) bl.length bl.length):=by rw[cb];exact ar _ _ (d _ _ a6)
  clear hle nd no ba rI dk dp dq ds dt du dv dC dE dT hM hJ aG al hn p q s u J b5 cd c1 hlen hz hi ar I C d ho hp hq hr ht hv hx hy ft fu fx gg gl gn gC gM a3 gV g0 hc hf
  obtain ⟨_,_,B⟩:=k.op
  obtain ⟨_,_,Q⟩:=ab.op
  have hJ:=o
  clear o
  refine cJ.of hJ ?_
  repeat refine af hJ ?_
  refine aj hJ ?_
  simp only[*,go_sem,-h]
  repeat refine af hJ ?_
  refine aj hJ ?_
  simp only[*,go_sem,-h]
  repeat refine af hJ ?_
  refine aP hJ ?_
  have f:=fL h;clear h;obtain ⟨hS,E,hT⟩:=f;have h:=True.intro
  refine bR hJ [13,14,15,34,35,36,37,38,39,40,41,42,43,44,45,46,47] (fun m eS F'=>∃(i23:Nat) (d17:Option Addr) (H:Nat) (a0:List (Nat×Obj)) (G:(List (List Int))),m=c.length - i23/\i23<=c.length/\bE (yp bl) i23 (c.drop i23) G=some hS/\F'=⟨D,a0⟩/\aO (rL rI) D 35 (.slice d17 G.length H) G a0/\G.length<=H/\slot eS 34= .int .i64 (i23:Int)/\slot eS 13= .slice d17 G.length H) c.length ?_ ?_
  ·refine ⟨0,none,0,[],([]:List (List Int)),(Nat.sub_zero _).symm,Nat.zero_le _,E,rfl,aO.nil _ _ _,Nat.le_refl _,?_⟩
   simp only[*,go_sem,-h]
  ·rintro kh P F' N ⟨i23,d17,H,a0,G,rfl,kj,E,rfl,bb,hV,kk,kl⟩
   have h:=True.intro
   have km:sz P=49:=by rw[N.size];simp only[*,go_sem,-h]
   have kn:P.defers=[]:=by rw[N.defers];simp only[*,go_sem,-h]
   have kp:slot P 6= .slice none 0 0:=by rw[N.c8 6 (by decide)];simp only[*,go_sem,-h]
   have ks:slot P 8= .pointer (some ⟨U,0,none⟩):=by rw[N.c8 8 (by decide)];simp only[*,go_sem,-h]
   have kt:slot P 32= .slice d38 c.length b0:=by rw[N.c8 32 (by decide)];simp only[*,go_sem,-h]
   have kv:slot P 33= .int .i64 (c.length:Int):=by rw[N.c8 33 (by decide)];simp only[*,go_sem,-h]
   clear N R hd
   repeat refine af hJ ?_
   refine aj hJ ?_
   simp only[*,go_sem,-h]
   repeat refine af hJ ?_
   rcases Nat.lt_or_ge i23 c.length with hX|e0
   ·refine bJ hJ (by simp only[*,go_sem,-h]) ?_
    refine aI hJ ?_
    obtain ⟨a2,bc⟩:∃x,c[i23]?=some x:=⟨_,List.getElem?_eq_getElem hX⟩
    rw[dg bc] at E
    have f:=fL E;clear E h;obtain ⟨kx,h,e1⟩:=f
    unfold yp at h
    try dsimp only at h
    obtain ⟨ky,k0,hY,hZ,e3⟩:=B _ _ bc
    obtain ⟨hB,rfl,W⟩:=hZ;obtain ⟨d32,Y,rfl,hD,hE,k2⟩:=id W
    cases hY
    have h0:=e3 0 _ rfl;simp only[go_sem] at h0
    clear e3 bc
    repeat refine af hJ ?_
    refine aP hJ ?_
    repeat refine af hJ ?_
    refine av hJ fun lb=>?_
    refine aj hJ ?_
    simp only[*,go_sem,-h]
    repeat refine af hJ ?_
    refine av hJ fun lh=>?_
    refine aj hJ ?_
    have f:=fL h;clear h;obtain ⟨h1,h2,h⟩:=f
    obtain ⟨lj,ll,fa⟩:=cK h2
    obtain ⟨hA,ec,a8,a9,V⟩:=Q _ _ fa
    obtain rfl:ec=[.bool h1]:=a9
    cases a8
    have h3:=V 0 _ rfl;simp only[go_sem] at h3
    clear V fa
    try simp only[*,go_sem,-h]
    have f:=iV h;clear h;rcases f with ⟨bd,h⟩|⟨bd,h⟩
    ·try simp only[Int.ofNat_lt] at bd
     refine bJ hJ (by simp only[*,go_sem,-h]) ?_
     refine av hJ fun h4=>?_
     refine aj hJ ?_
     have f:=fL h;clear h;obtain ⟨h5,h6,h⟩:=f
     obtain ⟨h7,fb⟩:=dw h6
     simp only[*,go_sem,-h]
     intro fg f45;have h8:=eE f45;have fi:=fC f45
     have h9:=aQ.cons fi h4
     try simp only[au] at fi
     try simp only[*,go_sem,-h]
     refine z6 (r:=(rL rI)) (l:=G) (x:=a2) (cs:=#[.slice d32 a2.length Y]) (e2:=35) [(fg,.cells #[.slice d32 a2.length Y] 35)] [] (by first|rfl|simp only[aT]|(simp only[aT];rfl)) bb h9 h7 ⟨_,rfl,W⟩ (by simp only[*,go_sem,-h]) h8 rfl rfl kV kV q3 q5 rfl q4 (by decide) (by decide) (fun ln fo bj ib ic lo=>?_)
     simp only[aT] at ic
     subst ib
     rw[<-fb] at bj;clear fb
     obtain ⟨d53,ih,rfl,ik⟩:=bj.len
     refine ⟨⟨D,(fg,.cells #[.slice d32 a2.length Y] 35)::fo⟩,Le.refl _,?_⟩
     refine aK ?_
     try simp only[*,go_sem,-h]
     have f:=Option.some.inj h;clear h;subst f
     have h:=True.intro
     have ed:=cp (n:=i23) (by have:=b1;omega)
     refine aj hJ ?_
     simp only[*,go_sem,-h]
     refine ⟨c.length - (i23+1),by omega,_,Le.sub (List.Sublist.cons _ (List.Sublist.refl _)),i23+1,d53,ih,fo,h5,rfl,by omega,e1,rfl,bj,ik,?_⟩
     simp only[*,go_sem,-h]
    ·try simp only[Int.ofNat_lt] at bd
     refine bI hJ (by simp only[*,go_sem,-h]) ?_
     refine aI hJ ?_
     have f:=Option.some.inj h;clear h;subst f
     have h:=True.intro
     have ed:=cp (n:=i23) (by have:=b1;omega)
     refine aj hJ ?_
     simp only[*,go_sem,-h]
     refine ⟨c.length - (i23+1),by omega,_,Le.sub (List.Sublist.refl _),i23+1,d17,H,a0,G,rfl,by omega,e1,rfl,bb,hV,?_⟩
     simp only[*,go_sem,-h]
   ·have lr:=Nat.not_lt.2 e0
    refine bI hJ (by simp only[*,go_sem,-h]) ?_
    rw[List.drop_eq_nil_of_le e0] at E
    have f:=Option.some.inj E;clear E h;subst f
    have h:=hT
    dsimp only[aA] at h
    refine bN ?_
    simp only[go_sem]
    repeat refine af hJ ?_
    refine av hJ fun lv=>?_
    refine aj hJ ?_
    simp only[*,go_sem,-h]
    have f:=Option.some.inj h;clear h;subst f
    refine av hJ fun fp=>?_
    obtain ⟨fr,bk,lx,fs,il⟩:=bb.kX (([]:List (Nat×Obj))) [] [] (by first|rfl|simp only[aT]|(simp only[aT];rfl)) (by first|rfl|simp only[aT]|(simp only[aT];rfl)) fp (aE.nil _)
    clear fp
    refine cB (F:=⟨fr,([]:List (Nat×Obj))⟩) hJ il ?_
    obtain ⟨ly,lL,l1⟩:=fs.op
    replace k:=k.mono bk;clear B;obtain ⟨_,_,B⟩:=k.op
    replace ab:=ab.mono bk;clear Q;obtain ⟨_,_,Q⟩:=ab.op
    refine az ?_
    exact (lE (t:=6) rfl (by simp only[*,go_sem]) (by simp only[*,go_sem]) ⟨rfl,fr,hR.trans bk,Le.refl _,_,rfl,fs⟩).2
end Go.Proofs.YtpgcmoanfifglaaGreatDoor
end
section
namespace Go.Proofs.YtpgcmoanfifglaaGreatDoor
open Go Go.Sep Go.Proofs
set_option maxRecDepth 100000
set_option maxHeartbeats 4000000
def yq (u0:ak)(b:Int):Option ((List Int)×Int):=
 ag (gz u0 ([(gR b),nS])) fun a=>cond ((a.2 != 0)) (some (([]:(List Int)),a.2)) (ag (sj a.1.book ([([]:(List Int))])) fun c=>ag (tF a.1 b c) fun d=>ag (wF d) fun e=>some (e,0))
theorem Ks {ro:Addr->Option Value}(L:dc ro)(u0:ak){s1 g i j:Value}(D:bL ro u0 s1 g i j)(a:Int){r:((List Int)×Int)}(h:yq u0 a=some r):pn Tryz.prog 43 #[bv u0 s1 g i j,.int .i64 a] ro (fun v aN=>∃W,v= .tuple #[W,.int .i64 r.2]/\aB rI aN W r.1):=by
 unfold yq at h;have ba:=D.oc;simp only[bG] at ba;refine fF.go Tryz.func43 rfl Tryz.ntmps43 Tryz.results43 (by simp) fun Φ hJ A b5 hd hs=>?_;have ca:=hs 0;have k1:=hs 1;clear hs;refine ah hJ ?_;simp only[*,go_sem];refine ay fun w c bb=>?_;try simp only[au] at bb
 try simp only[*,go_sem]
 refine af hJ ?_;refine av hJ fun bc=>?_;refine aj hJ ?_;revert h;refine bS fun n bd h=>?_;simp only[*,go_sem];refine ay fun z X Y=>?_;have Z:=aQ.cons Y bc;try simp only[au] at Y
 try simp only[*,go_sem]
 obtain ⟨B,M,ab⟩:=fO (b:=z) (o:=(.cells #[.func (.func 96) #[.int .i64 a] #[],.func (.func 97) #[] #[]] 127)) [] ((w,bk u0 s1 g i j)::[]) Z X (aE.cons c (aE.nil _));have ad:aB (c5) (bT ro z (.cells #[.func (.func 96) #[.int .i64 a] #[],.func (.func 97) #[] #[]] 127)) (.slice (some ⟨z,0,none⟩) 2 2) [(gR a),nS]:=(aB.two (r:=(c5)) (e:=127) (v:=.func (.func 96) #[.int .i64 a] #[]) (u:=.func (.func 97) #[] #[]) (x:=(gR a)) (y:=nS) (own:=[(z,.cells #[.func (.func 96) #[.int .i64 a] #[],.func (.func 97) #[] #[]] 127)]) X (by simp[lk]) rfl ⟨96,#[.int .i64 a],#[],rfl,⟨by simp only[go_sem],fun bj bl N _ _ _ _ _ O P Q R h=>by simp only[go_sem];exact vn a N ⟨O,P,Q,R⟩ h⟩⟩ ⟨97,#[],#[],rfl,⟨by simp only[go_sem],fun bj bl N _ _ _ _ _ O P Q R h=>by simp only[go_sem];exact GD N ⟨O,P,Q,R⟩ h⟩⟩)
 generalize bT ro z (.cells #[.func (.func 96) #[.int .i64 a] #[],.func (.func 97) #[] #[]] 127)=cb at ad M B ab;refine gO hJ ab ?_;replace D:=D.mono B;replace c:=M.hd;replace L:=L.mono B;simp only[bp] at M;have bm:=aQ.tl Z;refine cc hJ _ (jE L u0 D ([(gR a),nS]) ad bd) fun v ae al ao k=>?_;obtain ⟨E,F,G,H,I,rfl,d,q⟩:=k;have bo:=d.oc;simp only[bG] at bo;have br:=q.oc;simp only[bG] at br;replace c:=ao.hd;simp only[bp] at ao;refine aK ?_;try simp only[*,go_sem]
 refine ay fun J f ar=>?_;have cd:=aQ.cons ar bm;try simp only[au] at ar
 try simp only[*,go_sem]
 refine af hJ (ah hJ ?_);simp only[*,go_sem];revert h;refine jC hJ (by simp only[*,go_sem]) (fun bs h=>?_) fun bs h=>?_
 ·obtain rfl:=sI h;refine ah hJ ?_;simp only[*,go_sem];refine az ?_;simp only[*,go_sem];exact ⟨_,(B).trans al,Le.sub (List.nil_sublist _),_,rfl,aB.nil _ _⟩
 refine aI hJ (af hJ ?_);refine av hJ fun bz=>?_;refine cL hJ mixed 4 2 (by simp only[*,go_sem]) (by kernel_rfl) ?_;revert h;refine bS fun b0 b1 h=>?_;simp only[*,go_sem];refine ay fun C a0 a2=>?_;have a3:=aQ.cons a2 bz;try simp only[au] at a2
 try simp only[*,go_sem]
 obtain ⟨m,K,a4⟩:=fO (b:=C) (o:=(.cells #[.slice none 0 0] 35)) [] ((J,kn n.1 E F G H I)::(w,bk u0 s1 g i j)::[]) a3 a0 (aE.cons f (aE.cons c (aE.nil _)));have a5:aB (rL rI) (bT ae C (.cells #[.slice none 0 0] 35)) (.slice (some ⟨C,0,none⟩) 1 1) [([]:(List Int))]:=(aB.one (r:=(rL rI)) (e:=35) (cs:=#[.slice none 0 0]) (x:=([]:(List Int))) (own:=[(C,.cells #[.slice none 0 0] 35)]) a0 (by simp[lk]) ⟨_,rfl,aB.nil _ _⟩)
 generalize bT ae C (.cells #[.slice none 0 0] 35)=cf at a5 K m a4;refine gO hJ a4 ?_;replace d:=d.mono m;replace q:=q.mono m;replace f:=K.hd;replace c:=K.tl.hd;simp only[bp] at K;have cl:=aQ.tl a3;refine cc hJ _ (AF n.1.book d ([([]:(List Int))]) a5 b1) fun v cu s S k=>?_;obtain ⟨cy,rfl,a6⟩:=k;replace d:=d.mono s;replace q:=q.mono s;replace f:=S.hd;replace c:=S.tl.hd;simp only[bp] at S;obtain ⟨d92,cS,rfl,c0,da,-⟩:=id a6;have db:=eP (l:=[(J,kn n.1 E F G H I),(w,bk u0 s1 g i j)]) (m.trans s) (aE.cons f (aE.cons c (aE.nil _)));refine ⟨by simp only[*,go_sem],?_⟩;refine lW ?_;revert h;refine bS fun b2 b3 h=>?_;try simp only[*,go_sem]
 refine rz _ (C6 n.1 d.e d.p d.y d.t q a b0 a6 b3) fun v dd T U k=>?_;obtain ⟨df,rfl,a7⟩:=k;replace f:=U.hd;replace c:=U.tl.hd;simp only[bp] at U;obtain ⟨d111,dk,rfl,dp,dq,-⟩:=id a7;have ds:=eP (l:=[(J,kn n.1 E F G H I),(w,bk u0 s1 g i j)]) ((m.trans s).trans T) (aE.cons f (aE.cons c (aE.nil _)));refine ⟨by simp only[*,go_sem],?_⟩;refine lW ?_;revert h;refine bS fun dt b4 h=>?_;obtain rfl:=sI h;try simp only[*,go_sem]
 refine cc hJ _ (GG b2 a7 b4) fun v du a8 V k=>?_;obtain ⟨dv,rfl,a9⟩:=k;replace f:=V.hd;replace c:=V.tl.hd;simp only[bp] at V;obtain ⟨d124,dC,rfl,dE,dT,-⟩:=id a9;have ea:=eP (l:=[(J,kn n.1 E F G H I),(w,bk u0 s1 g i j)]) (((m.trans s).trans T).trans a8) (aE.cons f (aE.cons c (aE.nil _)));refine ⟨by simp only[*,go_sem],?_⟩;refine lW ?_;try simp only[*,go_sem]
 refine az ?_;simp only[*,go_sem];exact ⟨_,(((((B).trans al).trans m).trans s).trans T).trans a8,Le.sub (List.nil_sublist _),_,rfl,a9⟩
def yt (u0:ak)(c:Int)(a:(cM×Int))(st:(Bool×Int×(List (List Int))×Int)):Option (Fl (Bool×Int×(List (List Int))×Int) ((List Int)×Bool×Int)):=
 cond (decide (st.2.2.2<(IntKind.i64.wrap ((IntKind.i64.wrap (3 - (u0.props.length:Int)))+1)))) (ag (tF a.1 c st.2.2.1) fun b=>cond (decide (0<(b.length:Int))) (ag (bh b 0) fun d=>some (.rt (d,true,0))) (ag (sj a.1.book st.2.2.1) fun e=>some (.nx (st.1,st.2.1,e,(IntKind.i64.wrap (st.2.2.2+1)))))) (some (.bk (st.1,st.2.1,st.2.2.1,st.2.2.2)))
def yu (u0:ak)(b:Int):Option ((List Int)×Bool×Int):=
 ag (gz u0 ([(gR b)])) fun a=>cond ((a.2 != 0)) (some (([]:(List Int)),false,a.2)) (ag (aS (yt u0 b a) fu (false,a.2,([([]:(List Int))]),0)) fun o=>aA o (fun c=>some (([]:(List Int)),false,0)) (fun _ _=>none) (fun r=>some r))
theorem Kt {ro:Addr->Option Value}(K:dc ro)(u0:ak){s1 S k l:Value}(n:bL ro u0 s1 S k l)(a:Int){r:((List Int)×Bool×Int)}(h:yu u0 a=some r):pn Tryz.prog 47 #[bv u0 s1 S k l,.int .i64 a] ro (fun v aN=>∃T,v= .tuple #[T,.bool r.2.1,.int .i64 r.2.2]/\aB rI aN T r.1):=by
 obtain ⟨d10,L,rfl,ec,ed,-⟩:=id n.p;unfold yu at h;have bm:=n.oc;simp only[bG] at bm;refine fF.go Tryz.func47 rfl Tryz.ntmps47 Tryz.results47 (by simp) fun Φ hJ A bo hd hs=>?_;have br:=hs 0;have k1:=hs 1;clear hs;refine ah hJ ?_;simp only[*,go_sem];refine ay fun M C bs=>?_;try simp only[au] at bs
 try simp only[*,go_sem]
 refine af hJ ?_;refine av hJ fun bz=>?_;refine aj hJ ?_;revert h;refine bS fun f b0 h=>?_;simp only[*,go_sem];refine ay fun q U V=>?_;have W:=aQ.cons V bz;try simp only[au] at V
 try simp only[*,go_sem]
 obtain ⟨g,N,X⟩:=fO (b:=q) (o:=(.cells #[.func (.func 96) #[.int .i64 a] #[]] 127)) [] ((M,bk u0 s1 (sl d10 u0.props L) k l)::[]) W U (aE.cons C (aE.nil _));have Y:aB (c5) (bT ro q (.cells #[.func (.func 96) #[.int .i64 a] #[]] 127)) (.slice (some ⟨q,0,none⟩) 1 1) [(gR a)]:=(aB.one (r:=(c5)) (e:=127) (cs:=#[.func (.func 96) #[.int .i64 a] #[]]) (x:=(gR a)) (own:=[(q,.cells #[.func (.func 96) #[.int .i64 a] #[]] 127)]) U (by simp[lk]) ⟨96,#[.int .i64 a],#[],rfl,⟨by simp only[go_sem],fun eh et b1 _ _ _ _ _ b2 b3 b4 b5 h=>by simp only[go_sem];exact vn a b1 ⟨b2,b3,b4,b5⟩ h⟩⟩)
 generalize bT ro q (.cells #[.func (.func 96) #[.int .i64 a] #[]] 127)=eu at Y N g X;refine gO hJ X ?_;replace n:=n.mono g;replace C:=N.hd;replace K:=K.mono g;simp only[bp] at N;have ca:=aQ.tl W;refine cc hJ _ (jE K u0 n ([(gR a)]) Y b0) fun v Z O ab s=>?_;obtain ⟨ad,ae,al,ao,ar,rfl,c,i⟩:=s;have cb:=c.oc;simp only[bG] at cb;have cd:=i.oc;simp only[bG] at cd;replace C:=ab.hd;simp only[bp] at ab;refine aK ?_;try simp only[*,go_sem]
 refine ay fun a0 cf a2=>?_;have ev:=aQ.cons a2 ca;try simp only[au] at a2
 try simp only[*,go_sem]
 refine af hJ (ah hJ ?_);simp only[*,go_sem];revert h;refine jC hJ (by simp only[*,go_sem]) (fun cl h=>?_) fun cl h=>?_
 ·obtain rfl:=sI h;refine ah hJ ?_;simp only[*,go_sem];refine az ?_;simp only[*,go_sem];exact ⟨_,(g).trans O,Le.sub (List.nil_sublist _),_,rfl,aB.nil _ _⟩
 refine aI hJ (af hJ ?_);refine av hJ fun cu=>?_;refine aj hJ ?_;simp only[*,go_sem];refine ay fun j a3 a4=>?_;have eQ:=aQ.cons a4 cu;try simp only[au] at a4
 try simp only[*,go_sem]
 refine af hJ (ah hJ ?_);simp only[*,go_sem];refine av hJ fun a5=>?_;obtain ⟨u,a6,a7⟩:=fO (b:=j) (o:=(.cells #[.slice none 0 0] 35)) [] ((a0,kn f.1 ad ae al ao ar)::(M,bk u0 s1 (sl d10 u0.props L) k l)::[]) a5 a3 (aE.cons cf (aE.cons C (aE.nil _)));clear a5;have P:aB (rL rI) (bT Z j (.cells #[.slice none 0 0] 35)) (.slice (some ⟨j,0,none⟩) 1 1) [([]:(List Int))]:=(aB.one (r:=(rL rI)) (e:=35) (cs:=#[.slice none 0 0]) (x:=([]:(List Int))) (own:=[(j,.cells #[.slice none 0 0] 35)]) a3 (by simp[lk]) ⟨_,rfl,aB.nil _ _⟩)
 generalize bT Z j (.cells #[.slice none 0 0] 35)=a8 at u a6 a7 P;refine cB hJ a7 ?_;obtain ⟨eS,e0,-⟩:=P.op;replace c:=c.mono u;replace i:=i.mono u;simp only[bp] at a6;refine aP hJ ?_;revert h;refine bS fun cy D a9=>?_;refine bR hJ [4,5,6,8,9,27,28,29,30,31,32,33,34,35,36,37,38,39,40,41,42,43] (fun m E F'=>∃(F:Addr->Option Value) (d98:Option Addr) (Q:Nat) (G:Bool) (H:Int) (d:(List (List Int))) (I:Int),aS (yt u0 a f) m (G,H,d,I)=some cy/\F'=⟨F,(a0,kn f.1 ad ae al ao ar)::(M,bk u0 s1 (sl d10 u0.props L) k l)::[]⟩/\Ext a8 F/\aB (rL rI) F (.slice d98 d.length Q) d/\slot E 5= .bool G/\slot E 6= .int .i64 H/\slot E 8= .slice d98 d.length Q/\slot E 27= .int .i64 I) fu ?_ ?_
 ·refine ⟨a8,(some ⟨j,0,none⟩),1,false,f.2,([([]:(List Int))]),0,D,rfl,Ext.refl _,P,?_⟩;simp only[*,go_sem]
 rintro R e1 F' ba ⟨F,d98,Q,G,H,d,I,D,rfl,w,z,e2,e3,fa,fb⟩;refine fG hJ fun _ cS=>?_;replace c:=c.mono w;replace i:=i.mono w;simp only[bp] at cS;obtain ⟨fg,fi,-⟩:=z.op;obtain ⟨c0,da,db⟩:=ba.pick [1,7,26] (by decide);simp only[*,go_sem] at c0 da db;clear ba bo hd br k1;obtain _|R:=R
 ·exact absurd D (by simp only[aS,reduceCtorEq,not_false_eq_true])
 revert D;refine bS fun fo h B=>?_;unfold yt at h;try dsimp only at h
 refine ah hJ ?_;simp only[*,go_sem];refine af hJ ?_;revert h;refine jC hJ (by simp only[*,go_sem]) (fun dd h=>?_) fun dd h=>?_
 ·refine aI hJ (af hJ ?_);refine aP hJ (af hJ ?_);refine ah hJ ?_;revert h;refine bS fun fp df h=>?_;simp only[*,go_sem];refine rz _ (C6 f.1 c.e c.p c.y c.t i a d z df) fun v fr J dk s=>?_;obtain ⟨fs,rfl,bb⟩:=s;replace z:=z.mono J;replace c:=c.mono J;simp only[bp] at dk;obtain ⟨d121,ft,rfl,fv,fw,-⟩:=id bb;refine aK ?_;try simp only[*,go_sem]
  refine ah hJ ?_;simp only[*,go_sem];revert h;refine jC hJ (by simp only[*,go_sem]) (fun dp h=>?_) fun dp h=>?_
  ·refine ah hJ ?_;revert h;refine bS fun fx dq h=>?_;obtain rfl:=sI h;obtain ⟨gg,gl,bc⟩:=cK dq;obtain ⟨gn,gp,ds,dt,bd⟩:=bb.el _ _ bc;obtain ⟨gB,rfl,bj⟩:=dt;obtain ⟨d130,gC,rfl,gM,gT,gV⟩:=id bj;cases ds;have du:=bd 0 _ rfl;simp only[go_sem] at du;clear bd bc;(try simp only[*,go_sem]);obtain rfl:=sI B;clear B;have h:=a9;dsimp only[aA] at h;obtain rfl:=sI h;refine az ?_;simp only[*,go_sem];exact ⟨_,((((g).trans O).trans u).trans w).trans J,Le.sub (List.nil_sublist _),_,rfl,bj⟩
  refine aI hJ (aj hJ ?_);revert h;refine bS fun dv dC h=>?_;obtain rfl:=sI h;simp only[*,go_sem];refine cc hJ _ (AF f.1.book c d z dC) fun v dE dT ea s=>?_;obtain ⟨g0,rfl,bl⟩:=s;simp only[bp] at ea;obtain ⟨d144,eb,rfl,g1,g2,-⟩:=id bl;refine aK ?_;try simp only[*,go_sem]
  refine aj hJ ?_;simp only[*,go_sem];refine ⟨R,Nat.lt_succ_self _,_,Le.sub (List.Sublist.refl _),dE,d144,eb,G,H,dv,(IntKind.i64.wrap (I+1)),B,rfl,(w.trans (J.trans dT)),bl,?_⟩;simp only[*,go_sem]
 obtain rfl:=sI h;refine bN ?_;simp only[go_sem];obtain rfl:=sI B;clear B;have h:=a9;dsimp only[aA] at h;obtain rfl:=sI h;refine ah hJ ?_;simp only[*,go_sem];refine az ?_;simp only[*,go_sem];exact ⟨_,(((g).trans O).trans u).trans w,Le.sub (List.nil_sublist _),_,rfl,aB.nil _ _⟩
def yw (a:(Int×Int×Int))(e:(ak×Int))(b:((List Int)×Int))(f:(ak×Int))(g:(ak×Int))(c:(Int×Int))(d:((List Int)×Int)):Option Bool:=
 cond ((a.2.2==0)) (cond ((e.2==0)) (cond ((b.2==0)) (cond ((f.2==9)) (cond ((g.2==0)) (cond ((c.2==0)) (cond ((d.2==0)) (cond ((a.1==0)) (cond ((a.2.1==2)) (ag (mw b.1 ([11,12])) fun h=>cond (h) (cond ((c.1==2)) (ag (mw d.1 ([1])) fun i=>some i) (some false)) (some false)) (some false)) (some false)) (some false)) (some false)) (some false)) (some false)) (some false)) (some false)) (some false)
def yx (a:ak):Option Bool:=
 ag (wC a) fun d=>ag (mE 0 true) fun e=>ag (sD a e) fun b=>ag (kq b.1 0) fun f=>ag (mE 1 true) fun g=>ag (sD a g) fun h=>ag (qb 12 12) fun i=>ag (wD a 0 i) fun c=>ag (ko c.1) fun j=>ag (mE 0 true) fun k=>ag (qc a k) fun l=>ag (mE 1 true) fun m=>ag (qc l m) fun n=>ag (mE 0 false) fun o=>ag (qc n o) fun p=>ag (wI p) fun q=>yw d b f h c j q
def yy (d:ak)(f:(Int×Int))(g:(Int×Int))(h:(Int×Int))(i:(Int×Int))(b:(Int×an×Int))(c:(Int×an×Int))(a:(an×an×Bool×Int)):Option Bool:=
 ag (yq d 2) fun j=>ag (yu d 2) fun e=>cond ((f.2 != 0)) (some false) (cond ((g.2 != 0)) (some false) (cond ((h.2 != 0)) (some false) (cond ((i.2 != 0)) (some false) (cond ((b.2.2 != 0)) (some false) (cond ((c.2.2 != 0)) (some false) (cond ((a.2.2.2 != 0)) (some false) (cond ((j.2 != 0)) (some false) (cond ((e.2.2 != 0)) (some false) (cond ((f.1 != 0)) (some false) (cond ((g.1 != 2)) (some false) (cond ((h.1 != 0)) (some false) (cond ((i.1 != 1)) (some false) (cond ((b.1 != 0)) (some false) (ag (gi 1 1) fun k=>cond (!((b.2.1.num==k.num)&&(b.2.1.den==k.den))) (some false) (cond ((c.1 != (-1))) (some false) (ag (gi 0 1) fun l=>cond (!((c.2.1.num==l.num)&&(c.2.1.den==l.den))) (some false) (cond (!a.2.2.1) (some false) (ag (gi 3 2) fun m=>cond (!((a.1.num==m.num)&&(a.1.den==m.den))) (some false) (ag (gi 3 2) fun n=>cond (!((a.2.1.num==n.num)&&(a.2.1.den==n.den))) (some false) (ag (mw j.1 ([11,12,13,14])) fun o=>cond (!o) (some false) (cond (!e.2.1) (some false) (ag (mw e.1 ([11])) fun p=>cond (!p) (some false) (yx d)))))))))))))))))))))))
def yz (a:ak)(b:ak):Option Bool:=
 ag (sB a 0) fun c=>ag (sB a 1) fun d=>ag (ko a) fun e=>ag (ko b) fun f=>ag (sH a) fun g=>ag (sH b) fun h=>ag (k6 a) fun i=>yy a c d e f g h i
def yA (b:ak)(s:ak)(g:(an×Int))(c:(Int×an×Int))(h:(an×Int))(d:(an×Bool×Int))(e:(an×Bool×Int))(f:(an×Bool×Int)):Option Bool:=
 ag (wN b) fun i=>ag (kq b 0) fun j=>ag (wM b 0) fun a=>cond ((g.2 != 0)) (some false) (cond ((c.2.2 != 0)) (some false) (cond ((h.2 != 0)) (some false) (cond ((d.2.2 != 0)) (some false) (cond ((e.2.2 != 0)) (some false) (cond ((f.2.2 != 0)) (some false) (cond ((i.2 != 0)) (some false) (cond ((j.2 != 0)) (some false) (cond ((a.2.2 != 0)) (some false) (ag (gi 13 4) fun k=>cond (!((g.1.num==k.num)&&(g.1.den==k.den))) (some false) (cond ((c.1 != 2)) (some false) (ag (gi 11 8) fun l=>cond (!((c.2.1.num==l.num)&&(c.2.1.den==l.den))) (some false) (ag (gi 1 4) fun m=>cond (!((h.1.num==m.num)&&(h.1.den==m.den))) (some false) (ag (gi 24 13) fun n=>cond (!((d.1.num==n.num)&&(d.1.den==n.den))) (some false) (cond (!d.2.1) (some false) (ag (gi 2 13) fun o=>cond (!((e.1.num==o.num)&&(e.1.den==o.den))) (some false) (cond (e.2.1) (some false) (ag (gi 1 1) fun p=>cond (!((f.1.num==p.num)&&(f.1.den==p.den))) (some false) (cond (!f.2.1) (some false) (cond ((i.1 != 3)) (some false) (ag (mw j.1 ([10,11,12])) fun t=>cond (!t) (some false) (ag (gi 1 4) fun q=>cond (!((a.1.num==q.num)&&(a.1.den==q.den))) (some false) (ag (gi 1 1) fun r=>cond (!((a.2.1.num==r.num)&&(a.2.1.den==r.den))) (some false) (yz b s)))))))))))))))))))))))
def lH :Option Bool:=
 ag (wS) fun a=>ag (wR a ([11]) 2) fun b=>ag (vB a 5) fun c=>ag (kr 2 11) fun d=>ag (nN a d) fun e=>ag (kr 2 10) fun f=>ag (vC a f) fun g=>ag (kr 2 12) fun h=>ag (vD b h) fun i=>ag (kr 2 12) fun j=>ag (r9 b j) fun k=>ag (kr 2 12) fun l=>ag (r9 a l) fun m=>yA a b c e g i k m
theorem qA:lH=some true:=by decide+kernel
set_option maxHeartbeats 40000000 in
theorem C7 {Φ:Goroutine->aa->Prop}(hJ:Closed Tryz.prog true (dR Tryz.prog Φ)){A:Act}{ro:Addr->Option Value}(a:(Int×Int×Int))(f:(ak×Int))(b:((List Int)×Int))(g:(ak×Int))(i:(ak×Int))(d:(Int×Int))(c:((List Int)×Int))(Q:dc ro){j:Value}(k:aB rI ro j b.1){l:Value}(m:aB rI ro l c.1)(q:sz A=439/\A.defers=[]/\slot A 0= .bool false/\slot A 4= .int .i64 a.2.2/\slot A 7= .int .i64 f.2/\slot A 9= .int .i64 b.2/\slot A 12= .int .i64 g.2/\slot A 15= .int .i64 i.2/\slot A 18= .int .i64 d.2/\slot A 20= .int .i64 c.2/\slot A 21=j/\slot A 28= .int .i64 d.1/\slot A 40= .int .i64 a.1/\slot A 41= .int .i64 a.2.1/\slot A 43=l)(h:yw a f b g i d c=some true):Wp (dR Tryz.prog Φ) (bC (bC (bC (bC (bC (bC (bC (bC (bC (bC (bC (bC (bC (bC (bC (bC (bC (bC (bC (bC (bC (bC (bC (bC (bC (bC (bC (bC (bC (bC (bC (bC (Tryz.f13.body.getD .skip))))))))))))))))))))))))))))))))) (g9 Tryz.prog [.tmp 0] (fun v _=>v= .bool true)) A ⟨ro,[]⟩:=by
 obtain ⟨R,hd,S,T,U,V,W,X,Y,Z,ab,ad,ae,al,ao⟩:=q;obtain ⟨ar,a0,rfl,a2,a3,-⟩:=id k;obtain ⟨a4,a5,rfl,a6,a7,-⟩:=id m;unfold yw at h;refine fG hJ fun s t=>?_;have u:=s.nd;try simp only[keys,List.map_cons,List.map_nil,List.map_append,List.cons_append,List.nil_append,List.nodup_cons,List.mem_cons,List.mem_append,List.not_mem_nil,or_false,not_or] at u
 simp only[bp] at t;refine af hJ ?_;refine av hJ fun w=>?_;refine ep hJ fun K n=>?_;revert h;refine cS (fun y h=>?_) fun y h=>?_
 ·revert h;refine cS (fun z h=>?_) fun z h=>?_
  ·revert h;refine cS (fun B h=>?_) fun B h=>?_
   ·revert h;refine cS (fun C h=>?_) fun C h=>?_
    ·revert h;refine cS (fun D h=>?_) fun D h=>?_
     ·revert h;refine cS (fun E h=>?_) fun E h=>?_
      ·revert h;refine cS (fun F h=>?_) fun F h=>?_
       ·revert h;refine cS (fun G h=>?_) fun G h=>?_
        ·revert h;refine cS (fun H h=>?_) fun H h=>?_
         ·revert h;refine bS fun a8 I h=>?_;(try simp (maxSteps:=9^9) only[*,go_sem]);refine ay fun a9 J o=>?_;have L:=aQ.cons o w;try simp only[au] at o
          (try simp (maxSteps:=9^9) only[*,go_sem]);refine bn hJ _ (pW b.1 (k.mono aW) ([11,12]) ((aB.flat (r:=rI) (e:=3) (cs:=#[.int .i64 11,.int .i64 12]) (fun x=>[.int .i64 x]) ([11,12]) (fun _=>rfl) J rfl (by simp)).mono (jX (by simp (maxSteps:=9^9) only[*,go_sem]))) I) (aK ?_);revert h;refine cS (fun M h=>?_) fun M h=>?_
          ·revert h;refine cS (fun N h=>?_) fun N h=>?_
           ·revert h;refine bS fun ba O h=>?_;obtain rfl:=sI h;(try simp (maxSteps:=9^9) only[*,go_sem]);refine ay fun bb P p=>?_;have bc:=aQ.cons p L;try simp only[au] at p
            (try simp (maxSteps:=9^9) only[*,go_sem]);refine bn hJ _ (pW c.1 (m.mono aW) ([1]) ((aB.flat (r:=rI) (e:=3) (cs:=#[.int .i64 1]) (fun x=>[.int .i64 x]) ([1]) (fun _=>rfl) P rfl (by simp)).mono (jX (by simp (maxSteps:=9^9) only[*,go_sem]))) O) (aK ?_);(try simp (maxSteps:=9^9) only[*,go_sem]);refine n.go ?_;clear n K;refine az ?_;try simp only[*,go_sem]
           cases h
          cases h
         cases h
        cases h
       cases h
      cases h
     cases h
    cases h
   cases h
  cases h
 cases h
set_option maxHeartbeats 40000000 in
theorem Ku {Φ:Goroutine->aa->Prop}(hJ:Closed Tryz.prog true (dR Tryz.prog Φ)){A:Act}{ro:Addr->Option Value}(d:ak)(eu:((List Int)×Int))(ev:(Int×Int))(eQ:(Int×Int))(b0:(Int×Int))(eS:(Int×Int))(e0:(Int×an×Int))(e1:(Int×an×Int))(e2:(an×an×Bool×Int)){i:Nat}(a:dc ro){b1:Value}(e3:aB rI ro b1 eu.1){j k m n:Value}(c:bL ro d j k m n)(fa:sz A=439/\A.defers=[]/\slot A 0= .bool false/\slot A 1= .pointer (some ⟨i,0,none⟩)/\slot A 4= .int .i64 ev.2/\slot A 7= .int .i64 eQ.2/\slot A 9= .int .i64 b0.2/\slot A 12= .int .i64 eS.2/\slot A 15= .int .i64 e0.2.2/\slot A 18= .int .i64 e1.2.2/\slot A 20= .int .i64 e2.2.2.2/\slot A 21=b1/\slot A 28= .int .i64 b0.1)(h:yx d=some true):Wp (dR Tryz.prog Φ) (bC (bC (bC (bC (bC (bC (bC (bC (bC (bC (bC (bC (bC (bC (bC (bC (bC (bC (bC (bC (bC (bC (bC (bC (bC (Tryz.f13.body.getD .skip)))))))))))))))))))))))))) (g9 Tryz.prog [.tmp 0] (fun v _=>v= .bool true)) A ⟨ro,(i,bk d j k m n)::[]⟩:=by
 obtain ⟨b2,hd,b3,k1,b4,b5,ca,cb,cd,cf,cl,cu,cy⟩:=fa;obtain ⟨d125,iv,rfl,ix,jC,-⟩:=id e3;unfold yx at h;have fb:=c.oc;simp only[bG] at fb;refine fG hJ fun a2 cS=>?_;have fg:=a2.nd;try simp only[keys,List.map_cons,List.map_nil,List.map_append,List.cons_append,List.nil_append,List.nodup_cons,List.mem_cons,List.mem_append,List.not_mem_nil,or_false,not_or] at fg
 replace g:=cS.hd;simp only[bp] at cS;refine af hJ (ep hJ fun K b=>?_);revert h;refine bS fun c0 fi h=>?_;try simp (maxSteps:=9^9) only[*,go_sem]
 refine bn hJ _ (GC (a.mono aW) d (c.mono aW) fi) (aK ?_);try simp (maxSteps:=9^9) only[*,go_sem]
 refine b.go ?_;clear b K;refine af hJ ?_;refine j5 hJ mixed [] (.rd 0 (.rd 1 (.two 2 (.pure 3 (.pure 4 (.pure 5 (.one 6 (.one 7 (.pure 8 .done)))))) 6 (.one 2 (.pure 3 (.pure 4 (.pure 5 (.one 7 (.pure 8 .done))))))))) ⟨ro,[(i,bk d j k m n)]⟩ (by simp (maxSteps:=9^9) only[*,go_sem]) (by kernel_rfl) fun K b=>?_;revert h;refine bS fun da fo h=>?_;try simp (maxSteps:=9^9) only[*,go_sem]
 refine ⟨_,bx hJ fun F u=>ku 0 true fo,bZ ?_⟩;try simp (maxSteps:=9^9) only[*,go_sem]
 refine j4 ?_ ?_
 ·revert h;refine bS fun Z fp h=>?_;try simp (maxSteps:=9^9) only[*,go_sem]
  refine cc hJ _ (sE a d c da fp) fun v j1 a3 db f=>?_;obtain ⟨dd,df,dk,dp,rfl,dq⟩:=f;have fr:=dq.oc;simp only[bG] at fr;replace c:=c.mono a3;replace g:=db.hd;replace a:=a.mono a3;simp only[bp] at db;have j2:=eP (l:=[(i,bk d j k m n)]) a3 (aE.cons g (aE.nil _));refine ⟨by simp (maxSteps:=9^9) only[*,go_sem],?_⟩;refine bZ ?_;try simp (maxSteps:=9^9) only[*,go_sem]
  refine ay fun w s ds=>?_;have kh:=aQ.cons ds a2;try simp only[au] at ds
  try simp (maxSteps:=9^9) only[*,go_sem]
  refine b.go ?_;clear b K;refine af hJ (ep hJ fun K b=>?_);revert h;refine bS fun fs ft h=>?_;try simp (maxSteps:=9^9) only[*,go_sem]
  refine cc hJ _ (sG a Z.1 dq 0 ft) fun v fu dt a4 f=>?_;obtain ⟨kj,rfl,o⟩:=f;have fv:=o.oc;simp only[bG] at fv;replace c:=c.mono dt;replace s:=a4.hd;replace g:=a4.tl.hd;replace a:=a.mono dt;simp only[bp] at a4;refine aK ?_;try simp (maxSteps:=9^9) only[*,go_sem]
  refine b.go ?_;clear b K;refine af hJ ?_;refine j5 hJ mixed [] (.rd 0 (.rd 1 (.one 2 (.pure 3 (.pure 4 (.pure 5 (.pure 6 .done))))))) ⟨fu,[(w,bk Z.1 dd df dk dp),(i,bk d j k m n)]⟩ (by simp (maxSteps:=9^9) only[*,go_sem]) (by kernel_rfl) fun K b=>?_;revert h;refine bS fun fw fx h=>?_;try simp (maxSteps:=9^9) only[*,go_sem]
  refine ⟨_,bx hJ fun F u=>ku 1 true fx,bZ ?_⟩;revert h;refine bS fun gg gl h=>?_;try simp (maxSteps:=9^9) only[*,go_sem]
  refine cc hJ _ (sE a d c fw gl) fun v gn ab a5 f=>?_;obtain ⟨kk,kl,km,kn,rfl,N⟩:=f;have gp:=N.oc;simp only[bG] at gp;replace o:=o.mono ab;replace c:=c.mono ab;replace s:=a5.hd;replace g:=a5.tl.hd;replace a:=a.mono ab;simp only[bp] at a5;obtain ⟨kp,ks,rfl,kt,kv,-⟩:=id N.e;obtain ⟨kx,ky,rfl,k0,k2,-⟩:=id N.p;obtain ⟨lb,lh,rfl,lj,lk,-⟩:=id N.y;obtain ⟨ll,ln,rfl,lo,lr,-⟩:=id N.t;have lv:=eP (l:=[(w,bk Z.1 dd df dk dp),(i,bk d j k m n)]) ab (aE.cons s (aE.cons g (aE.nil _)));refine ⟨by simp (maxSteps:=9^9) only[*,go_sem],?_⟩;refine bZ ?_;try simp (maxSteps:=9^9) only[*,go_sem]
  refine b.go ?_;clear b K;refine af hJ ?_;refine fP [0,1,4,7,9,12,15,18,20,21,28,40,41,42] fun lx gB gC gM=>?_;simp only[*,go_sem] at gB gC gM;clear b2 hd b3 k1 b4 b5 ca cb cd cf cl cu cy;refine j5 hJ mixed [] (.rd 0 (.rd 1 (.one 2 (.pure 3 (.pure 4 (.pure 5 (.one 6 (.pure 7 .done)))))))) ⟨gn,[(i,bk d j k m n)]⟩ (by simp (maxSteps:=9^9) only[*,go_sem]) (by kernel_rfl) fun K b=>?_;revert h;refine bS fun gT gV h=>?_;try simp (maxSteps:=9^9) only[*,go_sem]
  refine ⟨_,bx hJ fun F u=>sK 12 12 gV,bZ ?_⟩;revert h;refine bS fun x g0 h=>?_;try simp (maxSteps:=9^9) only[*,go_sem]
  refine cc hJ _ (AL a d c 0 gT g0) fun v g1 ad a6 f=>?_;obtain ⟨O,P,Q,R,rfl,du⟩:=f;have g2:=du.oc;simp only[bG] at g2;replace o:=o.mono ad;replace c:=c.mono ad;replace s:=a6.hd;replace g:=a6.tl.hd;replace a:=a.mono ad;simp only[bp] at a6;have ly:=eP (l:=[(i,bk d j k m n)]) ad (aE.cons g (aE.nil _));refine ⟨by simp (maxSteps:=9^9) only[*,go_sem],?_⟩;refine bZ ?_;try simp (maxSteps:=9^9) only[*,go_sem]
  refine b.go ?_;clear b K;refine af hJ (ep hJ fun K b=>?_);revert h;refine bS fun g3 g4 h=>?_;try simp (maxSteps:=9^9) only[*,go_sem]
  refine bn hJ _ (sC (a.mono aW) x.1 (du.mono aW) g4) (aK ?_);try simp (maxSteps:=9^9) only[*,go_sem]
  refine b.go ?_;clear b K;refine af hJ ?_;refine j5 hJ mixed [] (.rd 0 (.rd 1 (.one 2 (.rd 3 (.one 4 (.rd 5 (.one 6 (.one 7 (.pure 8 (.pure 9 (.pure 10 (.pure 11 (.pure 12 .done))))))))))))) ⟨g1,[(w,bk x.1 O P Q R),(i,bk d j k m n)]⟩ (by simp (maxSteps:=9^9) only[*,go_sem]) (by kernel_rfl) fun K b=>?_;revert h;refine bS fun ha hc h=>?_;try simp (maxSteps:=9^9) only[*,go_sem]
  refine ⟨_,bx hJ fun F u=>ku 0 true hc,bZ ?_⟩;revert h;refine bS fun hf hg h=>?_;try simp (maxSteps:=9^9) only[*,go_sem]
  refine cc hJ _ (n9 d c ha hg) fun v lL z a7 f=>?_;obtain ⟨l1,l2,l3,l4,rfl,D⟩:=f;have hh:=D.oc;simp only[bG] at hh;replace o:=o.mono z;replace c:=c.mono z;replace s:=a7.hd;replace g:=a7.tl.hd;replace a:=a.mono z;simp only[bp] at a7;obtain ⟨ma,mf,rfl,mi,ml,-⟩:=id D.e;obtain ⟨mn,mr,rfl,mx,my,-⟩:=id D.p;obtain ⟨m1,m2,rfl,na,nb,-⟩:=id D.y;obtain ⟨nf,nm,rfl,nn,np,-⟩:=id D.t;have ns:=eP (l:=[(w,bk x.1 O P Q R),(i,bk d j k m n)]) z (aE.cons s (aE.cons g (aE.nil _)));refine ⟨by simp (maxSteps:=9^9) only[*,go_sem],?_⟩;refine bZ ?_;revert h;refine bS fun hi hj h=>?_;try simp (maxSteps:=9^9) only[*,go_sem]
  refine ⟨_,bx hJ fun F u=>ku 1 true hj,bZ ?_⟩;revert h;refine bS fun hk hl h=>?_;try simp (maxSteps:=9^9) only[*,go_sem]
  refine cc hJ _ (n9 hf D hi hl) fun v nx E a8 f=>?_;obtain ⟨nz,nA,nH,nI,rfl,G⟩:=f;have hn:=G.oc;simp only[bG] at hn;replace o:=o.mono E;replace c:=c.mono E;replace s:=a8.hd;replace g:=a8.tl.hd;replace a:=a.mono E;simp only[bp] at a8;obtain ⟨nK,nQ,rfl,nR,nT,-⟩:=id G.e;obtain ⟨nV,nX,rfl,nY,n0,-⟩:=id G.p;obtain ⟨n1,n2,rfl,n3,oi,-⟩:=id G.y;obtain ⟨oj,ox,rfl,oy,o0,-⟩:=id G.t;have o1:=eP (l:=[(w,bk x.1 O P Q R),(i,bk d j k m n)]) (z.trans E) (aE.cons s (aE.cons g (aE.nil _)));refine ⟨by simp (maxSteps:=9^9) only[*,go_sem],?_⟩;refine bZ ?_;revert h;refine bS fun ho hp h=>?_;try simp (maxSteps:=9^9) only[*,go_sem]
  refine ⟨_,bx hJ fun F u=>ku 0 false hp,bZ ?_⟩;revert h;refine bS fun hq hr h=>?_;try simp (maxSteps:=9^9) only[*,go_sem]
  refine cc hJ _ (n9 hk G ho hr) fun v o2 S a9 f=>?_;obtain ⟨o4,pa,pb,pd,rfl,H⟩:=f;have hs:=H.oc;simp only[bG] at hs;replace o:=o.mono S;replace c:=c.mono S;replace s:=a9.hd;replace g:=a9.tl.hd;replace a:=a.mono S;simp only[bp] at a9;obtain ⟨pf,ph,rfl,pj,pk,-⟩:=id H.e;obtain ⟨po,pr,rfl,ps,pt,-⟩:=id H.p;obtain ⟨pv,pw,rfl,px,py,-⟩:=id H.y;obtain ⟨pA,pB,rfl,pC,pD,-⟩:=id H.t;have pL:=eP (l:=[(w,bk x.1 O P Q R),(i,bk d j k m n)]) ((z.trans E).trans S) (aE.cons s (aE.cons g (aE.nil _)));refine ⟨by simp (maxSteps:=9^9) only[*,go_sem],?_⟩;refine bZ ?_;revert h;refine bS fun ht hv h=>?_;try simp (maxSteps:=9^9) only[*,go_sem]
  refine cc hJ _ (AO a hq H hv) fun v pT ae ba f=>?_;obtain ⟨p0,rfl,dv⟩:=f;replace o:=o.mono ae;replace c:=c.mono ae;replace s:=ba.hd;replace g:=ba.tl.hd;replace a:=a.mono ae;simp only[bp] at ba;obtain ⟨p1,q0,rfl,q1,ra,-⟩:=id dv;have rb:=eP (l:=[(w,bk x.1 O P Q R),(i,bk d j k m n)]) (((z.trans E).trans S).trans ae) (aE.cons s (aE.cons g (aE.nil _)));refine ⟨by simp (maxSteps:=9^9) only[*,go_sem],?_⟩;refine bZ ?_;try simp (maxSteps:=9^9) only[*,go_sem]
  refine b.go ?_;clear b K;show Wp _ _ _ _ _;exact cB hJ (Le.sub (.cons _ (.cons _ (List.Sublist.refl _)))) (C7 hJ c0 Z fs gg x g3 ht a o dv (by simp (maxSteps:=9^9) only[*,go_sem]) h)
 revert h;refine bS fun al hx h=>?_;try simp (maxSteps:=9^9) only[*,go_sem]
 refine ay fun B r dC=>?_;have re:=aQ.cons dC a2;try simp only[au] at dC
 try simp (maxSteps:=9^9) only[*,go_sem]
 refine cc hJ _ (sE a d c da hx) fun v rh bb bc f=>?_;obtain ⟨dE,dT,ea,eb,rfl,ec⟩:=f;have hy:=ec.oc;simp only[bG] at hy;replace c:=c.mono bb;replace r:=bc.hd;replace g:=bc.tl.hd;replace a:=a.mono bb;simp only[bp] at bc;have rk:=eP (l:=[(i,bk d j k m n)]) bb (aE.cons g (aE.nil _));refine ⟨by simp (maxSteps:=9^9) only[*,go_sem],?_⟩;refine bZ ?_;try simp (maxSteps:=9^9) only[*,go_sem]
 refine b.go ?_;clear b K;refine af hJ (ep hJ fun K b=>?_);revert h;refine bS fun hz hA h=>?_;try simp (maxSteps:=9^9) only[*,go_sem]
 refine cc hJ _ (sG a al.1 ec 0 hA) fun v hB ed bd f=>?_;obtain ⟨rl,rfl,q⟩:=f;have hD:=q.oc;simp only[bG] at hD;replace c:=c.mono ed;replace r:=bd.hd;replace g:=bd.tl.hd;replace a:=a.mono ed;simp only[bp] at bd;refine aK ?_;try simp (maxSteps:=9^9) only[*,go_sem]
 refine b.go ?_;clear b K;refine af hJ ?_;refine j5 hJ mixed [] (.rd 0 (.rd 1 (.one 2 (.pure 3 (.pure 4 (.pure 5 (.pure 6 .done))))))) ⟨hB,[(B,bk al.1 dE dT ea eb),(i,bk d j k m n)]⟩ (by simp (maxSteps:=9^9) only[*,go_sem]) (by kernel_rfl) fun K b=>?_;revert h;refine bS fun hE hF h=>?_;try simp (maxSteps:=9^9) only[*,go_sem]
 refine ⟨_,bx hJ fun F u=>ku 1 true hF,bZ ?_⟩;revert h;refine bS fun hG hI h=>?_;try simp (maxSteps:=9^9) only[*,go_sem]
 refine cc hJ _ (sE a d c hE hI) fun v hK ao bj f=>?_;obtain ⟨rn,rp,rr,rv,rfl,T⟩:=f;have hL:=T.oc;simp only[bG] at hL;replace q:=q.mono ao;replace c:=c.mono ao;replace r:=bj.hd;replace g:=bj.tl.hd;replace a:=a.mono ao;simp only[bp] at bj;obtain ⟨rB,rL,rfl,sa,sb,-⟩:=id T.e;obtain ⟨sc,sf,rfl,sg,sh,-⟩:=id T.p;obtain ⟨sl,sm,rfl,ss,sy,-⟩:=id T.y;obtain ⟨sI,sT,rfl,tb,te,-⟩:=id T.t;have ti:=eP (l:=[(B,bk al.1 dE dT ea eb),(i,bk d j k m n)]) ao (aE.cons r (aE.cons g (aE.nil _)));refine ⟨by simp (maxSteps:=9^9) only[*,go_sem],?_⟩;refine bZ ?_;try simp (maxSteps:=9^9) only[*,go_sem]
 refine b.go ?_;clear b K;refine af hJ ?_;refine fP [0,1,4,7,9,12,15,18,20,21,28,40,41,42] fun tk hM hN hP=>?_;simp only[*,go_sem] at hM hN hP;clear b2 hd b3 k1 b4 b5 ca cb cd cf cl cu cy;refine j5 hJ mixed [] (.rd 0 (.rd 1 (.one 2 (.pure 3 (.pure 4 (.pure 5 (.one 6 (.pure 7 .done)))))))) ⟨hK,[(i,bk d j k m n)]⟩ (by simp (maxSteps:=9^9) only[*,go_sem]) (by kernel_rfl) fun K b=>?_;revert h;refine bS fun hQ hR h=>?_;try simp (maxSteps:=9^9) only[*,go_sem]
 refine ⟨_,bx hJ fun F u=>sK 12 12 hR,bZ ?_⟩;revert h;refine bS fun C hS h=>?_;try simp (maxSteps:=9^9) only[*,go_sem]
 refine cc hJ _ (AL a d c 0 hQ hS) fun v hT ar bl f=>?_;obtain ⟨U,V,W,X,rfl,eh⟩:=f;have hV:=eh.oc;simp only[bG] at hV;replace q:=q.mono ar;replace c:=c.mono ar;replace r:=bl.hd;replace g:=bl.tl.hd;replace a:=a.mono ar;simp only[bp] at bl;have tm:=eP (l:=[(i,bk d j k m n)]) ar (aE.cons g (aE.nil _));refine ⟨by simp (maxSteps:=9^9) only[*,go_sem],?_⟩;refine bZ ?_;try simp (maxSteps:=9^9) only[*,go_sem]
 refine b.go ?_;clear b K;refine af hJ (ep hJ fun K b=>?_);revert h;refine bS fun hX hY h=>?_;try simp (maxSteps:=9^9) only[*,go_sem]
 refine bn hJ _ (sC (a.mono aW) C.1 (eh.mono aW) hY) (aK ?_);try simp (maxSteps:=9^9) only[*,go_sem]
 refine b.go ?_;clear b K;refine af hJ ?_;refine j5 hJ mixed [] (.rd 0 (.rd 1 (.one 2 (.rd 3 (.one 4 (.rd 5 (.one 6 (.one 7 (.pure 8 (.pure 9 (.pure 10 (.pure 11 (.pure 12 .done))))))))))))) ⟨hT,[(B,bk C.1 U V W X),(i,bk d j k m n)]⟩ (by simp (maxSteps:=9^9) only[*,go_sem]) (by kernel_rfl) fun K b=>?_;revert h;refine bS fun hZ h0 h=>?_;try simp (maxSteps:=9^9) only[*,go_sem]
 refine ⟨_,bx hJ fun F u=>ku 0 true h0,bZ ?_⟩;revert h;refine bS fun h1 h2 h=>?_;try simp (maxSteps:=9^9) only[*,go_sem]
 refine cc hJ _ (n9 d c hZ h2) fun v tp I bm f=>?_;obtain ⟨ts,tt,tx,tz,rfl,J⟩:=f;have h3:=J.oc;simp only[bG] at h3;replace q:=q.mono I;replace r:=bm.hd;replace g:=bm.tl.hd;replace a:=a.mono I;simp only[bp] at bm;obtain ⟨tI,tM,rfl,tW,ub,-⟩:=id J.e;obtain ⟨ui,u1,rfl,u2,u3,-⟩:=id J.p;obtain ⟨u4,va,rfl,vd,vs,-⟩:=id J.y;obtain ⟨vx,vy,rfl,v3,wa,-⟩:=id J.t;have wb:=eP (l:=[(B,bk C.1 U V W X),(i,bk d j k m n)]) I (aE.cons r (aE.cons g (aE.nil _)));refine ⟨by simp (maxSteps:=9^9) only[*,go_sem],?_⟩;refine bZ ?_;revert h;refine bS fun h4 h5 h=>?_;try simp (maxSteps:=9^9) only[*,go_sem]
 refine ⟨_,bx hJ fun F u=>ku 1 true h5,bZ ?_⟩;revert h;refine bS fun h6 h7 h=>?_;try simp (maxSteps:=9^9) only[*,go_sem]
 refine cc hJ _ (n9 h1 J h4 h7) fun v wc Y bo f=>?_;obtain ⟨wi,wx,wy,w0,rfl,L⟩:=f;have h8:=L.oc;simp only[bG] at h8;replace q:=q.mono Y;replace r:=bo.hd;replace g:=bo.tl.hd;replace a:=a.mono Y;simp only[bp] at bo;obtain ⟨xa,xc,rfl,xf,xi,-⟩:=id L.e;obtain ⟨xn,xr,rfl,xt,xv,-⟩:=id L.p;obtain ⟨x0,x1,rfl,yi,yk,-⟩:=id L.y;obtain ⟨yn,yr,rfl,ys,yv,-⟩:=id L.t;have y0:=eP (l:=[(B,bk C.1 U V W X),(i,bk d j k m n)]) (I.trans Y) (aE.cons r (aE.cons g (aE.nil _)));refine ⟨by simp (maxSteps:=9^9) only[*,go_sem],?_⟩;refine bZ ?_;revert h;refine bS fun h9 ib h=>?_;try simp (maxSteps:=9^9) only[*,go_sem]
 refine ⟨_,bx hJ fun F u=>ku 0 false ib,bZ ?_⟩;revert h;refine bS fun ic ih h=>?_;try simp (maxSteps:=9^9) only[*,go_sem]
 refine cc hJ _ (n9 h6 L h9 ih) fun v y1 a0 br f=>?_;obtain ⟨zc,zr,zs,zt,rfl,M⟩:=f;have ik:=M.oc;simp only[bG] at ik;replace q:=q.mono a0;replace r:=br.hd;replace g:=br.tl.hd;replace a:=a.mono a0;simp only[bp] at br;obtain ⟨Ag,At,rfl,Bd,BF,-⟩:=id M.e;obtain ⟨B0,Cv,rfl,Cy,CY,-⟩:=id M.p;obtain ⟨Ex,Fl,rfl,F0,Gp,-⟩:=id M.y;obtain ⟨Gr,Ha,rfl,Hb,Hc,-⟩:=id M.t;have Hd:=eP (l:=[(B,bk C.1 U V W X),(i,bk d j k m n)]) ((I.trans Y).trans a0) (aE.cons r (aE.cons g (aE.nil _)));refine ⟨by simp (maxSteps:=9^9) only[*,go_sem],?_⟩;refine bZ ?_;revert h;refine bS fun il im h=>?_;try simp (maxSteps:=9^9) only[*,go_sem]
 refine cc hJ _ (AO a ic M im) fun v Hk bs bz f=>?_;obtain ⟨Hm,rfl,et⟩:=f;replace q:=q.mono bs;replace r:=bz.hd;replace g:=bz.tl.hd;replace a:=a.mono bs;simp only[bp] at bz;obtain ⟨Hn,H0,rfl,H2,H3,-⟩:=id et;have H4:=eP (l:=[(B,bk C.1 U V W X),(i,bk d j k m n)]) (((I.trans Y).trans a0).trans bs) (aE.cons r (aE.cons g (aE.nil _)));refine ⟨by simp (maxSteps:=9^9) only[*,go_sem],?_⟩;refine bZ ?_;try simp (maxSteps:=9^9) only[*,go_sem]
 refine b.go ?_;clear b K;show Wp _ _ _ _ _;exact cB hJ (Le.sub (.cons _ (.cons _ (List.Sublist.refl _)))) (C7 hJ c0 al hz hG C hX il a q et (by simp (maxSteps:=9^9) only[*,go_sem]) h)
set_option maxHeartbeats 40000000 in
theorem Kv {Φ:Goroutine->aa->Prop}(hJ:Closed Tryz.prog true (dR Tryz.prog Φ)){A:Act}{ro:Addr->Option Value}(g:ak)(q:((List Int)×Int))(N:(an×an×Int))(k:(Int×Int))(l:(Int×Int))(m:(Int×Int))(n:(Int×Int))(c:(Int×an×Int))(d:(Int×an×Int))(a:(an×an×Bool×Int)){s t u w y:Nat}(i:dc ro){I:Value}(j:aB rI ro I q.1){z B C D:Value}(f:bL ro g z B C D)(O:sz A=439/\A.defers=[]/\slot A 0= .bool false/\slot A 1= .pointer (some ⟨y,0,none⟩)/\slot A 4= .int .i64 k.2/\slot A 7= .int .i64 l.2/\slot A 9= .int .i64 m.2/\slot A 12= .int .i64 n.2/\slot A 15= .int .i64 c.2.2/\slot A 18= .int .i64 d.2.2/\slot A 20= .int .i64 a.2.2.2/\slot A 21=I/\slot A 22= .int .i64 q.2/\slot A 25= .int .i64 N.2.2/\slot A 26= .int .i64 k.1/\slot A 27= .int .i64 l.1/\slot A 28= .int .i64 m.1/\slot A 29= .int .i64 n.1/\slot A 30= .int .i64 c.1/\slot A 31= .pointer (some ⟨w,0,none⟩)/\slot A 32= .int .i64 d.1/\slot A 33= .pointer (some ⟨u,0,none⟩)/\slot A 34= .pointer (some ⟨t,0,none⟩)/\slot A 35= .pointer (some ⟨s,0,none⟩)/\slot A 36= .bool a.2.2.1)(h:yy g k l m n c d a=some true):Wp (dR Tryz.prog Φ) (bC (bC (bC (bC (bC (bC (bC (bC (bC (bC (bC (bC (bC (bC (bC (bC (bC (bC (bC (bC (bC (Tryz.f13.body.getD .skip)))))))))))))))))))))) (g9 Tryz.prog [.tmp 0] (fun v _=>v= .bool true)) A ⟨ro,(s,rt a.2.1.num a.2.1.den)::(t,rt a.1.num a.1.den)::(u,rt d.2.1.num d.2.1.den)::(w,rt c.2.1.num c.2.1.den)::(y,bk g z B C D)::[]⟩:=by
 obtain ⟨P,hd,Q,k1,R,S,T,U,V,W,X,Y,Z,ab,ad,ae,al,ao,ar,a0,a2,a3,a4,a5,a6⟩:=O;unfold yy at h;have a7:=f.oc;simp only[bG] at a7;have a8:=j.oc;simp only[bG] at a8;refine fG hJ fun a9 ba=>?_;have bb:=a9.nd;try simp only[keys,List.map_cons,List.map_nil,List.map_append,List.cons_append,List.nil_append,List.nodup_cons,List.mem_cons,List.mem_append,List.not_mem_nil,or_false,not_or] at bb
 simp only[bp] at ba;refine af hJ (ep hJ fun K b=>?_);revert h;refine bS fun bc bd h=>?_;try simp (maxSteps:=9^9) only[*,go_sem]
 refine rz _ (Ks i g f 2 bd) fun v eQ E bj G=>?_;obtain ⟨eS,rfl,o⟩:=G;have bl:=o.oc;simp only[bG] at bl;replace j:=j.mono E;replace f:=f.mono E;replace i:=i.mono E;simp only[bp] at bj;refine aK ?_;try simp (maxSteps:=9^9) only[*,go_sem]
 refine b.go ?_;clear b K;refine af hJ (ep hJ fun K b=>?_);revert h;refine bS fun bm bo h=>?_;try simp (maxSteps:=9^9) only[*,go_sem]
 refine rz _ (Kt i g f 2 bo) fun v br p bs G=>?_;obtain ⟨e0,rfl,J⟩:=G;have bz:=J.oc;simp only[bG] at bz;replace j:=j.mono p;replace f:=f.mono p;replace o:=o.mono p;replace i:=i.mono p;simp only[bp] at bs;refine aK ?_;try simp (maxSteps:=9^9) only[*,go_sem]
 refine b.go ?_;clear b K;refine af hJ (af hJ (ep hJ fun K b=>?_));revert h;refine cS (fun b0 h=>?_) fun b0 h=>?_
 ·cases h
 revert h;refine cS (fun b1 h=>?_) fun b1 h=>?_
 ·cases h
 revert h;refine cS (fun b2 h=>?_) fun b2 h=>?_
 ·cases h
 revert h;refine cS (fun b3 h=>?_) fun b3 h=>?_
 ·cases h
 revert h;refine cS (fun b4 h=>?_) fun b4 h=>?_
 ·cases h
 revert h;refine cS (fun b5 h=>?_) fun b5 h=>?_
 ·cases h
 revert h;refine cS (fun ca h=>?_) fun ca h=>?_
 ·cases h
 revert h;refine cS (fun cb h=>?_) fun cb h=>?_
 ·cases h
 try simp (maxSteps:=9^9) only[*,go_sem]
 revert h;refine cS (fun cd h=>?_) fun cd h=>?_
 ·cases h
 refine b.go ?_;clear b K;refine bI hJ (by simp (maxSteps:=9^9) only[*,go_sem]) ?_;refine aI hJ (af hJ ?_);refine af hJ ?_;refine fP [0,1,4,7,9,12,15,18,20,21,26,27,28,29,30,31,32,33,34,35,36,37,38,39] fun e1 cf cl cu=>?_;simp only[*,go_sem] at cf cl cu;clear P hd Q k1 R S T U V W X Y Z ab ad ae al ao ar a0 a2 a3 a4 a5 a6;refine av hJ fun cy=>?_;refine j5 hJ mixed [] (.pure 0 (.pure 1 (.pure 2 (.pure 3 (.pure 4 (.pure 5 (.pure 6 (.pure 7 (.pure 8 (.pure 9 (.pure 10 (.pure 11 (.pure 12 (.pure 13 (.pure 14 (.pure 15 (.pure 16 (.pure 17 (.pure 18 (.rd 19 (.rd 20 (.pure 21 (.pure 22 (.pure 23 (.pure 24 (.pure 25 (.pure 26 (.pure 27 (.rd 28 (.rd 29 (.pure 30 (.pure 31 (.pure 32 (.pure 33 (.pure 34 (.pure 35 (.pure 36 (.rd 37 (.rd 38 (.pure 39 (.pure 40 (.pure 41 (.rd 42 (.rd 43 (.pure 44 (.pure 45 (.pure 46 (.pure 47 (.one 48 (.one 49 (.pure 50 (.pure 51 (.pure 52 (.pure 53 (.pure 54 (.pure 55 (.pure 56 (.pure 57 (.one 58 (.one 59 (.pure 60 (.pure 61 .done)))))))))))))))))))))))))))))))))))))))))))))))))))))))))))))) ⟨br,[(s,rt a.2.1.num a.2.1.den),(t,rt a.1.num a.1.den),(u,rt d.2.1.num d.2.1.den),(w,rt c.2.1.num c.2.1.den),(y,bk g z B C D)]⟩ (by simp (maxSteps:=9^9) only[*,go_sem]) (by kernel_rfl) fun K b=>?_;revert h;refine cS (fun c0 h=>?_) fun c0 h=>?_
 ·cases h
 revert h;refine cS (fun da h=>?_) fun da h=>?_
 ·cases h
 revert h;refine cS (fun db h=>?_) fun db h=>?_
 ·cases h
 revert h;refine cS (fun dd h=>?_) fun dd h=>?_
 ·cases h
 revert h;refine cS (fun df h=>?_) fun df h=>?_
 ·cases h
 revert h;refine bS fun e2 dk h=>?_;try simp (maxSteps:=9^9) only[*,go_sem]
 refine ⟨_,bx hJ fun F H=>gW 1 1 dk,bZ ?_⟩;revert h;refine cS (fun dp h=>?_) fun dp h=>?_
 ·cases h
 revert h;refine cS (fun dq h=>?_) fun dq h=>?_
 ·cases h
 revert h;refine bS fun e3 ds h=>?_;try simp (maxSteps:=9^9) only[*,go_sem]
 refine ⟨_,bx hJ fun F H=>gW 0 1 ds,bZ ?_⟩;revert h;refine cS (fun dt h=>?_) fun dt h=>?_
 ·cases h
 revert h;refine cS (fun du h=>?_) fun du h=>?_
 ·cases h
 revert h;refine bS fun fa dv h=>?_;try simp (maxSteps:=9^9) only[*,go_sem]
 refine ⟨_,bx hJ fun F H=>gW 3 2 dv,bZ ?_⟩;revert h;refine cS (fun dC h=>?_) fun dC h=>?_
 ·cases h
 revert h;refine bS fun fb dE h=>?_;try simp (maxSteps:=9^9) only[*,go_sem]
 refine ⟨_,bx hJ fun F H=>gW 3 2 dE,bZ ?_⟩;revert h;refine cS (fun dT h=>?_) fun dT h=>?_
 ·cases h
 revert h;refine bS fun fg ea h=>?_;try simp (maxSteps:=9^9) only[*,go_sem]
 refine ay fun fi eb L=>?_;have ec:=aQ.cons L cy;try simp only[au] at L
 try simp (maxSteps:=9^9) only[*,go_sem]
 refine bn hJ _ (pW bc.1 (o.mono aW) ([11,12,13,14]) ((aB.flat (r:=rI) (e:=3) (cs:=#[.int .i64 11,.int .i64 12,.int .i64 13,.int .i64 14]) (fun x=>[.int .i64 x]) ([11,12,13,14]) (fun _=>rfl) eb rfl (by simp)).mono (jX (by simp (maxSteps:=9^9) only[*,go_sem]))) ea) ⟨by simp (maxSteps:=9^9) only[*,go_sem],bZ ?_⟩;revert h;refine cS (fun ed h=>?_) fun ed h=>?_
 ·cases h
 revert h;refine cS (fun eh h=>?_) fun eh h=>?_
 ·cases h
 revert h;refine bS fun fo et h=>?_;try simp (maxSteps:=9^9) only[*,go_sem]
 refine ay fun fp eu M=>?_;have fr:=aQ.cons M ec;try simp only[au] at M
 try simp (maxSteps:=9^9) only[*,go_sem]
 refine bn hJ _ (pW bm.1 (J.mono aW) ([11]) ((aB.flat (r:=rI) (e:=3) (cs:=#[.int .i64 11]) (fun x=>[.int .i64 x]) ([11]) (fun _=>rfl) eu rfl (by simp)).mono (jX (by simp (maxSteps:=9^9) only[*,go_sem]))) et) ⟨by simp (maxSteps:=9^9) only[*,go_sem],bZ ?_⟩;try simp (maxSteps:=9^9) only[*,go_sem]
 revert h;refine cS (fun ev h=>?_) fun ev h=>?_
 ·cases h
 refine b.go ?_;clear b K;refine bI hJ (by simp (maxSteps:=9^9) only[*,go_sem]) ?_;refine aI hJ ?_;show Wp _ _ _ _ _;exact cB hJ (Le.sub (.cons _ (.cons _ (.cons _ (.cons _ (.cons _ (.cons _ (.cons₂ _ (List.Sublist.refl _))))))))) (Ku hJ g q k l m n c d a i j f (by simp (maxSteps:=9^9) only[*,go_sem]) h)
set_option maxHeartbeats 40000000 in
theorem Kw {Φ:Goroutine->aa->Prop}(hJ:Closed Tryz.prog true (dR Tryz.prog Φ)){A:Act}{ro:Addr->Option Value}(c:ak)(g:ak)(G:(an×Int))(H:(Int×an×Int))(I:(an×Int))(J:(an×Bool×Int))(L:(an×Bool×Int))(M:(an×Bool×Int))(N:(Int×Int))(i:((List Int)×Int))(j:(an×an×Int)){k l:Nat}(d:dc ro){m:Value}(n:aB rI ro m i.1){o q r s:Value}(f:bL ro g o q r s){u w x z:Value}(b:bL ro c u w x z)(O:sz A=439/\A.defers=[]/\slot A 0= .bool false/\slot A 1= .pointer (some ⟨l,0,none⟩)/\slot A 2= .pointer (some ⟨k,0,none⟩)/\slot A 4= .int .i64 G.2/\slot A 7= .int .i64 H.2.2/\slot A 9= .int .i64 I.2/\slot A 12= .int .i64 J.2.2/\slot A 15= .int .i64 L.2.2/\slot A 18= .int .i64 M.2.2/\slot A 20= .int .i64 N.2/\slot A 21=m/\slot A 22= .int .i64 i.2/\slot A 25= .int .i64 j.2.2)(h:yz c g=some true):Wp (dR Tryz.prog Φ) (bC (bC (bC (bC (bC (bC (bC (bC (bC (bC (bC (bC (bC (bC (Tryz.f13.body.getD .skip))))))))))))))) (g9 Tryz.prog [.tmp 0] (fun v _=>v= .bool true)) A ⟨ro,(k,bk g o q r s)::(l,bk c u w x z)::[]⟩:=by
 obtain ⟨P,hd,Q,k1,R,S,T,U,V,W,X,Y,Z,ab,ad⟩:=O;obtain ⟨d45,b1,rfl,b2,b3,-⟩:=id f.e;obtain ⟨d52,b4,rfl,b5,ca,-⟩:=id f.p;obtain ⟨d59,cb,rfl,cd,cf,-⟩:=id f.y;obtain ⟨d66,cl,rfl,cu,cy,-⟩:=id f.t;obtain ⟨d8,cS,rfl,c0,da,-⟩:=id b.e;obtain ⟨d15,db,rfl,dd,df,-⟩:=id b.p;obtain ⟨d22,dk,rfl,dp,dq,-⟩:=id b.y;obtain ⟨d29,ds,rfl,dt,du,-⟩:=id b.t;unfold yz at h;have ae:=f.oc;simp only[bG] at ae;have al:=b.oc;simp only[bG] at al;have ao:=n.oc;simp only[bG] at ao;refine fG hJ fun B ar=>?_;have a0:=B.nd;try simp only[keys,List.map_cons,List.map_nil,List.map_append,List.cons_append,List.nil_append,List.nodup_cons,List.mem_cons,List.mem_append,List.not_mem_nil,or_false,not_or] at a0
 simp only[bp] at ar;refine af hJ (ep hJ fun K a=>?_);revert h;refine bS fun a2 a3 h=>?_;try simp (maxSteps:=9^9) only[*,go_sem]
 refine bn hJ _ (AK (d.mono aW) c (b.mono aW) 0 a3) (aK ?_);try simp (maxSteps:=9^9) only[*,go_sem]
 refine a.go ?_;clear a K;refine af hJ (ep hJ fun K a=>?_);revert h;refine bS fun a4 a5 h=>?_;try simp (maxSteps:=9^9) only[*,go_sem]
 refine bn hJ _ (AK (d.mono aW) c (b.mono aW) 1 a5) (aK ?_);try simp (maxSteps:=9^9) only[*,go_sem]
 refine a.go ?_;clear a K;refine af hJ (ep hJ fun K a=>?_);revert h;refine bS fun a6 a7 h=>?_;try simp (maxSteps:=9^9) only[*,go_sem]
 refine bn hJ _ (sC (d.mono aW) c (b.mono aW) a7) (aK ?_);try simp (maxSteps:=9^9) only[*,go_sem]
 refine a.go ?_;clear a K;refine af hJ (ep hJ fun K a=>?_);revert h;refine bS fun a8 a9 h=>?_;try simp (maxSteps:=9^9) only[*,go_sem]
 refine bn hJ _ (sC (d.mono aW) g (f.mono aW) a9) (aK ?_);try simp (maxSteps:=9^9) only[*,go_sem]
 refine a.go ?_;clear a K;refine af hJ (ep hJ fun K a=>?_);revert h;refine bS fun ba bb h=>?_;try simp (maxSteps:=9^9) only[*,go_sem]
 refine bn hJ _ (AQ (d.mono aW) c (b.mono aW) bb) (aK ?_);try simp (maxSteps:=9^9) only[*,go_sem]
 refine ay fun dv dC C=>?_;have bc:=aQ.cons C B;try simp only[au] at C
 try simp (maxSteps:=9^9) only[*,go_sem]
 refine a.go ?_;clear a K;refine af hJ ?_;refine fP [0,1,2,4,7,9,12,15,18,20,21,22,25,26,27,28,29,30,31] fun dE bd bj bl=>?_;simp only[*,go_sem] at bd bj bl;clear P hd Q k1 R S T U V W X Y Z ab ad;refine ep hJ fun K a=>?_;revert h;refine bS fun bm bo h=>?_;try simp (maxSteps:=9^9) only[*,go_sem]
 refine bn hJ _ (AQ (d.mono aW) g (f.mono aW) bo) (aK ?_);try simp (maxSteps:=9^9) only[*,go_sem]
 refine ay fun dT ea D=>?_;have br:=aQ.cons D bc;try simp only[au] at D
 try simp (maxSteps:=9^9) only[*,go_sem]
 refine a.go ?_;clear a K;refine af hJ (ep hJ fun K a=>?_);revert h;refine bS fun bs bz h=>?_;try simp (maxSteps:=9^9) only[*,go_sem]
 refine bn hJ _ (AP (d.mono aW) c (b.mono aW) bz) (aK ?_);try simp (maxSteps:=9^9) only[*,go_sem]
 refine ay fun eb ec E=>?_;have b0:=aQ.cons E br;try simp only[au] at E
 refine ay fun ed eh F=>?_;have et:=aQ.cons F b0;try simp only[au] at F
 try simp (maxSteps:=9^9) only[*,go_sem]
 refine a.go ?_;clear a K;show Wp _ _ _ _ _;exact cB hJ (Le.sub (.cons₂ _ (.cons₂ _ (.cons₂ _ (.cons₂ _ (.cons _ (.cons₂ _ (List.Sublist.refl _)))))))) (Kv hJ c i j a2 a4 a6 a8 ba bm bs d n b (by simp (maxSteps:=9^9) only[*,go_sem]) h)
set_option maxHeartbeats 40000000 in
theorem Kx {Φ:Goroutine->aa->Prop}(hJ:Closed Tryz.prog true (dR Tryz.prog Φ)){A:Act}{ro:Addr->Option Value}(b:ak)(n:ak)(i:(an×Int))(c:(Int×an×Int))(j:(an×Int))(d:(an×Bool×Int))(f:(an×Bool×Int))(g:(an×Bool×Int)){q s t u w y z B:Nat}(m:dc ro){C D E G:Value}(p:bL ro n C D E G){H I J L:Value}(k:bL ro b H I J L)(T:sz A=439/\A.defers=[]/\slot A 0= .bool false/\slot A 1= .pointer (some ⟨B,0,none⟩)/\slot A 2= .pointer (some ⟨z,0,none⟩)/\slot A 3= .pointer (some ⟨y,0,none⟩)/\slot A 4= .int .i64 i.2/\slot A 5= .int .i64 c.1/\slot A 6= .pointer (some ⟨w,0,none⟩)/\slot A 7= .int .i64 c.2.2/\slot A 8= .pointer (some ⟨u,0,none⟩)/\slot A 9= .int .i64 j.2/\slot A 10= .pointer (some ⟨t,0,none⟩)/\slot A 11= .bool d.2.1/\slot A 12= .int .i64 d.2.2/\slot A 13= .pointer (some ⟨s,0,none⟩)/\slot A 14= .bool f.2.1/\slot A 15= .int .i64 f.2.2/\slot A 16= .pointer (some ⟨q,0,none⟩)/\slot A 17= .bool g.2.1/\slot A 18= .int .i64 g.2.2)(h:yA b n i c j d f g=some true):Wp (dR Tryz.prog Φ) (bC (bC (bC (bC (bC (bC (bC (bC (bC (Tryz.f13.body.getD .skip)))))))))) (g9 Tryz.prog [.tmp 0] (fun v _=>v= .bool true)) A ⟨ro,(q,rt g.1.num g.1.den)::(s,rt f.1.num f.1.den)::(t,rt d.1.num d.1.den)::(u,rt j.1.num j.1.den)::(w,rt c.2.1.num c.2.1.den)::(y,rt i.1.num i.1.den)::(z,bk n C D E G)::(B,bk b H I J L)::[]⟩:=by
 obtain ⟨U,hd,V,k1,W,X,Y,Z,ab,ad,ae,al,ao,ar,a0,a2,a3,a4,a5,a6,a7⟩:=T;unfold yA at h;have a8:=p.oc;simp only[bG] at a8;have a9:=k.oc;simp only[bG] at a9;refine fG hJ fun O ba=>?_;have bb:=O.nd;try simp only[keys,List.map_cons,List.map_nil,List.map_append,List.cons_append,List.nil_append,List.nodup_cons,List.mem_cons,List.mem_append,List.not_mem_nil,or_false,not_or] at bb
 simp only[bp] at ba;refine af hJ (ep hJ fun K a=>?_);revert h;refine bS fun bc bd h=>?_;try simp (maxSteps:=9^9) only[*,go_sem]
 refine bn hJ _ (GK (m.mono aW) b (k.mono aW) bd) (aK ?_);try simp (maxSteps:=9^9) only[*,go_sem]
 refine a.go ?_;clear a K;refine af hJ (ep hJ fun K a=>?_);revert h;refine bS fun P bj h=>?_;try simp (maxSteps:=9^9) only[*,go_sem]
 refine cc hJ _ (sG m b k 0 bj) fun v bl M bm bo=>?_;obtain ⟨e1,rfl,N⟩:=bo;have br:=N.oc;simp only[bG] at br;replace k:=k.mono M;replace p:=p.mono M;replace m:=m.mono M;simp only[bp] at bm;refine aK ?_;try simp (maxSteps:=9^9) only[*,go_sem]
 refine a.go ?_;clear a K;refine af hJ (ep hJ fun K a=>?_);revert h;refine bS fun o bs h=>?_;try simp (maxSteps:=9^9) only[*,go_sem]
 refine bn hJ _ (GH (m.mono aW) b (k.mono aW) 0 bs) (aK ?_);try simp (maxSteps:=9^9) only[*,go_sem]
 refine ay fun bz e2 Q=>?_;have b0:=aQ.cons Q O;try simp only[au] at Q
 refine ay fun b1 e3 R=>?_;have fa:=aQ.cons R b0;try simp only[au] at R
 try simp (maxSteps:=9^9) only[*,go_sem]
 refine a.go ?_;clear a K;refine af hJ (af hJ (ep hJ fun K a=>?_));revert h;refine cS (fun b2 h=>?_) fun b2 h=>?_
 ·cases h
 revert h;refine cS (fun b3 h=>?_) fun b3 h=>?_
 ·cases h
 revert h;refine cS (fun b4 h=>?_) fun b4 h=>?_
 ·cases h
 revert h;refine cS (fun b5 h=>?_) fun b5 h=>?_
 ·cases h
 revert h;refine cS (fun ca h=>?_) fun ca h=>?_
 ·cases h
 revert h;refine cS (fun cb h=>?_) fun cb h=>?_
 ·cases h
 revert h;refine cS (fun cd h=>?_) fun cd h=>?_
 ·cases h
 revert h;refine cS (fun cf h=>?_) fun cf h=>?_
 ·cases h
 try simp (maxSteps:=9^9) only[*,go_sem]
 revert h;refine cS (fun cl h=>?_) fun cl h=>?_
 ·cases h
 refine a.go ?_;clear a K;refine bI hJ (by simp (maxSteps:=9^9) only[*,go_sem]) ?_;refine aI hJ (af hJ ?_);refine af hJ ?_;refine fP [0,1,2,3,4,5,6,7,8,9,10,11,12,13,14,15,16,17,18,19,20,21,22,23,24,25] fun fb cu cy c0=>?_;simp only[*,go_sem] at cu cy c0;clear U hd V k1 W X Y Z ab ad ae al ao ar a0 a2 a3 a4 a5 a6 a7;refine av hJ fun da=>?_;refine j5 hJ mixed [] (.rd 0 (.rd 1 (.pure 2 (.pure 3 (.pure 4 (.pure 5 (.pure 6 (.pure 7 (.rd 8 (.rd 9 (.pure 10 (.pure 11 (.pure 12 (.rd 13 (.rd 14 (.pure 15 (.pure 16 (.pure 17 (.rd 18 (.rd 19 (.pure 20 (.pure 21 (.pure 22 (.pure 23 (.pure 24 (.pure 25 (.pure 26 (.rd 27 (.rd 28 (.pure 29 (.pure 30 (.pure 31 (.pure 32 (.pure 33 (.pure 34 (.rd 35 (.rd 36 (.pure 37 (.pure 38 (.pure 39 (.pure 40 (.pure 41 (.pure 42 (.pure 43 (.pure 44 (.pure 45 (.pure 46 (.pure 47 (.pure 48 (.one 49 (.one 50 (.pure 51 (.pure 52 (.pure 53 (.rd 54 (.rd 55 (.pure 56 (.pure 57 (.pure 58 (.rd 59 (.rd 60 (.pure 61 (.pure 62 .done))))))))))))))))))))))))))))))))))))))))))))))))))))))))))))))) ⟨bl,[(b1,rt o.2.1.num o.2.1.den),(bz,rt o.1.num o.1.den),(q,rt g.1.num g.1.den),(s,rt f.1.num f.1.den),(t,rt d.1.num d.1.den),(u,rt j.1.num j.1.den),(w,rt c.2.1.num c.2.1.den),(y,rt i.1.num i.1.den),(z,bk n C D E G),(B,bk b H I J L)]⟩ (by simp (maxSteps:=9^9) only[*,go_sem]) (by kernel_rfl) fun K a=>?_;revert h;refine bS fun fg db h=>?_;try simp (maxSteps:=9^9) only[*,go_sem]
 refine ⟨_,bx hJ fun F l=>gW 13 4 db,bZ ?_⟩;revert h;refine cS (fun dd h=>?_) fun dd h=>?_
 ·cases h
 revert h;refine cS (fun df h=>?_) fun df h=>?_
 ·cases h
 revert h;refine bS fun fi dk h=>?_;try simp (maxSteps:=9^9) only[*,go_sem]
 refine ⟨_,bx hJ fun F l=>gW 11 8 dk,bZ ?_⟩;revert h;refine cS (fun dp h=>?_) fun dp h=>?_
 ·cases h
 revert h;refine bS fun fo dq h=>?_;try simp (maxSteps:=9^9) only[*,go_sem]
 refine ⟨_,bx hJ fun F l=>gW 1 4 dq,bZ ?_⟩;revert h;refine cS (fun ds h=>?_) fun ds h=>?_
 ·cases h
 revert h;refine bS fun fp dt h=>?_;try simp (maxSteps:=9^9) only[*,go_sem]
 refine ⟨_,bx hJ fun F l=>gW 24 13 dt,bZ ?_⟩;revert h;refine cS (fun du h=>?_) fun du h=>?_
 ·cases h
 revert h;refine cS (fun dv h=>?_) fun dv h=>?_
 ·cases h
 revert h;refine bS fun fr dC h=>?_;try simp (maxSteps:=9^9) only[*,go_sem]
 refine ⟨_,bx hJ fun F l=>gW 2 13 dC,bZ ?_⟩;revert h;refine cS (fun dE h=>?_) fun dE h=>?_
 ·cases h
 revert h;refine cS (fun dT h=>?_) fun dT h=>?_
 ·cases h
 revert h;refine bS fun fs ea h=>?_;try simp (maxSteps:=9^9) only[*,go_sem]
 refine ⟨_,bx hJ fun F l=>gW 1 1 ea,bZ ?_⟩;revert h;refine cS (fun eb h=>?_) fun eb h=>?_
 ·cases h
 revert h;refine cS (fun ec h=>?_) fun ec h=>?_
 ·cases h
 revert h;refine cS (fun ed h=>?_) fun ed h=>?_
 ·cases h
 revert h;refine bS fun ft eh h=>?_;try simp (maxSteps:=9^9) only[*,go_sem]
 refine ay fun fu et S=>?_;have fv:=aQ.cons S da;try simp only[au] at S
 try simp (maxSteps:=9^9) only[*,go_sem]
 refine bn hJ _ (pW P.1 (N.mono aW) ([10,11,12]) ((aB.flat (r:=rI) (e:=3) (cs:=#[.int .i64 10,.int .i64 11,.int .i64 12]) (fun x=>[.int .i64 x]) ([10,11,12]) (fun _=>rfl) et rfl (by simp)).mono (jX (by simp (maxSteps:=9^9) only[*,go_sem]))) eh) ⟨by simp (maxSteps:=9^9) only[*,go_sem],bZ ?_⟩;revert h;refine cS (fun eu h=>?_) fun eu h=>?_
 ·cases h
 revert h;refine bS fun fw ev h=>?_;try simp (maxSteps:=9^9) only[*,go_sem]
 refine ⟨_,bx hJ fun F l=>gW 1 4 ev,bZ ?_⟩;revert h;refine cS (fun eQ h=>?_) fun eQ h=>?_
 ·cases h
 revert h;refine bS fun fx eS h=>?_;try simp (maxSteps:=9^9) only[*,go_sem]
 refine ⟨_,bx hJ fun F l=>gW 1 1 eS,bZ ?_⟩;try simp (maxSteps:=9^9) only[*,go_sem]
 revert h;refine cS (fun e0 h=>?_) fun e0 h=>?_
 ·cases h
 refine a.go ?_;clear a K;refine bI hJ (by simp (maxSteps:=9^9) only[*,go_sem]) ?_;refine aI hJ ?_;show Wp _ _ _ _ _;exact cB hJ (Le.sub (.cons _ (.cons _ (.cons _ (.cons _ (.cons _ (.cons _ (.cons _ (.cons _ (.cons _ (.cons₂ _ (.cons₂ _ (List.Sublist.refl _))))))))))))) (Kw hJ b n i c j d f g bc P o m N p k (by simp (maxSteps:=9^9) only[*,go_sem]) h)
set_option maxHeartbeats 40000000 in
theorem Ky {ro:Addr->Option Value}(d:dc ro){r:Bool}(I:r=true)(h:lH=some r):fF Tryz.prog 13 #[] ⟨ro,[]⟩ (fun v _=>v= .bool r):=by
 subst I;unfold lH at h;refine fF.go Tryz.func13 rfl Tryz.ntmps13 Tryz.results13 (by simp) fun Φ hJ A J hd hs=>?_;clear hs;refine af hJ (ep hJ fun K a=>?_);try simp (maxSteps:=9^9) only[*,go_sem]
 refine a.go ?_;clear a K;refine af hJ (ep hJ fun K a=>?_);revert h;refine bS fun g L h=>?_;try simp (maxSteps:=9^9) only[*,go_sem]
 refine cc hJ _ (GQ L) fun v n M b5 k=>?_;obtain ⟨N,O,P,Q,rfl,f⟩:=k;have R:=f.oc;simp only[bG] at R;replace d:=d.mono M;refine aK ?_;try simp (maxSteps:=9^9) only[*,go_sem]
 refine ay fun S T U=>?_;try simp only[au] at U
 try simp (maxSteps:=9^9) only[*,go_sem]
 refine a.go ?_;clear a K;refine af hJ ?_;refine av hJ fun V=>?_;refine ep hJ fun K a=>?_;revert h;refine bS fun l W h=>?_;try simp (maxSteps:=9^9) only[*,go_sem]
 refine ay fun i p q=>?_;have s:=aQ.cons q V;try simp only[au] at q
 try simp (maxSteps:=9^9) only[*,go_sem]
 obtain ⟨m,t,u⟩:=fO (b:=i) (o:=(ic 11)) [] ((S,bk g N O P Q)::[]) s p (aE.cons T (aE.nil _));have w:aB rI (bT n i (ic 11)) (.slice (some ⟨i,0,none⟩) 1 1) [11]:=(aB.flat (r:=rI) (e:=3) (cs:=#[.int .i64 11]) (fun x=>[.int .i64 x]) ([11]) (fun _=>rfl) p rfl (by simp))
 generalize bT n i (ic 11)=ca at w t m u;refine gO hJ u ?_;replace f:=f.mono m;replace d:=d.mono m;simp only[bp] at t;have X:=aQ.tl s;refine cc hJ _ (GP g f ([11]) w 2 W) fun v cb y Y k=>?_;obtain ⟨cd,cf,cl,cu,rfl,j⟩:=k;have Z:=j.oc;simp only[bG] at Z;replace f:=f.mono y;replace d:=d.mono y;simp only[bp] at Y;refine aK ?_;try simp (maxSteps:=9^9) only[*,go_sem]
 refine ay fun cy cS z=>?_;have ab:=aQ.cons z X;try simp only[au] at z
 try simp (maxSteps:=9^9) only[*,go_sem]
 refine a.go ?_;clear a K;refine af hJ (ep hJ fun K a=>?_);revert h;refine bS fun ad ae h=>?_;try simp (maxSteps:=9^9) only[*,go_sem]
 refine bn hJ _ (F6 (d.mono aW) g (f.mono aW) 5 ae) (aK ?_);try simp (maxSteps:=9^9) only[*,go_sem]
 refine ay fun c0 da B=>?_;have al:=aQ.cons B ab;try simp only[au] at B
 try simp (maxSteps:=9^9) only[*,go_sem]
 refine a.go ?_;clear a K;refine af hJ ?_;refine pI hJ mixed 7 3 (by simp (maxSteps:=9^9) only[*,go_sem]) (by kernel_rfl) fun K a=>?_;revert h;refine bS fun ao ar h=>?_;try simp (maxSteps:=9^9) only[*,go_sem]
 refine ⟨_,bx hJ fun F c=>n8 2 11 ar,bP ?_⟩;revert h;refine bS fun a0 a2 h=>?_;try simp (maxSteps:=9^9) only[*,go_sem]
 refine ⟨_,bx hJ fun F c=>AA (d.mono (b9 c)) g (f.mono (b9 c)) ao a2,bP ?_⟩;try simp (maxSteps:=9^9) only[*,go_sem]
 refine ay fun db dd C=>?_;have a3:=aQ.cons C al;try simp only[au] at C
 try simp (maxSteps:=9^9) only[*,go_sem]
 refine a.go ?_;clear a K;refine af hJ ?_;refine pI hJ mixed 6 4 (by simp (maxSteps:=9^9) only[*,go_sem]) (by kernel_rfl) fun K a=>?_;revert h;refine bS fun a4 a5 h=>?_;try simp (maxSteps:=9^9) only[*,go_sem]
 refine ⟨_,bx hJ fun F c=>n8 2 10 a5,bP ?_⟩;revert h;refine bS fun a6 a7 h=>?_;try simp (maxSteps:=9^9) only[*,go_sem]
 refine ⟨_,bx hJ fun F c=>F7 (d.mono (b9 c)) g (f.mono (b9 c)) a4 a7,bP ?_⟩;try simp (maxSteps:=9^9) only[*,go_sem]
 refine ay fun df dk D=>?_;have a8:=aQ.cons D a3;try simp only[au] at D
 try simp (maxSteps:=9^9) only[*,go_sem]
 refine a.go ?_;clear a K;refine af hJ ?_;refine fP [0,1,2,3,4,5,6,7,8,9] fun dp a9 ba bb=>?_;simp only[*,go_sem] at a9 ba bb;clear J hd;refine pI hJ mixed 7 5 (by simp (maxSteps:=9^9) only[*,go_sem]) (by kernel_rfl) fun K a=>?_;revert h;refine bS fun bc bd h=>?_;try simp (maxSteps:=9^9) only[*,go_sem]
 refine ⟨_,bx hJ fun F c=>n8 2 12 bd,bP ?_⟩;revert h;refine bS fun bj bl h=>?_;try simp (maxSteps:=9^9) only[*,go_sem]
 refine ⟨_,bx hJ fun F c=>F8 (d.mono (b9 c)) l (j.mono (b9 c)) bc bl,bP ?_⟩;try simp (maxSteps:=9^9) only[*,go_sem]
 refine ay fun dq ds E=>?_;have bm:=aQ.cons E a8;try simp only[au] at E
 try simp (maxSteps:=9^9) only[*,go_sem]
 refine a.go ?_;clear a K;refine af hJ ?_;refine pI hJ mixed 7 6 (by simp (maxSteps:=9^9) only[*,go_sem]) (by kernel_rfl) fun K a=>?_;revert h;refine bS fun bo br h=>?_;try simp (maxSteps:=9^9) only[*,go_sem]
 refine ⟨_,bx hJ fun F c=>n8 2 12 br,bP ?_⟩;revert h;refine bS fun bs bz h=>?_;try simp (maxSteps:=9^9) only[*,go_sem]
 refine ⟨_,bx hJ fun F c=>AB (d.mono (b9 c)) l (j.mono (b9 c)) bo bz,bP ?_⟩;try simp (maxSteps:=9^9) only[*,go_sem]
 refine ay fun dt du G=>?_;have b0:=aQ.cons G bm;try simp only[au] at G
 try simp (maxSteps:=9^9) only[*,go_sem]
 refine a.go ?_;clear a K;refine af hJ ?_;refine pI hJ mixed 7 7 (by simp (maxSteps:=9^9) only[*,go_sem]) (by kernel_rfl) fun K a=>?_;revert h;refine bS fun b1 b2 h=>?_;try simp (maxSteps:=9^9) only[*,go_sem]
 refine ⟨_,bx hJ fun F c=>n8 2 12 b2,bP ?_⟩;revert h;refine bS fun b3 b4 h=>?_;try simp (maxSteps:=9^9) only[*,go_sem]
 refine ⟨_,bx hJ fun F c=>AB (d.mono (b9 c)) g (f.mono (b9 c)) b1 b4,bP ?_⟩;try simp (maxSteps:=9^9) only[*,go_sem]
 refine ay fun dv dC H=>?_;have dE:=aQ.cons H b0;try simp only[au] at H
 try simp (maxSteps:=9^9) only[*,go_sem]
 refine a.go ?_;clear a K;show Wp _ _ _ _ _;exact cB hJ (Le.sub (.cons₂ _ (.cons₂ _ (.cons₂ _ (.cons₂ _ (.cons₂ _ (.cons₂ _ (.cons₂ _ (.cons₂ _ (List.Sublist.refl _)))))))))) (Kx hJ g l ad a0 a6 bj bs b3 d j f (by simp (maxSteps:=9^9) only[*,go_sem]) h)
theorem tG {ro:Addr->Option Value}(a:dc ro){r:Bool}(h:lH=some r):fF Tryz.prog 13 #[] ⟨ro,[]⟩ (fun v _=>v= .bool r):=
 Ky a (Option.some.inj (h.symm.trans qA)) h
end Go.Proofs.YtpgcmoanfifglaaGreatDoor
end
section
namespace Go.Proofs.YtpgcmoanfifglaaGreatDoor
open Go Go.Sep Go.Proofs
def mX (u0:ak)(c:Int)(b:((List Int)×Int))(st:(Bool×(List an)×Int)):Option (Fl (Bool×(List an)×Int) Bool):=
 cond (decide (st.2.2<(b.1.length:Int))) (ag (bh u0.aH c) fun d=>ag (bh b.1 st.2.2) fun e=>ag (kr d.back e) fun f=>ag (nN u0 f) fun a=>cond ((a.2.2 != 0)) (some (.rt false)) (ag (k7 a.2.1) fun g=>cond (!g) (some (.rt false)) (ag (cZ st.2.1 ([a.2.1])) fun h=>some (.nx (st.1,h,(IntKind.i64.wrap (st.2.2+1))))))) (some (.bk (st.1,st.2.1,st.2.2)))
def mY (u0:ak)(a:(List an))(b:Int)(st:(Bool×Int)):Option (Fl (Bool×Int) Bool):=
 cond (decide (st.2<(a.length:Int))) (cond (st.1) (ag (fR (IntKind.i64.wrap (2*u0.aF.num)) u0.aF.den) fun c=>ag (bh a b) fun d=>ag (bh a st.2) fun e=>ag (fc d e) fun f=>ag (gh c f) fun g=>some (.nx ((!g),(IntKind.i64.wrap (st.2+1))))) (some (.nx (false,(IntKind.i64.wrap (st.2+1)))))) (some (.bk (st.1,st.2)))
def jr (u0:ak)(a:(an×an×Bool×Int))(e:(List an))(st:(Bool×Bool×Bool×Bool×Int)):Option (Fl (Bool×Bool×Bool×Bool×Int) Bool):=
 cond (decide (st.2.2.2.2<(e.length:Int))) (ag (aS (mY u0 e st.2.2.2.2) fu (st.2.1,0)) fun o=>aA o (fun b=>cond (a.2.2.1) (ag (k7 a.1) fun h=>cond (!h) (some (.rt false)) (ag (k7 a.2.1) fun i=>cond (!i) (some (.rt false)) (ag (bh e st.2.2.2.2) fun c=>ag (fc c a.1) fun j=>ag (gh u0.aF j) fun k=>cond (k) (some (.rt false)) (ag (fc a.2.1 c) fun l=>ag (gh u0.aF l) fun m=>cond (m) (some (.rt false)) (cond (st.2.2.1) (cond (st.2.2.2.1) (some (.nx (st.1,b.1,true,true,(IntKind.i64.wrap (st.2.2.2.2+1))))) (ag (fc a.2.1 c) fun f=>some (.nx (st.1,b.1,true,((f.num==u0.aF.num)&&(f.den==u0.aF.den)),(IntKind.i64.wrap (st.2.2.2.2+1)))))) (ag (fc c a.1) fun d=>cond (st.2.2.2.1) (some (.nx (st.1,b.1,((d.num==u0.aF.num)&&(d.den==u0.aF.den)),true,(IntKind.i64.wrap (st.2.2.2.2+1))))) (ag (fc a.2.1 c) fun g=>some (.nx (st.1,b.1,((d.num==u0.aF.num)&&(d.den==u0.aF.den)),((g.num==u0.aF.num)&&(g.den==u0.aF.den)),(IntKind.i64.wrap (st.2.2.2.2+1))))))))))) (some (.nx (st.1,b.1,st.2.2.1,st.2.2.2.1,(IntKind.i64.wrap (st.2.2.2.2+1)))))) (fun _ _=>none) (fun r=>some (.rt r))) (some (.bk (st.1,st.2.1,st.2.2.1,st.2.2.2.1,st.2.2.2.2)))
def qB (u0:ak)(a:(an×an×Bool×Int))(c:Bool)(d:(List an)):Option Bool:=
 ag (aS (jr u0 a d) fu (c,true,false,false,0)) fun o=>aA o (fun b=>cond ((a.2.2.1==b.2.1)) (cond (!a.2.2.1) (ag (lH) fun e=>some e) (cond (b.2.2.1) (cond (b.2.2.2.1) (ag (lH) fun f=>some f) (some false)) (some false))) (some false)) (fun _ _=>none) (fun r=>some r)
def mZ (u0:ak)(st:(Bool×(List an)×Int)):Option (Fl (Bool×(List an)×Int) Bool):=
 cond (decide (st.2.2<(u0.aH.length:Int))) (ag (kq u0 st.2.2) fun a=>cond ((a.2 != 0)) (some (.rt false)) (ag (aS (mX u0 st.2.2 a) fu (st.1,st.2.1,0)) fun o=>aA o (fun b=>some (.nx (b.1,b.2.1,(IntKind.i64.wrap (st.2.2+1))))) (fun _ _=>none) (fun r=>some (.rt r)))) (some (.bk (st.1,st.2.1,st.2.2)))
def tH (u0:ak):Option Bool:=
 ag (oa u0) fun c=>cond (!c) (ag (lH) fun d=>some d) (ag (k6 u0) fun a=>cond ((a.2.2.2 != 0)) (cond ((a.2.2.2==9)) (cond (!a.2.2.1) (cond (((a.1.num==0)&&(a.1.den==0))) (cond (((a.2.1.num==0)&&(a.2.1.den==0))) (ag (lH) fun e=>some e) (some false)) (some false)) (some false)) (some false)) (ag (aS (mZ u0) fu (false,([]:List an),0)) fun o=>aA o (fun b=>qB u0 a b.1 b.2.1) (fun _ _=>none) (fun r=>some r)))
end Go.Proofs.YtpgcmoanfifglaaGreatDoor
end
section
namespace Go.Proofs.YtpgcmoanfifglaaGreatDoor
open Go Go.Sep Go.Proofs
set_option maxRecDepth 100000
set_option maxHeartbeats 4000000
set_option maxHeartbeats 40000000 in
theorem Kz {Φ:Goroutine->aa->Prop}(hJ:Closed Tryz.prog true (dR Tryz.prog Φ)){A:Act}{ro:Addr->Option Value}(u0:ak)(a:(an×an×Bool×Int))(M:Bool)(g:(List an)){p q r:Nat}(S:dc ro){T:Value}(z:aB iq ro T g){B C D E:Value}(ft:bL ro u0 B C D E)(ar:sz A=209/\A.defers=[]/\slot A 1= .pointer (some ⟨r,0,none⟩)/\slot A 2= .bool M/\slot A 3= .pointer (some ⟨q,0,none⟩)/\slot A 4= .pointer (some ⟨p,0,none⟩)/\slot A 5= .bool a.2.2.1/\slot A 7=T)(h:qB u0 a M g=some true):Wp (dR Tryz.prog Φ) (bC (bC (bC (bC (bC (bC (Tryz.f6.body.getD .skip))))))) (g9 Tryz.prog [.tmp 2] (fun v _=>v= .bool true)) A ⟨ro,(p,rt a.2.1.num a.2.1.den)::(q,rt a.1.num a.1.den)::(r,bk u0 B C D E)::[]⟩:=by
 obtain ⟨a0,hd,k1,a2,a3,a4,a5,a6⟩:=ar;obtain ⟨d48,N,rfl,fv,fw,-⟩:=id z;unfold qB at h;refine fG hJ fun a7 a8=>?_;have a9:=a7.nd;try simp only[keys,List.map_cons,List.map_nil,List.map_append,List.cons_append,List.nil_append,List.nodup_cons,List.mem_cons,List.mem_append,List.not_mem_nil,or_false,not_or] at a9
 simp only[bp] at a8;refine ah hJ ?_;try simp (maxSteps:=9^9) only[*,go_sem]
 refine af hJ (ah hJ ?_);try simp (maxSteps:=9^9) only[*,go_sem]
 refine aP hJ ?_;revert h;refine bS fun ba G t=>?_;refine bR hJ [2,15,16,17,18,19,101,102,103,104,105,106,107,108,109,110,111,112,113,114,115,116,117,118,119,120,121,122,123,124,125,126,127,128,129,130,131,132,133,134,135,136,137,138,139,140,141,142,143,144,145,146,147,148,149,150,151,152,153,154,155,156,157,158,159,160,161,162,163,164,165,166,167,168,169,170,171,172,173,174,175,176,177,178,179,180,181,182,183,184,185,186,187,188,189,190,191,192] (fun m j F'=>∃(i:Bool) (H:Bool) (u:Bool) (w:Bool) (e:Int),aS (jr u0 a g) m (i,H,u,w,e)=some ba/\F'=⟨ro,(p,rt a.2.1.num a.2.1.den)::(q,rt a.1.num a.1.den)::(r,bk u0 B C D E)::[]⟩/\slot j 2= .bool i/\slot j 15= .bool H/\slot j 16= .bool u/\slot j 17= .bool w/\slot j 18= .int .i64 e) fu ?_ ?_
 ·refine ⟨M,true,false,false,0,G,rfl,?_⟩;try simp (maxSteps:=9^9) only[*,go_sem]
 rintro o k F' l ⟨i,H,u,w,e,G,rfl,bb,bc,bd,bj,bl⟩;have bm:sz k=209:=by rw[l.size];simp (maxSteps:=9^9) only[*,go_sem]
 have bo:k.defers=[]:=by rw[l.defers];simp (maxSteps:=9^9) only[*,go_sem]
 have br:slot k 1= .pointer (some ⟨r,0,none⟩):=by rw[l.c8 1 (by decide)];simp (maxSteps:=9^9) only[*,go_sem]
 have bs:slot k 3= .pointer (some ⟨q,0,none⟩):=by rw[l.c8 3 (by decide)];simp (maxSteps:=9^9) only[*,go_sem]
 have bz:slot k 4= .pointer (some ⟨p,0,none⟩):=by rw[l.c8 4 (by decide)];simp (maxSteps:=9^9) only[*,go_sem]
 have b0:slot k 5= .bool a.2.2.1:=by rw[l.c8 5 (by decide)];simp (maxSteps:=9^9) only[*,go_sem]
 have b1:slot k 7= .slice d48 g.length N:=by rw[l.c8 7 (by decide)];simp (maxSteps:=9^9) only[*,go_sem]
 clear l a0 hd k1 a2 a3 a4 a5 a6;obtain _|o:=o
 ·exact absurd G (by simp only[aS,reduceCtorEq,not_false_eq_true])
 revert G;refine bS fun fx h d=>?_;unfold jr at h;try dsimp only at h
 refine af hJ (ah hJ ?_);try simp (maxSteps:=9^9) only[*,go_sem]
 revert h;refine cS (fun U h=>?_) fun U h=>?_
 ·try simp only[Int.ofNat_lt] at U
  refine bJ hJ (by simp (maxSteps:=9^9) only[*,go_sem]) ?_;refine aI hJ (af hJ ?_);refine aP hJ (af hJ ?_);refine ah hJ ?_;try simp (maxSteps:=9^9) only[*,go_sem]
  refine aP hJ ?_;revert h;refine bS fun b2 I b3=>?_;refine bR hJ [15,19,107,108,109,110,111,112,113,114,115,116,117,118,119,120,121,122,123,124,125,126,127,128,129,130,131,132,133,134] (fun m j F'=>∃(n:Bool) (x:Int),aS (mY u0 g e) m (n,x)=some b2/\F'=⟨ro,(p,rt a.2.1.num a.2.1.den)::(q,rt a.1.num a.1.den)::(r,bk u0 B C D E)::[]⟩/\slot j 15= .bool n/\slot j 19= .int .i64 x) fu ?_ ?_
  ·refine ⟨H,0,I,rfl,?_⟩;try simp (maxSteps:=9^9) only[*,go_sem]
  rintro J c F' b ⟨n,x,I,rfl,gg,gl⟩;have gn:sz c=209:=by rw[b.size];simp (maxSteps:=9^9) only[*,go_sem]
  have gp:c.defers=[]:=by rw[b.defers];simp (maxSteps:=9^9) only[*,go_sem]
  have gB:slot c 1= .pointer (some ⟨r,0,none⟩):=by rw[b.c8 1 (by decide)];simp (maxSteps:=9^9) only[*,go_sem]
  have gC:slot c 2= .bool i:=by rw[b.c8 2 (by decide)];simp (maxSteps:=9^9) only[*,go_sem]
  have gM:slot c 3= .pointer (some ⟨q,0,none⟩):=by rw[b.c8 3 (by decide)];simp (maxSteps:=9^9) only[*,go_sem]
  have gT:slot c 4= .pointer (some ⟨p,0,none⟩):=by rw[b.c8 4 (by decide)];simp (maxSteps:=9^9) only[*,go_sem]
  have gV:slot c 5= .bool a.2.2.1:=by rw[b.c8 5 (by decide)];simp (maxSteps:=9^9) only[*,go_sem]
  have g0:slot c 7= .slice d48 g.length N:=by rw[b.c8 7 (by decide)];simp (maxSteps:=9^9) only[*,go_sem]
  have g1:slot c 16= .bool u:=by rw[b.c8 16 (by decide)];simp (maxSteps:=9^9) only[*,go_sem]
  have g2:slot c 17= .bool w:=by rw[b.c8 17 (by decide)];simp (maxSteps:=9^9) only[*,go_sem]
  have g3:slot c 18= .int .i64 e:=by rw[b.c8 18 (by decide)];simp (maxSteps:=9^9) only[*,go_sem]
  have g4:slot c 101= .int .i64 e:=by rw[b.c8 101 (by decide)];simp (maxSteps:=9^9) only[*,go_sem]
  have ha:slot c 102= .slice d48 g.length N:=by rw[b.c8 102 (by decide)];simp (maxSteps:=9^9) only[*,go_sem]
  have hc:slot c 103= .int .i64 (g.length:Int):=by rw[b.c8 103 (by decide)];simp (maxSteps:=9^9) only[*,go_sem]
  have hf:slot c 104= .bool (decide (e<(g.length:Int))):=by rw[b.c8 104 (by decide)];simp (maxSteps:=9^9) only[*,go_sem]
  have hg:cC [2,15,16,17,18,19,101,102,103,104,105,106,107,108,109,110,111,112,113,114,115,116,117,118,119,120,121,122,123,124,125,126,127,128,129,130,131,132,133,134,135,136,137,138,139,140,141,142,143,144,145,146,147,148,149,150,151,152,153,154,155,156,157,158,159,160,161,162,163,164,165,166,167,168,169,170,171,172,173,174,175,176,177,178,179,180,181,182,183,184,185,186,187,188,189,190,191,192] c k:=(b.fD (by decide)).trans (by simp (maxSteps:=9^9) only[*,go_sem]);clear b bm bo br bs bz b0 b1 bb bc bd bj bl;obtain _|J:=J
  ·exact absurd I (by simp only[aS,reduceCtorEq,not_false_eq_true])
  revert I;refine bS fun hh h K=>?_;unfold mY at h;try dsimp only at h
  refine af hJ (ah hJ ?_);try simp (maxSteps:=9^9) only[*,go_sem]
  revert h;refine cS (fun V h=>?_) fun V h=>?_
  ·(try simp only[Int.ofNat_lt] at V);refine bJ hJ (by simp (maxSteps:=9^9) only[*,go_sem]) ?_;refine aI hJ (af hJ ?_);refine aP hJ ?_;refine cL hJ mixed 23 3 (by simp (maxSteps:=9^9) only[*,go_sem]) (by kernel_rfl) ?_;revert h;refine cS (fun b4 h=>?_) fun b4 h=>?_
   ·revert h;refine bS fun b5 ca h=>?_;(try simp (maxSteps:=9^9) only[*,go_sem]);refine ⟨_,bx hJ fun F f=>sJ (IntKind.i64.wrap (2*u0.aF.num)) u0.aF.den ca,bP ?_⟩;revert h;refine bS fun W cb h=>?_;obtain ⟨hi,hj,X⟩:=cK cb;obtain ⟨hk,cd,cf,cl,O⟩:=z.el _ _ X;obtain rfl:cd=W.cells:=cl;cases cf;have cu:=O 0 _ rfl;simp only[go_sem] at cu;have cy:=O 1 _ rfl;simp only[go_sem] at cy;clear O X;revert h;refine bS fun Y c0 h=>?_;obtain ⟨hl,hn,Z⟩:=cK c0;obtain ⟨ho,da,db,dd,P⟩:=z.el _ _ Z;obtain rfl:da=Y.cells:=dd;cases db;have df:=P 0 _ rfl;simp only[go_sem] at df;have dk:=P 1 _ rfl;simp only[go_sem] at dk;clear P Z;revert h;refine bS fun dp dq h=>?_;(try simp (maxSteps:=9^9) only[*,go_sem]);refine ⟨_,bx hJ fun F f=>n7 W Y dq,bP ?_⟩;revert h;refine bS fun ds dt h=>?_;obtain rfl:=sI h;(try simp (maxSteps:=9^9) only[*,go_sem]);refine ⟨_,bx hJ fun F f=>wO b5 dp dt,bP ?_⟩;(try simp (maxSteps:=9^9) only[*,go_sem]);refine aj hJ ?_;(try simp (maxSteps:=9^9) only[*,go_sem]);(try simp (maxSteps:=9^9) only[*,go_sem]);refine ⟨J,Nat.lt_succ_self _,_,Le.sub (List.Sublist.refl _),(!ds),(IntKind.i64.wrap (x+1)),K,rfl,?_⟩;try simp (maxSteps:=9^9) only[*,go_sem]
   obtain rfl:=sI h;(try simp (maxSteps:=9^9) only[*,go_sem]);refine aj hJ ?_;(try simp (maxSteps:=9^9) only[*,go_sem]);(try simp (maxSteps:=9^9) only[*,go_sem]);refine ⟨J,Nat.lt_succ_self _,_,Le.sub (List.Sublist.refl _),false,(IntKind.i64.wrap (x+1)),K,rfl,?_⟩;try simp (maxSteps:=9^9) only[*,go_sem]
  obtain rfl:=sI h;refine bI hJ (by simp (maxSteps:=9^9) only[*,go_sem]) ?_;refine bN ?_;try simp only[go_sem]
  obtain rfl:=sI K;clear K;have h:=b3;dsimp only[aA] at h;refine af hJ (af hJ ?_);refine cL hJ mixed 33 3 (by simp (maxSteps:=9^9) only[*,go_sem]) (by kernel_rfl) ?_;revert h;refine cS (fun du h=>?_) fun du h=>?_
  ·revert h;refine bS fun hp dv h=>?_;(try simp (maxSteps:=9^9) only[*,go_sem]);refine ⟨_,bx hJ fun F f=>wW a.1 dv,bP ?_⟩;revert h;refine cS (fun ab h=>?_) fun ab h=>?_
   ·obtain rfl:=sI h;(try simp (maxSteps:=9^9) only[*,go_sem]);refine bJ hJ (by simp (maxSteps:=9^9) only[*,go_sem]) ?_;refine ah hJ ?_;(try simp (maxSteps:=9^9) only[*,go_sem]);obtain rfl:=sI d;clear d;have h:=t;dsimp only[aA] at h;cases h
   rw[Bool.not_eq_false'] at ab;revert h;refine bS fun hq dC h=>?_;(try simp (maxSteps:=9^9) only[*,go_sem]);refine ⟨_,bx hJ fun F f=>wW a.2.1 dC,bP ?_⟩;revert h;refine cS (fun ad h=>?_) fun ad h=>?_
   ·obtain rfl:=sI h;(try simp (maxSteps:=9^9) only[*,go_sem]);refine bJ hJ (by simp (maxSteps:=9^9) only[*,go_sem]) ?_;refine ah hJ ?_;(try simp (maxSteps:=9^9) only[*,go_sem]);obtain rfl:=sI d;clear d;have h:=t;dsimp only[aA] at h;cases h
   rw[Bool.not_eq_false'] at ad;revert h;refine bS fun s dE h=>?_;obtain ⟨hr,hs,ae⟩:=cK dE;obtain ⟨ht,dT,ea,eb,Q⟩:=z.el _ _ ae;obtain rfl:dT=s.cells:=eb;cases ea;have ec:=Q 0 _ rfl;simp only[go_sem] at ec;have ed:=Q 1 _ rfl;simp only[go_sem] at ed;clear Q ae;revert h;refine bS fun eh et h=>?_;(try simp (maxSteps:=9^9) only[*,go_sem]);refine ⟨_,bx hJ fun F f=>n7 s a.1 et,bP ?_⟩;revert h;refine bS fun hv eu h=>?_;(try simp (maxSteps:=9^9) only[*,go_sem]);refine ⟨_,bx hJ fun F f=>wO u0.aF eh eu,bP ?_⟩;revert h;refine cS (fun ev h=>?_) fun ev h=>?_
   ·obtain rfl:=sI h;(try simp (maxSteps:=9^9) only[*,go_sem]);refine bJ hJ (by simp (maxSteps:=9^9) only[*,go_sem]) ?_;refine ah hJ ?_;(try simp (maxSteps:=9^9) only[*,go_sem]);obtain rfl:=sI d;clear d;have h:=t;dsimp only[aA] at h;cases h
   revert h;refine bS fun eQ eS h=>?_;(try simp (maxSteps:=9^9) only[*,go_sem]);refine ⟨_,bx hJ fun F f=>n7 a.2.1 s eS,bP ?_⟩;revert h;refine bS fun hx e0 h=>?_;(try simp (maxSteps:=9^9) only[*,go_sem]);refine ⟨_,bx hJ fun F f=>wO u0.aF eQ e0,bP ?_⟩;(try simp (maxSteps:=9^9) only[*,go_sem]);revert h;refine cS (fun e1 h=>?_) fun e1 h=>?_
   ·obtain rfl:=sI h;refine bJ hJ (by simp (maxSteps:=9^9) only[*,go_sem]) ?_;refine ah hJ ?_;(try simp (maxSteps:=9^9) only[*,go_sem]);obtain rfl:=sI d;clear d;have h:=t;dsimp only[aA] at h;cases h
   refine bI hJ (by simp (maxSteps:=9^9) only[*,go_sem]) ?_;refine aI hJ (af hJ ?_);refine aj hJ ?_;(try simp (maxSteps:=9^9) only[*,go_sem]);refine bJ hJ (by simp (maxSteps:=9^9) only[*,go_sem]) ?_;refine cL hJ mixed 26 3 (by simp (maxSteps:=9^9) only[*,go_sem]) (by kernel_rfl) ?_;revert h;refine cS (fun e2 h=>?_) fun e2 h=>?_
   ·revert h;refine cS (fun e3 h=>?_) fun e3 h=>?_
    ·obtain rfl:=sI h;(try simp (maxSteps:=9^9) only[*,go_sem]);refine aj hJ ?_;(try simp (maxSteps:=9^9) only[*,go_sem]);(try simp (maxSteps:=9^9) only[*,go_sem]);refine ⟨o,Nat.lt_succ_self _,_,Le.sub (List.Sublist.refl _),i,n,true,true,(IntKind.i64.wrap (e+1)),d,rfl,?_⟩;try simp (maxSteps:=9^9) only[*,go_sem]
    revert h;refine bS fun al fa h=>?_;obtain rfl:=sI h;(try simp (maxSteps:=9^9) only[*,go_sem]);refine ⟨_,bx hJ fun F f=>n7 a.2.1 s fa,bP ?_⟩;(try simp (maxSteps:=9^9) only[*,go_sem]);refine aj hJ ?_;(try simp (maxSteps:=9^9) only[*,go_sem]);(try simp (maxSteps:=9^9) only[*,go_sem]);refine ⟨o,Nat.lt_succ_self _,_,Le.sub (List.Sublist.refl _),i,n,true,((al.num==u0.aF.num)&&(al.den==u0.aF.den)),(IntKind.i64.wrap (e+1)),d,rfl,?_⟩;try simp (maxSteps:=9^9) only[*,go_sem]
   revert h;refine bS fun L fb h=>?_;(try simp (maxSteps:=9^9) only[*,go_sem]);refine ⟨_,bx hJ fun F f=>n7 s a.1 fb,bP ?_⟩;revert h;refine cS (fun fg h=>?_) fun fg h=>?_
   ·obtain rfl:=sI h;(try simp (maxSteps:=9^9) only[*,go_sem]);refine aj hJ ?_;(try simp (maxSteps:=9^9) only[*,go_sem]);(try simp (maxSteps:=9^9) only[*,go_sem]);refine ⟨o,Nat.lt_succ_self _,_,Le.sub (List.Sublist.refl _),i,n,((L.num==u0.aF.num)&&(L.den==u0.aF.den)),true,(IntKind.i64.wrap (e+1)),d,rfl,?_⟩;try simp (maxSteps:=9^9) only[*,go_sem]
   revert h;refine bS fun ao fi h=>?_;obtain rfl:=sI h;(try simp (maxSteps:=9^9) only[*,go_sem]);refine ⟨_,bx hJ fun F f=>n7 a.2.1 s fi,bP ?_⟩;(try simp (maxSteps:=9^9) only[*,go_sem]);refine aj hJ ?_;(try simp (maxSteps:=9^9) only[*,go_sem]);(try simp (maxSteps:=9^9) only[*,go_sem]);refine ⟨o,Nat.lt_succ_self _,_,Le.sub (List.Sublist.refl _),i,n,((L.num==u0.aF.num)&&(L.den==u0.aF.den)),((ao.num==u0.aF.num)&&(ao.den==u0.aF.den)),(IntKind.i64.wrap (e+1)),d,rfl,?_⟩;try simp (maxSteps:=9^9) only[*,go_sem]
  obtain rfl:=sI h;try simp (maxSteps:=9^9) only[*,go_sem]
  refine bI hJ (by simp (maxSteps:=9^9) only[*,go_sem]) ?_;refine aI hJ (af hJ ?_);refine aj hJ ?_;try simp (maxSteps:=9^9) only[*,go_sem]
  refine bI hJ (by simp (maxSteps:=9^9) only[*,go_sem]) ?_;refine aI hJ (aj hJ ?_);try simp (maxSteps:=9^9) only[*,go_sem]
  try simp (maxSteps:=9^9) only[*,go_sem]
  refine ⟨o,Nat.lt_succ_self _,_,Le.sub (List.Sublist.refl _),i,n,u,w,(IntKind.i64.wrap (e+1)),d,rfl,?_⟩;try simp (maxSteps:=9^9) only[*,go_sem]
 obtain rfl:=sI h;refine bI hJ (by simp (maxSteps:=9^9) only[*,go_sem]) ?_;refine bN ?_;try simp only[go_sem]
 obtain rfl:=sI d;clear d;have h:=t;dsimp only[aA] at h;refine ah hJ ?_;revert h;refine cS (fun R h=>?_) fun R h=>?_
 ·revert h;refine cS (fun y h=>?_) fun y h=>?_
  ·rw[Bool.not_eq_true'] at y;(try rw[y] at R);revert h;refine bS fun hy fo h=>?_;obtain rfl:=sI h;(try simp (maxSteps:=9^9) only[*,go_sem]);refine q2 _ (tG S fo) (aK ?_);(try simp (maxSteps:=9^9) only[*,go_sem]);refine az ?_;try simp only[*,go_sem]
  rw[Bool.not_eq_false'] at y;try rw[y] at R
  revert h;refine cS (fun fp h=>?_) fun fp h=>?_
  ·revert h;refine cS (fun fr h=>?_) fun fr h=>?_
   ·revert h;refine bS fun hz fs h=>?_;obtain rfl:=sI h;(try simp (maxSteps:=9^9) only[*,go_sem]);refine q2 _ (tG S fs) (aK ?_);(try simp (maxSteps:=9^9) only[*,go_sem]);refine az ?_;try simp only[*,go_sem]
   cases h
  cases h
 cases h
theorem KA {ro:Addr->Option Value}(c:dc ro)(u0:ak){s1 i ad j:Value}(b:bL ro u0 s1 i ad j){r:Bool}(bz:r=true)(h:tH u0=some r):l6 Tryz.prog 6 #[bv u0 s1 i ad j] ⟨ro,[]⟩ (fun v _=>v= .bool r):=by
 obtain ⟨d17,p,rfl,gV,g0,-⟩:=id b.y;subst bz;unfold tH at h;refine l6.go Tryz.func6 rfl Tryz.ntmps6 Tryz.results6 (by simp) (by kernel_rfl) fun Φ hJ A b0 hd hs=>?_;have b1:=hs 0;clear hs;refine ah hJ ?_;simp only[*,go_sem];refine ay fun q Q b2=>?_;try simp only[au] at b2
 try simp only[*,go_sem]
 refine af hJ (ah hJ ?_);revert h;refine bS fun g1 b3 h=>?_;simp only[*,go_sem];refine bn hJ _ (GY u0 (b.mono aW) b3) (aK ?_);try simp only[*,go_sem]
 revert h;refine jC hJ (by simp only[*,go_sem]) (fun R h=>?_) fun R h=>?_
 ·rw[Bool.not_eq_true'] at R;refine ah hJ ?_;revert h;refine bS fun g2 b4 h=>?_;obtain rfl:=sI h;simp only[*,go_sem];refine q2 _ (tG c b4) (aK ?_);try simp only[*,go_sem]
  refine az ?_;simp only[*,go_sem]
 rw[Bool.not_eq_false'] at R;refine aI hJ (af hJ ?_);refine aj hJ ?_;revert h;refine bS fun a b5 h=>?_;simp only[*,go_sem];refine bn hJ _ (AP (c.mono aW) u0 (b.mono aW) b5) (aK ?_);try simp only[*,go_sem]
 refine ay fun s S ca=>?_;try simp only[au] at ca
 refine ay fun t T cb=>?_;try simp only[au] at cb
 try simp only[*,go_sem]
 refine af hJ (ah hJ ?_);simp only[*,go_sem];revert h;refine jC hJ (by simp only[*,go_sem]) (fun cd h=>?_) fun cd h=>?_
 ·refine ah hJ ?_;revert h;refine cS (fun cf h=>?_) fun cf h=>?_
  ·revert h;refine cS (fun ae h=>?_) fun ae h=>?_
   ·rw[Bool.not_eq_true'] at ae;revert h;refine cS (fun cl h=>?_) fun cl h=>?_
    ·revert h;refine cS (fun cu h=>?_) fun cu h=>?_
     ·revert h;refine bS fun g3 cy h=>?_;obtain rfl:=sI h;(try simp only[*,go_sem]);refine q2 _ (tG c cy) (aK ?_);(try simp only[*,go_sem]);refine az ?_;simp only[*,go_sem]
     cases h
    cases h
   cases h
  cases h
 refine aI hJ (af hJ ?_);refine aj hJ ?_;simp only[*,go_sem];refine af hJ (ah hJ ?_);simp only[*,go_sem];refine aP hJ ?_;revert h;refine bS fun c0 D E=>?_;refine bR hJ [2,7,8,9,10,11,12,13,14,52,53,54,55,56,57,58,59,60,61,62,63,64,65,66,67,68,69,70,71,72,73,74,75,76,77,78,79,80,81,82,83,84,85,86,87,88,89,90,91,92,93,94,95,96,97,98,99,100] (fun m k F'=>∃(G:Addr->Option Value) (d48:Option Addr) (u:Nat) (H:List (Nat×Obj)) (w:Bool) (f:(List an)) (o:Int),aS (mZ u0) m (w,f,o)=some c0/\F'=⟨G,(t,rt a.2.1.num a.2.1.den)::(s,rt a.1.num a.1.den)::(q,bk u0 s1 i (sl d17 u0.aH p) j)::H⟩/\Ext ro G/\aO iq G 23 (.slice d48 f.length u) f H/\f.length<=u/\slot k 2= .bool w/\slot k 7= .slice d48 f.length u/\slot k 8= .int .i64 o) fu ?_ ?_
 ·refine ⟨ro,none,0,[],false,([]:List an),0,D,rfl,Ext.refl _,aO.nil _ _ _,Nat.le_refl _,?_⟩;simp only[*,go_sem]
 rintro U da F' al ⟨G,d48,u,H,w,f,o,D,rfl,V,I,db,dd,df,dk⟩;refine fG hJ fun _ J=>?_;replace b:=b.mono V;replace T:=J.hd;replace S:=J.tl.hd;replace Q:=J.tl.tl.hd;replace c:=c.mono V;simp only[bp] at J;obtain ⟨ao,ar,a0⟩:=al.pick [1,3,4,5] (by decide);simp only[*,go_sem] at ao ar a0;clear al b0 hd b1;obtain _|U:=U
 ·exact absurd D (by simp only[aS,reduceCtorEq,not_false_eq_true])
 revert D;refine bS fun g4 h e=>?_;unfold mZ at h;try dsimp only at h
 refine af hJ (af hJ ?_);refine av hJ fun ha=>?_;refine aj hJ ?_;simp only[*,go_sem];revert h;refine jC hJ (by simp only[*,go_sem]) (fun dp h=>?_) fun dp h=>?_
 ·refine aI hJ (af hJ ?_);refine aP hJ (af hJ ?_);refine av hJ fun hc=>?_;refine aj hJ ?_;revert h;refine bS fun dq ds h=>?_;simp only[*,go_sem];refine cc hJ _ (sG c u0 b o ds) fun v K L z dt=>?_;obtain ⟨hf,rfl,a2⟩:=dt;replace b:=b.mono L;replace T:=z.hd;replace S:=z.tl.hd;replace Q:=z.tl.tl.hd;replace I:=I.mono L z.tl.tl.tl;replace c:=c.mono L;simp only[bp] at z;obtain ⟨d73,hg,rfl,hh,hi,-⟩:=id a2;refine aK ?_;try simp only[*,go_sem]
  refine af hJ (af hJ ?_);refine av hJ fun hj=>?_;refine aj hJ ?_;simp only[*,go_sem];revert h;refine jC hJ (by simp only[*,go_sem]) (fun du h=>?_) fun du h=>?_
  ·obtain rfl:=sI h;refine af hJ ?_;refine av hJ fun hk=>?_;refine aj hJ ?_;simp only[*,go_sem];obtain rfl:=sI e;clear e;have h:=E;dsimp only[aA] at h;cases h
  refine aI hJ (af hJ ?_);refine av hJ fun hl=>?_;refine aj hJ ?_;simp only[*,go_sem];refine aP hJ ?_;revert h;refine bS fun dv M W=>?_;refine bR hJ [2,7,11,12,13,14,67,68,69,70,71,72,73,74,75,76,77,78,79,80,81,82,83,84,85,86,87,88,89,90,91,92,93,94,95,96,97,98,99,100] (fun m k F'=>∃(d84:Option Addr) (B:Nat) (N:List (Nat×Obj)) (C:Bool) (g:(List an)) (O:Int),aS (mX u0 o dq) m (C,g,O)=some dv/\F'=⟨K,(t,rt a.2.1.num a.2.1.den)::(s,rt a.1.num a.1.den)::(q,bk u0 s1 i (sl d17 u0.aH p) j)::N⟩/\aO iq K 23 (.slice d84 g.length B) g N/\g.length<=B/\slot k 2= .bool C/\slot k 7= .slice d84 g.length B/\slot k 11= .int .i64 O) fu ?_ ?_
  ·refine ⟨d48,u,H,w,f,0,M,rfl,I,db,?_⟩;simp only[*,go_sem]
  rintro X dC F' Y ⟨d84,B,N,C,g,O,M,rfl,a3,dE,hn,ho,hp⟩;obtain ⟨dT,ea,eb⟩:=Y.pick [1,3,4,5,8,9,10,52,53,54,55,56,59,60,61,62,63,64,65,66] (by decide);simp only[*,go_sem] at dT ea eb;have hq:cC [2,7,8,9,10,11,12,13,14,52,53,54,55,56,57,58,59,60,61,62,63,64,65,66,67,68,69,70,71,72,73,74,75,76,77,78,79,80,81,82,83,84,85,86,87,88,89,90,91,92,93,94,95,96,97,98,99,100] dC da:=(Y.fD (by decide)).trans (by simp only[*,go_sem]);clear Y ao ar a0 dd df dk;obtain _|X:=X
  ·exact absurd M (by simp only[aS,reduceCtorEq,not_false_eq_true])
  revert M;refine bS fun hr h n=>?_;unfold mX at h;try dsimp only at h
  refine af hJ (af hJ ?_);refine av hJ fun ht=>?_;refine aj hJ ?_;simp only[*,go_sem];revert h;refine jC hJ (by simp only[*,go_sem]) (fun ec h=>?_) fun ec h=>?_
  ·refine aI hJ (af hJ ?_);refine aP hJ (af hJ ?_);refine av hJ fun ed=>?_;refine cL hJ mixed 17 3 (by simp only[*,go_sem]) (by kernel_rfl) ?_;revert h;refine bS fun a4 eh h=>?_;obtain ⟨hv,hx,a5⟩:=cK eh;obtain ⟨a6,et,eu,ev,P⟩:=b.y.el _ _ a5;obtain rfl:et=a4.cells:=ev;cases eu;have eQ:=P 0 _ rfl;simp only[go_sem] at eQ;have eS:=P 1 _ rfl;simp only[go_sem] at eS;have e0:=P 2 _ rfl;simp only[go_sem] at e0;clear P a5;revert h;refine bS fun a7 e1 h=>?_;obtain ⟨hy,hz,a8⟩:=cK e1;obtain ⟨hA,e3,fa,fb,a9⟩:=a2.el _ _ a8;obtain rfl:e3=[.int .i64 a7]:=fb;cases fa;have fg:=a9 0 _ rfl;simp only[go_sem] at fg;clear a9 a8;revert h;refine bS fun fi fo h=>?_;(try simp only[*,go_sem]);refine ⟨_,bx hJ fun F Z=>n8 a4.back a7 fo,bP ?_⟩;revert h;refine bS fun d fp h=>?_;(try simp only[*,go_sem]);refine ⟨_,bx hJ fun F Z=>AA (c.mono (b9 Z)) u0 (b.mono (b9 Z)) fi fp,bP ?_⟩;(try simp only[*,go_sem]);refine ay fun ba hB bb=>?_;have hD:=aQ.cons bb ed;try simp only[au] at bb
   (try simp only[*,go_sem]);refine af hJ (af hJ ?_);refine av hJ fun hE=>?_;refine aj hJ ?_;revert h;refine cS (fun fr h=>?_) fun fr h=>?_
   ·obtain rfl:=sI h;(try simp only[*,go_sem]);refine bJ hJ (by simp only[*,go_sem]) ?_;refine af hJ ?_;refine av hJ fun hF=>?_;refine aj hJ ?_;simp only[*,go_sem];obtain rfl:=sI n;clear n;have h:=W;dsimp only[aA] at h;obtain rfl:=sI h;obtain rfl:=sI e;clear e;have h:=E;dsimp only[aA] at h;cases h
   revert h;refine bS fun hG fs h=>?_;(try simp only[*,go_sem]);refine bn hJ _ (wW d.2.1 fs) (aK ?_);(try simp only[*,go_sem]);revert h;refine jC hJ (by simp only[*,go_sem]) (fun bc h=>?_) fun bc h=>?_
   ·obtain rfl:=sI h;refine af hJ ?_;refine av hJ fun hI=>?_;refine aj hJ ?_;simp only[*,go_sem];obtain rfl:=sI n;clear n;have h:=W;dsimp only[aA] at h;obtain rfl:=sI h;obtain rfl:=sI e;clear e;have h:=E;dsimp only[aA] at h;cases h
   rw[Bool.not_eq_false'] at bc;refine aI hJ ?_;refine av hJ fun ft=>?_;refine aj hJ ?_;revert h;refine bS fun fv fw h=>?_;obtain rfl:=sI h;obtain ⟨fx,bd⟩:=dw fw;simp only[*,go_sem];refine ay fun bj gg bl=>?_;have gl:=aQ.cons bl ft;try simp only[au] at bl
   (try simp only[*,go_sem]);refine dW (r:=iq) (l:=g) (x:=d.2.1) (cs:=#[.int .i64 d.2.1.num,.int .i64 d.2.1.den]) (e2:=23) [(bj,rt d.2.1.num d.2.1.den),(ba,rt d.2.1.num d.2.1.den),(t,rt a.2.1.num a.2.1.den),(s,rt a.1.num a.1.den),(q,bk u0 s1 i (sl (some a6) u0.aH p) j)] [] a3 gl fx rfl (by simp only[*,go_sem]) gg rfl rfl q6 q6 zI uU rfl zJ (by decide) (by decide) (fun hK bm ab gn gp hL=>?_);simp only[aT] at gp;subst gn;rw[<-bd] at ab;clear bd;obtain ⟨d126,gB,rfl,gC⟩:=ab.len;refine ⟨⟨K,(bj,rt d.2.1.num d.2.1.den)::(ba,rt d.2.1.num d.2.1.den)::(t,rt a.2.1.num a.2.1.den)::(s,rt a.1.num a.1.den)::(q,bk u0 s1 i (sl (some a6) u0.aH p) j)::bm⟩,Le.refl _,?_⟩;refine aK ?_;(try simp only[*,go_sem]);refine av hJ fun hM=>?_;refine aj hJ ?_;simp only[*,go_sem];refine ⟨X,Nat.lt_succ_self _,_,Le.sub (List.Sublist.cons _ (List.Sublist.cons _ (List.Sublist.refl _))),d126,gB,bm,C,fv,(IntKind.i64.wrap (O+1)),n,rfl,ab,gC,?_⟩;simp only[*,go_sem]
  obtain rfl:=sI h;refine bN ?_;simp only[go_sem];obtain rfl:=sI n;clear n;have h:=W;dsimp only[aA] at h;obtain rfl:=sI h;refine av hJ fun hN=>?_;refine aj hJ ?_;simp only[*,go_sem];refine ⟨U,Nat.lt_succ_self _,_,Le.sub (List.Sublist.refl _),K,d84,B,N,C,g,(IntKind.i64.wrap (o+1)),e,rfl,(V.trans L),a3,dE,?_⟩;simp only[*,go_sem]
 obtain rfl:=sI h;refine bN ?_;simp only[go_sem];obtain rfl:=sI e;clear e;have h:=E;dsimp only[aA] at h;refine av hJ fun bo=>?_;obtain ⟨hP,br,gM,bs,gT⟩:=I.eR [(t,rt a.2.1.num a.2.1.den),(s,rt a.1.num a.1.den),(q,bk u0 s1 i (sl d17 u0.aH p) j)] [] bo (aE.cons T (aE.cons S (aE.cons Q (aE.nil _))));clear bo;refine cB hJ gT ?_;obtain ⟨hQ,hR,-⟩:=bs.op;replace b:=b.mono br;replace c:=c.mono br;simp only[bp] at gM;show Wp _ _ _ _ _;exact cB hJ (Le.sub (.cons₂ _ (.cons₂ _ (.cons₂ _ (List.Sublist.refl _))))) (Kz hJ u0 a w f c bs b (by simp (maxSteps:=9^9) only[*,go_sem]) h)
theorem KB {u:ak}(h:mD u=some false):xE u:=by
 unfold mD at h;rcases iV h with ⟨a,h⟩|⟨a,h⟩
 ·cases h
 rcases iV h with ⟨b,h⟩|⟨b,h⟩
 ·cases h
 rcases iV h with ⟨c,h⟩|⟨c,h⟩
 ·cases h
 have d:=Option.some.inj h;simp only[decide_eq_false_iff_not] at a b c d;exact ⟨by omega,by omega,by omega,by omega⟩
theorem KC (u:ak):∃b,mD u=some b:=by
 unfold mD;cases decide (20<(u.aD.length:Int))<;>cases decide (20<(u.props.length:Int))<;>cases decide (20<(u.aH.length:Int))<;>exact ⟨_,rfl⟩
theorem KD (u:ak):oa u=some false\/(oa u=some true/\xE u/\e8 u=some 0/\Fit u):=by
 unfold oa;obtain ⟨b,hb⟩:=KC u;rw[hb];cases b with
 |true=>exact .inl rfl
 |false=>
  have L:=KB hb;obtain ⟨c,a,d⟩:=bars L;simp only[ag,Bool.not_false,cond_true,d];cases f:(c==0) with
  |false=>exact .inl rfl
  |true=>
   have e:c=0:=by simpa using f
   subst e;exact .inr ⟨rfl,L,a,G9 u L.e a⟩
theorem yB {x:an}(hs:Sm x 1000000000 1048575)(hl:∃n d,0<d/\x=bw n d):k7 x=some true:=by
 obtain ⟨n,d,hd,e⟩:=hl;have b:=hs.num;have a:=hs.den;have k:fR x.num x.den=some x:=by
  have:=mI x.num x.den.toNat (by omega) (by omega) (by omega);rw[show ((x.den.toNat:Nat):Int)=x.den by omega] at this;rw[this,e,xB n d hd]
 unfold k7;rw[decide_eq_true a.1,decide_eq_true (show x.den<1048576 by omega),eU,mO (by omega) (by omega),k];simp only[cond_true,ag,beq_self_eq_true,Bool.and_self]
theorem oH {a b:an}{A B C D:Nat}(c:Sm a A B)(hb:Sm b C D):Sm (bO a b) (A*D+C*B) (B*D)/\∃n d,0<d/\bO a b=bw n d:=by
 have e:=dN c.num (show b.den.natAbs<=D by have:=hb.den;omega);have f:=dN hb.num (show a.den.natAbs<=B by have:=c.den;omega);have g:=dN (show a.den.natAbs<=B by have:=c.den;omega) (show b.den.natAbs<=D by have:=hb.den;omega);have h:0<a.den*b.den:=Int.mul_pos c.den.1 hb.den.1;have:=jf (a.num*b.den - b.num*a.den) (a.den*b.den).toNat (by omega);refine ⟨?_,_,_,by omega,rfl⟩;unfold bO;exact ⟨Nat.le_trans this.num (by omega),this.den.1,by have:=this.den.2;omega⟩
section
variable {u : ak} {s : aY} (F : Fit u) (hs : (1 ≤ s.back ∧ s.back ≤ 20) ∧ 0 ≤ s.high ∧ s.high ≤ 60)
include F hs
theorem tJ:Sm (c6 u s).2 10000 100/\∃n d,0<d/\(c6 u s).2=bw n d:=by
 obtain ⟨n,p,e,a,-⟩:=HC F hs;have b:=F.mK n p a;rw[e];exact ⟨Bf u F s hs n p a,_,_,by omega,rfl⟩
theorem KE:k7 (c6 u s).2=some true:=by
 obtain ⟨a,b⟩:=tJ F hs;exact yB (a.mono (by decide) (by decide)) b
end
abbrev Lw (x:an):Prop:=∃n d,0<d/\x=bw n d
theorem Lw.more {a b:an}(c:Lw a)(hb:Lw b):Lw (cG a b):=by
 unfold cG;cases bA a b;exact c;exact hb
section
variable {u : ak} {s : aY} (F : Fit u) (hs : (1 ≤ s.back ∧ s.back ≤ 20) ∧ 0 ≤ s.high ∧ s.high ≤ 60)
include F hs
theorem C8:Sm u.aF 20 20:=⟨by have:=F.num;omega,by have:=F.den;omega,by have:=F.den;omega⟩
end
def gG (a b:an):an:=cond (bA b a) b a
section
variable {u : ak} (F : Fit u) (h : e8 u = some 0) {i : Nat} {e : b6} (he : u.aH[i]? = some e)
include F h he
theorem KF:e9 u [eK (i:Int)]=some (u,0):=by
 have hi:i<u.aH.length:=(List.getElem?_eq_some_iff.1 he).1;rw[Bb h (HO u i),(HP F).2 ⟨by omega,by omega⟩];rfl
theorem yC:kq u (i:Int)=some (if (bQ u).isEmpty then ([],9) else (de u i e,0)):=by
 unfold kq;rw[s4 F (KF F h he)];cases hs:(bQ u).isEmpty with
 |true=>rfl
 |false=>
  simp only[ag,Bool.false_eq_true,if_false,bne_self_eq_false,cond_false];rw[B7 F (by intro c;rw[c] at hs;cases hs) he]
omit h in
theorem yD {n:Int}(a:n∈de u i e):(1<=e.back/\e.back<=20)/\0<=n/\n<=60:=by
 obtain ⟨c1,c2,c3,c4,b⟩:=F.aX _ _ he;have:=BD.1 (List.mem_filter.1 a).1;exact ⟨c1,by omega,by omega⟩
end
end Go.Proofs.YtpgcmoanfifglaaGreatDoor
end
